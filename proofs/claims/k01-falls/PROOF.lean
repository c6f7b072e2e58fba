import PyProof.Rows.All
import Wide.All
import OpenK.AllK
import Wide.FinOn
import HandS.ForMost
import HandS.ForExc
import HandS.TryMany
import HandS.Lambda
import HandS.Walk
import HandS.DictTup
import HandS.AnyAll
import HandS.TupAny
import HandS.Deep
import KE.DataEq
import KE.DataCmp
import KE.DataFind
import KE.DataMinMax
import KE.DataAny
import HandS.Rev
import HandS.Zip
import HandS.Comp
import HandS.WordsExc
import KE.KTupSum
import HandS.Conv
import HandS.HeadWalk
import HandS.HeadHook4
import HandS.Head2
import KE.KStateDown
import PySem.Challenge.RW_snowhall_k01_falls
section
set_option Elab.async false
set_option linter.all false
set_option maxRecDepth 100000
set_option maxHeartbeats 4000000
namespace S3
open PySem PySem.Spec PyProof.Rows L2

/-- a value as a tree: what never changes stands in it, what may change is a number -/
inductive AV where
  | non | bl (b : Bool) | int (i : Int) | str (x : Str)
  | tup (xs : List AV) | lst (xs : List AV) | rdl (xs : List AV) | rdt (xs : List AV)
  | dK (kvs : List (Key × AV)) | dT (kvs : List (List Key × AV))
  | ins (c : Str) (fs : List (Str × AV))
  | ref (n : Nat)

/-- what may change -/
inductive AO where
  | lst (xs : List AV) | dK (kvs : List (Key × AV)) | dT (kvs : List (List Key × AV)) | ins (c : Str) (fs : List (Str × AV))
  | lck (o : AO)
abbrev AH := List AO
inductive Rs (α : Type) where
  | ok (a : α) (h : AH) | exc (c : Str) (fs : List (Str × AV)) (h : AH) | stk
def Rs.bind {α β : Type} (r : Rs α) (f : α → AH → Rs β) : Rs β := match r with
  | .ok a h => f a h
  | .exc c fs h => .exc c fs h
  | .stk => .stk

/-- the written part, the globals, the tables of code objects (of defs with lambdas, with generator expressions) -/
structure Bx where
  K : PySem.W.Frag
  mg : Str → Option Value
  T : List (Addr × Str)
  G : List Addr
section
variable (B : Bx) (ρ : List Addr) (F : Hp)
mutual
def RV : AV → V → Prop
  | .non, v => v = .non
  | .bl b, v => v = .bl b
  | .int i, v => v = .int i
  | .str x, v => v = .str x
  | .tup xs, v => ∃ p vs, v = .ref p ∧ F p = some (.tup vs) ∧ RVs xs vs
  | .rdt xs, v => ∃ p vs, v = .ref p ∧ SqT B.K F p vs ∧ RVs xs vs
  | .lst xs, v => ∃ p vs, v = .ref p ∧ F p = some (.lst vs) ∧ RVs xs vs
  | .rdl xs, v => ∃ p vs, v = .ref p ∧ SqL B.K F p vs ∧ RVs xs vs
  | .dK kvs, v => ∃ p o ws, v = .ref p ∧ F p = some (.frz o (.dK ws)) ∧ RKs kvs ws
  | .dT kvs, v => ∃ p o ws, v = .ref p ∧ F p = some (.frz o (.dT ws)) ∧ RTs kvs ws
  | .ins c fs, v => ∃ p C dx ws, v = .ref p ∧ B.mg c = some (.ref C) ∧ F p = some (.ins C dx ws) ∧ RFs fs ws
  | .ref n, v => ∃ p, ρ[n]? = some p ∧ v = .ref p
def RVs : List AV → List V → Prop
  | [], vs => vs = []
  | a :: r, vs => ∃ v w, vs = v :: w ∧ RV a v ∧ RVs r w
def RKs : List (Key × AV) → List (Key × V) → Prop
  | [], vs => vs = []
  | (k, a) :: r, vs => ∃ v w, vs = (k, v) :: w ∧ RV a v ∧ RKs r w
def RTs : List (List Key × AV) → List (List Key × V) → Prop
  | [], vs => vs = []
  | (k, a) :: r, vs => ∃ v w, vs = (k, v) :: w ∧ RV a v ∧ RTs r w
def RFs : List (Str × AV) → List (Str × V) → Prop
  | [], vs => vs = []
  | (k, a) :: r, vs => ∃ v w, vs = (k, v) :: w ∧ RV a v ∧ RFs r w
end
end
end S3
end
section
set_option Elab.async false
set_option linter.all false
set_option maxRecDepth 100000
set_option maxHeartbeats 4000000
namespace S3
open PySem PySem.Spec PyProof.Rows L2

section
variable {K : PySem.W.Frag} {B : Bx} {ρ ρ' : List Addr} {F F' : Hp}
theorem sqT_mono (hF : ∀ p u, F p = some u → F' p = some u) {p : Addr} {vs : List V} (h : SqT K F p vs) : SqT K F' p vs := by
  rcases h with (h | ⟨o, h⟩) | h
  · exact .inl (.inl (hF _ _ h))
  · exact .inl (.inr ⟨o, hF _ _ h⟩)
  · exact .inr h
theorem sqL_mono (hF : ∀ p u, F p = some u → F' p = some u) {p : Addr} {vs : List V} (h : SqL K F p vs) : SqL K F' p vs := by
  rcases h with (h | ⟨o, h⟩) | h
  · exact .inl (.inl (hF _ _ h))
  · exact .inl (.inr ⟨o, hF _ _ h⟩)
  · exact .inr h
/-- the grown list of addresses keeps what stood -/
def Pre (ρ ρ' : List Addr) : Prop := ∀ (i : Nat) (p : Addr), ρ[i]? = some p → ρ'[i]? = some p
mutual
theorem RV.mono (hr : Pre ρ ρ') (hF : ∀ p u, F p = some u → F' p = some u) : ∀ (a : AV) (v : V), RV B ρ F a v → RV B ρ' F' a v
  | .non, v, h => h
  | .bl b, v, h => h
  | .int i, v, h => h
  | .str x, v, h => h
  | .tup xs, v, h => by
    obtain ⟨p, vs, e, q, r⟩ := h
    exact ⟨p, vs, e, hF _ _ q, RVs.mono hr hF xs vs r⟩
  | .rdt xs, v, h => by
    obtain ⟨p, vs, e, q, r⟩ := h
    exact ⟨p, vs, e, sqT_mono hF q, RVs.mono hr hF xs vs r⟩
  | .lst xs, v, h => by
    obtain ⟨p, vs, e, q, r⟩ := h
    exact ⟨p, vs, e, hF _ _ q, RVs.mono hr hF xs vs r⟩
  | .rdl xs, v, h => by
    obtain ⟨p, vs, e, q, r⟩ := h
    exact ⟨p, vs, e, sqL_mono hF q, RVs.mono hr hF xs vs r⟩
  | .dK kvs, v, h => by
    obtain ⟨p, o, vs, e, q, r⟩ := h
    exact ⟨p, o, vs, e, hF _ _ q, RKs.mono hr hF kvs vs r⟩
  | .dT kvs, v, h => by
    obtain ⟨p, o, vs, e, q, r⟩ := h
    exact ⟨p, o, vs, e, hF _ _ q, RTs.mono hr hF kvs vs r⟩
  | .ins c fs, v, h => by
    obtain ⟨p, C, dx, vs, e, m, q, r⟩ := h
    exact ⟨p, C, dx, vs, e, m, hF _ _ q, RFs.mono hr hF fs vs r⟩
  | .ref n, v, h => by
    obtain ⟨p, q, e⟩ := h
    exact ⟨p, hr _ _ q, e⟩
theorem RVs.mono (hr : Pre ρ ρ') (hF : ∀ p u, F p = some u → F' p = some u) : ∀ (a : List AV) (v : List V), RVs B ρ F a v → RVs B ρ' F' a v
  | [], v, h => h
  | a :: r, v, h => by
    obtain ⟨x, w, e, h1, h2⟩ := h
    exact ⟨x, w, e, RV.mono hr hF a x h1, RVs.mono hr hF r w h2⟩
theorem RKs.mono (hr : Pre ρ ρ') (hF : ∀ p u, F p = some u → F' p = some u) : ∀ (a : List (Key × AV)) (v : List (Key × V)), RKs B ρ F a v → RKs B ρ' F' a v
  | [], v, h => h
  | (k, a) :: r, v, h => by
    obtain ⟨x, w, e, h1, h2⟩ := h
    exact ⟨x, w, e, RV.mono hr hF a x h1, RKs.mono hr hF r w h2⟩
theorem RTs.mono (hr : Pre ρ ρ') (hF : ∀ p u, F p = some u → F' p = some u) : ∀ (a : List (List Key × AV)) (v : List (List Key × V)), RTs B ρ F a v → RTs B ρ' F' a v
  | [], v, h => h
  | (k, a) :: r, v, h => by
    obtain ⟨x, w, e, h1, h2⟩ := h
    exact ⟨x, w, e, RV.mono hr hF a x h1, RTs.mono hr hF r w h2⟩
theorem RFs.mono (hr : Pre ρ ρ') (hF : ∀ p u, F p = some u → F' p = some u) : ∀ (a : List (Str × AV)) (v : List (Str × V)), RFs B ρ F a v → RFs B ρ' F' a v
  | [], v, h => h
  | (k, a) :: r, v, h => by
    obtain ⟨x, w, e, h1, h2⟩ := h
    exact ⟨x, w, e, RV.mono hr hF a x h1, RFs.mono hr hF r w h2⟩
end
end
end S3
end
section
set_option Elab.async false
set_option linter.all false
set_option maxRecDepth 100000
set_option maxHeartbeats 4000000
namespace S3
open PySem PySem.Spec PyProof.Rows L2

section
variable (B : Bx) (ρ : List Addr) (F : Hp)
def OU : AO → HO → Prop
  | .lst xs, u => ∃ vs, u = .lst vs ∧ RVs B ρ F xs vs
  | .dK kvs, u => ∃ ws, u = .dK ws ∧ RKs B ρ F kvs ws
  | .dT kvs, u => ∃ ws, u = .dT ws ∧ RTs B ρ F kvs ws
  | .ins c fs, u => ∃ C dx ws, u = .ins C dx ws ∧ B.mg c = some (.ref C) ∧ RFs B ρ F fs ws
  | .lck o, u => False
def OR (H : Hp) (p : Addr) : AO → Prop
  | .lck o => ∃ ob u, H p = some (.frz ob u) ∧ OU B ρ F o u
  | o => ∃ u, H p = some u ∧ OU B ρ F o u
/-- the tree heap h tells what is tracked -/
structure HR (h : AH) (H : Hp) : Prop where
  sub : ∀ p u, F p = some u → H p = some u
  len : ρ.length = h.length
  nd : ρ.Nodup
  sep : ∀ p, p ∈ ρ → F p = none
  obj : ∀ (i : Nat) (p : Addr) (o : AO), ρ[i]? = some p → h[i]? = some o → OR B ρ F H p o
  tab : LamX.Tabs B.T H
  ntb : ∀ p ps, F p ≠ some (.tbl ps)
def SR (s : List (Option AV)) (σ : L2.St) : Prop := s.length = σ.length ∧ ∀ (i : Nat) (a : AV), s[i]? = some (some a) → ∃ v, σ[i]? = some (some v) ∧ RV B ρ F a v
def ER (c : Str) (fs : List (Str × AV)) (cls : Value) (d : Option Addr) (H : Hp) : Prop :=
  ∃ C, B.mg c = some (.ref C) ∧ cls = .ref C ∧ (fs = [] ∨ ∃ dx ws, d = some dx ∧ H dx = some (.xd ws) ∧ RFs B ρ F fs ws)
end
/-- one state behind another -/
structure Ext (ρ : List Addr) (F H : Hp) (ρ' : List Addr) (F' H' : Hp) : Prop where
  pre : Pre ρ ρ'
  fz : ∀ p u, F p = some u → F' p = some u
  keep : ∀ p u, H p = some u → p ∉ ρ → (∀ ps, u ≠ .tbl ps) → H' p = some u
  fnew : ∀ p u, H p = some u → (∀ ps, u ≠ .tbl ps) → p ∉ ρ → F p = none → F' p = none
  rnew : ∀ p u, H p = some u → (∀ ps, u ≠ .tbl ps) → p ∉ ρ → p ∉ ρ'
  lk : ∀ p o u, H p = some (.frz o u) → H' p = some (.frz o u)
section
variable {B : Bx} {ρ ρ' ρ1 : List Addr} {F F' F1 H H' H1 : Hp} {h h' : AH}
theorem Ext.refl : Ext ρ F H ρ F H := ⟨fun _ _ e => e, fun _ _ e => e, fun _ _ e _ _ => e, fun _ _ _ _ _ f => f, fun _ _ _ _ n => n, fun _ _ _ e => e⟩
theorem Ext.trans (a : Ext ρ F H ρ1 F1 H1) (b : Ext ρ1 F1 H1 ρ' F' H') : Ext ρ F H ρ' F' H' where
  pre := fun i p e => b.pre i p (a.pre i p e)
  fz := fun p u e => b.fz p u (a.fz p u e)
  keep := fun p u e n nt => b.keep p u (a.keep p u e n nt) (a.rnew p u e nt n) nt
  fnew := fun p u e nt n f => b.fnew p u (a.keep p u e n nt) nt (a.rnew p u e nt n) (a.fnew p u e nt n f)
  rnew := fun p u e nt n => b.rnew p u (a.keep p u e n nt) nt (a.rnew p u e nt n)
  lk := fun p o u e => b.lk p o u (a.lk p o u e)
theorem OU.mono (hr : Pre ρ ρ') (hF : ∀ p u, F p = some u → F' p = some u) {o : AO} {u : HO} (x : OU B ρ F o u) : OU B ρ' F' o u := by
  cases o with
  | lst xs => obtain ⟨vs, e, r⟩ := x; exact ⟨vs, e, RVs.mono hr hF _ _ r⟩
  | dK xs => obtain ⟨vs, e, r⟩ := x; exact ⟨vs, e, RKs.mono hr hF _ _ r⟩
  | dT xs => obtain ⟨vs, e, r⟩ := x; exact ⟨vs, e, RTs.mono hr hF _ _ r⟩
  | ins c fs => obtain ⟨C, dx, ws, e, m, r⟩ := x; exact ⟨C, dx, ws, e, m, RFs.mono hr hF _ _ r⟩
  | lck o => exact x
theorem OU.kind {o : AO} {u : HO} (x : OU B ρ F o u) : (∀ ps, u ≠ .tbl ps) ∧ (∀ φ, u ≠ .ext φ) ∧ (∀ ob w, u ≠ .frz ob w) ∧ ∀ xs, u ≠ .tup xs := by
  cases o with
  | lst xs => obtain ⟨vs, e, r⟩ := x; subst e; exact ⟨(fun _ z => nomatch z), (fun _ z => nomatch z), (fun _ _ z => nomatch z), (fun _ z => nomatch z)⟩
  | dK xs => obtain ⟨vs, e, r⟩ := x; subst e; exact ⟨(fun _ z => nomatch z), (fun _ z => nomatch z), (fun _ _ z => nomatch z), (fun _ z => nomatch z)⟩
  | dT xs => obtain ⟨vs, e, r⟩ := x; subst e; exact ⟨(fun _ z => nomatch z), (fun _ z => nomatch z), (fun _ _ z => nomatch z), (fun _ z => nomatch z)⟩
  | ins c fs => obtain ⟨C, dx, ws, e, m, r⟩ := x; subst e; exact ⟨(fun _ z => nomatch z), (fun _ z => nomatch z), (fun _ _ z => nomatch z), (fun _ z => nomatch z)⟩
  | lck o => exact x.elim
theorem OR.there {p : Addr} {o : AO} (x : OR B ρ F H p o) : ∃ u, H p = some u ∧ (∀ ps, u ≠ .tbl ps) ∧ ∀ φ, u ≠ .ext φ := by
  cases o with
  | lck o => obtain ⟨ob, u, e, _⟩ := x; exact ⟨_, e, (fun _ z => nomatch z), (fun _ z => nomatch z)⟩
  | lst xs => obtain ⟨u, e, k⟩ := x; exact ⟨u, e, k.kind.1, k.kind.2.1⟩
  | dK xs => obtain ⟨u, e, k⟩ := x; exact ⟨u, e, k.kind.1, k.kind.2.1⟩
  | dT xs => obtain ⟨u, e, k⟩ := x; exact ⟨u, e, k.kind.1, k.kind.2.1⟩
  | ins c fs => obtain ⟨u, e, k⟩ := x; exact ⟨u, e, k.kind.1, k.kind.2.1⟩
theorem OR.to (hr : Pre ρ ρ') (hF : ∀ p u, F p = some u → F' p = some u) {p : Addr} (e : ∀ u, H p = some u → H' p = some u) {o : AO} (x : OR B ρ F H p o) : OR B ρ' F' H' p o := by
  cases o with
  | lck o => obtain ⟨ob, u, q, k⟩ := x; exact ⟨ob, u, e _ q, k.mono hr hF⟩
  | lst xs => obtain ⟨u, q, k⟩ := x; exact ⟨u, e _ q, k.mono hr hF⟩
  | dK xs => obtain ⟨u, q, k⟩ := x; exact ⟨u, e _ q, k.mono hr hF⟩
  | dT xs => obtain ⟨u, q, k⟩ := x; exact ⟨u, e _ q, k.mono hr hF⟩
  | ins c fs => obtain ⟨u, q, k⟩ := x; exact ⟨u, e _ q, k.mono hr hF⟩
theorem SR.mono (hr : Pre ρ ρ') (hF : ∀ p u, F p = some u → F' p = some u) {s : List (Option AV)} {σ : L2.St} (x : SR B ρ F s σ) : SR B ρ' F' s σ :=
  ⟨x.1, fun i a e => by
    obtain ⟨v, e1, r⟩ := x.2 i a e
    exact ⟨v, e1, RV.mono hr hF _ _ r⟩⟩
theorem SR.ext (x : Ext ρ F H ρ' F' H') {s : List (Option AV)} {σ : L2.St} (y : SR B ρ F s σ) : SR B ρ' F' s σ := y.mono x.pre x.fz
theorem RV.ext (x : Ext ρ F H ρ' F' H') {a : AV} {v : V} (y : RV B ρ F a v) : RV B ρ' F' a v := RV.mono x.pre x.fz _ _ y
theorem RVs.ext (x : Ext ρ F H ρ' F' H') {a : List AV} {v : List V} (y : RVs B ρ F a v) : RVs B ρ' F' a v := RVs.mono x.pre x.fz _ _ y
theorem SR.set {s : List (Option AV)} {σ : L2.St} (x : SR B ρ F s σ) {a : AV} {v : V} (r : RV B ρ F a v) (i : Nat) : SR B ρ F (s.set i (some a)) (σ.set i (some v)) := by
  refine ⟨by rw [List.length_set, List.length_set]; exact x.1, fun j b e => ?_⟩
  by_cases hj : i = j
  · subst hj
    have hl : i < s.length := by
      have := (List.getElem?_eq_some_iff.mp e).1
      rw [List.length_set] at this
      exact this
    rw [List.getElem?_set_self hl] at e
    cases e
    have hl2 : i < σ.length := by rw [← x.1]; exact hl
    exact ⟨v, List.getElem?_set_self hl2, r⟩
  · rw [List.getElem?_set_ne hj] at e
    obtain ⟨w, e1, r1⟩ := x.2 j b e
    exact ⟨w, by rw [List.getElem?_set_ne hj]; exact e1, r1⟩
theorem HR.at (x : HR B ρ F h H) {p : Addr} (m : p ∈ ρ) : ∃ (i : Nat) (o : AO), ρ[i]? = some p ∧ h[i]? = some o ∧ OR B ρ F H p o := by
  obtain ⟨i, hi, e⟩ := List.getElem_of_mem m
  have e1 : ρ[i]? = some p := by rw [List.getElem?_eq_getElem hi, e]
  have hi2 : i < h.length := by rw [← x.len]; exact hi
  exact ⟨i, h[i], e1, List.getElem?_eq_getElem hi2, x.obj i p _ e1 (List.getElem?_eq_getElem hi2)⟩
theorem HR.out (x : HR B ρ F h H) {p : Addr} (e : H p = none) : p ∉ ρ := fun m => by
  obtain ⟨i, o, _, _, r⟩ := x.at m
  obtain ⟨u, e1, _⟩ := r.there
  rw [e] at e1
  cases e1
theorem HR.fnone (x : HR B ρ F h H) {p : Addr} (e : H p = none) : F p = none := by
  cases q : F p with
  | none => rfl
  | some u =>
    have z := x.sub p u q
    rw [e] at z
    cases z
theorem HR.at' (x : HR B ρ F h H) {i : Nat} {p : Addr} (e : ρ[i]? = some p) : ∃ o, h[i]? = some o ∧ OR B ρ F H p o := by
  have hi : i < ρ.length := (List.getElem?_eq_some_iff.mp e).1
  have hi2 : i < h.length := by rw [← x.len]; exact hi
  exact ⟨h[i], List.getElem?_eq_getElem hi2, x.obj i p _ e (List.getElem?_eq_getElem hi2)⟩
theorem upd_old {H : Hp} {p : Addr} {u : HO} (n : H p = none) : ∀ b o, H b = some o → upd H p u b = some o := fun b o e => by
  rw [upd_ne (ne_of_none e n)]
  exact e
theorem tabG_ext {H H' : Hp} {P : Addr} (t : GxR.TabG H P) (e : ∀ b o, H b = some o → H' b = some o) : GxR.TabG H' P := by
  obtain ⟨ps, h1, h2⟩ := t
  exact ⟨ps, e _ _ h1, h2⟩
/-- a new thing that never changes -/
theorem HR.newF (x : HR B ρ F h H) {p : Addr} (n : H p = none) (u : HO) (nt : ∀ ps, u ≠ .tbl ps := by intro _ z; cases z) : HR B ρ (upd F p u) h (upd H p u) ∧ Ext ρ F H ρ (upd F p u) (upd H p u) := by
  have fn := x.fnone n
  have fz : ∀ q w, F q = some w → upd F p u q = some w := upd_old fn
  refine ⟨⟨fun q w e => ?_, x.len, x.nd, fun q m => ?_, fun i q o e1 e2 => OR.to (fun _ _ e => e) fz (fun w e => upd_old n _ _ e) (x.obj i q o e1 e2), x.tab.ext (upd_old n), fun q ps e => by
    by_cases hq : q = p
    · rw [hq, upd_same] at e
      exact nt _ (Option.some.inj e)
    · rw [upd_ne hq] at e
      exact x.ntb q ps e⟩,
    ⟨fun _ _ e => e, fz, fun q w e _ _ => upd_old n _ _ e, fun q w e _ _ f => by rw [upd_ne (ne_of_none e n)]; exact f, fun _ _ _ _ m => m, fun q o w e => upd_old n _ _ e⟩⟩
  · by_cases hq : q = p
    · subst hq
      rw [upd_same] at e ⊢
      exact e
    · rw [upd_ne hq] at e ⊢
      exact x.sub q w e
  · have hq : q ≠ p := fun z => x.out n (z ▸ m)
    rw [upd_ne hq]
    exact x.sep q m
theorem pre_snoc (ρ : List Addr) (p : Addr) : Pre ρ (ρ ++ [p]) := fun i q e => by
  rw [List.getElem?_append_left (List.getElem?_eq_some_iff.mp e).1]
  exact e
/-- a new thing that may change -/
theorem HR.newM (x : HR B ρ F h H) {p : Addr} (n : H p = none) {o : AO} {u : HO} (r : OU B ρ F o u) : HR B (ρ ++ [p]) F (h ++ [o]) (upd H p u) ∧ Ext ρ F H (ρ ++ [p]) F (upd H p u) := by
  have no : p ∉ ρ := x.out n
  refine ⟨⟨fun q w e => ?_, by rw [List.length_append, List.length_append, x.len]; rfl, ?_, fun q m => ?_, fun i q ob e1 e2 => ?_, x.tab.ext (upd_old n), x.ntb⟩,
    ⟨pre_snoc ρ p, fun _ _ e => e, fun q w e _ _ => upd_old n _ _ e, fun _ _ _ _ _ f => f, fun q w e _ m z => ?_, fun q o w e => upd_old n _ _ e⟩⟩
  · exact upd_old n _ _ (x.sub q w e)
  · rw [List.nodup_append]
    refine ⟨x.nd, by simp, fun a ha b hb => ?_⟩
    rw [List.mem_singleton] at hb
    subst hb
    exact fun z => no (z ▸ ha)
  · rcases List.mem_append.mp m with m | m
    · exact x.sep q m
    · rw [List.mem_singleton] at m
      subst m
      exact x.fnone n
  · by_cases hi : i < ρ.length
    · rw [List.getElem?_append_left hi] at e1
      rw [List.getElem?_append_left (by rw [← x.len]; exact hi)] at e2
      exact OR.to (pre_snoc ρ p) (fun _ _ e => e) (fun w e => upd_old n _ _ e) (x.obj i q ob e1 e2)
    · have hi' : ρ.length ≤ i := Nat.le_of_not_lt hi
      rw [List.getElem?_append_right hi'] at e1
      rw [List.getElem?_append_right (by rw [← x.len]; exact hi'), ← x.len] at e2
      cases k : i - ρ.length with
      | zero =>
        rw [k] at e1 e2
        cases e1
        cases e2
        have r' := r.mono (ρ' := ρ ++ [p]) (F' := F) (pre_snoc ρ p) (fun _ _ e => e)
        cases o with
        | lck o => exact r.elim
        | lst xs => exact ⟨u, upd_same, r'⟩
        | dK xs => exact ⟨u, upd_same, r'⟩
        | dT xs => exact ⟨u, upd_same, r'⟩
        | ins c fs => exact ⟨u, upd_same, r'⟩
      | succ m =>
        rw [k] at e1
        cases e1
  · rcases List.mem_append.mp z with z | z
    · exact m z
    · rw [List.mem_singleton] at z
      rw [z, n] at e
      cases e
theorem tabs_write {H : Hp} {p : Addr} {u u' : HO} (e : H p = some u) (n1 : ∀ ps, u ≠ .tbl ps) (n2 : ∀ φ, u ≠ .ext φ) {T : List (Addr × Str)} (t : LamX.Tabs T H) : LamX.Tabs T (upd H p u') := fun q hq => by
  obtain ⟨ps, h1, h2, h3⟩ := t q hq
  have ne : q.1 ≠ p := fun z => by
    rw [z, e] at h1
    exact n1 _ (Option.some.inj h1)
  refine ⟨ps, by rw [upd_ne ne]; exact h1, h2, fun pos cv hc => ?_⟩
  obtain ⟨c, e1, e2⟩ := h3 pos cv hc
  refine ⟨c, e1, ?_⟩
  have ne2 : c ≠ p := fun z => by
    rw [z, e] at e2
    exact n2 _ (Option.some.inj e2)
  rw [upd_ne ne2]
  exact e2
theorem tabg_write {H : Hp} {p : Addr} {u u' : HO} (e : H p = some u) (n1 : ∀ ps, u ≠ .tbl ps) {P : Addr} (t : GxR.TabG H P) : GxR.TabG (upd H p u') P := by
  obtain ⟨ps, h1, h2⟩ := t
  have ne : P ≠ p := fun z => by
    rw [z, e] at h1
    exact n1 _ (Option.some.inj h1)
  exact ⟨ps, by rw [upd_ne ne]; exact h1, h2⟩
/-- a thing that may change is written -/
theorem HR.write (x : HR B ρ F h H) {i : Nat} {p : Addr} (e : ρ[i]? = some p) {o : AO} {u u1 : HO} (r : OR B ρ F (upd H p u) p o) (eu : H p = some u1) (nk : ∀ ob w, u1 ≠ .frz ob w := by intro _ _ z; cases z) : HR B ρ F (h.set i o) (upd H p u) ∧ Ext ρ F H ρ F (upd H p u) := by
  have m : p ∈ ρ := List.mem_of_getElem? e
  obtain ⟨o0, eo, r0⟩ := x.at' e
  obtain ⟨u0, e0, n1, n2⟩ := r0.there
  refine ⟨⟨fun q w eq => ?_, by rw [List.length_set]; exact x.len, x.nd, x.sep, fun j q ob e1 e2 => ?_, tabs_write e0 n1 n2 x.tab, x.ntb⟩,
    ⟨fun _ _ e => e, fun _ _ e => e, fun q w eq nq _ => ?_, fun _ _ _ _ _ f => f, fun _ _ _ _ m => m, fun q ob w eq => ?_⟩⟩
  · have hq : q ≠ p := fun z => by
      have := x.sep p m
      rw [← z, eq] at this
      cases this
    rw [upd_ne hq]
    exact x.sub q w eq
  · by_cases hj : i = j
    · subst hj
      rw [e] at e1
      cases e1
      have hl : i < h.length := (List.getElem?_eq_some_iff.mp eo).1
      rw [List.getElem?_set_self hl] at e2
      cases e2
      exact r
    · rw [List.getElem?_set_ne hj] at e2
      have hq : q ≠ p := fun z => by
        subst z
        exact hj (nd_ix x.nd e e1)
      exact OR.to (fun _ _ e => e) (fun _ _ e => e) (fun w e => by rw [upd_ne hq]; exact e) (x.obj j q ob e1 e2)
  · rw [upd_ne (fun z => nq (by rw [z]; exact m))]
    exact eq
  · have hq : q ≠ p := fun z => by
      rw [z, eu] at eq
      exact nk _ _ (Option.some.inj eq)
    rw [upd_ne hq]
    exact eq
end
end S3
end
section
set_option Elab.async false
set_option linter.all false
set_option maxRecDepth 100000
set_option maxHeartbeats 4000000
namespace S3
open PySem PySem.Spec PyProof.Rows L2

abbrev Sl := List (Option AV)
inductive Ss where
  | nx (s : Sl) (h : AH) | rt (a : AV) (h : AH) | bk (s : Sl) (h : AH) | ct (s : Sl) (h : AH) | exc (s : Sl) (c : Str) (fs : List (Str × AV)) (h : AH) | stk
abbrev ME := Sl → AH → Rs AV
abbrev MT := Sl → AH → Rs Bool
abbrev MA := Sl → AH → Rs (List AV)
abbrev MS := Sl → AH → Ss
abbrev Rl (α β : Type) := List Addr → Hp → α → β → Prop
abbrev WK := Value → Option Addr → Hp → Prop
section
variable (B : Bx)
def Post {α β : Type} (R : Rl α β) (ρ : List Addr) (F H : Hp) (r : Rs α) (Q : β → Hp → Prop) (Wx : WK) : Prop := match r with
  | .ok a h' => ∀ ρ' F' H' v, Ext ρ F H ρ' F' H' → HR B ρ' F' h' H' → R ρ' F' a v → Q v H'
  | .exc c fs h' => ∀ ρ' F' H' cls d, Ext ρ F H ρ' F' H' → HR B ρ' F' h' H' → ER B ρ' F' c fs cls d H' → Wx cls d H'
  | .stk => False
def PostS (ρ : List Addr) (F H : Hp) (r : Ss) (D : Ends) (W : WX) : Prop := match r with
  | .nx s' h' => ∀ ρ' F' H' σ', Ext ρ F H ρ' F' H' → HR B ρ' F' h' H' → SR B ρ' F' s' σ' → D.nx σ' H'
  | .bk s' h' => ∀ ρ' F' H' σ', Ext ρ F H ρ' F' H' → HR B ρ' F' h' H' → SR B ρ' F' s' σ' → D.bk σ' H'
  | .ct s' h' => ∀ ρ' F' H' σ', Ext ρ F H ρ' F' H' → HR B ρ' F' h' H' → SR B ρ' F' s' σ' → D.ct σ' H'
  | .rt a h' => ∀ ρ' F' H' v, Ext ρ F H ρ' F' H' → HR B ρ' F' h' H' → RV B ρ' F' a v → D.rt v H'
  | .exc s' c fs h' => ∀ ρ' F' H' σ' cls d, Ext ρ F H ρ' F' H' → HR B ρ' F' h' H' → SR B ρ' F' s' σ' → ER B ρ' F' c fs cls d H' → W cls d σ' H'
  | .stk => False
def tmG {α β : Type} (R : Rl α β) (W : WX) (m : Sl → AH → Rs α) : L2.St → Hp → (β → Hp → Prop) → Prop := fun σ H Q =>
  ∃ ρ F h s, SR B ρ F s σ ∧ HR B ρ F h H ∧ Post B R ρ F H (m s h) Q (fun cls d H' => W cls d σ H')
def RE : Rl Bool Bool := fun _ _ a b => a = b
abbrev tm (W : WX) (m : ME) : TE := tmG B (RV B) W m
abbrev tmT (W : WX) (m : MT) : TT := tmG B RE W m
abbrev tmA (W : WX) (m : MA) : TA := tmG B (RVs B) W m
def tms (W : WX) (m : MS) : TS := fun D σ H => ∃ ρ F h s, SR B ρ F s σ ∧ HR B ρ F h H ∧ PostS B ρ F H (m s h) D W
end
/-- the judgements: the model does what the plain function says -/
abbrev SE (B : Bx) (X : Cx) (W : WX) (e : Expr) (m : ME) : Prop := PE X e (tm B W m)
abbrev STt (B : Bx) (X : Cx) (W : WX) (e : Expr) (m : MT) : Prop := PT X e (tmT B W m)
abbrev SW (B : Bx) (X : Cx) (W : WX) (e : Expr) (m : MT) : Prop := PW X e (tmT B W m)
abbrev SA (B : Bx) (X : Cx) (W : WX) (es : List Expr) (m : MA) : Prop := PA X es (tmA B W m)
abbrev SS (B : Bx) (X : Cx) (W : WX) (st : Stmt) (m : MS) : Prop := PS X st (tms B W m)
abbrev SSs (B : Bx) (X : Cx) (W : WX) (st : List Stmt) (m : MS) : Prop := PSs X st (tms B W m)

section
variable {B : Bx} {ρ ρ1 : List Addr} {F F1 H H1 : Hp} {α β γ δ : Type} {R : Rl α β} {R2 : Rl γ δ} {Wx : WK}
theorem Post.ext {r : Rs α} {Q : β → Hp → Prop} (e : Ext ρ F H ρ1 F1 H1) (p : Post B R ρ F H r Q Wx) : Post B R ρ1 F1 H1 r Q Wx := by
  cases r with
  | ok a h => exact fun ρ' F' H' v x y z => p ρ' F' H' v (e.trans x) y z
  | exc c fs h => exact fun ρ' F' H' cls d x y z => p ρ' F' H' cls d (e.trans x) y z
  | stk => exact p
theorem Post.andThen {r : Rs α} {k : α → AH → Rs γ} {Q : δ → Hp → Prop} {Q1 : β → Hp → Prop} (p : Post B R2 ρ F H (r.bind k) Q Wx)
    (q : ∀ a h1 ρ1 F1 H1 x, r = .ok a h1 → Ext ρ F H ρ1 F1 H1 → HR B ρ1 F1 h1 H1 → R ρ1 F1 a x → Post B R2 ρ1 F1 H1 (k a h1) Q Wx → Q1 x H1) : Post B R ρ F H r Q1 Wx := by
  cases r with
  | ok a h => exact fun ρ' F' H' v x y z => q a h ρ' F' H' v rfl x y z (Post.ext x p)
  | exc c fs h => exact p
  | stk => exact p
theorem PostS.ext {r : Ss} {D : Ends} {W : WX} (e : Ext ρ F H ρ1 F1 H1) (p : PostS B ρ F H r D W) : PostS B ρ1 F1 H1 r D W := by
  cases r with
  | nx s h => exact fun ρ' F' H' v x y z => p ρ' F' H' v (e.trans x) y z
  | bk s h => exact fun ρ' F' H' v x y z => p ρ' F' H' v (e.trans x) y z
  | ct s h => exact fun ρ' F' H' v x y z => p ρ' F' H' v (e.trans x) y z
  | rt s h => exact fun ρ' F' H' v x y z => p ρ' F' H' v (e.trans x) y z
  | exc s c fs h => exact fun ρ' F' H' σ' cls d x y z w => p ρ' F' H' σ' cls d (e.trans x) y z w
  | stk => exact p
def Rs.toS {α : Type} (r : Rs α) (s : Sl) (k : α → AH → Ss) : Ss := match r with
  | .ok a h => k a h
  | .exc c fs h => .exc s c fs h
  | .stk => .stk
theorem PostS.expr {r : Rs α} {s : Sl} {σ : L2.St} {k : α → AH → Ss} {D : Ends} {W : WX} {Q1 : β → Hp → Prop} (sr : SR B ρ F s σ) (p : PostS B ρ F H (r.toS s k) D W)
    (q : ∀ a h1 ρ1 F1 H1 x, r = .ok a h1 → Ext ρ F H ρ1 F1 H1 → HR B ρ1 F1 h1 H1 → R ρ1 F1 a x → SR B ρ1 F1 s σ → PostS B ρ1 F1 H1 (k a h1) D W → Q1 x H1) : Post B R ρ F H r Q1 (fun cls d H' => W cls d σ H') := by
  cases r with
  | ok a h => exact fun ρ' F' H' v x y z => q a h ρ' F' H' v rfl x y z (sr.ext x) (PostS.ext x p)
  | exc c fs h => exact fun ρ' F' H' cls d x y z => p ρ' F' H' σ cls d x y (sr.ext x) z
  | stk => exact p
end

section
variable {X : Cx} {e : Expr} {es : List Expr} {st : Stmt} {sts : List Stmt}
theorem PE.imp {t t' : TE} (h : PE X e t) (w : ∀ σ H Q, t' σ H Q → t σ H Q) : PE X e t' := ⟨fun pins s σ H Q I q => h.run pins s σ H Q I (w σ H Q q)⟩
theorem PT.imp {t t' : TT} (h : PT X e t) (w : ∀ σ H Q, t' σ H Q → t σ H Q) : PT X e t' := ⟨fun pins s σ H Q I q => h.run pins s σ H Q I (w σ H Q q)⟩
theorem PW.imp {t t' : TT} (h : PW X e t) (w : ∀ σ H Q, t' σ H Q → t σ H Q) : PW X e t' := ⟨fun wh pins s σ H Q I q => h.run wh pins s σ H Q I (w σ H Q q)⟩
theorem PA.imp {t t' : TA} (h : PA X es t) (w : ∀ σ H Q, t' σ H Q → t σ H Q) : PA X es t' := ⟨fun pos pins s σ H Q I q => h.run pos pins s σ H Q I (w σ H Q q)⟩
theorem PS.imp {t t' : TS} (h : PS X st t) (w : ∀ D σ H, t' D σ H → t D σ H) : PS X st t' := ⟨fun pins s σ H D I q => h.run pins s σ H D I (w D σ H q)⟩
theorem PSs.imp {t t' : TS} (h : PSs X sts t) (w : ∀ D σ H, t' D σ H → t D σ H) : PSs X sts t' := ⟨fun pins s σ H D I q => h.run pins s σ H D I (w D σ H q)⟩
end

/-! ### names, constants -/
section
variable {B : Bx} {X : Cx} {W : WX}
def mVar (i : Nat) : ME := fun s h => match s[i]? with
  | some (some a) => .ok a h
  | _ => .stk
def mC (a : AV) : ME := fun _ h => .ok a h
theorem se_var {i : Nat} {x : Str} {pos : Pos} (hN : X.N[i]? = some x) (hv : Vis X.env.scope x) (hd : (x == ("__debug__" : Str)) = false := by decide) (hcd : (x == ("__classdict__" : Str)) = false := by decide) : SE B X W (.Name x pos) (mVar i) := by
  refine PE.imp (pe_var hN hv hd hcd) fun σ H Q h => ?_
  obtain ⟨ρ, F, h, s, sr, hr, p⟩ := h
  unfold mVar at p
  split at p
  · rename_i a ea
    obtain ⟨v, ev, r⟩ := sr.2 i a ea
    exact ⟨v, ev, p ρ F H v Ext.refl hr r⟩
  · exact p.elim
theorem se_int {i j pos} : SE B X W (.Constant (.int i) j pos) (mC (.int i)) := PE.imp pe_int fun σ H Q ⟨ρ, F, h, s, sr, hr, p⟩ => p ρ F H _ Ext.refl hr rfl
theorem se_bl {i j pos} : SE B X W (.Constant (.bool i) j pos) (mC (.bl i)) := PE.imp pe_bl fun σ H Q ⟨ρ, F, h, s, sr, hr, p⟩ => p ρ F H _ Ext.refl hr rfl
theorem se_non {j pos} : SE B X W (.Constant .none j pos) (mC .non) := PE.imp pe_non fun σ H Q ⟨ρ, F, h, s, sr, hr, p⟩ => p ρ F H _ Ext.refl hr rfl
theorem se_str {i j pos} : SE B X W (.Constant (.str i) j pos) (mC (.str i)) := PE.imp pe_str fun σ H Q ⟨ρ, F, h, s, sr, hr, p⟩ => p ρ F H _ Ext.refl hr rfl

/-! ### operators by values -/
abbrev G1 := AV → AH → Option AV
abbrev G2 := AV → AV → AH → Option AV
abbrev GL := List AV → AH → Option AV
def ofO (o : Option AV) (h : AH) : Rs AV := match o with
  | some c => .ok c h
  | none => .stk
def rm2 (B : Bx) (g : G2) : R2 := fun x y H Q => ∃ ρ F h a b c, HR B ρ F h H ∧ RV B ρ F a x ∧ RV B ρ F b y ∧ g a b h = some c ∧ ∀ ρ' F' H' z, Ext ρ F H ρ' F' H' → HR B ρ' F' h H' → RV B ρ' F' c z → Q z H'
def rm1 (B : Bx) (g : G1) : V → Hp → VK → Prop := fun x H Q => ∃ ρ F h a c, HR B ρ F h H ∧ RV B ρ F a x ∧ g a h = some c ∧ ∀ ρ' F' H' z, Ext ρ F H ρ' F' H' → HR B ρ' F' h H' → RV B ρ' F' c z → Q z H'
def rmL (B : Bx) (g : GL) : List V → Hp → VK → Prop := fun x H Q => ∃ ρ F h a c, HR B ρ F h H ∧ RVs B ρ F a x ∧ g a h = some c ∧ ∀ ρ' F' H' z, Ext ρ F H ρ' F' H' → HR B ρ' F' h H' → RV B ρ' F' c z → Q z H'
def mBin (g : G2) (ma mb : ME) : ME := fun s h => (ma s h).bind fun a h1 => (mb s h1).bind fun b h2 => ofO (g a b h2) h2
def mUn (g : G1) (ma : ME) : ME := fun s h => (ma s h).bind fun a h1 => ofO (g a h1) h1
def mFn (g : GL) (ma : MA) : ME := fun s h => (ma s h).bind fun a h1 => ofO (g a h1) h1
theorem ofO_post {ρ : List Addr} {F H : Hp} {o : Option AV} {h : AH} {Q : VK} {Wx : WK} (p : Post B (RV B) ρ F H (ofO o h) Q Wx) : ∃ c, o = some c ∧ ∀ ρ' F' H' z, Ext ρ F H ρ' F' H' → HR B ρ' F' h H' → RV B ρ' F' c z → Q z H' := by
  cases o with
  | none => exact p.elim
  | some c => exact ⟨c, rfl, p⟩
theorem bin_imp {g : G2} {ma mb : ME} {σ : L2.St} {H : Hp} {Q : VK} (h : tm B W (mBin g ma mb) σ H Q) : tOp (rm2 B g) (tm B W ma) (tm B W mb) σ H Q := by
  obtain ⟨ρ, F, h, s, sr, hr, p⟩ := h
  refine ⟨ρ, F, h, s, sr, hr, p.andThen fun a h1 ρ1 F1 H1 x _ e1 hr1 ra p1 => ?_⟩
  refine ⟨ρ1, F1, h1, s, sr.ext e1, hr1, p1.andThen fun b h2 ρ2 F2 H2 y _ e2 hr2 rb p2 => ?_⟩
  obtain ⟨c, ec, q⟩ := ofO_post p2
  exact ⟨ρ2, F2, h2, a, b, c, hr2, ra.ext e2, rb, ec, q⟩
theorem se_op {op : Operator} {g : G2} {a b : Expr} {ma mb : ME} {pos : Pos} (ho : OpR X (binaryOp op) (rm2 B g)) (ha : SE B X W a ma) (hb : SE B X W b mb) : SE B X W (.BinOp a op b pos) (mBin g ma mb) :=
  PE.imp (pe_op ho ha hb) fun _ _ _ h => bin_imp h
theorem se_un {op : UnaryOp} {g : G1} {a : Expr} {ma : ME} {pos : Pos} (ho : UnR X (unaryOp op) (rm1 B g)) (ha : SE B X W a ma) : SE B X W (.UnaryOp op a pos) (mUn g ma) :=
  PE.imp (pe_un ho ha) fun σ H Q ⟨ρ, F, h, s, sr, hr, p⟩ => ⟨ρ, F, h, s, sr, hr, p.andThen fun a h1 ρ1 F1 H1 x _ e1 hr1 ra p1 => by
    obtain ⟨c, ec, q⟩ := ofO_post p1
    exact ⟨ρ1, F1, h1, a, c, hr1, ra, ec, q⟩⟩
theorem se_cmp {op : CmpOp} {g : G2} {a b : Expr} {ma mb : ME} {pos : Pos} (ho : OpR X (compareOp op) (rm2 B g)) (ha : SE B X W a ma) (hb : SE B X W b mb) (hm : behindInMarks op b = false := by first | exact nomark _ | rfl) : SE B X W (.Compare a [op] [b] pos) (mBin g ma mb) :=
  PE.imp (pe_cmpR ho ha hb hm) fun _ _ _ h => bin_imp h

/-! ### tests -/
def mTest (m : ME) : MT := fun s h => (m s h).bind fun a h1 => match a with
  | .bl b => .ok b h1
  | _ => .stk
theorem test_imp {m : ME} {t : TE} (w : ∀ (σ : L2.St) (H : Hp) (Q : VK), tm B W m σ H Q → t σ H Q) {σ : L2.St} {H : Hp} {Q : Bool → Hp → Prop} (h : tmT B W (mTest m) σ H Q) : t σ H fun x H' => ∃ k, x = .bl k ∧ Q k H' := by
  obtain ⟨ρ, F, h, s, sr, hr, p⟩ := h
  refine w σ H _ ⟨ρ, F, h, s, sr, hr, p.andThen fun a h1 ρ1 F1 H1 x _ e1 hr1 ra p1 => ?_⟩
  cases a with
  | bl b => exact ⟨b, ra, p1 ρ1 F1 H1 b Ext.refl hr1 rfl⟩
  | non => exact p1.elim
  | int _ => exact p1.elim
  | str _ => exact p1.elim
  | tup _ => exact p1.elim
  | lst _ => exact p1.elim
  | rdl _ => exact p1.elim
  | rdt _ => exact p1.elim
  | dK _ => exact p1.elim
  | dT _ => exact p1.elim
  | ins _ _ => exact p1.elim
  | ref _ => exact p1.elim
theorem st_cmp {op : CmpOp} {g : G2} {a b : Expr} {ma mb : ME} {pos : Pos} (ho : OpR X (compareOp op) (rm2 B g)) (ha : SE B X W a ma) (hb : SE B X W b mb) (hm : behindInMarks op b = false := by first | exact nomark _ | rfl) : STt B X W (.Compare a [op] [b] pos) (mTest (mBin g ma mb)) :=
  PT.imp (pt_cmpR ho ha hb hm) fun σ H Q h => test_imp (t := tOp (rm2 B g) (tm B W ma) (tm B W mb)) (fun _ _ _ h => bin_imp h) h
theorem st_val {e : Expr} {m : ME} (h : SE B X W e m) (he : ∀ whole, isTrue e X.env whole = (do let v ← whole; standAt e.pos; holding [v] (truthy v)) := by intro _; rfl) : STt B X W e (mTest m) :=
  PT.imp (pt_val h he) fun σ H Q h => test_imp (t := tm B W m) (fun _ _ _ h => h) h
def mAnd (a b : MT) : MT := fun s h => (a s h).bind fun x h1 => if x = true then b s h1 else .ok false h1
def mOr (a b : MT) : MT := fun s h => (a s h).bind fun x h1 => if x = true then .ok true h1 else b s h1
def mNot (a : MT) : MT := fun s h => (a s h).bind fun x h1 => .ok (!x) h1
theorem and_imp {a b : MT} {σ : L2.St} {H : Hp} {Q : Bool → Hp → Prop} (h : tmT B W (mAnd a b) σ H Q) : tAnd (tmT B W a) (tmT B W b) σ H Q := by
  obtain ⟨ρ, F, h, s, sr, hr, p⟩ := h
  refine ⟨ρ, F, h, s, sr, hr, p.andThen fun x h1 ρ1 F1 H1 y _ e1 hr1 ra p1 => ?_⟩
  cases ra
  cases x with
  | true => exact ⟨ρ1, F1, h1, s, sr.ext e1, hr1, p1⟩
  | false => exact p1 ρ1 F1 H1 false Ext.refl hr1 rfl
theorem or_imp {a b : MT} {σ : L2.St} {H : Hp} {Q : Bool → Hp → Prop} (h : tmT B W (mOr a b) σ H Q) : tOr (tmT B W a) (tmT B W b) σ H Q := by
  obtain ⟨ρ, F, h, s, sr, hr, p⟩ := h
  refine ⟨ρ, F, h, s, sr, hr, p.andThen fun x h1 ρ1 F1 H1 y _ e1 hr1 ra p1 => ?_⟩
  cases ra
  cases x with
  | false => exact ⟨ρ1, F1, h1, s, sr.ext e1, hr1, p1⟩
  | true => exact p1 ρ1 F1 H1 true Ext.refl hr1 rfl
theorem sw_and1 {a : Expr} {m : MT} {pos : Pos} (ha : STt B X W a m) : SW B X W (.BoolOp .And [a] pos) m := pw_and1 ha
theorem sw_or1 {a : Expr} {m : MT} {pos : Pos} (ha : STt B X W a m) : SW B X W (.BoolOp .Or [a] pos) m := pw_or1 ha
theorem sw_and {a b : Expr} {r : List Expr} {m n : MT} {pos : Pos} (ha : STt B X W a m) (hb : SW B X W (.BoolOp .And (b :: r) pos) n) : SW B X W (.BoolOp .And (a :: b :: r) pos) (mAnd m n) := PW.imp (pw_and ha hb) fun _ _ _ h => and_imp h
theorem sw_or {a b : Expr} {r : List Expr} {m n : MT} {pos : Pos} (ha : STt B X W a m) (hb : SW B X W (.BoolOp .Or (b :: r) pos) n) : SW B X W (.BoolOp .Or (a :: b :: r) pos) (mOr m n) := PW.imp (pw_or ha hb) fun _ _ _ h => or_imp h
theorem st_w {e : Expr} {m : MT} (h : SW B X W e m) : STt B X W e m := PW.pt h
theorem st_not {a : Expr} {m : MT} {pos : Pos} (ha : STt B X W a m) : STt B X W (.UnaryOp .Not a pos) (mNot m) := PT.imp (pt_not ha) fun σ H Q ⟨ρ, F, h, s, sr, hr, p⟩ => ⟨ρ, F, h, s, sr, hr, p.andThen fun x h1 ρ1 F1 H1 y _ e1 hr1 ra p1 => by
  cases ra
  exact p1 ρ1 F1 H1 _ Ext.refl hr1 rfl⟩
def mIf (c : MT) (a b : ME) : ME := fun s h => (c s h).bind fun x h1 => if x = true then a s h1 else b s h1
theorem se_if {c a b : Expr} {mc : MT} {ma mb : ME} {pos : Pos} (hc : STt B X W c mc) (ha : SE B X W a ma) (hb : SE B X W b mb) : SE B X W (.IfExp c a b pos) (mIf mc ma mb) :=
  PE.imp (pe_ifExp hc ha hb) fun σ H Q ⟨ρ, F, h, s, sr, hr, p⟩ => ⟨ρ, F, h, s, sr, hr, p.andThen fun x h1 ρ1 F1 H1 y _ e1 hr1 ra p1 => by
    cases ra
    cases x with
    | true => exact ⟨ρ1, F1, h1, s, sr.ext e1, hr1, p1⟩
    | false => exact ⟨ρ1, F1, h1, s, sr.ext e1, hr1, p1⟩⟩

/-! ### arguments, displays -/
def mNil : MA := fun _ h => .ok [] h
def mCons (a : ME) (r : MA) : MA := fun s h => (a s h).bind fun x h1 => (r s h1).bind fun xs h2 => .ok (x :: xs) h2
theorem sa_nil : SA B X W [] mNil := PA.imp pa_nil fun σ H Q ⟨ρ, F, h, s, sr, hr, p⟩ => p ρ F H [] Ext.refl hr rfl
theorem sa_cons {e : Expr} {es : List Expr} {m : ME} {r : MA} (ha : SE B X W e m) (hr : SA B X W es r) (hs : starEach (e :: es) X.env = (false, eval e X.env) :: starEach es X.env := by rfl) : SA B X W (e :: es) (mCons m r) :=
  PA.imp (pa_cons ha hr hs) fun σ H Q ⟨ρ, F, h, s, sr, hr, p⟩ => ⟨ρ, F, h, s, sr, hr, p.andThen fun x h1 ρ1 F1 H1 v _ e1 hr1 ra p1 =>
    ⟨ρ1, F1, h1, s, sr.ext e1, hr1, p1.andThen fun xs h2 ρ2 F2 H2 vs _ e2 hr2 rb p2 => p2 ρ2 F2 H2 (v :: vs) Ext.refl hr2 ⟨v, vs, rfl, ra.ext e2, rb⟩⟩⟩
theorem RVs.length {ρ : List Addr} {F : Hp} : ∀ {xs : List AV} {vs : List V}, RVs B ρ F xs vs → xs.length = vs.length
  | [], vs, h => by
    have h : vs = [] := h
    subst h
    rfl
  | a :: r, vs, h => by
    obtain ⟨v, w, e, _, h2⟩ := h
    subst e
    rw [List.length_cons, List.length_cons, RVs.length h2]
def gTup : GL := fun xs h => if xs.length ≤ sizeLine then some (.tup xs) else none
def gLst : GL := fun xs h => if xs.length ≤ sizeLine then some (.lst xs) else none
theorem disp_imp {m : MA} {g : GL} {σ : L2.St} {H : Hp} {Q : VK} (h : tm B W (mFn g m) σ H Q) : tmA B W m σ H fun xs H1 => rmL B g xs H1 Q := by
  obtain ⟨ρ, F, h, s, sr, hr, p⟩ := h
  refine ⟨ρ, F, h, s, sr, hr, p.andThen fun xs h1 ρ1 F1 H1 vs _ e1 hr1 ra p1 => ?_⟩
  obtain ⟨c, ec, q⟩ := ofO_post p1
  exact ⟨ρ1, F1, h1, xs, c, hr1, ra, ec, q⟩
theorem tmA_mono {m : MA} {σ : L2.St} {H : Hp} {Q Q' : List V → Hp → Prop} (h : tmA B W m σ H Q) (w : ∀ vs H1, Q vs H1 → Q' vs H1) : tmA B W m σ H Q' := by
  obtain ⟨ρ, F, h, s, sr, hr, p⟩ := h
  refine ⟨ρ, F, h, s, sr, hr, ?_⟩
  revert p
  cases m s h with
  | ok a h' => exact fun p ρ' F' H' v x y z => w _ _ (p ρ' F' H' v x y z)
  | exc c fs h' => exact fun p => p
  | stk => exact fun p => p
theorem se_tup {es : List Expr} {m : MA} {k : Nat} {pos : Pos} (h : SA B X W es m) : SE B X W (.Tuple es k pos) (mFn gTup m) := PE.imp (pe_tup h) fun σ H Q q => tmA_mono (disp_imp q) fun vs H1 ⟨ρ, F, h, xs, c, hr, ra, ec, q⟩ => by
  unfold gTup at ec
  split at ec
  · rename_i hz
    cases ec
    refine ⟨by rw [← RVs.length ra]; exact hz, fun p hp => ?_⟩
    obtain ⟨hr', ex⟩ := hr.newF hp (.tup vs)
    exact q _ _ _ _ ex hr' ⟨p, vs, rfl, upd_same, ra.ext ex⟩
  · cases ec
theorem se_lst {es : List Expr} {m : MA} {pos : Pos} (h : SA B X W es m) : SE B X W (.List es pos) (mFn gLst m) := PE.imp (pe_lst h) fun σ H Q q => tmA_mono (disp_imp q) fun vs H1 ⟨ρ, F, h, xs, c, hr, ra, ec, q⟩ => by
  unfold gLst at ec
  split at ec
  · rename_i hz
    cases ec
    refine ⟨by rw [← RVs.length ra]; exact hz, fun p hp => ?_⟩
    obtain ⟨hr', ex⟩ := hr.newF hp (.lst vs)
    exact q _ _ _ _ ex hr' ⟨p, vs, rfl, upd_same, ra.ext ex⟩
  · cases ec
/-- a list that will change -/
def mLstM (m : MA) : ME := fun s h => (m s h).bind fun xs h1 => if xs.length ≤ sizeLine then .ok (.ref h1.length) (h1 ++ [.lst xs]) else .stk
theorem getElem?_snoc {α : Type} (l : List α) (x : α) : (l ++ [x])[l.length]? = some x := by
  rw [List.getElem?_append_right (Nat.le_refl _), Nat.sub_self]
  rfl
theorem se_lstM {es : List Expr} {m : MA} {pos : Pos} (h : SA B X W es m) : SE B X W (.List es pos) (mLstM m) := PE.imp (pe_lst h) fun σ H Q ⟨ρ, F, h, s, sr, hr, p⟩ => ⟨ρ, F, h, s, sr, hr, p.andThen fun xs h1 ρ1 F1 H1 vs _ e1 hr1 ra p1 => by
  split at p1
  · rename_i hz
    refine ⟨by rw [← RVs.length ra]; exact hz, fun p hp => ?_⟩
    obtain ⟨hr', ex⟩ := hr1.newM hp (o := .lst xs) (u := .lst vs) ⟨vs, rfl, ra⟩
    exact p1 _ _ _ _ ex hr' ⟨p, by rw [← hr1.len]; exact getElem?_snoc _ _, rfl⟩
  · exact p1.elim⟩
end
end S3
end
section
set_option Elab.async false
set_option linter.all false
set_option maxRecDepth 100000
set_option maxHeartbeats 4000000
namespace S3
open PySem PySem.Spec PyProof.Rows L2
noncomputable section NC

/-! ### values as data, seen through the heap -/
mutual
def py : AV → PyData
  | .non => .none
  | .bl b => .bool b
  | .int i => .int i
  | .str x => .str x
  | .tup xs => .tuple (pys xs)
  | .rdt xs => .tuple (pys xs)
  | .lst xs => .list (pys xs)
  | .rdl xs => .list (pys xs)
  | .dK _ => .dict []
  | .dT _ => .dict []
  | .ins _ _ => .dict []
  | .ref _ => .dict []
def pys : List AV → List PyData
  | [] => []
  | a :: r => py a :: pys r
end
def pyv (h : AH) : AV → PyData
  | .ref n => match h[n]? with
    | some (.lst xs) => .list (pys xs)
    | _ => .dict []
  | a => py a
/-- the items of a list that may be told from others by its place -/
def vL (h : AH) : AV → Option (List AV)
  | .lst xs => some xs
  | .ref n => match h[n]? with
    | some (.lst xs) => some xs
    | _ => none
  | _ => none
def vLR (h : AH) : AV → Option (List AV)
  | .rdl xs => some xs
  | a => vL h a
def vT : AV → Option (List AV)
  | .tup xs => some xs
  | .rdt xs => some xs
  | _ => none
/-- a list's or a tuple's items -/
def vSq (h : AH) (a : AV) : Option (List AV) := match vT a with
  | some xs => some xs
  | none => vLR h a
section
variable {B : Bx} {ρ : List Addr} {F H : Hp} {h : AH}
theorem HR.got (hr : HR B ρ F h H) {p : Addr} {u : HO} (n : True) (e : F p = some u) : H p = some u := hr.sub p u e
theorem HR.sqT (hr : HR B ρ F h H) {p : Addr} {vs : List V} (q : SqT B.K F p vs) : SqT B.K H p vs := by
  rcases q with (q | ⟨o, q⟩) | q
  · exact .inl (.inl (hr.got trivial q))
  · exact .inl (.inr ⟨o, hr.got trivial q⟩)
  · exact .inr q
theorem HR.sqL (hr : HR B ρ F h H) {p : Addr} {vs : List V} (q : SqL B.K F p vs) : SqL B.K H p vs := by
  rcases q with (q | ⟨o, q⟩) | q
  · exact .inl (.inl (hr.got trivial q))
  · exact .inl (.inr ⟨o, hr.got trivial q⟩)
  · exact .inr q
theorem vL_at (hr : HR B ρ F h H) : ∀ {a : AV} {x : V} {xs : List AV}, RV B ρ F a x → vL h a = some xs → ∃ p vs, x = .ref p ∧ H p = some (.lst vs) ∧ RVs B ρ F xs vs
  | .lst ys, x, xs, r, e => by
    obtain ⟨p, vs, ex, q, rs⟩ := r
    have e : some ys = some xs := e
    cases e
    exact ⟨p, vs, ex, hr.got trivial q, rs⟩
  | .ref n, x, xs, r, e => by
    obtain ⟨p, ep, ex⟩ := r
    obtain ⟨o, eo, ro⟩ := hr.at' ep
    have e : (match h[n]? with
      | some (.lst xs) => some xs
      | _ => none) = some xs := e
    rw [eo] at e
    cases o with
    | lst ys =>
      cases e
      obtain ⟨u, eu, vs, e1, rs⟩ := ro
      subst e1
      exact ⟨p, vs, ex, eu, rs⟩
    | dK _ => cases e
    | dT _ => cases e
    | ins _ _ => cases e
    | lck _ => cases e
  | .non, _, _, _, e => by cases e
  | .bl _, _, _, _, e => by cases e
  | .int _, _, _, _, e => by cases e
  | .str _, _, _, _, e => by cases e
  | .tup _, _, _, _, e => by cases e
  | .rdt _, _, _, _, e => by cases e
  | .rdl _, _, _, _, e => by cases e
  | .dK _, _, _, _, e => by cases e
  | .dT _, _, _, _, e => by cases e
  | .ins _ _, _, _, _, e => by cases e
theorem vLR_at (hr : HR B ρ F h H) {a : AV} {x : V} {xs : List AV} (r : RV B ρ F a x) (e : vLR h a = some xs) : ∃ p vs, x = .ref p ∧ SqL B.K H p vs ∧ RVs B ρ F xs vs := by
  have other : vL h a = some xs → ∃ p vs, x = .ref p ∧ SqL B.K H p vs ∧ RVs B ρ F xs vs := fun e => by
    obtain ⟨p, vs, ex, q, rs⟩ := vL_at hr r e
    exact ⟨p, vs, ex, .inl (.inl q), rs⟩
  cases a with
  | rdl ys =>
    obtain ⟨p, vs, ex, q, rs⟩ := r
    have e : some ys = some xs := e
    cases e
    exact ⟨p, vs, ex, hr.sqL q, rs⟩
  | _ => exact other e
theorem vT_at (hr : HR B ρ F h H) {a : AV} {x : V} {xs : List AV} (r : RV B ρ F a x) (e : vT a = some xs) : ∃ p vs, x = .ref p ∧ SqT B.K H p vs ∧ RVs B ρ F xs vs := by
  cases a with
  | tup ys =>
    obtain ⟨p, vs, ex, q, rs⟩ := r
    have e : some ys = some xs := e
    cases e
    exact ⟨p, vs, ex, .inl (.inl (hr.got trivial q)), rs⟩
  | rdt ys =>
    obtain ⟨p, vs, ex, q, rs⟩ := r
    have e : some ys = some xs := e
    cases e
    exact ⟨p, vs, ex, hr.sqT q, rs⟩
  | _ => cases e
theorem vSq_at (hr : HR B ρ F h H) {a : AV} {x : V} {xs : List AV} (r : RV B ρ F a x) (e : vSq h a = some xs) : ∃ p vs, x = .ref p ∧ (SqL B.K H p vs ∨ SqT B.K H p vs) ∧ RVs B ρ F xs vs := by
  unfold vSq at e
  cases k : vT a with
  | some ys =>
    rw [k] at e
    cases e
    obtain ⟨p, vs, ex, q, rs⟩ := vT_at hr r k
    exact ⟨p, vs, ex, .inr q, rs⟩
  | none =>
    rw [k] at e
    obtain ⟨p, vs, ex, q, rs⟩ := vLR_at hr r e
    exact ⟨p, vs, ex, .inl q, rs⟩
mutual
theorem RV.dp (hr : HR B ρ F h H) : ∀ (a : AV) (x : V), RV B ρ F a x → (py a).plain = true → Dp B.K H x (py a)
  | .non, x, r, _ => by have r : x = .non := r; subst r; exact Dp.non
  | .bl b, x, r, _ => by have r : x = .bl b := r; subst r; exact Dp.bl b
  | .int b, x, r, _ => by have r : x = .int b := r; subst r; exact Dp.int b
  | .str b, x, r, _ => by have r : x = .str b := r; subst r; exact Dp.str b
  | .tup xs, x, r, pl => by
    obtain ⟨p, vs, ex, q, rs⟩ := r
    subst ex
    have pl : PyData.plainAll (pys xs) = true := pl
    have z := RVs.dp hr xs vs rs pl
    exact Dp.tup (.inl (.inl (hr.got trivial q))) z
  | .rdt xs, x, r, pl => by
    obtain ⟨p, vs, ex, q, rs⟩ := r
    subst ex
    have pl : PyData.plainAll (pys xs) = true := pl
    have z := RVs.dp hr xs vs rs pl
    exact Dp.tup (hr.sqT q) z
  | .lst xs, x, r, pl => by
    obtain ⟨p, vs, ex, q, rs⟩ := r
    subst ex
    have pl : PyData.plainAll (pys xs) = true := pl
    have z := RVs.dp hr xs vs rs pl
    exact Dp.lst (.inl (.inl (hr.got trivial q))) z
  | .rdl xs, x, r, pl => by
    obtain ⟨p, vs, ex, q, rs⟩ := r
    subst ex
    have pl : PyData.plainAll (pys xs) = true := pl
    have z := RVs.dp hr xs vs rs pl
    exact Dp.lst (hr.sqL q) z
  | .dK _, _, _, pl => by cases pl
  | .dT _, _, _, pl => by cases pl
  | .ins _ _, _, _, pl => by cases pl
  | .ref _, _, _, pl => by cases pl
theorem RVs.dp (hr : HR B ρ F h H) : ∀ (xs : List AV) (vs : List V), RVs B ρ F xs vs → PyData.plainAll (pys xs) = true → DpAll B.K H vs (pys xs)
  | [], vs, r, _ => by have r : vs = [] := r; subst r; exact DpAll.nil
  | a :: xs, vs, r, pl => by
    obtain ⟨x, w, e, r1, r2⟩ := r
    subst e
    have pl : ((py a).plain && PyData.plainAll (pys xs)) = true := pl
    rw [Bool.and_eq_true] at pl
    exact DpAll.cons (RV.dp hr a x r1 pl.1) (RVs.dp hr xs w r2 pl.2)
end
theorem RV.dpv (hr : HR B ρ F h H) {a : AV} {x : V} (r : RV B ρ F a x) (pl : (pyv h a).plain = true) : Dp B.K H x (pyv h a) := by
  cases a with
  | ref n =>
    obtain ⟨p, ep, ex⟩ := r
    obtain ⟨o, eo, ro⟩ := hr.at' ep
    unfold pyv at pl ⊢
    simp only at pl ⊢
    rw [eo] at pl ⊢
    cases o with
    | lst ys =>
      obtain ⟨u, eu, vs, e1, rs⟩ := ro
      subst e1
      subst ex
      have pl : PyData.plainAll (pys ys) = true := pl
      exact Dp.lst (.inl (.inl eu)) (RVs.dp hr ys vs rs pl)
    | dK _ => cases pl
    | dT _ => cases pl
    | ins _ _ => cases pl
    | lck _ => cases pl
  | _ => exact RV.dp hr _ _ r pl
theorem RVs.append : ∀ {xs ys : List AV} {vs ws : List V}, RVs B ρ F xs vs → RVs B ρ F ys ws → RVs B ρ F (xs ++ ys) (vs ++ ws)
  | [], ys, vs, ws, r, s => by have r : vs = [] := r; subst r; exact s
  | a :: xs, ys, vs, ws, r, s => by
    obtain ⟨x, w, e, r1, r2⟩ := r
    subst e
    exact ⟨x, w ++ ws, rfl, r1, RVs.append r2 s⟩
theorem RVs.get : ∀ {xs : List AV} {vs : List V} {i : Nat} {a : AV}, RVs B ρ F xs vs → xs[i]? = some a → ∃ v, vs[i]? = some v ∧ RV B ρ F a v
  | [], vs, i, a, r, e => by simp at e
  | b :: xs, vs, 0, a, r, e => by
    obtain ⟨x, w, ev, r1, r2⟩ := r
    subst ev
    cases e
    exact ⟨x, rfl, r1⟩
  | b :: xs, vs, i + 1, a, r, e => by
    obtain ⟨x, w, ev, r1, r2⟩ := r
    subst ev
    exact RVs.get (i := i) r2 (by simpa using e)
theorem RVs.take : ∀ {xs : List AV} {vs : List V} (n : Nat), RVs B ρ F xs vs → RVs B ρ F (xs.take n) (vs.take n)
  | xs, vs, 0, r => rfl
  | [], vs, n + 1, r => by have r : vs = [] := r; subst r; exact rfl
  | b :: xs, vs, n + 1, r => by
    obtain ⟨x, w, ev, r1, r2⟩ := r
    subst ev
    exact ⟨x, w.take n, rfl, r1, RVs.take n r2⟩
theorem RVs.drop : ∀ {xs : List AV} {vs : List V} (n : Nat), RVs B ρ F xs vs → RVs B ρ F (xs.drop n) (vs.drop n)
  | xs, vs, 0, r => r
  | [], vs, n + 1, r => by have r : vs = [] := r; subst r; exact rfl
  | b :: xs, vs, n + 1, r => by
    obtain ⟨x, w, ev, r1, r2⟩ := r
    subst ev
    exact RVs.drop n r2
theorem RVs.set : ∀ {xs : List AV} {vs : List V} {a : AV} {v : V} (n : Nat), RVs B ρ F xs vs → RV B ρ F a v → RVs B ρ F (xs.set n a) (vs.set n v)
  | [], vs, a, v, n, r, s => by have r : vs = [] := r; subst r; exact rfl
  | b :: xs, vs, a, v, 0, r, s => by
    obtain ⟨x, w, ev, r1, r2⟩ := r
    subst ev
    exact ⟨v, w, rfl, s, r2⟩
  | b :: xs, vs, a, v, n + 1, r, s => by
    obtain ⟨x, w, ev, r1, r2⟩ := r
    subst ev
    exact ⟨x, w.set n v, rfl, r1, RVs.set n r2 s⟩
theorem RVs.nil_iff {xs : List AV} {vs : List V} (r : RVs B ρ F xs vs) : vs = [] ↔ xs = [] := by
  have e := RVs.length r
  constructor
  · intro z; subst z; exact List.eq_nil_of_length_eq_zero e
  · intro z; subst z; exact List.eq_nil_of_length_eq_zero e.symm
end

/-! ### operators -/
section
variable {B : Bx} {X : Cx}
def gAdd : G2 := fun a b h => match a, b with
  | .int i, .int j => some (.int (i + j))
  | .str x, .str y => if x.length + y.length ≤ sizeLine then some (.str (x ++ y)) else none
  | a, b => match vT a, vT b with
    | some xs, some ys => if xs.length + ys.length ≤ sizeLine then (match a, b with
      | .tup _, .tup _ => some (.tup (xs ++ ys))
      | _, _ => none) else none
    | _, _ => match vL h a, vL h b with
      | some xs, some ys => if xs.length + ys.length ≤ sizeLine then some (.lst (xs ++ ys)) else none
      | _, _ => none
theorem fin2 {pins : List (Addr × Obj)} {σ : L2.St} {H : Hp} {s : Shared} {Q : VK} {ρ : List Addr} {F : Hp} {h : AH} {c : AV} {v : V} {u : Value} (I : Inv X pins σ H s) (hr : HR B ρ F h H) (q : ∀ ρ' F' H' z, Ext ρ F H ρ' F' H' → HR B ρ' F' h H' → RV B ρ' F' c z → Q z H') (r : RelV v u) (rc : RV B ρ F c v) : EP X pins σ Q u s :=
  ⟨v, H, I, r, q _ _ _ _ Ext.refl hr rc⟩
theorem op_gAdd (hK : X.K = B.K := by rfl) : OpR X (binaryOp .Add) (rm2 B gAdd) := by
  intro pins s σ H x y v u Q I rx ry hh
  obtain ⟨ρ, F, h, a, b, c, hr, ra, rb, ec, q⟩ := hh
  unfold gAdd at ec
  split at ec
  · rename_i i j
    cases ec
    exact op_add pins s σ H x y v u Q I rx ry ⟨i, j, ra, rb, q _ _ _ _ Ext.refl hr rfl⟩
  · rename_i x1 y1
    split at ec
    · rename_i hz
      cases ec
      exact op_add_str pins s σ H x y v u Q I rx ry ⟨x1, y1, ra, rb, hz, q _ _ _ _ Ext.refl hr rfl⟩
    · cases ec
  · split at ec
    · rename_i xs ys e1 e2
      split at ec
      · rename_i hz
        split at ec
        · rename_i xs' ys' _ _
          cases ec
          cases e1
          cases e2
          obtain ⟨p, vs, ex, qa, rs⟩ := ra
          obtain ⟨p2, vs2, ex2, qb, rs2⟩ := rb
          refine op_catA pins s σ H x y v u Q I rx ry ⟨p, p2, vs, vs2, ex, ex2, .inl (.inl (hr.got trivial qa)), .inl (.inl (hr.got trivial qb)), by rw [← RVs.length rs, ← RVs.length rs2]; exact hz, fun z => ?_, fun z z2 => ?_, fun _ _ p3 hp => ?_⟩
          · subst ex2
            refine q _ _ _ _ Ext.refl hr ?_
            rw [rs.nil_iff.mp z, List.nil_append]
            exact ⟨p2, vs2, rfl, qb, rs2⟩
          · subst ex
            refine q _ _ _ _ Ext.refl hr ?_
            rw [rs2.nil_iff.mp z2, List.append_nil]
            exact ⟨p, vs, rfl, qa, rs⟩
          · obtain ⟨hr', ext⟩ := hr.newF hp (.tup (vs ++ vs2))
            exact q _ _ _ _ ext hr' ⟨p3, vs ++ vs2, rfl, upd_same, (rs.append rs2).ext ext⟩
        · cases ec
      · cases ec
    · split at ec
      · rename_i xs ys e1 e2
        split at ec
        · rename_i hz
          cases ec
          obtain ⟨p, vs, ex, qa, rs⟩ := vL_at hr ra e1
          obtain ⟨p2, vs2, ex2, qb, rs2⟩ := vL_at hr rb e2
          refine op_cat pins s σ H x y v u Q I rx ry ⟨p, p2, vs, vs2, ex, ex2, qa, qb, by rw [← RVs.length rs, ← RVs.length rs2]; exact hz, fun p3 hp => ?_⟩
          obtain ⟨hr', ext⟩ := hr.newF hp (.lst (vs ++ vs2))
          exact q _ _ _ _ ext hr' ⟨p3, vs ++ vs2, rfl, upd_same, (rs.append rs2).ext ext⟩
        · cases ec
      · cases ec
def gI2 (C : Int → Int → Prop) [∀ i j, Decidable (C i j)] (f : Int → Int → AV) : G2 := fun a b _ => match a, b with
  | .int i, .int j => if C i j then some (f i j) else none
  | _, _ => none
theorem op_gI2 {f : Value → Value → Sem Value} {C : Int → Int → Prop} [∀ i j, Decidable (C i j)] {g : Int → Int → Int} (ho : OpR X f (rI C fun i j => .int (g i j))) : OpR X f (rm2 B (gI2 C fun i j => .int (g i j))) := by
  intro pins s σ H x y v u Q I rx ry hh
  obtain ⟨ρ, F, h, a, b, c, hr, ra, rb, ec, q⟩ := hh
  unfold gI2 at ec
  split at ec
  · rename_i i j
    split at ec
    · rename_i hc
      cases ec
      exact ho pins s σ H x y v u Q I rx ry ⟨i, j, ra, rb, hc, q _ _ _ _ Ext.refl hr rfl⟩
    · cases ec
  · cases ec
theorem op_gI2' {f : Value → Value → Sem Value} {g : Int → Int → Int} (ho : OpR X f (rI0 fun i j => .int (g i j))) : OpR X f (rm2 B (gI2 (fun _ _ => True) fun i j => .int (g i j))) := by
  refine op_gI2 (C := fun _ _ => True) fun pins s σ H x y v u Q I rx ry hh => ?_
  obtain ⟨i, j, e1, e2, _, q⟩ := hh
  exact ho pins s σ H x y v u Q I rx ry ⟨i, j, e1, e2, q⟩
noncomputable instance {i j : Int} : Decidable (CMul i j) := Classical.propDecidable _
noncomputable instance {i j : Int} : Decidable (CDiv i j) := Classical.propDecidable _
noncomputable instance {i j : Int} : Decidable (CPow i j) := Classical.propDecidable _
abbrev gSub : G2 := gI2 (fun _ _ => True) fun i j => .int (i - j)
abbrev gMul : G2 := gI2 CMul fun i j => .int (i * j)
abbrev gDiv : G2 := gI2 CDiv fun i j => .int (i / j)
abbrev gMod : G2 := gI2 (fun _ j => 0 < j) fun i j => .int (i % j)
abbrev gPow : G2 := gI2 CPow fun i j => .int (i ^ j.toNat)
theorem op_gSub : OpR X (binaryOp .Sub) (rm2 B gSub) := op_gI2' op_sub
theorem op_gMul : OpR X (binaryOp .Mult) (rm2 B gMul) := op_gI2 op_mul
theorem op_gDiv : OpR X (binaryOp .FloorDiv) (rm2 B gDiv) := op_gI2 op_fdiv
theorem op_gMod : OpR X (binaryOp .Mod) (rm2 B gMod) := op_gI2 op_mod
theorem op_gPow : OpR X (binaryOp .Pow) (rm2 B gPow) := op_gI2 op_pow
def gNeg : G1 := fun a _ => match a with
  | .int i => some (.int (-i))
  | _ => none
theorem un_gNeg : UnR X (unaryOp .USub) (rm1 B gNeg) := by
  intro pins s σ H x v Q I rx hh
  obtain ⟨ρ, F, h, a, c, hr, ra, ec, q⟩ := hh
  unfold gNeg at ec
  split at ec
  · rename_i i
    cases ec
    exact un_neg pins s σ H x v Q I rx ⟨i, ra, q _ _ _ _ Ext.refl hr rfl⟩
  · cases ec
/-! ### comparisons -/
def okD (d e : PyData) : Bool := d.plain && e.plain && decide (min d.depth e.depth ≤ 60)
def gEq (neg : Bool) : G2 := fun a b h => if okD (pyv h a) (pyv h b) = true then some (.bl (if neg then !PyData.eqv (pyv h a) (pyv h b) else PyData.eqv (pyv h a) (pyv h b))) else none
theorem okD_of {d e : PyData} (h : okD d e = true) : d.plain = true ∧ e.plain = true ∧ min d.depth e.depth ≤ 60 := by
  unfold okD at h
  rw [Bool.and_eq_true, Bool.and_eq_true, decide_eq_true_eq] at h
  exact ⟨h.1.1, h.1.2, h.2⟩
theorem two_reads {pins : List (Addr × Obj)} {σ : L2.St} {H : Hp} {s : Shared} {ρ : List Addr} {F : Hp} {h : AH} {a : AV} {x : V} {v : Value} (hK : X.K = B.K) (I : Inv X pins σ H s) (hr : HR B ρ F h H) (ra : RV B ρ F a x) (rx : RelV x v) (pl : (pyv h a).plain = true) : ∃ as, Reads s.heap v (pyv h a) as :=
  Dp.reads I _ _ _ (by rw [hK]; exact ra.dpv hr pl) rx
theorem op_gEq (hu : X.A.units + 64 < cLine) (hK : X.K = B.K := by rfl) : OpR X (compareOp .Eq) (rm2 B (gEq false)) := by
  intro pins s σ H x y v u Q I rx ry hh
  obtain ⟨ρ, F, h, a, b, c, hr, ra, rb, ec, q⟩ := hh
  unfold gEq at ec
  split at ec
  · rename_i ok
    cases ec
    obtain ⟨p1, p2, p3⟩ := okD_of ok
    obtain ⟨as, r1⟩ := two_reads hK I hr ra rx p1
    obtain ⟨bs, r2⟩ := two_reads hK I hr rb ry p2
    exact SeqAt.eq_plain r1 r2 p1 p2 (by omega) ⟨.bl _, H, I, rfl, q _ _ _ _ Ext.refl hr rfl⟩
  · cases ec
theorem op_gNe (hu : X.A.units + 64 < cLine) (hK : X.K = B.K := by rfl) : OpR X (compareOp .NotEq) (rm2 B (gEq true)) := by
  intro pins s σ H x y v u Q I rx ry hh
  obtain ⟨ρ, F, h, a, b, c, hr, ra, rb, ec, q⟩ := hh
  unfold gEq at ec
  split at ec
  · rename_i ok
    cases ec
    obtain ⟨p1, p2, p3⟩ := okD_of ok
    obtain ⟨as, r1⟩ := two_reads hK I hr ra rx p1
    obtain ⟨bs, r2⟩ := two_reads hK I hr rb ry p2
    exact SeqAt.ne_plain r1 r2 p1 p2 (by omega) ⟨.bl _, H, I, rfl, q _ _ _ _ Ext.refl hr rfl⟩
  · cases ec
def okO (d e : PyData) : Bool := W.alike d e && d.plain && e.plain && (match d with | .none => false | _ => true) && decide (min d.depth e.depth ≤ 60)
def gOrd (p : Int → Int → Bool) (f : PyData → PyData → Bool) : G2 := fun a b h => match a, b with
  | .int i, .int j => some (.bl (p i j))
  | a, b => if okO (pyv h a) (pyv h b) = true then some (.bl (f (pyv h a) (pyv h b))) else none
theorem okO_of {d e : PyData} (h : okO d e = true) : W.alike d e = true ∧ d.plain = true ∧ e.plain = true ∧ d ≠ .none ∧ min d.depth e.depth ≤ 60 := by
  unfold okO at h
  simp only [Bool.and_eq_true, decide_eq_true_eq] at h
  obtain ⟨⟨⟨⟨h1, h2⟩, h3⟩, h4⟩, h5⟩ := h
  refine ⟨h1, h2, h3, fun z => ?_, h5⟩
  subst z
  cases h4
theorem op_gOrd {op : CmpOp} {p : Int → Int → Bool} {f : PyData → PyData → Bool} (hK : X.K = B.K) (ho : OpR X (compareOp op) (rI0 fun i j => .bl (p i j)))
    (hd : ∀ {s : Shared} {a b : Value} {da db : PyData} {as bs : List Addr} {Q : Value → Shared → Prop}, Reads s.heap a da as → Reads s.heap b db bs → W.alike da db = true → da ≠ .none → min da.depth db.depth ≤ 60 → Q (.bool (f da db)) s → wpAny (model X.prog X.w) X.A (compareOp op a b) Q X.xe s) : OpR X (compareOp op) (rm2 B (gOrd p f)) := by
  intro pins s σ H x y v u Q I rx ry hh
  obtain ⟨ρ, F, h, a, b, c, hr, ra, rb, ec, q⟩ := hh
  unfold gOrd at ec
  split at ec
  · rename_i i j
    cases ec
    exact ho pins s σ H x y v u Q I rx ry ⟨i, j, ra, rb, q _ _ _ _ Ext.refl hr rfl⟩
  · split at ec
    · rename_i ok
      cases ec
      obtain ⟨p0, p1, p2, p3, p4⟩ := okO_of ok
      obtain ⟨as, r1⟩ := two_reads hK I hr ra rx p1
      obtain ⟨bs, r2⟩ := two_reads hK I hr rb ry p2
      exact hd r1 r2 p0 p3 p4 ⟨.bl _, H, I, rfl, q _ _ _ _ Ext.refl hr rfl⟩
    · cases ec
abbrev gLt : G2 := gOrd (fun i j => decide (i < j)) fun d e => W.dataLt d e
abbrev gLe : G2 := gOrd (fun i j => decide (i ≤ j)) fun d e => !W.dataLt e d
abbrev gGt : G2 := gOrd (fun i j => decide (j < i)) fun d e => W.dataLt e d
abbrev gGe : G2 := gOrd (fun i j => decide (j ≤ i)) fun d e => !W.dataLt d e
theorem op_gLt (hu : X.A.units + 64 < cLine) (hK : X.K = B.K := by rfl) : OpR X (compareOp .Lt) (rm2 B gLt) := op_gOrd hK op_lt fun r1 r2 h n d q => W.lt_data r1 r2 h n (by omega) q
theorem op_gLe (hu : X.A.units + 64 < cLine) (hK : X.K = B.K := by rfl) : OpR X (compareOp .LtE) (rm2 B gLe) := op_gOrd hK op_le fun r1 r2 h n d q => W.le_data r1 r2 h n (by omega) q
theorem op_gGt (hu : X.A.units + 64 < cLine) (hK : X.K = B.K := by rfl) : OpR X (compareOp .Gt) (rm2 B gGt) := op_gOrd hK op_gt fun r1 r2 h n d q => W.gt_data r1 r2 h n (by omega) q
theorem op_gGe (hu : X.A.units + 64 < cLine) (hK : X.K = B.K := by rfl) : OpR X (compareOp .GtE) (rm2 B gGe) := op_gOrd hK op_ge fun r1 r2 h n d q => W.ge_data r1 r2 h n (by omega) q
def gIs (neg : Bool) : G2 := fun a b _ => match b with
  | .non => some (.bl (match a with | .non => !neg | _ => neg))
  | _ => none
end
end NC
end S3
end
section
set_option Elab.async false
set_option linter.all false
set_option maxRecDepth 100000
set_option maxHeartbeats 4000000
namespace S3
open PySem PySem.Spec PyProof.Rows L2
noncomputable section NC

/-! ### dicts as they are seen -/
def kget {κ : Type} [DecidableEq κ] : List (κ × AV) → κ → Option AV
  | [], _ => none
  | (k, a) :: r, j => if k = j then some a else kget r j
def kput {κ : Type} [DecidableEq κ] (kvs : List (κ × AV)) (k : κ) (v : AV) : List (κ × AV) :=
  if (kvs.any fun kv => decide (kv.1 = k)) = true then kvs.map (fun kv => if kv.1 = k then (kv.1, v) else kv) else kvs ++ [(k, v)]
def kdrop {κ : Type} [DecidableEq κ] (kvs : List (κ × AV)) (k : κ) : List (κ × AV) := kvs.filter fun kv => decide (kv.1 ≠ k)
def keyOf : AV → Option Key
  | .int i => some (.inl i)
  | .str x => some (.inr x)
  | _ => none
def keysOf : List AV → Option (List Key)
  | [] => some []
  | a :: r => match keyOf a, keysOf r with
    | some k, some ks => some (k :: ks)
    | _, _ => none
def keyT : AV → Option (List Key)
  | .tup xs => keysOf xs
  | _ => none
inductive DV where
  | k (kvs : List (Key × AV)) | t (kvs : List (List Key × AV))
def vD (h : AH) : AV → Option DV
  | .dK kvs => some (.k kvs)
  | .dT kvs => some (.t kvs)
  | .ref n => match h[n]? with
    | some (.dK kvs) => some (.k kvs)
    | some (.dT kvs) => some (.t kvs)
    | some (.lck (.dK kvs)) => some (.k kvs)
    | some (.lck (.dT kvs)) => some (.t kvs)
    | _ => none
  | _ => none
/-- what a dict holds at a key: none where it is no dict or the key is no key -/
def dGet (h : AH) (d k : AV) : Option (Option AV) := match vD h d with
  | some (.k kvs) => match keyOf k with
    | some j => some (kget kvs j)
    | none => none
  | some (.t kvs) => match keyT k with
    | some j => some (kget kvs j)
    | none => none
  | none => none
section
variable {B : Bx} {ρ : List Addr} {F H : Hp} {h : AH}
theorem RKs.get {kvs : List (Key × AV)} {ws : List (Key × V)} (r : RKs B ρ F kvs ws) (k : Key) : (kget kvs k = none ∧ valV ws k = none) ∨ ∃ a v, kget kvs k = some a ∧ valV ws k = some v ∧ RV B ρ F a v := by
  induction kvs generalizing ws with
  | nil =>
    have r : ws = [] := r
    subst r
    exact .inl ⟨rfl, rfl⟩
  | cons p r' ih =>
    obtain ⟨j, a⟩ := p
    obtain ⟨v, w, e, r1, r2⟩ := r
    subst e
    by_cases hk : j = k
    · exact .inr ⟨a, v, by unfold kget; rw [if_pos hk], valV_pos (p := (j, v)) hk, r1⟩
    · rcases ih r2 with ⟨q1, q2⟩ | ⟨a', v', q1, q2, q3⟩
      · exact .inl ⟨by unfold kget; rw [if_neg hk]; exact q1, by rw [valV_neg (p := (j, v)) hk]; exact q2⟩
      · exact .inr ⟨a', v', by unfold kget; rw [if_neg hk]; exact q1, by rw [valV_neg (p := (j, v)) hk]; exact q2, q3⟩
theorem RTs.get {kvs : List (List Key × AV)} {ws : List (List Key × V)} (r : RTs B ρ F kvs ws) (k : List Key) : (kget kvs k = none ∧ valV ws k = none) ∨ ∃ a v, kget kvs k = some a ∧ valV ws k = some v ∧ RV B ρ F a v := by
  induction kvs generalizing ws with
  | nil =>
    have r : ws = [] := r
    subst r
    exact .inl ⟨rfl, rfl⟩
  | cons p r' ih =>
    obtain ⟨j, a⟩ := p
    obtain ⟨v, w, e, r1, r2⟩ := r
    subst e
    by_cases hk : j = k
    · exact .inr ⟨a, v, by unfold kget; rw [if_pos hk], valV_pos (p := (j, v)) hk, r1⟩
    · rcases ih r2 with ⟨q1, q2⟩ | ⟨a', v', q1, q2, q3⟩
      · exact .inl ⟨by unfold kget; rw [if_neg hk]; exact q1, by rw [valV_neg (p := (j, v)) hk]; exact q2⟩
      · exact .inr ⟨a', v', by unfold kget; rw [if_neg hk]; exact q1, by rw [valV_neg (p := (j, v)) hk]; exact q2, q3⟩
theorem key_at {a : AV} {v : V} {k : Key} (r : RV B ρ F a v) (e : keyOf a = some k) : v = kV k := by
  cases a with
  | int i => cases e; exact r
  | str i => cases e; exact r
  | _ => cases e
theorem keys_at : ∀ {xs : List AV} {vs : List V} {ks : List Key}, RVs B ρ F xs vs → keysOf xs = some ks → vs = ks.map kV
  | [], vs, ks, r, e => by
    have r : vs = [] := r
    subst r
    cases e
    rfl
  | a :: xs, vs, ks, r, e => by
    obtain ⟨v, w, ev, r1, r2⟩ := r
    subst ev
    unfold keysOf at e
    split at e
    · rename_i k ks' e1 e2
      cases e
      rw [key_at r1 e1, keys_at r2 e2]
      rfl
    · cases e
theorem keyT_at (hr : HR B ρ F h H) {a : AV} {v : V} {ks : List Key} (r : RV B ρ F a v) (e : keyT a = some ks) : ∃ b, v = .ref b ∧ H b = some (.tup (ks.map kV)) := by
  cases a with
  | tup xs =>
    obtain ⟨p, vs, ev, q, rs⟩ := r
    have e : keysOf xs = some ks := e
    refine ⟨p, ev, ?_⟩
    rw [← keys_at rs e]
    exact hr.got trivial q
  | _ => cases e
theorem vD_at (hr : HR B ρ F h H) {a : AV} {x : V} {d : DV} (r : RV B ρ F a x) (e : vD h a = some d) : ∃ p, x = .ref p ∧ match d with
    | .k kvs => ∃ ws, Rd H p (.dK ws) ∧ RKs B ρ F kvs ws
    | .t kvs => ∃ ws, Rd H p (.dT ws) ∧ RTs B ρ F kvs ws := by
  cases a with
  | dK kvs =>
    obtain ⟨p, o, ws, ex, q, rs⟩ := r
    cases e
    exact ⟨p, ex, ws, .inr ⟨o, hr.sub _ _ q⟩, rs⟩
  | dT kvs =>
    obtain ⟨p, o, ws, ex, q, rs⟩ := r
    cases e
    exact ⟨p, ex, ws, .inr ⟨o, hr.sub _ _ q⟩, rs⟩
  | ref n =>
    obtain ⟨p, ep, ex⟩ := r
    obtain ⟨o, eo, ro⟩ := hr.at' ep
    have e : (match h[n]? with
      | some (.dK kvs) => some (DV.k kvs)
      | some (.dT kvs) => some (.t kvs)
      | some (.lck (.dK kvs)) => some (.k kvs)
      | some (.lck (.dT kvs)) => some (.t kvs)
      | _ => none) = some d := e
    rw [eo] at e
    refine ⟨p, ex, ?_⟩
    cases o with
    | dK kvs =>
      cases e
      obtain ⟨u, eu, ws, e1, rs⟩ := ro
      subst e1
      exact ⟨ws, .inl eu, rs⟩
    | dT kvs =>
      cases e
      obtain ⟨u, eu, ws, e1, rs⟩ := ro
      subst e1
      exact ⟨ws, .inl eu, rs⟩
    | lck o =>
      obtain ⟨ob, u, eu, ro⟩ := ro
      cases o with
      | dK kvs =>
        cases e
        obtain ⟨ws, e1, rs⟩ := ro
        subst e1
        exact ⟨ws, .inr ⟨ob, eu⟩, rs⟩
      | dT kvs =>
        cases e
        obtain ⟨ws, e1, rs⟩ := ro
        subst e1
        exact ⟨ws, .inr ⟨ob, eu⟩, rs⟩
      | _ => cases e
    | _ => cases e
  | _ => cases e
theorem dGet_at (hr : HR B ρ F h H) {a b : AV} {x y : V} {o : Option AV} (ra : RV B ρ F a x) (rb : RV B ρ F b y) (e : dGet h a b = some o) : ∃ p ov, x = .ref p ∧ DGet H p y ov ∧ ((o = none ∧ ov = none) ∨ ∃ c v, o = some c ∧ ov = some v ∧ RV B ρ F c v) := by
  unfold dGet at e
  split at e
  · rename_i kvs ed
    obtain ⟨p, ex, ws, rd, rs⟩ := vD_at hr ra ed
    split at e
    · rename_i k ek
      cases e
      refine ⟨p, valV ws k, ex, .inl ⟨ws, k, rd, key_at rb ek, rfl⟩, ?_⟩
      rcases RKs.get rs k with ⟨q1, q2⟩ | ⟨c, v, q1, q2, q3⟩
      · exact .inl ⟨q1, q2⟩
      · exact .inr ⟨c, v, q1, q2, q3⟩
    · cases e
  · rename_i kvs ed
    obtain ⟨p, ex, ws, rd, rs⟩ := vD_at hr ra ed
    split at e
    · rename_i k ek
      cases e
      obtain ⟨b', eb, hb⟩ := keyT_at hr rb ek
      refine ⟨p, valV ws k, ex, .inr ⟨ws, k, b', rd, eb, hb, rfl⟩, ?_⟩
      rcases RTs.get rs k with ⟨q1, q2⟩ | ⟨c, v, q1, q2, q3⟩
      · exact .inl ⟨q1, q2⟩
      · exact .inr ⟨c, v, q1, q2, q3⟩
    · cases e
  · cases e
end

/-! ### in -/
def gIn (neg : Bool) : G2 := fun a b h => match dGet h b a with
  | some o => some (.bl (if neg then !o.isSome else o.isSome))
  | none => match a, b with
    | .str x, .str y => some (.bl (if neg then !(!(Builtin.Str.occurrences y x 0 y.length 1).isEmpty) else !(Builtin.Str.occurrences y x 0 y.length 1).isEmpty))
    | a, b => match pyv h b with
      | .list ds => if okD (pyv h a) (.list ds) = true then some (.bl (if neg then !ds.any (fun z => PyData.eqv z (pyv h a)) else ds.any fun z => PyData.eqv z (pyv h a))) else none
      | .tuple ds => if okD (pyv h a) (.tuple ds) = true then some (.bl (if neg then !ds.any (fun z => PyData.eqv z (pyv h a)) else ds.any fun z => PyData.eqv z (pyv h a))) else none
      | _ => none
section
variable {B : Bx} {X : Cx}
theorem isSome_of {o : Option AV} {ov : Option V} {B : Bx} {ρ : List Addr} {F : Hp} (h : (o = none ∧ ov = none) ∨ ∃ c v, o = some c ∧ ov = some v ∧ RV B ρ F c v) : o.isSome = ov.isSome := by
  rcases h with ⟨rfl, rfl⟩ | ⟨c, v, rfl, rfl, _⟩ <;> rfl
theorem depth_in {ds : List PyData} {d : PyData} (h : min d.depth (PyData.list ds).depth ≤ 60) : min (PyData.depthAll ds) d.depth ≤ 60 := by
  have e : (PyData.list ds).depth = PyData.depthAll ds + 1 ∨ (PyData.list ds).depth = 1 + PyData.depthAll ds := by
    first
      | exact .inl rfl
      | exact .inr rfl
      | (left; simp [PyData.depth])
      | (right; simp [PyData.depth])
  omega
theorem depth_in' {ds : List PyData} {d : PyData} (h : min d.depth (PyData.tuple ds).depth ≤ 60) : min (PyData.depthAll ds) d.depth ≤ 60 := by
  have e : (PyData.tuple ds).depth = PyData.depthAll ds + 1 ∨ (PyData.tuple ds).depth = 1 + PyData.depthAll ds := by
    first
      | exact .inl rfl
      | exact .inr rfl
      | (left; simp [PyData.depth])
      | (right; simp [PyData.depth])
  omega
theorem op_gIn (hu : X.A.units + 64 < cLine) (hK : X.K = B.K := by rfl) : OpR X (compareOp .In) (rm2 B (gIn false)) := by
  intro pins s σ H x y v u Q I rx ry hh
  obtain ⟨ρ, F, h, a, b, c, hr, ra, rb, ec, q⟩ := hh
  unfold gIn at ec
  split at ec
  · rename_i o ed
    cases ec
    obtain ⟨p, ov, ex, g, w⟩ := dGet_at hr rb ra ed
    subst ex
    obtain rfl : u = Value.ref p := ry
    exact d_in (by omega) I g rx fun s' I' => ⟨.bl ov.isSome, H, I', rfl, q _ _ _ _ Ext.refl hr (by rw [← isSome_of w]; rfl)⟩
  · split at ec
    · rename_i x1 y1 _
      cases ec
      exact op_in_str pins s σ H x y v u Q I rx ry ⟨x1, y1, ra, rb, q _ _ _ _ Ext.refl hr rfl⟩
    · split at ec
      · rename_i ds ed
        split at ec
        · rename_i ok
          cases ec
          obtain ⟨p1, p2, p3⟩ := okD_of ok
          obtain ⟨as, r1⟩ := two_reads hK I hr ra rx p1
          obtain ⟨bs, r2⟩ := two_reads hK I hr rb ry (by rw [ed]; exact p2)
          rw [ed] at r2
          have := depth_in p3
          exact SeqAt.in_list_data r2 r1 p2 p1 (by omega) ⟨.bl _, H, I, rfl, q _ _ _ _ Ext.refl hr rfl⟩
        · cases ec
      · rename_i ds ed
        split at ec
        · rename_i ok
          cases ec
          obtain ⟨p1, p2, p3⟩ := okD_of ok
          obtain ⟨as, r1⟩ := two_reads hK I hr ra rx p1
          obtain ⟨bs, r2⟩ := two_reads hK I hr rb ry (by rw [ed]; exact p2)
          rw [ed] at r2
          have := depth_in' p3
          exact SeqAt.in_tuple_data r2 r1 p2 p1 (by omega) ⟨.bl _, H, I, rfl, q _ _ _ _ Ext.refl hr rfl⟩
        · cases ec
      · cases ec
theorem op_gNotIn (hu : X.A.units + 64 < cLine) (hK : X.K = B.K := by rfl) : OpR X (compareOp .NotIn) (rm2 B (gIn true)) := by
  intro pins s σ H x y v u Q I rx ry hh
  obtain ⟨ρ, F, h, a, b, c, hr, ra, rb, ec, q⟩ := hh
  unfold gIn at ec
  split at ec
  · rename_i o ed
    cases ec
    obtain ⟨p, ov, ex, g, w⟩ := dGet_at hr rb ra ed
    subst ex
    obtain rfl : u = Value.ref p := ry
    exact d_notIn (by omega) I g rx fun s' I' => ⟨.bl (!ov.isSome), H, I', rfl, q _ _ _ _ Ext.refl hr (by rw [← isSome_of w]; rfl)⟩
  · split at ec
    · rename_i x1 y1 _
      cases ec
      exact op_notIn_str pins s σ H x y v u Q I rx ry ⟨x1, y1, ra, rb, q _ _ _ _ Ext.refl hr rfl⟩
    · split at ec
      · rename_i ds ed
        split at ec
        · rename_i ok
          cases ec
          obtain ⟨p1, p2, p3⟩ := okD_of ok
          obtain ⟨as, r1⟩ := two_reads hK I hr ra rx p1
          obtain ⟨bs, r2⟩ := two_reads hK I hr rb ry (by rw [ed]; exact p2)
          rw [ed] at r2
          have := depth_in p3
          exact SeqAt.notIn_list_data r2 r1 p2 p1 (by omega) ⟨.bl _, H, I, rfl, q _ _ _ _ Ext.refl hr rfl⟩
        · cases ec
      · rename_i ds ed
        split at ec
        · rename_i ok
          cases ec
          obtain ⟨p1, p2, p3⟩ := okD_of ok
          obtain ⟨as, r1⟩ := two_reads hK I hr ra rx p1
          obtain ⟨bs, r2⟩ := two_reads hK I hr rb ry (by rw [ed]; exact p2)
          rw [ed] at r2
          have := depth_in' p3
          exact SeqAt.notIn_tuple_data r2 r1 p2 p1 (by omega) ⟨.bl _, H, I, rfl, q _ _ _ _ Ext.refl hr rfl⟩
        · cases ec
      · cases ec
theorem op_gIs : OpR X (compareOp .Is) (rm2 B (gIs false)) := by
  intro pins s σ H x y v u Q I rx ry hh
  obtain ⟨ρ, F, h, a, b, c, hr, ra, rb, ec, q⟩ := hh
  unfold gIs at ec
  split at ec
  · cases ec
    have rb : y = .non := rb
    refine op_isN pins s σ H x y v u Q I rx ry ⟨rb, q _ _ _ _ Ext.refl hr ?_⟩
    cases a with
    | non => have ra : x = .non := ra; subst ra; rfl
    | bl b => have ra : x = .bl b := ra; subst ra; rfl
    | int b => have ra : x = .int b := ra; subst ra; rfl
    | str b => have ra : x = .str b := ra; subst ra; rfl
    | tup _ => obtain ⟨p, vs, e, _⟩ := ra; subst e; rfl
    | lst _ => obtain ⟨p, vs, e, _⟩ := ra; subst e; rfl
    | rdl _ => obtain ⟨p, vs, e, _⟩ := ra; subst e; rfl
    | rdt _ => obtain ⟨p, vs, e, _⟩ := ra; subst e; rfl
    | dK _ => obtain ⟨p, _, vs, e, _⟩ := ra; subst e; rfl
    | dT _ => obtain ⟨p, _, vs, e, _⟩ := ra; subst e; rfl
    | ins _ _ => obtain ⟨p, _, _, vs, e, _⟩ := ra; subst e; rfl
    | ref _ => obtain ⟨p, _, e⟩ := ra; subst e; rfl
  · cases ec
theorem op_gIsNot : OpR X (compareOp .IsNot) (rm2 B (gIs true)) := by
  intro pins s σ H x y v u Q I rx ry hh
  obtain ⟨ρ, F, h, a, b, c, hr, ra, rb, ec, q⟩ := hh
  unfold gIs at ec
  split at ec
  · cases ec
    have rb : y = .non := rb
    refine op_notN pins s σ H x y v u Q I rx ry ⟨rb, q _ _ _ _ Ext.refl hr ?_⟩
    cases a with
    | non => have ra : x = .non := ra; subst ra; rfl
    | bl b => have ra : x = .bl b := ra; subst ra; rfl
    | int b => have ra : x = .int b := ra; subst ra; rfl
    | str b => have ra : x = .str b := ra; subst ra; rfl
    | tup _ => obtain ⟨p, vs, e, _⟩ := ra; subst e; rfl
    | lst _ => obtain ⟨p, vs, e, _⟩ := ra; subst e; rfl
    | rdl _ => obtain ⟨p, vs, e, _⟩ := ra; subst e; rfl
    | rdt _ => obtain ⟨p, vs, e, _⟩ := ra; subst e; rfl
    | dK _ => obtain ⟨p, _, vs, e, _⟩ := ra; subst e; rfl
    | dT _ => obtain ⟨p, _, vs, e, _⟩ := ra; subst e; rfl
    | ins _ _ => obtain ⟨p, _, _, vs, e, _⟩ := ra; subst e; rfl
    | ref _ => obtain ⟨p, _, e⟩ := ra; subst e; rfl
  · cases ec

/-! ### subscripts -/
theorem ix_dict (hu : X.A.units + 1 < cLine) : IxR X (fun x y H Q => ∃ a v, x = .ref a ∧ DGet H a y (some v) ∧ Q v H) := by
  intro value slice pins s σ H x y v u Q I rx ry hq hs
  obtain ⟨a, w, ex, g, q⟩ := hq
  subst ex
  obtain rfl : v = Value.ref a := rx
  unfold subscriptTail
  have hT := dict_typeIs I g
  refine wpAny_bind ?_
  rw [getitemInPython_of_ne hT.not_modules]
  refine wpAny_bind (wpAny_specialOf hT PySem.F.slot_dict_getitem.lookup ?_)
  have fin : wpAny (model X.prog X.w) X.A (subscripted slice false (.ref a) u) (fun r s₃ => wpAny (model X.prog X.w) X.A (letTemporaryGo value (.ref a) r >>= fun _ => pure r) (EP X pins σ Q) X.xe s₃) X.xe s := by
    rw [hs]
    exact wpAny_operating (wpAny_mono (d_getItem hu I g ry fun w' s3 I3 rw' => (⟨w, H, I3, rw', q⟩ : EP X pins σ Q w' s3)) (fun r s₃ h₃ => wpAny_bind (wpAny_letTemporaryGo (wpAny_pure h₃))) fun _ _ x => x)
  first
    | exact wpAny_pure (wpAny_bind fin)
    | exact wpAny_bind (wpAny_pure (wpAny_bind fin))
    | exact wpAny_bind fin
def gIx : G2 := fun a b h => match dGet h a b with
  | some o => o
  | none => match a, b with
    | .str z, .int i => if z.length ≤ sizeLine then (atI z.cps.toList i).map fun c => .str ⟨#[c]⟩ else none
    | a, .int i => match vT a with
      | some xs => atI xs i
      | none => match vLR h a with
        | some xs => atI xs i
        | none => none
    | _, _ => none
theorem RVs.at {ρ : List Addr} {F : Hp} {xs : List AV} {vs : List V} {i : Int} {a : AV} (r : RVs B ρ F xs vs) (e : atI xs i = some a) : ∃ v, atI vs i = some v ∧ RV B ρ F a v := by
  unfold atI at e ⊢
  rw [← RVs.length r]
  cases k : ixN xs.length i with
  | none => rw [k] at e; cases e
  | some j =>
    rw [k] at e
    exact RVs.get (i := j) r e
theorem ix_gIx (hu : X.A.units + 64 < cLine) (hK : X.K = B.K := by rfl) : IxR X (rm2 B gIx) := by
  intro value slice pins s σ H x y v u Q I rx ry hh hs
  obtain ⟨ρ, F, h, a, b, c, hr, ra, rb, ec, q⟩ := hh
  unfold gIx at ec
  split at ec
  · rename_i o ed
    subst ec
    obtain ⟨p, ov, ex, g, w⟩ := dGet_at hr ra rb ed
    rcases w with ⟨e1, _⟩ | ⟨c', v', e1, e2, rc⟩
    · cases e1
    · cases e1
      subst e2
      exact ix_dict (by omega) value slice pins s σ H x y v u Q I rx ry ⟨p, v', ex, g, q _ _ _ _ Ext.refl hr rc⟩ hs
  · split at ec
    · rename_i z i _
      split at ec
      · rename_i hz
        cases k : atI z.cps.toList i with
        | none => rw [k] at ec; cases ec
        | some ch =>
          rw [k] at ec
          cases ec
          exact ix_str value slice pins s σ H x y v u Q I rx ry ⟨z, i, ch, ra, rb, hz, k, q _ _ _ _ Ext.refl hr rfl⟩ hs
      · cases ec
    · rename_i i _ _ _
      split at ec
      · rename_i xs et
        obtain ⟨p, vs, ex, qt, rs⟩ := vT_at hr ra et
        obtain ⟨w, ew, rw'⟩ := RVs.at rs ec
        exact ix_tup value slice pins s σ H x y v u Q I rx ry ⟨p, vs, _, w, ex, rb, by rw [hK]; exact qt, ew, q _ _ _ _ Ext.refl hr rw'⟩ hs
      · split at ec
        · rename_i xs el
          obtain ⟨p, vs, ex, ql, rs⟩ := vLR_at hr ra el
          obtain ⟨w, ew, rw'⟩ := RVs.at rs ec
          exact ix_list value slice pins s σ H x y v u Q I rx ry ⟨p, vs, _, w, ex, rb, by rw [hK]; exact ql, ew, q _ _ _ _ Ext.refl hr rw'⟩ hs
        · cases ec
    · cases ec
variable {W : WX}
theorem se_ix {a b : Expr} {ma mb : ME} {pos : Pos} (hu : X.A.units + 64 < cLine) (ha : SE B X W a ma) (hb : SE B X W b mb) (hs : PlainIx b := by intro _ _; rfl) (hK : X.K = B.K := by rfl) : SE B X W (.Subscript a b pos) (mBin gIx ma mb) :=
  PE.imp (pe_ix (ix_gIx hu hK) ha hb hs) fun _ _ _ h => bin_imp h
/-! ### slices -/
def cutA (xs : List AV) (lo hi : Option Int) : List AV := (xs.drop (HT.sIx xs.length 0 lo)).take (HT.sIx xs.length xs.length hi - HT.sIx xs.length 0 lo)
theorem RVs.cut {ρ : List Addr} {F : Hp} {xs : List AV} {vs : List V} (r : RVs B ρ F xs vs) (lo hi : Option Int) : RVs B ρ F (cutA xs lo hi) (cutV vs lo hi) := by
  unfold cutA cutV
  rw [← RVs.length r]
  exact (r.drop _).take _
abbrev MO := Sl → AH → Rs (Option Int)
def RO : Rl (Option Int) (Option Int) := fun _ _ a b => a = b
abbrev tmO (B : Bx) (W : WX) (m : MO) : TO := tmG B RO W m
abbrev SO (B : Bx) (X : Cx) (W : WX) (e : Option Expr) (m : MO) : Prop := PO X e (tmO B W m)
def mNoPart : MO := fun _ h => .ok none h
def mPart (m : ME) : MO := fun s h => (m s h).bind fun a h1 => match a with
  | .int i => .ok (some i) h1
  | _ => .stk
theorem PO.imp {e : Option Expr} {t t' : TO} (h : PO X e t) (w : ∀ σ H Q, t' σ H Q → t σ H Q) : PO X e t' := ⟨fun pins s σ H Q I q => h.run pins s σ H Q I (w σ H Q q)⟩
theorem so_none : SO B X W none mNoPart := PO.imp po_none fun σ H Q ⟨ρ, F, h, s, sr, hr, p⟩ => p ρ F H none Ext.refl hr rfl
theorem so_some {e : Expr} {m : ME} (he : SE B X W e m) : SO B X W (some e) (mPart m) := PO.imp (po_some he) fun σ H Q ⟨ρ, F, h, s, sr, hr, p⟩ => ⟨ρ, F, h, s, sr, hr, p.andThen fun a h1 ρ1 F1 H1 x _ e1 hr1 ra p1 => by
  cases a with
  | int i => exact ⟨i, ra, p1 ρ1 F1 H1 (some i) Ext.refl hr1 rfl⟩
  | _ => exact p1.elim⟩
def gSl (a : AV) (lo hi : Option Int) (h : AH) : Option AV := match a with
  | .str z => if z.length ≤ sizeLine then some (.str (cutS z lo hi)) else none
  | .tup xs => some (.tup (cutA xs lo hi))
  | a => match vLR h a with
    | some xs => some (.lst (cutA xs lo hi))
    | none => none
def rmSl (B : Bx) : V → Option Int → Option Int → Hp → VK → Prop := fun x lo hi H Q => ∃ ρ F h a c, HR B ρ F h H ∧ RV B ρ F a x ∧ gSl a lo hi h = some c ∧ ∀ ρ' F' H' z, Ext ρ F H ρ' F' H' → HR B ρ' F' h H' → RV B ρ' F' c z → Q z H'
theorem sl_gSl (hK : X.K = B.K := by rfl) : SlR X (rmSl B) := by
  intro pins s σ H x v vl vu lo hi sl Q I rx hs pl pu hh
  obtain ⟨ρ, F, h, a, c, hr, ra, ec, q⟩ := hh
  unfold gSl at ec
  split at ec
  · rename_i z
    split at ec
    · rename_i hz
      cases ec
      exact sl_str pins s σ H x v vl vu lo hi sl Q I rx hs pl pu ⟨z, ra, hz, q _ _ _ _ Ext.refl hr rfl⟩
    · cases ec
  · rename_i xs
    cases ec
    obtain ⟨p, vs, ex, qt, rs⟩ := ra
    refine sl_tupA pins s σ H x v vl vu lo hi sl Q I rx hs pl pu ⟨p, vs, ex, .inl (.inl (hr.got trivial qt)), fun whole => ?_, fun _ p2 hp => ?_⟩
    · refine q _ _ _ _ Ext.refl hr ⟨p, vs, rfl, qt, ?_⟩
      have e : cutV vs lo hi = vs := by
        unfold cutV
        rw [whole.1, whole.2, List.drop_zero, Nat.sub_zero, List.take_length]
      have := rs.cut lo hi
      rw [e] at this
      exact this
    · obtain ⟨hr', ext⟩ := hr.newF hp (.tup (cutV vs lo hi))
      exact q _ _ _ _ ext hr' ⟨p2, _, rfl, upd_same, (rs.cut lo hi).ext ext⟩
  · split at ec
    · rename_i xs el
      cases ec
      obtain ⟨p, vs, ex, ql, rs⟩ := vLR_at hr ra el
      refine sl_list pins s σ H x v vl vu lo hi sl Q I rx hs pl pu ⟨p, vs, ex, by rw [hK]; exact ql, fun p2 hp => ?_⟩
      obtain ⟨hr', ext⟩ := hr.newF hp (.lst (cutV vs lo hi))
      exact q _ _ _ _ ext hr' ⟨p2, _, rfl, upd_same, (rs.cut lo hi).ext ext⟩
    · cases ec
def mSl (ma : ME) (lo hi : MO) : ME := fun s h => (ma s h).bind fun a h1 => (lo s h1).bind fun l h2 => (hi s h2).bind fun u h3 => ofO (gSl a l u h3) h3
theorem se_slice {a : Expr} {lo hi : Option Expr} {ma : ME} {ml mh : MO} {p2 pos : Pos} (ha : SE B X W a ma) (hl : SO B X W lo ml) (hh : SO B X W hi mh) (hK : X.K = B.K := by rfl) : SE B X W (.Subscript a (.Slice lo hi none p2) pos) (mSl ma ml mh) :=
  PE.imp (pe_slice (sl_gSl hK) ha hl hh) fun σ H Q ⟨ρ, F, h, s, sr, hr, p⟩ => ⟨ρ, F, h, s, sr, hr, p.andThen fun a h1 ρ1 F1 H1 x _ e1 hr1 ra p1 =>
    ⟨ρ1, F1, h1, s, sr.ext e1, hr1, p1.andThen fun l h2 ρ2 F2 H2 lv _ e2 hr2 rl p2 =>
      ⟨ρ2, F2, h2, s, (sr.ext e1).ext e2, hr2, p2.andThen fun u h3 ρ3 F3 H3 uv _ e3 hr3 ru p3 => by
        cases rl
        cases ru
        obtain ⟨c, ec, q⟩ := ofO_post p3
        exact ⟨ρ3, F3, h3, a, c, hr3, (ra.ext e2).ext e3, ec, q⟩⟩⟩⟩
end
end NC
end S3
end
section
set_option Elab.async false
set_option linter.all false
set_option maxRecDepth 100000
set_option maxHeartbeats 4000000
namespace S3
open PySem PySem.Spec PyProof.Rows L2
noncomputable section NC

/-! ### instances -/
def vIns (c : Str) (h : AH) : AV → Option (List (Str × AV))
  | .ins d fs => if d = c then some fs else none
  | .ref n => match h[n]? with
    | some (.ins d fs) => if d = c then some fs else none
    | _ => none
  | _ => none
section
variable {B : Bx} {ρ : List Addr} {F H : Hp} {h : AH}
theorem RFs.get {fs : List (Str × AV)} {ws : List (Str × V)} (r : RFs B ρ F fs ws) (f : Str) : (fs.lookup f = none ∧ ws.lookup f = none) ∨ ∃ a v, fs.lookup f = some a ∧ ws.lookup f = some v ∧ RV B ρ F a v := by
  induction fs generalizing ws with
  | nil =>
    have r : ws = [] := r
    subst r
    exact .inl ⟨rfl, rfl⟩
  | cons p r' ih =>
    obtain ⟨j, a⟩ := p
    obtain ⟨v, w, e, r1, r2⟩ := r
    subst e
    rw [List.lookup_cons, List.lookup_cons]
    cases hk : f == j with
    | true => exact .inr ⟨a, v, rfl, rfl, r1⟩
    | false => exact ih r2
theorem RFs.length {fs : List (Str × AV)} {ws : List (Str × V)} (r : RFs B ρ F fs ws) : fs.length = ws.length := by
  induction fs generalizing ws with
  | nil =>
    have r : ws = [] := r
    subst r
    rfl
  | cons p r' ih =>
    obtain ⟨j, a⟩ := p
    obtain ⟨v, w, e, r1, r2⟩ := r
    subst e
    rw [List.length_cons, List.length_cons, ih r2]
def putA (f : Str) (v : AV) : List (Str × AV) → List (Str × AV)
  | [] => [(f, v)]
  | (g, w) :: r => if g = f then (g, v) :: r else (g, w) :: putA f v r
theorem RFs.put {fs : List (Str × AV)} {ws : List (Str × V)} (r : RFs B ρ F fs ws) {f : Str} {a : AV} {v : V} (rv : RV B ρ F a v) : RFs B ρ F (putA f a fs) (putF f v ws) := by
  induction fs generalizing ws with
  | nil =>
    have r : ws = [] := r
    subst r
    exact ⟨v, [], rfl, rv, rfl⟩
  | cons p r' ih =>
    obtain ⟨j, b⟩ := p
    obtain ⟨x, w, e, r1, r2⟩ := r
    subst e
    unfold putA putF
    by_cases hk : j = f
    · rw [if_pos hk, if_pos hk]
      exact ⟨v, w, rfl, rv, r2⟩
    · rw [if_neg hk, if_neg hk]
      exact ⟨x, putF f v w, rfl, r1, ih r2⟩
theorem vIns_at (hr : HR B ρ F h H) {c : Str} {a : AV} {x : V} {fs : List (Str × AV)} (r : RV B ρ F a x) (e : vIns c h a = some fs) : ∃ p C dx ws, x = .ref p ∧ B.mg c = some (.ref C) ∧ H p = some (.ins C dx ws) ∧ RFs B ρ F fs ws := by
  cases a with
  | ins d gs =>
    obtain ⟨p, C, dx, ws, ex, hm, q, rs⟩ := r
    have e : (if d = c then some gs else none) = some fs := e
    split at e
    · rename_i hd
      cases e
      subst hd
      exact ⟨p, C, dx, ws, ex, hm, hr.got trivial q, rs⟩
    · cases e
  | ref n =>
    obtain ⟨p, ep, ex⟩ := r
    obtain ⟨o, eo, ro⟩ := hr.at' ep
    have e : (match h[n]? with
      | some (.ins d fs) => if d = c then some fs else none
      | _ => none) = some fs := e
    rw [eo] at e
    cases o with
    | ins d gs =>
      have e : (if d = c then some gs else none) = some fs := e
      split at e
      · rename_i hd
        cases e
        subst hd
        obtain ⟨u, eu, C, dx, ws, e1, hm, rs⟩ := ro
        subst e1
        exact ⟨p, C, dx, ws, ex, hm, eu, rs⟩
      · cases e
    | _ => cases e
  | _ => cases e
/-- a new thing of its own, told by nobody -/
theorem HR.newP (x : HR B ρ F h H) {p : Addr} (n : H p = none) (u : HO) : HR B ρ F h (upd H p u) ∧ Ext ρ F H ρ F (upd H p u) := by
  have no : p ∉ ρ := x.out n
  refine ⟨⟨fun q w e => ?_, x.len, x.nd, x.sep, fun i q ob e1 e2 => OR.to (fun _ _ e => e) (fun _ _ e => e) (fun w e => upd_old n _ _ e) (x.obj i q ob e1 e2), x.tab.ext (upd_old n), x.ntb⟩,
    ⟨fun _ _ e => e, fun _ _ e => e, fun q w e _ _ => upd_old n _ _ e, fun _ _ _ _ _ f => f, fun _ _ _ _ m => m, fun q o w e => upd_old n _ _ e⟩⟩
  exact upd_old n _ _ (x.sub q w e)
end
/-- a class of the text: its instances may be read and written, these names are no attributes of the class -/
structure ClsF (B : Bx) (c : Str) (fs : List Str) : Prop where
  cls : ∀ C, B.mg c = some (.ref C) → Cls B.K C
  no : ∀ C, B.mg c = some (.ref C) → ∀ f, f ∈ fs → NoAttr B.K C f
section
variable {B : Bx} {X : Cx} {W : WX}
def gFld (c f : Str) : G1 := fun a h => match vIns c h a with
  | some fs => fs.lookup f
  | none => none
theorem se_fld {e : Expr} {c f : Str} {L : List Str} {m : ME} {pos : Pos} (hc : ClsF B c L) (hf : f ∈ L) (he : SE B X W e m) (hb : attributeBase e f X.env (eval e X.env) = eval e X.env := by rfl) (hK : X.K = B.K := by rfl) : SE B X W (.Attribute e f pos) (mUn (gFld c f) m) :=
  PE.imp (pe_fld he hb) fun σ H Q ⟨ρ, F, h, s, sr, hr, p⟩ => ⟨ρ, F, h, s, sr, hr, p.andThen fun a h1 ρ1 F1 H1 x _ e1 hr1 ra p1 => by
    obtain ⟨r, er, q⟩ := ofO_post p1
    unfold gFld at er
    split at er
    · rename_i fs ei
      obtain ⟨a', C, dx, ws, ex, hm, hp, rs⟩ := vIns_at hr1 ra ei
      rcases RFs.get rs f with ⟨z, _⟩ | ⟨b, v, z1, z2, rv⟩
      · rw [er] at z; cases z
      · rw [er] at z1
        cases z1
        exact ⟨a', C, dx, ws, v, ex, hp, by rw [hK]; exact hc.cls C hm, by rw [hK]; exact hc.no C hm f hf, z2, q _ _ _ _ Ext.refl hr1 rv⟩
    · cases er⟩

/-! ### calls -/
abbrev Fn := List AV → AH → Rs AV
def spF (B : Bx) (g : Fn) : Sp := fun vs H Q E => ∃ ρ F h as, HR B ρ F h H ∧ RVs B ρ F as vs ∧ Post B (RV B) ρ F H (g as h) Q E
/-- the def at f does what g says -/
abbrev FnS (B : Bx) (X : Cx) (k : Nat) (f : Addr) (fd : FuncData) (ps : List Str) (g : Fn) : Prop := FnOk X.prog X.w X.K X.mg X.base (L2.CX X.prog X.w) k f fd ps (spF B g)
def mCall (g : Fn) (m : MA) : ME := fun s h => (m s h).bind g
theorem call_imp {g : Fn} {m : MA} {σ : L2.St} {H : Hp} {Q : VK} (h : tm B W (mCall g m) σ H Q) : tmA B W m σ H fun vs H1 => spF B g vs H1 Q (WE W σ) := by
  obtain ⟨ρ, F, h, s, sr, hr, p⟩ := h
  exact ⟨ρ, F, h, s, sr, hr, p.andThen fun as h1 ρ1 F1 H1 vs _ e1 hr1 ra p1 => ⟨ρ1, F1, h1, as, hr1, ra, p1⟩⟩
section
variable {k : Nat} {f C : Addr} {fd : FuncData} {ps : List Str} {g : Fn} {x m c : Str} {p pos apos : Pos} {e o : Expr} {es : List Expr} {ma : MA} {mo : ME}
theorem se_call (Fo : FnS B X k f fd ps g) (hr : Room k X.A) (hg : Gl X x) (hm : X.mg x = some (.ref f)) (hk : PySem.W.keepIn X.K (.ref f) = true) (hb : Binds X.K fd ps []) (tk : Takes X W)
    (ha : SA B X W (e :: es) ma) (hdb : (x == ("__debug__" : Str)) = false := by decide) (he : starEach (e :: es) X.env = (false, eval e X.env) :: starEach es X.env := by rfl) (hpl : (backTo pos (starEach es X.env)).any (·.1) = false := by rfl) :
    SE B X W (.Call (.Name x p) (e :: es) [] pos) (mCall g ma) :=
  PE.imp (pe_callS Fo hr hg hm hk hb (passAt tk) ha hdb he hpl) fun σ H Q h => call_imp h
theorem se_call0 (Fo : FnS B X k f fd ps g) (hr : Room k X.A) (hg : Gl X x) (hm : X.mg x = some (.ref f)) (hk : PySem.W.keepIn X.K (.ref f) = true) (hb : Binds X.K fd ps []) (tk : Takes X W)
    (hdb : (x == ("__debug__" : Str)) = false := by decide) : SE B X W (.Call (.Name x p) [] [] pos) (mCall g mNil) := by
  refine ⟨fun pins s σ H Q I h => ?_⟩
  refine wpAny_Call_Name_kw (ld_glob I hg hm ?_ hdb)
  obtain ⟨ρ, F, h0, s0, sr, hr0, p⟩ := h
  exact PySem.W.callWith_K0 I.kIn hk (run_fnS (E := WE W) (us := []) (vs := []) Fo hr hb (passAt tk σ) I .nil ⟨ρ, F, h0, [], hr0, rfl, p⟩)
def mMeth (c m : Str) (g : Fn) (mo : ME) (ma : MA) : ME := fun s h => (mo s h).bind fun a h1 => match vIns c h1 a with
  | some fs => if (fs.lookup m).isNone = true then (ma s h1).bind fun as h2 => g (a :: as) h2 else .stk
  | none => .stk
theorem meth_at {a : AV} {y : V} {h : AH} {ρ : List Addr} {F H : Hp} {s : Sl} {σ : L2.St} {Q : VK} (hm : B.mg c = some (.ref C)) (sr : SR B ρ F s σ) (hr : HR B ρ F h H) (ra : RV B ρ F a y)
    (p : Post B (RV B) ρ F H (match vIns c h a with
      | some fs => if (fs.lookup m).isNone = true then (ma s h).bind fun as h2 => g (a :: as) h2 else .stk
      | none => .stk) Q (fun cls d H' => W cls d σ H')) :
    ∃ q dx ws, y = .ref q ∧ H q = some (.ins C dx ws) ∧ ws.lookup m = none ∧ tmA B W ma σ H fun vs H2 => spF B g (y :: vs) H2 Q (WE W σ) := by
  split at p
  · rename_i fs ei
    split at p
    · rename_i hn
      obtain ⟨q, C', dx, ws, ey, hm', hq, rs⟩ := vIns_at hr ra ei
      rw [hm] at hm'
      cases hm'
      refine ⟨q, dx, ws, ey, hq, ?_, ρ, F, h, s, sr, hr, p.andThen fun as h1 ρ1 F1 H1 vs _ e1 hr1 rs1 p1 => ⟨ρ1, F1, h1, a :: as, hr1, ⟨y, vs, rfl, ra.ext e1, rs1⟩, p1⟩⟩
      rcases RFs.get rs m with ⟨_, z⟩ | ⟨b, v, z1, z2, rv⟩
      · exact z
      · rw [z1] at hn; cases hn
    · exact p.elim
  · exact p.elim
theorem se_meth {pl : Sem Bool} (ho : SE B X W o mo) (hC : B.mg c = some (.ref C)) (cl : Cls X.K C) (hm : Meth X.K C m f) (Fo : FnS B X k f fd ps g) (hr : Room k X.A) (hb : Binds X.K fd ps []) (tk : Takes X W) (ha : SA B X W (e :: es) ma)
    (hst : starEach (e :: es) X.env = (false, eval e X.env) :: starEach es X.env := by rfl) (hpl : (backTo pos (starEach es X.env)).any (·.1) = false := by rfl)
    (ht : eval (.Call (.Attribute o m apos) (e :: es) [] pos) X.env = (do
      let ov ← eval o X.env
      standAt apos.atName
      let (f, first) ← holding [ov] (getMethod ov m pl)
      callWith pos f first (backTo pos (starEach (e :: es) X.env)) (backToKw pos (keywordEach [] X.env))) := by rfl) :
    SE B X W (.Call (.Attribute o m apos) (e :: es) [] pos) (mMeth c m g mo ma) := by
  refine ⟨fun pins s σ H Q I h => ?_⟩
  obtain ⟨ρ, F, h0, s0, sr, hr0, p⟩ := h
  have run := ho.run pins s σ H (fun x H1 => ∃ q dx ws, x = .ref q ∧ H1 q = some (.ins C dx ws) ∧ ws.lookup m = none ∧ tmA B W ma σ H1 fun vs H2 => spF B g (x :: vs) H2 Q (WE W σ)) I
    ⟨ρ, F, h0, s0, sr, hr0, p.andThen fun a h1 ρ1 F1 H1 x _ e1 hr1 ra p1 => meth_at hC (sr.ext e1) hr1 ra p1⟩
  refine PySem.W.methodCall_KW (pl := pl) (thn run fun u s1 ⟨x, H1, I1, rx, a, dx, fs, ex, ea, l, q⟩ => ?_) ht
  subst ex
  obtain rfl : u = Value.ref a := rx
  refine getmeth_ok I1 ea cl hm l ?_
  refine PySem.W.callWith_K (first := [.ref a]) (h₀ := X.base) I.ok.mod.kin hm.kp (thn (ha.run pos pins s1 σ H1 _ I1 q) fun us s2 ⟨vs, H2, I2, r, q2⟩ => ⟨I2.kIn, ?_⟩) hst hpl
  exact run_fnS (E := WE W) (us := .ref a :: us) (vs := .ref a :: vs) Fo hr hb (passAt tk σ) I2 (.cons rfl r) q2
theorem se_meth0 {pl : Sem Bool} (ho : SE B X W o mo) (hC : B.mg c = some (.ref C)) (cl : Cls X.K C) (hm : Meth X.K C m f) (Fo : FnS B X k f fd ps g) (hr : Room k X.A) (hb : Binds X.K fd ps []) (tk : Takes X W)
    (ht : eval (.Call (.Attribute o m apos) [] [] pos) X.env = (do
      let ov ← eval o X.env
      standAt apos.atName
      let (f, first) ← holding [ov] (getMethod ov m pl)
      callWith pos f first (backTo pos (starEach [] X.env)) (backToKw pos (keywordEach [] X.env))) := by rfl) :
    SE B X W (.Call (.Attribute o m apos) [] [] pos) (mMeth c m g mo mNil) := by
  refine ⟨fun pins s σ H Q I h => ?_⟩
  obtain ⟨ρ, F, h0, s0, sr, hr0, p⟩ := h
  have run := ho.run pins s σ H (fun x H1 => ∃ q dx ws, x = .ref q ∧ H1 q = some (.ins C dx ws) ∧ ws.lookup m = none ∧ spF B g [x] H1 Q (WE W σ)) I
    ⟨ρ, F, h0, s0, sr, hr0, p.andThen fun a h1 ρ1 F1 H1 x _ e1 hr1 ra p1 => by
      obtain ⟨q, dx, ws, e1', e2, e3, ρ2, F2, h2, s2, sr2, hr2, p2⟩ := meth_at (ma := mNil) hC (sr.ext e1) hr1 ra p1
      exact ⟨q, dx, ws, e1', e2, e3, p2 _ _ _ _ Ext.refl hr2 rfl⟩⟩
  refine PySem.W.methodCall_KW (pl := pl) (thn run fun u s1 ⟨x, H1, I1, rx, a, dx, fs, ex, ea, l, q⟩ => ?_) ht
  subst ex
  obtain rfl : u = Value.ref a := rx
  refine getmeth_ok I1 ea cl hm l ?_
  exact PySem.W.callWith_K0 (first := [.ref a]) I1.kIn hm.kp (run_fnS (E := WE W) (us := [.ref a]) (vs := [.ref a]) Fo hr hb (passAt tk σ) I1 (.cons rfl .nil) q)
/-- a new instance that may change, then its __init__ -/
def mMake (c : Str) (g : Fn) (ma : MA) : ME := fun s h => (ma s h).bind fun as h1 => match g (.ref h1.length :: as) (h1 ++ [.ins c []]) with
  | .ok .non h2 => .ok (.ref h1.length) h2
  | .ok _ _ => .stk
  | .exc c fs h2 => .exc c fs h2
  | .stk => .stk
theorem run_makeS {pins : List (Addr × Obj)} {σ : L2.St} {H : Hp} {s : Shared} {Q : VK} {us : List Value} {vs : List V} {sp : Sp} {CX : CXT} {E : L2.St → XK} (M : Mk X.K C f) (F : FnOk X.prog X.w X.K X.mg X.base CX k f fd ps sp) (hr : Room (k + 1) X.A) (hb : Binds X.K fd ps [])
    (hx : PassesAt CX X σ (E σ)) (I : Inv X pins σ H s) (r : Vals vs us)
    (h : ∀ x dx, H x = none → H dx = none → dx ≠ x → sp (.ref x :: vs) (upd (upd H dx (.own x)) x (.ins C dx [])) (fun v H2 => v = .non ∧ Q (.ref x) H2) (E σ)) :
    wpAny (model X.prog X.w) X.A (call (.ref C) us) (EP X pins σ Q) X.xe s := by
  have hq := h (s.heap.objs.size + 1) s.heap.objs.size (I.hok.fresh (Nat.le_succ _)) (I.hok.fresh (Nat.le_refl _)) (Nat.ne_of_lt (Nat.lt_succ_self _))
  have I2 := Inv.made (C := C) I
  have r2 : Vals (V.ref (s.heap.objs.size + 1) :: vs) (Value.ref (s.heap.objs.size + 1) :: us) := .cons rfl r
  have hl : (Value.ref (s.heap.objs.size + 1) :: us).length = ps.length := by
    have e := r2.length
    rw [F.len _ _ _ _ hq] at e
    exact e.symm
  have b := hb { s with heap := (s.heap.push { cls := .type "dict", data := .dict #[] }).push (PySem.W.instObj C s.heap.objs.size) } (Value.ref (s.heap.objs.size + 1) :: us)
  refine wpAny_call (make_map (f := f) I.kIn M.makes M.init (beq_iff_eq.mp M.fn) (codeAny_mono (F.run _ X.stack _ _ ⟨Value.ref (s.heap.objs.size + 1) :: us, []⟩ (Value.ref (s.heap.objs.size + 1) :: us) _ _ (E σ) (hr.make C us [])
    (I2.env0.make C us []) (by
      have b := hb _ (Value.ref (s.heap.objs.size + 1) :: us) I2.kIn (by rw [List.append_nil]; exact hl)
      rw [List.append_nil] at b
      exact b) r2 hq) fun r s' hq' => ?_))
  cases r with
  | error e => exact hx pins _ _ e s' I2 hq'
  | ok fl =>
    cases fl with
    | ret u =>
      obtain ⟨v, H', I3, rv, ev, q3⟩ := I2.after hq'
      subst ev
      exact ⟨rv, ⟨V.ref (s.heap.objs.size + 1), H', I3, rfl, q3⟩⟩
    | next => exact False.elim hq'
    | brk => exact False.elim hq'
    | cont => exact False.elim hq'
theorem make_at {as : List AV} {vs : List V} {h : AH} {ρ : List Addr} {F H : Hp} {Q : VK} {Wx : WK} (hm : B.mg c = some (.ref C)) (hr : HR B ρ F h H) (ra : RVs B ρ F as vs)
    (p : Post B (RV B) ρ F H (match g (.ref h.length :: as) (h ++ [.ins c []]) with
      | .ok .non h2 => .ok (.ref h.length) h2
      | .ok _ _ => .stk
      | .exc c fs h2 => .exc c fs h2
      | .stk => .stk) Q Wx) (x dx : Addr) (n1 : H x = none) (n2 : H dx = none) (ne : dx ≠ x) :
    spF B g (.ref x :: vs) (upd (upd H dx (.own x)) x (.ins C dx [])) (fun v H2 => v = .non ∧ Q (.ref x) H2) Wx := by
  obtain ⟨hr1, e1⟩ := hr.newP n2 (.own x)
  have n1' : upd H dx (.own x) x = none := by rw [upd_ne (Ne.symm ne)]; exact n1
  obtain ⟨hr2, e2⟩ := hr1.newM n1' (o := .ins c []) (u := .ins C dx []) ⟨C, dx, [], rfl, hm, rfl⟩
  have ex := e1.trans e2
  have rx : RV B (ρ ++ [x]) F (.ref h.length) (.ref x) := ⟨x, by rw [← hr.len]; exact getElem?_snoc _ _, rfl⟩
  refine ⟨_, _, _, .ref h.length :: as, hr2, ⟨.ref x, vs, rfl, rx, ra.ext ex⟩, ?_⟩
  revert p
  cases g (.ref h.length :: as) (h ++ [.ins c []]) with
  | ok a h2 =>
    cases a with
    | non => exact fun p ρ' F' H' v x1 y1 z1 => ⟨z1, p ρ' F' H' _ (ex.trans x1) y1 (rx.ext x1)⟩
    | _ => exact fun p => p.elim
  | exc c fs h2 => exact fun p ρ' F' H' cls d x1 y1 z1 => p ρ' F' H' cls d (ex.trans x1) y1 z1
  | stk => exact fun p => p.elim
theorem se_make (M : Mk X.K C f) (hC : B.mg c = some (.ref C)) (Fo : FnS B X k f fd ps g) (hr : Room (k + 1) X.A) (hg : Gl X c) (hm : X.mg c = some (.ref C)) (hb : Binds X.K fd ps []) (tk : Takes X W)
    (ha : SA B X W (e :: es) ma) (hdb : (c == ("__debug__" : Str)) = false := by decide) (he : starEach (e :: es) X.env = (false, eval e X.env) :: starEach es X.env := by rfl) (hpl : (backTo pos (starEach es X.env)).any (·.1) = false := by rfl) :
    SE B X W (.Call (.Name c p) (e :: es) [] pos) (mMake c g ma) := by
  refine ⟨fun pins s σ H Q I h => ?_⟩
  obtain ⟨ρ, F, h0, s0, sr, hr0, p⟩ := h
  have run := ha.run pos pins s σ H (fun vs H1 => ∀ x dx, H1 x = none → H1 dx = none → dx ≠ x → spF B g (.ref x :: vs) (upd (upd H1 dx (.own x)) x (.ins C dx [])) (fun v H2 => v = .non ∧ Q (.ref x) H2) (WE W σ)) I
    ⟨ρ, F, h0, s0, sr, hr0, p.andThen fun as h1 ρ1 F1 H1 vs _ e1 hr1 ra p1 => make_at hC hr1 ra p1⟩
  refine wpAny_Call_Name_kw (ld_glob I hg hm ?_ hdb)
  refine PySem.W.callWith_K (h₀ := X.base) I.ok.mod.kin M.kp (thn run fun us s1 ⟨vs, H1, I1, r, q⟩ => ⟨I1.kIn, ?_⟩) he hpl
  exact run_makeS (E := WE W) M Fo hr hb (passAt tk σ) I1 r q
theorem se_make0 (M : Mk X.K C f) (hC : B.mg c = some (.ref C)) (Fo : FnS B X k f fd ps g) (hr : Room (k + 1) X.A) (hg : Gl X c) (hm : X.mg c = some (.ref C)) (hb : Binds X.K fd ps []) (tk : Takes X W)
    (hdb : (c == ("__debug__" : Str)) = false := by decide) : SE B X W (.Call (.Name c p) [] [] pos) (mMake c g mNil) := by
  refine ⟨fun pins s σ H Q I h => ?_⟩
  obtain ⟨ρ, F, h0, s0, sr, hr0, p⟩ := h
  refine wpAny_Call_Name_kw (ld_glob I hg hm ?_ hdb)
  exact PySem.W.callWith_K0 I.kIn M.kp (run_makeS (E := WE W) (us := []) M Fo hr hb (passAt tk σ) I .nil (make_at (as := []) (vs := []) hC hr0 rfl p))
end
/-! ### built-ins -/
theorem se_callB {e : Expr} {es : List Expr} {x : Str} {id : String} {p pos : Pos} {g : GL} {ma : MA} (hc : CallR X (.builtin id) (rmL B g)) (hg : Gl X x) (hm : X.mg x = none) (hv : bootBuiltins x = some (.builtin id)) (ha : SA B X W (e :: es) ma) (hn : x ≠ "__name__" := by decide) (hdb : (x == ("__debug__" : Str)) = false := by decide)
    (he : starEach (e :: es) X.env = (false, eval e X.env) :: starEach es X.env := by rfl) (hpl : (backTo pos (starEach es X.env)).any (·.1) = false := by rfl) : SE B X W (.Call (.Name x p) (e :: es) [] pos) (mFn g ma) :=
  PE.imp (pe_callB hc hg hm hv ha hn hdb he hpl) fun σ H Q h => disp_imp h
theorem se_callTy {e : Expr} {es : List Expr} {x : Str} {id : String} {p pos : Pos} {g : GL} {ma : MA} (hc : CallR X (.type id) (rmL B g)) (hg : Gl X x) (hm : X.mg x = none) (hv : bootBuiltins x = some (.type id)) (ha : SA B X W (e :: es) ma) (hn : x ≠ "__name__" := by decide) (hdb : (x == ("__debug__" : Str)) = false := by decide)
    (he : starEach (e :: es) X.env = (false, eval e X.env) :: starEach es X.env := by rfl) (hpl : (backTo pos (starEach es X.env)).any (·.1) = false := by rfl) : SE B X W (.Call (.Name x p) (e :: es) [] pos) (mFn g ma) :=
  PE.imp (pe_callTy hc hg hm hv ha hn hdb he hpl) fun σ H Q h => disp_imp h
end
end NC
end S3
end
section
set_option Elab.async false
set_option linter.all false
set_option maxRecDepth 100000
set_option maxHeartbeats 4000000
namespace S3
open PySem PySem.Spec PyProof.Rows L2
noncomputable section NC

section
variable {B : Bx} {X : Cx} {W : WX}
/-! ### targets -/
def Off (is : List Nat) (σ σ' : L2.St) : Prop := σ'.length = σ.length ∧ ∀ j, j ∉ is → σ'[j]? = σ[j]?
abbrev Gt := AV → Sl → AH → Option Sl
abbrev Gts := List AV → Sl → AH → Option Sl
def tmGt (B : Bx) (is : List Nat) (t : Gt) : TG := fun v σ H Q => ∃ ρ F h s a s', SR B ρ F s σ ∧ HR B ρ F h H ∧ RV B ρ F a v ∧ t a s h = some s' ∧ ∀ σ', SR B ρ F s' σ' → Off is σ σ' → Q σ' H
def tmGts (B : Bx) (is : List Nat) (t : Gts) : TGs := fun v σ H Q => ∃ ρ F h s a s', SR B ρ F s σ ∧ HR B ρ F h H ∧ RVs B ρ F a v ∧ t a s h = some s' ∧ ∀ σ', SR B ρ F s' σ' → Off is σ σ' → Q σ' H
abbrev SG (B : Bx) (X : Cx) (tg : Expr) (is : List Nat) (t : Gt) : Prop := PG X tg (tmGt B is t)
abbrev SGs (B : Bx) (X : Cx) (tgs : List Expr) (is : List Nat) (t : Gts) : Prop := PGs X tgs (tmGts B is t)
theorem PG.imp {tg : Expr} {t t' : TG} (h : PG X tg t) (w : ∀ v σ H Q, t' v σ H Q → t v σ H Q) : PG X tg t' := ⟨fun pins s σ H v u Q I r q => h.run pins s σ H v u Q I r (w v σ H Q q)⟩
theorem PGs.imp {tgs : List Expr} {t t' : TGs} (h : PGs X tgs t) (w : ∀ v σ H Q, t' v σ H Q → t v σ H Q) : PGs X tgs t' := ⟨fun pins s σ H v u Q I r q => h.run pins s σ H v u Q I r (w v σ H Q q)⟩
def tName (i : Nat) : Gt := fun a s _ => some (s.set i (some a))
theorem off_set (i : Nat) (σ : L2.St) (v : Option V) : Off [i] σ (σ.set i v) := ⟨List.length_set, fun j hj => List.getElem?_set_ne fun z => hj (by rw [z]; simp)⟩
theorem sg_name {i : Nat} {x : Str} {pos : Pos} (hN : X.N.Nodup) (hi : X.N[i]? = some x) (hx : Loc X.env.scope x) (hf : X.fn x = true ∨ X.env.scope.names.lookup x = some .local := by first | exact .inl rfl | exact .inr rfl | assumption) : SG B X (.Name x pos) [i] (tName i) :=
  PG.imp (pg_name hN hi hx hf) fun v σ H Q ⟨ρ, F, h, s, a, s', sr, hr, ra, et, q⟩ => by
    have e : s.set i (some a) = s' := Option.some.inj et
    subst e
    exact q _ (sr.set ra i) (off_set i σ _)
def tNone : Gts := fun xs s _ => match xs with
  | [] => some s
  | _ => none
def tMore (t : Gt) (u : Gts) : Gts := fun xs s h => match xs with
  | x :: r => (t x s h).bind fun s1 => u r s1 h
  | [] => none
theorem sgs_nil : SGs B X [] [] tNone := PGs.imp pgs_nil fun v σ H Q ⟨ρ, F, h, s, a, s', sr, hr, ra, et, q⟩ => by
  cases a with
  | nil =>
    have e : s = s' := Option.some.inj et
    subst e
    exact ⟨ra, q σ sr ⟨rfl, fun _ _ => rfl⟩⟩
  | cons _ _ => cases et
theorem sgs_cons {e : Expr} {es : List Expr} {is js : List Nat} {t : Gt} {u : Gts} (h1 : SG B X e is t) (h2 : SGs B X es js u)
    (hs : (assignEach (e :: es) X.env).map (·.2) = assign e X.env :: (assignEach es X.env).map (·.2) := by rfl) : SGs B X (e :: es) (is ++ js) (tMore t u) :=
  PGs.imp (pgs_cons h1 h2 hs) fun v σ H Q ⟨ρ, F, h, s, a, s', sr, hr, ra, et, q⟩ => by
    cases a with
    | nil => cases et
    | cons x r =>
      obtain ⟨w, ws, e1, r1, r2⟩ := ra
      have et : ((t x s h).bind fun s1 => u r s1 h) = some s' := et
      cases k : t x s h with
      | none => rw [k] at et; cases et
      | some s1 =>
        rw [k] at et
        refine ⟨w, ws, e1, ρ, F, h, s, x, s1, sr, hr, r1, k, fun σ1 sr1 o1 => ⟨ρ, F, h, s1, r, s', sr1, hr, r2, et, fun σ2 sr2 o2 => q σ2 sr2 ⟨o2.1.trans o1.1, fun j hj => ?_⟩⟩⟩
        rw [o2.2 j fun z => hj (List.mem_append_right _ z), o1.2 j fun z => hj (List.mem_append_left _ z)]
def tTupT (n : Nat) (u : Gts) : Gt := fun a s h => match vT a with
  | some xs => if xs.length = n then u xs s h else none
  | none => none
theorem sg_tup {es : List Expr} {k : Nat} {n : Nat} {is : List Nat} {u : Gts} {pos : Pos} (hc : X.calm = true) (h : SGs B X es is u)
    (hn : (assignEach es X.env).length = n := by rfl) (hst : (assignEach es X.env).findIdx? (·.1) = none := by rfl) (hK : X.K = B.K := by rfl) : SG B X (.Tuple es k pos) is (tTupT n u) :=
  PG.imp (pg_tup hc h hn hst) fun v σ H Q ⟨ρ, F, h, s, a, s', sr, hr, ra, et, q⟩ => by
    unfold tTupT at et
    split at et
    · rename_i xs ev
      split at et
      · rename_i hl
        obtain ⟨p, vs, ex, qt, rs⟩ := vT_at hr ra ev
        exact ⟨p, vs, ex, by rw [hK]; exact qt, by rw [← RVs.length rs]; exact hl, ρ, F, h, s, xs, s', sr, hr, rs, et, q⟩
      · cases et
    · cases et

/-! ### small statements -/
def mSkip : MS := fun s h => .nx s h
def Ss.then (r : Ss) (k : Sl → AH → Ss) : Ss := match r with
  | .nx s h => k s h
  | r => r
def mSeq (a b : MS) : MS := fun s h => (a s h).then b
theorem sss_nil : SSs B X W [] mSkip := PSs.imp pss_nil fun D σ H ⟨ρ, F, h, s, sr, hr, p⟩ => p ρ F H σ Ext.refl hr sr
theorem sss_cons {st : Stmt} {rest : List Stmt} {a b : MS} (h1 : SS B X W st a) (h2 : SSs B X W rest b) : SSs B X W (st :: rest) (mSeq a b) :=
  PSs.imp (pss_cons h1 h2) fun D σ H ⟨ρ, F, h, s, sr, hr, p⟩ => by
    refine ⟨ρ, F, h, s, sr, hr, ?_⟩
    have p : PostS B ρ F H ((a s h).then b) D W := p
    revert p
    cases a s h with
    | nx s1 h1 => exact fun p ρ' F' H' σ' e1 hr1 sr1 => ⟨ρ', F', h1, s1, sr1, hr1, PostS.ext e1 p⟩
    | rt a h1 => exact fun p => p
    | bk s1 h1 => exact fun p => p
    | ct s1 h1 => exact fun p => p
    | exc s1 c fs h1 => exact fun p => p
    | stk => exact fun p => p
theorem sss_one {st : Stmt} {a : MS} (h1 : SS B X W st a) : SSs B X W [st] a := pss_one h1
theorem ss_pass {pos : Pos} : SS B X W (.Pass pos) mSkip := PS.imp ps_pass fun D σ H ⟨ρ, F, h, s, sr, hr, p⟩ => p ρ F H σ Ext.refl hr sr
def mBrk : MS := fun s h => .bk s h
def mCnt : MS := fun s h => .ct s h
theorem ss_break {pos : Pos} : SS B X W (.Break pos) mBrk := PS.imp ps_break fun D σ H ⟨ρ, F, h, s, sr, hr, p⟩ => p ρ F H σ Ext.refl hr sr
theorem ss_continue {pos : Pos} : SS B X W (.Continue pos) mCnt := PS.imp ps_continue fun D σ H ⟨ρ, F, h, s, sr, hr, p⟩ => p ρ F H σ Ext.refl hr sr
def mExprS (m : ME) : MS := fun s h => (m s h).toS s fun _ h1 => .nx s h1
theorem ss_expr {e : Expr} {m : ME} {pos : Pos} (he : SE B X W e m) (hs : swapsWith e none pos.line X.env = pure false := by rfl) : SS B X W (.Expr e pos) (mExprS m) :=
  PS.imp (ps_expr he hs) fun D σ H ⟨ρ, F, h, s, sr, hr, p⟩ => ⟨ρ, F, h, s, sr, hr, PostS.expr sr p fun a h1 ρ1 F1 H1 x _ e1 hr1 ra sr1 p1 => p1 _ _ _ _ Ext.refl hr1 sr1⟩
def mRet (m : ME) : MS := fun s h => (m s h).toS s fun a h1 => .rt a h1
theorem ss_ret {e : Expr} {m : ME} {pos : Pos} (he : SE B X W e m) : SS B X W (.Return (some e) pos) (mRet m) :=
  PS.imp (ps_ret he) fun D σ H ⟨ρ, F, h, s, sr, hr, p⟩ => ⟨ρ, F, h, s, sr, hr, PostS.expr sr p fun a h1 ρ1 F1 H1 x _ e1 hr1 ra sr1 p1 => p1 _ _ _ _ Ext.refl hr1 ra⟩
def mRetN : MS := fun _ h => .rt .non h
theorem ss_retN {pos : Pos} : SS B X W (.Return none pos) mRetN := PS.imp ps_retN fun D σ H ⟨ρ, F, h, s, sr, hr, p⟩ => p _ _ _ _ Ext.refl hr rfl
def mIfS (c : MT) (a b : MS) : MS := fun s h => (c s h).toS s fun x h1 => if x = true then a s h1 else b s h1
theorem ss_if {c : Expr} {sa sb : List Stmt} {mc : MT} {a b : MS} {pos : Pos} (hc : STt B X W c mc) (ha : SSs B X W sa a) (hb : SSs B X W sb b) : SS B X W (.If c sa sb pos) (mIfS mc a b) :=
  PS.imp (ps_if hc ha hb) fun D σ H ⟨ρ, F, h, s, sr, hr, p⟩ => ⟨ρ, F, h, s, sr, hr, PostS.expr sr p fun x h1 ρ1 F1 H1 y _ e1 hr1 ra sr1 p1 => by
    cases ra
    cases x with
    | true => exact ⟨ρ1, F1, h1, s, sr1, hr1, p1⟩
    | false => exact ⟨ρ1, F1, h1, s, sr1, hr1, p1⟩⟩
def mAsg (m : ME) (t : Gt) : MS := fun s h => (m s h).toS s fun a h1 => match t a s h1 with
  | some s1 => .nx s1 h1
  | none => .stk
theorem gt_imp {is : List Nat} {t : Gt} {ρ : List Addr} {F H : Hp} {h : AH} {s : Sl} {σ : L2.St} {a : AV} {x : V} {D : Ends} (sr : SR B ρ F s σ) (hr : HR B ρ F h H) (ra : RV B ρ F a x) (p : PostS B ρ F H (match t a s h with
  | some s1 => Ss.nx s1 h
  | none => .stk) D W) : tmGt B is t x σ H D.nx := by
  cases k : t a s h with
  | none => rw [k] at p; exact p.elim
  | some s1 =>
    rw [k] at p
    exact ⟨ρ, F, h, s, a, s1, sr, hr, ra, k, fun σ' sr' _ => p _ _ _ _ Ext.refl hr sr'⟩
theorem ss_asg {tg e : Expr} {m : ME} {t : Gt} {is : List Nat} {pos : Pos} (he : SE B X W e m) (hg : SG B X tg is t) (hs : swapsWithSole [tg] e pos.line X.env = pure false := by rfl) (hw : swappedStores [tg] e X.env = pure none := by rfl)
    (h1 : (assignEach [tg] X.env).map (·.2) = [assign tg X.env] := by rfl) : SS B X W (.Assign [tg] e pos) (mAsg m t) :=
  PS.imp (ps_asg he hg hs hw h1) fun D σ H ⟨ρ, F, h, s, sr, hr, p⟩ => ⟨ρ, F, h, s, sr, hr, PostS.expr sr p fun a h1 ρ1 F1 H1 x _ e1 hr1 ra sr1 p1 => gt_imp sr1 hr1 ra p1⟩
theorem ss_set {i : Nat} {x : Str} {e : Expr} {m : ME} {pos pos' : Pos} (hN : X.N.Nodup) (hi : X.N[i]? = some x) (hx : Loc X.env.scope x) (he : SE B X W e m) (hs : swapsWith e (some (.Name x pos')) pos.line X.env = pure false := by rfl) (hf : X.fn x = true ∨ X.env.scope.names.lookup x = some .local := by first | exact .inl rfl | exact .inr rfl | assumption) :
    SS B X W (.Assign [.Name x pos'] e pos) (mAsg m (tName i)) :=
  PS.imp (ps_set hN hi hx he hs hf) fun D σ H ⟨ρ, F, h, s, sr, hr, p⟩ => ⟨ρ, F, h, s, sr, hr, PostS.expr sr p fun a h1 ρ1 F1 H1 x _ e1 hr1 ra sr1 p1 => p1 _ _ _ _ Ext.refl hr1 (sr1.set ra i)⟩
/-- name op= e, where the operation is one of values -/
def mAug (i : Nat) (g : G2) (m : ME) : MS := fun s h => match s[i]? with
  | some (some a) => (m s h).toS s fun b h1 => match g a b h1 with
    | some c => .nx (s.set i (some c)) h1
    | none => .stk
  | _ => .stk
theorem ss_aug {i : Nat} {x : Str} {e : Expr} {m : ME} {op : Operator} {g : G2} {pos pos' : Pos} (hN : X.N.Nodup) (hi : X.N[i]? = some x) (hx : Loc X.env.scope x) (he : SE B X W e m) (ho : OpR X (inplaceOp op) (rm2 B g)) (hf : X.fn x = true ∨ X.env.scope.names.lookup x = some .local := by first | exact .inl rfl | exact .inr rfl | assumption) :
    SS B X W (.AugAssign (.Name x pos') op e pos) (mAug i g m) :=
  PS.imp (ps_aug (ti := rm2 B g) hN hi hx he (fun pins s σ H x y v u Q I rx ry h => ho pins s σ H x y v u Q I rx ry h) hf) fun D σ H ⟨ρ, F, h, s, sr, hr, p⟩ => by
    unfold mAug at p
    split at p
    · rename_i a ea
      obtain ⟨v, ev, rv⟩ := sr.2 i a ea
      refine ⟨v, ev, ρ, F, h, s, sr, hr, PostS.expr sr p fun b h1 ρ1 F1 H1 y _ e1 hr1 rb sr1 p1 => ?_⟩
      cases k : g a b h1 with
      | none => rw [k] at p1; exact p1.elim
      | some c =>
        rw [k] at p1
        exact ⟨ρ1, F1, h1, a, b, c, hr1, rv.ext e1, rb, k, fun ρ' F' H' z e2 hr2 rc => p1 _ _ _ _ e2 hr2 ((sr1.ext e2).set rc i)⟩
    · exact p.elim
theorem op_iI {f : Value → Value → Sem Value} {g : Int → Int → Int} (ho : OpR X f (rI0 fun i j => .int (g i j))) : OpR X f (rm2 B (gI2 (fun _ _ => True) fun i j => .int (g i j))) := op_gI2' ho
abbrev gAddI : G2 := gI2 (fun _ _ => True) fun i j => .int (i + j)
theorem iop_gAdd : OpR X (inplaceOp .Add) (rm2 B gAddI) := op_gI2' iop_add
theorem iop_gSub : OpR X (inplaceOp .Sub) (rm2 B gSub) := op_gI2' iop_sub
/-- raise X('..') -/
def mRaise (c : Str) : MS := fun s h => .exc s c [] h
theorem ss_raise {x m : Str} {j : Nat} {p p2 p3 pos : Pos} {C : Addr} {bmB : List Value} {bi newId initId : String} (F : ExcBaseFacts bi newId initId bmB) (q : PySem.W.excIn X.K C bmB newId = true) (gC : X.mg x = some (.ref C)) (kC : PySem.W.keepIn X.K (.ref C) = true) (r : Raises X (.ref C)) (hg : Gl X x)
    (hc : X.calm = true) (tk : Takes X W) (hC : B.mg x = some (.ref C)) (hdb : (x == ("__debug__" : Str)) = false := by decide) : SS B X W (.Raise (some (.Call (.Name x p) [.Constant (.str m) j p2] [] p3)) none pos) (mRaise x) :=
  PS.imp (ps_raise hc tk (pmk_own F q gC kC r hg hdb)) fun D σ H ⟨ρ, F, h, s, sr, hr, p⟩ => p ρ F H σ _ _ Ext.refl hr sr ⟨C, hC, rfl, .inl rfl⟩

/-! ### stores -/
/-- o.f = e -/
def mFldSet (c f : Str) (mo mv : ME) : MS := fun s h => (mv s h).toS s fun v h1 => (mo s h1).toS s fun o h2 => match o with
  | .ref n => match h2[n]? with
    | some (.ins d fs) => if d = c ∧ fs.length < 1000 then .nx s (h2.set n (.ins c (putA f v fs))) else .stk
    | _ => .stk
  | _ => .stk
theorem ss_fld {o e : Expr} {c f : Str} {L : List Str} {mo mv : ME} {pos pos' : Pos} (hc : ClsF B c L) (hf : f ∈ L) (ho : SE B X W o mo) (hv : SE B X W e mv) (hs : swapsWith e (some (.Attribute o f pos')) pos.line X.env = pure false := by rfl) (hK : X.K = B.K := by rfl) :
    SS B X W (.Assign [.Attribute o f pos'] e pos) (mFldSet c f mo mv) :=
  PS.imp (ps_fld ho hv hs) fun D σ H ⟨ρ, F, h, s, sr, hr, p⟩ => ⟨ρ, F, h, s, sr, hr, PostS.expr sr p fun v h1 ρ1 F1 H1 y _ e1 hr1 rv sr1 p1 =>
    ⟨ρ1, F1, h1, s, sr1, hr1, PostS.expr sr1 p1 fun o h2 ρ2 F2 H2 x _ e2 hr2 ro sr2 p2 => by
      cases o with
      | ref n =>
        obtain ⟨q, eq, ex⟩ := ro
        obtain ⟨ob, eo, rob⟩ := hr2.at' eq
        simp only [eo] at p2
        cases ob with
        | ins d fs =>
          simp only at p2
          split at p2
          · rename_i hd
            obtain ⟨rfl, hl⟩ := hd
            obtain ⟨u, eu, C, dx, ws, e3, hm, rs⟩ := rob
            subst e3
            refine ⟨q, C, dx, ws, ex, eu, by rw [hK]; exact hc.cls C hm, by rw [hK]; exact hc.no C hm f hf, by rw [← RFs.length rs]; exact hl, ?_⟩
            obtain ⟨hr3, e4⟩ := hr2.write (o := .ins d (putA f v fs)) (u := .ins C dx (putF f y ws)) eq ⟨_, upd_same, C, dx, _, rfl, hm, RFs.put rs (rv.ext e2)⟩ eu
            exact p2 _ _ _ _ e4 hr3 (sr2.ext e4)
          · exact p2.elim
        | _ => exact p2.elim
      | _ => exact p2.elim⟩⟩
/-- o.f op= e -/
def mFldAug (c f : Str) (g : Int → Int → Int) (mo mv : ME) : MS := fun s h => (mo s h).toS s fun o h1 => match o with
  | .ref n => match h1[n]? with
    | some (.ins d fs) => if d = c then match fs.lookup f with
      | some (.int i) => (mv s h1).toS s fun v h2 => match v, h2[n]? with
        | .int j, some (.ins d2 fs2) => if d2 = c ∧ fs2.length < 1000 then .nx s (h2.set n (.ins c (putA f (.int (g i j)) fs2))) else .stk
        | _, _ => .stk
      | _ => .stk else .stk
    | _ => .stk
  | _ => .stk
end
end NC
end S3
end
section
set_option Elab.async false
set_option linter.all false
set_option maxRecDepth 100000
set_option maxHeartbeats 4000000
namespace S3
open PySem PySem.Spec PyProof.Rows L2
noncomputable section NC

section
variable {B : Bx} {X : Cx} {W : WX}
theorem ss_fldaug {op : Operator} {rd : V → V → Hp → VK → Prop} {g : Int → Int → Int} {o e : Expr} {c f : Str} {L : List Str} {mo mv : ME} {pos tpos : Pos} (hop : InOp X op rd) (hrd : ∀ i j H Q, Q (.int (g i j)) H → rd (.int i) (.int j) H Q) (hc : ClsF B c L) (hf : f ∈ L) (ho : SE B X W o mo) (hv : SE B X W e mv) (hK : X.K = B.K := by rfl) :
    SS B X W (.AugAssign (.Attribute o f tpos) op e pos) (mFldAug c f g mo mv) :=
  PS.imp (ps_fldaug ho hv hop) fun D σ H ⟨ρ, F, h, s, sr, hr, p⟩ => ⟨ρ, F, h, s, sr, hr, PostS.expr sr p fun o h1 ρ1 F1 H1 x _ e1 hr1 ro sr1 p1 => by
    cases o with
    | ref n =>
      obtain ⟨q, eq, ex⟩ := ro
      obtain ⟨ob, eo, rob⟩ := hr1.at' eq
      simp only [eo] at p1
      cases ob with
      | ins d fs =>
        simp only at p1
        split at p1
        · rename_i hd
          subst hd
          obtain ⟨u, eu, C, dx, ws, e3, hm, rs⟩ := rob
          subst e3
          split at p1
          · rename_i i ei
            rcases RFs.get rs f with ⟨z, _⟩ | ⟨b, v, z1, z2, rv⟩
            · rw [ei] at z; cases z
            · rw [ei] at z1
              cases z1
              have rv : v = .int i := rv
              subst rv
              refine ⟨q, C, dx, ws, .int i, ex, eu, by rw [hK]; exact hc.cls C hm, by rw [hK]; exact hc.no C hm f hf, z2, ρ1, F1, h1, s, sr1, hr1, PostS.expr sr1 p1 fun b h2 ρ2 F2 H2 y _ e2 hr2 rb sr2 p2 => ?_⟩
              split at p2
              · rename_i j d2 fs2 e5 _
                split at p2
                · rename_i hd2
                  obtain ⟨hd2, hl2⟩ := hd2
                  subst hd2
                  have rb : y = .int j := rb
                  subst rb
                  have eq2 := e2.pre _ _ eq
                  obtain ⟨u2, eu2, C2, dx2, ws2, e6, hm2, rs2⟩ := hr2.obj _ _ _ eq2 e5
                  subst e6
                  rw [hm] at hm2
                  cases hm2
                  refine hrd i j _ _ ⟨dx2, ws2, eu2, by rw [← RFs.length rs2]; exact hl2, ?_⟩
                  obtain ⟨hr3, e7⟩ := hr2.write (o := .ins d2 (putA f (.int (g i j)) fs2)) (u := .ins C dx2 (putF f (.int (g i j)) ws2)) eq2 ⟨_, upd_same, C, dx2, _, rfl, hm, RFs.put rs2 rfl⟩ eu2
                  exact p2 _ _ _ _ e7 hr3 (sr2.ext e7)
                · exact p2.elim
              · exact p2.elim
          · exact p1.elim
        · exact p1.elim
      | _ => exact p1.elim
    | _ => exact p1.elim⟩
/-! ### o[i] = e, o[i] op= e, del d[k] -/
/-- what stands behind o[i] = v -/
def gSet (o i v : AV) (h : AH) : Option AH := match o with
  | .ref n => match h[n]? with
    | some (.lst xs) => match i with
      | .int k => (ixN xs.length k).map fun j => h.set n (.lst (xs.set j v))
      | _ => none
    | some (.dK kvs) => match keyOf i with
      | some k => if kvs.length < sizeLine then some (h.set n (.dK (kput kvs k v))) else none
      | none => none
    | some (.dT kvs) => match keyT i with
      | some k => if kvs.length < sizeLine then some (h.set n (.dT (kput kvs k v))) else none
      | none => none
    | _ => none
  | _ => none
def rmSet (B : Bx) : TSet := fun o i v H Q => ∃ ρ F h a b c h', HR B ρ F h H ∧ RV B ρ F a o ∧ RV B ρ F b i ∧ RV B ρ F c v ∧ gSet a b c h = some h' ∧ ∀ H', Ext ρ F H ρ F H' → HR B ρ F h' H' → Q H'
theorem RKs.length {ρ : List Addr} {F : Hp} {kvs : List (Key × AV)} {ws : List (Key × V)} (r : RKs B ρ F kvs ws) : kvs.length = ws.length := by
  induction kvs generalizing ws with
  | nil => have r : ws = [] := r; subst r; rfl
  | cons p r' ih =>
    obtain ⟨j, a⟩ := p
    obtain ⟨v, w, e, r1, r2⟩ := r
    subst e
    rw [List.length_cons, List.length_cons, ih r2]
theorem RTs.length {ρ : List Addr} {F : Hp} {kvs : List (List Key × AV)} {ws : List (List Key × V)} (r : RTs B ρ F kvs ws) : kvs.length = ws.length := by
  induction kvs generalizing ws with
  | nil => have r : ws = [] := r; subst r; rfl
  | cons p r' ih =>
    obtain ⟨j, a⟩ := p
    obtain ⟨v, w, e, r1, r2⟩ := r
    subst e
    rw [List.length_cons, List.length_cons, ih r2]
theorem RKs.any {ρ : List Addr} {F : Hp} {kvs : List (Key × AV)} {ws : List (Key × V)} (r : RKs B ρ F kvs ws) (k : Key) : (kvs.any fun kv => decide (kv.1 = k)) = ws.any fun kv => decide (kv.1 = k) := by
  induction kvs generalizing ws with
  | nil => have r : ws = [] := r; subst r; rfl
  | cons p r' ih =>
    obtain ⟨j, a⟩ := p
    obtain ⟨v, w, e, r1, r2⟩ := r
    subst e
    rw [List.any_cons, List.any_cons, ih r2]
theorem RTs.any {ρ : List Addr} {F : Hp} {kvs : List (List Key × AV)} {ws : List (List Key × V)} (r : RTs B ρ F kvs ws) (k : List Key) : (kvs.any fun kv => decide (kv.1 = k)) = ws.any fun kv => decide (kv.1 = k) := by
  induction kvs generalizing ws with
  | nil => have r : ws = [] := r; subst r; rfl
  | cons p r' ih =>
    obtain ⟨j, a⟩ := p
    obtain ⟨v, w, e, r1, r2⟩ := r
    subst e
    rw [List.any_cons, List.any_cons, ih r2]
theorem RKs.repl {ρ : List Addr} {F : Hp} {kvs : List (Key × AV)} {ws : List (Key × V)} (r : RKs B ρ F kvs ws) (k : Key) {c : AV} {x : V} (rc : RV B ρ F c x) : RKs B ρ F (kvs.map fun kv => if kv.1 = k then (kv.1, c) else kv) (ws.map fun kv => if kv.1 = k then (kv.1, x) else kv) := by
  induction kvs generalizing ws with
  | nil => have r : ws = [] := r; subst r; exact rfl
  | cons p r' ih =>
    obtain ⟨j, a⟩ := p
    obtain ⟨v, w, e, r1, r2⟩ := r
    subst e
    rw [List.map_cons, List.map_cons]
    by_cases hk : j = k
    · simp only [hk, if_true]
      exact ⟨x, _, rfl, rc, ih r2⟩
    · simp only [hk, if_false]
      exact ⟨v, _, rfl, r1, ih r2⟩
theorem RTs.repl {ρ : List Addr} {F : Hp} {kvs : List (List Key × AV)} {ws : List (List Key × V)} (r : RTs B ρ F kvs ws) (k : List Key) {c : AV} {x : V} (rc : RV B ρ F c x) : RTs B ρ F (kvs.map fun kv => if kv.1 = k then (kv.1, c) else kv) (ws.map fun kv => if kv.1 = k then (kv.1, x) else kv) := by
  induction kvs generalizing ws with
  | nil => have r : ws = [] := r; subst r; exact rfl
  | cons p r' ih =>
    obtain ⟨j, a⟩ := p
    obtain ⟨v, w, e, r1, r2⟩ := r
    subst e
    rw [List.map_cons, List.map_cons]
    by_cases hk : j = k
    · simp only [hk, if_true]
      exact ⟨x, _, rfl, rc, ih r2⟩
    · simp only [hk, if_false]
      exact ⟨v, _, rfl, r1, ih r2⟩
theorem RKs.snoc {ρ : List Addr} {F : Hp} {kvs : List (Key × AV)} {ws : List (Key × V)} (r : RKs B ρ F kvs ws) (k : Key) {c : AV} {x : V} (rc : RV B ρ F c x) : RKs B ρ F (kvs ++ [(k, c)]) (ws ++ [(k, x)]) := by
  induction kvs generalizing ws with
  | nil => have r : ws = [] := r; subst r; exact ⟨x, [], rfl, rc, rfl⟩
  | cons p r' ih =>
    obtain ⟨j, a⟩ := p
    obtain ⟨v, w, e, r1, r2⟩ := r
    subst e
    exact ⟨v, _, rfl, r1, ih r2⟩
theorem RTs.snoc {ρ : List Addr} {F : Hp} {kvs : List (List Key × AV)} {ws : List (List Key × V)} (r : RTs B ρ F kvs ws) (k : List Key) {c : AV} {x : V} (rc : RV B ρ F c x) : RTs B ρ F (kvs ++ [(k, c)]) (ws ++ [(k, x)]) := by
  induction kvs generalizing ws with
  | nil => have r : ws = [] := r; subst r; exact ⟨x, [], rfl, rc, rfl⟩
  | cons p r' ih =>
    obtain ⟨j, a⟩ := p
    obtain ⟨v, w, e, r1, r2⟩ := r
    subst e
    exact ⟨v, _, rfl, r1, ih r2⟩
theorem RKs.put {ρ : List Addr} {F : Hp} {kvs : List (Key × AV)} {ws : List (Key × V)} (r : RKs B ρ F kvs ws) (k : Key) {c : AV} {x : V} (rc : RV B ρ F c x) : RKs B ρ F (kput kvs k c) (putK ws k x) := by
  unfold kput putK
  rw [r.any k]
  split
  · exact r.repl k rc
  · exact r.snoc k rc
theorem RTs.put {ρ : List Addr} {F : Hp} {kvs : List (List Key × AV)} {ws : List (List Key × V)} (r : RTs B ρ F kvs ws) (k : List Key) {c : AV} {x : V} (rc : RV B ρ F c x) : RTs B ρ F (kput kvs k c) (putK ws k x) := by
  unfold kput putK
  rw [r.any k]
  split
  · exact r.repl k rc
  · exact r.snoc k rc
theorem RKs.drop {ρ : List Addr} {F : Hp} {kvs : List (Key × AV)} {ws : List (Key × V)} (r : RKs B ρ F kvs ws) (k : Key) : RKs B ρ F (kdrop kvs k) (dropK ws k) := by
  induction kvs generalizing ws with
  | nil => have r : ws = [] := r; subst r; exact rfl
  | cons p r' ih =>
    obtain ⟨j, a⟩ := p
    obtain ⟨v, w, e, r1, r2⟩ := r
    subst e
    unfold kdrop dropK
    rw [List.filter_cons, List.filter_cons]
    by_cases hk : j = k
    · rw [if_neg (by simp [hk]), if_neg (by simp [hk])]
      exact ih r2
    · rw [if_pos (by simp [hk]), if_pos (by simp [hk])]
      exact ⟨v, _, rfl, r1, ih r2⟩
theorem RTs.drop {ρ : List Addr} {F : Hp} {kvs : List (List Key × AV)} {ws : List (List Key × V)} (r : RTs B ρ F kvs ws) (k : List Key) : RTs B ρ F (kdrop kvs k) (dropK ws k) := by
  induction kvs generalizing ws with
  | nil => have r : ws = [] := r; subst r; exact rfl
  | cons p r' ih =>
    obtain ⟨j, a⟩ := p
    obtain ⟨v, w, e, r1, r2⟩ := r
    subst e
    unfold kdrop dropK
    rw [List.filter_cons, List.filter_cons]
    by_cases hk : j = k
    · rw [if_neg (by simp [hk]), if_neg (by simp [hk])]
      exact ih r2
    · rw [if_pos (by simp [hk]), if_pos (by simp [hk])]
      exact ⟨v, _, rfl, r1, ih r2⟩
theorem set_gSet (hu : X.A.units + 64 < cLine) : PSet X (rmSet B) := by
  intro pins s σ H o i v ov iv u Q I ro ri rv hh
  obtain ⟨ρ, F, h, a, b, c, h', hr, ra, rb, rc, ec, q⟩ := hh
  unfold gSet at ec
  cases a with
  | ref n =>
    obtain ⟨p, ep, ex⟩ := ra
    obtain ⟨ob, eo, rob⟩ := hr.at' ep
    simp only [eo] at ec
    cases ob with
    | lst xs =>
      simp only at ec
      split at ec
      · rename_i k
        obtain ⟨w, ew, vs, e1, rs⟩ := rob
        subst e1
        have rb : i = .int k := rb
        cases kj : ixN xs.length k with
        | none => rw [kj] at ec; cases ec
        | some j =>
          rw [kj] at ec
          cases ec
          obtain ⟨hr', e2⟩ := hr.write (o := .lst (xs.set j c)) (u := .lst (vs.set j v)) ep ⟨_, upd_same, _, rfl, rs.set j rc⟩ ew
          exact set_list pins s σ H o i v ov iv u Q I ro ri rv ⟨p, vs, k, j, ex, rb, ew, by rw [← RVs.length rs]; exact kj, q _ e2 hr'⟩
      · cases ec
    | dK kvs =>
      simp only at ec
      split at ec
      · rename_i k ek
        split at ec
        · rename_i hl
          cases ec
          obtain ⟨w, ew, ws, e1, rs⟩ := rob
          subst e1
          subst ex
          obtain rfl : ov = Value.ref p := ro
          obtain ⟨hr', e2⟩ := hr.write (o := .dK (kput kvs k c)) (u := .dK (putK ws k v)) ep ⟨_, upd_same, _, rfl, rs.put k rc⟩ ew
          exact d_setItem (by omega) I (.inl ⟨ws, k, ew, key_at rb ek, by rw [← RKs.length rs]; exact hl, rfl⟩) ri rv fun s' I' => ⟨_, I', q _ e2 hr'⟩
        · cases ec
      · cases ec
    | dT kvs =>
      simp only at ec
      split at ec
      · rename_i k ek
        split at ec
        · rename_i hl
          cases ec
          obtain ⟨w, ew, ws, e1, rs⟩ := rob
          subst e1
          subst ex
          obtain rfl : ov = Value.ref p := ro
          obtain ⟨b', eb, hb⟩ := keyT_at hr rb ek
          obtain ⟨hr', e2⟩ := hr.write (o := .dT (kput kvs k c)) (u := .dT (putK ws k v)) ep ⟨_, upd_same, _, rfl, rs.put k rc⟩ ew
          exact d_setItem (by omega) I (.inr ⟨ws, k, b', ew, eb, hb, by rw [← RTs.length rs]; exact hl, rfl⟩) ri rv fun s' I' => ⟨_, I', q _ e2 hr'⟩
        · cases ec
      · cases ec
    | _ => cases ec
  | _ => cases ec
def mSubSet (mo mi mv : ME) : MS := fun s h => (mv s h).toS s fun v h1 => (mo s h1).toS s fun o h2 => (mi s h2).toS s fun i h3 => match gSet o i v h3 with
  | some h4 => .nx s h4
  | none => .stk
theorem ss_sub {o i e : Expr} {mo mi mv : ME} {pos pos' : Pos} (hu : X.A.units + 64 < cLine) (ho : SE B X W o mo) (hi : SE B X W i mi) (hv : SE B X W e mv)
    (ha : ∀ v, assign (.Subscript o i pos') X.env v = (do
      let ov ← holding [v] (eval o X.env)
      let iv ← holding [v, ov] (eval i X.env)
      standAt pos'
      holding [v, ov, iv] (setItem ov iv v)
      release [v, ov, iv] []) := by intro _; rfl)
    (hs : swapsWithSole [.Subscript o i pos'] e pos.line X.env = pure false := by rfl) (hw : swappedStores [.Subscript o i pos'] e X.env = pure none := by rfl)
    (h1 : (assignEach [.Subscript o i pos'] X.env).map (·.2) = [assign (.Subscript o i pos') X.env] := by rfl) : SS B X W (.Assign [.Subscript o i pos'] e pos) (mSubSet mo mi mv) :=
  PS.imp (ps_asg hv (pg_sub ho hi (set_gSet (B := B) hu) ha) hs hw h1) fun D σ H ⟨ρ, F, h, s, sr, hr, p⟩ => ⟨ρ, F, h, s, sr, hr, PostS.expr sr p fun v h1 ρ1 F1 H1 x _ e1 hr1 rv sr1 p1 =>
    ⟨ρ1, F1, h1, s, sr1, hr1, PostS.expr sr1 p1 fun o h2 ρ2 F2 H2 y _ e2 hr2 ro sr2 p2 =>
      ⟨ρ2, F2, h2, s, sr2, hr2, PostS.expr sr2 p2 fun i h3 ρ3 F3 H3 z _ e3 hr3 ri sr3 p3 => by
        cases k : gSet o i v h3 with
        | none => rw [k] at p3; exact p3.elim
        | some h4 =>
          rw [k] at p3
          exact ⟨ρ3, F3, h3, o, i, v, h4, hr3, ro.ext e3, ri, (rv.ext e2).ext e3, k, fun H' e4 hr4 => p3 _ _ _ _ e4 hr4 (sr3.ext e4)⟩⟩⟩⟩
/-- what stands at o[i], for o[i] op= e -/
def gGet : G2 := fun a b h => match dGet h a b with
  | some o => o
  | none => match vL h a, b with
    | some xs, .int i => atI xs i
    | _, _ => none
theorem get_gGet (hu : X.A.units + 64 < cLine) : PGet X (rm2 B gGet) := by
  intro pins s σ H x y v u Q I rx ry hh
  obtain ⟨ρ, F, h, a, b, c, hr, ra, rb, ec, q⟩ := hh
  unfold gGet at ec
  split at ec
  · rename_i o ed
    subst ec
    obtain ⟨p, ov, ex, g, w⟩ := dGet_at hr ra rb ed
    rcases w with ⟨e1, _⟩ | ⟨c', v', e1, e2, rc⟩
    · cases e1
    · cases e1
      subst e2
      subst ex
      obtain rfl : v = Value.ref p := rx
      exact d_getItem (by omega) I g ry fun w' s3 I3 rw' => ⟨v', H, I3, rw', q _ _ _ _ Ext.refl hr rc⟩
  · split at ec
    · rename_i xs i el _
      obtain ⟨p, vs, ex, ql, rs⟩ := vL_at hr ra el
      subst ex
      obtain rfl : v = Value.ref p := rx
      have rb : y = .int i := rb
      subst rb
      obtain ⟨t, rfl⟩ := ry
      obtain ⟨w, ew, rw'⟩ := RVs.at rs ec
      obtain ⟨its, r, pl, hz⟩ := I.list (.inl (.inl ql))
      obtain ⟨j, h1, h2, h3, h4, h5⟩ := atI_get ew
      obtain ⟨wv, ewv, rwv⟩ := r.get h2
      have hl := r.length
      have hn := line63
      have fin : EP X pins σ Q wv s := ⟨w, H, I, rwv, q _ _ _ _ Ext.refl hr rw'⟩
      by_cases h0 : 0 ≤ i
      · have hj : i.toNat = j := by
          rw [seqIndex_of h0 h5] at h1
          exact Option.some.inj h1
        exact wpAny_getItem_list (x := wv) pl.isList h0 (by omega) (by rw [hj]; simpa using ewv) fin
      · have hj : (i + (its.toArray.size : Int)).toNat = j := by
          rw [seqIndex_neg (by omega) h4] at h1
          rw [List.size_toArray, ← hl]
          exact Option.some.inj h1
        exact wpAny_getItem_list_neg (x := wv) pl.isList (by omega) (by rw [List.size_toArray] <;> omega) (by omega) (by rw [hj]; simpa using ewv) fin
    · cases ec
def mSubAug (g : G2) (mo mi mv : ME) : MS := fun s h => (mo s h).toS s fun o h1 => (mi s h1).toS s fun i h2 => match gGet o i h2 with
  | some x => (mv s h2).toS s fun y h3 => match g x y h3 with
    | some z => match gSet o i z h3 with
      | some h4 => .nx s h4
      | none => .stk
    | none => .stk
  | none => .stk
theorem ss_subaug {o i e : Expr} {mo mi mv : ME} {op : Operator} {g : G2} {pos tpos : Pos} (hu : X.A.units + 64 < cLine) (hop : OpR X (inplaceOp op) (rm2 B g)) (ho : SE B X W o mo) (hi : SE B X W i mi) (hv : SE B X W e mv)
    (ha : ∀ ov iv new, augStore i ov iv new = (do holding [new, ov, iv] (setItem ov iv new); release [new, ov, iv] []; pure .next) := by intros; rfl) : SS B X W (.AugAssign (.Subscript o i tpos) op e pos) (mSubAug g mo mi mv) :=
  PS.imp (ps_augS ho hi (get_gGet (B := B) hu) hv (tip := rm2 B g) (fun pins s σ H x y v u Q I rx ry h => hop pins s σ H x y v u Q I rx ry h) (set_gSet (B := B) hu) ha) fun D σ H ⟨ρ, F, h, s, sr, hr, p⟩ => ⟨ρ, F, h, s, sr, hr, PostS.expr sr p fun o h1 ρ1 F1 H1 x _ e1 hr1 ro sr1 p1 =>
    ⟨ρ1, F1, h1, s, sr1, hr1, PostS.expr sr1 p1 fun i h2 ρ2 F2 H2 y _ e2 hr2 ri sr2 p2 => by
      cases k : gGet o i h2 with
      | none => simp only [k] at p2; exact p2.elim
      | some xv =>
        simp only [k] at p2
        refine ⟨ρ2, F2, h2, o, i, xv, hr2, ro.ext e2, ri, k, fun ρ3 F3 H3 z e3 hr3 rx => ⟨ρ3, F3, h2, s, sr2.ext e3, hr3, PostS.expr (sr2.ext e3) (PostS.ext e3 p2) fun yv h3 ρ4 F4 H4 w _ e4 hr4 ry sr4 p4 => ?_⟩⟩
        cases k2 : g xv yv h3 with
        | none => simp only [k2] at p4; exact p4.elim
        | some zv =>
          simp only [k2] at p4
          refine ⟨ρ4, F4, h3, xv, yv, zv, hr4, rx.ext e4, ry, k2, fun ρ5 F5 H5 w5 e5 hr5 rz => ?_⟩
          cases k3 : gSet o i zv h3 with
          | none => simp only [k3] at p4; exact p4.elim
          | some h4 =>
            simp only [k3] at p4
            exact ⟨ρ5, F5, h3, o, i, zv, h4, hr5, (((ro.ext e2).ext e3).ext e4).ext e5, ((ri.ext e3).ext e4).ext e5, rz, k3, fun H' e6 hr6 => p4 _ _ _ _ (e5.trans e6) hr6 ((sr4.ext e5).ext e6)⟩⟩⟩
/-- del d[k] -/
def mDel (mo mi : ME) : MS := fun s h => (mo s h).toS s fun o h1 => (mi s h1).toS s fun i h2 => match o with
  | .ref n => match h2[n]?, keyOf i with
    | some (.dK kvs), some k => if (kget kvs k).isSome = true then .nx s (h2.set n (.dK (kdrop kvs k))) else .stk
    | _, _ => .stk
  | _ => .stk
theorem ss_del {o i : Expr} {mo mi : ME} {pos tpos : Pos} (ho : SE B X W o mo) (hi : SE B X W i mi) : SS B X W (.Delete [.Subscript o i tpos] pos) (mDel mo mi) :=
  PS.imp (ps_ddel ho hi) fun D σ H ⟨ρ, F, h, s, sr, hr, p⟩ => ⟨ρ, F, h, s, sr, hr, PostS.expr sr p fun o h1 ρ1 F1 H1 x _ e1 hr1 ro sr1 p1 =>
    ⟨ρ1, F1, h1, s, sr1, hr1, PostS.expr sr1 p1 fun i h2 ρ2 F2 H2 y _ e2 hr2 ri sr2 p2 => by
      cases o with
      | ref n =>
        obtain ⟨q, eq, ex⟩ := ro.ext e2
        obtain ⟨ob, eo, rob⟩ := hr2.at' eq
        simp only [eo] at p2
        split at p2
        · rename_i kvs k e3 e4
          cases e3
          split at p2
          · rename_i hs
            obtain ⟨u, eu, ws, e5, rs⟩ := rob
            subst e5
            refine ⟨q, ws, k, ex, eu, key_at ri e4, ?_, ?_⟩
            · rcases RKs.get rs k with ⟨z1, z2⟩ | ⟨a, v, z1, z2, _⟩
              · rw [z1] at hs; cases hs
              · rw [z2]; rfl
            · obtain ⟨hr3, e6⟩ := hr2.write (o := .dK (kdrop kvs k)) (u := .dK (dropK ws k)) eq ⟨_, upd_same, _, rfl, rs.drop k⟩ eu
              exact p2 _ _ _ _ e6 hr3 (sr2.ext e6)
          · exact p2.elim
        · exact p2.elim
      | _ => exact p2.elim⟩⟩
end
end NC
end S3
end
section
set_option Elab.async false
set_option linter.all false
set_option maxRecDepth 100000
set_option maxHeartbeats 4000000
namespace S3
open PySem PySem.Spec PyProof.Rows L2
noncomputable section NC

/-! ### while -/
def Ss.lp (r : Ss) (k : Sl → AH → Ss) : Ss := match r with
  | .nx s h => k s h
  | .ct s h => k s h
  | .bk s h => .nx s h
  | r => r
def whileL (c : MT) (b : MS) : Nat → MS
  | 0 => fun _ _ => .stk
  | n + 1 => fun s h => (c s h).toS s fun x h1 => if x = true then (b s h1).lp (whileL c b n) else .nx s h1
def mWhile (f : Sl → AH → Nat) (c : MT) (b : MS) : MS := fun s h => whileL c b (f s h) s h
section
variable {B : Bx} {X : Cx} {W : WX}
/-- a turn of a loop -/
theorem lp_turn {ρ : List Addr} {F H : Hp} {r : Ss} {k : Sl → AH → Ss} {D : Ends} {N : L2.St → Hp → Prop} (p : PostS B ρ F H (r.lp k) D W)
    (q : ∀ ρ' F' H' σ' s' h', Ext ρ F H ρ' F' H' → HR B ρ' F' h' H' → SR B ρ' F' s' σ' → PostS B ρ' F' H' (k s' h') D W → N σ' H') : PostS B ρ F H r { D with nx := N, ct := N, bk := D.nx } W := by
  cases r with
  | nx s h => exact fun ρ' F' H' σ' e hr sr => q _ _ _ _ _ _ e hr sr (PostS.ext e p)
  | ct s h => exact fun ρ' F' H' σ' e hr sr => q _ _ _ _ _ _ e hr sr (PostS.ext e p)
  | bk s h => exact p
  | rt a h => exact p
  | exc s c fs h => exact p
  | stk => exact p
theorem ss_while {c : Expr} {body : List Stmt} {mc : MT} {b : MS} {f : Sl → AH → Nat} {pos : Pos} (hp : PassesOwn (model X.prog X.w) X.A X.env X.xe) (hc : STt B X W c mc) (hb : SSs B X W body b) : SS B X W (.While c body [] pos) (mWhile f mc b) :=
  PS.imp (ps_while hp hc hb) fun D σ H ⟨ρ, F, h, s, sr, hr, p⟩ => by
    refine ⟨fun m σ H => ∃ ρ F h s, SR B ρ F s σ ∧ HR B ρ F h H ∧ PostS B ρ F H (whileL mc b m s h) D W, ⟨_, ρ, F, h, s, sr, hr, p⟩, fun m σ H ⟨ρ, F, h, s, sr, hr, p⟩ => ?_⟩
    cases m with
    | zero => exact p.elim
    | succ m =>
      refine ⟨ρ, F, h, s, sr, hr, PostS.expr sr p fun x h1 ρ1 F1 H1 y _ e1 hr1 ra sr1 p1 => ?_⟩
      cases ra
      cases x with
      | false => exact p1 _ _ _ _ Ext.refl hr1 sr1
      | true =>
        refine ⟨fun σ H => ∃ ρ F h s, SR B ρ F s σ ∧ HR B ρ F h H ∧ PostS B ρ F H (whileL mc b m s h) D W, fun σ' H' z => ⟨m, Nat.lt_succ_self m, z⟩, ρ1, F1, h1, s, sr1, hr1, ?_⟩
        exact lp_turn p1 fun ρ' F' H' σ' s' h' e hr' sr' p' => ⟨ρ', F', h', s', sr', hr', p'⟩

/-! ### what is walked -/
abbrev Rd := AH → Option (List AV)
abbrev MI := Sl → AH → Rs Rd
/-- the iterator gives what rd tells, as it stands -/
def IR (B : Bx) (ρ : List Addr) (F : Hp) (rd : Rd) (jh : It × Hp) : Prop := ∀ ρ' F' h H', Ext ρ F jh.2 ρ' F' H' → HR B ρ' F' h H' → ∀ xs, rd h = some xs →
  (∀ i, xs.length ≤ i → jh.1.stop i H') ∧ ∀ i x, xs[i]? = some x → jh.1.go i H' ∧ ∀ v H'', jh.1.yld i H' v H'' → ∃ ρ'' F'', Ext ρ' F' H' ρ'' F'' H'' ∧ HR B ρ'' F'' h H'' ∧ RV B ρ'' F'' x v
def tmI (B : Bx) (W : WX) (m : MI) : TI := fun σ H R => tmG B (IR B) W m σ H fun jh H' => jh.2 = H' → R jh.1 H'
abbrev SI (B : Bx) (X : Cx) (W : WX) (tg e : Expr) (m : MI) : Prop := PI X tg e (tmI B W m)
theorem PI.imp {tg e : Expr} {t t' : TI} (h : PI X tg e t) (w : ∀ σ H R, t' σ H R → t σ H R) : PI X tg e t' := ⟨fun pins s σ H R I q => h.run pins s σ H R I (w σ H R q)⟩
/-- items that stay -/
theorem IR.same {ρ : List Addr} {F H : Hp} {J : It} {rd : Rd} (h : ∀ ρ' F' h H', Ext ρ F H ρ' F' H' → HR B ρ' F' h H' → ∀ xs, rd h = some xs →
    (∀ i, xs.length ≤ i → J.stop i H') ∧ ∀ i x, xs[i]? = some x → J.go i H' ∧ ∀ v H'', J.yld i H' v H'' → H'' = H' ∧ RV B ρ' F' x v) : IR B ρ F rd (J, H) := fun ρ' F' h1 H' e hr xs ex => by
  obtain ⟨a, b⟩ := h ρ' F' h1 H' e hr xs ex
  refine ⟨a, fun i x hx => ?_⟩
  obtain ⟨c, d⟩ := b i x hx
  refine ⟨c, fun v H'' hy => ?_⟩
  obtain ⟨rfl, r⟩ := d v H'' hy
  exact ⟨ρ', F', Ext.refl, hr, r⟩
def mSq (m : ME) : MI := fun s h => (m s h).bind fun a h1 => match vLR h1 a with
  | some _ => .ok (fun h => vLR h a) h1
  | none => .stk
def mSqT (m : ME) : MI := fun s h => (m s h).bind fun a h1 => match vT a with
  | some xs => .ok (fun _ => some xs) h1
  | none => .stk
theorem RVs.nth {ρ : List Addr} {F : Hp} {xs : List AV} {vs : List V} (r : RVs B ρ F xs vs) {i : Nat} {x : AV} (e : xs[i]? = some x) : ∃ v, vs[i]? = some v ∧ RV B ρ F x v := by
  induction xs generalizing vs i with
  | nil => cases e
  | cons a t ih =>
    obtain ⟨v, w, ev, r1, r2⟩ := r
    subst ev
    cases i with
    | zero => cases e; exact ⟨v, rfl, r1⟩
    | succ i => exact ih r2 e
theorem si_list {tg e : Expr} {m : ME} (he : SE B X W e m) (hK : X.K = B.K := by rfl) : SI B X W tg e (mSq m) :=
  PI.imp (pi_list he) fun σ H R ⟨ρ, F, h, s, sr, hr, p⟩ => ⟨ρ, F, h, s, sr, hr, p.andThen fun a h1 ρ1 F1 H1 x _ e1 hr1 ra p1 => by
    cases k : vLR h1 a with
    | none => rw [k] at p1; exact p1.elim
    | some xs =>
      rw [k] at p1
      obtain ⟨q, vs, ex, qt, rs⟩ := vLR_at hr1 ra k
      refine ⟨q, ex, ⟨vs, by rw [hK]; exact qt⟩, p1 ρ1 F1 H1 (Itl X.K q, H1) Ext.refl hr1 (IR.same fun ρ' F' h' H' e' hr' ys ey => ?_) rfl⟩
      obtain ⟨q', ws, ex', qt', rs'⟩ := vLR_at hr' (ra.ext e') ey
      rw [ex] at ex'
      cases ex'
      rw [hK]
      refine ⟨fun i hi => ⟨ws, qt', by rw [← RVs.length rs']; exact hi⟩, fun i x hx => ?_⟩
      obtain ⟨v, ev, rv⟩ := rs'.nth hx
      refine ⟨⟨ws, v, qt', ev⟩, fun u H'' ⟨e1, e2⟩ => ⟨e1, ?_⟩⟩
      have := e2 ws qt'
      rw [ev] at this
      cases this
      exact rv⟩
theorem si_tup {tg e : Expr} {m : ME} (he : SE B X W e m) (hK : X.K = B.K := by rfl) : SI B X W tg e (mSqT m) :=
  PI.imp (pi_tup he) fun σ H R ⟨ρ, F, h, s, sr, hr, p⟩ => ⟨ρ, F, h, s, sr, hr, p.andThen fun a h1 ρ1 F1 H1 x _ e1 hr1 ra p1 => by
    cases k : vT a with
    | none => rw [k] at p1; exact p1.elim
    | some xs =>
      rw [k] at p1
      obtain ⟨q, vs, ex, qt, rs⟩ := vT_at hr1 ra k
      refine ⟨q, ex, ⟨vs, by rw [hK]; exact qt⟩, p1 ρ1 F1 H1 (Itt X.K q, H1) Ext.refl hr1 (IR.same fun ρ' F' h' H' e' hr' ys ey => ?_) rfl⟩
      have ey : some xs = some ys := ey
      cases ey
      obtain ⟨q', ws, ex', qt', rs'⟩ := vT_at hr' (ra.ext e') k
      rw [ex] at ex'
      cases ex'
      rw [hK]
      refine ⟨fun i hi => ⟨ws, qt', by rw [← RVs.length rs']; exact hi⟩, fun i x hx => ?_⟩
      obtain ⟨v, ev, rv⟩ := rs'.nth hx
      refine ⟨⟨ws, v, qt', ev⟩, fun u H'' ⟨e1, e2⟩ => ⟨e1, ?_⟩⟩
      have := e2 ws qt'
      rw [ev] at this
      cases this
      exact rv⟩
/-! ranges -/
/-- lo, lo + c, .. (n of them) -/
def upL (lo c : Int) (n : Nat) : List AV := (List.range n).map fun (i : Nat) => .int (lo + i * c)
theorem upL_len (lo c : Int) (n : Nat) : (upL lo c n).length = n := by rw [upL, List.length_map, List.length_range]
theorem upL_at {lo c : Int} {n i : Nat} {x : AV} (e : (upL lo c n)[i]? = some x) : i < n ∧ x = .int (lo + i * c) := by
  have hi : i < n := by
    have := (List.getElem?_eq_some_iff.mp e).1
    rw [upL_len] at this
    exact this
  refine ⟨hi, ?_⟩
  rw [upL, List.getElem?_map, List.getElem?_range hi] at e
  cases e
  rfl
def rdC (xs : List AV) : Rd := fun _ => some xs
def okN (i : Int) : Prop := -(2 ^ 62) ≤ i ∧ i < 2 ^ 62
noncomputable instance (i : Int) : Decidable (okN i) := Classical.propDecidable _
noncomputable instance (i j c : Int) (n : Nat) : Decidable (RgC i j c n) := Classical.propDecidable _
def mRg1 (m : MA) : MI := fun s h => (m s h).bind fun xs h1 => match xs with
  | [.int j] => if okN j then .ok (rdC (upL 0 1 j.toNat)) h1 else .stk
  | _ => .stk
def mRg2 (m : MA) : MI := fun s h => (m s h).bind fun xs h1 => match xs with
  | [.int i, .int j] => if okN i ∧ okN j then .ok (rdC (upL i 1 (j - i).toNat)) h1 else .stk
  | _ => .stk
/-- how many items range(i, j, c) has -/
def rgN (i j c : Int) : Nat := if 0 < c then ((j - i + c - 1) / c).toNat else ((i - j - c - 1) / (-c)).toNat
def mRg3 (m : MA) : MI := fun s h => (m s h).bind fun xs h1 => match xs with
  | [.int i, .int j, .int c] => if RgC i j c (rgN i j c) then .ok (rdC (upL i c (rgN i j c))) h1 else .stk
  | _ => .stk
theorem IR.rng {ρ : List Addr} {F H : Hp} {lo c : Int} {n : Nat} : IR B ρ F (rdC (upL lo c n)) (Itc lo c n, H) := IR.same fun ρ' F' h' H' e' hr' ys ey => by
  have ey : some (upL lo c n) = some ys := ey
  cases ey
  refine ⟨fun i hi => by rw [upL_len] at hi; exact hi, fun i x hx => ?_⟩
  obtain ⟨hi, rfl⟩ := upL_at hx
  exact ⟨hi, fun v H'' ⟨e1, e2⟩ => ⟨e1, e2⟩⟩
theorem IR.rng1 {ρ : List Addr} {F H : Hp} {lo : Int} {n : Nat} : IR B ρ F (rdC (upL lo 1 n)) (Itr lo n, H) := IR.same fun ρ' F' h' H' e' hr' ys ey => by
  have ey : some (upL lo 1 n) = some ys := ey
  cases ey
  refine ⟨fun i hi => by rw [upL_len] at hi; exact hi, fun i x hx => ?_⟩
  obtain ⟨hi, rfl⟩ := upL_at hx
  exact ⟨hi, fun v H'' ⟨e1, e2⟩ => ⟨e1, by rw [e2, Int.mul_one]; rfl⟩⟩
theorem ints1 {ρ : List Addr} {F : Hp} {i : Int} {vs : List V} (r : RVs B ρ F [.int i] vs) : vs = [.int i] := by
  obtain ⟨v, w, rfl, r1, r2⟩ := r
  have r1 : v = .int i := r1
  have r2 : w = [] := r2
  rw [r1, r2]
theorem ints2 {ρ : List Addr} {F : Hp} {i j : Int} {vs : List V} (r : RVs B ρ F [.int i, .int j] vs) : vs = [.int i, .int j] := by
  obtain ⟨v, w, rfl, r1, r2⟩ := r
  have r1 : v = .int i := r1
  rw [r1, ints1 r2]
theorem ints3 {ρ : List Addr} {F : Hp} {i j k : Int} {vs : List V} (r : RVs B ρ F [.int i, .int j, .int k] vs) : vs = [.int i, .int j, .int k] := by
  obtain ⟨v, w, rfl, r1, r2⟩ := r
  have r1 : v = .int i := r1
  rw [r1, ints2 r2]
theorem si_range1 {tg a : Expr} {m : MA} {p pos : Pos} (hg : Gl X "range") (hm : X.mg "range" = none) (ha : SA B X W [a] m) (hs : starEach [a] X.env = [(false, eval a X.env)] := by rfl) : SI B X W tg (.Call (.Name "range" p) [a] [] pos) (mRg1 m) :=
  PI.imp (pi_range1 hg hm ha hs) fun σ H R ⟨ρ, F, h, s, sr, hr, p⟩ => ⟨ρ, F, h, s, sr, hr, p.andThen fun a h1 ρ1 F1 H1 x _ e1 hr1 ra p1 => by
    split at p1
    · rename_i j _
      split at p1
      · rename_i hj
        exact ⟨j, ints1 ra, hj.1, hj.2, p1 ρ1 F1 H1 _ Ext.refl hr1 IR.rng1 rfl⟩
      · exact p1.elim
    · exact p1.elim⟩
theorem si_range2 {tg a b : Expr} {m : MA} {p pos : Pos} (hg : Gl X "range") (hm : X.mg "range" = none) (ha : SA B X W [a, b] m) (hs : starEach [a, b] X.env = [(false, eval a X.env), (false, eval b X.env)] := by rfl) (hs2 : starEach [b] X.env = [(false, eval b X.env)] := by rfl) : SI B X W tg (.Call (.Name "range" p) [a, b] [] pos) (mRg2 m) :=
  PI.imp (pi_range2 hg hm ha hs hs2) fun σ H R ⟨ρ, F, h, s, sr, hr, p⟩ => ⟨ρ, F, h, s, sr, hr, p.andThen fun a h1 ρ1 F1 H1 x _ e1 hr1 ra p1 => by
    split at p1
    · rename_i i j _
      split at p1
      · rename_i hj
        exact ⟨i, j, ints2 ra, ⟨hj.1.1, hj.1.2, hj.2.1, hj.2.2⟩, p1 ρ1 F1 H1 _ Ext.refl hr1 IR.rng1 rfl⟩
      · exact p1.elim
    · exact p1.elim⟩
theorem si_range3 {tg a b c : Expr} {m : MA} {p pos : Pos} (hg : Gl X "range") (hm : X.mg "range" = none) (ha : SA B X W [a, b, c] m) (hs : starEach [a, b, c] X.env = (false, eval a X.env) :: starEach [b, c] X.env := by rfl) (hpl : (backTo pos (starEach [b, c] X.env)).any (·.1) = false := by rfl) : SI B X W tg (.Call (.Name "range" p) [a, b, c] [] pos) (mRg3 m) :=
  PI.imp (pi_range3 hg hm ha hs hpl) fun σ H R ⟨ρ, F, h, s, sr, hr, p⟩ => ⟨ρ, F, h, s, sr, hr, p.andThen fun a h1 ρ1 F1 H1 x _ e1 hr1 ra p1 => by
    split at p1
    · rename_i i j c _
      split at p1
      · rename_i hj
        exact ⟨i, j, c, _, ints3 ra, hj, p1 ρ1 F1 H1 _ Ext.refl hr1 IR.rng rfl⟩
      · exact p1.elim
    · exact p1.elim⟩
end
end NC
end S3
end
section
set_option Elab.async false
set_option linter.all false
set_option maxRecDepth 100000
set_option maxHeartbeats 4000000
namespace S3
open PySem PySem.Spec PyProof.Rows L2
noncomputable section NC
section
variable {B : Bx} {X : Cx} {W : WX}
/-! ### a text, backwards -/
def chars (x : Str) : List AV := x.cps.toList.map fun c => .str ⟨#[c]⟩
def mStrI (m : ME) : MI := fun s h => (m s h).bind fun a h1 => match a with
  | .str x => .ok (rdC (chars x)) h1
  | _ => .stk
theorem si_str {tg e : Expr} {m : ME} (he : SE B X W e m) : SI B X W tg e (mStrI m) :=
  PI.imp (pi_str he) fun σ H R ⟨ρ, F, h, s, sr, hr, p⟩ => ⟨ρ, F, h, s, sr, hr, p.andThen fun a h1 ρ1 F1 H1 x _ e1 hr1 ra p1 => by
    cases a with
    | str y =>
      have ra : x = .str y := ra
      refine ⟨y, ra, p1 ρ1 F1 H1 _ Ext.refl hr1 (IR.same (J := Its y) fun ρ' F' h' H' e' hr' ys ey => ?_) rfl⟩
      have ey : some (chars y) = some ys := ey
      cases ey
      have hl : (chars y).length = y.cps.size := by rw [chars, List.length_map, Array.length_toList]
      refine ⟨fun i hi => by rw [hl] at hi; exact hi, fun i x hx => ?_⟩
      have hi : i < y.cps.size := by
        have := (List.getElem?_eq_some_iff.mp hx).1
        rw [hl] at this
        exact this
      refine ⟨hi, fun v H'' ⟨e1, c, ec, ev⟩ => ⟨e1, ?_⟩⟩
      rw [chars, List.getElem?_map, Array.getElem?_toList, ec] at hx
      cases hx
      exact ev
    | _ => exact p1.elim⟩
def revS : Option (List AV) → Option (List AV) := fun o => o.map List.reverse
/-- reversed(list or tuple) that does not change -/
def mRev (m : ME) : MI := fun s h => (m s h).bind fun a h1 => match a with
  | .lst xs => .ok (rdC xs.reverse) h1
  | .rdl xs => .ok (rdC xs.reverse) h1
  | .tup xs => .ok (rdC xs.reverse) h1
  | .rdt xs => .ok (rdC xs.reverse) h1
  | _ => .stk
theorem rev_at {xs : List AV} {i : Nat} {x : AV} (e : xs.reverse[i]? = some x) : i < xs.length ∧ xs[xs.length - 1 - i]? = some x := by
  have hi : i < xs.length := by
    have := (List.getElem?_eq_some_iff.mp e).1
    rw [List.length_reverse] at this
    exact this
  rw [List.getElem?_reverse hi] at e
  exact ⟨hi, e⟩
theorem irev {ρ : List Addr} {F H : Hp} {q : Addr} {xs : List AV} (K : PySem.W.Frag) (hh : ∀ ρ' F' h H', Ext ρ F H ρ' F' H' → HR B ρ' F' h H' → ∃ vs, SqL K H' q vs ∧ RVs B ρ' F' xs vs) : IR B ρ F (rdC xs.reverse) (Itv K q xs.length, H) := IR.same fun ρ' F' h' H' e' hr' ys ey => by
  have ey : some xs.reverse = some ys := ey
  cases ey
  obtain ⟨ws, qt, rs⟩ := hh ρ' F' h' H' e' hr'
  refine ⟨fun i hi => by rw [List.length_reverse] at hi; exact hi, fun i x hx => ?_⟩
  obtain ⟨hi, ex⟩ := rev_at hx
  obtain ⟨v, ev, rv⟩ := rs.nth ex
  refine ⟨⟨hi, ws, v, qt, ev⟩, fun u H'' ⟨e1, e2⟩ => ⟨e1, ?_⟩⟩
  have := e2 ws qt
  rw [ev] at this
  cases this
  exact rv
theorem irevT {ρ : List Addr} {F H : Hp} {q : Addr} {xs : List AV} (K : PySem.W.Frag) (hh : ∀ ρ' F' h H', Ext ρ F H ρ' F' H' → HR B ρ' F' h H' → ∃ vs, SqT K H' q vs ∧ RVs B ρ' F' xs vs) : IR B ρ F (rdC xs.reverse) (RT.ItvT K q xs.length, H) := IR.same fun ρ' F' h' H' e' hr' ys ey => by
  have ey : some xs.reverse = some ys := ey
  cases ey
  obtain ⟨ws, qt, rs⟩ := hh ρ' F' h' H' e' hr'
  refine ⟨fun i hi => by rw [List.length_reverse] at hi; exact hi, fun i x hx => ?_⟩
  obtain ⟨hi, ex⟩ := rev_at hx
  obtain ⟨v, ev, rv⟩ := rs.nth ex
  refine ⟨⟨hi, ws, v, qt, ev⟩, fun u H'' ⟨e1, e2⟩ => ⟨e1, ?_⟩⟩
  have := e2 ws qt
  rw [ev] at this
  cases this
  exact rv
/-- a list that does not change, seen again and again -/
theorem sqL_again {ρ : List Addr} {F H : Hp} {h : AH} {a : AV} {v : V} {xs : List AV} (hf : vLR [] a = some xs) (ra : RV B ρ F a v) (hr : HR B ρ F h H) : ∃ p vs, v = .ref p ∧ SqL B.K H p vs ∧ RVs B ρ F xs vs := by
  have e : vLR h a = some xs := by
    cases a with
    | ref n => cases hf
    | _ => exact hf
  exact vLR_at hr ra e
theorem si_rev {tg e : Expr} {m : ME} {p pos : Pos} (hg : Gl X "reversed") (hm : X.mg "reversed" = none) (he : SE B X W e m) (hs : starEach [e] X.env = (false, eval e X.env) :: starEach [] X.env := by rfl) (hK : X.K = B.K := by rfl) : SI B X W tg (.Call (.Name "reversed" p) [e] [] pos) (mRev m) :=
  PI.imp (RT.pi_revA hg hm he hs) fun σ H R ⟨ρ, F, h, s, sr, hr, p⟩ => ⟨ρ, F, h, s, sr, hr, p.andThen fun a h1 ρ1 F1 H1 x _ e1 hr1 ra p1 => by
    have lists : ∀ xs : List AV, vLR [] a = some xs → (∀ (H' : Hp) (R' : It → Hp → Prop), Post B (IR B) ρ1 F1 H1 (.ok (rdC xs.reverse) h1) (fun jh H' => jh.2 = H' → R jh.1 H') (fun cls d H' => W cls d σ H') → True) → Post B (IR B) ρ1 F1 H1 (.ok (rdC xs.reverse) h1) (fun jh H' => jh.2 = H' → R jh.1 H') (fun cls d H' => W cls d σ H') →
        ∃ (b : Addr) (ys : List V), x = .ref b ∧ ((SqL X.K H1 b ys ∧ R (Itv X.K b ys.length) H1) ∨ (SqT X.K H1 b ys ∧ R (RT.ItvT X.K b ys.length) H1)) := fun xs ev _ p1 => by
      obtain ⟨q, vs, ex, qt, rs⟩ := sqL_again ev ra hr1
      refine ⟨q, vs, ex, .inl ⟨by rw [hK]; exact qt, ?_⟩⟩
      rw [← RVs.length rs, hK]
      exact p1 ρ1 F1 H1 (Itv B.K q xs.length, H1) Ext.refl hr1 (irev B.K fun ρ' F' h' H' e' hr' => by
        obtain ⟨q', ws, ex', qt', rs'⟩ := sqL_again ev (ra.ext e') hr'
        rw [ex] at ex'
        cases ex'
        exact ⟨ws, qt', rs'⟩) rfl
    have tups : ∀ xs : List AV, vT a = some xs → Post B (IR B) ρ1 F1 H1 (.ok (rdC xs.reverse) h1) (fun jh H' => jh.2 = H' → R jh.1 H') (fun cls d H' => W cls d σ H') →
        ∃ (b : Addr) (ys : List V), x = .ref b ∧ ((SqL X.K H1 b ys ∧ R (Itv X.K b ys.length) H1) ∨ (SqT X.K H1 b ys ∧ R (RT.ItvT X.K b ys.length) H1)) := fun xs ev p1 => by
      obtain ⟨q, vs, ex, qt, rs⟩ := vT_at hr1 ra ev
      refine ⟨q, vs, ex, .inr ⟨by rw [hK]; exact qt, ?_⟩⟩
      rw [← RVs.length rs, hK]
      exact p1 ρ1 F1 H1 (RT.ItvT B.K q xs.length, H1) Ext.refl hr1 (irevT B.K fun ρ' F' h' H' e' hr' => by
        obtain ⟨q', ws, ex', qt', rs'⟩ := vT_at hr' (ra.ext e') ev
        rw [ex] at ex'
        cases ex'
        exact ⟨ws, qt', rs'⟩) rfl
    cases a with
    | lst xs => exact lists xs rfl (fun _ _ _ => trivial) p1
    | rdl xs => exact lists xs rfl (fun _ _ _ => trivial) p1
    | tup xs => exact tups xs rfl p1
    | rdt xs => exact tups xs rfl p1
    | _ => exact p1.elim⟩

/-! ### enumerate, zip -/
def enumL (xs : List AV) : List AV := xs.zipIdx.map fun x => .tup [.int (x.2 : Nat), x.1]
theorem enumL_len (xs : List AV) : (enumL xs).length = xs.length := by rw [enumL, List.length_map, List.length_zipIdx]
theorem enumL_at {xs : List AV} {i : Nat} {x : AV} (e : (enumL xs)[i]? = some x) : ∃ y, xs[i]? = some y ∧ x = .tup [.int (i : Nat), y] := by
  rw [enumL, List.getElem?_map, List.getElem?_zipIdx] at e
  cases k : xs[i]? with
  | none => rw [k] at e; cases e
  | some y =>
    rw [k] at e
    cases e
    exact ⟨y, rfl, by simp⟩
def mEnum (m : MA) : MI := fun s h => (m s h).bind fun as h1 => match as with
  | [a] => match vLR h1 a with
    | some _ => .ok (fun h => (vLR h a).map enumL) h1
    | none => .stk
  | _ => .stk
theorem RVs.one {ρ : List Addr} {F : Hp} {a : AV} {vs : List V} (r : RVs B ρ F [a] vs) : ∃ v, vs = [v] ∧ RV B ρ F a v := by
  obtain ⟨v, w, rfl, r1, r2⟩ := r
  have r2 : w = [] := r2
  exact ⟨v, by rw [r2], r1⟩
theorem RVs.two {ρ : List Addr} {F : Hp} {a b : AV} {vs : List V} (r : RVs B ρ F [a, b] vs) : ∃ v w, vs = [v, w] ∧ RV B ρ F a v ∧ RV B ρ F b w := by
  obtain ⟨v, w, rfl, r1, r2⟩ := r
  obtain ⟨w', rfl, r3⟩ := r2.one
  exact ⟨v, w', rfl, r1, r3⟩
theorem si_enum {e : Expr} {m : MA} {p pos tpos : Pos} {elts : List Expr} {kk : Nat} (hg : Gl X "enumerate") (hm : X.mg "enumerate" = none) (ha : SA B X W [e] m) (hs : starEach [e] X.env = [(false, eval e X.env)] := by rfl) (hK : X.K = B.K := by rfl) :
    SI B X W (.Tuple elts kk tpos) (.Call (.Name "enumerate" p) [e] [] pos) (mEnum m) :=
  PI.imp (pi_enum hg hm ha hs) fun σ H R ⟨ρ, F, h, s, sr, hr, p⟩ => ⟨ρ, F, h, s, sr, hr, p.andThen fun as h1 ρ1 F1 H1 x _ e1 hr1 ra p1 => by
    split at p1
    · rename_i a _
      cases k : vLR h1 a with
      | none => simp only [k] at p1; exact p1.elim
      | some xs =>
        simp only [k] at p1
        obtain ⟨v, rfl, rb⟩ := ra.one
        obtain ⟨q, vs, ex, qt, rs⟩ := vLR_at hr1 rb k
        subst ex
        refine ⟨q, vs, rfl, by rw [hK]; exact qt, p1 ρ1 F1 H1 (Ite X.K q, H1) Ext.refl hr1 (fun ρ' F' h' H' e' hr' ys ey => ?_) rfl⟩
        cases k2 : vLR h' a with
        | none => simp only [k2] at ey; cases ey
        | some zs =>
          simp only [k2] at ey
          cases ey
          obtain ⟨q', ws, ex', qt', rs'⟩ := vLR_at hr' (rb.ext e') k2
          cases ex'
          rw [hK]
          refine ⟨fun i hi => ⟨ws, qt', by rw [← RVs.length rs']; rw [enumL_len] at hi; exact hi⟩, fun i x hx => ?_⟩
          obtain ⟨y, ey, rfl⟩ := enumL_at hx
          obtain ⟨v, ev, rv⟩ := rs'.nth ey
          refine ⟨⟨ws, v, qt', ev⟩, fun u H'' ⟨T, z, e1, e2, e3, e4⟩ => ?_⟩
          have := e4 ws qt'
          rw [ev] at this
          cases this
          subst e1
          subst e3
          obtain ⟨hr2, ex2⟩ := hr'.newF e2 (.tup [.int (i : Nat), v])
          exact ⟨ρ', _, ex2, hr2, T, _, rfl, upd_same, .int (i : Nat), [v], rfl, rfl, v, [], rfl, rv.ext ex2, rfl⟩
    · exact p1.elim⟩
def zipL (xs ys : List AV) : List AV := List.zipWith (fun a b => .tup [a, b]) xs ys
theorem zipL_at {xs ys : List AV} {i : Nat} {x : AV} (e : (zipL xs ys)[i]? = some x) : ∃ a b, xs[i]? = some a ∧ ys[i]? = some b ∧ x = .tup [a, b] := by
  rw [zipL, List.getElem?_zipWith] at e
  cases k : xs[i]? with
  | none => simp [k] at e
  | some a =>
    cases k2 : ys[i]? with
    | none => simp [k, k2] at e
    | some b =>
      simp [k, k2] at e
      exact ⟨a, b, rfl, rfl, e.symm⟩
theorem zipL_none {xs ys : List AV} {i : Nat} (e : (zipL xs ys).length ≤ i) : xs.length ≤ i ∨ ys.length ≤ i := by
  rw [zipL, List.length_zipWith] at e
  omega
def rdZ (a b : AV) : Rd := fun h => match vLR h a, vLR h b with
  | some xs, some ys => some (zipL xs ys)
  | _, _ => none
def mZip (m : MA) : MI := fun s h => (m s h).bind fun as h1 => match as with
  | [a, b] => match vLR h1 a, vLR h1 b, vT a, vT b with
    | some _, some _, _, _ => .ok (rdZ a b) h1
    | _, _, some xs, some ys => .ok (rdC (zipL xs ys)) h1
    | _, _, _, _ => .stk
  | _ => .stk
theorem zip_new {ρ : List Addr} {F H : Hp} {h : AH} {a b : AV} {v w : V} {T : Addr} (hr : HR B ρ F h H) (ra : RV B ρ F a v) (rb : RV B ρ F b w) (n : H T = none) : ∃ ρ'' F'', Ext ρ F H ρ'' F'' (upd H T (.tup [v, w])) ∧ HR B ρ'' F'' h (upd H T (.tup [v, w])) ∧ RV B ρ'' F'' (.tup [a, b]) (.ref T) := by
  obtain ⟨hr2, ex2⟩ := hr.newF n (.tup [v, w])
  exact ⟨ρ, _, ex2, hr2, T, _, rfl, upd_same, v, [w], rfl, ra.ext ex2, w, [], rfl, rb.ext ex2, rfl⟩
theorem si_zip {e e2 : Expr} {m : MA} {p pos tpos : Pos} {elts : List Expr} {kk : Nat} (hg : Gl X "zip") (hm : X.mg "zip" = none) (ha : SA B X W [e, e2] m)
    (hs : starEach [e, e2] X.env = (false, eval e X.env) :: starEach [e2] X.env := by rfl) (hpl : (backTo pos (starEach [e2] X.env)).any (·.1) = false := by rfl) (hK : X.K = B.K := by rfl) :
    SI B X W (.Tuple elts kk tpos) (.Call (.Name "zip" p) [e, e2] [] pos) (mZip m) :=
  PI.imp (RZ.pi_zipA hg hm ha hs hpl) fun σ H R ⟨ρ, F, h, s, sr, hr, p⟩ => ⟨ρ, F, h, s, sr, hr, p.andThen fun as h1 ρ1 F1 H1 x _ e1 hr1 ra p1 => by
    split at p1
    · rename_i a b _
      obtain ⟨v, w, ev, rv, rw'⟩ := ra.two
      split at p1
      · rename_i xs ys k1 k2
        obtain ⟨q, vs, ex, qt, rs⟩ := vLR_at hr1 rv k1
        obtain ⟨q2, vs2, ex2, qt2, rs2⟩ := vLR_at hr1 rw' k2
        refine ⟨q, q2, vs, vs2, by rw [ev, ex, ex2], .inl ⟨by rw [hK]; exact qt, by rw [hK]; exact qt2, p1 ρ1 F1 H1 (Itz X.K q q2, H1) Ext.refl hr1 (fun ρ' F' h' H' e' hr' ys ey => ?_) rfl⟩⟩
        unfold rdZ at ey
        split at ey
        · rename_i us ws j1 j2
          cases ey
          obtain ⟨q', ts, ex', qt', rs'⟩ := vLR_at hr' (rv.ext e') j1
          obtain ⟨q2', ts2, ex2', qt2', rs2'⟩ := vLR_at hr' (rw'.ext e') j2
          rw [ex] at ex'
          cases ex'
          rw [ex2] at ex2'
          cases ex2'
          rw [hK]
          refine ⟨fun i hi => ⟨ts, ts2, qt', qt2', by rw [← RVs.length rs', ← RVs.length rs2']; exact zipL_none hi⟩, fun i x hx => ?_⟩
          obtain ⟨a1, b1, g1, g2, rfl⟩ := zipL_at hx
          obtain ⟨v1, g3, rv1⟩ := rs'.nth g1
          obtain ⟨v2, g4, rv2⟩ := rs2'.nth g2
          refine ⟨⟨ts, ts2, v1, v2, qt', qt2', g3, g4⟩, fun u H'' ⟨T, z1, z2, e1, e2, e3, e4, e5⟩ => ?_⟩
          have y1 := e4 ts qt'
          rw [g3] at y1
          cases y1
          have y2 := e5 ts2 qt2'
          rw [g4] at y2
          cases y2
          subst e1
          subst e3
          exact zip_new hr' rv1 rv2 e2
        · cases ey
      · rename_i xs ys k1 k2 _
        obtain ⟨q, vs, ex, qt, rs⟩ := vT_at hr1 rv k1
        obtain ⟨q2, vs2, ex2, qt2, rs2⟩ := vT_at hr1 rw' k2
        refine ⟨q, q2, vs, vs2, by rw [ev, ex, ex2], .inr ⟨by rw [hK]; exact qt, by rw [hK]; exact qt2, p1 ρ1 F1 H1 (RZ.ItzT X.K q q2, H1) Ext.refl hr1 (fun ρ' F' h' H' e' hr' ys ey => ?_) rfl⟩⟩
        have ey : some (zipL xs _) = some ys := ey
        cases ey
        obtain ⟨q', ts, ex', qt', rs'⟩ := vT_at hr' (rv.ext e') k1
        obtain ⟨q2', ts2, ex2', qt2', rs2'⟩ := vT_at hr' (rw'.ext e') k2
        rw [ex] at ex'
        cases ex'
        rw [ex2] at ex2'
        cases ex2'
        rw [hK]
        refine ⟨fun i hi => ⟨ts, ts2, qt', qt2', by rw [← RVs.length rs', ← RVs.length rs2']; exact zipL_none hi⟩, fun i x hx => ?_⟩
        obtain ⟨a1, b1, g1, g2, rfl⟩ := zipL_at hx
        obtain ⟨v1, g3, rv1⟩ := rs'.nth g1
        obtain ⟨v2, g4, rv2⟩ := rs2'.nth g2
        refine ⟨⟨ts, ts2, v1, v2, qt', qt2', g3, g4⟩, fun u H'' ⟨T, z1, z2, e1, e2, e3, e4, e5⟩ => ?_⟩
        have y1 := e4 ts qt'
        rw [g3] at y1
        cases y1
        have y2 := e5 ts2 qt2'
        rw [g4] at y2
        cases y2
        subst e1
        subst e3
        exact zip_new hr' rv1 rv2 e2
      · exact p1.elim
    · exact p1.elim⟩
end
end NC
end S3
end
section
set_option Elab.async false
set_option linter.all false
set_option maxRecDepth 100000
set_option maxHeartbeats 4000000
namespace S3
open PySem PySem.Spec PyProof.Rows L2
noncomputable section NC
/-! ### for -/
def forL (rd : Rd) (t : Gt) (b : MS) : Nat → Nat → MS
  | n, i => fun s h => match rd h with
    | none => .stk
    | some xs => match xs[i]? with
      | none => .nx s h
      | some x => match n with
        | 0 => .stk
        | n + 1 => match t x s h with
          | none => .stk
          | some s1 => (b s1 h).lp (forL rd t b n (i + 1))
def rdLen (rd : Rd) (h : AH) : Nat := match rd h with
  | some xs => xs.length
  | none => 0
def mFor (mi : MI) (t : Gt) (b : MS) : MS := fun s h => (mi s h).toS s fun rd h1 => forL rd t b (rdLen rd h1) 0 s h1
section
variable {B : Bx} {X : Cx} {W : WX}
theorem ss_for {tg iter : Expr} {body : List Stmt} {mi : MI} {is : List Nat} {t : Gt} {b : MS} {pos : Pos} (hp : PassesOwn (model X.prog X.w) X.A X.env X.xe) (hc : X.calm = true) (hi : SI B X W tg iter mi) (hg : SG B X tg is t) (hb : SSs B X W body b)
    (hs : ∀ x, foldedSetIterable iter X.env x = pure x := by intro _; rfl) : SS B X W (.For tg iter body [] pos) (mFor mi t b) :=
  PS.imp (ps_for hp hc hi hg hb hs) fun D σ H ⟨ρ, F, h, s, sr, hr, p⟩ => by
    refine ⟨ρ, F, h, s, sr, hr, PostS.expr sr p fun rd h1 ρ1 F1 H1 jh _ e1 hr1 ri sr1 p1 ej => ?_⟩
    subst ej
    refine ⟨fun i m σ H => ∃ ρ F h s, Ext ρ1 F1 jh.2 ρ F H ∧ SR B ρ F s σ ∧ HR B ρ F h H ∧ PostS B ρ F H (forL rd t b m i s h) D W, ⟨_, ρ1, F1, h1, s, Ext.refl, sr1, hr1, p1⟩, fun i m σ H ⟨ρ, F, h, s, ex, sr, hr, p⟩ => ?_⟩
    unfold forL at p
    cases k : rd h with
    | none => simp only [k] at p; exact p.elim
    | some xs =>
      simp only [k] at p
      obtain ⟨r1, r2⟩ := ri ρ F h H ex hr xs k
      cases k2 : xs[i]? with
      | none =>
        simp only [k2] at p
        exact .inl ⟨r1 i (List.getElem?_eq_none_iff.mp k2), p _ _ _ _ Ext.refl hr sr⟩
      | some x =>
        simp only [k2] at p
        obtain ⟨go, yl⟩ := r2 i x k2
        cases m with
        | zero => exact p.elim
        | succ m =>
          simp only at p
          refine .inr ⟨go, fun σ H => ∃ ρ F h s, Ext ρ1 F1 jh.2 ρ F H ∧ SR B ρ F s σ ∧ HR B ρ F h H ∧ PostS B ρ F H (forL rd t b m (i + 1) s h) D W, fun σ' H' z => ⟨m, Nat.lt_succ_self m, z⟩, fun v H' hy => ?_⟩
          obtain ⟨ρ2, F2, ex2, hr2, rv⟩ := yl v H' hy
          cases k3 : t x s h with
          | none => simp only [k3] at p; exact p.elim
          | some s1 =>
            simp only [k3] at p
            refine ⟨ρ2, F2, h, s, x, s1, sr.ext ex2, hr2, rv, k3, fun σ2 sr2 _ => ⟨ρ2, F2, h, s1, sr2, hr2, ?_⟩⟩
            exact lp_turn (PostS.ext ex2 p) fun ρ' F' H' σ' s' h' e hr' sr' p' => ⟨ρ', F', h', s', (ex.trans ex2).trans e, sr', hr', p'⟩

/-! ### a thing of its own -/
theorem Ext.priv {ρ ρ' : List Addr} {F F' H H' : Hp} {p : Addr} {u : HO} (e : Ext ρ F H ρ' F' H') (hp : H p = some u) (nt : ∀ ps, u ≠ .tbl ps) (n : p ∉ ρ) (f : F p = none) : p ∉ ρ' ∧ F' p = none := ⟨e.rnew p u hp nt n, e.fnew p u hp nt n f⟩
theorem Ext.updP {ρ ρ' : List Addr} {F F' H H' : Hp} {p : Addr} {u : HO} (e : Ext ρ F H ρ' F' H') (hp : H p = none) : Ext ρ F H ρ' F' (upd H' p u) := by
  have ne : ∀ q w, H q = some w → q ≠ p := fun q w e z => by rw [z, hp] at e; cases e
  refine ⟨e.pre, e.fz, fun q w eq n nt => ?_, e.fnew, e.rnew, fun q o w eq => ?_⟩
  · rw [upd_ne (ne q w eq)]; exact e.keep q w eq n nt
  · rw [upd_ne (ne q _ eq)]; exact e.lk q o w eq
theorem HR.updP {ρ : List Addr} {F H : Hp} {h : AH} {p : Addr} {u u' : HO} (x : HR B ρ F h H) (n : p ∉ ρ) (f : F p = none) (e : H p = some u) (n1 : ∀ ps, u ≠ .tbl ps) (n2 : ∀ φ, u ≠ .ext φ) : HR B ρ F h (upd H p u') := by
  refine ⟨fun q w eq => ?_, x.len, x.nd, x.sep, fun i q ob e1 e2 => ?_, tabs_write e n1 n2 x.tab, x.ntb⟩
  · have hq : q ≠ p := fun z => by rw [z, f] at eq; cases eq
    rw [upd_ne hq]
    exact x.sub q w eq
  · have hq : q ≠ p := fun z => n (z ▸ List.mem_of_getElem? e1)
    exact OR.to (fun _ _ e => e) (fun _ _ e => e) (fun w e => by rw [upd_ne hq]; exact e) (x.obj i q ob e1 e2)
theorem HR.intoF {ρ : List Addr} {F H : Hp} {h : AH} {p : Addr} {u : HO} (x : HR B ρ F h H) (n : p ∉ ρ) (f : F p = none) (e : H p = some u) (nt : ∀ ps, u ≠ .tbl ps := by intro _ z; cases z) : HR B ρ (upd F p u) h H := by
  have fz : ∀ q w, F q = some w → upd F p u q = some w := upd_old f
  refine ⟨fun q w eq => ?_, x.len, x.nd, fun q m => ?_, fun i q o e1 e2 => OR.to (fun _ _ e => e) fz (fun w e => e) (x.obj i q o e1 e2), x.tab, fun q ps e => by
    by_cases hq : q = p
    · rw [hq, upd_same] at e
      exact nt _ (Option.some.inj e)
    · rw [upd_ne hq] at e
      exact x.ntb q ps e⟩
  · by_cases hq : q = p
    · subst hq
      rw [upd_same] at eq
      rw [← eq]; exact e
    · rw [upd_ne hq] at eq
      exact x.sub q w eq
  · have hq : q ≠ p := fun z => n (z ▸ m)
    rw [upd_ne hq]
    exact x.sep q m
theorem Ext.intoF {ρ ρ' : List Addr} {F F' H H' : Hp} {p : Addr} {u : HO} (x : Ext ρ F H ρ' F' H') (f : F' p = none) (n : H p = none) : Ext ρ F H ρ' (upd F' p u) H' :=
  ⟨x.pre, fun q w e => upd_old f _ _ (x.fz q w e), x.keep, fun q w e nt m g => by rw [upd_ne (ne_of_none e n)]; exact x.fnew q w e nt m g, x.rnew, x.lk⟩
theorem Ext.intoFt {ρ ρ' : List Addr} {F F' H H' : Hp} {p : Addr} {u : HO} (x : Ext ρ F H ρ' F' H') (f : F' p = none) (n : ∀ w, H p = some w → (∀ ps, w ≠ .tbl ps) → False) : Ext ρ F H ρ' (upd F' p u) H' :=
  ⟨x.pre, fun q w e => upd_old f _ _ (x.fz q w e), x.keep, fun q w e nt m g => by rw [upd_ne (fun z : q = p => n w (by rw [← z]; exact e) nt)]; exact x.fnew q w e nt m g, x.rnew, x.lk⟩
theorem HR.intoM {ρ : List Addr} {F H : Hp} {h : AH} {p : Addr} {o : AO} {u : HO} (x : HR B ρ F h H) (n : p ∉ ρ) (f : F p = none) (e : H p = some u) (r : OU B ρ F o u) : HR B (ρ ++ [p]) F (h ++ [o]) H := by
  refine ⟨x.sub, by rw [List.length_append, List.length_append, x.len]; rfl, ?_, fun q m => ?_, fun i q ob e1 e2 => ?_, x.tab, x.ntb⟩
  · rw [List.nodup_append]
    refine ⟨x.nd, by simp, fun a ha b hb => ?_⟩
    rw [List.mem_singleton] at hb
    subst hb
    exact fun z => n (z ▸ ha)
  · rcases List.mem_append.mp m with m | m
    · exact x.sep q m
    · rw [List.mem_singleton] at m
      subst m
      exact f
  · by_cases hi : i < ρ.length
    · rw [List.getElem?_append_left hi] at e1
      rw [List.getElem?_append_left (by rw [← x.len]; exact hi)] at e2
      exact OR.to (pre_snoc ρ p) (fun _ _ e => e) (fun w e => e) (x.obj i q ob e1 e2)
    · have hi' : ρ.length ≤ i := Nat.le_of_not_lt hi
      rw [List.getElem?_append_right hi'] at e1
      rw [List.getElem?_append_right (by rw [← x.len]; exact hi'), ← x.len] at e2
      cases k : i - ρ.length with
      | zero =>
        rw [k] at e1 e2
        cases e1
        cases e2
        have r' := r.mono (ρ' := ρ ++ [p]) (F' := F) (pre_snoc ρ p) (fun _ _ e => e)
        cases o with
        | lck o => exact r.elim
        | lst xs => exact ⟨u, e, r'⟩
        | dK xs => exact ⟨u, e, r'⟩
        | dT xs => exact ⟨u, e, r'⟩
        | ins c fs => exact ⟨u, e, r'⟩
      | succ m =>
        rw [k] at e1
        cases e1
theorem Ext.intoM {ρ ρ' : List Addr} {F F' H H' : Hp} {p : Addr} (x : Ext ρ F H ρ' F' H') (n : H p = none) : Ext ρ F H (ρ' ++ [p]) F' H' :=
  ⟨fun i q e => pre_snoc ρ' p i q (x.pre i q e), x.fz, x.keep, x.fnew, fun q w e nt m z => (List.mem_append.mp z).elim (x.rnew q w e nt m) (fun z => by
    rw [List.mem_singleton] at z
    rw [z, n] at e
    cases e), x.lk⟩

/-! ### comprehensions -/
def wipeA (s : Sl) : List Nat → Sl
  | [] => s
  | v :: vs => (wipeA s vs).set v none
theorem SR.wipe {ρ : List Addr} {F : Hp} {s : Sl} {σ : L2.St} (x : SR B ρ F s σ) : ∀ vs : List Nat, SR B ρ F (wipeA s vs) (wipe σ vs)
  | [] => x
  | v :: vs => by
    obtain ⟨h1, h2⟩ := SR.wipe x vs
    refine ⟨by rw [wipeA, L2.wipe, List.length_set, List.length_set]; exact h1, fun i a e => ?_⟩
    rw [wipeA] at e
    rw [L2.wipe]
    by_cases hi : v = i
    · subst hi
      by_cases hl : v < (wipeA s vs).length
      · rw [List.getElem?_set_self hl] at e
        cases e
      · rw [List.getElem?_eq_none_iff.mpr (by rw [List.length_set]; omega)] at e
        cases e
    · rw [List.getElem?_set_ne hi] at e ⊢
      exact h2 i a e
theorem wipe_at {σ : L2.St} {j : Nat} : ∀ {vs : List Nat}, (wipe σ vs)[j]? = if j ∈ vs ∧ j < σ.length then some none else σ[j]?
  | [] => by simp [L2.wipe]
  | v :: vs => by
    rw [L2.wipe]
    by_cases hv : v = j
    · subst hv
      by_cases hl : v < σ.length
      · rw [List.getElem?_set_self (by rw [wipe_length]; exact hl), if_pos ⟨List.mem_cons_self, hl⟩]
      · rw [List.getElem?_eq_none_iff.mpr (by rw [List.length_set, wipe_length]; omega), if_neg (fun z => hl z.2), List.getElem?_eq_none_iff.mpr (by omega)]
    · rw [List.getElem?_set_ne hv, wipe_at]
      have : (j ∈ v :: vs) ↔ j ∈ vs := by
        rw [List.mem_cons]
        exact ⟨fun z => z.resolve_left fun z => hv z.symm, .inr⟩
      simp only [this]
theorem off_wipe {is vs : List Nat} {σ σ' : L2.St} (o : Off is σ σ') (h : ∀ i, i ∈ is → i ∈ vs) : wipe σ' vs = wipe σ vs := by
  apply List.ext_getElem?
  intro j
  rw [wipe_at, wipe_at, o.1]
  split
  · rfl
  · rename_i hn
    by_cases hj : j ∈ is
    · have hl : ¬ j < σ.length := fun z => hn ⟨h j hj, z⟩
      rw [List.getElem?_eq_none_iff.mpr (by rw [o.1]; omega), List.getElem?_eq_none_iff.mpr (by omega)]
    · exact o.2 j hj
theorem wipe_wipe {vs : List Nat} {σ : L2.St} : wipe (wipe σ vs) vs = wipe σ vs := by
  apply List.ext_getElem?
  intro j
  rw [wipe_at, wipe_at, wipe_length]
  split
  · rfl
  · rfl
def lcL (rd : Rd) (t : Gt) (c : MT) (e : ME) (s0 : Sl) : Nat → Nat → List AV → AH → Rs (List AV)
  | n, i, acc, h => match rd h with
    | none => .stk
    | some xs => match xs[i]? with
      | none => .ok acc h
      | some x => match n with
        | 0 => .stk
        | n + 1 => match t x s0 h with
          | none => .stk
          | some s1 => match c s1 h with
            | .ok b h1 => if b = true then match e s1 h1 with
                | .ok y h2 => if acc.length < sizeLine then lcL rd t c e s0 n (i + 1) (acc ++ [y]) h2 else .stk
                | _ => .stk
              else lcL rd t c e s0 n (i + 1) acc h1
            | _ => .stk
def mYes : MT := fun _ h => .ok true h
def mLcA (mi : MI) (t : Gt) (c : MT) (e : ME) (vs : List Nat) : MA := fun s h => (mi s h).bind fun rd h1 => lcL rd t c e (wipeA s vs) (rdLen rd h1) 0 [] h1
def mLc (mi : MI) (t : Gt) (c : MT) (e : ME) (vs : List Nat) : ME := fun s h => (mLcA mi t c e vs s h).bind fun xs h1 => .ok (.lst xs) h1
def mLcM (mi : MI) (t : Gt) (c : MT) (e : ME) (vs : List Nat) : ME := fun s h => (mLcA mi t c e vs s h).bind fun xs h1 => .ok (.ref h1.length) (h1 ++ [.lst xs])
def noW : WX := fun _ _ _ _ => False
/-- the comprehension tells its items; what becomes of the list is k's choice -/
theorem lc_imp {mi : MI} {is : List Nat} {t : Gt} {c : MT} {e : ME} {vs : List Nat} {σ : L2.St} {H : Hp} {Q : VK} {ρ : List Addr} {F : Hp} {h : AH} {s : Sl} {k : List AV → AH → Rs AV} (sr : SR B ρ F s σ) (hr : HR B ρ F h H) (hv : ∀ i, i ∈ is → i ∈ vs)
    (p : Post B (RV B) ρ F H ((mLcA mi t c e vs s h).bind k) Q fun cls d H' => W cls d σ H')
    (hk : ∀ ρ1 F1 H1 ρ' F' H' xs ws h' D, Ext ρ1 F1 H1 ρ' F' H' → H1 D = none → HR B ρ' F' h' H' → D ∉ ρ' → F' D = none → H' D = some (.lst ws) → RVs B ρ' F' xs ws → Post B (RV B) ρ1 F1 H1 (k xs h') Q (fun cls d H' => W cls d σ H') → Q (.ref D) H') :
    tLc (tmI B W mi) (tmGt B is t) (tmT B noW c) (tm B noW e) vs σ H Q := by
  refine ⟨ρ, F, h, s, sr, hr, ?_⟩
  have p : Post B (RV B) ρ F H (((mi s h).bind fun rd h1 => lcL rd t c e (wipeA s vs) (rdLen rd h1) 0 [] h1).bind k) Q fun cls d H' => W cls d σ H' := p
  have p : Post B (RV B) ρ F H ((mi s h).bind fun rd h1 => (lcL rd t c e (wipeA s vs) (rdLen rd h1) 0 [] h1).bind k) Q fun cls d H' => W cls d σ H' := by
    revert p
    cases mi s h <;> exact fun p => p
  refine p.andThen fun rd h1 ρ1 F1 H1 jh _ e1 hr1 ri p1 ej D hD => ?_
  subst ej
  have sr1 := (sr.ext e1).wipe vs
  obtain ⟨hr2, ex2⟩ := hr1.newP hD (.lst [])
  have nD : D ∉ ρ1 := hr1.out hD
  have fD : F1 D = none := hr1.fnone hD
  refine ⟨fun i m H => ∃ ρ' F' h' acc ws, Ext ρ1 F1 jh.2 ρ' F' H ∧ HR B ρ' F' h' H ∧ D ∉ ρ' ∧ F' D = none ∧ H D = some (.lst ws) ∧ RVs B ρ' F' acc ws ∧ Post B (RV B) ρ1 F1 jh.2 ((lcL rd t c e (wipeA s vs) m i acc h').bind k) Q (fun cls d H' => W cls d σ H'),
    ⟨_, ρ1, F1, h1, [], [], ex2, hr2, nD, fD, upd_same, rfl, p1⟩, fun i m H ⟨ρ', F', h', acc, ws, ex, hr', nd', fd', hw, ra, p⟩ => ?_⟩
  unfold lcL at p
  cases k1 : rd h' with
  | none => simp only [k1] at p; exact p.elim
  | some xs =>
    simp only [k1] at p
    obtain ⟨r1, r2⟩ := ri ρ' F' h' H ex hr' xs k1
    cases k2 : xs[i]? with
    | none =>
      simp only [k2] at p
      exact .inl ⟨r1 i (List.getElem?_eq_none_iff.mp k2), hk ρ1 F1 jh.2 ρ' F' H acc ws h' D ex hD hr' nd' fd' hw ra p⟩
    | some x =>
      simp only [k2] at p
      obtain ⟨go, yl⟩ := r2 i x k2
      cases m with
      | zero => exact p.elim
      | succ m =>
        simp only at p
        refine .inr ⟨go, fun H => ∃ ρ' F' h' acc ws, Ext ρ1 F1 jh.2 ρ' F' H ∧ HR B ρ' F' h' H ∧ D ∉ ρ' ∧ F' D = none ∧ H D = some (.lst ws) ∧ RVs B ρ' F' acc ws ∧ Post B (RV B) ρ1 F1 jh.2 ((lcL rd t c e (wipeA s vs) m (i + 1) acc h').bind k) Q (fun cls d H' => W cls d σ H'), fun H' z => ⟨m, Nat.lt_succ_self m, z⟩, fun v H' hy => ?_⟩
        obtain ⟨ρ2, F2, ey, hr2, rv⟩ := yl v H' hy
        cases k3 : t x (wipeA s vs) h' with
        | none => simp only [k3] at p; exact p.elim
        | some s1 =>
          simp only [k3] at p
          refine ⟨ρ2, F2, h', wipeA s vs, x, s1, (sr1.ext ex).ext ey, hr2, rv, k3, fun σ2 sr2 o2 => ⟨by rw [off_wipe o2 hv, wipe_wipe], ρ2, F2, h', s1, sr2, hr2, ?_⟩⟩
          cases k4 : c s1 h' with
          | exc _ _ _ => simp only [k4] at p; exact p.elim
          | stk => simp only [k4] at p; exact p.elim
          | ok b h3 =>
            simp only [k4] at p
            intro ρ3 F3 H3 b' e3 hr3 eb
            cases eb
            have ex3 := (ex.trans ey).trans e3
            have e23 := ey.trans e3
            obtain ⟨nd3, fd3⟩ := e23.priv hw (fun _ z => nomatch z) nd' fd'
            have hw3 := e23.keep D _ hw nd' (fun _ z => nomatch z)
            have ra3 := ra.ext e23
            cases b with
            | false => exact ⟨ρ3, F3, h3, acc, ws, ex3, hr3, nd3, fd3, hw3, ra3, p⟩
            | true =>
              simp only [if_true] at p
              refine ⟨ρ3, F3, h3, s1, sr2.ext e3, hr3, ?_⟩
              cases k5 : e s1 h3 with
              | exc _ _ _ => simp only [k5] at p; exact p.elim
              | stk => simp only [k5] at p; exact p.elim
              | ok y h4 =>
                simp only [k5] at p
                intro ρ4 F4 H4 yv e4 hr4 ry
                split at p
                · rename_i hl
                  obtain ⟨nd4, fd4⟩ := e4.priv hw3 (fun _ z => nomatch z) nd3 fd3
                  have hw4 := e4.keep D _ hw3 nd3 (fun _ z => nomatch z)
                  have ra4 := ra3.ext e4
                  refine ⟨ws, hw4, by rw [← RVs.length ra]; exact hl, ρ4, F4, h4, acc ++ [y], ws ++ [yv], (ex3.trans e4).updP hD, hr4.updP nd4 fd4 hw4 (fun _ z => nomatch z) (fun _ z => nomatch z), nd4, fd4, upd_same, ?_, p⟩
                  exact RVs.append ra4 ⟨yv, [], rfl, ry, rfl⟩
                · exact p.elim
end
end NC
end S3
end
section
set_option Elab.async false
set_option linter.all false
set_option maxRecDepth 100000
set_option maxHeartbeats 4000000
namespace S3
open PySem PySem.Spec PyProof.Rows L2
noncomputable section NC
section
variable {B : Bx} {X : Cx} {W : WX}
abbrev STs (B : Bx) (X : Cx) (ifs : List Expr) (m : MT) : Prop := PTs X ifs (tmT B noW m)
theorem PTs.imp {ifs : List Expr} {t t' : TT} (h : PTs X ifs t) (w : ∀ σ H Q, t' σ H Q → t σ H Q) : PTs X ifs t' := ⟨fun pins s σ H Q I q => h.run pins s σ H Q I (w σ H Q q)⟩
theorem sts_nil : STs B X [] mYes := PTs.imp pts_nil fun σ H Q ⟨ρ, F, h, s, sr, hr, p⟩ => p ρ F H true Ext.refl hr rfl
theorem sts_one {c : Expr} {m : MT} (h : STt B X noW c m) : STs B X [c] m := pts_one h
theorem lc_F {mi : MI} {is : List Nat} {t : Gt} {c : MT} {e : ME} {vs : List Nat} (hv : ∀ i, i ∈ is → i ∈ vs) {σ : L2.St} {H : Hp} {Q : VK} (h : tm B W (mLc mi t c e vs) σ H Q) : tLc (tmI B W mi) (tmGt B is t) (tmT B noW c) (tm B noW e) vs σ H Q := by
  obtain ⟨ρ, F, h, s, sr, hr, p⟩ := h
  refine lc_imp sr hr hv p fun ρ1 F1 H1 ρ' F' H' xs ws h' D ex hD hr' nd fd hw ra p1 => ?_
  exact p1 ρ' _ H' _ (ex.intoF fd hD) (hr'.intoF nd fd hw) ⟨D, ws, rfl, upd_same, RVs.mono (fun _ _ e => e) (upd_old fd) _ _ ra⟩
theorem lc_M {mi : MI} {is : List Nat} {t : Gt} {c : MT} {e : ME} {vs : List Nat} (hv : ∀ i, i ∈ is → i ∈ vs) {σ : L2.St} {H : Hp} {Q : VK} (h : tm B W (mLcM mi t c e vs) σ H Q) : tLc (tmI B W mi) (tmGt B is t) (tmT B noW c) (tm B noW e) vs σ H Q := by
  obtain ⟨ρ, F, h, s, sr, hr, p⟩ := h
  refine lc_imp sr hr hv p fun ρ1 F1 H1 ρ' F' H' xs ws h' D ex hD hr' nd fd hw ra p1 => ?_
  refine p1 (ρ' ++ [D]) F' H' _ (ex.intoM hD) (hr'.intoM nd fd hw ⟨ws, rfl, ra⟩) ⟨D, ?_, rfl⟩
  rw [← hr'.len]
  exact getElem?_snoc _ _
/-- what the parts of a comprehension are told under -/
abbrev Blk (X : Cx) (scope : Scope) (P : Cx → Prop) : Prop := ∀ (s : Shared) (H : Hp) (C : Addr) (cl : List (Str × Addr)) (fp : List Addr), P (X.blk s H scope (compEnvC scope cl C X.env) fp)
section
variable {elt tg iter : Expr} {ifs : List Expr} {scope : Scope} {own : List (Str × Nat)} {pos : Pos} {mi : MI} {is : List Nat} {t : Gt} {c : MT} {m : ME}
theorem se_lc (hc : X.calm = true) (hN : X.N.Nodup) (ok : BlkOk X.N X.env.scope scope own) (hi : SI B X W tg iter mi) (hg : Blk X scope fun X' => SG B X' tg is t) (ht : Blk X scope fun X' => STs B X' ifs c) (he : Blk X scope fun X' => SE B X' noW elt m)
    (hv : ∀ i, i ∈ is → i ∈ own.map (·.2)) (hs : ∀ x, foldedSetIterable iter X.env x = pure x := by intro _; rfl) : SE B X W (.ListComp elt [⟨tg, iter, ifs, 0⟩] scope pos) (mLc mi t c m (own.map (·.2))) :=
  PE.imp (pe_lc hc hN hi ok hg ht he hs) fun _ _ _ h => lc_F hv h
theorem se_lcM (hc : X.calm = true) (hN : X.N.Nodup) (ok : BlkOk X.N X.env.scope scope own) (hi : SI B X W tg iter mi) (hg : Blk X scope fun X' => SG B X' tg is t) (ht : Blk X scope fun X' => STs B X' ifs c) (he : Blk X scope fun X' => SE B X' noW elt m)
    (hv : ∀ i, i ∈ is → i ∈ own.map (·.2)) (hs : ∀ x, foldedSetIterable iter X.env x = pure x := by intro _; rfl) : SE B X W (.ListComp elt [⟨tg, iter, ifs, 0⟩] scope pos) (mLcM mi t c m (own.map (·.2))) :=
  PE.imp (pe_lc hc hN hi ok hg ht he hs) fun _ _ _ h => lc_M hv h
theorem asg_imp {i : Nat} {m : ME} {te : TE} (w : ∀ σ H Q, tm B W m σ H Q → te σ H Q) {D : Ends} {σ : L2.St} {H : Hp} (h : tms B W (mAsg m (tName i)) D σ H) : tAsg te (gName i) D σ H := by
  obtain ⟨ρ, F, h, s, sr, hr, p⟩ := h
  exact w σ H _ ⟨ρ, F, h, s, sr, hr, PostS.expr sr p fun a h1 ρ1 F1 H1 x _ e1 hr1 ra sr1 p1 => p1 _ _ _ _ Ext.refl hr1 (sr1.set ra i)⟩
section
variable {i : Nat} {y : Str} {py spos : Pos}
theorem ss_setLc (hc : X.calm = true) (hN : X.N.Nodup) (hy : X.N[i]? = some y) (hyl : X.env.scope.names.lookup y = some .local) (ok : BlkOk X.N X.env.scope scope own) (hi : SI B X W tg iter mi) (hg : Blk X scope fun X' => SG B X' tg is t) (ht : Blk X scope fun X' => STs B X' ifs c) (he : Blk X scope fun X' => SE B X' noW elt m)
    (hv : ∀ i, i ∈ is → i ∈ own.map (·.2)) (hsw : swapsWith (.ListComp elt [⟨tg, iter, ifs, 0⟩] scope pos) (some (.Name y py)) spos.line X.env = pure true) (hs : ∀ x, foldedSetIterable iter X.env x = pure x := by intro _; rfl) :
    SS B X W (.Assign [.Name y py] (.ListComp elt [⟨tg, iter, ifs, 0⟩] scope pos) spos) (mAsg (mLc mi t c m (own.map (·.2))) (tName i)) :=
  PS.imp (ps_setLc hc hN hy hyl hsw hi ok hg ht he hs) fun _ _ _ h => asg_imp (fun _ _ _ h => lc_F hv h) h
theorem ss_setLcM (hc : X.calm = true) (hN : X.N.Nodup) (hy : X.N[i]? = some y) (hyl : X.env.scope.names.lookup y = some .local) (ok : BlkOk X.N X.env.scope scope own) (hi : SI B X W tg iter mi) (hg : Blk X scope fun X' => SG B X' tg is t) (ht : Blk X scope fun X' => STs B X' ifs c) (he : Blk X scope fun X' => SE B X' noW elt m)
    (hv : ∀ i, i ∈ is → i ∈ own.map (·.2)) (hsw : swapsWith (.ListComp elt [⟨tg, iter, ifs, 0⟩] scope pos) (some (.Name y py)) spos.line X.env = pure true) (hs : ∀ x, foldedSetIterable iter X.env x = pure x := by intro _; rfl) :
    SS B X W (.Assign [.Name y py] (.ListComp elt [⟨tg, iter, ifs, 0⟩] scope pos) spos) (mAsg (mLcM mi t c m (own.map (·.2))) (tName i)) :=
  PS.imp (ps_setLc hc hN hy hyl hsw hi ok hg ht he hs) fun _ _ _ h => asg_imp (fun _ _ _ h => lc_M hv h) h
end
end

/-! ### dicts walked -/
def kA : Key → AV
  | .inl i => .int i
  | .inr x => .str x
theorem kA_at {ρ : List Addr} {F : Hp} (k : Key) : RV B ρ F (kA k) (kV k) := by
  cases k with
  | inl i => exact rfl
  | inr x => exact rfl
/-- a dict that stands still -/
def vDs (h : AH) : AV → Option (List (Key × AV))
  | .dK kvs => some kvs
  | .ref n => match h[n]? with
    | some (.lck (.dK kvs)) => some kvs
    | _ => none
  | _ => none
theorem vDs_at {ρ : List Addr} {F H : Hp} {h : AH} {a : AV} {x : V} {kvs : List (Key × AV)} (hr : HR B ρ F h H) (ra : RV B ρ F a x) (e : vDs h a = some kvs) : ∃ p o ws, x = .ref p ∧ H p = some (.frz o (.dK ws)) ∧ RKs B ρ F kvs ws := by
  cases a with
  | dK ks =>
    have e : some ks = some kvs := e
    cases e
    obtain ⟨p, o, ws, ex, q, r⟩ := ra
    exact ⟨p, o, ws, ex, hr.sub _ _ q, r⟩
  | ref n =>
    obtain ⟨p, ep, ex⟩ := ra
    obtain ⟨ob, eo, rob⟩ := hr.at' ep
    have e : (match h[n]? with
    | some (.lck (.dK kvs)) => some kvs
    | _ => none) = some kvs := e
    rw [eo] at e
    split at e
    · rename_i ks ek
      cases e
      cases ek
      obtain ⟨o, u, eu, ws, e1, rs⟩ := rob
      subst e1
      exact ⟨p, o, ws, ex, eu, rs⟩
    · cases e
  | _ => cases e
theorem RKs.nth {ρ : List Addr} {F : Hp} {kvs : List (Key × AV)} {ws : List (Key × V)} (r : RKs B ρ F kvs ws) {i : Nat} {k : Key} {a : AV} (e : kvs[i]? = some (k, a)) : ∃ v, ws[i]? = some (k, v) ∧ RV B ρ F a v := by
  induction kvs generalizing ws i with
  | nil => cases e
  | cons p t ih =>
    obtain ⟨j, b⟩ := p
    obtain ⟨v, w, ev, r1, r2⟩ := r
    subst ev
    cases i with
    | zero => cases e; exact ⟨v, rfl, r1⟩
    | succ i => exact ih r2 e
theorem RKs.ext {ρ ρ' : List Addr} {F F' H H' : Hp} (x : Ext ρ F H ρ' F' H') {a : List (Key × AV)} {v : List (Key × V)} (y : RKs B ρ F a v) : RKs B ρ' F' a v := RKs.mono x.pre x.fz _ _ y
def mItems (m : ME) : MI := fun s h => (m s h).bind fun a h1 => match vDs h1 a with
  | some kvs => .ok (rdC (kvs.map fun x => .tup [kA x.1, x.2])) h1
  | none => .stk
def mKeys (m : ME) : MI := fun s h => (m s h).bind fun a h1 => match vDs h1 a with
  | some kvs => .ok (rdC (kvs.map fun x => kA x.1)) h1
  | none => .stk
def mVals (m : ME) : MI := fun s h => (m s h).bind fun a h1 => match vDs h1 a with
  | some kvs => .ok (rdC (kvs.map fun x => x.2)) h1
  | none => .stk
theorem map_at {α β : Type} {l : List α} {f : α → β} {i : Nat} {x : β} (e : (l.map f)[i]? = some x) : ∃ y, l[i]? = some y ∧ f y = x := by
  rw [List.getElem?_map] at e
  cases k : l[i]? with
  | none => rw [k] at e; cases e
  | some y => rw [k] at e; cases e; exact ⟨y, rfl, rfl⟩
theorem ix_lt {α : Type} {l : List α} {i : Nat} {x : α} (e : l[i]? = some x) : i < l.length := (List.getElem?_eq_some_iff.mp e).1
theorem IR.keys {ρ : List Addr} {F H : Hp} {p : Addr} {o : Obj} {kvs : List (Key × AV)} {ws : List (Key × V)} (hp : H p = some (.frz o (.dK ws))) (rs : RKs B ρ F kvs ws) : IR B ρ F (rdC (kvs.map fun x => kA x.1)) (Itk p o ws, H) := IR.same fun ρ' F' h' H' e' hr' ys ey => by
  have ey : some (kvs.map fun x => kA x.1) = some ys := ey
  cases ey
  have hp' := e'.lk _ _ _ hp
  have hl := RKs.length rs
  refine ⟨fun i hi => ⟨hp', by rw [List.length_map] at hi; omega⟩, fun i x hx => ?_⟩
  obtain ⟨⟨k, a⟩, g1, rfl⟩ := map_at hx
  obtain ⟨v, g2, rv⟩ := rs.nth g1
  refine ⟨⟨hp', ix_lt g2⟩, fun u H'' ⟨e1, k', v', g3, g4⟩ => ⟨e1, ?_⟩⟩
  rw [g2] at g3
  cases g3
  rw [g4]
  exact kA_at k
section
variable {tg e : Expr} {m : ME} {apos cpos : Pos}
theorem si_keys (he : SE B X W e m) : SI B X W tg e (mKeys m) :=
  PI.imp (pi_keys he) fun σ H R ⟨ρ, F, h, s, sr, hr, p⟩ => ⟨ρ, F, h, s, sr, hr, p.andThen fun a h1 ρ1 F1 H1 x _ e1 hr1 ra p1 => by
    cases k : vDs h1 a with
    | none => simp only [k] at p1; exact p1.elim
    | some kvs =>
      simp only [k] at p1
      obtain ⟨q, o, ws, ex, hq, rs⟩ := vDs_at hr1 ra k
      exact ⟨q, o, ex, .inl ⟨ws, hq, p1 ρ1 F1 H1 (Itk q o ws, H1) Ext.refl hr1 (IR.keys hq rs) rfl⟩⟩⟩
theorem si_keysM (he : SE B X W e m) (hbase : attributeBase e "keys" X.env (eval e X.env) = eval e X.env := by rfl) (hline : (apos.endLine == cpos.line) = true := by rfl) : SI B X W tg (.Call (.Attribute e "keys" apos) [] [] cpos) (mKeys m) :=
  PI.imp (pi_keysM he hbase hline) fun σ H R ⟨ρ, F, h, s, sr, hr, p⟩ => ⟨ρ, F, h, s, sr, hr, p.andThen fun a h1 ρ1 F1 H1 x _ e1 hr1 ra p1 => by
    cases k : vDs h1 a with
    | none => simp only [k] at p1; exact p1.elim
    | some kvs =>
      simp only [k] at p1
      obtain ⟨q, o, ws, ex, hq, rs⟩ := vDs_at hr1 ra k
      exact ⟨q, o, ws, ex, hq, p1 ρ1 F1 H1 (Itk q o ws, H1) Ext.refl hr1 (IR.keys hq rs) rfl⟩⟩
theorem si_values (he : SE B X W e m) (hbase : attributeBase e "values" X.env (eval e X.env) = eval e X.env := by rfl) (hline : (apos.endLine == cpos.line) = true := by rfl) : SI B X W tg (.Call (.Attribute e "values" apos) [] [] cpos) (mVals m) :=
  PI.imp (pi_values he hbase hline) fun σ H R ⟨ρ, F, h, s, sr, hr, p⟩ => ⟨ρ, F, h, s, sr, hr, p.andThen fun a h1 ρ1 F1 H1 x _ e1 hr1 ra p1 => by
    cases k : vDs h1 a with
    | none => simp only [k] at p1; exact p1.elim
    | some kvs =>
      simp only [k] at p1
      obtain ⟨q, o, ws, ex, hq, rs⟩ := vDs_at hr1 ra k
      refine ⟨q, o, ws, ex, hq, p1 ρ1 F1 H1 (Itd q o ws, H1) Ext.refl hr1 (IR.same fun ρ' F' h' H' e' hr' ys ey => ?_) rfl⟩
      have ey : some (kvs.map fun x => x.2) = some ys := ey
      cases ey
      have hp' := e'.lk _ _ _ hq
      have hl := RKs.length rs
      refine ⟨fun i hi => ⟨hp', by rw [List.length_map] at hi; omega⟩, fun i x hx => ?_⟩
      obtain ⟨⟨k, a⟩, g1, rfl⟩ := map_at hx
      obtain ⟨v, g2, rv⟩ := (rs.ext e').nth g1
      refine ⟨⟨hp', ix_lt g2⟩, fun u H'' ⟨e1, k', g3⟩ => ⟨e1, ?_⟩⟩
      rw [g2] at g3
      cases g3
      exact rv⟩
theorem si_items {elts : List Expr} {kk : Nat} {tpos : Pos} (he : SE B X W e m) (hbase : attributeBase e "items" X.env (eval e X.env) = eval e X.env := by rfl) (hline : (apos.endLine == cpos.line) = true := by rfl) : SI B X W (.Tuple elts kk tpos) (.Call (.Attribute e "items" apos) [] [] cpos) (mItems m) :=
  PI.imp (pi_items he hbase hline) fun σ H R ⟨ρ, F, h, s, sr, hr, p⟩ => ⟨ρ, F, h, s, sr, hr, p.andThen fun a h1 ρ1 F1 H1 x _ e1 hr1 ra p1 => by
    cases k : vDs h1 a with
    | none => simp only [k] at p1; exact p1.elim
    | some kvs =>
      simp only [k] at p1
      obtain ⟨q, o, ws, ex, hq, rs⟩ := vDs_at hr1 ra k
      refine ⟨q, o, ws, ex, hq, p1 ρ1 F1 H1 (Iti q o ws, H1) Ext.refl hr1 (fun ρ' F' h' H' e' hr' ys ey => ?_) rfl⟩
      have ey : some (kvs.map fun x => AV.tup [kA x.1, x.2]) = some ys := ey
      cases ey
      have hp' := e'.lk _ _ _ hq
      have hl := RKs.length rs
      refine ⟨fun i hi => ⟨hp', by rw [List.length_map] at hi; omega⟩, fun i x hx => ?_⟩
      obtain ⟨⟨k, a⟩, g1, rfl⟩ := map_at hx
      obtain ⟨v, g2, rv⟩ := (rs.ext e').nth g1
      refine ⟨⟨hp', ix_lt g2⟩, fun u H'' ⟨T, k', v', g3, g4, g5, g6⟩ => ?_⟩
      rw [g2] at g3
      cases g3
      subst g4
      subst g6
      exact zip_new hr' (kA_at k) rv g5⟩
end
end
end NC
end S3
end
section
set_option Elab.async false
set_option linter.all false
set_option maxRecDepth 100000
set_option maxHeartbeats 4000000
namespace S3
open PySem PySem.Spec PyProof.Rows L2
noncomputable section NC
section
variable {B : Bx} {X : Cx} {W : WX}
/-! ### a thing locked while it is walked -/
theorem Ext.updM {ρ ρ' : List Addr} {F F' H H' : Hp} {p : Addr} {u u0 : HO} (x : Ext ρ F H ρ' F' H') (m : p ∈ ρ) (e : H p = some u0) (n1 : ∀ ps, u0 ≠ .tbl ps) (n2 : ∀ ob w, u0 ≠ .frz ob w) : Ext ρ F H ρ' F' (upd H' p u) := by
  refine ⟨x.pre, x.fz, fun q w eq n nt => ?_, x.fnew, x.rnew, fun q o w eq => ?_⟩
  · have hq : q ≠ p := fun z => n (z ▸ m)
    rw [upd_ne hq]; exact x.keep q w eq n nt
  · have hq : q ≠ p := fun z => by rw [z, e] at eq; exact n2 _ _ (Option.some.inj eq)
    rw [upd_ne hq]; exact x.lk q o w eq
def canLock : AO → Bool
  | .lst _ => true
  | .dK _ => true
  | .dT _ => true
  | _ => false
/-- which thing is to be locked, if it is one that may change -/
def pickE (m : ME) : Sl → AH → Option Nat := fun s h => match m s h with
  | .ok (.ref n) _ => match h[n]? with
    | some o => if canLock o = true then some n else none
    | none => none
  | _ => none
def setO (n : Nat) (o : Option AO) (h : AH) : AH := match o with
  | some o => h.set n o
  | none => h
def lckO (n : Nat) (h : AH) : AH := match h[n]? with
  | some o => h.set n (.lck o)
  | none => h
def mLockS (pk : Sl → AH → Option Nat) (m : MS) : MS := fun s h => match pk s h with
  | none => m s h
  | some n => match m s (lckO n h) with
    | .nx s' h' => .nx s' (setO n h[n]? h')
    | .bk s' h' => .bk s' (setO n h[n]? h')
    | .ct s' h' => .ct s' (setO n h[n]? h')
    | .rt a h' => .rt a (setO n h[n]? h')
    | _ => .stk
def mLockE (pk : Sl → AH → Option Nat) (m : ME) : ME := fun s h => match pk s h with
  | none => m s h
  | some n => match m s (lckO n h) with
    | .ok a h' => .ok a (setO n h[n]? h')
    | _ => .stk
theorem lock_in {ρ : List Addr} {F H : Hp} {h : AH} (hr : HR B ρ F h H) {n : Nat} {o : AO} (e : h[n]? = some o) (hc : canLock o = true) : ∃ p u, ρ[n]? = some p ∧ H p = some u ∧ Mut (some u) ∧ OU B ρ F o u ∧ ∀ od, HR B ρ F (lckO n h) (upd H p (.frz od u)) ∧ Ext ρ F H ρ F (upd H p (.frz od u)) := by
  have hl : n < ρ.length := by rw [hr.len]; exact ix_lt e
  have ep : ρ[n]? = some ρ[n] := List.getElem?_eq_getElem hl
  have r := hr.obj n _ o ep e
  have key : ∀ u, H ρ[n] = some u → OU B ρ F o u → Mut (some u) → (∀ ob w, u ≠ .frz ob w) → ∃ p u, ρ[n]? = some p ∧ H p = some u ∧ Mut (some u) ∧ OU B ρ F o u ∧ ∀ od, HR B ρ F (lckO n h) (upd H p (.frz od u)) ∧ Ext ρ F H ρ F (upd H p (.frz od u)) := fun u eu ou mu nk => by
    refine ⟨ρ[n], u, ep, eu, mu, ou, fun od => ?_⟩
    have : lckO n h = h.set n (.lck o) := by unfold lckO; rw [e]
    rw [this]
    exact hr.write ep (o := .lck o) (u := .frz od u) ⟨od, u, upd_same, ou⟩ eu nk
  cases o with
  | lst xs =>
    obtain ⟨u, eu, vs, e1, rs⟩ := r
    subst e1
    exact key _ eu ⟨vs, rfl, rs⟩ trivial (by intro _ _ z; cases z)
  | dK xs =>
    obtain ⟨u, eu, vs, e1, rs⟩ := r
    subst e1
    exact key _ eu ⟨vs, rfl, rs⟩ trivial (by intro _ _ z; cases z)
  | dT xs =>
    obtain ⟨u, eu, vs, e1, rs⟩ := r
    subst e1
    exact key _ eu ⟨vs, rfl, rs⟩ trivial (by intro _ _ z; cases z)
  | ins c fs => cases hc
  | lck o => cases hc
theorem pick_at {m : ME} {s : Sl} {h : AH} {n : Nat} (e : pickE m s h = some n) : ∃ o, h[n]? = some o ∧ canLock o = true := by
  unfold pickE at e
  split at e
  · split at e
    · rename_i o eo
      split at e
      · cases e
        exact ⟨o, eo, by assumption⟩
      · cases e
    · cases e
  · cases e
theorem OU.to {o : AO} {u : HO} {H : Hp} {p : Addr} {ρ : List Addr} {F : Hp} (r : OU B ρ F o u) (e : H p = some u) : OR B ρ F H p o := by
  cases o with
  | lck o => exact r.elim
  | _ => exact ⟨u, e, r⟩
theorem lock_out {ρ ρ' : List Addr} {F F' H H' : Hp} {h h' : AH} {n : Nat} {o : AO} {p : Addr} {u : HO} {od : Obj} (hr : HR B ρ F h H) (e : h[n]? = some o) (ep : ρ[n]? = some p) (eu : H p = some u) (ou : OU B ρ F o u) (x0 : Ext ρ F H ρ F (upd H p (.frz od u)))
    (x : Ext ρ F (upd H p (.frz od u)) ρ' F' H') (hr' : HR B ρ' F' h' H') : H' p = some (.frz od u) ∧ HR B ρ' F' (setO n h[n]? h') (upd H' p u) ∧ Ext ρ F H ρ' F' (upd H' p u) := by
  have hp := x.lk p od u upd_same
  have ep' := x.pre _ _ ep
  have ou' := ou.mono x.pre x.fz
  have k1 := ou.kind
  refine ⟨hp, ?_, (x0.trans x).updM (List.mem_of_getElem? ep) eu k1.1 k1.2.2.1⟩
  rw [e]
  have ap := hr'.at' ep'
  obtain ⟨o0, eo, r0⟩ := ap
  obtain ⟨u0, e0, n1, n2⟩ := r0.there
  have m : p ∈ ρ' := List.mem_of_getElem? ep'
  refine ⟨fun q w eq => ?_, by rw [setO, List.length_set]; exact hr'.len, hr'.nd, hr'.sep, fun j q ob e1 e2 => ?_, tabs_write e0 n1 n2 hr'.tab, hr'.ntb⟩
  · have hq : q ≠ p := fun z => by
      have := hr'.sep p m
      rw [← z, eq] at this
      cases this
    rw [upd_ne hq]
    exact hr'.sub q w eq
  · rw [setO] at e2
    by_cases hj : n = j
    · subst hj
      rw [ep'] at e1
      cases e1
      rw [List.getElem?_set_self (ix_lt eo)] at e2
      cases e2
      exact ou'.to upd_same
    · rw [List.getElem?_set_ne hj] at e2
      have hq : q ≠ p := fun z => by
        subst z
        exact hj (nd_ix hr'.nd ep' e1)
      exact OR.to (fun _ _ e => e) (fun _ _ e => e) (fun w e => by rw [upd_ne hq]; exact e) (hr'.obj j q ob e1 e2)
theorem PS.or {st : Stmt} {t t' : TS} (h : PS X st t) (h' : PS X st t') : PS X st fun D σ H => t D σ H ∨ t' D σ H := ⟨fun pins s σ H D I q => q.elim (h.run pins s σ H D I) (h'.run pins s σ H D I)⟩
theorem PE.or {e : Expr} {t t' : TE} (h : PE X e t) (h' : PE X e t') : PE X e fun σ H Q => t σ H Q ∨ t' σ H Q := ⟨fun pins s σ H Q I q => q.elim (h.run pins s σ H Q I) (h'.run pins s σ H Q I)⟩
theorem PE.or2 {e : Expr} {t t' t2 : TE} (h : PE X e t) (h' : PE X e t') (w : ∀ σ H Q, t2 σ H Q → t σ H Q ∨ t' σ H Q) : PE X e t2 := PE.imp (PE.or h h') w
/-- st while the dict that mo tells is locked -/
theorem ss_lock {st : Stmt} {mo : ME} {m : MS} (h0 : SS B X W st m) (h1 : SS B X noW st m) : SS B X W st (mLockS (pickE mo) m) := by
  refine PS.imp (PS.or h0 (ps_lock h1)) fun D σ H ⟨ρ, F, h, s, sr, hr, p⟩ => ?_
  unfold mLockS at p
  cases k : pickE mo s h with
  | none =>
    simp only [k] at p
    exact .inl ⟨ρ, F, h, s, sr, hr, p⟩
  | some n =>
    simp only [k] at p
    obtain ⟨o, eo, hc⟩ := pick_at k
    obtain ⟨q, u, ep, eu, mu, ou, hL⟩ := lock_in hr eo hc
    refine .inr ⟨q, u, eu, mu, fun od => ?_⟩
    obtain ⟨hrL, exL⟩ := hL od
    refine ⟨ρ, F, lckO n h, s, sr, hrL, ?_⟩
    have out : ∀ {ρ' : List Addr} {F' H' : Hp} {h' : AH}, Ext ρ F (upd H q (.frz od u)) ρ' F' H' → HR B ρ' F' h' H' → H' q = some (.frz od u) ∧ HR B ρ' F' (setO n h[n]? h') (upd H' q u) ∧ Ext ρ F H ρ' F' (upd H' q u) := fun x y => lock_out hr eo ep eu ou exL x y
    cases k2 : m s (lckO n h) with
    | nx s' h' =>
      simp only [k2] at p
      intro ρ' F' H' σ' x y z
      obtain ⟨a, b, c⟩ := out x y
      exact ⟨a, p _ _ _ _ c b z⟩
    | bk s' h' =>
      simp only [k2] at p
      intro ρ' F' H' σ' x y z
      obtain ⟨a, b, c⟩ := out x y
      exact ⟨a, p _ _ _ _ c b z⟩
    | ct s' h' =>
      simp only [k2] at p
      intro ρ' F' H' σ' x y z
      obtain ⟨a, b, c⟩ := out x y
      exact ⟨a, p _ _ _ _ c b z⟩
    | rt v h' =>
      simp only [k2] at p
      intro ρ' F' H' σ' x y z
      obtain ⟨a, b, c⟩ := out x y
      exact ⟨a, p _ _ _ _ c b z⟩
    | exc _ _ _ _ => simp only [k2] at p; exact p.elim
    | stk => simp only [k2] at p; exact p.elim
theorem lockE_imp {e : Expr} {mo m : ME} {σ : L2.St} {H : Hp} {Q : VK} (h : tm B W (mLockE (pickE mo) m) σ H Q) : tm B W m σ H Q ∨ tLockE (tm B noW m) σ H Q := by
  obtain ⟨ρ, F, h, s, sr, hr, p⟩ := h
  unfold mLockE at p
  cases k : pickE mo s h with
  | none =>
    simp only [k] at p
    exact .inl ⟨ρ, F, h, s, sr, hr, p⟩
  | some n =>
    simp only [k] at p
    obtain ⟨o, eo, hc⟩ := pick_at k
    obtain ⟨q, u, ep, eu, mu, ou, hL⟩ := lock_in hr eo hc
    refine .inr ⟨q, u, eu, mu, fun od => ?_⟩
    obtain ⟨hrL, exL⟩ := hL od
    refine ⟨ρ, F, lckO n h, s, sr, hrL, ?_⟩
    cases k2 : m s (lckO n h) with
    | ok v h' =>
      simp only [k2] at p
      intro ρ' F' H' σ' x y z
      obtain ⟨a, b, c⟩ := lock_out hr eo ep eu ou exL x y
      exact ⟨a, p _ _ _ _ c b z⟩
    | exc _ _ _ => simp only [k2] at p; exact p.elim
    | stk => simp only [k2] at p; exact p.elim
theorem se_lock {e : Expr} {mo m : ME} (h0 : SE B X W e m) (h1 : SE B X noW e m) : SE B X W e (mLockE (pickE mo) m) := PE.or2 h0 (pe_lock h1) fun _ _ _ h => lockE_imp (e := e) h

/-! ### slots forgotten -/
def mForget (vs : List Nat) : MS := fun s h => .nx (wipeA s vs) h
theorem SR.forget {ρ : List Addr} {F : Hp} {s : Sl} {σ : L2.St} (x : SR B ρ F s σ) : ∀ vs : List Nat, SR B ρ F (wipeA s vs) σ
  | [] => x
  | v :: vs => by
    obtain ⟨h1, h2⟩ := SR.forget x vs
    refine ⟨by rw [wipeA, List.length_set]; exact h1, fun i a e => ?_⟩
    rw [wipeA] at e
    by_cases hi : v = i
    · subst hi
      by_cases hl : v < (wipeA s vs).length
      · rw [List.getElem?_set_self hl] at e
        cases e
      · rw [List.getElem?_eq_none_iff.mpr (by rw [List.length_set]; omega)] at e
        cases e
    · rw [List.getElem?_set_ne hi] at e
      exact h2 i a e
theorem sss_forget {sts : List Stmt} {m : MS} (vs : List Nat) (h : SSs B X W sts m) : SSs B X W sts (mSeq (mForget vs) m) :=
  PSs.imp h fun D σ H ⟨ρ, F, h, s, sr, hr, p⟩ => ⟨ρ, F, h, wipeA s vs, sr.forget vs, hr, p⟩

/-! ### freezing -/
def tFrz (t : TE) : TE := fun σ H Q => t σ H fun v H' => ∃ p u, v = .ref p ∧ H' p = some u ∧ Mut (some u) ∧ ∀ od, Q v (upd H' p (.frz od u))
theorem pe_frz {e : Expr} {t : TE} (h : PE X e t) : PE X e (tFrz t) := by
  refine ⟨fun pins s σ H Q I hw => ?_⟩
  refine thn (h.run pins s σ H _ I hw) fun v s1 ⟨x, H1, I1, r, p, u, ex, hp, mu, q⟩ => ?_
  obtain ⟨od, I2⟩ := I1.lock hp mu
  exact ⟨x, _, I2, r, q od⟩
end
end NC
end S3
end
section
set_option Elab.async false
set_option linter.all false
set_option maxRecDepth 100000
set_option maxHeartbeats 4000000
namespace S3
open PySem PySem.Spec PyProof.Rows L2
noncomputable section NC
/-! ### numbers below n -/
section
mutual
def LV (n : Nat) : AV → Prop
  | .non => True
  | .bl _ => True
  | .int _ => True
  | .str _ => True
  | .tup xs => LVs n xs
  | .lst xs => LVs n xs
  | .rdl xs => LVs n xs
  | .rdt xs => LVs n xs
  | .dK kvs => LKs n kvs
  | .dT kvs => LTs n kvs
  | .ins _ fs => LFs n fs
  | .ref m => m < n
def LVs (n : Nat) : List AV → Prop
  | [] => True
  | a :: r => LV n a ∧ LVs n r
def LKs (n : Nat) : List (Key × AV) → Prop
  | [] => True
  | (_, a) :: r => LV n a ∧ LKs n r
def LTs (n : Nat) : List (List Key × AV) → Prop
  | [] => True
  | (_, a) :: r => LV n a ∧ LTs n r
def LFs (n : Nat) : List (Str × AV) → Prop
  | [] => True
  | (_, a) :: r => LV n a ∧ LFs n r
end
def LO (n : Nat) : AO → Prop
  | .lst xs => LVs n xs
  | .dK kvs => LKs n kvs
  | .dT kvs => LTs n kvs
  | .ins _ fs => LFs n fs
  | .lck o => LO n o
/-- nothing tells a number that is not there -/
def Closed (h : AH) : Prop := ∀ (i : Nat) (o : AO), h[i]? = some o → LO h.length o
mutual
theorem LV.mono {n m : Nat} (h : n ≤ m) : ∀ (a : AV), LV n a → LV m a
  | .non, l => l
  | .bl _, l => l
  | .int _, l => l
  | .str _, l => l
  | .tup xs, l => LVs.mono h xs l
  | .lst xs, l => LVs.mono h xs l
  | .rdl xs, l => LVs.mono h xs l
  | .rdt xs, l => LVs.mono h xs l
  | .dK kvs, l => LKs.mono h kvs l
  | .dT kvs, l => LTs.mono h kvs l
  | .ins _ fs, l => LFs.mono h fs l
  | .ref _, l => Nat.lt_of_lt_of_le l h
theorem LVs.mono {n m : Nat} (h : n ≤ m) : ∀ (a : List AV), LVs n a → LVs m a
  | [], l => l
  | a :: r, l => ⟨LV.mono h a l.1, LVs.mono h r l.2⟩
theorem LKs.mono {n m : Nat} (h : n ≤ m) : ∀ (a : List (Key × AV)), LKs n a → LKs m a
  | [], l => l
  | (_, a) :: r, l => ⟨LV.mono h a l.1, LKs.mono h r l.2⟩
theorem LTs.mono {n m : Nat} (h : n ≤ m) : ∀ (a : List (List Key × AV)), LTs n a → LTs m a
  | [], l => l
  | (_, a) :: r, l => ⟨LV.mono h a l.1, LTs.mono h r l.2⟩
theorem LFs.mono {n m : Nat} (h : n ≤ m) : ∀ (a : List (Str × AV)), LFs n a → LFs m a
  | [], l => l
  | (_, a) :: r, l => ⟨LV.mono h a l.1, LFs.mono h r l.2⟩
end
theorem LO.mono {n m : Nat} (h : n ≤ m) : ∀ (a : AO), LO n a → LO m a
  | .lst xs, l => LVs.mono h xs l
  | .dK kvs, l => LKs.mono h kvs l
  | .dT kvs, l => LTs.mono h kvs l
  | .ins _ fs, l => LFs.mono h fs l
  | .lck o, l => LO.mono h o l
end
section
variable {B : Bx} {ρ ρ' : List Addr} {F : Hp} {n : Nat}
mutual
theorem RV.lt : ∀ (a : AV) (v : V), RV B ρ F a v → LV ρ.length a
  | .non, v, h => trivial
  | .bl b, v, h => trivial
  | .int i, v, h => trivial
  | .str x, v, h => trivial
  | .tup xs, v, h => by
    obtain ⟨p, vs, e, q, r⟩ := h
    exact RVs.lt xs vs r
  | .rdt xs, v, h => by
    obtain ⟨p, vs, e, q, r⟩ := h
    exact RVs.lt xs vs r
  | .lst xs, v, h => by
    obtain ⟨p, vs, e, q, r⟩ := h
    exact RVs.lt xs vs r
  | .rdl xs, v, h => by
    obtain ⟨p, vs, e, q, r⟩ := h
    exact RVs.lt xs vs r
  | .dK kvs, v, h => by
    obtain ⟨p, o, vs, e, q, r⟩ := h
    exact RKs.lt kvs vs r
  | .dT kvs, v, h => by
    obtain ⟨p, o, vs, e, q, r⟩ := h
    exact RTs.lt kvs vs r
  | .ins c fs, v, h => by
    obtain ⟨p, C, dx, vs, e, m, q, r⟩ := h
    exact RFs.lt fs vs r
  | .ref n, v, h => by
    obtain ⟨p, q, e⟩ := h
    exact ix_lt q
theorem RVs.lt : ∀ (a : List AV) (v : List V), RVs B ρ F a v → LVs ρ.length a
  | [], v, h => trivial
  | a :: r, v, h => by
    obtain ⟨x, w, e, h1, h2⟩ := h
    exact ⟨RV.lt a x h1, RVs.lt r w h2⟩
theorem RKs.lt : ∀ (a : List (Key × AV)) (v : List (Key × V)), RKs B ρ F a v → LKs ρ.length a
  | [], v, h => trivial
  | (k, a) :: r, v, h => by
    obtain ⟨x, w, e, h1, h2⟩ := h
    exact ⟨RV.lt a x h1, RKs.lt r w h2⟩
theorem RTs.lt : ∀ (a : List (List Key × AV)) (v : List (List Key × V)), RTs B ρ F a v → LTs ρ.length a
  | [], v, h => trivial
  | (k, a) :: r, v, h => by
    obtain ⟨x, w, e, h1, h2⟩ := h
    exact ⟨RV.lt a x h1, RTs.lt r w h2⟩
theorem RFs.lt : ∀ (a : List (Str × AV)) (v : List (Str × V)), RFs B ρ F a v → LFs ρ.length a
  | [], v, h => trivial
  | (k, a) :: r, v, h => by
    obtain ⟨x, w, e, h1, h2⟩ := h
    exact ⟨RV.lt a x h1, RFs.lt r w h2⟩
end
theorem HR.closed {h : AH} {H : Hp} (x : HR B ρ F h H) : Closed h := fun i o e => by
  have hl : i < ρ.length := by rw [x.len]; exact ix_lt e
  have r := x.obj i _ o (List.getElem?_eq_getElem hl) e
  rw [← x.len]
  have aux : ∀ (o : AO) (u : HO), OU B ρ F o u → LO ρ.length o := fun o u r => by
    cases o with
    | lst xs => obtain ⟨vs, _, rs⟩ := r; exact RVs.lt _ _ rs
    | dK xs => obtain ⟨vs, _, rs⟩ := r; exact RKs.lt _ _ rs
    | dT xs => obtain ⟨vs, _, rs⟩ := r; exact RTs.lt _ _ rs
    | ins c fs => obtain ⟨C, dx, vs, _, _, rs⟩ := r; exact RFs.lt _ _ rs
    | lck o => exact r.elim
  cases o with
  | lck o =>
    obtain ⟨ob, u, _, r⟩ := r
    exact aux o u r
  | lst xs => obtain ⟨u, _, r⟩ := r; exact aux _ u r
  | dK xs => obtain ⟨u, _, r⟩ := r; exact aux _ u r
  | dT xs => obtain ⟨u, _, r⟩ := r; exact aux _ u r
  | ins c fs => obtain ⟨u, _, r⟩ := r; exact aux _ u r

mutual
theorem RV.trim : ∀ (a : AV) (v : V), LV n a → RV B ρ F a v → RV B (ρ.take n) F a v
  | .non, v, _, h => h
  | .bl b, v, _, h => h
  | .int i, v, _, h => h
  | .str x, v, _, h => h
  | .tup xs, v, l, h => by
    obtain ⟨p, vs, e, q, r⟩ := h
    exact ⟨p, vs, e, q, RVs.trim xs vs l r⟩
  | .rdt xs, v, l, h => by
    obtain ⟨p, vs, e, q, r⟩ := h
    exact ⟨p, vs, e, q, RVs.trim xs vs l r⟩
  | .lst xs, v, l, h => by
    obtain ⟨p, vs, e, q, r⟩ := h
    exact ⟨p, vs, e, q, RVs.trim xs vs l r⟩
  | .rdl xs, v, l, h => by
    obtain ⟨p, vs, e, q, r⟩ := h
    exact ⟨p, vs, e, q, RVs.trim xs vs l r⟩
  | .dK kvs, v, l, h => by
    obtain ⟨p, o, vs, e, q, r⟩ := h
    exact ⟨p, o, vs, e, q, RKs.trim kvs vs l r⟩
  | .dT kvs, v, l, h => by
    obtain ⟨p, o, vs, e, q, r⟩ := h
    exact ⟨p, o, vs, e, q, RTs.trim kvs vs l r⟩
  | .ins c fs, v, l, h => by
    obtain ⟨p, C, dx, vs, e, m, q, r⟩ := h
    exact ⟨p, C, dx, vs, e, m, q, RFs.trim fs vs l r⟩
  | .ref m, v, l, h => by
    obtain ⟨p, q, e⟩ := h
    have l : m < n := l
    exact ⟨p, by rw [List.getElem?_take]; rw [if_pos l]; exact q, e⟩
theorem RVs.trim : ∀ (a : List AV) (v : List V), LVs n a → RVs B ρ F a v → RVs B (ρ.take n) F a v
  | [], v, _, h => h
  | a :: r, v, l, h => by
    obtain ⟨x, w, e, h1, h2⟩ := h
    exact ⟨x, w, e, RV.trim a x l.1 h1, RVs.trim r w l.2 h2⟩
theorem RKs.trim : ∀ (a : List (Key × AV)) (v : List (Key × V)), LKs n a → RKs B ρ F a v → RKs B (ρ.take n) F a v
  | [], v, _, h => h
  | (k, a) :: r, v, l, h => by
    obtain ⟨x, w, e, h1, h2⟩ := h
    exact ⟨x, w, e, RV.trim a x l.1 h1, RKs.trim r w l.2 h2⟩
theorem RTs.trim : ∀ (a : List (List Key × AV)) (v : List (List Key × V)), LTs n a → RTs B ρ F a v → RTs B (ρ.take n) F a v
  | [], v, _, h => h
  | (k, a) :: r, v, l, h => by
    obtain ⟨x, w, e, h1, h2⟩ := h
    exact ⟨x, w, e, RV.trim a x l.1 h1, RTs.trim r w l.2 h2⟩
theorem RFs.trim : ∀ (a : List (Str × AV)) (v : List (Str × V)), LFs n a → RFs B ρ F a v → RFs B (ρ.take n) F a v
  | [], v, _, h => h
  | (k, a) :: r, v, l, h => by
    obtain ⟨x, w, e, h1, h2⟩ := h
    exact ⟨x, w, e, RV.trim a x l.1 h1, RFs.trim r w l.2 h2⟩
end
theorem OU.trim {o : AO} {u : HO} (l : LO n o) (x : OU B ρ F o u) : OU B (ρ.take n) F o u := by
  cases o with
  | lst xs => obtain ⟨vs, e, r⟩ := x; exact ⟨vs, e, RVs.trim _ _ l r⟩
  | dK xs => obtain ⟨vs, e, r⟩ := x; exact ⟨vs, e, RKs.trim _ _ l r⟩
  | dT xs => obtain ⟨vs, e, r⟩ := x; exact ⟨vs, e, RTs.trim _ _ l r⟩
  | ins c fs => obtain ⟨C, dx, ws, e, m, r⟩ := x; exact ⟨C, dx, ws, e, m, RFs.trim _ _ l r⟩
  | lck o => exact x
theorem OR.trim {o : AO} {H : Hp} {p : Addr} (l : LO n o) (x : OR B ρ F H p o) : OR B (ρ.take n) F H p o := by
  cases o with
  | lck o => obtain ⟨ob, u, e, r⟩ := x; exact ⟨ob, u, e, r.trim l⟩
  | lst xs => obtain ⟨u, e, r⟩ := x; exact ⟨u, e, r.trim l⟩
  | dK xs => obtain ⟨u, e, r⟩ := x; exact ⟨u, e, r.trim l⟩
  | dT xs => obtain ⟨u, e, r⟩ := x; exact ⟨u, e, r.trim l⟩
  | ins c fs => obtain ⟨u, e, r⟩ := x; exact ⟨u, e, r.trim l⟩
theorem HR.trim {h g : AH} {H : Hp} (x : HR B ρ F (h ++ g) H) (c : Closed h) : HR B (ρ.take h.length) F h H := by
  have hl : h.length ≤ ρ.length := by rw [x.len, List.length_append]; omega
  refine ⟨x.sub, by rw [List.length_take]; omega, x.nd.sublist (List.take_sublist _ _), fun p m => x.sep p (List.mem_of_mem_take m), fun i p o e1 e2 => ?_, x.tab, x.ntb⟩
  have hi : i < h.length := ix_lt e2
  rw [List.getElem?_take, if_pos hi] at e1
  exact (x.obj i p o e1 (by rw [List.getElem?_append_left hi]; exact e2)).trim (c i o e2)
theorem Ext.trim {F' H H' : Hp} (x : Ext ρ F H ρ' F' H') (hn : ρ.length ≤ n) : Ext ρ F H (ρ'.take n) F' H' :=
  ⟨fun i p e => by rw [List.getElem?_take, if_pos (Nat.lt_of_lt_of_le (ix_lt e) hn)]; exact x.pre i p e, x.fz, x.keep, x.fnew, fun p u e nt m z => x.rnew p u e nt m (List.mem_of_mem_take z), x.lk⟩
theorem ER.trim {c : Str} {fs : List (Str × AV)} {cls : Value} {d : Option Addr} {H : Hp} (l : LFs n fs) (x : ER B ρ F c fs cls d H) : ER B (ρ.take n) F c fs cls d H := by
  obtain ⟨C, e1, e2, e3⟩ := x
  refine ⟨C, e1, e2, e3.imp id fun ⟨dx, ws, q1, q2, q3⟩ => ⟨dx, ws, q1, q2, RFs.trim _ _ l q3⟩⟩
end
/-- what a def tells behind, the rubbish forgotten -/
def Ref1 (n : Nat) (r r' : Rs AV) : Prop := match r' with
  | .stk => True
  | .ok a h1 => r = .ok a h1 ∨ ∃ g, r = .ok a (h1 ++ g) ∧ n ≤ h1.length ∧ LV h1.length a ∧ Closed h1
  | .exc c fs h1 => r = .exc c fs h1 ∨ ∃ g, r = .exc c fs (h1 ++ g) ∧ n ≤ h1.length ∧ LFs h1.length fs ∧ Closed h1
theorem Ref1.post {B : Bx} {ρ : List Addr} {F H : Hp} {r r' : Rs AV} {n : Nat} {Q : VK} {E : WK} (x : Ref1 n r r') (hn : n = ρ.length) (p : Post B (RV B) ρ F H r' Q E) : Post B (RV B) ρ F H r Q E := by
  subst hn
  cases r' with
  | stk => exact p.elim
  | ok a h1 =>
    rcases x with rfl | ⟨g, rfl, hl, la, cl⟩
    · exact p
    · intro ρ' F' H' v e hr rv
      exact p _ F' H' v (e.trim hl) (hr.trim cl) (RV.trim _ _ la rv)
  | exc c fs h1 =>
    rcases x with rfl | ⟨g, rfl, hl, la, cl⟩
    · exact p
    · intro ρ' F' H' cls d e hr rv
      exact p _ F' H' cls d (e.trim hl) (hr.trim cl) (rv.trim la)
/-- the def at f does what g says -/
abbrev FnP (B : Bx) (P : Program) (w : World) (base : Heap) (k : Nat) (f : Addr) (fd : FuncData) (ps : List Str) (g : Fn) : Prop := FnOk P w B.K B.mg base (L2.CX P w) k f fd ps (spF B g)
section
variable {B : Bx} {P : Program} {w : World} {base : Heap} {k : Nat} {f C : Addr} {fd : FuncData} {ps : List Str} {g g' : Fn}
theorem FnP.refine (Fo : FnP B P w base k f fd ps g) (h : ∀ as h, Closed h → LVs h.length as → Ref1 h.length (g as h) (g' as h)) : FnP B P w base k f fd ps g' :=
  Fo.imp fun vs H Q E ⟨ρ, F, h1, as, hr, ra, p⟩ => ⟨ρ, F, h1, as, hr, ra, (h as h1 hr.closed (by rw [← hr.len]; exact RVs.lt _ _ ra)).post hr.len.symm p⟩
/-! ### a def's body -/
def Ss.fin (r : Ss) : Rs AV := match r with
  | .nx _ h => .ok .non h
  | .rt a h => .ok a h
  | .exc _ c fs h => .exc c fs h
  | _ => .stk
def defSem (n k : Nat) (m : MS) : Fn := fun as h => if as.length = k then (m (as.map some ++ List.replicate (n - k) none) h).fin else .stk
theorem start_at {ρ : List Addr} {F : Hp} {as : List AV} {vs : List V} {N : List Str} {n : Nat} (r : RVs B ρ F as vs) (hn : N.length - as.length = n) : SR B ρ F (as.map some ++ List.replicate n none) (L2.start N vs) := by
  have hl := RVs.length r
  refine ⟨by rw [L2.start, List.length_append, List.length_append, List.length_map, List.length_map, List.length_replicate, List.length_replicate, hl]; omega, fun i a e => ?_⟩
  rw [L2.start]
  by_cases hi : i < as.length
  · rw [List.getElem?_append_left (by rw [List.length_map]; exact hi), List.getElem?_map] at e
    cases k1 : as[i]? with
    | none => rw [k1] at e; cases e
    | some b =>
      rw [k1] at e
      cases e
      obtain ⟨v, ev, rv⟩ := r.nth k1
      exact ⟨v, by rw [List.getElem?_append_left (by rw [List.length_map]; omega), List.getElem?_map, ev]; rfl, rv⟩
  · rw [List.getElem?_append_right (by rw [List.length_map]; omega), List.getElem?_replicate] at e
    split at e <;> cases e
theorem fin_post {ρ : List Addr} {F H : Hp} {r : Ss} {Q : VK} {E : XK} (p : Post B (RV B) ρ F H r.fin Q E) : PostS B ρ F H r { nx := fun _ H' => Q .non H', rt := Q } (fun cls d _ H => E cls d H) := by
  cases r with
  | nx s h => exact fun ρ' F' H' σ' x y z => p ρ' F' H' .non x y rfl
  | rt a h => exact p
  | exc s c fs h => exact fun ρ' F' H' σ' cls d x y _ z => p ρ' F' H' cls d x y z
  | bk s h => exact p.elim
  | ct s h => exact p.elim
  | stk => exact p.elim
abbrev bodyCx (B : Bx) (P : Program) (w : World) (base : Heap) (N : List Str) (qual : Str) (st : Stmt) (f : Addr) (cdv : Value) (A : Around) (outer : List Env) (s : Shared) (H : Hp) (E : XK) : Cx := cxOf (L2.CX P w) P w B.K B.mg base N qual (defScope st) f cdv A outer s H E
theorem fn_body {x qual : Str} {st : Stmt} {N : List Str} {m : MS} (Fu : Fun B.K x qual st f fd) (S : FnScope N ps (defScope st))
    (hb : ∀ (cdv : Value) (A : Around) (outer : List Env) (s : Shared) (H : Hp) (E : XK), Room k (A.deeper (envOfC qual (defScope st) s.heap.objs.size f cdv)) → SSs B (bodyCx B P w base N qual st f cdv A outer s H E) (fun cls d _ H => E cls d H) (defBody st) m) :
    FnP B P w base (k + 1) f fd ps (defSem N.length ps.length m) := by
  refine Fu.okX S (fun vs H Q E ⟨ρ, F, h, as, hr, ra, p⟩ => ?_) (fun cdv A outer s H vs Q E hr ⟨ρ, F, h, as, hR, ra, p⟩ => ⟨_, hb cdv A outer s H E hr, ?_⟩)
  · unfold defSem at p
    split at p
    · rename_i hl
      rw [← RVs.length ra]; exact hl
    · exact p.elim
  · unfold defSem at p
    split at p
    · rename_i hl
      refine ⟨ρ, F, h, _, start_at ra rfl, hR, ?_⟩
      rw [← hl] at p
      exact fin_post p
    · exact p.elim
/-- a body lets out what it likes -/
theorem takesB {N : List Str} {qual : Str} {st : Stmt} {cdv : Value} {A : Around} {outer : List Env} {s : Shared} {H : Hp} {E : XK} : Takes (bodyCx B P w base N qual st f cdv A outer s H E) (fun cls d _ H => E cls d H) := takes_of rfl rfl rfl rfl
theorem passB {N : List Str} {qual : Str} {st : Stmt} {cdv : Value} {A : Around} {outer : List Env} {s : Shared} {H : Hp} {E : XK} : PassesOwn (model P w) (bodyCx B P w base N qual st f cdv A outer s H E).A (bodyCx B P w base N qual st f cdv A outer s H E).env (bodyCx B P w base N qual st f cdv A outer s H E).xe := passes_of rfl
end
end NC
end S3
end
section
set_option Elab.async false
set_option linter.all false
set_option maxRecDepth 100000
set_option maxHeartbeats 4000000
namespace S3
open PySem PySem.Spec PyProof.Rows L2
noncomputable section NC
/-! ### told(lambda: e) -/
/-- what the clauses make of an exception of the class cls -/
def wT (K : PySem.W.Frag) (Q : VK) (cls : Value) (H : Hp) : List (Value × Str) → Prop
  | [] => False
  | (c, ret) :: r => ∃ b, PySem.W.exmOne K cls c = some b ∧ (b = true → Q (.str ret) H) ∧ (b = false → wT K Q cls H r)
def TMany (K : PySem.W.Frag) (cl : List (Value × Str)) : (XK → Hp → VK → Prop) → Hp → VK → Prop := fun tl H Q => tl (fun cls _ H' => wT K Q cls H' cl) H Q
/-- the clauses: except e: return ret -/
inductive HTold (X : Cx) (sg : Scope) : List ExceptHandler → List (Value × Str) → Prop
  | nil : HTold X sg [] []
  | cons {e ret : Str} {CS : Value} {j : Nat} {p4 p5 p6 p7 : Pos} {hds : List ExceptHandler} {l : List (Value × Str)} (hge : sg.names.lookup e = some .globalImplicit) (hme : X.mg e = some CS) (hde : (e == ("__debug__" : Str)) = false) (r : HTold X sg hds l) :
      HTold X sg (.ExceptHandler (some (.Name e p4)) none [.Return (some (.Constant (.str ret) j p5)) p6] p7 :: hds) ((CS, ret) :: l)
theorem told_many {X : Cx} {Ng : List Str} {x a q : Str} {sg : Scope} {g : Addr} {cdg : Value} {h0 : ExceptHandler} {hds : List ExceptHandler} {cl : List (Value × Str)} {p1 p2 p3 p8 : Pos} (hT : HTold X sg (h0 :: hds) cl) (hs : ∀ f : Addr, (L2.start Ng [V.ref f])[0]? = some (some (V.ref f))) :
    LamX.GivesTo X Ng x sg g cdg [.Try [.Return (some (.Call (.Name a p1) [] [] p2)) p3] (h0 :: hds) [] [] p8] a q (TMany X.K cl) := by
  intro f c' s H Q tl act hc h
  have conv : ∀ {hd : List ExceptHandler} {cl : List (Value × Str)}, HTold X sg hd cl → HdsOk (cxOf C8.CX0 X.prog X.w X.K X.mg X.base Ng x sg g cdg X.A X.stack s H C8.E0).nox hd (cl.map fun y => (y.1, fun _ _ _ => tRet (tC (.str y.2)))) := by
    intro hd cl hT
    induction hT with
    | nil => exact .nil
    | cons hge hme hde r ih =>
      refine .cons (X := (cxOf C8.CX0 X.prog X.w X.K X.mg X.base Ng x sg g cdg X.A X.stack s H C8.E0).nox) ⟨hge, hde, .inl hme⟩ (fun a oe cls d pn _ _ => pss_one (ps_ret pe_str)) ih
  have wm : ∀ (cl : List (Value × Str)) (D : Ends) (cls : Value) (d : Option Addr) (σ : L2.St) (H' : Hp), wT X.K D.rt cls H' cl → wMany X.K (fun _ _ _ _ => False) D (cl.map fun y => (y.1, fun _ _ _ => tRet (tC (.str y.2)))) cls d σ H' := by
    intro cl
    induction cl with
    | nil => exact fun _ _ _ _ _ z => z
    | cons y r ih =>
      rintro D cls d σ H' ⟨b, e1, e2, e3⟩
      exact ⟨b, e1, fun hb a _ => e2 hb, fun hb => ih D cls d σ H' (e3 hb)⟩
  refine ⟨_, pss_one (ps_try_many (X := (cxOf C8.CX0 X.prog X.w X.K X.mg X.base Ng x sg g cdg X.A X.stack s H C8.E0).nox)
      (tb := fun W D σ H => ∃ Ech : XK, (∀ cls d σ' H', Ech cls d H' → W cls d σ' H') ∧ σ[0]? = some (some (.ref f)) ∧ H c' = some (LamX.CodeO c' q) ∧ tl Ech H D.rt)
      rfl rfl L2.takes0 (fun W pn xe tk _ => ?_) (conv hT)), ?_⟩
  · refine ⟨fun pins s' σ H' D I h' => ?_⟩
    obtain ⟨Ech, hW, h1, h2, h3⟩ := h'
    have hp := act W pn xe Ech p1 p2 tk hW
    have hq := pss_one (ps_ret (pos := p3) hp)
    exact hq.run pins s' σ H' D I ⟨h1, h2, h3⟩
  · exact ⟨fun cls _ H' => wT X.K Q cls H' cl, fun cls d σ' H' z => wm cl _ cls d σ' H' z, hs f, hc, h⟩
/-- e among what a clause catches -/
def Exm (B : Bx) (c e : Str) (b : Bool) : Prop := ∀ C CS, B.mg c = some (.ref C) → B.mg e = some (.ref CS) → PySem.W.exmOne B.K (.ref C) (.ref CS) = some b
def mTold (cl : List (Str × Str)) (m : ME) : ME := fun s h => match m s h with
  | .ok a h1 => .ok a h1
  | .exc c _ h1 => match cl.lookup c with
    | some r => .ok (.str r) h1
    | none => .stk
  | .stk => .stk
section
variable {B : Bx} {X : Cx} {W : WX}
/-- the classes of the clauses, known and apart -/
def ToldT (B : Bx) (cl : List (Str × Str)) (vs : List (Value × Str)) : Prop := vs.map (·.2) = cl.map (·.2) ∧ (∀ (i : Nat) (c r : Str), cl[i]? = some (c, r) → ∃ C, B.mg c = some (.ref C) ∧ vs[i]? = some (.ref C, r)) ∧ ∀ c e, c ∈ cl.map (·.1) → e ∈ cl.map (·.1) → Exm B c e (decide (c = e))
theorem told_at {cl : List (Str × Str)} : ∀ {cl' : List (Str × Str)} {vs : List (Value × Str)}, (∀ p, p ∈ cl' → p ∈ cl) → vs.length = cl'.length → (∀ (i : Nat) (c r : Str), cl'[i]? = some (c, r) → ∃ C, B.mg c = some (.ref C) ∧ vs[i]? = some (.ref C, r)) → (∀ c e, c ∈ cl.map (·.1) → e ∈ cl.map (·.1) → Exm B c e (decide (c = e))) →
    ∀ {c r : Str} {C : Addr} {Q : VK} {H : Hp}, cl'.lookup c = some r → B.mg c = some (.ref C) → c ∈ cl.map (·.1) → Q (.str r) H → wT B.K Q (.ref C) H vs
  | [], _, _, _, _, _, _, _, _, _, _, e, _, _, _ => by cases e
  | (c0, r0) :: rest, vs, hin, hl, hat, hex, c, r, C, Q, H, e, hC, hm, q => by
    obtain ⟨C0, h0, hv0⟩ := hat 0 c0 r0 rfl
    cases vs with
    | nil => cases hv0
    | cons v vr =>
      cases hv0
      have hin0 : c0 ∈ cl.map (·.1) := List.mem_map_of_mem (f := (·.1)) (hin _ List.mem_cons_self)
      refine ⟨decide (c = c0), hex c c0 hm hin0 C C0 hC h0, fun hb => ?_, fun hb => ?_⟩
      · have : c = c0 := of_decide_eq_true hb
        subst this
        rw [List.lookup_cons, beq_self_eq_true] at e
        cases e
        exact q
      · have ne : c ≠ c0 := of_decide_eq_false hb
        rw [List.lookup_cons, beq_false_of_ne ne] at e
        exact told_at (fun p hp => hin p (List.mem_cons_of_mem _ hp)) (by simpa using hl) (fun i c r hi => hat (i + 1) c r hi) hex e hC hm q
theorem mem_of_lookup {cl : List (Str × Str)} {c r : Str} (e : cl.lookup c = some r) : c ∈ cl.map (·.1) := by
  induction cl with
  | nil => cases e
  | cons p t ih =>
    obtain ⟨a, b⟩ := p
    rw [List.lookup_cons] at e
    by_cases h : c = a
    · subst h; exact List.mem_cons_self
    · rw [beq_false_of_ne h] at e
      exact List.mem_cons_of_mem _ (ih e)
theorem HR.tabbed {ρ : List Addr} {F H H1 : Hp} {h : AH} (x : HR B ρ F h H) (e : LamX.ExtN H H1) (t : LamX.Tabs B.T H1) : HR B ρ F h H1 ∧ Ext ρ F H ρ F H1 := by
  have nob : ∀ p u, F p = some u → H1 p = some u := fun p u q => e p u (x.sub p u q) fun ps z => x.ntb p ps (by rw [q, z])
  refine ⟨⟨nob, x.len, x.nd, x.sep, fun i p o e1 e2 => ?_, t, x.ntb⟩, ⟨fun _ _ e => e, fun _ _ e => e, fun p u q _ nt => e p u q nt, fun _ _ _ _ _ f => f, fun _ _ _ _ m => m, fun p o u q => e p _ q fun _ z => by cases z⟩⟩
  have r := x.obj i p o e1 e2
  cases o with
  | lck o => obtain ⟨ob, u, eu, ou⟩ := r; exact ⟨ob, u, e _ _ eu (fun _ z => by cases z), ou⟩
  | lst xs => obtain ⟨u, eu, ou⟩ := r; exact ⟨u, e _ _ eu ou.kind.1, ou⟩
  | dK xs => obtain ⟨u, eu, ou⟩ := r; exact ⟨u, e _ _ eu ou.kind.1, ou⟩
  | dT xs => obtain ⟨u, eu, ou⟩ := r; exact ⟨u, e _ _ eu ou.kind.1, ou⟩
  | ins c fs => obtain ⟨u, eu, ou⟩ := r; exact ⟨u, e _ _ eu ou.kind.1, ou⟩
theorem told_imp {cl : List (Str × Str)} {vs : List (Value × Str)} (hT : ToldT B cl vs) {m : ME} {σ : L2.St} {H : Hp} {Q : VK} (h : tm B W (mTold cl m) σ H Q) : LamX.tLam B.T (TMany B.K vs) (fun E => tm B (fun cls d _ H => E cls d H) m) σ H Q := by
  obtain ⟨ρ, F, h, s, sr, hr, p⟩ := h
  refine ⟨hr.tab, fun H1 eN T1 => ?_⟩
  obtain ⟨hr1, e1⟩ := hr.tabbed eN T1
  refine ⟨ρ, F, h, s, sr.ext e1, hr1, ?_⟩
  have p := Post.ext e1 p
  unfold mTold at p
  cases k : m s h with
  | ok a h1 => simp only [k] at p; exact p
  | stk => simp only [k] at p; exact p.elim
  | exc c fs h1 =>
    simp only [k] at p
    cases k2 : cl.lookup c with
    | none => simp only [k2] at p; exact p.elim
    | some r =>
      simp only [k2] at p
      intro ρ' F' H' cls d e2 hr2 ⟨C, hC, ec, _⟩
      subst ec
      obtain ⟨t1, t2, t3⟩ := hT
      exact told_at (cl := cl) (fun _ h => h) (by have := congrArg List.length t1; simpa using this) t2 t3 k2 hC (mem_of_lookup k2) (p ρ' F' H' _ e2 hr2 rfl)
theorem se_told {cl : List (Str × Str)} {vs : List (Value × Str)} (hT : ToldT B cl vs) {x a : Str} {g c P : Addr} {k : Nat} {pg : Arguments} {bg : List Stmt} {sg : Scope} {dV kV doc pm cdv ct oc : Value} {an od : Option Addr} {osl : Array (Option Value)} {Ng : List Str}
    {params : Arguments} {body : Expr} {scope : Scope} {m : ME} {p lpos pos : Pos} (hg : Gl X x) (hm : X.mg x = some (.ref g)) (hk : PySem.W.keepIn X.K (.ref g) = true)
    (lk : X.K.lookup g = some ⟨oc, od, .func (PySem.W.fnOf x x pg bg sg dV kV doc pm an cdv ct), osl⟩) (hcg : PySem.W.codeIn X.K cdv x = true) (hb : L2.Binds X.K (PySem.W.fnOf x x pg bg sg dV kV doc pm an cdv ct) [a] []) (Sg : FnScope Ng [a] sg) (hNg : Ng[0]? = some a) (hva : Vis sg a)
    (hG : LamX.GivesTo X Ng x sg g cdv bg a (X.env.qual ++ "<lambda>") (TMany B.K vs))
    (TB : LamX.TabB X.base X.mg c P) (hcode : X.env.code = .ref c) (hmT : (P, X.env.qual ++ "<lambda>") ∈ B.T) (hu : ∀ p ∈ B.T, p.1 = P → p.2 = X.env.qual ++ "<lambda>") (hr : Room (k + 2) X.A) (L : LamX.LamS X.env.scope scope) (hdef : defaultsOf params X.env = ([], []))
    (hbind : ∀ (q : Str) (cl : List (Str × Addr)) (pm cv ctv : Value), bindArgs (PySem.W.kla_fn "<lambda>" q params body scope cl pm cv ctv) ⟨[], []⟩ = pure [])
    (hbody : ∀ (A : Around) (outer : List Env) (s : Shared) (H : Hp) (E : XK) (f c' : Addr), Room k (A.deeper (LamX.lamEnv X scope s.heap.objs.size f c')) → SE B (LamX.lamCx X A outer s H E scope f c') (fun cls d _ H => E cls d H) body m)
    (hdb : (x == ("__debug__" : Str)) = false := by decide) (hd : (a == ("__debug__" : Str)) = false := by decide) (hcd : (a == ("__classdict__" : Str)) = false := by decide) :
    SE B X W (.Call (.Name x p) [.Lambda params body scope lpos] [] pos) (mTold cl m) :=
  PE.imp (LamX.pe_lamcall (T := B.T) (t := fun E => tm B (fun cls d _ H => E cls d H) m) hg hm hk lk hcg hb Sg hNg hva hG TB hcode hmT hu hr L hdef hbind hbody hdb hd hcd) fun _ _ _ h => told_imp hT h

/-! ### instances that never change -/
/-- the __init__ g makes the fields that gi tells -/
def InitOk (c : Str) (g : Fn) (gi : List AV → AH → Rs (List (Str × AV))) : Prop := ∀ as h, Closed h → LVs h.length as → match gi as h with
  | .stk => True
  | .ok fs h1 => ∃ r, g (.ref h.length :: as) (h ++ [.ins c []]) = .ok .non (h1 ++ [.ins c fs] ++ r) ∧ h1.length = h.length ∧ LFs h.length fs ∧ Closed h1
  | .exc e fs h1 => ∃ r, g (.ref h.length :: as) (h ++ [.ins c []]) = .exc e fs (h1 ++ r) ∧ h.length ≤ h1.length ∧ LFs h1.length fs ∧ Closed h1
def mMakeF (c : Str) (gi : List AV → AH → Rs (List (Str × AV))) (ma : MA) : ME := fun s h => (ma s h).bind fun as h1 => (gi as h1).bind fun fs h2 => .ok (.ins c fs) h2
theorem makeF_imp {c : Str} {g : Fn} {gi : List AV → AH → Rs (List (Str × AV))} (hi : InitOk c g gi) {as : List AV} {h : AH} {ρ : List Addr} {F H : Hp} {Q : VK} {Wx : WK} (hr : HR B ρ F h H) (ra : LVs h.length as)
    (p : Post B (RV B) ρ F H ((gi as h).bind fun fs h2 => .ok (.ins c fs) h2) Q Wx) : Post B (RV B) ρ F H (match g (.ref h.length :: as) (h ++ [.ins c []]) with
      | .ok .non h2 => .ok (.ref h.length) h2
      | .ok _ _ => .stk
      | .exc c fs h2 => .exc c fs h2
      | .stk => .stk) Q Wx := by
  have k := hi as h hr.closed ra
  cases kg : gi as h with
  | stk => rw [kg] at p; exact p.elim
  | ok fs h1 =>
    rw [kg] at p k
    obtain ⟨r, eg, hl, lf, cl⟩ := k
    rw [eg]
    intro ρ' F' H' v ex hr' rv
    obtain ⟨q, eq, ev⟩ := rv
    subst ev
    have hn : h.length = ρ.length := hr.len.symm
    have cl2 : Closed (h1 ++ [AO.ins c fs]) := fun i o e => by
      rw [List.length_append, List.length_singleton, hl]
      have up : ∀ o, LO h.length o → LO (h.length + 1) o := fun o x => LO.mono (Nat.le_succ _) o x
      by_cases hi : i < h1.length
      · rw [List.getElem?_append_left hi] at e
        have := cl i o e
        rw [hl] at this
        exact up o this
      · rw [List.getElem?_append_right (Nat.le_of_not_lt hi)] at e
        cases k3 : i - h1.length with
        | zero =>
          rw [k3] at e
          cases e
          exact LFs.mono (Nat.le_succ _) _ lf
        | succ j => rw [k3] at e; cases e
    have hr2 : HR B (ρ'.take (h1 ++ [AO.ins c fs]).length) F' (h1 ++ [AO.ins c fs]) H' := hr'.trim cl2
    have hlen : (h1 ++ [AO.ins c fs]).length = h.length + 1 := by rw [List.length_append, List.length_singleton, hl]
    have eq2 : (ρ'.take (h1 ++ [AO.ins c fs]).length)[h.length]? = some q := by
      rw [List.getElem?_take, hlen, if_pos (Nat.lt_succ_self _)]
      exact eq
    obtain ⟨u, eu, C, dx, ws, e1, hm, rs⟩ := hr2.obj h.length q (.ins c fs) eq2 (by rw [← hl]; exact getElem?_snoc _ _)
    subst e1
    have hr3 : HR B (ρ'.take h.length) F' h1 H' := by
      have z := hr2.trim (h := h1) (g := [AO.ins c fs]) cl
      rw [List.take_take] at z
      rw [hl, hlen, Nat.min_eq_left (Nat.le_succ _)] at z
      exact z
    have hqm : q ∈ ρ' := List.mem_of_getElem? eq
    have fq : F' q = none := hr'.sep q hqm
    have nq : q ∉ ρ'.take h.length := fun z => by
      obtain ⟨i, hi⟩ := List.getElem?_of_mem z
      have hil : i < h.length := by
        have := ix_lt hi
        rw [List.length_take] at this
        omega
      rw [List.getElem?_take, if_pos hil] at hi
      have := nd_ix hr'.nd hi eq
      omega
    have Hq : ∀ w, H q = some w → (∀ ps, w ≠ .tbl ps) → False := fun w kH nt => by
      have nr : q ∉ ρ := fun z => by
        obtain ⟨i, hi⟩ := List.getElem?_of_mem z
        have hil := ix_lt hi
        have := nd_ix hr'.nd (ex.pre _ _ hi) eq
        omega
      exact ex.rnew q w kH nt nr hqm
    have ex3 : Ext ρ F H (ρ'.take h.length) F' H' := ex.trim (by omega)
    refine p _ _ H' _ (ex3.intoFt fq Hq) (hr3.intoF nq fq eu) ⟨q, C, dx, ws, rfl, hm, upd_same, ?_⟩
    refine RFs.mono (fun _ _ e => e) (upd_old fq) _ _ ?_
    have z := RFs.trim (n := h.length) fs ws lf rs
    rw [List.take_take, hlen, Nat.min_eq_left (Nat.le_succ _)] at z
    exact z
  | exc e fs h1 =>
    rw [kg] at p k
    obtain ⟨r, eg, hl, lf, cl⟩ := k
    rw [eg]
    intro ρ' F' H' cls d ex hr' er
    exact p _ F' H' cls d (ex.trim (by rw [hr.len]; exact hl)) (hr'.trim cl) (er.trim lf)
end
end NC
end S3
end
section
set_option Elab.async false
set_option linter.all false
set_option maxRecDepth 100000
set_option maxHeartbeats 4000000
namespace S3
open PySem PySem.Spec PyProof.Rows L2
noncomputable section NC
section
variable {B : Bx} {X : Cx} {W : WX}
section
variable {k : Nat} {f C : Addr} {fd : FuncData} {ps : List Str} {g : Fn} {x m c : Str} {p pos apos : Pos} {e o : Expr} {es : List Expr} {ma : MA} {mo : ME} {gi : List AV → AH → Rs (List (Str × AV))}
theorem se_makeF (hi : InitOk c g gi) (M : Mk X.K C f) (hC : B.mg c = some (.ref C)) (Fo : FnS B X k f fd ps g) (hr : Room (k + 1) X.A) (hg : Gl X c) (hm : X.mg c = some (.ref C)) (hb : Binds X.K fd ps []) (tk : Takes X W)
    (ha : SA B X W (e :: es) ma) (hdb : (c == ("__debug__" : Str)) = false := by decide) (he : starEach (e :: es) X.env = (false, eval e X.env) :: starEach es X.env := by rfl) (hpl : (backTo pos (starEach es X.env)).any (·.1) = false := by rfl) :
    SE B X W (.Call (.Name c p) (e :: es) [] pos) (mMakeF c gi ma) := by
  refine ⟨fun pins s σ H Q I h => ?_⟩
  obtain ⟨ρ, F, h0, s0, sr, hr0, p⟩ := h
  have run := ha.run pos pins s σ H (fun vs H1 => ∀ x dx, H1 x = none → H1 dx = none → dx ≠ x → spF B g (.ref x :: vs) (upd (upd H1 dx (.own x)) x (.ins C dx [])) (fun v H2 => v = .non ∧ Q (.ref x) H2) (WE W σ)) I
    ⟨ρ, F, h0, s0, sr, hr0, p.andThen fun as h1 ρ1 F1 H1 vs _ e1 hr1 ra p1 => make_at hC hr1 ra (makeF_imp hi hr1 (by rw [← hr1.len]; exact RVs.lt _ _ ra) p1)⟩
  refine wpAny_Call_Name_kw (ld_glob I hg hm ?_ hdb)
  refine PySem.W.callWith_K (h₀ := X.base) I.ok.mod.kin M.kp (thn run fun us s1 ⟨vs, H1, I1, r, q⟩ => ⟨I1.kIn, ?_⟩) he hpl
  exact run_makeS (E := WE W) M Fo hr hb (passAt tk σ) I1 r q
theorem se_makeF0 (hi : InitOk c g gi) (M : Mk X.K C f) (hC : B.mg c = some (.ref C)) (Fo : FnS B X k f fd ps g) (hr : Room (k + 1) X.A) (hg : Gl X c) (hm : X.mg c = some (.ref C)) (hb : Binds X.K fd ps []) (tk : Takes X W)
    (hdb : (c == ("__debug__" : Str)) = false := by decide) : SE B X W (.Call (.Name c p) [] [] pos) (mMakeF c gi mNil) := by
  refine ⟨fun pins s σ H Q I h => ?_⟩
  obtain ⟨ρ, F, h0, s0, sr, hr0, p⟩ := h
  refine wpAny_Call_Name_kw (ld_glob I hg hm ?_ hdb)
  exact PySem.W.callWith_K0 I.kIn M.kp (run_makeS (E := WE W) (us := []) M Fo hr hb (passAt tk σ) I .nil (make_at (as := []) (vs := []) hC hr0 rfl (makeF_imp hi hr0 trivial p)))
end
/-! ### trees that are told by their data -/
mutual
def canon : AV → Bool
  | .non => true
  | .bl _ => true
  | .int _ => true
  | .str _ => true
  | .tup xs => canons xs
  | .lst xs => canons xs
  | _ => false
def canons : List AV → Bool
  | [] => true
  | a :: r => canon a && canons r
end
mutual
def unpy : PyData → AV
  | .none => .non
  | .bool b => .bl b
  | .int i => .int i
  | .str x => .str x
  | .tuple xs => .tup (unpys xs)
  | .list xs => .lst (unpys xs)
  | _ => .non
def unpys : List PyData → List AV
  | [] => []
  | a :: r => unpy a :: unpys r
end
mutual
theorem unpy_py : ∀ a : AV, canon a = true → unpy (py a) = a
  | .non, _ => rfl
  | .bl _, _ => rfl
  | .int _, _ => rfl
  | .str _, _ => rfl
  | .tup xs, h => by
    show AV.tup (unpys (pys xs)) = _
    rw [unpys_pys xs h]
  | .lst xs, h => by
    show AV.lst (unpys (pys xs)) = _
    rw [unpys_pys xs h]
  | .rdl _, h => nomatch h
  | .rdt _, h => nomatch h
  | .dK _, h => nomatch h
  | .dT _, h => nomatch h
  | .ins _ _, h => nomatch h
  | .ref _, h => nomatch h
theorem unpys_pys : ∀ a : List AV, canons a = true → unpys (pys a) = a
  | [], _ => rfl
  | a :: r, h => by
    have h : (canon a && canons r) = true := h
    rw [Bool.and_eq_true] at h
    show unpy (py a) :: unpys (pys r) = _
    rw [unpy_py a h.1, unpys_pys r h.2]
end
theorem pys_len : ∀ xs : List AV, (pys xs).length = xs.length
  | [] => rfl
  | a :: r => by show (pys r).length + 1 = _; rw [pys_len r]; rfl
theorem pys_at : ∀ {xs : List AV} {i : Nat} {d : PyData}, (pys xs)[i]? = some d → ∃ a, xs[i]? = some a ∧ d = py a
  | [], i, d, h => by cases h
  | a :: r, 0, d, h => by cases h; exact ⟨a, rfl, rfl⟩
  | a :: r, i + 1, d, h => pys_at (xs := r) (i := i) h
theorem canons_at : ∀ {xs : List AV} {i : Nat} {a : AV}, canons xs = true → xs[i]? = some a → canon a = true
  | b :: r, 0, a, c, h => by
    cases h
    have c : (canon b && canons r) = true := c
    rw [Bool.and_eq_true] at c
    exact c.1
  | b :: r, i + 1, a, c, h => by
    have c : (canon b && canons r) = true := c
    rw [Bool.and_eq_true] at c
    exact canons_at c.2 h

/-! ### built-ins -/
def gLen : GL := fun as h => match as with
  | [.str x] => if x.length ≤ sizeLine then some (.int (x.length : Nat)) else none
  | [a] => match vSq h a with
    | some xs => some (.int (xs.length : Nat))
    | none => none
  | _ => none
theorem cr_gLen (hK : X.K = B.K := by rfl) : CallR X (.builtin "len") (rmL B gLen) := by
  intro pins s σ H xs us Q I r hh
  obtain ⟨ρ, F, h, as, c, hr, ra, ec, q⟩ := hh
  have seq : ∀ a ys, as = [a] → vSq h a = some ys → c = .int (ys.length : Nat) → wpAny (model X.prog X.w) X.A (call (.builtin "len") us) (EP X pins σ Q) X.xe s := fun a ys e1 e2 e3 => by
    subst e1
    obtain ⟨v, rfl, rv⟩ := ra.one
    obtain ⟨p, vs, ex, sq, rs⟩ := vSq_at hr rv e2
    subst ex
    refine call_len pins s σ H [.ref p] us Q I r ⟨_, vs.length, rfl, ?_, ?_⟩
    · rcases sq with sq | sq
      · exact .inl ⟨vs, by rw [hK]; exact sq, rfl⟩
      · exact .inr ⟨vs, by rw [hK]; exact sq, rfl⟩
    · rw [← RVs.length rs]
      exact q _ _ _ _ Ext.refl hr (by rw [e3]; exact rfl)
  unfold gLen at ec
  split at ec
  · rename_i y
    obtain ⟨v, rfl, rv⟩ := ra.one
    have rv : v = .str y := rv
    subst rv
    split at ec
    · cases ec
      exact call_len pins s σ H [.str y] us Q I r ⟨_, y.length, rfl, ⟨by assumption, rfl⟩, q _ _ _ _ Ext.refl hr rfl⟩
    · cases ec
  · rename_i a _
    split at ec
    · rename_i ys e2
      cases ec
      exact seq a ys rfl e2 rfl
    · cases ec
  · cases ec
def gInt : GL := fun as h => match as with
  | [.int i] => some (.int i)
  | [.bl b] => some (.int (if b then 1 else 0))
  | _ => none
theorem cr_gInt : CallR X (.type "int") (rmL B gInt) := by
  intro pins s σ H xs us Q I r hh
  obtain ⟨ρ, F, h, as, c, hr, ra, ec, q⟩ := hh
  unfold gInt at ec
  split at ec
  · rename_i i
    cases ec
    rw [ints1 ra] at r
    exact call_int1 pins s σ H _ us Q I r (.inl ⟨i, rfl, q _ _ _ _ Ext.refl hr rfl⟩)
  · rename_i b
    cases ec
    obtain ⟨v, rfl, rv⟩ := ra.one
    have rv : v = .bl b := rv
    subst rv
    exact call_int1 pins s σ H _ us Q I r (.inr ⟨b, rfl, q _ _ _ _ Ext.refl hr rfl⟩)
  · cases ec
def gAbs : GL := fun as h => match as with
  | [.int i] => some (.int (if i < 0 then -i else i))
  | _ => none
theorem cr_gAbs : CallR X (.builtin "abs") (rmL B gAbs) := by
  intro pins s σ H xs us Q I r hh
  obtain ⟨ρ, F, h, as, c, hr, ra, ec, q⟩ := hh
  unfold gAbs at ec
  split at ec
  · rename_i i
    cases ec
    rw [ints1 ra] at r
    exact call_abs pins s σ H _ us Q I r ⟨i, rfl, q _ _ _ _ Ext.refl hr rfl⟩
  · cases ec
def intsOf : List AV → Option (List Int)
  | [] => some []
  | .int i :: r => (intsOf r).map (i :: ·)
  | _ => none
theorem intsOf_at {ρ : List Addr} {F : Hp} : ∀ {xs : List AV} {vs : List V} {ns : List Int}, RVs B ρ F xs vs → intsOf xs = some ns → vs = ns.map V.int
  | [], vs, ns, r, e => by
    cases e
    exact r
  | a :: t, vs, ns, r, e => by
    obtain ⟨v, w, rfl, r1, r2⟩ := r
    cases a with
    | int i =>
      have e : (intsOf t).map (i :: ·) = some ns := e
      cases k : intsOf t with
      | none => rw [k] at e; cases e
      | some ms =>
        rw [k] at e
        cases e
        have r1 : v = .int i := r1
        rw [r1, intsOf_at r2 k, List.map_cons]
    | _ => cases e
def gSum : GL := fun as h => match as with
  | [a] => match vSq h a with
    | some xs => (intsOf xs).map fun ns => .int ns.sum
    | none => none
  | _ => none
theorem sumT_raw {prog : Program} {w : World} {A : Around} {E : Value → Shared → Prop} {s : Shared} {l : Addr} {its : List Value} {ns : List Int} {Q : Value → Shared → Prop} (hh : A.handled = none) (hl : s.heap.IsTuple l its.toArray) (hi : IntsAre its ns)
    (h : ∀ h' tk t', (∀ b o, s.heap.get? b = some o → h'.get? b = some o) → Q (.int ns.sum t') { s with heap := h', toks := tk }) : wpAny (model prog w) A (call (.builtin "sum") [.ref l]) Q E s := by
  obtain ⟨xs, e⟩ := hi.allInts.items
  have hn : numsOf (intItems xs).toList = ns := by rw [← e]; exact hi.numsOf
  rw [nums_intItems] at hn
  rw [e] at hl
  refine PySem.W.ktm_sumG hh hl fun h' tk t' hk => ?_
  have := h h' tk t' hk
  rw [preSum_eq, List.take_of_length_le (by simp), hn]; exact this
theorem cr_gSum (hc : X.calm = true) (hK : X.K = B.K := by rfl) : CallR X (.builtin "sum") (rmL B gSum) := by
  intro pins s σ H xs us Q I r hh
  obtain ⟨ρ, F, h, as, c, hr, ra, ec, q⟩ := hh
  unfold gSum at ec
  split at ec
  · rename_i a
    split at ec
    · rename_i ys e2
      cases k : intsOf ys with
      | none => rw [k] at ec; cases ec
      | some ns =>
        rw [k] at ec
        cases ec
        obtain ⟨v, rfl, rv⟩ := ra.one
        obtain ⟨p, vs, ex, sq, rs⟩ := vSq_at hr rv e2
        subst ex
        have Q' := q _ _ H _ Ext.refl hr rfl
        rcases sq with sq | sq
        · rw [← hK, intsOf_at rs k] at sq
          exact cr_sum hc pins s σ H _ us Q I r ⟨p, ns, rfl, sq, Q'⟩
        · rw [← hK, intsOf_at rs k] at sq
          obtain ⟨its, rv2, hl, _⟩ := I.tuple sq
          rw [Vals.ref1 r]
          obtain ⟨o, ho, hcl, n, hd⟩ := hl
          exact sumT_raw (I.ok.hd hc) ⟨o, ho, hcl, n, hd⟩ rv2.ints fun h' tk t' hk => ⟨.int _, H, I.kept hk, ⟨_, rfl⟩, Q'⟩
    · cases ec
  · cases ec
def gList : GL := fun as h => match as with
  | [a] => match vSq h a with
    | some xs => some (.lst xs)
    | none => none
  | _ => none
theorem cr_gList (hK : X.K = B.K := by rfl) : CallR X (.type "list") (rmL B gList) := by
  intro pins s σ H xs us Q I r hh
  obtain ⟨ρ, F, h, as, c, hr, ra, ec, q⟩ := hh
  unfold gList at ec
  split at ec
  · rename_i a
    split at ec
    · rename_i ys e2
      cases ec
      obtain ⟨v, rfl, rv⟩ := ra.one
      obtain ⟨p, vs, ex, sq, rs⟩ := vSq_at hr rv e2
      subst ex
      refine call_list_of pins s σ H _ us Q I r ⟨p, vs, rfl, by rw [hK]; exact sq, fun l hl => ?_⟩
      obtain ⟨hr', ex⟩ := hr.newF hl (.lst vs)
      exact q _ _ _ _ ex hr' ⟨l, vs, rfl, upd_same, rs.ext ex⟩
    · cases ec
  · cases ec
def gTuple : GL := fun as h => match as with
  | [a] => match vT a with
    | some _ => some a
    | none => match vLR h a with
      | some xs => some (.tup xs)
      | none => none
  | _ => none
theorem cr_gTuple (hK : X.K = B.K := by rfl) : CallR X (.type "tuple") (rmL B gTuple) := by
  intro pins s σ H xs us Q I r hh
  obtain ⟨ρ, F, h, as, c, hr, ra, ec, q⟩ := hh
  unfold gTuple at ec
  split at ec
  · rename_i a
    obtain ⟨v, rfl, rv⟩ := ra.one
    split at ec
    · rename_i ys e2
      cases ec
      obtain ⟨p, vs, ex, sq, rs⟩ := vT_at hr rv e2
      subst ex
      exact call_tuple_of pins s σ H _ us Q I r ⟨p, vs, rfl, .inr ⟨by rw [hK]; exact sq, q _ _ _ _ Ext.refl hr rv⟩⟩
    · split at ec
      · rename_i ys e2
        cases ec
        obtain ⟨p, vs, ex, sq, rs⟩ := vLR_at hr rv e2
        subst ex
        refine call_tuple_of pins s σ H _ us Q I r ⟨p, vs, rfl, .inl ⟨by rw [hK]; exact sq, fun l hl => ?_⟩⟩
        obtain ⟨hr', ex⟩ := hr.newF hl (.tup vs)
        exact q _ _ _ _ ex hr' ⟨l, vs, rfl, upd_same, rs.ext ex⟩
      · cases ec
  · cases ec
end
end NC
end S3
end
section
set_option Elab.async false
set_option linter.all false
set_option maxRecDepth 100000
set_option maxHeartbeats 4000000
namespace S3
open PySem PySem.Spec PyProof.Rows L2
noncomputable section NC
section
variable {B : Bx} {X : Cx}
theorem Vals.at : ∀ {xs : List V} {us : List Value} {i : Nat} {u : Value}, Vals xs us → us[i]? = some u → ∃ x, xs[i]? = some x ∧ RelV x u
  | [], _, i, u, r, e => by cases r; cases e
  | x :: xs, _, 0, u, r, e => by
    cases r with
    | cons h t => cases e; exact ⟨x, rfl, h⟩
  | x :: xs, _, i + 1, u, r, e => by
    cases r with
    | cons h t => exact Vals.at (i := i) t e
theorem RVs.at' {ρ : List Addr} {F : Hp} : ∀ {xs : List AV} {vs : List V} {i : Nat} {v : V}, RVs B ρ F xs vs → vs[i]? = some v → ∃ a, xs[i]? = some a ∧ RV B ρ F a v
  | [], vs, i, v, r, e => by
    have r : vs = [] := r
    subst r
    cases e
  | a :: t, vs, i, v, r, e => by
    obtain ⟨x, w, rfl, r1, r2⟩ := r
    cases i with
    | zero => cases e; exact ⟨a, rfl, r1⟩
    | succ i => exact RVs.at' (i := i) r2 e
theorem plain_at : ∀ {xs : List AV} {i : Nat} {a : AV}, PyData.plainAll (pys xs) = true → xs[i]? = some a → (py a).plain = true
  | b :: r, 0, a, c, h => by
    cases h
    have c : ((py b).plain && PyData.plainAll (pys r)) = true := c
    rw [Bool.and_eq_true] at c
    exact c.1
  | b :: r, i + 1, a, c, h => by
    have c : ((py b).plain && PyData.plainAll (pys r)) = true := c
    rw [Bool.and_eq_true] at c
    exact plain_at c.2 h
def likeAll (xs : List PyData) : Bool := xs.all fun x => (match x with | .none => false | _ => true) && xs.all fun y => PySem.W.alike x y
theorem likeAll_of {xs : List PyData} (h : likeAll xs = true) : PySem.W.AlikeAll xs := by
  unfold likeAll at h
  rw [List.all_eq_true] at h
  refine ⟨fun x hx y hy => ?_, fun x hx z => ?_⟩
  · have q := h x hx
    rw [Bool.and_eq_true] at q
    exact List.all_eq_true.mp q.2 y hy
  · have q := h x hx
    rw [Bool.and_eq_true] at q
    subst z
    cases q.1
/-- items that may be set in order -/
def okItems (xs : List AV) : Bool := canons xs && PyData.plainAll (pys xs) && likeAll (pys xs) && decide (PyData.depthAll (pys xs) ≤ 60)
theorem okItems_of {xs : List AV} (h : okItems xs = true) : canons xs = true ∧ PyData.plainAll (pys xs) = true ∧ PySem.W.AlikeAll (pys xs) ∧ PyData.depthAll (pys xs) ≤ 60 := by
  unfold okItems at h
  simp only [Bool.and_eq_true, decide_eq_true_eq] at h
  exact ⟨h.1.1.1, h.1.1.2, likeAll_of h.1.2, h.2⟩
/-- the item that was found, by its data -/
theorem found_at {pins : List (Addr × Obj)} {σ : L2.St} {s : Shared} {ρ : List Addr} {F H : Hp} {h : AH} {xs : List AV} {vs : List V} {its : List Value} {i : Nat} {v : Value} {h' : Heap} {tk : Nat} {d : PyData} {bs : List Addr} (hK : X.K = B.K) (I : Inv X pins σ H s) (hr : HR B ρ F h H) (rs : RVs B ρ F xs vs) (rv : Vals vs its)
    (ok : canons xs = true) (pl : PyData.plainAll (pys xs) = true) (e : its[i]? = some v) (k : ∀ b o, s.heap.get? b = some o → h'.get? b = some o) (r : Reads h' v d bs) : ∃ w, RelV w v ∧ RV B ρ F (unpy d) w ∧ Inv X pins σ H { s with heap := h', toks := tk } := by
  obtain ⟨w, ew, rw'⟩ := Vals.at rv e
  obtain ⟨a, ea, ra⟩ := rs.at' ew
  have pa := plain_at pl ea
  have I2 : Inv X pins σ H { s with heap := h', toks := tk } := I.kept k
  obtain ⟨as, r2⟩ := Dp.reads I2 (py a) w v (by rw [hK]; exact RV.dp hr a w ra pa) rw'
  have ed : py a = d := SeqAt.plain_unique (py a) d v as bs pa r2 r
  refine ⟨w, rw', ?_, I2⟩
  rw [← ed, unpy_py a (canons_at ok ea)]
  exact ra
def gBest (mx : Bool) (best : PyData → List PyData → PyData) : GL := fun as h => match as with
  | [.int i, .int j] => some (.int (if mx = true then (if j > i then j else i) else (if j < i then j else i)))
  | [a] => match vSq h a with
    | some (x :: xs) => if okItems (x :: xs) = true then some (unpy (best (py x) (pys xs))) else none
    | _ => none
  | _ => none
abbrev gMin : GL := gBest false PySem.W.minD
abbrev gMax : GL := gBest true PySem.W.maxD
theorem gBest_at {mx : Bool} {best : PyData → List PyData → PyData} {as : List AV} {h : AH} {c : AV} (e : gBest mx best as h = some c) : (∃ i j : Int, as = [.int i, .int j] ∧ c = .int (if mx = true then (if j > i then j else i) else (if j < i then j else i))) ∨ ∃ a x xs, as = [a] ∧ vSq h a = some (x :: xs) ∧ okItems (x :: xs) = true ∧ c = unpy (best (py x) (pys xs)) := by
  unfold gBest at e
  split at e
  · rename_i i j
    cases e
    exact .inl ⟨i, j, rfl, rfl⟩
  · rename_i a
    split at e
    · rename_i x xs e2
      split at e
      · cases e
        exact .inr ⟨a, x, xs, rfl, e2, by assumption, rfl⟩
      · cases e
    · cases e
  · cases e
theorem cr_gMin (hc : X.calm = true) (hu : X.A.units + 64 < cLine) (hK : X.K = B.K := by rfl) : CallR X (.builtin "min") (rmL B gMin) := by
  intro pins s σ H xs us Q I r hh
  obtain ⟨ρ, F, h, as, c, hr, ra, ec, q⟩ := hh
  rcases gBest_at ec with ⟨i, j, rfl, rfl⟩ | ⟨a, x, xs, rfl, e2, ok, rfl⟩
  · rw [ints2 ra] at r
    exact call_min2 hc pins s σ H _ us Q I r ⟨i, j, rfl, q _ _ _ _ Ext.refl hr rfl⟩
  · obtain ⟨v, rfl, rv⟩ := ra.one
    obtain ⟨o1, o2, o3, o4⟩ := okItems_of ok
    have o4 : PyData.depthAll (py x :: pys xs) ≤ 60 := o4
    obtain ⟨p, vs, ex, sq, rs⟩ := vSq_at hr rv e2
    subst ex
    rw [Vals.ref1 r]
    have dp := RVs.dp hr _ _ rs o2
    rcases sq with sq | sq
    · obtain ⟨its, rits, hl, _⟩ := I.list (by rw [hK]; exact sq)
      obtain ⟨as, hrd⟩ := Dp.readsAll I _ _ _ (by rw [hK]; exact dp) rits
      refine PySem.W.min_list_data (vs := its.toArray) (I.ok.hd hc) hl.isList hrd o3 (by omega) fun i v h' tk bs hv hb hk => ?_
      obtain ⟨w, g1, g2, g3⟩ := found_at hK I hr rs rits o1 o2 (by simpa using hv) hk hb
      exact ⟨w, H, g3, g1, q _ _ _ _ Ext.refl hr g2⟩
    · obtain ⟨its, rits, hl, _⟩ := I.tuple (by rw [hK]; exact sq)
      obtain ⟨as, hrd⟩ := Dp.readsAll I _ _ _ (by rw [hK]; exact dp) rits
      refine PySem.W.min_tuple_data (vs := its.toArray) (I.ok.hd hc) hl hrd o3 (by omega) fun i v h' tk bs hv hb hk => ?_
      obtain ⟨w, g1, g2, g3⟩ := found_at hK I hr rs rits o1 o2 (by simpa using hv) hk hb
      exact ⟨w, H, g3, g1, q _ _ _ _ Ext.refl hr g2⟩
theorem cr_gMax (hc : X.calm = true) (hu : X.A.units + 64 < cLine) (hK : X.K = B.K := by rfl) : CallR X (.builtin "max") (rmL B gMax) := by
  intro pins s σ H xs us Q I r hh
  obtain ⟨ρ, F, h, as, c, hr, ra, ec, q⟩ := hh
  rcases gBest_at ec with ⟨i, j, rfl, rfl⟩ | ⟨a, x, xs, rfl, e2, ok, rfl⟩
  · rw [ints2 ra] at r
    exact call_max2 hc pins s σ H _ us Q I r ⟨i, j, rfl, q _ _ _ _ Ext.refl hr rfl⟩
  · obtain ⟨v, rfl, rv⟩ := ra.one
    obtain ⟨o1, o2, o3, o4⟩ := okItems_of ok
    have o4 : PyData.depthAll (py x :: pys xs) ≤ 60 := o4
    obtain ⟨p, vs, ex, sq, rs⟩ := vSq_at hr rv e2
    subst ex
    rw [Vals.ref1 r]
    have dp := RVs.dp hr _ _ rs o2
    rcases sq with sq | sq
    · obtain ⟨its, rits, hl, _⟩ := I.list (by rw [hK]; exact sq)
      obtain ⟨as, hrd⟩ := Dp.readsAll I _ _ _ (by rw [hK]; exact dp) rits
      refine PySem.W.max_list_data (vs := its.toArray) (I.ok.hd hc) hl.isList hrd o3 (by omega) fun i v h' tk bs hv hb hk => ?_
      obtain ⟨w, g1, g2, g3⟩ := found_at hK I hr rs rits o1 o2 (by simpa using hv) hk hb
      exact ⟨w, H, g3, g1, q _ _ _ _ Ext.refl hr g2⟩
    · obtain ⟨its, rits, hl, _⟩ := I.tuple (by rw [hK]; exact sq)
      obtain ⟨as, hrd⟩ := Dp.readsAll I _ _ _ (by rw [hK]; exact dp) rits
      refine PySem.W.max_tuple_data (vs := its.toArray) (I.ok.hd hc) hl hrd o3 (by omega) fun i v h' tk bs hv hb hk => ?_
      obtain ⟨w, g1, g2, g3⟩ := found_at hK I hr rs rits o1 o2 (by simpa using hv) hk hb
      exact ⟨w, H, g3, g1, q _ _ _ _ Ext.refl hr g2⟩
variable {W : WX}
/-! ### methods of built-in types -/
abbrev GM := AV → List AV → AH → Option (AV × AH)
def rmM (B : Bx) (g : GM) : V → List V → Hp → VK → Prop := fun x xs H Q => ∃ ρ F h a as c h', HR B ρ F h H ∧ RV B ρ F a x ∧ RVs B ρ F as xs ∧ g a as h = some (c, h') ∧ ∀ ρ' F' H' z, Ext ρ F H ρ' F' H' → HR B ρ' F' h' H' → RV B ρ' F' c z → Q z H'
/-- which values are of the type T -/
def TyOk (B : Bx) (T : String) (ty : AV → AH → Bool) : Prop := ∀ (ρ : List Addr) (F H : Hp) (h : AH) (a : AV) (x : V), HR B ρ F h H → RV B ρ F a x → ty a h = true → tyV B.K T x H
def tyL (a : AV) (h : AH) : Bool := (vLR h a).isSome
def tyS (a : AV) (_ : AH) : Bool := match a with
  | .str _ => true
  | _ => false
theorem ty_list : TyOk B "list" tyL := fun ρ F H h a x hr ra e => by
  unfold tyL at e
  cases k : vLR h a with
  | none => rw [k] at e; cases e
  | some xs =>
    obtain ⟨p, vs, ex, sq, _⟩ := vLR_at hr ra k
    subst ex
    exact .inl ⟨rfl, vs, sq⟩
theorem ty_str : TyOk B "str" tyS := fun ρ F H h a x hr ra e => by
  cases a with
  | str y =>
    have ra : x = .str y := ra
    subst ra
    exact rfl
  | _ => cases e
def mBM (ty : AV → AH → Bool) (g : GM) (mo : ME) (ma : MA) : ME := fun s h => (mo s h).bind fun a h1 => if ty a h1 = true then (ma s h1).bind fun as h2 => match g a as h2 with
  | some (c, h3) => .ok c h3
  | none => .stk
  else .stk
section
variable {o e : Expr} {es : List Expr} {name : Str} {apos cpos : Pos} {T id : String} {ty : AV → AH → Bool} {g : GM} {mo : ME} {ma : MA}
theorem se_bm (hty : TyOk B T ty) (pa : PlainAttrs T) (slot : Slot T name id) (htm : typeOf (.builtin id) = pure (.type "method_descriptor")) (hm : MtR X id (rmM B g)) (ho : SE B X W o mo) (ha : SA B X W (e :: es) ma)
    (hbase : attributeBase o name X.env (eval o X.env) = eval o X.env := by rfl)
    (hfew : ((backTo cpos (starEach (e :: es) X.env)).all (fun x => !x.1) && (backToKw cpos (keywordEach [] X.env)).all (fun x => x.1.isSome)
      && decide ((e :: es).length + ([] : List Keyword).length + (if ([] : List Keyword).isEmpty then 0 else 1) < 30)) = true := by rfl)
    (hline : (apos.endLine == cpos.line) = true := by rfl) (hs : starEach (e :: es) X.env = (false, eval e X.env) :: starEach es X.env := by rfl) (hplain : (backTo cpos (starEach es X.env)).any (·.1) = false := by rfl) (hK : X.K = B.K := by rfl) :
    SE B X W (.Call (.Attribute o name apos) (e :: es) [] cpos) (mBM ty g mo ma) :=
  PE.imp (pe_bm pa slot htm hm ho ha hbase hfew hline hs hplain) fun σ H Q ⟨ρ, F, h, s, sr, hr, p⟩ => ⟨ρ, F, h, s, sr, hr, p.andThen fun a h1 ρ1 F1 H1 x _ e1 hr1 ra p1 => by
    split at p1
    · rename_i ht
      refine ⟨by rw [hK]; exact hty _ _ _ _ _ _ hr1 ra ht, ρ1, F1, h1, s, sr.ext e1, hr1, p1.andThen fun as h2 ρ2 F2 H2 xs _ e2 hr2 rs p2 => ?_⟩
      split at p2
      · rename_i c h3 eg
        exact ⟨ρ2, F2, h2, a, as, c, h3, hr2, ra.ext e2, rs, eg, p2⟩
      · exact p2.elim
    · exact p1.elim⟩
theorem se_bm0 (hty : TyOk B T ty) (pa : PlainAttrs T) (slot : Slot T name id) (htm : typeOf (.builtin id) = pure (.type "method_descriptor")) (hm : MtR X id (rmM B g)) (ho : SE B X W o mo)
    (hbase : attributeBase o name X.env (eval o X.env) = eval o X.env := by rfl) (hline : (apos.endLine == cpos.line) = true := by rfl) (hK : X.K = B.K := by rfl) :
    SE B X W (.Call (.Attribute o name apos) [] [] cpos) (mBM ty g mo mNil) :=
  PE.imp (pe_bm0 pa slot htm hm ho hbase hline) fun σ H Q ⟨ρ, F, h, s, sr, hr, p⟩ => ⟨ρ, F, h, s, sr, hr, p.andThen fun a h1 ρ1 F1 H1 x _ e1 hr1 ra p1 => by
    split at p1
    · rename_i ht
      refine ⟨by rw [hK]; exact hty _ _ _ _ _ _ hr1 ra ht, ?_⟩
      have p1 : Post B (RV B) ρ1 F1 H1 (match g a [] h1 with
        | some (c, h3) => .ok c h3
        | none => .stk) Q (fun cls d H' => W cls d σ H') := p1
      split at p1
      · rename_i c h3 eg
        exact ⟨ρ1, F1, h1, a, [], c, h3, hr1, ra, rfl, eg, p1⟩
      · exact p1.elim
    · exact p1.elim⟩
end
def gIndex : GM := fun a as h => match vLR h a, as with
  | some xs, [b] => if SeqAt.shaped (.list (pys xs)) = true ∧ SeqAt.shaped (pyv h b) = true ∧ PyData.plainAll (pys xs) = true ∧ (pyv h b).plain = true then ((pys xs).findIdx? fun z => PyData.eqv z (pyv h b)).map fun j => (.int (j : Nat), h) else none
  | _, _ => none
theorem mt_gIndex (hu : X.A.units + 65 < cLine) (hK : X.K = B.K := by rfl) : MtR X "list.index" (rmM B gIndex) := by
  intro pins s σ H x xs v us Q I rx rxs hh
  obtain ⟨ρ, F, h, a, as, c, h', hr, ra, rs, eg, q⟩ := hh
  unfold gIndex at eg
  split at eg
  · rename_i ys b e1
    split at eg
    · rename_i hs
      obtain ⟨s1, s2, s3, s4⟩ := hs
      cases k : ((pys ys).findIdx? fun z => PyData.eqv z (pyv h b)) with
      | none => rw [k] at eg; cases eg
      | some j =>
        rw [k] at eg
        cases eg
        obtain ⟨w, rfl, rb⟩ := rs.one
        obtain ⟨p, vs, ex, sq, rvs⟩ := vLR_at hr ra e1
        subst ex
        obtain ⟨hj, h1, h2⟩ := List.findIdx?_eq_some_iff_getElem.mp k
        refine mt_indexD hu pins s σ H (.ref p) [w] v us Q I rx rxs ⟨p, w, pyv h b, pys ys, j, (pys ys)[j], rfl, rfl, .lst (by rw [hK]; exact sq) (by rw [hK]; exact RVs.dp hr _ _ rvs s3), by rw [hK]; exact rb.dpv hr s4, s1, s2, List.getElem?_eq_getElem hj, h1, fun m z' hm hz => ?_, q _ _ _ _ Ext.refl hr rfl⟩
        obtain ⟨hm', rfl⟩ := List.getElem?_eq_some_iff.mp hz
        exact Bool.eq_false_iff.mpr (h2 m hm)
    · cases eg
  · cases eg
def gAppend : GM := fun a as h => match a, as with
  | .ref n, [b] => match h[n]? with
    | some (.lst xs) => if xs.length < sizeLine then some (.non, h.set n (.lst (xs ++ [b]))) else none
    | _ => none
  | _, _ => none
theorem mt_gAppend : MtR X "list.append" (rmM B gAppend) := by
  intro pins s σ H x xs v us Q I rx rxs hh
  obtain ⟨ρ, F, h, a, as, c, h', hr, ra, rs, eg, q⟩ := hh
  unfold gAppend at eg
  split at eg
  · rename_i n b
    split at eg
    · rename_i ys e1
      split at eg
      · rename_i hl
        cases eg
        obtain ⟨p, ep, ex⟩ := ra
        subst ex
        obtain ⟨w, rfl, rb⟩ := rs.one
        obtain ⟨o, eo, ro⟩ := hr.at' ep
        rw [e1] at eo
        cases eo
        obtain ⟨u, eu, vs, eu2, rvs⟩ := ro
        subst eu2
        obtain ⟨hr2, ex2⟩ := hr.write (o := .lst (ys ++ [b])) (u := .lst (vs ++ [w])) ep ⟨_, upd_same, _, rfl, rvs.append ⟨w, [], rfl, rb, rfl⟩⟩ eu
        exact mt_append pins s σ H (.ref p) [w] v us Q I rx rxs ⟨p, vs, w, rfl, rfl, eu, by rw [← RVs.length rvs]; exact hl, q _ _ _ _ ex2 hr2 rfl⟩
      · cases eg
    · cases eg
  · cases eg
theorem RVs.dropLast {ρ : List Addr} {F : Hp} {xs : List AV} {vs : List V} (r : RVs B ρ F xs vs) : RVs B ρ F xs.dropLast vs.dropLast := by
  rw [List.dropLast_eq_take, List.dropLast_eq_take, RVs.length r]
  exact r.take _
theorem RVs.erase {ρ : List Addr} {F : Hp} : ∀ {xs : List AV} {vs : List V} (j : Nat), RVs B ρ F xs vs → RVs B ρ F (xs.eraseIdx j) (vs.eraseIdx j)
  | [], vs, j, r => by have r : vs = [] := r; subst r; exact rfl
  | a :: t, vs, 0, r => by obtain ⟨v, w, rfl, r1, r2⟩ := r; exact r2
  | a :: t, vs, j + 1, r => by obtain ⟨v, w, rfl, r1, r2⟩ := r; exact ⟨v, _, rfl, r1, RVs.erase j r2⟩
def gPop : GM := fun a as h => match a, as with
  | .ref n, [] => match h[n]? with
    | some (.lst xs) => (xs[xs.length - 1]?).map fun y => (y, h.set n (.lst xs.dropLast))
    | _ => none
  | .ref n, [.int i] => match h[n]? with
    | some (.lst xs) => if -(2 ^ 63) ≤ i ∧ i < 2 ^ 63 then (seqIndex? i xs.length).bind fun k => (xs[k]?).map fun y => (y, h.set n (.lst (xs.eraseIdx k))) else none
    | _ => none
  | _, _ => none
theorem mt_gPop : MtR X "list.pop" (rmM B gPop) := by
  intro pins s σ H x xs v us Q I rx rxs hh
  obtain ⟨ρ, F, h, a, as, c, h', hr, ra, rs, eg, q⟩ := hh
  unfold gPop at eg
  split at eg
  · rename_i n
    split at eg
    · rename_i ys e1
      obtain ⟨p, ep, ex⟩ := ra
      subst ex
      obtain rfl : xs = [] := rs
      obtain ⟨o, eo, ro⟩ := hr.at' ep
      rw [e1] at eo
      cases eo
      obtain ⟨u, eu, vs, eu2, rvs⟩ := ro
      subst eu2
      cases k : ys[ys.length - 1]? with
      | none => rw [k] at eg; cases eg
      | some y =>
        rw [k] at eg
        cases eg
        obtain ⟨w, ew, rw'⟩ := rvs.nth k
        obtain ⟨hr2, ex2⟩ := hr.write (o := .lst ys.dropLast) (u := .lst vs.dropLast) ep ⟨_, upd_same, _, rfl, rvs.dropLast⟩ eu
        exact mt_pop pins s σ H (.ref p) [] v us Q I rx rxs ⟨p, vs, w, rfl, rfl, eu, by rw [← RVs.length rvs]; exact ew, q _ _ _ _ ex2 hr2 (rw'.ext ex2)⟩
    · cases eg
  · rename_i n i
    split at eg
    · rename_i ys e1
      obtain ⟨p, ep, ex⟩ := ra
      subst ex
      rw [ints1 rs] at rxs
      obtain ⟨o, eo, ro⟩ := hr.at' ep
      rw [e1] at eo
      cases eo
      obtain ⟨u, eu, vs, eu2, rvs⟩ := ro
      subst eu2
      split at eg
      · rename_i hb
        cases k : seqIndex? i ys.length with
        | none => rw [k] at eg; cases eg
        | some j =>
          rw [k] at eg
          have eg : ((ys[j]?).map fun y => (y, h.set n (.lst (ys.eraseIdx j)))) = some (c, h') := eg
          cases k2 : ys[j]? with
          | none => rw [k2] at eg; cases eg
          | some y =>
            rw [k2] at eg
            cases eg
            obtain ⟨w, ew, rw'⟩ := rvs.nth k2
            obtain ⟨hr2, ex2⟩ := hr.write (o := .lst (ys.eraseIdx j)) (u := .lst (vs.eraseIdx j)) ep ⟨_, upd_same, _, rfl, rvs.erase j⟩ eu
            exact mt_popAt pins s σ H (.ref p) [.int i] v us Q I rx rxs ⟨p, vs, i, j, w, rfl, rfl, eu, hb.1, hb.2, by rw [← RVs.length rvs]; exact k, ew, q _ _ _ _ ex2 hr2 (rw'.ext ex2)⟩
      · cases eg
    · cases eg
  · cases eg
end
end NC
end S3
end
section
set_option Elab.async false
set_option linter.all false
set_option maxRecDepth 100000
set_option maxHeartbeats 4000000
namespace S3
open PySem PySem.Spec PyProof.Rows L2
noncomputable section NC
section
variable {B : Bx} {X : Cx} {W : WX}
/-! ### a op b op c -/
def mChain (g g' : G2) (ma mb mc : ME) : ME := fun s h => (ma s h).bind fun a h1 => (mb s h1).bind fun b h2 => match g a b h2 with
  | some (.bl true) => (mc s h2).bind fun c h3 => ofO (g' b c h3) h3
  | some (.bl false) => .ok (.bl false) h2
  | _ => .stk
theorem chain_imp {g g' : G2} {ma mb mc : ME} {σ : L2.St} {H : Hp} {Q : VK} (h : tm B W (mChain g g' ma mb mc) σ H Q) : tChain (rm2 B g) (rm2 B g') (tm B W ma) (tm B W mb) (tm B W mc) σ H Q := by
  obtain ⟨ρ, F, h, s, sr, hr, p⟩ := h
  refine ⟨ρ, F, h, s, sr, hr, p.andThen fun a h1 ρ1 F1 H1 x _ e1 hr1 ra p1 => ?_⟩
  refine ⟨ρ1, F1, h1, s, sr.ext e1, hr1, p1.andThen fun b h2 ρ2 F2 H2 y _ e2 hr2 rb p2 => ?_⟩
  cases k : g a b h2 with
  | none => rw [k] at p2; exact p2.elim
  | some c =>
    rw [k] at p2
    refine ⟨ρ2, F2, h2, a, b, c, hr2, ra.ext e2, rb, k, fun ρ3 F3 H3 z e3 hr3 rz => ?_⟩
    cases c with
    | bl d =>
      have rz : z = .bl d := rz
      refine ⟨d, rz, ?_⟩
      cases d with
      | false =>
        rw [if_neg (by decide)]
        exact p2 ρ3 F3 H3 (.bl false) e3 hr3 rfl
      | true =>
        rw [if_pos rfl]
        refine ⟨ρ3, F3, h2, s, ((sr.ext e1).ext e2).ext e3, hr3, (Post.ext e3 p2).andThen fun c h4 ρ4 F4 H4 y4 _ e4 hr4 rc p4 => ?_⟩
        obtain ⟨d, ed, q⟩ := ofO_post p4
        exact ⟨ρ4, F4, h4, b, c, d, hr4, (rb.ext e3).ext e4, rc, ed, q⟩
    | _ => exact p2.elim
section
variable {op op' : CmpOp} {g g' : G2} {a b c : Expr} {ma mb mc : ME} {pos : Pos}
theorem se_chain (ho : OpR X (compareOp op) (rm2 B g)) (ho' : OpR X (compareOp op') (rm2 B g')) (ha : SE B X W a ma) (hb : SE B X W b mb) (hc : SE B X W c mc) (hm : lastMarks [op, op'] [b, c] = false := by with_unfolding_all rfl) : SE B X W (.Compare a [op, op'] [b, c] pos) (mChain g g' ma mb mc) :=
  PE.imp (pe_chain ho ho' ha hb hc hm) fun _ _ _ h => chain_imp h
theorem st_chain (ho : OpR X (compareOp op) (rm2 B g)) (ho' : OpR X (compareOp op') (rm2 B g')) (ha : SE B X W a ma) (hb : SE B X W b mb) (hc : SE B X W c mc) (hm : lastMarks [op, op'] [b, c] = false := by with_unfolding_all rfl) : STt B X W (.Compare a [op, op'] [b, c] pos) (mTest (mChain g g' ma mb mc)) :=
  PT.imp (pt_chain ho ho' ha hb hc hm) fun σ H Q h => test_imp (t := tChain (rm2 B g) (rm2 B g') (tm B W ma) (tm B W mb) (tm B W mc)) (fun _ _ _ h => chain_imp h) h
end
/-! ### a, b = x, y -/
def mPar (i j : Nat) (ma : MA) : MS := fun s h => (ma s h).toS s fun as h1 => match as with
  | [v, w] => .nx ((s.set i (some v)).set j (some w)) h1
  | _ => .stk
theorem ss_par {i j : Nat} {x y : Str} {a b : Expr} {ma : MA} {px py pt pt2 pos : Pos} {kt k2 : Nat} (hc : X.calm = true) (hN : X.N.Nodup) (ha : SA B X W [a, b] ma) (hi : X.N[i]? = some x := by rfl) (hj : X.N[j]? = some y := by rfl) (hij : i ≠ j := by decide)
    (hx : X.env.scope.names.lookup x = some .local := by rfl) (hy : X.env.scope.names.lookup y = some .local := by rfl)
    (hw : swappedStores [.Tuple [.Name x px, .Name y py] kt pt] (.Tuple [a, b] k2 pt2) X.env = pure (some [x, y]) := by rfl)
    (hs : swapsWithSole [.Tuple [.Name x px, .Name y py] kt pt] (.Tuple [a, b] k2 pt2) pos.line X.env = pure false := by rfl) :
    SS B X W (.Assign [.Tuple [.Name x px, .Name y py] kt pt] (.Tuple [a, b] k2 pt2) pos) (mPar i j ma) :=
  PS.imp (ps_par hc hN hi hj hij hx hy ha hw hs) fun D σ H ⟨ρ, F, h, s, sr, hr, p⟩ => ⟨ρ, F, h, s, sr, hr, PostS.expr sr p fun as h1 ρ1 F1 H1 xs _ e1 hr1 ra sr1 p1 => by
    split at p1
    · rename_i v w _
      obtain ⟨x, y, rfl, rv, rw'⟩ := ra.two
      exact ⟨x, y, rfl, p1 _ _ _ _ Ext.refl hr1 ((sr1.set rv i).set rw' j)⟩
    · exact p1.elim⟩
/-- three names -/
def tPar3 (i j k : Nat) (ta : TA) : TS := fun D σ H => ta σ H fun vs H1 => ∃ v w z, vs = [v, w, z] ∧ D.nx (((σ.set i (some v)).set j (some w)).set k (some z)) H1
theorem ps_par3 {i j k : Nat} {x y z : Str} {a b c : Expr} {ta : TA} {px py pz pt pt2 pos : Pos} {kt k2 : Nat} (hc : X.calm = true) (hN : X.N.Nodup) (hi : X.N[i]? = some x) (hj : X.N[j]? = some y) (hk : X.N[k]? = some z) (hij : i ≠ j) (hik : i ≠ k) (hjk : j ≠ k)
    (hx : X.env.scope.names.lookup x = some .local) (hy : X.env.scope.names.lookup y = some .local) (hz : X.env.scope.names.lookup z = some .local) (ha : PA X [a, b, c] ta)
    (hw : swappedStores [.Tuple [.Name x px, .Name y py, .Name z pz] kt pt] (.Tuple [a, b, c] k2 pt2) X.env = pure (some [x, y, z]))
    (hs : swapsWithSole [.Tuple [.Name x px, .Name y py, .Name z pz] kt pt] (.Tuple [a, b, c] k2 pt2) pos.line X.env = pure false) :
    PS X (.Assign [.Tuple [.Name x px, .Name y py, .Name z pz] kt pt] (.Tuple [a, b, c] k2 pt2) pos) (tPar3 i j k ta) := by
  refine ⟨fun pins s σ H D I h => ?_⟩
  rw [exec_Assign_arm]
  refine wpAny_bind (wpAny_standAt ?_)
  rw [hs]
  refine wpAny_bind (wpAny_pure ?_)
  rw [if_neg (by decide)]
  refine wpAny_bind (Tuple_ (thn (ha.run _ pins s σ H _ I h) fun us s1 ⟨vs, H1, I1, r1, q1⟩ => ?_))
  obtain ⟨v, w, t, rfl, q1⟩ := q1
  obtain ⟨u1, u2, u3, rfl, rv, rw', rt⟩ : ∃ u1 u2 u3, us = [u1, u2, u3] ∧ RelV v u1 ∧ RelV w u2 ∧ RelV t u3 := by
    cases r1 with
    | cons p q =>
      cases q with
      | cons p' q' =>
        cases q' with
        | cons p2 q2 =>
          cases q2
          exact ⟨_, _, _, rfl, p, p', p2⟩
  refine wpAny_newObj_type ?_ (by show 3 ≤ sizeLine; decide)
  have I2 : Inv X pins σ H1 { s1 with heap := s1.heap.push { cls := .type "tuple", data := .seq [u1, u2, u3].toArray } } := I1.kept (t' := s1.toks) fun b o e => Heap.get?_push_of_some _ e
  rw [hw]
  refine wpAny_bind (wpAny_pure ?_)
  show wpAny (model X.prog X.w) X.A (do rule "assign.swapped-stores"; let items ← unpackItems (.ref s1.heap.objs.size) 3 none; assignInOrder [fun v => bindName X.env z v, fun v => bindName X.env y v, fun v => bindName X.env x v] items.reverse; pure Flow.next) _ _ _
  refine wpAny_bind (wpAny_rule (wpAny_bind (unpackItems_tuple (items := #[u1, u2, u3]) (I.ok.hd hc) (IsTup.new s1.heap _) fun h' hx' => ?_)))
  have I3 := I2.kept (h' := h') (t' := s1.toks) fun b o e => hx' b o (Nat.ne_of_lt (Heap.lt_size e)) e
  show wpAny _ _ (assignInOrder [fun v => bindName X.env z v, fun v => bindName X.env y v, fun v => bindName X.env x v] [u3, u2, u1] >>= fun _ => pure Flow.next) _ _ _
  refine wpAny_bind (assignInOrder_cons (wpAny_bindName (store_ok I3 hN hk (.inl hz) rt (fun s2 I4 => ?_) (.inr hz))))
  refine assignInOrder_cons (wpAny_bindName (store_ok I4 hN hj (.inl hy) rw' (fun s3 I5 => ?_) (.inr hy)))
  refine assignInOrder_cons (wpAny_bindName (store_ok I5 hN hi (.inl hx) rv (fun s4 I6 => assignInOrder_nil (wpAny_pure ?_)) (.inr hx)))
  have e : ((σ.set k (some t)).set j (some w)).set i (some v) = ((σ.set i (some v)).set j (some w)).set k (some t) := by
    rw [List.set_comm _ _ (Ne.symm hij), List.set_comm (some t) (some v) (Ne.symm hik), List.set_comm (some t) (some w) (Ne.symm hjk)]
  rw [e] at I6
  exact ⟨_, H1, I6, q1⟩
def mPar3 (i j k : Nat) (ma : MA) : MS := fun s h => (ma s h).toS s fun as h1 => match as with
  | [v, w, z] => .nx (((s.set i (some v)).set j (some w)).set k (some z)) h1
  | _ => .stk
theorem ss_par3 {i j k : Nat} {x y z : Str} {a b c : Expr} {ma : MA} {px py pz pt pt2 pos : Pos} {kt k2 : Nat} (hc : X.calm = true) (hN : X.N.Nodup) (ha : SA B X W [a, b, c] ma) (hi : X.N[i]? = some x := by rfl) (hj : X.N[j]? = some y := by rfl) (hk : X.N[k]? = some z := by rfl) (hij : i ≠ j := by decide) (hik : i ≠ k := by decide) (hjk : j ≠ k := by decide)
    (hx : X.env.scope.names.lookup x = some .local := by rfl) (hy : X.env.scope.names.lookup y = some .local := by rfl) (hz : X.env.scope.names.lookup z = some .local := by rfl)
    (hw : swappedStores [.Tuple [.Name x px, .Name y py, .Name z pz] kt pt] (.Tuple [a, b, c] k2 pt2) X.env = pure (some [x, y, z]) := by rfl)
    (hs : swapsWithSole [.Tuple [.Name x px, .Name y py, .Name z pz] kt pt] (.Tuple [a, b, c] k2 pt2) pos.line X.env = pure false := by rfl) :
    SS B X W (.Assign [.Tuple [.Name x px, .Name y py, .Name z pz] kt pt] (.Tuple [a, b, c] k2 pt2) pos) (mPar3 i j k ma) :=
  PS.imp (ps_par3 hc hN hi hj hk hij hik hjk hx hy hz ha hw hs) fun D σ H ⟨ρ, F, h, s, sr, hr, p⟩ => ⟨ρ, F, h, s, sr, hr, PostS.expr sr p fun as h1 ρ1 F1 H1 xs _ e1 hr1 ra sr1 p1 => by
    split at p1
    · rename_i v w z _
      obtain ⟨x, ys, rfl, rv, rt⟩ := ra
      obtain ⟨y, zz, rfl, rw', rz⟩ := rt.two
      exact ⟨x, y, zz, rfl, p1 _ _ _ _ Ext.refl hr1 (((sr1.set rv i).set rw' j).set rz k)⟩
    · exact p1.elim⟩
end
end NC
end S3
end
section
set_option Elab.async false
set_option linter.all false
set_option maxRecDepth 100000
set_option maxHeartbeats 4000000
namespace S3
open PySem PySem.Spec PyProof.Rows L2
noncomputable section NC
theorem hu_of64 {k : Nat} {A : Around} (hr : Room k A) : A.units + 64 < cLine := by have := hr.un; omega
theorem hu_of65 {k : Nat} {A : Around} (hr : Room k A) : A.units + 65 < cLine := by have := hr.un; omega
theorem hu_of66 {k : Nat} {A : Around} (hr : Room k A) : A.units + 80 < cLine := by have := hr.un; omega
section
variable {B : Bx} {X : Cx} {W : WX}
theorem sv {i : Nat} {x : Str} {pos : Pos} (hN : X.N[i]? = some x := by rfl) (hv : Vis X.env.scope x := by first | exact .inl rfl | exact .inr (.inl rfl) | exact .inr (.inr rfl)) (hd : (x == ("__debug__" : Str)) = false := by decide) (hcd : (x == ("__classdict__" : Str)) = false := by decide) : SE B X W (.Name x pos) (mVar i) := se_var hN hv hd hcd
theorem sg_nm {i : Nat} {x : Str} {pos : Pos} (hN : X.N.Nodup) (hi : X.N[i]? = some x := by rfl) (hx : Loc X.env.scope x := by first | exact .inl rfl | exact .inr rfl) (hf : X.fn x = true ∨ X.env.scope.names.lookup x = some .local := by first | exact .inl rfl | exact .inr rfl) : SG B X (.Name x pos) [i] (tName i) := sg_name hN hi hx hf
theorem ss_nm {i : Nat} {x : Str} {e : Expr} {m : ME} {pos pos' : Pos} (hN : X.N.Nodup) (he : SE B X W e m) (hi : X.N[i]? = some x := by rfl) (hx : Loc X.env.scope x := by first | exact .inl rfl | exact .inr rfl) (hs : swapsWith e (some (.Name x pos')) pos.line X.env = pure false := by rfl) (hf : X.fn x = true ∨ X.env.scope.names.lookup x = some .local := by first | exact .inl rfl | exact .inr rfl) :
    SS B X W (.Assign [.Name x pos'] e pos) (mAsg m (tName i)) := ss_set hN hi hx he hs hf
theorem ss_augnm {i : Nat} {x : Str} {e : Expr} {m : ME} {op : Operator} {g : G2} {pos pos' : Pos} (hN : X.N.Nodup) (he : SE B X W e m) (ho : OpR X (inplaceOp op) (rm2 B g)) (hi : X.N[i]? = some x := by rfl) (hx : Loc X.env.scope x := by first | exact .inl rfl | exact .inr rfl) (hf : X.fn x = true ∨ X.env.scope.names.lookup x = some .local := by first | exact .inl rfl | exact .inr rfl) :
    SS B X W (.AugAssign (.Name x pos') op e pos) (mAug i g m) := ss_aug hN hi hx he ho hf
theorem sss_forgets (vs : List Nat) : SSs B X W [] (mForget vs) := PSs.imp pss_nil fun D σ H ⟨ρ, F, h, s, sr, hr, p⟩ => p ρ F H σ Ext.refl hr (sr.forget vs)
/-! ### and, or, not as values -/
def mAndE (a b : ME) : ME := fun s h => (a s h).bind fun x h1 => match x with
  | .bl true => b s h1
  | .bl false => .ok (.bl false) h1
  | _ => .stk
def mOrE (a b : ME) : ME := fun s h => (a s h).bind fun x h1 => match x with
  | .bl true => .ok (.bl true) h1
  | .bl false => b s h1
  | _ => .stk
def mNotE (a : ME) : ME := fun s h => (a s h).bind fun x h1 => match x with
  | .bl b => .ok (.bl (!b)) h1
  | _ => .stk
theorem se_one {op : BoolOp} {e : Expr} {m : ME} {pos : Pos} (h : SE B X W e m) : SE B X W (.BoolOp op [e] pos) m := pe_one h
theorem se_and {a b : Expr} {r : List Expr} {m n : ME} {pos : Pos} (ha : SE B X W a m) (hb : SE B X W (.BoolOp .And (b :: r) pos) n) : SE B X W (.BoolOp .And (a :: b :: r) pos) (mAndE m n) :=
  PE.imp (pe_and ha hb) fun σ H Q ⟨ρ, F, h, s, sr, hr, p⟩ => ⟨ρ, F, h, s, sr, hr, p.andThen fun x h1 ρ1 F1 H1 y _ e1 hr1 ra p1 => by
    cases x with
    | bl d =>
      have ra : y = .bl d := ra
      refine ⟨d, ra, ?_⟩
      cases d with
      | true => rw [if_pos rfl]; exact ⟨ρ1, F1, h1, s, sr.ext e1, hr1, p1⟩
      | false => rw [if_neg (by decide)]; exact p1 _ _ _ _ Ext.refl hr1 rfl
    | _ => exact p1.elim⟩
theorem se_or {a b : Expr} {r : List Expr} {m n : ME} {pos : Pos} (ha : SE B X W a m) (hb : SE B X W (.BoolOp .Or (b :: r) pos) n) : SE B X W (.BoolOp .Or (a :: b :: r) pos) (mOrE m n) :=
  PE.imp (pe_or ha hb) fun σ H Q ⟨ρ, F, h, s, sr, hr, p⟩ => ⟨ρ, F, h, s, sr, hr, p.andThen fun x h1 ρ1 F1 H1 y _ e1 hr1 ra p1 => by
    cases x with
    | bl d =>
      have ra : y = .bl d := ra
      refine ⟨d, ra, ?_⟩
      cases d with
      | false => rw [if_neg (by decide)]; exact ⟨ρ1, F1, h1, s, sr.ext e1, hr1, p1⟩
      | true => rw [if_pos rfl]; exact p1 _ _ _ _ Ext.refl hr1 rfl
    | _ => exact p1.elim⟩
theorem se_not {a : Expr} {m : ME} {pos : Pos} (ha : SE B X W a m) : SE B X W (.UnaryOp .Not a pos) (mNotE m) :=
  PE.imp (pe_not ha) fun σ H Q ⟨ρ, F, h, s, sr, hr, p⟩ => ⟨ρ, F, h, s, sr, hr, p.andThen fun x h1 ρ1 F1 H1 y _ e1 hr1 ra p1 => by
    cases x with
    | bl d => exact ⟨d, ra, p1 _ _ _ _ Ext.refl hr1 rfl⟩
    | _ => exact p1.elim⟩
/-! ### list(range(..)), tuple(range(..)) -/
/-- an expression that makes a range, by its parts and how many items it has -/
def PRc (X : Cx) (e : Expr) (t : L2.St → Hp → (Int → Int → Int → Hp → Prop) → Prop) : Prop :=
  ∀ (pins : List (Addr × Obj)) (s : Shared) (σ : L2.St) (H : Hp) (Q : Int → Int → Int → Hp → Prop), Inv X pins σ H s → t σ H Q →
    wpAny (model X.prog X.w) X.A (eval e X.env) (fun x s' => ∃ r a b c t u v H', x = .ref r ∧ IsRange s'.heap r a b c t u v ∧ Inv X pins σ H' s' ∧ Q a b c H') X.xe s
def rgNums : List AV → Option (Int × Int × Int)
  | [.int j] => some (0, j, 1)
  | [.int i, .int j] => some (i, j, 1)
  | [.int i, .int j, .int c] => if c ≠ 0 ∧ c.natAbs < 1073741824 then some (i, j, c) else none
  | _ => none
def tRc (B : Bx) (W : WX) (m : MA) : L2.St → Hp → (Int → Int → Int → Hp → Prop) → Prop := fun σ H Q => tmA B W m σ H fun vs H1 => ∃ ρ F h as i j c, HR B ρ F h H1 ∧ RVs B ρ F as vs ∧ rgNums as = some (i, j, c) ∧ Q i j c H1
theorem rgNums_at {as : List AV} {i j c : Int} (e : rgNums as = some (i, j, c)) : (as = [.int j] ∧ i = 0 ∧ c = 1) ∨ (as = [.int i, .int j] ∧ c = 1) ∨ (as = [.int i, .int j, .int c] ∧ c ≠ 0 ∧ c.natAbs < 1073741824) := by
  unfold rgNums at e
  split at e
  · cases e; exact .inl ⟨rfl, rfl, rfl⟩
  · cases e; exact .inr (.inl ⟨rfl, rfl⟩)
  · split at e
    · rename_i h
      cases e; exact .inr (.inr ⟨rfl, h.1, h.2⟩)
    · cases e
  · cases e
theorem ints_us1 {i : Int} {us : List Value} (r : Vals [.int i] us) : ∃ t, us = [.int i t] := by
  cases r with
  | cons h q =>
    cases q
    obtain ⟨t, rfl⟩ := h
    exact ⟨t, rfl⟩
theorem ints_us2 {i j : Int} {us : List Value} (r : Vals [.int i, .int j] us) : ∃ t u, us = [.int i t, .int j u] := by
  cases r with
  | cons h q =>
    obtain ⟨u, rfl⟩ := ints_us1 q
    obtain ⟨t, rfl⟩ := h
    exact ⟨t, u, rfl⟩
theorem ints_us3 {i j k : Int} {us : List Value} (r : Vals [.int i, .int j, .int k] us) : ∃ t u v, us = [.int i t, .int j u, .int k v] := by
  cases r with
  | cons h q =>
    obtain ⟨u, v, rfl⟩ := ints_us2 q
    obtain ⟨t, rfl⟩ := h
    exact ⟨t, u, v, rfl⟩
theorem prc {e : Expr} {es : List Expr} {p pos : Pos} {m : MA} (hg : Gl X "range") (hm : X.mg "range" = none) (ha : SA B X W (e :: es) m) (hs : starEach (e :: es) X.env = (false, eval e X.env) :: starEach es X.env := by rfl) (hpl : (backTo pos (starEach es X.env)).any (·.1) = false := by rfl) :
    PRc X (.Call (.Name "range" p) (e :: es) [] pos) (tRc B W m) := by
  intro pins s σ H Q I h
  refine Call_ (ld_blt I hg hm boot_range (PyProof.Rows.callWith_type1 (thn (ha.run pos pins s σ H _ I h) fun us s1 ⟨vs, H1, I1, r1, q1⟩ => ?_) hs hpl))
  obtain ⟨ρ, F, h, as, i, j, k, hr, ra, en, q⟩ := q1
  rcases rgNums_at en with ⟨rfl, rfl, rfl⟩ | ⟨rfl, rfl⟩ | ⟨rfl, h1, h2⟩
  · rw [ints1 ra] at r1
    obtain ⟨t, rfl⟩ := ints_us1 r1
    exact call_range_1 ⟨_, 0, j, 1, _, _, _, H1, rfl, IsRange.new _ _ _ _ _ _ _, I1.kept fun b u e => Heap.get?_push_of_some _ e, q⟩
  · rw [ints2 ra] at r1
    obtain ⟨t, u, rfl⟩ := ints_us2 r1
    exact call_range_2 ⟨_, i, j, 1, _, _, _, H1, rfl, IsRange.new _ _ _ _ _ _ _, I1.kept fun b u e => Heap.get?_push_of_some _ e, q⟩
  · rw [ints3 ra] at r1
    obtain ⟨t, u, v, rfl⟩ := ints_us3 r1
    exact call_range_3 h1 ⟨_, i, j, k, _, _, _, H1, rfl, IsRange.new _ _ _ _ _ _ _, I1.kept fun b u e => Heap.get?_push_of_some _ e, q⟩ (.inl (PyProof.noPylong_small h2))
def gRg (mk : List AV → AV) : GL := fun as h => match rgNums as with
  | some (i, j, c) => if RgC i j c (rgN i j c) ∧ rgN i j c ≤ 2 ^ 24 then some (mk (upL i c (rgN i j c))) else none
  | none => none
def upV (lo c : Int) (n : Nat) : List V := (List.range n).map fun (i : Nat) => .int (lo + i * c)
theorem up_at {ρ : List Addr} {F : Hp} (lo c : Int) (n : Nat) : RVs B ρ F (upL lo c n) (upV lo c n) := by
  unfold upL upV
  induction List.range n with
  | nil => exact rfl
  | cons x r ih => exact ⟨_, _, rfl, rfl, ih⟩
theorem vals_up {lo c : Int} {acc : Array Value} {n : Nat} (h : ItemsOf (fun i v => ∃ t, v = .int (lo + i * c) t) acc n) : Vals (upV lo c n) acc.toList := by
  have e : acc.toList.length = n := by rw [Array.length_toList]; exact h.1
  unfold upV
  rw [← e]
  refine vals_of_get acc.toList _ fun j u hj => ?_
  obtain ⟨t, rfl⟩ := h.2 j u (by rw [← hj, Array.getElem?_toList])
  exact ⟨t, rfl⟩
theorem upV_len (lo c : Int) (n : Nat) : (upV lo c n).length = n := by rw [upV, List.length_map, List.length_range]
section
variable {e e1 : Expr} {es : List Expr} {p p1 pos pos1 : Pos} {m : MA}
theorem se_listRg (hc : X.calm = true) (hg : Gl X "range") (hm : X.mg "range" = none) (hgl : Gl X "list") (hml : X.mg "list" = none) (ha : SA B X W (e :: es) m) (hs : starEach (e :: es) X.env = (false, eval e X.env) :: starEach es X.env := by rfl) (hpl : (backTo pos (starEach es X.env)).any (·.1) = false := by rfl)
    (na : starEach [.Call (.Name "range" p) (e :: es) [] pos] X.env = (false, eval (.Call (.Name "range" p) (e :: es) [] pos) X.env) :: starEach [] X.env := by rfl) :
    SE B X W (.Call (.Name "list" p1) [.Call (.Name "range" p) (e :: es) [] pos] [] pos1) (mFn (gRg .lst) m) := by
  refine ⟨fun pins s σ H Q I h => ?_⟩
  obtain ⟨ρ, F, h, s0, sr, hr, pp⟩ := h
  have run := prc (pos := pos) (p := p) hg hm ha hs hpl pins s σ H (fun i j c H1 => RgC i j c (rgN i j c) ∧ rgN i j c ≤ 2 ^ 24 ∧ ∀ q, H1 q = none → Q (.ref q) (upd H1 q (.lst (upV i c (rgN i j c))))) I
    ⟨ρ, F, h, s0, sr, hr, pp.andThen fun as h1 ρ1 F1 H1 vs _ e1 hr1 ra p1 => by
      obtain ⟨cc, ec, q⟩ := ofO_post p1
      unfold gRg at ec
      split at ec
      · rename_i i j c en
        split at ec
        · rename_i ok
          cases ec
          refine ⟨ρ1, F1, h1, as, i, j, c, hr1, ra, en, ok.1, ok.2, fun l hl => ?_⟩
          obtain ⟨hr', ex⟩ := hr1.newF hl (.lst (upV i c (rgN i j c)))
          exact q _ _ _ _ ex hr' ⟨l, _, rfl, upd_same, up_at _ _ _⟩
        · cases ec
      · cases ec⟩
  refine Call_ (ld_blt I hgl hml boot_list (PyProof.Rows.callWith_type1 (args_cons (thn run fun x s1 ⟨r, a, b, c, t, u, v, H1, ex, hrr, I1, ok, oz, q⟩ => args_nil ?_) na) na))
  subst ex
  obtain ⟨c0, c1, c2, c3⟩ := ok
  refine call_list_range (n := rgN a b c) (I1.ok.hd hc) hrr c2 c3 oz fun h' tk acc c' hk e' hi => ?_
  refine ⟨.ref s1.heap.objs.size, upd H1 s1.heap.objs.size (.lst (upV a c (rgN a b c))), I1.laid hk (Nat.le_refl _) (show ObjOk X.prog X.w _ _ _ (.lst (upV a c (rgN a b c))) from ⟨?_, acc.toList, c', vals_up hi, ?_⟩), rfl, q _ (I1.hok.fresh (Nat.le_refl _))⟩
  · rw [upV_len, sizeLine_eq]; omega
  · rw [Array.toArray_toList]; exact e'
theorem se_tupleRg (hc : X.calm = true) (hg : Gl X "range") (hm : X.mg "range" = none) (hgl : Gl X "tuple") (hml : X.mg "tuple" = none) (ha : SA B X W (e :: es) m) (hs : starEach (e :: es) X.env = (false, eval e X.env) :: starEach es X.env := by rfl) (hpl : (backTo pos (starEach es X.env)).any (·.1) = false := by rfl)
    (na : starEach [.Call (.Name "range" p) (e :: es) [] pos] X.env = (false, eval (.Call (.Name "range" p) (e :: es) [] pos) X.env) :: starEach [] X.env := by rfl) :
    SE B X W (.Call (.Name "tuple" p1) [.Call (.Name "range" p) (e :: es) [] pos] [] pos1) (mFn (gRg .tup) m) := by
  refine ⟨fun pins s σ H Q I h => ?_⟩
  obtain ⟨ρ, F, h, s0, sr, hr, pp⟩ := h
  have run := prc (pos := pos) (p := p) hg hm ha hs hpl pins s σ H (fun i j c H1 => RgC i j c (rgN i j c) ∧ rgN i j c ≤ 2 ^ 24 ∧ ∀ q, H1 q = none → Q (.ref q) (upd H1 q (.tup (upV i c (rgN i j c))))) I
    ⟨ρ, F, h, s0, sr, hr, pp.andThen fun as h1 ρ1 F1 H1 vs _ e1 hr1 ra p1 => by
      obtain ⟨cc, ec, q⟩ := ofO_post p1
      unfold gRg at ec
      split at ec
      · rename_i i j c en
        split at ec
        · rename_i ok
          cases ec
          refine ⟨ρ1, F1, h1, as, i, j, c, hr1, ra, en, ok.1, ok.2, fun l hl => ?_⟩
          obtain ⟨hr', ex⟩ := hr1.newF hl (.tup (upV i c (rgN i j c)))
          exact q _ _ _ _ ex hr' ⟨l, _, rfl, upd_same, up_at _ _ _⟩
        · cases ec
      · cases ec⟩
  refine Call_ (ld_blt I hgl hml boot_tuple (PyProof.Rows.callWith_type1 (args_cons (thn run fun x s1 ⟨r, a, b, c, t, u, v, H1, ex, hrr, I1, ok, oz, q⟩ => args_nil ?_) na) na))
  subst ex
  obtain ⟨c0, c1, c2, c3⟩ := ok
  refine call_tuple_range (n := rgN a b c) (I1.ok.hd hc) hrr c2 c3 oz fun h' tk acc hk hi => ?_
  have I2 : Inv X pins σ H1 { s1 with heap := h', toks := tk } := I1.kept hk
  refine ⟨.ref h'.objs.size, upd H1 h'.objs.size (.tup (upV a c (rgN a b c))), I2.laid (t' := tk) (fun c o e => Heap.get?_push_of_some _ e) (Nat.le_refl _) (show ObjOk X.prog X.w _ _ _ (.tup (upV a c (rgN a b c))) from ⟨?_, acc.toList, vals_up hi, ?_⟩), rfl, q _ (I2.hok.fresh (Nat.le_refl _))⟩
  · rw [upV_len, sizeLine_eq]; omega
  · rw [Array.toArray_toList]; exact IsTup.new _ _
end
/-! ### list(x) that will change -/
def mListM (m : MA) : ME := fun s h => (m s h).bind fun as h1 => match as with
  | [a] => match vSq h1 a with
    | some xs => .ok (.ref h1.length) (h1 ++ [.lst xs])
    | none => .stk
  | _ => .stk
theorem se_listM {e : Expr} {es : List Expr} {p pos : Pos} {ma : MA} (hg : Gl X "list") (hm : X.mg "list" = none) (ha : SA B X W (e :: es) ma)
    (he : starEach (e :: es) X.env = (false, eval e X.env) :: starEach es X.env := by rfl) (hpl : (backTo pos (starEach es X.env)).any (·.1) = false := by rfl) (hK : X.K = B.K := by rfl) : SE B X W (.Call (.Name "list" p) (e :: es) [] pos) (mListM ma) :=
  PE.imp (pe_callTy call_list_of hg hm boot_list ha (by decide) (by decide) he hpl) fun σ H Q ⟨ρ, F, h, s, sr, hr, p⟩ => ⟨ρ, F, h, s, sr, hr, p.andThen fun as h1 ρ1 F1 H1 xs _ e1 hr1 ra p1 => by
    split at p1
    · rename_i a _
      split at p1
      · rename_i ys e2
        obtain ⟨v, rfl, rv⟩ := ra.one
        obtain ⟨q, vs, ex, sq, rs⟩ := vSq_at hr1 rv e2
        subst ex
        refine ⟨q, vs, rfl, by rw [hK]; exact sq, fun l hl => ?_⟩
        obtain ⟨hr', ex⟩ := hr1.newM hl (o := .lst ys) (u := .lst vs) ⟨vs, rfl, rs⟩
        exact p1 _ _ _ _ ex hr' ⟨l, by rw [← hr1.len]; exact getElem?_snoc _ _, rfl⟩
      · exact p1.elim
    · exact p1.elim⟩
/-! ### what the text says of an exception class -/
structure ExT (B : Bx) (c : Str) where
  C : Addr
  mg : B.mg c = some (.ref C)
  kp : PySem.W.keepIn B.K (.ref C) = true
  q : PySem.W.excIn B.K C [.type "ValueError", .type "Exception", .type "BaseException", .type "object"] "ValueError.__new__" = true
  bF : PySem.W.subIn B.K (.ref C) (.type "BaseException") = some true
  tF : PySem.W.typeIn B.K (.ref C) = some (.type "type")
theorem ss_raiseX {c m : Str} {j : Nat} {p p2 p3 pos : Pos} (E : ExT B c) (tk : Takes X W) (hc : X.calm = true) (hK : X.K = B.K := by rfl) (hmg : X.mg = B.mg := by rfl) (hg : Gl X c := by rfl) (hdb : (c == ("__debug__" : Str)) = false := by decide) : SS B X W (.Raise (some (.Call (.Name c p) [.Constant (.str m) j p2] [] p3)) none pos) (mRaise c) :=
  ss_raise PySem.F.excBase_ValueError (by rw [hK]; exact E.q) (by rw [hmg]; exact E.mg) (by rw [hK]; exact E.kp) (raises_own (by rw [hK]; exact E.bF) (by rw [hK]; exact E.tF)) hg hc tk E.mg hdb
/-! ### a def whose code object is known -/
structure FunC (K : PySem.W.Frag) (x qual : Str) (st : Stmt) (f : Addr) (fd : FuncData) (c : Addr) : Prop where
  ex : ∃ (oc : Value) (od : Option Addr) (dV kV doc pm : Value) (an : Option Addr) (ct : Value) (osl : Array (Option Value)),
    fd = PySem.W.fnOf x qual (defArgs st) (defBody st) (defScope st) dV kV doc pm an (.ref c) ct ∧ K.lookup f = some ⟨oc, od, .func fd, osl⟩ ∧ PySem.W.codeIn K (.ref c) qual = true
  kp : PySem.W.keepIn K (.ref f) = true
theorem fn_bodyC {P : Program} {w : World} {base : Heap} {k : Nat} {f c : Addr} {fd : FuncData} {ps : List Str} {x qual : Str} {st : Stmt} {N : List Str} {m : MS} (Fu : FunC B.K x qual st f fd c) (S : FnScope N ps (defScope st))
    (hb : ∀ (A : Around) (outer : List Env) (s : Shared) (H : Hp) (E : XK), Room k (A.deeper (envOfC qual (defScope st) s.heap.objs.size f (.ref c))) → SSs B (bodyCx B P w base N qual st f (.ref c) A outer s H E) (fun cls d _ H => E cls d H) (defBody st) m) {nN nP : Nat} (hn : N.length = nN := by decide) (hp : ps.length = nP := by decide) :
    FnP B P w base (k + 1) f fd ps (defSem nN nP m) := by
  subst hn hp
  obtain ⟨oc, od, dV, kV, doc, pm, an, ct, osl, rfl, lk, hcd⟩ := Fu.ex
  refine fn_of lk hcd S (fun vs H Q E ⟨ρ, F, h, as, hr, ra, p⟩ => ?_) (fun A outer s H vs Q E hr ⟨ρ, F, h, as, hR, ra, p⟩ => ⟨_, hb A outer s H E hr, ?_⟩)
  · unfold defSem at p
    split at p
    · rename_i hl
      rw [← RVs.length ra]; exact hl
    · exact p.elim
  · unfold defSem at p
    split at p
    · rename_i hl
      refine ⟨ρ, F, h, _, start_at ra rfl, hR, ?_⟩
      rw [← hl] at p
      exact fin_post p
    · exact p.elim
theorem se_toldX {cl : List (Str × Str)} {vs : List (Value × Str)} (hT : ToldT B cl vs) {x a : Str} {g cg c P : Addr} {k : Nat} {st : Stmt} {fd : FuncData} {Ng : List Str}
    {params : Arguments} {body : Expr} {scope : Scope} {m : ME} {p lpos pos : Pos} (Fu : FunC B.K x x st g fd cg) (hm : B.mg x = some (.ref g)) (hb : L2.Binds B.K fd [a] []) (Sg : FnScope Ng [a] (defScope st)) (hNg : Ng[0]? = some a) (hva : Vis (defScope st) a)
    (hG : LamX.GivesTo X Ng x (defScope st) g (.ref cg) (defBody st) a (X.env.qual ++ "<lambda>") (TMany B.K vs)) (hg : Gl X x)
    (TB : LamX.TabB X.base X.mg c P) (hcode : X.env.code = .ref c) (hmT : (P, X.env.qual ++ "<lambda>") ∈ B.T) (hu : ∀ p ∈ B.T, p.1 = P → p.2 = X.env.qual ++ "<lambda>") (hr : Room (k + 2) X.A) (L : LamX.LamS X.env.scope scope)
    (hbody : ∀ (A : Around) (outer : List Env) (s : Shared) (H : Hp) (E : XK) (f c' : Addr), Room k (A.deeper (LamX.lamEnv X scope s.heap.objs.size f c')) → SE B (LamX.lamCx X A outer s H E scope f c') (fun cls d _ H => E cls d H) body m)
    (hbind : ∀ (q : Str) (cl : List (Str × Addr)) (pm cv ctv : Value), bindArgs (PySem.W.kla_fn "<lambda>" q params body scope cl pm cv ctv) ⟨[], []⟩ = pure []) (hdef : defaultsOf params X.env = ([], []))
    (hK : X.K = B.K := by rfl) (hmg : X.mg = B.mg := by rfl)
    (hdb : (x == ("__debug__" : Str)) = false := by decide) (hd : (a == ("__debug__" : Str)) = false := by decide) (hcd : (a == ("__classdict__" : Str)) = false := by decide) :
    SE B X W (.Call (.Name x p) [.Lambda params body scope lpos] [] pos) (mTold cl m) := by
  obtain ⟨oc, od, dV, kV, doc, pm, an, ct, osl, e1, lk, hcg⟩ := Fu.ex
  subst e1
  exact se_told hT hg (by rw [hmg]; exact hm) (by rw [hK]; exact Fu.kp) (by rw [hK]; exact lk) (by rw [hK]; exact hcg) (by rw [hK]; exact hb) Sg hNg hva hG TB hcode hmT hu hr L hdef hbind hbody hdb hd hcd
end
end NC
end S3
end
section
set_option Elab.async false
set_option linter.all false
set_option maxRecDepth 100000
set_option maxHeartbeats 4000000
namespace S3
open PySem PySem.Spec PyProof.Rows L2
noncomputable section NC
section
variable {B : Bx} {X : Cx} {W : WX}
theorem tk0 {X : Cx} : Takes X noW := L2.takes0
theorem tkL {X : Cx} {A : Around} {outer : List Env} {s : Shared} {H : Hp} {E : XK} {scope : Scope} {f c' : Addr} : Takes (LamX.lamCx X A outer s H E scope f c') (fun cls d _ H => E cls d H) := takes_of rfl rfl rfl rfl
theorem funC_of {K : PySem.W.Frag} {d : He.DefD} {x qual : Str} {st : Stmt} {fd : FuncData} (F : FunD K x qual (defArgs st) (defBody st) (defScope st) [] [] (He.fAd K d.at_) fd) : FunC K x qual st (He.fAd K d.at_) fd (He.codeOf K d.at_) := by
  obtain ⟨oc, od, dV, kV, doc, pm, an, cdv, ct, osl, rfl, lk, hcd, _, _⟩ := F.ex
  obtain ⟨c, rfl⟩ := He.codeIn_ref hcd
  have e := He.codeOf_eq lk (c := c) rfl
  rw [e]
  exact ⟨⟨oc, od, dV, kV, doc, pm, an, ct, osl, rfl, lk, hcd⟩, F.kp⟩
theorem exT_of {K : PySem.W.Frag} {h : Heap} {mg : Str → Option Value} {T : List (Addr × Str)} {G : List Addr} {c : Str} (X : K.In h) (Gm : h.Ns mainGlobals mg) (g : (He.Fa.glo c).ok K = true) (e : (He.Fa.exc c).ok K = true) : ∃ E : ExT ⟨K, mg, T, G⟩ c, E.C = He.ga K c := by
  obtain ⟨e1, e2, e3, e4⟩ := He.exc_ok e
  exact ⟨⟨He.ga K c, He.glo_ok X Gm g, e2, e1, e3, e4⟩, rfl⟩
/-- the law is called with the script, nothing else being tracked but the tables -/
theorem law_start {g : Fn} {a : Addr} {ns : List Int} {H : Hp} (hT : ∀ p ∈ B.T, H p.1 = some (.tbl #[])) (hS : SqL B.K H a (ns.map V.int)) {h' : AH} (e : g [.rdl (ns.map AV.int)] [] = .ok (.bl true) h') : spF B g [.ref a] H (fun v _ => v = .bl true) fun _ _ _ => False := by
  have hI : ∀ (ρ : List Addr) (F : Hp) (ns : List Int), RVs B ρ F (ns.map AV.int) (ns.map V.int) := fun ρ F ns => by
    induction ns with
    | nil => exact rfl
    | cons n r ih => exact ⟨_, _, rfl, rfl, ih⟩
  have key : ∀ F : Hp, (∀ p u, F p = some u → H p = some u) → (∀ p ps, F p ≠ some (.tbl ps)) → SqL B.K F a (ns.map V.int) → spF B g [.ref a] H (fun v _ => v = .bl true) fun _ _ _ => False := fun F hs hn hq => by
    refine ⟨[], F, [], [.rdl (ns.map AV.int)], ⟨hs, rfl, .nil, fun p m => by simp at m, fun i p o e1 e2 => by simp at e2, fun p hp => LamX.TabS.nil (hT p hp), hn⟩, ⟨_, [], rfl, ⟨a, _, rfl, hq, hI _ _ _⟩, rfl⟩, ?_⟩
    rw [e]
    exact fun _ _ _ _ _ _ r => r
  rcases hS with (h | ⟨o, h⟩) | h
  · refine key (fun b => if b = a then some (.lst (ns.map V.int)) else none) (fun p u e => ?_) (fun p ps e => ?_) (.inl (.inl (if_pos rfl)))
    · by_cases hp : p = a
      · rw [if_pos hp] at e
        rw [hp, h]; exact e
      · rw [if_neg hp] at e; cases e
    · by_cases hp : p = a
      · rw [if_pos hp] at e; cases e
      · rw [if_neg hp] at e; cases e
  · refine key (fun b => if b = a then some (.frz o (.lst (ns.map V.int))) else none) (fun p u e => ?_) (fun p ps e => ?_) (.inl (.inr ⟨o, if_pos rfl⟩))
    · by_cases hp : p = a
      · rw [if_pos hp] at e
        rw [hp, h]; exact e
      · rw [if_neg hp] at e; cases e
    · by_cases hp : p = a
      · rw [if_pos hp] at e; cases e
      · rw [if_neg hp] at e; cases e
  · exact key (fun _ => none) (fun _ _ e => by cases e) (fun _ _ e => by cases e) (.inr h)
end
end NC
end S3
namespace S3
open PySem PySem.Spec PyProof.Rows L2
noncomputable section NC
theorem clsF_of {B : Bx} {c : Str} {C : Addr} {fs : List Str} (g : B.mg c = some (.ref C)) (k : Cls B.K C) (n : ∀ f, f ∈ fs → NoAttr B.K C f) : ClsF B c fs :=
  ⟨fun C' e => by rw [g] at e; cases e; exact k, fun C' e f hf => by rw [g] at e; cases e; exact n f hf⟩
theorem tabs_uniq {T : List (Addr × Str)} (h : (T.map (·.1)).Nodup) : ∀ (P : Addr) (q : Str), (P, q) ∈ T → ∀ p ∈ T, p.1 = P → p.2 = q := by
  induction T with
  | nil => intro P q hm; cases hm
  | cons t r ih =>
    rw [List.map_cons, List.nodup_cons] at h
    intro P q hm p hp e
    rcases List.mem_cons.mp hm with e1 | h1
    · rcases List.mem_cons.mp hp with e2 | h2
      · rw [e2, ← e1]
      · exact absurd (List.mem_map_of_mem (f := (·.1)) h2) (by rw [e, ← congrArg (·.1) e1] at *; exact h.1)
    · rcases List.mem_cons.mp hp with e2 | h2
      · exact absurd (List.mem_map_of_mem (f := (·.1)) h1) (by show P ∉ _; rw [← e, e2]; exact h.1)
      · exact ih h.2 P q h1 p h2 e
theorem toldT_of {B : Bx} {cl : List (Str × Str)} {vs : List (Value × Str)} {ga : Str → Addr} (e : vs = cl.map fun p => (.ref (ga p.1), p.2)) (g : ∀ c, c ∈ cl.map (·.1) → B.mg c = some (.ref (ga c)))
    (x : ∀ c e, c ∈ cl.map (·.1) → e ∈ cl.map (·.1) → PySem.W.exmOne B.K (.ref (ga c)) (.ref (ga e)) = some (decide (c = e))) : ToldT B cl vs := by
  subst e
  refine ⟨by rw [List.map_map]; rfl, fun i c r hi => ⟨ga c, g c (List.mem_map_of_mem (f := (·.1)) (List.mem_of_getElem? hi)), by rw [List.getElem?_map, hi]; rfl⟩, fun c e hc he C CS h1 h2 => ?_⟩
  rw [g c hc] at h1
  rw [g e he] at h2
  cases h1
  cases h2
  exact x c e hc he
end NC
end S3
end
section
set_option Elab.async false
set_option linter.all false
set_option maxRecDepth 100000
set_option maxHeartbeats 4000000
namespace S3
open PySem PySem.Spec PyProof.Rows L2
noncomputable section NC
/-! ### expressions that only look: in any surroundings -/
/-- what is known where such an expression stands -/
structure QS (X : Cx) (cenv : Env) (A' : Around) (σ : L2.St) (H : Hp) (s : Shared) : Prop where
  hd : A'.handled = none
  un : A'.units + 100 < cLine
  hok : HOk X.prog X.w H s.heap
  bk : ∀ b o, X.base.get? b = some o → s.heap.get? b = some o
  mod : Mod X.K X.mg X.base
  kind : cenv.scope.kind = .function
  glob : cenv.globals = mainGlobals
  blt : cenv.builtins = builtinsNs
  loc : ∃ m, s.heap.Ns cenv.locals m ∧ ∀ (i : Nat) (x : Str) (v : V), X.N[i]? = some x → σ[i]? = some (some v) → Vis cenv.scope x → ∃ u, RelV v u ∧ Look cenv s.heap m x u
theorem keeps_trans {s s' s2 : Shared} (a : Keeps s s') (b : Keeps s' s2) : Keeps s s2 := by
  obtain ⟨h1, t1, rfl, k1⟩ := a
  obtain ⟨h2, t2, rfl, k2⟩ := b
  exact ⟨h2, t2, rfl, fun b o e => k2 b o (k1 b o e)⟩
theorem QS.keeps {X : Cx} {cenv : Env} {A' : Around} {σ : L2.St} {H : Hp} {s s' : Shared} (q : QS X cenv A' σ H s) (k : Keeps s s') : QS X cenv A' σ H s' := by
  obtain ⟨h', tk, rfl, k⟩ := k
  obtain ⟨m, hn, hl⟩ := q.loc
  refine ⟨q.hd, q.un, q.hok.kept k, fun b o e => k _ _ (q.bk b o e), q.mod, q.kind, q.glob, q.blt, m, hn.keeps k, fun i x v e1 e2 e3 => ?_⟩
  obtain ⟨u, r, l⟩ := hl i x v e1 e2 e3
  refine ⟨u, r, ?_⟩
  rcases l with l | ⟨l, c, hc, o, ho, hd⟩
  · exact .inl l
  · exact .inr ⟨l, c, hc, o, k _ _ ho, hd⟩
abbrev QE := Sl → AH → Option AV
abbrev QT := Sl → AH → Option Bool
abbrev QA := Sl → AH → Option (List AV)
def QV (B : Bx) (ρ : List Addr) (F : Hp) (a : AV) (y : Value) : Prop := ∃ v, RelV v y ∧ RV B ρ F a v
section
variable (B : Bx) (X : Cx) (sc : Scope)
def SQ (e : Expr) (q : QE) : Prop := ∀ (cenv : Env) (A' : Around) (E' : Value → Shared → Prop) (s : Shared) (ρ : List Addr) (F : Hp) (h : AH) (H : Hp) (sl : Sl) (σ : L2.St) (a : AV), cenv.scope = sc → QS X cenv A' σ H s → HR B ρ F h H → SR B ρ F sl σ → q sl h = some a →
  wpAny (model X.prog X.w) A' (eval e cenv) (fun y s' => QV B ρ F a y ∧ Keeps s s') E' s
def SQT (e : Expr) (q : QT) : Prop := ∀ (cenv : Env) (A' : Around) (E' : Value → Shared → Prop) (s : Shared) (ρ : List Addr) (F : Hp) (h : AH) (H : Hp) (sl : Sl) (σ : L2.St) (a : Bool), cenv.scope = sc → QS X cenv A' σ H s → HR B ρ F h H → SR B ρ F sl σ → q sl h = some a →
  wpAny (model X.prog X.w) A' (isTrue e cenv (eval e cenv)) (fun y s' => y = a ∧ Keeps s s') E' s
def SQW (e : Expr) (q : QT) : Prop := ∀ (wh : Sem Value) (cenv : Env) (A' : Around) (E' : Value → Shared → Prop) (s : Shared) (ρ : List Addr) (F : Hp) (h : AH) (H : Hp) (sl : Sl) (σ : L2.St) (a : Bool), cenv.scope = sc → QS X cenv A' σ H s → HR B ρ F h H → SR B ρ F sl σ → q sl h = some a →
  wpAny (model X.prog X.w) A' (isTrue e cenv wh) (fun y s' => y = a ∧ Keeps s s') E' s
def OpQ (f : Value → Value → Sem Value) (g : G2) : Prop := ∀ (A' : Around) (E' : Value → Shared → Prop) (s : Shared) (ρ : List Addr) (F : Hp) (h : AH) (H : Hp) (a b c : AV) (v u : Value), A'.handled = none → A'.units + 100 < cLine → HOk X.prog X.w H s.heap → X.K.In s.heap → HR B ρ F h H → QV B ρ F a v → QV B ρ F b u → g a b h = some c →
  wpAny (model X.prog X.w) A' (f v u) (fun y s' => QV B ρ F c y ∧ Keeps s s') E' s
end
section
variable {B : Bx} {X : Cx} {sc : Scope}
def qVar (i : Nat) : QE := fun s _ => (s[i]?).join
def qC (a : AV) : QE := fun _ _ => some a
def qBin (g : G2) (a b : QE) : QE := fun s h => (a s h).bind fun x => (b s h).bind fun y => g x y h
def qTest (a : QE) : QT := fun s h => (a s h).bind fun x => match x with
  | .bl b => some b
  | _ => none
def qAnd (a b : QT) : QT := fun s h => (a s h).bind fun x => if x = true then b s h else some false
def qOr (a b : QT) : QT := fun s h => (a s h).bind fun x => if x = true then some true else b s h
def qNot (a : QT) : QT := fun s h => (a s h).map fun x => !x
def qIf (c : QT) (a b : QE) : QE := fun s h => (c s h).bind fun x => if x = true then a s h else b s h
def qUn (g : G1) (a : QE) : QE := fun s h => (a s h).bind fun x => g x h
def qChain (g g' : G2) (a b c : QE) : QE := fun s h => (a s h).bind fun x => (b s h).bind fun y => match g x y h with
  | some (.bl true) => (c s h).bind fun z => g' y z h
  | some (.bl false) => some (.bl false)
  | _ => none
theorem QS.kin {cenv : Env} {A' : Around} {σ : L2.St} {H : Hp} {s : Shared} (q : QS X cenv A' σ H s) : X.K.In s.heap := q.mod.kin.keeps q.bk
theorem sq_var {i : Nat} {x : Str} {pos : Pos} (hN : X.N[i]? = some x := by rfl) (hv : Vis sc x := by first | exact .inl rfl | exact .inr (.inl rfl) | exact .inr (.inr rfl)) (hd : (x == ("__debug__" : Str)) = false := by decide) (hcd : (x == ("__classdict__" : Str)) = false := by decide) : SQ B X sc (.Name x pos) (qVar i) := by
  intro cenv A' E' s ρ F h H sl σ a es q hr sr e
  have e : (sl[i]?).join = some a := e
  have e1 : sl[i]? = some (some a) := by
    cases k : sl[i]? with
    | none => rw [k] at e; cases e
    | some o => rw [k] at e; cases o with
      | none => cases e
      | some b => cases e; rfl
  obtain ⟨v, ev, rv⟩ := sr.2 i a e1
  obtain ⟨m, hn, hl⟩ := q.loc
  obtain ⟨u, r, l⟩ := hl i x v hN ev (by rw [es]; exact hv)
  have fin : QV B ρ F a u ∧ Keeps s s := ⟨⟨v, r, rv⟩, GxR.keeps_refl s⟩
  rcases l with ⟨hk, hm⟩ | ⟨hk, c, hc, hcell⟩
  · exact wpAny_Name (wpAny_loadName_local q.kind hk hn hm fin) hd
  · rcases hk with hk | hk
    · exact wpAny_Name (wpAny_loadName_cell q.kind hk hc hcell fin) hd
    · exact wpAny_Name (wpAny_loadName_free q.kind hk hc hcell fin hcd) hd
theorem sq_bin {op : Operator} {g : G2} {a b : Expr} {qa qb : QE} {pos : Pos} (ho : OpQ B X (binaryOp op) g) (ha : SQ B X sc a qa) (hb : SQ B X sc b qb) : SQ B X sc (.BinOp a op b pos) (qBin g qa qb) := by
  intro cenv A' E' s ρ F h H sl σ c es q hr sr e
  have e : ((qa sl h).bind fun x => (qb sl h).bind fun y => g x y h) = some c := e
  obtain ⟨x, e1, e⟩ := Option.bind_eq_some_iff.mp e
  obtain ⟨y, e2, e⟩ := Option.bind_eq_some_iff.mp e
  refine wpAny_BinOp (thn (ha cenv A' _ s ρ F h H sl σ x es q hr sr e1) fun v s1 ⟨r1, k1⟩ => thn (hb cenv A' _ s1 ρ F h H sl σ y es (q.keeps k1) hr sr e2) fun u s2 ⟨r2, k2⟩ => ?_)
  have q2 := (q.keeps k1).keeps k2
  exact thn (ho A' _ s2 ρ F h H x y c v u q2.hd q2.un q2.hok q2.kin hr r1 r2 e) fun w s3 ⟨r3, k3⟩ => ⟨r3, keeps_trans (keeps_trans k1 k2) k3⟩
theorem qv_int {ρ : List Addr} {F : Hp} {i : Int} {y : Value} (h : QV B ρ F (.int i) y) : ∃ t, y = .int i t := by
  obtain ⟨v, r, e⟩ := h
  have e : v = .int i := e
  subst e
  exact r
theorem int_qv {ρ : List Addr} {F : Hp} {i : Int} {t : Tok} : QV B ρ F (.int i) (.int i t) := ⟨.int i, ⟨t, rfl⟩, rfl⟩
theorem bl_qv {ρ : List Addr} {F : Hp} {b : Bool} : QV B ρ F (.bl b) (.bool b) := ⟨.bl b, rfl, rfl⟩
theorem sq_int {i : Int} {j : Nat} {pos : Pos} : SQ B X sc (.Constant (.int i) j pos) (qC (.int i)) := fun cenv A' E' s ρ F h H sl σ c es q hr sr e => by
  cases e
  exact wpAny_Constant_int ⟨int_qv, GxR.keeps_tok s _⟩
theorem sq_str {i : Str} {j : Nat} {pos : Pos} : SQ B X sc (.Constant (.str i) j pos) (qC (.str i)) := fun cenv A' E' s ρ F h H sl σ c es q hr sr e => by
  cases e
  exact Calls.Constant_str ⟨⟨.str i, ⟨_, rfl⟩, rfl⟩, GxR.keeps_tok s _⟩
theorem oq_I {f : Value → Value → Sem Value} {C : Int → Int → Prop} [∀ i j, Decidable (C i j)] {g : Int → Int → Int}
    (rule : ∀ (A' : Around) (i j : Int) (t u : Tok) (s : Shared) (Q : Value → Shared → Prop) (E : Value → Shared → Prop), C i j → Q (.int (g i j) s.toks) { s with toks := s.toks + 1 } → wpAny (model X.prog X.w) A' (f (.int i t) (.int j u)) Q E s) : OpQ B X f (gI2 C fun i j => .int (g i j)) := by
  intro A' E' s ρ F h H a b c v u hd un hok kin hr ra rb e
  unfold gI2 at e
  split at e
  · split at e
    · cases e
      obtain ⟨t, rfl⟩ := qv_int ra
      obtain ⟨t', rfl⟩ := qv_int rb
      exact rule A' _ _ _ _ s _ _ (by assumption) ⟨int_qv, GxR.keeps_tok s _⟩
    · cases e
  · cases e
theorem oq_gSub : OpQ B X (binaryOp .Sub) gSub := oq_I fun _ _ _ _ _ _ _ _ _ q => sub_int q
theorem oq_gMul : OpQ B X (binaryOp .Mult) gMul := oq_I fun _ _ _ _ _ _ _ _ hc q => mul_int q hc.ok
theorem oq_gDiv : OpQ B X (binaryOp .FloorDiv) gDiv := oq_I fun _ i j _ _ _ _ _ hc q => by
  have h1 : (0 : Int) < j := hc.1
  have h2 : j < 1073741824 := hc.2
  exact floordiv_int (by omega) (by rw [Int.fdiv_eq_ediv_of_nonneg i (by omega)]; exact q) (.inl (PyProof.noPylong_small (by omega)))
theorem oq_gMod : OpQ B X (binaryOp .Mod) gMod := oq_I fun _ i j _ _ _ _ _ hc q => by
  have h1 : (0 : Int) < j := hc
  exact mod_int' (by omega) (by rw [Int.fmod_eq_emod_of_nonneg i (by omega)]; exact q)
/-- ints alone -/
abbrev gAddQ : G2 := gI2 (fun _ _ => True) fun i j => .int (i + j)
theorem oq_gAdd : OpQ B X (binaryOp .Add) gAddQ := oq_I fun _ _ _ _ _ _ _ _ _ q => add_int q
def gCmpQ (p : Int → Int → Bool) : G2 := fun a b _ => match a, b with
  | .int i, .int j => some (.bl (p i j))
  | _, _ => none
theorem oq_cmp {f : Value → Value → Sem Value} {p : Int → Int → Bool}
    (rule : ∀ (A' : Around) (i j : Int) (t u : Tok) (s : Shared) (Q : Value → Shared → Prop) (E : Value → Shared → Prop), Q (.bool (p i j)) s → wpAny (model X.prog X.w) A' (f (.int i t) (.int j u)) Q E s) : OpQ B X f (gCmpQ p) := by
  intro A' E' s ρ F h H a b c v u hd un hok kin hr ra rb e
  unfold gCmpQ at e
  split at e
  · cases e
    obtain ⟨t, rfl⟩ := qv_int ra
    obtain ⟨t', rfl⟩ := qv_int rb
    exact rule A' _ _ _ _ s _ _ ⟨bl_qv, GxR.keeps_refl s⟩
  · cases e
abbrev gLtQ : G2 := gCmpQ fun i j => decide (i < j)
abbrev gLeQ : G2 := gCmpQ fun i j => decide (i ≤ j)
abbrev gGtQ : G2 := gCmpQ fun i j => decide (j < i)
abbrev gGeQ : G2 := gCmpQ fun i j => decide (j ≤ i)
theorem oq_gLt : OpQ B X (compareOp .Lt) gLtQ := oq_cmp fun _ _ _ _ _ _ _ _ q => lt_int q
theorem oq_gLe : OpQ B X (compareOp .LtE) gLeQ := oq_cmp fun _ _ _ _ _ _ _ _ q => le_int q
theorem oq_gGt : OpQ B X (compareOp .Gt) gGtQ := oq_cmp fun _ _ _ _ _ _ _ _ q => gt_int q
theorem oq_gGe : OpQ B X (compareOp .GtE) gGeQ := oq_cmp fun _ _ _ _ _ _ _ _ q => ge_int q
theorem sq_cmp {op : CmpOp} {g : G2} {a b : Expr} {qa qb : QE} {pos : Pos} (ho : OpQ B X (compareOp op) g) (ha : SQ B X sc a qa) (hb : SQ B X sc b qb) (hm : behindInMarks op b = false := by first | exact nomark _ | rfl) : SQ B X sc (.Compare a [op] [b] pos) (qBin g qa qb) := by
  intro cenv A' E' s ρ F h H sl σ c es q hr sr e
  have e : ((qa sl h).bind fun x => (qb sl h).bind fun y => g x y h) = some c := e
  obtain ⟨x, e1, e⟩ := Option.bind_eq_some_iff.mp e
  obtain ⟨y, e2, e⟩ := Option.bind_eq_some_iff.mp e
  refine wpAny_Compare1 (thn (ha cenv A' _ s ρ F h H sl σ x es q hr sr e1) fun v s1 ⟨r1, k1⟩ => thn (hb cenv A' _ s1 ρ F h H sl σ y es (q.keeps k1) hr sr e2) fun u s2 ⟨r2, k2⟩ => ?_) hm
  have q2 := (q.keeps k1).keeps k2
  exact thn (ho A' _ s2 ρ F h H x y c v u q2.hd q2.un q2.hok q2.kin hr r1 r2 e) fun w s3 ⟨r3, k3⟩ => ⟨r3, keeps_trans (keeps_trans k1 k2) k3⟩
theorem qv_bl {ρ : List Addr} {F : Hp} {b : Bool} {y : Value} (h : QV B ρ F (.bl b) y) : y = .bool b := by
  obtain ⟨v, r, e⟩ := h
  have e : v = .bl b := e
  subst e
  exact r
theorem qTest_at {a : QE} {s : Sl} {h : AH} {b : Bool} (e : qTest a s h = some b) : a s h = some (.bl b) := by
  have e : ((a s h).bind fun x => match x with
    | .bl b => some b
    | _ => none) = some b := e
  obtain ⟨x, e1, e⟩ := Option.bind_eq_some_iff.mp e
  split at e
  · cases e; exact e1
  · cases e
theorem sqt_val {e : Expr} {q : QE} (h : SQ B X sc e q) (he : ∀ env whole, isTrue e env whole = (do let v ← whole; standAt e.pos; holding [v] (truthy v)) := by intro _ _; rfl) : SQT B X sc e (qTest q) := by
  intro cenv A' E' s ρ F h' H sl σ c es qs hr sr ev
  refine isTrue_plain (thn (h cenv A' _ s ρ F h' H sl σ _ es qs hr sr (qTest_at ev)) fun v s1 ⟨r1, k1⟩ => ?_) (he _ _)
  rw [qv_bl r1]
  exact wpAny_truthy_bool ⟨rfl, k1⟩
theorem sqt_cmp {op : CmpOp} {g : G2} {a b : Expr} {qa qb : QE} {pos : Pos} (ho : OpQ B X (compareOp op) g) (ha : SQ B X sc a qa) (hb : SQ B X sc b qb) (hm : behindInMarks op b = false := by first | exact nomark _ | rfl) : SQT B X sc (.Compare a [op] [b] pos) (qTest (qBin g qa qb)) := by
  intro cenv A' E' s ρ F h H sl σ c es q hr sr e
  have e : ((qa sl h).bind fun x => (qb sl h).bind fun y => g x y h) = some (.bl c) := qTest_at e
  obtain ⟨x, e1, e⟩ := Option.bind_eq_some_iff.mp e
  obtain ⟨y, e2, e⟩ := Option.bind_eq_some_iff.mp e
  refine wpAny_isTrue_Compare1 (thn (ha cenv A' _ s ρ F h H sl σ x es q hr sr e1) fun v s1 ⟨r1, k1⟩ => thn (hb cenv A' _ s1 ρ F h H sl σ y es (q.keeps k1) hr sr e2) fun u s2 ⟨r2, k2⟩ => ?_) hm
  have q2 := (q.keeps k1).keeps k2
  refine thn (ho A' _ s2 ρ F h H x y _ v u q2.hd q2.un q2.hok q2.kin hr r1 r2 e) fun w s3 ⟨r3, k3⟩ => ?_
  rw [qv_bl r3]
  exact wpAny_truthy_bool ⟨rfl, keeps_trans (keeps_trans k1 k2) k3⟩
theorem qChain_at {g g' : G2} {a b c : QE} {s : Sl} {h : AH} {d : AV} (e : qChain g g' a b c s h = some d) : ∃ x y k, a s h = some x ∧ b s h = some y ∧ g x y h = some (.bl k) ∧ (k = false → d = .bl false) ∧ (k = true → ∃ z, c s h = some z ∧ g' y z h = some d) := by
  have e : ((a s h).bind fun x => (b s h).bind fun y => match g x y h with
    | some (.bl true) => (c s h).bind fun z => g' y z h
    | some (.bl false) => some (.bl false)
    | _ => none) = some d := e
  obtain ⟨x, e1, e⟩ := Option.bind_eq_some_iff.mp e
  obtain ⟨y, e2, e⟩ := Option.bind_eq_some_iff.mp e
  split at e
  · rename_i k
    obtain ⟨z, e3, e⟩ := Option.bind_eq_some_iff.mp e
    exact ⟨x, y, true, e1, e2, k, (fun z => nomatch z), fun _ => ⟨z, e3, e⟩⟩
  · rename_i k
    cases e
    exact ⟨x, y, false, e1, e2, k, (fun _ => rfl), (fun z => nomatch z)⟩
  · cases e
theorem sqt_chain {op op' : CmpOp} {g g' : G2} {a b c : Expr} {qa qb qc : QE} {pos : Pos} (ho : OpQ B X (compareOp op) g) (ho' : OpQ B X (compareOp op') g') (ha : SQ B X sc a qa) (hb : SQ B X sc b qb) (hc : SQ B X sc c qc) (hm : lastMarks [op, op'] [b, c] = false := by with_unfolding_all rfl) : SQT B X sc (.Compare a [op, op'] [b, c] pos) (qTest (qChain g g' qa qb qc)) := by
  intro cenv A' E' s ρ F h H sl σ d es q hr sr e
  obtain ⟨x, y, k, e1, e2, e3, e4, e5⟩ := qChain_at (qTest_at e)
  refine isTrue_chain (thn (ha cenv A' _ s ρ F h H sl σ x es q hr sr e1) fun v s1 ⟨r1, k1⟩ => test_link (thn (hb cenv A' _ s1 ρ F h H sl σ y es (q.keeps k1) hr sr e2) fun u s2 ⟨r2, k2⟩ => ?_)) hm
  have q2 := (q.keeps k1).keeps k2
  refine thn (ho A' _ s2 ρ F h H x y _ v u q2.hd q2.un q2.hok q2.kin hr r1 r2 e3) fun w s3 ⟨r3, k3⟩ => ?_
  rw [qv_bl r3]
  refine wpAny_truthy_bool ?_
  have k123 := keeps_trans (keeps_trans k1 k2) k3
  cases k with
  | false =>
    have := e4 rfl
    cases this
    exact ite_ff ⟨rfl, k123⟩
  | true =>
    obtain ⟨z, e6, e7⟩ := e5 rfl
    have q3 := q2.keeps k3
    refine ite_tt (test_last (thn (hc cenv A' _ s3 ρ F h H sl σ z es q3 hr sr e6) fun w' s4 ⟨r4, k4⟩ => ?_))
    have q4 := q3.keeps k4
    refine thn (ho' A' _ s4 ρ F h H y z _ u w' q4.hd q4.un q4.hok q4.kin hr r2 r4 e7) fun w2 s5 ⟨r5, k5⟩ => ?_
    rw [qv_bl r5]
    exact wpAny_truthy_bool ⟨rfl, keeps_trans (keeps_trans k123 k4) k5⟩
theorem sq_chain {op op' : CmpOp} {g g' : G2} {a b c : Expr} {qa qb qc : QE} {pos : Pos} (ho : OpQ B X (compareOp op) g) (ho' : OpQ B X (compareOp op') g') (ha : SQ B X sc a qa) (hb : SQ B X sc b qb) (hc : SQ B X sc c qc) (hm : lastMarks [op, op'] [b, c] = false := by with_unfolding_all rfl) : SQ B X sc (.Compare a [op, op'] [b, c] pos) (qChain g g' qa qb qc) := by
  intro cenv A' E' s ρ F h H sl σ d es q hr sr e
  obtain ⟨x, y, k, e1, e2, e3, e4, e5⟩ := qChain_at e
  refine Compare_chain (thn (ha cenv A' _ s ρ F h H sl σ x es q hr sr e1) fun v s1 ⟨r1, k1⟩ => chain_link (thn (hb cenv A' _ s1 ρ F h H sl σ y es (q.keeps k1) hr sr e2) fun u s2 ⟨r2, k2⟩ => ?_)) hm
  have q2 := (q.keeps k1).keeps k2
  refine thn (ho A' _ s2 ρ F h H x y _ v u q2.hd q2.un q2.hok q2.kin hr r1 r2 e3) fun w s3 ⟨r3, k3⟩ => ?_
  rw [qv_bl r3]
  refine wpAny_truthy_bool ?_
  have k123 := keeps_trans (keeps_trans k1 k2) k3
  cases k with
  | false =>
    rw [e4 rfl]
    exact ite_ff ⟨bl_qv, k123⟩
  | true =>
    obtain ⟨z, e6, e7⟩ := e5 rfl
    have q3 := q2.keeps k3
    refine ite_tt (chain_last (thn (hc cenv A' _ s3 ρ F h H sl σ z es q3 hr sr e6) fun w' s4 ⟨r4, k4⟩ => ?_))
    have q4 := q3.keeps k4
    exact thn (ho' A' _ s4 ρ F h H y z d u w' q4.hd q4.un q4.hok q4.kin hr r2 r4 e7) fun w2 s5 ⟨r5, k5⟩ => ⟨r5, keeps_trans (keeps_trans k123 k4) k5⟩
theorem sqw_and1 {a : Expr} {q : QT} {pos : Pos} (ha : SQT B X sc a q) : SQW B X sc (.BoolOp .And [a] pos) q := by
  intro wh cenv A' E' s ρ F h H sl σ d es qs hr sr e
  refine isTrue_and (thn (ha cenv A' _ s ρ F h H sl σ d es qs hr sr e) fun c s1 ⟨r, k⟩ => ?_)
  subst r
  cases c with
  | true => exact isTrue_and_nil ⟨rfl, k⟩
  | false => exact ⟨rfl, k⟩
theorem sqw_or1 {a : Expr} {q : QT} {pos : Pos} (ha : SQT B X sc a q) : SQW B X sc (.BoolOp .Or [a] pos) q := by
  intro wh cenv A' E' s ρ F h H sl σ d es qs hr sr e
  refine isTrue_or (thn (ha cenv A' _ s ρ F h H sl σ d es qs hr sr e) fun c s1 ⟨r, k⟩ => ?_)
  subst r
  cases c with
  | true => exact ⟨rfl, k⟩
  | false => exact isTrue_or_nil ⟨rfl, k⟩
theorem sqw_and {a b : Expr} {r : List Expr} {p q : QT} {pos : Pos} (ha : SQT B X sc a p) (hb : SQW B X sc (.BoolOp .And (b :: r) pos) q) : SQW B X sc (.BoolOp .And (a :: b :: r) pos) (qAnd p q) := by
  intro wh cenv A' E' s ρ F h H sl σ d es qs hr sr e
  have e : ((p sl h).bind fun x => if x = true then q sl h else some false) = some d := e
  obtain ⟨x, e1, e⟩ := Option.bind_eq_some_iff.mp e
  refine isTrue_and (thn (ha cenv A' _ s ρ F h H sl σ x es qs hr sr e1) fun c s1 ⟨r, k⟩ => ?_)
  subst r
  cases c with
  | true =>
    rw [if_pos rfl] at e
    exact thn (hb wh cenv A' _ s1 ρ F h H sl σ d es (qs.keeps k) hr sr e) fun c s2 ⟨r2, k2⟩ => ⟨r2, keeps_trans k k2⟩
  | false =>
    rw [if_neg (by decide)] at e
    cases e
    exact ⟨rfl, k⟩
theorem sqw_or {a b : Expr} {r : List Expr} {p q : QT} {pos : Pos} (ha : SQT B X sc a p) (hb : SQW B X sc (.BoolOp .Or (b :: r) pos) q) : SQW B X sc (.BoolOp .Or (a :: b :: r) pos) (qOr p q) := by
  intro wh cenv A' E' s ρ F h H sl σ d es qs hr sr e
  have e : ((p sl h).bind fun x => if x = true then some true else q sl h) = some d := e
  obtain ⟨x, e1, e⟩ := Option.bind_eq_some_iff.mp e
  refine isTrue_or (thn (ha cenv A' _ s ρ F h H sl σ x es qs hr sr e1) fun c s1 ⟨r, k⟩ => ?_)
  subst r
  cases c with
  | true =>
    rw [if_pos rfl] at e
    cases e
    exact ⟨rfl, k⟩
  | false =>
    rw [if_neg (by decide)] at e
    exact thn (hb wh cenv A' _ s1 ρ F h H sl σ d es (qs.keeps k) hr sr e) fun c s2 ⟨r2, k2⟩ => ⟨r2, keeps_trans k k2⟩
theorem sqt_w {e : Expr} {q : QT} (h : SQW B X sc e q) : SQT B X sc e q := fun cenv => h (eval e cenv) cenv
theorem sqt_not {a : Expr} {q : QT} {pos : Pos} (ha : SQT B X sc a q) : SQT B X sc (.UnaryOp .Not a pos) (qNot q) := by
  intro cenv A' E' s ρ F h H sl σ d es qs hr sr e
  have e : (q sl h).map (fun x => !x) = some d := e
  obtain ⟨x, e1, rfl⟩ := Option.map_eq_some_iff.mp e
  exact isTrue_not (thn (ha cenv A' _ s ρ F h H sl σ x es qs hr sr e1) fun c s1 ⟨r, k⟩ => by subst r; exact ⟨rfl, k⟩)
theorem sq_if {c a b : Expr} {qc : QT} {qa qb : QE} {pos : Pos} (hc : SQT B X sc c qc) (ha : SQ B X sc a qa) (hb : SQ B X sc b qb) : SQ B X sc (.IfExp c a b pos) (qIf qc qa qb) := by
  intro cenv A' E' s ρ F h H sl σ d es qs hr sr e
  have e : ((qc sl h).bind fun x => if x = true then qa sl h else qb sl h) = some d := e
  obtain ⟨x, e1, e⟩ := Option.bind_eq_some_iff.mp e
  refine wpAny_IfExp (thn (hc cenv A' _ s ρ F h H sl σ x es qs hr sr e1) fun c s1 ⟨r, k⟩ => ?_)
  subst r
  cases c with
  | true =>
    rw [if_pos rfl] at e
    exact thn (ha cenv A' _ s1 ρ F h H sl σ d es (qs.keeps k) hr sr e) fun c s2 ⟨r2, k2⟩ => ⟨r2, keeps_trans k k2⟩
  | false =>
    rw [if_neg (by decide)] at e
    exact thn (hb cenv A' _ s1 ρ F h H sl σ d es (qs.keeps k) hr sr e) fun c s2 ⟨r2, k2⟩ => ⟨r2, keeps_trans k k2⟩
end
end NC
end S3
end
section
set_option Elab.async false
set_option linter.all false
set_option maxRecDepth 100000
set_option maxHeartbeats 4000000
namespace S3
open PySem PySem.Spec PyProof.Rows L2
noncomputable section NC
/-! ### which items pass, what they give -/
section
variable (xs : List AV) (tv : AV → Option Bool) (ev : AV → Option AV)
def itemG (x : AV) : Option AV := if tv x = some true then ev x else none
def itemsOk : Bool := xs.all fun x => match tv x with
  | some true => (ev x).isSome
  | some false => true
  | none => false
def pzOf (i : Nat) : Bool := match xs[i]? with
  | some x => decide (tv x = some true)
  | none => false
theorem items_pass (hok : itemsOk xs tv ev = true) : ∀ (l : List Nat), (∀ i ∈ l, i < xs.length) → (l.filterMap fun i => (xs[i]?).bind (itemG tv ev)).length = (l.filter (pzOf xs tv)).length ∧
    ∀ (j i : Nat), (l.filter (pzOf xs tv))[j]? = some i → ∃ (x a : AV), xs[i]? = some x ∧ tv x = some true ∧ ev x = some a ∧ (l.filterMap fun i => (xs[i]?).bind (itemG tv ev))[j]? = some a
  | [], _ => ⟨rfl, fun j i e => by cases e⟩
  | i0 :: r, hl => by
    obtain ⟨ih1, ih2⟩ := items_pass hok r fun i hi => hl i (List.mem_cons_of_mem _ hi)
    have hi0 := hl i0 List.mem_cons_self
    have ex : xs[i0]? = some xs[i0] := List.getElem?_eq_getElem hi0
    have hx := List.all_eq_true.mp hok xs[i0] (List.getElem_mem hi0)
    by_cases ht : tv xs[i0] = some true
    · rw [ht] at hx
      obtain ⟨a, ea⟩ := Option.isSome_iff_exists.mp hx
      have hp : pzOf xs tv i0 = true := by unfold pzOf; rw [ex]; exact decide_eq_true ht
      have hg : ((xs[i0]?).bind (itemG tv ev)) = some a := by rw [ex]; show itemG tv ev xs[i0] = _; unfold itemG; rw [if_pos ht, ea]
      rw [List.filter_cons_of_pos hp, List.filterMap_cons_some (f := fun i => (xs[i]?).bind (itemG tv ev)) hg]
      refine ⟨by rw [List.length_cons, List.length_cons, ih1], fun j i e => ?_⟩
      cases j with
      | zero => cases e; exact ⟨_, a, ex, ht, ea, rfl⟩
      | succ j => exact ih2 j i e
    · have hp : ¬ pzOf xs tv i0 = true := by unfold pzOf; rw [ex]; exact fun z => ht (of_decide_eq_true z)
      have hg : ((xs[i0]?).bind (itemG tv ev)) = none := by rw [ex]; show itemG tv ev xs[i0] = _; unfold itemG; rw [if_neg ht]
      rw [List.filter_cons_of_neg hp, List.filterMap_cons_none (f := fun i => (xs[i]?).bind (itemG tv ev)) hg]
      exact ⟨ih1, ih2⟩
end
theorem filterMap_ix {α β : Type} (g : α → Option β) : ∀ xs : List α, ((List.range xs.length).filterMap fun i => (xs[i]?).bind g) = xs.filterMap g
  | [] => rfl
  | x :: r => by
    rw [List.length_cons, List.range_succ_eq_map, List.filterMap_cons, List.filterMap_map]
    have e : ((fun i => ((x :: r)[i]?).bind g) ∘ Nat.succ) = fun i => (r[i]?).bind g := rfl
    rw [e, filterMap_ix g r]
    rfl
theorem nd_at {α : Type} {l : List α} (h : l.Nodup) {i j : Nat} {x : α} (hi : l[i]? = some x) (hj : l[j]? = some x) : i = j := by
  have h1 := ix_lt hi
  have h2 := ix_lt hj
  rw [List.getElem?_eq_getElem h1] at hi
  rw [List.getElem?_eq_getElem h2] at hj
  have e : l[i] = l[j] := by rw [Option.some.inj hi, Option.some.inj hj]
  exact (List.getElem_inj h).mp e
/-! ### the generator expression with one name -/
structure WSrc (X : Cx) (H1 : Hp) (vs : List V) (s1 s2 : Shared) (it : Value) : Prop where
  ex : ∃ (I : Addr) (fp wr : List Addr) (P : Nat → Value → Prop) (St : Nat → Heap → Prop), it = .ref I ∧ (∀ A' : Around, A'.handled = none → Walks X.prog X.w A' I fp wr vs.length P St) ∧ (∀ i v, P i v → ∃ x, vs[i]? = some x ∧ RelV x v) ∧ St 0 s2.heap ∧
    (∀ b ∈ fp, b < s2.heap.objs.size) ∧ (∀ b ∈ wr, s1.heap.objs.size ≤ b) ∧ ∀ b ∈ fp, ∀ ps, H1 b ≠ some (.tbl ps)
  grow : ∃ h' tk, s2 = { s1 with heap := h', toks := tk } ∧ (∀ b o, s1.heap.get? b = some o → h'.get? b = some o) ∧ s1.heap.objs.size ≤ h'.objs.size
/-- the scope of a generator expression: .0, the targets, captured names -/
structure GScope (sc scope : Scope) (own : List Str) : Prop where
  kind : scope.kind = .function
  co : scope.isCoroutine = false
  cell : ∀ y ∈ scope.names, y.2 ≠ .cell
  dot : scope.names.lookup (".0" : Str) = some NameKind.local
  loc : ∀ x ∈ own, scope.names.lookup x = some .local
  only : ∀ y ∈ scope.names, y.2 = .local → y.1 = ".0" ∨ y.1 ∈ own
  free : ∀ y ∈ scope.names, y.2 = .free → sc.names.lookup y.1 = some .cell ∨ sc.names.lookup y.1 = some .free
  uniq : ∀ y ∈ scope.names, scope.names.lookup y.1 = some y.2
def gscB (sc scope : Scope) (own : List Str) : Bool :=
  decide (scope.kind = .function) && !scope.isCoroutine && (scope.names.all fun y => !decide (y.2 = .cell) && (!decide (y.2 = .local) || decide (y.1 = ".0") || own.contains y.1) && (!decide (y.2 = .free) || decide (sc.names.lookup y.1 = some .cell) || decide (sc.names.lookup y.1 = some .free)) && decide (scope.names.lookup y.1 = some y.2)) &&
    decide (scope.names.lookup (".0" : Str) = some NameKind.local) && own.all fun x => decide (scope.names.lookup x = some .local)
theorem gsc_by {sc scope : Scope} {own : List Str} (h : gscB sc scope own = true) : GScope sc scope own := by
  unfold gscB at h
  simp only [Bool.and_eq_true, Bool.or_eq_true, Bool.not_eq_true', decide_eq_true_eq, decide_eq_false_iff_not, List.all_eq_true, List.contains_iff_mem] at h
  obtain ⟨⟨⟨⟨h1, h2⟩, h3⟩, h4⟩, h5⟩ := h
  refine ⟨h1, h2, fun y hy => (h3 y hy).1.1.1, h4, h5, fun y hy e => ?_, fun y hy e => ?_, fun y hy => (h3 y hy).2⟩
  · rcases (h3 y hy).1.1.2 with (z | z) | z
    · exact absurd e z
    · exact .inl z
    · exact .inr z
  · rcases (h3 y hy).1.2 with (z | z) | z
    · exact absurd e z
    · exact .inl z
    · exact .inr z
section
variable {B : Bx} {X : Cx}
theorem GScope.has {scope : Scope} {own : List Str} (S : GScope X.env.scope scope own) (ok : X.Ok) : ∀ y ∈ scope.names, y.2 = .free → ∃ c, X.env.cells.lookup y.1 = some c := fun y hy e => by
  rcases S.free y hy e with k | k
  · exact ok.has _ (.inl k)
  · exact ok.has _ (.inr k)
/-- the captured names in the generator's closure -/
theorem clo_at {scope : Scope} {own : List Str} (S : GScope X.env.scope scope own) (ok : X.Ok) {y : Str} (hl : scope.names.lookup y = some .free) : ∃ c, (cloFrom X.env.cells scope.names []).lookup y = some c ∧ X.env.cells.lookup y = some c := by
  have hy : (y, NameKind.free) ∈ scope.names := PySem.mem_of_lookup hl
  obtain ⟨c, hc⟩ := mem_lookup (cloFrom_has (cells := X.env.cells) (acc := []) hy)
  refine ⟨c, hc, ?_⟩
  rcases cloFrom_mem (PySem.mem_of_lookup hc) with hm | ⟨h1, h2⟩
  · cases hm
  · obtain ⟨c1, hc1⟩ := S.has ok _ h1 rfl
    have hc1 : X.env.cells.lookup y = some c1 := hc1
    rw [hc1] at h2
    rw [hc1, h2]
    rfl
/-- what is known of the heap where the element stands -/
theorem qs_at {scope : Scope} {own : List Str} {pins : List (Addr × Obj)} {σ σ' : L2.St} {H1 H3 : Hp} {s1 s : Shared} {cenv : Env} {A' : Around} {P C : Addr} {code : Value} {U : Nat} (hrU : U + 100 < cLine) (S : GScope X.env.scope scope own) (I : Inv X pins σ H1 s1)
    (hce : cenv = genEnv scope (cloFrom X.env.cells scope.names []) C code builtinsNs X.env) (hd : A'.handled = none) (hu : A'.units ≤ U) (hok : HOk X.prog X.w H3 s.heap) (hP : ∃ ps, H1 P = some (.tbl ps))
    (keep : ∀ b o, b ≠ P → s1.heap.get? b = some o → s.heap.get? b = some o) (hbP : ∀ o, X.base.get? P ≠ some o) (hN : X.N.Nodup) (hdot : (".0" : Str) ∉ X.N)
    {m : Str → Option Value} (hn : s.heap.Ns C m) (hown : ∀ (i : Nat) (x : Str) (v : V), X.N[i]? = some x → x ∈ own → σ'[i]? = some (some v) → ∃ u, m x = some u ∧ RelV v u)
    (hoff : ∀ (i : Nat) (x : Str) (v : V), X.N[i]? = some x → x ∉ own → σ'[i]? = some (some v) → σ[i]? = some (some v)) : QS X cenv A' σ' H3 s := by
  subst hce
  refine ⟨hd, by omega, hok, fun b o e => keep b o (fun z => hbP o (by rw [← z]; exact e)) (I.bk b o e), I.mod, S.kind, I.ok.glob, rfl, m, hn, fun i x v e1 e2 hv => ?_⟩
  by_cases hx : x ∈ own
  · obtain ⟨u, em, ru⟩ := hown i x v e1 hx e2
    exact ⟨u, ru, .inl ⟨S.loc x hx, em⟩⟩
  · have e3 := hoff i x v e1 hx e2
    have hf : scope.names.lookup x = some .free := by
      rcases hv with k | k | k
      · rcases S.only _ (PySem.mem_of_lookup k) rfl with z | z
        · exact absurd (List.mem_of_getElem? e1) (by rw [show x = ".0" from z]; exact hdot)
        · exact absurd z hx
      · exact absurd rfl (S.cell _ (PySem.mem_of_lookup k))
      · exact k
    obtain ⟨cc, h1, h2⟩ := clo_at S I.ok hf
    obtain ⟨m1, _, hl⟩ := I.loc
    have hvis : Vis X.env.scope x := (S.free _ (PySem.mem_of_lookup hf) rfl).elim (fun k => .inr (.inl k)) (fun k => .inr (.inr k))
    obtain ⟨u, ru, l⟩ := hl i x v e1 e3 hvis
    rcases l with ⟨k, _⟩ | ⟨_, c2, hc2, o, ho, hd2⟩
    · have k : X.env.scope.names.lookup x = some .local := k
      rcases S.free _ (PySem.mem_of_lookup hf) rfl with k2 | k2 <;> rw [show X.env.scope.names.lookup x = _ from k2] at k <;> cases k
    · rw [h2] at hc2
      cases hc2
      refine ⟨u, ru, .inr ⟨.inr hf, cc, h1, o, keep cc o (fun z => ?_) ho, hd2⟩⟩
      obtain ⟨ps, hps⟩ := hP
      have := I.freeC x cc h2
      rw [z, hps] at this
      cases this
/-- the tests of a generator expression -/
def QTs (B : Bx) (X : Cx) (scope : Scope) (ifs : List Expr) (qt : QT) : Prop := (ifs = [] ∧ qt = fun _ _ => some true) ∨ ∃ c, ifs = [c] ∧ SQT B X scope c qt
theorem qts_nil {scope : Scope} : QTs B X scope [] (fun _ _ => some true) := .inl ⟨rfl, rfl⟩
theorem qts_one {scope : Scope} {c : Expr} {qt : QT} (h : SQT B X scope c qt) : QTs B X scope [c] qt := .inr ⟨c, rfl, h⟩
theorem qts_run {scope : Scope} {ifs : List Expr} {qt : QT} (h : QTs B X scope ifs qt) {cenv : Env} {A' : Around} {E' : Value → Shared → Prop} {s : Shared} {ρ : List Addr} {F : Hp} {hh : AH} {H : Hp} {sl : Sl} {σ : L2.St} {a : Bool} (es : cenv.scope = scope) (q : QS X cenv A' σ H s) (hr : HR B ρ F hh H) (sr : SR B ρ F sl σ) (e : qt sl hh = some a) :
    wpAny (model X.prog X.w) A' (forIn ifs true fun c r => if r = true then do let ok ← isTrue c cenv (eval c cenv); pure (ForInStep.yield ok) else pure (ForInStep.yield r)) (fun ok s₃ => ok = a ∧ Keeps s s₃) E' s := by
  rcases h with ⟨rfl, rfl⟩ | ⟨c, rfl, h⟩
  · cases e
    simp only [List.forIn_nil]
    exact wpAny_pure ⟨rfl, GxR.keeps_refl _⟩
  · simp only [List.forIn_cons, List.forIn_nil]
    rw [if_pos True.intro]
    refine wpAny_bind (wpAny_bind (thn (h cenv A' _ s ρ F hh H sl σ a es q hr sr e) fun b s1 ⟨r, k⟩ => wpAny_pure ?_))
    exact wpAny_pure ⟨r, k⟩
/-- the generator g, ready to be walked: it gives what ys tells -/
def GReady (B : Bx) (X : Cx) (pins : List (Addr × Obj)) (σ : L2.St) (ρ : List Addr) (F : Hp) (h : AH) (H1 : Hp) (ys : List AV) (g : Addr) (s5 : Shared) : Prop :=
  ∃ (fp wr : List Addr) (G : Array GenState → Array GenState → Prop) (Fv : Nat → Value → Prop) (St : Nat → Shared → Prop),
    WalksS X.prog X.w X.A.in1 g fp wr G ys.length Fv St ∧ St 0 s5 ∧ (∀ b ∈ fp, b < s5.heap.objs.size) ∧ (∀ j y, Fv j y → ∃ a, ys[j]? = some a ∧ QV B ρ F a y) ∧
    ∀ s', Moved wr G s5 s' → ∃ H2, Inv X pins σ H2 s' ∧ HR B ρ F h H2 ∧ Ext ρ F H1 ρ F H2
theorem gen_name {c P : Addr} {elt iter : Expr} {x : Str} {ifs : List Expr} {px gpos : Pos} {scope : Scope} {k i : Nat} {qt : QT} {qe : QE} {Q' : Value → Shared → Prop} {pins : List (Addr × Obj)} {σ : L2.St} {H0 : Hp} {s0 : Shared}
    (hr : Room k X.A) (TB : LamX.TabB X.base X.mg c P) (hcode : X.env.code = .ref c) (hmT : (P, X.env.qual ++ "<genexpr>") ∈ B.T) (huT : ∀ p ∈ B.T, p.1 = P → p.2 = X.env.qual ++ "<genexpr>") (S : GScope X.env.scope scope [x]) (hN : X.N.Nodup) (hi : X.N[i]? = some x) (hdot : (".0" : Str) ∉ X.N)
    (hts : QTs B X scope ifs qt) (hel : SQ B X scope elt qe) (hs : ∀ v, genFold iter X.env v = pure v) (I0 : Inv X pins σ H0 s0)
    (hiter : wpAny (model X.prog X.w) X.A (eval iter X.env) (fun xv s1 => ∃ ρ F h H1 sl xs vs, Inv X pins σ H1 s1 ∧ SR B ρ F sl σ ∧ HR B ρ F h H1 ∧ RVs B ρ F xs vs ∧ itemsOk xs (fun a => qt (sl.set i (some a)) h) (fun a => qe (sl.set i (some a)) h) = true ∧
      wpAny (model X.prog X.w) X.A (pyIter xv) (fun it s2 => WSrc X H1 vs s1 s2 it) X.xe s1 ∧ ∀ g s5, GReady B X pins σ ρ F h H1 (xs.filterMap (itemG (fun a => qt (sl.set i (some a)) h) (fun a => qe (sl.set i (some a)) h))) g s5 → Q' (.ref g) s5) X.xe s0) :
    wpAny (model X.prog X.w) X.A (eval (.GeneratorExp elt [⟨.Name x px, iter, ifs, 0⟩] scope gpos) X.env) Q' X.xe s0 := by
  refine wpAny_GeneratorExp_walksQD hr.hd S.co (closure_ok (S.has I0.ok)) S.cell S.dot (S.loc x (by simp)) S.kind (by have := hr.dp; omega) ?_ hs
  refine thn hiter fun xv s1 ⟨ρ, F, h, H1, sl, xs, vs, I1, sr, hR, rvs, hok, hpi, hQ⟩ => ?_
  refine thn hpi fun it s2 W => ?_
  obtain ⟨Ia, fp, wr, Pw, St, eit, hW, hPw, hst, hfp, hwr, hnt⟩ := W.ex
  obtain ⟨h2, tk2, es2, grow, hsz12⟩ := W.grow
  subst es2
  have lim2 : h2.NoLimit := I1.nolimit.keeps grow
  obtain ⟨ps, hP, ht, ha⟩ := hR.tab _ hmT
  have hbP : ∀ o, X.base.get? P ≠ some o := fun o e => by
    have z := (I1.bs P o e).2
    rw [hP] at z
    cases z
  have hPs : s1.heap.get? P = some { cls := .none, data := .fields ps } := I1.hok P _ hP
  have hPlt : P < s1.heap.objs.size := Heap.lt_size hPs
  have hP2 : h2.get? P = some { cls := .none, data := .fields ps } := grow _ _ hPs
  have cd : PySem.W.CodeHd h2 c P := TB.code.keeps fun b u e => grow _ _ (I1.bk b u e)
  have hlen := RVs.length rvs
  have hwr2 : ∀ b ∈ wr, b < h2.objs.size := fun b hb => hfp b ((hW X.A hr.hd).sub b hb)
  have nwr : ∀ b o, s1.heap.get? b = some o → b ∉ wr := fun b o e hb => absurd (Heap.lt_size e) (Nat.not_lt.mpr (hwr b hb))
  have cont : ∀ (code : Value) (h3 : Heap) (tk : Nat) (H3 : Hp) (cc : Addr), (∀ b o, b ≠ P → h2.get? b = some o → h3.get? b = some o) → h2.objs.size ≤ h3.objs.size → cc ∉ wr → cc < h3.objs.size → h3.NoLimit → LamX.ExtN H1 H3 → LamX.Tabs B.T H3 →
      (∀ (hh : Heap) (tk' : Nat), (∀ b o, b ≠ P → s1.heap.get? b = some o → hh.get? b = some o) → (∀ b o, (b = P ∨ b = cc) → h3.get? b = some o → hh.get? b = some o) → ∃ psx, H3 P = some (.tbl psx) ∧ hh.get? P = some { cls := .none, data := .fields psx } ∧ Inv X pins σ H3 { s1 with heap := hh, toks := tk' }) →
      wpAny (model X.prog X.w) X.A (builtinsFor X.env.globals X.env.builtins) (fun bi s₄ =>
        ∃ Ia fp wr n₀ Pf St₀ pz F, it = .ref Ia ∧ (∀ A' : Around, A'.handled = none → Walks X.prog X.w A' Ia fp wr n₀ Pf St₀) ∧ St₀ 0 s₄.heap ∧ (∀ b ∈ fp, b < s₄.heap.objs.size) ∧ s₄.heap.NoLimit ∧ cStatics ∉ wr ∧
          (∀ href : Heap, (∀ b o, s₄.heap.get? b = some o → href.get? b = some o) →
            QuietGenD X.prog X.w (genEnv scope (cloFrom X.env.cells scope.names []) s₄.heap.objs.size code bi X.env) x ifs elt (List.range s₄.heap.objs.size) wr Pf pz F href (X.A.depth + 1) (X.A.units + 8)) ∧
          (∀ a h₅ tk gs, gs.bare = true → s₄.heap.objs.size < a → h₅.objs.size = a + 1 → (∀ b o, s₄.heap.get? b = some o → h₅.get? b = some o) →
            WalksS X.prog X.w X.A.in4 a (a :: s₄.heap.objs.size :: List.range s₄.heap.objs.size) (s₄.heap.objs.size :: wr) (GenOnlyQ s₄.gens.size) (passing pz n₀ 0).length
              (fun j y => ∃ i, (passing pz n₀ 0)[j]? = some i ∧ F i y) (GenAt X.prog X.w X.A.in4 a s₄.gens.size s₄.heap.objs.size (List.range s₄.heap.objs.size) wr pz n₀ F) →
            GenAt X.prog X.w X.A.in4 a s₄.gens.size s₄.heap.objs.size (List.range s₄.heap.objs.size) wr pz n₀ F 0 { s₄ with gens := s₄.gens.push gs, toks := tk, heap := h₅ } →
            Q' (.ref a) { s₄ with gens := s₄.gens.push gs, toks := tk, heap := h₅ })) X.xe { s1 with heap := h3, toks := tk } := by
    intro code h3 tk H3 cc hx hsz hccw hccl lim3 e3 t3 jinv
    obtain ⟨bm, ob, e1, e2, e3', e4, e5, e6, e7, e8⟩ := TB.bm
    have keep3 : ∀ b u, b ≠ P → s1.heap.get? b = some u → h3.get? b = some u := fun b u hb e => hx b u hb (grow _ _ e)
    obtain ⟨hR3, eX⟩ := hR.tabbed e3 t3
    have hcl : cStatics < s1.heap.objs.size := let ⟨_, hns, _⟩ := I1.nolimit; hns.lt
    refine wpAny_builtinsFor (m := X.mg) (by rw [I1.ok.glob]; exact ((I1.mod.glob.keeps I1.bk).keeps grow).extBut (fun b o hb e => hx b o hb e) TB.gP) e1 e2 (keep3 _ _ e4 (I1.bk _ _ e5)) e6 e7 e8 ?_
    refine ⟨Ia, fp, wr, vs.length, Pw, St, pzOf xs (fun a => qt (sl.set i (some a)) h), (fun j y => ∃ x0 a, xs[j]? = some x0 ∧ qe (sl.set i (some x0)) h = some a ∧ QV B ρ F a y), eit, hW, ?_, fun b hb => Nat.lt_of_lt_of_le (hfp b hb) hsz, lim3, fun z => absurd hcl (Nat.not_lt.mpr (hwr _ z)), ?_, ?_⟩
    · refine (hW X.A hr.hd).frame _ _ _ hst fun b hb u e => ?_
      exact hx b u (fun z => hnt b hb ps (by rw [z]; exact hP)) e
    · intro href hhref
      have key : ∀ (A' : Around) (iN : Nat) (v : Value) (s₂ : Shared) (m₂ : Str → Option Value), A'.handled = none → A'.units ≤ X.A.units + 8 → Pw iN v → s₂.heap.Ns h3.objs.size m₂ → m₂ x = some v → (∀ b ∈ List.range h3.objs.size, b ∉ wr → ∀ o, href.get? b = some o → s₂.heap.get? b = some o) →
          ∃ x0 w, xs[iN]? = some x0 ∧ RV B ρ F x0 w ∧ QS X (genEnv scope (cloFrom X.env.cells scope.names []) h3.objs.size code builtinsNs X.env) A' (σ.set i (some w)) H3 s₂ ∧ SR B ρ F (sl.set i (some x0)) (σ.set i (some w)) := fun A' iN v s₂ m₂ hA hu hp hn hm hk => by
        obtain ⟨w, ew, rw'⟩ := hPw iN v hp
        obtain ⟨x0, ex0, rx0⟩ := rvs.at' ew
        have kp : ∀ b o, h3.get? b = some o → b ∉ wr → s₂.heap.get? b = some o := fun b o e hb => hk b (List.mem_range.mpr (Heap.lt_size e)) hb o (hhref b o e)
        have kp1 : ∀ b o, b ≠ P → s1.heap.get? b = some o → s₂.heap.get? b = some o := fun b o hb e => kp b o (keep3 b o hb e) (nwr b o e)
        obtain ⟨psx, _, _, J⟩ := jinv s₂.heap s1.toks kp1 fun b o hb e => kp b o e (by
          rcases hb with rfl | rfl
          · exact nwr _ _ hPs
          · exact hccw)
        refine ⟨x0, w, ex0, rx0, qs_at (own := [x]) (U := X.A.units + 8) (by have := hr.un; omega) S I1 rfl hA hu J.hok ⟨ps, hP⟩ kp1 hbP hN hdot hn (fun j y u ej hy eu => ?_) (fun j y u ej hy eu => ?_), sr.set rx0 i⟩
        · obtain rfl : y = x := by simpa using hy
          have hji : j = i := nd_at hN ej hi
          subst hji
          have hl : j < σ.length := by
            rw [← List.length_set (as := σ) (i := j) (a := some w)]
            exact ix_lt eu
          rw [List.getElem?_set_self hl] at eu
          cases eu
          exact ⟨v, hm, rw'⟩
        · have hji : i ≠ j := fun z => hy (by subst z; rw [hi] at ej; cases ej; simp)
          rw [List.getElem?_set_ne hji] at eu
          exact eu
      refine ⟨fun A' E' iN v s₂ m₂ hA hdp hu hp hn hm hk => ?_, fun A' E' iN v s₂ m₂ hA hdp hu hp hpz hn hm hk => ?_⟩
      · obtain ⟨x0, w, ex0, rx0, q, sr2⟩ := key A' iN v s₂ m₂ hA hu hp hn hm hk
        have hx0 := List.all_eq_true.mp hok x0 (List.mem_of_getElem? ex0)
        cases kt : qt (sl.set i (some x0)) h with
        | none => simp only [kt] at hx0; cases hx0
        | some b =>
          have ep : pzOf xs (fun a => qt (sl.set i (some a)) h) iN = b := by
            unfold pzOf
            rw [ex0]
            show decide (qt (sl.set i (some x0)) h = some true) = b
            rw [kt]
            cases b <;> rfl
          rw [ep]
          exact qts_run hts rfl q hR3 sr2 kt
      · obtain ⟨x0, w, ex0, rx0, q, sr2⟩ := key A' iN v s₂ m₂ hA hu hp hn hm hk
        have hx0 := List.all_eq_true.mp hok x0 (List.mem_of_getElem? ex0)
        have ep : qt (sl.set i (some x0)) h = some true := by
          unfold pzOf at hpz
          rw [ex0] at hpz
          exact of_decide_eq_true hpz
        simp only [ep] at hx0
        obtain ⟨a, ea⟩ := Option.isSome_iff_exists.mp hx0
        exact thn (hel _ A' _ s₂ ρ F h H3 _ _ a rfl q hR3 sr2 ea) fun y s3 ⟨r1, k1⟩ => ⟨⟨x0, a, ex0, ea, r1⟩, k1⟩
    · intro g h5 tk5 gs hgb hag hsz5 hk5 W5 hat
      have hpass := items_pass xs (fun a => qt (sl.set i (some a)) h) (fun a => qe (sl.set i (some a)) h) hok (List.range xs.length) fun j hj => List.mem_range.mp hj
      rw [filterMap_ix] at hpass
      have epass : passing (pzOf xs (fun a => qt (sl.set i (some a)) h)) vs.length 0 = (List.range xs.length).filter (pzOf xs (fun a => qt (sl.set i (some a)) h)) := by
        unfold passing
        rw [List.drop_zero, hlen]
      rw [epass] at W5
      rw [← hpass.1] at W5
      refine hQ g _ ⟨_, _, _, _, _, W5.in4_1, hat, ?_, ?_, fun s' hm => ?_⟩
      · intro b hb
        show b < h5.objs.size
        rw [hsz5]
        rcases List.mem_cons.mp hb with z | hb
        · rw [z]; exact Nat.lt_succ_self _
        · rcases List.mem_cons.mp hb with z | hb
          · rw [z]; exact Nat.lt_succ_of_lt hag
          · exact Nat.lt_succ_of_lt (Nat.lt_trans (List.mem_range.mp hb) hag)
      · rintro j y ⟨ii, e9, x0, a, ex0, ea, qa⟩
        obtain ⟨x1, a1, q1, q2, q3, q4⟩ := hpass.2 j ii e9
        rw [ex0] at q1
        cases q1
        have q3 : qe (sl.set i (some x0)) h = some a1 := q3
        rw [q3] at ea
        cases ea
        exact ⟨a, q4, qa⟩
      · have kk : ∀ b o, h3.get? b = some o → b ∉ wr → s'.heap.get? b = some o := fun b o e hb => hm.heap b o (fun z => by
          rcases List.mem_cons.mp z with z | z
          · have hl := Heap.lt_size e
            rw [z] at hl
            exact Nat.lt_irrefl _ hl
          · exact hb z) (hk5 b o e)
        obtain ⟨psx, hPx, hPh, J⟩ := jinv s'.heap s'.toks (fun b o hb e => kk b o (keep3 b o hb e) (nwr b o e)) fun b o hb e => kk b o e (by
          rcases hb with rfl | rfl
          · exact nwr _ _ hPs
          · exact hccw)
        have J2 := GxR.inv_tab (more := #[]) (h' := s'.heap) (g' := s'.gens) (d' := s'.drawn) (t' := s'.toks) J hPx (fun b u _ e => e) (by rw [Array.append_empty]; exact hPh) (AllBare.movedS (I1.bare.push hgb) hm)
        have eH : upd H3 P (.tbl (psx ++ #[])) = H3 := funext fun b => by
          by_cases hb : b = P
          · rw [hb, upd_same, hPx, Array.append_empty]
          · rw [upd_ne hb]
        rw [eH] at J2
        have J3 : Inv X pins σ H3 s' := by
          have e9 := GxR.sh_eta { s1 with heap := s'.heap, toks := s'.toks } s' hm.os
          exact e9 ▸ J2
        exact ⟨H3, J3, hR3, eX⟩
  refine ⟨lim2, ?_⟩
  have hcP : cStatics ≠ P := fun e => by
    obtain ⟨_, hns, _⟩ := I1.nolimit
    obtain ⟨o', es, ep, ho, hd, _⟩ := hns
    rw [e, hPs] at ho
    cases ho
    cases hd
  cases hf : codeAmong gpos ps.toList with
  | none =>
    refine wpAny_genexprCodeX hcode (cd.code hP2 ht) (cd.tab hP2) hf fun c' h' tk hx hge hlt hco' hrec htab' _ => ?_
    obtain ⟨c2, oc, vs', t, e2, hoc, hd, hv⟩ := hrec
    cases e2
    have nC : H1 c' = none := I1.hok.fresh (Nat.le_trans hsz12 hge)
    have eL : (ps ++ #[rawInt gpos.line, rawInt gpos.col, .ref c']).toList = ps.toList ++ [rawInt gpos.line, rawInt gpos.col, .ref c'] := by simp
    have hE : LamX.ExtN H1 (upd (upd H1 P (.tbl (ps ++ #[rawInt gpos.line, rawInt gpos.col, .ref c']))) c' (LamX.CodeO c' (X.env.qual ++ "<genexpr>"))) := fun b o e n => by
      rw [upd_ne (ne_of_none e nC), upd_ne (fun z => n ps (Option.some.inj (e.symm.trans (by rw [z]; exact hP))))]
      exact e
    refine cont _ h' tk _ c' hx (Nat.le_trans hge (Nat.le_of_lt hlt)) (fun z => absurd (hwr2 _ z) (Nat.not_lt.mpr hge)) hlt (lim2.extBut hx hcP) hE (fun p hp => ?_) fun hh tk' k1 k2 => ?_
    · by_cases hb : p.1 = P
      · rw [huT p hp hb, hb]
        refine ⟨_, by rw [upd_ne (ne_of_none hP nC), upd_same], by rw [eL]; exact PySem.TriplesOk_snoc _ _ _ _ ht, fun p' cv hcv => ?_⟩
        rw [eL] at hcv
        rcases LamX.among_app _ ht hcv with z | z
        · obtain ⟨c0, e1, e2⟩ := ha p' cv z
          exact ⟨c0, e1, hE _ _ e2 LamX.codeO_ne⟩
        · exact ⟨c', z, upd_same⟩
      · obtain ⟨ps', a1, a2, a3⟩ := hR.tab p hp
        refine ⟨ps', by rw [upd_ne (ne_of_none a1 nC), upd_ne hb]; exact a1, a2, fun p' cv hcv => ?_⟩
        obtain ⟨c0, e1, e2⟩ := a3 p' cv hcv
        exact ⟨c0, e1, hE _ _ e2 LamX.codeO_ne⟩
    · have hPh := k2 P _ (.inl rfl) htab'.2
      exact ⟨_, by rw [upd_ne (ne_of_none hP nC), upd_same], hPh, LamX.inv_table (q := X.env.qual ++ "<genexpr>") I1 hP k1 hPh (Nat.le_trans hsz12 hge) ⟨oc, vs', t, k2 _ _ (.inr rfl) hoc, hd, hv⟩⟩
  | some cv =>
    refine wpAny_genexprCode_hit hcode (cd.code hP2 ht) hf ?_
    refine cont cv h2 tk2 H1 P (fun _ _ _ e => e) (Nat.le_refl _) (nwr _ _ hPs) (Nat.lt_of_lt_of_le hPlt hsz12) lim2 (LamX.ExtN.refl H1) hR.tab fun hh tk' k1 k2 => ?_
    have kall : ∀ b o, s1.heap.get? b = some o → hh.get? b = some o := fun b o e => by
      by_cases hb : b = P
      · subst hb; exact k2 _ _ (.inl rfl) (grow _ _ e)
      · exact k1 b o hb e
    exact ⟨ps, hP, kall _ _ hPs, I1.kept kall⟩
end
end NC
end S3
end
section
set_option Elab.async false
set_option linter.all false
set_option maxRecDepth 100000
set_option maxHeartbeats 4000000
namespace S3
open PySem PySem.Spec PyProof.Rows L2
noncomputable section NC
section
variable {B : Bx} {X : Cx}
/-- a pair as a tuple of two -/
def pairA : AV → Option (AV × AV)
  | .tup [a, b] => some (a, b)
  | .rdt [a, b] => some (a, b)
  | _ => none
def RPs (B : Bx) (ρ : List Addr) (F : Hp) (xs : List AV) (vs : List (V × V)) : Prop := xs.length = vs.length ∧ ∀ (i : Nat) (y z : V), vs[i]? = some (y, z) → ∃ x p, xs[i]? = some x ∧ pairA x = some p ∧ RV B ρ F p.1 y ∧ RV B ρ F p.2 z
structure WSrcU (X : Cx) (H1 : Hp) (vs : List (V × V)) (s1 s2 : Shared) (it : Value) : Prop where
  ex : ∃ (I : Addr) (fp wr : List Addr) (P : Nat → Array Value → Prop) (St : Nat → Heap → Prop) (Mid : Nat → Addr → Heap → Prop), it = .ref I ∧ (∀ A' : Around, A'.handled = none → WalksU X.prog X.w A' I fp wr vs.length P St Mid) ∧ (∀ i vals, P i vals → ∃ va vb y z, vals = #[va, vb] ∧ vs[i]? = some (y, z) ∧ RelV y va ∧ RelV z vb) ∧ St 0 s2.heap ∧
    (∀ b ∈ fp, b < s2.heap.objs.size) ∧ (∀ b ∈ wr, s1.heap.objs.size ≤ b) ∧ ∀ b ∈ fp, ∀ ps, H1 b ≠ some (.tbl ps)
  grow : ∃ h' tk, s2 = { s1 with heap := h', toks := tk } ∧ (∀ b o, s1.heap.get? b = some o → h'.get? b = some o) ∧ s1.heap.objs.size ≤ h'.objs.size
theorem gen_pair {c P : Addr} {elt iter : Expr} {x x' : Str} {ifs : List Expr} {px px' pt gpos : Pos} {kt : Nat} {scope : Scope} {k i i' : Nat} {qt : QT} {qe : QE} {Q' : Value → Shared → Prop} {pins : List (Addr × Obj)} {σ : L2.St} {H0 : Hp} {s0 : Shared}
    (hr : Room k X.A) (TB : LamX.TabB X.base X.mg c P) (hcode : X.env.code = .ref c) (hmT : (P, X.env.qual ++ "<genexpr>") ∈ B.T) (huT : ∀ p ∈ B.T, p.1 = P → p.2 = X.env.qual ++ "<genexpr>") (S : GScope X.env.scope scope [x, x']) (hN : X.N.Nodup) (hi : X.N[i]? = some x) (hi' : X.N[i']? = some x') (hxx : x ≠ x') (hdot : (".0" : Str) ∉ X.N)
    (hts : QTs B X scope ifs qt) (hel : SQ B X scope elt qe) (hs : ∀ v, genFold iter X.env v = pure v) (I0 : Inv X pins σ H0 s0)
    (hiter : wpAny (model X.prog X.w) X.A (eval iter X.env) (fun xv s1 => ∃ ρ F h H1 sl xs vs, Inv X pins σ H1 s1 ∧ SR B ρ F sl σ ∧ HR B ρ F h H1 ∧ RPs B ρ F xs vs ∧ itemsOk xs (fun y => (pairA y).bind fun p => qt ((sl.set i (some p.1)).set i' (some p.2)) h) (fun y => (pairA y).bind fun p => qe ((sl.set i (some p.1)).set i' (some p.2)) h) = true ∧
      wpAny (model X.prog X.w) X.A (pyIter xv) (fun it s2 => WSrcU X H1 vs s1 s2 it) X.xe s1 ∧ ∀ g s5, GReady B X pins σ ρ F h H1 (xs.filterMap (itemG (fun y => (pairA y).bind fun p => qt ((sl.set i (some p.1)).set i' (some p.2)) h) (fun y => (pairA y).bind fun p => qe ((sl.set i (some p.1)).set i' (some p.2)) h))) g s5 → Q' (.ref g) s5) X.xe s0) :
    wpAny (model X.prog X.w) X.A (eval (.GeneratorExp elt [⟨.Tuple [.Name x px, .Name x' px'] kt pt, iter, ifs, 0⟩] scope gpos) X.env) Q' X.xe s0 := by
  refine wpAny_GeneratorExp_walksQTD hr.hd S.co (closure_ok (S.has I0.ok)) S.cell S.dot (S.loc x (by simp)) (S.loc x' (by simp)) hxx S.kind (by have := hr.dp; omega) ?_ hs
  refine thn hiter fun xv s1 ⟨ρ, F, h, H1, sl, xs, vs, I1, sr, hR, rvs, hok, hpi, hQ⟩ => ?_
  refine thn hpi fun it s2 W => ?_
  obtain ⟨Ia, fp, wr, Pw, St, Mid, eit, hW, hPw, hst, hfp, hwr, hnt⟩ := W.ex
  obtain ⟨h2, tk2, es2, grow, hsz12⟩ := W.grow
  subst es2
  have lim2 : h2.NoLimit := I1.nolimit.keeps grow
  obtain ⟨ps, hP, ht, ha⟩ := hR.tab _ hmT
  have hbP : ∀ o, X.base.get? P ≠ some o := fun o e => by
    have z := (I1.bs P o e).2
    rw [hP] at z
    cases z
  have hPs : s1.heap.get? P = some { cls := .none, data := .fields ps } := I1.hok P _ hP
  have hPlt : P < s1.heap.objs.size := Heap.lt_size hPs
  have hP2 : h2.get? P = some { cls := .none, data := .fields ps } := grow _ _ hPs
  have cd : PySem.W.CodeHd h2 c P := TB.code.keeps fun b u e => grow _ _ (I1.bk b u e)
  have hlen := rvs.1
  have hwr2 : ∀ b ∈ wr, b < h2.objs.size := fun b hb => hfp b ((hW X.A hr.hd).sub b hb)
  have nwr : ∀ b o, s1.heap.get? b = some o → b ∉ wr := fun b o e hb => absurd (Heap.lt_size e) (Nat.not_lt.mpr (hwr b hb))
  have cont : ∀ (code : Value) (h3 : Heap) (tk : Nat) (H3 : Hp) (cc : Addr), (∀ b o, b ≠ P → h2.get? b = some o → h3.get? b = some o) → h2.objs.size ≤ h3.objs.size → cc ∉ wr → cc < h3.objs.size → h3.NoLimit → LamX.ExtN H1 H3 → LamX.Tabs B.T H3 →
      (∀ (hh : Heap) (tk' : Nat), (∀ b o, b ≠ P → s1.heap.get? b = some o → hh.get? b = some o) → (∀ b o, (b = P ∨ b = cc) → h3.get? b = some o → hh.get? b = some o) → ∃ psx, H3 P = some (.tbl psx) ∧ hh.get? P = some { cls := .none, data := .fields psx } ∧ Inv X pins σ H3 { s1 with heap := hh, toks := tk' }) →
      wpAny (model X.prog X.w) X.A (builtinsFor X.env.globals X.env.builtins) (fun bi s₄ =>
        ∃ Ia fp wr n₀ Pf St₀ Mid pz F, it = .ref Ia ∧ (∀ A' : Around, A'.handled = none → WalksU X.prog X.w A' Ia fp wr n₀ Pf St₀ Mid) ∧ (∀ i vals, Pf i vals → ∃ va vb, vals = #[va, vb]) ∧ St₀ 0 s₄.heap ∧ (∀ b ∈ fp, b < s₄.heap.objs.size) ∧ s₄.heap.NoLimit ∧ cStatics ∉ wr ∧
          (∀ href : Heap, (∀ b o, s₄.heap.get? b = some o → href.get? b = some o) →
            QuietGenTD X.prog X.w (genEnv scope (cloFrom X.env.cells scope.names []) s₄.heap.objs.size code bi X.env) x x' ifs elt (List.range s₄.heap.objs.size) wr Pf pz F href (X.A.depth + 1) (X.A.units + 8)) ∧
          (∀ a h₅ tk gs, gs.bare = true → s₄.heap.objs.size < a → h₅.objs.size = a + 1 → (∀ b o, s₄.heap.get? b = some o → h₅.get? b = some o) →
            WalksS X.prog X.w X.A.in4 a (a :: s₄.heap.objs.size :: List.range s₄.heap.objs.size) (s₄.heap.objs.size :: wr) (GenOnlyQ s₄.gens.size) (passing pz n₀ 0).length
              (fun j y => ∃ i, (passing pz n₀ 0)[j]? = some i ∧ F i y) (GenAt X.prog X.w X.A.in4 a s₄.gens.size s₄.heap.objs.size (List.range s₄.heap.objs.size) wr pz n₀ F) →
            GenAt X.prog X.w X.A.in4 a s₄.gens.size s₄.heap.objs.size (List.range s₄.heap.objs.size) wr pz n₀ F 0 { s₄ with gens := s₄.gens.push gs, toks := tk, heap := h₅ } →
            Q' (.ref a) { s₄ with gens := s₄.gens.push gs, toks := tk, heap := h₅ })) X.xe { s1 with heap := h3, toks := tk } := by
    intro code h3 tk H3 cc hx hsz hccw hccl lim3 e3 t3 jinv
    obtain ⟨bm, ob, e1, e2, e3', e4, e5, e6, e7, e8⟩ := TB.bm
    have keep3 : ∀ b u, b ≠ P → s1.heap.get? b = some u → h3.get? b = some u := fun b u hb e => hx b u hb (grow _ _ e)
    obtain ⟨hR3, eX⟩ := hR.tabbed e3 t3
    have hcl : cStatics < s1.heap.objs.size := let ⟨_, hns, _⟩ := I1.nolimit; hns.lt
    refine wpAny_builtinsFor (m := X.mg) (by rw [I1.ok.glob]; exact ((I1.mod.glob.keeps I1.bk).keeps grow).extBut (fun b o hb e => hx b o hb e) TB.gP) e1 e2 (keep3 _ _ e4 (I1.bk _ _ e5)) e6 e7 e8 ?_
    refine ⟨Ia, fp, wr, vs.length, Pw, St, Mid, pzOf xs (fun y => (pairA y).bind fun p => qt ((sl.set i (some p.1)).set i' (some p.2)) h), (fun j y => ∃ x0 a, xs[j]? = some x0 ∧ (fun y => (pairA y).bind fun p => qe ((sl.set i (some p.1)).set i' (some p.2)) h) x0 = some a ∧ QV B ρ F a y), eit, hW, (fun iN vals hp => by obtain ⟨va, vb, _, _, e, _⟩ := hPw iN vals hp; exact ⟨va, vb, e⟩), ?_, fun b hb => Nat.lt_of_lt_of_le (hfp b hb) hsz, lim3, fun z => absurd hcl (Nat.not_lt.mpr (hwr _ z)), ?_, ?_⟩
    · refine (hW X.A hr.hd).frame _ _ _ hst fun b hb u e => ?_
      exact hx b u (fun z => hnt b hb ps (by rw [z]; exact hP)) e
    · intro href hhref
      have key : ∀ (A' : Around) (iN : Nat) (v v' : Value) (s₂ : Shared) (m₂ : Str → Option Value), A'.handled = none → A'.units ≤ X.A.units + 8 → Pw iN #[v, v'] → s₂.heap.Ns h3.objs.size m₂ → m₂ x = some v → m₂ x' = some v' → (∀ b ∈ List.range h3.objs.size, b ∉ wr → ∀ o, href.get? b = some o → s₂.heap.get? b = some o) →
          ∃ x0 p w w', xs[iN]? = some x0 ∧ pairA x0 = some p ∧ QS X (genEnv scope (cloFrom X.env.cells scope.names []) h3.objs.size code builtinsNs X.env) A' ((σ.set i (some w)).set i' (some w')) H3 s₂ ∧ SR B ρ F ((sl.set i (some p.1)).set i' (some p.2)) ((σ.set i (some w)).set i' (some w')) := fun A' iN v v' s₂ m₂ hA hu hp hn hm hm' hk => by
        obtain ⟨v0, v0', w, w', ev, ew, rw', rw2⟩ := hPw iN _ hp
        obtain ⟨rfl, rfl⟩ : v = v0 ∧ v' = v0' := by simpa using ev
        obtain ⟨x0, p, ex0, ep0, rx0, rx1⟩ := rvs.2 iN w w' ew
        have kp : ∀ b o, h3.get? b = some o → b ∉ wr → s₂.heap.get? b = some o := fun b o e hb => hk b (List.mem_range.mpr (Heap.lt_size e)) hb o (hhref b o e)
        have kp1 : ∀ b o, b ≠ P → s1.heap.get? b = some o → s₂.heap.get? b = some o := fun b o hb e => kp b o (keep3 b o hb e) (nwr b o e)
        obtain ⟨psx, _, _, J⟩ := jinv s₂.heap s1.toks kp1 fun b o hb e => kp b o e (by
          rcases hb with rfl | rfl
          · exact nwr _ _ hPs
          · exact hccw)
        refine ⟨x0, p, w, w', ex0, ep0, qs_at (own := [x, x']) (U := X.A.units + 8) (by have := hr.un; omega) S I1 rfl hA hu J.hok ⟨ps, hP⟩ kp1 hbP hN hdot hn (fun j y u ej hy eu => ?_) (fun j y u ej hy eu => ?_), (sr.set rx0 i).set rx1 i'⟩
        · have hl : j < σ.length := by
            have := ix_lt eu
            rw [List.length_set, List.length_set] at this
            exact this
          rcases List.mem_cons.mp hy with z | z
          · subst z
            have hji : j = i := nd_at hN ej hi
            subst hji
            have hne : i' ≠ j := fun z => hxx (by rw [z, hi] at hi'; exact Option.some.inj hi')
            rw [List.getElem?_set_ne hne, List.getElem?_set_self hl] at eu
            cases eu
            exact ⟨v, hm, rw'⟩
          · obtain rfl : y = x' := by simpa using z
            have hji : j = i' := nd_at hN ej hi'
            subst hji
            rw [List.getElem?_set_self (by rw [List.length_set]; exact hl)] at eu
            cases eu
            exact ⟨v', hm', rw2⟩
        · have hji : i ≠ j := fun z => hy (by subst z; rw [hi] at ej; cases ej; simp)
          have hji' : i' ≠ j := fun z => hy (by subst z; rw [hi'] at ej; cases ej; simp)
          rw [List.getElem?_set_ne hji', List.getElem?_set_ne hji] at eu
          exact eu
      refine ⟨fun A' E' iN v v' s₂ m₂ hA hdp hu hp hn hm hm' hk => ?_, fun A' E' iN v v' s₂ m₂ hA hdp hu hp hpz hn hm hm' hk => ?_⟩
      · obtain ⟨x0, p, w, w', ex0, ep0, q, sr2⟩ := key A' iN v v' s₂ m₂ hA hu hp hn hm hm' hk
        have hx0 := List.all_eq_true.mp hok x0 (List.mem_of_getElem? ex0)
        simp only [ep0, Option.bind_some] at hx0
        cases kt : qt ((sl.set i (some p.1)).set i' (some p.2)) h with
        | none => simp only [kt] at hx0; cases hx0
        | some b =>
          have ep : pzOf xs (fun y => (pairA y).bind fun p => qt ((sl.set i (some p.1)).set i' (some p.2)) h) iN = b := by
            unfold pzOf
            rw [ex0]
            show decide (((pairA x0).bind fun p => qt ((sl.set i (some p.1)).set i' (some p.2)) h) = some true) = b
            rw [ep0, Option.bind_some, kt]
            cases b <;> rfl
          rw [ep]
          exact qts_run hts rfl q hR3 sr2 kt
      · obtain ⟨x0, p, w, w', ex0, ep0, q, sr2⟩ := key A' iN v v' s₂ m₂ hA hu hp hn hm hm' hk
        have hx0 := List.all_eq_true.mp hok x0 (List.mem_of_getElem? ex0)
        have ep : qt ((sl.set i (some p.1)).set i' (some p.2)) h = some true := by
          unfold pzOf at hpz
          rw [ex0] at hpz
          have z : ((pairA x0).bind fun p => qt ((sl.set i (some p.1)).set i' (some p.2)) h) = some true := of_decide_eq_true hpz
          rw [ep0, Option.bind_some] at z
          exact z
        simp only [ep0, Option.bind_some, ep] at hx0
        obtain ⟨a, ea⟩ := Option.isSome_iff_exists.mp hx0
        exact thn (hel _ A' _ s₂ ρ F h H3 _ _ a rfl q hR3 sr2 ea) fun y s3 ⟨r1, k1⟩ => ⟨⟨x0, a, ex0, by show ((pairA x0).bind fun p => qe ((sl.set i (some p.1)).set i' (some p.2)) h) = some a; rw [ep0, Option.bind_some]; exact ea, r1⟩, k1⟩
    · intro g h5 tk5 gs hgb hag hsz5 hk5 W5 hat
      have hpass := items_pass xs (fun y => (pairA y).bind fun p => qt ((sl.set i (some p.1)).set i' (some p.2)) h) (fun y => (pairA y).bind fun p => qe ((sl.set i (some p.1)).set i' (some p.2)) h) hok (List.range xs.length) fun j hj => List.mem_range.mp hj
      rw [filterMap_ix] at hpass
      have epass : passing (pzOf xs (fun y => (pairA y).bind fun p => qt ((sl.set i (some p.1)).set i' (some p.2)) h)) vs.length 0 = (List.range xs.length).filter (pzOf xs (fun y => (pairA y).bind fun p => qt ((sl.set i (some p.1)).set i' (some p.2)) h)) := by
        unfold passing
        rw [List.drop_zero, hlen]
      rw [epass] at W5
      rw [← hpass.1] at W5
      refine hQ g _ ⟨_, _, _, _, _, W5.in4_1, hat, ?_, ?_, fun s' hm => ?_⟩
      · intro b hb
        show b < h5.objs.size
        rw [hsz5]
        rcases List.mem_cons.mp hb with z | hb
        · rw [z]; exact Nat.lt_succ_self _
        · rcases List.mem_cons.mp hb with z | hb
          · rw [z]; exact Nat.lt_succ_of_lt hag
          · exact Nat.lt_succ_of_lt (Nat.lt_trans (List.mem_range.mp hb) hag)
      · rintro j y ⟨ii, e9, x0, a, ex0, ea, qa⟩
        obtain ⟨x1, a1, q1, q2, q3, q4⟩ := hpass.2 j ii e9
        rw [ex0] at q1
        cases q1
        have q3 : (fun y => (pairA y).bind fun p => qe ((sl.set i (some p.1)).set i' (some p.2)) h) x0 = some a1 := q3
        rw [q3] at ea
        cases ea
        exact ⟨a, q4, qa⟩
      · have kk : ∀ b o, h3.get? b = some o → b ∉ wr → s'.heap.get? b = some o := fun b o e hb => hm.heap b o (fun z => by
          rcases List.mem_cons.mp z with z | z
          · have hl := Heap.lt_size e
            rw [z] at hl
            exact Nat.lt_irrefl _ hl
          · exact hb z) (hk5 b o e)
        obtain ⟨psx, hPx, hPh, J⟩ := jinv s'.heap s'.toks (fun b o hb e => kk b o (keep3 b o hb e) (nwr b o e)) fun b o hb e => kk b o e (by
          rcases hb with rfl | rfl
          · exact nwr _ _ hPs
          · exact hccw)
        have J2 := GxR.inv_tab (more := #[]) (h' := s'.heap) (g' := s'.gens) (d' := s'.drawn) (t' := s'.toks) J hPx (fun b u _ e => e) (by rw [Array.append_empty]; exact hPh) (AllBare.movedS (I1.bare.push hgb) hm)
        have eH : upd H3 P (.tbl (psx ++ #[])) = H3 := funext fun b => by
          by_cases hb : b = P
          · rw [hb, upd_same, hPx, Array.append_empty]
          · rw [upd_ne hb]
        rw [eH] at J2
        have J3 : Inv X pins σ H3 s' := by
          have e9 := GxR.sh_eta { s1 with heap := s'.heap, toks := s'.toks } s' hm.os
          exact e9 ▸ J2
        exact ⟨H3, J3, hR3, eX⟩
  refine ⟨lim2, ?_⟩
  have hcP : cStatics ≠ P := fun e => by
    obtain ⟨_, hns, _⟩ := I1.nolimit
    obtain ⟨o', es, ep, ho, hd, _⟩ := hns
    rw [e, hPs] at ho
    cases ho
    cases hd
  cases hf : codeAmong gpos ps.toList with
  | none =>
    refine wpAny_genexprCodeX hcode (cd.code hP2 ht) (cd.tab hP2) hf fun c' h' tk hx hge hlt hco' hrec htab' _ => ?_
    obtain ⟨c2, oc, vs', t, e2, hoc, hd, hv⟩ := hrec
    cases e2
    have nC : H1 c' = none := I1.hok.fresh (Nat.le_trans hsz12 hge)
    have eL : (ps ++ #[rawInt gpos.line, rawInt gpos.col, .ref c']).toList = ps.toList ++ [rawInt gpos.line, rawInt gpos.col, .ref c'] := by simp
    have hE : LamX.ExtN H1 (upd (upd H1 P (.tbl (ps ++ #[rawInt gpos.line, rawInt gpos.col, .ref c']))) c' (LamX.CodeO c' (X.env.qual ++ "<genexpr>"))) := fun b o e n => by
      rw [upd_ne (ne_of_none e nC), upd_ne (fun z => n ps (Option.some.inj (e.symm.trans (by rw [z]; exact hP))))]
      exact e
    refine cont _ h' tk _ c' hx (Nat.le_trans hge (Nat.le_of_lt hlt)) (fun z => absurd (hwr2 _ z) (Nat.not_lt.mpr hge)) hlt (lim2.extBut hx hcP) hE (fun p hp => ?_) fun hh tk' k1 k2 => ?_
    · by_cases hb : p.1 = P
      · rw [huT p hp hb, hb]
        refine ⟨_, by rw [upd_ne (ne_of_none hP nC), upd_same], by rw [eL]; exact PySem.TriplesOk_snoc _ _ _ _ ht, fun p' cv hcv => ?_⟩
        rw [eL] at hcv
        rcases LamX.among_app _ ht hcv with z | z
        · obtain ⟨c0, e1, e2⟩ := ha p' cv z
          exact ⟨c0, e1, hE _ _ e2 LamX.codeO_ne⟩
        · exact ⟨c', z, upd_same⟩
      · obtain ⟨ps', a1, a2, a3⟩ := hR.tab p hp
        refine ⟨ps', by rw [upd_ne (ne_of_none a1 nC), upd_ne hb]; exact a1, a2, fun p' cv hcv => ?_⟩
        obtain ⟨c0, e1, e2⟩ := a3 p' cv hcv
        exact ⟨c0, e1, hE _ _ e2 LamX.codeO_ne⟩
    · have hPh := k2 P _ (.inl rfl) htab'.2
      exact ⟨_, by rw [upd_ne (ne_of_none hP nC), upd_same], hPh, LamX.inv_table (q := X.env.qual ++ "<genexpr>") I1 hP k1 hPh (Nat.le_trans hsz12 hge) ⟨oc, vs', t, k2 _ _ (.inr rfl) hoc, hd, hv⟩⟩
  | some cv =>
    refine wpAny_genexprCode_hit hcode (cd.code hP2 ht) hf ?_
    refine cont cv h2 tk2 H1 P (fun _ _ _ e => e) (Nat.le_refl _) (nwr _ _ hPs) (Nat.lt_of_lt_of_le hPlt hsz12) lim2 (LamX.ExtN.refl H1) hR.tab fun hh tk' k1 k2 => ?_
    have kall : ∀ b o, s1.heap.get? b = some o → hh.get? b = some o := fun b o e => by
      by_cases hb : b = P
      · subst hb; exact k2 _ _ (.inl rfl) (grow _ _ e)
      · exact k1 b o hb e
    exact ⟨ps, hP, kall _ _ hPs, I1.kept kall⟩
end
end NC
end S3
end
section
set_option Elab.async false
set_option linter.all false
set_option maxRecDepth 100000
set_option maxHeartbeats 4000000
namespace S3
open PySem PySem.Spec PyProof.Rows L2
noncomputable section NC
section
variable {B : Bx} {X : Cx} {W : WX}
/-! ### what eats a generator -/
def blsOf : List AV → Option (List Bool)
  | [] => some []
  | .bl b :: r => (blsOf r).map (b :: ·)
  | _ => none
theorem blsOf_at : ∀ {ys : List AV} {bs : List Bool}, blsOf ys = some bs → ys = bs.map AV.bl
  | [], bs, e => by cases e; rfl
  | a :: t, bs, e => by
    cases a with
    | bl b =>
      have e : (blsOf t).map (b :: ·) = some bs := e
      obtain ⟨cs, e1, rfl⟩ := Option.map_eq_some_iff.mp e
      rw [blsOf_at e1]; rfl
    | _ => cases e
theorem intsOf_eq : ∀ {ys : List AV} {ns : List Int}, intsOf ys = some ns → ys = ns.map AV.int
  | [], bs, e => by cases e; rfl
  | a :: t, bs, e => by
    cases a with
    | int b =>
      have e : (intsOf t).map (b :: ·) = some bs := e
      obtain ⟨cs, e1, rfl⟩ := Option.map_eq_some_iff.mp e
      rw [intsOf_eq e1]; rfl
    | _ => cases e
/-- fn eats what ys tells and gives what fin tells -/
def Eats (B : Bx) (X : Cx) (fn : String) (fin : List AV → Option AV) : Prop := ∀ (pins : List (Addr × Obj)) (σ : L2.St) (ρ : List Addr) (F : Hp) (h : AH) (H1 : Hp) (ys : List AV) (g : Addr) (s5 : Shared) (c : AV) (Q : VK), GReady B X pins σ ρ F h H1 ys g s5 → fin ys = some c →
  (∀ ρ' F' H' z, Ext ρ F H1 ρ' F' H' → HR B ρ' F' h H' → RV B ρ' F' c z → Q z H') → wpAny (model X.prog X.w) X.A (call (.builtin fn) [.ref g]) (EP X pins σ Q) X.xe s5
def gAny (ys : List AV) : Option AV := (blsOf ys).map fun bs => .bl (bs.any id)
def gAll (ys : List AV) : Option AV := (blsOf ys).map fun bs => .bl (bs.all id)
def gSumI (ys : List AV) : Option AV := (intsOf ys).map fun ns => .int ns.sum
theorem range_any' (bs : List Bool) : (List.range bs.length).any (fun j => bs[j]?.getD false) = bs.any id := by
  induction bs with
  | nil => rfl
  | cons b r ih =>
    rw [List.length_cons, List.range_succ_eq_map, List.any_cons, List.any_map, List.any_cons, ← ih]
    rfl
theorem range_all' (bs : List Bool) : (List.range bs.length).all (fun j => bs[j]?.getD true) = bs.all id := by
  induction bs with
  | nil => rfl
  | cons b r ih =>
    rw [List.length_cons, List.range_succ_eq_map, List.all_cons, List.all_map, List.all_cons, ← ih]
    rfl
theorem eats_any : Eats B X "any" gAny := by
  intro pins σ ρ F h H1 ys g s5 c Q R ef q
  obtain ⟨fp, wr, G, Fv, St, Wk, hst, hfp, hF, hI⟩ := R
  obtain ⟨bs, eb, rfl⟩ := Option.map_eq_some_iff.mp ef
  have ey := blsOf_at eb
  subst ey
  refine call_any_walkS (Wk.self 0 _ _ _ hst ⟨g, fp, wr, G, _, Fv, St, (fun j => bs[j]?.getD false), rfl, Wk, hst, fun j y sj Qj Ej hy hQj => ?_, fun s' hmv => ?_⟩)
  · obtain ⟨a, ea, qa⟩ := hF j y hy
    rw [List.getElem?_map] at ea
    obtain ⟨b, eb2, rfl⟩ := Option.map_eq_some_iff.mp ea
    rw [qv_bl qa]
    refine wpAny_truthy_bool ?_
    have hQj : Qj (bs[j]?.getD false) sj := hQj
    rw [eb2] at hQj
    exact hQj
  · obtain ⟨H2, J, hr2, ex⟩ := hI s' hmv
    refine ⟨.bl _, H2, J, rfl, q _ _ _ _ ex hr2 ?_⟩
    rw [List.length_map, range_any']
    exact rfl
theorem eats_all : Eats B X "all" gAll := by
  intro pins σ ρ F h H1 ys g s5 c Q R ef q
  obtain ⟨fp, wr, G, Fv, St, Wk, hst, hfp, hF, hI⟩ := R
  obtain ⟨bs, eb, rfl⟩ := Option.map_eq_some_iff.mp ef
  have ey := blsOf_at eb
  subst ey
  refine call_all_walkS (Wk.self 0 _ _ _ hst ⟨g, fp, wr, G, _, Fv, St, (fun j => bs[j]?.getD true), rfl, Wk, hst, fun j y sj Qj Ej hy hQj => ?_, fun s' hmv => ?_⟩)
  · obtain ⟨a, ea, qa⟩ := hF j y hy
    rw [List.getElem?_map] at ea
    obtain ⟨b, eb2, rfl⟩ := Option.map_eq_some_iff.mp ea
    rw [qv_bl qa]
    refine wpAny_truthy_bool ?_
    have hQj : Qj (bs[j]?.getD true) sj := hQj
    rw [eb2] at hQj
    exact hQj
  · obtain ⟨H2, J, hr2, ex⟩ := hI s' hmv
    refine ⟨.bl _, H2, J, rfl, q _ _ _ _ ex hr2 ?_⟩
    rw [List.length_map, range_all']
    exact rfl
theorem pre_sum : ∀ (ns : List Int) (n : Nat), n ≤ ns.length → preSum (fun j => ns[j]?.getD 0) n = (ns.take n).sum := by
  intro ns n
  induction n with
  | zero => intro _; rw [List.take_zero]; rfl
  | succ n ih =>
    intro hn
    have e : preSum (fun j => ns[j]?.getD 0) (n + 1) = preSum (fun j => ns[j]?.getD 0) n + ns[n]?.getD 0 := rfl
    rw [e, ih (by omega), List.take_succ, List.sum_append, List.getElem?_eq_getElem (by omega)]
    simp
theorem eats_sum : Eats B X "sum" gSumI := by
  intro pins σ ρ F h H1 ys g s5 c Q R ef q
  obtain ⟨fp, wr, G, Fv, St, Wk, hst, hfp, hF, hI⟩ := R
  obtain ⟨ns, eb, rfl⟩ := Option.map_eq_some_iff.mp ef
  have ey := intsOf_eq eb
  subst ey
  refine call_sum_walkAnyS (Wk.self 0 _ _ _ hst ⟨g, fp, wr, G, _, Fv, St, (fun j => ns[j]?.getD 0), rfl, Wk, hst, hfp, fun j y hy => ?_, fun s' t' hmv => ?_⟩)
  · obtain ⟨a, ea, qa⟩ := hF j y hy
    rw [List.getElem?_map] at ea
    obtain ⟨b, eb2, rfl⟩ := Option.map_eq_some_iff.mp ea
    obtain ⟨t, rfl⟩ := qv_int qa
    exact ⟨t, by show Value.int b t = Value.int (ns[j]?.getD 0) t; rw [eb2]; rfl⟩
  · obtain ⟨H2, J, hr2, ex⟩ := hI s' hmv
    refine ⟨.int _, H2, J, ⟨_, rfl⟩, q _ _ _ _ ex hr2 ?_⟩
    rw [List.length_map, pre_sum ns ns.length (Nat.le_refl _), List.take_length]
    exact rfl
/-! ### where the items come from -/
def GSN (B : Bx) (X : Cx) (W : WX) (iter : Expr) (mi : MA) : Prop := ∀ (pins : List (Addr × Obj)) (s : Shared) (σ : L2.St) (H : Hp) (R : List V → Hp → Prop), Inv X pins σ H s → tmA B W mi σ H R →
  wpAny (model X.prog X.w) X.A (eval iter X.env) (fun xv s1 => ∃ H1 vs, Inv X pins σ H1 s1 ∧ R vs H1 ∧ wpAny (model X.prog X.w) X.A (pyIter xv) (fun it s2 => WSrc X H1 vs s1 s2 it) X.xe s1) X.xe s
def GSU (B : Bx) (X : Cx) (W : WX) (iter : Expr) (mi : MA) : Prop := ∀ (pins : List (Addr × Obj)) (s : Shared) (σ : L2.St) (H : Hp) (R : List (V × V) → Hp → Prop), Inv X pins σ H s → tmG B (RPs B) W mi σ H R →
  wpAny (model X.prog X.w) X.A (eval iter X.env) (fun xv s1 => ∃ H1 vs, Inv X pins σ H1 s1 ∧ R vs H1 ∧ wpAny (model X.prog X.w) X.A (pyIter xv) (fun it s2 => WSrcU X H1 vs s1 s2 it) X.xe s1) X.xe s
def mSeqI (m : ME) : MA := fun s h => (m s h).bind fun a h1 => match vSq h1 a with
  | some xs => .ok xs h1
  | none => .stk
theorem gsn_seq {e : Expr} {m : ME} (he : SE B X W e m) (hK : X.K = B.K := by rfl) : GSN B X W e (mSeqI m) := by
  intro pins s σ H R I h
  obtain ⟨ρ, F, h0, s0, sr, hr, p⟩ := h
  have run := he.run pins s σ H (fun x H1 => ∃ q vs, x = .ref q ∧ (SqL X.K H1 q vs ∨ SqT X.K H1 q vs) ∧ R vs H1) I ⟨ρ, F, h0, s0, sr, hr, p.andThen fun a h1 ρ1 F1 H1 x _ e1 hr1 ra p1 => by
    cases k : vSq h1 a with
    | none => simp only [k] at p1; exact p1.elim
    | some xs =>
      simp only [k] at p1
      obtain ⟨q, vs, ex, sq, rs⟩ := vSq_at hr1 ra k
      exact ⟨q, vs, ex, by rw [hK]; exact sq, p1 _ _ _ _ Ext.refl hr1 rs⟩⟩
  refine thn run fun xv s1 ⟨x, H1, I1, r1, q, vs, ex, sq, hR⟩ => ⟨H1, vs, I1, hR, ?_⟩
  subst ex
  obtain rfl : xv = Value.ref q := r1
  rcases sq with sq | sq
  · obtain ⟨its, rv, pl, _⟩ := I1.list sq
    have hl := pl.isList
    have hlen : vs.length = its.toArray.size := by rw [List.size_toArray]; exact rv.length
    obtain ⟨ob, eo, _⟩ := id hl
    have hlt := Heap.lt_size eo
    refine wpAny_pyIter_list hl ⟨⟨s1.heap.objs.size, [s1.heap.objs.size, q], [s1.heap.objs.size], (fun i v => its.toArray[i]? = some v), (fun i h => h.IsListIter s1.heap.objs.size q i ∧ h.IsList q its.toArray), rfl, fun A' hA => by rw [hlen]; exact Walks.list hA _ _ (Nat.ne_of_lt hlt) its.toArray, fun i v hv => Vals.at rv (by simpa using hv), ⟨⟨_, Heap.get?_push_size _ rfl, rfl, rfl⟩, hl.push _⟩, fun b hb => ?_, fun b hb => ?_, fun b hb ps hps => ?_⟩,
      ⟨_, s1.toks, rfl, fun b o e => Heap.get?_push_of_some _ e, by rw [Heap.size_push]; exact Nat.le_succ _⟩⟩
    · show b < (s1.heap.push _).objs.size
      rw [Heap.size_push]
      rcases List.mem_cons.mp hb with z | hb
      · rw [z]; exact Nat.lt_succ_self _
      · obtain rfl : b = q := by simpa using hb
        exact Nat.lt_succ_of_lt hlt
    · obtain rfl : b = s1.heap.objs.size := by simpa using hb
      exact Nat.le_refl _
    · rcases List.mem_cons.mp hb with z | hb
      · rw [z, I1.hok.fresh (Nat.le_refl _)] at hps
        cases hps
      · obtain rfl : b = q := by simpa using hb
        have := I1.hok _ _ hps
        obtain ⟨o2, e2, c2, _⟩ := hl
        rw [show s1.heap.get? b = _ from this] at e2
        cases e2
        cases c2
  · obtain ⟨its, rv, ht, _⟩ := I1.tuple sq
    have hlen : vs.length = its.toArray.size := by rw [List.size_toArray]; exact rv.length
    obtain ⟨ob, eo, hcl, _⟩ := id ht
    have hlt := Heap.lt_size eo
    refine wpAny_pyIter_tuple ht ⟨⟨s1.heap.objs.size, [s1.heap.objs.size, q], [s1.heap.objs.size], (fun i v => its.toArray[i]? = some v), (fun i h => h.IsTupleIter s1.heap.objs.size q i ∧ h.IsTuple q its.toArray), rfl, fun A' hA => by rw [hlen]; exact Walks.tuple hA _ _ (Nat.ne_of_lt hlt) its.toArray, fun i v hv => Vals.at rv (by simpa using hv), ⟨⟨_, Heap.get?_push_size _ rfl, rfl, rfl⟩, ht.push _⟩, fun b hb => ?_, fun b hb => ?_, fun b hb ps hps => ?_⟩,
      ⟨_, s1.toks, rfl, fun b o e => Heap.get?_push_of_some _ e, by rw [Heap.size_push]; exact Nat.le_succ _⟩⟩
    · show b < (s1.heap.push _).objs.size
      rw [Heap.size_push]
      rcases List.mem_cons.mp hb with z | hb
      · rw [z]; exact Nat.lt_succ_self _
      · obtain rfl : b = q := by simpa using hb
        exact Nat.lt_succ_of_lt hlt
    · obtain rfl : b = s1.heap.objs.size := by simpa using hb
      exact Nat.le_refl _
    · rcases List.mem_cons.mp hb with z | hb
      · rw [z, I1.hok.fresh (Nat.le_refl _)] at hps
        cases hps
      · obtain rfl : b = q := by simpa using hb
        have := I1.hok _ _ hps
        rw [show s1.heap.get? b = _ from this] at eo
        cases eo
        cases hcl
end
end NC
end S3
end
section
set_option Elab.async false
set_option linter.all false
set_option maxRecDepth 100000
set_option maxHeartbeats 4000000
namespace S3
open PySem PySem.Spec PyProof.Rows L2
noncomputable section NC
/-- a walk over tuples that lie there -/
theorem walks_toU {prog : Program} {w : World} {A : Around} {I : Addr} {fp wr : List Addr} {n : Nat} {P : Nat → Value → Prop} {St : Nat → Heap → Prop} (W : Walks prog w A I fp wr n P St) (Ts : Nat → Addr) (tv : Nat → Array Value) (hP : ∀ i v, i < n → P i v → v = .ref (Ts i)) (hT : ∀ k, k < n → Ts k ∉ wr)
    (hgo : ∀ i h, St i h → ∃ o nm vs, h.get? I = some o ∧ o.cls = .type nm ∧ o.data = .fields vs ∧ ["enumerate", "zip", "dict_itemiterator", "dict_reverseitemiterator", "odict_iterator", "itertools.zip_longest", "itertools.pairwise"].contains nm = false) :
    WalksU prog w A I (fp ++ (List.range n).map Ts) wr n (fun j vals => j < n ∧ vals = tv j) (fun i h => St i h ∧ ∀ k, k < n → h.IsTuple (Ts k) (tv k)) (fun j T h => (j < n ∧ T = Ts j) ∧ St (j + 1) h ∧ ∀ k, k < n → h.IsTuple (Ts k) (tv k)) where
  sub := fun b hb => List.mem_append_left _ (W.sub b hb)
  frame := fun i h h' st hk => ⟨W.frame i h h' st.1 fun b hb => hk b (List.mem_append_left _ hb), fun k hkn => (st.2 k hkn).at fun o e => hk _ (List.mem_append_right _ (List.mem_map_of_mem (f := Ts) (List.mem_range.mpr hkn))) o e⟩
  item := fun i s Q E hi st hQ => W.item i s Q E hi st.1 fun v h' tk hp hst hk => by
    have e := hP i v hi hp
    subst e
    have ht : ∀ k, k < n → h'.IsTuple (Ts k) (tv k) := fun k hkn => (st.2 k hkn).at fun o e => hk _ o (hT k hkn) e
    exact hQ (Ts i) (tv i) h' tk ⟨hi, rfl⟩ (ht i hi) ⟨⟨hi, rfl⟩, hst, ht⟩ hk
  go := fun elts k pos i T s Q E mid hQ => by
    obtain ⟨o, nm, vs, ho, hc, hd, hn⟩ := hgo _ _ mid.2.1
    exact go_of ho hc hd hn (hQ s.heap mid.2 fun _ _ _ e => e)
  apart := fun i T h mid => by
    rw [mid.1.2]
    exact hT i mid.1.1
  done := fun s Q E st hQ => W.done s Q E st.1 hQ
  self := fun i s Q E st hQ => W.self i s Q E st.1 hQ
section
variable {B : Bx} {X : Cx} {W : WX}
def mSeqP (m : ME) : MA := fun s h => (m s h).bind fun a h1 => match vSq h1 a with
  | some xs => if (xs.all fun x => (pairA x).isSome) = true then .ok xs h1 else .stk
  | none => .stk
/-- the pairs behind a list of pairs -/
theorem pairs_at {ρ : List Addr} {F H : Hp} {h : AH} {xs : List AV} {vs : List V} (hr : HR B ρ F h H) (rs : RVs B ρ F xs vs) (hp : (xs.all fun x => (pairA x).isSome) = true) : ∃ (Ts : Nat → Addr) (ps : List (V × V)), RPs B ρ F xs ps ∧ ∀ (i : Nat) (v : V), vs[i]? = some v → v = .ref (Ts i) ∧ ∃ y z, ps[i]? = some (y, z) ∧ SqT B.K H (Ts i) [y, z] := by
  induction xs generalizing vs with
  | nil =>
    have rs : vs = [] := rs
    subst rs
    exact ⟨fun _ => 0, [], ⟨rfl, fun i y z e => by cases e⟩, fun i v e => by cases e⟩
  | cons x r ih =>
    obtain ⟨v, w, rfl, r1, r2⟩ := rs
    rw [List.all_cons, Bool.and_eq_true] at hp
    obtain ⟨Ts, ps, ⟨q1, q2⟩, q3⟩ := ih r2 hp.2
    obtain ⟨p, ep⟩ := Option.isSome_iff_exists.mp hp.1
    have key : ∃ T y z, v = .ref T ∧ SqT B.K H T [y, z] ∧ RV B ρ F p.1 y ∧ RV B ρ F p.2 z := by
      unfold pairA at ep
      split at ep
      · cases ep
        obtain ⟨T, us, ev, hT, ru⟩ := r1
        obtain ⟨y, z, rfl, ry, rz⟩ := ru.two
        exact ⟨T, y, z, ev, .inl (.inl (hr.sub _ _ hT)), ry, rz⟩
      · cases ep
        obtain ⟨T, us, ev, hT, ru⟩ := r1
        obtain ⟨y, z, rfl, ry, rz⟩ := ru.two
        exact ⟨T, y, z, ev, hr.sqT hT, ry, rz⟩
      · cases ep
    obtain ⟨T, y, z, ev, hT, ry, rz⟩ := key
    refine ⟨fun i => match i with | 0 => T | i + 1 => Ts i, (y, z) :: ps, ⟨by rw [List.length_cons, List.length_cons, q1], fun i y' z' e => ?_⟩, fun i v' e => ?_⟩
    · cases i with
      | zero => cases e; exact ⟨x, p, rfl, ep, ry, rz⟩
      | succ i => exact q2 i y' z' e
    · cases i with
      | zero => cases e; exact ⟨ev, y, z, rfl, hT⟩
      | succ i => exact q3 i v' e
theorem gsu_seq {e : Expr} {m : ME} (he : SE B X W e m) (hK : X.K = B.K := by rfl) : GSU B X W e (mSeqP m) := by
  intro pins s σ H R I h
  obtain ⟨ρ, F, h0, s0, sr, hr, p⟩ := h
  have run := he.run pins s σ H (fun x H1 => ∃ (q : Addr) (vs : List V) (Ts : Nat → Addr) (ps : List (V × V)), x = .ref q ∧ (SqL X.K H1 q vs ∨ SqT X.K H1 q vs) ∧ (∀ (i : Nat) (v : V), vs[i]? = some v → v = .ref (Ts i) ∧ ∃ y z, ps[i]? = some (y, z) ∧ SqT B.K H1 (Ts i) [y, z]) ∧ vs.length = ps.length ∧ R ps H1) I ⟨ρ, F, h0, s0, sr, hr, p.andThen fun a h1 ρ1 F1 H1 x _ e1 hr1 ra p1 => by
    cases k : vSq h1 a with
    | none => simp only [k] at p1; exact p1.elim
    | some xs =>
      simp only [k] at p1
      split at p1
      · rename_i hp
        obtain ⟨q, vs, ex, sq, rs⟩ := vSq_at hr1 ra k
        obtain ⟨Ts, ps, rp, hT⟩ := pairs_at hr1 rs hp
        exact ⟨q, vs, Ts, ps, ex, by rw [hK]; exact sq, hT, by rw [← RVs.length rs, rp.1], p1 _ _ _ _ Ext.refl hr1 rp⟩
      · exact p1.elim⟩
  refine thn run fun xv s1 ⟨x, H1, I1, r1, q, vs, Ts, ps, ex, sq, hT, hlv, hR⟩ => ⟨H1, ps, I1, hR, ?_⟩
  subst ex
  obtain rfl : xv = Value.ref q := r1
  -- the tuples as they lie
  have tups : ∀ (i : Nat), i < ps.length → ∃ va vb y z, s1.heap.IsTuple (Ts i) #[va, vb] ∧ ps[i]? = some (y, z) ∧ RelV y va ∧ RelV z vb := fun i hi => by
    have hi' : i < vs.length := by omega
    obtain ⟨_, y, z, ep, ht⟩ := hT i _ (List.getElem?_eq_getElem hi')
    obtain ⟨its, rv, pl, _⟩ := I1.tuple (by rw [hK]; exact ht)
    obtain ⟨va, vb, rfl, ra, rb⟩ : ∃ va vb, its = [va, vb] ∧ RelV y va ∧ RelV z vb := by
      cases rv with
      | cons p q => cases q with
        | cons p' q' => cases q'; exact ⟨_, _, rfl, p, p'⟩
    exact ⟨va, vb, y, z, pl, ep, ra, rb⟩
  have tsel : ∃ tv : Nat → Array Value, ∀ i, i < ps.length → s1.heap.IsTuple (Ts i) (tv i) ∧ ∃ va vb y z, tv i = #[va, vb] ∧ ps[i]? = some (y, z) ∧ RelV y va ∧ RelV z vb := by
    refine ⟨fun i => if hi : i < ps.length then #[(tups i hi).choose, (tups i hi).choose_spec.choose] else #[], fun i hi => ?_⟩
    have c := (tups i hi).choose_spec.choose_spec
    have ed : (fun i => if hi : i < ps.length then #[(tups i hi).choose, (tups i hi).choose_spec.choose] else #[]) i = #[(tups i hi).choose, (tups i hi).choose_spec.choose] := dif_pos hi
    rw [ed]
    obtain ⟨y, z, c1, c2, c3, c4⟩ := c
    exact ⟨c1, _, _, y, z, rfl, c2, c3, c4⟩
  obtain ⟨tv, htv⟩ := tsel
  have tlt : ∀ k, k < ps.length → Ts k < s1.heap.objs.size := fun k hk => by
    obtain ⟨⟨o, eo, _⟩, _⟩ := htv k hk
    exact Heap.lt_size eo
  have tnt : ∀ k, k < ps.length → ∀ qs, H1 (Ts k) ≠ some (.tbl qs) := fun k hk qs hq => by
    obtain ⟨⟨o, eo, hc, _⟩, _⟩ := htv k hk
    have := I1.hok _ _ hq
    rw [show s1.heap.get? (Ts k) = _ from this] at eo
    cases eo
    cases hc
  rcases sq with sq | sq
  · obtain ⟨its, rv, pl, _⟩ := I1.list sq
    have hl := pl.isList
    have hlen : ps.length = its.toArray.size := by rw [List.size_toArray, ← hlv]; exact rv.length
    obtain ⟨ob, eo, _⟩ := id hl
    have hlt := Heap.lt_size eo
    have hitP : ∀ i v, i < ps.length → its.toArray[i]? = some v → v = .ref (Ts i) := fun i v hi hv => by
      obtain ⟨x, ex, rx⟩ := Vals.at rv (by simpa using hv)
      obtain ⟨e1, _⟩ := hT i x ex
      subst e1
      exact rx
    refine wpAny_pyIter_list hl ⟨⟨s1.heap.objs.size, [s1.heap.objs.size, q] ++ (List.range ps.length).map Ts, [s1.heap.objs.size], (fun j vals => j < ps.length ∧ vals = tv j), (fun i h => (h.IsListIter s1.heap.objs.size q i ∧ h.IsList q its.toArray) ∧ ∀ k, k < ps.length → h.IsTuple (Ts k) (tv k)), (fun j T h => (j < ps.length ∧ T = Ts j) ∧ (h.IsListIter s1.heap.objs.size q (j + 1) ∧ h.IsList q its.toArray) ∧ ∀ k, k < ps.length → h.IsTuple (Ts k) (tv k)), rfl,
      fun A' hA => walks_toU (by rw [hlen]; exact Walks.list hA _ _ (Nat.ne_of_lt hlt) its.toArray) Ts tv hitP (fun k hk z => ?_) (fun i h st => ?_), fun i vals ⟨hi, ev⟩ => ?_, ⟨⟨⟨_, Heap.get?_push_size _ rfl, rfl, rfl⟩, hl.push _⟩, fun k hk => (htv k hk).1.push _⟩, fun b hb => ?_, fun b hb => ?_, fun b hb qs hq => ?_⟩,
      ⟨_, s1.toks, rfl, fun b o e => Heap.get?_push_of_some _ e, by rw [Heap.size_push]; exact Nat.le_succ _⟩⟩
    · have := tlt k hk
      rw [show Ts k = s1.heap.objs.size by simpa using z] at this
      exact Nat.lt_irrefl _ this
    · obtain ⟨⟨o, e1, e2, e3⟩, _⟩ := st
      exact ⟨o, _, _, e1, e2, e3, by decide⟩
    · obtain ⟨_, va, vb, y, z, e1, e2, e3, e4⟩ := htv i hi
      exact ⟨va, vb, y, z, ev.trans e1, e2, e3, e4⟩
    · show b < (s1.heap.push _).objs.size
      rw [Heap.size_push]
      rcases List.mem_append.mp hb with hb | hb
      · rcases List.mem_cons.mp hb with z | hb
        · rw [z]; exact Nat.lt_succ_self _
        · obtain rfl : b = q := by simpa using hb
          exact Nat.lt_succ_of_lt hlt
      · obtain ⟨k, hk, rfl⟩ := List.mem_map.mp hb
        exact Nat.lt_succ_of_lt (tlt k (List.mem_range.mp hk))
    · obtain rfl : b = s1.heap.objs.size := by simpa using hb
      exact Nat.le_refl _
    · rcases List.mem_append.mp hb with hb | hb
      · rcases List.mem_cons.mp hb with z | hb
        · rw [z, I1.hok.fresh (Nat.le_refl _)] at hq
          cases hq
        · obtain rfl : b = q := by simpa using hb
          have := I1.hok _ _ hq
          obtain ⟨o2, e2, c2, _⟩ := hl
          rw [show s1.heap.get? b = _ from this] at e2
          cases e2
          cases c2
      · obtain ⟨k, hk, rfl⟩ := List.mem_map.mp hb
        exact tnt k (List.mem_range.mp hk) qs hq
  · obtain ⟨its, rv, ht, _⟩ := I1.tuple sq
    have hlen : ps.length = its.toArray.size := by rw [List.size_toArray, ← hlv]; exact rv.length
    obtain ⟨ob, eo, hcl, _⟩ := id ht
    have hlt := Heap.lt_size eo
    have hitP : ∀ i v, i < ps.length → its.toArray[i]? = some v → v = .ref (Ts i) := fun i v hi hv => by
      obtain ⟨x, ex, rx⟩ := Vals.at rv (by simpa using hv)
      obtain ⟨e1, _⟩ := hT i x ex
      subst e1
      exact rx
    refine wpAny_pyIter_tuple ht ⟨⟨s1.heap.objs.size, [s1.heap.objs.size, q] ++ (List.range ps.length).map Ts, [s1.heap.objs.size], (fun j vals => j < ps.length ∧ vals = tv j), (fun i h => (h.IsTupleIter s1.heap.objs.size q i ∧ h.IsTuple q its.toArray) ∧ ∀ k, k < ps.length → h.IsTuple (Ts k) (tv k)), (fun j T h => (j < ps.length ∧ T = Ts j) ∧ (h.IsTupleIter s1.heap.objs.size q (j + 1) ∧ h.IsTuple q its.toArray) ∧ ∀ k, k < ps.length → h.IsTuple (Ts k) (tv k)), rfl,
      fun A' hA => walks_toU (by rw [hlen]; exact Walks.tuple hA _ _ (Nat.ne_of_lt hlt) its.toArray) Ts tv hitP (fun k hk z => ?_) (fun i h st => ?_), fun i vals ⟨hi, ev⟩ => ?_, ⟨⟨⟨_, Heap.get?_push_size _ rfl, rfl, rfl⟩, ht.push _⟩, fun k hk => (htv k hk).1.push _⟩, fun b hb => ?_, fun b hb => ?_, fun b hb qs hq => ?_⟩,
      ⟨_, s1.toks, rfl, fun b o e => Heap.get?_push_of_some _ e, by rw [Heap.size_push]; exact Nat.le_succ _⟩⟩
    · have := tlt k hk
      rw [show Ts k = s1.heap.objs.size by simpa using z] at this
      exact Nat.lt_irrefl _ this
    · obtain ⟨⟨o, e1, e2, e3⟩, _⟩ := st
      exact ⟨o, _, _, e1, e2, e3, by decide⟩
    · obtain ⟨_, va, vb, y, z, e1, e2, e3, e4⟩ := htv i hi
      exact ⟨va, vb, y, z, ev.trans e1, e2, e3, e4⟩
    · show b < (s1.heap.push _).objs.size
      rw [Heap.size_push]
      rcases List.mem_append.mp hb with hb | hb
      · rcases List.mem_cons.mp hb with z | hb
        · rw [z]; exact Nat.lt_succ_self _
        · obtain rfl : b = q := by simpa using hb
          exact Nat.lt_succ_of_lt hlt
      · obtain ⟨k, hk, rfl⟩ := List.mem_map.mp hb
        exact Nat.lt_succ_of_lt (tlt k (List.mem_range.mp hk))
    · obtain rfl : b = s1.heap.objs.size := by simpa using hb
      exact Nat.le_refl _
    · rcases List.mem_append.mp hb with hb | hb
      · rcases List.mem_cons.mp hb with z | hb
        · rw [z, I1.hok.fresh (Nat.le_refl _)] at hq
          cases hq
        · obtain rfl : b = q := by simpa using hb
          have := I1.hok _ _ hq
          rw [show s1.heap.get? b = _ from this] at eo
          cases eo
          cases hcl
      · obtain ⟨k, hk, rfl⟩ := List.mem_map.mp hb
        exact tnt k (List.mem_range.mp hk) qs hq
/-! ### the rules -/
def mGenN (fin : List AV → Option AV) (mi : MA) (i : Nat) (qt : QT) (qe : QE) : ME := fun s h => (mi s h).bind fun xs h1 =>
  if itemsOk xs (fun a => qt (s.set i (some a)) h1) (fun a => qe (s.set i (some a)) h1) = true then ofO (fin (xs.filterMap (itemG (fun a => qt (s.set i (some a)) h1) (fun a => qe (s.set i (some a)) h1)))) h1 else .stk
def mGenU (fin : List AV → Option AV) (mi : MA) (i i' : Nat) (qt : QT) (qe : QE) : ME := fun s h => (mi s h).bind fun xs h1 =>
  if itemsOk xs (fun y => (pairA y).bind fun p => qt ((s.set i (some p.1)).set i' (some p.2)) h1) (fun y => (pairA y).bind fun p => qe ((s.set i (some p.1)).set i' (some p.2)) h1) = true then
    ofO (fin (xs.filterMap (itemG (fun y => (pairA y).bind fun p => qt ((s.set i (some p.1)).set i' (some p.2)) h1) (fun y => (pairA y).bind fun p => qe ((s.set i (some p.1)).set i' (some p.2)) h1)))) h1 else .stk
/-- what the maker of a generator must have -/
structure GenX (B : Bx) (X : Cx) (c P : Addr) : Prop where
  TB : LamX.TabB X.base X.mg c P
  hcode : X.env.code = .ref c
  hmT : (P, X.env.qual ++ "<genexpr>") ∈ B.T
  huT : ∀ p ∈ B.T, p.1 = P → p.2 = X.env.qual ++ "<genexpr>"
section
variable {c P : Addr} {elt iter : Expr} {x x' : Str} {ifs : List Expr} {px px' pt p pos gpos : Pos} {kt : Nat} {scope : Scope} {k i i' : Nat} {qt : QT} {qe : QE} {mi : MA} {fn : String} {fin : List AV → Option AV} {fs : Str}
theorem se_genN (hE : Eats B X fn fin) (hg : Gl X fs) (hm : X.mg fs = none) (hv : bootBuiltins fs = some (.builtin fn)) (GX : GenX B X c P) (hr : Room k X.A) (S : GScope X.env.scope scope [x]) (hN : X.N.Nodup) (hdot : (".0" : Str) ∉ X.N) (hsrc : GSN B X W iter mi) (hts : QTs B X scope ifs qt) (hel : SQ B X scope elt qe)
    (hi : X.N[i]? = some x := by rfl) (hs : ∀ v, genFold iter X.env v = pure v := by intro _; rfl) (hnn : fs ≠ "__name__" := by decide) (hdb : (fs == ("__debug__" : Str)) = false := by decide)
    (he : starEach [.GeneratorExp elt [⟨.Name x px, iter, ifs, 0⟩] scope gpos] X.env = (false, eval (.GeneratorExp elt [⟨.Name x px, iter, ifs, 0⟩] scope gpos) X.env) :: starEach [] X.env := by rfl) :
    SE B X W (.Call (.Name fs p) [.GeneratorExp elt [⟨.Name x px, iter, ifs, 0⟩] scope gpos] [] pos) (mGenN fin mi i qt qe) := by
  refine ⟨fun pins s σ H Q I hh => ?_⟩
  obtain ⟨ρ, F, h, sl, sr, hR, pp⟩ := hh
  refine wpAny_Call_Name_kw (ld_blt I hg hm hv ?_ hnn hdb)
  refine PyProof.Rows.callWith_builtin1 ?_ he (by rfl)
  rw [he]
  show wpAny _ _ (spliced ((false, eval (.GeneratorExp elt [⟨.Name x px, iter, ifs, 0⟩] scope gpos) X.env) :: backTo pos (starEach [] X.env))) _ _ s
  refine Calls.spliced_cons (gen_name (B := B) (qt := qt) (qe := qe) hr GX.TB GX.hcode GX.hmT GX.huT S hN hi hdot hts hel hs I ?_)
  refine thn (hsrc pins s σ H (fun vs H1 => ∃ ρ F h xs, SR B ρ F sl σ ∧ HR B ρ F h H1 ∧ RVs B ρ F xs vs ∧ Post B (RV B) ρ F H1 (if itemsOk xs (fun a => qt (sl.set i (some a)) h) (fun a => qe (sl.set i (some a)) h) = true then ofO (fin (xs.filterMap (itemG (fun a => qt (sl.set i (some a)) h) (fun a => qe (sl.set i (some a)) h)))) h else .stk) Q (fun cls d H' => W cls d σ H')) I
    ⟨ρ, F, h, sl, sr, hR, pp.andThen fun xs h1 ρ1 F1 H1 vs _ e1 hr1 rs p1 => ⟨ρ1, F1, h1, xs, sr.ext e1, hr1, rs, p1⟩⟩) fun xv s1 ⟨H1, vs, I1, ⟨ρ1, F1, h1, xs, sr1, hr1, rs, p1⟩, hpi⟩ => ?_
  split at p1
  · rename_i ok
    refine ⟨ρ1, F1, h1, H1, sl, xs, vs, I1, sr1, hr1, rs, ok, hpi, fun g s5 R => Calls.spliced_nil ?_⟩
    obtain ⟨cc, ec, q⟩ := ofO_post p1
    exact hE pins σ ρ1 F1 h1 H1 _ g s5 cc Q R ec q
  · exact p1.elim
theorem se_genU (hE : Eats B X fn fin) (hg : Gl X fs) (hm : X.mg fs = none) (hv : bootBuiltins fs = some (.builtin fn)) (GX : GenX B X c P) (hr : Room k X.A) (S : GScope X.env.scope scope [x, x']) (hN : X.N.Nodup) (hdot : (".0" : Str) ∉ X.N) (hsrc : GSU B X W iter mi) (hts : QTs B X scope ifs qt) (hel : SQ B X scope elt qe)
    (hi : X.N[i]? = some x := by rfl) (hi' : X.N[i']? = some x' := by rfl) (hxx : x ≠ x' := by decide) (hs : ∀ v, genFold iter X.env v = pure v := by intro _; rfl) (hnn : fs ≠ "__name__" := by decide) (hdb : (fs == ("__debug__" : Str)) = false := by decide)
    (he : starEach [.GeneratorExp elt [⟨.Tuple [.Name x px, .Name x' px'] kt pt, iter, ifs, 0⟩] scope gpos] X.env = (false, eval (.GeneratorExp elt [⟨.Tuple [.Name x px, .Name x' px'] kt pt, iter, ifs, 0⟩] scope gpos) X.env) :: starEach [] X.env := by rfl) :
    SE B X W (.Call (.Name fs p) [.GeneratorExp elt [⟨.Tuple [.Name x px, .Name x' px'] kt pt, iter, ifs, 0⟩] scope gpos] [] pos) (mGenU fin mi i i' qt qe) := by
  refine ⟨fun pins s σ H Q I hh => ?_⟩
  obtain ⟨ρ, F, h, sl, sr, hR, pp⟩ := hh
  refine wpAny_Call_Name_kw (ld_blt I hg hm hv ?_ hnn hdb)
  refine PyProof.Rows.callWith_builtin1 ?_ he (by rfl)
  rw [he]
  show wpAny _ _ (spliced ((false, eval (.GeneratorExp elt [⟨.Tuple [.Name x px, .Name x' px'] kt pt, iter, ifs, 0⟩] scope gpos) X.env) :: backTo pos (starEach [] X.env))) _ _ s
  refine Calls.spliced_cons (gen_pair (B := B) (qt := qt) (qe := qe) hr GX.TB GX.hcode GX.hmT GX.huT S hN hi hi' hxx hdot hts hel hs I ?_)
  refine thn (hsrc pins s σ H (fun vs H1 => ∃ ρ F h xs, SR B ρ F sl σ ∧ HR B ρ F h H1 ∧ RPs B ρ F xs vs ∧ Post B (RV B) ρ F H1 (if itemsOk xs (fun y => (pairA y).bind fun p => qt ((sl.set i (some p.1)).set i' (some p.2)) h) (fun y => (pairA y).bind fun p => qe ((sl.set i (some p.1)).set i' (some p.2)) h) = true then
      ofO (fin (xs.filterMap (itemG (fun y => (pairA y).bind fun p => qt ((sl.set i (some p.1)).set i' (some p.2)) h) (fun y => (pairA y).bind fun p => qe ((sl.set i (some p.1)).set i' (some p.2)) h)))) h else .stk) Q (fun cls d H' => W cls d σ H')) I
    ⟨ρ, F, h, sl, sr, hR, Post.andThen (k := fun xs h1 => if itemsOk xs (fun y => (pairA y).bind fun p => qt ((sl.set i (some p.1)).set i' (some p.2)) h1) (fun y => (pairA y).bind fun p => qe ((sl.set i (some p.1)).set i' (some p.2)) h1) = true then
      ofO (fin (xs.filterMap (itemG (fun y => (pairA y).bind fun p => qt ((sl.set i (some p.1)).set i' (some p.2)) h1) (fun y => (pairA y).bind fun p => qe ((sl.set i (some p.1)).set i' (some p.2)) h1)))) h1 else .stk) pp fun xs h1 ρ1 F1 H1 vs _ e1 hr1 rs p1 => ⟨ρ1, F1, h1, xs, sr.ext e1, hr1, rs, p1⟩⟩) fun xv s1 ⟨H1, vs, I1, ⟨ρ1, F1, h1, xs, sr1, hr1, rs, p1⟩, hpi⟩ => ?_
  split at p1
  · rename_i ok
    refine ⟨ρ1, F1, h1, H1, sl, xs, vs, I1, sr1, hr1, rs, ok, hpi, fun g s5 R => Calls.spliced_nil ?_⟩
    obtain ⟨cc, ec, q⟩ := ofO_post p1
    exact hE pins σ ρ1 F1 h1 H1 _ g s5 cc Q R ec q
  · exact p1.elim
end
end
end NC
end S3
end
section
set_option Elab.async false
set_option linter.all false
set_option maxRecDepth 100000
set_option maxHeartbeats 4000000
namespace S3
open PySem PySem.Spec PyProof.Rows L2
noncomputable section NC
section
variable {B : Bx} {X : Cx} {W : WX} {sc : Scope}
/-! ### and, or, not as values, quietly -/
def qAndE (a b : QE) : QE := fun s h => (a s h).bind fun x => match x with
  | .bl true => b s h
  | .bl false => some (.bl false)
  | _ => none
def qOrE (a b : QE) : QE := fun s h => (a s h).bind fun x => match x with
  | .bl true => some (.bl true)
  | .bl false => b s h
  | _ => none
def qNotE (a : QE) : QE := fun s h => (a s h).bind fun x => match x with
  | .bl b => some (.bl (!b))
  | _ => none
theorem sq_one {op : BoolOp} {e : Expr} {q : QE} {pos : Pos} (h : SQ B X sc e q) : SQ B X sc (.BoolOp op [e] pos) q := fun cenv A' E' s ρ F hh H sl σ a es qs hr sr ea => BoolOp_one (h cenv A' E' s ρ F hh H sl σ a es qs hr sr ea)
theorem sq_and {a b : Expr} {r : List Expr} {p q : QE} {pos : Pos} (ha : SQ B X sc a p) (hb : SQ B X sc (.BoolOp .And (b :: r) pos) q) : SQ B X sc (.BoolOp .And (a :: b :: r) pos) (qAndE p q) := by
  intro cenv A' E' s ρ F h H sl σ d es qs hr sr e
  have e : ((p sl h).bind fun x => match x with
    | .bl true => q sl h
    | .bl false => some (.bl false)
    | _ => none) = some d := e
  obtain ⟨x, e1, e⟩ := Option.bind_eq_some_iff.mp e
  refine BoolOp_and (thn (ha cenv A' _ s ρ F h H sl σ x es qs hr sr e1) fun v s1 ⟨r1, k1⟩ => ?_)
  split at e
  · rw [qv_bl r1]
    refine wpAny_truthy_bool ?_
    exact thn (hb cenv A' _ s1 ρ F h H sl σ d es (qs.keeps k1) hr sr e) fun c s2 ⟨r2, k2⟩ => ⟨r2, keeps_trans k1 k2⟩
  · cases e
    rw [qv_bl r1]
    exact wpAny_truthy_bool ⟨bl_qv, k1⟩
  · cases e
theorem sq_or {a b : Expr} {r : List Expr} {p q : QE} {pos : Pos} (ha : SQ B X sc a p) (hb : SQ B X sc (.BoolOp .Or (b :: r) pos) q) : SQ B X sc (.BoolOp .Or (a :: b :: r) pos) (qOrE p q) := by
  intro cenv A' E' s ρ F h H sl σ d es qs hr sr e
  have e : ((p sl h).bind fun x => match x with
    | .bl true => some (.bl true)
    | .bl false => q sl h
    | _ => none) = some d := e
  obtain ⟨x, e1, e⟩ := Option.bind_eq_some_iff.mp e
  refine BoolOp_or (thn (ha cenv A' _ s ρ F h H sl σ x es qs hr sr e1) fun v s1 ⟨r1, k1⟩ => ?_)
  split at e
  · cases e
    rw [qv_bl r1]
    exact wpAny_truthy_bool ⟨bl_qv, k1⟩
  · rw [qv_bl r1]
    refine wpAny_truthy_bool ?_
    exact thn (hb cenv A' _ s1 ρ F h H sl σ d es (qs.keeps k1) hr sr e) fun c s2 ⟨r2, k2⟩ => ⟨r2, keeps_trans k1 k2⟩
  · cases e
theorem sq_not {a : Expr} {p : QE} {pos : Pos} (ha : SQ B X sc a p) : SQ B X sc (.UnaryOp .Not a pos) (qNotE p) := by
  intro cenv A' E' s ρ F h H sl σ d es qs hr sr e
  have e : ((p sl h).bind fun x => match x with
    | .bl b => some (.bl (!b))
    | _ => none) = some d := e
  obtain ⟨x, e1, e⟩ := Option.bind_eq_some_iff.mp e
  refine UnaryOp_ (thn (ha cenv A' _ s ρ F h H sl σ x es qs hr sr e1) fun v s1 ⟨r1, k1⟩ => ?_)
  split at e
  · cases e
    rw [qv_bl r1]
    exact not_of (wpAny_truthy_bool ⟨bl_qv, k1⟩)
  · cases e
/-! ### a list or a tuple walked -/
theorem PI.or {tg e : Expr} {t t' t2 : TI} (h : PI X tg e t) (h' : PI X tg e t') (w : ∀ σ H R, t2 σ H R → t σ H R ∨ t' σ H R) : PI X tg e t2 := ⟨fun pins s σ H R I q => (w σ H R q).elim (h.run pins s σ H R I) (h'.run pins s σ H R I)⟩
def mSqA (m : ME) : MI := fun s h => (m s h).bind fun a h1 => match vT a with
  | some xs => .ok (rdC xs) h1
  | none => match vLR h1 a with
    | some _ => .ok (fun h => vLR h a) h1
    | none => .stk
theorem si_seq {tg e : Expr} {m : ME} (he : SE B X W e m) (hK : X.K = B.K := by rfl) : SI B X W tg e (mSqA m) :=
  PI.or (si_tup (tg := tg) he hK) (si_list (tg := tg) he hK) fun σ H R ⟨ρ, F, h, s, sr, hr, p⟩ => by
    have p : Post B (IR B) ρ F H ((m s h).bind fun a h1 => match vT a with
      | some xs => .ok (rdC xs) h1
      | none => match vLR h1 a with
        | some _ => .ok (fun h => vLR h a) h1
        | none => .stk) (fun jh H' => jh.2 = H' → R jh.1 H') (fun cls d H' => W cls d σ H') := p
    cases k : m s h with
    | ok a h1 =>
      rw [k] at p
      cases k2 : vT a with
      | some xs =>
        refine .inl ⟨ρ, F, h, s, sr, hr, ?_⟩
        unfold mSqT
        rw [k]
        have p : Post B (IR B) ρ F H (match vT a with
          | some xs => .ok (rdC xs) h1
          | none => match vLR h1 a with
            | some _ => .ok (fun h => vLR h a) h1
            | none => .stk) (fun jh H' => jh.2 = H' → R jh.1 H') (fun cls d H' => W cls d σ H') := p
        show Post B (IR B) ρ F H (match vT a with
          | some xs => .ok (fun _ => some xs) h1
          | none => .stk) (fun jh H' => jh.2 = H' → R jh.1 H') (fun cls d H' => W cls d σ H')
        rw [k2] at p ⊢
        exact p
      | none =>
        refine .inr ⟨ρ, F, h, s, sr, hr, ?_⟩
        unfold mSq
        rw [k]
        have p : Post B (IR B) ρ F H (match vT a with
          | some xs => .ok (rdC xs) h1
          | none => match vLR h1 a with
            | some _ => .ok (fun h => vLR h a) h1
            | none => .stk) (fun jh H' => jh.2 = H' → R jh.1 H') (fun cls d H' => W cls d σ H') := p
        rw [k2] at p
        exact p
    | exc c fs h1 =>
      rw [k] at p
      refine .inl ⟨ρ, F, h, s, sr, hr, ?_⟩
      unfold mSqT
      rw [k]
      exact p
    | stk => rw [k] at p; exact p.elim
end
end NC
end S3
end
section
set_option Elab.async false
set_option linter.all false
set_option maxRecDepth 100000
set_option maxHeartbeats 4000000
namespace S3
open PySem PySem.Spec PyProof.Rows L2
noncomputable section NC
/-! ### rubbish forgotten, for every def -/
def CleanOk (n : Nat) (r : Rs AV) : Prop := match r with
  | .ok a h => n ≤ h.length ∧ LV n a ∧ Closed (h.take n)
  | .exc _ fs h => n ≤ h.length ∧ LFs n fs ∧ Closed (h.take n)
  | .stk => True
open Classical in
noncomputable def cleanF (f : Fn) : Fn := fun as h => if CleanOk h.length (f as h) then (match f as h with
  | .ok a h' => .ok a (h'.take h.length)
  | .exc c fs h' => .exc c fs (h'.take h.length)
  | .stk => .stk) else .stk
theorem FnP.clean {B : Bx} {P : Program} {w : World} {base : Heap} {k : Nat} {f : Addr} {fd : FuncData} {ps : List Str} {g : Fn} (Fo : FnP B P w base k f fd ps g) : FnP B P w base k f fd ps (cleanF g) :=
  Fo.refine fun as h _ _ => by
    unfold cleanF
    by_cases hc : CleanOk h.length (g as h)
    · rw [if_pos hc]
      cases k : g as h with
      | ok a h' =>
        rw [k] at hc
        obtain ⟨h1, h2, h3⟩ := hc
        refine .inr ⟨h'.drop h.length, ?_, ?_, ?_, h3⟩
        · rw [List.take_append_drop]
        · rw [List.length_take]; omega
        · rw [List.length_take, Nat.min_eq_left h1]; exact h2
      | exc c fs h' =>
        rw [k] at hc
        obtain ⟨h1, h2, h3⟩ := hc
        refine .inr ⟨h'.drop h.length, ?_, ?_, ?_, h3⟩
        · rw [List.take_append_drop]
        · rw [List.length_take]; omega
        · rw [List.length_take, Nat.min_eq_left h1]; exact h2
      | stk => trivial
    · rw [if_neg hc]
      trivial
theorem clean_ok {f : Fn} {as : List AV} {h h1 g : AH} {a : AV} (e : f as h = .ok a (h1 ++ g)) (hl : h1.length = h.length) (la : LV h.length a) (cl : Closed h1) : cleanF f as h = .ok a h1 := by
  unfold cleanF
  have et : (h1 ++ g).take h.length = h1 := by rw [← hl, List.take_left']; rfl
  rw [if_pos (by rw [e]; exact ⟨by rw [List.length_append]; omega, la, by rw [et]; exact cl⟩), e]
  show Rs.ok a ((h1 ++ g).take h.length) = _
  rw [et]
theorem clean_exc {f : Fn} {as : List AV} {h h1 g : AH} {c : Str} {fs : List (Str × AV)} (e : f as h = .exc c fs (h1 ++ g)) (hl : h1.length = h.length) (la : LFs h.length fs) (cl : Closed h1) : cleanF f as h = .exc c fs h1 := by
  unfold cleanF
  have et : (h1 ++ g).take h.length = h1 := by rw [← hl, List.take_left']; rfl
  rw [if_pos (by rw [e]; exact ⟨by rw [List.length_append]; omega, la, by rw [et]; exact cl⟩), e]
  show Rs.exc c fs ((h1 ++ g).take h.length) = _
  rw [et]
/-- .. for a def that makes a thing its caller gets (all of the heap stays) -/
def CleanIo (c : Str) (n : Nat) (r : Rs AV) : Prop := match r with
  | .ok .non h => n < h.length ∧ Closed (h.take n) ∧ ∃ fs, h[n]? = some (.ins c fs) ∧ LFs n fs
  | .ok _ _ => False
  | .exc _ fs h => n ≤ h.length ∧ LFs n fs ∧ Closed (h.take n)
  | .stk => True
open Classical in
noncomputable def cleanI (c : Str) (g : Fn) : List AV → AH → Rs (List (Str × AV)) := fun as h => if CleanIo c h.length (g (.ref h.length :: as) (h ++ [.ins c []])) then (match g (.ref h.length :: as) (h ++ [.ins c []]) with
  | .ok _ h' => match h'[h.length]? with
    | some (.ins _ fs) => .ok fs (h'.take h.length)
    | _ => .stk
  | .exc e fs h' => .exc e fs (h'.take h.length)
  | .stk => .stk) else .stk
theorem init_clean (c : Str) (g : Fn) : InitOk c g (cleanI c g) := fun as h cl la => by
  unfold cleanI
  by_cases hc : CleanIo c h.length (g (.ref h.length :: as) (h ++ [.ins c []]))
  · rw [if_pos hc]
    cases k : g (.ref h.length :: as) (h ++ [.ins c []]) with
    | stk => trivial
    | exc e fs h' =>
      rw [k] at hc
      obtain ⟨h1, h2, h3⟩ := hc
      refine ⟨h'.drop h.length, by rw [List.take_append_drop], by rw [List.length_take]; omega, by rw [List.length_take, Nat.min_eq_left h1]; exact h2, h3⟩
    | ok a h' =>
      rw [k] at hc
      cases a with
      | non =>
        obtain ⟨h1, h3, fs, e1, h2⟩ := hc
        simp only [e1]
        refine ⟨h'.drop (h.length + 1), ?_, by rw [List.length_take]; omega, h2, h3⟩
        have e2 : h'.take h.length ++ [AO.ins c fs] = h'.take (h.length + 1) := by
          rw [List.take_succ, e1]
          rfl
        rw [e2, List.take_append_drop]
      | _ => exact hc.elim
  · rw [if_neg hc]
    trivial
theorem cleanI_ok {c : Str} {g : Fn} {as : List AV} {h h1 r : AH} {fs : List (Str × AV)} (e : g (.ref h.length :: as) (h ++ [.ins c []]) = .ok .non (h1 ++ [.ins c fs] ++ r)) (hl : h1.length = h.length) (lf : LFs h.length fs) (cl : Closed h1) : cleanI c g as h = .ok fs h1 := by
  have et : (h1 ++ [AO.ins c fs] ++ r).take h.length = h1 := by rw [← hl, List.append_assoc, List.take_left']; rfl
  have eg : (h1 ++ [AO.ins c fs] ++ r)[h.length]? = some (.ins c fs) := by
    rw [List.getElem?_append_left (by rw [List.length_append, hl]; exact Nat.lt_succ_self _), ← hl]
    exact getElem?_snoc _ _
  unfold cleanI
  rw [if_pos (by rw [e]; exact ⟨by rw [List.length_append, List.length_append, hl]; simp only [List.length_singleton]; omega, by rw [et]; exact cl, fs, eg, lf⟩), e]
  simp only [eg, et]
theorem cleanI_exc {c : Str} {g : Fn} {as : List AV} {h h1 r : AH} {d : Str} {fs : List (Str × AV)} (e : g (.ref h.length :: as) (h ++ [.ins c []]) = .exc d fs (h1 ++ r)) (hl : h1.length = h.length) (lf : LFs h.length fs) (cl : Closed h1) : cleanI c g as h = .exc d fs h1 := by
  have et : (h1 ++ r).take h.length = h1 := by rw [← hl, List.take_left']; rfl
  unfold cleanI
  rw [if_pos (by rw [e]; exact ⟨by rw [List.length_append]; omega, lf, by rw [et]; exact cl⟩), e]
  show Rs.exc d fs ((h1 ++ r).take h.length) = _
  rw [et]
end NC
end S3
end
section
set_option Elab.async false
set_option linter.all false
set_option maxRecDepth 100000
set_option maxHeartbeats 4000000
namespace S3
open PySem PySem.Spec PyProof.Rows L2
noncomputable section NC
/-! ### the plain functions evaluated -/
section
variable {α β : Type} {s : Sl} {h : AH}
@[simp] theorem bind_ok {f : α → AH → Rs β} {a : α} : (Rs.ok a h).bind f = f a h := rfl
@[simp] theorem bind_exc {f : α → AH → Rs β} {c : Str} {fs : List (Str × AV)} : (Rs.exc c fs h).bind f = .exc c fs h := rfl
@[simp] theorem toS_ok {f : α → AH → Ss} {a : α} : (Rs.ok a h).toS s f = f a h := rfl
@[simp] theorem toS_exc {f : α → AH → Ss} {c : Str} {fs : List (Str × AV)} : (Rs.exc c fs h : Rs α).toS s f = .exc s c fs h := rfl
@[simp] theorem then_nx {k : Sl → AH → Ss} : (Ss.nx s h).then k = k s h := rfl
@[simp] theorem then_rt {k : Sl → AH → Ss} {a : AV} : (Ss.rt a h).then k = .rt a h := rfl
@[simp] theorem then_bk {k : Sl → AH → Ss} : (Ss.bk s h).then k = .bk s h := rfl
@[simp] theorem then_ct {k : Sl → AH → Ss} : (Ss.ct s h).then k = .ct s h := rfl
@[simp] theorem then_exc {k : Sl → AH → Ss} {c : Str} {fs : List (Str × AV)} : (Ss.exc s c fs h).then k = .exc s c fs h := rfl
@[simp] theorem fin_nx : (Ss.nx s h).fin = .ok .non h := rfl
@[simp] theorem fin_rt {a : AV} : (Ss.rt a h).fin = .ok a h := rfl
@[simp] theorem fin_exc {c : Str} {fs : List (Str × AV)} : (Ss.exc s c fs h).fin = .exc c fs h := rfl
@[simp] theorem lp_nx {k : Sl → AH → Ss} : (Ss.nx s h).lp k = k s h := rfl
@[simp] theorem lp_ct {k : Sl → AH → Ss} : (Ss.ct s h).lp k = k s h := rfl
@[simp] theorem lp_bk {k : Sl → AH → Ss} : (Ss.bk s h).lp k = .nx s h := rfl
@[simp] theorem lp_rt {k : Sl → AH → Ss} {a : AV} : (Ss.rt a h).lp k = .rt a h := rfl
@[simp] theorem lp_exc {k : Sl → AH → Ss} {c : Str} {fs : List (Str × AV)} : (Ss.exc s c fs h).lp k = .exc s c fs h := rfl
@[simp] theorem then_ite {c : Prop} [Decidable c] {a b : Ss} {k : Sl → AH → Ss} : (if c then a else b).then k = if c then a.then k else b.then k := by split <;> rfl
@[simp] theorem fin_ite {c : Prop} [Decidable c] {a b : Ss} : (if c then a else b).fin = if c then a.fin else b.fin := by split <;> rfl
@[simp] theorem lp_ite {c : Prop} [Decidable c] {a b : Ss} {k : Sl → AH → Ss} : (if c then a else b).lp k = if c then a.lp k else b.lp k := by split <;> rfl
@[simp] theorem bind_ite {c : Prop} [Decidable c] {a b : Rs α} {f : α → AH → Rs β} : (if c then a else b).bind f = if c then a.bind f else b.bind f := by split <;> rfl
@[simp] theorem toS_ite {c : Prop} [Decidable c] {a b : Rs α} {f : α → AH → Ss} : (if c then a else b).toS s f = if c then a.toS s f else b.toS s f := by split <;> rfl
@[simp] theorem ofO_some {a : AV} : ofO (some a) h = .ok a h := rfl
@[simp] theorem ap_seq {a b : MS} : mSeq a b s h = (a s h).then b := rfl
@[simp] theorem ap_skip : mSkip s h = .nx s h := rfl
@[simp] theorem ap_brk : mBrk s h = .bk s h := rfl
@[simp] theorem ap_cnt : mCnt s h = .ct s h := rfl
@[simp] theorem ap_ret {m : ME} : mRet m s h = (m s h).toS s fun a h1 => .rt a h1 := rfl
@[simp] theorem ap_retN : mRetN s h = .rt .non h := rfl
@[simp] theorem ap_exprS {m : ME} : mExprS m s h = (m s h).toS s fun _ h1 => .nx s h1 := rfl
@[simp] theorem ap_ifS {c : MT} {a b : MS} : mIfS c a b s h = (c s h).toS s fun x h1 => if x = true then a s h1 else b s h1 := rfl
@[simp] theorem ap_asg {m : ME} {i : Nat} : mAsg m (tName i) s h = (m s h).toS s fun a h1 => .nx (s.set i (some a)) h1 := by
  show (m s h).toS s (fun a h1 => match tName i a s h1 with
    | some s1 => .nx s1 h1
    | none => .stk) = _
  rfl
@[simp] theorem ap_asgT {m : ME} {n : Nat} {u : Gts} : mAsg m (tTupT n u) s h = (m s h).toS s fun a h1 => match tTupT n u a s h1 with
    | some s1 => .nx s1 h1
    | none => .stk := rfl
@[simp] theorem ap_name {i : Nat} {a : AV} : tName i a s h = some (s.set i (some a)) := rfl
@[simp] theorem ap_more {t : Gt} {u : Gts} {a : AV} {r : List AV} : tMore t u (a :: r) s h = (t a s h).bind fun s1 => u r s1 h := rfl
@[simp] theorem ap_none : tNone [] s h = some s := rfl
@[simp] theorem ap_tup {n : Nat} {u : Gts} {xs : List AV} : tTupT n u (.tup xs) s h = if xs.length = n then u xs s h else none := rfl
@[simp] theorem ap_par {i j : Nat} {m : MA} : mPar i j m s h = (m s h).toS s fun as h1 => match as with
  | [v, w] => .nx ((s.set i (some v)).set j (some w)) h1
  | _ => .stk := rfl
@[simp] theorem ap_par3 {i j k : Nat} {m : MA} : mPar3 i j k m s h = (m s h).toS s fun as h1 => match as with
  | [v, w, z] => .nx (((s.set i (some v)).set j (some w)).set k (some z)) h1
  | _ => .stk := rfl
@[simp] theorem ap_aug {i : Nat} {g : G2} {m : ME} : mAug i g m s h = match s[i]? with
  | some (some a) => (m s h).toS s fun b h1 => match g a b h1 with
    | some c => .nx (s.set i (some c)) h1
    | none => .stk
  | _ => .stk := rfl
@[simp] theorem ap_raise {c : Str} : mRaise c s h = .exc s c [] h := rfl
@[simp] theorem ap_forget {vs : List Nat} : mForget vs s h = .nx (wipeA s vs) h := rfl
@[simp] theorem wipe_nil : wipeA s [] = s := rfl
@[simp] theorem wipe_cons {v : Nat} {vs : List Nat} : wipeA s (v :: vs) = (wipeA s vs).set v none := rfl
@[simp] theorem ap_c {a : AV} : mC a s h = .ok a h := rfl
theorem ap_var {i : Nat} {a : AV} (e : s[i]? = some (some a)) : mVar i s h = .ok a h := by unfold mVar; rw [e]
@[simp] theorem ap_bin {g : G2} {a b : ME} : mBin g a b s h = (a s h).bind fun a h1 => (b s h1).bind fun b h2 => ofO (g a b h2) h2 := rfl
@[simp] theorem ap_un {g : G1} {a : ME} : mUn g a s h = (a s h).bind fun a h1 => ofO (g a h1) h1 := rfl
@[simp] theorem ap_fn {g : GL} {a : MA} : mFn g a s h = (a s h).bind fun a h1 => ofO (g a h1) h1 := rfl
@[simp] theorem ap_nil : mNil s h = .ok [] h := rfl
@[simp] theorem ap_cons {a : ME} {r : MA} : mCons a r s h = (a s h).bind fun x h1 => (r s h1).bind fun xs h2 => .ok (x :: xs) h2 := rfl
@[simp] theorem ap_test {m : ME} : mTest m s h = (m s h).bind fun a h1 => match a with
  | .bl b => .ok b h1
  | _ => .stk := rfl
@[simp] theorem ap_and {a b : MT} : mAnd a b s h = (a s h).bind fun x h1 => if x = true then b s h1 else .ok false h1 := rfl
@[simp] theorem ap_or {a b : MT} : mOr a b s h = (a s h).bind fun x h1 => if x = true then .ok true h1 else b s h1 := rfl
@[simp] theorem ap_not {a : MT} : mNot a s h = (a s h).bind fun x h1 => .ok (!x) h1 := rfl
@[simp] theorem ap_if {c : MT} {a b : ME} : mIf c a b s h = (c s h).bind fun x h1 => if x = true then a s h1 else b s h1 := rfl
@[simp] theorem ap_call {g : Fn} {m : MA} : mCall g m s h = (m s h).bind g := rfl
@[simp] theorem ap_told {cl : List (Str × Str)} {m : ME} : mTold cl m s h = match m s h with
  | .ok a h1 => .ok a h1
  | .exc c _ h1 => match cl.lookup c with
    | some r => .ok (.str r) h1
    | none => .stk
  | .stk => .stk := rfl
@[simp] theorem ap_makeF {c : Str} {gi : List AV → AH → Rs (List (Str × AV))} {m : MA} : mMakeF c gi m s h = (m s h).bind fun as h1 => (gi as h1).bind fun fs h2 => .ok (.ins c fs) h2 := rfl
@[simp] theorem ap_lstM {m : MA} : mLstM m s h = (m s h).bind fun xs h1 => if xs.length ≤ sizeLine then .ok (.ref h1.length) (h1 ++ [.lst xs]) else .stk := rfl
@[simp] theorem ap_listM {m : MA} : mListM m s h = (m s h).bind fun as h1 => match as with
  | [a] => match vSq h1 a with
    | some xs => .ok (.ref h1.length) (h1 ++ [.lst xs])
    | none => .stk
  | _ => .stk := rfl
@[simp] theorem ap_bm {ty : AV → AH → Bool} {g : GM} {mo : ME} {ma : MA} : mBM ty g mo ma s h = (mo s h).bind fun a h1 => if ty a h1 = true then (ma s h1).bind fun as h2 => match g a as h2 with
  | some (c, h3) => .ok c h3
  | none => .stk
  else .stk := rfl
@[simp] theorem ap_meth {c m : Str} {g : Fn} {mo : ME} {ma : MA} : mMeth c m g mo ma s h = (mo s h).bind fun a h1 => match vIns c h1 a with
  | some fs => if (fs.lookup m).isNone = true then (ma s h1).bind fun as h2 => g (a :: as) h2 else .stk
  | none => .stk := rfl
@[simp] theorem ap_for {mi : MI} {t : Gt} {b : MS} : mFor mi t b s h = (mi s h).toS s fun rd h1 => forL rd t b (rdLen rd h1) 0 s h1 := rfl
@[simp] theorem ap_while {f : Sl → AH → Nat} {c : MT} {b : MS} : mWhile f c b s h = whileL c b (f s h) s h := rfl
@[simp] theorem ap_lc {mi : MI} {t : Gt} {c : MT} {e : ME} {vs : List Nat} : mLc mi t c e vs s h = ((mi s h).bind fun rd h1 => lcL rd t c e (wipeA s vs) (rdLen rd h1) 0 [] h1).bind fun xs h1 => .ok (.lst xs) h1 := rfl
@[simp] theorem ap_lcM {mi : MI} {t : Gt} {c : MT} {e : ME} {vs : List Nat} : mLcM mi t c e vs s h = ((mi s h).bind fun rd h1 => lcL rd t c e (wipeA s vs) (rdLen rd h1) 0 [] h1).bind fun xs h1 => .ok (.ref h1.length) (h1 ++ [.lst xs]) := rfl
@[simp] theorem ap_sq {m : ME} : mSq m s h = (m s h).bind fun a h1 => match vLR h1 a with
  | some _ => Rs.ok (α := Rd) (fun h => vLR h a) h1
  | none => .stk := rfl
@[simp] theorem ap_sqT {m : ME} : mSqT m s h = (m s h).bind fun a h1 => match vT a with
  | some xs => Rs.ok (α := Rd) (fun _ => some xs) h1
  | none => .stk := rfl
@[simp] theorem ap_sqA {m : ME} : mSqA m s h = (m s h).bind fun a h1 => match vT a with
  | some xs => .ok (rdC xs) h1
  | none => match vLR h1 a with
    | some _ => Rs.ok (α := Rd) (fun h => vLR h a) h1
    | none => .stk := rfl
def rg1K : List AV → AH → Rs Rd := fun xs h1 => match xs with
  | [.int j] => if okN j then .ok (rdC (upL 0 1 j.toNat)) h1 else .stk
  | _ => .stk
def rg2K : List AV → AH → Rs Rd := fun xs h1 => match xs with
  | [.int i, .int j] => if okN i ∧ okN j then .ok (rdC (upL i 1 (j - i).toNat)) h1 else .stk
  | _ => .stk
def rg3K : List AV → AH → Rs Rd := fun xs h1 => match xs with
  | [.int i, .int j, .int c] => if RgC i j c (rgN i j c) then .ok (rdC (upL i c (rgN i j c))) h1 else .stk
  | _ => .stk
@[simp] theorem ap_rg1 {m : MA} : mRg1 m s h = (m s h).bind rg1K := rfl
@[simp] theorem ap_rg2 {m : MA} : mRg2 m s h = (m s h).bind rg2K := rfl
@[simp] theorem ap_rg3 {m : MA} : mRg3 m s h = (m s h).bind rg3K := rfl
@[simp] theorem rg1_ok {j : Int} (o : okN j) : rg1K [.int j] h = .ok (rdC (upL 0 1 j.toNat)) h := if_pos o
@[simp] theorem rg2_ok {i j : Int} (oi : okN i) (oj : okN j) : rg2K [.int i, .int j] h = .ok (rdC (upL i 1 (j - i).toNat)) h := if_pos ⟨oi, oj⟩
@[simp] theorem rg3_ok {i j c : Int} (o : RgC i j c (rgN i j c)) : rg3K [.int i, .int j, .int c] h = .ok (rdC (upL i c (rgN i j c))) h := if_pos o
@[simp] theorem ap_rev {m : ME} : mRev m s h = (m s h).bind fun a h1 => match a with
  | .lst xs => .ok (rdC xs.reverse) h1
  | .rdl xs => .ok (rdC xs.reverse) h1
  | .tup xs => .ok (rdC xs.reverse) h1
  | .rdt xs => .ok (rdC xs.reverse) h1
  | _ => .stk := rfl
@[simp] theorem ap_enum {m : MA} : mEnum m s h = (m s h).bind fun as h1 => match as with
  | [a] => match vLR h1 a with
    | some _ => Rs.ok (α := Rd) (fun h => (vLR h a).map enumL) h1
    | none => .stk
  | _ => .stk := rfl
@[simp] theorem ap_sl {ma : ME} {ml mh : Sl → AH → Rs (Option Int)} : mSl ma ml mh s h = (ma s h).bind fun a h1 => (ml s h1).bind fun lo h2 => (mh s h2).bind fun hi h3 => ofO (gSl a lo hi h3) h3 := rfl
@[simp] theorem ap_chain {g g' : G2} {ma mb mc : ME} : mChain g g' ma mb mc s h = (ma s h).bind fun a h1 => (mb s h1).bind fun b h2 => match g a b h2 with
  | some (.bl true) => (mc s h2).bind fun c h3 => ofO (g' b c h3) h3
  | some (.bl false) => .ok (.bl false) h2
  | _ => .stk := rfl
@[simp] theorem ap_andE {a b : ME} : mAndE a b s h = (a s h).bind fun x h1 => match x with
  | .bl true => b s h1
  | .bl false => .ok (.bl false) h1
  | _ => .stk := rfl
@[simp] theorem ap_fldSet {c f : Str} {mo mv : ME} : mFldSet c f mo mv s h = (mv s h).toS s fun v h1 => (mo s h1).toS s fun o h2 => match o with
  | .ref n => match h2[n]? with
    | some (.ins d fs) => if d = c ∧ fs.length < 1000 then .nx s (h2.set n (.ins c (putA f v fs))) else .stk
    | _ => .stk
  | _ => .stk := rfl
@[simp] theorem ap_subSet {mo mi mv : ME} : mSubSet mo mi mv s h = (mv s h).toS s fun v h1 => (mo s h1).toS s fun o h2 => (mi s h2).toS s fun i h3 => match gSet o i v h3 with
  | some h4 => .nx s h4
  | none => .stk := rfl
/-! values of ints -/
@[simp] theorem gAdd_int {i j : Int} : gAdd (.int i) (.int j) h = some (.int (i + j)) := rfl
@[simp] theorem gAddI_int {i j : Int} : gAddI (.int i) (.int j) h = some (.int (i + j)) := rfl
@[simp] theorem gSub_int {i j : Int} : gSub (.int i) (.int j) h = some (.int (i - j)) := rfl
@[simp] theorem gAddQ_int {i j : Int} : gAddQ (.int i) (.int j) h = some (.int (i + j)) := rfl
theorem gMul_int {i j : Int} (c : CMul i j) : gMul (.int i) (.int j) h = some (.int (i * j)) := if_pos c
theorem gDiv_int {i j : Int} (c : CDiv i j) : gDiv (.int i) (.int j) h = some (.int (i / j)) := if_pos c
theorem gMod_int {i j : Int} (c : 0 < j) : gMod (.int i) (.int j) h = some (.int (i % j)) := if_pos c
@[simp] theorem gNeg_int {i : Int} : gNeg (.int i) h = some (.int (-i)) := rfl
@[simp] theorem gLt_int {i j : Int} : gLt (.int i) (.int j) h = some (.bl (decide (i < j))) := rfl
@[simp] theorem gLe_int {i j : Int} : gLe (.int i) (.int j) h = some (.bl (decide (i ≤ j))) := rfl
@[simp] theorem gGt_int {i j : Int} : gGt (.int i) (.int j) h = some (.bl (decide (j < i))) := rfl
@[simp] theorem gGe_int {i j : Int} : gGe (.int i) (.int j) h = some (.bl (decide (j ≤ i))) := rfl
@[simp] theorem gLtQ_int {i j : Int} : gLtQ (.int i) (.int j) h = some (.bl (decide (i < j))) := rfl
@[simp] theorem gLeQ_int {i j : Int} : gLeQ (.int i) (.int j) h = some (.bl (decide (i ≤ j))) := rfl
@[simp] theorem gGtQ_int {i j : Int} : gGtQ (.int i) (.int j) h = some (.bl (decide (j < i))) := rfl
@[simp] theorem gGeQ_int {i j : Int} : gGeQ (.int i) (.int j) h = some (.bl (decide (j ≤ i))) := rfl
theorem eqv_int (i j : Int) : PyData.eqv (.int i) (.int j) = decide (i = j) := by
  show (i == j) = _
  by_cases e : i = j
  · subst e; simp
  · simp [e]
@[simp] theorem gEq_int {i j : Int} {neg : Bool} : gEq neg (.int i) (.int j) h = some (.bl (if neg then !decide (i = j) else decide (i = j))) := by
  unfold gEq
  have ok : okD (pyv h (.int i)) (pyv h (.int j)) = true := rfl
  rw [if_pos ok]
  show some (AV.bl (if neg = true then !PyData.eqv (.int i) (.int j) else PyData.eqv (.int i) (.int j))) = _
  rw [eqv_int]
/-- a thing is equal to itself -/
theorem gEq_self {a : AV} {neg : Bool} (hp : (pyv h a).plain = true) (hd : (pyv h a).depth ≤ 60) : gEq neg a a h = some (.bl (!neg)) := by
  unfold gEq
  have ok : okD (pyv h a) (pyv h a) = true := by
    unfold okD
    rw [hp]
    simp
    exact hd
  rw [if_pos ok, SeqAt.eqv_refl_plain _ hp]
  cases neg <;> rfl
/-- empty or not -/
theorem eqv_nil_l (ds : List PyData) : PyData.eqv (.list ds) (.list []) = ds.isEmpty := by
  cases ds with
  | nil => rfl
  | cons d r => rfl
theorem eqv_nil_t (ds : List PyData) : PyData.eqv (.tuple ds) (.tuple []) = ds.isEmpty := by
  cases ds with
  | nil => rfl
  | cons d r => rfl
/-! the heap's end -/
@[simp] theorem snoc_at {α : Type} {l : List α} {x : α} : (l ++ [x])[l.length]? = some x := getElem?_snoc l x
@[simp] theorem snoc_set {α : Type} {l : List α} {x y : α} : (l ++ [x]).set l.length y = l ++ [y] := by
  rw [List.set_append_right _ _ (Nat.le_refl _), Nat.sub_self]
  rfl
end
end NC
end S3
end
section
set_option Elab.async false
set_option linter.all false
set_option maxRecDepth 100000
set_option maxHeartbeats 4000000
namespace S3
open PySem PySem.Spec PyProof.Rows L2
noncomputable section NC
/-! ### loops over sources that never change -/
def forC (t : Gt) (b : MS) : List AV → MS
  | [] => fun s h => .nx s h
  | x :: xs => fun s h => match t x s h with
    | none => .stk
    | some s1 => (b s1 h).lp (forC t b xs)
theorem forL_drop {rd : Rd} {xs : List AV} {t : Gt} {b : MS} (hrd : ∀ h, rd h = some xs) : ∀ (n i : Nat), n + i = xs.length → forL rd t b n i = forC t b (xs.drop i)
  | 0, i, e => by
    have e0 : xs[i]? = none := List.getElem?_eq_none (by omega)
    rw [List.drop_eq_nil_of_le (by omega)]
    funext s h
    unfold forL forC
    rw [hrd h]
    simp only [e0]
  | n + 1, i, e => by
    have hi : i < xs.length := by omega
    rw [List.drop_eq_getElem_cons hi]
    funext s h
    unfold forL forC
    rw [hrd h]
    simp only [List.getElem?_eq_getElem hi, forL_drop hrd n (i + 1) (by omega)]
    all_goals (cases t xs[i] s h <;> rfl)
theorem forL_const {rd : Rd} {xs : List AV} {t : Gt} {b : MS} {s : Sl} {h : AH} (hrd : ∀ h, rd h = some xs) : forL rd t b (rdLen rd h) 0 s h = forC t b xs s h := by
  have e : rdLen rd h = xs.length := by unfold rdLen; rw [hrd]
  rw [e, forL_drop hrd xs.length 0 (by omega)]
  rfl
@[simp] theorem forL_rdC {xs : List AV} {t : Gt} {b : MS} {s : Sl} {h : AH} : forL (rdC xs) t b (rdLen (rdC xs) h) 0 s h = forC t b xs s h := forL_const fun _ => rfl
@[simp] theorem forL_some {xs : List AV} {t : Gt} {b : MS} {s : Sl} {h : AH} : forL (fun _ => some xs) t b (rdLen (fun _ => some xs) h) 0 s h = forC t b xs s h := forL_const fun _ => rfl
@[simp] theorem vLR_rdl {xs : List AV} {h : AH} : vLR h (.rdl xs) = some xs := rfl
@[simp] theorem vLR_lst {xs : List AV} {h : AH} : vLR h (.lst xs) = some xs := rfl
@[simp] theorem vT_tup {xs : List AV} : vT (.tup xs) = some xs := rfl
@[simp] theorem vT_rdt {xs : List AV} : vT (.rdt xs) = some xs := rfl
@[simp] theorem vT_lst {xs : List AV} : vT (.lst xs) = none := rfl
@[simp] theorem vT_rdl {xs : List AV} : vT (.rdl xs) = none := rfl
@[simp] theorem vT_ref {n : Nat} : vT (.ref n) = none := rfl
@[simp] theorem vSq_tup {xs : List AV} {h : AH} : vSq h (.tup xs) = some xs := rfl
@[simp] theorem vSq_lst {xs : List AV} {h : AH} : vSq h (.lst xs) = some xs := rfl
@[simp] theorem vSq_rdl {xs : List AV} {h : AH} : vSq h (.rdl xs) = some xs := rfl
@[simp] theorem forC_nil {t : Gt} {b : MS} {s : Sl} {h : AH} : forC t b [] s h = .nx s h := rfl
theorem forC_cons {t : Gt} {b : MS} {x : AV} {xs : List AV} {s s1 : Sl} {h : AH} (e : t x s h = some s1) : forC t b (x :: xs) s h = (b s1 h).lp (forC t b xs) := by
  show (match t x s h with
    | none => Ss.stk
    | some s1 => (b s1 h).lp (forC t b xs)) = _
  rw [e]
@[simp] theorem pairA_tup {a b : AV} : pairA (.tup [a, b]) = some (a, b) := rfl
/-! comprehensions -/
def lcC (t : Gt) (c : MT) (e : ME) (s0 : Sl) : List AV → List AV → AH → Rs (List AV)
  | [], acc, h => .ok acc h
  | x :: xs, acc, h => match t x s0 h with
    | none => .stk
    | some s1 => match c s1 h with
      | .ok b h1 => if b = true then match e s1 h1 with
          | .ok y h2 => if acc.length < sizeLine then lcC t c e s0 xs (acc ++ [y]) h2 else .stk
          | _ => .stk
        else lcC t c e s0 xs acc h1
      | _ => .stk
theorem lcL_drop {rd : Rd} {xs : List AV} {t : Gt} {c : MT} {e : ME} {s0 : Sl} (hrd : ∀ h, rd h = some xs) : ∀ (n i : Nat) (acc : List AV) (h : AH), n + i = xs.length → lcL rd t c e s0 n i acc h = lcC t c e s0 (xs.drop i) acc h
  | 0, i, acc, h, en => by
    have e0 : xs[i]? = none := List.getElem?_eq_none (by omega)
    rw [List.drop_eq_nil_of_le (by omega)]
    unfold lcL lcC
    rw [hrd h]
    simp only [e0]
  | n + 1, i, acc, h, en => by
    have hi : i < xs.length := by omega
    have ih := fun acc h => lcL_drop (t := t) (c := c) (e := e) (s0 := s0) hrd n (i + 1) acc h (by omega)
    rw [List.drop_eq_getElem_cons hi]
    unfold lcL lcC
    rw [hrd h]
    simp only [List.getElem?_eq_getElem hi, ih]
    all_goals (cases t xs[i] s0 h <;> rfl)
theorem lcL_const {rd : Rd} {xs : List AV} {t : Gt} {c : MT} {e : ME} {s0 : Sl} {h : AH} (hrd : ∀ h, rd h = some xs) : lcL rd t c e s0 (rdLen rd h) 0 [] h = lcC t c e s0 xs [] h := by
  have el : rdLen rd h = xs.length := by unfold rdLen; rw [hrd]
  rw [el, lcL_drop hrd xs.length 0 _ _ (by omega)]
  rfl
@[simp] theorem lcL_rdC {xs : List AV} {t : Gt} {c : MT} {e : ME} {s0 : Sl} {h : AH} : lcL (rdC xs) t c e s0 (rdLen (rdC xs) h) 0 [] h = lcC t c e s0 xs [] h := lcL_const fun _ => rfl
@[simp] theorem lcL_some {xs : List AV} {t : Gt} {c : MT} {e : ME} {s0 : Sl} {h : AH} : lcL (fun _ => some xs) t c e s0 (rdLen (fun _ => some xs) h) 0 [] h = lcC t c e s0 xs [] h := lcL_const fun _ => rfl
theorem lcC_map {τ : Type} {t : Gt} {c : MT} {e : ME} {s0 : Sl} {h : AH} (enc : τ → AV) (p : τ → Bool) (g : τ → AV) : ∀ (L : List τ) (acc : List AV), (∀ x ∈ L, ∃ s1, t (enc x) s0 h = some s1 ∧ c s1 h = .ok (p x) h ∧ (p x = true → e s1 h = .ok (g x) h)) → acc.length + L.length ≤ sizeLine → lcC t c e s0 (L.map enc) acc h = .ok (acc ++ (L.filter p).map g) h
  | [], acc, _, _ => by
    show Rs.ok acc h = _
    simp
  | x :: L, acc, H, hl => by
    obtain ⟨s1, e1, e2, e3⟩ := H x List.mem_cons_self
    have hl' : acc.length + L.length + 1 ≤ sizeLine := hl
    have ih := fun acc' => lcC_map enc p g L acc' fun y hy => H y (List.mem_cons_of_mem _ hy)
    simp only [List.map_cons]
    unfold lcC
    simp only [e1, e2]
    cases hp : p x with
    | true =>
      simp only [hp, e3 hp, if_true]
      rw [if_pos (by omega), ih _ (by rw [List.length_append]; simp only [List.length_singleton]; omega), List.filter_cons_of_pos hp, List.map_cons, List.append_assoc]
      rfl
    | false =>
      simp only [Bool.false_eq_true, if_false]
      rw [ih _ (by omega), List.filter_cons_of_neg (by rw [hp]; exact Bool.false_ne_true)]
/-- items that change the heap -/
theorem lcC_st {τ : Type} {t : Gt} {e : ME} {s0 : Sl} {I : AH → Prop} {V : τ → Prop} {enc : τ → AV} : ∀ (xs acc : List AV) (h : AH), (∀ x ∈ xs, ∀ h, I h → ∃ s1, t x s0 h = some s1 ∧ ∃ v h', e s1 h = .ok (enc v) h' ∧ I h' ∧ V v) → I h → acc.length + xs.length ≤ sizeLine → ∃ (vs : List τ) (h' : AH), lcC t mYes e s0 xs acc h = .ok (acc ++ vs.map enc) h' ∧ I h' ∧ vs.length = xs.length ∧ ∀ v ∈ vs, V v
  | [], acc, h, _, i, _ => ⟨[], h, by show Rs.ok acc h = _; simp, i, rfl, fun _ z => nomatch z⟩
  | x :: xs, acc, h, H, i, hl => by
    obtain ⟨s1, e1, v, h', e2, i', hv⟩ := H x List.mem_cons_self h i
    have hl' : acc.length + xs.length + 1 ≤ sizeLine := hl
    obtain ⟨vs, h2, e3, i2, l2, v2⟩ := lcC_st xs (acc ++ [enc v]) h' (fun y hy => H y (List.mem_cons_of_mem _ hy)) i' (by rw [List.length_append]; simp only [List.length_singleton]; omega)
    refine ⟨v :: vs, h2, ?_, i2, by rw [List.length_cons, List.length_cons, l2], fun y hy => ?_⟩
    · unfold lcC
      have ey : mYes s1 h = .ok true h := rfl
      simp only [e1, ey, e2, if_true]
      rw [if_pos (by omega), e3, List.append_assoc]
      rfl
    · rcases List.mem_cons.mp hy with rfl | hy
      · exact hv
      · exact v2 y hy
/-! generator expressions -/
section
variable {s : Sl} {h : AH}
@[simp] theorem aq_c {a : AV} : qC a s h = some a := rfl
@[simp] theorem aq_var {i : Nat} : qVar i s h = (s[i]?).join := rfl
@[simp] theorem aq_bin {g : G2} {a b : QE} : qBin g a b s h = (a s h).bind fun x => (b s h).bind fun y => g x y h := rfl
@[simp] theorem aq_un {g : G1} {a : QE} : qUn g a s h = (a s h).bind fun x => g x h := rfl
@[simp] theorem aq_test {a : QE} : qTest a s h = (a s h).bind fun x => match x with
  | .bl b => some b
  | _ => none := rfl
@[simp] theorem aq_chain {g g' : G2} {a b c : QE} : qChain g g' a b c s h = (a s h).bind fun x => (b s h).bind fun y => match g x y h with
  | some (.bl true) => (c s h).bind fun z => g' y z h
  | some (.bl false) => some (.bl false)
  | _ => none := rfl
end
theorem items_map {τ : Type} {tv : AV → Option Bool} {ev : AV → Option AV} (enc : τ → AV) (p : τ → Bool) (g : τ → AV) : ∀ (L : List τ), (∀ x ∈ L, tv (enc x) = some (p x) ∧ (p x = true → ev (enc x) = some (g x))) → itemsOk (L.map enc) tv ev = true ∧ (L.map enc).filterMap (itemG tv ev) = (L.filter p).map g
  | [], _ => ⟨rfl, rfl⟩
  | x :: L, H => by
    obtain ⟨e1, e2⟩ := H x List.mem_cons_self
    obtain ⟨i1, i2⟩ := items_map (tv := tv) (ev := ev) enc p g L fun y hy => H y (List.mem_cons_of_mem _ hy)
    unfold itemsOk at i1 ⊢
    cases hp : p x with
    | true =>
      refine ⟨?_, ?_⟩
      · simp only [List.map_cons, List.all_cons, e1, hp, e2 hp, i1]
        rfl
      · have eg : itemG tv ev (enc x) = some (g x) := by
          unfold itemG
          rw [e1, hp, if_pos rfl, e2 hp]
        rw [List.map_cons, List.filterMap_cons_some eg, i2, List.filter_cons_of_pos hp, List.map_cons]
    | false =>
      refine ⟨?_, ?_⟩
      · simp only [List.map_cons, List.all_cons, e1, hp, i1]
        rfl
      · have eg : itemG tv ev (enc x) = none := by
          unfold itemG
          rw [e1, hp, if_neg (by simp)]
        rw [List.map_cons, List.filterMap_cons_none eg, i2, List.filter_cons_of_neg (by rw [hp]; exact Bool.false_ne_true)]
theorem genU_map {τ : Type} {fin : List AV → Option AV} {mi : MA} {i i' : Nat} {qt : QT} {qe : QE} {s : Sl} {h h1 : AH} (enc k1 k2 : τ → AV) (p : τ → Bool) (g : τ → AV) (L : List τ) (e : mi s h = .ok (L.map enc) h1) (H : ∀ x ∈ L, pairA (enc x) = some (k1 x, k2 x) ∧ qt ((s.set i (some (k1 x))).set i' (some (k2 x))) h1 = some (p x) ∧ (p x = true → qe ((s.set i (some (k1 x))).set i' (some (k2 x))) h1 = some (g x))) : mGenU fin mi i i' qt qe s h = ofO (fin ((L.filter p).map g)) h1 := by
  unfold mGenU
  rw [e]
  obtain ⟨i1, i2⟩ := items_map (tv := fun y => (pairA y).bind fun p => qt ((s.set i (some p.1)).set i' (some p.2)) h1) (ev := fun y => (pairA y).bind fun p => qe ((s.set i (some p.1)).set i' (some p.2)) h1) enc p g L fun x hx => by
    obtain ⟨a, b, c⟩ := H x hx
    refine ⟨?_, fun z => ?_⟩
    · simp only [a]; exact b
    · simp only [a]; exact c z
  show (if _ then _ else _) = _
  rw [if_pos i1, i2]
theorem genN_map {τ : Type} {fin : List AV → Option AV} {mi : MA} {i : Nat} {qt : QT} {qe : QE} {s : Sl} {h h1 : AH} (enc : τ → AV) (p : τ → Bool) (g : τ → AV) (L : List τ) (e : mi s h = .ok (L.map enc) h1) (H : ∀ x ∈ L, qt (s.set i (some (enc x))) h1 = some (p x) ∧ (p x = true → qe (s.set i (some (enc x))) h1 = some (g x))) : mGenN fin mi i qt qe s h = ofO (fin ((L.filter p).map g)) h1 := by
  unfold mGenN
  rw [e]
  obtain ⟨i1, i2⟩ := items_map (tv := fun a => qt (s.set i (some a)) h1) (ev := fun a => qe (s.set i (some a)) h1) enc p g L H
  show (if _ then _ else _) = _
  rw [if_pos i1, i2]
@[simp] theorem bls_map {α : Type} {f : α → Bool} : ∀ {L : List α}, blsOf (L.map fun x => AV.bl (f x)) = some (L.map f)
  | [] => rfl
  | x :: L => by
    show (blsOf (L.map fun x => AV.bl (f x))).map (f x :: ·) = _
    rw [bls_map]; rfl
@[simp] theorem ints_map {α : Type} {f : α → Int} : ∀ {L : List α}, intsOf (L.map fun x => AV.int (f x)) = some (L.map f)
  | [] => rfl
  | x :: L => by
    show (intsOf (L.map fun x => AV.int (f x))).map (f x :: ·) = _
    rw [ints_map]; rfl
/-- yes throughout -/
@[simp] theorem filter_yes {α : Type} {L : List α} : (L.filter fun _ => true) = L := List.filter_eq_self.mpr fun _ _ => rfl
end NC
end S3
end
section
set_option Elab.async false
set_option linter.all false
set_option maxRecDepth 100000
set_option maxHeartbeats 4000000
namespace S3
open PySem PySem.Spec PyProof.Rows L2
noncomputable section NC
/-! ### results without rubbish -/
theorem clean_same {f : Fn} {as : List AV} {h : AH} {a : AV} (e : f as h = .ok a h) (la : LV h.length a) (cl : Closed h) : cleanF f as h = .ok a h :=
  clean_ok (g := []) (by rw [List.append_nil]; exact e) rfl la cl
theorem clean_sameX {f : Fn} {as : List AV} {h : AH} {c : Str} (e : f as h = .exc c [] h) (cl : Closed h) : cleanF f as h = .exc c [] h :=
  clean_exc (g := []) (by rw [List.append_nil]; exact e) rfl trivial cl
theorem LVs.of {n : Nat} : ∀ {xs : List AV}, (∀ x ∈ xs, LV n x) → LVs n xs
  | [], _ => trivial
  | x :: xs, H => ⟨H x List.mem_cons_self, LVs.of fun y hy => H y (List.mem_cons_of_mem _ hy)⟩
theorem closed_nil : Closed [] := fun i o e => by cases e
theorem closed_snoc {h : AH} {xs : List AV} (cl : Closed h) (l : ∀ n, LVs n xs) : Closed (h ++ [.lst xs]) := by
  intro i o e
  rw [List.getElem?_append] at e
  split at e
  · exact LO.mono (by simp) _ (cl i o e)
  · rename_i hi
    cases k : i - h.length with
    | zero => rw [k] at e; cases e; exact l _
    | succ n => rw [k] at e; cases e
theorem closed_set {h : AH} {n : Nat} {xs : List AV} (cl : Closed h) (l : ∀ n, LVs n xs) : Closed (h.set n (.lst xs)) := by
  intro i o e
  rw [List.length_set]
  rw [List.getElem?_set] at e
  split at e
  · split at e
    · cases e; exact l _
    · cases e
  · exact cl i o e
/-! ### data: depth and plainness -/
def Flat (n : Nat) (a : AV) : Prop := (py a).plain = true ∧ (py a).depth ≤ n
theorem flat_all {n : Nat} : ∀ {xs : List AV}, (∀ x ∈ xs, Flat n x) → PyData.plainAll (pys xs) = true ∧ PyData.depthAll (pys xs) ≤ n
  | [], _ => ⟨by simp [pys, PyData.plainAll], by simp [pys, PyData.depthAll]⟩
  | x :: xs, H => by
    obtain ⟨a, b⟩ := flat_all fun y hy => H y (List.mem_cons_of_mem _ hy)
    obtain ⟨c, d⟩ := H x List.mem_cons_self
    refine ⟨by simp [pys, PyData.plainAll, a, c], by simp [pys, PyData.depthAll]; omega⟩
theorem flat_int {n : Nat} {i : Int} : Flat (n + 1) (.int i) := ⟨by simp [py, PyData.plain], by simp [py, PyData.depth]⟩
theorem flat_str {n : Nat} {x : Str} : Flat (n + 1) (.str x) := ⟨by simp [py, PyData.plain], by simp [py, PyData.depth]⟩
theorem flat_bl {n : Nat} {b : Bool} : Flat (n + 1) (.bl b) := ⟨by simp [py, PyData.plain], by simp [py, PyData.depth]⟩
theorem flat_tup {n : Nat} {xs : List AV} (H : ∀ x ∈ xs, Flat n x) : Flat (n + 1) (.tup xs) := by
  obtain ⟨a, b⟩ := flat_all H
  exact ⟨by simp [py, PyData.plain, a], by simp [py, PyData.depth]; omega⟩
theorem flat_lst {n : Nat} {xs : List AV} (H : ∀ x ∈ xs, Flat n x) : Flat (n + 1) (.lst xs) := by
  obtain ⟨a, b⟩ := flat_all H
  exact ⟨by simp [py, PyData.plain, a], by simp [py, PyData.depth]; omega⟩
theorem flat_rdl {n : Nat} {xs : List AV} (H : ∀ x ∈ xs, Flat n x) : Flat (n + 1) (.rdl xs) := flat_lst H
theorem flat_pair {n : Nat} {i j : Int} : Flat (n + 2) (.tup [.int i, .int j]) := flat_tup fun x hx => by
  rcases List.mem_cons.mp hx with rfl | hx
  · exact flat_int
  · rcases List.mem_cons.mp hx with rfl | hx
    · exact flat_int
    · cases hx
theorem eq_self {h : AH} {a : AV} {neg : Bool} (f : Flat 60 a) (e : pyv h a = py a) : gEq neg a a h = some (.bl (!neg)) :=
  gEq_self (by rw [e]; exact f.1) (by rw [e]; exact f.2)
theorem eq_nilT {h : AH} {xs : List AV} {neg : Bool} (f : Flat 60 (.tup xs)) : gEq neg (.tup xs) (.tup []) h = some (.bl (if neg then !xs.isEmpty else xs.isEmpty)) := by
  unfold gEq
  have e1 : pyv h (.tup xs) = .tuple (pys xs) := by simp [pyv, py]
  have e2 : pyv h (.tup []) = .tuple [] := by simp [pyv, py, pys]
  have ok : okD (pyv h (.tup xs)) (pyv h (.tup [])) = true := by
    unfold okD
    rw [e2, show pyv h (.tup xs) = py (.tup xs) by simp [pyv], f.1]
    have := f.2
    simp [PyData.plain, PyData.plainAll]
    omega
  rw [if_pos ok, e1, e2, eqv_nil_t]
  cases xs <;> cases neg <;> simp [pys]
theorem eq_nilL' {h : AH} {a : AV} {xs : List AV} {neg : Bool} (f : Flat 60 (.lst xs)) (e1 : pyv h a = .list (pys xs)) : gEq neg a (.lst []) h = some (.bl (if neg then !xs.isEmpty else xs.isEmpty)) := by
  unfold gEq
  have e2 : pyv h (.lst []) = .list [] := by simp [pyv, py, pys]
  have ok : okD (pyv h a) (pyv h (.lst [])) = true := by
    unfold okD
    rw [e2, e1, show PyData.list (pys xs) = py (.lst xs) by simp [py], f.1]
    have := f.2
    simp [PyData.plain, PyData.plainAll]
    omega
  rw [if_pos ok, e1, e2, eqv_nil_l]
  cases xs <;> cases neg <;> simp [pys]
theorem eq_nilL {h : AH} {xs : List AV} {neg : Bool} (f : Flat 60 (.lst xs)) : gEq neg (.lst xs) (.lst []) h = some (.bl (if neg then !xs.isEmpty else xs.isEmpty)) := eq_nilL' f (by simp [pyv, py])
theorem eq_nilD {h : AH} {xs : List AV} {neg : Bool} (f : Flat 60 (.lst xs)) : gEq neg (.rdl xs) (.lst []) h = some (.bl (if neg then !xs.isEmpty else xs.isEmpty)) := eq_nilL' f (by simp [pyv, py])
theorem eq_nilR {h : AH} {n : Nat} {xs : List AV} {neg : Bool} (e : h[n]? = some (.lst xs)) (f : Flat 60 (.lst xs)) : gEq neg (.ref n) (.lst []) h = some (.bl (if neg then !xs.isEmpty else xs.isEmpty)) := eq_nilL' f (by simp only [pyv, e])
/-! ### subscripts, slices -/
section
variable {h : AH} {xs ys : List AV} {n : Nat} {i : Int}
@[simp] theorem ix_tup : gIx (.tup xs) (.int i) h = atI xs i := rfl
@[simp] theorem ix_lst : gIx (.lst xs) (.int i) h = atI xs i := rfl
@[simp] theorem ix_rdl : gIx (.rdl xs) (.int i) h = atI xs i := rfl
theorem vLR_ref (e : h[n]? = some (.lst xs)) : vLR h (.ref n) = some xs := by
  show vL h (.ref n) = _
  simp only [vL, e]
theorem vSq_ref (e : h[n]? = some (.lst xs)) : vSq h (.ref n) = some xs := vLR_ref e
theorem ix_ref (e : h[n]? = some (.lst xs)) : gIx (.ref n) (.int i) h = atI xs i := by
  have hd : vD h (.ref n) = none := by simp only [vD, e]
  unfold gIx dGet
  simp only [hd, vT, vLR_ref e]
@[simp] theorem atI_0 {α : Type} {a : α} {r : List α} : atI (a :: r) 0 = some a := by
  unfold atI ixN
  simp
@[simp] theorem atI_1 {α : Type} {a b : α} {r : List α} : atI (a :: b :: r) 1 = some b := by
  unfold atI ixN
  simp
  rw [if_pos (by omega)]
  rfl
@[simp] theorem atI_2 {α : Type} {a b c : α} {r : List α} : atI (a :: b :: c :: r) 2 = some c := by
  unfold atI ixN
  simp
  rw [if_pos (by omega)]
  rfl
theorem atI_nat {α : Type} {l : List α} (hi : 0 ≤ i) : atI l i = l[i.toNat]? := by
  unfold atI ixN
  rw [if_pos hi]
  split
  · rfl
  · rw [List.getElem?_eq_none (by omega)]
    rfl
@[simp] theorem atI_last {α : Type} {l : List α} : atI l (-1) = l.getLast? := by
  unfold atI ixN
  rw [if_neg (by omega), List.getLast?_eq_getElem?]
  cases l with
  | nil => simp
  | cons a r =>
    rw [if_pos (by simp only [List.length_cons]; omega)]
    show (a :: r)[_]? = _
    congr 1
    simp only [List.length_cons]
    omega
theorem cut_init : cutA xs none (some (-1)) = xs.dropLast := by
  unfold cutA HT.sIx
  simp only [show (-1 : Int) < 0 from by omega, if_true, List.drop_zero, Nat.sub_zero]
  rw [List.dropLast_eq_take]
  congr 1
  omega
theorem cut_to (hi : 0 ≤ i) : cutA xs none (some i) = xs.take i.toNat := by
  unfold cutA HT.sIx
  simp only [if_neg (show ¬ i < 0 by omega), List.drop_zero, Nat.sub_zero]
  by_cases hl : i.toNat ≤ xs.length
  · rw [Nat.min_eq_left hl]
  · rw [Nat.min_eq_right (by omega), List.take_length, List.take_of_length_le (by omega)]
theorem cut_from (hi : 0 ≤ i) : cutA xs (some i) none = xs.drop i.toNat := by
  unfold cutA HT.sIx
  simp only [if_neg (show ¬ i < 0 by omega)]
  rw [List.take_of_length_le (by simp)]
  by_cases hl : i.toNat ≤ xs.length
  · rw [Nat.min_eq_left hl]
  · rw [Nat.min_eq_right (by omega), List.drop_length, List.drop_eq_nil_of_le (by omega)]
@[simp] theorem sl_tup {lo hi : Option Int} : gSl (.tup xs) lo hi h = some (.tup (cutA xs lo hi)) := rfl
@[simp] theorem sl_lst {lo hi : Option Int} : gSl (.lst xs) lo hi h = some (.lst (cutA xs lo hi)) := rfl
@[simp] theorem sl_rdl {lo hi : Option Int} : gSl (.rdl xs) lo hi h = some (.lst (cutA xs lo hi)) := rfl
@[simp] theorem ap_noPart {s : Sl} : mNoPart s h = .ok none h := rfl
@[simp] theorem ap_part {s : Sl} {m : ME} : mPart m s h = (m s h).bind fun a h1 => match a with
  | .int i => .ok (some i) h1
  | _ => .stk := rfl
/-! builders -/
theorem tup_ok (l : xs.length ≤ sizeLine) : gTup xs h = some (.tup xs) := if_pos l
theorem lst_ok (l : xs.length ≤ sizeLine) : gLst xs h = some (.lst xs) := if_pos l
theorem addT_ok (l : xs.length + ys.length ≤ sizeLine) : gAdd (.tup xs) (.tup ys) h = some (.tup (xs ++ ys)) := by
  show (if _ then _ else _) = _
  rw [if_pos l]
theorem addL_ok (l : xs.length + ys.length ≤ sizeLine) : gAdd (.lst xs) (.lst ys) h = some (.lst (xs ++ ys)) := by
  show (if _ then _ else _) = _
  rw [if_pos l]
@[simp] theorem len_tup : gLen [.tup xs] h = some (.int (xs.length : Nat)) := rfl
@[simp] theorem len_lst : gLen [.lst xs] h = some (.int (xs.length : Nat)) := rfl
@[simp] theorem len_rdl : gLen [.rdl xs] h = some (.int (xs.length : Nat)) := rfl
theorem len_ref (e : h[n]? = some (.lst xs)) : gLen [.ref n] h = some (.int (xs.length : Nat)) := by
  show (match vSq h (.ref n) with
    | some xs => some (AV.int (xs.length : Nat))
    | none => none) = _
  rw [vSq_ref e]
@[simp] theorem tuple_tup : gTuple [.tup xs] h = some (.tup xs) := rfl
@[simp] theorem tuple_lst : gTuple [.lst xs] h = some (.tup xs) := rfl
@[simp] theorem tuple_rdl : gTuple [.rdl xs] h = some (.tup xs) := rfl
theorem tuple_ref (e : h[n]? = some (.lst xs)) : gTuple [.ref n] h = some (.tup xs) := by
  show (match vLR h (.ref n) with
    | some xs => some (AV.tup xs)
    | none => none) = _
  rw [vLR_ref e]
theorem append_ref {a : AV} (e : h[n]? = some (.lst xs)) (l : xs.length < sizeLine) : gAppend (.ref n) [a] h = some (.non, h.set n (.lst (xs ++ [a]))) := by
  show (match h[n]? with
    | some (.lst xs) => if xs.length < sizeLine then some (AV.non, h.set n (.lst (xs ++ [a]))) else none
    | _ => none) = _
  rw [e]
  exact if_pos l
theorem set_ref {a : AV} {j : Nat} (e : h[n]? = some (.lst xs)) (k : ixN xs.length i = some j) : gSet (.ref n) (.int i) a h = some (h.set n (.lst (xs.set j a))) := by
  unfold gSet
  simp only [e, k]
  rfl
theorem pop_ref {a : AV} (e : h[n]? = some (.lst (xs ++ [a]))) : gPop (.ref n) [] h = some (a, h.set n (.lst xs)) := by
  unfold gPop
  simp only [e]
  simp
theorem ixN_last (l : 0 < n) : ixN n (-1) = some (n - 1) := by
  unfold ixN
  rw [if_neg (by omega), if_pos (by omega)]
  congr 1
  omega
theorem ixN_0 (l : 0 < n) : ixN n 0 = some 0 := by
  unfold ixN
  rw [if_pos (by omega), if_pos (by omega)]
  rfl
theorem ixN_nat (l : 0 ≤ i) (l2 : i < n) : ixN n i = some i.toNat := by
  unfold ixN
  rw [if_pos l, if_pos l2]
end
theorem seqP_ok {τ : Type} {s : Sl} {h h1 : AH} {m : ME} {a : AV} {enc : τ → AV} {L : List τ} (e : m s h = .ok a h1) (v : vSq h1 a = some (L.map enc)) (hp : ∀ x ∈ L, (pairA (enc x)).isSome = true) : mSeqP m s h = .ok (L.map enc) h1 := by
  unfold mSeqP
  rw [e]
  show (match vSq h1 a with
    | some xs => if (xs.all fun x => (pairA x).isSome) = true then Rs.ok xs h1 else .stk
    | none => .stk) = _
  rw [v]
  refine if_pos (List.all_eq_true.mpr fun x hx => ?_)
  obtain ⟨y, hy, rfl⟩ := List.mem_map.mp hx
  exact hp y hy
theorem lcL_map' {τ : Type} {rd : Rd} {t : Gt} {c : MT} {e : ME} {s0 : Sl} {h : AH} (enc : τ → AV) (p : τ → Bool) (g : τ → AV) (L : List τ) (hrd : rd h = some (L.map enc)) (H : ∀ x ∈ L, ∃ s1, t (enc x) s0 h = some s1 ∧ c s1 h = .ok (p x) h ∧ (p x = true → e s1 h = .ok (g x) h)) (hl : L.length ≤ sizeLine) : ∀ (n i : Nat) (acc : List AV), n + i = L.length → acc.length ≤ i → lcL rd t c e s0 n i acc h = .ok (acc ++ ((L.drop i).filter p).map g) h
  | 0, i, acc, en, la => by
    have e0 : (L.map enc)[i]? = none := List.getElem?_eq_none (by rw [List.length_map]; omega)
    rw [List.drop_eq_nil_of_le (by omega)]
    unfold lcL
    rw [hrd]
    simp only [e0]
    simp
  | n + 1, i, acc, en, la => by
    have hi : i < L.length := by omega
    have ih := fun acc => lcL_map' (t := t) (c := c) (e := e) (s0 := s0) enc p g L hrd H hl n (i + 1) acc (by omega)
    obtain ⟨s1, e1, e2, e3⟩ := H L[i] (List.getElem_mem hi)
    have ei : (L.map enc)[i]? = some (enc L[i]) := by rw [List.getElem?_map, List.getElem?_eq_getElem hi]; rfl
    rw [List.drop_eq_getElem_cons hi]
    unfold lcL
    rw [hrd]
    simp only [ei, e1, e2]
    cases hp : p L[i] with
    | true =>
      simp only [e3 hp, if_true]
      rw [if_pos (by omega), ih _ (by rw [List.length_append]; simp only [List.length_singleton]; omega), List.filter_cons_of_pos hp, List.map_cons, List.append_assoc]
      rfl
    | false =>
      simp only [Bool.false_eq_true, if_false]
      rw [ih _ (by omega), List.filter_cons_of_neg (by rw [hp]; exact Bool.false_ne_true)]
theorem lcL_map {τ : Type} {rd : Rd} {t : Gt} {c : MT} {e : ME} {s0 : Sl} {h : AH} (enc : τ → AV) (p : τ → Bool) (g : τ → AV) (L : List τ) (hrd : rd h = some (L.map enc)) (H : ∀ x ∈ L, ∃ s1, t (enc x) s0 h = some s1 ∧ c s1 h = .ok (p x) h ∧ (p x = true → e s1 h = .ok (g x) h)) (hl : L.length ≤ sizeLine) : lcL rd t c e s0 (rdLen rd h) 0 [] h = .ok ((L.filter p).map g) h := by
  have el : rdLen rd h = L.length := by unfold rdLen; rw [hrd]; exact List.length_map _
  rw [el, lcL_map' enc p g L hrd H hl L.length 0 [] (by omega) (Nat.le_refl _)]
  rfl
theorem closed_snocO {h : AH} {o : AO} (cl : Closed h) (l : ∀ n, LO n o) : Closed (h ++ [o]) := by
  intro i o e
  rw [List.getElem?_append] at e
  split at e
  · exact LO.mono (by simp) _ (cl i o e)
  · rename_i hi
    cases k : i - h.length with
    | zero => rw [k] at e; cases e; exact l _
    | succ n => rw [k] at e; cases e
/-- reading a source that is a tuple or a list -/
theorem sqA_ok {s : Sl} {h h1 : AH} {m : ME} {a : AV} {xs : List AV} (e : m s h = .ok a h1) (v : vSq h1 a = some xs) : ∃ rd, mSqA m s h = .ok rd h1 ∧ rd h1 = some xs := by
  unfold mSqA
  rw [e]
  unfold vSq at v
  cases k : vT a with
  | some ys =>
    rw [k] at v
    cases v
    exact ⟨rdC xs, by show (match vT a with | some xs => Rs.ok (rdC xs) h1 | none => _) = _; rw [k], rfl⟩
  | none =>
    rw [k] at v
    have v : vLR h1 a = some xs := v
    refine ⟨fun h => vLR h a, ?_, v⟩
    show (match vT a with | some xs => Rs.ok (rdC xs) h1 | none => _) = _
    rw [k]
    show (match vLR h1 a with | some _ => Rs.ok (α := Rd) (fun h => vLR h a) h1 | none => .stk) = _
    rw [v]
theorem lcA_ok {τ : Type} {mi : MI} {t : Gt} {c : MT} {e : ME} {vs : List Nat} {s : Sl} {h h1 : AH} {rd : Rd} (enc : τ → AV) (p : τ → Bool) (g : τ → AV) (L : List τ) (ei : mi s h = .ok rd h1) (hrd : rd h1 = some (L.map enc)) (H : ∀ x ∈ L, ∃ s1, t (enc x) (wipeA s vs) h1 = some s1 ∧ c s1 h1 = .ok (p x) h1 ∧ (p x = true → e s1 h1 = .ok (g x) h1)) (hl : L.length ≤ sizeLine) : mLc mi t c e vs s h = .ok (.lst ((L.filter p).map g)) h1 := by
  rw [ap_lc, ei, bind_ok, lcL_map enc p g L hrd H hl]
  rfl
@[simp] theorem aq_orE {a b : QE} {s : Sl} {h : AH} : qOrE a b s h = (a s h).bind fun x => match x with
  | .bl true => some (.bl true)
  | .bl false => b s h
  | _ => none := rfl
@[simp] theorem aq_andE {a b : QE} {s : Sl} {h : AH} : qAndE a b s h = (a s h).bind fun x => match x with
  | .bl true => b s h
  | .bl false => some (.bl false)
  | _ => none := rfl
@[simp] theorem aq_notE {a : QE} {s : Sl} {h : AH} : qNotE a s h = (a s h).bind fun x => match x with
  | .bl b => some (.bl (!b))
  | _ => none := rfl
section
variable {h : AH} {a b c : AV}
@[simp] theorem tup0 : S3.gTup [] h = some (.tup []) := tup_ok (by unfold sizeLine; simp)
@[simp] theorem tup1 : S3.gTup [a] h = some (.tup [a]) := tup_ok (by unfold sizeLine; simp)
@[simp] theorem tup2 : S3.gTup [a, b] h = some (.tup [a, b]) := tup_ok (by unfold sizeLine; simp)
@[simp] theorem tup3 : S3.gTup [a, b, c] h = some (.tup [a, b, c]) := tup_ok (by unfold sizeLine; simp)
@[simp] theorem lst0 : gLst [] h = some (.lst []) := lst_ok (by unfold sizeLine; simp)
@[simp] theorem lst1 : gLst [a] h = some (.lst [a]) := lst_ok (by unfold sizeLine; simp)
@[simp] theorem lst2 : gLst [a, b] h = some (.lst [a, b]) := lst_ok (by unfold sizeLine; simp)
@[simp] theorem lst3 : gLst [a, b, c] h = some (.lst [a, b, c]) := lst_ok (by unfold sizeLine; simp)
end
@[simp] theorem eq_TT0 {h : AH} {neg : Bool} : gEq neg (.tup []) (.tup []) h = some (.bl (!neg)) := by
  rw [eq_nilT (flat_tup (by simp))]
  cases neg <;> rfl
@[simp] theorem eq_LL0 {h : AH} {neg : Bool} : gEq neg (.lst []) (.lst []) h = some (.bl (!neg)) := by
  rw [eq_nilL (flat_lst (by simp))]
  cases neg <;> rfl
@[simp] theorem eq_DL0 {h : AH} {neg : Bool} : gEq neg (.rdl []) (.lst []) h = some (.bl (!neg)) := by
  rw [eq_nilD (flat_lst (by simp))]
  cases neg <;> rfl
/-! flat: as simp likes it -/
theorem flat_all_iff {n : Nat} : ∀ {xs : List AV}, (PyData.plainAll (pys xs) = true ∧ PyData.depthAll (pys xs) ≤ n) ↔ ∀ x ∈ xs, Flat n x
  | [] => by simp [pys, PyData.plainAll, PyData.depthAll]
  | x :: xs => by
    rw [List.forall_mem_cons, ← flat_all_iff]
    simp [pys, PyData.plainAll, PyData.depthAll, Flat]
    constructor
    · rintro ⟨⟨a, b⟩, c⟩; refine ⟨⟨a, by omega⟩, b, by omega⟩
    · rintro ⟨⟨a, b⟩, c, d⟩; exact ⟨⟨a, c⟩, by omega⟩
def Flats (n : Nat) (xs : List AV) : Prop := ∀ x ∈ xs, Flat n x
@[simp] theorem flats_nil {n : Nat} : Flats n [] ↔ True := iff_true_intro fun x z => by cases z
@[simp] theorem flats_cons {n : Nat} {a : AV} {r : List AV} : Flats n (a :: r) ↔ Flat n a ∧ Flats n r := List.forall_mem_cons
@[simp] theorem flats_app {n : Nat} {xs ys : List AV} : Flats n (xs ++ ys) ↔ Flats n xs ∧ Flats n ys := List.forall_mem_append
@[simp] theorem flat_tup_iff {n : Nat} {xs : List AV} : Flat (n + 1) (.tup xs) ↔ Flats n xs := by
  unfold Flats
  rw [← flat_all_iff]
  simp [Flat, py, PyData.plain, PyData.depth]
@[simp] theorem flat_lst_iff {n : Nat} {xs : List AV} : Flat (n + 1) (.lst xs) ↔ Flats n xs := by
  unfold Flats
  rw [← flat_all_iff]
  simp [Flat, py, PyData.plain, PyData.depth]
@[simp] theorem flat_int_iff {n : Nat} {i : Int} : Flat (n + 1) (.int i) ↔ True := iff_true_intro flat_int
@[simp] theorem flat_str_iff {n : Nat} {x : Str} : Flat (n + 1) (.str x) ↔ True := iff_true_intro flat_str
@[simp] theorem flat_bl_iff {n : Nat} {b : Bool} : Flat (n + 1) (.bl b) ↔ True := iff_true_intro flat_bl
section
variable {h : AH} {xs : List AV} {i : Int} {a : AV}
@[simp] theorem ix_end : gIx (.ref h.length) (.int i) (h ++ [.lst xs]) = atI xs i := ix_ref snoc_at
@[simp] theorem vLR_end : vLR (h ++ [.lst xs]) (.ref h.length) = some xs := vLR_ref snoc_at
@[simp] theorem vSq_end : vSq (h ++ [.lst xs]) (.ref h.length) = some xs := vLR_ref snoc_at
@[simp] theorem len_end : gLen [.ref h.length] (h ++ [.lst xs]) = some (.int (xs.length : Nat)) := len_ref snoc_at
@[simp] theorem tyL_end : tyL (.ref h.length) (h ++ [.lst xs]) = true := by
  simp [tyL]
theorem append_end (l : xs.length < 16777216) : gAppend (.ref h.length) [a] (h ++ [.lst xs]) = some (.non, h ++ [.lst (xs ++ [a])]) := by
  rw [append_ref snoc_at l, snoc_set]
theorem set_end {j : Nat} (k : ixN xs.length i = some j) : gSet (.ref h.length) (.int i) a (h ++ [.lst xs]) = some (h ++ [.lst (xs.set j a)]) := by
  rw [set_ref snoc_at k, snoc_set]
@[simp] theorem set_endL {b : AV} : gSet (.ref h.length) (.int (-1)) a (h ++ [.lst (xs ++ [b])]) = some (h ++ [.lst (xs ++ [a])]) := by
  rw [set_end (j := xs.length) (by rw [ixN_last (by simp)]; simp)]
  simp
@[simp] theorem pop_end : gPop (.ref h.length) [] (h ++ [.lst (xs ++ [a])]) = some (a, h ++ [.lst xs]) := by
  rw [pop_ref snoc_at, snoc_set]
@[simp] theorem eq_nil_end {neg : Bool} (f : Flat 60 (.lst xs)) : gEq neg (.ref h.length) (.lst []) (h ++ [.lst xs]) = some (.bl (if neg then !xs.isEmpty else xs.isEmpty)) := eq_nilR snoc_at f
end
end NC
end S3
end
section
set_option Elab.async false
set_option linter.all false
set_option maxRecDepth 100000
set_option maxHeartbeats 4000000
namespace S3
open PySem PySem.Spec PyProof.Rows L2
noncomputable section NC
/-! ### loops in general -/
/-- typed loop: each item goes on with a new state or ends -/
def loopR {σ τ ε : Type} (step : σ → τ → Sum ε σ) : List τ → σ → Sum ε σ
  | [], st => .inr st
  | x :: r, st => match step st x with
    | .inr st' => loopR step r st'
    | .inl e => .inl e
def endR {σ ε : Type} (encS : σ → Sl) (encH : σ → AH) (encE : ε → Ss) : Sum ε σ → Ss
  | .inr st => .nx (encS st) (encH st)
  | .inl e => encE e
theorem forC_R {σ τ ε : Type} {t : Gt} {b : MS} (encS : σ → Sl) (encH : σ → AH) (encX : τ → AV) (encE : ε → Ss) (step : σ → τ → Sum ε σ) (P : List τ → σ → Prop)
    (H : ∀ x r st, P (x :: r) st → ∃ s1, t (encX x) (encS st) (encH st) = some s1 ∧ (match step st x with
      | .inr st' => P r st' ∧ (b s1 (encH st) = .nx (encS st') (encH st') ∨ b s1 (encH st) = .ct (encS st') (encH st'))
      | .inl e => ∀ K, (b s1 (encH st)).lp K = encE e)) : ∀ (L : List τ) (st : σ), P L st → forC t b (L.map encX) (encS st) (encH st) = endR encS encH encE (loopR step L st)
  | [], st, _ => rfl
  | x :: r, st, p => by
    obtain ⟨s1, e1, q⟩ := H x r st p
    rw [List.map_cons, forC_cons e1]
    unfold loopR
    cases k : step st x with
    | inl e => rw [k] at q; exact q _
    | inr st' =>
      rw [k] at q
      obtain ⟨p', q⟩ := q
      rcases q with q | q
      · rw [q, lp_nx]; exact forC_R encS encH encX encE step P H r st' p'
      · rw [q, lp_ct]; exact forC_R encS encH encX encE step P H r st' p'
/-- .. without ends -/
theorem forC_fold {σ τ : Type} {t : Gt} {b : MS} (encS : σ → Sl) (encH : σ → AH) (encX : τ → AV) (step : σ → τ → σ) (P : List τ → σ → Prop)
    (H : ∀ x r st, P (x :: r) st → P r (step st x) ∧ ∃ s1, t (encX x) (encS st) (encH st) = some s1 ∧ (b s1 (encH st) = .nx (encS (step st x)) (encH (step st x)) ∨ b s1 (encH st) = .ct (encS (step st x)) (encH (step st x)))) : ∀ (L : List τ) (st : σ), P L st → forC t b (L.map encX) (encS st) (encH st) = .nx (encS (L.foldl step st)) (encH (L.foldl step st))
  | [], st, _ => rfl
  | x :: r, st, p => by
    obtain ⟨p', s1, e1, q⟩ := H x r st p
    rw [List.map_cons, forC_cons e1, List.foldl_cons]
    rcases q with q | q
    · rw [q, lp_nx]; exact forC_fold encS encH encX step P H r _ p'
    · rw [q, lp_ct]; exact forC_fold encS encH encX step P H r _ p'
theorem whileL_go {c : MT} {b : MS} {n : Nat} {s s2 : Sl} {h h2 : AH} (ec : c s h = .ok true h) (eb : b s h = .nx s2 h2) : whileL c b (n + 1) s h = whileL c b n s2 h2 := by
  show (c s h).toS s (fun x h1 => if x = true then (b s h1).lp (whileL c b n) else .nx s h1) = _
  rw [ec, toS_ok, if_pos rfl, eb, lp_nx]
theorem whileL_no {c : MT} {b : MS} {n : Nat} {s : Sl} {h : AH} (ec : c s h = .ok false h) : whileL c b (n + 1) s h = .nx s h := by
  show (c s h).toS s (fun x h1 => if x = true then (b s h1).lp (whileL c b n) else .nx s h1) = _
  rw [ec, toS_ok, if_neg Bool.false_ne_true]
theorem whileL_end {c : MT} {b : MS} {n : Nat} {s : Sl} {h : AH} {r : Ss} (ec : c s h = .ok true h) (eb : ∀ K, (b s h).lp K = r) : whileL c b (n + 1) s h = r := by
  show (c s h).toS s (fun x h1 => if x = true then (b s h1).lp (whileL c b n) else .nx s h1) = _
  rw [ec, toS_ok, if_pos rfl, eb]
/-- a while by a plain recursion with a measure -/
theorem whileL_fix {σ ρ : Type} {c : MT} {b : MS} (encS : σ → Sl) (encH : σ → AH) (f : σ → ρ) (out : ρ → Ss) (P : σ → Prop) (m : σ → Nat)
    (H : ∀ st, P st → (∃ st', c (encS st) (encH st) = .ok true (encH st) ∧ b (encS st) (encH st) = .nx (encS st') (encH st') ∧ P st' ∧ m st' < m st ∧ f st = f st') ∨ (c (encS st) (encH st) = .ok false (encH st) ∧ out (f st) = .nx (encS st) (encH st)) ∨ (c (encS st) (encH st) = .ok true (encH st) ∧ ∀ K, (b (encS st) (encH st)).lp K = out (f st))) :
    ∀ (n : Nat) (st : σ), P st → m st < n → whileL c b n (encS st) (encH st) = out (f st)
  | 0, st, _, h => absurd h (Nat.not_lt_zero _)
  | n + 1, st, p, h => by
    rcases H st p with ⟨st', e1, e2, p', hm, ef⟩ | ⟨e1, e2⟩ | ⟨e1, e2⟩
    · rw [whileL_go e1 e2, ef]
      exact whileL_fix encS encH f out P m H n st' p' (by omega)
    · rw [whileL_no e1, e2]
    · exact whileL_end e1 e2
/-- a while by an invariant and a measure -/
theorem whileL_inv {σ : Type} {c : MT} {b : MS} (encS : σ → Sl) (encH : σ → AH) (I : σ → Prop) (m : σ → Nat)
    (H : ∀ st, I st → (∃ st', c (encS st) (encH st) = .ok true (encH st) ∧ (b (encS st) (encH st) = .nx (encS st') (encH st') ∨ b (encS st) (encH st) = .ct (encS st') (encH st')) ∧ I st' ∧ m st' < m st) ∨ c (encS st) (encH st) = .ok false (encH st)) :
    ∀ (n : Nat) (st : σ), I st → m st < n → ∃ st', I st' ∧ c (encS st') (encH st') = .ok false (encH st') ∧ whileL c b n (encS st) (encH st) = .nx (encS st') (encH st')
  | 0, st, _, h => absurd h (Nat.not_lt_zero _)
  | n + 1, st, p, h => by
    rcases H st p with ⟨st', e1, e2, p', hm⟩ | e1
    · obtain ⟨s2, i2, e3, e4⟩ := whileL_inv encS encH I m H n st' p' (by omega)
      refine ⟨s2, i2, e3, ?_⟩
      show (c (encS st) (encH st)).toS (encS st) (fun x h1 => if x = true then (b (encS st) h1).lp (whileL c b n) else .nx (encS st) h1) = _
      rw [e1, toS_ok, if_pos rfl]
      rcases e2 with e2 | e2
      · rw [e2, lp_nx, e4]
      · rw [e2, lp_ct, e4]
    · exact ⟨st, p, e1, whileL_no e1⟩
/-- sources -/
theorem enumL_map {τ : Type} {enc : τ → AV} (L : List τ) : enumL (L.map enc) = (L.zipIdx).map fun p => .tup [.int (p.2 : Nat), enc p.1] := by
  unfold enumL
  rw [List.zipIdx_map, List.map_map]
  rfl
theorem upL_map (lo : Int) (n : Nat) (c : Int) : upL lo c n = ((List.range n).map fun (i : Nat) => (lo + i * c : Int)).map AV.int := by
  unfold upL
  rw [List.map_map]
  rfl
end NC
end S3
end
section
set_option Elab.async false
set_option linter.all false
set_option maxRecDepth 100000
set_option maxHeartbeats 4000000
namespace S3
open PySem PySem.Spec PyProof.Rows L2
noncomputable section NC
/-! ### ranges -/
theorem rgN_size {i j c : Int} (hc : c ≠ 0) : (rgN i j c : Int) = Builtin.Range.rangeSize i j c := by
  unfold rgN Builtin.Range.rangeSize
  by_cases h : 0 < c
  · rw [if_pos h, if_pos h]
    have e : (j - i + c - 1) / c = (j - i - 1) / c + 1 := by
      rw [show j - i + c - 1 = (j - i - 1) + c by omega, Int.add_ediv_of_dvd_right (Int.dvd_refl c), Int.ediv_self hc]
    by_cases hl : i < j
    · rw [if_pos hl, e]
      have : 0 ≤ (j - i - 1) / c := Int.ediv_nonneg (by omega) (by omega)
      omega
    · rw [if_neg hl]
      have : (j - i - 1) / c < 0 := Int.ediv_neg_of_neg_of_pos (by omega) h
      omega
  · have h' : 0 < -c := by omega
    rw [if_neg h, if_neg h]
    have e : (i - j - c - 1) / -c = (i - j - 1) / -c + 1 := by
      rw [show i - j - c - 1 = (i - j - 1) + -c by omega, Int.add_ediv_of_dvd_right (Int.dvd_refl _), Int.ediv_self (by omega)]
    by_cases hl : i > j
    · rw [if_pos hl, e]
      have : 0 ≤ (i - j - 1) / -c := Int.ediv_nonneg (by omega) (by omega)
      omega
    · rw [if_neg hl]
      have : (i - j - 1) / -c < 0 := Int.ediv_neg_of_neg_of_pos (by omega) h'
      omega
theorem size_le {i j c : Int} (hc : c ≠ 0) : 0 ≤ Builtin.Range.rangeSize i j c ∧ Builtin.Range.rangeSize i j c ≤ (j - i).natAbs := by
  unfold Builtin.Range.rangeSize
  by_cases h : 0 < c
  · rw [if_pos h]
    split
    · have h1 := Int.ediv_le_self (a := j - i - 1) c (by omega)
      have h2 : 0 ≤ (j - i - 1) / c := Int.ediv_nonneg (by omega) (by omega)
      omega
    · omega
  · rw [if_neg h]
    split
    · have h1 := Int.ediv_le_self (a := i - j - 1) (-c) (by omega)
      have h2 : 0 ≤ (i - j - 1) / -c := Int.ediv_nonneg (by omega) (by omega)
      omega
    · omega
theorem rgC_ok {i j c : Int} (hc : c ≠ 0) (hc2 : c.natAbs < 1073741824) (hi : -1000000000000 ≤ i ∧ i ≤ 1000000000000) (hj : -1000000000000 ≤ j ∧ j ≤ 1000000000000) : RgC i j c (rgN i j c) := by
  refine ⟨hc, hc2, ?_, (rgN_size hc).symm⟩
  obtain ⟨h1, h2⟩ := size_le (i := i) (j := j) hc
  unfold Builtin.Range.small Builtin.Range.rangeFitsLong
  simp only [Bool.and_eq_true, Bool.or_eq_true, decide_eq_true_eq, beq_iff_eq]
  refine ⟨⟨⟨⟨?_, ?_⟩, ?_⟩, ?_⟩, .inr ?_⟩
  · omega
  · omega
  · omega
  · omega
  · split <;> simp only [Bool.and_eq_true, decide_eq_true_eq] <;> omega
theorem rgN_down (n : Nat) : rgN ((n : Int) - 1) (-1) (-1) = n := by
  unfold rgN
  rw [if_neg (by omega), show ((-(-1) : Int)) = 1 by omega, Int.ediv_one]
  omega
theorem upL_down (n : Nat) : upL ((n : Int) - 1) (-1) n = (List.range n).reverse.map fun (i : Nat) => AV.int i := by
  refine List.ext_getElem (by simp [upL]) fun i h1 h2 => ?_
  simp [upL] at h1 h2 ⊢
  omega
theorem upL_nat (n : Nat) : upL 0 1 n = (List.range n).map fun (i : Nat) => AV.int i := by
  refine List.ext_getElem (by simp [upL]) fun i h1 h2 => ?_
  simp [upL] at h1 h2 ⊢
/-- the items of range(a, b, c) as a count: how often c goes into b - a, up -/
theorem rgN_up {j c : Int} (hj : 0 ≤ j) (hc : 0 < c) : (rgN 0 j c : Int) = 0 - (0 - j) / c := by
  unfold rgN
  rw [if_pos hc]
  have e : (j - 0 + c - 1) / c = 0 - (0 - j) / c := by
    have h1 := Int.mul_ediv_add_emod (0 - j) c
    have h2 := Int.emod_nonneg (0 - j) (show c ≠ 0 by omega)
    have h3 := Int.emod_lt_of_pos (0 - j) hc
    have key : j - 0 + c - 1 = (0 - (0 - j) / c) * c + (c - 1 - (0 - j) % c) := by
      rw [Int.sub_mul, Int.mul_comm ((0 - j) / c) c]
      omega
    rw [key, Int.add_comm, Int.add_mul_ediv_right _ _ (by omega), Int.ediv_eq_zero_of_lt (by omega) (by omega)]
    omega
  rw [e]
  have : (0 - j) / c ≤ 0 := by
    rcases Int.lt_or_eq_of_le hj with h | h
    · exact Int.le_of_lt (Int.ediv_neg_of_neg_of_pos (by omega) hc)
    · rw [← h]; simp
  omega
/-- for x in ..: if p x: end -/
theorem forC_find {τ : Type} {t : Gt} {b : MS} {s : Sl} {h : AH} (encX : τ → AV) (p : τ → Bool) (res : τ → Ss) : ∀ (L : List τ), (∀ x ∈ L, ∃ s1, t (encX x) s h = some s1 ∧ (p x = true → ∀ K, (b s1 h).lp K = res x) ∧ (p x = false → b s1 h = .nx s h ∨ b s1 h = .ct s h)) → forC t b (L.map encX) s h = match L.find? p with
    | some x => res x
    | none => .nx s h
  | [], _ => rfl
  | x :: L, H => by
    obtain ⟨s1, e1, e2, e3⟩ := H x List.mem_cons_self
    have ih := forC_find encX p res L fun y hy => H y (List.mem_cons_of_mem _ hy)
    rw [List.map_cons, forC_cons e1, List.find?_cons]
    cases hp : p x with
    | true => exact e2 hp _
    | false =>
      rcases e3 hp with e | e
      · rw [e, lp_nx, ih]
      · rw [e, lp_ct, ih]
theorem okN_ok {i : Int} (h : -1000000000 ≤ i) (h' : i ≤ 1000000000) : okN i := by
  have e : (2 : Int) ^ 62 = 4611686018427387904 := by decide +kernel
  unfold okN
  rw [e]
  omega
/-! ### written texts -/
@[simp] theorem ofString_inj {a b : String} : Str.ofString a = Str.ofString b ↔ a = b := by
  refine ⟨fun h => ?_, fun h => by rw [h]⟩
  rw [Str.ofString_eq_toList, Str.ofString_eq_toList] at h
  injection h with h
  have h : a.toList.map Char.toNat = b.toList.map Char.toNat := by simpa using h
  have inj : ∀ (x y : List Char), x.map Char.toNat = y.map Char.toNat → x = y := by
    intro x
    induction x with
    | nil => intro y hy; cases y with
      | nil => rfl
      | cons d y => simp at hy
    | cons c x ih => intro y hy; cases y with
      | nil => simp at hy
      | cons d y =>
        simp only [List.map_cons, List.cons.injEq] at hy
        obtain ⟨h1, h2⟩ := hy
        rw [ih y h2, Char.toNat_inj.mp h1]
  exact String.toList_injective (inj _ _ h)
@[simp] theorem ofString_beq {a b : String} : (Str.ofString a == Str.ofString b) = decide (a = b) := by
  by_cases h : a = b
  · subst h; simp
  · rw [beq_false_of_ne (fun z => h (ofString_inj.mp z)), decide_eq_false h]
@[simp] theorem lookup_hit {v : AV} {k : Str} {r : List (Str × AV)} : ((k, v) :: r).lookup k = some v := by simp [List.lookup]
example : (([("layers", AV.non)] : List (Str × AV)).lookup ("fallen" : Str)) = none := by simp [List.lookup]
/-! ### statements one by one -/
section
variable {s s1 : Sl} {h h1 h2 : AH}
theorem seq_nx {a b : MS} (e : a s h = .nx s1 h1) : mSeq a b s h = b s1 h1 := by rw [ap_seq, e, then_nx]
theorem chk_ok {c : MT} {m : MS} (e : c s h = .ok false h1) : mIfS c m mSkip s h = .nx s h1 := by rw [ap_ifS, e, toS_ok, if_neg Bool.false_ne_true, ap_skip]
theorem eq_pyv {a b : AV} {neg : Bool} (e : pyv h a = pyv h b) (f1 : (pyv h b).plain = true) (f2 : (pyv h b).depth ≤ 60) : gEq neg a b h = some (.bl (!neg)) := by
  have : gEq neg a b h = gEq neg b b h := by unfold gEq; rw [e]
  rw [this]
  exact gEq_self f1 f2
theorem ne_same {m1 m2 : ME} {a : AV} (e1 : m1 s h = .ok a h1) (e2 : m2 s h1 = .ok a h2) (f : Flat 60 a) (e : pyv h2 a = py a) : mTest (mBin (gEq true) m1 m2) s h = .ok false h2 := by
  rw [ap_test, ap_bin, e1, bind_ok, e2, bind_ok, eq_self f e]
  rfl
theorem ne_pyv {m1 m2 : ME} {a b : AV} (e1 : m1 s h = .ok a h1) (e2 : m2 s h1 = .ok b h2) (f : Flat 60 a) (ea : pyv h2 a = py a) (eb : pyv h2 b = py a) : mTest (mBin (gEq true) m1 m2) s h = .ok false h2 := by
  rw [ap_test, ap_bin, e1, bind_ok, e2, bind_ok]
  have := eq_pyv (neg := true) (h := h2) (a := b) (b := a) (by rw [ea, eb]) (by rw [ea]; exact f.1) (by rw [ea]; exact f.2)
  have z : gEq true a b h2 = gEq true b a h2 := by unfold gEq; rw [ea, eb]
  rw [z, this]
  rfl
theorem told_ok {cl : List (Str × Str)} {m : ME} {a : AV} (e : m s h = .ok a h1) : mTold cl m s h = .ok a h1 := by rw [ap_told, e]
theorem told_exc {cl : List (Str × Str)} {m : ME} {c r : Str} {fs : List (Str × AV)} (e : m s h = .exc c fs h1) (l : cl.lookup c = some r) : mTold cl m s h = .ok (.str r) h1 := by
  rw [ap_told, e]
  simp only [l]
end
end NC
end S3
end
section
set_option Elab.async false
set_option linter.all false
set_option maxRecDepth 100000
set_option maxHeartbeats 4000000
namespace S3
open PySem PySem.Spec PyProof.Rows L2
noncomputable section NC
/-! ### data by their Lean types -/
theorem lexHelp {α : Type} {P : α → List PyData} : True := trivial
class Dt (τ : Type) where
  enc : τ → AV
  dep : Nat
  can : ∀ x, canon (enc x) = true
  pl : ∀ x, (py (enc x)).plain = true
  dp : ∀ x, (py (enc x)).depth ≤ dep
  inj : ∀ x y, PyData.eqv (py (enc x)) (py (enc y)) = true ↔ x = y
  nref : ∀ x (h : AH), pyv h (enc x) = py (enc x)
open Dt (enc)
instance : Dt Int := ⟨.int, 1, fun _ => rfl, fun _ => by simp [py, PyData.plain], fun _ => by simp [py, PyData.depth], fun x y => by show PyData.eqv (.int x) (.int y) = true ↔ _; rw [eqv_int]; simp, fun _ _ => rfl⟩
instance : Dt Str := ⟨.str, 1, fun _ => rfl, fun _ => by simp [py, PyData.plain], fun _ => by simp [py, PyData.depth], fun x y => by show (x == y) = true ↔ _; simp, fun _ _ => rfl⟩
instance : Dt Bool := ⟨.bl, 1, fun _ => rfl, fun _ => by simp [py, PyData.plain], fun _ => by simp [py, PyData.depth], fun x y => by show (x == y) = true ↔ _; simp, fun _ _ => rfl⟩
theorem depth_tup (xs : List AV) : (py (.tup xs)).depth = PyData.depthAll (pys xs) + 1 := by simp [py, PyData.depth]
instance instDtProd {α β : Type} [Dt α] [Dt β] : Dt (α × β) := ⟨fun p => .tup [enc p.1, enc p.2], max (Dt.dep α) (Dt.dep β) + 1, fun x => by simp [canon, canons, Dt.can], fun x => by simp [py, pys, PyData.plain, PyData.plainAll, Dt.pl],
  fun x => by
    have h1 := Dt.dp x.1
    have h2 := Dt.dp x.2
    simp [py, pys, PyData.depth, PyData.depthAll]
    omega, fun x y => by
    obtain ⟨a, b⟩ := x
    obtain ⟨c, d⟩ := y
    show PyData.eqv (.tuple (pys [enc a, enc b])) (.tuple (pys [enc c, enc d])) = true ↔ _
    simp only [pys]
    rw [show PyData.eqv (.tuple [py (enc a), py (enc b)]) (.tuple [py (enc c), py (enc d)]) = PyData.eqvAll [py (enc a), py (enc b)] [py (enc c), py (enc d)] from by rw [PyData.eqv]]
    rw [PySem.W.eqv_all_cons, PySem.W.eqv_all_cons]
    simp [PyData.eqvAll, Dt.inj], fun _ _ => rfl⟩
theorem encs_depth {τ : Type} [Dt τ] : ∀ L : List τ, PyData.depthAll (pys (L.map enc)) ≤ Dt.dep τ
  | [] => by simp [pys, PyData.depthAll]
  | x :: L => by
    have h1 := Dt.dp x
    have h2 := encs_depth L
    simp [pys, PyData.depthAll]
    omega
theorem encs_plain {τ : Type} [Dt τ] : ∀ L : List τ, PyData.plainAll (pys (L.map enc)) = true
  | [] => by simp [pys, PyData.plainAll]
  | x :: L => by simp [pys, PyData.plainAll, Dt.pl, encs_plain L]
theorem encs_canon {τ : Type} [Dt τ] : ∀ L : List τ, canons (L.map enc) = true
  | [] => rfl
  | x :: L => by simp [canons, Dt.can, encs_canon L]
theorem encs_eqv {τ : Type} [Dt τ] : ∀ L M : List τ, PyData.eqvAll (pys (L.map enc)) (pys (M.map enc)) = true ↔ L = M
  | [], [] => by simp [pys, PyData.eqvAll]
  | [], _ :: _ => by simp [pys, PyData.eqvAll]
  | _ :: _, [] => by simp [pys, PyData.eqvAll]
  | x :: L, y :: M => by
    simp only [List.map_cons, pys]
    rw [PySem.W.eqv_all_cons, Bool.and_eq_true, encs_eqv L M, Dt.inj]
    simp
theorem eqv_dec {τ : Type} [Dt τ] [DecidableEq τ] (x y : τ) : PyData.eqv (py (enc x)) (py (enc y)) = decide (x = y) := by
  by_cases h : x = y
  · rw [decide_eq_true h]; exact (Dt.inj x y).mpr h
  · rw [decide_eq_false h, Bool.eq_false_iff]; exact fun z => h ((Dt.inj x y).mp z)
/-- lists as tuples, as lists -/
theorem flat_enc {τ : Type} [Dt τ] (x : τ) {n : Nat} (h : Dt.dep τ ≤ n) : Flat n (enc x) := ⟨Dt.pl x, Nat.le_trans (Dt.dp x) h⟩
theorem flats_enc {τ : Type} [Dt τ] (L : List τ) {n : Nat} (h : Dt.dep τ ≤ n) : Flats n (L.map enc) := fun x hx => by
  obtain ⟨y, _, rfl⟩ := List.mem_map.mp hx
  exact flat_enc y h
section
variable {h : AH} {τ : Type} [Dt τ]
theorem gEq_enc [DecidableEq τ] {neg : Bool} (x y : τ) (hd : Dt.dep τ ≤ 60) : gEq neg (enc x) (enc y) h = some (.bl (if neg then !decide (x = y) else decide (x = y))) := by
  unfold gEq
  rw [Dt.nref, Dt.nref, eqv_dec]
  refine if_pos ?_
  have h1 := Dt.dp x
  unfold okD
  rw [Dt.pl, Dt.pl]
  simp
  omega
theorem gEq_dat {neg : Bool} {a b : AV} (ea : pyv h a = py a) (eb : pyv h b = py b) (pa : (py a).plain = true) (pb : (py b).plain = true) (d : (py a).depth ≤ 60) : gEq neg a b h = some (.bl (if neg then !PyData.eqv (py a) (py b) else PyData.eqv (py a) (py b))) := by
  unfold gEq
  rw [ea, eb]
  refine if_pos ?_
  unfold okD
  rw [pa, pb]
  simp
  omega
theorem eqv_lists [DecidableEq τ] (L M : List τ) : PyData.eqvAll (pys (L.map enc)) (pys (M.map enc)) = decide (L = M) := by
  by_cases e : L = M
  · rw [decide_eq_true e]; exact (encs_eqv L M).mpr e
  · rw [decide_eq_false e, Bool.eq_false_iff]; exact fun z => e ((encs_eqv L M).mp z)
theorem gEq_tups [DecidableEq τ] {neg : Bool} (L M : List τ) (hd : Dt.dep τ < 60) : gEq neg (.tup (L.map enc)) (.tup (M.map enc)) h = some (.bl (if neg then !decide (L = M) else decide (L = M))) := by
  rw [gEq_dat rfl rfl (by simp [py, PyData.plain, encs_plain]) (by simp [py, PyData.plain, encs_plain]) (by have := encs_depth L; simp [py, PyData.depth]; omega)]
  simp only [py, PyData.eqv, eqv_lists]
theorem gEq_lsts [DecidableEq τ] {neg : Bool} (L M : List τ) (hd : Dt.dep τ < 60) : gEq neg (.lst (L.map enc)) (.lst (M.map enc)) h = some (.bl (if neg then !decide (L = M) else decide (L = M))) := by
  rw [gEq_dat rfl rfl (by simp [py, PyData.plain, encs_plain]) (by simp [py, PyData.plain, encs_plain]) (by have := encs_depth L; simp [py, PyData.depth]; omega)]
  simp only [py, PyData.eqv, eqv_lists]
end
/-! order -/
class DtO (τ : Type) extends Dt τ where
  lt : τ → τ → Bool
  like : ∀ x y : τ, PySem.W.alike (py (enc x)) (py (enc y)) = true
  some : ∀ x : τ, py (enc x) ≠ .none
  ltok : ∀ x y : τ, PySem.W.dataLt (py (enc x)) (py (enc y)) = lt x y
  irr : ∀ x : τ, lt x x = false
  tr : ∀ x y z : τ, lt x y = true → lt y z = true → lt x z = true
  con : ∀ x y : τ, lt x y = false → lt y x = false → x = y
instance : DtO Int := { lt := fun x y => decide (x < y), like := fun _ _ => rfl, some := (fun _ => by simp [enc, py]), ltok := fun x y => PySem.W.dataLt_int x y, irr := (fun _ => by simp), tr := (fun x y z => by simp; omega), con := (fun x y => by simp; omega) }
theorem Str.ext_list {x y : Str} (h : x.cps.toList = y.cps.toList) : x = y := PySem.W.str_of_cps h
instance : DtO Str where
  lt := fun x y => decide (x.cps.toList < y.cps.toList)
  like := fun _ _ => rfl
  some := fun _ => by simp [enc, py]
  ltok := fun x y => PySem.W.dataLt_str x y
  irr := fun x => by simp [List.lt_irrefl]
  tr := fun x y z => by simp only [decide_eq_true_eq]; exact fun a b => List.lt_trans a b
  con := fun x y => by
    simp only [decide_eq_false_iff_not, List.not_lt]
    exact fun a b => Str.ext_list (List.le_antisymm b a)
instance instDtOProd {α β : Type} [DtO α] [DtO β] [DecidableEq α] : DtO (α × β) where
  lt := fun p q => DtO.lt p.1 q.1 || (decide (p.1 = q.1) && DtO.lt p.2 q.2)
  like := fun x y => by
    show PySem.W.alike (.tuple (pys [enc x.1, enc x.2])) (.tuple (pys [enc y.1, enc y.2])) = true
    simp [pys, PySem.W.alike, PySem.W.alikeAll, DtO.like]
  some := fun _ => by simp [enc, py]
  ltok := fun x y => by
    show PySem.W.dataLt (.tuple (pys [enc x.1, enc x.2])) (.tuple (pys [enc y.1, enc y.2])) = _
    rw [PySem.W.dataLt_tuple]
    simp only [pys]
    by_cases e : x.1 = y.1
    · rw [PySem.W.dataLt_all_yes (DtO.like _ _) ((Dt.inj _ _).mpr e)]
      by_cases e2 : x.2 = y.2
      · rw [PySem.W.dataLt_all_yes (DtO.like _ _) ((Dt.inj _ _).mpr e2), e, e2, DtO.irr, DtO.irr]
        simp [PySem.W.keyToksAll, PyProof.Rows.lexLt]
        exact KeyOrd.irrefl itemOrd (Sum.inl 0)
      · rw [PySem.W.dataLt_all_no (DtO.like _ _) (by rw [Bool.eq_false_iff]; exact fun z => e2 ((Dt.inj _ _).mp z)), DtO.ltok, e, DtO.irr]
        simp
    · rw [PySem.W.dataLt_all_no (DtO.like _ _) (by rw [Bool.eq_false_iff]; exact fun z => e ((Dt.inj _ _).mp z)), DtO.ltok, decide_eq_false e]
      simp
  irr := fun x => by simp [DtO.irr]
  tr := fun x y z => by
    simp only [Bool.or_eq_true, Bool.and_eq_true, decide_eq_true_eq]
    rintro (a | ⟨a, b⟩) (c | ⟨c, d⟩)
    · exact .inl (DtO.tr _ _ _ a c)
    · rw [← c]; exact .inl a
    · rw [a]; exact .inl c
    · exact .inr ⟨a.trans c, DtO.tr _ _ _ b d⟩
  con := fun x y => by
    simp only [Bool.or_eq_false_iff, Bool.and_eq_false_iff, decide_eq_false_iff_not]
    rintro ⟨a, b⟩ ⟨c, d⟩
    have e := DtO.con _ _ a c
    refine Prod.ext e ?_
    rcases b with b | b
    · exact absurd e b
    · rcases d with d | d
      · exact absurd e.symm d
      · exact DtO.con _ _ b d
/-- the least, the greatest, the first of them -/
def minL {τ : Type} [DtO τ] (x : τ) (L : List τ) : τ := L.foldl (fun a y => if DtO.lt y a = true then y else a) x
def maxL {τ : Type} [DtO τ] (x : τ) (L : List τ) : τ := L.foldl (fun a y => if DtO.lt a y = true then y else a) x
section
variable {h : AH} {τ : Type} [DtO τ]
theorem pys_map {α : Type} (f : α → AV) : ∀ L : List α, pys (L.map f) = L.map fun x => py (f x)
  | [] => rfl
  | x :: L => by rw [List.map_cons, pys, pys_map f L]; rfl
theorem minD_enc (x : τ) : ∀ L : List τ, PySem.W.minD (py (enc x)) (pys (L.map enc)) = py (enc (minL x L)) := fun L => by
  unfold PySem.W.minD minL
  induction L generalizing x with
  | nil => rfl
  | cons y L ih =>
    simp only [List.map_cons, pys, List.foldl_cons, DtO.ltok]
    cases DtO.lt y x with
    | true => exact ih y
    | false => exact ih x
theorem maxD_enc (x : τ) : ∀ L : List τ, PySem.W.maxD (py (enc x)) (pys (L.map enc)) = py (enc (maxL x L)) := fun L => by
  unfold PySem.W.maxD maxL
  induction L generalizing x with
  | nil => rfl
  | cons y L ih =>
    simp only [List.map_cons, pys, List.foldl_cons, DtO.ltok]
    cases DtO.lt x y with
    | true => exact ih y
    | false => exact ih x
theorem like_encs (L : List τ) : likeAll (pys (L.map enc)) = true := by
  unfold likeAll
  rw [pys_map, List.all_eq_true]
  intro d hd
  obtain ⟨x, _, rfl⟩ := List.mem_map.mp hd
  rw [Bool.and_eq_true, List.all_eq_true]
  refine ⟨?_, fun e he => ?_⟩
  · have := DtO.some x
    cases k : py (enc x) with
    | none => exact absurd k this
    | _ => rfl
  · obtain ⟨y, _, rfl⟩ := List.mem_map.mp he
    exact DtO.like x y
theorem okItems_enc (L : List τ) (hd : Dt.dep τ ≤ 60) : okItems (L.map enc) = true := by
  unfold okItems
  rw [encs_canon, encs_plain, like_encs]
  have := encs_depth L
  simp
  omega
theorem gBest_one {mx : Bool} {best : PyData → List PyData → PyData} {a : AV} : gBest mx best [a] h = match vSq h a with
    | some (x :: xs) => if okItems (x :: xs) = true then some (unpy (best (py x) (pys xs))) else none
    | _ => none := by cases a <;> rfl
theorem gMin_enc {a : AV} {x : τ} {L : List τ} (v : vSq h a = some ((x :: L).map enc)) (hd : Dt.dep τ ≤ 60) : gMin [a] h = some (enc (minL x L)) := by
  rw [show gMin = gBest false PySem.W.minD from rfl, gBest_one, v]
  show (if okItems ((x :: L).map enc) = true then some (unpy (PySem.W.minD (py (enc x)) (pys (L.map enc)))) else none) = _
  rw [if_pos (okItems_enc _ hd), minD_enc, unpy_py _ (Dt.can _)]
theorem gMax_enc {a : AV} {x : τ} {L : List τ} (v : vSq h a = some ((x :: L).map enc)) (hd : Dt.dep τ ≤ 60) : gMax [a] h = some (enc (maxL x L)) := by
  rw [show gMax = gBest true PySem.W.maxD from rfl, gBest_one, v]
  show (if okItems ((x :: L).map enc) = true then some (unpy (PySem.W.maxD (py (enc x)) (pys (L.map enc)))) else none) = _
  rw [if_pos (okItems_enc _ hd), maxD_enc, unpy_py _ (Dt.can _)]
@[simp] theorem gMin_int2 {i j : Int} : gMin [.int i, .int j] h = some (.int (min i j)) := by
  show some (AV.int (if j < i then j else i)) = _
  congr 2
  split <;> omega
@[simp] theorem gMax_int2 {i j : Int} : gMax [.int i, .int j] h = some (.int (max i j)) := by
  show some (AV.int (if j > i then j else i)) = _
  congr 2
  split <;> omega
theorem minL_le (x : τ) : ∀ L : List τ, minL x L ∈ x :: L ∧ ∀ y ∈ x :: L, DtO.lt y (minL x L) = false := fun L => by
  induction L generalizing x with
  | nil => exact ⟨List.mem_cons_self, fun y hy => by obtain rfl := List.mem_singleton.mp hy; exact DtO.irr _⟩
  | cons z L ih =>
    show minL (if DtO.lt z x = true then z else x) L ∈ _ ∧ _
    obtain ⟨h1, h2⟩ := ih (if DtO.lt z x = true then z else x)
    refine ⟨?_, fun y hy => ?_⟩
    · rcases List.mem_cons.mp h1 with e | e
      · show minL _ L ∈ _
        rw [e]
        split <;> simp
      · exact List.mem_cons_of_mem _ (List.mem_cons_of_mem _ e)
    · show DtO.lt y (minL (if DtO.lt z x = true then z else x) L) = false
      have hh := h2 (if DtO.lt z x = true then z else x) List.mem_cons_self
      have step : ∀ a b c : τ, DtO.lt a b = false → DtO.lt b c = false → DtO.lt a c = false := fun a b c p q => by
        cases k : DtO.lt a c with
        | false => rfl
        | true =>
          exfalso
          cases k2 : DtO.lt b a with
          | true => rw [DtO.tr b a c k2 k] at q; cases q
          | false =>
            have := DtO.con a b p k2
            rw [this] at k
            rw [k] at q
            cases q
      rcases List.mem_cons.mp hy with rfl | hy
      · split at hh
        · rename_i hz
          rw [if_pos hz]
          refine step _ _ _ ?_ hh
          cases k : DtO.lt y z with
          | false => rfl
          | true => have := DtO.tr _ _ _ k hz; rw [DtO.irr] at this; cases this
        · rename_i hz; rw [if_neg hz]; exact hh
      · rcases List.mem_cons.mp hy with rfl | hy
        · split at hh
          · rename_i hz; rw [if_pos hz]; exact hh
          · rename_i hz
            rw [if_neg hz]
            exact step _ _ _ (by simpa using hz) hh
        · exact h2 y (List.mem_cons_of_mem _ hy)
end
section
variable {h : AH} {xs : List AV} {neg : Bool}
@[simp] theorem eq_nilLs (f : Flat 60 (.lst xs)) : gEq neg (.lst xs) (.lst []) h = some (.bl (if neg then !xs.isEmpty else xs.isEmpty)) := eq_nilL f
@[simp] theorem eq_nilTs (f : Flat 60 (.tup xs)) : gEq neg (.tup xs) (.tup []) h = some (.bl (if neg then !xs.isEmpty else xs.isEmpty)) := eq_nilT f
@[simp] theorem eq_nilDs (f : Flat 60 (.lst xs)) : gEq neg (.rdl xs) (.lst []) h = some (.bl (if neg then !xs.isEmpty else xs.isEmpty)) := eq_nilD f
@[simp] theorem flats_int {n : Nat} {L : List Int} : Flats (n + 1) (L.map AV.int) ↔ True := iff_true_intro (flats_enc L (Nat.succ_le_succ (Nat.zero_le n)))
@[simp] theorem flats_mapint {α : Type} {n : Nat} {f : α → Int} {L : List α} : Flats (n + 1) (L.map fun x => AV.int (f x)) ↔ True := iff_true_intro fun x hx => by
  obtain ⟨y, _, rfl⟩ := List.mem_map.mp hx
  exact flat_int
end
/-! lists by their places -/
def nth {τ : Type} (d : τ) (L : List τ) (k : Nat) : τ := L.getD k d
theorem nth_get {τ : Type} {d : τ} {L : List τ} {k : Nat} (h : k < L.length) : nth d L k = L[k] := by simp [nth, List.getD, h]
theorem nth_mem {τ : Type} {d : τ} {L : List τ} {k : Nat} (h : k < L.length) : nth d L k ∈ L := by rw [nth_get h]; exact List.getElem_mem h
theorem range_nth {τ : Type} (d : τ) (L : List τ) : L = (List.range L.length).map (nth d L) := by
  refine List.ext_getElem (by simp) fun i h1 h2 => ?_
  simp [nth, List.getD, h1]
theorem enumL_rng {τ : Type} {f : τ → AV} (d : τ) (L : List τ) : enumL (L.map f) = (List.range L.length).map fun (k : Nat) => .tup [.int (k : Nat), f (nth d L k)] := by
  rw [enumL_map]
  refine List.ext_getElem (by simp) fun i h1 h2 => ?_
  have h : i < L.length := by simpa using h1
  simp [nth, List.getD, h]
theorem atI_nth {τ : Type} {f : τ → AV} (d : τ) {L : List τ} {k : Nat} (hk : k < L.length) : atI (L.map f) (k : Int) = some (f (nth d L k)) := by
  rw [S3.atI_nat (by omega)]
  simp [hk, nth, List.getD]
section
variable {h : AH}
@[simp] theorem gSum_lst {α : Type} {f : α → Int} {L : List α} : gSum [.lst (L.map fun x => .int (f x))] h = some (.int (L.map f).sum) := by
  unfold gSum
  simp
@[simp] theorem gSum_tup2 {i j : Int} : gSum [.tup [.int i, .int j]] h = some (.int (i + j)) := by
  unfold gSum
  simp [intsOf]
theorem gSum_ints {L : List Int} {a : AV} (v : vSq h a = some (L.map AV.int)) : gSum [a] h = some (.int L.sum) := by
  unfold gSum
  simp only [v]
  have : intsOf (L.map AV.int) = some L := by
    have := ints_map (f := fun x : Int => x) (L := L)
    simpa using this
  simp [this]
theorem canLay_ints : ∀ L : List Int, PyData.canLayAll0 (pys (L.map AV.int)) = true
  | [] => by simp [pys, PyData.canLayAll0]
  | x :: L => by simp [pys, py, PyData.canLayAll0, PyData.canLay0, canLay_ints L]
theorem gIndex_int {a : AV} {L : List Int} {x : Int} (v : vLR h a = some (L.map AV.int)) (hx : x ∈ L) : gIndex a [.int x] h = some (.int (L.idxOf x : Nat), h) := by
  unfold gIndex
  simp only [v]
  have d := encs_depth L
  have e1 : SeqAt.shaped (.list (pys (L.map AV.int))) = true := by
    unfold SeqAt.shaped
    have d : PyData.depthAll (pys (L.map AV.int)) ≤ 1 := d
    simp [PyData.canLay0, canLay_ints, PyData.depth]
    omega
  have e2 : SeqAt.shaped (pyv h (.int x)) = true := rfl
  have e3 : PyData.plainAll (pys (L.map AV.int)) = true := encs_plain L
  rw [if_pos ⟨e1, e2, e3, by simp [pyv, py, PyData.plain]⟩]
  have e4 : (pys (L.map AV.int)).findIdx? (fun z => PyData.eqv z (pyv h (.int x))) = some (L.idxOf x) := by
    rw [pys_map, List.findIdx?_map]
    have : ((fun z => PyData.eqv z (pyv h (.int x))) ∘ fun x => py (AV.int x)) = fun y : Int => y == x := by
      funext y
      show PyData.eqv (.int y) (.int x) = _
      rw [eqv_int]
      by_cases e : y = x <;> simp [e]
    rw [this]
    clear e1 e3 d v
    induction L with
    | nil => cases hx
    | cons y L ih =>
      rw [List.findIdx?_cons, List.idxOf_cons]
      by_cases e : y = x
      · simp [e]
      · have hx' : x ∈ L := by
          rcases List.mem_cons.mp hx with z | z
          · exact absurd z.symm e
          · exact z
        have : (y == x) = false := by simp [e]
        rw [this]
        simp [ih hx']
  rw [e4]
  rfl
end
end NC
end S3
end
section
set_option Elab.async false
set_option linter.all false
set_option maxRecDepth 100000
set_option maxHeartbeats 4000000
namespace S3
open PySem PySem.Spec PyProof.Rows L2
noncomputable section NC
/-! ### evaluation by simp with side conditions -/
section
variable {h : AH} {i j : Int} {xs ys : List AV} {a b c : AV} {n : Nat} {s : Sl}
theorem cMul_of (c : (-1000000000000 ≤ i ∧ i ≤ 1000000000000) ∨ (-1000000000000 ≤ j ∧ j ≤ 1000000000000)) : CMul i j := by
  unfold CMul
  rcases c with ⟨h1, h2⟩ | ⟨h1, h2⟩
  · exact .inl ⟨by omega, by omega⟩
  · exact .inr ⟨by omega, by omega⟩
@[simp] theorem gMul_s (c : (-1000000000000 ≤ i ∧ i ≤ 1000000000000) ∨ (-1000000000000 ≤ j ∧ j ≤ 1000000000000)) : gMul (.int i) (.int j) h = some (.int (i * j)) := gMul_int (cMul_of c)
@[simp] theorem gDiv_s (c : 0 < j) (c2 : j < 1073741824) : gDiv (.int i) (.int j) h = some (.int (i / j)) := gDiv_int ⟨c, c2⟩
@[simp] theorem gMod_s (c : 0 < j) : gMod (.int i) (.int j) h = some (.int (i % j)) := gMod_int c
@[simp] theorem addT_s (l : xs.length + ys.length ≤ 16777216) : gAdd (.tup xs) (.tup ys) h = some (.tup (xs ++ ys)) := addT_ok l
@[simp] theorem addL_s (l : xs.length + ys.length ≤ 16777216) : gAdd (.lst xs) (.lst ys) h = some (.lst (xs ++ ys)) := addL_ok l
@[simp] theorem append_s (l : xs.length < 16777216) : gAppend (.ref h.length) [a] (h ++ [.lst xs]) = some (.non, h ++ [.lst (xs ++ [a])]) := append_end l
@[simp] theorem rg1_s (o : -1000000000 ≤ j) (o' : j ≤ 1000000000) : rg1K [.int j] h = .ok (rdC (upL 0 1 j.toNat)) h := rg1_ok (okN_ok o o')
@[simp] theorem rg2_s (o : -1000000000 ≤ i) (o' : i ≤ 1000000000) (u : -1000000000 ≤ j) (u' : j ≤ 1000000000) : rg2K [.int i, .int j] h = .ok (rdC (upL i 1 (j - i).toNat)) h := rg2_ok (okN_ok o o') (okN_ok u u')
@[simp] theorem rg3_s {k : Int} (o : -1000000000 ≤ i) (o' : i ≤ 1000000000) (u : -1000000000 ≤ j) (u' : j ≤ 1000000000) (w : k ≠ 0) (w1 : -1000000000 ≤ k) (w2 : k ≤ 1000000000) : rg3K [.int i, .int j, .int k] h = .ok (rdC (upL i k (rgN i j k))) h := rg3_ok (rgC_ok w (by omega) ⟨by omega, by omega⟩ ⟨by omega, by omega⟩)
@[simp] theorem atI_snoc {α : Type} {l : List α} {x : α} : atI (l ++ [x]) (l.length : Int) = some x := by
  rw [S3.atI_nat (by omega)]; simp
@[simp] theorem atI_snocM {α β : Type} {f : α → β} {l : List α} {x : β} : atI (l.map f ++ [x]) (l.length : Int) = some x := by
  rw [S3.atI_nat (by omega)]; simp
@[simp] theorem cut_snoc {x : AV} : cutA (xs ++ [x]) none (some (xs.length : Int)) = xs := by
  rw [cut_to (by omega)]; simp
@[simp] theorem cut_snocM {α : Type} {f : α → AV} {l : List α} {x : AV} : cutA (l.map f ++ [x]) none (some (l.length : Int)) = l.map f := by
  rw [cut_to (by omega)]; simp
@[simp] theorem cut_snocI {x : AV} : cutA (xs ++ [x]) none (some (-1)) = xs := by
  rw [cut_init]; simp
@[simp] theorem cut_nat {k : Nat} : cutA xs none (some (k : Int)) = xs.take k := by
  rw [cut_to (by omega)]; simp
@[simp] theorem cut_fromN {k : Nat} : cutA xs (some (k : Int)) none = xs.drop k := by
  rw [cut_from (by omega)]; simp
@[simp] theorem cut_fromN1 {k : Nat} : cutA xs (some ((k : Int) + 1)) none = xs.drop (k + 1) := by
  rw [show (k : Int) + 1 = ((k + 1 : Nat) : Int) by omega]; exact cut_fromN
@[simp] theorem isEmpty_snoc {α : Type} {l : List α} {x : α} : (l ++ [x]).isEmpty = false := by cases l <;> rfl
@[simp] theorem tup4 {d : AV} : S3.gTup [a, b, c, d] h = some (.tup [a, b, c, d]) := tup_ok (by unfold sizeLine; simp)
@[simp] theorem tup5 {d e : AV} : S3.gTup [a, b, c, d, e] h = some (.tup [a, b, c, d, e]) := tup_ok (by unfold sizeLine; simp)
@[simp] theorem lst4 {d : AV} : gLst [a, b, c, d] h = some (.lst [a, b, c, d]) := lst_ok (by unfold sizeLine; simp)
@[simp] theorem lst5 {d e : AV} : gLst [a, b, c, d, e] h = some (.lst [a, b, c, d, e]) := lst_ok (by unfold sizeLine; simp)
@[simp] theorem list_tup : gList [.tup xs] h = some (.lst xs) := rfl
@[simp] theorem list_lst : gList [.lst xs] h = some (.lst xs) := rfl
@[simp] theorem gAbs_s : gAbs [.int i] h = some (.int (i.natAbs : Int)) := by
  show some (AV.int (if i < 0 then -i else i)) = _
  congr 2
  split <;> omega
@[simp] theorem gInt_int : gInt [.int i] h = some (.int i) := rfl
@[simp] theorem gInt_bl {b : Bool} : gInt [.bl b] h = some (.int (if b then 1 else 0)) := rfl
@[simp] theorem av0 {a : AV} {l : Sl} : mVar 0 (some a :: l) h = .ok a h := rfl
@[simp] theorem av1 {a : AV} {x0 : Option AV} {l : Sl} : mVar 1 (x0 :: some a :: l) h = .ok a h := rfl
@[simp] theorem av2 {a : AV} {x0 x1 : Option AV} {l : Sl} : mVar 2 (x0 :: x1 :: some a :: l) h = .ok a h := rfl
@[simp] theorem av3 {a : AV} {x0 x1 x2 : Option AV} {l : Sl} : mVar 3 (x0 :: x1 :: x2 :: some a :: l) h = .ok a h := rfl
@[simp] theorem av4 {a : AV} {x0 x1 x2 x3 : Option AV} {l : Sl} : mVar 4 (x0 :: x1 :: x2 :: x3 :: some a :: l) h = .ok a h := rfl
@[simp] theorem av5 {a : AV} {x0 x1 x2 x3 x4 : Option AV} {l : Sl} : mVar 5 (x0 :: x1 :: x2 :: x3 :: x4 :: some a :: l) h = .ok a h := rfl
@[simp] theorem av6 {a : AV} {x0 x1 x2 x3 x4 x5 : Option AV} {l : Sl} : mVar 6 (x0 :: x1 :: x2 :: x3 :: x4 :: x5 :: some a :: l) h = .ok a h := rfl
@[simp] theorem av7 {a : AV} {x0 x1 x2 x3 x4 x5 x6 : Option AV} {l : Sl} : mVar 7 (x0 :: x1 :: x2 :: x3 :: x4 :: x5 :: x6 :: some a :: l) h = .ok a h := rfl
@[simp] theorem av8 {a : AV} {x0 x1 x2 x3 x4 x5 x6 x7 : Option AV} {l : Sl} : mVar 8 (x0 :: x1 :: x2 :: x3 :: x4 :: x5 :: x6 :: x7 :: some a :: l) h = .ok a h := rfl
@[simp] theorem av9 {a : AV} {x0 x1 x2 x3 x4 x5 x6 x7 x8 : Option AV} {l : Sl} : mVar 9 (x0 :: x1 :: x2 :: x3 :: x4 :: x5 :: x6 :: x7 :: x8 :: some a :: l) h = .ok a h := rfl
theorem avS {m : Nat} {x : Option AV} {l : Sl} : mVar (m + 1) (x :: l) h = mVar m l h := by
  unfold mVar
  simp
end
theorem rgL_ok {h : AH} {i j c : Int} (hc : c ≠ 0) (h1 : -1000000000 ≤ c ∧ c ≤ 1000000000) (hi : -1000000 ≤ i ∧ i ≤ 1000000) (hj : -1000000 ≤ j ∧ j ≤ 1000000) (mk : List AV → AV) : gRg mk [.int i, .int j, .int c] h = some (mk (upL i c (rgN i j c))) := by
  have r := rgC_ok (i := i) (j := j) hc (by omega) ⟨by omega, by omega⟩ ⟨by omega, by omega⟩
  have e := rgN_size (i := i) (j := j) hc
  obtain ⟨s1, s2⟩ := size_le (i := i) (j := j) hc
  have hh : RgC i j c (rgN i j c) ∧ rgN i j c ≤ 2 ^ 24 := ⟨r, by omega⟩
  have e0 : rgNums [.int i, .int j, .int c] = some (i, j, c) := by
    unfold rgNums
    simp only
    rw [if_pos ⟨hc, by omega⟩]
  unfold gRg
  simp only [e0]
  rw [if_pos hh]
/-- for k in range(N), the states told by the number of turns -/
theorem forC_upto {t : Gt} {b : MS} (S : Nat → Sl) (G : Nat → AH) (f : Nat → AV) : ∀ (N k : Nat), (∀ j, k ≤ j → j < k + N → ∃ s1, t (f j) (S j) (G j) = some s1 ∧ (b s1 (G j) = .nx (S (j + 1)) (G (j + 1)) ∨ b s1 (G j) = .ct (S (j + 1)) (G (j + 1)))) → forC t b ((List.range N).map fun i => f (k + i)) (S k) (G k) = .nx (S (k + N)) (G (k + N))
  | 0, k, _ => rfl
  | N + 1, k, H => by
    obtain ⟨s1, e1, e2⟩ := H k (Nat.le_refl _) (by omega)
    have ih := forC_upto (t := t) (b := b) S G f N (k + 1) fun j h1 h2 => H j (by omega) (by omega)
    have el : (List.range (N + 1)).map (fun i => f (k + i)) = f k :: (List.range N).map fun i => f (k + 1 + i) := by
      rw [List.range_succ_eq_map, List.map_cons, List.map_map]
      congr 1
      refine List.map_congr_left fun i _ => ?_
      show f (k + (i + 1)) = f (k + 1 + i)
      congr 1
      omega
    rw [el, forC_cons e1, show k + (N + 1) = k + 1 + N by omega, ← ih]
    rcases e2 with e | e
    · rw [e, lp_nx]
    · rw [e, lp_ct]
theorem forC_range {t : Gt} {b : MS} (S : Nat → Sl) (G : Nat → AH) (N : Nat) (H : ∀ k, k < N → ∃ s1, t (.int (k : Nat)) (S k) (G k) = some s1 ∧ (b s1 (G k) = .nx (S (k + 1)) (G (k + 1)) ∨ b s1 (G k) = .ct (S (k + 1)) (G (k + 1)))) : forC t b (upL 0 1 N) (S 0) (G 0) = .nx (S N) (G N) := by
  have := forC_upto (t := t) (b := b) S G (fun j => AV.int (j : Nat)) N 0 fun j _ h => H j (by omega)
  rw [upL_nat]
  simpa using this
section
variable {h : AH} {neg : Bool} {x y : Str} {i : Int} {b : Bool} {xs : List AV}
@[simp] theorem gEq_str : gEq neg (.str x) (.str y) h = some (.bl (if neg then !decide (x = y) else decide (x = y))) := gEq_enc (τ := Str) x y (by decide)
@[simp] theorem gEq_bl {c : Bool} : gEq neg (.bl b) (.bl c) h = some (.bl (if neg then !decide (b = c) else decide (b = c))) := gEq_enc (τ := Bool) b c (by decide)
theorem gEq_no {a c : AV} (ea : pyv h a = py a) (ec : pyv h c = py c) (p1 : (py a).plain = true) (p2 : (py c).plain = true) (d : min (py a).depth (py c).depth ≤ 60) (e : PyData.eqv (py a) (py c) = false) : gEq neg a c h = some (.bl neg) := by
  unfold gEq
  rw [ea, ec]
  have : okD (py a) (py c) = true := by unfold okD; rw [p1, p2]; simpa using d
  rw [if_pos this, e]
  cases neg <;> rfl
@[simp] theorem gEq_si : gEq neg (.str x) (.int i) h = some (.bl neg) := gEq_no rfl rfl rfl rfl (by simp [py, PyData.depth]) rfl
@[simp] theorem gEq_is : gEq neg (.int i) (.str x) h = some (.bl neg) := gEq_no rfl rfl rfl rfl (by simp [py, PyData.depth]) rfl
@[simp] theorem gEq_ns : gEq neg .non (.str x) h = some (.bl neg) := gEq_no rfl rfl rfl rfl (by simp [py, PyData.depth]) rfl
@[simp] theorem gEq_sn : gEq neg (.str x) .non h = some (.bl neg) := gEq_no rfl rfl rfl rfl (by simp [py, PyData.depth]) rfl
@[simp] theorem gEq_ni : gEq neg .non (.int i) h = some (.bl neg) := gEq_no rfl rfl rfl rfl (by simp [py, PyData.depth]) rfl
@[simp] theorem gEq_in : gEq neg (.int i) .non h = some (.bl neg) := gEq_no rfl rfl rfl rfl (by simp [py, PyData.depth]) rfl
@[simp] theorem gEq_nn : gEq neg .non .non h = some (.bl (!neg)) := by
  unfold gEq
  cases neg <;> rfl
theorem plainAll_of {xs : List AV} {n : Nat} (f : Flats n xs) : PyData.plainAll (pys xs) = true := (flat_all f).1
@[simp] theorem gEq_ts (f : Flats 100 xs) : gEq neg (.tup xs) (.str x) h = some (.bl neg) := gEq_no rfl rfl (by simpa [py, PyData.plain] using plainAll_of f) rfl (by simp [py, PyData.depth]) (by simp [py, PyData.eqv])
@[simp] theorem gEq_st (f : Flats 100 xs) : gEq neg (.str x) (.tup xs) h = some (.bl neg) := gEq_no rfl rfl rfl (by simpa [py, PyData.plain] using plainAll_of f) (by simp [py, PyData.depth]) (by simp [py, PyData.eqv])
@[simp] theorem gEq_ls (f : Flats 100 xs) : gEq neg (.lst xs) (.str x) h = some (.bl neg) := gEq_no rfl rfl (by simpa [py, PyData.plain] using plainAll_of f) rfl (by simp [py, PyData.depth]) (by simp [py, PyData.eqv])
@[simp] theorem gIs_sn : gIs neg (.str x) .non h = some (.bl neg) := rfl
@[simp] theorem gIs_in : gIs neg (.int i) .non h = some (.bl neg) := rfl
@[simp] theorem gIs_tn : gIs neg (.tup xs) .non h = some (.bl neg) := rfl
@[simp] theorem gIs_nn {neg : Bool} : gIs neg .non .non h = some (.bl (!neg)) := by cases neg <;> rfl
end
end NC
end S3
end
section
set_option Elab.async false
set_option linter.all false
set_option maxRecDepth 100000
set_option maxHeartbeats 0
namespace K01
open PySem PySem.Spec PyProof.Rows L2 S3
/-! ### the text by places -/
def top (i : Nat) : Stmt := PySem.Challenge.pw_snowhall_k01_falls.main.body.getD i (.Pass ⟨0, 0, 0, 0⟩)
abbrev s_sort_of : Stmt := top 11
abbrev s_Cover_init : Stmt := inClass (top 12) 0
abbrev s_Cover_depth : Stmt := inClass (top 12) 1
abbrev s_Cover_water : Stmt := inClass (top 12) 2
abbrev s_Cover_fallen : Stmt := inClass (top 12) 3
abbrev s_Cover_settled : Stmt := inClass (top 12) 4
abbrev s_Cover_thawed : Stmt := inClass (top 12) 5
abbrev s_Cover_sinks : Stmt := inClass (top 12) 6
abbrev s_Cover_layer_at : Stmt := inClass (top 12) 7
abbrev s_Cover_weakest : Stmt := inClass (top 12) 8
abbrev s_Cover_key : Stmt := inClass (top 12) 9
abbrev s_weathered : Stmt := top 13
abbrev s_lay_days : Stmt := top 14
abbrev s_deepest_day : Stmt := top 15
abbrev s_melt_days : Stmt := top 16
abbrev s__law_dice : Stmt := top 18
abbrev s__law_roll : Stmt := top 19
abbrev s__law_rounds : Stmt := top 20
abbrev s__law_told : Stmt := top 21
abbrev s__law_fallen : Stmt := top 22
abbrev s__law_settled : Stmt := top 23
abbrev s__law_thawed : Stmt := top 24
abbrev s__law_rest1 : Stmt := top 25
abbrev s_law : Stmt := top 26
/-! ### what the head tells -/
def d_sort_of : He.DefD := ⟨("sort_of", none), "sort_of", "sort_of", defArgs s_sort_of, defBody s_sort_of, defScope s_sort_of, [], []⟩
def d_Cover_init : He.DefD := ⟨("Cover", some "__init__"), "__init__", "Cover.__init__", defArgs s_Cover_init, defBody s_Cover_init, defScope s_Cover_init, [], []⟩
def d_Cover_depth : He.DefD := ⟨("Cover", some "depth"), "depth", "Cover.depth", defArgs s_Cover_depth, defBody s_Cover_depth, defScope s_Cover_depth, [], []⟩
def d_Cover_water : He.DefD := ⟨("Cover", some "water"), "water", "Cover.water", defArgs s_Cover_water, defBody s_Cover_water, defScope s_Cover_water, [], []⟩
def d_Cover_fallen : He.DefD := ⟨("Cover", some "fallen"), "fallen", "Cover.fallen", defArgs s_Cover_fallen, defBody s_Cover_fallen, defScope s_Cover_fallen, [], []⟩
def d_Cover_settled : He.DefD := ⟨("Cover", some "settled"), "settled", "Cover.settled", defArgs s_Cover_settled, defBody s_Cover_settled, defScope s_Cover_settled, [], []⟩
def d_Cover_thawed : He.DefD := ⟨("Cover", some "thawed"), "thawed", "Cover.thawed", defArgs s_Cover_thawed, defBody s_Cover_thawed, defScope s_Cover_thawed, [], []⟩
def d_Cover_sinks : He.DefD := ⟨("Cover", some "sinks"), "sinks", "Cover.sinks", defArgs s_Cover_sinks, defBody s_Cover_sinks, defScope s_Cover_sinks, [], []⟩
def d_Cover_layer_at : He.DefD := ⟨("Cover", some "layer_at"), "layer_at", "Cover.layer_at", defArgs s_Cover_layer_at, defBody s_Cover_layer_at, defScope s_Cover_layer_at, [], []⟩
def d_Cover_weakest : He.DefD := ⟨("Cover", some "weakest"), "weakest", "Cover.weakest", defArgs s_Cover_weakest, defBody s_Cover_weakest, defScope s_Cover_weakest, [], []⟩
def d_Cover_key : He.DefD := ⟨("Cover", some "key"), "key", "Cover.key", defArgs s_Cover_key, defBody s_Cover_key, defScope s_Cover_key, [], []⟩
def d_weathered : He.DefD := ⟨("weathered", none), "weathered", "weathered", defArgs s_weathered, defBody s_weathered, defScope s_weathered, [], []⟩
def d_lay_days : He.DefD := ⟨("lay_days", none), "lay_days", "lay_days", defArgs s_lay_days, defBody s_lay_days, defScope s_lay_days, [], []⟩
def d_deepest_day : He.DefD := ⟨("deepest_day", none), "deepest_day", "deepest_day", defArgs s_deepest_day, defBody s_deepest_day, defScope s_deepest_day, [], []⟩
def d_melt_days : He.DefD := ⟨("melt_days", none), "melt_days", "melt_days", defArgs s_melt_days, defBody s_melt_days, defScope s_melt_days, [], []⟩
def d__law_dice : He.DefD := ⟨("_law_dice", none), "_law_dice", "_law_dice", defArgs s__law_dice, defBody s__law_dice, defScope s__law_dice, [], []⟩
def d__law_roll : He.DefD := ⟨("_law_roll", none), "_law_roll", "_law_roll", defArgs s__law_roll, defBody s__law_roll, defScope s__law_roll, [], []⟩
def d__law_rounds : He.DefD := ⟨("_law_rounds", none), "_law_rounds", "_law_rounds", defArgs s__law_rounds, defBody s__law_rounds, defScope s__law_rounds, [], []⟩
def d__law_told : He.DefD := ⟨("_law_told", none), "_law_told", "_law_told", defArgs s__law_told, defBody s__law_told, defScope s__law_told, [], []⟩
def d__law_fallen : He.DefD := ⟨("_law_fallen", none), "_law_fallen", "_law_fallen", defArgs s__law_fallen, defBody s__law_fallen, defScope s__law_fallen, [], []⟩
def d__law_settled : He.DefD := ⟨("_law_settled", none), "_law_settled", "_law_settled", defArgs s__law_settled, defBody s__law_settled, defScope s__law_settled, [], []⟩
def d__law_thawed : He.DefD := ⟨("_law_thawed", none), "_law_thawed", "_law_thawed", defArgs s__law_thawed, defBody s__law_thawed, defScope s__law_thawed, [], []⟩
def d__law_rest1 : He.DefD := ⟨("_law_rest1", none), "_law_rest1", "_law_rest1", defArgs s__law_rest1, defBody s__law_rest1, defScope s__law_rest1, [], []⟩
def d_law : He.DefD := ⟨("law", none), "law", "law", defArgs s_law, defBody s_law, defScope s_law, [], []⟩
def fnL : List He.DefD := [d_sort_of, d_Cover_init, d_Cover_depth, d_Cover_water, d_Cover_fallen, d_Cover_settled, d_Cover_thawed, d_Cover_sinks, d_Cover_layer_at, d_Cover_weakest, d_Cover_key, d_weathered, d_lay_days, d_deepest_day, d_melt_days, d__law_dice, d__law_roll, d__law_rounds, d__law_told, d__law_fallen, d__law_settled, d__law_thawed, d__law_rest1, d_law]
def fa0 : List He.Fa := [.glo "sort_of", .glo "weathered", .glo "lay_days", .glo "deepest_day", .glo "melt_days", .glo "_law_dice", .glo "_law_roll", .glo "_law_rounds", .glo "_law_told", .glo "_law_fallen", .glo "_law_settled", .glo "_law_thawed", .glo "_law_rest1", .glo "law", .glo "SnowFault", .glo "BadSize", .glo "BadPlan", .glo "NoSuch", .glo "NoRoom", .glo "NoWay", .glo "Breaks", .glo "BadText", .glo "BadDeed", .glo "Cover", .free "abs", .free "any", .free "enumerate", .free "int", .free "len", .free "list"]
def fa1 : List He.Fa := [.free "max", .free "min", .free "range", .free "reversed", .free "sum", .free "tuple", .cls "Cover", .noat "Cover" "layers", .mkr "Cover", .meth "Cover" "depth", .meth "Cover" "water", .meth "Cover" "fallen", .meth "Cover" "settled", .meth "Cover" "thawed", .meth "Cover" "sinks", .meth "Cover" "layer_at", .meth "Cover" "weakest", .meth "Cover" "key", .exc "BadDeed", .exc "BadPlan", .exc "BadSize", .exc "Breaks", .exc "NoRoom", .exc "NoSuch", .exc "NoWay"]
def faL : List He.Fa := fa0 ++ fa1
def tfL : List He.Defn := [("Cover", some "__init__"), ("Cover", some "depth"), ("Cover", some "water"), ("_law_rest1", none), ("law", none)]
def cl_told : List (Str × Str) := [("BadSize", "size"), ("BadPlan", "plan"), ("NoSuch", "no such"), ("NoRoom", "no room"), ("NoWay", "no way"), ("Breaks", "breaks"), ("BadText", "text"), ("BadDeed", "deed")]
def exL (K : PySem.W.Frag) : Bool := decide (((tfL.map fun p => (He.cT K p).2)).Nodup) && ((cl_told.map (·.1)).all fun c => (cl_told.map (·.1)).all fun e => decide (PySem.W.exmOne K (.ref (He.ga K c)) (.ref (He.ga K e)) = some (decide (c = e))))
abbrev R : PySem.W.OpenRow := PySem.W.OpenLaw.row PySem.Challenge.rw_snowhall_k01_falls
abbrev hk : PySem.W.Hook := He.hookX 6 faL fnL [] tfL exL
def ob (s : PySem.W.SharedT) : He.AlX := He.obsX 6 faL fnL [] tfL exL (HandSHeadRun.getT s)
theorem ob_eq (s : PySem.W.SharedT) : ob s = hk.obs s.abs := He.obsX_eq (HandSHeadRun.getT_eq s)
def looseL : List PySem.Str := (["sort_of", "weathered", "lay_days", "deepest_day", "melt_days", "_law_dice", "_law_roll", "_law_rounds", "_law_told", "_law_fallen", "_law_settled", "_law_thawed", "_law_rest1", "SnowFault", "BadSize", "BadPlan", "NoSuch", "NoRoom", "NoWay", "Breaks", "BadText", "BadDeed", "Cover"] : List PySem.Str)
theorem run (w : World) : HandSHeadRun.RunEq R (PySem.W.view R.prog [26]) hk ob 6000 looseL w := by
  intro os
  kernel_rfl
structure TX (B : Bx) (base : Heap) where
  a_sort_of : Addr
  fd_sort_of : FuncData
  c_sort_of : Addr
  fu_sort_of : FunC B.K "sort_of" "sort_of" s_sort_of a_sort_of fd_sort_of c_sort_of
  bi_sort_of : L2.Binds B.K fd_sort_of ["heat"] []
  mg_sort_of : B.mg "sort_of" = some (.ref a_sort_of)
  a_Cover_init : Addr
  fd_Cover_init : FuncData
  c_Cover_init : Addr
  fu_Cover_init : FunC B.K "__init__" "Cover.__init__" s_Cover_init a_Cover_init fd_Cover_init c_Cover_init
  bi_Cover_init : L2.Binds B.K fd_Cover_init ["self", "layers"] []
  a_Cover_depth : Addr
  fd_Cover_depth : FuncData
  c_Cover_depth : Addr
  fu_Cover_depth : FunC B.K "depth" "Cover.depth" s_Cover_depth a_Cover_depth fd_Cover_depth c_Cover_depth
  bi_Cover_depth : L2.Binds B.K fd_Cover_depth ["self"] []
  a_Cover_water : Addr
  fd_Cover_water : FuncData
  c_Cover_water : Addr
  fu_Cover_water : FunC B.K "water" "Cover.water" s_Cover_water a_Cover_water fd_Cover_water c_Cover_water
  bi_Cover_water : L2.Binds B.K fd_Cover_water ["self"] []
  a_Cover_fallen : Addr
  fd_Cover_fallen : FuncData
  c_Cover_fallen : Addr
  fu_Cover_fallen : FunC B.K "fallen" "Cover.fallen" s_Cover_fallen a_Cover_fallen fd_Cover_fallen c_Cover_fallen
  bi_Cover_fallen : L2.Binds B.K fd_Cover_fallen ["self", "deep"] []
  a_Cover_settled : Addr
  fd_Cover_settled : FuncData
  c_Cover_settled : Addr
  fu_Cover_settled : FunC B.K "settled" "Cover.settled" s_Cover_settled a_Cover_settled fd_Cover_settled c_Cover_settled
  bi_Cover_settled : L2.Binds B.K fd_Cover_settled ["self"] []
  a_Cover_thawed : Addr
  fd_Cover_thawed : FuncData
  c_Cover_thawed : Addr
  fu_Cover_thawed : FunC B.K "thawed" "Cover.thawed" s_Cover_thawed a_Cover_thawed fd_Cover_thawed c_Cover_thawed
  bi_Cover_thawed : L2.Binds B.K fd_Cover_thawed ["self", "degrees"] []
  a_Cover_sinks : Addr
  fd_Cover_sinks : FuncData
  c_Cover_sinks : Addr
  fu_Cover_sinks : FunC B.K "sinks" "Cover.sinks" s_Cover_sinks a_Cover_sinks fd_Cover_sinks c_Cover_sinks
  bi_Cover_sinks : L2.Binds B.K fd_Cover_sinks ["self"] []
  a_Cover_layer_at : Addr
  fd_Cover_layer_at : FuncData
  c_Cover_layer_at : Addr
  fu_Cover_layer_at : FunC B.K "layer_at" "Cover.layer_at" s_Cover_layer_at a_Cover_layer_at fd_Cover_layer_at c_Cover_layer_at
  bi_Cover_layer_at : L2.Binds B.K fd_Cover_layer_at ["self", "deep"] []
  a_Cover_weakest : Addr
  fd_Cover_weakest : FuncData
  c_Cover_weakest : Addr
  fu_Cover_weakest : FunC B.K "weakest" "Cover.weakest" s_Cover_weakest a_Cover_weakest fd_Cover_weakest c_Cover_weakest
  bi_Cover_weakest : L2.Binds B.K fd_Cover_weakest ["self"] []
  a_Cover_key : Addr
  fd_Cover_key : FuncData
  c_Cover_key : Addr
  fu_Cover_key : FunC B.K "key" "Cover.key" s_Cover_key a_Cover_key fd_Cover_key c_Cover_key
  bi_Cover_key : L2.Binds B.K fd_Cover_key ["self"] []
  a_weathered : Addr
  fd_weathered : FuncData
  c_weathered : Addr
  fu_weathered : FunC B.K "weathered" "weathered" s_weathered a_weathered fd_weathered c_weathered
  bi_weathered : L2.Binds B.K fd_weathered ["cover", "hours"] []
  mg_weathered : B.mg "weathered" = some (.ref a_weathered)
  a_lay_days : Addr
  fd_lay_days : FuncData
  c_lay_days : Addr
  fu_lay_days : FunC B.K "lay_days" "lay_days" s_lay_days a_lay_days fd_lay_days c_lay_days
  bi_lay_days : L2.Binds B.K fd_lay_days ["depths", "least"] []
  mg_lay_days : B.mg "lay_days" = some (.ref a_lay_days)
  a_deepest_day : Addr
  fd_deepest_day : FuncData
  c_deepest_day : Addr
  fu_deepest_day : FunC B.K "deepest_day" "deepest_day" s_deepest_day a_deepest_day fd_deepest_day c_deepest_day
  bi_deepest_day : L2.Binds B.K fd_deepest_day ["depths"] []
  mg_deepest_day : B.mg "deepest_day" = some (.ref a_deepest_day)
  a_melt_days : Addr
  fd_melt_days : FuncData
  c_melt_days : Addr
  fu_melt_days : FunC B.K "melt_days" "melt_days" s_melt_days a_melt_days fd_melt_days c_melt_days
  bi_melt_days : L2.Binds B.K fd_melt_days ["deep", "firm", "degrees"] []
  mg_melt_days : B.mg "melt_days" = some (.ref a_melt_days)
  a__law_dice : Addr
  fd__law_dice : FuncData
  c__law_dice : Addr
  fu__law_dice : FunC B.K "_law_dice" "_law_dice" s__law_dice a__law_dice fd__law_dice c__law_dice
  bi__law_dice : L2.Binds B.K fd__law_dice ["cell"] []
  mg__law_dice : B.mg "_law_dice" = some (.ref a__law_dice)
  a__law_roll : Addr
  fd__law_roll : FuncData
  c__law_roll : Addr
  fu__law_roll : FunC B.K "_law_roll" "_law_roll" s__law_roll a__law_roll fd__law_roll c__law_roll
  bi__law_roll : L2.Binds B.K fd__law_roll ["dice", "many"] []
  mg__law_roll : B.mg "_law_roll" = some (.ref a__law_roll)
  a__law_rounds : Addr
  fd__law_rounds : FuncData
  c__law_rounds : Addr
  fu__law_rounds : FunC B.K "_law_rounds" "_law_rounds" s__law_rounds a__law_rounds fd__law_rounds c__law_rounds
  bi__law_rounds : L2.Binds B.K fd__law_rounds ["script", "most"] []
  mg__law_rounds : B.mg "_law_rounds" = some (.ref a__law_rounds)
  a__law_told : Addr
  fd__law_told : FuncData
  c__law_told : Addr
  fu__law_told : FunC B.K "_law_told" "_law_told" s__law_told a__law_told fd__law_told c__law_told
  bi__law_told : L2.Binds B.K fd__law_told ["what"] []
  mg__law_told : B.mg "_law_told" = some (.ref a__law_told)
  a__law_fallen : Addr
  fd__law_fallen : FuncData
  c__law_fallen : Addr
  fu__law_fallen : FunC B.K "_law_fallen" "_law_fallen" s__law_fallen a__law_fallen fd__law_fallen c__law_fallen
  bi__law_fallen : L2.Binds B.K fd__law_fallen ["rows", "deep"] []
  mg__law_fallen : B.mg "_law_fallen" = some (.ref a__law_fallen)
  a__law_settled : Addr
  fd__law_settled : FuncData
  c__law_settled : Addr
  fu__law_settled : FunC B.K "_law_settled" "_law_settled" s__law_settled a__law_settled fd__law_settled c__law_settled
  bi__law_settled : L2.Binds B.K fd__law_settled ["rows"] []
  mg__law_settled : B.mg "_law_settled" = some (.ref a__law_settled)
  a__law_thawed : Addr
  fd__law_thawed : FuncData
  c__law_thawed : Addr
  fu__law_thawed : FunC B.K "_law_thawed" "_law_thawed" s__law_thawed a__law_thawed fd__law_thawed c__law_thawed
  bi__law_thawed : L2.Binds B.K fd__law_thawed ["rows", "degrees"] []
  mg__law_thawed : B.mg "_law_thawed" = some (.ref a__law_thawed)
  a__law_rest1 : Addr
  fd__law_rest1 : FuncData
  c__law_rest1 : Addr
  fu__law_rest1 : FunC B.K "_law_rest1" "_law_rest1" s__law_rest1 a__law_rest1 fd__law_rest1 c__law_rest1
  bi__law_rest1 : L2.Binds B.K fd__law_rest1 ["dice", "cover", "at"] []
  mg__law_rest1 : B.mg "_law_rest1" = some (.ref a__law_rest1)
  a_law : Addr
  fd_law : FuncData
  c_law : Addr
  fu_law : FunC B.K "law" "law" s_law a_law fd_law c_law
  bi_law : L2.Binds B.K fd_law ["script"] []
  mg_law : B.mg "law" = some (.ref a_law)
  C_SnowFault : Addr
  mgc_SnowFault : B.mg "SnowFault" = some (.ref C_SnowFault)
  C_BadSize : Addr
  mgc_BadSize : B.mg "BadSize" = some (.ref C_BadSize)
  C_BadPlan : Addr
  mgc_BadPlan : B.mg "BadPlan" = some (.ref C_BadPlan)
  C_NoSuch : Addr
  mgc_NoSuch : B.mg "NoSuch" = some (.ref C_NoSuch)
  C_NoRoom : Addr
  mgc_NoRoom : B.mg "NoRoom" = some (.ref C_NoRoom)
  C_NoWay : Addr
  mgc_NoWay : B.mg "NoWay" = some (.ref C_NoWay)
  C_Breaks : Addr
  mgc_Breaks : B.mg "Breaks" = some (.ref C_Breaks)
  C_BadText : Addr
  mgc_BadText : B.mg "BadText" = some (.ref C_BadText)
  C_BadDeed : Addr
  mgc_BadDeed : B.mg "BadDeed" = some (.ref C_BadDeed)
  C_Cover : Addr
  mgc_Cover : B.mg "Cover" = some (.ref C_Cover)
  cls_Cover : ClsF B "Cover" ["layers"]
  mk_Cover : Mk B.K C_Cover a_Cover_init
  me_Cover_depth : Meth B.K C_Cover "depth" a_Cover_depth
  me_Cover_water : Meth B.K C_Cover "water" a_Cover_water
  me_Cover_fallen : Meth B.K C_Cover "fallen" a_Cover_fallen
  me_Cover_settled : Meth B.K C_Cover "settled" a_Cover_settled
  me_Cover_thawed : Meth B.K C_Cover "thawed" a_Cover_thawed
  me_Cover_sinks : Meth B.K C_Cover "sinks" a_Cover_sinks
  me_Cover_layer_at : Meth B.K C_Cover "layer_at" a_Cover_layer_at
  me_Cover_weakest : Meth B.K C_Cover "weakest" a_Cover_weakest
  me_Cover_key : Meth B.K C_Cover "key" a_Cover_key
  no_abs : B.mg "abs" = none
  no_any : B.mg "any" = none
  no_enumerate : B.mg "enumerate" = none
  no_int : B.mg "int" = none
  no_len : B.mg "len" = none
  no_list : B.mg "list" = none
  no_max : B.mg "max" = none
  no_min : B.mg "min" = none
  no_range : B.mg "range" = none
  no_reversed : B.mg "reversed" = none
  no_sum : B.mg "sum" = none
  no_tuple : B.mg "tuple" = none
  ex_BadDeed : ExT B "BadDeed"
  ex_BadPlan : ExT B "BadPlan"
  ex_BadSize : ExT B "BadSize"
  ex_Breaks : ExT B "Breaks"
  ex_NoRoom : ExT B "NoRoom"
  ex_NoSuch : ExT B "NoSuch"
  ex_NoWay : ExT B "NoWay"
  told : ToldT B cl_told [(.ref C_BadSize, "size"), (.ref C_BadPlan, "plan"), (.ref C_NoSuch, "no such"), (.ref C_NoRoom, "no room"), (.ref C_NoWay, "no way"), (.ref C_Breaks, "breaks"), (.ref C_BadText, "text"), (.ref C_BadDeed, "deed")]
  P_Cover_init : Addr
  tb_Cover_init : LamX.TabB base B.mg c_Cover_init P_Cover_init
  tm_Cover_init : (P_Cover_init, (("Cover.__init__" : Str) ++ (".<locals>." : Str)) ++ ("<genexpr>" : Str)) ∈ B.T
  tu_Cover_init : ∀ p ∈ B.T, p.1 = P_Cover_init → p.2 = (("Cover.__init__" : Str) ++ (".<locals>." : Str)) ++ ("<genexpr>" : Str)
  P_Cover_depth : Addr
  tb_Cover_depth : LamX.TabB base B.mg c_Cover_depth P_Cover_depth
  tm_Cover_depth : (P_Cover_depth, (("Cover.depth" : Str) ++ (".<locals>." : Str)) ++ ("<genexpr>" : Str)) ∈ B.T
  tu_Cover_depth : ∀ p ∈ B.T, p.1 = P_Cover_depth → p.2 = (("Cover.depth" : Str) ++ (".<locals>." : Str)) ++ ("<genexpr>" : Str)
  P_Cover_water : Addr
  tb_Cover_water : LamX.TabB base B.mg c_Cover_water P_Cover_water
  tm_Cover_water : (P_Cover_water, (("Cover.water" : Str) ++ (".<locals>." : Str)) ++ ("<genexpr>" : Str)) ∈ B.T
  tu_Cover_water : ∀ p ∈ B.T, p.1 = P_Cover_water → p.2 = (("Cover.water" : Str) ++ (".<locals>." : Str)) ++ ("<genexpr>" : Str)
  P__law_rest1 : Addr
  tb__law_rest1 : LamX.TabB base B.mg c__law_rest1 P__law_rest1
  tm__law_rest1 : (P__law_rest1, (("_law_rest1" : Str) ++ (".<locals>." : Str)) ++ ("<lambda>" : Str)) ∈ B.T
  tu__law_rest1 : ∀ p ∈ B.T, p.1 = P__law_rest1 → p.2 = (("_law_rest1" : Str) ++ (".<locals>." : Str)) ++ ("<lambda>" : Str)
  P_law : Addr
  tb_law : LamX.TabB base B.mg c_law P_law
  tm_law : (P_law, (("law" : Str) ++ (".<locals>." : Str)) ++ ("<lambda>" : Str)) ∈ B.T
  tu_law : ∀ p ∈ B.T, p.1 = P_law → p.2 = (("law" : Str) ++ (".<locals>." : Str)) ++ ("<lambda>" : Str)
abbrev TX.vs {B : Bx} {base : Heap} (T : TX B base) : List (Value × Str) := [(.ref T.C_BadSize, "size"), (.ref T.C_BadPlan, "plan"), (.ref T.C_NoSuch, "no such"), (.ref T.C_NoRoom, "no room"), (.ref T.C_NoWay, "no way"), (.ref T.C_Breaks, "breaks"), (.ref T.C_BadText, "text"), (.ref T.C_BadDeed, "deed")]
def tbL (K : PySem.W.Frag) : List (Addr × Str) := [((He.cT K ("Cover", some "__init__")).2, (("Cover.__init__" : Str) ++ (".<locals>." : Str)) ++ ("<genexpr>" : Str)), ((He.cT K ("Cover", some "depth")).2, (("Cover.depth" : Str) ++ (".<locals>." : Str)) ++ ("<genexpr>" : Str)), ((He.cT K ("Cover", some "water")).2, (("Cover.water" : Str) ++ (".<locals>." : Str)) ++ ("<genexpr>" : Str)), ((He.cT K ("_law_rest1", none)).2, (("_law_rest1" : Str) ++ (".<locals>." : Str)) ++ ("<lambda>" : Str)), ((He.cT K ("law", none)).2, (("law" : Str) ++ (".<locals>." : Str)) ++ ("<lambda>" : Str))]
abbrev BX (K : PySem.W.Frag) (mg : Str → Option Value) : Bx := ⟨K, mg, tbL K, []⟩
theorem tx_of {K : PySem.W.Frag} {h : Heap} {w : World} {mg : Str → Option Value} (X : K.In h) (G : h.Ns mainGlobals mg) (c : He.SaysX faL fnL [] tfL exL w h K) : ∃ fd : FuncData, (∀ (s : Shared) (v : Value), BindsTo s fd ⟨[v], []⟩ [("script", v)]) ∧ mg "law" = some (.ref (He.fAd K d_law.at_)) ∧ ((tbL K).map (·.1)).Nodup ∧ ∀ base : Heap, (∀ p ∈ tfL, LamX.TabB base mg (He.cT K p).1 (He.cT K p).2) → ∃ T : TX (BX K mg) base, T.a_law = He.fAd K d_law.at_ ∧ T.fd_law = fd := by
  have cd := c.t.d
  obtain ⟨hnd, hex⟩ := He.ba c.more
  obtain ⟨fd_sort_of, FD_sort_of⟩ := cd.def_ 0 (d := d_sort_of) rfl
  have bi_sort_of : L2.Binds K fd_sort_of ["heat"] [] := FunD.bindsN FD_sort_of fun _ _ _ _ _ _ us hl => match us, hl with | [_], _ => rfl
  obtain ⟨fd_Cover_init, FD_Cover_init⟩ := cd.def_ 1 (d := d_Cover_init) rfl
  have bi_Cover_init : L2.Binds K fd_Cover_init ["self", "layers"] [] := FunD.bindsN FD_Cover_init fun _ _ _ _ _ _ us hl => match us, hl with | [_, _], _ => rfl
  obtain ⟨fd_Cover_depth, FD_Cover_depth⟩ := cd.def_ 2 (d := d_Cover_depth) rfl
  have bi_Cover_depth : L2.Binds K fd_Cover_depth ["self"] [] := FunD.bindsN FD_Cover_depth fun _ _ _ _ _ _ us hl => match us, hl with | [_], _ => rfl
  obtain ⟨fd_Cover_water, FD_Cover_water⟩ := cd.def_ 3 (d := d_Cover_water) rfl
  have bi_Cover_water : L2.Binds K fd_Cover_water ["self"] [] := FunD.bindsN FD_Cover_water fun _ _ _ _ _ _ us hl => match us, hl with | [_], _ => rfl
  obtain ⟨fd_Cover_fallen, FD_Cover_fallen⟩ := cd.def_ 4 (d := d_Cover_fallen) rfl
  have bi_Cover_fallen : L2.Binds K fd_Cover_fallen ["self", "deep"] [] := FunD.bindsN FD_Cover_fallen fun _ _ _ _ _ _ us hl => match us, hl with | [_, _], _ => rfl
  obtain ⟨fd_Cover_settled, FD_Cover_settled⟩ := cd.def_ 5 (d := d_Cover_settled) rfl
  have bi_Cover_settled : L2.Binds K fd_Cover_settled ["self"] [] := FunD.bindsN FD_Cover_settled fun _ _ _ _ _ _ us hl => match us, hl with | [_], _ => rfl
  obtain ⟨fd_Cover_thawed, FD_Cover_thawed⟩ := cd.def_ 6 (d := d_Cover_thawed) rfl
  have bi_Cover_thawed : L2.Binds K fd_Cover_thawed ["self", "degrees"] [] := FunD.bindsN FD_Cover_thawed fun _ _ _ _ _ _ us hl => match us, hl with | [_, _], _ => rfl
  obtain ⟨fd_Cover_sinks, FD_Cover_sinks⟩ := cd.def_ 7 (d := d_Cover_sinks) rfl
  have bi_Cover_sinks : L2.Binds K fd_Cover_sinks ["self"] [] := FunD.bindsN FD_Cover_sinks fun _ _ _ _ _ _ us hl => match us, hl with | [_], _ => rfl
  obtain ⟨fd_Cover_layer_at, FD_Cover_layer_at⟩ := cd.def_ 8 (d := d_Cover_layer_at) rfl
  have bi_Cover_layer_at : L2.Binds K fd_Cover_layer_at ["self", "deep"] [] := FunD.bindsN FD_Cover_layer_at fun _ _ _ _ _ _ us hl => match us, hl with | [_, _], _ => rfl
  obtain ⟨fd_Cover_weakest, FD_Cover_weakest⟩ := cd.def_ 9 (d := d_Cover_weakest) rfl
  have bi_Cover_weakest : L2.Binds K fd_Cover_weakest ["self"] [] := FunD.bindsN FD_Cover_weakest fun _ _ _ _ _ _ us hl => match us, hl with | [_], _ => rfl
  obtain ⟨fd_Cover_key, FD_Cover_key⟩ := cd.def_ 10 (d := d_Cover_key) rfl
  have bi_Cover_key : L2.Binds K fd_Cover_key ["self"] [] := FunD.bindsN FD_Cover_key fun _ _ _ _ _ _ us hl => match us, hl with | [_], _ => rfl
  obtain ⟨fd_weathered, FD_weathered⟩ := cd.def_ 11 (d := d_weathered) rfl
  have bi_weathered : L2.Binds K fd_weathered ["cover", "hours"] [] := FunD.bindsN FD_weathered fun _ _ _ _ _ _ us hl => match us, hl with | [_, _], _ => rfl
  obtain ⟨fd_lay_days, FD_lay_days⟩ := cd.def_ 12 (d := d_lay_days) rfl
  have bi_lay_days : L2.Binds K fd_lay_days ["depths", "least"] [] := FunD.bindsN FD_lay_days fun _ _ _ _ _ _ us hl => match us, hl with | [_, _], _ => rfl
  obtain ⟨fd_deepest_day, FD_deepest_day⟩ := cd.def_ 13 (d := d_deepest_day) rfl
  have bi_deepest_day : L2.Binds K fd_deepest_day ["depths"] [] := FunD.bindsN FD_deepest_day fun _ _ _ _ _ _ us hl => match us, hl with | [_], _ => rfl
  obtain ⟨fd_melt_days, FD_melt_days⟩ := cd.def_ 14 (d := d_melt_days) rfl
  have bi_melt_days : L2.Binds K fd_melt_days ["deep", "firm", "degrees"] [] := FunD.bindsN FD_melt_days fun _ _ _ _ _ _ us hl => match us, hl with | [_, _, _], _ => rfl
  obtain ⟨fd__law_dice, FD__law_dice⟩ := cd.def_ 15 (d := d__law_dice) rfl
  have bi__law_dice : L2.Binds K fd__law_dice ["cell"] [] := FunD.bindsN FD__law_dice fun _ _ _ _ _ _ us hl => match us, hl with | [_], _ => rfl
  obtain ⟨fd__law_roll, FD__law_roll⟩ := cd.def_ 16 (d := d__law_roll) rfl
  have bi__law_roll : L2.Binds K fd__law_roll ["dice", "many"] [] := FunD.bindsN FD__law_roll fun _ _ _ _ _ _ us hl => match us, hl with | [_, _], _ => rfl
  obtain ⟨fd__law_rounds, FD__law_rounds⟩ := cd.def_ 17 (d := d__law_rounds) rfl
  have bi__law_rounds : L2.Binds K fd__law_rounds ["script", "most"] [] := FunD.bindsN FD__law_rounds fun _ _ _ _ _ _ us hl => match us, hl with | [_, _], _ => rfl
  obtain ⟨fd__law_told, FD__law_told⟩ := cd.def_ 18 (d := d__law_told) rfl
  have bi__law_told : L2.Binds K fd__law_told ["what"] [] := FunD.bindsN FD__law_told fun _ _ _ _ _ _ us hl => match us, hl with | [_], _ => rfl
  obtain ⟨fd__law_fallen, FD__law_fallen⟩ := cd.def_ 19 (d := d__law_fallen) rfl
  have bi__law_fallen : L2.Binds K fd__law_fallen ["rows", "deep"] [] := FunD.bindsN FD__law_fallen fun _ _ _ _ _ _ us hl => match us, hl with | [_, _], _ => rfl
  obtain ⟨fd__law_settled, FD__law_settled⟩ := cd.def_ 20 (d := d__law_settled) rfl
  have bi__law_settled : L2.Binds K fd__law_settled ["rows"] [] := FunD.bindsN FD__law_settled fun _ _ _ _ _ _ us hl => match us, hl with | [_], _ => rfl
  obtain ⟨fd__law_thawed, FD__law_thawed⟩ := cd.def_ 21 (d := d__law_thawed) rfl
  have bi__law_thawed : L2.Binds K fd__law_thawed ["rows", "degrees"] [] := FunD.bindsN FD__law_thawed fun _ _ _ _ _ _ us hl => match us, hl with | [_, _], _ => rfl
  obtain ⟨fd__law_rest1, FD__law_rest1⟩ := cd.def_ 22 (d := d__law_rest1) rfl
  have bi__law_rest1 : L2.Binds K fd__law_rest1 ["dice", "cover", "at"] [] := FunD.bindsN FD__law_rest1 fun _ _ _ _ _ _ us hl => match us, hl with | [_, _, _], _ => rfl
  obtain ⟨fd_law, FD_law⟩ := cd.def_ 23 (d := d_law) rfl
  have bi_law : L2.Binds K fd_law ["script"] [] := FunD.bindsN FD_law fun _ _ _ _ _ _ us hl => match us, hl with | [_], _ => rfl
  have F0 := cd.fact 0 (f := .glo "sort_of") rfl
  have F1 := cd.fact 1 (f := .glo "weathered") rfl
  have F2 := cd.fact 2 (f := .glo "lay_days") rfl
  have F3 := cd.fact 3 (f := .glo "deepest_day") rfl
  have F4 := cd.fact 4 (f := .glo "melt_days") rfl
  have F5 := cd.fact 5 (f := .glo "_law_dice") rfl
  have F6 := cd.fact 6 (f := .glo "_law_roll") rfl
  have F7 := cd.fact 7 (f := .glo "_law_rounds") rfl
  have F8 := cd.fact 8 (f := .glo "_law_told") rfl
  have F9 := cd.fact 9 (f := .glo "_law_fallen") rfl
  have F10 := cd.fact 10 (f := .glo "_law_settled") rfl
  have F11 := cd.fact 11 (f := .glo "_law_thawed") rfl
  have F12 := cd.fact 12 (f := .glo "_law_rest1") rfl
  have F13 := cd.fact 13 (f := .glo "law") rfl
  have F14 := cd.fact 14 (f := .glo "SnowFault") rfl
  have F15 := cd.fact 15 (f := .glo "BadSize") rfl
  have F16 := cd.fact 16 (f := .glo "BadPlan") rfl
  have F17 := cd.fact 17 (f := .glo "NoSuch") rfl
  have F18 := cd.fact 18 (f := .glo "NoRoom") rfl
  have F19 := cd.fact 19 (f := .glo "NoWay") rfl
  have F20 := cd.fact 20 (f := .glo "Breaks") rfl
  have F21 := cd.fact 21 (f := .glo "BadText") rfl
  have F22 := cd.fact 22 (f := .glo "BadDeed") rfl
  have F23 := cd.fact 23 (f := .glo "Cover") rfl
  have F24 := cd.fact 24 (f := .free "abs") rfl
  have F25 := cd.fact 25 (f := .free "any") rfl
  have F26 := cd.fact 26 (f := .free "enumerate") rfl
  have F27 := cd.fact 27 (f := .free "int") rfl
  have F28 := cd.fact 28 (f := .free "len") rfl
  have F29 := cd.fact 29 (f := .free "list") rfl
  have F30 := cd.fact 30 (f := .free "max") rfl
  have F31 := cd.fact 31 (f := .free "min") rfl
  have F32 := cd.fact 32 (f := .free "range") rfl
  have F33 := cd.fact 33 (f := .free "reversed") rfl
  have F34 := cd.fact 34 (f := .free "sum") rfl
  have F35 := cd.fact 35 (f := .free "tuple") rfl
  have F36 := cd.fact 36 (f := .cls "Cover") rfl
  have F37 := cd.fact 37 (f := .noat "Cover" "layers") rfl
  have F38 := cd.fact 38 (f := .mkr "Cover") rfl
  have F39 := cd.fact 39 (f := .meth "Cover" "depth") rfl
  have F40 := cd.fact 40 (f := .meth "Cover" "water") rfl
  have F41 := cd.fact 41 (f := .meth "Cover" "fallen") rfl
  have F42 := cd.fact 42 (f := .meth "Cover" "settled") rfl
  have F43 := cd.fact 43 (f := .meth "Cover" "thawed") rfl
  have F44 := cd.fact 44 (f := .meth "Cover" "sinks") rfl
  have F45 := cd.fact 45 (f := .meth "Cover" "layer_at") rfl
  have F46 := cd.fact 46 (f := .meth "Cover" "weakest") rfl
  have F47 := cd.fact 47 (f := .meth "Cover" "key") rfl
  have F48 := cd.fact 48 (f := .exc "BadDeed") rfl
  have F49 := cd.fact 49 (f := .exc "BadPlan") rfl
  have F50 := cd.fact 50 (f := .exc "BadSize") rfl
  have F51 := cd.fact 51 (f := .exc "Breaks") rfl
  have F52 := cd.fact 52 (f := .exc "NoRoom") rfl
  have F53 := cd.fact 53 (f := .exc "NoSuch") rfl
  have F54 := cd.fact 54 (f := .exc "NoWay") rfl
  obtain ⟨ex_BadDeed, _⟩ := exT_of (T := tbL K) (G := []) X G F22 F48
  obtain ⟨ex_BadPlan, _⟩ := exT_of (T := tbL K) (G := []) X G F16 F49
  obtain ⟨ex_BadSize, _⟩ := exT_of (T := tbL K) (G := []) X G F15 F50
  obtain ⟨ex_Breaks, _⟩ := exT_of (T := tbL K) (G := []) X G F20 F51
  obtain ⟨ex_NoRoom, _⟩ := exT_of (T := tbL K) (G := []) X G F18 F52
  obtain ⟨ex_NoSuch, _⟩ := exT_of (T := tbL K) (G := []) X G F17 F53
  obtain ⟨ex_NoWay, _⟩ := exT_of (T := tbL K) (G := []) X G F19 F54
  have EXM : ∀ c e, c ∈ cl_told.map (·.1) → e ∈ cl_told.map (·.1) → PySem.W.exmOne K (.ref (He.ga K c)) (.ref (He.ga K e)) = some (decide (c = e)) := fun c e hc he => of_decide_eq_true (List.all_eq_true.mp (List.all_eq_true.mp hex c hc) e he)
  have GT : ∀ c, c ∈ cl_told.map (·.1) → mg c = some (.ref (He.ga K c)) := by
    intro c hc
    simp only [cl_told, List.map_cons, List.map_nil, List.mem_cons, List.not_mem_nil, or_false] at hc
    rcases hc with rfl | rfl | rfl | rfl | rfl | rfl | rfl | rfl
    · exact He.glo_ok X G F15
    · exact He.glo_ok X G F16
    · exact He.glo_ok X G F17
    · exact He.glo_ok X G F18
    · exact He.glo_ok X G F19
    · exact He.glo_ok X G F20
    · exact He.glo_ok X G F21
    · exact He.glo_ok X G F22
  have ND : ((tbL K).map (·.1)).Nodup := of_decide_eq_true hnd
  have TU : ∀ (P : Addr) (q : Str), (P, q) ∈ tbL K → ∀ p ∈ tbL K, p.1 = P → p.2 = q := tabs_uniq ND
  refine ⟨fd_law, (fun s v => FunD.bindsA (ps := ["script"]) FD_law (fun _ _ _ _ _ _ us hl => match us, hl with | [_], _ => rfl) s [v] rfl), He.glo_ok X G F13, ND, fun base hb => ?_⟩
  have TB_Cover_init := hb ("Cover", some "__init__") (by simp [tfL])
  have TB_Cover_depth := hb ("Cover", some "depth") (by simp [tfL])
  have TB_Cover_water := hb ("Cover", some "water") (by simp [tfL])
  have TB__law_rest1 := hb ("_law_rest1", none) (by simp [tfL])
  have TB_law := hb ("law", none) (by simp [tfL])
  refine ⟨{
    a_sort_of := He.fAd K d_sort_of.at_, fd_sort_of := fd_sort_of, c_sort_of := He.codeOf K d_sort_of.at_, fu_sort_of := funC_of (d := d_sort_of) FD_sort_of, bi_sort_of := bi_sort_of,
    mg_sort_of := He.glo_ok X G F0,
    a_Cover_init := He.fAd K d_Cover_init.at_, fd_Cover_init := fd_Cover_init, c_Cover_init := He.codeOf K d_Cover_init.at_, fu_Cover_init := funC_of (d := d_Cover_init) FD_Cover_init, bi_Cover_init := bi_Cover_init,
    a_Cover_depth := He.fAd K d_Cover_depth.at_, fd_Cover_depth := fd_Cover_depth, c_Cover_depth := He.codeOf K d_Cover_depth.at_, fu_Cover_depth := funC_of (d := d_Cover_depth) FD_Cover_depth, bi_Cover_depth := bi_Cover_depth,
    a_Cover_water := He.fAd K d_Cover_water.at_, fd_Cover_water := fd_Cover_water, c_Cover_water := He.codeOf K d_Cover_water.at_, fu_Cover_water := funC_of (d := d_Cover_water) FD_Cover_water, bi_Cover_water := bi_Cover_water,
    a_Cover_fallen := He.fAd K d_Cover_fallen.at_, fd_Cover_fallen := fd_Cover_fallen, c_Cover_fallen := He.codeOf K d_Cover_fallen.at_, fu_Cover_fallen := funC_of (d := d_Cover_fallen) FD_Cover_fallen, bi_Cover_fallen := bi_Cover_fallen,
    a_Cover_settled := He.fAd K d_Cover_settled.at_, fd_Cover_settled := fd_Cover_settled, c_Cover_settled := He.codeOf K d_Cover_settled.at_, fu_Cover_settled := funC_of (d := d_Cover_settled) FD_Cover_settled, bi_Cover_settled := bi_Cover_settled,
    a_Cover_thawed := He.fAd K d_Cover_thawed.at_, fd_Cover_thawed := fd_Cover_thawed, c_Cover_thawed := He.codeOf K d_Cover_thawed.at_, fu_Cover_thawed := funC_of (d := d_Cover_thawed) FD_Cover_thawed, bi_Cover_thawed := bi_Cover_thawed,
    a_Cover_sinks := He.fAd K d_Cover_sinks.at_, fd_Cover_sinks := fd_Cover_sinks, c_Cover_sinks := He.codeOf K d_Cover_sinks.at_, fu_Cover_sinks := funC_of (d := d_Cover_sinks) FD_Cover_sinks, bi_Cover_sinks := bi_Cover_sinks,
    a_Cover_layer_at := He.fAd K d_Cover_layer_at.at_, fd_Cover_layer_at := fd_Cover_layer_at, c_Cover_layer_at := He.codeOf K d_Cover_layer_at.at_, fu_Cover_layer_at := funC_of (d := d_Cover_layer_at) FD_Cover_layer_at, bi_Cover_layer_at := bi_Cover_layer_at,
    a_Cover_weakest := He.fAd K d_Cover_weakest.at_, fd_Cover_weakest := fd_Cover_weakest, c_Cover_weakest := He.codeOf K d_Cover_weakest.at_, fu_Cover_weakest := funC_of (d := d_Cover_weakest) FD_Cover_weakest, bi_Cover_weakest := bi_Cover_weakest,
    a_Cover_key := He.fAd K d_Cover_key.at_, fd_Cover_key := fd_Cover_key, c_Cover_key := He.codeOf K d_Cover_key.at_, fu_Cover_key := funC_of (d := d_Cover_key) FD_Cover_key, bi_Cover_key := bi_Cover_key,
    a_weathered := He.fAd K d_weathered.at_, fd_weathered := fd_weathered, c_weathered := He.codeOf K d_weathered.at_, fu_weathered := funC_of (d := d_weathered) FD_weathered, bi_weathered := bi_weathered,
    mg_weathered := He.glo_ok X G F1,
    a_lay_days := He.fAd K d_lay_days.at_, fd_lay_days := fd_lay_days, c_lay_days := He.codeOf K d_lay_days.at_, fu_lay_days := funC_of (d := d_lay_days) FD_lay_days, bi_lay_days := bi_lay_days,
    mg_lay_days := He.glo_ok X G F2,
    a_deepest_day := He.fAd K d_deepest_day.at_, fd_deepest_day := fd_deepest_day, c_deepest_day := He.codeOf K d_deepest_day.at_, fu_deepest_day := funC_of (d := d_deepest_day) FD_deepest_day, bi_deepest_day := bi_deepest_day,
    mg_deepest_day := He.glo_ok X G F3,
    a_melt_days := He.fAd K d_melt_days.at_, fd_melt_days := fd_melt_days, c_melt_days := He.codeOf K d_melt_days.at_, fu_melt_days := funC_of (d := d_melt_days) FD_melt_days, bi_melt_days := bi_melt_days,
    mg_melt_days := He.glo_ok X G F4,
    a__law_dice := He.fAd K d__law_dice.at_, fd__law_dice := fd__law_dice, c__law_dice := He.codeOf K d__law_dice.at_, fu__law_dice := funC_of (d := d__law_dice) FD__law_dice, bi__law_dice := bi__law_dice,
    mg__law_dice := He.glo_ok X G F5,
    a__law_roll := He.fAd K d__law_roll.at_, fd__law_roll := fd__law_roll, c__law_roll := He.codeOf K d__law_roll.at_, fu__law_roll := funC_of (d := d__law_roll) FD__law_roll, bi__law_roll := bi__law_roll,
    mg__law_roll := He.glo_ok X G F6,
    a__law_rounds := He.fAd K d__law_rounds.at_, fd__law_rounds := fd__law_rounds, c__law_rounds := He.codeOf K d__law_rounds.at_, fu__law_rounds := funC_of (d := d__law_rounds) FD__law_rounds, bi__law_rounds := bi__law_rounds,
    mg__law_rounds := He.glo_ok X G F7,
    a__law_told := He.fAd K d__law_told.at_, fd__law_told := fd__law_told, c__law_told := He.codeOf K d__law_told.at_, fu__law_told := funC_of (d := d__law_told) FD__law_told, bi__law_told := bi__law_told,
    mg__law_told := He.glo_ok X G F8,
    a__law_fallen := He.fAd K d__law_fallen.at_, fd__law_fallen := fd__law_fallen, c__law_fallen := He.codeOf K d__law_fallen.at_, fu__law_fallen := funC_of (d := d__law_fallen) FD__law_fallen, bi__law_fallen := bi__law_fallen,
    mg__law_fallen := He.glo_ok X G F9,
    a__law_settled := He.fAd K d__law_settled.at_, fd__law_settled := fd__law_settled, c__law_settled := He.codeOf K d__law_settled.at_, fu__law_settled := funC_of (d := d__law_settled) FD__law_settled, bi__law_settled := bi__law_settled,
    mg__law_settled := He.glo_ok X G F10,
    a__law_thawed := He.fAd K d__law_thawed.at_, fd__law_thawed := fd__law_thawed, c__law_thawed := He.codeOf K d__law_thawed.at_, fu__law_thawed := funC_of (d := d__law_thawed) FD__law_thawed, bi__law_thawed := bi__law_thawed,
    mg__law_thawed := He.glo_ok X G F11,
    a__law_rest1 := He.fAd K d__law_rest1.at_, fd__law_rest1 := fd__law_rest1, c__law_rest1 := He.codeOf K d__law_rest1.at_, fu__law_rest1 := funC_of (d := d__law_rest1) FD__law_rest1, bi__law_rest1 := bi__law_rest1,
    mg__law_rest1 := He.glo_ok X G F12,
    a_law := He.fAd K d_law.at_, fd_law := fd_law, c_law := He.codeOf K d_law.at_, fu_law := funC_of (d := d_law) FD_law, bi_law := bi_law,
    mg_law := He.glo_ok X G F13,
    C_SnowFault := He.ga K "SnowFault", mgc_SnowFault := He.glo_ok X G F14,
    C_BadSize := He.ga K "BadSize", mgc_BadSize := He.glo_ok X G F15,
    C_BadPlan := He.ga K "BadPlan", mgc_BadPlan := He.glo_ok X G F16,
    C_NoSuch := He.ga K "NoSuch", mgc_NoSuch := He.glo_ok X G F17,
    C_NoRoom := He.ga K "NoRoom", mgc_NoRoom := He.glo_ok X G F18,
    C_NoWay := He.ga K "NoWay", mgc_NoWay := He.glo_ok X G F19,
    C_Breaks := He.ga K "Breaks", mgc_Breaks := He.glo_ok X G F20,
    C_BadText := He.ga K "BadText", mgc_BadText := He.glo_ok X G F21,
    C_BadDeed := He.ga K "BadDeed", mgc_BadDeed := He.glo_ok X G F22,
    C_Cover := He.ga K "Cover", mgc_Cover := He.glo_ok X G F23,
    cls_Cover := clsF_of (He.glo_ok X G F23) (He.cls_ok F36) (fun f hf => by
      simp only [List.mem_cons, List.not_mem_nil, or_false] at hf
      rcases hf with rfl
      · exact He.noat_ok F37),
    mk_Cover := He.mkr_ok F38,
    me_Cover_depth := He.meth_ok F39,
    me_Cover_water := He.meth_ok F40,
    me_Cover_fallen := He.meth_ok F41,
    me_Cover_settled := He.meth_ok F42,
    me_Cover_thawed := He.meth_ok F43,
    me_Cover_sinks := He.meth_ok F44,
    me_Cover_layer_at := He.meth_ok F45,
    me_Cover_weakest := He.meth_ok F46,
    me_Cover_key := He.meth_ok F47,
    no_abs := He.free_ok X G F24,
    no_any := He.free_ok X G F25,
    no_enumerate := He.free_ok X G F26,
    no_int := He.free_ok X G F27,
    no_len := He.free_ok X G F28,
    no_list := He.free_ok X G F29,
    no_max := He.free_ok X G F30,
    no_min := He.free_ok X G F31,
    no_range := He.free_ok X G F32,
    no_reversed := He.free_ok X G F33,
    no_sum := He.free_ok X G F34,
    no_tuple := He.free_ok X G F35,
    ex_BadDeed := ex_BadDeed,
    ex_BadPlan := ex_BadPlan,
    ex_BadSize := ex_BadSize,
    ex_Breaks := ex_Breaks,
    ex_NoRoom := ex_NoRoom,
    ex_NoSuch := ex_NoSuch,
    ex_NoWay := ex_NoWay,
    told := toldT_of (ga := He.ga K) (by rfl) GT EXM,
    P_Cover_init := (He.cT K ("Cover", some "__init__")).2, tb_Cover_init := TB_Cover_init, tm_Cover_init := (by simp [tbL]), tu_Cover_init := TU _ _ (by simp [tbL]),
    P_Cover_depth := (He.cT K ("Cover", some "depth")).2, tb_Cover_depth := TB_Cover_depth, tm_Cover_depth := (by simp [tbL]), tu_Cover_depth := TU _ _ (by simp [tbL]),
    P_Cover_water := (He.cT K ("Cover", some "water")).2, tb_Cover_water := TB_Cover_water, tm_Cover_water := (by simp [tbL]), tu_Cover_water := TU _ _ (by simp [tbL]),
    P__law_rest1 := (He.cT K ("_law_rest1", none)).2, tb__law_rest1 := TB__law_rest1, tm__law_rest1 := (by simp [tbL]), tu__law_rest1 := TU _ _ (by simp [tbL]),
    P_law := (He.cT K ("law", none)).2, tb_law := TB_law, tm_law := (by simp [tbL]), tu_law := TU _ _ (by simp [tbL]) }, rfl, rfl⟩
end K01
end
section
set_option Elab.async false
set_option linter.all false
set_option maxRecDepth 100000
set_option maxHeartbeats 4000000
namespace K01
open PySem PySem.Spec PyProof.Rows L2 S3
def fuel : Nat := 100000
noncomputable section
abbrev N_sort_of : List Str := ["heat"]
theorem sc_sort_of : FnScope N_sort_of ["heat"] (defScope s_sort_of) := ⟨rfl, rfl, rfl, by decide +kernel, rfl, by decide +kernel, by decide +kernel⟩
def m_sort_of : MS := mSeq (mIfS (mTest (mBin gGt (mVar 0) (mC (.int 2)))) (mRet (mC (.str "rain"))) (mSkip)) (mRet (mIf (mTest (mBin gGt (mVar 0) (mC (.int 0)))) (mC (.str "sleet")) (mIf (mTest (mBin gGt (mVar 0) (mUn gNeg (mC (.int 4))))) (mC (.str "wet")) (mC (.str "dry")))))
def f_sort_of : Fn := defSem 1 1 m_sort_of
theorem ok_sort_of {B : Bx} {P : Program} {w : World} {base : Heap} (T : TX B base) : FnP B P w base 2 T.a_sort_of T.fd_sort_of ["heat"] f_sort_of := by
  refine fn_bodyC T.fu_sort_of sc_sort_of fun A outer s H E hr => ?_
  have hu := hu_of64 hr
  refine sss_cons ?_ ?_
  · refine ss_if (st_cmp (op_gGt hu) (sv (i := 0)) (se_int)) ?_ ?_
    · exact sss_one (ss_ret (se_str))
    · exact sss_nil
  exact sss_one (ss_ret (se_if (st_cmp (op_gGt hu) (sv (i := 0)) (se_int)) (se_str) (se_if (st_cmp (op_gGt hu) (sv (i := 0)) (se_un un_gNeg (se_int))) (se_str) (se_str))))
noncomputable def F_sort_of : Fn := cleanF f_sort_of
theorem OK_sort_of {B : Bx} {P : Program} {w : World} {base : Heap} (T : TX B base) : FnP B P w base 2 T.a_sort_of T.fd_sort_of ["heat"] F_sort_of := (ok_sort_of T).clean
abbrev N_Cover_init : List Str := ["self", "layers", "deep", "firm", "layer"]
theorem sc_Cover_init : FnScope N_Cover_init ["self", "layers"] (defScope s_Cover_init) := ⟨rfl, rfl, rfl, by decide +kernel, rfl, by decide +kernel, by decide +kernel⟩
theorem nd0_Cover_init : (".0" : Str) ∉ N_Cover_init := by decide +kernel
def m_Cover_init : MS := mSeq (mIfS (mTest (mGenU gAny (mSeqP (mVar 1)) 2 3 ((fun _ _ => some true)) (qOrE (qBin gLtQ (qVar 2) (qC (.int 1))) (qNotE (qChain gLeQ gLeQ (qC (.int 1)) (qVar 3) (qC (.int 5))))))) (mRaise "BadPlan") (mSkip)) (mFldSet "Cover" "layers" (mVar 0) (mFn gTuple (mCons (mLc (mSqA (mVar 1)) (tName 4) (mYes) (mFn gTuple (mCons (mVar 4) (mNil))) [4]) (mNil))))
def f_Cover_init : Fn := defSem 5 2 m_Cover_init
theorem ok_Cover_init {B : Bx} {P : Program} {w : World} {base : Heap} (T : TX B base) : FnP B P w base 2 T.a_Cover_init T.fd_Cover_init ["self", "layers"] f_Cover_init := by
  refine fn_bodyC T.fu_Cover_init sc_Cover_init fun A outer s H E hr => ?_
  have hu := hu_of64 hr
  refine sss_cons ?_ ?_
  · refine ss_if (st_val (se_genU (i := 2) (i' := 3) eats_any rfl T.no_any rfl ⟨T.tb_Cover_init, rfl, T.tm_Cover_init, T.tu_Cover_init⟩ hr (gsc_by (by rfl)) sc_Cover_init.nd nd0_Cover_init (gsu_seq (sv (i := 1))) (qts_nil) (sq_or (sq_cmp oq_gLt (sq_var (i := 2)) (sq_int)) (sq_one (sq_not (sq_chain oq_gLe oq_gLe (sq_int) (sq_var (i := 3)) (sq_int))))))) ?_ ?_
    · exact sss_one (ss_raiseX T.ex_BadPlan takesB rfl)
    · exact sss_nil
  exact sss_one (ss_fld T.cls_Cover (by simp) (sv (i := 0)) (se_callTy cr_gTuple rfl T.no_tuple rfl (sa_cons (se_lc rfl sc_Cover_init.nd (own := [("layer", 4)]) (blkOk_by (by rfl)) (si_seq (sv (i := 1))) (fun _ _ _ _ _ => sg_nm (i := 4) sc_Cover_init.nd) (fun _ _ _ _ _ => sts_nil) (fun _ _ _ _ _ => se_callTy cr_gTuple rfl T.no_tuple rfl (sa_cons (sv (i := 4)) (sa_nil))) (by decide)) (sa_nil))))
noncomputable def F_Cover_init : Fn := cleanF f_Cover_init
theorem OK_Cover_init {B : Bx} {P : Program} {w : World} {base : Heap} (T : TX B base) : FnP B P w base 2 T.a_Cover_init T.fd_Cover_init ["self", "layers"] F_Cover_init := (ok_Cover_init T).clean
noncomputable def I_Cover : List AV → AH → Rs (List (Str × AV)) := cleanI "Cover" F_Cover_init
theorem IO_Cover : InitOk "Cover" F_Cover_init I_Cover := init_clean _ _
abbrev N_Cover_depth : List Str := ["self", "deep", "firm"]
theorem sc_Cover_depth : FnScope N_Cover_depth ["self"] (defScope s_Cover_depth) := ⟨rfl, rfl, rfl, by decide +kernel, rfl, by decide +kernel, by decide +kernel⟩
theorem nd0_Cover_depth : (".0" : Str) ∉ N_Cover_depth := by decide +kernel
def m_Cover_depth : MS := mRet (mGenU gSumI (mSeqP (mUn (gFld "Cover" "layers") (mVar 0))) 1 2 ((fun _ _ => some true)) (qVar 1))
def f_Cover_depth : Fn := defSem 3 1 m_Cover_depth
theorem ok_Cover_depth {B : Bx} {P : Program} {w : World} {base : Heap} (T : TX B base) : FnP B P w base 2 T.a_Cover_depth T.fd_Cover_depth ["self"] f_Cover_depth := by
  refine fn_bodyC T.fu_Cover_depth sc_Cover_depth fun A outer s H E hr => ?_
  have hu := hu_of64 hr
  exact sss_one (ss_ret (se_genU (i := 1) (i' := 2) eats_sum rfl T.no_sum rfl ⟨T.tb_Cover_depth, rfl, T.tm_Cover_depth, T.tu_Cover_depth⟩ hr (gsc_by (by rfl)) sc_Cover_depth.nd nd0_Cover_depth (gsu_seq (se_fld T.cls_Cover (by simp) (sv (i := 0)))) (qts_nil) (sq_var (i := 1))))
noncomputable def F_Cover_depth : Fn := cleanF f_Cover_depth
theorem OK_Cover_depth {B : Bx} {P : Program} {w : World} {base : Heap} (T : TX B base) : FnP B P w base 2 T.a_Cover_depth T.fd_Cover_depth ["self"] F_Cover_depth := (ok_Cover_depth T).clean
abbrev N_Cover_water : List Str := ["self", "deep", "firm"]
theorem sc_Cover_water : FnScope N_Cover_water ["self"] (defScope s_Cover_water) := ⟨rfl, rfl, rfl, by decide +kernel, rfl, by decide +kernel, by decide +kernel⟩
theorem nd0_Cover_water : (".0" : Str) ∉ N_Cover_water := by decide +kernel
def m_Cover_water : MS := mRet (mGenU gSumI (mSeqP (mUn (gFld "Cover" "layers") (mVar 0))) 1 2 ((fun _ _ => some true)) (qBin gDiv (qBin gMul (qVar 1) (qVar 2)) (qC (.int 10))))
def f_Cover_water : Fn := defSem 3 1 m_Cover_water
theorem ok_Cover_water {B : Bx} {P : Program} {w : World} {base : Heap} (T : TX B base) : FnP B P w base 2 T.a_Cover_water T.fd_Cover_water ["self"] f_Cover_water := by
  refine fn_bodyC T.fu_Cover_water sc_Cover_water fun A outer s H E hr => ?_
  have hu := hu_of64 hr
  exact sss_one (ss_ret (se_genU (i := 1) (i' := 2) eats_sum rfl T.no_sum rfl ⟨T.tb_Cover_water, rfl, T.tm_Cover_water, T.tu_Cover_water⟩ hr (gsc_by (by rfl)) sc_Cover_water.nd nd0_Cover_water (gsu_seq (se_fld T.cls_Cover (by simp) (sv (i := 0)))) (qts_nil) (sq_bin oq_gDiv (sq_bin oq_gMul (sq_var (i := 1)) (sq_var (i := 2))) (sq_int))))
noncomputable def F_Cover_water : Fn := cleanF f_Cover_water
theorem OK_Cover_water {B : Bx} {P : Program} {w : World} {base : Heap} (T : TX B base) : FnP B P w base 2 T.a_Cover_water T.fd_Cover_water ["self"] F_Cover_water := (ok_Cover_water T).clean
abbrev N_Cover_fallen : List Str := ["self", "deep"]
theorem sc_Cover_fallen : FnScope N_Cover_fallen ["self", "deep"] (defScope s_Cover_fallen) := ⟨rfl, rfl, rfl, by decide +kernel, rfl, by decide +kernel, by decide +kernel⟩
def m_Cover_fallen : MS := mSeq (mIfS (mTest (mBin gLt (mVar 1) (mC (.int 1)))) (mRaise "BadSize") (mSkip)) (mSeq (mIfS (mAnd (mTest (mBin (gEq true) (mUn (gFld "Cover" "layers") (mVar 0)) (mFn gTup (mNil)))) (mTest (mBin (gEq false) (mBin gIx (mBin gIx (mUn (gFld "Cover" "layers") (mVar 0)) (mUn gNeg (mC (.int 1)))) (mC (.int 1))) (mC (.int 1))))) (mRet (mMakeF "Cover" I_Cover (mCons (mBin gAdd (mSl (mUn (gFld "Cover" "layers") (mVar 0)) (mNoPart) (mPart (mUn gNeg (mC (.int 1))))) (mFn gTup (mCons (mFn gTup (mCons (mBin gAdd (mBin gIx (mBin gIx (mUn (gFld "Cover" "layers") (mVar 0)) (mUn gNeg (mC (.int 1)))) (mC (.int 0))) (mVar 1)) (mCons (mC (.int 1)) (mNil)))) (mNil)))) (mNil)))) (mSkip)) (mRet (mMakeF "Cover" I_Cover (mCons (mBin gAdd (mUn (gFld "Cover" "layers") (mVar 0)) (mFn gTup (mCons (mFn gTup (mCons (mVar 1) (mCons (mC (.int 1)) (mNil)))) (mNil)))) (mNil)))))
def f_Cover_fallen : Fn := defSem 2 2 m_Cover_fallen
theorem ok_Cover_fallen {B : Bx} {P : Program} {w : World} {base : Heap} (T : TX B base) : FnP B P w base 4 T.a_Cover_fallen T.fd_Cover_fallen ["self", "deep"] f_Cover_fallen := by
  refine fn_bodyC T.fu_Cover_fallen sc_Cover_fallen fun A outer s H E hr => ?_
  have hu := hu_of64 hr
  refine sss_cons ?_ ?_
  · refine ss_if (st_cmp (op_gLt hu) (sv (i := 1)) (se_int)) ?_ ?_
    · exact sss_one (ss_raiseX T.ex_BadSize takesB rfl)
    · exact sss_nil
  refine sss_cons ?_ ?_
  · refine ss_if (st_w (sw_and (st_cmp (op_gNe hu) (se_fld T.cls_Cover (by simp) (sv (i := 0))) (se_tup (sa_nil))) (sw_and1 (st_cmp (op_gEq hu) (se_ix hu (se_ix hu (se_fld T.cls_Cover (by simp) (sv (i := 0))) (se_un un_gNeg (se_int))) (se_int)) (se_int))))) ?_ ?_
    · exact sss_one (ss_ret (se_makeF IO_Cover T.mk_Cover T.mgc_Cover (OK_Cover_init T) (hr.mono (by decide)) rfl T.mgc_Cover T.bi_Cover_init takesB (sa_cons (se_op (op_gAdd) (se_slice (se_fld T.cls_Cover (by simp) (sv (i := 0))) (so_none) (so_some (se_un un_gNeg (se_int)))) (se_tup (sa_cons (se_tup (sa_cons (se_op (op_gAdd) (se_ix hu (se_ix hu (se_fld T.cls_Cover (by simp) (sv (i := 0))) (se_un un_gNeg (se_int))) (se_int)) (sv (i := 1))) (sa_cons (se_int) (sa_nil)))) (sa_nil)))) (sa_nil))))
    · exact sss_nil
  exact sss_one (ss_ret (se_makeF IO_Cover T.mk_Cover T.mgc_Cover (OK_Cover_init T) (hr.mono (by decide)) rfl T.mgc_Cover T.bi_Cover_init takesB (sa_cons (se_op (op_gAdd) (se_fld T.cls_Cover (by simp) (sv (i := 0))) (se_tup (sa_cons (se_tup (sa_cons (sv (i := 1)) (sa_cons (se_int) (sa_nil)))) (sa_nil)))) (sa_nil))))
noncomputable def F_Cover_fallen : Fn := cleanF f_Cover_fallen
theorem OK_Cover_fallen {B : Bx} {P : Program} {w : World} {base : Heap} (T : TX B base) : FnP B P w base 4 T.a_Cover_fallen T.fd_Cover_fallen ["self", "deep"] F_Cover_fallen := (ok_Cover_fallen T).clean
abbrev N_Cover_settled : List Str := ["self", "rows", "deep", "firm"]
theorem sc_Cover_settled : FnScope N_Cover_settled ["self"] (defScope s_Cover_settled) := ⟨rfl, rfl, rfl, by decide +kernel, rfl, by decide +kernel, by decide +kernel⟩
abbrev B_Cover_settled_0 : MS := mSeq (mIfS (mTest (mBin gLt (mVar 3) (mC (.int 5)))) (mSeq (mAug 2 gSub (mBin gDiv (mVar 2) (mC (.int 5)))) (mAug 3 gAddI (mC (.int 1)))) (mSkip)) (mSeq (mIfS (mAnd (mTest (mBin (gEq true) (mVar 1) (mFn gLst (mNil)))) (mTest (mBin (gEq false) (mBin gIx (mBin gIx (mVar 1) (mUn gNeg (mC (.int 1)))) (mC (.int 1))) (mVar 3)))) (mSubSet (mVar 1) (mUn gNeg (mC (.int 1))) (mFn gTup (mCons (mBin gAdd (mBin gIx (mBin gIx (mVar 1) (mUn gNeg (mC (.int 1)))) (mC (.int 0))) (mVar 2)) (mCons (mVar 3) (mNil))))) (mExprS (mBM tyL gAppend (mVar 1) (mCons (mFn gTup (mCons (mVar 2) (mCons (mVar 3) (mNil)))) (mNil))))) (mForget [2, 3]))
def m_Cover_settled : MS := mSeq (mAsg (mLstM (mNil)) (tName 1)) (mSeq (mForget [2, 3]) (mSeq (mFor (mSqT (mUn (gFld "Cover" "layers") (mVar 0))) (tTupT 2 (tMore (tName 2) (tMore (tName 3) (tNone)))) (B_Cover_settled_0)) (mRet (mMakeF "Cover" I_Cover (mCons (mVar 1) (mNil))))))
def f_Cover_settled : Fn := defSem 4 1 m_Cover_settled
theorem ok_Cover_settled {B : Bx} {P : Program} {w : World} {base : Heap} (T : TX B base) : FnP B P w base 4 T.a_Cover_settled T.fd_Cover_settled ["self"] f_Cover_settled := by
  refine fn_bodyC T.fu_Cover_settled sc_Cover_settled fun A outer s H E hr => ?_
  have hu := hu_of64 hr
  refine sss_cons (ss_nm (i := 1) sc_Cover_settled.nd (se_lstM (sa_nil))) ?_
  refine sss_forget [2, 3] ?_
  refine sss_cons ?_ ?_
  · refine ss_for passB rfl (si_tup (se_fld T.cls_Cover (by simp) (sv (i := 0)))) (sg_tup rfl (sgs_cons (sg_nm (i := 2) sc_Cover_settled.nd) (sgs_cons (sg_nm (i := 3) sc_Cover_settled.nd) (sgs_nil)))) ?_
    · refine sss_cons ?_ ?_
      · refine ss_if (st_cmp (op_gLt hu) (sv (i := 3)) (se_int)) ?_ ?_
        · refine sss_cons (ss_augnm (i := 2) sc_Cover_settled.nd (se_op (op_gDiv) (sv (i := 2)) (se_int)) iop_gSub) ?_
          exact sss_one (ss_augnm (i := 3) sc_Cover_settled.nd (se_int) iop_gAdd)
        · exact sss_nil
      refine sss_cons ?_ ?_
      · refine ss_if (st_w (sw_and (st_cmp (op_gNe hu) (sv (i := 1)) (se_lst (sa_nil))) (sw_and1 (st_cmp (op_gEq hu) (se_ix hu (se_ix hu (sv (i := 1)) (se_un un_gNeg (se_int))) (se_int)) (sv (i := 3)))))) ?_ ?_
        · exact sss_one (ss_sub hu (sv (i := 1)) (se_un un_gNeg (se_int)) (se_tup (sa_cons (se_op (op_gAdd) (se_ix hu (se_ix hu (sv (i := 1)) (se_un un_gNeg (se_int))) (se_int)) (sv (i := 2))) (sa_cons (sv (i := 3)) (sa_nil)))))
        · exact sss_one (ss_expr (se_bm ty_list PySem.F.plainAttrs_list PySem.F.slot_list_append PySem.F.type_list_append mt_gAppend (sv (i := 1)) (sa_cons (se_tup (sa_cons (sv (i := 2)) (sa_cons (sv (i := 3)) (sa_nil)))) (sa_nil))))
      exact sss_forgets [2, 3]
  exact sss_one (ss_ret (se_makeF IO_Cover T.mk_Cover T.mgc_Cover (OK_Cover_init T) (hr.mono (by decide)) rfl T.mgc_Cover T.bi_Cover_init takesB (sa_cons (sv (i := 1)) (sa_nil))))
noncomputable def F_Cover_settled : Fn := cleanF f_Cover_settled
theorem OK_Cover_settled {B : Bx} {P : Program} {w : World} {base : Heap} (T : TX B base) : FnP B P w base 4 T.a_Cover_settled T.fd_Cover_settled ["self"] F_Cover_settled := (ok_Cover_settled T).clean
abbrev N_Cover_thawed : List Str := ["self", "degrees", "rows", "left", "deep", "firm", "each", "need"]
theorem sc_Cover_thawed : FnScope N_Cover_thawed ["self", "degrees"] (defScope s_Cover_thawed) := ⟨rfl, rfl, rfl, by decide +kernel, rfl, by decide +kernel, by decide +kernel⟩
abbrev B_Cover_thawed_0 : MS := mSeq (mAsg (mBin gIx (mVar 2) (mUn gNeg (mC (.int 1)))) (tTupT 2 (tMore (tName 4) (tMore (tName 5) (tNone))))) (mSeq (mAsg (mIf (mTest (mBin (gEq false) (mVar 5) (mC (.int 1)))) (mC (.int 2)) (mC (.int 1))) (tName 6)) (mSeq (mAsg (mBin gSub (mC (.int 0)) (mBin gDiv (mBin gSub (mC (.int 0)) (mVar 4)) (mVar 6))) (tName 7)) (mSeq (mIfS (mTest (mBin gLe (mVar 7) (mVar 3))) (mSeq (mExprS (mBM tyL gPop (mVar 2) mNil)) (mAug 3 gSub (mVar 7))) (mSeq (mSubSet (mVar 2) (mUn gNeg (mC (.int 1))) (mFn gTup (mCons (mBin gSub (mVar 4) (mBin gMul (mVar 3) (mVar 6))) (mCons (mVar 5) (mNil))))) (mAsg (mC (.int 0)) (tName 3)))) (mForget [4, 5, 6, 7]))))
abbrev C_Cover_thawed_1 : MT := mAnd (mTest (mBin (gEq true) (mVar 2) (mFn gLst (mNil)))) (mTest (mBin gGt (mVar 3) (mC (.int 0))))
def m_Cover_thawed : MS := mSeq (mIfS (mTest (mBin gLt (mVar 1) (mC (.int 0)))) (mRaise "BadSize") (mSkip)) (mSeq (mPar 2 3 (mCons (mListM (mCons (mUn (gFld "Cover" "layers") (mVar 0)) (mNil))) (mCons (mVar 1) (mNil)))) (mSeq (mForget [4, 5, 6, 7]) (mSeq (mWhile (fun _ _ => fuel) (C_Cover_thawed_1) (B_Cover_thawed_0)) (mRet (mMakeF "Cover" I_Cover (mCons (mVar 2) (mNil)))))))
def f_Cover_thawed : Fn := defSem 8 2 m_Cover_thawed
theorem ok_Cover_thawed {B : Bx} {P : Program} {w : World} {base : Heap} (T : TX B base) : FnP B P w base 4 T.a_Cover_thawed T.fd_Cover_thawed ["self", "degrees"] f_Cover_thawed := by
  refine fn_bodyC T.fu_Cover_thawed sc_Cover_thawed fun A outer s H E hr => ?_
  have hu := hu_of64 hr
  refine sss_cons ?_ ?_
  · refine ss_if (st_cmp (op_gLt hu) (sv (i := 1)) (se_int)) ?_ ?_
    · exact sss_one (ss_raiseX T.ex_BadSize takesB rfl)
    · exact sss_nil
  refine sss_cons (ss_par (i := 2) (j := 3) rfl sc_Cover_thawed.nd (sa_cons (se_listM rfl T.no_list (sa_cons (se_fld T.cls_Cover (by simp) (sv (i := 0))) (sa_nil))) (sa_cons (sv (i := 1)) (sa_nil)))) ?_
  refine sss_forget [4, 5, 6, 7] ?_
  refine sss_cons ?_ ?_
  · refine ss_while passB (st_w (sw_and (st_cmp (op_gNe hu) (sv (i := 2)) (se_lst (sa_nil))) (sw_and1 (st_cmp (op_gGt hu) (sv (i := 3)) (se_int))))) ?_
    · refine sss_cons (ss_asg (se_ix hu (sv (i := 2)) (se_un un_gNeg (se_int))) (sg_tup rfl (sgs_cons (sg_nm (i := 4) sc_Cover_thawed.nd) (sgs_cons (sg_nm (i := 5) sc_Cover_thawed.nd) (sgs_nil))))) ?_
      refine sss_cons (ss_nm (i := 6) sc_Cover_thawed.nd (se_if (st_cmp (op_gEq hu) (sv (i := 5)) (se_int)) (se_int) (se_int))) ?_
      refine sss_cons (ss_nm (i := 7) sc_Cover_thawed.nd (se_op (op_gSub) (se_int) (se_op (op_gDiv) (se_op (op_gSub) (se_int) (sv (i := 4))) (sv (i := 6))))) ?_
      refine sss_cons ?_ ?_
      · refine ss_if (st_cmp (op_gLe hu) (sv (i := 7)) (sv (i := 3))) ?_ ?_
        · refine sss_cons (ss_expr (se_bm0 ty_list PySem.F.plainAttrs_list PySem.F.slot_list_pop PySem.F.type_list_pop mt_gPop (sv (i := 2)))) ?_
          exact sss_one (ss_augnm (i := 3) sc_Cover_thawed.nd (sv (i := 7)) iop_gSub)
        · refine sss_cons (ss_sub hu (sv (i := 2)) (se_un un_gNeg (se_int)) (se_tup (sa_cons (se_op (op_gSub) (sv (i := 4)) (se_op (op_gMul) (sv (i := 3)) (sv (i := 6)))) (sa_cons (sv (i := 5)) (sa_nil))))) ?_
          exact sss_one (ss_nm (i := 3) sc_Cover_thawed.nd (se_int))
      exact sss_forgets [4, 5, 6, 7]
  exact sss_one (ss_ret (se_makeF IO_Cover T.mk_Cover T.mgc_Cover (OK_Cover_init T) (hr.mono (by decide)) rfl T.mgc_Cover T.bi_Cover_init takesB (sa_cons (sv (i := 2)) (sa_nil))))
noncomputable def F_Cover_thawed : Fn := cleanF f_Cover_thawed
theorem OK_Cover_thawed {B : Bx} {P : Program} {w : World} {base : Heap} (T : TX B base) : FnP B P w base 4 T.a_Cover_thawed T.fd_Cover_thawed ["self", "degrees"] F_Cover_thawed := (ok_Cover_thawed T).clean
abbrev N_Cover_sinks : List Str := ["self", "deep", "much", "firm"]
theorem sc_Cover_sinks : FnScope N_Cover_sinks ["self"] (defScope s_Cover_sinks) := ⟨rfl, rfl, rfl, by decide +kernel, rfl, by decide +kernel, by decide +kernel⟩
abbrev B_Cover_sinks_0 : MS := mSeq (mIfS (mTest (mBin gGt (mVar 3) (mC (.int 2)))) (mSeq (mForget [2, 3]) (mBrk)) (mSkip)) (mSeq (mAug 1 gAddI (mVar 2)) (mForget [2, 3]))
def m_Cover_sinks : MS := mSeq (mAsg (mC (.int 0)) (tName 1)) (mSeq (mForget [2, 3]) (mSeq (mFor (mRev (mUn (gFld "Cover" "layers") (mVar 0))) (tTupT 2 (tMore (tName 2) (tMore (tName 3) (tNone)))) (B_Cover_sinks_0)) (mRet (mVar 1))))
def f_Cover_sinks : Fn := defSem 4 1 m_Cover_sinks
theorem ok_Cover_sinks {B : Bx} {P : Program} {w : World} {base : Heap} (T : TX B base) : FnP B P w base 2 T.a_Cover_sinks T.fd_Cover_sinks ["self"] f_Cover_sinks := by
  refine fn_bodyC T.fu_Cover_sinks sc_Cover_sinks fun A outer s H E hr => ?_
  have hu := hu_of64 hr
  refine sss_cons (ss_nm (i := 1) sc_Cover_sinks.nd (se_int)) ?_
  refine sss_forget [2, 3] ?_
  refine sss_cons ?_ ?_
  · refine ss_for passB rfl (si_rev rfl T.no_reversed (se_fld T.cls_Cover (by simp) (sv (i := 0)))) (sg_tup rfl (sgs_cons (sg_nm (i := 2) sc_Cover_sinks.nd) (sgs_cons (sg_nm (i := 3) sc_Cover_sinks.nd) (sgs_nil)))) ?_
    · refine sss_cons ?_ ?_
      · refine ss_if (st_cmp (op_gGt hu) (sv (i := 3)) (se_int)) ?_ ?_
        · refine sss_forget [2, 3] ?_
          exact sss_one (ss_break)
        · exact sss_nil
      refine sss_cons (ss_augnm (i := 1) sc_Cover_sinks.nd (sv (i := 2)) iop_gAdd) ?_
      exact sss_forgets [2, 3]
  exact sss_one (ss_ret (sv (i := 1)))
noncomputable def F_Cover_sinks : Fn := cleanF f_Cover_sinks
theorem OK_Cover_sinks {B : Bx} {P : Program} {w : World} {base : Heap} (T : TX B base) : FnP B P w base 2 T.a_Cover_sinks T.fd_Cover_sinks ["self"] F_Cover_sinks := (ok_Cover_sinks T).clean
abbrev N_Cover_layer_at : List Str := ["self", "deep", "here", "number"]
theorem sc_Cover_layer_at : FnScope N_Cover_layer_at ["self", "deep"] (defScope s_Cover_layer_at) := ⟨rfl, rfl, rfl, by decide +kernel, rfl, by decide +kernel, by decide +kernel⟩
abbrev B_Cover_layer_at_0 : MS := mSeq (mAug 2 gAddI (mBin gIx (mBin gIx (mUn (gFld "Cover" "layers") (mVar 0)) (mVar 3)) (mC (.int 0)))) (mSeq (mIfS (mTest (mBin gLt (mVar 1) (mVar 2))) (mRet (mVar 3)) (mSkip)) (mForget [3]))
def m_Cover_layer_at : MS := mSeq (mIfS (mTest (mBin gLt (mVar 1) (mC (.int 0)))) (mRaise "BadSize") (mSkip)) (mSeq (mAsg (mC (.int 0)) (tName 2)) (mSeq (mForget [3]) (mSeq (mFor (mRg3 (mCons (mBin gSub (mFn gLen (mCons (mUn (gFld "Cover" "layers") (mVar 0)) (mNil))) (mC (.int 1))) (mCons (mUn gNeg (mC (.int 1))) (mCons (mUn gNeg (mC (.int 1))) (mNil))))) (tName 3) (B_Cover_layer_at_0)) (mRaise "NoSuch"))))
def f_Cover_layer_at : Fn := defSem 4 2 m_Cover_layer_at
theorem ok_Cover_layer_at {B : Bx} {P : Program} {w : World} {base : Heap} (T : TX B base) : FnP B P w base 2 T.a_Cover_layer_at T.fd_Cover_layer_at ["self", "deep"] f_Cover_layer_at := by
  refine fn_bodyC T.fu_Cover_layer_at sc_Cover_layer_at fun A outer s H E hr => ?_
  have hu := hu_of64 hr
  refine sss_cons ?_ ?_
  · refine ss_if (st_cmp (op_gLt hu) (sv (i := 1)) (se_int)) ?_ ?_
    · exact sss_one (ss_raiseX T.ex_BadSize takesB rfl)
    · exact sss_nil
  refine sss_cons (ss_nm (i := 2) sc_Cover_layer_at.nd (se_int)) ?_
  refine sss_forget [3] ?_
  refine sss_cons ?_ ?_
  · refine ss_for passB rfl (si_range3 rfl T.no_range (sa_cons (se_op (op_gSub) (se_callB cr_gLen rfl T.no_len rfl (sa_cons (se_fld T.cls_Cover (by simp) (sv (i := 0))) (sa_nil))) (se_int)) (sa_cons (se_un un_gNeg (se_int)) (sa_cons (se_un un_gNeg (se_int)) (sa_nil))))) (sg_nm (i := 3) sc_Cover_layer_at.nd) ?_
    · refine sss_cons (ss_augnm (i := 2) sc_Cover_layer_at.nd (se_ix hu (se_ix hu (se_fld T.cls_Cover (by simp) (sv (i := 0))) (sv (i := 3))) (se_int)) iop_gAdd) ?_
      refine sss_cons ?_ ?_
      · refine ss_if (st_cmp (op_gLt hu) (sv (i := 1)) (sv (i := 2))) ?_ ?_
        · exact sss_one (ss_ret (sv (i := 3)))
        · exact sss_nil
      exact sss_forgets [3]
  exact sss_one (ss_raiseX T.ex_NoSuch takesB rfl)
noncomputable def F_Cover_layer_at : Fn := cleanF f_Cover_layer_at
theorem OK_Cover_layer_at {B : Bx} {P : Program} {w : World} {base : Heap} (T : TX B base) : FnP B P w base 2 T.a_Cover_layer_at T.fd_Cover_layer_at ["self", "deep"] F_Cover_layer_at := (ok_Cover_layer_at T).clean
abbrev N_Cover_weakest : List Str := ["self", "number"]
theorem sc_Cover_weakest : FnScope N_Cover_weakest ["self"] (defScope s_Cover_weakest) := ⟨rfl, rfl, rfl, by decide +kernel, rfl, by decide +kernel, by decide +kernel⟩
abbrev B_Cover_weakest_0 : MS := mSeq (mIfS (mTest (mBin gGe (mBin gIx (mBin gIx (mUn (gFld "Cover" "layers") (mVar 0)) (mBin gSub (mVar 1) (mC (.int 1)))) (mC (.int 1))) (mBin gAdd (mBin gIx (mBin gIx (mUn (gFld "Cover" "layers") (mVar 0)) (mVar 1)) (mC (.int 1))) (mC (.int 2))))) (mRet (mVar 1)) (mSkip)) (mForget [1])
def m_Cover_weakest : MS := mSeq (mForget [1]) (mSeq (mFor (mRg2 (mCons (mC (.int 1)) (mCons (mFn gLen (mCons (mUn (gFld "Cover" "layers") (mVar 0)) (mNil))) (mNil)))) (tName 1) (B_Cover_weakest_0)) (mRaise "NoWay"))
def f_Cover_weakest : Fn := defSem 2 1 m_Cover_weakest
theorem ok_Cover_weakest {B : Bx} {P : Program} {w : World} {base : Heap} (T : TX B base) : FnP B P w base 2 T.a_Cover_weakest T.fd_Cover_weakest ["self"] f_Cover_weakest := by
  refine fn_bodyC T.fu_Cover_weakest sc_Cover_weakest fun A outer s H E hr => ?_
  have hu := hu_of64 hr
  refine sss_forget [1] ?_
  refine sss_cons ?_ ?_
  · refine ss_for passB rfl (si_range2 rfl T.no_range (sa_cons (se_int) (sa_cons (se_callB cr_gLen rfl T.no_len rfl (sa_cons (se_fld T.cls_Cover (by simp) (sv (i := 0))) (sa_nil))) (sa_nil)))) (sg_nm (i := 1) sc_Cover_weakest.nd) ?_
    · refine sss_cons ?_ ?_
      · refine ss_if (st_cmp (op_gGe hu) (se_ix hu (se_ix hu (se_fld T.cls_Cover (by simp) (sv (i := 0))) (se_op (op_gSub) (sv (i := 1)) (se_int))) (se_int)) (se_op (op_gAdd) (se_ix hu (se_ix hu (se_fld T.cls_Cover (by simp) (sv (i := 0))) (sv (i := 1))) (se_int)) (se_int))) ?_ ?_
        · exact sss_one (ss_ret (sv (i := 1)))
        · exact sss_nil
      exact sss_forgets [1]
  exact sss_one (ss_raiseX T.ex_NoWay takesB rfl)
noncomputable def F_Cover_weakest : Fn := cleanF f_Cover_weakest
theorem OK_Cover_weakest {B : Bx} {P : Program} {w : World} {base : Heap} (T : TX B base) : FnP B P w base 2 T.a_Cover_weakest T.fd_Cover_weakest ["self"] F_Cover_weakest := (ok_Cover_weakest T).clean
abbrev N_Cover_key : List Str := ["self"]
theorem sc_Cover_key : FnScope N_Cover_key ["self"] (defScope s_Cover_key) := ⟨rfl, rfl, rfl, by decide +kernel, rfl, by decide +kernel, by decide +kernel⟩
def m_Cover_key : MS := mRet (mUn (gFld "Cover" "layers") (mVar 0))
def f_Cover_key : Fn := defSem 1 1 m_Cover_key
theorem ok_Cover_key {B : Bx} {P : Program} {w : World} {base : Heap} (T : TX B base) : FnP B P w base 2 T.a_Cover_key T.fd_Cover_key ["self"] f_Cover_key := by
  refine fn_bodyC T.fu_Cover_key sc_Cover_key fun A outer s H E hr => ?_
  have hu := hu_of64 hr
  exact sss_one (ss_ret (se_fld T.cls_Cover (by simp) (sv (i := 0))))
noncomputable def F_Cover_key : Fn := cleanF f_Cover_key
theorem OK_Cover_key {B : Bx} {P : Program} {w : World} {base : Heap} (T : TX B base) : FnP B P w base 2 T.a_Cover_key T.fd_Cover_key ["self"] F_Cover_key := (ok_Cover_key T).clean
abbrev N_weathered : List Str := ["cover", "hours", "number", "heat", "deep"]
theorem sc_weathered : FnScope N_weathered ["cover", "hours"] (defScope s_weathered) := ⟨rfl, rfl, rfl, by decide +kernel, rfl, by decide +kernel, by decide +kernel⟩
abbrev B_weathered_0 : MS := mSeq (mIfS (mTest (mBin gLe (mVar 3) (mC (.int 0)))) (mAsg (mIf (mTest (mBin gGt (mVar 4) (mC (.int 0)))) (mMeth "Cover" "fallen" F_Cover_fallen (mVar 0) (mCons (mVar 4) (mNil))) (mVar 0)) (tName 0)) (mAsg (mMeth "Cover" "thawed" F_Cover_thawed (mVar 0) (mCons (mVar 3) (mNil))) (tName 0))) (mSeq (mIfS (mTest (mBin (gEq false) (mBin gMod (mVar 2) (mC (.int 8))) (mC (.int 7)))) (mAsg (mMeth "Cover" "settled" F_Cover_settled (mVar 0) mNil) (tName 0)) (mSkip)) (mForget [2, 3, 4]))
def m_weathered : MS := mSeq (mForget [2, 3, 4]) (mSeq (mFor (mEnum (mCons (mVar 1) (mNil))) (tTupT 2 (tMore (tName 2) (tMore (tTupT 2 (tMore (tName 3) (tMore (tName 4) (tNone)))) (tNone)))) (B_weathered_0)) (mRet (mVar 0)))
def f_weathered : Fn := defSem 5 2 m_weathered
theorem ok_weathered {B : Bx} {P : Program} {w : World} {base : Heap} (T : TX B base) : FnP B P w base 5 T.a_weathered T.fd_weathered ["cover", "hours"] f_weathered := by
  refine fn_bodyC T.fu_weathered sc_weathered fun A outer s H E hr => ?_
  have hu := hu_of64 hr
  refine sss_forget [2, 3, 4] ?_
  refine sss_cons ?_ ?_
  · refine ss_for passB rfl (si_enum rfl T.no_enumerate (sa_cons (sv (i := 1)) (sa_nil))) (sg_tup rfl (sgs_cons (sg_nm (i := 2) sc_weathered.nd) (sgs_cons (sg_tup rfl (sgs_cons (sg_nm (i := 3) sc_weathered.nd) (sgs_cons (sg_nm (i := 4) sc_weathered.nd) (sgs_nil)))) (sgs_nil)))) ?_
    · refine sss_cons ?_ ?_
      · refine ss_if (st_cmp (op_gLe hu) (sv (i := 3)) (se_int)) ?_ ?_
        · exact sss_one (ss_nm (i := 0) sc_weathered.nd (se_if (st_cmp (op_gGt hu) (sv (i := 4)) (se_int)) (se_meth (sv (i := 0)) T.mgc_Cover (T.cls_Cover.cls _ T.mgc_Cover) T.me_Cover_fallen (OK_Cover_fallen T) (hr.mono (by decide)) T.bi_Cover_fallen takesB (sa_cons (sv (i := 4)) (sa_nil))) (sv (i := 0))))
        · exact sss_one (ss_nm (i := 0) sc_weathered.nd (se_meth (sv (i := 0)) T.mgc_Cover (T.cls_Cover.cls _ T.mgc_Cover) T.me_Cover_thawed (OK_Cover_thawed T) (hr.mono (by decide)) T.bi_Cover_thawed takesB (sa_cons (sv (i := 3)) (sa_nil))))
      refine sss_cons ?_ ?_
      · refine ss_if (st_cmp (op_gEq hu) (se_op (op_gMod) (sv (i := 2)) (se_int)) (se_int)) ?_ ?_
        · exact sss_one (ss_nm (i := 0) sc_weathered.nd (se_meth0 (sv (i := 0)) T.mgc_Cover (T.cls_Cover.cls _ T.mgc_Cover) T.me_Cover_settled (OK_Cover_settled T) (hr.mono (by decide)) T.bi_Cover_settled takesB))
        · exact sss_nil
      exact sss_forgets [2, 3, 4]
  exact sss_one (ss_ret (sv (i := 0)))
noncomputable def F_weathered : Fn := cleanF f_weathered
theorem OK_weathered {B : Bx} {P : Program} {w : World} {base : Heap} (T : TX B base) : FnP B P w base 5 T.a_weathered T.fd_weathered ["cover", "hours"] F_weathered := (ok_weathered T).clean
abbrev N_lay_days : List Str := ["depths", "least", "found", "day", "deep"]
theorem sc_lay_days : FnScope N_lay_days ["depths", "least"] (defScope s_lay_days) := ⟨rfl, rfl, rfl, by decide +kernel, rfl, by decide +kernel, by decide +kernel⟩
abbrev B_lay_days_0 : MS := mSeq (mIfS (mTest (mBin gGe (mVar 4) (mVar 1))) (mIfS (mAnd (mTest (mBin (gEq true) (mVar 2) (mFn gLst (mNil)))) (mTest (mBin (gEq false) (mFn gSum (mCons (mBin gIx (mVar 2) (mUn gNeg (mC (.int 1)))) (mNil))) (mVar 3)))) (mSubSet (mVar 2) (mUn gNeg (mC (.int 1))) (mFn gTup (mCons (mBin gIx (mBin gIx (mVar 2) (mUn gNeg (mC (.int 1)))) (mC (.int 0))) (mCons (mBin gAdd (mBin gIx (mBin gIx (mVar 2) (mUn gNeg (mC (.int 1)))) (mC (.int 1))) (mC (.int 1))) (mNil))))) (mExprS (mBM tyL gAppend (mVar 2) (mCons (mFn gTup (mCons (mVar 3) (mCons (mC (.int 1)) (mNil)))) (mNil))))) (mSkip)) (mForget [3, 4])
def m_lay_days : MS := mSeq (mAsg (mLstM (mNil)) (tName 2)) (mSeq (mForget [3, 4]) (mSeq (mFor (mEnum (mCons (mVar 0) (mNil))) (tTupT 2 (tMore (tName 3) (tMore (tName 4) (tNone)))) (B_lay_days_0)) (mRet (mFn gTuple (mCons (mVar 2) (mNil))))))
def f_lay_days : Fn := defSem 5 2 m_lay_days
theorem ok_lay_days {B : Bx} {P : Program} {w : World} {base : Heap} (T : TX B base) : FnP B P w base 2 T.a_lay_days T.fd_lay_days ["depths", "least"] f_lay_days := by
  refine fn_bodyC T.fu_lay_days sc_lay_days fun A outer s H E hr => ?_
  have hu := hu_of64 hr
  refine sss_cons (ss_nm (i := 2) sc_lay_days.nd (se_lstM (sa_nil))) ?_
  refine sss_forget [3, 4] ?_
  refine sss_cons ?_ ?_
  · refine ss_for passB rfl (si_enum rfl T.no_enumerate (sa_cons (sv (i := 0)) (sa_nil))) (sg_tup rfl (sgs_cons (sg_nm (i := 3) sc_lay_days.nd) (sgs_cons (sg_nm (i := 4) sc_lay_days.nd) (sgs_nil)))) ?_
    · refine sss_cons ?_ ?_
      · refine ss_if (st_cmp (op_gGe hu) (sv (i := 4)) (sv (i := 1))) ?_ ?_
        · refine sss_one ?_
          refine ss_if (st_w (sw_and (st_cmp (op_gNe hu) (sv (i := 2)) (se_lst (sa_nil))) (sw_and1 (st_cmp (op_gEq hu) (se_callB (cr_gSum rfl) rfl T.no_sum rfl (sa_cons (se_ix hu (sv (i := 2)) (se_un un_gNeg (se_int))) (sa_nil))) (sv (i := 3)))))) ?_ ?_
          · exact sss_one (ss_sub hu (sv (i := 2)) (se_un un_gNeg (se_int)) (se_tup (sa_cons (se_ix hu (se_ix hu (sv (i := 2)) (se_un un_gNeg (se_int))) (se_int)) (sa_cons (se_op (op_gAdd) (se_ix hu (se_ix hu (sv (i := 2)) (se_un un_gNeg (se_int))) (se_int)) (se_int)) (sa_nil)))))
          · exact sss_one (ss_expr (se_bm ty_list PySem.F.plainAttrs_list PySem.F.slot_list_append PySem.F.type_list_append mt_gAppend (sv (i := 2)) (sa_cons (se_tup (sa_cons (sv (i := 3)) (sa_cons (se_int) (sa_nil)))) (sa_nil))))
        · exact sss_nil
      exact sss_forgets [3, 4]
  exact sss_one (ss_ret (se_callTy cr_gTuple rfl T.no_tuple rfl (sa_cons (sv (i := 2)) (sa_nil))))
noncomputable def F_lay_days : Fn := cleanF f_lay_days
theorem OK_lay_days {B : Bx} {P : Program} {w : World} {base : Heap} (T : TX B base) : FnP B P w base 2 T.a_lay_days T.fd_lay_days ["depths", "least"] F_lay_days := (ok_lay_days T).clean
abbrev N_deepest_day : List Str := ["depths"]
theorem sc_deepest_day : FnScope N_deepest_day ["depths"] (defScope s_deepest_day) := ⟨rfl, rfl, rfl, by decide +kernel, rfl, by decide +kernel, by decide +kernel⟩
def m_deepest_day : MS := mSeq (mIfS (mTest (mBin (gEq false) (mFn gLen (mCons (mVar 0) (mNil))) (mC (.int 0)))) (mRaise "NoWay") (mSkip)) (mRet (mFn gTup (mCons (mBM tyL gIndex (mVar 0) (mCons (mFn gMax (mCons (mVar 0) (mNil))) (mNil))) (mCons (mFn gMax (mCons (mVar 0) (mNil))) (mNil)))))
def f_deepest_day : Fn := defSem 1 1 m_deepest_day
theorem ok_deepest_day {B : Bx} {P : Program} {w : World} {base : Heap} (T : TX B base) : FnP B P w base 2 T.a_deepest_day T.fd_deepest_day ["depths"] f_deepest_day := by
  refine fn_bodyC T.fu_deepest_day sc_deepest_day fun A outer s H E hr => ?_
  have hu := hu_of64 hr
  refine sss_cons ?_ ?_
  · refine ss_if (st_cmp (op_gEq hu) (se_callB cr_gLen rfl T.no_len rfl (sa_cons (sv (i := 0)) (sa_nil))) (se_int)) ?_ ?_
    · exact sss_one (ss_raiseX T.ex_NoWay takesB rfl)
    · exact sss_nil
  exact sss_one (ss_ret (se_tup (sa_cons (se_bm ty_list PySem.F.plainAttrs_list PySem.F.slot_list_index PySem.F.type_list_index (mt_gIndex (hu_of65 hr)) (sv (i := 0)) (sa_cons (se_callB (cr_gMax rfl hu) rfl T.no_max rfl (sa_cons (sv (i := 0)) (sa_nil))) (sa_nil))) (sa_cons (se_callB (cr_gMax rfl hu) rfl T.no_max rfl (sa_cons (sv (i := 0)) (sa_nil))) (sa_nil)))))
noncomputable def F_deepest_day : Fn := cleanF f_deepest_day
theorem OK_deepest_day {B : Bx} {P : Program} {w : World} {base : Heap} (T : TX B base) : FnP B P w base 2 T.a_deepest_day T.fd_deepest_day ["depths"] F_deepest_day := (ok_deepest_day T).clean
abbrev N_melt_days : List Str := ["deep", "firm", "degrees", "each"]
theorem sc_melt_days : FnScope N_melt_days ["deep", "firm", "degrees"] (defScope s_melt_days) := ⟨rfl, rfl, rfl, by decide +kernel, rfl, by decide +kernel, by decide +kernel⟩
def m_melt_days : MS := mSeq (mIfS (mOr (mTest (mBin gLt (mVar 0) (mC (.int 0)))) (mNot (mTest (mChain gLe gLe (mC (.int 1)) (mVar 1) (mC (.int 5)))))) (mRaise "BadSize") (mSkip)) (mSeq (mIfS (mTest (mBin gLt (mVar 2) (mC (.int 1)))) (mRaise "NoWay") (mSkip)) (mSeq (mAsg (mBin gMul (mVar 2) (mIf (mTest (mBin (gEq false) (mVar 1) (mC (.int 1)))) (mC (.int 2)) (mC (.int 1)))) (tName 3)) (mRet (mBin gSub (mC (.int 0)) (mBin gDiv (mBin gSub (mC (.int 0)) (mVar 0)) (mVar 3))))))
def f_melt_days : Fn := defSem 4 3 m_melt_days
theorem ok_melt_days {B : Bx} {P : Program} {w : World} {base : Heap} (T : TX B base) : FnP B P w base 2 T.a_melt_days T.fd_melt_days ["deep", "firm", "degrees"] f_melt_days := by
  refine fn_bodyC T.fu_melt_days sc_melt_days fun A outer s H E hr => ?_
  have hu := hu_of64 hr
  refine sss_cons ?_ ?_
  · refine ss_if (st_w (sw_or (st_cmp (op_gLt hu) (sv (i := 0)) (se_int)) (sw_or1 (st_not (st_chain (op_gLe hu) (op_gLe hu) (se_int) (sv (i := 1)) (se_int)))))) ?_ ?_
    · exact sss_one (ss_raiseX T.ex_BadSize takesB rfl)
    · exact sss_nil
  refine sss_cons ?_ ?_
  · refine ss_if (st_cmp (op_gLt hu) (sv (i := 2)) (se_int)) ?_ ?_
    · exact sss_one (ss_raiseX T.ex_NoWay takesB rfl)
    · exact sss_nil
  refine sss_cons (ss_nm (i := 3) sc_melt_days.nd (se_op (op_gMul) (sv (i := 2)) (se_if (st_cmp (op_gEq hu) (sv (i := 1)) (se_int)) (se_int) (se_int)))) ?_
  exact sss_one (ss_ret (se_op (op_gSub) (se_int) (se_op (op_gDiv) (se_op (op_gSub) (se_int) (sv (i := 0))) (sv (i := 3)))))
noncomputable def F_melt_days : Fn := cleanF f_melt_days
theorem OK_melt_days {B : Bx} {P : Program} {w : World} {base : Heap} (T : TX B base) : FnP B P w base 2 T.a_melt_days T.fd_melt_days ["deep", "firm", "degrees"] F_melt_days := (ok_melt_days T).clean
abbrev N__law_dice : List Str := ["cell"]
theorem sc__law_dice : FnScope N__law_dice ["cell"] (defScope s__law_dice) := ⟨rfl, rfl, rfl, by decide +kernel, rfl, by decide +kernel, by decide +kernel⟩
abbrev S__law_dice_0 : MS := mRet (mLstM (mCons (mFn gAbs (mCons (mVar 0) (mNil))) (mCons (mC (.int 0)) (mCons (mC (.int 2)) (mNil)))))
abbrev S__law_dice_1 : MS := mIfS (mTest (mChain gLt gLt (mBin gSub (mC (.int 0)) (mC (.int 10))) (mVar 0) (mC (.int 10)))) (S__law_dice_0) (mSkip)
abbrev S__law_dice_2 : MS := mRet (mLstM (mCons (mVar 0) (mCons (mBin gAdd (mC (.int 1)) (mBin gMod (mFn gInt (mCons (mVar 0) (mNil))) (mC (.int 1009)))) (mCons (mFn gInt (mCons (mBin gGe (mVar 0) (mBin gPow (mC (.int 10)) (mC (.int 18)))) (mNil))) (mNil)))))
def m__law_dice : MS := mSeq (S__law_dice_1) (S__law_dice_2)
def f__law_dice : Fn := defSem 1 1 m__law_dice
theorem ok__law_dice {B : Bx} {P : Program} {w : World} {base : Heap} (T : TX B base) : FnP B P w base 2 T.a__law_dice T.fd__law_dice ["cell"] f__law_dice := by
  refine fn_bodyC T.fu__law_dice sc__law_dice fun A outer s H E hr => ?_
  have hu := hu_of64 hr
  refine sss_cons ?_ ?_
  · refine ss_if (st_chain (op_gLt hu) (op_gLt hu) (se_op (op_gSub) (se_int) (se_int)) (sv (i := 0)) (se_int)) ?_ ?_
    · exact sss_one (ss_ret (se_lstM (sa_cons (se_callB cr_gAbs rfl T.no_abs rfl (sa_cons (sv (i := 0)) (sa_nil))) (sa_cons (se_int) (sa_cons (se_int) (sa_nil))))))
    · exact sss_nil
  exact sss_one (ss_ret (se_lstM (sa_cons (sv (i := 0)) (sa_cons (se_op (op_gAdd) (se_int) (se_op (op_gMod) (se_callTy cr_gInt rfl T.no_int rfl (sa_cons (sv (i := 0)) (sa_nil))) (se_int))) (sa_cons (se_callTy cr_gInt rfl T.no_int rfl (sa_cons (se_cmp (op_gGe hu) (sv (i := 0)) (se_op (op_gPow) (se_int) (se_int))) (sa_nil))) (sa_nil))))))
abbrev F__law_dice : Fn := f__law_dice
theorem OK__law_dice {B : Bx} {P : Program} {w : World} {base : Heap} (T : TX B base) : FnP B P w base 2 T.a__law_dice T.fd__law_dice ["cell"] F__law_dice := ok__law_dice T
abbrev N__law_roll : List Str := ["dice", "many", "found"]
theorem sc__law_roll : FnScope N__law_roll ["dice", "many"] (defScope s__law_roll) := ⟨rfl, rfl, rfl, by decide +kernel, rfl, by decide +kernel, by decide +kernel⟩
abbrev S__law_roll_0 : MS := mAsg (mBin gMod (mFn gInt (mCons (mBin gIx (mVar 0) (mC (.int 0))) (mNil))) (mVar 1)) (tName 2)
abbrev S__law_roll_1 : MS := mSubSet (mVar 0) (mC (.int 0)) (mBin gDiv (mBin gIx (mVar 0) (mC (.int 0))) (mVar 1))
abbrev S__law_roll_2 : MS := mIfS (mOr (mTest (mBin (gEq false) (mBin gIx (mVar 0) (mC (.int 2))) (mC (.int 2)))) (mAnd (mTest (mBin (gEq false) (mBin gIx (mVar 0) (mC (.int 2))) (mC (.int 1)))) (mTest (mBin gGt (mBin gIx (mVar 0) (mC (.int 0))) (mC (.int 0)))))) (mSeq (S__law_roll_0) (mSeq (S__law_roll_1) (mRet (mVar 2)))) (mSkip)
abbrev S__law_roll_3 : MS := mSubSet (mVar 0) (mC (.int 0)) (mBin gMod (mFn gInt (mCons (mBin gAdd (mBin gAdd (mBin gMul (mBin gIx (mVar 0) (mC (.int 0))) (mC (.int 48271))) (mBin gMul (mBin gIx (mVar 0) (mC (.int 1))) (mC (.int 69621)))) (mC (.int 11))) (mNil))) (mC (.int 2147483647)))
abbrev S__law_roll_4 : MS := mSubSet (mVar 0) (mC (.int 1)) (mBin gAdd (mBin gIx (mVar 0) (mC (.int 1))) (mC (.int 1)))
abbrev S__law_roll_5 : MS := mRet (mBin gMod (mFn gInt (mCons (mBin gAdd (mBin gDiv (mBin gIx (mVar 0) (mC (.int 0))) (mC (.int 7))) (mBin gIx (mVar 0) (mC (.int 0)))) (mNil))) (mVar 1))
def m__law_roll : MS := mSeq (S__law_roll_2) (mSeq (mSubSet (mVar 0) (mC (.int 2)) (mC (.int 0))) (mSeq (S__law_roll_3) (mSeq (S__law_roll_4) (S__law_roll_5))))
def f__law_roll : Fn := defSem 3 2 m__law_roll
theorem ok__law_roll {B : Bx} {P : Program} {w : World} {base : Heap} (T : TX B base) : FnP B P w base 2 T.a__law_roll T.fd__law_roll ["dice", "many"] f__law_roll := by
  refine fn_bodyC T.fu__law_roll sc__law_roll fun A outer s H E hr => ?_
  have hu := hu_of64 hr
  refine sss_cons ?_ ?_
  · refine ss_if (st_w (sw_or (st_cmp (op_gEq hu) (se_ix hu (sv (i := 0)) (se_int)) (se_int)) (sw_or1 (st_w (sw_and (st_cmp (op_gEq hu) (se_ix hu (sv (i := 0)) (se_int)) (se_int)) (sw_and1 (st_cmp (op_gGt hu) (se_ix hu (sv (i := 0)) (se_int)) (se_int)))))))) ?_ ?_
    · refine sss_cons (ss_nm (i := 2) sc__law_roll.nd (se_op (op_gMod) (se_callTy cr_gInt rfl T.no_int rfl (sa_cons (se_ix hu (sv (i := 0)) (se_int)) (sa_nil))) (sv (i := 1)))) ?_
      refine sss_cons (ss_sub hu (sv (i := 0)) (se_int) (se_op (op_gDiv) (se_ix hu (sv (i := 0)) (se_int)) (sv (i := 1)))) ?_
      exact sss_one (ss_ret (sv (i := 2)))
    · exact sss_nil
  refine sss_cons (ss_sub hu (sv (i := 0)) (se_int) (se_int)) ?_
  refine sss_cons (ss_sub hu (sv (i := 0)) (se_int) (se_op (op_gMod) (se_callTy cr_gInt rfl T.no_int rfl (sa_cons (se_op (op_gAdd) (se_op (op_gAdd) (se_op (op_gMul) (se_ix hu (sv (i := 0)) (se_int)) (se_int)) (se_op (op_gMul) (se_ix hu (sv (i := 0)) (se_int)) (se_int))) (se_int)) (sa_nil))) (se_int))) ?_
  refine sss_cons (ss_sub hu (sv (i := 0)) (se_int) (se_op (op_gAdd) (se_ix hu (sv (i := 0)) (se_int)) (se_int))) ?_
  exact sss_one (ss_ret (se_op (op_gMod) (se_callTy cr_gInt rfl T.no_int rfl (sa_cons (se_op (op_gAdd) (se_op (op_gDiv) (se_ix hu (sv (i := 0)) (se_int)) (se_int)) (se_ix hu (sv (i := 0)) (se_int))) (sa_nil))) (sv (i := 1))))
noncomputable def F__law_roll : Fn := cleanF f__law_roll
theorem OK__law_roll {B : Bx} {P : Program} {w : World} {base : Heap} (T : TX B base) : FnP B P w base 2 T.a__law_roll T.fd__law_roll ["dice", "many"] F__law_roll := (ok__law_roll T).clean
abbrev N__law_rounds : List Str := ["script", "most", "cells", "cell"]
theorem sc__law_rounds : FnScope N__law_rounds ["script", "most"] (defScope s__law_rounds) := ⟨rfl, rfl, rfl, by decide +kernel, rfl, by decide +kernel, by decide +kernel⟩
abbrev S__law_rounds_0 : MS := mIfS (mTest (mBin (gEq false) (mVar 2) (mFn gLst (mNil)))) (mAsg (mFn gLst (mCons (mC (.int 0)) (mNil))) (tName 2)) (mSkip)
abbrev S__law_rounds_1 : MS := mRet (mLc (mSq (mVar 2)) (tName 3) (mYes) (mCall F__law_dice (mCons (mVar 3) (mNil))) [3])
def m__law_rounds : MS := mSeq (mAsg (mSl (mVar 0) (mNoPart) (mPart (mVar 1))) (tName 2)) (mSeq (S__law_rounds_0) (S__law_rounds_1))
def f__law_rounds : Fn := defSem 4 2 m__law_rounds
theorem ok__law_rounds {B : Bx} {P : Program} {w : World} {base : Heap} (T : TX B base) : FnP B P w base 3 T.a__law_rounds T.fd__law_rounds ["script", "most"] f__law_rounds := by
  refine fn_bodyC T.fu__law_rounds sc__law_rounds fun A outer s H E hr => ?_
  have hu := hu_of64 hr
  refine sss_cons (ss_nm (i := 2) sc__law_rounds.nd (se_slice (sv (i := 0)) (so_none) (so_some (sv (i := 1))))) ?_
  refine sss_cons ?_ ?_
  · refine ss_if (st_cmp (op_gEq hu) (sv (i := 2)) (se_lst (sa_nil))) ?_ ?_
    · exact sss_one (ss_nm (i := 2) sc__law_rounds.nd (se_lst (sa_cons (se_int) (sa_nil))))
    · exact sss_nil
  exact sss_one (ss_ret (se_lc rfl sc__law_rounds.nd (own := [("cell", 3)]) (blkOk_by (by rfl)) (si_list (sv (i := 2))) (fun _ _ _ _ _ => sg_nm (i := 3) sc__law_rounds.nd) (fun _ _ _ _ _ => sts_nil) (fun _ _ _ _ _ => se_call (OK__law_dice T) (hr.mono (by decide)) rfl T.mg__law_dice T.fu__law_dice.kp T.bi__law_dice tk0 (sa_cons (sv (i := 3)) (sa_nil))) (by decide)))
abbrev F__law_rounds : Fn := f__law_rounds
theorem OK__law_rounds {B : Bx} {P : Program} {w : World} {base : Heap} (T : TX B base) : FnP B P w base 3 T.a__law_rounds T.fd__law_rounds ["script", "most"] F__law_rounds := ok__law_rounds T
abbrev N__law_told : List Str := ["what"]
theorem sc__law_told : FnScope N__law_told ["what"] (defScope s__law_told) := ⟨rfl, rfl, rfl, by decide +kernel, rfl, by decide +kernel, by decide +kernel⟩
theorem told_gives {B : Bx} {base : Heap} {X : Cx} (T : TX B base) (hK : X.K = B.K) (hmg : X.mg = B.mg) {g : Addr} {cdg : Value} {q : Str} : LamX.GivesTo X N__law_told "_law_told" (defScope s__law_told) g cdg (defBody s__law_told) "what" q (TMany B.K (TX.vs T)) := by
  rw [← hK]
  exact told_many (.cons (by rfl) (by rw [hmg]; exact T.mgc_BadSize) (by decide) (.cons (by rfl) (by rw [hmg]; exact T.mgc_BadPlan) (by decide) (.cons (by rfl) (by rw [hmg]; exact T.mgc_NoSuch) (by decide) (.cons (by rfl) (by rw [hmg]; exact T.mgc_NoRoom) (by decide) (.cons (by rfl) (by rw [hmg]; exact T.mgc_NoWay) (by decide) (.cons (by rfl) (by rw [hmg]; exact T.mgc_Breaks) (by decide) (.cons (by rfl) (by rw [hmg]; exact T.mgc_BadText) (by decide) (.cons (by rfl) (by rw [hmg]; exact T.mgc_BadDeed) (by decide) (.nil))))))))) (fun _ => rfl)
abbrev N__law_fallen : List Str := ["rows", "deep", "last"]
theorem sc__law_fallen : FnScope N__law_fallen ["rows", "deep"] (defScope s__law_fallen) := ⟨rfl, rfl, rfl, by decide +kernel, rfl, by decide +kernel, by decide +kernel⟩
abbrev S__law_fallen_0 : MS := mAsg (mIf (mTest (mBin (gEq true) (mVar 0) (mFn gLst (mNil)))) (mBin gIx (mVar 0) (mBin gSub (mFn gLen (mCons (mVar 0) (mNil))) (mC (.int 1)))) (mFn gTup (mCons (mC (.int 0)) (mCons (mC (.int 0)) (mNil))))) (tName 2)
abbrev S__law_fallen_1 : MS := mRet (mIf (mTest (mBin (gEq false) (mBin gIx (mVar 2) (mC (.int 1))) (mC (.int 1)))) (mBin gAdd (mSl (mVar 0) (mNoPart) (mPart (mBin gSub (mFn gLen (mCons (mVar 0) (mNil))) (mC (.int 1))))) (mFn gLst (mCons (mFn gTup (mCons (mBin gAdd (mBin gIx (mVar 2) (mC (.int 0))) (mVar 1)) (mCons (mC (.int 1)) (mNil)))) (mNil)))) (mBin gAdd (mVar 0) (mFn gLst (mCons (mFn gTup (mCons (mVar 1) (mCons (mC (.int 1)) (mNil)))) (mNil)))))
def m__law_fallen : MS := mSeq (S__law_fallen_0) (S__law_fallen_1)
def f__law_fallen : Fn := defSem 3 2 m__law_fallen
theorem ok__law_fallen {B : Bx} {P : Program} {w : World} {base : Heap} (T : TX B base) : FnP B P w base 2 T.a__law_fallen T.fd__law_fallen ["rows", "deep"] f__law_fallen := by
  refine fn_bodyC T.fu__law_fallen sc__law_fallen fun A outer s H E hr => ?_
  have hu := hu_of64 hr
  refine sss_cons (ss_nm (i := 2) sc__law_fallen.nd (se_if (st_cmp (op_gNe hu) (sv (i := 0)) (se_lst (sa_nil))) (se_ix hu (sv (i := 0)) (se_op (op_gSub) (se_callB cr_gLen rfl T.no_len rfl (sa_cons (sv (i := 0)) (sa_nil))) (se_int))) (se_tup (sa_cons (se_int) (sa_cons (se_int) (sa_nil)))))) ?_
  exact sss_one (ss_ret (se_if (st_cmp (op_gEq hu) (se_ix hu (sv (i := 2)) (se_int)) (se_int)) (se_op (op_gAdd) (se_slice (sv (i := 0)) (so_none) (so_some (se_op (op_gSub) (se_callB cr_gLen rfl T.no_len rfl (sa_cons (sv (i := 0)) (sa_nil))) (se_int)))) (se_lst (sa_cons (se_tup (sa_cons (se_op (op_gAdd) (se_ix hu (sv (i := 2)) (se_int)) (sv (i := 1))) (sa_cons (se_int) (sa_nil)))) (sa_nil)))) (se_op (op_gAdd) (sv (i := 0)) (se_lst (sa_cons (se_tup (sa_cons (sv (i := 1)) (sa_cons (se_int) (sa_nil)))) (sa_nil))))))
noncomputable def F__law_fallen : Fn := cleanF f__law_fallen
theorem OK__law_fallen {B : Bx} {P : Program} {w : World} {base : Heap} (T : TX B base) : FnP B P w base 2 T.a__law_fallen T.fd__law_fallen ["rows", "deep"] F__law_fallen := (ok__law_fallen T).clean
abbrev N__law_settled : List Str := ["rows", "found", "deep", "firm", "row", "same"]
theorem sc__law_settled : FnScope N__law_settled ["rows"] (defScope s__law_settled) := ⟨rfl, rfl, rfl, by decide +kernel, rfl, by decide +kernel, by decide +kernel⟩
abbrev S__law_settled_0 : MS := mAsg (mIf (mTest (mBin gLt (mVar 3) (mC (.int 5)))) (mFn gTup (mCons (mBin gSub (mVar 2) (mBin gDiv (mVar 2) (mC (.int 5)))) (mCons (mBin gAdd (mVar 3) (mC (.int 1))) (mNil)))) (mFn gTup (mCons (mVar 2) (mCons (mVar 3) (mNil))))) (tName 4)
abbrev S__law_settled_1 : MS := mAsg (mAndE (mBin (gEq true) (mVar 1) (mFn gLst (mNil))) (mBin (gEq false) (mBin gIx (mBin gIx (mVar 1) (mBin gSub (mFn gLen (mCons (mVar 1) (mNil))) (mC (.int 1)))) (mC (.int 1))) (mBin gIx (mVar 4) (mC (.int 1))))) (tName 5)
abbrev S__law_settled_2 : MS := mAsg (mIf (mTest (mVar 5)) (mBin gAdd (mSl (mVar 1) (mNoPart) (mPart (mBin gSub (mFn gLen (mCons (mVar 1) (mNil))) (mC (.int 1))))) (mFn gLst (mCons (mFn gTup (mCons (mBin gAdd (mBin gIx (mBin gIx (mVar 1) (mBin gSub (mFn gLen (mCons (mVar 1) (mNil))) (mC (.int 1)))) (mC (.int 0))) (mBin gIx (mVar 4) (mC (.int 0)))) (mCons (mBin gIx (mVar 4) (mC (.int 1))) (mNil)))) (mNil)))) (mBin gAdd (mVar 1) (mFn gLst (mCons (mVar 4) (mNil))))) (tName 1)
abbrev B__law_settled_3 : MS := mSeq (S__law_settled_0) (mSeq (S__law_settled_1) (mSeq (S__law_settled_2) (mForget [2, 3, 4, 5])))
abbrev S__law_settled_4 : MS := mFor (mSq (mVar 0)) (tTupT 2 (tMore (tName 2) (tMore (tName 3) (tNone)))) (B__law_settled_3)
def m__law_settled : MS := mSeq (mAsg (mFn gLst (mNil)) (tName 1)) (mSeq (mForget [2, 3, 4, 5]) (mSeq (S__law_settled_4) (mRet (mVar 1))))
def f__law_settled : Fn := defSem 6 1 m__law_settled
theorem ok__law_settled {B : Bx} {P : Program} {w : World} {base : Heap} (T : TX B base) : FnP B P w base 2 T.a__law_settled T.fd__law_settled ["rows"] f__law_settled := by
  refine fn_bodyC T.fu__law_settled sc__law_settled fun A outer s H E hr => ?_
  have hu := hu_of64 hr
  refine sss_cons (ss_nm (i := 1) sc__law_settled.nd (se_lst (sa_nil))) ?_
  refine sss_forget [2, 3, 4, 5] ?_
  refine sss_cons ?_ ?_
  · refine ss_for passB rfl (si_list (sv (i := 0))) (sg_tup rfl (sgs_cons (sg_nm (i := 2) sc__law_settled.nd) (sgs_cons (sg_nm (i := 3) sc__law_settled.nd) (sgs_nil)))) ?_
    · refine sss_cons (ss_nm (i := 4) sc__law_settled.nd (se_if (st_cmp (op_gLt hu) (sv (i := 3)) (se_int)) (se_tup (sa_cons (se_op (op_gSub) (sv (i := 2)) (se_op (op_gDiv) (sv (i := 2)) (se_int))) (sa_cons (se_op (op_gAdd) (sv (i := 3)) (se_int)) (sa_nil)))) (se_tup (sa_cons (sv (i := 2)) (sa_cons (sv (i := 3)) (sa_nil)))))) ?_
      refine sss_cons (ss_nm (i := 5) sc__law_settled.nd (se_and (se_cmp (op_gNe hu) (sv (i := 1)) (se_lst (sa_nil))) (se_one (se_cmp (op_gEq hu) (se_ix hu (se_ix hu (sv (i := 1)) (se_op (op_gSub) (se_callB cr_gLen rfl T.no_len rfl (sa_cons (sv (i := 1)) (sa_nil))) (se_int))) (se_int)) (se_ix hu (sv (i := 4)) (se_int)))))) ?_
      refine sss_cons (ss_nm (i := 1) sc__law_settled.nd (se_if (st_val (sv (i := 5))) (se_op (op_gAdd) (se_slice (sv (i := 1)) (so_none) (so_some (se_op (op_gSub) (se_callB cr_gLen rfl T.no_len rfl (sa_cons (sv (i := 1)) (sa_nil))) (se_int)))) (se_lst (sa_cons (se_tup (sa_cons (se_op (op_gAdd) (se_ix hu (se_ix hu (sv (i := 1)) (se_op (op_gSub) (se_callB cr_gLen rfl T.no_len rfl (sa_cons (sv (i := 1)) (sa_nil))) (se_int))) (se_int)) (se_ix hu (sv (i := 4)) (se_int))) (sa_cons (se_ix hu (sv (i := 4)) (se_int)) (sa_nil)))) (sa_nil)))) (se_op (op_gAdd) (sv (i := 1)) (se_lst (sa_cons (sv (i := 4)) (sa_nil)))))) ?_
      exact sss_forgets [2, 3, 4, 5]
  exact sss_one (ss_ret (sv (i := 1)))
noncomputable def F__law_settled : Fn := cleanF f__law_settled
theorem OK__law_settled {B : Bx} {P : Program} {w : World} {base : Heap} (T : TX B base) : FnP B P w base 2 T.a__law_settled T.fd__law_settled ["rows"] F__law_settled := (ok__law_settled T).clean
abbrev N__law_thawed : List Str := ["rows", "degrees", "degree", "deep", "firm", "left"]
theorem sc__law_thawed : FnScope N__law_thawed ["rows", "degrees"] (defScope s__law_thawed) := ⟨rfl, rfl, rfl, by decide +kernel, rfl, by decide +kernel, by decide +kernel⟩
abbrev S__law_thawed_0 : MS := mAsg (mBin gIx (mVar 0) (mBin gSub (mFn gLen (mCons (mVar 0) (mNil))) (mC (.int 1)))) (tTupT 2 (tMore (tName 3) (tMore (tName 4) (tNone))))
abbrev S__law_thawed_1 : MS := mAsg (mBin gSub (mVar 3) (mIf (mTest (mBin (gEq false) (mVar 4) (mC (.int 1)))) (mC (.int 2)) (mC (.int 1)))) (tName 5)
abbrev S__law_thawed_2 : MS := mAsg (mBin gAdd (mSl (mVar 0) (mNoPart) (mPart (mBin gSub (mFn gLen (mCons (mVar 0) (mNil))) (mC (.int 1))))) (mIf (mTest (mBin gGt (mVar 5) (mC (.int 0)))) (mFn gLst (mCons (mFn gTup (mCons (mVar 5) (mCons (mVar 4) (mNil)))) (mNil))) (mFn gLst (mNil)))) (tName 0)
abbrev S__law_thawed_3 : MS := mIfS (mTest (mBin (gEq true) (mVar 0) (mFn gLst (mNil)))) (mSeq (S__law_thawed_0) (mSeq (S__law_thawed_1) (S__law_thawed_2))) (mSkip)
abbrev B__law_thawed_4 : MS := mSeq (S__law_thawed_3) (mForget [2, 3, 4, 5])
def m__law_thawed : MS := mSeq (mForget [2, 3, 4, 5]) (mSeq (mFor (mRg1 (mCons (mVar 1) (mNil))) (tName 2) (B__law_thawed_4)) (mRet (mVar 0)))
def f__law_thawed : Fn := defSem 6 2 m__law_thawed
theorem ok__law_thawed {B : Bx} {P : Program} {w : World} {base : Heap} (T : TX B base) : FnP B P w base 2 T.a__law_thawed T.fd__law_thawed ["rows", "degrees"] f__law_thawed := by
  refine fn_bodyC T.fu__law_thawed sc__law_thawed fun A outer s H E hr => ?_
  have hu := hu_of64 hr
  refine sss_forget [2, 3, 4, 5] ?_
  refine sss_cons ?_ ?_
  · refine ss_for passB rfl (si_range1 rfl T.no_range (sa_cons (sv (i := 1)) (sa_nil))) (sg_nm (i := 2) sc__law_thawed.nd) ?_
    · refine sss_cons ?_ ?_
      · refine ss_if (st_cmp (op_gNe hu) (sv (i := 0)) (se_lst (sa_nil))) ?_ ?_
        · refine sss_cons (ss_asg (se_ix hu (sv (i := 0)) (se_op (op_gSub) (se_callB cr_gLen rfl T.no_len rfl (sa_cons (sv (i := 0)) (sa_nil))) (se_int))) (sg_tup rfl (sgs_cons (sg_nm (i := 3) sc__law_thawed.nd) (sgs_cons (sg_nm (i := 4) sc__law_thawed.nd) (sgs_nil))))) ?_
          refine sss_cons (ss_nm (i := 5) sc__law_thawed.nd (se_op (op_gSub) (sv (i := 3)) (se_if (st_cmp (op_gEq hu) (sv (i := 4)) (se_int)) (se_int) (se_int)))) ?_
          exact sss_one (ss_nm (i := 0) sc__law_thawed.nd (se_op (op_gAdd) (se_slice (sv (i := 0)) (so_none) (so_some (se_op (op_gSub) (se_callB cr_gLen rfl T.no_len rfl (sa_cons (sv (i := 0)) (sa_nil))) (se_int)))) (se_if (st_cmp (op_gGt hu) (sv (i := 5)) (se_int)) (se_lst (sa_cons (se_tup (sa_cons (sv (i := 5)) (sa_cons (sv (i := 4)) (sa_nil)))) (sa_nil))) (se_lst (sa_nil)))))
        · exact sss_nil
      exact sss_forgets [2, 3, 4, 5]
  exact sss_one (ss_ret (sv (i := 0)))
noncomputable def F__law_thawed : Fn := cleanF f__law_thawed
theorem OK__law_thawed {B : Bx} {P : Program} {w : World} {base : Heap} (T : TX B base) : FnP B P w base 2 T.a__law_thawed T.fd__law_thawed ["rows", "degrees"] F__law_thawed := (ok__law_thawed T).clean
abbrev N__law_rest1 : List Str := ["dice", "cover", "at", "depths", "least", "runs", "k", "firm", "each", "quick", "end"]
theorem sc__law_rest1 : FnScope N__law_rest1 ["dice", "cover", "at"] (defScope s__law_rest1) := ⟨rfl, rfl, rfl, by decide +kernel, rfl, by decide +kernel, by decide +kernel⟩
abbrev S__law_rest1_0 : MS := mAsg (mFn gTup (mCons (mLc (mRg1 (mCons (mCall F__law_roll (mCons (mVar 0) (mCons (mC (.int 9)) (mNil)))) (mNil))) (tName 6) (mYes) (mCall F__law_roll (mCons (mVar 0) (mCons (mC (.int 12)) (mNil)))) [6]) (mCons (mBin gAdd (mC (.int 1)) (mCall F__law_roll (mCons (mVar 0) (mCons (mC (.int 10)) (mNil))))) (mCons (mLstM (mNil)) (mNil))))) (tTupT 3 (tMore (tName 3) (tMore (tName 4) (tMore (tName 5) (tNone)))))
abbrev S__law_rest1_1 : MS := mExprS (mBM tyL gAppend (mVar 5) (mCons (mFn gTup (mCons (mVar 6) (mCons (mBin gSub (mFn gMin (mCons (mLc (mRg2 (mCons (mVar 6) (mCons (mBin gAdd (mFn gLen (mCons (mVar 3) (mNil))) (mC (.int 1))) (mNil)))) (tName 10) (mOr (mTest (mBin (gEq false) (mVar 10) (mFn gLen (mCons (mVar 3) (mNil))))) (mTest (mBin gLt (mBin gIx (mVar 3) (mVar 10)) (mVar 4)))) (mVar 10) [10]) (mNil))) (mVar 6)) (mNil)))) (mNil)))
abbrev S__law_rest1_2 : MS := mIfS (mAnd (mTest (mBin gGe (mBin gIx (mVar 3) (mVar 6)) (mVar 4))) (mOr (mTest (mBin (gEq false) (mVar 6) (mC (.int 0)))) (mTest (mBin gLt (mBin gIx (mVar 3) (mBin gSub (mVar 6) (mC (.int 1)))) (mVar 4))))) (S__law_rest1_1) (mSkip)
abbrev B__law_rest1_3 : MS := mSeq (S__law_rest1_2) (mForget [6])
abbrev S__law_rest1_4 : MS := mFor (mRg1 (mCons (mFn gLen (mCons (mVar 3) (mNil))) (mNil))) (tName 6) (B__law_rest1_3)
abbrev S__law_rest1_5 : MS := mIfS (mTest (mBin (gEq true) (mFn gList (mCons (mCall F_lay_days (mCons (mVar 3) (mCons (mVar 4) (mNil)))) (mNil))) (mVar 5))) (mRet (mC (.bl false))) (mSkip)
abbrev S__law_rest1_6 : MS := mIfS (mTest (mBin (gEq true) (mTold cl_told (mCall F_deepest_day (mCons (mVar 3) (mNil)))) (mIf (mTest (mBin (gEq true) (mVar 3) (mFn gLst (mNil)))) (mFn gTup (mCons (mBM tyL gIndex (mVar 3) (mCons (mFn gMax (mCons (mVar 3) (mNil))) (mNil))) (mCons (mFn gMax (mCons (mVar 3) (mNil))) (mNil)))) (mC (.str "no way"))))) (mRet (mC (.bl false))) (mSkip)
abbrev S__law_rest1_7 : MS := mAsg (mFn gTup (mCons (mBin gAdd (mC (.int 1)) (mCall F__law_roll (mCons (mVar 0) (mCons (mC (.int 5)) (mNil))))) (mCons (mCall F__law_roll (mCons (mVar 0) (mCons (mC (.int 6)) (mNil)))) (mNil)))) (tTupT 2 (tMore (tName 7) (tMore (tName 8) (tNone))))
abbrev S__law_rest1_8 : MS := mAsg (mBin gMul (mVar 8) (mBin gAdd (mC (.int 1)) (mFn gInt (mCons (mBin (gEq false) (mVar 7) (mC (.int 1))) (mNil))))) (tName 9)
abbrev S__law_rest1_9 : MS := mIfS (mTest (mBin (gEq true) (mTold cl_told (mCall F_melt_days (mCons (mVar 2) (mCons (mVar 7) (mCons (mVar 8) (mNil)))))) (mIf (mTest (mBin gGt (mVar 8) (mC (.int 0)))) (mFn gLen (mCons (mFn (gRg .lst) (mCons (mC (.int 0)) (mCons (mVar 2) (mCons (mVar 9) (mNil))))) (mNil))) (mC (.str "no way"))))) (mRet (mC (.bl false))) (mSkip)
abbrev S__law_rest1_10 : MS := mIfS (mTest (mBin (gEq true) (mTold cl_told (mMakeF "Cover" I_Cover (mCons (mFn gLst (mCons (mFn gTup (mCons (mC (.int 0)) (mCons (mC (.int 1)) (mNil)))) (mNil))) (mNil)))) (mC (.str "plan")))) (mRet (mC (.bl false))) (mSkip)
abbrev S__law_rest1_11 : MS := mIfS (mTest (mBin (gEq true) (mTold cl_told (mMeth "Cover" "thawed" F_Cover_thawed (mVar 1) (mCons (mBin gSub (mC (.int 0)) (mC (.int 1))) (mNil)))) (mC (.str "size")))) (mRet (mC (.bl false))) (mSkip)
abbrev S__law_rest1_12 : MS := mIfS (mTest (mBin (gEq true) (mTold cl_told (mMeth "Cover" "layer_at" F_Cover_layer_at (mVar 1) (mCons (mBin gSub (mC (.int 0)) (mC (.int 1))) (mNil)))) (mC (.str "size")))) (mRet (mC (.bl false))) (mSkip)
abbrev S__law_rest1_13 : MS := mIfS (mTest (mBin (gEq true) (mTold cl_told (mCall F_melt_days (mCons (mBin gSub (mC (.int 0)) (mC (.int 1))) (mCons (mC (.int 1)) (mCons (mC (.int 1)) (mNil)))))) (mC (.str "size")))) (mRet (mC (.bl false))) (mSkip)
def m__law_rest1 : MS := mSeq (S__law_rest1_0) (mSeq (mForget [6]) (mSeq (S__law_rest1_4) (mSeq (S__law_rest1_5) (mSeq (S__law_rest1_6) (mSeq (S__law_rest1_7) (mSeq (S__law_rest1_8) (mSeq (S__law_rest1_9) (mSeq (S__law_rest1_10) (mSeq (S__law_rest1_11) (mSeq (S__law_rest1_12) (mSeq (S__law_rest1_13) (mRet (mC (.bl true))))))))))))))
def f__law_rest1 : Fn := defSem 11 3 m__law_rest1
theorem ok__law_rest1 {B : Bx} {P : Program} {w : World} {base : Heap} (T : TX B base) : FnP B P w base 7 T.a__law_rest1 T.fd__law_rest1 ["dice", "cover", "at"] f__law_rest1 := by
  refine fn_bodyC T.fu__law_rest1 sc__law_rest1 fun A outer s H E hr => ?_
  have hu := hu_of64 hr
  refine sss_cons (ss_asg (se_tup (sa_cons (se_lc rfl sc__law_rest1.nd (own := [("k", 6)]) (blkOk_by (by rfl)) (si_range1 rfl T.no_range (sa_cons (se_call (OK__law_roll T) (hr.mono (by decide)) rfl T.mg__law_roll T.fu__law_roll.kp T.bi__law_roll takesB (sa_cons (sv (i := 0)) (sa_cons (se_int) (sa_nil)))) (sa_nil))) (fun _ _ _ _ _ => sg_nm (i := 6) sc__law_rest1.nd) (fun _ _ _ _ _ => sts_nil) (fun _ _ _ _ _ => se_call (OK__law_roll T) (hr.mono (by decide)) rfl T.mg__law_roll T.fu__law_roll.kp T.bi__law_roll tk0 (sa_cons (sv (i := 0)) (sa_cons (se_int) (sa_nil)))) (by decide)) (sa_cons (se_op (op_gAdd) (se_int) (se_call (OK__law_roll T) (hr.mono (by decide)) rfl T.mg__law_roll T.fu__law_roll.kp T.bi__law_roll takesB (sa_cons (sv (i := 0)) (sa_cons (se_int) (sa_nil))))) (sa_cons (se_lstM (sa_nil)) (sa_nil))))) (sg_tup rfl (sgs_cons (sg_nm (i := 3) sc__law_rest1.nd) (sgs_cons (sg_nm (i := 4) sc__law_rest1.nd) (sgs_cons (sg_nm (i := 5) sc__law_rest1.nd) (sgs_nil)))))) ?_
  refine sss_forget [6] ?_
  refine sss_cons ?_ ?_
  · refine ss_for passB rfl (si_range1 rfl T.no_range (sa_cons (se_callB cr_gLen rfl T.no_len rfl (sa_cons (sv (i := 3)) (sa_nil))) (sa_nil))) (sg_nm (i := 6) sc__law_rest1.nd) ?_
    · refine sss_cons ?_ ?_
      · refine ss_if (st_w (sw_and (st_cmp (op_gGe hu) (se_ix hu (sv (i := 3)) (sv (i := 6))) (sv (i := 4))) (sw_and1 (st_w (sw_or (st_cmp (op_gEq hu) (sv (i := 6)) (se_int)) (sw_or1 (st_cmp (op_gLt hu) (se_ix hu (sv (i := 3)) (se_op (op_gSub) (sv (i := 6)) (se_int))) (sv (i := 4))))))))) ?_ ?_
        · exact sss_one (ss_expr (se_bm ty_list PySem.F.plainAttrs_list PySem.F.slot_list_append PySem.F.type_list_append mt_gAppend (sv (i := 5)) (sa_cons (se_tup (sa_cons (sv (i := 6)) (sa_cons (se_op (op_gSub) (se_callB (cr_gMin rfl hu) rfl T.no_min rfl (sa_cons (se_lc rfl sc__law_rest1.nd (own := [("end", 10)]) (blkOk_by (by rfl)) (si_range2 rfl T.no_range (sa_cons (sv (i := 6)) (sa_cons (se_op (op_gAdd) (se_callB cr_gLen rfl T.no_len rfl (sa_cons (sv (i := 3)) (sa_nil))) (se_int)) (sa_nil)))) (fun _ _ _ _ _ => sg_nm (i := 10) sc__law_rest1.nd) (fun _ _ _ _ _ => sts_one (st_w (sw_or (st_cmp (op_gEq hu) (sv (i := 10)) (se_callB cr_gLen rfl T.no_len rfl (sa_cons (sv (i := 3)) (sa_nil)))) (sw_or1 (st_cmp (op_gLt hu) (se_ix hu (sv (i := 3)) (sv (i := 10))) (sv (i := 4))))))) (fun _ _ _ _ _ => sv (i := 10)) (by decide)) (sa_nil))) (sv (i := 6))) (sa_nil)))) (sa_nil))))
        · exact sss_nil
      exact sss_forgets [6]
  refine sss_cons ?_ ?_
  · refine ss_if (st_cmp (op_gNe hu) (se_callTy cr_gList rfl T.no_list rfl (sa_cons (se_call (OK_lay_days T) (hr.mono (by decide)) rfl T.mg_lay_days T.fu_lay_days.kp T.bi_lay_days takesB (sa_cons (sv (i := 3)) (sa_cons (sv (i := 4)) (sa_nil)))) (sa_nil))) (sv (i := 5))) ?_ ?_
    · exact sss_one (ss_ret (se_bl))
    · exact sss_nil
  refine sss_cons ?_ ?_
  · refine ss_if (st_cmp (op_gNe hu) (se_toldX (k := 2) T.told T.fu__law_told T.mg__law_told T.bi__law_told sc__law_told rfl (.inl rfl) (told_gives T rfl rfl) rfl T.tb__law_rest1 rfl T.tm__law_rest1 T.tu__law_rest1 (hr.mono (by decide)) (LamX.lamS_by (by rfl)) (fun A outer s H E f c' hr => have hu := hu_of64 hr; se_call (OK_deepest_day T) (hr.mono (by decide)) rfl T.mg_deepest_day T.fu_deepest_day.kp T.bi_deepest_day tkL (sa_cons (sv (i := 3)) (sa_nil))) (fun _ _ _ _ _ => rfl) rfl) (se_if (st_cmp (op_gNe hu) (sv (i := 3)) (se_lst (sa_nil))) (se_tup (sa_cons (se_bm ty_list PySem.F.plainAttrs_list PySem.F.slot_list_index PySem.F.type_list_index (mt_gIndex (hu_of65 hr)) (sv (i := 3)) (sa_cons (se_callB (cr_gMax rfl hu) rfl T.no_max rfl (sa_cons (sv (i := 3)) (sa_nil))) (sa_nil))) (sa_cons (se_callB (cr_gMax rfl hu) rfl T.no_max rfl (sa_cons (sv (i := 3)) (sa_nil))) (sa_nil)))) (se_str))) ?_ ?_
    · exact sss_one (ss_ret (se_bl))
    · exact sss_nil
  refine sss_cons (ss_asg (se_tup (sa_cons (se_op (op_gAdd) (se_int) (se_call (OK__law_roll T) (hr.mono (by decide)) rfl T.mg__law_roll T.fu__law_roll.kp T.bi__law_roll takesB (sa_cons (sv (i := 0)) (sa_cons (se_int) (sa_nil))))) (sa_cons (se_call (OK__law_roll T) (hr.mono (by decide)) rfl T.mg__law_roll T.fu__law_roll.kp T.bi__law_roll takesB (sa_cons (sv (i := 0)) (sa_cons (se_int) (sa_nil)))) (sa_nil)))) (sg_tup rfl (sgs_cons (sg_nm (i := 7) sc__law_rest1.nd) (sgs_cons (sg_nm (i := 8) sc__law_rest1.nd) (sgs_nil))))) ?_
  refine sss_cons (ss_nm (i := 9) sc__law_rest1.nd (se_op (op_gMul) (sv (i := 8)) (se_op (op_gAdd) (se_int) (se_callTy cr_gInt rfl T.no_int rfl (sa_cons (se_cmp (op_gEq hu) (sv (i := 7)) (se_int)) (sa_nil)))))) ?_
  refine sss_cons ?_ ?_
  · refine ss_if (st_cmp (op_gNe hu) (se_toldX (k := 2) T.told T.fu__law_told T.mg__law_told T.bi__law_told sc__law_told rfl (.inl rfl) (told_gives T rfl rfl) rfl T.tb__law_rest1 rfl T.tm__law_rest1 T.tu__law_rest1 (hr.mono (by decide)) (LamX.lamS_by (by rfl)) (fun A outer s H E f c' hr => have hu := hu_of64 hr; se_call (OK_melt_days T) (hr.mono (by decide)) rfl T.mg_melt_days T.fu_melt_days.kp T.bi_melt_days tkL (sa_cons (sv (i := 2)) (sa_cons (sv (i := 7)) (sa_cons (sv (i := 8)) (sa_nil))))) (fun _ _ _ _ _ => rfl) rfl) (se_if (st_cmp (op_gGt hu) (sv (i := 8)) (se_int)) (se_callB cr_gLen rfl T.no_len rfl (sa_cons (se_listRg rfl rfl T.no_range rfl T.no_list (sa_cons (se_int) (sa_cons (sv (i := 2)) (sa_cons (sv (i := 9)) (sa_nil))))) (sa_nil))) (se_str))) ?_ ?_
    · exact sss_one (ss_ret (se_bl))
    · exact sss_nil
  refine sss_cons ?_ ?_
  · refine ss_if (st_cmp (op_gNe hu) (se_toldX (k := 3) T.told T.fu__law_told T.mg__law_told T.bi__law_told sc__law_told rfl (.inl rfl) (told_gives T rfl rfl) rfl T.tb__law_rest1 rfl T.tm__law_rest1 T.tu__law_rest1 (hr.mono (by decide)) (LamX.lamS_by (by rfl)) (fun A outer s H E f c' hr => have hu := hu_of64 hr; se_makeF IO_Cover T.mk_Cover T.mgc_Cover (OK_Cover_init T) (hr.mono (by decide)) rfl T.mgc_Cover T.bi_Cover_init tkL (sa_cons (se_lst (sa_cons (se_tup (sa_cons (se_int) (sa_cons (se_int) (sa_nil)))) (sa_nil))) (sa_nil))) (fun _ _ _ _ _ => rfl) rfl) (se_str)) ?_ ?_
    · exact sss_one (ss_ret (se_bl))
    · exact sss_nil
  refine sss_cons ?_ ?_
  · refine ss_if (st_cmp (op_gNe hu) (se_toldX (k := 4) T.told T.fu__law_told T.mg__law_told T.bi__law_told sc__law_told rfl (.inl rfl) (told_gives T rfl rfl) rfl T.tb__law_rest1 rfl T.tm__law_rest1 T.tu__law_rest1 (hr.mono (by decide)) (LamX.lamS_by (by rfl)) (fun A outer s H E f c' hr => have hu := hu_of64 hr; se_meth (sv (i := 1)) T.mgc_Cover (T.cls_Cover.cls _ T.mgc_Cover) T.me_Cover_thawed (OK_Cover_thawed T) (hr.mono (by decide)) T.bi_Cover_thawed tkL (sa_cons (se_op (op_gSub) (se_int) (se_int)) (sa_nil))) (fun _ _ _ _ _ => rfl) rfl) (se_str)) ?_ ?_
    · exact sss_one (ss_ret (se_bl))
    · exact sss_nil
  refine sss_cons ?_ ?_
  · refine ss_if (st_cmp (op_gNe hu) (se_toldX (k := 2) T.told T.fu__law_told T.mg__law_told T.bi__law_told sc__law_told rfl (.inl rfl) (told_gives T rfl rfl) rfl T.tb__law_rest1 rfl T.tm__law_rest1 T.tu__law_rest1 (hr.mono (by decide)) (LamX.lamS_by (by rfl)) (fun A outer s H E f c' hr => have hu := hu_of64 hr; se_meth (sv (i := 1)) T.mgc_Cover (T.cls_Cover.cls _ T.mgc_Cover) T.me_Cover_layer_at (OK_Cover_layer_at T) (hr.mono (by decide)) T.bi_Cover_layer_at tkL (sa_cons (se_op (op_gSub) (se_int) (se_int)) (sa_nil))) (fun _ _ _ _ _ => rfl) rfl) (se_str)) ?_ ?_
    · exact sss_one (ss_ret (se_bl))
    · exact sss_nil
  refine sss_cons ?_ ?_
  · refine ss_if (st_cmp (op_gNe hu) (se_toldX (k := 2) T.told T.fu__law_told T.mg__law_told T.bi__law_told sc__law_told rfl (.inl rfl) (told_gives T rfl rfl) rfl T.tb__law_rest1 rfl T.tm__law_rest1 T.tu__law_rest1 (hr.mono (by decide)) (LamX.lamS_by (by rfl)) (fun A outer s H E f c' hr => have hu := hu_of64 hr; se_call (OK_melt_days T) (hr.mono (by decide)) rfl T.mg_melt_days T.fu_melt_days.kp T.bi_melt_days tkL (sa_cons (se_op (op_gSub) (se_int) (se_int)) (sa_cons (se_int) (sa_cons (se_int) (sa_nil))))) (fun _ _ _ _ _ => rfl) rfl) (se_str)) ?_ ?_
    · exact sss_one (ss_ret (se_bl))
    · exact sss_nil
  exact sss_one (ss_ret (se_bl))
noncomputable def F__law_rest1 : Fn := cleanF f__law_rest1
theorem OK__law_rest1 {B : Bx} {P : Program} {w : World} {base : Heap} (T : TX B base) : FnP B P w base 7 T.a__law_rest1 T.fd__law_rest1 ["dice", "cover", "at"] F__law_rest1 := (ok__law_rest1 T).clean
abbrev N_law : List Str := ["script", "dice", "heat", "rows", "cover", "much", "degrees", "depth", "firm_ones", "above", "at", "over", "weak", "hours", "here", "k", "warm", "fall", "deep", "firm"]
theorem sc_law : FnScope N_law ["script"] (defScope s_law) := ⟨rfl, rfl, rfl, by decide +kernel, rfl, by decide +kernel, by decide +kernel⟩
abbrev S_law_0 : MS := mAsg (mBin gSub (mCall F__law_roll (mCons (mVar 1) (mCons (mC (.int 12)) (mNil)))) (mC (.int 8))) (tName 2)
abbrev S_law_1 : MS := mIfS (mTest (mBin (gEq true) (mCall F_sort_of (mCons (mVar 2) (mNil))) (mIf (mTest (mBin gGe (mVar 2) (mC (.int 3)))) (mC (.str "rain")) (mIf (mTest (mBin gGe (mVar 2) (mC (.int 1)))) (mC (.str "sleet")) (mIf (mTest (mBin gGe (mVar 2) (mBin gSub (mC (.int 0)) (mC (.int 3))))) (mC (.str "wet")) (mC (.str "dry"))))))) (mRet (mC (.bl false))) (mSkip)
abbrev S_law_2 : MS := mAsg (mLc (mRg1 (mCons (mCall F__law_roll (mCons (mVar 1) (mCons (mC (.int 5)) (mNil)))) (mNil))) (tName 15) (mYes) (mFn gTup (mCons (mBin gAdd (mC (.int 1)) (mCall F__law_roll (mCons (mVar 1) (mCons (mC (.int 20)) (mNil))))) (mCons (mBin gAdd (mC (.int 1)) (mCall F__law_roll (mCons (mVar 1) (mCons (mC (.int 5)) (mNil))))) (mNil)))) [15]) (tName 3)
abbrev S_law_3 : MS := mAsg (mFn gTup (mCons (mMakeF "Cover" I_Cover (mCons (mVar 3) (mNil))) (mCons (mCall F__law_roll (mCons (mVar 1) (mCons (mC (.int 20)) (mNil)))) (mCons (mCall F__law_roll (mCons (mVar 1) (mCons (mC (.int 30)) (mNil)))) (mNil))))) (tTupT 3 (tMore (tName 4) (tMore (tName 5) (tMore (tName 6) (tNone)))))
abbrev S_law_4 : MS := mAsg (mFn gSum (mCons (mLc (mSq (mVar 3)) (tTupT 2 (tMore (tName 18) (tMore (tName 19) (tNone)))) (mYes) (mVar 18) [18, 19]) (mNil))) (tName 7)
abbrev S_law_5 : MS := mIfS (mOr (mTest (mBin (gEq true) (mMeth "Cover" "key" F_Cover_key (mVar 4) mNil) (mFn gTuple (mCons (mVar 3) (mNil))))) (mOr (mTest (mBin (gEq true) (mMeth "Cover" "depth" F_Cover_depth (mVar 4) mNil) (mVar 7))) (mTest (mBin (gEq true) (mMeth "Cover" "water" F_Cover_water (mVar 4) mNil) (mFn gSum (mCons (mLc (mSq (mVar 3)) (tTupT 2 (tMore (tName 18) (tMore (tName 19) (tNone)))) (mYes) (mBin gDiv (mBin gMul (mVar 18) (mVar 19)) (mC (.int 10))) [18, 19]) (mNil))))))) (mRet (mC (.bl false))) (mSkip)
abbrev S_law_6 : MS := mIfS (mTest (mBin (gEq true) (mTold cl_told (mFn gList (mCons (mUn (gFld "Cover" "layers") (mMeth "Cover" "fallen" F_Cover_fallen (mVar 4) (mCons (mVar 5) (mNil)))) (mNil)))) (mIf (mTest (mBin gGt (mVar 5) (mC (.int 0)))) (mCall F__law_fallen (mCons (mVar 3) (mCons (mVar 5) (mNil)))) (mC (.str "size"))))) (mRet (mC (.bl false))) (mSkip)
abbrev S_law_7 : MS := mIfS (mTest (mBin (gEq true) (mFn gList (mCons (mUn (gFld "Cover" "layers") (mMeth "Cover" "settled" F_Cover_settled (mVar 4) mNil)) (mNil))) (mCall F__law_settled (mCons (mVar 3) (mNil))))) (mRet (mC (.bl false))) (mSkip)
abbrev S_law_8 : MS := mIfS (mTest (mBin (gEq true) (mFn gList (mCons (mUn (gFld "Cover" "layers") (mMeth "Cover" "thawed" F_Cover_thawed (mVar 4) (mCons (mVar 6) (mNil)))) (mNil))) (mCall F__law_thawed (mCons (mVar 3) (mCons (mVar 6) (mNil)))))) (mRet (mC (.bl false))) (mSkip)
abbrev S_law_9 : MS := mAsg (mLc (mRg1 (mCons (mFn gLen (mCons (mVar 3) (mNil))) (mNil))) (tName 15) (mTest (mBin gGt (mBin gIx (mBin gIx (mVar 3) (mVar 15)) (mC (.int 1))) (mC (.int 2)))) (mVar 15) [15]) (tName 8)
abbrev S_law_10 : MS := mAsg (mIf (mTest (mBin (gEq true) (mVar 8) (mFn gLst (mNil)))) (mSl (mVar 3) (mPart (mBin gAdd (mFn gMax (mCons (mVar 8) (mNil))) (mC (.int 1)))) (mNoPart)) (mVar 3)) (tName 9)
abbrev S_law_11 : MS := mIfS (mTest (mBin (gEq true) (mMeth "Cover" "sinks" F_Cover_sinks (mVar 4) mNil) (mFn gSum (mCons (mLc (mSq (mVar 9)) (tTupT 2 (tMore (tName 18) (tMore (tName 19) (tNone)))) (mYes) (mVar 18) [18, 19]) (mNil))))) (mRet (mC (.bl false))) (mSkip)
abbrev S_law_12 : MS := mAsg (mCall F__law_roll (mCons (mVar 1) (mCons (mC (.int 60)) (mNil)))) (tName 10)
abbrev S_law_13 : MS := mAsg (mLc (mRg1 (mCons (mFn gLen (mCons (mVar 3) (mNil))) (mNil))) (tName 15) (mTest (mChain gLe gLt (mFn gSum (mCons (mLc (mSq (mSl (mVar 3) (mPart (mBin gAdd (mVar 15) (mC (.int 1)))) (mNoPart))) (tTupT 2 (tMore (tName 18) (tMore (tName 19) (tNone)))) (mYes) (mVar 18) [18, 19]) (mNil))) (mVar 10) (mFn gSum (mCons (mLc (mSq (mSl (mVar 3) (mPart (mVar 15)) (mNoPart))) (tTupT 2 (tMore (tName 18) (tMore (tName 19) (tNone)))) (mYes) (mVar 18) [18, 19]) (mNil))))) (mVar 15) [15]) (tName 11)
abbrev S_law_14 : MS := mIfS (mTest (mBin (gEq true) (mTold cl_told (mMeth "Cover" "layer_at" F_Cover_layer_at (mVar 4) (mCons (mVar 10) (mNil)))) (mIf (mTest (mBin (gEq true) (mVar 11) (mFn gLst (mNil)))) (mBin gIx (mVar 11) (mC (.int 0))) (mC (.str "no such"))))) (mRet (mC (.bl false))) (mSkip)
abbrev S_law_15 : MS := mAsg (mLc (mRg2 (mCons (mC (.int 1)) (mCons (mFn gLen (mCons (mVar 3) (mNil))) (mNil)))) (tName 15) (mTest (mBin gGe (mBin gSub (mBin gIx (mBin gIx (mVar 3) (mBin gSub (mVar 15) (mC (.int 1)))) (mC (.int 1))) (mBin gIx (mBin gIx (mVar 3) (mVar 15)) (mC (.int 1)))) (mC (.int 2)))) (mVar 15) [15]) (tName 12)
abbrev S_law_16 : MS := mIfS (mTest (mBin (gEq true) (mTold cl_told (mMeth "Cover" "weakest" F_Cover_weakest (mVar 4) mNil)) (mIf (mTest (mBin (gEq true) (mVar 12) (mFn gLst (mNil)))) (mBin gIx (mVar 12) (mC (.int 0))) (mC (.str "no way"))))) (mRet (mC (.bl false))) (mSkip)
abbrev S_law_17 : MS := mPar 13 14 (mCons (mLc (mRg1 (mCons (mCall F__law_roll (mCons (mVar 1) (mCons (mC (.int 10)) (mNil)))) (mNil))) (tName 15) (mYes) (mFn gTup (mCons (mBin gSub (mCall F__law_roll (mCons (mVar 1) (mCons (mC (.int 12)) (mNil)))) (mC (.int 8))) (mCons (mCall F__law_roll (mCons (mVar 1) (mCons (mC (.int 9)) (mNil)))) (mNil)))) [15]) (mCons (mVar 3) (mNil)))
abbrev S_law_18 : MS := mAsg (mBin gIx (mVar 13) (mVar 15)) (tTupT 2 (tMore (tName 16) (tMore (tName 17) (tNone))))
abbrev S_law_19 : MS := mAsg (mIf (mTest (mBin gGt (mVar 16) (mC (.int 0)))) (mCall F__law_thawed (mCons (mVar 14) (mCons (mVar 16) (mNil)))) (mIf (mTest (mBin gGt (mVar 17) (mC (.int 0)))) (mCall F__law_fallen (mCons (mVar 14) (mCons (mVar 17) (mNil)))) (mVar 14))) (tName 14)
abbrev S_law_20 : MS := mAsg (mIf (mTest (mBin (gEq false) (mBin gMod (mVar 15) (mC (.int 8))) (mC (.int 7)))) (mCall F__law_settled (mCons (mVar 14) (mNil))) (mVar 14)) (tName 14)
abbrev B_law_21 : MS := mSeq (S_law_18) (mSeq (S_law_19) (mSeq (S_law_20) (mForget [15, 16, 17])))
abbrev S_law_22 : MS := mFor (mRg1 (mCons (mFn gLen (mCons (mVar 13) (mNil))) (mNil))) (tName 15) (B_law_21)
abbrev S_law_23 : MS := mIfS (mTest (mBin (gEq true) (mFn gList (mCons (mUn (gFld "Cover" "layers") (mCall F_weathered (mCons (mVar 4) (mCons (mVar 13) (mNil))))) (mNil))) (mVar 14))) (mRet (mC (.bl false))) (mSkip)
abbrev S_law_24 : MS := mIfS (mNot (mTest (mCall F__law_rest1 (mCons (mVar 1) (mCons (mVar 4) (mCons (mVar 10) (mNil))))))) (mRet (mC (.bl false))) (mSkip)
abbrev B_law_25 : MS := mSeq (S_law_0) (mSeq (S_law_1) (mSeq (S_law_2) (mSeq (S_law_3) (mSeq (S_law_4) (mSeq (S_law_5) (mSeq (S_law_6) (mSeq (S_law_7) (mSeq (S_law_8) (mSeq (S_law_9) (mSeq (S_law_10) (mSeq (S_law_11) (mSeq (S_law_12) (mSeq (S_law_13) (mSeq (S_law_14) (mSeq (S_law_15) (mSeq (S_law_16) (mSeq (S_law_17) (mSeq (mForget [15, 16, 17]) (mSeq (S_law_22) (mSeq (S_law_23) (mSeq (S_law_24) (mForget [1, 2, 3, 4, 5, 6, 7, 8, 9, 10, 11, 12, 13, 14, 15, 16, 17]))))))))))))))))))))))
abbrev S_law_26 : MS := mFor (mSq (mCall F__law_rounds (mCons (mVar 0) (mCons (mC (.int 1)) (mNil))))) (tName 1) (B_law_25)
def m_law : MS := mSeq (mForget [1, 2, 3, 4, 5, 6, 7, 8, 9, 10, 11, 12, 13, 14, 15, 16, 17]) (mSeq (S_law_26) (mRet (mC (.bl true))))
def f_law : Fn := defSem 20 1 m_law
theorem ok_law {B : Bx} {P : Program} {w : World} {base : Heap} (T : TX B base) : FnP B P w base 8 T.a_law T.fd_law ["script"] f_law := by
  refine fn_bodyC T.fu_law sc_law fun A outer s H E hr => ?_
  have hu := hu_of64 hr
  refine sss_forget [1, 2, 3, 4, 5, 6, 7, 8, 9, 10, 11, 12, 13, 14, 15, 16, 17] ?_
  refine sss_cons ?_ ?_
  · refine ss_for passB rfl (si_list (se_call (OK__law_rounds T) (hr.mono (by decide)) rfl T.mg__law_rounds T.fu__law_rounds.kp T.bi__law_rounds takesB (sa_cons (sv (i := 0)) (sa_cons (se_int) (sa_nil))))) (sg_nm (i := 1) sc_law.nd) ?_
    · refine sss_cons (ss_nm (i := 2) sc_law.nd (se_op (op_gSub) (se_call (OK__law_roll T) (hr.mono (by decide)) rfl T.mg__law_roll T.fu__law_roll.kp T.bi__law_roll takesB (sa_cons (sv (i := 1)) (sa_cons (se_int) (sa_nil)))) (se_int))) ?_
      refine sss_cons ?_ ?_
      · refine ss_if (st_cmp (op_gNe hu) (se_call (OK_sort_of T) (hr.mono (by decide)) rfl T.mg_sort_of T.fu_sort_of.kp T.bi_sort_of takesB (sa_cons (sv (i := 2)) (sa_nil))) (se_if (st_cmp (op_gGe hu) (sv (i := 2)) (se_int)) (se_str) (se_if (st_cmp (op_gGe hu) (sv (i := 2)) (se_int)) (se_str) (se_if (st_cmp (op_gGe hu) (sv (i := 2)) (se_op (op_gSub) (se_int) (se_int))) (se_str) (se_str))))) ?_ ?_
        · exact sss_one (ss_ret (se_bl))
        · exact sss_nil
      refine sss_cons (ss_nm (i := 3) sc_law.nd (se_lc rfl sc_law.nd (own := [("k", 15)]) (blkOk_by (by rfl)) (si_range1 rfl T.no_range (sa_cons (se_call (OK__law_roll T) (hr.mono (by decide)) rfl T.mg__law_roll T.fu__law_roll.kp T.bi__law_roll takesB (sa_cons (sv (i := 1)) (sa_cons (se_int) (sa_nil)))) (sa_nil))) (fun _ _ _ _ _ => sg_nm (i := 15) sc_law.nd) (fun _ _ _ _ _ => sts_nil) (fun _ _ _ _ _ => se_tup (sa_cons (se_op (op_gAdd) (se_int) (se_call (OK__law_roll T) (hr.mono (by decide)) rfl T.mg__law_roll T.fu__law_roll.kp T.bi__law_roll tk0 (sa_cons (sv (i := 1)) (sa_cons (se_int) (sa_nil))))) (sa_cons (se_op (op_gAdd) (se_int) (se_call (OK__law_roll T) (hr.mono (by decide)) rfl T.mg__law_roll T.fu__law_roll.kp T.bi__law_roll tk0 (sa_cons (sv (i := 1)) (sa_cons (se_int) (sa_nil))))) (sa_nil)))) (by decide))) ?_
      refine sss_cons (ss_asg (se_tup (sa_cons (se_makeF IO_Cover T.mk_Cover T.mgc_Cover (OK_Cover_init T) (hr.mono (by decide)) rfl T.mgc_Cover T.bi_Cover_init takesB (sa_cons (sv (i := 3)) (sa_nil))) (sa_cons (se_call (OK__law_roll T) (hr.mono (by decide)) rfl T.mg__law_roll T.fu__law_roll.kp T.bi__law_roll takesB (sa_cons (sv (i := 1)) (sa_cons (se_int) (sa_nil)))) (sa_cons (se_call (OK__law_roll T) (hr.mono (by decide)) rfl T.mg__law_roll T.fu__law_roll.kp T.bi__law_roll takesB (sa_cons (sv (i := 1)) (sa_cons (se_int) (sa_nil)))) (sa_nil))))) (sg_tup rfl (sgs_cons (sg_nm (i := 4) sc_law.nd) (sgs_cons (sg_nm (i := 5) sc_law.nd) (sgs_cons (sg_nm (i := 6) sc_law.nd) (sgs_nil)))))) ?_
      refine sss_cons (ss_nm (i := 7) sc_law.nd (se_callB (cr_gSum rfl) rfl T.no_sum rfl (sa_cons (se_lc rfl sc_law.nd (own := [("deep", 18), ("firm", 19)]) (blkOk_by (by rfl)) (si_list (sv (i := 3))) (fun _ _ _ _ _ => sg_tup rfl (sgs_cons (sg_nm (i := 18) sc_law.nd) (sgs_cons (sg_nm (i := 19) sc_law.nd) (sgs_nil)))) (fun _ _ _ _ _ => sts_nil) (fun _ _ _ _ _ => sv (i := 18)) (by decide)) (sa_nil)))) ?_
      refine sss_cons ?_ ?_
      · refine ss_if (st_w (sw_or (st_cmp (op_gNe hu) (se_meth0 (sv (i := 4)) T.mgc_Cover (T.cls_Cover.cls _ T.mgc_Cover) T.me_Cover_key (OK_Cover_key T) (hr.mono (by decide)) T.bi_Cover_key takesB) (se_callTy cr_gTuple rfl T.no_tuple rfl (sa_cons (sv (i := 3)) (sa_nil)))) (sw_or (st_cmp (op_gNe hu) (se_meth0 (sv (i := 4)) T.mgc_Cover (T.cls_Cover.cls _ T.mgc_Cover) T.me_Cover_depth (OK_Cover_depth T) (hr.mono (by decide)) T.bi_Cover_depth takesB) (sv (i := 7))) (sw_or1 (st_cmp (op_gNe hu) (se_meth0 (sv (i := 4)) T.mgc_Cover (T.cls_Cover.cls _ T.mgc_Cover) T.me_Cover_water (OK_Cover_water T) (hr.mono (by decide)) T.bi_Cover_water takesB) (se_callB (cr_gSum rfl) rfl T.no_sum rfl (sa_cons (se_lc rfl sc_law.nd (own := [("deep", 18), ("firm", 19)]) (blkOk_by (by rfl)) (si_list (sv (i := 3))) (fun _ _ _ _ _ => sg_tup rfl (sgs_cons (sg_nm (i := 18) sc_law.nd) (sgs_cons (sg_nm (i := 19) sc_law.nd) (sgs_nil)))) (fun _ _ _ _ _ => sts_nil) (fun _ _ _ _ _ => se_op (op_gDiv) (se_op (op_gMul) (sv (i := 18)) (sv (i := 19))) (se_int)) (by decide)) (sa_nil)))))))) ?_ ?_
        · exact sss_one (ss_ret (se_bl))
        · exact sss_nil
      refine sss_cons ?_ ?_
      · refine ss_if (st_cmp (op_gNe hu) (se_toldX (k := 4) T.told T.fu__law_told T.mg__law_told T.bi__law_told sc__law_told rfl (.inl rfl) (told_gives T rfl rfl) rfl T.tb_law rfl T.tm_law T.tu_law (hr.mono (by decide)) (LamX.lamS_by (by rfl)) (fun A outer s H E f c' hr => have hu := hu_of64 hr; se_callTy cr_gList rfl T.no_list rfl (sa_cons (se_fld T.cls_Cover (by simp) (se_meth (sv (i := 4)) T.mgc_Cover (T.cls_Cover.cls _ T.mgc_Cover) T.me_Cover_fallen (OK_Cover_fallen T) (hr.mono (by decide)) T.bi_Cover_fallen tkL (sa_cons (sv (i := 5)) (sa_nil)))) (sa_nil))) (fun _ _ _ _ _ => rfl) rfl) (se_if (st_cmp (op_gGt hu) (sv (i := 5)) (se_int)) (se_call (OK__law_fallen T) (hr.mono (by decide)) rfl T.mg__law_fallen T.fu__law_fallen.kp T.bi__law_fallen takesB (sa_cons (sv (i := 3)) (sa_cons (sv (i := 5)) (sa_nil)))) (se_str))) ?_ ?_
        · exact sss_one (ss_ret (se_bl))
        · exact sss_nil
      refine sss_cons ?_ ?_
      · refine ss_if (st_cmp (op_gNe hu) (se_callTy cr_gList rfl T.no_list rfl (sa_cons (se_fld T.cls_Cover (by simp) (se_meth0 (sv (i := 4)) T.mgc_Cover (T.cls_Cover.cls _ T.mgc_Cover) T.me_Cover_settled (OK_Cover_settled T) (hr.mono (by decide)) T.bi_Cover_settled takesB)) (sa_nil))) (se_call (OK__law_settled T) (hr.mono (by decide)) rfl T.mg__law_settled T.fu__law_settled.kp T.bi__law_settled takesB (sa_cons (sv (i := 3)) (sa_nil)))) ?_ ?_
        · exact sss_one (ss_ret (se_bl))
        · exact sss_nil
      refine sss_cons ?_ ?_
      · refine ss_if (st_cmp (op_gNe hu) (se_callTy cr_gList rfl T.no_list rfl (sa_cons (se_fld T.cls_Cover (by simp) (se_meth (sv (i := 4)) T.mgc_Cover (T.cls_Cover.cls _ T.mgc_Cover) T.me_Cover_thawed (OK_Cover_thawed T) (hr.mono (by decide)) T.bi_Cover_thawed takesB (sa_cons (sv (i := 6)) (sa_nil)))) (sa_nil))) (se_call (OK__law_thawed T) (hr.mono (by decide)) rfl T.mg__law_thawed T.fu__law_thawed.kp T.bi__law_thawed takesB (sa_cons (sv (i := 3)) (sa_cons (sv (i := 6)) (sa_nil))))) ?_ ?_
        · exact sss_one (ss_ret (se_bl))
        · exact sss_nil
      refine sss_cons (ss_setLc (i := 8) rfl sc_law.nd rfl rfl (own := [("k", 15)]) (blkOk_by (by rfl)) (si_range1 rfl T.no_range (sa_cons (se_callB cr_gLen rfl T.no_len rfl (sa_cons (sv (i := 3)) (sa_nil))) (sa_nil))) (fun _ _ _ _ _ => sg_nm (i := 15) sc_law.nd) (fun _ _ _ _ _ => sts_one (st_cmp (op_gGt hu) (se_ix hu (se_ix hu (sv (i := 3)) (sv (i := 15))) (se_int)) (se_int))) (fun _ _ _ _ _ => sv (i := 15)) (by decide) rfl) ?_
      refine sss_cons (ss_nm (i := 9) sc_law.nd (se_if (st_cmp (op_gNe hu) (sv (i := 8)) (se_lst (sa_nil))) (se_slice (sv (i := 3)) (so_some (se_op (op_gAdd) (se_callB (cr_gMax rfl hu) rfl T.no_max rfl (sa_cons (sv (i := 8)) (sa_nil))) (se_int))) (so_none)) (sv (i := 3)))) ?_
      refine sss_cons ?_ ?_
      · refine ss_if (st_cmp (op_gNe hu) (se_meth0 (sv (i := 4)) T.mgc_Cover (T.cls_Cover.cls _ T.mgc_Cover) T.me_Cover_sinks (OK_Cover_sinks T) (hr.mono (by decide)) T.bi_Cover_sinks takesB) (se_callB (cr_gSum rfl) rfl T.no_sum rfl (sa_cons (se_lc rfl sc_law.nd (own := [("deep", 18), ("firm", 19)]) (blkOk_by (by rfl)) (si_list (sv (i := 9))) (fun _ _ _ _ _ => sg_tup rfl (sgs_cons (sg_nm (i := 18) sc_law.nd) (sgs_cons (sg_nm (i := 19) sc_law.nd) (sgs_nil)))) (fun _ _ _ _ _ => sts_nil) (fun _ _ _ _ _ => sv (i := 18)) (by decide)) (sa_nil)))) ?_ ?_
        · exact sss_one (ss_ret (se_bl))
        · exact sss_nil
      refine sss_cons (ss_nm (i := 10) sc_law.nd (se_call (OK__law_roll T) (hr.mono (by decide)) rfl T.mg__law_roll T.fu__law_roll.kp T.bi__law_roll takesB (sa_cons (sv (i := 1)) (sa_cons (se_int) (sa_nil))))) ?_
      refine sss_cons (ss_setLc (i := 11) rfl sc_law.nd rfl rfl (own := [("k", 15)]) (blkOk_by (by rfl)) (si_range1 rfl T.no_range (sa_cons (se_callB cr_gLen rfl T.no_len rfl (sa_cons (sv (i := 3)) (sa_nil))) (sa_nil))) (fun _ _ _ _ _ => sg_nm (i := 15) sc_law.nd) (fun _ _ _ _ _ => sts_one (st_chain (op_gLe hu) (op_gLt hu) (se_callB (cr_gSum rfl) rfl T.no_sum rfl (sa_cons (se_lc rfl sc_law.nd (own := [("deep", 18), ("firm", 19)]) (blkOk_by (by rfl)) (si_list (se_slice (sv (i := 3)) (so_some (se_op (op_gAdd) (sv (i := 15)) (se_int))) (so_none))) (fun _ _ _ _ _ => sg_tup rfl (sgs_cons (sg_nm (i := 18) sc_law.nd) (sgs_cons (sg_nm (i := 19) sc_law.nd) (sgs_nil)))) (fun _ _ _ _ _ => sts_nil) (fun _ _ _ _ _ => sv (i := 18)) (by decide)) (sa_nil))) (sv (i := 10)) (se_callB (cr_gSum rfl) rfl T.no_sum rfl (sa_cons (se_lc rfl sc_law.nd (own := [("deep", 18), ("firm", 19)]) (blkOk_by (by rfl)) (si_list (se_slice (sv (i := 3)) (so_some (sv (i := 15))) (so_none))) (fun _ _ _ _ _ => sg_tup rfl (sgs_cons (sg_nm (i := 18) sc_law.nd) (sgs_cons (sg_nm (i := 19) sc_law.nd) (sgs_nil)))) (fun _ _ _ _ _ => sts_nil) (fun _ _ _ _ _ => sv (i := 18)) (by decide)) (sa_nil))))) (fun _ _ _ _ _ => sv (i := 15)) (by decide) rfl) ?_
      refine sss_cons ?_ ?_
      · refine ss_if (st_cmp (op_gNe hu) (se_toldX (k := 2) T.told T.fu__law_told T.mg__law_told T.bi__law_told sc__law_told rfl (.inl rfl) (told_gives T rfl rfl) rfl T.tb_law rfl T.tm_law T.tu_law (hr.mono (by decide)) (LamX.lamS_by (by rfl)) (fun A outer s H E f c' hr => have hu := hu_of64 hr; se_meth (sv (i := 4)) T.mgc_Cover (T.cls_Cover.cls _ T.mgc_Cover) T.me_Cover_layer_at (OK_Cover_layer_at T) (hr.mono (by decide)) T.bi_Cover_layer_at tkL (sa_cons (sv (i := 10)) (sa_nil))) (fun _ _ _ _ _ => rfl) rfl) (se_if (st_cmp (op_gNe hu) (sv (i := 11)) (se_lst (sa_nil))) (se_ix hu (sv (i := 11)) (se_int)) (se_str))) ?_ ?_
        · exact sss_one (ss_ret (se_bl))
        · exact sss_nil
      refine sss_cons (ss_setLc (i := 12) rfl sc_law.nd rfl rfl (own := [("k", 15)]) (blkOk_by (by rfl)) (si_range2 rfl T.no_range (sa_cons (se_int) (sa_cons (se_callB cr_gLen rfl T.no_len rfl (sa_cons (sv (i := 3)) (sa_nil))) (sa_nil)))) (fun _ _ _ _ _ => sg_nm (i := 15) sc_law.nd) (fun _ _ _ _ _ => sts_one (st_cmp (op_gGe hu) (se_op (op_gSub) (se_ix hu (se_ix hu (sv (i := 3)) (se_op (op_gSub) (sv (i := 15)) (se_int))) (se_int)) (se_ix hu (se_ix hu (sv (i := 3)) (sv (i := 15))) (se_int))) (se_int))) (fun _ _ _ _ _ => sv (i := 15)) (by decide) rfl) ?_
      refine sss_cons ?_ ?_
      · refine ss_if (st_cmp (op_gNe hu) (se_toldX (k := 2) T.told T.fu__law_told T.mg__law_told T.bi__law_told sc__law_told rfl (.inl rfl) (told_gives T rfl rfl) rfl T.tb_law rfl T.tm_law T.tu_law (hr.mono (by decide)) (LamX.lamS_by (by rfl)) (fun A outer s H E f c' hr => have hu := hu_of64 hr; se_meth0 (sv (i := 4)) T.mgc_Cover (T.cls_Cover.cls _ T.mgc_Cover) T.me_Cover_weakest (OK_Cover_weakest T) (hr.mono (by decide)) T.bi_Cover_weakest tkL) (fun _ _ _ _ _ => rfl) rfl) (se_if (st_cmp (op_gNe hu) (sv (i := 12)) (se_lst (sa_nil))) (se_ix hu (sv (i := 12)) (se_int)) (se_str))) ?_ ?_
        · exact sss_one (ss_ret (se_bl))
        · exact sss_nil
      refine sss_cons (ss_par (i := 13) (j := 14) rfl sc_law.nd (sa_cons (se_lc rfl sc_law.nd (own := [("k", 15)]) (blkOk_by (by rfl)) (si_range1 rfl T.no_range (sa_cons (se_call (OK__law_roll T) (hr.mono (by decide)) rfl T.mg__law_roll T.fu__law_roll.kp T.bi__law_roll takesB (sa_cons (sv (i := 1)) (sa_cons (se_int) (sa_nil)))) (sa_nil))) (fun _ _ _ _ _ => sg_nm (i := 15) sc_law.nd) (fun _ _ _ _ _ => sts_nil) (fun _ _ _ _ _ => se_tup (sa_cons (se_op (op_gSub) (se_call (OK__law_roll T) (hr.mono (by decide)) rfl T.mg__law_roll T.fu__law_roll.kp T.bi__law_roll tk0 (sa_cons (sv (i := 1)) (sa_cons (se_int) (sa_nil)))) (se_int)) (sa_cons (se_call (OK__law_roll T) (hr.mono (by decide)) rfl T.mg__law_roll T.fu__law_roll.kp T.bi__law_roll tk0 (sa_cons (sv (i := 1)) (sa_cons (se_int) (sa_nil)))) (sa_nil)))) (by decide)) (sa_cons (sv (i := 3)) (sa_nil)))) ?_
      refine sss_forget [15, 16, 17] ?_
      refine sss_cons ?_ ?_
      · refine ss_for passB rfl (si_range1 rfl T.no_range (sa_cons (se_callB cr_gLen rfl T.no_len rfl (sa_cons (sv (i := 13)) (sa_nil))) (sa_nil))) (sg_nm (i := 15) sc_law.nd) ?_
        · refine sss_cons (ss_asg (se_ix hu (sv (i := 13)) (sv (i := 15))) (sg_tup rfl (sgs_cons (sg_nm (i := 16) sc_law.nd) (sgs_cons (sg_nm (i := 17) sc_law.nd) (sgs_nil))))) ?_
          refine sss_cons (ss_nm (i := 14) sc_law.nd (se_if (st_cmp (op_gGt hu) (sv (i := 16)) (se_int)) (se_call (OK__law_thawed T) (hr.mono (by decide)) rfl T.mg__law_thawed T.fu__law_thawed.kp T.bi__law_thawed takesB (sa_cons (sv (i := 14)) (sa_cons (sv (i := 16)) (sa_nil)))) (se_if (st_cmp (op_gGt hu) (sv (i := 17)) (se_int)) (se_call (OK__law_fallen T) (hr.mono (by decide)) rfl T.mg__law_fallen T.fu__law_fallen.kp T.bi__law_fallen takesB (sa_cons (sv (i := 14)) (sa_cons (sv (i := 17)) (sa_nil)))) (sv (i := 14))))) ?_
          refine sss_cons (ss_nm (i := 14) sc_law.nd (se_if (st_cmp (op_gEq hu) (se_op (op_gMod) (sv (i := 15)) (se_int)) (se_int)) (se_call (OK__law_settled T) (hr.mono (by decide)) rfl T.mg__law_settled T.fu__law_settled.kp T.bi__law_settled takesB (sa_cons (sv (i := 14)) (sa_nil))) (sv (i := 14)))) ?_
          exact sss_forgets [15, 16, 17]
      refine sss_cons ?_ ?_
      · refine ss_if (st_cmp (op_gNe hu) (se_callTy cr_gList rfl T.no_list rfl (sa_cons (se_fld T.cls_Cover (by simp) (se_call (OK_weathered T) (hr.mono (by decide)) rfl T.mg_weathered T.fu_weathered.kp T.bi_weathered takesB (sa_cons (sv (i := 4)) (sa_cons (sv (i := 13)) (sa_nil))))) (sa_nil))) (sv (i := 14))) ?_ ?_
        · exact sss_one (ss_ret (se_bl))
        · exact sss_nil
      refine sss_cons ?_ ?_
      · refine ss_if (st_not (st_val (se_call (OK__law_rest1 T) (hr.mono (by decide)) rfl T.mg__law_rest1 T.fu__law_rest1.kp T.bi__law_rest1 takesB (sa_cons (sv (i := 1)) (sa_cons (sv (i := 4)) (sa_cons (sv (i := 10)) (sa_nil))))))) ?_ ?_
        · exact sss_one (ss_ret (se_bl))
        · exact sss_nil
      exact sss_forgets [1, 2, 3, 4, 5, 6, 7, 8, 9, 10, 11, 12, 13, 14, 15, 16, 17]
  exact sss_one (ss_ret (se_bl))
noncomputable def F_law : Fn := cleanF f_law
theorem OK_law {B : Bx} {P : Program} {w : World} {base : Heap} (T : TX B base) : FnP B P w base 8 T.a_law T.fd_law ["script"] F_law := (ok_law T).clean
end
end K01
end
section
set_option Elab.async false
set_option linter.all false
set_option maxRecDepth 100000
set_option maxHeartbeats 4000000
namespace K01
open PySem PySem.Spec PyProof.Rows L2 S3
abbrev Lay := Int × Int
def eL (p : Lay) : AV := .tup [.int p.1, .int p.2]
abbrev eLs (L : List Lay) : List AV := L.map eL
def eC (L : List Lay) : AV := .ins "Cover" [("layers", .tup (eLs L))]
def Good (L : List Lay) : Prop := ∀ p ∈ L, 1 ≤ p.1 ∧ 1 ≤ p.2 ∧ p.2 ≤ 5
theorem lvs_eLs (n : Nat) : ∀ L : List Lay, LVs n (eLs L)
  | [] => trivial
  | p :: L => ⟨⟨trivial, trivial, trivial⟩, lvs_eLs n L⟩
theorem lv_eC (n : Nat) (L : List Lay) : LV n (eC L) := ⟨lvs_eLs n L, trivial⟩
theorem sort_of_eq {h : AH} (cl : Closed h) (x : Int) : F_sort_of [.int x] h = .ok (.str (if 2 < x then "rain" else if 0 < x then "sleet" else if -4 < x then "wet" else "dry")) h := by
  refine clean_same ?_ trivial cl
  simp [f_sort_of, defSem, m_sort_of, mVar]
  (repeat' split) <;> simp
theorem vIns_eC {h : AH} {L : List Lay} : vIns "Cover" h (eC L) = some ([("layers", .tup (eLs L))] : List (Str × AV)) := rfl
theorem fld_eC {h : AH} {L : List Lay} : gFld "Cover" "layers" (eC L) h = some (.tup (eLs L)) := rfl
theorem key_eq {h : AH} (cl : Closed h) (L : List Lay) : F_Cover_key [eC L] h = .ok (.tup (eLs L)) h := by
  refine clean_same ?_ (lvs_eLs _ L) cl
  simp [f_Cover_key, defSem, m_Cover_key, mVar, fld_eC]
theorem flat_eLs (n : Nat) (L : List Lay) : ∀ x ∈ eLs L, Flat (n + 2) x := fun x hx => by
  obtain ⟨p, _, rfl⟩ := List.mem_map.mp hx
  exact flat_pair
@[simp] theorem flats_eL {n : Nat} {L : List Lay} : Flats (n + 2) (L.map eL) ↔ True := iff_true_intro (flat_eLs n L)
theorem depth_eq {h : AH} (cl : Closed h) (L : List Lay) : F_Cover_depth [eC L] h = .ok (.int (L.map (·.1)).sum) h := by
  refine clean_same ?_ trivial cl
  simp only [f_Cover_depth, defSem, m_Cover_depth, ap_ret]
  simp only [List.length_singleton, if_true, List.map_cons, List.map_nil]
  rw [genU_map (τ := Lay) eL (fun p => .int p.1) (fun p => .int p.2) (fun _ => true) (fun p => .int p.1) L (h1 := h)]
  · simp [gSumI]
  · exact seqP_ok (a := .tup (eLs L)) (by simp [mVar, fld_eC]) rfl fun _ _ => rfl
  · intro p hp
    simp [eL]
theorem water_eq {h : AH} (cl : Closed h) (L : List Lay) (hs : ∀ p ∈ L, p.2 ≤ 5 ∧ 1 ≤ p.2) : F_Cover_water [eC L] h = .ok (.int (L.map fun p => p.1 * p.2 / 10).sum) h := by
  refine clean_same ?_ trivial cl
  simp only [f_Cover_water, defSem, m_Cover_water, ap_ret]
  simp only [List.length_singleton, if_true, List.map_cons, List.map_nil]
  rw [genU_map (τ := Lay) eL (fun p => .int p.1) (fun p => .int p.2) (fun _ => true) (fun p => .int (p.1 * p.2 / 10)) L (h1 := h)]
  · simp [gSumI]
  · exact seqP_ok (a := .tup (eLs L)) (by simp [mVar, fld_eC]) rfl fun _ _ => rfl
  · intro p hp
    have := hs p hp
    have c1 : CMul p.1 p.2 := .inr ⟨by omega, by omega⟩
    have c2 : CDiv (p.1 * p.2) 10 := ⟨by omega, by omega⟩
    simp [eL, gMul_int c1, gDiv_int c2]
def bad (p : Lay) : Bool := decide (p.1 < 1) || !(decide (1 ≤ p.2) && decide (p.2 ≤ 5))
theorem good_iff {L : List Lay} : L.any bad = false ↔ Good L := by
  rw [List.any_eq_false]
  refine ⟨fun z p hp => ?_, fun z p hp => ?_⟩
  · have := z p hp
    simp [bad] at this
    omega
  · have := z p hp
    simp [bad]
    omega
theorem init_f {h : AH} {a : AV} {L : List Lay} (hv : vSq (h ++ [.ins "Cover" []]) a = some (eLs L)) (hl : L.length ≤ sizeLine) : f_Cover_init [.ref h.length, a] (h ++ [.ins "Cover" []]) = if L.any bad = true then .exc "BadPlan" [] (h ++ [.ins "Cover" []]) else .ok .non (h ++ [.ins "Cover" [("layers", .tup (eLs L))]]) := by
  simp only [f_Cover_init, defSem, m_Cover_init]
  obtain ⟨rd, e1, e2⟩ := sqA_ok (s := [some (.ref h.length), some a, none, none, none]) (m := mVar 1) (h := h ++ [.ins "Cover" []]) rfl hv
  have e3 := lcA_ok (s := [some (.ref h.length), some a, none, none, none]) (t := tName 4) (c := mYes) (e := mFn gTuple (mCons (mVar 4) mNil)) (vs := [4]) eL (fun _ => true) eL L e1 e2 (fun p hp => ⟨_, rfl, rfl, fun _ => by simp [mVar, eL]⟩) hl
  simp only [List.length_cons, List.length_nil, if_true, List.map_cons, List.map_nil, ap_seq, ap_ifS, ap_test]
  rw [genU_map (τ := Lay) eL (fun p => .int p.1) (fun p => .int p.2) (fun _ => true) (fun p => .bl (bad p)) L (h1 := h ++ [.ins "Cover" []])]
  · have ea : ((L.map bad).any id) = L.any bad := by rw [List.any_map]; rfl
    simp only [gAny, filter_yes, bls_map, Option.map_some, ofO_some, bind_ok, toS_ok, ea]
    cases hb : L.any bad with
    | true => rfl
    | false =>
      rw [if_neg Bool.false_ne_true, if_neg Bool.false_ne_true, ap_skip, then_nx]
      show (mFldSet "Cover" "layers" (mVar 0) (mFn gTuple (mCons _ mNil)) [some (.ref h.length), some a, none, none, none] _).fin = _
      rw [ap_fldSet, ap_fn, ap_cons, e3]
      simp [mVar, putA]
  · exact seqP_ok (a := a) rfl hv fun _ _ => rfl
  · intro p hp
    refine ⟨rfl, rfl, fun _ => ?_⟩
    simp [bad]
    (repeat' split) <;> simp_all <;> omega
theorem vLR_snoc {h : AH} {xs : List AV} {o : AO} : ∀ {a : AV}, vLR h a = some xs → vLR (h ++ [o]) a = some xs
  | .ref n, v => by
    by_cases hn : n < h.length
    · show vL (h ++ [o]) (.ref n) = some xs
      simp only [vL, List.getElem?_append_left hn]
      exact v
    · have v : vL h (.ref n) = some xs := v
      unfold vL at v
      simp only [List.getElem?_eq_none (show h.length ≤ n by omega)] at v
      cases v
  | .rdl xs, v => v
  | .lst xs, v => v
  | .non, v => nomatch v
  | .bl _, v => nomatch v
  | .int _, v => nomatch v
  | .str _, v => nomatch v
  | .tup _, v => nomatch v
  | .rdt _, v => nomatch v
  | .dK _, v => nomatch v
  | .dT _, v => nomatch v
  | .ins _ _, v => nomatch v
theorem vSq_snoc {h : AH} {a : AV} {xs : List AV} {o : AO} (v : vSq h a = some xs) : vSq (h ++ [o]) a = some xs := by
  unfold vSq at v ⊢
  cases k : vT a with
  | some ys => rw [k] at v; exact v
  | none =>
    rw [k] at v
    exact vLR_snoc v
theorem lfs_eC (n : Nat) (L : List Lay) : LFs n [("layers", .tup (eLs L))] := ⟨lvs_eLs n L, trivial⟩
theorem init_eq {h : AH} {a : AV} {L : List Lay} (cl : Closed h) (hv : vSq h a = some (eLs L)) (hl : L.length ≤ sizeLine) (hg : Good L) : I_Cover [a] h = .ok [("layers", .tup (eLs L))] h := by
  have e := init_f (h := h) (a := a) (vSq_snoc hv) hl
  rw [if_neg (by rw [good_iff.mpr hg]; exact Bool.false_ne_true)] at e
  have e2 := clean_ok (f := f_Cover_init) (as := [.ref h.length, a]) (h := h ++ [.ins "Cover" []]) (h1 := h ++ [.ins "Cover" [("layers", .tup (eLs L))]]) (g := []) (a := .non) (by rw [List.append_nil]; exact e) (by simp) trivial (closed_snocO (o := .ins "Cover" [("layers", .tup (eLs L))]) cl fun n => lfs_eC n L)
  exact cleanI_ok (g := F_Cover_init) (h1 := h) (r := []) (by rw [List.append_nil]; exact e2) rfl (lfs_eC _ L) cl
theorem init_bad {h : AH} {a : AV} {L : List Lay} (cl : Closed h) (hv : vSq h a = some (eLs L)) (hl : L.length ≤ sizeLine) (hg : L.any bad = true) : I_Cover [a] h = .exc "BadPlan" [] h := by
  have e := init_f (h := h) (a := a) (vSq_snoc hv) hl
  rw [if_pos hg] at e
  have e2 := clean_exc (f := f_Cover_init) (as := [.ref h.length, a]) (h := h ++ [.ins "Cover" []]) (h1 := h ++ [.ins "Cover" []]) (g := []) (fs := []) (by rw [List.append_nil]; exact e) (by simp) trivial (closed_snocO (o := .ins "Cover" []) cl fun n => trivial)
  exact cleanI_exc (g := F_Cover_init) (h1 := h) (r := [.ins "Cover" []]) e2 rfl trivial cl
def fallenL (L : List Lay) (d : Int) : List Lay := match L.getLast? with
  | some p => if p.2 = 1 then L.dropLast ++ [(p.1 + d, 1)] else L ++ [(d, 1)]
  | none => [(d, 1)]
theorem fallen_good {L : List Lay} {d : Int} (hg : Good L) (hd : 1 ≤ d) : Good (fallenL L d) := by
  unfold fallenL
  intro q hq
  split at hq
  · rename_i p hp
    have hm := List.mem_of_getLast? hp
    have := hg p hm
    split at hq
    · rcases List.mem_append.mp hq with hq | hq
      · exact hg q ((List.dropLast_sublist L).subset hq)
      · obtain rfl := List.mem_singleton.mp hq
        show 1 ≤ p.1 + d ∧ _
        omega
    · rcases List.mem_append.mp hq with hq | hq
      · exact hg q hq
      · obtain rfl := List.mem_singleton.mp hq
        show 1 ≤ d ∧ _
        omega
  · obtain rfl := List.mem_singleton.mp hq
    show 1 ≤ d ∧ _
    omega
theorem fallen_len {L : List Lay} {d : Int} : (fallenL L d).length ≤ L.length + 1 := by
  unfold fallenL
  split
  · split <;> simp
  · simp
theorem fallen_eq {h : AH} {L : List Lay} {d : Int} (cl : Closed h) (hg : Good L) (hl : L.length < 1000) (hd : 1 ≤ d) : F_Cover_fallen [eC L, .int d] h = .ok (eC (fallenL L d)) h := by
  refine clean_same ?_ (lv_eC _ _) cl
  have ht : Flat 60 (.tup (eLs L)) := flat_tup (flat_eLs _ L)
  have hin := init_eq (L := fallenL L d) (a := .tup (eLs (fallenL L d))) cl rfl (by have := fallen_len (L := L) (d := d); unfold sizeLine; omega) (fallen_good hg hd)
  have hd' : ¬ d < 1 := by omega
  rcases List.eq_nil_or_concat L with rfl | ⟨R, p, rfl⟩
  · simp only [f_Cover_fallen, defSem, m_Cover_fallen]
    have ea := addT_ok (h := h) (xs := []) (ys := [.tup [.int d, .int 1]]) (by unfold sizeLine; simp)
    have hin' : I_Cover [.tup [.tup [.int d, .int 1]]] h = _ := hin
    simp [mVar, fld_eC, hd', ea, hin']
    rfl
  · rw [List.concat_eq_append] at *
    have hl2 : R.length + 1 < 1000 := by simpa using hl
    have e1 := addT_ok (h := h) (xs := eLs R) (ys := [.tup [.int (p.1 + d), .int 1]]) (by unfold sizeLine; simp; omega)
    have e2 := addT_ok (h := h) (xs := eLs (R ++ [p])) (ys := [.tup [.int d, .int 1]]) (by unfold sizeLine; simp; omega)
    have e0 := eq_nilT (neg := true) (h := h) ht
    simp only [f_Cover_fallen, defSem, m_Cover_fallen]
    by_cases hp : p.2 = 1
    · simp [hp, mVar, fld_eC, hd', S3.atI_last, cut_init, eL, atI_0, atI_1, fallenL] at hin e0 e1 e2 ⊢
      simp [hp, e0, e1, hin, eC, eL]
    · simp [hp, mVar, fld_eC, hd', S3.atI_last, cut_init, eL, atI_0, atI_1, fallenL] at hin e0 e1 e2 ⊢
      simp [hp, mVar, fld_eC, e0, e2, hin, eL]
      simp [eC, eL]
theorem fallen_bad {h : AH} {L : List Lay} {d : Int} (cl : Closed h) (hd : d < 1) : F_Cover_fallen [eC L, .int d] h = .exc "BadSize" [] h := by
  refine clean_sameX ?_ cl
  simp only [f_Cover_fallen, defSem, m_Cover_fallen]
  simp [mVar, hd]
/-! settled -/
def ripe (p : Lay) : Lay := if p.2 < 5 then (p.1 - p.1 / 5, p.2 + 1) else p
def joinL (R : List Lay) (q : Lay) : List Lay := match R.getLast? with
  | some l => if l.2 = q.2 then R.dropLast ++ [(l.1 + q.1, q.2)] else R ++ [q]
  | none => [q]
def settledL (L : List Lay) : List Lay := L.foldl (fun R p => joinL R (ripe p)) []
theorem join_len {R : List Lay} {q : Lay} : (joinL R q).length ≤ R.length + 1 := by
  unfold joinL
  split
  · split <;> simp
  · simp
theorem settled_body {h : AH} {a : AV} {R : List Lay} {p : Lay} (hl : R.length < 1000) : B_Cover_settled_0 [some a, some (.ref h.length), some (.int p.1), some (.int p.2)] (h ++ [.lst (eLs R)]) = .nx [some a, some (.ref h.length), none, none] (h ++ [.lst (eLs (joinL R (ripe p)))]) := by
  have c5 : CDiv p.1 5 := ⟨by omega, by omega⟩
  rcases List.eq_nil_or_concat R with rfl | ⟨R, l, rfl⟩
  · by_cases hp : p.2 < 5
    · simp [B_Cover_settled_0, mVar, hp, gDiv_int c5, ripe, joinL, append_end, eL]
    · simp [B_Cover_settled_0, mVar, hp, gDiv_int c5, ripe, joinL, append_end, eL]
  · rw [List.concat_eq_append] at *
    have hl3 : R.length + 1 < 16777216 := by simp at hl; omega
    have fl : ∀ x ∈ R, Flat 59 (eL x) := fun x _ => flat_pair
    by_cases hp : p.2 < 5
    · by_cases hq : l.2 = p.2 + 1
      · simp [B_Cover_settled_0, mVar, hp, hq, gDiv_int c5, ripe, joinL, append_end, eL, S3.atI_last, atI_0, atI_1]
      · simp [B_Cover_settled_0, mVar, hp, hq, hl3, gDiv_int c5, ripe, joinL, append_end, eL, S3.atI_last, atI_0, atI_1]
    · by_cases hq : l.2 = p.2
      · simp [B_Cover_settled_0, mVar, hp, hq, gDiv_int c5, ripe, joinL, append_end, eL, S3.atI_last, atI_0, atI_1]
      · simp [B_Cover_settled_0, mVar, hp, hq, hl3, gDiv_int c5, ripe, joinL, append_end, eL, S3.atI_last, atI_0, atI_1]
theorem settled_loop {h : AH} {a : AV} : ∀ (L R : List Lay), R.length + L.length < 1000 → forC (tTupT 2 (tMore (tName 2) (tMore (tName 3) tNone))) B_Cover_settled_0 (eLs L) [some a, some (.ref h.length), none, none] (h ++ [.lst (eLs R)]) = .nx [some a, some (.ref h.length), none, none] (h ++ [.lst (eLs (L.foldl (fun R p => joinL R (ripe p)) R))])
  | [], R, _ => rfl
  | p :: L, R, hl => by
    have hl' : R.length + (L.length + 1) < 1000 := hl
    have := join_len (R := R) (q := ripe p)
    rw [eLs, List.map_cons, forC_cons (s1 := [some a, some (.ref h.length), some (.int p.1), some (.int p.2)]) rfl, settled_body (by omega), lp_nx]
    exact settled_loop L _ (by omega)
theorem join_good {R : List Lay} {q : Lay} (hg : Good R) (hq : 1 ≤ q.1 ∧ 1 ≤ q.2 ∧ q.2 ≤ 5) : Good (joinL R q) := by
  unfold joinL
  intro y hy
  split at hy
  · rename_i p hp
    have := hg p (List.mem_of_getLast? hp)
    split at hy
    · rcases List.mem_append.mp hy with hy | hy
      · exact hg y ((List.dropLast_sublist R).subset hy)
      · obtain rfl := List.mem_singleton.mp hy
        show 1 ≤ p.1 + q.1 ∧ _
        omega
    · rcases List.mem_append.mp hy with hy | hy
      · exact hg y hy
      · obtain rfl := List.mem_singleton.mp hy
        exact hq
  · obtain rfl := List.mem_singleton.mp hy
    exact hq
theorem ripe_good {p : Lay} (hp : 1 ≤ p.1 ∧ 1 ≤ p.2 ∧ p.2 ≤ 5) : 1 ≤ (ripe p).1 ∧ 1 ≤ (ripe p).2 ∧ (ripe p).2 ≤ 5 := by
  unfold ripe
  split
  · show 1 ≤ p.1 - p.1 / 5 ∧ 1 ≤ p.2 + 1 ∧ p.2 + 1 ≤ 5
    omega
  · exact hp
theorem settle_all : ∀ (L R : List Lay), Good L → Good R → Good (L.foldl (fun R p => joinL R (ripe p)) R) ∧ (L.foldl (fun R p => joinL R (ripe p)) R).length ≤ R.length + L.length
  | [], R, _, hr => ⟨hr, Nat.le_refl _⟩
  | p :: L, R, hl, hr => by
    obtain ⟨a, b⟩ := settle_all L (joinL R (ripe p)) (fun q hq => hl q (List.mem_cons_of_mem _ hq)) (join_good hr (ripe_good (hl p List.mem_cons_self)))
    have := join_len (R := R) (q := ripe p)
    refine ⟨a, ?_⟩
    show (L.foldl _ (joinL R (ripe p))).length ≤ R.length + (L.length + 1)
    omega
theorem settled_good {L : List Lay} (hg : Good L) : Good (settledL L) ∧ (settledL L).length ≤ L.length := by
  have := settle_all L [] hg fun _ z => nomatch z
  simpa [settledL] using this
theorem settled_eq {h : AH} {L : List Lay} (cl : Closed h) (hg : Good L) (hl : L.length < 1000) : F_Cover_settled [eC L] h = .ok (eC (settledL L)) h := by
  obtain ⟨g1, g2⟩ := settled_good hg
  have cl1 : Closed (h ++ [.lst (eLs (settledL L))]) := closed_snoc cl fun n => lvs_eLs n _
  have hin := init_eq (L := settledL L) (a := .ref h.length) cl1 vSq_end (by unfold sizeLine; omega) g1
  refine clean_ok (h1 := h) (g := [.lst (eLs (settledL L))]) ?_ rfl (lv_eC _ _) cl
  have lp := settled_loop (h := h) (a := eC L) L [] (by simpa using hl)
  simp only [f_Cover_settled, defSem, m_Cover_settled]
  simp [mVar, fld_eC] at lp ⊢
  rw [lp]
  simp [mVar]
  rw [show eLs (List.foldl (fun R p => joinL R (ripe p)) [] L) = eLs (settledL L) from rfl, hin]
  rfl
/-! sinks, melt_days -/
def sinksR : List Lay → Int → Int
  | [], a => a
  | p :: r, a => if 2 < p.2 then a else sinksR r (a + p.1)
theorem sinks_loop {h : AH} {a : AV} : ∀ (L : List Lay) (x : Int), forC (tTupT 2 (tMore (tName 2) (tMore (tName 3) tNone))) B_Cover_sinks_0 (eLs L) [some a, some (.int x), none, none] h = .nx [some a, some (.int (sinksR L x)), none, none] h
  | [], x => rfl
  | p :: L, x => by
    rw [eLs, List.map_cons, forC_cons (s1 := [some a, some (.int x), some (.int p.1), some (.int p.2)]) rfl]
    by_cases hp : 2 < p.2
    · simp [B_Cover_sinks_0, hp, mVar, sinksR]
    · have ih := sinks_loop (h := h) (a := a) L (x + p.1)
      simp [B_Cover_sinks_0] at ih
      simp [B_Cover_sinks_0, hp, mVar, sinksR, ih]
theorem sinks_eq {h : AH} (cl : Closed h) (L : List Lay) : F_Cover_sinks [eC L] h = .ok (.int (sinksR L.reverse 0)) h := by
  refine clean_same ?_ trivial cl
  have lp := sinks_loop (h := h) (a := eC L) L.reverse 0
  simp only [f_Cover_sinks, defSem, m_Cover_sinks]
  simp [mVar, fld_eC] at lp ⊢
  rw [lp]
  simp [mVar]
theorem melt_eq {h : AH} (cl : Closed h) {d f g : Int} (hd : 0 ≤ d) (hf : 1 ≤ f ∧ f ≤ 5) (hg : 1 ≤ g ∧ g < 1000) : F_melt_days [.int d, .int f, .int g] h = .ok (.int (0 - (0 - d) / (g * (if f = 1 then 2 else 1)))) h := by
  refine clean_same ?_ trivial cl
  simp only [f_melt_days, defSem, m_melt_days]
  by_cases h1 : f = 1
  · have c1 : CMul g 2 := .inr ⟨by omega, by omega⟩
    have c2 : CDiv (0 - d) (g * 2) := ⟨by omega, by omega⟩
    simp [mVar, show ¬ d < 0 by omega, hf, show ¬ g < 1 by omega, h1, gMul_int c1] at c2 ⊢
    simp [gDiv_int c2]
  · have c1 : CMul g 1 := .inr ⟨by omega, by omega⟩
    have c2 : CDiv (0 - d) g := ⟨by omega, by omega⟩
    simp [mVar, show ¬ d < 0 by omega, hf, show ¬ g < 1 by omega, h1, gMul_int c1] at c2 ⊢
    simp [gDiv_int c2]
theorem melt_size {h : AH} (cl : Closed h) {d f g : Int} (hd : d < 0) : F_melt_days [.int d, .int f, .int g] h = .exc "BadSize" [] h := by
  refine clean_sameX ?_ cl
  simp only [f_melt_days, defSem, m_melt_days]
  simp [mVar, hd]
theorem melt_way {h : AH} (cl : Closed h) {d f g : Int} (hd : 0 ≤ d) (hf : 1 ≤ f ∧ f ≤ 5) (hg : g < 1) : F_melt_days [.int d, .int f, .int g] h = .exc "NoWay" [] h := by
  refine clean_sameX ?_ cl
  simp only [f_melt_days, defSem, m_melt_days]
  simp [mVar, show ¬ d < 0 by omega, hf, hg]
/-! the dice -/
def dice (a b c : Int) : AO := .lst [.int a, .int b, .int c]
theorem roll_eq {h : AH} {n : Nat} {a b c many : Int} (cl : Closed h) (e : h[n]? = some (dice a b c)) (hm : 1 ≤ many ∧ many < 1000000) : ∃ r a' b' c', F__law_roll [.ref n, .int many] h = .ok (.int r) (h.set n (dice a' b' c')) ∧ 0 ≤ r ∧ r < many := by
  have hn : n < h.length := by
    rcases Nat.lt_or_ge n h.length with z | z
    · exact z
    · rw [List.getElem?_eq_none z] at e; cases e
  have go : ∀ {r a' b' c'}, f__law_roll [.ref n, .int many] h = .ok (.int r) (h.set n (dice a' b' c')) → F__law_roll [.ref n, .int many] h = .ok (.int r) (h.set n (dice a' b' c')) := fun z =>
    clean_ok (g := []) (by rw [List.append_nil]; exact z) (by simp) trivial (closed_set cl fun _ => ⟨trivial, trivial, trivial, trivial⟩)
  have e' : h[n]? = some (.lst [.int a, .int b, .int c]) := e
  have es : ∀ xs, (h.set n (AO.lst xs))[n]? = some (.lst xs) := fun xs => by rw [List.getElem?_set_self hn]
  have ex : ∀ xs i, gIx (.ref n) (.int i) (h.set n (AO.lst xs)) = atI xs i := fun xs i => ix_ref (es xs)
  have ew : ∀ {xs : List AV} {i : Int} {v : AV} {j : Nat}, ixN xs.length i = some j → gSet (.ref n) (.int i) v (h.set n (AO.lst xs)) = some (h.set n (AO.lst (xs.set j v))) := fun k => by rw [set_ref (es _) k, List.set_set]
  have cd : ∀ x, CDiv x many := fun x => ⟨by omega, by omega⟩
  by_cases h1 : c = 2 ∨ (c = 1 ∧ 0 < a)
  · refine ⟨a % many, a / many, b, c, go ?_, Int.emod_nonneg _ (by omega), Int.emod_lt_of_pos _ (by omega)⟩
    simp only [f__law_roll, defSem, m__law_roll]
    have s1 := set_ref (a := .int (a / many)) e' (i := 0) (j := 0) rfl
    rcases h1 with rfl | ⟨rfl, h2⟩
    · simp [mVar, ix_ref e', atI_0, atI_2, gInt, gMod_int (show 0 < many by omega), gDiv_int (cd a), s1, dice]
    · simp [mVar, ix_ref e', atI_0, atI_2, gInt, gMod_int (show 0 < many by omega), gDiv_int (cd a), s1, dice, h2]
  · have h2 : ¬ c = 2 := fun z => h1 (.inl z)
    have m1 : CMul a 48271 := .inr ⟨by omega, by omega⟩
    have m2 : CMul b 69621 := .inr ⟨by omega, by omega⟩
    have d7 : ∀ x, CDiv x 7 := fun x => ⟨by omega, by omega⟩
    have s1 := set_ref (a := .int 0) e' (i := 2) (j := 2) rfl
    refine ⟨((a * 48271 + b * 69621 + 11) % 2147483647 / 7 + (a * 48271 + b * 69621 + 11) % 2147483647) % many, (a * 48271 + b * 69621 + 11) % 2147483647, b + 1, 0, go ?_, Int.emod_nonneg _ (by omega), Int.emod_lt_of_pos _ (by omega)⟩
    simp only [f__law_roll, defSem, m__law_roll]
    have w0 := fun (xs : List AV) (v : AV) (l : 0 < xs.length) => ew (xs := xs) (i := 0) (v := v) (j := 0) (ixN_0 l)
    have w1 := fun (x y z : AV) (v : AV) => ew (xs := [x, y, z]) (i := 1) (v := v) (j := 1) rfl
    by_cases h3 : c = 1
    · have h4 : ¬ 0 < a := fun z => h1 (.inr ⟨h3, z⟩)
      simp [mVar, ix_ref e', atI_0, atI_1, atI_2, gInt, gMod_int (show 0 < many by omega), gMod_int (show (0 : Int) < 2147483647 by omega), gMul_int m1, gMul_int m2, gDiv_int (d7 _), s1, dice, h2, h3, h4, ex, w0, w1]
    · simp [mVar, ix_ref e', atI_0, atI_1, atI_2, gInt, gMod_int (show 0 < many by omega), gMod_int (show (0 : Int) < 2147483647 by omega), gMul_int m1, gMul_int m2, gDiv_int (d7 _), s1, dice, h2, h3, ex, w0, w1]
theorem dice_eq {h : AH} (x : Int) : ∃ a b c, F__law_dice [.int x] h = .ok (.ref h.length) (h ++ [dice a b c]) := by
  have p18 : CPow 10 18 := ⟨by omega, by omega, by decide⟩
  by_cases h1 : -10 < x ∧ x < 10
  · refine ⟨if x < 0 then -x else x, 0, 2, ?_⟩
    simp [f__law_dice, defSem, m__law_dice, mVar, h1, gAbs, dice, sizeLine]
  · refine ⟨x, 1 + x % 1009, if 10 ^ 18 ≤ x then 1 else 0, ?_⟩
    have ep : gPow (.int 10) (.int 18) h = some (.int (10 ^ 18)) := by
      show (if CPow 10 18 then some (AV.int (10 ^ (18 : Int).toNat)) else none) = _
      rw [if_pos p18]
      rfl
    by_cases h2 : -10 < x
    · have h3 : ¬ x < 10 := fun z => h1 ⟨h2, z⟩
      simp [f__law_dice, defSem, m__law_dice, mVar, h2, h3, gInt, gMod_int (show (0 : Int) < 1009 by omega), ep, dice, sizeLine]
    · simp [f__law_dice, defSem, m__law_dice, mVar, h2, gInt, gMod_int (show (0 : Int) < 1009 by omega), ep, dice, sizeLine]
theorem rounds_eq (ns : List Int) : ∃ a b c, F__law_rounds [.rdl (ns.map .int), .int 1] [] = .ok (.lst [.ref 0]) [dice a b c] := by
  cases ns with
  | nil =>
    obtain ⟨a, b, c, e⟩ := dice_eq (h := []) 0
    refine ⟨a, b, c, ?_⟩
    have e' : f__law_dice [.int 0] [] = .ok (.ref 0) [dice a b c] := e
    simp [f__law_rounds, defSem, m__law_rounds, mVar, cut_to, lcC, e', mYes, sizeLine]
  | cons n ns =>
    obtain ⟨a, b, c, e⟩ := dice_eq (h := []) n
    refine ⟨a, b, c, ?_⟩
    have e' : f__law_dice [.int n] [] = .ok (.ref 0) [dice a b c] := e
    have eq0 : gEq false (.lst [.int n]) (.lst []) [] = some (.bl false) := by rw [eq_nilL (by simp)]; rfl
    simp [f__law_rounds, defSem, m__law_rounds, mVar, cut_to, lcC, e', mYes, sizeLine, eq0]
/-! thawed -/
def each (p : Lay) : Int := if p.2 = 1 then 2 else 1
theorem each_pos (p : Lay) : 1 ≤ each p ∧ each p ≤ 2 := by unfold each; split <;> omega
def thaw1 (R : List Lay) : List Lay := match R.getLast? with
  | some p => R.dropLast ++ if 0 < p.1 - each p then [(p.1 - each p, p.2)] else []
  | none => []
def thawN : Nat → List Lay → List Lay
  | 0, R => R
  | n + 1, R => thawN n (thaw1 R)
theorem thawN_nil : ∀ n, thawN n [] = []
  | 0 => rfl
  | n + 1 => thawN_nil n
theorem thawN_add : ∀ (m n : Nat) (R : List Lay), thawN (m + n) R = thawN n (thawN m R)
  | 0, n, R => by rw [Nat.zero_add]; rfl
  | m + 1, n, R => by
    rw [show m + 1 + n = (m + n) + 1 by omega]
    exact thawN_add m n (thaw1 R)
theorem thaw1_snoc {R : List Lay} {p : Lay} : thaw1 (R ++ [p]) = R ++ if 0 < p.1 - each p then [(p.1 - each p, p.2)] else [] := by
  simp [thaw1]
theorem thawN_part : ∀ (k : Nat) (R : List Lay) (p : Lay), k * each p < p.1 → thawN k (R ++ [p]) = R ++ [(p.1 - k * each p, p.2)]
  | 0, R, p, _ => by simp [thawN]
  | k + 1, R, p, hk => by
    have e1 := (each_pos p).1
    have hk' : (k : Int) * each p + each p < p.1 := by
      have : ((k + 1 : Nat) : Int) * each p = k * each p + each p := by rw [Int.natCast_add, Int.add_mul]; simp
      omega
    have hke : 0 ≤ (k : Int) * each p := Int.mul_nonneg (by omega) (by omega)
    have hs : 0 < p.1 - each p := by omega
    show thawN k (thaw1 (R ++ [p])) = _
    rw [thaw1_snoc, if_pos hs]
    have ee : each (p.1 - each p, p.2) = each p := rfl
    rw [thawN_part k R (p.1 - each p, p.2) (by rw [ee]; show _ < p.1 - each p; omega), ee]
    congr 2
    show (p.1 - each p - k * each p, p.2) = (p.1 - ((k + 1 : Nat) : Int) * each p, p.2)
    have : ((k + 1 : Nat) : Int) * each p = k * each p + each p := by rw [Int.natCast_add, Int.add_mul]; simp
    rw [this]
    congr 1
    omega
theorem thawN_whole {R : List Lay} {p : Lay} (hp : 1 ≤ p.1) {k : Nat} (hk : (k : Int) = 0 - (0 - p.1) / each p) : thawN k (R ++ [p]) = R ∧ 1 ≤ k := by
  obtain ⟨e1, e2⟩ := each_pos p
  rcases (show each p = 1 ∨ each p = 2 by omega) with e | e
  · rw [e] at hk
    obtain ⟨j, rfl⟩ : ∃ j, k = j + 1 := ⟨k - 1, by omega⟩
    refine ⟨?_, by omega⟩
    rw [thawN_add j 1, thawN_part j R p (by rw [e]; omega)]
    show thaw1 (R ++ [(p.1 - j * each p, p.2)]) = R
    have ee : each (p.1 - j * each p, p.2) = each p := rfl
    rw [thaw1_snoc, ee, e, if_neg (show ¬ 0 < p.1 - j * 1 - 1 by omega), List.append_nil]
  · rw [e] at hk
    obtain ⟨j, rfl⟩ : ∃ j, k = j + 1 := ⟨k - 1, by omega⟩
    refine ⟨?_, by omega⟩
    rw [thawN_add j 1, thawN_part j R p (by rw [e]; omega)]
    show thaw1 (R ++ [(p.1 - j * each p, p.2)]) = R
    have ee : each (p.1 - j * each p, p.2) = each p := rfl
    rw [thaw1_snoc, ee, e, if_neg (show ¬ 0 < p.1 - j * 2 - 2 by omega), List.append_nil]
theorem whileL_go {c : MT} {b : MS} {n : Nat} {s s2 : Sl} {h h2 : AH} (ec : c s h = .ok true h) (eb : b s h = .nx s2 h2) : whileL c b (n + 1) s h = whileL c b n s2 h2 := by
  show (c s h).toS s (fun x h1 => if x = true then (b s h1).lp (whileL c b n) else .nx s h1) = _
  rw [ec, toS_ok, if_pos rfl, eb, lp_nx]
theorem whileL_no {c : MT} {b : MS} {n : Nat} {s : Sl} {h : AH} (ec : c s h = .ok false h) : whileL c b (n + 1) s h = .nx s h := by
  show (c s h).toS s (fun x h1 => if x = true then (b s h1).lp (whileL c b n) else .nx s h1) = _
  rw [ec, toS_ok, if_neg Bool.false_ne_true]
theorem thawed_test {h : AH} {a d : AV} {R : List Lay} {n : Int} {r : List (Option AV)} : C_Cover_thawed_1 (some a :: some d :: some (.ref h.length) :: some (.int n) :: r) (h ++ [.lst (eLs R)]) = .ok (decide (R ≠ [] ∧ 0 < n)) (h ++ [.lst (eLs R)]) := by
  cases R with
  | nil => simp [C_Cover_thawed_1, mVar]
  | cons p R => simp [C_Cover_thawed_1, mVar, eL]
theorem thawed_body {h : AH} {a d : AV} {R : List Lay} {p : Lay} {n : Int} (hn : 0 ≤ n ∧ n < 1000) (hp : 1 ≤ p.1) : B_Cover_thawed_0 [some a, some d, some (.ref h.length), some (.int n), none, none, none, none] (h ++ [.lst (eLs (R ++ [p]))]) =
    if 0 - (0 - p.1) / each p ≤ n then .nx [some a, some d, some (.ref h.length), some (.int (n - (0 - (0 - p.1) / each p))), none, none, none, none] (h ++ [.lst (eLs R)])
    else .nx [some a, some d, some (.ref h.length), some (.int 0), none, none, none, none] (h ++ [.lst (eLs (R ++ [(p.1 - n * each p, p.2)]))]) := by
  have c1 : CDiv (-p.1) 1 := ⟨by omega, by omega⟩
  have c2 : CDiv (-p.1) 2 := ⟨by omega, by omega⟩
  have m1 : CMul n 1 := .inr ⟨by omega, by omega⟩
  have m2 : CMul n 2 := .inr ⟨by omega, by omega⟩
  by_cases h1 : p.2 = 1
  · by_cases h2 : -(-p.1 / 2) ≤ n
    · simp [B_Cover_thawed_0, mVar, eL, S3.atI_last, h1, h2, each, gDiv_int c2, gMul_int m2]
    · simp [B_Cover_thawed_0, mVar, eL, S3.atI_last, h1, h2, each, gDiv_int c2, gMul_int m2]
  · by_cases h2 : p.1 ≤ n
    · simp [B_Cover_thawed_0, mVar, eL, S3.atI_last, h1, h2, each, gDiv_int c1, gMul_int m1]
    · simp [B_Cover_thawed_0, mVar, eL, S3.atI_last, h1, h2, each, gDiv_int c1, gMul_int m1]
end K01
end
section
set_option Elab.async false
set_option linter.all false
set_option maxRecDepth 100000
set_option maxHeartbeats 4000000
namespace K01
open PySem PySem.Spec PyProof.Rows L2 S3
theorem thaw1_good {R : List Lay} (hg : Good R) : Good (thaw1 R) ∧ (thaw1 R).length ≤ R.length := by
  rcases List.eq_nil_or_concat R with rfl | ⟨R, p, rfl⟩
  · exact ⟨hg, Nat.le_refl _⟩
  · rw [List.concat_eq_append] at *
    rw [thaw1_snoc]
    refine ⟨fun q hq => ?_, by split <;> simp⟩
    rcases List.mem_append.mp hq with hq | hq
    · exact hg q (List.mem_append_left _ hq)
    · split at hq
      · obtain rfl := List.mem_singleton.mp hq
        have := hg p (by simp)
        exact ⟨by show 1 ≤ p.1 - each p; omega, this.2⟩
      · cases hq
theorem thawN_good : ∀ (n : Nat) {R : List Lay}, Good R → Good (thawN n R) ∧ (thawN n R).length ≤ R.length
  | 0, R, hg => ⟨hg, Nat.le_refl _⟩
  | n + 1, R, hg => by
    obtain ⟨a, b⟩ := thaw1_good hg
    obtain ⟨c, d⟩ := thawN_good n a
    exact ⟨c, Nat.le_trans d b⟩
theorem thawed_while {h : AH} {a d : AV} {L : List Lay} {n : Int} (hn : 0 ≤ n ∧ n < 1000) (hg : Good L) (hl : L.length < 1000) : ∃ m : Int, whileL C_Cover_thawed_1 B_Cover_thawed_0 fuel [some a, some d, some (.ref h.length), some (.int n), none, none, none, none] (h ++ [.lst (eLs L)]) =
    .nx [some a, some d, some (.ref h.length), some (.int m), none, none, none, none] (h ++ [.lst (eLs (thawN n.toNat L))]) := by
  obtain ⟨st, i1, i2, i3⟩ := whileL_inv (σ := List Lay × Int) (c := C_Cover_thawed_1) (b := B_Cover_thawed_0) (fun st => [some a, some d, some (.ref h.length), some (.int st.2), none, none, none, none]) (fun st => h ++ [.lst (eLs st.1)])
    (fun st => Good st.1 ∧ 0 ≤ st.2 ∧ st.2 < 1000 ∧ thawN st.2.toNat st.1 = thawN n.toNat L) (fun st => st.2.toNat) (fun st hs => by
      obtain ⟨g1, h1, h2, h3⟩ := hs
      obtain ⟨R, m⟩ := st
      rcases List.eq_nil_or_concat R with rfl | ⟨R, p, rfl⟩
      · right
        rw [thawed_test]
        simp
      · rw [List.concat_eq_append] at *
        by_cases hm : 0 < m
        · left
          have hp : 1 ≤ p.1 := (g1 p (by simp)).1
          have hb := thawed_body (h := h) (a := a) (d := d) (R := R) (p := p) (n := m) ⟨h1, h2⟩ hp
          obtain ⟨e1, e2⟩ := each_pos p
          have hneed : 1 ≤ 0 - (0 - p.1) / each p := by
            rcases (show each p = 1 ∨ each p = 2 by omega) with e | e <;> rw [e] <;> omega
          by_cases hc : 0 - (0 - p.1) / each p ≤ m
          · rw [if_pos hc] at hb
            refine ⟨(R, m - (0 - (0 - p.1) / each p)), by rw [thawed_test]; simp [hm], .inl hb, ⟨fun q hq => g1 q (List.mem_append_left _ hq), by show 0 ≤ m - _; omega, by show m - _ < 1000; omega, ?_⟩, by show (m - _).toNat < m.toNat; omega⟩
            rw [← h3]
            show thawN (m - (0 - (0 - p.1) / each p)).toNat R = thawN m.toNat (R ++ [p])
            rw [show m.toNat = (0 - (0 - p.1) / each p).toNat + (m - (0 - (0 - p.1) / each p)).toNat by omega, thawN_add, (thawN_whole hp (by omega)).1]
          · rw [if_neg hc] at hb
            have hk : m.toNat * each p < p.1 := by
              rcases (show each p = 1 ∨ each p = 2 by omega) with e | e <;> rw [e] at hc ⊢ <;> omega
            have hk' : m * each p < p.1 := by rw [Int.toNat_of_nonneg h1] at hk; exact hk
            refine ⟨(R ++ [(p.1 - m * each p, p.2)], 0), by rw [thawed_test]; simp [hm], .inl hb, ⟨fun q hq => ?_, by simp, by simp, ?_⟩, by show (0 : Int).toNat < m.toNat; omega⟩
            · rcases List.mem_append.mp hq with hq | hq
              · exact g1 q (List.mem_append_left _ hq)
              · obtain rfl := List.mem_singleton.mp hq
                exact ⟨by show 1 ≤ p.1 - m * each p; omega, (g1 p (by simp)).2⟩
            · rw [← h3]
              show _ = thawN m.toNat (R ++ [p])
              rw [thawN_part m.toNat R p hk, Int.toNat_of_nonneg h1]
              rfl
        · right
          rw [thawed_test]
          simp [hm]) fuel (L, n) ⟨hg, hn.1, hn.2, rfl⟩ (by show n.toNat < 100000; omega)
  obtain ⟨g1, h1, h2, h3⟩ := i1
  obtain ⟨R, m⟩ := st
  refine ⟨m, ?_⟩
  rw [i3]
  have : thawN n.toNat L = R := by
    rw [← h3]
    have e : decide (R ≠ [] ∧ 0 < m) = false := by
      rw [thawed_test] at i2
      simpa using i2
    have e := of_decide_eq_false e
    by_cases hr : R = []
    · rw [hr]; exact thawN_nil _
    · have : m = 0 := by
        have : ¬ 0 < m := fun z => e ⟨hr, z⟩
        have h1 : 0 ≤ m := h1
        omega
      subst this
      rfl
  rw [this]
theorem thawed_eq {h : AH} {L : List Lay} {n : Int} (cl : Closed h) (hg : Good L) (hl : L.length < 1000) (hn : 0 ≤ n ∧ n < 1000) : F_Cover_thawed [eC L, .int n] h = .ok (eC (thawN n.toNat L)) h := by
  obtain ⟨g1, g2⟩ := thawN_good n.toNat hg
  have cl1 : Closed (h ++ [.lst (eLs (thawN n.toNat L))]) := closed_snoc cl fun n => lvs_eLs n _
  have hin := init_eq (L := thawN n.toNat L) (a := .ref h.length) cl1 vSq_end (by unfold sizeLine; omega) g1
  refine clean_ok (h1 := h) (g := [.lst (eLs (thawN n.toNat L))]) ?_ rfl (lv_eC _ _) cl
  obtain ⟨m, lp⟩ := thawed_while (h := h) (a := eC L) (d := .int n) hn hg hl
  have hn0 : ¬ n < 0 := by omega
  simp only [f_Cover_thawed, defSem, m_Cover_thawed]
  simp [mVar, fld_eC, hn0] at lp ⊢
  rw [lp]
  simp [mVar, hin]
  rfl
theorem thawed_bad {h : AH} {L : List Lay} {n : Int} (cl : Closed h) (hn : n < 0) : F_Cover_thawed [eC L, .int n] h = .exc "BadSize" [] h := by
  refine clean_sameX ?_ cl
  simp only [f_Cover_thawed, defSem, m_Cover_thawed]
  simp [mVar, hn]
/-! layer_at -/
def sumD (L : List Lay) : Int := (L.map (·.1)).sum
theorem sumD_cons (p : Lay) (L : List Lay) : sumD (p :: L) = p.1 + sumD L := by simp [sumD]
def layAt (L : List Lay) (d : Int) : Option Nat := (List.range L.length).reverse.find? fun k => decide (d < sumD (L.drop k))
theorem layer_at_bad {h : AH} {L : List Lay} {n : Int} (cl : Closed h) (hn : n < 0) : F_Cover_layer_at [eC L, .int n] h = .exc "BadSize" [] h := by
  refine clean_sameX ?_ cl
  simp only [f_Cover_layer_at, defSem, m_Cover_layer_at]
  simp [mVar, hn]
theorem layer_loop {h : AH} {d : Int} {L : List Lay} : ∀ (k : Nat), k ≤ L.length → forC (tName 3) B_Cover_layer_at_0 ((List.range k).reverse.map fun (i : Nat) => AV.int i) [some (eC L), some (.int d), some (.int (sumD (L.drop k))), none] h =
    match (List.range k).reverse.find? fun k => decide (d < sumD (L.drop k)) with
    | some j => .rt (.int (j : Nat)) h
    | none => .nx [some (eC L), some (.int d), some (.int (sumD L)), none] h
  | 0, _ => rfl
  | k + 1, hk => by
    have hk' : k < L.length := by omega
    have ih := layer_loop (h := h) (d := d) (L := L) k (by omega)
    rw [List.range_succ, List.reverse_append, List.reverse_singleton, List.singleton_append, List.map_cons, forC_cons (s1 := [some (eC L), some (.int d), some (.int (sumD (L.drop (k + 1)))), some (.int (k : Nat))]) rfl]
    have e1 : atI (eLs L) (k : Int) = some (eL L[k]) := by rw [S3.atI_nat (by omega)]; simp [eLs, hk']
    have e2 : sumD (L.drop k) = sumD (L.drop (k + 1)) + L[k].1 := by rw [List.drop_eq_getElem_cons hk', sumD_cons]; omega
    rw [List.find?_cons]
    by_cases hd : d < sumD (L.drop k)
    · simp [hd, B_Cover_layer_at_0, mVar, fld_eC, e1, eL, ← e2]
    · simp only [hd, decide_false]
      rw [← ih]
      simp [hd, B_Cover_layer_at_0, mVar, fld_eC, e1, eL, ← e2]
theorem layer_at_eq {h : AH} {L : List Lay} {n : Int} (cl : Closed h) (hl : L.length < 1000) (hn : 0 ≤ n) : F_Cover_layer_at [eC L, .int n] h = match layAt L n with
    | some j => .ok (.int (j : Nat)) h
    | none => .exc "NoSuch" [] h := by
  have lp := layer_loop (h := h) (d := n) (L := L) L.length (Nat.le_refl _)
  have hn0 : ¬ n < 0 := by omega
  have ee := rgN_down L.length
  have er : RgC ((L.length : Int) - 1) (-1) (-1) (rgN ((L.length : Int) - 1) (-1) (-1)) := rgC_ok (by decide) (by decide) (by omega) (by omega)
  have eu : upL ((L.length : Int) - 1) (-1) (rgN ((L.length : Int) - 1) (-1) (-1)) = (List.range L.length).reverse.map fun (i : Nat) => AV.int i := by
    rw [ee, upL_down]
  unfold layAt
  have e0 : sumD (L.drop L.length) = 0 := by simp [sumD]
  rw [e0] at lp
  cases k : (List.range L.length).reverse.find? fun k => decide (n < sumD (L.drop k)) with
  | some j =>
    rw [k] at lp
    refine clean_same ?_ trivial cl
    simp only [f_Cover_layer_at, defSem, m_Cover_layer_at]
    simp only [ap_seq, ap_ifS, ap_test, ap_bin, ap_asg, ap_forget, ap_for, ap_rg3]
    simp [mVar, fld_eC, hn0, er]
    rw [eu, lp]
    simp
  | none =>
    rw [k] at lp
    refine clean_sameX ?_ cl
    simp only [f_Cover_layer_at, defSem, m_Cover_layer_at]
    simp [mVar, fld_eC, hn0, er]
    rw [eu, lp]
    simp
end K01
end
section
set_option Elab.async false
set_option linter.all false
set_option maxRecDepth 100000
set_option maxHeartbeats 4000000
namespace K01
open PySem PySem.Spec PyProof.Rows L2 S3
/-! weakest -/
def ly (L : List Lay) (k : Nat) : Lay := L.getD k (0, 0)
abbrev fm (L : List Lay) (k : Nat) : Int := (ly L k).2
theorem at_eLs {L : List Lay} {k : Nat} (hk : k < L.length) : atI (eLs L) (k : Int) = some (eL (ly L k)) := by
  rw [S3.atI_nat (by omega)]
  simp [eLs, hk, ly]
theorem up1 (n : Nat) : upL 1 1 n = (List.range n).map fun (i : Nat) => AV.int ((i + 1 : Nat) : Int) := by
  refine List.ext_getElem (by simp [upL]) fun i h1 h2 => ?_
  simp [upL] at h1 h2 ⊢
  omega
def weakL (L : List Lay) : Option Nat := (List.range (L.length - 1)).find? fun k => decide (fm L (k + 1) + 2 ≤ fm L k)
theorem weakest_eq {h : AH} {L : List Lay} (cl : Closed h) (hl : L.length < 1000) : F_Cover_weakest [eC L] h = match weakL L with
    | some j => .ok (.int ((j + 1 : Nat) : Int)) h
    | none => .exc "NoWay" [] h := by
  have lp := forC_find (t := tName 1) (b := B_Cover_weakest_0) (s := [some (eC L), none]) (h := h) (fun (i : Nat) => AV.int ((i + 1 : Nat) : Int)) (fun k => decide (fm L (k + 1) + 2 ≤ fm L k)) (fun k => .rt (.int ((k + 1 : Nat) : Int)) h) (List.range (L.length - 1)) (fun k hk => by
    have hk : k < L.length - 1 := List.mem_range.mp hk
    have e1 := at_eLs (L := L) (k := k) (by omega)
    have e2 := at_eLs (L := L) (k := k + 1) (by omega)
    simp only [Int.natCast_add, Int.natCast_one] at e2
    refine ⟨_, rfl, fun hp K => ?_, fun hp => .inl ?_⟩
    · have hp := of_decide_eq_true hp
      simp [B_Cover_weakest_0, mVar, fld_eC, e1, eL, e2, hp]
    · have hp := of_decide_eq_false hp
      simp [B_Cover_weakest_0, mVar, fld_eC, e1, eL, e2, hp])
  rw [← up1] at lp
  have o1 : okN 1 := okN_ok (by omega) (by omega)
  have o2 : okN (L.length : Int) := okN_ok (by omega) (by omega)
  have ee : ((L.length : Int) - 1).toNat = L.length - 1 := by omega
  unfold weakL
  cases k : (List.range (L.length - 1)).find? fun k => decide (fm L (k + 1) + 2 ≤ fm L k) with
  | some j =>
    rw [k] at lp
    refine clean_same ?_ trivial cl
    simp only [f_Cover_weakest, defSem, m_Cover_weakest]
    simp [mVar, fld_eC, o1, o2, ee] at lp ⊢
    rw [lp]
    simp
  | none =>
    rw [k] at lp
    refine clean_sameX ?_ cl
    simp only [f_Cover_weakest, defSem, m_Cover_weakest]
    simp [mVar, fld_eC, o1, o2, ee] at lp ⊢
    rw [lp]
    simp
/-! weathered -/
def wStep (L : List Lay) (x : Nat × (Int × Int)) : List Lay :=
  let L1 := if x.2.1 ≤ 0 then (if 0 < x.2.2 then fallenL L x.2.2 else L) else thawN x.2.1.toNat L
  if x.1 % 8 = 7 then settledL L1 else L1
def eHr (x : (Int × Int) × Nat) : AV := .tup [.int (x.2 : Nat), .tup [.int x.1.1, .int x.1.2]]
theorem wStep_good {L : List Lay} {x : Nat × (Int × Int)} (hg : Good L) : Good (wStep L x) ∧ (wStep L x).length ≤ L.length + 1 := by
  have : ∀ L1, Good L1 ∧ L1.length ≤ L.length + 1 → Good (if x.1 % 8 = 7 then settledL L1 else L1) ∧ (if x.1 % 8 = 7 then settledL L1 else L1).length ≤ L.length + 1 := by
    rintro L1 ⟨g, l⟩
    split
    · obtain ⟨a, b⟩ := settled_good g
      exact ⟨a, by omega⟩
    · exact ⟨g, l⟩
  refine this _ ?_
  split
  · split
    · rename_i h1 h2
      exact ⟨fallen_good hg (by omega), fallen_len⟩
    · exact ⟨hg, by omega⟩
  · obtain ⟨a, b⟩ := thawN_good x.2.1.toNat hg
    exact ⟨a, by omega⟩
theorem weathered_eq {h : AH} {L : List Lay} {hs : List (Int × Int)} (cl : Closed h) (hg : Good L) (hl : L.length + hs.length < 1000) (hh : ∀ x ∈ hs, x.1 < 1000) : F_weathered [eC L, .lst (hs.map fun p => .tup [.int p.1, .int p.2])] h = .ok (eC (hs.zipIdx.foldl (fun L x => wStep L (x.2, x.1)) L)) h := by
  have lp := forC_fold (t := tTupT 2 (tMore (tName 2) (tMore (tTupT 2 (tMore (tName 3) (tMore (tName 4) (tNone)))) (tNone)))) (b := B_weathered_0) (σ := List Lay) (fun L => [some (eC L), some (.lst (hs.map fun p => .tup [.int p.1, .int p.2])), none, none, none]) (fun _ => h) eHr (fun L x => wStep L (x.2, x.1)) (fun r L => Good L ∧ L.length + r.length < 1000 ∧ ∀ x ∈ r, x.1.1 < 1000) (fun x r st hp => by
    obtain ⟨p1, p2, p3⟩ := hp
    obtain ⟨q1, q2⟩ := wStep_good (x := (x.2, x.1)) p1
    have p2' : st.length + (r.length + 1) < 1000 := p2
    refine ⟨⟨q1, by omega, fun y hy => p3 y (List.mem_cons_of_mem _ hy)⟩, _, rfl, .inl ?_⟩
    have hx := p3 x List.mem_cons_self
    obtain ⟨⟨w, d⟩, n⟩ := x
    have em : (0 : Int) < 8 := by omega
    have en : ((n : Int) % 8 = 7) ↔ n % 8 = 7 := by omega
    simp only at hx
    by_cases hw : w ≤ 0
    · by_cases hd : 0 < d
      · have e1 := fallen_eq (h := h) cl p1 (by omega) (show 1 ≤ d by omega)
        have g2 := fallen_good p1 (show 1 ≤ d by omega)
        have e2 := settled_eq (h := h) cl g2 (by have := fallen_len (L := st) (d := d); omega)
        by_cases hn : n % 8 = 7
        · simp [B_weathered_0, mVar, wStep, hw, hd, vIns_eC, e1, gMod_int em, en, hn, e2]
        · simp [B_weathered_0, mVar, wStep, hw, hd, vIns_eC, e1, gMod_int em, en, hn]
      · have e2 := settled_eq (h := h) cl p1 (by omega)
        by_cases hn : n % 8 = 7
        · simp [B_weathered_0, mVar, wStep, hw, hd, vIns_eC, gMod_int em, en, hn, e2]
        · simp [B_weathered_0, mVar, wStep, hw, hd, vIns_eC, gMod_int em, en, hn]
    · have e1 := thawed_eq (h := h) cl p1 (by omega) (show 0 ≤ w ∧ w < 1000 by omega)
      obtain ⟨g2, g3⟩ := thawN_good w.toNat p1
      have e2 := settled_eq (h := h) cl g2 (by omega)
      by_cases hn : n % 8 = 7
      · simp [B_weathered_0, mVar, wStep, hw, vIns_eC, e1, gMod_int em, en, hn, e2]
      · simp [B_weathered_0, mVar, wStep, hw, vIns_eC, e1, gMod_int em, en, hn]) hs.zipIdx L ⟨hg, by rw [List.length_zipIdx]; exact hl, fun x hx => hh _ (by
        have := List.mem_zipIdx hx
        obtain ⟨_, _, e⟩ := this
        rw [e]
        exact List.getElem_mem _)⟩
  refine clean_same ?_ (lv_eC _ _) cl
  simp only [f_weathered, defSem, m_weathered]
  simp [mVar, enumL_map] at lp ⊢
  rw [show (fun (p : (Int × Int) × Nat) => AV.tup [.int (p.2 : Nat), .tup [.int p.1.1, .int p.1.2]]) = eHr from rfl, lp]
  simp [mVar]
/-! deepest_day -/
end K01
end
section
set_option Elab.async false
set_option linter.all false
/-! plain law of lay_days -/
namespace K01.Lay
section
variable (N : Nat) (d : Nat → Int) (least : Int)
def start (k : Nat) : Bool := decide (least ≤ d k) && (decide (k = 0) || decide (d (k - 1) < least))
def endF : Nat → Nat → Nat
  | 0, k => k
  | n + 1, k => if d k < least then k else endF n (k + 1)
def endE (k : Nat) : Nat := endF d least (N - k) k
theorem endF_ok : ∀ (n k : Nat), k ≤ endF d least n k ∧ endF d least n k ≤ k + n ∧ (endF d least n k = k + n ∨ d (endF d least n k) < least) ∧ ∀ j, k ≤ j → j < endF d least n k → least ≤ d j
  | 0, k => ⟨Nat.le_refl _, Nat.le_refl _, .inl rfl, fun j h1 h2 => by have h2 : j < k := h2; omega⟩
  | n + 1, k => by
    unfold endF
    by_cases h : d k < least
    · rw [if_pos h]
      exact ⟨Nat.le_refl _, by omega, .inr h, fun j h1 h2 => by omega⟩
    · rw [if_neg h]
      obtain ⟨a, b, c, e⟩ := endF_ok n (k + 1)
      refine ⟨by omega, by omega, by rcases c with c | c; exact .inl (by omega); exact .inr c, fun j h1 h2 => ?_⟩
      by_cases hj : j = k
      · subst hj; omega
      · exact e j (by omega) h2
theorem endE_ok {k : Nat} (hk : k ≤ N) : k ≤ endE N d least k ∧ endE N d least k ≤ N ∧ (endE N d least k = N ∨ d (endE N d least k) < least) ∧ ∀ j, k ≤ j → j < endE N d least k → least ≤ d j := by
  obtain ⟨a, b, c, e⟩ := endF_ok d least (N - k) k
  exact ⟨a, by unfold endE; omega, by rcases c with c | c; exact .inl (by unfold endE; omega); exact .inr c, e⟩
/-- an end is what is first -/
theorem endE_le {k j : Nat} (hk : k ≤ N) (h1 : k ≤ j) (h2 : d j < least) : endE N d least k ≤ j := by
  obtain ⟨a, b, c, e⟩ := endE_ok N d least hk
  rcases Nat.lt_or_ge j (endE N d least k) with h | h
  · have := e j h1 h; omega
  · exact h
def lstep (F : List (Int × Int)) (x : Nat) : List (Int × Int) := if least ≤ d x then (match F.getLast? with
  | some p => if p.1 + p.2 = x then F.dropLast ++ [(p.1, p.2 + 1)] else F ++ [((x : Int), 1)]
  | none => [((x : Int), 1)]) else F
theorem last_start : ∀ n, 0 < n → least ≤ d (n - 1) → ∃ T kl, (List.range n).filter (start d least) = T ++ [kl] ∧ kl < n ∧ start d least kl = true ∧ (∀ j, kl ≤ j → j < n → least ≤ d j) ∧ ∀ t ∈ T, t < kl
  | 0, h, _ => absurd h (Nat.lt_irrefl 0)
  | n + 1, _, h => by
    have h : least ≤ d n := h
    rw [List.range_succ, List.filter_append]
    by_cases s : start d least n = true
    · refine ⟨(List.range n).filter (start d least), n, by simp [s], by omega, s, fun j h1 h2 => by rw [show j = n by omega]; exact h, fun t ht => ?_⟩
      have := (List.mem_filter.mp ht).1
      exact List.mem_range.mp this
    · have s2 : n ≠ 0 ∧ least ≤ d (n - 1) := by
        simp [start, h] at s
        exact ⟨s.1, by omega⟩
      obtain ⟨T, kl, a, b, c, e, f⟩ := last_start n (by omega) s2.2
      refine ⟨T, kl, by simp [s, a], by omega, c, fun j h1 h2 => ?_, f⟩
      by_cases hj : j = n
      · subst hj; exact h
      · exact e j h1 (by omega)
def cutE (n k : Nat) : Int × Int := ((k : Int), ((min (endE N d least k) n : Nat) : Int) - k)
theorem lay_fold : ∀ n, n ≤ N → (List.range n).foldl (lstep d least) [] = ((List.range n).filter (start d least)).map (cutE N d least n)
  | 0, _ => rfl
  | n + 1, hn => by
    have ih := lay_fold n (by omega)
    rw [List.range_succ, List.foldl_append, ih, List.filter_append, List.map_append]
    show lstep d least _ n = _
    have mem : ∀ k ∈ (List.range n).filter (start d least), k < n := fun k hk => List.mem_range.mp (List.mem_filter.mp hk).1
    by_cases h : least ≤ d n
    · have ne : ∀ k, k ≤ N → endE N d least k ≠ n := fun k hk z => by
        obtain ⟨a, b, c, e⟩ := endE_ok N d least hk
        rcases c with c | c
        · omega
        · rw [z] at c; omega
      by_cases s : start d least n = true
      · have low : n = 0 ∨ d (n - 1) < least := by simp [start, h] at s; exact s
        have same : ((List.range n).filter (start d least)).map (cutE N d least n) = ((List.range n).filter (start d least)).map (cutE N d least (n + 1)) := by
          refine List.map_congr_left fun k hk => ?_
          have hk' := mem k hk
          have := endE_le N d least (k := k) (j := n - 1) (by omega) (by omega) (by rcases low with l | l; omega; exact l)
          unfold cutE
          rw [Nat.min_eq_left (by omega), Nat.min_eq_left (by omega)]
        have tail : ([n].filter (start d least)).map (cutE N d least (n + 1)) = [((n : Int), 1)] := by
          have := endE_ok N d least (k := n) (by omega)
          have := ne n (by omega)
          simp [s, cutE]
          rw [Nat.min_eq_right (by omega)]
          omega
        rw [tail, ← same]
        unfold lstep
        rw [if_pos h]
        rcases List.eq_nil_or_concat ((List.range n).filter (start d least)) with e | ⟨T, kl, e⟩
        · rw [e]; rfl
        · rw [List.concat_eq_append] at e
          have hk' := mem kl (by rw [e]; simp)
          have := endE_le N d least (k := kl) (j := n - 1) (by omega) (by omega) (by rcases low with l | l; omega; exact l)
          rw [e, List.map_append]
          simp only [List.map_cons, List.map_nil, List.getLast?_append, List.getLast?_singleton, Option.some_or]
          rw [if_neg (by simp only [cutE]; omega)]
      · have s2 : 0 < n ∧ least ≤ d (n - 1) := by
          simp [start, h] at s
          exact ⟨by omega, by omega⟩
        obtain ⟨T, kl, a, b, c, e, f⟩ := last_start d least n s2.1 s2.2
        rw [a, List.map_append, List.map_append]
        have hT : T.map (cutE N d least n) = T.map (cutE N d least (n + 1)) := by
          refine List.map_congr_left fun k hk => ?_
          have hk' := f k hk
          have low : d (kl - 1) < least := by
            simp [start] at c
            rcases c.2 with z | z
            · omega
            · exact z
          have := endE_le N d least (k := k) (j := kl - 1) (by omega) (by omega) low
          unfold cutE
          rw [Nat.min_eq_left (by omega), Nat.min_eq_left (by omega)]
        have hkl : n < endE N d least kl := by
          obtain ⟨a1, b1, c1, e1⟩ := endE_ok N d least (k := kl) (by omega)
          have := ne kl (by omega)
          rcases Nat.lt_or_ge (endE N d least kl) n with z | z
          · rcases c1 with c1 | c1
            · omega
            · have := e _ a1 z; omega
          · omega
        have e1 : cutE N d least n kl = ((kl : Int), (n : Int) - kl) := by unfold cutE; rw [Nat.min_eq_right (by omega)]
        have e2 : cutE N d least (n + 1) kl = ((kl : Int), (n : Int) - kl + 1) := by unfold cutE; rw [Nat.min_eq_right (by omega)]; congr 1; omega
        rw [← hT]
        simp only [List.map_cons, List.map_nil, e1, e2]
        unfold lstep
        rw [if_pos h]
        simp only [List.getLast?_append, List.getLast?_singleton, Option.some_or, List.dropLast_concat]
        rw [if_pos (by omega)]
        simp [s]
    · have ns : start d least n = false := by simp [start]; intro z; omega
      unfold lstep
      rw [if_neg h]
      simp [ns]
      intro k hk hs
      have := endE_le N d least (k := k) (j := n) (by omega) (by omega) (by omega)
      unfold cutE
      rw [Nat.min_eq_left (by omega), Nat.min_eq_left (by omega)]
end
end K01.Lay
end
section
set_option Elab.async false
set_option linter.all false
set_option maxRecDepth 100000
set_option maxHeartbeats 4000000
namespace K01
open PySem PySem.Spec PyProof.Rows L2 S3
/-! lay_days -/
abbrev dg (D : List Int) (k : Nat) : Int := nth 0 D k
theorem lstep_len {d : Nat → Int} {l : Int} {F : List Lay} {x : Nat} : (Lay.lstep d l F x).length ≤ F.length + 1 := by
  unfold Lay.lstep
  split
  · split
    · split <;> simp
    · simp
  · omega
theorem lay_days_eq {h : AH} (cl : Closed h) (D : List Int) (l : Int) (hl : D.length < 1000) : F_lay_days [.lst (D.map .int), .int l] h = .ok (.tup (((List.range D.length).filter (Lay.start (dg D) l)).map fun k => eL (Lay.cutE D.length (dg D) l D.length k))) h := by
  have lp := forC_fold (t := tTupT 2 (tMore (tName 3) (tMore (tName 4) tNone))) (b := B_lay_days_0) (σ := List Lay) (fun F => [some (.lst (D.map .int)), some (.int l), some (.ref h.length), none, none]) (fun F => h ++ [.lst (eLs F)]) (fun (k : Nat) => .tup [.int (k : Nat), .int (dg D k)]) (Lay.lstep (dg D) l) (fun r F => F.length + r.length < 1000) (fun x r F hp => by
    have hp : F.length + (r.length + 1) < 1000 := hp
    have := lstep_len (d := dg D) (l := l) (F := F) (x := x)
    refine ⟨by omega, _, rfl, .inl ?_⟩
    have fl : ∀ R : List Lay, ∀ x ∈ R, Flat 59 (eL x) := fun R x _ => flat_pair
    rcases List.eq_nil_or_concat F with rfl | ⟨R, p, rfl⟩
    · by_cases h1 : l ≤ dg D x
      · simp [B_lay_days_0, mVar, h1, Lay.lstep, append_end, eL]
      · simp [B_lay_days_0, mVar, h1, Lay.lstep]
    · rw [List.concat_eq_append] at *
      have hl3 : R.length + 1 < 16777216 := by simp at hp; omega
      by_cases h1 : l ≤ dg D x
      · by_cases h2 : p.1 + p.2 = x
        · simp [B_lay_days_0, mVar, h1, h2, Lay.lstep, append_end, eL, hl3]
        · simp [B_lay_days_0, mVar, h1, h2, Lay.lstep, append_end, eL, hl3]
      · simp [B_lay_days_0, mVar, h1, Lay.lstep]) (List.range D.length) [] (by simpa using hl)
  rw [Lay.lay_fold D.length (dg D) l D.length (Nat.le_refl _)] at lp
  refine clean_ok (h1 := h) (g := [.lst (eLs (((List.range D.length).filter (Lay.start (dg D) l)).map (Lay.cutE D.length (dg D) l D.length)))]) ?_ rfl (LVs.of fun x hx => by
    obtain ⟨k, _, rfl⟩ := List.mem_map.mp hx
    exact ⟨trivial, trivial, trivial⟩) cl
  simp only [f_lay_days, defSem, m_lay_days]
  simp [mVar, enumL_rng (0 : Int)] at lp ⊢
  rw [lp]
  simp [mVar, gTuple]
/-! deepest_day -/
def mx (D : List Int) : Int := match D with
  | [] => 0
  | x :: L => maxL x L
theorem maxL_mem (x : Int) (L : List Int) : maxL x L ∈ x :: L := by
  unfold maxL
  induction L generalizing x with
  | nil => exact List.mem_cons_self
  | cons y L ih =>
    rw [List.foldl_cons]
    have := ih (if DtO.lt x y = true then y else x)
    rcases List.mem_cons.mp this with e | e
    · rw [e]; split <;> simp
    · exact List.mem_cons_of_mem _ (List.mem_cons_of_mem _ e)
theorem mx_mem {D : List Int} (h : D ≠ []) : mx D ∈ D := by
  cases D with
  | nil => exact absurd rfl h
  | cons x L => exact maxL_mem x L
theorem gMax_ints {h : AH} {D : List Int} (hd : D ≠ []) : gMax [.lst (D.map .int)] h = some (.int (mx D)) := by
  cases D with
  | nil => exact absurd rfl hd
  | cons x L => exact gMax_enc (τ := Int) (x := x) (L := L) rfl (by decide)
theorem gIndex_mx {h : AH} {D : List Int} (hd : D ≠ []) : gIndex (.lst (D.map .int)) [.int (mx D)] h = some (.int (D.idxOf (mx D) : Nat), h) := gIndex_int rfl (mx_mem hd)
theorem deepest_eq {h : AH} (cl : Closed h) {D : List Int} (hd : D ≠ []) : F_deepest_day [.lst (D.map .int)] h = .ok (.tup [.int (D.idxOf (mx D) : Nat), .int (mx D)]) h := by
  refine clean_same ?_ ⟨trivial, trivial, trivial⟩ cl
  simp only [f_deepest_day, defSem, m_deepest_day]
  simp [mVar, hd, gMax_ints hd, gIndex_mx hd, tyL]
theorem deepest_no {h : AH} (cl : Closed h) : F_deepest_day [.lst []] h = .exc "NoWay" [] h := by
  refine clean_sameX ?_ cl
  simp only [f_deepest_day, defSem, m_deepest_day]
  simp [mVar]
/-! the law's own -/
theorem lvl_eLs (n : Nat) (L : List Lay) : LV n (.lst (eLs L)) := lvs_eLs n L
theorem law_fallen_eq {h : AH} {L : List Lay} {d : Int} (cl : Closed h) (hl : L.length < 1000) : F__law_fallen [.lst (eLs L), .int d] h = .ok (.lst (eLs (fallenL L d))) h := by
  refine clean_same ?_ (lvl_eLs _ _) cl
  rcases List.eq_nil_or_concat L with rfl | ⟨R, p, rfl⟩
  · simp (disch := first | assumption | omega | (simp; done) | (simp; omega)) [mVar, f__law_fallen, defSem, m__law_fallen, fallenL, eL]
  · rw [List.concat_eq_append] at *
    have hl2 : R.length + 1 < 1000 := by simpa using hl
    by_cases hp : p.2 = 1
    · simp (disch := first | assumption | omega | (simp; done) | (simp; omega)) [mVar, f__law_fallen, defSem, m__law_fallen, fallenL, eL, hp]
    · simp (disch := first | assumption | omega | (simp; done) | (simp; omega)) [mVar, f__law_fallen, defSem, m__law_fallen, fallenL, eL, hp]
/-! law settled -/
theorem law_settled_eq {h : AH} {L : List Lay} (cl : Closed h) (hl : L.length < 1000) : F__law_settled [.lst (eLs L)] h = .ok (.lst (eLs (settledL L))) h := by
  refine clean_same ?_ (lvl_eLs _ _) cl
  have lp := forC_fold (t := tTupT 2 (tMore (tName 2) (tMore (tName 3) tNone))) (b := B__law_settled_3) (σ := List Lay) (fun R => [some (.lst (eLs L)), some (.lst (eLs R)), none, none, none, none]) (fun _ => h) eL (fun R p => joinL R (ripe p)) (fun r R => R.length + r.length < 1000) (fun p r R hp => by
    have hp' : R.length + (r.length + 1) < 1000 := hp
    have := join_len (R := R) (q := ripe p)
    refine ⟨by omega, _, rfl, .inl ?_⟩
    rcases List.eq_nil_or_concat R with rfl | ⟨R, q, rfl⟩
    · by_cases h1 : p.2 < 5
      · simp (disch := first | assumption | omega | (simp; done) | (simp; omega)) [mVar, B__law_settled_3, ripe, joinL, eL, h1]
      · simp (disch := first | assumption | omega | (simp; done) | (simp; omega)) [mVar, B__law_settled_3, ripe, joinL, eL, h1]
    · rw [List.concat_eq_append] at *
      have hl3 : R.length + 1 < 1000 := by simp at hp'; omega
      by_cases h1 : p.2 < 5
      · by_cases h2 : q.2 = p.2 + 1
        · simp (disch := first | assumption | omega | (simp; done) | (simp; omega)) [mVar, B__law_settled_3, ripe, joinL, eL, h1, h2]
        · simp (disch := first | assumption | omega | (simp; done) | (simp; omega)) [mVar, B__law_settled_3, ripe, joinL, eL, h1, h2]
      · by_cases h2 : q.2 = p.2
        · simp (disch := first | assumption | omega | (simp; done) | (simp; omega)) [mVar, B__law_settled_3, ripe, joinL, eL, h1, h2]
        · simp (disch := first | assumption | omega | (simp; done) | (simp; omega)) [mVar, B__law_settled_3, ripe, joinL, eL, h1, h2]) L [] (by simpa using hl)
  simp (disch := first | assumption | omega | (simp; done) | (simp; omega)) [mVar, f__law_settled, defSem, m__law_settled] at lp ⊢
  rw [lp]
  simp (disch := first | assumption | omega | (simp; done) | (simp; omega)) [mVar, settledL]
/-! law thawed -/
theorem thaw1_len {R : List Lay} : (thaw1 R).length ≤ R.length := by
  rcases List.eq_nil_or_concat R with rfl | ⟨R, p, rfl⟩
  · exact Nat.le_refl _
  · rw [List.concat_eq_append, thaw1_snoc]
    split <;> simp
theorem fold_thaw {α : Type} : ∀ (X : List α) (L : List Lay), X.foldl (fun R _ => thaw1 R) L = thawN X.length L
  | [], L => rfl
  | x :: X, L => fold_thaw X (thaw1 L)
theorem law_thawed_eq {h : AH} {L : List Lay} {n : Int} (cl : Closed h) (hl : L.length < 1000) (hn : 0 ≤ n ∧ n < 1000) : F__law_thawed [.lst (eLs L), .int n] h = .ok (.lst (eLs (thawN n.toNat L))) h := by
  refine clean_same ?_ (lvl_eLs _ _) cl
  have lp := forC_fold (t := tName 2) (b := B__law_thawed_4) (σ := List Lay) (fun R => [some (.lst (eLs R)), some (.int n), none, none, none, none]) (fun _ => h) (fun (k : Nat) => AV.int k) (fun R p => thaw1 R) (fun r R => R.length < 1000) (fun p r R hp => by
    have := thaw1_len (R := R)
    refine ⟨by omega, _, rfl, .inl ?_⟩
    rcases List.eq_nil_or_concat R with rfl | ⟨R, q, rfl⟩
    · simp (disch := first | assumption | omega | (simp; done) | (simp; omega)) [mVar, B__law_thawed_4, thaw1]
    · rw [List.concat_eq_append] at *
      have hl3 : R.length + 1 < 1000 := by simpa using hp
      by_cases h1 : q.2 = 1
      · by_cases h2 : 2 < q.1
        · simp (disch := first | assumption | omega | (simp; done) | (simp; omega)) [mVar, B__law_thawed_4, thaw1, eL, each, h1, h2]
        · simp (disch := first | assumption | omega | (simp; done) | (simp; omega)) [mVar, B__law_thawed_4, thaw1, eL, each, h1, h2]
      · by_cases h2 : 1 < q.1
        · simp (disch := first | assumption | omega | (simp; done) | (simp; omega)) [mVar, B__law_thawed_4, thaw1, eL, each, h1, h2]
        · simp (disch := first | assumption | omega | (simp; done) | (simp; omega)) [mVar, B__law_thawed_4, thaw1, eL, each, h1, h2]) (List.range n.toNat) L hl
  rw [← upL_nat, fold_thaw, List.length_range] at lp
  simp (disch := first | assumption | omega | (simp; done) | (simp; omega)) [mVar, f__law_thawed, defSem, m__law_thawed] at lp ⊢
  rw [lp]
  simp (disch := first | assumption | omega | (simp; done) | (simp; omega)) [mVar]
end K01
end
section
set_option Elab.async false
set_option linter.all false
set_option maxRecDepth 100000
set_option maxHeartbeats 4000000
namespace K01
open PySem PySem.Spec PyProof.Rows L2 S3
/-! the dice on the heap -/
abbrev DS := Int × Int × Int
def HD (d : DS) (g : AH) : AH := dice d.1 d.2.1 d.2.2 :: g
theorem hd_app {d : DS} {g f : AH} : HD d g ++ f = HD d (g ++ f) := rfl
@[simp] theorem hd_len {d : DS} {g : AH} : (HD d g).length = g.length + 1 := rfl
@[simp] theorem hd_get {d : DS} {g : AH} {n : Nat} : (HD d g)[n + 1]? = g[n]? := rfl
@[simp] theorem hd_set {d : DS} {g : AH} {n : Nat} {o : AO} : (HD d g).set (n + 1) o = HD d (g.set n o) := rfl
theorem closed_hd {d : DS} {g : AH} : Closed g → (∀ o ∈ g, ∀ n, LO n o) → Closed (HD d g) := fun cg hg i o e => by
  cases i with
  | zero => cases e; exact ⟨trivial, trivial, trivial, trivial⟩
  | succ i =>
    have e : g[i]? = some o := e
    exact hg o (List.mem_of_getElem? e) _
theorem closed_h0 {d : DS} : Closed (HD d []) := closed_hd closed_nil fun _ z => nomatch z
theorem closed_h1 {d : DS} {xs : List AV} (l : ∀ n, LVs n xs) : Closed (HD d [.lst xs]) := closed_hd (fun i o e => by
  cases i with
  | zero => cases e; exact l _
  | succ i => cases e) fun o ho n => by
    obtain rfl := List.mem_singleton.mp ho
    exact l n
theorem roll_ex (d : DS) {g : AH} (cl : Closed (HD d g)) {many : Int} (hm : 1 ≤ many ∧ many < 1000000) : ∃ (r : Int) (d' : DS), F__law_roll [.ref 0, .int many] (HD d g) = .ok (.int r) (HD d' g) ∧ 0 ≤ r ∧ r < many := by
  obtain ⟨r, a, b, c, e, h1, h2⟩ := roll_eq (n := 0) (a := d.1) (b := d.2.1) (c := d.2.2) (many := many) cl rfl hm
  exact ⟨r, (a, b, c), e, h1, h2⟩
/-- so many rolls told as a list -/
theorem rolls_ex {t : Gt} {s : Sl} {e : ME} {V : Int → Prop} {g : AH} : ∀ (xs : List AV) (d : DS), (∀ x ∈ xs, ∀ d, ∃ s1 r d', t x s (HD d g) = some s1 ∧ e s1 (HD d g) = .ok (.int r) (HD d' g) ∧ V r) → xs.length ≤ 1000 → ∃ (vs : List Int) (d' : DS), lcC t mYes e s xs [] (HD d g) = .ok (vs.map AV.int) (HD d' g) ∧ vs.length = xs.length ∧ ∀ v ∈ vs, V v := fun xs d H hl => by
  obtain ⟨vs, h', e1, ⟨d', i1⟩, l1, v1⟩ := lcC_st (τ := Int) (t := t) (e := e) (s0 := s) (I := fun h => ∃ d, h = HD d g) (V := V) (enc := AV.int) xs [] (HD d g) (fun x hx h ⟨d, ed⟩ => by
    subst ed
    obtain ⟨s1, r, d', e1, e2, e3⟩ := H x hx d
    exact ⟨s1, e1, r, _, e2, ⟨d', rfl⟩, e3⟩) ⟨d, rfl⟩ (by unfold sizeLine; simp; omega)
  subst i1
  exact ⟨vs, d', e1, l1, v1⟩
section
variable {d : DS} {g : AH} {xs : List AV} {a : AV} {i : Int}
@[simp] theorem ix_h1 : gIx (.ref 1) (.int i) (HD d (.lst xs :: g)) = atI xs i := ix_ref rfl
@[simp] theorem ap_h1 (l : xs.length < 16777216) : gAppend (.ref 1) [a] (HD d (.lst xs :: g)) = some (.non, HD d (.lst (xs ++ [a]) :: g)) := append_ref (n := 1) rfl l
@[simp] theorem tyL_h1 : tyL (.ref 1) (HD d (.lst xs :: g)) = true := rfl
@[simp] theorem tyL_lst {h : AH} : tyL (.lst xs) h = true := rfl
end
/-! rest1 -/
def mn (D : List Int) : Int := match D with
  | [] => 0
  | x :: L => minL x L
theorem mn_ok {D : List Int} (h : D ≠ []) : mn D ∈ D ∧ ∀ y ∈ D, mn D ≤ y := by
  cases D with
  | nil => exact absurd rfl h
  | cons x L =>
    obtain ⟨a, b⟩ := minL_le x L
    refine ⟨a, fun y hy => ?_⟩
    have := b y hy
    have : ¬ y < minL x L := by simpa [DtO.lt] using this
    show minL x L ≤ y
    omega
theorem gMin_ints {h : AH} {D : List Int} (hd : D ≠ []) : gMin [.lst (D.map .int)] h = some (.int (mn D)) := by
  cases D with
  | nil => exact absurd rfl hd
  | cons x L => exact gMin_enc (τ := Int) (x := x) (L := L) rfl (by decide)
def eRun (D : List Int) (l : Int) (k : Nat) : AV := eL (Lay.cutE D.length (dg D) l D.length k)
def runsTo (D : List Int) (l : Int) (n : Nat) : List AV := ((List.range n).filter (Lay.start (dg D) l)).map (eRun D l)
def upK (D : List Int) (k : Nat) : List Int := (List.range (D.length + 1 - k)).map fun (i : Nat) => ((k + i : Nat) : Int)
def endsOf (D : List Int) (l : Int) (k : Nat) : List Int := (upK D k).filter fun (e : Int) => decide (e = D.length) || decide (dg D e.toNat < l)
theorem ends_min {D : List Int} {l : Int} {k : Nat} (hk : k < D.length) : mn (endsOf D l k) = (Lay.endE D.length (dg D) l k : Nat) ∧ (endsOf D l k) ≠ [] := by
  obtain ⟨a, b, c, e⟩ := Lay.endE_ok D.length (dg D) l (k := k) (by omega)
  have hm : ((Lay.endE D.length (dg D) l k : Nat) : Int) ∈ endsOf D l k := by
    unfold endsOf upK
    rw [List.mem_filter, List.mem_map]
    refine ⟨⟨Lay.endE D.length (dg D) l k - k, List.mem_range.mpr (by omega), by omega⟩, ?_⟩
    simp
    rcases c with c | c
    · exact .inl (by omega)
    · exact .inr c
  have hne : (endsOf D l k) ≠ [] := fun z => by rw [z] at hm; cases hm
  refine ⟨?_, hne⟩
  obtain ⟨m1, m2⟩ := mn_ok hne
  have h1 := m2 _ hm
  have ev0 : endsOf D l k = ((List.range (D.length + 1 - k)).map fun (i : Nat) => ((k + i : Nat) : Int)).filter fun (e : Int) => decide (e = D.length) || decide (dg D e.toNat < l) := rfl
  generalize mn (endsOf D l k) = M at *
  rw [ev0] at m1
  rw [List.mem_filter, List.mem_map] at m1
  obtain ⟨⟨i, hi, ei⟩, low⟩ := m1
  rw [← ei] at low h1 ⊢
  have hi := List.mem_range.mp hi
  have e6 : ((k : Int) + (i : Int)).toNat = k + i := by omega
  simp [e6] at low
  have : Lay.endE D.length (dg D) l k ≤ k + i := by
    rcases low with low | low
    · omega
    · exact Lay.endE_le D.length (dg D) l (by omega) (by omega) low
  omega
theorem ends_lc {h : AH} {D : List Int} {l : Int} {k : Nat} (hk : k < D.length) (hl : D.length < 1000) {v0 v1 v2 v5 v7 v8 v9 : Option AV} : mLc (mRg2 (mCons (mVar 6) (mCons (mBin gAdd (mFn gLen (mCons (mVar 3) (mNil))) (mC (.int 1))) (mNil)))) (tName 10) (mOr (mTest (mBin (gEq false) (mVar 10) (mFn gLen (mCons (mVar 3) (mNil))))) (mTest (mBin gLt (mBin gIx (mVar 3) (mVar 10)) (mVar 4)))) (mVar 10) [10] [v0, v1, v2, some (.lst (D.map .int)), some (.int l), v5, some (.int k), v7, v8, v9, none] h = .ok (.lst ((endsOf D l k).map .int)) h := by
  have eu : upL (k : Int) 1 ((D.length : Int) + 1 - k).toNat = (upK D k).map AV.int := by
    unfold upK
    rw [upL_map, List.map_map, List.map_map, show ((D.length : Int) + 1 - k).toNat = D.length + 1 - k by omega]
    refine List.map_congr_left fun i _ => ?_
    simp
  rw [lcA_ok (rd := rdC (upL (k : Int) 1 ((D.length : Int) + 1 - k).toNat)) (h1 := h) AV.int (fun (e : Int) => decide (e = D.length) || decide (dg D e.toNat < l)) AV.int (upK D k) (by simp (disch := first | assumption | omega | (simp; done) | (simp; omega)) [mVar]) (by rw [eu]; rfl) ?_ (by unfold upK sizeLine; simp; omega)]
  · rfl
  · intro x hx
    unfold upK at hx
    obtain ⟨i, hi, rfl⟩ := List.mem_map.mp hx
    have hi := List.mem_range.mp hi
    refine ⟨_, rfl, ?_, fun _ => rfl⟩
    have e6 : ((k : Int) + (i : Int)).toNat = k + i := by omega
    by_cases h2 : k + i = D.length
    · have h3 : ((k + i : Nat) : Int) = D.length := by omega
      simp (disch := first | assumption | omega | (simp; done) | (simp; omega)) [mVar, h3]
    · have h3 : ¬ ((k + i : Nat) : Int) = D.length := by omega
      have e1 := atI_nth (f := AV.int) (0 : Int) (L := D) (k := k + i) (by omega)
      by_cases h4 : dg D (k + i) < l
      · have h5 : nth 0 D (k + i) < l := h4
        rw [Int.natCast_add] at e1 h3
        simp (disch := first | assumption | omega | (simp; done) | (simp; omega)) [mVar, h3, e1, h5, e6]
      · have h5 : ¬ nth 0 D (k + i) < l := h4
        rw [Int.natCast_add] at e1 h3
        simp (disch := first | assumption | omega | (simp; done) | (simp; omega)) [mVar, h3, e1, h5, e6]
theorem run_body {d : DS} {D : List Int} {l : Int} {k : Nat} (hk : k < D.length) (hl : D.length < 1000) {c t : AV} : B__law_rest1_3 [some (.ref 0), some c, some t, some (.lst (D.map .int)), some (.int l), some (.ref 1), some (.int k), none, none, none, none] (HD d [.lst (runsTo D l k)]) = .nx [some (.ref 0), some c, some t, some (.lst (D.map .int)), some (.int l), some (.ref 1), none, none, none, none, none] (HD d [.lst (runsTo D l (k + 1))]) := by
  have e1 := atI_nth (f := AV.int) (0 : Int) hk
  obtain ⟨m1, m2⟩ := ends_min (l := l) hk
  have len : (runsTo D l k).length ≤ k := by
    unfold runsTo
    rw [List.length_map]
    exact Nat.le_trans (List.length_filter_le _ _) (by simp)
  have er : runsTo D l (k + 1) = if Lay.start (dg D) l k = true then runsTo D l k ++ [eRun D l k] else runsTo D l k := by
    unfold runsTo
    rw [List.range_succ, List.filter_append, List.map_append]
    split <;> simp [*]
  have ee : eRun D l k = .tup [.int k, .int ((Lay.endE D.length (dg D) l k : Nat) - k)] := by
    obtain ⟨a, b, _, _⟩ := Lay.endE_ok D.length (dg D) l (k := k) (by omega)
    unfold eRun eL Lay.cutE
    rw [Nat.min_eq_left b]
  have elc := fun h => ends_lc (h := h) (l := l) hk hl (v0 := some (.ref 0)) (v1 := some c) (v2 := some t) (v5 := some (.ref 1)) (v7 := none) (v8 := none) (v9 := none)
  have emn := fun h => gMin_ints (h := h) m2
  rw [m1] at emn
  rw [er]
  by_cases h1 : l ≤ dg D k
  · by_cases h0 : k = 0
    · subst h0
      have hs : Lay.start (dg D) l 0 = true := by simp [Lay.start, h1]
      rw [if_pos hs, ee]
      have h1' : l ≤ nth 0 D 0 := h1
      simp only [Int.natCast_zero] at e1 elc
      simp (disch := first | assumption | omega | (simp; done) | (simp; omega)) [mVar, B__law_rest1_3, e1, h1', elc, emn, -ap_lc]
    · have e0 := atI_nth (f := AV.int) (0 : Int) (L := D) (k := k - 1) (by omega)
      rw [show ((k - 1 : Nat) : Int) = (k : Int) - 1 by omega] at e0
      by_cases h2 : dg D (k - 1) < l
      · have hs : Lay.start (dg D) l k = true := by simp [Lay.start, h1, h2]
        rw [if_pos hs, ee]
        simp (disch := first | assumption | omega | (simp; done) | (simp; omega)) [mVar, B__law_rest1_3, e1, h1, h0, e0, h2, elc, emn, -ap_lc]
      · have hs : Lay.start (dg D) l k = false := by simp [Lay.start, h2, h0]
        rw [hs]
        simp (disch := first | assumption | omega | (simp; done) | (simp; omega)) [mVar, B__law_rest1_3, e1, h1, h0, e0, h2]
  · have hs : Lay.start (dg D) l k = false := by simp [Lay.start]; intro; omega
    rw [hs]
    simp (disch := first | assumption | omega | (simp; done) | (simp; omega)) [mVar, B__law_rest1_3, e1, h1]
end K01
end
section
set_option Elab.async false
set_option linter.all false
set_option maxRecDepth 100000
set_option maxHeartbeats 4000000
namespace K01
open PySem PySem.Spec PyProof.Rows L2 S3
theorem rest1_eq {L : List Lay} {x : Int} (hg : Good L) (hl : L.length < 1000) (hx : 0 ≤ x ∧ x < 60) (d : DS) : ∃ d', F__law_rest1 [.ref 0, eC L, .int x] (HD d []) = .ok (.bl true) (HD d' []) := by
  obtain ⟨r1, d1, e1, b1⟩ := roll_ex d closed_h0 (many := 9) (by omega)
  obtain ⟨D, d2, e2, l2, b2⟩ := rolls_ex (g := []) (t := tName 6) (s := [some (.ref 0), some (eC L), some (.int x), none, none, none, none, none, none, none, none]) (e := mCall F__law_roll (mCons (mVar 0) (mCons (mC (.int 12)) mNil))) (V := fun r => 0 ≤ r ∧ r < 12) (upL 0 1 r1.toNat) d1 (fun y hy d => by
    obtain ⟨r, d', e, b⟩ := roll_ex d closed_h0 (many := 12) (by omega)
    exact ⟨_, r, d', rfl, by simp (disch := first | assumption | omega | (simp; done) | (simp; omega)) [mVar, e], b⟩) (by rw [upL_len]; omega)
  obtain ⟨r3, d3, e3, b3⟩ := roll_ex d2 closed_h0 (many := 10) (by omega)
  have hD : D.length < 1000 := by rw [l2, upL_len]; omega
  have c1 : Closed (HD d3 [.lst (runsTo D (1 + r3) D.length)]) := closed_h1 fun n => LVs.of fun y hy => by
    obtain ⟨k, _, rfl⟩ := List.mem_map.mp hy
    exact ⟨trivial, trivial, trivial⟩
  have clN : ∀ dd, Closed (HD dd [.lst (runsTo D (1 + r3) D.length)]) := fun dd => closed_h1 fun n => LVs.of fun y hy => by
    obtain ⟨k, _, rfl⟩ := List.mem_map.mp hy
    exact ⟨trivial, trivial, trivial⟩
  have lp := forC_range (t := tName 6) (b := B__law_rest1_3) (fun k => [some (.ref 0), some (eC L), some (.int x), some (.lst (D.map .int)), some (.int (1 + r3)), some (.ref 1), none, none, none, none, none]) (fun k => HD d3 [.lst (runsTo D (1 + r3) k)]) D.length (fun k hk => ⟨_, rfl, .inl (run_body hk hD)⟩)
  have eld := lay_days_eq (h := HD d3 [.lst (runsTo D (1 + r3) D.length)]) c1 D (1 + r3) hD
  have chk5 : S__law_rest1_5 [some (.ref 0), some (eC L), some (.int x), some (.lst (D.map .int)), some (.int (1 + r3)), some (.ref 1), none, none, none, none, none] (HD d3 [.lst (runsTo D (1 + r3) D.length)]) = .nx [some (.ref 0), some (eC L), some (.int x), some (.lst (D.map .int)), some (.int (1 + r3)), some (.ref 1), none, none, none, none, none] (HD d3 [.lst (runsTo D (1 + r3) D.length)]) := by
    refine chk_ok (ne_pyv (a := .lst (runsTo D (1 + r3) D.length)) (b := .ref 1) (h1 := HD d3 [.lst (runsTo D (1 + r3) D.length)]) (by simp (disch := first | assumption | omega | (simp; done) | (simp; omega)) [mVar, eld]; rfl) (by simp (disch := first | assumption | omega | (simp; done) | (simp; omega)) [mVar]) ?_ rfl rfl)
    refine flat_lst fun y hy => ?_
    obtain ⟨k, _, rfl⟩ := List.mem_map.mp hy
    exact flat_pair
  have chk6 : S__law_rest1_6 [some (.ref 0), some (eC L), some (.int x), some (.lst (D.map .int)), some (.int (1 + r3)), some (.ref 1), none, none, none, none, none] (HD d3 [.lst (runsTo D (1 + r3) D.length)]) = .nx [some (.ref 0), some (eC L), some (.int x), some (.lst (D.map .int)), some (.int (1 + r3)), some (.ref 1), none, none, none, none, none] (HD d3 [.lst (runsTo D (1 + r3) D.length)]) := by
    by_cases hD0 : D = []
    · subst hD0
      have e := deepest_no c1
      refine chk_ok (ne_same (a := .str "no way") (h1 := HD d3 [.lst (runsTo [] (1 + r3) 0)]) (told_exc (c := "NoWay") (fs := []) (by simp (disch := first | assumption | omega | (simp; done) | (simp; omega)) [mVar]; exact e) rfl) (by simp (disch := first | assumption | omega | (simp; done) | (simp; omega)) [mVar]) flat_str rfl)
    · have e := deepest_eq c1 hD0
      have e4 := fun h => gMax_ints (h := h) hD0
      have e5 := fun h => gIndex_mx (h := h) hD0
      refine chk_ok (ne_same (a := .tup [.int (D.idxOf (mx D) : Nat), .int (mx D)]) (h1 := HD d3 [.lst (runsTo D (1 + r3) D.length)]) (told_ok (by simp (disch := first | assumption | omega | (simp; done) | (simp; omega)) [mVar, e])) (by simp (disch := first | assumption | omega | (simp; done) | (simp; omega)) [mVar, e4, e5, hD0]) flat_pair rfl)
  obtain ⟨r5, d5, e5, b5⟩ := roll_ex d3 (clN d3) (many := 5) (by omega)
  obtain ⟨r6, d6, e6, b6⟩ := roll_ex d5 (clN d5) (many := 6) (by omega)
  have q1 : 1 ≤ 1 + r5 ∧ 1 + r5 ≤ 5 := by omega
  refine ⟨d6, clean_ok (h1 := HD d6 []) (g := [.lst (runsTo D (1 + r3) D.length)]) ?_ rfl trivial closed_h0⟩
  have chk9 : S__law_rest1_9 [some (.ref 0), some (eC L), some (.int x), some (.lst (D.map .int)), some (.int (1 + r3)), some (.ref 1), none, some (.int (1 + r5)), some (.int r6), some (.int (r6 * (1 + if 1 + r5 = 1 then 1 else 0))), none] (HD d6 [.lst (runsTo D (1 + r3) D.length)]) = .nx [some (.ref 0), some (eC L), some (.int x), some (.lst (D.map .int)), some (.int (1 + r3)), some (.ref 1), none, some (.int (1 + r5)), some (.int r6), some (.int (r6 * (1 + if 1 + r5 = 1 then 1 else 0))), none] (HD d6 [.lst (runsTo D (1 + r3) D.length)]) := by
    by_cases h6 : r6 < 1
    · have e := melt_way (clN d6) hx.1 q1 h6
      refine chk_ok (ne_same (a := .str "no way") (h1 := HD d6 [.lst (runsTo D (1 + r3) D.length)]) (told_exc (c := "NoWay") (fs := []) (by simp (disch := first | assumption | omega | (simp; done) | (simp; omega)) [mVar, e]) rfl) (by simp (disch := first | assumption | omega | (simp; done) | (simp; omega)) [mVar, show ¬ 0 < r6 by omega]) flat_str rfl)
    · have e := melt_eq (clN d6) hx.1 q1 (g := r6) (by omega)
      have eq : r6 * (1 + if 1 + r5 = 1 then 1 else 0) = r6 * (if 1 + r5 = 1 then 2 else 1) := by split <;> rfl
      have hq : 0 < r6 * (if 1 + r5 = 1 then 2 else 1) ∧ r6 * (if 1 + r5 = 1 then 2 else 1) < 1000 := by split <;> omega
      rw [eq]
      generalize r6 * (if 1 + r5 = 1 then 2 else 1) = q at *
      have er := rgL_ok (h := HD d6 [.lst (runsTo D (1 + r3) D.length)]) (i := 0) (j := x) (c := q) (by omega) (by omega) (by omega) (by omega) .lst
      have eu := rgN_up hx.1 hq.1
      refine chk_ok (ne_same (a := .int (0 - (0 - x) / q)) (h1 := HD d6 [.lst (runsTo D (1 + r3) D.length)]) (told_ok (by simp (disch := first | assumption | omega | (simp; done) | (simp; omega)) [mVar, e, -Int.zero_sub])) (by simp (disch := first | assumption | omega | (simp; done) | (simp; omega)) [mVar, er, show 0 < r6 by omega, upL_len, eu, -Int.zero_sub]) flat_int rfl)
  have chk10 : ∀ s, S__law_rest1_10 s (HD d6 [.lst (runsTo D (1 + r3) D.length)]) = .nx s (HD d6 [.lst (runsTo D (1 + r3) D.length)]) := fun s => by
    have e := init_bad (L := [(0, 1)]) (a := .lst (eLs [(0, 1)])) (clN d6) rfl (by unfold sizeLine; simp) rfl
    refine chk_ok (ne_same (a := .str "plan") (h1 := HD d6 [.lst (runsTo D (1 + r3) D.length)]) (told_exc (c := "BadPlan") (fs := []) (by simp (disch := first | assumption | omega | (simp; done) | (simp; omega)) [mVar, eL] at e ⊢; rw [e]; rfl) rfl) (by simp (disch := first | assumption | omega | (simp; done) | (simp; omega)) [mVar]) flat_str rfl)
  have t1 := thawed_bad (L := L) (n := -1) (clN d6) (by omega)
  have t2 := layer_at_bad (L := L) (n := -1) (clN d6) (by omega)
  have t3 := melt_size (d := -1) (f := 1) (g := 1) (clN d6) (by omega)
  have e2' := e2
  simp only [upL_nat] at e2'
  have hlen : ((D.map AV.int).length : Int) = D.length := by simp
  have st0 : S__law_rest1_0 [some (.ref 0), some (eC L), some (.int x), none, none, none, none, none, none, none, none] (HD d []) = .nx [some (.ref 0), some (eC L), some (.int x), some (.lst (D.map .int)), some (.int (1 + r3)), some (.ref 1), none, none, none, none, none] (HD d3 [.lst []]) := by
    simp (disch := first | assumption | omega | (simp; done) | (simp; omega)) [mVar, e1, e2, e3, hd_app]
  have st4 : S__law_rest1_4 [some (.ref 0), some (eC L), some (.int x), some (.lst (D.map .int)), some (.int (1 + r3)), some (.ref 1), none, none, none, none, none] (HD d3 [.lst []]) = .nx [some (.ref 0), some (eC L), some (.int x), some (.lst (D.map .int)), some (.int (1 + r3)), some (.ref 1), none, none, none, none, none] (HD d3 [.lst (runsTo D (1 + r3) D.length)]) := by
    have lp' := lp
    simp (disch := first | assumption | omega | (simp; done) | (simp; omega)) [mVar] at lp' ⊢
    exact lp'
  simp only [f__law_rest1, defSem, m__law_rest1, List.length_cons, List.length_nil, if_true, List.map_cons, List.map_nil]
  show Ss.fin (mSeq _ _ [some (.ref 0), some (eC L), some (.int x), none, none, none, none, none, none, none, none] (HD d [])) = _
  rw [seq_nx st0, ap_seq, ap_forget, then_nx]
  simp only [wipe_cons, wipe_nil, List.set_cons_succ, List.set_cons_zero]
  have st7 : S__law_rest1_7 [some (.ref 0), some (eC L), some (.int x), some (.lst (D.map .int)), some (.int (1 + r3)), some (.ref 1), none, none, none, none, none] (HD d3 [.lst (runsTo D (1 + r3) D.length)]) = .nx [some (.ref 0), some (eC L), some (.int x), some (.lst (D.map .int)), some (.int (1 + r3)), some (.ref 1), none, some (.int (1 + r5)), some (.int r6), none, none] (HD d6 [.lst (runsTo D (1 + r3) D.length)]) := by
    simp (disch := first | assumption | omega | (simp; done) | (simp; omega)) [mVar, e5, e6]
  have st8 : S__law_rest1_8 [some (.ref 0), some (eC L), some (.int x), some (.lst (D.map .int)), some (.int (1 + r3)), some (.ref 1), none, some (.int (1 + r5)), some (.int r6), none, none] (HD d6 [.lst (runsTo D (1 + r3) D.length)]) = .nx [some (.ref 0), some (eC L), some (.int x), some (.lst (D.map .int)), some (.int (1 + r3)), some (.ref 1), none, some (.int (1 + r5)), some (.int r6), some (.int (r6 * (1 + if 1 + r5 = 1 then 1 else 0))), none] (HD d6 [.lst (runsTo D (1 + r3) D.length)]) := by
    by_cases z : 1 + r5 = 1
    · simp (disch := first | assumption | omega | (simp; done) | (simp; omega)) [mVar, z]
    · simp (disch := first | assumption | omega | (simp; done) | (simp; omega)) [mVar, z]
  rw [seq_nx st4, seq_nx chk5, seq_nx chk6, seq_nx st7, seq_nx st8, seq_nx chk9, seq_nx (chk10 _)]
  simp (disch := first | assumption | omega | (simp; done) | (simp; omega)) [mVar, vIns_eC, t1, t2, t3, cl_told, List.lookup]
  rfl
end K01
end
section
set_option Elab.async false
set_option linter.all false
set_option maxRecDepth 100000
set_option maxHeartbeats 4000000
namespace K01
open PySem PySem.Spec PyProof.Rows L2 S3
/-! plain laws -/
theorem mx_ge {D : List Int} : ∀ y ∈ D, y ≤ mx D := by
  cases D with
  | nil => intro y hy; cases hy
  | cons x L =>
    show ∀ y ∈ x :: L, y ≤ maxL x L
    induction L generalizing x with
    | nil => intro y hy; obtain rfl := List.mem_singleton.mp hy; exact Int.le_refl _
    | cons z L ih =>
      intro y hy
      have h := ih (if DtO.lt x z = true then z else x)
      have e : maxL x (z :: L) = maxL (if DtO.lt x z = true then z else x) L := rfl
      rw [e]
      have hh := h _ List.mem_cons_self
      have hlt : DtO.lt x z = decide (x < z) := rfl
      rw [hlt] at h hh ⊢
      rcases List.mem_cons.mp hy with rfl | hy
      · by_cases c : y < z
        · simp only [c, decide_true, if_true] at hh ⊢; omega
        · simp only [c, decide_false] at hh ⊢; exact hh
      · rcases List.mem_cons.mp hy with rfl | hy
        · by_cases c : x < y
          · simp only [c, decide_true, if_true] at hh ⊢; exact hh
          · simp only [c, decide_false] at hh ⊢
            have hh : x ≤ maxL x L := hh
            show y ≤ maxL x L
            omega
        · exact h y (List.mem_cons_of_mem _ hy)
def firms (L : List Lay) : List Nat := (List.range L.length).filter fun k => decide (2 < fm L k)
theorem ly_app {R : List Lay} {p : Lay} {k : Nat} (h : k < R.length) : ly (R ++ [p]) k = ly R k := by
  unfold ly
  simp [List.getElem?_append_left h]
theorem ly_end {R : List Lay} {p : Lay} : ly (R ++ [p]) R.length = p := by
  unfold ly
  simp
theorem firms_snoc {R : List Lay} {p : Lay} : firms (R ++ [p]) = firms R ++ if 2 < p.2 then [R.length] else [] := by
  unfold firms
  rw [List.length_append, List.length_singleton, List.range_succ, List.filter_append]
  congr 1
  · refine List.filter_congr fun k hk => ?_
    rw [fm, ly_app (List.mem_range.mp hk)]
  · by_cases h : 2 < p.2 <;> simp [fm, ly_end, h]
def intz (F : List Nat) : List Int := F.map fun (k : Nat) => (k : Int)
def aboveL (L : List Lay) : List Lay := if firms L = [] then L else L.drop ((mx (intz (firms L))).toNat + 1)
theorem sinks_above : ∀ (n : Nat) (L : List Lay), L.length = n → ∀ a, sinksR L.reverse a = a + sumD (aboveL L)
  | 0, L, hn, a => by
    obtain rfl := List.length_eq_zero_iff.mp hn
    simp [sinksR, aboveL, firms, sumD]
  | n + 1, L, hn, a => by
    rcases List.eq_nil_or_concat L with rfl | ⟨R, p, rfl⟩
    · cases hn
    · rw [List.concat_eq_append] at *
      have hr : R.length = n := by simp at hn; exact hn
      have ih := sinks_above n R hr
      rw [List.reverse_append, List.reverse_singleton, List.singleton_append, sinksR]
      have mem : ∀ y ∈ intz (firms R), 0 ≤ y ∧ y < R.length := fun y hy => by
        obtain ⟨k, hk, rfl⟩ := List.mem_map.mp hy
        have := List.mem_range.mp (List.mem_filter.mp hk).1
        omega
      by_cases hp : 2 < p.2
      · rw [if_pos hp]
        have ne : intz (firms R ++ [R.length]) ≠ [] := by simp [intz]
        have hm : mx (intz (firms R ++ [R.length])) = R.length := by
          have h1 := mx_mem ne
          have h2 := mx_ge (D := intz (firms R ++ [R.length])) R.length (by simp [intz])
          have h3 : mx (intz (firms R ++ [R.length])) ∈ intz (firms R) ++ [(R.length : Int)] := by
            have : intz (firms R ++ [R.length]) = intz (firms R) ++ [(R.length : Int)] := by simp [intz]
            rw [← this]; exact h1
          rcases List.mem_append.mp h3 with h3 | h3
          · have := mem _ h3; omega
          · exact List.mem_singleton.mp h3
        unfold aboveL
        rw [firms_snoc, if_pos hp, if_neg (by simp), hm]
        simp [sumD]
      · rw [if_neg hp, ih]
        unfold aboveL
        rw [firms_snoc, if_neg hp, List.append_nil]
        by_cases hf : firms R = []
        · rw [if_pos hf, if_pos hf]
          simp [sumD]
          omega
        · rw [if_neg hf, if_neg hf]
          have h1 := mx_mem (D := intz (firms R)) (by simpa [intz] using hf)
          have h2 := mem _ h1
          rw [List.drop_append_of_le_length (by omega)]
          simp [sumD]
          omega
def overs (L : List Lay) (x : Int) : List Nat := (List.range L.length).filter fun k => decide (sumD (L.drop (k + 1)) ≤ x) && decide (x < sumD (L.drop k))
theorem sumD_step {L : List Lay} (hg : Good L) {k : Nat} (hk : k < L.length) : sumD (L.drop (k + 1)) < sumD (L.drop k) := by
  rw [List.drop_eq_getElem_cons hk, sumD_cons]
  have := hg L[k] (List.getElem_mem hk)
  omega
theorem sumD_mono {L : List Lay} (hg : Good L) : ∀ (m k : Nat), k + m ≤ L.length → sumD (L.drop (k + m)) ≤ sumD (L.drop k)
  | 0, k, _ => Int.le_refl _
  | m + 1, k, h => by
    have := sumD_mono hg m k (by omega)
    have := sumD_step hg (k := k + m) (by omega)
    rw [show k + (m + 1) = k + m + 1 by omega]
    omega
theorem layAt_over {L : List Lay} {x : Int} (hg : Good L) (hx : 0 ≤ x) : layAt L x = (overs L x).head? := by
  have key : ∀ m, m ≤ L.length → sumD (L.drop m) ≤ x → ((List.range m).reverse.find? fun k => decide (x < sumD (L.drop k))) = ((List.range m).filter fun k => decide (sumD (L.drop (k + 1)) ≤ x) && decide (x < sumD (L.drop k))).head? := by
    intro m
    induction m with
    | zero => intro _ _; rfl
    | succ m ih =>
      intro hm hs
      rw [List.range_succ, List.reverse_append, List.reverse_singleton, List.singleton_append, List.find?_cons, List.filter_append]
      by_cases h : x < sumD (L.drop m)
      · have e : (List.range m).filter (fun k => decide (sumD (L.drop (k + 1)) ≤ x) && decide (x < sumD (L.drop k))) = [] := by
          rw [List.filter_eq_nil_iff]
          intro k hk
          have hk := List.mem_range.mp hk
          have := sumD_mono hg (m - (k + 1)) (k + 1) (by omega)
          rw [show k + 1 + (m - (k + 1)) = m by omega] at this
          simp
          intro; omega
        rw [e]
        simp [h, hs]
      · rw [ih (by omega) (by omega)]
        simp [h]
  exact key L.length (Nat.le_refl _) (by simp [sumD]; exact hx)
theorem weak_head {L : List Lay} : weakL L = ((List.range (L.length - 1)).filter fun k => decide (fm L (k + 1) + 2 ≤ fm L k)).head? := by
  unfold weakL
  rw [List.head?_filter]
end K01
end
section
set_option Elab.async false
set_option linter.all false
set_option maxRecDepth 100000
set_option maxHeartbeats 4000000
namespace K01
open PySem PySem.Spec PyProof.Rows L2 S3
abbrev ST (sc : AV) (v2 v3 v4 v5 v6 v7 v8 v9 v10 v11 v12 v13 v14 : Option AV) : Sl := [some sc, some (.ref 0), v2, v3, v4, v5, v6, v7, v8, v9, v10, v11, v12, v13, v14, none, none, none, none, none]
abbrev oL (L : List Lay) : Option AV := some (.lst (eLs L))
abbrev oI (i : Int) : Option AV := some (.int i)
abbrev oC (L : List Lay) : Option AV := some (eC L)
abbrev oNs (F : List Nat) : Option AV := some (.lst (F.map fun (k : Nat) => AV.int k))
section
variable {sc : AV} {v2 v3 v4 v5 v6 v7 v8 v9 v10 v11 v12 v13 v14 : Option AV} {d : DS} {L : List Lay}
theorem c1 {x : Int} : S_law_1 (ST sc (oI x) v3 v4 v5 v6 v7 v8 v9 v10 v11 v12 v13 v14) (HD d []) = .nx (ST sc (oI x) v3 v4 v5 v6 v7 v8 v9 v10 v11 v12 v13 v14) (HD d []) := by
  have e := sort_of_eq (closed_h0 (d := d)) x
  by_cases h1 : 2 < x
  · simp (disch := first | assumption | omega | (simp; done) | (simp; omega)) [mVar, e, h1, show 3 ≤ x by omega]
  · by_cases h2 : 0 < x
    · simp (disch := first | assumption | omega | (simp; done) | (simp; omega)) [mVar, e, h1, h2, show ¬ 3 ≤ x by omega, show 1 ≤ x by omega]
    · by_cases h3 : -4 < x
      · simp (disch := first | assumption | omega | (simp; done) | (simp; omega)) [mVar, e, h1, h2, h3, show ¬ 3 ≤ x by omega, show ¬ 1 ≤ x by omega, show -3 ≤ x by omega]
      · simp (disch := first | assumption | omega | (simp; done) | (simp; omega)) [mVar, e, h1, h2, h3, show ¬ 3 ≤ x by omega, show ¬ 1 ≤ x by omega, show ¬ -3 ≤ x by omega]
theorem s2 : ∃ (R : List Lay) (d' : DS), S_law_2 (ST sc v2 none v4 v5 v6 v7 v8 v9 v10 v11 v12 v13 v14) (HD d []) = .nx (ST sc v2 (oL R) v4 v5 v6 v7 v8 v9 v10 v11 v12 v13 v14) (HD d' []) ∧ Good R ∧ R.length ≤ 5 := by
  obtain ⟨r1, d1, e1, b1⟩ := roll_ex d closed_h0 (many := 5) (by omega)
  obtain ⟨R, h', e2, ⟨d2, i2⟩, l2, g2⟩ := lcC_st (τ := Lay) (t := tName 15) (e := mFn S3.gTup (mCons (mBin gAdd (mC (.int 1)) (mCall F__law_roll (mCons (mVar 1) (mCons (mC (.int 20)) (mNil))))) (mCons (mBin gAdd (mC (.int 1)) (mCall F__law_roll (mCons (mVar 1) (mCons (mC (.int 5)) (mNil))))) (mNil)))) (s0 := ST sc v2 none v4 v5 v6 v7 v8 v9 v10 v11 v12 v13 v14) (I := fun h => ∃ d, h = HD d []) (V := fun p => 1 ≤ p.1 ∧ 1 ≤ p.2 ∧ p.2 ≤ 5) (enc := eL) (upL 0 1 r1.toNat) [] (HD d1 []) (fun x hx h ⟨d, ed⟩ => by
    subst ed
    obtain ⟨a, d3, e3, b3⟩ := roll_ex d closed_h0 (many := 20) (by omega)
    obtain ⟨b, d4, e4, b4⟩ := roll_ex d3 closed_h0 (many := 5) (by omega)
    exact ⟨_, rfl, (1 + a, 1 + b), _, by simp (disch := first | assumption | omega | (simp; done) | (simp; omega)) [mVar, e3, e4, eL], ⟨d4, rfl⟩, by show 1 ≤ 1 + a; omega, by show 1 ≤ 1 + b; omega, by show 1 + b ≤ 5; omega⟩) ⟨d1, rfl⟩ (by rw [upL_len]; unfold sizeLine; simp; omega)
  subst i2
  refine ⟨R, d2, ?_, g2, by rw [l2, upL_len]; omega⟩
  simp (disch := first | assumption | omega | (simp; done) | (simp; omega)) [mVar, e1, e2]
theorem s3 (hg : Good L) (hl : L.length ≤ 5) : ∃ (m n : Int) (d' : DS), S_law_3 (ST sc v2 (oL L) none none none v7 v8 v9 v10 v11 v12 v13 v14) (HD d []) = .nx (ST sc v2 (oL L) (oC L) (oI m) (oI n) v7 v8 v9 v10 v11 v12 v13 v14) (HD d' []) ∧ (0 ≤ m ∧ m < 20) ∧ 0 ≤ n ∧ n < 30 := by
  obtain ⟨a, d3, e3, b3⟩ := roll_ex d closed_h0 (many := 20) (by omega)
  obtain ⟨b, d4, e4, b4⟩ := roll_ex d3 closed_h0 (many := 30) (by omega)
  have e := init_eq (h := HD d []) (a := .lst (eLs L)) closed_h0 rfl (by unfold sizeLine; omega) hg
  refine ⟨a, b, d4, ?_, b3, b4⟩
  simp (disch := first | assumption | omega | (simp; done) | (simp; omega)) [mVar, e, e3, e4, eC]
theorem lc_fst {s : Sl} {h : AH} {L : List Lay} {i j : Nat} (hij : i ≠ j) (hi : i < s.length) (hj : j < s.length) (hl : L.length ≤ 1000) : lcC (tTupT 2 (tMore (tName i) (tMore (tName j) tNone))) mYes (mVar i) s (L.map eL) [] h = .ok (L.map fun p => .int p.1) h := by
  rw [lcC_map eL (fun _ => true) (fun p => .int p.1) L [] ?_ (by unfold sizeLine; simp; omega)]
  · rw [filter_yes]; rfl
  · intro p _
    refine ⟨_, rfl, rfl, fun _ => ?_⟩
    unfold mVar
    simp [hij, hi, hj, hij.symm]
theorem lc_wat {s : Sl} {h : AH} {L : List Lay} {i j : Nat} (hij : i ≠ j) (hi : i < s.length) (hj : j < s.length) (hl : L.length ≤ 1000) (hg : Good L) : lcC (tTupT 2 (tMore (tName i) (tMore (tName j) tNone))) mYes (mBin gDiv (mBin gMul (mVar i) (mVar j)) (mC (.int 10))) s (L.map eL) [] h = .ok (L.map fun p => .int (p.1 * p.2 / 10)) h := by
  rw [lcC_map eL (fun _ => true) (fun p => .int (p.1 * p.2 / 10)) L [] ?_ (by unfold sizeLine; simp; omega)]
  · rw [filter_yes]; rfl
  · intro p hp
    have := hg p hp
    refine ⟨_, rfl, rfl, fun _ => ?_⟩
    simp (disch := first | assumption | omega | (simp; done) | (simp; omega)) [mVar, hij, hi, hj, hij.symm]
theorem s4 (hl : L.length ≤ 5) : S_law_4 (ST sc v2 (oL L) v4 v5 v6 none v8 v9 v10 v11 v12 v13 v14) (HD d []) = .nx (ST sc v2 (oL L) v4 v5 v6 (oI (L.map (·.1)).sum) v8 v9 v10 v11 v12 v13 v14) (HD d []) := by
  simp (disch := first | assumption | omega | (simp; done) | (simp; omega)) [mVar, lc_fst]
theorem c5 (hg : Good L) (hl : L.length ≤ 5) : S_law_5 (ST sc v2 (oL L) (oC L) v5 v6 (oI (L.map (·.1)).sum) v8 v9 v10 v11 v12 v13 v14) (HD d []) = .nx (ST sc v2 (oL L) (oC L) v5 v6 (oI (L.map (·.1)).sum) v8 v9 v10 v11 v12 v13 v14) (HD d []) := by
  have e1 := key_eq (closed_h0 (d := d)) L
  have e2 := depth_eq (closed_h0 (d := d)) L
  have e3 := water_eq (closed_h0 (d := d)) L fun p hp => ⟨(hg p hp).2.2, (hg p hp).2.1⟩
  have e4 : gEq true (.tup (eLs L)) (.tup (eLs L)) (HD d []) = some (.bl false) := eq_self (flat_tup (flat_eLs _ L)) rfl
  simp (disch := first | assumption | omega | (simp; done) | (simp; omega)) [mVar, lc_wat, e1, e2, e3, e4, vIns_eC]
theorem pl_lst (L : List Lay) : Flat 60 (.lst (eLs L)) := flat_lst (flat_eLs _ L)
theorem c6 {m : Int} (hg : Good L) (hl : L.length ≤ 5) : S_law_6 (ST sc v2 (oL L) (oC L) (oI m) v6 v7 v8 v9 v10 v11 v12 v13 v14) (HD d []) = .nx (ST sc v2 (oL L) (oC L) (oI m) v6 v7 v8 v9 v10 v11 v12 v13 v14) (HD d []) := by
  by_cases hm : 0 < m
  · have e1 := fallen_eq (h := HD d []) closed_h0 hg (by omega) (show 1 ≤ m by omega)
    have e2 := law_fallen_eq (h := HD d []) (d := m) closed_h0 (L := L) (by omega)
    exact chk_ok (ne_same (a := .lst (eLs (fallenL L m))) (h1 := HD d []) (told_ok (by simp (disch := first | assumption | omega | (simp; done) | (simp; omega)) [mVar, e1, vIns_eC, fld_eC])) (by simp (disch := first | assumption | omega | (simp; done) | (simp; omega)) [mVar, e2, hm]) (pl_lst _) rfl)
  · have e1 := fallen_bad (h := HD d []) (L := L) closed_h0 (show m < 1 by omega)
    exact chk_ok (ne_same (a := .str "size") (h1 := HD d []) (told_exc (c := "BadSize") (fs := []) (by simp (disch := first | assumption | omega | (simp; done) | (simp; omega)) [mVar, e1, vIns_eC]) rfl) (by simp (disch := first | assumption | omega | (simp; done) | (simp; omega)) [mVar, hm]) flat_str rfl)
theorem c7 (hg : Good L) (hl : L.length ≤ 5) : S_law_7 (ST sc v2 (oL L) (oC L) v5 v6 v7 v8 v9 v10 v11 v12 v13 v14) (HD d []) = .nx (ST sc v2 (oL L) (oC L) v5 v6 v7 v8 v9 v10 v11 v12 v13 v14) (HD d []) := by
  have e1 := settled_eq (h := HD d []) closed_h0 hg (by omega)
  have e2 := law_settled_eq (h := HD d []) closed_h0 (L := L) (by omega)
  exact chk_ok (ne_same (a := .lst (eLs (settledL L))) (h1 := HD d []) (by simp (disch := first | assumption | omega | (simp; done) | (simp; omega)) [mVar, e1, vIns_eC, fld_eC]) (by simp (disch := first | assumption | omega | (simp; done) | (simp; omega)) [mVar, e2]) (pl_lst _) rfl)
theorem c8 {n : Int} (hg : Good L) (hl : L.length ≤ 5) (hn : 0 ≤ n ∧ n < 30) : S_law_8 (ST sc v2 (oL L) (oC L) v5 (oI n) v7 v8 v9 v10 v11 v12 v13 v14) (HD d []) = .nx (ST sc v2 (oL L) (oC L) v5 (oI n) v7 v8 v9 v10 v11 v12 v13 v14) (HD d []) := by
  have e1 := thawed_eq (h := HD d []) (n := n) closed_h0 hg (by omega) (by omega)
  have e2 := law_thawed_eq (h := HD d []) (n := n) closed_h0 (L := L) (by omega) (by omega)
  exact chk_ok (ne_same (a := .lst (eLs (thawN n.toNat L))) (h1 := HD d []) (by simp (disch := first | assumption | omega | (simp; done) | (simp; omega)) [mVar, e1, vIns_eC, fld_eC]) (by simp (disch := first | assumption | omega | (simp; done) | (simp; omega)) [mVar, e2]) (pl_lst _) rfl)
theorem s9 (hl : L.length ≤ 5) : S_law_9 (ST sc v2 (oL L) v4 v5 v6 v7 none v9 v10 v11 v12 v13 v14) (HD d []) = .nx (ST sc v2 (oL L) v4 v5 v6 v7 (oNs (firms L)) v9 v10 v11 v12 v13 v14) (HD d []) := by
  have e := lcC_map (t := tName 15) (c := mTest (mBin gGt (mBin gIx (mBin gIx (mVar 3) (mVar 15)) (mC (.int 1))) (mC (.int 2)))) (e := mVar 15) (s0 := ST sc v2 (oL L) v4 v5 v6 v7 none v9 v10 v11 v12 v13 v14) (h := HD d []) (fun (k : Nat) => AV.int k) (fun k => decide (2 < fm L k)) (fun (k : Nat) => AV.int k) (List.range L.length) [] (fun k hk => by
    have e1 := at_eLs (L := L) (List.mem_range.mp hk)
    exact ⟨_, rfl, by simp (disch := first | assumption | omega | (simp; done) | (simp; omega)) [mVar, e1, eL], fun _ => by simp (disch := first | assumption | omega | (simp; done) | (simp; omega)) [mVar]⟩) (by unfold sizeLine; simp; omega)
  rw [← upL_nat] at e
  simp (disch := first | assumption | omega | (simp; done) | (simp; omega)) [mVar, e, firms]
theorem s10 (hl : L.length ≤ 5) : S_law_10 (ST sc v2 (oL L) v4 v5 v6 v7 (oNs (firms L)) v9 v10 v11 v12 v13 v14) (HD d []) = .nx (ST sc v2 (oL L) v4 v5 v6 v7 (oNs (firms L)) (oL (aboveL L)) v10 v11 v12 v13 v14) (HD d []) := by
  by_cases hf : firms L = []
  · simp (disch := first | assumption | omega | (simp; done) | (simp; omega)) [mVar, hf, aboveL]
  · have hz : intz (firms L) ≠ [] := by simpa [intz] using hf
    have e1 : ∀ h, gMax [.lst ((firms L).map fun (k : Nat) => AV.int k)] h = some (.int (mx (intz (firms L)))) := fun h => by
      have := gMax_ints (h := h) hz
      rw [intz, List.map_map] at this
      exact this
    have h1 : 0 ≤ mx (intz (firms L)) := by
      have : ∀ y ∈ intz (firms L), 0 ≤ y := fun y hy => by
        obtain ⟨k, _, e⟩ := List.mem_map.mp hy
        omega
      exact this _ (mx_mem hz)
    have e2 : cutA (eLs L) (some (mx (intz (firms L)) + 1)) none = eLs (L.drop ((mx (intz (firms L))).toNat + 1)) := by
      rw [cut_from (by omega), show (mx (intz (firms L)) + 1).toNat = (mx (intz (firms L))).toNat + 1 by omega]
      simp
    simp (disch := first | assumption | omega | (simp; done) | (simp; omega)) [mVar, hf, aboveL, e1, e2]
theorem c11 (hl : L.length ≤ 5) : S_law_11 (ST sc v2 v3 (oC L) v5 v6 v7 v8 (oL (aboveL L)) v10 v11 v12 v13 v14) (HD d []) = .nx (ST sc v2 v3 (oC L) v5 v6 v7 v8 (oL (aboveL L)) v10 v11 v12 v13 v14) (HD d []) := by
  have e1 := sinks_eq (closed_h0 (d := d)) L
  rw [sinks_above _ L rfl] at e1
  have : (aboveL L).length ≤ 5 := by unfold aboveL; split; exact hl; simp; omega
  simp (disch := first | assumption | omega | (simp; done) | (simp; omega)) [mVar, e1, vIns_eC, lc_fst, sumD]
theorem s12 : ∃ (x : Int) (d' : DS), S_law_12 (ST sc v2 v3 v4 v5 v6 v7 v8 v9 none v11 v12 v13 v14) (HD d []) = .nx (ST sc v2 v3 v4 v5 v6 v7 v8 v9 (oI x) v11 v12 v13 v14) (HD d' []) ∧ 0 ≤ x ∧ x < 60 := by
  obtain ⟨a, d3, e3, b3⟩ := roll_ex d closed_h0 (many := 60) (by omega)
  exact ⟨a, d3, by simp (disch := first | assumption | omega | (simp; done) | (simp; omega)) [mVar, e3], b3⟩
theorem s13 {x : Int} (hl : L.length ≤ 5) : S_law_13 (ST sc v2 (oL L) v4 v5 v6 v7 v8 v9 (oI x) none v12 v13 v14) (HD d []) = .nx (ST sc v2 (oL L) v4 v5 v6 v7 v8 v9 (oI x) (oNs (overs L x)) v12 v13 v14) (HD d []) := by
  have e := lcC_map (t := tName 15) (c := mTest (mChain gLe gLt (mFn gSum (mCons (mLc (mSq (mSl (mVar 3) (mPart (mBin gAdd (mVar 15) (mC (.int 1)))) (mNoPart))) (tTupT 2 (tMore (tName 18) (tMore (tName 19) (tNone)))) (mYes) (mVar 18) [18, 19]) (mNil))) (mVar 10) (mFn gSum (mCons (mLc (mSq (mSl (mVar 3) (mPart (mVar 15)) (mNoPart))) (tTupT 2 (tMore (tName 18) (tMore (tName 19) (tNone)))) (mYes) (mVar 18) [18, 19]) (mNil))))) (e := mVar 15) (s0 := ST sc v2 (oL L) v4 v5 v6 v7 v8 v9 (oI x) none v12 v13 v14) (h := HD d []) (fun (k : Nat) => AV.int k) (fun k => decide (sumD (L.drop (k + 1)) ≤ x) && decide (x < sumD (L.drop k))) (fun (k : Nat) => AV.int k) (List.range L.length) [] (fun k hk => by
    have e1 : ∀ j, (eLs L).drop j = (L.drop j).map eL := fun j => by simp
    refine ⟨_, rfl, ?_, fun _ => by simp (disch := first | assumption | omega | (simp; done) | (simp; omega)) [mVar]⟩
    by_cases h1 : sumD (L.drop (k + 1)) ≤ x
    · have h1' := h1
      unfold sumD at h1'
      simp (disch := first | assumption | omega | (simp; done) | (simp; omega)) [mVar, e1, lc_fst, -List.map_drop, h1, h1', sumD]
      rfl
    · have h1' := h1
      unfold sumD at h1'
      simp (disch := first | assumption | omega | (simp; done) | (simp; omega)) [mVar, e1, lc_fst, -List.map_drop, h1, h1', sumD]) (by unfold sizeLine; simp; omega)
  rw [← upL_nat] at e
  simp (disch := first | assumption | omega | (simp; done) | (simp; omega)) [mVar, e, overs]
theorem c14 {x : Int} (hg : Good L) (hl : L.length ≤ 5) (hx : 0 ≤ x ∧ x < 60) : S_law_14 (ST sc v2 v3 (oC L) v5 v6 v7 v8 v9 (oI x) (oNs (overs L x)) v12 v13 v14) (HD d []) = .nx (ST sc v2 v3 (oC L) v5 v6 v7 v8 v9 (oI x) (oNs (overs L x)) v12 v13 v14) (HD d []) := by
  have e1 := layer_at_eq (h := HD d []) (n := x) closed_h0 (L := L) (by omega) hx.1
  rw [layAt_over hg hx.1] at e1
  cases ho : overs L x with
  | nil =>
    rw [ho] at e1
    exact chk_ok (ne_same (a := .str "no such") (h1 := HD d []) (told_exc (c := "NoSuch") (fs := []) (by simp (disch := first | assumption | omega | (simp; done) | (simp; omega)) [mVar, e1, vIns_eC]) rfl) (by simp (disch := first | assumption | omega | (simp; done) | (simp; omega)) [mVar]) flat_str rfl)
  | cons k r =>
    rw [ho] at e1
    have fl : Flats 59 (r.map fun (k : Nat) => AV.int k) := flats_mapint.mpr trivial
    exact chk_ok (ne_same (a := .int k) (h1 := HD d []) (told_ok (by simp (disch := first | assumption | omega | (simp; done) | (simp; omega)) [mVar, e1, vIns_eC])) (by simp (disch := first | assumption | omega | (simp; done) | (simp; omega)) [mVar, fl]) flat_int rfl)
def weaks (L : List Lay) : List Nat := (List.range (L.length - 1)).filter fun k => decide (fm L (k + 1) + 2 ≤ fm L k)
abbrev oNs1 (F : List Nat) : Option AV := some (.lst (F.map fun (k : Nat) => AV.int ((k + 1 : Nat) : Int)))
theorem s15 (hl : L.length ≤ 5) : S_law_15 (ST sc v2 (oL L) v4 v5 v6 v7 v8 v9 v10 v11 none v13 v14) (HD d []) = .nx (ST sc v2 (oL L) v4 v5 v6 v7 v8 v9 v10 v11 (oNs1 (weaks L)) v13 v14) (HD d []) := by
  have e := lcC_map (t := tName 15) (c := mTest (mBin gGe (mBin gSub (mBin gIx (mBin gIx (mVar 3) (mBin gSub (mVar 15) (mC (.int 1)))) (mC (.int 1))) (mBin gIx (mBin gIx (mVar 3) (mVar 15)) (mC (.int 1)))) (mC (.int 2)))) (e := mVar 15) (s0 := ST sc v2 (oL L) v4 v5 v6 v7 v8 v9 v10 v11 none v13 v14) (h := HD d []) (fun (k : Nat) => AV.int ((k + 1 : Nat) : Int)) (fun k => decide (fm L (k + 1) + 2 ≤ fm L k)) (fun (k : Nat) => AV.int ((k + 1 : Nat) : Int)) (List.range (L.length - 1)) [] (fun k hk => by
    have hk := List.mem_range.mp hk
    have e1 := at_eLs (L := L) (k := k) (by omega)
    have e2 := at_eLs (L := L) (k := k + 1) (by omega)
    simp only [Int.natCast_add, Int.natCast_one] at e2
    refine ⟨_, rfl, ?_, fun _ => by simp (disch := first | assumption | omega | (simp; done) | (simp; omega)) [mVar]⟩
    have f1 : fm L k = (ly L k).2 := rfl
    have f2 : fm L (k + 1) = (ly L (k + 1)).2 := rfl
    simp (disch := first | assumption | omega | (simp; done) | (simp; omega)) [mVar, e1, e2, eL]
    omega) (by unfold sizeLine; simp; omega)
  rw [← up1] at e
  simp (disch := first | assumption | omega | (simp; done) | (simp; omega)) [mVar, e, weaks, show ((L.length : Int) - 1).toNat = L.length - 1 by omega]
theorem c16 (hl : L.length ≤ 5) : S_law_16 (ST sc v2 v3 (oC L) v5 v6 v7 v8 v9 v10 v11 (oNs1 (weaks L)) v13 v14) (HD d []) = .nx (ST sc v2 v3 (oC L) v5 v6 v7 v8 v9 v10 v11 (oNs1 (weaks L)) v13 v14) (HD d []) := by
  have e1 := weakest_eq (h := HD d []) closed_h0 (L := L) (by omega)
  rw [weak_head] at e1
  rw [show (List.range (L.length - 1)).filter (fun k => decide (fm L (k + 1) + 2 ≤ fm L k)) = weaks L from rfl] at e1
  cases ho : weaks L with
  | nil =>
    rw [ho] at e1
    exact chk_ok (ne_same (a := .str "no way") (h1 := HD d []) (told_exc (c := "NoWay") (fs := []) (by simp (disch := first | assumption | omega | (simp; done) | (simp; omega)) [mVar, e1, vIns_eC]) rfl) (by simp (disch := first | assumption | omega | (simp; done) | (simp; omega)) [mVar]) flat_str rfl)
  | cons k r =>
    rw [ho] at e1
    simp only [List.head?_cons, Int.natCast_add, Int.natCast_one] at e1
    have fl : Flats 59 (r.map fun (k : Nat) => AV.int ((k : Int) + 1)) := flats_mapint.mpr trivial
    exact chk_ok (ne_same (a := .int ((k : Int) + 1)) (h1 := HD d []) (told_ok (by simp (disch := first | assumption | omega | (simp; done) | (simp; omega)) [mVar, e1, vIns_eC])) (by simp (disch := first | assumption | omega | (simp; done) | (simp; omega)) [mVar, fl]) flat_int rfl)
abbrev eH (p : Int × Int) : AV := .tup [.int p.1, .int p.2]
abbrev oH (hs : List (Int × Int)) : Option AV := some (.lst (hs.map fun p => .tup [.int p.1, .int p.2]))
theorem s17 : ∃ (hs : List (Int × Int)) (d' : DS), S_law_17 (ST sc v2 (oL L) v4 v5 v6 v7 v8 v9 v10 v11 v12 none none) (HD d []) = .nx (ST sc v2 (oL L) v4 v5 v6 v7 v8 v9 v10 v11 v12 (oH hs) (oL L)) (HD d' []) ∧ hs.length ≤ 10 ∧ ∀ p ∈ hs, p.1 < 12 := by
  obtain ⟨r1, d1, e1, b1⟩ := roll_ex d closed_h0 (many := 10) (by omega)
  obtain ⟨R, h', e2, ⟨d2, i2⟩, l2, g2⟩ := lcC_st (τ := Int × Int) (t := tName 15) (e := mFn S3.gTup (mCons (mBin gSub (mCall F__law_roll (mCons (mVar 1) (mCons (mC (.int 12)) (mNil)))) (mC (.int 8))) (mCons (mCall F__law_roll (mCons (mVar 1) (mCons (mC (.int 9)) (mNil)))) (mNil)))) (s0 := ST sc v2 (oL L) v4 v5 v6 v7 v8 v9 v10 v11 v12 none none) (I := fun h => ∃ d, h = HD d []) (V := fun p => p.1 < 12) (enc := eH) (upL 0 1 r1.toNat) [] (HD d1 []) (fun x hx h ⟨d, ed⟩ => by
    subst ed
    obtain ⟨a, d3, e3, b3⟩ := roll_ex d closed_h0 (many := 12) (by omega)
    obtain ⟨b, d4, e4, b4⟩ := roll_ex d3 closed_h0 (many := 9) (by omega)
    exact ⟨_, rfl, (a - 8, b), _, by simp (disch := first | assumption | omega | (simp; done) | (simp; omega)) [mVar, e3, e4], ⟨d4, rfl⟩, by show a - 8 < 12; omega⟩) ⟨d1, rfl⟩ (by rw [upL_len]; unfold sizeLine; simp; omega)
  subst i2
  refine ⟨R, d2, ?_, by rw [l2, upL_len]; omega, g2⟩
  simp (disch := first | assumption | omega | (simp; done) | (simp; omega)) [mVar, e1, e2]
def hereAt (hs : List (Int × Int)) (L : List Lay) : Nat → List Lay
  | 0 => L
  | k + 1 => wStep (hereAt hs L k) (k, nth (0, 0) hs k)
theorem here_good (hs : List (Int × Int)) {L : List Lay} (hg : Good L) : ∀ k, Good (hereAt hs L k) ∧ (hereAt hs L k).length ≤ L.length + k
  | 0 => ⟨hg, Nat.le_refl _⟩
  | k + 1 => by
    obtain ⟨a, b⟩ := here_good hs hg k
    obtain ⟨c, e⟩ := wStep_good (x := (k, nth (0, 0) hs k)) a
    exact ⟨c, by show (wStep _ _).length ≤ _; omega⟩
theorem here_fold {hs : List (Int × Int)} : ∀ (r : List (Int × Int)) (k : Nat) (R : List Lay), (∀ j (hj : j < r.length), nth (0, 0) hs (k + j) = r[j]) → ∀ L, hereAt hs L k = R → (r.zipIdx k).foldl (fun L x => wStep L (x.2, x.1)) R = hereAt hs L (k + r.length)
  | [], k, R, _, L, e => by simp [e]
  | x :: r, k, R, H, L, e => by
    have h0 := H 0 (by simp)
    rw [List.zipIdx_cons, List.foldl_cons, List.length_cons, show k + (r.length + 1) = (k + 1) + r.length by omega]
    refine here_fold r (k + 1) _ (fun j hj => ?_) L ?_
    · have := H (j + 1) (by simp; omega)
      rw [show k + 1 + j = k + (j + 1) by omega, this]
      rfl
    · show wStep (hereAt hs L k) (k, nth (0, 0) hs k) = wStep R (k, x)
      rw [e]
      have h0 : nth (0, 0) hs k = x := h0
      rw [h0]
theorem s22 {hs : List (Int × Int)} (hg : Good L) (hl : L.length ≤ 5) (hh : hs.length ≤ 10) (hw : ∀ p ∈ hs, p.1 < 12) : S_law_22 (ST sc v2 v3 v4 v5 v6 v7 v8 v9 v10 v11 v12 (oH hs) (oL L)) (HD d []) = .nx (ST sc v2 v3 v4 v5 v6 v7 v8 v9 v10 v11 v12 (oH hs) (oL (hereAt hs L hs.length))) (HD d []) := by
  have lp := forC_range (t := tName 15) (b := B_law_21) (fun k => ST sc v2 v3 v4 v5 v6 v7 v8 v9 v10 v11 v12 (oH hs) (oL (hereAt hs L k))) (fun k => HD d []) hs.length (fun k hk => by
    obtain ⟨g, ll⟩ := here_good hs hg k
    have e0 := atI_nth (f := eH) (0, 0) hk
    have hp := hw _ (nth_mem (d := (0, 0)) hk)
    refine ⟨_, rfl, .inl ?_⟩
    have em : (k : Int) % 8 = 7 ↔ k % 8 = 7 := by omega
    show B_law_21 _ _ = .nx (ST sc v2 v3 v4 v5 v6 v7 v8 v9 v10 v11 v12 (oH hs) (oL (wStep (hereAt hs L k) (k, nth (0, 0) hs k)))) (HD d [])
    generalize nth (0, 0) hs k = p at *
    obtain ⟨w, f⟩ := p
    have hp : w < 12 := hp
    generalize hereAt hs L k = R at *
    by_cases h1 : 0 < w
    · have e1 := law_thawed_eq (h := HD d []) (n := w) closed_h0 (L := R) (by omega) (by omega)
      obtain ⟨g2, l2⟩ := thawN_good w.toNat g
      have e2 := law_settled_eq (h := HD d []) closed_h0 (L := thawN w.toNat R) (by omega)
      by_cases h3 : k % 8 = 7
      · simp (disch := first | assumption | omega | (simp; done) | (simp; omega)) [mVar, e0, h1, e1, e2, em, h3, wStep, show ¬ w ≤ 0 by omega]
      · simp (disch := first | assumption | omega | (simp; done) | (simp; omega)) [mVar, e0, h1, e1, e2, em, h3, wStep, show ¬ w ≤ 0 by omega]
    · by_cases h2 : 0 < f
      · have e1 := law_fallen_eq (h := HD d []) (d := f) closed_h0 (L := R) (by omega)
        have := fallen_len (L := R) (d := f)
        have e2 := law_settled_eq (h := HD d []) closed_h0 (L := fallenL R f) (by omega)
        by_cases h3 : k % 8 = 7
        · simp (disch := first | assumption | omega | (simp; done) | (simp; omega)) [mVar, e0, h1, h2, e1, e2, em, h3, wStep, show w ≤ 0 by omega]
        · simp (disch := first | assumption | omega | (simp; done) | (simp; omega)) [mVar, e0, h1, h2, e1, e2, em, h3, wStep, show w ≤ 0 by omega]
      · have e2 := law_settled_eq (h := HD d []) closed_h0 (L := R) (by omega)
        by_cases h3 : k % 8 = 7
        · simp (disch := first | assumption | omega | (simp; done) | (simp; omega)) [mVar, e0, h1, h2, e2, em, h3, wStep, show w ≤ 0 by omega]
        · simp (disch := first | assumption | omega | (simp; done) | (simp; omega)) [mVar, e0, h1, h2, e2, em, h3, wStep, show w ≤ 0 by omega])
  simp (disch := first | assumption | omega | (simp; done) | (simp; omega)) [mVar] at lp ⊢
  exact lp
theorem c23 {hs : List (Int × Int)} (hg : Good L) (hl : L.length ≤ 5) (hh : hs.length ≤ 10) (hw : ∀ p ∈ hs, p.1 < 12) : S_law_23 (ST sc v2 v3 (oC L) v5 v6 v7 v8 v9 v10 v11 v12 (oH hs) (oL (hereAt hs L hs.length))) (HD d []) = .nx (ST sc v2 v3 (oC L) v5 v6 v7 v8 v9 v10 v11 v12 (oH hs) (oL (hereAt hs L hs.length))) (HD d []) := by
  have e1 := weathered_eq (h := HD d []) closed_h0 hg (hs := hs) (by omega) (fun p hp => by have := hw p hp; omega)
  have e2 := here_fold (hs := hs) hs 0 L (fun j hj => by rw [Nat.zero_add, nth_get hj]) L rfl
  rw [Nat.zero_add] at e2
  rw [e2] at e1
  exact chk_ok (ne_same (a := .lst (eLs (hereAt hs L hs.length))) (h1 := HD d []) (by simp (disch := first | assumption | omega | (simp; done) | (simp; omega)) [mVar, e1, fld_eC]) (by simp (disch := first | assumption | omega | (simp; done) | (simp; omega)) [mVar]) (pl_lst _) rfl)
theorem s24 {x : Int} (hg : Good L) (hl : L.length ≤ 5) (hx : 0 ≤ x ∧ x < 60) : ∃ d', S_law_24 (ST sc v2 v3 (oC L) v5 v6 v7 v8 v9 (oI x) v11 v12 v13 v14) (HD d []) = .nx (ST sc v2 v3 (oC L) v5 v6 v7 v8 v9 (oI x) v11 v12 v13 v14) (HD d' []) := by
  obtain ⟨d', e⟩ := rest1_eq hg (by omega) hx d
  exact ⟨d', by simp (disch := first | assumption | omega | (simp; done) | (simp; omega)) [mVar, e]⟩
theorem s0 : ∃ (x : Int) (d' : DS), S_law_0 (ST sc none v3 v4 v5 v6 v7 v8 v9 v10 v11 v12 v13 v14) (HD d []) = .nx (ST sc (oI x) v3 v4 v5 v6 v7 v8 v9 v10 v11 v12 v13 v14) (HD d' []) := by
  obtain ⟨a, d3, e3, b3⟩ := roll_ex d closed_h0 (many := 12) (by omega)
  exact ⟨a - 8, d3, by simp (disch := first | assumption | omega | (simp; done) | (simp; omega)) [mVar, e3]⟩
theorem body : ∃ d', B_law_25 (ST sc none none none none none none none none none none none none none) (HD d []) = .nx [some sc, none, none, none, none, none, none, none, none, none, none, none, none, none, none, none, none, none, none, none] (HD d' []) := by
  obtain ⟨x0, d0, e0⟩ := s0 (sc := sc) (v3 := none) (v4 := none) (v5 := none) (v6 := none) (v7 := none) (v8 := none) (v9 := none) (v10 := none) (v11 := none) (v12 := none) (v13 := none) (v14 := none) (d := d)
  obtain ⟨L, d2, e2, hg, hl⟩ := s2 (sc := sc) (v2 := oI x0) (v4 := none) (v5 := none) (v6 := none) (v7 := none) (v8 := none) (v9 := none) (v10 := none) (v11 := none) (v12 := none) (v13 := none) (v14 := none) (d := d0)
  obtain ⟨m, n, d3, e3, hm, hn⟩ := s3 (sc := sc) (v2 := oI x0) (v7 := none) (v8 := none) (v9 := none) (v10 := none) (v11 := none) (v12 := none) (v13 := none) (v14 := none) (d := d2) hg hl
  simp only [B_law_25]
  rw [seq_nx e0, seq_nx c1, seq_nx e2, seq_nx e3, seq_nx (s4 hl), seq_nx (c5 hg hl), seq_nx (c6 hg hl), seq_nx (c7 hg hl), seq_nx (c8 hg hl hn), seq_nx (s9 hl), seq_nx (s10 hl), seq_nx (c11 hl)]
  obtain ⟨x, d12, e12, hx⟩ := s12 (sc := sc) (v2 := oI x0) (v3 := oL L) (v4 := oC L) (v5 := oI m) (v6 := oI n) (v7 := oI (L.map (·.1)).sum) (v8 := oNs (firms L)) (v9 := oL (aboveL L)) (v11 := none) (v12 := none) (v13 := none) (v14 := none) (d := d3)
  rw [seq_nx e12, seq_nx (s13 hl), seq_nx (c14 hg hl hx), seq_nx (s15 hl), seq_nx (c16 hl)]
  obtain ⟨hs, d17, e17, hh, hw⟩ := s17 (sc := sc) (v2 := oI x0) (L := L) (v4 := oC L) (v5 := oI m) (v6 := oI n) (v7 := oI (L.map (·.1)).sum) (v8 := oNs (firms L)) (v9 := oL (aboveL L)) (v10 := oI x) (v11 := oNs (overs L x)) (v12 := oNs1 (weaks L)) (d := d12)
  obtain ⟨d24, e24⟩ := s24 (sc := sc) (v2 := oI x0) (v3 := oL L) (v5 := oI m) (v6 := oI n) (v7 := oI (L.map (·.1)).sum) (v8 := oNs (firms L)) (v9 := oL (aboveL L)) (v11 := oNs (overs L x)) (v12 := oNs1 (weaks L)) (v13 := oH hs) (v14 := oL (hereAt hs L hs.length)) (d := d17) hg hl hx
  refine ⟨d24, ?_⟩
  rw [seq_nx e17, ap_seq, ap_forget, then_nx]
  show mSeq _ _ (ST sc _ _ _ _ _ _ _ _ _ _ _ _ _) _ = _
  rw [seq_nx (s22 hg hl hh hw), seq_nx (c23 hg hl hh hw), seq_nx e24, ap_forget]
  rfl
theorem law_true (ns : List Int) : ∃ h', F_law [.rdl (ns.map .int)] [] = .ok (.bl true) h' := by
  obtain ⟨a, b, c, e⟩ := rounds_eq ns
  obtain ⟨d', e2⟩ := body (sc := .rdl (ns.map .int)) (d := (a, b, c))
  refine ⟨[], clean_ok (h1 := []) (g := HD d' []) ?_ rfl trivial closed_nil⟩
  have st : S_law_26 [some (.rdl (ns.map .int)), none, none, none, none, none, none, none, none, none, none, none, none, none, none, none, none, none, none, none] [] = .nx [some (.rdl (ns.map .int)), none, none, none, none, none, none, none, none, none, none, none, none, none, none, none, none, none, none, none] (HD d' []) := by
    have e3 : HD (a, b, c) [] = [dice a b c] := rfl
    have lp : forC (tName 1) B_law_25 [.ref 0] [some (.rdl (ns.map .int)), none, none, none, none, none, none, none, none, none, none, none, none, none, none, none, none, none, none, none] [dice a b c] = .nx [some (.rdl (ns.map .int)), none, none, none, none, none, none, none, none, none, none, none, none, none, none, none, none, none, none, none] (HD d' []) := by
      rw [forC_cons (t := tName 1) rfl]
      show Ss.lp (B_law_25 (ST _ _ _ _ _ _ _ _ _ _ _ _ _ _) (HD (a, b, c) [])) _ = _
      rw [e2]
      rfl
    simp only [S_law_26, ap_for, ap_sq, ap_call, ap_cons, ap_nil, av0, bind_ok, ap_c, e, toS_ok, vLR_lst]
    rw [forL_const (xs := [.ref 0]) fun _ => rfl]
    exact lp
  simp only [f_law, defSem, m_law]
  show Ss.fin (mSeq _ (mSeq S_law_26 _) [some (.rdl (ns.map .int)), none, none, none, none, none, none, none, none, none, none, none, none, none, none, none, none, none, none, none] []) = _
  rw [ap_seq, ap_forget, then_nx]
  show Ss.fin (mSeq S_law_26 _ [some (.rdl (ns.map .int)), none, none, none, none, none, none, none, none, none, none, none, none, none, none, none, none, none, none, none] []) = _
  rw [seq_nx st]
  rfl
end
end K01
end
set_option Elab.async false
set_option linter.all false
set_option maxRecDepth 100000
set_option maxHeartbeats 0
namespace K01
open PySem PySem.Spec PyProof.Rows L2 S3
theorem lawAt {w : World} {K : PySem.W.Frag} {mg : Str → Option Value} {fa : Addr} {h : Heap} (KX : K.In h) (G : h.Ns mainGlobals mg) (hmg : mg "law" = some (.ref fa)) (c : He.SaysX faL fnL [] tfL exL w h K) :
    LamX.LawAtS PySem.Challenge.rw_snowhall_k01_falls w K (L2.CX PySem.Challenge.rw_snowhall_k01_falls.prog w) 8 63 "script" mg fa h := by
  obtain ⟨fd, hb, hg, nd, hT⟩ := tx_of KX G c
  have ea : fa = He.fAd K d_law.at_ := by
    rw [hg] at hmg
    injection hmg with hmg
    injection hmg with hmg
    exact hmg.symm
  refine ⟨fd, tfL.map (He.cT K), S3.spF (BX K mg) F_law, fun p hp => ?_, fun p hp => ?_, fun p hp => ?_, hb, fun H a ns hl _ hH hS => ?_, fun base hK hN hB => ?_⟩
  · obtain ⟨q, hq, rfl⟩ := List.mem_map.mp hp
    exact c.empty q hq
  · obtain ⟨q, hq, rfl⟩ := List.mem_map.mp hp
    exact c.out q hq
  · obtain ⟨q, hq, rfl⟩ := List.mem_map.mp hp
    exact PySem.W.codeHd_of_K KX (c.hd q hq)
  · obtain ⟨h', e⟩ := law_true ns
    refine S3.law_start (fun p hp => ?_) hS e
    have key : ∀ p ∈ tbL K, ∃ q ∈ tfL, p.1 = (He.cT K q).2 := by
      intro p hp
      have e0 : (tbL K).map (·.1) = tfL.map fun q => (He.cT K q).2 := rfl
      have h1 : p.1 ∈ (tbL K).map (·.1) := List.mem_map.mpr ⟨p, hp, rfl⟩
      rw [e0] at h1
      obtain ⟨q, hq, e⟩ := List.mem_map.mp h1
      exact ⟨q, hq, e.symm⟩
    obtain ⟨q, hq, e⟩ := key p hp
    rw [e]
    exact hH _ (List.mem_map.mpr ⟨q, hq, rfl⟩)
  · obtain ⟨T, e1, e2⟩ := hT base fun p hp => hB _ (List.mem_map.mpr ⟨p, hp, rfl⟩)
    rw [ea, ← e1, ← e2]
    exact OK_law T
end K01
open PySem PySem.W PySem.Calls PyProof.Rows
theorem PySem.Challenge.cw_snowhall_k01_falls_holds : PySem.Challenge.rw_snowhall_k01_falls.Holds := by
  w_on; o_law
  refine HandSHeadRun.head_any (r := OpenLaw.row PySem.Challenge.rw_snowhall_k01_falls) (q := view (OpenLaw.row PySem.Challenge.rw_snowhall_k01_falls).prog [26]) (H := K01.hk) (ob := K01.ob) (M := 6000) (loose := K01.looseL) (d := HandSHeadRun.topDef (OpenLaw.row PySem.Challenge.rw_snowhall_k01_falls).prog 26) (kwd := []) K01.ob_eq
    (by kernel_rfl) (fun s => by kernel_rfl) K01.run (by kernel_rfl) (by kernel_rfl) (by kernel_rfl) (by rfl) (by first | assumption | decide +kernel) (by decide +kernel) ⟨rfl, rfl, rfl, rfl, rfl, by decide +kernel⟩ ?hw ?hc
  case hw => w_witness2
  case hc =>
    refine LamX.walk_ofTsE (l := PySem.Challenge.rw_snowhall_k01_falls) (n := 63) (k := 8) (x := "script") (CX := fun w => L2.CX PySem.Challenge.rw_snowhall_k01_falls.prog w) rfl (by decide) (by kernel_rfl) ⟨rfl, by decide, by decide⟩ ?F (fun _ _ _ _ _ z => by obtain ⟨_, _, _, _, _, _, _, _, _, _, _, _, z⟩ := z; exact z)
    intro w mg fa h Y G hmg0
    obtain ⟨K, KX, c⟩ := Y
    have hmg : mg ("law" : PySem.Str) = some (.ref fa) := by
      have e : (HandSHeadRun.topDef (OpenLaw.row PySem.Challenge.rw_snowhall_k01_falls).prog 26).name = ("law" : PySem.Str) := by kernel_rfl
      rw [← e]
      exact hmg0
    exact ⟨K, KX, K01.lawAt KX G hmg c⟩
