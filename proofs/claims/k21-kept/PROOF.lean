import PyProof.Rows.All
import Wide.All
import OpenK.AllK
import Wide.FinOn
import HandS.ForSpec
import HandS.Comp
import HandS.Dict
import HandS.DictComp
import HandS.Iter
import HandS.Text
import HandS.Conv
import HandS.Flow
import HandS.FStr
import HandS.Lambda
import HandS.EndTab
import HandS.SortInts
import KE.DataMinMax
import KE.SortData
import KE.DataEq
import KE.DataFind
import HandS.TupAny
import HandS.Wide
import HandS.Zip
import HandS.Exc
import HandS.ExcOwn
import HandS.Defaults
import HandS.Words
import PyProof.ExcBaseAll.ValueError
import HandS.More
import HandS.Style
import KE.KDictSum
import HandS.Head0
import HandS.Head1
import HandS.Head2
import HandS.HeadEnd
import HandS.HeadHook1
import HandS.HeadHook2
import KE.KStateDown
import Lean
import PySem.Challenge.RW_searchstack_k21_answers_that_are_kept
section
set_option Elab.async false
set_option linter.all false
set_option maxRecDepth 100000
set_option maxHeartbeats 4000000
namespace EV
open PySem L2

/-! ### values, objects, states -/
abbrev D := PyData
/-- a reference to the object n of the store -/
abbrev rf (n : Nat) : D := .dict [(.int n, .none)]
/-- the script: a list that is only read -/
abbrev scD (ds : List D) : D := .dict [(.list ds, .none)]
/-- an object of the store -/
inductive SO where
  | lst (xs : List D)
  | dct (kvs : List (Key × D))
  | dlk (kvs : List (Key × D))
  | ins (c : Nat) (fs : List (PySem.Str × D))
  | lam (j : Nat)
  | scr (xs : List D)
  | dead
/-- a lambda of the text -/
structure LamR where
  q : PySem.Str
  params : Arguments
  body : Expr
  scope : Scope

/-- the world of a program: its written part, its classes by number -/
structure Wd where
  K : PySem.W.Frag
  cls : Nat → Addr
  T : List (Addr × PySem.Str)
  lam : Nat → LamR
  clo : List (PySem.Str × Addr)
/-- the object at a is the lambda r, its cells among clo -/
def LamPhi (clo : List (PySem.Str × Addr)) (r : LamR) (a c' : Addr) (pm ctv : Value) (h : Heap) : Prop := h.get? a = some (PySem.W.kla_obj "<lambda>" r.q r.params r.body r.scope (cloFrom clo r.scope.names []) pm c' ctv)

section
variable (K : PySem.W.Frag) (F : Hp) (ρ : List Addr)
mutual
/-- the value v bears the datum -/
inductive VR : D → V → Prop
  | non : VR .none .non
  | bl (b : Bool) : VR (.bool b) (.bl b)
  | int (i : Int) : VR (.int i) (.int i)
  | str (x : PySem.Str) : VR (.str x) (.str x)
  | tup {a : Addr} {vs : List V} {ds : List D} : SqT K F a vs → VRs ds vs → VR (.tuple ds) (.ref a)
  | lst {a : Addr} {vs : List V} {ds : List D} : F a = some (.lst vs) → VRs ds vs → VR (.list ds) (.ref a)
  | scr {a : Addr} {vs : List V} {ds : List D} : SqL K F a vs → VRs ds vs → VR (scD ds) (.ref a)
  | ref {n : Nat} {a : Addr} : ρ[n]? = some a → VR (rf n) (.ref a)
inductive VRs : List D → List V → Prop
  | nil : VRs [] []
  | cons {d : D} {v : V} {ds : List D} {vs : List V} : VR d v → VRs ds vs → VRs (d :: ds) (v :: vs)
end
end

/-- pairs by key -/
inductive KVs {κ : Type} (R : D → V → Prop) : List (κ × D) → List (κ × V) → Prop
  | nil : KVs R [] []
  | cons {k : κ} {d : D} {v : V} {ds : List (κ × D)} {vs : List (κ × V)} : R d v → KVs R ds vs → KVs R ((k, d) :: ds) ((k, v) :: vs)

/-- what F holds, H holds -/
def Sub (F H : Hp) : Prop := ∀ a o, F a = some o → H a = some o
theorem Sub.refl (H : Hp) : Sub H H := fun _ _ h => h
theorem Sub.trans {F G H : Hp} (a : Sub F G) (b : Sub G H) : Sub F H := fun x u h => b x u (a x u h)
theorem Sub.sqT {K : PySem.W.Frag} {F H : Hp} {a : Addr} {xs : List V} (e : Sub F H) (h : SqT K F a xs) : SqT K H a xs :=
  h.imp (fun r => r.imp (e a _) (fun ⟨o, q⟩ => ⟨o, e a _ q⟩)) id
theorem Sub.sqL {K : PySem.W.Frag} {F H : Hp} {a : Addr} {xs : List V} (e : Sub F H) (h : SqL K F a xs) : SqL K H a xs :=
  h.imp (fun r => r.imp (e a _) (fun ⟨o, q⟩ => ⟨o, e a _ q⟩)) id
theorem Sub.free {F H : Hp} (e : Sub F H) {p : Addr} (h : H p = none) : F p = none := by
  cases q : F p with
  | none => rfl
  | some o =>
    have z := e p o q
    rw [h] at z
    cases z
theorem Sub.upd {F H : Hp} (e : Sub F H) {p : Addr} {o : HO} (h : F p = none) : Sub F (L2.upd H p o) := fun a u r => by
  have ha : a ≠ p := fun z => by
    rw [z, h] at r
    cases r
  rw [upd_ne ha]
  exact e a u r
theorem Sub.new {F : Hp} {p : Addr} {o : HO} (h : F p = none) : Sub F (L2.upd F p o) := Sub.upd (Sub.refl F) h
theorem Sub.both {F H : Hp} (e : Sub F H) {p : Addr} {o : HO} : Sub (L2.upd F p o) (L2.upd H p o) := fun a u r => by
  by_cases ha : a = p
  · rw [ha, upd_same] at r
    rw [ha, upd_same]
    exact r
  · rw [upd_ne ha] at r
    rw [upd_ne ha]
    exact e a u r

section
variable {K : PySem.W.Frag} {F F' H : Hp} {ρ ρ' : List Addr}
theorem pre_get {n : Nat} {a : Addr} (p : ρ <+: ρ') (h : ρ[n]? = some a) : ρ'[n]? = some a := by
  obtain ⟨t, rfl⟩ := p
  rw [List.getElem?_append_left (List.getElem?_eq_some_iff.mp h).1]
  exact h
mutual
theorem VR.mono (e : Sub F F') (p : ρ <+: ρ') : ∀ {d : D} {v : V}, VR K F ρ d v → VR K F' ρ' d v
  | _, _, .non => .non
  | _, _, .bl b => .bl b
  | _, _, .int i => .int i
  | _, _, .str x => .str x
  | _, _, .tup h r => .tup (e.sqT h) (VRs.mono e p r)
  | _, _, .lst h r => .lst (e _ _ h) (VRs.mono e p r)
  | _, _, .scr h r => .scr (e.sqL h) (VRs.mono e p r)
  | _, _, .ref h => .ref (pre_get p h)
theorem VRs.mono (e : Sub F F') (p : ρ <+: ρ') : ∀ {ds : List D} {vs : List V}, VRs K F ρ ds vs → VRs K F' ρ' ds vs
  | _, _, .nil => .nil
  | _, _, .cons h r => .cons (VR.mono e p h) (VRs.mono e p r)
end
theorem KVs.mono {κ : Type} {R S : D → V → Prop} (f : ∀ d v, R d v → S d v) : ∀ {ds : List (κ × D)} {vs : List (κ × V)}, KVs R ds vs → KVs S ds vs
  | _, _, .nil => .nil
  | _, _, .cons h r => .cons (f _ _ h) (KVs.mono f r)
mutual
theorem VR.dp (e : Sub F H) : ∀ {d : D} {v : V}, VR K F ρ d v → d.plain = true → Dp K H v d
  | _, _, .non, _ => .non
  | _, _, .bl b, _ => .bl b
  | _, _, .int i, _ => .int i
  | _, _, .str x, _ => .str x
  | _, _, .tup h r, q => .tup (e.sqT h) (VRs.dp e r (by simpa [PyData.plain] using q))
  | _, _, .lst h r, q => .lst (SqL.of (e _ _ h)) (VRs.dp e r (by simpa [PyData.plain] using q))
  | _, _, .scr h r, q => by simp [PyData.plain] at q
  | _, _, .ref h, q => by simp [PyData.plain] at q
theorem VRs.dp (e : Sub F H) : ∀ {ds : List D} {vs : List V}, VRs K F ρ ds vs → PyData.plainAll ds = true → DpAll K H vs ds
  | _, _, .nil, _ => .nil
  | _, _, .cons h r, q => by
    simp only [PyData.plainAll, Bool.and_eq_true] at q
    exact .cons (VR.dp e h q.1) (VRs.dp e r q.2)
end
theorem VRs.length : ∀ {ds : List D} {vs : List V}, VRs K F ρ ds vs → ds.length = vs.length
  | _, _, .nil => rfl
  | _, _, .cons _ r => by rw [List.length_cons, List.length_cons, VRs.length r]
theorem VRs.get : ∀ {ds : List D} {vs : List V} {i : Nat} {d : D}, VRs K F ρ ds vs → ds[i]? = some d → ∃ v, vs[i]? = some v ∧ VR K F ρ d v
  | _, _, i, _, .nil, h => by simp at h
  | _, _, 0, _, .cons h _, e => by simp at e; subst e; exact ⟨_, rfl, h⟩
  | _, _, i + 1, _, .cons _ r, e => by simpa using VRs.get r (by simpa using e)
theorem VRs.append : ∀ {ds es : List D} {vs ws : List V}, VRs K F ρ ds vs → VRs K F ρ es ws → VRs K F ρ (ds ++ es) (vs ++ ws)
  | _, _, _, _, .nil, s => s
  | _, _, _, _, .cons h r, s => .cons h (VRs.append r s)
theorem VRs.take : ∀ (n : Nat) {ds : List D} {vs : List V}, VRs K F ρ ds vs → VRs K F ρ (ds.take n) (vs.take n)
  | 0, _, _, _ => .nil
  | _ + 1, _, _, .nil => .nil
  | n + 1, _, _, .cons h r => .cons h (VRs.take n r)
theorem VRs.drop : ∀ (n : Nat) {ds : List D} {vs : List V}, VRs K F ρ ds vs → VRs K F ρ (ds.drop n) (vs.drop n)
  | 0, _, _, r => r
  | _ + 1, _, _, .nil => .nil
  | n + 1, _, _, .cons h r => VRs.drop n r
theorem VRs.set {d : D} {v : V} (q : VR K F ρ d v) : ∀ (n : Nat) {ds : List D} {vs : List V}, VRs K F ρ ds vs → VRs K F ρ (ds.set n d) (vs.set n v)
  | _, _, _, .nil => .nil
  | 0, _, _, .cons h r => .cons q r
  | n + 1, _, _, .cons h r => .cons h (VRs.set q n r)
theorem VRs.get_none {ds : List D} {vs : List V} {i : Nat} (h : VRs K F ρ ds vs) (e : ds[i]? = none) : vs[i]? = none := by
  rw [List.getElem?_eq_none_iff] at e ⊢
  rw [← h.length]
  exact e
end

/-- the object at a bears the object of the store -/
def OR (w : Wd) (F : Hp) (ρ : List Addr) (H : Hp) (a : Addr) : SO → Prop
  | .lst xs => ∃ vs, H a = some (.lst vs) ∧ VRs w.K F ρ xs vs
  | .dct kvs => ∃ vs, H a = some (.dK vs) ∧ KVs (VR w.K F ρ) kvs vs
  | .dlk _ => False
  | .lam _ => False
  | .scr _ => False
  | .ins c fs => ∃ dx vs, H a = some (.ins (w.cls c) dx vs) ∧ KVs (VR w.K F ρ) fs vs
  | .dead => False
/-- .. or it is dead: what stands there is told otherwise -/
def OK (w : Wd) (F : Hp) (ρ : List Addr) (H : Hp) (a : Addr) : SO → Prop
  | .dead => (F a).isSome = true
  | .scr xs => (F a).isSome = true ∧ ∃ vs, SqL w.K F a vs ∧ VRs w.K F ρ xs vs
  | .lam j => ∃ c' pm ctv, F a = some (.ext (LamPhi w.clo (w.lam j) a c' pm ctv)) ∧ F c' = some (LamX.CodeO c' (w.lam j).q)
  | .dlk kvs => ∃ o vs, F a = some (.frz o (.dK vs)) ∧ KVs (VR w.K F ρ) kvs vs
  | o => F a = none ∧ OR w F ρ H a o

/-- the store -/
structure RelS (w : Wd) (F : Hp) (ρ : List Addr) (H : Hp) (so : List SO) : Prop where
  le : Sub F H
  len : ρ.length = so.length
  nd : ρ.Nodup
  obj : ∀ (n : Nat) (o : SO), so[n]? = some o → ∃ a, ρ[n]? = some a ∧ OK w F ρ H a o
  tabs : LamX.Tabs w.T H
  nt : ∀ b ps, F b ≠ some (.tbl ps)

/-- the state of a body: its slots, the store -/
structure St where
  vars : List (Option D)
  so : List SO
structure Rel (w : Wd) (F : Hp) (ρ : List Addr) (σ : L2.St) (H : Hp) (st : St) : Prop where
  s : RelS w F ρ H st.so
  len : st.vars.length = σ.length
  var : ∀ (i : Nat) (d : D), st.vars[i]? = some (some d) → ∃ v, σ[i]? = some (some v) ∧ VR w.K F ρ d v

/-- how a computation ends: with a value, with an error of the class c, or untold -/
inductive R (α : Type) where
  | ok (a : α) (so : List SO)
  | exc (c : Nat) (so : List SO)
  | bad

/-- F', ρ' go on from F, ρ -/
structure Ext (F : Hp) (ρ : List Addr) (F' : Hp) (ρ' : List Addr) : Prop where
  le : Sub F F'
  pre : ρ <+: ρ'
theorem Ext.refl (F : Hp) (ρ : List Addr) : Ext F ρ F ρ := ⟨Sub.refl F, List.prefix_refl ρ⟩
theorem Ext.trans {F G H : Hp} {a b c : List Addr} (x : Ext F a G b) (y : Ext G b H c) : Ext F a H c := ⟨x.le.trans y.le, x.pre.trans y.pre⟩
theorem Ext.vr {K : PySem.W.Frag} {F F' : Hp} {ρ ρ' : List Addr} {d : D} {v : V} (x : Ext F ρ F' ρ') (h : VR K F ρ d v) : VR K F' ρ' d v := h.mono x.le x.pre
theorem Ext.vrs {K : PySem.W.Frag} {F F' : Hp} {ρ ρ' : List Addr} {d : List D} {v : List V} (x : Ext F ρ F' ρ') (h : VRs K F ρ d v) : VRs K F' ρ' d v := h.mono x.le x.pre

/-- the ends of an evaluation, as a wish: Vq relates the datum and the value -/
def Post {α β : Type} (w : Wd) (F : Hp) (ρ : List Addr) (σ : L2.St) (vars : List (Option D)) (Vq : Hp → List Addr → α → β → Prop) (W : WX) (r : R α) (Q : β → Hp → Prop) : Prop :=
  match r with
  | .ok a so => ∀ v F' ρ' H', Ext F ρ F' ρ' → Rel w F' ρ' σ H' ⟨vars, so⟩ → Vq F' ρ' a v → Q v H'
  | .exc c so => ∀ F' ρ' H', Ext F ρ F' ρ' → Rel w F' ρ' σ H' ⟨vars, so⟩ → W (.ref (w.cls c)) none σ H'
  | .bad => False
abbrev M (α : Type) := St → R α
def qV (w : Wd) : Hp → List Addr → D → V → Prop := fun F ρ d v => VR w.K F ρ d v
def qB (w : Wd) : Hp → List Addr → Bool → Bool → Prop := fun _ _ b c => b = c
def qA (w : Wd) : Hp → List Addr → List D → List V → Prop := fun F ρ d v => VRs w.K F ρ d v
def trE (w : Wd) (W : WX) (f : M D) : TE := fun σ H Q => ∃ F ρ st, Rel w F ρ σ H st ∧ Post w F ρ σ st.vars (qV w) W (f st) Q
def trT (w : Wd) (W : WX) (f : M Bool) : TT := fun σ H Q => ∃ F ρ st, Rel w F ρ σ H st ∧ Post w F ρ σ st.vars (qB w) W (f st) Q
def trA (w : Wd) (W : WX) (f : M (List D)) : TA := fun σ H Q => ∃ F ρ st, Rel w F ρ σ H st ∧ Post w F ρ σ st.vars (qA w) W (f st) Q

/-- e computes f in the context X -/
def SE (w : Wd) (X : Cx) (e : Expr) (f : M D) : Prop := ∀ W, Takes X W → PE X e (trE w W f)
def SB (w : Wd) (X : Cx) (e : Expr) (f : M Bool) : Prop := ∀ W, Takes X W → PT X e (trT w W f)
def SA (w : Wd) (X : Cx) (es : List Expr) (f : M (List D)) : Prop := ∀ W, Takes X W → PA X es (trA w W f)

theorem PE.imp {X : Cx} {e : Expr} {t t' : TE} (h : PE X e t) (k : ∀ σ H Q, t' σ H Q → t σ H Q) : PE X e t' := ⟨fun pins s σ H Q I q => h.run pins s σ H Q I (k σ H Q q)⟩
theorem PT.imp {X : Cx} {e : Expr} {t t' : TT} (h : PT X e t) (k : ∀ σ H Q, t' σ H Q → t σ H Q) : PT X e t' := ⟨fun pins s σ H Q I q => h.run pins s σ H Q I (k σ H Q q)⟩
theorem PA.imp {X : Cx} {e : List Expr} {t t' : TA} (h : PA X e t) (k : ∀ σ H Q, t' σ H Q → t σ H Q) : PA X e t' := ⟨fun pos pins s σ H Q I q => h.run pos pins s σ H Q I (k σ H Q q)⟩

/-! ### putting computations together -/
def bnd {α β : Type} (f : M α) (g : α → M β) : M β := fun st => match f st with
  | .ok a so => g a ⟨st.vars, so⟩
  | .exc c so => .exc c so
  | .bad => .bad
def ret {α : Type} (a : α) : M α := fun st => .ok a st.so
def bad {α : Type} : M α := fun _ => .bad
theorem post_bnd {α β γ δ : Type} {w : Wd} {F : Hp} {ρ : List Addr} {σ : L2.St} {W : WX} {f : M α} {g : α → M β} {st : St} {Vq : Hp → List Addr → α → γ → Prop} {Vr : Hp → List Addr → β → δ → Prop} {Q : δ → Hp → Prop} {Q' : γ → Hp → Prop}
    (h : Post w F ρ σ st.vars Vr W (bnd f g st) Q) (k : ∀ a v F' ρ' H' so, Ext F ρ F' ρ' → Rel w F' ρ' σ H' ⟨st.vars, so⟩ → Vq F' ρ' a v → Post w F' ρ' σ st.vars Vr W (g a ⟨st.vars, so⟩) Q → Q' v H') : Post w F ρ σ st.vars Vq W (f st) Q' := by
  unfold bnd at h
  cases e : f st with
  | ok a so =>
    rw [e] at h
    intro v F' ρ' H' x r q
    refine k a v F' ρ' H' so x r q ?_
    revert h
    show Post w F ρ σ st.vars Vr W (g a ⟨st.vars, so⟩) Q → _
    cases g a ⟨st.vars, so⟩ with
    | ok b so2 => exact fun h v F2 ρ2 H2 x2 r2 q2 => h v F2 ρ2 H2 (x.trans x2) r2 q2
    | exc c so2 => exact fun h F2 ρ2 H2 x2 r2 => h F2 ρ2 H2 (x.trans x2) r2
    | bad => exact fun h => h
  | exc c so =>
    rw [e] at h
    exact h
  | bad =>
    rw [e] at h
    exact h
end EV
end
section
set_option Elab.async false
set_option linter.all false
set_option maxRecDepth 100000
set_option maxHeartbeats 4000000
namespace EV
open PySem L2

/-- the context: its written part, no handler, room -/
structure Cok (w : Wd) (X : Cx) : Prop where
  K : X.K = w.K
  calm : X.calm = true
  nd : X.N.Nodup
  un : X.A.units + 200 < cLine

section
variable {w : Wd} {X : Cx} {F F' : Hp} {ρ ρ' : List Addr} {σ : L2.St} {H H' : Hp} {st : St} {so so' : List SO} {vars : List (Option D)}

/-! ### the store goes on -/
theorem Rel.up (r : Rel w F ρ σ H ⟨vars, so⟩) (x : Ext F ρ F' ρ') (s : RelS w F' ρ' H' so') : Rel w F' ρ' σ H' ⟨vars, so'⟩ :=
  ⟨s, r.len, fun i d h => let ⟨v, e, q⟩ := r.var i d h; ⟨v, e, x.vr q⟩⟩
theorem OR.live {a : Addr} {o : SO} (h : OR w F ρ H a o) : ∃ u, H a = some u ∧ (∀ ps, u ≠ .tbl ps) ∧ (∀ φ, u ≠ .ext φ) := by
  cases o with
  | lst xs => obtain ⟨vs, e, _⟩ := h; exact ⟨_, e, (fun _ z => by cases z), (fun _ z => by cases z)⟩
  | dct kvs => obtain ⟨vs, e, _⟩ := h; exact ⟨_, e, (fun _ z => by cases z), (fun _ z => by cases z)⟩
  | dlk kvs => exact h.elim
  | ins c fs => obtain ⟨dx, vs, e, _⟩ := h; exact ⟨_, e, (fun _ z => by cases z), (fun _ z => by cases z)⟩
  | lam _ => exact h.elim
  | scr _ => exact h.elim
  | dead => exact h.elim
theorem OR.mono {a : Addr} {o : SO} (x : Ext F ρ F' ρ') (e : H' a = H a) (h : OR w F ρ H a o) : OR w F' ρ' H' a o := by
  have f : ∀ d v, VR w.K F ρ d v → VR w.K F' ρ' d v := fun _ _ => x.vr
  cases o with
  | lst xs => obtain ⟨vs, q, r⟩ := h; exact ⟨vs, e.trans q, x.vrs r⟩
  | dct kvs => obtain ⟨vs, q, r⟩ := h; exact ⟨vs, e.trans q, r.mono f⟩
  | dlk kvs => exact h.elim
  | ins c fs => obtain ⟨dx, vs, q, r⟩ := h; exact ⟨dx, vs, e.trans q, r.mono f⟩
  | lam _ => exact h.elim
  | scr _ => exact h.elim
  | dead => exact h.elim
theorem OK.of {a : Addr} {o : SO} (h : F a = none) (k : OR w F ρ H a o) : OK w F ρ H a o := by
  cases o with
  | dead => exact k.elim
  | dlk _ => exact k.elim
  | lam _ => exact k.elim
  | scr _ => exact k.elim
  | _ => exact ⟨h, k⟩
theorem OK.or {a : Addr} {o : SO} (h : OK w F ρ H a o) : ((F a).isSome = true ∧ ∀ F' ρ' H', Ext F ρ F' ρ' → OK w F' ρ' H' a o) ∨ (F a = none ∧ OR w F ρ H a o) := by
  cases o with
  | dead =>
    refine .inl ⟨h, fun F' ρ' H' x => ?_⟩
    obtain ⟨u, hu⟩ := Option.isSome_iff_exists.mp h
    show (F' a).isSome = true
    rw [x.le a u hu] <;> rfl
  | scr xs =>
    obtain ⟨h0, vs, h1, h2⟩ := h
    refine .inl ⟨h0, fun F' ρ' H' x => ⟨?_, vs, x.le.sqL h1, x.vrs h2⟩⟩
    obtain ⟨u, hu⟩ := Option.isSome_iff_exists.mp h0
    rw [x.le a u hu] <;> rfl
  | lam j =>
    obtain ⟨c', pm, ctv, h1, h2⟩ := h
    exact .inl ⟨by rw [h1] <;> rfl, fun F' ρ' H' x => ⟨c', pm, ctv, x.le _ _ h1, x.le _ _ h2⟩⟩
  | dlk kvs =>
    obtain ⟨o, vs, h1, h2⟩ := h
    exact .inl ⟨by rw [h1] <;> rfl, fun F' ρ' H' x => ⟨o, vs, x.le _ _ h1, h2.mono fun _ _ => x.vr⟩⟩
  | _ => exact .inr h
theorem OK.some {a : Addr} {o : SO} (l : Sub F H) (h : OK w F ρ H a o) : ∃ u, H a = some u := by
  rcases h.or with ⟨h, _⟩ | ⟨_, h⟩
  · obtain ⟨u, hu⟩ := Option.isSome_iff_exists.mp h
    exact ⟨u, l a u hu⟩
  · obtain ⟨u, hu, _⟩ := h.live
    exact ⟨u, hu⟩
/-- the world goes on, the object stays -/
theorem OK.keep {a : Addr} {o : SO} (x : Ext F ρ F' ρ') (f : F a = none → F' a = none) (e : H' a = H a) (h : OK w F ρ H a o) : OK w F' ρ' H' a o := by
  rcases h.or with ⟨_, h⟩ | ⟨h1, h⟩
  · exact h F' ρ' H' x
  · exact .of (f h1) (h.mono x e)
theorem tabs_new {T : List (Addr × PySem.Str)} {p : Addr} {o : HO} (t : LamX.Tabs T H) (h : H p = none) : LamX.Tabs T (upd H p o) :=
  t.ext fun b u e => by rw [upd_ne (ne_of_none e h)]; exact e
/-- a new object that never changes -/
theorem RelS.frozen {p : Addr} {o : HO} (r : RelS w F ρ H so) (h : H p = none) (ht : ∀ ps, o ≠ .tbl ps := by intro _ z; cases z) : RelS w (upd F p o) ρ (upd H p o) so ∧ Ext F ρ (upd F p o) ρ := by
  have hF := r.le.free h
  have x : Ext F ρ (upd F p o) ρ := ⟨Sub.new hF, List.prefix_refl ρ⟩
  refine ⟨⟨r.le.both, r.len, r.nd, fun n ob e => ?_, tabs_new r.tabs h, fun b ps q => ?_⟩, x⟩
  rotate_left
  · by_cases hb : b = p
    · rw [hb, upd_same] at q
      exact ht ps (Option.some.inj q)
    · rw [upd_ne hb] at q
      exact r.nt b ps q
  obtain ⟨a, e1, e3⟩ := r.obj n ob e
  obtain ⟨u, hu⟩ := e3.some r.le
  have ne := ne_of_none hu h
  exact ⟨a, e1, e3.keep x (fun z => by rw [upd_ne ne]; exact z) (upd_ne ne)⟩
/-- a new object of the store -/
theorem RelS.live {p : Addr} {u : HO} {o : SO} (r : RelS w F ρ H so) (h : H p = none) (ho : OR w F ρ (upd H p u) p o) : RelS w F (ρ ++ [p]) (upd H p u) (so ++ [o]) ∧ Ext F ρ F (ρ ++ [p]) := by
  have hF := r.le.free h
  have x : Ext F ρ F (ρ ++ [p]) := ⟨Sub.refl F, List.prefix_append ρ [p]⟩
  have np : p ∉ ρ := fun hp => by
    obtain ⟨n, hn, e⟩ := List.getElem_of_mem hp
    have hs : n < so.length := by rw [← r.len]; exact hn
    obtain ⟨a, e1, e3⟩ := r.obj n _ (List.getElem?_eq_getElem hs)
    rw [List.getElem?_eq_getElem hn, e] at e1
    cases e1
    obtain ⟨u, hu⟩ := e3.some r.le
    rw [h] at hu
    cases hu
  refine ⟨⟨r.le.upd hF, by rw [List.length_append, List.length_append, r.len]; rfl, ?_, fun n ob e => ?_, tabs_new r.tabs h, r.nt⟩, x⟩
  · rw [List.nodup_append]
    exact ⟨r.nd, by simp, fun a ha b hb => by simp at hb; subst hb; exact fun z => np (z ▸ ha)⟩
  · by_cases hn : n < so.length
    · rw [List.getElem?_append_left hn] at e
      obtain ⟨a, e1, e3⟩ := r.obj n ob e
      obtain ⟨u', hu⟩ := e3.some r.le
      have ne := ne_of_none hu h
      exact ⟨a, pre_get x.pre e1, e3.keep x (fun z => z) (upd_ne ne)⟩
    · rw [List.getElem?_append_right (by omega)] at e
      have hn2 : n - so.length = 0 := by
        have := (List.getElem?_eq_some_iff.mp e).1
        simp at this
        omega
      rw [hn2] at e
      cases e
      have hn3 : n = ρ.length := by rw [r.len]; omega
      exact ⟨p, by rw [hn3]; simp, .of hF (ho.mono x rfl)⟩
/-- an object of the store is changed -/
theorem RelS.write {n : Nat} {a : Addr} {u u' : HO} {o : SO} (r : RelS w F ρ H so) (hn : ρ[n]? = some a) (hu : H a = some u) (ht : ∀ ps, u ≠ .tbl ps) (he : ∀ φ, u ≠ .ext φ) (hF : F a = none) (ho : OR w F ρ (upd H a u') a o) : RelS w F ρ (upd H a u') (so.set n o) := by
  refine ⟨r.le.upd hF, by rw [List.length_set]; exact r.len, r.nd, fun m ob e => ?_, fun q hq => ?_, r.nt⟩
  · by_cases hm : m = n
    · subst hm
      have hl : m < so.length := by rw [← r.len]; exact (List.getElem?_eq_some_iff.mp hn).1
      rw [List.getElem?_set_self hl] at e
      cases e
      exact ⟨a, hn, .of hF ho⟩
    · rw [List.getElem?_set_ne (Ne.symm hm)] at e
      obtain ⟨b, e1, e3⟩ := r.obj m ob e
      have ne : b ≠ a := fun z => by
        subst z
        have h1 := List.getElem?_eq_some_iff.mp hn
        have h2 := List.getElem?_eq_some_iff.mp e1
        exact hm ((List.getElem_inj r.nd).mp (h2.2.trans h1.2.symm))
      exact ⟨b, e1, e3.keep (Ext.refl F ρ) (fun z => z) (upd_ne ne)⟩
  · obtain ⟨ps, h1, h2, h3⟩ := r.tabs q hq
    have k : ∀ b o, H b = some o → (∀ ps, o ≠ .tbl ps → True) → b ≠ a → (upd H a u') b = some o := fun b o e _ ne => by rw [upd_ne ne]; exact e
    have n1 : q.1 ≠ a := fun z => by rw [z, hu] at h1; exact ht ps (Option.some.inj h1)
    refine ⟨ps, by rw [upd_ne n1]; exact h1, h2, fun pos cv hc => ?_⟩
    obtain ⟨c, e1, e2⟩ := h3 pos cv hc
    have n2 : c ≠ a := fun z => by
      rw [z, hu] at e2
      exact he _ (Option.some.inj e2)
    exact ⟨c, e1, by rw [upd_ne n2]; exact e2⟩

/-! ### names, constants -/
def eVar (i : Nat) : M D := fun st => match st.vars[i]? with
  | some (some d) => .ok d st.so
  | _ => .bad
theorem se_var {i : Nat} {x : PySem.Str} {pos : Pos} (hN : X.N[i]? = some x) (hv : Vis X.env.scope x) (hd : (x == ("__debug__" : PySem.Str)) = false := by decide) (hcd : (x == ("__classdict__" : PySem.Str)) = false := by decide) : SE w X (.Name x pos) (eVar i) := by
  intro W tk
  refine PE.imp (pe_var hN hv hd hcd) fun σ H Q ⟨F, ρ, st, r, p⟩ => ?_
  unfold eVar at p
  cases e : st.vars[i]? with
  | none => rw [e] at p; exact p.elim
  | some o =>
    cases o with
    | none => rw [e] at p; exact p.elim
    | some d =>
      rw [e] at p
      obtain ⟨v, e1, q⟩ := r.var i d e
      exact ⟨v, e1, p v F ρ H (Ext.refl F ρ) r q⟩
/-- a datum that stands by itself -/
def eC (d : D) : M D := ret d
theorem se_c {e : Expr} {d : D} {v : V} (h : PE X e (tC v)) (q : ∀ F ρ, VR w.K F ρ d v) : SE w X e (eC d) := fun W tk =>
  PE.imp h fun σ H Q ⟨F, ρ, st, r, p⟩ => p v F ρ H (Ext.refl F ρ) r (q F ρ)
theorem se_int {i : Int} {j pos} : SE w X (.Constant (.int i) j pos) (eC (.int i)) := se_c pe_int fun _ _ => .int i
theorem se_str {i : PySem.Str} {j pos} : SE w X (.Constant (.str i) j pos) (eC (.str i)) := se_c pe_str fun _ _ => .str i
theorem se_bl {i : Bool} {j pos} : SE w X (.Constant (.bool i) j pos) (eC (.bool i)) := se_c pe_bl fun _ _ => .bl i
theorem se_non {j pos} : SE w X (.Constant .none j pos) (eC .none) := se_c pe_non fun _ _ => .non

/-! ### lists of expressions, displays -/
def eNil : M (List D) := ret []
def eCons (f : M D) (g : M (List D)) : M (List D) := bnd f fun x => bnd g fun xs => ret (x :: xs)
theorem sa_nil : SA w X [] eNil := fun W tk => PA.imp pa_nil fun σ H Q ⟨F, ρ, st, r, p⟩ => p [] F ρ H (Ext.refl F ρ) r .nil
theorem sa_cons {e : Expr} {es : List Expr} {f : M D} {g : M (List D)} (he : SE w X e f) (hs : SA w X es g) (hst : starEach (e :: es) X.env = (false, eval e X.env) :: starEach es X.env := by rfl) : SA w X (e :: es) (eCons f g) := by
  intro W tk
  refine PA.imp (pa_cons (he W tk) (hs W tk) hst) fun σ H Q ⟨F, ρ, st, r, p⟩ => ?_
  refine ⟨F, ρ, st, r, post_bnd p fun a v F1 ρ1 H1 so1 x1 r1 q1 p1 => ?_⟩
  refine ⟨F1, ρ1, ⟨st.vars, so1⟩, r1, post_bnd p1 fun as vs F2 ρ2 H2 so2 x2 r2 q2 p2 => ?_⟩
  exact p2 (v :: vs) F2 ρ2 H2 (Ext.refl _ _) r2 (.cons (x2.vr q1) q2)
/-- lists, tuples are no longer than this -/
def mx : Nat := 1000000
theorem mx_le : mx ≤ sizeLine := by decide
theorem le_mx {n : Nat} (h : n ≤ mx) : n ≤ sizeLine := Nat.le_trans h mx_le
def kTup (ds : List D) : M D := fun st => if ds.length ≤ mx then .ok (.tuple ds) st.so else .bad
def kLst (ds : List D) : M D := fun st => if ds.length ≤ mx then .ok (.list ds) st.so else .bad
/-- a list of the store -/
def kLive (ds : List D) : M D := fun st => if ds.length ≤ mx then .ok (rf st.so.length) (st.so ++ [.lst ds]) else .bad
def eTup (f : M (List D)) : M D := bnd f kTup
def eLst (f : M (List D)) : M D := bnd f kLst
def eLive (f : M (List D)) : M D := bnd f kLive
theorem se_tup {es : List Expr} {k pos} {f : M (List D)} (h : SA w X es f) : SE w X (.Tuple es k pos) (eTup f) := by
  intro W tk
  refine PE.imp (pe_tup (h W tk)) fun σ H Q ⟨F, ρ, st, r, p⟩ => ?_
  refine ⟨F, ρ, st, r, post_bnd p fun ds vs F1 ρ1 H1 so1 x1 r1 q1 p1 => ?_⟩
  unfold kTup at p1
  by_cases hl : ds.length ≤ mx
  · rw [if_pos hl] at p1
    refine ⟨by rw [← VRs.length q1]; exact le_mx hl, fun p hp => ?_⟩
    obtain ⟨r2, x2⟩ := r1.s.frozen (o := .tup vs) hp
    exact p1 _ _ _ _ x2 (r1.up x2 r2) (.tup (SqT.of upd_same) (x2.vrs q1))
  · rw [if_neg hl] at p1
    exact p1.elim
theorem se_lst {es : List Expr} {pos} {f : M (List D)} (h : SA w X es f) : SE w X (.List es pos) (eLst f) := by
  intro W tk
  refine PE.imp (pe_lst (h W tk)) fun σ H Q ⟨F, ρ, st, r, p⟩ => ?_
  refine ⟨F, ρ, st, r, post_bnd p fun ds vs F1 ρ1 H1 so1 x1 r1 q1 p1 => ?_⟩
  unfold kLst at p1
  by_cases hl : ds.length ≤ mx
  · rw [if_pos hl] at p1
    refine ⟨by rw [← VRs.length q1]; exact le_mx hl, fun p hp => ?_⟩
    obtain ⟨r2, x2⟩ := r1.s.frozen (o := .lst vs) hp
    exact p1 _ _ _ _ x2 (r1.up x2 r2) (.lst upd_same (x2.vrs q1))
  · rw [if_neg hl] at p1
    exact p1.elim
theorem ref_new {p : Addr} (r : RelS w F ρ H so) : VR w.K F (ρ ++ [p]) (rf so.length) (.ref p) := .ref (by rw [← r.len]; simp)
theorem se_live {es : List Expr} {pos} {f : M (List D)} (h : SA w X es f) : SE w X (.List es pos) (eLive f) := by
  intro W tk
  refine PE.imp (pe_lst (h W tk)) fun σ H Q ⟨F, ρ, st, r, p⟩ => ?_
  refine ⟨F, ρ, st, r, post_bnd p fun ds vs F1 ρ1 H1 so1 x1 r1 q1 p1 => ?_⟩
  unfold kLive at p1
  by_cases hl : ds.length ≤ mx
  · rw [if_pos hl] at p1
    refine ⟨by rw [← VRs.length q1]; exact le_mx hl, fun p hp => ?_⟩
    obtain ⟨r2, x2⟩ := r1.s.live (u := .lst vs) (o := .lst ds) hp ⟨vs, upd_same, q1⟩
    exact p1 _ _ _ _ x2 (r1.up x2 r2) (ref_new r1.s)
  · rw [if_neg hl] at p1
    exact p1.elim

/-! ### operators by values -/
/-- what an operator or a call by values is to do -/
abbrev O2 := D → D → List SO → Option (D × List SO)
def lft {α : Type} : Option (α × List SO) → R α
  | some (a, so) => .ok a so
  | none => .bad
/-- f, on values, does g -/
def OpS (w : Wd) (X : Cx) (f : Value → Value → Sem Value) (g : O2) : Prop :=
  ∀ (F : Hp) (ρ : List Addr) (H : Hp) (so : List SO) (dx dy d : D) (so' : List SO) (x y : V) (v u : Value) (pins : List (Addr × Obj)) (s : Shared) (σ : L2.St) (Q : VK),
    RelS w F ρ H so → VR w.K F ρ dx x → VR w.K F ρ dy y → g dx dy so = some (d, so') → Inv X pins σ H s → RelV x v → RelV y u →
    (∀ v' F' ρ' H', Ext F ρ F' ρ' → RelS w F' ρ' H' so' → VR w.K F' ρ' d v' → Q v' H') → wpAny (model X.prog X.w) X.A (f v u) (EP X pins σ Q) X.xe s
def rO (w : Wd) (g : O2) : R2 := fun x y H Q => ∃ F ρ so dx dy d so', RelS w F ρ H so ∧ VR w.K F ρ dx x ∧ VR w.K F ρ dy y ∧ g dx dy so = some (d, so') ∧
  ∀ v' F' ρ' H', Ext F ρ F' ρ' → RelS w F' ρ' H' so' → VR w.K F' ρ' d v' → Q v' H'
theorem OpS.r {f : Value → Value → Sem Value} {g : O2} (h : OpS w X f g) : OpR X f (rO w g) := fun pins s σ H x y v u Q I rx ry ⟨F, ρ, so, dx, dy, d, so', r, hx, hy, hg, k⟩ =>
  h F ρ H so dx dy d so' x y v u pins s σ Q r hx hy hg I rx ry k
def eOp (g : O2) (f1 f2 : M D) : M D := bnd f1 fun x => bnd f2 fun y => fun st => lft (g x y st.so)
theorem op_post {W : WX} {g : O2} {x y : D} {v u : V} {Q : VK} {F1 : Hp} {ρ1 : List Addr} (r : Rel w F ρ σ H ⟨vars, so⟩) (hx : VR w.K F ρ x v) (hy : VR w.K F ρ y u) (p : Post w F ρ σ vars (qV w) W (lft (g x y so)) Q) : rO w g v u H Q := by
  cases e : g x y so with
  | none => rw [e] at p; exact p.elim
  | some q =>
    obtain ⟨d, so'⟩ := q
    rw [e] at p
    exact ⟨F, ρ, so, x, y, d, so', r.s, hx, hy, e, fun v' F' ρ' H' x' r' q' => p v' F' ρ' H' x' (r.up x' r') q'⟩
theorem tr_op {W : WX} {g : O2} {f1 f2 : M D} {Q : VK} (h : trE w W (eOp g f1 f2) σ H Q) : tOp (rO w g) (trE w W f1) (trE w W f2) σ H Q := by
  obtain ⟨F, ρ, st, r, p⟩ := h
  refine ⟨F, ρ, st, r, post_bnd p fun a v F1 ρ1 H1 so1 x1 r1 q1 p1 => ?_⟩
  refine ⟨F1, ρ1, ⟨st.vars, so1⟩, r1, post_bnd p1 fun b u F2 ρ2 H2 so2 x2 r2 q2 p2 => ?_⟩
  exact op_post (F1 := F2) (ρ1 := ρ2) r2 (x2.vr q1) q2 p2
theorem se_op {a b : Expr} {op : Operator} {pos : Pos} {g : O2} {f1 f2 : M D} (ho : OpS w X (binaryOp op) g) (ha : SE w X a f1) (hb : SE w X b f2) : SE w X (.BinOp a op b pos) (eOp g f1 f2) :=
  fun W tk => PE.imp (pe_op ho.r (ha W tk) (hb W tk)) fun _ _ _ h => tr_op h
theorem se_cmp {a b : Expr} {op : CmpOp} {pos : Pos} {g : O2} {f1 f2 : M D} (ho : OpS w X (compareOp op) g) (ha : SE w X a f1) (hb : SE w X b f2) (hm : behindInMarks op b = false := by rfl) : SE w X (.Compare a [op] [b] pos) (eOp g f1 f2) :=
  fun W tk => PE.imp (pe_cmpR ho.r (ha W tk) (hb W tk) hm) fun _ _ _ h => tr_op h
/-- a truth value -/
def kB (d : D) : M Bool := match d with
  | .bool b => ret b
  | _ => bad
def eB (f : M D) : M Bool := bnd f kB
theorem sb_of {W : WX} {f : M D} {Q : Bool → Hp → Prop} (h : trT w W (eB f) σ H Q) : trE w W f σ H (fun x H1 => ∃ c, x = .bl c ∧ Q c H1) := by
  obtain ⟨F, ρ, st, r, p⟩ := h
  refine ⟨F, ρ, st, r, post_bnd p fun a v F1 ρ1 H1 so1 x1 r1 q1 p1 => ?_⟩
  cases q1 <;> first | exact p1.elim | exact ⟨_, rfl, p1 _ F1 ρ1 H1 (Ext.refl _ _) r1 rfl⟩
theorem sb_val {e : Expr} {f : M D} (h : SE w X e f) (he : ∀ whole, isTrue e X.env whole = (do let v ← whole; standAt e.pos; holding [v] (truthy v)) := by intro _; rfl) : SB w X e (eB f) :=
  fun W tk => PT.imp (pt_val (h W tk) he) fun _ _ _ h => sb_of h
theorem sb_cmp {a b : Expr} {op : CmpOp} {pos : Pos} {g : O2} {f1 f2 : M D} (ho : OpS w X (compareOp op) g) (ha : SE w X a f1) (hb : SE w X b f2) (hm : behindInMarks op b = false := by rfl) : SB w X (.Compare a [op] [b] pos) (eB (eOp g f1 f2)) :=
  fun W tk => PT.imp (pt_cmpR ho.r (ha W tk) (hb W tk) hm) fun _ _ _ h => by
    have h2 := sb_of h
    exact tr_op h2
end
end EV
end
section
set_option Elab.async false
set_option linter.all false
set_option maxRecDepth 100000
set_option maxHeartbeats 4000000
namespace EV
open PySem L2
section
variable {w : Wd} {X : Cx} {F F' : Hp} {ρ ρ' : List Addr} {σ : L2.St} {H H' : Hp} {st : St} {so so' : List SO} {vars : List (Option D)}

/-! ### and, or, not, a if t else b -/
def SW (w : Wd) (X : Cx) (e : Expr) (f : M Bool) : Prop := ∀ W, Takes X W → PW X e (trT w W f)
theorem SW.b {e : Expr} {f : M Bool} (h : SW w X e f) : SB w X e f := fun W tk => (h W tk).pt
theorem PW.imp {X : Cx} {e : Expr} {t t' : TT} (h : PW X e t) (k : ∀ σ H Q, t' σ H Q → t σ H Q) : PW X e t' := ⟨fun wh pins s σ H Q I q => h.run wh pins s σ H Q I (k σ H Q q)⟩
def mAnd (f g : M Bool) : M Bool := bnd f fun b => if b = true then g else ret false
def mOr (f g : M Bool) : M Bool := bnd f fun b => if b = true then ret true else g
def mNot (f : M Bool) : M Bool := bnd f fun b => ret (!b)
theorem sw_and1 {a : Expr} {pos : Pos} {f : M Bool} (h : SB w X a f) : SW w X (.BoolOp .And [a] pos) f := fun W tk => pw_and1 (h W tk)
theorem sw_or1 {a : Expr} {pos : Pos} {f : M Bool} (h : SB w X a f) : SW w X (.BoolOp .Or [a] pos) f := fun W tk => pw_or1 (h W tk)
theorem sw_and {a b : Expr} {rest : List Expr} {pos : Pos} {f g : M Bool} (h : SB w X a f) (k : SW w X (.BoolOp .And (b :: rest) pos) g) : SW w X (.BoolOp .And (a :: b :: rest) pos) (mAnd f g) := fun W tk =>
  PW.imp (pw_and (h W tk) (k W tk)) fun σ H Q ⟨F, ρ, st, r, p⟩ => ⟨F, ρ, st, r, post_bnd p fun b c F1 ρ1 H1 so1 x1 r1 q1 p1 => by
    cases q1
    cases b with
    | true => exact ⟨F1, ρ1, ⟨st.vars, so1⟩, r1, p1⟩
    | false => exact p1 false F1 ρ1 H1 (Ext.refl _ _) r1 rfl⟩
theorem sw_or {a b : Expr} {rest : List Expr} {pos : Pos} {f g : M Bool} (h : SB w X a f) (k : SW w X (.BoolOp .Or (b :: rest) pos) g) : SW w X (.BoolOp .Or (a :: b :: rest) pos) (mOr f g) := fun W tk =>
  PW.imp (pw_or (h W tk) (k W tk)) fun σ H Q ⟨F, ρ, st, r, p⟩ => ⟨F, ρ, st, r, post_bnd p fun b c F1 ρ1 H1 so1 x1 r1 q1 p1 => by
    cases q1
    cases b with
    | false => exact ⟨F1, ρ1, ⟨st.vars, so1⟩, r1, p1⟩
    | true => exact p1 true F1 ρ1 H1 (Ext.refl _ _) r1 rfl⟩
theorem sb_not {a : Expr} {pos : Pos} {f : M Bool} (h : SB w X a f) : SB w X (.UnaryOp .Not a pos) (mNot f) := fun W tk =>
  PT.imp (pt_not (h W tk)) fun σ H Q ⟨F, ρ, st, r, p⟩ => ⟨F, ρ, st, r, post_bnd p fun b c F1 ρ1 H1 so1 x1 r1 q1 p1 => by
    cases q1
    exact p1 (!b) F1 ρ1 H1 (Ext.refl _ _) r1 rfl⟩
/-- .. as values -/
def vAnd (f g : M D) : M D := bnd f fun x => match x with
  | .bool true => g
  | .bool false => ret (.bool false)
  | _ => bad
def vOr (f g : M D) : M D := bnd f fun x => match x with
  | .bool true => ret (.bool true)
  | .bool false => g
  | _ => bad
def vNot (f : M D) : M D := bnd f fun x => match x with
  | .bool b => ret (.bool (!b))
  | _ => bad
theorem se_one {op} {a : Expr} {pos : Pos} {f : M D} (h : SE w X a f) : SE w X (.BoolOp op [a] pos) f := fun W tk => pe_one (h W tk)
theorem se_and {a b : Expr} {rest : List Expr} {pos : Pos} {f g : M D} (h : SE w X a f) (k : SE w X (.BoolOp .And (b :: rest) pos) g) : SE w X (.BoolOp .And (a :: b :: rest) pos) (vAnd f g) := fun W tk =>
  PE.imp (pe_and (h W tk) (k W tk)) fun σ H Q ⟨F, ρ, st, r, p⟩ => ⟨F, ρ, st, r, post_bnd p fun b c F1 ρ1 H1 so1 x1 r1 q1 p1 => by
    cases q1 <;> try exact p1.elim
    rename_i b
    refine ⟨b, rfl, ?_⟩
    cases b with
    | true => exact ⟨F1, ρ1, ⟨st.vars, so1⟩, r1, p1⟩
    | false => exact p1 _ F1 ρ1 H1 (Ext.refl _ _) r1 (.bl false)⟩
theorem se_or {a b : Expr} {rest : List Expr} {pos : Pos} {f g : M D} (h : SE w X a f) (k : SE w X (.BoolOp .Or (b :: rest) pos) g) : SE w X (.BoolOp .Or (a :: b :: rest) pos) (vOr f g) := fun W tk =>
  PE.imp (pe_or (h W tk) (k W tk)) fun σ H Q ⟨F, ρ, st, r, p⟩ => ⟨F, ρ, st, r, post_bnd p fun b c F1 ρ1 H1 so1 x1 r1 q1 p1 => by
    cases q1 <;> try exact p1.elim
    rename_i b
    refine ⟨b, rfl, ?_⟩
    cases b with
    | false => exact ⟨F1, ρ1, ⟨st.vars, so1⟩, r1, p1⟩
    | true => exact p1 _ F1 ρ1 H1 (Ext.refl _ _) r1 (.bl true)⟩
theorem se_not {a : Expr} {pos : Pos} {f : M D} (h : SE w X a f) : SE w X (.UnaryOp .Not a pos) (vNot f) := fun W tk =>
  PE.imp (pe_not (h W tk)) fun σ H Q ⟨F, ρ, st, r, p⟩ => ⟨F, ρ, st, r, post_bnd p fun b c F1 ρ1 H1 so1 x1 r1 q1 p1 => by
    cases q1 <;> try exact p1.elim
    rename_i b
    exact ⟨b, rfl, p1 _ F1 ρ1 H1 (Ext.refl _ _) r1 (.bl _)⟩⟩
def eIf (c : M Bool) (f g : M D) : M D := bnd c fun b => if b = true then f else g
theorem se_if {c a b : Expr} {pos : Pos} {fc : M Bool} {f g : M D} (hc : SB w X c fc) (ha : SE w X a f) (hb : SE w X b g) : SE w X (.IfExp c a b pos) (eIf fc f g) := fun W tk =>
  PE.imp (pe_ifExp (hc W tk) (ha W tk) (hb W tk)) fun σ H Q ⟨F, ρ, st, r, p⟩ => ⟨F, ρ, st, r, post_bnd p fun b c F1 ρ1 H1 so1 x1 r1 q1 p1 => by
    cases q1
    cases b with
    | true => exact ⟨F1, ρ1, ⟨st.vars, so1⟩, r1, p1⟩
    | false => exact ⟨F1, ρ1, ⟨st.vars, so1⟩, r1, p1⟩⟩
/-- a op1 b op2 c -/
def eChain (g g' : O2) (f1 f2 f3 : M D) : M D := bnd f1 fun x => bnd f2 fun y => bnd (fun st => lft (g x y st.so)) fun z => match z with
  | .bool true => bnd f3 fun t => fun st => lft (g' y t st.so)
  | .bool false => ret (.bool false)
  | _ => bad
theorem post_lft {α β : Type} {W : WX} {Vq : Hp → List Addr → D → V → Prop} {f : M D} {Q : V → Hp → Prop} {a : D} (h : Post w F ρ σ vars Vq W (f ⟨vars, so⟩) Q) : Post w F ρ σ vars Vq W (f ⟨vars, so⟩) Q := h
theorem tr_chain {W : WX} {g g' : O2} {f1 f2 f3 : M D} {Q : VK} (h : trE w W (eChain g g' f1 f2 f3) σ H Q) : tChain (rO w g) (rO w g') (trE w W f1) (trE w W f2) (trE w W f3) σ H Q := by
  obtain ⟨F, ρ, st, r, p⟩ := h
  refine ⟨F, ρ, st, r, post_bnd p fun a v F1 ρ1 H1 so1 x1 r1 q1 p1 => ?_⟩
  refine ⟨F1, ρ1, ⟨st.vars, so1⟩, r1, post_bnd p1 fun b u F2 ρ2 H2 so2 x2 r2 q2 p2 => ?_⟩
  refine op_post (W := W) (F1 := F2) (ρ1 := ρ2) r2 (x2.vr q1) q2 (post_bnd p2 fun z zv F3 ρ3 H3 so3 x3 r3 q3 p3 => ?_)
  cases q3 <;> try exact p3.elim
  rename_i k
  refine ⟨k, rfl, ?_⟩
  cases k with
  | true =>
    refine ⟨F3, ρ3, ⟨st.vars, so3⟩, r3, post_bnd p3 fun t tv F4 ρ4 H4 so4 x4 r4 q4 p4 => ?_⟩
    exact op_post (W := W) (F1 := F4) (ρ1 := ρ4) r4 ((x3.trans x4).vr q2) q4 p4
  | false => exact p3 _ F3 ρ3 H3 (Ext.refl _ _) r3 (.bl false)
theorem se_chain {a b c : Expr} {op op' : CmpOp} {pos : Pos} {g g' : O2} {f1 f2 f3 : M D} (ho : OpS w X (compareOp op) g) (ho' : OpS w X (compareOp op') g') (ha : SE w X a f1) (hb : SE w X b f2) (hc : SE w X c f3) (hm : lastMarks [op, op'] [b, c] = false := by rfl) : SE w X (.Compare a [op, op'] [b, c] pos) (eChain g g' f1 f2 f3) :=
  fun W tk => PE.imp (pe_chain ho.r ho'.r (ha W tk) (hb W tk) (hc W tk) hm) fun _ _ _ h => tr_chain h
theorem sb_chain {a b c : Expr} {op op' : CmpOp} {pos : Pos} {g g' : O2} {f1 f2 f3 : M D} (ho : OpS w X (compareOp op) g) (ho' : OpS w X (compareOp op') g') (ha : SE w X a f1) (hb : SE w X b f2) (hc : SE w X c f3) (hm : lastMarks [op, op'] [b, c] = false := by rfl) : SB w X (.Compare a [op, op'] [b, c] pos) (eB (eChain g g' f1 f2 f3)) :=
  fun W tk => PT.imp (pt_chain ho.r ho'.r (ha W tk) (hb W tk) (hc W tk) hm) fun _ _ _ h => by
    have h2 := sb_of h
    exact tr_chain h2

/-! ### operators -/
/-- a list of the store told by what it holds -/
def dref (so : List SO) (d : D) : D := match d with
  | .dict [(.int n, .none)] => (match so[n.toNat]? with
    | some (.lst xs) => .list xs
    | _ => d)
  | d => d
theorem vr_ref_shape {d : D} {v : V} (h : VR w.K F ρ d v) : (∀ n : Nat, d ≠ rf n) ∨ ∃ n a, d = rf n ∧ v = .ref a ∧ ρ[n]? = some a := by
  cases h with
  | ref e => exact .inr ⟨_, _, rfl, rfl, e⟩
  | _ => exact .inl fun n z => by cases z
/-- plain data, a list of the store looked into, may be read -/
theorem dp_dref (r : RelS w F ρ H so) {d : D} {v : V} (h : VR w.K F ρ d v) (hp : (dref so d).plain = true) : Dp w.K H v (dref so d) := by
  cases h with
  | ref e =>
    rename_i n a
    unfold dref at hp ⊢
    simp only [Int.toNat_natCast] at hp ⊢
    cases q : so[n]? with
    | none => simp [q, PyData.plain] at hp
    | some o =>
      cases o with
      | lst xs =>
        simp only [q] at hp ⊢
        obtain ⟨b, e1, _, vs, e3, e4⟩ := r.obj n _ q
        rw [e] at e1
        cases e1
        exact .lst (SqL.of e3) (VRs.dp r.le e4 (by simpa [PyData.plain] using hp))
      | dct _ => simp [q, PyData.plain] at hp
      | dlk _ => simp [q, PyData.plain] at hp
      | ins _ _ => simp [q, PyData.plain] at hp
      | lam _ => simp [q, PyData.plain] at hp
      | scr _ => simp [q, PyData.plain] at hp
      | dead => simp [q, PyData.plain] at hp
  | non => exact VR.dp (ρ := ρ) r.le .non hp
  | bl b => exact VR.dp (ρ := ρ) r.le (.bl b) hp
  | int b => exact VR.dp (ρ := ρ) r.le (.int b) hp
  | str b => exact VR.dp (ρ := ρ) r.le (.str b) hp
  | tup e k => exact VR.dp r.le (.tup e k) hp
  | lst e k => exact VR.dp r.le (.lst e k) hp
  | scr e k => simp [dref, PyData.plain] at hp
/-- the items of a list, of the store or not -/
def lstOf (so : List SO) (d : D) : Option (List D) := match d with
  | .list xs => some xs
  | .dict [(.int n, .none)] => (match so[n.toNat]? with
    | some (.lst xs) => some xs
    | _ => none)
  | _ => none
theorem lst_of (r : RelS w F ρ H so) {d : D} {v : V} {xs : List D} (h : VR w.K F ρ d v) (e : lstOf so d = some xs) : ∃ a vs, v = .ref a ∧ H a = some (.lst vs) ∧ VRs w.K F ρ xs vs := by
  cases h with
  | ref q =>
    rename_i n a
    unfold lstOf at e
    simp only [Int.toNat_natCast] at e
    cases z : so[n]? with
    | none => simp [z] at e
    | some o =>
      cases o with
      | lst ys =>
        simp only [z, Option.some.injEq] at e
        subst e
        obtain ⟨b, e1, _, vs, e3, e4⟩ := r.obj n _ z
        rw [q] at e1
        cases e1
        exact ⟨_, vs, rfl, e3, e4⟩
      | dct _ => simp [z] at e
      | dlk _ => simp [z] at e
      | ins _ _ => simp [z] at e
      | lam _ => simp [z] at e
      | scr _ => simp [z] at e
      | dead => simp [z] at e
  | lst q k => simp only [lstOf, Option.some.injEq] at e; subst e; exact ⟨_, _, rfl, r.le _ _ q, k⟩
  | scr q k => simp [lstOf] at e
  | non => simp [lstOf] at e
  | bl b => simp [lstOf] at e
  | int b => simp [lstOf] at e
  | str b => simp [lstOf] at e
  | tup q k => simp [lstOf] at e
end
end EV
end
section
set_option Elab.async false
set_option linter.all false
set_option maxRecDepth 100000
set_option maxHeartbeats 4000000
namespace EV
open PySem L2
section
variable {w : Wd} {X : Cx} {F F' : Hp} {ρ ρ' : List Addr} {σ : L2.St} {H H' : Hp} {st : St} {so so' : List SO} {vars : List (Option D)}

/-! ### + -/
def dAdd : O2 := fun x y so => match x, y with
  | .int i, .int j => some (.int (i + j), so)
  | .str a, .str b => if a.length + b.length ≤ mx then some (.str (a ++ b), so) else none
  | .tuple xs, .tuple ys => if xs.length + ys.length ≤ mx then some (.tuple (xs ++ ys), so) else none
  | x, y => match lstOf so x, lstOf so y with
    | some xs, some ys => if xs.length + ys.length ≤ mx then some (.list (xs ++ ys), so) else none
    | _, _ => none
theorem VRs.nil_iff {K : PySem.W.Frag} {xs : List D} {vs : List V} (h : VRs K F ρ xs vs) : vs = [] ↔ xs = [] := by
  cases h with
  | nil => simp
  | cons _ _ => simp
theorem cat_lists (r : RelS w F ρ H so) {x y : D} {u v : V} {xs ys : List D} (hx : VR w.K F ρ x u) (hy : VR w.K F ρ y v) (e1 : lstOf so x = some xs) (e2 : lstOf so y = some ys) (hl : xs.length + ys.length ≤ mx) {Q : VK}
    (k : ∀ v' F' ρ' H', Ext F ρ F' ρ' → RelS w F' ρ' H' so → VR w.K F' ρ' (.list (xs ++ ys)) v' → Q v' H') : rCat u v H Q := by
  obtain ⟨a, vs, rfl, h1, r1⟩ := lst_of r hx e1
  obtain ⟨b, us, rfl, h2, r2⟩ := lst_of r hy e2
  refine ⟨a, b, vs, us, rfl, rfl, h1, h2, by rw [← r1.length, ← r2.length]; exact le_mx hl, fun p hp => ?_⟩
  obtain ⟨r3, x3⟩ := r.frozen (o := .lst (vs ++ us)) hp
  exact k _ _ _ _ x3 r3 (.lst upd_same (x3.vrs (r1.append r2)))
theorem os_add (c : Cok w X) : OpS w X (binaryOp .Add) dAdd := by
  intro F ρ H so dx dy d so' x y v u pins s σ Q r hx hy hg I rx ry k
  unfold dAdd at hg
  split at hg
  · cases hg
    cases hx
    cases hy
    exact op_add pins s σ H _ _ v u Q I rx ry ⟨_, _, rfl, rfl, k _ _ _ _ (Ext.refl _ _) r (.int _)⟩
  · split at hg <;> cases hg
    rename_i hl
    cases hx
    cases hy
    exact op_add_str pins s σ H _ _ v u Q I rx ry ⟨_, _, rfl, rfl, le_mx hl, k _ _ _ _ (Ext.refl _ _) r (.str _)⟩
  · split at hg <;> cases hg
    rename_i xs ys hl
    cases hx with
    | tup q1 r1 =>
      cases hy with
      | tup q2 r2 =>
        rename_i a vs b us
        refine op_catA pins s σ H _ _ v u Q I rx ry ⟨a, b, vs, us, rfl, rfl, ?_, ?_, by rw [← r1.length, ← r2.length]; exact le_mx hl, fun z => ?_, fun z1 z2 => ?_, fun z1 z2 p hp => ?_⟩
        · rw [c.K]; exact r.le.sqT q1
        · rw [c.K]; exact r.le.sqT q2
        · have e : xs = [] := r1.nil_iff.mp z
          subst e
          exact k _ _ _ _ (Ext.refl _ _) r (.tup q2 r2)
        · have e : ys = [] := r2.nil_iff.mp z2
          subst e
          rw [List.append_nil] at k
          exact k _ _ _ _ (Ext.refl _ _) r (.tup q1 r1)
        · obtain ⟨r3, x3⟩ := r.frozen (o := .tup (vs ++ us)) hp
          exact k _ _ _ _ x3 r3 (.tup (SqT.of upd_same) (x3.vrs (r1.append r2)))
  · split at hg
    · split at hg <;> cases hg
      rename_i e1 e2 hl
      exact op_cat pins s σ H _ _ v u Q I rx ry (cat_lists r hx hy e1 e2 hl k)
    · cases hg

/-! ### -, *, //, %, ** -/
def dSub : O2 := fun x y so => match x, y with
  | .int i, .int j => some (.int (i - j), so)
  | _, _ => none
theorem os_sub : OpS w X (binaryOp .Sub) dSub := by
  intro F ρ H so dx dy d so' x y v u pins s σ Q r hx hy hg I rx ry k
  unfold dSub at hg
  split at hg <;> cases hg
  cases hx
  cases hy
  exact op_sub pins s σ H _ _ v u Q I rx ry ⟨_, _, rfl, rfl, k _ _ _ _ (Ext.refl _ _) r (.int _)⟩
def small (i : Int) : Bool := decide (-(2 ^ 64) < i ∧ i < 2 ^ 64)
def dMul : O2 := fun x y so => match x, y with
  | .int i, .int j => if small i = true ∨ small j = true then some (.int (i * j), so) else none
  | x, .int k => match lstOf so x with
    | some xs => if -1000000 ≤ k ∧ k ≤ 1000000 ∧ xs.length * k.toNat ≤ mx then some (.list (List.replicate k.toNat xs).flatten, so) else none
    | none => none
  | _, _ => none
theorem VRs.rep {K : PySem.W.Frag} {xs : List D} {vs : List V} (h : VRs K F ρ xs vs) : ∀ n : Nat, VRs K F ρ (List.replicate n xs).flatten (List.replicate n vs).flatten
  | 0 => .nil
  | n + 1 => by
    rw [List.replicate_succ, List.replicate_succ, List.flatten_cons, List.flatten_cons]
    exact h.append (VRs.rep h n)
theorem os_mul : OpS w X (binaryOp .Mult) dMul := by
  intro F ρ H so dx dy d so' x y v u pins s σ Q r hx hy hg I rx ry k
  unfold dMul at hg
  split at hg
  · split at hg <;> cases hg
    rename_i hl
    cases hx
    cases hy
    refine op_mul pins s σ H _ _ v u Q I rx ry ⟨_, _, rfl, rfl, ?_, k _ _ _ _ (Ext.refl _ _) r (.int _)⟩
    rcases hl with z | z
    · exact .inl (of_decide_eq_true z)
    · exact .inr (of_decide_eq_true z)
  · split at hg
    · split at hg <;> cases hg
      rename_i n _ _ xs e hl
      obtain ⟨a, vs, rfl, h1, r1⟩ := lst_of r hx e
      cases hy
      refine op_rep pins s σ H _ _ v u Q I rx ry ⟨a, n, vs, rfl, rfl, h1, by omega, by omega, by rw [← r1.length]; exact le_mx hl.2.2, fun p hp => ?_⟩
      obtain ⟨r3, x3⟩ := r.frozen (o := .lst (List.replicate n.toNat vs).flatten) hp
      exact k _ _ _ _ x3 r3 (.lst upd_same (x3.vrs (r1.rep _)))
    · cases hg
  · cases hg
def dDiv : O2 := fun x y so => match x, y with
  | .int i, .int j => if 0 < j ∧ j < 1073741824 then some (.int (i / j), so) else none
  | _, _ => none
theorem os_div : OpS w X (binaryOp .FloorDiv) dDiv := by
  intro F ρ H so dx dy d so' x y v u pins s σ Q r hx hy hg I rx ry k
  unfold dDiv at hg
  split at hg <;> try cases hg
  split at hg <;> cases hg
  rename_i hl
  cases hx
  cases hy
  exact op_fdiv pins s σ H _ _ v u Q I rx ry ⟨_, _, rfl, rfl, hl, k _ _ _ _ (Ext.refl _ _) r (.int _)⟩
def dMod : O2 := fun x y so => match x, y with
  | .int i, .int j => if 0 < j then some (.int (i % j), so) else none
  | _, _ => none
theorem os_mod : OpS w X (binaryOp .Mod) dMod := by
  intro F ρ H so dx dy d so' x y v u pins s σ Q r hx hy hg I rx ry k
  unfold dMod at hg
  split at hg <;> try cases hg
  split at hg <;> cases hg
  rename_i hl
  cases hx
  cases hy
  exact op_mod pins s σ H _ _ v u Q I rx ry ⟨_, _, rfl, rfl, hl, k _ _ _ _ (Ext.refl _ _) r (.int _)⟩

/-! ### comparisons -/
def deepOk (d : D) : Bool := d.plain && decide (d.depth ≤ 64)
theorem deepOk_iff {d : D} (h : deepOk d = true) : d.plain = true ∧ d.depth ≤ 64 := by
  unfold deepOk at h
  simp only [Bool.and_eq_true, decide_eq_true_eq] at h
  exact h
def dCmp (g : D → D → Bool) (ok : D → D → Bool) : O2 := fun x y so =>
  if deepOk (dref so x) = true ∧ deepOk (dref so y) = true ∧ ok (dref so x) (dref so y) = true then some (.bool (g (dref so x) (dref so y)), so) else none
theorem os_data {f : Value → Value → Sem Value} {g : D → D → Bool} {ok : D → D → Bool} (c : Cok w X)
    (h : ∀ (s : Shared) (v u : Value) (da db : PyData) (as bs : List Addr) (Q : Value → Shared → Prop), Reads s.heap v da as → Reads s.heap u db bs → da.plain = true → db.plain = true → ok da db = true → X.A.units + min da.depth db.depth < cLine → Q (.bool (g da db)) s → wpAny (model X.prog X.w) X.A (f v u) Q X.xe s) :
    OpS w X f (dCmp g ok) := by
  intro F ρ H so dx dy d so' x y v u pins s σ Q r hx hy hg I rx ry k
  unfold dCmp at hg
  split at hg <;> cases hg
  rename_i hc
  obtain ⟨h1, h2, h3⟩ := hc
  obtain ⟨p1, d1⟩ := deepOk_iff h1
  obtain ⟨p2, d2⟩ := deepOk_iff h2
  obtain ⟨as, q1⟩ := Dp.reads I _ x v (by rw [c.K]; exact dp_dref r hx p1) rx
  obtain ⟨bs, q2⟩ := Dp.reads I _ y u (by rw [c.K]; exact dp_dref r hy p2) ry
  refine h s v u _ _ as bs _ q1 q2 p1 p2 h3 ?_ ⟨.bl _, H, I, rfl, k _ _ _ _ (Ext.refl _ _) r (.bl _)⟩
  have := c.un
  have := Nat.min_le_left (dref so dx).depth (dref so dy).depth
  omega
abbrev dEq : O2 := dCmp (fun a b => PyData.eqv a b) (fun _ _ => true)
abbrev dNe : O2 := dCmp (fun a b => !PyData.eqv a b) (fun _ _ => true)
theorem os_eq (c : Cok w X) : OpS w X (compareOp .Eq) dEq := os_data c fun s v u da db as bs Q r1 r2 p1 p2 _ hu q => SeqAt.eq_plain r1 r2 p1 p2 hu q
theorem os_ne (c : Cok w X) : OpS w X (compareOp .NotEq) dNe := os_data c fun s v u da db as bs Q r1 r2 p1 p2 _ hu q => SeqAt.ne_plain r1 r2 p1 p2 hu q
def cmpOk (a b : D) : Bool := PySem.W.alike a b && (match a with | .none => false | _ => true)
theorem cmpOk_iff {a b : D} (h : cmpOk a b = true) : PySem.W.alike a b = true ∧ a ≠ .none := by
  unfold cmpOk at h
  simp only [Bool.and_eq_true] at h
  refine ⟨h.1, fun z => ?_⟩
  subst z
  exact absurd h.2 (by simp)
abbrev dLt : O2 := dCmp (fun a b => PySem.W.dataLt a b) cmpOk
abbrev dGt : O2 := dCmp (fun a b => PySem.W.dataLt b a) cmpOk
abbrev dLe : O2 := dCmp (fun a b => !PySem.W.dataLt b a) cmpOk
abbrev dGe : O2 := dCmp (fun a b => !PySem.W.dataLt a b) cmpOk
theorem os_lt (c : Cok w X) : OpS w X (compareOp .Lt) dLt := os_data c fun s v u da db as bs Q r1 r2 p1 p2 ho hu q => PySem.W.lt_data r1 r2 (cmpOk_iff ho).1 (cmpOk_iff ho).2 hu q
theorem os_gt (c : Cok w X) : OpS w X (compareOp .Gt) dGt := os_data c fun s v u da db as bs Q r1 r2 p1 p2 ho hu q => PySem.W.gt_data r1 r2 (cmpOk_iff ho).1 (cmpOk_iff ho).2 hu q
theorem os_le (c : Cok w X) : OpS w X (compareOp .LtE) dLe := os_data c fun s v u da db as bs Q r1 r2 p1 p2 ho hu q => PySem.W.le_data r1 r2 (cmpOk_iff ho).1 (cmpOk_iff ho).2 hu q
theorem os_ge (c : Cok w X) : OpS w X (compareOp .GtE) dGe := os_data c fun s v u da db as bs Q r1 r2 p1 p2 ho hu q => PySem.W.ge_data r1 r2 (cmpOk_iff ho).1 (cmpOk_iff ho).2 hu q
/-- is None, is not None -/
def isNon : D → Bool
  | .none => true
  | _ => false
def dIsN : O2 := fun x y so => if isNon y = true then some (.bool (isNon x), so) else none
def dNotN : O2 := fun x y so => if isNon y = true then some (.bool (!isNon x), so) else none
theorem isNon_v {K : PySem.W.Frag} {d : D} {v : V} (h : VR K F ρ d v) : decide (v = .non) = isNon d := by
  cases h <;> simp [isNon]
theorem os_isN : OpS w X (compareOp .Is) dIsN := by
  intro F ρ H so dx dy d so' x y v u pins s σ Q r hx hy hg I rx ry k
  unfold dIsN at hg
  split at hg <;> cases hg
  rename_i hn
  have e : y = .non := of_decide_eq_true ((isNon_v hy).trans hn)
  refine op_isN pins s σ H _ _ v u Q I rx ry ⟨e, ?_⟩
  rw [isNon_v hx]
  exact k _ _ _ _ (Ext.refl _ _) r (.bl _)
theorem os_notN : OpS w X (compareOp .IsNot) dNotN := by
  intro F ρ H so dx dy d so' x y v u pins s σ Q r hx hy hg I rx ry k
  unfold dNotN at hg
  split at hg <;> cases hg
  rename_i hn
  have e : y = .non := of_decide_eq_true ((isNon_v hy).trans hn)
  refine op_notN pins s σ H _ _ v u Q I rx ry ⟨e, ?_⟩
  rw [isNon_v hx]
  exact k _ _ _ _ (Ext.refl _ _) r (.bl _)
end
end EV
end
section
set_option Elab.async false
set_option linter.all false
set_option maxRecDepth 100000
set_option maxHeartbeats 4000000
namespace EV
open PySem L2
section
variable {w : Wd} {X : Cx} {F F' : Hp} {ρ ρ' : List Addr} {σ : L2.St} {H H' : Hp} {st : St} {so so' : List SO} {vars : List (Option D)}

/-! ### keys, dicts of the store -/
def keyD : D → Option Key
  | .int i => some (.inl i)
  | .str x => some (.inr x)
  | _ => none
def keyV : Key → D
  | .inl i => .int i
  | .inr x => .str x
theorem keyD_v {K : PySem.W.Frag} {d : D} {v : V} {k : Key} (h : VR K F ρ d v) (e : keyD d = some k) : v = kV k := by
  cases h <;> simp [keyD] at e <;> subst e <;> rfl
/-- look up -/
def dGet (kvs : List (Key × D)) (k : Key) : Option D := (kvs.find? fun kv => decide (kv.1 = k)).map (·.2)
def dPut (kvs : List (Key × D)) (k : Key) (d : D) : List (Key × D) := if (kvs.any fun kv => decide (kv.1 = k)) = true then kvs.map (fun kv => if kv.1 = k then (kv.1, d) else kv) else kvs ++ [(k, d)]
def dDrop (kvs : List (Key × D)) (k : Key) : List (Key × D) := kvs.filter fun kv => decide (kv.1 ≠ k)
theorem KVs.get {κ : Type} [DecidableEq κ] {S : D → V → Prop} {k : κ} : ∀ {ds : List (κ × D)} {vs : List (κ × V)}, KVs S ds vs → (match (ds.find? fun kv => decide (kv.1 = k)).map (·.2) with
    | some d => ∃ v, (vs.find? fun kv => decide (kv.1 = k)).map (·.2) = some v ∧ S d v
    | none => (vs.find? fun kv => decide (kv.1 = k)).map (·.2) = none)
  | _, _, .nil => rfl
  | _, _, .cons (k := j) h r => by
    by_cases e : j = k
    · simp only [List.find?_cons, e, decide_true, Option.map_some]
      exact ⟨_, rfl, h⟩
    · simp only [List.find?_cons, e, decide_false]
      exact KVs.get r
theorem KVs.length {κ : Type} {S : D → V → Prop} : ∀ {ds : List (κ × D)} {vs : List (κ × V)}, KVs S ds vs → ds.length = vs.length
  | _, _, .nil => rfl
  | _, _, .cons _ r => by rw [List.length_cons, List.length_cons, r.length]
theorem KVs.keys {κ : Type} {S : D → V → Prop} : ∀ {ds : List (κ × D)} {vs : List (κ × V)}, KVs S ds vs → ds.map (·.1) = vs.map (·.1)
  | _, _, .nil => rfl
  | _, _, .cons _ r => by rw [List.map_cons, List.map_cons, r.keys]
theorem KVs.append {κ : Type} {S : D → V → Prop} : ∀ {ds es : List (κ × D)} {vs us : List (κ × V)}, KVs S ds vs → KVs S es us → KVs S (ds ++ es) (vs ++ us)
  | _, _, _, _, .nil, s => s
  | _, _, _, _, .cons h r, s => .cons h (r.append s)
theorem KVs.any {κ : Type} {S : D → V → Prop} (p : κ → Bool) : ∀ {ds : List (κ × D)} {vs : List (κ × V)}, KVs S ds vs → (ds.any fun kv => p kv.1) = vs.any fun kv => p kv.1
  | _, _, .nil => rfl
  | _, _, .cons _ r => by rw [List.any_cons, List.any_cons, r.any p]
theorem KVs.filter {κ : Type} {S : D → V → Prop} (p : κ → Bool) : ∀ {ds : List (κ × D)} {vs : List (κ × V)}, KVs S ds vs → KVs S (ds.filter fun kv => p kv.1) (vs.filter fun kv => p kv.1)
  | _, _, .nil => .nil
  | _, _, .cons (k := j) h r => by
    by_cases e : p j = true
    · rw [List.filter_cons_of_pos (by exact e), List.filter_cons_of_pos (by exact e)]
      exact .cons h (r.filter p)
    · rw [List.filter_cons_of_neg (by exact e), List.filter_cons_of_neg (by exact e)]
      exact r.filter p
theorem KVs.put {κ : Type} [DecidableEq κ] {S : D → V → Prop} {d : D} {v : V} (q : S d v) (k : κ) {ds : List (κ × D)} {vs : List (κ × V)} (r : KVs S ds vs) :
    KVs S (if (ds.any fun kv => decide (kv.1 = k)) = true then ds.map (fun kv => if kv.1 = k then (kv.1, d) else kv) else ds ++ [(k, d)]) (putK vs k v) := by
  have m : ∀ {ds : List (κ × D)} {vs : List (κ × V)}, KVs S ds vs → KVs S (ds.map fun kv => if kv.1 = k then (kv.1, d) else kv) (vs.map fun kv => if kv.1 = k then (kv.1, v) else kv) := by
    intro ds vs r
    induction r with
    | nil => exact .nil
    | @cons j _ _ _ _ h _ ih =>
      rw [List.map_cons, List.map_cons]
      by_cases e : j = k
      · simp only [e, if_true]; exact .cons q ih
      · simp only [e, if_false]; exact .cons h ih
  unfold putK
  rw [← r.any fun j => decide (j = k)]
  split
  · exact m r
  · exact r.append (.cons q .nil)
/-- the pairs of a dict of the store -/
def dctOf (so : List SO) (d : D) : Option (Nat × List (Key × D) × Bool) := match d with
  | .dict [(.int n, .none)] => (match so[n.toNat]? with
    | some (.dct kvs) => some (n.toNat, kvs, false)
    | some (.dlk kvs) => some (n.toNat, kvs, true)
    | _ => none)
  | _ => none
theorem dct_of (r : RelS w F ρ H so) {d : D} {v : V} {n : Nat} {kvs : List (Key × D)} {b : Bool} (h : VR w.K F ρ d v) (e : dctOf so d = some (n, kvs, b)) :
    ∃ a vs, v = .ref a ∧ ρ[n]? = some a ∧ (b = false → F a = none) ∧ Rd H a (.dK vs) ∧ (b = false → H a = some (.dK vs) ∧ so[n]? = some (.dct kvs)) ∧ (b = true → ∃ o, F a = some (.frz o (.dK vs)) ∧ so[n]? = some (.dlk kvs)) ∧ KVs (VR w.K F ρ) kvs vs := by
  cases h with
  | ref q =>
    rename_i m a
    unfold dctOf at e
    simp only [Int.toNat_natCast] at e
    cases z : so[m]? with
    | none => simp [z] at e
    | some o =>
      obtain ⟨c, e1, e2⟩ := r.obj m _ z
      rw [q] at e1
      cases e1
      cases o with
      | lst _ => simp [z] at e
      | ins _ _ => simp [z] at e
      | lam _ => simp [z] at e
      | scr _ => simp [z] at e
      | dead => simp [z] at e
      | dct ks =>
        simp only [z, Option.some.injEq, Prod.mk.injEq] at e
        obtain ⟨rfl, rfl, rfl⟩ := e
        obtain ⟨e0, vs, h1, h2⟩ := e2
        exact ⟨_, vs, rfl, q, fun _ => e0, .inl h1, fun _ => ⟨h1, z⟩, fun x => (by cases x), h2⟩
      | dlk ks =>
        simp only [z, Option.some.injEq, Prod.mk.injEq] at e
        obtain ⟨rfl, rfl, rfl⟩ := e
        obtain ⟨o, vs, h1, h2⟩ := e2
        exact ⟨_, vs, rfl, q, fun x => (by cases x), .inr ⟨o, r.le _ _ h1⟩, fun x => (by cases x), fun _ => ⟨o, h1, z⟩, h2⟩
  | non => simp [dctOf] at e
  | bl b => simp [dctOf] at e
  | int b => simp [dctOf] at e
  | str b => simp [dctOf] at e
  | tup q k => simp [dctOf] at e
  | lst q k => simp [dctOf] at e
  | scr q k => simp [dctOf] at e
theorem dget_of {kvs : List (Key × D)} {vs : List (Key × V)} {K : PySem.W.Frag} (r : KVs (VR K F ρ) kvs vs) (k : Key) : (match dGet kvs k with
    | some d => ∃ v, valV vs k = some v ∧ VR K F ρ d v
    | none => valV vs k = none) := r.get
theorem dget_some {kvs : List (Key × D)} {vs : List (Key × V)} {K : PySem.W.Frag} (r : KVs (VR K F ρ) kvs vs) {k : Key} {d : D} (e : dGet kvs k = some d) : ∃ v, valV vs k = some v ∧ VR K F ρ d v := by
  have := dget_of r k
  rw [e] at this
  exact this
theorem dget_none {kvs : List (Key × D)} {vs : List (Key × V)} {K : PySem.W.Frag} (r : KVs (VR K F ρ) kvs vs) {k : Key} (e : dGet kvs k = none) : valV vs k = none := by
  have := dget_of r k
  rw [e] at this
  exact this
theorem dget_isSome {kvs : List (Key × D)} {vs : List (Key × V)} {K : PySem.W.Frag} (r : KVs (VR K F ρ) kvs vs) (k : Key) : (valV vs k).isSome = (dGet kvs k).isSome := by
  cases e : dGet kvs k with
  | none => rw [dget_none r e] <;> rfl
  | some d =>
    obtain ⟨v, h, _⟩ := dget_some r e
    rw [h] <;> rfl
theorem Inv.tok_free {pins : List (Addr × Obj)} {s : Shared} (I : Inv X pins σ H s) : True := True.intro

/-! ### in, not in -/
def inGo (so : List SO) (x y : D) : Option Bool :=
  match dref so y with
  | .str t => (match x with
    | .str z => some (!(Builtin.Str.occurrences t z 0 t.length 1).isEmpty)
    | _ => none)
  | .tuple ys => if deepOk (dref so x) = true ∧ deepOk (.tuple ys) = true then some (ys.any fun z => PyData.eqv z (dref so x)) else none
  | .list ys => if deepOk (dref so x) = true ∧ deepOk (.list ys) = true then some (ys.any fun z => PyData.eqv z (dref so x)) else none
  | _ => match dctOf so y, keyD x with
    | some (_, kvs, _), some k => some (dGet kvs k).isSome
    | _, _ => none
def dIn : O2 := fun x y so => (inGo so x y).map fun b => (.bool b, so)
def dNotIn : O2 := fun x y so => (inGo so x y).map fun b => (.bool (!b), so)
theorem dref_str {K : PySem.W.Frag} {d : D} {v : V} {t : PySem.Str} (h : VR K F ρ d v) (e : dref so d = .str t) : d = .str t := by
  cases h with
  | ref q =>
    unfold dref at e
    simp only at e
    split at e <;> cases e
  | str x => exact e
  | non => cases e
  | bl b => cases e
  | int b => cases e
  | tup q k => cases e
  | lst q k => cases e
  | scr q k => cases e
theorem os_inG (c : Cok w X) (op : CmpOp) (f : Bool → Bool)
    (hs : ∀ (i j : PySem.Str) (t u : Tok) (s : Shared) (Q : Value → Shared → Prop), Q (.bool (f (!(Builtin.Str.occurrences j i 0 j.length 1).isEmpty))) s → wpAny (model X.prog X.w) X.A (compareOp op (.str i t) (.str j u)) Q X.xe s)
    (hl : ∀ (s : Shared) (v u : Value) (xs : List PyData) (d : PyData) (as bs : List Addr) (Q : Value → Shared → Prop), Reads s.heap u (.list xs) as → Reads s.heap v d bs → PyData.plainAll xs = true → d.plain = true → X.A.units + 1 + min (PyData.depthAll xs) d.depth < cLine → Q (.bool (f (xs.any fun y => PyData.eqv y d))) s → wpAny (model X.prog X.w) X.A (compareOp op v u) Q X.xe s)
    (ht : ∀ (s : Shared) (v u : Value) (xs : List PyData) (d : PyData) (as bs : List Addr) (Q : Value → Shared → Prop), Reads s.heap u (.tuple xs) as → Reads s.heap v d bs → PyData.plainAll xs = true → d.plain = true → X.A.units + 1 + min (PyData.depthAll xs) d.depth < cLine → Q (.bool (f (xs.any fun y => PyData.eqv y d))) s → wpAny (model X.prog X.w) X.A (compareOp op v u) Q X.xe s)
    (hd : ∀ (pins : List (Addr × Obj)) (s : Shared) (σ : L2.St) (H : Hp) (a : Addr) (y : V) (o : Option V) (u : Value) (Q : Value → Shared → Prop), Inv X pins σ H s → DGet H a y o → RelV y u → (∀ s', Inv X pins σ H s' → Q (.bool (f o.isSome)) s') → wpAny (model X.prog X.w) X.A (compareOp op u (.ref a)) Q X.xe s) :
    OpS w X (compareOp op) (fun x y so => (inGo so x y).map fun b => (.bool (f b), so)) := by
  intro F ρ H so dx dy d so' x y v u pins s σ Q r hx hy hg I rx ry k
  dsimp only at hg
  cases e : inGo so dx dy with
  | none => rw [e] at hg; cases hg
  | some b =>
    rw [e] at hg
    cases hg
    have fin : ∀ s', Inv X pins σ H s' → EP X pins σ Q (.bool (f b)) s' := fun s' I' => ⟨.bl (f b), H, I', rfl, k _ _ _ _ (Ext.refl _ _) r (.bl _)⟩
    have seqs : ∀ (ys : List D), deepOk (dref so dx) = true → (∃ as, ReadsAll s.heap [v] [dref so dx] as) ∨ True := fun _ _ => .inr trivial
    unfold inGo at e
    split at e
    · rename_i t et
      have e2 := dref_str hy et
      subst e2
      split at e <;> cases e
      cases hx
      cases hy
      obtain ⟨t1, rfl⟩ := rx
      obtain ⟨t2, rfl⟩ := ry
      exact hs _ _ _ _ s _ (fin s I)
    · rename_i ys ey
      split at e <;> cases e
      rename_i hh
      obtain ⟨p1, d1⟩ := deepOk_iff hh.1
      obtain ⟨p2, d2⟩ := deepOk_iff hh.2
      obtain ⟨as, q1⟩ := Dp.reads I _ x v (by rw [c.K]; exact dp_dref r hx p1) rx
      obtain ⟨bs, q2⟩ := Dp.reads I _ y u (by rw [c.K]; exact dp_dref r hy (by rw [ey]; exact p2)) ry
      rw [ey] at q2
      refine ht s v u ys _ _ _ _ q2 q1 (by simpa [PyData.plain] using p2) p1 ?_ (fin s I)
      have := c.un
      have := Nat.min_le_right (PyData.depthAll ys) (dref so dx).depth
      omega
    · rename_i ys ey
      split at e <;> cases e
      rename_i hh
      obtain ⟨p1, d1⟩ := deepOk_iff hh.1
      obtain ⟨p2, d2⟩ := deepOk_iff hh.2
      obtain ⟨as, q1⟩ := Dp.reads I _ x v (by rw [c.K]; exact dp_dref r hx p1) rx
      obtain ⟨bs, q2⟩ := Dp.reads I _ y u (by rw [c.K]; exact dp_dref r hy (by rw [ey]; exact p2)) ry
      rw [ey] at q2
      refine hl s v u ys _ _ _ _ q2 q1 (by simpa [PyData.plain] using p2) p1 ?_ (fin s I)
      have := c.un
      have := Nat.min_le_right (PyData.depthAll ys) (dref so dx).depth
      omega
    · split at e
      · rename_i n kvs b' key e1 e2
        cases e
        obtain ⟨a, vs, rfl, _, _, h4, _, _, h7⟩ := dct_of r hy e1
        have hv := keyD_v hx e2
        subst hv
        cases ry
        refine hd pins s σ H a (kV key) _ v _ I (.inl ⟨vs, key, h4, rfl, rfl⟩) rx fun s' I' => ?_
        rw [dget_isSome h7]
        exact fin s' I'
      · cases e
theorem os_in (c : Cok w X) : OpS w X (compareOp .In) dIn := os_inG c .In (fun b => b)
  (fun i j t u s Q q => PyProof.Rows.in_str q)
  (fun s v u xs d as bs Q r1 r2 p1 p2 hu q => SeqAt.in_list_data r1 r2 p1 p2 hu q)
  (fun s v u xs d as bs Q r1 r2 p1 p2 hu q => SeqAt.in_tuple_data r1 r2 p1 p2 hu q)
  (fun pins s σ H a y o u Q I g ry q => d_in (by have := c.un; omega) I g ry q)
theorem os_notIn (c : Cok w X) : OpS w X (compareOp .NotIn) dNotIn := os_inG c .NotIn (fun b => !b)
  (fun i j t u s Q q => PyProof.Rows.notIn_str q)
  (fun s v u xs d as bs Q r1 r2 p1 p2 hu q => SeqAt.notIn_list_data r1 r2 p1 p2 hu q)
  (fun s v u xs d as bs Q r1 r2 p1 p2 hu q => SeqAt.notIn_tuple_data r1 r2 p1 p2 hu q)
  (fun pins s σ H a y o u Q I g ry q => d_notIn (by have := c.un; omega) I g ry q)
end
end EV
end
section
set_option Elab.async false
set_option linter.all false
set_option maxRecDepth 100000
set_option maxHeartbeats 4000000
namespace EV
open PySem L2
section
variable {w : Wd} {X : Cx} {F F' : Hp} {ρ ρ' : List Addr} {σ : L2.St} {H H' : Hp} {st : St} {so so' : List SO} {vars : List (Option D)}

/-! ### x[i] -/
def IxS (w : Wd) (X : Cx) (g : O2) : Prop :=
  ∀ (value slice : Expr) (F : Hp) (ρ : List Addr) (H : Hp) (so : List SO) (dx dy d : D) (so' : List SO) (x y : V) (v u : Value) (pins : List (Addr × Obj)) (s : Shared) (σ : L2.St) (Q : VK),
    RelS w F ρ H so → VR w.K F ρ dx x → VR w.K F ρ dy y → g dx dy so = some (d, so') → Inv X pins σ H s → RelV x v → RelV y u →
    (∀ v' F' ρ' H', Ext F ρ F' ρ' → RelS w F' ρ' H' so' → VR w.K F' ρ' d v' → Q v' H') → subscripted slice false v u = operate [v, u] (getItem v u) → wpAny (model X.prog X.w) X.A (PyProof.Rows.subscriptTail value slice v u) (EP X pins σ Q) X.xe s
theorem IxS.r {g : O2} (h : IxS w X g) : IxR X (rO w g) := fun value slice pins s σ H x y v u Q I rx ry ⟨F, ρ, so, dx, dy, d, so', r, hx, hy, hg, k⟩ hs =>
  h value slice F ρ H so dx dy d so' x y v u pins s σ Q r hx hy hg I rx ry k hs
def dIx : O2 := fun x y so => match x, y with
  | .str z, .int i => if z.length ≤ mx then (atI z.cps.toList i).map fun c => (.str ⟨#[c]⟩, so) else none
  | .tuple xs, .int i => (atI xs i).map fun d => (d, so)
  | x, y => match lstOf so x, y with
    | some xs, .int i => (atI xs i).map fun d => (d, so)
    | some _, _ => none
    | none, y => match dctOf so x, keyD y with
      | some (_, kvs, _), some k => (dGet kvs k).map fun d => (d, so)
      | _, _ => none
theorem atI_vr {K : PySem.W.Frag} {xs : List D} {vs : List V} {i : Int} {d : D} (h : VRs K F ρ xs vs) (e : atI xs i = some d) : ∃ v, atI vs i = some v ∧ VR K F ρ d v := by
  unfold atI at e ⊢
  rw [← h.length]
  cases q : ixN xs.length i with
  | none => rw [q] at e; cases e
  | some j =>
    rw [q] at e
    exact VRs.get h e
theorem ix_dict {value slice : Expr} {pins : List (Addr × Obj)} {s : Shared} {a : Addr} {y v : V} {u : Value} {Q : VK} (hu : X.A.units + 1 < cLine) (I : Inv X pins σ H s) (g : DGet H a y (some v)) (ry : RelV y u) (q : Q v H)
    (hs : subscripted slice false (.ref a) u = operate [.ref a, u] (getItem (.ref a) u)) : wpAny (model X.prog X.w) X.A (PyProof.Rows.subscriptTail value slice (.ref a) u) (EP X pins σ Q) X.xe s := by
  have hT := dict_typeIs I g
  unfold PyProof.Rows.subscriptTail
  refine wpAny_bind ?_
  rw [getitemInPython_of_ne hT.not_modules]
  refine wpAny_bind (wpAny_specialOf hT PySem.F.slot_dict_getitem.lookup ?_)
  have fin : wpAny (model X.prog X.w) X.A (subscripted slice false (.ref a) u) (fun r s₃ => wpAny (model X.prog X.w) X.A (letTemporaryGo value (.ref a) r >>= fun _ => pure r) (EP X pins σ Q) X.xe s₃) X.xe s := by
    rw [hs]
    exact wpAny_operating (d_getItem hu I g ry fun w' s3 I3 rw' => wpAny_bind (wpAny_letTemporaryGo (wpAny_pure ⟨v, H, I3, rw', q⟩)))
  first
    | exact wpAny_pure (wpAny_bind fin)
    | exact wpAny_bind (wpAny_pure (wpAny_bind fin))
    | exact wpAny_bind fin
theorem is_ix (c : Cok w X) : IxS w X dIx := by
  intro value slice F ρ H so dx dy d so' x y v u pins s σ Q r hx hy hg I rx ry k hs
  unfold dIx at hg
  split at hg
  · rename_i z i
    split at hg
    · rename_i hz
      cases e : atI z.cps.toList i with
      | none => rw [e] at hg; cases hg
      | some ch =>
        rw [e] at hg
        cases hg
        cases hx
        cases hy
        exact ix_str value slice pins s σ H _ _ v u Q I rx ry ⟨z, i, ch, rfl, rfl, le_mx hz, e, k _ _ _ _ (Ext.refl _ _) r (.str _)⟩ hs
    · cases hg
  · rename_i xs i
    cases e : atI xs i with
    | none => rw [e] at hg; cases hg
    | some dd =>
      rw [e] at hg
      cases hg
      cases hx with
      | tup q r1 =>
        cases hy
        obtain ⟨vv, e2, hv⟩ := atI_vr r1 e
        exact ix_tup value slice pins s σ H _ _ v u Q I rx ry ⟨_, _, i, vv, rfl, rfl, by rw [c.K]; exact r.le.sqT q, e2, k _ _ _ _ (Ext.refl _ _) r hv⟩ hs
  · split at hg
    · rename_i xs i e1 _ _
      cases e : atI xs i with
      | none => rw [e] at hg; cases hg
      | some dd =>
        rw [e] at hg
        cases hg
        obtain ⟨a, vs, rfl, h1, r1⟩ := lst_of r hx e1
        cases hy
        obtain ⟨vv, e2, hv⟩ := atI_vr r1 e
        exact ix_list value slice pins s σ H _ _ v u Q I rx ry ⟨_, _, i, vv, rfl, rfl, SqL.of h1, e2, k _ _ _ _ (Ext.refl _ _) r hv⟩ hs
    · cases hg
    · split at hg
      · rename_i n kvs b key e1 e2
        cases e : dGet kvs key with
        | none => rw [e] at hg; cases hg
        | some dd =>
          rw [e] at hg
          cases hg
          obtain ⟨a, vs, rfl, _, _, h4, _, _, h7⟩ := dct_of r hx e1
          have hv := keyD_v hy e2
          subst hv
          cases rx
          obtain ⟨vv, e3, hv⟩ := dget_some h7 e
          exact ix_dict (by have := c.un; omega) I (.inl ⟨vs, key, h4, rfl, e3.symm⟩) ry (k _ _ _ _ (Ext.refl _ _) r hv) hs
      · cases hg
theorem se_ix {a b : Expr} {pos : Pos} {f1 f2 : M D} (c : Cok w X) (ha : SE w X a f1) (hb : SE w X b f2) (hp : PlainIx b := by intro _ _; rfl) : SE w X (.Subscript a b pos) (eOp dIx f1 f2) :=
  fun W tk => PE.imp (pe_ix (is_ix c).r (ha W tk) (hb W tk) hp) fun _ _ _ h => tr_op h

/-! ### x[i:j] -/
def SO2 (w : Wd) (X : Cx) (e : Option Expr) (f : M (Option Int)) : Prop := ∀ W, Takes X W → PO X e (fun σ H Q => ∃ F ρ st, Rel w F ρ σ H st ∧ Post w F ρ σ st.vars (fun _ _ a b => a = b) W (f st) Q)
theorem PO.imp {e : Option Expr} {t t' : TO} (h : PO X e t) (k : ∀ σ H Q, t' σ H Q → t σ H Q) : PO X e t' := ⟨fun pins s σ H Q I q => h.run pins s σ H Q I (k σ H Q q)⟩
def kI (d : D) : M (Option Int) := match d with
  | .int i => ret (some i)
  | _ => bad
def oSome (f : M D) : M (Option Int) := bnd f kI
def oNone : M (Option Int) := ret none
theorem so_none : SO2 w X none oNone := fun W tk => PO.imp po_none fun σ H Q ⟨F, ρ, st, r, p⟩ => p none F ρ H (Ext.refl _ _) r rfl
theorem so_some {e : Expr} {f : M D} (h : SE w X e f) : SO2 w X (some e) (oSome f) := fun W tk => PO.imp (po_some (h W tk)) fun σ H Q ⟨F, ρ, st, r, p⟩ => ⟨F, ρ, st, r, post_bnd p fun a v F1 ρ1 H1 so1 x1 r1 q1 p1 => by
  cases q1 <;> first | exact p1.elim | exact ⟨_, rfl, p1 _ F1 ρ1 H1 (Ext.refl _ _) r1 rfl⟩⟩
/-- the items of xs[lo:hi] -/
def cutD {α : Type} (xs : List α) (lo hi : Option Int) : List α := (xs.drop (HT.sIx xs.length 0 lo)).take (HT.sIx xs.length xs.length hi - HT.sIx xs.length 0 lo)
theorem cut_vr {K : PySem.W.Frag} {xs : List D} {vs : List V} (h : VRs K F ρ xs vs) (lo hi : Option Int) : VRs K F ρ (cutD xs lo hi) (cutV vs lo hi) := by
  unfold cutD cutV
  rw [← h.length]
  exact (h.drop _).take _
/-- the script, too -/
def lsrOf (so : List SO) (d : D) : Option (List D) := match d with
  | .list xs => some xs
  | .dict [(.list xs, .none)] => some xs
  | .dict [(.int n, .none)] => (match so[n.toNat]? with
    | some (.lst xs) => some xs
    | some (.scr xs) => some xs
    | _ => none)
  | _ => none
theorem lsr_of (r : RelS w F ρ H so) {d : D} {v : V} {xs : List D} (h : VR w.K F ρ d v) (e : lsrOf so d = some xs) : ∃ a vs, v = .ref a ∧ SqL w.K H a vs ∧ VRs w.K F ρ xs vs := by
  cases h with
  | ref q =>
    rename_i n a
    unfold lsrOf at e
    simp only [Int.toNat_natCast] at e
    cases z : so[n]? with
    | none => simp [z] at e
    | some o =>
      cases o with
      | lst ys =>
        simp only [z, Option.some.injEq] at e
        subst e
        obtain ⟨b, e1, _, vs, e3, e4⟩ := r.obj n _ z
        rw [q] at e1
        cases e1
        exact ⟨_, vs, rfl, SqL.of e3, e4⟩
      | scr ys =>
        simp only [z, Option.some.injEq] at e
        subst e
        obtain ⟨b, e1, _, vs, e3, e4⟩ := r.obj n _ z
        rw [q] at e1
        cases e1
        exact ⟨_, vs, rfl, r.le.sqL e3, e4⟩
      | dct _ => simp [z] at e
      | dlk _ => simp [z] at e
      | ins _ _ => simp [z] at e
      | lam _ => simp [z] at e
      | dead => simp [z] at e
  | lst q k => simp only [lsrOf, Option.some.injEq] at e; subst e; exact ⟨_, _, rfl, SqL.of (r.le _ _ q), k⟩
  | scr q k => simp only [lsrOf, Option.some.injEq] at e; subst e; exact ⟨_, _, rfl, r.le.sqL q, k⟩
  | non => simp [lsrOf] at e
  | bl b => simp [lsrOf] at e
  | int b => simp [lsrOf] at e
  | str b => simp [lsrOf] at e
  | tup q k => simp [lsrOf] at e
def dSl (x : D) (lo hi : Option Int) (so : List SO) : Option (D × List SO) := match x with
  | .str z => if z.length ≤ mx then some (.str (cutS z lo hi), so) else none
  | .tuple xs => some (.tuple (cutD xs lo hi), so)
  | x => (lsrOf so x).map fun xs => (.list (cutD xs lo hi), so)
def eSl (f : M D) (g h : M (Option Int)) : M D := bnd f fun x => bnd g fun lo => bnd h fun hi => fun st => lft (dSl x lo hi st.so)
def rSl (w : Wd) : V → Option Int → Option Int → Hp → VK → Prop := fun x lo hi H Q => ∃ F ρ so dx d so', RelS w F ρ H so ∧ VR w.K F ρ dx x ∧ dSl dx lo hi so = some (d, so') ∧
  ∀ v' F' ρ' H', Ext F ρ F' ρ' → RelS w F' ρ' H' so' → VR w.K F' ρ' d v' → Q v' H'
theorem cut_whole {α : Type} {xs : List α} {lo hi : Option Int} (h : HT.sIx xs.length 0 lo = 0 ∧ HT.sIx xs.length xs.length hi = xs.length) : cutD xs lo hi = xs := by
  unfold cutD
  rw [h.1, h.2]
  simp
theorem sl_all (c : Cok w X) : SlR X (rSl w) := by
  intro pins s σ H x v vl vu lo hi sl Q I rx hs pl pu ⟨F, ρ, so, dx, d, so', r, hx, hg, k⟩
  unfold dSl at hg
  split at hg
  · split at hg <;> cases hg
    rename_i z hz
    cases hx
    exact sl_str pins s σ H _ v vl vu lo hi sl Q I rx hs pl pu ⟨z, rfl, le_mx hz, k _ _ _ _ (Ext.refl _ _) r (.str _)⟩
  · cases hg
    rename_i xs
    cases hx with
    | tup q r1 =>
      refine sl_tupA pins s σ H _ v vl vu lo hi sl Q I rx hs pl pu ⟨_, _, rfl, by rw [c.K]; exact r.le.sqT q, fun z => ?_, fun z p hp => ?_⟩
      · rw [← r1.length] at z
        rw [cut_whole z] at k
        exact k _ _ _ _ (Ext.refl _ _) r (.tup q r1)
      · obtain ⟨r3, x3⟩ := r.frozen (o := .tup (cutV _ lo hi)) hp
        exact k _ _ _ _ x3 r3 (.tup (SqT.of upd_same) (x3.vrs (cut_vr r1 lo hi)))
  · cases e : lsrOf so dx with
    | none => rw [e] at hg; cases hg
    | some xs =>
      rw [e] at hg
      cases hg
      obtain ⟨a, vs, rfl, h1, r1⟩ := lsr_of r hx e
      refine sl_list pins s σ H _ v vl vu lo hi sl Q I rx hs pl pu ⟨a, vs, rfl, by rw [c.K]; exact h1, fun p hp => ?_⟩
      obtain ⟨r3, x3⟩ := r.frozen (o := .lst (cutV vs lo hi)) hp
      exact k _ _ _ _ x3 r3 (.lst upd_same (x3.vrs (cut_vr r1 lo hi)))
theorem se_slice {e : Expr} {lo hi : Option Expr} {p2 pos : Pos} {f : M D} {g h : M (Option Int)} (c : Cok w X) (he : SE w X e f) (hl : SO2 w X lo g) (hh : SO2 w X hi h) : SE w X (.Subscript e (.Slice lo hi none p2) pos) (eSl f g h) := fun W tk =>
  PE.imp (pe_slice (sl_all c) (he W tk) (hl W tk) (hh W tk)) fun σ H Q ⟨F, ρ, st, r, p⟩ => ⟨F, ρ, st, r, post_bnd p fun a v F1 ρ1 H1 so1 x1 r1 q1 p1 =>
    ⟨F1, ρ1, ⟨st.vars, so1⟩, r1, post_bnd p1 fun l l' F2 ρ2 H2 so2 x2 r2 q2 p2 => ⟨F2, ρ2, ⟨st.vars, so2⟩, r2, post_bnd p2 fun u u' F3 ρ3 H3 so3 x3 r3 q3 p3 => by
      subst q2
      subst q3
      cases e : dSl a l u so3 with
      | none => dsimp only at p3; rw [e] at p3; exact p3.elim
      | some q =>
        obtain ⟨d, so'⟩ := q
        dsimp only at p3
        rw [e] at p3
        exact ⟨F3, ρ3, so3, a, d, so', r3.s, (x2.trans x3).vr q1, e, fun v' F' ρ' H' x' r' q' => p3 v' F' ρ' H' x' (r3.up x' r') q'⟩⟩⟩⟩

/-! ### calls of what is built in -/
abbrev OA := List D → List SO → Option (D × List SO)
def CallS (w : Wd) (X : Cx) (f : Value) (g : OA) : Prop :=
  ∀ (F : Hp) (ρ : List Addr) (H : Hp) (so : List SO) (ds : List D) (d : D) (so' : List SO) (vs : List V) (us : List Value) (pins : List (Addr × Obj)) (s : Shared) (σ : L2.St) (Q : VK),
    RelS w F ρ H so → VRs w.K F ρ ds vs → g ds so = some (d, so') → Inv X pins σ H s → Vals vs us →
    (∀ v' F' ρ' H', Ext F ρ F' ρ' → RelS w F' ρ' H' so' → VR w.K F' ρ' d v' → Q v' H') → wpAny (model X.prog X.w) X.A (call f us) (EP X pins σ Q) X.xe s
def rA (w : Wd) (g : OA) : List V → Hp → VK → Prop := fun vs H Q => ∃ F ρ so ds d so', RelS w F ρ H so ∧ VRs w.K F ρ ds vs ∧ g ds so = some (d, so') ∧ ∀ v' F' ρ' H', Ext F ρ F' ρ' → RelS w F' ρ' H' so' → VR w.K F' ρ' d v' → Q v' H'
theorem CallS.r {f : Value} {g : OA} (h : CallS w X f g) : CallR X f (rA w g) := fun pins s σ H vs us Q I rv ⟨F, ρ, so, ds, d, so', r, hd, hg, k⟩ => h F ρ H so ds d so' vs us pins s σ Q r hd hg I rv k
def eCB (g : OA) (f : M (List D)) : M D := bnd f fun ds st => lft (g ds st.so)
theorem tr_cb {W : WX} {g : OA} {f : M (List D)} {Q : VK} (h : trE w W (eCB g f) σ H Q) : tCB (rA w g) (trA w W f) σ H Q := by
  obtain ⟨F, ρ, st, r, p⟩ := h
  refine ⟨F, ρ, st, r, post_bnd p fun ds vs F1 ρ1 H1 so1 x1 r1 q1 p1 => ?_⟩
  cases e : g ds so1 with
  | none => dsimp only at p1; rw [e] at p1; exact p1.elim
  | some q =>
    obtain ⟨d, so'⟩ := q
    dsimp only at p1
    rw [e] at p1
    exact ⟨F1, ρ1, so1, ds, d, so', r1.s, q1, e, fun v' F' ρ' H' x' r' q' => p1 v' F' ρ' H' x' (r1.up x' r') q'⟩
theorem se_callB {id : String} {x : PySem.Str} {p pos : Pos} {e : Expr} {es : List Expr} {g : OA} {f : M (List D)} (hc : CallS w X (.builtin id) g) (hg : Gl X x) (hm : X.mg x = none) (hv : bootBuiltins x = some (.builtin id)) (ha : SA w X (e :: es) f) (hn : x ≠ "__name__" := by decide) (hdb : (x == ("__debug__" : PySem.Str)) = false := by decide)
    (he : starEach (e :: es) X.env = (false, eval e X.env) :: starEach es X.env := by rfl) (hpl : (backTo pos (starEach es X.env)).any (·.1) = false := by rfl) : SE w X (.Call (.Name x p) (e :: es) [] pos) (eCB g f) :=
  fun W tk => PE.imp (pe_callB hc.r hg hm hv (ha W tk) hn hdb he hpl) fun _ _ _ h => tr_cb h
theorem se_callTy {T : String} {x : PySem.Str} {p pos : Pos} {e : Expr} {es : List Expr} {g : OA} {f : M (List D)} (hc : CallS w X (.type T) g) (hg : Gl X x) (hm : X.mg x = none) (hv : bootBuiltins x = some (.type T)) (ha : SA w X (e :: es) f) (hn : x ≠ "__name__" := by decide) (hdb : (x == ("__debug__" : PySem.Str)) = false := by decide)
    (he : starEach (e :: es) X.env = (false, eval e X.env) :: starEach es X.env := by rfl) (hpl : (backTo pos (starEach es X.env)).any (·.1) = false := by rfl) : SE w X (.Call (.Name x p) (e :: es) [] pos) (eCB g f) :=
  fun W tk => PE.imp (pe_callTy hc.r hg hm hv (ha W tk) hn hdb he hpl) fun _ _ _ h => tr_cb h
theorem vrs1 {K : PySem.W.Frag} {d : D} {vs : List V} (h : VRs K F ρ [d] vs) : ∃ v, vs = [v] ∧ VR K F ρ d v := by
  cases h with
  | cons a b => cases b; exact ⟨_, rfl, a⟩
theorem vrs2 {K : PySem.W.Frag} {d e : D} {vs : List V} (h : VRs K F ρ [d, e] vs) : ∃ v u, vs = [v, u] ∧ VR K F ρ d v ∧ VR K F ρ e u := by
  cases h with
  | cons a b =>
    obtain ⟨u, rfl, q⟩ := vrs1 b
    exact ⟨_, u, rfl, a, q⟩
def dLen : OA := fun ds so => match ds with
  | [.str z] => if z.length ≤ mx then some (.int z.length, so) else none
  | [.tuple xs] => some (.int xs.length, so)
  | [x] => match lstOf so x with
    | some xs => some (.int xs.length, so)
    | none => match dctOf so x with
      | some (_, kvs, _) => some (.int kvs.length, so)
      | none => none
  | _ => none
theorem cs_len (c : Cok w X) : CallS w X (.builtin "len") dLen := by
  intro F ρ H so ds d so' vs us pins s σ Q r hd hg I rv k
  unfold dLen at hg
  split at hg
  · split at hg <;> cases hg
    rename_i z hz
    obtain ⟨v, rfl, hv⟩ := vrs1 hd
    cases hv
    exact call_len_str pins s σ H _ us Q I rv ⟨z, rfl, le_mx hz, k _ _ _ _ (Ext.refl _ _) r (.int _)⟩
  · cases hg
    obtain ⟨v, rfl, hv⟩ := vrs1 hd
    cases hv with
    | tup q r1 => exact call_len_seq pins s σ H _ us Q I rv ⟨_, _, rfl, .inr (by rw [c.K]; exact r.le.sqT q), by rw [← r1.length]; exact k _ _ _ _ (Ext.refl _ _) r (.int _)⟩
  · obtain ⟨v, rfl, hv⟩ := vrs1 hd
    split at hg
    · rename_i e
      cases hg
      obtain ⟨a, vs, rfl, h1, r1⟩ := lst_of r hv e
      exact call_len_seq pins s σ H _ us Q I rv ⟨_, _, rfl, .inl (SqL.of h1), by rw [← r1.length]; exact k _ _ _ _ (Ext.refl _ _) r (.int _)⟩
    · split at hg <;> cases hg
      rename_i e
      obtain ⟨a, vs, rfl, _, _, h4, _, _, h7⟩ := dct_of r hv e
      obtain ⟨u, rfl, ru⟩ := L2.vals1 rv
      cases ru
      exact d_len I h4 fun t s' I' => ⟨.int vs.length, H, I', ⟨_, rfl⟩, by rw [← h7.length]; exact k _ _ _ _ (Ext.refl _ _) r (.int _)⟩
  · cases hg
/-- list(x) -/
def dList : OA := fun ds so => match ds with
  | [.tuple xs] => some (.list xs, so)
  | [x] => match lstOf so x with
    | some xs => some (.list xs, so)
    | none => match dctOf so x with
      | some (_, kvs, false) => some (.list (kvs.map fun kv => keyV kv.1), so)
      | _ => none
  | _ => none
theorem keys_vr {K : PySem.W.Frag} : ∀ {kvs : List (Key × D)} {vs : List (Key × V)}, KVs (VR K F ρ) kvs vs → VRs K F ρ (kvs.map fun kv => keyV kv.1) (vs.map fun kv => kV kv.1)
  | _, _, .nil => .nil
  | _, _, .cons (k := k) h r => .cons (by cases k <;> first | exact .int _ | exact .str _) (keys_vr r)
theorem cs_list (c : Cok w X) : CallS w X (.type "list") dList := by
  intro F ρ H so ds d so' vs us pins s σ Q r hd hg I rv k
  unfold dList at hg
  split at hg
  · cases hg
    obtain ⟨v, rfl, hv⟩ := vrs1 hd
    cases hv with
    | tup q r1 =>
      refine call_list_of pins s σ H _ us Q I rv ⟨_, _, rfl, .inr (by rw [c.K]; exact r.le.sqT q), fun p hp => ?_⟩
      obtain ⟨r3, x3⟩ := r.frozen (o := .lst _) hp
      exact k _ _ _ _ x3 r3 (.lst upd_same (x3.vrs r1))
  · obtain ⟨v, rfl, hv⟩ := vrs1 hd
    split at hg
    · rename_i e
      cases hg
      obtain ⟨a, vs, rfl, h1, r1⟩ := lst_of r hv e
      refine call_list_of pins s σ H _ us Q I rv ⟨_, _, rfl, .inl (SqL.of h1), fun p hp => ?_⟩
      obtain ⟨r3, x3⟩ := r.frozen (o := .lst _) hp
      exact k _ _ _ _ x3 r3 (.lst upd_same (x3.vrs r1))
    · split at hg <;> cases hg
      rename_i e
      obtain ⟨a, vs, rfl, _, _, _, h5, _, h7⟩ := dct_of r hv e
      refine call_list_dK c.calm pins s σ H _ us Q I rv ⟨_, _, rfl, (h5 rfl).1, fun p hp => ?_⟩
      obtain ⟨r3, x3⟩ := r.frozen (o := .lst _) hp
      exact k _ _ _ _ x3 r3 (.lst upd_same (x3.vrs (keys_vr h7)))
  · cases hg
/-- tuple(x) -/
def dTuple : OA := fun ds so => match ds with
  | [.tuple xs] => some (.tuple xs, so)
  | [x] => match lstOf so x with
    | some xs => some (.tuple xs, so)
    | none => none
  | _ => none
theorem cs_tuple (c : Cok w X) : CallS w X (.type "tuple") dTuple := by
  intro F ρ H so ds d so' vs us pins s σ Q r hd hg I rv k
  unfold dTuple at hg
  split at hg
  · cases hg
    obtain ⟨v, rfl, hv⟩ := vrs1 hd
    cases hv with
    | tup q r1 => exact call_tuple_of pins s σ H _ us Q I rv ⟨_, _, rfl, .inr ⟨by rw [c.K]; exact r.le.sqT q, k _ _ _ _ (Ext.refl _ _) r (.tup q r1)⟩⟩
  · obtain ⟨v, rfl, hv⟩ := vrs1 hd
    split at hg <;> cases hg
    rename_i e
    obtain ⟨a, vs, rfl, h1, r1⟩ := lst_of r hv e
    refine call_tuple_of pins s σ H _ us Q I rv ⟨_, _, rfl, .inl ⟨SqL.of h1, fun p hp => ?_⟩⟩
    obtain ⟨r3, x3⟩ := r.frozen (o := .tup _) hp
    exact k _ _ _ _ x3 r3 (.tup (SqT.of upd_same) (x3.vrs r1))
  · cases hg
def dInt : OA := fun ds so => match ds with
  | [.int i] => some (.int i, so)
  | [.bool b] => some (.int (if b then 1 else 0), so)
  | _ => none
theorem cs_int : CallS w X (.type "int") dInt := by
  intro F ρ H so ds d so' vs us pins s σ Q r hd hg I rv k
  unfold dInt at hg
  split at hg <;> cases hg
  · obtain ⟨v, rfl, hv⟩ := vrs1 hd
    cases hv
    exact call_int1 pins s σ H _ us Q I rv (.inl ⟨_, rfl, k _ _ _ _ (Ext.refl _ _) r (.int _)⟩)
  · obtain ⟨v, rfl, hv⟩ := vrs1 hd
    cases hv
    exact call_int1 pins s σ H _ us Q I rv (.inr ⟨_, rfl, k _ _ _ _ (Ext.refl _ _) r (.int _)⟩)
def dAbs : OA := fun ds so => match ds with
  | [.int i] => some (.int (if i < 0 then -i else i), so)
  | _ => none
theorem cs_abs : CallS w X (.builtin "abs") dAbs := by
  intro F ρ H so ds d so' vs us pins s σ Q r hd hg I rv k
  unfold dAbs at hg
  split at hg <;> cases hg
  obtain ⟨v, rfl, hv⟩ := vrs1 hd
  cases hv
  exact call_abs pins s σ H _ us Q I rv ⟨_, rfl, k _ _ _ _ (Ext.refl _ _) r (.int _)⟩
/-- str(n) -/
def dStr : OA := fun ds so => match ds with
  | [.int i] => if i.natAbs.log2 < 1920 then some (.str (toString i), so) else none
  | _ => none
theorem cs_str : CallS w X (.type "str") dStr := by
  intro F ρ H so ds d so' vs us pins s σ Q r hd hg I rv k
  unfold dStr at hg
  split at hg <;> try cases hg
  split at hg <;> cases hg
  rename_i hz
  obtain ⟨v, rfl, hv⟩ := vrs1 hd
  cases hv
  exact call_str_int pins s σ H _ us Q I rv ⟨_, rfl, hz, k _ _ _ _ (Ext.refl _ _) r (.str _)⟩
end
end EV
end
section
set_option Elab.async false
set_option linter.all false
set_option maxRecDepth 100000
set_option maxHeartbeats 4000000
namespace EV
open PySem L2
section
variable {w : Wd} {X : Cx} {F F' : Hp} {ρ ρ' : List Addr} {σ : L2.St} {H H' : Hp} {st : St} {so so' : List SO} {vars : List (Option D)}

/-! ### instances, fields -/
def insOf (so : List SO) (d : D) : Option (Nat × Nat × List (PySem.Str × D)) := match d with
  | .dict [(.int n, .none)] => (match so[n.toNat]? with
    | some (.ins c fs) => some (n.toNat, c, fs)
    | _ => none)
  | _ => none
theorem ins_of (r : RelS w F ρ H so) {d : D} {v : V} {n c : Nat} {fs : List (PySem.Str × D)} (h : VR w.K F ρ d v) (e : insOf so d = some (n, c, fs)) :
    ∃ a dx vs, v = .ref a ∧ ρ[n]? = some a ∧ F a = none ∧ H a = some (.ins (w.cls c) dx vs) ∧ KVs (VR w.K F ρ) fs vs ∧ so[n]? = some (.ins c fs) := by
  cases h with
  | ref q =>
    rename_i m a
    unfold insOf at e
    simp only [Int.toNat_natCast] at e
    cases z : so[m]? with
    | none => simp [z] at e
    | some o =>
      obtain ⟨b, e1, e2⟩ := r.obj m _ z
      rw [q] at e1
      cases e1
      cases o with
      | lst _ => simp [z] at e
      | dct _ => simp [z] at e
      | dlk _ => simp [z] at e
      | lam _ => simp [z] at e
      | scr _ => simp [z] at e
      | dead => simp [z] at e
      | ins c' fs' =>
        simp only [z, Option.some.injEq, Prod.mk.injEq] at e
        obtain ⟨rfl, rfl, rfl⟩ := e
        obtain ⟨e0, dx, vs, h1, h2⟩ := e2
        exact ⟨_, dx, vs, rfl, q, e0, h1, h2, z⟩
  | non => simp [insOf] at e
  | bl b => simp [insOf] at e
  | int b => simp [insOf] at e
  | str b => simp [insOf] at e
  | tup q k => simp [insOf] at e
  | lst q k => simp [insOf] at e
  | scr q k => simp [insOf] at e
theorem KVs.lookup {S : D → V → Prop} {f : PySem.Str} : ∀ {ds : List (PySem.Str × D)} {vs : List (PySem.Str × V)}, KVs S ds vs → (match ds.lookup f with
    | some d => ∃ v, vs.lookup f = some v ∧ S d v
    | none => vs.lookup f = none)
  | _, _, .nil => rfl
  | _, _, .cons (k := j) h r => by
    rw [List.lookup_cons, List.lookup_cons]
    cases f == j with
    | true => exact ⟨_, rfl, h⟩
    | false => exact KVs.lookup r
theorem lookup_some {K : PySem.W.Frag} {fs : List (PySem.Str × D)} {vs : List (PySem.Str × V)} {f : PySem.Str} {d : D} (h : KVs (VR K F ρ) fs vs) (e : fs.lookup f = some d) : ∃ v, vs.lookup f = some v ∧ VR K F ρ d v := by
  have := h.lookup (f := f)
  rw [e] at this
  exact this
theorem lookup_none {K : PySem.W.Frag} {fs : List (PySem.Str × D)} {vs : List (PySem.Str × V)} {f : PySem.Str} (h : KVs (VR K F ρ) fs vs) (e : fs.lookup f = none) : vs.lookup f = none := by
  have := h.lookup (f := f)
  rw [e] at this
  exact this
/-- the classes below n, whose field f is -/
structure FldOk (w : Wd) (n : Nat) (f : PySem.Str) : Prop where
  cl : ∀ c, c < n → Cls w.K (w.cls c)
  nf : ∀ c, c < n → NoAttr w.K (w.cls c) f
def kFld (n : Nat) (f : PySem.Str) (x : D) : M D := fun st => match insOf st.so x with
  | some (_, c, fs) => if c < n then (match fs.lookup f with
    | some d => .ok d st.so
    | none => .bad) else .bad
  | none => .bad
def eFld (n : Nat) (f : PySem.Str) (g : M D) : M D := bnd g (kFld n f)
theorem se_fld {n : Nat} {f : PySem.Str} {e : Expr} {pos : Pos} {g : M D} (c : Cok w X) (fo : FldOk w n f) (he : SE w X e g) (hb : attributeBase e f X.env (eval e X.env) = eval e X.env := by rfl) : SE w X (.Attribute e f pos) (eFld n f g) := fun W tk =>
  PE.imp (pe_fld (he W tk) hb) fun σ H Q ⟨F, ρ, st, r, p⟩ => ⟨F, ρ, st, r, post_bnd p fun d v F1 ρ1 H1 so1 x1 r1 q1 p1 => by
    unfold kFld at p1
    dsimp only at p1
    cases e : insOf so1 d with
    | none => rw [e] at p1; exact p1.elim
    | some q =>
      obtain ⟨m, c', fs⟩ := q
      rw [e] at p1
      dsimp only at p1
      by_cases hc : c' < n
      · rw [if_pos hc] at p1
        cases l : fs.lookup f with
        | none => rw [l] at p1; exact p1.elim
        | some d' =>
          rw [l] at p1
          obtain ⟨a, dx, vs, rfl, _, _, h4, h5, _⟩ := ins_of r1.s q1 e
          obtain ⟨v', l', hv⟩ := lookup_some h5 l
          exact ⟨a, _, dx, vs, v', rfl, h4, by rw [c.K]; exact fo.cl c' hc, by rw [c.K]; exact fo.nf c' hc, l', p1 v' F1 ρ1 H1 (Ext.refl _ _) r1 hv⟩
      · rw [if_neg hc] at p1; exact p1.elim⟩

/-! ### methods of dicts and lists of the store, called for their value -/
theorem dct_live (r : RelS w F ρ H so) {d : D} {v : V} {n : Nat} {kvs : List (Key × D)} (h : VR w.K F ρ d v) (e : dctOf so d = some (n, kvs, false)) :
    ∃ a vs, v = .ref a ∧ ρ[n]? = some a ∧ F a = none ∧ H a = some (.dK vs) ∧ KVs (VR w.K F ρ) kvs vs := by
  obtain ⟨a, vs, h1, h2, h3, _, h5, _, h7⟩ := dct_of r h e
  exact ⟨a, vs, h1, h2, h3 rfl, (h5 rfl).1, h7⟩
theorem write_dct (r : RelS w F ρ H so) {n : Nat} {a : Addr} {vs vs' : List (Key × V)} {kvs' : List (Key × D)} (h2 : ρ[n]? = some a) (h3 : F a = none) (h4 : H a = some (.dK vs)) (h7 : KVs (VR w.K F ρ) kvs' vs') : RelS w F ρ (upd H a (.dK vs')) (so.set n (.dct kvs')) :=
  r.write h2 h4 (fun _ z => by cases z) (fun _ z => by cases z) h3 ⟨vs', upd_same, h7⟩
def kPop2 (x k y : D) : M D := fun st => match dctOf st.so x, keyD k with
  | some (n, kvs, false), some key => (match dGet kvs key with
    | some d => .ok d (st.so.set n (.dct (dDrop kvs key)))
    | none => .ok y st.so)
  | _, _ => .bad
def ePop2 (f g h : M D) : M D := bnd f fun x => fun st => match dctOf st.so x with
  | some _ => bnd g (fun k => bnd h fun y => kPop2 x k y) st
  | none => .bad
theorem drop_kv {K : PySem.W.Frag} {kvs : List (Key × D)} {vs : List (Key × V)} (h : KVs (VR K F ρ) kvs vs) (k : Key) : KVs (VR K F ρ) (dDrop kvs k) (dropK vs k) := h.filter fun j => decide (j ≠ k)
theorem isD_of (r : RelS w F ρ H so) {d : D} {v : V} {q : Nat × List (Key × D) × Bool} (h : VR w.K F ρ d v) (e : dctOf so d = some q) : ∃ a, v = .ref a ∧ IsD H a := by
  obtain ⟨n, kvs, b⟩ := q
  obtain ⟨a, vs, h1, _, _, h4, _⟩ := dct_of r h e
  exact ⟨a, h1, .inl ⟨vs, h4⟩⟩
theorem se_pop2 {o e f : Expr} {apos cpos : Pos} {fo fe ff : M D} (ho : SE w X o fo) (he : SE w X e fe) (hf : SE w X f ff) (m : M2 X o "pop" apos e f cpos) : SE w X (.Call (.Attribute o "pop" apos) [e, f] [] cpos) (ePop2 fo fe ff) := fun W tk =>
  PE.imp (pe_dpop2 (ho W tk) (he W tk) (hf W tk) m) fun σ H Q ⟨F, ρ, st, r, p⟩ => ⟨F, ρ, st, r, post_bnd p fun x v F1 ρ1 H1 so1 x1 r1 q1 p1 => by
    dsimp only at p1
    cases e0 : dctOf so1 x with
    | none => rw [e0] at p1; exact p1.elim
    | some q0 =>
      rw [e0] at p1
      obtain ⟨a, rfl, hd⟩ := isD_of r1.s q1 e0
      refine ⟨a, rfl, hd, F1, ρ1, ⟨st.vars, so1⟩, r1, post_bnd p1 fun y u F2 ρ2 H2 so2 x2 r2 q2 p2 => ?_⟩
      refine ⟨F2, ρ2, ⟨st.vars, so2⟩, r2, post_bnd p2 fun z t F3 ρ3 H3 so3 x3 r3 q3 p3 => ?_⟩
      unfold kPop2 at p3
      dsimp only at p3
      split at p3
      · rename_i n kvs key e1 e2
        have q1' := (x2.trans x3).vr q1
        have q2' := x3.vr q2
        obtain ⟨a', vs, ea, h2, h3, h4, h7⟩ := dct_live r3.s q1' e1
        cases ea
        have hk := keyD_v q2' e2
        refine ⟨vs, key, h4, hk, fun v' hv => ?_, fun hv => ?_⟩
        · cases e3 : dGet kvs key with
          | none => rw [dget_none h7 e3] at hv; cases hv
          | some d =>
            rw [e3] at p3
            obtain ⟨v2, hv2, rv⟩ := dget_some h7 e3
            rw [hv] at hv2
            cases hv2
            exact p3 v' F3 ρ3 _ (Ext.refl _ _) (r3.up (Ext.refl _ _) (write_dct r3.s h2 h3 h4 (drop_kv h7 key))) rv
        · cases e3 : dGet kvs key with
          | some d =>
            obtain ⟨v2, hv2, rv⟩ := dget_some h7 e3
            rw [hv] at hv2
            cases hv2
          | none =>
            rw [e3] at p3
            exact p3 t F3 ρ3 H3 (Ext.refl _ _) r3 q3
      · exact p3.elim⟩
def kPop1 (x k : D) : M D := fun st => match dctOf st.so x, keyD k with
  | some (n, kvs, false), some key => (match dGet kvs key with
    | some d => .ok d (st.so.set n (.dct (dDrop kvs key)))
    | none => .bad)
  | _, _ => .bad
def ePop1 (f g : M D) : M D := bnd f fun x => fun st => match dctOf st.so x with
  | some _ => bnd g (fun k => kPop1 x k) st
  | none => .bad
theorem se_pop1 {o e : Expr} {apos cpos : Pos} {fo fe : M D} (ho : SE w X o fo) (he : SE w X e fe) (m : M1 X o "pop" apos e cpos) : SE w X (.Call (.Attribute o "pop" apos) [e] [] cpos) (ePop1 fo fe) := fun W tk =>
  PE.imp (pe_dpop1 (ho W tk) (he W tk) m) fun σ H Q ⟨F, ρ, st, r, p⟩ => ⟨F, ρ, st, r, post_bnd p fun x v F1 ρ1 H1 so1 x1 r1 q1 p1 => by
    dsimp only at p1
    cases e0 : dctOf so1 x with
    | none => rw [e0] at p1; exact p1.elim
    | some q0 =>
      rw [e0] at p1
      obtain ⟨a, rfl, hd⟩ := isD_of r1.s q1 e0
      refine ⟨a, rfl, hd, F1, ρ1, ⟨st.vars, so1⟩, r1, post_bnd p1 fun y u F2 ρ2 H2 so2 x2 r2 q2 p2 => ?_⟩
      unfold kPop1 at p2
      dsimp only at p2
      split at p2
      · rename_i n kvs key e1 e2
        have q1' := x2.vr q1
        obtain ⟨a', vs, ea, h2, h3, h4, h7⟩ := dct_live r2.s q1' e1
        cases ea
        have hk := keyD_v q2 e2
        cases e3 : dGet kvs key with
        | none => rw [e3] at p2; exact p2.elim
        | some d =>
          rw [e3] at p2
          obtain ⟨v2, hv2, rv⟩ := dget_some h7 e3
          exact ⟨vs, key, v2, h4, hk, hv2, p2 v2 F2 ρ2 _ (Ext.refl _ _) (r2.up (Ext.refl _ _) (write_dct r2.s h2 h3 h4 (drop_kv h7 key))) rv⟩
      · exact p2.elim⟩
/-- dict(d): a new dict of the store -/
def dDict : OA := fun ds so => match ds with
  | [x] => (match dctOf so x with
    | some (_, kvs, _) => some (rf so.length, so ++ [.dct kvs])
    | none => none)
  | _ => none
theorem cs_dict : CallS w X (.type "dict") dDict := by
  intro F ρ H so ds d so' vs us pins s σ Q r hd hg I rv k
  unfold dDict at hg
  split at hg <;> try cases hg
  split at hg <;> cases hg
  rename_i e
  obtain ⟨v, rfl, hv⟩ := vrs1 hd
  obtain ⟨a, vs, rfl, _, _, h4, _, _, h7⟩ := dct_of r hv e
  obtain ⟨u, rfl, ru⟩ := L2.vals1 rv
  cases ru
  refine d_copyOf I h4 fun p s' hp I' => ?_
  obtain ⟨r2, x2⟩ := r.live (u := .dK vs) (o := .dct _) hp ⟨vs, upd_same, h7⟩
  exact ⟨.ref p, _, I', rfl, k _ _ _ _ x2 r2 (ref_new r)⟩
/-- xs.append(e) -/
def kApp (x y : D) : M D := fun st => match x with
  | .dict [(.int n, .none)] => (match st.so[n.toNat]? with
    | some (.lst xs) => if xs.length < mx then .ok .none (st.so.set n.toNat (.lst (xs ++ [y]))) else .bad
    | _ => .bad)
  | _ => .bad
def isLst (so : List SO) (x : D) : Bool := match x with
  | .dict [(.int n, .none)] => (match so[n.toNat]? with
    | some (.lst _) => true
    | _ => false)
  | _ => false
def eApp (f g : M D) : M D := bnd f fun x => fun st => if isLst st.so x = true then bnd g (fun y => kApp x y) st else .bad
theorem isLst_of (r : RelS w F ρ H so) {d : D} {v : V} (h : VR w.K F ρ d v) (e : isLst so d = true) : ∃ n a xs vs, d = rf n ∧ v = .ref a ∧ ρ[n]? = some a ∧ F a = none ∧ H a = some (.lst vs) ∧ VRs w.K F ρ xs vs ∧ so[n]? = some (.lst xs) := by
  cases h with
  | ref q =>
    rename_i n a
    unfold isLst at e
    simp only [Int.toNat_natCast] at e
    cases z : so[n]? with
    | none => simp [z] at e
    | some o =>
      cases o with
      | lst xs =>
        obtain ⟨b, e1, e0, vs, e3, e4⟩ := r.obj n _ z
        rw [q] at e1
        cases e1
        exact ⟨n, _, xs, vs, rfl, rfl, q, e0, e3, e4, z⟩
      | dct _ => simp [z] at e
      | dlk _ => simp [z] at e
      | ins _ _ => simp [z] at e
      | lam _ => simp [z] at e
      | scr _ => simp [z] at e
      | dead => simp [z] at e
  | non => simp [isLst] at e
  | bl b => simp [isLst] at e
  | int b => simp [isLst] at e
  | str b => simp [isLst] at e
  | tup q k => simp [isLst] at e
  | lst q k => simp [isLst] at e
  | scr q k => simp [isLst] at e
theorem write_lst (r : RelS w F ρ H so) {n : Nat} {a : Addr} {vs vs' : List V} {xs' : List D} (h2 : ρ[n]? = some a) (h3 : F a = none) (h4 : H a = some (.lst vs)) (h7 : VRs w.K F ρ xs' vs') : RelS w F ρ (upd H a (.lst vs')) (so.set n (.lst xs')) :=
  r.write h2 h4 (fun _ z => by cases z) (fun _ z => by cases z) h3 ⟨vs', upd_same, h7⟩
theorem se_app {o e : Expr} {apos cpos : Pos} {fo fe : M D} (ho : SE w X o fo) (he : SE w X e fe)
    (hst : starEach [e] X.env = (false, eval e X.env) :: starEach [] X.env := by rfl)
    (hpe : ∀ {to : TE} {t : TA}, PE X o to → PA X [e] t → PE X (.Call (.Attribute o "append" apos) [e] [] cpos) (tBM X.K "list" rAppend to t) := by
      intro _ _ h1 h2; exact pe_bm PySem.F.plainAttrs_list PySem.F.slot_list_append PySem.F.type_list_append mt_append h1 h2) : SE w X (.Call (.Attribute o "append" apos) [e] [] cpos) (eApp fo fe) := fun W tk =>
  PE.imp (hpe (ho W tk) (pa_cons (he W tk) pa_nil hst)) fun σ H Q ⟨F, ρ, st, r, p⟩ => ⟨F, ρ, st, r, post_bnd p fun x v F1 ρ1 H1 so1 x1 r1 q1 p1 => by
    dsimp only at p1
    by_cases e0 : isLst so1 x = true
    · rw [if_pos e0] at p1
      obtain ⟨n, a, xs, vs, rfl, rfl, h2, h3, h4, h5, h6⟩ := isLst_of r1.s q1 e0
      refine ⟨.inl ⟨rfl, vs, SqL.of h4⟩, F1, ρ1, ⟨st.vars, so1⟩, r1, post_bnd p1 fun y u F2 ρ2 H2 so2 x2 r2 q2 p2 => ?_⟩
      unfold kApp at p2
      simp only [Int.toNat_natCast] at p2
      cases z : so2[n]? with
      | none => simp [z] at p2; exact p2.elim
      | some o =>
        cases o with
        | lst ys =>
          simp only [z] at p2
          by_cases hl : ys.length < mx
          · rw [if_pos hl] at p2
            have q1' := x2.vr q1
            obtain ⟨b, e1, e0', vs2, e3, e4⟩ := r2.s.obj n _ z
            have hb : b = a := by
              cases q1' with
              | ref hq => rw [hq] at e1; cases e1; rfl
            subst hb
            exact ⟨b, vs2, u, rfl, rfl, e3, by rw [← e4.length]; exact Nat.lt_of_lt_of_le hl mx_le, p2 .non F2 ρ2 _ (Ext.refl _ _) (r2.up (Ext.refl _ _) (write_lst r2.s e1 e0' e3 (e4.append (.cons q2 .nil)))) .non⟩
          · rw [if_neg hl] at p2; exact p2.elim
        | dct _ => simp [z] at p2; exact p2.elim
        | dlk _ => simp [z] at p2; exact p2.elim
        | ins _ _ => simp [z] at p2; exact p2.elim
        | lam _ => simp [z] at p2; exact p2.elim
        | scr _ => simp [z] at p2; exact p2.elim
        | dead => simp [z] at p2; exact p2.elim
    · rw [if_neg e0] at p1; exact p1.elim⟩
end
end EV
end
section
set_option Elab.async false
set_option linter.all false
set_option maxRecDepth 100000
set_option maxHeartbeats 4000000
namespace EV
open PySem L2

/-! ### the store is cut back -/
mutual
/-- no reference to the object m or later ones -/
def lim (m : Nat) : D → Bool
  | .none | .bool _ | .int _ | .str _ => true
  | .list xs => lims m xs
  | .tuple xs => lims m xs
  | .dict [(.int n, .none)] => decide (n.toNat < m)
  | .dict _ => false
def lims (m : Nat) : List D → Bool
  | [] => true
  | x :: xs => lim m x && lims m xs
end
def limO (m : Nat) : SO → Bool
  | .lst xs => lims m xs
  | .dct kvs => kvs.all fun kv => lim m kv.2
  | .dlk kvs => kvs.all fun kv => lim m kv.2
  | .ins _ fs => fs.all fun kv => lim m kv.2
  | .lam _ => true
  | .scr xs => lims m xs
  | .dead => true
section
variable {w : Wd} {X : Cx} {F F' : Hp} {ρ ρ' : List Addr} {σ : L2.St} {H H' : Hp} {st : St} {so so' : List SO} {vars : List (Option D)} {m : Nat}
theorem take_get {n : Nat} {a : Addr} (h : ρ[n]? = some a) (hn : n < m) : (ρ.take m)[n]? = some a := by
  rw [List.getElem?_take_of_lt hn]
  exact h
mutual
theorem VR.cut {K : PySem.W.Frag} : ∀ {d : D} {v : V}, VR K F ρ d v → lim m d = true → VR K F (ρ.take m) d v
  | _, _, .non, _ => .non
  | _, _, .bl b, _ => .bl b
  | _, _, .int i, _ => .int i
  | _, _, .str x, _ => .str x
  | _, _, .tup h r, q => .tup h (VRs.cut r (by simpa [lim] using q))
  | _, _, .lst h r, q => .lst h (VRs.cut r (by simpa [lim] using q))
  | _, _, .scr h r, q => by simp [lim] at q
  | _, _, .ref h, q => .ref (take_get h (by simpa [lim] using q))
theorem VRs.cut {K : PySem.W.Frag} : ∀ {ds : List D} {vs : List V}, VRs K F ρ ds vs → lims m ds = true → VRs K F (ρ.take m) ds vs
  | _, _, .nil, _ => .nil
  | _, _, .cons h r, q => by
    simp only [lims, Bool.and_eq_true] at q
    exact .cons (VR.cut h q.1) (VRs.cut r q.2)
end
theorem KVs.cut {κ : Type} {K : PySem.W.Frag} : ∀ {ds : List (κ × D)} {vs : List (κ × V)}, KVs (VR K F ρ) ds vs → (ds.all fun kv => lim m kv.2) = true → KVs (VR K F (ρ.take m)) ds vs
  | _, _, .nil, _ => .nil
  | _, _, .cons h r, q => by
    simp only [List.all_cons, Bool.and_eq_true] at q
    exact .cons (VR.cut h q.1) (KVs.cut r q.2)
theorem OK.cut {a : Addr} {o : SO} (h : OK w F ρ H a o) (q : limO m o = true) : OK w F (ρ.take m) H a o := by
  cases o with
  | lst xs => obtain ⟨h0, vs, e, r⟩ := h; exact ⟨h0, vs, e, r.cut q⟩
  | dct xs => obtain ⟨h0, vs, e, r⟩ := h; exact ⟨h0, vs, e, r.cut q⟩
  | dlk xs => obtain ⟨o, vs, e, r⟩ := h; exact ⟨o, vs, e, r.cut q⟩
  | ins c xs => obtain ⟨h0, dx, vs, e, r⟩ := h; exact ⟨h0, dx, vs, e, r.cut q⟩
  | lam j => exact h
  | scr xs => obtain ⟨h0, vs, e, r⟩ := h; exact ⟨h0, vs, e, r.cut q⟩
  | dead => exact h
theorem RelS.cut (r : RelS w F ρ H so) (q : (so.take m).all (limO m) = true) : RelS w F (ρ.take m) H (so.take m) := by
  refine ⟨r.le, by rw [List.length_take, List.length_take, r.len], r.nd.sublist (List.take_sublist _ _), fun n o e => ?_, r.tabs, r.nt⟩
  have hn : n < m := by
    have := (List.getElem?_eq_some_iff.mp e).1
    rw [List.length_take] at this
    omega
  have e' : so[n]? = some o := by rw [List.getElem?_take_of_lt hn] at e; exact e
  obtain ⟨a, e1, e2⟩ := r.obj n o e'
  exact ⟨a, take_get e1 hn, e2.cut (List.all_eq_true.mp q o (List.mem_of_getElem? e))⟩
theorem pre_take (p : ρ <+: ρ') : ρ'.take ρ.length = ρ := by
  obtain ⟨t, rfl⟩ := p
  simp
/-- behind a call: what the call alone had is cut off, if nothing refers to it -/
def gcOk (m : Nat) (so : List SO) : Bool := (so.take m).all (limO m)
def gcR (m : Nat) (r : R D) : R D := match r with
  | .ok d so => if lim m d = true ∧ gcOk m so = true then .ok d (so.take m) else .ok d so
  | .exc c so => if gcOk m so = true then .exc c (so.take m) else .exc c so
  | .bad => .bad
theorem Ext.cut (x : Ext F ρ F' ρ') : Ext F ρ F' (ρ'.take ρ.length) := ⟨x.le, by rw [pre_take x.pre]; exact List.prefix_refl _⟩
/-- a list of the store never changes from now on -/
theorem RelS.kill {n : Nat} {a : Addr} {xs : List D} (r : RelS w F ρ H so) (hn : ρ[n]? = some a) (hs : so[n]? = some (.lst xs)) : ∃ F', RelS w F' ρ H (so.set n .dead) ∧ Ext F ρ F' ρ ∧ VR w.K F' ρ (.list xs) (.ref a) := by
  obtain ⟨b, e1, h0, vs, e2, e3⟩ := r.obj n _ hs
  rw [hn] at e1
  cases e1
  have x : Ext F ρ (upd F a (.lst vs)) ρ := ⟨Sub.new h0, List.prefix_refl _⟩
  refine ⟨upd F a (.lst vs), ⟨fun b o q => ?_, by rw [List.length_set]; exact r.len, r.nd, fun k o e => ?_, r.tabs, fun b ps q => ?_⟩, x, .lst upd_same (x.vrs e3)⟩
  rotate_right
  · by_cases hb : b = a
    · rw [hb, upd_same] at q
      cases q
    · rw [upd_ne hb] at q
      exact r.nt b ps q
  · by_cases hb : b = a
    · rw [hb, upd_same] at q
      cases q
      rw [hb]
      exact e2
    · rw [upd_ne hb] at q
      exact r.le b o q
  · by_cases hk : k = n
    · subst hk
      have hl : k < so.length := (List.getElem?_eq_some_iff.mp hs).1
      rw [List.getElem?_set_self hl] at e
      cases e
      exact ⟨a, hn, by show (upd F a (.lst vs) a).isSome = true; rw [upd_same] <;> rfl⟩
    · rw [List.getElem?_set_ne (Ne.symm hk)] at e
      obtain ⟨b, q1, q2⟩ := r.obj k o e
      have ne : b ≠ a := fun z => by
        subst z
        have h1 := List.getElem?_eq_some_iff.mp hn
        have h2 := List.getElem?_eq_some_iff.mp q1
        exact hk ((List.getElem_inj r.nd).mp (h2.2.trans h1.2.symm))
      exact ⟨b, q1, q2.keep x (fun z => by rw [upd_ne ne]; exact z) rfl⟩
end
end EV
end
section
set_option Elab.async false
set_option linter.all false
set_option maxRecDepth 100000
set_option maxHeartbeats 4000000
namespace EV
open PySem L2
section
variable {w : Wd} {X : Cx} {F F' : Hp} {ρ ρ' : List Addr} {σ : L2.St} {H H' : Hp} {st : St} {so so' : List SO} {vars : List (Option D)}

/-! ### defs of the text -/
/-- what a def does: on its arguments and the store -/
abbrev Fn := List D → List SO → R D
/-- the ends of a call -/
def PostC (w : Wd) (F : Hp) (ρ : List Addr) (r : R D) (Q : VK) (E : XK) : Prop :=
  match r with
  | .ok d so => ∀ v F' ρ' H', Ext F ρ F' ρ' → RelS w F' ρ' H' so → VR w.K F' ρ' d v → Q v H'
  | .exc c so => ∀ F' ρ' H', Ext F ρ F' ρ' → RelS w F' ρ' H' so → E (.ref (w.cls c)) none H'
  | .bad => False
/-- the promise of a def of n parameters that does g -/
def spG (w : Wd) (n : Nat) (g : Fn) : Sp := fun vs H Q E => ∃ F ρ so ds, RelS w F ρ H so ∧ VRs w.K F ρ ds vs ∧ ds.length = n ∧ PostC w F ρ (g ds so) Q E
theorem spG.len {n : Nat} {g : Fn} (vs : List V) (H : Hp) (Q : VK) (E : XK) (h : spG w n g vs H Q E) : vs.length = n := by
  obtain ⟨F, ρ, so, ds, _, r, l, _⟩ := h
  rw [← r.length, l]
/-- where a def stands, and that it does g at level k -/
structure DefOk (w : Wd) (P : Program) (W : World) (mg : PySem.Str → Option Value) (base : Heap) (k n : Nat) (f : Addr) (g : Fn) : Prop where
  ex : ∃ fd ps, FnOk P W w.K mg base (L2.CX P W) k f fd ps (spG w n g) ∧ ps.length = n ∧ L2.Binds w.K fd ps []
  kp : PySem.W.keepIn w.K (.ref f) = true
theorem DefOk.mono {P : Program} {W : World} {mg : PySem.Str → Option Value} {base : Heap} {j k n : Nat} {f : Addr} {g : Fn} (h : DefOk w P W mg base j n f g) (l : j ≤ k) : DefOk w P W mg base k n f g := by
  obtain ⟨⟨fd, ps, a, b, c⟩, d⟩ := h
  exact ⟨⟨fd, ps, a.mono l, b, c⟩, d⟩
abbrev DefAt (w : Wd) (X : Cx) (k n : Nat) (f : Addr) (g : Fn) : Prop := DefOk w X.prog X.w X.mg X.base k n f g

def eCall (n : Nat) (g : Fn) (f : M (List D)) : M D := bnd f fun ds st => if ds.length = n then gcR st.so.length (g ds st.so) else .bad
theorem post_gc {W : WX} {r : R D} {Q : VK} (q : Rel w F ρ σ H ⟨vars, so⟩) (p : Post w F ρ σ vars (qV w) W (gcR so.length r) Q) : PostC w F ρ r Q (WE W σ) := by
  have hl : so.length = ρ.length := q.s.len.symm
  unfold PostC
  cases r with
  | ok d so' =>
    intro v F' ρ' H' x' r' q'
    unfold gcR at p
    dsimp only at p
    by_cases hg : lim so.length d = true ∧ gcOk so.length so' = true
    · rw [if_pos hg] at p
      have x2 := x'.cut
      have r2 := r'.cut (m := so.length) hg.2
      have v2 := q'.cut hg.1
      rw [← hl] at x2
      exact p v F' _ H' x2 (q.up x2 r2) v2
    · rw [if_neg hg] at p
      exact p v F' ρ' H' x' (q.up x' r') q'
  | exc c so' =>
    intro F' ρ' H' x' r'
    unfold gcR at p
    dsimp only at p
    by_cases hg : gcOk so.length so' = true
    · rw [if_pos hg] at p
      have x2 := x'.cut
      have r2 := r'.cut (m := so.length) hg
      rw [← hl] at x2
      exact p F' _ H' x2 (q.up x2 r2)
    · rw [if_neg hg] at p
      exact p F' ρ' H' x' (q.up x' r')
  | bad => exact p
theorem post_call {W : WX} {n : Nat} {g : Fn} {ds : List D} {vs : List V} {Q : VK} (r : Rel w F ρ σ H ⟨vars, so⟩) (q : VRs w.K F ρ ds vs) (p : Post w F ρ σ vars (qV w) W (if ds.length = n then gcR so.length (g ds so) else .bad) Q) : spG w n g vs H Q (WE W σ) := by
  by_cases hn : ds.length = n
  · rw [if_pos hn] at p
    exact ⟨F, ρ, so, ds, r.s, q, hn, post_gc r p⟩
  · rw [if_neg hn] at p
    exact p.elim
theorem se_call {k n : Nat} {f : Addr} {g : Fn} {x : PySem.Str} {p pos : Pos} {e : Expr} {es : List Expr} {fa : M (List D)} (c : Cok w X) (G : DefAt w X k n f g) (hr : Room k X.A) (hg : Gl X x) (hm : X.mg x = some (.ref f)) (ha : SA w X (e :: es) fa)
    (hdb : (x == ("__debug__" : PySem.Str)) = false := by decide) (he : starEach (e :: es) X.env = (false, eval e X.env) :: starEach es X.env := by rfl) (hpl : (backTo pos (starEach es X.env)).any (·.1) = false := by rfl) :
    SE w X (.Call (.Name x p) (e :: es) [] pos) (eCall n g fa) := fun W tk => by
  obtain ⟨⟨fd, ps, G1, hl, hb⟩, hk⟩ := G
  rw [← c.K] at G1 hk hb
  refine PE.imp (pe_callS G1 hr hg hm hk hb (fun σ => passAt tk σ) (ha W tk) hdb he hpl) fun σ H Q ⟨F, ρ, st, r, p⟩ => ⟨F, ρ, st, r, post_bnd p fun ds vs F1 ρ1 H1 so1 x1 r1 q1 p1 => ?_⟩
  exact post_call r1 q1 p1
theorem pe_callS0 {CX : CXT} {k : Nat} {f : Addr} {fd : FuncData} {ps : List PySem.Str} {sp : Sp} {E : L2.St → XK} {x : PySem.Str} {p pos : Pos} (F : FnOk X.prog X.w X.K X.mg X.base CX k f fd ps sp) (hr : Room k X.A) (hg : Gl X x) (hm : X.mg x = some (.ref f)) (hk : PySem.W.keepIn X.K (.ref f) = true) (hb : L2.Binds X.K fd ps []) (hx : ∀ σ, PassesAt CX X σ (E σ))
    (hdb : (x == ("__debug__" : PySem.Str)) = false := by decide) : PE X (.Call (.Name x p) [] [] pos) (tCallS sp E tNil) := by
  refine ⟨fun pins s σ H Q I h => ?_⟩
  refine wpAny_Call_Name_kw (ld_glob I hg hm ?_ hdb)
  exact PySem.W.callWith_K0 I.kIn hk (run_fnS (us := []) F hr hb (hx σ) I .nil h)
theorem se_call0 {k n : Nat} {f : Addr} {g : Fn} {x : PySem.Str} {p pos : Pos} (c : Cok w X) (G : DefAt w X k n f g) (hr : Room k X.A) (hg : Gl X x) (hm : X.mg x = some (.ref f)) (hdb : (x == ("__debug__" : PySem.Str)) = false := by decide) :
    SE w X (.Call (.Name x p) [] [] pos) (eCall n g eNil) := fun W tk => by
  obtain ⟨⟨fd, ps, G1, hl, hb⟩, hk⟩ := G
  rw [← c.K] at G1 hk hb
  refine PE.imp (pe_callS0 G1 hr hg hm hk hb (fun σ => passAt tk σ) hdb) fun σ H Q ⟨F, ρ, st, r, p⟩ => ?_
  have p2 : Post w F ρ σ st.vars (qV w) W (if ([] : List D).length = n then gcR st.so.length (g [] st.so) else .bad) Q := p
  exact post_call r .nil p2
/-- o.m(..), o an instance of the class c -/
def isCls (so : List SO) (c : Nat) (m : PySem.Str) (x : D) : Bool := match insOf so x with
  | some (_, c', fs) => decide (c' = c) && (fs.lookup m).isNone
  | none => false
def eMeth (c n : Nat) (m : PySem.Str) (g : Fn) (fo : M D) (fa : M (List D)) : M D := bnd fo fun x => fun st => if isCls st.so c m x = true then bnd fa (fun ds st => if (x :: ds).length = n then gcR st.so.length (g (x :: ds) st.so) else .bad) st else .bad
theorem isCls_of {c : Nat} {m : PySem.Str} (r : RelS w F ρ H so) {d : D} {v : V} (h : VR w.K F ρ d v) (e : isCls so c m d = true) : ∃ a dx vs, v = .ref a ∧ H a = some (.ins (w.cls c) dx vs) ∧ vs.lookup m = none := by
  unfold isCls at e
  cases q : insOf so d with
  | none => rw [q] at e; cases e
  | some z =>
    obtain ⟨k, c', fs⟩ := z
    rw [q] at e
    simp only [Bool.and_eq_true, decide_eq_true_eq, Option.isNone_iff_eq_none] at e
    obtain ⟨rfl, e2⟩ := e
    obtain ⟨a, dx, vs, h1, _, _, h4, h5, _⟩ := ins_of r h q
    exact ⟨a, dx, vs, h1, h4, lookup_none h5 e2⟩
def tMethS (C : Addr) (m : PySem.Str) (sp : Sp) (E : L2.St → XK) (ta : TE) (t : TA) : TE := fun σ H Q => ta σ H fun x H1 => ∃ a dx fs, x = .ref a ∧ H1 a = some (.ins C dx fs) ∧ fs.lookup m = none ∧ t σ H1 fun vs H2 => sp (x :: vs) H2 Q (E σ)
theorem pe_methE {CX : CXT} {k : Nat} {f C : Addr} {fd : FuncData} {ps : List PySem.Str} {sp : Sp} {E : L2.St → XK} {m : PySem.Str} {pos apos : Pos} {o : Expr} {es : List Expr} {ta : TE} {t : TA} {pl : Sem Bool} (he : PE X o ta) (c : Cls X.K C) (hm : Meth X.K C m f) (F : FnOk X.prog X.w X.K X.mg X.base CX k f fd ps sp) (hr : Room k X.A) (hb : L2.Binds X.K fd ps []) (hx : ∀ σ, PassesAt CX X σ (E σ)) (ha : PA X es t)
    (hst : (∃ e es', es = e :: es' ∧ starEach (e :: es') X.env = (false, eval e X.env) :: starEach es' X.env ∧ (backTo pos (starEach es' X.env)).any (·.1) = false) ∨ (es = [] ∧ ∀ (s : Shared) (σ : L2.St) (H : Hp) (Q : List V → Hp → Prop), t σ H Q → Q [] H))
    (ht : eval (.Call (.Attribute o m apos) es [] pos) X.env = (do
      let ov ← eval o X.env
      standAt apos.atName
      let (f, first) ← holding [ov] (getMethod ov m pl)
      callWith pos f first (backTo pos (starEach es X.env)) (backToKw pos (keywordEach [] X.env)))) :
    PE X (.Call (.Attribute o m apos) es [] pos) (tMethS C m sp E ta t) := by
  refine ⟨fun pins s σ H Q I h => ?_⟩
  refine PySem.W.methodCall_KW (pl := pl) (thn (he.run pins s σ H _ I h) fun u s1 ⟨x, H1, I1, rx, a, dx, fs, ex, ea, l, q⟩ => ?_) ht
  subst ex
  obtain rfl : u = Value.ref a := rx
  refine getmeth_ok I1 ea c hm l ?_
  rcases hst with ⟨e, es', rfl, h1, h2⟩ | ⟨rfl, h1⟩
  · refine PySem.W.callWith_K (first := [.ref a]) (h₀ := X.base) I.ok.mod.kin hm.kp (thn (ha.run pos pins s1 σ H1 _ I1 q) fun us s2 ⟨vs, H2, I2, r, q2⟩ => ⟨I2.kIn, ?_⟩) h1 h2
    exact run_fnS (us := .ref a :: us) (vs := .ref a :: vs) F hr hb (hx σ) I2 (.cons rfl r) q2
  · exact PySem.W.callWith_K0 (first := [.ref a]) I1.kIn hm.kp (run_fnS (us := [.ref a]) (vs := [.ref a]) F hr hb (hx σ) I1 (.cons rfl .nil) (h1 s1 σ H1 _ q))
/-- the class c has the method m, the def at f -/
structure MethOk (w : Wd) (c : Nat) (m : PySem.Str) (f : Addr) : Prop where
  cl : Cls w.K (w.cls c)
  me : Meth w.K (w.cls c) m f
theorem se_meth {k n cn : Nat} {f : Addr} {g : Fn} {m : PySem.Str} {apos pos : Pos} {o e : Expr} {es : List Expr} {fo : M D} {fa : M (List D)} {pl : Sem Bool} (c : Cok w X) (mo : MethOk w cn m f) (G : DefAt w X k n f g) (hr : Room k X.A) (ho : SE w X o fo) (ha : SA w X (e :: es) fa)
    (hst : starEach (e :: es) X.env = (false, eval e X.env) :: starEach es X.env := by rfl) (hpl : (backTo pos (starEach es X.env)).any (·.1) = false := by rfl)
    (ht : eval (.Call (.Attribute o m apos) (e :: es) [] pos) X.env = (do
      let ov ← eval o X.env
      standAt apos.atName
      let (f, first) ← holding [ov] (getMethod ov m pl)
      callWith pos f first (backTo pos (starEach (e :: es) X.env)) (backToKw pos (keywordEach [] X.env))) := by rfl) :
    SE w X (.Call (.Attribute o m apos) (e :: es) [] pos) (eMeth cn n m g fo fa) := fun W tk => by
  obtain ⟨⟨fd, ps, G1, hl, hb⟩, hk⟩ := G
  rw [← c.K] at G1 hb
  have h1 := mo.cl
  have h2 := mo.me
  rw [← c.K] at h1 h2
  refine PE.imp (pe_methE (ho W tk) h1 h2 G1 hr hb (fun σ => passAt tk σ) (ha W tk) (.inl ⟨e, es, rfl, hst, hpl⟩) ht) fun σ H Q ⟨F, ρ, st, r, p⟩ => ⟨F, ρ, st, r, post_bnd p fun x v F1 ρ1 H1 so1 x1 r1 q1 p1 => ?_⟩
  dsimp only at p1
  by_cases e0 : isCls so1 cn m x = true
  · rw [if_pos e0] at p1
    obtain ⟨a, dx, vs, rfl, h4, h5⟩ := isCls_of r1.s q1 e0
    refine ⟨a, dx, vs, rfl, h4, h5, F1, ρ1, ⟨st.vars, so1⟩, r1, post_bnd p1 fun ds us F2 ρ2 H2 so2 x2 r2 q2 p2 => ?_⟩
    exact post_call r2 (.cons (x2.vr q1) q2) p2
  · rw [if_neg e0] at p1; exact p1.elim
theorem se_meth0 {k n cn : Nat} {f : Addr} {g : Fn} {m : PySem.Str} {apos pos : Pos} {o : Expr} {fo : M D} {pl : Sem Bool} (c : Cok w X) (mo : MethOk w cn m f) (G : DefAt w X k n f g) (hr : Room k X.A) (ho : SE w X o fo)
    (ht : eval (.Call (.Attribute o m apos) [] [] pos) X.env = (do
      let ov ← eval o X.env
      standAt apos.atName
      let (f, first) ← holding [ov] (getMethod ov m pl)
      callWith pos f first (backTo pos (starEach [] X.env)) (backToKw pos (keywordEach [] X.env))) := by rfl) :
    SE w X (.Call (.Attribute o m apos) [] [] pos) (eMeth cn n m g fo eNil) := fun W tk => by
  obtain ⟨⟨fd, ps, G1, hl, hb⟩, hk⟩ := G
  rw [← c.K] at G1 hb
  have h1 := mo.cl
  have h2 := mo.me
  rw [← c.K] at h1 h2
  refine PE.imp (pe_methE (ho W tk) h1 h2 G1 hr hb (fun σ => passAt tk σ) pa_nil (.inr ⟨rfl, fun _ _ _ _ z => z⟩) ht) fun σ H Q ⟨F, ρ, st, r, p⟩ => ⟨F, ρ, st, r, post_bnd p fun x v F1 ρ1 H1 so1 x1 r1 q1 p1 => ?_⟩
  dsimp only at p1
  by_cases e0 : isCls so1 cn m x = true
  · rw [if_pos e0] at p1
    obtain ⟨a, dx, vs, rfl, h4, h5⟩ := isCls_of r1.s q1 e0
    have p2 : Post w F1 ρ1 σ st.vars (qV w) W (if ([x] : List D).length = n then gcR so1.length (g [x] so1) else .bad) Q := p1
    exact ⟨a, dx, vs, rfl, h4, h5, post_call r1 (.cons q1 .nil) p2⟩
  · rw [if_neg e0] at p1; exact p1.elim
/-- C(..): a new instance of the class c, then its __init__ -/
def mkR (n0 : Nat) (r : R D) : R D := match r with
  | .ok .none so' => .ok (rf n0) so'
  | .ok _ _ => .bad
  | .exc k so' => .exc k so'
  | .bad => .bad
def kMake (c n : Nat) (g : Fn) (ds : List D) : M D := fun st => if (rf st.so.length :: ds).length = n then gcR st.so.length (mkR st.so.length (g (rf st.so.length :: ds) (st.so ++ [.ins c []]))) else .bad
def eMake (c n : Nat) (g : Fn) (f : M (List D)) : M D := bnd f (kMake c n g)
theorem run_makeS {CX : CXT} {k : Nat} {f C : Addr} {fd : FuncData} {ps : List PySem.Str} {sp : Sp} {E : XK} {pins : List (Addr × Obj)} {s : Shared} {Q : VK} {us : List Value} {vs : List V} (M : Mk X.K C f) (F : FnOk X.prog X.w X.K X.mg X.base CX k f fd ps sp) (hr : Room (k + 1) X.A) (hb : L2.Binds X.K fd ps [])
    (hx : PassesAt CX X σ E) (I : Inv X pins σ H s) (r : Vals vs us)
    (h : ∀ x dx, H x = none → H dx = none → dx ≠ x → sp (.ref x :: vs) (upd (upd H dx (.own x)) x (.ins C dx [])) (fun v H2 => v = .non ∧ Q (.ref x) H2) E) :
    wpAny (model X.prog X.w) X.A (call (.ref C) us) (EP X pins σ Q) X.xe s := by
  have hq := h (s.heap.objs.size + 1) s.heap.objs.size (I.hok.fresh (Nat.le_succ _)) (I.hok.fresh (Nat.le_refl _)) (Nat.ne_of_lt (Nat.lt_succ_self _))
  have I2 := Inv.made (C := C) I
  have r2 : Vals (V.ref (s.heap.objs.size + 1) :: vs) (Value.ref (s.heap.objs.size + 1) :: us) := .cons rfl r
  have hl : (Value.ref (s.heap.objs.size + 1) :: us).length = ps.length := by
    have e := r2.length
    rw [F.len _ _ _ _ hq] at e
    exact e.symm
  have hbb := hb { s with heap := _ } (Value.ref (s.heap.objs.size + 1) :: us) I2.kIn (by rw [List.append_nil]; exact hl)
  rw [List.append_nil] at hbb
  refine wpAny_call (make_map (f := f) I.kIn M.makes M.init (beq_iff_eq.mp M.fn) (codeAny_mono (F.run _ X.stack _ _ ⟨Value.ref (s.heap.objs.size + 1) :: us, []⟩ (Value.ref (s.heap.objs.size + 1) :: us) _ _ E (hr.make C us [])
    (I2.env0.make C us []) hbb r2 hq) fun r s' hq' => ?_))
  cases r with
  | error e => exact hx pins _ _ e s' I2 hq'
  | ok fl =>
    cases fl with
    | ret u =>
      obtain ⟨v, H', I3, rv, ev, q3⟩ := I2.after hq'
      subst ev
      exact ⟨rv, ⟨V.ref (s.heap.objs.size + 1), H', I3, rfl, q3⟩⟩
    | next => exact False.elim hq'
    | brk => exact False.elim hq'
    | cont => exact False.elim hq'
def tMakeS (C : Addr) (sp : Sp) (E : L2.St → XK) (t : TA) : TE := fun σ H Q => t σ H fun vs H1 => ∀ x dx, H1 x = none → H1 dx = none → dx ≠ x → sp (.ref x :: vs) (upd (upd H1 dx (.own x)) x (.ins C dx [])) (fun v H2 => v = .non ∧ Q (.ref x) H2) (E σ)
theorem pe_makeS {CX : CXT} {k : Nat} {f C : Addr} {fd : FuncData} {ps : List PySem.Str} {sp : Sp} {E : L2.St → XK} {x : PySem.Str} {p pos : Pos} {e : Expr} {es : List Expr} {t : TA} (M : Mk X.K C f) (F : FnOk X.prog X.w X.K X.mg X.base CX k f fd ps sp) (hr : Room (k + 1) X.A) (hg : Gl X x) (hm : X.mg x = some (.ref C)) (hb : L2.Binds X.K fd ps []) (hx : ∀ σ, PassesAt CX X σ (E σ))
    (ha : PA X (e :: es) t) (hdb : (x == ("__debug__" : PySem.Str)) = false := by decide) (he : starEach (e :: es) X.env = (false, eval e X.env) :: starEach es X.env := by rfl) (hpl : (backTo pos (starEach es X.env)).any (·.1) = false := by rfl) :
    PE X (.Call (.Name x p) (e :: es) [] pos) (tMakeS C sp E t) := by
  refine ⟨fun pins s σ H Q I h => ?_⟩
  refine wpAny_Call_Name_kw (ld_glob I hg hm ?_ hdb)
  refine PySem.W.callWith_K (h₀ := X.base) I.ok.mod.kin M.kp (thn (ha.run pos pins s σ H _ I h) fun us s1 ⟨vs, H1, I1, r, q⟩ => ⟨I1.kIn, ?_⟩) he hpl
  exact run_makeS M F hr hb (hx σ) I1 r q
theorem pe_makeS0 {CX : CXT} {k : Nat} {f C : Addr} {fd : FuncData} {ps : List PySem.Str} {sp : Sp} {E : L2.St → XK} {x : PySem.Str} {p pos : Pos} (M : Mk X.K C f) (F : FnOk X.prog X.w X.K X.mg X.base CX k f fd ps sp) (hr : Room (k + 1) X.A) (hg : Gl X x) (hm : X.mg x = some (.ref C)) (hb : L2.Binds X.K fd ps []) (hx : ∀ σ, PassesAt CX X σ (E σ))
    (hdb : (x == ("__debug__" : PySem.Str)) = false := by decide) : PE X (.Call (.Name x p) [] [] pos) (tMakeS C sp E tNil) := by
  refine ⟨fun pins s σ H Q I h => ?_⟩
  refine wpAny_Call_Name_kw (ld_glob I hg hm ?_ hdb)
  exact PySem.W.callWith_K0 I.kIn M.kp (run_makeS (us := []) M F hr hb (hx σ) I .nil h)
theorem make_sp {c n : Nat} {g : Fn} {W : WX} {ds : List D} {vs : List V} {Q : VK} (r : Rel w F ρ σ H ⟨vars, so⟩) (q : VRs w.K F ρ ds vs) (p : Post w F ρ σ vars (qV w) W (kMake c n g ds ⟨vars, so⟩) Q) :
    ∀ x dx, H x = none → H dx = none → dx ≠ x → spG w n g (.ref x :: vs) (upd (upd H dx (.own x)) x (.ins (w.cls c) dx [])) (fun v H2 => v = .non ∧ Q (.ref x) H2) (WE W σ) := by
  intro x dx hx hdx hne
  unfold kMake at p
  dsimp only at p
  by_cases hn : (rf so.length :: ds).length = n
  · rw [if_pos hn] at p
    obtain ⟨r1, x1⟩ := r.s.frozen (o := .own x) hdx
    have hx1 : (upd H dx (.own x)) x = none := by rw [upd_ne (Ne.symm hne)]; exact hx
    obtain ⟨r2, x2⟩ := r1.live (u := .ins (w.cls c) dx []) (o := .ins c []) hx1 ⟨dx, [], upd_same, .nil⟩
    have x12 := x1.trans x2
    have hr0 : VR w.K (upd F dx (.own x)) (ρ ++ [x]) (rf so.length) (.ref x) := ref_new r1
    refine ⟨_, _, _, _, r2, .cons hr0 (x12.vrs q), hn, ?_⟩
    have p2 := post_gc r p
    unfold PostC at p2 ⊢
    cases e : g (rf so.length :: ds) (so ++ [.ins c []]) with
    | ok d so' =>
      rw [e] at p2
      intro v F' ρ' H' x' r' q'
      cases q' with
      | non => exact ⟨rfl, p2 (.ref x) F' ρ' H' (x12.trans x') r' (x'.vr hr0)⟩
      | _ => exact p2.elim
    | exc k so' => rw [e] at p2; exact fun F' ρ' H' x' r' => p2 F' ρ' H' (x12.trans x') r'
    | bad => rw [e] at p2; exact p2
  · rw [if_neg hn] at p
    exact p.elim
/-- the class c, by the name x, is made by the __init__ at f -/
structure MkOk (w : Wd) (c : Nat) (f : Addr) : Prop where
  ok : Mk w.K (w.cls c) f
theorem se_make {k n cn : Nat} {f : Addr} {g : Fn} {x : PySem.Str} {p pos : Pos} {e : Expr} {es : List Expr} {fa : M (List D)} (c : Cok w X) (mo : MkOk w cn f) (G : DefAt w X k n f g) (hr : Room (k + 1) X.A) (hg : Gl X x) (hm : X.mg x = some (.ref (w.cls cn))) (ha : SA w X (e :: es) fa)
    (hdb : (x == ("__debug__" : PySem.Str)) = false := by decide) (he : starEach (e :: es) X.env = (false, eval e X.env) :: starEach es X.env := by rfl) (hpl : (backTo pos (starEach es X.env)).any (·.1) = false := by rfl) :
    SE w X (.Call (.Name x p) (e :: es) [] pos) (eMake cn n g fa) := fun W tk => by
  obtain ⟨⟨fd, ps, G1, hl, hb⟩, hk⟩ := G
  rw [← c.K] at G1 hb
  have h1 := mo.ok
  rw [← c.K] at h1
  exact PE.imp (pe_makeS h1 G1 hr hg hm hb (fun σ => passAt tk σ) (ha W tk) hdb he hpl) fun σ H Q ⟨F, ρ, st, r, p⟩ => ⟨F, ρ, st, r, post_bnd p fun ds vs F1 ρ1 H1 so1 x1 r1 q1 p1 => make_sp r1 q1 p1⟩
theorem se_make0 {k n cn : Nat} {f : Addr} {g : Fn} {x : PySem.Str} {p pos : Pos} (c : Cok w X) (mo : MkOk w cn f) (G : DefAt w X k n f g) (hr : Room (k + 1) X.A) (hg : Gl X x) (hm : X.mg x = some (.ref (w.cls cn)))
    (hdb : (x == ("__debug__" : PySem.Str)) = false := by decide) : SE w X (.Call (.Name x p) [] [] pos) (eMake cn n g eNil) := fun W tk => by
  obtain ⟨⟨fd, ps, G1, hl, hb⟩, hk⟩ := G
  rw [← c.K] at G1 hb
  have h1 := mo.ok
  rw [← c.K] at h1
  exact PE.imp (pe_makeS0 h1 G1 hr hg hm hb (fun σ => passAt tk σ) hdb) fun σ H Q ⟨F, ρ, st, r, p⟩ => make_sp r .nil p
end
end EV
end
section
set_option Elab.async false
set_option linter.all false
set_option maxRecDepth 100000
set_option maxHeartbeats 4000000
namespace EV
open PySem L2
section
variable {w : Wd} {X : Cx} {F F' : Hp} {ρ ρ' : List Addr} {σ : L2.St} {H H' : Hp} {st : St} {so so' : List SO} {vars : List (Option D)}

/-! ### statements -/
inductive Fl where
  | nx
  | ret (d : D)
  | bk
  | ct
inductive RS where
  | ok (f : Fl) (st : St)
  | exc (c : Nat) (st : St)
  | bad
abbrev MS := St → RS
def PostS (w : Wd) (F : Hp) (ρ : List Addr) (W : WX) (r : RS) (D : Ends) : Prop :=
  match r with
  | .ok .nx st => ∀ σ F' ρ' H', Ext F ρ F' ρ' → Rel w F' ρ' σ H' st → D.nx σ H'
  | .ok (.ret d) st => ∀ v σ F' ρ' H', Ext F ρ F' ρ' → Rel w F' ρ' σ H' st → VR w.K F' ρ' d v → D.rt v H'
  | .ok .bk st => ∀ σ F' ρ' H', Ext F ρ F' ρ' → Rel w F' ρ' σ H' st → D.bk σ H'
  | .ok .ct st => ∀ σ F' ρ' H', Ext F ρ F' ρ' → Rel w F' ρ' σ H' st → D.ct σ H'
  | .exc c st => ∀ σ F' ρ' H', Ext F ρ F' ρ' → Rel w F' ρ' σ H' st → W (.ref (w.cls c)) none σ H'
  | .bad => False
theorem PostS.up {W : WX} {r : RS} {D : Ends} (x : Ext F ρ F' ρ') (p : PostS w F ρ W r D) : PostS w F' ρ' W r D := by
  unfold PostS at p ⊢
  cases r with
  | ok f st =>
    cases f with
    | nx => exact fun σ F2 ρ2 H2 x2 r2 => p σ F2 ρ2 H2 (x.trans x2) r2
    | ret d => exact fun v σ F2 ρ2 H2 x2 r2 q2 => p v σ F2 ρ2 H2 (x.trans x2) r2 q2
    | bk => exact fun σ F2 ρ2 H2 x2 r2 => p σ F2 ρ2 H2 (x.trans x2) r2
    | ct => exact fun σ F2 ρ2 H2 x2 r2 => p σ F2 ρ2 H2 (x.trans x2) r2
  | exc c st => exact fun σ F2 ρ2 H2 x2 r2 => p σ F2 ρ2 H2 (x.trans x2) r2
  | bad => exact p
def trS (w : Wd) (W : WX) (f : MS) : TS := fun D σ H => ∃ F ρ st, Rel w F ρ σ H st ∧ PostS w F ρ W (f st) D
def SS (w : Wd) (X : Cx) (s : Stmt) (f : MS) : Prop := ∀ W, Takes X W → PS X s (trS w W f)
def SSs (w : Wd) (X : Cx) (s : List Stmt) (f : MS) : Prop := ∀ W, Takes X W → PSs X s (trS w W f)
theorem PS.imp {s : Stmt} {t t' : TS} (h : PS X s t) (k : ∀ D σ H, t' D σ H → t D σ H) : PS X s t' := ⟨fun pins s σ H D I q => h.run pins s σ H D I (k D σ H q)⟩
theorem PSs.imp {s : List Stmt} {t t' : TS} (h : PSs X s t) (k : ∀ D σ H, t' D σ H → t D σ H) : PSs X s t' := ⟨fun pins s σ H D I q => h.run pins s σ H D I (k D σ H q)⟩

def sNext : MS := fun st => .ok .nx st
def sSeq (f g : MS) : MS := fun st => match f st with
  | .ok .nx st1 => g st1
  | r => r
theorem ss_nil : SSs w X [] sNext := fun W tk => PSs.imp pss_nil fun D σ H ⟨F, ρ, st, r, p⟩ => p σ F ρ H (Ext.refl _ _) r
theorem ss_one {s : Stmt} {f : MS} (h : SS w X s f) : SSs w X [s] f := fun W tk => pss_one (h W tk)
theorem ss_cons {s : Stmt} {rest : List Stmt} {f g : MS} (h : SS w X s f) (k : SSs w X rest g) : SSs w X (s :: rest) (sSeq f g) := fun W tk =>
  PSs.imp (pss_cons (h W tk) (k W tk)) fun D σ H ⟨F, ρ, st, r, p⟩ => ⟨F, ρ, st, r, by
    unfold sSeq at p
    cases e : f st with
    | ok fl st1 =>
      rw [e] at p
      cases fl with
      | nx => exact fun σ' F' ρ' H' x' r' => ⟨F', ρ', st1, r', p.up x'⟩
      | ret d => exact p
      | bk => exact p
      | ct => exact p
    | exc c st1 => rw [e] at p; exact p
    | bad => rw [e] at p; exact p⟩
theorem ss_pass {pos : Pos} : SS w X (.Pass pos) sNext := fun W tk => PS.imp ps_pass fun D σ H ⟨F, ρ, st, r, p⟩ => p σ F ρ H (Ext.refl _ _) r
def sBreak : MS := fun st => .ok .bk st
def sCont : MS := fun st => .ok .ct st
theorem ss_break {pos : Pos} : SS w X (.Break pos) sBreak := fun W tk => PS.imp ps_break fun D σ H ⟨F, ρ, st, r, p⟩ => p σ F ρ H (Ext.refl _ _) r
theorem ss_continue {pos : Pos} : SS w X (.Continue pos) sCont := fun W tk => PS.imp ps_continue fun D σ H ⟨F, ρ, st, r, p⟩ => p σ F ρ H (Ext.refl _ _) r
/-- a computation, then a statement -/
def bndS {α : Type} (f : M α) (g : α → MS) : MS := fun st => match f st with
  | .ok a so => g a ⟨st.vars, so⟩
  | .exc c so => .exc c ⟨st.vars, so⟩
  | .bad => .bad
theorem post_bndS {α γ : Type} {W : WX} {f : M α} {g : α → MS} {Vq : Hp → List Addr → α → γ → Prop} {D : Ends} {Q' : γ → Hp → Prop} (r0 : Rel w F ρ σ H st)
    (h : PostS w F ρ W (bndS f g st) D) (k : ∀ a v F' ρ' H' so, Ext F ρ F' ρ' → Rel w F' ρ' σ H' ⟨st.vars, so⟩ → Vq F' ρ' a v → PostS w F' ρ' W (g a ⟨st.vars, so⟩) D → Q' v H') : Post w F ρ σ st.vars Vq W (f st) Q' := by
  unfold bndS at h
  cases e : f st with
  | ok a so =>
    rw [e] at h
    exact fun v F' ρ' H' x r q => k a v F' ρ' H' so x r q (h.up x)
  | exc c so =>
    rw [e] at h
    exact fun F' ρ' H' x r => h σ F' ρ' H' x r
  | bad =>
    rw [e] at h
    exact h
def sRet (f : M D) : MS := bndS f fun d st => .ok (.ret d) st
theorem ss_ret {e : Expr} {pos : Pos} {f : M D} (h : SE w X e f) : SS w X (.Return (some e) pos) (sRet f) := fun W tk =>
  PS.imp (ps_ret (h W tk)) fun D σ H ⟨F, ρ, st, r, p⟩ => ⟨F, ρ, st, r, post_bndS r p fun d v F' ρ' H' so x r' q p' => p' v σ F' ρ' H' (Ext.refl _ _) r' q⟩
def sRetN : MS := fun st => .ok (.ret .none) st
theorem ss_retN {pos : Pos} : SS w X (.Return none pos) sRetN := fun W tk => PS.imp ps_retN fun D σ H ⟨F, ρ, st, r, p⟩ => p .non σ F ρ H (Ext.refl _ _) r .non
def sExpr (f : M D) : MS := bndS f fun _ st => .ok .nx st
theorem ss_expr {e : Expr} {pos : Pos} {f : M D} (h : SE w X e f) (hp : ∀ {te : TE}, PE X e te → PS X (.Expr e pos) (tDrop te) := by intro _ h; exact ps_expr h) : SS w X (.Expr e pos) (sExpr f) := fun W tk =>
  PS.imp (hp (h W tk)) fun D σ H ⟨F, ρ, st, r, p⟩ => ⟨F, ρ, st, r, post_bndS r p fun d v F' ρ' H' so x r' q p' => p' σ F' ρ' H' (Ext.refl _ _) r'⟩
def sIf (c : M Bool) (f g : MS) : MS := bndS c fun b => if b = true then f else g
theorem ss_if {c : Expr} {a b : List Stmt} {pos : Pos} {fc : M Bool} {f g : MS} (hc : SB w X c fc) (ha : SSs w X a f) (hb : SSs w X b g) : SS w X (.If c a b pos) (sIf fc f g) := fun W tk =>
  PS.imp (ps_if (hc W tk) (ha W tk) (hb W tk)) fun D σ H ⟨F, ρ, st, r, p⟩ => ⟨F, ρ, st, r, post_bndS r p fun d v F' ρ' H' so x r' q p' => by
    cases q
    cases d with
    | true => exact ⟨F', ρ', _, r', p'⟩
    | false => exact ⟨F', ρ', _, r', p'⟩⟩

/-! ### what is assigned to -/
/-- a target: what it does with the datum -/
inductive RT where
  | ok (st : St)
  | exc (c : Nat) (st : St)
  | bad
abbrev MT := D → St → RT
def trG (w : Wd) (W : WX) (T : List Nat) (f : MT) : TG := fun v σ H Q => ∃ F ρ st d, Rel w F ρ σ H st ∧ VR w.K F ρ d v ∧ (match f d st with
  | .ok st' => ∀ σ' F' ρ' H', Ext F ρ F' ρ' → Rel w F' ρ' σ' H' st' → (∀ vs : List Nat, (∀ i ∈ T, i ∈ vs) → wipe σ' vs = wipe σ vs) → Q σ' H'
  | .exc c st' => ∀ σ' F' ρ' H', Ext F ρ F' ρ' → Rel w F' ρ' σ' H' st' → W (.ref (w.cls c)) none σ' H'
  | .bad => False)
/-- T: the slots that are stored -/
def SG (w : Wd) (X : Cx) (tg : Expr) (T : List Nat) (f : MT) : Prop := ∀ W, Takes X W → PG X tg (trG w W T f)
theorem PG.imp {tg : Expr} {t t' : TG} (h : PG X tg t) (k : ∀ v σ H Q, t' v σ H Q → t v σ H Q) : PG X tg t' := ⟨fun pins s σ H v u Q I r q => h.run pins s σ H v u Q I r (k v σ H Q q)⟩
theorem wipe_get {σ : L2.St} : ∀ {vs : List Nat} {j : Nat}, (wipe σ vs)[j]? = if j ∈ vs then (if j < σ.length then some none else none) else σ[j]?
  | [], j => by simp [wipe]
  | v :: vs, j => by
    unfold wipe
    by_cases h : v = j
    · subst h
      rw [List.getElem?_set]
      simp only [if_true, wipe_length, List.mem_cons, true_or]
    · rw [List.getElem?_set_ne h, wipe_get]
      have : (j ∈ v :: vs) ↔ j ∈ vs := by simp [Ne.symm h]
      simp only [this]
theorem wipe_set {σ : L2.St} {i : Nat} {o : Option V} {vs : List Nat} (h : i ∈ vs) : wipe (σ.set i o) vs = wipe σ vs := by
  apply List.ext_getElem?
  intro j
  rw [wipe_get, wipe_get]
  by_cases hj : j ∈ vs
  · simp [hj]
  · simp only [hj, if_false]
    exact List.getElem?_set_ne (fun z => hj (by rw [← z]; exact h))
theorem wipe_wipe {σ : L2.St} {vs : List Nat} : wipe (wipe σ vs) vs = wipe σ vs := by
  apply List.ext_getElem?
  intro j
  rw [wipe_get, wipe_get, wipe_length]
  by_cases hj : j ∈ vs
  · simp [hj]
  · simp only [hj, if_false]
theorem Rel.set {d : D} {v : V} {i : Nat} (r : Rel w F ρ σ H st) (q : VR w.K F ρ d v) : Rel w F ρ (σ.set i (some v)) H ⟨st.vars.set i (some d), st.so⟩ := by
  refine ⟨r.s, by rw [List.length_set, List.length_set]; exact r.len, fun j e h => ?_⟩
  by_cases hj : i = j
  · subst hj
    by_cases hl : i < st.vars.length
    · rw [List.getElem?_set_self hl] at h
      cases h
      exact ⟨v, by rw [List.getElem?_set_self (by rw [← r.len]; exact hl)], q⟩
    · rw [List.getElem?_eq_none (by rw [List.length_set]; omega)] at h
      cases h
  · rw [List.getElem?_set_ne hj] at h
    rw [List.getElem?_set_ne hj]
    exact r.var j e h
def tName (i : Nat) : MT := fun d st => .ok ⟨st.vars.set i (some d), st.so⟩
theorem sg_name {i : Nat} {x : PySem.Str} {pos : Pos} (c : Cok w X) (hi : X.N[i]? = some x) (hx : Loc X.env.scope x) (hf : X.fn x = true ∨ X.env.scope.names.lookup x = some .local := by first | exact .inl rfl | exact .inr rfl | assumption) : SG w X (.Name x pos) [i] (tName i) := fun W tk =>
  PG.imp (pg_name c.nd hi hx hf) fun v σ H Q ⟨F, ρ, st, d, r, q, p⟩ => p _ F ρ H (Ext.refl _ _) (r.set q) fun vs h => wipe_set (h i (by simp))
/-- several targets -/
abbrev MTs := List D → St → RT
def trGs (w : Wd) (W : WX) (T : List Nat) (f : MTs) : TGs := fun v σ H Q => ∃ F ρ st d, Rel w F ρ σ H st ∧ VRs w.K F ρ d v ∧ (match f d st with
  | .ok st' => ∀ σ' F' ρ' H', Ext F ρ F' ρ' → Rel w F' ρ' σ' H' st' → (∀ vs : List Nat, (∀ i ∈ T, i ∈ vs) → wipe σ' vs = wipe σ vs) → Q σ' H'
  | .exc c st' => ∀ σ' F' ρ' H', Ext F ρ F' ρ' → Rel w F' ρ' σ' H' st' → W (.ref (w.cls c)) none σ' H'
  | .bad => False)
def SGs (w : Wd) (X : Cx) (tg : List Expr) (T : List Nat) (f : MTs) : Prop := ∀ W, Takes X W → PGs X tg (trGs w W T f)
theorem PGs.imp {tg : List Expr} {t t' : TGs} (h : PGs X tg t) (k : ∀ v σ H Q, t' v σ H Q → t v σ H Q) : PGs X tg t' := ⟨fun pins s σ H v u Q I r q => h.run pins s σ H v u Q I r (k v σ H Q q)⟩
def tNil : MTs := fun ds st => match ds with
  | [] => .ok st
  | _ => .bad
def tCons (f : MT) (g : MTs) : MTs := fun ds st => match ds with
  | d :: ds => (match f d st with
    | .ok st1 => g ds st1
    | .exc c st1 => .exc c st1
    | .bad => .bad)
  | [] => .bad
theorem sgs_nil : SGs w X [] [] tNil := fun W tk => PGs.imp pgs_nil fun v σ H Q ⟨F, ρ, st, d, r, q, p⟩ => by
  cases q with
  | nil => exact ⟨rfl, p σ F ρ H (Ext.refl _ _) r fun _ _ => rfl⟩
  | cons _ _ => exact p.elim
theorem sgs_cons {e : Expr} {es : List Expr} {T U : List Nat} {f : MT} {g : MTs} (h : SG w X e T f) (k : SGs w X es U g) (hs : (assignEach (e :: es) X.env).map (·.2) = assign e X.env :: (assignEach es X.env).map (·.2) := by rfl) : SGs w X (e :: es) (T ++ U) (tCons f g) := fun W tk =>
  PGs.imp (pgs_cons (h W tk) (k W tk) hs) fun v σ H Q ⟨F, ρ, st, d, r, q, p⟩ => by
    cases q with
    | nil => exact p.elim
    | @cons d v ds vs q1 q2 =>
      refine ⟨v, vs, rfl, F, ρ, st, d, r, q1, ?_⟩
      unfold tCons at p
      dsimp only at p
      cases e : f d st with
      | ok st1 =>
        rw [e] at p
        intro σ1 F1 ρ1 H1 x1 r1 w1
        refine ⟨F1, ρ1, st1, ds, r1, x1.vrs q2, ?_⟩
        dsimp only at p
        revert p
        cases g ds st1 with
        | ok st2 => exact fun p σ2 F2 ρ2 H2 x2 r2 w2 => p σ2 F2 ρ2 H2 (x1.trans x2) r2 fun vs hv => (w2 vs fun i hi => hv i (List.mem_append_right _ hi)).trans (w1 vs fun i hi => hv i (List.mem_append_left _ hi))
        | exc c st2 => exact fun p σ2 F2 ρ2 H2 x2 r2 => p σ2 F2 ρ2 H2 (x1.trans x2) r2
        | bad => exact fun p => p
      | exc c st1 => rw [e] at p; exact p
      | bad => rw [e] at p; exact p.elim
def tTup (n : Nat) (f : MTs) : MT := fun d st => match d with
  | .tuple ds => if ds.length = n then f ds st else .bad
  | _ => .bad
theorem sg_tup {es : List Expr} {k n : Nat} {pos : Pos} {T : List Nat} {f : MTs} (c : Cok w X) (h : SGs w X es T f) (hn : (assignEach es X.env).length = n := by rfl) (hst : (assignEach es X.env).findIdx? (·.1) = none := by rfl) : SG w X (.Tuple es k pos) T (tTup n f) := fun W tk =>
  PG.imp (pg_tup c.calm (h W tk) hn hst) fun v σ H Q ⟨F, ρ, st, d, r, q, p⟩ => by
    cases q with
    | tup q1 q2 =>
      unfold tTup at p
      dsimp only at p
      rename_i a vs ds _
      by_cases hl : ds.length = n
      · rw [if_pos hl] at p
        exact ⟨a, vs, rfl, by rw [c.K]; exact r.s.le.sqT q1, by rw [← q2.length]; exact hl, F, ρ, st, ds, r, q2, p⟩
      · rw [if_neg hl] at p; exact p.elim
    | _ => exact p.elim
/-- x[i] = d -/
def kSet (x y d : D) (so : List SO) : Option (List SO) := match x with
  | .dict [(.int n, .none)] => (match so[n.toNat]?, y with
    | some (.lst xs), .int i => (ixN xs.length i).map fun j => so.set n.toNat (.lst (xs.set j d))
    | some (.dct kvs), y => (match keyD y with
      | some k => if kvs.length < mx then some (so.set n.toNat (.dct (dPut kvs k d))) else none
      | none => none)
    | _, _ => none)
  | _ => none
def rSet (w : Wd) : TSet := fun o i v H Q => ∃ F ρ so x y d so', RelS w F ρ H so ∧ VR w.K F ρ x o ∧ VR w.K F ρ y i ∧ VR w.K F ρ d v ∧ kSet x y d so = some so' ∧ ∀ H', RelS w F ρ H' so' → Q H'
theorem ps_setAll (c : Cok w X) : PSet X (rSet w) := by
  intro pins s σ H o i v ov iv u Q I ro ri rv ⟨F, ρ, so, x, y, d, so', r, hx, hy, hd, hk, k⟩
  unfold kSet at hk
  split at hk
  · rename_i n
    split at hk
    · rename_i xs j e1
      cases e2 : ixN xs.length j with
      | none => rw [e2] at hk; cases hk
      | some q =>
        rw [e2] at hk
        cases hk
        cases hx with
        | ref hq =>
          simp only [Int.toNat_natCast] at e1 k
          obtain ⟨b, b1, b0, vs, b2, b3⟩ := r.obj _ _ e1
          rw [hq] at b1
          cases b1
          cases hy
          exact set_list pins s σ H _ _ v ov iv u Q I ro ri rv ⟨_, vs, j, q, rfl, rfl, b2, by rw [← b3.length]; exact e2, k _ (write_lst r hq b0 b2 (VRs.set hd q b3))⟩
    · rename_i kvs y' e1
      split at hk
      · rename_i key e2
        split at hk <;> cases hk
        rename_i hl
        cases hx with
        | ref hq =>
          simp only [Int.toNat_natCast] at e1 k
          obtain ⟨b, b1, b0, vs, b2, b3⟩ := r.obj _ _ e1
          rw [hq] at b1
          cases b1
          have hv := keyD_v hy e2
          subst hv
          cases ro
          refine d_setItem (by have := c.un; omega) I (DPut.k b2 (by rw [← b3.length]; exact Nat.lt_of_lt_of_le hl mx_le)) ri rv fun s' I' => ⟨_, I', k _ (write_dct r hq b0 b2 (b3.put hd key))⟩
      · cases hk
    · cases hk
  · cases hk
def bndT {α : Type} (f : M α) (g : α → St → RT) : St → RT := fun st => match f st with
  | .ok a so => g a ⟨st.vars, so⟩
  | .exc c so => .exc c ⟨st.vars, so⟩
  | .bad => .bad
def tSub (fo fi : M D) : MT := fun d => bndT fo fun x => bndT fi fun y => fun st => match kSet x y d st.so with
  | some so => .ok ⟨st.vars, so⟩
  | none => .bad
/-- a computation ahead of a target's end -/
theorem sg_sub {o i : Expr} {pos : Pos} {fo fi : M D} (c : Cok w X) (ho : SE w X o fo) (hi : SE w X i fi) (ha : ∀ v, assign (.Subscript o i pos) X.env v = (do
      let ov ← holding [v] (eval o X.env)
      let iv ← holding [v, ov] (eval i X.env)
      standAt pos
      holding [v, ov, iv] (setItem ov iv v)
      release [v, ov, iv] []) := by intro _; rfl) : SG w X (.Subscript o i pos) [] (tSub fo fi) := fun W tk =>
  PG.imp (pg_sub (ho W tk) (hi W tk) (ps_setAll c) ha) fun v σ H Q ⟨F, ρ, st, d, r, q, p⟩ => ⟨F, ρ, st, r, by
    unfold tSub bndT at p
    dsimp only at p
    cases e : fo st with
    | bad => rw [e] at p; exact p.elim
    | exc c so1 => rw [e] at p; exact fun F1 ρ1 H1 x1 r1 => p σ F1 ρ1 H1 x1 r1
    | ok x so1 =>
      rw [e] at p
      intro xv F1 ρ1 H1 x1 r1 q1
      refine ⟨F1, ρ1, ⟨st.vars, so1⟩, r1, ?_⟩
      dsimp only at p
      cases e2 : fi ⟨st.vars, so1⟩ with
      | bad => rw [e2] at p; exact p.elim
      | exc c so2 => rw [e2] at p; exact fun F2 ρ2 H2 x2 r2 => p σ F2 ρ2 H2 (x1.trans x2) r2
      | ok y so2 =>
        rw [e2] at p
        intro yv F2 ρ2 H2 x2 r2 q2
        dsimp only at p
        cases e3 : kSet x y d so2 with
        | none => rw [e3] at p; exact p.elim
        | some so3 =>
          rw [e3] at p
          have x12 := x1.trans x2
          exact ⟨F2, ρ2, so2, x, y, d, so3, r2.s, x2.vr q1, q2, x12.vr q, e3, fun H' r' => p σ F2 ρ2 H' x12 (r2.up (Ext.refl _ _) r') fun _ _ => rfl⟩⟩
/-- target = value -/
def rtS : RT → RS
  | .ok st => .ok .nx st
  | .exc c st => .exc c st
  | .bad => .bad
def sAsg (f : M D) (g : MT) : MS := bndS f fun d st => rtS (g d st)
theorem ss_asg {tg e : Expr} {pos : Pos} {T : List Nat} {f : M D} {g : MT} (he : SE w X e f) (hg : SG w X tg T g) (hs : swapsWithSole [tg] e pos.line X.env = pure false := by rfl) (hw : swappedStores [tg] e X.env = pure none := by rfl)
    (h1 : (assignEach [tg] X.env).map (·.2) = [assign tg X.env] := by rfl) : SS w X (.Assign [tg] e pos) (sAsg f g) := fun W tk =>
  PS.imp (ps_asg (he W tk) (hg W tk) hs hw h1) fun D σ H ⟨F, ρ, st, r, p⟩ => ⟨F, ρ, st, r, post_bndS r p fun d v F' ρ' H' so x r' q p' => ⟨F', ρ', _, d, r', q, by
    revert p'
    cases g d ⟨st.vars, so⟩ with
    | ok st2 => exact fun p' σ2 F2 ρ2 H2 x2 r2 _ => p' σ2 F2 ρ2 H2 x2 r2
    | exc c st2 => exact fun p' σ2 F2 ρ2 H2 x2 r2 => p' σ2 F2 ρ2 H2 x2 r2
    | bad => exact fun p' => p'⟩⟩
end
end EV
end
section
set_option Elab.async false
set_option linter.all false
set_option maxRecDepth 100000
set_option maxHeartbeats 4000000
namespace EV
open PySem L2
section
variable {w : Wd} {X : Cx} {F F' : Hp} {ρ ρ' : List Addr} {σ : L2.St} {H H' : Hp} {st : St} {so so' : List SO} {vars : List (Option D)}

/-! ### a, b = x, y -/
def sPar (i j : Nat) (f : M (List D)) : MS := bndS f fun ds st => match ds with
  | [a, b] => .ok .nx ⟨(st.vars.set i (some a)).set j (some b), st.so⟩
  | _ => .bad
theorem ss_par {i j : Nat} {x y : PySem.Str} {a b : Expr} {f : M (List D)} {px py pt pos : Pos} {kt k2 pt2} (c : Cok w X) (hi : X.N[i]? = some x) (hj : X.N[j]? = some y) (hij : i ≠ j)
    (hx : X.env.scope.names.lookup x = some .local) (hy : X.env.scope.names.lookup y = some .local) (ha : SA w X [a, b] f)
    (hw : swappedStores [.Tuple [.Name x px, .Name y py] kt pt] (.Tuple [a, b] k2 pt2) X.env = pure (some [x, y]))
    (hs : swapsWithSole [.Tuple [.Name x px, .Name y py] kt pt] (.Tuple [a, b] k2 pt2) pos.line X.env = pure false := by rfl) :
    SS w X (.Assign [.Tuple [.Name x px, .Name y py] kt pt] (.Tuple [a, b] k2 pt2) pos) (sPar i j f) := fun W tk =>
  PS.imp (ps_par c.calm c.nd hi hj hij hx hy (ha W tk) hw hs) fun D σ H ⟨F, ρ, st, r, p⟩ => ⟨F, ρ, st, r, post_bndS r p fun ds vs F' ρ' H' so x r' q p' => by
    cases q with
    | nil => exact p'.elim
    | cons q1 q =>
      cases q with
      | nil => exact p'.elim
      | cons q2 q =>
        cases q with
        | nil => exact ⟨_, _, rfl, p' _ F' ρ' H' (Ext.refl _ _) (by have z := (r'.set (i := i) q1).set (i := j) q2; exact z)⟩
        | cons _ _ => exact p'.elim⟩

/-! ### op= -/
def IpS (w : Wd) (X : Cx) (op : Operator) (g : O2) : Prop :=
  ∀ (F : Hp) (ρ : List Addr) (H : Hp) (so : List SO) (dx dy d : D) (so' : List SO) (x y : V) (v u : Value) (pins : List (Addr × Obj)) (s : Shared) (σ : L2.St) (Q : VK),
    RelS w F ρ H so → VR w.K F ρ dx x → VR w.K F ρ dy y → g dx dy so = some (d, so') → Inv X pins σ H s → RelV x v → RelV y u →
    (∀ v' F' ρ' H', Ext F ρ F' ρ' → RelS w F' ρ' H' so' → VR w.K F' ρ' d v' → Q v' H') → wpAny (model X.prog X.w) X.A (inplaceOp op v u) (EP X pins σ Q) X.xe s
theorem IpS.p {op : Operator} {g : O2} (h : IpS w X op g) : PIp X op (rO w g) := fun pins s σ H x y v u Q I rx ry ⟨F, ρ, so, dx, dy, d, so', r, hx, hy, hg, k⟩ =>
  h F ρ H so dx dy d so' x y v u pins s σ Q r hx hy hg I rx ry k
theorem IpS.i {op : Operator} {g : O2} (h : IpS w X op g) : InOp X op (rO w g) := fun pins s σ H x y v u Q I rx ry ⟨F, ρ, so, dx, dy, d, so', r, hx, hy, hg, k⟩ =>
  h F ρ H so dx dy d so' x y v u pins s σ Q r hx hy hg I rx ry k
def dAddI : O2 := fun x y so => match x, y with
  | .int i, .int j => some (.int (i + j), so)
  | _, _ => none
theorem is_add : IpS w X .Add dAddI := by
  intro F ρ H so dx dy d so' x y v u pins s σ Q r hx hy hg I rx ry k
  unfold dAddI at hg
  split at hg <;> cases hg
  cases hx
  cases hy
  exact ip_add pins s σ H _ _ v u Q I rx ry ⟨_, _, rfl, rfl, k _ _ _ _ (Ext.refl _ _) r (.int _)⟩
theorem is_sub : IpS w X .Sub dSub := by
  intro F ρ H so dx dy d so' x y v u pins s σ Q r hx hy hg I rx ry k
  unfold dSub at hg
  split at hg <;> cases hg
  cases hx
  cases hy
  exact ip_sub pins s σ H _ _ v u Q I rx ry ⟨_, _, rfl, rfl, k _ _ _ _ (Ext.refl _ _) r (.int _)⟩
def sAug (i : Nat) (g : O2) (f : M D) : MS := fun st => match st.vars[i]? with
  | some (some x) => bndS f (fun y st => match g x y st.so with
    | some (d, so) => .ok .nx ⟨st.vars.set i (some d), so⟩
    | none => .bad) st
  | _ => .bad
theorem ss_aug {i : Nat} {x : PySem.Str} {e : Expr} {f : M D} {op : Operator} {g : O2} {pos pos' : Pos} (c : Cok w X) (ho : IpS w X op g) (hi : X.N[i]? = some x) (hx : Loc X.env.scope x) (he : SE w X e f) (hf : X.fn x = true ∨ X.env.scope.names.lookup x = some .local := by first | exact .inl rfl | exact .inr rfl | assumption) :
    SS w X (.AugAssign (.Name x pos') op e pos) (sAug i g f) := fun W tk =>
  PS.imp (ps_aug c.nd hi hx (he W tk) ho.p hf) fun D σ H ⟨F, ρ, st, r, p⟩ => by
    unfold sAug at p
    cases e1 : st.vars[i]? with
    | none => rw [e1] at p; exact p.elim
    | some o =>
      cases o with
      | none => rw [e1] at p; exact p.elim
      | some d0 =>
        rw [e1] at p
        obtain ⟨v, e2, q0⟩ := r.var i d0 e1
        refine ⟨v, e2, F, ρ, st, r, post_bndS r p fun d u F' ρ' H' so x' r' q p' => ?_⟩
        dsimp only at p'
        cases e3 : g d0 d so with
        | none => rw [e3] at p'; exact p'.elim
        | some z =>
          obtain ⟨d2, so2⟩ := z
          rw [e3] at p'
          exact ⟨F', ρ', so, d0, d, d2, so2, r'.s, x'.vr q0, q, e3, fun v' F2 ρ2 H2 x2 r2 q2 => p' _ F2 ρ2 H2 x2 (by have z := (r'.up x2 r2).set (i := i) q2; exact z)⟩

/-! ### o.f = e, o.f op= e -/
def dPutF (f : PySem.Str) (d : D) : List (PySem.Str × D) → List (PySem.Str × D)
  | [] => [(f, d)]
  | (g, x) :: r => if g = f then (g, d) :: r else (g, x) :: dPutF f d r
theorem putF_kv {K : PySem.W.Frag} {f : PySem.Str} {d : D} {v : V} (q : VR K F ρ d v) : ∀ {fs : List (PySem.Str × D)} {vs : List (PySem.Str × V)}, KVs (VR K F ρ) fs vs → KVs (VR K F ρ) (dPutF f d fs) (putF f v vs)
  | _, _, .nil => .cons q .nil
  | _, _, .cons (k := g) h r => by
    unfold dPutF putF
    by_cases e : g = f
    · rw [if_pos e, if_pos e]; exact .cons q r
    · rw [if_neg e, if_neg e]; exact .cons h (putF_kv q r)
theorem write_ins (r : RelS w F ρ H so) {n c : Nat} {a dx : Addr} {vs vs' : List (PySem.Str × V)} {fs' : List (PySem.Str × D)} (h2 : ρ[n]? = some a) (h3 : F a = none) (h4 : H a = some (.ins (w.cls c) dx vs)) (h7 : KVs (VR w.K F ρ) fs' vs') : RelS w F ρ (upd H a (.ins (w.cls c) dx vs')) (so.set n (.ins c fs')) :=
  r.write h2 h4 (fun _ z => by cases z) (fun _ z => by cases z) h3 ⟨dx, vs', upd_same, h7⟩
def putFld (n : Nat) (f : PySem.Str) (x d : D) (so : List SO) : Option (List SO) := match insOf so x with
  | some (m, c, fs) => if c < n ∧ fs.length < 1000 then some (so.set m (.ins c (dPutF f d fs))) else none
  | none => none
def sFldD (n : Nat) (f : PySem.Str) (fv fo : M D) : MS := bndS fv fun d => bndS fo fun x st => match putFld n f x d st.so with
  | some so => .ok .nx ⟨st.vars, so⟩
  | none => .bad
theorem ss_fld {n : Nat} {f : PySem.Str} {o value : Expr} {pos pos' : Pos} {fo fv : M D} (c : Cok w X) (fk : FldOk w n f) (ho : SE w X o fo) (hv : SE w X value fv) (hs : swapsWith value (some (.Attribute o f pos')) pos.line X.env = pure false := by rfl) : SS w X (.Assign [.Attribute o f pos'] value pos) (sFldD n f fv fo) := fun W tk =>
  PS.imp (ps_fld (ho W tk) (hv W tk) hs) fun D σ H ⟨F, ρ, st, r, p⟩ => ⟨F, ρ, st, r, post_bndS r p fun d v F1 ρ1 H1 so1 x1 r1 q1 p1 => ⟨F1, ρ1, _, r1, post_bndS r1 p1 fun x u F2 ρ2 H2 so2 x2 r2 q2 p2 => by
    dsimp only at p2
    cases e : putFld n f x d so2 with
    | none => rw [e] at p2; exact p2.elim
    | some so3 =>
      rw [e] at p2
      unfold putFld at e
      split at e <;> try cases e
      rename_i m c' fs e1
      split at e <;> cases e
      rename_i hc
      obtain ⟨a, dx, vs, rfl, h2, h3, h4, h5, _⟩ := ins_of r2.s q2 e1
      exact ⟨a, _, dx, vs, rfl, h4, by rw [c.K]; exact fk.cl c' hc.1, by rw [c.K]; exact fk.nf c' hc.1, by rw [← h5.length]; exact hc.2, p2 σ F2 ρ2 _ (Ext.refl _ _) (r2.up (Ext.refl _ _) (write_ins r2.s h2 h3 h4 (putF_kv (x2.vr q1) h5)))⟩⟩⟩
def putFldC (c : Nat) (f : PySem.Str) (x d : D) (so : List SO) : Option (List SO) := match insOf so x with
  | some (m, c2, fs) => if c2 = c ∧ fs.length < 1000 then some (so.set m (.ins c2 (dPutF f d fs))) else none
  | none => none
def sFldA (n : Nat) (f : PySem.Str) (g : O2) (fo fv : M D) : MS := bndS fo fun x st0 => match insOf st0.so x with
  | some (_, c, fs) => if c < n then (match fs.lookup f with
    | some d0 => bndS fv (fun y st => match g d0 y st.so with
      | some (d, so) => (match putFldC c f x d so with
        | some so => .ok .nx ⟨st.vars, so⟩
        | none => .bad)
      | none => .bad) st0
    | none => .bad) else .bad
  | none => .bad
theorem ss_fldaug {n : Nat} {f : PySem.Str} {o value : Expr} {op : Operator} {g : O2} {pos tpos : Pos} {fo fv : M D} (c : Cok w X) (fk : FldOk w n f) (ho : SE w X o fo) (hv : SE w X value fv) (hop : IpS w X op g) : SS w X (.AugAssign (.Attribute o f tpos) op value pos) (sFldA n f g fo fv) := fun W tk =>
  PS.imp (ps_fldaug (ho W tk) (hv W tk) hop.i) fun D σ H ⟨F, ρ, st, r, p⟩ => ⟨F, ρ, st, r, post_bndS r p fun x u F1 ρ1 H1 so1 x1 r1 q1 p1 => by
    dsimp only at p1
    cases e1 : insOf so1 x with
    | none => rw [e1] at p1; exact p1.elim
    | some z =>
      obtain ⟨m, c', fs⟩ := z
      rw [e1] at p1
      dsimp only at p1
      by_cases hc : c' < n
      · rw [if_pos hc] at p1
        cases e2 : fs.lookup f with
        | none => rw [e2] at p1; exact p1.elim
        | some d0 =>
          rw [e2] at p1
          obtain ⟨a, dx, vs, rfl, h2, h3, h4, h5, _⟩ := ins_of r1.s q1 e1
          obtain ⟨v0, l0, q0⟩ := lookup_some h5 e2
          refine ⟨a, _, dx, vs, v0, rfl, h4, by rw [c.K]; exact fk.cl c' hc, by rw [c.K]; exact fk.nf c' hc, l0, F1, ρ1, _, r1, post_bndS r1 p1 fun y yv F2 ρ2 H2 so2 x2 r2 q2 p2 => ?_⟩
          dsimp only at p2
          cases e3 : g d0 y so2 with
          | none => rw [e3] at p2; exact p2.elim
          | some z =>
            obtain ⟨d, so3⟩ := z
            rw [e3] at p2
            refine ⟨F2, ρ2, so2, d0, y, d, so3, r2.s, x2.vr q0, q2, e3, fun v' F3 ρ3 H3 x3 r3 q3 => ?_⟩
            dsimp only at p2
            cases e4 : putFldC c' f x d so3 with
            | none => rw [e4] at p2; exact p2.elim
            | some so4 =>
              rw [e4] at p2
              unfold putFldC at e4
              split at e4 <;> try cases e4
              rename_i m2 c2 fs2 e5
              split at e4 <;> cases e4
              rename_i hc2
              obtain ⟨rfl, hc3⟩ := hc2
              obtain ⟨a', dx', vs', ea, g2, g3, g4, g5, _⟩ := ins_of r3 ((x2.trans x3).vr q1) e5
              cases ea
              exact ⟨dx', vs', g4, by rw [← g5.length]; exact hc3, p2 σ F3 ρ3 _ x3 ((r2.up x3 r3).up (Ext.refl _ _) (write_ins r3 g2 g3 g4 (putF_kv q3 g5)))⟩
      · rw [if_neg hc] at p1; exact p1.elim⟩

/-! ### del d[k]; raise -/
def sDel (fo fi : M D) : MS := bndS fo fun x => bndS fi fun y st => match dctOf st.so x, keyD y with
  | some (n, kvs, false), some k => if (dGet kvs k).isSome = true then .ok .nx ⟨st.vars, st.so.set n (.dct (dDrop kvs k))⟩ else .bad
  | _, _ => .bad
theorem ss_del {o i : Expr} {tpos pos : Pos} {fo fi : M D} (ho : SE w X o fo) (hi : SE w X i fi) : SS w X (.Delete [.Subscript o i tpos] pos) (sDel fo fi) := fun W tk =>
  PS.imp (ps_ddel (ho W tk) (hi W tk)) fun D σ H ⟨F, ρ, st, r, p⟩ => ⟨F, ρ, st, r, post_bndS r p fun x v F1 ρ1 H1 so1 x1 r1 q1 p1 => ⟨F1, ρ1, _, r1, post_bndS r1 p1 fun y u F2 ρ2 H2 so2 x2 r2 q2 p2 => by
    dsimp only at p2
    split at p2
    · rename_i n kvs key e1 e2
      obtain ⟨a, vs, rfl, h2, h3, h4, h7⟩ := dct_live r2.s (x2.vr q1) e1
      have hk := keyD_v q2 e2
      by_cases hs : (dGet kvs key).isSome = true
      · rw [if_pos hs] at p2
        exact ⟨a, vs, key, rfl, h4, hk, by rw [dget_isSome h7]; exact hs, p2 σ F2 ρ2 _ (Ext.refl _ _) (r2.up (Ext.refl _ _) (write_dct r2.s h2 h3 h4 (drop_kv h7 key)))⟩
      · rw [if_neg hs] at p2; exact p2.elim
    · exact p2.elim⟩⟩
def sRaise (c : Nat) : MS := fun st => .exc c st
theorem ss_raise {c : Nat} {e : Expr} {pos : Pos} (k : Cok w X) (h : ∀ W, Takes X W → PS X (.Raise (some e) none pos) (fun _ σ H => W (.ref (w.cls c)) none σ H)) : SS w X (.Raise (some e) none pos) (sRaise c) := fun W tk =>
  PS.imp (h W tk) fun D σ H ⟨F, ρ, st, r, p⟩ => p σ F ρ H (Ext.refl _ _) r
end
end EV
end
section
set_option Elab.async false
set_option linter.all false
set_option maxRecDepth 100000
set_option maxHeartbeats 4000000
namespace EV
open PySem L2
section
variable {w : Wd} {X : Cx} {F F' : Hp} {ρ ρ' : List Addr} {σ : L2.St} {H H' : Hp} {st : St} {so so' : List SO} {vars : List (Option D)}

/-! ### what is walked -/
/-- items that stand, or a list of the store as it stands at each turn -/
inductive Src where
  | fz (ds : List D)
  | lv (n : Nat)
inductive ItD where
  | seq (s : Src)
  | enu (s : Src)
  | rng (lo : Int) (n : Nat)
  | zip (s t : Src)
  | keys (n : Nat) (kvs : List (Key × D))
  | vals (n : Nat) (kvs : List (Key × D))
  | items (n : Nat) (kvs : List (Key × D))
def getS (so : List SO) : Src → Option (List D)
  | .fz ds => some ds
  | .lv n => match so[n]? with
    | some (.lst xs) => some xs
    | _ => none
def isDlk (so : List SO) (n : Nat) : Bool := match so[n]? with
  | some (.dlk _) => true
  | _ => false
/-- the next item: none: untold; some none: the end -/
def nextI (it : ItD) (so : List SO) (i : Nat) : Option (Option D) := match it with
  | .seq s => (getS so s).map fun ds => ds[i]?
  | .enu s => (getS so s).map fun ds => (ds[i]?).map fun d => .tuple [.int i, d]
  | .rng lo n => some (if i < n then some (.int (lo + i)) else none)
  | .zip s t => match getS so s, getS so t with
    | some ds, some es => some (match ds[i]?, es[i]? with
      | some d, some e => some (.tuple [d, e])
      | _, _ => none)
    | _, _ => none
  | .keys n kvs => some ((kvs[i]?).map fun kv => keyV kv.1)
  | .vals n kvs => some ((kvs[i]?).map fun kv => kv.2)
  | .items n kvs => some ((kvs[i]?).map fun kv => .tuple [keyV kv.1, kv.2])
/-- turns enough -/
def fuelI (it : ItD) (so : List SO) : Nat := match it with
  | .seq s | .enu s => ((getS so s).getD []).length + 1
  | .rng _ n => n + 1
  | .zip s _ => ((getS so s).getD []).length + 1
  | .keys _ kvs | .vals _ kvs | .items _ kvs => kvs.length + 1
def ItR (w : Wd) (F : Hp) (ρ : List Addr) (it : ItD) (J : It) : Prop :=
  ∀ (i : Nat) (F1 : Hp) (ρ1 : List Addr) (H : Hp) (so : List SO), Ext F ρ F1 ρ1 → RelS w F1 ρ1 H so → match nextI it so i with
    | none => True
    | some none => J.stop i H
    | some (some d) => J.go i H ∧ ∀ x H', J.yld i H x H' → ∃ F', Ext F1 ρ1 F' ρ1 ∧ RelS w F' ρ1 H' so ∧ VR w.K F' ρ1 d x
def trI (w : Wd) (W : WX) (f : M ItD) : TI := fun σ H R => ∃ F ρ st, Rel w F ρ σ H st ∧ Post w F ρ σ st.vars (ItR w) W (f st) R
def SI (w : Wd) (X : Cx) (tg e : Expr) (f : M ItD) : Prop := ∀ W, Takes X W → PI X tg e (trI w W f)
theorem PI.imp {tg e : Expr} {t t' : TI} (h : PI X tg e t) (k : ∀ σ H Q, t' σ H Q → t σ H Q) : PI X tg e t' := ⟨fun pins s σ H R I q => h.run pins s σ H R I (k σ H R q)⟩
theorem PI.or {tg e : Expr} {t u : TI} (h : PI X tg e t) (k : PI X tg e u) : PI X tg e (fun σ H R => t σ H R ∨ u σ H R) :=
  ⟨fun pins s σ H R I q => q.elim (h.run pins s σ H R I) (k.run pins s σ H R I)⟩

/-- a source at an address -/
inductive SrcAt (w : Wd) (F : Hp) (ρ : List Addr) : Src → Addr → Prop
  | fz {a : Addr} {ds : List D} {vs : List V} : F a = some (.lst vs) → VRs w.K F ρ ds vs → SrcAt w F ρ (.fz ds) a
  | lv {a : Addr} {n : Nat} : ρ[n]? = some a → SrcAt w F ρ (.lv n) a
theorem SrcAt.get {s : Src} {a : Addr} {ds : List D} (h : SrcAt w F ρ s a) (x : Ext F ρ F' ρ') (r : RelS w F' ρ' H so) (e : getS so s = some ds) : ∃ vs, H a = some (.lst vs) ∧ VRs w.K F' ρ' ds vs := by
  cases h with
  | fz h1 h2 =>
    simp only [getS, Option.some.injEq] at e
    subst e
    exact ⟨_, r.le _ _ (x.le _ _ h1), x.vrs h2⟩
  | lv hn =>
    rename_i n
    unfold getS at e
    cases z : so[n]? with
    | none => simp [z] at e
    | some o =>
      cases o with
      | lst xs =>
        simp only [z, Option.some.injEq] at e
        subst e
        obtain ⟨b, q1, q0, vs, q2, q3⟩ := r.obj n _ z
        rw [pre_get x.pre hn] at q1
        cases q1
        exact ⟨vs, q2, q3⟩
      | dct _ => simp [z] at e
      | dlk _ => simp [z] at e
      | ins _ _ => simp [z] at e
      | lam _ => simp [z] at e
      | scr _ => simp [z] at e
      | dead => simp [z] at e
/-- the source of a datum -/
def srcOf (so : List SO) (d : D) : Option Src := match d with
  | .list xs => some (.fz xs)
  | .dict [(.int n, .none)] => (match so[n.toNat]? with
    | some (.lst _) => some (.lv n.toNat)
    | _ => none)
  | _ => none
theorem src_of (r : RelS w F ρ H so) {d : D} {v : V} {s : Src} (h : VR w.K F ρ d v) (e : srcOf so d = some s) : ∃ a vs, v = .ref a ∧ SrcAt w F ρ s a ∧ H a = some (.lst vs) := by
  cases h with
  | ref q =>
    rename_i n a
    unfold srcOf at e
    simp only [Int.toNat_natCast] at e
    split at e <;> cases e
    rename_i z
    obtain ⟨b, e1, _, vs, e3, e4⟩ := r.obj n _ z
    rw [q] at e1
    cases e1
    exact ⟨_, vs, rfl, .lv q, e3⟩
  | lst q k => simp only [srcOf, Option.some.injEq] at e; subst e; exact ⟨_, _, rfl, .fz q k, r.le _ _ q⟩
  | scr q k => simp [srcOf] at e
  | non => simp [srcOf] at e
  | bl b => simp [srcOf] at e
  | int b => simp [srcOf] at e
  | str b => simp [srcOf] at e
  | tup q k => simp [srcOf] at e

/-! ### the iterators -/
theorem it_list {s : Src} {a : Addr} (h : SrcAt w F ρ s a) : ItR w F ρ (.seq s) (Itl w.K a) := by
  intro i F1 ρ1 H so x r
  unfold nextI
  dsimp only
  cases e : getS so s with
  | none => trivial
  | some ds =>
    obtain ⟨vs, h1, h2⟩ := h.get x r e
    dsimp only [Option.map]
    cases e2 : ds[i]? with
    | none => exact ⟨vs, SqL.of h1, List.getElem?_eq_none_iff.mp (h2.get_none e2)⟩
    | some d =>
      obtain ⟨v, e3, hv⟩ := h2.get e2
      refine ⟨⟨vs, v, SqL.of h1, e3⟩, fun x' H' ⟨q1, q2⟩ => ?_⟩
      subst q1
      have := q2 vs (SqL.of h1)
      rw [e3] at this
      cases this
      exact ⟨F1, Ext.refl _ _, r, hv⟩
theorem it_tup {a : Addr} {ds : List D} {vs : List V} (h : SqT w.K F a vs) (k : VRs w.K F ρ ds vs) : ItR w F ρ (.seq (.fz ds)) (Itt w.K a) := by
  intro i F1 ρ1 H so x r
  unfold nextI getS
  dsimp only [Option.map]
  have h1 : SqT w.K H a vs := r.le.sqT (x.le.sqT h)
  have h2 := x.vrs k
  cases e2 : ds[i]? with
  | none => exact ⟨vs, h1, List.getElem?_eq_none_iff.mp (h2.get_none e2)⟩
  | some d =>
    obtain ⟨v, e3, hv⟩ := h2.get e2
    refine ⟨⟨vs, v, h1, e3⟩, fun x' H' ⟨q1, q2⟩ => ?_⟩
    subst q1
    have := q2 vs h1
    rw [e3] at this
    cases this
    exact ⟨F1, Ext.refl _ _, r, hv⟩
def charsD (z : PySem.Str) : List D := z.cps.toList.map fun c => .str ⟨#[c]⟩
theorem it_str {z : PySem.Str} : ItR w F ρ (.seq (.fz (charsD z))) (Its z) := by
  intro i F1 ρ1 H so x r
  unfold nextI getS charsD
  dsimp only [Option.map]
  rw [List.getElem?_map]
  have e0 : z.cps.toList[i]? = z.cps[i]? := by simp
  rw [e0]
  cases e : z.cps[i]? with
  | none => exact Array.getElem?_eq_none_iff.mp e
  | some c =>
    refine ⟨(Array.getElem?_eq_some_iff.mp e).1, fun x' H' ⟨q1, c', q2, q3⟩ => ?_⟩
    subst q1
    rw [e] at q2
    cases q2
    subst q3
    exact ⟨F1, Ext.refl _ _, r, .str _⟩
theorem it_rng {lo : Int} {n : Nat} : ItR w F ρ (.rng lo n) (Itr lo n) := by
  intro i F1 ρ1 H so x r
  unfold nextI
  dsimp only
  by_cases h : i < n
  · rw [if_pos h]
    refine ⟨h, fun x' H' ⟨q1, q2⟩ => ?_⟩
    subst q1
    subst q2
    exact ⟨F1, Ext.refl _ _, r, .int _⟩
  · rw [if_neg h]
    exact Nat.le_of_not_lt h
theorem it_enu {s : Src} {a : Addr} (h : SrcAt w F ρ s a) : ItR w F ρ (.enu s) (Ite w.K a) := by
  intro i F1 ρ1 H so x r
  unfold nextI
  dsimp only
  cases e : getS so s with
  | none => trivial
  | some ds =>
    obtain ⟨vs, h1, h2⟩ := h.get x r e
    dsimp only [Option.map]
    cases e2 : ds[i]? with
    | none => exact ⟨vs, SqL.of h1, List.getElem?_eq_none_iff.mp (h2.get_none e2)⟩
    | some d =>
      obtain ⟨v, e3, hv⟩ := h2.get e2
      refine ⟨⟨vs, v, SqL.of h1, e3⟩, fun x' H' ⟨T, y, q1, q2, q3, q4⟩ => ?_⟩
      subst q1 q3
      have := q4 vs (SqL.of h1)
      rw [e3] at this
      cases this
      obtain ⟨r2, x2⟩ := r.frozen (o := .tup [.int (i : Nat), v]) q2
      exact ⟨_, x2, r2, .tup (SqT.of upd_same) (.cons (.int _) (.cons (x2.vr hv) .nil))⟩
theorem it_zip {s t : Src} {a b : Addr} (h : SrcAt w F ρ s a) (k : SrcAt w F ρ t b) : ItR w F ρ (.zip s t) (Itz w.K a b) := by
  intro i F1 ρ1 H so x r
  unfold nextI
  dsimp only
  cases e : getS so s with
  | none => trivial
  | some ds =>
    cases f : getS so t with
    | none => trivial
    | some es =>
      obtain ⟨vs, h1, h2⟩ := h.get x r e
      obtain ⟨us, k1, k2⟩ := k.get x r f
      dsimp only
      cases e2 : ds[i]? with
      | none => exact ⟨vs, us, SqL.of h1, SqL.of k1, .inl (List.getElem?_eq_none_iff.mp (h2.get_none e2))⟩
      | some d =>
        cases f2 : es[i]? with
        | none => exact ⟨vs, us, SqL.of h1, SqL.of k1, .inr (List.getElem?_eq_none_iff.mp (k2.get_none f2))⟩
        | some d' =>
          obtain ⟨v, e3, hv⟩ := h2.get e2
          obtain ⟨u, f3, hu⟩ := k2.get f2
          refine ⟨⟨vs, us, v, u, SqL.of h1, SqL.of k1, e3, f3⟩, fun x' H' ⟨T, y, y', q1, q2, q3, q4, q5⟩ => ?_⟩
          subst q1 q3
          have z1 := q4 vs (SqL.of h1)
          have z2 := q5 us (SqL.of k1)
          rw [e3] at z1
          rw [f3] at z2
          cases z1
          cases z2
          obtain ⟨r2, x2⟩ := r.frozen (o := .tup [v, u]) q2
          exact ⟨_, x2, r2, .tup (SqT.of upd_same) (.cons (x2.vr hv) (.cons (x2.vr hu) .nil))⟩
theorem it_zipT {a b : Addr} {ds es : List D} {vs us : List V} (h : SqT w.K F a vs) (h2 : VRs w.K F ρ ds vs) (k : SqT w.K F b us) (k2 : VRs w.K F ρ es us) : ItR w F ρ (.zip (.fz ds) (.fz es)) (RZ.ItzT w.K a b) := by
  intro i F1 ρ1 H so x r
  unfold nextI getS
  dsimp only
  have h1 : SqT w.K H a vs := r.le.sqT (x.le.sqT h)
  have k1 : SqT w.K H b us := r.le.sqT (x.le.sqT k)
  have h2 := x.vrs h2
  have k2 := x.vrs k2
  cases e2 : ds[i]? with
  | none => exact ⟨vs, us, h1, k1, .inl (List.getElem?_eq_none_iff.mp (h2.get_none e2))⟩
  | some d =>
    cases f2 : es[i]? with
    | none => exact ⟨vs, us, h1, k1, .inr (List.getElem?_eq_none_iff.mp (k2.get_none f2))⟩
    | some d' =>
      obtain ⟨v, e3, hv⟩ := h2.get e2
      obtain ⟨u, f3, hu⟩ := k2.get f2
      refine ⟨⟨vs, us, v, u, h1, k1, e3, f3⟩, fun x' H' ⟨T, y, y', q1, q2, q3, q4, q5⟩ => ?_⟩
      subst q1 q3
      have z1 := q4 vs h1
      have z2 := q5 us k1
      rw [e3] at z1
      rw [f3] at z2
      cases z1
      cases z2
      obtain ⟨r2, x2⟩ := r.frozen (o := .tup [v, u]) q2
      exact ⟨_, x2, r2, .tup (SqT.of upd_same) (.cons (x2.vr hv) (.cons (x2.vr hu) .nil))⟩
theorem KVs.at {κ : Type} {S : D → V → Prop} : ∀ {ds : List (κ × D)} {vs : List (κ × V)} {i : Nat}, KVs S ds vs → (match ds[i]? with
    | some (k, d) => ∃ v, vs[i]? = some (k, v) ∧ S d v
    | none => vs.length ≤ i)
  | _, _, i, .nil => by simp
  | _, _, 0, .cons h r => ⟨_, rfl, h⟩
  | _, _, i + 1, .cons h r => by
    have := KVs.at (i := i) r
    simpa using this
theorem keyV_vr {K : PySem.W.Frag} {k : Key} : VR K F ρ (keyV k) (kV k) := by
  cases k <;> first | exact .int _ | exact .str _
section
variable {a : Addr} {o : Obj} {n : Nat} {kvs : List (Key × D)} {vs : List (Key × V)}
theorem it_keys (h : F a = some (.frz o (.dK vs))) (k : KVs (VR w.K F ρ) kvs vs) : ItR w F ρ (.keys n kvs) (Itk a o vs) := by
  intro i F1 ρ1 H so x r
  have h1 : H a = some (.frz o (.dK vs)) := r.le _ _ (x.le _ _ h)
  have z := k.at (i := i)
  unfold nextI
  dsimp only
  cases e : kvs[i]? with
  | none => rw [e] at z; exact ⟨h1, z⟩
  | some kv =>
    rw [e] at z
    obtain ⟨v, z1, z2⟩ := z
    refine ⟨⟨h1, (List.getElem?_eq_some_iff.mp z1).1⟩, fun x' H' ⟨q1, k', v', q2, q3⟩ => ?_⟩
    subst q1
    subst q3
    rw [z1] at q2
    cases q2
    exact ⟨F1, Ext.refl _ _, r, keyV_vr⟩
theorem it_vals (h : F a = some (.frz o (.dK vs))) (k : KVs (VR w.K F ρ) kvs vs) : ItR w F ρ (.vals n kvs) (Itd a o vs) := by
  intro i F1 ρ1 H so x r
  have h1 : H a = some (.frz o (.dK vs)) := r.le _ _ (x.le _ _ h)
  have z := k.at (i := i)
  unfold nextI
  dsimp only
  cases e : kvs[i]? with
  | none => rw [e] at z; exact ⟨h1, z⟩
  | some kv =>
    rw [e] at z
    obtain ⟨v, z1, z2⟩ := z
    refine ⟨⟨h1, (List.getElem?_eq_some_iff.mp z1).1⟩, fun x' H' ⟨q1, k', q2⟩ => ?_⟩
    subst q1
    rw [z1] at q2
    cases q2
    exact ⟨F1, Ext.refl _ _, r, x.vr z2⟩
theorem it_items (h : F a = some (.frz o (.dK vs))) (k : KVs (VR w.K F ρ) kvs vs) : ItR w F ρ (.items n kvs) (Iti a o vs) := by
  intro i F1 ρ1 H so x r
  have h1 : H a = some (.frz o (.dK vs)) := r.le _ _ (x.le _ _ h)
  have z := k.at (i := i)
  unfold nextI
  dsimp only
  cases e : kvs[i]? with
  | none => rw [e] at z; exact ⟨h1, z⟩
  | some kv =>
    rw [e] at z
    obtain ⟨v, z1, z2⟩ := z
    refine ⟨⟨h1, (List.getElem?_eq_some_iff.mp z1).1⟩, fun x' H' ⟨T, k', v', q1, q2, q3, q4⟩ => ?_⟩
    subst q2
    subst q4
    rw [z1] at q1
    cases q1
    obtain ⟨r2, x2⟩ := r.frozen (o := .tup [kV _, _]) q3
    exact ⟨_, x2, r2, .tup (SqT.of upd_same) (.cons keyV_vr (.cons ((x.trans x2).vr z2) .nil))⟩
end

/-! ### from expressions -/
def kIt (d : D) : M ItD := fun st => match d with
  | .tuple ds => .ok (.seq (.fz ds)) st.so
  | .str z => .ok (.seq (.fz (charsD z))) st.so
  | d => match srcOf st.so d with
    | some s => .ok (.seq s) st.so
    | none => match dctOf st.so d with
      | some (n, kvs, true) => .ok (.keys n kvs) st.so
      | _ => .bad
def iIt (f : M D) : M ItD := bnd f kIt
theorem si_of {tg e : Expr} {f : M D} (c : Cok w X) (h : SE w X e f) : SI w X tg e (iIt f) := by
  intro W tk
  have p := PI.or (pi_list (tg := tg) (h W tk)) (PI.or (pi_tup (tg := tg) (h W tk)) (PI.or (pi_str (tg := tg) (h W tk)) (pi_keys (tg := tg) (h W tk))))
  refine PI.imp p fun σ H R ⟨F, ρ, st, r, p⟩ => ?_
  rw [c.K]
  have key : ∀ d so1, f st = .ok d so1 → _ := fun d so1 e => by
    unfold iIt bnd at p
    rw [e] at p
    exact p
  cases e : f st with
  | ok d so1 =>
    have p1 : Post w F ρ σ st.vars (ItR w) W (kIt d ⟨st.vars, so1⟩) R := by
      unfold iIt bnd at p
      rw [e] at p
      exact p
    unfold kIt at p1
    dsimp only at p1
    split at p1
    · rename_i ds
      refine .inr (.inl ⟨F, ρ, st, r, ?_⟩)
      rw [e]
      intro v F1 ρ1 H1 x1 r1 q1
      cases q1 with
      | tup q k => exact ⟨_, rfl, ⟨_, r1.s.le.sqT q⟩, p1 _ F1 ρ1 H1 x1 r1 (it_tup q k)⟩
    · rename_i z
      refine .inr (.inr (.inl ⟨F, ρ, st, r, ?_⟩))
      rw [e]
      intro v F1 ρ1 H1 x1 r1 q1
      cases q1
      exact ⟨_, rfl, p1 _ F1 ρ1 H1 x1 r1 it_str⟩
    · split at p1
      · rename_i s e2
        refine .inl ⟨F, ρ, st, r, ?_⟩
        rw [e]
        intro v F1 ρ1 H1 x1 r1 q1
        obtain ⟨a, vs, rfl, h1, h2⟩ := src_of r1.s q1 e2
        exact ⟨a, rfl, ⟨vs, SqL.of h2⟩, p1 _ F1 ρ1 H1 x1 r1 (it_list h1)⟩
      · split at p1
        · rename_i n kvs e2
          refine .inr (.inr (.inr ⟨F, ρ, st, r, ?_⟩))
          rw [e]
          intro v F1 ρ1 H1 x1 r1 q1
          obtain ⟨a, vs, rfl, _, _, _, _, h6, h7⟩ := dct_of r1.s q1 e2
          obtain ⟨o, h6, _⟩ := h6 rfl
          exact ⟨a, o, rfl, .inl ⟨vs, r1.s.le _ _ h6, p1 _ F1 ρ1 H1 x1 r1 (it_keys h6 h7)⟩⟩
        · exact p1.elim
  | exc k so1 =>
    refine .inl ⟨F, ρ, st, r, ?_⟩
    unfold iIt bnd at p
    rw [e] at p ⊢
    exact p
  | bad =>
    unfold iIt bnd at p
    rw [e] at p
    exact p.elim
/-- d.keys(), d.values(), d.items(), d locked -/
def kKeys (d : D) : M ItD := fun st => match dctOf st.so d with
  | some (n, kvs, true) => .ok (.keys n kvs) st.so
  | _ => .bad
def kVals (d : D) : M ItD := fun st => match dctOf st.so d with
  | some (n, kvs, true) => .ok (.vals n kvs) st.so
  | _ => .bad
def kItems (d : D) : M ItD := fun st => match dctOf st.so d with
  | some (n, kvs, true) => .ok (.items n kvs) st.so
  | _ => .bad
def iItems (f : M D) : M ItD := bnd f kItems
def iVals (f : M D) : M ItD := bnd f kVals
def iKeys (f : M D) : M ItD := bnd f kKeys
theorem si_items {e : Expr} {f : M D} {elts : List Expr} {kk : Nat} {tpos apos cpos : Pos} (h : SE w X e f) (hbase : attributeBase e "items" X.env (eval e X.env) = eval e X.env := by rfl) (hline : (apos.endLine == cpos.line) = true := by rfl) :
    SI w X (.Tuple elts kk tpos) (.Call (.Attribute e "items" apos) [] [] cpos) (iItems f) := fun W tk =>
  PI.imp (pi_items (h W tk) hbase hline) fun σ H R ⟨F, ρ, st, r, p⟩ => ⟨F, ρ, st, r, post_bnd p fun d v F1 ρ1 H1 so1 x1 r1 q1 p1 => by
    unfold kItems at p1
    dsimp only at p1
    split at p1
    · rename_i n kvs e2
      obtain ⟨a, vs, rfl, _, _, _, _, h6, h7⟩ := dct_of r1.s q1 e2
      obtain ⟨o, h6, _⟩ := h6 rfl
      exact ⟨a, o, vs, rfl, r1.s.le _ _ h6, p1 _ F1 ρ1 H1 (Ext.refl _ _) r1 (it_items h6 h7)⟩
    · exact p1.elim⟩
theorem si_vals {tg e : Expr} {f : M D} {apos cpos : Pos} (h : SE w X e f) (hbase : attributeBase e "values" X.env (eval e X.env) = eval e X.env := by rfl) (hline : (apos.endLine == cpos.line) = true := by rfl) :
    SI w X tg (.Call (.Attribute e "values" apos) [] [] cpos) (iVals f) := fun W tk =>
  PI.imp (pi_values (h W tk) hbase hline) fun σ H R ⟨F, ρ, st, r, p⟩ => ⟨F, ρ, st, r, post_bnd p fun d v F1 ρ1 H1 so1 x1 r1 q1 p1 => by
    unfold kVals at p1
    dsimp only at p1
    split at p1
    · rename_i n kvs e2
      obtain ⟨a, vs, rfl, _, _, _, _, h6, h7⟩ := dct_of r1.s q1 e2
      obtain ⟨o, h6, _⟩ := h6 rfl
      exact ⟨a, o, vs, rfl, r1.s.le _ _ h6, p1 _ F1 ρ1 H1 (Ext.refl _ _) r1 (it_vals h6 h7)⟩
    · exact p1.elim⟩
theorem si_keys {tg e : Expr} {f : M D} {apos cpos : Pos} (h : SE w X e f) (hbase : attributeBase e "keys" X.env (eval e X.env) = eval e X.env := by rfl) (hline : (apos.endLine == cpos.line) = true := by rfl) :
    SI w X tg (.Call (.Attribute e "keys" apos) [] [] cpos) (iKeys f) := fun W tk =>
  PI.imp (pi_keysM (h W tk) hbase hline) fun σ H R ⟨F, ρ, st, r, p⟩ => ⟨F, ρ, st, r, post_bnd p fun d v F1 ρ1 H1 so1 x1 r1 q1 p1 => by
    unfold kKeys at p1
    dsimp only at p1
    split at p1
    · rename_i n kvs e2
      obtain ⟨a, vs, rfl, _, _, _, _, h6, h7⟩ := dct_of r1.s q1 e2
      obtain ⟨o, h6, _⟩ := h6 rfl
      exact ⟨a, o, vs, rfl, r1.s.le _ _ h6, p1 _ F1 ρ1 H1 (Ext.refl _ _) r1 (it_keys h6 h7)⟩
    · exact p1.elim⟩
/-- range -/
def small62 (i : Int) : Bool := decide (-(2 ^ 62) ≤ i ∧ i < 2 ^ 62)
def kRng1 (d : D) : M ItD := fun st => match d with
  | .int j => if small62 j = true then .ok (.rng 0 j.toNat) st.so else .bad
  | _ => .bad
def iRng1 (f : M D) : M ItD := bnd f kRng1
def kRng2 (d e : D) : M ItD := fun st => match d, e with
  | .int i, .int j => if small62 i = true ∧ small62 j = true then .ok (.rng i (j - i).toNat) st.so else .bad
  | _, _ => .bad
def iRng2 (f g : M D) : M ItD := bnd f fun d => bnd g fun e => kRng2 d e
theorem si_rng1 {tg a : Expr} {p pos : Pos} {f : M D} (hg : Gl X "range") (hm : X.mg "range" = none) (h : SE w X a f) (hs : starEach [a] X.env = [(false, eval a X.env)] := by rfl) : SI w X tg (.Call (.Name "range" p) [a] [] pos) (iRng1 f) := fun W tk =>
  PI.imp (pi_range1 hg hm (pa_cons (h W tk) pa_nil hs) hs) fun σ H R ⟨F, ρ, st, r, p⟩ => ⟨F, ρ, st, r, post_bnd p fun d v F1 ρ1 H1 so1 x1 r1 q1 p1 => by
    unfold kRng1 at p1
    split at p1
    · rename_i j
      by_cases hj : small62 j = true
      · rw [if_pos hj] at p1
        cases q1
        have := of_decide_eq_true hj
        exact ⟨j, rfl, this.1, this.2, p1 _ F1 ρ1 H1 (Ext.refl _ _) r1 it_rng⟩
      · rw [if_neg hj] at p1; exact p1.elim
    · exact p1.elim⟩
theorem si_rng2 {tg a b : Expr} {p pos : Pos} {f g : M D} (hg : Gl X "range") (hm : X.mg "range" = none) (h : SE w X a f) (k : SE w X b g) (hs : starEach [a, b] X.env = [(false, eval a X.env), (false, eval b X.env)] := by rfl) (hs2 : starEach [b] X.env = [(false, eval b X.env)] := by rfl) : SI w X tg (.Call (.Name "range" p) [a, b] [] pos) (iRng2 f g) := fun W tk =>
  PI.imp (pi_range2 hg hm (pa_cons (h W tk) (pa_cons (k W tk) pa_nil hs2) (by rw [hs, hs2])) hs hs2) fun σ H R ⟨F, ρ, st, r, p⟩ => ⟨F, ρ, st, r, post_bnd p fun d v F1 ρ1 H1 so1 x1 r1 q1 p1 => ⟨F1, ρ1, _, r1, post_bnd p1 fun d2 v2 F2 ρ2 H2 so2 x2 r2 q2 p2 => by
    unfold kRng2 at p2
    split at p2
    · rename_i i j
      by_cases hj : small62 i = true ∧ small62 j = true
      · rw [if_pos hj] at p2
        cases q1
        cases q2
        have h1 := of_decide_eq_true hj.1
        have h2 := of_decide_eq_true hj.2
        exact ⟨i, j, rfl, ⟨h1.1, h1.2, h2.1, h2.2⟩, p2 _ F2 ρ2 H2 (Ext.refl _ _) r2 it_rng⟩
      · rw [if_neg hj] at p2; exact p2.elim
    · exact p2.elim⟩⟩
/-- enumerate(xs), zip(xs, ys) -/
def kEnu (d : D) : M ItD := fun st => match srcOf st.so d with
  | some s => .ok (.enu s) st.so
  | none => .bad
def iEnu (f : M D) : M ItD := bnd f kEnu
theorem si_enu {e : Expr} {p pos tpos : Pos} {elts : List Expr} {kk : Nat} {f : M D} (c : Cok w X) (hg : Gl X "enumerate") (hm : X.mg "enumerate" = none) (h : SE w X e f) (hs : starEach [e] X.env = [(false, eval e X.env)] := by rfl) :
    SI w X (.Tuple elts kk tpos) (.Call (.Name "enumerate" p) [e] [] pos) (iEnu f) := fun W tk =>
  PI.imp (pi_enum hg hm (pa_cons (h W tk) pa_nil hs) hs) fun σ H R ⟨F, ρ, st, r, p⟩ => ⟨F, ρ, st, r, post_bnd p fun d v F1 ρ1 H1 so1 x1 r1 q1 p1 => by
    unfold kEnu at p1
    dsimp only at p1
    split at p1
    · rename_i s e2
      obtain ⟨a, vs, rfl, h1, h2⟩ := src_of r1.s q1 e2
      exact ⟨a, vs, rfl, SqL.of h2, by rw [c.K]; exact p1 _ F1 ρ1 H1 (Ext.refl _ _) r1 (it_enu h1)⟩
    · exact p1.elim⟩
def kZip (d e : D) : M ItD := fun st => match srcOf st.so d, srcOf st.so e with
  | some s, some t => .ok (.zip s t) st.so
  | _, _ => match d, e with
    | .tuple ds, .tuple es => .ok (.zip (.fz ds) (.fz es)) st.so
    | _, _ => .bad
def iZip (f g : M D) : M ItD := bnd f fun d => bnd g fun e => kZip d e
theorem SrcAt.up {s : Src} {a : Addr} (x : Ext F ρ F' ρ') (h : SrcAt w F ρ s a) : SrcAt w F' ρ' s a := by
  cases h with
  | fz h1 h2 => exact .fz (x.le _ _ h1) (x.vrs h2)
  | lv h => exact .lv (pre_get x.pre h)
theorem si_zip {e e2 : Expr} {p pos tpos : Pos} {elts : List Expr} {kk : Nat} {f g : M D} (c : Cok w X) (hg : Gl X "zip") (hm : X.mg "zip" = none) (h : SE w X e f) (k : SE w X e2 g)
    (hs : starEach [e, e2] X.env = (false, eval e X.env) :: starEach [e2] X.env := by rfl) (hs2 : starEach [e2] X.env = (false, eval e2 X.env) :: starEach [] X.env := by rfl) (hpl : (backTo pos (starEach [e2] X.env)).any (·.1) = false := by rfl) :
    SI w X (.Tuple elts kk tpos) (.Call (.Name "zip" p) [e, e2] [] pos) (iZip f g) := fun W tk =>
  PI.imp (RZ.pi_zipA hg hm (pa_cons (h W tk) (pa_cons (k W tk) pa_nil hs2) hs) hs hpl) fun σ H R ⟨F, ρ, st, r, p⟩ => ⟨F, ρ, st, r, post_bnd p fun d v F1 ρ1 H1 so1 x1 r1 q1 p1 => ⟨F1, ρ1, _, r1, post_bnd p1 fun d2 v2 F2 ρ2 H2 so2 x2 r2 q2 p2 => by
    rw [c.K]
    unfold kZip at p2
    dsimp only at p2
    have q1' := x2.vr q1
    split at p2
    · rename_i s t e1 e2
      obtain ⟨a, vs, rfl, h1, h2⟩ := src_of r2.s q1' e1
      obtain ⟨b, us, rfl, k1, k2⟩ := src_of r2.s q2 e2
      exact ⟨a, b, vs, us, rfl, .inl ⟨SqL.of h2, SqL.of k2, p2 _ F2 ρ2 H2 (Ext.refl _ _) r2 (it_zip h1 k1)⟩⟩
    · split at p2
      · cases q1' with
        | tup a1 a2 =>
          cases q2 with
          | tup b1 b2 => exact ⟨_, _, _, _, rfl, .inr ⟨r2.s.le.sqT a1, r2.s.le.sqT b1, p2 _ F2 ρ2 H2 (Ext.refl _ _) r2 (it_zipT a1 a2 b1 b2)⟩⟩
      · exact p2.elim⟩⟩
end
end EV
end
section
set_option Elab.async false
set_option linter.all false
set_option maxRecDepth 100000
set_option maxHeartbeats 4000000
namespace EV
open PySem L2
section
variable {w : Wd} {X : Cx} {F F' : Hp} {ρ ρ' : List Addr} {σ : L2.St} {H H' : Hp} {st : St} {so so' : List SO} {vars : List (Option D)}

/-- the context of a body -/
structure Bok (w : Wd) (X : Cx) : Prop where
  c : Cok w X
  po : PassesOwn (model X.prog X.w) X.A X.env X.xe

/-! ### for -/
def forGo (g : MT) (b : MS) (it : ItD) : Nat → Nat → MS
  | 0, _, _ => .bad
  | m + 1, i, st => match nextI it st.so i with
    | none => .bad
    | some none => .ok .nx st
    | some (some d) => match g d st with
      | .ok st1 => match b st1 with
        | .ok .nx st2 => forGo g b it m (i + 1) st2
        | .ok .ct st2 => forGo g b it m (i + 1) st2
        | .ok .bk st2 => .ok .nx st2
        | .ok (.ret d) st2 => .ok (.ret d) st2
        | .exc c st2 => .exc c st2
        | .bad => .bad
      | .exc c st1 => .exc c st1
      | .bad => .bad
def sFor (it : M ItD) (g : MT) (b : MS) : MS := bndS it fun it st => forGo g b it (fuelI it st.so) 0 st
theorem ss_for {tg iter : Expr} {body : List Stmt} {pos : Pos} {T : List Nat} {fi : M ItD} {g : MT} {b : MS} (c : Bok w X) (hi : SI w X tg iter fi) (hg : SG w X tg T g) (hb : SSs w X body b)
    (hs : ∀ x, foldedSetIterable iter X.env x = pure x := by intro _; rfl) : SS w X (.For tg iter body [] pos) (sFor fi g b) := fun W tk =>
  PS.imp (ps_for c.po c.c.calm (hi W tk) (hg W tk) (hb W tk) hs) fun D σ H ⟨F, ρ, st, r, p⟩ => ⟨F, ρ, st, r, post_bndS r p fun it J F1 ρ1 H1 so1 x1 r1 q1 p1 => by
    refine ⟨fun i m σ' H' => ∃ F' ρ' st', Ext F1 ρ1 F' ρ' ∧ Rel w F' ρ' σ' H' st' ∧ PostS w F' ρ' W (forGo g b it m i st') D, ⟨_, F1, ρ1, _, Ext.refl _ _, r1, p1⟩, ?_⟩
    rintro i m σ2 H2 ⟨F2, ρ2, st2, x2, r2, p2⟩
    cases m with
    | zero => exact p2.elim
    | succ m =>
      have z := q1 i F2 ρ2 H2 st2.so x2 r2.s
      unfold forGo at p2
      cases e : nextI it st2.so i with
      | none => rw [e] at p2; exact p2.elim
      | some o =>
        cases o with
        | none =>
          rw [e] at p2 z
          exact .inl ⟨z, p2 σ2 F2 ρ2 H2 (Ext.refl _ _) r2⟩
        | some d =>
          rw [e] at p2 z
          dsimp only at p2 z
          refine .inr ⟨z.1, fun σ' H' => ∃ F' ρ' st', Ext F1 ρ1 F' ρ' ∧ Rel w F' ρ' σ' H' st' ∧ PostS w F' ρ' W (forGo g b it m (i + 1) st') D, fun σ' H' n => ⟨m, Nat.lt_succ_self m, n⟩, fun x H3 y => ?_⟩
          obtain ⟨F3, x3, r3, v3⟩ := z.2 x H3 y
          refine ⟨F3, ρ2, st2, d, r2.up x3 r3, v3, ?_⟩
          cases e2 : g d st2 with
          | bad => rw [e2] at p2; exact p2.elim
          | exc k st3 =>
            rw [e2] at p2
            exact fun σ4 F4 ρ4 H4 x4 r4 => p2 σ4 F4 ρ4 H4 (x3.trans x4) r4
          | ok st3 =>
            rw [e2] at p2
            dsimp only at p2
            intro σ4 F4 ρ4 H4 x4 r4 _
            refine ⟨F4, ρ4, st3, r4, ?_⟩
            have x04 := x3.trans x4
            have p3 := p2.up x04
            revert p3
            cases b st3 with
            | bad => exact fun p => p
            | exc k st4 => exact fun p => p
            | ok f st4 =>
              cases f with
              | nx => exact fun p σ5 F5 ρ5 H5 x5 r5 => ⟨F5, ρ5, st4, (x2.trans x04).trans x5, r5, p.up x5⟩
              | ct => exact fun p σ5 F5 ρ5 H5 x5 r5 => ⟨F5, ρ5, st4, (x2.trans x04).trans x5, r5, p.up x5⟩
              | bk => exact fun p => p
              | ret d => exact fun p => p⟩

/-! ### while -/
def whGo (c : M Bool) (b : MS) : Nat → MS
  | 0, _ => .bad
  | m + 1, st => bndS c (fun t st1 => if t = true then (match b st1 with
    | .ok .nx st2 => whGo c b m st2
    | .ok .ct st2 => whGo c b m st2
    | .ok .bk st2 => .ok .nx st2
    | .ok (.ret d) st2 => .ok (.ret d) st2
    | .exc k st2 => .exc k st2
    | .bad => .bad) else .ok .nx st1) st
/-- fuel: turns enough, by the state -/
def sWhile (fuel : St → Nat) (c : M Bool) (b : MS) : MS := fun st => whGo c b (fuel st) st
theorem ss_while {c : Expr} {body : List Stmt} {pos : Pos} {fc : M Bool} {b : MS} (fuel : St → Nat) (k : Bok w X) (hc : SB w X c fc) (hb : SSs w X body b) : SS w X (.While c body [] pos) (sWhile fuel fc b) := fun W tk =>
  PS.imp (ps_while k.po (hc W tk) (hb W tk)) fun D σ H ⟨F, ρ, st, r, p⟩ => by
    refine ⟨fun m σ' H' => ∃ F' ρ' st', Rel w F' ρ' σ' H' st' ∧ PostS w F' ρ' W (whGo fc b m st') D, ⟨_, F, ρ, st, r, p⟩, ?_⟩
    rintro m σ2 H2 ⟨F2, ρ2, st2, r2, p2⟩
    cases m with
    | zero => exact p2.elim
    | succ m =>
      unfold whGo at p2
      refine ⟨F2, ρ2, st2, r2, post_bndS r2 p2 fun t t' F3 ρ3 H3 so3 x3 r3 q3 p3 => ?_⟩
      cases q3
      cases t with
      | false => exact p3 σ2 F3 ρ3 H3 (Ext.refl _ _) r3
      | true =>
        rw [if_pos rfl] at p3
        rw [if_pos rfl]
        refine ⟨fun σ' H' => ∃ F' ρ' st', Rel w F' ρ' σ' H' st' ∧ PostS w F' ρ' W (whGo fc b m st') D, fun σ' H' n => ⟨m, Nat.lt_succ_self m, n⟩, F3, ρ3, _, r3, ?_⟩
        revert p3
        cases b ⟨st2.vars, so3⟩ with
        | bad => exact fun p => p
        | exc k st4 => exact fun p => p
        | ok f st4 =>
          cases f with
          | nx => exact fun p σ5 F5 ρ5 H5 x5 r5 => ⟨F5, ρ5, st4, r5, p.up x5⟩
          | ct => exact fun p σ5 F5 ρ5 H5 x5 r5 => ⟨F5, ρ5, st4, r5, p.up x5⟩
          | bk => exact fun p => p
          | ret d => exact fun p => p

/-! ### a dict is locked while a statement or an expression runs -/
/-- F without the address a -/
def cutH (F : Hp) (a : Addr) : Hp := fun b => if b = a then none else F b
section
variable {K : PySem.W.Frag} {a : Addr} {o : Obj} {vs : List (Key × V)}
theorem cutH_ne {b : Addr} (h : b ≠ a) : cutH F a b = F b := if_neg h
theorem cutH_sq {b : Addr} {xs : List V} (h : F a = some (.frz o (.dK vs))) (q : SqT K F b xs) : SqT K (cutH F a) b xs := by
  refine q.imp (fun z => z.imp (fun e => ?_) (fun ⟨o', e⟩ => ⟨o', ?_⟩)) id
  · rw [cutH_ne (fun z => by rw [z, h] at e; cases e)]; exact e
  · rw [cutH_ne (fun z => by rw [z, h] at e; cases e)]; exact e
theorem cutH_sqL {b : Addr} {xs : List V} (h : F a = some (.frz o (.dK vs))) (q : SqL K F b xs) : SqL K (cutH F a) b xs := by
  refine q.imp (fun z => z.imp (fun e => ?_) (fun ⟨o', e⟩ => ⟨o', ?_⟩)) id
  · rw [cutH_ne (fun z => by rw [z, h] at e; cases e)]; exact e
  · rw [cutH_ne (fun z => by rw [z, h] at e; cases e)]; exact e
mutual
theorem VR.unlock (h : F a = some (.frz o (.dK vs))) : ∀ {d : D} {v : V}, VR K F ρ d v → VR K (cutH F a) ρ d v
  | _, _, .non => .non
  | _, _, .bl b => .bl b
  | _, _, .int i => .int i
  | _, _, .str x => .str x
  | _, _, .tup q r => .tup (cutH_sq h q) (VRs.unlock h r)
  | _, _, .lst q r => .lst (by rw [cutH_ne (fun z => by rw [z, h] at q; cases q)]; exact q) (VRs.unlock h r)
  | _, _, .scr q r => .scr (cutH_sqL h q) (VRs.unlock h r)
  | _, _, .ref q => .ref q
theorem VRs.unlock (h : F a = some (.frz o (.dK vs))) : ∀ {ds : List D} {vs : List V}, VRs K F ρ ds vs → VRs K (cutH F a) ρ ds vs
  | _, _, .nil => .nil
  | _, _, .cons q r => .cons (VR.unlock h q) (VRs.unlock h r)
end
end
def lockSo (so : List SO) (n : Nat) : Option (List SO) := match so[n]? with
  | some (.dct kvs) => some (so.set n (.dlk kvs))
  | _ => none
def unlockSo (so : List SO) (n : Nat) : Option (List SO) := match so[n]? with
  | some (.dlk kvs) => some (so.set n (.dct kvs))
  | _ => none
theorem RelS.lock {n : Nat} {kvs : List (Key × D)} (r : RelS w F ρ H so) (e : so[n]? = some (.dct kvs)) : ∃ d vs, ρ[n]? = some d ∧ F d = none ∧ H d = some (.dK vs) ∧
    ∀ od, RelS w (upd F d (.frz od (.dK vs))) ρ (upd H d (.frz od (.dK vs))) (so.set n (.dlk kvs)) ∧ Ext F ρ (upd F d (.frz od (.dK vs))) ρ := by
  obtain ⟨d, e1, e0, vs, e2, e3⟩ := r.obj n _ e
  refine ⟨d, vs, e1, e0, e2, fun od => ?_⟩
  have x : Ext F ρ (upd F d (.frz od (.dK vs))) ρ := ⟨Sub.new e0, List.prefix_refl _⟩
  refine ⟨⟨r.le.both, by rw [List.length_set]; exact r.len, r.nd, fun m ob q => ?_, fun q hq => ?_, fun b ps q => ?_⟩, x⟩
  rotate_right
  · by_cases hb : b = d
    · rw [hb, upd_same] at q
      cases q
    · rw [upd_ne hb] at q
      exact r.nt b ps q
  · by_cases hm : m = n
    · subst hm
      have hl : m < so.length := (List.getElem?_eq_some_iff.mp e).1
      rw [List.getElem?_set_self hl] at q
      cases q
      exact ⟨d, e1, od, vs, upd_same, e3.mono fun _ _ => x.vr⟩
    · rw [List.getElem?_set_ne (Ne.symm hm)] at q
      obtain ⟨b, q1, q3⟩ := r.obj m ob q
      have ne : b ≠ d := fun z => by
        subst z
        have h1 := List.getElem?_eq_some_iff.mp e1
        have h2 := List.getElem?_eq_some_iff.mp q1
        exact hm ((List.getElem_inj r.nd).mp (h2.2.trans h1.2.symm))
      exact ⟨b, q1, q3.keep x (fun z => by rw [upd_ne ne]; exact z) (upd_ne ne)⟩
  · obtain ⟨ps, h1, h2, h3⟩ := r.tabs q hq
    have n1 : q.1 ≠ d := fun z => by rw [z, e2] at h1; cases h1
    refine ⟨ps, by rw [upd_ne n1]; exact h1, h2, fun pos cv hc => ?_⟩
    obtain ⟨c, e1', e2'⟩ := h3 pos cv hc
    have n2 : c ≠ d := fun z => by rw [z, e2] at e2'; cases e2'
    exact ⟨c, e1', by rw [upd_ne n2]; exact e2'⟩
theorem RelS.unlock {n : Nat} {d : Addr} {od : Obj} {vs : List (Key × V)} {kvs : List (Key × D)} (r : RelS w F ρ H so) (e : so[n]? = some (.dlk kvs)) (e1 : ρ[n]? = some d) (hF : F d = some (.frz od (.dK vs))) :
    RelS w (cutH F d) ρ (upd H d (.dK vs)) (so.set n (.dct kvs)) ∧ (∀ {dd : D} {v : V}, VR w.K F ρ dd v → VR w.K (cutH F d) ρ dd v) := by
  have hH := r.le _ _ hF
  have up : ∀ {dd : D} {v : V}, VR w.K F ρ dd v → VR w.K (cutH F d) ρ dd v := VR.unlock hF
  obtain ⟨d', e2, o', vs', e3, e4⟩ := r.obj n _ e
  rw [e1] at e2
  cases e2
  rw [hF] at e3
  cases e3
  refine ⟨⟨fun b u q => ?_, by rw [List.length_set]; exact r.len, r.nd, fun m ob q => ?_, fun q hq => ?_, fun b ps q => ?_⟩, up⟩
  rotate_right
  · by_cases hb : b = d
    · rw [hb] at q
      unfold cutH at q
      rw [if_pos rfl] at q
      cases q
    · rw [cutH_ne hb] at q
      exact r.nt b ps q
  · have ne : b ≠ d := fun z => by rw [z] at q; unfold cutH at q; rw [if_pos rfl] at q; cases q
    rw [cutH_ne ne] at q
    rw [upd_ne ne]
    exact r.le _ _ q
  · by_cases hm : m = n
    · subst hm
      have hl : m < so.length := (List.getElem?_eq_some_iff.mp e).1
      rw [List.getElem?_set_self hl] at q
      cases q
      exact ⟨d, e1, if_pos rfl, vs, upd_same, e4.mono fun _ _ => up⟩
    · rw [List.getElem?_set_ne (Ne.symm hm)] at q
      obtain ⟨b, q1, q3⟩ := r.obj m ob q
      have ne : b ≠ d := fun z => by
        subst z
        have h1 := List.getElem?_eq_some_iff.mp e1
        have h2 := List.getElem?_eq_some_iff.mp q1
        exact hm ((List.getElem_inj r.nd).mp (h2.2.trans h1.2.symm))
      refine ⟨b, q1, ?_⟩
      cases ob with
      | lst xs => obtain ⟨h0, us, h1, h2⟩ := q3; exact ⟨by rw [cutH_ne ne]; exact h0, us, by rw [upd_ne ne]; exact h1, VRs.unlock hF h2⟩
      | dct xs => obtain ⟨h0, us, h1, h2⟩ := q3; exact ⟨by rw [cutH_ne ne]; exact h0, us, by rw [upd_ne ne]; exact h1, h2.mono fun _ _ => up⟩
      | dlk xs => obtain ⟨o', us, h1, h2⟩ := q3; exact ⟨o', us, by rw [cutH_ne ne]; exact h1, h2.mono fun _ _ => up⟩
      | ins c xs => obtain ⟨h0, dx, us, h1, h2⟩ := q3; exact ⟨by rw [cutH_ne ne]; exact h0, dx, us, by rw [upd_ne ne]; exact h1, h2.mono fun _ _ => up⟩
      | scr xs =>
        obtain ⟨h0, us, h1, h2⟩ := q3
        exact ⟨by rw [cutH_ne ne]; exact h0, us, cutH_sqL hF h1, VRs.unlock hF h2⟩
      | lam j =>
        obtain ⟨c', pm, ctv, h1, h2⟩ := q3
        refine ⟨c', pm, ctv, by rw [cutH_ne ne]; exact h1, ?_⟩
        rw [cutH_ne (fun z => by rw [z, hF] at h2; cases h2)]
        exact h2
      | dead => show (cutH F d b).isSome = true; rw [cutH_ne ne]; exact q3
  · obtain ⟨ps, h1, h2, h3⟩ := r.tabs q hq
    have n1 : q.1 ≠ d := fun z => by rw [z, hH] at h1; cases h1
    refine ⟨ps, by rw [upd_ne n1]; exact h1, h2, fun pos cv hc => ?_⟩
    obtain ⟨c, e1', e2'⟩ := h3 pos cv hc
    have n2 : c ≠ d := fun z => by rw [z, hH] at e2'; cases e2'
    exact ⟨c, e1', by rw [upd_ne n2]; exact e2'⟩
/-- which dict: the one e comes to -/
def pickD (f : M D) (st : St) : Option Nat := match f st with
  | .ok (.dict [(.int n, .none)]) so => some n.toNat
  | _ => none
def sLock (f : M D) (g : MS) : MS := fun st => match pickD f st with
  | some n => (match lockSo st.so n with
    | some so => (match g ⟨st.vars, so⟩ with
      | .ok fl st1 => (match unlockSo st1.so n with
        | some so1 => .ok fl ⟨st1.vars, so1⟩
        | none => .bad)
      | .exc _ _ => .bad
      | .bad => .bad)
    | none => .bad)
  | none => .bad
def WN : WX := fun _ _ _ _ => False
theorem takes_none : Takes X WN := fun u s' ⟨a, B, sI, pins, σ, H, cls, d, e, I, nb, up, sky, na, os, ag, h⟩ => h.elim
theorem Ext.unlock {d : Addr} (h : F d = none) (x : Ext F ρ F' ρ') : Ext F ρ (cutH F' d) ρ' := ⟨fun b u q => by rw [cutH_ne (fun z => by rw [z, h] at q; cases q)]; exact x.le b u q, x.pre⟩
theorem Rel.unlock {n : Nat} {d : Addr} {od : Obj} {vs : List (Key × V)} (r : Rel w F ρ σ H st) (e : unlockSo st.so n = some so') (e1 : ρ[n]? = some d) (hF : F d = some (.frz od (.dK vs))) : Rel w (cutH F d) ρ σ (upd H d (.dK vs)) ⟨st.vars, so'⟩ ∧ (∀ {dd : D} {v : V}, VR w.K F ρ dd v → VR w.K (cutH F d) ρ dd v) := by
  unfold unlockSo at e
  split at e <;> cases e
  rename_i e2
  obtain ⟨r2, up⟩ := r.s.unlock e2 e1 hF
  exact ⟨⟨r2, r.len, fun i dd q => let ⟨v, a, b⟩ := r.var i dd q; ⟨v, a, up b⟩⟩, up⟩
theorem ss_lock {s : Stmt} {g : MS} (f : M D) (h : SS w X s g) : SS w X s (sLock f g) := fun W tk =>
  PS.imp (ps_lock (h WN takes_none)) fun D σ H ⟨F, ρ, st, r, p⟩ => by
    unfold sLock at p
    cases e0 : pickD f st with
    | none => rw [e0] at p; exact p.elim
    | some n =>
      rw [e0] at p
      dsimp only at p
      cases e1 : lockSo st.so n with
      | none => rw [e1] at p; exact p.elim
      | some so1 =>
        rw [e1] at p
        dsimp only at p
        unfold lockSo at e1
        split at e1 <;> cases e1
        rename_i kvs e2
        obtain ⟨d, vs, hd, h0, hH, hl⟩ := r.s.lock e2
        refine ⟨d, _, hH, trivial, fun od => ?_⟩
        obtain ⟨r2, x2⟩ := hl od
        refine ⟨_, ρ, ⟨st.vars, _⟩, r.up x2 r2, ?_⟩
        revert p
        cases g ⟨st.vars, st.so.set n (.dlk kvs)⟩ with
        | bad => exact fun p => p
        | exc k st1 => exact fun p => p.elim
        | ok fl st1 =>
          intro p
          dsimp only at p
          cases e3 : unlockSo st1.so n with
          | none => rw [e3] at p; exact p.elim
          | some so3 =>
            rw [e3] at p
            dsimp only at p
            have fin : ∀ (σ' : L2.St) (F' : Hp) (ρ' : List Addr) (H' : Hp), Ext (upd F d (.frz od (.dK vs))) ρ F' ρ' → Rel w F' ρ' σ' H' st1 → H' d = some (.frz od (.dK vs)) ∧ Ext F ρ (cutH F' d) ρ' ∧ Rel w (cutH F' d) ρ' σ' (upd H' d (.dK vs)) ⟨st1.vars, so3⟩ ∧ (∀ {dd : EV.D} {v : V}, VR w.K F' ρ' dd v → VR w.K (cutH F' d) ρ' dd v) := fun σ' F' ρ' H' x' r' => by
              have hF := x'.le _ _ (upd_same (H := F) (a := d) (o := .frz od (.dK vs)))
              obtain ⟨r3, up⟩ := r'.unlock e3 (pre_get x'.pre hd) hF
              exact ⟨r'.s.le _ _ hF, (x2.trans x').unlock h0, r3, up⟩
            cases fl with
            | nx => exact fun σ' F' ρ' H' x' r' => let ⟨a, b, c, _⟩ := fin σ' F' ρ' H' x' r'; ⟨a, p σ' _ ρ' _ b c⟩
            | ct => exact fun σ' F' ρ' H' x' r' => let ⟨a, b, c, _⟩ := fin σ' F' ρ' H' x' r'; ⟨a, p σ' _ ρ' _ b c⟩
            | bk => exact fun σ' F' ρ' H' x' r' => let ⟨a, b, c, _⟩ := fin σ' F' ρ' H' x' r'; ⟨a, p σ' _ ρ' _ b c⟩
            | ret dd => exact fun v σ' F' ρ' H' x' r' q' => let ⟨a, b, c, up⟩ := fin σ' F' ρ' H' x' r'; ⟨a, p v σ' _ ρ' _ b c (up q')⟩
def eLock (f g : M D) : M D := fun st => match pickD f st with
  | some n => (match lockSo st.so n with
    | some so => (match g ⟨st.vars, so⟩ with
      | .ok d so1 => (match unlockSo so1 n with
        | some so2 => .ok d so2
        | none => .bad)
      | .exc _ _ => .bad
      | .bad => .bad)
    | none => .bad)
  | none => .bad
theorem se_lock {e : Expr} {g : M D} (f : M D) (h : SE w X e g) : SE w X e (eLock f g) := fun W tk =>
  PE.imp (pe_lock (h WN takes_none)) fun σ H Q ⟨F, ρ, st, r, p⟩ => by
    unfold eLock at p
    cases e0 : pickD f st with
    | none => rw [e0] at p; exact p.elim
    | some n =>
      rw [e0] at p
      dsimp only at p
      cases e1 : lockSo st.so n with
      | none => rw [e1] at p; exact p.elim
      | some so1 =>
        rw [e1] at p
        dsimp only at p
        unfold lockSo at e1
        split at e1 <;> cases e1
        rename_i kvs e2
        obtain ⟨d, vs, hd, h0, hH, hl⟩ := r.s.lock e2
        refine ⟨d, _, hH, trivial, fun od => ?_⟩
        obtain ⟨r2, x2⟩ := hl od
        refine ⟨_, ρ, ⟨st.vars, _⟩, r.up x2 r2, ?_⟩
        revert p
        cases g ⟨st.vars, st.so.set n (.dlk kvs)⟩ with
        | bad => exact fun p => p
        | exc k st1 => exact fun p => p.elim
        | ok dd so3 =>
          intro p
          dsimp only at p
          cases e3 : unlockSo so3 n with
          | none => rw [e3] at p; exact p.elim
          | some so4 =>
            rw [e3] at p
            dsimp only at p
            intro v F' ρ' H' x' r' q'
            have hF := x'.le _ _ (upd_same (H := F) (a := d) (o := .frz od (.dK vs)))
            obtain ⟨r3, up⟩ := r'.unlock e3 (pre_get x'.pre hd) hF
            exact ⟨r'.s.le _ _ hF, p v _ ρ' _ ((x2.trans x').unlock h0) r3 (up q')⟩
end
end EV
end
section
set_option Elab.async false
set_option linter.all false
set_option maxRecDepth 100000
set_option maxHeartbeats 4000000
namespace EV
open PySem L2
section
variable {w : Wd} {X : Cx} {F F' : Hp} {ρ ρ' : List Addr} {σ : L2.St} {H H' : Hp} {st : St} {so so' : List SO} {vars : List (Option D)}

/-! ### list comprehensions -/
def wipeD (vars : List (Option D)) : List Nat → List (Option D)
  | [] => vars
  | v :: vs => (wipeD vars vs).set v none
theorem Rel.unset {i : Nat} (r : Rel w F ρ σ H st) : Rel w F ρ (σ.set i none) H ⟨st.vars.set i none, st.so⟩ := by
  refine ⟨r.s, by rw [List.length_set, List.length_set]; exact r.len, fun j e h => ?_⟩
  by_cases hj : i = j
  · subst hj
    by_cases hl : i < st.vars.length
    · rw [List.getElem?_set_self hl] at h
      cases h
    · rw [List.getElem?_eq_none (by rw [List.length_set]; omega)] at h
      cases h
  · rw [List.getElem?_set_ne hj] at h
    rw [List.getElem?_set_ne hj]
    exact r.var j e h
theorem Rel.wipe (r : Rel w F ρ σ H ⟨vars, so⟩) : ∀ vs : List Nat, Rel w F ρ (L2.wipe σ vs) H ⟨wipeD vars vs, so⟩
  | [] => r
  | v :: vs => (Rel.wipe r vs).unset
def lcGo (g : MT) (t : M Bool) (e : M D) (it : ItD) (vs : List Nat) (vars : List (Option D)) (n0 : Nat) : Nat → Nat → List SO → Option (List SO)
  | 0, _, _ => none
  | m + 1, i, so => match nextI it so i with
    | none => none
    | some none => some so
    | some (some d) => match g d ⟨wipeD vars vs, so⟩ with
      | .ok st1 => match t st1 with
        | .ok false so2 => lcGo g t e it vs vars n0 m (i + 1) so2
        | .ok true so2 => match e ⟨st1.vars, so2⟩ with
          | .ok y so3 => match so3[n0]? with
            | some (.lst acc) => if acc.length < mx then lcGo g t e it vs vars n0 m (i + 1) (so3.set n0 (.lst (acc ++ [y]))) else none
            | _ => none
          | _ => none
        | _ => none
      | _ => none
def lcEnd (live : Bool) (n : Nat) (so : List SO) : R D := if live = true then .ok (rf n) so else match so[n]? with
  | some (.lst xs) => gcR n (.ok (.list xs) (so.set n .dead))
  | _ => .bad
def eLc (live : Bool) (fi : M ItD) (g : MT) (t : M Bool) (e : M D) (vs : List Nat) : M D := bnd fi fun it st =>
  match lcGo g t e it vs st.vars st.so.length (fuelI it st.so) 0 (st.so ++ [.lst []]) with
  | some so => lcEnd live st.so.length so
  | none => .bad
theorem lc_tr {W : WX} {live : Bool} {fi : M ItD} {T : List Nat} {g : MT} {t : M Bool} {e : M D} {vs : List Nat} {Q : VK} (hT : ∀ i ∈ T, i ∈ vs) (h : trE w W (eLc live fi g t e vs) σ H Q) :
    tLc (trI w W fi) (trG w WN T g) (trT w WN t) (trE w WN e) vs σ H Q := by
  obtain ⟨F, ρ, st, r, p⟩ := h
  refine ⟨F, ρ, st, r, post_bnd p fun it J F1 ρ1 H1 so1 x1 r1 q1 p1 => fun D hD => ?_⟩
  dsimp only at p1
  obtain ⟨r2, x2⟩ := r1.s.live (u := .lst []) (o := .lst []) hD ⟨[], upd_same, .nil⟩
  have hn : (ρ1 ++ [D])[so1.length]? = some D := by rw [← r1.s.len]; simp
  refine ⟨fun i m H' => ∃ F' ρ' so', Ext F1 (ρ1 ++ [D]) F' ρ' ∧ Rel w F' ρ' σ H' ⟨st.vars, so'⟩ ∧ (match lcGo g t e it vs st.vars so1.length m i so' with
    | some so => ∀ F2 ρ2 H2, Ext F1 (ρ1 ++ [D]) F2 ρ2 → Rel w F2 ρ2 σ H2 ⟨st.vars, so⟩ → Q (.ref D) H2
    | none => False), ⟨fuelI it so1, F1, ρ1 ++ [D], so1 ++ [.lst []], Ext.refl _ _, r1.up x2 r2, ?_⟩, ?_⟩
  · revert p1
    cases lcGo g t e it vs st.vars so1.length (fuelI it so1) 0 (so1 ++ [.lst []]) with
    | none => exact fun p => p
    | some so3 =>
      dsimp only
      intro p1 F2 ρ2 H2 x3 r3
      unfold lcEnd at p1
      cases live with
      | true => exact p1 (.ref D) F2 ρ2 H2 (x2.trans x3) r3 (.ref (pre_get x3.pre hn))
      | false =>
        rw [if_neg Bool.false_ne_true] at p1
        cases e0 : so3[so1.length]? with
        | none => rw [e0] at p1; exact p1.elim
        | some o =>
          cases o with
          | lst xs =>
            rw [e0] at p1
            dsimp only at p1
            obtain ⟨F3, r4, x4, hv⟩ := r3.s.kill (pre_get x3.pre hn) e0
            unfold gcR at p1
            dsimp only at p1
            by_cases hg : lim so1.length (.list xs) = true ∧ gcOk so1.length (so3.set so1.length .dead) = true
            · rw [if_pos hg] at p1
              have r5 := r4.cut hg.2
              have hl : ρ2.take so1.length = ρ1 := by
                rw [← r1.s.len]
                exact pre_take ((List.prefix_append ρ1 [D]).trans x3.pre)
              rw [hl] at r5
              have x5 : Ext F1 ρ1 F3 ρ1 := ⟨x3.le.trans x4.le, List.prefix_refl _⟩
              have hv2 := hv.cut hg.1
              rw [hl] at hv2
              exact p1 _ F3 ρ1 H2 x5 (r1.up x5 r5) hv2
            · rw [if_neg hg] at p1
              exact p1 _ F3 ρ2 H2 ((x2.trans x3).trans x4) (r3.up x4 r4) hv
          | dct _ => rw [e0] at p1; exact p1.elim
          | dlk _ => rw [e0] at p1; exact p1.elim
          | ins _ _ => rw [e0] at p1; exact p1.elim
          | lam _ => rw [e0] at p1; exact p1.elim
          | scr _ => rw [e0] at p1; exact p1.elim
          | dead => rw [e0] at p1; exact p1.elim
  · rintro i m H3 ⟨F3, ρ3, so3, x3, r3, p3⟩
    cases m with
    | zero => exact p3.elim
    | succ m =>
      have z := q1 i F3 ρ3 H3 so3 (x2.trans x3) r3.s
      unfold lcGo at p3
      cases e0 : nextI it so3 i with
      | none => rw [e0] at p3; exact p3.elim
      | some o =>
        cases o with
        | none =>
          rw [e0] at p3 z
          exact .inl ⟨z, p3 F3 ρ3 H3 x3 r3⟩
        | some d =>
          rw [e0] at p3 z
          dsimp only at p3 z
          refine .inr ⟨z.1, fun H' => ∃ F' ρ' so', Ext F1 (ρ1 ++ [D]) F' ρ' ∧ Rel w F' ρ' σ H' ⟨st.vars, so'⟩ ∧ (match lcGo g t e it vs st.vars so1.length m (i + 1) so' with
            | some so => ∀ F2 ρ2 H2, Ext F1 (ρ1 ++ [D]) F2 ρ2 → Rel w F2 ρ2 σ H2 ⟨st.vars, so⟩ → Q (.ref D) H2
            | none => False), fun H' n => ⟨m, Nat.lt_succ_self m, n⟩, fun x H4 y => ?_⟩
          obtain ⟨F4, x4, r4, v4⟩ := z.2 x H4 y
          have r5 := (r3.up x4 r4).wipe vs
          refine ⟨F4, ρ3, _, d, r5, v4, ?_⟩
          cases e1 : g d ⟨wipeD st.vars vs, so3⟩ with
          | bad => rw [e1] at p3; exact p3.elim
          | exc k st3 => rw [e1] at p3; exact p3.elim
          | ok st3 =>
            rw [e1] at p3
            dsimp only at p3
            intro σ5 F5 ρ5 H5 x5 r6 hw
            refine ⟨(hw vs hT).trans wipe_wipe, F5, ρ5, st3, r6, ?_⟩
            -- the outer names still stand
            have back : ∀ {F' : Hp} {ρ' : List Addr} {H' : Hp} {so' : List SO}, Ext F4 ρ3 F' ρ' → RelS w F' ρ' H' so' → Rel w F' ρ' σ H' ⟨st.vars, so'⟩ := fun x s => (r3.up x4 r4).up x s
            cases e2 : t st3 with
            | bad => rw [e2] at p3; exact p3.elim
            | exc k so5 => rw [e2] at p3; exact p3.elim
            | ok b so5 =>
              rw [e2] at p3
              intro b' F6 ρ6 H6 x6 r7 q7
              cases q7
              cases b with
              | false =>
                dsimp only at p3
                rw [if_neg Bool.false_ne_true]
                exact ⟨F6, ρ6, so5, x3.trans (x4.trans (x5.trans x6)), back (x5.trans x6) r7.s, p3⟩
              | true =>
                dsimp only at p3
                rw [if_pos rfl]
                refine ⟨F6, ρ6, _, r7, ?_⟩
                cases e3 : e ⟨st3.vars, so5⟩ with
                | bad => rw [e3] at p3; exact p3.elim
                | exc k so6 => rw [e3] at p3; exact p3.elim
                | ok yd so6 =>
                  rw [e3] at p3
                  dsimp only at p3
                  intro yv F7 ρ7 H7 x7 r8 q8
                  have xx : Ext F1 (ρ1 ++ [D]) F7 ρ7 := x3.trans (x4.trans (x5.trans (x6.trans x7)))
                  cases e4 : so6[so1.length]? with
                  | none => rw [e4] at p3; exact p3.elim
                  | some o =>
                    cases o with
                    | lst acc =>
                      rw [e4] at p3
                      dsimp only at p3
                      by_cases hl : acc.length < mx
                      · rw [if_pos hl] at p3
                        obtain ⟨b, b1, b0, us, b2, b3⟩ := r8.s.obj _ _ e4
                        have b4 := pre_get xx.pre hn
                        rw [b4] at b1
                        cases b1
                        refine ⟨us, b2, by rw [← b3.length]; exact Nat.lt_of_lt_of_le hl mx_le, F7, ρ7, _, xx, ?_, p3⟩
                        exact back (x5.trans (x6.trans x7)) (write_lst r8.s b4 b0 b2 (b3.append (.cons q8 .nil)))
                      · rw [if_neg hl] at p3; exact p3.elim
                    | dct _ => rw [e4] at p3; exact p3.elim
                    | dlk _ => rw [e4] at p3; exact p3.elim
                    | ins _ _ => rw [e4] at p3; exact p3.elim
                    | lam _ => rw [e4] at p3; exact p3.elim
                    | scr _ => rw [e4] at p3; exact p3.elim
                    | dead => rw [e4] at p3; exact p3.elim
/-- a clause's tests -/
def STs (w : Wd) (X : Cx) (ifs : List Expr) (t : M Bool) : Prop := ∀ W, Takes X W → PTs X ifs (trT w W t)
theorem PTs.imp {ifs : List Expr} {t t' : TT} (h : PTs X ifs t) (k : ∀ σ H Q, t' σ H Q → t σ H Q) : PTs X ifs t' := ⟨fun pins s σ H Q I q => h.run pins s σ H Q I (k σ H Q q)⟩
def tTrue : M Bool := ret true
theorem sts_nil : STs w X [] tTrue := fun W tk => PTs.imp pts_nil fun σ H Q ⟨F, ρ, st, r, p⟩ => p true F ρ H (Ext.refl _ _) r rfl
theorem sts_one {c : Expr} {t : M Bool} (h : SB w X c t) : STs w X [c] t := fun W tk => pts_one (h W tk)
/-- all contexts of a comprehension's block -/
def Blk (X : Cx) (scope : Scope) (P : Cx → Prop) : Prop := ∀ (s : Shared) (H : Hp) (C : Addr) (cl : List (PySem.Str × Addr)) (fp : List Addr), P (X.blk s H scope (compEnvC scope cl C X.env) fp)
theorem Cok.blk (c : Cok w X) {scope : Scope} : Blk X scope (Cok w) := fun s H C cl fp => ⟨c.K, c.calm, c.nd, c.un⟩
theorem se_lc {elt tg iter : Expr} {ifs : List Expr} {scope : Scope} {own : List (PySem.Str × Nat)} {vs : List Nat} {pos : Pos} {T : List Nat} {fi : M ItD} {g : MT} {t : M Bool} {e : M D} (live : Bool) (c : Cok w X) (ok : BlkOk X.N X.env.scope scope own) (hvs : own.map (·.2) = vs) (hT : ∀ i ∈ T, i ∈ vs)
    (hi : SI w X tg iter fi) (hg : Blk X scope fun Y => SG w Y tg T g) (ht : Blk X scope fun Y => STs w Y ifs t) (he : Blk X scope fun Y => SE w Y elt e) (hs : ∀ x, foldedSetIterable iter X.env x = pure x := by intro _; rfl) :
    SE w X (.ListComp elt [⟨tg, iter, ifs, 0⟩] scope pos) (eLc live fi g t e vs) := fun W tk => by
  subst hvs
  exact PE.imp (pe_lc c.calm c.nd (hi W tk) ok (fun s H C cl fp => hg s H C cl fp WN takes_none) (fun s H C cl fp => ht s H C cl fp WN takes_none) (fun s H C cl fp => he s H C cl fp WN takes_none) hs) fun σ H Q h => lc_tr hT h
/-- name = [..] on one line -/
def sSet (i : Nat) (f : M D) : MS := bndS f fun d st => .ok .nx ⟨st.vars.set i (some d), st.so⟩
theorem ss_setLc {i : Nat} {y : PySem.Str} {py : Pos} {elt tg iter : Expr} {ifs : List Expr} {scope : Scope} {own : List (PySem.Str × Nat)} {vs : List Nat} {pos spos : Pos} {T : List Nat} {fi : M ItD} {g : MT} {t : M Bool} {e : M D} (live : Bool) (c : Cok w X) (hy : X.N[i]? = some y) (hyl : X.env.scope.names.lookup y = some .local)
    (hsw : swapsWith (.ListComp elt [⟨tg, iter, ifs, 0⟩] scope pos) (some (.Name y py)) spos.line X.env = pure true) (ok : BlkOk X.N X.env.scope scope own) (hvs : own.map (·.2) = vs) (hT : ∀ i ∈ T, i ∈ vs)
    (hi : SI w X tg iter fi) (hg : Blk X scope fun Y => SG w Y tg T g) (ht : Blk X scope fun Y => STs w Y ifs t) (he : Blk X scope fun Y => SE w Y elt e) (hs : ∀ x, foldedSetIterable iter X.env x = pure x := by intro _; rfl) :
    SS w X (.Assign [.Name y py] (.ListComp elt [⟨tg, iter, ifs, 0⟩] scope pos) spos) (sSet i (eLc live fi g t e vs)) := fun W tk => by
  subst hvs
  refine PS.imp (ps_setLc c.calm c.nd hy hyl hsw (hi W tk) ok (fun s H C cl fp => hg s H C cl fp WN takes_none) (fun s H C cl fp => ht s H C cl fp WN takes_none) (fun s H C cl fp => he s H C cl fp WN takes_none) hs) fun D σ H ⟨F, ρ, st, r, p⟩ => ?_
  exact lc_tr hT ⟨F, ρ, st, r, post_bndS r p fun d v F1 ρ1 H1 so1 x1 r1 q1 p1 => p1 _ F1 ρ1 H1 (Ext.refl _ _) (r1.set q1)⟩
end
end EV
end
section
set_option Elab.async false
set_option linter.all false
set_option maxRecDepth 100000
set_option maxHeartbeats 4000000
namespace EV
open PySem L2

/-- where a program stands -/
structure Pg where
  P : Program
  W : World
  mg : PySem.Str → Option Value
  base : Heap
  w : Wd
/-- a context of a body of the program: its names, its scope, the levels below it -/
structure XOk (p : Pg) (N : List PySem.Str) (sc : Scope) (fs : PySem.Str → Bool) (k : Nat) (X : Cx) : Prop where
  prog : X.prog = p.P
  wd : X.w = p.W
  mg : X.mg = p.mg
  base : X.base = p.base
  N : X.N = N
  sc : X.env.scope = sc
  fn : X.fn = fs
  b : Bok p.w X
  room : Room k X.A
section
variable {p : Pg} {N : List PySem.Str} {sc : Scope} {fs : PySem.Str → Bool} {k : Nat} {X : Cx}
theorem XOk.c (h : XOk p N sc fs k X) : Cok p.w X := h.b.c
theorem XOk.blk (h : XOk p N sc fs k X) {scope : Scope} : Blk X scope (XOk p N (relS scope sc) (fun x => scope.names.lookup x == some .cell) k) := fun s H C cl fp =>
  ⟨h.prog, h.wd, h.mg, h.base, h.N, by show relS scope X.env.scope = _; rw [h.sc], rfl, ⟨h.c.blk s H C cl fp, PassesOwn.never⟩, h.room⟩
/-- the name x stands at slot i -/
def visB (N : List PySem.Str) (sc : Scope) (i : Nat) (x : PySem.Str) : Bool :=
  decide (N[i]? = some x) && (match sc.names.lookup x with
    | some .local => true
    | some .cell => true
    | some .free => true
    | _ => false) && !(x == ("__debug__" : PySem.Str)) && !(x == ("__classdict__" : PySem.Str))
def locB (N : List PySem.Str) (sc : Scope) (i : Nat) (x : PySem.Str) : Bool := decide (N[i]? = some x) && decide (sc.names.lookup x = some .local)
def glB (sc : Scope) (x : PySem.Str) : Bool := decide (sc.names.lookup x = some .globalImplicit) && !(x == ("__debug__" : PySem.Str)) && !(x == ("__name__" : PySem.Str))
theorem XOk.var (h : XOk p N sc fs k X) {i : Nat} {x : PySem.Str} {pos : Pos} (q : visB N sc i x = true := by decide +kernel) : SE p.w X (.Name x pos) (eVar i) := by
  unfold visB at q
  simp only [Bool.and_eq_true, decide_eq_true_eq, Bool.not_eq_true'] at q
  refine se_var (by rw [h.N]; exact q.1.1.1) ?_ q.1.2 q.2
  have q2 := q.1.1.2
  unfold Vis
  rw [h.sc]
  split at q2 <;> first | (cases q2) | skip
  · exact .inl (by assumption)
  · exact .inr (.inl (by assumption))
  · exact .inr (.inr (by assumption))
theorem locB_ok {i : Nat} {x : PySem.Str} (h : XOk p N sc fs k X) (q : locB N sc i x = true) : X.N[i]? = some x ∧ X.env.scope.names.lookup x = some .local := by
  unfold locB at q
  simp only [Bool.and_eq_true, decide_eq_true_eq] at q
  rw [h.N, h.sc]
  exact q
/-- x may be stored -/
def tgB (N : List PySem.Str) (sc : Scope) (fs : PySem.Str → Bool) (i : Nat) (x : PySem.Str) : Bool := decide (N[i]? = some x) && (match sc.names.lookup x with
  | some .local => true
  | some .cell => fs x
  | _ => false)
theorem tgB_ok {i : Nat} {x : PySem.Str} (h : XOk p N sc fs k X) (q : tgB N sc fs i x = true) : X.N[i]? = some x ∧ L2.Loc X.env.scope x ∧ (X.fn x = true ∨ X.env.scope.names.lookup x = some .local) := by
  unfold tgB at q
  simp only [Bool.and_eq_true, decide_eq_true_eq] at q
  rw [h.N, h.fn]
  unfold L2.Loc
  rw [h.sc]
  refine ⟨q.1, ?_⟩
  have q2 := q.2
  split at q2
  · exact ⟨.inl (by assumption), .inr (by assumption)⟩
  · exact ⟨.inr (by assumption), .inl q2⟩
  · cases q2
theorem XOk.tgt (h : XOk p N sc fs k X) {i : Nat} {x : PySem.Str} {pos : Pos} (q : tgB N sc fs i x = true := by decide +kernel) : SG p.w X (.Name x pos) [i] (tName i) := by
  have q := tgB_ok h q
  exact sg_name h.c q.1 q.2.1 q.2.2
theorem glB_ok {x : PySem.Str} (h : XOk p N sc fs k X) (q : glB sc x = true) : Gl X x ∧ (x == ("__debug__" : PySem.Str)) = false ∧ x ≠ "__name__" := by
  unfold glB at q
  simp only [Bool.and_eq_true, decide_eq_true_eq, Bool.not_eq_true'] at q
  exact ⟨by show X.env.scope.names.lookup x = _; rw [h.sc]; exact q.1.1, q.1.2, fun z => by rw [z] at q; have := q.2; simp at this⟩
/-- a def of the program at level j: DefOk -/
abbrev DOk (p : Pg) (j n : Nat) (f : Addr) (g : Fn) : Prop := DefOk p.w p.P p.W p.mg p.base j n f g
theorem DOk.at (h : XOk p N sc fs k X) {j n : Nat} {f : Addr} {g : Fn} (G : DOk p j n f g) : DefAt p.w X j n f g := by
  unfold DefAt
  rw [h.prog, h.wd, h.mg, h.base]
  exact G
theorem XOk.call (h : XOk p N sc fs k X) {j n : Nat} {f : Addr} {g : Fn} {x : PySem.Str} {ps pos : Pos} {e : Expr} {es : List Expr} {fa : M (List D)} (G : DOk p j n f g) (hm : p.mg x = some (.ref f)) (ha : SA p.w X (e :: es) fa) (hj : j ≤ k := by first | decide | omega) (q : glB sc x = true := by decide +kernel)
    (he : starEach (e :: es) X.env = (false, eval e X.env) :: starEach es X.env := by rfl) (hpl : (backTo pos (starEach es X.env)).any (·.1) = false := by rfl) : SE p.w X (.Call (.Name x ps) (e :: es) [] pos) (eCall n g fa) := by
  have q := glB_ok h q
  exact se_call h.c (G.at h) (h.room.mono hj) q.1 (by rw [h.mg]; exact hm) ha q.2.1 he hpl
theorem XOk.call0 (h : XOk p N sc fs k X) {j n : Nat} {f : Addr} {g : Fn} {x : PySem.Str} {ps pos : Pos} (G : DOk p j n f g) (hm : p.mg x = some (.ref f)) (hj : j ≤ k := by first | decide | omega) (q : glB sc x = true := by decide +kernel) : SE p.w X (.Call (.Name x ps) [] [] pos) (eCall n g eNil) := by
  have q := glB_ok h q
  exact se_call0 h.c (G.at h) (h.room.mono hj) q.1 (by rw [h.mg]; exact hm) q.2.1
theorem XOk.blt (h : XOk p N sc fs k X) {id : String} {x : PySem.Str} {ps pos : Pos} {e : Expr} {es : List Expr} {g : OA} {f : M (List D)} (hc : CallS p.w X (.builtin id) g) (hm : p.mg x = none) (hv : bootBuiltins x = some (.builtin id)) (ha : SA p.w X (e :: es) f) (q : glB sc x = true := by decide +kernel)
    (he : starEach (e :: es) X.env = (false, eval e X.env) :: starEach es X.env := by rfl) (hpl : (backTo pos (starEach es X.env)).any (·.1) = false := by rfl) : SE p.w X (.Call (.Name x ps) (e :: es) [] pos) (eCB g f) := by
  have q := glB_ok h q
  exact se_callB hc q.1 (by rw [h.mg]; exact hm) hv ha q.2.2 q.2.1 he hpl
theorem XOk.ty (h : XOk p N sc fs k X) {T : String} {x : PySem.Str} {ps pos : Pos} {e : Expr} {es : List Expr} {g : OA} {f : M (List D)} (hc : CallS p.w X (.type T) g) (hm : p.mg x = none) (hv : bootBuiltins x = some (.type T)) (ha : SA p.w X (e :: es) f) (q : glB sc x = true := by decide +kernel)
    (he : starEach (e :: es) X.env = (false, eval e X.env) :: starEach es X.env := by rfl) (hpl : (backTo pos (starEach es X.env)).any (·.1) = false := by rfl) : SE p.w X (.Call (.Name x ps) (e :: es) [] pos) (eCB g f) := by
  have q := glB_ok h q
  exact se_callTy hc q.1 (by rw [h.mg]; exact hm) hv ha q.2.2 q.2.1 he hpl
theorem XOk.meth (h : XOk p N sc fs k X) {j n cn : Nat} {f : Addr} {g : Fn} {m : PySem.Str} {apos pos : Pos} {o e : Expr} {es : List Expr} {fo : M D} {fa : M (List D)} {pl : Sem Bool} (mo : MethOk p.w cn m f) (G : DOk p j n f g) (ho : SE p.w X o fo) (ha : SA p.w X (e :: es) fa) (hj : j ≤ k := by first | decide | omega)
    (hst : starEach (e :: es) X.env = (false, eval e X.env) :: starEach es X.env := by rfl) (hpl : (backTo pos (starEach es X.env)).any (·.1) = false := by rfl)
    (ht : eval (.Call (.Attribute o m apos) (e :: es) [] pos) X.env = (do
      let ov ← eval o X.env
      standAt apos.atName
      let (f, first) ← holding [ov] (getMethod ov m pl)
      callWith pos f first (backTo pos (starEach (e :: es) X.env)) (backToKw pos (keywordEach [] X.env))) := by rfl) :
    SE p.w X (.Call (.Attribute o m apos) (e :: es) [] pos) (eMeth cn n m g fo fa) := se_meth h.c mo (G.at h) (h.room.mono hj) ho ha hst hpl ht
theorem XOk.meth0 (h : XOk p N sc fs k X) {j n cn : Nat} {f : Addr} {g : Fn} {m : PySem.Str} {apos pos : Pos} {o : Expr} {fo : M D} {pl : Sem Bool} (mo : MethOk p.w cn m f) (G : DOk p j n f g) (ho : SE p.w X o fo) (hj : j ≤ k := by first | decide | omega)
    (ht : eval (.Call (.Attribute o m apos) [] [] pos) X.env = (do
      let ov ← eval o X.env
      standAt apos.atName
      let (f, first) ← holding [ov] (getMethod ov m pl)
      callWith pos f first (backTo pos (starEach [] X.env)) (backToKw pos (keywordEach [] X.env))) := by rfl) :
    SE p.w X (.Call (.Attribute o m apos) [] [] pos) (eMeth cn n m g fo eNil) := se_meth0 h.c mo (G.at h) (h.room.mono hj) ho ht
theorem XOk.make (h : XOk p N sc fs k X) {j n cn : Nat} {f : Addr} {g : Fn} {x : PySem.Str} {ps pos : Pos} {e : Expr} {es : List Expr} {fa : M (List D)} (mo : MkOk p.w cn f) (G : DOk p j n f g) (hm : p.mg x = some (.ref (p.w.cls cn))) (ha : SA p.w X (e :: es) fa) (hj : j + 1 ≤ k := by first | decide | omega) (q : glB sc x = true := by decide +kernel)
    (he : starEach (e :: es) X.env = (false, eval e X.env) :: starEach es X.env := by rfl) (hpl : (backTo pos (starEach es X.env)).any (·.1) = false := by rfl) : SE p.w X (.Call (.Name x ps) (e :: es) [] pos) (eMake cn n g fa) := by
  have q := glB_ok h q
  exact se_make h.c mo (G.at h) (h.room.mono hj) q.1 (by rw [h.mg]; exact hm) ha q.2.1 he hpl
theorem XOk.make0 (h : XOk p N sc fs k X) {j n cn : Nat} {f : Addr} {g : Fn} {x : PySem.Str} {ps pos : Pos} (mo : MkOk p.w cn f) (G : DOk p j n f g) (hm : p.mg x = some (.ref (p.w.cls cn))) (hj : j + 1 ≤ k := by first | decide | omega) (q : glB sc x = true := by decide +kernel) : SE p.w X (.Call (.Name x ps) [] [] pos) (eMake cn n g eNil) := by
  have q := glB_ok h q
  exact se_make0 h.c mo (G.at h) (h.room.mono hj) q.1 (by rw [h.mg]; exact hm) q.2.1
/-- an own class of errors -/
structure ErrOk (p : Pg) (c : Nat) (x : PySem.Str) : Prop where
  ex : PySem.W.excIn p.w.K (p.w.cls c) [.type "ValueError", .type "Exception", .type "BaseException", .type "object"] "ValueError.__new__" = true
  kp : PySem.W.keepIn p.w.K (.ref (p.w.cls c)) = true
  sb : PySem.W.subIn p.w.K (.ref (p.w.cls c)) (.type "BaseException") = some true
  ty : PySem.W.typeIn p.w.K (.ref (p.w.cls c)) = some (.type "type")
  mg : p.mg x = some (.ref (p.w.cls c))
theorem XOk.raise (h : XOk p N sc fs k X) {c : Nat} {x m : PySem.Str} {j : Nat} {p1 p2 p3 pos : Pos} (F : ErrOk p c x) (q : glB sc x = true := by decide +kernel) : SS p.w X (.Raise (some (.Call (.Name x p1) [.Constant (.str m) j p2] [] p3)) none pos) (sRaise c) := by
  have q := glB_ok h q
  refine ss_raise h.c fun W tk => ?_
  have e1 := F.ex
  have e2 := F.kp
  have e3 := F.sb
  have e4 := F.ty
  rw [← h.c.K] at e1 e2 e3 e4
  exact ps_raise h.c.calm tk (pmk_own PySem.F.excBase_ValueError e1 (by rw [h.mg]; exact F.mg) e2 (raises_own e3 e4) q.1 q.2.1)
theorem XOk.lc (h : XOk p N sc fs k X) {elt tg iter : Expr} {ifs : List Expr} {scope : Scope} {own : List (PySem.Str × Nat)} {vs : List Nat} {pos : Pos} {T : List Nat} {fi : M ItD} {g : MT} {t : M Bool} {e : M D} (live : Bool) (ok : blkC N sc scope own = true)
    (hi : SI p.w X tg iter fi) (hb : ∀ Y, XOk p N (relS scope sc) (fun x => scope.names.lookup x == some .cell) k Y → SG p.w Y tg T g ∧ STs p.w Y ifs t ∧ SE p.w Y elt e) (hvs : own.map (·.2) = vs := by rfl) (hT : ∀ i ∈ T, i ∈ vs := by decide) (hs : ∀ x, foldedSetIterable iter X.env x = pure x := by intro _; rfl) :
    SE p.w X (.ListComp elt [⟨tg, iter, ifs, 0⟩] scope pos) (eLc live fi g t e vs) :=
  se_lc live h.c (by rw [h.N, h.sc]; exact blkOk_by ok) hvs hT hi (fun s H C cl fp => (hb _ (h.blk s H C cl fp)).1) (fun s H C cl fp => (hb _ (h.blk s H C cl fp)).2.1) (fun s H C cl fp => (hb _ (h.blk s H C cl fp)).2.2) hs
theorem XOk.setLc (h : XOk p N sc fs k X) {i : Nat} {y : PySem.Str} {py : Pos} {elt tg iter : Expr} {ifs : List Expr} {scope : Scope} {own : List (PySem.Str × Nat)} {vs : List Nat} {pos spos : Pos} {T : List Nat} {fi : M ItD} {g : MT} {t : M Bool} {e : M D} (live : Bool) (ok : blkC N sc scope own = true)
    (hi : SI p.w X tg iter fi) (hb : ∀ Y, XOk p N (relS scope sc) (fun x => scope.names.lookup x == some .cell) k Y → SG p.w Y tg T g ∧ STs p.w Y ifs t ∧ SE p.w Y elt e) (q : locB N sc i y = true := by decide +kernel) (hk : sc.kind = .function := by rfl) (hl : (py.line == pos.line) = true := by rfl) (ha : (scope.names.any fun (n, k) => n == y && (k == .local || k == .cell)) = false := by decide +kernel)
    (hvs : own.map (·.2) = vs := by rfl) (hT : ∀ i ∈ T, i ∈ vs := by decide) (hs : ∀ x, foldedSetIterable iter X.env x = pure x := by intro _; rfl) :
    SS p.w X (.Assign [.Name y py] (.ListComp elt [⟨tg, iter, ifs, 0⟩] scope pos) spos) (sSet i (eLc live fi g t e vs)) := by
  have q := locB_ok h q
  exact ss_setLc live h.c q.1 q.2 (sw_true (by rw [h.sc]; exact hk) q.2 hl ha) (by rw [h.N, h.sc]; exact blkOk_by ok) hvs hT hi (fun s H C cl fp => (hb _ (h.blk s H C cl fp)).1) (fun s H C cl fp => (hb _ (h.blk s H C cl fp)).2.1) (fun s H C cl fp => (hb _ (h.blk s H C cl fp)).2.2) hs
theorem XOk.rng1 (h : XOk p N sc fs k X) {tg a : Expr} {ps pos : Pos} {f : M D} (hm : p.mg "range" = none) (ha : SE p.w X a f) (q : glB sc "range" = true := by decide +kernel) (hs : starEach [a] X.env = [(false, eval a X.env)] := by rfl) : SI p.w X tg (.Call (.Name "range" ps) [a] [] pos) (iRng1 f) :=
  si_rng1 (glB_ok h q).1 (by rw [h.mg]; exact hm) ha hs
theorem XOk.rng2 (h : XOk p N sc fs k X) {tg a b : Expr} {ps pos : Pos} {f g : M D} (hm : p.mg "range" = none) (ha : SE p.w X a f) (hb : SE p.w X b g) (q : glB sc "range" = true := by decide +kernel) (hs : starEach [a, b] X.env = [(false, eval a X.env), (false, eval b X.env)] := by rfl) (hs2 : starEach [b] X.env = [(false, eval b X.env)] := by rfl) :
    SI p.w X tg (.Call (.Name "range" ps) [a, b] [] pos) (iRng2 f g) := si_rng2 (glB_ok h q).1 (by rw [h.mg]; exact hm) ha hb hs hs2
theorem XOk.enu (h : XOk p N sc fs k X) {e : Expr} {ps pos tpos : Pos} {elts : List Expr} {kk : Nat} {f : M D} (hm : p.mg "enumerate" = none) (ha : SE p.w X e f) (q : glB sc "enumerate" = true := by decide +kernel) (hs : starEach [e] X.env = [(false, eval e X.env)] := by rfl) :
    SI p.w X (.Tuple elts kk tpos) (.Call (.Name "enumerate" ps) [e] [] pos) (iEnu f) := si_enu h.c (glB_ok h q).1 (by rw [h.mg]; exact hm) ha hs
theorem XOk.zip (h : XOk p N sc fs k X) {e e2 : Expr} {ps pos tpos : Pos} {elts : List Expr} {kk : Nat} {f g : M D} (hm : p.mg "zip" = none) (ha : SE p.w X e f) (hb : SE p.w X e2 g) (q : glB sc "zip" = true := by decide +kernel)
    (hs : starEach [e, e2] X.env = (false, eval e X.env) :: starEach [e2] X.env := by rfl) (hs2 : starEach [e2] X.env = (false, eval e2 X.env) :: starEach [] X.env := by rfl) (hpl : (backTo pos (starEach [e2] X.env)).any (·.1) = false := by rfl) :
    SI p.w X (.Tuple elts kk tpos) (.Call (.Name "zip" ps) [e, e2] [] pos) (iZip f g) := si_zip h.c (glB_ok h q).1 (by rw [h.mg]; exact hm) ha hb hs hs2 hpl

/-! ### a def by its body -/
def startD (N : List PySem.Str) (ds : List D) : List (Option D) := ds.map some ++ List.replicate (N.length - ds.length) none
def fnM (N : List PySem.Str) (fb : MS) : Fn := fun ds so => match fb ⟨startD N ds, so⟩ with
  | .ok .nx st => .ok .none st.so
  | .ok (.ret d) st => .ok d st.so
  | .ok _ _ => .bad
  | .exc c st => .exc c st.so
  | .bad => .bad
theorem rel_start {w : Wd} {F H : Hp} {ρ : List Addr} {so : List SO} {ds : List D} {vs : List V} (r : RelS w F ρ H so) (q : VRs w.K F ρ ds vs) : Rel w F ρ (L2.start N vs) H ⟨startD N ds, so⟩ := by
  have hl := q.length
  refine ⟨r, by unfold startD L2.start; simp [hl], fun i d h => ?_⟩
  unfold startD at h
  unfold L2.start
  by_cases hi : i < ds.length
  · rw [List.getElem?_append_left (by simpa using hi), List.getElem?_map] at h
    rw [List.getElem?_append_left (by rw [List.length_map, ← hl]; exact hi), List.getElem?_map]
    cases e : ds[i]? with
    | none => rw [e] at h; cases h
    | some d' =>
      rw [e] at h
      cases h
      obtain ⟨v, e2, hv⟩ := q.get e
      exact ⟨v, by rw [e2] <;> rfl, hv⟩
  · rw [List.getElem?_append_right (by simpa using hi)] at h
    have := List.mem_of_getElem? h
    rw [List.mem_replicate] at this
    cases this.2
theorem def_ok {n : Nat} {x qual : PySem.Str} {params : Arguments} {body : List Stmt} {scope : Scope} {f : Addr} {fd : FuncData} {ps : List PySem.Str} {fb : MS} (F : FunD p.w.K x qual params body scope [] [] f fd) (S : FnScope N ps scope) (hn : ps.length = n)
    (hb : ∀ (kV doc pm : Value) (an : Option Addr) (cdv ct : Value) (us : List Value), us.length = ps.length → bindArgs (PySem.W.fnOf x qual params body scope .none kV doc pm an cdv ct) ⟨us, []⟩ = pure (ps.zip us))
    (h : ∀ X, XOk p N scope (fun _ => true) k X → SSs p.w X body fb) : DOk p (k + 1) n f (fnM N fb) := by
  refine ⟨⟨fd, ps, F.ok S (fun vs H Q E z => by rw [hn]; exact spG.len vs H Q E z) (fun cdv A outer s H vs Q E hr z => ?_), hn, F.bindsN hb⟩, F.kp⟩
  have hX : XOk p N scope (fun _ => true) k (cxOf (L2.CX p.P p.W) p.P p.W p.w.K p.mg p.base N qual scope f cdv A outer s H E) := ⟨rfl, rfl, rfl, rfl, rfl, rfl, rfl, ⟨⟨rfl, rfl, S.nd, by have := hr.un; show (A.deeper (PyProof.Rows.envOfC qual scope s.heap.objs.size f cdv)).units + 200 < cLine; omega⟩, passes_of rfl⟩, hr⟩
  refine ⟨_, h _ hX _ (takes_of rfl rfl rfl rfl), ?_⟩
  obtain ⟨F1, ρ1, so, ds, r, q, hl, pc⟩ := z
  refine ⟨F1, ρ1, ⟨startD N ds, so⟩, rel_start r q, ?_⟩
  unfold PostC fnM at pc
  unfold PostS
  cases e : fb ⟨startD N ds, so⟩ with
  | bad => rw [e] at pc; exact pc
  | exc c st => rw [e] at pc; exact fun σ F2 ρ2 H2 x2 r2 => pc F2 ρ2 H2 x2 r2.s
  | ok fl st =>
    rw [e] at pc
    cases fl with
    | nx => exact fun σ F2 ρ2 H2 x2 r2 => pc .non F2 ρ2 H2 x2 r2.s .non
    | ret d => exact fun v σ F2 ρ2 H2 x2 r2 q2 => pc v F2 ρ2 H2 x2 r2.s q2
    | bk => exact pc.elim
    | ct => exact pc.elim
end
end EV
end
section
set_option Elab.async false
set_option linter.all false
set_option maxRecDepth 100000
set_option maxHeartbeats 4000000
namespace EV
open PySem L2
section
variable {w : Wd} {X : Cx} {F F' : Hp} {ρ ρ' : List Addr} {σ : L2.St} {H H' : Hp} {st : St} {so so' : List SO} {vars : List (Option D)}

/-! ### -x, x ** y -/
def kNeg (d : D) : M D := match d with
  | .int i => ret (.int (-i))
  | _ => bad
def eNeg (f : M D) : M D := bnd f kNeg
theorem se_neg {a : Expr} {pos : Pos} {f : M D} (ha : SE w X a f) : SE w X (.UnaryOp .USub a pos) (eNeg f) := fun W tk =>
  PE.imp (pe_un un_neg (ha W tk)) fun σ H Q ⟨F, ρ, st, r, p⟩ => ⟨F, ρ, st, r, post_bnd p fun a v F1 ρ1 H1 so1 x1 r1 q1 p1 => by
    cases q1 <;> first | exact p1.elim | exact ⟨_, rfl, p1 _ F1 ρ1 H1 (Ext.refl _ _) r1 (.int _)⟩⟩
def dPow : O2 := fun x y so => match x, y with
  | .int i, .int j => if 0 ≤ j ∧ j ≤ 1000000 ∧ i.natAbs < 2 ^ 64 then some (.int (i ^ j.toNat), so) else none
  | _, _ => none
theorem os_pow : OpS w X (binaryOp .Pow) dPow := by
  intro F ρ H so dx dy d so' x y v u pins s σ Q r hx hy hg I rx ry k
  unfold dPow at hg
  split at hg <;> try cases hg
  split at hg <;> cases hg
  rename_i hc
  cases hx
  cases hy
  exact op_pow pins s σ H _ _ v u Q I rx ry ⟨_, _, rfl, rfl, hc, k _ _ _ _ (Ext.refl _ _) r (.int _)⟩

/-! ### max, min -/
def dMax2 : OA := fun ds so => match ds with
  | [.int i, .int j] => some (.int (if j > i then j else i), so)
  | _ => none
def dMin2 : OA := fun ds so => match ds with
  | [.int i, .int j] => some (.int (if j < i then j else i), so)
  | _ => none
theorem cs_max2 (c : Cok w X) : CallS w X (.builtin "max") dMax2 := by
  intro F ρ H so ds d so' vs us pins s σ Q r hd hg I rv k
  unfold dMax2 at hg
  split at hg <;> cases hg
  obtain ⟨v, u, rfl, hv, hu⟩ := vrs2 hd
  cases hv
  cases hu
  exact call_max2 c.calm pins s σ H _ us Q I rv ⟨_, _, rfl, k _ _ _ _ (Ext.refl _ _) r (.int _)⟩
theorem cs_min2 (c : Cok w X) : CallS w X (.builtin "min") dMin2 := by
  intro F ρ H so ds d so' vs us pins s σ Q r hd hg I rv k
  unfold dMin2 at hg
  split at hg <;> cases hg
  obtain ⟨v, u, rfl, hv, hu⟩ := vrs2 hd
  cases hv
  cases hu
  exact call_min2 c.calm pins s σ H _ us Q I rv ⟨_, _, rfl, k _ _ _ _ (Ext.refl _ _) r (.int _)⟩
/-- all alike, none None, not deep -/
def alikes (xs : List D) : Bool := (xs.all fun x => xs.all fun y => PySem.W.alike x y) && (xs.all fun x => deepOk x && (match x with | .none => false | _ => true))
theorem depthAll_le : ∀ {xs : List D} {n : Nat}, (∀ x ∈ xs, PyData.depth x ≤ n) → PyData.depthAll xs ≤ n
  | [], n, _ => by simp [PyData.depthAll]
  | x :: xs, n, h => by
    rw [PyData.depthAll]
    exact Nat.max_le.mpr ⟨h x (by simp), depthAll_le fun y hy => h y (by simp [hy])⟩
theorem plainAll_of : ∀ {xs : List D}, (∀ x ∈ xs, PyData.plain x = true) → PyData.plainAll xs = true
  | [], _ => by simp [PyData.plainAll]
  | x :: xs, h => by
    rw [PyData.plainAll, Bool.and_eq_true]
    exact ⟨h x (by simp), plainAll_of fun y hy => h y (by simp [hy])⟩
theorem alikes_ok {xs : List D} (h : alikes xs = true) : PySem.W.AlikeAll xs ∧ PyData.plainAll xs = true ∧ PyData.depthAll xs ≤ 64 := by
  unfold alikes at h
  simp only [Bool.and_eq_true, List.all_eq_true] at h
  refine ⟨⟨fun x hx y hy => h.1 x hx y hy, fun x hx z => ?_⟩, plainAll_of fun x hx => (deepOk_iff (h.2 x hx).1).1, depthAll_le fun x hx => (deepOk_iff (h.2 x hx).1).2⟩
  have := (h.2 x hx).2
  subst z
  simp at this
def seqOf (so : List SO) (d : D) : Option (List D) := match d with
  | .tuple xs => some xs
  | d => lstOf so d
def dMinL : OA := fun ds so => match ds with
  | [x] => match seqOf so x with
    | some (y :: ys) => if alikes (y :: ys) = true then some (PySem.W.minD y ys, so) else none
    | _ => none
  | _ => none
def dMaxL : OA := fun ds so => match ds with
  | [x] => match seqOf so x with
    | some (y :: ys) => if alikes (y :: ys) = true then some (PySem.W.maxD y ys, so) else none
    | _ => none
  | _ => none
/-- the items of a list or a tuple, in the heap -/
theorem seq_heap {pins : List (Addr × Obj)} {s : Shared} (c : Cok w X) (I : Inv X pins σ H s) (r : RelS w F ρ H so) {d : D} {v : V} {xs : List D} (h : VR w.K F ρ d v) (e : seqOf so d = some xs) :
    ∃ a vs its, v = .ref a ∧ VRs w.K F ρ xs vs ∧ Vals vs its ∧ (s.heap.IsList a its.toArray ∨ s.heap.IsTuple a its.toArray) := by
  unfold seqOf at e
  split at e
  · cases e
    cases h with
    | tup q k =>
      obtain ⟨its, rv, p, _⟩ := I.tuple (show SqT X.K H _ _ by rw [c.K]; exact r.le.sqT q)
      exact ⟨_, _, its, rfl, k, rv, .inr (show s.heap.IsTuple _ its.toArray from p)⟩
  · obtain ⟨a, vs, rfl, h1, h2⟩ := lst_of r h e
    obtain ⟨its, rv, p, _⟩ := I.list (show SqL X.K H _ _ from SqL.of h1)
    exact ⟨a, vs, its, rfl, h2, rv, .inl p.isList⟩
theorem best_in {xs : List D} {vs : List V} {its : List Value} {i : Nat} {v : Value} {d : D} (h : VRs w.K F ρ xs vs) (rv : Vals vs its) (e : its[i]? = some v) (hd : xs[i]? = some d) : ∃ x, RelV x v ∧ VR w.K F ρ d x := by
  obtain ⟨x, e2, hx⟩ := h.get hd
  obtain ⟨u, e3, ru⟩ := rv.get e2
  rw [e] at e3
  cases e3
  exact ⟨x, ru, hx⟩
theorem best_get {x : D} {xs : List D} {i : Nat} {d : D} (h : i ≤ xs.length) (e : (x :: xs).getD i .none = d) : (x :: xs)[i]? = some d := by
  rw [List.getD_eq_getElem?_getD] at e
  have : i < (x :: xs).length := by simp; omega
  rw [List.getElem?_eq_getElem this] at e ⊢
  exact congrArg _ e
theorem cs_minL (c : Cok w X) : CallS w X (.builtin "min") dMinL := by
  intro F ρ H so ds d so' vs us pins s σ Q r hd hg I rv k
  unfold dMinL at hg
  split at hg <;> try cases hg
  split at hg <;> try cases hg
  rename_i y ys e
  split at hg <;> cases hg
  rename_i hal
  obtain ⟨h1, h2, h3⟩ := alikes_ok hal
  obtain ⟨v, rfl, hv⟩ := vrs1 hd
  obtain ⟨a, xs, its, rfl, hx, rx, hp⟩ := seq_heap c I r hv e
  obtain ⟨u, rfl, ru⟩ := L2.vals1 rv
  cases ru
  obtain ⟨as, hr⟩ := Dp.readsAll I _ xs its (by rw [c.K]; exact VRs.dp r.le hx h2) rx
  have hn : its.toArray.size = ys.length + 1 := by
    rw [List.size_toArray, ← rx.length, ← hx.length]
    rfl
  have hu := c.un
  have e2 := PySem.W.argBest_fold PySem.W.dataLt PyData.none y ys ys.length (Nat.le_refl _)
  rw [List.take_length] at e2
  have fin : ∀ (i : Nat) (v : Value) (h' : Heap) (tk : Nat), i = PySem.argBest (fun i j => PySem.W.dataLt ((y :: ys).getD i .none) ((y :: ys).getD j .none)) ys.length → its.toArray[i]? = some v → (∀ b o, s.heap.get? b = some o → h'.get? b = some o) → EP X pins σ Q v { s with heap := h', toks := tk } := fun i v h' tk hi hv hk => by
    subst hi
    obtain ⟨x, r1, r2⟩ := best_in hx rx (by simpa using hv) (best_get e2.1 e2.2)
    exact ⟨x, H, I.kept hk, r1, k _ _ _ _ (Ext.refl _ _) r r2⟩
  have go : ∀ (hl : (s.heap.IsList a its.toArray ∨ s.heap.IsTuple a its.toArray)), wpAny (model X.prog X.w) X.A (call (.builtin "min") [.ref a]) (EP X pins σ Q) X.xe s := by
    rintro (hl | hl)
    · refine PySem.call_min_walkH (PySem.W.iter_listW (A := X.A.in1) (I.ok.hd c.calm) hl fun s₂ e W st hfp hw hk => ?_)
      refine ⟨_, _, _, _, _, _, _, s.heap, _, rfl, W, st, hfp, by omega, hw, hk, PySem.W.cmpIn_lt (A := X.A.in1) (by simpa using hr) h1 (by show X.A.units + 1 + _ < _; omega), fun v s' hP m => ?_⟩
      obtain ⟨h', tk, rfl, hk'⟩ := PySem.W.moved_old e rfl m
      exact fin _ v h' tk (by rw [show its.toArray.size - 1 = ys.length by omega]) hP hk'
    · refine PySem.call_min_walkH (PySem.W.iter_tupleW (A := X.A.in1) (I.ok.hd c.calm) hl fun s₂ e W st hfp hw hk => ?_)
      refine ⟨_, _, _, _, _, _, _, s.heap, _, rfl, W, st, hfp, by omega, hw, hk, PySem.W.cmpIn_lt (A := X.A.in1) (by simpa using hr) h1 (by show X.A.units + 1 + _ < _; omega), fun v s' hP m => ?_⟩
      obtain ⟨h', tk, rfl, hk'⟩ := PySem.W.moved_old e rfl m
      exact fin _ v h' tk (by rw [show its.toArray.size - 1 = ys.length by omega]) hP hk'
  exact go hp
theorem cs_maxL (c : Cok w X) : CallS w X (.builtin "max") dMaxL := by
  intro F ρ H so ds d so' vs us pins s σ Q r hd hg I rv k
  unfold dMaxL at hg
  split at hg <;> try cases hg
  split at hg <;> try cases hg
  rename_i y ys e
  split at hg <;> cases hg
  rename_i hal
  obtain ⟨h1, h2, h3⟩ := alikes_ok hal
  obtain ⟨v, rfl, hv⟩ := vrs1 hd
  obtain ⟨a, xs, its, rfl, hx, rx, hp⟩ := seq_heap c I r hv e
  obtain ⟨u, rfl, ru⟩ := L2.vals1 rv
  cases ru
  obtain ⟨as, hr⟩ := Dp.readsAll I _ xs its (by rw [c.K]; exact VRs.dp r.le hx h2) rx
  have hn : its.toArray.size = ys.length + 1 := by
    rw [List.size_toArray, ← rx.length, ← hx.length]
    rfl
  have hu := c.un
  have e2 := PySem.W.argBest_fold (fun a b => PySem.W.dataLt b a) PyData.none y ys ys.length (Nat.le_refl _)
  rw [List.take_length] at e2
  have fin : ∀ (i : Nat) (v : Value) (h' : Heap) (tk : Nat), i = PySem.argBest (fun i j => PySem.W.dataLt ((y :: ys).getD j .none) ((y :: ys).getD i .none)) ys.length → its.toArray[i]? = some v → (∀ b o, s.heap.get? b = some o → h'.get? b = some o) → EP X pins σ Q v { s with heap := h', toks := tk } := fun i v h' tk hi hv hk => by
    subst hi
    obtain ⟨x, r1, r2⟩ := best_in hx rx (by simpa using hv) (best_get e2.1 e2.2)
    exact ⟨x, H, I.kept hk, r1, k _ _ _ _ (Ext.refl _ _) r r2⟩
  have go : ∀ (hl : (s.heap.IsList a its.toArray ∨ s.heap.IsTuple a its.toArray)), wpAny (model X.prog X.w) X.A (call (.builtin "max") [.ref a]) (EP X pins σ Q) X.xe s := by
    rintro (hl | hl)
    · refine PySem.call_max_walkH (PySem.W.iter_listW (A := X.A.in1) (I.ok.hd c.calm) hl fun s₂ e W st hfp hw hk => ?_)
      refine ⟨_, _, _, _, _, _, _, s.heap, _, rfl, W, st, hfp, by omega, hw, hk, PySem.W.cmpIn_gt (A := X.A.in1) (by simpa using hr) h1 (by show X.A.units + 1 + _ < _; omega), fun v s' hP m => ?_⟩
      obtain ⟨h', tk, rfl, hk'⟩ := PySem.W.moved_old e rfl m
      exact fin _ v h' tk (by rw [show its.toArray.size - 1 = ys.length by omega]) hP hk'
    · refine PySem.call_max_walkH (PySem.W.iter_tupleW (A := X.A.in1) (I.ok.hd c.calm) hl fun s₂ e W st hfp hw hk => ?_)
      refine ⟨_, _, _, _, _, _, _, s.heap, _, rfl, W, st, hfp, by omega, hw, hk, PySem.W.cmpIn_gt (A := X.A.in1) (by simpa using hr) h1 (by show X.A.units + 1 + _ < _; omega), fun v s' hP m => ?_⟩
      obtain ⟨h', tk, rfl, hk'⟩ := PySem.W.moved_old e rfl m
      exact fin _ v h' tk (by rw [show its.toArray.size - 1 = ys.length by omega]) hP hk'
  exact go hp
end
end EV
end
section
set_option Elab.async false
set_option linter.all false
set_option maxRecDepth 100000
set_option maxHeartbeats 4000000
namespace EV
open PySem L2
/-! ### sorted texts -/
def ltS (x y : PySem.Str) : Bool := PySem.Spec.ltCps x.cps.toList y.cps.toList
def insS (x : PySem.Str) : List PySem.Str → List PySem.Str
  | [] => [x]
  | y :: ys => if ltS y x = true then y :: insS x ys else x :: y :: ys
def isortS : List PySem.Str → List PySem.Str
  | [] => []
  | x :: xs => insS x (isortS xs)
theorem insS_perm (x : PySem.Str) : ∀ ys : List PySem.Str, (insS x ys).Perm (x :: ys)
  | [] => .refl _
  | y :: ys => by
    unfold insS
    split
    · exact ((insS_perm x ys).cons y).trans (List.Perm.swap x y ys)
    · exact .refl _
theorem isortS_perm : ∀ xs : List PySem.Str, (isortS xs).Perm xs
  | [] => .refl _
  | x :: xs => (insS_perm x _).trans ((isortS_perm xs).cons x)
abbrev leS (a b : PySem.Str) : Prop := ltS b a = false
theorem leS_iff {a b : PySem.Str} : leS a b ↔ a.cps.toList ≤ b.cps.toList := by
  show PySem.Spec.ltCps b.cps.toList a.cps.toList = false ↔ _
  rw [PyProof.Rows.ltCps_eq, decide_eq_false_iff_not, List.not_lt]
theorem leS_trans {a b c : PySem.Str} (h : leS a b) (k : leS b c) : leS a c := leS_iff.mpr (List.le_trans (leS_iff.mp h) (leS_iff.mp k))
theorem leS_total (a b : PySem.Str) : leS a b ∨ leS b a := (List.le_total a.cps.toList b.cps.toList).imp leS_iff.mpr leS_iff.mpr
theorem leS_anti {a b : PySem.Str} (h : leS a b) (k : leS b a) : a = b := by
  have := List.le_antisymm (leS_iff.mp h) (leS_iff.mp k)
  cases a
  cases b
  simp at this
  rw [this]
theorem insS_pw (x : PySem.Str) : ∀ ys : List PySem.Str, ys.Pairwise leS → (insS x ys).Pairwise leS
  | [], _ => by simp [insS]
  | y :: ys, h => by
    unfold insS
    rw [List.pairwise_cons] at h
    split
    · rename_i hl
      rw [List.pairwise_cons]
      refine ⟨fun z hz => ?_, insS_pw x ys h.2⟩
      have hm := (insS_perm x ys).mem_iff.mp hz
      rcases List.mem_cons.mp hm with e | e
      · subst e
        rcases leS_total y z with q | q
        · exact q
        · have q' : ltS y z = false := q
          rw [hl] at q'
          cases q'
      · exact h.1 z e
    · rename_i hl
      have hxy : leS x y := by
        show ltS y x = false
        simpa using hl
      rw [List.pairwise_cons, List.pairwise_cons]
      exact ⟨fun z hz => by
        rcases List.mem_cons.mp hz with e | e
        · rw [e]; exact hxy
        · exact leS_trans hxy (h.1 z e), h⟩
theorem isortS_pw : ∀ xs : List PySem.Str, (isortS xs).Pairwise leS
  | [] => .nil
  | x :: xs => insS_pw x _ (isortS_pw xs)
theorem sortedS_pw : ∀ {l : List PySem.Str}, PyProof.Rows.sortedS l = true → l.Pairwise leS := by
  have go : ∀ (l : List PySem.Str) (p : PySem.Str), PyProof.Rows.risingS p l = true → (p :: l).Pairwise leS := by
    intro l
    induction l with
    | nil => intro p _; exact List.pairwise_singleton _ _
    | cons x r ih =>
      intro p h
      unfold PyProof.Rows.risingS at h
      simp only [Bool.and_eq_true, Bool.not_eq_true'] at h
      have h2 := ih x h.2
      rw [List.pairwise_cons]
      refine ⟨fun z hz => ?_, h2⟩
      rcases List.mem_cons.mp hz with e | e
      · rw [e]; exact h.1
      · exact leS_trans h.1 ((List.pairwise_cons.mp h2).1 z e)
  intro l h
  cases l with
  | nil => exact .nil
  | cons x r => exact go r x h
theorem sorted_uniq {ys ks : List PySem.Str} (p : ys.Perm ks) (h : PyProof.Rows.sortedS ys = true) : ys = isortS ks :=
  (p.trans (isortS_perm ks).symm).eq_of_pairwise (le := leS) (fun a b _ _ h k => leS_anti h k) (sortedS_pw h) (isortS_pw ks)
section
variable {w : Wd} {X : Cx} {F F' : Hp} {ρ ρ' : List Addr} {σ : L2.St} {H H' : Hp} {st : St} {so so' : List SO} {vars : List (Option D)}
/-- the texts of keys, of data -/
def keyStrs : List (Key × D) → Option (List PySem.Str)
  | [] => some []
  | (.inr x, _) :: r => (keyStrs r).map fun l => x :: l
  | (.inl _, _) :: _ => none
theorem keyStrs_ok : ∀ {kvs : List (Key × D)} {ks : List PySem.Str}, keyStrs kvs = some ks → kvs.map (·.1) = ks.map Sum.inr
  | [], _, h => by cases h; rfl
  | (.inr x, _) :: r, ks, h => by
    unfold keyStrs at h
    cases e : keyStrs r with
    | none => rw [e] at h; cases h
    | some l =>
      rw [e] at h
      cases h
      simp [keyStrs_ok e]
  | (.inl _, _) :: _, _, h => by cases h
def strsD : List D → Option (List PySem.Str)
  | [] => some []
  | .str x :: r => (strsD r).map fun l => x :: l
  | _ => none
theorem strsD_ok : ∀ {ds : List D} {ks : List PySem.Str}, strsD ds = some ks → ds = ks.map .str
  | [], _, h => by cases h; rfl
  | .str x :: r, ks, h => by
    unfold strsD at h
    cases e : strsD r with
    | none => rw [e] at h; cases h
    | some l =>
      rw [e] at h
      cases h
      simp [strsD_ok e]
theorem vrs_strs {K : PySem.W.Frag} : ∀ {ks : List PySem.Str} {vs : List V}, VRs K F ρ (ks.map .str) vs → vs = ks.map V.str
  | [], _, h => by cases h; rfl
  | k :: ks, _, h => by
    cases h with
    | cons a b =>
      cases a
      rw [vrs_strs b, List.map_cons]
theorem strs_vrs {K : PySem.W.Frag} : ∀ {ks : List PySem.Str}, VRs K F ρ (ks.map .str) (ks.map V.str)
  | [] => .nil
  | k :: ks => .cons (.str k) strs_vrs
/-- sorted(x): a list of texts, a dict of texts -/
def dSortS : OA := fun ds so => match ds with
  | [x] => match dctOf so x with
    | some (_, kvs, _) => match keyStrs kvs with
      | some ks => if ks.length < 64 then some (.list ((isortS ks).map .str), so) else none
      | none => none
    | none => match lstOf so x with
      | some xs => match strsD xs with
        | some ks => if ks.length < 64 then some (.list ((isortS ks).map .str), so) else none
        | none => none
      | none => none
  | _ => none
theorem cs_sortS (c : Cok w X) : CallS w X (.builtin "sorted") dSortS := by
  intro F ρ H so ds d so' vs us pins s σ Q r hd hg I rv k
  unfold dSortS at hg
  split at hg <;> try cases hg
  obtain ⟨v, rfl, hv⟩ := vrs1 hd
  have fin : ∀ (ks : List PySem.Str) (ys : List PySem.Str) (p : Addr), d = .list ((isortS ks).map .str) → so' = so → ys.Perm ks → PyProof.Rows.sortedS ys = true → H p = none → Q (.ref p) (upd H p (.lst (ys.map V.str))) := fun ks ys p e1 e2 hp hs hn => by
    subst e1 e2
    rw [sorted_uniq hp hs]
    obtain ⟨r3, x3⟩ := r.frozen (o := .lst ((isortS ks).map V.str)) hn
    exact k _ _ _ _ x3 r3 (.lst upd_same strs_vrs)
  split at hg
  · rename_i n kvs b e
    split at hg <;> try cases hg
    rename_i ks ek
    split at hg <;> cases hg
    rename_i hl
    obtain ⟨a, xs, rfl, _, _, h4, _, _, h7⟩ := dct_of r hv e
    exact call_sortedD c.calm pins s σ H _ us Q I rv ⟨a, xs, ks, rfl, h4, h7.keys.symm.trans (keyStrs_ok ek), hl, fun ys p h1 h2 h3 => fin ks ys p rfl rfl h1 h2 h3⟩
  · split at hg <;> try cases hg
    rename_i xs e
    split at hg <;> try cases hg
    rename_i ks ek
    split at hg <;> cases hg
    rename_i hl
    obtain ⟨a, ws, rfl, h1, h2⟩ := lst_of r hv e
    have e3 := strsD_ok ek
    subst e3
    have e4 := vrs_strs h2
    subst e4
    exact cr_sortedS pins s σ H _ us Q I rv ⟨a, ks, rfl, SqL.of h1, hl, fun ys p h1 h2 h3 => fin ks ys p rfl rfl h1 h2 h3⟩

/-! ### " ".join(xs) -/
def kJoin (x y : D) : M D := fun st => match x, seqOf st.so y with
  | .str a, some ys => match strsD ys with
    | some ks => if (ks.map (·.length)).sum + ks.length * a.length ≤ 16777216 then .ok (.str (PySem.Txt.join a ks)) st.so else .bad
    | none => .bad
  | _, _ => .bad
def isS : D → Bool
  | .str _ => true
  | _ => false
def eJoin (f g : M D) : M D := bnd f fun x => if isS x = true then bnd g fun y => kJoin x y else bad
theorem seq_at (c : Cok w X) (r : RelS w F ρ H so) {d : D} {v : V} {xs : List D} (h : VR w.K F ρ d v) (e : seqOf so d = some xs) : ∃ a vs, v = .ref a ∧ VRs w.K F ρ xs vs ∧ (SqL X.K H a vs ∨ SqT X.K H a vs) := by
  unfold seqOf at e
  split at e
  · cases e
    cases h with
    | tup q k => exact ⟨_, _, rfl, k, .inr (by rw [c.K]; exact r.le.sqT q)⟩
  · obtain ⟨a, vs, rfl, h1, h2⟩ := lst_of r h e
    exact ⟨a, vs, rfl, h2, .inl (SqL.of h1)⟩
theorem se_join {o e : Expr} {apos pos : Pos} {f g : M D} (c : Cok w X) (ho : SE w X o f) (he : SE w X e g) (hs : starEach [e] X.env = [(false, eval e X.env)] := by rfl) (hbase : attributeBase o "join" X.env (eval o X.env) = eval o X.env := by rfl) (hline : (apos.endLine == pos.line) = true := by rfl) :
    SE w X (.Call (.Attribute o "join" apos) [e] [] pos) (eJoin f g) := fun W tk =>
  PE.imp (pe_join (ho W tk) (he W tk) hs hbase hline) fun σ H Q ⟨F, ρ, st, r, p⟩ => ⟨F, ρ, st, r, post_bnd p fun x v F1 ρ1 H1 so1 x1 r1 q1 p1 => by
    by_cases hx : isS x = true
    · rw [if_pos hx] at p1
      cases q1 with
      | str a =>
        refine ⟨⟨a, rfl⟩, F1, ρ1, _, r1, post_bnd p1 fun y u F2 ρ2 H2 so2 x2 r2 q2 p2 => ?_⟩
        unfold kJoin at p2
        dsimp only at p2
        split at p2
        · rename_i a' ys e1 e2
          cases e1
          split at p2
          · rename_i ks ek
            split at p2
            · rename_i hl
              obtain ⟨p, vs, rfl, h1, h2⟩ := seq_at c r2.s q2 e2
              have e3 := strsD_ok ek
              subst e3
              have e4 := vrs_strs h1
              subst e4
              exact ⟨a, p, ks, rfl, rfl, h2, hl, p2 _ F2 ρ2 H2 (Ext.refl _ _) r2 (.str _)⟩
            · exact p2.elim
          · exact p2.elim
        · exact p2.elim
      | _ => simp [isS] at hx
    · rw [if_neg hx] at p1; exact p1.elim⟩

/-! ### f'..' -/
def kFmt (d : D) : M D := fun st => match d with
  | .str y => if y.length ≤ mx then .ok (.str y) st.so else .bad
  | .int i => if i.natAbs.log2 < 1920 then .ok (.str (toString i)) st.so else .bad
  | _ => .bad
def eFmt (f : M D) : M D := bnd f kFmt
theorem se_fmt {e : Expr} {pos : Pos} {f : M D} (h : SE w X e f) : SE w X (.FormattedValue e (-1) none pos) (eFmt f) := fun W tk =>
  PE.imp (pe_fmt (h W tk)) fun σ H Q ⟨F, ρ, st, r, p⟩ => ⟨F, ρ, st, r, post_bnd p fun x v F1 ρ1 H1 so1 x1 r1 q1 p1 => by
    unfold kFmt at p1
    dsimp only at p1
    split at p1
    · split at p1
      · rename_i hl
        cases q1
        exact .inl ⟨_, rfl, le_mx hl, p1 _ F1 ρ1 H1 (Ext.refl _ _) r1 (.str _)⟩
      · exact p1.elim
    · split at p1
      · rename_i hl
        cases q1
        exact .inr ⟨_, rfl, hl, p1 _ F1 ρ1 H1 (Ext.refl _ _) r1 (.str _)⟩
      · exact p1.elim
    · exact p1.elim⟩
inductive SJ (w : Wd) (X : Cx) : List Expr → List (M D) → Prop where
  | nil : SJ w X [] []
  | cons {e : Expr} {f : M D} {es : List Expr} {fs : List (M D)} (h : SE w X e f) (r : SJ w X es fs) : SJ w X (e :: es) (f :: fs)
def eJs : List (M D) → PySem.Str → M D
  | [], acc => ret (.str acc)
  | f :: fs, acc => bnd f fun x => match x with
    | .str y => if (acc ++ y).length ≤ mx then eJs fs (acc ++ y) else bad
    | _ => bad
def eJoined (fs : List (M D)) : M D := eJs fs PySem.Str.empty
theorem sj_p {W : WX} (tk : Takes X W) : ∀ {es : List Expr} {fs : List (M D)}, SJ w X es fs → PJ X es (fs.map (trE w W))
  | _, _, .nil => .nil
  | _, _, .cons h r => .cons (h W tk) (sj_p tk r)
theorem js_tr {W : WX} {Q : VK} : ∀ {fs : List (M D)} {acc : PySem.Str} {σ : L2.St} {H : Hp}, trE w W (eJs fs acc) σ H Q → tJs (fs.map (trE w W)) acc σ H fun out H1 => Q (.str out) H1
  | [], acc, σ, H, ⟨F, ρ, st, r, p⟩ => p _ F ρ H (Ext.refl _ _) r (.str acc)
  | f :: fs, acc, σ, H, ⟨F, ρ, st, r, p⟩ => ⟨F, ρ, st, r, post_bnd p fun x v F1 ρ1 H1 so1 x1 r1 q1 p1 => by
    cases q1 with
    | str y =>
      dsimp only at p1
      by_cases hl : (acc ++ y).length ≤ mx
      · rw [if_pos hl] at p1
        exact ⟨y, rfl, le_mx hl, js_tr ⟨F1, ρ1, _, r1, p1⟩⟩
      · rw [if_neg hl] at p1; exact p1.elim
    | _ => exact p1.elim⟩
theorem se_joined {v1 v2 : Expr} {rest : List Expr} {fs : List (M D)} {pos : Pos} (h : SJ w X (v1 :: v2 :: rest) fs) : SE w X (.JoinedStr (v1 :: v2 :: rest) pos) (eJoined fs) := fun W tk => PE.imp (pe_joined (sj_p tk h)) fun σ H Q q => js_tr q
theorem se_joined1 {e : Expr} {f : M D} {pos : Pos} (h : SE w X e f) : SE w X (.JoinedStr [e] pos) f := fun W tk => pe_joined1 (h W tk)
end
end EV
end
section
set_option Elab.async false
set_option linter.all false
set_option maxRecDepth 100000
set_option maxHeartbeats 4000000
namespace EV
open PySem L2
section
variable {w : Wd} {X : Cx} {F F' : Hp} {ρ ρ' : List Addr} {σ : L2.St} {H H' : Hp} {st : St} {so so' : List SO} {vars : List (Option D)}

/-! ### dict displays -/
def eDNew : M D := fun st => .ok (rf st.so.length) (st.so ++ [.dct []])
theorem se_dnew {pos : Pos} : SE w X (.Dict [] [] pos) eDNew := fun W tk =>
  PE.imp pe_dnewK fun σ H Q ⟨F, ρ, st, r, p⟩ => fun a ha => by
    obtain ⟨r2, x2⟩ := r.s.live (u := .dK []) (o := .dct []) ha ⟨[], upd_same, .nil⟩
    exact p _ _ _ _ x2 (r.up x2 r2) (ref_new r.s)
inductive SPs (w : Wd) (X : Cx) : List (Option Expr) → List Expr → List (M D × M D) → Prop where
  | nil : SPs w X [] [] []
  | cons {k v : Expr} {ks : List (Option Expr)} {vs : List Expr} {fk fv : M D} {fs : List (M D × M D)} (hk : SE w X k fk) (hv : SE w X v fv) (r : SPs w X ks vs fs) : SPs w X (some k :: ks) (v :: vs) ((fk, fv) :: fs)
/-- the pairs, then the dict -/
def ePairs : List (M D × M D) → M (List (Key × D))
  | [] => ret []
  | (fk, fv) :: r => bnd fk fun x => match keyD x with
    | some k => bnd fv fun y => bnd (ePairs r) fun kvs => ret ((k, y) :: kvs)
    | none => bad
def mergeD (kvs more : List (Key × D)) : List (Key × D) := more.foldl (fun acc kv => dPut acc kv.1 kv.2) kvs
def kDisp (n : Nat) (kvs : List (Key × D)) : M D := fun st => match st.so[n]? with
  | some (.dct []) => if kvs.length ≤ 15 then .ok (rf n) (st.so.set n (.dct (mergeD [] kvs))) else .bad
  | _ => .bad
def eDisp (fs : List (M D × M D)) : M D := fun st => bnd (ePairs fs) (kDisp st.so.length) ⟨st.vars, st.so ++ [.dct []]⟩
def ViewKV (w : Wd) : Hp → List Addr → List (Key × D) → List (V × V) → Prop := fun F ρ kvs ps => ∃ vs : List (Key × V), KVs (VR w.K F ρ) kvs vs ∧ ps = vs.map fun kv => (kV kv.1, kv.2)
theorem sps_p {W : WX} (tk : Takes X W) {pos : Pos} : ∀ {ks : List (Option Expr)} {vs : List Expr} {fs : List (M D × M D)}, SPs w X ks vs fs → PPs X pos ks vs (fs.map fun q => (trE w W q.1, trE w W q.2))
  | _, _, _, .nil => pps_nil
  | _, _, _, .cons hk hv r => pps_cons (hk W tk) (hv W tk) (sps_p tk r)
theorem pairs_tr {W : WX} : ∀ {fs : List (M D × M D)} {σ : L2.St} {H : Hp} {Q : List (V × V) → Hp → Prop}, (∃ F ρ st, Rel w F ρ σ H st ∧ Post w F ρ σ st.vars (ViewKV w) W (ePairs fs st) Q) → tPairs (fs.map fun q => (trE w W q.1, trE w W q.2)) σ H Q
  | [], σ, H, Q, ⟨F, ρ, st, r, p⟩ => p _ F ρ H (Ext.refl _ _) r ⟨[], .nil, rfl⟩
  | (fk, fv) :: fs, σ, H, Q, ⟨F, ρ, st, r, p⟩ => ⟨F, ρ, st, r, post_bnd p fun x v F1 ρ1 H1 so1 x1 r1 q1 p1 => by
    cases e : keyD x with
    | none => rw [e] at p1; exact p1.elim
    | some k =>
      rw [e] at p1
      have hv := keyD_v q1 e
      subst hv
      refine ⟨F1, ρ1, _, r1, post_bnd p1 fun y u F2 ρ2 H2 so2 x2 r2 q2 p2 => ?_⟩
      refine pairs_tr ⟨F2, ρ2, _, r2, post_bnd p2 fun kvs ps F3 ρ3 H3 so3 x3 r3 q3 p3 => ?_⟩
      obtain ⟨vs, h1, rfl⟩ := q3
      exact p3 _ F3 ρ3 H3 (Ext.refl _ _) r3 ⟨(k, u) :: vs, .cons (x3.vr q2) h1, rfl⟩⟩
theorem merge_kv {K : PySem.W.Frag} : ∀ {more : List (Key × D)} {mv : List (Key × V)} {kvs : List (Key × D)} {vs : List (Key × V)}, KVs (VR K F ρ) more mv → KVs (VR K F ρ) kvs vs → KVs (VR K F ρ) (mergeD kvs more) (mergeK vs mv)
  | _, _, _, _, .nil, r => r
  | _, _, kvs, vs, .cons (k := k) (d := d) (v := v) (ds := ds) (vs := us) h t, r => by
    show KVs _ (mergeD (dPut kvs k d) ds) (mergeK (putK vs k v) us)
    exact merge_kv t (r.put h k)
theorem se_disp {pos : Pos} {k0 : Option Expr} {ks : List (Option Expr)} {vs : List Expr} {fs : List (M D × M D)} (h : SPs w X (k0 :: ks) vs fs) (hall : (k0 :: ks).all (·.isSome) = true := by rfl) (hl : (k0 :: ks).length = vs.length := by rfl) (h15 : (k0 :: ks).length ≤ 15 := by decide) : SE w X (.Dict (k0 :: ks) vs pos) (eDisp fs) := fun W tk =>
  PE.imp (pe_disp (sps_p tk h) hall hl (by simp) h15) fun σ H Q ⟨F, ρ, st, r, p⟩ => fun a ha => by
    obtain ⟨r2, x2⟩ := r.s.live (u := .dK []) (o := .dct []) ha ⟨[], upd_same, .nil⟩
    have hn : (ρ ++ [a])[st.so.length]? = some a := by rw [← r.s.len]; simp
    refine pairs_tr ⟨F, ρ ++ [a], ⟨st.vars, st.so ++ [.dct []]⟩, r.up x2 r2, ?_⟩
    have p' : Post w F (ρ ++ [a]) σ st.vars (qV w) W (bnd (ePairs fs) (kDisp st.so.length) ⟨st.vars, st.so ++ [.dct []]⟩) Q := by
      unfold eDisp at p
      revert p
      cases bnd (ePairs fs) (kDisp st.so.length) ⟨st.vars, st.so ++ [.dct []]⟩ with
      | ok d so => exact fun p v F1 ρ1 H1 x1 r1 q1 => p v F1 ρ1 H1 (x2.trans x1) r1 q1
      | exc c so => exact fun p F1 ρ1 H1 x1 r1 => p F1 ρ1 H1 (x2.trans x1) r1
      | bad => exact fun p => p
    refine post_bnd (st := ⟨st.vars, st.so ++ [.dct []]⟩) p' fun kvs ps F3 ρ3 H3 so3 x3 r3 q3 p3 => ?_
    obtain ⟨us, h1, rfl⟩ := q3
    unfold kDisp at p3
    dsimp only at p3
    split at p3
    · rename_i e1
      by_cases hl : kvs.length ≤ 15
      · rw [if_pos hl] at p3
        obtain ⟨b, b1, b0, ws, b2, b3⟩ := r3.s.obj _ _ e1
        have b4 := pre_get x3.pre hn
        rw [b4] at b1
        cases b1
        cases b3
        refine ⟨b2, us, rfl, by rw [← h1.length]; exact hl, ?_⟩
        exact p3 _ F3 ρ3 _ (Ext.refl _ _) (r3.up (Ext.refl _ _) (write_dct r3.s b4 b0 b2 (merge_kv h1 .nil))) (.ref b4)
      · rw [if_neg hl] at p3; exact p3.elim
    · exact p3.elim

/-! ### dict([(k, v), ..]) -/
def pairsD : List D → Option (List (Key × D))
  | [] => some []
  | .tuple [x, y] :: r => match keyD x, pairsD r with
    | some k, some l => some ((k, y) :: l)
    | _, _ => none
  | _ => none
def dDictP : OA := fun ds so => match ds with
  | [x] => match lstOf so x with
    | some xs => match pairsD xs with
      | some kvs => some (rf so.length, so ++ [.dct (mergeD [] kvs)])
      | none => none
    | none => none
  | _ => none
theorem pairsD_ok (c : Cok w X) (sub : Sub F H) : ∀ {xs : List D} {vs : List V} {kvs : List (Key × D)}, VRs w.K F ρ xs vs → pairsD xs = some kvs → ∃ (ps : List Addr) (us : List (Key × V)), vs = ps.map V.ref ∧ Paired (fun p kv => SqT X.K H p [kV kv.1, kv.2]) ps us ∧ KVs (VR w.K F ρ) kvs us
  | [], _, kvs, h, e => by
    cases h
    cases e
    exact ⟨[], [], rfl, .nil, .nil⟩
  | x :: r, _, kvs, h, e => by
    cases h with
    | cons h1 h2 =>
      unfold pairsD at e
      split at e
      · rename_i he
        cases he
      · rename_i x' y' r' he
        cases he
        split at e
        · rename_i k l e1 e2
          cases e
          obtain ⟨ps, us, rfl, h3, h4⟩ := pairsD_ok c sub h2 e2
          cases h1 with
          | tup q k2 =>
            obtain ⟨v1, v2, rfl, hv1, hv2⟩ := vrs2 k2
            have := keyD_v hv1 e1
            subst this
            exact ⟨_ :: ps, (k, v2) :: us, rfl, .cons (by rw [c.K]; exact sub.sqT q) h3, .cons hv2 h4⟩
        · cases e
      · cases e
theorem cs_dictP (c : Cok w X) : CallS w X (.type "dict") dDictP := by
  intro F ρ H so ds d so' vs us pins s σ Q r hd hg I rv k
  unfold dDictP at hg
  split at hg <;> try cases hg
  split at hg <;> try cases hg
  rename_i e
  split at hg <;> cases hg
  rename_i kvs ek
  obtain ⟨v, rfl, hv⟩ := vrs1 hd
  obtain ⟨a, ws, rfl, h1, h2⟩ := lst_of r hv e
  obtain ⟨ps, zs, rfl, h3, h4⟩ := pairsD_ok c r.le h2 ek
  refine call_dictP c.calm pins s σ H _ us Q I rv ⟨a, ps, zs, rfl, SqL.of h1, h3, fun p hp => ?_⟩
  obtain ⟨r2, x2⟩ := r.live (u := .dK (mergeK [] zs)) (o := .dct (mergeD [] kvs)) hp ⟨_, upd_same, merge_kv h4 .nil⟩
  exact k _ _ _ _ x2 r2 (ref_new r)

/-! ### assignments to tuples -/
def sPar3 (i j l : Nat) (f : M (List D)) : MS := bndS f fun ds st => match ds with
  | [x, y, z] => .ok .nx ⟨((st.vars.set i (some x)).set j (some y)).set l (some z), st.so⟩
  | _ => .bad
theorem ss_par3 {i j l : Nat} {x y z : PySem.Str} {a b e : Expr} {f : M (List D)} {px py pz pt pos : Pos} {kt k2 pt2} (c : Cok w X) (hi : X.N[i]? = some x) (hj : X.N[j]? = some y) (hl : X.N[l]? = some z) (hij : i ≠ j) (hil : i ≠ l) (hjl : j ≠ l)
    (hx : X.env.scope.names.lookup x = some .local) (hy : X.env.scope.names.lookup y = some .local) (hz : X.env.scope.names.lookup z = some .local) (ha : SA w X [a, b, e] f)
    (hw : swappedStores [.Tuple [.Name x px, .Name y py, .Name z pz] kt pt] (.Tuple [a, b, e] k2 pt2) X.env = pure (some [x, y, z]))
    (hs : swapsWithSole [.Tuple [.Name x px, .Name y py, .Name z pz] kt pt] (.Tuple [a, b, e] k2 pt2) pos.line X.env = pure false := by rfl) :
    SS w X (.Assign [.Tuple [.Name x px, .Name y py, .Name z pz] kt pt] (.Tuple [a, b, e] k2 pt2) pos) (sPar3 i j l f) := fun W tk =>
  PS.imp (ps_par3 c.calm c.nd hi hj hl hij hil hjl hx hy hz (ha W tk) hw hs) fun D σ H ⟨F, ρ, st, r, p⟩ => ⟨F, ρ, st, r, post_bndS r p fun ds vs F' ρ' H' so x r' q p' => by
    cases q with
    | nil => exact p'.elim
    | cons q1 q =>
      cases q with
      | nil => exact p'.elim
      | cons q2 q =>
        cases q with
        | nil => exact p'.elim
        | cons q3 q =>
          cases q with
          | nil => exact ⟨_, _, _, rfl, p' _ F' ρ' H' (Ext.refl _ _) (by have z := ((r'.set (i := i) q1).set (i := j) q2).set (i := l) q3; exact z)⟩
          | cons _ _ => exact p'.elim⟩
theorem sw_env {env env' : Env} (h : env.scope = env'.scope) (ts : List Expr) (v : Expr) : swappedStores ts v env = swappedStores ts v env' := by
  have h1 : env.blockKind = env'.blockKind := by unfold Env.blockKind; rw [h]
  have h2 : env.kindOf = env'.kindOf := by funext x; unfold Env.kindOf; rw [h]
  unfold swappedStores
  rw [h1, h2]
abbrev envS (sc : Scope) : Env := ⟨sc, 0, 0, [], PySem.Str.empty, none, .none, none, 0⟩
theorem XOk.par2 {p : Pg} {N : List PySem.Str} {sc : Scope} {fs : PySem.Str → Bool} {k : Nat} (h : XOk p N sc fs k X) {i j : Nat} {x y : PySem.Str} {a b : Expr} {f : M (List D)} {px py pt pos : Pos} {kt k2 pt2} (ha : SA p.w X [a, b] f) (q : locB N sc i x = true := by decide +kernel) (q2 : locB N sc j y = true := by decide +kernel) (hij : i ≠ j := by decide)
    (hw : swappedStores [.Tuple [.Name x px, .Name y py] kt pt] (.Tuple [a, b] k2 pt2) (envS sc) = pure (some [x, y]) := by kernel_rfl)
    (hs : swapsWithSole [.Tuple [.Name x px, .Name y py] kt pt] (.Tuple [a, b] k2 pt2) pos.line X.env = pure false := by rfl) : SS p.w X (.Assign [.Tuple [.Name x px, .Name y py] kt pt] (.Tuple [a, b] k2 pt2) pos) (sPar i j f) := by
  have q := locB_ok h q
  have q2 := locB_ok h q2
  exact ss_par h.c q.1 q2.1 hij q.2 q2.2 ha ((sw_env (env' := envS sc) h.sc _ _).trans hw) hs
theorem XOk.par3 {p : Pg} {N : List PySem.Str} {sc : Scope} {fs : PySem.Str → Bool} {k : Nat} (h : XOk p N sc fs k X) {i j l : Nat} {x y z : PySem.Str} {a b e : Expr} {f : M (List D)} {px py pz pt pos : Pos} {kt k2 pt2} (ha : SA p.w X [a, b, e] f) (q : locB N sc i x = true := by decide +kernel) (q2 : locB N sc j y = true := by decide +kernel) (q3 : locB N sc l z = true := by decide +kernel)
    (hij : i ≠ j := by decide) (hil : i ≠ l := by decide) (hjl : j ≠ l := by decide)
    (hw : swappedStores [.Tuple [.Name x px, .Name y py, .Name z pz] kt pt] (.Tuple [a, b, e] k2 pt2) (envS sc) = pure (some [x, y, z]) := by kernel_rfl)
    (hs : swapsWithSole [.Tuple [.Name x px, .Name y py, .Name z pz] kt pt] (.Tuple [a, b, e] k2 pt2) pos.line X.env = pure false := by rfl) : SS p.w X (.Assign [.Tuple [.Name x px, .Name y py, .Name z pz] kt pt] (.Tuple [a, b, e] k2 pt2) pos) (sPar3 i j l f) := by
  have q := locB_ok h q
  have q2 := locB_ok h q2
  have q3 := locB_ok h q3
  exact ss_par3 h.c q.1 q2.1 q3.1 hij hil hjl q.2 q2.2 q3.2 ha ((sw_env (env' := envS sc) h.sc _ _).trans hw) hs
/-- target = value, where the stores may have to be looked at -/
theorem XOk.asgT {p : Pg} {N : List PySem.Str} {sc : Scope} {fs : PySem.Str → Bool} {k : Nat} (h : XOk p N sc fs k X) {tg e : Expr} {pos : Pos} {T : List Nat} {f : M D} {g : MT} (he : SE p.w X e f) (hg : SG p.w X tg T g) (hw : swappedStores [tg] e (envS sc) = pure none := by kernel_rfl) (hs : swapsWithSole [tg] e pos.line X.env = pure false := by rfl)
    (h1 : (assignEach [tg] X.env).map (·.2) = [assign tg X.env] := by rfl) : SS p.w X (.Assign [tg] e pos) (sAsg f g) := ss_asg he hg hs ((sw_env (env' := envS sc) h.sc _ _).trans hw) h1

/-! ### dict comprehensions -/
def dcGo (g : MT) (t : M Bool) (fk fv : M D) (it : ItD) (vs : List Nat) (vars : List (Option D)) (n0 : Nat) : Nat → Nat → List SO → Option (List SO)
  | 0, _, _ => none
  | m + 1, i, so => match nextI it so i with
    | none => none
    | some none => some so
    | some (some d) => match g d ⟨wipeD vars vs, so⟩ with
      | .ok st1 => match t st1 with
        | .ok false so2 => dcGo g t fk fv it vs vars n0 m (i + 1) so2
        | .ok true so2 => match fk ⟨st1.vars, so2⟩ with
          | .ok y so3 => match keyD y, fv ⟨st1.vars, so3⟩ with
            | some k, .ok z so4 => match so4[n0]? with
              | some (.dct acc) => if acc.length < mx then dcGo g t fk fv it vs vars n0 m (i + 1) (so4.set n0 (.dct (dPut acc k z))) else none
              | _ => none
            | _, _ => none
          | _ => none
        | _ => none
      | _ => none
def eDc (fi : M ItD) (g : MT) (t : M Bool) (fk fv : M D) (vs : List Nat) : M D := bnd fi fun it st =>
  match dcGo g t fk fv it vs st.vars st.so.length (fuelI it st.so) 0 (st.so ++ [.dct []]) with
  | some so => .ok (rf st.so.length) so
  | none => .bad
theorem dc_tr {W : WX} {fi : M ItD} {T : List Nat} {g : MT} {t : M Bool} {fk fv : M D} {vs : List Nat} {Q : VK} (hT : ∀ i ∈ T, i ∈ vs) (h : trE w W (eDc fi g t fk fv vs) σ H Q) :
    tDc (trI w W fi) (trG w WN T g) (trT w WN t) (trE w WN fk) (trE w WN fv) vs σ H Q := by
  obtain ⟨F, ρ, st, r, p⟩ := h
  refine ⟨F, ρ, st, r, post_bnd p fun it J F1 ρ1 H1 so1 x1 r1 q1 p1 => fun D hD => ?_⟩
  dsimp only at p1
  obtain ⟨r2, x2⟩ := r1.s.live (u := .dK []) (o := .dct []) hD ⟨[], upd_same, .nil⟩
  have hn : (ρ1 ++ [D])[so1.length]? = some D := by rw [← r1.s.len]; simp
  refine ⟨fun i m H' => ∃ F' ρ' so', Ext F1 (ρ1 ++ [D]) F' ρ' ∧ Rel w F' ρ' σ H' ⟨st.vars, so'⟩ ∧ (match dcGo g t fk fv it vs st.vars so1.length m i so' with
    | some so => ∀ F2 ρ2 H2, Ext F1 (ρ1 ++ [D]) F2 ρ2 → Rel w F2 ρ2 σ H2 ⟨st.vars, so⟩ → Q (.ref D) H2
    | none => False), ⟨fuelI it so1, F1, ρ1 ++ [D], so1 ++ [.dct []], Ext.refl _ _, r1.up x2 r2, ?_⟩, ?_⟩
  · revert p1
    cases dcGo g t fk fv it vs st.vars so1.length (fuelI it so1) 0 (so1 ++ [.dct []]) with
    | none => exact fun p => p
    | some so3 => exact fun p1 F2 ρ2 H2 x3 r3 => p1 (.ref D) F2 ρ2 H2 (x2.trans x3) r3 (.ref (pre_get x3.pre hn))
  · rintro i m H3 ⟨F3, ρ3, so3, x3, r3, p3⟩
    cases m with
    | zero => exact p3.elim
    | succ m =>
      have z := q1 i F3 ρ3 H3 so3 (x2.trans x3) r3.s
      unfold dcGo at p3
      cases e0 : nextI it so3 i with
      | none => rw [e0] at p3; exact p3.elim
      | some o =>
        cases o with
        | none =>
          rw [e0] at p3 z
          exact .inl ⟨z, p3 F3 ρ3 H3 x3 r3⟩
        | some d =>
          rw [e0] at p3 z
          dsimp only at p3 z
          refine .inr ⟨z.1, fun H' => ∃ F' ρ' so', Ext F1 (ρ1 ++ [D]) F' ρ' ∧ Rel w F' ρ' σ H' ⟨st.vars, so'⟩ ∧ (match dcGo g t fk fv it vs st.vars so1.length m (i + 1) so' with
            | some so => ∀ F2 ρ2 H2, Ext F1 (ρ1 ++ [D]) F2 ρ2 → Rel w F2 ρ2 σ H2 ⟨st.vars, so⟩ → Q (.ref D) H2
            | none => False), fun H' n => ⟨m, Nat.lt_succ_self m, n⟩, fun x H4 y => ?_⟩
          obtain ⟨F4, x4, r4, v4⟩ := z.2 x H4 y
          have r5 := (r3.up x4 r4).wipe vs
          refine ⟨F4, ρ3, _, d, r5, v4, ?_⟩
          cases e1 : g d ⟨wipeD st.vars vs, so3⟩ with
          | bad => rw [e1] at p3; exact p3.elim
          | exc k st3 => rw [e1] at p3; exact p3.elim
          | ok st3 =>
            rw [e1] at p3
            dsimp only at p3
            intro σ5 F5 ρ5 H5 x5 r6 hw
            refine ⟨(hw vs hT).trans wipe_wipe, F5, ρ5, st3, r6, ?_⟩
            have back : ∀ {F' : Hp} {ρ' : List Addr} {H' : Hp} {so' : List SO}, Ext F4 ρ3 F' ρ' → RelS w F' ρ' H' so' → Rel w F' ρ' σ H' ⟨st.vars, so'⟩ := fun x s => (r3.up x4 r4).up x s
            cases e2 : t st3 with
            | bad => rw [e2] at p3; exact p3.elim
            | exc k so5 => rw [e2] at p3; exact p3.elim
            | ok b so5 =>
              rw [e2] at p3
              intro b' F6 ρ6 H6 x6 r7 q7
              cases q7
              cases b with
              | false =>
                dsimp only at p3
                rw [if_neg Bool.false_ne_true]
                exact ⟨F6, ρ6, so5, x3.trans (x4.trans (x5.trans x6)), back (x5.trans x6) r7.s, p3⟩
              | true =>
                dsimp only at p3
                rw [if_pos rfl]
                refine ⟨F6, ρ6, _, r7, ?_⟩
                cases e3 : fk ⟨st3.vars, so5⟩ with
                | bad => rw [e3] at p3; exact p3.elim
                | exc k so6 => rw [e3] at p3; exact p3.elim
                | ok yd so6 =>
                  rw [e3] at p3
                  dsimp only at p3
                  intro yv F7 ρ7 H7 x7 r8 q8
                  cases e5 : keyD yd with
                  | none => rw [e5] at p3; exact p3.elim
                  | some key =>
                    rw [e5] at p3
                    have hk := keyD_v q8 e5
                    refine ⟨F7, ρ7, _, r8, ?_⟩
                    cases e6 : fv ⟨st3.vars, so6⟩ with
                    | bad => rw [e6] at p3; exact p3.elim
                    | exc k so6 => rw [e6] at p3; exact p3.elim
                    | ok zd so7 =>
                      rw [e6] at p3
                      dsimp only at p3
                      intro zv F8 ρ8 H8 x8 r9 q9
                      have xx : Ext F1 (ρ1 ++ [D]) F8 ρ8 := x3.trans (x4.trans (x5.trans (x6.trans (x7.trans x8))))
                      cases e4 : so7[so1.length]? with
                      | none => rw [e4] at p3; exact p3.elim
                      | some o =>
                        cases o with
                        | dct acc =>
                          rw [e4] at p3
                          dsimp only at p3
                          by_cases hl : acc.length < mx
                          · rw [if_pos hl] at p3
                            obtain ⟨b, b1, b0, us, b2, b3⟩ := r9.s.obj _ _ e4
                            have b4 := pre_get xx.pre hn
                            rw [b4] at b1
                            cases b1
                            refine ⟨us, key, hk, b2, by rw [← b3.length]; exact Nat.lt_of_lt_of_le hl mx_le, F8, ρ8, _, xx, ?_, p3⟩
                            exact back (x5.trans (x6.trans (x7.trans x8))) (write_dct r9.s b4 b0 b2 (b3.put q9 key))
                          · rw [if_neg hl] at p3; exact p3.elim
                        | lst _ => rw [e4] at p3; exact p3.elim
                        | dlk _ => rw [e4] at p3; exact p3.elim
                        | ins _ _ => rw [e4] at p3; exact p3.elim
                        | lam _ => rw [e4] at p3; exact p3.elim
                        | scr _ => rw [e4] at p3; exact p3.elim
                        | dead => rw [e4] at p3; exact p3.elim
theorem se_dc {kx vx tg iter : Expr} {ifs : List Expr} {scope : Scope} {own : List (PySem.Str × Nat)} {vs : List Nat} {pos : Pos} {T : List Nat} {fi : M ItD} {g : MT} {t : M Bool} {fk fv : M D} (c : Cok w X) (ok : BlkOk X.N X.env.scope scope own) (hvs : own.map (·.2) = vs) (hT : ∀ i ∈ T, i ∈ vs)
    (hi : SI w X tg iter fi) (hg : Blk X scope fun Y => SG w Y tg T g) (ht : Blk X scope fun Y => STs w Y ifs t) (hk : Blk X scope fun Y => SE w Y kx fk) (he : Blk X scope fun Y => SE w Y vx fv) (hs : ∀ x, foldedSetIterable iter X.env x = pure x := by intro _; rfl) :
    SE w X (.DictComp kx vx [⟨tg, iter, ifs, 0⟩] scope pos) (eDc fi g t fk fv vs) := fun W tk => by
  subst hvs
  exact PE.imp (pe_dc c.calm c.nd (hi W tk) ok (fun s H C cl fp => hg s H C cl fp WN takes_none) (fun s H C cl fp => ht s H C cl fp WN takes_none) (fun s H C cl fp => hk s H C cl fp WN takes_none) (fun s H C cl fp => he s H C cl fp WN takes_none) hs) fun σ H Q h => dc_tr hT h
theorem XOk.dc {p : Pg} {N : List PySem.Str} {sc : Scope} {fs : PySem.Str → Bool} {k : Nat} (h : XOk p N sc fs k X) {kx vx tg iter : Expr} {ifs : List Expr} {scope : Scope} {own : List (PySem.Str × Nat)} {vs : List Nat} {pos : Pos} {T : List Nat} {fi : M ItD} {g : MT} {t : M Bool} {fk fv : M D} (ok : blkC N sc scope own = true)
    (hi : SI p.w X tg iter fi) (hb : ∀ Y, XOk p N (relS scope sc) (fun x => scope.names.lookup x == some .cell) k Y → SG p.w Y tg T g ∧ STs p.w Y ifs t ∧ SE p.w Y kx fk ∧ SE p.w Y vx fv) (hvs : own.map (·.2) = vs := by rfl) (hT : ∀ i ∈ T, i ∈ vs := by decide) (hs : ∀ x, foldedSetIterable iter X.env x = pure x := by intro _; rfl) :
    SE p.w X (.DictComp kx vx [⟨tg, iter, ifs, 0⟩] scope pos) (eDc fi g t fk fv vs) :=
  se_dc h.c (by rw [h.N, h.sc]; exact blkOk_by ok) hvs hT hi (fun s H C cl fp => (hb _ (h.blk s H C cl fp)).1) (fun s H C cl fp => (hb _ (h.blk s H C cl fp)).2.1) (fun s H C cl fp => (hb _ (h.blk s H C cl fp)).2.2.1) (fun s H C cl fp => (hb _ (h.blk s H C cl fp)).2.2.2) hs
theorem ps_setDc {i : Nat} {y : PySem.Str} {py : Pos} {kx vx tg iter : Expr} {ifs : List Expr} {scope : Scope} {own : List (PySem.Str × Nat)} {pos spos : Pos} {wi : TI} {g : TG} {tt : TT} {tk tv : TE} (hc : X.calm = true) (hN : X.N.Nodup) (hy : X.N[i]? = some y) (hyl : X.env.scope.names.lookup y = some .local)
    (hsw : swapsWith (.DictComp kx vx [⟨tg, iter, ifs, 0⟩] scope pos) (some (.Name y py)) spos.line X.env = pure true) (hi : PI X tg iter wi) (ok : BlkOk X.N X.env.scope scope own)
    (hg : Blk X scope fun Y => PG Y tg g) (ht : Blk X scope fun Y => PTs Y ifs tt) (hk : Blk X scope fun Y => PE Y kx tk) (he : Blk X scope fun Y => PE Y vx tv) (hs : ∀ x, foldedSetIterable iter X.env x = pure x := by intro _; rfl) :
    PS X (.Assign [.Name y py] (.DictComp kx vx [⟨tg, iter, ifs, 0⟩] scope pos) spos) (tAsg (tDc wi g tt tk tv (own.map (·.2))) (gName i)) := by
  refine ⟨fun pins s σ H D I h => ?_⟩
  rw [exec_Assign_Name_used _ _ _ _ hsw]
  refine wpAny_bind (wpAny_standAt (wpAny_bind ?_))
  show wpAny _ X.A (do let _ ← comprehension (.DictComp kx vx [⟨tg, iter, ifs, 0⟩] scope pos) scope X.env (firstIterPos [⟨tg, iter, ifs, 0⟩] pos) newDict false (eval iter X.env) (some (assign (.Name y py) X.env))) _ _ s
  have h2 : tDc wi g tt tk tv (own.map (·.2)) σ H (fun x H1 => gName i x σ H1 D.nx) := h
  refine wpAny_bind (thn (dc_core (Qf := fun _ s' => SP X pins D .next s') hc hN I hi ok hg ht hk he hs h2 fun L C s' m H' I' q hn f => ?_) fun _ s' hq => wpAny_pure (wpAny_pure hq))
  show wpAny _ _ (assign (.Name y py) X.env (.ref L)) _ _ _
  refine wpAny_assign_Name (store_ok2 (v := V.ref L) I' hN hy (.inl hyl) rfl (fun s2 I2 ⟨a, sb, ha⟩ => ?_) (.inr hyl))
  obtain ⟨f0, f1, f2, f3, f4, f5⟩ := f
  have haC : C ≠ a := by
    rcases ha with z | z
    · rw [z]; exact f1
    · exact fun e => f4 y a z e.symm
  refine ⟨m, hn.sameBut sb haC, fun h3 sb3 => ?_⟩
  exact ⟨_, H', I2.turned (t' := s2.toks) (fun b o hb e => (sb3.2 b hb).trans e) f0 f1 f3 f4 f5, q⟩
theorem sw_trueD {kx vx : Expr} {gs : List Comprehension} {scope : Scope} {pos py : Pos} {y : PySem.Str} {l : Nat} {env : Env} (hk : env.scope.kind = .function) (hy : env.scope.names.lookup y = some .local) (hl : (py.line == pos.line) = true)
    (ha : (scope.names.any fun (n, k) => n == y && (k == .local || k == .cell)) = false) : swapsWith (.DictComp kx vx gs scope pos) (some (.Name y py)) l env = pure true := by
  have ky : env.kindOf y = some .local := hy
  have hb : env.blockKind = .function := by unfold Env.blockKind; rw [hk]; rfl
  unfold swapsWith
  simp only [hb, ky, ha, Expr.pos, hl]
  rfl
theorem XOk.setDc {p : Pg} {N : List PySem.Str} {sc : Scope} {fs : PySem.Str → Bool} {k : Nat} (h : XOk p N sc fs k X) {i : Nat} {y : PySem.Str} {py : Pos} {kx vx tg iter : Expr} {ifs : List Expr} {scope : Scope} {own : List (PySem.Str × Nat)} {vs : List Nat} {pos spos : Pos} {T : List Nat} {fi : M ItD} {g : MT} {t : M Bool} {fk fv : M D} (ok : blkC N sc scope own = true)
    (hi : SI p.w X tg iter fi) (hb : ∀ Y, XOk p N (relS scope sc) (fun x => scope.names.lookup x == some .cell) k Y → SG p.w Y tg T g ∧ STs p.w Y ifs t ∧ SE p.w Y kx fk ∧ SE p.w Y vx fv) (q : locB N sc i y = true := by decide +kernel) (hk : sc.kind = .function := by rfl) (hl : (py.line == pos.line) = true := by rfl) (ha : (scope.names.any fun (n, k) => n == y && (k == .local || k == .cell)) = false := by decide +kernel)
    (hvs : own.map (·.2) = vs := by rfl) (hT : ∀ i ∈ T, i ∈ vs := by decide) (hs : ∀ x, foldedSetIterable iter X.env x = pure x := by intro _; rfl) :
    SS p.w X (.Assign [.Name y py] (.DictComp kx vx [⟨tg, iter, ifs, 0⟩] scope pos) spos) (sSet i (eDc fi g t fk fv vs)) := fun W tk => by
  subst hvs
  have q := locB_ok h q
  have B := fun (s : Shared) (H : Hp) (C : Addr) (cl : List (PySem.Str × Addr)) (fp : List Addr) => hb _ (h.blk (scope := scope) s H C cl fp)
  refine PS.imp (ps_setDc h.c.calm h.c.nd q.1 q.2 (sw_trueD (by rw [h.sc]; exact hk) q.2 hl ha) (hi W tk) (by rw [h.N, h.sc]; exact blkOk_by ok) (fun s H C cl fp => (B s H C cl fp).1 WN takes_none) (fun s H C cl fp => (B s H C cl fp).2.1 WN takes_none) (fun s H C cl fp => (B s H C cl fp).2.2.1 WN takes_none) (fun s H C cl fp => (B s H C cl fp).2.2.2 WN takes_none) hs) fun D σ H ⟨F, ρ, st, r, p⟩ => ?_
  exact dc_tr hT ⟨F, ρ, st, r, post_bndS r p fun d v F1 ρ1 H1 so1 x1 r1 q1 p1 => p1 _ F1 ρ1 H1 (Ext.refl _ _) (r1.set q1)⟩
end
end EV
end
section
set_option Elab.async false
set_option linter.all false
set_option maxRecDepth 100000
set_option maxHeartbeats 4000000
namespace EVr
open PySem PySem.Spec PyProof.Rows
section
variable {prog : Program} {w : World} {A : Around} {E : Value → Shared → Prop} {s : Shared} {T : String} {r d : Addr} {n : Nat} {P : Nat → Value → Prop} {OK : Heap → Prop}
theorem new_tuple_src {Q₁ : Value → Shared → Prop} (K : PySem.W.KdlSrc prog w T r d n P OK) (hne : T ≠ "tuple" ∧ T ≠ "list") (hh : A.handled = none) (hok : OK s.heap) (hlen : n ≤ sizeLine)
    (h : ∀ (h' : Heap) (tk : Nat) (acc : Array Value), (∀ b o, s.heap.get? b = some o → h'.get? b = some o) → ItemsOf P acc n → Q₁ (.ref h'.objs.size) { s with heap := h'.push { cls := .type "tuple", data := .seq acc }, toks := tk }) :
    codeAny (model prog w) A (.call (.builtin "tuple.__new__") ⟨[.type "tuple", .ref r], []⟩) (wants Q₁ E) s := by
  refine codeAny_of_tree ?_
  show wpAny _ A.in1 (do checkBuiltinCall "tuple.__new__" ⟨[.type "tuple", .ref r], []⟩; again (.builtin "tuple.__new__" ⟨[.type "tuple", .ref r], []⟩)) _ _ s
  refine wpAny_bind (wpAny_of_eq (F.newCall_tuple_1 _) (wpAny_pure ⟨plainId_quiet F.plain_tuple_new _, codeAny_builtin F.entry_tuple_new ?_⟩))
  rw [Around.under_plainId F.plain_tuple_new _]
  have hsub := sub_tuple_self
  have hinit := init_tuple_lookup
  have hmh := madeHere_tuple
  have hTI := K.type s hok
  have hnt := K.notTuple
  have hnl := K.notList
  have hh1 : A.in1.handled = none := hh
  wp_walk using wpAny_typeOf hTI, PySem.W.kdu_collect (A := A.in1) K hh1 hok hlen
  intro h' tk acc hk hacc
  show wpAny _ _ (Builtin.Tuple.tupleExact acc.toList.toArray >>= fun v => ret v) _ _ _
  unfold Builtin.Tuple.tupleExact
  refine wpAny_bind (wpAny_newObj_type ?_ (by show acc.toList.toArray.size ≤ sizeLine; simp only [Array.toArray_toList]; rw [hacc.1]; exact hlen))
  refine wpAny_pure ?_
  have e : acc.toList.toArray = acc := by simp
  rw [e]
  exact h h' tk acc hk hacc
theorem tuple_of_src {Q : Value → Shared → Prop} (K : PySem.W.KdlSrc prog w T r d n P OK) (hne : T ≠ "tuple" ∧ T ≠ "list") (hh : A.handled = none) (hok : OK s.heap) (hlen : n ≤ sizeLine)
    (hQ : ∀ (h' : Heap) (tk : Nat) (acc : Array Value), (∀ b o, s.heap.get? b = some o → h'.get? b = some o) → ItemsOf P acc n → Q (.ref h'.objs.size) { s with heap := h'.push { cls := .type "tuple", data := .seq acc }, toks := tk }) :
    wpAny (model prog w) A (call (.type "tuple") [.ref r]) Q E s := by
  refine callType_codes (Q₁ := fun obj s₁ => s₁.TypeIs obj "tuple" ∧ Q obj s₁) F.called_tuple (F.typeCall_tuple_1 _) F.entry_object_init
    (new_tuple_src (A := A.in1) K hne hh hok hlen fun h' tk acc hk hacc => ⟨⟨_, Heap.get?_push_size _ rfl, rfl⟩, hQ h' tk acc hk hacc⟩) fun obj s₁ h₁ => ?_
  exact ⟨h₁.1, F.args_object_init_2 obj _, object_init_meets F.called_tuple.init.lookup F.called_tuple.made (by decide) prog w A.in1 _ s₁ ⟨h₁.1, rfl, h₁.2⟩⟩
end
end EVr
namespace EV
open PySem PySem.Spec PyProof.Rows L2
/-! ### enumerate(text) -/
def Ites (x : PySem.Str) : It := ⟨fun i _ => i < x.cps.size, fun i H v H' => ∃ T c, v = .ref T ∧ H T = none ∧ H' = upd H T (.tup [.int (i : Nat), .str ⟨#[c]⟩]) ∧ x.cps[i]? = some c, fun i _ => x.cps.size ≤ i⟩
theorem turn_enumS {P : Program} {w : World} {K : PySem.W.Frag} {elts : List Expr} {kk : Nat} {tpos : Pos} (x : PySem.Str) (t : Tok) (ty : String) (hty : ty = "str_ascii_iterator" ∨ ty = "str_iterator") (e it : Addr) :
    Turn P w K (.Tuple elts kk tpos) (Ites x) [e, it] e (fun i h => (∃ old, IsEnum h e it ((i : Nat) : Int) old) ∧ h.IsStrIter it ty x t i ∧ e ≠ it) where
  mem := by simp
  obj := fun i h st b hb => by
    obtain ⟨⟨old, he⟩, ⟨o, ho, hc, hd⟩, _⟩ := st
    have e' : b = e ∨ b = it := by simpa using hb
    rcases e' with z | z
    · rw [z]; exact ⟨_, he, fun v q => nomatch q⟩
    · rw [z]; exact ⟨o, ho, fun v q => by rw [hd] at q; cases q⟩
  keep := fun i h h' st k => let ⟨⟨old, he⟩, ⟨o, ho, r⟩, hne⟩ := st; ⟨⟨old, k e (by simp) _ he⟩, ⟨o, k it (by simp) o ho, r⟩, hne⟩
  item := by
    intro X hP hw hK hc i pins s σ H E I hf st hg
    subst hP hw hK
    obtain ⟨⟨old, he⟩, hit, hne⟩ := st
    have D : Draws X.prog X.w X.A.in1 it [it] x.cps.size (fun i v => ∃ c u, x.cps[i]? = some c ∧ v = .str ⟨#[c]⟩ u) (fun i h => h.IsStrIter it ty x t i) := by
      rcases hty with q | q
      · rw [q]; exact Draws.strAscii (A := X.A.in1) (show X.A.in1.handled = none from I.ok.hd hc) it x t
      · rw [q]; exact Draws.strWide (A := X.A.in1) (show X.A.in1.handled = none from I.ok.hd hc) it x t
    have hel : e < s.heap.objs.size := Heap.lt_size he
    have hil : it < s.heap.objs.size := by obtain ⟨_, q, _⟩ := hit; exact Heap.lt_size q
    refine wpAny_pyNext_enum_itemD D he hit hg hne (by simpa using hne) fun y h' tk hy ho hit' hT hsz hk => ?_
    obtain ⟨c, u, hcx, rfl⟩ := hy
    refine ⟨_, rfl, wpAny_letOwnedTupleGo_enum (s := { s with heap := h', toks := tk + 1 }) ho fun h'' he' sb => ?_⟩
    have hT2 : h''.get? s.heap.objs.size = some { cls := .type "tuple", data := .seq #[.int i tk, .str ⟨#[c]⟩ u] } := (sb.2 _ (Nat.ne_of_gt hel)).trans hT
    have new : ObjOk X.prog X.w (upd H s.heap.objs.size (.tup [.int (i : Nat), .str ⟨#[c]⟩])) h'' s.heap.objs.size (.tup [.int (i : Nat), .str ⟨#[c]⟩]) :=
      ⟨by show 2 ≤ sizeLine; decide, [.int i tk, .str ⟨#[c]⟩ u], .cons ⟨_, rfl⟩ (.cons ⟨_, rfl⟩ .nil), ⟨_, hT2, rfl, _, rfl⟩⟩
    have I1 : Inv X pins σ (upd H s.heap.objs.size (.tup [.int (i : Nat), .str ⟨#[c]⟩])) { s with heap := h'', toks := tk + 1 } :=
      I.turnedNew (ch := [e, it]) (fun b ob hb q => (sb.2 b (fun z => hb (by simp [z]))).trans (hk b ob (fun z => hb (by simp [z])) (fun z => hb (by simp [z])) q)) hf (Nat.le_refl _) new
    have hit2 : h''.IsStrIter it ty x t (i + 1) := by
      obtain ⟨o, q1, q2⟩ := hit'
      exact ⟨o, (sb.2 it (Ne.symm hne)).trans q1, q2⟩
    have he2 : IsEnum h'' e it ((i + 1 : Nat) : Int) (.str ⟨#[c]⟩ u) := by
      have e1 : ((i + 1 : Nat) : Int) = (i : Int) + 1 := by omega
      rw [e1]; exact he'
    refine ⟨.ref s.heap.objs.size, _, I1, rfl, ⟨_, c, rfl, I.hok.fresh (Nat.le_refl _), rfl, hcx⟩, ⟨⟨_, he2⟩, hit2, hne⟩, fun b hb => ?_⟩
    · have hb' : b < s.heap.objs.size := by
        have e' : b = e ∨ b = it := by simpa using hb
        rcases e' with z | z
        · rw [z]; exact hel
        · rw [z]; exact hil
      rw [upd_ne (Nat.ne_of_lt hb')]
      exact (hf b hb).1
  done := by
    intro X hP hw hK hc i pins s σ H E I hf st hg
    subst hP hw hK
    obtain ⟨⟨old, he⟩, hit, hne⟩ := st
    obtain ⟨f0, f1, f2, f3, f4, f5⟩ := hf it (by simp)
    have hx : x.cps[i]? = none := Array.getElem?_eq_none hg
    have D : Draws X.prog X.w X.A.in1 it [it] 0 (fun _ _ => True) (fun _ h => h.IsStrIter it ty x t i) := ⟨fun _ _ q => let ⟨o, a, _⟩ := q; ⟨o, a⟩, fun _ h h' q k => let ⟨o, a, r⟩ := q; ⟨o, k it (by simp) o a, r⟩, fun _ _ _ _ q => absurd q (Nat.not_lt_zero _), fun s' Q E q hE => by
      rcases hty with z | z
      · rw [z] at q; exact wpAny_nextOf_ascii_end (A := X.A.in1) (I.ok.hd hc) q hx hE
      · rw [z] at q; exact wpAny_nextOf_wide_end (A := X.A.in1) (I.ok.hd hc) q hx hE⟩
    exact wpAny_pyNext_enum_endD D he hit fun h' eb => ⟨rfl, I.turned (t' := s.toks) (fun b o hb q => eb b o hb q) f0 f1 f3 f4 f5⟩
  self := fun A i s Q E st h => let ⟨⟨_, he⟩, _⟩ := st; wpAny_pyIter_enum he h
def iEnS (ta : TA) : TI := fun σ H R => ta σ H fun vs H1 => ∃ x, vs = [.str x] ∧ R (Ites x) H1
theorem pi_enS {X : Cx} {e : Expr} {ta : TA} {p pos tpos : Pos} {elts : List Expr} {kk : Nat} (hg : Gl X "enumerate") (hm : X.mg "enumerate" = none) (ha : PA X [e] ta) (hs : starEach [e] X.env = [(false, eval e X.env)] := by rfl) :
    PI X (.Tuple elts kk tpos) (.Call (.Name "enumerate" p) [e] [] pos) (iEnS ta) := by
  refine ⟨fun pins s σ H R I h => ?_⟩
  refine Call_ (ld_blt I hg hm boot_enumerate (PyProof.Rows.callWith_type1 (thn (ha.run pos pins s σ H _ I h) fun us s1 ⟨vs, H1, I1, r1, q1⟩ => ?_) hs rfl))
  obtain ⟨x, ex, q⟩ := q1
  subst ex
  cases r1 with
  | cons r rr =>
    cases rr
    obtain ⟨t, rfl⟩ := r
    refine call_enumerate_str fun h' he hit hsz hk => wpAny_pyIter_enum he ?_
    have I2 : Inv X pins σ H1 { s1 with heap := h' } := I1.kept (t' := s1.toks) hk
    have hty : strIterType x = "str_ascii_iterator" ∨ strIterType x = "str_iterator" := by
      unfold strIterType
      split
      · exact .inl rfl
      · exact .inr rfl
    refine ⟨s1.heap.objs.size + 1, [s1.heap.objs.size + 1, s1.heap.objs.size], _, _, H1, rfl, I2, turn_enumS x t _ hty (s1.heap.objs.size + 1) s1.heap.objs.size, ⟨⟨.none, he⟩, hit, Nat.succ_ne_self _⟩, fun b hb => ?_, q⟩
    have e' : b = s1.heap.objs.size + 1 ∨ b = s1.heap.objs.size := by simpa using hb
    have hle : s1.heap.objs.size ≤ b := by
      rcases e' with z | z
      · rw [z]; exact Nat.le_add_right _ _
      · rw [z]; exact Nat.le_refl _
    exact I1.fpOk hle (I1.hok.fresh hle)
section
variable {w : Wd} {X : Cx} {F F' : Hp} {ρ ρ' : List Addr} {σ : L2.St} {H H' : Hp} {st : St} {so so' : List SO} {vars : List (Option D)}
theorem it_enS {z : PySem.Str} : ItR w F ρ (.enu (.fz (charsD z))) (Ites z) := by
  intro i F1 ρ1 H so x r
  unfold nextI getS charsD
  dsimp only [Option.map]
  rw [List.getElem?_map]
  have e0 : z.cps.toList[i]? = z.cps[i]? := by simp
  rw [e0]
  cases e : z.cps[i]? with
  | none => exact Array.getElem?_eq_none_iff.mp e
  | some c =>
    refine ⟨(Array.getElem?_eq_some_iff.mp e).1, fun x' H' ⟨T, c', q1, q2, q3, q4⟩ => ?_⟩
    subst q1
    subst q3
    rw [e] at q4
    cases q4
    obtain ⟨r2, x2⟩ := r.frozen (o := .tup [.int (i : Nat), .str ⟨#[c]⟩]) q2
    exact ⟨_, x2, r2, .tup (SqT.of upd_same) (.cons (.int _) (.cons (.str _) .nil))⟩
/-- enumerate of a list or a text -/
def kEnuA (d : D) : M ItD := fun st => match d with
  | .str z => .ok (.enu (.fz (charsD z))) st.so
  | d => match srcOf st.so d with
    | some s => .ok (.enu s) st.so
    | none => .bad
def iEnuA (f : M D) : M ItD := bnd f kEnuA
theorem si_enuA {e : Expr} {p pos tpos : Pos} {elts : List Expr} {kk : Nat} {f : M D} (c : Cok w X) (hg : Gl X "enumerate") (hm : X.mg "enumerate" = none) (h : SE w X e f) (hs : starEach [e] X.env = [(false, eval e X.env)] := by rfl) :
    SI w X (.Tuple elts kk tpos) (.Call (.Name "enumerate" p) [e] [] pos) (iEnuA f) := fun W tk =>
  PI.imp (PI.or (pi_enS hg hm (pa_cons (h W tk) pa_nil hs) hs) (pi_enum hg hm (pa_cons (h W tk) pa_nil hs) hs)) fun σ H R ⟨F, ρ, st, r, p⟩ => by
    cases e1 : f st with
    | bad => unfold iEnuA bnd at p; rw [e1] at p; exact p.elim
    | exc k so1 =>
      refine .inl ⟨F, ρ, st, r, ?_⟩
      unfold iEnuA bnd at p
      rw [e1] at p ⊢
      exact p
    | ok d so1 =>
      have p1 : Post w F ρ σ st.vars (ItR w) W (kEnuA d ⟨st.vars, so1⟩) R := by
        unfold iEnuA bnd at p
        rw [e1] at p
        exact p
      unfold kEnuA at p1
      dsimp only at p1
      split at p1
      · rename_i z
        refine .inl ⟨F, ρ, st, r, ?_⟩
        rw [e1]
        intro v F1 ρ1 H1 x1 r1 q1
        cases q1
        exact ⟨_, rfl, p1 _ F1 ρ1 H1 x1 r1 it_enS⟩
      · split at p1
        · rename_i s e2
          refine .inr ⟨F, ρ, st, r, ?_⟩
          rw [e1]
          intro v F1 ρ1 H1 x1 r1 q1
          obtain ⟨a, vs, rfl, h1, h2⟩ := src_of r1.s q1 e2
          exact ⟨a, vs, rfl, SqL.of h2, by rw [c.K]; exact p1 _ F1 ρ1 H1 x1 r1 (it_enu h1)⟩
        · exact p1.elim
theorem XOk.enuA {p : Pg} {N : List PySem.Str} {sc : Scope} {fs : PySem.Str → Bool} {k : Nat} (h : XOk p N sc fs k X) {e : Expr} {ps pos tpos : Pos} {elts : List Expr} {kk : Nat} {f : M D} (hm : p.mg "enumerate" = none) (ha : SE p.w X e f) (q : glB sc "enumerate" = true := by decide +kernel) (hs : starEach [e] X.env = [(false, eval e X.env)] := by rfl) :
    SI p.w X (.Tuple elts kk tpos) (.Call (.Name "enumerate" ps) [e] [] pos) (iEnuA f) := si_enuA h.c (glB_ok h q).1 (by rw [h.mg]; exact hm) ha hs

/-! ### tuple(x): a list, a tuple, a dict -/
def dTupA : OA := fun ds so => match ds with
  | [.tuple xs] => some (.tuple xs, so)
  | [x] => match lstOf so x with
    | some xs => some (.tuple xs, so)
    | none => match dctOf so x with
      | some (_, kvs, _) => if kvs.length ≤ mx then some (.tuple (kvs.map fun kv => keyV kv.1), so) else none
      | none => none
  | _ => none
theorem cs_tupA (c : Cok w X) : CallS w X (.type "tuple") dTupA := by
  intro F ρ H so ds d so' vs us pins s σ Q r hd hg I rv k
  unfold dTupA at hg
  split at hg
  · exact cs_tuple c F ρ H so _ d so' vs us pins s σ Q r hd (by unfold dTuple; exact hg) I rv k
  · rename_i x hx
    split at hg
    · rename_i xs e
      cases hg
      refine cs_tuple c F ρ H so [x] _ so vs us pins s σ Q r hd ?_ I rv k
      unfold dTuple
      split
      · rename_i ys hy
        cases hy
        exact absurd rfl (hx ys)
      · rename_i y hy
        cases hy
        rw [e]
      · rename_i h1 h2
        exact absurd rfl (h2 x)
    · split at hg <;> try cases hg
      rename_i n kvs b e
      split at hg <;> cases hg
      rename_i hl
      obtain ⟨v, rfl, hv⟩ := vrs1 hd
      obtain ⟨a, ws, rfl, _, _, h4, _, _, h7⟩ := dct_of r hv e
      obtain ⟨u, rfl, ru⟩ := L2.vals1 rv
      cases ru
      obtain ⟨z, lo, zs, rel, dd⟩ := dk_rd I.hok h4
      obtain ⟨ep, hat⟩ := dd.dictAt
      have hlen : ws.length = zs.length := Paired.length rel
      refine EVr.tuple_of_src (PySem.W.kdl_dict (knd := mixKind X.prog X.w) (kvs := zs) (ep := ep) lo) (by decide) (I.ok.hd c.calm) hat (by rw [← hlen]; exact z) fun h' tk acc hk hacc => ?_
      have I1 : Inv X pins σ H { s with heap := h', toks := tk } := I.kept hk
      have hal : acc.toList.length = acc.size := by simp
      have hvals : Vals (ws.map fun kv => kV kv.1) acc.toList := by
        refine vals_of_at (by rw [List.length_map, hal, hacc.1, hlen]) fun j x w h1 h2 => ?_
        obtain ⟨k, y, hky, hi⟩ := hacc.2 j w (by rw [← Array.getElem?_toList]; exact h2)
        have e1 : (ws.map (·.1))[j]? = some k := by
          rw [KV.keys rel, List.getElem?_map, hky] <;> rfl
        have e2 : (ws.map fun kv => kV kv.1)[j]? = some (kV k) := by
          have e3 : (ws.map fun kv => kV kv.1) = (ws.map (·.1)).map kV := by rw [List.map_map] <;> rfl
          rw [e3, List.getElem?_map, e1] <;> rfl
        rw [e2] at h1
        cases h1
        exact keyIs_rel hi
      have hn : H h'.objs.size = none := I1.hok.fresh (Nat.le_refl _)
      obtain ⟨r3, x3⟩ := r.frozen (o := .tup (ws.map fun kv => kV kv.1)) hn
      refine ⟨.ref h'.objs.size, upd H h'.objs.size (.tup (ws.map fun kv => kV kv.1)), I1.laid (t' := tk) (fun b o e => Heap.get?_push_of_some _ e) (Nat.le_refl _) (show ObjOk X.prog X.w _ _ _ (.tup (ws.map fun kv => kV kv.1)) from ⟨?_, acc.toList, hvals, ?_⟩), rfl, k _ _ _ _ x3 r3 (.tup (SqT.of upd_same) (x3.vrs (keys_vr h7)))⟩
      · rw [List.length_map]; exact z
      · rw [Array.toArray_toList]; exact PyProof.Rows.IsTup.new _ _
  · cases hg
end
end EV
end
section
set_option Elab.async false
set_option linter.all false
set_option maxRecDepth 100000
set_option maxHeartbeats 4000000
namespace EV
open PySem L2
section
variable {w : Wd} {X : Cx} {F F' : Hp} {ρ ρ' : List Addr} {σ : L2.St} {H H' : Hp} {st : St} {so so' : List SO} {vars : List (Option D)}

/-! ### lists that are changed in place -/
def liveL (xs : List D) (so : List SO) : Option (D × List SO) := if xs.length ≤ mx then some (rf so.length, so ++ [.lst xs]) else none
def dAddL : O2 := fun x y so => match lstOf so x, lstOf so y with
  | some xs, some ys => liveL (xs ++ ys) so
  | _, _ => none
theorem os_addL (c : Cok w X) : OpS w X (binaryOp .Add) dAddL := by
  intro F ρ H so dx dy d so' x y v u pins s σ Q r hx hy hg I rx ry k
  unfold dAddL at hg
  split at hg <;> try cases hg
  rename_i xs ys e1 e2
  unfold liveL at hg
  split at hg <;> cases hg
  rename_i hl
  obtain ⟨a, vs, rfl, h1, r1⟩ := lst_of r hx e1
  obtain ⟨b, us, rfl, h2, r2⟩ := lst_of r hy e2
  rw [List.length_append] at hl
  refine op_cat pins s σ H _ _ v u Q I rx ry ⟨a, b, vs, us, rfl, rfl, h1, h2, by rw [← r1.length, ← r2.length]; exact le_mx hl, fun p hp => ?_⟩
  obtain ⟨r3, x3⟩ := r.live (u := .lst (vs ++ us)) (o := .lst (xs ++ ys)) hp ⟨_, upd_same, r1.append r2⟩
  exact k _ _ _ _ x3 r3 (ref_new r)
def dListL : OA := fun ds so => match ds with
  | [.tuple xs] => liveL xs so
  | [x] => match lstOf so x with
    | some xs => liveL xs so
    | none => match dctOf so x with
      | some (_, kvs, false) => liveL (kvs.map fun kv => keyV kv.1) so
      | _ => none
  | _ => none
theorem cs_listL (c : Cok w X) : CallS w X (.type "list") dListL := by
  intro F ρ H so ds d so' vs us pins s σ Q r hd hg I rv k
  have fin : ∀ {xs : List D} {ws : List V} {p : Addr}, liveL xs so = some (d, so') → VRs w.K F ρ xs ws → H p = none → Q (.ref p) (upd H p (.lst ws)) := fun {xs ws p} e q hp => by
    unfold liveL at e
    split at e <;> cases e
    obtain ⟨r3, x3⟩ := r.live (u := .lst ws) (o := .lst xs) hp ⟨_, upd_same, q⟩
    exact k _ _ _ _ x3 r3 (ref_new r)
  unfold dListL at hg
  split at hg
  · obtain ⟨v, rfl, hv⟩ := vrs1 hd
    cases hv with
    | tup q r1 => exact call_list_of pins s σ H _ us Q I rv ⟨_, _, rfl, .inr (by rw [c.K]; exact r.le.sqT q), fun p hp => fin hg r1 hp⟩
  · obtain ⟨v, rfl, hv⟩ := vrs1 hd
    split at hg
    · rename_i e
      obtain ⟨a, vs, rfl, h1, r1⟩ := lst_of r hv e
      exact call_list_of pins s σ H _ us Q I rv ⟨_, _, rfl, .inl (SqL.of h1), fun p hp => fin hg r1 hp⟩
    · split at hg
      · rename_i e
        obtain ⟨a, vs, rfl, _, _, _, h5, _, h7⟩ := dct_of r hv e
        exact call_list_dK c.calm pins s σ H _ us Q I rv ⟨_, _, rfl, (h5 rfl).1, fun p hp => fin hg (keys_vr h7) hp⟩
      · cases hg
  · cases hg
def eSlL (f : M D) (g h : M (Option Int)) : M D := bnd f fun x => bnd g fun lo => bnd h fun hi => fun st => match lstOf st.so x with
  | some xs => lft (liveL (cutD xs lo hi) st.so)
  | none => .bad
def rSlL (w : Wd) : V → Option Int → Option Int → Hp → VK → Prop := fun x lo hi H Q => ∃ F ρ so dx xs d so', RelS w F ρ H so ∧ VR w.K F ρ dx x ∧ lstOf so dx = some xs ∧ liveL (cutD xs lo hi) so = some (d, so') ∧
  ∀ v' F' ρ' H', Ext F ρ F' ρ' → RelS w F' ρ' H' so' → VR w.K F' ρ' d v' → Q v' H'
theorem sl_liveR : SlR X (rSlL w) := by
  intro pins s σ H x v vl vu lo hi sl Q I rx hs pl pu ⟨F, ρ, so, dx, xs, d, so', r, hx, e, hg, k⟩
  obtain ⟨a, vs, rfl, h1, r1⟩ := lst_of r hx e
  refine sl_list pins s σ H _ v vl vu lo hi sl Q I rx hs pl pu ⟨a, vs, rfl, SqL.of h1, fun p hp => ?_⟩
  unfold liveL at hg
  split at hg <;> cases hg
  obtain ⟨r3, x3⟩ := r.live (u := .lst (cutV vs lo hi)) (o := .lst (cutD xs lo hi)) hp ⟨_, upd_same, cut_vr r1 lo hi⟩
  exact k _ _ _ _ x3 r3 (ref_new r)
theorem se_sliceL {e : Expr} {lo hi : Option Expr} {p2 pos : Pos} {f : M D} {g h : M (Option Int)} (c : Cok w X) (he : SE w X e f) (hl : SO2 w X lo g) (hh : SO2 w X hi h) : SE w X (.Subscript e (.Slice lo hi none p2) pos) (eSlL f g h) := fun W tk =>
  PE.imp (pe_slice sl_liveR (he W tk) (hl W tk) (hh W tk)) fun σ H Q ⟨F, ρ, st, r, p⟩ => ⟨F, ρ, st, r, post_bnd p fun a v F1 ρ1 H1 so1 x1 r1 q1 p1 =>
    ⟨F1, ρ1, ⟨st.vars, so1⟩, r1, post_bnd p1 fun l l' F2 ρ2 H2 so2 x2 r2 q2 p2 => ⟨F2, ρ2, ⟨st.vars, so2⟩, r2, post_bnd p2 fun u u' F3 ρ3 H3 so3 x3 r3 q3 p3 => by
      subst q2
      subst q3
      dsimp only at p3
      cases e : lstOf so3 a with
      | none => rw [e] at p3; exact p3.elim
      | some xs =>
        rw [e] at p3
        dsimp only at p3
        cases e2 : liveL (cutD xs l u) so3 with
        | none => rw [e2] at p3; exact p3.elim
        | some q =>
          obtain ⟨d, so'⟩ := q
          rw [e2] at p3
          exact ⟨F3, ρ3, so3, a, xs, d, so', r3.s, (x2.trans x3).vr q1, e, e2, fun v' F' ρ' H' x' r' q' => p3 v' F' ρ' H' x' (r3.up x' r') q'⟩⟩⟩⟩
theorem XOk.aug {p : Pg} {N : List PySem.Str} {sc : Scope} {fs : PySem.Str → Bool} {k : Nat} (h : XOk p N sc fs k X) {i : Nat} {x : PySem.Str} {e : Expr} {op : Operator} {pos pos' : Pos} {f : M D} {g : O2} (he : SE p.w X e f) (ho : IpS p.w X op g) (q : tgB N sc fs i x = true := by decide +kernel) : SS p.w X (.AugAssign (.Name x pos') op e pos) (sAug i g f) := by
  have q := tgB_ok h q
  exact ss_aug h.c ho q.1 q.2.1 he q.2.2
theorem sws_env {env env' : Env} (h : env.scope = env'.scope) (ts : List Expr) (v : Expr) (l : Nat) : swapsWithSole ts v l env = swapsWithSole ts v l env' := by
  have h1 : env.blockKind = env'.blockKind := by unfold Env.blockKind; rw [h]
  have h2 : env.kindOf = env'.kindOf := by funext x; unfold Env.kindOf; rw [h]
  unfold swapsWithSole
  split
  · unfold swapsWith
    rw [h1, h2, h]
  · rfl
/-- target = a comprehension, where the target is no plain local name -/
theorem XOk.asgC {p : Pg} {N : List PySem.Str} {sc : Scope} {fs : PySem.Str → Bool} {k : Nat} (h : XOk p N sc fs k X) {tg e : Expr} {pos : Pos} {T : List Nat} {f : M D} {g : MT} (he : SE p.w X e f) (hg : SG p.w X tg T g) (hs : swapsWithSole [tg] e pos.line (envS sc) = pure false := by kernel_rfl) (hw : swappedStores [tg] e (envS sc) = pure none := by kernel_rfl)
    (h1 : (assignEach [tg] X.env).map (·.2) = [assign tg X.env] := by rfl) : SS p.w X (.Assign [tg] e pos) (sAsg f g) := ss_asg he hg ((sws_env (env' := envS sc) h.sc _ _ _).trans hs) ((sw_env (env' := envS sc) h.sc _ _).trans hw) h1
/-- a def that is not entered -/
theorem def_bad {p : Pg} {n : Nat} {x qual : PySem.Str} {params : Arguments} {body : List Stmt} {scope : Scope} {f : Addr} {fd : FuncData} {N ps : List PySem.Str} (F : FunD p.w.K x qual params body scope [] [] f fd) (S : FnScope N ps scope) (hn : ps.length = n)
    (hb : ∀ (kV doc pm : Value) (an : Option Addr) (cdv ct : Value) (us : List Value), us.length = ps.length → bindArgs (PySem.W.fnOf x qual params body scope .none kV doc pm an cdv ct) ⟨us, []⟩ = pure (ps.zip us)) : DOk p 0 n f (fun _ _ => .bad) := by
  refine ⟨⟨fd, ps, ⟨fun vs H Q E z => by rw [hn]; exact spG.len vs H Q E z, fun A outer s H args us vs Q E hr e0 hb r hsp => ?_⟩, hn, F.bindsN hb⟩, F.kp⟩
  obtain ⟨F1, ρ1, so, ds, _, _, _, pc⟩ := hsp
  exact pc.elim
end
end EV
end
section
set_option Elab.async false
set_option linter.all false
set_option maxRecDepth 100000
set_option maxHeartbeats 4000000
namespace EVr
open PySem PySem.Spec PyProof.Rows L2 LamX
section
variable {X : Cx} {pins : List (Addr × Obj)} {σ : L2.St} {H : Hp} {s : Shared}
/-- an object of ours that is not told of yet is told of from now on -/
theorem adopt {f : Addr} {φ : Heap → Prop} (I : Inv X pins σ H s) (fp : FpOk X pins H f) (ho : φ s.heap ∧ (∃ o, s.heap.get? f = some o) ∧ ∀ h1 h2 : Heap, φ h1 → (∀ o, h1.get? f = some o → h2.get? f = some o) → φ h2) : Inv X pins σ (upd H f (.ext φ)) s := by
  obtain ⟨hn, f1, f2, f3, f4, f5⟩ := fp
  refine I.step (g' := s.gens) (d' := s.drawn) (t' := s.toks) (h' := s.heap) (ch := [f]) (fun b hb => ?_) (fun b o _ _ _ e _ => e) (fun b o _ _ _ e _ => ⟨o.slots, e⟩) (fun b o hb _ n => ?_) (fun b o _ e => ⟨o, e⟩)
    (fun b xs e => by rw [upd_ne (ne_of_none e hn)]; exact e) (fun b o u e => by rw [upd_ne (ne_of_none e hn)]; exact e) (fun b ps e => ⟨#[], by rw [upd_ne (ne_of_none e hn), e]; simp⟩) (fun m hm => hm) (fun b u e => ?_) I.bare
  · have eb : b = f := by simpa using hb
    subst eb
    exact ⟨f3, f1, f4, f5⟩
  · rw [upd_ne (by simpa using hb)]
    exact n
  · by_cases hb : b = f
    · rw [hb, upd_same] at e
      cases e
      rw [hb]
      exact ho
    · rw [upd_ne hb] at e
      refine (I.hok b u e).stay (fun d v _ q => q) (fun d q => ?_) fun d xs q => ?_
      · rw [upd_ne (ne_of_none q hn)]; exact q
      · rw [upd_ne (ne_of_none q hn)]; exact q
/-- a lambda is made: where it stands, its code object -/
theorem lam_made {T : List (Addr × Str)} {cc P : Addr} {params : Arguments} {body : Expr} {scope : Scope} {pos : Pos} {E : Value → Shared → Prop} {Q : Value → Shared → Prop} (I : Inv X pins σ H s) (TB : TabB X.base X.mg cc P) (hcode : X.env.code = .ref cc)
    (hm : (P, X.env.qual ++ "<lambda>") ∈ T) (hu : ∀ p ∈ T, p.1 = P → p.2 = X.env.qual ++ "<lambda>") (hT : Tabs T H) (hdef : defaultsOf params X.env = ([], [])) (hfree : ∀ y ∈ scope.names, y.2 = .free → ∃ c, X.env.cells.lookup y.1 = some c)
    (h : ∀ (f c' : Addr) (pm ctv : Value) (H1 : Hp) (s' : Shared), Inv X pins σ H1 s' → ExtN H H1 → Tabs T H1 →
      EV.LamPhi X.env.cells ⟨X.env.qual ++ "<lambda>", params, body, scope⟩ f c' pm ctv s'.heap → FpOk X pins H1 f → H1 c' = some (CodeO c' (X.env.qual ++ "<lambda>")) → Q (.ref f) s') :
    wpAny (model X.prog X.w) X.A (eval (.Lambda params body scope pos) X.env) Q E s := by
  obtain ⟨ps, hP, ht, ha⟩ := hT _ hm
  refine PySem.W.kla_eval hdef ?_
  have hq : s.heap.get? P = some { cls := .none, data := .fields ps } := I.hok P _ hP
  have hbm := TB.bm.keeps I.bk
  have hcd := TB.code.keeps I.bk
  have hgl := I.mod.glob.keeps I.bk
  cases hc : codeAmong pos ps.toList with
  | some cv =>
    obtain ⟨c', e, hco⟩ := ha pos cv hc
    subst e
    refine PySem.W.kla_makeFunctionHit (mg := X.mg) (c := cc) (P := P) (ps := ps) (closure_ok hfree) I.ok.glob hgl hcode hcd hq ht hc hbm fun ctv h' tk hx hsz => ?_
    have J := I.kept (t' := tk) (h' := h'.push (PySem.W.kla_obj "<lambda>" (X.env.qual ++ "<lambda>") params body scope (cloFrom X.env.cells scope.names []) ((X.mg "__name__").getD .none) c' ctv)) fun b o e => Heap.get?_push_of_some _ (hx b o e)
    exact h h'.objs.size c' ((X.mg "__name__").getD .none) ctv H _ J (ExtN.refl H) hT (Heap.get?_push_size _ rfl) (I.fpOk hsz (I.hok.fresh hsz)) hco
  | none =>
    refine PySem.W.kla_makeFunction (mg := X.mg) (c := cc) (P := P) (ps := ps) (closure_ok hfree) I.ok.glob hgl hcode hcd hq ht hc TB.gP hbm fun c' ctv h' tk hx hge hlt hrec htb => ?_
    obtain ⟨c2, oc, vs, t, e2, hoc, hd, hv⟩ := hrec
    cases e2
    have hsz : s.heap.objs.size ≤ h'.objs.size := Nat.le_trans hge (Nat.le_of_lt hlt)
    have nC : H c' = none := I.hok.fresh hge
    have J := inv_table (t' := tk) (more := #[rawInt pos.line, rawInt pos.col, .ref c']) (h' := h'.push (PySem.W.kla_obj "<lambda>" (X.env.qual ++ "<lambda>") params body scope (cloFrom X.env.cells scope.names []) ((X.mg "__name__").getD .none) c' ctv)) I hP
      (fun b o hb e => Heap.get?_push_of_some _ (hx b o hb e)) (Heap.get?_push_of_some _ htb) hge ⟨oc, vs, t, Heap.get?_push_of_some _ hoc, hd, hv⟩
    have other : ∀ b o, H b = some o → (∀ qs, o ≠ .tbl qs) → (upd (upd H P (.tbl (ps ++ #[rawInt pos.line, rawInt pos.col, .ref c']))) c' (CodeO c' (X.env.qual ++ "<lambda>"))) b = some o := fun b o e n => by
      rw [upd_ne (ne_of_none e nC), upd_ne (fun z => n ps (Option.some.inj (e.symm.trans (by rw [z]; exact hP))))]
      exact e
    have eL : (ps ++ #[rawInt pos.line, rawInt pos.col, .ref c']).toList = ps.toList ++ [rawInt pos.line, rawInt pos.col, .ref c'] := by simp
    have n1 : h'.objs.size ≠ c' := Nat.ne_of_gt hlt
    have n2 : h'.objs.size ≠ P := Nat.ne_of_gt (Nat.lt_of_lt_of_le (Heap.lt_size hq) hsz)
    refine h h'.objs.size c' ((X.mg "__name__").getD .none) ctv _ _ J other (fun p hp => ?_) (Heap.get?_push_size _ rfl) (I.fpOk hsz ?_) upd_same
    · by_cases hb : p.1 = P
      · rw [hu p hp hb, hb]
        refine ⟨ps ++ #[rawInt pos.line, rawInt pos.col, .ref c'], ?_, ?_, fun p' cv hcv => ?_⟩
        · rw [upd_ne (ne_of_none hP nC), upd_same]
        · rw [eL]; exact PySem.TriplesOk_snoc _ _ _ _ ht
        · rw [eL] at hcv
          rcases among_app _ ht hcv with z | z
          · obtain ⟨c0, e1, e2⟩ := ha p' cv z
            exact ⟨c0, e1, other _ _ e2 codeO_ne⟩
          · exact ⟨c', z, upd_same⟩
      · obtain ⟨qs, a1, a2, a3⟩ := hT p hp
        refine ⟨qs, by rw [upd_ne (ne_of_none a1 nC), upd_ne hb]; exact a1, a2, fun p' cv hcv => ?_⟩
        obtain ⟨c0, e1, e2⟩ := a3 p' cv hcv
        exact ⟨c0, e1, other _ _ e2 codeO_ne⟩
    · rw [upd_ne n1, upd_ne n2]
      exact I.hok.fresh hsz
end
end EVr
namespace EV
open PySem L2
section
variable {w : Wd} {X : Cx} {F F' : Hp} {ρ ρ' : List Addr} {σ : L2.St} {H H' : Hp} {st : St} {so so' : List SO} {vars : List (Option D)}
def eLam (j : Nat) : M D := fun st => .ok (rf st.so.length) (st.so ++ [.lam j])
/-- behind the making of a lambda -/
theorem RelS.lam {H1 : Hp} {f c' : Addr} {pm ctv : Value} {j : Nat} (r : RelS w F ρ H so) (eN : LamX.ExtN H H1) (t1 : LamX.Tabs w.T H1) (hf : H1 f = none) (hc : H1 c' = some (LamX.CodeO c' (w.lam j).q)) :
    ∃ F', RelS w F' (ρ ++ [f]) (upd H1 f (.ext (LamPhi w.clo (w.lam j) f c' pm ctv))) (so ++ [.lam j]) ∧ Ext F ρ F' (ρ ++ [f]) := by
  have keep : ∀ b o, F b = some o → H1 b = some o := fun b o e => eN b o (r.le b o e) fun ps z => r.nt b ps (by rw [e, z])
  have nf : ∀ b o, F b = some o → b ≠ f := fun b o e z => by
    have q := keep b o e
    rw [z, hf] at q
    cases q
  have ncf : c' ≠ f := ne_of_none hc hf
  have le0 : Sub F (upd (upd F c' (LamX.CodeO c' (w.lam j).q)) f (.ext (LamPhi w.clo (w.lam j) f c' pm ctv))) := fun b o e => by
    rw [upd_ne (nf b o e)]
    by_cases hb : b = c'
    · subst hb
      rw [upd_same]
      have q := keep _ _ e
      rw [hc] at q
      exact q
    · rw [upd_ne hb]; exact e
  have x : Ext F ρ (upd (upd F c' (LamX.CodeO c' (w.lam j).q)) f (.ext (LamPhi w.clo (w.lam j) f c' pm ctv))) (ρ ++ [f]) := ⟨le0, List.prefix_append ρ [f]⟩
  have np : f ∉ ρ := fun hp => by
    obtain ⟨n, hn, e⟩ := List.getElem_of_mem hp
    have hs : n < so.length := by rw [← r.len]; exact hn
    obtain ⟨a, e1, e3⟩ := r.obj n _ (List.getElem?_eq_getElem hs)
    rw [List.getElem?_eq_getElem hn, e] at e1
    cases e1
    rcases e3.or with ⟨e3, _⟩ | ⟨_, e3⟩
    · obtain ⟨u, hu⟩ := Option.isSome_iff_exists.mp e3
      exact nf _ u hu rfl
    · obtain ⟨u, hu, h2, _⟩ := e3.live
      have := eN _ _ hu h2
      rw [hf] at this
      cases this
  refine ⟨_, ⟨fun b o e => ?_, by rw [List.length_append, List.length_append, r.len]; rfl, ?_, fun n ob e => ?_, fun q hq => ?_, fun b ps e => ?_⟩, x⟩
  · by_cases hb : b = f
    · rw [hb, upd_same] at e ⊢; exact e
    · rw [upd_ne hb] at e ⊢
      by_cases hb2 : b = c'
      · subst hb2
        rw [upd_same] at e
        rw [hc]; exact e
      · rw [upd_ne hb2] at e
        exact keep b o e
  · rw [List.nodup_append]
    exact ⟨r.nd, by simp, fun a ha b hb => by simp at hb; subst hb; exact fun z => np (z ▸ ha)⟩
  · by_cases hn : n < so.length
    · rw [List.getElem?_append_left hn] at e
      obtain ⟨a, e1, e3⟩ := r.obj n ob e
      refine ⟨a, pre_get x.pre e1, ?_⟩
      rcases e3.or with ⟨_, e4⟩ | ⟨e4, e5⟩
      · exact e4 _ _ _ x
      · obtain ⟨u, hu, h2, h3⟩ := e5.live
        have h1 := eN _ _ hu h2
        have ne : a ≠ f := ne_of_none h1 hf
        have nc : a ≠ c' := fun z => by
          rw [z, hc] at h1
          exact h3 _ (Option.some.inj h1).symm
        exact .of (by rw [upd_ne ne, upd_ne nc]; exact e4) (e5.mono x (by rw [upd_ne ne, h1, hu]))
    · rw [List.getElem?_append_right (by omega)] at e
      have hn2 : n - so.length = 0 := by
        have := (List.getElem?_eq_some_iff.mp e).1
        simp at this
        omega
      rw [hn2] at e
      cases e
      have hn3 : n = ρ.length := by rw [r.len]; omega
      exact ⟨f, by rw [hn3]; simp, c', pm, ctv, upd_same, by rw [upd_ne ncf, upd_same]⟩
  · refine (t1 q hq).ext fun b o e => ?_
    rw [upd_ne (ne_of_none e hf)]; exact e
  · by_cases hb : b = f
    · rw [hb, upd_same] at e; cases e
    · rw [upd_ne hb] at e
      by_cases hb2 : b = c'
      · rw [hb2, upd_same] at e
        exact LamX.codeO_ne ps (Option.some.inj e)
      · rw [upd_ne hb2] at e
        exact r.nt b ps e
theorem se_lam {j : Nat} {params : Arguments} {body : Expr} {scope : Scope} {pos : Pos} {cc P : Addr} (hc : X.env.cells = w.clo) (TB : LamX.TabB X.base X.mg cc P) (hcode : X.env.code = .ref cc) (hm : (P, X.env.qual ++ "<lambda>") ∈ w.T) (hu : ∀ p ∈ w.T, p.1 = P → p.2 = X.env.qual ++ "<lambda>")
    (hlam : w.lam j = ⟨X.env.qual ++ "<lambda>", params, body, scope⟩) (L : LamX.LamS X.env.scope scope) (hdef : defaultsOf params X.env = ([], []) := by rfl) : SE w X (.Lambda params body scope pos) (eLam j) := by
  intro W tk
  refine ⟨fun pins s σ H Q I ⟨F, ρ, st, r, p⟩ => ?_⟩
  refine EVr.lam_made I TB hcode hm hu r.s.tabs hdef (L.has I.ok) fun f c' pm ctv H1 s' I1 eN t1 hf fp hco => ?_
  have hq : (w.lam j).q = X.env.qual ++ "<lambda>" := by rw [hlam]
  obtain ⟨F1, r1, x1⟩ := r.s.lam (f := f) (c' := c') (pm := pm) (ctv := ctv) (j := j) eN t1 fp.1 (by rw [hq]; exact hco)
  have I2 := EVr.adopt (φ := LamPhi w.clo (w.lam j) f c' pm ctv) I1 fp ⟨by rw [hlam, ← hc]; exact hf, ⟨_, hf⟩, fun h1 h2 a b => b _ a⟩
  exact ⟨.ref f, _, I2, rfl, p _ F1 _ _ x1 (r.up x1 r1) (.ref (by rw [← r.s.len]; simp))⟩
end
end EV
end
section
set_option Elab.async false
set_option linter.all false
set_option maxRecDepth 100000
set_option maxHeartbeats 4000000
namespace EVr
open PySem PySem.Spec PyProof.Rows L2 LamX
section
variable {X : Cx}
theorem lc_at {pins : List (Addr × Obj)} {s : Shared} {σ : L2.St} {H : Hp} {Q : VK} {elt tg iter : Expr} {ifs : List Expr} {scope : Scope} {own : List (Str × Nat)} {pos pos' : Pos} {wi : TI} {g : TG} {tt : TT} {te : TE} {use : Option (Value → Sem Unit)} {Qf : Value → Shared → Prop}
    (hc : X.calm = true) (hN : X.N.Nodup) (I : Inv X pins σ H s) (hi : PI X tg iter wi) (ok : BlkOk X.N X.env.scope scope own)
    (hg : ∀ (s : Shared) (H : Hp) (C : Addr) (cl : List (Str × Addr)) (fp : List Addr), PG (X.blk s H scope (compEnvC scope cl C X.env) fp) tg g) (ht : ∀ (s : Shared) (H : Hp) (C : Addr) (cl : List (Str × Addr)) (fp : List Addr), (∀ pins' σ' H' s', Inv (X.blk s H scope (compEnvC scope cl C X.env) fp) pins' σ' H' s' → Inv X pins σ H' s') →
      PTs (X.blk s H scope (compEnvC scope cl C X.env) fp) ifs tt)
    (he : ∀ (s : Shared) (H : Hp) (C : Addr) (cl : List (Str × Addr)) (fp : List Addr), PE (X.blk s H scope (compEnvC scope cl C X.env) fp) elt te) (hs : ∀ x, foldedSetIterable iter X.env x = pure x)
    (h : tLc wi g tt te (own.map (·.2)) σ H Q)
    (hRR : ∀ D C s' m H', Inv X pins σ H' s' → Q (.ref D) H' → s'.heap.Ns C m → FpOk X pins H' C → compPost (model X.prog X.w) X.A X.xe use Qf (.ref D) C (.ok .next) s') :
    wpAny (model X.prog X.w) X.A (comprehension (.ListComp elt [⟨tg, iter, ifs, 0⟩] scope pos) scope X.env pos' (newList []) false (eval iter X.env) use) Qf X.xe s := by
  have hfree : ∀ y ∈ scope.names, y.2 = .free → ∃ c, X.env.cells.lookup y.1 = some c := fun y hy e => by
    rcases ok.free y hy e with k | k
    · exact I.ok.has _ (.inl k)
    · exact I.ok.has _ (.inr k)
  refine wpAny_comprehension_free (use := use) rfl hs (closure_ok hfree) ok.kind (fun y hy e => by rw [ok.uniq y hy, e])
    (thn (hi.run pins s σ H _ I h) fun xv sh1 hx => thn hx fun itv sh2 hz2 => ?_)
  obtain ⟨it, fp, tn, J, Hq2, e, Iv2, T, tu2, fz2, q⟩ := hz2
  subst e
  refine wpAny_newObj_type (newEnv_comp ?_) (by show 0 ≤ sizeLine; decide)
  generalize hD : sh2.heap.objs.size = D
  have hDn : Hq2 D = none := Iv2.hok.fresh (Nat.le_of_eq hD)
  obtain ⟨W, ⟨mz0, wz0⟩, turn⟩ := q D hDn
  -- the new list
  generalize hs3 : ({ sh2 with heap := sh2.heap.push { cls := .type "list", data := .seq ([] : List Value).toArray } } : Shared) = sh3
  have Iv3 : Inv X pins σ (upd Hq2 D (.lst [])) sh3 := by
    rw [← hs3]
    refine Iv2.laid (t' := sh2.toks) (fun b o e => Heap.get?_push_of_some _ e) (Nat.le_of_eq hD) ⟨Nat.zero_le _, [], 0, .nil, ?_⟩
    rw [← hD]
    exact Heap.get?_push_size _ rfl
  have hz3 : sh3.heap = sh2.heap.push { cls := .type "list", data := .seq ([] : List Value).toArray } := by rw [← hs3]
  have sz : ∀ b ∈ fp, b < sh2.heap.objs.size := fun b hb => by
    obtain ⟨o, e, _⟩ := T.obj _ _ tu2 b hb
    exact Heap.lt_size e
  have fz3 : ∀ b ∈ fp, FpOk X pins (upd Hq2 D (.lst [])) b ∧ b < sh3.heap.objs.size := fun b hb => by
    have hlt := sz b hb
    refine ⟨⟨?_, (fz2 b hb).2⟩, by rw [hz3, Heap.size_push]; exact Nat.lt_succ_of_lt hlt⟩
    rw [upd_ne (by rw [← hD]; exact Nat.ne_of_lt hlt)]
    exact (fz2 b hb).1
  have tu3 : tn 0 sh3.heap := T.keep _ _ _ tu2 fun b _ o e => by rw [hz3]; exact Heap.get?_push_of_some _ e
  have Iv4 := block_start Iv3 ok hN fz3
  have pg := hg sh3 (upd Hq2 D (.lst [])) sh3.heap.objs.size (cellsFrom (sh3.heap.objs.size + 1) scope.names (cloFrom X.env.cells scope.names [])) fp
  have pt := ht sh3 (upd Hq2 D (.lst [])) sh3.heap.objs.size (cellsFrom (sh3.heap.objs.size + 1) scope.names (cloFrom X.env.cells scope.names [])) fp (fun pins' σ' H' s' J => Iv3.call' (ch := fp) J.os J.base J.hok J.bare fun b hb =>
    ⟨(fz3 b hb).1.2.2.2.1, (fz3 b hb).1.2.1, (fz3 b hb).1.2.2.2.2.1, (fz3 b hb).1.2.2.2.2.2⟩)
  have pe := he sh3 (upd Hq2 D (.lst [])) sh3.heap.objs.size (cellsFrom (sh3.heap.objs.size + 1) scope.names (cloFrom X.env.cells scope.names [])) fp
  show codeAny _ _ (.compStart (.ListComp elt [⟨tg, iter, ifs, 0⟩] scope pos) 0 (.ref it) (.ref D) (compEnvC scope (cellsFrom (sh3.heap.objs.size + 1) scope.names (cloFrom X.env.cells scope.names [])) sh3.heap.objs.size X.env)) (compPost (model X.prog X.w) X.A X.xe use Qf (.ref D) sh3.heap.objs.size) { sh3 with heap := pushCells (sh3.heap.push { cls := .type "dict", data := .dict #[] }) scope.names }
  have nfp : ∀ b ∈ fp, (upd Hq2 D (.lst [])) b = none := fun b hb => (fz3 b hb).1.1
  generalize hce : compEnvC scope (cellsFrom (sh3.heap.objs.size + 1) scope.names (cloFrom X.env.cells scope.names [])) sh3.heap.objs.size X.env = ce at Iv4 pg pt pe ⊢
  have cL : ce.locals = sh3.heap.objs.size := by subst hce; rfl
  generalize hH3 : upd Hq2 D (.lst []) = Hq3 at Iv3 Iv4 pg pt pe wz0 nfp fz3
  generalize hs4 : ({ sh3 with heap := pushCells (sh3.heap.push { cls := .type "dict", data := .dict #[] }) scope.names } : Shared) = sh4 at Iv4 ⊢
  have tu4 : tn 0 sh4.heap := T.keep _ _ _ tu3 fun b _ o e => by rw [← hs4]; exact pushCells_keeps _ _ _ _ (Heap.get?_push_of_some _ e)
  have stat : ∀ {σ' : L2.St} {H' : Hp} {s' : Shared}, Inv (X.blk sh3 Hq3 scope ce fp) [] σ' H' s' → (∀ b ∈ fp, H' b = none) → ∀ b ∈ fp, FpOk (X.blk sh3 Hq3 scope ce fp) [] H' b := fun {σ' H' s'} I' hn b hb =>
    ⟨hn b hb, (I'.ok.exf b hb).1, I'.ok.exfs b hb, .inl hb, fun x c e => (I'.ok.exf b hb).2 x c e, fun p hp => absurd (show p ∈ ([] : List (Addr × Obj)) ++ [] from hp) (by simp)⟩
  have loop : codeAny (model X.prog X.w) X.A (.compLoop (.ListComp elt [⟨tg, iter, ifs, 0⟩] scope pos) 0 (.ref it) (.ref D) ce) (compPost (model X.prog X.w) X.A X.xe use Qf (.ref D) sh3.heap.objs.size) sh4 := by
    refine compLoop_any (fun n s' => ∃ i H', Inv (X.blk sh3 Hq3 scope ce fp) [] (wipe σ (own.map (·.2))) H' s' ∧ tn i s'.heap ∧ (∀ b ∈ fp, H' b = none) ∧ W i n H') ?_ mz0 ⟨0, Hq3, Iv4, tu4, nfp, wz0⟩
    rintro n sh5 ⟨i, Hq5, Iv5, tu5, nn5, wz5⟩
    rcases turn i n Hq5 wz5 with ⟨stop, qq⟩ | ⟨go, Nx, hNx, step⟩
    · have td := T.done (X.blk sh3 Hq3 scope ce fp) rfl rfl rfl hc i [] sh5 _ Hq5 (fun _ _ => False) Iv5 (stat Iv5 nn5) tu5 stop
      refine thnF td fun r sh6 ⟨hr, Iv6⟩ => ?_
      subst hr
      -- back in the def's context
      have Iv7 : Inv X pins σ Hq5 sh6 := Iv3.call' (ch := fp) Iv6.os Iv6.base Iv6.hok Iv6.bare fun b hb => ⟨(fz3 b hb).1.2.2.2.1, (fz3 b hb).1.2.1, (fz3 b hb).1.2.2.2.2.1, (fz3 b hb).1.2.2.2.2.2⟩
      have nC : Hq5 sh3.heap.objs.size = none := by
        have z : Hq5 ce.locals = none := Iv6.free
        rw [cL] at z
        exact z
      obtain ⟨m, hn, _⟩ := Iv6.loc
      have hn : sh6.heap.Ns ce.locals m := hn
      rw [cL] at hn
      exact hRR D sh3.heap.objs.size sh6 m Hq5 Iv7 qq hn (Iv3.fpOk (Nat.le_refl _) nC)
    · have ti := T.item (X.blk sh3 Hq3 scope ce fp) rfl rfl rfl hc i [] sh5 _ Hq5 (fun _ _ => False) Iv5 (stat Iv5 nn5) tu5 go
      refine thnF ti fun r sh6 ⟨u, hr, hz6⟩ => ?_
      subst hr
      refine thnF hz6 fun _ sh7 ⟨x, Hq7, Iv7, rz7, yz7, tu7, nn7⟩ => ?_
      have Iv7' := Iv7.pinned (stat Iv7 nn7) (T.obj _ _ tu7)
      refine thnF (pg.run _ sh7 _ Hq7 x u _ Iv7' rz7 (step x Hq7 yz7)) fun _ sh8 ⟨τ8, Hq8, Iv8, hw8, qz8⟩ => ?_
      refine thnF (pt.run _ sh8 τ8 Hq8 _ Iv8 qz8) fun b sh9 ⟨Hq9, Iv9, qz9⟩ => ?_
      -- the turn's end
      have fin : ∀ {s' : Shared} {H' : Hp}, Inv (X.blk sh3 Hq3 scope ce fp) ([] ++ pinsAt fp sh7.heap) τ8 H' s' → Nx H' → ∃ m, m < n ∧ ∃ i H', Inv (X.blk sh3 Hq3 scope ce fp) [] (wipe σ (own.map (·.2))) H' s' ∧ tn i s'.heap ∧ (∀ b ∈ fp, H' b = none) ∧ W i m H' := fun {s' H'} I' nx => by
        obtain ⟨m', hm, w'⟩ := hNx H' nx
        have pin' : ∀ b ∈ fp, ∀ o, sh7.heap.get? b = some o → s'.heap.get? b = some o ∧ H' b = none := fun b hb o e =>
          let z := I'.pin (b, o) (List.mem_append_right _ (List.mem_append_right _ (mem_pinsAt hb e)))
          ⟨z.1, z.2.1⟩
        have hl : (wipe σ (own.map (·.2))).length = τ8.length := by rw [← hw8, wipe_length]
        refine ⟨m', hm, i + 1, H', (I'.unpinned (pins := [])).weak hl (fun j v e => ?_), T.keep _ _ _ tu7 fun b hb o e => (pin' b hb o e).1, fun b hb => ?_, w'⟩
        · rw [← hw8] at e
          exact (wipe_some e).1
        · obtain ⟨o, e, _⟩ := T.obj _ _ tu7 b hb
          exact (pin' b hb o e).2
      cases b with
      | false =>
        simp only [Bool.false_eq_true, if_false] at qz9 ⊢
        exact fin Iv9 qz9
      | true =>
        simp only [if_true] at qz9 ⊢
        refine thnF (pe.run _ sh9 τ8 Hq9 _ Iv9 qz9) fun z sh10 ⟨yv, Hq10, Iv10, rz10, acc, hD10, hz10, nx⟩ => ?_
        exact app_ok (X := X.blk sh3 Hq3 scope ce fp) Iv10 hD10 hz10 rz10 fun sh11 Iv11 => fin Iv11 nx
  exact codeAny_compStart_list loop (T.self X.A 0 _ _ _ tu4 loop)
end
section
variable {X : Cx} {pins : List (Addr × Obj)} {σ : L2.St} {H HZ : Hp} {s s1 : Shared}
theorem pe_actE {CXg : CXT} {Eg : XK} {Ng : List Str} {qg : Str} {sg : Scope} {g f c' : Addr} {cdg pm ctv : Value} {params : Arguments} {body : Expr} {scope : Scope} {k i : Nat} {a : Str} {pn : List (Addr × Obj)} {xe : Value → Shared → Prop} {W : WX} {E : XK} {tb : TE} {p1 p2 : Pos}
    (I : Inv X pins σ H s) (L : LamS X.env.scope scope) 
    (hbind : bindArgs (PySem.W.kla_fn "<lambda>" (X.env.qual ++ "<lambda>") params body scope (cloFrom X.env.cells scope.names []) pm (.ref c') ctv) ⟨[], []⟩ = pure [])
    (tk : Takes ((cxOf CXg X.prog X.w X.K X.mg X.base Ng qg sg g cdg X.A X.stack s H Eg).tr pn xe) W) (hW : ∀ cls d σ' H', E cls d H' → W cls d σ' H') (hr : Room (k + 1) (X.A.deeper (envOfC qg sg s.heap.objs.size g cdg)))
    (hbody : ∀ (A : Around) (outer : List Env) (s : Shared) (H : Hp), Room k (A.deeper (lamEnv X scope s.heap.objs.size f c')) → PE (lamCx X A outer s H E scope f c') body tb)
    (hN : Ng[i]? = some a) (hv : Vis sg a) (hd : (a == ("__debug__" : Str)) = false := by decide) (hcd : (a == ("__classdict__" : Str)) = false := by decide) :
    PE ((cxOf CXg X.prog X.w X.K X.mg X.base Ng qg sg g cdg X.A X.stack s H Eg).tr pn xe) (.Call (.Name a p1) [] [] p2)
      (fun σZ HZ Q => σZ[i]? = some (some (.ref f)) ∧ HZ c' = some (CodeO c' (X.env.qual ++ "<lambda>")) ∧ HZ f = some (.ext (EV.LamPhi X.env.cells ⟨X.env.qual ++ "<lambda>", params, body, scope⟩ f c' pm ctv)) ∧ tb σ HZ Q) := by
  refine ⟨fun pinsZ sZ σZ HZ Q IZ h => ?_⟩
  obtain ⟨hs, hc, hlam, ht⟩ := h
  refine wpAny_Call_Name_kw (thn ((pe_var (pos := p1) (i := i) hN hv hd hcd).run pinsZ sZ σZ HZ (fun v Hq1 => v = .ref f ∧ Hq1 = HZ) IZ ⟨.ref f, hs, rfl, rfl⟩) fun u sh1 ⟨v, Hq1, Iv1, rz1, qz1⟩ => ?_)
  obtain ⟨ev, eH⟩ := qz1
  subst ev
  rw [eH] at Iv1
  obtain rfl : u = Value.ref f := rz1
  have lz1 : sh1.heap.get? f = some (PySem.W.kla_obj "<lambda>" (X.env.qual ++ "<lambda>") params body scope (cloFrom X.env.cells scope.names []) pm c' ctv) := (Iv1.hok f _ hlam).1
  refine PySem.W.callWith_F0 ⟨_, _, _, _, lz1⟩ ?_
  have un : Un (frs X.stack) [] H HZ s.heap sh1.heap := Iv1.base
  obtain ⟨⟨oc, vs, t, hoc, hdc, hvc⟩, _, _⟩ := Iv1.hok c' _ hc
  have rc : codeAny (model X.prog X.w) (X.A.deeper (envOfC qg sg s.heap.objs.size g cdg)) (.call (.ref f) ⟨[], []⟩) (CR (L2.CX X.prog X.w) (envOfC qg sg s.heap.objs.size g cdg :: X.stack) X.prog X.w HZ sh1 Q E) sh1 := by
    refine PySem.W.kla_callFunE hr.depth lz1 rfl L.co L.gen rfl ⟨c', oc, vs, t, rfl, hoc, hdc, hvc⟩ ?_
    rw [hbind]
    refine wpAny_pure (wpAny_newFunctionEnv (fun y hy => (L.own y hy).2) (fun y hy => absurd hy (by simp)) (fun hz₁ hns hsb => ⟨Iv1.nolimit.fresh _ hsb, ?_⟩) L.kind)
    show codeAny _ _ (.expr body (lamEnv X scope sh1.heap.objs.size f c')) _ _
    have kp : ∀ b o, sh1.heap.get? b = some o → hz₁.get? b = some o := fun b o e => hsb.extBut b o (Nat.ne_of_lt (Heap.lt_size e)) (Heap.get?_push_of_some _ e)
    have J : Inv (lamCx X (X.A.deeper (envOfC qg sg s.heap.objs.size g cdg)) (envOfC qg sg s.heap.objs.size g cdg :: X.stack) sh1 HZ E scope f c') [] σ HZ { sh1 with heap := hz₁, toks := sh1.toks + ([] : List (Str × Value)).length } :=
      lam_start2 I L Iv1.env0 hr.hd un hns kp
    refine PySem.W.kla_codeExpr (wpAny_mono ((hbody _ _ sh1 HZ (hr.deeper _)).run [] _ _ HZ Q J ht) (fun v s' hq => ?_) fun e s' hq => hq)
    obtain ⟨w', H', J', rv, q⟩ := hq
    exact ⟨w', H', J'.os, J'.bare, J'.base, J'.hok, rv, q⟩
  have hx : Passes (L2.CX X.prog X.w) ((cxOf CXg X.prog X.w X.K X.mg X.base Ng qg sg g cdg X.A X.stack s H Eg).tr pn xe) E := passes_call tk hW
  refine wpAny_call (codeAny_mono rc fun r s' hq => ?_)
  cases r with
  | error e => exact hx pinsZ σZ HZ sh1 e s' Iv1 hq
  | ok fl =>
    cases fl with
    | ret u => exact Iv1.after hq
    | next => exact False.elim hq
    | brk => exact False.elim hq
    | cont => exact False.elim hq
end
/-- told(e), in a block of the context X: e comes to a lambda of X's def -/
theorem pe_told {X : Cx} {σ : L2.St} {s0 : Shared} {H0 : Hp} {bsc : Scope} {cenv : Env} {fp : List Addr} (hB : ∀ pins' σ' H' s', Inv (X.blk s0 H0 bsc cenv fp) pins' σ' H' s' → ∃ pins, Inv X pins σ H' s')
    {x a e0 : Str} {g CS : Addr} {k j0 : Nat} {pg : Arguments} {sg : Scope} {dV kV doc pm0 cdv ct oc : Value} {an od : Option Addr} {osl : Array (Option Value)} {Ng : List Str} {ret : Str} {e : Expr} {ta : TE} {p pos p1 p2 p3 p4 p5 p6 p7 p8 : Pos}
    (lk : X.K.lookup g = some ⟨oc, od, .func (PySem.W.fnOf x x pg [.Try [.Return (some (.Call (.Name a p1) [] [] p2)) p3] [.ExceptHandler (some (.Name e0 p4)) none [.Return (some (.Constant (.str ret) j0 p5)) p6] p7] [] [] p8] sg dV kV doc pm0 an cdv ct), osl⟩)
    (hg : Gl (X.blk s0 H0 bsc cenv fp) x) (hm : X.mg x = some (.ref g)) (hk : PySem.W.keepIn X.K (.ref g) = true) (hcg : PySem.W.codeIn X.K cdv x = true)
    (hb : L2.Binds X.K (PySem.W.fnOf x x pg [.Try [.Return (some (.Call (.Name a p1) [] [] p2)) p3] [.ExceptHandler (some (.Name e0 p4)) none [.Return (some (.Constant (.str ret) j0 p5)) p6] p7] [] [] p8] sg dV kV doc pm0 an cdv ct) [a] [])
    (Sg : FnScope Ng [a] sg) (hNg : Ng[0]? = some a) (hva : Vis sg a) (hge : sg.names.lookup e0 = some .globalImplicit) (hme : X.mg e0 = some (.ref CS)) (hde : (e0 == ("__debug__" : Str)) = false) (h0 : ∀ f : Addr, (L2.start Ng [V.ref f])[0]? = some (some (V.ref f)))
    (hr : Room (k + 2) X.A) (he : PE (X.blk s0 H0 bsc cenv fp) e ta) (tb : EV.LamR → XK → TE)
    (hbody : ∀ (r : EV.LamR) (Q : VK) (H1 : Hp) (E : XK), tb r E σ H1 Q → r.q = X.env.qual ++ "<lambda>" ∧ LamS X.env.scope r.scope ∧ (∀ (q : Str) (cl : List (Str × Addr)) (pm cv ctv : Value), bindArgs (PySem.W.kla_fn "<lambda>" q r.params r.body r.scope cl pm cv ctv) ⟨[], []⟩ = pure []) ∧
      ∀ (A : Around) (outer : List Env) (s : Shared) (H : Hp) (E : XK) (f c' : Addr), Room k (A.deeper (lamEnv X r.scope s.heap.objs.size f c')) → PE (lamCx X A outer s H E r.scope f c') r.body (tb r E))
    (hst : starEach [e] (X.blk s0 H0 bsc cenv fp).env = (false, eval e (X.blk s0 H0 bsc cenv fp).env) :: starEach [] (X.blk s0 H0 bsc cenv fp).env := by rfl)
    (hdb : (x == ("__debug__" : Str)) = false := by decide) (hd : (a == ("__debug__" : Str)) = false := by decide) (hcd : (a == ("__classdict__" : Str)) = false := by decide) :
    PE (X.blk s0 H0 bsc cenv fp) (.Call (.Name x p) [e] [] pos) (fun σZ HZ Q => ta σZ HZ fun v H1 => ∃ (f c' : Addr) (pm ctv : Value) (r : EV.LamR), v = .ref f ∧ H1 f = some (.ext (EV.LamPhi X.env.cells r f c' pm ctv)) ∧ H1 c' = some (CodeO c' r.q) ∧ TTold X.K CS ret (fun E H' Q' => tb r E σ H' Q') H1 Q) := by
  refine ⟨fun pinsZ s σZ H Q I h => ?_⟩
  refine wpAny_Call_Name_kw (ld_glob I hg hm ?_ hdb)
  have ha : PA (X.blk s0 H0 bsc cenv fp) [e] (L2.tCons ta L2.tNil) := pa_cons he pa_nil hst
  refine PySem.W.callWith_K (h₀ := X.base) I.ok.mod.kin hk (thn (ha.run pos pinsZ s σZ H (fun vs H1 => match vs with
    | [v] => ∃ (f c' : Addr) (pm ctv : Value) (r : EV.LamR), v = .ref f ∧ H1 f = some (.ext (EV.LamPhi X.env.cells r f c' pm ctv)) ∧ H1 c' = some (CodeO c' r.q) ∧ TTold X.K CS ret (fun E H' Q' => tb r E σ H' Q') H1 Q
    | _ => False) I h) fun us s1 ⟨vs, H1, I1, r1, q1⟩ => ⟨I1.kIn, ?_⟩) hst (by rfl)
  have one : ∃ v, vs = [v] ∧ ∃ (f c' : Addr) (pm ctv : Value) (r : EV.LamR), v = .ref f ∧ H1 f = some (.ext (EV.LamPhi X.env.cells r f c' pm ctv)) ∧ H1 c' = some (CodeO c' r.q) ∧ TTold X.K CS ret (fun E H' Q' => tb r E σ H' Q') H1 Q := by
    match vs, q1 with
    | [v], q1 => exact ⟨v, rfl, q1⟩
  obtain ⟨v, ev, f, c', pm, ctv, ⟨lq, lp, lb, ls⟩, rfl, hlam, hco, hq⟩ := one
  subst ev
  obtain ⟨u, rfl, ru⟩ := L2.vals1 r1
  obtain rfl : u = Value.ref f := ru
  obtain ⟨pins, J⟩ := hB _ _ _ _ I1
  have lamOk := hbody ⟨lq, lp, lb, ls⟩ Q H1 _ hq
  obtain ⟨rfl, L, hbind, hbd⟩ := lamOk
  have rc : codeAny (model X.prog X.w) X.A (.call (.ref g) ⟨[.ref f], []⟩) (CR C8.CX0 X.stack X.prog X.w H1 s1 Q C8.E0) s1 := by
    refine run_ofS (N := Ng) (ps := [a]) (us := [.ref f]) (vs := [.ref f]) lk hcg Sg hr J.env0 (hb s1 [.ref f] J.kIn rfl) (.cons rfl .nil) rfl fun hr' => ?_
    obtain ⟨t', ht', hq'⟩ := told_gives (X := X) (Ng := Ng) (x := x) (a := a) (e := e0) (q := X.env.qual ++ "<lambda>") (ret := ret) (sg := sg) (g := g) (CS := CS) (cdg := cdv) (j := j0) (p1 := p1) (p2 := p2) (p3 := p3) (p4 := p4) (p5 := p5) (p6 := p6) (p7 := p7) (p8 := p8) hge hme hde h0 f c' s1 H1 Q
      (fun E H' Q' => H' f = some (.ext (EV.LamPhi X.env.cells ⟨X.env.qual ++ "<lambda>", lp, lb, ls⟩ f c' pm ctv)) ∧ tb ⟨X.env.qual ++ "<lambda>", lp, lb, ls⟩ E σ H' Q')
      (fun W pn xe E p1 p2 tk hW => pe_actE (i := 0) J L (hbind _ _ _ _ _) tk hW hr' (fun A outer s H hr2 => hbd A outer s H E f c' hr2) hNg hva hd hcd) hco ⟨hlam, hq⟩
    exact ⟨t', ht'.nox, hq'⟩
  refine wpAny_call (codeAny_mono rc fun r s2 hz => ?_)
  cases r with
  | error e => exact (show False from hz).elim
  | ok fl =>
    cases fl with
    | ret u => exact I1.after hz
    | next => exact False.elim hz
    | brk => exact False.elim hz
    | cont => exact False.elim hz
end EVr
end
section
set_option Elab.async false
set_option linter.all false
set_option maxRecDepth 100000
set_option maxHeartbeats 4000000
namespace EV
open PySem L2
section
variable {w : Wd} {X : Cx} {F F' : Hp} {ρ ρ' : List Addr} {σ : L2.St} {H H' : Hp} {st : St} {so so' : List SO} {vars : List (Option D)}

/-! ### comprehensions whose test asks lambdas -/
/-- a test that sees the names around the block, too -/
def trM (w : Wd) (σ : L2.St) (tm : List (Option D) → M Bool) : TT := fun σ' H Q => ∃ F ρ st, Rel w F ρ σ' H st ∧ ∃ mv, Rel w F ρ σ H ⟨mv, st.so⟩ ∧ Post w F ρ σ' st.vars (qB w) WN (tm mv st) Q
def eLcM (live : Bool) (fi : M ItD) (g : MT) (tm : List (Option D) → M Bool) (e : M D) (vs : List Nat) : M D := bnd fi fun it st =>
  match lcGo g (tm st.vars) e it vs st.vars st.so.length (fuelI it st.so) 0 (st.so ++ [.lst []]) with
  | some so => lcEnd live st.so.length so
  | none => .bad
theorem lc_trM {W : WX} {live : Bool} {fi : M ItD} {T : List Nat} {g : MT} {tm : List (Option D) → M Bool} {e : M D} {vs : List Nat} {Q : VK} (hT : ∀ i ∈ T, i ∈ vs) (h : trE w W (eLcM live fi g tm e vs) σ H Q) :
    tLc (trI w W fi) (trG w WN T g) (trM w σ tm) (trE w WN e) vs σ H Q := by
  obtain ⟨F, ρ, st, r, p⟩ := h
  refine ⟨F, ρ, st, r, post_bnd p fun it J F1 ρ1 H1 so1 x1 r1 q1 p1 => fun D hD => ?_⟩
  dsimp only at p1
  obtain ⟨r2, x2⟩ := r1.s.live (u := .lst []) (o := .lst []) hD ⟨[], upd_same, .nil⟩
  have hn : (ρ1 ++ [D])[so1.length]? = some D := by rw [← r1.s.len]; simp
  refine ⟨fun i m H' => ∃ F' ρ' so', Ext F1 (ρ1 ++ [D]) F' ρ' ∧ Rel w F' ρ' σ H' ⟨st.vars, so'⟩ ∧ (match lcGo g (tm st.vars) e it vs st.vars so1.length m i so' with
    | some so => ∀ F2 ρ2 H2, Ext F1 (ρ1 ++ [D]) F2 ρ2 → Rel w F2 ρ2 σ H2 ⟨st.vars, so⟩ → Q (.ref D) H2
    | none => False), ⟨fuelI it so1, F1, ρ1 ++ [D], so1 ++ [.lst []], Ext.refl _ _, r1.up x2 r2, ?_⟩, ?_⟩
  · revert p1
    cases lcGo g (tm st.vars) e it vs st.vars so1.length (fuelI it so1) 0 (so1 ++ [.lst []]) with
    | none => exact fun p => p
    | some so3 =>
      dsimp only
      intro p1 F2 ρ2 H2 x3 r3
      unfold lcEnd at p1
      cases live with
      | true => exact p1 (.ref D) F2 ρ2 H2 (x2.trans x3) r3 (.ref (pre_get x3.pre hn))
      | false =>
        rw [if_neg Bool.false_ne_true] at p1
        cases e0 : so3[so1.length]? with
        | none => rw [e0] at p1; exact p1.elim
        | some o =>
          cases o with
          | lst xs =>
            rw [e0] at p1
            dsimp only at p1
            obtain ⟨F3, r4, x4, hv⟩ := r3.s.kill (pre_get x3.pre hn) e0
            unfold gcR at p1
            dsimp only at p1
            by_cases hg : lim so1.length (.list xs) = true ∧ gcOk so1.length (so3.set so1.length .dead) = true
            · rw [if_pos hg] at p1
              have r5 := r4.cut hg.2
              have hl : ρ2.take so1.length = ρ1 := by
                rw [← r1.s.len]
                exact pre_take ((List.prefix_append ρ1 [D]).trans x3.pre)
              rw [hl] at r5
              have x5 : Ext F1 ρ1 F3 ρ1 := ⟨x3.le.trans x4.le, List.prefix_refl _⟩
              have hv2 := hv.cut hg.1
              rw [hl] at hv2
              exact p1 _ F3 ρ1 H2 x5 (r1.up x5 r5) hv2
            · rw [if_neg hg] at p1
              exact p1 _ F3 ρ2 H2 ((x2.trans x3).trans x4) (r3.up x4 r4) hv
          | dct _ => rw [e0] at p1; exact p1.elim
          | dlk _ => rw [e0] at p1; exact p1.elim
          | ins _ _ => rw [e0] at p1; exact p1.elim
          | lam _ => rw [e0] at p1; exact p1.elim
          | scr _ => rw [e0] at p1; exact p1.elim
          | dead => rw [e0] at p1; exact p1.elim
  · rintro i m H3 ⟨F3, ρ3, so3, x3, r3, p3⟩
    cases m with
    | zero => exact p3.elim
    | succ m =>
      have z := q1 i F3 ρ3 H3 so3 (x2.trans x3) r3.s
      unfold lcGo at p3
      cases e0 : nextI it so3 i with
      | none => rw [e0] at p3; exact p3.elim
      | some o =>
        cases o with
        | none =>
          rw [e0] at p3 z
          exact .inl ⟨z, p3 F3 ρ3 H3 x3 r3⟩
        | some d =>
          rw [e0] at p3 z
          dsimp only at p3 z
          refine .inr ⟨z.1, fun H' => ∃ F' ρ' so', Ext F1 (ρ1 ++ [D]) F' ρ' ∧ Rel w F' ρ' σ H' ⟨st.vars, so'⟩ ∧ (match lcGo g (tm st.vars) e it vs st.vars so1.length m (i + 1) so' with
            | some so => ∀ F2 ρ2 H2, Ext F1 (ρ1 ++ [D]) F2 ρ2 → Rel w F2 ρ2 σ H2 ⟨st.vars, so⟩ → Q (.ref D) H2
            | none => False), fun H' n => ⟨m, Nat.lt_succ_self m, n⟩, fun x H4 y => ?_⟩
          obtain ⟨F4, x4, r4, v4⟩ := z.2 x H4 y
          have r5 := (r3.up x4 r4).wipe vs
          refine ⟨F4, ρ3, _, d, r5, v4, ?_⟩
          cases e1 : g d ⟨wipeD st.vars vs, so3⟩ with
          | bad => rw [e1] at p3; exact p3.elim
          | exc k st3 => rw [e1] at p3; exact p3.elim
          | ok st3 =>
            rw [e1] at p3
            dsimp only at p3
            intro σ5 F5 ρ5 H5 x5 r6 hw
            have back : ∀ {F' : Hp} {ρ' : List Addr} {H' : Hp} {so' : List SO}, Ext F4 ρ3 F' ρ' → RelS w F' ρ' H' so' → Rel w F' ρ' σ H' ⟨st.vars, so'⟩ := fun x s => (r3.up x4 r4).up x s
            refine ⟨(hw vs hT).trans wipe_wipe, F5, ρ5, st3, r6, st.vars, back x5 r6.s, ?_⟩
            cases e2 : tm st.vars st3 with
            | bad => rw [e2] at p3; exact p3.elim
            | exc k so5 => rw [e2] at p3; exact p3.elim
            | ok b so5 =>
              rw [e2] at p3
              intro b' F6 ρ6 H6 x6 r7 q7
              cases q7
              cases b with
              | false =>
                dsimp only at p3
                rw [if_neg Bool.false_ne_true]
                exact ⟨F6, ρ6, so5, x3.trans (x4.trans (x5.trans x6)), back (x5.trans x6) r7.s, p3⟩
              | true =>
                dsimp only at p3
                rw [if_pos rfl]
                refine ⟨F6, ρ6, _, r7, ?_⟩
                cases e3 : e ⟨st3.vars, so5⟩ with
                | bad => rw [e3] at p3; exact p3.elim
                | exc k so6 => rw [e3] at p3; exact p3.elim
                | ok yd so6 =>
                  rw [e3] at p3
                  dsimp only at p3
                  intro yv F7 ρ7 H7 x7 r8 q8
                  have xx : Ext F1 (ρ1 ++ [D]) F7 ρ7 := x3.trans (x4.trans (x5.trans (x6.trans x7)))
                  cases e4 : so6[so1.length]? with
                  | none => rw [e4] at p3; exact p3.elim
                  | some o =>
                    cases o with
                    | lst acc =>
                      rw [e4] at p3
                      dsimp only at p3
                      by_cases hl : acc.length < mx
                      · rw [if_pos hl] at p3
                        obtain ⟨b, b1, b0, us, b2, b3⟩ := r8.s.obj _ _ e4
                        have b4 := pre_get xx.pre hn
                        rw [b4] at b1
                        cases b1
                        refine ⟨us, b2, by rw [← b3.length]; exact Nat.lt_of_lt_of_le hl mx_le, F7, ρ7, _, xx, ?_, p3⟩
                        exact back (x5.trans (x6.trans x7)) (write_lst r8.s b4 b0 b2 (b3.append (.cons q8 .nil)))
                      · rw [if_neg hl] at p3; exact p3.elim
                    | dct _ => rw [e4] at p3; exact p3.elim
                    | dlk _ => rw [e4] at p3; exact p3.elim
                    | ins _ _ => rw [e4] at p3; exact p3.elim
                    | lam _ => rw [e4] at p3; exact p3.elim
                    | scr _ => rw [e4] at p3; exact p3.elim
                    | dead => rw [e4] at p3; exact p3.elim
def lamOf (so : List SO) (d : D) : Option Nat := match d with
  | .dict [(.int n, .none)] => (match so[n.toNat]? with
    | some (.lam j) => some j
    | _ => none)
  | _ => none
theorem lam_of (r : RelS w F ρ H so) {d : D} {v : V} {j : Nat} (h : VR w.K F ρ d v) (e : lamOf so d = some j) : ∃ a c' pm ctv, v = .ref a ∧ F a = some (.ext (LamPhi w.clo (w.lam j) a c' pm ctv)) ∧ F c' = some (LamX.CodeO c' (w.lam j).q) := by
  cases h with
  | ref q =>
    rename_i m a
    unfold lamOf at e
    simp only [Int.toNat_natCast] at e
    cases z : so[m]? with
    | none => simp [z] at e
    | some o =>
      cases o with
      | lam i =>
        simp only [z, Option.some.injEq] at e
        subst e
        obtain ⟨b, e1, c', pm, ctv, h1, h2⟩ := r.obj m _ z
        rw [q] at e1
        cases e1
        exact ⟨_, c', pm, ctv, rfl, h1, h2⟩
      | lst _ => simp [z] at e
      | dct _ => simp [z] at e
      | dlk _ => simp [z] at e
      | ins _ _ => simp [z] at e
      | scr _ => simp [z] at e
      | dead => simp [z] at e
  | non => simp [lamOf] at e
  | bl b => simp [lamOf] at e
  | int b => simp [lamOf] at e
  | str b => simp [lamOf] at e
  | tup q k => simp [lamOf] at e
  | lst q k => simp [lamOf] at e
  | scr q k => simp [lamOf] at e
/-- try: return f() / except: return ret -/
def toldR (isE : Nat → Bool) (ret : PySem.Str) (r : R D) : R D := match r with
  | .ok d so => .ok d so
  | .exc c so => if isE c = true then .ok (.str ret) so else .bad
  | .bad => .bad
def kTold (isE : Nat → Bool) (ret : PySem.Str) (nl : Nat) (ms : Nat → M D) (mv : List (Option D)) (i : Nat) : M D := fun st => match st.vars[i]? with
  | some (some d) => match lamOf st.so d with
    | some j => if j < nl then gcR st.so.length (toldR isE ret (ms j ⟨mv, st.so⟩)) else .bad
    | none => .bad
  | _ => .bad
/-- told(f) != cls -/
def tTold (isE : Nat → Bool) (ret cls : PySem.Str) (nl : Nat) (ms : Nat → M D) (i : Nat) (mv : List (Option D)) : M Bool := eB (eOp dNe (kTold isE ret nl ms mv i) (eC (.str cls)))
/-- the lambdas of a def: what they do -/
structure LamOk (w : Wd) (X : Cx) (k : Nat) (r : LamR) (f : M D) : Prop where
  q : r.q = X.env.qual ++ "<lambda>"
  s : LamX.LamS X.env.scope r.scope
  b : ∀ (q : PySem.Str) (cl : List (PySem.Str × Addr)) (pm cv ctv : Value), bindArgs (PySem.W.kla_fn "<lambda>" q r.params r.body r.scope cl pm cv ctv) ⟨[], []⟩ = pure []
  e : ∀ (A : Around) (outer : List Env) (s : Shared) (H : Hp) (E : XK) (f0 c' : Addr), Room k (A.deeper (LamX.lamEnv X r.scope s.heap.objs.size f0 c')) → SE w (LamX.lamCx X A outer s H E r.scope f0 c') r.body f
/-- how a lambda reads, asked by told -/
def tbL (w : Wd) (nl : Nat) (ms : Nat → M D) (r : LamR) (E : XK) : TE := fun σ H Q => ∃ j F ρ mv so, w.lam j = r ∧ j < nl ∧ Rel w F ρ σ H ⟨mv, so⟩ ∧ Post w F ρ σ mv (qV w) (fun cls d _ H' => E cls d H') (ms j ⟨mv, so⟩) Q
theorem pts_told {scope : Scope} (cX : Cok w X) (hcl : X.env.cells = w.clo) {x a e0 fN : PySem.Str} {g CS : Addr} {k j0 j1 i nl : Nat} {pg : Arguments} {sg : Scope} {dV kV doc pm0 cdv ct oc : Value} {an od : Option Addr} {osl : Array (Option Value)} {Ng : List PySem.Str} {ret cls : PySem.Str} {p pos p1 p2 p3 p4 p5 p6 p7 p8 p9 p10 p11 : Pos} {isE : Nat → Bool} {ms : Nat → M D}
    (lk : X.K.lookup g = some ⟨oc, od, .func (PySem.W.fnOf x x pg [.Try [.Return (some (.Call (.Name a p1) [] [] p2)) p3] [.ExceptHandler (some (.Name e0 p4)) none [.Return (some (.Constant (.str ret) j0 p5)) p6] p7] [] [] p8] sg dV kV doc pm0 an cdv ct), osl⟩)
    (hm : X.mg x = some (.ref g)) (hk : PySem.W.keepIn X.K (.ref g) = true) (hcg : PySem.W.codeIn X.K cdv x = true)
    (hb : L2.Binds X.K (PySem.W.fnOf x x pg [.Try [.Return (some (.Call (.Name a p1) [] [] p2)) p3] [.ExceptHandler (some (.Name e0 p4)) none [.Return (some (.Constant (.str ret) j0 p5)) p6] p7] [] [] p8] sg dV kV doc pm0 an cdv ct) [a] [])
    (Sg : FnScope Ng [a] sg) (hNg : Ng[0]? = some a) (hva : Vis sg a) (hge : sg.names.lookup e0 = some .globalImplicit) (hme : X.mg e0 = some (.ref CS)) (hde : (e0 == ("__debug__" : PySem.Str)) = false) (h0 : ∀ f : Addr, (L2.start Ng [V.ref f])[0]? = some (some (V.ref f)))
    (hr : Room (k + 2) X.A) (hl : ∀ j, j < nl → LamOk w X k (w.lam j) (ms j)) (hE : ∀ c, isE c = true → PySem.W.exmOne w.K (.ref (w.cls c)) (.ref CS) = some true)
    (hY : Blk X scope fun Y => Gl Y x ∧ Y.N[i]? = some fN ∧ Vis Y.env.scope fN) (hd1 : (fN == ("__debug__" : PySem.Str)) = false) (hd2 : (fN == ("__classdict__" : PySem.Str)) = false)
    (hdb : (x == ("__debug__" : PySem.Str)) = false) (hd : (a == ("__debug__" : PySem.Str)) = false) (hcd : (a == ("__classdict__" : PySem.Str)) = false)
    (s : Shared) (H0 : Hp) (C : Addr) (cl : List (PySem.Str × Addr)) (fp : List Addr) (hB : ∀ pins' σ' H' s', L2.Inv (X.blk s H0 scope (compEnvC scope cl C X.env) fp) pins' σ' H' s' → ∃ pins, L2.Inv X pins σ H' s') :
    PTs (X.blk s H0 scope (compEnvC scope cl C X.env) fp) [.Compare (.Call (.Name x p) [.Name fN p9] [] pos) [.NotEq] [.Constant (.str cls) j1 p10] p11] (trM w σ (tTold isE ret cls nl ms i)) := by
  have y := hY s H0 C cl fp
  have cY : Cok w (X.blk s H0 scope (compEnvC scope cl C X.env) fp) := cX.blk s H0 C cl fp
  have told := EVr.pe_told (ret := ret) hB lk y.1 hm hk hcg hb Sg hNg hva hge hme hde h0 hr (pe_var (pos := p9) y.2.1 y.2.2 hd1 hd2) (tbL w nl ms) (fun r Q H1 E ⟨j, F, ρ, mv, so, e, hj, _⟩ => by
    subst e
    have l := hl j hj
    refine ⟨l.q, l.s, l.b, fun A outer s H E f0 c' hr2 => ⟨fun pins s1 σ1 H1 Q1 I1 ⟨j', F', ρ', mv', so', e', hj', r', p'⟩ => ?_⟩⟩
    have l2 := (hl j' hj')
    have tk : Takes (LamX.lamCx X A outer s H E (w.lam j).scope f0 c') (fun cls d _ H' => E cls d H') := takes_of rfl rfl rfl rfl
    have l3 := l2.e A outer s H E f0 c'
    rw [e'] at l3
    exact (l3 hr2 _ tk).run pins s1 σ1 H1 Q1 I1 ⟨F', ρ', ⟨mv', so'⟩, r', p'⟩) (pos := pos) (p := p) (hdb := hdb) (hd := hd) (hcd := hcd)
  refine pts_one (PT.imp (pt_cmpR (os_ne cY).r told pe_str rfl) fun σ' H Q ⟨F, ρ, st, r, mv, r2, h⟩ => ?_)
  have p2 : Post w F ρ σ' st.vars (qV w) WN (eOp dNe (kTold isE ret nl ms mv i) (eC (.str cls)) st) (fun x H1 => ∃ c, x = .bl c ∧ Q c H1) := post_bnd h fun a v F1 ρ1 H1 so1 x1 r1 q1 p1 => by
    cases q1 <;> first | exact p1.elim | exact ⟨_, rfl, p1 _ F1 ρ1 H1 (Ext.refl _ _) r1 rfl⟩
  have p3 : Post w F ρ σ' st.vars (qV w) WN (kTold isE ret nl ms mv i st) (fun v H1 => L2.tC (.str cls) σ' H1 fun u H2 => rO w dNe v u H2 fun x H1 => ∃ c, x = .bl c ∧ Q c H1) := post_bnd p2 fun a v F1 ρ1 H1 so1 x1 r1 q1 p1 => by
    have z := post_bnd (st := ⟨st.vars, so1⟩) (Vq := qV w) (Q' := fun u H2 => rO w dNe v u H2 fun x H1 => ∃ c, x = .bl c ∧ Q c H1) p1 fun b u F2 ρ2 H2 so2 x2 r2 q2 p2 => op_post (F1 := F2) (ρ1 := ρ2) r2 (x2.vr q1) q2 p2
    exact z (.str cls) F1 ρ1 H1 (Ext.refl _ _) r1 (.str cls)
  clear p2 h
  unfold kTold at p3
  cases e1 : st.vars[i]? with
  | none => rw [e1] at p3; exact p3.elim
  | some o =>
    cases o with
    | none => rw [e1] at p3; exact p3.elim
    | some d =>
      rw [e1] at p3
      dsimp only at p3
      obtain ⟨v, e2, hv⟩ := r.var i d e1
      cases e3 : lamOf st.so d with
      | none => rw [e3] at p3; exact p3.elim
      | some j =>
        rw [e3] at p3
        dsimp only at p3
        by_cases hj : j < nl
        · rw [if_pos hj] at p3
          obtain ⟨f0, c', pm, ctv, rfl, g1, g2⟩ := lam_of r.s hv e3
          have pc := post_gc r p3
          refine ⟨.ref f0, e2, f0, c', pm, ctv, w.lam j, rfl, by rw [hcl]; exact r.s.le _ _ g1, r.s.le _ _ g2, ?_⟩
          refine ⟨j, F, ρ, mv, st.so, rfl, hj, r2, ?_⟩
          unfold PostC at pc
          unfold Post
          cases e4 : ms j ⟨mv, st.so⟩ with
          | bad => rw [e4] at pc; exact pc
          | ok d' so' => rw [e4] at pc; exact fun v F' ρ' H' x' r' q' => pc v F' ρ' H' x' r'.s q'
          | exc c so' =>
            rw [e4] at pc
            intro F' ρ' H' x' r'
            by_cases hc : isE c = true
            · unfold toldR at pc
              simp only [hc, if_true] at pc
              exact ⟨true, by rw [cX.K]; exact hE c hc, fun _ => pc (.str ret) F' ρ' H' x' r'.s (.str ret), fun z => by cases z⟩
            · unfold toldR at pc
              simp only [hc] at pc
              exact pc.elim
        · rw [if_neg hj] at p3; exact p3.elim
theorem se_lcM {elt tg iter : Expr} {ifs : List Expr} {scope : Scope} {own : List (PySem.Str × Nat)} {vs : List Nat} {pos : Pos} {T : List Nat} {fi : M ItD} {g : MT} {tm : List (Option D) → M Bool} {e : M D} (live : Bool) (c : Cok w X) (ok : BlkOk X.N X.env.scope scope own) (hvs : own.map (·.2) = vs) (hT : ∀ i ∈ T, i ∈ vs)
    (hi : SI w X tg iter fi) (hg : Blk X scope fun Y => SG w Y tg T g)
    (ht : ∀ (σ : L2.St) (s : Shared) (H : Hp) (C : Addr) (cl : List (PySem.Str × Addr)) (fp : List Addr), (∀ pins' σ' H' s', L2.Inv (X.blk s H scope (compEnvC scope cl C X.env) fp) pins' σ' H' s' → ∃ pins, L2.Inv X pins σ H' s') → PTs (X.blk s H scope (compEnvC scope cl C X.env) fp) ifs (trM w σ tm))
    (he : Blk X scope fun Y => SE w Y elt e) (hs : ∀ x, foldedSetIterable iter X.env x = pure x := by intro _; rfl) :
    SE w X (.ListComp elt [⟨tg, iter, ifs, 0⟩] scope pos) (eLcM live fi g tm e vs) := fun W tk => by
  subst hvs
  refine ⟨fun pins s σ H Q I h => ?_⟩
  rw [eval_ListComp]
  refine EVr.lc_at c.calm c.nd I (hi W tk) ok (fun s H C cl fp => hg s H C cl fp WN takes_none) (fun s H C cl fp hb => ht σ s H C cl fp fun a b c d z => ⟨_, hb a b c d z⟩) (fun s H C cl fp => he s H C cl fp WN takes_none) hs (lc_trM hT h) fun D C s' m H' I' q hn f => ⟨m, hn, fun h'' sb => ?_⟩
  obtain ⟨f0, f1, f2, f3, f4, f5⟩ := f
  exact ⟨.ref D, H', I'.turned (t' := s'.toks) (fun b o hb e => (sb.2 b hb).trans e) f0 f1 f3 f4 f5, rfl, q⟩
end
end EV
end
section
set_option Elab.async false
set_option linter.all false
set_option maxRecDepth 100000
set_option maxHeartbeats 4000000
namespace EV
open PySem L2
/-! ### the lambdas of a def, by their places -/
def noE : Expr := .Constant .none 0 ⟨0, 0, 0, 0⟩
def subE : Expr → Nat → Expr
  | .List es _, i => es.getD i noE
  | .Tuple es _ _, i => es.getD i noE
  | .BinOp a _ b _, i => if i = 0 then a else b
  | .Call f as _ _, i => if i = 0 then f else as.getD (i - 1) noE
  | .Compare a _ cs _, i => if i = 0 then a else cs.getD (i - 1) noE
  | .BoolOp _ es _, i => es.getD i noE
  | .UnaryOp _ a _, _ => a
  | .ListComp e gs _ _, i => if i = 0 then e else (match gs with
    | ⟨_, it, _, _⟩ :: _ => it
    | [] => noE)
  | _, _ => noE
def stmE : Stmt → Expr
  | .Assign _ v _ => v
  | .Return (some e) _ => e
  | .Expr e _ => e
  | .If c _ _ _ => c
  | _ => noE
def lamR (q : PySem.Str) : Expr → LamR
  | .Lambda ps b sc _ => ⟨q ++ "<lambda>", ps, b, sc⟩
  | _ => ⟨q ++ "<lambda>", { posonlyargs := [], args := [], vararg := none, kwonlyargs := [], kw_defaults := [], kwarg := none, defaults := [] }, noE, { kind := .function, names := [], isGenerator := false, isCoroutine := false }⟩
section
variable {p : Pg} {N : List PySem.Str} {sc : Scope} {fs : PySem.Str → Bool} {k : Nat} {X : Cx}
/-- the context is that of a def that makes lambdas, its name q -/
structure MkrOk (p : Pg) (X : Cx) (q : PySem.Str) : Prop where
  clo : X.env.cells = p.w.clo
  qual : X.env.qual = q
  code : ∃ cc P, X.env.code = .ref cc ∧ LamX.TabB X.base X.mg cc P ∧ (P, q ++ "<lambda>") ∈ p.w.T ∧ ∀ t ∈ p.w.T, t.1 = P → t.2 = q ++ "<lambda>"
theorem XOk.lam (h : XOk p N sc fs k X) {q : PySem.Str} (m : MkrOk p X q) {j : Nat} {params : Arguments} {body : Expr} {scope : Scope} {pos : Pos} (hlam : p.w.lam j = ⟨q ++ "<lambda>", params, body, scope⟩) (L : LamX.lamSB sc scope = true := by decide +kernel) (hdef : defaultsOf params X.env = ([], []) := by rfl) :
    SE p.w X (.Lambda params body scope pos) (eLam j) := by
  obtain ⟨cc, P, h1, h2, h3, h4⟩ := m.code
  have hq := m.qual
  subst hq
  exact se_lam m.clo h2 h1 h3 h4 hlam (by rw [h.sc]; exact LamX.lamS_by L) hdef
theorem XOk.lamCx (h : XOk p N sc fs k X) {k' : Nat} {A : Around} {outer : List Env} {s : Shared} {H : Hp} {E : XK} {scope : Scope} {f0 c' : Addr} (hr : Room k' (A.deeper (LamX.lamEnv X scope s.heap.objs.size f0 c'))) : XOk p N scope (fun _ => false) k' (LamX.lamCx X A outer s H E scope f0 c') :=
  ⟨h.prog, h.wd, h.mg, h.base, h.N, rfl, rfl, ⟨⟨h.c.K, rfl, h.c.nd, by have := hr.un; show (A.deeper (LamX.lamEnv X scope s.heap.objs.size f0 c')).units + 200 < cLine; omega⟩, passes_of rfl⟩, hr⟩
theorem XOk.lamOk (h : XOk p N sc fs k X) {q : PySem.Str} (m : MkrOk p X q) {k' : Nat} {r : LamR} {f : M D} (hq : r.q = q ++ "<lambda>") (L : LamX.lamSB sc r.scope = true)
    (hb : ∀ (q : PySem.Str) (cl : List (PySem.Str × Addr)) (pm cv ctv : Value), bindArgs (PySem.W.kla_fn "<lambda>" q r.params r.body r.scope cl pm cv ctv) ⟨[], []⟩ = pure [])
    (he : ∀ Y, XOk p N r.scope (fun _ => false) k' Y → SE p.w Y r.body f) : LamOk p.w X k' r f :=
  ⟨by rw [m.qual]; exact hq, by rw [h.sc]; exact LamX.lamS_by L, hb, fun A outer s H E f0 c' hr => he _ (h.lamCx hr)⟩
/-- the def told: try: return a() / except e0: return ret -/
structure ToldOk (p : Pg) (x a e0 ret : PySem.Str) (g : Addr) (isE : Nat → Bool) : Prop where
  ex : ∃ (CS : Addr) (j0 : Nat) (p1 p2 p3 p4 p5 p6 p7 p8 : Pos) (pg : Arguments) (sg : Scope) (dV kV doc pm0 cdv ct oc : Value) (an od : Option Addr) (osl : Array (Option Value)) (Ng : List PySem.Str),
    p.w.K.lookup g = some ⟨oc, od, .func (PySem.W.fnOf x x pg [.Try [.Return (some (.Call (.Name a p1) [] [] p2)) p3] [.ExceptHandler (some (.Name e0 p4)) none [.Return (some (.Constant (.str ret) j0 p5)) p6] p7] [] [] p8] sg dV kV doc pm0 an cdv ct), osl⟩ ∧ PySem.W.codeIn p.w.K cdv x = true ∧
    L2.Binds p.w.K (PySem.W.fnOf x x pg [.Try [.Return (some (.Call (.Name a p1) [] [] p2)) p3] [.ExceptHandler (some (.Name e0 p4)) none [.Return (some (.Constant (.str ret) j0 p5)) p6] p7] [] [] p8] sg dV kV doc pm0 an cdv ct) [a] [] ∧
    FnScope Ng [a] sg ∧ Ng[0]? = some a ∧ Vis sg a ∧ sg.names.lookup e0 = some .globalImplicit ∧ p.mg e0 = some (.ref CS) ∧ (∀ f : Addr, (L2.start Ng [V.ref f])[0]? = some (some (V.ref f))) ∧ ∀ c, isE c = true → PySem.W.exmOne p.w.K (.ref (p.w.cls c)) (.ref CS) = some true
  mg : p.mg x = some (.ref g)
  kp : PySem.W.keepIn p.w.K (.ref g) = true
  d1 : (e0 == ("__debug__" : PySem.Str)) = false
  d2 : (x == ("__debug__" : PySem.Str)) = false
  d3 : (a == ("__debug__" : PySem.Str)) = false
  d4 : (a == ("__classdict__" : PySem.Str)) = false
theorem told_ok {x a e0 ret : PySem.Str} {g CS : Addr} {isE : Nat → Bool} {j0 : Nat} {p1 p2 p3 p4 p5 p6 p7 p8 : Pos} {pg : Arguments} {bd : List Stmt} {sg : Scope} {fd : FuncData} {Ng : List PySem.Str} (F : FunD p.w.K x x pg bd sg [] [] g fd) (S : FnScope Ng [a] sg) (hmg : p.mg x = some (.ref g)) (hme : p.mg e0 = some (.ref CS)) (hE : ∀ c, isE c = true → PySem.W.exmOne p.w.K (.ref (p.w.cls c)) (.ref CS) = some true)
    (hbd : bd = [.Try [.Return (some (.Call (.Name a p1) [] [] p2)) p3] [.ExceptHandler (some (.Name e0 p4)) none [.Return (some (.Constant (.str ret) j0 p5)) p6] p7] [] [] p8] := by rfl)
    (hb : ∀ (kV doc pm : Value) (an : Option Addr) (cdv ct : Value) (us : List Value), us.length = 1 → bindArgs (PySem.W.fnOf x x pg bd sg .none kV doc pm an cdv ct) ⟨us, []⟩ = pure ([a].zip us) := by intro _ _ _ _ _ _ us hl; exact match us, hl with | [_], _ => rfl)
    (hge : sg.names.lookup e0 = some .globalImplicit := by decide +kernel) (hv : sg.names.lookup a = some .local := by decide +kernel) (hN : Ng[0]? = some a := by rfl)
    (d1 : (e0 == ("__debug__" : PySem.Str)) = false := by decide +kernel) (d2 : (x == ("__debug__" : PySem.Str)) = false := by decide +kernel) (d3 : (a == ("__debug__" : PySem.Str)) = false := by decide +kernel) (d4 : (a == ("__classdict__" : PySem.Str)) = false := by decide +kernel) : ToldOk p x a e0 ret g isE := by
  subst hbd
  have hB := F.bindsN (ps := [a]) hb
  have hkp := F.kp
  obtain ⟨oc, od, dV, kV, doc, pm, an, cdv, ct, osl, rfl, lk, hcd, hD, _⟩ := F.ex
  exact ⟨⟨CS, j0, p1, p2, p3, p4, p5, p6, p7, p8, pg, sg, dV, kV, doc, pm, cdv, ct, oc, an, od, osl, Ng, lk, hcd, hB, S, hN, .inl hv, hge, hme, fun f => rfl, hE⟩, hmg, hkp, d1, d2, d3, d4⟩
/-- [elt for tg in iter if told(f) != cls] -/
theorem XOk.bads (h : XOk p N sc fs k X) {q : PySem.Str} (m : MkrOk p X q) {x a e0 ret cls fN : PySem.Str} {g : Addr} {isE : Nat → Bool} (T0 : ToldOk p x a e0 ret g isE) {k' nl i : Nat} {ms : Nat → M D} (hl : ∀ j, j < nl → LamOk p.w X k' (p.w.lam j) (ms j)) (hk : k' + 2 ≤ k)
    {elt tg iter : Expr} {scope : Scope} {own : List (PySem.Str × Nat)} {vs : List Nat} {pos : Pos} {T : List Nat} {fi : M ItD} {gt : MT} {e : M D} (live : Bool) {pp pos2 p9 p10 p11 : Pos} {j1 : Nat} (ok : blkC N sc scope own = true)
    (hi : SI p.w X tg iter fi) (hb : ∀ Y, XOk p N (relS scope sc) (fun x => scope.names.lookup x == some .cell) k Y → SG p.w Y tg T gt ∧ SE p.w Y elt e) (gx : glB (relS scope sc) x = true := by decide +kernel) (vf : visB N (relS scope sc) i fN = true := by decide +kernel)
    (hvs : own.map (·.2) = vs := by rfl) (hT : ∀ i ∈ T, i ∈ vs := by decide) (hs : ∀ x, foldedSetIterable iter X.env x = pure x := by intro _; rfl) :
    SE p.w X (.ListComp elt [⟨tg, iter, [.Compare (.Call (.Name x pp) [.Name fN p9] [] pos2) [.NotEq] [.Constant (.str cls) j1 p10] p11], 0⟩] scope pos) (eLcM live fi gt (tTold isE ret cls nl ms i) e vs) := by
  obtain ⟨CS, j0, p1, p2, p3, p4, p5, p6, p7, p8, pg, sg, dV, kV, doc, pm0, cdv, ct, oc, an, od, osl, Ng, lk, hcg, hB, Sg, hNg, hva, hge, hme, h0, hE⟩ := T0.ex
  have vf' := vf
  unfold visB at vf'
  simp only [Bool.and_eq_true, decide_eq_true_eq, Bool.not_eq_true'] at vf'
  have hkp := T0.kp
  rw [← h.c.K] at lk hB hkp hcg
  refine se_lcM live h.c (by rw [h.N, h.sc]; exact blkOk_by ok) hvs hT hi (fun s H C cl fp => (hb _ (h.blk s H C cl fp)).1) (fun σ s H C cl fp hBk => ?_) (fun s H C cl fp => (hb _ (h.blk s H C cl fp)).2) hs
  refine pts_told (σ := σ) h.c m.clo lk (by rw [h.mg]; exact T0.mg) hkp hcg hB Sg hNg hva hge (by rw [h.mg]; exact hme) T0.d1 h0 (h.room.mono hk) hl hE (fun s H C cl fp => ?_) vf'.1.2 vf'.2 T0.d2 T0.d3 T0.d4 s H C cl fp hBk
  have y := h.blk (scope := scope) s H C cl fp
  refine ⟨(glB_ok y gx).1, by rw [y.N]; exact vf'.1.1.1, ?_⟩
  have q2 := vf'.1.1.2
  unfold Vis
  rw [y.sc]
  split at q2 <;> first | (cases q2) | skip
  · exact .inl (by assumption)
  · exact .inr (.inl (by assumption))
  · exact .inr (.inr (by assumption))
end
end EV
end
section
set_option Elab.async false
set_option linter.all false
set_option maxRecDepth 100000
set_option maxHeartbeats 4000000
namespace EV
open PySem L2
def isRT : RS → Bool
  | .ok (.ret (.bool true)) _ => true
  | _ => false
/-- the part of a law that looks at nothing drawn: it comes to True -/
def spPlain (w : Wd) : Sp := fun vs H Q _ => vs = [] ∧ LamX.Tabs w.T H ∧ ∀ H', Q (.bl true) H'
/-- the cells of the maker -/
abbrev Pg.at (p : Pg) (cl : List (PySem.Str × Addr)) : Pg := { p with w := { p.w with clo := cl } }
theorem plain_fn {p : Pg} {k : Nat} {x qual : PySem.Str} {params : Arguments} {body : List Stmt} {scope : Scope} {f cc P : Addr} {fd : FuncData} {N : List PySem.Str} {fb : MS} (F : FunD p.w.K x qual params body scope [] [] f fd) (S : FnScope N [] scope)
    (hcode : fd.code = .ref cc) (TB : LamX.TabB p.base p.mg cc P) (hm : (P, qual ++ ".<locals>." ++ "<lambda>") ∈ p.w.T) (hu : ∀ t ∈ p.w.T, t.1 = P → t.2 = qual ++ ".<locals>." ++ "<lambda>")
    (h : ∀ cl X, XOk (p.at cl) N scope (fun _ => true) k X → MkrOk (p.at cl) X (qual ++ ".<locals>.") → SSs (p.at cl).w X body fb) (hT : isRT (fb ⟨startD N [], []⟩) = true) :
    FnOk p.P p.W p.w.K p.mg p.base (L2.CX p.P p.W) (k + 1) f fd [] (spPlain p.w) := by
  obtain ⟨oc, od, dV, kV, doc, pm, an, cdv, ct, osl, rfl, lk, hcd, _, _⟩ := F.ex
  have hcd2 : cdv = .ref cc := hcode
  refine fn_of lk hcd S (fun vs H Q E z => by rw [z.1] <;> rfl) fun A outer s H vs Q E hr z => ?_
  obtain ⟨rfl, ht, hq⟩ := z
  generalize hX : cxOf (L2.CX p.P p.W) p.P p.W p.w.K p.mg p.base N qual scope f cdv A outer s H E = X
  have hx : XOk (p.at X.env.cells) N scope (fun _ => true) k X := by
    subst hX
    exact ⟨rfl, rfl, rfl, rfl, rfl, rfl, rfl, ⟨⟨rfl, rfl, S.nd, by have := hr.un; show (A.deeper (PyProof.Rows.envOfC qual scope s.heap.objs.size f cdv)).units + 200 < cLine; omega⟩, passes_of rfl⟩, hr⟩
  have mk : MkrOk (p.at X.env.cells) X (qual ++ ".<locals>.") := by
    refine ⟨rfl, by subst hX; rfl, cc, P, by subst hX; exact hcd2, by subst hX; exact TB, hm, hu⟩
  have tk : Takes X (fun cls d _ H => E cls d H) := by
    subst hX
    exact takes_of rfl rfl rfl rfl
  refine ⟨_, h X.env.cells X hx mk _ tk, fun _ => none, [], ⟨startD N [], []⟩, rel_start (w := (p.at X.env.cells).w) (F := fun _ => none) (ρ := []) (so := []) (N := N) (ds := []) (vs := []) ⟨(fun _ _ e => by cases e), rfl, List.nodup_nil, (fun n o e => by simp at e), ht, (fun _ _ e => by cases e)⟩ .nil, ?_⟩
  unfold isRT at hT
  split at hT
  · rename_i st e
    rw [e]
    intro v σ F' ρ' H' x' r' q'
    cases q'
    exact hq H'
  · cases hT
/-- a law: a loop over the cells of the script, then the plain part -/
def spLaw (w : Wd) (most : Nat) : Sp := fun vs H Q _ => ∃ (a : Addr) (ns : List Int), vs = [.ref a] ∧ ns.length ≤ most ∧ (∀ z ∈ ns, Builtin.Int.intBits z ≤ 1048576) ∧ SqL w.K H a (ns.map V.int) ∧ LamX.Tabs w.T H ∧ ∀ H', Q (.bl true) H'
theorem ints_vrs {K : PySem.W.Frag} {F : Hp} {ρ : List Addr} : ∀ ns : List Int, VRs K F ρ (ns.map .int) (ns.map V.int)
  | [] => .nil
  | n :: ns => .cons (.int n) (ints_vrs ns)
theorem law_fn {p : Pg} {k kp most : Nat} {x qual : PySem.Str} {params : Arguments} {body : List Stmt} {scope : Scope} {f fp : Addr} {fd fdp : FuncData} {N : List PySem.Str} {fb : MS} {sf : Stmt} {xp : PySem.Str} {p1 p2 p3 : Pos} (F : FunD p.w.K x qual params body scope [] [] f fd) (S : FnScope N ["script"] scope)
    (hbody : body = [sf, .Return (some (.Call (.Name xp p1) [] [] p2)) p3]) (G : FnOk p.P p.W p.w.K p.mg p.base (L2.CX p.P p.W) kp fp fdp [] (spPlain p.w)) (hkp : PySem.W.keepIn p.w.K (.ref fp) = true) (hB : L2.Binds p.w.K fdp [] []) (hmg : p.mg xp = some (.ref fp)) (hk : kp ≤ k) (hgl : glB scope xp = true)
    (h : ∀ X, XOk p N scope (fun _ => true) k X → SS p.w X sf fb) (hm : ∀ ns : List Int, ns.length ≤ most → (∀ z ∈ ns, Builtin.Int.intBits z ≤ 1048576) → ∃ st, fb ⟨startD N [scD (ns.map .int)], []⟩ = .ok .nx st) :
    FnOk p.P p.W p.w.K p.mg p.base (L2.CX p.P p.W) (k + 1) f fd ["script"] (spLaw p.w most) := by
  subst hbody
  refine F.ok S (fun vs H Q E z => by obtain ⟨a, ns, rfl, _⟩ := z; rfl) fun cdv A outer s H vs Q E hr z => ?_
  obtain ⟨a, ns, rfl, hl, hz, hs, ht, hq⟩ := z
  generalize hX : cxOf (L2.CX p.P p.W) p.P p.W p.w.K p.mg p.base N qual scope f cdv A outer s H E = X
  have hx : XOk p N scope (fun _ => true) k X := by
    subst hX
    exact ⟨rfl, rfl, rfl, rfl, rfl, rfl, rfl, ⟨⟨rfl, rfl, S.nd, by have := hr.un; show (A.deeper (PyProof.Rows.envOfC qual scope s.heap.objs.size f cdv)).units + 200 < cLine; omega⟩, passes_of rfl⟩, hr⟩
  have tk : Takes X (fun cls d _ H => E cls d H) := by
    subst hX
    exact takes_of rfl rfl rfl rfl
  have G2 : FnOk X.prog X.w X.K X.mg X.base (L2.CX p.P p.W) kp fp fdp [] (spPlain p.w) := by subst hX; exact G
  have hpass : ∀ σ, PassesAt (L2.CX p.P p.W) X σ (fun cls d H' => E cls d H') := fun σ => by
    have := passAt (X := X) tk σ
    rw [hx.prog, hx.wd] at this
    exact this
  have gl := glB_ok hx hgl
  refine ⟨_, pss_cons (h X hx _ tk) (pss_one (ps_ret (pe_callS0 (E := fun _ cls d H' => E cls d H') G2 (hx.room.mono hk) gl.1 (by rw [hx.mg]; exact hmg) (by rw [hx.c.K]; exact hkp) (by rw [hx.c.K]; exact hB) hpass gl.2.1))), ?_⟩
  obtain ⟨st', hst⟩ := hm ns hl hz
  -- what stands at the script's address stays
  have hF : ∃ F0 : Hp, Sub F0 H ∧ SqL p.w.K F0 a (ns.map V.int) ∧ ∀ b ps, F0 b ≠ some (.tbl ps) := by
    rcases hs with hs | hs
    · have fa : (fun b => if b = a then H a else none : Hp) a = H a := if_pos rfl
      have fb : ∀ b, b ≠ a → (fun b => if b = a then H a else none : Hp) b = none := fun b hb => if_neg hb
      generalize (fun b => if b = a then H a else none : Hp) = F1 at fa fb
      refine ⟨F1, fun b o e => ?_, .inl (hs.imp (fun e => by rw [fa]; exact e) fun ⟨o, e⟩ => ⟨o, by rw [fa]; exact e⟩), fun b ps e => ?_⟩
      · by_cases hb : b = a
        · rw [hb] at e ⊢
          rw [fa] at e
          exact e
        · rw [fb b hb] at e; cases e
      · by_cases hb : b = a
        · rw [hb, fa] at e
          rcases hs with e2 | ⟨o, e2⟩ <;> rw [e2] at e <;> cases e
        · rw [fb b hb] at e; cases e
    · exact ⟨fun _ => none, (fun _ _ e => by cases e), .inr hs, (fun _ _ e => by cases e)⟩
  obtain ⟨F0, f1, f2, f3⟩ := hF
  refine ⟨F0, [], ⟨startD N [scD (ns.map .int)], []⟩, rel_start (w := p.w) (F := F0) (ρ := []) (so := []) (N := N) ⟨f1, rfl, List.nodup_nil, (fun n o e => by simp at e), ht, f3⟩ (.cons (.scr f2 (ints_vrs ns)) .nil), ?_⟩
  rw [hst]
  intro σ F' ρ' H' x' r'
  exact ⟨rfl, r'.s.tabs, fun H2 => hq H2⟩
end EV
end
section
set_option Elab.async false
set_option linter.all false
set_option maxRecDepth 100000
set_option maxHeartbeats 4000000
namespace K21
open PySem L2 EV
def top (i : Nat) : Stmt := PySem.Challenge.pw_searchstack_k21_answers_that_are_kept.main.body.getD i (.Pass ⟨0, 0, 0, 0⟩)
def clsB (s : Stmt) : List Stmt := match s with
  | .ClassDef _ _ _ b _ _ _ _ _ _ _ => b
  | _ => []
def meth (i j : Nat) : Stmt := (clsB (top i)).getD j (.Pass ⟨0, 0, 0, 0⟩)
/-- the addresses of the defs -/
structure Ad where
  AnswerKeep_init : Addr
  AnswerKeep_get : Addr
  AnswerKeep_put : Addr
  AnswerKeep_sweep : Addr
  AnswerKeep_hit_share : Addr
  AnswerKeep_keep_lines : Addr
  TwoKeep_init : Addr
  TwoKeep_get : Addr
  TwoKeep_put : Addr
  TwoKeep_kept_keys : Addr
  next_place : Addr
  best_kept : Addr
  lasting_kept : Addr
  plain_key : Addr
  law_dice : Addr
  law_roll : Addr
  law_rounds : Addr
  law_best : Addr
  law_get : Addr
  law_told : Addr
  law_plain : Addr
  law : Addr
abbrev s_AnswerKeep_init : Stmt := meth 4 0
abbrev N_AnswerKeep_init : List PySem.Str := ["self", "many"]
theorem S_AnswerKeep_init : FnScope N_AnswerKeep_init ["self", "many"] (defScope s_AnswerKeep_init) := ⟨rfl, rfl, rfl, by decide +kernel, rfl, by decide +kernel, by decide +kernel⟩
abbrev s_AnswerKeep_get : Stmt := meth 4 1
abbrev N_AnswerKeep_get : List PySem.Str := ["self", "key", "state", "row"]
theorem S_AnswerKeep_get : FnScope N_AnswerKeep_get ["self", "key", "state"] (defScope s_AnswerKeep_get) := ⟨rfl, rfl, rfl, by decide +kernel, rfl, by decide +kernel, by decide +kernel⟩
abbrev s_AnswerKeep_put : Stmt := meth 4 2
abbrev N_AnswerKeep_put : List PySem.Str := ["self", "key", "state", "answer", "cost", "found"]
theorem S_AnswerKeep_put : FnScope N_AnswerKeep_put ["self", "key", "state", "answer", "cost"] (defScope s_AnswerKeep_put) := ⟨rfl, rfl, rfl, by decide +kernel, rfl, by decide +kernel, by decide +kernel⟩
abbrev s_AnswerKeep_sweep : Stmt := meth 4 3
abbrev N_AnswerKeep_sweep : List PySem.Str := ["self", "state", "kept", "many", "key", "row"]
theorem S_AnswerKeep_sweep : FnScope N_AnswerKeep_sweep ["self", "state"] (defScope s_AnswerKeep_sweep) := ⟨rfl, rfl, rfl, by decide +kernel, rfl, by decide +kernel, by decide +kernel⟩
abbrev s_AnswerKeep_hit_share : Stmt := meth 4 4
abbrev N_AnswerKeep_hit_share : List PySem.Str := ["self", "asked"]
theorem S_AnswerKeep_hit_share : FnScope N_AnswerKeep_hit_share ["self"] (defScope s_AnswerKeep_hit_share) := ⟨rfl, rfl, rfl, by decide +kernel, rfl, by decide +kernel, by decide +kernel⟩
abbrev s_AnswerKeep_keep_lines : Stmt := meth 4 5
abbrev N_AnswerKeep_keep_lines : List PySem.Str := ["self", "key", "state", "answer", "cost"]
theorem S_AnswerKeep_keep_lines : FnScope N_AnswerKeep_keep_lines ["self"] (defScope s_AnswerKeep_keep_lines) := ⟨rfl, rfl, rfl, by decide +kernel, rfl, by decide +kernel, by decide +kernel⟩
abbrev s_TwoKeep_init : Stmt := meth 5 0
abbrev N_TwoKeep_init : List PySem.Str := ["self", "many", "again"]
theorem S_TwoKeep_init : FnScope N_TwoKeep_init ["self", "many", "again"] (defScope s_TwoKeep_init) := ⟨rfl, rfl, rfl, by decide +kernel, rfl, by decide +kernel, by decide +kernel⟩
abbrev s_TwoKeep_get : Stmt := meth 5 1
abbrev N_TwoKeep_get : List PySem.Str := ["self", "key", "state", "found", "row", "before", "gone"]
theorem S_TwoKeep_get : FnScope N_TwoKeep_get ["self", "key", "state"] (defScope s_TwoKeep_get) := ⟨rfl, rfl, rfl, by decide +kernel, rfl, by decide +kernel, by decide +kernel⟩
abbrev s_TwoKeep_put : Stmt := meth 5 2
abbrev N_TwoKeep_put : List PySem.Str := ["self", "key", "state", "answer", "cost"]
theorem S_TwoKeep_put : FnScope N_TwoKeep_put ["self", "key", "state", "answer", "cost"] (defScope s_TwoKeep_put) := ⟨rfl, rfl, rfl, by decide +kernel, rfl, by decide +kernel, by decide +kernel⟩
abbrev s_TwoKeep_kept_keys : Stmt := meth 5 3
abbrev N_TwoKeep_kept_keys : List PySem.Str := ["self"]
theorem S_TwoKeep_kept_keys : FnScope N_TwoKeep_kept_keys ["self"] (defScope s_TwoKeep_kept_keys) := ⟨rfl, rfl, rfl, by decide +kernel, rfl, by decide +kernel, by decide +kernel⟩
abbrev s_next_place : Stmt := top 7
abbrev N_next_place : List PySem.Str := ["asks", "first", "ask", "place"]
theorem S_next_place : FnScope N_next_place ["asks", "first", "ask"] (defScope s_next_place) := ⟨rfl, rfl, rfl, by decide +kernel, rfl, by decide +kernel, by decide +kernel⟩
abbrev s_best_kept : Stmt := top 6
abbrev N_best_kept : List PySem.Str := ["asks", "many", "kept", "found", "place", "ask", "rows", "spot", "one"]
theorem S_best_kept : FnScope N_best_kept ["asks", "many"] (defScope s_best_kept) := ⟨rfl, rfl, rfl, by decide +kernel, rfl, by decide +kernel, by decide +kernel⟩
abbrev s_lasting_kept : Stmt := top 8
abbrev N_lasting_kept : List PySem.Str := ["asks", "many", "keep", "ask"]
theorem S_lasting_kept : FnScope N_lasting_kept ["asks", "many"] (defScope s_lasting_kept) := ⟨rfl, rfl, rfl, by decide +kernel, rfl, by decide +kernel, by decide +kernel⟩
abbrev s_plain_key : Stmt := top 9
abbrev N_plain_key : List PySem.Str := ["words", "more", "word"]
theorem S_plain_key : FnScope N_plain_key ["words", "more"] (defScope s_plain_key) := ⟨rfl, rfl, rfl, by decide +kernel, rfl, by decide +kernel, by decide +kernel⟩
abbrev s_law_dice : Stmt := top 11
abbrev N_law_dice : List PySem.Str := ["cell"]
theorem S_law_dice : FnScope N_law_dice ["cell"] (defScope s_law_dice) := ⟨rfl, rfl, rfl, by decide +kernel, rfl, by decide +kernel, by decide +kernel⟩
abbrev s_law_roll : Stmt := top 12
abbrev N_law_roll : List PySem.Str := ["dice", "many", "found"]
theorem S_law_roll : FnScope N_law_roll ["dice", "many"] (defScope s_law_roll) := ⟨rfl, rfl, rfl, by decide +kernel, rfl, by decide +kernel, by decide +kernel⟩
abbrev s_law_rounds : Stmt := top 13
abbrev N_law_rounds : List PySem.Str := ["script", "most", "cells", "cell"]
theorem S_law_rounds : FnScope N_law_rounds ["script", "most"] (defScope s_law_rounds) := ⟨rfl, rfl, rfl, by decide +kernel, rfl, by decide +kernel, by decide +kernel⟩
abbrev s_law_best : Stmt := top 15
abbrev N_law_best : List PySem.Str := ["asks", "many", "kept", "place", "k"]
theorem S_law_best : FnScope N_law_best ["asks", "many", "kept", "place"] (defScope s_law_best) := ⟨rfl, rfl, rfl, by decide +kernel, rfl, by decide +kernel, by decide +kernel⟩
abbrev s_law_get : Stmt := top 16
abbrev N_law_get : List PySem.Str := ["own", "key", "state", "found", "good", "row"]
theorem S_law_get : FnScope N_law_get ["own", "key", "state"] (defScope s_law_get) := ⟨rfl, rfl, rfl, by decide +kernel, rfl, by decide +kernel, by decide +kernel⟩
abbrev s_law_told : Stmt := top 14
abbrev N_law_told : List PySem.Str := ["what"]
theorem S_law_told : FnScope N_law_told ["what"] (defScope s_law_told) := ⟨rfl, rfl, rfl, by decide +kernel, rfl, by decide +kernel, by decide +kernel⟩
abbrev s_law_plain : Stmt := top 17
abbrev N_law_plain : List PySem.Str := ["keep", "two", "told", "bad", "due", "k", "f"]
theorem S_law_plain : FnScope N_law_plain [] (defScope s_law_plain) := ⟨rfl, rfl, rfl, by decide +kernel, rfl, by decide +kernel, by decide +kernel⟩
abbrev s_law : Stmt := top 18
abbrev N_law : List PySem.Str := ["script", "dice", "many", "keep", "own", "step", "key", "state", "sort", "cost", "rows", "kept", "asks", "size", "spots", "two", "again", "once", "due", "gone", "told", "row", "name", "k", "j", "one", "spot"]
theorem S_law : FnScope N_law ["script"] (defScope s_law) := ⟨rfl, rfl, rfl, by decide +kernel, rfl, by decide +kernel, by decide +kernel⟩
/-- the errors that told tells -/
def isE (c : Nat) : Bool := c == 2
/-- what is asked of the program -/
structure Fx (p : Pg) (a : Ad) : Prop where
  fld_saved : FldOk p.w 2 "saved"
  fld_lacked : FldOk p.w 2 "lacked"
  fld_had : FldOk p.w 2 "had"
  fld_rows : FldOk p.w 2 "rows"
  fld_many : FldOk p.w 2 "many"
  e_KeepError : ErrOk p 2 "KeepError"
  f_AnswerKeep_init : ∃ fd, FunD p.w.K "__init__" "AnswerKeep.__init__" (defArgs s_AnswerKeep_init) (defBody s_AnswerKeep_init) (defScope s_AnswerKeep_init) [] [] a.AnswerKeep_init fd
  f_AnswerKeep_get : ∃ fd, FunD p.w.K "get" "AnswerKeep.get" (defArgs s_AnswerKeep_get) (defBody s_AnswerKeep_get) (defScope s_AnswerKeep_get) [] [] a.AnswerKeep_get fd
  b_tuple : p.mg "tuple" = none
  b_len : p.mg "len" = none
  b_list : p.mg "list" = none
  f_AnswerKeep_put : ∃ fd, FunD p.w.K "put" "AnswerKeep.put" (defArgs s_AnswerKeep_put) (defBody s_AnswerKeep_put) (defScope s_AnswerKeep_put) [] [] a.AnswerKeep_put fd
  f_AnswerKeep_sweep : ∃ fd, FunD p.w.K "sweep" "AnswerKeep.sweep" (defArgs s_AnswerKeep_sweep) (defBody s_AnswerKeep_sweep) (defScope s_AnswerKeep_sweep) [] [] a.AnswerKeep_sweep fd
  f_AnswerKeep_hit_share : ∃ fd, FunD p.w.K "hit_share" "AnswerKeep.hit_share" (defArgs s_AnswerKeep_hit_share) (defBody s_AnswerKeep_hit_share) (defScope s_AnswerKeep_hit_share) [] [] a.AnswerKeep_hit_share fd
  f_AnswerKeep_keep_lines : ∃ fd, FunD p.w.K "keep_lines" "AnswerKeep.keep_lines" (defArgs s_AnswerKeep_keep_lines) (defBody s_AnswerKeep_keep_lines) (defScope s_AnswerKeep_keep_lines) [] [] a.AnswerKeep_keep_lines fd
  gc_AnswerKeep : p.mg "AnswerKeep" = some (.ref (p.w.cls 0))
  mk_AnswerKeep : MkOk p.w 0 a.AnswerKeep_init
  fld_again : FldOk p.w 2 "again"
  fld_once : FldOk p.w 2 "once"
  f_TwoKeep_init : ∃ fd, FunD p.w.K "__init__" "TwoKeep.__init__" (defArgs s_TwoKeep_init) (defBody s_TwoKeep_init) (defScope s_TwoKeep_init) [] [] a.TwoKeep_init fd
  m_AnswerKeep_put : MethOk p.w 0 "put" a.AnswerKeep_put
  b_dict : p.mg "dict" = none
  m_AnswerKeep_get : MethOk p.w 0 "get" a.AnswerKeep_get
  f_TwoKeep_get : ∃ fd, FunD p.w.K "get" "TwoKeep.get" (defArgs s_TwoKeep_get) (defBody s_TwoKeep_get) (defScope s_TwoKeep_get) [] [] a.TwoKeep_get fd
  f_TwoKeep_put : ∃ fd, FunD p.w.K "put" "TwoKeep.put" (defArgs s_TwoKeep_put) (defBody s_TwoKeep_put) (defScope s_TwoKeep_put) [] [] a.TwoKeep_put fd
  f_TwoKeep_kept_keys : ∃ fd, FunD p.w.K "kept_keys" "TwoKeep.kept_keys" (defArgs s_TwoKeep_kept_keys) (defBody s_TwoKeep_kept_keys) (defScope s_TwoKeep_kept_keys) [] [] a.TwoKeep_kept_keys fd
  b_range : p.mg "range" = none
  f_next_place : ∃ fd, FunD p.w.K "next_place" "next_place" (defArgs s_next_place) (defBody s_next_place) (defScope s_next_place) [] [] a.next_place fd
  b_enumerate : p.mg "enumerate" = none
  b_min : p.mg "min" = none
  glo_next_place : p.mg "next_place" = some (.ref a.next_place)
  f_best_kept : ∃ fd, FunD p.w.K "best_kept" "best_kept" (defArgs s_best_kept) (defBody s_best_kept) (defScope s_best_kept) [] [] a.best_kept fd
  f_lasting_kept : ∃ fd, FunD p.w.K "lasting_kept" "lasting_kept" (defArgs s_lasting_kept) (defBody s_lasting_kept) (defScope s_lasting_kept) [] [] a.lasting_kept fd
  b_sorted : p.mg "sorted" = none
  f_plain_key : ∃ fd, FunD p.w.K "plain_key" "plain_key" (defArgs s_plain_key) (defBody s_plain_key) (defScope s_plain_key) [] [] a.plain_key fd
  b_int : p.mg "int" = none
  b_abs : p.mg "abs" = none
  f_law_dice : ∃ fd, FunD p.w.K "_law_dice" "_law_dice" (defArgs s_law_dice) (defBody s_law_dice) (defScope s_law_dice) [] [] a.law_dice fd
  glo_law_roll : p.mg "_law_roll" = some (.ref a.law_roll)
  f_law_roll : ∃ fd, FunD p.w.K "_law_roll" "_law_roll" (defArgs s_law_roll) (defBody s_law_roll) (defScope s_law_roll) [] [] a.law_roll fd
  glo_law_dice : p.mg "_law_dice" = some (.ref a.law_dice)
  f_law_rounds : ∃ fd, FunD p.w.K "_law_rounds" "_law_rounds" (defArgs s_law_rounds) (defBody s_law_rounds) (defScope s_law_rounds) [] [] a.law_rounds fd
  b_max : p.mg "max" = none
  glo_law_best : p.mg "_law_best" = some (.ref a.law_best)
  f_law_best : ∃ fd, FunD p.w.K "_law_best" "_law_best" (defArgs s_law_best) (defBody s_law_best) (defScope s_law_best) [] [] a.law_best fd
  f_law_get : ∃ fd, FunD p.w.K "_law_get" "_law_get" (defArgs s_law_get) (defBody s_law_get) (defScope s_law_get) [] [] a.law_get fd
  glo_law_told : p.mg "_law_told" = some (.ref a.law_told)
  f_law_told : ∃ fd, FunD p.w.K "_law_told" "_law_told" (defArgs s_law_told) (defBody s_law_told) (defScope s_law_told) [] [] a.law_told fd
  x_told : ∀ c, isE c = true → PySem.W.exmOne p.w.K (.ref (p.w.cls c)) (.ref (p.w.cls 2)) = some true
  glo_plain_key : p.mg "plain_key" = some (.ref a.plain_key)
  glo_lasting_kept : p.mg "lasting_kept" = some (.ref a.lasting_kept)
  glo_best_kept : p.mg "best_kept" = some (.ref a.best_kept)
  m_TwoKeep_kept_keys : MethOk p.w 1 "kept_keys" a.TwoKeep_kept_keys
  m_TwoKeep_get : MethOk p.w 1 "get" a.TwoKeep_get
  m_TwoKeep_put : MethOk p.w 1 "put" a.TwoKeep_put
  m_AnswerKeep_hit_share : MethOk p.w 0 "hit_share" a.AnswerKeep_hit_share
  m_AnswerKeep_keep_lines : MethOk p.w 0 "keep_lines" a.AnswerKeep_keep_lines
  m_AnswerKeep_sweep : MethOk p.w 0 "sweep" a.AnswerKeep_sweep
  gc_TwoKeep : p.mg "TwoKeep" = some (.ref (p.w.cls 1))
  mk_TwoKeep : MkOk p.w 1 a.TwoKeep_init
  f_law_plain : ∃ fd, FunD p.w.K "_law_plain" "_law_plain" (defArgs s_law_plain) (defBody s_law_plain) (defScope s_law_plain) [] [] a.law_plain fd
  glo_law_rounds : p.mg "_law_rounds" = some (.ref a.law_rounds)
  b_str : p.mg "str" = none
  glo_law_get : p.mg "_law_get" = some (.ref a.law_get)
  f_law : ∃ fd, FunD p.w.K "law" "law" (defArgs s_law) (defBody s_law) (defScope s_law) [] [] a.law fd
def m_AnswerKeep_init : MS := sSeq (sIf (eB (eOp dLt (eVar 1) (eC (.int 1)))) (sRaise 2) (sNext)) (sSeq (sFldD 2 "many" (eVar 1) (eVar 0)) (sSeq (sFldD 2 "rows" (eDNew) (eVar 0)) (sSeq (sFldD 2 "had" (eC (.int 0)) (eVar 0)) (sSeq (sFldD 2 "lacked" (eC (.int 0)) (eVar 0)) (sFldD 2 "saved" (eC (.int 0)) (eVar 0))))))
def g_AnswerKeep_init : Fn := fnM N_AnswerKeep_init m_AnswerKeep_init
theorem d_AnswerKeep_init {p : Pg} {a : Ad} (E : Fx p a) {X : Cx} (h : XOk p N_AnswerKeep_init (defScope s_AnswerKeep_init) (fun _ => true) 0 X) : SSs p.w X (defBody s_AnswerKeep_init) m_AnswerKeep_init :=
  ss_cons (ss_if (sb_cmp (os_lt h.c) (h.var) (se_int)) (ss_one (h.raise E.e_KeepError)) (ss_nil)) (ss_cons (ss_fld h.c E.fld_many (h.var) (h.var)) (ss_cons (ss_fld h.c E.fld_rows (h.var) (se_dnew)) (ss_cons (ss_fld h.c E.fld_had (h.var) (se_int)) (ss_cons (ss_fld h.c E.fld_lacked (h.var) (se_int)) (ss_one (ss_fld h.c E.fld_saved (h.var) (se_int)))))))
theorem t_AnswerKeep_init {p : Pg} {a : Ad} (E : Fx p a) : DOk p 1 2 a.AnswerKeep_init g_AnswerKeep_init := by
  obtain ⟨_, F⟩ := E.f_AnswerKeep_init
  exact def_ok F S_AnswerKeep_init rfl (fun _ _ _ _ _ _ us hl => match us, hl with | [_, _], _ => rfl) fun _ h => d_AnswerKeep_init E h
def m_AnswerKeep_get : MS := sSeq (sIf (mAnd (eB (eOp dIn (eVar 1) (eFld 2 "rows" (eVar 0)))) (eB (eOp dEq (eOp dIx (eOp dIx (eFld 2 "rows" (eVar 0)) (eVar 1)) (eC (.int 0))) (eVar 2)))) (sSeq (sAsg (ePop1 (eFld 2 "rows" (eVar 0)) (eVar 1)) (tName 3)) (sSeq (sAsg (eVar 3) (tSub (eFld 2 "rows" (eVar 0)) (eVar 1))) (sSeq (sFldA 2 "had" dAddI (eVar 0) (eC (.int 1))) (sSeq (sFldA 2 "saved" dAddI (eVar 0) (eOp dIx (eVar 3) (eC (.int 2)))) (sRet (eOp dIx (eVar 3) (eC (.int 1)))))))) (sNext)) (sSeq (sExpr (ePop2 (eFld 2 "rows" (eVar 0)) (eVar 1) (eC .none))) (sSeq (sFldA 2 "lacked" dAddI (eVar 0) (eC (.int 1))) (sRet (eC .none))))
def g_AnswerKeep_get : Fn := fnM N_AnswerKeep_get m_AnswerKeep_get
theorem d_AnswerKeep_get {p : Pg} {a : Ad} (E : Fx p a) {X : Cx} (h : XOk p N_AnswerKeep_get (defScope s_AnswerKeep_get) (fun _ => true) 0 X) : SSs p.w X (defBody s_AnswerKeep_get) m_AnswerKeep_get :=
  ss_cons (ss_if (SW.b (sw_and (sb_cmp (os_in h.c) (h.var) (se_fld h.c E.fld_rows (h.var))) (sw_and1 (sb_cmp (os_eq h.c) (se_ix h.c (se_ix h.c (se_fld h.c E.fld_rows (h.var)) (h.var)) (se_int)) (h.var))))) (ss_cons (ss_asg (se_pop1 (se_fld h.c E.fld_rows (h.var)) (h.var) ⟨rfl, rfl, rfl, rfl⟩) (h.tgt)) (ss_cons (ss_asg (h.var) (sg_sub h.c (se_fld h.c E.fld_rows (h.var)) (h.var))) (ss_cons (ss_fldaug h.c E.fld_had (h.var) (se_int) is_add) (ss_cons (ss_fldaug h.c E.fld_saved (h.var) (se_ix h.c (h.var) (se_int)) is_add) (ss_one (ss_ret (se_ix h.c (h.var) (se_int)))))))) (ss_nil)) (ss_cons (ss_expr (se_pop2 (se_fld h.c E.fld_rows (h.var)) (h.var) (se_non) ⟨rfl, rfl, rfl, rfl⟩)) (ss_cons (ss_fldaug h.c E.fld_lacked (h.var) (se_int) is_add) (ss_one (ss_ret (se_non)))))
theorem t_AnswerKeep_get {p : Pg} {a : Ad} (E : Fx p a) : DOk p 1 3 a.AnswerKeep_get g_AnswerKeep_get := by
  obtain ⟨_, F⟩ := E.f_AnswerKeep_get
  exact def_ok F S_AnswerKeep_get rfl (fun _ _ _ _ _ _ us hl => match us, hl with | [_, _, _], _ => rfl) fun _ h => d_AnswerKeep_get E h
def m_AnswerKeep_put : MS := sSeq (sIf (mOr (eB (eOp dLt (eVar 4) (eC (.int 0)))) (eB (eOp dIsN (eVar 3) (eC .none)))) (sRaise 2) (sNext)) (sSeq (sExpr (ePop2 (eFld 2 "rows" (eVar 0)) (eVar 1) (eC .none))) (sSeq (sAsg (eTup (eCons (eVar 2) (eCons (eVar 3) (eCons (eVar 4) (eNil))))) (tSub (eFld 2 "rows" (eVar 0)) (eVar 1))) (sSeq (sAsg (eLive (eNil)) (tName 5)) (sSeq (sWhile (fun _ => 1000) (eB (eOp dGt (eCB dLen (eCons (eFld 2 "rows" (eVar 0)) (eNil))) (eFld 2 "many" (eVar 0)))) (sSeq (sExpr (eApp (eVar 5) (eOp dIx (eCB dList (eCons (eFld 2 "rows" (eVar 0)) (eNil))) (eC (.int 0))))) (sDel (eFld 2 "rows" (eVar 0)) (eOp dIx (eVar 5) (eNeg (eC (.int 1))))))) (sRet (eCB dTupA (eCons (eVar 5) (eNil))))))))
def g_AnswerKeep_put : Fn := fnM N_AnswerKeep_put m_AnswerKeep_put
theorem d_AnswerKeep_put {p : Pg} {a : Ad} (E : Fx p a) {X : Cx} (h : XOk p N_AnswerKeep_put (defScope s_AnswerKeep_put) (fun _ => true) 0 X) : SSs p.w X (defBody s_AnswerKeep_put) m_AnswerKeep_put :=
  ss_cons (ss_if (SW.b (sw_or (sb_cmp (os_lt h.c) (h.var) (se_int)) (sw_or1 (sb_cmp (os_isN) (h.var) (se_non))))) (ss_one (h.raise E.e_KeepError)) (ss_nil)) (ss_cons (ss_expr (se_pop2 (se_fld h.c E.fld_rows (h.var)) (h.var) (se_non) ⟨rfl, rfl, rfl, rfl⟩)) (ss_cons (ss_asg (se_tup (sa_cons (h.var) (sa_cons (h.var) (sa_cons (h.var) (sa_nil))))) (sg_sub h.c (se_fld h.c E.fld_rows (h.var)) (h.var))) (ss_cons (ss_asg (se_live (sa_nil)) (h.tgt)) (ss_cons (ss_while (fun _ => 1000) h.b (sb_cmp (os_gt h.c) (h.blt (cs_len h.c) E.b_len rfl (sa_cons (se_fld h.c E.fld_rows (h.var)) (sa_nil))) (se_fld h.c E.fld_many (h.var))) (ss_cons (ss_expr (se_app (h.var) (se_ix h.c (h.ty (cs_list h.c) E.b_list rfl (sa_cons (se_fld h.c E.fld_rows (h.var)) (sa_nil))) (se_int)))) (ss_one (ss_del (se_fld h.c E.fld_rows (h.var)) (se_ix h.c (h.var) (se_neg (se_int))))))) (ss_one (ss_ret (h.ty (cs_tupA h.c) E.b_tuple rfl (sa_cons (h.var) (sa_nil)))))))))
theorem t_AnswerKeep_put {p : Pg} {a : Ad} (E : Fx p a) : DOk p 1 5 a.AnswerKeep_put g_AnswerKeep_put := by
  obtain ⟨_, F⟩ := E.f_AnswerKeep_put
  exact def_ok F S_AnswerKeep_put rfl (fun _ _ _ _ _ _ us hl => match us, hl with | [_, _, _, _, _], _ => rfl) fun _ h => d_AnswerKeep_put E h
def m_AnswerKeep_sweep : MS := sSeq (sLock (eFld 2 "rows" (eVar 0)) (sSet 2 (eDc (iItems (eFld 2 "rows" (eVar 0))) (tTup 2 (tCons (tName 4) (tCons (tName 5) (tNil)))) (eB (eOp dEq (eOp dIx (eVar 5) (eC (.int 0))) (eVar 1))) (eVar 4) (eVar 5) [4, 5]))) (sSeq (sAsg (eOp dSub (eCB dLen (eCons (eFld 2 "rows" (eVar 0)) (eNil))) (eCB dLen (eCons (eVar 2) (eNil)))) (tName 3)) (sSeq (sFldD 2 "rows" (eVar 2) (eVar 0)) (sRet (eVar 3))))
def g_AnswerKeep_sweep : Fn := fnM N_AnswerKeep_sweep m_AnswerKeep_sweep
theorem d_AnswerKeep_sweep {p : Pg} {a : Ad} (E : Fx p a) {X : Cx} (h : XOk p N_AnswerKeep_sweep (defScope s_AnswerKeep_sweep) (fun _ => true) 0 X) : SSs p.w X (defBody s_AnswerKeep_sweep) m_AnswerKeep_sweep :=
  ss_cons (ss_lock (eFld 2 "rows" (eVar 0)) (h.setDc (own := [("key", 4), ("row", 5)]) (by decide +kernel) (si_items (se_fld h.c E.fld_rows (h.var))) (fun Y1 h1 => ⟨sg_tup h1.c (sgs_cons (h1.tgt) (sgs_cons (h1.tgt) (sgs_nil))), sts_one (sb_cmp (os_eq h1.c) (se_ix h1.c (h1.var) (se_int)) (h1.var)), h1.var, h1.var⟩))) (ss_cons (ss_asg (se_op (os_sub) (h.blt (cs_len h.c) E.b_len rfl (sa_cons (se_fld h.c E.fld_rows (h.var)) (sa_nil))) (h.blt (cs_len h.c) E.b_len rfl (sa_cons (h.var) (sa_nil)))) (h.tgt)) (ss_cons (ss_fld h.c E.fld_rows (h.var) (h.var)) (ss_one (ss_ret (h.var)))))
theorem t_AnswerKeep_sweep {p : Pg} {a : Ad} (E : Fx p a) : DOk p 1 2 a.AnswerKeep_sweep g_AnswerKeep_sweep := by
  obtain ⟨_, F⟩ := E.f_AnswerKeep_sweep
  exact def_ok F S_AnswerKeep_sweep rfl (fun _ _ _ _ _ _ us hl => match us, hl with | [_, _], _ => rfl) fun _ h => d_AnswerKeep_sweep E h
def m_AnswerKeep_hit_share : MS := sSeq (sAsg (eOp dAdd (eFld 2 "had" (eVar 0)) (eFld 2 "lacked" (eVar 0))) (tName 1)) (sRet (eIf (eB (eOp dGt (eVar 1) (eC (.int 0)))) (eOp dDiv (eOp dMul (eC (.int 1000)) (eFld 2 "had" (eVar 0))) (eVar 1)) (eC (.int 0))))
def g_AnswerKeep_hit_share : Fn := fnM N_AnswerKeep_hit_share m_AnswerKeep_hit_share
theorem d_AnswerKeep_hit_share {p : Pg} {a : Ad} (E : Fx p a) {X : Cx} (h : XOk p N_AnswerKeep_hit_share (defScope s_AnswerKeep_hit_share) (fun _ => true) 0 X) : SSs p.w X (defBody s_AnswerKeep_hit_share) m_AnswerKeep_hit_share :=
  ss_cons (ss_asg (se_op (os_add h.c) (se_fld h.c E.fld_had (h.var)) (se_fld h.c E.fld_lacked (h.var))) (h.tgt)) (ss_one (ss_ret (se_if (sb_cmp (os_gt h.c) (h.var) (se_int)) (se_op (os_div) (se_op (os_mul) (se_int) (se_fld h.c E.fld_had (h.var))) (h.var)) (se_int))))
theorem t_AnswerKeep_hit_share {p : Pg} {a : Ad} (E : Fx p a) : DOk p 1 1 a.AnswerKeep_hit_share g_AnswerKeep_hit_share := by
  obtain ⟨_, F⟩ := E.f_AnswerKeep_hit_share
  exact def_ok F S_AnswerKeep_hit_share rfl (fun _ _ _ _ _ _ us hl => match us, hl with | [_], _ => rfl) fun _ h => d_AnswerKeep_hit_share E h
def m_AnswerKeep_keep_lines : MS := sRet (eCB dTupA (eCons (eLock (eFld 2 "rows" (eVar 0)) (eLc false (iItems (eFld 2 "rows" (eVar 0))) (tTup 2 (tCons (tName 1) (tCons (tTup 3 (tCons (tName 2) (tCons (tName 3) (tCons (tName 4) (tNil))))) (tNil)))) (tTrue) (eJoined [eFmt (eVar 1), eC (.str " "), eFmt (eVar 2), eC (.str " "), eFmt (eVar 4)]) [1, 2, 3, 4])) (eNil)))
def g_AnswerKeep_keep_lines : Fn := fnM N_AnswerKeep_keep_lines m_AnswerKeep_keep_lines
theorem d_AnswerKeep_keep_lines {p : Pg} {a : Ad} (E : Fx p a) {X : Cx} (h : XOk p N_AnswerKeep_keep_lines (defScope s_AnswerKeep_keep_lines) (fun _ => true) 0 X) : SSs p.w X (defBody s_AnswerKeep_keep_lines) m_AnswerKeep_keep_lines :=
  ss_one (ss_ret (h.ty (cs_tupA h.c) E.b_tuple rfl (sa_cons (se_lock (eFld 2 "rows" (eVar 0)) (h.lc false (own := [("key", 1), ("state", 2), ("answer", 3), ("cost", 4)]) (by decide +kernel) (si_items (se_fld h.c E.fld_rows (h.var))) (fun Y1 h1 => ⟨sg_tup h1.c (sgs_cons (h1.tgt) (sgs_cons (sg_tup h1.c (sgs_cons (h1.tgt) (sgs_cons (h1.tgt) (sgs_cons (h1.tgt) (sgs_nil))))) (sgs_nil))), sts_nil, se_joined (SJ.cons (se_fmt (h1.var)) (SJ.cons (se_str) (SJ.cons (se_fmt (h1.var)) (SJ.cons (se_str) (SJ.cons (se_fmt (h1.var)) (SJ.nil))))))⟩))) (sa_nil))))
theorem t_AnswerKeep_keep_lines {p : Pg} {a : Ad} (E : Fx p a) : DOk p 1 1 a.AnswerKeep_keep_lines g_AnswerKeep_keep_lines := by
  obtain ⟨_, F⟩ := E.f_AnswerKeep_keep_lines
  exact def_ok F S_AnswerKeep_keep_lines rfl (fun _ _ _ _ _ _ us hl => match us, hl with | [_], _ => rfl) fun _ h => d_AnswerKeep_keep_lines E h
def m_TwoKeep_init : MS := sSeq (sFldD 2 "once" (eMake 0 2 g_AnswerKeep_init (eCons (eVar 1) (eNil))) (eVar 0)) (sFldD 2 "again" (eMake 0 2 g_AnswerKeep_init (eCons (eVar 2) (eNil))) (eVar 0))
def g_TwoKeep_init : Fn := fnM N_TwoKeep_init m_TwoKeep_init
theorem d_TwoKeep_init {p : Pg} {a : Ad} (E : Fx p a) {X : Cx} (h : XOk p N_TwoKeep_init (defScope s_TwoKeep_init) (fun _ => true) 2 X) : SSs p.w X (defBody s_TwoKeep_init) m_TwoKeep_init :=
  ss_cons (ss_fld h.c E.fld_once (h.var) (h.make E.mk_AnswerKeep (t_AnswerKeep_init E) E.gc_AnswerKeep (sa_cons (h.var) (sa_nil)))) (ss_one (ss_fld h.c E.fld_again (h.var) (h.make E.mk_AnswerKeep (t_AnswerKeep_init E) E.gc_AnswerKeep (sa_cons (h.var) (sa_nil)))))
theorem t_TwoKeep_init {p : Pg} {a : Ad} (E : Fx p a) : DOk p 3 3 a.TwoKeep_init g_TwoKeep_init := by
  obtain ⟨_, F⟩ := E.f_TwoKeep_init
  exact def_ok F S_TwoKeep_init rfl (fun _ _ _ _ _ _ us hl => match us, hl with | [_, _, _], _ => rfl) fun _ h => d_TwoKeep_init E h
def m_TwoKeep_get : MS := sSeq (sAsg (eMeth 0 3 "get" g_AnswerKeep_get (eFld 2 "again" (eVar 0)) (eCons (eVar 1) (eCons (eVar 2) (eNil)))) (tName 3)) (sSeq (sIf (eB (eOp dNotN (eVar 3) (eC .none))) (sRet (eVar 3)) (sNext)) (sSeq (sAsg (eMeth 0 3 "get" g_AnswerKeep_get (eFld 2 "once" (eVar 0)) (eCons (eVar 1) (eCons (eVar 2) (eNil)))) (tName 3)) (sSeq (sIf (eB (eOp dNotN (eVar 3) (eC .none))) (sSeq (sAsg (ePop1 (eFld 2 "rows" (eFld 2 "once" (eVar 0))) (eVar 1)) (tName 4)) (sSeq (sAsg (eCB dDict (eCons (eFld 2 "rows" (eFld 2 "again" (eVar 0))) (eNil))) (tName 5)) (sFor (iIt (eMeth 0 5 "put" g_AnswerKeep_put (eFld 2 "again" (eVar 0)) (eCons (eVar 1) (eCons (eOp dIx (eVar 4) (eC (.int 0))) (eCons (eOp dIx (eVar 4) (eC (.int 1))) (eCons (eOp dIx (eVar 4) (eC (.int 2))) (eNil))))))) (tName 6) (sExpr (eMeth 0 5 "put" g_AnswerKeep_put (eFld 2 "once" (eVar 0)) (eCons (eVar 6) (eCons (eOp dIx (eOp dIx (eVar 5) (eVar 6)) (eC (.int 0))) (eCons (eOp dIx (eOp dIx (eVar 5) (eVar 6)) (eC (.int 1))) (eCons (eOp dIx (eOp dIx (eVar 5) (eVar 6)) (eC (.int 2))) (eNil)))))))))) (sNext)) (sRet (eVar 3)))))
def g_TwoKeep_get : Fn := fnM N_TwoKeep_get m_TwoKeep_get
theorem d_TwoKeep_get {p : Pg} {a : Ad} (E : Fx p a) {X : Cx} (h : XOk p N_TwoKeep_get (defScope s_TwoKeep_get) (fun _ => true) 1 X) : SSs p.w X (defBody s_TwoKeep_get) m_TwoKeep_get :=
  ss_cons (ss_asg (h.meth E.m_AnswerKeep_get (t_AnswerKeep_get E) (se_fld h.c E.fld_again (h.var)) (sa_cons (h.var) (sa_cons (h.var) (sa_nil)))) (h.tgt)) (ss_cons (ss_if (sb_cmp (os_notN) (h.var) (se_non)) (ss_one (ss_ret (h.var))) (ss_nil)) (ss_cons (ss_asg (h.meth E.m_AnswerKeep_get (t_AnswerKeep_get E) (se_fld h.c E.fld_once (h.var)) (sa_cons (h.var) (sa_cons (h.var) (sa_nil)))) (h.tgt)) (ss_cons (ss_if (sb_cmp (os_notN) (h.var) (se_non)) (ss_cons (ss_asg (se_pop1 (se_fld h.c E.fld_rows (se_fld h.c E.fld_once (h.var))) (h.var) ⟨rfl, rfl, rfl, rfl⟩) (h.tgt)) (ss_cons (ss_asg (h.ty (cs_dict) E.b_dict rfl (sa_cons (se_fld h.c E.fld_rows (se_fld h.c E.fld_again (h.var))) (sa_nil))) (h.tgt)) (ss_one (ss_for h.b (si_of h.c (h.meth E.m_AnswerKeep_put (t_AnswerKeep_put E) (se_fld h.c E.fld_again (h.var)) (sa_cons (h.var) (sa_cons (se_ix h.c (h.var) (se_int)) (sa_cons (se_ix h.c (h.var) (se_int)) (sa_cons (se_ix h.c (h.var) (se_int)) (sa_nil))))))) (h.tgt) (ss_one (ss_expr (h.meth E.m_AnswerKeep_put (t_AnswerKeep_put E) (se_fld h.c E.fld_once (h.var)) (sa_cons (h.var) (sa_cons (se_ix h.c (se_ix h.c (h.var) (h.var)) (se_int)) (sa_cons (se_ix h.c (se_ix h.c (h.var) (h.var)) (se_int)) (sa_cons (se_ix h.c (se_ix h.c (h.var) (h.var)) (se_int)) (sa_nil)))))))))))) (ss_nil)) (ss_one (ss_ret (h.var))))))
theorem t_TwoKeep_get {p : Pg} {a : Ad} (E : Fx p a) : DOk p 2 3 a.TwoKeep_get g_TwoKeep_get := by
  obtain ⟨_, F⟩ := E.f_TwoKeep_get
  exact def_ok F S_TwoKeep_get rfl (fun _ _ _ _ _ _ us hl => match us, hl with | [_, _, _], _ => rfl) fun _ h => d_TwoKeep_get E h
def m_TwoKeep_put : MS := sIf (eB (eOp dIn (eVar 1) (eFld 2 "rows" (eFld 2 "again" (eVar 0))))) (sExpr (eMeth 0 5 "put" g_AnswerKeep_put (eFld 2 "again" (eVar 0)) (eCons (eVar 1) (eCons (eVar 2) (eCons (eVar 3) (eCons (eVar 4) (eNil))))))) (sExpr (eMeth 0 5 "put" g_AnswerKeep_put (eFld 2 "once" (eVar 0)) (eCons (eVar 1) (eCons (eVar 2) (eCons (eVar 3) (eCons (eVar 4) (eNil)))))))
def g_TwoKeep_put : Fn := fnM N_TwoKeep_put m_TwoKeep_put
theorem d_TwoKeep_put {p : Pg} {a : Ad} (E : Fx p a) {X : Cx} (h : XOk p N_TwoKeep_put (defScope s_TwoKeep_put) (fun _ => true) 1 X) : SSs p.w X (defBody s_TwoKeep_put) m_TwoKeep_put :=
  ss_one (ss_if (sb_cmp (os_in h.c) (h.var) (se_fld h.c E.fld_rows (se_fld h.c E.fld_again (h.var)))) (ss_one (ss_expr (h.meth E.m_AnswerKeep_put (t_AnswerKeep_put E) (se_fld h.c E.fld_again (h.var)) (sa_cons (h.var) (sa_cons (h.var) (sa_cons (h.var) (sa_cons (h.var) (sa_nil)))))))) (ss_one (ss_expr (h.meth E.m_AnswerKeep_put (t_AnswerKeep_put E) (se_fld h.c E.fld_once (h.var)) (sa_cons (h.var) (sa_cons (h.var) (sa_cons (h.var) (sa_cons (h.var) (sa_nil)))))))))
theorem t_TwoKeep_put {p : Pg} {a : Ad} (E : Fx p a) : DOk p 2 5 a.TwoKeep_put g_TwoKeep_put := by
  obtain ⟨_, F⟩ := E.f_TwoKeep_put
  exact def_ok F S_TwoKeep_put rfl (fun _ _ _ _ _ _ us hl => match us, hl with | [_, _, _, _, _], _ => rfl) fun _ h => d_TwoKeep_put E h
def m_TwoKeep_kept_keys : MS := sRet (eTup (eCons (eCB dTupA (eCons (eFld 2 "rows" (eFld 2 "once" (eVar 0))) (eNil))) (eCons (eCB dTupA (eCons (eFld 2 "rows" (eFld 2 "again" (eVar 0))) (eNil))) (eNil))))
def g_TwoKeep_kept_keys : Fn := fnM N_TwoKeep_kept_keys m_TwoKeep_kept_keys
theorem d_TwoKeep_kept_keys {p : Pg} {a : Ad} (E : Fx p a) {X : Cx} (h : XOk p N_TwoKeep_kept_keys (defScope s_TwoKeep_kept_keys) (fun _ => true) 0 X) : SSs p.w X (defBody s_TwoKeep_kept_keys) m_TwoKeep_kept_keys :=
  ss_one (ss_ret (se_tup (sa_cons (h.ty (cs_tupA h.c) E.b_tuple rfl (sa_cons (se_fld h.c E.fld_rows (se_fld h.c E.fld_once (h.var))) (sa_nil))) (sa_cons (h.ty (cs_tupA h.c) E.b_tuple rfl (sa_cons (se_fld h.c E.fld_rows (se_fld h.c E.fld_again (h.var))) (sa_nil))) (sa_nil)))))
theorem t_TwoKeep_kept_keys {p : Pg} {a : Ad} (E : Fx p a) : DOk p 1 1 a.TwoKeep_kept_keys g_TwoKeep_kept_keys := by
  obtain ⟨_, F⟩ := E.f_TwoKeep_kept_keys
  exact def_ok F S_TwoKeep_kept_keys rfl (fun _ _ _ _ _ _ us hl => match us, hl with | [_], _ => rfl) fun _ h => d_TwoKeep_kept_keys E h
def m_next_place : MS := sSeq (sFor (iRng2 (eVar 1) (eCB dLen (eCons (eVar 0) (eNil)))) (tName 3) (sIf (eB (eOp dEq (eOp dIx (eVar 0) (eVar 3)) (eVar 2))) (sRet (eVar 3)) (sNext))) (sRet (eCB dLen (eCons (eVar 0) (eNil))))
def g_next_place : Fn := fnM N_next_place m_next_place
theorem d_next_place {p : Pg} {a : Ad} (E : Fx p a) {X : Cx} (h : XOk p N_next_place (defScope s_next_place) (fun _ => true) 0 X) : SSs p.w X (defBody s_next_place) m_next_place :=
  ss_cons (ss_for h.b (h.rng2 E.b_range (h.var) (h.blt (cs_len h.c) E.b_len rfl (sa_cons (h.var) (sa_nil)))) (h.tgt) (ss_one (ss_if (sb_cmp (os_eq h.c) (se_ix h.c (h.var) (h.var)) (h.var)) (ss_one (ss_ret (h.var))) (ss_nil)))) (ss_one (ss_ret (h.blt (cs_len h.c) E.b_len rfl (sa_cons (h.var) (sa_nil)))))
theorem t_next_place {p : Pg} {a : Ad} (E : Fx p a) : DOk p 1 3 a.next_place g_next_place := by
  obtain ⟨_, F⟩ := E.f_next_place
  exact def_ok F S_next_place rfl (fun _ _ _ _ _ _ us hl => match us, hl with | [_, _, _], _ => rfl) fun _ h => d_next_place E h
def m_best_kept : MS := sSeq (sIf (eB (eOp dLt (eVar 1) (eC (.int 1)))) (sRaise 2) (sNext)) (sSeq (sPar 2 3 (eCons (eLive (eNil)) (eCons (eC (.int 0)) (eNil)))) (sSeq (sFor (iEnuA (eVar 0)) (tTup 2 (tCons (tName 4) (tCons (tName 5) (tNil)))) (sIf (eB (eOp dIn (eVar 5) (eVar 2))) (sAug 3 dAddI (eC (.int 1))) (sSeq (sIf (eB (eOp dEq (eCB dLen (eCons (eVar 2) (eNil))) (eVar 1))) (sSeq (sSet 6 (eLc false (iEnuA (eVar 2)) (tTup 2 (tCons (tName 7) (tCons (tName 8) (tNil)))) (tTrue) (eTup (eCons (eOp dSub (eC (.int 0)) (eCall 3 g_next_place (eCons (eVar 0) (eCons (eOp dAdd (eVar 4) (eC (.int 1))) (eCons (eVar 8) (eNil)))))) (eCons (eVar 7) (eNil)))) [7, 8])) (sSeq (sAsg (eOp dIx (eCB dMinL (eCons (eVar 6) (eNil))) (eC (.int 1))) (tName 7)) (sAsg (eOp dAddL (eSl (eVar 2) (oNone) (oSome (eVar 7))) (eSl (eVar 2) (oSome (eOp dAdd (eVar 7) (eC (.int 1)))) (oNone))) (tName 2)))) (sNext)) (sExpr (eApp (eVar 2) (eVar 5)))))) (sRet (eVar 3))))
def g_best_kept : Fn := fnM N_best_kept m_best_kept
theorem d_best_kept {p : Pg} {a : Ad} (E : Fx p a) {X : Cx} (h : XOk p N_best_kept (defScope s_best_kept) (fun _ => true) 1 X) : SSs p.w X (defBody s_best_kept) m_best_kept :=
  ss_cons (ss_if (sb_cmp (os_lt h.c) (h.var) (se_int)) (ss_one (h.raise E.e_KeepError)) (ss_nil)) (ss_cons (h.par2 (sa_cons (se_live (sa_nil)) (sa_cons (se_int) (sa_nil)))) (ss_cons (ss_for h.b (h.enuA E.b_enumerate (h.var)) (sg_tup h.c (sgs_cons (h.tgt) (sgs_cons (h.tgt) (sgs_nil)))) (ss_one (ss_if (sb_cmp (os_in h.c) (h.var) (h.var)) (ss_one (h.aug (se_int) is_add)) (ss_cons (ss_if (sb_cmp (os_eq h.c) (h.blt (cs_len h.c) E.b_len rfl (sa_cons (h.var) (sa_nil))) (h.var)) (ss_cons (h.setLc false (own := [("spot", 7), ("one", 8)]) (by decide +kernel) (h.enuA E.b_enumerate (h.var)) (fun Y1 h1 => ⟨sg_tup h1.c (sgs_cons (h1.tgt) (sgs_cons (h1.tgt) (sgs_nil))), sts_nil, se_tup (sa_cons (se_op (os_sub) (se_int) (h1.call (t_next_place E) E.glo_next_place (sa_cons (h1.var) (sa_cons (se_op (os_add h1.c) (h1.var) (se_int)) (sa_cons (h1.var) (sa_nil)))))) (sa_cons (h1.var) (sa_nil)))⟩)) (ss_cons (ss_asg (se_ix h.c (h.blt (cs_minL h.c) E.b_min rfl (sa_cons (h.var) (sa_nil))) (se_int)) (h.tgt)) (ss_one (ss_asg (se_op (os_addL h.c) (se_slice h.c (h.var) (so_none) (so_some (h.var))) (se_slice h.c (h.var) (so_some (se_op (os_add h.c) (h.var) (se_int))) (so_none))) (h.tgt))))) (ss_nil)) (ss_one (ss_expr (se_app (h.var) (h.var)))))))) (ss_one (ss_ret (h.var)))))
theorem t_best_kept {p : Pg} {a : Ad} (E : Fx p a) : DOk p 2 2 a.best_kept g_best_kept := by
  obtain ⟨_, F⟩ := E.f_best_kept
  exact def_ok F S_best_kept rfl (fun _ _ _ _ _ _ us hl => match us, hl with | [_, _], _ => rfl) fun _ h => d_best_kept E h
def m_lasting_kept : MS := sSeq (sAsg (eMake 0 2 g_AnswerKeep_init (eCons (eVar 1) (eNil))) (tName 2)) (sSeq (sFor (iIt (eVar 0)) (tName 3) (sIf (eB (eOp dIsN (eMeth 0 3 "get" g_AnswerKeep_get (eVar 2) (eCons (eVar 3) (eCons (eC (.int 0)) (eNil)))) (eC .none))) (sExpr (eMeth 0 5 "put" g_AnswerKeep_put (eVar 2) (eCons (eVar 3) (eCons (eC (.int 0)) (eCons (eC (.int 1)) (eCons (eC (.int 1)) (eNil))))))) (sNext))) (sRet (eFld 2 "had" (eVar 2))))
def g_lasting_kept : Fn := fnM N_lasting_kept m_lasting_kept
theorem d_lasting_kept {p : Pg} {a : Ad} (E : Fx p a) {X : Cx} (h : XOk p N_lasting_kept (defScope s_lasting_kept) (fun _ => true) 2 X) : SSs p.w X (defBody s_lasting_kept) m_lasting_kept :=
  ss_cons (ss_asg (h.make E.mk_AnswerKeep (t_AnswerKeep_init E) E.gc_AnswerKeep (sa_cons (h.var) (sa_nil))) (h.tgt)) (ss_cons (ss_for h.b (si_of h.c (h.var)) (h.tgt) (ss_one (ss_if (sb_cmp (os_isN) (h.meth E.m_AnswerKeep_get (t_AnswerKeep_get E) (h.var) (sa_cons (h.var) (sa_cons (se_int) (sa_nil)))) (se_non)) (ss_one (ss_expr (h.meth E.m_AnswerKeep_put (t_AnswerKeep_put E) (h.var) (sa_cons (h.var) (sa_cons (se_int) (sa_cons (se_int) (sa_cons (se_int) (sa_nil)))))))) (ss_nil)))) (ss_one (ss_ret (se_fld h.c E.fld_had (h.var)))))
theorem t_lasting_kept {p : Pg} {a : Ad} (E : Fx p a) : DOk p 3 2 a.lasting_kept g_lasting_kept := by
  obtain ⟨_, F⟩ := E.f_lasting_kept
  exact def_ok F S_lasting_kept rfl (fun _ _ _ _ _ _ us hl => match us, hl with | [_, _], _ => rfl) fun _ h => d_lasting_kept E h
def m_plain_key : MS := sRet (eOp dAdd (eOp dAdd (eJoin (eC (.str " ")) (eCB dSortS (eCons (eDc (iIt (eVar 0)) (tName 2) (tTrue) (eVar 2) (eC (.bool true)) [2]) (eNil)))) (eC (.str "|"))) (eVar 1))
def g_plain_key : Fn := fnM N_plain_key m_plain_key
theorem d_plain_key {p : Pg} {a : Ad} (E : Fx p a) {X : Cx} (h : XOk p N_plain_key (defScope s_plain_key) (fun _ => true) 0 X) : SSs p.w X (defBody s_plain_key) m_plain_key :=
  ss_one (ss_ret (se_op (os_add h.c) (se_op (os_add h.c) (se_join h.c (se_str) (h.blt (cs_sortS h.c) E.b_sorted rfl (sa_cons (h.dc (own := [("word", 2)]) (by decide +kernel) (si_of h.c (h.var)) (fun Y1 h1 => ⟨h1.tgt, sts_nil, h1.var, se_bl⟩)) (sa_nil)))) (se_str)) (h.var)))
theorem t_plain_key {p : Pg} {a : Ad} (E : Fx p a) : DOk p 1 2 a.plain_key g_plain_key := by
  obtain ⟨_, F⟩ := E.f_plain_key
  exact def_ok F S_plain_key rfl (fun _ _ _ _ _ _ us hl => match us, hl with | [_, _], _ => rfl) fun _ h => d_plain_key E h
def m_law_dice : MS := sSeq (sIf (eB (eChain dLt dLt (eOp dSub (eC (.int 0)) (eC (.int 10))) (eVar 0) (eC (.int 10)))) (sRet (eLive (eCons (eCB dAbs (eCons (eVar 0) (eNil))) (eCons (eC (.int 0)) (eCons (eC (.int 2)) (eNil)))))) (sNext)) (sRet (eLive (eCons (eVar 0) (eCons (eOp dAdd (eC (.int 1)) (eOp dMod (eCB dInt (eCons (eVar 0) (eNil))) (eC (.int 1009)))) (eCons (eCB dInt (eCons (eOp dGe (eVar 0) (eOp dPow (eC (.int 10)) (eC (.int 18)))) (eNil))) (eNil))))))
def g_law_dice : Fn := fnM N_law_dice m_law_dice
theorem d_law_dice {p : Pg} {a : Ad} (E : Fx p a) {X : Cx} (h : XOk p N_law_dice (defScope s_law_dice) (fun _ => true) 0 X) : SSs p.w X (defBody s_law_dice) m_law_dice :=
  ss_cons (ss_if (sb_chain (os_lt h.c) (os_lt h.c) (se_op (os_sub) (se_int) (se_int)) (h.var) (se_int)) (ss_one (ss_ret (se_live (sa_cons (h.blt (cs_abs) E.b_abs rfl (sa_cons (h.var) (sa_nil))) (sa_cons (se_int) (sa_cons (se_int) (sa_nil))))))) (ss_nil)) (ss_one (ss_ret (se_live (sa_cons (h.var) (sa_cons (se_op (os_add h.c) (se_int) (se_op (os_mod) (h.ty (cs_int) E.b_int rfl (sa_cons (h.var) (sa_nil))) (se_int))) (sa_cons (h.ty (cs_int) E.b_int rfl (sa_cons (se_cmp (os_ge h.c) (h.var) (se_op (os_pow) (se_int) (se_int))) (sa_nil))) (sa_nil)))))))
theorem t_law_dice {p : Pg} {a : Ad} (E : Fx p a) : DOk p 1 1 a.law_dice g_law_dice := by
  obtain ⟨_, F⟩ := E.f_law_dice
  exact def_ok F S_law_dice rfl (fun _ _ _ _ _ _ us hl => match us, hl with | [_], _ => rfl) fun _ h => d_law_dice E h
def m_law_roll (g : Fn) : MS := sSeq (sIf (mOr (eB (eOp dEq (eOp dIx (eVar 0) (eC (.int 2))) (eC (.int 2)))) (mAnd (eB (eOp dEq (eOp dIx (eVar 0) (eC (.int 2))) (eC (.int 1)))) (eB (eOp dGt (eOp dIx (eVar 0) (eC (.int 0))) (eC (.int 0)))))) (sSeq (sAsg (eOp dMod (eCB dInt (eCons (eOp dIx (eVar 0) (eC (.int 0))) (eNil))) (eVar 1)) (tName 2)) (sSeq (sAsg (eOp dDiv (eOp dIx (eVar 0) (eC (.int 0))) (eVar 1)) (tSub (eVar 0) (eC (.int 0)))) (sRet (eVar 2)))) (sNext)) (sSeq (sAsg (eC (.int 0)) (tSub (eVar 0) (eC (.int 2)))) (sSeq (sIf (eB (eOp dGt (eVar 1) (eC (.int 100000000)))) (sRet (eOp dMod (eCB dInt (eCons (eOp dAdd (eOp dMul (eCall 2 g (eCons (eVar 0) (eCons (eOp dAdd (eOp dDiv (eVar 1) (eC (.int 100000000))) (eC (.int 1))) (eNil)))) (eC (.int 100000000))) (eCall 2 g (eCons (eVar 0) (eCons (eC (.int 100000000)) (eNil))))) (eNil))) (eVar 1))) (sNext)) (sSeq (sAsg (eOp dMod (eCB dInt (eCons (eOp dAdd (eOp dAdd (eOp dMul (eOp dIx (eVar 0) (eC (.int 0))) (eC (.int 48271))) (eOp dMul (eOp dIx (eVar 0) (eC (.int 1))) (eC (.int 69621)))) (eC (.int 11))) (eNil))) (eC (.int 2147483647))) (tSub (eVar 0) (eC (.int 0)))) (sSeq (sAsg (eOp dAdd (eOp dIx (eVar 0) (eC (.int 1))) (eC (.int 1))) (tSub (eVar 0) (eC (.int 1)))) (sRet (eOp dMod (eCB dInt (eCons (eOp dDiv (eOp dIx (eVar 0) (eC (.int 0))) (eC (.int 7))) (eNil))) (eVar 1)))))))
def g_law_roll : Nat → Fn
  | 0 => fun _ _ => .bad
  | j + 1 => fnM N_law_roll (m_law_roll (g_law_roll j))
theorem d_law_roll {p : Pg} {a : Ad} (E : Fx p a) {k : Nat} {X : Cx} {g : Fn} (G : DOk p (1 + k) 2 a.law_roll g) (h : XOk p N_law_roll (defScope s_law_roll) (fun _ => true) (1 + k) X) : SSs p.w X (defBody s_law_roll) (m_law_roll g) :=
  ss_cons (ss_if (SW.b (sw_or (sb_cmp (os_eq h.c) (se_ix h.c (h.var) (se_int)) (se_int)) (sw_or1 (SW.b (sw_and (sb_cmp (os_eq h.c) (se_ix h.c (h.var) (se_int)) (se_int)) (sw_and1 (sb_cmp (os_gt h.c) (se_ix h.c (h.var) (se_int)) (se_int)))))))) (ss_cons (ss_asg (se_op (os_mod) (h.ty (cs_int) E.b_int rfl (sa_cons (se_ix h.c (h.var) (se_int)) (sa_nil))) (h.var)) (h.tgt)) (ss_cons (ss_asg (se_op (os_div) (se_ix h.c (h.var) (se_int)) (h.var)) (sg_sub h.c (h.var) (se_int))) (ss_one (ss_ret (h.var))))) (ss_nil)) (ss_cons (ss_asg (se_int) (sg_sub h.c (h.var) (se_int))) (ss_cons (ss_if (sb_cmp (os_gt h.c) (h.var) (se_int)) (ss_one (ss_ret (se_op (os_mod) (h.ty (cs_int) E.b_int rfl (sa_cons (se_op (os_add h.c) (se_op (os_mul) (h.call G E.glo_law_roll (sa_cons (h.var) (sa_cons (se_op (os_add h.c) (se_op (os_div) (h.var) (se_int)) (se_int)) (sa_nil)))) (se_int)) (h.call G E.glo_law_roll (sa_cons (h.var) (sa_cons (se_int) (sa_nil))))) (sa_nil))) (h.var)))) (ss_nil)) (ss_cons (ss_asg (se_op (os_mod) (h.ty (cs_int) E.b_int rfl (sa_cons (se_op (os_add h.c) (se_op (os_add h.c) (se_op (os_mul) (se_ix h.c (h.var) (se_int)) (se_int)) (se_op (os_mul) (se_ix h.c (h.var) (se_int)) (se_int))) (se_int)) (sa_nil))) (se_int)) (sg_sub h.c (h.var) (se_int))) (ss_cons (ss_asg (se_op (os_add h.c) (se_ix h.c (h.var) (se_int)) (se_int)) (sg_sub h.c (h.var) (se_int))) (ss_one (ss_ret (se_op (os_mod) (h.ty (cs_int) E.b_int rfl (sa_cons (se_op (os_div) (se_ix h.c (h.var) (se_int)) (se_int)) (sa_nil))) (h.var))))))))
theorem t_law_roll {p : Pg} {a : Ad} (E : Fx p a) : ∀ j : Nat, DOk p (1 + j) 2 a.law_roll (g_law_roll j)
  | 0 => let ⟨_, F⟩ := E.f_law_roll; (def_bad F S_law_roll rfl (fun _ _ _ _ _ _ us hl => match us, hl with | [_, _], _ => rfl)).mono (Nat.zero_le _)
  | j + 1 => let ⟨_, F⟩ := E.f_law_roll; def_ok F S_law_roll rfl (fun _ _ _ _ _ _ us hl => match us, hl with | [_, _], _ => rfl) fun _ h => d_law_roll E (t_law_roll E j) h
def m_law_rounds : MS := sSeq (sAsg (eSl (eVar 0) (oNone) (oSome (eVar 1))) (tName 2)) (sSeq (sIf (eB (eOp dEq (eVar 2) (eLst (eNil)))) (sAsg (eLst (eCons (eC (.int 0)) (eNil))) (tName 2)) (sNext)) (sRet (eLc false (iIt (eVar 2)) (tName 3) (tTrue) (eCall 1 g_law_dice (eCons (eVar 3) (eNil))) [3])))
def g_law_rounds : Fn := fnM N_law_rounds m_law_rounds
theorem d_law_rounds {p : Pg} {a : Ad} (E : Fx p a) {X : Cx} (h : XOk p N_law_rounds (defScope s_law_rounds) (fun _ => true) 1 X) : SSs p.w X (defBody s_law_rounds) m_law_rounds :=
  ss_cons (ss_asg (se_slice h.c (h.var) (so_none) (so_some (h.var))) (h.tgt)) (ss_cons (ss_if (sb_cmp (os_eq h.c) (h.var) (se_lst (sa_nil))) (ss_one (ss_asg (se_lst (sa_cons (se_int) (sa_nil))) (h.tgt))) (ss_nil)) (ss_one (ss_ret (h.lc false (own := [("cell", 3)]) (by decide +kernel) (si_of h.c (h.var)) (fun Y1 h1 => ⟨h1.tgt, sts_nil, h1.call (t_law_dice E) E.glo_law_dice (sa_cons (h1.var) (sa_nil))⟩)))))
theorem t_law_rounds {p : Pg} {a : Ad} (E : Fx p a) : DOk p 2 2 a.law_rounds g_law_rounds := by
  obtain ⟨_, F⟩ := E.f_law_rounds
  exact def_ok F S_law_rounds rfl (fun _ _ _ _ _ _ us hl => match us, hl with | [_, _], _ => rfl) fun _ h => d_law_rounds E h
def m_law_best (g : Fn) : MS := sSeq (sIf (eB (eOp dEq (eVar 3) (eCB dLen (eCons (eVar 0) (eNil))))) (sRet (eC (.int 0))) (sNext)) (sSeq (sIf (eB (eOp dIn (eOp dIx (eVar 0) (eVar 3)) (eVar 2))) (sRet (eOp dAdd (eC (.int 1)) (eCall 4 g (eCons (eVar 0) (eCons (eVar 1) (eCons (eVar 2) (eCons (eOp dAdd (eVar 3) (eC (.int 1))) (eNil)))))))) (sNext)) (sSeq (sIf (eB (eOp dLt (eCB dLen (eCons (eVar 2) (eNil))) (eVar 1))) (sRet (eCall 4 g (eCons (eVar 0) (eCons (eVar 1) (eCons (eOp dAdd (eVar 2) (eTup (eCons (eOp dIx (eVar 0) (eVar 3)) (eNil)))) (eCons (eOp dAdd (eVar 3) (eC (.int 1))) (eNil))))))) (sNext)) (sRet (eCB dMaxL (eCons (eLc false (iRng1 (eCB dLen (eCons (eVar 2) (eNil)))) (tName 4) (tTrue) (eCall 4 g (eCons (eVar 0) (eCons (eVar 1) (eCons (eOp dAdd (eOp dAdd (eSl (eVar 2) (oNone) (oSome (eVar 4))) (eSl (eVar 2) (oSome (eOp dAdd (eVar 4) (eC (.int 1)))) (oNone))) (eTup (eCons (eOp dIx (eVar 0) (eVar 3)) (eNil)))) (eCons (eOp dAdd (eVar 3) (eC (.int 1))) (eNil)))))) [4]) (eNil))))))
def g_law_best : Nat → Fn
  | 0 => fun _ _ => .bad
  | j + 1 => fnM N_law_best (m_law_best (g_law_best j))
theorem d_law_best {p : Pg} {a : Ad} (E : Fx p a) {k : Nat} {X : Cx} {g : Fn} (G : DOk p (1 + k) 4 a.law_best g) (h : XOk p N_law_best (defScope s_law_best) (fun _ => true) (1 + k) X) : SSs p.w X (defBody s_law_best) (m_law_best g) :=
  ss_cons (ss_if (sb_cmp (os_eq h.c) (h.var) (h.blt (cs_len h.c) E.b_len rfl (sa_cons (h.var) (sa_nil)))) (ss_one (ss_ret (se_int))) (ss_nil)) (ss_cons (ss_if (sb_cmp (os_in h.c) (se_ix h.c (h.var) (h.var)) (h.var)) (ss_one (ss_ret (se_op (os_add h.c) (se_int) (h.call G E.glo_law_best (sa_cons (h.var) (sa_cons (h.var) (sa_cons (h.var) (sa_cons (se_op (os_add h.c) (h.var) (se_int)) (sa_nil))))))))) (ss_nil)) (ss_cons (ss_if (sb_cmp (os_lt h.c) (h.blt (cs_len h.c) E.b_len rfl (sa_cons (h.var) (sa_nil))) (h.var)) (ss_one (ss_ret (h.call G E.glo_law_best (sa_cons (h.var) (sa_cons (h.var) (sa_cons (se_op (os_add h.c) (h.var) (se_tup (sa_cons (se_ix h.c (h.var) (h.var)) (sa_nil)))) (sa_cons (se_op (os_add h.c) (h.var) (se_int)) (sa_nil)))))))) (ss_nil)) (ss_one (ss_ret (h.blt (cs_maxL h.c) E.b_max rfl (sa_cons (h.lc false (own := [("k", 4)]) (by decide +kernel) (h.rng1 E.b_range (h.blt (cs_len h.c) E.b_len rfl (sa_cons (h.var) (sa_nil)))) (fun Y1 h1 => ⟨h1.tgt, sts_nil, h1.call G E.glo_law_best (sa_cons (h1.var) (sa_cons (h1.var) (sa_cons (se_op (os_add h1.c) (se_op (os_add h1.c) (se_slice h1.c (h1.var) (so_none) (so_some (h1.var))) (se_slice h1.c (h1.var) (so_some (se_op (os_add h1.c) (h1.var) (se_int))) (so_none))) (se_tup (sa_cons (se_ix h1.c (h1.var) (h1.var)) (sa_nil)))) (sa_cons (se_op (os_add h1.c) (h1.var) (se_int)) (sa_nil)))))⟩)) (sa_nil)))))))
theorem t_law_best {p : Pg} {a : Ad} (E : Fx p a) : ∀ j : Nat, DOk p (1 + j) 4 a.law_best (g_law_best j)
  | 0 => let ⟨_, F⟩ := E.f_law_best; (def_bad F S_law_best rfl (fun _ _ _ _ _ _ us hl => match us, hl with | [_, _, _, _], _ => rfl)).mono (Nat.zero_le _)
  | j + 1 => let ⟨_, F⟩ := E.f_law_best; def_ok F S_law_best rfl (fun _ _ _ _ _ _ us hl => match us, hl with | [_, _, _, _], _ => rfl) fun _ h => d_law_best E (t_law_best E j) h
def m_law_get : MS := sSeq (sSet 3 (eLc false (iIt (eOp dIx (eVar 0) (eC (.str "rows")))) (tName 5) (eB (eOp dEq (eOp dIx (eVar 5) (eC (.int 0))) (eVar 1))) (eVar 5) [5])) (sSeq (sAsg (eOp dAdd (eLc false (iIt (eOp dIx (eVar 0) (eC (.str "rows")))) (tName 5) (eB (eOp dNe (eOp dIx (eVar 5) (eC (.int 0))) (eVar 1))) (eVar 5) [5]) (eLc false (iIt (eVar 3)) (tName 5) (eB (eOp dEq (eOp dIx (eVar 5) (eC (.int 1))) (eVar 2))) (eVar 5) [5])) (tSub (eVar 0) (eC (.str "rows")))) (sSeq (sAsg (vAnd (eOp dNe (eVar 3) (eLst (eNil))) (eOp dEq (eOp dIx (eOp dIx (eVar 3) (eC (.int 0))) (eC (.int 1))) (eVar 2))) (tName 4)) (sSeq (sAsg (eTup (eCons (eOp dAdd (eOp dIx (eVar 0) (eC (.str "had"))) (eCB dInt (eCons (eVar 4) (eNil)))) (eCons (eOp dAdd (eOp dIx (eVar 0) (eC (.str "lacked"))) (eCB dInt (eCons (vNot (eVar 4)) (eNil)))) (eCons (eOp dAdd (eOp dIx (eVar 0) (eC (.str "saved"))) (eIf (eB (eVar 4)) (eOp dIx (eOp dIx (eVar 3) (eC (.int 0))) (eC (.int 3))) (eC (.int 0)))) (eNil))))) (tTup 3 (tCons (tSub (eVar 0) (eC (.str "had"))) (tCons (tSub (eVar 0) (eC (.str "lacked"))) (tCons (tSub (eVar 0) (eC (.str "saved"))) (tNil)))))) (sRet (eIf (eB (eVar 4)) (eOp dIx (eOp dIx (eVar 3) (eC (.int 0))) (eC (.int 2))) (eC .none))))))
def g_law_get : Fn := fnM N_law_get m_law_get
theorem d_law_get {p : Pg} {a : Ad} (E : Fx p a) {X : Cx} (h : XOk p N_law_get (defScope s_law_get) (fun _ => true) 0 X) : SSs p.w X (defBody s_law_get) m_law_get :=
  ss_cons (h.setLc false (own := [("row", 5)]) (by decide +kernel) (si_of h.c (se_ix h.c (h.var) (se_str))) (fun Y1 h1 => ⟨h1.tgt, sts_one (sb_cmp (os_eq h1.c) (se_ix h1.c (h1.var) (se_int)) (h1.var)), h1.var⟩)) (ss_cons (ss_asg (se_op (os_add h.c) (h.lc false (own := [("row", 5)]) (by decide +kernel) (si_of h.c (se_ix h.c (h.var) (se_str))) (fun Y1 h1 => ⟨h1.tgt, sts_one (sb_cmp (os_ne h1.c) (se_ix h1.c (h1.var) (se_int)) (h1.var)), h1.var⟩)) (h.lc false (own := [("row", 5)]) (by decide +kernel) (si_of h.c (h.var)) (fun Y1 h1 => ⟨h1.tgt, sts_one (sb_cmp (os_eq h1.c) (se_ix h1.c (h1.var) (se_int)) (h1.var)), h1.var⟩))) (sg_sub h.c (h.var) (se_str))) (ss_cons (ss_asg (se_and (se_cmp (os_ne h.c) (h.var) (se_lst (sa_nil))) (se_one (se_cmp (os_eq h.c) (se_ix h.c (se_ix h.c (h.var) (se_int)) (se_int)) (h.var)))) (h.tgt)) (ss_cons (h.asgT (se_tup (sa_cons (se_op (os_add h.c) (se_ix h.c (h.var) (se_str)) (h.ty (cs_int) E.b_int rfl (sa_cons (h.var) (sa_nil)))) (sa_cons (se_op (os_add h.c) (se_ix h.c (h.var) (se_str)) (h.ty (cs_int) E.b_int rfl (sa_cons (se_not (h.var)) (sa_nil)))) (sa_cons (se_op (os_add h.c) (se_ix h.c (h.var) (se_str)) (se_if (sb_val (h.var)) (se_ix h.c (se_ix h.c (h.var) (se_int)) (se_int)) (se_int))) (sa_nil))))) (sg_tup h.c (sgs_cons (sg_sub h.c (h.var) (se_str)) (sgs_cons (sg_sub h.c (h.var) (se_str)) (sgs_cons (sg_sub h.c (h.var) (se_str)) (sgs_nil)))))) (ss_one (ss_ret (se_if (sb_val (h.var)) (se_ix h.c (se_ix h.c (h.var) (se_int)) (se_int)) (se_non)))))))
theorem t_law_get {p : Pg} {a : Ad} (E : Fx p a) : DOk p 1 3 a.law_get g_law_get := by
  obtain ⟨_, F⟩ := E.f_law_get
  exact def_ok F S_law_get rfl (fun _ _ _ _ _ _ us hl => match us, hl with | [_, _, _], _ => rfl) fun _ h => d_law_get E h
theorem t_law_told {p : Pg} {a : Ad} (E : Fx p a) : ToldOk p "_law_told" "what" "KeepError" "KeepError" a.law_told isE := let ⟨_, F⟩ := E.f_law_told; told_ok F S_law_told E.glo_law_told E.e_KeepError.mg E.x_told
def lamT : Nat → LamR
  | 0 => lamR "_law_plain.<locals>." (subE (stmE ((defBody s_law_plain).getD 5 (.Pass ⟨0, 0, 0, 0⟩))) 0)
  | 1 => lamR "_law_plain.<locals>." (subE (stmE ((defBody s_law_plain).getD 5 (.Pass ⟨0, 0, 0, 0⟩))) 1)
  | 2 => lamR "_law_plain.<locals>." (subE (stmE ((defBody s_law_plain).getD 5 (.Pass ⟨0, 0, 0, 0⟩))) 2)
  | 3 => lamR "_law_plain.<locals>." (subE (stmE ((defBody s_law_plain).getD 5 (.Pass ⟨0, 0, 0, 0⟩))) 3)
  | 4 => lamR "_law_plain.<locals>." (subE (stmE ((defBody s_law_plain).getD 5 (.Pass ⟨0, 0, 0, 0⟩))) 4)
  | 5 => lamR "_law_plain.<locals>." (subE (subE (stmE ((defBody s_law_plain).getD 6 (.Pass ⟨0, 0, 0, 0⟩))) 1) 0)
  | 6 => lamR "_law_plain.<locals>." (subE (subE (stmE ((defBody s_law_plain).getD 6 (.Pass ⟨0, 0, 0, 0⟩))) 1) 1)
  | 7 => lamR "_law_plain.<locals>." (subE (subE (stmE ((defBody s_law_plain).getD 6 (.Pass ⟨0, 0, 0, 0⟩))) 1) 2)
  | _ => lamR "" noE
def ms : Nat → M D
  | 0 => eMake 0 2 g_AnswerKeep_init (eCons (eC (.int 0)) (eNil))
  | 1 => eMeth 0 5 "put" g_AnswerKeep_put (eVar 0) (eCons (eC (.str "a")) (eCons (eC (.int 1)) (eCons (eC .none) (eCons (eC (.int 1)) (eNil)))))
  | 2 => eMeth 0 5 "put" g_AnswerKeep_put (eVar 0) (eCons (eC (.str "a")) (eCons (eC (.int 1)) (eCons (eC (.str "x")) (eCons (eNeg (eC (.int 1))) (eNil)))))
  | 3 => eMake 1 3 g_TwoKeep_init (eCons (eC (.int 0)) (eCons (eC (.int 1)) (eNil)))
  | 4 => eMake 1 3 g_TwoKeep_init (eCons (eC (.int 1)) (eCons (eC (.int 0)) (eNil)))
  | 5 => eMeth 1 5 "put" g_TwoKeep_put (eVar 1) (eCons (eC (.str "zz")) (eCons (eC (.int 1)) (eCons (eC .none) (eCons (eC (.int 1)) (eNil)))))
  | 6 => eCall 2 g_best_kept (eCons (eC (.str "a")) (eCons (eC (.int 0)) (eNil)))
  | 7 => eCall 2 g_lasting_kept (eCons (eC (.str "a")) (eCons (eC (.int 0)) (eNil)))
  | _ => bad
theorem lo_0 {p : Pg} {a : Ad} (E : Fx p a) {X : Cx} {fs : PySem.Str → Bool} {k : Nat} (h : XOk p N_law_plain (defScope s_law_plain) fs k X) (m : MkrOk p X "_law_plain.<locals>.") : LamOk p.w X 4 (lamT 0) (ms 0) :=
  h.lamOk m rfl (by decide +kernel) (fun _ _ _ _ _ => rfl) fun _ h => h.make E.mk_AnswerKeep (t_AnswerKeep_init E) E.gc_AnswerKeep (sa_cons (se_int) (sa_nil))
theorem lo_1 {p : Pg} {a : Ad} (E : Fx p a) {X : Cx} {fs : PySem.Str → Bool} {k : Nat} (h : XOk p N_law_plain (defScope s_law_plain) fs k X) (m : MkrOk p X "_law_plain.<locals>.") : LamOk p.w X 4 (lamT 1) (ms 1) :=
  h.lamOk m rfl (by decide +kernel) (fun _ _ _ _ _ => rfl) fun _ h => h.meth E.m_AnswerKeep_put (t_AnswerKeep_put E) (h.var) (sa_cons (se_str) (sa_cons (se_int) (sa_cons (se_non) (sa_cons (se_int) (sa_nil)))))
theorem lo_2 {p : Pg} {a : Ad} (E : Fx p a) {X : Cx} {fs : PySem.Str → Bool} {k : Nat} (h : XOk p N_law_plain (defScope s_law_plain) fs k X) (m : MkrOk p X "_law_plain.<locals>.") : LamOk p.w X 4 (lamT 2) (ms 2) :=
  h.lamOk m rfl (by decide +kernel) (fun _ _ _ _ _ => rfl) fun _ h => h.meth E.m_AnswerKeep_put (t_AnswerKeep_put E) (h.var) (sa_cons (se_str) (sa_cons (se_int) (sa_cons (se_str) (sa_cons (se_neg (se_int)) (sa_nil)))))
theorem lo_3 {p : Pg} {a : Ad} (E : Fx p a) {X : Cx} {fs : PySem.Str → Bool} {k : Nat} (h : XOk p N_law_plain (defScope s_law_plain) fs k X) (m : MkrOk p X "_law_plain.<locals>.") : LamOk p.w X 4 (lamT 3) (ms 3) :=
  h.lamOk m rfl (by decide +kernel) (fun _ _ _ _ _ => rfl) fun _ h => h.make E.mk_TwoKeep (t_TwoKeep_init E) E.gc_TwoKeep (sa_cons (se_int) (sa_cons (se_int) (sa_nil)))
theorem lo_4 {p : Pg} {a : Ad} (E : Fx p a) {X : Cx} {fs : PySem.Str → Bool} {k : Nat} (h : XOk p N_law_plain (defScope s_law_plain) fs k X) (m : MkrOk p X "_law_plain.<locals>.") : LamOk p.w X 4 (lamT 4) (ms 4) :=
  h.lamOk m rfl (by decide +kernel) (fun _ _ _ _ _ => rfl) fun _ h => h.make E.mk_TwoKeep (t_TwoKeep_init E) E.gc_TwoKeep (sa_cons (se_int) (sa_cons (se_int) (sa_nil)))
theorem lo_5 {p : Pg} {a : Ad} (E : Fx p a) {X : Cx} {fs : PySem.Str → Bool} {k : Nat} (h : XOk p N_law_plain (defScope s_law_plain) fs k X) (m : MkrOk p X "_law_plain.<locals>.") : LamOk p.w X 4 (lamT 5) (ms 5) :=
  h.lamOk m rfl (by decide +kernel) (fun _ _ _ _ _ => rfl) fun _ h => h.meth E.m_TwoKeep_put (t_TwoKeep_put E) (h.var) (sa_cons (se_str) (sa_cons (se_int) (sa_cons (se_non) (sa_cons (se_int) (sa_nil)))))
theorem lo_6 {p : Pg} {a : Ad} (E : Fx p a) {X : Cx} {fs : PySem.Str → Bool} {k : Nat} (h : XOk p N_law_plain (defScope s_law_plain) fs k X) (m : MkrOk p X "_law_plain.<locals>.") : LamOk p.w X 4 (lamT 6) (ms 6) :=
  h.lamOk m rfl (by decide +kernel) (fun _ _ _ _ _ => rfl) fun _ h => h.call (t_best_kept E) E.glo_best_kept (sa_cons (se_str) (sa_cons (se_int) (sa_nil)))
theorem lo_7 {p : Pg} {a : Ad} (E : Fx p a) {X : Cx} {fs : PySem.Str → Bool} {k : Nat} (h : XOk p N_law_plain (defScope s_law_plain) fs k X) (m : MkrOk p X "_law_plain.<locals>.") : LamOk p.w X 4 (lamT 7) (ms 7) :=
  h.lamOk m rfl (by decide +kernel) (fun _ _ _ _ _ => rfl) fun _ h => h.call (t_lasting_kept E) E.glo_lasting_kept (sa_cons (se_str) (sa_cons (se_int) (sa_nil)))
theorem hlAll {p : Pg} {a : Ad} (E : Fx p a) {X : Cx} {fs : PySem.Str → Bool} {k : Nat} (h : XOk p N_law_plain (defScope s_law_plain) fs k X) (m : MkrOk p X "_law_plain.<locals>.") (hl : p.w.lam = lamT) : ∀ j, j < 8 → LamOk p.w X 4 (p.w.lam j) (ms j) := by
  rw [hl]
  intro j hj
  match j, hj with
  | 0, _ => exact lo_0 E h m
  | 1, _ => exact lo_1 E h m
  | 2, _ => exact lo_2 E h m
  | 3, _ => exact lo_3 E h m
  | 4, _ => exact lo_4 E h m
  | 5, _ => exact lo_5 E h m
  | 6, _ => exact lo_6 E h m
  | 7, _ => exact lo_7 E h m
def m_law_plain : MS := sSeq (sAsg (eTup (eCons (eMake 0 2 g_AnswerKeep_init (eCons (eC (.int 2)) (eNil))) (eCons (eMake 1 3 g_TwoKeep_init (eCons (eC (.int 2)) (eCons (eC (.int 1)) (eNil)))) (eNil)))) (tTup 2 (tCons (tName 0) (tCons (tName 1) (tNil))))) (sSeq (sAsg (eLst (eCons (eMeth 0 3 "get" g_AnswerKeep_get (eVar 0) (eCons (eC (.str "a")) (eCons (eC (.int 1)) (eNil)))) (eCons (eMeth 0 5 "put" g_AnswerKeep_put (eVar 0) (eCons (eC (.str "a")) (eCons (eC (.int 1)) (eCons (eC (.str "x")) (eCons (eC (.int 5)) (eNil)))))) (eCons (eMeth 0 5 "put" g_AnswerKeep_put (eVar 0) (eCons (eC (.str "b")) (eCons (eC (.int 1)) (eCons (eC (.str "y")) (eCons (eC (.int 3)) (eNil)))))) (eCons (eMeth 0 3 "get" g_AnswerKeep_get (eVar 0) (eCons (eC (.str "a")) (eCons (eC (.int 1)) (eNil)))) (eCons (eMeth 0 5 "put" g_AnswerKeep_put (eVar 0) (eCons (eC (.str "c")) (eCons (eC (.int 1)) (eCons (eC (.str "z")) (eCons (eC (.int 1)) (eNil)))))) (eCons (eMeth 0 1 "keep_lines" g_AnswerKeep_keep_lines (eVar 0) eNil) (eNil)))))))) (tName 2)) (sSeq (sAsg (eOp dAdd (eVar 2) (eLst (eCons (eMeth 0 3 "get" g_AnswerKeep_get (eVar 0) (eCons (eC (.str "b")) (eCons (eC (.int 1)) (eNil)))) (eCons (eMeth 0 3 "get" g_AnswerKeep_get (eVar 0) (eCons (eC (.str "a")) (eCons (eC (.int 2)) (eNil)))) (eCons (eMeth 0 3 "get" g_AnswerKeep_get (eVar 0) (eCons (eC (.str "a")) (eCons (eC (.int 1)) (eNil)))) (eCons (eMeth 0 1 "hit_share" g_AnswerKeep_hit_share (eVar 0) eNil) (eCons (eFld 2 "saved" (eVar 0)) (eCons (eMeth 0 5 "put" g_AnswerKeep_put (eVar 0) (eCons (eC (.str "d")) (eCons (eC (.int 2)) (eCons (eC (.str "w")) (eCons (eC (.int 0)) (eNil)))))) (eCons (eMeth 0 2 "sweep" g_AnswerKeep_sweep (eVar 0) (eCons (eC (.int 2)) (eNil))) (eCons (eMeth 0 1 "keep_lines" g_AnswerKeep_keep_lines (eVar 0) eNil) (eNil))))))))))) (tName 2)) (sSeq (sAsg (eOp dAdd (eVar 2) (eLst (eCons (eMeth 0 1 "hit_share" g_AnswerKeep_hit_share (eMake 0 2 g_AnswerKeep_init (eCons (eC (.int 1)) (eNil))) eNil) (eNil)))) (tName 2)) (sSeq (sAsg (eOp dAdd (eVar 2) (eLst (eCons (eMeth 1 5 "put" g_TwoKeep_put (eVar 1) (eCons (eC (.str "a")) (eCons (eC (.int 1)) (eCons (eC (.str "x")) (eCons (eC (.int 1)) (eNil)))))) (eCons (eMeth 1 5 "put" g_TwoKeep_put (eVar 1) (eCons (eC (.str "b")) (eCons (eC (.int 1)) (eCons (eC (.str "y")) (eCons (eC (.int 1)) (eNil)))))) (eCons (eMeth 1 3 "get" g_TwoKeep_get (eVar 1) (eCons (eC (.str "a")) (eCons (eC (.int 1)) (eNil)))) (eCons (eMeth 1 1 "kept_keys" g_TwoKeep_kept_keys (eVar 1) eNil) (eCons (eMeth 1 3 "get" g_TwoKeep_get (eVar 1) (eCons (eC (.str "b")) (eCons (eC (.int 1)) (eNil)))) (eCons (eMeth 1 1 "kept_keys" g_TwoKeep_kept_keys (eVar 1) eNil) (eCons (eMeth 1 5 "put" g_TwoKeep_put (eVar 1) (eCons (eC (.str "b")) (eCons (eC (.int 2)) (eCons (eC (.str "q")) (eCons (eC (.int 1)) (eNil)))))) (eCons (eMeth 1 3 "get" g_TwoKeep_get (eVar 1) (eCons (eC (.str "b")) (eCons (eC (.int 2)) (eNil)))) (eCons (eMeth 1 3 "get" g_TwoKeep_get (eVar 1) (eCons (eC (.str "a")) (eCons (eC (.int 9)) (eNil)))) (eCons (eMeth 1 1 "kept_keys" g_TwoKeep_kept_keys (eVar 1) eNil) (eCons (eCall 2 g_best_kept (eCons (eC (.str "abcabc")) (eCons (eC (.int 2)) (eNil)))) (eCons (eCall 2 g_lasting_kept (eCons (eC (.str "abcabc")) (eCons (eC (.int 2)) (eNil)))) (eCons (eCall 2 g_lasting_kept (eCons (eC (.str "abab")) (eCons (eC (.int 2)) (eNil)))) (eCons (eCall 3 g_next_place (eCons (eC (.str "abc")) (eCons (eC (.int 1)) (eCons (eC (.str "c")) (eNil))))) (eCons (eCall 3 g_next_place (eCons (eC (.str "abc")) (eCons (eC (.int 1)) (eCons (eC (.str "a")) (eNil))))) (eCons (eCall 2 g_plain_key (eCons (eTup (eCons (eC (.str "b")) (eCons (eC (.str "a")) (eCons (eC (.str "b")) (eNil))))) (eCons (eC (.str "x")) (eNil)))) (eNil))))))))))))))))))) (tName 2)) (sSeq (sAsg (eLst (eCons (eLam 0) (eCons (eLam 1) (eCons (eLam 2) (eCons (eLam 3) (eCons (eLam 4) (eNil))))))) (tName 3)) (sSeq (sAsg (eOp dAdd (eVar 3) (eLst (eCons (eLam 5) (eCons (eLam 6) (eCons (eLam 7) (eNil)))))) (tName 3)) (sSeq (sIf (eB (eOp dNe (eLcM false (iEnuA (eVar 3)) (tTup 2 (tCons (tName 5) (tCons (tName 6) (tNil)))) (tTold isE "KeepError" "KeepError" 8 ms 6) (eVar 5) [5, 6]) (eLst (eNil)))) (sRet (eC (.bool false))) (sNext)) (sSeq (sAsg (eLst (eCons (eC .none) (eCons (eTup (eNil)) (eCons (eTup (eNil)) (eCons (eC (.str "x")) (eCons (eTup (eCons (eC (.str "b")) (eNil))) (eCons (eTup (eCons (eC (.str "a 1 5")) (eCons (eC (.str "c 1 1")) (eNil)))) (eCons (eC .none) (eCons (eC .none) (eCons (eC .none) (eCons (eC (.int 200)) (eCons (eC (.int 5)) (eCons (eTup (eNil)) (eCons (eC (.int 1)) (eCons (eTup (eCons (eC (.str "d 2 0")) (eNil))) (eCons (eC (.int 0)) (eCons (eC .none) (eCons (eC .none) (eCons (eC (.str "x")) (eCons (eTup (eCons (eTup (eCons (eC (.str "b")) (eNil))) (eCons (eTup (eCons (eC (.str "a")) (eNil))) (eNil)))) (eCons (eC (.str "y")) (eCons (eTup (eCons (eTup (eCons (eC (.str "a")) (eNil))) (eCons (eTup (eCons (eC (.str "b")) (eNil))) (eNil)))) (eCons (eC .none) (eCons (eC (.str "q")) (eCons (eC .none) (eCons (eTup (eCons (eTup (eNil)) (eCons (eTup (eCons (eC (.str "b")) (eNil))) (eNil)))) (eCons (eC (.int 2)) (eCons (eC (.int 0)) (eCons (eC (.int 2)) (eCons (eC (.int 2)) (eCons (eC (.int 3)) (eCons (eC (.str "a b|x")) (eNil))))))))))))))))))))))))))))))))) (tName 4)) (sRet (eOp dEq (eVar 2) (eVar 4)))))))))))
theorem d_law_plain {p : Pg} {a : Ad} (E : Fx p a) {X : Cx} (h : XOk p N_law_plain (defScope s_law_plain) (fun _ => true) 6 X) (m : MkrOk p X "_law_plain.<locals>.") (hl : p.w.lam = lamT) (T0 : ToldOk p "_law_told" "what" "KeepError" "KeepError" a.law_told isE) : SSs p.w X (defBody s_law_plain) m_law_plain :=
  ss_cons (h.asgT (se_tup (sa_cons (h.make E.mk_AnswerKeep (t_AnswerKeep_init E) E.gc_AnswerKeep (sa_cons (se_int) (sa_nil))) (sa_cons (h.make E.mk_TwoKeep (t_TwoKeep_init E) E.gc_TwoKeep (sa_cons (se_int) (sa_cons (se_int) (sa_nil)))) (sa_nil)))) (sg_tup h.c (sgs_cons (h.tgt) (sgs_cons (h.tgt) (sgs_nil))))) (ss_cons (ss_asg (se_lst (sa_cons (h.meth E.m_AnswerKeep_get (t_AnswerKeep_get E) (h.var) (sa_cons (se_str) (sa_cons (se_int) (sa_nil)))) (sa_cons (h.meth E.m_AnswerKeep_put (t_AnswerKeep_put E) (h.var) (sa_cons (se_str) (sa_cons (se_int) (sa_cons (se_str) (sa_cons (se_int) (sa_nil)))))) (sa_cons (h.meth E.m_AnswerKeep_put (t_AnswerKeep_put E) (h.var) (sa_cons (se_str) (sa_cons (se_int) (sa_cons (se_str) (sa_cons (se_int) (sa_nil)))))) (sa_cons (h.meth E.m_AnswerKeep_get (t_AnswerKeep_get E) (h.var) (sa_cons (se_str) (sa_cons (se_int) (sa_nil)))) (sa_cons (h.meth E.m_AnswerKeep_put (t_AnswerKeep_put E) (h.var) (sa_cons (se_str) (sa_cons (se_int) (sa_cons (se_str) (sa_cons (se_int) (sa_nil)))))) (sa_cons (h.meth0 E.m_AnswerKeep_keep_lines (t_AnswerKeep_keep_lines E) (h.var)) (sa_nil)))))))) (h.tgt)) (ss_cons (ss_asg (se_op (os_add h.c) (h.var) (se_lst (sa_cons (h.meth E.m_AnswerKeep_get (t_AnswerKeep_get E) (h.var) (sa_cons (se_str) (sa_cons (se_int) (sa_nil)))) (sa_cons (h.meth E.m_AnswerKeep_get (t_AnswerKeep_get E) (h.var) (sa_cons (se_str) (sa_cons (se_int) (sa_nil)))) (sa_cons (h.meth E.m_AnswerKeep_get (t_AnswerKeep_get E) (h.var) (sa_cons (se_str) (sa_cons (se_int) (sa_nil)))) (sa_cons (h.meth0 E.m_AnswerKeep_hit_share (t_AnswerKeep_hit_share E) (h.var)) (sa_cons (se_fld h.c E.fld_saved (h.var)) (sa_cons (h.meth E.m_AnswerKeep_put (t_AnswerKeep_put E) (h.var) (sa_cons (se_str) (sa_cons (se_int) (sa_cons (se_str) (sa_cons (se_int) (sa_nil)))))) (sa_cons (h.meth E.m_AnswerKeep_sweep (t_AnswerKeep_sweep E) (h.var) (sa_cons (se_int) (sa_nil))) (sa_cons (h.meth0 E.m_AnswerKeep_keep_lines (t_AnswerKeep_keep_lines E) (h.var)) (sa_nil))))))))))) (h.tgt)) (ss_cons (ss_asg (se_op (os_add h.c) (h.var) (se_lst (sa_cons (h.meth0 E.m_AnswerKeep_hit_share (t_AnswerKeep_hit_share E) (h.make E.mk_AnswerKeep (t_AnswerKeep_init E) E.gc_AnswerKeep (sa_cons (se_int) (sa_nil)))) (sa_nil)))) (h.tgt)) (ss_cons (ss_asg (se_op (os_add h.c) (h.var) (se_lst (sa_cons (h.meth E.m_TwoKeep_put (t_TwoKeep_put E) (h.var) (sa_cons (se_str) (sa_cons (se_int) (sa_cons (se_str) (sa_cons (se_int) (sa_nil)))))) (sa_cons (h.meth E.m_TwoKeep_put (t_TwoKeep_put E) (h.var) (sa_cons (se_str) (sa_cons (se_int) (sa_cons (se_str) (sa_cons (se_int) (sa_nil)))))) (sa_cons (h.meth E.m_TwoKeep_get (t_TwoKeep_get E) (h.var) (sa_cons (se_str) (sa_cons (se_int) (sa_nil)))) (sa_cons (h.meth0 E.m_TwoKeep_kept_keys (t_TwoKeep_kept_keys E) (h.var)) (sa_cons (h.meth E.m_TwoKeep_get (t_TwoKeep_get E) (h.var) (sa_cons (se_str) (sa_cons (se_int) (sa_nil)))) (sa_cons (h.meth0 E.m_TwoKeep_kept_keys (t_TwoKeep_kept_keys E) (h.var)) (sa_cons (h.meth E.m_TwoKeep_put (t_TwoKeep_put E) (h.var) (sa_cons (se_str) (sa_cons (se_int) (sa_cons (se_str) (sa_cons (se_int) (sa_nil)))))) (sa_cons (h.meth E.m_TwoKeep_get (t_TwoKeep_get E) (h.var) (sa_cons (se_str) (sa_cons (se_int) (sa_nil)))) (sa_cons (h.meth E.m_TwoKeep_get (t_TwoKeep_get E) (h.var) (sa_cons (se_str) (sa_cons (se_int) (sa_nil)))) (sa_cons (h.meth0 E.m_TwoKeep_kept_keys (t_TwoKeep_kept_keys E) (h.var)) (sa_cons (h.call (t_best_kept E) E.glo_best_kept (sa_cons (se_str) (sa_cons (se_int) (sa_nil)))) (sa_cons (h.call (t_lasting_kept E) E.glo_lasting_kept (sa_cons (se_str) (sa_cons (se_int) (sa_nil)))) (sa_cons (h.call (t_lasting_kept E) E.glo_lasting_kept (sa_cons (se_str) (sa_cons (se_int) (sa_nil)))) (sa_cons (h.call (t_next_place E) E.glo_next_place (sa_cons (se_str) (sa_cons (se_int) (sa_cons (se_str) (sa_nil))))) (sa_cons (h.call (t_next_place E) E.glo_next_place (sa_cons (se_str) (sa_cons (se_int) (sa_cons (se_str) (sa_nil))))) (sa_cons (h.call (t_plain_key E) E.glo_plain_key (sa_cons (se_tup (sa_cons (se_str) (sa_cons (se_str) (sa_cons (se_str) (sa_nil))))) (sa_cons (se_str) (sa_nil)))) (sa_nil))))))))))))))))))) (h.tgt)) (ss_cons (ss_asg (se_lst (sa_cons (h.lam m (j := 0) (by rw [hl]; rfl)) (sa_cons (h.lam m (j := 1) (by rw [hl]; rfl)) (sa_cons (h.lam m (j := 2) (by rw [hl]; rfl)) (sa_cons (h.lam m (j := 3) (by rw [hl]; rfl)) (sa_cons (h.lam m (j := 4) (by rw [hl]; rfl)) (sa_nil))))))) (h.tgt)) (ss_cons (ss_asg (se_op (os_add h.c) (h.var) (se_lst (sa_cons (h.lam m (j := 5) (by rw [hl]; rfl)) (sa_cons (h.lam m (j := 6) (by rw [hl]; rfl)) (sa_cons (h.lam m (j := 7) (by rw [hl]; rfl)) (sa_nil)))))) (h.tgt)) (ss_cons (ss_if (sb_cmp (os_ne h.c) (h.bads m T0 (hlAll E h m hl) (by decide) (own := [("k", 5), ("f", 6)]) false (by decide +kernel) (h.enuA E.b_enumerate (h.var)) (fun Y1 h1 => ⟨sg_tup h1.c (sgs_cons (h1.tgt) (sgs_cons (h1.tgt) (sgs_nil))), h1.var⟩)) (se_lst (sa_nil))) (ss_one (ss_ret (se_bl))) (ss_nil)) (ss_cons (ss_asg (se_lst (sa_cons (se_non) (sa_cons (se_tup (sa_nil)) (sa_cons (se_tup (sa_nil)) (sa_cons (se_str) (sa_cons (se_tup (sa_cons (se_str) (sa_nil))) (sa_cons (se_tup (sa_cons (se_str) (sa_cons (se_str) (sa_nil)))) (sa_cons (se_non) (sa_cons (se_non) (sa_cons (se_non) (sa_cons (se_int) (sa_cons (se_int) (sa_cons (se_tup (sa_nil)) (sa_cons (se_int) (sa_cons (se_tup (sa_cons (se_str) (sa_nil))) (sa_cons (se_int) (sa_cons (se_non) (sa_cons (se_non) (sa_cons (se_str) (sa_cons (se_tup (sa_cons (se_tup (sa_cons (se_str) (sa_nil))) (sa_cons (se_tup (sa_cons (se_str) (sa_nil))) (sa_nil)))) (sa_cons (se_str) (sa_cons (se_tup (sa_cons (se_tup (sa_cons (se_str) (sa_nil))) (sa_cons (se_tup (sa_cons (se_str) (sa_nil))) (sa_nil)))) (sa_cons (se_non) (sa_cons (se_str) (sa_cons (se_non) (sa_cons (se_tup (sa_cons (se_tup (sa_nil)) (sa_cons (se_tup (sa_cons (se_str) (sa_nil))) (sa_nil)))) (sa_cons (se_int) (sa_cons (se_int) (sa_cons (se_int) (sa_cons (se_int) (sa_cons (se_int) (sa_cons (se_str) (sa_nil))))))))))))))))))))))))))))))))) (h.tgt)) (ss_one (ss_ret (se_cmp (os_eq h.c) (h.var) (h.var))))))))))))
abbrev f_law : Stmt := (defBody s_law).getD 0 (.Pass ⟨0, 0, 0, 0⟩)
def m_law : MS := sFor (iIt (eCall 2 g_law_rounds (eCons (eVar 0) (eCons (eC (.int 1)) (eNil))))) (tName 1) (sSeq (sAsg (eOp dAdd (eC (.int 1)) (eCall 2 (g_law_roll 3) (eCons (eVar 1) (eCons (eC (.int 4)) (eNil))))) (tName 2)) (sSeq (sPar 3 4 (eCons (eMake 0 2 g_AnswerKeep_init (eCons (eVar 2) (eNil))) (eCons (eDisp [(eC (.str "rows"), eLst (eNil)), (eC (.str "had"), eC (.int 0)), (eC (.str "lacked"), eC (.int 0)), (eC (.str "saved"), eC (.int 0))]) (eNil)))) (sSeq (sFor (iRng1 (eCall 2 (g_law_roll 3) (eCons (eVar 1) (eCons (eC (.int 30)) (eNil))))) (tName 5) (sSeq (sAsg (eTup (eCons (eOp dIx (eC (.str "abcdef")) (eCall 2 (g_law_roll 3) (eCons (eVar 1) (eCons (eC (.int 6)) (eNil))))) (eCons (eCall 2 (g_law_roll 3) (eCons (eVar 1) (eCons (eC (.int 2)) (eNil)))) (eCons (eCall 2 (g_law_roll 3) (eCons (eVar 1) (eCons (eC (.int 9)) (eNil)))) (eCons (eCall 2 (g_law_roll 3) (eCons (eVar 1) (eCons (eC (.int 9)) (eNil)))) (eNil)))))) (tTup 4 (tCons (tName 6) (tCons (tName 7) (tCons (tName 8) (tCons (tName 9) (tNil))))))) (sSeq (sIf (eB (eOp dLt (eVar 8) (eC (.int 4)))) (sIf (eB (eOp dNe (eMeth 0 3 "get" g_AnswerKeep_get (eVar 3) (eCons (eVar 6) (eCons (eVar 7) (eNil)))) (eCall 3 g_law_get (eCons (eVar 4) (eCons (eVar 6) (eCons (eVar 7) (eNil))))))) (sRet (eC (.bool false))) (sNext)) (sIf (eB (eOp dLt (eVar 8) (eC (.int 8)))) (sSeq (sAsg (eOp dAdd (eLc false (iIt (eOp dIx (eVar 4) (eC (.str "rows")))) (tName 21) (eB (eOp dNe (eOp dIx (eVar 21) (eC (.int 0))) (eVar 6))) (eVar 21) [21]) (eLst (eCons (eTup (eCons (eVar 6) (eCons (eVar 7) (eCons (eVar 5) (eCons (eVar 9) (eNil)))))) (eNil)))) (tName 10)) (sSeq (sIf (eB (eOp dNe (eCB dList (eCons (eMeth 0 5 "put" g_AnswerKeep_put (eVar 3) (eCons (eVar 6) (eCons (eVar 7) (eCons (eVar 5) (eCons (eVar 9) (eNil)))))) (eNil))) (eLc false (iIt (eSl (eVar 10) (oNone) (oSome (eCB dMax2 (eCons (eC (.int 0)) (eCons (eOp dSub (eCB dLen (eCons (eVar 10) (eNil))) (eVar 2)) (eNil))))))) (tName 21) (tTrue) (eOp dIx (eVar 21) (eC (.int 0))) [21]))) (sRet (eC (.bool false))) (sNext)) (sAsg (eSl (eVar 10) (oSome (eCB dMax2 (eCons (eC (.int 0)) (eCons (eOp dSub (eCB dLen (eCons (eVar 10) (eNil))) (eVar 2)) (eNil))))) (oNone)) (tSub (eVar 4) (eC (.str "rows")))))) (sSeq (sSet 11 (eLc false (iIt (eOp dIx (eVar 4) (eC (.str "rows")))) (tName 21) (eB (eOp dEq (eOp dIx (eVar 21) (eC (.int 1))) (eVar 7))) (eVar 21) [21])) (sSeq (sIf (eB (eOp dNe (eMeth 0 2 "sweep" g_AnswerKeep_sweep (eVar 3) (eCons (eVar 7) (eNil))) (eOp dSub (eCB dLen (eCons (eOp dIx (eVar 4) (eC (.str "rows"))) (eNil))) (eCB dLen (eCons (eVar 11) (eNil)))))) (sRet (eC (.bool false))) (sNext)) (sAsg (eVar 11) (tSub (eVar 4) (eC (.str "rows")))))))) (sSeq (sIf (mOr (eB (eOp dNe (eLock (eFld 2 "rows" (eVar 3)) (eLc false (iItems (eFld 2 "rows" (eVar 3))) (tTup 2 (tCons (tName 22) (tCons (tName 21) (tNil)))) (tTrue) (eOp dAdd (eTup (eCons (eVar 22) (eNil))) (eVar 21)) [22, 21])) (eOp dIx (eVar 4) (eC (.str "rows"))))) (eB (eOp dNe (eTup (eCons (eFld 2 "had" (eVar 3)) (eCons (eFld 2 "lacked" (eVar 3)) (eCons (eFld 2 "saved" (eVar 3)) (eNil))))) (eTup (eCons (eOp dIx (eVar 4) (eC (.str "had"))) (eCons (eOp dIx (eVar 4) (eC (.str "lacked"))) (eCons (eOp dIx (eVar 4) (eC (.str "saved"))) (eNil)))))))) (sRet (eC (.bool false))) (sNext)) (sIf (mOr (eB (eOp dNe (eCB dList (eCons (eMeth 0 1 "keep_lines" g_AnswerKeep_keep_lines (eVar 3) eNil) (eNil))) (eLc false (iIt (eOp dIx (eVar 4) (eC (.str "rows")))) (tName 21) (tTrue) (eOp dAdd (eOp dAdd (eOp dAdd (eOp dAdd (eOp dIx (eVar 21) (eC (.int 0))) (eC (.str " "))) (eCB dStr (eCons (eOp dIx (eVar 21) (eC (.int 1))) (eNil)))) (eC (.str " "))) (eCB dStr (eCons (eOp dIx (eVar 21) (eC (.int 3))) (eNil)))) [21]))) (eB (eOp dNe (eMeth 0 1 "hit_share" g_AnswerKeep_hit_share (eVar 3) eNil) (eIf (eB (eOp dGt (eOp dAdd (eOp dIx (eVar 4) (eC (.str "had"))) (eOp dIx (eVar 4) (eC (.str "lacked")))) (eC (.int 0)))) (eOp dDiv (eOp dMul (eC (.int 1000)) (eOp dIx (eVar 4) (eC (.str "had")))) (eOp dAdd (eOp dIx (eVar 4) (eC (.str "had"))) (eOp dIx (eVar 4) (eC (.str "lacked"))))) (eC (.int 0)))))) (sRet (eC (.bool false))) (sNext)))))) (sSeq (sAsg (eLc false (iRng1 (eCall 2 (g_law_roll 3) (eCons (eVar 1) (eCons (eC (.int 9)) (eNil))))) (tName 23) (tTrue) (eOp dIx (eC (.str "abcd")) (eCall 2 (g_law_roll 3) (eCons (eVar 1) (eCons (eC (.int 4)) (eNil))))) [23]) (tName 12)) (sSeq (sAsg (eOp dAdd (eC (.int 1)) (eCall 2 (g_law_roll 3) (eCons (eVar 1) (eCons (eC (.int 3)) (eNil))))) (tName 13)) (sSeq (sIf (mOr (eB (eOp dNe (eCall 2 g_best_kept (eCons (eVar 12) (eCons (eVar 13) (eNil)))) (eCall 4 (g_law_best 10) (eCons (eVar 12) (eCons (eVar 13) (eCons (eTup (eNil)) (eCons (eC (.int 0)) (eNil)))))))) (eB (eOp dGt (eCall 2 g_lasting_kept (eCons (eVar 12) (eCons (eVar 13) (eNil)))) (eCall 2 g_best_kept (eCons (eVar 12) (eCons (eVar 13) (eNil))))))) (sRet (eC (.bool false))) (sNext)) (sSeq (sSet 14 (eLc false (iRng1 (eCB dLen (eCons (eVar 12) (eNil)))) (tName 23) (eB (eOp dIn (eOp dIx (eVar 12) (eVar 23)) (eSl (eVar 12) (oNone) (oSome (eVar 23))))) (eCB dLen (eCons (eCB dDictP (eCons (eLc false (iIt (eSl (eVar 12) (oSome (eCB dMaxL (eCons (eLc false (iRng1 (eVar 23)) (tName 24) (eB (eOp dEq (eOp dIx (eVar 12) (eVar 24)) (eOp dIx (eVar 12) (eVar 23)))) (eVar 24) [24]) (eNil)))) (oSome (eVar 23)))) (tName 25) (tTrue) (eTup (eCons (eVar 25) (eCons (eC (.int 1)) (eNil)))) [25]) (eNil))) (eNil))) [23])) (sSeq (sIf (eB (eOp dNe (eCall 2 g_lasting_kept (eCons (eVar 12) (eCons (eVar 13) (eNil)))) (eCB dLen (eCons (eLc false (iIt (eVar 14)) (tName 26) (eB (eOp dLe (eVar 26) (eVar 13))) (eC (.int 1)) [26]) (eNil))))) (sRet (eC (.bool false))) (sNext)) (sSeq (sAsg (eTup (eCons (eMake 1 3 g_TwoKeep_init (eCons (eVar 13) (eCons (eC (.int 1)) (eNil)))) (eCons (eLst (eNil)) (eCons (eLst (eNil)) (eCons (eC (.int 0)) (eNil)))))) (tTup 4 (tCons (tName 15) (tCons (tName 16) (tCons (tName 17) (tCons (tName 7) (tNil))))))) (sSeq (sFor (iRng1 (eCall 2 (g_law_roll 3) (eCons (eVar 1) (eCons (eC (.int 16)) (eNil))))) (tName 5) (sSeq (sAsg (eOp dIx (eC (.str "abcd")) (eCall 2 (g_law_roll 3) (eCons (eVar 1) (eCons (eC (.int 4)) (eNil))))) (tName 6)) (sSeq (sIf (eB (eOp dEq (eCall 2 (g_law_roll 3) (eCons (eVar 1) (eCons (eC (.int 2)) (eNil)))) (eC (.int 0)))) (sSeq (sAsg (vOr (eOp dIn (eVar 6) (eVar 16)) (eOp dIn (eVar 6) (eVar 17))) (tName 18)) (sSeq (sIf (eB (eOp dIn (eVar 6) (eVar 16))) (sAsg (eOp dAdd (eLc false (iIt (eVar 16)) (tName 25) (eB (eOp dNe (eVar 25) (eVar 6))) (eVar 25) [25]) (eLst (eCons (eVar 6) (eNil)))) (tName 16)) (sIf (eB (eOp dIn (eVar 6) (eVar 17))) (sSeq (sAsg (eTup (eCons (eVar 16) (eCons (eLst (eCons (eVar 6) (eNil))) (eNil)))) (tTup 2 (tCons (tName 19) (tCons (tName 16) (tNil))))) (sAsg (eSl (eOp dAdd (eLc false (iIt (eVar 17)) (tName 25) (mAnd (eB (eOp dNe (eVar 25) (eVar 6))) (eB (eOp dNotIn (eVar 25) (eVar 19)))) (eVar 25) [25]) (eVar 19)) (oSome (eNeg (eVar 13))) (oNone)) (tName 17))) (sNext))) (sIf (eB (eOp dNe (eOp dNotN (eMeth 1 3 "get" g_TwoKeep_get (eVar 15) (eCons (eVar 6) (eCons (eVar 7) (eNil)))) (eC .none)) (eVar 18))) (sRet (eC (.bool false))) (sNext)))) (sSeq (sAsg (eMeth 1 5 "put" g_TwoKeep_put (eVar 15) (eCons (eVar 6) (eCons (eVar 7) (eCons (eOp dAdd (eVar 5) (eC (.int 1))) (eCons (eC (.int 1)) (eNil)))))) (tName 20)) (sIf (eB (eOp dIn (eVar 6) (eVar 16))) (sAsg (eOp dAdd (eLc false (iIt (eVar 16)) (tName 25) (eB (eOp dNe (eVar 25) (eVar 6))) (eVar 25) [25]) (eLst (eCons (eVar 6) (eNil)))) (tName 16)) (sAsg (eSl (eOp dAdd (eLc false (iIt (eVar 17)) (tName 25) (eB (eOp dNe (eVar 25) (eVar 6))) (eVar 25) [25]) (eLst (eCons (eVar 6) (eNil)))) (oSome (eNeg (eVar 13))) (oNone)) (tName 17))))) (sIf (eB (eOp dNe (eMeth 1 1 "kept_keys" g_TwoKeep_kept_keys (eVar 15) eNil) (eTup (eCons (eCB dTupA (eCons (eVar 17) (eNil))) (eCons (eCB dTupA (eCons (eVar 16) (eNil))) (eNil)))))) (sRet (eC (.bool false))) (sNext))))) (sIf (mOr (eB (eOp dNe (eCall 3 g_next_place (eCons (eVar 12) (eCons (eC (.int 1)) (eCons (eC (.str "a")) (eNil))))) (eOp dIx (eOp dAdd (eLc false (iRng2 (eC (.int 1)) (eCB dLen (eCons (eVar 12) (eNil)))) (tName 23) (eB (eOp dEq (eOp dIx (eVar 12) (eVar 23)) (eC (.str "a")))) (eVar 23) [23]) (eLst (eCons (eCB dLen (eCons (eVar 12) (eNil))) (eNil)))) (eC (.int 0))))) (eB (eOp dNe (eCall 2 g_plain_key (eCons (eVar 12) (eCons (eC (.str "m")) (eNil)))) (eOp dAdd (eJoin (eC (.str " ")) (eCB dSortS (eCons (eCB dDictP (eCons (eLc false (iIt (eVar 12)) (tName 25) (tTrue) (eTup (eCons (eVar 25) (eCons (eC (.int 1)) (eNil)))) [25]) (eNil))) (eNil)))) (eC (.str "|m")))))) (sRet (eC (.bool false))) (sNext))))))))))))
theorem d_law {p : Pg} {a : Ad} (E : Fx p a) {X : Cx} (h : XOk p N_law (defScope s_law) (fun _ => true) 11 X) : SS p.w X f_law m_law :=
  ss_for h.b (si_of h.c (h.call (t_law_rounds E) E.glo_law_rounds (sa_cons (h.var) (sa_cons (se_int) (sa_nil))))) (h.tgt) (ss_cons (ss_asg (se_op (os_add h.c) (se_int) (h.call (t_law_roll E 3) E.glo_law_roll (sa_cons (h.var) (sa_cons (se_int) (sa_nil))))) (h.tgt)) (ss_cons (h.par2 (sa_cons (h.make E.mk_AnswerKeep (t_AnswerKeep_init E) E.gc_AnswerKeep (sa_cons (h.var) (sa_nil))) (sa_cons (se_disp (SPs.cons (se_str) (se_lst (sa_nil)) (SPs.cons (se_str) (se_int) (SPs.cons (se_str) (se_int) (SPs.cons (se_str) (se_int) (SPs.nil)))))) (sa_nil)))) (ss_cons (ss_for h.b (h.rng1 E.b_range (h.call (t_law_roll E 3) E.glo_law_roll (sa_cons (h.var) (sa_cons (se_int) (sa_nil))))) (h.tgt) (ss_cons (h.asgT (se_tup (sa_cons (se_ix h.c (se_str) (h.call (t_law_roll E 3) E.glo_law_roll (sa_cons (h.var) (sa_cons (se_int) (sa_nil))))) (sa_cons (h.call (t_law_roll E 3) E.glo_law_roll (sa_cons (h.var) (sa_cons (se_int) (sa_nil)))) (sa_cons (h.call (t_law_roll E 3) E.glo_law_roll (sa_cons (h.var) (sa_cons (se_int) (sa_nil)))) (sa_cons (h.call (t_law_roll E 3) E.glo_law_roll (sa_cons (h.var) (sa_cons (se_int) (sa_nil)))) (sa_nil)))))) (sg_tup h.c (sgs_cons (h.tgt) (sgs_cons (h.tgt) (sgs_cons (h.tgt) (sgs_cons (h.tgt) (sgs_nil))))))) (ss_cons (ss_if (sb_cmp (os_lt h.c) (h.var) (se_int)) (ss_one (ss_if (sb_cmp (os_ne h.c) (h.meth E.m_AnswerKeep_get (t_AnswerKeep_get E) (h.var) (sa_cons (h.var) (sa_cons (h.var) (sa_nil)))) (h.call (t_law_get E) E.glo_law_get (sa_cons (h.var) (sa_cons (h.var) (sa_cons (h.var) (sa_nil)))))) (ss_one (ss_ret (se_bl))) (ss_nil))) (ss_one (ss_if (sb_cmp (os_lt h.c) (h.var) (se_int)) (ss_cons (ss_asg (se_op (os_add h.c) (h.lc false (own := [("row", 21)]) (by decide +kernel) (si_of h.c (se_ix h.c (h.var) (se_str))) (fun Y1 h1 => ⟨h1.tgt, sts_one (sb_cmp (os_ne h1.c) (se_ix h1.c (h1.var) (se_int)) (h1.var)), h1.var⟩)) (se_lst (sa_cons (se_tup (sa_cons (h.var) (sa_cons (h.var) (sa_cons (h.var) (sa_cons (h.var) (sa_nil)))))) (sa_nil)))) (h.tgt)) (ss_cons (ss_if (sb_cmp (os_ne h.c) (h.ty (cs_list h.c) E.b_list rfl (sa_cons (h.meth E.m_AnswerKeep_put (t_AnswerKeep_put E) (h.var) (sa_cons (h.var) (sa_cons (h.var) (sa_cons (h.var) (sa_cons (h.var) (sa_nil)))))) (sa_nil))) (h.lc false (own := [("row", 21)]) (by decide +kernel) (si_of h.c (se_slice h.c (h.var) (so_none) (so_some (h.blt (cs_max2 h.c) E.b_max rfl (sa_cons (se_int) (sa_cons (se_op (os_sub) (h.blt (cs_len h.c) E.b_len rfl (sa_cons (h.var) (sa_nil))) (h.var)) (sa_nil))))))) (fun Y1 h1 => ⟨h1.tgt, sts_nil, se_ix h1.c (h1.var) (se_int)⟩))) (ss_one (ss_ret (se_bl))) (ss_nil)) (ss_one (ss_asg (se_slice h.c (h.var) (so_some (h.blt (cs_max2 h.c) E.b_max rfl (sa_cons (se_int) (sa_cons (se_op (os_sub) (h.blt (cs_len h.c) E.b_len rfl (sa_cons (h.var) (sa_nil))) (h.var)) (sa_nil))))) (so_none)) (sg_sub h.c (h.var) (se_str)))))) (ss_cons (h.setLc false (own := [("row", 21)]) (by decide +kernel) (si_of h.c (se_ix h.c (h.var) (se_str))) (fun Y1 h1 => ⟨h1.tgt, sts_one (sb_cmp (os_eq h1.c) (se_ix h1.c (h1.var) (se_int)) (h1.var)), h1.var⟩)) (ss_cons (ss_if (sb_cmp (os_ne h.c) (h.meth E.m_AnswerKeep_sweep (t_AnswerKeep_sweep E) (h.var) (sa_cons (h.var) (sa_nil))) (se_op (os_sub) (h.blt (cs_len h.c) E.b_len rfl (sa_cons (se_ix h.c (h.var) (se_str)) (sa_nil))) (h.blt (cs_len h.c) E.b_len rfl (sa_cons (h.var) (sa_nil))))) (ss_one (ss_ret (se_bl))) (ss_nil)) (ss_one (ss_asg (h.var) (sg_sub h.c (h.var) (se_str))))))))) (ss_cons (ss_if (SW.b (sw_or (sb_cmp (os_ne h.c) (se_lock (eFld 2 "rows" (eVar 3)) (h.lc false (own := [("name", 22), ("row", 21)]) (by decide +kernel) (si_items (se_fld h.c E.fld_rows (h.var))) (fun Y1 h1 => ⟨sg_tup h1.c (sgs_cons (h1.tgt) (sgs_cons (h1.tgt) (sgs_nil))), sts_nil, se_op (os_add h1.c) (se_tup (sa_cons (h1.var) (sa_nil))) (h1.var)⟩))) (se_ix h.c (h.var) (se_str))) (sw_or1 (sb_cmp (os_ne h.c) (se_tup (sa_cons (se_fld h.c E.fld_had (h.var)) (sa_cons (se_fld h.c E.fld_lacked (h.var)) (sa_cons (se_fld h.c E.fld_saved (h.var)) (sa_nil))))) (se_tup (sa_cons (se_ix h.c (h.var) (se_str)) (sa_cons (se_ix h.c (h.var) (se_str)) (sa_cons (se_ix h.c (h.var) (se_str)) (sa_nil))))))))) (ss_one (ss_ret (se_bl))) (ss_nil)) (ss_one (ss_if (SW.b (sw_or (sb_cmp (os_ne h.c) (h.ty (cs_list h.c) E.b_list rfl (sa_cons (h.meth0 E.m_AnswerKeep_keep_lines (t_AnswerKeep_keep_lines E) (h.var)) (sa_nil))) (h.lc false (own := [("row", 21)]) (by decide +kernel) (si_of h.c (se_ix h.c (h.var) (se_str))) (fun Y1 h1 => ⟨h1.tgt, sts_nil, se_op (os_add h1.c) (se_op (os_add h1.c) (se_op (os_add h1.c) (se_op (os_add h1.c) (se_ix h1.c (h1.var) (se_int)) (se_str)) (h1.ty (cs_str) E.b_str rfl (sa_cons (se_ix h1.c (h1.var) (se_int)) (sa_nil)))) (se_str)) (h1.ty (cs_str) E.b_str rfl (sa_cons (se_ix h1.c (h1.var) (se_int)) (sa_nil)))⟩))) (sw_or1 (sb_cmp (os_ne h.c) (h.meth0 E.m_AnswerKeep_hit_share (t_AnswerKeep_hit_share E) (h.var)) (se_if (sb_cmp (os_gt h.c) (se_op (os_add h.c) (se_ix h.c (h.var) (se_str)) (se_ix h.c (h.var) (se_str))) (se_int)) (se_op (os_div) (se_op (os_mul) (se_int) (se_ix h.c (h.var) (se_str))) (se_op (os_add h.c) (se_ix h.c (h.var) (se_str)) (se_ix h.c (h.var) (se_str)))) (se_int)))))) (ss_one (ss_ret (se_bl))) (ss_nil))))))) (ss_cons (h.asgC (h.lc false (own := [("k", 23)]) (by decide +kernel) (h.rng1 E.b_range (h.call (t_law_roll E 3) E.glo_law_roll (sa_cons (h.var) (sa_cons (se_int) (sa_nil))))) (fun Y1 h1 => ⟨h1.tgt, sts_nil, se_ix h1.c (se_str) (h1.call (t_law_roll E 3) E.glo_law_roll (sa_cons (h1.var) (sa_cons (se_int) (sa_nil))))⟩)) (h.tgt)) (ss_cons (ss_asg (se_op (os_add h.c) (se_int) (h.call (t_law_roll E 3) E.glo_law_roll (sa_cons (h.var) (sa_cons (se_int) (sa_nil))))) (h.tgt)) (ss_cons (ss_if (SW.b (sw_or (sb_cmp (os_ne h.c) (h.call (t_best_kept E) E.glo_best_kept (sa_cons (h.var) (sa_cons (h.var) (sa_nil)))) (h.call (t_law_best E 10) E.glo_law_best (sa_cons (h.var) (sa_cons (h.var) (sa_cons (se_tup (sa_nil)) (sa_cons (se_int) (sa_nil))))))) (sw_or1 (sb_cmp (os_gt h.c) (h.call (t_lasting_kept E) E.glo_lasting_kept (sa_cons (h.var) (sa_cons (h.var) (sa_nil)))) (h.call (t_best_kept E) E.glo_best_kept (sa_cons (h.var) (sa_cons (h.var) (sa_nil)))))))) (ss_one (ss_ret (se_bl))) (ss_nil)) (ss_cons (h.setLc false (own := [("k", 23)]) (by decide +kernel) (h.rng1 E.b_range (h.blt (cs_len h.c) E.b_len rfl (sa_cons (h.var) (sa_nil)))) (fun Y1 h1 => ⟨h1.tgt, sts_one (sb_cmp (os_in h1.c) (se_ix h1.c (h1.var) (h1.var)) (se_slice h1.c (h1.var) (so_none) (so_some (h1.var)))), h1.blt (cs_len h1.c) E.b_len rfl (sa_cons (h1.ty (cs_dictP h1.c) E.b_dict rfl (sa_cons (h1.lc false (own := [("one", 25)]) (by decide +kernel) (si_of h1.c (se_slice h1.c (h1.var) (so_some (h1.blt (cs_maxL h1.c) E.b_max rfl (sa_cons (h1.lc false (own := [("j", 24)]) (by decide +kernel) (h1.rng1 E.b_range (h1.var)) (fun Y2 h2 => ⟨h2.tgt, sts_one (sb_cmp (os_eq h2.c) (se_ix h2.c (h2.var) (h2.var)) (se_ix h2.c (h2.var) (h2.var))), h2.var⟩)) (sa_nil)))) (so_some (h1.var)))) (fun Y2 h2 => ⟨h2.tgt, sts_nil, se_tup (sa_cons (h2.var) (sa_cons (se_int) (sa_nil)))⟩)) (sa_nil))) (sa_nil))⟩)) (ss_cons (ss_if (sb_cmp (os_ne h.c) (h.call (t_lasting_kept E) E.glo_lasting_kept (sa_cons (h.var) (sa_cons (h.var) (sa_nil)))) (h.blt (cs_len h.c) E.b_len rfl (sa_cons (h.lc false (own := [("spot", 26)]) (by decide +kernel) (si_of h.c (h.var)) (fun Y1 h1 => ⟨h1.tgt, sts_one (sb_cmp (os_le h1.c) (h1.var) (h1.var)), se_int⟩)) (sa_nil)))) (ss_one (ss_ret (se_bl))) (ss_nil)) (ss_cons (h.asgT (se_tup (sa_cons (h.make E.mk_TwoKeep (t_TwoKeep_init E) E.gc_TwoKeep (sa_cons (h.var) (sa_cons (se_int) (sa_nil)))) (sa_cons (se_lst (sa_nil)) (sa_cons (se_lst (sa_nil)) (sa_cons (se_int) (sa_nil)))))) (sg_tup h.c (sgs_cons (h.tgt) (sgs_cons (h.tgt) (sgs_cons (h.tgt) (sgs_cons (h.tgt) (sgs_nil))))))) (ss_cons (ss_for h.b (h.rng1 E.b_range (h.call (t_law_roll E 3) E.glo_law_roll (sa_cons (h.var) (sa_cons (se_int) (sa_nil))))) (h.tgt) (ss_cons (ss_asg (se_ix h.c (se_str) (h.call (t_law_roll E 3) E.glo_law_roll (sa_cons (h.var) (sa_cons (se_int) (sa_nil))))) (h.tgt)) (ss_cons (ss_if (sb_cmp (os_eq h.c) (h.call (t_law_roll E 3) E.glo_law_roll (sa_cons (h.var) (sa_cons (se_int) (sa_nil)))) (se_int)) (ss_cons (ss_asg (se_or (se_cmp (os_in h.c) (h.var) (h.var)) (se_one (se_cmp (os_in h.c) (h.var) (h.var)))) (h.tgt)) (ss_cons (ss_if (sb_cmp (os_in h.c) (h.var) (h.var)) (ss_one (ss_asg (se_op (os_add h.c) (h.lc false (own := [("one", 25)]) (by decide +kernel) (si_of h.c (h.var)) (fun Y1 h1 => ⟨h1.tgt, sts_one (sb_cmp (os_ne h1.c) (h1.var) (h1.var)), h1.var⟩)) (se_lst (sa_cons (h.var) (sa_nil)))) (h.tgt))) (ss_one (ss_if (sb_cmp (os_in h.c) (h.var) (h.var)) (ss_cons (h.asgT (se_tup (sa_cons (h.var) (sa_cons (se_lst (sa_cons (h.var) (sa_nil))) (sa_nil)))) (sg_tup h.c (sgs_cons (h.tgt) (sgs_cons (h.tgt) (sgs_nil))))) (ss_one (ss_asg (se_slice h.c (se_op (os_add h.c) (h.lc false (own := [("one", 25)]) (by decide +kernel) (si_of h.c (h.var)) (fun Y1 h1 => ⟨h1.tgt, sts_one (SW.b (sw_and (sb_cmp (os_ne h1.c) (h1.var) (h1.var)) (sw_and1 (sb_cmp (os_notIn h1.c) (h1.var) (h1.var))))), h1.var⟩)) (h.var)) (so_some (se_neg (h.var))) (so_none)) (h.tgt)))) (ss_nil)))) (ss_one (ss_if (sb_cmp (os_ne h.c) (se_cmp (os_notN) (h.meth E.m_TwoKeep_get (t_TwoKeep_get E) (h.var) (sa_cons (h.var) (sa_cons (h.var) (sa_nil)))) (se_non)) (h.var)) (ss_one (ss_ret (se_bl))) (ss_nil))))) (ss_cons (ss_asg (h.meth E.m_TwoKeep_put (t_TwoKeep_put E) (h.var) (sa_cons (h.var) (sa_cons (h.var) (sa_cons (se_op (os_add h.c) (h.var) (se_int)) (sa_cons (se_int) (sa_nil)))))) (h.tgt)) (ss_one (ss_if (sb_cmp (os_in h.c) (h.var) (h.var)) (ss_one (ss_asg (se_op (os_add h.c) (h.lc false (own := [("one", 25)]) (by decide +kernel) (si_of h.c (h.var)) (fun Y1 h1 => ⟨h1.tgt, sts_one (sb_cmp (os_ne h1.c) (h1.var) (h1.var)), h1.var⟩)) (se_lst (sa_cons (h.var) (sa_nil)))) (h.tgt))) (ss_one (ss_asg (se_slice h.c (se_op (os_add h.c) (h.lc false (own := [("one", 25)]) (by decide +kernel) (si_of h.c (h.var)) (fun Y1 h1 => ⟨h1.tgt, sts_one (sb_cmp (os_ne h1.c) (h1.var) (h1.var)), h1.var⟩)) (se_lst (sa_cons (h.var) (sa_nil)))) (so_some (se_neg (h.var))) (so_none)) (h.tgt))))))) (ss_one (ss_if (sb_cmp (os_ne h.c) (h.meth0 E.m_TwoKeep_kept_keys (t_TwoKeep_kept_keys E) (h.var)) (se_tup (sa_cons (h.ty (cs_tupA h.c) E.b_tuple rfl (sa_cons (h.var) (sa_nil))) (sa_cons (h.ty (cs_tupA h.c) E.b_tuple rfl (sa_cons (h.var) (sa_nil))) (sa_nil))))) (ss_one (ss_ret (se_bl))) (ss_nil)))))) (ss_one (ss_if (SW.b (sw_or (sb_cmp (os_ne h.c) (h.call (t_next_place E) E.glo_next_place (sa_cons (h.var) (sa_cons (se_int) (sa_cons (se_str) (sa_nil))))) (se_ix h.c (se_op (os_add h.c) (h.lc false (own := [("k", 23)]) (by decide +kernel) (h.rng2 E.b_range (se_int) (h.blt (cs_len h.c) E.b_len rfl (sa_cons (h.var) (sa_nil)))) (fun Y1 h1 => ⟨h1.tgt, sts_one (sb_cmp (os_eq h1.c) (se_ix h1.c (h1.var) (h1.var)) (se_str)), h1.var⟩)) (se_lst (sa_cons (h.blt (cs_len h.c) E.b_len rfl (sa_cons (h.var) (sa_nil))) (sa_nil)))) (se_int))) (sw_or1 (sb_cmp (os_ne h.c) (h.call (t_plain_key E) E.glo_plain_key (sa_cons (h.var) (sa_cons (se_str) (sa_nil)))) (se_op (os_add h.c) (se_join h.c (se_str) (h.blt (cs_sortS h.c) E.b_sorted rfl (sa_cons (h.ty (cs_dictP h.c) E.b_dict rfl (sa_cons (h.lc false (own := [("one", 25)]) (by decide +kernel) (si_of h.c (h.var)) (fun Y1 h1 => ⟨h1.tgt, sts_nil, se_tup (sa_cons (h1.var) (sa_cons (se_int) (sa_nil)))⟩)) (sa_nil))) (sa_nil)))) (se_str)))))) (ss_one (ss_ret (se_bl))) (ss_nil)))))))))))))
end K21
end
section
set_option Elab.async false
set_option linter.all false
set_option maxRecDepth 100000
set_option maxHeartbeats 4000000
namespace K21
open PySem L2 EV
def d_AnswerKeep_init_d : He.DefD := ⟨("AnswerKeep", some "__init__"), "__init__", "AnswerKeep.__init__", defArgs s_AnswerKeep_init, defBody s_AnswerKeep_init, defScope s_AnswerKeep_init, [], []⟩
def d_AnswerKeep_get_d : He.DefD := ⟨("AnswerKeep", some "get"), "get", "AnswerKeep.get", defArgs s_AnswerKeep_get, defBody s_AnswerKeep_get, defScope s_AnswerKeep_get, [], []⟩
def d_AnswerKeep_put_d : He.DefD := ⟨("AnswerKeep", some "put"), "put", "AnswerKeep.put", defArgs s_AnswerKeep_put, defBody s_AnswerKeep_put, defScope s_AnswerKeep_put, [], []⟩
def d_AnswerKeep_sweep_d : He.DefD := ⟨("AnswerKeep", some "sweep"), "sweep", "AnswerKeep.sweep", defArgs s_AnswerKeep_sweep, defBody s_AnswerKeep_sweep, defScope s_AnswerKeep_sweep, [], []⟩
def d_AnswerKeep_hit_share_d : He.DefD := ⟨("AnswerKeep", some "hit_share"), "hit_share", "AnswerKeep.hit_share", defArgs s_AnswerKeep_hit_share, defBody s_AnswerKeep_hit_share, defScope s_AnswerKeep_hit_share, [], []⟩
def d_AnswerKeep_keep_lines_d : He.DefD := ⟨("AnswerKeep", some "keep_lines"), "keep_lines", "AnswerKeep.keep_lines", defArgs s_AnswerKeep_keep_lines, defBody s_AnswerKeep_keep_lines, defScope s_AnswerKeep_keep_lines, [], []⟩
def d_TwoKeep_init_d : He.DefD := ⟨("TwoKeep", some "__init__"), "__init__", "TwoKeep.__init__", defArgs s_TwoKeep_init, defBody s_TwoKeep_init, defScope s_TwoKeep_init, [], []⟩
def d_TwoKeep_get_d : He.DefD := ⟨("TwoKeep", some "get"), "get", "TwoKeep.get", defArgs s_TwoKeep_get, defBody s_TwoKeep_get, defScope s_TwoKeep_get, [], []⟩
def d_TwoKeep_put_d : He.DefD := ⟨("TwoKeep", some "put"), "put", "TwoKeep.put", defArgs s_TwoKeep_put, defBody s_TwoKeep_put, defScope s_TwoKeep_put, [], []⟩
def d_TwoKeep_kept_keys_d : He.DefD := ⟨("TwoKeep", some "kept_keys"), "kept_keys", "TwoKeep.kept_keys", defArgs s_TwoKeep_kept_keys, defBody s_TwoKeep_kept_keys, defScope s_TwoKeep_kept_keys, [], []⟩
def d_next_place_d : He.DefD := ⟨("next_place", none), "next_place", "next_place", defArgs s_next_place, defBody s_next_place, defScope s_next_place, [], []⟩
def d_best_kept_d : He.DefD := ⟨("best_kept", none), "best_kept", "best_kept", defArgs s_best_kept, defBody s_best_kept, defScope s_best_kept, [], []⟩
def d_lasting_kept_d : He.DefD := ⟨("lasting_kept", none), "lasting_kept", "lasting_kept", defArgs s_lasting_kept, defBody s_lasting_kept, defScope s_lasting_kept, [], []⟩
def d_plain_key_d : He.DefD := ⟨("plain_key", none), "plain_key", "plain_key", defArgs s_plain_key, defBody s_plain_key, defScope s_plain_key, [], []⟩
def d_law_dice_d : He.DefD := ⟨("_law_dice", none), "_law_dice", "_law_dice", defArgs s_law_dice, defBody s_law_dice, defScope s_law_dice, [], []⟩
def d_law_roll_d : He.DefD := ⟨("_law_roll", none), "_law_roll", "_law_roll", defArgs s_law_roll, defBody s_law_roll, defScope s_law_roll, [], []⟩
def d_law_rounds_d : He.DefD := ⟨("_law_rounds", none), "_law_rounds", "_law_rounds", defArgs s_law_rounds, defBody s_law_rounds, defScope s_law_rounds, [], []⟩
def d_law_best_d : He.DefD := ⟨("_law_best", none), "_law_best", "_law_best", defArgs s_law_best, defBody s_law_best, defScope s_law_best, [], []⟩
def d_law_get_d : He.DefD := ⟨("_law_get", none), "_law_get", "_law_get", defArgs s_law_get, defBody s_law_get, defScope s_law_get, [], []⟩
def d_law_told_d : He.DefD := ⟨("_law_told", none), "_law_told", "_law_told", defArgs s_law_told, defBody s_law_told, defScope s_law_told, [], []⟩
def d_law_plain_d : He.DefD := ⟨("_law_plain", none), "_law_plain", "_law_plain", defArgs s_law_plain, defBody s_law_plain, defScope s_law_plain, [], []⟩
def d_law_d : He.DefD := ⟨("law", none), "law", "law", defArgs s_law, defBody s_law, defScope s_law, [], []⟩
def fnL : List He.DefD := [d_AnswerKeep_init_d, d_AnswerKeep_get_d, d_AnswerKeep_put_d, d_AnswerKeep_sweep_d, d_AnswerKeep_hit_share_d, d_AnswerKeep_keep_lines_d, d_TwoKeep_init_d, d_TwoKeep_get_d, d_TwoKeep_put_d, d_TwoKeep_kept_keys_d, d_next_place_d, d_best_kept_d, d_lasting_kept_d, d_plain_key_d, d_law_dice_d, d_law_roll_d, d_law_rounds_d, d_law_best_d, d_law_get_d, d_law_told_d, d_law_plain_d, d_law_d]
def faL : List He.Fa := [.cls "AnswerKeep", .cls "TwoKeep", .noat "AnswerKeep" "saved", .noat "TwoKeep" "saved", .noat "AnswerKeep" "lacked", .noat "TwoKeep" "lacked", .noat "AnswerKeep" "had", .noat "TwoKeep" "had", .noat "AnswerKeep" "rows", .noat "TwoKeep" "rows", .noat "AnswerKeep" "many", .noat "TwoKeep" "many", .exc "KeepError", .glo "KeepError", .free "tuple", .free "len", .free "list", .glo "AnswerKeep", .mkr "AnswerKeep", .noat "AnswerKeep" "again", .noat "TwoKeep" "again", .noat "AnswerKeep" "once", .noat "TwoKeep" "once", .meth "AnswerKeep" "put", .free "dict", .meth "AnswerKeep" "get", .free "range", .free "enumerate", .free "min", .glo "next_place", .free "sorted", .free "int", .free "abs", .glo "_law_roll", .glo "_law_dice", .free "max", .glo "_law_best", .glo "_law_told", .exm "KeepError" "KeepError" true, .glo "plain_key", .glo "lasting_kept", .glo "best_kept", .meth "TwoKeep" "kept_keys", .meth "TwoKeep" "get", .meth "TwoKeep" "put", .meth "AnswerKeep" "hit_share", .meth "AnswerKeep" "keep_lines", .meth "AnswerKeep" "sweep", .glo "TwoKeep", .mkr "TwoKeep", .glo "_law_rounds", .free "str", .glo "_law_get", .glo "_law_plain", .glo "law"]
def adOf (K : PySem.W.Frag) : Ad := { AnswerKeep_init := He.ma K (He.ga K "AnswerKeep") "__init__", AnswerKeep_get := He.ma K (He.ga K "AnswerKeep") "get", AnswerKeep_put := He.ma K (He.ga K "AnswerKeep") "put", AnswerKeep_sweep := He.ma K (He.ga K "AnswerKeep") "sweep", AnswerKeep_hit_share := He.ma K (He.ga K "AnswerKeep") "hit_share", AnswerKeep_keep_lines := He.ma K (He.ga K "AnswerKeep") "keep_lines", TwoKeep_init := He.ma K (He.ga K "TwoKeep") "__init__", TwoKeep_get := He.ma K (He.ga K "TwoKeep") "get", TwoKeep_put := He.ma K (He.ga K "TwoKeep") "put", TwoKeep_kept_keys := He.ma K (He.ga K "TwoKeep") "kept_keys", next_place := He.ga K "next_place", best_kept := He.ga K "best_kept", lasting_kept := He.ga K "lasting_kept", plain_key := He.ga K "plain_key", law_dice := He.ga K "_law_dice", law_roll := He.ga K "_law_roll", law_rounds := He.ga K "_law_rounds", law_best := He.ga K "_law_best", law_get := He.ga K "_law_get", law_told := He.ga K "_law_told", law_plain := He.ga K "_law_plain", law := He.ga K "law" }
def wdOf (K : PySem.W.Frag) (P : Addr) : Wd := { K := K, cls := fun c => match c with | 0 => He.ga K "AnswerKeep" | 1 => He.ga K "TwoKeep" | 2 => He.ga K "KeepError" | 3 => He.ga K "SearchFault" | _ => 0, T := [(P, "_law_plain.<locals>." ++ "<lambda>")], lam := lamT, clo := [] }
def pgOf (P0 : Program) (W : World) (mg : PySem.Str → Option Value) (base : Heap) (K : PySem.W.Frag) (P : Addr) : Pg := ⟨P0, W, mg, base, wdOf K P⟩
theorem fx {P0 : Program} {W : World} {mg : PySem.Str → Option Value} {base h : Heap} {K : PySem.W.Frag} {P : Addr} (X : K.In h) (G : h.Ns mainGlobals mg) (c : He.SaysD faL fnL K) : Fx (pgOf P0 W mg base K P) (adOf K) where
  fld_saved := ⟨fun j hj => match j, hj with | 0, _ => He.cls_ok (c.fact 0 (f := .cls "AnswerKeep") rfl) | 1, _ => He.cls_ok (c.fact 1 (f := .cls "TwoKeep") rfl), fun j hj => match j, hj with | 0, _ => He.noat_ok (c.fact 2 (f := .noat "AnswerKeep" "saved") rfl) | 1, _ => He.noat_ok (c.fact 3 (f := .noat "TwoKeep" "saved") rfl)⟩
  fld_lacked := ⟨fun j hj => match j, hj with | 0, _ => He.cls_ok (c.fact 0 (f := .cls "AnswerKeep") rfl) | 1, _ => He.cls_ok (c.fact 1 (f := .cls "TwoKeep") rfl), fun j hj => match j, hj with | 0, _ => He.noat_ok (c.fact 4 (f := .noat "AnswerKeep" "lacked") rfl) | 1, _ => He.noat_ok (c.fact 5 (f := .noat "TwoKeep" "lacked") rfl)⟩
  fld_had := ⟨fun j hj => match j, hj with | 0, _ => He.cls_ok (c.fact 0 (f := .cls "AnswerKeep") rfl) | 1, _ => He.cls_ok (c.fact 1 (f := .cls "TwoKeep") rfl), fun j hj => match j, hj with | 0, _ => He.noat_ok (c.fact 6 (f := .noat "AnswerKeep" "had") rfl) | 1, _ => He.noat_ok (c.fact 7 (f := .noat "TwoKeep" "had") rfl)⟩
  fld_rows := ⟨fun j hj => match j, hj with | 0, _ => He.cls_ok (c.fact 0 (f := .cls "AnswerKeep") rfl) | 1, _ => He.cls_ok (c.fact 1 (f := .cls "TwoKeep") rfl), fun j hj => match j, hj with | 0, _ => He.noat_ok (c.fact 8 (f := .noat "AnswerKeep" "rows") rfl) | 1, _ => He.noat_ok (c.fact 9 (f := .noat "TwoKeep" "rows") rfl)⟩
  fld_many := ⟨fun j hj => match j, hj with | 0, _ => He.cls_ok (c.fact 0 (f := .cls "AnswerKeep") rfl) | 1, _ => He.cls_ok (c.fact 1 (f := .cls "TwoKeep") rfl), fun j hj => match j, hj with | 0, _ => He.noat_ok (c.fact 10 (f := .noat "AnswerKeep" "many") rfl) | 1, _ => He.noat_ok (c.fact 11 (f := .noat "TwoKeep" "many") rfl)⟩
  e_KeepError := ⟨(He.exc_ok (c.fact 12 (f := .exc "KeepError") rfl)).1, (He.exc_ok (c.fact 12 (f := .exc "KeepError") rfl)).2.1, (He.exc_ok (c.fact 12 (f := .exc "KeepError") rfl)).2.2.1, (He.exc_ok (c.fact 12 (f := .exc "KeepError") rfl)).2.2.2, He.glo_ok X G (c.fact 13 (f := .glo "KeepError") rfl)⟩
  f_AnswerKeep_init := c.def_ 0 (d := d_AnswerKeep_init_d) rfl
  f_AnswerKeep_get := c.def_ 1 (d := d_AnswerKeep_get_d) rfl
  b_tuple := He.free_ok X G (c.fact 14 (f := .free "tuple") rfl)
  b_len := He.free_ok X G (c.fact 15 (f := .free "len") rfl)
  b_list := He.free_ok X G (c.fact 16 (f := .free "list") rfl)
  f_AnswerKeep_put := c.def_ 2 (d := d_AnswerKeep_put_d) rfl
  f_AnswerKeep_sweep := c.def_ 3 (d := d_AnswerKeep_sweep_d) rfl
  f_AnswerKeep_hit_share := c.def_ 4 (d := d_AnswerKeep_hit_share_d) rfl
  f_AnswerKeep_keep_lines := c.def_ 5 (d := d_AnswerKeep_keep_lines_d) rfl
  gc_AnswerKeep := He.glo_ok X G (c.fact 17 (f := .glo "AnswerKeep") rfl)
  mk_AnswerKeep := ⟨He.mkr_ok (c.fact 18 (f := .mkr "AnswerKeep") rfl)⟩
  fld_again := ⟨fun j hj => match j, hj with | 0, _ => He.cls_ok (c.fact 0 (f := .cls "AnswerKeep") rfl) | 1, _ => He.cls_ok (c.fact 1 (f := .cls "TwoKeep") rfl), fun j hj => match j, hj with | 0, _ => He.noat_ok (c.fact 19 (f := .noat "AnswerKeep" "again") rfl) | 1, _ => He.noat_ok (c.fact 20 (f := .noat "TwoKeep" "again") rfl)⟩
  fld_once := ⟨fun j hj => match j, hj with | 0, _ => He.cls_ok (c.fact 0 (f := .cls "AnswerKeep") rfl) | 1, _ => He.cls_ok (c.fact 1 (f := .cls "TwoKeep") rfl), fun j hj => match j, hj with | 0, _ => He.noat_ok (c.fact 21 (f := .noat "AnswerKeep" "once") rfl) | 1, _ => He.noat_ok (c.fact 22 (f := .noat "TwoKeep" "once") rfl)⟩
  f_TwoKeep_init := c.def_ 6 (d := d_TwoKeep_init_d) rfl
  m_AnswerKeep_put := ⟨He.cls_ok (c.fact 0 (f := .cls "AnswerKeep") rfl), He.meth_ok (c.fact 23 (f := .meth "AnswerKeep" "put") rfl)⟩
  b_dict := He.free_ok X G (c.fact 24 (f := .free "dict") rfl)
  m_AnswerKeep_get := ⟨He.cls_ok (c.fact 0 (f := .cls "AnswerKeep") rfl), He.meth_ok (c.fact 25 (f := .meth "AnswerKeep" "get") rfl)⟩
  f_TwoKeep_get := c.def_ 7 (d := d_TwoKeep_get_d) rfl
  f_TwoKeep_put := c.def_ 8 (d := d_TwoKeep_put_d) rfl
  f_TwoKeep_kept_keys := c.def_ 9 (d := d_TwoKeep_kept_keys_d) rfl
  b_range := He.free_ok X G (c.fact 26 (f := .free "range") rfl)
  f_next_place := c.def_ 10 (d := d_next_place_d) rfl
  b_enumerate := He.free_ok X G (c.fact 27 (f := .free "enumerate") rfl)
  b_min := He.free_ok X G (c.fact 28 (f := .free "min") rfl)
  glo_next_place := He.glo_ok X G (c.fact 29 (f := .glo "next_place") rfl)
  f_best_kept := c.def_ 11 (d := d_best_kept_d) rfl
  f_lasting_kept := c.def_ 12 (d := d_lasting_kept_d) rfl
  b_sorted := He.free_ok X G (c.fact 30 (f := .free "sorted") rfl)
  f_plain_key := c.def_ 13 (d := d_plain_key_d) rfl
  b_int := He.free_ok X G (c.fact 31 (f := .free "int") rfl)
  b_abs := He.free_ok X G (c.fact 32 (f := .free "abs") rfl)
  f_law_dice := c.def_ 14 (d := d_law_dice_d) rfl
  glo_law_roll := He.glo_ok X G (c.fact 33 (f := .glo "_law_roll") rfl)
  f_law_roll := c.def_ 15 (d := d_law_roll_d) rfl
  glo_law_dice := He.glo_ok X G (c.fact 34 (f := .glo "_law_dice") rfl)
  f_law_rounds := c.def_ 16 (d := d_law_rounds_d) rfl
  b_max := He.free_ok X G (c.fact 35 (f := .free "max") rfl)
  glo_law_best := He.glo_ok X G (c.fact 36 (f := .glo "_law_best") rfl)
  f_law_best := c.def_ 17 (d := d_law_best_d) rfl
  f_law_get := c.def_ 18 (d := d_law_get_d) rfl
  glo_law_told := He.glo_ok X G (c.fact 37 (f := .glo "_law_told") rfl)
  f_law_told := c.def_ 19 (d := d_law_told_d) rfl
  x_told := fun j hj => by
    have hj2 : j = 2 := by simpa [isE] using hj
    subst hj2
    exact He.exm_ok (c.fact 38 (f := .exm "KeepError" "KeepError" true) rfl)
  glo_plain_key := He.glo_ok X G (c.fact 39 (f := .glo "plain_key") rfl)
  glo_lasting_kept := He.glo_ok X G (c.fact 40 (f := .glo "lasting_kept") rfl)
  glo_best_kept := He.glo_ok X G (c.fact 41 (f := .glo "best_kept") rfl)
  m_TwoKeep_kept_keys := ⟨He.cls_ok (c.fact 1 (f := .cls "TwoKeep") rfl), He.meth_ok (c.fact 42 (f := .meth "TwoKeep" "kept_keys") rfl)⟩
  m_TwoKeep_get := ⟨He.cls_ok (c.fact 1 (f := .cls "TwoKeep") rfl), He.meth_ok (c.fact 43 (f := .meth "TwoKeep" "get") rfl)⟩
  m_TwoKeep_put := ⟨He.cls_ok (c.fact 1 (f := .cls "TwoKeep") rfl), He.meth_ok (c.fact 44 (f := .meth "TwoKeep" "put") rfl)⟩
  m_AnswerKeep_hit_share := ⟨He.cls_ok (c.fact 0 (f := .cls "AnswerKeep") rfl), He.meth_ok (c.fact 45 (f := .meth "AnswerKeep" "hit_share") rfl)⟩
  m_AnswerKeep_keep_lines := ⟨He.cls_ok (c.fact 0 (f := .cls "AnswerKeep") rfl), He.meth_ok (c.fact 46 (f := .meth "AnswerKeep" "keep_lines") rfl)⟩
  m_AnswerKeep_sweep := ⟨He.cls_ok (c.fact 0 (f := .cls "AnswerKeep") rfl), He.meth_ok (c.fact 47 (f := .meth "AnswerKeep" "sweep") rfl)⟩
  gc_TwoKeep := He.glo_ok X G (c.fact 48 (f := .glo "TwoKeep") rfl)
  mk_TwoKeep := ⟨He.mkr_ok (c.fact 49 (f := .mkr "TwoKeep") rfl)⟩
  f_law_plain := c.def_ 20 (d := d_law_plain_d) rfl
  glo_law_rounds := He.glo_ok X G (c.fact 50 (f := .glo "_law_rounds") rfl)
  b_str := He.free_ok X G (c.fact 51 (f := .free "str") rfl)
  glo_law_get := He.glo_ok X G (c.fact 52 (f := .glo "_law_get") rfl)
  f_law := c.def_ 21 (d := d_law_d) rfl
theorem Fx.clo {p : Pg} {a : Ad} (E : Fx p a) (cl : List (PySem.Str × Addr)) : Fx (p.at cl) a := ⟨⟨E.fld_saved.1, E.fld_saved.2⟩, ⟨E.fld_lacked.1, E.fld_lacked.2⟩, ⟨E.fld_had.1, E.fld_had.2⟩, ⟨E.fld_rows.1, E.fld_rows.2⟩, ⟨E.fld_many.1, E.fld_many.2⟩, ⟨E.e_KeepError.1, E.e_KeepError.2, E.e_KeepError.3, E.e_KeepError.4, E.e_KeepError.5⟩, E.f_AnswerKeep_init, E.f_AnswerKeep_get, E.b_tuple, E.b_len, E.b_list, E.f_AnswerKeep_put, E.f_AnswerKeep_sweep, E.f_AnswerKeep_hit_share, E.f_AnswerKeep_keep_lines, E.gc_AnswerKeep, ⟨E.mk_AnswerKeep.1⟩, ⟨E.fld_again.1, E.fld_again.2⟩, ⟨E.fld_once.1, E.fld_once.2⟩, E.f_TwoKeep_init, ⟨E.m_AnswerKeep_put.1, E.m_AnswerKeep_put.2⟩, E.b_dict, ⟨E.m_AnswerKeep_get.1, E.m_AnswerKeep_get.2⟩, E.f_TwoKeep_get, E.f_TwoKeep_put, E.f_TwoKeep_kept_keys, E.b_range, E.f_next_place, E.b_enumerate, E.b_min, E.glo_next_place, E.f_best_kept, E.f_lasting_kept, E.b_sorted, E.f_plain_key, E.b_int, E.b_abs, E.f_law_dice, E.glo_law_roll, E.f_law_roll, E.glo_law_dice, E.f_law_rounds, E.b_max, E.glo_law_best, E.f_law_best, E.f_law_get, E.glo_law_told, E.f_law_told, E.x_told, E.glo_plain_key, E.glo_lasting_kept, E.glo_best_kept, ⟨E.m_TwoKeep_kept_keys.1, E.m_TwoKeep_kept_keys.2⟩, ⟨E.m_TwoKeep_get.1, E.m_TwoKeep_get.2⟩, ⟨E.m_TwoKeep_put.1, E.m_TwoKeep_put.2⟩, ⟨E.m_AnswerKeep_hit_share.1, E.m_AnswerKeep_hit_share.2⟩, ⟨E.m_AnswerKeep_keep_lines.1, E.m_AnswerKeep_keep_lines.2⟩, ⟨E.m_AnswerKeep_sweep.1, E.m_AnswerKeep_sweep.2⟩, E.gc_TwoKeep, ⟨E.mk_TwoKeep.1⟩, E.f_law_plain, E.glo_law_rounds, E.b_str, E.glo_law_get, E.f_law⟩
end K21
end
section
set_option Elab.async false
set_option linter.all false
set_option maxRecDepth 100000
set_option maxHeartbeats 4000000
namespace EVh
open PySem PySem.Spec PyProof.Rows L2
/-- what is known, without what stands at P -/
def without (K : PySem.W.Frag) (P : Addr) : PySem.W.Frag := K.filter fun e => decide (e.1 ≠ P)
theorem without_lookup {K : PySem.W.Frag} {P a : Addr} {o : Obj} : (without K P).lookup a = some o → K.lookup a = some o := by
  unfold without
  induction K with
  | nil => intro h; cases h
  | cons e r ih =>
    obtain ⟨b, ob⟩ := e
    intro h
    rw [List.filter_cons] at h
    by_cases hb : b = P
    · simp only [hb, ne_eq, not_true_eq_false, decide_false, Bool.false_eq_true, if_false] at h
      have h2 := ih h
      rw [List.lookup_cons]
      cases q : a == b with
      | false => exact h2
      | true =>
        have e : a = b := by simpa using q
        subst e
        subst hb
        exfalso
        have : ∀ (l : PySem.W.Frag), (l.filter fun e => decide (e.1 ≠ a)).lookup a = none := by
          intro l
          induction l with
          | nil => rfl
          | cons x xs ih2 =>
            rw [List.filter_cons]
            split
            · rename_i hx
              rw [List.lookup_cons]
              have : (a == x.1) = false := beq_false_of_ne (Ne.symm (of_decide_eq_true hx))
              rw [this]
              exact ih2
            · exact ih2
        rw [this] at h
        cases h
    · simp only [ne_eq, hb, not_false_eq_true, decide_true, if_true] at h
      rw [List.lookup_cons] at h ⊢
      cases q : a == b with
      | false => rw [q] at h; exact ih h
      | true => rw [q] at h; exact h
theorem without_none (K : PySem.W.Frag) (P : Addr) : (without K P).lookup P = none := by
  unfold without
  induction K with
  | nil => rfl
  | cons x xs ih =>
    rw [List.filter_cons]
    split
    · rename_i hx
      rw [List.lookup_cons]
      have : (P == x.1) = false := beq_false_of_ne (Ne.symm (of_decide_eq_true hx))
      rw [this]
      exact ih
    · exact ih
theorem without_in {K : PySem.W.Frag} {P : Addr} {h : Heap} (X : K.In h) : (without K P).In h := fun a o e => X a o (without_lookup e)
/-- the table of the def x -/
def tabP (K : PySem.W.Frag) (x : Str) : Addr := match PySem.W.tabIn K x with
  | some (_, P) => P
  | none => 0
def okTab (K : PySem.W.Frag) (x : Str) (P : Addr) : Bool := match PySem.W.tabIn K x with
  | some (_, P') => decide (P' = P)
  | none => false
abbrev AlL : Type := He.AlD × Bool
def obsK (fa : List He.Fa) (fn : List He.DefD) (x : Str) (K0 : PySem.W.Frag) : AlL := (He.obsD fa fn (without K0 (tabP K0 x)), okTab (without K0 (tabP K0 x)) x (tabP K0 x))
def obsLG (n : Nat) (fa : List He.Fa) (fn : List He.DefD) (x : Str) (g : Addr → Option Obj) : AlL := obsK fa fn x (He.frG g (He.asD g n))
/-- what the law's defs are, and where the lambdas' table of the def x stands -/
structure SaysL (fa : List He.Fa) (fn : List He.DefD) (x : Str) (h : Heap) (K : PySem.W.Frag) (c P : Addr) : Prop where
  kin : K.In h
  says : He.SaysD fa fn K
  tab : PySem.W.tabIn K x = some (c, P)
  no : K.lookup P = none
def hookL (n : Nat) (fa : List He.Fa) (fn : List He.DefD) (x : Str) : PySem.W.Hook where
  α := AlL
  obs := fun s => obsLG n fa fn x s.heap.get?
  val := fun _ => (He.valD fn, true)
  says := fun _ h => ∃ K c P, SaysL fa fn x h K c P
  of := fun _ s e => by
    have e1 : He.obsD fa fn (without (He.frG s.heap.get? (He.asD s.heap.get? n)) (tabP (He.frG s.heap.get? (He.asD s.heap.get? n)) x)) = He.valD fn := congrArg (fun z : AlL => z.1) e
    have e2 : okTab (without (He.frG s.heap.get? (He.asD s.heap.get? n)) (tabP (He.frG s.heap.get? (He.asD s.heap.get? n)) x)) x (tabP (He.frG s.heap.get? (He.asD s.heap.get? n)) x) = true := congrArg (fun z : AlL => z.2) e
    generalize hK : He.frG s.heap.get? (He.asD s.heap.get? n) = K0 at e1 e2
    have kin : K0.In s.heap := by rw [← hK]; exact He.frG_in
    unfold okTab at e2
    split at e2
    · rename_i c P' q
      have e3 : P' = tabP K0 x := of_decide_eq_true e2
      subst e3
      exact ⟨_, c, _, without_in kin, e1, q, without_none _ _⟩
    · cases e2
  keeps := fun _ _ _ ⟨K, c, P, z⟩ k => ⟨K, c, P, PySem.W.Frag.In.keeps z.kin k, z.says, z.tab, z.no⟩
theorem obsLG_eq {n : Nat} {fa : List He.Fa} {fn : List He.DefD} {x : Str} {g : Addr → Option Obj} {s : Shared} (h : ∀ a, g a = s.heap.get? a) : obsLG n fa fn x g = (hookL n fa fn x).obs s := by
  have e : g = s.heap.get? := funext h
  rw [e] <;> rfl
/-- the end, where the tables of the view's defs are told -/
theorem walk_top {l : PySem.W.OpenLaw} {n k : Nat} {q : Program} {loose : List Str} {XP : (Str → Option Value) → Heap → Prop} {YP : World → Heap → Prop} {d : DefRec} {CX : World → CXT} {x : Str}
    (hn : l.most = some n) (hn2 : n ≤ sizeLine) (hdf : d.params.defaults = []) (hr : Room k callerA)
    (F : ∀ (w : World) (mg : Str → Option Value) (fa : Addr) (h : Heap), YP w h → h.Ns mainGlobals mg → mg d.name = some (.ref fa) →
      (∀ (K : PySem.W.Frag) (y : Str) (c P : Addr), K.In h → ((recsOf q).any fun e => e.name == y) = true → PySem.W.tabIn K y = some (c, P) → PySem.W.CodeHd h c P ∧ h.get? P = some { cls := .none, data := .fields #[] }) →
      ∃ K : PySem.W.Frag, K.In h ∧ LamX.LawAtS l w K (CX w) k n x mg fa h)
    (hCX : ∀ (w : World) (H : Hp) (s : Shared) (e : Value) (s' : Shared), CX w [] H s (fun _ _ _ => False) e s' → False) :
    PySem.W.WalkO q loose XP YP l.row.toRowW d [] (fun f vs => PySem.call f vs) := by
  refine Att.attach_callB hn hdf fun w s₀ s₁ mg mb fa o pm cd doc a vs ns G Y ho hd hcd hmg hobj hints hlen hbits hg => ?_
  obtain ⟨K, KX, fd, cs, sp, hT, nT, C, hb, hsp, hF⟩ := F w mg fa _ Y G.T.g hmg fun K y c P kx hy ht => by
    obtain ⟨dd, hm, e⟩ := List.any_eq_true.mp hy
    cases hf : (recsOf q).find? (fun e => e.name == y) with
    | none =>
      have := List.find?_eq_none.mp hf dd hm
      exact absurd e this
    | some d2 => exact PySem.W.tab_of G.T kx hf ht
  exact LamX.law_callTs KX G.T.g G.T.b G.T.builtins G.T.nolimit hg hT nT C G.T.bmain hobj hints (Nat.le_trans hlen hn2) hr hF hb (fun H hH hS => hsp H a ns hlen hbits hH hS) fun H e s' => hCX w H s₁ e s'
theorem cx_false {P : Program} {w : World} : ∀ (H : Hp) (s : Shared) (e : Value) (s' : Shared), L2.CX P w [] H s (fun _ _ _ => False) e s' → False := fun H s e s' z => by
  obtain ⟨_, _, _, _, _, _, _, _, _, _, _, _, q⟩ := z
  exact q
/-- the code object of a def whose table is told -/
theorem code_of {K : PySem.W.Frag} {x qual : Str} {params : Arguments} {body : List Stmt} {scope : Scope} {f c P : Addr} {fd : FuncData} (F : FunD K x qual params body scope [] [] f fd) {y : Str} (hns : PySem.W.nsIn K mainGlobals y = some (some (.ref f))) (ht : PySem.W.tabIn K y = some (c, P)) : fd.code = .ref c := by
  obtain ⟨oc, od, dV, kV, doc, pm, an, cdv, ct, osl, e, lk, _, _, _⟩ := F.ex
  unfold PySem.W.tabIn at ht
  rw [hns] at ht
  dsimp only at ht
  rw [lk] at ht
  dsimp only at ht
  split at ht
  · rename_i c' hc
    split at ht
    · split at ht
      · cases ht
        exact hc
      · cases ht
    · cases ht
  · cases ht
end EVh
end
section
set_option Elab.async false
set_option linter.all false
set_option maxRecDepth 100000
set_option maxHeartbeats 0
namespace K21
open PySem L2 EV
abbrev LW : PySem.W.OpenLaw := PySem.Challenge.rw_searchstack_k21_answers_that_are_kept
/-- every script: the loop ends, no return within -/
def Math : Prop := ∀ ns : List Int, ns.length ≤ 63 → (∀ z ∈ ns, Builtin.Int.intBits z ≤ 1048576) → ∃ st, m_law ⟨startD N_law [scD (ns.map .int)], []⟩ = .ok .nx st
theorem plain_true : isRT (m_law_plain ⟨startD N_law_plain [], []⟩) = true := by decide +kernel
theorem ns_plain {K : PySem.W.Frag} (c : He.SaysD faL fnL K) : PySem.W.nsIn K mainGlobals "_law_plain" = some (some (.ref (He.ga K "_law_plain"))) := He.eqO_ok (c.fact 53 (f := .glo "_law_plain") rfl)
theorem plain_ok {P0 : Program} {W : World} {mg : PySem.Str → Option Value} {base h : Heap} {K : PySem.W.Frag} {cc P : Addr} (X : K.In h) (G : h.Ns mainGlobals mg) (c : He.SaysD faL fnL K) (ht : PySem.W.tabIn K "_law_plain" = some (cc, P)) (TB : LamX.TabB base mg cc P) :
    ∃ fd, FnOk P0 W K mg base (L2.CX P0 W) 7 (He.ga K "_law_plain") fd [] (spPlain (wdOf K P)) ∧ L2.Binds K fd [] [] ∧ PySem.W.keepIn K (.ref (He.ga K "_law_plain")) = true := by
  have E : Fx (pgOf P0 W mg base K P) (adOf K) := fx X G c
  obtain ⟨fd, F⟩ := E.f_law_plain
  refine ⟨fd, ?_, F.bindsN (ps := []) (fun _ _ _ _ _ _ us hl => match us, hl with | [], _ => rfl), F.kp⟩
  exact plain_fn (p := pgOf P0 W mg base K P) (k := 6) F S_law_plain (EVh.code_of F (ns_plain c) ht) TB (List.mem_singleton.mpr rfl) (fun t h1 _ => by rw [List.mem_singleton.mp h1]; rfl) (fun cl Y hx hm => d_law_plain (E.clo cl) hx hm rfl (t_law_told (E.clo cl))) plain_true
theorem law_at (hm : Math) {W : World} {mg : PySem.Str → Option Value} {h : Heap} {K : PySem.W.Frag} {cc P fa : Addr} (Y : EVh.SaysL faL fnL "_law_plain" h K cc P) (G : h.Ns mainGlobals mg) (hfa : mg "law" = some (.ref fa)) (hc : PySem.W.CodeHd h cc P) (hP : h.get? P = some { cls := .none, data := .fields #[] }) :
    LamX.LawAtS LW W K (L2.CX LW.prog W) 12 63 "script" mg fa h := by
  have E0 : Fx (pgOf LW.prog W mg h K P) (adOf K) := fx Y.kin G Y.says
  obtain ⟨fd, F⟩ := E0.f_law
  have e := hfa.symm.trans (He.glo_ok Y.kin G (Y.says.fact 54 (f := .glo "law") rfl))
  cases e
  refine ⟨fd, [(cc, P)], spLaw (wdOf K P) 63, fun p hp => ?_, fun p hp => ?_, fun p hp => ?_, fun s v => ?_, fun H a ns hl hz hT hS => ?_, fun base KX GX TB => ?_⟩
  · rw [List.mem_singleton.mp hp]; exact hP
  · rw [List.mem_singleton.mp hp]; exact Y.no
  · rw [List.mem_singleton.mp hp]; exact hc
  · exact FunD.bindsA (ps := ["script"]) F (fun _ _ _ _ _ _ us hl => match us, hl with | [_], _ => rfl) s [v] rfl
  · refine ⟨a, ns, rfl, hl, hz, hS, fun t ht => ?_, fun _ => rfl⟩
    rw [List.mem_singleton.mp ht]
    exact LamX.TabS.nil (hT (cc, P) (List.mem_singleton.mpr rfl))
  · have E : Fx (pgOf LW.prog W mg base K P) (adOf K) := fx KX GX Y.says
    obtain ⟨fdp, G2, hb, hk⟩ := plain_ok (P0 := LW.prog) (W := W) KX GX Y.says Y.tab (TB (cc, P) (List.mem_singleton.mpr rfl))
    exact law_fn (p := pgOf LW.prog W mg base K P) (k := 11) (kp := 7) (most := 63) F S_law rfl G2 hk hb (He.glo_ok KX GX (Y.says.fact 53 (f := .glo "_law_plain") rfl)) (by decide) (by decide +kernel) (fun Y hx => d_law E hx) hm
def hk : PySem.W.Hook := EVh.hookL 4 faL fnL "_law_plain"
def ob (s : PySem.W.SharedT) : EVh.AlL := EVh.obsLG 4 faL fnL "_law_plain" (HandSHeadRun.getT s)
theorem ob_eq (s : PySem.W.SharedT) : ob s = hk.obs s.abs := EVh.obsLG_eq (HandSHeadRun.getT_eq s)
def loose : List PySem.Str := ["SearchFault", "KeepError", "AnswerKeep", "TwoKeep", "best_kept", "next_place", "lasting_kept", "plain_key", "_law_dice", "_law_roll", "_law_rounds", "_law_told", "_law_best", "_law_get"]
theorem run (w : World) : HandSHeadRun.RunEq (PySem.W.OpenLaw.row LW) (PySem.W.view (PySem.W.OpenLaw.row LW).prog [17, 18]) hk ob 6000 loose w := by
  intro os
  kernel_rfl
theorem holds (hm : Math) : PySem.W.OpenLaw.Holds LW := by
  w_on; o_law
  refine HandSHeadRun.head_any (r := PySem.W.OpenLaw.row LW) (q := PySem.W.view (PySem.W.OpenLaw.row LW).prog [17, 18]) (H := hk) (ob := ob) (M := 6000) (loose := loose) (d := HandSHeadRun.topDef (PySem.W.OpenLaw.row LW).prog 18) (kwd := []) ob_eq
    (by kernel_rfl) (fun s => by kernel_rfl) run (by kernel_rfl) (by kernel_rfl) (by kernel_rfl) (by rfl) (by first | assumption | decide +kernel) (by decide +kernel) ⟨rfl, rfl, rfl, rfl, rfl, by decide +kernel⟩ ?hw ?hc
  case hw => w_witness2
  case hc =>
    refine EVh.walk_top (l := LW) (n := 63) (k := 12) (x := "script") (CX := fun w => L2.CX LW.prog w) rfl (by decide) (by kernel_rfl) ⟨rfl, by decide, by decide⟩ (fun w mg fa h Y G hmg0 tab => ?_) (fun w => EVh.cx_false)
    obtain ⟨K, cc, P, Y⟩ := Y
    have hmg : mg ("law" : PySem.Str) = some (.ref fa) := by
      have e : (HandSHeadRun.topDef (PySem.W.OpenLaw.row LW).prog 18).name = ("law" : PySem.Str) := by kernel_rfl
      rw [← e]
      exact hmg0
    obtain ⟨hc, hP⟩ := tab K "_law_plain" cc P Y.kin (by kernel_rfl) Y.tab
    exact ⟨K, Y.kin, law_at hm Y G hmg hc hP⟩
end K21
end
section
set_option Elab.async false
set_option linter.all false
set_option maxRecDepth 10000
set_option maxHeartbeats 4000000
namespace EV
open PySem L2
/-! ### computing with the readings: rules for simp -/
theorem ref_lst {so : List SO} {n : Nat} {xs : List D} (h : so[n]? = some (.lst xs)) : lstOf so (rf n) = some xs := by simp [lstOf, h]
theorem ref_ins {so : List SO} {n c : Nat} {fs : List (PySem.Str × D)} (h : so[n]? = some (.ins c fs)) : insOf so (rf n) = some (n, c, fs) := by simp [insOf, h]
theorem ref_dct {so : List SO} {n : Nat} {kvs : List (Key × D)} (h : so[n]? = some (.dct kvs)) : dctOf so (rf n) = some (n, kvs, false) := by simp [dctOf, h]
theorem ref_src {so : List SO} {n : Nat} {xs : List D} (h : so[n]? = some (.lst xs)) : srcOf so (rf n) = some (.lv n) := by simp [srcOf, h]
section
variable {so : List SO}
@[simp] theorem dLt_ii (x y : Int) : dLt (.int x) (.int y) so = some (.bool (decide (x < y)), so) := by simp [dCmp, deepOk, cmpOk, dref, PyData.plain, PyData.depth, PySem.W.dataLt_int, PySem.W.alike]
@[simp] theorem dGt_ii (x y : Int) : dGt (.int x) (.int y) so = some (.bool (decide (y < x)), so) := by simp [dCmp, deepOk, cmpOk, dref, PyData.plain, PyData.depth, PySem.W.dataLt_int, PySem.W.alike]
@[simp] theorem dLe_ii (x y : Int) : dLe (.int x) (.int y) so = some (.bool (decide (x ≤ y)), so) := by
  have : (!decide (y < x)) = decide (x ≤ y) := by by_cases h : y < x <;> simp [h] <;> omega
  simp [dCmp, deepOk, cmpOk, dref, PyData.plain, PyData.depth, PySem.W.dataLt_int, PySem.W.alike, this]
@[simp] theorem dGe_ii (x y : Int) : dGe (.int x) (.int y) so = some (.bool (decide (y ≤ x)), so) := by
  have : (!decide (x < y)) = decide (y ≤ x) := by by_cases h : x < y <;> simp [h] <;> omega
  simp [dCmp, deepOk, cmpOk, dref, PyData.plain, PyData.depth, PySem.W.dataLt_int, PySem.W.alike, this]
@[simp] theorem dEq_ii (x y : Int) : dEq (.int x) (.int y) so = some (.bool (decide (x = y)), so) := by
  have : (x == y) = decide (x = y) := by by_cases h : x = y <;> simp [h]
  simp only [dEq, dCmp, deepOk, dref, PyData.plain, PyData.depth, PyData.eqv, this]
  simp
@[simp] theorem dNe_ii (x y : Int) : dNe (.int x) (.int y) so = some (.bool (!decide (x = y)), so) := by
  have : (x == y) = decide (x = y) := by by_cases h : x = y <;> simp [h]
  simp only [dNe, dCmp, deepOk, dref, PyData.plain, PyData.depth, PyData.eqv, this]
  simp
@[simp] theorem dAdd_ii (x y : Int) : dAdd (.int x) (.int y) so = some (.int (x + y), so) := rfl
@[simp] theorem dAddI_ii (x y : Int) : dAddI (.int x) (.int y) so = some (.int (x + y), so) := rfl
@[simp] theorem dSub_ii (x y : Int) : dSub (.int x) (.int y) so = some (.int (x - y), so) := rfl
theorem dDiv_ii {x y : Int} (h : 0 < y) (h2 : y < 1073741824) : dDiv (.int x) (.int y) so = some (.int (x / y), so) := by simp [dDiv, h, h2]
theorem dMod_ii {x y : Int} (h : 0 < y) : dMod (.int x) (.int y) so = some (.int (x % y), so) := by simp [dMod, h]
theorem dMul_ii {x y : Int} (h : small x = true ∨ small y = true) : dMul (.int x) (.int y) so = some (.int (x * y), so) := by
  show (if small x = true ∨ small y = true then some (PyData.int (x * y), so) else none) = _
  rw [if_pos h]
end
/-- a call that leaves the store's length is not cut -/
theorem gcR_same {m : Nat} {d : D} {so : List SO} (h : so.length = m) : gcR m (.ok d so) = .ok d so := by
  unfold gcR
  subst h
  simp
theorem bnd_ok {α β : Type} {f : M α} {g : α → M β} {st : St} {a : α} {so : List SO} (h : f st = .ok a so) : bnd f g st = g a ⟨st.vars, so⟩ := by
  unfold bnd
  rw [h]
end EV
end
section
set_option Elab.async false
set_option linter.all false
set_option maxRecDepth 10000
set_option maxHeartbeats 4000000
namespace K21
open PySem L2 EV
abbrev keepF (m : Int) (r : Nat) (a b c : Int) : List (PySem.Str × D) := [("many", .int m), ("rows", rf r), ("had", .int a), ("lacked", .int b), ("saved", .int c)]
theorem hit_share_eq {so : List SO} {n r : Nat} {m a b c : Int} (h : so[n]? = some (.ins 0 (keepF m r a b c))) (ha : 0 ≤ a) (hb : 0 ≤ b) (hs : a + b < 1000000000) :
    g_AnswerKeep_hit_share [rf n] so = .ok (.int (if 0 < a + b then 1000 * a / (a + b) else 0)) so := by
  have e0 := ref_ins h
  have l1 : List.lookup ("had" : PySem.Str) (keepF m r a b c) = some (PyData.int a) := by rfl
  have l2 : List.lookup ("lacked" : PySem.Str) (keepF m r a b c) = some (PyData.int b) := by rfl
  have m1 : dMul (.int 1000) (.int a) so = some (.int (1000 * a), so) := dMul_ii (.inl (by decide))
  by_cases hp : 0 < a + b
  · have d1 : dDiv (.int (1000 * a)) (.int (a + b)) so = some (.int (1000 * a / (a + b)), so) := dDiv_ii hp (by omega)
    simp [g_AnswerKeep_hit_share, fnM, m_AnswerKeep_hit_share, sSeq, sAsg, bndS, eOp, bnd, eFld, kFld, eVar, startD, tName, rtS, sRet, eIf, eB, kB, eC, EV.ret, lft, e0, l1, l2, hp, m1, d1]
  · simp [g_AnswerKeep_hit_share, fnM, m_AnswerKeep_hit_share, sSeq, sAsg, bndS, eOp, bnd, eFld, kFld, eVar, startD, tName, rtS, sRet, eIf, eB, kB, eC, EV.ret, lft, e0, l1, l2, hp]
theorem ix_lst {so : List SO} {n : Nat} {xs : List D} {i : Int} {d : D} (h : so[n]? = some (.lst xs)) (e : atI xs i = some d) : dIx (rf n) (.int i) so = some (d, so) := by
  show (match lstOf so (rf n), (PyData.int i) with
    | some xs, .int i => (atI xs i).map fun d => (d, so)
    | some _, _ => none
    | none, y => match dctOf so (rf n), keyD y with
      | some (_, kvs, _), some k => (dGet kvs k).map fun d => (d, so)
      | _, _ => none) = _
  rw [ref_lst h]
  simp [e]
theorem set_lst {so : List SO} {n j : Nat} {xs : List D} {i : Int} {d : D} (h : so[n]? = some (.lst xs)) (e : ixN xs.length i = some j) : kSet (rf n) (.int i) d so = some (so.set n (.lst (xs.set j d))) := by
  simp [kSet, h, e]
theorem roll_eq {so : List SO} {n : Nat} {c t s many : Int} (h : so[n]? = some (.lst [.int c, .int t, .int s])) (h0 : 0 < many) (h1 : many ≤ 100000000) :
    ∃ v c' t' s', 0 ≤ v ∧ v < many ∧ g_law_roll 3 [rf n, .int many] so = .ok (.int v) (so.set n (.lst [.int c', .int t', .int s'])) := by
  have hn : n < so.length := (List.getElem?_eq_some_iff.mp h).1
  have i0 : dIx (rf n) (.int 0) so = some (.int c, so) := ix_lst h rfl
  have i2 : dIx (rf n) (.int 2) so = some (.int s, so) := ix_lst h rfl
  have md : dMod (.int c) (.int many) so = some (.int (c % many), so) := dMod_ii h0
  have dv : dDiv (.int c) (.int many) so = some (.int (c / many), so) := dDiv_ii h0 (by omega)
  have s0 : kSet (rf n) (.int 0) (.int (c / many)) so = some (so.set n (.lst [.int (c / many), .int t, .int s])) := set_lst (j := 0) h rfl
  by_cases hs : s = 2 ∨ (s = 1 ∧ 0 < c)
  · refine ⟨c % many, c / many, t, s, Int.emod_nonneg _ (by omega), Int.emod_lt_of_pos _ h0, ?_⟩
    have hi : dInt [.int c] so = some (.int c, so) := rfl
    rcases hs with rfl | ⟨rfl, hc⟩
    · simp [g_law_roll, fnM, m_law_roll, sSeq, sAsg, sIf, bndS, eOp, bnd, eVar, startD, tName, EV.tSub, bndT, rtS, sRet, eB, kB, eC, EV.ret, lft, mOr, mAnd, eCB, eCons, eNil, sNext, i0, i2, hi, md, dv, s0]
    · simp [g_law_roll, fnM, m_law_roll, sSeq, sAsg, sIf, bndS, eOp, bnd, eVar, startD, tName, EV.tSub, bndT, rtS, sRet, eB, kB, eC, EV.ret, lft, mOr, mAnd, eCB, eCons, eNil, sNext, i0, i2, hi, md, dv, s0, hc]
  · -- the cell is used up: a running number
    have z1 : so[n]? = some (.lst [.int c, .int t, .int s]) := h
    have k1 : kSet (rf n) (.int 2) (.int 0) so = some (so.set n (.lst [.int c, .int t, .int 0])) := set_lst (j := 2) h rfl
    have h2 : (so.set n (.lst [.int c, .int t, .int 0]))[n]? = some (.lst [.int c, .int t, .int 0]) := by rw [List.getElem?_set_self hn]
    let c1 := (c * 48271 + t * 69621 + 11) % 2147483647
    have j0 : dIx (rf n) (.int 0) (so.set n (.lst [.int c, .int t, .int 0])) = some (.int c, so.set n (.lst [.int c, .int t, .int 0])) := ix_lst h2 rfl
    have j1 : dIx (rf n) (.int 1) (so.set n (.lst [.int c, .int t, .int 0])) = some (.int t, so.set n (.lst [.int c, .int t, .int 0])) := ix_lst h2 rfl
    have m1 : ∀ so : List SO, dMul (.int c) (.int 48271) so = some (.int (c * 48271), so) := fun so => dMul_ii (.inr (by decide))
    have m2 : ∀ so : List SO, dMul (.int t) (.int 69621) so = some (.int (t * 69621), so) := fun so => dMul_ii (.inr (by decide))
    have hi : ∀ (x : Int) (so : List SO), dInt [.int x] so = some (.int x, so) := fun _ _ => rfl
    have r1 : ∀ (x : Int) (so : List SO), dMod (.int x) (.int 2147483647) so = some (.int (x % 2147483647), so) := fun x so => dMod_ii (by decide)
    have k2 : kSet (rf n) (.int 0) (.int c1) (so.set n (.lst [.int c, .int t, .int 0])) = some (so.set n (.lst [.int c1, .int t, .int 0])) := by
      rw [set_lst (j := 0) h2 rfl, List.set_set]; rfl
    have h3 : (so.set n (.lst [.int c1, .int t, .int 0]))[n]? = some (.lst [.int c1, .int t, .int 0]) := by rw [List.getElem?_set_self hn]
    have j2 : dIx (rf n) (.int 1) (so.set n (.lst [.int c1, .int t, .int 0])) = some (.int t, so.set n (.lst [.int c1, .int t, .int 0])) := ix_lst h3 rfl
    have k3 : kSet (rf n) (.int 1) (.int (t + 1)) (so.set n (.lst [.int c1, .int t, .int 0])) = some (so.set n (.lst [.int c1, .int (t + 1), .int 0])) := by
      rw [set_lst (j := 1) h3 rfl, List.set_set]; rfl
    have h4 : (so.set n (.lst [.int c1, .int (t + 1), .int 0]))[n]? = some (.lst [.int c1, .int (t + 1), .int 0]) := by rw [List.getElem?_set_self hn]
    have j3 : dIx (rf n) (.int 0) (so.set n (.lst [.int c1, .int (t + 1), .int 0])) = some (.int c1, so.set n (.lst [.int c1, .int (t + 1), .int 0])) := ix_lst h4 rfl
    have d7 : ∀ (x : Int) (so : List SO), dDiv (.int x) (.int 7) so = some (.int (x / 7), so) := fun x so => dDiv_ii (by decide) (by decide)
    have mm : ∀ (x : Int) (so : List SO), dMod (.int x) (.int many) so = some (.int (x % many), so) := fun x so => dMod_ii h0
    have hb : ¬ 100000000 < many := by omega
    refine ⟨c1 / 7 % many, c1, t + 1, 0, Int.emod_nonneg _ (by omega), Int.emod_lt_of_pos _ h0, ?_⟩
    have hs2 : ¬ s = 2 := fun z => hs (.inl z)
    by_cases hs1 : s = 1
    · have hc : ¬ 0 < c := fun z => hs (.inr ⟨hs1, z⟩)
      subst hs1
      simp [g_law_roll, fnM, m_law_roll, sSeq, sAsg, sIf, bndS, eOp, bnd, eVar, startD, tName, EV.tSub, bndT, rtS, sRet, eB, kB, eC, EV.ret, lft, mOr, mAnd, eCB, eCons, eNil, sNext, i0, i2, hi, k1, j0, j1, m1, m2, r1, hc, hb, mm, d7]
      simp [c1] at k2 j2 k3 j3 ⊢
      simp [k2, j2, k3, j3, mm, d7, hi]
    · simp [g_law_roll, fnM, m_law_roll, sSeq, sAsg, sIf, bndS, eOp, bnd, eVar, startD, tName, EV.tSub, bndT, rtS, sRet, eB, kB, eC, EV.ret, lft, mOr, mAnd, eCB, eCons, eNil, sNext, i0, i2, hi, k1, j0, j1, m1, m2, r1, hs1, hs2, hb, mm, d7]
      simp [c1] at k2 j2 k3 j3 ⊢
      simp [k2, j2, k3, j3, mm, d7, hi]
end K21
end
section
set_option Elab.async false
set_option linter.all false
set_option maxRecDepth 10000
set_option maxHeartbeats 4000000
namespace K21
open PySem L2 EV
theorem in_dct {so : List SO} {r : Nat} {kvs : List (Key × D)} {k : PySem.Str} (h : so[r]? = some (.dct kvs)) : dIn (.str k) (rf r) so = some (.bool (dGet kvs (.inr k)).isSome, so) := by
  simp [dIn, inGo, dref, dctOf, h, keyD]
theorem ix_dct {so : List SO} {r : Nat} {kvs : List (Key × D)} {k : PySem.Str} {d : D} (h : so[r]? = some (.dct kvs)) (e : dGet kvs (.inr k) = some d) : dIx (rf r) (.str k) so = some (d, so) := by
  simp [dIx, lstOf, dctOf, h, keyD, e]
theorem ix_tup {so : List SO} {xs : List D} {i : Int} {d : D} (e : atI xs i = some d) : dIx (.tuple xs) (.int i) so = some (d, so) := by
  simp [dIx, e]
theorem lk_rows {m a b c : Int} {r : Nat} : List.lookup ("rows" : PySem.Str) (keepF m r a b c) = some (rf r) := by rfl
theorem lk_had {m a b c : Int} {r : Nat} : List.lookup ("had" : PySem.Str) (keepF m r a b c) = some (.int a) := by rfl
theorem lk_lacked {m a b c : Int} {r : Nat} : List.lookup ("lacked" : PySem.Str) (keepF m r a b c) = some (.int b) := by rfl
theorem lk_saved {m a b c : Int} {r : Nat} : List.lookup ("saved" : PySem.Str) (keepF m r a b c) = some (.int c) := by rfl
theorem lk_many {m a b c : Int} {r : Nat} : List.lookup ("many" : PySem.Str) (keepF m r a b c) = some (.int m) := by rfl
theorem put_lacked {m a b c d : Int} {r : Nat} : dPutF ("lacked" : PySem.Str) (.int d) (keepF m r a b c) = keepF m r a d c := by rfl
theorem put_had {m a b c d : Int} {r : Nat} : dPutF ("had" : PySem.Str) (.int d) (keepF m r a b c) = keepF m r d b c := by rfl
theorem put_saved {m a b c d : Int} {r : Nat} : dPutF ("saved" : PySem.Str) (.int d) (keepF m r a b c) = keepF m r a b d := by rfl
theorem drop_none {kvs : List (Key × D)} {k : Key} (h : dGet kvs k = none) : dDrop kvs k = kvs := by
  unfold dGet at h
  unfold dDrop
  rw [List.filter_eq_self]
  have z : ∀ (a : Key) (b : D), (a, b) ∈ kvs → ¬a = k := by simpa using h
  rintro ⟨a, d⟩ ha
  simpa using z a d ha
/-- the key is not there -/
theorem get_none {so : List SO} {n r : Nat} {m a b c : Int} {kvs : List (Key × D)} {k : PySem.Str} {s : Int} (h : so[n]? = some (.ins 0 (keepF m r a b c))) (hr : so[r]? = some (.dct kvs)) (e : dGet kvs (.inr k) = none) :
    g_AnswerKeep_get [rf n, .str k, .int s] so = .ok .none (so.set n (.ins 0 (keepF m r a (b + 1) c))) := by
  have e0 := ref_ins h
  have hi : dIn (.str k) (rf r) so = some (.bool false, so) := by rw [in_dct hr, e]; rfl
  have hd := ref_dct hr
  have hp : putFldC 0 ("lacked" : PySem.Str) (rf n) (.int (b + 1)) so = some (so.set n (.ins 0 (keepF m r a (b + 1) c))) := by
    simp [putFldC, e0, put_lacked]
  simp [g_AnswerKeep_get, fnM, m_AnswerKeep_get, sSeq, sAsg, sIf, sExpr, bndS, eOp, bnd, eFld, kFld, eVar, startD, tName, rtS, sRet, eB, kB, eC, EV.ret, lft, mAnd, sNext, sFldA, ePop2, kPop2, e0, lk_rows, lk_lacked, hi, hd, keyD, e, hp]
/-- it is there, of the state -/
theorem get_hit {so : List SO} {n r : Nat} {m a b c : Int} {kvs : List (Key × D)} {k : PySem.Str} {s w : Int} {x : D} (h : so[n]? = some (.ins 0 (keepF m r a b c))) (hr : so[r]? = some (.dct kvs)) (hm : kvs.length ≤ 1000) (e : dGet kvs (.inr k) = some (.tuple [.int s, x, .int w])) :
    g_AnswerKeep_get [rf n, .str k, .int s] so = .ok x ((so.set r (.dct (dPut (dDrop kvs (.inr k)) (.inr k) (.tuple [.int s, x, .int w])))).set n (.ins 0 (keepF m r (a + 1) b (c + w)))) := by
  have hne : r ≠ n := fun z => by subst z; rw [h] at hr; cases hr
  have ln : n < so.length := (List.getElem?_eq_some_iff.mp h).1
  have lr : r < so.length := (List.getElem?_eq_some_iff.mp hr).1
  have e0 := ref_ins h
  have hi : dIn (.str k) (rf r) so = some (.bool true, so) := by rw [in_dct hr, e]; rfl
  have hx : dIx (rf r) (.str k) so = some (.tuple [.int s, x, .int w], so) := ix_dct hr e
  have t0 : ∀ so : List SO, dIx (.tuple [.int s, x, .int w]) (.int 0) so = some (.int s, so) := fun so => ix_tup rfl
  have t1 : ∀ so : List SO, dIx (.tuple [.int s, x, .int w]) (.int 1) so = some (x, so) := fun so => ix_tup rfl
  have t2 : ∀ so : List SO, dIx (.tuple [.int s, x, .int w]) (.int 2) so = some (.int w, so) := fun so => ix_tup rfl
  have hd := ref_dct hr
  have hd1 : (dDrop kvs (.inr k)).length < mx := Nat.lt_of_le_of_lt (List.length_filter_le _ _) (Nat.lt_of_le_of_lt hm (by decide))
  have h1 : (so.set r (.dct (dDrop kvs (.inr k))))[n]? = some (.ins 0 (keepF m r a b c)) := by rw [List.getElem?_set_ne hne]; exact h
  have h2 : (so.set r (.dct (dDrop kvs (.inr k))))[r]? = some (.dct (dDrop kvs (.inr k))) := List.getElem?_set_self lr
  have e1 := ref_ins h1
  have ks : kSet (rf r) (.str k) (.tuple [.int s, x, .int w]) (so.set r (.dct (dDrop kvs (.inr k)))) = some (so.set r (.dct (dPut (dDrop kvs (.inr k)) (.inr k) (.tuple [.int s, x, .int w])))) := by
    simp [kSet, h2, keyD, hd1]
  have h3 : (so.set r (.dct (dPut (dDrop kvs (.inr k)) (.inr k) (.tuple [.int s, x, .int w]))))[n]? = some (.ins 0 (keepF m r a b c)) := by rw [List.getElem?_set_ne hne]; exact h
  have e3 := ref_ins h3
  have p1 : putFldC 0 ("had" : PySem.Str) (rf n) (.int (a + 1)) (so.set r (.dct (dPut (dDrop kvs (.inr k)) (.inr k) (.tuple [.int s, x, .int w])))) = some ((so.set r (.dct (dPut (dDrop kvs (.inr k)) (.inr k) (.tuple [.int s, x, .int w])))).set n (.ins 0 (keepF m r (a + 1) b c))) := by
    simp [putFldC, e3, put_had]
  have h4 : ((so.set r (.dct (dPut (dDrop kvs (.inr k)) (.inr k) (.tuple [.int s, x, .int w])))).set n (.ins 0 (keepF m r (a + 1) b c)))[n]? = some (.ins 0 (keepF m r (a + 1) b c)) := List.getElem?_set_self (by simpa using ln)
  have e4 := ref_ins h4
  have p2 : putFldC 0 ("saved" : PySem.Str) (rf n) (.int (c + w)) ((so.set r (.dct (dPut (dDrop kvs (.inr k)) (.inr k) (.tuple [.int s, x, .int w])))).set n (.ins 0 (keepF m r (a + 1) b c))) = some ((so.set r (.dct (dPut (dDrop kvs (.inr k)) (.inr k) (.tuple [.int s, x, .int w])))).set n (.ins 0 (keepF m r (a + 1) b (c + w)))) := by
    simp [putFldC, e4, put_saved]
  simp [g_AnswerKeep_get, fnM, m_AnswerKeep_get, sSeq, sAsg, sIf, sExpr, bndS, eOp, bnd, eFld, kFld, eVar, startD, tName, EV.tSub, bndT, rtS, sRet, eB, kB, eC, EV.ret, lft, mAnd, sNext, sFldA, ePop1, kPop1, e0, e1, e3, e4, lk_rows, lk_had, lk_saved, hi, hx, t0, t1, t2, hd, keyD, e, ks, p1, p2]
/-- it is there, of another state -/
theorem get_other {so : List SO} {n r : Nat} {m a b c : Int} {kvs : List (Key × D)} {k : PySem.Str} {s s' w : Int} {x : D} (h : so[n]? = some (.ins 0 (keepF m r a b c))) (hr : so[r]? = some (.dct kvs)) (e : dGet kvs (.inr k) = some (.tuple [.int s', x, .int w])) (hs : s' ≠ s) :
    g_AnswerKeep_get [rf n, .str k, .int s] so = .ok .none ((so.set r (.dct (dDrop kvs (.inr k)))).set n (.ins 0 (keepF m r a (b + 1) c))) := by
  have hne : r ≠ n := fun z => by subst z; rw [h] at hr; cases hr
  have e0 := ref_ins h
  have hi : dIn (.str k) (rf r) so = some (.bool true, so) := by rw [in_dct hr, e]; rfl
  have hx : dIx (rf r) (.str k) so = some (.tuple [.int s', x, .int w], so) := ix_dct hr e
  have t0 : ∀ so : List SO, dIx (.tuple [.int s', x, .int w]) (.int 0) so = some (.int s', so) := fun so => ix_tup rfl
  have hd := ref_dct hr
  have h1 : (so.set r (.dct (dDrop kvs (.inr k))))[n]? = some (.ins 0 (keepF m r a b c)) := by rw [List.getElem?_set_ne hne]; exact h
  have e1 := ref_ins h1
  have p1 : putFldC 0 ("lacked" : PySem.Str) (rf n) (.int (b + 1)) (so.set r (.dct (dDrop kvs (.inr k)))) = some ((so.set r (.dct (dDrop kvs (.inr k)))).set n (.ins 0 (keepF m r a (b + 1) c))) := by
    simp [putFldC, e1, put_lacked]
  simp [g_AnswerKeep_get, fnM, m_AnswerKeep_get, sSeq, sAsg, sIf, sExpr, bndS, eOp, bnd, eFld, kFld, eVar, startD, tName, rtS, sRet, eB, kB, eC, EV.ret, lft, mAnd, sNext, sFldA, ePop2, kPop2, e0, e1, lk_rows, lk_lacked, hi, hx, t0, hs, hd, keyD, e, p1]
theorem len_dct {so : List SO} {r : Nat} {kvs : List (Key × D)} (h : so[r]? = some (.dct kvs)) : dLen [rf r] so = some (.int kvs.length, so) := by
  simp [dLen, lstOf, h, dctOf]
/-- a dict put behind: the key goes to the end -/
theorem put_end {kvs : List (Key × D)} {k : Key} {d : D} : dPut (dDrop kvs k) k d = dDrop kvs k ++ [(k, d)] := by
  unfold dPut
  rw [if_neg]
  simp [dDrop]
theorem wh_stop {c : M Bool} {b : MS} {m : Nat} {st : EV.St} {so : List SO} (h : c st = .ok false so) : whGo c b (m + 1) st = .ok .nx ⟨st.vars, so⟩ := by
  simp [whGo, bndS, h]
theorem wh_step {c : M Bool} {b : MS} {m : Nat} {st st2 : EV.St} {so : List SO} (h : c st = .ok true so) (k : b ⟨st.vars, so⟩ = .ok .nx st2) : whGo c b (m + 1) st = whGo c b m st2 := by
  simp [whGo, bndS, h, k]
def putB : MS := (sSeq (sExpr (eApp (eVar 5) (eOp dIx (eCB dList (eCons (eFld 2 "rows" (eVar 0)) (eNil))) (eC (.int 0))))) (sDel (eFld 2 "rows" (eVar 0)) (eOp dIx (eVar 5) (eNeg (eC (.int 1))))))
def putC : M Bool := (eB (eOp dGt (eCB dLen (eCons (eFld 2 "rows" (eVar 0)) (eNil))) (eFld 2 "many" (eVar 0))))
/-- the test of put's loop -/
theorem putC_eq {so : List SO} {n r : Nat} {m a b c : Int} {kvs : List (Key × D)} {vs : List (Option D)} (h : so[n]? = some (.ins 0 (keepF m r a b c))) (hr : so[r]? = some (.dct kvs)) : putC ⟨some (rf n) :: vs, so⟩ = .ok (decide (m < kvs.length)) so := by
  have e0 := ref_ins h
  simp [putC, eB, eOp, bnd, eCB, eCons, eNil, eFld, kFld, eVar, e0, lk_rows, lk_many, len_dct hr, lft, EV.ret, kB]
/-- put, up to its loop -/
theorem put_start {so : List SO} {n r : Nat} {m a b c : Int} {kvs : List (Key × D)} {k : PySem.Str} {s w : Int} {x : D} (h : so[n]? = some (.ins 0 (keepF m r a b c))) (hr : so[r]? = some (.dct kvs)) (hw : 0 ≤ w) (hx : EV.isNon x = false) (hm : kvs.length ≤ 1000) :
    ∃ soP, soP = (so.set r (.dct (dDrop kvs (.inr k) ++ [(.inr k, .tuple [.int s, x, .int w])]))) ++ [.lst []] ∧
    g_AnswerKeep_put [rf n, .str k, .int s, x, .int w] so = (match sSeq (whGo putC putB 1000) (sRet (eCB dTupA (eCons (eVar 5) (eNil)))) ⟨[some (rf n), some (.str k), some (.int s), some x, some (.int w), some (rf so.length)], soP⟩ with
      | .ok .nx st => .ok .none st.so
      | .ok (.ret d) st => .ok d st.so
      | .ok _ _ => .bad
      | .exc c st => .exc c st.so
      | .bad => .bad) := by
  have hne : r ≠ n := fun z => by subst z; rw [h] at hr; cases hr
  have ln : n < so.length := (List.getElem?_eq_some_iff.mp h).1
  have lr : r < so.length := (List.getElem?_eq_some_iff.mp hr).1
  have e0 := ref_ins h
  have hd := ref_dct hr
  have hd1 : (dDrop kvs (.inr k)).length < mx := Nat.lt_of_le_of_lt (List.length_filter_le _ _) (Nat.lt_of_le_of_lt hm (by decide))
  have nn : EV.isNon PyData.none = true := by rfl
  have i0 : dIsN x .none so = some (.bool false, so) := by simp [dIsN, hx, nn]
  have w0 : ¬ w < 0 := by omega
  refine ⟨_, rfl, ?_⟩
  have pop : ∃ so1, so1 = so.set r (.dct (dDrop kvs (.inr k))) ∧ ∀ vs : List (Option D), kPop2 (rf r) (.str k) .none ⟨vs, so⟩ = .ok ((dGet kvs (.inr k)).getD .none) so1 := by
    refine ⟨_, rfl, fun vs => ?_⟩
    cases e : dGet kvs (.inr k) with
    | some d => simp [kPop2, hd, keyD, e]
    | none =>
      have : so.set r (.dct (dDrop kvs (.inr k))) = so := by
        rw [drop_none e]
        apply List.ext_getElem?
        intro i
        by_cases hi : i = r
        · subst hi; rw [List.getElem?_set_self lr, hr]
        · rw [List.getElem?_set_ne (Ne.symm hi)]
      rw [this]
      simp [kPop2, hd, keyD, e]
  obtain ⟨so1, hso1, hpop⟩ := pop
  have h1 : so1[n]? = some (.ins 0 (keepF m r a b c)) := by rw [hso1, List.getElem?_set_ne hne]; exact h
  have h2 : so1[r]? = some (.dct (dDrop kvs (.inr k))) := by rw [hso1]; exact List.getElem?_set_self lr
  have e1 := ref_ins h1
  have ks : kSet (rf r) (.str k) (.tuple [.int s, x, .int w]) so1 = some (so.set r (.dct (dDrop kvs (.inr k) ++ [(.inr k, .tuple [.int s, x, .int w])]))) := by
    rw [← put_end]
    have z : kSet (rf r) (.str k) (.tuple [.int s, x, .int w]) so1 = some (so1.set r (.dct (dPut (dDrop kvs (.inr k)) (.inr k) (.tuple [.int s, x, .int w])))) := by simp [kSet, h2, keyD, hd1]
    rw [z, hso1, List.set_set]
  have ls : so1.length = so.length := by rw [hso1, List.length_set]
  have m0 : (0 : Nat) ≤ mx := Nat.zero_le _
  have m3 : (3 : Nat) ≤ mx := by decide
  simp [g_AnswerKeep_put, fnM, m_AnswerKeep_put, sSeq, sAsg, sIf, sExpr, bndS, eOp, bnd, eFld, kFld, eVar, startD, tName, EV.tSub, bndT, rtS, sRet, eB, kB, eC, EV.ret, lft, mOr, sNext, ePop2, hpop, e0, e1, lk_rows, i0, w0, hd, eTup, eCons, eNil, EV.kTup, m3, ks, eLive, kLive, m0, sWhile]
  rfl
end K21
end
section
set_option Elab.async false
set_option linter.all false
set_option maxRecDepth 10000
set_option maxHeartbeats 4000000
namespace K21
open PySem L2 EV
theorem app_get {so : List SO} {i : Nat} {o o' : SO} (h : so[i]? = some o) : (so ++ [o'])[i]? = some o := by
  rw [List.getElem?_append_left (List.getElem?_eq_some_iff.mp h).1]; exact h
theorem app_last {so : List SO} {o : SO} : (so ++ [o])[so.length]? = some o := by simp
/-- put, nothing goes -/
theorem put_fits {so : List SO} {n r : Nat} {m a b c : Int} {kvs : List (Key × D)} {k : PySem.Str} {s w : Int} {x : D} (h : so[n]? = some (.ins 0 (keepF m r a b c))) (hr : so[r]? = some (.dct kvs)) (hw : 0 ≤ w) (hx : EV.isNon x = false) (hm : kvs.length ≤ 1000)
    (hl : ((dDrop kvs (.inr k)).length : Int) + 1 ≤ m) :
    g_AnswerKeep_put [rf n, .str k, .int s, x, .int w] so = .ok (.tuple []) ((so.set r (.dct (dDrop kvs (.inr k) ++ [(.inr k, .tuple [.int s, x, .int w])]))) ++ [.lst []]) := by
  obtain ⟨soP, e, q⟩ := put_start (k := k) (s := s) h hr hw hx hm
  have hne : r ≠ n := fun z => by subst z; rw [h] at hr; cases hr
  have lr : r < so.length := (List.getElem?_eq_some_iff.mp hr).1
  have h1 : soP[n]? = some (.ins 0 (keepF m r a b c)) := by rw [e]; exact app_get (by rw [List.getElem?_set_ne hne]; exact h)
  have h2 : soP[r]? = some (.dct (dDrop kvs (.inr k) ++ [(.inr k, .tuple [.int s, x, .int w])])) := by rw [e]; exact app_get (List.getElem?_set_self lr)
  have h3 : soP[so.length]? = some (.lst []) := by
    have := app_last (so := so.set r (.dct (dDrop kvs (.inr k) ++ [(.inr k, .tuple [.int s, x, .int w])]))) (o := .lst [])
    rw [List.length_set] at this
    rw [e]; exact this
  have hc : putC ⟨[some (rf n), some (.str k), some (.int s), some x, some (.int w), some (rf so.length)], soP⟩ = .ok false soP := by
    rw [putC_eq h1 h2]
    have : ¬ m < ((dDrop kvs (.inr k) ++ [((Sum.inr k : Key), (PyData.tuple [.int s, x, .int w] : D))]).length : Int) := by simp; omega
    rw [decide_eq_false this]
  have hs : whGo putC putB 1000 ⟨[some (rf n), some (.str k), some (.int s), some x, some (.int w), some (rf so.length)], soP⟩ = .ok .nx ⟨[some (rf n), some (.str k), some (.int s), some x, some (.int w), some (rf so.length)], soP⟩ := wh_stop (m := 999) hc
  rw [q]
  have ht : dTupA [rf so.length] soP = some (.tuple [], soP) := by simp [dTupA, lstOf, h3]
  simp [sSeq, hs, sRet, bndS, eCB, bnd, eCons, eNil, eVar, EV.ret, ht, lft, ← e]
/-- put, the first goes -/
theorem put_over {so : List SO} {n r : Nat} {m a b c : Int} {kvs rest : List (Key × D)} {k : PySem.Str} {k0 : Key} {d0 : D} {s w : Int} {x : D} (h : so[n]? = some (.ins 0 (keepF m r a b c))) (hr : so[r]? = some (.dct kvs)) (hw : 0 ≤ w) (hx : EV.isNon x = false) (hm : kvs.length ≤ 1000)
    (hl : ((dDrop kvs (.inr k)).length : Int) + 1 = m + 1) (hk : dDrop kvs (.inr k) ++ [(.inr k, .tuple [.int s, x, .int w])] = (k0, d0) :: rest) (hn : dGet rest k0 = none) :
    g_AnswerKeep_put [rf n, .str k, .int s, x, .int w] so = .ok (.tuple [keyV k0]) ((so.set r (.dct rest)) ++ [.lst [keyV k0]]) := by
  obtain ⟨soP, e, q⟩ := put_start (k := k) (s := s) h hr hw hx hm
  have hne : r ≠ n := fun z => by subst z; rw [h] at hr; cases hr
  have lr : r < so.length := (List.getElem?_eq_some_iff.mp hr).1
  rw [hk] at e
  have h1 : soP[n]? = some (.ins 0 (keepF m r a b c)) := by rw [e]; exact app_get (by rw [List.getElem?_set_ne hne]; exact h)
  have h2 : soP[r]? = some (.dct ((k0, d0) :: rest)) := by rw [e]; exact app_get (List.getElem?_set_self lr)
  have h3 : soP[so.length]? = some (.lst []) := by
    have := app_last (so := so.set r (.dct ((k0, d0) :: rest))) (o := .lst [])
    rw [List.length_set] at this
    rw [e]; exact this
  have hlen : (((k0, d0) :: rest).length : Int) = m + 1 := by
    rw [← hk]; simp; omega
  have lL : so.length < soP.length := (List.getElem?_eq_some_iff.mp h3).1
  have rL : r ≠ so.length := Nat.ne_of_lt lr
  have ln : n < so.length := (List.getElem?_eq_some_iff.mp h).1
  have nL : n ≠ so.length := Nat.ne_of_lt ln
  have e0 := ref_ins h1
  have hd := ref_dct h2
  -- one turn
  have hL : dList [rf r] soP = some (.list (keyV k0 :: rest.map fun kv => keyV kv.1), soP) := by simp [dList, lstOf, h2, dctOf]
  have ix0 : dIx (.list (keyV k0 :: rest.map fun kv => keyV kv.1)) (.int 0) soP = some (keyV k0, soP) := by simp [dIx, lstOf, atI, ixN]
  have isl : isLst soP (rf so.length) = true := by simp [isLst, h3]
  have h1' : (soP.set so.length (.lst [keyV k0]))[n]? = some (.ins 0 (keepF m r a b c)) := by rw [List.getElem?_set_ne (Ne.symm nL)]; exact h1
  have h2' : (soP.set so.length (.lst [keyV k0]))[r]? = some (.dct ((k0, d0) :: rest)) := by rw [List.getElem?_set_ne (Ne.symm rL)]; exact h2
  have h3' : (soP.set so.length (.lst [keyV k0]))[so.length]? = some (.lst [keyV k0]) := List.getElem?_set_self lL
  have e1 := ref_ins h1'
  have hd' := ref_dct h2'
  have app : ∀ vs : List (Option D), kApp (rf so.length) (keyV k0) ⟨vs, soP⟩ = .ok .none (soP.set so.length (.lst [keyV k0])) := fun vs => by simp [kApp, h3, mx]
  have ixm : dIx (rf so.length) (.int (-1)) (soP.set so.length (.lst [keyV k0])) = some (keyV k0, soP.set so.length (.lst [keyV k0])) := ix_lst h3' rfl
  have kd : keyD (keyV k0) = some k0 := by cases k0 <;> rfl
  have dg : dGet ((k0, d0) :: rest) k0 = some d0 := by simp [dGet]
  have dd : dDrop ((k0, d0) :: rest) k0 = rest := by
    have := drop_none hn
    unfold dDrop at this ⊢
    rw [List.filter_cons]
    simpa using this
  have hB : putB ⟨[some (rf n), some (.str k), some (.int s), some x, some (.int w), some (rf so.length)], soP⟩ = .ok .nx ⟨[some (rf n), some (.str k), some (.int s), some x, some (.int w), some (rf so.length)], (soP.set so.length (.lst [keyV k0])).set r (.dct rest)⟩ := by
    simp [putB, sSeq, sExpr, bndS, eApp, bnd, eVar, isl, eOp, eCB, eCons, eNil, EV.ret, eFld, kFld, e0, lk_rows, hL, lft, eC, ix0, app, sDel, e1, eNeg, kNeg, ixm, hd', kd, dg, dd]
  have hc : putC ⟨[some (rf n), some (.str k), some (.int s), some x, some (.int w), some (rf so.length)], soP⟩ = .ok true soP := by
    rw [putC_eq h1 h2]
    have : m < (((k0, d0) :: rest).length : Int) := by omega
    rw [decide_eq_true this]
  have g1 : ((soP.set so.length (.lst [keyV k0])).set r (.dct rest))[n]? = some (.ins 0 (keepF m r a b c)) := by rw [List.getElem?_set_ne hne]; exact h1'
  have g2 : ((soP.set so.length (.lst [keyV k0])).set r (.dct rest))[r]? = some (.dct rest) := List.getElem?_set_self (by rw [List.length_set]; omega)
  have g3 : ((soP.set so.length (.lst [keyV k0])).set r (.dct rest))[so.length]? = some (.lst [keyV k0]) := by rw [List.getElem?_set_ne rL]; exact h3'
  have hc2 : putC ⟨[some (rf n), some (.str k), some (.int s), some x, some (.int w), some (rf so.length)], (soP.set so.length (.lst [keyV k0])).set r (.dct rest)⟩ = .ok false ((soP.set so.length (.lst [keyV k0])).set r (.dct rest)) := by
    rw [putC_eq g1 g2]
    have : ¬ m < (rest.length : Int) := by simp at hlen; omega
    rw [decide_eq_false this]
  have hs : whGo putC putB 1000 ⟨[some (rf n), some (.str k), some (.int s), some x, some (.int w), some (rf so.length)], soP⟩ = .ok .nx ⟨[some (rf n), some (.str k), some (.int s), some x, some (.int w), some (rf so.length)], (soP.set so.length (.lst [keyV k0])).set r (.dct rest)⟩ :=
    (wh_step (m := 999) hc hB).trans (wh_stop (m := 998) hc2)
  have fin : (soP.set so.length (.lst [keyV k0])).set r (.dct rest) = (so.set r (.dct rest)) ++ [.lst [keyV k0]] := by
    rw [e]
    apply List.ext_getElem?
    intro i
    by_cases h1 : i = r
    · subst h1
      rw [List.getElem?_set_self (by simp; omega), List.getElem?_append_left (by simpa using lr), List.getElem?_set_self lr]
    · rw [List.getElem?_set_ne (Ne.symm h1)]
      by_cases h2 : i = so.length
      · subst h2
        rw [List.getElem?_set_self (by simp), List.getElem?_append_right (by simp)]
        simp
      · rw [List.getElem?_set_ne (Ne.symm h2)]
        by_cases h3 : i < so.length
        · rw [List.getElem?_append_left (by simpa using h3), List.getElem?_append_left (by simpa using h3), List.getElem?_set_ne (Ne.symm h1), List.getElem?_set_ne (Ne.symm h1)]
        · rw [List.getElem?_eq_none (by simp; omega), List.getElem?_eq_none (by simp; omega)]
  rw [q]
  have ht : dTupA [rf so.length] ((soP.set so.length (.lst [keyV k0])).set r (.dct rest)) = some (.tuple [keyV k0], (soP.set so.length (.lst [keyV k0])).set r (.dct rest)) := by simp only [dTupA, ref_lst g3]
  rw [← fin]
  simp [sSeq, hs, sRet, bndS, eCB, bnd, eCons, eNil, eVar, EV.ret, ht, lft]
end K21
end
section
set_option Elab.async false
set_option linter.all false
set_option maxRecDepth 10000
set_option maxHeartbeats 4000000
namespace EV
open PySem L2
/-- a comprehension whose parts change nothing -/
theorem lcGo_pure {g : MT} {t : M Bool} {e : M D} {it : ItD} {vs : List Nat} {vars : List (Option D)} {S : List SO} {items : List D} {vv : D → List (Option D)} {p : D → Bool} {φ : D → D}
    (hit : ∀ i acc, nextI it (S ++ [.lst acc]) i = some items[i]?) (hlen : items.length < mx)
    (hg : ∀ d ∈ items, ∀ acc, g d ⟨wipeD vars vs, S ++ [.lst acc]⟩ = .ok ⟨vv d, S ++ [.lst acc]⟩) (ht : ∀ d ∈ items, ∀ acc, t ⟨vv d, S ++ [.lst acc]⟩ = .ok (p d) (S ++ [.lst acc])) (he : ∀ d ∈ items, p d = true → ∀ acc, e ⟨vv d, S ++ [.lst acc]⟩ = .ok (φ d) (S ++ [.lst acc])) :
    ∀ (m i : Nat) (acc : List D), items.length - i < m → acc.length + (items.length - i) ≤ items.length → lcGo g t e it vs vars S.length m i (S ++ [.lst acc]) = some (S ++ [.lst (acc ++ ((items.drop i).filter p).map φ)])
  | 0, _, _, h, _ => absurd h (Nat.not_lt_zero _)
  | m + 1, i, acc, h, ha => by
    unfold lcGo
    rw [hit]
    cases q : items[i]? with
    | none =>
      have : items.length ≤ i := List.getElem?_eq_none_iff.mp q
      simp [List.drop_eq_nil_of_le this]
    | some d =>
      obtain ⟨hi, hd⟩ := List.getElem?_eq_some_iff.mp q
      have hm : d ∈ items := List.mem_of_getElem? q
      have dr : items.drop i = d :: items.drop (i + 1) := by rw [List.drop_eq_getElem_cons hi, hd]
      simp only [hg d hm acc, ht d hm acc]
      cases hp : p d with
      | false =>
        simp only []
        rw [lcGo_pure hit hlen hg ht he m (i + 1) acc (by omega) (by omega), dr]
        simp [hp]
      | true =>
        simp only [he d hm hp acc]
        have l1 : (S ++ [SO.lst acc])[S.length]? = some (.lst acc) := by simp
        have l2 : acc.length < mx := by omega
        have l3 : (S ++ [SO.lst acc]).set S.length (.lst (acc ++ [φ d])) = S ++ [.lst (acc ++ [φ d])] := by simp
        simp only [l1, if_pos l2, l3]
        rw [lcGo_pure hit hlen hg ht he m (i + 1) (acc ++ [φ d]) (by omega) (by simp; omega), dr]
        simp [hp]
/-- .. of a dict, the keys apart -/
theorem dcGo_pure {g : MT} {t : M Bool} {fk fv : M D} {it : ItD} {vs : List Nat} {vars : List (Option D)} {S : List SO} {items : List D} {vv : D → List (Option D)} {p : D → Bool} {κ : D → Key} {φ : D → D}
    (hit : ∀ i acc, nextI it (S ++ [.dct acc]) i = some items[i]?) (hlen : items.length < mx) (hnd : (items.map κ).Nodup)
    (hg : ∀ d ∈ items, ∀ acc, g d ⟨wipeD vars vs, S ++ [.dct acc]⟩ = .ok ⟨vv d, S ++ [.dct acc]⟩) (ht : ∀ d ∈ items, ∀ acc, t ⟨vv d, S ++ [.dct acc]⟩ = .ok (p d) (S ++ [.dct acc]))
    (hk : ∀ d ∈ items, p d = true → ∀ acc, fk ⟨vv d, S ++ [.dct acc]⟩ = .ok (keyV (κ d)) (S ++ [.dct acc])) (he : ∀ d ∈ items, p d = true → ∀ acc, fv ⟨vv d, S ++ [.dct acc]⟩ = .ok (φ d) (S ++ [.dct acc])) :
    ∀ (m i : Nat) (acc : List (Key × D)), items.length - i < m → acc.length + (items.length - i) ≤ items.length → (∀ kv ∈ acc, kv.1 ∉ (items.drop i).map κ) → dcGo g t fk fv it vs vars S.length m i (S ++ [.dct acc]) = some (S ++ [.dct (acc ++ ((items.drop i).filter p).map fun d => (κ d, φ d))])
  | 0, _, _, h, _, _ => absurd h (Nat.not_lt_zero _)
  | m + 1, i, acc, h, ha, hacc => by
    unfold dcGo
    rw [hit]
    cases q : items[i]? with
    | none =>
      have : items.length ≤ i := List.getElem?_eq_none_iff.mp q
      simp [List.drop_eq_nil_of_le this]
    | some d =>
      obtain ⟨hi, hd⟩ := List.getElem?_eq_some_iff.mp q
      have hm : d ∈ items := List.mem_of_getElem? q
      have dr : items.drop i = d :: items.drop (i + 1) := by rw [List.drop_eq_getElem_cons hi, hd]
      rw [dr] at hacc
      have hacc' : ∀ kv ∈ acc, kv.1 ∉ (items.drop (i + 1)).map κ := fun kv h1 h2 => hacc kv h1 (by simp only [List.map_cons, List.mem_cons]; exact .inr h2)
      simp only [hg d hm acc, ht d hm acc]
      cases hp : p d with
      | false =>
        simp only []
        rw [dcGo_pure hit hlen hnd hg ht hk he m (i + 1) acc (by omega) (by omega) hacc', dr]
        simp [hp]
      | true =>
        have kd : keyD (keyV (κ d)) = some (κ d) := by cases κ d <;> rfl
        simp only [hk d hm hp acc, kd, he d hm hp acc]
        have l1 : (S ++ [SO.dct acc])[S.length]? = some (.dct acc) := by simp
        have l2 : acc.length < mx := by omega
        have l4 : dPut acc (κ d) (φ d) = acc ++ [(κ d, φ d)] := by
          unfold dPut
          rw [if_neg]
          intro z
          obtain ⟨kv, h1, h2⟩ := List.any_eq_true.mp z
          have h3 : kv.1 = κ d := of_decide_eq_true h2
          exact hacc kv h1 (by rw [h3]; simp)
        have l3 : (S ++ [SO.dct acc]).set S.length (.dct (acc ++ [(κ d, φ d)])) = S ++ [.dct (acc ++ [(κ d, φ d)])] := by simp
        simp only [l1, if_pos l2, l4, l3]
        have nd2 : κ d ∉ (items.drop (i + 1)).map κ := by
          have : ((items.drop i).map κ).Nodup := by rw [List.map_drop]; exact hnd.sublist (List.drop_sublist _ _)
          rw [dr, List.map_cons, List.nodup_cons] at this
          exact this.1
        rw [dcGo_pure hit hlen hnd hg ht hk he m (i + 1) (acc ++ [(κ d, φ d)]) (by omega) (by simp; omega) (fun kv h1 => by
          rcases List.mem_append.mp h1 with h1 | h1
          · exact hacc' kv h1
          · simp at h1; subst h1; exact nd2), dr]
        simp [hp]
/-- a for loop that ends at its end -/
theorem forGo_all {g : MT} {b : MS} {it : ItD} {items : List D} (P : Nat → EV.St → Prop) (hit : ∀ i st, P i st → nextI it st.so i = some items[i]?)
    (hs : ∀ i d st, items[i]? = some d → P i st → ∃ st1 st2, g d st = .ok st1 ∧ (b st1 = .ok .nx st2 ∨ b st1 = .ok .ct st2) ∧ P (i + 1) st2) :
    ∀ (m i : Nat) (st : EV.St), items.length - i < m → i ≤ items.length → P i st → ∃ st', forGo g b it m i st = .ok .nx st' ∧ P items.length st'
  | 0, _, _, h, _, _ => absurd h (Nat.not_lt_zero _)
  | m + 1, i, st, h, hle, hp => by
    unfold forGo
    rw [hit i st hp]
    cases q : items[i]? with
    | none =>
      have h2 : items.length ≤ i := List.getElem?_eq_none_iff.mp q
      have : i = items.length := by omega
      subst this
      exact ⟨st, rfl, hp⟩
    | some d =>
      obtain ⟨hi, _⟩ := List.getElem?_eq_some_iff.mp q
      obtain ⟨st1, st2, e1, e2, hp2⟩ := hs i d st q hp
      obtain ⟨st', e3, hp3⟩ := forGo_all P hit hs m (i + 1) st2 (by omega) (by omega) hp2
      refine ⟨st', ?_, hp3⟩
      rcases e2 with e2 | e2 <;> simp only [e1, e2] <;> exact e3
/-- .. over range -/
theorem forGo_rng {g : MT} {b : MS} {lo : Int} {n : Nat} (P : Nat → EV.St → Prop) (hs : ∀ i st, i < n → P i st → ∃ st1 st2, g (.int (lo + i)) st = .ok st1 ∧ (b st1 = .ok .nx st2 ∨ b st1 = .ok .ct st2) ∧ P (i + 1) st2) :
    ∀ (m i : Nat) (st : EV.St), n - i < m → i ≤ n → P i st → ∃ st', forGo g b (.rng lo n) m i st = .ok .nx st' ∧ P n st'
  | 0, _, _, h, _, _ => absurd h (Nat.not_lt_zero _)
  | m + 1, i, st, h, hle, hp => by
    unfold forGo nextI
    by_cases hi : i < n
    · simp only [if_pos hi]
      obtain ⟨st1, st2, e1, e2, hp2⟩ := hs i st hi hp
      obtain ⟨st', e3, hp3⟩ := forGo_rng P hs m (i + 1) st2 (by omega) (by omega) hp2
      refine ⟨st', ?_, hp3⟩
      rcases e2 with e2 | e2 <;> simp only [e1, e2] <;> exact e3
    · simp only [if_neg hi]
      have : i = n := by omega
      subst this
      exact ⟨st, rfl, hp⟩
end EV
end
section
set_option Elab.async false
set_option linter.all false
set_option maxRecDepth 10000
set_option maxHeartbeats 4000000
namespace EV
open PySem L2
/-! ### stores that refer to themselves alone -/
mutual
theorem lim_mono {m m' : Nat} (h : m ≤ m') : ∀ d : D, lim m d = true → lim m' d = true
  | .none, _ => by unfold lim; rfl
  | .bool _, _ => by unfold lim; rfl
  | .int _, _ => by unfold lim; rfl
  | .str _, _ => by unfold lim; rfl
  | .list xs, e => by unfold lim at e ⊢; exact lims_mono h xs e
  | .tuple xs, e => by unfold lim at e ⊢; exact lims_mono h xs e
  | .dict kvs, e => by
    unfold lim at e ⊢
    split at e <;> first | (rename_i q; cases q; done) | skip
    · rename_i n q
      cases q
      exact decide_eq_true (Nat.lt_of_lt_of_le (of_decide_eq_true e) h)
    · cases e
theorem lims_mono {m m' : Nat} (h : m ≤ m') : ∀ ds : List D, lims m ds = true → lims m' ds = true
  | [], _ => by unfold lims; rfl
  | x :: xs, e => by
    unfold lims at e ⊢
    rw [Bool.and_eq_true] at e ⊢
    exact ⟨lim_mono h x e.1, lims_mono h xs e.2⟩
end
mutual
theorem lim_plain {m : Nat} : ∀ d : D, d.plain = true → lim m d = true
  | .none, _ => by unfold lim; rfl
  | .bool _, _ => by unfold lim; rfl
  | .int _, _ => by unfold lim; rfl
  | .str _, _ => by unfold lim; rfl
  | .list xs, e => by unfold PyData.plain at e; unfold lim; exact lims_plain xs e
  | .tuple xs, e => by unfold PyData.plain at e; unfold lim; exact lims_plain xs e
  | .dict kvs, e => by unfold PyData.plain at e; cases e
theorem lims_plain {m : Nat} : ∀ ds : List D, PyData.plainAll ds = true → lims m ds = true
  | [], _ => by unfold lims; rfl
  | x :: xs, e => by
    unfold PyData.plainAll at e
    unfold lims
    rw [Bool.and_eq_true] at e ⊢
    exact ⟨lim_plain x e.1, lims_plain xs e.2⟩
end
theorem lims_iff {m : Nat} {ds : List D} : lims m ds = true ↔ ∀ d ∈ ds, lim m d = true := by
  induction ds with
  | nil => simp [lims]
  | cons x xs ih => simp [lims, ih]
theorem limO_mono {m m' : Nat} (h : m ≤ m') {o : SO} (e : limO m o = true) : limO m' o = true := by
  cases o <;> simp only [limO, List.all_eq_true] at e ⊢ <;> first | exact lims_mono h _ e | exact fun x hx => lim_mono h _ (e x hx) | trivial
def WF (so : List SO) : Prop := so.all (limO so.length) = true
theorem WF.get {so : List SO} (h : WF so) {i : Nat} {o : SO} (e : so[i]? = some o) : limO so.length o = true := List.all_eq_true.mp h o (List.mem_of_getElem? e)
theorem WF.set {so : List SO} (h : WF so) {i : Nat} {o : SO} (e : limO so.length o = true) : WF (so.set i o) := by
  unfold WF
  rw [List.length_set, List.all_eq_true]
  intro x hx
  rcases List.mem_or_eq_of_mem_set hx with hx | rfl
  · exact List.all_eq_true.mp h x hx
  · exact e
theorem WF.app {so : List SO} (h : WF so) {o : SO} (e : limO (so.length + 1) o = true) : WF (so ++ [o]) := by
  unfold WF
  rw [List.all_eq_true]
  intro x hx
  rcases List.mem_append.mp hx with hx | hx
  · exact limO_mono (by simp) (List.all_eq_true.mp h x hx)
  · rw [List.mem_singleton] at hx
    subst hx
    simpa using e
theorem gc_cut {base ex : List SO} {m : Nat} {d : D} (hm : base.length = m) (h : WF base) (hd : lim m d = true) : gcR m (.ok d (base ++ ex)) = .ok d base := by
  subst hm
  have ht : (base ++ ex).take base.length = base := List.take_left' rfl
  have h : base.all (limO base.length) = true := h
  simp only [gcR, gcOk, ht, h, hd, and_self, if_true]
/-! ### the same on both sides -/
theorem dNe_same {d : D} {so : List SO} (h : deepOk (dref so d) = true) : dNe d d so = some (.bool false, so) := by
  simp [dNe, dCmp, h, PySem.SeqAt.eqv_refl_plain _ (deepOk_iff h).1]
theorem dEq_same {d : D} {so : List SO} (h : deepOk (dref so d) = true) : dEq d d so = some (.bool true, so) := by
  simp [dEq, dCmp, h, PySem.SeqAt.eqv_refl_plain _ (deepOk_iff h).1]
/-- depth -/
theorem deepL {xs : List D} {n : Nat} (hn : n ≤ 63) (h : ∀ x ∈ xs, x.plain = true ∧ x.depth ≤ n) : deepOk (.list xs) = true ∧ (PyData.list xs).plain = true ∧ (PyData.list xs).depth ≤ n + 1 := by
  have p : (PyData.list xs).plain = true := by unfold PyData.plain; exact plainAll_of fun x hx => (h x hx).1
  have q : (PyData.list xs).depth ≤ n + 1 := by
    unfold PyData.depth
    have := depthAll_le fun x hx => (h x hx).2
    omega
  refine ⟨?_, p, q⟩
  unfold deepOk
  rw [p, Bool.true_and]
  exact decide_eq_true (by omega)
theorem deepT {xs : List D} {n : Nat} (hn : n ≤ 63) (h : ∀ x ∈ xs, x.plain = true ∧ x.depth ≤ n) : deepOk (.tuple xs) = true ∧ (PyData.tuple xs).plain = true ∧ (PyData.tuple xs).depth ≤ n + 1 := by
  have p : (PyData.tuple xs).plain = true := by unfold PyData.plain; exact plainAll_of fun x hx => (h x hx).1
  have q : (PyData.tuple xs).depth ≤ n + 1 := by
    unfold PyData.depth
    have := depthAll_le fun x hx => (h x hx).2
    omega
  refine ⟨?_, p, q⟩
  unfold deepOk
  rw [p, Bool.true_and]
  exact decide_eq_true (by omega)
theorem dref_list {so : List SO} {xs : List D} : dref so (.list xs) = .list xs := rfl
theorem dref_tuple {so : List SO} {xs : List D} : dref so (.tuple xs) = .tuple xs := rfl
@[simp] theorem dEq_ss (x y : PySem.Str) (so : List SO) : dEq (.str x) (.str y) so = some (.bool (decide (x = y)), so) := by
  have : (x == y) = decide (x = y) := by by_cases h : x = y <;> simp [h]
  simp only [dEq, dCmp, deepOk, dref, PyData.plain, PyData.depth, PyData.eqv, this]
  simp
@[simp] theorem dNe_ss (x y : PySem.Str) (so : List SO) : dNe (.str x) (.str y) so = some (.bool (!decide (x = y)), so) := by
  have : (x == y) = decide (x = y) := by by_cases h : x = y <;> simp [h]
  simp only [dNe, dCmp, deepOk, dref, PyData.plain, PyData.depth, PyData.eqv, this]
  simp
@[simp] theorem dNe_bb (x y : Bool) (so : List SO) : dNe (.bool x) (.bool y) so = some (.bool (!decide (x = y)), so) := by
  have : (x == y) = decide (x = y) := by by_cases h : x = y <;> simp [h]
  simp only [dNe, dCmp, deepOk, dref, PyData.plain, PyData.depth, PyData.eqv, this]
  simp
theorem bndS_ok {α : Type} {f : M α} {g : α → MS} {st : EV.St} {a : α} {so : List SO} (h : f st = .ok a so) : bndS f g st = g a ⟨st.vars, so⟩ := by
  unfold bndS
  rw [h]
theorem seq_ok {f g : MS} {st st1 : EV.St} (h : f st = .ok .nx st1) : sSeq f g st = g st1 := by
  unfold sSeq
  rw [h]
/-! ### comprehensions that change nothing, their lists by value -/
theorem lc_val {fi : M ItD} {g : MT} {t : M Bool} {e : M D} {it : ItD} {vs : List Nat} {vars : List (Option D)} {S : List SO} {items : List D} {vv : D → List (Option D)} {p : D → Bool} {φ : D → D} (hw : WF S)
    (hi : fi ⟨vars, S⟩ = .ok it S) (hf : fuelI it S = items.length + 1) (hlen : items.length < mx)
    (hit : ∀ i acc, nextI it (S ++ [.lst acc]) i = some items[i]?)
    (hg : ∀ d ∈ items, ∀ acc, g d ⟨wipeD vars vs, S ++ [.lst acc]⟩ = .ok ⟨vv d, S ++ [.lst acc]⟩) (ht : ∀ d ∈ items, ∀ acc, t ⟨vv d, S ++ [.lst acc]⟩ = .ok (p d) (S ++ [.lst acc])) (he : ∀ d ∈ items, p d = true → ∀ acc, e ⟨vv d, S ++ [.lst acc]⟩ = .ok (φ d) (S ++ [.lst acc]))
    (hl : ∀ d ∈ items, lim S.length (φ d) = true) :
    eLc false fi g t e vs ⟨vars, S⟩ = .ok (.list ((items.filter p).map φ)) S := by
  unfold eLc
  rw [bnd_ok hi]
  have := lcGo_pure hit hlen hg ht he (items.length + 1) 0 [] (by omega) (by simp)
  simp only [List.drop_zero, List.nil_append] at this
  simp only [hf, this]
  unfold lcEnd
  have q : (S ++ [SO.lst ((items.filter p).map φ)])[S.length]? = some (.lst ((items.filter p).map φ)) := by simp
  have q2 : (S ++ [SO.lst ((items.filter p).map φ)]).set S.length .dead = S ++ [.dead] := by simp
  simp only [q, q2]
  refine gc_cut rfl hw ?_
  unfold lim
  rw [lims_iff]
  intro d hd
  obtain ⟨x, hx, rfl⟩ := List.mem_map.mp hd
  exact hl x (List.mem_filter.mp hx).1
/-- .. over a list by value -/
theorem lc_list {f : M D} {g : MT} {t : M Bool} {e : M D} {vs : List Nat} {vars : List (Option D)} {S : List SO} {items : List D} {vv : D → List (Option D)} {p : D → Bool} {φ : D → D} (hw : WF S)
    (hi : f ⟨vars, S⟩ = .ok (.list items) S) (hlen : items.length < mx)
    (hg : ∀ d ∈ items, ∀ acc, g d ⟨wipeD vars vs, S ++ [.lst acc]⟩ = .ok ⟨vv d, S ++ [.lst acc]⟩) (ht : ∀ d ∈ items, ∀ acc, t ⟨vv d, S ++ [.lst acc]⟩ = .ok (p d) (S ++ [.lst acc])) (he : ∀ d ∈ items, p d = true → ∀ acc, e ⟨vv d, S ++ [.lst acc]⟩ = .ok (φ d) (S ++ [.lst acc]))
    (hl : ∀ d ∈ items, lim S.length (φ d) = true) :
    eLc false (iIt f) g t e vs ⟨vars, S⟩ = .ok (.list ((items.filter p).map φ)) S := by
  refine lc_val (it := .seq (.fz items)) hw ?_ rfl hlen (fun i acc => rfl) hg ht he hl
  unfold iIt
  rw [bnd_ok hi]
  rfl
/-- .. over range(n) -/
theorem lc_rng1 {f : M D} {g : MT} {t : M Bool} {e : M D} {vs : List Nat} {vars : List (Option D)} {S : List SO} {n : Nat} {vv : D → List (Option D)} {p : D → Bool} {φ : D → D} (hw : WF S)
    (hi : f ⟨vars, S⟩ = .ok (.int n) S) (hlen : n < mx)
    (hg : ∀ k < n, ∀ acc, g (.int (k : Nat)) ⟨wipeD vars vs, S ++ [.lst acc]⟩ = .ok ⟨vv (.int (k : Nat)), S ++ [.lst acc]⟩) (ht : ∀ k < n, ∀ acc, t ⟨vv (.int (k : Nat)), S ++ [.lst acc]⟩ = .ok (p (.int (k : Nat))) (S ++ [.lst acc])) (he : ∀ k < n, p (.int (k : Nat)) = true → ∀ acc, e ⟨vv (.int (k : Nat)), S ++ [.lst acc]⟩ = .ok (φ (.int (k : Nat))) (S ++ [.lst acc]))
    (hl : ∀ k < n, lim S.length (φ (.int (k : Nat))) = true) :
    eLc false (iRng1 f) g t e vs ⟨vars, S⟩ = .ok (.list ((((List.range n).map fun k : Nat => PyData.int (k : Nat)).filter p).map φ)) S := by
  have mm : ∀ d, d ∈ ((List.range n).map fun k : Nat => PyData.int (k : Nat)) → ∃ k : Nat, k < n ∧ d = .int (k : Nat) := fun d hd => by
    obtain ⟨k, hk, rfl⟩ := List.mem_map.mp hd
    exact ⟨k, by simpa using hk, rfl⟩
  refine lc_val (vv := vv) (it := .rng 0 n) hw ?_ ?_ (by simpa using hlen) ?_ (fun d hd => ?_) (fun d hd => ?_) (fun d hd => ?_) fun d hd => ?_
  · unfold iRng1
    rw [bnd_ok hi]
    have q : small62 (n : Int) = true := decide_eq_true (by unfold mx at hlen; omega)
    simp [kRng1, q]
  · simp [fuelI]
  · intro i acc
    unfold nextI
    by_cases hi : i < n
    · simp [hi]
    · simp [hi]
  all_goals obtain ⟨k, hk, rfl⟩ := mm d hd
  · exact hg k hk
  · exact ht k hk
  · exact he k hk
  · exact hl k hk
theorem meth_app {c n : Nat} {m : PySem.Str} {g : Fn} {fo : M D} {fa : M (List D)} {st : EV.St} {x d : D} {ds : List D} {so1 so2 base ex : List SO} (ho : fo st = .ok x so1) (hc : isCls so1 c m x = true) (ha : fa ⟨st.vars, so1⟩ = .ok ds so2) (hn : (x :: ds).length = n)
    (hg : g (x :: ds) so2 = .ok d (base ++ ex)) (hb : base.length = so2.length) (hw : WF base) (hd : lim so2.length d = true) : eMeth c n m g fo fa st = .ok d base := by
  unfold eMeth
  rw [bnd_ok ho]
  simp only [hc, if_true]
  rw [bnd_ok ha]
  simp only [hn, if_true, hg]
  exact gc_cut hb hw hd
theorem meth_same {c n : Nat} {m : PySem.Str} {g : Fn} {fo : M D} {fa : M (List D)} {st : EV.St} {x d : D} {ds : List D} {so1 so2 base : List SO} (ho : fo st = .ok x so1) (hc : isCls so1 c m x = true) (ha : fa ⟨st.vars, so1⟩ = .ok ds so2) (hn : (x :: ds).length = n)
    (hg : g (x :: ds) so2 = .ok d base) (hb : base.length = so2.length) : eMeth c n m g fo fa st = .ok d base := by
  unfold eMeth
  rw [bnd_ok ho]
  simp only [hc, if_true]
  rw [bnd_ok ha]
  simp only [hn, if_true, hg]
  exact gcR_same hb
theorem call_app {n : Nat} {g : Fn} {fa : M (List D)} {st : EV.St} {d : D} {ds : List D} {so2 base ex : List SO} (ha : fa st = .ok ds so2) (hn : ds.length = n)
    (hg : g ds so2 = .ok d (base ++ ex)) (hb : base.length = so2.length) (hw : WF base) (hd : lim so2.length d = true) : eCall n g fa st = .ok d base := by
  unfold eCall
  rw [bnd_ok ha]
  simp only [hn, if_true, hg]
  exact gc_cut hb hw hd
theorem call_same {n : Nat} {g : Fn} {fa : M (List D)} {st : EV.St} {d : D} {ds : List D} {so2 base : List SO} (ha : fa st = .ok ds so2) (hn : ds.length = n)
    (hg : g ds so2 = .ok d base) (hb : base.length = so2.length) : eCall n g fa st = .ok d base := by
  unfold eCall
  rw [bnd_ok ha]
  simp only [hn, if_true, hg]
  exact gcR_same hb
theorem fn_ret {N : List PySem.Str} {fb : MS} {ds : List D} {so : List SO} {d : D} {st : EV.St} (h : fb ⟨startD N ds, so⟩ = .ok (.ret d) st) : fnM N fb ds so = .ok d st.so := by
  unfold fnM
  rw [h]
end EV
end
section
set_option Elab.async false
set_option linter.all false
set_option maxRecDepth 10000
set_option maxHeartbeats 4000000
namespace K21
open PySem L2 EV
/-! ### a keep by its rows: key, state, answer, cost -/
abbrev Row := PySem.Str × Int × Int × Int
def kvR (r : Row) : Key × D := (.inr r.1, .tuple [.int r.2.1, .int r.2.2.1, .int r.2.2.2])
def tuR (r : Row) : D := .tuple [.str r.1, .int r.2.1, .int r.2.2.1, .int r.2.2.2]
structure Keep (so : List SO) (n r : Nat) (m a b c : Int) (rows : List Row) : Prop where
  o : so[n]? = some (.ins 0 (keepF m r a b c))
  d : so[r]? = some (.dct (rows.map kvR))
/-- the keys, each once -/
def keys (rows : List Row) : List PySem.Str := rows.map (·.1)
theorem get_kv (rows : List Row) (k : PySem.Str) : dGet (rows.map kvR) (.inr k) = (rows.find? fun r => decide (r.1 = k)).map fun r => .tuple [.int r.2.1, .int r.2.2.1, .int r.2.2.2] := by
  unfold dGet
  rw [List.find?_map]
  have : ((fun kv : Key × D => decide (kv.1 = Sum.inr k)) ∘ kvR) = fun r : Row => decide (r.1 = k) := by
    funext r
    simp [kvR]
  rw [this]
  cases rows.find? fun r => decide (r.1 = k) <;> simp [kvR]
theorem drop_kv (rows : List Row) (k : PySem.Str) : dDrop (rows.map kvR) (.inr k) = (rows.filter fun r => decide (r.1 ≠ k)).map kvR := by
  unfold dDrop
  rw [List.filter_map]
  congr 1
  apply List.filter_congr
  intro r _
  simp [kvR]
theorem keys_filter {rows : List Row} (p : Row → Bool) (h : (keys rows).Nodup) : (keys (rows.filter p)).Nodup := h.sublist ((List.filter_sublist).map _)
theorem filter_find {rows : List Row} {k : PySem.Str} (h : (keys rows).Nodup) : (rows.filter fun r => decide (r.1 = k)) = (rows.find? fun r => decide (r.1 = k)).toList := by
  induction rows with
  | nil => rfl
  | cons x l ih =>
    rw [show keys (x :: l) = x.1 :: keys l from rfl, List.nodup_cons] at h
    by_cases hx : x.1 = k
    · subst hx
      have : l.filter (fun r => decide (r.1 = x.1)) = [] := by
        rw [List.filter_eq_nil_iff]
        intro y hy hc
        have hc : y.1 = x.1 := by simpa using hc
        exact h.1 (List.mem_map.mpr ⟨y, hy, hc⟩)
      simp [this]
    · simp only [List.filter_cons, List.find?_cons, hx, decide_false]
      simpa using ih h.2
theorem find_key {rows : List Row} {k : PySem.Str} {r : Row} (h : rows.find? (fun r => decide (r.1 = k)) = some r) : r.1 = k ∧ r ∈ rows := by
  have := List.find?_some h
  exact ⟨by simpa using this, List.mem_of_find?_eq_some h⟩
theorem keys_snoc {rows : List Row} {k : PySem.Str} {r : Row} (h : (keys rows).Nodup) (hr : r.1 = k) : (keys (rows.filter (fun r => decide (r.1 ≠ k)) ++ [r])).Nodup := by
  unfold keys
  rw [List.map_append, List.nodup_append]
  refine ⟨keys_filter _ h, by simp, ?_⟩
  intro x hx y hy
  simp at hy
  obtain ⟨q, hq, rfl⟩ := List.mem_map.mp hx
  have := (List.mem_filter.mp hq).2
  rw [hy, hr]
  simpa using this
/-- what changes within a store -/
structure Chg (n r : Nat) (so so' : List SO) : Prop where
  len : so'.length = so.length
  wf : WF so'
  same : ∀ i, i ≠ n → i ≠ r → so'[i]? = so[i]?
theorem lim_rows {m : Nat} {rows : List Row} : limO m (.dct (rows.map kvR)) = true := by
  simp only [limO, List.all_eq_true]
  intro kv h
  obtain ⟨r, _, rfl⟩ := List.mem_map.mp h
  simp [kvR, lim, lims]
theorem lim_keep {l r : Nat} {m a b c : Int} (h : r < l) : limO l (.ins 0 (keepF m r a b c)) = true := by
  simp [limO, keepF, lim, h]
theorem Keep.ne {so : List SO} {n r : Nat} {m a b c : Int} {rows : List Row} (h : Keep so n r m a b c rows) : r ≠ n := fun z => by
  have := h.o
  rw [← z, h.d] at this
  cases this
theorem Keep.ln {so : List SO} {n r : Nat} {m a b c : Int} {rows : List Row} (h : Keep so n r m a b c rows) : n < so.length := (List.getElem?_eq_some_iff.mp h.o).1
theorem Keep.lr {so : List SO} {n r : Nat} {m a b c : Int} {rows : List Row} (h : Keep so n r m a b c rows) : r < so.length := (List.getElem?_eq_some_iff.mp h.d).1
/-- both set -/
theorem Keep.put2 {so : List SO} {n r : Nat} {m a b c : Int} {rows : List Row} (h : Keep so n r m a b c rows) (hw : WF so) (a' b' c' : Int) (rows' : List Row) :
    Keep ((so.set r (.dct (rows'.map kvR))).set n (.ins 0 (keepF m r a' b' c'))) n r m a' b' c' rows' ∧ Chg n r so ((so.set r (.dct (rows'.map kvR))).set n (.ins 0 (keepF m r a' b' c'))) := by
  have hne := h.ne
  have ln := h.ln
  have lr := h.lr
  refine ⟨⟨?_, ?_⟩, ⟨by simp, ?_, ?_⟩⟩
  · rw [List.getElem?_set_self (by simpa using ln)]
  · rw [List.getElem?_set_ne hne.symm, List.getElem?_set_self lr]
  · exact (hw.set lim_rows).set (lim_keep (by simpa using lr))
  · intro i h1 h2
    rw [List.getElem?_set_ne (Ne.symm h1), List.getElem?_set_ne (Ne.symm h2)]
theorem set_set_self {so : List SO} {r : Nat} {x : SO} (h : so[r]? = some x) : so.set r x = so := by
  obtain ⟨hl, e⟩ := List.getElem?_eq_some_iff.mp h
  subst e
  exact List.set_getElem_self hl
/-- get -/
def gotV (rows : List Row) (k : PySem.Str) (s : Int) : Option Row := (rows.find? fun r => decide (r.1 = k)).filter fun r => decide (r.2.1 = s)
def gotR (rows : List Row) (k : PySem.Str) (s : Int) : List Row := (rows.filter fun r => decide (r.1 ≠ k)) ++ (gotV rows k s).toList
def gotD : Option Row → D
  | some r => .int r.2.2.1
  | none => .none
theorem keep_get {so : List SO} {n r : Nat} {m a b c : Int} {rows : List Row} (h : Keep so n r m a b c rows) (hw : WF so) (hk : (keys rows).Nodup) (hm : rows.length ≤ 1000) (k : PySem.Str) (s : Int) :
    ∃ so', g_AnswerKeep_get [rf n, .str k, .int s] so = .ok (gotD (gotV rows k s)) so' ∧ Chg n r so so' ∧
      Keep so' n r m (if (gotV rows k s).isSome then a + 1 else a) (if (gotV rows k s).isSome then b else b + 1) (match gotV rows k s with | some x => c + x.2.2.2 | none => c) (gotR rows k s) := by
  cases hf : rows.find? fun r => decide (r.1 = k) with
  | none =>
    have e : dGet (rows.map kvR) (.inr k) = none := by rw [get_kv, hf]; rfl
    have gv : gotV rows k s = none := by unfold gotV; rw [hf]; rfl
    have gr : gotR rows k s = rows := by
      unfold gotR
      rw [gv]
      have := drop_kv rows k
      have hall := List.find?_eq_none.mp hf
      simp
      exact fun a b c d hx => by simpa using hall _ hx
    have q := get_none (s := s) h.o h.d e
    have p := h.put2 hw a (b + 1) c rows
    rw [set_set_self h.d] at p
    rw [gv, gr]
    exact ⟨_, q, p.2, p.1⟩
  | some row =>
    obtain ⟨rk, rm⟩ := find_key hf
    have e : dGet (rows.map kvR) (.inr k) = some (.tuple [.int row.2.1, .int row.2.2.1, .int row.2.2.2]) := by rw [get_kv, hf]; rfl
    by_cases hs : row.2.1 = s
    · have gv : gotV rows k s = some row := by unfold gotV; rw [hf]; simp [hs]
      subst hs
      have q := get_hit (s := row.2.1) h.o h.d (by simpa using hm) e
      have p := h.put2 hw (a + 1) b (c + row.2.2.2) (gotR rows k row.2.1)
      have z : dPut (dDrop (rows.map kvR) (.inr k)) (.inr k) (.tuple [.int row.2.1, .int row.2.2.1, .int row.2.2.2]) = (gotR rows k row.2.1).map kvR := by
        rw [put_end, drop_kv]
        unfold gotR
        rw [gv, List.map_append]
        simp [kvR, rk]
      rw [z] at q
      rw [gv]
      exact ⟨_, q, p.2, p.1⟩
    · have gv : gotV rows k s = none := by unfold gotV; rw [hf]; simp [hs]
      have q := get_other (s := s) h.o h.d e hs
      have p := h.put2 hw a (b + 1) c (gotR rows k s)
      have z : dDrop (rows.map kvR) (.inr k) = (gotR rows k s).map kvR := by
        rw [drop_kv]
        unfold gotR
        rw [gv]
        simp
      rw [z] at q
      rw [gv]
      exact ⟨_, q, p.2, p.1⟩
end K21
end
section
set_option Elab.async false
set_option linter.all false
set_option maxRecDepth 10000
set_option maxHeartbeats 4000000
namespace K21
open PySem EV
open L2 (Key)
/-- put -/
def putR (m : Int) (rows : List Row) (r : Row) : List Row := (rows.filter (fun x => decide (x.1 ≠ r.1)) ++ [r]).drop ((rows.filter (fun x => decide (x.1 ≠ r.1)) ++ [r]).length - m.toNat)
def goneR (m : Int) (rows : List Row) (r : Row) : List Row := (rows.filter (fun x => decide (x.1 ≠ r.1)) ++ [r]).take ((rows.filter (fun x => decide (x.1 ≠ r.1)) ++ [r]).length - m.toNat)
theorem kv_none {rows : List Row} {k : PySem.Str} (h : k ∉ keys rows) : dGet (rows.map kvR) (.inr k) = none := by
  rw [get_kv, List.find?_eq_none.mpr]
  · rfl
  · intro r hr hc
    exact h (List.mem_map.mpr ⟨r, hr, by simpa using hc⟩)
theorem keep_put {so : List SO} {n r : Nat} {m a b c : Int} {rows : List Row} (h : Keep so n r m a b c rows) (hw : WF so) (hk : (keys rows).Nodup) (h1 : 1 ≤ m) (hm : (rows.length : Int) ≤ m) (hb : m ≤ 1000) (x : Row) (hx : 0 ≤ x.2.2.2) :
    ∃ base ex, g_AnswerKeep_put [rf n, .str x.1, .int x.2.1, .int x.2.2.1, .int x.2.2.2] so = .ok (.tuple ((goneR m rows x).map fun r => .str r.1)) (base ++ ex) ∧ base.length = so.length ∧ WF base ∧ (∀ i, i ≠ r → base[i]? = so[i]?) ∧ Keep base n r m a b c (putR m rows x) := by
  have ln := h.ln
  have lr := h.lr
  have hne := h.ne
  have fin : ∀ rows' : List Row, (so.set r (.dct (rows'.map kvR))).length = so.length ∧ WF (so.set r (.dct (rows'.map kvR))) ∧ (∀ i, i ≠ r → (so.set r (.dct (rows'.map kvR)))[i]? = so[i]?) ∧ Keep (so.set r (.dct (rows'.map kvR))) n r m a b c rows' := fun rows' =>
    ⟨by simp, hw.set lim_rows, fun i hi => by rw [List.getElem?_set_ne (Ne.symm hi)], ⟨by rw [List.getElem?_set_ne hne]; exact h.o, List.getElem?_set_self lr⟩⟩
  have hl0 : (rows.filter (fun y => decide (y.1 ≠ x.1))).length ≤ rows.length := List.length_filter_le _ _
  have ek : dDrop (rows.map kvR) (.inr x.1) ++ [((.inr x.1 : Key), (.tuple [.int x.2.1, .int x.2.2.1, .int x.2.2.2] : D))] = (rows.filter (fun y => decide (y.1 ≠ x.1)) ++ [x]).map kvR := by
    rw [drop_kv, List.map_append]; rfl
  have el : (dDrop (rows.map kvR) (.inr x.1)).length = (rows.filter (fun y => decide (y.1 ≠ x.1))).length := by rw [drop_kv, List.length_map]
  have nd := keys_snoc (r := x) hk rfl
  have hm0 : (rows.map kvR).length ≤ 1000 := by rw [List.length_map]; omega
  unfold goneR putR
  generalize rows.filter (fun y => decide (y.1 ≠ x.1)) = Fl at *
  by_cases hf : (Fl.length : Int) + 1 ≤ m
  · have q := put_fits (k := x.1) (s := x.2.1) (w := x.2.2.2) (x := .int x.2.2.1) h.o h.d hx rfl hm0 (by rw [el]; exact hf)
    have hz : (Fl ++ [x]).length - m.toNat = 0 := by rw [List.length_append]; simp only [List.length_cons, List.length_nil]; omega
    rw [ek] at q
    rw [hz]
    exact ⟨_, _, q, fin _⟩
  · have hlen : Fl.length = m.toNat := by omega
    have hz : (Fl ++ [x]).length - m.toNat = 1 := by rw [List.length_append]; simp only [List.length_cons, List.length_nil]; omega
    rw [hz]
    cases hc : Fl ++ [x] with
    | nil => simp at hc
    | cons y0 rest =>
      rw [hc] at nd ek
      rw [show keys (y0 :: rest) = y0.1 :: keys rest from rfl, List.nodup_cons] at nd
      have q := put_over (k := x.1) (s := x.2.1) (w := x.2.2.2) (x := .int x.2.2.1) (k0 := .inr y0.1) (d0 := (kvR y0).2) (rest := rest.map kvR) h.o h.d hx rfl hm0 (by rw [el]; omega) ek (kv_none nd.1)
      exact ⟨_, _, q, fin _⟩
theorem putR_len {m : Int} {rows : List Row} {x : Row} (h1 : 1 ≤ m) : ((putR m rows x).length : Int) ≤ m := by
  unfold putR; simp; omega
theorem putR_nd {m : Int} {rows : List Row} {x : Row} (h : (keys rows).Nodup) : (keys (putR m rows x)).Nodup :=
  (keys_snoc (r := x) h rfl).sublist ((List.drop_sublist _ _).map _)
/-! ### sweep -/
theorem lock_eq {so : List SO} {r : Nat} {kvs : List (Key × D)} (h : so[r]? = some (.dct kvs)) : lockSo so r = some (so.set r (.dlk kvs)) := by
  unfold lockSo; rw [h]
theorem unlock_eq {so : List SO} {r : Nat} {kvs : List (Key × D)} (h : so[r]? = some (.dlk kvs)) : unlockSo so r = some (so.set r (.dct kvs)) := by
  unfold unlockSo; rw [h]
def prK : D → Key
  | .tuple [.str k, _] => .inr k
  | _ => .inl 0
def prV : D → D
  | .tuple [_, v] => v
  | _ => .none
def prP (s : Int) : D → Bool
  | .tuple [_, .tuple (.int x :: _)] => decide (x = s)
  | _ => false
theorem keep_sweep {so : List SO} {n r : Nat} {m a b c : Int} {rows : List Row} (h : Keep so n r m a b c rows) (hw : WF so) (hk : (keys rows).Nodup) (hm : rows.length ≤ 1000) (s : Int) :
    ∃ so', g_AnswerKeep_sweep [rf n, .int s] so = .ok (.int (rows.length - (rows.filter fun r => decide (r.2.1 = s)).length)) so' ∧ gcOk so.length so' = false ∧ so'.length = so.length + 1 ∧ WF so' ∧ (∀ i, i < so.length → i ≠ n → so'[i]? = so[i]?) ∧
      Keep so' n so.length m a b c (rows.filter fun r => decide (r.2.1 = s)) := by
  have ln := h.ln
  have lr := h.lr
  have hne := h.ne
  have e0 := ref_ins h.o
  obtain ⟨S, hS⟩ : ∃ S, S = so.set r (.dlk (rows.map kvR)) := ⟨_, rfl⟩
  have lS : S.length = so.length := by rw [hS]; simp
  have S1 : S[r]? = some (.dlk (rows.map kvR)) := by rw [hS]; exact List.getElem?_set_self lr
  have Sn : S[n]? = some (.ins 0 (keepF m r a b c)) := by rw [hS, List.getElem?_set_ne hne]; exact h.o
  have wS : WF S := by rw [hS]; exact hw.set (by have := lim_rows (m := so.length) (rows := rows); simpa [limO] using this)
  -- the comprehension
  let vars0 : List (Option D) := startD N_AnswerKeep_sweep [rf n, .int s]
  have hdc : ∀ (m i : Nat) (acc : List (Key × D)), ((rows.map kvR).map fun kv => (PyData.tuple [keyV kv.1, kv.2] : D)).length - i < m → acc.length + (((rows.map kvR).map fun kv => (PyData.tuple [keyV kv.1, kv.2] : D)).length - i) ≤ ((rows.map kvR).map fun kv => (PyData.tuple [keyV kv.1, kv.2] : D)).length → (∀ kv ∈ acc, kv.1 ∉ ((((rows.map kvR).map fun kv => (PyData.tuple [keyV kv.1, kv.2] : D)).drop i).map prK)) → _ :=
    dcGo_pure (g := tTup 2 (tCons (tName 4) (tCons (tName 5) (tNil)))) (t := eB (eOp dEq (eOp dIx (eVar 5) (eC (.int 0))) (eVar 1))) (fk := eVar 4) (fv := eVar 5) (it := .items r (rows.map kvR)) (vs := [4, 5]) (vars := vars0) (S := S)
      (items := (rows.map kvR).map fun kv => .tuple [keyV kv.1, kv.2])
      (vv := fun d => match d with | .tuple [k, v] => [some (rf n), some (.int s), none, none, some k, some v] | _ => [])
      (p := prP s)
      (κ := prK) (φ := prV)
      (by intro i acc; simp [nextI]) (by simp [mx]; omega)
      (by
        simp only [List.map_map]
        have : (prK ∘ (fun kv : Key × D => (PyData.tuple [keyV kv.1, kv.2] : D)) ∘ kvR) = fun r : Row => (.inr r.1 : Key) := by funext r; rfl
        rw [this]
        have : (rows.map fun r : Row => (Sum.inr r.1 : Key)) = (keys rows).map Sum.inr := by simp [keys]
        rw [this]
        refine hk.map _ ?_
        intro x y hxy h
        exact hxy (Sum.inr.inj h))
      (by
        intro d hd acc
        simp only [List.mem_map] at hd
        obtain ⟨_, ⟨x, hx, rfl⟩, rfl⟩ := hd
        rfl)
      (by
        intro d hd acc
        simp only [List.mem_map] at hd
        obtain ⟨_, ⟨x, hx, rfl⟩, rfl⟩ := hd
        have ix0 : ∀ so : List SO, dIx (.tuple [.int x.2.1, .int x.2.2.1, .int x.2.2.2]) (.int 0) so = some (.int x.2.1, so) := fun so => ix_tup rfl
        simp [kvR, keyV, eB, eOp, bnd, eVar, eC, EV.ret, lft, ix0, kB, prP])
      (by
        intro d hd _ acc
        simp only [List.mem_map] at hd
        obtain ⟨_, ⟨x, hx, rfl⟩, rfl⟩ := hd
        rfl)
      (by
        intro d hd _ acc
        simp only [List.mem_map] at hd
        obtain ⟨_, ⟨x, hx, rfl⟩, rfl⟩ := hd
        rfl)
  have hd0 := hdc ((rows.map kvR).length + 1) 0 [] (by simp) (by simp) (by simp)
  have res : ((((rows.map kvR).map fun kv => (PyData.tuple [keyV kv.1, kv.2] : D)).filter (prP s)).map fun d => (prK d, prV d)) = (rows.filter fun r => decide (r.2.1 = s)).map kvR := by
    rw [List.map_map, List.filter_map, List.map_map]
    rfl
  simp only [List.drop_zero, List.nil_append] at hd0
  rw [res] at hd0
  have hdc2 : eDc (iItems (eFld 2 "rows" (eVar 0))) (tTup 2 (tCons (tName 4) (tCons (tName 5) (tNil)))) (eB (eOp dEq (eOp dIx (eVar 5) (eC (.int 0))) (eVar 1))) (eVar 4) (eVar 5) [4, 5] ⟨vars0, S⟩ = .ok (rf so.length) (S ++ [.dct ((rows.filter fun r => decide (r.2.1 = s)).map kvR)]) := by
    have ei := ref_ins Sn
    have hit : iItems (eFld 2 "rows" (eVar 0)) ⟨vars0, S⟩ = .ok (.items r (rows.map kvR)) S := by
      have : dctOf S (rf r) = some (r, rows.map kvR, true) := by simp [dctOf, S1]
      simp [iItems, bnd, eFld, kFld, eVar, vars0, startD, ei, lk_rows, kItems, this]
    unfold eDc
    rw [bnd_ok hit]
    simp only [fuelI]
    rw [hd0, lS]
  have hpk : pickD (eFld 2 "rows" (eVar 0)) ⟨vars0, so⟩ = some r := by
    simp [pickD, bnd, eFld, kFld, eVar, vars0, startD, e0, lk_rows]
  obtain ⟨R1, hR1⟩ : ∃ R1, R1 = so ++ [SO.dct ((rows.filter fun r => decide (r.2.1 = s)).map kvR)] := ⟨_, rfl⟩
  have hun : unlockSo (S ++ [.dct ((rows.filter fun r => decide (r.2.1 = s)).map kvR)]) r = some R1 := by
    rw [unlock_eq (kvs := rows.map kvR) (by rw [List.getElem?_append_left (by omega)]; exact S1), List.set_append_left _ _ (by omega), hS, List.set_set, set_set_self h.d, hR1]
  have R1n : R1[n]? = some (.ins 0 (keepF m r a b c)) := by rw [hR1]; exact app_get h.o
  have R1r : R1[r]? = some (.dct (rows.map kvR)) := by rw [hR1]; exact app_get h.d
  have R1l : R1[so.length]? = some (.dct ((rows.filter fun r => decide (r.2.1 = s)).map kvR)) := by rw [hR1]; exact app_last
  have e1 := ref_ins R1n
  have d1 : dLen [rf r] R1 = some (.int rows.length, R1) := by simp [dLen, lstOf, R1r, dctOf]
  have d2 : dLen [rf so.length] R1 = some (.int (rows.filter fun r => decide (r.2.1 = s)).length, R1) := by simp [dLen, lstOf, R1l, dctOf]
  have pf : putFld 2 "rows" (rf n) (rf so.length) R1 = some (R1.set n (.ins 0 (keepF m so.length a b c))) := by
    simp only [putFld, e1]
    rfl
  have hall : g_AnswerKeep_sweep [rf n, .int s] so = .ok (.int (rows.length - (rows.filter fun r => decide (r.2.1 = s)).length)) (R1.set n (.ins 0 (keepF m so.length a b c))) := by
    have s1 : sLock (eFld 2 "rows" (eVar 0)) (sSet 2 (eDc (iItems (eFld 2 "rows" (eVar 0))) (tTup 2 (tCons (tName 4) (tCons (tName 5) (tNil)))) (eB (eOp dEq (eOp dIx (eVar 5) (eC (.int 0))) (eVar 1))) (eVar 4) (eVar 5) [4, 5])) ⟨vars0, so⟩ = .ok .nx ⟨[some (rf n), some (.int s), some (rf so.length), none, none, none], R1⟩ := by
      unfold sLock
      simp only [hpk, lock_eq h.d]
      rw [← hS]
      unfold sSet
      rw [bndS_ok hdc2]
      simp only [hun]
      rfl
    unfold g_AnswerKeep_sweep fnM m_AnswerKeep_sweep
    rw [show startD N_AnswerKeep_sweep [rf n, .int s] = vars0 from rfl, seq_ok s1]
    simp [sSeq, sAsg, bndS, eOp, bnd, eFld, kFld, eVar, tName, rtS, sRet, EV.ret, lft, eCB, eCons, eNil, e1, lk_rows, d1, d2, sFldD, pf]
  refine ⟨_, hall, ?_, ?_, ?_, ?_, ?_, ?_⟩
  · have q : (R1.set n (.ins 0 (keepF m so.length a b c)))[n]? = some (.ins 0 (keepF m so.length a b c)) := List.getElem?_set_self (by rw [hR1]; simp; omega)
    unfold gcOk
    rw [List.all_eq_false]
    refine ⟨.ins 0 (keepF m so.length a b c), ?_, ?_⟩
    · refine List.mem_of_getElem? (i := n) ?_
      rw [List.getElem?_take_of_lt ln]; exact q
    · simp [limO, keepF, lim]
  · rw [hR1]; simp
  · refine WF.set ?_ (lim_keep (by rw [hR1]; simp))
    rw [hR1]
    exact hw.app lim_rows
  · intro i h1 h2
    rw [List.getElem?_set_ne (Ne.symm h2), hR1, List.getElem?_append_left h1]
  · exact List.getElem?_set_self (by rw [hR1]; simp; omega)
  · rw [List.getElem?_set_ne (Nat.ne_of_lt ln)]
    exact R1l
end K21
end
section
set_option Elab.async false
set_option linter.all false
set_option maxRecDepth 10000
set_option maxHeartbeats 4000000
namespace K21
open PySem EV
open L2 (Key)
def tS (i : Int) : PySem.Str := toString i
structure RowOk (x : Row) : Prop where
  k : x.1.length = 1
  s0 : 0 ≤ x.2.1
  s1 : x.2.1 < 2
  a0 : 0 ≤ x.2.2.1
  a1 : x.2.2.1 < 30
  c0 : 0 ≤ x.2.2.2
  c1 : x.2.2.2 < 9
theorem tS_len {i : Int} (h0 : 0 ≤ i) (h1 : i < 9) : (tS i).length = 1 := by
  have : i = 0 ∨ i = 1 ∨ i = 2 ∨ i = 3 ∨ i = 4 ∨ i = 5 ∨ i = 6 ∨ i = 7 ∨ i = 8 := by omega
  rcases this with rfl | rfl | rfl | rfl | rfl | rfl | rfl | rfl | rfl <;> decide +kernel
theorem log_ok {i : Int} (h0 : 0 ≤ i) (h1 : i < 9) : i.natAbs.log2 < 1920 := by
  have : i = 0 ∨ i = 1 ∨ i = 2 ∨ i = 3 ∨ i = 4 ∨ i = 5 ∨ i = 6 ∨ i = 7 ∨ i = 8 := by omega
  rcases this with rfl | rfl | rfl | rfl | rfl | rfl | rfl | rfl | rfl <;> decide +kernel
def lineS (x : Row) : PySem.Str := x.1 ++ " " ++ tS x.2.1 ++ " " ++ tS x.2.2.2
def pr1 : D → D
  | .tuple [k, _] => k
  | _ => .none
def lineD : D → D
  | .tuple [.str k, .tuple [.int s, _, .int c]] => .str (k ++ " " ++ tS s ++ " " ++ tS c)
  | _ => .none
theorem filt_true {α : Type} (l : List α) : l.filter (fun _ => true) = l := List.filter_eq_self.mpr fun _ _ => rfl
theorem keep_lines {so : List SO} {n r : Nat} {m a b c : Int} {rows : List Row} (h : Keep so n r m a b c rows) (hw : WF so) (hm : rows.length ≤ 1000) (hr : ∀ x ∈ rows, RowOk x) :
    g_AnswerKeep_keep_lines [rf n] so = .ok (.tuple (rows.map fun x => .str (lineS x))) so := by
  have ln := h.ln
  have lr := h.lr
  have hne := h.ne
  have e0 := ref_ins h.o
  obtain ⟨S, hS⟩ : ∃ S, S = so.set r (.dlk (rows.map kvR)) := ⟨_, rfl⟩
  have lS : S.length = so.length := by rw [hS]; simp
  have S1 : S[r]? = some (.dlk (rows.map kvR)) := by rw [hS]; exact List.getElem?_set_self lr
  have Sn : S[n]? = some (.ins 0 (keepF m r a b c)) := by rw [hS, List.getElem?_set_ne hne]; exact h.o
  have wS : WF S := by rw [hS]; exact hw.set (by have := lim_rows (m := so.length) (rows := rows); simpa [limO] using this)
  let vars0 : List (Option D) := startD N_AnswerKeep_keep_lines [rf n]
  have ei := ref_ins Sn
  have hit : iItems (eFld 2 "rows" (eVar 0)) ⟨vars0, S⟩ = .ok (.items r (rows.map kvR)) S := by
    have : dctOf S (rf r) = some (r, rows.map kvR, true) := by simp [dctOf, S1]
    simp [iItems, bnd, eFld, kFld, eVar, vars0, startD, ei, lk_rows, kItems, this]
  have q := lc_val (g := tTup 2 (tCons (tName 1) (tCons (tTup 3 (tCons (tName 2) (tCons (tName 3) (tCons (tName 4) (tNil))))) (tNil)))) (t := tTrue) (e := eJoined [eFmt (eVar 1), eC (.str " "), eFmt (eVar 2), eC (.str " "), eFmt (eVar 4)]) (vs := [1, 2, 3, 4])
    (items := (rows.map kvR).map fun kv => .tuple [keyV kv.1, kv.2])
    (vv := fun d => match d with | .tuple [k, .tuple [x, y, z]] => [some (rf n), some k, some x, some y, some z] | _ => [])
    (p := fun _ => true) (φ := lineD) wS hit (by simp [fuelI]) (by simp [mx]; omega) (by intro i acc; simp [nextI])
    (by
      intro d hd acc
      simp only [List.mem_map] at hd
      obtain ⟨_, ⟨x, hx, rfl⟩, rfl⟩ := hd
      rfl)
    (by intro d hd acc; rfl)
    (by
      intro d hd _ acc
      simp only [List.mem_map] at hd
      obtain ⟨_, ⟨x, hx, rfl⟩, rfl⟩ := hd
      have o := hr x hx
      have l1 := o.k
      have l2 := tS_len o.s0 (by have := o.s1; omega)
      have l3 := tS_len o.c0 o.c1
      have g1 := log_ok o.s0 (by have := o.s1; omega)
      have g2 := log_ok o.c0 o.c1
      have f1 : ∀ so : List SO, ∀ vs, kFmt (.int x.2.1) ⟨vs, so⟩ = .ok (.str (tS x.2.1)) so := fun so vs => by simp only [kFmt, if_pos g1]; rfl
      have f2 : ∀ so : List SO, ∀ vs, kFmt (.int x.2.2.2) ⟨vs, so⟩ = .ok (.str (tS x.2.2.2)) so := fun so vs => by simp only [kFmt, if_pos g2]; rfl
      have f0 : ∀ so : List SO, ∀ vs, kFmt (.str x.1) ⟨vs, so⟩ = .ok (.str x.1) so := fun so vs => by
        have : x.1.length ≤ mx := by rw [l1]; decide
        simp only [kFmt, if_pos this]
      have sp : (PySem.Str.length " ") = 1 := by decide
      have la : ∀ a b : PySem.Str, (a ++ b).length = a.length + b.length := fun a b => PySem.Str.length_append a b
      have le : PySem.Str.length PySem.Str.empty = 0 := rfl
      have b1 : (PySem.Str.empty ++ x.1).length ≤ mx := by rw [la, l1, le]; decide
      have b2 : (PySem.Str.empty ++ x.1 ++ " ").length ≤ mx := by rw [la, la, l1, le, sp]; decide
      have b3 : (PySem.Str.empty ++ x.1 ++ " " ++ tS x.2.1).length ≤ mx := by rw [la, la, la, l1, le, sp, l2]; decide
      have b4 : (PySem.Str.empty ++ x.1 ++ " " ++ tS x.2.1 ++ " ").length ≤ mx := by rw [la, la, la, la, l1, le, sp, l2]; decide
      have b5 : (PySem.Str.empty ++ x.1 ++ " " ++ tS x.2.1 ++ " " ++ tS x.2.2.2).length ≤ mx := by rw [la, la, la, la, la, l1, le, sp, l2, l3]; decide
      simp only [kvR, keyV, eJoined, eJs, eFmt, bnd, eVar, eC, EV.ret, List.getElem?_cons_succ, List.getElem?_cons_zero, f0, f1, f2, if_pos b1, if_pos b2, if_pos b3, if_pos b4, if_pos b5, lineD]
      rw [PySem.Str.empty_append])
    (by
      intro d hd
      simp only [List.mem_map] at hd
      obtain ⟨_, ⟨x, hx, rfl⟩, rfl⟩ := hd
      simp [kvR, keyV, lineD, lim])
  have res : ((((rows.map kvR).map fun kv => (PyData.tuple [keyV kv.1, kv.2] : D)).filter fun _ => true).map lineD) = rows.map fun x => .str (lineS x) := by
    rw [filt_true, List.map_map, List.map_map]
    rfl
  rw [res] at q
  have hpk : pickD (eFld 2 "rows" (eVar 0)) ⟨vars0, so⟩ = some r := by
    simp [pickD, bnd, eFld, kFld, eVar, vars0, startD, e0, lk_rows]
  have hl : eLock (eFld 2 "rows" (eVar 0)) (eLc false (iItems (eFld 2 "rows" (eVar 0))) (tTup 2 (tCons (tName 1) (tCons (tTup 3 (tCons (tName 2) (tCons (tName 3) (tCons (tName 4) (tNil))))) (tNil)))) tTrue (eJoined [eFmt (eVar 1), eC (.str " "), eFmt (eVar 2), eC (.str " "), eFmt (eVar 4)]) [1, 2, 3, 4]) ⟨vars0, so⟩ = .ok (.list (rows.map fun x => .str (lineS x))) so := by
    unfold eLock
    simp only [hpk, lock_eq h.d]
    rw [← hS, q]
    simp only [unlock_eq S1]
    rw [hS, List.set_set, set_set_self h.d]
  unfold g_AnswerKeep_keep_lines fnM m_AnswerKeep_keep_lines
  rw [show startD N_AnswerKeep_keep_lines [rf n] = vars0 from rfl]
  have hz : eCB dTupA (eCons (eLock (eFld 2 "rows" (eVar 0)) (eLc false (iItems (eFld 2 "rows" (eVar 0))) (tTup 2 (tCons (tName 1) (tCons (tTup 3 (tCons (tName 2) (tCons (tName 3) (tCons (tName 4) (tNil))))) (tNil)))) tTrue (eJoined [eFmt (eVar 1), eC (.str " "), eFmt (eVar 2), eC (.str " "), eFmt (eVar 4)]) [1, 2, 3, 4])) eNil) ⟨vars0, so⟩ = .ok (.tuple (rows.map fun x => .str (lineS x))) so := by
    unfold eCB eCons
    simp only [bnd, hl, eNil, EV.ret, dTupA, lstOf, lft]
  unfold sRet
  rw [bndS_ok hz]
end K21
end
section
set_option Elab.async false
set_option linter.all false
set_option maxRecDepth 10000
set_option maxHeartbeats 4000000
namespace K21
open PySem EV
open L2 (Key atI ixN)
/-! ### the law's own keep -/
abbrev ownF (rows : List Row) (a b c : Int) : List (Key × D) := [(.inr "rows", .list (rows.map tuR)), (.inr "had", .int a), (.inr "lacked", .int b), (.inr "saved", .int c)]
theorem own_rows {rows : List Row} {a b c : Int} : dGet (ownF rows a b c) (.inr "rows") = some (.list (rows.map tuR)) := by rfl
theorem own_had {rows : List Row} {a b c : Int} : dGet (ownF rows a b c) (.inr "had") = some (.int a) := by rfl
theorem own_lacked {rows : List Row} {a b c : Int} : dGet (ownF rows a b c) (.inr "lacked") = some (.int b) := by rfl
theorem own_saved {rows : List Row} {a b c : Int} : dGet (ownF rows a b c) (.inr "saved") = some (.int c) := by rfl
theorem set_own {so : List SO} {o : Nat} {kvs : List (Key × D)} {k : PySem.Str} {d : D} (h : so[o]? = some (.dct kvs)) (hl : kvs.length < mx) : kSet (rf o) (.str k) d so = some (so.set o (.dct (dPut kvs (.inr k) d))) := by
  simp [kSet, h, keyD, hl]
theorem own_put_rows {rows rows' : List Row} {a b c : Int} : dPut (ownF rows a b c) (.inr "rows") (.list (rows'.map tuR)) = ownF rows' a b c := by rfl
theorem own_put_had {rows : List Row} {a b c d : Int} : dPut (ownF rows a b c) (.inr "had") (.int d) = ownF rows d b c := by rfl
theorem own_put_lacked {rows : List Row} {a b c d : Int} : dPut (ownF rows a b c) (.inr "lacked") (.int d) = ownF rows a d c := by rfl
theorem own_put_saved {rows : List Row} {a b c d : Int} : dPut (ownF rows a b c) (.inr "saved") (.int d) = ownF rows a b d := by rfl
theorem plain_tuR (x : Row) : (tuR x).plain = true := by unfold tuR; simp [PyData.plain, PyData.plainAll]
theorem depth_tuR (x : Row) : (tuR x).depth ≤ 1 := by unfold tuR; simp [PyData.depth, PyData.depthAll]
theorem deep_rows (rows : List Row) : deepOk (.list (rows.map tuR)) = true := (deepL (n := 1) (by decide) fun x hx => by
  obtain ⟨r, _, rfl⟩ := List.mem_map.mp hx
  exact ⟨plain_tuR r, depth_tuR r⟩).1
theorem lim_own {m : Nat} {rows : List Row} {a b c : Int} : limO m (.dct (ownF rows a b c)) = true := by
  have : lims m (rows.map tuR) = true := lims_plain _ (plainAll_of fun x hx => by
    obtain ⟨r, _, rfl⟩ := List.mem_map.mp hx
    exact plain_tuR r)
  simp [limO, ownF, lim, this]
/-- comprehensions over rows -/
theorem lc_rows {f : M D} {t : M Bool} {S : List SO} {vars : List (Option D)} {v : Nat} {rows : List Row} {p : Row → Bool} (hw : WF S) (hi : f ⟨vars, S⟩ = .ok (.list (rows.map tuR)) S) (hl : rows.length ≤ 1000)
    (ht : ∀ x ∈ rows, ∀ acc, t ⟨(wipeD vars [v]).set v (some (tuR x)), S ++ [.lst acc]⟩ = .ok (p x) (S ++ [.lst acc])) (hv : v < vars.length) :
    eLc false (iIt f) (tName v) t (eVar v) [v] ⟨vars, S⟩ = .ok (.list ((rows.filter p).map tuR)) S := by
  obtain ⟨q, hq⟩ : ∃ q : D → Row, ∀ x, q (tuR x) = x := ⟨fun d => match d with | .tuple [.str k, .int a, .int b, .int c] => (k, a, b, c) | _ => ("", 0, 0, 0), fun x => rfl⟩
  have := lc_list (g := tName v) (t := t) (e := eVar v) (vs := [v]) (vv := fun d => (wipeD vars [v]).set v (some d)) (p := fun d => p (q d)) (φ := id) hw hi (by rw [List.length_map]; unfold mx; omega)
    (fun d _ acc => rfl)
    (fun d hd acc => by
      obtain ⟨x, hx, rfl⟩ := List.mem_map.mp hd
      rw [hq]; exact ht x hx acc)
    (fun d hd _ acc => by
      unfold eVar
      rw [List.getElem?_set_self (by simpa [wipeD] using hv)]
      rfl)
    (fun d hd => by
      obtain ⟨x, hx, rfl⟩ := List.mem_map.mp hd
      exact lim_plain _ (plain_tuR x))
  rw [this, List.map_id]
  congr 2
  rw [List.filter_map]
  congr 1
  apply List.filter_congr
  intro x _
  simp [hq]
theorem ix_tu0 {x : Row} {so : List SO} : dIx (tuR x) (.int 0) so = some (.str x.1, so) := ix_tup rfl
theorem ix_tu1 {x : Row} {so : List SO} : dIx (tuR x) (.int 1) so = some (.int x.2.1, so) := ix_tup rfl
theorem ix_tu2 {x : Row} {so : List SO} : dIx (tuR x) (.int 2) so = some (.int x.2.2.1, so) := ix_tup rfl
theorem ix_tu3 {x : Row} {so : List SO} : dIx (tuR x) (.int 3) so = some (.int x.2.2.2, so) := ix_tup rfl
theorem opS_ok {f1 f2 : M D} {g : O2} {st : EV.St} {x y : D} {so1 so2 : List SO} {r : D × List SO} (h1 : f1 st = .ok x so1) (h2 : f2 ⟨st.vars, so1⟩ = .ok y so2) (h3 : g x y so2 = some r) : eOp g f1 f2 st = .ok r.1 r.2 := by
  unfold eOp
  rw [bnd_ok h1]
  show bnd f2 _ ⟨st.vars, so1⟩ = _
  rw [bnd_ok h2]
  simp only [h3]
  rfl
theorem rtS_name {i : Nat} {d : D} {st : EV.St} : rtS (tName i d st) = .ok .nx ⟨st.vars.set i (some d), st.so⟩ := rfl
theorem law_get {so : List SO} {o : Nat} {rows : List Row} {a b c : Int} (h : so[o]? = some (.dct (ownF rows a b c))) (hw : WF so) (hk : (keys rows).Nodup) (hm : rows.length ≤ 1000) (k : PySem.Str) (s : Int) :
    g_law_get [rf o, .str k, .int s] so = .ok (gotD (gotV rows k s)) (so.set o (.dct (ownF (gotR rows k s) (if (gotV rows k s).isSome then a + 1 else a) (if (gotV rows k s).isSome then b else b + 1) (match gotV rows k s with | some x => c + x.2.2.2 | none => c)))) := by
  have lo : o < so.length := (List.getElem?_eq_some_iff.mp h).1
  have ff := filter_find (k := k) hk
  let v0 : List (Option D) := [some (rf o), some (.str k), some (.int s), none, none, none]
  obtain ⟨Fd, hF⟩ : ∃ Fd, Fd = (rows.find? fun r => decide (r.1 = k)).toList := ⟨_, rfl⟩
  let v1 : List (Option D) := [some (rf o), some (.str k), some (.int s), some (.list (Fd.map tuR)), none, none]
  have ir : ∀ vs : List (Option D), vs[0]? = some (some (rf o)) → eOp dIx (eVar 0) (eC (.str "rows")) ⟨vs, so⟩ = .ok (.list (rows.map tuR)) so := fun vs hv => by
    simp [eOp, bnd, eVar, hv, eC, EV.ret, ix_dct h own_rows, lft]
  have sA : sSet 3 (eLc false (iIt (eOp dIx (eVar 0) (eC (.str "rows")))) (tName 5) (eB (eOp dEq (eOp dIx (eVar 5) (eC (.int 0))) (eVar 1))) (eVar 5) [5]) ⟨v0, so⟩ = .ok .nx ⟨v1, so⟩ := by
    unfold sSet
    rw [bndS_ok (lc_rows (p := fun r => decide (r.1 = k)) hw (ir v0 rfl) hm (fun x _ acc => by simp [v0, wipeD, eB, eOp, bnd, eVar, eC, EV.ret, ix_tu0, lft, kB]) (by show 5 < 6; decide)), ff, ← hF]
    rfl
  have lF : Fd.length ≤ 1 := by rw [hF]; cases rows.find? (fun r => decide (r.1 = k)) <;> simp
  have gE : Fd.filter (fun r => decide (r.2.1 = s)) = (gotV rows k s).toList := by
    rw [hF]; unfold gotV
    cases rows.find? (fun r => decide (r.1 = k)) with
    | none => rfl
    | some row => by_cases hs : row.2.1 = s <;> simp [hs, Option.filter]
  have sB : sAsg (eOp dAdd (eLc false (iIt (eOp dIx (eVar 0) (eC (.str "rows")))) (tName 5) (eB (eOp dNe (eOp dIx (eVar 5) (eC (.int 0))) (eVar 1))) (eVar 5) [5]) (eLc false (iIt (eVar 3)) (tName 5) (eB (eOp dEq (eOp dIx (eVar 5) (eC (.int 1))) (eVar 2))) (eVar 5) [5])) (tSub (eVar 0) (eC (.str "rows"))) ⟨v1, so⟩ = .ok .nx ⟨v1, so.set o (.dct (ownF (gotR rows k s) a b c))⟩ := by
    have q1 := lc_rows (v := 5) (t := eB (eOp dNe (eOp dIx (eVar 5) (eC (.int 0))) (eVar 1))) (p := fun r => decide (r.1 ≠ k)) hw (ir v1 rfl) hm (fun x _ acc => by simp [v1, wipeD, eB, eOp, bnd, eVar, eC, EV.ret, ix_tu0, lft, kB]) (by show 5 < 6; decide)
    have q2 := lc_rows (v := 5) (f := eVar 3) (vars := v1) (t := eB (eOp dEq (eOp dIx (eVar 5) (eC (.int 1))) (eVar 2))) (p := fun r => decide (r.2.1 = s)) (rows := Fd) hw rfl (by omega) (fun x _ acc => by simp [v1, wipeD, eB, eOp, bnd, eVar, eC, EV.ret, ix_tu1, lft, kB]) (by show 5 < 6; decide)
    have ll : ((rows.filter fun r => decide (r.1 ≠ k)).map tuR).length + ((Fd.filter fun r => decide (r.2.1 = s)).map tuR).length ≤ mx := by
      have := List.length_filter_le (fun r => decide (r.1 ≠ k)) rows
      have := List.length_filter_le (fun r => decide (r.2.1 = s)) Fd
      rw [List.length_map, List.length_map]
      unfold mx; omega
    have q3 : dAdd (.list ((rows.filter fun r => decide (r.1 ≠ k)).map tuR)) (.list ((Fd.filter fun r => decide (r.2.1 = s)).map tuR)) so = some (.list ((gotR rows k s).map tuR), so) := by
      unfold dAdd
      simp only [lstOf, if_pos ll]
      rw [← List.map_append, gE]
      rfl
    have q4 := set_own (k := "rows") (d := .list ((gotR rows k s).map tuR)) h (by show 4 < 1000000; decide)
    rw [own_put_rows] at q4
    have q5 := opS_ok q1 q2 q3
    unfold sAsg
    rw [bndS_ok q5]
    simp [EV.tSub, bndT, bnd, eVar, v1, eC, EV.ret, q4, rtS]
  unfold g_law_get fnM m_law_get
  rw [show startD N_law_get [rf o, .str k, .int s] = v0 from rfl, seq_ok sA, seq_ok sB]
  obtain ⟨T, hT⟩ : ∃ T, T = so.set o (.dct (ownF (gotR rows k s) a b c)) := ⟨_, rfl⟩
  have T0 : T[o]? = some (.dct (ownF (gotR rows k s) a b c)) := by rw [hT]; exact List.getElem?_set_self lo
  rw [← hT]
  have ih := ix_dct T0 own_had
  have il := ix_dct T0 own_lacked
  have is := ix_dct T0 own_saved
  have fin : ∀ (a' b' c' : Int) (x : D) (vs : List (Option D)), vs[0]? = some (some (rf o)) → rtS (EV.tTup 3 (EV.tCons (EV.tSub (eVar 0) (EV.ret (.str "had"))) (EV.tCons (EV.tSub (eVar 0) (EV.ret (.str "lacked"))) (EV.tCons (EV.tSub (eVar 0) (EV.ret (.str "saved"))) EV.tNil))) (.tuple [.int a', .int b', .int c']) ⟨vs, T⟩) = .ok .nx ⟨vs, so.set o (.dct (ownF (gotR rows k s) a' b' c'))⟩ := fun a' b' c' x vs hv => by
    have k1 := set_own (k := "had") (d := .int a') T0 (by show 4 < 1000000; decide)
    rw [own_put_had, hT, List.set_set] at k1
    have T1 : (so.set o (.dct (ownF (gotR rows k s) a' b c)))[o]? = some (.dct (ownF (gotR rows k s) a' b c)) := List.getElem?_set_self lo
    have k2 := set_own (k := "lacked") (d := .int b') T1 (by show 4 < 1000000; decide)
    rw [own_put_lacked, List.set_set] at k2
    have T2 : (so.set o (.dct (ownF (gotR rows k s) a' b' c)))[o]? = some (.dct (ownF (gotR rows k s) a' b' c)) := List.getElem?_set_self lo
    have k3 := set_own (k := "saved") (d := .int c') T2 (by show 4 < 1000000; decide)
    rw [own_put_saved, List.set_set] at k3
    rw [hT]
    simp [EV.tTup, EV.tCons, EV.tNil, EV.tSub, bndT, bnd, eVar, hv, eC, EV.ret, k1, k2, k3, rtS]
  have m3 : (3 : Nat) ≤ mx := by decide
  cases hf : rows.find? fun r => decide (r.1 = k) with
  | none =>
    have gv : gotV rows k s = none := by unfold gotV; rw [hf]; rfl
    have F0 : Fd = [] := by rw [hF, hf]; rfl
    have ne : dNe (.list []) (.list []) T = some (.bool false, T) := dNe_same (by rfl)
    have f1 := fun vs hv => fin a (b + 1) c .none vs hv
    simp only [gv] at f1 ⊢
    simp [F0, v1, sSeq, sAsg, bndS, eOp, bnd, eFld, eVar, rtS_name, sRet, EV.ret, lft, eCB, eCons, eNil, eLst, EV.kLst, vAnd, vNot, ne, eC, eTup, EV.kTup, ih, il, is, dInt, eIf, eB, kB, m3, f1, gotD]
  | some row =>
    obtain ⟨rk, rm⟩ := find_key hf
    have F0 : Fd = [row] := by rw [hF, hf]; rfl
    have ne : dNe (.list [tuR row]) (.list []) T = some (.bool true, T) := by
      have := deep_rows [row]
      have e2 : deepOk (.list []) = true := by rfl
      simp only [List.map_cons, List.map_nil] at this
      simp [dNe, dCmp, dref_list, this, e2, PyData.eqv, PyData.eqvAll]
    have i0 : dIx (.list [tuR row]) (.int 0) T = some (tuR row, T) := by simp [dIx, lstOf, atI, ixN]
    by_cases hs : row.2.1 = s
    · have gv : gotV rows k s = some row := by unfold gotV; rw [hf]; simp [hs]
      have f1 := fun vs hv => fin (a + 1) b (c + row.2.2.2) .none vs hv
      simp only [gv] at f1 ⊢
      simp [F0, v1, sSeq, sAsg, bndS, eOp, bnd, eFld, eVar, rtS_name, sRet, EV.ret, lft, eCB, eCons, eNil, eLst, EV.kLst, vAnd, vNot, ne, eC, eTup, EV.kTup, ih, il, is, dInt, eIf, eB, kB, m3, f1, gotD, i0, ix_tu1, ix_tu2, ix_tu3, hs, List.getElem?_set_self lo]
      have i1 : ∀ so : List SO, dIx (.list [tuR row]) (.int 0) so = some (tuR row, so) := fun so => by simp [dIx, lstOf, atI, ixN]
      simp [i1, ix_tu2]
    · have gv : gotV rows k s = none := by unfold gotV; rw [hf]; simp [hs]
      have f1 := fun vs hv => fin a (b + 1) c .none vs hv
      simp only [gv] at f1 ⊢
      simp [F0, v1, sSeq, sAsg, bndS, eOp, bnd, eFld, eVar, rtS_name, sRet, EV.ret, lft, eCB, eCons, eNil, eLst, EV.kLst, vAnd, vNot, ne, eC, eTup, EV.kTup, ih, il, is, dInt, eIf, eB, kB, m3, f1, gotD, i0, ix_tu1, ix_tu2, ix_tu3, hs]
end K21
end
section
set_option Elab.async false
set_option linter.all false
set_option maxRecDepth 10000
set_option maxHeartbeats 4000000
namespace EV
open PySem
/-! ### one step each -/
section
variable {vars : List (Option D)} {so so1 so2 so3 so4 : List SO} {f f1 f2 f3 : M D} {d x y : D} {ds : List D} {i : Nat}
theorem var_ok (h : vars[i]? = some (some d)) : eVar i ⟨vars, so⟩ = .ok d so := by
  unfold eVar
  simp only [h]
theorem c_ok : eC d ⟨vars, so⟩ = .ok d so := rfl
theorem op_ok {g : O2} (h1 : f1 ⟨vars, so⟩ = .ok x so1) (h2 : f2 ⟨vars, so1⟩ = .ok y so2) (h3 : g x y so2 = some (d, so3)) : eOp g f1 f2 ⟨vars, so⟩ = .ok d so3 := by
  unfold eOp
  rw [bnd_ok h1]
  show bnd f2 _ ⟨vars, so1⟩ = _
  rw [bnd_ok h2]
  simp only [h3]
  rfl
theorem nil_ok : eNil ⟨vars, so⟩ = .ok [] so := rfl
theorem cons_ok {g : M (List D)} (h1 : f ⟨vars, so⟩ = .ok d so1) (h2 : g ⟨vars, so1⟩ = .ok ds so2) : eCons f g ⟨vars, so⟩ = .ok (d :: ds) so2 := by
  unfold eCons
  rw [bnd_ok h1]
  show bnd g _ ⟨vars, so1⟩ = _
  rw [bnd_ok h2]
  rfl
theorem one_ok (h1 : f ⟨vars, so⟩ = .ok d so1) : eCons f eNil ⟨vars, so⟩ = .ok [d] so1 := cons_ok h1 nil_ok
theorem two_ok (h1 : f ⟨vars, so⟩ = .ok d so1) (h2 : f2 ⟨vars, so1⟩ = .ok x so2) : eCons f (eCons f2 eNil) ⟨vars, so⟩ = .ok [d, x] so2 := cons_ok h1 (one_ok h2)
theorem cb_ok {g : OA} {fa : M (List D)} (h1 : fa ⟨vars, so⟩ = .ok ds so1) (h2 : g ds so1 = some (d, so2)) : eCB g fa ⟨vars, so⟩ = .ok d so2 := by
  unfold eCB
  rw [bnd_ok h1]
  simp only [h2]
  rfl
theorem fld_ok {n c k : Nat} {nm : PySem.Str} {fs : List (PySem.Str × D)} (h1 : f ⟨vars, so⟩ = .ok (rf n) so1) (h2 : so1[n]? = some (.ins c fs)) (h3 : List.lookup nm fs = some d) (hc : c < k := by decide) : eFld k nm f ⟨vars, so⟩ = .ok d so1 := by
  unfold eFld
  rw [bnd_ok h1]
  simp only [kFld, ref_ins h2, h3, if_pos hc]
theorem b_ok {b : Bool} (h1 : f ⟨vars, so⟩ = .ok (.bool b) so1) : eB f ⟨vars, so⟩ = .ok b so1 := by
  unfold eB
  rw [bnd_ok h1]
  rfl
theorem or_ok {b : Bool} {f g : M Bool} (h1 : f ⟨vars, so⟩ = .ok false so1) (h2 : g ⟨vars, so1⟩ = .ok b so2) : mOr f g ⟨vars, so⟩ = .ok b so2 := by
  unfold mOr
  rw [bnd_ok h1]
  simpa using h2
theorem and_ok {b : Bool} {f g : M Bool} (h1 : f ⟨vars, so⟩ = .ok true so1) (h2 : g ⟨vars, so1⟩ = .ok b so2) : mAnd f g ⟨vars, so⟩ = .ok b so2 := by
  unfold mAnd
  rw [bnd_ok h1]
  simpa using h2
theorem and_f {f g : M Bool} (h1 : f ⟨vars, so⟩ = .ok false so1) : mAnd f g ⟨vars, so⟩ = .ok false so1 := by
  unfold mAnd
  rw [bnd_ok h1]
  rfl
theorem if_f {c : M Bool} {f g : MS} (h : c ⟨vars, so⟩ = .ok false so1) : sIf c f g ⟨vars, so⟩ = g ⟨vars, so1⟩ := by
  unfold sIf
  rw [bndS_ok h]
  rfl
theorem if_t {c : M Bool} {f g : MS} (h : c ⟨vars, so⟩ = .ok true so1) : sIf c f g ⟨vars, so⟩ = f ⟨vars, so1⟩ := by
  unfold sIf
  rw [bndS_ok h]
  rfl
theorem eif_f {c : M Bool} (h : c ⟨vars, so⟩ = .ok false so1) : eIf c f1 f2 ⟨vars, so⟩ = f2 ⟨vars, so1⟩ := by
  unfold eIf
  rw [bnd_ok h]
  rfl
theorem eif_t {c : M Bool} (h : c ⟨vars, so⟩ = .ok true so1) : eIf c f1 f2 ⟨vars, so⟩ = f1 ⟨vars, so1⟩ := by
  unfold eIf
  rw [bnd_ok h]
  rfl
theorem asg_ok {g : MT} (h : f ⟨vars, so⟩ = .ok d so1) : sAsg f g ⟨vars, so⟩ = rtS (g d ⟨vars, so1⟩) := by
  unfold sAsg
  rw [bndS_ok h]
theorem asgN {i : Nat} (h : f ⟨vars, so⟩ = .ok d so1) : sAsg f (tName i) ⟨vars, so⟩ = .ok .nx ⟨vars.set i (some d), so1⟩ := asg_ok h
theorem set_ok (h : f ⟨vars, so⟩ = .ok d so1) : sSet i f ⟨vars, so⟩ = .ok .nx ⟨vars.set i (some d), so1⟩ := by
  unfold sSet
  rw [bndS_ok h]
theorem sub_ok {fo fi : M D} (h1 : fo ⟨vars, so⟩ = .ok x so1) (h2 : fi ⟨vars, so1⟩ = .ok y so2) (h3 : kSet x y d so2 = some so3) : EV.tSub fo fi d ⟨vars, so⟩ = .ok ⟨vars, so3⟩ := by
  unfold EV.tSub bndT
  simp only [h1, h2, h3]
theorem asgS {fo fi : M D} (h : f ⟨vars, so⟩ = .ok d so1) (h1 : fo ⟨vars, so1⟩ = .ok x so2) (h2 : fi ⟨vars, so2⟩ = .ok y so3) (h3 : kSet x y d so3 = some so4) : sAsg f (EV.tSub fo fi) ⟨vars, so⟩ = .ok .nx ⟨vars, so4⟩ := by
  rw [asg_ok h, sub_ok h1 h2 h3]
  rfl
theorem tup_ok {fa : M (List D)} (h1 : fa ⟨vars, so⟩ = .ok ds so1) (hl : ds.length ≤ mx := by simp [mx]) : eTup fa ⟨vars, so⟩ = .ok (.tuple ds) so1 := by
  unfold eTup
  rw [bnd_ok h1]
  simp only [EV.kTup, if_pos hl]
theorem lst_ok {fa : M (List D)} (h1 : fa ⟨vars, so⟩ = .ok ds so1) (hl : ds.length ≤ mx := by simp [mx]) : eLst fa ⟨vars, so⟩ = .ok (.list ds) so1 := by
  unfold eLst
  rw [bnd_ok h1]
  simp only [EV.kLst, if_pos hl]
theorem live_ok {fa : M (List D)} (h1 : fa ⟨vars, so⟩ = .ok ds so1) (hl : ds.length ≤ mx := by simp [mx]) : eLive fa ⟨vars, so⟩ = .ok (rf so1.length) (so1 ++ [.lst ds]) := by
  unfold eLive
  rw [bnd_ok h1]
  simp only [EV.kLive, if_pos hl]
theorem osome_ok {k : Int} (h : f ⟨vars, so⟩ = .ok (.int k) so1) : oSome f ⟨vars, so⟩ = .ok (some k) so1 := by
  unfold oSome
  rw [bnd_ok h]
  rfl
theorem onone_ok : oNone ⟨vars, so⟩ = .ok none so := rfl
theorem sl_ok {g h : M (Option Int)} {lo hi : Option Int} (h1 : f ⟨vars, so⟩ = .ok x so1) (h2 : g ⟨vars, so1⟩ = .ok lo so2) (h3 : h ⟨vars, so2⟩ = .ok hi so3) (h4 : dSl x lo hi so3 = some (d, so4)) : eSl f g h ⟨vars, so⟩ = .ok d so4 := by
  unfold eSl
  rw [bnd_ok h1]
  show bnd g _ ⟨vars, so1⟩ = _
  rw [bnd_ok h2]
  show bnd h _ ⟨vars, so2⟩ = _
  rw [bnd_ok h3]
  simp only [h4]
  rfl
theorem expr_ok (h : f ⟨vars, so⟩ = .ok d so1) : sExpr f ⟨vars, so⟩ = .ok .nx ⟨vars, so1⟩ := by
  unfold sExpr
  rw [bndS_ok h]
theorem ret_ok (h : f ⟨vars, so⟩ = .ok d so1) : sRet f ⟨vars, so⟩ = .ok (.ret d) ⟨vars, so1⟩ := by
  unfold sRet
  rw [bndS_ok h]
theorem it_lst {xs : List D} (h : f ⟨vars, so⟩ = .ok (.list xs) so1) : iIt f ⟨vars, so⟩ = .ok (.seq (.fz xs)) so1 := by
  unfold iIt
  rw [bnd_ok h]
  rfl
theorem it_tpl {xs : List D} (h : f ⟨vars, so⟩ = .ok (.tuple xs) so1) : iIt f ⟨vars, so⟩ = .ok (.seq (.fz xs)) so1 := by
  unfold iIt
  rw [bnd_ok h]
  rfl
theorem rng1_ok {n : Nat} (h : f ⟨vars, so⟩ = .ok (.int n) so1) (hn : n < mx) : iRng1 f ⟨vars, so⟩ = .ok (.rng 0 n) so1 := by
  unfold iRng1
  rw [bnd_ok h]
  have q : small62 (n : Int) = true := decide_eq_true (by unfold mx at hn; omega)
  simp [kRng1, q]
theorem for_ok {it : M ItD} {J : ItD} {g : MT} {b : MS} (h : it ⟨vars, so⟩ = .ok J so1) : sFor it g b ⟨vars, so⟩ = forGo g b J (fuelI J so1) 0 ⟨vars, so1⟩ := by
  unfold sFor
  rw [bndS_ok h]
end
/-! ### slices -/
theorem cut_take {α : Type} (xs : List α) (k : Nat) : cutD xs none (some (k : Int)) = xs.take k := by
  unfold cutD
  rw [HT.sIx_none, HT.sIx_nat, List.drop_zero, Nat.sub_zero]
  by_cases h : k ≤ xs.length
  · rw [Nat.min_eq_left h]
  · rw [Nat.min_eq_right (by omega), List.take_of_length_le (Nat.le_refl _), List.take_of_length_le (by omega)]
theorem cut_drop {α : Type} (xs : List α) (k : Nat) : cutD xs (some (k : Int)) none = xs.drop k := by
  unfold cutD
  rw [HT.sIx_none, HT.sIx_nat]
  by_cases h : k ≤ xs.length
  · rw [Nat.min_eq_left h, List.take_of_length_le (by rw [List.length_drop]; exact Nat.le_refl _)]
  · rw [Nat.min_eq_right (by omega), Nat.sub_self, List.take_zero, List.drop_eq_nil_of_le (by omega)]
theorem cut_mid {α : Type} (xs : List α) (j k : Nat) (h : j ≤ k) (hk : k ≤ xs.length) : cutD xs (some (j : Int)) (some (k : Int)) = (xs.take k).drop j := by
  unfold cutD
  rw [HT.sIx_nat, HT.sIx_nat, Nat.min_eq_left hk, Nat.min_eq_left (by omega), List.drop_take]
end EV
end
section
set_option Elab.async false
set_option linter.all false
set_option maxRecDepth 10000
set_option maxHeartbeats 4000000
namespace K21
open PySem EV
open L2 (Key atI ixN)
/-! ### rolls -/
def isDi (o : SO) : Prop := ∃ c t s : Int, o = .lst [.int c, .int t, .int s]
def Di (so : List SO) (j : Nat) : Prop := ∃ o, so[j]? = some o ∧ isDi o
theorem isDi.lim {o : SO} (h : isDi o) {m : Nat} : limO m o = true := by
  obtain ⟨c, t, s, rfl⟩ := h
  simp [limO, lims, EV.lim]
theorem roll_call {vars : List (Option D)} {so : List SO} {j : Nat} {n : Int} (h : Di so j) (hv : vars[1]? = some (some (rf j))) (h0 : 0 < n) (h1 : n ≤ 100000000) :
    ∃ v o, 0 ≤ v ∧ v < n ∧ isDi o ∧ eCall 2 (g_law_roll 3) (eCons (eVar 1) (eCons (eC (.int n)) eNil)) ⟨vars, so⟩ = .ok (.int v) (so.set j o) := by
  obtain ⟨o, ho, c, t, s, rfl⟩ := h
  obtain ⟨v, c', t', s', a, b, e⟩ := roll_eq ho h0 h1
  exact ⟨v, _, a, b, ⟨c', t', s', rfl⟩, call_same (two_ok (var_ok hv) c_ok) rfl e (by simp)⟩
theorem Di.set {so : List SO} {j : Nat} {o : SO} (h : Di so j) (ho : isDi o) : Di (so.set j o) j := by
  obtain ⟨o', h', _⟩ := h
  exact ⟨o, List.getElem?_set_self (List.getElem?_eq_some_iff.mp h').1, ho⟩
/-- a sign of a text -/
theorem sign_ok {z : PySem.Str} {v : Int} {so : List SO} (h0 : 0 ≤ v) (h1 : v < z.cps.toList.length) (hz : z.length ≤ mx) : ∃ c, z.cps.toList[v.toNat]? = some c ∧ dIx (.str z) (.int v) so = some (.str ⟨#[c]⟩, so) := by
  have hv : v.toNat < z.cps.toList.length := by omega
  refine ⟨z.cps.toList[v.toNat], List.getElem?_eq_getElem hv, ?_⟩
  have hi : ixN z.cps.toList.length v = some v.toNat := by
    unfold ixN
    rw [if_pos h0, if_pos h1]
  have ha : atI z.cps.toList v = some (z.cps.toList[v.toNat]) := by
    unfold atI
    rw [hi]
    exact List.getElem?_eq_getElem hv
  simp only [dIx, if_pos hz, ha]
  rfl
/-! ### the first loop -/
structure L1 (st : EV.St) (m a b c : Int) (rows : List Row) : Prop where
  len : st.vars.length = 27
  v1 : st.vars[1]? = some (some (rf 1))
  v2 : st.vars[2]? = some (some (.int m))
  v3 : st.vars[3]? = some (some (rf 2))
  v4 : st.vars[4]? = some (some (rf 4))
  dice : Di st.so 1
  keep : ∃ r, r ≠ 4 ∧ Keep st.so 2 r m a b c rows
  own : st.so[4]? = some (.dct (ownF rows a b c))
  wf : WF st.so
  nd : (keys rows).Nodup
  rl : (rows.length : Int) ≤ m
  m1 : 1 ≤ m
  m4 : m ≤ 4
  ok : ∀ x ∈ rows, RowOk x
  a0 : 0 ≤ a
  b0 : 0 ≤ b
/-- a change of later names -/
theorem L1.name {vars : List (Option D)} {so : List SO} {m a b c : Int} {rows : List Row} (h : L1 ⟨vars, so⟩ m a b c rows) {i : Nat} {d : Option D} (hi : 5 ≤ i) : L1 ⟨vars.set i d, so⟩ m a b c rows := by
  have ne : ∀ j < 5, (vars.set i d)[j]? = vars[j]? := fun j hj => List.getElem?_set_ne (by omega)
  exact ⟨by simpa using h.len, (ne 1 (by decide)).trans h.v1, (ne 2 (by decide)).trans h.v2, (ne 3 (by decide)).trans h.v3, (ne 4 (by decide)).trans h.v4, h.dice, h.keep, h.own, h.wf, h.nd, h.rl, h.m1, h.m4, h.ok, h.a0, h.b0⟩
/-- the dice change -/
theorem L1.roll {vars : List (Option D)} {so : List SO} {m a b c : Int} {rows : List Row} (h : L1 ⟨vars, so⟩ m a b c rows) {o : SO} (ho : isDi o) : L1 ⟨vars, so.set 1 o⟩ m a b c rows := by
  obtain ⟨r, hr, k⟩ := h.keep
  have r1 : r ≠ 1 := fun z => by
    obtain ⟨o', h', _, _, _, rfl⟩ := h.dice
    rw [← z] at h'
    have := k.d
    rw [h'] at this
    cases this
  exact ⟨h.len, h.v1, h.v2, h.v3, h.v4, h.dice.set ho, ⟨r, hr, ⟨by rw [List.getElem?_set_ne (by decide)]; exact k.o, by rw [List.getElem?_set_ne (Ne.symm r1)]; exact k.d⟩⟩, by rw [List.getElem?_set_ne (by decide)]; exact h.own, h.wf.set ho.lim, h.nd, h.rl, h.m1, h.m4, h.ok, h.a0, h.b0⟩
theorem st_eta (st : EV.St) : st = ⟨st.vars, st.so⟩ := rfl
/-- what is drawn -/
def s1 : MS := sAsg (eTup (eCons (eOp dIx (eC (.str "abcdef")) (eCall 2 (g_law_roll 3) (eCons (eVar 1) (eCons (eC (.int 6)) (eNil))))) (eCons (eCall 2 (g_law_roll 3) (eCons (eVar 1) (eCons (eC (.int 2)) (eNil)))) (eCons (eCall 2 (g_law_roll 3) (eCons (eVar 1) (eCons (eC (.int 9)) (eNil)))) (eCons (eCall 2 (g_law_roll 3) (eCons (eVar 1) (eCons (eC (.int 9)) (eNil)))) (eNil)))))) (EV.tTup 4 (EV.tCons (tName 6) (EV.tCons (tName 7) (EV.tCons (tName 8) (EV.tCons (tName 9) (EV.tNil))))))
structure Drawn (vars : List (Option D)) (k : PySem.Str) (s t w : Int) : Prop where
  v6 : vars[6]? = some (some (.str k))
  v7 : vars[7]? = some (some (.int s))
  v8 : vars[8]? = some (some (.int t))
  v9 : vars[9]? = some (some (.int w))
  k1 : k.length = 1
  s0 : 0 ≤ s
  s1 : s < 2
  w0 : 0 ≤ w
  w1 : w < 9
theorem s1_ok {st : EV.St} {m a b c : Int} {rows : List Row} (h : L1 st m a b c rows) {d5 : D} (h5 : st.vars[5]? = some (some d5)) : ∃ st' k s t w, s1 st = .ok .nx st' ∧ L1 st' m a b c rows ∧ Drawn st'.vars k s t w ∧ st'.vars[5]? = some (some d5) := by
  obtain ⟨vars, so⟩ := st
  obtain ⟨v, o1, a1, b1, i1, e1⟩ := roll_call (n := 6) h.dice h.v1 (by decide) (by decide)
  have h1 := h.roll i1
  obtain ⟨s, o2, a2, b2, i2, e2⟩ := roll_call (n := 2) h1.dice h1.v1 (by decide) (by decide)
  have h2 := h1.roll i2
  obtain ⟨t, o3, a3, b3, i3, e3⟩ := roll_call (n := 9) h2.dice h2.v1 (by decide) (by decide)
  have h3 := h2.roll i3
  obtain ⟨w, o4, a4, b4, i4, e4⟩ := roll_call (n := 9) h3.dice h3.v1 (by decide) (by decide)
  have h4 := h3.roll i4
  obtain ⟨ch, _, ix⟩ := sign_ok (z := "abcdef") (v := v) (so := so.set 1 o1) a1 (by show v < 6; exact b1) (by decide)
  have e := tup_ok (cons_ok (op_ok c_ok e1 ix) (cons_ok e2 (cons_ok e3 (one_ok e4))))
  have h5' := ((((h4.name (i := 6) (d := some (.str ⟨#[ch]⟩)) (by decide)).name (i := 7) (d := some (.int s)) (by decide)).name (i := 8) (d := some (.int t)) (by decide)).name (i := 9) (d := some (.int w)) (by decide))
  have hl := h.len
  refine ⟨_, ⟨#[ch]⟩, s, t, w, asg_ok e, h5', ⟨?_, ?_, ?_, ?_, rfl, a2, b2, a4, b4⟩, ?_⟩
  all_goals simp only [] at hl h5 ⊢
  all_goals ((repeat rw [List.getElem?_set_ne (by decide)]); first | (rw [List.getElem?_set_self (by (try simp only [List.length_set]); omega)]; done) | assumption)
end K21
end
section
set_option Elab.async false
set_option linter.all false
set_option maxRecDepth 10000
set_option maxHeartbeats 4000000
namespace K21
open PySem EV
open L2 (Key atI ixN)
theorem is_keep {so : List SO} {n : Nat} {nm : PySem.Str} {m a b c : Int} {r : Nat} (h : so[n]? = some (.ins 0 (keepF m r a b c))) (hn : List.lookup nm (keepF m r a b c) = none) : isCls so 0 nm (rf n) = true := by
  unfold isCls
  rw [ref_ins h]
  simp only [hn]
  rfl
theorem deep_got (o : Option Row) : ∀ so, dref so (gotD o) = gotD o ∧ deepOk (gotD o) = true := by
  intro so
  cases o <;> exact ⟨rfl, rfl⟩
theorem gotR_ok {rows : List Row} {k : PySem.Str} {s : Int} (h : ∀ x ∈ rows, RowOk x) : ∀ x ∈ gotR rows k s, RowOk x := by
  intro x hx
  unfold gotR gotV at hx
  rcases List.mem_append.mp hx with hx | hx
  · exact h x (List.mem_filter.mp hx).1
  · cases hf : rows.find? fun r => decide (r.1 = k) with
    | none => rw [hf] at hx; simp at hx
    | some row =>
      rw [hf] at hx
      have : row = x := by
        simp [Option.filter] at hx
        exact hx.2
      rw [← this]
      exact h row (List.mem_of_find?_eq_some hf)
theorem gotR_len {rows : List Row} {k : PySem.Str} {s : Int} : (gotR rows k s).length ≤ rows.length := by
  unfold gotR gotV
  cases hf : rows.find? fun r => decide (r.1 = k) with
  | none => simpa using List.length_filter_le _ _
  | some row =>
    have hm := List.mem_of_find?_eq_some hf
    have hp := List.find?_some hf
    have : (rows.filter fun r => decide (r.1 ≠ k)).length < rows.length := by
      have h1 := List.length_filter_lt_length_iff_exists (p := fun r : Row => decide (r.1 ≠ k)) (l := rows)
      exact h1.mpr ⟨row, hm, by simpa using hp⟩
    rw [List.length_append]
    have h2 : (Option.filter (fun r : Row => decide (r.2.1 = s)) (some row)).toList.length ≤ 1 := by
      simp only [Option.filter]
      split <;> simp
    omega
theorem gotR_nd {rows : List Row} {k : PySem.Str} {s : Int} (h : (keys rows).Nodup) : (keys (gotR rows k s)).Nodup := by
  unfold gotR gotV
  cases hf : rows.find? fun r => decide (r.1 = k) with
  | none => simpa using keys_filter _ h
  | some row =>
    by_cases hs : row.2.1 = s
    · simp only [Option.filter, hs, decide_true, if_true, Option.toList]
      have := find_key hf
      exact keys_snoc h this.1
    · simp only [Option.filter, hs, decide_false, Option.toList]
      simpa using keys_filter _ h
def s2a : MS := sIf (eB (eOp dNe (eMeth 0 3 "get" g_AnswerKeep_get (eVar 3) (eCons (eVar 6) (eCons (eVar 7) (eNil)))) (eCall 3 g_law_get (eCons (eVar 4) (eCons (eVar 6) (eCons (eVar 7) (eNil))))))) (sRet (eC (.bool false))) (sNext)
theorem s2a_ok {st : EV.St} {m a b c : Int} {rows : List Row} (h : L1 st m a b c rows) {k : PySem.Str} {s t w : Int} (d : Drawn st.vars k s t w) : ∃ so' a' b' c' rows', s2a st = .ok .nx ⟨st.vars, so'⟩ ∧ L1 ⟨st.vars, so'⟩ m a' b' c' rows' ∧ a' + b' = a + b + 1 := by
  obtain ⟨vars, so⟩ := st
  obtain ⟨r, r4, kp⟩ := h.keep
  have rl := h.rl
  have m4 := h.m4
  have hm : rows.length ≤ 1000 := by omega
  obtain ⟨so1, e1, ch, kp1⟩ := keep_get kp h.wf h.nd hm k s
  have cl := is_keep (nm := "get") kp.o rfl
  have q1 : eMeth 0 3 "get" g_AnswerKeep_get (eVar 3) (eCons (eVar 6) (eCons (eVar 7) (eNil))) ⟨vars, so⟩ = .ok (gotD (gotV rows k s)) so1 := meth_same (var_ok h.v3) cl (two_ok (var_ok d.v6) (var_ok d.v7)) rfl e1 ch.len
  have ow1 : so1[4]? = some (.dct (ownF rows a b c)) := (ch.same 4 (by decide) (Ne.symm r4)).trans h.own
  have e2 := law_get ow1 ch.wf h.nd hm k s
  have q2 : eCall 3 g_law_get (eCons (eVar 4) (eCons (eVar 6) (eCons (eVar 7) (eNil)))) ⟨vars, so1⟩ = _ := call_same (cons_ok (var_ok h.v4) (two_ok (var_ok d.v6) (var_ok d.v7))) rfl e2 (by simp)
  have dg := fun so => deep_got (gotV rows k s) so
  have q3 := if_f (f := sRet (eC (.bool false))) (g := sNext) (b_ok (op_ok q1 q2 (dNe_same (by rw [(dg _).1]; exact (dg []).2))))
  refine ⟨_, (if (gotV rows k s).isSome then a + 1 else a), (if (gotV rows k s).isSome then b else b + 1), (match gotV rows k s with | some x => c + x.2.2.2 | none => c), gotR rows k s, q3, ⟨h.len, h.v1, h.v2, h.v3, h.v4, ?_, ⟨r, r4, ⟨?_, ?_⟩⟩, ?_, ?_, gotR_nd h.nd, ?_, h.m1, h.m4, gotR_ok h.ok, ?_, ?_⟩, ?_⟩
  · obtain ⟨o, ho, io⟩ := h.dice
    have r1 : r ≠ 1 := fun z => by
      obtain ⟨_, _, _, rfl⟩ := io
      rw [← z] at ho
      have := kp.d
      simp only [] at ho
      rw [ho] at this
      cases this
    exact ⟨o, by rw [List.getElem?_set_ne (by decide)]; exact (ch.same 1 (by decide) (Ne.symm r1)).trans ho, io⟩
  · rw [List.getElem?_set_ne (by decide)]; exact kp1.o
  · rw [List.getElem?_set_ne (Ne.symm r4)]; exact kp1.d
  · exact List.getElem?_set_self (List.getElem?_eq_some_iff.mp ow1).1
  · exact ch.wf.set lim_own
  · have := gotR_len (rows := rows) (k := k) (s := s)
    omega
  · have := h.a0; split <;> omega
  · have := h.b0; split <;> omega
  · split <;> omega
end K21
end
section
set_option Elab.async false
set_option linter.all false
set_option maxRecDepth 10000
set_option maxHeartbeats 4000000
namespace K21
open PySem EV
open L2 (Key atI ixN)
theorem max2_ok {i j : Int} {so : List SO} : dMax2 [.int i, .int j] so = some (.int (max i j), so) := by
  unfold dMax2
  simp only []
  by_cases h : i < j
  · rw [Int.max_eq_right (by omega)]; simp <;> omega
  · rw [Int.max_eq_left (by omega)]; simp <;> omega
theorem wv {vars : List (Option D)} {v : Nat} {d : D} (hv : v < vars.length) : ((wipeD vars [v]).set v (some d))[v]? = some (some d) := List.getElem?_set_self (by simpa [wipeD] using hv)
theorem wo {vars : List (Option D)} {v i : Nat} {d e : D} (hi : i ≠ v) (h : vars[i]? = some (some e)) : ((wipeD vars [v]).set v (some d))[i]? = some (some e) := by
  rw [List.getElem?_set_ne (Ne.symm hi)]
  show ((wipeD vars []).set v none)[i]? = _
  rw [List.getElem?_set_ne (Ne.symm hi)]
  exact h
/-- a value of each row -/
theorem lc_rowv {f : M D} {e : M D} {S : List SO} {vars : List (Option D)} {v : Nat} {rows : List Row} {φ : Row → D} (hw : WF S) (hi : f ⟨vars, S⟩ = .ok (.list (rows.map tuR)) S) (hl : rows.length ≤ 1000)
    (he : ∀ x ∈ rows, ∀ acc, e ⟨(wipeD vars [v]).set v (some (tuR x)), S ++ [.lst acc]⟩ = .ok (φ x) (S ++ [.lst acc])) (hp : ∀ x ∈ rows, (φ x).plain = true) :
    eLc false (iIt f) (tName v) tTrue e [v] ⟨vars, S⟩ = .ok (.list (rows.map φ)) S := by
  obtain ⟨q, hq⟩ : ∃ q : D → Row, ∀ x, q (tuR x) = x := ⟨fun d => match d with | .tuple [.str k, .int a, .int b, .int c] => (k, a, b, c) | _ => ("", 0, 0, 0), fun x => rfl⟩
  have := lc_list (g := tName v) (t := tTrue) (e := e) (vs := [v]) (vv := fun d => (wipeD vars [v]).set v (some d)) (p := fun d => true) (φ := fun d => φ (q d)) hw hi (by rw [List.length_map]; unfold mx; omega)
    (fun d _ acc => rfl) (fun d hd acc => rfl)
    (fun d hd _ acc => by
      obtain ⟨x, hx, rfl⟩ := List.mem_map.mp hd
      rw [hq]; exact he x hx acc)
    (fun d hd => by
      obtain ⟨x, hx, rfl⟩ := List.mem_map.mp hd
      rw [hq]; exact lim_plain _ (hp x hx))
  rw [this, filt_true, List.map_map]
  congr 2
  apply List.map_congr_left
  intro x _
  show φ (q (tuR x)) = φ x
  rw [hq]
theorem deep_list {xs : List D} (h : ∀ x ∈ xs, x.plain = true ∧ x.depth ≤ 5) : deepOk (.list xs) = true := (deepL (n := 5) (by decide) h).1
/-- both of a step's stores -/
theorem L1.mk' {vars : List (Option D)} {so so' : List SO} {m a b c a' b' c' : Int} {rows rows' : List Row} {r : Nat} (h : L1 ⟨vars, so⟩ m a b c rows) (r4 : r ≠ 4) (k : Keep so' 2 r m a' b' c' rows') (o : so'[4]? = some (.dct (ownF rows' a' b' c'))) (di : Di so' 1) (wf : WF so') (nd : (keys rows').Nodup) (rl : (rows'.length : Int) ≤ m) (ok : ∀ x ∈ rows', RowOk x) (a0 : 0 ≤ a') (b0 : 0 ≤ b') : L1 ⟨vars, so'⟩ m a' b' c' rows' :=
  ⟨h.len, h.v1, h.v2, h.v3, h.v4, di, ⟨r, r4, k⟩, o, wf, nd, rl, h.m1, h.m4, ok, a0, b0⟩
theorem Di.of {so so' : List SO} {j : Nat} (h : Di so j) (e : so'[j]? = so[j]?) : Di so' j := by
  obtain ⟨o, ho, i⟩ := h
  exact ⟨o, e.trans ho, i⟩
theorem keep_not_di {so : List SO} {n r : Nat} {m a b c : Int} {rows : List Row} (h : Keep so n r m a b c rows) {j : Nat} (d : Di so j) : j ≠ r := fun z => by
  obtain ⟨_, ho, _, _, _, rfl⟩ := d
  subst z
  have := h.d
  rw [ho] at this
  cases this
def s2b : MS := sSeq (sAsg (eOp dAdd (eLc false (iIt (eOp dIx (eVar 4) (eC (.str "rows")))) (tName 21) (eB (eOp dNe (eOp dIx (eVar 21) (eC (.int 0))) (eVar 6))) (eVar 21) [21]) (eLst (eCons (eTup (eCons (eVar 6) (eCons (eVar 7) (eCons (eVar 5) (eCons (eVar 9) (eNil)))))) (eNil)))) (tName 10)) (sSeq (sIf (eB (eOp dNe (eCB dList (eCons (eMeth 0 5 "put" g_AnswerKeep_put (eVar 3) (eCons (eVar 6) (eCons (eVar 7) (eCons (eVar 5) (eCons (eVar 9) (eNil)))))) (eNil))) (eLc false (iIt (eSl (eVar 10) (oNone) (oSome (eCB dMax2 (eCons (eC (.int 0)) (eCons (eOp dSub (eCB dLen (eCons (eVar 10) (eNil))) (eVar 2)) (eNil))))))) (tName 21) (tTrue) (eOp dIx (eVar 21) (eC (.int 0))) [21]))) (sRet (eC (.bool false))) (sNext)) (sAsg (eSl (eVar 10) (oSome (eCB dMax2 (eCons (eC (.int 0)) (eCons (eOp dSub (eCB dLen (eCons (eVar 10) (eNil))) (eVar 2)) (eNil))))) (oNone)) (EV.tSub (eVar 4) (eC (.str "rows")))))
theorem s2b_ok {st : EV.St} {m a b c : Int} {rows : List Row} (h : L1 st m a b c rows) {k : PySem.Str} {s t w i : Int} (d : Drawn st.vars k s t w) (h5 : st.vars[5]? = some (some (.int i))) (i0 : 0 ≤ i) (i1 : i < 30) : ∃ st' rows', s2b st = .ok .nx st' ∧ L1 st' m a b c rows' ∧ Drawn st'.vars k s t w ∧ st'.vars[5]? = some (some (.int i)) := by
  obtain ⟨vars, so⟩ := st
  obtain ⟨r, r4, kp⟩ := h.keep
  have rl := h.rl
  have m1 := h.m1
  have m4 := h.m4
  have hl : vars.length = 27 := h.len
  have h5 : vars[5]? = some (some (.int i)) := h5
  have hm : rows.length ≤ 1000 := by omega
  let x : Row := (k, s, i, w)
  have ir : ∀ so, so[4]? = some (.dct (ownF rows a b c)) → eOp dIx (eVar 4) (eC (.str "rows")) ⟨vars, so⟩ = .ok (.list (rows.map tuR)) so := fun so ho => op_ok (var_ok h.v4) c_ok (ix_dct ho own_rows)
  obtain ⟨L, hL⟩ : ∃ L, L = rows.filter (fun y => decide (y.1 ≠ x.1)) ++ [x] := ⟨_, rfl⟩
  have lL : L.length ≤ rows.length + 1 := by
    have := List.length_filter_le (fun y : Row => decide (y.1 ≠ x.1)) rows
    rw [hL, List.length_append]
    simp only [List.length_cons, List.length_nil]
    omega
  have q1 : eLc false (iIt (eOp dIx (eVar 4) (eC (.str "rows")))) (tName 21) (eB (eOp dNe (eOp dIx (eVar 21) (eC (.int 0))) (eVar 6))) (eVar 21) [21] ⟨vars, so⟩ = .ok (.list ((rows.filter (fun y => decide (y.1 ≠ x.1))).map tuR)) so :=
    lc_rows (p := fun y => decide (y.1 ≠ x.1)) h.wf (ir so h.own) hm (fun y _ acc => by
      have := b_ok (op_ok (op_ok (f1 := eVar 21) (so := so ++ [.lst acc]) (var_ok (wv (d := tuR y) (by omega : 21 < vars.length))) c_ok ix_tu0) (f2 := eVar 6) (var_ok (wo (by decide) d.v6)) (dNe_ss y.1 k _))
      rw [this]; simp [x]) (by omega)
  have q2 : eLst (eCons (eTup (eCons (eVar 6) (eCons (eVar 7) (eCons (eVar 5) (eCons (eVar 9) (eNil)))))) (eNil)) ⟨vars, so⟩ = .ok (.list [tuR x]) so := lst_ok (one_ok (tup_ok (cons_ok (var_ok d.v6) (cons_ok (var_ok d.v7) (two_ok (var_ok h5) (var_ok d.v9))))))
  have q3 : dAdd (.list ((rows.filter (fun y => decide (y.1 ≠ x.1))).map tuR)) (.list [tuR x]) so = some (.list (L.map tuR), so) := by
    have ll : ((rows.filter (fun y => decide (y.1 ≠ x.1))).map tuR).length + [tuR x].length ≤ mx := by
      have := List.length_filter_le (fun y : Row => decide (y.1 ≠ x.1)) rows
      rw [List.length_map]
      simp only [List.length_cons, List.length_nil]
      unfold mx; omega
    unfold dAdd
    simp only [lstOf, if_pos ll]
    rw [hL, List.map_append]
    rfl
  have e1 := asgN (i := 10) (op_ok q1 q2 q3)
  have h1 := h.name (i := 10) (d := some (.list (L.map tuR))) (by decide)
  obtain ⟨vs, hvs⟩ : ∃ vs, vs = vars.set 10 (some (PyData.list (L.map tuR))) := ⟨_, rfl⟩
  rw [← hvs] at h1
  have vl : vs.length = 27 := h1.len
  have g10 : vs[10]? = some (some (.list (L.map tuR))) := by rw [hvs]; ((repeat rw [List.getElem?_set_ne (by decide)]); first | (rw [List.getElem?_set_self (by (try simp only [List.length_set]); omega)]; done) | assumption)
  have gd : Drawn vs k s t w := by
    have q6 := d.v6
    have q7 := d.v7
    have q8 := d.v8
    have q9 := d.v9
    simp only [] at q6 q7 q8 q9
    exact ⟨by rw [hvs]; ((repeat rw [List.getElem?_set_ne (by decide)]); first | (rw [List.getElem?_set_self (by (try simp only [List.length_set]); omega)]; done) | assumption), by rw [hvs]; ((repeat rw [List.getElem?_set_ne (by decide)]); first | (rw [List.getElem?_set_self (by (try simp only [List.length_set]); omega)]; done) | assumption), by rw [hvs]; ((repeat rw [List.getElem?_set_ne (by decide)]); first | (rw [List.getElem?_set_self (by (try simp only [List.length_set]); omega)]; done) | assumption), by rw [hvs]; ((repeat rw [List.getElem?_set_ne (by decide)]); first | (rw [List.getElem?_set_self (by (try simp only [List.length_set]); omega)]; done) | assumption), d.k1, d.s0, d.s1, d.w0, d.w1⟩
  have g5 : vs[5]? = some (some (.int i)) := by rw [hvs]; ((repeat rw [List.getElem?_set_ne (by decide)]); first | (rw [List.getElem?_set_self (by (try simp only [List.length_set]); omega)]; done) | assumption)
  obtain ⟨base, ex, e2, bl, bw, bs, bk⟩ := keep_put kp h.wf h.nd m1 rl (by omega) x d.w0
  have cl := is_keep (nm := "put") kp.o rfl
  have lp : lim so.length (.tuple ((goneR m rows x).map fun r => .str r.1)) = true := by
    refine lim_plain _ ?_
    unfold PyData.plain
    exact plainAll_of fun y hy => by
      obtain ⟨z, _, rfl⟩ := List.mem_map.mp hy
      rfl
  have q4 : eMeth 0 5 "put" g_AnswerKeep_put (eVar 3) (eCons (eVar 6) (eCons (eVar 7) (eCons (eVar 5) (eCons (eVar 9) (eNil))))) ⟨vs, so⟩ = .ok (.tuple ((goneR m rows x).map fun r => .str r.1)) base :=
    meth_app (var_ok h1.v3) cl (cons_ok (var_ok gd.v6) (cons_ok (var_ok gd.v7) (two_ok (var_ok g5) (var_ok gd.v9)))) rfl e2 bl bw lp
  have q5 : eCB dList (eCons (eMeth 0 5 "put" g_AnswerKeep_put (eVar 3) (eCons (eVar 6) (eCons (eVar 7) (eCons (eVar 5) (eCons (eVar 9) (eNil)))))) (eNil)) ⟨vs, so⟩ = .ok (.list ((goneR m rows x).map fun r => .str r.1)) base := cb_ok (one_ok q4) rfl
  let n0 : Nat := L.length - m.toNat
  have q6 : ∀ so, eCB dMax2 (eCons (eC (.int 0)) (eCons (eOp dSub (eCB dLen (eCons (eVar 10) (eNil))) (eVar 2)) (eNil))) ⟨vs, so⟩ = .ok (.int (n0 : Int)) so := fun so => by
    have e := cb_ok (g := dMax2) (two_ok (f := eC (.int 0)) c_ok (op_ok (g := dSub) (cb_ok (g := dLen) (so := so) (one_ok (var_ok g10)) rfl) (var_ok h1.v2) rfl)) max2_ok
    rw [e]
    have : max 0 (((L.map tuR).length : Int) - m) = (n0 : Int) := by
      rw [List.length_map]
      omega
    rw [this]
  have q7 : ∀ so, eSl (eVar 10) oNone (oSome (eCB dMax2 (eCons (eC (.int 0)) (eCons (eOp dSub (eCB dLen (eCons (eVar 10) (eNil))) (eVar 2)) (eNil))))) ⟨vs, so⟩ = .ok (.list ((L.take n0).map tuR)) so := fun so => by
    have e := sl_ok (so := so) (d := .list ((L.take n0).map tuR)) (so4 := so) (var_ok g10) onone_ok (osome_ok (q6 so)) (by
      simp only [dSl, lsrOf, Option.map_some]
      rw [cut_take, List.map_take])
    exact e
  have q8 : ∀ so, eSl (eVar 10) (oSome (eCB dMax2 (eCons (eC (.int 0)) (eCons (eOp dSub (eCB dLen (eCons (eVar 10) (eNil))) (eVar 2)) (eNil))))) oNone ⟨vs, so⟩ = .ok (.list ((L.drop n0).map tuR)) so := fun so => by
    have e := sl_ok (so := so) (d := .list ((L.drop n0).map tuR)) (so4 := so) (var_ok g10) (osome_ok (q6 so)) onone_ok (by
      simp only [dSl, lsrOf, Option.map_some]
      rw [cut_drop, List.map_drop])
    exact e
  have q9 := lc_rowv (v := 21) (e := eOp dIx (eVar 21) (eC (.int 0))) (φ := fun r => .str r.1) bw (q7 base) (by rw [List.length_take]; omega) (fun y _ acc => op_ok (var_ok (wv (by omega : 21 < vs.length))) c_ok ix_tu0) (fun _ _ => rfl)
  have eg : goneR m rows x = L.take n0 := by show _ = L.take (L.length - m.toNat); rw [hL]; rfl
  have ep : putR m rows x = L.drop n0 := by show _ = L.drop (L.length - m.toNat); rw [hL]; rfl
  rw [← eg] at q9
  rw [← ep] at q8
  have q10 := if_f (f := sRet (eC (.bool false))) (g := sNext) (b_ok (op_ok q5 q9 (dNe_same (deep_list fun y hy => by
    obtain ⟨z, _, rfl⟩ := List.mem_map.mp hy
    exact ⟨rfl, by simp [PyData.depth]⟩))))
  have ow : base[4]? = some (.dct (ownF rows a b c)) := (bs 4 (Ne.symm r4)).trans h.own
  have ks := set_own (k := "rows") (d := .list ((putR m rows x).map tuR)) ow (by show 4 < 1000000; decide)
  rw [own_put_rows] at ks
  have q11 := asgS (q8 base) (var_ok h1.v4) c_ok ks
  refine ⟨⟨vs, base.set 4 (.dct (ownF (putR m rows x) a b c))⟩, putR m rows x, ?_, ?_, gd, g5⟩
  · unfold s2b
    rw [seq_ok e1, ← hvs, seq_ok q10]
    exact q11
  · have r1 := keep_not_di kp h.dice
    refine h1.mk' r4 ⟨by rw [List.getElem?_set_ne (by decide)]; exact bk.o, by rw [List.getElem?_set_ne (Ne.symm r4)]; exact bk.d⟩ (List.getElem?_set_self (List.getElem?_eq_some_iff.mp ow).1) ?_ (bw.set lim_own) (putR_nd h.nd) (putR_len m1) ?_ h.a0 h.b0
    · exact h.dice.of (by rw [List.getElem?_set_ne (by decide)]; exact bs 1 r1)
    · intro y hy
      rw [ep, hL] at hy
      rcases List.mem_append.mp (List.mem_of_mem_drop hy) with hy | hy
      · exact h.ok y (List.mem_filter.mp hy).1
      · rw [List.mem_singleton] at hy
        rw [hy]
        exact ⟨d.k1, d.s0, d.s1, i0, i1, d.w0, d.w1⟩
end K21
end
section
set_option Elab.async false
set_option linter.all false
set_option maxRecDepth 10000
set_option maxHeartbeats 4000000
namespace K21
open PySem EV
open L2 (Key atI ixN)
theorem gcR_keep {m : Nat} {d : D} {so : List SO} (h : gcOk m so = false) : gcR m (.ok d so) = .ok d so := by
  simp only [gcR, h]
  simp
theorem meth_keep {c n : Nat} {m : PySem.Str} {g : Fn} {fo : M D} {fa : M (List D)} {vars : List (Option D)} {so : List SO} {x d : D} {ds : List D} {so1 so2 base : List SO} (ho : fo ⟨vars, so⟩ = .ok x so1) (hc : isCls so1 c m x = true) (ha : fa ⟨vars, so1⟩ = .ok ds so2) (hn : (x :: ds).length = n)
    (hg : g (x :: ds) so2 = .ok d base) (hb : gcOk so2.length base = false) : eMeth c n m g fo fa ⟨vars, so⟩ = .ok d base := by
  unfold eMeth
  rw [bnd_ok ho]
  simp only [hc, if_true]
  rw [bnd_ok ha]
  simp only [hn, if_true, hg]
  exact gcR_keep hb
def s2c : MS := sSeq (sSet 11 (eLc false (iIt (eOp dIx (eVar 4) (eC (.str "rows")))) (tName 21) (eB (eOp dEq (eOp dIx (eVar 21) (eC (.int 1))) (eVar 7))) (eVar 21) [21])) (sSeq (sIf (eB (eOp dNe (eMeth 0 2 "sweep" g_AnswerKeep_sweep (eVar 3) (eCons (eVar 7) (eNil))) (eOp dSub (eCB dLen (eCons (eOp dIx (eVar 4) (eC (.str "rows"))) (eNil))) (eCB dLen (eCons (eVar 11) (eNil)))))) (sRet (eC (.bool false))) (sNext)) (sAsg (eVar 11) (EV.tSub (eVar 4) (eC (.str "rows")))))
theorem s2c_ok {st : EV.St} {m a b c : Int} {rows : List Row} (h : L1 st m a b c rows) {k : PySem.Str} {s t w i : Int} (d : Drawn st.vars k s t w) (h5 : st.vars[5]? = some (some (.int i))) : ∃ st' rows', s2c st = .ok .nx st' ∧ L1 st' m a b c rows' ∧ st'.vars[5]? = some (some (.int i)) := by
  obtain ⟨vars, so⟩ := st
  obtain ⟨r, r4, kp⟩ := h.keep
  have rl := h.rl
  have m1 := h.m1
  have m4 := h.m4
  have hl : vars.length = 27 := h.len
  have h5 : vars[5]? = some (some (.int i)) := h5
  have hm : rows.length ≤ 1000 := by omega
  have ir : ∀ (vs : List (Option D)) so, vs[4]? = some (some (rf 4)) → so[4]? = some (.dct (ownF rows a b c)) → eOp dIx (eVar 4) (eC (.str "rows")) ⟨vs, so⟩ = .ok (.list (rows.map tuR)) so := fun vs so hv ho => op_ok (var_ok hv) c_ok (ix_dct ho own_rows)
  obtain ⟨L, hL⟩ : ∃ L, L = rows.filter (fun y => decide (y.2.1 = s)) := ⟨_, rfl⟩
  have q1 : eLc false (iIt (eOp dIx (eVar 4) (eC (.str "rows")))) (tName 21) (eB (eOp dEq (eOp dIx (eVar 21) (eC (.int 1))) (eVar 7))) (eVar 21) [21] ⟨vars, so⟩ = .ok (.list (L.map tuR)) so := by
    rw [hL]
    exact lc_rows (p := fun y => decide (y.2.1 = s)) h.wf (ir vars so h.v4 h.own) hm (fun y _ acc => b_ok (op_ok (op_ok (f1 := eVar 21) (so := so ++ [.lst acc]) (var_ok (wv (d := tuR y) (by omega : 21 < vars.length))) c_ok ix_tu1) (f2 := eVar 7) (var_ok (wo (by decide) d.v7)) (dEq_ii y.2.1 s))) (by omega)
  have e1 := set_ok (i := 11) q1
  have h1 := h.name (i := 11) (d := some (.list (L.map tuR))) (by decide)
  obtain ⟨vs, hvs⟩ : ∃ vs, vs = vars.set 11 (some (PyData.list (L.map tuR))) := ⟨_, rfl⟩
  rw [← hvs] at h1 e1
  have vl : vs.length = 27 := h1.len
  have g11 : vs[11]? = some (some (.list (L.map tuR))) := by rw [hvs]; ((repeat rw [List.getElem?_set_ne (by decide)]); first | (rw [List.getElem?_set_self (by (try simp only [List.length_set]); omega)]; done) | assumption)
  have g7 : vs[7]? = some (some (.int s)) := by
    have q7 := d.v7
    simp only [] at q7
    rw [hvs]; ((repeat rw [List.getElem?_set_ne (by decide)]); first | (rw [List.getElem?_set_self (by (try simp only [List.length_set]); omega)]; done) | assumption)
  have g5 : vs[5]? = some (some (.int i)) := by rw [hvs]; ((repeat rw [List.getElem?_set_ne (by decide)]); first | (rw [List.getElem?_set_self (by (try simp only [List.length_set]); omega)]; done) | assumption)
  obtain ⟨so1, e2, gk, l1, w1, bs, bk⟩ := keep_sweep kp h.wf h.nd hm s
  rw [← hL] at e2 bk
  have cl := is_keep (nm := "sweep") kp.o rfl
  have q4 : eMeth 0 2 "sweep" g_AnswerKeep_sweep (eVar 3) (eCons (eVar 7) (eNil)) ⟨vs, so⟩ = .ok (.int (rows.length - L.length)) so1 := meth_keep (var_ok h1.v3) cl (one_ok (var_ok g7)) rfl e2 gk
  have l4 : 4 < so.length := (List.getElem?_eq_some_iff.mp h.own).1
  have ow : so1[4]? = some (.dct (ownF rows a b c)) := (bs 4 l4 (by decide)).trans h.own
  have q5 : eOp dSub (eCB dLen (eCons (eOp dIx (eVar 4) (eC (.str "rows"))) (eNil))) (eCB dLen (eCons (eVar 11) (eNil))) ⟨vs, so1⟩ = .ok (.int (rows.length - L.length)) so1 := by
    have l1 : dLen [.list (rows.map tuR)] so1 = some (.int (rows.length : Nat), so1) := by simp [dLen, lstOf]
    have l2 : dLen [.list (L.map tuR)] so1 = some (.int (L.length : Nat), so1) := by simp [dLen, lstOf]
    exact op_ok (cb_ok (one_ok (ir vs so1 h1.v4 ow)) l1) (cb_ok (one_ok (var_ok g11)) l2) rfl
  have q6 := if_f (f := sRet (eC (.bool false))) (g := sNext) (b_ok (op_ok q4 q5 (dNe_same rfl)))
  have ks := set_own (k := "rows") (d := .list (L.map tuR)) ow (by show 4 < 1000000; decide)
  rw [own_put_rows] at ks
  have q7 := asgS (var_ok g11) (var_ok h1.v4) c_ok ks
  refine ⟨⟨vs, so1.set 4 (.dct (ownF L a b c))⟩, L, ?_, ?_, g5⟩
  · unfold s2c
    rw [seq_ok e1, seq_ok q6]
    exact q7
  · have r1 := keep_not_di kp h.dice
    have lL : L.length ≤ rows.length := by rw [hL]; exact List.length_filter_le _ _
    have ne : so.length ≠ 4 := by omega
    refine h1.mk' ne ⟨by rw [List.getElem?_set_ne (by decide)]; exact bk.o, by rw [List.getElem?_set_ne (Ne.symm ne)]; exact bk.d⟩ (List.getElem?_set_self (List.getElem?_eq_some_iff.mp ow).1) ?_ (w1.set lim_own) ?_ (by omega) ?_ h.a0 h.b0
    · exact h.dice.of (by rw [List.getElem?_set_ne (by decide)]; exact bs 1 (by show 1 < so.length; omega) (by decide))
    · rw [hL]; exact keys_filter _ h.nd
    · intro y hy
      rw [hL] at hy
      exact h.ok y (List.mem_filter.mp hy).1
/-! ### what is asked behind each step -/
def s3 : MS := sIf (mOr (eB (eOp dNe (eLock (eFld 2 "rows" (eVar 3)) (eLc false (EV.iItems (eFld 2 "rows" (eVar 3))) (EV.tTup 2 (EV.tCons (tName 22) (EV.tCons (tName 21) (EV.tNil)))) (tTrue) (eOp dAdd (eTup (eCons (eVar 22) (eNil))) (eVar 21)) [22, 21])) (eOp dIx (eVar 4) (eC (.str "rows"))))) (eB (eOp dNe (eTup (eCons (eFld 2 "had" (eVar 3)) (eCons (eFld 2 "lacked" (eVar 3)) (eCons (eFld 2 "saved" (eVar 3)) (eNil))))) (eTup (eCons (eOp dIx (eVar 4) (eC (.str "had"))) (eCons (eOp dIx (eVar 4) (eC (.str "lacked"))) (eCons (eOp dIx (eVar 4) (eC (.str "saved"))) (eNil)))))))) (sRet (eC (.bool false))) (sNext)
def tuD : D → D
  | .tuple [k, .tuple l] => .tuple (k :: l)
  | _ => .none
theorem s3_ok {vars : List (Option D)} {so : List SO} {m a b c : Int} {rows : List Row} (h : L1 ⟨vars, so⟩ m a b c rows) : s3 ⟨vars, so⟩ = .ok .nx ⟨vars, so⟩ := by
  obtain ⟨r, r4, kp⟩ := h.keep
  have rl := h.rl
  have m4 := h.m4
  have hl : vars.length = 27 := h.len
  have hm : rows.length ≤ 1000 := by omega
  have ln := kp.ln
  have lr := kp.lr
  have hne := kp.ne
  have v3 := h.v3
  simp only [] at v3
  obtain ⟨S, hS⟩ : ∃ S, S = so.set r (.dlk (rows.map kvR)) := ⟨_, rfl⟩
  have S1 : S[r]? = some (.dlk (rows.map kvR)) := by rw [hS]; exact List.getElem?_set_self lr
  have Sn : S[2]? = some (.ins 0 (keepF m r a b c)) := by rw [hS, List.getElem?_set_ne hne]; exact kp.o
  have wS : WF S := by rw [hS]; exact h.wf.set (by have := lim_rows (m := so.length) (rows := rows); simpa [limO] using this)
  have hit : EV.iItems (eFld 2 "rows" (eVar 3)) ⟨vars, S⟩ = .ok (.items r (rows.map kvR)) S := by
    have : dctOf S (rf r) = some (r, rows.map kvR, true) := by simp [dctOf, S1]
    unfold EV.iItems
    rw [bnd_ok (fld_ok (var_ok v3) Sn lk_rows)]
    simp [kItems, this]
  have vv : ∀ x y : D, ((((wipeD vars [22, 21]).set 22 (some x)).set 21 (some y))[22]? = some (some x) ∧ (((wipeD vars [22, 21]).set 22 (some x)).set 21 (some y))[21]? = some (some y)) := fun x y => by
    have : (wipeD vars [22, 21]).length = 27 := by simp [wipeD, hl]
    exact ⟨by ((repeat rw [List.getElem?_set_ne (by decide)]); first | (rw [List.getElem?_set_self (by (try simp only [List.length_set]); omega)]; done) | assumption), by ((repeat rw [List.getElem?_set_ne (by decide)]); first | (rw [List.getElem?_set_self (by (try simp only [List.length_set]); omega)]; done) | assumption)⟩
  have q := lc_val (g := EV.tTup 2 (EV.tCons (tName 22) (EV.tCons (tName 21) (EV.tNil)))) (t := tTrue) (e := eOp dAdd (eTup (eCons (eVar 22) (eNil))) (eVar 21)) (vs := [22, 21])
    (items := (rows.map kvR).map fun kv => .tuple [keyV kv.1, kv.2])
    (vv := fun d => match d with | .tuple [k, v] => ((wipeD vars [22, 21]).set 22 (some k)).set 21 (some v) | _ => [])
    (p := fun _ => true) (φ := tuD) wS hit (by simp [fuelI]) (by simp [mx]; omega) (by intro i acc; simp [nextI])
    (by
      intro d hd acc
      simp only [List.mem_map] at hd
      obtain ⟨_, ⟨x, hx, rfl⟩, rfl⟩ := hd
      rfl)
    (by intro d hd acc; rfl)
    (by
      intro d hd _ acc
      simp only [List.mem_map] at hd
      obtain ⟨_, ⟨x, hx, rfl⟩, rfl⟩ := hd
      exact op_ok (tup_ok (one_ok (var_ok (vv _ _).1))) (var_ok (vv _ _).2) rfl)
    (by
      intro d hd
      simp only [List.mem_map] at hd
      obtain ⟨_, ⟨x, hx, rfl⟩, rfl⟩ := hd
      exact lim_plain _ (plain_tuR x))
  have res : ((((rows.map kvR).map fun kv => (PyData.tuple [keyV kv.1, kv.2] : D)).filter fun _ => true).map tuD) = rows.map tuR := by
    rw [filt_true, List.map_map, List.map_map]
    rfl
  rw [res] at q
  have hpk : pickD (eFld 2 "rows" (eVar 3)) ⟨vars, so⟩ = some r := by
    unfold pickD
    rw [fld_ok (var_ok v3) kp.o lk_rows]
    rfl
  have hlk : eLock (eFld 2 "rows" (eVar 3)) (eLc false (EV.iItems (eFld 2 "rows" (eVar 3))) (EV.tTup 2 (EV.tCons (tName 22) (EV.tCons (tName 21) (EV.tNil)))) (tTrue) (eOp dAdd (eTup (eCons (eVar 22) (eNil))) (eVar 21)) [22, 21]) ⟨vars, so⟩ = .ok (.list (rows.map tuR)) so := by
    unfold eLock
    simp only [hpk, lock_eq kp.d]
    rw [← hS, q]
    simp only [unlock_eq S1]
    rw [hS, List.set_set, set_set_self kp.d]
  have ir : ∀ (nm : PySem.Str) (d : D), dGet (ownF rows a b c) (.inr nm) = some d → eOp dIx (eVar 4) (eC (.str nm)) ⟨vars, so⟩ = .ok d so := fun nm d e => op_ok (var_ok h.v4) c_ok (ix_dct h.own e)
  unfold s3
  exact if_f (or_ok (b_ok (op_ok hlk (ir _ _ own_rows) (dNe_same (deep_rows rows)))) (b_ok (op_ok (tup_ok (cons_ok (fld_ok (var_ok v3) kp.o lk_had) (two_ok (fld_ok (var_ok v3) kp.o lk_lacked) (fld_ok (var_ok v3) kp.o lk_saved)))) (tup_ok (cons_ok (ir _ _ own_had) (two_ok (ir _ _ own_lacked) (ir _ _ own_saved)))) (dNe_same rfl))))
end K21
end
section
set_option Elab.async false
set_option linter.all false
set_option maxRecDepth 10000
set_option maxHeartbeats 4000000
namespace K21
open PySem EV
open L2 (Key atI ixN)
def s4 : MS := sIf (mOr (eB (eOp dNe (eCB dList (eCons (eMeth 0 1 "keep_lines" g_AnswerKeep_keep_lines (eVar 3) eNil) (eNil))) (eLc false (iIt (eOp dIx (eVar 4) (eC (.str "rows")))) (tName 21) (tTrue) (eOp dAdd (eOp dAdd (eOp dAdd (eOp dAdd (eOp dIx (eVar 21) (eC (.int 0))) (eC (.str " "))) (eCB dStr (eCons (eOp dIx (eVar 21) (eC (.int 1))) (eNil)))) (eC (.str " "))) (eCB dStr (eCons (eOp dIx (eVar 21) (eC (.int 3))) (eNil)))) [21]))) (eB (eOp dNe (eMeth 0 1 "hit_share" g_AnswerKeep_hit_share (eVar 3) eNil) (eIf (eB (eOp dGt (eOp dAdd (eOp dIx (eVar 4) (eC (.str "had"))) (eOp dIx (eVar 4) (eC (.str "lacked")))) (eC (.int 0)))) (eOp dDiv (eOp dMul (eC (.int 1000)) (eOp dIx (eVar 4) (eC (.str "had")))) (eOp dAdd (eOp dIx (eVar 4) (eC (.str "had"))) (eOp dIx (eVar 4) (eC (.str "lacked"))))) (eC (.int 0)))))) (sRet (eC (.bool false))) (sNext)
theorem dAdd_ss {a b : PySem.Str} {so : List SO} (h : a.length + b.length ≤ mx) : dAdd (.str a) (.str b) so = some (.str (a ++ b), so) := by
  simp only [dAdd, if_pos h]
theorem s4_ok {vars : List (Option D)} {so : List SO} {m a b c : Int} {rows : List Row} (h : L1 ⟨vars, so⟩ m a b c rows) (hab : a + b ≤ 100) : s4 ⟨vars, so⟩ = .ok .nx ⟨vars, so⟩ := by
  obtain ⟨r, r4, kp⟩ := h.keep
  have rl := h.rl
  have m4 := h.m4
  have a0 := h.a0
  have b0 := h.b0
  have hl : vars.length = 27 := h.len
  have hm : rows.length ≤ 1000 := by omega
  have v3 := h.v3
  simp only [] at v3
  have ir : ∀ (nm : PySem.Str) (d : D), dGet (ownF rows a b c) (.inr nm) = some d → eOp dIx (eVar 4) (eC (.str nm)) ⟨vars, so⟩ = .ok d so := fun nm d e => op_ok (var_ok h.v4) c_ok (ix_dct h.own e)
  have q1 : eMeth 0 1 "keep_lines" g_AnswerKeep_keep_lines (eVar 3) eNil ⟨vars, so⟩ = .ok (.tuple (rows.map fun x => .str (lineS x))) so := meth_same (var_ok v3) (is_keep (nm := "keep_lines") kp.o rfl) nil_ok rfl (keep_lines kp h.wf hm h.ok) rfl
  have q2 : eCB dList (eCons (eMeth 0 1 "keep_lines" g_AnswerKeep_keep_lines (eVar 3) eNil) (eNil)) ⟨vars, so⟩ = .ok (.list (rows.map fun x => .str (lineS x))) so := cb_ok (one_ok q1) rfl
  have q3 := lc_rowv (v := 21) (vars := vars) (e := eOp dAdd (eOp dAdd (eOp dAdd (eOp dAdd (eOp dIx (eVar 21) (eC (.int 0))) (eC (.str " "))) (eCB dStr (eCons (eOp dIx (eVar 21) (eC (.int 1))) (eNil)))) (eC (.str " "))) (eCB dStr (eCons (eOp dIx (eVar 21) (eC (.int 3))) (eNil)))) (φ := fun x => .str (lineS x)) h.wf (ir _ _ own_rows) hm
    (fun x hx acc => by
      have o := h.ok x hx
      have l1 := o.k
      have l2 := tS_len o.s0 (by have := o.s1; omega)
      have l3 := tS_len o.c0 o.c1
      have g1 := log_ok o.s0 (by have := o.s1; omega)
      have g2 := log_ok o.c0 o.c1
      have d1 : ∀ so : List SO, dStr [.int x.2.1] so = some (.str (tS x.2.1), so) := fun so => by simp only [dStr, if_pos g1]; rfl
      have d2 : ∀ so : List SO, dStr [.int x.2.2.2] so = some (.str (tS x.2.2.2), so) := fun so => by simp only [dStr, if_pos g2]; rfl
      have sp : (PySem.Str.length " ") = 1 := by decide
      have la : ∀ a b : PySem.Str, (a ++ b).length = a.length + b.length := fun a b => PySem.Str.length_append a b
      have b1 : (x.1).length + PySem.Str.length " " ≤ mx := by rw [l1, sp]; decide
      have b2 : (x.1 ++ " ").length + (tS x.2.1).length ≤ mx := by rw [la, l1, sp, l2]; decide
      have b3 : (x.1 ++ " " ++ tS x.2.1).length + PySem.Str.length " " ≤ mx := by rw [la, la, l1, sp, l2]; decide
      have b4 : (x.1 ++ " " ++ tS x.2.1 ++ " ").length + (tS x.2.2.2).length ≤ mx := by rw [la, la, la, l1, sp, l2, l3]; decide
      have vr := var_ok (so := so ++ [SO.lst acc]) (wv (vars := vars) (d := tuR x) (by omega : 21 < vars.length))
      exact op_ok (op_ok (op_ok (op_ok (op_ok vr c_ok ix_tu0) c_ok (dAdd_ss b1)) (cb_ok (one_ok (op_ok vr c_ok ix_tu1)) (d1 _)) (dAdd_ss b2)) c_ok (dAdd_ss b3)) (cb_ok (one_ok (op_ok vr c_ok ix_tu3)) (d2 _)) (dAdd_ss b4)) (fun _ _ => rfl)
  have q4 : eMeth 0 1 "hit_share" g_AnswerKeep_hit_share (eVar 3) eNil ⟨vars, so⟩ = .ok (.int (if 0 < a + b then 1000 * a / (a + b) else 0)) so := meth_same (var_ok v3) (is_keep (nm := "hit_share") kp.o rfl) nil_ok rfl (hit_share_eq kp.o a0 b0 (by omega)) rfl
  have sm : eOp dAdd (eOp dIx (eVar 4) (eC (.str "had"))) (eOp dIx (eVar 4) (eC (.str "lacked"))) ⟨vars, so⟩ = .ok (.int (a + b)) so := op_ok (ir _ _ own_had) (ir _ _ own_lacked) rfl
  have cg : eB (eOp dGt (eOp dAdd (eOp dIx (eVar 4) (eC (.str "had"))) (eOp dIx (eVar 4) (eC (.str "lacked")))) (eC (.int 0))) ⟨vars, so⟩ = .ok (decide (0 < a + b)) so := b_ok (op_ok sm c_ok (dGt_ii _ _))
  have q5 : eIf (eB (eOp dGt (eOp dAdd (eOp dIx (eVar 4) (eC (.str "had"))) (eOp dIx (eVar 4) (eC (.str "lacked")))) (eC (.int 0)))) (eOp dDiv (eOp dMul (eC (.int 1000)) (eOp dIx (eVar 4) (eC (.str "had")))) (eOp dAdd (eOp dIx (eVar 4) (eC (.str "had"))) (eOp dIx (eVar 4) (eC (.str "lacked"))))) (eC (.int 0)) ⟨vars, so⟩ = .ok (.int (if 0 < a + b then 1000 * a / (a + b) else 0)) so := by
    by_cases hp : 0 < a + b
    · rw [decide_eq_true hp] at cg
      rw [eif_t cg, if_pos hp]
      exact op_ok (op_ok c_ok (ir _ _ own_had) (dMul_ii (.inl (by decide)))) sm (dDiv_ii hp (by omega))
    · rw [decide_eq_false hp] at cg
      rw [eif_f cg, if_neg hp]
      rfl
  unfold s4
  exact if_f (or_ok (b_ok (op_ok q2 q3 (dNe_same (deep_list fun y hy => by
    obtain ⟨z, _, rfl⟩ := List.mem_map.mp hy
    exact ⟨rfl, by simp [PyData.depth]⟩)))) (b_ok (op_ok q4 q5 (dNe_same rfl))))
def body1 : MS := sSeq s1 (sSeq (sIf (eB (eOp dLt (eVar 8) (eC (.int 4)))) s2a (sIf (eB (eOp dLt (eVar 8) (eC (.int 8)))) s2b s2c)) (sSeq s3 s4))
theorem body1_ok {st : EV.St} {m a b c i : Int} {rows : List Row} (h : L1 st m a b c rows) (h5 : st.vars[5]? = some (some (.int i))) (i0 : 0 ≤ i) (i1 : i < 30) (hab : a + b ≤ i) : ∃ st' a' b' c' rows', body1 st = .ok .nx st' ∧ L1 st' m a' b' c' rows' ∧ a' + b' ≤ i + 1 := by
  obtain ⟨⟨vars, so⟩, k, s, t, w, e1, h1, d, g5⟩ := s1_ok h h5
  suffices ∃ st' a' b' c' rows', sIf (eB (eOp dLt (eVar 8) (eC (.int 4)))) s2a (sIf (eB (eOp dLt (eVar 8) (eC (.int 8)))) s2b s2c) ⟨vars, so⟩ = .ok .nx st' ∧ L1 st' m a' b' c' rows' ∧ a' + b' ≤ i + 1 by
    obtain ⟨⟨vs, so'⟩, a', b', c', rows', e2, h2, hb⟩ := this
    refine ⟨_, a', b', c', rows', ?_, h2, hb⟩
    unfold body1
    rw [seq_ok e1, seq_ok e2, seq_ok (s3_ok h2)]
    exact s4_ok h2 (by omega)
  have c4 : eB (eOp dLt (eVar 8) (eC (.int 4))) ⟨vars, so⟩ = .ok (decide (t < 4)) so := b_ok (op_ok (var_ok d.v8) c_ok (dLt_ii _ _))
  have c8 : eB (eOp dLt (eVar 8) (eC (.int 8))) ⟨vars, so⟩ = .ok (decide (t < 8)) so := b_ok (op_ok (var_ok d.v8) c_ok (dLt_ii _ _))
  by_cases t4 : t < 4
  · rw [decide_eq_true t4] at c4
    rw [if_t c4]
    obtain ⟨so', a', b', c', rows', e, h2, hb⟩ := s2a_ok h1 d
    exact ⟨_, a', b', c', rows', e, h2, by omega⟩
  · rw [decide_eq_false t4] at c4
    rw [if_f c4]
    by_cases t8 : t < 8
    · rw [decide_eq_true t8] at c8
      rw [if_t c8]
      obtain ⟨st', rows', e, h2, _⟩ := s2b_ok h1 d g5 i0 i1
      exact ⟨_, a, b, c, rows', e, h2, by omega⟩
    · rw [decide_eq_false t8] at c8
      rw [if_f c8]
      obtain ⟨st', rows', e, h2, _⟩ := s2c_ok h1 d g5
      exact ⟨_, a, b, c, rows', e, h2, by omega⟩
def loop1 : MS := sFor (EV.iRng1 (eCall 2 (g_law_roll 3) (eCons (eVar 1) (eCons (eC (.int 30)) (eNil))))) (tName 5) body1
theorem loop1_ok {st : EV.St} {m : Int} (h : L1 st m 0 0 0 []) : ∃ st' a b c rows, loop1 st = .ok .nx st' ∧ L1 st' m a b c rows := by
  obtain ⟨vars, so⟩ := st
  obtain ⟨v, o, v0, v1, io, e⟩ := roll_call (n := 30) h.dice h.v1 (by decide) (by decide)
  obtain ⟨n, rfl⟩ : ∃ n : Nat, v = n := ⟨v.toNat, by omega⟩
  have h1 := h.roll io
  have e2 := rng1_ok (n := n) e (by unfold mx; omega)
  unfold loop1
  rw [for_ok e2]
  have := forGo_rng (g := tName 5) (b := body1) (lo := 0) (n := n) (fun i st => ∃ a b c rows, L1 st m a b c rows ∧ a + b ≤ i) (fun i st hi ⟨a, b, c, rows, hL, hab⟩ => by
    obtain ⟨vs, so1⟩ := st
    have hn := hL.name (i := 5) (d := some (.int (0 + (i : Int)))) (by decide)
    have hl : vs.length = 27 := hL.len
    obtain ⟨st', a', b', c', rows', e3, h3, hb⟩ := body1_ok (i := (i : Int)) hn (by
      have : (0 + (i : Int)) = (i : Int) := by omega
      simp only []
      rw [this]
      ((repeat rw [List.getElem?_set_ne (by decide)]); first | (rw [List.getElem?_set_self (by (try simp only [List.length_set]); omega)]; done) | assumption)) (by omega) (by omega) hab
    exact ⟨_, st', rfl, .inl e3, a', b', c', rows', h3, by omega⟩) (fuelI (.rng 0 n) (so.set 1 o)) 0 ⟨vars, so.set 1 o⟩ (by simp [fuelI]) (by omega) ⟨0, 0, 0, [], h1, by omega⟩
  obtain ⟨st', e3, a, b, c, rows, h3, _⟩ := this
  exact ⟨st', a, b, c, rows, e3, h3⟩
end K21
end
section
set_option Elab.async false
set_option linter.all false
set_option maxRecDepth 10000
set_option maxHeartbeats 4000000
namespace EV
open PySem
/-! ### pairs of numbers -/
def tp (p : Int × Int) : D := .tuple [.int p.1, .int p.2]
def pLt (p q : Int × Int) : Bool := decide (p.1 < q.1 ∨ p.1 = q.1 ∧ p.2 < q.2)
theorem alike_ii (a b : Int) : PySem.W.alike (.int a) (.int b) = true := by simp [PySem.W.alike]
theorem alike_tp (p q : Int × Int) : PySem.W.alike (tp p) (tp q) = true := by simp [tp, PySem.W.alike, PySem.W.alikeAll]
theorem lt_tp (p q : Int × Int) : PySem.W.dataLt (tp p) (tp q) = pLt p q := by
  obtain ⟨a, b⟩ := p
  obtain ⟨c, d⟩ := q
  unfold tp pLt
  rw [PySem.W.dataLt_tuple]
  by_cases h : a = c
  · subst h
    rw [PySem.W.dataLt_all_yes (alike_ii a a) (by simp [PyData.eqv])]
    by_cases h2 : b = d
    · subst h2
      rw [PySem.W.dataLt_all_yes (alike_ii b b) (by simp [PyData.eqv])]
      have : PyProof.Rows.itemLt (Sum.inl 0) (Sum.inl 0) = false := by decide
      simp [PySem.W.keyToksAll, PyProof.Rows.lexLt, this]
    · rw [PySem.W.dataLt_all_no (alike_ii b d) (by simp [PyData.eqv, h2]), PySem.W.dataLt_int]
      simp
  · rw [PySem.W.dataLt_all_no (alike_ii a c) (by simp [PyData.eqv, h]), PySem.W.dataLt_int]
    simp [h]
theorem pLt_trans {p q r : Int × Int} (h : pLt p q = true) (k : pLt q r = true) : pLt p r = true := by
  unfold pLt at *
  simp only [decide_eq_true_eq] at *
  omega
theorem minD_tp : ∀ (ps : List (Int × Int)) (p : Int × Int), ∃ r, PySem.W.minD (tp p) (ps.map tp) = tp r ∧ (r = p ∨ r ∈ ps) ∧ pLt p r = false ∧ ∀ q ∈ ps, pLt q r = false
  | [], p => ⟨p, rfl, .inl rfl, by simp [pLt], fun _ h => by cases h⟩
  | q :: ps, p => by
    have e : PySem.W.minD (tp p) ((q :: ps).map tp) = PySem.W.minD (tp (if pLt q p = true then q else p)) (ps.map tp) := by
      unfold PySem.W.minD
      rw [List.map_cons, List.foldl_cons]
      congr 1
      rw [lt_tp]
      split <;> rfl
    obtain ⟨r, e1, e2, e3, e4⟩ := minD_tp ps (if pLt q p = true then q else p)
    refine ⟨r, e.trans e1, ?_, ?_, ?_⟩
    · rcases e2 with e2 | e2
      · rw [e2]; split <;> simp
      · exact .inr (List.mem_cons_of_mem _ e2)
    · by_cases hq : pLt q p = true
      · rw [if_pos hq] at e3
        cases hc : pLt p r with
        | false => rfl
        | true => rw [pLt_trans hq hc] at e3; cases e3
      · rw [if_neg hq] at e3; exact e3
    · intro x hx
      rcases List.mem_cons.mp hx with rfl | hx
      · by_cases hq : pLt x p = true
        · rw [if_pos hq] at e3; exact e3
        · rw [if_neg hq] at e3
          cases hc : pLt x r with
          | false => rfl
          | true =>
            unfold pLt at hq hc e3
            simp only [decide_eq_true_eq, decide_eq_false_iff_not] at hq hc e3
            omega
      · exact e4 x hx
theorem alikes_tp (ps : List (Int × Int)) : alikes (ps.map tp) = true := by
  unfold alikes
  rw [Bool.and_eq_true, List.all_eq_true, List.all_eq_true]
  refine ⟨fun x hx => ?_, fun x hx => ?_⟩
  · rw [List.all_eq_true]
    intro y hy
    obtain ⟨p, _, rfl⟩ := List.mem_map.mp hx
    obtain ⟨q, _, rfl⟩ := List.mem_map.mp hy
    exact alike_tp p q
  · obtain ⟨p, _, rfl⟩ := List.mem_map.mp hx
    rfl
theorem alikes_int (ns : List Int) : alikes (ns.map PyData.int) = true := by
  unfold alikes
  rw [Bool.and_eq_true, List.all_eq_true, List.all_eq_true]
  refine ⟨fun x hx => ?_, fun x hx => ?_⟩
  · rw [List.all_eq_true]
    intro y hy
    obtain ⟨p, _, rfl⟩ := List.mem_map.mp hx
    obtain ⟨q, _, rfl⟩ := List.mem_map.mp hy
    exact alike_ii p q
  · obtain ⟨p, _, rfl⟩ := List.mem_map.mp hx
    rfl
theorem maxL_int {so : List SO} (n : Int) (ns : List Int) : dMaxL [.list ((n :: ns).map PyData.int)] so = some (.int (ns.foldl max n), so) := by
  have := alikes_int (n :: ns)
  rw [List.map_cons] at this ⊢
  simp only [dMaxL, seqOf, lstOf, if_pos this]
  rw [PySem.W.maxD_ints]
/-! ### comprehensions whose parts lean on a closed store -/
theorem lcGo_wf {g : MT} {t : M Bool} {e : M D} {it : ItD} {vs : List Nat} {vars : List (Option D)} {S : List SO} {items : List D} {vv : D → List (Option D)} {p : D → Bool} {φ : D → D} (hw : WF S)
    (hit : ∀ i acc, nextI it (S ++ [.lst acc]) i = some items[i]?) (hlen : items.length < mx)
    (hg : ∀ d ∈ items, ∀ acc, g d ⟨wipeD vars vs, S ++ [.lst acc]⟩ = .ok ⟨vv d, S ++ [.lst acc]⟩) (ht : ∀ d ∈ items, ∀ acc, WF (S ++ [.lst acc]) → t ⟨vv d, S ++ [.lst acc]⟩ = .ok (p d) (S ++ [.lst acc])) (he : ∀ d ∈ items, p d = true → ∀ acc, WF (S ++ [.lst acc]) → e ⟨vv d, S ++ [.lst acc]⟩ = .ok (φ d) (S ++ [.lst acc]))
    (hl : ∀ d ∈ items, lim S.length (φ d) = true) :
    ∀ (m i : Nat) (acc : List D), lims S.length acc = true → items.length - i < m → acc.length + (items.length - i) ≤ items.length → lcGo g t e it vs vars S.length m i (S ++ [.lst acc]) = some (S ++ [.lst (acc ++ ((items.drop i).filter p).map φ)])
  | 0, _, _, _, h, _ => absurd h (Nat.not_lt_zero _)
  | m + 1, i, acc, hc, h, ha => by
    have wA : WF (S ++ [.lst acc]) := hw.app (lims_mono (Nat.le_succ _) _ hc)
    unfold lcGo
    rw [hit]
    cases q : items[i]? with
    | none =>
      have : items.length ≤ i := List.getElem?_eq_none_iff.mp q
      simp [List.drop_eq_nil_of_le this]
    | some d =>
      obtain ⟨hi, hd⟩ := List.getElem?_eq_some_iff.mp q
      have hm : d ∈ items := List.mem_of_getElem? q
      have dr : items.drop i = d :: items.drop (i + 1) := by rw [List.drop_eq_getElem_cons hi, hd]
      simp only [hg d hm acc, ht d hm acc wA]
      cases hp : p d with
      | false =>
        simp only []
        rw [lcGo_wf hw hit hlen hg ht he hl m (i + 1) acc hc (by omega) (by omega), dr]
        simp [hp]
      | true =>
        simp only [he d hm hp acc wA]
        have l1 : (S ++ [SO.lst acc])[S.length]? = some (.lst acc) := by simp
        have l2 : acc.length < mx := by omega
        have l3 : (S ++ [SO.lst acc]).set S.length (.lst (acc ++ [φ d])) = S ++ [.lst (acc ++ [φ d])] := by simp
        simp only [l1, if_pos l2, l3]
        have hc2 : lims S.length (acc ++ [φ d]) = true := by
          rw [lims_iff] at hc ⊢
          intro x hx
          rcases List.mem_append.mp hx with hx | hx
          · exact hc x hx
          · rw [List.mem_singleton] at hx; rw [hx]; exact hl d hm
        rw [lcGo_wf hw hit hlen hg ht he hl m (i + 1) (acc ++ [φ d]) hc2 (by omega) (by simp; omega), dr]
        simp [hp]
theorem lc_wf {fi : M ItD} {g : MT} {t : M Bool} {e : M D} {it : ItD} {vs : List Nat} {vars : List (Option D)} {S : List SO} {items : List D} {vv : D → List (Option D)} {p : D → Bool} {φ : D → D} (hw : WF S)
    (hi : fi ⟨vars, S⟩ = .ok it S) (hf : fuelI it S = items.length + 1) (hlen : items.length < mx)
    (hit : ∀ i acc, nextI it (S ++ [.lst acc]) i = some items[i]?)
    (hg : ∀ d ∈ items, ∀ acc, g d ⟨wipeD vars vs, S ++ [.lst acc]⟩ = .ok ⟨vv d, S ++ [.lst acc]⟩) (ht : ∀ d ∈ items, ∀ acc, WF (S ++ [.lst acc]) → t ⟨vv d, S ++ [.lst acc]⟩ = .ok (p d) (S ++ [.lst acc])) (he : ∀ d ∈ items, p d = true → ∀ acc, WF (S ++ [.lst acc]) → e ⟨vv d, S ++ [.lst acc]⟩ = .ok (φ d) (S ++ [.lst acc]))
    (hl : ∀ d ∈ items, lim S.length (φ d) = true) :
    eLc false fi g t e vs ⟨vars, S⟩ = .ok (.list ((items.filter p).map φ)) S := by
  unfold eLc
  rw [bnd_ok hi]
  have := lcGo_wf hw hit hlen hg ht he hl (items.length + 1) 0 [] rfl (by omega) (by simp)
  simp only [List.drop_zero, List.nil_append] at this
  simp only [hf, this]
  unfold lcEnd
  have q : (S ++ [SO.lst ((items.filter p).map φ)])[S.length]? = some (.lst ((items.filter p).map φ)) := by simp
  have q2 : (S ++ [SO.lst ((items.filter p).map φ)]).set S.length .dead = S ++ [.dead] := by simp
  simp only [q, q2]
  refine gc_cut rfl hw ?_
  unfold lim
  rw [lims_iff]
  intro d hd
  obtain ⟨x, hx, rfl⟩ := List.mem_map.mp hd
  exact hl x (List.mem_filter.mp hx).1
/-- .. over range(n), all -/
theorem lc_rngW {fi : M ItD} {g : MT} {t : M Bool} {e : M D} {vs : List Nat} {vars : List (Option D)} {S : List SO} {lo : Int} {n : Nat} {vv : Nat → List (Option D)} {p : Nat → Bool} {φ : Nat → D} (hw : WF S)
    (hi : fi ⟨vars, S⟩ = .ok (.rng lo n) S) (hlen : n < mx)
    (hg : ∀ k < n, ∀ acc, g (.int (lo + (k : Nat))) ⟨wipeD vars vs, S ++ [.lst acc]⟩ = .ok ⟨vv k, S ++ [.lst acc]⟩) (ht : ∀ k < n, ∀ acc, WF (S ++ [.lst acc]) → t ⟨vv k, S ++ [.lst acc]⟩ = .ok (p k) (S ++ [.lst acc])) (he : ∀ k < n, p k = true → ∀ acc, WF (S ++ [.lst acc]) → e ⟨vv k, S ++ [.lst acc]⟩ = .ok (φ k) (S ++ [.lst acc]))
    (hl : ∀ k < n, lim S.length (φ k) = true) :
    eLc false fi g t e vs ⟨vars, S⟩ = .ok (.list (((List.range n).filter p).map φ)) S := by
  let q : D → Nat := fun d => match d with | .int i => (i - lo).toNat | _ => 0
  have hq : ∀ k : Nat, q (.int (lo + (k : Nat))) = k := fun k => by show (lo + (k : Nat) - lo).toNat = k; omega
  have mm : ∀ d, d ∈ ((List.range n).map fun k : Nat => PyData.int (lo + (k : Nat))) → ∃ k : Nat, k < n ∧ d = .int (lo + (k : Nat)) := fun d hd => by
    obtain ⟨k, hk, rfl⟩ := List.mem_map.mp hd
    exact ⟨k, by simpa using hk, rfl⟩
  have := lc_wf (g := g) (t := t) (e := e) (vs := vs) (items := (List.range n).map fun k : Nat => PyData.int (lo + (k : Nat))) (vv := fun d => vv (q d)) (p := fun d => p (q d)) (φ := fun d => φ (q d)) (it := .rng lo n) hw hi (by simp [fuelI]) (by simpa using hlen)
    (by
      intro i acc
      unfold nextI
      by_cases hi : i < n
      · simp [hi]
      · simp [hi])
    (fun d hd acc => by
      obtain ⟨k, hk, rfl⟩ := mm d hd
      rw [hq]; exact hg k hk acc)
    (fun d hd acc => by
      obtain ⟨k, hk, rfl⟩ := mm d hd
      rw [hq]; exact ht k hk acc)
    (fun d hd => by
      obtain ⟨k, hk, rfl⟩ := mm d hd
      rw [hq]; exact he k hk)
    (fun d hd => by
      obtain ⟨k, hk, rfl⟩ := mm d hd
      rw [hq]; exact hl k hk)
  rw [this, List.filter_map, List.map_map]
  congr 2
  have e1 : ((List.range n).filter ((fun d => p (q d)) ∘ fun k : Nat => PyData.int (lo + (k : Nat)))) = (List.range n).filter p := by
    apply List.filter_congr
    intro k _
    show p (q (.int (lo + (k : Nat)))) = p k
    rw [hq]
  rw [e1]
  apply List.map_congr_left
  intro k _
  show φ (q (.int (lo + (k : Nat)))) = φ k
  rw [hq]
end EV
end
section
set_option Elab.async false
set_option linter.all false
set_option maxRecDepth 100000
set_option maxHeartbeats 4000000
namespace P21
variable {α : Type} [DecidableEq α]
def mxL (l : List Nat) : Nat := l.foldr max 0
theorem le_mxL {l : List Nat} {x : Nat} (h : x ∈ l) : x ≤ mxL l := by
  induction l with
  | nil => cases h
  | cons a l ih =>
    simp only [mxL, List.foldr_cons]
    rcases List.mem_cons.mp h with rfl | h
    · exact Nat.le_max_left _ _
    · exact Nat.le_trans (ih h) (Nat.le_max_right _ _)
theorem mxL_le {l : List Nat} {b : Nat} (h : ∀ x ∈ l, x ≤ b) : mxL l ≤ b := by
  induction l with
  | nil => exact Nat.zero_le _
  | cons a l ih =>
    simp only [mxL, List.foldr_cons]
    exact Nat.max_le.mpr ⟨h a (by simp), ih fun x hx => h x (by simp [hx])⟩
/-- the most that can be had -/
def opt (many : Nat) : List α → List α → Nat
  | [], _ => 0
  | a :: s, K => if a ∈ K then 1 + opt many s K else if K.length < many then opt many s (a :: K) else mxL (K.map fun x => opt many s (a :: K.erase x))
theorem opt_perm (many : Nat) : ∀ (s : List α) {K L : List α}, K.Perm L → opt many s K = opt many s L
  | [], _, _, _ => rfl
  | a :: s, K, L, h => by
    have e : ∀ x, opt many s (a :: K.erase x) = opt many s (a :: L.erase x) := fun x => opt_perm many s ((h.erase x).cons a)
    have m : mxL (K.map fun x => opt many s (a :: K.erase x)) = mxL (L.map fun x => opt many s (a :: L.erase x)) := by
      apply Nat.le_antisymm
      · apply mxL_le
        intro y hy
        obtain ⟨x, hx, rfl⟩ := List.mem_map.mp hy
        exact le_mxL (List.mem_map.mpr ⟨x, h.mem_iff.mp hx, (e x).symm⟩)
      · apply mxL_le
        intro y hy
        obtain ⟨x, hx, rfl⟩ := List.mem_map.mp hy
        exact le_mxL (List.mem_map.mpr ⟨x, h.mem_iff.mpr hx, e x⟩)
    unfold opt
    simp only [h.mem_iff, h.length_eq, opt_perm many s h, opt_perm many s (h.cons a), m]
theorem opt_hit {many : Nat} {a : α} {s K : List α} (h : a ∈ K) : opt many (a :: s) K = 1 + opt many s K := by
  rw [opt, if_pos h]
theorem opt_add {many : Nat} {a : α} {s K : List α} (h : a ∉ K) (hl : K.length < many) : opt many (a :: s) K = opt many s (a :: K) := by
  rw [opt, if_neg h, if_pos hl]
theorem opt_le {many b : Nat} {a : α} {s K : List α} (h : a ∉ K) (hl : K.length = many) (hb : ∀ x ∈ K, opt many s (a :: K.erase x) ≤ b) : opt many (a :: s) K ≤ b := by
  rw [opt, if_neg h, if_neg (by omega)]
  exact mxL_le fun y hy => by
    obtain ⟨x, hx, rfl⟩ := List.mem_map.mp hy
    exact hb x hx
theorem le_opt {many : Nat} {a : α} {s K : List α} (h : a ∉ K) (hl : K.length = many) {x : α} (hx : x ∈ K) : opt many s (a :: K.erase x) ≤ opt many (a :: s) K := by
  rw [opt.eq_2, if_neg h, if_neg (by omega)]
  exact le_mxL (List.mem_map.mpr ⟨x, hx, rfl⟩)
theorem er_hd {x : α} {K : List α} : (x :: K).erase x = K := by simp
theorem er_tl {x z : α} {K : List α} (hz : z ∈ K) (hx : x ∉ K) : (x :: K).erase z = x :: K.erase z := by
  have : x ≠ z := fun e => hx (e ▸ hz)
  rw [List.erase_cons_tail (by simpa using this)]
theorem er_len {z : α} {K : List α} (hz : z ∈ K) : (K.erase z).length + 1 = K.length := by
  have := List.length_erase_of_mem hz
  have := List.length_pos_of_mem hz
  omega
theorem opt_mono (many : Nat) : ∀ (s : List α) {y : α} {K : List α}, y ∉ K → K.length < many → opt many s K ≤ opt many s (y :: K)
  | [], _, _, _, _ => Nat.le_refl _
  | a :: s, y, K, hy, hl => by
    by_cases ha : a ∈ K
    · rw [opt_hit ha, opt_hit (List.mem_cons_of_mem _ ha)]
      exact Nat.add_le_add_left (opt_mono many s hy hl) 1
    · by_cases hay : a = y
      · subst hay
        rw [opt_add ha hl, opt_hit (by simp)]
        omega
      · have hn : a ∉ y :: K := by simp [ha, hay]
        rw [opt_add ha hl]
        by_cases h2 : (y :: K).length < many
        · rw [opt_add hn h2, opt_perm many s (.swap y a K)]
          exact opt_mono many s (by simp [Ne.symm hay, hy]) (by simpa using h2)
        · have := le_opt (many := many) (s := s) hn (by simp at h2 ⊢; omega) (List.mem_cons_self (a := y) (l := K))
          rwa [er_hd] at this
theorem opt_ex (many : Nat) : ∀ (s : List α), (∀ {x y : α} {K : List α}, K.Nodup → x ∉ K → y ∉ K → K.length < many → opt many s (y :: K) ≤ 1 + opt many s (x :: K)) ∧
    ∀ {y : α} {K : List α}, K.Nodup → y ∉ K → K.length < many → opt many s (y :: K) ≤ 1 + opt many s K
  | [] => ⟨fun _ _ _ _ => by simp [opt], fun _ _ _ => by simp [opt]⟩
  | a :: s => by
    obtain ⟨i2, i3⟩ := opt_ex many s
    refine ⟨fun {x y K} nd hx hy hl => ?_, fun {y K} nd hy hl => ?_⟩
    · by_cases ha : a ∈ K
      · rw [opt_hit (List.mem_cons_of_mem _ ha), opt_hit (List.mem_cons_of_mem _ ha)]
        exact Nat.add_le_add_left (i2 nd hx hy hl) 1
      by_cases hay : a = y
      · subst hay
        rw [opt_hit (by simp)]
        refine Nat.add_le_add_left ?_ 1
        by_cases hax : a = x
        · subst hax
          rw [opt_hit (by simp)]; omega
        have hn : a ∉ x :: K := by simp [ha, hax]
        by_cases h2 : (x :: K).length < many
        · rw [opt_add hn h2, opt_perm many s (.swap x a K)]
          exact opt_mono many s (by simp [Ne.symm hax, hx]) (by simpa using h2)
        · have := le_opt (many := many) (s := s) hn (by simp at h2 ⊢; omega) (List.mem_cons_self (a := x) (l := K))
          rwa [er_hd] at this
      have hn : a ∉ y :: K := by simp [ha, hay]
      by_cases hax : a = x
      · subst hax
        rw [opt_hit (List.mem_cons_self (a := a) (l := K))]
        by_cases h2 : (y :: K).length < many
        · rw [opt_add hn h2, opt_perm many s (.swap y a K)]
          have := i3 (y := y) (K := a :: K) (List.nodup_cons.mpr ⟨hx, nd⟩) (by simp [Ne.symm hay, hy]) (by simpa using h2)
          omega
        · refine opt_le hn (by simp at h2 ⊢; omega) fun z hz => ?_
          rcases List.mem_cons.mp hz with rfl | hz
          · rw [er_hd]; omega
          · rw [er_tl hz hy, opt_perm many s (.swap y a _)]
            have q : opt many s (a :: K) = opt many s (z :: a :: K.erase z) := opt_perm many s (((List.perm_cons_erase hz).cons a).trans (.swap z a _))
            have hal : a ∉ K.erase z := fun h => ha (List.mem_of_mem_erase h)
            have := i2 (x := z) (y := y) (K := a :: K.erase z) (List.nodup_cons.mpr ⟨hal, nd.erase z⟩) (by
              have : z ≠ a := fun e => ha (e ▸ hz)
              simp [this, nd.mem_erase_iff]) (by
              have : y ∉ K.erase z := fun h => hy (List.mem_of_mem_erase h)
              simp [Ne.symm hay, this]) (by have := er_len hz; simp; omega)
            omega
      have hn2 : a ∉ x :: K := by simp [ha, hax]
      by_cases h2 : (y :: K).length < many
      · rw [opt_add hn h2, opt_add hn2 h2, opt_perm many s (.swap y a K), opt_perm many s (.swap x a K)]
        exact i2 (List.nodup_cons.mpr ⟨ha, nd⟩) (by simp [Ne.symm hax, hx]) (by simp [Ne.symm hay, hy]) (by simpa using h2)
      · refine opt_le hn (by simp at h2 ⊢; omega) fun z hz => ?_
        have lx : (x :: K).length = many := by simp at h2 ⊢; omega
        rcases List.mem_cons.mp hz with rfl | hz
        · rw [er_hd]
          have := le_opt (many := many) (s := s) hn2 lx (List.mem_cons_self (a := x) (l := K))
          rw [er_hd] at this; omega
        · have := le_opt (many := many) (s := s) hn2 lx (List.mem_cons_of_mem _ hz)
          rw [er_tl hz hx, opt_perm many s (.swap x a _)] at this
          rw [er_tl hz hy, opt_perm many s (.swap y a _)]
          have m : ∀ w, w ∉ K → w ∉ K.erase z := fun w hw h => hw (List.mem_of_mem_erase h)
          have := i2 (x := x) (y := y) (K := a :: K.erase z) (List.nodup_cons.mpr ⟨m a ha, nd.erase z⟩) (by simp [Ne.symm hax, m x hx]) (by simp [Ne.symm hay, m y hy]) (by have := er_len hz; simp; omega)
          omega
    · by_cases ha : a ∈ K
      · rw [opt_hit (List.mem_cons_of_mem _ ha), opt_hit ha]
        exact Nat.add_le_add_left (i3 nd hy hl) 1
      by_cases hay : a = y
      · subst hay
        rw [opt_hit (by simp), opt_add ha hl]
        omega
      have hn : a ∉ y :: K := by simp [ha, hay]
      rw [opt_add ha hl]
      by_cases h2 : (y :: K).length < many
      · rw [opt_add hn h2, opt_perm many s (.swap y a K)]
        exact i3 (List.nodup_cons.mpr ⟨ha, nd⟩) (by simp [Ne.symm hay, hy]) (by simpa using h2)
      · refine opt_le hn (by simp at h2 ⊢; omega) fun z hz => ?_
        rcases List.mem_cons.mp hz with rfl | hz
        · rw [er_hd]; omega
        · rw [er_tl hz hy, opt_perm many s (.swap y a _)]
          have q : opt many s (a :: K) = opt many s (z :: a :: K.erase z) := opt_perm many s (((List.perm_cons_erase hz).cons a).trans (.swap z a _))
          have m : ∀ w, w ∉ K → w ∉ K.erase z := fun w hw h => hw (List.mem_of_mem_erase h)
          have za : z ≠ a := fun e => ha (e ▸ hz)
          have := i2 (x := z) (y := y) (K := a :: K.erase z) (List.nodup_cons.mpr ⟨m a ha, nd.erase z⟩) (by simp [za, nd.mem_erase_iff]) (by simp [Ne.symm hay, m y hy]) (by have := er_len hz; simp; omega)
          omega
theorem idx_ne {a x : α} {s : List α} (h : a ≠ x) : (a :: s).idxOf x = s.idxOf x + 1 := by
  have : (a == x) = false := by simpa using h
  simp [List.idxOf_cons, this]
/-- what is asked for again sooner is worth no less -/
theorem opt_sooner (many : Nat) : ∀ (s : List α) {x y : α} {K : List α}, K.Nodup → x ∉ K → y ∉ K → K.length < many → s.idxOf x ≤ s.idxOf y → opt many s (y :: K) ≤ opt many s (x :: K)
  | [], _, _, _, _, _, _, _, _ => Nat.le_refl _
  | a :: s, x, y, K, nd, hx, hy, hl, hi => by
    by_cases hxy : x = y
    · subst hxy; exact Nat.le_refl _
    by_cases ha : a ∈ K
    · rw [opt_hit (List.mem_cons_of_mem _ ha), opt_hit (List.mem_cons_of_mem _ ha)]
      have ax : a ≠ x := fun e => hx (e ▸ ha)
      have ay : a ≠ y := fun e => hy (e ▸ ha)
      refine Nat.add_le_add_left (opt_sooner many s nd hx hy hl ?_) 1
      rw [idx_ne ax, idx_ne ay] at hi; omega
    by_cases hay : a = y
    · subst hay
      rw [List.idxOf_cons_self, List.idxOf_cons] at hi
      have : (a == x) = false := by simpa using Ne.symm hxy
      simp [this] at hi
    have hn : a ∉ y :: K := by simp [ha, hay]
    have m : ∀ z w, w ∉ K → w ∉ K.erase z := fun z w hw h => hw (List.mem_of_mem_erase h)
    obtain ⟨i2, i3⟩ := opt_ex many s
    by_cases hax : a = x
    · subst hax
      rw [opt_hit (List.mem_cons_self (a := a) (l := K))]
      by_cases h2 : (y :: K).length < many
      · rw [opt_add hn h2, opt_perm many s (.swap y a K)]
        exact i3 (y := y) (K := a :: K) (List.nodup_cons.mpr ⟨hx, nd⟩) (by simp [Ne.symm hay, hy]) (by simpa using h2)
      · refine opt_le hn (by simp at h2 ⊢; omega) fun z hz => ?_
        rcases List.mem_cons.mp hz with rfl | hz
        · rw [er_hd]; omega
        · rw [er_tl hz hy, opt_perm many s (.swap y a _)]
          have q : opt many s (a :: K) = opt many s (z :: a :: K.erase z) := opt_perm many s (((List.perm_cons_erase hz).cons a).trans (.swap z a _))
          have za : z ≠ a := fun e => ha (e ▸ hz)
          have := i2 (x := z) (y := y) (K := a :: K.erase z) (List.nodup_cons.mpr ⟨m z a ha, nd.erase z⟩) (by simp [za, nd.mem_erase_iff]) (by simp [Ne.symm hay, m z y hy]) (by have := er_len hz; simp; omega)
          omega
    have hn2 : a ∉ x :: K := by simp [ha, hax]
    have hi2 : s.idxOf x ≤ s.idxOf y := by rw [idx_ne hax, idx_ne hay] at hi; omega
    by_cases h2 : (y :: K).length < many
    · rw [opt_add hn h2, opt_add hn2 h2, opt_perm many s (.swap y a K), opt_perm many s (.swap x a K)]
      exact opt_sooner many s (List.nodup_cons.mpr ⟨ha, nd⟩) (by simp [Ne.symm hax, hx]) (by simp [Ne.symm hay, hy]) (by simpa using h2) hi2
    · refine opt_le hn (by simp at h2 ⊢; omega) fun z hz => ?_
      have lx : (x :: K).length = many := by simp at h2 ⊢; omega
      rcases List.mem_cons.mp hz with rfl | hz
      · rw [er_hd]
        have := le_opt (many := many) (s := s) hn2 lx (List.mem_cons_self (a := x) (l := K))
        rwa [er_hd] at this
      · have := le_opt (many := many) (s := s) hn2 lx (List.mem_cons_of_mem _ hz)
        rw [er_tl hz hx, opt_perm many s (.swap x a _)] at this
        rw [er_tl hz hy, opt_perm many s (.swap y a _)]
        exact Nat.le_trans (opt_sooner many s (List.nodup_cons.mpr ⟨m z a ha, nd.erase z⟩) (by simp [Ne.symm hax, m z x hx]) (by simp [Ne.symm hay, m z y hy]) (by have := er_len hz; simp; omega) hi2) this
/-- .. by places -/
theorem er_ix {K : List α} (nd : K.Nodup) {p : Nat} (hp : p < K.length) : K.erase K[p] = K.eraseIdx p := by
  rw [List.erase_eq_eraseIdx_of_idxOf (nd.idxOf_getElem p hp)]
theorem opt_max {many : Nat} {a : α} {s K : List α} (nd : K.Nodup) (h : a ∉ K) (hl : K.length = many) :
    opt many (a :: s) K = mxL ((List.range K.length).map fun k => opt many s (K.eraseIdx k ++ [a])) := by
  have e : ∀ L : List α, opt many s (L ++ [a]) = opt many s (a :: L) := fun L => opt_perm many s (List.perm_append_comm (l₁ := L) (l₂ := [a]))
  apply Nat.le_antisymm
  · refine opt_le h hl fun x hx => ?_
    obtain ⟨p, hp, rfl⟩ := List.mem_iff_getElem.mp hx
    rw [er_ix nd hp, ← e]
    exact le_mxL (List.mem_map.mpr ⟨p, by simpa using hp, rfl⟩)
  · apply mxL_le
    intro y hy
    obtain ⟨p, hp, rfl⟩ := List.mem_map.mp hy
    have hp : p < K.length := by simpa using hp
    rw [e, ← er_ix nd hp]
    exact le_opt h hl (List.getElem_mem hp)
/-- the one asked for last, or never, goes -/
theorem opt_bel {many : Nat} {a : α} {s K : List α} (nd : K.Nodup) (h : a ∉ K) (hl : K.length = many) {p : Nat} (hp : p < K.length) (hm : ∀ q (hq : q < K.length), s.idxOf K[q] ≤ s.idxOf K[p]) :
    opt many (a :: s) K = opt many s (K.eraseIdx p ++ [a]) := by
  have e : opt many s (K.eraseIdx p ++ [a]) = opt many s (a :: K.eraseIdx p) := opt_perm many s (List.perm_append_comm (l₁ := K.eraseIdx p) (l₂ := [a]))
  rw [e, ← er_ix nd hp]
  have hk := List.getElem_mem hp
  apply Nat.le_antisymm _ (le_opt h hl hk)
  refine opt_le h hl fun x hx => ?_
  by_cases hxp : x = K[p]
  · rw [hxp]; exact Nat.le_refl _
  have hx' : K[p] ∈ K.erase x := by
    rw [nd.mem_erase_iff]; exact ⟨fun e => hxp e.symm, hk⟩
  have hp' : x ∈ K.erase K[p] := by
    rw [nd.mem_erase_iff]; exact ⟨hxp, hx⟩
  -- both are R with one more
  have q1 : (a :: K.erase x).Perm (K[p] :: a :: (K.erase x).erase K[p]) := ((List.perm_cons_erase hx').cons a).trans (.swap _ a _)
  have q2 : (a :: K.erase K[p]).Perm (x :: a :: (K.erase K[p]).erase x) := ((List.perm_cons_erase hp').cons a).trans (.swap _ a _)
  rw [opt_perm many s q1, opt_perm many s q2, List.erase_comm K[p] x]
  have nd2 : ((K.erase x).erase K[p]).Nodup := (nd.erase x).erase _
  have ma : a ∉ (K.erase x).erase K[p] := fun z => h (List.mem_of_mem_erase (List.mem_of_mem_erase z))
  have l1 := er_len hx'
  have l2 := er_len hx
  have xa : x ≠ a := fun e => h (e ▸ hx)
  have pa : K[p] ≠ a := fun e => h (e ▸ hk)
  refine opt_sooner many s (List.nodup_cons.mpr ⟨ma, nd2⟩) ?_ ?_ (by simp; omega) ?_
  · simp only [List.mem_cons, not_or]
    refine ⟨xa, fun z => ?_⟩
    have := List.mem_of_mem_erase z
    rw [nd.mem_erase_iff] at this
    exact this.1 rfl
  · simp only [List.mem_cons, not_or]
    refine ⟨pa, fun z => ?_⟩
    rw [(nd.erase x).mem_erase_iff] at z
    exact z.1 rfl
  · obtain ⟨q, hq, rfl⟩ := List.mem_iff_getElem.mp hx
    exact hm q hq
/-- a keep by the last use does no better -/
theorem opt_hit_le {many : Nat} {a : α} {s K : List α} (h : a ∈ K) : 1 + opt many s (K.erase a ++ [a]) ≤ opt many (a :: s) K := by
  rw [opt_hit h, opt_perm many s ((List.perm_append_comm (l₁ := K.erase a) (l₂ := [a])).trans (List.perm_cons_erase h).symm)]
  exact Nat.le_refl _
theorem opt_add_le {many : Nat} {a : α} {s K : List α} (h : a ∉ K) (hl : K.length < many) : opt many s (K ++ [a]) ≤ opt many (a :: s) K := by
  rw [opt_add h hl, opt_perm many s (List.perm_append_comm (l₁ := K) (l₂ := [a]))]
  exact Nat.le_refl _
theorem opt_go_le {many : Nat} {a b : α} {s K : List α} (h : a ∉ b :: K) (hl : (b :: K).length = many) : opt many s (K ++ [a]) ≤ opt many (a :: s) (b :: K) := by
  rw [opt_perm many s (List.perm_append_comm (l₁ := K) (l₂ := [a]))]
  have := le_opt (many := many) (s := s) h hl (List.mem_cons_self (a := b) (l := K))
  rwa [er_hd] at this
/-! ### by last use: the row of those asked for -/
/-- those asked for, each once, the one asked for last stands last -/
def rec (l : List α) : List α := l.foldl (fun R b => R.erase b ++ [b]) []
theorem rec_snoc (l : List α) (b : α) : rec (l ++ [b]) = (rec l).erase b ++ [b] := by simp [rec]
theorem nd_snoc {R : List α} {b : α} (h : R.Nodup) : (R.erase b ++ [b]).Nodup := by
  rw [List.nodup_append]
  refine ⟨h.erase b, by simp, ?_⟩
  intro x hx y hy
  rw [h.mem_erase_iff] at hx
  rw [List.mem_singleton] at hy
  rw [hy]; exact hx.1
theorem rec_nd : ∀ (l : List α), (rec l).Nodup := by
  intro l
  suffices ∀ (l R : List α), R.Nodup → (l.foldl (fun R b => R.erase b ++ [b]) R).Nodup from this l [] List.nodup_nil
  intro l
  induction l with
  | nil => exact fun R h => h
  | cons b l ih => exact fun R h => ih _ (nd_snoc h)
theorem er_app {X K : List α} {a : α} (h : a ∉ X) : (X ++ K).erase a = X ++ K.erase a := List.erase_append_right _ h
theorem rec_mem (l : List α) (b : α) : b ∈ rec l ↔ b ∈ l := by
  suffices ∀ (l R : List α), b ∈ l.foldl (fun R b => R.erase b ++ [b]) R ↔ b ∈ R ∨ b ∈ l by
    have := this l []
    simpa [rec] using this
  intro l
  induction l with
  | nil => simp
  | cons c l ih =>
    intro R
    rw [List.foldl_cons, ih]
    by_cases hbc : b = c
    · simp [hbc]
    · simp [List.mem_erase_of_ne hbc, hbc]
/-- those apart -/
def dd (l : List α) : List α := l.foldl (fun A b => if b ∈ A then A else A ++ [b]) []
theorem dd_rec_aux : ∀ (l A R : List α), R.Nodup → (∀ x, x ∈ A ↔ x ∈ R) → A.length = R.length → (l.foldl (fun A b => if b ∈ A then A else A ++ [b]) A).length = (l.foldl (fun R b => R.erase b ++ [b]) R).length
  | [], A, R, _, _, h => h
  | b :: l, A, R, nd, hm, h => by
    rw [List.foldl_cons, List.foldl_cons]
    have nd' := nd_snoc (b := b) nd
    by_cases hb : b ∈ A
    · have hR := (hm b).mp hb
      refine dd_rec_aux l _ _ nd' (fun x => ?_) ?_
      · rw [if_pos hb, hm]
        by_cases hx : x = b
        · simp [hx, hR]
        · simp [List.mem_erase_of_ne hx, hx]
      · have := er_len hR
        rw [if_pos hb]; simp; omega
    · have hR : b ∉ R := fun z => hb ((hm b).mpr z)
      refine dd_rec_aux l _ _ nd' (fun x => ?_) ?_
      · rw [if_neg hb, List.erase_of_not_mem hR]
        simp [hm]
      · rw [if_neg hb, List.erase_of_not_mem hR]
        simp [h]
theorem dd_rec (l : List α) : (dd l).length = (rec l).length := dd_rec_aux l [] [] List.nodup_nil (fun _ => Iff.rfl) rfl
theorem rec_after (q : List α) (a : α) : ∀ (t : List α), a ∉ t → ∃ Y Z, rec (q ++ a :: t) = Y ++ a :: Z ∧ rec (a :: t) = a :: Z := by
  suffices ∀ (t R : List α) (Y Z : List α), a ∉ t → (Y ++ a :: Z).Nodup → ∃ Y' Z', t.foldl (fun R b => R.erase b ++ [b]) (Y ++ a :: Z) = Y' ++ a :: Z' ∧ t.foldl (fun R b => R.erase b ++ [b]) (a :: Z) = a :: Z' by
    intro t ht
    have nd : (((rec q).erase a) ++ [a]).Nodup := nd_snoc (rec_nd q)
    obtain ⟨Y', Z', h1, h2⟩ := this t [] ((rec q).erase a) [] ht nd
    refine ⟨Y', Z', ?_, ?_⟩
    · rw [← h1]; simp [rec]
    · rw [← h2]; simp [rec]
  intro t
  induction t with
  | nil => exact fun _ Y Z _ _ => ⟨Y, Z, rfl, rfl⟩
  | cons b t ih =>
    intro R Y Z ha nd
    have hab : a ≠ b := fun e => ha (by simp [e])
    have ha' : a ∉ t := fun e => ha (by simp [e])
    have e2 : (a :: Z).erase b = a :: Z.erase b := by rw [List.erase_cons_tail (by simpa using hab)]
    rw [List.foldl_cons, List.foldl_cons]
    by_cases hb : b ∈ Y
    · have hz : b ∉ Z := by
        intro z
        rw [List.nodup_append] at nd
        exact nd.2.2 b hb b (by simp [z]) rfl
      have e1 : (Y ++ a :: Z).erase b ++ [b] = Y.erase b ++ a :: (Z.erase b ++ [b]) := by
        rw [List.erase_append_left _ hb, List.erase_of_not_mem hz]; simp
      have := ih [] (Y.erase b) (Z.erase b ++ [b]) ha' (by rw [← e1]; exact nd_snoc nd)
      rw [e1, e2]
      simpa using this
    · have e1 : (Y ++ a :: Z).erase b ++ [b] = Y ++ a :: (Z.erase b ++ [b]) := by
        rw [er_app hb, e2]; simp
      have := ih [] Y (Z.erase b ++ [b]) ha' (by rw [← e1]; exact nd_snoc nd)
      rw [e1, e2]
      simpa using this
/-- the keep of so many behind asks -/
def lru (many : Nat) (p : List α) : List α := (rec p).drop ((rec p).length - many)
def lruStep (many : Nat) (K : List α) (a : α) : List α := if a ∈ K then K.erase a ++ [a] else (K ++ [a]).drop ((K ++ [a]).length - many)
theorem lru_nd (many : Nat) (p : List α) : (lru many p).Nodup := (rec_nd p).sublist (List.drop_sublist _ _)
theorem lru_len (many : Nat) (p : List α) : (lru many p).length ≤ many := by simp [lru]; omega
theorem lru_snoc {many : Nat} (hm : 1 ≤ many) (p : List α) (a : α) : lru many (p ++ [a]) = lruStep many (lru many p) a := by
  have nd := rec_nd p
  have sp : rec p = (rec p).take ((rec p).length - many) ++ lru many p := (List.take_append_drop _ _).symm
  unfold lru
  rw [rec_snoc]
  unfold lruStep
  generalize hX : (rec p).take ((rec p).length - many) = X at sp
  have lX : X.length = (rec p).length - many := by rw [← hX]; simp
  have lK : (rec p).length = X.length + (lru many p).length := by conv => lhs; rw [sp]; rw [List.length_append]
  have eK : (rec p).drop ((rec p).length - many) = lru many p := rfl
  rw [eK]
  generalize lru many p = K at *
  by_cases ha : a ∈ K
  · have hx : a ∉ X := by
      intro z
      rw [sp, List.nodup_append] at nd
      exact nd.2.2 a z a ha rfl
    have lE := er_len ha
    rw [if_pos ha, sp, er_app hx]
    rw [List.append_assoc]
    have : (X ++ (K.erase a ++ [a])).length - many = X.length := by simp; omega
    rw [this]; simp
  · rw [if_neg ha]
    by_cases hx : a ∈ X
    · have lE := er_len hx
      have lk : K.length = many := by
        have := List.length_pos_of_mem hx
        omega
      rw [sp, List.erase_append_left _ hx, List.append_assoc]
      have h1 : (X.erase a ++ (K ++ [a])).length - many = (X.erase a).length + 1 := by simp; omega
      have h2 : (K ++ [a]).length - many = 1 := by simp; omega
      rw [h1, h2]; simp [List.drop_append]
    · have hr : a ∉ rec p := by rw [sp]; simp [ha, hx]
      rw [List.erase_of_not_mem hr, sp, List.append_assoc]
      by_cases hf : (rec p).length < many
      · have : X = [] := by
          apply List.eq_nil_of_length_eq_zero; omega
        subst this; simp
      · have h1 : (X ++ (K ++ [a])).length - many = X.length + 1 := by simp; omega
        have h2 : (K ++ [a]).length - many = 1 := by simp; omega
        rw [h1, h2]; simp [List.drop_append]
/-- had, if so many apart at most stand between -/
theorem lru_hit {many : Nat} (hm : 1 ≤ many) (q : List α) (a : α) {t : List α} (ht : a ∉ t) : a ∈ lru many (q ++ a :: t) ↔ (dd (a :: t)).length ≤ many := by
  obtain ⟨Y, Z, h1, h2⟩ := rec_after q a t ht
  have nd := rec_nd (q ++ a :: t)
  unfold lru
  rw [dd_rec, h2, h1]
  rw [h1] at nd
  rw [List.nodup_append] at nd
  obtain ⟨_, nz, hd⟩ := nd
  have hy : a ∉ Y := fun z => hd a z a (by simp) rfl
  have hz : a ∉ Z := (List.nodup_cons.mp nz).1
  simp only [List.length_append, List.length_cons]
  by_cases h : Y.length + (Z.length + 1) - many ≤ Y.length
  · rw [List.drop_append_of_le_length h]
    simp; omega
  · have : Y.length + (Z.length + 1) - many = Y.length + ((Z.length - many) + 1) := by omega
    rw [this, List.drop_append]
    have e : Y.length + (Z.length - many + 1) - Y.length = (Z.length - many) + 1 := by omega
    rw [e, List.drop_eq_nil_of_le (by omega)]
    simp only [List.nil_append, List.drop_succ_cons]
    constructor
    · intro z; exact absurd (List.mem_of_mem_drop z) hz
    · intro z; omega
end P21
end
section
set_option Elab.async false
set_option linter.all false
set_option maxRecDepth 10000
set_option maxHeartbeats 4000000
namespace K21
open PySem EV
open L2 (Key atI ixN)
/-! ### a keep is made -/
theorem fldD_ok {k : Nat} {nm : PySem.Str} {fv fo : M D} {vars : List (Option D)} {so so1 so2 so3 : List SO} {d x : D} (h1 : fv ⟨vars, so⟩ = .ok d so1) (h2 : fo ⟨vars, so1⟩ = .ok x so2) (h3 : putFld k nm x d so2 = some so3) : sFldD k nm fv fo ⟨vars, so⟩ = .ok .nx ⟨vars, so3⟩ := by
  unfold sFldD
  rw [bndS_ok h1]
  show bndS fo _ ⟨vars, so1⟩ = _
  rw [bndS_ok h2]
  simp only [h3]
theorem putFld_new {so ex : List SO} {c k : Nat} {nm : PySem.Str} {d : D} {fs : List (PySem.Str × D)} (hl : fs.length < 1000) (hc : c < k) : putFld k nm (rf so.length) d (so ++ .ins c fs :: ex) = some (so ++ .ins c (dPutF nm d fs) :: ex) := by
  have : (so ++ SO.ins c fs :: ex)[so.length]? = some (.ins c fs) := by simp
  unfold putFld
  rw [ref_ins this]
  simp only [hc, hl, and_self, if_true]
  rw [List.set_append_right _ _ (Nat.le_refl _)]
  simp
theorem init_eq {so : List SO} {m : Int} (hm : 1 ≤ m) : g_AnswerKeep_init [rf so.length, .int m] (so ++ [.ins 0 []]) = .ok .none (so ++ [.ins 0 (keepF m (so.length + 1) 0 0 0), .dct []]) := by
  have c0 : eB (eOp dLt (eVar 1) (eC (.int 1))) ⟨[some (rf so.length), some (.int m)], so ++ [.ins 0 []]⟩ = .ok false (so ++ [.ins 0 []]) := by
    have := b_ok (op_ok (vars := [some (rf so.length), some (.int m)]) (so := so ++ [.ins 0 []]) (f1 := eVar 1) (var_ok rfl) (c_ok (d := .int 1)) (dLt_ii m 1))
    rw [this, decide_eq_false (by omega)]
  have e1 : sFldD 2 "many" (eVar 1) (eVar 0) ⟨[some (rf so.length), some (.int m)], so ++ [.ins 0 []]⟩ = _ := fldD_ok (var_ok rfl) (var_ok rfl) (putFld_new (by decide) (by decide))
  have nw : eDNew ⟨[some (rf so.length), some (.int m)], so ++ [.ins 0 (dPutF "many" (.int m) [])]⟩ = .ok (rf (so.length + 1)) (so ++ [.ins 0 (dPutF "many" (.int m) []), .dct []]) := by
    simp [eDNew]
  have e2 := fldD_ok (k := 2) (nm := "rows") (fo := eVar 0) nw (var_ok rfl) (putFld_new (by show 1 < 1000; decide) (by decide))
  have e3 := fldD_ok (k := 2) (nm := "had") (fv := eC (.int 0)) (fo := eVar 0) (vars := [some (rf so.length), some (.int m)]) c_ok (var_ok rfl) (putFld_new (so := so) (ex := [.dct []]) (c := 0) (fs := dPutF "rows" (rf (so.length + 1)) (dPutF "many" (.int m) [])) (by show 2 < 1000; decide) (by decide))
  have e4 := fldD_ok (k := 2) (nm := "lacked") (fv := eC (.int 0)) (fo := eVar 0) (vars := [some (rf so.length), some (.int m)]) c_ok (var_ok rfl) (putFld_new (so := so) (ex := [.dct []]) (c := 0) (fs := dPutF "had" (.int 0) (dPutF "rows" (rf (so.length + 1)) (dPutF "many" (.int m) []))) (by show 3 < 1000; decide) (by decide))
  have e5 := fldD_ok (k := 2) (nm := "saved") (fv := eC (.int 0)) (fo := eVar 0) (vars := [some (rf so.length), some (.int m)]) c_ok (var_ok rfl) (putFld_new (so := so) (ex := [.dct []]) (c := 0) (fs := dPutF "lacked" (.int 0) (dPutF "had" (.int 0) (dPutF "rows" (rf (so.length + 1)) (dPutF "many" (.int m) [])))) (by show 4 < 1000; decide) (by decide))
  have e0 : sIf (eB (eOp dLt (eVar 1) (eC (.int 1)))) (sRaise 2) (sNext) ⟨[some (rf so.length), some (.int m)], so ++ [.ins 0 []]⟩ = .ok .nx ⟨[some (rf so.length), some (.int m)], so ++ [.ins 0 []]⟩ := if_f c0
  unfold g_AnswerKeep_init fnM m_AnswerKeep_init
  rw [show startD N_AnswerKeep_init [rf so.length, .int m] = [some (rf so.length), some (.int m)] from rfl, seq_ok e0, seq_ok e1, seq_ok e2, seq_ok e3, seq_ok e4, e5]
  rfl
theorem gcR_ref {m n : Nat} {so : List SO} (h : m ≤ n) : gcR m (.ok (rf n) so) = .ok (rf n) so := by
  have : lim m (rf n) = false := by simp [EV.lim]; omega
  simp only [gcR, this]
  simp
theorem make_keep {f : M D} {vars : List (Option D)} {so so1 : List SO} {m : Int} (h : f ⟨vars, so⟩ = .ok (.int m) so1) (hm : 1 ≤ m) : eMake 0 2 g_AnswerKeep_init (eCons f eNil) ⟨vars, so⟩ = .ok (rf so1.length) (so1 ++ [.ins 0 (keepF m (so1.length + 1) 0 0 0), .dct []]) := by
  unfold eMake
  rw [bnd_ok (one_ok h)]
  unfold kMake
  simp only [List.length_cons, List.length_nil, init_eq hm, mkR, if_true]
  exact gcR_ref (Nat.le_refl _)
theorem keep_new {so : List SO} {m : Int} : Keep (so ++ [.ins 0 (keepF m (so.length + 1) 0 0 0), .dct []]) so.length (so.length + 1) m 0 0 0 [] := ⟨by simp, by simp⟩
theorem wf_new {so : List SO} {m : Int} (h : WF so) : WF (so ++ [.ins 0 (keepF m (so.length + 1) 0 0 0), .dct []]) := by
  unfold WF at *
  rw [List.all_eq_true] at *
  intro o ho
  rcases List.mem_append.mp ho with ho | ho
  · exact limO_mono (by simp) (h o ho)
  · rcases List.mem_cons.mp ho with rfl | ho
    · exact lim_keep (by simp)
    · rw [List.mem_singleton] at ho
      subst ho
      rfl
/-! ### next_place -/
abbrev strL (l : List PySem.Str) : List D := l.map .str
theorem ix_l {xs : List D} {k : Nat} {so : List SO} {d : D} (h : xs[k]? = some d) : dIx (.list xs) (.int (k : Int)) so = some (d, so) := by
  have hk := (List.getElem?_eq_some_iff.mp h).1
  have hi : ixN xs.length (k : Int) = some k := by
    unfold ixN
    rw [if_pos (by omega), if_pos (by omega)]
    simp
  have ha : atI xs (k : Int) = some d := by
    unfold atI
    rw [hi]
    exact h
  unfold dIx
  simp only [lstOf, ha]
  rfl
theorem len_l {xs : List D} {so : List SO} : dLen [.list xs] so = some (.int (xs.length : Nat), so) := by simp [dLen, lstOf]
def npB : MS := sIf (eB (eOp dEq (eOp dIx (eVar 0) (eVar 3)) (eVar 2))) (sRet (eVar 3)) (sNext)
theorem np_go {asks : List PySem.Str} {a : PySem.Str} {first n : Nat} {so : List SO} (hn : first + n = asks.length) : ∀ (m i : Nat) (vars : List (Option D)), n - i < m → i ≤ n → vars.length = 4 → vars[0]? = some (some (.list (strL asks))) → vars[2]? = some (some (.str a)) →
    ∃ vars', vars'[0]? = some (some (.list (strL asks))) ∧ forGo (tName 3) npB (.rng (first : Int) n) m i ⟨vars, so⟩ = if (asks.drop (first + i)).idxOf a < n - i then .ok (.ret (.int ((first + i + (asks.drop (first + i)).idxOf a : Nat)))) ⟨vars', so⟩ else .ok .nx ⟨vars', so⟩
  | 0, _, _, h, _, _, _, _ => absurd h (Nat.not_lt_zero _)
  | m + 1, i, vars, h, hi, hl, h0, h2 => by
    unfold forGo nextI
    by_cases hin : i < n
    · have hk : first + i < asks.length := by omega
      have dr : asks.drop (first + i) = asks[first + i] :: asks.drop (first + i + 1) := List.drop_eq_getElem_cons hk
      have g0 : (vars.set 3 (some (PyData.int ((first : Int) + i))))[0]? = some (some (.list (strL asks))) := by ((repeat rw [List.getElem?_set_ne (by decide)]); first | (rw [List.getElem?_set_self (by (try simp only [List.length_set]); omega)]; done) | assumption)
      have g2 : (vars.set 3 (some (PyData.int ((first : Int) + i))))[2]? = some (some (.str a)) := by ((repeat rw [List.getElem?_set_ne (by decide)]); first | (rw [List.getElem?_set_self (by (try simp only [List.length_set]); omega)]; done) | assumption)
      have g3 : (vars.set 3 (some (PyData.int ((first : Int) + i))))[3]? = some (some (.int ((first : Int) + i))) := by ((repeat rw [List.getElem?_set_ne (by decide)]); first | (rw [List.getElem?_set_self (by (try simp only [List.length_set]); omega)]; done) | assumption)
      have gl : (vars.set 3 (some (PyData.int ((first : Int) + i)))).length = 4 := by simpa using hl
      have ix : dIx (.list (strL asks)) (.int ((first : Int) + i)) so = some (.str asks[first + i], so) := by
        have := ix_l (xs := strL asks) (k := first + i) (so := so) (d := .str asks[first + i]) (by simp [hk])
        simpa using this
      have c : eB (eOp dEq (eOp dIx (eVar 0) (eVar 3)) (eVar 2)) ⟨vars.set 3 (some (PyData.int ((first : Int) + i))), so⟩ = .ok (decide (asks[first + i] = a)) so := b_ok (op_ok (op_ok (var_ok g0) (var_ok g3) ix) (var_ok g2) (dEq_ss _ _ _))
      simp only [if_pos hin, tName]
      by_cases e : asks[first + i] = a
      · rw [decide_eq_true e] at c
        have b : npB ⟨vars.set 3 (some (PyData.int ((first : Int) + i))), so⟩ = .ok (.ret (.int ((first : Int) + i))) ⟨vars.set 3 (some (PyData.int ((first : Int) + i))), so⟩ := by
          unfold npB
          rw [if_t c]
          exact ret_ok (var_ok g3)
        refine ⟨_, g0, ?_⟩
        simp only [b]
        have z : (asks.drop (first + i)).idxOf a = 0 := by rw [dr, e, List.idxOf_cons_self]
        rw [z, if_pos (by omega)]
        simp
      · rw [decide_eq_false e] at c
        have b : npB ⟨vars.set 3 (some (PyData.int ((first : Int) + i))), so⟩ = .ok .nx ⟨vars.set 3 (some (PyData.int ((first : Int) + i))), so⟩ := by
          unfold npB
          rw [if_f c]
          rfl
        simp only [b]
        obtain ⟨vars', q0, q⟩ := np_go (so := so) hn m (i + 1) _ (by omega) hin gl g0 g2
        refine ⟨vars', q0, ?_⟩
        rw [q]
        have z : (asks.drop (first + i)).idxOf a = (asks.drop (first + i + 1)).idxOf a + 1 := by rw [dr, P21.idx_ne e]
        rw [z, show first + (i + 1) = first + i + 1 from rfl]
        by_cases hf : (asks.drop (first + i + 1)).idxOf a < n - (i + 1)
        · rw [if_pos hf, if_pos (by omega)]
          congr 4
          omega
        · rw [if_neg hf, if_neg (by omega)]
    · have e : i = n := by omega
      subst e
      refine ⟨vars, h0, ?_⟩
      have : ¬ (asks.drop (first + i)).idxOf a < i - i := by omega
      simp only [hin, this, if_false]
def nextP (asks : List PySem.Str) (first : Nat) (a : PySem.Str) : Nat := if first ≤ asks.length then first + (asks.drop first).idxOf a else asks.length
theorem np_rng {asks : List PySem.Str} {first : Nat} {a : PySem.Str} {so : List SO} (hl : asks.length ≤ 1000) (hf : first ≤ 1000) : EV.iRng2 (eVar 1) (eCB dLen (eCons (eVar 0) (eNil))) ⟨[some (.list (strL asks)), some (.int (first : Int)), some (.str a), none], so⟩ = .ok (.rng (first : Int) (asks.length - first)) so := by
  have e1 : eVar 1 ⟨[some (.list (strL asks)), some (.int (first : Int)), some (.str a), none], so⟩ = .ok (.int (first : Int)) so := var_ok rfl
  have e2 : eCB dLen (eCons (eVar 0) (eNil)) ⟨[some (.list (strL asks)), some (.int (first : Int)), some (.str a), none], so⟩ = .ok (.int ((strL asks).length : Nat)) so := cb_ok (one_ok (var_ok rfl)) len_l
  have s1 : small62 (first : Int) = true := decide_eq_true (by omega)
  have s2 : small62 (((strL asks).length : Nat) : Int) = true := decide_eq_true (by rw [List.length_map]; omega)
  have : (((strL asks).length : Nat) - (first : Int)).toNat = asks.length - first := by simp only [List.length_map]; omega
  unfold EV.iRng2
  rw [bnd_ok e1]
  show bnd _ _ ⟨[some (.list (strL asks)), some (.int (first : Int)), some (.str a), none], so⟩ = _
  rw [bnd_ok e2]
  simp only [kRng2, s1, s2, and_self, if_true, this]
theorem seq_ret {f g : MS} {st st1 : EV.St} {d : D} (h : f st = .ok (.ret d) st1) : sSeq f g st = .ok (.ret d) st1 := by
  unfold sSeq
  rw [h]
theorem np_a {asks : List PySem.Str} {first : Nat} {a : PySem.Str} {so : List SO} {d : D} (h : ∃ vars', m_next_place ⟨[some (.list (strL asks)), some (.int (first : Int)), some (.str a), none], so⟩ = .ok (.ret d) ⟨vars', so⟩) : g_next_place [.list (strL asks), .int (first : Int), .str a] so = .ok d so := by
  obtain ⟨vars', e⟩ := h
  exact fn_ret (N := N_next_place) (ds := [.list (strL asks), .int (first : Int), .str a]) e
theorem np_b {asks : List PySem.Str} {first : Nat} {a : PySem.Str} {so : List SO} {vars' : List (Option D)} (h : sFor (EV.iRng2 (eVar 1) (eCB dLen (eCons (eVar 0) (eNil)))) (tName 3) npB ⟨[some (.list (strL asks)), some (.int (first : Int)), some (.str a), none], so⟩ = .ok .nx ⟨vars', so⟩) (v0 : vars'[0]? = some (some (.list (strL asks)))) : m_next_place ⟨[some (.list (strL asks)), some (.int (first : Int)), some (.str a), none], so⟩ = .ok (.ret (.int (asks.length : Nat))) ⟨vars', so⟩ := by
  show sSeq (sFor _ _ npB) _ _ = _
  rw [seq_ok h, ret_ok (cb_ok (one_ok (var_ok v0)) len_l), List.length_map]
theorem np_c {asks : List PySem.Str} {first : Nat} {a : PySem.Str} {so : List SO} {d : D} {vars' : List (Option D)} (h : sFor (EV.iRng2 (eVar 1) (eCB dLen (eCons (eVar 0) (eNil)))) (tName 3) npB ⟨[some (.list (strL asks)), some (.int (first : Int)), some (.str a), none], so⟩ = .ok (.ret d) ⟨vars', so⟩) : m_next_place ⟨[some (.list (strL asks)), some (.int (first : Int)), some (.str a), none], so⟩ = .ok (.ret d) ⟨vars', so⟩ := by
  exact seq_ret h
theorem next_place {asks : List PySem.Str} {first : Nat} {a : PySem.Str} {so : List SO} (hl : asks.length ≤ 1000) (hf : first ≤ 1000) : g_next_place [.list (strL asks), .int (first : Int), .str a] so = .ok (.int (nextP asks first a : Nat)) so := by
  apply np_a
  have rg := np_rng (a := a) (so := so) hl hf
  have ff := for_ok (g := tName 3) (b := npB) rg
  unfold nextP
  by_cases h : first ≤ asks.length
  · obtain ⟨vars', v0, q⟩ := np_go (asks := asks) (a := a) (first := first) (n := asks.length - first) (so := so) (by omega) (fuelI (.rng (first : Int) (asks.length - first)) so) 0 [some (.list (strL asks)), some (.int (first : Int)), some (.str a), none] (by simp [fuelI]) (by omega) rfl rfl rfl
    have q' := ff.trans q
    rw [if_pos h]
    simp only [Nat.add_zero, Nat.sub_zero] at q'
    refine ⟨vars', ?_⟩
    by_cases hd : (asks.drop first).idxOf a < asks.length - first
    · rw [if_pos hd] at q'
      exact np_c q'
    · rw [if_neg hd] at q'
      have := List.idxOf_le_length (a := a) (l := asks.drop first)
      rw [List.length_drop] at this
      have z : first + (asks.drop first).idxOf a = asks.length := by omega
      rw [z]
      exact np_b q' v0
  · have z : asks.length - first = 0 := by omega
    rw [z] at ff
    have q' := ff.trans (show _ = RS.ok .nx ⟨[some (.list (strL asks)), some (.int (first : Int)), some (.str a), none], so⟩ by simp [fuelI, forGo, nextI])
    rw [if_neg h]
    exact ⟨_, np_b q' rfl⟩
end K21
end
section
set_option Elab.async false
set_option linter.all false
set_option maxRecDepth 10000
set_option maxHeartbeats 4000000
namespace K21
open PySem EV
open L2 (Key atI ixN)
/-! ### best_kept -/
theorem aug_ok {i : Nat} {g : O2} {f : M D} {vars : List (Option D)} {so so1 so2 : List SO} {x y d : D} (hv : vars[i]? = some (some x)) (h : f ⟨vars, so⟩ = .ok y so1) (hg : g x y so1 = some (d, so2)) : sAug i g f ⟨vars, so⟩ = .ok .nx ⟨vars.set i (some d), so2⟩ := by
  unfold sAug
  simp only [hv]
  rw [bndS_ok h]
  simp only [hg]
theorem app_ok {f g : M D} {vars : List (Option D)} {so so1 : List SO} {j : Nat} {xs : List D} {y : D} (h1 : f ⟨vars, so⟩ = .ok (rf j) so1) (h2 : so1[j]? = some (.lst xs)) (h3 : g ⟨vars, so1⟩ = .ok y so1) (hl : xs.length < mx) : eApp f g ⟨vars, so⟩ = .ok .none (so1.set j (.lst (xs ++ [y]))) := by
  unfold eApp
  rw [bnd_ok h1]
  have : isLst so1 (rf j) = true := by simp [isLst, h2]
  simp only [this, if_true]
  rw [bnd_ok h3]
  simp only [kApp, Int.toNat_natCast, h2, if_pos hl]
theorem par_ok {i j : Nat} {fa : M (List D)} {vars : List (Option D)} {so so1 : List SO} {a b : D} (h : fa ⟨vars, so⟩ = .ok [a, b] so1) : sPar i j fa ⟨vars, so⟩ = .ok .nx ⟨(vars.set i (some a)).set j (some b), so1⟩ := by
  unfold sPar
  rw [bndS_ok h]
def enumL (l : List PySem.Str) : List D := (List.range l.length).map fun k => .tuple [.int (k : Nat), .str (l.getD k "")]
theorem enum_get (l : List PySem.Str) (i : Nat) : ((strL l)[i]?).map (fun d => PyData.tuple [.int (i : Nat), d]) = (enumL l)[i]? := by
  unfold enumL
  by_cases h : i < l.length
  · rw [List.getElem?_map, List.getElem?_map, List.getElem?_range h, List.getElem?_eq_getElem h]
    simp [List.getD_eq_getElem?_getD, List.getElem?_eq_getElem h]
  · rw [List.getElem?_eq_none (by simp; omega), List.getElem?_eq_none (by simp; omega)]
    rfl
theorem deep_strL (l : List PySem.Str) : deepOk (.list (strL l)) = true := deep_list fun x hx => by
  obtain ⟨s, _, rfl⟩ := List.mem_map.mp hx
  exact ⟨rfl, by simp [PyData.depth]⟩
theorem any_strL (l : List PySem.Str) (a : PySem.Str) : ((strL l).any fun z => PyData.eqv z (.str a)) = decide (a ∈ l) := by
  rw [Bool.eq_iff_iff, List.any_eq_true, decide_eq_true_iff]
  constructor
  · rintro ⟨x, hx, e⟩
    obtain ⟨s, hs, rfl⟩ := List.mem_map.mp hx
    have : s = a := by simpa [PyData.eqv] using e
    exact this ▸ hs
  · intro h
    exact ⟨.str a, List.mem_map.mpr ⟨a, h, rfl⟩, by simp [PyData.eqv]⟩
theorem in_list {l : List PySem.Str} {a : PySem.Str} {so : List SO} : dIn (.str a) (.list (strL l)) so = some (.bool (decide (a ∈ l)), so) := by
  have d := deep_strL l
  have e : deepOk (.str a) = true := rfl
  simp only [dIn, inGo, dref, d, e, and_self, if_true, any_strL]
  rfl
theorem in_live {l : List PySem.Str} {a : PySem.Str} {so : List SO} {j : Nat} (h : so[j]? = some (.lst (strL l))) : dIn (.str a) (rf j) so = some (.bool (decide (a ∈ l)), so) := by
  have d := deep_strL l
  have e : deepOk (.str a) = true := rfl
  simp only [dIn, inGo, dref, Int.toNat_natCast, h, d, e, and_self, if_true, any_strL]
  rfl
theorem take_drop_erase {α : Type} (K : List α) (p : Nat) : K.take p ++ K.drop (p + 1) = K.eraseIdx p := (List.eraseIdx_eq_take_drop_succ K p).symm
structure BI (st : EV.St) (so0 : List SO) (asks : List PySem.Str) (m : Nat) (i : Nat) (K : List PySem.Str) (f j : Nat) : Prop where
  len : st.vars.length = 9
  v0 : st.vars[0]? = some (some (.list (strL asks)))
  v1 : st.vars[1]? = some (some (.int (m : Nat)))
  v2 : st.vars[2]? = some (some (rf j))
  v3 : st.vars[3]? = some (some (.int (f : Nat)))
  ex : ∃ ex, st.so = so0 ++ ex
  jl : so0.length ≤ j
  kp : st.so[j]? = some (.lst (strL K))
  wf : WF st.so
  nd : K.Nodup
  kl : K.length ≤ m
  op : f + P21.opt m (asks.drop i) K = P21.opt m asks []
theorem lims_strL (m : Nat) (l : List PySem.Str) : lims m (strL l) = true := by
  rw [lims_iff]
  intro d hd
  obtain ⟨s, _, rfl⟩ := List.mem_map.mp hd
  rfl
def bkF : MS := sSeq (sSet 6 (eLc false (EV.iEnuA (eVar 2)) (EV.tTup 2 (EV.tCons (tName 7) (EV.tCons (tName 8) (EV.tNil)))) (tTrue) (eTup (eCons (eOp dSub (eC (.int 0)) (eCall 3 g_next_place (eCons (eVar 0) (eCons (eOp dAdd (eVar 4) (eC (.int 1))) (eCons (eVar 8) (eNil)))))) (eCons (eVar 7) (eNil)))) [7, 8])) (sSeq (sAsg (eOp dIx (eCB dMinL (eCons (eVar 6) (eNil))) (eC (.int 1))) (tName 7)) (sAsg (eOp dAddL (eSl (eVar 2) (oNone) (oSome (eVar 7))) (eSl (eVar 2) (oSome (eOp dAdd (eVar 7) (eC (.int 1)))) (oNone))) (tName 2)))
theorem bkF_ok {vars : List (Option D)} {so : List SO} {asks K : List PySem.Str} {i j : Nat} {a : PySem.Str} (hl : vars.length = 9) (v0 : vars[0]? = some (some (.list (strL asks)))) (v2 : vars[2]? = some (some (rf j))) (v4 : vars[4]? = some (some (.int (i : Nat)))) (kp : so[j]? = some (.lst (strL K))) (wf : WF so)
    (k0 : 0 < K.length) (k1 : K.length ≤ 100) (a1 : asks.length ≤ 900) (hi : i < asks.length) :
    ∃ vars' p, ∃ hp : p < K.length, bkF ⟨vars, so⟩ = .ok .nx ⟨vars', so ++ [.lst (strL (K.eraseIdx p))]⟩ ∧ (∀ q (hq : q < K.length), (asks.drop (i + 1)).idxOf K[q] ≤ (asks.drop (i + 1)).idxOf K[p]) ∧ vars'.length = 9 ∧ vars'[2]? = some (some (rf so.length)) ∧ (∀ k, k ≠ 2 → k ≠ 6 → k ≠ 7 → vars'[k]? = vars[k]?) := by
  have jl : j < so.length := (List.getElem?_eq_some_iff.mp kp).1
  let nx : Nat → Int × Int := fun k => (0 - (nextP asks (i + 1) (K.getD k "") : Nat), (k : Nat))
  have vv : ∀ x y : D, (wipeD vars [7, 8]).length = 9 ∧ ((((wipeD vars [7, 8]).set 7 (some x)).set 8 (some y))[7]? = some (some x) ∧ (((wipeD vars [7, 8]).set 7 (some x)).set 8 (some y))[8]? = some (some y) ∧ (((wipeD vars [7, 8]).set 7 (some x)).set 8 (some y))[0]? = some (some (.list (strL asks))) ∧ (((wipeD vars [7, 8]).set 7 (some x)).set 8 (some y))[4]? = some (some (.int (i : Nat)))) := fun x y => by
    have l : (wipeD vars [7, 8]).length = 9 := by simp [wipeD, hl]
    refine ⟨l, by ((repeat rw [List.getElem?_set_ne (by decide)]); first | (rw [List.getElem?_set_self (by (try simp only [List.length_set]); omega)]; done) | assumption), by ((repeat rw [List.getElem?_set_ne (by decide)]); first | (rw [List.getElem?_set_self (by (try simp only [List.length_set]); omega)]; done) | assumption), ?_, ?_⟩
    · show (((((wipeD vars []).set 8 none).set 7 none).set 7 (some x)).set 8 (some y))[0]? = _
      repeat rw [List.getElem?_set_ne (by decide)]
      exact v0
    · show (((((wipeD vars []).set 8 none).set 7 none).set 7 (some x)).set 8 (some y))[4]? = _
      repeat rw [List.getElem?_set_ne (by decide)]
      exact v4
  have it : EV.iEnuA (eVar 2) ⟨vars, so⟩ = .ok (.enu (.lv j)) so := by
    unfold EV.iEnuA
    rw [bnd_ok (var_ok v2)]
    simp [kEnuA, ref_src kp]
  have q1 := lc_val (g := EV.tTup 2 (EV.tCons (tName 7) (EV.tCons (tName 8) (EV.tNil)))) (t := tTrue) (e := eTup (eCons (eOp dSub (eC (.int 0)) (eCall 3 g_next_place (eCons (eVar 0) (eCons (eOp dAdd (eVar 4) (eC (.int 1))) (eCons (eVar 8) (eNil)))))) (eCons (eVar 7) (eNil)))) (vs := [7, 8])
    (items := enumL K) (vv := fun d => match d with | .tuple [x, y] => ((wipeD vars [7, 8]).set 7 (some x)).set 8 (some y) | _ => []) (p := fun _ => true)
    (φ := fun d => match d with | .tuple [.int k, _] => tp (nx k.toNat) | _ => .none) wf it (by simp [fuelI, getS, kp, enumL]) (by simp [enumL, mx]; omega)
    (fun k acc => by
      have : (so ++ [SO.lst acc])[j]? = some (.lst (strL K)) := app_get kp
      simp only [nextI, getS, this, Option.map_some]
      rw [enum_get])
    (fun d hd acc => by
      obtain ⟨k, hk, rfl⟩ := List.mem_map.mp hd
      rfl)
    (fun d hd acc => rfl)
    (fun d hd _ acc => by
      obtain ⟨k, hk, rfl⟩ := List.mem_map.mp hd
      obtain ⟨l9, w7, w8, w0, w4⟩ := vv (.int (k : Nat)) (.str (K.getD k ""))
      have np := next_place (asks := asks) (first := i + 1) (a := K.getD k "") (so := so ++ [SO.lst acc]) (by omega) (by omega)
      have c := call_same (n := 3) (g := g_next_place) (cons_ok (var_ok w0) (cons_ok (op_ok (var_ok w4) (c_ok (d := .int 1)) (dAdd_ii _ _)) (one_ok (var_ok w8)))) rfl np rfl
      exact tup_ok (cons_ok (op_ok c_ok c rfl) (one_ok (var_ok w7))))
    (fun d hd => by
      obtain ⟨k, hk, rfl⟩ := List.mem_map.mp hd
      rfl)
  have res : (((enumL K).filter fun _ => true).map fun d => (match d with | .tuple [.int k, _] => tp (nx k.toNat) | _ => .none : D)) = ((List.range K.length).map nx).map tp := by
    rw [filt_true]
    unfold enumL
    rw [List.map_map, List.map_map]
    apply List.map_congr_left
    intro k _
    simp
  have q1' : eLc false (EV.iEnuA (eVar 2)) (EV.tTup 2 (EV.tCons (tName 7) (EV.tCons (tName 8) (EV.tNil)))) (tTrue) (eTup (eCons (eOp dSub (eC (.int 0)) (eCall 3 g_next_place (eCons (eVar 0) (eCons (eOp dAdd (eVar 4) (eC (.int 1))) (eCons (eVar 8) (eNil)))))) (eCons (eVar 7) (eNil)))) [7, 8] ⟨vars, so⟩ = .ok (.list (((List.range K.length).map nx).map tp)) so := by
    rw [← res]
    exact q1
  have e1 := set_ok (i := 6) q1'
  -- the least
  obtain ⟨n0, hn0⟩ : ∃ n0, K.length = n0 + 1 := ⟨K.length - 1, by omega⟩
  have rr : (List.range K.length).map nx = nx 0 :: ((List.range n0).map fun k => nx (k + 1)) := by
    rw [hn0, List.range_succ_eq_map, List.map_cons, List.map_map]
    rfl
  obtain ⟨r, r1, r2, r3, r4⟩ := minD_tp ((List.range n0).map fun k => nx (k + 1)) (nx 0)
  have al := alikes_tp ((List.range K.length).map nx)
  have mn : dMinL [.list (((List.range K.length).map nx).map tp)] so = some (tp r, so) := by
    rw [rr, List.map_cons] at al ⊢
    simp only [dMinL, seqOf, lstOf, if_pos al]
    rw [r1]
  have allm : ∀ q, q < K.length → nx q = nx 0 ∨ nx q ∈ (List.range n0).map fun k => nx (k + 1) := fun q hq => by
    have : nx q ∈ (List.range K.length).map nx := List.mem_map.mpr ⟨q, by simpa using hq, rfl⟩
    rw [rr] at this
    exact List.mem_cons.mp this
  have rm : ∃ p, p < K.length ∧ r = nx p := by
    rcases r2 with r2 | r2
    · exact ⟨0, k0, r2⟩
    · obtain ⟨k, hk, e⟩ := List.mem_map.mp r2
      exact ⟨k + 1, by have : k < n0 := by simpa using hk
                       omega, e.symm⟩
  obtain ⟨p, hp, rfl⟩ := rm
  have best : ∀ q, q < K.length → nextP asks (i + 1) (K.getD q "") ≤ nextP asks (i + 1) (K.getD p "") := fun q hq => by
    have : pLt (nx q) (nx p) = false := by
      rcases allm q hq with e | e
      · rw [e]; exact r3
      · exact r4 _ e
    unfold pLt at this
    have := of_decide_eq_false this
    simp only [nx] at this
    omega
  let vs1 := vars.set 6 (some (.list (((List.range K.length).map nx).map tp)))
  have l1 : vs1.length = 9 := by simpa [vs1] using hl
  have w6 : vs1[6]? = some (some (.list (((List.range K.length).map nx).map tp))) := by show (vars.set 6 _)[6]? = _; ((repeat rw [List.getElem?_set_ne (by decide)]); first | (rw [List.getElem?_set_self (by (try simp only [List.length_set]); omega)]; done) | assumption)
  have e2 : sAsg (eOp dIx (eCB dMinL (eCons (eVar 6) (eNil))) (eC (.int 1))) (tName 7) ⟨vs1, so⟩ = .ok .nx ⟨vs1.set 7 (some (.int (p : Nat))), so⟩ := asgN (op_ok (cb_ok (one_ok (var_ok w6)) mn) c_ok rfl)
  let vs2 := vs1.set 7 (some (.int (p : Nat)))
  have u7 : vs2[7]? = some (some (.int (p : Nat))) := by show (vs1.set 7 _)[7]? = _; ((repeat rw [List.getElem?_set_ne (by decide)]); first | (rw [List.getElem?_set_self (by (try simp only [List.length_set]); omega)]; done) | assumption)
  have u2 : vs2[2]? = some (some (rf j)) := by
    show ((vars.set 6 _).set 7 _)[2]? = _
    repeat rw [List.getElem?_set_ne (by decide)]
    exact v2
  have s1 : dSl (rf j) none (some (p : Int)) so = some (.list (strL (K.take p)), so) := by
    simp only [dSl, lsrOf, Int.toNat_natCast, kp, Option.map_some]
    rw [cut_take, ← List.map_take]
  have s2 : dSl (rf j) (some ((p : Int) + 1)) none so = some (.list (strL (K.drop (p + 1))), so) := by
    simp only [dSl, lsrOf, Int.toNat_natCast, kp, Option.map_some]
    rw [show ((p : Int) + 1) = ((p + 1 : Nat) : Int) by omega, cut_drop, ← List.map_drop]
  have ad : dAddL (.list (strL (K.take p))) (.list (strL (K.drop (p + 1)))) so = some (rf so.length, so ++ [.lst (strL (K.eraseIdx p))]) := by
    have hll : (strL (K.take p) ++ strL (K.drop (p + 1))).length ≤ mx := by
      rw [← List.map_append, take_drop_erase, List.length_map]
      have := List.length_eraseIdx_le K p
      unfold mx; omega
    simp only [dAddL, lstOf, liveL, if_pos hll]
    rw [← List.map_append, take_drop_erase]
  have e3 : sAsg (eOp dAddL (eSl (eVar 2) (oNone) (oSome (eVar 7))) (eSl (eVar 2) (oSome (eOp dAdd (eVar 7) (eC (.int 1)))) (oNone))) (tName 2) ⟨vs2, so⟩ = .ok .nx ⟨vs2.set 2 (some (rf so.length)), so ++ [.lst (strL (K.eraseIdx p))]⟩ :=
    asgN (op_ok (sl_ok (var_ok u2) onone_ok (osome_ok (var_ok u7)) s1) (sl_ok (var_ok u2) (osome_ok (op_ok (var_ok u7) c_ok rfl)) onone_ok s2) ad)
  refine ⟨vs2.set 2 (some (rf so.length)), p, hp, ?_, ?_, ?_, ?_, ?_⟩
  · unfold bkF
    rw [seq_ok e1, seq_ok e2]
    exact e3
  · intro q hq
    have := best q hq
    unfold nextP at this
    rw [if_pos (by omega), if_pos (by omega)] at this
    have g : ∀ q (hq : q < K.length), K.getD q "" = K[q] := fun q hq => by simp [List.getD_eq_getElem?_getD, List.getElem?_eq_getElem hq]
    rw [g q hq, g p hp] at this
    omega
  · simpa [vs2, vs1] using hl
  · have : vs2.length = 9 := by simpa [vs2, vs1] using hl
    rw [List.getElem?_set_self (by omega)]
  · intro k h2 h6 h7
    show (((vars.set 6 _).set 7 _).set 2 _)[k]? = _
    rw [List.getElem?_set_ne (Ne.symm h2), List.getElem?_set_ne (Ne.symm h7), List.getElem?_set_ne (Ne.symm h6)]
end K21
end
section
set_option Elab.async false
set_option linter.all false
set_option maxRecDepth 10000
set_option maxHeartbeats 4000000
namespace K21
open PySem EV
open L2 (Key atI ixN)
def bkB : MS := sIf (eB (eOp dIn (eVar 5) (eVar 2))) (sAug 3 dAddI (eC (.int 1))) (sSeq (sIf (eB (eOp dEq (eCB dLen (eCons (eVar 2) (eNil))) (eVar 1))) bkF (sNext)) (sExpr (eApp (eVar 2) (eVar 5))))
theorem len_live {xs : List D} {so : List SO} {j : Nat} (h : so[j]? = some (.lst xs)) : dLen [rf j] so = some (.int (xs.length : Nat), so) := by
  simp [dLen, ref_lst h]
theorem set_app {so ex : List SO} {j : Nat} {o : SO} (h : so.length ≤ j) : (so ++ ex).set j o = so ++ ex.set (j - so.length) o := List.set_append_right _ _ h
theorem bkB_ok {vars : List (Option D)} {so so0 : List SO} {asks K : List PySem.Str} {m i f j : Nat} (h : BI ⟨vars, so⟩ so0 asks m i K f j) (m1 : 1 ≤ m) (m9 : m ≤ 90) (al : asks.length ≤ 90) {a : PySem.Str} (ha : asks[i]? = some a) :
    ∃ st' K' f' j', bkB ⟨(vars.set 4 (some (.int (i : Nat)))).set 5 (some (.str a)), so⟩ = .ok .nx st' ∧ BI st' so0 asks m (i + 1) K' f' j' := by
  obtain ⟨hi, ea⟩ := List.getElem?_eq_some_iff.mp ha
  have dr : asks.drop i = a :: asks.drop (i + 1) := by rw [List.drop_eq_getElem_cons hi, ea]
  have hl : vars.length = 9 := h.len
  have v0 := h.v0
  have v1 := h.v1
  have v2 := h.v2
  have v3 := h.v3
  have op := h.op
  have kl := h.kl
  rw [dr] at op
  simp only [] at v0 v1 v2 v3
  obtain ⟨vs, hvs⟩ : ∃ vs, vs = (vars.set 4 (some (PyData.int (i : Nat)))).set 5 (some (.str a)) := ⟨_, rfl⟩
  have vl : vs.length = 9 := by rw [hvs]; simpa using hl
  have g0 : vs[0]? = some (some (.list (strL asks))) := by rw [hvs]; ((repeat rw [List.getElem?_set_ne (by decide)]); first | (rw [List.getElem?_set_self (by (try simp only [List.length_set]); omega)]; done) | assumption)
  have g1 : vs[1]? = some (some (.int (m : Nat))) := by rw [hvs]; ((repeat rw [List.getElem?_set_ne (by decide)]); first | (rw [List.getElem?_set_self (by (try simp only [List.length_set]); omega)]; done) | assumption)
  have g2 : vs[2]? = some (some (rf j)) := by rw [hvs]; ((repeat rw [List.getElem?_set_ne (by decide)]); first | (rw [List.getElem?_set_self (by (try simp only [List.length_set]); omega)]; done) | assumption)
  have g3 : vs[3]? = some (some (.int (f : Nat))) := by rw [hvs]; ((repeat rw [List.getElem?_set_ne (by decide)]); first | (rw [List.getElem?_set_self (by (try simp only [List.length_set]); omega)]; done) | assumption)
  have g4 : vs[4]? = some (some (.int (i : Nat))) := by rw [hvs]; ((repeat rw [List.getElem?_set_ne (by decide)]); first | (rw [List.getElem?_set_self (by (try simp only [List.length_set]); omega)]; done) | assumption)
  have g5 : vs[5]? = some (some (.str a)) := by rw [hvs]; ((repeat rw [List.getElem?_set_ne (by decide)]); first | (rw [List.getElem?_set_self (by (try simp only [List.length_set]); omega)]; done) | assumption)
  rw [← hvs]
  obtain ⟨ex, hex⟩ := h.ex
  simp only [] at hex
  have c : eB (eOp dIn (eVar 5) (eVar 2)) ⟨vs, so⟩ = .ok (decide (a ∈ K)) so := b_ok (op_ok (var_ok g5) (var_ok g2) (in_live h.kp))
  by_cases hk : a ∈ K
  · rw [decide_eq_true hk] at c
    rw [P21.opt_hit hk] at op
    refine ⟨⟨vs.set 3 (some (.int ((f : Int) + 1))), so⟩, K, f + 1, j, ?_, ?_⟩
    · unfold bkB
      rw [if_t c]
      exact aug_ok g3 c_ok rfl
    · exact ⟨by simpa using vl, by ((repeat rw [List.getElem?_set_ne (by decide)]); first | (rw [List.getElem?_set_self (by (try simp only [List.length_set]); omega)]; done) | assumption), by ((repeat rw [List.getElem?_set_ne (by decide)]); first | (rw [List.getElem?_set_self (by (try simp only [List.length_set]); omega)]; done) | assumption), by ((repeat rw [List.getElem?_set_ne (by decide)]); first | (rw [List.getElem?_set_self (by (try simp only [List.length_set]); omega)]; done) | assumption), by rw [List.getElem?_set_self (by omega)]; rfl, ⟨ex, hex⟩, h.jl, h.kp, h.wf, h.nd, h.kl, by omega⟩
  · rw [decide_eq_false hk] at c
    have c2 : eB (eOp dEq (eCB dLen (eCons (eVar 2) (eNil))) (eVar 1)) ⟨vs, so⟩ = .ok (decide (((strL K).length : Int) = (m : Int))) so := b_ok (op_ok (cb_ok (one_ok (var_ok g2)) (len_live h.kp)) (var_ok g1) (dEq_ii _ _))
    rw [List.length_map] at c2
    by_cases hf : K.length = m
    · rw [decide_eq_true (by omega)] at c2
      obtain ⟨vars', p, hp, e, best, l9, w2, ws⟩ := bkF_ok (a := a) vl g0 g2 g4 h.kp h.wf (by omega) (by omega) (by omega) hi
      have w0 := (ws 0 (by decide) (by decide) (by decide)).trans g0
      have w1 := (ws 1 (by decide) (by decide) (by decide)).trans g1
      have w3 := (ws 3 (by decide) (by decide) (by decide)).trans g3
      have w5 := (ws 5 (by decide) (by decide) (by decide)).trans g5
      have last : (so ++ [SO.lst (strL (K.eraseIdx p))])[so.length]? = some (.lst (strL (K.eraseIdx p))) := app_last
      have le := List.length_eraseIdx_of_lt hp
      have e2 := expr_ok (app_ok (var_ok w2) last (var_ok w5) (by rw [List.length_map]; unfold mx; omega))
      have fin : (so ++ [SO.lst (strL (K.eraseIdx p))]).set so.length (.lst (strL (K.eraseIdx p) ++ [.str a])) = so ++ [.lst (strL (K.eraseIdx p ++ [a]))] := by
        rw [set_app (Nat.le_refl _)]
        simp
      rw [fin] at e2
      refine ⟨⟨vars', so ++ [.lst (strL (K.eraseIdx p ++ [a]))]⟩, K.eraseIdx p ++ [a], f, so.length, ?_, ⟨l9, w0, w1, w2, w3, ⟨ex ++ [.lst (strL (K.eraseIdx p ++ [a]))], by simp only []; rw [hex, List.append_assoc]⟩, by rw [hex]; simp, app_last, h.wf.app (by simp only [limO]; exact lims_strL _ _), ?_, by simp; omega, ?_⟩⟩
      · unfold bkB
        rw [if_f c, seq_ok ((if_t c2).trans e)]
        exact e2
      · rw [List.nodup_append]
        refine ⟨h.nd.sublist (List.eraseIdx_sublist _ _), by simp, ?_⟩
        intro x hx y hy
        rw [List.mem_singleton] at hy
        rw [hy]
        intro z
        rw [z] at hx
        exact hk (List.mem_of_mem_eraseIdx hx)
      · rw [← P21.opt_bel h.nd hk hf hp best]
        exact op
    · rw [decide_eq_false (by omega)] at c2
      have e2 := expr_ok (app_ok (var_ok g2) h.kp (var_ok g5) (by rw [List.length_map]; unfold mx; omega))
      have jj : j < so.length := (List.getElem?_eq_some_iff.mp h.kp).1
      refine ⟨⟨vs, so.set j (.lst (strL K ++ [.str a]))⟩, K ++ [a], f, j, ?_, ⟨vl, g0, g1, g2, g3, ⟨ex.set (j - so0.length) (.lst (strL K ++ [.str a])), by simp only []; rw [hex, set_app h.jl]⟩, h.jl, ?_, h.wf.set ?_, ?_, by simp; omega, ?_⟩⟩
      · unfold bkB
        rw [if_f c, seq_ok (show sIf (eB (eOp dEq (eCB dLen (eCons (eVar 2) (eNil))) (eVar 1))) bkF sNext ⟨vs, so⟩ = .ok .nx ⟨vs, so⟩ from if_f c2)]
        exact e2
      · show (so.set j _)[j]? = _
        rw [List.getElem?_set_self jj]
        simp
      · have := lims_strL so.length (K ++ [a])
        have z : strL (K ++ [a]) = strL K ++ [.str a] := by simp
        rw [z] at this
        exact this
      · rw [List.nodup_append]
        refine ⟨h.nd, by simp, ?_⟩
        intro x hx y hy
        rw [List.mem_singleton] at hy
        rw [hy]
        intro z
        rw [z] at hx
        exact hk hx
      · rw [P21.opt_add hk (by omega)] at op
        rw [P21.opt_perm m _ (List.perm_append_comm (l₁ := K) (l₂ := [a]))]
        exact op
theorem best_kept {asks : List PySem.Str} {m : Nat} {so : List SO} (hw : WF so) (m1 : 1 ≤ m) (m9 : m ≤ 90) (al : asks.length ≤ 90) : ∃ ex, g_best_kept [.list (strL asks), .int (m : Nat)] so = .ok (.int (P21.opt m asks [] : Nat)) (so ++ ex) := by
  suffices ∃ vars' ex, m_best_kept ⟨[some (.list (strL asks)), some (.int (m : Nat)), none, none, none, none, none, none, none], so⟩ = .ok (.ret (.int (P21.opt m asks [] : Nat))) ⟨vars', so ++ ex⟩ by
    obtain ⟨vars', ex, e⟩ := this
    exact ⟨ex, fn_ret (N := N_best_kept) (ds := [.list (strL asks), .int (m : Nat)]) e⟩
  have c : eB (eOp dLt (eVar 1) (eC (.int 1))) ⟨[some (.list (strL asks)), some (.int (m : Nat)), none, none, none, none, none, none, none], so⟩ = .ok (decide ((m : Int) < 1)) so := b_ok (op_ok (var_ok rfl) c_ok (dLt_ii _ _))
  rw [decide_eq_false (by omega)] at c
  have e0 : sIf (eB (eOp dLt (eVar 1) (eC (.int 1)))) (sRaise 2) (sNext) ⟨[some (.list (strL asks)), some (.int (m : Nat)), none, none, none, none, none, none, none], so⟩ = .ok .nx ⟨_, so⟩ := if_f c
  have e1 := par_ok (i := 2) (j := 3) (vars := [some (.list (strL asks)), some (.int (m : Nat)), none, none, none, none, none, none, none]) (so := so) (two_ok (live_ok nil_ok) (c_ok (d := .int 0)))
  let vs : List (Option D) := [some (.list (strL asks)), some (.int (m : Nat)), some (rf so.length), some (.int 0), none, none, none, none, none]
  have it : EV.iEnuA (eVar 0) ⟨vs, so ++ [.lst []]⟩ = .ok (.enu (.fz (strL asks))) (so ++ [.lst []]) := by
    unfold EV.iEnuA
    rw [bnd_ok (var_ok (d := .list (strL asks)) rfl)]
    rfl
  have ff := for_ok (g := EV.tTup 2 (EV.tCons (tName 4) (EV.tCons (tName 5) (EV.tNil)))) (b := bkB) it
  have B0 : BI ⟨vs, so ++ [.lst []]⟩ so asks m 0 [] 0 so.length := ⟨rfl, rfl, rfl, rfl, rfl, ⟨_, rfl⟩, Nat.le_refl _, app_last, hw.app rfl, List.nodup_nil, by simp, by simp⟩
  obtain ⟨st', e2, K, f, j, B⟩ := forGo_all (g := EV.tTup 2 (EV.tCons (tName 4) (EV.tCons (tName 5) (EV.tNil)))) (b := bkB) (it := .enu (.fz (strL asks))) (items := enumL asks) (fun i st => ∃ K f j, BI st so asks m i K f j)
    (fun i st _ => by
      rw [← enum_get]
      rfl)
    (fun i d st hd ⟨K, f, j, hB⟩ => by
      obtain ⟨vars, so1⟩ := st
      rw [← enum_get, List.getElem?_map] at hd
      cases ha : asks[i]? with
      | none => rw [ha] at hd; cases hd
      | some a =>
        rw [ha] at hd
        cases hd
        obtain ⟨st', K', f', j', e, B'⟩ := bkB_ok hB m1 m9 al ha
        exact ⟨_, st', rfl, .inl e, K', f', j', B'⟩) (fuelI (.enu (.fz (strL asks))) (so ++ [.lst []])) 0 ⟨vs, so ++ [.lst []]⟩ (by simp [fuelI, getS, enumL]) (by omega) ⟨[], 0, so.length, B0⟩
  have e3 := ff.trans e2
  obtain ⟨vars', so'⟩ := st'
  obtain ⟨ex, hex⟩ := B.ex
  simp only [] at hex
  have op := B.op
  have len : (enumL asks).length = asks.length := by simp [enumL]
  rw [len, List.drop_length] at op
  have : f = P21.opt m asks [] := by
    have z : P21.opt m ([] : List PySem.Str) K = 0 := rfl
    rw [z] at op
    exact op
  refine ⟨vars', ex, ?_⟩
  have e4 := ret_ok (so := so') (var_ok B.v3)
  rw [this] at e4
  rw [← hex]
  unfold m_best_kept
  rw [seq_ok e0, seq_ok e1]
  exact (seq_ok e3).trans e4
end K21
end
section
set_option Elab.async false
set_option linter.all false
set_option maxRecDepth 10000
set_option maxHeartbeats 4000000
namespace K21
open PySem EV
open L2 (Key atI ixN)
/-! ### the law's own best -/
theorem deep_tup (l : List PySem.Str) : deepOk (.tuple (strL l)) = true := (deepT (n := 5) (by decide) fun x hx => by
  obtain ⟨s, _, rfl⟩ := List.mem_map.mp hx
  exact ⟨rfl, by simp [PyData.depth]⟩).1
theorem in_tuple {l : List PySem.Str} {a : PySem.Str} {so : List SO} : dIn (.str a) (.tuple (strL l)) so = some (.bool (decide (a ∈ l)), so) := by
  have d := deep_tup l
  have e : deepOk (.str a) = true := rfl
  simp only [dIn, inGo, dref, d, e, and_self, if_true, any_strL]
  rfl
theorem max_cast : ∀ (l : List Nat) (n : Nat), ((l.map fun k : Nat => (k : Int)).foldl max (n : Int)) = ((P21.mxL (n :: l) : Nat) : Int)
  | [], n => by simp [P21.mxL]
  | x :: l, n => by
    rw [List.map_cons, List.foldl_cons]
    have : max (n : Int) (x : Int) = ((max n x : Nat) : Int) := by omega
    rw [this, max_cast l (max n x)]
    simp only [P21.mxL, List.foldr_cons]
    omega
theorem max_nats {so : List SO} {l : List Nat} (h : l ≠ []) : dMaxL [.list (l.map fun k : Nat => PyData.int (k : Nat))] so = some (.int (P21.mxL l : Nat), so) := by
  cases l with
  | nil => exact absurd rfl h
  | cons n l =>
    have := maxL_int (so := so) (n : Int) (l.map fun k : Nat => (k : Int))
    rw [max_cast] at this
    rw [← this, List.map_cons, List.map_cons, List.map_map]
    rfl
theorem add_tup {x y : List D} {so : List SO} (h : x.length + y.length ≤ mx) : dAdd (.tuple x) (.tuple y) so = some (.tuple (x ++ y), so) := by
  simp only [dAdd, if_pos h]
theorem law_best {asks : List PySem.Str} {m : Nat} (m1 : 1 ≤ m) (m9 : m ≤ 90) (al : asks.length ≤ 90) : ∀ (n place : Nat) (K : List PySem.Str) (so : List SO), WF so → asks.length - place < n → place ≤ asks.length → K.Nodup → K.length ≤ m →
    g_law_best n [.list (strL asks), .int (m : Nat), .tuple (strL K), .int (place : Nat)] so = .ok (.int (P21.opt m (asks.drop place) K : Nat)) so
  | 0, _, _, _, _, h, _, _, _ => absurd h (Nat.not_lt_zero _)
  | n + 1, place, K, so, hw, hn, hp, nd, kl => by
    have IH := law_best (asks := asks) m1 m9 al n
    suffices m_law_best (g_law_best n) ⟨[some (.list (strL asks)), some (.int (m : Nat)), some (.tuple (strL K)), some (.int (place : Nat)), none], so⟩ = .ok (.ret (.int (P21.opt m (asks.drop place) K : Nat))) ⟨[some (.list (strL asks)), some (.int (m : Nat)), some (.tuple (strL K)), some (.int (place : Nat)), none], so⟩ from
      fn_ret (N := N_law_best) (ds := [.list (strL asks), .int (m : Nat), .tuple (strL K), .int (place : Nat)]) this
    obtain ⟨vs, hvs⟩ : ∃ vs : List (Option D), vs = [some (.list (strL asks)), some (.int (m : Nat)), some (.tuple (strL K)), some (.int (place : Nat)), none] := ⟨_, rfl⟩
    have g0 : vs[0]? = some (some (.list (strL asks))) := by rw [hvs]; rfl
    have g1 : vs[1]? = some (some (.int (m : Nat))) := by rw [hvs]; rfl
    have g2 : vs[2]? = some (some (.tuple (strL K))) := by rw [hvs]; rfl
    have g3 : vs[3]? = some (some (.int (place : Nat))) := by rw [hvs]; rfl
    have vl : vs.length = 5 := by rw [hvs]; rfl
    rw [← hvs]
    have c1 : eB (eOp dEq (eVar 3) (eCB dLen (eCons (eVar 0) (eNil)))) ⟨vs, so⟩ = .ok (decide ((place : Int) = ((strL asks).length : Nat))) so := b_ok (op_ok (var_ok g3) (cb_ok (one_ok (var_ok g0)) len_l) (dEq_ii _ _))
    rw [List.length_map] at c1
    unfold m_law_best
    by_cases hend : place = asks.length
    · rw [decide_eq_true (by omega)] at c1
      rw [seq_ret ((if_t c1).trans (ret_ok c_ok)), hend, List.drop_length]
      rfl
    rw [decide_eq_false (by omega)] at c1
    have c1' : sIf (eB (eOp dEq (eVar 3) (eCB dLen (eCons (eVar 0) (eNil))))) (sRet (eC (.int 0))) (sNext) ⟨vs, so⟩ = .ok .nx ⟨vs, so⟩ := if_f c1
    rw [seq_ok c1']
    have hlt : place < asks.length := by omega
    obtain ⟨a, ha⟩ : ∃ a, asks[place] = a := ⟨_, rfl⟩
    have dr : asks.drop place = a :: asks.drop (place + 1) := by rw [List.drop_eq_getElem_cons hlt, ha]
    rw [dr]
    have ix : ∀ so, dIx (.list (strL asks)) (.int (place : Nat)) so = some (.str a, so) := fun so => ix_l (by simp [hlt, ha])
    have ixe : ∀ so, eOp dIx (eVar 0) (eVar 3) ⟨vs, so⟩ = .ok (.str a) so := fun so => op_ok (var_ok g0) (var_ok g3) (ix so)
    have pl : ∀ (vs : List (Option D)) so, vs[3]? = some (some (.int (place : Nat))) → eOp dAdd (eVar 3) (eC (.int 1)) ⟨vs, so⟩ = .ok (.int ((place + 1 : Nat))) so := fun vs so h => by
      have := op_ok (g := dAdd) (vars := vs) (so := so) (var_ok h) (c_ok (d := .int 1)) (dAdd_ii _ _)
      exact this
    have c2 : eB (eOp dIn (eOp dIx (eVar 0) (eVar 3)) (eVar 2)) ⟨vs, so⟩ = .ok (decide (a ∈ K)) so := b_ok (op_ok (ixe so) (var_ok g2) in_tuple)
    by_cases hk : a ∈ K
    · rw [decide_eq_true hk] at c2
      have ca := call_same (n := 4) (g := g_law_best n) (cons_ok (var_ok g0) (cons_ok (var_ok g1) (cons_ok (var_ok g2) (one_ok (pl vs so g3))))) rfl (IH (place + 1) K so hw (by omega) (by omega) nd kl) rfl
      have e := ret_ok (op_ok (g := dAdd) (c_ok (d := .int 1)) ca (dAdd_ii _ _))
      rw [seq_ret ((if_t c2).trans e), P21.opt_hit hk]
      congr 3
    rw [decide_eq_false hk] at c2
    have c2' : sIf (eB (eOp dIn (eOp dIx (eVar 0) (eVar 3)) (eVar 2))) (sRet (eOp dAdd (eC (.int 1)) (eCall 4 (g_law_best n) (eCons (eVar 0) (eCons (eVar 1) (eCons (eVar 2) (eCons (eOp dAdd (eVar 3) (eC (.int 1))) (eNil)))))))) (sNext) ⟨vs, so⟩ = .ok .nx ⟨vs, so⟩ := if_f c2
    rw [seq_ok c2']
    have c3 : eB (eOp dLt (eCB dLen (eCons (eVar 2) (eNil))) (eVar 1)) ⟨vs, so⟩ = .ok (decide (((strL K).length : Int) < (m : Nat))) so := b_ok (op_ok (cb_ok (one_ok (var_ok g2)) rfl) (var_ok g1) (dLt_ii _ _))
    rw [List.length_map] at c3
    have tupA : ∀ so, eTup (eCons (eOp dIx (eVar 0) (eVar 3)) (eNil)) ⟨vs, so⟩ = .ok (.tuple (strL [a])) so := fun so => tup_ok (one_ok (ixe so))
    by_cases hf : K.length < m
    · rw [decide_eq_true (by omega)] at c3
      have nd' : (K ++ [a]).Nodup := by
        rw [List.nodup_append]
        refine ⟨nd, by simp, ?_⟩
        intro x hx y hy
        rw [List.mem_singleton] at hy
        rw [hy]
        intro z
        rw [z] at hx
        exact hk hx
      have ih := IH (place + 1) (K ++ [a]) so hw (by omega) (by omega) nd' (by simp; omega)
      have ad : dAdd (.tuple (strL K)) (.tuple (strL [a])) so = some (.tuple (strL (K ++ [a])), so) := by
        rw [add_tup (by rw [List.length_map, List.length_map]; simp only [List.length_cons, List.length_nil]; unfold mx; omega), ← List.map_append]
      have ca := call_same (n := 4) (g := g_law_best n) (cons_ok (var_ok g0) (cons_ok (var_ok g1) (cons_ok (op_ok (var_ok g2) (tupA so) ad) (one_ok (pl vs so g3))))) rfl ih rfl
      rw [seq_ret ((if_t c3).trans (ret_ok ca)), P21.opt_add hk hf, P21.opt_perm m _ (List.perm_append_comm (l₁ := K) (l₂ := [a]))]
      rfl
    rw [decide_eq_false (by omega)] at c3
    have hfull : K.length = m := by omega
    have c3' : sIf (eB (eOp dLt (eCB dLen (eCons (eVar 2) (eNil))) (eVar 1))) (sRet (eCall 4 (g_law_best n) (eCons (eVar 0) (eCons (eVar 1) (eCons (eOp dAdd (eVar 2) (eTup (eCons (eOp dIx (eVar 0) (eVar 3)) (eNil)))) (eCons (eOp dAdd (eVar 3) (eC (.int 1))) (eNil))))))) (sNext) ⟨vs, so⟩ = .ok .nx ⟨vs, so⟩ := if_f c3
    rw [seq_ok c3']
    have len2 : eCB dLen (eCons (eVar 2) (eNil)) ⟨vs, so⟩ = .ok (.int (K.length : Nat)) so := by
      have := cb_ok (g := dLen) (so := so) (d := .int ((strL K).length : Nat)) (so2 := so) (one_ok (var_ok g2)) rfl
      rw [List.length_map] at this
      exact this
    have vv : ∀ k : Nat, ((wipeD vs [4]).set 4 (some (.int (k : Nat))))[4]? = some (some (.int (k : Nat))) ∧ ∀ i, i ≠ 4 → ((wipeD vs [4]).set 4 (some (PyData.int (k : Nat))))[i]? = vs[i]? := fun k => by
      refine ⟨wv (by omega), fun i hi => ?_⟩
      rw [List.getElem?_set_ne (Ne.symm hi)]
      show (vs.set 4 none)[i]? = _
      rw [List.getElem?_set_ne (Ne.symm hi)]
    have q := lc_rngW (g := tName 4) (t := tTrue) (e := eCall 4 (g_law_best n) (eCons (eVar 0) (eCons (eVar 1) (eCons (eOp dAdd (eOp dAdd (eSl (eVar 2) (oNone) (oSome (eVar 4))) (eSl (eVar 2) (oSome (eOp dAdd (eVar 4) (eC (.int 1)))) (oNone))) (eTup (eCons (eOp dIx (eVar 0) (eVar 3)) (eNil)))) (eCons (eOp dAdd (eVar 3) (eC (.int 1))) (eNil)))))) (vs := [4])
      (lo := 0) (n := K.length) (vv := fun k => (wipeD vs [4]).set 4 (some (.int (k : Nat)))) (p := fun _ => true) (φ := fun k => .int (P21.opt m (asks.drop (place + 1)) (K.eraseIdx k ++ [a]) : Nat)) hw (rng1_ok len2 (by unfold mx; omega)) (by unfold mx; omega)
      (fun k hk acc => by simp [tName])
      (fun k hk acc _ => rfl)
      (fun k hkl _ acc wA => by
        obtain ⟨w4, ws⟩ := vv k
        have w0 := (ws 0 (by decide)).trans g0
        have w1 := (ws 1 (by decide)).trans g1
        have w2 := (ws 2 (by decide)).trans g2
        have w3 := (ws 3 (by decide)).trans g3
        obtain ⟨S, hS⟩ : ∃ S, S = so ++ [SO.lst acc] := ⟨_, rfl⟩
        rw [← hS] at wA ⊢
        have nd' : (K.eraseIdx k ++ [a]).Nodup := by
          rw [List.nodup_append]
          refine ⟨nd.sublist (List.eraseIdx_sublist _ _), by simp, ?_⟩
          intro x hx y hy
          rw [List.mem_singleton] at hy
          rw [hy]
          intro z
          rw [z] at hx
          exact hk (List.mem_of_mem_eraseIdx hx)
        have le := List.length_eraseIdx_of_lt hkl
        have ih := IH (place + 1) (K.eraseIdx k ++ [a]) S wA (by omega) (by omega) nd' (by simp; omega)
        have s1 : dSl (.tuple (strL K)) none (some (k : Int)) S = some (.tuple (strL (K.take k)), S) := by
          simp only [dSl]
          rw [cut_take, ← List.map_take]
        have s2 : dSl (.tuple (strL K)) (some ((k : Int) + 1)) none S = some (.tuple (strL (K.drop (k + 1))), S) := by
          simp only [dSl]
          rw [show ((k : Int) + 1) = ((k + 1 : Nat) : Int) by omega, cut_drop, ← List.map_drop]
        have a1 : dAdd (.tuple (strL (K.take k))) (.tuple (strL (K.drop (k + 1)))) S = some (.tuple (strL (K.eraseIdx k)), S) := by
          rw [add_tup (by rw [List.length_map, List.length_map, List.length_take, List.length_drop]; unfold mx; omega), ← List.map_append, take_drop_erase]
        have a2 : dAdd (.tuple (strL (K.eraseIdx k))) (.tuple (strL [a])) S = some (.tuple (strL (K.eraseIdx k ++ [a])), S) := by
          rw [add_tup (by rw [List.length_map, List.length_map]; simp only [List.length_cons, List.length_nil]; unfold mx; omega), ← List.map_append]
        have ixw : eOp dIx (eVar 0) (eVar 3) ⟨(wipeD vs [4]).set 4 (some (.int (k : Nat))), S⟩ = .ok (.str a) S := op_ok (var_ok w0) (var_ok w3) (ix S)
        exact call_same (n := 4) (g := g_law_best n) (cons_ok (var_ok w0) (cons_ok (var_ok w1) (cons_ok (op_ok (op_ok (sl_ok (var_ok w2) onone_ok (osome_ok (var_ok w4)) s1) (sl_ok (var_ok w2) (osome_ok (op_ok (var_ok w4) c_ok rfl)) onone_ok s2) a1) (tup_ok (one_ok ixw)) a2) (one_ok (pl _ _ w3))))) rfl ih rfl)
      (fun k _ => rfl)
    rw [filt_true] at q
    have mxx : dMaxL [.list ((List.range K.length).map fun k => PyData.int (P21.opt m (asks.drop (place + 1)) (K.eraseIdx k ++ [a]) : Nat))] so = some (.int (P21.opt m (a :: asks.drop (place + 1)) K : Nat), so) := by
      rw [P21.opt_max nd hk hfull]
      have := max_nats (so := so) (l := (List.range K.length).map fun k => P21.opt m (asks.drop (place + 1)) (K.eraseIdx k ++ [a])) (by
        intro z
        have := congrArg List.length z
        simp at this
        rw [this] at hfull
        simp at hfull
        omega)
      rw [List.map_map] at this
      exact this
    exact ret_ok (cb_ok (one_ok q) mxx)
end K21
end
section
set_option Elab.async false
set_option linter.all false
set_option maxRecDepth 10000
set_option maxHeartbeats 4000000
namespace K21
open PySem EV
open L2 (Key atI ixN)
/-! ### lasting_kept -/
def rowsOf (K : List PySem.Str) : List Row := K.map fun k => (k, 0, 1, 1)
theorem keys_of (K : List PySem.Str) : keys (rowsOf K) = K := by
  unfold keys rowsOf
  rw [List.map_map]
  exact List.map_id K
theorem find_of (K : List PySem.Str) (a : PySem.Str) : (rowsOf K).find? (fun r => decide (r.1 = a)) = if a ∈ K then some (a, 0, 1, 1) else none := by
  induction K with
  | nil => rfl
  | cons x K ih =>
    unfold rowsOf at *
    rw [List.map_cons, List.find?_cons]
    by_cases h : x = a
    · subst h; simp
    · simp only [h, decide_false]
      rw [ih]
      simp [Ne.symm h]
theorem filter_of (K : List PySem.Str) (a : PySem.Str) : (rowsOf K).filter (fun r => decide (r.1 ≠ a)) = rowsOf (K.filter fun x => decide (x ≠ a)) := by
  unfold rowsOf
  rw [List.filter_map]
  rfl
theorem filter_erase {K : List PySem.Str} (h : K.Nodup) (a : PySem.Str) : (K.filter fun x => decide (x ≠ a)) = K.erase a := by
  rw [h.erase_eq_filter]
  apply List.filter_congr
  intro x _
  by_cases hx : x = a <;> simp [hx]
theorem got_of {K : List PySem.Str} {a : PySem.Str} : gotV (rowsOf K) a 0 = if a ∈ K then some (a, 0, 1, 1) else none := by
  unfold gotV
  rw [find_of]
  split <;> rfl
theorem gotR_of {K : List PySem.Str} (h : K.Nodup) {a : PySem.Str} : gotR (rowsOf K) a 0 = rowsOf (if a ∈ K then K.erase a ++ [a] else K) := by
  unfold gotR
  rw [got_of, filter_of, filter_erase h]
  by_cases ha : a ∈ K
  · rw [if_pos ha, if_pos ha]
    simp [rowsOf]
  · rw [if_neg ha, if_neg ha, List.erase_of_not_mem ha]
    simp
theorem putR_of {K : List PySem.Str} {a : PySem.Str} {m : Nat} (ha : a ∉ K) : putR (m : Nat) (rowsOf K) (a, 0, 1, 1) = rowsOf ((K ++ [a]).drop ((K ++ [a]).length - m)) := by
  unfold putR
  have : (rowsOf K).filter (fun x => decide (x.1 ≠ a)) = rowsOf K := by
    rw [filter_of]
    congr 1
    rw [List.filter_eq_self]
    intro x hx
    have : x ≠ a := fun z => ha (z ▸ hx)
    simpa using this
  simp only [this]
  have e : rowsOf K ++ [(a, 0, 1, 1)] = rowsOf (K ++ [a]) := by simp [rowsOf]
  rw [e]
  unfold rowsOf
  rw [← List.map_drop, List.length_map, Int.toNat_natCast]
def hits (m : Nat) (asks : List PySem.Str) (i : Nat) : Nat := ((List.range i).filter fun k => decide (asks.getD k "" ∈ P21.lru m (asks.take k))).length
theorem hits_succ (m : Nat) (asks : List PySem.Str) (i : Nat) : hits m asks (i + 1) = hits m asks i + if asks.getD i "" ∈ P21.lru m (asks.take i) then 1 else 0 := by
  unfold hits
  rw [List.range_succ, List.filter_append, List.length_append]
  congr 1
  by_cases h : asks.getD i "" ∈ P21.lru m (asks.take i)
  · rw [if_pos h, List.filter_cons_of_pos (by simpa using h)]; rfl
  · rw [if_neg h, List.filter_cons_of_neg (by simpa using h)]; rfl
structure LI (st : EV.St) (so0 : List SO) (asks : List PySem.Str) (m i : Nat) : Prop where
  len : st.vars.length = 4
  v2 : st.vars[2]? = some (some (rf so0.length))
  sl : st.so.length = so0.length + 2
  same : ∀ k, k < so0.length → st.so[k]? = so0[k]?
  kp : ∃ b c, Keep st.so so0.length (so0.length + 1) (m : Nat) (hits m asks i : Nat) b c (rowsOf (P21.lru m (asks.take i)))
  wf : WF st.so
  op : hits m asks i + P21.opt m (asks.drop i) (P21.lru m (asks.take i)) ≤ P21.opt m asks []
def lkB : MS := sIf (eB (eOp dIsN (eMeth 0 3 "get" g_AnswerKeep_get (eVar 2) (eCons (eVar 3) (eCons (eC (.int 0)) (eNil)))) (eC .none))) (sExpr (eMeth 0 5 "put" g_AnswerKeep_put (eVar 2) (eCons (eVar 3) (eCons (eC (.int 0)) (eCons (eC (.int 1)) (eCons (eC (.int 1)) (eNil))))))) (sNext)
theorem take_snoc {l : List PySem.Str} {i : Nat} {a : PySem.Str} (h : l[i]? = some a) : l.take (i + 1) = l.take i ++ [a] := by
  obtain ⟨hi, e⟩ := List.getElem?_eq_some_iff.mp h
  rw [List.take_succ_eq_append_getElem hi, e]
theorem lkB_ok {vars : List (Option D)} {so so0 : List SO} {asks : List PySem.Str} {m i : Nat} (h : LI ⟨vars, so⟩ so0 asks m i) (m1 : 1 ≤ m) (m9 : m ≤ 90) {a : PySem.Str} (ha : asks[i]? = some a) :
    ∃ st', lkB ⟨vars.set 3 (some (.str a)), so⟩ = .ok .nx st' ∧ LI st' so0 asks m (i + 1) := by
  obtain ⟨hi, ea⟩ := List.getElem?_eq_some_iff.mp ha
  have dr : asks.drop i = a :: asks.drop (i + 1) := by rw [List.drop_eq_getElem_cons hi, ea]
  have gd : asks.getD i "" = a := by rw [List.getD_eq_getElem?_getD, ha]; rfl
  have hl : vars.length = 4 := h.len
  have v2 := h.v2
  have op := h.op
  have sl := h.sl
  simp only [] at v2 sl
  obtain ⟨b, c, kp⟩ := h.kp
  have hs := hits_succ m asks i
  have ls := P21.lru_snoc m1 (asks.take i) a
  have lnd := P21.lru_nd m (asks.take i)
  have ll := P21.lru_len m (asks.take i)
  rw [gd] at hs
  rw [dr] at op
  rw [← take_snoc ha] at ls
  generalize hK : P21.lru m (asks.take i) = K at *
  obtain ⟨vs, hvs⟩ : ∃ vs, vs = vars.set 3 (some (PyData.str a)) := ⟨_, rfl⟩
  have vl : vs.length = 4 := by rw [hvs]; simpa using hl
  have g2 : vs[2]? = some (some (rf so0.length)) := by rw [hvs]; ((repeat rw [List.getElem?_set_ne (by decide)]); first | (rw [List.getElem?_set_self (by (try simp only [List.length_set]); omega)]; done) | assumption)
  have g3 : vs[3]? = some (some (.str a)) := by rw [hvs]; ((repeat rw [List.getElem?_set_ne (by decide)]); first | (rw [List.getElem?_set_self (by (try simp only [List.length_set]); omega)]; done) | assumption)
  rw [← hvs]
  have rl : (rowsOf K).length = K.length := by unfold rowsOf; rw [List.length_map]
  obtain ⟨so1, e1, ch, kp1⟩ := keep_get kp h.wf (by rw [keys_of]; exact lnd) (by rw [rl]; omega) a 0
  rw [got_of] at e1 kp1
  rw [gotR_of lnd] at kp1
  have q1 : eMeth 0 3 "get" g_AnswerKeep_get (eVar 2) (eCons (eVar 3) (eCons (eC (.int 0)) (eNil))) ⟨vs, so⟩ = _ := meth_same (var_ok g2) (is_keep (nm := "get") kp.o rfl) (two_ok (var_ok g3) (c_ok (d := .int 0))) rfl e1 ch.len
  have same1 : ∀ k, k < so0.length → so1[k]? = so0[k]? := fun k hk => (ch.same k (by omega) (by omega)).trans (h.same k hk)
  by_cases hk : a ∈ K
  · simp only [if_pos hk] at q1 kp1 hs
    have lstep : P21.lruStep m K a = K.erase a ++ [a] := by unfold P21.lruStep; rw [if_pos hk]
    rw [lstep] at ls
    have c1 : eB (eOp dIsN (eMeth 0 3 "get" g_AnswerKeep_get (eVar 2) (eCons (eVar 3) (eCons (eC (.int 0)) (eNil)))) (eC .none)) ⟨vs, so⟩ = .ok false so1 := b_ok (op_ok q1 c_ok rfl)
    refine ⟨⟨vs, so1⟩, ?_, ⟨vl, g2, ch.len.trans sl, same1, ⟨b, c + 1, ?_⟩, ch.wf, ?_⟩⟩
    · unfold lkB
      rw [if_f c1]
      rfl
    · rw [ls, hs]
      exact kp1
    · have := P21.opt_hit_le (many := m) (s := asks.drop (i + 1)) hk
      rw [ls, hs]
      omega
  · simp only [if_neg hk] at q1 kp1 hs
    have lstep : P21.lruStep m K a = (K ++ [a]).drop ((K ++ [a]).length - m) := by unfold P21.lruStep; rw [if_neg hk]
    rw [lstep] at ls
    have c1 : eB (eOp dIsN (eMeth 0 3 "get" g_AnswerKeep_get (eVar 2) (eCons (eVar 3) (eCons (eC (.int 0)) (eNil)))) (eC .none)) ⟨vs, so⟩ = .ok true so1 := b_ok (op_ok q1 c_ok rfl)
    obtain ⟨base, ex, e2, bl, bw, bs, bk⟩ := keep_put kp1 ch.wf (by rw [keys_of]; exact lnd) (by omega) (by rw [rl]; omega) (by omega) (a, 0, 1, 1) (by show (0 : Int) ≤ 1; decide)
    rw [putR_of hk, ← ls] at bk
    have lp : lim so1.length (.tuple ((goneR (m : Nat) (rowsOf K) (a, 0, 1, 1)).map fun r => .str r.1)) = true := by
      refine lim_plain _ ?_
      unfold PyData.plain
      exact plainAll_of fun y hy => by
        obtain ⟨z, _, rfl⟩ := List.mem_map.mp hy
        rfl
    have q2 : eMeth 0 5 "put" g_AnswerKeep_put (eVar 2) (eCons (eVar 3) (eCons (eC (.int 0)) (eCons (eC (.int 1)) (eCons (eC (.int 1)) (eNil))))) ⟨vs, so1⟩ = _ :=
      meth_app (var_ok g2) (is_keep (nm := "put") kp1.o rfl) (cons_ok (var_ok g3) (cons_ok c_ok (two_ok c_ok c_ok))) rfl e2 bl bw lp
    refine ⟨⟨vs, base⟩, ?_, ⟨vl, g2, ?_, ?_, ⟨b + 1, c, ?_⟩, bw, ?_⟩⟩
    · unfold lkB
      rw [if_t c1]
      exact expr_ok q2
    · show base.length = _
      rw [bl, ch.len]; exact sl
    · intro k hk'
      exact (bs k (by omega)).trans (same1 k hk')
    · rw [hs]
      exact bk
    · rw [hs, ls]
      by_cases hf : K.length < m
      · have z : (K ++ [a]).length - m = 0 := by simp; omega
        rw [z]
        have := P21.opt_add_le (s := asks.drop (i + 1)) hk hf
        simp only [List.drop_zero]
        omega
      · have z : (K ++ [a]).length - m = 1 := by simp; omega
        rw [z]
        cases K with
        | nil => simp at hf; omega
        | cons y K' =>
          have := P21.opt_go_le (many := m) (s := asks.drop (i + 1)) hk (by omega)
          simp only [List.cons_append, List.drop_succ_cons, List.drop_zero]
          omega
theorem app_of {so so' : List SO} (hl : so.length ≤ so'.length) (h : ∀ k, k < so.length → so'[k]? = so[k]?) : so' = so ++ so'.drop so.length := by
  apply List.ext_getElem?
  intro k
  by_cases hk : k < so.length
  · rw [List.getElem?_append_left hk, h k hk]
  · rw [List.getElem?_append_right (by omega), List.getElem?_drop]
    congr 1
    omega
theorem lasting_kept {asks : List PySem.Str} {m : Nat} {so : List SO} (hw : WF so) (m1 : 1 ≤ m) (m9 : m ≤ 90) (al : asks.length ≤ 90) : (∃ ex, g_lasting_kept [.list (strL asks), .int (m : Nat)] so = .ok (.int (hits m asks asks.length : Nat)) (so ++ ex)) ∧ hits m asks asks.length ≤ P21.opt m asks [] := by
  suffices (∃ vars' ex, m_lasting_kept ⟨[some (.list (strL asks)), some (.int (m : Nat)), none, none], so⟩ = .ok (.ret (.int (hits m asks asks.length : Nat))) ⟨vars', so ++ ex⟩) ∧ hits m asks asks.length ≤ P21.opt m asks [] by
    obtain ⟨⟨vars', ex, e⟩, hh⟩ := this
    exact ⟨⟨ex, fn_ret (N := N_lasting_kept) (ds := [.list (strL asks), .int (m : Nat)]) e⟩, hh⟩
  have e1 := asgN (i := 2) (make_keep (f := eVar 1) (vars := [some (.list (strL asks)), some (.int (m : Nat)), none, none]) (so := so) (var_ok rfl) (by omega))
  let vs : List (Option D) := [some (.list (strL asks)), some (.int (m : Nat)), some (rf so.length), none]
  obtain ⟨S, hS⟩ : ∃ S, S = so ++ [SO.ins 0 (keepF (m : Nat) (so.length + 1) 0 0 0), .dct []] := ⟨_, rfl⟩
  have z0 : P21.lru m (asks.take 0) = [] := by simp [P21.lru, P21.rec]
  have L0 : LI ⟨vs, S⟩ so asks m 0 := ⟨rfl, rfl, by rw [hS]; simp, fun k hk => by rw [hS]; exact List.getElem?_append_left hk, ⟨0, 0, by rw [hS, z0]; exact keep_new⟩, by rw [hS]; exact wf_new hw, by
    rw [z0]
    simp [hits]⟩
  rw [← hS] at e1
  have it : iIt (eVar 0) ⟨vs, S⟩ = .ok (.seq (.fz (strL asks))) S := it_lst (var_ok rfl)
  have ff := for_ok (g := tName 3) (b := lkB) it
  obtain ⟨st', e2, B⟩ := forGo_all (g := tName 3) (b := lkB) (it := .seq (.fz (strL asks))) (items := strL asks) (fun i st => LI st so asks m i)
    (fun i st _ => rfl)
    (fun i d st hd hB => by
      obtain ⟨vars, so1⟩ := st
      rw [List.getElem?_map] at hd
      cases ha : asks[i]? with
      | none => rw [ha] at hd; cases hd
      | some a =>
        rw [ha] at hd
        cases hd
        obtain ⟨st', e, B'⟩ := lkB_ok hB m1 m9 ha
        exact ⟨_, st', rfl, .inl e, B'⟩) (fuelI (.seq (.fz (strL asks))) S) 0 ⟨vs, S⟩ (by simp [fuelI, getS]) (by omega) L0
  have e3 := ff.trans e2
  obtain ⟨vars', so'⟩ := st'
  rw [List.length_map] at B
  have op := B.op
  obtain ⟨b, c, kp⟩ := B.kp
  refine ⟨⟨vars', so'.drop so.length, ?_⟩, by omega⟩
  have hso : so' = so ++ so'.drop so.length := app_of (by have := B.sl; simp only [] at this; omega) B.same
  have e4 := ret_ok (so := so') (fld_ok (k := 2) (nm := "had") (var_ok B.v2) kp.o lk_had)
  rw [← hso]
  unfold m_lasting_kept
  rw [seq_ok e1]
  exact (seq_ok e3).trans e4
end K21
end
section
set_option Elab.async false
set_option linter.all false
set_option maxRecDepth 10000
set_option maxHeartbeats 4000000
namespace K21
open PySem EV
open L2 (Key atI ixN)
/-! ### behind the first loop -/
structure M2 (vars : List (Option D)) (so : List SO) : Prop where
  len : vars.length = 27
  v1 : vars[1]? = some (some (rf 1))
  dice : Di so 1
  wf : WF so
theorem M2.name {vars : List (Option D)} {so : List SO} (h : M2 vars so) {i : Nat} {d : Option D} (hi : 2 ≤ i) : M2 (vars.set i d) so :=
  ⟨by simpa using h.len, by rw [List.getElem?_set_ne (by omega)]; exact h.v1, h.dice, h.wf⟩
theorem M2.roll {vars : List (Option D)} {so : List SO} (h : M2 vars so) {o : SO} (ho : isDi o) : M2 vars (so.set 1 o) := ⟨h.len, h.v1, h.dice.set ho, h.wf.set ho.lim⟩
theorem Di.lt {so : List SO} {j : Nat} (h : Di so j) : j < so.length := by
  obtain ⟨o, ho, _⟩ := h
  exact (List.getElem?_eq_some_iff.mp ho).1
def askE : M D := eOp dIx (eC (.str "abcd")) (eCall 2 (g_law_roll 3) (eCons (eVar 1) (eCons (eC (.int 4)) (eNil))))
theorem ask_go {vars : List (Option D)} {n : Nat} {n0 : Nat} (hl : vars.length = 27) (v1 : vars[1]? = some (some (rf 1))) (hn : n ≤ 8) : ∀ (mm i : Nat) (acc : List PySem.Str) (S : List SO), S.length = n0 → Di S 1 → n - i < mm → i ≤ n → acc.length ≤ i →
    ∃ o ys, isDi o ∧ ys.length = n - i ∧ (∀ y ∈ ys, PySem.Str.length y = 1) ∧ lcGo (tName 23) tTrue askE (.rng 0 n) [23] vars n0 mm i (S ++ [SO.lst (strL acc)]) = some (S.set 1 o ++ [SO.lst (strL (acc ++ ys))])
  | 0, _, _, _, _, _, h, _, _ => absurd h (Nat.not_lt_zero _)
  | mm + 1, i, acc, S, hS, hd, h, hi, ha => by
    unfold lcGo nextI
    by_cases hin : i < n
    · simp only [if_pos hin, tName]
      have hd' : Di (S ++ [SO.lst (strL acc)]) 1 := by
        obtain ⟨o, ho, io⟩ := hd
        exact ⟨o, app_get ho, io⟩
      have w1 : ((wipeD vars [23]).set 23 (some (PyData.int ((0 : Int) + i))))[1]? = some (some (rf 1)) := wo (by decide) v1
      obtain ⟨v, o, a1, b1, io, e⟩ := roll_call (n := 4) hd' w1 (by decide) (by decide)
      obtain ⟨c, _, ix⟩ := sign_ok (z := "abcd") (v := v) (so := (S ++ [SO.lst (strL acc)]).set 1 o) a1 (by show v < 4; exact b1) (by decide)
      have ee : askE ⟨(wipeD vars [23]).set 23 (some (PyData.int ((0 : Int) + i))), S ++ [SO.lst (strL acc)]⟩ = .ok (.str ⟨#[c]⟩) ((S ++ [SO.lst (strL acc)]).set 1 o) := op_ok c_ok e ix
      have st1 : (S ++ [SO.lst (strL acc)]).set 1 o = S.set 1 o ++ [SO.lst (strL acc)] := List.set_append_left _ _ hd.lt
      rw [st1] at ee
      have tt : ∀ st, tTrue st = .ok true st.so := fun st => rfl
      have g0 : (S.set 1 o ++ [SO.lst (strL acc)])[n0]? = some (SO.lst (strL acc)) := by rw [← hS]; have := app_last (so := S.set 1 o) (o := SO.lst (strL acc)); rwa [List.length_set] at this
      have g1 : (S.set 1 o ++ [SO.lst (strL acc)]).set n0 (.lst (strL acc ++ [.str ⟨#[c]⟩])) = S.set 1 o ++ [SO.lst (strL (acc ++ [⟨#[c]⟩]))] := by
        rw [set_app (by rw [List.length_set]; omega)]
        simp [hS]
      have lt : (strL acc).length < mx := by rw [List.length_map]; unfold mx; omega
      obtain ⟨o2, ys, io2, ly, hy, e2⟩ := ask_go (n0 := n0) hl v1 hn mm (i + 1) (acc ++ [⟨#[c]⟩]) (S.set 1 o) (by rw [List.length_set]; exact hS) (hd.set io) (by omega) hin (by simp <;> omega)
      refine ⟨o2, ⟨#[c]⟩ :: ys, io2, by simp; omega, ?_, ?_⟩
      · intro y hy'
        rcases List.mem_cons.mp hy' with rfl | hy'
        · rfl
        · exact hy y hy'
      · simp only [tt, ee, g0, if_pos lt, g1, e2]
        rw [List.set_set, List.append_assoc]
        rfl
    · obtain ⟨o, ho, io⟩ := hd
      refine ⟨o, [], io, by simp; omega, by simp, ?_⟩
      rw [set_set_self ho, List.append_nil]
      simp only [hin, if_false]
def sA : MS := sAsg (eLc false (EV.iRng1 (eCall 2 (g_law_roll 3) (eCons (eVar 1) (eCons (eC (.int 9)) (eNil))))) (tName 23) (tTrue) askE [23]) (tName 12)
theorem sA_ok {vars : List (Option D)} {so : List SO} (h : M2 vars so) : ∃ asks o, isDi o ∧ asks.length ≤ 8 ∧ (∀ y ∈ asks, PySem.Str.length y = 1) ∧ sA ⟨vars, so⟩ = .ok .nx ⟨vars.set 12 (some (.list (strL asks))), so.set 1 o⟩ := by
  obtain ⟨v, o, a1, b1, io, e⟩ := roll_call (n := 9) h.dice h.v1 (by decide) (by decide)
  obtain ⟨n, rfl⟩ : ∃ n : Nat, v = n := ⟨v.toNat, by omega⟩
  have h1 := h.roll io
  obtain ⟨S, hS⟩ : ∃ S, S = so.set 1 o := ⟨_, rfl⟩
  rw [← hS] at e h1
  obtain ⟨o2, ys, io2, ly, hy, e2⟩ := ask_go (n := n) (n0 := S.length) h.len h.v1 (by omega) (fuelI (.rng 0 n) S) 0 [] S rfl h1.dice (by simp [fuelI]) (by omega) (by simp)
  refine ⟨ys, o2, io2, by omega, hy, ?_⟩
  have hl : eLc false (EV.iRng1 (eCall 2 (g_law_roll 3) (eCons (eVar 1) (eCons (eC (.int 9)) (eNil))))) (tName 23) (tTrue) askE [23] ⟨vars, so⟩ = .ok (.list (strL ys)) (S.set 1 o2) := by
    unfold eLc
    rw [bnd_ok (rng1_ok e (by unfold mx; omega))]
    have e2' : lcGo (tName 23) tTrue askE (.rng 0 n) [23] vars S.length (fuelI (.rng 0 n) S) 0 (S ++ [.lst []]) = some (S.set 1 o2 ++ [SO.lst (strL ys)]) := e2
    simp only [e2']
    unfold lcEnd
    have q : (S.set 1 o2 ++ [SO.lst (strL ys)])[S.length]? = some (.lst (strL ys)) := by have := app_last (so := S.set 1 o2) (o := SO.lst (strL ys)); rwa [List.length_set] at this
    have q2 : (S.set 1 o2 ++ [SO.lst (strL ys)]).set S.length .dead = S.set 1 o2 ++ [.dead] := by rw [set_app (by simp)]; simp
    simp only [q, q2]
    exact gc_cut (by simp) (h1.wf.set io2.lim) (by unfold lim; exact lims_strL _ _)
  have := asgN (i := 12) hl
  rw [hS, List.set_set] at this
  exact this
def sB : MS := sAsg (eOp dAdd (eC (.int 1)) (eCall 2 (g_law_roll 3) (eCons (eVar 1) (eCons (eC (.int 3)) (eNil))))) (tName 13)
theorem sB_ok {vars : List (Option D)} {so : List SO} (h : M2 vars so) : ∃ (m : Nat) (o : SO), 1 ≤ m ∧ m ≤ 3 ∧ isDi o ∧ sB ⟨vars, so⟩ = .ok .nx ⟨vars.set 13 (some (.int (m : Nat))), so.set 1 o⟩ := by
  obtain ⟨v, o, a1, b1, io, e⟩ := roll_call (n := 3) h.dice h.v1 (by decide) (by decide)
  obtain ⟨n, rfl⟩ : ∃ n : Nat, v = n := ⟨v.toNat, by omega⟩
  refine ⟨1 + n, o, by omega, by omega, io, ?_⟩
  have := asgN (i := 13) (op_ok (c_ok (d := .int 1)) e (dAdd_ii _ _))
  exact this
/-! ### best, lasting -/
structure M3 (vars : List (Option D)) (so : List SO) (asks : List PySem.Str) (m : Nat) : Prop where
  b : M2 vars so
  v12 : vars[12]? = some (some (.list (strL asks)))
  v13 : vars[13]? = some (some (.int (m : Nat)))
  al : asks.length ≤ 8
  a1 : ∀ y ∈ asks, PySem.Str.length y = 1
  m1 : 1 ≤ m
  m3 : m ≤ 3
def bestE : M D := eCall 2 g_best_kept (eCons (eVar 12) (eCons (eVar 13) (eNil)))
def lastE : M D := eCall 2 g_lasting_kept (eCons (eVar 12) (eCons (eVar 13) (eNil)))
theorem best_c {vars : List (Option D)} {so : List SO} {asks : List PySem.Str} {m : Nat} (h : M3 vars so asks m) : bestE ⟨vars, so⟩ = .ok (.int (P21.opt m asks [] : Nat)) so := by
  have al := h.al
  have m3 := h.m3
  obtain ⟨ex, e⟩ := best_kept h.b.wf h.m1 (by omega) (by omega : asks.length ≤ 90)
  exact call_app (two_ok (var_ok h.v12) (var_ok h.v13)) rfl e rfl h.b.wf rfl
theorem last_c {vars : List (Option D)} {so : List SO} {asks : List PySem.Str} {m : Nat} (h : M3 vars so asks m) : lastE ⟨vars, so⟩ = .ok (.int (hits m asks asks.length : Nat)) so := by
  have al := h.al
  have m3 := h.m3
  obtain ⟨⟨ex, e⟩, _⟩ := lasting_kept h.b.wf h.m1 (by omega) (by omega : asks.length ≤ 90)
  exact call_app (two_ok (var_ok h.v12) (var_ok h.v13)) rfl e rfl h.b.wf rfl
def sC : MS := sIf (mOr (eB (eOp dNe bestE (eCall 4 (g_law_best 10) (eCons (eVar 12) (eCons (eVar 13) (eCons (eTup (eNil)) (eCons (eC (.int 0)) (eNil)))))))) (eB (eOp dGt lastE bestE))) (sRet (eC (.bool false))) (sNext)
theorem sC_ok {vars : List (Option D)} {so : List SO} {asks : List PySem.Str} {m : Nat} (h : M3 vars so asks m) : sC ⟨vars, so⟩ = .ok .nx ⟨vars, so⟩ := by
  have al := h.al
  have m3 := h.m3
  have lb := law_best h.m1 (by omega) (by omega : asks.length ≤ 90) 10 0 [] so h.b.wf (by omega) (by omega) List.nodup_nil (by simp)
  have q1 : eCall 4 (g_law_best 10) (eCons (eVar 12) (eCons (eVar 13) (eCons (eTup (eNil)) (eCons (eC (.int 0)) (eNil))))) ⟨vars, so⟩ = _ := call_same (cons_ok (var_ok h.v12) (cons_ok (var_ok h.v13) (two_ok (tup_ok nil_ok) c_ok))) rfl lb rfl
  obtain ⟨_, hh⟩ := lasting_kept h.b.wf h.m1 (by omega) (by omega : asks.length ≤ 90)
  have q2 : eB (eOp dGt lastE bestE) ⟨vars, so⟩ = .ok (decide (((P21.opt m asks [] : Nat) : Int) < (hits m asks asks.length : Nat))) so := b_ok (op_ok (last_c h) (best_c h) (dGt_ii _ _))
  rw [decide_eq_false (by omega)] at q2
  exact if_f (or_ok (b_ok (op_ok (best_c h) q1 (dNe_same rfl))) q2)
end K21
end
section
set_option Elab.async false
set_option linter.all false
set_option maxRecDepth 10000
set_option maxHeartbeats 4000000
namespace EV
open PySem
/-- a comprehension over range(n) whose parts make things that are let go -/
theorem lcGo_ex {g : MT} {t : M Bool} {e : M D} {vs : List Nat} {vars : List (Option D)} {S : List SO} {lo : Int} {n : Nat} {vv : Nat → List (Option D)} {p : Nat → Bool} {φ : Nat → D} (hlen : n < mx)
    (hg : ∀ k < n, ∀ T, g (.int (lo + (k : Nat))) ⟨wipeD vars vs, T⟩ = .ok ⟨vv k, T⟩) (ht : ∀ k < n, ∀ T, WF T → t ⟨vv k, T⟩ = .ok (p k) T)
    (he : ∀ k < n, p k = true → ∀ T, WF T → ∃ ex, e ⟨vv k, T⟩ = .ok (φ k) (T ++ ex) ∧ WF (T ++ ex)) (hl : ∀ k < n, (φ k).plain = true) :
    ∀ (m i : Nat) (acc : List D) (ex : List SO), WF (S ++ .lst acc :: ex) → lims 0 acc = true → n - i < m → i ≤ n → acc.length ≤ i → ∃ ex', lcGo g t e (.rng lo n) vs vars S.length m i (S ++ .lst acc :: ex) = some (S ++ .lst (acc ++ (((List.range n).drop i).filter p).map φ) :: ex')
  | 0, _, _, _, _, _, h, _, _ => absurd h (Nat.not_lt_zero _)
  | m + 1, i, acc, ex, hw, hc, h, hi, ha => by
    unfold lcGo nextI
    by_cases hin : i < n
    · have dr : (List.range n).drop i = i :: (List.range n).drop (i + 1) := by
        rw [List.drop_eq_getElem_cons (by simpa using hin)]
        simp
      simp only [if_pos hin, hg i hin, ht i hin _ hw]
      cases hp : p i with
      | false =>
        simp only []
        obtain ⟨ex', q⟩ := lcGo_ex (S := S) hlen hg ht he hl m (i + 1) acc ex hw hc (by omega) hin (by omega)
        refine ⟨ex', ?_⟩
        rw [q, dr]
        simp [hp]
      | true =>
        obtain ⟨ex1, q1, w1⟩ := he i hin hp _ hw
        have l1 : (S ++ SO.lst acc :: ex ++ ex1)[S.length]? = some (.lst acc) := by simp
        have l2 : acc.length < mx := by omega
        have l3 : (S ++ SO.lst acc :: ex ++ ex1).set S.length (.lst (acc ++ [φ i])) = S ++ .lst (acc ++ [φ i]) :: (ex ++ ex1) := by simp
        have hc2 : lims 0 (acc ++ [φ i]) = true := by
          rw [lims_iff] at hc ⊢
          intro x hx
          rcases List.mem_append.mp hx with hx | hx
          · exact hc x hx
          · rw [List.mem_singleton] at hx; rw [hx]; exact lim_plain _ (hl i hin)
        have w2 : WF (S ++ .lst (acc ++ [φ i]) :: (ex ++ ex1)) := by
          rw [← l3]
          exact w1.set (lims_mono (Nat.zero_le _) _ hc2)
        obtain ⟨ex', q⟩ := lcGo_ex (S := S) hlen hg ht he hl m (i + 1) (acc ++ [φ i]) (ex ++ ex1) w2 hc2 (by omega) hin (by simp <;> omega)
        refine ⟨ex', ?_⟩
        simp only [q1, l1, if_pos l2, l3, q]
        rw [dr]
        simp [hp]
    · have : (List.range n).drop i = [] := List.drop_eq_nil_of_le (by simp; omega)
      refine ⟨ex, ?_⟩
      simp only [hin, if_false]
      simp [this]
theorem lc_ex {fi : M ItD} {g : MT} {t : M Bool} {e : M D} {vs : List Nat} {vars : List (Option D)} {S : List SO} {lo : Int} {n : Nat} {vv : Nat → List (Option D)} {p : Nat → Bool} {φ : Nat → D} (hw : WF S) (hi : fi ⟨vars, S⟩ = .ok (.rng lo n) S) (hlen : n < mx)
    (hg : ∀ k < n, ∀ T, g (.int (lo + (k : Nat))) ⟨wipeD vars vs, T⟩ = .ok ⟨vv k, T⟩) (ht : ∀ k < n, ∀ T, WF T → t ⟨vv k, T⟩ = .ok (p k) T)
    (he : ∀ k < n, p k = true → ∀ T, WF T → ∃ ex, e ⟨vv k, T⟩ = .ok (φ k) (T ++ ex) ∧ WF (T ++ ex)) (hl : ∀ k < n, (φ k).plain = true) :
    eLc false fi g t e vs ⟨vars, S⟩ = .ok (.list (((List.range n).filter p).map φ)) S := by
  unfold eLc
  rw [bnd_ok hi]
  obtain ⟨ex, q⟩ := lcGo_ex (S := S) hlen hg ht he hl (n + 1) 0 [] [] (hw.app rfl) rfl (by omega) (by omega) (by simp)
  simp only [List.drop_zero, List.nil_append] at q
  simp only [fuelI, q]
  unfold lcEnd
  have q1 : (S ++ SO.lst (((List.range n).filter p).map φ) :: ex)[S.length]? = some (.lst (((List.range n).filter p).map φ)) := by simp
  have q2 : (S ++ SO.lst (((List.range n).filter p).map φ) :: ex).set S.length .dead = S ++ .dead :: ex := by simp
  simp only [q1, q2]
  refine gc_cut rfl hw ?_
  unfold lim
  rw [lims_iff]
  intro d hd
  obtain ⟨k, hk, rfl⟩ := List.mem_map.mp hd
  exact lim_plain _ (hl k (by simpa using (List.mem_filter.mp hk).1))
end EV
namespace K21
open PySem EV
open L2 (Key atI ixN)
/-! ### spots -/
theorem merge_dd (l : List PySem.Str) : mergeD [] (l.map fun s => ((.inr s : Key), (.int 1 : D))) = (P21.dd l).map fun s => ((.inr s : Key), (.int 1 : D)) := by
  suffices ∀ (l A : List PySem.Str), (l.map fun s => ((.inr s : Key), (.int 1 : D))).foldl (fun acc kv => dPut acc kv.1 kv.2) (A.map fun s => ((.inr s : Key), (.int 1 : D))) = (l.foldl (fun A b => if b ∈ A then A else A ++ [b]) A).map fun s => ((.inr s : Key), (.int 1 : D)) from this l []
  intro l
  induction l with
  | nil => intro A; rfl
  | cons b l ih =>
    intro A
    rw [List.map_cons, List.foldl_cons, List.foldl_cons]
    have : dPut (A.map fun s => ((.inr s : Key), (.int 1 : D))) (.inr b) (.int 1) = (if b ∈ A then A else A ++ [b]).map fun s => ((.inr s : Key), (.int 1 : D)) := by
      unfold dPut
      by_cases hb : b ∈ A
      · rw [if_pos, if_pos hb]
        · rw [List.map_map]
          apply List.map_congr_left
          intro x _
          simp only [Function.comp]
          split <;> rfl
        · rw [List.any_eq_true]
          exact ⟨(.inr b, .int 1), List.mem_map.mpr ⟨b, hb, rfl⟩, by simp⟩
      · rw [if_neg, if_neg hb]
        · simp
        · intro z
          obtain ⟨x, hx, e⟩ := List.any_eq_true.mp z
          obtain ⟨s, hs, rfl⟩ := List.mem_map.mp hx
          have : s = b := by simpa using e
          exact hb (this ▸ hs)
    rw [this, ih]
def pairE (s : PySem.Str) : D := .tuple [.str s, .int 1]
theorem pairs_ok (l : List PySem.Str) : pairsD (l.map pairE) = some (l.map fun s => ((.inr s : Key), (.int 1 : D))) := by
  induction l with
  | nil => rfl
  | cons s l ih =>
    rw [List.map_cons, List.map_cons]
    unfold pairE pairsD
    rw [show (fun s : PySem.Str => (PyData.tuple [.str s, .int 1] : D)) = pairE from rfl] at *
    simp only [ih, keyD]
theorem dict_ok (l : List PySem.Str) (so : List SO) : dDictP [.list (l.map pairE)] so = some (rf so.length, so ++ [.dct ((P21.dd l).map fun s => ((.inr s : Key), (.int 1 : D)))]) := by
  simp only [dDictP, lstOf, pairs_ok, merge_dd]
/-- pairs of a list's signs -/
theorem lc_pairs {f : M D} {S : List SO} {vars : List (Option D)} {v : Nat} {l : List PySem.Str} (hw : WF S) (hi : f ⟨vars, S⟩ = .ok (.list (strL l)) S) (hl : l.length ≤ 1000) (hv : v < vars.length) :
    eLc false (iIt f) (tName v) tTrue (eTup (eCons (eVar v) (eCons (eC (.int 1)) eNil))) [v] ⟨vars, S⟩ = .ok (.list (l.map pairE)) S := by
  have := lc_list (g := tName v) (t := tTrue) (e := eTup (eCons (eVar v) (eCons (eC (.int 1)) eNil))) (vs := [v]) (vv := fun d => (wipeD vars [v]).set v (some d)) (p := fun d => true) (φ := fun d => .tuple [d, .int 1]) hw hi (by rw [List.length_map]; unfold mx; omega)
    (fun d _ acc => rfl) (fun d hd acc => rfl)
    (fun d hd _ acc => tup_ok (two_ok (var_ok (wv hv)) c_ok))
    (fun d hd => by
      obtain ⟨x, hx, rfl⟩ := List.mem_map.mp hd
      rfl)
  rw [this, filt_true, List.map_map]
  rfl
def spotP (asks : List PySem.Str) (k : Nat) : Bool := decide (asks.getD k "" ∈ asks.take k)
def lastJ (asks : List PySem.Str) (k : Nat) : Nat := P21.mxL ((List.range k).filter fun j => decide (asks.getD j "" = asks.getD k ""))
def spot (asks : List PySem.Str) (k : Nat) : Nat := (P21.dd ((asks.take k).drop (lastJ asks k))).length
theorem lastJ_le (asks : List PySem.Str) (k : Nat) : lastJ asks k ≤ k := P21.mxL_le fun x hx => by
  have := (List.mem_filter.mp hx).1
  have : x < k := by simpa using this
  omega
def spotE : M D := eCB dLen (eCons (eCB dDictP (eCons (eLc false (iIt (eSl (eVar 12) (oSome (eCB dMaxL (eCons (eLc false (EV.iRng1 (eVar 23)) (tName 24) (eB (eOp dEq (eOp dIx (eVar 12) (eVar 24)) (eOp dIx (eVar 12) (eVar 23)))) (eVar 24) [24]) (eNil)))) (oSome (eVar 23)))) (tName 25) (tTrue) (eTup (eCons (eVar 25) (eCons (eC (.int 1)) (eNil)))) [25]) (eNil))) (eNil))
theorem get_str {asks : List PySem.Str} {k : Nat} (h : k < asks.length) (so : List SO) : dIx (.list (strL asks)) (.int (k : Nat)) so = some (.str (asks.getD k ""), so) := ix_l (by simp [List.getD_eq_getElem?_getD, List.getElem?_eq_getElem h])
theorem spotE_ok {vs : List (Option D)} {T : List SO} {asks : List PySem.Str} {k : Nat} (hl : vs.length = 27) (g12 : vs[12]? = some (some (.list (strL asks)))) (g23 : vs[23]? = some (some (.int (k : Nat)))) (al : asks.length ≤ 8) (hk : k < asks.length) (hp : spotP asks k = true) (hw : WF T) :
    ∃ ex, spotE ⟨vs, T⟩ = .ok (.int (spot asks k : Nat)) (T ++ ex) ∧ WF (T ++ ex) := by
  have q1 := lc_rngW (g := tName 24) (t := eB (eOp dEq (eOp dIx (eVar 12) (eVar 24)) (eOp dIx (eVar 12) (eVar 23)))) (e := eVar 24) (vs := [24]) (vars := vs) (S := T) (lo := 0) (n := k) (vv := fun j => (wipeD vs [24]).set 24 (some (.int (j : Nat)))) (p := fun j => decide (asks.getD j "" = asks.getD k "")) (φ := fun j => .int (j : Nat)) hw (rng1_ok (var_ok g23) (by unfold mx; omega)) (by unfold mx; omega)
    (fun j hj acc => by simp [tName])
    (fun j hj acc _ => b_ok (op_ok (op_ok (var_ok (wo (by decide) g12)) (var_ok (wv (by omega))) (get_str (by omega) _)) (op_ok (var_ok (wo (by decide) g12)) (var_ok (wo (by decide) g23)) (get_str hk _)) (dEq_ss _ _ _)))
    (fun j hj _ acc _ => var_ok (wv (by omega)))
    (fun j _ => rfl)
  have ne : ((List.range k).filter fun j => decide (asks.getD j "" = asks.getD k "")) ≠ [] := by
    unfold spotP at hp
    have hp := of_decide_eq_true hp
    obtain ⟨j, hj, e⟩ := List.mem_iff_getElem.mp hp
    rw [List.length_take] at hj
    rw [List.getElem_take] at e
    have hm : j ∈ (List.range k).filter fun j => decide (asks.getD j "" = asks.getD k "") := by
      rw [List.mem_filter]
      refine ⟨by simp; omega, ?_⟩
      have : asks.getD j "" = asks[j]'(by omega) := by rw [List.getD_eq_getElem?_getD, List.getElem?_eq_getElem (by omega)]; rfl
      rw [this, e]
      simp
    intro z
    rw [z] at hm
    cases hm
  have q2 : eCB dMaxL (eCons (eLc false (EV.iRng1 (eVar 23)) (tName 24) (eB (eOp dEq (eOp dIx (eVar 12) (eVar 24)) (eOp dIx (eVar 12) (eVar 23)))) (eVar 24) [24]) (eNil)) ⟨vs, T⟩ = .ok (.int (lastJ asks k : Nat)) T := cb_ok (one_ok q1) (max_nats ne)
  have jk := lastJ_le asks k
  have s1 : dSl (.list (strL asks)) (some ((lastJ asks k : Nat) : Int)) (some (k : Int)) T = some (.list (strL ((asks.take k).drop (lastJ asks k))), T) := by
    simp only [dSl, lsrOf, Option.map_some]
    rw [cut_mid _ _ _ jk (by rw [List.length_map]; omega), ← List.map_take, ← List.map_drop]
  have q3 := lc_pairs (v := 25) (vars := vs) hw (sl_ok (var_ok g12) (osome_ok q2) (osome_ok (var_ok g23)) s1) (by rw [List.length_drop, List.length_take]; omega) (by omega)
  have q4 := cb_ok (one_ok q3) (dict_ok _ T)
  have l : (T ++ [SO.dct ((P21.dd ((asks.take k).drop (lastJ asks k))).map fun s => ((.inr s : Key), (.int 1 : D)))])[T.length]? = some (.dct ((P21.dd ((asks.take k).drop (lastJ asks k))).map fun s => ((.inr s : Key), (.int 1 : D)))) := app_last
  have dl : dLen [rf T.length] (T ++ [SO.dct ((P21.dd ((asks.take k).drop (lastJ asks k))).map fun s => ((.inr s : Key), (.int 1 : D)))]) = some (.int (spot asks k : Nat), T ++ [SO.dct ((P21.dd ((asks.take k).drop (lastJ asks k))).map fun s => ((.inr s : Key), (.int 1 : D)))]) := by
    simp only [dLen, lstOf, dctOf, Int.toNat_natCast, l, List.length_map]
    rfl
  refine ⟨_, cb_ok (one_ok q4) dl, hw.app ?_⟩
  simp only [limO, List.all_eq_true]
  intro kv hkv
  obtain ⟨s, _, rfl⟩ := List.mem_map.mp hkv
  rfl
def sD : MS := sSet 14 (eLc false (EV.iRng1 (eCB dLen (eCons (eVar 12) (eNil)))) (tName 23) (eB (eOp dIn (eOp dIx (eVar 12) (eVar 23)) (eSl (eVar 12) (oNone) (oSome (eVar 23))))) spotE [23])
def spots (asks : List PySem.Str) : List Nat := ((List.range asks.length).filter (spotP asks)).map (spot asks)
theorem sD_ok {vars : List (Option D)} {so : List SO} {asks : List PySem.Str} {m : Nat} (h : M3 vars so asks m) : sD ⟨vars, so⟩ = .ok .nx ⟨vars.set 14 (some (.list ((spots asks).map fun n : Nat => PyData.int (n : Nat)))), so⟩ := by
  have hl : vars.length = 27 := h.b.len
  have g12 := h.v12
  have ln : eCB dLen (eCons (eVar 12) (eNil)) ⟨vars, so⟩ = .ok (.int (asks.length : Nat)) so := by
    have := cb_ok (one_ok (var_ok (so := so) g12)) len_l
    rw [List.length_map] at this
    exact this
  have al := h.al
  have q := lc_ex (g := tName 23) (t := eB (eOp dIn (eOp dIx (eVar 12) (eVar 23)) (eSl (eVar 12) (oNone) (oSome (eVar 23))))) (e := spotE) (vs := [23]) (vars := vars) (S := so) (lo := 0) (n := asks.length) (vv := fun k => (wipeD vars [23]).set 23 (some (.int (k : Nat)))) (p := spotP asks) (φ := fun k => .int (spot asks k : Nat)) h.b.wf (rng1_ok ln (by unfold mx; omega)) (by unfold mx; omega)
    (fun k hk T => by simp [tName])
    (fun k hk T _ => by
      have w12 := wo (v := 23) (d := PyData.int (k : Nat)) (by decide) g12
      have w23 := wv (vars := vars) (v := 23) (d := PyData.int (k : Nat)) (by omega)
      have s1 : dSl (.list (strL asks)) none (some (k : Int)) T = some (.list (strL (asks.take k)), T) := by
        simp only [dSl, lsrOf, Option.map_some]
        rw [cut_take, ← List.map_take]
      exact b_ok (op_ok (op_ok (var_ok w12) (var_ok w23) (get_str hk T)) (sl_ok (var_ok w12) onone_ok (osome_ok (var_ok w23)) s1) in_list))
    (fun k hk hp T wT => spotE_ok (by simpa [wipeD] using hl) (wo (by decide) g12) (wv (by omega)) al hk hp wT)
    (fun k _ => rfl)
  have := set_ok (i := 14) q
  unfold spots
  rw [List.map_map]
  exact this
end K21
end
section
set_option Elab.async false
set_option linter.all false
set_option maxRecDepth 10000
set_option maxHeartbeats 4000000
namespace K21
open PySem EV
open L2 (Key atI ixN)
theorem last_split {l : List PySem.Str} {a : PySem.Str} (h : a ∈ l) : ∃ q t, l = q ++ a :: t ∧ a ∉ t := by
  induction l with
  | nil => cases h
  | cons x l ih =>
    by_cases hl : a ∈ l
    · obtain ⟨q, t, e, ht⟩ := ih hl
      exact ⟨x :: q, t, by rw [e]; rfl, ht⟩
    · rcases List.mem_cons.mp h with rfl | h
      · exact ⟨[], l, rfl, hl⟩
      · exact absurd h hl
theorem last_eq {asks : List PySem.Str} {k : Nat} {q t : List PySem.Str} (hk : k < asks.length) (e : asks.take k = q ++ asks.getD k "" :: t) (ht : asks.getD k "" ∉ t) : lastJ asks k = q.length := by
  have hlen : k = q.length + (t.length + 1) := by
    have := congrArg List.length e
    simp at this
    omega
  have gt : ∀ j, j < k → asks.getD j "" = (asks.take k).getD j "" := fun j hj => by
    rw [List.getD_eq_getElem?_getD, List.getD_eq_getElem?_getD, List.getElem?_take_of_lt hj]
  apply Nat.le_antisymm
  · refine P21.mxL_le fun x hx => ?_
    obtain ⟨h1, h2⟩ := List.mem_filter.mp hx
    have h1 : x < k := by simpa using h1
    have h2 := of_decide_eq_true h2
    rw [gt x h1, e] at h2
    apply Nat.le_of_not_lt
    intro hlt
    apply ht
    obtain ⟨d, rfl⟩ : ∃ d, x = q.length + (d + 1) := ⟨x - q.length - 1, by omega⟩
    have hd : d < t.length := by omega
    rw [List.getD_eq_getElem?_getD, List.getElem?_append_right (by omega)] at h2
    have z : q.length + (d + 1) - q.length = d + 1 := by omega
    rw [z, List.getElem?_cons_succ, List.getElem?_eq_getElem hd] at h2
    simp only [Option.getD_some] at h2
    have := List.getElem_mem hd
    rw [h2] at this
    exact this
  · refine P21.le_mxL (List.mem_filter.mpr ⟨by simp; omega, ?_⟩)
    rw [decide_eq_true_iff, gt q.length (by omega), e, List.getD_eq_getElem?_getD, List.getElem?_append_right (Nat.le_refl _)]
    simp
/-- had, if the spot is small enough -/
theorem hit_iff {asks : List PySem.Str} {m k : Nat} (m1 : 1 ≤ m) (hk : k < asks.length) : (asks.getD k "" ∈ P21.lru m (asks.take k)) ↔ (spotP asks k = true ∧ spot asks k ≤ m) := by
  unfold spotP
  rw [decide_eq_true_iff]
  constructor
  · intro h
    have hm : asks.getD k "" ∈ asks.take k := by
      rw [← P21.rec_mem]
      exact List.mem_of_mem_drop h
    refine ⟨hm, ?_⟩
    obtain ⟨q, t, e, ht⟩ := last_split hm
    rw [e, P21.lru_hit m1 q _ ht] at h
    unfold spot
    rw [last_eq hk e ht, e]
    simpa using h
  · rintro ⟨hm, hs⟩
    obtain ⟨q, t, e, ht⟩ := last_split hm
    unfold spot at hs
    rw [last_eq hk e ht, e] at hs
    rw [e, P21.lru_hit m1 q _ ht]
    simpa using hs
theorem hits_spots {asks : List PySem.Str} {m : Nat} (m1 : 1 ≤ m) : hits m asks asks.length = ((spots asks).filter fun s => decide (s ≤ m)).length := by
  unfold hits spots
  rw [List.filter_map, List.length_map, List.filter_filter]
  congr 1
  apply List.filter_congr
  intro k hk
  have hk : k < asks.length := by simpa using hk
  rw [Bool.eq_iff_iff, decide_eq_true_iff, hit_iff m1 hk]
  simp [and_comm]
def leM (m : Nat) : D → Bool
  | .int i => decide (i ≤ (m : Nat))
  | _ => false
def sE : MS := sIf (eB (eOp dNe lastE (eCB dLen (eCons (eLc false (iIt (eVar 14)) (tName 26) (eB (eOp dLe (eVar 26) (eVar 13))) (eC (.int 1)) [26]) (eNil))))) (sRet (eC (.bool false))) (sNext)
theorem sE_ok {vars : List (Option D)} {so : List SO} {asks : List PySem.Str} {m : Nat} (h : M3 vars so asks m) (v14 : vars[14]? = some (some (.list ((spots asks).map fun n : Nat => PyData.int (n : Nat))))) : sE ⟨vars, so⟩ = .ok .nx ⟨vars, so⟩ := by
  have hl : vars.length = 27 := h.b.len
  have al := h.al
  have sl : (spots asks).length ≤ asks.length := by
    unfold spots
    rw [List.length_map]
    have := List.length_filter_le (spotP asks) (List.range asks.length)
    simpa using this
  have q1 := lc_list (g := tName 26) (t := eB (eOp dLe (eVar 26) (eVar 13))) (e := eC (.int 1)) (vs := [26]) (vars := vars) (items := (spots asks).map fun n : Nat => PyData.int (n : Nat)) (vv := fun d => (wipeD vars [26]).set 26 (some d)) (p := leM m) (φ := fun _ => .int 1) h.b.wf (var_ok v14) (by rw [List.length_map]; unfold mx; omega)
    (fun d _ acc => rfl)
    (fun d hd acc => by
      obtain ⟨n, _, rfl⟩ := List.mem_map.mp hd
      exact b_ok (op_ok (var_ok (wv (by omega))) (var_ok (wo (by decide) h.v13)) (dLe_ii _ _)))
    (fun d _ _ acc => rfl)
    (fun d _ => rfl)
  have q2 := cb_ok (one_ok q1) len_l
  have q3 : ((((spots asks).map fun n : Nat => PyData.int (n : Nat)).filter (leM m)).map fun _ => (PyData.int 1 : D)).length = hits m asks asks.length := by
    rw [hits_spots h.m1, List.length_map, List.filter_map, List.length_map]
    congr 1
    apply List.filter_congr
    intro n _
    simp only [Function.comp, leM]
    rw [Bool.eq_iff_iff, decide_eq_true_iff, decide_eq_true_iff]
    omega
  rw [q3] at q2
  exact if_f (b_ok (op_ok (last_c h) q2 (dNe_same rfl)))
end K21
end
section
set_option Elab.async false
set_option linter.all false
set_option maxRecDepth 10000
set_option maxHeartbeats 4000000
namespace K21
open PySem EV
open L2 (Key atI ixN)
/-! ### two keeps -/
abbrev twoF (n : Nat) : List (PySem.Str × D) := [("once", rf (n + 1)), ("again", rf (n + 3))]
theorem Keep.of {so so' : List SO} {n r : Nat} {m a b c : Int} {rows : List Row} (h : Keep so n r m a b c rows) (e1 : so'[n]? = so[n]?) (e2 : so'[r]? = so[r]?) : Keep so' n r m a b c rows := ⟨e1.trans h.o, e2.trans h.d⟩
structure Two (so : List SO) (n : Nat) (m : Int) (O A : List Row) : Prop where
  t : so[n]? = some (.ins 1 (twoF n))
  o : ∃ a b c, Keep so (n + 1) (n + 2) m a b c O
  g : ∃ a b c, Keep so (n + 3) (n + 4) 1 a b c A
  on : (keys O).Nodup
  an : (keys A).Nodup
  ol : (O.length : Int) ≤ m
  al : A.length ≤ 1
  oz : ∀ x ∈ O, x.2.1 = 0 ∧ 0 ≤ x.2.2.2
  az : ∀ x ∈ A, x.2.1 = 0 ∧ 0 ≤ x.2.2.2
  wf : WF so
  m1 : 1 ≤ m
  m9 : m ≤ 90
theorem two_init {so : List SO} {a b : Int} (ha : 1 ≤ a) (hb : 1 ≤ b) : g_TwoKeep_init [rf so.length, .int a, .int b] (so ++ [.ins 1 []]) = .ok .none (so ++ [.ins 1 (twoF so.length), .ins 0 (keepF a (so.length + 2) 0 0 0), .dct [], .ins 0 (keepF b (so.length + 4) 0 0 0), .dct []]) := by
  let vs : List (Option D) := [some (rf so.length), some (.int a), some (.int b)]
  have k1 := make_keep (f := eVar 1) (vars := vs) (so := so ++ [.ins 1 []]) (var_ok rfl) ha
  have l1 : (so ++ [SO.ins 1 []]).length = so.length + 1 := by simp
  rw [l1, List.append_assoc] at k1
  have e1 := fldD_ok (k := 2) (nm := "once") (fo := eVar 0) k1 (var_ok (vars := vs) rfl) (putFld_new (so := so) (ex := [.ins 0 (keepF a (so.length + 2) 0 0 0), .dct []]) (by decide) (by decide))
  have k2 := make_keep (f := eVar 2) (vars := vs) (so := so ++ SO.ins 1 (dPutF "once" (rf (so.length + 1)) []) :: [.ins 0 (keepF a (so.length + 2) 0 0 0), .dct []]) (var_ok rfl) hb
  have l2 : (so ++ SO.ins 1 (dPutF "once" (rf (so.length + 1)) []) :: [.ins 0 (keepF a (so.length + 2) 0 0 0), .dct []]).length = so.length + 3 := by simp
  rw [l2, List.append_assoc] at k2
  have e2 := fldD_ok (k := 2) (nm := "again") (fo := eVar 0) k2 (var_ok (vars := vs) rfl) (putFld_new (so := so) (ex := [.ins 0 (keepF a (so.length + 2) 0 0 0), .dct [], .ins 0 (keepF b (so.length + 4) 0 0 0), .dct []]) (by show 1 < 1000; decide) (by decide))
  unfold g_TwoKeep_init fnM m_TwoKeep_init
  rw [show startD N_TwoKeep_init [rf so.length, .int a, .int b] = vs from rfl, seq_ok e1, e2]
  rfl
theorem make_two {f1 f2 : M D} {vars : List (Option D)} {so : List SO} {a b : Int} (h1 : f1 ⟨vars, so⟩ = .ok (.int a) so) (h2 : f2 ⟨vars, so⟩ = .ok (.int b) so) (ha : 1 ≤ a) (hb : 1 ≤ b) : eMake 1 3 g_TwoKeep_init (eCons f1 (eCons f2 eNil)) ⟨vars, so⟩ = .ok (rf so.length) (so ++ [.ins 1 (twoF so.length), .ins 0 (keepF a (so.length + 2) 0 0 0), .dct [], .ins 0 (keepF b (so.length + 4) 0 0 0), .dct []]) := by
  unfold eMake
  rw [bnd_ok (two_ok h1 h2)]
  unfold kMake
  simp only [List.length_cons, List.length_nil, two_init ha hb, mkR, if_true]
  exact gcR_ref (Nat.le_refl _)
theorem two_new {so : List SO} {m : Int} (hw : WF so) (m1 : 1 ≤ m) (m9 : m ≤ 90) : Two (so ++ [.ins 1 (twoF so.length), .ins 0 (keepF m (so.length + 2) 0 0 0), .dct [], .ins 0 (keepF 1 (so.length + 4) 0 0 0), .dct []]) so.length m [] [] := by
  have g : ∀ (l : List SO) (k : Nat), (so ++ l)[so.length + k]? = l[k]? := fun l k => by
    rw [List.getElem?_append_right (by omega)]
    congr 1
    omega
  refine ⟨by simp, ⟨0, 0, 0, ⟨g _ 1, g _ 2⟩⟩, ⟨0, 0, 0, ⟨g _ 3, g _ 4⟩⟩, List.nodup_nil, List.nodup_nil, by simp; omega, by simp, (fun x hx => by cases hx), (fun x hx => by cases hx), ?_, m1, m9⟩
  unfold WF at *
  rw [List.all_eq_true] at *
  intro o ho
  rcases List.mem_append.mp ho with ho | ho
  · exact limO_mono (by simp) (hw o ho)
  · simp only [List.mem_cons, List.not_mem_nil, or_false] at ho
    rcases ho with rfl | rfl | rfl | rfl | rfl
    · simp [limO, EV.lim]
    · exact lim_keep (by simp)
    · rfl
    · exact lim_keep (by simp)
    · rfl
theorem lk_once {n : Nat} : List.lookup ("once" : PySem.Str) (twoF n) = some (rf (n + 1)) := by rfl
theorem lk_again {n : Nat} : List.lookup ("again" : PySem.Str) (twoF n) = some (rf (n + 3)) := by rfl
theorem once_ok {vars : List (Option D)} {so : List SO} {i n : Nat} (hv : vars[i]? = some (some (rf n))) (h : so[n]? = some (.ins 1 (twoF n))) : eFld 2 "once" (eVar i) ⟨vars, so⟩ = .ok (rf (n + 1)) so := fld_ok (var_ok hv) h lk_once
theorem again_ok {vars : List (Option D)} {so : List SO} {i n : Nat} (hv : vars[i]? = some (some (rf n))) (h : so[n]? = some (.ins 1 (twoF n))) : eFld 2 "again" (eVar i) ⟨vars, so⟩ = .ok (rf (n + 3)) so := fld_ok (var_ok hv) h lk_again
theorem got_z {rows : List Row} {k : PySem.Str} (z : ∀ x ∈ rows, x.2.1 = 0 ∧ 0 ≤ x.2.2.2) : gotV rows k 0 = rows.find? fun r => decide (r.1 = k) := by
  unfold gotV
  cases hf : rows.find? fun r => decide (r.1 = k) with
  | none => rfl
  | some r =>
    have := (z r (List.mem_of_find?_eq_some hf)).1
    simp [Option.filter, this]
theorem find_none {rows : List Row} {k : PySem.Str} : (rows.find? fun r => decide (r.1 = k)) = none ↔ k ∉ keys rows := by
  rw [List.find?_eq_none]
  unfold keys
  constructor
  · intro h z
    obtain ⟨r, hr, e⟩ := List.mem_map.mp z
    exact h r hr (by simpa using e)
  · intro h r hr z
    exact h (List.mem_map.mpr ⟨r, hr, by simpa using z⟩)
theorem filter_not {rows : List Row} {k : PySem.Str} (h : k ∉ keys rows) : rows.filter (fun r => decide (r.1 ≠ k)) = rows := by
  rw [List.filter_eq_self]
  intro r hr
  have : r.1 ≠ k := fun z => h (List.mem_map.mpr ⟨r, hr, z⟩)
  simpa using this
theorem keys_filt (rows : List Row) (p : PySem.Str → Bool) : keys (rows.filter fun r => p r.1) = (keys rows).filter p := by
  unfold keys
  rw [List.filter_map]
  rfl
theorem keys_app (a b : List Row) : keys (a ++ b) = keys a ++ keys b := by simp [keys]
theorem keys_drop (a : List Row) (n : Nat) : keys (a.drop n) = (keys a).drop n := by simp [keys]
/-! what becomes of the keys -/
def tgO (m : Nat) (k : PySem.Str) (O A : List PySem.Str) : List PySem.Str := if k ∈ A then O else if k ∈ O then ((O.filter fun x => decide (x ≠ k) && decide (x ∉ A)) ++ A).drop (((O.filter fun x => decide (x ≠ k) && decide (x ∉ A)) ++ A).length - m) else O
def tgA (k : PySem.Str) (O A : List PySem.Str) : List PySem.Str := if k ∈ A then (A.filter fun x => decide (x ≠ k)) ++ [k] else if k ∈ O then [k] else A
theorem wf_cut {so : List SO} {L : Nat} (hl : L ≤ so.length) (h : ∀ i, i < L → ∀ o, so[i]? = some o → limO L o = true) : WF (so.take L) := by
  unfold WF
  rw [List.all_eq_true]
  intro o ho
  obtain ⟨i, hi, e⟩ := List.mem_iff_getElem.mp ho
  have hL : (so.take L).length = L := by rw [List.length_take]; omega
  rw [hL] at hi ⊢
  refine h i hi o ?_
  rw [← e, List.getElem_take, List.getElem?_eq_getElem]
end K21
end
section
set_option Elab.async false
set_option linter.all false
set_option maxRecDepth 10000
set_option maxHeartbeats 4000000
namespace K21
open PySem EV
open L2 (Key atI ixN)
theorem gotR_mem {rows : List Row} {k : PySem.Str} {s : Int} {x : Row} (hx : x ∈ gotR rows k s) : x ∈ rows := by
  unfold gotR gotV at hx
  rcases List.mem_append.mp hx with hx | hx
  · exact (List.mem_filter.mp hx).1
  · cases hf : rows.find? fun r => decide (r.1 = k) with
    | none => rw [hf] at hx; simp at hx
    | some row =>
      rw [hf] at hx
      have : row = x := by
        simp [Option.filter] at hx
        exact hx.2
      rw [← this]
      exact List.mem_of_find?_eq_some hf
theorem putR_mem {m : Int} {rows : List Row} {r x : Row} (hx : x ∈ putR m rows r) : x ∈ rows ∨ x = r := by
  unfold putR at hx
  rcases List.mem_append.mp (List.mem_of_mem_drop hx) with h | h
  · exact .inl (List.mem_filter.mp h).1
  · exact .inr (by simpa using h)
theorem pop_ok {f g : M D} {vars : List (Option D)} {so : List SO} {r : Nat} {rows : List Row} {k : PySem.Str} {x : Row} (h1 : f ⟨vars, so⟩ = .ok (rf r) so) (h2 : so[r]? = some (.dct (rows.map kvR))) (h3 : g ⟨vars, so⟩ = .ok (.str k) so) (hf : rows.find? (fun y => decide (y.1 = k)) = some x) :
    ePop1 f g ⟨vars, so⟩ = .ok (.tuple [.int x.2.1, .int x.2.2.1, .int x.2.2.2]) (so.set r (.dct ((rows.filter fun y => decide (y.1 ≠ k)).map kvR))) := by
  have hd := ref_dct h2
  unfold ePop1
  rw [bnd_ok h1]
  simp only [hd]
  rw [bnd_ok h3]
  have e : dGet (rows.map kvR) (.inr k) = some (.tuple [.int x.2.1, .int x.2.2.1, .int x.2.2.2]) := by rw [get_kv, hf]; rfl
  simp only [kPop1, hd, keyD, e, drop_kv]
theorem Two.re {so so' : List SO} {n : Nat} {m : Int} {O A O' A' : List Row} (h : Two so n m O A) (t : so'[n]? = so[n]?) {a b c : Int} (ko : Keep so' (n + 1) (n + 2) m a b c O') {a2 b2 c2 : Int} (kg : Keep so' (n + 3) (n + 4) 1 a2 b2 c2 A') (on : (keys O').Nodup) (an : (keys A').Nodup) (ol : (O'.length : Int) ≤ m) (al : A'.length ≤ 1)
    (oz : ∀ x ∈ O', x.2.1 = 0 ∧ 0 ≤ x.2.2.2) (az : ∀ x ∈ A', x.2.1 = 0 ∧ 0 ≤ x.2.2.2) (wf : WF so') : Two so' n m O' A' :=
  ⟨t.trans h.t, ⟨a, b, c, ko⟩, ⟨a2, b2, c2, kg⟩, on, an, ol, al, oz, az, wf, h.m1, h.m9⟩
def tgB : MS := sSeq (sAsg (ePop1 (eFld 2 "rows" (eFld 2 "once" (eVar 0))) (eVar 1)) (tName 4)) (sSeq (sAsg (eCB dDict (eCons (eFld 2 "rows" (eFld 2 "again" (eVar 0))) (eNil))) (tName 5)) (sFor (iIt (eMeth 0 5 "put" g_AnswerKeep_put (eFld 2 "again" (eVar 0)) (eCons (eVar 1) (eCons (eOp dIx (eVar 4) (eC (.int 0))) (eCons (eOp dIx (eVar 4) (eC (.int 1))) (eCons (eOp dIx (eVar 4) (eC (.int 2))) (eNil))))))) (tName 6) (sExpr (eMeth 0 5 "put" g_AnswerKeep_put (eFld 2 "once" (eVar 0)) (eCons (eVar 6) (eCons (eOp dIx (eOp dIx (eVar 5) (eVar 6)) (eC (.int 0))) (eCons (eOp dIx (eOp dIx (eVar 5) (eVar 6)) (eC (.int 1))) (eCons (eOp dIx (eOp dIx (eVar 5) (eVar 6)) (eC (.int 2))) (eNil)))))))))
def onceN (m : Int) (k : PySem.Str) (O A : List Row) : List Row := match A with
  | [] => O.filter fun x => decide (x.1 ≠ k)
  | g :: _ => putR m (O.filter fun x => decide (x.1 ≠ k)) g
/-- one goes from the first to the second -/
theorem tgB_ok {vs : List (Option D)} {so : List SO} {n : Nat} {m : Int} {O A R : List Row} {k : PySem.Str} {r : Row} {a b c a2 b2 c2 : Int} (vl : vs.length = 7) (v0 : vs[0]? = some (some (rf n))) (v1 : vs[1]? = some (some (.str k))) (t : so[n]? = some (.ins 1 (twoF n)))
    (ko : Keep so (n + 1) (n + 2) m a b c R) (kg : Keep so (n + 3) (n + 4) 1 a2 b2 c2 A) (hw : WF so) (hR : R = O.filter (fun x => decide (x.1 ≠ k)) ++ [r]) (rk : r.1 = k) (r0 : r.2.1 = 0) (rc : 0 ≤ r.2.2.2) (on : (keys O).Nodup) (an : (keys A).Nodup) (ol : (O.length : Int) ≤ m) (al : A.length ≤ 1) (kA : k ∉ keys A) (az : ∀ x ∈ A, x.2.1 = 0 ∧ 0 ≤ x.2.2.2) (m1 : 1 ≤ m) (m9 : m ≤ 90) :
    ∃ vs' bf, tgB ⟨vs, so⟩ = .ok .nx ⟨vs', bf⟩ ∧ (∀ i, i < 4 → vs'[i]? = vs[i]?) ∧ bf.length = so.length + 1 ∧ (∀ i, i < so.length → i ≠ n + 1 → i ≠ n + 2 → i ≠ n + 3 → i ≠ n + 4 → bf[i]? = so[i]?) ∧
      Keep bf (n + 3) (n + 4) 1 a2 b2 c2 [r] ∧ Keep bf (n + 1) (n + 2) m a b c (onceN m k O A) := by
  obtain ⟨Ok, hOk⟩ : ∃ Ok, Ok = O.filter (fun x => decide (x.1 ≠ k)) := ⟨_, rfl⟩
  have on' : onceN m k O A = match A with | [] => Ok | g :: _ => putR m Ok g := by rw [hOk]; cases A <;> rfl
  rw [← hOk] at hR
  rw [on']
  have okk : k ∉ keys Ok := by
    intro z
    obtain ⟨y, hy, e⟩ := List.mem_map.mp z
    rw [hOk] at hy
    have := (List.mem_filter.mp hy).2
    simp at this
    exact this e
  have okn : (keys Ok).Nodup := by rw [hOk]; exact keys_filter _ on
  have okl : (Ok.length : Int) ≤ m := by
    have := List.length_filter_le (fun x : Row => decide (x.1 ≠ k)) O
    rw [← hOk] at this
    omega
  have Rf : R.find? (fun y => decide (y.1 = k)) = some r := by
    rw [hR, List.find?_append, find_none.mpr okk]
    simp [rk]
  have RF : R.filter (fun y => decide (y.1 ≠ k)) = Ok := by
    rw [hR, List.filter_append, filter_not okk]
    simp [rk]
  have ln := ko.ln
  have lr := ko.lr
  have lg := kg.lr
  -- the row goes out of the first
  have p1 := pop_ok (fld_ok (k := 2) (nm := "rows") (once_ok v0 t) ko.o lk_rows) ko.d (var_ok v1) Rf
  rw [RF] at p1
  obtain ⟨S, hS⟩ : ∃ S, S = so.set (n + 2) (.dct (Ok.map kvR)) := ⟨_, rfl⟩
  rw [← hS] at p1
  have lS : S.length = so.length := by rw [hS]; simp
  have wS : WF S := by rw [hS]; exact hw.set lim_rows
  have sS : ∀ i, i ≠ n + 2 → S[i]? = so[i]? := fun i hi => by rw [hS, List.getElem?_set_ne (Ne.symm hi)]
  have koS : Keep S (n + 1) (n + 2) m a b c Ok := ⟨(sS _ (by omega)).trans ko.o, by rw [hS]; exact List.getElem?_set_self lr⟩
  have kgS := kg.of (sS (n + 3) (by omega)) (sS (n + 4) (by omega))
  have e1 := asgN (i := 4) p1
  obtain ⟨vA, hvA⟩ : ∃ vA, vA = vs.set 4 (some (PyData.tuple [.int r.2.1, .int r.2.2.1, .int r.2.2.2])) := ⟨_, rfl⟩
  rw [← hvA] at e1
  have vAl : vA.length = 7 := by rw [hvA]; simpa using vl
  have A0 : vA[0]? = some (some (rf n)) := by rw [hvA]; ((repeat rw [List.getElem?_set_ne (by decide)]); first | (rw [List.getElem?_set_self (by (try simp only [List.length_set]); omega)]; done) | assumption)
  -- what was there before
  have tS : S[n]? = some (.ins 1 (twoF n)) := (sS n (by omega)).trans t
  have dd : dDict [rf (n + 4)] S = some (rf S.length, S ++ [.dct (A.map kvR)]) := by simp only [dDict, ref_dct kgS.d]
  have e2 := asgN (i := 5) (cb_ok (one_ok (fld_ok (k := 2) (nm := "rows") (again_ok A0 tS) kgS.o lk_rows)) dd)
  obtain ⟨vB, hvB⟩ : ∃ vB, vB = vA.set 5 (some (rf S.length)) := ⟨_, rfl⟩
  rw [← hvB] at e2
  have vBl : vB.length = 7 := by rw [hvB]; simpa using vAl
  have B0 : vB[0]? = some (some (rf n)) := by rw [hvB, hvA]; ((repeat rw [List.getElem?_set_ne (by decide)]); first | (rw [List.getElem?_set_self (by (try simp only [List.length_set]); omega)]; done) | assumption)
  have B1 : vB[1]? = some (some (.str k)) := by rw [hvB, hvA]; ((repeat rw [List.getElem?_set_ne (by decide)]); first | (rw [List.getElem?_set_self (by (try simp only [List.length_set]); omega)]; done) | assumption)
  have B4 : vB[4]? = some (some (PyData.tuple [.int r.2.1, .int r.2.2.1, .int r.2.2.2])) := by rw [hvB, hvA]; ((repeat rw [List.getElem?_set_ne (by decide)]); first | (rw [List.getElem?_set_self (by (try simp only [List.length_set]); omega)]; done) | assumption)
  have B5 : vB[5]? = some (some (rf S.length)) := by rw [hvB]; ((repeat rw [List.getElem?_set_ne (by decide)]); first | (rw [List.getElem?_set_self (by (try simp only [List.length_set]); omega)]; done) | assumption)
  obtain ⟨T, hT⟩ : ∃ T, T = S ++ [SO.dct (A.map kvR)] := ⟨_, rfl⟩
  rw [← hT] at e2
  have wT : WF T := by rw [hT]; exact wS.app lim_rows
  have lT : T.length = so.length + 1 := by rw [hT, ← lS]; simp
  have sT : ∀ i, i < so.length → T[i]? = S[i]? := fun i hi => by rw [hT]; exact List.getElem?_append_left (by omega)
  have lastT : T[S.length]? = some (.dct (A.map kvR)) := by rw [hT]; exact app_last
  have koT := koS.of (sT (n + 1) (by omega)) (sT (n + 2) (by omega))
  have kgT := kgS.of (sT (n + 3) (by omega)) (sT (n + 4) (by omega))
  have tT : T[n]? = some (.ins 1 (twoF n)) := (sT n (by omega)).trans tS
  -- the second takes it
  obtain ⟨b5, x5, e3, l5, w5, s5, k5⟩ := keep_put kgT wT an (by omega) (by omega) (by omega) r rc
  have pg : putR 1 A r = [r] := by
    unfold putR
    rw [show A.filter (fun x => decide (x.1 ≠ r.1)) = A from filter_not (by rw [rk]; exact kA)]
    have : (A ++ [r]).length - (1 : Int).toNat = A.length := by simp
    rw [this]; simp
  have gg : goneR 1 A r = A := by
    unfold goneR
    rw [show A.filter (fun x => decide (x.1 ≠ r.1)) = A from filter_not (by rw [rk]; exact kA)]
    have : (A ++ [r]).length - (1 : Int).toNat = A.length := by simp
    rw [this]; simp
  rw [pg] at k5
  rw [gg, rk] at e3
  have lp : lim T.length (.tuple (A.map fun r => .str r.1)) = true := lim_plain _ (by
    unfold PyData.plain
    exact plainAll_of fun y hy => by
      obtain ⟨z, _, rfl⟩ := List.mem_map.mp hy
      rfl)
  have q3 : eMeth 0 5 "put" g_AnswerKeep_put (eFld 2 "again" (eVar 0)) (eCons (eVar 1) (eCons (eOp dIx (eVar 4) (eC (.int 0))) (eCons (eOp dIx (eVar 4) (eC (.int 1))) (eCons (eOp dIx (eVar 4) (eC (.int 2))) (eNil))))) ⟨vB, T⟩ = .ok (.tuple (A.map fun r => .str r.1)) b5 :=
    meth_app (again_ok B0 tT) (is_keep (nm := "put") kgT.o rfl) (cons_ok (var_ok B1) (cons_ok (op_ok (var_ok B4) c_ok (ix_tup rfl)) (two_ok (op_ok (var_ok B4) c_ok (ix_tup rfl)) (op_ok (var_ok B4) c_ok (ix_tup rfl))))) rfl e3 l5 w5 lp
  have ff := for_ok (g := tName 6) (b := sExpr (eMeth 0 5 "put" g_AnswerKeep_put (eFld 2 "once" (eVar 0)) (eCons (eVar 6) (eCons (eOp dIx (eOp dIx (eVar 5) (eVar 6)) (eC (.int 0))) (eCons (eOp dIx (eOp dIx (eVar 5) (eVar 6)) (eC (.int 1))) (eCons (eOp dIx (eOp dIx (eVar 5) (eVar 6)) (eC (.int 2))) (eNil))))))) (it_tpl q3)
  have ko5 := koT.of (s5 (n + 1) (by omega)) (s5 (n + 2) (by omega))
  have t5 : b5[n]? = some (.ins 1 (twoF n)) := (s5 n (by omega)).trans tT
  have last5 : b5[S.length]? = some (.dct (A.map kvR)) := (s5 S.length (by omega)).trans lastT
  have same5 : ∀ i, i < so.length → i ≠ n + 1 → i ≠ n + 2 → i ≠ n + 3 → i ≠ n + 4 → b5[i]? = so[i]? := fun i hi h1 h2 h3 h4 => (s5 i h4).trans ((sT i hi).trans (sS i h2))
  have vsame : ∀ i, i < 4 → vB[i]? = vs[i]? := fun i hi => by
    rw [hvB, hvA, List.getElem?_set_ne (by omega), List.getElem?_set_ne (by omega)]
  unfold tgB
  rw [seq_ok e1, seq_ok e2, ff]
  cases A with
  | nil =>
    refine ⟨vB, b5, by simp [fuelI, getS, forGo, nextI], vsame, by omega, same5, k5, ko5⟩
  | cons g A' =>
    have hA' : A' = [] := by
      cases A' with
      | nil => rfl
      | cons _ _ => simp at al
    subst hA'
    obtain ⟨gz, gc⟩ := az g (by simp)
    have C0 : (vB.set 6 (some (PyData.str g.1)))[0]? = some (some (rf n)) := by ((repeat rw [List.getElem?_set_ne (by decide)]); first | (rw [List.getElem?_set_self (by (try simp only [List.length_set]); omega)]; done) | assumption)
    have C5 : (vB.set 6 (some (PyData.str g.1)))[5]? = some (some (rf S.length)) := by ((repeat rw [List.getElem?_set_ne (by decide)]); first | (rw [List.getElem?_set_self (by (try simp only [List.length_set]); omega)]; done) | assumption)
    have C6 : (vB.set 6 (some (PyData.str g.1)))[6]? = some (some (.str g.1)) := by ((repeat rw [List.getElem?_set_ne (by decide)]); first | (rw [List.getElem?_set_self (by (try simp only [List.length_set]); omega)]; done) | assumption)
    have dg : dGet ([g].map kvR) (.inr g.1) = some (.tuple [.int g.2.1, .int g.2.2.1, .int g.2.2.2]) := by
      rw [get_kv]; simp
    have gx : eOp dIx (eVar 5) (eVar 6) ⟨vB.set 6 (some (PyData.str g.1)), b5⟩ = .ok (.tuple [.int g.2.1, .int g.2.2.1, .int g.2.2.2]) b5 := op_ok (var_ok C5) (var_ok C6) (ix_dct last5 dg)
    obtain ⟨b6, x6, e6, l6, w6, s6, k6⟩ := keep_put ko5 w5 okn m1 okl (by omega) g gc
    have lp6 : lim b5.length (.tuple ((goneR m Ok g).map fun r => .str r.1)) = true := lim_plain _ (by
      unfold PyData.plain
      exact plainAll_of fun y hy => by
        obtain ⟨z, _, rfl⟩ := List.mem_map.mp hy
        rfl)
    have q6' : eMeth 0 5 "put" g_AnswerKeep_put (eFld 2 "once" (eVar 0)) (eCons (eVar 6) (eCons (eOp dIx (eOp dIx (eVar 5) (eVar 6)) (eC (.int 0))) (eCons (eOp dIx (eOp dIx (eVar 5) (eVar 6)) (eC (.int 1))) (eCons (eOp dIx (eOp dIx (eVar 5) (eVar 6)) (eC (.int 2))) (eNil))))) ⟨vB.set 6 (some (PyData.str g.1)), b5⟩ = .ok _ b6 := (meth_app (once_ok C0 t5) (is_keep (nm := "put") ko5.o rfl) (cons_ok (var_ok C6) (cons_ok (op_ok gx c_ok (ix_tup rfl)) (two_ok (op_ok gx c_ok (ix_tup rfl)) (op_ok gx c_ok (ix_tup rfl))))) rfl e6 l6 w6 lp6)
    have q6 := expr_ok q6'
    refine ⟨vB.set 6 (some (PyData.str g.1)), b6, ?_, fun i hi => by rw [List.getElem?_set_ne (by omega)]; exact vsame i hi, by omega, fun i hi h1 h2 h3 h4 => (s6 i h2).trans (same5 i hi h1 h2 h3 h4), k5.of (s6 _ (by omega)) (s6 _ (by omega)), k6⟩
    simp only [fuelI, getS, List.map_cons, List.map_nil, Option.getD_some, List.length_cons, List.length_nil]
    have n0 : ∀ so, nextI (.seq (.fz [PyData.str g.1])) so 0 = some (some (.str g.1)) := fun so => rfl
    have n1 : ∀ so, nextI (.seq (.fz [PyData.str g.1])) so 1 = some none := fun so => rfl
    unfold forGo
    simp only [n0, tName, q6]
    unfold forGo
    simp only [n1]
end K21
end
section
set_option Elab.async false
set_option linter.all false
set_option maxRecDepth 10000
set_option maxHeartbeats 4000000
namespace K21
open PySem EV
open L2 (Key atI ixN)
theorem keys_filt_ne (rows : List Row) (k : PySem.Str) : keys (rows.filter fun r => decide (r.1 ≠ k)) = (keys rows).filter fun x => decide (x ≠ k) := keys_filt rows fun x => decide (x ≠ k)
theorem two_get {so : List SO} {n : Nat} {m : Int} {O A : List Row} (h : Two so n m O A) (k : PySem.Str) :
    ∃ v base ex O' A', g_TwoKeep_get [rf n, .str k, .int 0] so = .ok v (base ++ ex) ∧ base.length = so.length ∧ (∀ i, i < n → base[i]? = so[i]?) ∧ Two base n m O' A' ∧ v.plain = true ∧ EV.isNon v = !(decide (k ∈ keys A) || decide (k ∈ keys O)) ∧ keys O' = tgO m.toNat k (keys O) (keys A) ∧ keys A' = tgA k (keys O) (keys A) := by
  obtain ⟨a2, b2, c2, kg⟩ := h.g
  obtain ⟨a1, b1, c1, ko⟩ := h.o
  have m9 := h.m9
  have ol := h.ol
  have al := h.al
  let vs0 : List (Option D) := [some (rf n), some (.str k), some (.int 0), none, none, none, none]
  obtain ⟨so1, e1, ch1, kg1⟩ := keep_get kg h.wf h.an (by omega) k 0
  have q1 : eMeth 0 3 "get" g_AnswerKeep_get (eFld 2 "again" (eVar 0)) (eCons (eVar 1) (eCons (eVar 2) (eNil))) ⟨vs0, so⟩ = .ok _ so1 := meth_same (again_ok rfl h.t) (is_keep (nm := "get") kg.o rfl) (two_ok (var_ok rfl) (var_ok rfl)) rfl e1 ch1.len
  have s1 := asgN (i := 3) q1
  have gz := got_z (k := k) h.az
  rw [gz] at s1 kg1 
  have ko1 := ko.of (ch1.same (n + 1) (by omega) (by omega)) (ch1.same (n + 2) (by omega) (by omega))
  have t1 : so1[n]? = so[n]? := ch1.same n (by omega) (by omega)
  by_cases kA : k ∈ keys A
  · cases hf : A.find? fun r => decide (r.1 = k) with
    | none => exact absurd kA (find_none.mp hf)
    | some r =>
      obtain ⟨rk, rm⟩ := find_key hf
      rw [hf] at s1 kg1
      have cc : eB (eOp dNotN (eVar 3) (eC .none)) ⟨vs0.set 3 (some (gotD (some r))), so1⟩ = .ok true so1 := b_ok (op_ok (var_ok rfl) c_ok rfl)
      have s2 : sIf (eB (eOp dNotN (eVar 3) (eC .none))) (sRet (eVar 3)) (sNext) ⟨vs0.set 3 (some (gotD (some r))), so1⟩ = .ok (.ret (gotD (some r))) ⟨_, so1⟩ := (if_t cc).trans (ret_ok (var_ok rfl))
      have gR : gotR A k 0 = A.filter (fun r => decide (r.1 ≠ k)) ++ [r] := by unfold gotR; rw [gz, hf]; rfl
      refine ⟨gotD (some r), so1, [], O, gotR A k 0, ?_, ch1.len, fun i hi => ch1.same i (by omega) (by omega), h.re t1 ko1 kg1 h.on (gotR_nd h.an) h.ol (Nat.le_trans gotR_len al) h.oz (fun x hx => h.az x (gotR_mem hx)) ch1.wf, rfl, by simp [kA, gotD, EV.isNon], by unfold tgO; rw [if_pos kA], ?_⟩
      · rw [List.append_nil]
        refine fn_ret (N := N_TwoKeep_get) (ds := [rf n, .str k, .int 0]) (st := ⟨vs0.set 3 (some (gotD (some r))), so1⟩) ?_
        show m_TwoKeep_get ⟨vs0, so⟩ = _
        unfold m_TwoKeep_get
        rw [seq_ok s1]
        exact seq_ret s2
      · rw [gR, keys_app, keys_filt_ne]
        unfold tgA
        rw [if_pos kA]
        simp [keys, rk]
  · have hfA : A.find? (fun r => decide (r.1 = k)) = none := find_none.mpr kA
    have gRA : gotR A k 0 = A := by unfold gotR; rw [gz, hfA]; simpa using filter_not kA
    rw [hfA] at s1 kg1
    rw [gRA] at kg1
    have cc : eB (eOp dNotN (eVar 3) (eC .none)) ⟨vs0.set 3 (some (gotD none)), so1⟩ = .ok false so1 := b_ok (op_ok (var_ok rfl) c_ok rfl)
    have s2 : sIf (eB (eOp dNotN (eVar 3) (eC .none))) (sRet (eVar 3)) (sNext) ⟨vs0.set 3 (some (gotD none)), so1⟩ = .ok .nx ⟨vs0.set 3 (some (gotD none)), so1⟩ := if_f cc
    obtain ⟨so2, e2, ch2, ko2⟩ := keep_get ko1 ch1.wf h.on (by omega) k 0
    have q2 : eMeth 0 3 "get" g_AnswerKeep_get (eFld 2 "once" (eVar 0)) (eCons (eVar 1) (eCons (eVar 2) (eNil))) ⟨vs0.set 3 (some (gotD none)), so1⟩ = .ok _ so2 := meth_same (once_ok rfl (t1.trans h.t)) (is_keep (nm := "get") ko1.o rfl) (two_ok (var_ok rfl) (var_ok rfl)) rfl e2 ch2.len
    have s3 := asgN (i := 3) q2
    have oz := got_z (k := k) h.oz
    rw [oz] at s3 ko2
    have kg2 := kg1.of (ch2.same (n + 3) (by omega) (by omega)) (ch2.same (n + 4) (by omega) (by omega))
    have t2 : so2[n]? = so[n]? := (ch2.same n (by omega) (by omega)).trans t1
    have l2 : so2.length = so.length := ch2.len.trans ch1.len
    by_cases kO : k ∈ keys O
    · cases hf : O.find? fun r => decide (r.1 = k) with
      | none => exact absurd kO (find_none.mp hf)
      | some r =>
        obtain ⟨rk, rm⟩ := find_key hf
        obtain ⟨rz, rc⟩ := h.oz r rm
        rw [hf] at s3 ko2
        obtain ⟨vs3, hvs3⟩ : ∃ vs3, vs3 = (vs0.set 3 (some (gotD none))).set 3 (some (gotD (some r))) := ⟨_, rfl⟩
        rw [← hvs3] at s3
        have w0 : vs3[0]? = some (some (rf n)) := by rw [hvs3]; rfl
        have w1 : vs3[1]? = some (some (.str k)) := by rw [hvs3]; rfl
        have w3 : vs3[3]? = some (some (gotD (some r))) := by rw [hvs3]; rfl
        have wl : vs3.length = 7 := by rw [hvs3]; rfl
        have cc2 : eB (eOp dNotN (eVar 3) (eC .none)) ⟨vs3, so2⟩ = .ok true so2 := b_ok (op_ok (var_ok w3) c_ok rfl)
        have gRO : gotR O k 0 = O.filter (fun r => decide (r.1 ≠ k)) ++ [r] := by unfold gotR; rw [oz, hf]; rfl
        obtain ⟨vs', bf, e4, vsame, lb, same, kg4, ko4⟩ := tgB_ok (O := O) wl w0 w1 (t2.trans h.t) ko2 kg2 ch2.wf gRO rk rz rc h.on h.an ol al kA h.az h.m1 m9
        have s4 : sIf (eB (eOp dNotN (eVar 3) (eC .none))) tgB (sNext) ⟨vs3, so2⟩ = .ok .nx ⟨vs', bf⟩ := (if_t cc2).trans e4
        have s5 := ret_ok (so := bf) (var_ok ((vsame 3 (by decide)).trans w3))
        have lg := kg2.lr
        have tk : ∀ i, i < so.length → (bf.take so.length)[i]? = bf[i]? := fun i hi => List.getElem?_take_of_lt hi
        have kb := ko4.of (tk (n + 1) (by omega)) (tk (n + 2) (by omega))
        have gb := kg4.of (tk (n + 3) (by omega)) (tk (n + 4) (by omega))
        have wb : WF (bf.take so.length) := wf_cut (by omega) fun i hi o ho => by
          by_cases h1 : i = n + 1
          · subst h1; rw [ko4.o] at ho; cases ho; exact lim_keep (by omega)
          by_cases h2 : i = n + 2
          · subst h2; rw [ko4.d] at ho; cases ho; exact lim_rows
          by_cases h3 : i = n + 3
          · subst h3; rw [kg4.o] at ho; cases ho; exact lim_keep (by omega)
          by_cases h4 : i = n + 4
          · subst h4; rw [kg4.d] at ho; cases ho; exact lim_rows
          have := same i (by omega) h1 h2 h3 h4
          rw [ho] at this
          have := ch2.wf.get this.symm
          rwa [l2] at this
        have fl := List.length_filter_le (fun x : Row => decide (x.1 ≠ k)) O
        have fin : (keys (onceN m k O A)).Nodup ∧ ((onceN m k O A).length : Int) ≤ m ∧ (∀ x ∈ (onceN m k O A), x.2.1 = 0 ∧ 0 ≤ x.2.2.2) ∧ keys (onceN m k O A) = tgO m.toNat k (keys O) (keys A) := by
          have az := h.az
          cases A with
          | nil =>
            show (keys (O.filter fun x => decide (x.1 ≠ k))).Nodup ∧ ((O.filter fun x => decide (x.1 ≠ k)).length : Int) ≤ m ∧ (∀ x ∈ O.filter (fun x => decide (x.1 ≠ k)), x.2.1 = 0 ∧ 0 ≤ x.2.2.2) ∧ keys (O.filter fun x => decide (x.1 ≠ k)) = _
            refine ⟨keys_filter _ h.on, by omega, fun x hx => h.oz x (List.mem_filter.mp hx).1, ?_⟩
            unfold tgO
            rw [if_neg kA, if_pos kO]
            have : ((keys O).filter fun x => decide (x ≠ k) && decide (x ∉ keys [])) ++ keys [] = keys (O.filter fun x => decide (x.1 ≠ k)) := by
              rw [keys_filt_ne]
              simp [keys]
            rw [this]
            have z : (keys (O.filter fun x => decide (x.1 ≠ k))).length - m.toNat = 0 := by
              have : (keys (O.filter fun x => decide (x.1 ≠ k))).length = (O.filter fun x => decide (x.1 ≠ k)).length := by simp only [keys, List.length_map]
              omega
            rw [z]
            rfl
          | cons g A' =>
            have hA' : A' = [] := by
              cases A' with
              | nil => rfl
              | cons _ _ => simp at al
            subst hA'
            show (keys (putR m (O.filter fun x => decide (x.1 ≠ k)) g)).Nodup ∧ ((putR m (O.filter fun x => decide (x.1 ≠ k)) g).length : Int) ≤ m ∧ (∀ x ∈ putR m (O.filter fun x => decide (x.1 ≠ k)) g, x.2.1 = 0 ∧ 0 ≤ x.2.2.2) ∧ keys (putR m (O.filter fun x => decide (x.1 ≠ k)) g) = _
            refine ⟨putR_nd (keys_filter _ h.on), putR_len h.m1, fun x hx => ?_, ?_⟩
            · rcases putR_mem hx with hx | hx
              · exact h.oz x (List.mem_filter.mp hx).1
              · rw [hx]; exact az g (by simp)
            · unfold tgO
              rw [if_neg kA, if_pos kO]
              unfold putR
              have : ((keys O).filter fun x => decide (x ≠ k) && decide (x ∉ keys [g])) ++ keys [g] = keys ((O.filter fun x => decide (x.1 ≠ k)).filter (fun x => decide (x.1 ≠ g.1)) ++ [g]) := by
                rw [keys_app, keys_filt_ne, keys_filt_ne, List.filter_filter]
                congr 1
                apply List.filter_congr
                intro x _
                simp [keys, Bool.and_comm]
              rw [keys_drop, this]
              congr 1
              simp [keys]
        obtain ⟨f1, f2, f3, f4⟩ := fin
        refine ⟨gotD (some r), bf.take so.length, bf.drop so.length, _, [r], ?_, by rw [List.length_take]; omega, fun i hi => ?_, h.re ?_ kb gb f1 (by simp [keys]) f2 (by simp) f3 (by simp; exact ⟨rz, rc⟩) wb, rfl, by simp [kO, gotD, EV.isNon], f4, ?_⟩
        · rw [List.take_append_drop]
          refine fn_ret (N := N_TwoKeep_get) (ds := [rf n, .str k, .int 0]) (st := ⟨vs', bf⟩) ?_
          show m_TwoKeep_get ⟨vs0, so⟩ = _
          unfold m_TwoKeep_get
          rw [seq_ok s1, seq_ok s2, seq_ok s3]
          exact (seq_ok s4).trans s5
        · rw [tk i (by omega), same i (by omega) (by omega) (by omega) (by omega) (by omega)]
          exact (ch2.same i (by omega) (by omega)).trans (ch1.same i (by omega) (by omega))
        · rw [tk n (by omega), same n (by omega) (by omega) (by omega) (by omega) (by omega), t2]
        · unfold tgA
          rw [if_neg kA, if_pos kO]
          simp [keys, rk]
    · have hfO : O.find? (fun r => decide (r.1 = k)) = none := find_none.mpr kO
      have gRO : gotR O k 0 = O := by unfold gotR; rw [oz, hfO]; simpa using filter_not kO
      rw [hfO] at s3 ko2
      rw [gRO] at ko2
      have cc2 : eB (eOp dNotN (eVar 3) (eC .none)) ⟨(vs0.set 3 (some (gotD none))).set 3 (some (gotD none)), so2⟩ = .ok false so2 := b_ok (op_ok (var_ok rfl) c_ok rfl)
      have s4 : sIf (eB (eOp dNotN (eVar 3) (eC .none))) tgB (sNext) ⟨(vs0.set 3 (some (gotD none))).set 3 (some (gotD none)), so2⟩ = .ok .nx ⟨(vs0.set 3 (some (gotD none))).set 3 (some (gotD none)), so2⟩ := if_f cc2
      have s5 : sRet (eVar 3) ⟨(vs0.set 3 (some (gotD none))).set 3 (some (gotD none)), so2⟩ = .ok (.ret (gotD none)) ⟨_, so2⟩ := ret_ok (var_ok rfl)
      refine ⟨gotD none, so2, [], O, A, ?_, l2, fun i hi => (ch2.same i (by omega) (by omega)).trans (ch1.same i (by omega) (by omega)), h.re t2 ko2 kg2 h.on h.an h.ol h.al h.oz h.az ch2.wf, rfl, by simp [kA, kO, gotD, EV.isNon], by unfold tgO; rw [if_neg kA, if_neg kO], by unfold tgA; rw [if_neg kA, if_neg kO]⟩
      rw [List.append_nil]
      refine fn_ret (N := N_TwoKeep_get) (ds := [rf n, .str k, .int 0]) (st := ⟨(vs0.set 3 (some (gotD none))).set 3 (some (gotD none)), so2⟩) ?_
      show m_TwoKeep_get ⟨vs0, so⟩ = _
      unfold m_TwoKeep_get
      rw [seq_ok s1, seq_ok s2, seq_ok s3]
      exact (seq_ok s4).trans s5
end K21
end
section
set_option Elab.async false
set_option linter.all false
set_option maxRecDepth 10000
set_option maxHeartbeats 4000000
namespace K21
open PySem EV
open L2 (Key atI ixN)
def tpO (m : Nat) (k : PySem.Str) (O A : List PySem.Str) : List PySem.Str := if k ∈ A then O else ((O.filter fun x => decide (x ≠ k)) ++ [k]).drop (((O.filter fun x => decide (x ≠ k)) ++ [k]).length - m)
def tpA (k : PySem.Str) (A : List PySem.Str) : List PySem.Str := if k ∈ A then (A.filter fun x => decide (x ≠ k)) ++ [k] else A
theorem keys_put (m : Int) (rows : List Row) (r : Row) : keys (putR m rows r) = (((keys rows).filter fun x => decide (x ≠ r.1)) ++ [r.1]).drop ((((keys rows).filter fun x => decide (x ≠ r.1)) ++ [r.1]).length - m.toNat) := by
  have e : keys (rows.filter (fun x => decide (x.1 ≠ r.1)) ++ [r]) = ((keys rows).filter fun x => decide (x ≠ r.1)) ++ [r.1] := by
    rw [keys_app, keys_filt_ne]; rfl
  unfold putR
  rw [keys_drop, e]
  congr 2
  rw [← e]
  simp [keys]
theorem in_dk {so : List SO} {r : Nat} {rows : List Row} {k : PySem.Str} (h : so[r]? = some (.dct (rows.map kvR))) : dIn (.str k) (rf r) so = some (.bool (decide (k ∈ keys rows)), so) := by
  rw [in_dct h, get_kv]
  congr 3
  cases hf : rows.find? fun r => decide (r.1 = k) with
  | none => simp [find_none.mp hf]
  | some x =>
    obtain ⟨e, hm⟩ := find_key hf
    have : k ∈ keys rows := List.mem_map.mpr ⟨x, hm, e⟩
    simp [this]
theorem two_put {so : List SO} {n : Nat} {m : Int} {O A : List Row} (h : Two so n m O A) (k : PySem.Str) (x : Int) :
    ∃ base O' A', g_TwoKeep_put [rf n, .str k, .int 0, .int x, .int 1] so = .ok .none base ∧ base.length = so.length ∧ (∀ i, i < n → base[i]? = so[i]?) ∧ Two base n m O' A' ∧ keys O' = tpO m.toNat k (keys O) (keys A) ∧ keys A' = tpA k (keys A) := by
  obtain ⟨a2, b2, c2, kg⟩ := h.g
  obtain ⟨a1, b1, c1, ko⟩ := h.o
  have m9 := h.m9
  have ol := h.ol
  have al := h.al
  let vs0 : List (Option D) := [some (rf n), some (.str k), some (.int 0), some (.int x), some (.int 1)]
  have cc : eB (eOp dIn (eVar 1) (eFld 2 "rows" (eFld 2 "again" (eVar 0)))) ⟨vs0, so⟩ = .ok (decide (k ∈ keys A)) so := b_ok (op_ok (var_ok rfl) (fld_ok (again_ok rfl h.t) kg.o lk_rows) (in_dk kg.d))
  have pl : ∀ (m : Int) (rows : List Row) (r : Row), lim so.length (.tuple ((goneR m rows r).map fun r => .str r.1)) = true := fun m rows r => lim_plain _ (by
    unfold PyData.plain
    exact plainAll_of fun y hy => by
      obtain ⟨z, _, rfl⟩ := List.mem_map.mp hy
      rfl)
  by_cases kA : k ∈ keys A
  · rw [decide_eq_true kA] at cc
    obtain ⟨base, ex, e, lb, wb, sb, kb⟩ := keep_put kg h.wf h.an (by omega) (by omega) (by omega) (k, 0, x, 1) (by show (0 : Int) ≤ 1; decide)
    have q : eMeth 0 5 "put" g_AnswerKeep_put (eFld 2 "again" (eVar 0)) (eCons (eVar 1) (eCons (eVar 2) (eCons (eVar 3) (eCons (eVar 4) (eNil))))) ⟨vs0, so⟩ = .ok _ base := meth_app (again_ok rfl h.t) (is_keep (nm := "put") kg.o rfl) (cons_ok (var_ok rfl) (cons_ok (var_ok rfl) (two_ok (var_ok rfl) (var_ok rfl)))) rfl e lb wb (pl _ _ _)
    have s := (if_t (f := sExpr (eMeth 0 5 "put" g_AnswerKeep_put (eFld 2 "again" (eVar 0)) (eCons (eVar 1) (eCons (eVar 2) (eCons (eVar 3) (eCons (eVar 4) (eNil))))))) (g := sExpr (eMeth 0 5 "put" g_AnswerKeep_put (eFld 2 "once" (eVar 0)) (eCons (eVar 1) (eCons (eVar 2) (eCons (eVar 3) (eCons (eVar 4) (eNil))))))) cc).trans (expr_ok q)
    refine ⟨base, O, putR 1 A (k, 0, x, 1), ?_, lb, fun i hi => sb i (by omega), h.re (sb n (by omega)) (ko.of (sb _ (by omega)) (sb _ (by omega))) kb h.on (putR_nd h.an) h.ol (by have := putR_len (m := 1) (rows := A) (x := (k, 0, x, 1)) (by omega); omega) h.oz (fun y hy => ?_) wb, by unfold tpO; rw [if_pos kA], ?_⟩
    · show (match m_TwoKeep_put ⟨vs0, so⟩ with
        | .ok .nx st => .ok .none st.so
        | .ok (.ret d) st => .ok d st.so
        | .ok _ _ => .bad
        | .exc c st => .exc c st.so
        | .bad => .bad : R D) = _
      unfold m_TwoKeep_put
      rw [s]
    · rcases putR_mem hy with hy | hy
      · exact h.az y hy
      · rw [hy]; exact ⟨rfl, by show (0 : Int) ≤ 1; decide⟩
    · unfold tpA
      rw [if_pos kA, keys_put]
      have : (((keys A).filter fun x => decide (x ≠ k)) ++ [k]).length - (1 : Int).toNat = 0 := by
        have : ((keys A).filter fun x => decide (x ≠ k)).length < (keys A).length := by
          exact List.length_filter_lt_length_iff_exists.mpr ⟨k, kA, by simp⟩
        have : (keys A).length = A.length := by simp [keys]
        rw [List.length_append]
        simp only [List.length_cons, List.length_nil]
        omega
      rw [this]
      rfl
  · rw [decide_eq_false kA] at cc
    obtain ⟨base, ex, e, lb, wb, sb, kb⟩ := keep_put ko h.wf h.on h.m1 h.ol (by omega) (k, 0, x, 1) (by show (0 : Int) ≤ 1; decide)
    have q : eMeth 0 5 "put" g_AnswerKeep_put (eFld 2 "once" (eVar 0)) (eCons (eVar 1) (eCons (eVar 2) (eCons (eVar 3) (eCons (eVar 4) (eNil))))) ⟨vs0, so⟩ = .ok _ base := meth_app (once_ok rfl h.t) (is_keep (nm := "put") ko.o rfl) (cons_ok (var_ok rfl) (cons_ok (var_ok rfl) (two_ok (var_ok rfl) (var_ok rfl)))) rfl e lb wb (pl _ _ _)
    have s := (if_f (f := sExpr (eMeth 0 5 "put" g_AnswerKeep_put (eFld 2 "again" (eVar 0)) (eCons (eVar 1) (eCons (eVar 2) (eCons (eVar 3) (eCons (eVar 4) (eNil))))))) (g := sExpr (eMeth 0 5 "put" g_AnswerKeep_put (eFld 2 "once" (eVar 0)) (eCons (eVar 1) (eCons (eVar 2) (eCons (eVar 3) (eCons (eVar 4) (eNil))))))) cc).trans (expr_ok q)
    refine ⟨base, putR m O (k, 0, x, 1), A, ?_, lb, fun i hi => sb i (by omega), h.re (sb n (by omega)) kb (kg.of (sb _ (by omega)) (sb _ (by omega))) (putR_nd h.on) h.an (putR_len h.m1) h.al (fun y hy => ?_) h.az wb, ?_, by unfold tpA; rw [if_neg kA]⟩
    · show (match m_TwoKeep_put ⟨vs0, so⟩ with
        | .ok .nx st => .ok .none st.so
        | .ok (.ret d) st => .ok d st.so
        | .ok _ _ => .bad
        | .exc c st => .exc c st.so
        | .bad => .bad : R D) = _
      unfold m_TwoKeep_put
      rw [s]
    · rcases putR_mem hy with hy | hy
      · exact h.oz y hy
      · rw [hy]; exact ⟨rfl, by show (0 : Int) ≤ 1; decide⟩
    · unfold tpO
      rw [if_neg kA, keys_put]
theorem two_keys {so : List SO} {n : Nat} {m : Int} {O A : List Row} (h : Two so n m O A) : g_TwoKeep_kept_keys [rf n] so = .ok (.tuple [.tuple (strL (keys O)), .tuple (strL (keys A))]) so := by
  obtain ⟨a2, b2, c2, kg⟩ := h.g
  obtain ⟨a1, b1, c1, ko⟩ := h.o
  have m9 := h.m9
  have ol := h.ol
  have al := h.al
  have tk : ∀ (r : Nat) (rows : List Row), so[r]? = some (.dct (rows.map kvR)) → rows.length ≤ 1000 → dTupA [rf r] so = some (.tuple (strL (keys rows)), so) := fun r rows hr hl => by
    have hl' : (rows.map kvR).length ≤ mx := by rw [List.length_map]; unfold mx; omega
    simp only [dTupA, lstOf, dctOf, Int.toNat_natCast, hr, if_pos hl']
    rw [List.map_map]
    simp only [keys, strL, List.map_map]
    rfl
  let vs0 : List (Option D) := [some (rf n)]
  have q : eTup (eCons (eCB dTupA (eCons (eFld 2 "rows" (eFld 2 "once" (eVar 0))) (eNil))) (eCons (eCB dTupA (eCons (eFld 2 "rows" (eFld 2 "again" (eVar 0))) (eNil))) (eNil))) ⟨vs0, so⟩ = .ok (.tuple [.tuple (strL (keys O)), .tuple (strL (keys A))]) so :=
    tup_ok (two_ok (cb_ok (one_ok (fld_ok (once_ok rfl h.t) ko.o lk_rows)) (tk _ _ ko.d (by omega))) (cb_ok (one_ok (fld_ok (again_ok rfl h.t) kg.o lk_rows)) (tk _ _ kg.d (by omega))))
  exact fn_ret (N := N_TwoKeep_kept_keys) (ds := [rf n]) (st := ⟨vs0, so⟩) (ret_ok q)
theorem Two.dice {so : List SO} {n : Nat} {m : Int} {O A : List Row} (h : Two so n m O A) {o : SO} (ho : isDi o) {j : Nat} (hj : j < n) : Two (so.set j o) n m O A := by
  obtain ⟨a2, b2, c2, kg⟩ := h.g
  obtain ⟨a1, b1, c1, ko⟩ := h.o
  have ne : ∀ i, n ≤ i → (so.set j o)[i]? = so[i]? := fun i hi => List.getElem?_set_ne (by omega)
  exact h.re (ne n (by omega)) (ko.of (ne _ (by omega)) (ne _ (by omega))) (kg.of (ne _ (by omega)) (ne _ (by omega))) h.on h.an h.ol h.al h.oz h.az (h.wf.set ho.lim)
/-- signs that stay -/
theorem lc_strs {f : M D} {t : M Bool} {S : List SO} {vars : List (Option D)} {v : Nat} {l : List PySem.Str} {p : PySem.Str → Bool} (hw : WF S) (hi : f ⟨vars, S⟩ = .ok (.list (strL l)) S) (hl : l.length ≤ 1000)
    (ht : ∀ x ∈ l, ∀ acc, t ⟨(wipeD vars [v]).set v (some (.str x)), S ++ [.lst acc]⟩ = .ok (p x) (S ++ [.lst acc])) (hv : v < vars.length) :
    eLc false (iIt f) (tName v) t (eVar v) [v] ⟨vars, S⟩ = .ok (.list (strL (l.filter p))) S := by
  obtain ⟨q, hq⟩ : ∃ q : D → PySem.Str, ∀ x, q (.str x) = x := ⟨fun d => match d with | .str k => k | _ => "", fun x => rfl⟩
  have := lc_list (g := tName v) (t := t) (e := eVar v) (vs := [v]) (vv := fun d => (wipeD vars [v]).set v (some d)) (p := fun d => p (q d)) (φ := id) hw hi (by rw [List.length_map]; unfold mx; omega)
    (fun d _ acc => rfl)
    (fun d hd acc => by
      obtain ⟨x, hx, rfl⟩ := List.mem_map.mp hd
      rw [hq]; exact ht x hx acc)
    (fun d hd _ acc => var_ok (wv hv))
    (fun d hd => by
      obtain ⟨x, hx, rfl⟩ := List.mem_map.mp hd
      rfl)
  rw [this, List.map_id]
  congr 2
  rw [List.filter_map]
  congr 1
  apply List.filter_congr
  intro x _
  simp [hq]
theorem cut_neg {α : Type} (xs : List α) {k : Nat} (hk : 1 ≤ k) : cutD xs (some (-(k : Int))) none = xs.drop (xs.length - k) := by
  unfold cutD
  have : HT.sIx xs.length 0 (some (-(k : Int))) = xs.length - k := by
    unfold HT.sIx
    simp only
    rw [if_pos (by omega)]
    omega
  rw [HT.sIx_none, this, List.take_of_length_le (by rw [List.length_drop]; exact Nat.le_refl _)]
theorem neg_ok {f : M D} {vars : List (Option D)} {so : List SO} {i : Int} (h : f ⟨vars, so⟩ = .ok (.int i) so) : eNeg f ⟨vars, so⟩ = .ok (.int (-i)) so := by
  unfold eNeg
  rw [bnd_ok h]
  rfl
theorem add_strs {a b : List PySem.Str} {so : List SO} (h : a.length + b.length ≤ mx) : dAdd (.list (strL a)) (.list (strL b)) so = some (.list (strL (a ++ b)), so) := by
  have h' : (strL a).length + (strL b).length ≤ mx := by rw [List.length_map, List.length_map]; exact h
  unfold dAdd
  simp only [lstOf, if_pos h']
  rw [← List.map_append]
theorem notin_list {l : List PySem.Str} {a : PySem.Str} {so : List SO} : dNotIn (.str a) (.list (strL l)) so = some (.bool (!decide (a ∈ l)), so) := by
  have d := deep_strL l
  have e : deepOk (.str a) = true := rfl
  simp only [dNotIn, inGo, dref, d, e, and_self, if_true, any_strL]
  rfl
end K21
end
section
set_option Elab.async false
set_option linter.all false
set_option maxRecDepth 10000
set_option maxHeartbeats 4000000
namespace K21
open PySem EV
open L2 (Key atI ixN)
/-! ### the second loop -/
structure M4 (vars : List (Option D)) (so : List SO) (asks : List PySem.Str) (m n : Nat) (O A : List Row) : Prop where
  b : M3 vars so asks m
  v7 : vars[7]? = some (some (.int 0))
  v15 : vars[15]? = some (some (rf n))
  v16 : vars[16]? = some (some (.list (strL (keys A))))
  v17 : vars[17]? = some (some (.list (strL (keys O))))
  two : Two so n (m : Nat) O A
  n1 : 1 < n
theorem M3.name {vars : List (Option D)} {so : List SO} {asks : List PySem.Str} {m i : Nat} {d : Option D} (h : M3 vars so asks m) (h2 : 2 ≤ i) (h12 : i ≠ 12) (h13 : i ≠ 13) : M3 (vars.set i d) so asks m :=
  ⟨h.b.name h2, by rw [List.getElem?_set_ne h12]; exact h.v12, by rw [List.getElem?_set_ne h13]; exact h.v13, h.al, h.a1, h.m1, h.m3⟩
theorem M4.name {vars : List (Option D)} {so : List SO} {asks : List PySem.Str} {m n i : Nat} {O A : List Row} {d : Option D} (h : M4 vars so asks m n O A) (h2 : 2 ≤ i) (h12 : i ≠ 12) (h13 : i ≠ 13) (h7 : i ≠ 7) (h15 : i ≠ 15) (h16 : i ≠ 16) (h17 : i ≠ 17) : M4 (vars.set i d) so asks m n O A :=
  ⟨h.b.name h2 h12 h13, by rw [List.getElem?_set_ne h7]; exact h.v7, by rw [List.getElem?_set_ne h15]; exact h.v15, by rw [List.getElem?_set_ne h16]; exact h.v16, by rw [List.getElem?_set_ne h17]; exact h.v17, h.two, h.n1⟩
theorem M4.roll {vars : List (Option D)} {so : List SO} {asks : List PySem.Str} {m n : Nat} {O A : List Row} (h : M4 vars so asks m n O A) {o : SO} (ho : isDi o) : M4 vars (so.set 1 o) asks m n O A :=
  ⟨⟨h.b.b.roll ho, h.b.v12, h.b.v13, h.b.al, h.b.a1, h.b.m1, h.b.m3⟩, h.v7, h.v15, h.v16, h.v17, h.two.dice ho h.n1, h.n1⟩
/-- the law's own lists and the two keeps after a step -/
theorem M4.mk' {vars : List (Option D)} {so so' : List SO} {asks : List PySem.Str} {m n : Nat} {O A O' A' : List Row} (h : M4 vars so asks m n O A) (same : ∀ i, i < n → so'[i]? = so[i]?) (tw : Two so' n (m : Nat) O' A') :
    M4 ((vars.set 16 (some (.list (strL (keys A'))))).set 17 (some (.list (strL (keys O'))))) so' asks m n O' A' := by
  have hl := h.b.b.len
  have v1 := h.b.b.v1
  have v12 := h.b.v12
  have v13 := h.b.v13
  have v7 := h.v7
  have v15 := h.v15
  have l16 : (vars.set 16 (some (PyData.list (strL (keys A'))))).length = 27 := by simpa using hl
  exact ⟨⟨⟨by simpa using hl, by ((repeat rw [List.getElem?_set_ne (by decide)]); first | (rw [List.getElem?_set_self (by (try simp only [List.length_set]); omega)]; done) | assumption), h.b.b.dice.of (same 1 h.n1), tw.wf⟩, by ((repeat rw [List.getElem?_set_ne (by decide)]); first | (rw [List.getElem?_set_self (by (try simp only [List.length_set]); omega)]; done) | assumption), by ((repeat rw [List.getElem?_set_ne (by decide)]); first | (rw [List.getElem?_set_self (by (try simp only [List.length_set]); omega)]; done) | assumption), h.b.al, h.b.a1, h.b.m1, h.b.m3⟩, by ((repeat rw [List.getElem?_set_ne (by decide)]); first | (rw [List.getElem?_set_self (by (try simp only [List.length_set]); omega)]; done) | assumption), by ((repeat rw [List.getElem?_set_ne (by decide)]); first | (rw [List.getElem?_set_self (by (try simp only [List.length_set]); omega)]; done) | assumption), by ((repeat rw [List.getElem?_set_ne (by decide)]); first | (rw [List.getElem?_set_self (by (try simp only [List.length_set]); omega)]; done) | assumption), by ((repeat rw [List.getElem?_set_ne (by decide)]); first | (rw [List.getElem?_set_self (by (try simp only [List.length_set]); omega)]; done) | assumption), tw, h.n1⟩
theorem set_id {vars : List (Option D)} {i : Nat} {d : Option D} (h : vars[i]? = some d) : vars.set i d = vars := by
  obtain ⟨hl, e⟩ := List.getElem?_eq_some_iff.mp h
  subst e
  exact List.set_getElem_self hl
def g2 : MS := sIf (eB (eOp dIn (eVar 6) (eVar 16))) (sAsg (eOp dAdd (eLc false (iIt (eVar 16)) (tName 25) (eB (eOp dNe (eVar 25) (eVar 6))) (eVar 25) [25]) (eLst (eCons (eVar 6) (eNil)))) (tName 16)) (sIf (eB (eOp dIn (eVar 6) (eVar 17))) (sSeq (sAsg (eTup (eCons (eVar 16) (eCons (eLst (eCons (eVar 6) (eNil))) (eNil)))) (EV.tTup 2 (EV.tCons (tName 19) (EV.tCons (tName 16) (EV.tNil))))) (sAsg (eSl (eOp dAdd (eLc false (iIt (eVar 17)) (tName 25) (mAnd (eB (eOp dNe (eVar 25) (eVar 6))) (eB (eOp dNotIn (eVar 25) (eVar 19)))) (eVar 25) [25]) (eVar 19)) (oSome (eNeg (eVar 13))) (oNone)) (tName 17))) (sNext))
theorem ne_filter {vars : List (Option D)} {so : List SO} {i : Nat} {l : List PySem.Str} {k : PySem.Str} (hl : vars.length = 27) (hw : WF so) (hi : vars[i]? = some (some (.list (strL l)))) (v6 : vars[6]? = some (some (.str k))) (ll : l.length ≤ 1000) :
    eLc false (iIt (eVar i)) (tName 25) (eB (eOp dNe (eVar 25) (eVar 6))) (eVar 25) [25] ⟨vars, so⟩ = .ok (.list (strL (l.filter fun x => decide (x ≠ k)))) so :=
  lc_strs (p := fun x => decide (x ≠ k)) hw (var_ok hi) ll (fun x hx acc => by
    rw [b_ok (op_ok (var_ok (wv (by omega))) (var_ok (wo (by decide) v6)) (dNe_ss x k _))]
    simp) (by omega)
theorem g2_ok {vars : List (Option D)} {so : List SO} {m : Nat} {O A : List PySem.Str} {k : PySem.Str} (hl : vars.length = 27) (hw : WF so) (v6 : vars[6]? = some (some (.str k))) (v13 : vars[13]? = some (some (.int (m : Nat)))) (v16 : vars[16]? = some (some (.list (strL A)))) (v17 : vars[17]? = some (some (.list (strL O)))) (m1 : 1 ≤ m) (ol : O.length ≤ 100) (al : A.length ≤ 100) :
    ∃ d19, g2 ⟨vars, so⟩ = .ok .nx ⟨((vars.set 19 d19).set 16 (some (.list (strL (tgA k O A))))).set 17 (some (.list (strL (tgO m k O A)))), so⟩ := by
  have c1 : eB (eOp dIn (eVar 6) (eVar 16)) ⟨vars, so⟩ = .ok (decide (k ∈ A)) so := b_ok (op_ok (var_ok v6) (var_ok v16) in_list)
  have c2 : eB (eOp dIn (eVar 6) (eVar 17)) ⟨vars, so⟩ = .ok (decide (k ∈ O)) so := b_ok (op_ok (var_ok v6) (var_ok v17) in_list)
  have l19 : 19 < vars.length := by omega
  have keep19 : vars.set 19 (vars[19]) = vars := List.set_getElem_self l19
  unfold g2
  by_cases kA : k ∈ A
  · rw [decide_eq_true kA] at c1
    have fl := List.length_filter_le (fun x => decide (x ≠ k)) A
    have q := asgN (i := 16) (op_ok (ne_filter hl hw v16 v6 (by omega)) (lst_ok (one_ok (var_ok v6))) (add_strs (b := [k]) (by simp only [List.length_cons, List.length_nil]; unfold mx; omega)))
    refine ⟨vars[19], ?_⟩
    rw [if_t c1, q, keep19]
    unfold tgA tgO
    rw [if_pos kA, if_pos kA]
    congr 2
    have : (vars.set 16 (some (PyData.list (strL (A.filter (fun x => decide (x ≠ k)) ++ [k])))))[17]? = some (some (.list (strL O))) := by ((repeat rw [List.getElem?_set_ne (by decide)]); first | (rw [List.getElem?_set_self (by (try simp only [List.length_set]); omega)]; done) | assumption)
    exact (set_id this).symm
  · rw [decide_eq_false kA] at c1
    rw [if_f c1]
    by_cases kO : k ∈ O
    · rw [decide_eq_true kO] at c2
      rw [if_t c2]
      have e1 := asg_ok (g := EV.tTup 2 (EV.tCons (tName 19) (EV.tCons (tName 16) (EV.tNil)))) (tup_ok (two_ok (var_ok (so := so) v16) (lst_ok (one_ok (var_ok v6)))))
      have e1' : sAsg (eTup (eCons (eVar 16) (eCons (eLst (eCons (eVar 6) (eNil))) (eNil)))) (EV.tTup 2 (EV.tCons (tName 19) (EV.tCons (tName 16) (EV.tNil)))) ⟨vars, so⟩ = .ok .nx ⟨(vars.set 19 (some (.list (strL A)))).set 16 (some (.list (strL [k]))), so⟩ := e1
      obtain ⟨vs, hvs⟩ : ∃ vs, vs = (vars.set 19 (some (PyData.list (strL A)))).set 16 (some (.list (strL [k]))) := ⟨_, rfl⟩
      have vl : vs.length = 27 := by rw [hvs]; simpa using hl
      have w6 : vs[6]? = some (some (.str k)) := by rw [hvs]; ((repeat rw [List.getElem?_set_ne (by decide)]); first | (rw [List.getElem?_set_self (by (try simp only [List.length_set]); omega)]; done) | assumption)
      have w13 : vs[13]? = some (some (.int (m : Nat))) := by rw [hvs]; ((repeat rw [List.getElem?_set_ne (by decide)]); first | (rw [List.getElem?_set_self (by (try simp only [List.length_set]); omega)]; done) | assumption)
      have w17 : vs[17]? = some (some (.list (strL O))) := by rw [hvs]; ((repeat rw [List.getElem?_set_ne (by decide)]); first | (rw [List.getElem?_set_self (by (try simp only [List.length_set]); omega)]; done) | assumption)
      have w19 : vs[19]? = some (some (.list (strL A))) := by rw [hvs]; ((repeat rw [List.getElem?_set_ne (by decide)]); first | (rw [List.getElem?_set_self (by (try simp only [List.length_set]); omega)]; done) | assumption)
      have q1 := lc_strs (v := 25) (f := eVar 17) (t := mAnd (eB (eOp dNe (eVar 25) (eVar 6))) (eB (eOp dNotIn (eVar 25) (eVar 19)))) (vars := vs) (p := fun x => decide (x ≠ k) && decide (x ∉ A)) hw (var_ok w17) (by omega) (fun x hx acc => by
        have a1 := b_ok (op_ok (f1 := eVar 25) (f2 := eVar 6) (so := so ++ [.lst acc]) (var_ok (wv (d := PyData.str x) (by omega : 25 < vs.length))) (var_ok (wo (by decide) w6)) (dNe_ss x k _))
        by_cases hx : x = k
        · rw [show (!decide (x = k)) = false by simp [hx]] at a1
          rw [and_f a1]
          simp [hx]
        · rw [show (!decide (x = k)) = true by simp [hx]] at a1
          have a2 := b_ok (op_ok (f1 := eVar 25) (f2 := eVar 19) (so := so ++ [.lst acc]) (var_ok (wv (d := PyData.str x) (by omega : 25 < vs.length))) (var_ok (wo (by decide) w19)) notin_list)
          rw [and_ok a1 a2]
          simp [hx]) (by omega)
      have fl := List.length_filter_le (fun x => decide (x ≠ k) && decide (x ∉ A)) O
      have q2 := op_ok q1 (var_ok w19) (add_strs (by unfold mx; omega))
      have ng : oSome (eNeg (eVar 13)) ⟨vs, so⟩ = .ok (some (-((m : Nat) : Int))) so := osome_ok (neg_ok (var_ok w13))
      have s1 : dSl (.list (strL (O.filter (fun x => decide (x ≠ k) && decide (x ∉ A)) ++ A))) (some (-((m : Nat) : Int))) none so = some (.list (strL ((O.filter (fun x => decide (x ≠ k) && decide (x ∉ A)) ++ A).drop ((O.filter (fun x => decide (x ≠ k) && decide (x ∉ A)) ++ A).length - m))), so) := by
        simp only [dSl, lsrOf, Option.map_some]
        rw [cut_neg _ m1, List.length_map, ← List.map_drop]
      have e2 := asgN (i := 17) (sl_ok q2 ng onone_ok s1)
      refine ⟨some (.list (strL A)), ?_⟩
      rw [← hvs] at e1'
      rw [seq_ok e1', e2]
      unfold tgA tgO
      rw [if_neg kA, if_pos kO, if_neg kA, if_pos kO, hvs]
    · rw [decide_eq_false kO] at c2
      rw [if_f c2]
      refine ⟨vars[19], ?_⟩
      rw [keep19]
      unfold tgA tgO
      rw [if_neg kA, if_neg kO, if_neg kA, if_neg kO, set_id v16, set_id v17]
      rfl
def p2 : MS := sIf (eB (eOp dIn (eVar 6) (eVar 16))) (sAsg (eOp dAdd (eLc false (iIt (eVar 16)) (tName 25) (eB (eOp dNe (eVar 25) (eVar 6))) (eVar 25) [25]) (eLst (eCons (eVar 6) (eNil)))) (tName 16)) (sAsg (eSl (eOp dAdd (eLc false (iIt (eVar 17)) (tName 25) (eB (eOp dNe (eVar 25) (eVar 6))) (eVar 25) [25]) (eLst (eCons (eVar 6) (eNil)))) (oSome (eNeg (eVar 13))) (oNone)) (tName 17))
theorem p2_ok {vars : List (Option D)} {so : List SO} {m : Nat} {O A : List PySem.Str} {k : PySem.Str} (hl : vars.length = 27) (hw : WF so) (v6 : vars[6]? = some (some (.str k))) (v13 : vars[13]? = some (some (.int (m : Nat)))) (v16 : vars[16]? = some (some (.list (strL A)))) (v17 : vars[17]? = some (some (.list (strL O)))) (m1 : 1 ≤ m) (ol : O.length ≤ 100) (al : A.length ≤ 100) :
    p2 ⟨vars, so⟩ = .ok .nx ⟨(vars.set 16 (some (.list (strL (tpA k A))))).set 17 (some (.list (strL (tpO m k O A)))), so⟩ := by
  have c1 : eB (eOp dIn (eVar 6) (eVar 16)) ⟨vars, so⟩ = .ok (decide (k ∈ A)) so := b_ok (op_ok (var_ok v6) (var_ok v16) in_list)
  unfold p2
  by_cases kA : k ∈ A
  · rw [decide_eq_true kA] at c1
    have fl := List.length_filter_le (fun x => decide (x ≠ k)) A
    have q := asgN (i := 16) (op_ok (ne_filter hl hw v16 v6 (by omega)) (lst_ok (one_ok (var_ok v6))) (add_strs (b := [k]) (by simp only [List.length_cons, List.length_nil]; unfold mx; omega)))
    rw [if_t c1, q]
    unfold tpA tpO
    rw [if_pos kA, if_pos kA]
    congr 2
    have : (vars.set 16 (some (PyData.list (strL (A.filter (fun x => decide (x ≠ k)) ++ [k])))))[17]? = some (some (.list (strL O))) := by ((repeat rw [List.getElem?_set_ne (by decide)]); first | (rw [List.getElem?_set_self (by (try simp only [List.length_set]); omega)]; done) | assumption)
    exact (set_id this).symm
  · rw [decide_eq_false kA] at c1
    rw [if_f c1]
    have fl := List.length_filter_le (fun x => decide (x ≠ k)) O
    have q2 := op_ok (ne_filter hl hw v17 v6 (by omega)) (lst_ok (one_ok (var_ok v6))) (add_strs (b := [k]) (by simp only [List.length_cons, List.length_nil]; unfold mx; omega))
    have ng : oSome (eNeg (eVar 13)) ⟨vars, so⟩ = .ok (some (-((m : Nat) : Int))) so := osome_ok (neg_ok (var_ok v13))
    have s1 : dSl (.list (strL (O.filter (fun x => decide (x ≠ k)) ++ [k]))) (some (-((m : Nat) : Int))) none so = some (.list (strL ((O.filter (fun x => decide (x ≠ k)) ++ [k]).drop ((O.filter (fun x => decide (x ≠ k)) ++ [k]).length - m))), so) := by
      simp only [dSl, lsrOf, Option.map_some]
      rw [cut_neg _ m1, List.length_map, ← List.map_drop]
    have e2 := asgN (i := 17) (sl_ok q2 ng onone_ok s1)
    rw [e2]
    unfold tpA tpO
    rw [if_neg kA, if_neg kA, set_id v16]
end K21
end
section
set_option Elab.async false
set_option linter.all false
set_option maxRecDepth 10000
set_option maxHeartbeats 4000000
namespace K21
open PySem EV
open L2 (Key atI ixN)
theorem vor_ok {f g : M D} {vars : List (Option D)} {so so1 so2 : List SO} {a b : Bool} (h1 : f ⟨vars, so⟩ = .ok (.bool a) so) (h2 : g ⟨vars, so⟩ = .ok (.bool b) so) : vOr f g ⟨vars, so⟩ = .ok (.bool (a || b)) so := by
  unfold vOr
  rw [bnd_ok h1]
  cases a with
  | true => rfl
  | false => simpa using h2
theorem is_two {so : List SO} {n : Nat} {nm : PySem.Str} (h : so[n]? = some (.ins 1 (twoF n))) (hn : List.lookup nm (twoF n) = none) : isCls so 1 nm (rf n) = true := by
  unfold isCls
  rw [ref_ins h]
  simp only [hn]
  rfl
def g3 : MS := sIf (eB (eOp dNe (eOp dNotN (eMeth 1 3 "get" g_TwoKeep_get (eVar 15) (eCons (eVar 6) (eCons (eVar 7) (eNil)))) (eC .none)) (eVar 18))) (sRet (eC (.bool false))) (sNext)
def getB : MS := sSeq (sAsg (vOr (eOp dIn (eVar 6) (eVar 16)) (eOp dIn (eVar 6) (eVar 17))) (tName 18)) (sSeq g2 g3)
theorem getB_ok {vars : List (Option D)} {so : List SO} {asks : List PySem.Str} {m n : Nat} {O A : List Row} {k : PySem.Str} (h : M4 vars so asks m n O A) (v6 : vars[6]? = some (some (.str k))) : ∃ vars' so' O' A', getB ⟨vars, so⟩ = .ok .nx ⟨vars', so'⟩ ∧ M4 vars' so' asks m n O' A' := by
  have e1 := asgN (i := 18) (vor_ok (so1 := so) (so2 := so) (op_ok (var_ok v6) (var_ok h.v16) in_list) (op_ok (var_ok v6) (var_ok h.v17) (in_list (so := so))))
  obtain ⟨due, hdue⟩ : ∃ due, due = (decide (k ∈ keys A) || decide (k ∈ keys O)) := ⟨_, rfl⟩
  rw [← hdue] at e1
  have h1 := h.name (i := 18) (d := some (.bool due)) (by decide) (by decide) (by decide) (by decide) (by decide) (by decide) (by decide)
  have hl := h.b.b.len
  obtain ⟨vs, hvs⟩ : ∃ vs, vs = vars.set 18 (some (PyData.bool due)) := ⟨_, rfl⟩
  rw [← hvs] at e1 h1
  have w6 : vs[6]? = some (some (.str k)) := by rw [hvs]; ((repeat rw [List.getElem?_set_ne (by decide)]); first | (rw [List.getElem?_set_self (by (try simp only [List.length_set]); omega)]; done) | assumption)
  have w18 : vs[18]? = some (some (.bool due)) := by rw [hvs]; ((repeat rw [List.getElem?_set_ne (by decide)]); first | (rw [List.getElem?_set_self (by (try simp only [List.length_set]); omega)]; done) | assumption)
  have vl : vs.length = 27 := h1.b.b.len
  have ol := h.two.ol
  have al := h.two.al
  have m9 := h.two.m9
  have kl : ∀ r : List Row, (keys r).length = r.length := fun r => by simp [keys]
  obtain ⟨d19, e2⟩ := g2_ok (O := keys O) (A := keys A) vl h1.b.b.wf w6 h1.b.v13 h1.v16 h1.v17 h1.b.m1 (by rw [kl]; omega) (by rw [kl]; omega)
  have h2 := h1.name (i := 19) (d := d19) (by decide) (by decide) (by decide) (by decide) (by decide) (by decide) (by decide)
  obtain ⟨v, base, ex, O', A', e3, lb, same, tw, pv, nv, kO, kA⟩ := two_get h.two k
  rw [Int.toNat_natCast] at kO
  have h3 := h2.mk' same tw
  rw [kO, kA] at h3
  obtain ⟨us, hus⟩ : ∃ us, us = ((vs.set 19 d19).set 16 (some (PyData.list (strL (tgA k (keys O) (keys A)))))).set 17 (some (.list (strL (tgO m k (keys O) (keys A))))) := ⟨_, rfl⟩
  rw [← hus] at e2 h3
  have ul : us.length = 27 := h3.b.b.len
  have u6 : us[6]? = some (some (.str k)) := by rw [hus]; ((repeat rw [List.getElem?_set_ne (by decide)]); first | (rw [List.getElem?_set_self (by (try simp only [List.length_set]); omega)]; done) | assumption)
  have u18 : us[18]? = some (some (.bool due)) := by rw [hus]; ((repeat rw [List.getElem?_set_ne (by decide)]); first | (rw [List.getElem?_set_self (by (try simp only [List.length_set]); omega)]; done) | assumption)
  have q := meth_app (n := 3) (g := g_TwoKeep_get) (var_ok (vars := us) (so := so) h3.v15) (is_two (nm := "get") h.two.t rfl) (two_ok (var_ok u6) (var_ok h3.v7)) rfl e3 lb tw.wf (lim_plain v pv)
  have c := b_ok (op_ok (op_ok (g := dNotN) q (c_ok (d := .none)) (show dNotN v .none base = some (.bool due, base) by rw [hdue]; unfold dNotN; rw [show EV.isNon PyData.none = true from rfl, if_pos rfl, nv, Bool.not_not])) (var_ok u18) (dNe_bb _ _ _))
  rw [show (!decide (due = due)) = false by simp] at c
  refine ⟨us, base, O', A', ?_, h3⟩
  unfold getB
  rw [seq_ok e1, seq_ok e2]
  exact if_f c
def putB2 : MS := sSeq (sAsg (eMeth 1 5 "put" g_TwoKeep_put (eVar 15) (eCons (eVar 6) (eCons (eVar 7) (eCons (eOp dAdd (eVar 5) (eC (.int 1))) (eCons (eC (.int 1)) (eNil)))))) (tName 20)) p2
theorem putB2_ok {vars : List (Option D)} {so : List SO} {asks : List PySem.Str} {m n : Nat} {O A : List Row} {k : PySem.Str} {i : Int} (h : M4 vars so asks m n O A) (v6 : vars[6]? = some (some (.str k))) (v5 : vars[5]? = some (some (.int i))) : ∃ vars' so' O' A', putB2 ⟨vars, so⟩ = .ok .nx ⟨vars', so'⟩ ∧ M4 vars' so' asks m n O' A' := by
  obtain ⟨base, O', A', e3, lb, same, tw, kO, kA⟩ := two_put h.two k (i + 1)
  rw [Int.toNat_natCast] at kO
  have q := meth_same (n := 5) (g := g_TwoKeep_put) (var_ok (vars := vars) (so := so) h.v15) (is_two (nm := "put") h.two.t rfl) (cons_ok (var_ok v6) (cons_ok (var_ok h.v7) (two_ok (op_ok (g := dAdd) (var_ok v5) (c_ok (d := .int 1)) (dAdd_ii _ _)) (c_ok (d := .int 1))))) rfl e3 lb
  have e1 := asgN (i := 20) q
  have h1 := h.name (i := 20) (d := some .none) (by decide) (by decide) (by decide) (by decide) (by decide) (by decide) (by decide)
  have hl := h.b.b.len
  obtain ⟨vs, hvs⟩ : ∃ vs, vs = vars.set 20 (some PyData.none) := ⟨_, rfl⟩
  rw [← hvs] at e1 h1
  have w6 : vs[6]? = some (some (.str k)) := by rw [hvs]; ((repeat rw [List.getElem?_set_ne (by decide)]); first | (rw [List.getElem?_set_self (by (try simp only [List.length_set]); omega)]; done) | assumption)
  have vl : vs.length = 27 := h1.b.b.len
  have ol := h.two.ol
  have al := h.two.al
  have m9 := h.two.m9
  have kl : ∀ r : List Row, (keys r).length = r.length := fun r => by simp [keys]
  have e2 := p2_ok (O := keys O) (A := keys A) vl tw.wf w6 h1.b.v13 h1.v16 h1.v17 h1.b.m1 (by rw [kl]; omega) (by rw [kl]; omega)
  have h3 := h1.mk' same tw
  rw [kO, kA] at h3
  refine ⟨_, base, O', A', ?_, h3⟩
  unfold putB2
  rw [seq_ok e1, e2]
def b3 : MS := sIf (eB (eOp dNe (eMeth 1 1 "kept_keys" g_TwoKeep_kept_keys (eVar 15) eNil) (eTup (eCons (eCB dTupA (eCons (eVar 17) (eNil))) (eCons (eCB dTupA (eCons (eVar 16) (eNil))) (eNil)))))) (sRet (eC (.bool false))) (sNext)
theorem b3_ok {vars : List (Option D)} {so : List SO} {asks : List PySem.Str} {m n : Nat} {O A : List Row} (h : M4 vars so asks m n O A) : b3 ⟨vars, so⟩ = .ok .nx ⟨vars, so⟩ := by
  have q := meth_same (n := 1) (g := g_TwoKeep_kept_keys) (var_ok (vars := vars) (so := so) h.v15) (is_two (nm := "kept_keys") h.two.t rfl) nil_ok rfl (two_keys h.two) rfl
  have q2 : eTup (eCons (eCB dTupA (eCons (eVar 17) (eNil))) (eCons (eCB dTupA (eCons (eVar 16) (eNil))) (eNil))) ⟨vars, so⟩ = .ok (.tuple [.tuple (strL (keys O)), .tuple (strL (keys A))]) so := tup_ok (two_ok (cb_ok (one_ok (var_ok h.v17)) rfl) (cb_ok (one_ok (var_ok h.v16)) rfl))
  have dt : ∀ l : List PySem.Str, (PyData.tuple (strL l)).plain = true ∧ (PyData.tuple (strL l)).depth ≤ 6 := fun l => (deepT (n := 5) (by decide) fun x hx => by
    obtain ⟨s, _, rfl⟩ := List.mem_map.mp hx
    exact ⟨rfl, by simp [PyData.depth]⟩).2
  have dp : deepOk (.tuple [.tuple (strL (keys O)), .tuple (strL (keys A))]) = true := (deepT (n := 6) (by decide) fun x hx => by
    simp only [List.mem_cons, List.not_mem_nil, or_false] at hx
    rcases hx with rfl | rfl <;> exact dt _).1
  exact if_f (b_ok (op_ok q q2 (dNe_same dp)))
def body2 : MS := sSeq (sAsg askE (tName 6)) (sSeq (sIf (eB (eOp dEq (eCall 2 (g_law_roll 3) (eCons (eVar 1) (eCons (eC (.int 2)) (eNil)))) (eC (.int 0)))) getB putB2) b3)
theorem body2_ok {vars : List (Option D)} {so : List SO} {asks : List PySem.Str} {m n : Nat} {O A : List Row} {i : Int} (h : M4 vars so asks m n O A) (v5 : vars[5]? = some (some (.int i))) : ∃ vars' so' O' A', body2 ⟨vars, so⟩ = .ok .nx ⟨vars', so'⟩ ∧ M4 vars' so' asks m n O' A' := by
  obtain ⟨v, o, a1, b1, io, e⟩ := roll_call (n := 4) h.b.b.dice h.b.b.v1 (by decide) (by decide)
  obtain ⟨c, _, ix⟩ := sign_ok (z := "abcd") (v := v) (so := so.set 1 o) a1 (by show v < 4; exact b1) (by decide)
  have e1 := asgN (i := 6) (show askE ⟨vars, so⟩ = .ok (.str ⟨#[c]⟩) (so.set 1 o) from op_ok c_ok e ix)
  have h1 := (h.roll io).name (i := 6) (d := some (.str ⟨#[c]⟩)) (by decide) (by decide) (by decide) (by decide) (by decide) (by decide) (by decide)
  have hl := h.b.b.len
  obtain ⟨vs, hvs⟩ : ∃ vs, vs = vars.set 6 (some (PyData.str ⟨#[c]⟩)) := ⟨_, rfl⟩
  rw [← hvs] at e1 h1
  have w6 : vs[6]? = some (some (.str ⟨#[c]⟩)) := by rw [hvs]; ((repeat rw [List.getElem?_set_ne (by decide)]); first | (rw [List.getElem?_set_self (by (try simp only [List.length_set]); omega)]; done) | assumption)
  have w5 : vs[5]? = some (some (.int i)) := by rw [hvs]; ((repeat rw [List.getElem?_set_ne (by decide)]); first | (rw [List.getElem?_set_self (by (try simp only [List.length_set]); omega)]; done) | assumption)
  obtain ⟨v2, o2, a2, b2, io2, e2⟩ := roll_call (n := 2) h1.b.b.dice h1.b.b.v1 (by decide) (by decide)
  have h2 := h1.roll io2
  have cc := b_ok (op_ok e2 (c_ok (d := .int 0)) (dEq_ii v2 0))
  suffices ∃ vars' so' O' A', sIf (eB (eOp dEq (eCall 2 (g_law_roll 3) (eCons (eVar 1) (eCons (eC (.int 2)) (eNil)))) (eC (.int 0)))) getB putB2 ⟨vs, so.set 1 o⟩ = .ok .nx ⟨vars', so'⟩ ∧ M4 vars' so' asks m n O' A' by
    obtain ⟨vars', so', O', A', e4, h4⟩ := this
    refine ⟨vars', so', O', A', ?_, h4⟩
    unfold body2
    rw [seq_ok e1, seq_ok e4]
    exact b3_ok h4
  by_cases z : v2 = 0
  · rw [decide_eq_true z] at cc
    rw [if_t cc]
    exact getB_ok h2 w6
  · rw [decide_eq_false z] at cc
    rw [if_f cc]
    exact putB2_ok h2 w6 w5
def sF : MS := sAsg (eTup (eCons (eMake 1 3 g_TwoKeep_init (eCons (eVar 13) (eCons (eC (.int 1)) (eNil)))) (eCons (eLst (eNil)) (eCons (eLst (eNil)) (eCons (eC (.int 0)) (eNil)))))) (EV.tTup 4 (EV.tCons (tName 15) (EV.tCons (tName 16) (EV.tCons (tName 17) (EV.tCons (tName 7) (EV.tNil))))))
def loop2 : MS := sFor (EV.iRng1 (eCall 2 (g_law_roll 3) (eCons (eVar 1) (eCons (eC (.int 16)) (eNil))))) (tName 5) body2
theorem loop2_ok {vars : List (Option D)} {so : List SO} {asks : List PySem.Str} {m : Nat} (h : M3 vars so asks m) : ∃ vars' so', sSeq sF loop2 ⟨vars, so⟩ = .ok .nx ⟨vars', so'⟩ ∧ M3 vars' so' asks m := by
  have m1 := h.m1
  have m3 := h.m3
  have mk := make_two (f1 := eVar 13) (f2 := eC (.int 1)) (var_ok (so := so) h.v13) c_ok (by omega) (by decide)
  have tw := two_new (m := (m : Nat)) h.b.wf (by omega) (by omega)
  obtain ⟨S, hS⟩ : ∃ S, S = so ++ [SO.ins 1 (twoF so.length), .ins 0 (keepF (m : Nat) (so.length + 2) 0 0 0), .dct [], .ins 0 (keepF 1 (so.length + 4) 0 0 0), .dct []] := ⟨_, rfl⟩
  rw [← hS] at mk tw
  have e1 : sF ⟨vars, so⟩ = .ok .nx ⟨(((vars.set 15 (some (rf so.length))).set 16 (some (.list []))).set 17 (some (.list []))).set 7 (some (.int 0)), S⟩ := asg_ok (tup_ok (cons_ok mk (cons_ok (lst_ok nil_ok) (two_ok (lst_ok nil_ok) c_ok))))
  have hl := h.b.len
  have v1 := h.b.v1
  have v12 := h.v12
  have v13 := h.v13
  have h4 : M4 ((((vars.set 15 (some (rf so.length))).set 16 (some (.list []))).set 17 (some (.list []))).set 7 (some (.int 0))) S asks m so.length [] [] := by
    refine ⟨⟨⟨by simpa using hl, by ((repeat rw [List.getElem?_set_ne (by decide)]); first | (rw [List.getElem?_set_self (by (try simp only [List.length_set]); omega)]; done) | assumption), ?_, tw.wf⟩, by ((repeat rw [List.getElem?_set_ne (by decide)]); first | (rw [List.getElem?_set_self (by (try simp only [List.length_set]); omega)]; done) | assumption), by ((repeat rw [List.getElem?_set_ne (by decide)]); first | (rw [List.getElem?_set_self (by (try simp only [List.length_set]); omega)]; done) | assumption), h.al, h.a1, h.m1, h.m3⟩, by ((repeat rw [List.getElem?_set_ne (by decide)]); first | (rw [List.getElem?_set_self (by (try simp only [List.length_set]); omega)]; done) | assumption), by ((repeat rw [List.getElem?_set_ne (by decide)]); first | (rw [List.getElem?_set_self (by (try simp only [List.length_set]); omega)]; done) | assumption), by show _ = some (some (PyData.list [])); ((repeat rw [List.getElem?_set_ne (by decide)]); first | (rw [List.getElem?_set_self (by (try simp only [List.length_set]); omega)]; done) | assumption), by show _ = some (some (PyData.list [])); ((repeat rw [List.getElem?_set_ne (by decide)]); first | (rw [List.getElem?_set_self (by (try simp only [List.length_set]); omega)]; done) | assumption), tw, h.b.dice.lt⟩
    obtain ⟨o, ho, io⟩ := h.b.dice
    exact ⟨o, by rw [hS]; exact (List.getElem?_append_left (List.getElem?_eq_some_iff.mp ho).1).trans ho, io⟩
  obtain ⟨v, o, a1, b1, io, e⟩ := roll_call (n := 16) h4.b.b.dice h4.b.b.v1 (by decide) (by decide)
  obtain ⟨n, rfl⟩ : ∃ n : Nat, v = n := ⟨v.toNat, by omega⟩
  have ff := for_ok (g := tName 5) (b := body2) (rng1_ok e (by unfold mx; omega))
  obtain ⟨st', e3, O, A, h5⟩ := forGo_rng (g := tName 5) (b := body2) (lo := 0) (n := n) (fun i st => ∃ O A, M4 st.vars st.so asks m so.length O A) (fun i st hi ⟨O, A, hM⟩ => by
    obtain ⟨vs, so1⟩ := st
    have hn := hM.name (i := 5) (d := some (.int (0 + (i : Int)))) (by decide) (by decide) (by decide) (by decide) (by decide) (by decide) (by decide)
    have vl : vs.length = 27 := hM.b.b.len
    obtain ⟨vars', so', O', A', e4, h6⟩ := body2_ok (i := 0 + (i : Int)) hn (by ((repeat rw [List.getElem?_set_ne (by decide)]); first | (rw [List.getElem?_set_self (by (try simp only [List.length_set]); omega)]; done) | assumption))
    exact ⟨_, ⟨vars', so'⟩, rfl, .inl e4, O', A', h6⟩) (fuelI (.rng 0 n) (S.set 1 o)) 0 ⟨_, S.set 1 o⟩ (by simp [fuelI]) (by omega) ⟨[], [], h4.roll io⟩
  obtain ⟨vars', so'⟩ := st'
  refine ⟨vars', so', ?_, h5.b⟩
  rw [seq_ok e1]
  exact ff.trans e3
end K21
end
section
set_option Elab.async false
set_option linter.all false
set_option maxRecDepth 10000
set_option maxHeartbeats 4000000
namespace K21
open PySem EV
open L2 (Key atI ixN)
/-! ### the place next, the plain key -/
theorem head_idx (a : PySem.Str) : ∀ l : List PySem.Str, (((List.range l.length).filter fun k => decide (l.getD k "" = a)) ++ [l.length])[0]? = some (l.idxOf a)
  | [] => rfl
  | x :: l => by
    have ih := head_idx a l
    rw [List.length_cons, List.range_succ_eq_map, List.filter_cons]
    by_cases h : x = a
    · subst h
      simp
    · have e : (x :: l).getD 0 "" = x := rfl
      rw [e, decide_eq_false h, List.filter_map]
      have e2 : ((fun k => decide ((x :: l).getD k "" = a)) ∘ Nat.succ) = fun k => decide (l.getD k "" = a) := by funext k; rfl
      rw [e2, P21.idx_ne h]
      cases hc : (List.range l.length).filter fun k => decide (l.getD k "" = a) with
      | nil =>
        rw [hc] at ih
        simp at ih
        simp [← ih]
      | cons y r =>
        rw [hc] at ih
        simp at ih
        simp [← ih]
def npE : M D := eCall 3 g_next_place (eCons (eVar 12) (eCons (eC (.int 1)) (eCons (eC (.str "a")) (eNil))))
def npL : M D := eOp dIx (eOp dAdd (eLc false (EV.iRng2 (eC (.int 1)) (eCB dLen (eCons (eVar 12) (eNil)))) (tName 23) (eB (eOp dEq (eOp dIx (eVar 12) (eVar 23)) (eC (.str "a")))) (eVar 23) [23]) (eLst (eCons (eCB dLen (eCons (eVar 12) (eNil))) (eNil)))) (eC (.int 0))
theorem np_law {vars : List (Option D)} {so : List SO} {asks : List PySem.Str} {m : Nat} (h : M3 vars so asks m) : npE ⟨vars, so⟩ = .ok (.int (nextP asks 1 "a" : Nat)) so ∧ npL ⟨vars, so⟩ = .ok (.int (nextP asks 1 "a" : Nat)) so := by
  have al := h.al
  have hl : vars.length = 27 := h.b.len
  have q1 : npE ⟨vars, so⟩ = .ok (.int (nextP asks 1 "a" : Nat)) so := call_same (cons_ok (var_ok h.v12) (two_ok c_ok c_ok)) rfl (next_place (asks := asks) (first := 1) (a := "a") (so := so) (by omega) (by omega)) rfl
  refine ⟨q1, ?_⟩
  have ln : ∀ so, eCB dLen (eCons (eVar 12) (eNil)) ⟨vars, so⟩ = .ok (.int (asks.length : Nat)) so := fun so => by
    have := cb_ok (one_ok (var_ok (so := so) h.v12)) len_l
    rw [List.length_map] at this
    exact this
  have rg : EV.iRng2 (eC (.int 1)) (eCB dLen (eCons (eVar 12) (eNil))) ⟨vars, so⟩ = .ok (.rng 1 (asks.length - 1)) so := by
    have s1 : small62 (1 : Int) = true := by decide
    have s2 : small62 ((asks.length : Nat) : Int) = true := decide_eq_true (by omega)
    have e : ((asks.length : Nat) - (1 : Int)).toNat = asks.length - 1 := by omega
    unfold EV.iRng2
    rw [bnd_ok (c_ok (d := .int 1))]
    show bnd _ _ ⟨vars, so⟩ = _
    rw [bnd_ok (ln so)]
    simp only [kRng2, s1, s2, and_self, if_true, e]
  have q2 := lc_rngW (g := tName 23) (t := eB (eOp dEq (eOp dIx (eVar 12) (eVar 23)) (eC (.str "a")))) (e := eVar 23) (vs := [23]) (vars := vars) (S := so) (lo := 1) (n := asks.length - 1) (vv := fun k => (wipeD vars [23]).set 23 (some (.int (1 + (k : Nat))))) (p := fun k => decide (asks.getD (1 + k) "" = "a")) (φ := fun k => .int (1 + (k : Nat))) h.b.wf rg (by unfold mx; omega)
    (fun k hk acc => rfl)
    (fun k hk acc _ => by
      have g := get_str (asks := asks) (k := 1 + k) (by omega) (so ++ [SO.lst acc])
      rw [show (((1 + k : Nat)) : Int) = 1 + (k : Int) by omega] at g
      exact b_ok (op_ok (op_ok (var_ok (wo (by decide) h.v12)) (var_ok (wv (by omega))) g) c_ok (dEq_ss _ _ _)))
    (fun k hk _ acc _ => var_ok (wv (by omega)))
    (fun k _ => rfl)
  have fl : ((List.range (asks.length - 1)).filter fun k => decide (asks.getD (1 + k) "" = "a")).length ≤ asks.length - 1 := by
    have := List.length_filter_le (fun k => decide (asks.getD (1 + k) "" = "a")) (List.range (asks.length - 1))
    simpa using this
  have q3 : dAdd (.list (((List.range (asks.length - 1)).filter fun k => decide (asks.getD (1 + k) "" = "a")).map fun k : Nat => PyData.int (1 + (k : Nat)))) (.list [.int (asks.length : Nat)]) so = some (.list ((((List.range (asks.length - 1)).filter fun k => decide (asks.getD (1 + k) "" = "a")).map fun k : Nat => PyData.int (1 + (k : Nat))) ++ [.int (asks.length : Nat)]), so) := by
    unfold dAdd
    simp only [lstOf]
    rw [if_pos (by rw [List.length_map]; simp only [List.length_cons, List.length_nil]; unfold mx; omega)]
  have hd : ((((List.range (asks.length - 1)).filter fun k => decide (asks.getD (1 + k) "" = "a")).map fun k : Nat => PyData.int (1 + (k : Nat))) ++ [PyData.int (asks.length : Nat)])[0]? = some (.int (nextP asks 1 "a" : Nat)) := by
    unfold nextP
    by_cases h1 : 1 ≤ asks.length
    · rw [if_pos h1]
      have ih := head_idx "a" (asks.drop 1)
      rw [List.length_drop] at ih
      have e : (fun k => decide ((asks.drop 1).getD k "" = "a")) = fun k => decide (asks.getD (1 + k) "" = "a") := by
        funext k
        rw [List.getD_eq_getElem?_getD, List.getElem?_drop, ← List.getD_eq_getElem?_getD]
      rw [e] at ih
      cases hc : (List.range (asks.length - 1)).filter fun k => decide (asks.getD (1 + k) "" = "a") with
      | nil =>
        rw [hc] at ih
        simp only [List.nil_append, List.getElem?_cons_zero, Option.some.injEq] at ih
        simp only [List.map_nil, List.nil_append, List.getElem?_cons_zero]
        congr 2
        omega
      | cons y r =>
        rw [hc] at ih
        simp only [List.cons_append, List.getElem?_cons_zero, Option.some.injEq] at ih
        simp only [List.map_cons, List.cons_append, List.getElem?_cons_zero]
        congr 2
        omega
    · have z : asks.length - 1 = 0 := by omega
      rw [if_neg h1, z]
      rfl
  have hx := ix_l (so := so) hd
  exact op_ok (op_ok q2 (lst_ok (one_ok (ln so))) q3) c_ok hx
/-- a dict of signs -/
theorem dd_go {so : List SO} {vars : List (Option D)} {v : Nat} {l : List PySem.Str} (hv : v < vars.length) (hl : l.length ≤ 1000) : ∀ (m i : Nat) (A : List PySem.Str), l.length - i < m → A.length ≤ i → dcGo (tName v) tTrue (eVar v) (eC (.bool true)) (.seq (.fz (strL l))) [v] vars so.length m i (so ++ [.dct (A.map fun s => ((.inr s : Key), (.bool true : D)))]) = some (so ++ [.dct (((l.drop i).foldl (fun A b => if b ∈ A then A else A ++ [b]) A).map fun s => ((.inr s : Key), (.bool true : D)))])
  | 0, _, _, h, _ => absurd h (Nat.not_lt_zero _)
  | m + 1, i, A, h, ha => by
    unfold dcGo
    have nx : ∀ so, nextI (.seq (.fz (strL l))) so i = some (strL l)[i]? := fun so => rfl
    rw [nx, List.getElem?_map]
    by_cases hi : i < l.length
    · have dr : l.drop i = l[i] :: l.drop (i + 1) := List.drop_eq_getElem_cons hi
      rw [List.getElem?_eq_getElem hi, dr, List.foldl_cons]
      have t1 : ∀ st, tTrue st = .ok true st.so := fun st => rfl
      have k1 : eVar v ⟨(wipeD vars [v]).set v (some (.str l[i])), so ++ [.dct (A.map fun s => ((.inr s : Key), (.bool true : D)))]⟩ = .ok (.str l[i]) (so ++ [.dct (A.map fun s => ((.inr s : Key), (.bool true : D)))]) := var_ok (wv hv)
      have g0 : (so ++ [SO.dct (A.map fun s => ((.inr s : Key), (.bool true : D)))])[so.length]? = some (.dct (A.map fun s => ((.inr s : Key), (.bool true : D)))) := app_last
      have lt : (A.map fun s => ((.inr s : Key), (.bool true : D))).length < mx := by rw [List.length_map]; unfold mx; omega
      have pt : dPut (A.map fun s => ((.inr s : Key), (.bool true : D))) (.inr l[i]) (.bool true) = (if l[i] ∈ A then A else A ++ [l[i]]).map fun s => ((.inr s : Key), (.bool true : D)) := by
        unfold dPut
        by_cases hb : l[i] ∈ A
        · rw [if_pos, if_pos hb]
          · rw [List.map_map]
            apply List.map_congr_left
            intro x _
            simp only [Function.comp]
            split <;> rfl
          · rw [List.any_eq_true]
            exact ⟨(.inr l[i], .bool true), List.mem_map.mpr ⟨l[i], hb, rfl⟩, by simp⟩
        · rw [if_neg, if_neg hb]
          · simp
          · intro z
            obtain ⟨x, hx, e⟩ := List.any_eq_true.mp z
            obtain ⟨s, hs, rfl⟩ := List.mem_map.mp hx
            have : s = l[i] := by simpa using e
            exact hb (this ▸ hs)
      have st : (so ++ [SO.dct (A.map fun s => ((.inr s : Key), (.bool true : D)))]).set so.length (.dct ((if l[i] ∈ A then A else A ++ [l[i]]).map fun s => ((.inr s : Key), (.bool true : D)))) = so ++ [.dct ((if l[i] ∈ A then A else A ++ [l[i]]).map fun s => ((.inr s : Key), (.bool true : D)))] := by
        rw [set_app (Nat.le_refl _)]; simp
      simp only [Option.map_some, tName, t1, k1, keyD, c_ok, g0, if_pos lt, pt, st]
      exact dd_go hv hl m (i + 1) _ (by omega) (by
        split
        · omega
        · rw [List.length_append]; simp only [List.length_cons, List.length_nil]; omega)
    · rw [List.getElem?_eq_none (by omega), List.drop_eq_nil_of_le (by omega)]
      rfl
theorem key_strs (l : List PySem.Str) (d : D) : keyStrs (l.map fun s => ((.inr s : Key), d)) = some l := by
  induction l with
  | nil => rfl
  | cons x l ih => rw [List.map_cons]; unfold keyStrs; rw [ih]; rfl
theorem strs_d (l : List PySem.Str) : strsD (strL l) = some l := by
  induction l with
  | nil => rfl
  | cons x l ih =>
    show strsD (.str x :: strL l) = _
    unfold strsD; rw [ih]; rfl
theorem sort_dct {so : List SO} {n : Nat} {l : List PySem.Str} {d : D} (h : so[n]? = some (.dct (l.map fun s => ((.inr s : Key), d)))) (hl : l.length < 64) : dSortS [rf n] so = some (.list (strL (isortS l)), so) := by
  simp only [dSortS, ref_dct h, key_strs, if_pos hl]
theorem dd_len (l : List PySem.Str) : (P21.dd l).length ≤ l.length := by
  suffices ∀ (l A : List PySem.Str), (l.foldl (fun A b => if b ∈ A then A else A ++ [b]) A).length ≤ A.length + l.length by simpa [P21.dd] using this l []
  intro l
  induction l with
  | nil => intro A; simp
  | cons b l ih =>
    intro A
    rw [List.foldl_cons]
    by_cases hb : b ∈ A
    · rw [if_pos hb]
      have := ih A
      rw [List.length_cons]; omega
    · rw [if_neg hb]
      have := ih (A ++ [b])
      rw [List.length_append] at this
      rw [List.length_cons]
      simp only [List.length_cons, List.length_nil] at this
      omega
theorem dd_mem {l : List PySem.Str} {x : PySem.Str} (h : x ∈ P21.dd l) : x ∈ l := by
  suffices ∀ (l A : List PySem.Str), x ∈ l.foldl (fun A b => if b ∈ A then A else A ++ [b]) A → x ∈ A ∨ x ∈ l by
    rcases this l [] h with h | h
    · cases h
    · exact h
  intro l
  induction l with
  | nil => intro A h; exact .inl h
  | cons b l ih =>
    intro A h
    rw [List.foldl_cons] at h
    rcases ih _ h with h | h
    · split at h
      · exact .inl h
      · rcases List.mem_append.mp h with h | h
        · exact .inl h
        · rw [List.mem_singleton] at h; rw [h]; exact .inr (by simp)
    · exact .inr (by simp [h])
/-- the key's text -/
def keyT (asks : List PySem.Str) : PySem.Str := PySem.Txt.join " " (isortS (P21.dd asks))
theorem sum_ones : ∀ {l : List PySem.Str}, (∀ y ∈ l, y.length = 1) → (l.map (·.length)).sum = l.length
  | [], _ => rfl
  | x :: l, h => by
    rw [List.map_cons, List.sum_cons, h x (by simp), sum_ones fun y hy => h y (by simp [hy]), List.length_cons]
    omega
theorem join_ok {f g : M D} {vars : List (Option D)} {so so1 : List SO} {l : List PySem.Str} (h1 : f ⟨vars, so⟩ = .ok (.str " ") so) (h2 : g ⟨vars, so⟩ = .ok (.list (strL l)) so1) (h : (l.map (·.length)).sum + l.length ≤ 1000) : eJoin f g ⟨vars, so⟩ = .ok (.str (PySem.Txt.join " " l)) so1 := by
  unfold eJoin
  rw [bnd_ok h1]
  show bnd g (fun y => kJoin (.str " ") y) ⟨vars, so⟩ = _
  rw [bnd_ok h2]
  have sp : (PySem.Str.length " ") = 1 := by decide
  have hc : (l.map (·.length)).sum + l.length * PySem.Str.length " " ≤ 16777216 := by rw [sp]; omega
  simp only [kJoin, seqOf, lstOf, strs_d, if_pos hc]
theorem keyT_ok {asks : List PySem.Str} (al : asks.length ≤ 8) (a1 : ∀ y ∈ asks, PySem.Str.length y = 1) : ((isortS (P21.dd asks)).map (·.length)).sum + (isortS (P21.dd asks)).length ≤ 16 ∧ (keyT asks).length ≤ 16 := by
  have p := isortS_perm (P21.dd asks)
  have l1 : (isortS (P21.dd asks)).length ≤ 8 := by
    rw [p.length_eq]
    have := dd_len asks
    omega
  have s1 := sum_ones (l := isortS (P21.dd asks)) fun y hy => a1 y (dd_mem (p.mem_iff.mp hy))
  refine ⟨by omega, ?_⟩
  have sp : (PySem.Str.length " ") = 1 := by decide
  have := PySem.StrLaws.join_length_le " " (isortS (P21.dd asks))
  rw [← PySem.StrLaws.glued_eq_join, s1, sp] at this
  unfold keyT PySem.Txt.join
  omega
end K21
end
section
set_option Elab.async false
set_option linter.all false
set_option maxRecDepth 10000
set_option maxHeartbeats 4000000
namespace K21
open PySem EV
open L2 (Key atI ixN)
theorem isort_len (l : List PySem.Str) : (isortS l).length = l.length := (isortS_perm l).length_eq
theorem plain_key {so : List SO} {asks : List PySem.Str} (al : asks.length ≤ 8) (a1 : ∀ y ∈ asks, PySem.Str.length y = 1) : ∃ ex, g_plain_key [.list (strL asks), .str "m"] so = .ok (.str (keyT asks ++ "|m")) (so ++ ex) := by
  let vs : List (Option D) := [some (.list (strL asks)), some (.str "m"), none]
  obtain ⟨k1, k2⟩ := keyT_ok al a1
  obtain ⟨T, hT⟩ : ∃ T, T = so ++ [SO.dct ((P21.dd asks).map fun s => ((.inr s : Key), (.bool true : D)))] := ⟨_, rfl⟩
  have q1 : eDc (iIt (eVar 0)) (tName 2) tTrue (eVar 2) (eC (.bool true)) [2] ⟨vs, so⟩ = .ok (rf so.length) T := by
    unfold eDc
    rw [bnd_ok (it_lst (xs := strL asks) (var_ok rfl))]
    have := dd_go (so := so) (vars := vs) (v := 2) (l := asks) (by show 2 < 3; decide) (by omega) (fuelI (.seq (.fz (strL asks))) so) 0 [] (by simp [fuelI, getS]) (by simp)
    have e : dcGo (tName 2) tTrue (eVar 2) (eC (.bool true)) (.seq (.fz (strL asks))) [2] vs so.length (fuelI (.seq (.fz (strL asks))) so) 0 (so ++ [.dct []]) = some T := this.trans (by rw [hT]; rfl)
    simp only [e]
  have lt : T[so.length]? = some (.dct ((P21.dd asks).map fun s => ((.inr s : Key), (.bool true : D)))) := by rw [hT]; exact app_last
  have dl := dd_len asks
  have q2 := cb_ok (one_ok q1) (sort_dct lt (by omega))
  have q3 := join_ok (c_ok (d := .str " ")) q2 (by omega)
  have lb : PySem.Str.length "|" = 1 := by decide
  have lm : PySem.Str.length "m" = 1 := by decide
  have q4 := op_ok (op_ok q3 (c_ok (d := .str "|")) (dAdd_ss (by have := k2; unfold keyT at this; rw [lb]; unfold mx; omega))) (var_ok (vars := vs) (i := 1) (d := .str "m") rfl) (dAdd_ss (by rw [PySem.Str.length_append, lb, lm]; have := k2; unfold keyT at this; unfold mx; omega))
  refine ⟨[SO.dct ((P21.dd asks).map fun s => ((.inr s : Key), (.bool true : D)))], ?_⟩
  rw [← hT]
  have e : keyT asks ++ "|m" = PySem.Txt.join " " (isortS (P21.dd asks)) ++ "|" ++ "m" := by
    rw [PySem.Str.append_assoc]; rfl
  rw [e]
  exact fn_ret (N := N_plain_key) (ds := [.list (strL asks), .str "m"]) (st := ⟨vs, T⟩) (ret_ok q4)
def sG : MS := sIf (mOr (eB (eOp dNe npE npL)) (eB (eOp dNe (eCall 2 g_plain_key (eCons (eVar 12) (eCons (eC (.str "m")) (eNil)))) (eOp dAdd (eJoin (eC (.str " ")) (eCB dSortS (eCons (eCB dDictP (eCons (eLc false (iIt (eVar 12)) (tName 25) (tTrue) (eTup (eCons (eVar 25) (eCons (eC (.int 1)) (eNil)))) [25]) (eNil))) (eNil)))) (eC (.str "|m")))))) (sRet (eC (.bool false))) (sNext)
theorem sG_ok {vars : List (Option D)} {so : List SO} {asks : List PySem.Str} {m : Nat} (h : M3 vars so asks m) : ∃ so', sG ⟨vars, so⟩ = .ok .nx ⟨vars, so'⟩ := by
  have al := h.al
  have hl : vars.length = 27 := h.b.len
  obtain ⟨n1, n2⟩ := np_law h
  obtain ⟨k1, k2⟩ := keyT_ok al h.a1
  obtain ⟨ex, e⟩ := plain_key (so := so) al h.a1
  have p1 : eCall 2 g_plain_key (eCons (eVar 12) (eCons (eC (.str "m")) (eNil))) ⟨vars, so⟩ = .ok (.str (keyT asks ++ "|m")) so := call_app (two_ok (var_ok h.v12) c_ok) rfl e rfl h.b.wf rfl
  have q1 := lc_pairs (v := 25) (vars := vars) h.b.wf (var_ok h.v12) (by omega) (by omega)
  have q2 := cb_ok (one_ok q1) (dict_ok asks so)
  have dl := dd_len asks
  have lt : (so ++ [SO.dct ((P21.dd asks).map fun s => ((.inr s : Key), (.int 1 : D)))])[so.length]? = some (.dct ((P21.dd asks).map fun s => ((.inr s : Key), (.int 1 : D)))) := app_last
  have q3 := cb_ok (one_ok q2) (sort_dct lt (by omega))
  have q4 := join_ok (c_ok (d := .str " ")) q3 (by omega)
  have lb : PySem.Str.length "|m" = 2 := by decide
  have q5 := op_ok q4 (c_ok (d := .str "|m")) (dAdd_ss (by have := k2; unfold keyT at this; rw [lb]; unfold mx; omega))
  exact ⟨_, if_f (or_ok (b_ok (op_ok n1 n2 (dNe_same rfl))) (b_ok (op_ok p1 q5 (dNe_same rfl))))⟩
/-! ### the start -/
def bodyL : MS := sSeq (sAsg (eOp dAdd (eC (.int 1)) (eCall 2 (g_law_roll 3) (eCons (eVar 1) (eCons (eC (.int 4)) (eNil))))) (tName 2)) (sSeq (sPar 3 4 (eCons (eMake 0 2 g_AnswerKeep_init (eCons (eVar 2) (eNil))) (eCons (eDisp [(eC (.str "rows"), eLst (eNil)), (eC (.str "had"), eC (.int 0)), (eC (.str "lacked"), eC (.int 0)), (eC (.str "saved"), eC (.int 0))]) (eNil)))) (sSeq loop1 (sSeq sA (sSeq sB (sSeq sC (sSeq sD (sSeq sE (sSeq sF (sSeq loop2 sG)))))))))
theorem law_eq : m_law = sFor (iIt (eCall 2 g_law_rounds (eCons (eVar 0) (eCons (eC (.int 1)) (eNil))))) (tName 1) bodyL := rfl
/-- the own dict -/
theorem disp_ok {vars : List (Option D)} {so : List SO} : eDisp [(eC (.str "rows"), eLst (eNil)), (eC (.str "had"), eC (.int 0)), (eC (.str "lacked"), eC (.int 0)), (eC (.str "saved"), eC (.int 0))] ⟨vars, so⟩ = .ok (rf so.length) (so ++ [.dct (ownF [] 0 0 0)]) := by
  unfold eDisp
  have h : (so ++ [SO.dct []])[so.length]? = some (.dct []) := app_last
  have pe : ePairs [(eC (.str "rows"), eLst (eNil)), (eC (.str "had"), eC (.int 0)), (eC (.str "lacked"), eC (.int 0)), (eC (.str "saved"), eC (.int 0))] ⟨vars, so ++ [.dct []]⟩ = .ok (ownF [] 0 0 0) (so ++ [.dct []]) := rfl
  have mg : mergeD [] (ownF [] 0 0 0) = ownF [] 0 0 0 := by rfl
  rw [bnd_ok pe]
  have l4 : (ownF [] 0 0 0).length ≤ 15 := by decide
  simp only [kDisp, h, if_pos l4, mg]
  rw [set_app (Nat.le_refl _)]
  simp
end K21
end
section
set_option Elab.async false
set_option linter.all false
set_option maxRecDepth 10000
set_option maxHeartbeats 4000000
namespace K21
open PySem EV
open L2 (Key atI ixN)
theorem law_dice (c : Int) (so : List SO) : ∃ o, isDi o ∧ g_law_dice [.int c] so = .ok (rf so.length) (so ++ [o]) := by
  let vs : List (Option D) := [some (.int c)]
  suffices ∃ x y z : Int, m_law_dice ⟨vs, so⟩ = .ok (.ret (rf so.length)) ⟨vs, so ++ [.lst [.int x, .int y, .int z]]⟩ by
    obtain ⟨x, y, z, e⟩ := this
    exact ⟨_, ⟨x, y, z, rfl⟩, fn_ret (N := N_law_dice) (ds := [.int c]) e⟩
  have ch : eChain dLt dLt (eOp dSub (eC (.int 0)) (eC (.int 10))) (eVar 0) (eC (.int 10)) ⟨vs, so⟩ = .ok (.bool (decide (-10 < c) && decide (c < 10))) so := by
    have s0 : eOp dSub (eC (.int 0)) (eC (.int 10)) ⟨vs, so⟩ = .ok (.int (-10)) so := op_ok c_ok c_ok rfl
    unfold eChain
    rw [bnd_ok s0]
    show bnd _ _ ⟨vs, so⟩ = _
    rw [bnd_ok (var_ok (d := .int c) rfl)]
    by_cases h : -10 < c
    · simp [bnd, lft, h, eC, EV.ret]
    · simp [bnd, lft, h, EV.ret]
  by_cases hc : -10 < c ∧ c < 10
  · have cc := b_ok ch
    rw [show (decide (-10 < c) && decide (c < 10)) = true by simp [hc.1, hc.2]] at cc
    have q : eLive (eCons (eCB dAbs (eCons (eVar 0) (eNil))) (eCons (eC (.int 0)) (eCons (eC (.int 2)) (eNil)))) ⟨vs, so⟩ = .ok (rf so.length) (so ++ [.lst [.int (if c < 0 then -c else c), .int 0, .int 2]]) := live_ok (cons_ok (cb_ok (one_ok (var_ok rfl)) rfl) (two_ok c_ok c_ok))
    exact ⟨_, _, _, seq_ret ((if_t cc).trans (ret_ok q))⟩
  · have cc := b_ok ch
    rw [show (decide (-10 < c) && decide (c < 10)) = false by
      rw [Bool.eq_false_iff]
      intro z
      rw [Bool.and_eq_true, decide_eq_true_iff, decide_eq_true_iff] at z
      exact hc z] at cc
    have e0 : sIf (eB (eChain dLt dLt (eOp dSub (eC (.int 0)) (eC (.int 10))) (eVar 0) (eC (.int 10)))) (sRet (eLive (eCons (eCB dAbs (eCons (eVar 0) (eNil))) (eCons (eC (.int 0)) (eCons (eC (.int 2)) (eNil)))))) (sNext) ⟨vs, so⟩ = .ok .nx ⟨vs, so⟩ := if_f cc
    have pw : eOp dPow (eC (.int 10)) (eC (.int 18)) ⟨vs, so⟩ = .ok (.int 1000000000000000000) so := op_ok c_ok c_ok rfl
    have q := live_ok (cons_ok (var_ok (vars := vs) (so := so) (i := 0) (d := .int c) rfl) (two_ok (op_ok (c_ok (d := .int 1)) (op_ok (cb_ok (g := dInt) (one_ok (var_ok (vars := vs) (i := 0) (d := .int c) rfl)) rfl) (c_ok (d := .int 1009)) (dMod_ii (by decide))) (dAdd_ii _ _)) (cb_ok (one_ok (op_ok (var_ok (vars := vs) (i := 0) (d := .int c) rfl) pw (dGe_ii _ _))) (show dInt _ _ = some (.int (if decide ((1000000000000000000 : Int) ≤ c) then 1 else 0), so) from rfl))))
    exact ⟨_, _, _, (seq_ok e0).trans (ret_ok q)⟩
theorem rounds (ns : List Int) : ∃ o, isDi o ∧ g_law_rounds [scD (ns.map PyData.int), .int 1] [] = .ok (.list [rf 1]) [.dead, o] := by
  let vs : List (Option D) := [some (scD (ns.map PyData.int)), some (.int 1), none, none]
  obtain ⟨c, hc⟩ : ∃ c : Int, c = ns.headD 0 := ⟨_, rfl⟩
  obtain ⟨o, io, e⟩ := law_dice c [.lst []]
  refine ⟨o, io, ?_⟩
  have s1 : dSl (scD (ns.map PyData.int)) none (some 1) [] = some (.list ((ns.take 1).map PyData.int), []) := by
    simp only [dSl, lsrOf, Option.map_some]
    rw [show (1 : Int) = ((1 : Nat) : Int) from rfl, cut_take, List.map_take]
  have e1 := asgN (i := 2) (sl_ok (var_ok (vars := vs) (i := 0) (so := []) (d := scD (ns.map PyData.int)) rfl) onone_ok (osome_ok (var_ok (vars := vs) (i := 1) (d := .int 1) rfl)) s1)
  let vs2 : List (Option D) := [some (scD (ns.map PyData.int)), some (.int 1), some (.list [.int c]), none]
  have e2 : sIf (eB (eOp dEq (eVar 2) (eLst (eNil)))) (sAsg (eLst (eCons (eC (.int 0)) (eNil))) (tName 2)) (sNext) ⟨vs.set 2 (some (.list ((ns.take 1).map PyData.int))), []⟩ = .ok .nx ⟨vs2, []⟩ := by
    cases ns with
    | nil =>
      have cc : eB (eOp dEq (eVar 2) (eLst (eNil))) ⟨vs.set 2 (some (.list [])), []⟩ = .ok true [] := b_ok (op_ok (var_ok rfl) (lst_ok nil_ok) (dEq_same rfl))
      have := (if_t (f := sAsg (eLst (eCons (eC (.int 0)) (eNil))) (tName 2)) (g := sNext) cc).trans (asgN (i := 2) (lst_ok (one_ok c_ok)))
      subst hc
      exact this
    | cons x r =>
      have ne : dEq (.list [.int x]) (.list []) [] = some (.bool false, []) := by
        have d1 : deepOk (.list [.int x]) = true := by simp [deepOk, PyData.plain, PyData.plainAll, PyData.depth, PyData.depthAll]
        have d2 : deepOk (.list []) = true := by rfl
        simp [dEq, dCmp, dref_list, d1, d2, PyData.eqv, PyData.eqvAll]
      have cc : eB (eOp dEq (eVar 2) (eLst (eNil))) ⟨vs.set 2 (some (.list [.int x])), []⟩ = .ok false [] := b_ok (op_ok (var_ok rfl) (lst_ok nil_ok) ne)
      have := if_f (f := sAsg (eLst (eCons (eC (.int 0)) (eNil))) (tName 2)) (g := sNext) cc
      subst hc
      exact this
  have w3 : eVar 3 ⟨(wipeD vs2 [3]).set 3 (some (.int c)), [.lst []]⟩ = .ok (.int c) [.lst []] := var_ok rfl
  have ca : eCall 1 g_law_dice (eCons (eVar 3) (eNil)) ⟨(wipeD vs2 [3]).set 3 (some (.int c)), [.lst []]⟩ = .ok (rf 1) [.lst [], o] := by
    unfold eCall
    rw [bnd_ok (one_ok w3)]
    simp only [List.length_cons, List.length_nil, if_true, e]
    exact gcR_ref (Nat.le_refl _)
  have q : eLc false (iIt (eVar 2)) (tName 3) (tTrue) (eCall 1 g_law_dice (eCons (eVar 3) (eNil))) [3] ⟨vs2, []⟩ = .ok (.list [rf 1]) [.dead, o] := by
    unfold eLc
    rw [bnd_ok (it_lst (var_ok (vars := vs2) (i := 2) (so := []) (d := .list [.int c]) rfl))]
    have n0 : ∀ so, nextI (.seq (.fz [PyData.int c])) so 0 = some (some (.int c)) := fun so => rfl
    have n1 : ∀ so, nextI (.seq (.fz [PyData.int c])) so 1 = some none := fun so => rfl
    have t1 : ∀ st, tTrue st = .ok true st.so := fun st => rfl
    have mx0 : 0 < mx := by decide
    simp only [fuelI, getS, Option.getD_some, List.length_cons, List.length_nil, List.nil_append]
    unfold lcGo
    simp only [n0, tName, t1, ca, List.getElem?_cons_zero, List.length_nil, if_pos mx0, List.nil_append, List.set_cons_zero]
    unfold lcGo
    simp only [n1, lcEnd, List.getElem?_cons_zero, List.set_cons_zero]
    rfl
  refine fn_ret (N := N_law_rounds) (ds := [scD (ns.map PyData.int), .int 1]) (st := ⟨vs2, _⟩) ?_
  show m_law_rounds ⟨vs, []⟩ = _
  unfold m_law_rounds
  rw [seq_ok e1, seq_ok e2]
  exact ret_ok q
theorem seq_assoc {f g h : MS} {st : EV.St} : sSeq (sSeq f g) h st = sSeq f (sSeq g h) st := by
  unfold sSeq
  cases f st with
  | ok fl st1 => cases fl <;> rfl
  | exc c st1 => rfl
  | bad => rfl
theorem L1.m2 {st : EV.St} {m a b c : Int} {rows : List Row} (h : L1 st m a b c rows) : M2 st.vars st.so := ⟨h.len, h.v1, h.dice, h.wf⟩
theorem bodyL_ok {vars : List (Option D)} {o : SO} (hl : vars.length = 27) (v1 : vars[1]? = some (some (rf 1))) (io : isDi o) : ∃ st, bodyL ⟨vars, [.dead, o]⟩ = .ok .nx st := by
  have h0 : M2 vars [.dead, o] := ⟨hl, v1, ⟨o, rfl, io⟩, by
    unfold WF
    rw [List.all_eq_true]
    intro x hx
    simp only [List.mem_cons, List.not_mem_nil, or_false] at hx
    rcases hx with rfl | rfl
    · rfl
    · exact io.lim⟩
  obtain ⟨v, o1, a1, b1, io1, e1⟩ := roll_call (n := 4) h0.dice h0.v1 (by decide) (by decide)
  have q1 := asgN (i := 2) (op_ok (c_ok (d := .int 1)) e1 (dAdd_ii _ _))
  obtain ⟨vs, hvs⟩ : ∃ vs, vs = vars.set 2 (some (PyData.int (1 + v))) := ⟨_, rfl⟩
  rw [← hvs] at q1
  have vl : vs.length = 27 := by rw [hvs]; simpa using hl
  have w1 : vs[1]? = some (some (rf 1)) := by rw [hvs]; ((repeat rw [List.getElem?_set_ne (by decide)]); first | (rw [List.getElem?_set_self (by (try simp only [List.length_set]); omega)]; done) | assumption)
  have w2 : vs[2]? = some (some (.int (1 + v))) := by rw [hvs]; ((repeat rw [List.getElem?_set_ne (by decide)]); first | (rw [List.getElem?_set_self (by (try simp only [List.length_set]); omega)]; done) | assumption)
  have s1 : ([SO.dead, o] : List SO).set 1 o1 = [.dead, o1] := rfl
  rw [s1] at q1
  have mk := make_keep (so := [.dead, o1]) (var_ok w2) (by omega)
  have q2 := par_ok (i := 3) (j := 4) (two_ok mk (disp_ok (vars := vs)))
  let so3 : List SO := [.dead, o1, .ins 0 (keepF (1 + v) 3 0 0 0), .dct [], .dct (ownF [] 0 0 0)]
  let us : List (Option D) := (vs.set 3 (some (rf 2))).set 4 (some (rf 4))
  have q2' : sPar 3 4 (eCons (eMake 0 2 g_AnswerKeep_init (eCons (eVar 2) (eNil))) (eCons (eDisp [(eC (.str "rows"), eLst (eNil)), (eC (.str "had"), eC (.int 0)), (eC (.str "lacked"), eC (.int 0)), (eC (.str "saved"), eC (.int 0))]) (eNil))) ⟨vs, [.dead, o1]⟩ = .ok .nx ⟨us, so3⟩ := q2
  have hL : L1 ⟨us, so3⟩ (1 + v) 0 0 0 [] := by
    refine ⟨by show ((vs.set 3 _).set 4 _).length = 27; simpa using vl, ?_, ?_, ?_, ?_, ⟨o1, rfl, io1⟩, ⟨3, by decide, ⟨rfl, rfl⟩⟩, rfl, ?_, List.nodup_nil, by simp; omega, by omega, by omega, (fun x hx => by cases hx), by decide, by decide⟩
    · show ((vs.set 3 _).set 4 _)[1]? = _; ((repeat rw [List.getElem?_set_ne (by decide)]); first | (rw [List.getElem?_set_self (by (try simp only [List.length_set]); omega)]; done) | assumption)
    · show ((vs.set 3 _).set 4 _)[2]? = _; ((repeat rw [List.getElem?_set_ne (by decide)]); first | (rw [List.getElem?_set_self (by (try simp only [List.length_set]); omega)]; done) | assumption)
    · show ((vs.set 3 _).set 4 _)[3]? = _; ((repeat rw [List.getElem?_set_ne (by decide)]); first | (rw [List.getElem?_set_self (by (try simp only [List.length_set]); omega)]; done) | assumption)
    · show ((vs.set 3 _).set 4 _)[4]? = _; ((repeat rw [List.getElem?_set_ne (by decide)]); first | (rw [List.getElem?_set_self (by (try simp only [List.length_set]); omega)]; done) | assumption)
    · unfold WF
      rw [List.all_eq_true]
      intro x hx
      simp only [so3, List.mem_cons, List.not_mem_nil, or_false] at hx
      rcases hx with rfl | rfl | rfl | rfl | rfl
      · rfl
      · exact io1.lim
      · exact lim_keep (by show 3 < 5; decide)
      · rfl
      · exact lim_own
  obtain ⟨⟨u1, t1⟩, a, b, c, rows, q3, hL1⟩ := loop1_ok hL
  have h1 := hL1.m2
  obtain ⟨asks, o4, io4, al, as1, q4⟩ := sA_ok h1
  have h2 := (h1.roll io4).name (i := 12) (d := some (.list (strL asks))) (by decide)
  obtain ⟨m, o5, m1, m3, io5, q5⟩ := sB_ok h2
  have ul := h1.len
  simp only [] at ul
  have h3 : M3 ((u1.set 12 (some (.list (strL asks)))).set 13 (some (.int (m : Nat)))) ((t1.set 1 o4).set 1 o5) asks m :=
    ⟨(h2.roll io5).name (by decide), by ((repeat rw [List.getElem?_set_ne (by decide)]); first | (rw [List.getElem?_set_self (by (try simp only [List.length_set]); omega)]; done) | assumption), by rw [List.getElem?_set_self (by simp; omega)], al, as1, m1, m3⟩
  have q6 := sC_ok h3
  have q7 := sD_ok h3
  have h4 := h3.name (i := 14) (d := some (.list ((spots asks).map fun n : Nat => PyData.int (n : Nat)))) (by decide) (by decide) (by decide)
  have q8 := sE_ok h4 (by rw [List.getElem?_set_self (by simp; omega)])
  obtain ⟨vars', so', q9, h5⟩ := loop2_ok h4
  obtain ⟨so9, q10⟩ := sG_ok h5
  have fin : bodyL ⟨vars, [.dead, o]⟩ = .ok .nx ⟨vars', so9⟩ := by
    unfold bodyL
    rw [seq_ok q1, seq_ok q2', seq_ok q3, seq_ok q4, seq_ok q5, seq_ok q6, seq_ok q7, seq_ok q8]
    rw [← seq_assoc, seq_ok q9]
    exact q10
  exact ⟨_, fin⟩
theorem math (ns : List Int) : ∃ st, m_law ⟨startD N_law [scD (ns.map .int)], []⟩ = .ok .nx st := by
  obtain ⟨o, io, e⟩ := rounds ns
  have v0 : (startD N_law [scD (ns.map PyData.int)])[0]? = some (some (scD (ns.map PyData.int))) := rfl
  obtain ⟨vs, hvs⟩ : ∃ vs, vs = startD N_law [scD (ns.map PyData.int)] := ⟨_, rfl⟩
  have vl : vs.length = 27 := by rw [hvs]; rfl
  rw [← hvs] at v0 ⊢
  have ca : eCall 2 g_law_rounds (eCons (eVar 0) (eCons (eC (.int 1)) (eNil))) ⟨vs, []⟩ = .ok (.list [rf 1]) [.dead, o] := by
    unfold eCall
    rw [bnd_ok (two_ok (var_ok v0) c_ok)]
    simp only [List.length_cons, List.length_nil, if_true, e]
    rfl
  have ff := for_ok (g := tName 1) (b := bodyL) (it_lst ca)
  obtain ⟨st, q⟩ := bodyL_ok (vars := vs.set 1 (some (rf 1))) (by simpa using vl) (by ((repeat rw [List.getElem?_set_ne (by decide)]); first | (rw [List.getElem?_set_self (by (try simp only [List.length_set]); omega)]; done) | assumption)) io
  rw [law_eq, ff]
  have n0 : ∀ so, nextI (.seq (.fz [rf 1])) so 0 = some (some (rf 1)) := fun so => rfl
  have n1 : ∀ so, nextI (.seq (.fz [rf 1])) so 1 = some none := fun so => rfl
  refine ⟨st, ?_⟩
  simp only [fuelI, getS, Option.getD_some, List.length_cons, List.length_nil]
  unfold forGo
  simp only [n0, tName, q]
  unfold forGo
  simp only [n1]
end K21
end
theorem PySem.Challenge.cw_searchstack_k21_answers_that_are_kept_holds : PySem.Challenge.rw_searchstack_k21_answers_that_are_kept.Holds :=
  K21.holds (fun ns _ _ => K21.math ns)
