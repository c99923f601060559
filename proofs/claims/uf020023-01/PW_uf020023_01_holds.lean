import PyProof.Rows.All
import Wide.All
import OpenK.AllK
import Wide.FinOn
import KE.KItem
import OpenK.KLine
import OpenK.KRaise
import OpenK.KOwn
import KE.KIsNot
import PyProof.Rows.Chain
import PyProof.Rows.TupIter
import PyProof.WalkInts
import PyProof.ConsumeWalk
import PyProof.P3In
import PyProof.TupleOfSeq
import PyProof.AssignAttr
import PyProof.Rows.AttrNodeAny
import PyProof.SliceMore
import PyProof.ListOps
import PyProof.ListMulRoad
import PyProof.Rows.ListMul
import PyProof.AutoIntOps
import PyProof.FactsAll.tuple_2
import PySem.Challenge.RW_uf020023_01
set_option Elab.async false
set_option compiler.extract_closed false
set_option maxRecDepth 100000
set_option maxHeartbeats 8000000
set_option autoImplicit false
set_option linter.unusedVariables false
set_option genSizeOf false
set_option genSizeOfSpec false
set_option genInjectivity false
namespace Mine
open PySem PySem.Calls PySem.Spec PyProof.Rows
inductive V where
  | none
  | bool (b : Bool)
  | int (i : Int)
  | str (s : Str)
  | ref (i : Nat)
  | tup (l : List V)
  | exc (C : Addr)

inductive O where
  | list (l : List V)
  | ro (l : List V)
  | inst (C : Addr) (j : Nat)
  | dict (fs : List (Str × V))

mutual
inductive VR (ι : List Addr) (h : Heap) : V → Value → Prop where
  | none : VR ι h .none .none
  | bool (b : Bool) : VR ι h (.bool b) (.bool b)
  | int (i : Int) (t : Tok) : VR ι h (.int i) (.int i t)
  | str (s : Str) (t : Tok) : VR ι h (.str s) (.str s t)
  | ref {i : Nat} {a : Addr} : ι[i]? = some a → VR ι h (.ref i) (.ref a)
  | tup {l : List V} {a : Addr} {vs : List Value} : IsTup h a vs.toArray → VRs ι h l vs → VR ι h (.tup l) (.ref a)
  | exc {C a : Addr} {o : Obj} : h.get? a = some o → o.cls = .ref C → (∃ vs, o.data = .fields vs) → VR ι h (.exc C) (.ref a)
inductive VRs (ι : List Addr) (h : Heap) : List V → List Value → Prop where
  | nil : VRs ι h [] []
  | cons {v : V} {u : Value} {l : List V} {us : List Value} : VR ι h v u → VRs ι h l us → VRs ι h (v :: l) (u :: us)
end

def Same (o o' : Obj) : Prop := o' = o ∨ ((∃ es n, o.data = .dict es n) ∧ ∃ sl, o' = { o with slots := sl })

theorem Same.refl (o : Obj) : Same o o := .inl rfl
theorem Same.trans {a b c : Obj} (x : Same a b) (y : Same b c) : Same a c := by
  rcases x with rfl | ⟨⟨es, n, hd⟩, sl, rfl⟩
  · exact y
  · rcases y with rfl | ⟨_, sl', rfl⟩
    · exact .inr ⟨⟨es, n, hd⟩, sl, rfl⟩
    · exact .inr ⟨⟨es, n, hd⟩, sl', rfl⟩
theorem Same.cls {a b : Obj} (x : Same a b) : b.cls = a.cls := by
  rcases x with rfl | ⟨_, sl, rfl⟩ <;> rfl
theorem Same.data {a b : Obj} (x : Same a b) : b.data = a.data := by
  rcases x with rfl | ⟨_, sl, rfl⟩ <;> rfl
theorem Same.eq {a b : Obj} (x : Same a b) (h : ∀ es n, a.data ≠ .dict es n) : b = a := by
  rcases x with rfl | ⟨⟨es, n, hd⟩, _⟩
  · rfl
  · exact absurd hd (h es n)

def Kp (X : Addr → Prop) (h h' : Heap) : Prop := ∀ b o, h.get? b = some o → ¬ X b → ∃ o', h'.get? b = some o' ∧ Same o o'

theorem Kp.refl (X : Addr → Prop) (h : Heap) : Kp X h h := fun _ o e _ => ⟨o, e, .refl o⟩
theorem Kp.of_keeps {X : Addr → Prop} {h h' : Heap} (k : ∀ b o, h.get? b = some o → h'.get? b = some o) : Kp X h h' := fun b o e _ => ⟨o, k b o e, .refl o⟩
theorem Kp.trans {X Y : Addr → Prop} {h₁ h₂ h₃ : Heap} (x : Kp X h₁ h₂) (y : Kp Y h₂ h₃) (hy : ∀ b o, h₁.get? b = some o → Y b → X b) : Kp X h₁ h₃ := fun b o e n => by
  obtain ⟨o', e', s'⟩ := x b o e n
  obtain ⟨o'', e'', s''⟩ := y b o' e' fun q => n (hy b o e q)
  exact ⟨o'', e'', s'.trans s''⟩
theorem Kp.mono {X Y : Addr → Prop} {h h' : Heap} (x : Kp X h h') (hy : ∀ b o, h.get? b = some o → X b → Y b) : Kp Y h h' := fun b o e n => x b o e fun q => n (hy b o e q)
theorem Kp.tup {X : Addr → Prop} {h h' : Heap} {a : Addr} {vs : Array Value} (k : Kp X h h') (n : ¬ X a) (x : IsTup h a vs) : IsTup h' a vs := by
  obtain ⟨o, ho, hc, m, hd⟩ := x
  obtain ⟨o', e', s'⟩ := k a o ho n
  exact ⟨o', e', s'.cls.trans hc, m, s'.data.trans hd⟩
theorem Kp.ns {X : Addr → Prop} {h h' : Heap} {a : Addr} {m : Str → Option Value} (k : Kp X h h') (n : ¬ X a) (x : h.Ns a m) : h'.Ns a m := by
  obtain ⟨o, es, ep, ho, hd, r⟩ := x
  obtain ⟨o', e', s'⟩ := k a o ho n
  exact ⟨o', es, ep, e', s'.data.trans hd, r⟩
theorem Kp.cell {X : Addr → Prop} {h h' : Heap} {a : Addr} {v : Option Value} (k : Kp X h h') (n : ¬ X a) (x : h.IsCell a v) : h'.IsCell a v := by
  obtain ⟨o, ho, hd⟩ := x
  obtain ⟨o', e', s'⟩ := k a o ho n
  exact ⟨o', e', s'.data.trans hd⟩
theorem Kp.frames {X : Addr → Prop} {h h' base : Heap} (k : Kp X h h') : ∀ {l : List Env}, h.FunFrames base l → (∀ env ∈ l, ∀ L, env.frame = some L → ¬ X L) → h'.FunFrames base l
  | [], _, _ => trivial
  | env :: _, ⟨hk, ⟨L, o, hf, hn, ho, hd⟩, hr⟩, hx => by
    obtain ⟨o', e', s'⟩ := k L o ho (hx env (.head _) L hf)
    exact ⟨hk, ⟨L, o', hf, hn, e', fun vs => by rw [s'.data]; exact hd vs⟩, k.frames hr fun e he => hx e (.tail _ he)⟩

def Mu (ι : List Addr) (h : Heap) : Prop := ∀ a ∈ ι, ∀ o, h.get? a = some o → o.cls ≠ .type "tuple" ∧ ∀ vs, o.data ≠ .fields vs

def Aft (ι : List Addr) (h : Heap) (ι' : List Addr) (h' : Heap) : Prop :=
  (∃ t, ι' = ι ++ t) ∧ (∀ b ∈ ι', b ∈ ι ∨ h.get? b = none) ∧ Kp (· ∈ ι) h h'

theorem Aft.refl (ι : List Addr) (h : Heap) : Aft ι h ι h := ⟨⟨[], by simp⟩, fun _ hb => .inl hb, .refl _ _⟩
theorem Aft.of_keeps {ι : List Addr} {h h' : Heap} (k : ∀ b o, h.get? b = some o → h'.get? b = some o) : Aft ι h ι h' := ⟨⟨[], by simp⟩, fun _ hb => .inl hb, .of_keeps k⟩
theorem Kp.some {X : Addr → Prop} {h h' : Heap} (k : Kp X h h') {b : Addr} {o : Obj} (e : h.get? b = some o) (n : ¬ X b) : ∃ o', h'.get? b = some o' := let ⟨o', e', _⟩ := k b o e n; ⟨o', e'⟩
theorem Aft.trans {ι₁ ι₂ ι₃ : List Addr} {h₁ h₂ h₃ : Heap} (x : Aft ι₁ h₁ ι₂ h₂) (y : Aft ι₂ h₂ ι₃ h₃) : Aft ι₁ h₁ ι₃ h₃ := by
  obtain ⟨⟨t, rfl⟩, x2, x3⟩ := x
  obtain ⟨⟨t', rfl⟩, y2, y3⟩ := y
  refine ⟨⟨t ++ t', by simp⟩, fun b hb => ?_, x3.trans y3 fun b o e q => (x2 b q).resolve_right fun z => by rw [e] at z; cases z⟩
  by_cases hb1 : b ∈ ι₁
  · exact .inl hb1
  · refine .inr ?_
    cases q : h₁.get? b with
    | none => rfl
    | some o =>
      obtain ⟨o', e', _⟩ := x3 b o q hb1
      rcases y2 b hb with z | z
      · rcases x2 b z with z' | z'
        · exact absurd z' hb1
        · rw [q] at z'; cases z'
      · rw [e'] at z; cases z

def MuX (X : Addr → Prop) (h : Heap) : Prop := ∀ a o, X a → h.get? a = some o → (o.cls = .type "tuple" → ∀ its n, o.data ≠ .seq its n) ∧ ∀ vs, o.data = .fields vs → ∀ C, o.cls ≠ .ref C
theorem Mu.x {ι : List Addr} {h : Heap} (M : Mu ι h) : MuX (· ∈ ι) h := fun a o ha ho => ⟨fun q => absurd q (M a ha o ho).1, fun vs q => absurd q ((M a ha o ho).2 vs)⟩

mutual
theorem VR.grow {X : Addr → Prop} {ι ι' : List Addr} {h h' : Heap} (M : MuX X h) (p : ∃ t, ι' = ι ++ t) (k : Kp X h h') : ∀ {v : V} {u : Value}, VR ι h v u → VR ι' h' v u
  | _, _, .none => .none
  | _, _, .bool b => .bool b
  | _, _, .int i t => .int i t
  | _, _, .str s t => .str s t
  | _, _, .ref e => .ref (by obtain ⟨t, rfl⟩ := p; rw [List.getElem?_append_left (List.getElem?_eq_some_iff.mp e).1]; exact e)
  | _, _, .tup x y => .tup (k.tup (fun q => by obtain ⟨o, ho, hc, n, hd⟩ := x; exact (M _ o q ho).1 hc _ n hd) x) (VRs.grow M p k y)
  | _, _, .exc (C := C) (a := a) (o := o) e c d => by
    obtain ⟨o', e', s'⟩ := k a o e (fun q => by obtain ⟨vs, hv⟩ := d; exact (M _ o q e).2 vs hv C c)
    exact .exc e' (s'.cls.trans c) (by obtain ⟨vs, hv⟩ := d; exact ⟨vs, s'.data.trans hv⟩)
theorem VRs.grow {X : Addr → Prop} {ι ι' : List Addr} {h h' : Heap} (M : MuX X h) (p : ∃ t, ι' = ι ++ t) (k : Kp X h h') : ∀ {l : List V} {us : List Value}, VRs ι h l us → VRs ι' h' l us
  | _, _, .nil => .nil
  | _, _, .cons x y => .cons (VR.grow M p k x) (VRs.grow M p k y)
end
theorem VR.mono {ι ι' : List Addr} {h h' : Heap} (M : Mu ι h) (A : Aft ι h ι' h') {v : V} {u : Value} (x : VR ι h v u) : VR ι' h' v u := x.grow M.x A.1 A.2.2
theorem VRs.mono {ι ι' : List Addr} {h h' : Heap} (M : Mu ι h) (A : Aft ι h ι' h') {v : List V} {u : List Value} (x : VRs ι h v u) : VRs ι' h' v u := x.grow M.x A.1 A.2.2

structure C0 where
  prog : Program
  w : World
  base : Heap
  mg : Str → Option Value
  mb : Str → Option Value

abbrev C0.M (c : C0) : Model := model c.prog c.w

structure Gr (c : C0) : Prop where
  g : c.base.Ns mainGlobals c.mg
  b : c.base.Ns builtinsNs c.mb
  nolimit : c.base.NoLimit
  builtins : ∀ x : Str, x ≠ "__name__" → c.mb x = bootBuiltins x

inductive FsR (ι : List Addr) (h : Heap) (P : Params) : List (Str × V) → List DictEntry → Prop where
  | nil : FsR ι h P [] []
  | cons {x : Str} {t : Tok} {v : V} {u : Value} {r : List (Str × V)} {es : List DictEntry} : VR ι h v u → FsR ι h P r es → FsR ι h P ((x, v) :: r) (⟨PyData.keyHash P x, .str x t, u⟩ :: es)

def OR (c : C0) (ι : List Addr) (h : Heap) : O → Addr → Prop
  | .list l, a => ∃ vs n, h.get? a = some { cls := .type "list", data := .seq vs.toArray n } ∧ VRs ι h l vs ∧ c.base.get? a = none
  | .ro l, a => ∃ vs, h.IsList a vs.toArray ∧ VRs ι h l vs
  | .inst C j, a => ∃ dx, ι[j]? = some dx ∧ h.get? a = some { cls := .ref C, dict := some dx, data := .plain } ∧ c.base.get? a = none
  | .dict fs, a => ∃ es n, h.get? a = some { cls := .type "dict", data := .dict es.toArray n } ∧ FsR ι h c.w.params fs es ∧ c.base.get? a = none

structure Stt where
  n : Nat
  kd : Str → Option NameKind
  q : Bool

structure Fm where
  A : Around
  fe : Env
  env : Env
  outer : List Env

structure Sit (c : C0) (S : Stt) (f : Fm) (ι : List Addr) (ρ γ : List (Str × V)) (σ : List O) (h : Heap) : Prop where
  gr : Gr c
  base : c.base.StaysIn h
  stack : f.A.frames = some (f.fe :: f.outer)
  frames : h.FunFrames c.base (f.fe :: f.outer)
  fnotin : ∀ env ∈ f.fe :: f.outer, ∀ L, env.frame = some L → L ∉ ι
  fdict : ∀ env ∈ f.fe :: f.outer, ∀ L o, env.frame = some L → h.get? L = some o → ∃ es n, o.data = .dict es n
  depth : f.A.depth ≤ 310 + 4 * S.n
  units : f.A.units ≤ 50 + 20 * S.n
  lvl : S.n ≤ 50
  quiet : S.q = true → f.A.handled = none
  kind : f.env.scope.kind = .function
  kinds : ∀ x, f.env.kindOf x = S.kd x
  glob : f.env.globals = mainGlobals
  blt : f.env.builtins = builtinsNs
  frm : f.env.frame = f.fe.frame
  loc : ∃ m, h.Ns f.env.locals m ∧ ∀ x v, ρ.lookup x = some v → ∃ u, m x = some u ∧ VR ι h v u
  locx : f.env.locals ∉ ι ∧ c.base.get? f.env.locals = none
  cel : ∀ x v, γ.lookup x = some v → ∃ a u, f.env.cells.lookup x = some a ∧ h.IsCell a (some u) ∧ VR ι h v u
  celx : ∀ x a, f.env.cells.lookup x = some a → a ∉ ι ∧ a ≠ f.env.locals ∧ c.base.get? a = none ∧ ∃ v₀, h.IsCell a v₀
  celk : ∀ x, S.kd x = some .cell → ∃ a, f.env.cells.lookup x = some a
  celd : ∀ x y a, f.env.cells.lookup x = some a → f.env.cells.lookup y = some a → x = y
  len : ι.length = σ.length
  nd : ι.Nodup
  sto : ∀ (i : Nat) o a, σ[i]? = some o → ι[i]? = some a → OR c ι h o a

theorem OR.mu {c : C0} {ι : List Addr} {h : Heap} {o : O} {a : Addr} (x : OR c ι h o a) : ∀ ob, h.get? a = some ob → ob.cls ≠ .type "tuple" ∧ ∀ vs, ob.data ≠ .fields vs := by
  intro ob hob
  cases o with
  | list l => obtain ⟨vs, n, e, _⟩ := x; rw [e] at hob; cases hob; exact ⟨fun q => absurd q (by show Value.type _ ≠ Value.type _; decide), fun _ q => nomatch q⟩
  | ro l =>
    obtain ⟨vs, ⟨o', e, hc, n, hd⟩, _⟩ := x
    rw [e] at hob; cases hob
    exact ⟨by rw [hc]; decide, fun _ => by rw [hd]; exact fun q => nomatch q⟩
  | inst C j => obtain ⟨dx, _, e, _⟩ := x; rw [e] at hob; cases hob; exact ⟨fun q => (nomatch q), fun _ q => (nomatch q)⟩
  | dict fs => obtain ⟨es, n, e, _⟩ := x; rw [e] at hob; cases hob; exact ⟨fun q => absurd q (by show Value.type _ ≠ Value.type _; decide), fun _ q => nomatch q⟩

section
variable {c : C0} {S : Stt} {f : Fm} {ι ι' : List Addr} {ρ γ : List (Str × V)} {σ σ' : List O} {h h' : Heap}

theorem Sit.mu (x : Sit c S f ι ρ γ σ h) : Mu ι h := by
  intro a ha o ho
  obtain ⟨i, hi, rfl⟩ := List.mem_iff_getElem.mp ha
  have hs : i < σ.length := x.len ▸ hi
  exact (x.sto i σ[i] ι[i] (List.getElem?_eq_getElem hs) (List.getElem?_eq_getElem hi)).mu o ho

theorem FsR.mono {P : Params} (M : Mu ι h) (A : Aft ι h ι' h') {fs : List (Str × V)} {es : List DictEntry} (x : FsR ι h P fs es) : FsR ι' h' P fs es := by
  induction x with
  | nil => exact .nil
  | cons v _ ih => exact .cons (v.mono M A) ih

theorem Sit.aft (x : Sit c S f ι ρ γ σ h) (A : Aft ι h ι' h') (hb : c.base.StaysIn h') (hnf : ∀ b ∈ ι', b ∈ ι ∨ h.get? b = none)
    (hl : ι'.length = σ'.length) (hnd : ι'.Nodup) (hs : ∀ (i : Nat) o a, σ'[i]? = some o → ι'[i]? = some a → OR c ι' h' o a) : Sit c S f ι' ρ γ σ' h' := by
  have M := x.mu
  have fresh : ∀ b o, h.get? b = some o → b ∉ ι → b ∉ ι' := fun b o e n q => by
    rcases hnf b q with z | z
    · exact n z
    · rw [e] at z; cases z
  have ff : ∀ env ∈ f.fe :: f.outer, ∀ L, env.frame = some L → L ∉ ι' := fun env he L hL => by
    obtain ⟨_, o, ho, _⟩ := x.frames.mem (List.mem_filterMap.mpr ⟨env, he, hL⟩)
    exact fresh L o ho (x.fnotin env he L hL)
  obtain ⟨m, hm, hr⟩ := x.loc
  refine { x with base := hb, frames := A.2.2.frames x.frames x.fnotin, fnotin := ff, fdict := fun env he L o' hL e' => ?_, loc := ⟨m, A.2.2.ns x.locx.1 hm, fun y v e => ?_⟩, locx := ⟨?_, x.locx.2⟩, cel := fun y v e => ?_, celx := fun y a e => ?_, len := hl, nd := hnd, sto := hs }
  · obtain ⟨_, o, ho, _⟩ := x.frames.mem (List.mem_filterMap.mpr ⟨env, he, hL⟩)
    obtain ⟨o₂, e₂, s₂⟩ := A.2.2 L o ho (x.fnotin env he L hL)
    rw [e'] at e₂; cases e₂
    rw [s₂.data]; exact x.fdict env he L o hL ho
  · obtain ⟨u, e1, e2⟩ := hr y v e
    exact ⟨u, e1, e2.mono M A⟩
  · obtain ⟨o, _, _, ho, _⟩ := hm
    exact fresh _ o ho x.locx.1
  · obtain ⟨a, u, e1, e2, e3⟩ := x.cel y v e
    obtain ⟨n1, _⟩ := x.celx y a e1
    exact ⟨a, u, e1, A.2.2.cell n1 e2, e3.mono M A⟩
  · obtain ⟨n1, n2, n3, v₀, e2⟩ := x.celx y a e
    obtain ⟨o, ho, _⟩ := id e2
    exact ⟨fresh a o ho n1, n2, n3, v₀, A.2.2.cell n1 e2⟩

theorem OR.keeps {ι : List Addr} (M : Mu ι h) (k : ∀ b o, h.get? b = some o → h'.get? b = some o) {o : O} {a : Addr} (x : OR c ι h o a) : OR c ι h' o a := by
  have A : Aft ι h ι h' := .of_keeps k
  cases o with
  | list l => obtain ⟨vs, n, e, r, b⟩ := x; exact ⟨vs, n, k _ _ e, r.mono M A, b⟩
  | ro l => obtain ⟨vs, e, r⟩ := x; exact ⟨vs, e.at fun o q => k _ o q, r.mono M A⟩
  | inst C j => obtain ⟨dx, e, q, b⟩ := x; exact ⟨dx, e, k _ _ q, b⟩
  | dict fs => obtain ⟨es, n, e, r, b⟩ := x; exact ⟨es, n, k _ _ e, r.mono M A, b⟩

theorem Sit.keeps (x : Sit c S f ι ρ γ σ h) (k : ∀ b o, h.get? b = some o → h'.get? b = some o) : Sit c S f ι ρ γ σ h' :=
  x.aft (.of_keeps k) (fun b o e => k b o (x.base b o e)) (fun _ hb => .inl hb) x.len x.nd fun i o a e1 e2 => (x.sto i o a e1 e2).keeps x.mu k
end

def frs (f : Fm) : List Addr := (f.fe :: f.outer).filterMap (·.frame)

def Air (c : C0) (f : Fm) (ea C : Addr) (hb h' : Heap) : Prop :=
  (∃ args, Heap.MadeExcOf hb h' ea (.ref C) args) ∨
  (∃ B a0, c.base.StaysIn B ∧ (∀ b o, hb.get? b = some o → b ∉ frs f → B.get? b = some o) ∧ Heap.FlyingW B (f.fe :: f.outer) ea (.ref C) a0 h' ∧
    ∀ b o, hb.get? b = some o → b ∈ frs f → ∃ sl, h'.get? b = some { o with slots := sl })

inductive PR {α β : Type} (R : List Addr → Heap → β → α → Prop) (c : C0) (S : Stt) (f : Fm) (ι : List Addr) (ρ γ : List (Str × V)) (s : Shared) (Q : β → List O → Prop) (u : α) (s' : Shared) : Prop where
  | mk (v : β) (σ' : List O) (ι' : List Addr) (h' : Heap) (tk : Nat) (e : s' = { s with heap := h', toks := tk }) (A : Aft ι s.heap ι' h') (w : Sit c S f ι' ρ γ σ' h') (r : R ι' h' v u) (q : Q v σ')

inductive PX (c : C0) (S : Stt) (f : Fm) (ι : List Addr) (ρ γ : List (Str × V)) (s : Shared) (X : Addr → List O → Prop) (ev : Value) (s' : Shared) : Prop where
  | mk (C ea : Addr) (hb : Heap) (σ' : List O) (ι' : List Addr) (h' : Heap) (tk : Nat) (e1 : ev = .ref ea) (e : s' = { s with heap := h', toks := tk }) (A : Aft ι s.heap ι' hb) (w : Sit c S f ι' ρ γ σ' hb) (air : Air c f ea C hb h') (q : X C σ')

def W {α β : Type} (R : List Addr → Heap → β → α → Prop) (c : C0) (S : Stt) (t : Env → Sem α) (ρ γ : List (Str × V)) (Q : β → List O → Prop) (X : Addr → List O → Prop) (σ : List O) : Prop :=
  ∀ f ι s, Sit c S f ι ρ γ σ s.heap → wpAny c.M f.A (t f.env) (PR R c S f ι ρ γ s Q) (PX c S f ι ρ γ s X) s

abbrev WE (c : C0) (S : Stt) (e : Expr) (ρ γ : List (Str × V)) (Q : V → List O → Prop) (X : Addr → List O → Prop) (σ : List O) : Prop := W VR c S (fun env => eval e env) ρ γ Q X σ
abbrev WB (c : C0) (S : Stt) (e : Expr) (ρ γ : List (Str × V)) (Q : Bool → List O → Prop) (X : Addr → List O → Prop) (σ : List O) : Prop := W (fun _ _ b b' => b = b') c S (fun env => isTrue e env (eval e env)) ρ γ Q X σ

section
variable {α β α' β' : Type} {R : List Addr → Heap → β → α → Prop} {R' : List Addr → Heap → β' → α' → Prop} {c : C0} {S : Stt} {f : Fm} {ι ι₁ : List Addr} {ρ γ : List (Str × V)} {σ σ' : List O} {s s₁ s' : Shared} {h₁ : Heap} {tk : Nat}
  {Q Q' : β → List O → Prop} {X X' : Addr → List O → Prop} {t : Env → Sem α}

theorem PR.trans {u : α} (p : PR R c S f ι₁ ρ γ s₁ Q u s') (e : s₁ = { s with heap := h₁, toks := tk }) (A : Aft ι s.heap ι₁ h₁) : PR R c S f ι ρ γ s Q u s' := by
  obtain ⟨v, σ', ι', h', tk', rfl, A', r, r2, r3⟩ := p
  subst e
  exact ⟨v, σ', ι', h', tk', rfl, A.trans A', r, r2, r3⟩
theorem PX.trans {ev : Value} (p : PX c S f ι₁ ρ γ s₁ X ev s') (e : s₁ = { s with heap := h₁, toks := tk }) (A : Aft ι s.heap ι₁ h₁) : PX c S f ι ρ γ s X ev s' := by
  obtain ⟨C, ea, hb, σ', ι', h', tk', rfl, rfl, A', r, r2, r3⟩ := p
  subst e
  exact ⟨C, ea, hb, σ', ι', h', tk', rfl, rfl, A.trans A', r, r2, r3⟩

theorem PR.imp {u : α} (p : PR R c S f ι ρ γ s Q u s') (hQ : ∀ v σ', Q v σ' → Q' v σ') : PR R c S f ι ρ γ s Q' u s' := by
  cases p with | mk v σ' ι' h' tk e a b d q => exact ⟨v, σ', ι', h', tk, e, a, b, d, hQ v σ' q⟩
theorem PX.imp {ev : Value} (p : PX c S f ι ρ γ s X ev s') (hX : ∀ C σ', X C σ' → X' C σ') : PX c S f ι ρ γ s X' ev s' := by
  cases p with | mk C ea hb σ' ι' h' tk e1 e a b d q => exact ⟨C, ea, hb, σ', ι', h', tk, e1, e, a, b, d, hX C σ' q⟩
theorem W.mono (p : W R c S t ρ γ Q X σ) (hQ : ∀ v σ', Q v σ' → Q' v σ') (hX : ∀ C σ', X C σ' → X' C σ') : W R c S t ρ γ Q' X' σ := fun f ι s x =>
  wpAny_mono (p f ι s x) (fun _ _ p => p.imp hQ) fun _ _ p => p.imp hX
theorem W.imp (p : W R c S t ρ γ Q X σ) (hQ : ∀ v σ', Q v σ' → Q' v σ') : W R c S t ρ γ Q' X σ := p.mono hQ fun _ _ q => q

theorem PR.here {u : α} {v : β} {h' : Heap} (x : Sit c S f ι ρ γ σ s.heap) (k : ∀ b o, s.heap.get? b = some o → h'.get? b = some o) (r : R ι h' v u) (q : Q v σ) : PR R c S f ι ρ γ s Q u { s with heap := h', toks := tk } :=
  ⟨v, σ, ι, h', tk, rfl, .of_keeps k, x.keeps k, r, q⟩
theorem PR.now {u : α} {v : β} (x : Sit c S f ι ρ γ σ s.heap) (r : R ι s.heap v u) (q : Q v σ) : PR R c S f ι ρ γ s Q u s :=
  ⟨v, σ, ι, s.heap, s.toks, rfl, .refl _ _, x, r, q⟩
theorem PR.tok {u : α} {v : β} (x : Sit c S f ι ρ γ σ s.heap) (r : R ι s.heap v u) (q : Q v σ) : PR R c S f ι ρ γ s Q u { s with toks := tk } :=
  ⟨v, σ, ι, s.heap, tk, rfl, .refl _ _, x, r, q⟩
end

def W1 {α β : Type} (R : List Addr → Heap → β → α → Prop) (c : C0) (S : Stt) (k : Value → Sem α) (a : V) (ρ γ : List (Str × V)) (Q : β → List O → Prop) (X : Addr → List O → Prop) (σ : List O) : Prop :=
  ∀ f ι s u, Sit c S f ι ρ γ σ s.heap → VR ι s.heap a u → wpAny c.M f.A (k u) (PR R c S f ι ρ γ s Q) (PX c S f ι ρ γ s X) s
def W2 {α β : Type} (R : List Addr → Heap → β → α → Prop) (c : C0) (S : Stt) (k : Value → Value → Sem α) (a b : V) (ρ γ : List (Str × V)) (Q : β → List O → Prop) (X : Addr → List O → Prop) (σ : List O) : Prop :=
  ∀ f ι s u v, Sit c S f ι ρ γ σ s.heap → VR ι s.heap a u → VR ι s.heap b v → wpAny c.M f.A (k u v) (PR R c S f ι ρ γ s Q) (PX c S f ι ρ γ s X) s
def WL {α β : Type} (R : List Addr → Heap → β → α → Prop) (c : C0) (S : Stt) (k : List Value → Sem α) (as : List V) (ρ γ : List (Str × V)) (Q : β → List O → Prop) (X : Addr → List O → Prop) (σ : List O) : Prop :=
  ∀ f ι s us, Sit c S f ι ρ γ σ s.heap → VRs ι s.heap as us → wpAny c.M f.A (k us) (PR R c S f ι ρ γ s Q) (PX c S f ι ρ γ s X) s

abbrev RB : List Addr → Heap → Bool → Bool → Prop := fun _ _ b b' => b = b'

section
variable {c : C0} {S : Stt} {ρ γ : List (Str × V)} {σ : List O} {Q : V → List O → Prop} {QB : Bool → List O → Prop} {X : Addr → List O → Prop}

theorem name_L {x : Str} {pos : Pos} {v : V} (hv : ρ.lookup x = some v) (hk : S.kd x = some .local) (q : Q v σ) (hd : (x == ("__debug__" : Str)) = false := by decide) : WE c S (.Name x pos) ρ γ Q X σ := fun f ι s w => by
  obtain ⟨m, hm, hr⟩ := w.loc
  obtain ⟨u, e1, e2⟩ := hr x v hv
  exact wpAny_Name (wpAny_loadName_local w.kind ((w.kinds x).trans hk) hm e1 (.now w e2 q)) hd
theorem name_C {x : Str} {pos : Pos} {v : V} (hv : γ.lookup x = some v) (hk : S.kd x = some .cell) (q : Q v σ) (hd : (x == ("__debug__" : Str)) = false := by decide) : WE c S (.Name x pos) ρ γ Q X σ := fun f ι s w => by
  obtain ⟨a, u, e1, e2, e3⟩ := w.cel x v hv
  exact wpAny_Name (wpAny_loadName_cell w.kind ((w.kinds x).trans hk) e1 e2 (.now w e3 q)) hd
theorem name_G {x : Str} {pos : Pos} {v : V} {u : Value} (hk : S.kd x = some .globalImplicit) (hg : c.mg x = some u) (hr : ∀ ι h, VR ι h v u) (q : Q v σ) (hd : (x == ("__debug__" : Str)) = false := by decide) : WE c S (.Name x pos) ρ γ Q X σ := fun f ι s w => by
  refine Name_function_global w.kind ((w.kinds x).trans hk) (loadGlobal_global (mg := c.mg) ?_ hg (.now w (hr _ _) q)) hd
  rw [w.glob]; exact w.gr.g.keeps w.base

theorem const_int {i : Int} {k : Nat} {pos : Pos} (q : Q (.int i) σ) : WE c S (.Constant (.int i) k pos) ρ γ Q X σ := fun f ι s w => wpAny_Constant_int (.tok w (.int _ _) q)
theorem const_bool {b : Bool} {k : Nat} {pos : Pos} (q : Q (.bool b) σ) : WE c S (.Constant (.bool b) k pos) ρ γ Q X σ := fun f ι s w => fun _ _ _ => PR.now w (.bool _) q
theorem const_none {k : Nat} {pos : Pos} (q : Q .none σ) : WE c S (.Constant .none k pos) ρ γ Q X σ := fun f ι s w => fun _ _ _ => PR.now w .none q

theorem nest2 {l r : Env → Sem Value} {f : Fm} {ι : List Addr} {s : Shared} {G : V → V → List O → Prop} {T : Value → Value → Shared → Prop} (w : Sit c S f ι ρ γ σ s.heap)
    (h : W VR c S l ρ γ (fun a σ₁ => W VR c S r ρ γ (fun b σ₂ => G a b σ₂) X σ₁) X σ)
    (n : ∀ u v a b σ₂ ι₂ h₂ tk₂, Aft ι s.heap ι₂ h₂ → Sit c S f ι₂ ρ γ σ₂ h₂ → VR ι₂ h₂ a u → VR ι₂ h₂ b v → G a b σ₂ → T u v { s with heap := h₂, toks := tk₂ }) :
    wpAny c.M f.A (l f.env) (fun a s₁ => wpAny c.M f.A (r f.env) (fun b s₂ => T a b s₂) (PX c S f ι ρ γ s X) s₁) (PX c S f ι ρ γ s X) s := by
  refine wpAny_mono (h f ι s w) (fun u s₁ p => ?_) fun _ _ p => p
  obtain ⟨a, σ₁, ι₁, h₁, tk₁, rfl, A₁, w₁, va, q₁⟩ := p
  refine wpAny_mono (q₁ f ι₁ _ w₁) (fun v s₂ p => ?_) fun _ _ p => p.trans rfl A₁
  obtain ⟨b, σ₂, ι₂, h₂, tk₂, rfl, A₂, w₂, vb, q₂⟩ := p
  exact n u v a b σ₂ ι₂ h₂ tk₂ (A₁.trans A₂) w₂ (va.mono w₁.mu A₂) vb q₂
theorem bind1 {α β : Type} {R : List Addr → Heap → β → α → Prop} {α' β' : Type} {R' : List Addr → Heap → β' → α' → Prop} {Qr : β' → List O → Prop} {Q₁ : β → List O → Prop} {m : Sem α} {k : α → Sem α'} {f : Fm} {ι : List Addr} {s : Shared}
    (h : wpAny c.M f.A m (PR R c S f ι ρ γ s Q₁) (PX c S f ι ρ γ s X) s)
    (n : ∀ u v σ₁ ι₁ s₁, Aft ι s.heap ι₁ s₁.heap → Sit c S f ι₁ ρ γ σ₁ s₁.heap → R ι₁ s₁.heap v u → Q₁ v σ₁ → wpAny c.M f.A (k u) (PR R' c S f ι₁ ρ γ s₁ Qr) (PX c S f ι₁ ρ γ s₁ X) s₁) :
    wpAny c.M f.A m (fun a s₁ => wpAny c.M f.A (k a) (PR R' c S f ι ρ γ s Qr) (PX c S f ι ρ γ s X) s₁) (PX c S f ι ρ γ s X) s := by
  refine wpAny_mono h (fun u s₁ p => ?_) fun _ _ p => p
  obtain ⟨a, σ₁, ι₁, h₁, tk₁, rfl, A₁, w₁, va, q₁⟩ := p
  exact wpAny_mono (n u a σ₁ ι₁ { s with heap := h₁, toks := tk₁ } A₁ w₁ va q₁) (fun _ _ p => p.trans rfl A₁) fun _ _ p => p.trans rfl A₁
theorem lift1 {α β : Type} {R : List Addr → Heap → β → α → Prop} {Qr : β → List O → Prop} {m : Sem α} {f : Fm} {ι ι₁ : List Addr} {s : Shared} {h₁ : Heap} {tk : Nat} (A : Aft ι s.heap ι₁ h₁)
    (h : wpAny c.M f.A m (PR R c S f ι₁ ρ γ { s with heap := h₁, toks := tk } Qr) (PX c S f ι₁ ρ γ { s with heap := h₁, toks := tk } X) { s with heap := h₁, toks := tk }) :
    wpAny c.M f.A m (PR R c S f ι ρ γ s Qr) (PX c S f ι ρ γ s X) { s with heap := h₁, toks := tk } := wpAny_mono h (fun _ _ p => p.trans rfl A) fun _ _ p => p.trans rfl A

abbrev K2 (c : C0) (S : Stt) (k : Value → Value → Sem Value) (ρ γ : List (Str × V)) (Q : V → List O → Prop) (X : Addr → List O → Prop) (a : V) : V → List O → Prop := fun b σ₂ => W2 VR c S k a b ρ γ Q X σ₂
abbrev KB (c : C0) (S : Stt) (r : Expr) (k : Value → Value → Sem Value) (ρ γ : List (Str × V)) (Q : V → List O → Prop) (X : Addr → List O → Prop) : V → List O → Prop := fun a σ₁ => WE c S r ρ γ (K2 c S k ρ γ Q X a) X σ₁
abbrev KT (c : C0) (S : Stt) (ρ γ : List (Str × V)) (Q : Bool → List O → Prop) (X : Addr → List O → Prop) : V → List O → Prop := fun t σ₃ => W1 RB c S truthy t ρ γ Q X σ₃
abbrev KU (c : C0) (S : Stt) (k : Value → Sem Value) (ρ γ : List (Str × V)) (Q : V → List O → Prop) (X : Addr → List O → Prop) : V → List O → Prop := fun a σ₁ => W1 VR c S k a ρ γ Q X σ₁
theorem binOp {l r : Expr} {op : Operator} {pos : Pos} (h : WE c S l ρ γ (KB c S r (binaryOp op) ρ γ Q X) X σ) : WE c S (.BinOp l op r pos) ρ γ Q X σ :=
  fun f ι s w => wpAny_BinOp (nest2 (l := fun env => eval l env) (r := fun env => eval r env) w h fun u v a b σ₂ ι₂ h₂ tk₂ A w₂ hu hv g => lift1 A (g f ι₂ _ u v w₂ hu hv))
theorem cmp1 {l r : Expr} {op : CmpOp} {pos : Pos} (h : WE c S l ρ γ (KB c S r (compareOp op) ρ γ Q X) X σ) (hm : behindInMarks op r = false := by with_unfolding_all rfl) : WE c S (.Compare l [op] [r] pos) ρ γ Q X σ :=
  fun f ι s w => wpAny_Compare1 (nest2 (l := fun env => eval l env) (r := fun env => eval r env) w h fun u v a b σ₂ ι₂ h₂ tk₂ A w₂ hu hv g => lift1 A (g f ι₂ _ u v w₂ hu hv)) hm
theorem tst1 {l r : Expr} {op : CmpOp} {pos : Pos} (h : WE c S l ρ γ (KB c S r (compareOp op) ρ γ (KT c S ρ γ QB X) X) X σ) (hm : behindInMarks op r = false := by with_unfolding_all rfl) :
    WB c S (.Compare l [op] [r] pos) ρ γ QB X σ := fun f ι s w =>
  wpAny_isTrue_Compare1 (nest2 (l := fun env => eval l env) (r := fun env => eval r env) w h fun u v a b σ₂ ι₂ h₂ tk₂ A w₂ hu hv g => by
    refine wpAny_mono (g f ι₂ { s with heap := h₂, toks := tk₂ } u v w₂ hu hv) (fun t s₃ p => ?_) fun _ _ p => p.trans rfl A
    obtain ⟨tv, σ₃, ι₃, h₃, tk₃, rfl, A₃, w₃, vt, q₃⟩ := p
    exact lift1 (A.trans A₃) (q₃ f ι₃ _ t w₃ vt)) hm
theorem unOp {x : Expr} {op : UnaryOp} {pos : Pos} (h : WE c S x ρ γ (KU c S (unaryOp op) ρ γ Q X) X σ) : WE c S (.UnaryOp op x pos) ρ γ Q X σ :=
  fun f ι s w => wpAny_UnaryOp (bind1 (R := VR) (h f ι s w) fun u v σ₁ ι₁ s₁ _ w₁ r q => q f ι₁ s₁ u w₁ r)
theorem tstP {e : Expr} (h : WE c S e ρ γ (KT c S ρ γ QB X) X σ) (he : ∀ (env : Env) (whole : Sem Value), isTrue e env whole = (do let v ← whole; standAt e.pos; holding [v] (truthy v)) := by intro _ _; rfl) : WB c S e ρ γ QB X σ :=
  fun f ι s w => isTrue_plain (bind1 (R := VR) (h f ι s w) fun u v σ₁ ι₁ s₁ _ w₁ r q => q f ι₁ s₁ u w₁ r) (he _ _)
theorem tstNot {x : Expr} {pos : Pos} (h : WB c S x ρ γ (fun b σ₁ => QB (!b) σ₁) X σ) : WB c S (.UnaryOp .Not x pos) ρ γ QB X σ := fun f ι s w =>
  isTrue_not (wpAny_mono (h f ι s w) (fun u s₁ ⟨v, σ₁, ι₁, h₁, tk, e, a, b, d, q⟩ => ⟨!v, σ₁, ι₁, h₁, tk, e, a, b, congrArg _ d, q⟩) fun _ _ p => p)
theorem tstAnd0 {pos : Pos} (q : QB true σ) : WB c S (.BoolOp .And [] pos) ρ γ QB X σ := fun f ι s w => isTrue_and_nil (.now w rfl q)
theorem tstOr0 {pos : Pos} (q : QB false σ) : WB c S (.BoolOp .Or [] pos) ρ γ QB X σ := fun f ι s w => isTrue_or_nil (.now w rfl q)
end

section
variable {c : C0} {S : Stt} {ρ γ : List (Str × V)} {σ : List O} {Q : V → List O → Prop} {QB : Bool → List O → Prop} {X : Addr → List O → Prop}
theorem truth_bool {b : Bool} (q : QB b σ) : W1 RB c S truthy (.bool b) ρ γ QB X σ := fun f ι s u w hu => by cases hu; exact wpAny_truthy_bool (.now w rfl q)
theorem add_ii {a b : Int} (q : Q (.int (a + b)) σ) : W2 VR c S (binaryOp .Add) (.int a) (.int b) ρ γ Q X σ := fun f ι s u v w hu hv => by cases hu; cases hv; exact add_int (.tok w (.int _ _) q)
theorem sub_ii {a b : Int} (q : Q (.int (a - b)) σ) : W2 VR c S (binaryOp .Sub) (.int a) (.int b) ρ γ Q X σ := fun f ι s u v w hu hv => by cases hu; cases hv; exact sub_int (.tok w (.int _ _) q)
theorem mul_ii {a b : Int} (hm : IntMulOk a b) (q : Q (.int (a * b)) σ) : W2 VR c S (binaryOp .Mult) (.int a) (.int b) ρ γ Q X σ := fun f ι s u v w hu hv => by cases hu; cases hv; exact mul_int (.tok w (.int _ _) q) hm
theorem fdiv_ii {a b : Int} (hb : b ≠ 0) (hp : Builtin.divisionGoesByPylong a b = false) (q : Q (.int (a.fdiv b)) σ) : W2 VR c S (binaryOp .FloorDiv) (.int a) (.int b) ρ γ Q X σ := fun f ι s u v w hu hv => by cases hu; cases hv; exact floordiv_int hb (.tok w (.int _ _) q) (.inl hp)
theorem fmod_ii {a b : Int} (hb : b ≠ 0) (q : Q (.int (a.fmod b)) σ) : W2 VR c S (binaryOp .Mod) (.int a) (.int b) ρ γ Q X σ := fun f ι s u v w hu hv => by cases hu; cases hv; exact mod_int' hb (.tok w (.int _ _) q)
theorem neg_i {a : Int} (q : Q (.int (-a)) σ) : W1 VR c S (unaryOp .USub) (.int a) ρ γ Q X σ := fun f ι s u w hu => by cases hu; exact neg_int (.tok w (.int _ _) q)
theorem not_b {b : Bool} (q : Q (.bool (!b)) σ) : W1 VR c S (unaryOp .Not) (.bool b) ρ γ Q X σ := fun f ι s u w hu => by cases hu; exact not_of (wpAny_truthy_bool (.now w (.bool _) q))
theorem eq_ii {a b : Int} (q : Q (.bool (a == b)) σ) : W2 VR c S (compareOp .Eq) (.int a) (.int b) ρ γ Q X σ := fun f ι s u v w hu hv => by cases hu; cases hv; exact eq_int (.now w (.bool _) q)
theorem ne_ii {a b : Int} (q : Q (.bool (a != b)) σ) : W2 VR c S (compareOp .NotEq) (.int a) (.int b) ρ γ Q X σ := fun f ι s u v w hu hv => by cases hu; cases hv; exact ne_int (.now w (.bool _) q)
theorem lt_ii {a b : Int} (q : Q (.bool (decide (a < b))) σ) : W2 VR c S (compareOp .Lt) (.int a) (.int b) ρ γ Q X σ := fun f ι s u v w hu hv => by cases hu; cases hv; exact lt_int (.now w (.bool _) q)
theorem le_ii {a b : Int} (q : Q (.bool (decide (a ≤ b))) σ) : W2 VR c S (compareOp .LtE) (.int a) (.int b) ρ γ Q X σ := fun f ι s u v w hu hv => by cases hu; cases hv; exact le_int (.now w (.bool _) q)
theorem gt_ii {a b : Int} (q : Q (.bool (decide (b < a))) σ) : W2 VR c S (compareOp .Gt) (.int a) (.int b) ρ γ Q X σ := fun f ι s u v w hu hv => by cases hu; cases hv; exact gt_int (.now w (.bool _) q)
end

theorem VRs.length {ι : List Addr} {h : Heap} : ∀ {l : List V} {us : List Value}, VRs ι h l us → us.length = l.length
  | _, _, .nil => rfl
  | _, _, .cons _ y => by rw [List.length_cons, List.length_cons, y.length]
theorem VRs.get {ι : List Addr} {h : Heap} : ∀ {l : List V} {us : List Value} {k : Nat} {v : V}, VRs ι h l us → l[k]? = some v → ∃ u, us[k]? = some u ∧ VR ι h v u
  | _, _, 0, _, .cons x _, e => ⟨_, rfl, by simpa using (Option.some.inj (by simpa using e)) ▸ x⟩
  | _, _, k + 1, _, .cons _ y, e => by
    obtain ⟨u, e1, e2⟩ := y.get (k := k) (by simpa using e)
    exact ⟨u, by simpa using e1, e2⟩
theorem VRs.append {ι : List Addr} {h : Heap} : ∀ {l l' : List V} {us us' : List Value}, VRs ι h l us → VRs ι h l' us' → VRs ι h (l ++ l') (us ++ us')
  | _, _, _, _, .nil, y => y
  | _, _, _, _, .cons x r, y => .cons x (r.append y)
theorem VRs.take {ι : List Addr} {h : Heap} : ∀ {l : List V} {us : List Value} (k : Nat), VRs ι h l us → VRs ι h (l.take k) (us.take k)
  | _, _, 0, _ => by simpa using VRs.nil
  | _, _, _ + 1, .nil => by simpa using VRs.nil
  | _, _, k + 1, .cons x y => by simpa using VRs.cons x (y.take k)
theorem VRs.drop {ι : List Addr} {h : Heap} : ∀ {l : List V} {us : List Value} (k : Nat), VRs ι h l us → VRs ι h (l.drop k) (us.drop k)
  | _, _, 0, x => by simpa using x
  | _, _, _ + 1, .nil => by simpa using VRs.nil
  | _, _, k + 1, .cons _ y => by simpa using y.drop k
theorem VRs.set {ι : List Addr} {h : Heap} {v : V} {u : Value} (q : VR ι h v u) : ∀ {l : List V} {us : List Value} (k : Nat), VRs ι h l us → VRs ι h (l.set k v) (us.set k u)
  | _, _, _, .nil => by simpa using VRs.nil
  | _, _, 0, .cons _ y => by simpa using VRs.cons q y
  | _, _, k + 1, .cons x y => by simpa using VRs.cons x (y.set q k)

section
variable {c : C0} {S : Stt} {ρ γ : List (Str × V)} {σ : List O} {Q : V → List O → Prop} {QB : Bool → List O → Prop} {X : Addr → List O → Prop}

theorem cont {α β : Type} {R : List Addr → Heap → β → α → Prop} {Qr : β → List O → Prop} {t : Env → Sem α} {f : Fm} {ι ι₁ : List Addr} {s : Shared} {h₁ : Heap} {tk : Nat} {σ₁ : List O} (A : Aft ι s.heap ι₁ h₁) (w : Sit c S f ι₁ ρ γ σ₁ h₁)
    (h : W R c S t ρ γ Qr X σ₁) : wpAny c.M f.A (t f.env) (PR R c S f ι ρ γ s Qr) (PX c S f ι ρ γ s X) { s with heap := h₁, toks := tk } := lift1 A (h f ι₁ _ w)

abbrev KAn (c : C0) (S : Stt) (rest : List Expr) (pos : Pos) (ρ γ : List (Str × V)) (QB : Bool → List O → Prop) (X : Addr → List O → Prop) : Bool → List O → Prop := fun b σ₁ => if b = true then WB c S (.BoolOp .And rest pos) ρ γ QB X σ₁ else QB false σ₁
abbrev KOr (c : C0) (S : Stt) (rest : List Expr) (pos : Pos) (ρ γ : List (Str × V)) (QB : Bool → List O → Prop) (X : Addr → List O → Prop) : Bool → List O → Prop := fun b σ₁ => if b = true then QB true σ₁ else WB c S (.BoolOp .Or rest pos) ρ γ QB X σ₁
abbrev KBa (c : C0) (S : Stt) (es : List Expr) (pos : Pos) (ρ γ : List (Str × V)) (Q : V → List O → Prop) (X : Addr → List O → Prop) (v : V) : Bool → List O → Prop := fun b σ₂ => if b = true then WE c S (.BoolOp .And es pos) ρ γ Q X σ₂ else Q v σ₂
abbrev KBA (c : C0) (S : Stt) (es : List Expr) (pos : Pos) (ρ γ : List (Str × V)) (Q : V → List O → Prop) (X : Addr → List O → Prop) : V → List O → Prop := fun v σ₁ => W1 RB c S truthy v ρ γ (KBa c S es pos ρ γ Q X v) X σ₁
theorem tstAnd {x : Expr} {rest : List Expr} {pos : Pos} (h : WB c S x ρ γ (KAn c S rest pos ρ γ QB X) X σ) : WB c S (.BoolOp .And (x :: rest) pos) ρ γ QB X σ := fun f ι s w => by
  refine isTrue_and (wpAny_mono (h f ι s w) (fun u s₁ p => ?_) fun _ _ p => p)
  obtain ⟨b, σ₁, ι₁, h₁, tk, rfl, A, w₁, rfl, q⟩ := p
  cases b with
  | false => exact ⟨false, σ₁, ι₁, h₁, tk, rfl, A, w₁, rfl, q⟩
  | true => exact cont (R := RB) (t := fun env => isTrue (.BoolOp .And rest pos) env (eval (.BoolOp .And rest pos) env)) A w₁ q
theorem tstOr {x : Expr} {rest : List Expr} {pos : Pos} (h : WB c S x ρ γ (KOr c S rest pos ρ γ QB X) X σ) : WB c S (.BoolOp .Or (x :: rest) pos) ρ γ QB X σ := fun f ι s w => by
  refine isTrue_or (wpAny_mono (h f ι s w) (fun u s₁ p => ?_) fun _ _ p => p)
  obtain ⟨b, σ₁, ι₁, h₁, tk, rfl, A, w₁, rfl, q⟩ := p
  cases b with
  | true => exact ⟨true, σ₁, ι₁, h₁, tk, rfl, A, w₁, rfl, q⟩
  | false => exact cont (R := RB) (t := fun env => isTrue (.BoolOp .Or rest pos) env (eval (.BoolOp .Or rest pos) env)) A w₁ q
theorem boolOp1 {op : BoolOp} {e : Expr} {pos : Pos} (h : WE c S e ρ γ Q X σ) : WE c S (.BoolOp op [e] pos) ρ γ Q X σ := fun f ι s w => BoolOp_one (h f ι s w)
theorem boolAnd {e₁ e₂ : Expr} {rest : List Expr} {pos : Pos} (h : WE c S e₁ ρ γ (KBA c S (e₂ :: rest) pos ρ γ Q X) X σ) :
    WE c S (.BoolOp .And (e₁ :: e₂ :: rest) pos) ρ γ Q X σ := fun f ι s w => by
  refine BoolOp_and (wpAny_mono (h f ι s w) (fun u s₁ p => ?_) fun _ _ p => p)
  obtain ⟨v, σ₁, ι₁, h₁, tk, rfl, A, w₁, r₁, q⟩ := p
  refine wpAny_mono (q f ι₁ { s with heap := h₁, toks := tk } u w₁ r₁) (fun b s₂ p => ?_) fun _ _ p => p.trans rfl A
  obtain ⟨b', σ₂, ι₂, h₂, tk₂, rfl, A₂, w₂, rfl, q₂⟩ := p
  cases b' with
  | false => exact ⟨v, σ₂, ι₂, h₂, tk₂, rfl, A.trans A₂, w₂, r₁.mono w₁.mu A₂, q₂⟩
  | true => exact cont (R := VR) (t := fun env => eval (.BoolOp .And (e₂ :: rest) pos) env) (A.trans A₂) w₂ q₂
theorem const_str {x : Str} {k : Nat} {pos : Pos} (q : Q (.str x) σ) : WE c S (.Constant (.str x) k pos) ρ γ Q X σ := fun f ι s w => Constant_str (.tok w (.str _ _) q)

abbrev WA (c : C0) (S : Stt) (pos : Pos) (es : List Expr) (ρ γ : List (Str × V)) (Q : List V → List O → Prop) (X : Addr → List O → Prop) (σ : List O) : Prop := W VRs c S (fun env => spliced (backTo pos (starEach es env))) ρ γ Q X σ
abbrev KC (Q : List V → List O → Prop) (v : V) : List V → List O → Prop := fun vs σ₂ => Q (v :: vs) σ₂
abbrev KA (c : C0) (S : Stt) (pos : Pos) (rest : List Expr) (ρ γ : List (Str × V)) (Q : List V → List O → Prop) (X : Addr → List O → Prop) : V → List O → Prop := fun v σ₁ => WA c S pos rest ρ γ (KC Q v) X σ₁
abbrev KL (c : C0) (S : Stt) (k : List Value → Sem Value) (ρ γ : List (Str × V)) (Q : V → List O → Prop) (X : Addr → List O → Prop) : List V → List O → Prop := fun vs σ₁ => WL VR c S k vs ρ γ Q X σ₁
theorem args0 {pos : Pos} {Q : List V → List O → Prop} (q : Q [] σ) : WA c S pos [] ρ γ Q X σ := fun f ι s w => args_nil (.now w .nil q)
theorem argsC {pos : Pos} {e : Expr} {rest : List Expr} {Q : List V → List O → Prop} (h : WE c S e ρ γ (KA c S pos rest ρ γ Q X) X σ)
    (he : ∀ env, starEach (e :: rest) env = (false, eval e env) :: starEach rest env := by intro _; rfl) : WA c S pos (e :: rest) ρ γ Q X σ := fun f ι s w => by
  refine args_cons (wpAny_mono (h f ι s w) (fun u s₁ p => ?_) fun _ _ p => p) (he _)
  obtain ⟨v, σ₁, ι₁, h₁, tk, rfl, A, w₁, r₁, q⟩ := p
  refine wpAny_mono (q f ι₁ _ w₁) (fun us s₂ p => ?_) fun _ _ p => p.trans rfl A
  obtain ⟨vs, σ₂, ι₂, h₂, tk₂, rfl, A₂, w₂, r₂, q₂⟩ := p
  exact ⟨v :: vs, σ₂, ι₂, h₂, tk₂, rfl, A.trans A₂, w₂, .cons (r₁.mono w₁.mu A₂) r₂, q₂⟩

theorem callFn {x : Str} {p pos : Pos} {e : Expr} {rest : List Expr} {a : Addr} {o : Obj} {fd : FuncData} (hk : S.kd x = some .globalImplicit) (hg : c.mg x = some (.ref a)) (ho : c.base.get? a = some o) (hd : o.data = .func fd)
    (h : WA c S pos (e :: rest) ρ γ (KL c S (fun us => call (.ref a) us) ρ γ Q X) X σ)
    (he : ∀ env, starEach (e :: rest) env = (false, eval e env) :: starEach rest env := by intro _; rfl) (hb : (x == ("__debug__" : Str)) = false := by decide)
    (hc : ∀ env, eval (.Call (.Name x p) (e :: rest) [] pos) env = (do callWith pos (← eval (.Name x p) env) [] (backTo pos (starEach (e :: rest) env)) (backToKw pos (keywordEach [] env))) := by intro _; rfl) :
    WE c S (.Call (.Name x p) (e :: rest) [] pos) ρ γ Q X σ := fun f ι s w => by
  refine Call_ (Name_function_global w.kind ((w.kinds x).trans hk) (loadGlobal_global (mg := c.mg) (by rw [w.glob]; exact w.gr.g.keeps w.base) hg ?_) hb) (hc _)
  refine callWith_def hd (wpAny_mono (h f ι s w) (fun us s₁ p => ?_) fun _ _ p => p) (he _)
  obtain ⟨vs, σ₁, ι₁, h₁, tk, rfl, A, w₁, r₁, q⟩ := p
  exact ⟨w₁.base _ _ ho, lift1 A (q f ι₁ _ us w₁ r₁)⟩
theorem callBu {x : Str} {p pos : Pos} {e : Expr} {rest : List Expr} {id : String} (hk : S.kd x = some .globalImplicit) (hg : c.mg x = none) (hv : bootBuiltins x = some (.builtin id)) (hn : x ≠ "__name__")
    (h : WA c S pos (e :: rest) ρ γ (KL c S (fun us => call (.builtin id) us) ρ γ Q X) X σ)
    (he : ∀ env, starEach (e :: rest) env = (false, eval e env) :: starEach rest env := by intro _; rfl) (hpl : ∀ env, (backTo pos (starEach rest env)).any (·.1) = false := by intro _; rfl) (hb : (x == ("__debug__" : Str)) = false := by decide)
    (hc : ∀ env, eval (.Call (.Name x p) (e :: rest) [] pos) env = (do callWith pos (← eval (.Name x p) env) [] (backTo pos (starEach (e :: rest) env)) (backToKw pos (keywordEach [] env))) := by intro _; rfl) :
    WE c S (.Call (.Name x p) (e :: rest) [] pos) ρ γ Q X σ := fun f ι s w => by
  refine Call_ (Name_function_global w.kind ((w.kinds x).trans hk) (loadGlobal_builtin (mg := c.mg) (mb := c.mb) (by rw [w.glob]; exact w.gr.g.keeps w.base) hg (by rw [w.blt]; exact w.gr.b.keeps w.base) ((w.gr.builtins x hn).trans hv) ?_) hb) (hc _)
  refine callWith_builtin1 (wpAny_mono (h f ι s w) (fun us s₁ p => ?_) fun _ _ p => p) (he _) (hpl _)
  obtain ⟨vs, σ₁, ι₁, h₁, tk, rfl, A, w₁, r₁, q⟩ := p
  exact lift1 A (q f ι₁ _ us w₁ r₁)
theorem callTy {x : Str} {p pos : Pos} {e : Expr} {rest : List Expr} {T : String} (hk : S.kd x = some .globalImplicit) (hg : c.mg x = none) (hv : bootBuiltins x = some (.type T)) (hn : x ≠ "__name__")
    (h : WA c S pos (e :: rest) ρ γ (KL c S (fun us => call (.type T) us) ρ γ Q X) X σ)
    (he : ∀ env, starEach (e :: rest) env = (false, eval e env) :: starEach rest env := by intro _; rfl) (hpl : ∀ env, (backTo pos (starEach rest env)).any (·.1) = false := by intro _; rfl) (hb : (x == ("__debug__" : Str)) = false := by decide)
    (hc : ∀ env, eval (.Call (.Name x p) (e :: rest) [] pos) env = (do callWith pos (← eval (.Name x p) env) [] (backTo pos (starEach (e :: rest) env)) (backToKw pos (keywordEach [] env))) := by intro _; rfl) :
    WE c S (.Call (.Name x p) (e :: rest) [] pos) ρ γ Q X σ := fun f ι s w => by
  refine Call_ (Name_function_global w.kind ((w.kinds x).trans hk) (loadGlobal_builtin (mg := c.mg) (mb := c.mb) (by rw [w.glob]; exact w.gr.g.keeps w.base) hg (by rw [w.blt]; exact w.gr.b.keeps w.base) ((w.gr.builtins x hn).trans hv) ?_) hb) (hc _)
  refine callWith_type1 (wpAny_mono (h f ι s w) (fun us s₁ p => ?_) fun _ _ p => p) (he _) (hpl _)
  obtain ⟨vs, σ₁, ι₁, h₁, tk, rfl, A, w₁, r₁, q⟩ := p
  exact lift1 A (q f ι₁ _ us w₁ r₁)

theorem subscr {value slice : Expr} {pos : Pos} (h : WE c S value ρ γ (KB c S slice (subscriptTail value slice) ρ γ Q X) X σ) : WE c S (.Subscript value slice pos) ρ γ Q X σ :=
  fun f ι s w => Subscript_ (nest2 (l := fun env => eval value env) (r := fun env => eval slice env) w h fun u v a b σ₂ ι₂ h₂ tk₂ A w₂ hu hv g => lift1 A (g f ι₂ _ u v w₂ hu hv))

def O.items? : O → Option (List V)
  | .list l => some l
  | .ro l => some l
  | _ => none
theorem OR.items {ι : List Addr} {h : Heap} {o : O} {a : Addr} {l : List V} (x : OR c ι h o a) (e : o.items? = some l) : ∃ vs, h.IsList a vs.toArray ∧ VRs ι h l vs := by
  cases o with
  | list l' => cases e; obtain ⟨vs, n, e, r, _⟩ := x; exact ⟨vs, ⟨_, e, rfl, n, rfl⟩, r⟩
  | ro l' => cases e; exact x
  | inst => cases e
  | dict => cases e
theorem Sit.items {f : Fm} {ι : List Addr} {h : Heap} (w : Sit c S f ι ρ γ σ h) {i : Nat} {o : O} {a : Addr} {l : List V} (e1 : σ[i]? = some o) (e2 : o.items? = some l) (e3 : ι[i]? = some a) : ∃ vs, h.IsList a vs.toArray ∧ VRs ι h l vs := (w.sto i o a e1 e3).items e2

theorem item_list {value slice : Expr} {i : Nat} {k : Int} {o : O} {l : List V} {v : V} (h1 : σ[i]? = some o) (h2 : o.items? = some l) (h0 : 0 ≤ k) (hx : l[k.toNat]? = some v) (hf : k < 2 ^ 63) (q : Q v σ)
    (hs : ∀ o i, subscripted slice false o i = operate [o, i] (getItem o i) := by intro _ _; with_unfolding_all rfl) : W2 VR c S (subscriptTail value slice) (.ref i) (.int k) ρ γ Q X σ := fun f ι s u w' w hu hv => by
  cases hu with
  | ref hi =>
    cases hv
    obtain ⟨vs, hl, hr⟩ := w.items h1 h2 hi
    obtain ⟨u, e1, e2⟩ := hr.get hx
    exact tail_any hl.typeIs slot_list_getitem.lookup (wpAny_getItem_list hl h0 hf (by simpa using e1) (.now w e2 q)) (hs _ _)
theorem seqIndex_nonneg {k : Int} {n : Nat} (h0 : 0 ≤ k) (h1 : k < n) : seqIndex? k n = some k.toNat := by
  unfold seqIndex?
  simp only [show ¬ k < 0 by omega, if_false]
  first | rfl | (split <;> first | rfl | omega) | simp [h0, h1]
theorem item_tup {value slice : Expr} {k : Int} {l : List V} {v : V} (h0 : 0 ≤ k) (hx : l[k.toNat]? = some v) (hf : k < 2 ^ 63) (q : Q v σ)
    (hs : ∀ o i, subscripted slice false o i = operate [o, i] (getItem o i) := by intro _ _; with_unfolding_all rfl) : W2 VR c S (subscriptTail value slice) (.tup l) (.int k) ρ γ Q X σ := fun f ι s u w' w hu hv => by
  cases hu with
  | tup ht hr =>
    cases hv
    obtain ⟨u, e1, e2⟩ := hr.get hx
    refine item_tupleT ht (by omega) hf (seqIndex_nonneg h0 ?_) e1 (.now w e2 q) (hs _ _)
    have := (List.getElem?_eq_some_iff.mp e1).1
    omega
end

section
variable {c : C0} {S : Stt} {f : Fm} {ι ι' : List Addr} {ρ γ : List (Str × V)} {σ σ' : List O} {h h' : Heap}

theorem OR.other {X : Addr → Prop} (M : MuX X h) (p : ∃ t, ι' = ι ++ t) (k : Kp X h h') {o : O} {a : Addr} (e : ∀ ob, h.get? a = some ob → h'.get? a = some ob) (x : OR c ι h o a) : OR c ι' h' o a := by
  cases o with
  | list l => obtain ⟨vs, n, q, r, b⟩ := x; exact ⟨vs, n, e _ q, r.grow M p k, b⟩
  | ro l => obtain ⟨vs, q, r⟩ := x; exact ⟨vs, q.at fun o z => e o z, r.grow M p k⟩
  | inst C j =>
    obtain ⟨dx, q, z, b⟩ := x
    refine ⟨dx, ?_, e _ z, b⟩
    obtain ⟨t, rfl⟩ := p
    rw [List.getElem?_append_left (List.getElem?_eq_some_iff.mp q).1]; exact q
  | dict fs =>
    obtain ⟨es, n, q, r, b⟩ := x
    refine ⟨es, n, e _ q, ?_, b⟩
    clear q
    induction r with
    | nil => exact .nil
    | cons v _ ih => exact .cons (v.grow M p k) ih

theorem Sit.fresh (w : Sit c S f ι ρ γ σ h) : h.objs.size ∉ ι := fun q => by
  obtain ⟨i, hi, e⟩ := List.mem_iff_getElem.mp q
  have hs : i < σ.length := w.len ▸ hi
  have x := w.sto i σ[i] ι[i] (List.getElem?_eq_getElem hs) (List.getElem?_eq_getElem hi)
  rw [e] at x
  have no : ∀ ob, h.get? h.objs.size = some ob → False := fun ob z => Nat.lt_irrefl _ (Heap.lt_size z)
  revert x
  cases σ[i] with
  | list l => rintro ⟨vs, n, z, _⟩; exact no _ z
  | ro l => rintro ⟨vs, ⟨o, z, _⟩, _⟩; exact no _ z
  | inst C j => rintro ⟨dx, _, z, _⟩; exact no _ z
  | dict fs => rintro ⟨es, n, z, _⟩; exact no _ z

theorem get_snoc {α : Type} {l : List α} {a b : α} {i : Nat} (e : (l ++ [a])[i]? = some b) : l[i]? = some b ∨ (i = l.length ∧ a = b) := by
  by_cases hi : i < l.length
  · rw [List.getElem?_append_left hi] at e; exact .inl e
  · rw [List.getElem?_append_right (by omega)] at e
    have : i - l.length = 0 := by
      by_cases z : i - l.length = 0
      · exact z
      · rw [List.getElem?_eq_none (by simp; omega)] at e; cases e
    rw [this] at e
    exact .inr ⟨by omega, by simpa using e⟩

theorem Sit.new (w : Sit c S f ι ρ γ σ h) {a : Addr} {o : O} (k : ∀ b ob, h.get? b = some ob → h'.get? b = some ob) (hn : h.get? a = none) (hi : a ∉ ι) (x : OR c (ι ++ [a]) h' o a) :
    Sit c S f (ι ++ [a]) ρ γ (σ ++ [o]) h' ∧ Aft ι h (ι ++ [a]) h' := by
  have A : Aft ι h (ι ++ [a]) h' := ⟨⟨[a], rfl⟩, fun b hb => (List.mem_append.mp hb).imp id fun q => by rw [List.mem_singleton.mp q]; exact hn, .of_keeps k⟩
  refine ⟨w.aft A (fun b ob e => k b ob (w.base b ob e)) A.2.1 (by simp [w.len]) ?_ fun i ob b e1 e2 => ?_, A⟩
  · rw [List.nodup_append]
    exact ⟨w.nd, by simp, fun y hy z hz => by rw [List.mem_singleton.mp hz]; intro q; exact hi (q ▸ hy)⟩
  · rcases get_snoc e1 with q1 | ⟨q1, rfl⟩
    · have hil : i < ι.length := by rw [w.len]; exact (List.getElem?_eq_some_iff.mp q1).1
      rw [List.getElem?_append_left hil] at e2
      exact (w.sto i ob b q1 e2).other w.mu.x A.1 A.2.2 fun o z => k _ o z
    · rw [q1, ← w.len, List.getElem?_append_right (Nat.le_refl _)] at e2
      simp at e2
      subst e2
      exact x

theorem Sit.upd (w : Sit c S f ι ρ γ σ h) {i : Nat} {a : Addr} {o' : O} (hi : ι[i]? = some a) (hs : Heap.SameBut a h h') (hb : c.base.get? a = none) (x : Aft ι h ι h' → OR c ι h' o' a) :
    Sit c S f ι ρ γ (σ.set i o') h' ∧ Aft ι h ι h' := by
  have A : Aft ι h ι h' := ⟨⟨[], by simp⟩, fun _ q => .inl q, fun b ob e n => ⟨ob, (hs.2 b fun q => n (q ▸ List.mem_of_getElem? hi)).trans e, .refl _⟩⟩
  refine ⟨w.aft A (fun b ob e => (hs.2 b fun q => by rw [q, hb] at e; cases e).trans (w.base b ob e)) A.2.1 (by simp [w.len]) w.nd fun j ob b e1 e2 => ?_, A⟩
  by_cases hj : i = j
  · subst hj
    have hl : i < σ.length := by rw [← w.len]; exact (List.getElem?_eq_some_iff.mp hi).1
    rw [List.getElem?_set_self hl] at e1
    rw [hi] at e2
    cases e1; cases e2
    exact x A
  · rw [List.getElem?_set_ne hj] at e1
    have hab : b ≠ a := fun q => hj (by
      subst q
      exact (List.getElem?_inj (List.getElem?_eq_some_iff.mp hi).1 w.nd).mp (hi.trans e2.symm))
    exact (w.sto j ob b e1 e2).other w.mu.x A.1 A.2.2 fun o z => (hs.2 b hab).trans z
end

section
variable {c : C0} {S : Stt} {ρ γ : List (Str × V)} {σ : List O} {Q : V → List O → Prop} {QB : Bool → List O → Prop} {X : Addr → List O → Prop}

theorem none_above {h : Heap} : h.get? h.objs.size = none := by
  cases q : h.get? h.objs.size with
  | none => rfl
  | some o => exact absurd (Heap.lt_size q) (Nat.lt_irrefl _)
theorem base_above {f : Fm} {ι : List Addr} {h : Heap} (w : Sit c S f ι ρ γ σ h) : c.base.get? h.objs.size = none := by
  cases q : c.base.get? h.objs.size with
  | none => rfl
  | some o => exact absurd (Heap.lt_size (w.base _ _ q)) (Nat.lt_irrefl _)

theorem PR.newList {f : Fm} {ι : List Addr} {s : Shared} {tk : Nat} {us : List Value} {l : List V} {h' : Heap} {a : Addr} {n : Nat} (w : Sit c S f ι ρ γ σ s.heap) (k : ∀ b ob, s.heap.get? b = some ob → h'.get? b = some ob) (hn : s.heap.get? a = none)
    (hl : h'.get? a = some { cls := .type "list", data := .seq us.toArray n }) (r : VRs ι s.heap l us) (q : Q (.ref σ.length) (σ ++ [.list l])) : PR VR c S f ι ρ γ s Q (.ref a) { s with heap := h', toks := tk } := by
  have hi : a ∉ ι := fun q => by
    obtain ⟨i, hi, e⟩ := List.mem_iff_getElem.mp q
    have hs : i < σ.length := w.len ▸ hi
    have x := w.sto i σ[i] ι[i] (List.getElem?_eq_getElem hs) (List.getElem?_eq_getElem hi)
    rw [e] at x
    have no : ∀ ob, s.heap.get? a = some ob → False := fun ob z => by rw [hn] at z; cases z
    revert x
    cases σ[i] with
    | list l => rintro ⟨vs, n, z, _⟩; exact no _ z
    | ro l => rintro ⟨vs, ⟨o, z, _⟩, _⟩; exact no _ z
    | inst C j => rintro ⟨dx, _, z, _⟩; exact no _ z
    | dict fs => rintro ⟨es, n, z, _⟩; exact no _ z
  have hb : c.base.get? a = none := by
    cases z : c.base.get? a with
    | none => rfl
    | some o => rw [w.base _ _ z] at hn; cases hn
  obtain ⟨w', A⟩ := w.new (o := .list l) k hn hi ⟨us, n, hl, r.grow w.mu.x ⟨[a], rfl⟩ (.of_keeps k), hb⟩
  exact ⟨.ref σ.length, _, _, h', tk, rfl, A, w', .ref (by rw [← w.len]; simp), q⟩
theorem PR.newTup {f : Fm} {ι : List Addr} {s : Shared} {tk : Nat} {us : List Value} {l : List V} {h' : Heap} {a : Addr} (w : Sit c S f ι ρ γ σ s.heap) (k : ∀ b ob, s.heap.get? b = some ob → h'.get? b = some ob)
    (hl : IsTup h' a us.toArray) (r : VRs ι s.heap l us) (q : Q (.tup l) σ) : PR VR c S f ι ρ γ s Q (.ref a) { s with heap := h', toks := tk } :=
  .here w k (.tup hl (r.grow w.mu.x ⟨[], by simp⟩ (.of_keeps k))) q

abbrev KD (Q : V → List O → Prop) : List V → List O → Prop := fun l σ₁ => l.length ≤ sizeLine ∧ Q (.ref σ₁.length) (σ₁ ++ [.list l])
abbrev KTu (Q : V → List O → Prop) : List V → List O → Prop := fun l σ₁ => l.length ≤ sizeLine ∧ Q (.tup l) σ₁
theorem lstD {es : List Expr} {pos : Pos} (h : WA c S pos es ρ γ (KD Q) X σ) : WE c S (.List es pos) ρ γ Q X σ := fun f ι s w => by
  refine List_ (wpAny_mono (h f ι s w) (fun us s₁ p => ?_) fun _ _ p => p)
  obtain ⟨l, σ₁, ι₁, h₁, tk, rfl, A, w₁, r, hz, q⟩ := p
  refine lift1 A (wpAny_newObj_type (PR.newList w₁ (fun b ob e => Heap.get?_push_of_some _ e) none_above (Heap.get?_push_size _ rfl) r q) ?_)
  show us.toArray.size ≤ sizeLine
  rw [List.size_toArray, r.length]; exact hz
theorem tupD {es : List Expr} {k : Nat} {pos : Pos} (h : WA c S pos es ρ γ (KTu Q) X σ) : WE c S (.Tuple es k pos) ρ γ Q X σ := fun f ι s w => by
  refine Tuple_ (wpAny_mono (h f ι s w) (fun us s₁ p => ?_) fun _ _ p => p)
  obtain ⟨l, σ₁, ι₁, h₁, tk, rfl, A, w₁, r, hz, q⟩ := p
  refine lift1 A (wpAny_newObj_type (PR.newTup w₁ (fun b ob e => Heap.get?_push_of_some _ e) ⟨_, Heap.get?_push_size _ rfl, rfl, 0, rfl⟩ r q) ?_)
  show us.toArray.size ≤ sizeLine
  rw [List.size_toArray, r.length]; exact hz

theorem meth1 {o e : Expr} {name : Str} {apos pos : Pos} {rest : List Expr} {pl : Env → Sem Bool} (h : WE c S o ρ γ (fun ov σ₁ => ∀ f ι s u, Sit c S f ι ρ γ σ₁ s.heap → VR ι s.heap ov u →
      ∃ id, (∀ (Q' : Value × List Value → Shared → Prop) (E' : Value → Shared → Prop), Q' (.builtin id, [u]) s → wpAny c.M f.A (getMethod u name (pl f.env)) Q' E' s) ∧
      wpAny c.M f.A (spliced (backTo pos (starEach (e :: rest) f.env))) (fun us s₁ => wpAny c.M f.A (call (.builtin id) (u :: us)) (PR VR c S f ι ρ γ s Q) (PX c S f ι ρ γ s X) s₁) (PX c S f ι ρ γ s X) s) X σ)
    (he : ∀ env, starEach (e :: rest) env = (false, eval e env) :: starEach rest env := by intro _; rfl) (hpl : ∀ env, (backTo pos (starEach rest env)).any (·.1) = false := by intro _; rfl)
    (hm : ∀ env, eval (.Call (.Attribute o name apos) (e :: rest) [] pos) env = (do
      let ov ← eval o env
      standAt apos.atName
      let (f, first) ← holding [ov] (getMethod ov name (pl env))
      callWith pos f first (backTo pos (starEach (e :: rest) env)) []) := by intro _; rfl) : WE c S (.Call (.Attribute o name apos) (e :: rest) [] pos) ρ γ Q X σ := fun f ι s w => by
  refine MethodCall_ (wpAny_mono (h f ι s w) (fun u s₁ p => ?_) fun _ _ p => p) (hm f.env)
  obtain ⟨ov, σ₁, ι₁, h₁, tk, rfl, A, w₁, r, q⟩ := p
  obtain ⟨id, g, n⟩ := q f ι₁ { s with heap := h₁, toks := tk } u w₁ r
  refine g _ _ (callWith_method1 (wpAny_mono n (fun us s₂ p => ?_) fun _ _ p => p.trans rfl A) (he _) (hpl _))
  exact wpAny_mono p (fun _ _ p => p.trans rfl A) fun _ _ p => p.trans rfl A

inductive KAp1 (Q : V → List O → Prop) (i : Nat) (v : V) (σ₂ : List O) : Prop where
  | mk (l : List V) (e : σ₂[i]? = some (.list l)) (hz : l.length ≤ sizeLine) (q : Q .none (σ₂.set i (.list (l ++ [v]))))
inductive KAp (c : C0) (S : Stt) (e : Expr) (ρ γ : List (Str × V)) (Q : V → List O → Prop) (X : Addr → List O → Prop) (ov : V) (σ₁ : List O) : Prop where
  | mk (i : Nat) (e1 : ov = .ref i) (e2 : ∃ l, σ₁[i]? = some (.list l)) (h : WE c S e ρ γ (KAp1 Q i) X σ₁)
theorem append_list' {o e : Expr} {apos pos : Pos} {pl : Env → Sem Bool} (h : WE c S o ρ γ (KAp c S e ρ γ Q X) X σ)
    (he : ∀ env, starEach [e] env = (false, eval e env) :: starEach [] env := by intro _; rfl)
    (hm : ∀ env, eval (.Call (.Attribute o "append" apos) [e] [] pos) env = (do
      let ov ← eval o env
      standAt apos.atName
      let (f, first) ← holding [ov] (getMethod ov "append" (pl env))
      callWith pos f first (backTo pos (starEach [e] env)) []) := by intro _; rfl) : WE c S (.Call (.Attribute o "append" apos) [e] [] pos) ρ γ Q X σ := by
  refine meth1 (W.imp h fun ov σ₁ p f ι s u w r => ?_) he (fun _ => rfl) hm
  obtain ⟨i, rfl, ⟨l, hl⟩, g⟩ := p
  cases r with
  | ref hi =>
    rename_i a
    obtain ⟨us, n, ho, _, hb⟩ := w.sto i _ a hl hi
    refine ⟨"list.append", fun Q' E' q => getMethod_list_append ho rfl rfl q, ?_⟩
    refine args_cons (wpAny_mono (g f ι s w) (fun v s₁ p => ?_) fun _ _ p => p) (he _)
    obtain ⟨vv, σ₂, ι₂, h₂, tk₂, rfl, A₂, w₂, r₂, l₂, hl₂, hz, q⟩ := p
    refine args_nil ?_
    have hi₂ : ι₂[i]? = some a := by obtain ⟨⟨t, rfl⟩, _⟩ := A₂; rw [List.getElem?_append_left (List.getElem?_eq_some_iff.mp hi).1]; exact hi
    obtain ⟨us₂, n₂, ho₂, rs₂, hb₂⟩ := w₂.sto i _ a hl₂ hi₂
    refine wpAny_list_append_plain (hl := ⟨n₂, ho₂⟩) (fun h₃ hp₃ hs₃ => ?_) (by rw [List.size_toArray, rs₂.length]; exact hz)
    obtain ⟨n₃, ho₃⟩ := hp₃
    obtain ⟨w₃, A₃⟩ := w₂.upd (o' := .list (l₂ ++ [vv])) hi₂ hs₃ hb₂ fun A => ⟨us₂ ++ [v], n₃, by rw [ho₃]; simp, (rs₂.append (.cons r₂ .nil)).mono w₂.mu A, hb₂⟩
    exact ⟨.none, _, ι₂, h₃, tk₂, rfl, A₂.trans A₃, w₃, .none, q⟩
end

inductive Fl where
  | next | brk | cont
  | ret (v : V)

inductive FR (ι : List Addr) (h : Heap) : Fl → Flow → Prop where
  | next : FR ι h .next .next
  | brk : FR ι h .brk .brk
  | cont : FR ι h .cont .cont
  | ret {v : V} {u : Value} : VR ι h v u → FR ι h (.ret v) (.ret u)

def Lo (f : Fm) (b : Addr) : Prop := b = f.env.locals ∨ ∃ x, f.env.cells.lookup x = some b
def AftX (f : Fm) (ι : List Addr) (h : Heap) (ι' : List Addr) (h' : Heap) : Prop :=
  (∃ t, ι' = ι ++ t) ∧ (∀ b ∈ ι', b ∈ ι ∨ h.get? b = none) ∧ Kp (fun b => b ∈ ι ∨ Lo f b) h h'
theorem Aft.x {ι ι' : List Addr} {h h' : Heap} (A : Aft ι h ι' h') (f : Fm) : AftX f ι h ι' h' := ⟨A.1, A.2.1, A.2.2.mono fun _ _ _ q => .inl q⟩
theorem AftX.trans {f : Fm} {ι₁ ι₂ ι₃ : List Addr} {h₁ h₂ h₃ : Heap} (x : AftX f ι₁ h₁ ι₂ h₂) (y : AftX f ι₂ h₂ ι₃ h₃) (hl : ∀ b o, h₁.get? b = some o → Lo f b → ∃ o', h₂.get? b = some o')
    (hi : ∀ b o, h₁.get? b = some o → b ∈ ι₁ → ∃ o', h₂.get? b = some o') : AftX f ι₁ h₁ ι₃ h₃ := by
  obtain ⟨⟨t, rfl⟩, x2, x3⟩ := x
  obtain ⟨⟨t', rfl⟩, y2, y3⟩ := y
  refine ⟨⟨t ++ t', by simp⟩, fun b hb => ?_, x3.trans y3 fun b o e q => q.imp (fun q => (x2 b q).resolve_right fun z => by rw [e] at z; cases z) id⟩
  by_cases hb1 : b ∈ ι₁
  · exact .inl hb1
  · refine .inr ?_
    cases q : h₁.get? b with
    | none => rfl
    | some o =>
      have e' : ∃ o', h₂.get? b = some o' := by
        by_cases hL : Lo f b
        · exact hl b o q hL
        · obtain ⟨o', e', _⟩ := x3 b o q (fun z => z.elim hb1 hL)
          exact ⟨o', e'⟩
      obtain ⟨o', e'⟩ := e'
      rcases y2 b hb with z | z
      · rcases x2 b z with z' | z'
        · exact absurd z' hb1
        · rw [q] at z'; cases z'
      · rw [e'] at z; cases z

section
variable {c : C0} {S : Stt} {f : Fm} {ι ι' ι₁ : List Addr} {ρ γ ρ₁ γ₁ : List (Str × V)} {σ σ' σ₁ : List O} {h h' h₁ : Heap}
theorem Sit.lo_some (w : Sit c S f ι ρ γ σ h) {b : Addr} (q : Lo f b) : ∃ o, h.get? b = some o := by
  rcases q with rfl | ⟨x, e⟩
  · obtain ⟨m, ⟨o, _, _, ho, _⟩, _⟩ := w.loc; exact ⟨o, ho⟩
  · obtain ⟨_, _, _, v₀, o, ho, _⟩ := w.celx x b e; exact ⟨o, ho⟩
theorem Sit.io_some (w : Sit c S f ι ρ γ σ h) {b : Addr} (q : b ∈ ι) : ∃ o, h.get? b = some o := by
  obtain ⟨i, hi, e⟩ := List.mem_iff_getElem.mp q
  have hs : i < σ.length := w.len ▸ hi
  have x := w.sto i σ[i] ι[i] (List.getElem?_eq_getElem hs) (List.getElem?_eq_getElem hi)
  rw [e] at x
  revert x
  cases σ[i] with
  | list l => rintro ⟨vs, n, z, _⟩; exact ⟨_, z⟩
  | ro l => rintro ⟨vs, ⟨o, z, _⟩, _⟩; exact ⟨_, z⟩
  | inst C j => rintro ⟨dx, _, z, _⟩; exact ⟨_, z⟩
  | dict fs => rintro ⟨es, n, z, _⟩; exact ⟨_, z⟩
theorem AftX.then (x : AftX f ι h ι₁ h₁) (w : Sit c S f ι₁ ρ₁ γ₁ σ₁ h₁) (y : AftX f ι₁ h₁ ι' h') : AftX f ι h ι' h' :=
  x.trans y (fun b o _ q => w.lo_some q) fun b o e q => w.io_some (by obtain ⟨⟨t, rfl⟩, _⟩ := x; exact List.mem_append_left _ q)
theorem Sit.muX (w : Sit c S f ι ρ γ σ h) : MuX (fun b => b ∈ ι ∨ Lo f b) h := fun a o q ho => by
  rcases q with q | rfl | ⟨x, e⟩
  · exact w.mu.x a o q ho
  · obtain ⟨m, ⟨o', es, ep, ho', hd, _⟩, _⟩ := w.loc
    rw [ho] at ho'; cases ho'
    exact ⟨fun _ its n q => (by rw [hd] at q; cases q), fun vs q => (by rw [hd] at q; cases q)⟩
  · obtain ⟨_, _, _, v₀, o', ho', hd⟩ := w.celx x a e
    rw [ho] at ho'; cases ho'
    exact ⟨fun _ its n q => (by rw [hd] at q; cases q), fun vs q => (by rw [hd] at q; cases q)⟩
end

inductive PS (c : C0) (S : Stt) (f : Fm) (ι : List Addr) (s : Shared) (Q : Fl → List (Str × V) → List (Str × V) → List O → Prop) (u : Flow) (s' : Shared) : Prop where
  | mk (fl : Fl) (ρ' γ' : List (Str × V)) (σ' : List O) (ι' : List Addr) (h' : Heap) (tk : Nat) (e : s' = { s with heap := h', toks := tk }) (A : AftX f ι s.heap ι' h') (w : Sit c S f ι' ρ' γ' σ' h') (r : FR ι' h' fl u) (q : Q fl ρ' γ' σ')
inductive PXS (c : C0) (S : Stt) (f : Fm) (ι : List Addr) (s : Shared) (X : Addr → List O → Prop) (ev : Value) (s' : Shared) : Prop where
  | mk (C ea : Addr) (hb : Heap) (ρ' γ' : List (Str × V)) (σ' : List O) (ι' : List Addr) (h' : Heap) (tk : Nat) (e1 : ev = .ref ea) (e : s' = { s with heap := h', toks := tk }) (A : AftX f ι s.heap ι' hb) (w : Sit c S f ι' ρ' γ' σ' hb) (air : Air c f ea C hb h') (q : X C σ')
def WX (c : C0) (S : Stt) (t : Env → Sem Flow) (ρ γ : List (Str × V)) (Q : Fl → List (Str × V) → List (Str × V) → List O → Prop) (X : Addr → List O → Prop) (σ : List O) : Prop :=
  ∀ f ι s, Sit c S f ι ρ γ σ s.heap → f.env = f.fe → wpAny c.M f.A (t f.env) (PS c S f ι s Q) (PXS c S f ι s X) s
abbrev WS (c : C0) (S : Stt) (st : Stmt) (ρ γ : List (Str × V)) (Q : Fl → List (Str × V) → List (Str × V) → List O → Prop) (X : Addr → List O → Prop) (σ : List O) : Prop := WX c S (fun env => exec st env) ρ γ Q X σ
abbrev WSs (c : C0) (S : Stt) (sts : List Stmt) (ρ γ : List (Str × V)) (Q : Fl → List (Str × V) → List (Str × V) → List O → Prop) (X : Addr → List O → Prop) (σ : List O) : Prop := WX c S (fun env => execs sts env) ρ γ Q X σ

section
variable {c : C0} {S : Stt} {f : Fm} {ι ι₁ : List Addr} {ρ γ ρ₁ γ₁ : List (Str × V)} {σ σ₁ : List O} {s s₁ s' : Shared} {h₁ : Heap} {tk : Nat} {Q Q' : Fl → List (Str × V) → List (Str × V) → List O → Prop} {X X' : Addr → List O → Prop} {t : Env → Sem Flow}

theorem PS.trans {u : Flow} (p : PS c S f ι₁ s₁ Q u s') (e : s₁ = { s with heap := h₁, toks := tk }) (w : Sit c S f ι₁ ρ₁ γ₁ σ₁ h₁) (A : AftX f ι s.heap ι₁ h₁) : PS c S f ι s Q u s' := by
  obtain ⟨fl, ρ', γ', σ', ι', h', tk', rfl, A', r, r2, r3⟩ := p
  subst e
  exact ⟨fl, ρ', γ', σ', ι', h', tk', rfl, A.then w A', r, r2, r3⟩
theorem PXS.trans {ev : Value} (p : PXS c S f ι₁ s₁ X ev s') (e : s₁ = { s with heap := h₁, toks := tk }) (w : Sit c S f ι₁ ρ₁ γ₁ σ₁ h₁) (A : AftX f ι s.heap ι₁ h₁) : PXS c S f ι s X ev s' := by
  obtain ⟨C, ea, hb, ρ', γ', σ', ι', h', tk', rfl, rfl, A', r, r2, r3⟩ := p
  subst e
  exact ⟨C, ea, hb, ρ', γ', σ', ι', h', tk', rfl, rfl, A.then w A', r, r2, r3⟩
theorem PX.st {ev : Value} (p : PX c S f ι ρ γ s X ev s') : PXS c S f ι s X ev s' := by
  obtain ⟨C, ea, hb, σ', ι', h', tk', rfl, rfl, A', r, r2, q⟩ := p
  exact ⟨C, ea, hb, ρ, γ, σ', ι', h', tk', rfl, rfl, A'.x f, r, r2, q⟩
theorem WX.mono (p : WX c S t ρ γ Q X σ) (hQ : ∀ fl ρ' γ' σ', Q fl ρ' γ' σ' → Q' fl ρ' γ' σ') (hX : ∀ C σ', X C σ' → X' C σ') : WX c S t ρ γ Q' X' σ := fun f ι s x e =>
  wpAny_mono (p f ι s x e) (fun _ _ p => by cases p with | mk fl ρ' γ' σ' ι' h' tk e a b d q => exact ⟨fl, ρ', γ', σ', ι', h', tk, e, a, b, d, hQ _ _ _ _ q⟩) fun _ _ p => by cases p with | mk C ea hb ρ' γ' σ' ι' h' tk e1 e a b d q => exact ⟨C, ea, hb, ρ', γ', σ', ι', h', tk, e1, e, a, b, d, hX C σ' q⟩
theorem WX.imp (p : WX c S t ρ γ Q X σ) (hQ : ∀ fl ρ' γ' σ', Q fl ρ' γ' σ' → Q' fl ρ' γ' σ') : WX c S t ρ γ Q' X σ := p.mono hQ fun _ _ q => q
theorem liftX {m : Sem Flow} (w : Sit c S f ι₁ ρ₁ γ₁ σ₁ h₁) (A : AftX f ι s.heap ι₁ h₁) (h : wpAny c.M f.A m (PS c S f ι₁ { s with heap := h₁, toks := tk } Q) (PXS c S f ι₁ { s with heap := h₁, toks := tk } X) { s with heap := h₁, toks := tk }) :
    wpAny c.M f.A m (PS c S f ι s Q) (PXS c S f ι s X) { s with heap := h₁, toks := tk } := wpAny_mono h (fun _ _ p => p.trans rfl w A) fun _ _ p => p.trans rfl w A

theorem sts0 (q : Q .next ρ γ σ) : WSs c S [] ρ γ Q X σ := fun f ι s w e => wpAny_execs_nil ⟨.next, ρ, γ, σ, ι, s.heap, s.toks, rfl, (Aft.refl _ _).x f, w, .next, q⟩
def Then (c : C0) (S : Stt) (rest : List Stmt) (Q : Fl → List (Str × V) → List (Str × V) → List O → Prop) (X : Addr → List O → Prop) : Fl → List (Str × V) → List (Str × V) → List O → Prop
  | .next, ρ, γ, σ => WSs c S rest ρ γ Q X σ
  | fl, ρ, γ, σ => Q fl ρ γ σ
theorem stsC {st : Stmt} {rest : List Stmt} (h : WS c S st ρ γ (Then c S rest Q X) X σ) : WSs c S (st :: rest) ρ γ Q X σ := fun f ι s w e => by
  refine wpAny_execs_cons (wpAny_mono (h f ι s w e) (fun fl s₁ p => ?_) fun _ _ p => p)
  obtain ⟨fl', ρ', γ', σ', ι', h', tk, rfl, A, w', r, q⟩ := p
  cases r with
  | next => exact liftX w' A (q f ι' _ w' e)
  | brk => exact ⟨.brk, ρ', γ', σ', ι', h', tk, rfl, A, w', .brk, q⟩
  | cont => exact ⟨.cont, ρ', γ', σ', ι', h', tk, rfl, A, w', .cont, q⟩
  | ret r => exact ⟨.ret _, ρ', γ', σ', ι', h', tk, rfl, A, w', .ret r, q⟩

noncomputable def upd : List (Str × V) → Str → V → List (Str × V)
  | [], x, v => [(x, v)]
  | (y, u) :: r, x, v => match x == y with
    | true => (x, v) :: r
    | false => (y, u) :: upd r x v
abbrev KR (Q : Fl → List (Str × V) → List (Str × V) → List O → Prop) (ρ γ : List (Str × V)) : V → List O → Prop := fun v σ' => Q (.ret v) ρ γ σ'
abbrev KN (Q : Fl → List (Str × V) → List (Str × V) → List O → Prop) (ρ γ : List (Str × V)) : V → List O → Prop := fun _ σ' => Q .next ρ γ σ'
abbrev KS (Q : Fl → List (Str × V) → List (Str × V) → List O → Prop) (ρ γ : List (Str × V)) (x : Str) : V → List O → Prop := fun v σ' => Q .next (upd ρ x v) γ σ'
abbrev KSC (Q : Fl → List (Str × V) → List (Str × V) → List O → Prop) (ρ γ : List (Str × V)) (x : Str) : V → List O → Prop := fun v σ' => Q .next ρ (upd γ x v) σ'
abbrev KI (c : C0) (S : Stt) (body orelse : List Stmt) (ρ γ : List (Str × V)) (Q : Fl → List (Str × V) → List (Str × V) → List O → Prop) (X : Addr → List O → Prop) : Bool → List O → Prop := fun b σ₁ => if b = true then WSs c S body ρ γ Q X σ₁ else WSs c S orelse ρ γ Q X σ₁
theorem sRet {e : Expr} {pos : Pos} (h : WE c S e ρ γ (KR Q ρ γ) X σ) : WS c S (.Return (some e) pos) ρ γ Q X σ := fun f ι s w _ => by
  refine wpAny_Return_some (wpAny_mono (h f ι s w) (fun u s₁ p => ?_) fun _ _ p => p.st)
  obtain ⟨v, σ', ι', h', tk, rfl, A, w', r, q⟩ := p
  exact ⟨.ret v, ρ, γ, σ', ι', h', tk, rfl, A.x f, w', .ret r, q⟩
theorem sIf {test : Expr} {body orelse : List Stmt} {pos : Pos} (h : WB c S test ρ γ (KI c S body orelse ρ γ Q X) X σ) : WS c S (.If test body orelse pos) ρ γ Q X σ := fun f ι s w e => by
  refine wpAny_If (wpAny_mono (h f ι s w) (fun u s₁ p => ?_) fun _ _ p => p.st)
  obtain ⟨b, σ₁, ι₁, h₁, tk, rfl, A, w₁, rfl, q⟩ := p
  cases b with
  | true => exact liftX w₁ (A.x f) (q f ι₁ _ w₁ e)
  | false => exact liftX w₁ (A.x f) (q f ι₁ _ w₁ e)
theorem sExpr {e : Expr} {pos : Pos} (h : WE c S e ρ γ (KN Q ρ γ) X σ) (hs : ∀ env, swapsWith e none pos.line env = pure false := by intro _; rfl) : WS c S (.Expr e pos) ρ γ Q X σ := fun f ι s w _ => by
  have hi : interactive f.env = false := by unfold interactive; rw [w.kind]; rfl
  show wpAny c.M f.A (exec (.Expr e pos) f.env) _ _ s
  rw [exec_Expr f.env e pos hi (hs _)]
  refine wpAny_bind (wpAny_standAt (wpAny_bind (wpAny_mono (h f ι s w) (fun u s₁ p => ?_) fun _ _ p => p.st)))
  obtain ⟨v, σ', ι', h', tk, rfl, A, w', r, q⟩ := p
  exact wpAny_dropValue ⟨.next, ρ, γ, σ', ι', h', tk, rfl, A.x f, w', .next, q⟩
end

theorem lookup_upd {x y : Str} {v : V} : ∀ {ρ : List (Str × V)}, (upd ρ x v).lookup y = if y = x then some v else ρ.lookup y
  | [] => by
    simp only [upd, List.lookup_cons, List.lookup_nil]
    by_cases q : y = x
    · subst q; simp
    · rw [if_neg q, show (y == x) = false from by simpa using q]
  | (z, u) :: r => by
    have ih := lookup_upd (x := x) (y := y) (v := v) (ρ := r)
    simp only [upd]
    by_cases q : x = z
    · subst q
      rw [show (x == x) = true from by simp]
      show List.lookup y ((x, v) :: r) = _
      rw [List.lookup_cons, List.lookup_cons]
      by_cases q' : y = x
      · subst q'; simp
      · rw [if_neg q', show (y == x) = false from by simpa using q']
    · rw [show (x == z) = false from by simpa using q]
      show List.lookup y ((z, u) :: upd r x v) = _
      rw [List.lookup_cons, List.lookup_cons, ih]
      by_cases q' : y = z
      · subst q'
        have hne : ¬ y = x := fun e => q e.symm
        simp [hne]
      · rw [show (y == z) = false from by simpa using q']

section
variable {c : C0} {S : Stt} {f : Fm} {ι ι₁ : List Addr} {ρ γ ρ₁ γ₁ : List (Str × V)} {σ σ₁ : List O} {s s₁ s' : Shared} {h h' h₁ : Heap} {tk : Nat} {Q Q' : Fl → List (Str × V) → List (Str × V) → List O → Prop} {X X' : Addr → List O → Prop} {t : Env → Sem Flow}

theorem framesOf {h h' base : Heap} : ∀ {l : List Env}, h.FunFrames base l → (∀ b o, h.get? b = some o → (∀ vs, o.data ≠ .fields vs) → ∃ o', h'.get? b = some o' ∧ ∀ vs, o'.data ≠ .fields vs) → h'.FunFrames base l
  | [], _, _ => trivial
  | env :: _, ⟨hk, ⟨L, o, hf, hn, ho, hd⟩, hr⟩, k => by
    obtain ⟨o', e', s'⟩ := k L o ho hd
    exact ⟨hk, ⟨L, o', hf, hn, e', s'⟩, framesOf hr k⟩
theorem Sit.own (w : Sit c S f ι ρ γ σ h) {a : Addr} (hl : Lo f a) (hs : Heap.SameBut a h h')
    (hloc : AftX f ι h ι h' → ∃ m, h'.Ns f.env.locals m ∧ ∀ x v, ρ₁.lookup x = some v → ∃ u, m x = some u ∧ VR ι h' v u)
    (hcel : AftX f ι h ι h' → ∀ x v, γ₁.lookup x = some v → ∃ a u, f.env.cells.lookup x = some a ∧ h'.IsCell a (some u) ∧ VR ι h' v u)
    (hcx : ∀ x a, f.env.cells.lookup x = some a → ∃ v₀, h'.IsCell a v₀) : Sit c S f ι ρ₁ γ₁ σ h' ∧ AftX f ι h ι h' := by
  have A : AftX f ι h ι h' := ⟨⟨[], by simp⟩, fun _ q => .inl q, fun b ob e n => ⟨ob, (hs.2 b fun q => n (.inr (q ▸ hl))).trans e, .refl _⟩⟩
  have hai : a ∉ ι := by
    rcases hl with rfl | ⟨x, e⟩
    · exact w.locx.1
    · exact (w.celx x a e).1
  have hab : c.base.get? a = none := by
    rcases hl with rfl | ⟨x, e⟩
    · exact w.locx.2
    · exact (w.celx x a e).2.2.1
  have hfr : h'.FunFrames c.base (f.fe :: f.outer) := by
    refine framesOf w.frames fun b o e hnf => ?_
    by_cases q : b = a
    · subst q
      rcases hl with rfl | ⟨x, e'⟩
      · obtain ⟨m₁, ⟨o₁, es₁, ep₁, ho₁, hd₁, _⟩, _⟩ := hloc A
        exact ⟨o₁, ho₁, fun vs q => (by rw [hd₁] at q; cases q)⟩
      · obtain ⟨v₀, o₁, ho₁, hd₁⟩ := hcx x b e'
        exact ⟨o₁, ho₁, fun vs q => (by rw [hd₁] at q; cases q)⟩
    · exact ⟨o, (hs.2 b q).trans e, hnf⟩
  refine ⟨{ w with base := fun b o e => (hs.2 b fun q => by rw [q, hab] at e; cases e).trans (w.base b o e), frames := hfr, fdict := fun env he L o hL e => ?_, loc := hloc A, cel := hcel A, celx := fun x b e => ?_, sto := fun i o b e1 e2 => ?_ }, A⟩
  · by_cases q : L = a
    · subst q
      rcases hl with rfl | ⟨x, e'⟩
      · obtain ⟨m₁, ⟨o₁, es₁, ep₁, ho₁, hd₁, _⟩, _⟩ := hloc A
        rw [e] at ho₁; cases ho₁
        exact ⟨es₁, ep₁, hd₁⟩
      · obtain ⟨_, _, _, v₀, o₁, ho₁, hd₁⟩ := w.celx x L e'
        obtain ⟨es, n, hd⟩ := w.fdict env he L o₁ hL ho₁
        rw [hd₁] at hd; cases hd
    · exact w.fdict env he L o hL ((hs.2 L q).symm.trans e)
  · obtain ⟨n1, n2, n3, _⟩ := w.celx x b e
    exact ⟨n1, n2, n3, hcx x b e⟩
  · refine (w.sto i o b e1 e2).other w.muX A.1 A.2.2 fun ob z => (hs.2 b fun q => hai (q ▸ List.mem_of_getElem? e2)).trans z

theorem store_L {x : Str} {v : V} {u : Value} {Qs : Unit → Shared → Prop} {E : Value → Shared → Prop} (w : Sit c S f ι ρ γ σ s.heap) (hk : S.kd x = some .local) (hv : VR ι s.heap v u)
    (n : ∀ h', Sit c S f ι (upd ρ x v) γ σ h' → AftX f ι s.heap ι h' → Qs () { s with heap := h', toks := s.toks + 1 }) : wpAny c.M f.A (storeName f.env x u) Qs E s := by
  obtain ⟨m, hm, hr⟩ := w.loc
  refine wpAny_storeName_local ((w.kinds x).trans hk) hm (fun h' hn hs => ?_) (by rw [w.kind]; rfl)
  have hcx : ∀ y b, f.env.cells.lookup y = some b → ∃ v₀, h'.IsCell b v₀ := fun y b e => by
    obtain ⟨_, n2, _, v₀, o, ho, hd⟩ := w.celx y b e
    exact ⟨v₀, o, (hs.2 b n2).trans ho, hd⟩
  have step : Sit c S f ι (upd ρ x v) γ σ h' ∧ AftX f ι s.heap ι h' := by
    refine w.own (ρ₁ := upd ρ x v) (γ₁ := γ) (a := f.env.locals) (.inl rfl) hs (fun A => ⟨_, hn, fun y z e => ?_⟩) (fun A y z e => ?_) hcx
    · rw [lookup_upd] at e
      by_cases q : y = x
      · rw [if_pos q] at e ⊢
        cases e
        exact ⟨u, rfl, hv.grow w.muX A.1 A.2.2⟩
      · rw [if_neg q] at e ⊢
        obtain ⟨u', e1, e2⟩ := hr y z e
        exact ⟨u', e1, e2.grow w.muX A.1 A.2.2⟩
    · obtain ⟨a, u', e1, ⟨o, ho, hd⟩, e3⟩ := w.cel y z e
      exact ⟨a, u', e1, ⟨o, (hs.2 a (w.celx y a e1).2.1).trans ho, hd⟩, e3.grow w.muX A.1 A.2.2⟩
  exact n h' step.1 step.2
theorem store_C {x : Str} {v : V} {u : Value} {Qs : Unit → Shared → Prop} {E : Value → Shared → Prop} (w : Sit c S f ι ρ γ σ s.heap) (hk : S.kd x = some .cell) (hv : VR ι s.heap v u)
    (n : ∀ h', Sit c S f ι ρ (upd γ x v) σ h' → AftX f ι s.heap ι h' → Qs () { s with heap := h' }) : wpAny c.M f.A (storeName f.env x u) Qs E s := by
  obtain ⟨a, ha⟩ := w.celk x hk
  obtain ⟨n1, n2, n3, v₀, hc⟩ := w.celx x a ha
  refine wpAny_storeName_cell w.kind ((w.kinds x).trans hk) ha hc fun h' hn hs => ?_
  have hcx : ∀ y b, f.env.cells.lookup y = some b → ∃ v₀, h'.IsCell b v₀ := fun y b e => by
    by_cases q : b = a
    · exact ⟨_, q ▸ hn⟩
    · obtain ⟨_, _, _, v₀, o, ho, hd⟩ := w.celx y b e
      exact ⟨v₀, o, (hs.2 b q).trans ho, hd⟩
  have step : Sit c S f ι ρ (upd γ x v) σ h' ∧ AftX f ι s.heap ι h' := by
    refine w.own (ρ₁ := ρ) (γ₁ := upd γ x v) (a := a) (.inr ⟨x, ha⟩) hs (fun A => ?_) (fun A y z e => ?_) hcx
    · obtain ⟨m, ⟨o, es, ep, ho, r⟩, hr⟩ := w.loc
      refine ⟨m, ⟨o, es, ep, (hs.2 _ (Ne.symm n2)).trans ho, r⟩, fun y z e => ?_⟩
      obtain ⟨u', e1, e2⟩ := hr y z e
      exact ⟨u', e1, e2.grow w.muX A.1 A.2.2⟩
    · rw [lookup_upd] at e
      by_cases q : y = x
      · subst q
        rw [if_pos rfl] at e
        cases e
        exact ⟨a, u, ha, hn, hv.grow w.muX A.1 A.2.2⟩
      · rw [if_neg q] at e
        obtain ⟨b, u', e1, ⟨o, ho, hd⟩, e3⟩ := w.cel y z e
        exact ⟨b, u', e1, ⟨o, (hs.2 b fun z => q (w.celd y x b e1 (z ▸ ha))).trans ho, hd⟩, e3.grow w.muX A.1 A.2.2⟩
  exact n h' step.1 step.2
theorem sAssL {x : Str} {pos' pos : Pos} {e : Expr} (hk : S.kd x = some .local) (h : WE c S e ρ γ (KS Q ρ γ x) X σ) (hs : ∀ env, swapsWith e (some (.Name x pos')) pos.line env = pure false := by intro _; rfl) :
    WS c S (.Assign [.Name x pos'] e pos) ρ γ Q X σ := fun f ι s w _ => by
  refine wpAny_Assign_Name (wpAny_mono (h f ι s w) (fun u s₁ p => ?_) fun _ _ p => p.st) (hs _)
  obtain ⟨v, σ', ι', h', tk, rfl, A, w', r, q⟩ := p
  exact store_L (s := { s with heap := h', toks := tk }) w' hk r fun h'' w'' A'' => ⟨.next, _, γ, σ', ι', h'', _, rfl, (A.x f).then w' A'', w'', .next, q⟩
theorem sAssC {x : Str} {pos' pos : Pos} {e : Expr} (hk : S.kd x = some .cell) (h : WE c S e ρ γ (KSC Q ρ γ x) X σ) (hs : ∀ env, swapsWith e (some (.Name x pos')) pos.line env = pure false := by intro _; rfl) :
    WS c S (.Assign [.Name x pos'] e pos) ρ γ Q X σ := fun f ι s w _ => by
  refine wpAny_Assign_Name (wpAny_mono (h f ι s w) (fun u s₁ p => ?_) fun _ _ p => p.st) (hs _)
  obtain ⟨v, σ', ι', h', tk, rfl, A, w', r, q⟩ := p
  exact store_C (s := { s with heap := h', toks := tk }) w' hk r fun h'' w'' A'' => ⟨.next, ρ, _, σ', ι', h'', _, rfl, (A.x f).then w' A'', w'', .next, q⟩

inductive KSt (Q : Fl → List (Str × V) → List (Str × V) → List O → Prop) (ρ γ : List (Str × V)) (v ov iv : V) (σ₃ : List O) : Prop where
  | mk (j : Nat) (k : Int) (l : List V) (e1 : ov = .ref j) (e2 : iv = .int k) (e3 : σ₃[j]? = some (.list l)) (h0 : 0 ≤ k) (h1 : k < l.length) (h2 : k < 2 ^ 63) (q : Q .next ρ γ (σ₃.set j (.list (l.set k.toNat v))))
theorem sSet {o i e : Expr} {pos' pos : Pos} (h : WE c S e ρ γ (fun v σ₁ => WE c S o ρ γ (fun ov σ₂ => WE c S i ρ γ (KSt Q ρ γ v ov) X σ₂) X σ₁) X σ)
    (hs : ∀ env, swapsWith e (some (.Subscript o i pos')) pos.line env = pure false := by intro _; rfl) : WS c S (.Assign [.Subscript o i pos'] e pos) ρ γ Q X σ := fun f ι s w _ => by
  refine wpAny_Assign_Subscript (wpAny_mono (h f ι s w) (fun u s₁ p => ?_) fun _ _ p => p.st) (hs _)
  obtain ⟨v, σ₁, ι₁, h₁, tk₁, rfl, A₁, w₁, r₁, q₁⟩ := p
  refine wpAny_mono (q₁ f ι₁ _ w₁) (fun uo s₂ p => ?_) fun _ _ p => (PX.trans (s := s) p rfl A₁).st
  obtain ⟨ov, σ₂, ι₂, h₂, tk₂, rfl, A₂, w₂, r₂, q₂⟩ := p
  refine wpAny_mono (q₂ f ι₂ _ w₂) (fun ui s₃ p => ?_) fun _ _ p => (PX.trans (s := s) p rfl (A₁.trans A₂)).st
  obtain ⟨iv, σ₃, ι₃, h₃, tk₃, rfl, A₃, w₃, r₃, j, k, l, rfl, rfl, hl, h0, hlt, hf, q⟩ := p
  cases r₃
  cases r₂ with
  | ref hj =>
    rename_i a
    have hj₃ : ι₃[j]? = some a := by obtain ⟨⟨t, rfl⟩, _⟩ := A₃; rw [List.getElem?_append_left (List.getElem?_eq_some_iff.mp hj).1]; exact hj
    obtain ⟨us, n, ho, rs, hb⟩ := w₃.sto j _ a hl hj₃
    have r₁' := (r₁.mono w₁.mu A₂).mono w₂.mu A₃
    refine W.ki_setAt ho h0 hf (by rw [List.size_toArray, rs.length]; exact hlt) ?_
    obtain ⟨w₄, A₄⟩ := w₃.upd (o' := .list (l.set k.toNat v)) hj₃ (Heap.SameBut.update _ a _) hb fun A => ⟨us.set k.toNat u, n, by
        rw [Heap.get?_update_self (Obj.mapSeq (·.setIfInBounds k.toNat u)) ho rfl]
        simp [Obj.mapSeq], (rs.set r₁' k.toNat).mono w₃.mu A, hb⟩
    exact ⟨.next, ρ, γ, _, ι₃, _, tk₃, rfl, (((A₁.trans A₂).trans A₃).trans A₄).x f, w₄, .next, q⟩
end

theorem bindL_is {kd : Str → Option NameKind} {x : Str} : ∀ (binds : List (Str × Value)) (m : Str → Option Value), bindL kd binds m x = if kd x = some .local then (binds.reverse.lookup x).or (m x) else m x
  | [], m => by simp [bindL]
  | (n, v) :: r, m => by
    rw [bindL, bindL_is r]
    by_cases hx : kd x = some .local
    · rw [if_pos hx, if_pos hx, List.reverse_cons, List.lookup_append]
      by_cases hn : x = n
      · subst hn
        rw [if_pos hx, if_pos rfl]
        cases (r.reverse.lookup x) <;> simp
      · have hb : (x == n) = false := by simpa using hn
        have : (if kd n = some .local then fun y => if y = n then some v else m y else m) x = m x := by split <;> simp [hn]
        rw [this]
        cases (r.reverse.lookup x) <;> simp [List.lookup_cons, hb]
    · rw [if_neg hx, if_neg hx]
      by_cases hn : x = n
      · subst hn; rw [if_neg hx]
      · split <;> simp [hn]
theorem bindC_is {kd : Str → Option NameKind} {x : Str} : ∀ (binds : List (Str × Value)) (m : Str → Option Value), bindC kd binds m x = if kd x = some .local then m x else (binds.reverse.lookup x).or (m x)
  | [], m => by simp [bindC]
  | (n, v) :: r, m => by
    rw [bindC, bindC_is r]
    by_cases hx : kd x = some .local
    · rw [if_pos hx, if_pos hx]
      by_cases hn : x = n
      · subst hn; rw [if_pos hx]
      · split <;> simp [hn]
    · rw [if_neg hx, if_neg hx, List.reverse_cons, List.lookup_append]
      by_cases hn : x = n
      · subst hn
        rw [if_neg hx, if_pos rfl]
        cases (r.reverse.lookup x) <;> simp
      · have hb : (x == n) = false := by simpa using hn
        have : (if kd n = some .local then m else fun y => if y = n then some v else m y) x = m x := by split <;> simp [hn]
        rw [this]
        cases (r.reverse.lookup x) <;> simp [List.lookup_cons, hb]
theorem lookup_none {α : Type} {x : Str} : ∀ {l : List (Str × α)}, x ∉ l.map (·.1) → l.lookup x = none
  | [], _ => rfl
  | (y, _) :: r, h => by
    simp only [List.map_cons, List.mem_cons, not_or] at h
    rw [List.lookup_cons, show (x == y) = false from by simpa using h.1]
    exact lookup_none h.2
theorem lookup_reverse {α : Type} {x : Str} : ∀ {l : List (Str × α)}, (l.map (·.1)).Nodup → l.reverse.lookup x = l.lookup x
  | [], _ => rfl
  | (y, v) :: r, h => by
    simp only [List.map_cons, List.nodup_cons] at h
    rw [List.reverse_cons, List.lookup_append, lookup_reverse h.2, List.lookup_cons]
    by_cases q : x = y
    · subst q
      rw [lookup_none h.1]; simp
    · have hb : (x == y) = false := by simpa using q
      rw [hb, List.lookup_cons, hb]
      cases r.lookup x <;> simp
theorem zip_lookup {ι : List Addr} {h : Heap} {x : Str} {v : V} : ∀ {ps : List Str} {vs : List V} {us : List Value}, VRs ι h vs us → (ps.zip vs).lookup x = some v → ∃ u, (ps.zip us).lookup x = some u ∧ VR ι h v u
  | [], _, _, _, e => by simp at e
  | _ :: _, _, _, .nil, e => by simp at e
  | p :: ps, _, _, .cons (u := u) r rs, e => by
    simp only [List.zip_cons_cons, List.lookup_cons] at e ⊢
    cases q : x == p with
    | true => rw [q] at e; cases e; exact ⟨u, rfl, r⟩
    | false => rw [q] at e; exact zip_lookup rs e
theorem zip_keys {α : Type} : ∀ {ps : List Str} {us : List α}, us.length = ps.length → (ps.zip us).map (·.1) = ps
  | [], [], _ => rfl
  | p :: ps, u :: us, h => by simp only [List.zip_cons_cons, List.map_cons, List.cons.injEq, true_and]; exact zip_keys (by simpa using h)

structure FnAt (c : C0) (a : Addr) (ps : List Str) (body : List Stmt) (scope : Scope) : Prop where
  there : ∃ o fd, c.base.get? a = some o ∧ o.data = .func fd ∧ fd.body = .stmts body ∧ fd.scope = scope ∧ fd.closure = [] ∧ fd.globals = mainGlobals ∧ fd.builtins = builtinsNs ∧ c.base.CodeRec fd.code fd.qualname ∧
    ∀ us : List Value, us.length = ps.length → bindArgs fd ⟨us, []⟩ = pure (ps.zip us)
  kind : scope.kind = .function
  co : scope.isCoroutine = false
  gen : scope.isGenerator = false
  nd : ps.Nodup
  par : ∀ x ∈ ps, scope.names.lookup x = some .local ∨ scope.names.lookup x = some .cell

section
variable {c : C0} {S : Stt} {f : Fm} {ι ι' : List Addr} {ρ γ : List (Str × V)} {σ σ' : List O} {h h' : Heap} {s : Shared}

theorem hide_kp {hb : Heap} {L : Addr} : Kp (· = L) hb (hb.hide L) := fun b o e n => ⟨o, (Heap.hide_ne hb n).trans e, .refl o⟩
theorem leaveX {S' : Stt} {f' : Fm} {ρ' γ' : List (Str × V)} {X : Addr → List O → Prop} {L ea C : Addr} {hb h₂ : Heap} {tk : Nat} {E : Value → Shared → Prop} (w : Sit c S f ι ρ γ σ s.heap) (w₂ : Sit c S' f' ι' ρ' γ' σ' hb) (hL : s.heap.get? L = none) (hfe : f'.fe.frame = some L) (henv : f'.env = f'.fe) (hloc : f'.env.locals = L)
    (hout : f'.outer = f.fe :: f.outer) (A : Aft ι s.heap ι' hb) (air : Air c f' ea C hb h₂) (q : X C σ') :
    wpAny c.M f'.A (leaving f'.fe (.ref ea)) (fun _ s'' => PX c S f ι ρ γ s X (.ref ea) s'') E { s with heap := h₂, toks := tk } := by
  have hfrs : frs f' = L :: frs f := by simp only [frs, List.filterMap_cons, hfe, hout]
  have hnL : ∀ b o, s.heap.get? b = some o → b ≠ L := fun b o e q => by rw [q, hL] at e; cases e
  have A' : Aft ι s.heap ι' (hb.hide L) := ⟨A.1, A.2.1, fun b o e n => by
    obtain ⟨o', e', s'⟩ := A.2.2 b o e n
    exact ⟨o', (Heap.hide_ne hb (hnL b o e)).trans e', s'⟩⟩
  have hbL : c.base.get? L = none := hloc ▸ w₂.locx.2
  have M : MuX (· = L) hb := fun a o qa ho => by
    obtain ⟨m, ⟨oL, es, ep, hoL, hdL, _⟩, _⟩ := w₂.loc
    rw [hloc, ← qa, ho] at hoL; cases hoL
    exact ⟨fun _ its n z => (by rw [hdL] at z; cases z), fun vs z => (by rw [hdL] at z; cases z)⟩
  have hLi : L ∉ ι' := hloc ▸ w₂.locx.1
  have ws : Sit c S f ι' ρ γ σ' (hb.hide L) := w.aft A' (fun b o e => (Heap.hide_ne hb fun z => by rw [z, hbL] at e; cases e).trans (w₂.base b o e)) A.2.1 w₂.len w₂.nd fun i o a e1 e2 =>
    (w₂.sto i o a e1 e2).other M ⟨[], by simp⟩ hide_kp fun ob z => (Heap.hide_ne hb (fun (y : a = L) => hLi (y ▸ List.mem_of_getElem? e2))).trans z
  have hfr : f'.A.frames = some (f'.fe :: f.fe :: f.outer) := by rw [← hout]; exact w₂.stack
  have ofhide : ∀ b o, (hb.hide L).get? b = some o → hb.get? b = some o ∧ b ≠ L := fun b o e => ⟨Heap.of_hide e, fun z => by rw [z, Heap.hide_self] at e; cases e⟩
  have nof : ∀ b o, hb.get? b = some o → b ∈ frs f' → ∀ vs, o.data ≠ .fields vs := fun b o e hm => by
    obtain ⟨_, o', ho', hd'⟩ := w₂.frames.mem hm
    rw [e] at ho'; cases ho'; exact hd'
  rcases air with ⟨args, hx⟩ | ⟨B, a0, hB, hcov, hfl, hsl⟩
  · have hin : ∀ env ∈ f'.fe :: f'.outer, ∀ b, env.frame = some b → b ∈ frs f' := fun env he b hb' => List.mem_filterMap.mpr ⟨env, he, hb'⟩
    have hff := W.funFrames_hide w₂.frames hin
    rw [hout] at hff
    refine wpAny_leaves_madeW hfr hfe (fun b o e => W.of_hideAll _ e) hff hx fun h₃ t fly _ _ up => ?_
    refine ⟨C, ea, hb.hide L, σ', ι', h₃, tk, rfl, rfl, A', ws, .inr ⟨_, _, fun b o e => ?_, fun b o e n => ?_, fly, fun b o e hm => ?_⟩, q⟩
    · refine W.hideAll_get _ (w₂.base b o e) fun hm => ?_
      rw [(w₂.frames.mem hm).1] at e; cases e
    · obtain ⟨e1, e2⟩ := ofhide b o e
      exact W.hideAll_get _ e1 (by rw [hfrs]; exact fun z => (List.mem_cons.mp z).elim e2 n)
    · obtain ⟨e1, e2⟩ := ofhide b o e
      exact up b o (hx.keeps b o e1) (nof b o e1 (by rw [hfrs]; exact .tail _ hm))
  · rw [hout] at hfl
    refine wpAny_leaves_onW hfr hfe hfl fun h₃ fly up => ?_
    refine ⟨C, ea, hb.hide L, σ', ι', h₃, tk, rfl, rfl, A', ws, .inr ⟨B, a0, hB, fun b o e n => ?_, fly, fun b o e hm => ?_⟩, q⟩
    · obtain ⟨e1, e2⟩ := ofhide b o e
      exact hcov b o e1 (by rw [hfrs]; exact fun z => (List.mem_cons.mp z).elim e2 n)
    · obtain ⟨e1, e2⟩ := ofhide b o e
      have hm' : b ∈ frs f' := by rw [hfrs]; exact .tail _ hm
      obtain ⟨sl, e3⟩ := hsl b o e1 hm'
      obtain ⟨sl', e4⟩ := up b _ e3 (nof b o e1 hm')
      exact ⟨sl', e4⟩
end

section
variable {c : C0} {S : Stt} {ρ γ : List (Str × V)} {σ : List O} {Q : V → List O → Prop} {X : Addr → List O → Prop}

abbrev Stt.deeper (S : Stt) (scope : Scope) : Stt := { n := S.n + 1, kd := fun x => scope.names.lookup x, q := S.q }

theorem callCode {a : Addr} {ps : List Str} {body : List Stmt} {scope : Scope} {vs : List V} {ρ' γ' : List (Str × V)} (F : FnAt c a ps body scope) (hlen : vs.length = ps.length) (hn : S.n < 50)
    (hρ : ∀ x v, ρ'.lookup x = some v → scope.names.lookup x = some .local ∧ (ps.zip vs).lookup x = some v)
    (hγ : ∀ x v, γ'.lookup x = some v → scope.names.lookup x = some .cell ∧ (ps.zip vs).lookup x = some v)
    (h : WSs c (S.deeper scope) body ρ' γ' (fun fl _ _ σ' => Q (match fl with | .ret v => v | _ => .none) σ') X σ) (f : Fm) (ι : List Addr) (s : Shared) (us : List Value) (w : Sit c S f ι ρ γ σ s.heap) (hr : VRs ι s.heap vs us) :
    codeAny c.M f.A (.call (.ref a) ⟨us, []⟩) (fun r s' => match r with | .ok (.ret v) => PR VR c S f ι ρ γ s Q v s' | .ok _ => False | .error e => PX c S f ι ρ γ s X e s') s := by
  obtain ⟨o, fd, ho, hd, hb, rfl, hcl, hgl, hbl, hcd, hbind⟩ := F.there
  have hul : us.length = ps.length := hr.length.trans hlen
  have hkeys : ((ps.zip us).map (·.1)).Nodup := by rw [zip_keys hul]; exact F.nd
  have hdep := w.depth
  have hun := w.units
  have hlv := w.lvl
  refine codeAny_call_function (show f.A.depth < recursionLimit by unfold recursionLimit; omega) (w.base _ _ ho) hd F.co F.gen hb (hcd.keeps w.base) ?_
  rw [hbind us hul, hcl]
  refine wpAny_pure (wpAny_newFunctionEnv_cells F.kind (fun x hx => ?_) fun env he s' x => ?_)
  · have hp : x.1 ∈ ps := by rw [← zip_keys hul]; exact List.mem_map_of_mem hx
    exact (F.par _ hp).imp id fun q => ⟨q, W.cellsFrom_some _ _ _ (.inl q)⟩
  obtain ⟨h₁, tk₁, rfl, hk₁⟩ := x.done
  have hL : env.locals = s.heap.objs.size := by rw [he]; rfl
  have hsc : env.scope = fd.scope := by rw [he]; rfl
  have hfr : env.frame = some s.heap.objs.size := by rw [he]; rfl
  have hkd : ∀ y, env.kindOf y = fd.scope.names.lookup y := fun y => by unfold Env.kindOf; rw [hsc]
  have hcells : env.cells = cellsFrom (s.heap.objs.size + 1) fd.scope.names [] := by rw [he]; rfl
  have above : ∀ b o, s.heap.get? b = some o → b ≠ env.locals ∧ ∀ y, env.cells.lookup y ≠ some b := fun b o e => by
    have hb := Heap.lt_size e
    refine ⟨by rw [hL]; exact Nat.ne_of_lt hb, fun y q => ?_⟩
    have := x.above y b (mem_of_lookup q)
    rw [hL] at this; exact absurd (Nat.lt_trans hb this) (Nat.lt_irrefl _)
  have hns := x.toInCall.ns
  rw [hL] at hns
  -- the called frame
  have w₁ := w.keeps hk₁
  have wc : Sit c (S.deeper fd.scope) { A := f.A.deeper env, fe := env, env := env, outer := f.fe :: f.outer } ι ρ' γ' σ h₁ := {
    gr := w.gr
    base := w₁.base
    stack := Around.frames_deeper w.stack
    frames := by
      obtain ⟨oL, es, ep, hoL, hdL, _⟩ := hns
      exact ⟨by rw [hsc, F.kind]; decide, ⟨_, oL, hfr, base_above w, hoL, fun vs q => (by rw [hdL] at q; cases q)⟩, w₁.frames⟩
    fnotin := fun e he' L hL' => by
      rcases List.mem_cons.mp he' with rfl | he'
      · rw [hfr] at hL'; cases hL'; exact w.fresh
      · exact w.fnotin e he' L hL'
    fdict := fun e he' L o hL' ho' => by
      rcases List.mem_cons.mp he' with rfl | he'
      · rw [hfr] at hL'; cases hL'
        obtain ⟨oL, es, ep, hoL, hdL, _⟩ := hns
        rw [ho'] at hoL; cases hoL
        exact ⟨es, ep, hdL⟩
      · exact w₁.fdict e he' L o hL' ho'
    depth := by show f.A.depth + 1 ≤ 310 + 4 * (S.n + 1); omega
    units := by show f.A.units + 3 ≤ 50 + 20 * (S.n + 1); omega
    lvl := by show S.n + 1 ≤ 50; omega
    quiet := fun q => w.quiet q
    kind := by show env.scope.kind = _; rw [hsc]; exact F.kind
    kinds := hkd
    glob := by show env.globals = _; rw [he]; exact hgl
    blt := by show env.builtins = _; rw [he]; exact hbl
    frm := rfl
    loc := by
      refine ⟨_, by show h₁.Ns env.locals _; rw [hL]; exact hns, fun y v e => ?_⟩
      obtain ⟨e1, e2⟩ := hρ y v e
      obtain ⟨u, e3, e4⟩ := zip_lookup hr e2
      refine ⟨u, ?_, e4.mono w.mu (.of_keeps hk₁)⟩
      rw [bindL_is, if_pos ((hkd y).trans e1), lookup_reverse hkeys, e3]; rfl
    locx := ⟨by show env.locals ∉ ι; rw [hL]; exact w.fresh, by show c.base.get? env.locals = none; rw [hL]; exact base_above w⟩
    cel := fun y v e => by
      obtain ⟨e1, e2⟩ := hγ y v e
      obtain ⟨u, e3, e4⟩ := zip_lookup hr e2
      have hs := W.cellsFrom_some (x := y) fd.scope.names (s.heap.objs.size + 1) [] (.inl e1)
      obtain ⟨b, hb'⟩ := Option.isSome_iff_exists.mp hs
      have hc := x.cell y b (by rw [hcells]; exact hb')
      rw [bindC_is, if_neg (by rw [hkd, e1]; decide), lookup_reverse hkeys, e3] at hc
      exact ⟨b, u, by show env.cells.lookup y = _; rw [hcells]; exact hb', hc, e4.mono w.mu (.of_keeps hk₁)⟩
    celx := fun y b e => by
      have hb' := x.above y b (mem_of_lookup e)
      have hnone : s.heap.get? b = none := Heap.get?_none_of_le (by rw [hL] at hb'; exact Nat.le_of_lt hb')
      refine ⟨fun q => ?_, ?_, ?_, _, x.cell y b e⟩
      · obtain ⟨o', e'⟩ := w.io_some q; rw [hnone] at e'; cases e'
      · exact Nat.ne_of_gt hb'
      · cases q : c.base.get? b with
        | none => rfl
        | some o' => rw [w.base _ _ q] at hnone; cases hnone
    celk := fun y e => by
      have hs := W.cellsFrom_some (x := y) fd.scope.names (s.heap.objs.size + 1) [] (.inl e)
      obtain ⟨b, hb'⟩ := Option.isSome_iff_exists.mp hs
      exact ⟨b, by show env.cells.lookup y = _; rw [hcells]; exact hb'⟩
    celd := fun y z b e1 e2 => name_of_addr x.apart (mem_of_lookup e1) (mem_of_lookup e2)
    len := w.len
    nd := w.nd
    sto := w₁.sto }
  have hnl : h₁.NoLimit := (w.gr.nolimit.keeps w.base).keeps hk₁
  -- from the called frame's heaps to the caller's
  have back : ∀ ι' h', AftX { A := f.A.deeper env, fe := env, env := env, outer := f.fe :: f.outer } ι h₁ ι' h' → Aft ι s.heap ι' h' := fun ι' h' A => by
    refine ⟨A.1, fun b hb => (A.2.1 b hb).imp id fun q => ?_, fun b o e n => A.2.2 b o (hk₁ b o e) fun q => ?_⟩
    · cases z : s.heap.get? b with
      | none => rfl
      | some o' => rw [hk₁ _ _ z] at q; cases q
    · rcases q with q | q | ⟨y, q⟩
      · exact n q
      · exact (above b o e).1 q
      · exact (above b o e).2 y q
  refine ⟨hnl, codeAny_func (wpAny_mono (h _ ι { s with heap := h₁, toks := tk₁ } wc rfl) (fun fl s₂ p => ?_) fun ev s₂ p => ?_)⟩
  · obtain ⟨fl', ρ₂, γ₂, σ₂, ι₂, h₂, tk₂, rfl, A₂, w₂, r₂, q₂⟩ := p
    have A := back _ _ A₂
    cases r₂ with
    | ret r => exact ⟨_, σ₂, ι₂, h₂, tk₂, rfl, A, w.aft A w₂.base A.2.1 w₂.len w₂.nd w₂.sto, r, q₂⟩
    | next => exact ⟨.none, σ₂, ι₂, h₂, tk₂, rfl, A, w.aft A w₂.base A.2.1 w₂.len w₂.nd w₂.sto, .none, q₂⟩
    | brk => exact ⟨.none, σ₂, ι₂, h₂, tk₂, rfl, A, w.aft A w₂.base A.2.1 w₂.len w₂.nd w₂.sto, .none, q₂⟩
    | cont => exact ⟨.none, σ₂, ι₂, h₂, tk₂, rfl, A, w.aft A w₂.base A.2.1 w₂.len w₂.nd w₂.sto, .none, q₂⟩
  · obtain ⟨C, ea, hb, ρ₂, γ₂, σ₂, ι₂, h₂, tk₂, rfl, rfl, A₂, w₂, air, q⟩ := p
    exact leaveX (f' := { A := f.A.deeper env, fe := env, env := env, outer := f.fe :: f.outer }) w w₂ none_above hfr rfl hL rfl (back _ _ A₂) air q
theorem callDef {a : Addr} {ps : List Str} {body : List Stmt} {scope : Scope} {vs : List V} {ρ' γ' : List (Str × V)} (F : FnAt c a ps body scope) (hlen : vs.length = ps.length) (hn : S.n < 50)
    (hρ : ∀ x v, ρ'.lookup x = some v → scope.names.lookup x = some .local ∧ (ps.zip vs).lookup x = some v)
    (hγ : ∀ x v, γ'.lookup x = some v → scope.names.lookup x = some .cell ∧ (ps.zip vs).lookup x = some v)
    (h : WSs c (S.deeper scope) body ρ' γ' (fun fl _ _ σ' => Q (match fl with | .ret v => v | _ => .none) σ') X σ) : WL VR c S (fun us => call (.ref a) us) vs ρ γ Q X σ := fun f ι s us w hr =>
  wpAny_call (callCode F hlen hn hρ hγ h f ι s us w hr)
end

structure Itr (c : C0) (I : Addr) (vs : List V) (Src : List O → Prop) (St : Nat → List Addr → Heap → Prop) : Prop where
  frame : ∀ k ι h ι' h', St k ι h → (∃ t, ι' = ι ++ t) → (∀ o, h.get? I = some o → h'.get? I = some o) → (∃ Y, MuX Y h ∧ Kp Y h h') → St k ι' h'
  isrec : ∀ k ι h, St k ι h → ∃ o fs, h.get? I = some o ∧ o.data = .fields fs ∧ ∀ C, o.cls ≠ .ref C
  item : ∀ S f ι ρ γ σ k s v (Q : Option Value → Shared → Prop) (E : Value → Shared → Prop), vs[k]? = some v → Sit c S f ι ρ γ σ s.heap → Src σ → St k ι s.heap →
    (∀ u h' tk, VR ι h' v u → St (k + 1) ι h' → Heap.ExtBut I s.heap h' → Q (some u) { s with heap := h', toks := tk }) → wpAny c.M f.A (pyNext (.ref I)) Q E s
  done : ∀ S f ι ρ γ σ s (Q : Option Value → Shared → Prop) (E : Value → Shared → Prop), Sit c S f ι ρ γ σ s.heap → S.q = true → Src σ → St vs.length ι s.heap →
    (∀ h' tk, Heap.ExtBut I s.heap h' → Q none { s with heap := h', toks := tk }) → wpAny c.M f.A (pyNext (.ref I)) Q E s
  self : ∀ S f ι ρ γ σ s k (Q : Value → Shared → Prop) (E : Value → Shared → Prop), Sit c S f ι ρ γ σ s.heap → St k ι s.heap → Q (.ref I) s → wpAny c.M f.A (pyIter (.ref I)) Q E s

inductive WIP (c : C0) (S : Stt) (f : Fm) (ι : List Addr) (ρ γ : List (Str × V)) (s : Shared) (Q : List V → (List O → Prop) → List O → Prop) (it : Value) (s₂ : Shared) : Prop where
  | mk (vs : List V) (Src : List O → Prop) (I : Addr) (St : Nat → List Addr → Heap → Prop) (σ' : List O) (ι' : List Addr) (h' : Heap) (tk : Nat) (e1 : it = .ref I) (e2 : s₂ = { s with heap := h', toks := tk }) (A : Aft ι s.heap ι' h') (w : Sit c S f ι' ρ γ σ' h') (itr : Itr c I vs Src St) (st : St 0 ι' h') (hI : s.heap.get? I = none) (src : Src σ') (q : Q vs Src σ')
def WI (c : C0) (S : Stt) (iter : Expr) (ρ γ : List (Str × V)) (Q : List V → (List O → Prop) → List O → Prop) (X : Addr → List O → Prop) (σ : List O) : Prop :=
  ∀ f ι s, Sit c S f ι ρ γ σ s.heap → wpAny c.M f.A (eval iter f.env) (fun x s₁ => wpAny c.M f.A (pyIter x) (WIP c S f ι ρ γ s Q) (PX c S f ι ρ γ s X) s₁) (PX c S f ι ρ γ s X) s

section
variable {c : C0} {S : Stt} {f : Fm} {ι ι' : List Addr} {ρ γ : List (Str × V)} {σ σ' : List O} {h h' : Heap} {s : Shared}

theorem Sit.extI (w : Sit c S f ι ρ γ σ h) {I : Addr} (hr : ∃ o fs, h.get? I = some o ∧ o.data = .fields fs ∧ ∀ C, o.cls ≠ .ref C) (hb : c.base.get? I = none) (k : Heap.ExtBut I h h') : Sit c S f ι ρ γ σ h' := by
  obtain ⟨oI, fs, hoI, hdI, hcI⟩ := hr
  have kp : Kp (· = I) h h' := fun b o e n => ⟨o, k b o n e, .refl o⟩
  have M : MuX (· = I) h := fun a o qa ho => by
    subst qa; rw [hoI] at ho; cases ho
    exact ⟨fun _ its n z => (by rw [hdI] at z; cases z), fun vs z => hcI⟩
  have ne : ∀ b o, h.get? b = some o → (∀ vs, o.data ≠ .fields vs) → b ≠ I := fun b o e n q => by subst q; rw [hoI] at e; cases e; exact n fs hdI
  have p : ∃ t, ι = ι ++ t := ⟨[], by simp⟩
  obtain ⟨m, hm, hrr⟩ := w.loc
  refine { w with base := fun b o e => k b o (fun q => by rw [q, hb] at e; cases e) (w.base b o e), frames := framesOf w.frames fun b o e n => ⟨o, k b o (ne b o e n) e, n⟩, fdict := fun env he L o' hL e' => ?_, loc := ⟨m, ?_, fun x v e => ?_⟩, cel := fun x v e => ?_, celx := fun x a e => ?_, sto := fun i o a e1 e2 => ?_ }
  · obtain ⟨_, o, ho, hn⟩ := w.frames.mem (List.mem_filterMap.mpr ⟨env, he, hL⟩)
    have := k L o (ne L o ho hn) ho
    rw [e'] at this; cases this
    exact w.fdict env he L o' hL ho
  · obtain ⟨o, es, ep, ho, hd, r⟩ := hm
    exact ⟨o, es, ep, k _ o (ne _ o ho fun vs q => by rw [hd] at q; cases q) ho, hd, r⟩
  · obtain ⟨u, e1, e2⟩ := hrr x v e
    exact ⟨u, e1, e2.grow M p kp⟩
  · obtain ⟨a, u, e1, ⟨o, ho, hd⟩, e3⟩ := w.cel x v e
    exact ⟨a, u, e1, ⟨o, k _ o (ne _ o ho fun vs q => by rw [hd] at q; cases q) ho, hd⟩, e3.grow M p kp⟩
  · obtain ⟨n1, n2, n3, v₀, o, ho, hd⟩ := w.celx x a e
    exact ⟨n1, n2, n3, v₀, o, k _ o (ne _ o ho fun vs q => by rw [hd] at q; cases q) ho, hd⟩
  · refine (w.sto i o a e1 e2).other M p kp fun ob z => k _ ob (ne _ ob z ((w.sto i o a e1 e2).mu ob z).2) z
theorem Sit.not_rec (w : Sit c S f ι ρ γ σ h) {I : Addr} (hr : ∃ o fs, h.get? I = some o ∧ o.data = .fields fs ∧ ∀ C, o.cls ≠ .ref C) : I ∉ ι ∧ ¬ Lo f I := by
  obtain ⟨oI, fs, hoI, hdI, hcI⟩ := hr
  refine ⟨fun q => (w.mu I q oI hoI).2 fs hdI, fun q => ?_⟩
  rcases q with q | ⟨x, q⟩
  · obtain ⟨m, ⟨o, es, ep, ho, hd, _⟩, _⟩ := w.loc
    rw [← q, hoI] at ho; cases ho; rw [hd] at hdI; cases hdI
  · obtain ⟨_, _, _, v₀, o, ho, hd⟩ := w.celx x I q
    rw [hoI] at ho; cases ho; rw [hd] at hdI; cases hdI
end

section
variable {c : C0} {S : Stt} {ρ γ : List (Str × V)} {σ : List O} {Q : Fl → List (Str × V) → List (Str × V) → List O → Prop} {X : Addr → List O → Prop}

theorem dec1 {n k : Nat} (h : k < n) : n + 1 - (k + 1) < n + 1 - k := by omega
def Turn (Q : Fl → List (Str × V) → List (Str × V) → List O → Prop) (N : List (Str × V) → List (Str × V) → List O → Prop) : Fl → List (Str × V) → List (Str × V) → List O → Prop
  | .next, ρ, γ, σ => N ρ γ σ
  | .cont, ρ, γ, σ => N ρ γ σ
  | .brk, ρ, γ, σ => Q .next ρ γ σ
  | .ret v, ρ, γ, σ => Q (.ret v) ρ γ σ

inductive FL (c : C0) (S : Stt) (f : Fm) (ι : List Addr) (s : Shared) (vs : List V) (Src : List O → Prop) (St : Nat → List Addr → Heap → Prop) (Inv : Nat → List (Str × V) → List (Str × V) → List O → Prop) (n : Nat) (s' : Shared) : Prop where
  | mk (k : Nat) (ρ' γ' : List (Str × V)) (σ' : List O) (ι' : List Addr) (h' : Heap) (tk : Nat) (e : s' = { s with heap := h', toks := tk }) (en : n = vs.length + 1 - k) (hk : k ≤ vs.length) (A : AftX f ι s.heap ι' h') (w : Sit c S f ι' ρ' γ' σ' h') (st : St k ι' h') (src : Src σ') (inv : Inv k ρ' γ' σ')
theorem sForG {target iter : Expr} {body : List Stmt} {pos : Pos} (pρ pγ : List (Str × V) → V → List (Str × V)) (hq : S.q = true)
    (hst : ∀ f ι ρ γ σ s v u (Qs : Unit → Shared → Prop) (E : Value → Shared → Prop), Sit c S f ι ρ γ σ s.heap → VR ι s.heap v u → (∀ h' tk, Sit c S f ι (pρ ρ v) (pγ γ v) σ h' → AftX f ι s.heap ι h' → Qs () { s with heap := h', toks := tk }) → wpAny c.M f.A (assign target f.env u) Qs E s)
    (h : WI c S iter ρ γ (fun vs Src σ₀ => ∃ Inv : Nat → List (Str × V) → List (Str × V) → List O → Prop, Inv 0 ρ γ σ₀ ∧
      (∀ k v ρ γ σ, vs[k]? = some v → Src σ → Inv k ρ γ σ → WSs c S body (pρ ρ v) (pγ γ v) (Turn Q fun ρ' γ' σ' => Src σ' ∧ Inv (k + 1) ρ' γ' σ') (fun _ _ => False) σ) ∧
      (∀ ρ γ σ, Src σ → Inv vs.length ρ γ σ → Q .next ρ γ σ)) X σ)
    (hs : ∀ env x, foldedSetIterable iter env x = pure x := by intro _ _; rfl) (ht : ∀ it v, letOwnedTupleGo target it v = pure () := by intro _ _; rfl) : WS c S (.For target iter body [] pos) ρ γ Q X σ := fun f ι s w hfe => by
  refine wpAny_For (wpAny_mono (h f ι s w) (fun x s₁ p => wpAny_mono p (fun it s₂ p => ?_) fun _ _ p => p.st) fun _ _ p => p.st) (hs _)
  obtain ⟨vs, Src, I, St, σ₂, ι₂, h₂, tk₂, rfl, rfl, A₂, w₂, itr, st₂, hI, src₂, ⟨Inv, i0, turn, fin⟩⟩ := p
  have hIb : c.base.get? I = none := by
    cases z : c.base.get? I with
    | none => rfl
    | some o => rw [w.base _ _ z] at hI; cases hI
  -- the state between the turns
  refine codeAny_forLoop (FL c S f ι s vs Src St Inv) ?_ (vs.length + 1)
    ⟨0, ρ, γ, σ₂, ι₂, h₂, tk₂, rfl, rfl, Nat.zero_le _, A₂.x f, w₂, st₂, src₂, i0⟩ (ht _)
  rintro n s' ⟨k, ρ', γ', σ', ι', h', tk, rfl, rfl, hk, A', w', st', src', inv'⟩
  have hrec := itr.isrec _ _ _ st'
  have inot := w'.not_rec hrec
  have keepI : ∀ h₃, Heap.ExtBut I h' h₃ → AftX f ι s.heap ι' h₃ := fun h₃ e => ⟨A'.1, A'.2.1, fun b o eb n => by
    obtain ⟨o', e', s'⟩ := A'.2.2 b o eb n
    exact ⟨o', e b o' (fun q => by rw [q, hI] at eb; cases eb) e', s'⟩⟩
  by_cases hlt : k < vs.length
  · obtain ⟨v, hv⟩ : ∃ v, vs[k]? = some v := ⟨vs[k], List.getElem?_eq_getElem hlt⟩
    refine itr.item S f ι' ρ' γ' σ' k { s with heap := h', toks := tk } v _ _ hv w' src' st' fun u h₃ tk₃ vr st₃ ext => ?_
    have w₃ := w'.extI hrec hIb ext
    have A₃ := keepI h₃ ext
    refine hst f ι' ρ' γ' σ' { s with heap := h₃, toks := tk₃ } v u _ _ w₃ vr fun h₄ tk₄ w₄ A₄ => ?_
    have A₄' := A₃.then w₃ A₄
    have hrec₃ := itr.isrec _ _ _ st₃
    have inot₃ := w₃.not_rec hrec₃
    obtain ⟨oI, fs, hoI, hdI, hcI⟩ := hrec₃
    have keep4 : ∀ o, h₃.get? I = some o → h₄.get? I = some o := fun o e => by
      obtain ⟨o', e', s'⟩ := A₄.2.2 I o e (fun q => q.elim inot₃.1 inot₃.2)
      rw [hoI] at e; cases e
      rw [s'.eq fun es n q => by rw [hdI] at q; cases q] at e'
      exact e'
    have st₄ := itr.frame _ _ _ ι' h₄ st₃ ⟨[], by simp⟩ keep4 ⟨_, w₃.muX, A₄.2.2⟩
    refine wpAny_mono (turn k v ρ' γ' σ' hv src' inv' f ι' { s with heap := h₄, toks := tk₄ } w₄ hfe) (fun fl s₅ p => ?_) fun _ _ p => ?_
    · obtain ⟨fl', ρ₅, γ₅, σ₅, ι₅, h₅, tk₅, rfl, A₅, w₅, r₅, q₅⟩ := p
      have A₅' := A₄'.then w₄ A₅
      have hrec₄ := itr.isrec _ _ _ st₄
      have inot₄ := w₄.not_rec hrec₄
      have keep5 : ∀ o, h₄.get? I = some o → h₅.get? I = some o := fun o e => by
        obtain ⟨o', e', s'⟩ := A₅.2.2 I o e (fun q => q.elim inot₄.1 inot₄.2)
        have := keep4 oI hoI
        rw [e] at this; cases this
        rw [s'.eq fun es n q => by rw [hdI] at q; cases q] at e'
        exact e'
      have st₅ := itr.frame _ _ _ ι₅ h₅ st₄ A₅.1 keep5 ⟨_, w₄.muX, A₅.2.2⟩
      cases r₅ with
      | next => exact ⟨vs.length + 1 - (k + 1), dec1 hlt, k + 1, ρ₅, γ₅, σ₅, ι₅, h₅, tk₅, rfl, rfl, hlt, A₅', w₅, st₅, q₅.1, q₅.2⟩
      | cont => exact ⟨vs.length + 1 - (k + 1), dec1 hlt, k + 1, ρ₅, γ₅, σ₅, ι₅, h₅, tk₅, rfl, rfl, hlt, A₅', w₅, st₅, q₅.1, q₅.2⟩
      | brk => exact ⟨.next, ρ₅, γ₅, σ₅, ι₅, h₅, tk₅, rfl, A₅', w₅, .next, q₅⟩
      | ret r => exact ⟨.ret _, ρ₅, γ₅, σ₅, ι₅, h₅, tk₅, rfl, A₅', w₅, .ret r, q₅⟩
    · obtain ⟨_, _, _, _, _, _, _, _, _, _, _, _, _, _, z⟩ := p
      exact z.elim
  · have hke : k = vs.length := Nat.le_antisymm hk (Nat.le_of_not_lt hlt)
    subst hke
    refine itr.done S f ι' ρ' γ' σ' { s with heap := h', toks := tk } _ _ w' hq src' st' fun h₃ tk₃ ext => wpAny_execs_nil ?_
    exact ⟨.next, ρ', γ', σ', ι', h₃, tk₃, rfl, keepI h₃ ext, w'.extI hrec hIb ext, .next, fin _ _ _ src' inv'⟩

theorem sForL {x : Str} {px : Pos} {iter : Expr} {body : List Stmt} {pos : Pos} (hq : S.q = true) (hk : S.kd x = some .local)
    (h : WI c S iter ρ γ (fun vs Src σ₀ => ∃ Inv : Nat → List (Str × V) → List (Str × V) → List O → Prop, Inv 0 ρ γ σ₀ ∧
      (∀ k v ρ γ σ, vs[k]? = some v → Src σ → Inv k ρ γ σ → WSs c S body (upd ρ x v) γ (Turn Q fun ρ' γ' σ' => Src σ' ∧ Inv (k + 1) ρ' γ' σ') (fun _ _ => False) σ) ∧
      (∀ ρ γ σ, Src σ → Inv vs.length ρ γ σ → Q .next ρ γ σ)) X σ)
    (hs : ∀ env x, foldedSetIterable iter env x = pure x := by intro _ _; rfl) : WS c S (.For (.Name x px) iter body [] pos) ρ γ Q X σ :=
  sForG (fun ρ v => upd ρ x v) (fun γ _ => γ) hq (fun f ι ρ γ σ s v u Qs E w r n => wpAny_assign_Name (store_L w hk r fun h' w' A' => n h' _ w' A')) h hs (fun _ _ => rfl)
theorem none_after {f : Fm} {ι ι₁ : List Addr} {s : Shared} {h₁ : Heap} {σ₁ : List O} {b : Addr} (w : Sit c S f ι ρ γ σ s.heap) (A₁ : Aft ι s.heap ι₁ h₁) (w₁ : Sit c S f ι₁ ρ γ σ₁ h₁) (hb : h₁.objs.size ≤ b) : s.heap.get? b = none := by
  cases z : s.heap.get? b with
  | none => rfl
  | some ob =>
    by_cases hi : b ∈ ι
    · obtain ⟨ob', e'⟩ := w₁.io_some (show b ∈ ι₁ by obtain ⟨⟨t, rfl⟩, _⟩ := A₁; exact List.mem_append_left _ hi)
      exact absurd (Heap.lt_size e') (Nat.not_lt.mpr hb)
    · obtain ⟨ob', e', _⟩ := A₁.2.2 _ ob z hi
      exact absurd (Heap.lt_size e') (Nat.not_lt.mpr hb)
theorem itr_list {I j : Nat} {a : Addr} {l : List V} (hlen : l.length < 2 ^ 63) : Itr c I l (fun σ => ∃ o, σ[j]? = some o ∧ o.items? = some l) (fun k ι h => h.IsListIter I a k ∧ ι[j]? = some a) where
  frame := fun k ι h ι' h' st p kp _ => ⟨st.1.at fun o e => kp o e, by obtain ⟨t, rfl⟩ := p; rw [List.getElem?_append_left (List.getElem?_eq_some_iff.mp st.2).1]; exact st.2⟩
  isrec := fun k ι h st => by obtain ⟨o, ho, hc, hd⟩ := st.1; exact ⟨o, _, ho, hd, fun C => by rw [hc]; exact fun q => nomatch q⟩
  item := fun S f ι ρ γ σ k s v Q E hv w src st n => by
    obtain ⟨o, e1, e2⟩ := src
    obtain ⟨us, hl, hr⟩ := w.items e1 e2 st.2
    obtain ⟨u, e3, e4⟩ := hr.get hv
    refine wpAny_pyNext_list_item st.1 hl (by simpa using e3) fun h' hit hs => n u h' _ ?_ ⟨hit, st.2⟩ hs.extBut
    obtain ⟨oI, hoI, hcI, hdI⟩ := st.1
    refine e4.grow (X := (· = I)) (fun a' o' qa ho' => ?_) ⟨[], by simp⟩ fun b o' e n => ⟨o', hs.extBut b o' n e, .refl _⟩
    subst qa; rw [hoI] at ho'; cases ho'
    exact ⟨fun _ its n z => (by rw [hdI] at z; cases z), fun vs z C => by rw [hcI]; exact fun q => nomatch q⟩
  done := fun S f ι ρ γ σ s Q E w hq src st n => by
    obtain ⟨o, e1, e2⟩ := src
    obtain ⟨us, hl, hr⟩ := w.items e1 e2 st.2
    exact wpAny_pyNext_list_end (w.quiet hq) st.1 hl (by rw [List.getElem?_toArray, List.getElem?_eq_none (by rw [hr.length]; exact Nat.le_refl _)]) fun h' ext => n h' _ ext
  self := fun S f ι ρ γ σ s k Q E w st q => wpAny_pyIter_listiter st.1 q

inductive KWL (Q : List V → (List O → Prop) → List O → Prop) (v : V) (σ' : List O) : Prop where
  | mk (j : Nat) (o : O) (l : List V) (e1 : v = .ref j) (e2 : σ'[j]? = some o) (e3 : o.items? = some l) (hl : l.length < 2 ^ 63) (q : Q l (fun σ => ∃ o, σ[j]? = some o ∧ o.items? = some l) σ')
theorem wiList {iter : Expr} {Q : List V → (List O → Prop) → List O → Prop} (h : WE c S iter ρ γ (KWL Q) X σ) : WI c S iter ρ γ Q X σ := fun f ι s w => by
  refine wpAny_mono (h f ι s w) (fun u s₁ p => ?_) fun _ _ p => p
  obtain ⟨v, σ₁, ι₁, h₁, tk₁, rfl, A₁, w₁, r₁, j, o, l, rfl, e1, e2, hlen, q⟩ := p
  cases r₁ with
  | ref hj =>
    rename_i a
    obtain ⟨us, hl, hr⟩ := w₁.items e1 e2 hj
    refine wpAny_pyIter_list hl ?_
    have k : ∀ b ob, h₁.get? b = some ob → (h₁.push { cls := .type "list_iterator", data := .fields #[.ref a, .int 0 0] }).get? b = some ob := fun b ob e => Heap.get?_push_of_some _ e
    refine ⟨l, _, h₁.objs.size, _, σ₁, ι₁, _, tk₁, rfl, rfl, A₁.trans (.of_keeps k), w₁.keeps k, itr_list (I := h₁.objs.size) (j := j) (a := a) hlen, ⟨⟨_, Heap.get?_push_size _ rfl, rfl, rfl⟩, hj⟩, ?_, ⟨o, e1, e2⟩, q⟩
    exact none_after w A₁ w₁ (Nat.le_refl _)

noncomputable def cnt (n : Nat) : List V := (List.range n).map fun (k : Nat) => V.int (k : Int)
theorem cnt_get {n k : Nat} (h : k < n) : (cnt n)[k]? = some (.int (k : Int)) := by simp [cnt, h]
theorem cnt_len (n : Nat) : (cnt n).length = n := by simp [cnt]

theorem itr_range {I : Addr} {n : Nat} : Itr c I (cnt n) (fun _ => True) (fun k ι h => IsRangeIter h I k (n - k) 1) where
  frame := fun k ι h ι' h' st p kp _ => kp _ st
  isrec := fun k ι h st => ⟨_, _, st, rfl, fun C q => nomatch q⟩
  item := fun S f ι ρ γ σ k s v Q E hv w src st n' => by
    have hk : k < n := by have := (List.getElem?_eq_some_iff.mp hv).1; rwa [cnt_len] at this
    rw [cnt_get hk] at hv; cases hv
    refine wpAny_pyNext_range_item st (by omega) fun h' hit hs => n' _ h' _ (.int _ _) ?_ hs.extBut
    have : ((n : Int) - k - 1) = (n : Int) - ((k + 1 : Nat) : Int) := by omega
    rw [this] at hit
    exact hit
  done := fun S f ι ρ γ σ s Q E w hq src st n' => by
    rw [cnt_len] at st
    exact wpAny_pyNext_range_end (w.quiet hq) st (by omega) fun h' ext => n' h' _ ext
  self := fun S f ι ρ γ σ s k Q E w st q => wpAny_pyIter_rangeiter st q

inductive KWR (Q : List V → (List O → Prop) → List O → Prop) (v : V) (σ' : List O) : Prop where
  | mk (n : Int) (e : v = .int n) (h1 : n < 2 ^ 62) (h2 : -(2 ^ 62) ≤ n) (q : Q (cnt n.toNat) (fun _ => True) σ')
theorem wiRange {e : Expr} {p pos : Pos} {Q : List V → (List O → Prop) → List O → Prop} (hk : S.kd "range" = some .globalImplicit) (hg : c.mg "range" = none) (hv : bootBuiltins "range" = some (.type "range"))
    (h : WE c S e ρ γ (KWR Q) X σ)
    (he : ∀ env, starEach [e] env = (false, eval e env) :: starEach [] env := by intro _; rfl) : WI c S (.Call (.Name "range" p) [e] [] pos) ρ γ Q X σ := fun f ι s w => by
  refine Call_ (Name_function_global w.kind ((w.kinds "range").trans hk) (loadGlobal_builtin (mg := c.mg) (mb := c.mb) (by rw [w.glob]; exact w.gr.g.keeps w.base) hg (by rw [w.blt]; exact w.gr.b.keeps w.base) ((w.gr.builtins "range" (by decide)).trans hv) ?_)) rfl
  refine callWith_type1 (args_cons (wpAny_mono (h f ι s w) (fun u s₁ p => args_nil ?_) fun _ _ p => p) (he _)) (he _) rfl
  obtain ⟨v, σ₁, ι₁, h₁, tk₁, rfl, A₁, w₁, r₁, i, rfl, hlo, hhi, q⟩ := p
  cases r₁ with
  | int _ t =>
    refine call_range_1 ?_
    refine wpAny_pyIter_range (IsRange.new h₁ 0 i 1 tk₁ t (tk₁ + 1)) (small_one (by decide) (by decide) hhi hlo) ?_
    have k : ∀ b ob, h₁.get? b = some ob → ((h₁.push { cls := .type "range", data := .fields #[.int 0 tk₁, .int i t, .int 1 (tk₁ + 1)] }).push { cls := .type "range_iterator", data := .fields #[rawInt 0, rawInt (Builtin.Range.rangeSize 0 i 1), rawInt 1] }).get? b = some ob :=
      fun b ob e => Heap.get?_push_of_some _ (Heap.get?_push_of_some _ e)
    refine ⟨cnt i.toNat, fun _ => True, (h₁.push { cls := .type "range", data := .fields #[.int 0 tk₁, .int i t, .int 1 (tk₁ + 1)] }).objs.size, _, σ₁, ι₁, _, tk₁ + 1 + 1, rfl, rfl, A₁.trans (.of_keeps k), w₁.keeps k, itr_range, ?_, ?_, trivial, q⟩
    · have e : (((i.toNat : Nat) : Int) - ((0 : Nat) : Int)) = Builtin.Range.rangeSize 0 i 1 := by rw [rangeSize_one]; split <;> omega
      rw [e]
      exact Heap.get?_push_size _ rfl
    · have hsz : h₁.objs.size ≤ (h₁.push { cls := .type "range", data := .fields #[.int 0 tk₁, .int i t, .int 1 (tk₁ + 1)] }).objs.size := by rw [Heap.size_push]; exact Nat.le_succ _
      exact none_after w A₁ w₁ hsz
end

theorem closure_aux {env : Env} : ∀ (names : List (Str × NameKind)) (acc : List (Str × Addr)), (∀ n, (n, NameKind.free) ∈ names → ∃ a, env.cells.lookup n = some a) → (∀ x a, acc.lookup x = some a → env.cells.lookup x = some a) →
    ∃ cl, (forIn names acc (fun x r => if (x.snd == NameKind.free) = true then do let a ← cellOf env x.fst; pure (ForInStep.yield ((x.fst, a) :: r)) else pure (ForInStep.yield r)) : Sem (List (Str × Addr))) = pure cl ∧
      (∀ x a, cl.lookup x = some a → env.cells.lookup x = some a) ∧ ∀ x, ((x, NameKind.free) ∈ names ∨ (acc.lookup x).isSome = true) → (cl.lookup x).isSome = true
  | [], acc, _, h2 => ⟨acc, by rw [List.forIn_nil], h2, fun x q => q.resolve_left (by simp)⟩
  | (n, k) :: r, acc, h1, h2 => by
    by_cases hk : (k == NameKind.free) = true
    · have hk' : k = .free := eq_of_beq hk
      subst hk'
      obtain ⟨a, ha⟩ := h1 n (.head _)
      obtain ⟨cl, e, p1, p2⟩ := closure_aux (env := env) r ((n, a) :: acc) (fun m hm => h1 m (.tail _ hm)) (fun x b q => by
        rw [List.lookup_cons] at q
        cases z : x == n with
        | true => rw [z] at q; cases q; rw [beq_iff_eq.mp z]; exact ha
        | false => rw [z] at q; exact h2 x b q)
      refine ⟨cl, ?_, p1, fun x q => p2 x ?_⟩
      · rw [List.forIn_cons]
        simp only [beq_self_eq_true, if_true, cellOf, ha]
        exact e
      · rcases q with q | q
        · rcases List.mem_cons.mp q with q | q
          · cases q; exact .inr (by rw [List.lookup_cons]; simp)
          · exact .inl q
        · refine .inr ?_
          rw [List.lookup_cons]
          cases z : x == n with
          | true => rfl
          | false => exact q
    · obtain ⟨cl, e, p1, p2⟩ := closure_aux (env := env) r acc (fun m hm => h1 m (.tail _ hm)) h2
      refine ⟨cl, ?_, p1, fun x q => p2 x ?_⟩
      · rw [List.forIn_cons]
        simp only [hk]
        exact e
      · rcases q with q | q
        · rcases List.mem_cons.mp q with q | q
          · cases q; exact absurd (by rfl) hk
          · exact .inl q
        · exact .inr q
theorem closure_is {scope : Scope} {env : Env} (h : ∀ n, (n, NameKind.free) ∈ scope.names → ∃ a, env.cells.lookup n = some a) :
    ∃ cl, closureFor scope env = pure cl ∧ (∀ x a, cl.lookup x = some a → env.cells.lookup x = some a) ∧ ∀ x, (x, NameKind.free) ∈ scope.names → (cl.lookup x).isSome = true := by
  obtain ⟨cl, e, p1, p2⟩ := closure_aux (env := env) scope.names [] h (fun x a q => by cases q)
  refine ⟨cl, ?_, p1, fun x q => p2 x (.inl q)⟩
  unfold closureFor
  dsimp only
  rw [e]
  rfl

def compNames (kd : Str → Option NameKind) (names : List (Str × NameKind)) : List (Str × NameKind) := names.map fun (n, k) => if (k == .free && kd n == some .cell) then (n, .cell) else (n, k)
abbrev Stt.comp (S : Stt) (scope : Scope) : Stt := { n := S.n, kd := fun x => (compNames S.kd scope.names).lookup x, q := S.q }
def compCells (γ : List (Str × V)) (scope : Scope) : List (Str × V) := γ.filter fun p => scope.names.contains (p.1, NameKind.free)
theorem filter_lookup {α : Type} {P : Str → Bool} {x : Str} {v : α} : ∀ {l : List (Str × α)}, (l.filter fun p => P p.1).lookup x = some v → l.lookup x = some v ∧ P x = true
  | [], e => by simp at e
  | (y, u) :: r, e => by
    rw [List.filter_cons] at e
    rw [List.lookup_cons]
    cases z : x == y with
    | true =>
      have hxy := beq_iff_eq.mp z
      subst hxy
      cases hp : P x with
      | true => simp only [hp, if_true, List.lookup_cons, beq_self_eq_true] at e; cases e; exact ⟨rfl, rfl⟩
      | false =>
        simp only [hp] at e
        have := (filter_lookup e).2
        rw [hp] at this; cases this
    | false =>
      cases hp : P y with
      | true => simp only [hp, if_true, List.lookup_cons, z] at e; exact filter_lookup e
      | false => simp only [hp] at e; exact filter_lookup e

section
variable {c : C0} {S : Stt} {f : Fm} {ι ι' : List Addr} {ρ γ : List (Str × V)} {σ σ' : List O} {h h' : Heap} {s : Shared}

structure Junk (c : C0) (f : Fm) (ι : List Addr) (b : Addr) : Prop where
  i : b ∉ ι
  l : b ≠ f.env.locals
  cl : ∀ x, f.env.cells.lookup x ≠ some b
  fr : b ∉ frs f
  b : c.base.get? b = none
theorem Sit.junkOf (w : Sit c S f ι ρ γ σ h) {b : Addr} (hb : h.get? b = none) (hi : b ∉ ι') : Junk c f ι' b := by
  refine ⟨hi, fun q => ?_, fun x q => ?_, fun q => ?_, ?_⟩
  · obtain ⟨o, e⟩ := w.lo_some (b := b) (.inl q); rw [hb] at e; cases e
  · obtain ⟨o, e⟩ := w.lo_some (b := b) (.inr ⟨x, q⟩); rw [hb] at e; cases e
  · obtain ⟨_, o, e, _⟩ := w.frames.mem q; rw [hb] at e; cases e
  · cases z : c.base.get? b with
    | none => rfl
    | some o => rw [w.base _ _ z] at hb; cases hb
theorem Sit.junk (w : Sit c S f ι ρ γ σ h) {J : Addr → Prop} (hJ : ∀ b, J b → Junk c f ι b) (M : MuX J h) (k : ∀ b o, ¬ J b → h.get? b = some o → h'.get? b = some o) : Sit c S f ι ρ γ σ h' := by
  have kp : Kp J h h' := fun b o e n => ⟨o, k b o n e, .refl o⟩
  have p : ∃ t, ι = ι ++ t := ⟨[], by simp⟩
  obtain ⟨m, hm, hrr⟩ := w.loc
  refine { w with base := fun b o e => k b o (fun q => by rw [(hJ b q).b] at e; cases e) (w.base b o e), frames := kp.frames w.frames fun env he L hL q => (hJ L q).fr (List.mem_filterMap.mpr ⟨env, he, hL⟩), fdict := fun env he L o' hL e' => ?_, loc := ⟨m, kp.ns (fun q => (hJ _ q).l rfl) hm, fun x v e => ?_⟩, cel := fun x v e => ?_, celx := fun x a e => ?_, sto := fun i o a e1 e2 => ?_ }
  · have hm' := List.mem_filterMap.mpr ⟨env, he, hL⟩
    obtain ⟨_, o, ho, hn⟩ := w.frames.mem hm'
    have := k L o (fun q => (hJ L q).fr hm') ho
    rw [e'] at this; cases this
    exact w.fdict env he L o' hL ho
  · obtain ⟨u, e1, e2⟩ := hrr x v e
    exact ⟨u, e1, e2.grow M p kp⟩
  · obtain ⟨a, u, e1, e2, e3⟩ := w.cel x v e
    exact ⟨a, u, e1, kp.cell (fun q => (hJ _ q).cl x e1) e2, e3.grow M p kp⟩
  · obtain ⟨n1, n2, n3, v₀, e2⟩ := w.celx x a e
    exact ⟨n1, n2, n3, v₀, kp.cell (fun q => (hJ _ q).cl x e) e2⟩
  · exact (w.sto i o a e1 e2).other M p kp fun ob z => k _ ob (fun q => (hJ _ q).i (List.mem_of_getElem? e2)) z
theorem Sit.adopt (w : Sit c S f ι ρ γ σ h) {a : Addr} {o : O} (j : Junk c f ι a) (x : OR c (ι ++ [a]) h o a) : Sit c S f (ι ++ [a]) ρ γ (σ ++ [o]) h := by
  have p : ∃ t, ι ++ [a] = ι ++ t := ⟨[a], rfl⟩
  have kp : Kp (fun _ => False) h h := .refl _ _
  have M : MuX (fun _ => False) h := fun _ _ q => q.elim
  have ni : ∀ b, b ∉ ι → b ≠ a → b ∉ ι ++ [a] := fun b n1 n2 q => (List.mem_append.mp q).elim n1 fun q => n2 (List.mem_singleton.mp q)
  obtain ⟨m, hm, hrr⟩ := w.loc
  refine { w with fnotin := fun env he L hL => ni L (w.fnotin env he L hL) fun q => j.fr (q ▸ List.mem_filterMap.mpr ⟨env, he, hL⟩), loc := ⟨m, hm, fun y v e => ?_⟩, locx := ⟨ni _ w.locx.1 fun q => j.l q.symm, w.locx.2⟩, cel := fun y v e => ?_, celx := fun y b e => ?_, len := by simp [w.len], nd := ?_, sto := fun i ob b e1 e2 => ?_ }
  · obtain ⟨u, e1, e2⟩ := hrr y v e
    exact ⟨u, e1, e2.grow M p kp⟩
  · obtain ⟨b, u, e1, e2, e3⟩ := w.cel y v e
    exact ⟨b, u, e1, e2, e3.grow M p kp⟩
  · obtain ⟨n1, n2, n3, e2⟩ := w.celx y b e
    exact ⟨ni b n1 fun q => j.cl y (q ▸ e), n2, n3, e2⟩
  · rw [List.nodup_append]
    exact ⟨w.nd, by simp, fun y hy z hz => by rw [List.mem_singleton.mp hz]; intro q; exact j.i (q ▸ hy)⟩
  · rcases get_snoc e1 with q1 | ⟨q1, rfl⟩
    · have hil : i < ι.length := by rw [w.len]; exact (List.getElem?_eq_some_iff.mp q1).1
      rw [List.getElem?_append_left hil] at e2
      exact (w.sto i ob b q1 e2).other M p kp fun o z => z
    · rw [q1, ← w.len, List.getElem?_append_right (Nat.le_refl _)] at e2
      simp at e2
      subst e2
      exact x
end

section
variable {c : C0} {S : Stt} {ρ γ : List (Str × V)} {σ : List O} {X : Addr → List O → Prop}

structure CompOk (S : Stt) (scope : Scope) : Prop where
  kind : scope.kind = .function
  names : ∀ y ∈ scope.names, y.2 = .local → scope.names.lookup y.1 = some .local
  nocell : ∀ y ∈ scope.names, y.2 ≠ .cell
  free : ∀ n, (n, NameKind.free) ∈ scope.names → S.kd n = some .cell

abbrev Fm.comp (f : Fm) (scope : Scope) (cl : List (Str × Addr)) (C : Addr) : Fm := { f with env := compEnvC scope cl C f.env }

inductive CL (c : C0) (S : Stt) (f : Fm) (γ : List (Str × V)) (pρ : V → List (Str × V)) (ι : List Addr) (s : Shared) (vs : List V) (Src : List O → Prop) (St : Nat → List Addr → Heap → Prop) (Inv : Nat → List V → List O → Prop) (D : Addr) (n : Nat) (s' : Shared) : Prop where
  | mk (k : Nat) (rs : List V) (us : List Value) (σ' : List O) (ι' : List Addr) (h' : Heap) (tk : Nat) (ρ' : List (Str × V)) (nn : Nat) (e : s' = { s with heap := h', toks := tk }) (en : n = vs.length + 1 - k) (hk : k ≤ vs.length) (hrs : rs.length = k) (A : Aft ι s.heap ι' h') (w : Sit c S f ι' ρ' γ σ' h') (hρ : ρ' = [] ∨ ∃ v', ρ' = pρ v') (st : St k ι' h') (src : Src σ')
    (hD : h'.get? D = some { cls := .type "list", data := .seq (List.toArray us) nn }) (vr : VRs ι' h' rs us) (hDι : D ∉ ι') (inv : Inv k rs σ')
theorem comp_core {target iter elt : Expr} {scope : Scope} {pos pos' : Pos} {f : Fm} {ι : List Addr} {s : Shared} {Q : List V → List O → Prop} {use : Option (Value → Sem Unit)} {Q' : Value → Shared → Prop} {E : Value → Shared → Prop}
    (pρ : V → List (Str × V)) (w : Sit c S f ι ρ γ σ s.heap) (hq : S.q = true) (ok : CompOk S scope)
    (hst : ∀ f ι ρ γ σ s v u (Qs : Unit → Shared → Prop) (E : Value → Shared → Prop), (ρ = [] ∨ ∃ v', ρ = pρ v') → Sit c (S.comp scope) f ι ρ γ σ s.heap → VR ι s.heap v u → (∀ h' tk, Sit c (S.comp scope) f ι (pρ v) γ σ h' → Heap.ExtBut f.env.locals s.heap h' → Qs () { s with heap := h', toks := tk }) → wpAny c.M f.A (assign target f.env u) Qs E s)
    (h : WI c S iter ρ γ (fun vs Src σ₀ => vs.length ≤ sizeLine ∧ ∃ Inv : Nat → List V → List O → Prop, Inv 0 [] σ₀ ∧
      (∀ k v rs σ, vs[k]? = some v → Src σ → Inv k rs σ → WE c (S.comp scope) elt (pρ v) (compCells γ scope) (fun y σ' => Src σ' ∧ Inv (k + 1) (rs ++ [y]) σ') (fun _ _ => False) σ) ∧
      (∀ rs σ, rs.length = vs.length → Src σ → Inv vs.length rs σ → Q rs σ)) X σ)
    (hE : ∀ e s', PX c S f ι ρ γ s X e s' → E e s')
    (fin : ∀ D C m rs us σ' ι' h' tk n, Aft ι s.heap ι' h' → Sit c S f ι' ρ γ σ' h' → h'.get? D = some { cls := .type "list", data := .seq (List.toArray us) n } → VRs ι' h' rs us → s.heap.get? D = none → D ∉ ι' → s.heap.get? C = none → C ∉ ι' → C ≠ D → h'.Ns C m → Q rs σ' →
      compPost c.M f.A E use Q' (.ref D) C (.ok .next) { s with heap := h', toks := tk })
    (hs : ∀ x, foldedSetIterable iter f.env x = pure x) (ht : ∀ it v, letOwnedTupleGo target it v = pure ()) :
    wpAny c.M f.A (comprehension (.ListComp elt [⟨target, iter, [], 0⟩] scope pos) scope f.env pos' (newList []) false (eval iter f.env) use) Q' E s := by
  obtain ⟨cl, hcl, hcl1, hcl2⟩ := closure_is (scope := scope) (env := f.env) fun n hn => w.celk n (ok.free n hn)
  refine wpAny_comprehension_free (cl := cl) rfl hs hcl ok.kind ok.names (wpAny_mono (h f ι s w) (fun x s₁ p => wpAny_mono p (fun it s₂ p => ?_) fun e s' p => hE e s' p) fun e s' p => hE e s' p)
  obtain ⟨vs, Src, I, St, σ₂, ι₂, h₂, tk₂, rfl, rfl, A₂, w₂, itr, st₂, hI, src₂, ⟨hsz, Inv, i0, turn, fi⟩⟩ := p
  refine wpAny_newObj_type ?_ (by size_fits)
  refine wpAny_newFunctionEnv ok.nocell (by intro y hy; simp at hy) (fun h₁ hns₁ hsb₁ => ?_) ok.kind
  dsimp only at hns₁ hsb₁ ⊢
  generalize hH2 : h₂.push { cls := .type "list", dict := none, data := .seq ([] : List Value).toArray } = H2 at hns₁ hsb₁ ⊢
  have hC : H2.objs.size = h₂.objs.size + 1 := by rw [← hH2, Heap.size_push]
  generalize hDn : h₂.objs.size = D at hC ⊢
  generalize hCn : H2.objs.size = C at hC hns₁ hsb₁ ⊢
  have hDC : C ≠ D := by rw [hC]; exact Nat.succ_ne_self _
  have old : ∀ b o, h₂.get? b = some o → h₁.get? b = some o := fun b o e => by
    have hlt := Heap.lt_size e
    rw [hDn] at hlt
    refine hsb₁.extBut b o ?_ (Heap.get?_push_of_some _ (hH2 ▸ Heap.get?_push_of_some _ e))
    rw [hC]; exact Nat.ne_of_lt (Nat.lt_succ_of_lt hlt)
  have hD₁ : h₁.get? D = some { cls := .type "list", dict := none, data := .seq ([] : List Value).toArray } := by
    refine hsb₁.extBut _ _ (Ne.symm hDC) (Heap.get?_push_of_some _ ?_)
    rw [← hH2, ← hDn]; exact Heap.get?_push_size _ rfl
  have hD₀ : s.heap.get? D = none := none_after w A₂ w₂ (by rw [hDn]; exact Nat.le_refl _)
  have hC₀ : s.heap.get? C = none := none_after w A₂ w₂ (by rw [hDn, hC]; exact Nat.le_succ _)
  have hDι : D ∉ ι₂ := fun q => by obtain ⟨o, e⟩ := w₂.io_some q; have := Heap.lt_size e; rw [hDn] at this; exact Nat.lt_irrefl _ this
  have hCι : C ∉ ι₂ := fun q => by obtain ⟨o, e⟩ := w₂.io_some q; have := Heap.lt_size e; rw [hDn] at this; rw [hC] at this; exact Nat.lt_irrefl _ (Nat.lt_trans (Nat.lt_succ_self _) this)
  have hDI : D ≠ I := fun q => by obtain ⟨o, _, e, _⟩ := itr.isrec _ _ _ st₂; have := Heap.lt_size e; rw [hDn, ← q] at this; exact Nat.lt_irrefl _ this
  have hCI : C ≠ I := fun q => by obtain ⟨o, _, e, _⟩ := itr.isrec _ _ _ st₂; have := Heap.lt_size e; rw [hDn, ← q, hC] at this; exact Nat.lt_irrefl _ (Nat.lt_trans (Nat.lt_succ_self _) this)
  have w₁ := w₂.keeps old
  have A₁ : Aft ι s.heap ι₂ h₁ := A₂.trans (.of_keeps old)
  have hIb : c.base.get? I = none := (w.junkOf (ι' := ι) hI (fun q => by obtain ⟨o, e⟩ := w.io_some q; rw [hI] at e; cases e)).b
  have hbase : ∀ b, s.heap.get? b = none → c.base.get? b = none := fun b hb => by
    cases z : c.base.get? b with
    | none => rfl
    | some o => rw [w.base _ _ z] at hb; cases hb
  -- the block's frame
  have wb : Sit c (S.comp scope) (f.comp scope cl C) ι₂ [] (compCells γ scope) σ₂ h₁ := {
    gr := w.gr, base := w₁.base, stack := w.stack, frames := w₁.frames, fnotin := w₁.fnotin, fdict := w₁.fdict, depth := w.depth, units := w.units, lvl := w.lvl, quiet := w.quiet
    kind := ok.kind
    kinds := fun y => by
      show (relabel scope f.env).names.lookup y = (compNames S.kd scope.names).lookup y
      unfold relabel compNames
      have hfun : (fun (p : Str × NameKind) => if (p.2 == .free && f.env.scope.kind == .function && f.env.kindOf p.1 == some .cell) = true then (p.1, NameKind.cell) else (p.1, p.2)) = fun p => if (p.2 == .free && S.kd p.1 == some .cell) = true then (p.1, .cell) else (p.1, p.2) := by
        funext p
        rw [w.kind, w.kinds]; simp
      exact congrArg (fun F => (scope.names.map F).lookup y) hfun
    glob := w.glob, blt := w.blt, frm := w.frm
    loc := ⟨_, hns₁, fun y v e => by cases e⟩
    locx := ⟨hCι, hbase C hC₀⟩
    cel := fun y v e => by
      obtain ⟨e1, e2⟩ := filter_lookup (P := fun y => scope.names.contains (y, NameKind.free)) e
      obtain ⟨a, u, z1, z2, z3⟩ := w₁.cel y v e1
      have hsome := hcl2 y (by simpa using e2)
      obtain ⟨b, hb⟩ := Option.isSome_iff_exists.mp hsome
      have := hcl1 y b hb
      rw [z1] at this; cases this
      exact ⟨a, u, hb, z2, z3⟩
    celx := fun y a e => by
      obtain ⟨n1, n2, n3, v₀, z⟩ := w₁.celx y a (hcl1 y a e)
      refine ⟨n1, fun q => ?_, n3, v₀, z⟩
      have q : a = C := q
      obtain ⟨_, _, _, _, o, ho, _⟩ := w.celx y a (hcl1 y a e)
      rw [q, hC₀] at ho; cases ho
    celk := fun y e => by
      have hm : (y, NameKind.free) ∈ scope.names := by
        have hm := mem_of_lookup e
        obtain ⟨p, hp, hpe⟩ := List.mem_map.mp hm
        by_cases hf : (p.2 == NameKind.free && S.kd p.1 == some .cell) = true
        · simp only [hf, if_true] at hpe
          cases hpe
          have : p.2 = .free := by simpa using (Bool.and_eq_true_iff.mp hf).1
          rw [← this]; exact hp
        · simp only [hf] at hpe
          have : p = (y, NameKind.cell) := hpe
          subst this
          exact absurd rfl (ok.nocell _ hp)
      exact Option.isSome_iff_exists.mp (hcl2 y hm)
    celd := fun y z a e1 e2 => w.celd y z a (hcl1 y a e1) (hcl1 z a e2)
    len := w₁.len, nd := w₁.nd, sto := w₁.sto }
  have st₁ : St 0 ι₂ h₁ := itr.frame _ _ _ _ _ st₂ ⟨[], by simp⟩ (fun o e => old _ o e) ⟨fun _ => False, fun _ _ q => q.elim, .of_keeps old⟩
  have loop : ∀ s₃ : Shared, s₃ = { s with heap := h₁, toks := tk₂ + ([] : List (Str × Value)).length } →
      codeAny c.M f.A (.compLoop (.ListComp elt [⟨target, iter, [], 0⟩] scope pos) 0 (.ref I) (.ref D) (compEnvC scope cl C f.env)) (compPost c.M f.A E use Q' (.ref D) C) s₃ := by
    rintro s₃ rfl
    refine codeAny_compLoop_list (CL c (S.comp scope) (f.comp scope cl C) (compCells γ scope) pρ ι s vs Src St Inv D) ?_ (vs.length + 1)
      ⟨0, [], [], σ₂, ι₂, h₁, _, [], 0, rfl, rfl, Nat.zero_le _, rfl, A₁, wb, .inl rfl, st₁, src₂, hD₁, .nil, hDι, i0⟩ (ht _)
    rintro n s' ⟨k, rs, us, σ', ι', h', tk, ρ', nn, rfl, rfl, hk, hrs, A', w', hρ', st', src', hD', vr', hDι', inv'⟩
    have hrec := itr.isrec _ _ _ st'
    have keepI : ∀ h₃, Heap.ExtBut I h' h₃ → Aft ι s.heap ι' h₃ := fun h₃ e => ⟨A'.1, A'.2.1, fun b o eb n => by
      obtain ⟨o', e', s'⟩ := A'.2.2 b o eb n
      exact ⟨o', e b o' (fun q => by rw [q, hI] at eb; cases eb) e', s'⟩⟩
    have MI : MuX (· = I) h' := fun a o qa ho => by
      obtain ⟨oI, fs, hoI, hdI, hcI⟩ := hrec
      subst qa; rw [hoI] at ho; cases ho
      exact ⟨fun _ its n z => (by rw [hdI] at z; cases z), fun vs z => hcI⟩
    by_cases hlt : k < vs.length
    · obtain ⟨v, hv⟩ : ∃ v, vs[k]? = some v := ⟨vs[k], List.getElem?_eq_getElem hlt⟩
      refine itr.item (S.comp scope) (f.comp scope cl C) ι' ρ' _ σ' k { s with heap := h', toks := tk } v _ _ hv w' src' st' fun u h₃ tk₃ vr st₃ ext => ?_
      have w₃ := w'.extI hrec hIb ext
      have A₃ := keepI h₃ ext
      have hD₃ : h₃.get? D = _ := ext D _ hDI hD'
      have vr₃ : VRs ι' h₃ rs us := vr'.grow MI ⟨[], by simp⟩ fun b o e n => ⟨o, ext b o n e, .refl _⟩
      refine hst (f.comp scope cl C) ι' ρ' _ σ' { s with heap := h₃, toks := tk₃ } v u _ _ hρ' w₃ vr fun h₄ tk₄ w₄ ext₄ => ?_
      have hC₃ : ∃ m, h₃.Ns C m := by obtain ⟨m, hm, _⟩ := w₃.loc; exact ⟨m, hm⟩
      have MC : MuX (· = C) h₃ := fun a o qa ho => by
        obtain ⟨m, o', es, ep, ho', hd', _⟩ := hC₃
        subst qa; rw [ho] at ho'; cases ho'
        exact ⟨fun _ its n z => (by rw [hd'] at z; cases z), fun vs z => by rw [hd'] at z; cases z⟩
      have ext₄' : Heap.ExtBut C h₃ h₄ := ext₄
      have A₄ : Aft ι s.heap ι' h₄ := ⟨A₃.1, A₃.2.1, fun b o eb n => by
        obtain ⟨o', e', s'⟩ := A₃.2.2 b o eb n
        exact ⟨o', ext₄' b o' (fun q => by rw [q, hC₀] at eb; cases eb) e', s'⟩⟩
      have hD₄ := ext₄' D _ (Ne.symm hDC) hD₃
      have vr₄ : VRs ι' h₄ rs us := vr₃.grow MC ⟨[], by simp⟩ fun b o e n => ⟨o, ext₄' b o n e, .refl _⟩
      have st₄ : St (k + 1) ι' h₄ := itr.frame _ _ _ _ _ st₃ ⟨[], by simp⟩ (fun o e => ext₄' _ o (Ne.symm hCI) e) ⟨_, MC, fun b o e n => ⟨o, ext₄' b o n e, .refl _⟩⟩
      refine wpAny_mono (turn k v rs σ' hv src' inv' (f.comp scope cl C) ι' { s with heap := h₄, toks := tk₄ } w₄) (fun y s₅ p => ?_) fun _ _ p => ?_
      · obtain ⟨yv, σ₅, ι₅, h₅, tk₅, rfl, A₅, w₅, r₅, src₅, inv₅⟩ := p
        have hD₅ : h₅.get? D = some { cls := .type "list", data := .seq (List.toArray us) nn } := by
          obtain ⟨o', e', s'⟩ := A₅.2.2 D _ hD₄ hDι'
          rw [s'.eq fun es n q => by cases q] at e'
          exact e'
        have hDι₅ : D ∉ ι₅ := fun q => (A₅.2.1 D q).elim hDι' fun z => by rw [hD₄] at z; cases z
        have vr₅ : VRs ι₅ h₅ rs us := vr₄.mono w₄.mu A₅
        have hsz' : us.toArray.size ≤ sizeLine := by rw [List.size_toArray, vr'.length, hrs]; exact Nat.le_trans hk hsz
        refine wpAny_list_append_plain (hl := ⟨nn, hD₅⟩) (fun h₆ hp₆ hs₆ => ?_) hsz'
        obtain ⟨n₆, hD₆⟩ := hp₆
        have jD : Junk c (f.comp scope cl C) ι₅ D := ⟨hDι₅, Ne.symm hDC, fun y q => (by
          obtain ⟨o, e⟩ := w.lo_some (b := D) (.inr ⟨y, hcl1 y D q⟩); rw [hD₀] at e; cases e), fun q => (by
          obtain ⟨_, o, e, _⟩ := w.frames.mem q; rw [hD₀] at e; cases e), hbase D hD₀⟩
        have MD : MuX (· = D) h₅ := fun a o qa ho => by
          subst qa; rw [hD₅] at ho; cases ho
          exact ⟨fun q => absurd q (by show Value.type _ ≠ Value.type _; decide), fun vs z => by cases z⟩
        have w₆ := w₅.junk (J := (· = D)) (fun b q => q ▸ jD) MD fun b o n e => hs₆.extBut b o n e
        have A₆ : Aft ι s.heap ι₅ h₆ := by
          have A₄₅ := A₄.trans A₅
          exact ⟨A₄₅.1, A₄₅.2.1, fun b o eb n => by
            obtain ⟨o', e', s'⟩ := A₄₅.2.2 b o eb n
            exact ⟨o', hs₆.extBut b o' (fun q => by rw [q, hD₀] at eb; cases eb) e', s'⟩⟩
        have kpD : Kp (· = D) h₅ h₆ := fun b o e n => ⟨o, hs₆.extBut b o n e, .refl _⟩
        have rec₄ := itr.isrec _ _ _ st₄
        have st₅ : St (k + 1) ι₅ h₅ := itr.frame _ _ _ _ _ st₄ A₅.1 (fun o e => by
          obtain ⟨o', e', s'⟩ := A₅.2.2 I o e (w₄.not_rec rec₄).1
          obtain ⟨oI, fs, hoI, hdI, hcI⟩ := rec₄
          rw [hoI] at e; cases e
          rw [s'.eq fun es n q => by rw [hdI] at q; cases q] at e'
          exact e') ⟨_, w₄.mu.x, A₅.2.2⟩
        have st₆ : St (k + 1) ι₅ h₆ := itr.frame _ _ _ _ _ st₅ ⟨[], by simp⟩ (fun o e => hs₆.extBut _ o (Ne.symm hDI) e) ⟨_, MD, kpD⟩
        refine ⟨vs.length + 1 - (k + 1), dec1 hlt, k + 1, rs ++ [yv], us ++ [y], σ₅, ι₅, h₆, tk₅, pρ v, n₆, rfl, rfl, hlt, by simp [hrs], A₆, w₆, .inr ⟨v, rfl⟩, st₆, src₅, by rw [hD₆]; simp, ?_, hDι₅, inv₅⟩
        exact (vr₅.append (.cons r₅ .nil)).grow MD ⟨[], by simp⟩ kpD
      · obtain ⟨_, _, _, _, _, _, _, _, _, _, _, _, z⟩ := p
        exact z.elim
    · have hke : k = vs.length := Nat.le_antisymm hk (Nat.le_of_not_lt hlt)
      subst hke
      refine itr.done (S.comp scope) (f.comp scope cl C) ι' ρ' _ σ' { s with heap := h', toks := tk } _ _ w' hq src' st' fun h₃ tk₃ ext => ?_
      have w₃ := w'.extI hrec hIb ext
      have A₃ := keepI h₃ ext
      have hD₃ : h₃.get? D = _ := ext D _ hDI hD'
      have vr₃ : VRs ι' h₃ rs us := vr'.grow MI ⟨[], by simp⟩ fun b o e n => ⟨o, ext b o n e, .refl _⟩
      obtain ⟨m, hm, _⟩ := w₃.loc
      have hCι' : C ∉ ι' := w₃.locx.1
      exact fin D C m rs us σ' ι' h₃ tk₃ nn A₃ (w.aft A₃ w₃.base A₃.2.1 w₃.len w₃.nd w₃.sto) hD₃ vr₃ hD₀ hDι' hC₀ hCι' hDC hm (fi rs σ' hrs src' inv')
  exact codeAny_compStart_list (loop _ rfl) (itr.self (S.comp scope) (f.comp scope cl C) ι₂ [] _ σ₂ { s with heap := h₁, toks := tk₂ + ([] : List (Str × Value)).length } 0 _ _ wb st₁ (loop _ rfl))
end

section
variable {c : C0} {S : Stt} {ρ γ : List (Str × V)} {σ : List O} {X : Addr → List O → Prop}

abbrev CompBody (c : C0) (S : Stt) (elt : Expr) (scope : Scope) (pρ : V → List (Str × V)) (γ : List (Str × V)) (Q : List V → List O → Prop) (vs : List V) (Src : List O → Prop) (σ₀ : List O) : Prop :=
  vs.length ≤ sizeLine ∧ ∃ Inv : Nat → List V → List O → Prop, Inv 0 [] σ₀ ∧
      (∀ k v rs σ, vs[k]? = some v → Src σ → Inv k rs σ → WE c (S.comp scope) elt (pρ v) (compCells γ scope) (fun y σ' => Src σ' ∧ Inv (k + 1) (rs ++ [y]) σ') (fun _ _ => False) σ) ∧
      (∀ rs σ, rs.length = vs.length → Src σ → Inv vs.length rs σ → Q rs σ)

theorem comp_name {x : Str} {px : Pos} {scope : Scope} (hx : (compNames S.kd scope.names).lookup x = some .local) (f : Fm) (ι : List Addr) (ρ γ : List (Str × V)) (σ : List O) (s : Shared) (v : V) (u : Value) (Qs : Unit → Shared → Prop) (E : Value → Shared → Prop)
    (hρ : ρ = [] ∨ ∃ v', ρ = [(x, v')]) (w : Sit c (S.comp scope) f ι ρ γ σ s.heap) (hv : VR ι s.heap v u)
    (n : ∀ h' tk, Sit c (S.comp scope) f ι [(x, v)] γ σ h' → Heap.ExtBut f.env.locals s.heap h' → Qs () { s with heap := h', toks := tk }) : wpAny c.M f.A (assign (.Name x px) f.env u) Qs E s := by
  obtain ⟨m, hm, hr⟩ := w.loc
  refine wpAny_assign_Name (wpAny_storeName_local ((w.kinds x).trans hx) hm (fun h' hn hs => ?_) (by rw [w.kind]; rfl))
  have hcx : ∀ y b, f.env.cells.lookup y = some b → ∃ v₀, h'.IsCell b v₀ := fun y b e => by
    obtain ⟨_, n2, _, v₀, o, ho, hd⟩ := w.celx y b e
    exact ⟨v₀, o, (hs.2 b n2).trans ho, hd⟩
  have step : Sit c (S.comp scope) f ι [(x, v)] γ σ h' ∧ AftX f ι s.heap ι h' := by
    refine w.own (ρ₁ := [(x, v)]) (γ₁ := γ) (a := f.env.locals) (.inl rfl) hs (fun A => ⟨_, hn, fun y z e => ?_⟩) (fun A y z e => ?_) hcx
    · rw [List.lookup_cons] at e
      cases q : y == x with
      | true =>
        rw [q] at e; cases e
        exact ⟨u, by rw [if_pos (beq_iff_eq.mp q)], hv.grow w.muX A.1 A.2.2⟩
      | false => rw [q] at e; cases e
    · obtain ⟨a, u', e1, ⟨o, ho, hd⟩, e3⟩ := w.cel y z e
      exact ⟨a, u', e1, ⟨o, (hs.2 a (w.celx y a e1).2.1).trans ho, hd⟩, e3.grow w.muX A.1 A.2.2⟩
  exact n h' _ step.1 hs.extBut

theorem comp_done {f : Fm} {ι ι' : List Addr} {s : Shared} {σ' : List O} {h' h'' : Heap} {tk n : Nat} {D C : Addr} {m : Str → Option Value} {rs : List V} {us : List Value} {Q : V → List O → Prop} (w : Sit c S f ι ρ γ σ s.heap)
    (A : Aft ι s.heap ι' h') (w' : Sit c S f ι' ρ γ σ' h') (hD : h'.get? D = some { cls := .type "list", data := .seq us.toArray n }) (r : VRs ι' h' rs us) (hD₀ : s.heap.get? D = none) (hDι : D ∉ ι') (hC₀ : s.heap.get? C = none) (hCι : C ∉ ι') (hCD : C ≠ D) (hm : h'.Ns C m)
    (hs : Heap.SameBut C h' h'') (q : Q (.ref σ'.length) (σ' ++ [.list rs])) : PR VR c S f ι ρ γ s Q (.ref D) { s with heap := h'', toks := tk } := by
  have jC := w.junkOf (ι' := ι') hC₀ hCι
  have jD := w.junkOf (ι' := ι') hD₀ hDι
  have MC : MuX (· = C) h' := fun a o qa ho => by
    obtain ⟨o', es, ep, ho', hd', _⟩ := hm
    subst qa; rw [ho] at ho'; cases ho'
    exact ⟨fun _ its n z => (by rw [hd'] at z; cases z), fun vs z => by rw [hd'] at z; cases z⟩
  have kC : ∀ b o, ¬ b = C → h'.get? b = some o → h''.get? b = some o := fun b o n e => hs.extBut b o n e
  have w₁ := w'.junk (J := (· = C)) (fun b q => q ▸ jC) MC kC
  have hD₁ : h''.get? D = _ := kC D _ (Ne.symm hCD) hD
  have r₁ : VRs ι' h'' rs us := r.grow MC ⟨[], by simp⟩ fun b o e n => ⟨o, kC b o n e, .refl _⟩
  have M0 : MuX (fun _ => False) h'' := fun _ _ q => q.elim
  have w₂ := w₁.adopt (o := .list rs) jD ⟨us, n, hD₁, r₁.grow M0 ⟨[D], rfl⟩ (.refl _ _), jD.b⟩
  refine ⟨.ref σ'.length, _, _, h'', tk, rfl, ⟨by obtain ⟨t, ht⟩ := A.1; exact ⟨t ++ [D], by rw [ht, List.append_assoc]⟩, fun b hb => ?_, fun b o e n => ?_⟩, w₂, .ref (by rw [← w'.len]; simp), q⟩
  · rcases List.mem_append.mp hb with hb | hb
    · exact A.2.1 b hb
    · rw [List.mem_singleton.mp hb]; exact .inr hD₀
  · obtain ⟨o', e', s'⟩ := A.2.2 b o e n
    exact ⟨o', kC b o' (fun z => by rw [z, hC₀] at e; cases e) e', s'⟩

theorem compG {target iter elt : Expr} {scope : Scope} {pos : Pos} {Q : V → List O → Prop} (pρ : V → List (Str × V)) (hq : S.q = true) (ok : CompOk S scope)
    (hst : ∀ f ι ρ γ σ s v u (Qs : Unit → Shared → Prop) (E : Value → Shared → Prop), (ρ = [] ∨ ∃ v', ρ = pρ v') → Sit c (S.comp scope) f ι ρ γ σ s.heap → VR ι s.heap v u → (∀ h' tk, Sit c (S.comp scope) f ι (pρ v) γ σ h' → Heap.ExtBut f.env.locals s.heap h' → Qs () { s with heap := h', toks := tk }) → wpAny c.M f.A (assign target f.env u) Qs E s)
    (h : WI c S iter ρ γ (CompBody c S elt scope pρ γ fun rs σ' => Q (.ref σ'.length) (σ' ++ [.list rs])) X σ)
    (hs : ∀ env x, foldedSetIterable iter env x = pure x) (ht : ∀ it v, letOwnedTupleGo target it v = pure ()) : WE c S (.ListComp elt [⟨target, iter, [], 0⟩] scope pos) ρ γ Q X σ := fun f ι s w => by
  show wpAny c.M f.A (eval (.ListComp elt [⟨target, iter, [], 0⟩] scope pos) f.env) _ _ s
  rw [eval_ListComp]
  refine comp_core (use := none) pρ w hq ok hst h (fun _ _ p => p) (fun D C m rs us σ' ι' h' tk n A w' hD r hD₀ hDι hC₀ hCι hCD hm q => ?_) (hs _) ht
  exact ⟨m, hm, fun h'' hs'' => comp_done w A w' hD r hD₀ hDι hC₀ hCι hCD hm hs'' q⟩
theorem compN {x : Str} {px : Pos} {iter elt : Expr} {scope : Scope} {pos : Pos} {Q : V → List O → Prop} (hq : S.q = true) (ok : CompOk S scope) (hx : (compNames S.kd scope.names).lookup x = some .local)
    (h : WI c S iter ρ γ (CompBody c S elt scope (fun v => [(x, v)]) γ fun rs σ' => Q (.ref σ'.length) (σ' ++ [.list rs])) X σ)
    (hs : ∀ env x, foldedSetIterable iter env x = pure x := by intro _ _; rfl) : WE c S (.ListComp elt [⟨.Name x px, iter, [], 0⟩] scope pos) ρ γ Q X σ :=
  compG _ hq ok (comp_name hx) h hs fun _ _ => rfl

theorem sAssCompG {target iter elt : Expr} {y : Str} {py spos : Pos} {scope : Scope} {pos : Pos} {Q : Fl → List (Str × V) → List (Str × V) → List O → Prop} (pρ : V → List (Str × V)) (hq : S.q = true) (ok : CompOk S scope) (hy : S.kd y = some .local)
    (hst : ∀ f ι ρ γ σ s v u (Qs : Unit → Shared → Prop) (E : Value → Shared → Prop), (ρ = [] ∨ ∃ v', ρ = pρ v') → Sit c (S.comp scope) f ι ρ γ σ s.heap → VR ι s.heap v u → (∀ h' tk, Sit c (S.comp scope) f ι (pρ v) γ σ h' → Heap.ExtBut f.env.locals s.heap h' → Qs () { s with heap := h', toks := tk }) → wpAny c.M f.A (assign target f.env u) Qs E s)
    (h : WI c S iter ρ γ (CompBody c S elt scope pρ γ fun rs σ' => Q .next (upd ρ y (.ref σ'.length)) γ (σ' ++ [.list rs])) X σ)
    (hsw : (py.line == pos.line && !(scope.names.any fun (n, k) => n == y && (k == .local || k == .cell))) = true)
    (hs : ∀ env x, foldedSetIterable iter env x = pure x) (ht : ∀ it v, letOwnedTupleGo target it v = pure ()) : WS c S (.Assign [.Name y py] (.ListComp elt [⟨target, iter, [], 0⟩] scope pos) spos) ρ γ Q X σ := fun f ι s w _ => by
  have hsw' : swapsWith (.ListComp elt [⟨target, iter, [], 0⟩] scope pos) (some (.Name y py)) spos.line f.env = pure true := by
    have hb : f.env.blockKind = .function := by unfold Env.blockKind; rw [w.kind]; rfl
    have : swapsWith (.ListComp elt [⟨target, iter, [], 0⟩] scope pos) (some (.Name y py)) spos.line f.env = pure (f.env.blockKind == .function && f.env.kindOf y == some .local && py.line == pos.line && !(scope.names.any fun (n, k) => n == y && (k == .local || k == .cell))) := rfl
    rw [this, hb, w.kinds, hy]
    simp only [Bool.and_eq_true] at hsw
    rw [hsw.1, hsw.2]; rfl
  show wpAny c.M f.A (exec (.Assign [.Name y py] (.ListComp elt [⟨target, iter, [], 0⟩] scope pos) spos) f.env) _ _ s
  rw [exec_Assign_Name_used _ _ _ _ hsw']
  refine wpAny_bind (wpAny_standAt (wpAny_bind ?_))
  show wpAny c.M f.A (do let _ ← comprehension (.ListComp elt [⟨target, iter, [], 0⟩] scope pos) scope f.env _ (newList []) false (eval iter f.env) (some (assign (.Name y py) f.env))) _ _ s
  refine wpAny_bind (wpAny_mono (comp_core (use := some (assign (.Name y py) f.env)) (Q' := fun _ s' => PS c S f ι s Q .next s') (E := PXS c S f ι s X) pρ w hq ok hst h (fun _ _ p => p.st) (fun D C m rs us σ' ι' h' tk n A w' hD r hD₀ hDι hC₀ hCι hCD hm q => ?_) (hs _) ht) (fun _ s' hq => wpAny_pure (wpAny_pure hq)) fun _ _ e => e)
  have jC := w.junkOf (ι' := ι') hC₀ hCι
  have jD := w.junkOf (ι' := ι') hD₀ hDι
  have M0 : MuX (fun _ => False) h' := fun _ _ q => q.elim
  have w₂ := w'.adopt (o := .list rs) jD ⟨us, n, hD, r.grow M0 ⟨[D], rfl⟩ (.refl _ _), jD.b⟩
  have A₂ : Aft ι s.heap (ι' ++ [D]) h' := ⟨by obtain ⟨t, ht⟩ := A.1; exact ⟨t ++ [D], by rw [ht, List.append_assoc]⟩, fun b hb => by
    rcases List.mem_append.mp hb with hb | hb
    · exact A.2.1 b hb
    · rw [List.mem_singleton.mp hb]; exact .inr hD₀, A.2.2⟩
  have hCι₂ : C ∉ ι' ++ [D] := fun q => (List.mem_append.mp q).elim hCι fun q => hCD (List.mem_singleton.mp q)
  have jC₂ := w.junkOf (ι' := ι' ++ [D]) hC₀ hCι₂
  show wpAny c.M f.A (assign (.Name y py) f.env (.ref D)) _ _ _
  refine wpAny_assign_Name (store_L (v := .ref σ'.length) w₂ hy (.ref (by rw [← w'.len]; simp)) fun h₃ w₃ A₃ => ?_)
  have hm₃ : h₃.Ns C m := A₃.2.2.ns (fun q => q.elim hCι₂ fun q => q.elim jC.l fun ⟨x, e⟩ => jC.cl x e) hm
  refine ⟨m, hm₃, fun h₄ hs₄ => ?_⟩
  have MC : MuX (· = C) h₃ := fun a o qa ho => by
    obtain ⟨o', es, ep, ho', hd', _⟩ := hm₃
    subst qa; rw [ho] at ho'; cases ho'
    exact ⟨fun _ its n z => (by rw [hd'] at z; cases z), fun vs z => by rw [hd'] at z; cases z⟩
  have w₄ := w₃.junk (J := (· = C)) (fun b q => q ▸ jC₂) MC fun b o n e => hs₄.extBut b o n e
  have A₃' := (A₂.x f).then w₂ A₃
  exact ⟨.next, _, γ, _, _, h₄, _, rfl, ⟨A₃'.1, A₃'.2.1, fun b o e n => by
    obtain ⟨o', e', s'⟩ := A₃'.2.2 b o e n
    exact ⟨o', hs₄.extBut b o' (fun z => by rw [z, hC₀] at e; cases e) e', s'⟩⟩, w₄, .next, q⟩
theorem sAssCompN {x : Str} {px : Pos} {iter elt : Expr} {y : Str} {py spos : Pos} {scope : Scope} {pos : Pos} {Q : Fl → List (Str × V) → List (Str × V) → List O → Prop} (hq : S.q = true) (ok : CompOk S scope) (hy : S.kd y = some .local) (hx : (compNames S.kd scope.names).lookup x = some .local)
    (hsw : (py.line == pos.line && !(scope.names.any fun (n, k) => n == y && (k == .local || k == .cell))) = true)
    (h : WI c S iter ρ γ (CompBody c S elt scope (fun v => [(x, v)]) γ fun rs σ' => Q .next (upd ρ y (.ref σ'.length)) γ (σ' ++ [.list rs])) X σ)
    (hs : ∀ env x, foldedSetIterable iter env x = pure x := by intro _ _; rfl) : WS c S (.Assign [.Name y py] (.ListComp elt [⟨.Name x px, iter, [], 0⟩] scope pos) spos) ρ γ Q X σ :=
  sAssCompG _ hq ok hy (comp_name hx) h hsw hs fun _ _ => rfl
end

mutual
inductive Rd (σ : List O) : V → PyData → Prop where
  | none : Rd σ .none .none
  | bool (b : Bool) : Rd σ (.bool b) (.bool b)
  | int (i : Int) : Rd σ (.int i) (.int i)
  | str (s : Str) : Rd σ (.str s) (.str s)
  | tup {l : List V} {ds : List PyData} : Rds σ l ds → Rd σ (.tup l) (.tuple ds)
  | ref {i : Nat} {o : O} {l : List V} {ds : List PyData} : σ[i]? = some o → o.items? = some l → Rds σ l ds → Rd σ (.ref i) (.list ds)
inductive Rds (σ : List O) : List V → List PyData → Prop where
  | nil : Rds σ [] []
  | cons {v : V} {d : PyData} {l : List V} {ds : List PyData} : Rd σ v d → Rds σ l ds → Rds σ (v :: l) (d :: ds)
end

section
variable {c : C0} {S : Stt} {f : Fm} {ι : List Addr} {ρ γ : List (Str × V)} {σ : List O} {h : Heap}
theorem Rd.reads (w : Sit c S f ι ρ γ σ h) {v : V} {d : PyData} {u : Value} (x : Rd σ v d) (y : VR ι h v u) : ∃ as, Reads h u d as := by
  refine Rd.rec (motive_1 := fun v d _ => ∀ u, VR ι h v u → ∃ as, Reads h u d as) (motive_2 := fun l ds _ => ∀ us, VRs ι h l us → ∃ as, ReadsAll h us ds as) ?_ ?_ ?_ ?_ ?_ ?_ ?_ ?_ x u y
  · intro u y; cases y; exact ⟨_, .none⟩
  · intro b u y; cases y; exact ⟨_, .bool b⟩
  · intro i u y; cases y; exact ⟨_, .int i _⟩
  · intro z u y; cases y; exact ⟨_, .str z _⟩
  · intro l ds x ih u y
    cases y with
    | tup t y =>
      obtain ⟨as, r⟩ := ih _ y
      obtain ⟨o, ho, hc, n, hd⟩ := t
      exact ⟨as, .tuple ho hc hd (by simpa using r)⟩
  · intro i o l ds e1 e2 x ih u y
    cases y with
    | ref e3 =>
      obtain ⟨us, ⟨o, ho, hc, n, hd⟩, r⟩ := w.items e1 e2 e3
      obtain ⟨as, r'⟩ := ih _ r
      exact ⟨_, .list ho hc hd (by simpa using r')⟩
  · intro us y; cases y; exact ⟨_, .nil⟩
  · intro v d l ds x z ih1 ih2 us y
    cases y with
    | cons r q =>
      obtain ⟨as, e1⟩ := ih1 _ r
      obtain ⟨bs, e2⟩ := ih2 _ q
      exact ⟨_, .cons e1 e2⟩
end

section
variable {c : C0} {S : Stt} {ρ γ : List (Str × V)} {σ : List O} {Q : V → List O → Prop} {QB : Bool → List O → Prop} {X : Addr → List O → Prop}

theorem room64 {f : Fm} {ι : List Addr} {h : Heap} (w : Sit c S f ι ρ γ σ h) : f.A.units + 64 < cLine := by
  have := w.units; have := w.lvl; unfold cLine; omega
theorem eq_rd {a b : V} {da db : PyData} (ha : Rd σ a da) (hb : Rd σ b db) (sa : SeqAt.shaped da = true) (sb : SeqAt.shaped db = true) (q : Q (.bool (PyData.eqv da db)) σ) : W2 VR c S (compareOp .Eq) a b ρ γ Q X σ := fun f ι s u v w hu hv => by
  obtain ⟨as, ra⟩ := ha.reads w hu
  obtain ⟨bs, rb⟩ := hb.reads w hv
  exact SeqAt.compareEq_shaped ra rb sa sb (room64 w) (.now w (.bool _) q)
theorem ne_rd {a b : V} {da db : PyData} (ha : Rd σ a da) (hb : Rd σ b db) (sa : SeqAt.shaped da = true) (sb : SeqAt.shaped db = true) (q : Q (.bool (!PyData.eqv da db)) σ) : W2 VR c S (compareOp .NotEq) a b ρ γ Q X σ := fun f ι s u v w hu hv => by
  obtain ⟨as, ra⟩ := ha.reads w hu
  obtain ⟨bs, rb⟩ := hb.reads w hv
  exact SeqAt.compareNe_shaped ra rb sa sb (room64 w) (.now w (.bool _) q)

theorem len_ref {i : Nat} {o : O} {l : List V} (h1 : σ[i]? = some o) (h2 : o.items? = some l) (hz : (l.length : Int) < 2 ^ 63) (q : Q (.int l.length) σ) : WL VR c S (fun us => call (.builtin "len") us) [.ref i] ρ γ Q X σ := fun f ι s us w hr => by
  cases hr with
  | cons r rs =>
    cases rs
    cases r with
    | ref hi =>
      obtain ⟨us, hl, hv⟩ := w.items h1 h2 hi
      have e : us.toArray.size = l.length := by rw [List.size_toArray, hv.length]
      exact len_list hl (by rw [e]; exact hz) (by rw [e]; exact .tok w (.int _ _) q)
theorem len_tup {l : List V} (hz : (l.length : Int) < 2 ^ 63) (q : Q (.int l.length) σ) : WL VR c S (fun us => call (.builtin "len") us) [.tup l] ρ γ Q X σ := fun f ι s us w hr => by
  cases hr with
  | cons r rs =>
    cases rs
    cases r with
    | tup ht hv =>
      rename_i vs
      have e : vs.toArray.size = l.length := by rw [List.size_toArray, hv.length]
      exact len_tuple ht (by rw [e]; exact hz) (by rw [e]; exact .tok w (.int _ _) q)

theorem list_ref {i : Nat} {o : O} {l : List V} (h1 : σ[i]? = some o) (h2 : o.items? = some l) (hz : l.length ≤ sizeLine) (q : Q (.ref σ.length) (σ ++ [.list l])) : WL VR c S (fun us => call (.type "list") us) [.ref i] ρ γ Q X σ := fun f ι s us w hr => by
  cases hr with
  | cons r rs =>
    cases rs
    cases r with
    | ref hi =>
      obtain ⟨us, ⟨ob, ho, hc, n, hd⟩, hv⟩ := w.items h1 h2 hi
      exact call_list_seq _ (.inl rfl) ho hc hd (fun h' c' k hl => PR.newList w k none_above hl hv q) (by rw [List.size_toArray, hv.length]; exact hz)
theorem list_tup {l : List V} (hz : l.length ≤ sizeLine) (q : Q (.ref σ.length) (σ ++ [.list l])) : WL VR c S (fun us => call (.type "list") us) [.tup l] ρ γ Q X σ := fun f ι s us w hr => by
  cases hr with
  | cons r rs =>
    cases rs
    cases r with
    | tup ht hv =>
      obtain ⟨ob, ho, hc, n, hd⟩ := ht
      exact call_list_seq _ (.inr rfl) ho hc hd (fun h' c' k hl => PR.newList w k none_above hl hv q) (by rw [List.size_toArray, hv.length]; exact hz)

inductive Ty where
  | int | bool | list | tuple | str
noncomputable def Ty.nm : Ty → String
  | .int => "int" | .bool => "bool" | .list => "list" | .tuple => "tuple" | .str => "str"
abbrev isT : V → Ty → Bool
  | .int _, .int => true
  | .bool _, .int => true
  | .bool _, .bool => true
  | .str _, .str => true
  | .tup _, .tuple => true
  | .ref _, .list => true
  | _, _ => false
def plainV (σ : List O) : V → Prop
  | .ref i => ∃ o l, σ[i]? = some o ∧ o.items? = some l
  | .exc _ => False
  | _ => True

theorem isi_ty {v : V} {T : Ty} (hp : plainV σ v) (q : Q (.bool (isT v T)) σ) : W1 VR c S (fun u => call (.builtin "isinstance") [u, .type T.nm]) v ρ γ Q X σ := fun f ι s u w hu => by
  have q1 : ∀ tk, PR VR c S f ι ρ γ s Q (.bool (isT v T)) { s with toks := tk } := fun tk => .tok w (.bool _) q
  have q0 : PR VR c S f ι ρ γ s Q (.bool (isT v T)) s := .now w (.bool _) q
  cases hu with
  | none => cases T <;> first | exact IsiPair.NoneType_int (q1 _) | exact IsiPair.NoneType_bool (q1 _) | exact IsiPair.NoneType_list (q1 _) | exact IsiPair.NoneType_tuple (q1 _) | exact IsiPair.NoneType_str (q1 _)
  | bool b => cases T <;> first | exact IsiPair.bool_int q0 | exact IsiPair.bool_bool q0 | exact IsiPair.bool_list (q1 _) | exact IsiPair.bool_tuple (q1 _) | exact IsiPair.bool_str (q1 _)
  | int i t => cases T <;> first | exact IsiPair.int_int q0 | exact IsiPair.int_bool (q1 _) | exact IsiPair.int_list (q1 _) | exact IsiPair.int_tuple (q1 _) | exact IsiPair.int_str (q1 _)
  | str x t => cases T <;> first | exact IsiPair.str_int (q1 _) | exact IsiPair.str_bool (q1 _) | exact IsiPair.str_list (q1 _) | exact IsiPair.str_tuple (q1 _) | exact IsiPair.str_str q0
  | ref hi =>
    obtain ⟨o, l, e1, e2⟩ := hp
    obtain ⟨us, ⟨ob, ho, hc, n, hd⟩, hv⟩ := w.items e1 e2 hi
    cases T <;> first | exact IsiPair.list_int ho hc (q1 _) | exact IsiPair.list_bool ho hc (q1 _) | exact IsiPair.list_list ho hc q0 | exact IsiPair.list_tuple ho hc (q1 _) | exact IsiPair.list_str ho hc (q1 _)
  | tup ht hv =>
    obtain ⟨ob, ho, hc, n, hd⟩ := ht
    cases T <;> first | exact IsiPair.tuple_int ho hc (q1 _) | exact IsiPair.tuple_bool ho hc (q1 _) | exact IsiPair.tuple_list ho hc (q1 _) | exact IsiPair.tuple_tuple ho hc q0 | exact IsiPair.tuple_str ho hc (q1 _)
  | exc e cl d => exact hp.elim

theorem callIsi {e : Expr} {t : Str} {T : String} {p p2 pos : Pos} (hk : S.kd "isinstance" = some .globalImplicit) (hg : c.mg "isinstance" = none) (hkt : S.kd t = some .globalImplicit) (hgt : c.mg t = none) (hvt : bootBuiltins t = some (.type T)) (hn : t ≠ "__name__")
    (h : WE c S e ρ γ (KU c S (fun u => call (.builtin "isinstance") [u, .type T]) ρ γ Q X) X σ) (hb : (t == ("__debug__" : Str)) = false := by decide)
    (he : ∀ env, starEach [e, .Name t p2] env = (false, eval e env) :: starEach [.Name t p2] env := by intro _; rfl) (hpl : ∀ env, (backTo pos (starEach [.Name t p2] env)).any (·.1) = false := by intro _; rfl) :
    WE c S (.Call (.Name "isinstance" p) [e, .Name t p2] [] pos) ρ γ Q X σ := fun f ι s w => by
  refine Call_ (Name_function_global w.kind ((w.kinds "isinstance").trans hk) (loadGlobal_builtin (mg := c.mg) (mb := c.mb) (by rw [w.glob]; exact w.gr.g.keeps w.base) hg (by rw [w.blt]; exact w.gr.b.keeps w.base) ((w.gr.builtins "isinstance" (by decide)).trans Boot.«isinstance») ?_)) rfl
  refine callWith_builtin1 (args_cons (wpAny_mono (h f ι s w) (fun u s₁ p => ?_) fun _ _ p => p) (he _)) (he _) (hpl _)
  obtain ⟨v, σ₁, ι₁, h₁, tk₁, rfl, A₁, w₁, r₁, q⟩ := p
  refine args_cons (Name_function_global w.kind ((w.kinds t).trans hkt) (loadGlobal_builtin (mg := c.mg) (mb := c.mb) (by rw [w.glob]; exact w.gr.g.keeps w₁.base) hgt (by rw [w.blt]; exact w.gr.b.keeps w₁.base) ((w.gr.builtins t hn).trans hvt) (args_nil ?_)) hb)
  exact lift1 A₁ (q f ι₁ _ u w₁ r₁)
theorem callIsiG {e : Expr} {t : Str} {C : Addr} {p p2 pos : Pos} (hk : S.kd "isinstance" = some .globalImplicit) (hg : c.mg "isinstance" = none) (hkt : S.kd t = some .globalImplicit) (hgt : c.mg t = some (.ref C))
    (h : WE c S e ρ γ (KU c S (fun u => call (.builtin "isinstance") [u, .ref C]) ρ γ Q X) X σ) (hb : (t == ("__debug__" : Str)) = false := by decide)
    (he : ∀ env, starEach [e, .Name t p2] env = (false, eval e env) :: starEach [.Name t p2] env := by intro _; rfl) (hpl : ∀ env, (backTo pos (starEach [.Name t p2] env)).any (·.1) = false := by intro _; rfl) :
    WE c S (.Call (.Name "isinstance" p) [e, .Name t p2] [] pos) ρ γ Q X σ := fun f ι s w => by
  refine Call_ (Name_function_global w.kind ((w.kinds "isinstance").trans hk) (loadGlobal_builtin (mg := c.mg) (mb := c.mb) (by rw [w.glob]; exact w.gr.g.keeps w.base) hg (by rw [w.blt]; exact w.gr.b.keeps w.base) ((w.gr.builtins "isinstance" (by decide)).trans Boot.«isinstance») ?_)) rfl
  refine callWith_builtin1 (args_cons (wpAny_mono (h f ι s w) (fun u s₁ p => ?_) fun _ _ p => p) (he _)) (he _) (hpl _)
  obtain ⟨v, σ₁, ι₁, h₁, tk₁, rfl, A₁, w₁, r₁, q⟩ := p
  refine args_cons (Name_function_global w.kind ((w.kinds t).trans hkt) (loadGlobal_global (mg := c.mg) (by rw [w.glob]; exact w.gr.g.keeps w₁.base) hgt (args_nil ?_)) hb)
  exact lift1 A₁ (q f ι₁ _ u w₁ r₁)
end

abbrev bmV : List Value := [.type "ValueError", .type "Exception", .type "BaseException", .type "object"]
abbrev ExcAt (c : C0) (x : Str) (C : Addr) : Prop := OwnCls x C bmV "ValueError.__new__" c.mg c.base

section
variable {c : C0} {S : Stt} {f : Fm} {ι ι' : List Addr} {ρ γ ρ' γ' : List (Str × V)} {σ σ' : List O} {h h' hb : Heap} {s : Shared}

theorem Sit.weaken (w : Sit c S f ι ρ γ σ h) (h1 : ∀ x v, ρ'.lookup x = some v → ρ.lookup x = some v) (h2 : ∀ x v, γ'.lookup x = some v → γ.lookup x = some v) : Sit c S f ι ρ' γ' σ h := by
  obtain ⟨m, hm, hr⟩ := w.loc
  exact { w with loc := ⟨m, hm, fun x v e => hr x v (h1 x v e)⟩, cel := fun x v e => w.cel x v (h2 x v e) }

theorem Sit.slots (w : Sit c S f ι ρ γ σ hb) (k1 : ∀ b o, hb.get? b = some o → b ∉ frs f → h.get? b = some o) (k2 : ∀ b o, hb.get? b = some o → b ∈ frs f → ∃ sl, h.get? b = some { o with slots := sl }) : Sit c S f ι ρ γ σ h ∧ Aft ι hb ι h := by
  have kp : Kp (fun _ => False) hb h := fun b o e _ => by
    by_cases hm : b ∈ frs f
    · obtain ⟨sl, e'⟩ := k2 b o e hm
      obtain ⟨env, he, hL⟩ := List.mem_filterMap.mp hm
      exact ⟨_, e', .inr ⟨w.fdict env he b o hL e, sl, rfl⟩⟩
    · exact ⟨o, k1 b o e hm, .refl o⟩
  have A : Aft ι hb ι h := ⟨⟨[], by simp⟩, fun _ q => .inl q, kp.mono fun _ _ _ q => q.elim⟩
  refine ⟨w.aft A (fun b o e => k1 b o (w.base b o e) fun hm => ?_) (fun _ q => .inl q) w.len w.nd fun i o a e1 e2 => ?_, A⟩
  · rw [(w.frames.mem hm).1] at e; cases e
  · refine (w.sto i o a e1 e2).other (X := fun _ => False) (fun _ _ q => q.elim) A.1 kp fun ob z => k1 a ob z fun hm => ?_
    obtain ⟨env, he, hL⟩ := List.mem_filterMap.mp hm
    exact w.fnotin env he a hL (List.mem_of_getElem? e2)

theorem Sit.toA {A' : Around} {q : Bool} (w : Sit c S f ι ρ γ σ h) (e : A'.frames = f.A.frames) (hd : A'.depth ≤ 310 + 4 * S.n) (hu : A'.units ≤ 50 + 20 * S.n) (hq : q = true → A'.handled = none) : Sit c { S with q := q } { f with A := A' } ι ρ γ σ h :=
  { w with stack := e.trans w.stack, depth := hd, units := hu, quiet := hq }
theorem Sit.ofA {A' : Around} {q : Bool} {ι₀ : List Addr} {ρ₀ γ₀ : List (Str × V)} {σ₀ : List O} {h₀ : Heap} (w : Sit c { S with q := q } { f with A := A' } ι ρ γ σ h) (w₀ : Sit c S f ι₀ ρ₀ γ₀ σ₀ h₀) : Sit c S f ι ρ γ σ h :=
  { w with stack := w₀.stack, depth := w₀.depth, units := w₀.units, quiet := w₀.quiet }
theorem note_air {ea C : Addr} {tk : Nat} {A : Around} {Q : Unit → Shared → Prop} {E : Value → Shared → Prop} (w : Sit c S f ι ρ γ σ hb) (hA : A.frames = some (f.fe :: f.outer)) (air : Air c f ea C hb h')
    (k : ∀ h₃ B a0 L, f.fe.frame = some L → Heap.HeldW B (f.fe :: f.outer) ea (.ref C) a0 L h₃ → (∀ b o, hb.get? b = some o → b ∉ frs f → B.get? b = some o) → (∀ b o, hb.get? b = some o → b ∈ frs f → ∃ sl, h₃.get? b = some { o with slots := sl }) → Q () { s with heap := h₃, toks := tk }) :
    wpAny c.M A (noteFrame (.ref ea) f.fe) Q E { s with heap := h', toks := tk } := by
  obtain ⟨_, ⟨L, oL, hfe, hnL, hoL, hdL⟩, _⟩ := w.frames
  have nof : ∀ b o, hb.get? b = some o → b ∈ frs f → ∀ vs, o.data ≠ .fields vs := fun b o e hm => by
    obtain ⟨_, o', ho', hd'⟩ := w.frames.mem hm
    rw [e] at ho'; cases ho'; exact hd'
  rcases air with ⟨args, hx⟩ | ⟨B, a0, hB, hcov, hfl, hsl⟩
  · obtain ⟨t, he, htn, ht⟩ := hx.there
    have hff := W.funFrames_hide w.frames (as := frs f) fun env hE b hb' => List.mem_filterMap.mpr ⟨env, hE, hb'⟩
    have hff' : h'.FunFrames (W.hideAll hb (frs f)) (f.fe :: f.outer) := hff.of_keeps fun b o e _ => ⟨o, hx.keeps b o e, rfl⟩
    have fresh : ∀ b, hb.get? b = none → (W.hideAll hb (frs f)).get? b = none := fun b z => by
      cases q : (W.hideAll hb (frs f)).get? b with
      | none => rfl
      | some o => rw [W.of_hideAll _ q] at z; cases z
    have main : wpAny c.M A (do let a ← frameOf f.fe; let pl ← entryPlaceOf L false; let b ← EntryCells.newEntry .none a .none (rawInt L) .none pl; setField (.ref ea) 1 b) Q E { s with heap := h', toks := tk } := by
      refine wpAny_entryW (base := W.hideAll hb (frs f)) (a0 := .ref t) (s := { s with heap := h', toks := tk }) hA hff' hfe he (fun b o e => hx.keeps b o (W.of_hideAll _ e)) (fresh ea hx.new) rfl (by show 1 < 6; decide) rfl fun h₃ hN => ?_
      obtain ⟨k1, k2, k3, k4⟩ := hN
      refine k h₃ _ _ L hfe ⟨k1, fresh ea hx.new, k2, k3⟩ (fun b o e n => W.hideAll_get _ e n) fun b o e hm => ?_
      exact k4 b o (hx.keeps b o e) (nof b o e hm)
    unfold noteFrame
    simp only [hfe]
    refine wpAny_bind (wpAny_field he rfl (x := .none) rfl ?_)
    exact main
  · refine wpAny_looks_onW hA hfe hfl fun h₃ held up => ?_
    refine k h₃ B a0 L hfe held hcov fun b o e hm => ?_
    obtain ⟨sl, e1⟩ := hsl b o e hm
    obtain ⟨sl', e2⟩ := up b _ e1 (nof b o e hm)
    exact ⟨sl', e2⟩
end

section
variable {c : C0} {S : Stt} {ρ γ : List (Str × V)} {σ : List O} {Q : Fl → List (Str × V) → List (Str × V) → List O → Prop} {X : Addr → List O → Prop}

theorem sRaise {x : Str} {np cpos pos : Pos} {e : Expr} {C : Addr} (O : ExcAt c x C) (hq : S.q = true) (hk : S.kd x = some .globalImplicit) (h : WE c S e ρ γ (fun _ σ' => X C σ') X σ)
    (he : ∀ env, starEach [e] env = (false, eval e env) :: starEach [] env := by intro _; rfl) (hb : (x == ("__debug__" : Str)) = false := by decide) : WS c S (.Raise (some (.Call (.Name x np) [e] [] cpos)) none pos) ρ γ Q X σ := fun f ι s w _ => by
  obtain ⟨tl, N, nm, q, bs, hdct, sn, sub, ab, col, dd, k0, k1, k2, k3, k5, mN, hC, hN, hni, T⟩ := O.obj
  refine wpAny_Raise_call_subT (C := C) (nm := nm) (q := q) (N := N) (bs := bs) (bm := tl) (hdct := hdct) (sn := sn) (sub := sub) (ab := ab) (col := col) (dd := dd) (k0 := k0) (k1 := k1) (k2 := k2) (k3 := k3) (k5 := k5)
    PySem.F.excBase_ValueError (mN := mN) (T.hasType (by decide)) (w.quiet hq) (by rw [he]; rfl) hni (Name_function_global w.kind ((w.kinds x).trans hk) (loadGlobal_global (mg := c.mg) (by rw [w.glob]; exact w.gr.g.keeps w.base) O.bound ⟨rfl, ?_⟩) hb)
  rw [he]
  refine Calls.evalArgs_plain (spliced_cons (wpAny_mono (h f ι s w) (fun u s₁ p => spliced_nil ?_) fun _ _ p => p.st))
  obtain ⟨v, σ₁, ι₁, h₁, tk₁, rfl, A₁, w₁, r₁, q₁⟩ := p
  exact ⟨rfl, by show 1 ≤ sizeLine; decide, w₁.base _ _ hC, hN.keeps w₁.base, T.keeps w₁.base, fun h' ea hm => ⟨C, ea, h₁, ρ, γ, σ₁, ι₁, h', tk₁, rfl, rfl, A₁.x f, w₁, .inl ⟨_, hm⟩, q₁⟩⟩

theorem sTry {x n : Str} {body suite : List Stmt} {b₀ : Stmt} {np hpos pos : Pos} {C : Addr} (O : ExcAt c x C) (hk : S.kd x = some .globalImplicit) (hn : S.kd n = some .local)
    (h : WSs c S body ρ γ Q (fun C' σ' => C' = C ∧ WSs c { S with q := false } (b₀ :: suite) [(n, .exc C)] [] (fun fl _ _ σ'' => ∃ v, fl = .ret v ∧ Q (.ret v) [] [] σ'') (fun _ _ => False) σ') σ) (hb : (x == ("__debug__" : Str)) = false := by decide) :
    WS c S (.Try body [.ExceptHandler (some (.Name x np)) (some n) (b₀ :: suite) hpos] [] [] pos) ρ γ Q X σ := fun f ι s w hfe => by
  refine wpAny_Try_except (wpAny_mono (h f ι s w hfe) (fun fl s₁ p => ?_) fun ev s₁ p => ?_)
  · obtain ⟨fl', ρ', γ', σ', ι', h', tk, rfl, A, w', r, q⟩ := p
    cases r with
    | next => exact wpAny_execs_nil ⟨.next, ρ', γ', σ', ι', h', tk, rfl, A, w', .next, q⟩
    | brk => exact ⟨.brk, ρ', γ', σ', ι', h', tk, rfl, A, w', .brk, q⟩
    | cont => exact ⟨.cont, ρ', γ', σ', ι', h', tk, rfl, A, w', .cont, q⟩
    | ret r => exact ⟨.ret _, ρ', γ', σ', ι', h', tk, rfl, A, w', .ret r, q⟩
  · obtain ⟨C', ea, hb', ρ', γ', σ', ι', h', tk, rfl, rfl, A, w', air, rfl, hs⟩ := p
    have hst := w'.stack
    rw [hfe]
    refine note_air w' hst air fun h₃ B a0 L hL held cov sl => ?_
    refine wpAny_landsW (s := { s with heap := h₃, toks := tk }) held fun h₅ fly₅ up₅ => ?_
    have nof : ∀ b o, hb'.get? b = some o → b ∈ frs f → ∀ vs, o.data ≠ .fields vs := fun b o e hm => by
      obtain ⟨_, o', ho', hd'⟩ := w'.frames.mem hm
      rw [e] at ho'; cases ho'; exact hd'
    have sl₅ : ∀ b o, hb'.get? b = some o → b ∈ frs f → ∃ sl, h₅.get? b = some { o with slots := sl } := fun b o e hm => by
      obtain ⟨z, e1⟩ := sl b o e hm
      obtain ⟨z', e2⟩ := up₅ b _ e1 (nof b o e hm)
      exact ⟨z', e2⟩
    obtain ⟨w₅, _⟩ := w'.slots (fun b o e hm => fly₅.1 b o (cov b o e hm)) sl₅
    obtain ⟨ob, hob, hobc⟩ := fly₅.there
    obtain ⟨tl, N, nm, q, bs, hdct, sn, sub, ab, col, dd, k0, k1, k2, k3, k5, mN, hC, hN, hni, T⟩ := (O.keeps w₅.base).obj
    have hke : f.fe.scope.kind = .function := hfe ▸ w.kind
    have hkx : f.fe.kindOf x = some .globalImplicit := hfe ▸ (w.kinds x).trans hk
    have hgl : f.fe.globals = mainGlobals := hfe ▸ w.glob
    refine wpAny_handleBy_cons (codeAny_handlers_test (Name_function_global hke hkx (loadGlobal_global (mg := c.mg) (by rw [hgl]; exact w.gr.g.keeps w₅.base) O.bound ?_) hb)) (by intro q; cases q)
    refine wpAny_excMatches_sub_self hC hob hobc (T.hasType (by decide)) (codeAny_handlers_suite_as ?_)
    refine lands_againW (s := { s with heap := h₅, toks := tk }) fly₅ fun h₆ fly₆ up₆ => ?_
    have sl₆ : ∀ b o, hb'.get? b = some o → b ∈ frs f → ∃ sl, h₆.get? b = some { o with slots := sl } := fun b o e hm => by
      obtain ⟨z, e1⟩ := sl₅ b o e hm
      obtain ⟨z', e2⟩ := up₆ b _ e1 (nof b o e hm)
      exact ⟨z', e2⟩
    obtain ⟨w₆, A₆⟩ := w'.slots (fun b o e hm => fly₆.1 b o (cov b o e hm)) sl₆
    -- the frame within the clause
    have wm : Sit c { S with q := false } { f with A := f.A.mark (some (.ref ea)) } ι' [] [] σ' h₆ :=
      (w₆.weaken (ρ' := []) (γ' := []) (fun x v e => by cases e) (fun x v e => by cases e)).toA rfl w.depth w.units (fun q => by cases q)
    obtain ⟨oe, ws, hoe, hoec, hoed, _⟩ := fly₆.first
    rw [← hfe]
    refine store_L (s := { s with heap := h₆, toks := tk }) (f := { f with A := f.A.mark (some (.ref ea)) }) wm hn (.exc hoe hoec ⟨ws, hoed⟩) fun h₇ w₇ A₇ => ?_
    have A₇' : AftX f ι s.heap ι' h₇ := (A.then w' (A₆.x f)).then w₆ A₇
    refine wpAny_mono (hs { f with A := f.A.mark (some (.ref ea)) } ι' { s with heap := h₇, toks := tk + 1 } w₇ hfe) (fun fl s₈ p => ?_) fun _ _ p => ?_
    · obtain ⟨fl', ρ₈, γ₈, σ₈, ι₈, h₈, tk₈, rfl, A₈, w₈, r₈, v, rfl, q₈⟩ := p
      cases r₈ with
      | ret r₈ =>
        obtain ⟨m, hm, _⟩ := w₈.loc
        show wpAny c.M f.A (do bindName f.env n .none; unbindBehindTheSuite f.env n hpos) _ _ _
        refine wpAny_nameGoes ((w.kinds n).trans hn) hm (by rw [w.kind]; rfl) fun h₉ m₉ hm₉ hs₉ => ?_
        have hcx : ∀ y b, f.env.cells.lookup y = some b → ∃ v₀, h₉.IsCell b v₀ := fun y b e => by
          obtain ⟨_, n2, _, v₀, o, ho, hd⟩ := w₈.celx y b e
          exact ⟨v₀, o, (hs₉.2 b n2).trans ho, hd⟩
        have step := w₈.own (ρ₁ := []) (γ₁ := []) (a := f.env.locals) (.inl rfl) hs₉ (fun _ => ⟨m₉, hm₉, fun x v e => by cases e⟩) (fun _ x v e => by cases e) hcx
        have A₉ : AftX f ι s.heap ι₈ h₉ := (A₇'.then (w₇.ofA w) A₈).then (w₈.ofA w) step.2
        exact ⟨.ret v, [], [], σ₈, ι₈, h₉, _, rfl, A₉, step.1.ofA w, .ret (r₈.grow w₈.muX step.2.1 step.2.2.2), q₈⟩
    · obtain ⟨_, _, _, _, _, _, _, _, _, _, _, _, _, _, z⟩ := p
      exact z.elim
end

theorem vrs_ints {ι : List Addr} {h : Heap} : ∀ {vs : List Value} {ns : List Int}, IntsAre vs ns → VRs ι h (ns.map V.int) vs
  | _, _, .nil => .nil
  | _, _, .cons _ _ r => .cons (.int _ _) (vrs_ints r)

theorem topDef {c : C0} {a l : Addr} {ps : List Str} {body : List Stmt} {scope : Scope} {ns : List Int} {vs : List Value} {ρ' γ' : List (Str × V)} {s : Shared} (gr : Gr c) (hs : c.base = s.heap) (F : FnAt c a ps body scope) (hp1 : ps.length = 1)
    (hl : s.heap.IsList l vs.toArray) (hI : IntsAre vs ns)
    (hρ : ∀ x v, ρ'.lookup x = some v → scope.names.lookup x = some .local ∧ (ps.zip [V.ref 0]).lookup x = some v)
    (hγ : ∀ x v, γ'.lookup x = some v → scope.names.lookup x = some .cell ∧ (ps.zip [V.ref 0]).lookup x = some v)
    (h : WSs c { n := 1, kd := fun x => scope.names.lookup x, q := true } body ρ' γ' (fun fl _ _ _ => fl = .ret (.bool true)) (fun _ _ => False) [.ro (ns.map V.int)]) :
    codeAny c.M callerA (.call (.ref a) ⟨[.ref l], []⟩) (fun r s' => r = .ok (.ret (.bool true)) ∧ (∀ b o, s.heap.get? b = some o → s'.heap.get? b = some o) ∧ s'.os = s.os ∧ s'.gens = s.gens) s := by
  obtain ⟨o, fd, ho, hd, hb, rfl, hcl, hgl, hbl, hcd, hbind⟩ := F.there
  rw [hs] at ho hcd
  have hul : [Value.ref l].length = ps.length := by rw [hp1]; rfl
  have hkeys : ((ps.zip [Value.ref l]).map (·.1)).Nodup := by rw [zip_keys hul]; exact F.nd
  have hr : VRs [l] s.heap [V.ref 0] [Value.ref l] := .cons (.ref rfl) .nil
  refine codeAny_call_function (show callerA.depth < recursionLimit by decide) ho hd F.co F.gen hb hcd ?_
  rw [hbind _ hul, hcl]
  refine wpAny_pure (wpAny_newFunctionEnv_cells F.kind (fun x hx => ?_) fun env he s' x => ?_)
  · have hp : x.1 ∈ ps := by rw [← zip_keys hul]; exact List.mem_map_of_mem hx
    exact (F.par _ hp).imp id fun q => ⟨q, W.cellsFrom_some _ _ _ (.inl q)⟩
  obtain ⟨h₁, tk₁, rfl, hk₁⟩ := x.done
  have hL : env.locals = s.heap.objs.size := by rw [he]; rfl
  have hsc : env.scope = fd.scope := by rw [he]; rfl
  have hfr : env.frame = some s.heap.objs.size := by rw [he]; rfl
  have hkd : ∀ y, env.kindOf y = fd.scope.names.lookup y := fun y => by unfold Env.kindOf; rw [hsc]
  have hcells : env.cells = cellsFrom (s.heap.objs.size + 1) fd.scope.names [] := by rw [he]; rfl
  have hll : ∃ ob, s.heap.get? l = some ob := by obtain ⟨ob, e, _⟩ := hl; exact ⟨ob, e⟩
  have hnl' : ∀ b, s.heap.get? b = none → b ∉ [l] := fun b q z => by
    rw [List.mem_singleton.mp z] at q; obtain ⟨ob, e⟩ := hll; rw [e] at q; cases q
  have hnone : s.heap.get? s.heap.objs.size = none := none_above
  have hns := x.toInCall.ns
  rw [hL] at hns
  have hb0 : ∀ b, s.heap.get? b = none → c.base.get? b = none := fun b q => by rw [hs]; exact q
  have M0 : Mu [l] s.heap := fun a ha o' ho' => by
    rw [List.mem_singleton.mp ha] at ho'
    obtain ⟨ob, e, hc, n, hd⟩ := hl
    rw [e] at ho'; cases ho'
    exact ⟨by rw [hc]; decide, fun _ => by rw [hd]; exact fun q => nomatch q⟩
  have wc : Sit c { n := 1, kd := fun x => fd.scope.names.lookup x, q := true } { A := callerA.deeper env, fe := env, env := env, outer := [] } [l] ρ' γ' [.ro (ns.map V.int)] h₁ := {
    gr := gr
    base := fun b ob e => hk₁ b ob (hs ▸ e)
    stack := Around.frames_deeper rfl
    frames := by
      obtain ⟨oL, es, ep, hoL, hdL, _⟩ := hns
      exact ⟨by rw [hsc, F.kind]; decide, ⟨_, oL, hfr, hb0 _ hnone, hoL, fun vs q => (by rw [hdL] at q; cases q)⟩, trivial⟩
    fnotin := fun e he' L hL' => by
      rcases List.mem_cons.mp he' with rfl | he'
      · rw [hfr] at hL'; cases hL'; exact hnl' _ hnone
      · cases he'
    fdict := fun e he' L o hL' ho' => by
      rcases List.mem_cons.mp he' with rfl | he'
      · rw [hfr] at hL'; cases hL'
        obtain ⟨oL, es, ep, hoL, hdL, _⟩ := hns
        rw [ho'] at hoL; cases hoL
        exact ⟨es, ep, hdL⟩
      · cases he'
    depth := by show callerA.depth + 1 ≤ 310 + 4 * 1; decide
    units := by show callerA.units + 3 ≤ 50 + 20 * 1; decide
    lvl := by show 1 ≤ 50; omega
    quiet := fun q => rfl
    kind := by show env.scope.kind = _; rw [hsc]; exact F.kind
    kinds := hkd
    glob := by show env.globals = _; rw [he]; exact hgl
    blt := by show env.builtins = _; rw [he]; exact hbl
    frm := rfl
    loc := by
      refine ⟨_, by show h₁.Ns env.locals _; rw [hL]; exact hns, fun y v e => ?_⟩
      obtain ⟨e1, e2⟩ := hρ y v e
      obtain ⟨u, e3, e4⟩ := zip_lookup hr e2
      refine ⟨u, ?_, e4.mono M0 (.of_keeps hk₁)⟩
      rw [bindL_is, if_pos ((hkd y).trans e1), lookup_reverse hkeys, e3]; rfl
    locx := ⟨by show env.locals ∉ [l]; rw [hL]; exact hnl' _ hnone, by show c.base.get? env.locals = none; rw [hL]; exact hb0 _ hnone⟩
    cel := fun y v e => by
      obtain ⟨e1, e2⟩ := hγ y v e
      obtain ⟨u, e3, e4⟩ := zip_lookup hr e2
      have hs := W.cellsFrom_some (x := y) fd.scope.names (s.heap.objs.size + 1) [] (.inl e1)
      obtain ⟨b, hb'⟩ := Option.isSome_iff_exists.mp hs
      have hc := x.cell y b (by rw [hcells]; exact hb')
      rw [bindC_is, if_neg (by rw [hkd, e1]; decide), lookup_reverse hkeys, e3] at hc
      exact ⟨b, u, by show env.cells.lookup y = _; rw [hcells]; exact hb', hc, e4.mono M0 (.of_keeps hk₁)⟩
    celx := fun y b e => by
      have hb' := x.above y b (mem_of_lookup e)
      have hn2 : s.heap.get? b = none := Heap.get?_none_of_le (by rw [hL] at hb'; exact Nat.le_of_lt hb')
      exact ⟨hnl' _ hn2, Nat.ne_of_gt hb', hb0 _ hn2, _, x.cell y b e⟩
    celk := fun y e => by
      have hs := W.cellsFrom_some (x := y) fd.scope.names (s.heap.objs.size + 1) [] (.inl e)
      obtain ⟨b, hb'⟩ := Option.isSome_iff_exists.mp hs
      exact ⟨b, by show env.cells.lookup y = _; rw [hcells]; exact hb'⟩
    celd := fun y z b e1 e2 => name_of_addr x.apart (mem_of_lookup e1) (mem_of_lookup e2)
    len := rfl
    nd := by simp
    sto := fun i o a e1 e2 => by
      match i, e1, e2 with
      | 0, e1, e2 =>
        cases e1; cases e2
        exact ⟨vs, hl.at fun o q => hk₁ _ o q, vrs_ints hI⟩
      | i + 1, e1, e2 => simp at e1 }
  have hnl : h₁.NoLimit := (hs ▸ gr.nolimit : s.heap.NoLimit).keeps hk₁
  refine ⟨hnl, codeAny_func (wpAny_mono (h _ [l] { s with heap := h₁, toks := tk₁ } wc rfl) (fun fl s₂ p => ?_) fun ev s₂ p => ?_)⟩
  · obtain ⟨fl', ρ₂, γ₂, σ₂, ι₂, h₂, tk₂, rfl, A₂, w₂, r₂, rfl⟩ := p
    cases r₂ with
    | ret r =>
      cases r
      exact ⟨rfl, fun b ob e => w₂.base b ob (hs ▸ e), rfl, rfl⟩
  · obtain ⟨C, ea, hb, ρ₂, γ₂, σ₂, ι₂, h₂, tk₂, rfl, rfl, A₂, w₂, air, q⟩ := p
    exact q.elim

theorem iT {b : Bool} {A B : Prop} (h : b = true) (a : A) : if b = true then A else B := by rw [if_pos h]; exact a
theorem iN {b : Bool} {A B : Prop} (h : ¬ b = true) (a : B) : if b = true then A else B := by rw [if_neg h]; exact a
theorem iNT {A B : Prop} (a : B) : if (!true) = true then A else B := a
theorem iTF {A B : Prop} (a : A) : if (!false) = true then A else B := a
theorem nb {b : Bool} (h : b = false) : ¬ b = true := fun q => Bool.noConfusion (h.symm.trans q)
theorem dT {p : Prop} [Decidable p] (h : p) : decide p = true := decide_eq_true h
theorem dF {p : Prop} [Decidable p] (h : ¬ p) : ¬ decide p = true := fun q => h (of_decide_eq_true q)
theorem eT {a b : Int} (h : a = b) : (a == b) = true := beq_iff_eq.mpr h
theorem eF {a b : Int} (h : a ≠ b) : ¬ (a == b) = true := fun q => h (beq_iff_eq.mp q)
theorem nT {a b : Int} (h : a ≠ b) : (a != b) = true := by rw [bne_iff_ne]; exact h
theorem nF {a b : Int} (h : a = b) : ¬ (a != b) = true := fun q => (bne_iff_ne.mp q) h
theorem cT {k n : Nat} {z : Int} (h : k = n) (e : z = (n : Int)) : ((k : Int) == z) = true := by subst h e; exact beq_self_eq_true _
theorem cF {k n : Nat} {z : Int} (h : ¬ k = n) (e : z = (n : Int)) : ¬ ((k : Int) == z) = true := fun q => h (Int.ofNat.inj ((beq_iff_eq.mp q).trans e))
theorem l63 {n : Nat} (h : n ≤ 1000) : (n : Int) < 2 ^ 63 := by omega
theorem dn {n a b : Nat} (h : n < a) (e : a + 1 ≤ b := by decide) : n + 1 < b := Nat.lt_of_lt_of_le (Nat.succ_lt_succ h) e
theorem dm {n a b : Nat} (h : n < a) (e : a ≤ b := by decide) : n < b := Nat.lt_of_lt_of_le h e
def Sub (ρ₁ ρ : List (Str × V)) : Prop := ∀ x v, ρ₁.lookup x = some v → ρ.lookup x = some v
theorem Sub.refl (ρ : List (Str × V)) : Sub ρ ρ := fun _ _ e => e
theorem Sub.nil {ρ : List (Str × V)} : Sub [] ρ := fun _ _ e => by cases e
theorem Sub.cons {x : Str} {v : V} {r ρ : List (Str × V)} (h : ρ.lookup x = some v) (t : Sub r ρ) : Sub ((x, v) :: r) ρ := fun y u e => by
  rw [List.lookup_cons] at e
  cases q : y == x with
  | true => rw [q] at e; cases e; rw [show y = x by simpa using q]; exact h
  | false => rw [q] at e; exact t y u e

abbrev En := List (Str × V)
def J0 (ρ₁ γ₁ : En) (P : List O → Prop) : En → En → List O → Prop := fun ρ γ σ => ρ = ρ₁ ∧ γ = γ₁ ∧ P σ
def Par (kd : NameKind) (scope : Scope) (zs : En) (ρ : En) : Prop := ∀ x v, ρ.lookup x = some v → scope.names.lookup x = some kd ∧ zs.lookup x = some v
theorem Par.nil {kd : NameKind} {scope : Scope} {zs : En} : Par kd scope zs [] := fun _ _ e => by cases e
theorem Par.cons {kd : NameKind} {scope : Scope} {zs : En} {x : Str} {v : V} {r : En} (h1 : scope.names.lookup x = some kd) (h2 : zs.lookup x = some v) (t : Par kd scope zs r) : Par kd scope zs ((x, v) :: r) := fun y u e => by
  rw [List.lookup_cons] at e
  cases q : y == x with
  | true => rw [q] at e; cases e; rw [show y = x by simpa using q]; exact ⟨h1, h2⟩
  | false => rw [q] at e; exact t y u e

section
variable {c : C0} {S : Stt} {ρ γ ρ₁ γ₁ : List (Str × V)} {σ : List O} {Q Q' : Fl → List (Str × V) → List (Str × V) → List O → Prop} {QV : V → List O → Prop} {X : Addr → List O → Prop}

theorem WX.weaken {t : Env → Sem Flow} (h1 : Sub ρ₁ ρ) (h2 : Sub γ₁ γ) (p : WX c S t ρ₁ γ₁ Q X σ) : WX c S t ρ γ Q X σ := fun f ι s w e => p f ι s (w.weaken h1 h2) e

theorem stsJ {st : Stmt} {rest : List Stmt} (M : List (Str × V) → List (Str × V) → List O → Prop) (h : WS c S st ρ γ (fun fl ρ' γ' σ' => fl = .next ∧ ∃ ρ₁ γ₁, Sub ρ₁ ρ' ∧ Sub γ₁ γ' ∧ M ρ₁ γ₁ σ') X σ)
    (n : ∀ ρ γ σ, M ρ γ σ → WSs c S rest ρ γ Q X σ) : WSs c S (st :: rest) ρ γ Q X σ :=
  stsC (WX.imp h fun fl ρ' γ' σ' ⟨e, ρ₁, γ₁, h1, h2, m⟩ => by subst e; exact WX.weaken h1 h2 (n ρ₁ γ₁ σ' m))

theorem forL {x : Str} {px : Pos} {iter : Expr} {body rest : List Stmt} {pos : Pos} (hq : S.q = true) (hk : S.kd x = some .local)
    (h : WI c S iter ρ γ (fun vs Src σ₀ => ∃ J : Nat → List (Str × V) → List (Str × V) → List O → Prop, (∃ ρ₁ γ₁, Sub ρ₁ ρ ∧ Sub γ₁ γ ∧ J 0 ρ₁ γ₁ σ₀) ∧
      (∀ k v ρ γ σ, vs[k]? = some v → Src σ → J k ρ γ σ → WSs c S body (upd ρ x v) γ (Turn (Then c S rest Q X) fun ρ' γ' σ' => Src σ' ∧ ∃ ρ₁ γ₁, Sub ρ₁ ρ' ∧ Sub γ₁ γ' ∧ J (k + 1) ρ₁ γ₁ σ') (fun _ _ => False) σ) ∧
      (∀ ρ γ σ, Src σ → J vs.length ρ γ σ → WSs c S rest ρ γ Q X σ)) X σ)
    (hs : ∀ env x, foldedSetIterable iter env x = pure x := by intro _ _; rfl) : WSs c S (.For (.Name x px) iter body [] pos :: rest) ρ γ Q X σ := by
  refine stsC (sForL hq hk ?_ hs)
  refine fun f ι s w => wpAny_mono (h f ι s w) (fun _ _ p => wpAny_mono p (fun _ _ p => ?_) fun _ _ p => p) fun _ _ p => p
  obtain ⟨vs, Src, I, St, σ', ι', h', tk, e1, e2, A, w', itr, st, hI, src, ⟨J, ⟨ρ₁, γ₁, s1, s2, j0⟩, turn, fin⟩⟩ := p
  refine ⟨vs, Src, I, St, σ', ι', h', tk, e1, e2, A, w', itr, st, hI, src, ⟨fun k ρ γ σ => ∃ ρ₁ γ₁, Sub ρ₁ ρ ∧ Sub γ₁ γ ∧ J k ρ₁ γ₁ σ, ⟨ρ₁, γ₁, s1, s2, j0⟩, ?_, ?_⟩⟩
  · rintro k v ρ γ σ hv hsrc ⟨ρ₂, γ₂, t1, t2, j⟩
    refine WX.weaken (fun y u e => ?_) t2 (turn k v ρ₂ γ₂ σ hv hsrc j)
    rw [lookup_upd] at e ⊢
    split
    · rename_i q; rw [if_pos q] at e; exact e
    · rename_i q; rw [if_neg q] at e; exact t1 y u e
  · rintro ρ γ σ hsrc ⟨ρ₂, γ₂, t1, t2, j⟩
    exact WX.weaken t1 t2 (fin ρ₂ γ₂ σ hsrc j)
theorem callF {x : Str} {p pos : Pos} {e : Expr} {rest : List Expr} {a : Addr} {ps : List Str} {body : List Stmt} {scope : Scope} (hg : c.mg x = some (.ref a)) (F : FnAt c a ps body scope) (hk : S.kd x = some .globalImplicit)
    (h : WA c S pos (e :: rest) ρ γ (KL c S (fun us => call (.ref a) us) ρ γ QV X) X σ)
    (he : ∀ env, starEach (e :: rest) env = (false, eval e env) :: starEach rest env := by intro _; rfl) (hb : (x == ("__debug__" : Str)) = false := by decide)
    (hc : ∀ env, eval (.Call (.Name x p) (e :: rest) [] pos) env = (do callWith pos (← eval (.Name x p) env) [] (backTo pos (starEach (e :: rest) env)) (backToKw pos (keywordEach [] env))) := by intro _; rfl) :
    WE c S (.Call (.Name x p) (e :: rest) [] pos) ρ γ QV X σ := by
  obtain ⟨o, fd, ho, hd, _⟩ := F.there
  exact callFn hk hg ho hd h he hb hc
theorem callB {a : Addr} {ps : List Str} {body : List Stmt} {scope : Scope} {vs : List V} (ρ' γ' : En) (F : FnAt c a ps body scope) (hlen : vs.length = ps.length) (hn : S.n < 50)
    (hρ : Par .local scope (ps.zip vs) ρ') (hγ : Par .cell scope (ps.zip vs) γ')
    (h : WSs c (S.deeper scope) body ρ' γ' (fun fl _ _ σ' => QV (match fl with | .ret v => v | _ => .none) σ') X σ) : WL VR c S (fun us => call (.ref a) us) vs ρ γ QV X σ := callDef F hlen hn hρ hγ h
end

theorem pre_get {σ σ' : List O} {i : Nat} {o : O} (h : σ <+: σ') (e : σ[i]? = some o) : σ'[i]? = some o := by
  obtain ⟨t, rfl⟩ := h
  rw [List.getElem?_append_left (List.getElem?_eq_some_iff.mp e).1]; exact e
theorem pre_snoc {σ σ' : List O} {o : O} (h : σ <+: σ') : σ <+: σ' ++ [o] := h.trans (List.prefix_append _ _)
theorem pre_set {σ σ' : List O} {o : O} {i : Nat} (h : σ <+: σ') (hi : σ.length ≤ i) : σ <+: σ'.set i o := by
  obtain ⟨t, rfl⟩ := h
  rw [List.set_append_right _ _ hi]; exact List.prefix_append _ _

def Tab (σ : List O) (i m n : Nat) (g : Nat → Nat → V) : Prop := ∃ rs : List V, σ[i]? = some (.list rs) ∧ rs.length = m ∧ ∀ k, k < m → ∃ r, rs[k]? = some (.ref r) ∧ r ≠ i ∧ σ[r]? = some (.list ((List.range n).map (g k)))
theorem get_set_ne {σ : List O} {i j : Nat} {o : O} (h : i ≠ j) : (σ.set i o)[j]? = σ[j]? := List.getElem?_set_ne h
section
variable {c : C0} {S : Stt} {ρ γ : List (Str × V)} {σ : List O} {Q : V → List O → Prop} {X : Addr → List O → Prop}

theorem item_tup0 {value slice : Expr} {l : List V} {v : V} (q : Q v σ)
    (hs : ∀ o i, subscripted slice false o i = operate [o, i] (getItem o i) := by intro _ _; with_unfolding_all rfl) : W2 VR c S (subscriptTail value slice) (.tup (v :: l)) (.int 0) ρ γ Q X σ := item_tup (by decide) rfl (by decide) q hs
theorem item_tup1 {value slice : Expr} {l : List V} {u v : V} (q : Q v σ)
    (hs : ∀ o i, subscripted slice false o i = operate [o, i] (getItem o i) := by intro _ _; with_unfolding_all rfl) : W2 VR c S (subscriptTail value slice) (.tup (u :: v :: l)) (.int 1) ρ γ Q X σ := item_tup (by decide) rfl (by decide) q hs
end

def Bd (n : Nat) (x : Int) : Prop := x.natAbs < 2 ^ n
theorem bits_le {n : Nat} {x : Int} (h : Bd n x) : Builtin.Int.intBits x ≤ n := by
  unfold Builtin.Int.intBits
  split
  · omega
  · rename_i hx
    have h1 : x.natAbs ≠ 0 := by simpa using hx
    have := (Nat.log2_lt h1).mpr h
    omega
theorem pylong {n : Nat} {x y : Int} (k : Bd n y) (l : n ≤ 9000) : Builtin.divisionGoesByPylong x y = false := by
  unfold Builtin.divisionGoesByPylong
  have : ¬ ((if y == 0 then 0 else y.natAbs.log2 / 30 + 1) > 300) := by
    split
    · decide
    · rename_i hx
      have h1 : y.natAbs ≠ 0 := by simpa using hx
      have := (Nat.log2_lt h1).mpr (Nat.lt_of_lt_of_le k (Nat.pow_le_pow_right (by decide) l))
      omega
  simp only [this, decide_false, Bool.false_and]

section
open PySem PySem.W PySem.Calls PySem.Spec PyProof.Rows Builtin Builtin.ObjectAttr Builtin.Getset_descriptor

def HasTy (h : Heap) (x D : Addr) : Prop := ∃ o, h.get? x = some o ∧ o.cls = .ref D
theorem HasTy.looks {M : Model} {h : Heap} {x D : Addr} (I : HasTy h x D) : Looks M h (typeOf (.ref x)) (.ref D) := by
  obtain ⟨o, ho, hc⟩ := I
  exact hc ▸ (Looks.ld ho).andThen .now
theorem data_find {K : Frag} {M : Model} {h : Heap} {x D : Addr} {name : Str} {g a : Value} (X : K.In h) (ha : findIn K (.ref D) name = some (some a)) (hg : specialIn K a "__get__" = some (some g)) (ht : takesIn K a = some true) :
    Looks M h (find (.ref x) (.ref D) name) (.bind g a) := by
  have L2 : Looks M h (getOf (some a)) (some g) := looks_specialIn X hg
  have L3 := looks_takesIn (M := M) X ht
  exact (looks_findIn X ha).andThen (L2.andThen ((show Looks M h (dataDescriptor? (some a) (some g)) (some (g, a)) from L3.andThen .now).andThen (Looks.tag .now)))

structure Pl (K : Frag) (D : Addr) : Prop where
  cls : (clsIn K D).isSome = true
  ga : findIn K (.ref D) "__getattribute__" = some (some (.builtin "BaseException.__getattribute__"))
  gh : findIn K (.ref D) "__getattr__" = some none
  at_ : findIn K (.ref D) "__class__" = some (some (.builtin "object.__class__"))
  ob : mroIn K D (.type "object") = some true
  bx : mroIn K D (.type "BaseException") = some true
  gt : specialIn K (.builtin "object.__class__") "__get__" = some (some (.builtin "getset_descriptor.__get__"))
  tk : takesIn K (.builtin "object.__class__") = some true

section
variable {prog : Program} {w : World} {A : Around} {E : Value → Shared → Prop} {s : Shared} {K : Frag} {x D : Addr}
theorem cls_code {R : Result → Shared → Prop} {tp : Value} (X : K.In s.heap) (I : HasTy s.heap x D) (hm : mroIn K D (.type "object") = some true)
    (h : R (.ok (.ret (.ref D))) s) : codeAny (model prog w) A (.call (.builtin "getset_descriptor.__get__") ⟨[.builtin "object.__class__", .ref x, tp], []⟩) R s := by
  obtain ⟨hh, g, dr, t, os⟩ := s
  have L0 := I.looks (M := model prog w)
  have L1 := looks_mroIn (M := model prog w) X hm
  refine codeAny_call_builtin KF.slot_gs.plain KF.entry_gs (KF.slot_gs.check _ _ _ _ _ _ _ _ KF.type_class (KF.args_gs _ _ _) ?_)
  unfold Builtin.«getset_descriptor.__get__» descrGet
  rw [dga_obj]
  refine wpAny_bind (wpAny_pure ?_)
  unfold descrGetter descrCheckInstance descrNameAndClass isInstance
  simp only [KF.owner_class]
  repeat lk
  refine ⟨Code.quiet_builtin _ (by decide +kernel), codeAny_builtin KF.entry_class ?_⟩
  unfold Builtin.«object.__class__» shownTypeOf
  repeat lk
  exact h
theorem ga_check {M : Model} {nameV : Value} {Q : Unit → Shared → Prop} (X : K.In s.heap) (I : HasTy s.heap x D) (hm : mroIn K D (.type "BaseException") = some true) (h : Q () s) : wpAny M A (checkBuiltinCall "BaseException.__getattribute__" ⟨[.ref x, nameV], []⟩) Q E s := by
  obtain ⟨hh, g, d, t, os⟩ := s
  have hk : builtinKind "BaseException.__getattribute__" = some .slot := by decide +kernel
  have hsplit : splitId "BaseException.__getattribute__" = some ("BaseException", "__getattribute__") := by decide +kernel
  have ha := F.args_bexc_ga (.ref x) nameV
  have L : Looks M hh (isInstance (.ref x) (.type "BaseException")) true := I.looks.andThen (looks_mroIn X hm)
  simp only [checkBuiltinCall, hk, hsplit]
  refine wpAny_bind (L.at ?_)
  repeat (first | wp_step)
  all_goals first | exact h | assumption
theorem cls_attr {Q : Option Value → Shared → Prop} (X : K.In s.heap) (I : HasTy s.heap x D) (P : Pl K D) (h : Q (some (.ref D)) { s with toks := s.toks + 1 }) : wpAny (model prog w) A (getAttr? (.ref x) "__class__") Q E s := by
  obtain ⟨hh, g, d, t, os⟩ := s
  have L0 := I.looks (M := model prog w)
  have L1 := looks_findIn (M := model prog w) X P.ga
  have L2 := data_find (M := model prog w) (x := x) X P.at_ P.gt P.tk
  have L3 := looks_findIn (M := model prog w) X P.gh
  unfold getAttr? getAttrBy? getAttrBy
  refine wpAny_bind (wpAny_mkText (wpAny_bind (wpAny_attempt (wpAny_holding (wpAny_bind (L0.at (wpAny_bind (L1.at ?_))))))))
  show wpAny _ _ (getAttrByItsOwn _ _ _ _ _ _) _ _ _
  unfold getAttrByItsOwn hookBefore
  refine wpAny_bind (L3.at ?_)
  refine wpAny_bind (wpAny_attempt (wpAny_holding ?_))
  show wpAny _ _ (boundAndCalled _ _ _) _ _ _
  unfold boundAndCalled
  rw [F.attr_ValueError.ga.bind]
  refine wpAny_bind (wpAny_pure ?_)
  refine wpAny_call (codeAny_call_builtin F.attr_ValueError.ga.plain F.entry_bexc_ga (ga_check (s := ⟨hh, g, d, t + 1, os⟩) X I P.bx ?_))
  unfold Builtin.«object.__getattribute__»
  refine wpAny_bind (wpAny_pure (wpAny_bind (wpAny_pure (wpAny_bind (L0.at (wpAny_bind (L2.at ?_)))))))
  show wpAny _ _ (holding [_] (call (.builtin "getset_descriptor.__get__") [.builtin "object.__class__", .ref x, .ref D]) >>= ret) _ _ _
  refine wpAny_bind (wpAny_holding (wpAny_call (cls_code (s := ⟨hh, g, d, t + 1, os⟩) X I P.ob ?_)))
  exact wpAny_pure (handed_on rfl (wpAny_pure h))
theorem isNo_nested {c : Value} {dep : Int} {tk : Tok} {Q : Fin → Shared → Prop} (X : K.In s.heap) (I : HasTy s.heap x D) (P : Pl K D) (hty : Looks (model prog w) s.heap (typeOf c) (.type "type")) (his : Looks (model prog w) s.heap (isType c) true)
    (hne : (Value.ref D == c) = false) (hsub : Looks (model prog w) s.heap (isSubtype (.ref D) c) false) (h : Q (.done (.ret (.bool false))) { s with toks := s.toks + 1 }) :
    wpAny (model prog w) A (Builtin.«isinstance.nested» ⟨[.ref x, c, .int dep tk], []⟩) Q E s := by
  have hisD : Looks (model prog w) s.heap (isType (.ref D)) true := by
    have hcD := P.cls
    unfold clsIn at hcD
    split at hcD
    · rename_i c' d' cd' sl' ho
      intro A' Q' E' s' k q
      unfold isType loadHead
      exact wpAny_bind (wpAny_loadPart (k _ _ (X _ _ ho)) (wpAny_pure q))
    · cases hcD
  obtain ⟨h0, g, d, tt, os⟩ := s
  have L0 := I.looks (M := model prog w)
  have LI : Looks (model prog w) h0 (isInstance (.ref x) c) false := L0.andThen hsub
  unfold Builtin.«isinstance.nested»
  refine wpAny_bind (L0.at ?_)
  rw [if_neg (fun q => by rw [hne] at q; exact Bool.noConfusion q)]
  refine wpAny_bind (hty.at ?_)
  rw [if_pos (by decide)]
  k_delta "plainIsInstance"
  refine wpAny_bind (wpAny_bind (his.at ?_))
  simp only [Bool.not_true, Bool.false_eq_true, if_false]
  refine wpAny_bind (LI.at ?_)
  simp only [Bool.false_eq_true, if_false]
  refine wpAny_bind (cls_attr X I P ?_)
  refine wpAny_bind (hisD.at ?_)
  simp only [Bool.not_true, Bool.false_eq_true, if_false]
  refine wpAny_bind (wpAny_rule ?_)
  refine hsub.at ?_
  first
    | exact wpAny_pure h
    | exact wpAny_pure (wpAny_pure h)
    | exact wpAny_bind (wpAny_pure (wpAny_pure h))
theorem isNo_call {c : Value} {Q : Value → Shared → Prop} (X : K.In s.heap) (I : HasTy s.heap x D) (P : Pl K D) (hty : ∀ (M : Model) h', K.In h' → Looks M h' (typeOf c) (.type "type")) (his : ∀ (M : Model) h', K.In h' → Looks M h' (isType c) true)
    (hne : (Value.ref D == c) = false) (hsub : ∀ (M : Model) h', K.In h' → Looks M h' (isSubtype (.ref D) c) false) (h : Q (.bool false) { s with toks := s.toks + 1 }) : wpAny (model prog w) A (call (.builtin "isinstance") [.ref x, c]) Q E s :=
  call_isinstance (S := fun _ R s => (K.In s.heap ∧ HasTy s.heap x D) ∧ R (.ok (.ret (.bool false))) { s with toks := s.toks + 1 })
    (fun _ _ _ _ _ hs => isinstance_outer (isNo_nested hs.1.1 hs.1.2 P (hty _ _ hs.1.1) (his _ _ hs.1.1) hne (hsub _ _ hs.1.1) hs.2) (by intro q; cases q)) ⟨⟨X, I⟩, h⟩
end

def IsNo (c : C0) (C : Addr) (t : Value) : Prop := ∀ {S : Stt} {ρ γ : List (Str × V)} {Q : V → List O → Prop} {X : Addr → List O → Prop} {σ : List O}, Q (.bool false) σ → W1 VR c S (fun u => call (.builtin "isinstance") [u, t]) (.exc C) ρ γ Q X σ
def IsYes (c : C0) (C : Addr) (t : Value) : Prop := ∀ {S : Stt} {ρ γ : List (Str × V)} {Q : V → List O → Prop} {X : Addr → List O → Prop} {σ : List O}, Q (.bool true) σ → W1 VR c S (fun u => call (.builtin "isinstance") [u, t]) (.exc C) ρ γ Q X σ

theorem isNo_of {c : C0} {K : Frag} {C D : Addr} (X : K.In c.base) (P : Pl K C) (e : kin_not K C D = true) : IsNo c C (.ref D) := by
  intro S ρ γ Q X' σ q f ι s u w hu
  cases hu with
  | exc ho hc hd =>
    have XK : K.In s.heap := fun b o h => w.base b o (X b o h)
    unfold kin_not at e
    rw [Bool.and_eq_true, Bool.and_eq_true, Bool.and_eq_true] at e
    obtain ⟨⟨⟨e0, e1⟩, e2⟩, e3⟩ := e
    refine isNo_call XK ⟨_, ho, hc⟩ P (fun _ h' X' => looks_typeIn X' (beq_iff_eq.mp e2)) (fun _ h' X' => ?_) ?_ (fun _ h' X' => looks_subIn X' (beq_iff_eq.mp e3)) (.tok w (.bool _) q)
    · unfold clsIn at e1
      split at e1
      · rename_i c' d' cd' sl' ho
        intro A' Q' E' s' k q
        unfold isType loadHead
        exact wpAny_bind (wpAny_loadPart (k _ _ (X' _ _ ho)) (wpAny_pure q))
      · cases e1
    · exact Bool.eq_false_iff.mpr fun q => of_decide_eq_true e0 (Value.ref.inj (beq_iff_eq.mp q))
theorem isYes_of {c : C0} {K : Frag} {C D : Addr} (X : K.In c.base) (e : isIn K (.ref C) D = true) : IsYes c C (.ref D) := by
  intro S ρ γ Q X' σ q f ι s u w hu
  cases hu with
  | exc ho hc hd =>
    have XK : K.In s.heap := fun b o h => w.base b o (X b o h)
    exact isi_call XK (fun M => HasTy.looks ⟨_, ho, hc⟩) e (by intro e; cases e) (PR.now w (.bool _) q)
theorem isYesT_nested {prog : Program} {w : World} {A : Around} {E : Value → Shared → Prop} {s : Shared} {K : Frag} {x D : Addr} {T : String} {dep : Int} {tk : Tok} {Q : Fin → Shared → Prop} (X : K.In s.heap) (I : HasTy s.heap x D) (hty : typeOf (.type T) = pure (.type "type"))
    (hsub : subIn K (.ref D) (.type T) = some true) (h : Q (.done (.ret (.bool true))) s) : wpAny (model prog w) A (Builtin.«isinstance.nested» ⟨[.ref x, .type T, .int dep tk], []⟩) Q E s := by
  obtain ⟨hh, g, d, tt, os⟩ := s
  have L0 := I.looks (M := model prog w)
  have L3 : Looks (model prog w) hh (isInstance (.ref x) (.type T)) true := L0.andThen (looks_subIn X hsub)
  unfold Builtin.«isinstance.nested»
  refine wpAny_bind (L0.at ?_)
  rw [if_neg (fun q => by cases beq_iff_eq.mp q)]
  rw [hty]
  refine wpAny_bind (wpAny_pure ?_)
  rw [if_pos (by decide)]
  k_delta "plainIsInstance"
  refine wpAny_bind (wpAny_bind (wpAny_pure ?_))
  simp only [Bool.not_true, Bool.false_eq_true, if_false]
  refine wpAny_bind (L3.at ?_)
  simp only [if_true]
  exact wpAny_pure (wpAny_pure h)
theorem isYesT_of {c : C0} {K : Frag} {C : Addr} {T : String} (X : K.In c.base) (hty : typeOf (.type T) = pure (.type "type")) (e : subIn K (.ref C) (.type T) = some true) : IsYes c C (.type T) := by
  intro S ρ γ Q X' σ q f ι s u w hu
  cases hu with
  | exc ho hc hd =>
    have XK : K.In s.heap := fun b o h => w.base b o (X b o h)
    exact call_isinstance (S := fun _ R s => (K.In s.heap ∧ HasTy s.heap _ C) ∧ R (.ok (.ret (.bool true))) s)
      (fun _ _ _ _ _ hs => isinstance_outer (isYesT_nested hs.1.1 hs.1.2 hty e hs.2) (by intro q; cases q)) ⟨⟨XK, _, ho, hc⟩, PR.now w (.bool _) q⟩
end

section
variable {c : C0} {S : Stt} {ρ γ : List (Str × V)} {σ : List O} {Q : V → List O → Prop} {QB : Bool → List O → Prop} {X : Addr → List O → Prop}

theorem chain2 {l r₁ r₂ : Expr} {op₁ op₂ : CmpOp} {pos : Pos}
    (h : WE c S l ρ γ (fun a σ₁ => WE c S r₁ ρ γ (fun b σ₂ => W2 VR c S (compareOp op₁) a b ρ γ (fun t σ₃ => W1 RB c S truthy t ρ γ (fun tb σ₄ => if tb = true then WE c S r₂ ρ γ (fun d σ₅ => W2 VR c S (compareOp op₂) b d ρ γ Q X σ₅) X σ₄ else Q t σ₄) X σ₃) X σ₂) X σ₁) X σ)
    (hm : lastMarks [op₁, op₂] [r₁, r₂] = false := by with_unfolding_all rfl) : WE c S (.Compare l [op₁, op₂] [r₁, r₂] pos) ρ γ Q X σ := fun f ι s w => by
  refine Compare_chain (rs := []) (wpAny_mono (h f ι s w) (fun ua s₁ p => ?_) fun _ _ p => p) hm
  obtain ⟨a, σ₁, ι₁, h₁, tk₁, rfl, A₁, w₁, va, q₁⟩ := p
  refine chain_link (wpAny_mono (q₁ f ι₁ _ w₁) (fun ub s₂ p => ?_) fun _ _ p => p.trans rfl A₁)
  obtain ⟨b, σ₂, ι₂, h₂, tk₂, rfl, A₂, w₂, vb, q₂⟩ := p
  refine wpAny_mono (q₂ f ι₂ { s with heap := h₂, toks := tk₂ } ua ub w₂ (va.mono w₁.mu A₂) vb) (fun ut s₃ p => ?_) fun _ _ p => p.trans rfl (A₁.trans A₂)
  obtain ⟨t, σ₃, ι₃, h₃, tk₃, rfl, A₃, w₃, vt, q₃⟩ := p
  refine wpAny_mono (q₃ f ι₃ { s with heap := h₃, toks := tk₃ } ut w₃ vt) (fun ub' s₄ p => ?_) fun _ _ p => p.trans rfl ((A₁.trans A₂).trans A₃)
  obtain ⟨tb, σ₄, ι₄, h₄, tk₄, rfl, A₄, w₄, rfl, q₄⟩ := p
  have A04 := ((A₁.trans A₂).trans A₃).trans A₄
  cases tb with
  | false => exact ⟨t, σ₄, ι₄, h₄, tk₄, rfl, A04, w₄, vt.mono w₃.mu A₄, q₄⟩
  | true =>
    refine chain_last (wpAny_mono (q₄ f ι₄ { s with heap := h₄, toks := tk₄ } w₄) (fun ud s₅ p => ?_) fun _ _ p => p.trans rfl A04)
    obtain ⟨d, σ₅, ι₅, h₅, tk₅, rfl, A₅, w₅, vd, q₅⟩ := p
    exact lift1 (A04.trans A₅) (q₅ f ι₅ _ ub ud w₅ (((vb.mono w₂.mu A₃).mono w₃.mu A₄).mono w₄.mu A₅) vd)
theorem tchain2 {l r₁ r₂ : Expr} {op₁ op₂ : CmpOp} {pos : Pos}
    (h : WE c S l ρ γ (fun a σ₁ => WE c S r₁ ρ γ (fun b σ₂ => W2 VR c S (compareOp op₁) a b ρ γ (fun t σ₃ => W1 RB c S truthy t ρ γ (fun tb σ₄ => if tb = true then WE c S r₂ ρ γ (fun d σ₅ => W2 VR c S (compareOp op₂) b d ρ γ (fun t₂ σ₆ => W1 RB c S truthy t₂ ρ γ QB X σ₆) X σ₅) X σ₄ else QB false σ₄) X σ₃) X σ₂) X σ₁) X σ)
    (hm : lastMarks [op₁, op₂] [r₁, r₂] = false := by with_unfolding_all rfl) : WB c S (.Compare l [op₁, op₂] [r₁, r₂] pos) ρ γ QB X σ := fun f ι s w => by
  refine isTrue_chain (rs := []) (wpAny_mono (h f ι s w) (fun ua s₁ p => ?_) fun _ _ p => p) hm
  obtain ⟨a, σ₁, ι₁, h₁, tk₁, rfl, A₁, w₁, va, q₁⟩ := p
  refine test_link (wpAny_mono (q₁ f ι₁ _ w₁) (fun ub s₂ p => ?_) fun _ _ p => p.trans rfl A₁)
  obtain ⟨b, σ₂, ι₂, h₂, tk₂, rfl, A₂, w₂, vb, q₂⟩ := p
  refine wpAny_mono (q₂ f ι₂ { s with heap := h₂, toks := tk₂ } ua ub w₂ (va.mono w₁.mu A₂) vb) (fun ut s₃ p => ?_) fun _ _ p => p.trans rfl (A₁.trans A₂)
  obtain ⟨t, σ₃, ι₃, h₃, tk₃, rfl, A₃, w₃, vt, q₃⟩ := p
  refine wpAny_mono (q₃ f ι₃ { s with heap := h₃, toks := tk₃ } ut w₃ vt) (fun ub' s₄ p => ?_) fun _ _ p => p.trans rfl ((A₁.trans A₂).trans A₃)
  obtain ⟨tb, σ₄, ι₄, h₄, tk₄, rfl, A₄, w₄, rfl, q₄⟩ := p
  have A04 := ((A₁.trans A₂).trans A₃).trans A₄
  cases tb with
  | false => exact ⟨false, σ₄, ι₄, h₄, tk₄, rfl, A04, w₄, rfl, q₄⟩
  | true =>
    refine test_last (wpAny_mono (q₄ f ι₄ { s with heap := h₄, toks := tk₄ } w₄) (fun ud s₅ p => ?_) fun _ _ p => p.trans rfl A04)
    obtain ⟨d, σ₅, ι₅, h₅, tk₅, rfl, A₅, w₅, vd, q₅⟩ := p
    refine wpAny_mono (q₅ f ι₅ { s with heap := h₅, toks := tk₅ } ub ud w₅ (((vb.mono w₂.mu A₃).mono w₃.mu A₄).mono w₄.mu A₅) vd) (fun ut s₆ p => ?_) fun _ _ p => p.trans rfl (A04.trans A₅)
    obtain ⟨t₂, σ₆, ι₆, h₆, tk₆, rfl, A₆, w₆, vt₂, q₆⟩ := p
    exact lift1 ((A04.trans A₅).trans A₆) (q₆ f ι₆ _ ut w₆ vt₂)

theorem all_bools {i : Nat} {o : O} {bs : List Bool} (h1 : σ[i]? = some o) (h2 : o.items? = some (bs.map V.bool)) (hq : S.q = true) (q : Q (.bool (bs.all id)) σ) : WL VR c S (fun us => call (.builtin "all") us) [.ref i] ρ γ Q X σ := fun f ι s us w hr => by
  cases hr with
  | cons r rs =>
    cases rs
    cases r with
    | ref hi =>
      rename_i a
      obtain ⟨us, hl, hv⟩ := w.items h1 h2 hi
      have hlt : a < s.heap.objs.size := by obtain ⟨_, e, _⟩ := hl; exact Heap.lt_size e
      have hlen : us.length = bs.length := by rw [hv.length]; simp
      refine call_all_walk (wpAny_pyIter_list hl ?_)
      refine ⟨_, _, _, _, _, _, fun k => (bs[k]?).getD false, rfl, Walks.list (A := f.A.in1) (w.quiet hq) s.heap.objs.size a (Nat.ne_of_lt hlt) us.toArray, ⟨⟨_, Heap.get?_push_size _ rfl, rfl, rfl⟩, hl.push _⟩, ?_, fun h' tk hk => ?_⟩
      · intro k v s' Q' E' hP hQ
        have hk : us[k]? = some v := by simpa using hP
        have hkb : k < bs.length := by rw [← hlen]; exact (List.getElem?_eq_some_iff.mp hk).1
        obtain ⟨u, e1, e2⟩ := hv.get (k := k) (v := .bool bs[k]) (by simp [hkb])
        rw [hk] at e1; cases e1
        cases e2
        refine wpAny_truthy_bool ?_
        dsimp only at hQ
        have : (bs[k]?).getD false = bs[k] := by simp [hkb]
        rw [this] at hQ
        exact hQ
      · have e : (List.range us.toArray.size).all (fun k => (bs[k]?).getD false) = bs.all id := by
          rw [List.size_toArray, hlen]
          rw [Bool.eq_iff_iff, List.all_eq_true, List.all_eq_true]
          constructor
          · intro g b hb
            obtain ⟨k, hk, rfl⟩ := List.mem_iff_getElem.mp hb
            have := g k (List.mem_range.mpr hk)
            simpa [hk] using this
          · intro g k hk
            have hk := List.mem_range.mp hk
            have := g bs[k] (List.getElem_mem hk)
            simpa [hk] using this
        rw [e]
        exact .here w (old_kept hk) (.bool _) q
theorem tuple_ref {i : Nat} {o : O} {l : List V} (h1 : σ[i]? = some o) (h2 : o.items? = some l) (hz : l.length ≤ sizeLine) (q : Q (.tup l) σ) : WL VR c S (fun us => call (.type "tuple") us) [.ref i] ρ γ Q X σ := fun f ι s us w hr => by
  cases hr with
  | cons r rs =>
    cases rs
    cases r with
    | ref hi =>
      obtain ⟨us, hl, hv⟩ := w.items h1 h2 hi
      refine call_tuple_list hl (fun h' k => ?_) (by rw [List.size_toArray, hv.length]; exact hz)
      exact PR.newTup w (fun b ob e => Heap.get?_push_of_some _ (k b ob e)) ⟨_, Heap.get?_push_size _ rfl, rfl, 0, rfl⟩ hv q
theorem in_tup {a : V} {l : List V} {da : PyData} {ds : List PyData} (ha : Rd σ a da) (hl : Rds σ l ds) (h1 : PyData.canLayAll0 ds = true) (h2 : da.canLay0 = true) (h3 : PyData.depthAll ds ≤ 60) (q : Q (.bool (ds.any fun y => PyData.eqv y da)) σ) : W2 VR c S (compareOp .In) a (.tup l) ρ γ Q X σ := fun f ι s u v w hu hv => by
  obtain ⟨as, ra⟩ := ha.reads w hu
  obtain ⟨bs, rb⟩ := (Rd.tup hl).reads w hv
  have hr := room64 w
  have : min (PyData.depthAll ds) da.depth ≤ PyData.depthAll ds := Nat.min_le_left _ _
  exact SeqAt.in_tuple_reads rb ra h1 h2 (by omega) (.now w (.bool _) q)
theorem min_ii {a b : Int} (hq : S.q = true) (q : Q (.int (if b < a then b else a)) σ) : WL VR c S (fun us => call (.builtin "min") us) [.int a, .int b] ρ γ Q X σ := fun f ι s us w hr => by
  cases hr with
  | cons r rs =>
    cases rs with
    | cons r₂ rs =>
      cases rs; cases r; cases r₂
      refine min_two_ints (w.quiet hq) fun h' tk k => ?_
      split
      · rename_i hb; rw [if_pos hb] at q; exact .here w k (.int _ _) q
      · rename_i hb; rw [if_neg hb] at q; exact .here w k (.int _ _) q

theorem itr_tup {I : Nat} {a : Addr} {l : List V} (hIr : True) : Itr c I l (fun _ => True) (fun k ι h => IsTupIter h I a k ∧ VR ι h (.tup l) (.ref a) ∧ a ≠ I) where
  frame := fun k ι h ι' h' st p kp hY => by
    obtain ⟨o, ho, hc, hd⟩ := st.1
    obtain ⟨Y, M, K⟩ := hY
    exact ⟨⟨o, kp o ho, hc, hd⟩, st.2.1.grow M p K, st.2.2⟩
  isrec := fun k ι h st => by obtain ⟨o, ho, hc, hd⟩ := st.1; exact ⟨o, _, ho, hd, fun C => by rw [hc]; exact fun q => nomatch q⟩
  item := fun S f ι ρ γ σ k s v Q E hv w src st n => by
    obtain ⟨h1, h2, h3⟩ := st
    cases h2 with
    | tup ht hr =>
      obtain ⟨u, e3, e4⟩ := hr.get hv
      refine next_tuple_item h1 ht (by simpa using e3) fun h' hit hs => ?_
      obtain ⟨oI, hoI, hcI, hdI⟩ := h1
      have M : MuX (· = I) s.heap := fun a' o' qa ho' => by
        subst qa; rw [hoI] at ho'; cases ho'
        exact ⟨fun _ its n z => (by rw [hdI] at z; cases z), fun vs z C => by rw [hcI]; exact fun q => nomatch q⟩
      have K : Kp (· = I) s.heap h' := fun b o' e n => ⟨o', hs.extBut b o' n e, .refl _⟩
      exact n u h' _ (e4.grow M ⟨[], by simp⟩ K) ⟨hit, VR.grow M ⟨[], by simp⟩ K (.tup ht hr), h3⟩ hs.extBut
  done := fun S f ι ρ γ σ s Q E w hq src st n => by
    obtain ⟨h1, h2, h3⟩ := st
    cases h2 with
    | tup ht hr =>
      exact next_tuple_end (w.quiet hq) h1 ht (by rw [List.getElem?_toArray, List.getElem?_eq_none (by rw [hr.length]; exact Nat.le_refl _)]) fun h' ext => n h' _ ext
  self := fun S f ι ρ γ σ s k Q E w st q => wpAny_pyIter_tupleiter st.1 q
theorem wiTup {iter : Expr} {Q : List V → (List O → Prop) → List O → Prop} (h : WE c S iter ρ γ (fun v σ' => ∃ l, v = .tup l ∧ Q l (fun _ => True) σ') X σ) : WI c S iter ρ γ Q X σ := fun f ι s w => by
  refine wpAny_mono (h f ι s w) (fun u s₁ p => ?_) fun _ _ p => p
  obtain ⟨v, σ₁, ι₁, h₁, tk₁, rfl, A₁, w₁, r₁, l, rfl, q⟩ := p
  cases r₁ with
  | tup ht hr =>
    rename_i a us
    have k : ∀ b ob, h₁.get? b = some ob → (h₁.push { cls := .type "tuple_iterator", data := .fields #[.ref a, .int 0 0] }).get? b = some ob := fun b ob e => Heap.get?_push_of_some _ e
    have hlt : a < h₁.objs.size := by obtain ⟨_, e, _⟩ := ht; exact Heap.lt_size e
    refine iter_tuple (s := { s with heap := h₁, toks := tk₁ }) ht ?_
    refine ⟨l, _, h₁.objs.size, _, σ₁, ι₁, _, tk₁, rfl, rfl, A₁.trans (.of_keeps k), w₁.keeps k, itr_tup (I := h₁.objs.size) (a := a) trivial, ⟨⟨_, Heap.get?_push_size _ rfl, rfl, rfl⟩, VR.mono w₁.mu (.of_keeps k) (.tup ht hr), Nat.ne_of_lt hlt⟩, ?_, trivial, q⟩
    exact none_after w A₁ w₁ (Nat.le_refl _)
end

section
open PySem PySem.W PySem.Calls PySem.Spec PyProof.Rows Builtin Builtin.ObjectAttr

section
variable {c : C0} {S : Stt} {ρ γ : List (Str × V)} {σ : List O} {Q : V → List O → Prop} {X : Addr → List O → Prop}

theorem makeI {K : Frag} {C fI : Addr} {p0 : Str} {ps : List Str} {body : List Stmt} {scope : Scope} {vs : List V} (ρ' γ' : En) (KX : K.In c.base) (hm : makesIn K C = true) (hi : findIn K (.ref C) "__init__" = some (some (.ref fI))) (hf : typeIn K (.ref fI) = some (.type "function"))
    (F : FnAt c fI (p0 :: ps) body scope) (hlen : vs.length = ps.length) (hn : S.n < 48)
    (hρ : Par .local scope ((p0 :: ps).zip (.ref (σ.length + 1) :: vs)) ρ') (hγ : Par .cell scope ((p0 :: ps).zip (.ref (σ.length + 1) :: vs)) γ')
    (h : WSs c (({ S with n := S.n + 1 } : Stt).deeper scope) body ρ' γ' (fun fl _ _ σ' => (match fl with | .ret v => v | _ => .none) = .none ∧ Q (.ref (σ.length + 1)) σ') X (σ ++ [.dict []] ++ [.inst C σ.length])) :
    WL VR c S (fun us => call (.ref C) us) vs ρ γ Q X σ := fun f ι s us w hr => by
  have XK : K.In s.heap := fun b o e => w.base b o (KX b o e)
  refine wpAny_call ?_
  obtain ⟨hh, g, d, t, os⟩ := s
  refine make_core (makes_of XK hm) (looks_findIn XK hi) (fun self => bind_fn XK self hf) (.inl rfl) ?_
  -- the new pair in the ledger
  have hn0 : hh.get? hh.objs.size = none := none_above
  obtain ⟨w₁, A₁⟩ := w.new (o := .dict []) (h' := hh.push emptyDict) (fun b ob e => Heap.get?_push_of_some _ e) hn0 w.fresh
    ⟨[], 0, Heap.get?_push_size _ rfl, .nil, base_above w⟩
  obtain ⟨w₂, A₂⟩ := w₁.new (o := .inst C σ.length) (a := (hh.push emptyDict).objs.size) (h' := (hh.push emptyDict).push (instObj C hh.objs.size)) (fun b ob e => Heap.get?_push_of_some _ e) none_above w₁.fresh
    ⟨hh.objs.size, by rw [List.getElem?_append_left (by simp [w.len])]; rw [← w.len]; simp, Heap.get?_push_size _ rfl, base_above w₁⟩
  have hsz : (hh.push emptyDict).objs.size = hh.objs.size + 1 := Heap.size_push ..
  rw [hsz] at w₂ A₂
  let A' := f.A.under (.builtin "type.__call__" ⟨.ref C :: us, []⟩)
  have w₃ : Sit c { S with n := S.n + 1 } { f with A := A' } (ι ++ [hh.objs.size] ++ [hh.objs.size + 1]) ρ γ (σ ++ [.dict []] ++ [.inst C σ.length]) ((hh.push emptyDict).push (instObj C hh.objs.size)) :=
    { w₂ with
      stack := w₂.stack
      depth := by have := w.depth; show f.A.depth + 1 ≤ 310 + 4 * (S.n + 1); omega
      units := by have := w.units; show f.A.units + 1 ≤ 50 + 20 * (S.n + 1); omega
      lvl := by show S.n + 1 ≤ 50; omega
      quiet := w₂.quiet }
  have A02 := A₁.trans A₂
  have hrs : VRs (ι ++ [hh.objs.size] ++ [hh.objs.size + 1]) ((hh.push emptyDict).push (instObj C hh.objs.size)) (.ref (σ.length + 1) :: vs) (.ref (hh.objs.size + 1) :: us) :=
    .cons (.ref (by rw [List.getElem?_append_right (by simp [w.len])]; simp [w.len])) (hr.mono w.mu A02)
  have cc := callCode (S := { S with n := S.n + 1 }) (X := X) (Q := fun v σ' => v = .none ∧ Q (.ref (σ.length + 1)) σ') F (by simp [hlen]) (by show S.n + 1 < 50; omega) hρ hγ h { f with A := A' } _ ⟨(hh.push emptyDict).push (instObj C hh.objs.size), g, d, t, os⟩ _ w₃ hrs
  refine codeAny_mono cc fun r s' p => ?_
  have back : ∀ {ι' : List Addr} {σ' : List O} {h' : Heap}, Sit c { S with n := S.n + 1 } { f with A := A' } ι' ρ γ σ' h' → Sit c S f ι' ρ γ σ' h' := fun w' => { w' with stack := w.stack, depth := w.depth, units := w.units, lvl := w.lvl, quiet := w.quiet }
  rcases r with e | (v | _ | _ | _)
  · obtain ⟨C', ea, hb, σ', ι', h', tk, e1, e2, A₄, w₄, air, q⟩ := p
    exact ⟨C', ea, hb, σ', ι', h', tk, e1, by subst e2; rfl, A02.trans A₄, back w₄, air, q⟩
  all_goals first | exact p.elim | skip
  all_goals
    obtain ⟨v', σ', ι', h', tk, e2, A₄, w₄, r₄, rfl, q⟩ := p
    cases r₄
    refine ⟨rfl, .ref (σ.length + 1), σ', ι', h', tk, by subst e2; rfl, A02.trans A₄, back w₄, .ref ?_, q⟩
    obtain ⟨⟨t', rfl⟩, _⟩ := A₄
    rw [List.getElem?_append_left (by have := w.len; simp; omega), List.getElem?_append_right (by simp [w.len])]
    simp [w.len]

theorem FsR.noref {ι : List Addr} {h : Heap} {P : Params} {fs : List (Str × V)} {es : List DictEntry} (x : FsR ι h P fs es) : es.any (·.refKey) = false := by
  induction x with
  | nil => rfl
  | cons v _ ih => rw [List.any_cons, ih]; rfl
theorem FsR.find {ι : List Addr} {h : Heap} {P : Params} {fs : List (Str × V)} {es : List DictEntry} {name : Str} {v : V} (x : FsR ι h P fs es) (e : fs.lookup name = some v) : ∃ u, getL name es = some (some u) ∧ VR ι h v u := by
  induction x with
  | nil => cases e
  | @cons y t v' u r es' hv hr ih =>
    rw [List.lookup_cons] at e
    unfold getL
    rw [List.find?_cons]
    by_cases q : name = y
    · subst q
      simp at e
      subst e
      have : (Value.str name t).isStr name = true := by simp [Value.isStr]
      simp only [this]
      exact ⟨u, rfl, hv⟩
    · have hb : (name == y) = false := by simpa using q
      rw [hb] at e
      have : (Value.str y t).isStr name = false := by simp [Value.isStr]; exact fun z => q z.symm
      simp only [this]
      obtain ⟨u', e1, e2⟩ := ih e
      unfold getL at e1
      refine ⟨u', ?_, e2⟩
      rw [List.any_cons, show (DictEntry.refKey ⟨PyData.keyHash P y, .str y t, u⟩) = false from rfl, Bool.false_or]
      exact e1
theorem FsR.put {ι : List Addr} {h : Heap} {P : Params} {fs : List (Str × V)} {es : List DictEntry} {name : Str} {v : V} {u : Value} {t : Tok} (x : FsR ι h P fs es) (e : fs.lookup name = none) (hv : VR ι h v u) :
    FsR ι h P (fs ++ [(name, v)]) (putL name (PyData.keyHash P name) (.str name t) u es) := by
  induction x with
  | nil => exact .cons hv .nil
  | @cons y t' v' u' r es' hv' hr ih =>
    rw [List.lookup_cons] at e
    by_cases q : name = y
    · subst q; simp at e
    · have hb : (name == y) = false := by simpa using q
      rw [hb] at e
      have : (Value.str y t').isStr name = false := by simp [Value.isStr]; exact fun z => q z.symm
      rw [putL, this]
      exact .cons hv' (ih e)

theorem Sit.inst {f : Fm} {ι : List Addr} {h : Heap} (w : Sit c S f ι ρ γ σ h) {i j : Nat} {C : Addr} {fs : List (Str × V)} {a : Addr} (e1 : σ[i]? = some (.inst C j)) (e2 : σ[j]? = some (.dict fs)) (e3 : ι[i]? = some a) :
    ∃ dx es n, ι[j]? = some dx ∧ h.get? dx = some (dictOf es n) ∧ FsR ι h c.w.params fs es ∧ c.base.get? dx = none ∧ InstAt h a (instObj C dx) C (some (dictOf es n)) := by
  obtain ⟨dx, hj, ho, hb⟩ := w.sto i _ a e1 e3
  obtain ⟨es, n, hd, hr, hb2⟩ := w.sto j _ dx e2 hj
  exact ⟨dx, es, n, hj, hd, hr, hb2, ho, rfl, rfl, hd⟩

structure PlI (K : Frag) (C : Addr) (names : List Str) : Prop where
  ga : findIn K (.ref C) "__getattribute__" = some (some (.builtin "object.__getattribute__"))
  sa : findIn K (.ref C) "__setattr__" = some (some (.builtin "object.__setattr__"))
  po : plainOver K C = true
  dict : hasDictIn K C = true
  no : ∀ x ∈ names, findIn K (.ref C) x = some none

inductive KAt (C : Addr) (attr : Str) (Q : V → List O → Prop) (v : V) (σ₁ : List O) : Prop where
  | mk (i j : Nat) (fs : List (Str × V)) (v' : V) (e1 : v = .ref i) (e2 : σ₁[i]? = some (.inst C j)) (e3 : σ₁[j]? = some (.dict fs)) (e4 : fs.lookup attr = some v') (e5 : ∃ k, v' = .ref k) (q : Q v' σ₁)
inductive KSa (C : Addr) (name : Str) (Q : Fl → List (Str × V) → List (Str × V) → List O → Prop) (ρ γ : List (Str × V)) (v ov : V) (σ₂ : List O) : Prop where
  | mk (i j : Nat) (fs : List (Str × V)) (e1 : ov = .ref i) (e2 : σ₂[i]? = some (.inst C j)) (e3 : σ₂[j]? = some (.dict fs)) (e4 : fs.lookup name = none) (e5 : fs.length ≤ 100) (q : Q .next ρ γ (σ₂.set j (.dict (fs ++ [(name, v)]))))
theorem attrG {value : Expr} {attr : Str} {pos : Pos} {K : Frag} {C : Addr} {names : List Str} (KX : K.In c.base) (P : PlI K C names) (hn : attr ∈ names)
    (h : WE c S value ρ γ (KAt C attr Q) X σ)
    (he : ∀ env, eval (.Attribute value attr pos) env = (do
      let o ← eval value env
      standAt pos.atName
      let r ← holding [o] (getAttr o attr true)
      letTemporaryGo value o r
      pure r) := by intro _; with_unfolding_all rfl)
    : WE c S (.Attribute value attr pos) ρ γ Q X σ := fun f ι s w => by
  refine Attribute_any_ (wpAny_mono (h f ι s w) (fun u s₁ p => ?_) fun _ _ p => p) (he f.env)
  obtain ⟨v, σ₁, ι₁, h₁, tk₁, rfl, A₁, w₁, r₁, i, j, fs, v', rfl, e1, e2, e3, ⟨k, rfl⟩, q⟩ := p
  cases r₁ with
  | ref hi =>
    obtain ⟨dx, es, n, hj, hd, hr, hb, I⟩ := w₁.inst e1 e2 hi
    have XK : K.In h₁ := fun b o e => w₁.base b o (KX b o e)
    obtain ⟨u, g1, g2⟩ := hr.find e3
    cases g2 with
    | ref hk =>
      refine get_value (s := { s with heap := h₁, toks := tk₁ }) XK I P.ga (findObj_own P.dict (P.no _ hn) rfl g1) rfl ?_
      exact ⟨.ref k, σ₁, ι₁, h₁, _, rfl, A₁, w₁, .ref hk, q⟩
theorem store_dict {K : Frag} {C x dx : Addr} {es : List DictEntry} {n : Nat} {name : Str} {u : Value} {A : Around} {E : Value → Shared → Prop} {s : Shared} {Qs : Unit → Shared → Prop} (XK : K.In s.heap) (I : InstAt s.heap x (instObj C dx) C (some (dictOf es n)))
    (D : s.heap.get? dx = some (dictOf es n)) (hs : findIn K (.ref C) "__setattr__" = some (some (.builtin "object.__setattr__"))) (hp : plainOver K C = true) (hd : hasDictIn K C = true) (hno : findIn K (.ref C) name = some none)
    (hl : es.any (·.refKey) = false) (hz : (putL name (PyData.keyHash c.w.params name) (.str name (s.toks + 1)) u es).length ≤ 1000)
    (h : Qs () { s with heap := s.heap.update dx (Obj.putName name (PyData.keyHash c.w.params name) (.str name (s.toks + 1)) u), toks := s.toks + 2 }) : wpAny c.M A (setAttr (.ref x) name u) Qs E s := by
  refine set_plain XK I hs ?_
  refine osa_open (r := none) XK I hp (by unfold takerIn; rw [hno]; rfl) fun b => ?_
  obtain ⟨cd, hc, hd'⟩ := any_some hd
  obtain ⟨hx, -, -, -⟩ := I
  refine wpAny_bind (wpAny_pure (wpAny_bind (wpAny_bind (wpAny_loadPart hx (wpAny_bind (Looks.here (s := { s with toks := s.toks + 1 }) (looks_clsIn XK hc) ?_))))))
  rw [hd']
  refine wpAny_pure (a := some dx) (wpAny_bind (wpAny_pure (wpAny_bind ?_)))
  unfold nsSet
  refine wpAny_bind (wpAny_bind (wpAny_askSetting (wpAny_pure (wpAny_bind (wpAny_mkText (wpAny_bind (wpAny_loadPart D ?_)))))))
  dsimp only
  have cz : (!es.toArray.any (·.key.isStr name) && es.toArray.any (·.refKey)) = false := by
    rw [← Array.any_toList, ← Array.any_toList]
    show (!es.any _ && es.any _) = false
    rw [hl, Bool.and_false]
  rw [aRefKeyMayBeTheName_at, cz]
  refine wpAny_updatePart D ?_
  have D' : (s.heap.update dx (Obj.putName name (PyData.keyHash c.w.params name) (.str name (s.toks + 1)) u)).get? dx = some (dictOf (putL name (PyData.keyHash c.w.params name) (.str name (s.toks + 1)) u es) (putN name es n)) := by
    rw [Heap.get?_update_self _ D (by rw [putName_dict]; rfl), putName_dict]
  refine wpAny_bind (wpAny_lookBehind D' (pastItsLine_dict (by rw [List.size_toArray, sizeLine_eq]; omega)) ?_)
  exact wpAny_pure h
end

section
variable {c : C0} {S : Stt} {ρ γ : List (Str × V)} {σ : List O} {Q : Fl → List (Str × V) → List (Str × V) → List O → Prop} {X : Addr → List O → Prop}
theorem putL_len {name : Str} {hs : Int} {key u : Value} : ∀ {es : List DictEntry}, (putL name hs key u es).length ≤ es.length + 1
  | [] => Nat.le_refl _
  | e :: r => by
    rw [putL]; split
    · simp
    · simpa using putL_len (es := r)
theorem FsR.len {ι : List Addr} {h : Heap} {P : Params} {fs : List (Str × V)} {es : List DictEntry} (x : FsR ι h P fs es) : es.length = fs.length := by
  induction x with
  | nil => rfl
  | cons v _ ih => simp [ih]
theorem sAttr {o e : Expr} {name : Str} {pos' pos : Pos} {K : Frag} {C : Addr} {names : List Str} (KX : K.In c.base) (P : PlI K C names) (hn : name ∈ names)
    (h : WE c S e ρ γ (fun v σ₁ => WE c S o ρ γ (KSa C name Q ρ γ v) X σ₁) X σ)
    (hs : ∀ env, swapsWith e (some (.Attribute o name pos')) pos.line env = pure false := by intro _; rfl) : WS c S (.Assign [.Attribute o name pos'] e pos) ρ γ Q X σ := fun f ι s w _ => by
  refine plainObj_wpAny_Assign_Attribute (wpAny_mono (h f ι s w) (fun u s₁ p => ?_) fun _ _ p => p.st) (hs _)
  obtain ⟨v, σ₁, ι₁, h₁, tk₁, rfl, A₁, w₁, r₁, q₁⟩ := p
  refine wpAny_mono (q₁ f ι₁ _ w₁) (fun uo s₂ p => ?_) fun _ _ p => (PX.trans (s := s) p rfl A₁).st
  obtain ⟨ov, σ₂, ι₂, h₂, tk₂, rfl, A₂, w₂, r₂, i, j, fs, rfl, e1, e2, e3, e4, q⟩ := p
  cases r₂ with
  | ref hi =>
    obtain ⟨dx, es, n, hj, hd, hr, hb, I⟩ := w₂.inst e1 e2 hi
    have XK : K.In h₂ := fun b o e => w₂.base b o (KX b o e)
    have hel := hr.len
    refine store_dict (c := c) (s := { s with heap := h₂, toks := tk₂ }) XK I hd P.sa P.po P.dict (P.no _ hn) hr.noref (by have := putL_len (name := name) (hs := PyData.keyHash c.w.params name) (key := .str name (tk₂ + 1)) (u := u) (es := es); show (putL _ _ (.str name (tk₂ + 1)) u es).length ≤ 1000; omega) ?_
    have r₁' := r₁.mono w₁.mu A₂
    obtain ⟨w₃, A₃⟩ := w₂.upd (o' := .dict (fs ++ [(name, v)])) hj (Heap.SameBut.update _ dx (Obj.putName name (PyData.keyHash c.w.params name) (.str name (tk₂ + 1)) u)) hb fun A => ⟨putL name (PyData.keyHash c.w.params name) (.str name (tk₂ + 1)) u es, putN name es n, by
        rw [Heap.get?_update_self _ hd (by rw [putName_dict]; rfl), putName_dict], (hr.put e3 r₁').mono w₂.mu A, hb⟩
    exact ⟨.next, ρ, γ, _, ι₂, _, _, rfl, ((A₁.trans A₂).trans A₃).x f, w₃, .next, q⟩
end
end

section
open PySem PySem.Calls PySem.Spec PyProof.Rows Builtin

section
variable {c : C0} {S : Stt} {ρ γ : List (Str × V)} {σ : List O} {Q : V → List O → Prop} {X : Addr → List O → Prop}

theorem PR.newList2 {f : Fm} {ι : List Addr} {s : Shared} {tk : Nat} {us : List Value} {l : List V} {o1 : Obj} (w : Sit c S f ι ρ γ σ s.heap) (r : VRs ι s.heap l us) (q : Q (.ref σ.length) (σ ++ [.list l])) :
    PR VR c S f ι ρ γ s Q (.ref (s.heap.objs.size + 1)) { s with heap := (s.heap.push o1).push { cls := .type "list", data := .seq us.toArray }, toks := tk } := by
  refine PR.newList (n := 0) w (fun b ob e => Heap.get?_push_of_some _ (Heap.get?_push_of_some _ e)) (Heap.get?_none_of_le (Nat.le_succ _)) ?_ r q
  have : (s.heap.push o1).objs.size = s.heap.objs.size + 1 := Heap.size_push ..
  rw [← this]
  exact Heap.get?_push_size _ rfl

inductive KSu1 (Q : V → List O → Prop) (v : V) (kv : V) (σ₂ : List O) : Prop where
  | mk (i : Nat) (o : O) (l : List V) (e1 : v = .ref i) (e2 : σ₂[i]? = some o) (e3 : o.items? = some l) (hz : l.length ≤ 1000) (q : (∃ k : Nat, kv = .int k ∧ Q (.ref σ₂.length) (σ₂ ++ [.list (l.take k)])) ∨ (kv = .int (-1) ∧ Q (.ref σ₂.length) (σ₂ ++ [.list (l.take (l.length - 1))])))
abbrev KSu (c : C0) (S : Stt) (e : Expr) (ρ γ : List (Str × V)) (Q : V → List O → Prop) (X : Addr → List O → Prop) : V → List O → Prop := fun v σ₁ => WE c S e ρ γ (KSu1 Q v) X σ₁
inductive KSf1 (Q : V → List O → Prop) (v : V) (kv : V) (σ₂ : List O) : Prop where
  | mk (i : Nat) (o : O) (l : List V) (k : Nat) (e1 : v = .ref i) (e2 : σ₂[i]? = some o) (e3 : o.items? = some l) (hz : l.length ≤ 1000) (e4 : kv = .int k) (q : Q (.ref σ₂.length) (σ₂ ++ [.list (l.drop k)]))
abbrev KSf (c : C0) (S : Stt) (e : Expr) (ρ γ : List (Str × V)) (Q : V → List O → Prop) (X : Addr → List O → Prop) : V → List O → Prop := fun v σ₁ => WE c S e ρ γ (KSf1 Q v) X σ₁
theorem sliceUp {value e : Expr} {p pos : Pos} (h : WE c S value ρ γ (KSu c S e ρ γ Q X) X σ)
    (ht : ∀ o r, letTemporaryGo value o r = pure () := by intro _ _; rfl) : WE c S (.Subscript value (.Slice none (some e) none p) pos) ρ γ Q X σ := fun f ι s w => by
  refine wpAny_Subscript_list_slice (wpAny_mono (h f ι s w) (fun u s₁ p => ?_) fun _ _ p => p) ht
  obtain ⟨v, σ₁, ι₁, h₁, tk₁, rfl, A₁, w₁, r₁, q₁⟩ := p
  refine wpAny_pure ?_
  rw [evalPart_some]
  refine wpAny_mono (q₁ f ι₁ _ w₁) (fun uk s₂ p => ?_) fun _ _ p => p.trans rfl A₁
  obtain ⟨kv, σ₂, ι₂, h₂, tk₂, rfl, A₂, w₂, r₂, i, o, l, rfl, e1, e2, hz, q⟩ := p
  have hz' : l.length ≤ sizeLine := Nat.le_trans hz (by decide)
  cases r₁ with
  | ref hi =>
    rename_i a
    have hi₂ : ι₂[i]? = some a := by obtain ⟨⟨t, rfl⟩, _⟩ := A₂; rw [List.getElem?_append_left (List.getElem?_eq_some_iff.mp hi).1]; exact hi
    obtain ⟨us, hl, hr⟩ := w₂.items e1 e2 hi₂
    rcases q with ⟨k, rfl, q⟩ | ⟨rfl, q⟩
    · cases r₂
      refine ⟨_, us.toArray, none, some (k : Int), rfl, hl, by rw [List.size_toArray, hr.length]; exact hz', .none, .int _ _, ?_⟩
      rw [slicePick_upto']
      exact PR.trans (s := s) (s₁ := { s with heap := h₂, toks := tk₂ }) (PR.newList2 w₂ (hr.take k) q) rfl (A₁.trans A₂)
    · cases r₂
      refine ⟨_, us.toArray, none, some (-((1 : Nat) : Int)), rfl, hl, by rw [List.size_toArray, hr.length]; exact hz', .none, .int _ _, ?_⟩
      rw [slicePick_butLast _ 1 (Nat.le_refl _)]
      have e : us.toArray.size - 1 = l.length - 1 := by rw [List.size_toArray, hr.length]
      rw [e]
      exact PR.trans (s := s) (s₁ := { s with heap := h₂, toks := tk₂ }) (PR.newList2 w₂ (hr.take (l.length - 1)) q) rfl (A₁.trans A₂)
theorem sliceFrom {value e : Expr} {p pos : Pos} (h : WE c S value ρ γ (KSf c S e ρ γ Q X) X σ)
    (ht : ∀ o r, letTemporaryGo value o r = pure () := by intro _ _; rfl) : WE c S (.Subscript value (.Slice (some e) none none p) pos) ρ γ Q X σ := fun f ι s w => by
  refine wpAny_Subscript_list_slice (wpAny_mono (h f ι s w) (fun u s₁ p => ?_) fun _ _ p => p) ht
  obtain ⟨v, σ₁, ι₁, h₁, tk₁, rfl, A₁, w₁, r₁, q₁⟩ := p
  rw [evalPart_some]
  refine wpAny_mono (q₁ f ι₁ _ w₁) (fun uk s₂ p => ?_) fun _ _ p => p.trans rfl A₁
  obtain ⟨kv, σ₂, ι₂, h₂, tk₂, rfl, A₂, w₂, r₂, i, o, l, k, rfl, e1, e2, hz, rfl, q⟩ := p
  have hz' : l.length ≤ sizeLine := Nat.le_trans hz (by decide)
  refine wpAny_pure ?_
  cases r₁ with
  | ref hi =>
    rename_i a
    have hi₂ : ι₂[i]? = some a := by obtain ⟨⟨t, rfl⟩, _⟩ := A₂; rw [List.getElem?_append_left (List.getElem?_eq_some_iff.mp hi).1]; exact hi
    obtain ⟨us, hl, hr⟩ := w₂.items e1 e2 hi₂
    cases r₂
    refine ⟨_, us.toArray, some (k : Int), none, rfl, hl, by rw [List.size_toArray, hr.length]; exact hz', .int _ _, .none, ?_⟩
    rw [slicePick_from']
    exact PR.trans (s := s) (s₁ := { s with heap := h₂, toks := tk₂ }) (PR.newList2 w₂ (hr.drop k) q) rfl (A₁.trans A₂)

theorem add_ll {i j : Nat} {l l' : List V} (h1 : σ[i]? = some (.list l)) (h2 : σ[j]? = some (.list l')) (hz : l.length + l'.length ≤ 1000) (q : Q (.ref σ.length) (σ ++ [.list (l ++ l')])) : W2 VR c S (binaryOp .Add) (.ref i) (.ref j) ρ γ Q X σ := fun f ι s u v w hu hv => by
  cases hu with
  | ref hi =>
    cases hv with
    | ref hj =>
      obtain ⟨us, n, ho, hr, _⟩ := w.sto i _ _ h1 hi
      obtain ⟨us', n', ho', hr', _⟩ := w.sto j _ _ h2 hj
      refine P.add_list ho ho' ?_ ?_
      · rw [List.append_toArray]
        exact PR.newList (n := 0) w (fun b ob e => Heap.get?_push_of_some _ e) none_above (Heap.get?_push_size _ rfl) (hr.append hr') q
      · rw [List.size_toArray, List.size_toArray, hr.length, hr'.length]; exact Nat.le_trans hz (by decide)
theorem foldl_rep {us : List Value} : ∀ (n : Nat) (acc : Array Value), List.foldl (fun x1 x2 => x1 ++ x2) acc (List.replicate n us.toArray) = acc ++ (List.replicate n us).flatten.toArray
  | 0, acc => by simp
  | n + 1, acc => by rw [List.replicate_succ, List.foldl_cons, foldl_rep n, List.replicate_succ, List.flatten_cons]; simp
theorem VRs.rep {ι : List Addr} {h : Heap} {l : List V} {us : List Value} (x : VRs ι h l us) : ∀ n : Nat, VRs ι h (List.replicate n l).flatten (List.replicate n us).flatten
  | 0 => .nil
  | n + 1 => by rw [List.replicate_succ, List.flatten_cons, List.replicate_succ, List.flatten_cons]; exact x.append (x.rep n)
theorem mul_li {i : Nat} {l : List V} {n : Nat} (h1 : σ[i]? = some (.list l)) (hl : l ≠ []) (hz : l.length * n ≤ 1000) (hn : n ≤ 1000) (q : Q (.ref σ.length) (σ ++ [.list (List.replicate n l).flatten])) : W2 VR c S (binaryOp .Mult) (.ref i) (.int (n : Int)) ρ γ Q X σ := fun f ι s u v w hu hv => by
  obtain ⟨x, hx⟩ : ∃ x : Int, x = (n : Int) := ⟨_, rfl⟩
  rw [← hx] at hv
  have hxn : x.toNat = n := by omega
  cases hu with
  | ref hi =>
    rename_i a
    cases hv with
    | int _ t =>
      obtain ⟨us, k, ho, hr, _⟩ := w.sto i _ _ h1 hi
      have hsz : us.toArray.size * x.toNat ≤ 1000 := by rw [List.size_toArray, hr.length, hxn]; exact hz
      have hne : us.toArray.isEmpty = false := by
        have : us.length ≠ 0 := by rw [hr.length]; simpa using hl
        cases us with | nil => simp at this | cons a b => rfl
      have fin : PR VR c S f ι ρ γ s Q (.ref s.heap.objs.size) { s with heap := s.heap.push { cls := .type "list", data := .seq (List.foldl (fun x1 x2 => x1 ++ x2) #[] (List.replicate (if us.toArray.isEmpty = true then 0 else x.toNat) us.toArray)) } } := by
        rw [hne]
        simp only [Bool.false_eq_true, if_false]
        rw [foldl_rep, hxn]
        refine PR.newList (n := 0) w (fun b ob e => Heap.get?_push_of_some _ e) none_above (us := (List.replicate n us).flatten) ?_ (hr.rep n) q
        rw [Heap.get?_push_size _ rfl]
        simp
      have c0 : ¬(!Builtin.List.listFitsIndex x) = true := by simp [Builtin.List.listFitsIndex]; omega
      have c1 : ¬us.toArray.size * x.toNat > (2 ^ 63 - 1) / 8 := by omega
      have c2 : ¬Builtin.List.listTooLong (us.toArray.size * x.toNat) = true := by
        have : (1000 : Nat) ≤ sizeLine := by decide
        have h2 : us.length * x.toNat ≤ 1000 := by simpa using hsz
        simp only [Builtin.List.listTooLong]
        simp
        omega
      exact wpAny_binaryOp_repeat_ref (T := "list") (U := "int") (by decide) ⟨_, ho, rfl⟩ (fun s' => typeIs_int s' x t) noFill_list_mul F.fills_int_mul F.slot_int_rmul repeat_list F.slot_int_index.lookup
        (call_meets F.slot_int_rmul (typeIs_int s x t) F.entry_int_rmul (F.args_int_rmul_2 _ _) (int___rmul___int_list x t a us.toArray k)
          ⟨ho, rfl, ⟨_, ho, rfl⟩, call_meets F.slot_list_mul ⟨_, ho, rfl⟩ F.entry_list_mul (F.args_list_mul_2 _ _) (AutoListH.list___mul___list_int_3 a us.toArray k x t c0 c1 c2) ⟨ho, fin⟩⟩)

theorem noFill_tuple_mul : fillsNumberSlot (.type "tuple") "mul" = pure false :=
  PySem.fillsNumberSlot_seq (id := "tuple.__mul__") (r := some (.builtin "tuple.__rmul__")) F.slot_tuple_mul.lookup (by decide +kernel) F.slot_tuple_rmul.lookup (by decide +kernel)
theorem repeat_tuple : seqRepeat? (.type "tuple") = pure (some (.builtin "tuple.__mul__")) := by
  unfold seqRepeat?
  rw [PySem.seqSlot_of (T := "tuple") (name := "__mul__") (id := "tuple.__mul__") F.slot_tuple_mul.lookup (by decide +kernel), PySem.seqSlot_of (T := "tuple") (name := "__rmul__") (id := "tuple.__rmul__") F.slot_tuple_rmul.lookup (by decide +kernel)]
  rfl
theorem rmul_tup (a : Int) (t : Tok) (l : Addr) (od : Option Addr) (its : Array Value) (n : Nat) (sl : Array (Option Value)) : Meets (Builtin.«int.__rmul__» ⟨[.int a t, .ref l], []⟩) (fun _ R s => s.heap.get? l = some ⟨.type "tuple", od, .seq its n, sl⟩ ∧ R (.ok (.ret Value.notImplemented)) s) :=
  .of_wp fun prog w A R s h => by obtain ⟨hp, g, d, tk, os⟩ := s; obtain ⟨hl, h⟩ := h; wp_walk; exact ⟨_, rfl, h⟩
theorem mul_tup1 (l : Addr) (od : Option Addr) (v : Value) (n : Nat) (sl : Array (Option Value)) (u : Tok) : Meets (Builtin.«tuple.__mul__» ⟨[.ref l, .int 1 u], []⟩) (fun _ R s => s.heap.get? l = some ⟨.type "tuple", od, .seq #[v] n, sl⟩ ∧ R (.ok (.ret (.ref l))) s) :=
  .of_wp fun prog w A R s h => by obtain ⟨hp, g, d, tk, os⟩ := s; obtain ⟨hl, h⟩ := h; wp_walk; exact ⟨_, rfl, h⟩
theorem mul_tup2 (l : Addr) (od : Option Addr) (v : Value) (n : Nat) (sl : Array (Option Value)) (u : Tok) : Meets (Builtin.«tuple.__mul__» ⟨[.ref l, .int 2 u], []⟩) (fun _ R s => s.heap.get? l = some ⟨.type "tuple", od, .seq #[v] n, sl⟩ ∧ R (.ok (.ret (.ref s.heap.objs.size))) { s with heap := s.heap.push { cls := .type "tuple", data := .seq #[v, v] } }) :=
  .of_wp fun prog w A R s h => by obtain ⟨hp, g, d, tk, os⟩ := s; obtain ⟨hl, h⟩ := h; wp_walk; exact ⟨_, rfl, h⟩
theorem mul_tup3 (l : Addr) (od : Option Addr) (v : Value) (n : Nat) (sl : Array (Option Value)) (u : Tok) : Meets (Builtin.«tuple.__mul__» ⟨[.ref l, .int 3 u], []⟩) (fun _ R s => s.heap.get? l = some ⟨.type "tuple", od, .seq #[v] n, sl⟩ ∧ R (.ok (.ret (.ref s.heap.objs.size))) { s with heap := s.heap.push { cls := .type "tuple", data := .seq #[v, v, v] } }) :=
  .of_wp fun prog w A R s h => by obtain ⟨hp, g, d, tk, os⟩ := s; obtain ⟨hl, h⟩ := h; wp_walk; exact ⟨_, rfl, h⟩
theorem pow_c {a b : Int} {v : Int} (h0 : b ≥ 0) (h1 : ¬(b == 0) = true) (h2 : ¬(a == 0 || a == 1) = true) (h3 : ¬(a == -1) = true) (h4 : ¬Builtin.Int.intTooBig (((Builtin.Int.intBits a : Nat) : Int) * b) = true) (hv : a ^ b.toNat = v) (q : Q (.int v) σ) : W2 VR c S (binaryOp .Pow) (.int a) (.int b) ρ γ Q X σ := fun f ι s u w' w hu hv' => by
  subst hv
  cases hu; cases hv'
  exact AutoIntOps.pow_4 h0 h1 h2 h3 h4 (PR.tok w (.int _ _) q)
end
end

noncomputable def nthS : List Stmt → Nat → Stmt
  | s :: _, 0 => s
  | _ :: r, n + 1 => nthS r n
  | [], _ => .Pass default
noncomputable def bodyOf : Stmt → List Stmt
  | .FunctionDef _ _ b _ _ _ _ _ _ _ => b
  | .ClassDef _ _ _ (.FunctionDef _ _ b _ _ _ _ _ _ _ :: _) _ _ _ _ _ _ _ => b
  | _ => []
noncomputable def scopeOf : Stmt → Scope
  | .FunctionDef _ _ _ _ _ _ s _ _ _ => s
  | .ClassDef _ _ _ (.FunctionDef _ _ _ _ _ _ s _ _ _ :: _) _ _ _ _ _ _ _ => s
  | _ => default
noncomputable def ix01 (k : Nat) : Nat := if k < 16 then k + 2 else k + 3
noncomputable def b01 (k : Nat) : List Stmt := bodyOf (nthS PySem.Challenge.pw_uf020023_01.main.body (ix01 k))
noncomputable def s01 (k : Nat) : Scope := scopeOf (nthS PySem.Challenge.pw_uf020023_01.main.body (ix01 k))

structure E01 (c : C0) where
  a : Nat → Addr
  whole : c.mg "is_whole" = some (.ref (a 12)) ∧ FnAt c (a 12) ["thing"] (b01 12) (s01 12)
  within : c.mg "is_within" = some (.ref (a 13)) ∧ FnAt c (a 13) ["thing", "most"] (b01 13) (s01 13)
  row : c.mg "is_row" = some (.ref (a 14)) ∧ FnAt c (a 14) ["thing", "many"] (b01 14) (s01 14)
  init : FnAt c (a 15) ["self", "tops", "rows", "gain"] (b01 15) (s01 15)
  cell : c.mg "_law_cell_at" = some (.ref (a 16)) ∧ FnAt c (a 16) ["_law_script", "_law_k"] (b01 16) (s01 16)
  lwhole : c.mg "_law_whole" = some (.ref (a 17)) ∧ FnAt c (a 17) ["_law_found"] (b01 17) (s01 17)
  number : c.mg "_law_number" = some (.ref (a 18)) ∧ FnAt c (a 18) ["_law_cell", "_law_kind_here"] (b01 18) (s01 18)
  bound : c.mg "_law_bound" = some (.ref (a 19)) ∧ FnAt c (a 19) ["_law_cell", "_law_kind_here"] (b01 19) (s01 19)
  tops : c.mg "_law_tops" = some (.ref (a 20)) ∧ FnAt c (a 20) ["_law_script"] (b01 20) (s01 20)
  kind : c.mg "_law_kind" = some (.ref (a 21)) ∧ FnAt c (a 21) ["_law_script"] (b01 21) (s01 21)
  gain : c.mg "_law_gain" = some (.ref (a 22)) ∧ FnAt c (a 22) ["_law_script"] (b01 22) (s01 22)
  rows : c.mg "_law_rows" = some (.ref (a 23)) ∧ FnAt c (a 23) ["_law_script"] (b01 23) (s01 23)
  numbers : c.mg "_law_numbers" = some (.ref (a 24)) ∧ FnAt c (a 24) ["_law_found", "_law_due"] (b01 24) (s01 24)
  refused : c.mg "_law_refused" = some (.ref (a 25)) ∧ FnAt c (a 25) ["_law_tops_here", "_law_rows_here", "_law_gain_here"] (b01 25) (s01 25)
  put : c.mg "_law_put" = some (.ref (a 26)) ∧ FnAt c (a 26) ["_law_things", "_law_at", "_law_thing"] (b01 26) (s01 26)
  sprow : c.mg "_law_spoilt_row" = some (.ref (a 27)) ∧ FnAt c (a 27) ["_law_row", "_law_kind_here", "_law_cell"] (b01 27) (s01 27)
  spoilt : c.mg "_law_spoilt" = some (.ref (a 28)) ∧ FnAt c (a 28) ["_law_parts", "_law_kind_here", "_law_cell"] (b01 28) (s01 28)
  law : FnAt c (a 29) ["_law_script"] (b01 29) (s01 29)
  range : c.mg "range" = none
  len : c.mg "len" = none
  isi : c.mg "isinstance" = none
  list : c.mg "list" = none
  int : c.mg "int" = none
  bool : c.mg "bool" = none
  tuple : c.mg "tuple" = none
  str : c.mg "str" = none
  all : c.mg "all" = none
  min : c.mg "min" = none
  tk : Nat → Tok
  mUnk : c.mg "MOST_UNKNOWNS" = some (.int 3 (tk 0))
  mTop : c.mg "MOST_TOP" = some (.int 20 (tk 1))
  mRows : c.mg "MOST_ROWS" = some (.int 6 (tk 2))
  mNum : c.mg "MOST_NUMBER" = some (.int 50 (tk 3))
  mBound : c.mg "MOST_BOUND" = some (.int 2000 (tk 4))
  bp : Addr
  bad : ExcAt c "BadProblem" bp
  k : Nat → Addr
  k0 : c.mg "CutError" = some (.ref (k 0)) ∧ IsYes c bp (.ref (k 0))
  k2 : c.mg "BadPoint" = some (.ref (k 2)) ∧ IsNo c bp (.ref (k 2))
  k3 : c.mg "BadBox" = some (.ref (k 3)) ∧ IsNo c bp (.ref (k 3))
  k4 : c.mg "BadWeights" = some (.ref (k 4)) ∧ IsNo c bp (.ref (k 4))
  k5 : c.mg "NoTurn" = some (.ref (k 5)) ∧ IsNo c bp (.ref (k 5))
  k6 : c.mg "BadText" = some (.ref (k 6)) ∧ IsNo c bp (.ref (k 6))
  ve : c.mg "ValueError" = none ∧ IsYes c bp (.type "ValueError")
  pc : Addr
  pb : c.mg "Problem" = some (.ref pc)
  K : W.Frag
  KX : K.In c.base
  mkP : W.makesIn K pc = true ∧ W.findIn K (.ref pc) "__init__" = some (some (.ref (a 15))) ∧ W.typeIn K (.ref (a 15)) = some (.type "function")
  pl : PlI K pc ["tops", "rows", "gain"]
  keepP : W.keepIn K (.ref pc) = true

local macro_rules | `(tactic| walk_at "e") => `(tactic| first
  | ((with_reducible refine' name_L ?h1 ?h2 ?h4 ?h3); (case h1 => exact rfl); (case h2 => exact rfl); (case h3 => decide))
  | ((with_reducible refine' name_C ?h1 ?h2 ?h4 ?h3); (case h1 => exact rfl); (case h2 => exact rfl); (case h3 => decide))
  | ((with_reducible refine argsC ?h4 ?h1); (case h1 => intro _; exact rfl))
  | ((with_reducible refine mul_ii ?h1 ?h4); (case h1 => first | exact IntMulOk.of_left (by decide +kernel) | exact IntMulOk.of_right (by decide +kernel)))
  | ((with_reducible refine fmod_ii ?h1 ?h4); (case h1 => first | decide | omega))
  | ((with_reducible refine fdiv_ii ?h1 ?h2 ?h4); (case h1 => decide); (case h2 => exact pylong (n := 60) (by unfold Bd; decide) (by decide)))
  | ((with_reducible first | refine chain2 ?h4 ?h1 | refine tchain2 ?h4 ?h1 | refine cmp1 ?h4 ?h1 | refine tst1 ?h4 ?h1); (case h1 => with_unfolding_all exact rfl))
  | ((with_reducible first | refine item_tup0 ?h4 ?h1 | refine item_tup1 ?h4 ?h1 | refine sliceUp ?h4 ?h1 | refine sliceFrom ?h4 ?h1); (case h1 => intro _ _; with_unfolding_all exact rfl))
  | with_reducible first
    | refine const_int ?_ | refine const_bool ?_ | refine const_none ?_ | refine const_str ?_ | refine binOp ?_ | refine unOp ?_ | refine subscr ?_ | refine lstD ?_ | refine tupD ?_ | refine args0 ?_
    | refine add_ii ?_ | refine sub_ii ?_ | refine neg_i ?_ | refine eq_ii ?_ | refine ne_ii ?_ | refine lt_ii ?_ | refine le_ii ?_ | refine gt_ii ?_ | refine tstNot ?_ | refine truth_bool ?_
    | refine tstAnd ?_ | refine tstOr ?_ | refine tstAnd0 ?_ | refine tstOr0 ?_ | refine iT rfl ?_ | refine iN (nb rfl) ?_ | refine iNT ?_ | refine iTF ?_
  | rw [Bool.not_true]
  | rw [Bool.not_false])

theorem szOk {j : Nat} (h : j ≤ 1000) : j ≤ sizeLine := Nat.le_trans h (by decide)
noncomputable def cellAt (ns : List Int) (k : Int) : Int := ((if 0 < ns.length then ns.getD (k.fmod ns.length).toNat 0 else 0) + 17 * k) * 48271 |>.fmod 1000003
theorem cellAt_pos (ns : List Int) (k : Int) : 0 ≤ cellAt ns k ∧ cellAt ns k < 1000003 := ⟨Int.fmod_nonneg_of_pos _ (by decide), Int.fmod_lt_of_pos _ (by decide)⟩
noncomputable def okName (S : Stt) (scope : Scope) (y : Str × NameKind) : Bool := match y.2 with
  | .local => decide (scope.names.lookup y.1 = some .local)
  | .cell => false
  | .free => decide (S.kd y.1 = some .cell)
  | _ => true
theorem compOk {S : Stt} {scope : Scope} (hk : scope.kind = .function) (h : scope.names.all (okName S scope) = true) : CompOk S scope := by
  have g := List.all_eq_true.mp h
  refine ⟨hk, fun y hy e => ?_, fun y hy e => ?_, fun n hn => ?_⟩
  · have := g y hy; rw [okName, e] at this; exact of_decide_eq_true this
  · have := g y hy; rw [okName, e] at this; cases this
  · have := g _ hn; exact of_decide_eq_true this

theorem bo1 {a : Int} {P : Int → Prop} (q : ∀ z, -2000 ≤ z → z ≤ 2000 → P z) : P (a.fmod 41 - 12) := by
  have f := Int.fmod_nonneg_of_pos (a) (b := 41) (by decide)
  have g := Int.fmod_lt_of_pos (a) (b := 41) (by decide)
  exact q _ (by omega) (by omega)
theorem bo2 {a : Int} {P : Int → Prop} (q : ∀ z, -2000 ≤ z → z ≤ 2000 → P z) : P ((a.fdiv 4).fmod 4001 - 2000) := by
  have f := Int.fmod_nonneg_of_pos (a.fdiv 4) (b := 4001) (by decide)
  have g := Int.fmod_lt_of_pos (a.fdiv 4) (b := 4001) (by decide)
  exact q _ (by omega) (by omega)
theorem bo3 {a : Int} {P : Int → Prop} (q : ∀ z, -2000 ≤ z → z ≤ 2000 → P z) : P ((a.fdiv 4).fmod 401 - 200) := by
  have f := Int.fmod_nonneg_of_pos (a.fdiv 4) (b := 401) (by decide)
  have g := Int.fmod_lt_of_pos (a.fdiv 4) (b := 401) (by decide)
  exact q _ (by omega) (by omega)
theorem bo4 {a : Int} {P : Int → Prop} (q : ∀ z, -2000 ≤ z → z ≤ 2000 → P z) : P (2 + a.fmod 31) := by
  have f := Int.fmod_nonneg_of_pos (a) (b := 31) (by decide)
  have g := Int.fmod_lt_of_pos (a) (b := 31) (by decide)
  exact q _ (by omega) (by omega)
theorem nu1 {a : Int} {P : Int → Prop} (q : ∀ z, -50 ≤ z → z ≤ 50 → P z) : P (a.fmod 7 - 3) := by
  have f := Int.fmod_nonneg_of_pos a (b := 7) (by decide)
  have g := Int.fmod_lt_of_pos a (b := 7) (by decide)
  exact q _ (by omega) (by omega)
theorem nu2 {a : Int} {P : Int → Prop} (q : ∀ z, -50 ≤ z → z ≤ 50 → P z) : P (a.fmod 101 - 50) := by
  have f := Int.fmod_nonneg_of_pos a (b := 101) (by decide)
  have g := Int.fmod_lt_of_pos a (b := 101) (by decide)
  exact q _ (by omega) (by omega)
theorem nu3 {a : Int} {P : Int → Prop} (q : ∀ z, -50 ≤ z → z ≤ 50 → P z) : P (0 - 2 - a.fmod 11) := by
  have f := Int.fmod_nonneg_of_pos a (b := 11) (by decide)
  have g := Int.fmod_lt_of_pos a (b := 11) (by decide)
  exact q _ (by omega) (by omega)
theorem nu4 {a : Int} {P : Int → Prop} (q : ∀ z, -50 ≤ z → z ≤ 50 → P z) : P (2 + a.fmod 11) := by
  have f := Int.fmod_nonneg_of_pos a (b := 11) (by decide)
  have g := Int.fmod_lt_of_pos a (b := 11) (by decide)
  exact q _ (by omega) (by omega)
section
variable {c : C0} {S : Stt} {ρ γ : List (Str × V)} {σ : List O} {Q : V → List O → Prop} {X : Addr → List O → Prop}

theorem cell_ok (E : E01 c) (hn : S.n < 40) {i : Nat} {k : Int} {o : O} {ns : List Int} (h1 : σ[i]? = some o) (h2 : o.items? = some (ns.map V.int)) (hl : ns.length ≤ 63) (q : Q (.int (cellAt ns k)) σ) :
    WL VR c S (fun us => call (.ref (E.a 16)) us) [.ref i, .int k] ρ γ Q X σ := by
  refine callB [("_law_script", .ref i), ("_law_k", .int k)] [] E.cell.2 rfl (dm hn) (by repeat (first | exact Par.nil | refine Par.cons rfl rfl ?_)) (by repeat (first | exact Par.nil | refine Par.cons rfl rfl ?_)) ?_
  obtain ⟨w, hw⟩ : ∃ w, w = if 0 < ns.length then ns.getD (k.fmod ns.length).toNat 0 else 0 := ⟨_, rfl⟩
  have hc : cellAt ns k = ((w + 17 * k) * 48271).fmod 1000003 := by rw [cellAt, ← hw]
  (refine stsC ?_; first | ((with_reducible refine sAssL ?ha1 ?hd1 ?hb1); (case ha1 => exact rfl); (case hb1 => intro _; exact rfl)) | ((with_reducible refine sAssC ?ha1 ?hd1 ?hb1); (case ha1 => exact rfl); (case hb1 => intro _; exact rfl)) | (with_reducible first | refine sRet ?_ | refine sIf ?_) | ((with_reducible refine sExpr ?hd1 ?hb1); (case hb1 => intro _; exact rfl)))
  repeat walk_at "e"
  refine stsJ (J0 [("_law_k", .int k), ("_law_cell", .int w)] [] fun σ' => σ' = σ) ?_ ?_
  · refine sIf ?_
    repeat walk_at "e"
    refine callBu rfl E.len Boot.«len» (by decide) ?_
    repeat walk_at "e"
    refine len_ref h1 h2 (by simp; omega) ?_
    repeat walk_at "e"
    by_cases hp : 0 < ns.length
    · rw [if_pos hp] at hw
      refine iT (by first | exact dT hp | exact eT hp | exact nT hp | simpa using hp) ?_
      (refine stsC ?_; first | ((with_reducible refine sAssL ?ha2 ?hd2 ?hb2); (case ha2 => exact rfl); (case hb2 => intro _; exact rfl)) | ((with_reducible refine sAssC ?ha2 ?hd2 ?hb2); (case ha2 => exact rfl); (case hb2 => intro _; exact rfl)) | (with_reducible first | refine sRet ?_ | refine sIf ?_) | ((with_reducible refine sExpr ?hd2 ?hb2); (case hb2 => intro _; exact rfl)))
      repeat walk_at "e"
      refine callBu rfl E.len Boot.«len» (by decide) ?_
      repeat walk_at "e"
      refine len_ref h1 h2 (by simp; omega) ?_
      rw [List.length_map]
      refine fmod_ii (by omega) ?_
      have f0 : 0 ≤ k.fmod ns.length := Int.fmod_nonneg_of_pos _ (by omega)
      have f1 : k.fmod ns.length < ns.length := Int.fmod_lt_of_pos _ (by omega)
      refine item_list (v := .int w) h1 h2 f0 ?_ (by omega) ?_
      · have : (k.fmod ns.length).toNat < ns.length := by omega
        rw [hw]; simp [this]
      · exact sts0 ⟨rfl, _, _, by repeat (first | exact Sub.nil | refine Sub.cons rfl ?_), by repeat (first | exact Sub.nil | refine Sub.cons rfl ?_), rfl, rfl, rfl⟩
    · rw [if_neg hp] at hw
      refine iN (by simpa using hp) ?_
      rw [hw]
      exact sts0 ⟨rfl, _, _, by repeat (first | exact Sub.nil | refine Sub.cons rfl ?_), by repeat (first | exact Sub.nil | refine Sub.cons rfl ?_), rfl, rfl, rfl⟩
  · rintro _ _ _ ⟨rfl, rfl, rfl⟩
    (refine stsC ?_; first | ((with_reducible refine sAssL ?ha3 ?hd3 ?hb3); (case ha3 => exact rfl); (case hb3 => intro _; exact rfl)) | ((with_reducible refine sAssC ?ha3 ?hd3 ?hb3); (case ha3 => exact rfl); (case hb3 => intro _; exact rfl)) | (with_reducible first | refine sRet ?_ | refine sIf ?_) | ((with_reducible refine sExpr ?hd3 ?hb3); (case hb3 => intro _; exact rfl)))
    repeat walk_at "e"
    exact hc ▸ q

noncomputable def wholeB : V → Bool
  | .int _ => true
  | _ => false
noncomputable def withinB : V → Int → Bool
  | .int z, m => decide (-m ≤ z) && decide (z ≤ m)
  | _, _ => false
theorem whole_ok (E : E01 c) (hn : S.n < 45) {v : V} (hp : plainV σ v) (q : Q (.bool (wholeB v)) σ) : WL VR c S (fun us => call (.ref (E.a 12)) us) [v] ρ γ Q X σ := by
  refine callB [("thing", v)] [] E.whole.2 rfl (dm hn) (by repeat (first | exact Par.nil | refine Par.cons rfl rfl ?_)) (by repeat (first | exact Par.nil | refine Par.cons rfl rfl ?_)) ?_
  (refine stsC ?_; first | ((with_reducible refine sAssL ?ha4 ?hd4 ?hb4); (case ha4 => exact rfl); (case hb4 => intro _; exact rfl)) | ((with_reducible refine sAssC ?ha4 ?hd4 ?hb4); (case ha4 => exact rfl); (case hb4 => intro _; exact rfl)) | (with_reducible first | refine sRet ?_ | refine sIf ?_) | ((with_reducible refine sExpr ?hd4 ?hb4); (case hb4 => intro _; exact rfl)))
  refine boolAnd ?_
  refine callIsi rfl E.isi rfl E.int Boot.«int» (by decide) ?_
  repeat walk_at "e"
  refine isi_ty (T := .int) hp ?_
  cases v with
  | int k =>
    repeat walk_at "e"
    refine boolOp1 ?_
    repeat walk_at "e"
    refine callIsi rfl E.isi rfl E.bool Boot.«bool» (by decide) ?_
    repeat walk_at "e"
    refine isi_ty (T := .bool) hp ?_
    exact not_b q
  | bool b =>
    repeat walk_at "e"
    refine boolOp1 ?_
    repeat walk_at "e"
    refine callIsi rfl E.isi rfl E.bool Boot.«bool» (by decide) ?_
    repeat walk_at "e"
    refine isi_ty (T := .bool) hp ?_
    exact not_b q
  | exc C => exact hp.elim
  | none => repeat walk_at "e"; exact q
  | str x => repeat walk_at "e"; exact q
  | ref i => repeat walk_at "e"; exact q
  | tup l => repeat walk_at "e"; exact q

theorem within_ok (E : E01 c) (hn : S.n < 44) {v : V} {m : Int} (hp : plainV σ v) (q : Q (.bool (withinB v m)) σ) : WL VR c S (fun us => call (.ref (E.a 13)) us) [v, .int m] ρ γ Q X σ := by
  refine callB [("thing", v), ("most", .int m)] [] E.within.2 rfl (dm hn) (by repeat (first | exact Par.nil | refine Par.cons rfl rfl ?_)) (by repeat (first | exact Par.nil | refine Par.cons rfl rfl ?_)) ?_
  (refine stsC ?_; first | ((with_reducible refine sAssL ?ha5 ?hd5 ?hb5); (case ha5 => exact rfl); (case hb5 => intro _; exact rfl)) | ((with_reducible refine sAssC ?ha5 ?hd5 ?hb5); (case ha5 => exact rfl); (case hb5 => intro _; exact rfl)) | (with_reducible first | refine sRet ?_ | refine sIf ?_) | ((with_reducible refine sExpr ?hd5 ?hb5); (case hb5 => intro _; exact rfl)))
  refine boolAnd ?_
  refine callF E.whole.1 E.whole.2 rfl ?_
  repeat walk_at "e"
  refine whole_ok (S := S.deeper (s01 13)) E (dn hn) hp ?_
  cases v with
  | int z =>
    show W1 RB c _ truthy (.bool true) _ _ _ _ _
    repeat walk_at "e"
    refine boolOp1 ?_
    repeat walk_at "e"
    by_cases h1 : -m ≤ z
    · refine iT (by first | exact dT h1 | exact eT h1 | exact nT h1 | simpa using h1) ?_
      repeat walk_at "e"
      have : withinB (.int z) m = decide (z ≤ m) := by simp [withinB, h1]
      exact this ▸ q
    · refine iN (by first | exact dF h1 | exact eF h1 | exact nF h1 | simpa using h1) ?_
      have : withinB (.int z) m = decide (-m ≤ z) := by simp [withinB, h1]
      exact this ▸ q
  | exc C => exact hp.elim
  | none => (show W1 RB c _ truthy (.bool false) _ _ _ _ _); repeat walk_at "e"; exact q
  | str x => (show W1 RB c _ truthy (.bool false) _ _ _ _ _); repeat walk_at "e"; exact q
  | ref i => (show W1 RB c _ truthy (.bool false) _ _ _ _ _); repeat walk_at "e"; exact q
  | tup l => (show W1 RB c _ truthy (.bool false) _ _ _ _ _); repeat walk_at "e"; exact q
  | bool b => (show W1 RB c _ truthy (.bool false) _ _ _ _ _); repeat walk_at "e"; exact q

theorem number_ok (E : E01 c) (hn : S.n < 45) {a k : Int} (q : ∀ z, -50 ≤ z → z ≤ 50 → Q (.int z) σ) : WL VR c S (fun us => call (.ref (E.a 18)) us) [.int a, .int k] ρ γ Q X σ := by
  refine callB [("_law_cell", .int a), ("_law_kind_here", .int k)] [] E.number.2 rfl (dm hn) (by repeat (first | exact Par.nil | refine Par.cons rfl rfl ?_)) (by repeat (first | exact Par.nil | refine Par.cons rfl rfl ?_)) ?_
  (refine stsC ?_; first | ((with_reducible refine sAssL ?ha6 ?hd6 ?hb6); (case ha6 => exact rfl); (case hb6 => intro _; exact rfl)) | ((with_reducible refine sAssC ?ha6 ?hd6 ?hb6); (case ha6 => exact rfl); (case hb6 => intro _; exact rfl)) | (with_reducible first | refine sRet ?_ | refine sIf ?_) | ((with_reducible refine sExpr ?hd6 ?hb6); (case hb6 => intro _; exact rfl)))
  repeat walk_at "e"
  (try dsimp only [KI, KAn, KOr]); split
  · (refine stsC ?_; first | ((with_reducible refine sAssL ?ha7 ?hd7 ?hb7); (case ha7 => exact rfl); (case hb7 => intro _; exact rfl)) | ((with_reducible refine sAssC ?ha7 ?hd7 ?hb7); (case ha7 => exact rfl); (case hb7 => intro _; exact rfl)) | (with_reducible first | refine sRet ?_ | refine sIf ?_) | ((with_reducible refine sExpr ?hd7 ?hb7); (case hb7 => intro _; exact rfl)))
    repeat walk_at "e"
    exact nu1 (P := fun z => Q (.int z) σ) q
  · refine sts0 ?_
    (refine stsC ?_; first | ((with_reducible refine sAssL ?ha8 ?hd8 ?hb8); (case ha8 => exact rfl); (case hb8 => intro _; exact rfl)) | ((with_reducible refine sAssC ?ha8 ?hd8 ?hb8); (case ha8 => exact rfl); (case hb8 => intro _; exact rfl)) | (with_reducible first | refine sRet ?_ | refine sIf ?_) | ((with_reducible refine sExpr ?hd8 ?hb8); (case hb8 => intro _; exact rfl)))
    repeat walk_at "e"
    (try dsimp only [KI, KAn, KOr]); split
    · (refine stsC ?_; first | ((with_reducible refine sAssL ?ha9 ?hd9 ?hb9); (case ha9 => exact rfl); (case hb9 => intro _; exact rfl)) | ((with_reducible refine sAssC ?ha9 ?hd9 ?hb9); (case ha9 => exact rfl); (case hb9 => intro _; exact rfl)) | (with_reducible first | refine sRet ?_ | refine sIf ?_) | ((with_reducible refine sExpr ?hd9 ?hb9); (case hb9 => intro _; exact rfl)))
      repeat walk_at "e"
      exact nu2 (P := fun z => Q (.int z) σ) q
    · refine sts0 ?_
      (refine stsC ?_; first | ((with_reducible refine sAssL ?ha10 ?hd10 ?hb10); (case ha10 => exact rfl); (case hb10 => intro _; exact rfl)) | ((with_reducible refine sAssC ?ha10 ?hd10 ?hb10); (case ha10 => exact rfl); (case hb10 => intro _; exact rfl)) | (with_reducible first | refine sRet ?_ | refine sIf ?_) | ((with_reducible refine sExpr ?hd10 ?hb10); (case hb10 => intro _; exact rfl)))
      repeat walk_at "e"
      (try dsimp only [KI, KAn, KOr]); split
      · (refine stsC ?_; first | ((with_reducible refine sAssL ?ha11 ?hd11 ?hb11); (case ha11 => exact rfl); (case hb11 => intro _; exact rfl)) | ((with_reducible refine sAssC ?ha11 ?hd11 ?hb11); (case ha11 => exact rfl); (case hb11 => intro _; exact rfl)) | (with_reducible first | refine sRet ?_ | refine sIf ?_) | ((with_reducible refine sExpr ?hd11 ?hb11); (case hb11 => intro _; exact rfl)))
        repeat walk_at "e"
        exact nu3 (P := fun z => Q (.int z) σ) q
      · refine sts0 ?_
        (refine stsC ?_; first | ((with_reducible refine sAssL ?ha12 ?hd12 ?hb12); (case ha12 => exact rfl); (case hb12 => intro _; exact rfl)) | ((with_reducible refine sAssC ?ha12 ?hd12 ?hb12); (case ha12 => exact rfl); (case hb12 => intro _; exact rfl)) | (with_reducible first | refine sRet ?_ | refine sIf ?_) | ((with_reducible refine sExpr ?hd12 ?hb12); (case hb12 => intro _; exact rfl)))
        repeat walk_at "e"
        exact nu4 (P := fun z => Q (.int z) σ) q

theorem bound_ok (E : E01 c) (hn : S.n < 45) {a k : Int} (q : ∀ z, -2000 ≤ z → z ≤ 2000 → Q (.int z) σ) : WL VR c S (fun us => call (.ref (E.a 19)) us) [.int a, .int k] ρ γ Q X σ := by
  refine callB [("_law_cell", .int a), ("_law_kind_here", .int k)] [] E.bound.2 rfl (dm hn) (by repeat (first | exact Par.nil | refine Par.cons rfl rfl ?_)) (by repeat (first | exact Par.nil | refine Par.cons rfl rfl ?_)) ?_
  (refine stsC ?_; first | ((with_reducible refine sAssL ?ha13 ?hd13 ?hb13); (case ha13 => exact rfl); (case hb13 => intro _; exact rfl)) | ((with_reducible refine sAssC ?ha13 ?hd13 ?hb13); (case ha13 => exact rfl); (case hb13 => intro _; exact rfl)) | (with_reducible first | refine sRet ?_ | refine sIf ?_) | ((with_reducible refine sExpr ?hd13 ?hb13); (case hb13 => intro _; exact rfl)))
  repeat walk_at "e"
  (try dsimp only [KI, KAn, KOr]); split
  · (refine stsC ?_; first | ((with_reducible refine sAssL ?ha14 ?hd14 ?hb14); (case ha14 => exact rfl); (case hb14 => intro _; exact rfl)) | ((with_reducible refine sAssC ?ha14 ?hd14 ?hb14); (case ha14 => exact rfl); (case hb14 => intro _; exact rfl)) | (with_reducible first | refine sRet ?_ | refine sIf ?_) | ((with_reducible refine sExpr ?hd14 ?hb14); (case hb14 => intro _; exact rfl)))
    repeat walk_at "e"
    first | exact bo1 (P := fun z => Q (.int z) σ) q | exact bo2 (P := fun z => Q (.int z) σ) q | exact bo3 (P := fun z => Q (.int z) σ) q | exact bo4 (P := fun z => Q (.int z) σ) q
  · refine sts0 ?_
    (refine stsC ?_; first | ((with_reducible refine sAssL ?ha15 ?hd15 ?hb15); (case ha15 => exact rfl); (case hb15 => intro _; exact rfl)) | ((with_reducible refine sAssC ?ha15 ?hd15 ?hb15); (case ha15 => exact rfl); (case hb15 => intro _; exact rfl)) | (with_reducible first | refine sRet ?_ | refine sIf ?_) | ((with_reducible refine sExpr ?hd15 ?hb15); (case hb15 => intro _; exact rfl)))
    repeat walk_at "e"
    (try dsimp only [KI, KAn, KOr]); split
    · repeat walk_at "e"
      (try dsimp only [KI, KAn, KOr]); split
      · repeat walk_at "e"
        (refine stsC ?_; first | ((with_reducible refine sAssL ?ha16 ?hd16 ?hb16); (case ha16 => exact rfl); (case hb16 => intro _; exact rfl)) | ((with_reducible refine sAssC ?ha16 ?hd16 ?hb16); (case ha16 => exact rfl); (case hb16 => intro _; exact rfl)) | (with_reducible first | refine sRet ?_ | refine sIf ?_) | ((with_reducible refine sExpr ?hd16 ?hb16); (case hb16 => intro _; exact rfl)))
        repeat walk_at "e"
        first | exact bo1 (P := fun z => Q (.int z) σ) q | exact bo2 (P := fun z => Q (.int z) σ) q | exact bo3 (P := fun z => Q (.int z) σ) q | exact bo4 (P := fun z => Q (.int z) σ) q
      · repeat walk_at "e"
        refine sts0 ?_
        (refine stsC ?_; first | ((with_reducible refine sAssL ?ha17 ?hd17 ?hb17); (case ha17 => exact rfl); (case hb17 => intro _; exact rfl)) | ((with_reducible refine sAssC ?ha17 ?hd17 ?hb17); (case ha17 => exact rfl); (case hb17 => intro _; exact rfl)) | (with_reducible first | refine sRet ?_ | refine sIf ?_) | ((with_reducible refine sExpr ?hd17 ?hb17); (case hb17 => intro _; exact rfl)))
        repeat walk_at "e"
        refine iT (by assumption) ?_
        (refine stsC ?_; first | ((with_reducible refine sAssL ?ha18 ?hd18 ?hb18); (case ha18 => exact rfl); (case hb18 => intro _; exact rfl)) | ((with_reducible refine sAssC ?ha18 ?hd18 ?hb18); (case ha18 => exact rfl); (case hb18 => intro _; exact rfl)) | (with_reducible first | refine sRet ?_ | refine sIf ?_) | ((with_reducible refine sExpr ?hd18 ?hb18); (case hb18 => intro _; exact rfl)))
        repeat walk_at "e"
        first | exact bo1 (P := fun z => Q (.int z) σ) q | exact bo2 (P := fun z => Q (.int z) σ) q | exact bo3 (P := fun z => Q (.int z) σ) q | exact bo4 (P := fun z => Q (.int z) σ) q
    · repeat walk_at "e"
      refine sts0 ?_
      (refine stsC ?_; first | ((with_reducible refine sAssL ?ha19 ?hd19 ?hb19); (case ha19 => exact rfl); (case hb19 => intro _; exact rfl)) | ((with_reducible refine sAssC ?ha19 ?hd19 ?hb19); (case ha19 => exact rfl); (case hb19 => intro _; exact rfl)) | (with_reducible first | refine sRet ?_ | refine sIf ?_) | ((with_reducible refine sExpr ?hd19 ?hb19); (case hb19 => intro _; exact rfl)))
      repeat walk_at "e"
      (try dsimp only [KI, KAn, KOr]); split
      · (refine stsC ?_; first | ((with_reducible refine sAssL ?ha20 ?hd20 ?hb20); (case ha20 => exact rfl); (case hb20 => intro _; exact rfl)) | ((with_reducible refine sAssC ?ha20 ?hd20 ?hb20); (case ha20 => exact rfl); (case hb20 => intro _; exact rfl)) | (with_reducible first | refine sRet ?_ | refine sIf ?_) | ((with_reducible refine sExpr ?hd20 ?hb20); (case hb20 => intro _; exact rfl)))
        repeat walk_at "e"
        first | exact bo1 (P := fun z => Q (.int z) σ) q | exact bo2 (P := fun z => Q (.int z) σ) q | exact bo3 (P := fun z => Q (.int z) σ) q | exact bo4 (P := fun z => Q (.int z) σ) q
      · refine sts0 ?_
        (refine stsC ?_; first | ((with_reducible refine sAssL ?ha21 ?hd21 ?hb21); (case ha21 => exact rfl); (case hb21 => intro _; exact rfl)) | ((with_reducible refine sAssC ?ha21 ?hd21 ?hb21); (case ha21 => exact rfl); (case hb21 => intro _; exact rfl)) | (with_reducible first | refine sRet ?_ | refine sIf ?_) | ((with_reducible refine sExpr ?hd21 ?hb21); (case hb21 => intro _; exact rfl)))
        repeat walk_at "e"
        first | exact bo1 (P := fun z => Q (.int z) σ) q | exact bo2 (P := fun z => Q (.int z) σ) q | exact bo3 (P := fun z => Q (.int z) σ) q | exact bo4 (P := fun z => Q (.int z) σ) q
end

def Ints (lo hi : Int) (l : List V) : Prop := ∀ v ∈ l, ∃ z, v = .int z ∧ lo ≤ z ∧ z ≤ hi
theorem Ints.nil {lo hi : Int} : Ints lo hi [] := fun _ h => by cases h
theorem Ints.snoc {lo hi z : Int} {l : List V} (h : Ints lo hi l) (h1 : lo ≤ z) (h2 : z ≤ hi) : Ints lo hi (l ++ [.int z]) := fun v hv => by
  rcases List.mem_append.mp hv with q | q
  · exact h v q
  · rw [List.mem_singleton.mp q]; exact ⟨z, rfl, h1, h2⟩
theorem Ints.set {lo hi z : Int} {l : List V} (h : Ints lo hi l) (k : Nat) (h1 : lo ≤ z) (h2 : z ≤ hi) : Ints lo hi (l.set k (.int z)) := fun v hv => by
  rcases List.mem_or_eq_of_mem_set hv with q | q
  · exact h v q
  · exact ⟨z, q, h1, h2⟩
noncomputable def many (F : Int) : Nat := if F.fmod 4 = 0 then 1 else if F.fmod 4 = 1 then 2 else 3
theorem many_le (F : Int) : 1 ≤ many F ∧ many F ≤ 3 := by unfold many; split <;> (try split) <;> omega
theorem fm {F b : Int} (h : 0 < b) : 0 ≤ F.fmod b ∧ F.fmod b < b := ⟨Int.fmod_nonneg_of_pos F h, Int.fmod_lt_of_pos F h⟩
theorem b63 {z b : Int} (h : 0 ≤ z ∧ z < b) (hb : b ≤ 1000) : z < 2 ^ 63 := by omega
theorem ra {m : Nat} (h : m ≤ 1000) : (m : Int) < 2 ^ 62 := by omega
theorem rb {m : Nat} : -(2 ^ 62) ≤ (m : Int) := by omega
theorem m3 {m : Nat} (h : 1 ≤ m ∧ m ≤ 3) : m ≤ 1000 := by omega
theorem leL {z a b : Int} (h : 0 ≤ z ∧ z < a) (e : a ≤ b + 1) : z ≤ b := by omega
theorem toN {F : Int} {n m : Nat} (h : 0 ≤ F ∧ F < (n : Int)) (e : n = m) : ∃ a : Nat, F = a ∧ a < m := ⟨F.toNat, by omega, by omega⟩
theorem four (F : Int) : F.fmod 4 = 0 ∨ F.fmod 4 = 1 ∨ F.fmod 4 = 2 ∨ F.fmod 4 = 3 := by
  obtain ⟨a, ha, h⟩ := toN (n := 4) (fm (F := F) (b := 4) (by decide)) rfl
  rw [ha]
  match a, h with
  | 0, _ => exact .inl rfl
  | 1, _ => exact .inr (.inl rfl)
  | 2, _ => exact .inr (.inr (.inl rfl))
  | 3, _ => exact .inr (.inr (.inr rfl))
theorem two (F : Int) : F.fmod 2 = 0 ∨ F.fmod 2 = 1 := by
  obtain ⟨a, ha, h⟩ := toN (n := 2) (fm (F := F) (b := 2) (by decide)) rfl
  rw [ha]
  match a, h with
  | 0, _ => exact .inl rfl
  | 1, _ => exact .inr rfl
theorem many_get (F : Int) : ([V.int 1, V.int 2, V.int 3, V.int 3])[(F.fmod 4).toNat]? = some (V.int (many F : Nat)) := by
  rcases four F with h | h | h | h <;> simp [many, h]
theorem set_get {σ : List O} {i : Nat} {o o' : O} (h : σ[i]? = some o) : (σ.set i o')[i]? = some o' := List.getElem?_set_self (List.getElem?_eq_some_iff.mp h).1

section
variable {c : C0} {S : Stt} {ρ γ : List (Str × V)} {σ : List O} {Q : V → List O → Prop} {X : Addr → List O → Prop}

theorem kind_ok (E : E01 c) (hn : S.n < 38) {i : Nat} {ns : List Int} (h0 : σ[i]? = some (.ro (ns.map V.int))) (hl : ns.length ≤ 63) (q : Q (.int (((cellAt ns 0).fdiv 4).fmod 4)) σ) : WL VR c S (fun us => call (.ref (E.a 21)) us) [.ref i] ρ γ Q X σ := by
  refine callB [("_law_script", .ref i)] [] E.kind.2 rfl (dm hn) (by repeat (first | exact Par.nil | refine Par.cons rfl rfl ?_)) (by repeat (first | exact Par.nil | refine Par.cons rfl rfl ?_)) ?_
  (refine stsC ?_; first | ((with_reducible refine sAssL ?ha22 ?hd22 ?hb22); (case ha22 => exact rfl); (case hb22 => intro _; exact rfl)) | ((with_reducible refine sAssC ?ha22 ?hd22 ?hb22); (case ha22 => exact rfl); (case hb22 => intro _; exact rfl)) | (with_reducible first | refine sRet ?_ | refine sIf ?_) | ((with_reducible refine sExpr ?hd22 ?hb22); (case hb22 => intro _; exact rfl)))
  repeat walk_at "e"
  refine callF E.cell.1 E.cell.2 rfl ?_
  repeat walk_at "e"
  refine cell_ok (S := S.deeper (s01 21)) E (dn hn) h0 rfl hl ?_
  repeat walk_at "e"
  exact q

theorem tops_ok (E : E01 c) (hn : S.n < 38) (hq : S.q = true) {i : Nat} {ns : List Int} (h0 : σ[i]? = some (.ro (ns.map V.int))) (hl : ns.length ≤ 63)
    (q : ∀ i' l σ', σ <+: σ' → σ'[i']? = some (.list l) → l.length = many (cellAt ns 0) → Ints 0 20 l → Q (.ref i') σ') : WL VR c S (fun us => call (.ref (E.a 20)) us) [.ref i] ρ γ Q X σ := by
  refine callB [] [("_law_script", .ref i)] E.tops.2 rfl (dm hn) (by repeat (first | exact Par.nil | refine Par.cons rfl rfl ?_)) (by repeat (first | exact Par.nil | refine Par.cons rfl rfl ?_)) ?_
  have n40 : (S.deeper (s01 20)).n < 40 := dn hn
  have mle := many_le (cellAt ns 0)
  (refine stsC ?_; first | ((with_reducible refine sAssL ?ha23 ?hd23 ?hb23); (case ha23 => exact rfl); (case hb23 => intro _; exact rfl)) | ((with_reducible refine sAssC ?ha23 ?hd23 ?hb23); (case ha23 => exact rfl); (case hb23 => intro _; exact rfl)) | (with_reducible first | refine sRet ?_ | refine sIf ?_) | ((with_reducible refine sExpr ?hd23 ?hb23); (case hb23 => intro _; exact rfl)))
  repeat walk_at "e"
  refine ⟨by show 4 ≤ sizeLine; decide, ?_⟩
  repeat walk_at "e"
  refine callF E.cell.1 E.cell.2 rfl ?_
  repeat walk_at "e"
  refine cell_ok E n40 (pre_get (List.prefix_append _ _) h0) rfl hl ?_
  repeat walk_at "e"
  have f4 := fm (F := cellAt ns 0) (b := 4) (by decide)
  refine item_list List.getElem?_concat_length rfl f4.1 (many_get _) (b63 f4 (by decide)) ?_
  generalize hm : many (cellAt ns 0) = m at q mle ⊢
  have h1 := pre_get (List.prefix_append σ [O.list [V.int 1, V.int 2, V.int 3, V.int 3]]) h0
  have p1 := List.prefix_append σ [O.list [V.int 1, V.int 2, V.int 3, V.int 3]]
  generalize σ ++ [O.list [V.int 1, V.int 2, V.int 3, V.int 3]] = σ1 at h1 p1 ⊢
  refine stsC (sAssCompN hq (compOk rfl rfl) rfl rfl rfl ?_)
  refine wiRange rfl E.range Boot.«range» ?_
  repeat walk_at "e"
  refine ⟨_, rfl, (by first | exact ra (m3 mle) | omega), (by first | exact rb | omega), ?_⟩
  rw [Int.toNat_natCast]
  refine ⟨szOk (by rw [cnt_len]; omega), fun j rs σ' => σ1 = σ' ∧ rs.length = j ∧ Ints 0 20 rs, ⟨rfl, rfl, .nil⟩, ?_, ?_⟩
  · rintro j v rs _ hv hsrc ⟨rfl, hlen, hI⟩
    have hj : j < m := by have := (List.getElem?_eq_some_iff.mp hv).1; rwa [cnt_len] at this
    rw [cnt_get hj] at hv; cases hv
    repeat walk_at "e"
    refine callF E.cell.1 E.cell.2 rfl ?_
    repeat walk_at "e"
    refine cell_ok E (dn hn) h1 rfl hl ?_
    repeat walk_at "e"
    have f5 := fm (F := (cellAt ns (1 + j)).fdiv 4) (b := 5) (by decide)
    exact ⟨trivial, rfl, by simp [hlen], hI.snoc f5.1 (leL f5 (by decide))⟩
  rintro rs _ hrl _ ⟨rfl, hlen, hI⟩
  rw [cnt_len] at hlen
  have p2 : σ <+: σ1 ++ [O.list rs] := p1.trans (List.prefix_append _ _)
  have h2 : (σ1 ++ [O.list rs])[i]? = _ := pre_get (List.prefix_append _ _) h1
  have e2 : (σ1 ++ [O.list rs])[σ1.length]? = some (.list rs) := List.getElem?_concat_length
  have hlt : σ.length ≤ σ1.length := p1.length_le
  generalize σ1.length = it at e2 hlt ⊢
  generalize σ1 ++ [O.list rs] = σ2 at p2 h2 e2 ⊢
  clear p1 h1 hrl
  (refine stsC ?_; first | ((with_reducible refine sAssL ?ha24 ?hd24 ?hb24); (case ha24 => exact rfl); (case hb24 => intro _; exact rfl)) | ((with_reducible refine sAssC ?ha24 ?hd24 ?hb24); (case ha24 => exact rfl); (case hb24 => intro _; exact rfl)) | (with_reducible first | refine sRet ?_ | refine sIf ?_) | ((with_reducible refine sExpr ?hd24 ?hb24); (case hb24 => intro _; exact rfl)))
  refine callF E.cell.1 E.cell.2 rfl ?_
  repeat walk_at "e"
  refine cell_ok E n40 h2 rfl hl ?_
  generalize cellAt ns 1 = G
  refine stsJ (J0 [("_law_many", .int (m : Int)), ("_law_tops_here", .ref it), ("_law_cell", .int G)] [("_law_script", .ref i)] fun σ' => σ <+: σ' ∧ ∃ l, σ'[it]? = some (.list l) ∧ l.length = m ∧ Ints 0 20 l) ?_ ?_
  · refine sIf ?_
    repeat walk_at "e"
    (try dsimp only [KI, KAn, KOr]); split
    · refine forL hq rfl ?_
      refine wiRange rfl E.range Boot.«range» ?_
      refine callBu rfl E.min Boot.«min» (by decide) ?_
      repeat walk_at "e"
      refine min_ii hq ?_
      obtain ⟨mn, hmn, hmm⟩ : ∃ mn : Nat, (if (2 : Int) < m then 2 else (m : Int)) = mn ∧ mn ≤ m := by
        (try dsimp only [KI, KAn, KOr]); split
        · exact ⟨2, rfl, by omega⟩
        · exact ⟨m, rfl, Nat.le_refl _⟩
      rw [hmn]
      refine ⟨_, rfl, by omega, by omega, ?_⟩
      rw [Int.toNat_natCast]
      refine ⟨fun k => J0 [("_law_many", .int (m : Int)), ("_law_tops_here", .ref it), ("_law_cell", .int G)] [("_law_script", .ref i)] fun σ' => σ <+: σ' ∧ ∃ l, σ'[it]? = some (.list l) ∧ l.length = m ∧ Ints 0 20 l, ⟨_, _, by repeat (first | exact Sub.nil | refine Sub.cons rfl ?_), by repeat (first | exact Sub.nil | refine Sub.cons rfl ?_), rfl, rfl, p2, _, e2, hlen, hI⟩, ?_, ?_⟩
      · rintro k v _ _ σ3 hv _ ⟨rfl, rfl, p3, l, e3, hlen3, hI3⟩
        have hk : k < mn := by have := (List.getElem?_eq_some_iff.mp hv).1; rwa [cnt_len] at this
        rw [cnt_get hk] at hv; cases hv
        refine stsC (sSet ?_)
        repeat walk_at "e"
        refine callF E.cell.1 E.cell.2 rfl ?_
        repeat walk_at "e"
        refine cell_ok E n40 (pre_get p3 h0) rfl hl ?_
        repeat walk_at "e"
        have f21 := fm (F := (cellAt ns (1 + k)).fdiv 16) (b := 21) (by decide)
        refine ⟨_, _, _, rfl, rfl, e3, Int.natCast_nonneg _, by omega, by omega, ?_⟩
        exact sts0 ⟨trivial, _, _, by repeat (first | exact Sub.nil | refine Sub.cons rfl ?_), by repeat (first | exact Sub.nil | refine Sub.cons rfl ?_), rfl, rfl, pre_set p3 hlt, _, set_get e3, by simp [hlen3], hI3.set _ f21.1 (leL f21 (by decide))⟩
      · rintro _ _ σ3 _ ⟨rfl, rfl, p3, l, e3, hlen3, hI3⟩
        exact sts0 ⟨rfl, _, _, by repeat (first | exact Sub.nil | refine Sub.cons rfl ?_), by repeat (first | exact Sub.nil | refine Sub.cons rfl ?_), rfl, rfl, p3, _, e3, hlen3, hI3⟩
    · exact sts0 ⟨rfl, _, _, by repeat (first | exact Sub.nil | refine Sub.cons rfl ?_), by repeat (first | exact Sub.nil | refine Sub.cons rfl ?_), rfl, rfl, p2, _, e2, hlen, hI⟩
  rintro _ _ σ3 ⟨rfl, rfl, p3, l, e3, hlen3, hI3⟩
  refine stsJ (J0 [("_law_tops_here", .ref it)] [] fun σ' => σ <+: σ' ∧ ∃ l, σ'[it]? = some (.list l) ∧ l.length = m ∧ Ints 0 20 l) ?_ ?_
  · refine sIf ?_
    repeat walk_at "e"
    (try dsimp only [KI, KAn, KOr]); split
    · refine stsC (sSet ?_)
      repeat walk_at "e"
      refine callF E.cell.1 E.cell.2 rfl ?_
      repeat walk_at "e"
      refine cell_ok E n40 (pre_get p3 h0) rfl hl ?_
      repeat walk_at "e"
      have f21 := fm (F := G.fdiv 4) (b := 21) (by decide)
      have fmm := fm (F := (cellAt ns 0).fdiv 768) (b := m) (by omega)
      refine ⟨_, _, _, rfl, rfl, e3, fmm.1, by omega, by omega, ?_⟩
      exact sts0 ⟨rfl, _, _, by repeat (first | exact Sub.nil | refine Sub.cons rfl ?_), by repeat (first | exact Sub.nil | refine Sub.cons rfl ?_), rfl, rfl, pre_set p3 hlt, _, set_get e3, by simp [hlen3], hI3.set _ f21.1 (leL f21 (by decide))⟩
    · exact sts0 ⟨rfl, _, _, by repeat (first | exact Sub.nil | refine Sub.cons rfl ?_), by repeat (first | exact Sub.nil | refine Sub.cons rfl ?_), rfl, rfl, p3, _, e3, hlen3, hI3⟩
  rintro _ _ σ4 ⟨rfl, rfl, p4, l, e4, hlen4, hI4⟩
  (refine stsC ?_; first | ((with_reducible refine sAssL ?ha25 ?hd25 ?hb25); (case ha25 => exact rfl); (case hb25 => intro _; exact rfl)) | ((with_reducible refine sAssC ?ha25 ?hd25 ?hb25); (case ha25 => exact rfl); (case hb25 => intro _; exact rfl)) | (with_reducible first | refine sRet ?_ | refine sIf ?_) | ((with_reducible refine sExpr ?hd25 ?hb25); (case hb25 => intro _; exact rfl)))
  repeat walk_at "e"
  exact q _ _ _ p4 e4 hlen4 hI4

theorem gain_ok (E : E01 c) (hn : S.n < 36) (hq : S.q = true) {i : Nat} {ns : List Int} (h0 : σ[i]? = some (.ro (ns.map V.int))) (hl : ns.length ≤ 63)
    (q : ∀ i' l σ', σ <+: σ' → σ'[i']? = some (.list l) → l.length = many (cellAt ns 0) → Ints (-50) 50 l → Q (.ref i') σ') : WL VR c S (fun us => call (.ref (E.a 22)) us) [.ref i] ρ γ Q X σ := by
  refine callB [] [("_law_script", .ref i)] E.gain.2 rfl (dm hn) (by repeat (first | exact Par.nil | refine Par.cons rfl rfl ?_)) (by repeat (first | exact Par.nil | refine Par.cons rfl rfl ?_)) ?_
  have n40 : (S.deeper (s01 22)).n < 38 := by show S.n + 1 < 38; omega
  have mle := many_le (cellAt ns 0)
  (refine stsC ?_; first | ((with_reducible refine sAssL ?ha26 ?hd26 ?hb26); (case ha26 => exact rfl); (case hb26 => intro _; exact rfl)) | ((with_reducible refine sAssC ?ha26 ?hd26 ?hb26); (case ha26 => exact rfl); (case hb26 => intro _; exact rfl)) | (with_reducible first | refine sRet ?_ | refine sIf ?_) | ((with_reducible refine sExpr ?hd26 ?hb26); (case hb26 => intro _; exact rfl)))
  repeat walk_at "e"
  refine ⟨by show 4 ≤ sizeLine; decide, ?_⟩
  repeat walk_at "e"
  refine callF E.cell.1 E.cell.2 rfl ?_
  repeat walk_at "e"
  refine cell_ok E (by omega) (pre_get (List.prefix_append _ _) h0) rfl hl ?_
  repeat walk_at "e"
  have f4 := fm (F := cellAt ns 0) (b := 4) (by decide)
  refine item_list List.getElem?_concat_length rfl f4.1 (many_get _) (b63 f4 (by decide)) ?_
  generalize hm : many (cellAt ns 0) = m at q mle ⊢
  have h1 := pre_get (List.prefix_append σ [O.list [V.int 1, V.int 2, V.int 3, V.int 3]]) h0
  have p1 := List.prefix_append σ [O.list [V.int 1, V.int 2, V.int 3, V.int 3]]
  generalize σ ++ [O.list [V.int 1, V.int 2, V.int 3, V.int 3]] = σ1 at h1 p1 ⊢
  (refine stsC ?_; first | ((with_reducible refine sAssL ?ha27 ?hd27 ?hb27); (case ha27 => exact rfl); (case hb27 => intro _; exact rfl)) | ((with_reducible refine sAssC ?ha27 ?hd27 ?hb27); (case ha27 => exact rfl); (case hb27 => intro _; exact rfl)) | (with_reducible first | refine sRet ?_ | refine sIf ?_) | ((with_reducible refine sExpr ?hd27 ?hb27); (case hb27 => intro _; exact rfl)))
  refine compN hq (compOk rfl rfl) rfl ?_
  refine wiRange rfl E.range Boot.«range» ?_
  repeat walk_at "e"
  refine ⟨_, rfl, (by first | exact ra (m3 mle) | omega), (by first | exact rb | omega), ?_⟩
  rw [Int.toNat_natCast]
  refine ⟨szOk (by rw [cnt_len]; omega), fun j rs σ' => σ1 = σ' ∧ rs.length = j ∧ Ints (-50) 50 rs, ⟨rfl, rfl, .nil⟩, ?_, ?_⟩
  · rintro j v rs _ hv hsrc ⟨rfl, hlen, hI⟩
    have hj : j < m := by have := (List.getElem?_eq_some_iff.mp hv).1; rwa [cnt_len] at this
    rw [cnt_get hj] at hv; cases hv
    refine callF E.number.1 E.number.2 rfl ?_
    repeat walk_at "e"
    refine callF E.cell.1 E.cell.2 rfl ?_
    repeat walk_at "e"
    refine cell_ok E (dn hn) h1 rfl hl ?_
    repeat walk_at "e"
    refine callF E.kind.1 E.kind.2 rfl ?_
    repeat walk_at "e"
    refine kind_ok E (dn hn) h1 hl ?_
    repeat walk_at "e"
    refine number_ok E (dn hn) fun z z1 z2 => ?_
    exact ⟨trivial, rfl, by simp [hlen], hI.snoc z1 z2⟩
  rintro rs _ hrl _ ⟨rfl, hlen, hI⟩
  rw [cnt_len] at hlen
  exact q _ _ _ (p1.trans (List.prefix_append _ _)) List.getElem?_concat_length hlen hI
end

inductive RowG (m : Nat) (v : V) : Prop where
  | mk (ns : List V) (w : Str) (b : Int) (e : v = .tup [.tup ns, .str w, .int b]) (hl : ns.length = m) (hI : Ints (-50) 50 ns) (hw : w = "most" ∨ w = "least") (hb : -2000 ≤ b ∧ b ≤ 2000)
noncomputable def wordB : V → Bool
  | .str s => s == "most" || s == "least"
  | _ => false
noncomputable def rowB : V → Nat → Bool
  | .tup [.tup ns, w, b], m => ns.length == m && ns.all (withinB · 50) && wordB w && withinB b 2000
  | _, _ => false
theorem rowB_eq {ns : List V} {w b : V} {m : Nat} : rowB (.tup [.tup ns, w, b]) m = (ns.length == m && ns.all (withinB · 50) && wordB w && withinB b 2000) := rfl
def PV (σ : List O) (v : V) : Prop := plainV σ v ∧ ∀ l, v = .tup l → ∀ x ∈ l, plainV σ x ∧ ∀ l', x = .tup l' → ∀ y ∈ l', plainV σ y
theorem plain_pre {σ σ' : List O} {v : V} (h : σ <+: σ') (p : plainV σ v) : plainV σ' v := by
  cases v with
  | ref i => obtain ⟨o, l, e1, e2⟩ := p; exact ⟨o, l, pre_get h e1, e2⟩
  | _ => exact p
theorem PV.pre {σ σ' : List O} {v : V} (h : σ <+: σ') (p : PV σ v) : PV σ' v := ⟨plain_pre h p.1, fun l e x hx => ⟨plain_pre h (p.2 l e x hx).1, fun l' e' y hy => plain_pre h ((p.2 l e x hx).2 l' e' y hy)⟩⟩

section
variable {c : C0} {S : Stt} {ρ γ : List (Str × V)} {σ : List O} {Q : V → List O → Prop} {X : Addr → List O → Prop}

theorem boolBody {elt : Expr} {scope : Scope} {x : Str} {l : List V} {p : V → Bool} {Src : List O → Prop} {Qc : List V → List O → Prop} (hl : l.length ≤ 1000) (hsrc : ∀ σ', σ <+: σ' → Src σ')
    (helt : ∀ v ∈ l, ∀ σ', σ <+: σ' → ∀ Q : V → List O → Prop, (∀ σ'', σ' <+: σ'' → Q (.bool (p v)) σ'') → WE c (S.comp scope) elt [(x, v)] (compCells γ scope) Q (fun _ _ => False) σ')
    (q : ∀ σ', σ <+: σ' → Qc ((l.map p).map V.bool) σ') : CompBody c S elt scope (fun v => [(x, v)]) γ Qc l Src σ := by
  refine ⟨szOk hl, fun k rs σ' => σ <+: σ' ∧ rs = ((l.take k).map p).map V.bool, ⟨List.prefix_refl _, by simp⟩, ?_, ?_⟩
  · rintro k v rs σ' hv hs ⟨hpre, rfl⟩
    refine helt v (List.mem_of_getElem? hv) σ' hpre _ fun σ'' p'' => ⟨hsrc _ (hpre.trans p''), hpre.trans p'', ?_⟩
    rw [List.take_add_one, hv]
    simp
  · rintro rs σ' _ _ ⟨hpre, rfl⟩
    rw [List.take_length]
    exact q σ' hpre

theorem row_ok (E : E01 c) (hn : S.n < 42) (hq : S.q = true) {v : V} {m : Nat} (hp : PV σ v) (hz : ∀ l, v = .tup l → l.length ≤ 100 ∧ ∀ x ∈ l, ∀ l', x = .tup l' → l'.length ≤ 100) (hs : ∀ a x b, v = .tup [a, .str x, b] → PyData.strOk x = true) (q : ∀ σ', σ <+: σ' → Q (.bool (rowB v m)) σ') :
    WL VR c S (fun us => call (.ref (E.a 14)) us) [v, .int (m : Int)] ρ γ Q X σ := by
  refine callB [("thing", v), ("many", .int (m : Int))] [] E.row.2 rfl (dm hn) (by repeat (first | exact Par.nil | refine Par.cons rfl rfl ?_)) (by repeat (first | exact Par.nil | refine Par.cons rfl rfl ?_)) ?_
  have q0 := q σ (List.prefix_refl _)
  (refine stsC ?_; first | ((with_reducible refine sAssL ?ha28 ?hd28 ?hb28); (case ha28 => exact rfl); (case hb28 => intro _; exact rfl)) | ((with_reducible refine sAssC ?ha28 ?hd28 ?hb28); (case ha28 => exact rfl); (case hb28 => intro _; exact rfl)) | (with_reducible first | refine sRet ?_ | refine sIf ?_) | ((with_reducible refine sExpr ?hd28 ?hb28); (case hb28 => intro _; exact rfl)))
  repeat walk_at "e"
  refine tstP (callIsi rfl E.isi rfl E.tuple Boot.«tuple» (by decide) ?_)
  repeat walk_at "e"
  refine isi_ty (T := .tuple) hp.1 ?_
  cases v with
  | exc C => exact hp.1.elim
  | none => repeat walk_at "e"; (refine stsC ?_; first | ((with_reducible refine sAssL ?ha29 ?hd29 ?hb29); (case ha29 => exact rfl); (case hb29 => intro _; exact rfl)) | ((with_reducible refine sAssC ?ha29 ?hd29 ?hb29); (case ha29 => exact rfl); (case hb29 => intro _; exact rfl)) | (with_reducible first | refine sRet ?_ | refine sIf ?_) | ((with_reducible refine sExpr ?hd29 ?hb29); (case hb29 => intro _; exact rfl))); repeat walk_at "e"; exact q0
  | str x => repeat walk_at "e"; (refine stsC ?_; first | ((with_reducible refine sAssL ?ha30 ?hd30 ?hb30); (case ha30 => exact rfl); (case hb30 => intro _; exact rfl)) | ((with_reducible refine sAssC ?ha30 ?hd30 ?hb30); (case ha30 => exact rfl); (case hb30 => intro _; exact rfl)) | (with_reducible first | refine sRet ?_ | refine sIf ?_) | ((with_reducible refine sExpr ?hd30 ?hb30); (case hb30 => intro _; exact rfl))); repeat walk_at "e"; exact q0
  | ref i => repeat walk_at "e"; (refine stsC ?_; first | ((with_reducible refine sAssL ?ha31 ?hd31 ?hb31); (case ha31 => exact rfl); (case hb31 => intro _; exact rfl)) | ((with_reducible refine sAssC ?ha31 ?hd31 ?hb31); (case ha31 => exact rfl); (case hb31 => intro _; exact rfl)) | (with_reducible first | refine sRet ?_ | refine sIf ?_) | ((with_reducible refine sExpr ?hd31 ?hb31); (case hb31 => intro _; exact rfl))); repeat walk_at "e"; exact q0
  | int i => repeat walk_at "e"; (refine stsC ?_; first | ((with_reducible refine sAssL ?ha32 ?hd32 ?hb32); (case ha32 => exact rfl); (case hb32 => intro _; exact rfl)) | ((with_reducible refine sAssC ?ha32 ?hd32 ?hb32); (case ha32 => exact rfl); (case hb32 => intro _; exact rfl)) | (with_reducible first | refine sRet ?_ | refine sIf ?_) | ((with_reducible refine sExpr ?hd32 ?hb32); (case hb32 => intro _; exact rfl))); repeat walk_at "e"; exact q0
  | bool b => repeat walk_at "e"; (refine stsC ?_; first | ((with_reducible refine sAssL ?ha33 ?hd33 ?hb33); (case ha33 => exact rfl); (case hb33 => intro _; exact rfl)) | ((with_reducible refine sAssC ?ha33 ?hd33 ?hb33); (case ha33 => exact rfl); (case hb33 => intro _; exact rfl)) | (with_reducible first | refine sRet ?_ | refine sIf ?_) | ((with_reducible refine sExpr ?hd33 ?hb33); (case hb33 => intro _; exact rfl))); repeat walk_at "e"; exact q0
  | tup l =>
    have hzl := (hz l rfl).1
    repeat walk_at "e"
    refine callBu rfl E.len Boot.«len» (by decide) ?_
    repeat walk_at "e"
    refine len_tup (by omega) ?_
    repeat walk_at "e"
    by_cases h3 : l.length = 3
    · obtain ⟨a, w, b, rfl⟩ : ∃ a w b, l = [a, w, b] := by
        match l, h3 with
        | [a, w, b], _ => exact ⟨a, w, b, rfl⟩
      refine iN (by show ¬ ((3 : Int) != 3) = true; decide) ?_
      repeat walk_at "e"
      have hpa := hp.2 _ rfl a (.head _)
      have hpw := hp.2 _ rfl w (.tail _ (.head _))
      have hpb := hp.2 _ rfl b (.tail _ (.tail _ (.head _)))
      refine tstP (callIsi rfl E.isi rfl E.tuple Boot.«tuple» (by decide) ?_)
      repeat walk_at "e"
      refine isi_ty (T := .tuple) hpa.1 ?_
      cases a with
      | exc C => exact hpa.1.elim
      | none => repeat walk_at "e"; (refine stsC ?_; first | ((with_reducible refine sAssL ?ha34 ?hd34 ?hb34); (case ha34 => exact rfl); (case hb34 => intro _; exact rfl)) | ((with_reducible refine sAssC ?ha34 ?hd34 ?hb34); (case ha34 => exact rfl); (case hb34 => intro _; exact rfl)) | (with_reducible first | refine sRet ?_ | refine sIf ?_) | ((with_reducible refine sExpr ?hd34 ?hb34); (case hb34 => intro _; exact rfl))); repeat walk_at "e"; exact q0
      | str x => repeat walk_at "e"; (refine stsC ?_; first | ((with_reducible refine sAssL ?ha35 ?hd35 ?hb35); (case ha35 => exact rfl); (case hb35 => intro _; exact rfl)) | ((with_reducible refine sAssC ?ha35 ?hd35 ?hb35); (case ha35 => exact rfl); (case hb35 => intro _; exact rfl)) | (with_reducible first | refine sRet ?_ | refine sIf ?_) | ((with_reducible refine sExpr ?hd35 ?hb35); (case hb35 => intro _; exact rfl))); repeat walk_at "e"; exact q0
      | ref i => repeat walk_at "e"; (refine stsC ?_; first | ((with_reducible refine sAssL ?ha36 ?hd36 ?hb36); (case ha36 => exact rfl); (case hb36 => intro _; exact rfl)) | ((with_reducible refine sAssC ?ha36 ?hd36 ?hb36); (case ha36 => exact rfl); (case hb36 => intro _; exact rfl)) | (with_reducible first | refine sRet ?_ | refine sIf ?_) | ((with_reducible refine sExpr ?hd36 ?hb36); (case hb36 => intro _; exact rfl))); repeat walk_at "e"; exact q0
      | int i => repeat walk_at "e"; (refine stsC ?_; first | ((with_reducible refine sAssL ?ha37 ?hd37 ?hb37); (case ha37 => exact rfl); (case hb37 => intro _; exact rfl)) | ((with_reducible refine sAssC ?ha37 ?hd37 ?hb37); (case ha37 => exact rfl); (case hb37 => intro _; exact rfl)) | (with_reducible first | refine sRet ?_ | refine sIf ?_) | ((with_reducible refine sExpr ?hd37 ?hb37); (case hb37 => intro _; exact rfl))); repeat walk_at "e"; exact q0
      | bool b => repeat walk_at "e"; (refine stsC ?_; first | ((with_reducible refine sAssL ?ha38 ?hd38 ?hb38); (case ha38 => exact rfl); (case hb38 => intro _; exact rfl)) | ((with_reducible refine sAssC ?ha38 ?hd38 ?hb38); (case ha38 => exact rfl); (case hb38 => intro _; exact rfl)) | (with_reducible first | refine sRet ?_ | refine sIf ?_) | ((with_reducible refine sExpr ?hd38 ?hb38); (case hb38 => intro _; exact rfl))); repeat walk_at "e"; exact q0
      | tup ns =>
        have hzn := (hz _ rfl).2 _ (.head _) ns rfl
        repeat walk_at "e"
        refine callBu rfl E.len Boot.«len» (by decide) ?_
        repeat walk_at "e"
        refine len_tup (by omega) ?_
        repeat walk_at "e"
        by_cases hm : ns.length = m
        · refine iN (by first | exact dT (by omega) | exact dF (by omega) | exact eT (by omega) | exact eF (by omega) | exact nT (by omega) | exact nF (by omega) | (simp; omega)) ?_
          repeat walk_at "e"
          refine sts0 ?_
          (refine stsC ?_; first | ((with_reducible refine sAssL ?ha39 ?hd39 ?hb39); (case ha39 => exact rfl); (case hb39 => intro _; exact rfl)) | ((with_reducible refine sAssC ?ha39 ?hd39 ?hb39); (case ha39 => exact rfl); (case hb39 => intro _; exact rfl)) | (with_reducible first | refine sRet ?_ | refine sIf ?_) | ((with_reducible refine sExpr ?hd39 ?hb39); (case hb39 => intro _; exact rfl)))
          repeat walk_at "e"
          refine tstP (callBu rfl E.all boot_all (by decide) ?_)
          refine argsC ?_
          refine compN hq (compOk rfl rfl) rfl ?_
          refine wiTup ?_
          repeat walk_at "e"
          refine ⟨_, rfl, boolBody (p := fun v => withinB v 50) (by omega) (fun _ _ => trivial) (fun y hy σ' pre Q' q' => ?_) fun σ' pre => ?_⟩
          · refine callF E.within.1 E.within.2 rfl ?_
            repeat walk_at "e"
            refine name_G (v := .int 50) rfl E.mNum (fun _ _ => .int _ _) ?_
            repeat walk_at "e"
            exact within_ok E (dn hn) (plain_pre pre (hpa.2 ns rfl y hy)) (q' _ (List.prefix_refl _))
          · repeat walk_at "e"
            refine all_bools List.getElem?_concat_length rfl hq ?_
            have p1 : σ <+: σ' ++ [O.list ((ns.map fun v => withinB v 50).map V.bool)] := pre.trans (List.prefix_append _ _)
            generalize σ' ++ [O.list ((ns.map fun v => withinB v 50).map V.bool)] = σ1 at p1 ⊢
            have hall : (ns.map fun v => withinB v 50).all id = ns.all (withinB · 50) := by rw [List.all_map]; rfl
            rw [hall]
            have q1 := q _ p1
            have hr : rowB (.tup [.tup ns, w, b]) m = (ns.all (withinB · 50) && wordB w && withinB b 2000) := by simp [rowB_eq, hm]
            rw [hr] at q1
            cases hA : ns.all (withinB · 50) with
            | false =>
              rw [hA] at q1
              repeat walk_at "e"
              (refine stsC ?_; first | ((with_reducible refine sAssL ?ha40 ?hd40 ?hb40); (case ha40 => exact rfl); (case hb40 => intro _; exact rfl)) | ((with_reducible refine sAssC ?ha40 ?hd40 ?hb40); (case ha40 => exact rfl); (case hb40 => intro _; exact rfl)) | (with_reducible first | refine sRet ?_ | refine sIf ?_) | ((with_reducible refine sExpr ?hd40 ?hb40); (case hb40 => intro _; exact rfl)))
              repeat walk_at "e"
              exact q1
            | true =>
              rw [hA, Bool.true_and] at q1
              repeat walk_at "e"
              refine sts0 ?_
              (refine stsC ?_; first | ((with_reducible refine sAssL ?ha41 ?hd41 ?hb41); (case ha41 => exact rfl); (case hb41 => intro _; exact rfl)) | ((with_reducible refine sAssC ?ha41 ?hd41 ?hb41); (case ha41 => exact rfl); (case hb41 => intro _; exact rfl)) | (with_reducible first | refine sRet ?_ | refine sIf ?_) | ((with_reducible refine sExpr ?hd41 ?hb41); (case hb41 => intro _; exact rfl)))
              refine boolAnd ?_
              refine callIsi rfl E.isi rfl E.str Boot.«str» (by decide) ?_
              repeat walk_at "e"
              refine isi_ty (T := .str) (plain_pre p1 hpw.1) ?_
              cases w with
              | exc C => exact hpw.1.elim
              | none => repeat walk_at "e"; exact q1
              | tup x => repeat walk_at "e"; exact q1
              | ref i => repeat walk_at "e"; exact q1
              | int i => repeat walk_at "e"; exact q1
              | bool b => repeat walk_at "e"; exact q1
              | str x =>
                repeat walk_at "e"
                refine boolAnd ?_
                repeat walk_at "e"
                refine ⟨by show 2 ≤ sizeLine; decide, ?_⟩
                refine in_tup (.str x) (.cons (.str _) (.cons (.str _) .nil)) (by decide +kernel) (hs _ _ _ rfl) (by decide +kernel) ?_
                have hw : ([PyData.str "most", PyData.str "least"].any fun y => PyData.eqv y (.str x)) = wordB (.str x) := by
                  simp only [List.any_cons, List.any_nil, PyData.eqv, wordB, Bool.or_false]
                  rw [Bool.beq_comm (a := Str.ofString "most"), Bool.beq_comm (a := Str.ofString "least")]
                rw [hw]
                cases hW : wordB (.str x) with
                | false =>
                  rw [hW] at q1
                  repeat walk_at "e"
                  exact q1
                | true =>
                  rw [hW, Bool.true_and] at q1
                  repeat walk_at "e"
                  refine boolOp1 ?_
                  refine callF E.within.1 E.within.2 rfl ?_
                  repeat walk_at "e"
                  refine item_tup (by decide) rfl (by decide) ?_
                  repeat walk_at "e"
                  refine name_G (v := .int 2000) rfl E.mBound (fun _ _ => .int _ _) ?_
                  repeat walk_at "e"
                  exact within_ok (S := S.deeper (s01 14)) E (dn hn) (plain_pre p1 hpb.1) q1
        · refine iT (by first | exact dT (by omega) | exact dF (by omega) | exact eT (by omega) | exact eF (by omega) | exact nT (by omega) | exact nF (by omega) | (simp; omega)) ?_
          repeat walk_at "e"
          (refine stsC ?_; first | ((with_reducible refine sAssL ?ha42 ?hd42 ?hb42); (case ha42 => exact rfl); (case hb42 => intro _; exact rfl)) | ((with_reducible refine sAssC ?ha42 ?hd42 ?hb42); (case ha42 => exact rfl); (case hb42 => intro _; exact rfl)) | (with_reducible first | refine sRet ?_ | refine sIf ?_) | ((with_reducible refine sExpr ?hd42 ?hb42); (case hb42 => intro _; exact rfl)))
          repeat walk_at "e"
          have hr : rowB (.tup [.tup ns, w, b]) m = false := by simp [rowB_eq, hm]
          exact hr ▸ q0
    · refine iT (by first | exact dT (by omega) | exact dF (by omega) | exact eT (by omega) | exact eF (by omega) | exact nT (by omega) | exact nF (by omega) | (simp; omega)) ?_
      repeat walk_at "e"
      (refine stsC ?_; first | ((with_reducible refine sAssL ?ha43 ?hd43 ?hb43); (case ha43 => exact rfl); (case hb43 => intro _; exact rfl)) | ((with_reducible refine sAssC ?ha43 ?hd43 ?hb43); (case ha43 => exact rfl); (case hb43 => intro _; exact rfl)) | (with_reducible first | refine sRet ?_ | refine sIf ?_) | ((with_reducible refine sExpr ?hd43 ?hb43); (case hb43 => intro _; exact rfl)))
      repeat walk_at "e"
      have hr : rowB (.tup l) m = false := by
        rcases l with _ | ⟨a, _ | ⟨b, _ | ⟨d, _ | ⟨e, l⟩⟩⟩⟩
        · rfl
        · cases a <;> rfl
        · cases a <;> rfl
        · exact absurd rfl h3
        · cases a <;> rfl
      exact hr ▸ q0
end

inductive SeqV (σ : List O) : V → Bool → List V → Prop where
  | lst {i : Nat} {l : List V} : σ[i]? = some (.list l) → SeqV σ (.ref i) true l
  | tup {l : List V} : SeqV σ (.tup l) false l
theorem SeqV.pre {σ σ' : List O} {v : V} {b : Bool} {l : List V} (h : σ <+: σ') (s : SeqV σ v b l) : SeqV σ' v b l := by
  cases s with
  | lst e => exact .lst (pre_get h e)
  | tup => exact .tup
theorem SeqV.plain {σ : List O} {v : V} {b : Bool} {l : List V} (s : SeqV σ v b l) : plainV σ v := by
  cases s with
  | lst e => exact ⟨_, _, e, rfl⟩
  | tup => trivial
noncomputable def topB : V → Bool
  | .int z => decide (0 ≤ z) && decide (z ≤ 20)
  | _ => false
noncomputable def okP (tL : Bool) (lt : List V) (rL : Bool) (lr : List V) (gL : Bool) (lg : List V) : Bool :=
  tL && (decide (1 ≤ lt.length) && (decide (lt.length ≤ 3) && (lt.all topB && (rL && (decide (lr.length ≤ 6) && (lr.all (rowB · lt.length) && (gL && (decide (lg.length = lt.length) && lg.all (withinB · 50)))))))))
structure RowP (σ : List O) (v : V) : Prop where
  pv : PV σ v
  sz : ∀ l, v = .tup l → l.length ≤ 100 ∧ ∀ x ∈ l, ∀ l', x = .tup l' → l'.length ≤ 100
  st : ∀ a x b, v = .tup [a, .str x, b] → PyData.strOk x = true
theorem RowP.pre {σ σ' : List O} {v : V} (h : σ <+: σ') (p : RowP σ v) : RowP σ' v := ⟨p.pv.pre h, p.sz, p.st⟩

noncomputable def isD : O → Bool
  | .dict _ => true
  | _ => false
theorem setD {σ : List O} {i j : Nat} {o o' : O} {fs : List (Str × V)} (hd : σ[j]? = some (.dict fs)) (e : σ[i]? = some o') (h : isD o' = false) : (σ.set j o)[i]? = some o' := by
  rw [get_set_ne (fun q => by subst q; rw [hd] at e; cases e; cases h)]; exact e

section
variable {c : C0} {S : Stt} {ρ γ : List (Str × V)} {σ : List O} {Q : V → List O → Prop} {X : Addr → List O → Prop}

theorem make_ok (E : E01 c) (hn : S.n < 38) (hq : S.q = true) {vt vr vg : V} {tL rL gL : Bool} {lt lr lg : List V} (st : SeqV σ vt tL lt) (sr : SeqV σ vr rL lr) (sg : SeqV σ vg gL lg) (zt : lt.length ≤ 100) (zr : lr.length ≤ 100) (zg : lg.length ≤ 100)
    (pt : ∀ v ∈ lt, plainV σ v) (pr : ∀ v ∈ lr, RowP σ v) (pg : ∀ v ∈ lg, plainV σ v)
    (hX : okP tL lt rL lr gL lg = false → ∀ σ', σ <+: σ' → X E.bp σ')
    (hQ : okP tL lt rL lr gL lg = true → ∀ σ' i1 i2 i3, σ <+: σ' → σ'[σ.length + 1]? = some (.inst E.pc σ.length) → σ'[σ.length]? = some (.dict [("tops", .ref i1), ("rows", .ref i2), ("gain", .ref i3)]) →
      σ'[i1]? = some (.list lt) → σ'[i2]? = some (.list lr) → σ'[i3]? = some (.list lg) → σ.length ≤ i1 ∧ σ.length ≤ i2 ∧ σ.length ≤ i3 → Q (.ref (σ.length + 1)) σ') :
    WL VR c S (fun us => call (.ref E.pc) us) [vt, vr, vg] ρ γ Q X σ := by
  refine makeI [("self", .ref (σ.length + 1)), ("rows", vr), ("gain", vg)] [("tops", vt)] E.KX E.mkP.1 E.mkP.2.1 E.mkP.2.2 E.init rfl (by omega) (by repeat (first | exact Par.nil | refine Par.cons rfl rfl ?_)) (by repeat (first | exact Par.nil | refine Par.cons rfl rfl ?_)) ?_
  have p0 : σ <+: σ ++ [O.dict []] ++ [O.inst E.pc σ.length] := (List.prefix_append _ _).trans (List.prefix_append _ _)
  have d0 : (σ ++ [O.dict []] ++ [O.inst E.pc σ.length])[σ.length]? = some (.dict []) := pre_get (List.prefix_append _ _) List.getElem?_concat_length
  have i0 : (σ ++ [O.dict []] ++ [O.inst E.pc σ.length])[σ.length + 1]? = some (.inst E.pc σ.length) := by
    have : σ.length + 1 = (σ ++ [O.dict []]).length := by simp
    rw [this]; exact List.getElem?_concat_length
  generalize σ ++ [O.dict []] ++ [O.inst E.pc σ.length] = σ0 at p0 d0 i0 ⊢
  have st0 := st.pre p0
  have sr0 := sr.pre p0
  have sg0 := sg.pre p0
  have z4 : lt.length ≤ 1000 := Nat.le_trans zt (by decide)
  have z5 : lr.length ≤ 1000 := Nat.le_trans zr (by decide)
  have z6 : lg.length ≤ 1000 := Nat.le_trans zg (by decide)
  have z7 := l63 z4
  have z8 := l63 z5
  have z9 := l63 z6
  (refine stsC ?_; first | ((with_reducible refine sAssL ?ha44 ?hd44 ?hb44); (case ha44 => exact rfl); (case hb44 => intro _; exact rfl)) | ((with_reducible refine sAssC ?ha44 ?hd44 ?hb44); (case ha44 => exact rfl); (case hb44 => intro _; exact rfl)) | (with_reducible first | refine sRet ?_ | refine sIf ?_) | ((with_reducible refine sExpr ?hd44 ?hb44); (case hb44 => intro _; exact rfl)))
  repeat walk_at "e"
  refine tstP (callIsi rfl E.isi rfl E.list Boot.«list» (by decide) ?_)
  repeat walk_at "e"
  refine isi_ty (T := .list) st0.plain ?_
  cases st0 with
  | tup =>
    repeat walk_at "e"
    exact stsC (sRaise E.bad hq rfl (const_str (hX rfl _ p0)))
  | lst et =>
    rename_i it
    repeat walk_at "e"
    refine callBu rfl E.len Boot.«len» (by decide) ?_
    repeat walk_at "e"
    refine len_ref et rfl (by first | with_reducible assumption | omega) ?_
    repeat walk_at "e"
    by_cases h1 : 1 ≤ lt.length
    rotate_left
    · refine iN (by first | exact dT (by omega) | exact dF (by omega) | exact eT (by omega) | exact eF (by omega) | exact nT (by omega) | exact nF (by omega) | (simp; omega)) ?_
      repeat walk_at "e"
      exact stsC (sRaise E.bad hq rfl (const_str (hX (by simp [okP, h1]) _ p0)))
    refine iT (by first | exact dT (by omega) | exact dF (by omega) | exact eT (by omega) | exact eF (by omega) | exact nT (by omega) | exact nF (by omega) | (simp; omega)) ?_
    refine name_G (v := .int 3) rfl E.mUnk (fun _ _ => .int _ _) ?_
    repeat walk_at "e"
    by_cases h2 : lt.length ≤ 3
    rotate_left
    · have e : decide ((lt.length : Int) ≤ 3) = false := decide_eq_false (by omega)
      rw [e]
      repeat walk_at "e"
      exact stsC (sRaise E.bad hq rfl (const_str (hX (by simp [okP, h1, h2]) _ p0)))
    have e3 : decide ((lt.length : Int) ≤ 3) = true := decide_eq_true (by omega)
    rw [e3]
    repeat walk_at "e"
    refine sts0 ?_
    have ok2 : okP true lt rL lr gL lg = (lt.all topB && (rL && (decide (lr.length ≤ 6) && (lr.all (rowB · lt.length) && (gL && (decide (lg.length = lt.length) && lg.all (withinB · 50))))))) := by simp [okP, h1, h2]
    rw [ok2] at hX hQ
    -- all tops
    (refine stsC ?_; first | ((with_reducible refine sAssL ?ha45 ?hd45 ?hb45); (case ha45 => exact rfl); (case hb45 => intro _; exact rfl)) | ((with_reducible refine sAssC ?ha45 ?hd45 ?hb45); (case ha45 => exact rfl); (case hb45 => intro _; exact rfl)) | (with_reducible first | refine sRet ?_ | refine sIf ?_) | ((with_reducible refine sExpr ?hd45 ?hb45); (case hb45 => intro _; exact rfl)))
    repeat walk_at "e"
    refine tstP (callBu rfl E.all boot_all (by decide) ?_)
    refine argsC ?_
    refine compN hq (compOk rfl rfl) rfl ?_
    refine wiList ?_
    repeat walk_at "e"
    refine ⟨_, _, _, rfl, et, rfl, by omega, boolBody (p := topB) (by first | with_reducible assumption | omega) (fun σ' pre => ⟨_, pre_get pre et, rfl⟩) (fun y hy σ' pre Q' q' => ?_) fun σ1 p1 => ?_⟩
    · refine boolAnd ?_
      refine callF E.whole.1 E.whole.2 rfl ?_
      repeat walk_at "e"
      refine whole_ok E (by show S.n + 1 + 1 < 45; omega) (plain_pre (p0.trans pre) (pt y hy)) ?_
      have q1 := q' _ (List.prefix_refl _)
      have hyp := pt y hy
      cases y with
      | int z =>
        show W1 RB c _ truthy (.bool true) _ _ _ _ _
        repeat walk_at "e"
        refine boolOp1 ?_
        repeat walk_at "e"
        by_cases hz : 0 ≤ z
        · refine iT (by first | exact dT hz | exact eT hz | exact nT hz | simpa using hz) ?_
          refine name_G (v := .int 20) rfl E.mTop (fun _ _ => .int _ _) ?_
          repeat walk_at "e"
          have : topB (.int z) = decide (z ≤ 20) := by simp [topB, hz]
          exact this ▸ q1
        · refine iN (by first | exact dF hz | exact eF hz | exact nF hz | simpa using hz) ?_
          have : topB (.int z) = decide (0 ≤ z) := by simp [topB, hz]
          exact this ▸ q1
      | exc C => exact hyp.elim
      | none => (show W1 RB c _ truthy (.bool false) _ _ _ _ _); repeat walk_at "e"; exact q1
      | str x => (show W1 RB c _ truthy (.bool false) _ _ _ _ _); repeat walk_at "e"; exact q1
      | ref i => (show W1 RB c _ truthy (.bool false) _ _ _ _ _); repeat walk_at "e"; exact q1
      | tup l => (show W1 RB c _ truthy (.bool false) _ _ _ _ _); repeat walk_at "e"; exact q1
      | bool b => (show W1 RB c _ truthy (.bool false) _ _ _ _ _); repeat walk_at "e"; exact q1
    repeat walk_at "e"
    refine all_bools List.getElem?_concat_length rfl hq ?_
    have hall : (lt.map topB).all id = lt.all topB := by rw [List.all_map]; rfl
    rw [hall]
    have p2 := p1.trans (List.prefix_append σ1 [O.list ((lt.map topB).map V.bool)])
    generalize σ1 ++ [O.list ((lt.map topB).map V.bool)] = σ2 at p2 ⊢
    clear p1
    cases hA : lt.all topB with
    | false =>
      rw [hA] at hX
      repeat walk_at "e"
      exact stsC (sRaise E.bad hq rfl (const_str (hX rfl _ (p0.trans p2))))
    | true =>
      rw [hA, Bool.true_and] at hX hQ
      repeat walk_at "e"
      refine sts0 ?_
      have et2 := pre_get p2 et
      -- rows
      have sr2 := sr0.pre p2
      (refine stsC ?_; first | ((with_reducible refine sAssL ?ha46 ?hd46 ?hb46); (case ha46 => exact rfl); (case hb46 => intro _; exact rfl)) | ((with_reducible refine sAssC ?ha46 ?hd46 ?hb46); (case ha46 => exact rfl); (case hb46 => intro _; exact rfl)) | (with_reducible first | refine sRet ?_ | refine sIf ?_) | ((with_reducible refine sExpr ?hd46 ?hb46); (case hb46 => intro _; exact rfl)))
      repeat walk_at "e"
      refine tstP (callIsi rfl E.isi rfl E.list Boot.«list» (by decide) ?_)
      repeat walk_at "e"
      refine isi_ty (T := .list) sr2.plain ?_
      cases sr2 with
      | tup =>
        repeat walk_at "e"
        exact stsC (sRaise E.bad hq rfl (const_str (hX rfl _ (p0.trans p2))))
      | lst er =>
        rename_i ir
        rw [Bool.true_and] at hX hQ
        repeat walk_at "e"
        refine callBu rfl E.len Boot.«len» (by decide) ?_
        repeat walk_at "e"
        refine len_ref er rfl (by first | with_reducible assumption | omega) ?_
        refine name_G (v := .int 6) rfl E.mRows (fun _ _ => .int _ _) ?_
        repeat walk_at "e"
        by_cases h6 : lr.length ≤ 6
        rotate_left
        · refine iT (by first | exact dT (by omega) | exact dF (by omega) | exact eT (by omega) | exact eF (by omega) | exact nT (by omega) | exact nF (by omega) | (simp; omega)) ?_
          repeat walk_at "e"
          exact stsC (sRaise E.bad hq rfl (const_str (hX (by simp [h6]) _ (p0.trans p2))))
        refine iN (by first | exact dT (by omega) | exact dF (by omega) | exact eT (by omega) | exact eF (by omega) | exact nT (by omega) | exact nF (by omega) | (simp; omega)) ?_
        repeat walk_at "e"
        have ok3 : (decide (lr.length ≤ 6) && (lr.all (rowB · lt.length) && (gL && (decide (lg.length = lt.length) && lg.all (withinB · 50))))) = (lr.all (rowB · lt.length) && (gL && (decide (lg.length = lt.length) && lg.all (withinB · 50)))) := by simp [h6]
        rw [ok3] at hX hQ
        refine tstP (callBu rfl E.all boot_all (by decide) ?_)
        refine argsC ?_
        refine compN hq (compOk rfl rfl) rfl ?_
        refine wiList ?_
        repeat walk_at "e"
        refine ⟨_, _, _, rfl, er, rfl, by omega, boolBody (p := fun v => rowB v lt.length) (by first | with_reducible assumption | omega) (fun σ' pre => ⟨_, pre_get pre er, rfl⟩) (fun y hy σ' pre Q' q' => ?_) fun σ3 p3 => ?_⟩
        · refine callF E.row.1 E.row.2 rfl ?_
          repeat walk_at "e"
          refine callBu rfl E.len Boot.«len» (by decide) ?_
          repeat walk_at "e"
          refine len_ref (pre_get pre et2) rfl (by first | with_reducible assumption | omega) ?_
          repeat walk_at "e"
          have R := (pr y hy).pre (p0.trans (p2.trans pre))
          exact row_ok E (by show S.n + 1 + 1 < 42; omega) (by exact hq) R.pv R.sz R.st q'
        repeat walk_at "e"
        refine all_bools List.getElem?_concat_length rfl hq ?_
        have hall : (lr.map fun v => rowB v lt.length).all id = lr.all (rowB · lt.length) := by rw [List.all_map]; rfl
        rw [hall]
        have p4 := p2.trans (p3.trans (List.prefix_append σ3 [O.list ((lr.map fun v => rowB v lt.length).map V.bool)]))
        generalize σ3 ++ [O.list ((lr.map fun v => rowB v lt.length).map V.bool)] = σ4 at p4 ⊢
        clear p3
        cases hB : lr.all (rowB · lt.length) with
        | false =>
          rw [hB] at hX
          repeat walk_at "e"
          exact stsC (sRaise E.bad hq rfl (const_str (hX rfl _ (p0.trans p4))))
        | true =>
          rw [hB, Bool.true_and] at hX hQ
          repeat walk_at "e"
          refine sts0 ?_
          -- gain
          have sg4 := sg0.pre p4
          have et4 := pre_get p4 et
          (refine stsC ?_; first | ((with_reducible refine sAssL ?ha47 ?hd47 ?hb47); (case ha47 => exact rfl); (case hb47 => intro _; exact rfl)) | ((with_reducible refine sAssC ?ha47 ?hd47 ?hb47); (case ha47 => exact rfl); (case hb47 => intro _; exact rfl)) | (with_reducible first | refine sRet ?_ | refine sIf ?_) | ((with_reducible refine sExpr ?hd47 ?hb47); (case hb47 => intro _; exact rfl)))
          repeat walk_at "e"
          refine tstP (callIsi rfl E.isi rfl E.list Boot.«list» (by decide) ?_)
          repeat walk_at "e"
          refine isi_ty (T := .list) sg4.plain ?_
          cases sg4 with
          | tup =>
            repeat walk_at "e"
            exact stsC (sRaise E.bad hq rfl (const_str (hX rfl _ (p0.trans p4))))
          | lst eg =>
            rename_i ig
            rw [Bool.true_and] at hX hQ
            repeat walk_at "e"
            refine callBu rfl E.len Boot.«len» (by decide) ?_
            repeat walk_at "e"
            refine len_ref eg rfl (by first | with_reducible assumption | omega) ?_
            repeat walk_at "e"
            refine callBu rfl E.len Boot.«len» (by decide) ?_
            repeat walk_at "e"
            refine len_ref et4 rfl (by first | with_reducible assumption | omega) ?_
            repeat walk_at "e"
            by_cases hg : lg.length = lt.length
            rotate_left
            · refine iT (by first | exact dT (by omega) | exact dF (by omega) | exact eT (by omega) | exact eF (by omega) | exact nT (by omega) | exact nF (by omega) | (simp; omega)) ?_
              repeat walk_at "e"
              exact stsC (sRaise E.bad hq rfl (const_str (hX (by simp [hg]) _ (p0.trans p4))))
            refine iN (by first | exact dT (by omega) | exact dF (by omega) | exact eT (by omega) | exact eF (by omega) | exact nT (by omega) | exact nF (by omega) | (simp; omega)) ?_
            repeat walk_at "e"
            refine sts0 ?_
            have ok5 : (decide (lg.length = lt.length) && lg.all (withinB · 50)) = lg.all (withinB · 50) := by simp [hg]
            rw [ok5] at hX hQ
            (refine stsC ?_; first | ((with_reducible refine sAssL ?ha48 ?hd48 ?hb48); (case ha48 => exact rfl); (case hb48 => intro _; exact rfl)) | ((with_reducible refine sAssC ?ha48 ?hd48 ?hb48); (case ha48 => exact rfl); (case hb48 => intro _; exact rfl)) | (with_reducible first | refine sRet ?_ | refine sIf ?_) | ((with_reducible refine sExpr ?hd48 ?hb48); (case hb48 => intro _; exact rfl)))
            repeat walk_at "e"
            refine tstP (callBu rfl E.all boot_all (by decide) ?_)
            refine argsC ?_
            refine compN hq (compOk rfl rfl) rfl ?_
            refine wiList ?_
            repeat walk_at "e"
            refine ⟨_, _, _, rfl, eg, rfl, by omega, boolBody (p := fun v => withinB v 50) (by first | with_reducible assumption | omega) (fun σ' pre => ⟨_, pre_get pre eg, rfl⟩) (fun y hy σ' pre Q' q' => ?_) fun σ5 p5 => ?_⟩
            · refine callF E.within.1 E.within.2 rfl ?_
              repeat walk_at "e"
              refine name_G (v := .int 50) rfl E.mNum (fun _ _ => .int _ _) ?_
              repeat walk_at "e"
              exact within_ok E (by show S.n + 1 + 1 < 44; omega) (plain_pre (p0.trans (p4.trans pre)) (pg y hy)) (q' _ (List.prefix_refl _))
            repeat walk_at "e"
            refine all_bools List.getElem?_concat_length rfl hq ?_
            have hall : (lg.map fun v => withinB v 50).all id = lg.all (withinB · 50) := by rw [List.all_map]; rfl
            rw [hall]
            have p6 := p4.trans (p5.trans (List.prefix_append σ5 [O.list ((lg.map fun v => withinB v 50).map V.bool)]))
            generalize σ5 ++ [O.list ((lg.map fun v => withinB v 50).map V.bool)] = σ6 at p6 ⊢
            clear p5
            cases hC : lg.all (withinB · 50) with
            | false =>
              rw [hC] at hX
              repeat walk_at "e"
              exact stsC (sRaise E.bad hq rfl (const_str (hX rfl _ (p0.trans p6))))
            | true =>
              repeat walk_at "e"
              refine sts0 ?_
              have et6 := pre_get p6 et
              have er6 : σ6[ir]? = some (.list lr) := by cases sr0 with | lst e => exact pre_get p6 e
              have eg6 : σ6[ig]? = some (.list lg) := by cases sg0 with | lst e => exact pre_get p6 e
              have d6 := pre_get p6 d0
              have i6 := pre_get p6 i0
              have ps6 := p0.trans p6
              refine stsC (sAttr E.KX E.pl (.head _) ?_)
              refine callTy rfl E.list Boot.«list» (by decide) ?_
              repeat walk_at "e"
              refine list_ref et6 rfl (szOk (by first | with_reducible assumption | omega)) ?_
              repeat walk_at "e"
              have p7 := List.prefix_append σ6 [O.list lt]
              refine ⟨_, _, _, rfl, pre_get p7 i6, pre_get p7 d6, rfl, by decide, ?_⟩
              have n7 : (σ6 ++ [O.list lt])[σ6.length]? = some (.list lt) := List.getElem?_concat_length
              have ps8 := pre_set (o := O.dict (([] : List (Str × V)) ++ [(("tops" : Str), V.ref σ6.length)])) (ps6.trans p7) (Nat.le_refl _)
              have i8 := setD (o := O.dict (([] : List (Str × V)) ++ [(("tops" : Str), V.ref σ6.length)])) (pre_get p7 d6) (pre_get p7 i6) rfl
              have a8 := setD (o := O.dict (([] : List (Str × V)) ++ [(("tops" : Str), V.ref σ6.length)])) (pre_get p7 d6) n7 rfl
              have er8 := setD (o := O.dict (([] : List (Str × V)) ++ [(("tops" : Str), V.ref σ6.length)])) (pre_get p7 d6) (pre_get p7 er6) rfl
              have eg8 := setD (o := O.dict (([] : List (Str × V)) ++ [(("tops" : Str), V.ref σ6.length)])) (pre_get p7 d6) (pre_get p7 eg6) rfl
              have d8 := set_get (o' := O.dict (([] : List (Str × V)) ++ [(("tops" : Str), V.ref σ6.length)])) (pre_get p7 d6)
              generalize (σ6 ++ [O.list lt]).set σ.length (O.dict (([] : List (Str × V)) ++ [(("tops" : Str), V.ref σ6.length)])) = σ8 at ps8 i8 a8 er8 eg8 d8 ⊢
              have hj1 : σ.length ≤ σ6.length := ps6.length_le
              generalize σ6.length = j1 at a8 d8 hj1 ⊢
              clear p7 n7 et6 er6 eg6 d6 i6
              refine stsC (sAttr E.KX E.pl (.tail _ (.head _)) ?_)
              refine callTy rfl E.list Boot.«list» (by decide) ?_
              repeat walk_at "e"
              refine list_ref er8 rfl (szOk (by first | with_reducible assumption | omega)) ?_
              repeat walk_at "e"
              have p9 := List.prefix_append σ8 [O.list lr]
              refine ⟨_, _, _, rfl, pre_get p9 i8, pre_get p9 d8, rfl, by show 1 ≤ 100; decide, ?_⟩
              have n9 : (σ8 ++ [O.list lr])[σ8.length]? = some (.list lr) := List.getElem?_concat_length
              have ps10 := pre_set (o := O.dict ((([] : List (Str × V)) ++ [(("tops" : Str), V.ref j1)]) ++ [(("rows" : Str), V.ref σ8.length)])) (ps8.trans p9) (Nat.le_refl _)
              have i10 := setD (o := O.dict ((([] : List (Str × V)) ++ [(("tops" : Str), V.ref j1)]) ++ [(("rows" : Str), V.ref σ8.length)])) (pre_get p9 d8) (pre_get p9 i8) rfl
              have a10 := setD (o := O.dict ((([] : List (Str × V)) ++ [(("tops" : Str), V.ref j1)]) ++ [(("rows" : Str), V.ref σ8.length)])) (pre_get p9 d8) (pre_get p9 a8) rfl
              have b10 := setD (o := O.dict ((([] : List (Str × V)) ++ [(("tops" : Str), V.ref j1)]) ++ [(("rows" : Str), V.ref σ8.length)])) (pre_get p9 d8) n9 rfl
              have eg10 := setD (o := O.dict ((([] : List (Str × V)) ++ [(("tops" : Str), V.ref j1)]) ++ [(("rows" : Str), V.ref σ8.length)])) (pre_get p9 d8) (pre_get p9 eg8) rfl
              have d10 := set_get (o' := O.dict ((([] : List (Str × V)) ++ [(("tops" : Str), V.ref j1)]) ++ [(("rows" : Str), V.ref σ8.length)])) (pre_get p9 d8)
              generalize (σ8 ++ [O.list lr]).set σ.length (O.dict ((([] : List (Str × V)) ++ [(("tops" : Str), V.ref j1)]) ++ [(("rows" : Str), V.ref σ8.length)])) = σ10 at ps10 i10 a10 b10 eg10 d10 ⊢
              have hj2 : σ.length ≤ σ8.length := ps8.length_le
              generalize σ8.length = j2 at b10 d10 hj2 ⊢
              clear p9 n9 i8 a8 er8 eg8 d8
              refine stsC (sAttr E.KX E.pl (.tail _ (.tail _ (.head _))) ?_)
              refine callTy rfl E.list Boot.«list» (by decide) ?_
              repeat walk_at "e"
              refine list_ref eg10 rfl (szOk (by first | with_reducible assumption | omega)) ?_
              repeat walk_at "e"
              have p11 := List.prefix_append σ10 [O.list lg]
              refine ⟨_, _, _, rfl, pre_get p11 i10, pre_get p11 d10, rfl, by show 2 ≤ 100; decide, ?_⟩
              have n11 : (σ10 ++ [O.list lg])[σ10.length]? = some (.list lg) := List.getElem?_concat_length
              refine sts0 ⟨rfl, ?_⟩
              exact hQ hC _ j1 j2 σ10.length (pre_set (ps10.trans p11) (Nat.le_refl _)) (setD (pre_get p11 d10) (pre_get p11 i10) rfl) (set_get (pre_get p11 d10)) (setD (pre_get p11 d10) (pre_get p11 a10) rfl) (setD (pre_get p11 d10) (pre_get p11 b10) rfl) (setD (pre_get p11 d10) n11 rfl) ⟨hj1, hj2, ps10.length_le⟩
end

section
variable {c : C0} {S : Stt} {ρ γ : List (Str × V)} {σ : List O} {Q : V → List O → Prop} {X : Addr → List O → Prop}

theorem callK {K : W.Frag} {C : Addr} {x : Str} {p pos : Pos} {e : Expr} {rest : List Expr} (KX : K.In c.base) (hkp : W.keepIn K (.ref C) = true) (hg : c.mg x = some (.ref C)) (hk : S.kd x = some .globalImplicit)
    (h : WA c S pos (e :: rest) ρ γ (KL c S (fun us => call (.ref C) us) ρ γ Q X) X σ)
    (he : ∀ env, starEach (e :: rest) env = (false, eval e env) :: starEach rest env := by intro _; rfl) (hpl : ∀ env, (backTo pos (starEach rest env)).any (·.1) = false := by intro _; rfl) (hb : (x == ("__debug__" : Str)) = false := by decide)
    (hc : ∀ env, eval (.Call (.Name x p) (e :: rest) [] pos) env = (do callWith pos (← eval (.Name x p) env) [] (backTo pos (starEach (e :: rest) env)) (backToKw pos (keywordEach [] env))) := by intro _; rfl) :
    WE c S (.Call (.Name x p) (e :: rest) [] pos) ρ γ Q X σ := fun f ι s w => by
  refine Call_ (Name_function_global w.kind ((w.kinds x).trans hk) (loadGlobal_global (mg := c.mg) (by rw [w.glob]; exact w.gr.g.keeps w.base) hg ?_) hb) (hc _)
  refine W.callWith_K (first := []) KX hkp (wpAny_mono (h f ι s w) (fun us s₁ p => ?_) fun _ _ p => p) (he _) (hpl _)
  obtain ⟨vs, σ₁, ι₁, h₁, tk, rfl, A, w₁, r₁, q⟩ := p
  exact ⟨fun b o e => w₁.base b o (KX b o e), lift1 A (q f ι₁ _ us w₁ r₁)⟩

theorem rows_ok (E : E01 c) (hn : S.n < 36) (hq : S.q = true) {i : Nat} {ns : List Int} (h0 : σ[i]? = some (.ro (ns.map V.int))) (hl : ns.length ≤ 63)
    (q : ∀ i' l σ', σ <+: σ' → σ'[i']? = some (.list l) → l.length ≤ 6 → (∀ v ∈ l, RowG (many (cellAt ns 0)) v) → Q (.ref i') σ') : WL VR c S (fun us => call (.ref (E.a 23)) us) [.ref i] ρ γ Q X σ := by
  refine callB [] [("_law_script", .ref i)] E.rows.2 rfl (dm hn) (by repeat (first | exact Par.nil | refine Par.cons rfl rfl ?_)) (by repeat (first | exact Par.nil | refine Par.cons rfl rfl ?_)) ?_
  have n40 : (S.deeper (s01 23)).n < 40 := dn hn
  have mle := many_le (cellAt ns 0)
  (refine stsC ?_; first | ((with_reducible refine sAssL ?ha49 ?hd49 ?hb49); (case ha49 => exact rfl); (case hb49 => intro _; exact rfl)) | ((with_reducible refine sAssC ?ha49 ?hd49 ?hb49); (case ha49 => exact rfl); (case hb49 => intro _; exact rfl)) | (with_reducible first | refine sRet ?_ | refine sIf ?_) | ((with_reducible refine sExpr ?hd49 ?hb49); (case hb49 => intro _; exact rfl)))
  repeat walk_at "e"
  refine ⟨by show 4 ≤ sizeLine; decide, ?_⟩
  repeat walk_at "e"
  refine callF E.cell.1 E.cell.2 rfl ?_
  repeat walk_at "e"
  refine cell_ok E n40 (pre_get (List.prefix_append _ _) h0) rfl hl ?_
  repeat walk_at "e"
  have f4 := fm (F := cellAt ns 0) (b := 4) (by decide)
  refine item_list List.getElem?_concat_length rfl f4.1 (many_get _) (b63 f4 (by decide)) ?_
  generalize hm : many (cellAt ns 0) = m at q mle ⊢
  have h1 := pre_get (List.prefix_append σ [O.list [V.int 1, V.int 2, V.int 3, V.int 3]]) h0
  have p1 := List.prefix_append σ [O.list [V.int 1, V.int 2, V.int 3, V.int 3]]
  generalize σ ++ [O.list [V.int 1, V.int 2, V.int 3, V.int 3]] = σ1 at h1 p1 ⊢
  (refine stsC ?_; first | ((with_reducible refine sAssL ?ha50 ?hd50 ?hb50); (case ha50 => exact rfl); (case hb50 => intro _; exact rfl)) | ((with_reducible refine sAssC ?ha50 ?hd50 ?hb50); (case ha50 => exact rfl); (case hb50 => intro _; exact rfl)) | (with_reducible first | refine sRet ?_ | refine sIf ?_) | ((with_reducible refine sExpr ?hd50 ?hb50); (case hb50 => intro _; exact rfl)))
  refine callF E.kind.1 E.kind.2 rfl ?_
  repeat walk_at "e"
  refine kind_ok E (dn hn) h1 hl ?_
  generalize ((cellAt ns 0).fdiv 4).fmod 4 = kk
  (refine stsC ?_; first | ((with_reducible refine sAssL ?ha51 ?hd51 ?hb51); (case ha51 => exact rfl); (case hb51 => intro _; exact rfl)) | ((with_reducible refine sAssC ?ha51 ?hd51 ?hb51); (case ha51 => exact rfl); (case hb51 => intro _; exact rfl)) | (with_reducible first | refine sRet ?_ | refine sIf ?_) | ((with_reducible refine sExpr ?hd51 ?hb51); (case hb51 => intro _; exact rfl)))
  repeat walk_at "e"
  refine callF E.cell.1 E.cell.2 rfl ?_
  repeat walk_at "e"
  refine cell_ok E n40 h1 rfl hl ?_
  repeat walk_at "e"
  have f6 := fm (F := (cellAt ns 0).fdiv 16) (b := 6) (by decide)
  obtain ⟨sz, hsz, hs5⟩ : ∃ sz : Nat, ((cellAt ns 0).fdiv 16).fmod 6 = sz ∧ sz ≤ 6 := ⟨(((cellAt ns 0).fdiv 16).fmod 6).toNat, by omega, by omega⟩
  rw [hsz]
  refine stsJ (fun ρ γ σ' => ∃ sz : Nat, sz ≤ 6 ∧ ρ = ([("_law_many", .int (m : Int)), ("_law_size", .int (sz : Int))] : En) ∧ γ = ([("_law_script", .ref i), ("_law_kind_here", .int kk)] : En) ∧ σ1 = σ') ?_ ?_
  · refine sIf ?_
    repeat walk_at "e"
    refine callF E.cell.1 E.cell.2 rfl ?_
    repeat walk_at "e"
    refine cell_ok E n40 h1 rfl hl ?_
    repeat walk_at "e"
    (try dsimp only [KI, KAn, KOr]); split
    · (refine stsC ?_; first | ((with_reducible refine sAssL ?ha52 ?hd52 ?hb52); (case ha52 => exact rfl); (case hb52 => intro _; exact rfl)) | ((with_reducible refine sAssC ?ha52 ?hd52 ?hb52); (case ha52 => exact rfl); (case hb52 => intro _; exact rfl)) | (with_reducible first | refine sRet ?_ | refine sIf ?_) | ((with_reducible refine sExpr ?hd52 ?hb52); (case hb52 => intro _; exact rfl)))
      repeat walk_at "e"
      exact sts0 ⟨rfl, _, _, by repeat (first | exact Sub.nil | refine Sub.cons rfl ?_), by repeat (first | exact Sub.nil | refine Sub.cons rfl ?_), 6, by decide, rfl, rfl, rfl⟩
    · exact sts0 ⟨rfl, _, _, by repeat (first | exact Sub.nil | refine Sub.cons rfl ?_), by repeat (first | exact Sub.nil | refine Sub.cons rfl ?_), sz, hs5, rfl, rfl, rfl⟩
  clear hs5 hsz f6 sz
  rintro _ _ _ ⟨sz, hs6, rfl, rfl, rfl⟩
  (refine stsC ?_; first | ((with_reducible refine sAssL ?ha53 ?hd53 ?hb53); (case ha53 => exact rfl); (case hb53 => intro _; exact rfl)) | ((with_reducible refine sAssC ?ha53 ?hd53 ?hb53); (case ha53 => exact rfl); (case hb53 => intro _; exact rfl)) | (with_reducible first | refine sRet ?_ | refine sIf ?_) | ((with_reducible refine sExpr ?hd53 ?hb53); (case hb53 => intro _; exact rfl)))
  repeat walk_at "e"
  refine ⟨by decide, ?_⟩
  refine forL hq rfl ?_
  refine wiRange rfl E.range Boot.«range» ?_
  repeat walk_at "e"
  refine ⟨_, rfl, (by first | exact ra (m3 mle) | exact ra (Nat.le_trans hs6 (by decide)) | omega), (by first | exact rb | omega), ?_⟩
  rw [Int.toNat_natCast]
  refine ⟨fun k => J0 [("_law_many", .int (m : Int)), ("_law_rows_here", .ref σ1.length)] [("_law_script", .ref i), ("_law_kind_here", .int kk)] fun σ' => σ1 <+: σ' ∧ ∃ l, σ'[σ1.length]? = some (.list l) ∧ l.length = k ∧ ∀ v ∈ l, RowG m v,
    ⟨_, _, by repeat (first | exact Sub.nil | refine Sub.cons rfl ?_), by repeat (first | exact Sub.nil | refine Sub.cons rfl ?_), rfl, rfl, List.prefix_append _ _, [], List.getElem?_concat_length, rfl, fun _ h => by cases h⟩, ?_, ?_⟩
  · rintro k v _ _ σ2 hv _ ⟨rfl, rfl, p2, l, e2, hlen, hR⟩
    have hk : k < sz := by have := (List.getElem?_eq_some_iff.mp hv).1; rwa [cnt_len] at this
    rw [cnt_get hk] at hv; cases hv
    have h2 := pre_get p2 h1
    (refine stsC ?_; first | ((with_reducible refine sAssL ?ha54 ?hd54 ?hb54); (case ha54 => exact rfl); (case hb54 => intro _; exact rfl)) | ((with_reducible refine sAssC ?ha54 ?hd54 ?hb54); (case ha54 => exact rfl); (case hb54 => intro _; exact rfl)) | (with_reducible first | refine sRet ?_ | refine sIf ?_) | ((with_reducible refine sExpr ?hd54 ?hb54); (case hb54 => intro _; exact rfl)))
    repeat walk_at "e"
    generalize (7 : Int) + 4 * (k : Int) = fst
    refine stsC (sAssCompN hq (compOk rfl rfl) rfl rfl rfl ?_)
    refine wiRange rfl E.range Boot.«range» ?_
    repeat walk_at "e"
    refine ⟨_, rfl, (by first | exact ra (m3 mle) | exact ra (Nat.le_trans hs6 (by decide)) | omega), (by first | exact rb | omega), ?_⟩
    rw [Int.toNat_natCast]
    refine ⟨szOk (by rw [cnt_len]; omega), fun j rs σ' => σ2 = σ' ∧ rs.length = j ∧ Ints (-50) 50 rs, ⟨rfl, rfl, .nil⟩, ?_, ?_⟩
    · rintro j v rs _ hv hsrc ⟨rfl, hlen, hI⟩
      have hj : j < m := by have := (List.getElem?_eq_some_iff.mp hv).1; rwa [cnt_len] at this
      rw [cnt_get hj] at hv; cases hv
      refine callF E.number.1 E.number.2 rfl ?_
      repeat walk_at "e"
      refine callF E.cell.1 E.cell.2 rfl ?_
      repeat walk_at "e"
      refine cell_ok E (dn hn) h2 rfl hl ?_
      repeat walk_at "e"
      refine number_ok E (dn hn) fun z z1 z2 => ?_
      exact ⟨trivial, rfl, by simp [hlen], hI.snoc z1 z2⟩
    rintro nums _ hrl _ ⟨rfl, hlenN, hI⟩
    rw [cnt_len] at hlenN
    have p3 := List.prefix_append σ2 [O.list nums]
    have e3 : (σ2 ++ [O.list nums])[σ2.length]? = some (.list nums) := List.getElem?_concat_length
    generalize σ2.length = inum at e3 ⊢
    generalize σ2 ++ [O.list nums] = σ3 at p3 e3 ⊢
    (refine stsC ?_; first | ((with_reducible refine sAssL ?ha55 ?hd55 ?hb55); (case ha55 => exact rfl); (case hb55 => intro _; exact rfl)) | ((with_reducible refine sAssC ?ha55 ?hd55 ?hb55); (case ha55 => exact rfl); (case hb55 => intro _; exact rfl)) | (with_reducible first | refine sRet ?_ | refine sIf ?_) | ((with_reducible refine sExpr ?hd55 ?hb55); (case hb55 => intro _; exact rfl)))
    refine callF E.cell.1 E.cell.2 rfl ?_
    repeat walk_at "e"
    refine cell_ok E n40 (pre_get p3 h2) rfl hl ?_
    generalize cellAt ns (fst + 3) = G
    (refine stsC ?_; first | ((with_reducible refine sAssL ?ha56 ?hd56 ?hb56); (case ha56 => exact rfl); (case hb56 => intro _; exact rfl)) | ((with_reducible refine sAssC ?ha56 ?hd56 ?hb56); (case ha56 => exact rfl); (case hb56 => intro _; exact rfl)) | (with_reducible first | refine sRet ?_ | refine sIf ?_) | ((with_reducible refine sExpr ?hd56 ?hb56); (case hb56 => intro _; exact rfl)))
    repeat walk_at "e"
    refine ⟨by show 2 ≤ sizeLine; decide, ?_⟩
    repeat walk_at "e"
    have f2 := fm (F := G) (b := 2) (by decide)
    obtain ⟨w, hw, hww⟩ : ∃ w : Str, ([V.str "most", V.str "least"])[(G.fmod 2).toNat]? = some (.str w) ∧ (w = "most" ∨ w = "least") := by
      rcases two G with h | h <;> rw [h]
      · exact ⟨_, rfl, .inl rfl⟩
      · exact ⟨_, rfl, .inr rfl⟩
    refine item_list List.getElem?_concat_length rfl f2.1 hw (b63 f2 (by decide)) ?_
    have p4 := p3.trans (List.prefix_append σ3 [O.list [V.str "most", V.str "least"]])
    have e4 := pre_get (List.prefix_append σ3 [O.list [V.str "most", V.str "least"]]) e3
    generalize σ3 ++ [O.list [V.str "most", V.str "least"]] = σ4 at p4 e4 ⊢
    refine stsJ (fun ρ γ σ' => ∃ w : Str, (w = "most" ∨ w = "least") ∧ ρ = ([("_law_many", .int (m : Int)), ("_law_rows_here", .ref σ1.length), ("_law_numbers_here", .ref inum), ("_law_last", .int G), ("_law_word", .str w)] : En) ∧ γ = ([("_law_script", .ref i), ("_law_kind_here", .int kk)] : En) ∧ σ4 <+: σ') ?_ ?_
    · refine sIf ?_
      repeat walk_at "e"
      (try dsimp only [KI, KAn, KOr]); split
      · (refine stsC ?_; first | ((with_reducible refine sAssL ?ha57 ?hd57 ?hb57); (case ha57 => exact rfl); (case hb57 => intro _; exact rfl)) | ((with_reducible refine sAssC ?ha57 ?hd57 ?hb57); (case ha57 => exact rfl); (case hb57 => intro _; exact rfl)) | (with_reducible first | refine sRet ?_ | refine sIf ?_) | ((with_reducible refine sExpr ?hd57 ?hb57); (case hb57 => intro _; exact rfl)))
        repeat walk_at "e"
        refine ⟨by show 4 ≤ sizeLine; decide, ?_⟩
        repeat walk_at "e"
        have f4 := fm (F := G) (b := 4) (by decide)
        obtain ⟨w, hw, hww⟩ : ∃ w : Str, ([V.str "most", V.str "most", V.str "most", V.str "least"])[(G.fmod 4).toNat]? = some (.str w) ∧ (w = "most" ∨ w = "least") := by
          rcases four G with h | h | h | h <;> rw [h]
          · exact ⟨_, rfl, .inl rfl⟩
          · exact ⟨_, rfl, .inl rfl⟩
          · exact ⟨_, rfl, .inl rfl⟩
          · exact ⟨_, rfl, .inr rfl⟩
        refine item_list List.getElem?_concat_length rfl f4.1 hw (b63 f4 (by decide)) ?_
        exact sts0 ⟨rfl, _, _, by repeat (first | exact Sub.nil | refine Sub.cons rfl ?_), by repeat (first | exact Sub.nil | refine Sub.cons rfl ?_), w, hww, rfl, rfl, List.prefix_append _ _⟩
      · exact sts0 ⟨rfl, _, _, by repeat (first | exact Sub.nil | refine Sub.cons rfl ?_), by repeat (first | exact Sub.nil | refine Sub.cons rfl ?_), w, hww, rfl, rfl, List.prefix_refl _⟩
    clear hw hww w
    rintro _ _ σ5 ⟨w, hww, rfl, rfl, p5⟩
    have e5 := pre_get p5 e4
    have q5 := p4.trans p5
    have el5 := pre_get q5 e2
    (refine stsC ?_; first | ((with_reducible refine sAssL ?ha58 ?hd58 ?hb58); (case ha58 => exact rfl); (case hb58 => intro _; exact rfl)) | ((with_reducible refine sAssC ?ha58 ?hd58 ?hb58); (case ha58 => exact rfl); (case hb58 => intro _; exact rfl)) | (with_reducible first | refine sRet ?_ | refine sIf ?_) | ((with_reducible refine sExpr ?hd58 ?hb58); (case hb58 => intro _; exact rfl)))
    refine append_list' ?_
    repeat walk_at "e"
    refine ⟨_, rfl, ⟨_, el5⟩, ?_⟩
    repeat walk_at "e"
    refine callTy rfl E.tuple Boot.«tuple» (by decide) ?_
    repeat walk_at "e"
    refine tuple_ref e5 rfl (szOk (by omega)) ?_
    repeat walk_at "e"
    refine callF E.bound.1 E.bound.2 rfl ?_
    repeat walk_at "e"
    refine bound_ok (S := S.deeper (s01 23)) E (dn hn) fun b b1 b2 => ?_
    repeat walk_at "e"
    refine ⟨by show 3 ≤ sizeLine; decide, _, el5, szOk (by omega), ?_⟩
    refine sts0 ⟨trivial, _, _, by repeat (first | exact Sub.nil | refine Sub.cons rfl ?_), by repeat (first | exact Sub.nil | refine Sub.cons rfl ?_), rfl, rfl, pre_set (p2.trans q5) (Nat.le_refl _), _, set_get el5, by simp [hlen], fun v hv => ?_⟩
    rcases List.mem_append.mp hv with z | z
    · exact hR v z
    · rw [List.mem_singleton.mp z]; exact ⟨nums, w, b, rfl, hlenN, hI, hww, b1, b2⟩
  · rintro _ _ σ2 _ ⟨rfl, rfl, p2, l, e2, hlen, hR⟩
    rw [cnt_len] at hlen
    (refine stsC ?_; first | ((with_reducible refine sAssL ?ha59 ?hd59 ?hb59); (case ha59 => exact rfl); (case hb59 => intro _; exact rfl)) | ((with_reducible refine sAssC ?ha59 ?hd59 ?hb59); (case ha59 => exact rfl); (case hb59 => intro _; exact rfl)) | (with_reducible first | refine sRet ?_ | refine sIf ?_) | ((with_reducible refine sExpr ?hd59 ?hb59); (case hb59 => intro _; exact rfl)))
    repeat walk_at "e"
    exact q _ _ _ (p1.trans p2) e2 (by omega) hR

theorem refused_ok (E : E01 c) (hn : S.n < 36) (hq : S.q = true) {vt vr vg : V} {tL rL gL : Bool} {lt lr lg : List V} (st : SeqV σ vt tL lt) (sr : SeqV σ vr rL lr) (sg : SeqV σ vg gL lg) (zt : lt.length ≤ 100) (zr : lr.length ≤ 100) (zg : lg.length ≤ 100)
    (pt : ∀ v ∈ lt, plainV σ v) (pr : ∀ v ∈ lr, RowP σ v) (pg : ∀ v ∈ lg, plainV σ v) (hno : okP tL lt rL lr gL lg = false) (q : ∀ σ', Q (.bool true) σ') : WL VR c S (fun us => call (.ref (E.a 25)) us) [vt, vr, vg] ρ γ Q X σ := by
  refine callB [("_law_tops_here", vt), ("_law_rows_here", vr), ("_law_gain_here", vg)] [] E.refused.2 rfl (dm hn) (by repeat (first | exact Par.nil | refine Par.cons rfl rfl ?_)) (by repeat (first | exact Par.nil | refine Par.cons rfl rfl ?_)) ?_
  refine stsC (sTry E.bad rfl rfl ?_)
  (refine stsC ?_; first | ((with_reducible refine sAssL ?ha60 ?hd60 ?hb60); (case ha60 => exact rfl); (case hb60 => intro _; exact rfl)) | ((with_reducible refine sAssC ?ha60 ?hd60 ?hb60); (case ha60 => exact rfl); (case hb60 => intro _; exact rfl)) | (with_reducible first | refine sRet ?_ | refine sIf ?_) | ((with_reducible refine sExpr ?hd60 ?hb60); (case hb60 => intro _; exact rfl)))
  refine callK E.KX E.keepP E.pb rfl ?_
  repeat walk_at "e"
  refine make_ok (S := S.deeper (s01 25)) E (dn hn) hq st sr sg zt zr zg pt pr pg (fun _ σ' _ => ⟨rfl, ?_⟩) (fun h => by rw [hno] at h; cases h)
  (refine stsC ?_; first | ((with_reducible refine sAssL ?ha61 ?hd61 ?hb61); (case ha61 => exact rfl); (case hb61 => intro _; exact rfl)) | ((with_reducible refine sAssC ?ha61 ?hd61 ?hb61); (case ha61 => exact rfl); (case hb61 => intro _; exact rfl)) | (with_reducible first | refine sRet ?_ | refine sIf ?_) | ((with_reducible refine sExpr ?hd61 ?hb61); (case hb61 => intro _; exact rfl)))
  repeat walk_at "e"
  refine tstP (callIsiG rfl E.isi rfl E.k2.1 ?_)
  repeat walk_at "e"
  refine E.k2.2 ?_
  repeat walk_at "e"
  refine tstP (callIsiG rfl E.isi rfl E.k3.1 ?_)
  repeat walk_at "e"
  refine E.k3.2 ?_
  repeat walk_at "e"
  refine tstP (callIsiG rfl E.isi rfl E.k4.1 ?_)
  repeat walk_at "e"
  refine E.k4.2 ?_
  repeat walk_at "e"
  refine sts0 ?_
  (refine stsC ?_; first | ((with_reducible refine sAssL ?ha62 ?hd62 ?hb62); (case ha62 => exact rfl); (case hb62 => intro _; exact rfl)) | ((with_reducible refine sAssC ?ha62 ?hd62 ?hb62); (case ha62 => exact rfl); (case hb62 => intro _; exact rfl)) | (with_reducible first | refine sRet ?_ | refine sIf ?_) | ((with_reducible refine sExpr ?hd62 ?hb62); (case hb62 => intro _; exact rfl)))
  repeat walk_at "e"
  refine tstP (callIsiG rfl E.isi rfl E.k5.1 ?_)
  repeat walk_at "e"
  refine E.k5.2 ?_
  repeat walk_at "e"
  refine tstP (callIsiG rfl E.isi rfl E.k6.1 ?_)
  repeat walk_at "e"
  refine E.k6.2 ?_
  repeat walk_at "e"
  refine sts0 ?_
  (refine stsC ?_; first | ((with_reducible refine sAssL ?ha63 ?hd63 ?hb63); (case ha63 => exact rfl); (case hb63 => intro _; exact rfl)) | ((with_reducible refine sAssC ?ha63 ?hd63 ?hb63); (case ha63 => exact rfl); (case hb63 => intro _; exact rfl)) | (with_reducible first | refine sRet ?_ | refine sIf ?_) | ((with_reducible refine sExpr ?hd63 ?hb63); (case hb63 => intro _; exact rfl)))
  refine boolAnd ?_
  refine callIsiG rfl E.isi rfl E.k0.1 ?_
  repeat walk_at "e"
  refine E.k0.2 ?_
  repeat walk_at "e"
  refine boolOp1 ?_
  refine callIsi rfl E.isi rfl E.ve.1 Boot.«ValueError» (by decide) ?_
  repeat walk_at "e"
  exact E.ve.2 ⟨_, rfl, q _⟩
end

theorem tk0 {l : List V} {k n : Nat} (h : l.length ≤ n) : (l.take k).length ≤ n := by rw [List.length_take]; exact Nat.le_trans (Nat.min_le_right _ _) h
theorem dp0 {l : List V} {k n : Nat} (h : l.length ≤ n) : (l.drop k).length ≤ n := by rw [List.length_drop]; exact Nat.le_trans (Nat.sub_le _ _) h
theorem ap0 {l r : List V} {a b n : Nat} (h : l.length ≤ a) (h' : r.length ≤ b) (e : a + b ≤ n := by decide) : (l ++ r).length ≤ n := by rw [List.length_append]; exact Nat.le_trans (Nat.add_le_add h h') e
theorem ad0 {x y a b n : Nat} (h : x ≤ a) (h' : y ≤ b) (e : a + b ≤ n := by decide) : x + y ≤ n := Nat.le_trans (Nat.add_le_add h h') e
theorem la1 {l : List V} {k : Nat} {v : V} (h : l.length ≤ 100) : (l.take k).length + [v].length ≤ 1000 := ad0 (tk0 h) (Nat.le_refl 1)
theorem la2 {l : List V} {k : Nat} {v : V} (h : l.length ≤ 100) : (l.take k ++ [v]).length + (l.drop (k + 1)).length ≤ 1000 := ad0 (ap0 (n := 101) (tk0 h) (Nat.le_refl 1)) (dp0 h)
theorem la3 {l : List V} {k : Nat} {v : V} (h : l.length ≤ 40) : (l.take k ++ [v] ++ l.drop (k + 1)).length ≤ 100 := ap0 (ap0 (n := 41) (tk0 h) (Nat.le_refl 1)) (dp0 h)
theorem la4 {l : List V} {v : V} (h : l.length ≤ 100) : l.length + [v].length ≤ 1000 := ad0 h (Nat.le_refl 1)
theorem la5 {l : List V} {k : Nat} (h : l.length ≤ 100) : (l.take k).length ≤ 100 := tk0 h
theorem la6 {l : List V} {v : V} (h : l.length ≤ 40) : (l ++ [v]).length ≤ 100 := ap0 h (Nat.le_refl 1)
theorem la7 {l : List V} {k : Nat} (h : l.length ≤ 100) : (l.take k).length + (l.drop (k + 1)).length ≤ 1000 := ad0 (tk0 h) (dp0 h)
theorem la8 {l : List V} {k : Nat} (h : l.length ≤ 100) : (l.take k ++ l.drop (k + 1)).length ≤ 1000 := ap0 (tk0 h) (dp0 h)
theorem la9 {l : List V} {v : V} (h : l.length ≤ 100) : (l ++ [v]).length ≤ 1000 := ap0 h (Nat.le_refl 1)
theorem toN1 {F : Int} {n : Nat} (h : 0 ≤ F ∧ F < (n : Int) + 1) : ∃ a : Nat, F = a ∧ a ≤ n := ⟨F.toNat, by omega, by omega⟩
theorem ps {n m : Nat} (h : n = m) (h1 : 1 ≤ m) : (0 : Int) < (n : Int) := by omega
theorem ps1 {n : Nat} : (0 : Int) < (n : Int) + 1 := by omega
def Fl0 (σ : List O) (v : V) : Prop := plainV σ v ∧ ∀ l, v ≠ .tup l
theorem Ints.plain {lo hi : Int} {l : List V} (h : Ints lo hi l) (σ : List O) : ∀ v ∈ l, plainV σ v := fun v hv => by obtain ⟨z, rfl, _⟩ := h v hv; trivial
theorem rowP3 {σ : List O} {a w b : V} (ha : plainV σ a) (ha' : ∀ l, a = .tup l → l.length ≤ 100 ∧ ∀ y ∈ l, plainV σ y) (hw : Fl0 σ w) (hb : Fl0 σ b) (hs : ∀ x, w = .str x → PyData.strOk x = true) : RowP σ (.tup [a, w, b]) := by
  refine ⟨⟨trivial, fun l e x hx => ?_⟩, fun l e => ?_, fun a' x b' e => ?_⟩
  · cases e
    rcases List.mem_cons.mp hx with rfl | hx
    · exact ⟨ha, fun l' e' y hy => (ha' l' e').2 y hy⟩
    · rcases List.mem_cons.mp hx with rfl | hx
      · exact ⟨hw.1, fun l' e' => absurd e' (hw.2 l')⟩
      · rcases List.mem_cons.mp hx with rfl | hx
        · exact ⟨hb.1, fun l' e' => absurd e' (hb.2 l')⟩
        · cases hx
  · cases e
    refine ⟨by show 3 ≤ 100; decide, fun x hx l' e' => ?_⟩
    rcases List.mem_cons.mp hx with rfl | hx
    · exact (ha' l' e').1
    · rcases List.mem_cons.mp hx with rfl | hx
      · exact absurd e' (hw.2 l')
      · rcases List.mem_cons.mp hx with rfl | hx
        · exact absurd e' (hb.2 l')
        · cases hx
  · cases e; exact hs x rfl
theorem rowP_ref {σ : List O} {j : Nat} {l : List V} (e : σ[j]? = some (.list l)) : RowP σ (.ref j) := ⟨⟨⟨_, _, e, rfl⟩, fun l e => (by cases e)⟩, fun l e => (by cases e), fun _ _ _ e => (by cases e)⟩
theorem rowP2 {σ : List O} {a w : V} (ha : plainV σ a) (ha' : ∀ l, a = .tup l → l.length ≤ 100 ∧ ∀ y ∈ l, plainV σ y) (hw : Fl0 σ w) : RowP σ (.tup [a, w]) := by
  refine ⟨⟨trivial, fun l e x hx => ?_⟩, fun l e => ?_, fun a' x b' e => by cases e⟩
  · cases e
    rcases List.mem_cons.mp hx with rfl | hx
    · exact ⟨ha, fun l' e' y hy => (ha' l' e').2 y hy⟩
    · rcases List.mem_cons.mp hx with rfl | hx
      · exact ⟨hw.1, fun l' e' => absurd e' (hw.2 l')⟩
      · cases hx
  · cases e
    refine ⟨by show 2 ≤ 100; decide, fun x hx l' e' => ?_⟩
    rcases List.mem_cons.mp hx with rfl | hx
    · exact (ha' l' e').1
    · rcases List.mem_cons.mp hx with rfl | hx
      · exact absurd e' (hw.2 l')
      · cases hx
theorem rowG_p {σ : List O} {m : Nat} (hm : m ≤ 3) {v : V} (h : RowG m v) : RowP σ v := by
  obtain ⟨ns, w, b, rfl, hl, hI, hw, _, _⟩ := h
  refine rowP3 trivial (fun l e => by cases e; exact ⟨by omega, hI.plain σ⟩) ⟨trivial, fun l e => by cases e⟩ ⟨trivial, fun l e => by cases e⟩ (fun x e => ?_)
  cases e
  rcases hw with rfl | rfl <;> decide +kernel
theorem five (F : Int) : F.fmod 5 = 0 ∨ F.fmod 5 = 1 ∨ F.fmod 5 = 2 ∨ F.fmod 5 = 3 ∨ F.fmod 5 = 4 := by
  obtain ⟨a, ha, h⟩ := toN (n := 5) (fm (F := F) (b := 5) (by decide)) rfl
  rw [ha]
  match a, h with
  | 0, _ => exact .inl rfl
  | 1, _ => exact .inr (.inl rfl)
  | 2, _ => exact .inr (.inr (.inl rfl))
  | 3, _ => exact .inr (.inr (.inr (.inl rfl)))
  | 4, _ => exact .inr (.inr (.inr (.inr rfl)))
theorem all_no {l : List V} {p : V → Bool} {v : V} (hv : v ∈ l) (h : p v = false) : l.all p = false := by
  rw [Bool.eq_false_iff]; intro q
  have := List.all_eq_true.mp q v hv
  rw [h] at this; cases this

section
variable {c : C0} {S : Stt} {ρ γ : List (Str × V)} {σ : List O} {Q : V → List O → Prop} {X : Addr → List O → Prop}

theorem mul_ti {v : V} {n : Nat} (hn : n = 1 ∨ n = 2 ∨ n = 3) (q : Q (.tup (List.replicate n v)) σ) : W2 VR c S (binaryOp .Mult) (.tup [v]) (.int (n : Int)) ρ γ Q X σ := fun f ι s u v' w hu hv => by
  cases hu with
  | tup ht hr =>
    rename_i a us
    cases hr with
    | cons r rs =>
      cases rs
      rename_i uv
      cases hv with
      | int _ t =>
        obtain ⟨⟨oc, od, oda, osl⟩, ho, hc, n', hd⟩ := id ht
        dsimp only at hc hd
        subst hc hd
        have go : ∀ (x : Int), wpAny c.M f.A (call (.builtin "tuple.__mul__") [.ref a, .int x t]) (PR VR c S f ι ρ γ s Q) (PX c S f ι ρ γ s X) s → wpAny c.M f.A (binaryOp .Mult (.ref a) (.int x t)) (PR VR c S f ι ρ γ s Q) (PX c S f ι ρ γ s X) s := fun x hx =>
          wpAny_binaryOp_repeat_ref (T := "tuple") (U := "int") (by decide) ⟨_, ho, rfl⟩ (fun s' => typeIs_int s' x t) noFill_tuple_mul F.fills_int_mul F.slot_int_rmul repeat_tuple F.slot_int_index.lookup
            (call_meets F.slot_int_rmul (typeIs_int s x t) F.entry_int_rmul (F.args_int_rmul_2 _ _) (rmul_tup x t a od _ n' osl) ⟨ho, rfl, ⟨_, ho, rfl⟩, hx⟩)
        refine go _ ?_
        rcases hn with rfl | rfl | rfl
        · exact call_meets F.slot_tuple_mul ⟨_, ho, rfl⟩ F.entry_tuple_mul (F.args_tuple_mul_2 _ _) (mul_tup1 a od uv n' osl t) ⟨ho, PR.now w (.tup ht (.cons r .nil)) q⟩
        · exact call_meets F.slot_tuple_mul ⟨_, ho, rfl⟩ F.entry_tuple_mul (F.args_tuple_mul_2 _ _) (mul_tup2 a od uv n' osl t) ⟨ho, PR.newTup w (us := [uv, uv]) (fun b ob e => Heap.get?_push_of_some _ e) ⟨_, Heap.get?_push_size _ rfl, rfl, 0, rfl⟩ (.cons r (.cons r .nil)) q⟩
        · exact call_meets F.slot_tuple_mul ⟨_, ho, rfl⟩ F.entry_tuple_mul (F.args_tuple_mul_2 _ _) (mul_tup3 a od uv n' osl t) ⟨ho, PR.newTup w (us := [uv, uv, uv]) (fun b ob e => Heap.get?_push_of_some _ e) ⟨_, Heap.get?_push_size _ rfl, rfl, 0, rfl⟩ (.cons r (.cons r (.cons r .nil))) q⟩

theorem put_ok (E : E01 c) (hn : S.n < 45) {i k : Nat} {l : List V} {v : V} (h : σ[i]? = some (.list l)) (hl : l.length ≤ 100) (hk : k < l.length) (q : ∀ j σ', σ <+: σ' → σ'[j]? = some (.list (l.take k ++ [v] ++ l.drop (k + 1))) → Q (.ref j) σ') :
    WL VR c S (fun us => call (.ref (E.a 26)) us) [.ref i, .int (k : Int), v] ρ γ Q X σ := by
  refine callB [("_law_things", .ref i), ("_law_at", .int (k : Int)), ("_law_thing", v)] [] E.put.2 rfl (dm hn) (by repeat (first | exact Par.nil | refine Par.cons rfl rfl ?_)) (by repeat (first | exact Par.nil | refine Par.cons rfl rfl ?_)) ?_
  (refine stsC ?_; first | ((with_reducible refine sAssL ?ha64 ?hd64 ?hb64); (case ha64 => exact rfl); (case hb64 => intro _; exact rfl)) | ((with_reducible refine sAssC ?ha64 ?hd64 ?hb64); (case ha64 => exact rfl); (case hb64 => intro _; exact rfl)) | (with_reducible first | refine sRet ?_ | refine sIf ?_) | ((with_reducible refine sExpr ?hd64 ?hb64); (case hb64 => intro _; exact rfl)))
  repeat walk_at "e"
  refine ⟨_, _, _, rfl, h, rfl, by omega, .inl ⟨k, rfl, ?_⟩⟩
  repeat walk_at "e"
  refine ⟨by show 1 ≤ sizeLine; decide, ?_⟩
  have p1 := List.prefix_append σ [O.list (l.take k)]
  have e1 : (σ ++ [O.list (l.take k)])[σ.length]? = some (.list (l.take k)) := List.getElem?_concat_length
  generalize σ.length = j1 at e1 ⊢
  generalize σ ++ [O.list (l.take k)] = σ1 at p1 e1 ⊢
  have p2 := List.prefix_append σ1 [O.list [v]]
  refine add_ll (pre_get p2 e1) List.getElem?_concat_length (by first | exact la1 (by with_reducible assumption) | exact la2 (by with_reducible assumption) | exact la3 (by with_reducible assumption) | exact la4 (by with_reducible assumption) | exact la5 (by with_reducible assumption) | exact la6 (by with_reducible assumption) | exact la7 (by with_reducible assumption) | exact la8 (by with_reducible assumption) | exact la9 (by with_reducible assumption) | (simp; omega)) ?_
  have p3 := (p1.trans p2).trans (List.prefix_append (σ1 ++ [O.list [v]]) [O.list (l.take k ++ [v])])
  have e3 : (σ1 ++ [O.list [v]] ++ [O.list (l.take k ++ [v])])[(σ1 ++ [O.list [v]]).length]? = some (.list (l.take k ++ [v])) := List.getElem?_concat_length
  generalize (σ1 ++ [O.list [v]]).length = j3 at e3 ⊢
  generalize σ1 ++ [O.list [v]] ++ [O.list (l.take k ++ [v])] = σ3 at p3 e3 ⊢
  repeat walk_at "e"
  refine ⟨_, _, _, k + 1, rfl, pre_get p3 h, rfl, by omega, by simp, ?_⟩
  have p4 := List.prefix_append σ3 [O.list (l.drop (k + 1))]
  refine add_ll (pre_get p4 e3) List.getElem?_concat_length (by first | exact la1 (by with_reducible assumption) | exact la2 (by with_reducible assumption) | exact la3 (by with_reducible assumption) | exact la4 (by with_reducible assumption) | exact la5 (by with_reducible assumption) | exact la6 (by with_reducible assumption) | exact la7 (by with_reducible assumption) | exact la8 (by with_reducible assumption) | exact la9 (by with_reducible assumption) | (simp; omega)) ?_
  exact q _ _ ((p3.trans p4).trans (List.prefix_append _ _)) List.getElem?_concat_length
end

theorem nl3 {l : List V} {k m : Nat} (h : l.length = m) (hk : k < m) : (l.take k ++ l.drop (k + 1)).length ≠ m := by rw [List.length_append, List.length_take, List.length_drop]; omega
section
variable {c : C0} {S : Stt} {ρ γ : List (Str × V)} {σ : List O} {Q : V → List O → Prop} {X : Addr → List O → Prop}

theorem flI {σ : List O} {z : Int} : Fl0 σ (.int z) := ⟨trivial, fun l e => (by cases e)⟩
theorem flS {σ : List O} {z : Str} : Fl0 σ (.str z) := ⟨trivial, fun l e => (by cases e)⟩
theorem flN {σ : List O} : Fl0 σ .none := ⟨trivial, fun l e => (by cases e)⟩
theorem flB {σ : List O} {b : Bool} : Fl0 σ (.bool b) := ⟨trivial, fun l e => (by cases e)⟩

theorem sprow_ok (E : E01 c) (hn : S.n < 45) {nums : List V} {w : Str} {b cell : Int} {k : Nat} {m : Nat} (hm : 1 ≤ m ∧ m ≤ 3) (hk : k < 8) (hl : nums.length = m) (hI : Ints (-50) 50 nums) (hw : w = "most" ∨ w = "least") (hb : -2000 ≤ b ∧ b ≤ 2000)
    (q : ∀ v σ', σ <+: σ' → RowP σ' v → rowB v m = false → Q v σ') : WL VR c S (fun us => call (.ref (E.a 27)) us) [.tup [.tup nums, .str w, .int b], .int (k : Int), .int cell] ρ γ Q X σ := by
  refine callB [("_law_row", .tup [.tup nums, .str w, .int b]), ("_law_kind_here", .int (k : Int)), ("_law_cell", .int cell)] [] E.sprow.2 rfl (dm hn) (by repeat (first | exact Par.nil | refine Par.cons rfl rfl ?_)) (by repeat (first | exact Par.nil | refine Par.cons rfl rfl ?_)) ?_
  have hws : PyData.strOk w = true := by rcases hw with rfl | rfl <;> decide +kernel
  have strW : ∀ {x : Str}, V.str w = .str x → PyData.strOk x = true := fun e => by cases e; exact hws
  have two : ∀ {σ : List O}, ∀ l, V.tup nums = .tup l → l.length ≤ 100 ∧ ∀ y ∈ l, plainV σ y := fun {σ} l e => by cases e; exact ⟨by omega, hI.plain σ⟩
  (refine stsC ?_; first | ((with_reducible refine sAssL ?ha65 ?hd65 ?hb65); (case ha65 => exact rfl); (case hb65 => intro _; exact rfl)) | ((with_reducible refine sAssC ?ha65 ?hd65 ?hb65); (case ha65 => exact rfl); (case hb65 => intro _; exact rfl)) | (with_reducible first | refine sRet ?_ | refine sIf ?_) | ((with_reducible refine sExpr ?hd65 ?hb65); (case hb65 => intro _; exact rfl)))
  refine callTy rfl E.list Boot.«list» (by decide) ?_
  repeat walk_at "e"
  refine list_tup (szOk (by omega)) ?_
  have p1 := List.prefix_append σ [O.list nums]
  have e1 : (σ ++ [O.list nums])[σ.length]? = some (.list nums) := List.getElem?_concat_length
  generalize hj : σ.length = j1 at e1 ⊢
  have hj1 : σ.length ≤ j1 := Nat.le_of_eq hj
  generalize σ ++ [O.list nums] = σ1 at p1 e1 ⊢
  (refine stsC ?_; first | ((with_reducible refine sAssL ?ha66 ?hd66 ?hb66); (case ha66 => exact rfl); (case hb66 => intro _; exact rfl)) | ((with_reducible refine sAssC ?ha66 ?hd66 ?hb66); (case ha66 => exact rfl); (case hb66 => intro _; exact rfl)) | (with_reducible first | refine sRet ?_ | refine sIf ?_) | ((with_reducible refine sExpr ?hd66 ?hb66); (case hb66 => intro _; exact rfl)))
  repeat walk_at "e"
  refine callBu rfl E.len Boot.«len» (by decide) ?_
  repeat walk_at "e"
  refine len_ref e1 rfl (by omega) ?_
  refine fmod_ii (Int.ne_of_gt (ps hl hm.1)) ?_
  have z1 : nums.length ≤ 100 := by omega
  have z4 : nums.length ≤ 1000 := Nat.le_trans z1 (by decide)
  have y1 : nums.length ≤ 40 := by omega
  obtain ⟨at_, hat, hatm⟩ := toN (fm (F := cell.fdiv 5) (b := (nums.length : Int)) (ps hl hm.1)) hl
  rw [hat]
  have bad5 : ∀ {a1 a2 a3 a4 a5 : V} , ∃ v, ([a1, a2, a3, a4, a5])[(cell.fmod 5).toNat]? = some v ∧ (v = a1 ∨ v = a2 ∨ v = a3 ∨ v = a4 ∨ v = a5) := fun {a1 a2 a3 a4 a5} => by
    rcases five cell with h | h | h | h | h <;> rw [h]
    · exact ⟨_, rfl, .inl rfl⟩
    · exact ⟨_, rfl, .inr (.inl rfl)⟩
    · exact ⟨_, rfl, .inr (.inr (.inl rfl))⟩
    · exact ⟨_, rfl, .inr (.inr (.inr (.inl rfl)))⟩
    · exact ⟨_, rfl, .inr (.inr (.inr (.inr rfl)))⟩
  have f5 := fm (F := cell) (b := 5) (by decide)
  -- 0
  (refine stsC ?_; first | ((with_reducible refine sAssL ?ha67 ?hd67 ?hb67); (case ha67 => exact rfl); (case hb67 => intro _; exact rfl)) | ((with_reducible refine sAssC ?ha67 ?hd67 ?hb67); (case ha67 => exact rfl); (case hb67 => intro _; exact rfl)) | (with_reducible first | refine sRet ?_ | refine sIf ?_) | ((with_reducible refine sExpr ?hd67 ?hb67); (case hb67 => intro _; exact rfl)))
  repeat walk_at "e"
  by_cases k0 : k = 0
  · refine iT (cT (n := 0) k0 rfl) ?_
    (refine stsC ?_; first | ((with_reducible refine sAssL ?ha68 ?hd68 ?hb68); (case ha68 => exact rfl); (case hb68 => intro _; exact rfl)) | ((with_reducible refine sAssC ?ha68 ?hd68 ?hb68); (case ha68 => exact rfl); (case hb68 => intro _; exact rfl)) | (with_reducible first | refine sRet ?_ | refine sIf ?_) | ((with_reducible refine sExpr ?hd68 ?hb68); (case hb68 => intro _; exact rfl)))
    repeat walk_at "e"
    refine item_tup (by decide) rfl (by decide) ?_
    repeat walk_at "e"
    refine ⟨by show 3 ≤ sizeLine; decide, ?_⟩
    exact q _ _ (p1.trans (List.prefix_append _ _)) (rowP_ref List.getElem?_concat_length) rfl
  refine iN (cF (n := 0) k0 rfl) ?_
  refine sts0 ?_
  (refine stsC ?_; first | ((with_reducible refine sAssL ?ha69 ?hd69 ?hb69); (case ha69 => exact rfl); (case hb69 => intro _; exact rfl)) | ((with_reducible refine sAssC ?ha69 ?hd69 ?hb69); (case ha69 => exact rfl); (case hb69 => intro _; exact rfl)) | (with_reducible first | refine sRet ?_ | refine sIf ?_) | ((with_reducible refine sExpr ?hd69 ?hb69); (case hb69 => intro _; exact rfl)))
  repeat walk_at "e"
  by_cases k1 : k = 1
  · refine iT (cT (n := 1) k1 rfl) ?_
    (refine stsC ?_; first | ((with_reducible refine sAssL ?ha70 ?hd70 ?hb70); (case ha70 => exact rfl); (case hb70 => intro _; exact rfl)) | ((with_reducible refine sAssC ?ha70 ?hd70 ?hb70); (case ha70 => exact rfl); (case hb70 => intro _; exact rfl)) | (with_reducible first | refine sRet ?_ | refine sIf ?_) | ((with_reducible refine sExpr ?hd70 ?hb70); (case hb70 => intro _; exact rfl)))
    repeat walk_at "e"
    refine item_tup (by decide) rfl (by decide) ?_
    repeat walk_at "e"
    refine ⟨by show 3 ≤ sizeLine; decide, ?_⟩
    exact q _ _ p1 (rowP3 ⟨_, _, e1, rfl⟩ (fun l e => (by cases e)) flS flI (fun x e => strW e)) rfl
  refine iN (cF (n := 1) k1 rfl) ?_
  refine sts0 ?_
  (refine stsC ?_; first | ((with_reducible refine sAssL ?ha71 ?hd71 ?hb71); (case ha71 => exact rfl); (case hb71 => intro _; exact rfl)) | ((with_reducible refine sAssC ?ha71 ?hd71 ?hb71); (case ha71 => exact rfl); (case hb71 => intro _; exact rfl)) | (with_reducible first | refine sRet ?_ | refine sIf ?_) | ((with_reducible refine sExpr ?hd71 ?hb71); (case hb71 => intro _; exact rfl)))
  repeat walk_at "e"
  by_cases k2 : k = 2
  · refine iT (cT (n := 2) k2 rfl) ?_
    (refine stsC ?_; first | ((with_reducible refine sAssL ?ha72 ?hd72 ?hb72); (case ha72 => exact rfl); (case hb72 => intro _; exact rfl)) | ((with_reducible refine sAssC ?ha72 ?hd72 ?hb72); (case ha72 => exact rfl); (case hb72 => intro _; exact rfl)) | (with_reducible first | refine sRet ?_ | refine sIf ?_) | ((with_reducible refine sExpr ?hd72 ?hb72); (case hb72 => intro _; exact rfl)))
    repeat walk_at "e"
    refine callTy rfl E.tuple Boot.«tuple» (by decide) ?_
    repeat walk_at "e"
    refine ⟨_, _, _, rfl, e1, rfl, z4, .inl ⟨at_, rfl, ?_⟩⟩
    have p2 := List.prefix_append σ1 [O.list (nums.take at_)]
    have e2 : (σ1 ++ [O.list (nums.take at_)])[σ1.length]? = _ := List.getElem?_concat_length
    generalize σ1.length = j2 at e2 ⊢
    generalize σ1 ++ [O.list (nums.take at_)] = σ2 at p2 e2 ⊢
    repeat walk_at "e"
    refine ⟨_, _, _, at_ + 1, rfl, pre_get p2 e1, rfl, z4, by simp, ?_⟩
    have p3 := List.prefix_append σ2 [O.list (nums.drop (at_ + 1))]
    refine add_ll (pre_get p3 e2) List.getElem?_concat_length (by first | exact la1 (by with_reducible assumption) | exact la2 (by with_reducible assumption) | exact la3 (by with_reducible assumption) | exact la4 (by with_reducible assumption) | exact la5 (by with_reducible assumption) | exact la6 (by with_reducible assumption) | exact la7 (by with_reducible assumption) | exact la8 (by with_reducible assumption) | exact la9 (by with_reducible assumption) | (simp; omega)) ?_
    repeat walk_at "e"
    refine tuple_ref List.getElem?_concat_length rfl (szOk (by first | exact la1 (by with_reducible assumption) | exact la2 (by with_reducible assumption) | exact la3 (by with_reducible assumption) | exact la4 (by with_reducible assumption) | exact la5 (by with_reducible assumption) | exact la6 (by with_reducible assumption) | exact la7 (by with_reducible assumption) | exact la8 (by with_reducible assumption) | exact la9 (by with_reducible assumption) | (simp; omega))) ?_
    repeat walk_at "e"
    refine item_tup (by decide) rfl (by decide) ?_
    repeat walk_at "e"
    refine ⟨by show 3 ≤ sizeLine; decide, ?_⟩
    have hlen : (nums.take at_ ++ nums.drop (at_ + 1)).length ≠ m := nl3 hl hatm
    refine q _ _ (((p1.trans p2).trans p3).trans (List.prefix_append _ _)) (rowP3 trivial (fun l e => ?_) flS flI (fun x e => strW e)) (by simp [rowB_eq]; intro h; simp at hlen; omega)
    cases e
    refine ⟨(by first | exact la1 (by with_reducible assumption) | exact la2 (by with_reducible assumption) | exact la3 (by with_reducible assumption) | exact la4 (by with_reducible assumption) | exact la5 (by with_reducible assumption) | exact la6 (by with_reducible assumption) | exact la7 (by with_reducible assumption) | exact la8 (by with_reducible assumption) | exact la9 (by with_reducible assumption) | (simp; omega)), fun y hy => hI.plain _ y ?_⟩
    rcases List.mem_append.mp hy with h | h
    · exact List.mem_of_mem_take h
    · exact List.mem_of_mem_drop h
  refine iN (cF (n := 2) k2 rfl) ?_
  refine sts0 ?_
  (refine stsC ?_; first | ((with_reducible refine sAssL ?ha73 ?hd73 ?hb73); (case ha73 => exact rfl); (case hb73 => intro _; exact rfl)) | ((with_reducible refine sAssC ?ha73 ?hd73 ?hb73); (case ha73 => exact rfl); (case hb73 => intro _; exact rfl)) | (with_reducible first | refine sRet ?_ | refine sIf ?_) | ((with_reducible refine sExpr ?hd73 ?hb73); (case hb73 => intro _; exact rfl)))
  repeat walk_at "e"
  by_cases k3 : k = 3
  · refine iT (cT (n := 3) k3 rfl) ?_
    (refine stsC ?_; first | ((with_reducible refine sAssL ?ha74 ?hd74 ?hb74); (case ha74 => exact rfl); (case hb74 => intro _; exact rfl)) | ((with_reducible refine sAssC ?ha74 ?hd74 ?hb74); (case ha74 => exact rfl); (case hb74 => intro _; exact rfl)) | (with_reducible first | refine sRet ?_ | refine sIf ?_) | ((with_reducible refine sExpr ?hd74 ?hb74); (case hb74 => intro _; exact rfl)))
    repeat walk_at "e"
    refine callTy rfl E.tuple Boot.«tuple» (by decide) ?_
    repeat walk_at "e"
    refine ⟨by show 1 ≤ sizeLine; decide, ?_⟩
    have p2 := List.prefix_append σ1 [O.list [V.int 0]]
    refine add_ll (pre_get p2 e1) List.getElem?_concat_length (by first | exact la1 (by with_reducible assumption) | exact la2 (by with_reducible assumption) | exact la3 (by with_reducible assumption) | exact la4 (by with_reducible assumption) | exact la5 (by with_reducible assumption) | exact la6 (by with_reducible assumption) | exact la7 (by with_reducible assumption) | exact la8 (by with_reducible assumption) | exact la9 (by with_reducible assumption) | (simp; omega)) ?_
    repeat walk_at "e"
    refine tuple_ref List.getElem?_concat_length rfl (szOk (by first | exact la1 (by with_reducible assumption) | exact la2 (by with_reducible assumption) | exact la3 (by with_reducible assumption) | exact la4 (by with_reducible assumption) | exact la5 (by with_reducible assumption) | exact la6 (by with_reducible assumption) | exact la7 (by with_reducible assumption) | exact la8 (by with_reducible assumption) | exact la9 (by with_reducible assumption) | (simp; omega))) ?_
    repeat walk_at "e"
    refine item_tup (by decide) rfl (by decide) ?_
    repeat walk_at "e"
    refine ⟨by show 3 ≤ sizeLine; decide, ?_⟩
    refine q _ _ ((p1.trans p2).trans (List.prefix_append _ _)) (rowP3 trivial (fun l e => ?_) flS flI (fun x e => strW e)) (by simp [rowB_eq]; omega)
    cases e
    exact ⟨(by first | exact la1 (by with_reducible assumption) | exact la2 (by with_reducible assumption) | exact la3 (by with_reducible assumption) | exact la4 (by with_reducible assumption) | exact la5 (by with_reducible assumption) | exact la6 (by with_reducible assumption) | exact la7 (by with_reducible assumption) | exact la8 (by with_reducible assumption) | exact la9 (by with_reducible assumption) | (simp; omega)), (hI.snoc (z := 0) (by decide) (by decide)).plain _⟩
  refine iN (cF (n := 3) k3 rfl) ?_
  refine sts0 ?_
  (refine stsC ?_; first | ((with_reducible refine sAssL ?ha75 ?hd75 ?hb75); (case ha75 => exact rfl); (case hb75 => intro _; exact rfl)) | ((with_reducible refine sAssC ?ha75 ?hd75 ?hb75); (case ha75 => exact rfl); (case hb75 => intro _; exact rfl)) | (with_reducible first | refine sRet ?_ | refine sIf ?_) | ((with_reducible refine sExpr ?hd75 ?hb75); (case hb75 => intro _; exact rfl)))
  repeat walk_at "e"
  by_cases k4 : k = 4
  · refine iT (cT (n := 4) k4 rfl) ?_
    refine stsC (sSet ?_)
    repeat walk_at "e"
    refine ⟨by show 5 ≤ sizeLine; decide, ?_⟩
    repeat walk_at "e"
    obtain ⟨v, hv, hvv⟩ := bad5 (a1 := .int 51) (a2 := .int (-51)) (a3 := .bool true) (a4 := .str "0") (a5 := .none)
    refine item_list List.getElem?_concat_length rfl f5.1 hv (b63 f5 (by decide)) ?_
    repeat walk_at "e"
    have p2 := List.prefix_append σ1 [O.list [.int 51, .int (-51), .bool true, .str "0", .none]]
    refine ⟨_, _, _, rfl, rfl, pre_get p2 e1, Int.natCast_nonneg _, by omega, by omega, ?_⟩
    have e3 := set_get (o' := .list (nums.set (at_ : Int).toNat v)) (pre_get p2 e1)
    have p3 := pre_set (o := .list (nums.set (at_ : Int).toNat v)) (p1.trans p2) hj1
    generalize (σ1 ++ [O.list [.int 51, .int (-51), .bool true, .str "0", .none]]).set j1 (.list (nums.set (at_ : Int).toNat v)) = σ3 at e3 p3 ⊢
    rw [Int.toNat_natCast] at e3
    (refine stsC ?_; first | ((with_reducible refine sAssL ?ha76 ?hd76 ?hb76); (case ha76 => exact rfl); (case hb76 => intro _; exact rfl)) | ((with_reducible refine sAssC ?ha76 ?hd76 ?hb76); (case ha76 => exact rfl); (case hb76 => intro _; exact rfl)) | (with_reducible first | refine sRet ?_ | refine sIf ?_) | ((with_reducible refine sExpr ?hd76 ?hb76); (case hb76 => intro _; exact rfl)))
    repeat walk_at "e"
    refine callTy rfl E.tuple Boot.«tuple» (by decide) ?_
    repeat walk_at "e"
    refine tuple_ref e3 rfl (szOk (by first | exact la1 (by with_reducible assumption) | exact la2 (by with_reducible assumption) | exact la3 (by with_reducible assumption) | exact la4 (by with_reducible assumption) | exact la5 (by with_reducible assumption) | exact la6 (by with_reducible assumption) | exact la7 (by with_reducible assumption) | exact la8 (by with_reducible assumption) | exact la9 (by with_reducible assumption) | (simp; omega))) ?_
    repeat walk_at "e"
    refine item_tup (by decide) rfl (by decide) ?_
    repeat walk_at "e"
    refine ⟨by show 3 ≤ sizeLine; decide, ?_⟩
    have hvb : withinB v 50 = false := by rcases hvv with rfl | rfl | rfl | rfl | rfl <;> decide
    have hvp : ∀ {σ}, plainV σ v := by intro σ; rcases hvv with rfl | rfl | rfl | rfl | rfl <;> trivial
    refine q _ _ p3 (rowP3 trivial (fun l e => ?_) flS flI (fun x e => strW e)) ?_
    · cases e
      refine ⟨(by first | exact la1 (by with_reducible assumption) | exact la2 (by with_reducible assumption) | exact la3 (by with_reducible assumption) | exact la4 (by with_reducible assumption) | exact la5 (by with_reducible assumption) | exact la6 (by with_reducible assumption) | exact la7 (by with_reducible assumption) | exact la8 (by with_reducible assumption) | exact la9 (by with_reducible assumption) | (simp; omega)), fun y hy => ?_⟩
      rcases List.mem_or_eq_of_mem_set hy with z | z
      · exact hI.plain _ y z
      · rw [z]; exact hvp
    · have : (nums.set at_ v).all (withinB · 50) = false := all_no (List.mem_set (by omega) v) hvb
      simp only [rowB_eq, this, Bool.and_false, Bool.false_and]
  refine iN (cF (n := 4) k4 rfl) ?_
  refine sts0 ?_
  (refine stsC ?_; first | ((with_reducible refine sAssL ?ha77 ?hd77 ?hb77); (case ha77 => exact rfl); (case hb77 => intro _; exact rfl)) | ((with_reducible refine sAssC ?ha77 ?hd77 ?hb77); (case ha77 => exact rfl); (case hb77 => intro _; exact rfl)) | (with_reducible first | refine sRet ?_ | refine sIf ?_) | ((with_reducible refine sExpr ?hd77 ?hb77); (case hb77 => intro _; exact rfl)))
  repeat walk_at "e"
  by_cases k5 : k = 5
  · refine iT (cT (n := 5) k5 rfl) ?_
    (refine stsC ?_; first | ((with_reducible refine sAssL ?ha78 ?hd78 ?hb78); (case ha78 => exact rfl); (case hb78 => intro _; exact rfl)) | ((with_reducible refine sAssC ?ha78 ?hd78 ?hb78); (case ha78 => exact rfl); (case hb78 => intro _; exact rfl)) | (with_reducible first | refine sRet ?_ | refine sIf ?_) | ((with_reducible refine sExpr ?hd78 ?hb78); (case hb78 => intro _; exact rfl)))
    repeat walk_at "e"
    refine ⟨by show 5 ≤ sizeLine; decide, ?_⟩
    repeat walk_at "e"
    obtain ⟨v, hv, hvv⟩ := bad5 (a1 := .str "more") (a2 := .str "Most") (a3 := .str "") (a4 := .none) (a5 := .int 1)
    refine item_list List.getElem?_concat_length rfl f5.1 hv (b63 f5 (by decide)) ?_
    repeat walk_at "e"
    refine item_tup (by decide) rfl (by decide) ?_
    repeat walk_at "e"
    refine ⟨by show 3 ≤ sizeLine; decide, ?_⟩
    have hvb : wordB v = false := by rcases hvv with rfl | rfl | rfl | rfl | rfl <;> decide +kernel
    have hvp : ∀ {σ}, Fl0 σ v := by intro σ; rcases hvv with rfl | rfl | rfl | rfl | rfl <;> first | exact flS | exact flN | exact flI
    have hvs : ∀ x, v = .str x → PyData.strOk x = true := by intro x e; rcases hvv with rfl | rfl | rfl | rfl | rfl <;> cases e <;> decide +kernel
    exact q _ _ (p1.trans (List.prefix_append _ _)) (rowP3 trivial two hvp flI hvs) (by simp only [rowB_eq, hvb, Bool.and_false, Bool.false_and])
  refine iN (cF (n := 5) k5 rfl) ?_
  refine sts0 ?_
  (refine stsC ?_; first | ((with_reducible refine sAssL ?ha79 ?hd79 ?hb79); (case ha79 => exact rfl); (case hb79 => intro _; exact rfl)) | ((with_reducible refine sAssC ?ha79 ?hd79 ?hb79); (case ha79 => exact rfl); (case hb79 => intro _; exact rfl)) | (with_reducible first | refine sRet ?_ | refine sIf ?_) | ((with_reducible refine sExpr ?hd79 ?hb79); (case hb79 => intro _; exact rfl)))
  repeat walk_at "e"
  by_cases k6 : k = 6
  · refine iT (cT (n := 6) k6 rfl) ?_
    (refine stsC ?_; first | ((with_reducible refine sAssL ?ha80 ?hd80 ?hb80); (case ha80 => exact rfl); (case hb80 => intro _; exact rfl)) | ((with_reducible refine sAssC ?ha80 ?hd80 ?hb80); (case ha80 => exact rfl); (case hb80 => intro _; exact rfl)) | (with_reducible first | refine sRet ?_ | refine sIf ?_) | ((with_reducible refine sExpr ?hd80 ?hb80); (case hb80 => intro _; exact rfl)))
    repeat walk_at "e"
    refine ⟨by show 5 ≤ sizeLine; decide, ?_⟩
    repeat walk_at "e"
    obtain ⟨v, hv, hvv⟩ := bad5 (a1 := .int 2001) (a2 := .int (-2001)) (a3 := .bool true) (a4 := .str "0") (a5 := .none)
    refine item_list List.getElem?_concat_length rfl f5.1 hv (b63 f5 (by decide)) ?_
    repeat walk_at "e"
    refine ⟨by show 3 ≤ sizeLine; decide, ?_⟩
    have hvb : withinB v 2000 = false := by rcases hvv with rfl | rfl | rfl | rfl | rfl <;> decide
    have hvp : ∀ {σ}, Fl0 σ v := by intro σ; rcases hvv with rfl | rfl | rfl | rfl | rfl <;> first | exact flS | exact flN | exact flI | exact flB
    exact q _ _ (p1.trans (List.prefix_append _ _)) (rowP3 trivial two flS hvp (fun x e => strW e)) (by simp only [rowB_eq, hvb, Bool.and_false])
  refine iN (cF (n := 6) k6 rfl) ?_
  refine sts0 ?_
  (refine stsC ?_; first | ((with_reducible refine sAssL ?ha81 ?hd81 ?hb81); (case ha81 => exact rfl); (case hb81 => intro _; exact rfl)) | ((with_reducible refine sAssC ?ha81 ?hd81 ?hb81); (case ha81 => exact rfl); (case hb81 => intro _; exact rfl)) | (with_reducible first | refine sRet ?_ | refine sIf ?_) | ((with_reducible refine sExpr ?hd81 ?hb81); (case hb81 => intro _; exact rfl)))
  repeat walk_at "e"
  refine ⟨by show 2 ≤ sizeLine; decide, ?_⟩
  exact q _ _ p1 (rowP2 trivial two flS) rfl
end

inductive BadP (σ : List O) (ib : Nat) : Prop where
  | mk (vt vr vg : V) (tL : Bool) (lt : List V) (rL : Bool) (lr : List V) (gL : Bool) (lg : List V) (e : σ[ib]? = some (.list [vt, vr, vg])) (s1 : SeqV σ vt tL lt) (s2 : SeqV σ vr rL lr) (s3 : SeqV σ vg gL lg) (z1 : lt.length ≤ 100) (z2 : lr.length ≤ 100) (z3 : lg.length ≤ 100)
    (p1 : ∀ v ∈ lt, plainV σ v) (p2 : ∀ v ∈ lr, RowP σ v) (p3 : ∀ v ∈ lg, plainV σ v) (no : okP tL lt rL lr gL lg = false)
theorem no_rows {tL rL gL : Bool} {lt lr lg : List V} (h : lr.all (rowB · lt.length) = false) : okP tL lt rL lr gL lg = false := by unfold okP; rw [h]; simp
theorem no_tops {tL rL gL : Bool} {lt lr lg : List V} (h : lt.all topB = false) : okP tL lt rL lr gL lg = false := by unfold okP; rw [h]; simp
theorem no_gain {tL rL gL : Bool} {lt lr lg : List V} (h : lg.all (withinB · 50) = false) : okP tL lt rL lr gL lg = false := by unfold okP; rw [h]; simp
theorem no_len {tL rL gL : Bool} {lt lr lg : List V} (h : lg.length ≠ lt.length) : okP tL lt rL lr gL lg = false := by unfold okP; rw [decide_eq_false h]; simp
theorem no_six {tL rL gL : Bool} {lt lr lg : List V} (h : ¬ lr.length ≤ 6) : okP tL lt rL lr gL lg = false := by unfold okP; rw [decide_eq_false h]; simp
theorem no_three {tL rL gL : Bool} {lt lr lg : List V} (h : ¬ (1 ≤ lt.length ∧ lt.length ≤ 3)) : okP tL lt rL lr gL lg = false := by
  unfold okP
  by_cases h1 : 1 ≤ lt.length
  · rw [decide_eq_false (p := lt.length ≤ 3) (fun q => h ⟨h1, q⟩)]; simp
  · rw [decide_eq_false h1]; simp
theorem no_tL {rL gL : Bool} {lt lr lg : List V} : okP false lt rL lr gL lg = false := rfl
theorem no_rL {tL gL : Bool} {lt lr lg : List V} : okP tL lt false lr gL lg = false := by unfold okP; simp
theorem no_gL {tL rL : Bool} {lt lr lg : List V} : okP tL lt rL lr false lg = false := by unfold okP; simp

theorem nl1 {l l' : List V} {m : Nat} (h : l.length = m) (h' : l'.length = m) (hm : 1 ≤ m ∧ m ≤ 3) : (l.take (l.length - 1)).length ≠ l'.length := by rw [List.length_take]; omega
theorem nl2 {l l' : List V} {m : Nat} {v : V} (h : l.length = m) (h' : l'.length = m) : (l ++ [v]).length ≠ l'.length := by rw [List.length_append, h, h']; exact Nat.succ_ne_self m
theorem o3 {n m : Nat} (h : n = m) (hm : 1 ≤ m ∧ m ≤ 3) : n = 1 ∨ n = 2 ∨ n = 3 := by omega
theorem ne0 {n m : Nat} (h : n = m) (h1 : 1 ≤ m ∧ m ≤ 3) : (n : Int) ≠ 0 := by omega
theorem g63 {g : Nat} (h : g < 5) : (g : Int) < 2 ^ 63 := by omega
theorem h63 {g : Int} (h : 0 ≤ g ∧ g < 2) : g < 2 ^ 63 := by omega
theorem ltO {a n m : Nat} (h : n = m) (h' : a < m) : a < n := h ▸ h'
section
variable {c : C0} {S : Stt} {ρ γ : List (Str × V)} {σ : List O} {Q : V → List O → Prop} {X : Addr → List O → Prop}

theorem spoilt_ok (E : E01 c) (hn : S.n < 40) {ip it ir ig : Nat} {lt lr lg : List V} {cell : Int} {k : Nat} {m : Nat} (hm : 1 ≤ m ∧ m ≤ 3) (hk : k < 16) (hp : σ[ip]? = some (.list [.ref it, .ref ir, .ref ig])) (et : σ[it]? = some (.list lt)) (er : σ[ir]? = some (.list lr)) (eg : σ[ig]? = some (.list lg))
    (zt : lt.length = m) (It : Ints 0 20 lt) (zr : lr.length ≤ 6) (Ir : ∀ v ∈ lr, RowG m v) (zg : lg.length = m) (Ig : Ints (-50) 50 lg)
    (q : ∀ ib σ', σ <+: σ' → BadP σ' ib → Q (.ref ib) σ') : WL VR c S (fun us => call (.ref (E.a 28)) us) [.ref ip, .int (k : Int), .int cell] ρ γ Q X σ := by
  refine callB [("_law_parts", .ref ip), ("_law_kind_here", .int (k : Int)), ("_law_cell", .int cell)] [] E.spoilt.2 rfl (dm hn) (by repeat (first | exact Par.nil | refine Par.cons rfl rfl ?_)) (by repeat (first | exact Par.nil | refine Par.cons rfl rfl ?_)) ?_
  have y1 : lt.length ≤ 40 := by omega
  have y2 : lr.length ≤ 40 := by omega
  have y3 : lg.length ≤ 40 := by omega
  have z1 : lt.length ≤ 100 := by omega
  have z2 : lr.length ≤ 100 := by omega
  have z3 : lg.length ≤ 100 := by omega
  have z4 : lt.length ≤ 1000 := by omega
  have z5 : lr.length ≤ 1000 := by omega
  have z6 : lg.length ≤ 1000 := by omega
  have z7 := l63 z4
  have z8 := l63 z5
  have z9 := l63 z6
  have pr0 : ∀ {σ : List O}, ∀ v ∈ lr, RowP σ v := fun {σ} v hv => rowG_p hm.2 (Ir v hv)
  (refine stsC ?_; first | ((with_reducible refine sAssL ?ha82 ?hd82 ?hb82); (case ha82 => exact rfl); (case hb82 => intro _; exact rfl)) | ((with_reducible refine sAssC ?ha82 ?hd82 ?hb82); (case ha82 => exact rfl); (case hb82 => intro _; exact rfl)) | (with_reducible first | refine sRet ?_ | refine sIf ?_) | ((with_reducible refine sExpr ?hd82 ?hb82); (case hb82 => intro _; exact rfl)))
  repeat walk_at "e"
  refine item_list hp rfl (by decide) rfl (by decide) ?_
  (refine stsC ?_; first | ((with_reducible refine sAssL ?ha83 ?hd83 ?hb83); (case ha83 => exact rfl); (case hb83 => intro _; exact rfl)) | ((with_reducible refine sAssC ?ha83 ?hd83 ?hb83); (case ha83 => exact rfl); (case hb83 => intro _; exact rfl)) | (with_reducible first | refine sRet ?_ | refine sIf ?_) | ((with_reducible refine sExpr ?hd83 ?hb83); (case hb83 => intro _; exact rfl)))
  repeat walk_at "e"
  refine item_list hp rfl (by decide) rfl (by decide) ?_
  (refine stsC ?_; first | ((with_reducible refine sAssL ?ha84 ?hd84 ?hb84); (case ha84 => exact rfl); (case hb84 => intro _; exact rfl)) | ((with_reducible refine sAssC ?ha84 ?hd84 ?hb84); (case ha84 => exact rfl); (case hb84 => intro _; exact rfl)) | (with_reducible first | refine sRet ?_ | refine sIf ?_) | ((with_reducible refine sExpr ?hd84 ?hb84); (case hb84 => intro _; exact rfl)))
  repeat walk_at "e"
  refine item_list hp rfl (by decide) rfl (by decide) ?_
  (refine stsC ?_; first | ((with_reducible refine sAssL ?ha85 ?hd85 ?hb85); (case ha85 => exact rfl); (case hb85 => intro _; exact rfl)) | ((with_reducible refine sAssC ?ha85 ?hd85 ?hb85); (case ha85 => exact rfl); (case hb85 => intro _; exact rfl)) | (with_reducible first | refine sRet ?_ | refine sIf ?_) | ((with_reducible refine sExpr ?hd85 ?hb85); (case hb85 => intro _; exact rfl)))
  repeat walk_at "e"
  by_cases k8 : k < 8
  · refine iT (by first | exact dT (by omega) | exact dF (by omega) | exact eT (by omega) | exact eF (by omega) | exact nT (by omega) | exact nF (by omega) | (simp; omega)) ?_
    (refine stsC ?_; first | ((with_reducible refine sAssL ?ha86 ?hd86 ?hb86); (case ha86 => exact rfl); (case hb86 => intro _; exact rfl)) | ((with_reducible refine sAssC ?ha86 ?hd86 ?hb86); (case ha86 => exact rfl); (case hb86 => intro _; exact rfl)) | (with_reducible first | refine sRet ?_ | refine sIf ?_) | ((with_reducible refine sExpr ?hd86 ?hb86); (case hb86 => intro _; exact rfl)))
    repeat walk_at "e"
    refine callBu rfl E.len Boot.«len» (by decide) ?_
    repeat walk_at "e"
    refine len_ref er rfl (by first | with_reducible assumption | omega) ?_
    repeat walk_at "e"
    obtain ⟨a, ha, hal⟩ := toN1 (fm (F := cell.fdiv 15) (b := (lr.length : Int) + 1) ps1)
    rw [ha]
    (refine stsC ?_; first | ((with_reducible refine sAssL ?ha87 ?hd87 ?hb87); (case ha87 => exact rfl); (case hb87 => intro _; exact rfl)) | ((with_reducible refine sAssC ?ha87 ?hd87 ?hb87); (case ha87 => exact rfl); (case hb87 => intro _; exact rfl)) | (with_reducible first | refine sRet ?_ | refine sIf ?_) | ((with_reducible refine sExpr ?hd87 ?hb87); (case hb87 => intro _; exact rfl)))
    repeat walk_at "e"
    refine ⟨by show 1 ≤ sizeLine; decide, ?_⟩
    refine callBu rfl E.len Boot.«len» (by decide) ?_
    repeat walk_at "e"
    refine len_ref et rfl (by first | with_reducible assumption | omega) ?_
    refine mul_ti (o3 zt hm) ?_
    repeat walk_at "e"
    refine ⟨by show 3 ≤ sizeLine; decide, ?_⟩
    refine stsJ (fun ρ γ σ' => ∃ (nums : List V) (w : Str) (b : Int), nums.length = m ∧ Ints (-50) 50 nums ∧ (w = "most" ∨ w = "least") ∧ (-2000 ≤ b ∧ b ≤ 2000) ∧ ρ = ([("_law_kind_here", .int (k : Int)), ("_law_cell", .int cell), ("_law_tops_here", .ref it), ("_law_rows_here", .ref ir), ("_law_gain_here", .ref ig), ("_law_at", .int (a : Int)), ("_law_row", .tup [.tup nums, .str w, .int b])] : En) ∧ γ = [] ∧ σ = σ') ?_ ?_
    · refine sIf ?_
      repeat walk_at "e"
      refine callBu rfl E.len Boot.«len» (by decide) ?_
      repeat walk_at "e"
      refine len_ref er rfl (by first | with_reducible assumption | omega) ?_
      repeat walk_at "e"
      by_cases hlt : a < lr.length
      · refine iT (by first | exact dT (by omega) | exact dF (by omega) | exact eT (by omega) | exact eF (by omega) | exact nT (by omega) | exact nF (by omega) | (simp; omega)) ?_
        (refine stsC ?_; first | ((with_reducible refine sAssL ?ha88 ?hd88 ?hb88); (case ha88 => exact rfl); (case hb88 => intro _; exact rfl)) | ((with_reducible refine sAssC ?ha88 ?hd88 ?hb88); (case ha88 => exact rfl); (case hb88 => intro _; exact rfl)) | (with_reducible first | refine sRet ?_ | refine sIf ?_) | ((with_reducible refine sExpr ?hd88 ?hb88); (case hb88 => intro _; exact rfl)))
        repeat walk_at "e"
        obtain ⟨nums, w, b, hv, h1, h2, h3, h4⟩ := Ir lr[a] (List.getElem_mem hlt)
        refine item_list er rfl (Int.natCast_nonneg _) (v := .tup [.tup nums, .str w, .int b]) (by rw [Int.toNat_natCast, List.getElem?_eq_getElem hlt, hv]) (by first | with_reducible assumption | omega) ?_
        exact sts0 ⟨rfl, _, _, by repeat (first | exact Sub.nil | refine Sub.cons rfl ?_), by repeat (first | exact Sub.nil | refine Sub.cons rfl ?_), nums, w, b, h1, h2, h3, h4, rfl, rfl, rfl⟩
      · refine iN (by first | exact dT (by omega) | exact dF (by omega) | exact eT (by omega) | exact eF (by omega) | exact nT (by omega) | exact nF (by omega) | (simp; omega)) ?_
        refine sts0 ⟨rfl, _, _, by repeat (first | exact Sub.nil | refine Sub.cons rfl ?_), by repeat (first | exact Sub.nil | refine Sub.cons rfl ?_), List.replicate lt.length (.int 0), "most", 3, by simp [zt], fun v hv => ?_, .inl rfl, by decide, rfl, rfl, rfl⟩
        exact ⟨0, List.eq_of_mem_replicate hv, by decide, by decide⟩
    rintro _ _ _ ⟨nums, w, b, h1, h2, h3, h4, rfl, rfl, rfl⟩
    (refine stsC ?_; first | ((with_reducible refine sAssL ?ha89 ?hd89 ?hb89); (case ha89 => exact rfl); (case hb89 => intro _; exact rfl)) | ((with_reducible refine sAssC ?ha89 ?hd89 ?hb89); (case ha89 => exact rfl); (case hb89 => intro _; exact rfl)) | (with_reducible first | refine sRet ?_ | refine sIf ?_) | ((with_reducible refine sExpr ?hd89 ?hb89); (case hb89 => intro _; exact rfl)))
    repeat walk_at "e"
    refine ⟨_, _, _, rfl, er, rfl, (by first | with_reducible assumption | omega), .inl ⟨a, rfl, ?_⟩⟩
    have p1 := List.prefix_append σ [O.list (lr.take a)]
    have e1 : (σ ++ [O.list (lr.take a)])[σ.length]? = some (.list (lr.take a)) := List.getElem?_concat_length
    generalize σ.length = j1 at e1 ⊢
    generalize σ ++ [O.list (lr.take a)] = σ1 at p1 e1 ⊢
    repeat walk_at "e"
    refine callF E.sprow.1 E.sprow.2 rfl ?_
    repeat walk_at "e"
    refine sprow_ok (S := S.deeper (s01 28)) E (dn hn) hm k8 h1 h2 h3 h4 fun v σ2 p2 hv hb => ?_
    repeat walk_at "e"
    refine ⟨by show 1 ≤ sizeLine; decide, ?_⟩
    have p3 := List.prefix_append σ2 [O.list [v]]
    refine add_ll (pre_get p3 (pre_get p2 e1)) List.getElem?_concat_length (by first | exact la1 (by with_reducible assumption) | exact la2 (by with_reducible assumption) | exact la3 (by with_reducible assumption) | exact la4 (by with_reducible assumption) | exact la5 (by with_reducible assumption) | exact la6 (by with_reducible assumption) | exact la7 (by with_reducible assumption) | exact la8 (by with_reducible assumption) | exact la9 (by with_reducible assumption) | (simp; omega)) ?_
    have p4 := List.prefix_append (σ2 ++ [O.list [v]]) [O.list (lr.take a ++ [v])]
    have e4 : (σ2 ++ [O.list [v]] ++ [O.list (lr.take a ++ [v])])[(σ2 ++ [O.list [v]]).length]? = some (.list (lr.take a ++ [v])) := List.getElem?_concat_length
    generalize (σ2 ++ [O.list [v]]).length = j4 at e4 ⊢
    have p5 : σ <+: σ2 ++ [O.list [v]] ++ [O.list (lr.take a ++ [v])] := ((p1.trans p2).trans p3).trans p4
    have p6 : σ2 <+: σ2 ++ [O.list [v]] ++ [O.list (lr.take a ++ [v])] := p3.trans p4
    generalize σ2 ++ [O.list [v]] ++ [O.list (lr.take a ++ [v])] = σ4 at e4 p5 p6 ⊢
    repeat walk_at "e"
    refine ⟨_, _, _, a + 1, rfl, pre_get p5 er, rfl, (by first | with_reducible assumption | omega), by simp, ?_⟩
    have p7 := List.prefix_append σ4 [O.list (lr.drop (a + 1))]
    refine add_ll (pre_get p7 e4) List.getElem?_concat_length (by first | exact la1 (by with_reducible assumption) | exact la2 (by with_reducible assumption) | exact la3 (by with_reducible assumption) | exact la4 (by with_reducible assumption) | exact la5 (by with_reducible assumption) | exact la6 (by with_reducible assumption) | exact la7 (by with_reducible assumption) | exact la8 (by with_reducible assumption) | exact la9 (by with_reducible assumption) | (simp; omega)) ?_
    have p8 := List.prefix_append (σ4 ++ [O.list (lr.drop (a + 1))]) [O.list (lr.take a ++ [v] ++ lr.drop (a + 1))]
    have e8 : (σ4 ++ [O.list (lr.drop (a + 1))] ++ [O.list (lr.take a ++ [v] ++ lr.drop (a + 1))])[(σ4 ++ [O.list (lr.drop (a + 1))]).length]? = some (.list (lr.take a ++ [v] ++ lr.drop (a + 1))) := List.getElem?_concat_length
    generalize (σ4 ++ [O.list (lr.drop (a + 1))]).length = j8 at e8 ⊢
    have p9 := p7.trans p8
    generalize σ4 ++ [O.list (lr.drop (a + 1))] ++ [O.list (lr.take a ++ [v] ++ lr.drop (a + 1))] = σ8 at e8 p9 ⊢
    repeat walk_at "e"
    refine ⟨by show 3 ≤ sizeLine; decide, ?_⟩
    have p10 := List.prefix_append σ8 [O.list [.ref it, .ref j8, .ref ig]]
    have pa := (p5.trans p9).trans p10
    refine q _ _ pa ⟨_, _, _, _, _, _, _, _, _, List.getElem?_concat_length, .lst (pre_get pa et), .lst (pre_get p10 e8), .lst (pre_get pa eg), by omega, by simp; omega, by omega, It.plain _, fun y hy => ?_, Ig.plain _, no_rows (all_no (v := v) (by simp) (by rw [zt]; exact hb))⟩
    rcases List.mem_append.mp hy with z | z
    · rcases List.mem_append.mp z with z | z
      · exact pr0 y (List.mem_of_mem_take z)
      · rw [List.mem_singleton.mp z]; exact hv.pre ((p6.trans p9).trans p10)
    · exact pr0 y (List.mem_of_mem_drop z)
  refine iN (by first | exact dT (by omega) | exact dF (by omega) | exact eT (by omega) | exact eF (by omega) | exact nT (by omega) | exact nF (by omega) | (simp; omega)) ?_
  refine sts0 ?_
  (refine stsC ?_; first | ((with_reducible refine sAssL ?ha90 ?hd90 ?hb90); (case ha90 => exact rfl); (case hb90 => intro _; exact rfl)) | ((with_reducible refine sAssC ?ha90 ?hd90 ?hb90); (case ha90 => exact rfl); (case hb90 => intro _; exact rfl)) | (with_reducible first | refine sRet ?_ | refine sIf ?_) | ((with_reducible refine sExpr ?hd90 ?hb90); (case hb90 => intro _; exact rfl)))
  repeat walk_at "e"
  refine callBu rfl E.len Boot.«len» (by decide) ?_
  repeat walk_at "e"
  refine len_ref et rfl (by first | with_reducible assumption | omega) ?_
  refine fmod_ii (ne0 zt hm) ?_
  obtain ⟨a, ha, hal⟩ := toN (fm (F := cell.fdiv 5) (b := (lt.length : Int)) (ps zt hm.1)) zt
  rw [ha]
  (refine stsC ?_; first | ((with_reducible refine sAssL ?ha91 ?hd91 ?hb91); (case ha91 => exact rfl); (case hb91 => intro _; exact rfl)) | ((with_reducible refine sAssC ?ha91 ?hd91 ?hb91); (case ha91 => exact rfl); (case hb91 => intro _; exact rfl)) | (with_reducible first | refine sRet ?_ | refine sIf ?_) | ((with_reducible refine sExpr ?hd91 ?hb91); (case hb91 => intro _; exact rfl)))
  repeat walk_at "e"
  obtain ⟨g, hg, hg5⟩ := toN (n := 5) (fm (F := cell) (b := 5) (by decide)) rfl
  rw [hg]
  have bad5 : ∀ {a1 a2 a3 a4 a5 : V} , ∃ v, ([a1, a2, a3, a4, a5])[(g : Int).toNat]? = some v ∧ (v = a1 ∨ v = a2 ∨ v = a3 ∨ v = a4 ∨ v = a5) := fun {a1 a2 a3 a4 a5} => by
    rw [Int.toNat_natCast]
    match g, hg5 with
    | 0, _ => exact ⟨_, rfl, .inl rfl⟩
    | 1, _ => exact ⟨_, rfl, .inr (.inl rfl)⟩
    | 2, _ => exact ⟨_, rfl, .inr (.inr (.inl rfl))⟩
    | 3, _ => exact ⟨_, rfl, .inr (.inr (.inr (.inl rfl)))⟩
    | 4, _ => exact ⟨_, rfl, .inr (.inr (.inr (.inr rfl)))⟩
  have fin : ∀ {σ' : List O}, σ <+: σ' → ∀ {vt vr vg tL lt' rL lr' gL lg'}, SeqV σ' vt tL lt' → SeqV σ' vr rL lr' → SeqV σ' vg gL lg' → lt'.length ≤ 100 → lr'.length ≤ 100 → lg'.length ≤ 100 → (∀ v ∈ lt', plainV σ' v) → (∀ v ∈ lr', RowP σ' v) → (∀ v ∈ lg', plainV σ' v) → okP tL lt' rL lr' gL lg' = false → 3 ≤ sizeLine ∧ Q (.ref σ'.length) (σ' ++ [.list [vt, vr, vg]]) := fun {σ'} pp vt vr vg tL lt' rL lr' gL lg' s1 s2 s3 l1 l2 l3 p1 p2 p3 ok =>
    have pz := List.prefix_append σ' [O.list [vt, vr, vg]]
    ⟨by decide, q _ _ (pp.trans pz) ⟨_, _, _, _, _, _, _, _, _, List.getElem?_concat_length, s1.pre pz, s2.pre pz, s3.pre pz, l1, l2, l3, fun v hv => plain_pre pz (p1 v hv), fun v hv => (p2 v hv).pre pz, fun v hv => plain_pre pz (p3 v hv), ok⟩⟩
  (refine stsC ?_; first | ((with_reducible refine sAssL ?ha92 ?hd92 ?hb92); (case ha92 => exact rfl); (case hb92 => intro _; exact rfl)) | ((with_reducible refine sAssC ?ha92 ?hd92 ?hb92); (case ha92 => exact rfl); (case hb92 => intro _; exact rfl)) | (with_reducible first | refine sRet ?_ | refine sIf ?_) | ((with_reducible refine sExpr ?hd92 ?hb92); (case hb92 => intro _; exact rfl)))
  repeat walk_at "e"
  by_cases k8' : k = 8
  · refine iT (cT (n := 8) k8' rfl) ?_
    (refine stsC ?_; first | ((with_reducible refine sAssL ?ha93 ?hd93 ?hb93); (case ha93 => exact rfl); (case hb93 => intro _; exact rfl)) | ((with_reducible refine sAssC ?ha93 ?hd93 ?hb93); (case ha93 => exact rfl); (case hb93 => intro _; exact rfl)) | (with_reducible first | refine sRet ?_ | refine sIf ?_) | ((with_reducible refine sExpr ?hd93 ?hb93); (case hb93 => intro _; exact rfl)))
    repeat walk_at "e"
    refine callF E.put.1 E.put.2 rfl ?_
    repeat walk_at "e"
    refine ⟨by show 5 ≤ sizeLine; decide, ?_⟩
    repeat walk_at "e"
    obtain ⟨v, hv, hvv⟩ := bad5 (a1 := .int (-1)) (a2 := .int 21) (a3 := .bool true) (a4 := .str "0") (a5 := .none)
    refine item_list List.getElem?_concat_length rfl (Int.natCast_nonneg _) hv (g63 hg5) ?_
    repeat walk_at "e"
    have hvb : topB v = false := by rcases hvv with rfl | rfl | rfl | rfl | rfl <;> decide
    have hvp : ∀ {σ}, plainV σ v := by intro σ; rcases hvv with rfl | rfl | rfl | rfl | rfl <;> trivial
    have p1 := List.prefix_append σ [O.list [.int (-1), .int 21, .bool true, .str "0", .none]]
    refine put_ok (S := S.deeper (s01 28)) E (dn hn) (pre_get p1 et) (by first | with_reducible assumption | omega) (ltO zt hal) fun j σ2 p2 e2 => ?_
    repeat walk_at "e"
    have pp := p1.trans p2
    refine fin pp (.lst e2) (.lst (pre_get pp er)) (.lst (pre_get pp eg)) (by first | exact la1 (by with_reducible assumption) | exact la2 (by with_reducible assumption) | exact la3 (by with_reducible assumption) | exact la4 (by with_reducible assumption) | exact la5 (by with_reducible assumption) | exact la6 (by with_reducible assumption) | exact la7 (by with_reducible assumption) | exact la8 (by with_reducible assumption) | exact la9 (by with_reducible assumption) | (simp; omega)) (by first | with_reducible assumption | omega) (by first | with_reducible assumption | omega) (fun y hy => ?_) pr0 (Ig.plain _) (no_tops (all_no (v := v) (by simp) hvb))
    rcases List.mem_append.mp hy with z | z
    · rcases List.mem_append.mp z with z | z
      · exact It.plain _ y (List.mem_of_mem_take z)
      · rw [List.mem_singleton.mp z]; exact hvp
    · exact It.plain _ y (List.mem_of_mem_drop z)
  refine iN (cF (n := 8) k8' rfl) ?_
  refine sts0 ?_
  (refine stsC ?_; first | ((with_reducible refine sAssL ?ha94 ?hd94 ?hb94); (case ha94 => exact rfl); (case hb94 => intro _; exact rfl)) | ((with_reducible refine sAssC ?ha94 ?hd94 ?hb94); (case ha94 => exact rfl); (case hb94 => intro _; exact rfl)) | (with_reducible first | refine sRet ?_ | refine sIf ?_) | ((with_reducible refine sExpr ?hd94 ?hb94); (case hb94 => intro _; exact rfl)))
  repeat walk_at "e"
  by_cases k9 : k = 9
  · refine iT (cT (n := 9) k9 rfl) ?_
    (refine stsC ?_; first | ((with_reducible refine sAssL ?ha95 ?hd95 ?hb95); (case ha95 => exact rfl); (case hb95 => intro _; exact rfl)) | ((with_reducible refine sAssC ?ha95 ?hd95 ?hb95); (case ha95 => exact rfl); (case hb95 => intro _; exact rfl)) | (with_reducible first | refine sRet ?_ | refine sIf ?_) | ((with_reducible refine sExpr ?hd95 ?hb95); (case hb95 => intro _; exact rfl)))
    repeat walk_at "e"
    refine callF E.put.1 E.put.2 rfl ?_
    repeat walk_at "e"
    refine ⟨by show 5 ≤ sizeLine; decide, ?_⟩
    repeat walk_at "e"
    obtain ⟨v, hv, hvv⟩ := bad5 (a1 := .int 51) (a2 := .int (-51)) (a3 := .bool true) (a4 := .str "0") (a5 := .none)
    refine item_list List.getElem?_concat_length rfl (Int.natCast_nonneg _) hv (g63 hg5) ?_
    repeat walk_at "e"
    have hvb : withinB v 50 = false := by rcases hvv with rfl | rfl | rfl | rfl | rfl <;> decide
    have hvp : ∀ {σ}, plainV σ v := by intro σ; rcases hvv with rfl | rfl | rfl | rfl | rfl <;> trivial
    have p1 := List.prefix_append σ [O.list [.int 51, .int (-51), .bool true, .str "0", .none]]
    refine put_ok (S := S.deeper (s01 28)) E (dn hn) (pre_get p1 eg) (by first | with_reducible assumption | omega) (ltO zg hal) fun j σ2 p2 e2 => ?_
    repeat walk_at "e"
    have pp := p1.trans p2
    refine fin pp (.lst (pre_get pp et)) (.lst (pre_get pp er)) (.lst e2) (by first | with_reducible assumption | omega) (by first | with_reducible assumption | omega) (by first | exact la1 (by with_reducible assumption) | exact la2 (by with_reducible assumption) | exact la3 (by with_reducible assumption) | exact la4 (by with_reducible assumption) | exact la5 (by with_reducible assumption) | exact la6 (by with_reducible assumption) | exact la7 (by with_reducible assumption) | exact la8 (by with_reducible assumption) | exact la9 (by with_reducible assumption) | (simp; omega)) (It.plain _) pr0 (fun y hy => ?_) (no_gain (all_no (v := v) (by simp) hvb))
    rcases List.mem_append.mp hy with z | z
    · rcases List.mem_append.mp z with z | z
      · exact Ig.plain _ y (List.mem_of_mem_take z)
      · rw [List.mem_singleton.mp z]; exact hvp
    · exact Ig.plain _ y (List.mem_of_mem_drop z)
  refine iN (cF (n := 9) k9 rfl) ?_
  refine sts0 ?_
  (refine stsC ?_; first | ((with_reducible refine sAssL ?ha96 ?hd96 ?hb96); (case ha96 => exact rfl); (case hb96 => intro _; exact rfl)) | ((with_reducible refine sAssC ?ha96 ?hd96 ?hb96); (case ha96 => exact rfl); (case hb96 => intro _; exact rfl)) | (with_reducible first | refine sRet ?_ | refine sIf ?_) | ((with_reducible refine sExpr ?hd96 ?hb96); (case hb96 => intro _; exact rfl)))
  repeat walk_at "e"
  by_cases k10 : k = 10
  · refine iT (cT (n := 10) k10 rfl) ?_
    (refine stsC ?_; first | ((with_reducible refine sAssL ?ha97 ?hd97 ?hb97); (case ha97 => exact rfl); (case hb97 => intro _; exact rfl)) | ((with_reducible refine sAssC ?ha97 ?hd97 ?hb97); (case ha97 => exact rfl); (case hb97 => intro _; exact rfl)) | (with_reducible first | refine sRet ?_ | refine sIf ?_) | ((with_reducible refine sExpr ?hd97 ?hb97); (case hb97 => intro _; exact rfl)))
    repeat walk_at "e"
    refine callTy rfl E.tuple Boot.«tuple» (by decide) ?_
    repeat walk_at "e"
    refine tuple_ref et rfl (szOk (by first | with_reducible assumption | omega)) ?_
    repeat walk_at "e"
    exact fin (List.prefix_refl _) .tup (.lst er) (.lst eg) (by first | with_reducible assumption | omega) (by first | with_reducible assumption | omega) (by first | with_reducible assumption | omega) (It.plain _) pr0 (Ig.plain _) no_tL
  refine iN (cF (n := 10) k10 rfl) ?_
  refine sts0 ?_
  (refine stsC ?_; first | ((with_reducible refine sAssL ?ha98 ?hd98 ?hb98); (case ha98 => exact rfl); (case hb98 => intro _; exact rfl)) | ((with_reducible refine sAssC ?ha98 ?hd98 ?hb98); (case ha98 => exact rfl); (case hb98 => intro _; exact rfl)) | (with_reducible first | refine sRet ?_ | refine sIf ?_) | ((with_reducible refine sExpr ?hd98 ?hb98); (case hb98 => intro _; exact rfl)))
  repeat walk_at "e"
  by_cases k11 : k = 11
  · refine iT (cT (n := 11) k11 rfl) ?_
    (refine stsC ?_; first | ((with_reducible refine sAssL ?ha99 ?hd99 ?hb99); (case ha99 => exact rfl); (case hb99 => intro _; exact rfl)) | ((with_reducible refine sAssC ?ha99 ?hd99 ?hb99); (case ha99 => exact rfl); (case hb99 => intro _; exact rfl)) | (with_reducible first | refine sRet ?_ | refine sIf ?_) | ((with_reducible refine sExpr ?hd99 ?hb99); (case hb99 => intro _; exact rfl)))
    repeat walk_at "e"
    refine callTy rfl E.tuple Boot.«tuple» (by decide) ?_
    repeat walk_at "e"
    refine tuple_ref er rfl (szOk (by first | with_reducible assumption | omega)) ?_
    repeat walk_at "e"
    exact fin (List.prefix_refl _) (.lst et) .tup (.lst eg) (by first | with_reducible assumption | omega) (by first | with_reducible assumption | omega) (by first | with_reducible assumption | omega) (It.plain _) pr0 (Ig.plain _) no_rL
  refine iN (cF (n := 11) k11 rfl) ?_
  refine sts0 ?_
  (refine stsC ?_; first | ((with_reducible refine sAssL ?ha100 ?hd100 ?hb100); (case ha100 => exact rfl); (case hb100 => intro _; exact rfl)) | ((with_reducible refine sAssC ?ha100 ?hd100 ?hb100); (case ha100 => exact rfl); (case hb100 => intro _; exact rfl)) | (with_reducible first | refine sRet ?_ | refine sIf ?_) | ((with_reducible refine sExpr ?hd100 ?hb100); (case hb100 => intro _; exact rfl)))
  repeat walk_at "e"
  by_cases k12 : k = 12
  · refine iT (cT (n := 12) k12 rfl) ?_
    (refine stsC ?_; first | ((with_reducible refine sAssL ?ha101 ?hd101 ?hb101); (case ha101 => exact rfl); (case hb101 => intro _; exact rfl)) | ((with_reducible refine sAssC ?ha101 ?hd101 ?hb101); (case ha101 => exact rfl); (case hb101 => intro _; exact rfl)) | (with_reducible first | refine sRet ?_ | refine sIf ?_) | ((with_reducible refine sExpr ?hd101 ?hb101); (case hb101 => intro _; exact rfl)))
    repeat walk_at "e"
    refine callTy rfl E.tuple Boot.«tuple» (by decide) ?_
    repeat walk_at "e"
    refine tuple_ref eg rfl (szOk (by first | with_reducible assumption | omega)) ?_
    repeat walk_at "e"
    exact fin (List.prefix_refl _) (.lst et) (.lst er) .tup (by first | with_reducible assumption | omega) (by first | with_reducible assumption | omega) (by first | with_reducible assumption | omega) (It.plain _) pr0 (Ig.plain _) no_gL
  refine iN (cF (n := 12) k12 rfl) ?_
  refine sts0 ?_
  (refine stsC ?_; first | ((with_reducible refine sAssL ?ha102 ?hd102 ?hb102); (case ha102 => exact rfl); (case hb102 => intro _; exact rfl)) | ((with_reducible refine sAssC ?ha102 ?hd102 ?hb102); (case ha102 => exact rfl); (case hb102 => intro _; exact rfl)) | (with_reducible first | refine sRet ?_ | refine sIf ?_) | ((with_reducible refine sExpr ?hd102 ?hb102); (case hb102 => intro _; exact rfl)))
  repeat walk_at "e"
  have g2 := fm (F := (g : Int)) (b := 2) (by decide)
  by_cases k13 : k = 13
  · refine iT (cT (n := 13) k13 rfl) ?_
    (refine stsC ?_; first | ((with_reducible refine sAssL ?ha103 ?hd103 ?hb103); (case ha103 => exact rfl); (case hb103 => intro _; exact rfl)) | ((with_reducible refine sAssC ?ha103 ?hd103 ?hb103); (case ha103 => exact rfl); (case hb103 => intro _; exact rfl)) | (with_reducible first | refine sRet ?_ | refine sIf ?_) | ((with_reducible refine sExpr ?hd103 ?hb103); (case hb103 => intro _; exact rfl)))
    repeat walk_at "e"
    refine ⟨_, _, _, rfl, eg, rfl, (by first | with_reducible assumption | omega), .inr ⟨rfl, ?_⟩⟩
    have p1 := List.prefix_append σ [O.list (lg.take (lg.length - 1))]
    have e1 : (σ ++ [O.list (lg.take (lg.length - 1))])[σ.length]? = some (.list (lg.take (lg.length - 1))) := List.getElem?_concat_length
    generalize σ.length = j1 at e1 ⊢
    generalize σ ++ [O.list (lg.take (lg.length - 1))] = σ1 at p1 e1 ⊢
    repeat walk_at "e"
    refine ⟨by show 1 ≤ sizeLine; decide, ?_⟩
    have p2 := List.prefix_append σ1 [O.list [V.int 0]]
    refine add_ll (pre_get (p1.trans p2) eg) List.getElem?_concat_length (by first | exact la1 (by with_reducible assumption) | exact la2 (by with_reducible assumption) | exact la3 (by with_reducible assumption) | exact la4 (by with_reducible assumption) | exact la5 (by with_reducible assumption) | exact la6 (by with_reducible assumption) | exact la7 (by with_reducible assumption) | exact la8 (by with_reducible assumption) | exact la9 (by with_reducible assumption) | (simp; omega)) ?_
    have p3 := List.prefix_append (σ1 ++ [O.list [V.int 0]]) [O.list (lg ++ [V.int 0])]
    have e3 : (σ1 ++ [O.list [V.int 0]] ++ [O.list (lg ++ [V.int 0])])[(σ1 ++ [O.list [V.int 0]]).length]? = some (.list (lg ++ [V.int 0])) := List.getElem?_concat_length
    generalize (σ1 ++ [O.list [V.int 0]]).length = j3 at e3 ⊢
    have p4 := (p1.trans p2).trans p3
    have e1' := pre_get (p2.trans p3) e1
    generalize σ1 ++ [O.list [V.int 0]] ++ [O.list (lg ++ [V.int 0])] = σ3 at e3 p4 e1' ⊢
    repeat walk_at "e"
    refine ⟨by show 2 ≤ sizeLine; decide, ?_⟩
    repeat walk_at "e"
    have p5 := List.prefix_append σ3 [O.list [V.ref j1, V.ref j3]]
    rcases two (g : Int) with h | h
    · refine item_list List.getElem?_concat_length rfl g2.1 (v := .ref j1) (by rw [h]; rfl) (h63 g2) ?_
      repeat walk_at "e"
      have pp := p4.trans p5
      exact fin pp (.lst (pre_get pp et)) (.lst (pre_get pp er)) (.lst (pre_get p5 e1')) (by first | with_reducible assumption | omega) (by first | with_reducible assumption | omega) (by first | exact la1 (by with_reducible assumption) | exact la2 (by with_reducible assumption) | exact la3 (by with_reducible assumption) | exact la4 (by with_reducible assumption) | exact la5 (by with_reducible assumption) | exact la6 (by with_reducible assumption) | exact la7 (by with_reducible assumption) | exact la8 (by with_reducible assumption) | exact la9 (by with_reducible assumption) | (simp; omega)) (It.plain _) pr0 (fun y hy => Ig.plain _ y (List.mem_of_mem_take hy)) (no_len (by first | exact nl1 zg zt hm | exact nl2 zg zt))
    · refine item_list List.getElem?_concat_length rfl g2.1 (v := .ref j3) (by rw [h]; rfl) (h63 g2) ?_
      repeat walk_at "e"
      have pp := p4.trans p5
      exact fin pp (.lst (pre_get pp et)) (.lst (pre_get pp er)) (.lst (pre_get p5 e3)) (by first | with_reducible assumption | omega) (by first | with_reducible assumption | omega) (by first | exact la1 (by with_reducible assumption) | exact la2 (by with_reducible assumption) | exact la3 (by with_reducible assumption) | exact la4 (by with_reducible assumption) | exact la5 (by with_reducible assumption) | exact la6 (by with_reducible assumption) | exact la7 (by with_reducible assumption) | exact la8 (by with_reducible assumption) | exact la9 (by with_reducible assumption) | (simp; omega)) (It.plain _) pr0 ((Ig.snoc (z := 0) (by decide) (by decide)).plain _) (no_len (by first | exact nl1 zg zt hm | exact nl2 zg zt))
  refine iN (cF (n := 13) k13 rfl) ?_
  refine sts0 ?_
  (refine stsC ?_; first | ((with_reducible refine sAssL ?ha104 ?hd104 ?hb104); (case ha104 => exact rfl); (case hb104 => intro _; exact rfl)) | ((with_reducible refine sAssC ?ha104 ?hd104 ?hb104); (case ha104 => exact rfl); (case hb104 => intro _; exact rfl)) | (with_reducible first | refine sRet ?_ | refine sIf ?_) | ((with_reducible refine sExpr ?hd104 ?hb104); (case hb104 => intro _; exact rfl)))
  repeat walk_at "e"
  by_cases k14 : k = 14
  · refine iT (cT (n := 14) k14 rfl) ?_
    (refine stsC ?_; first | ((with_reducible refine sAssL ?ha105 ?hd105 ?hb105); (case ha105 => exact rfl); (case hb105 => intro _; exact rfl)) | ((with_reducible refine sAssC ?ha105 ?hd105 ?hb105); (case ha105 => exact rfl); (case hb105 => intro _; exact rfl)) | (with_reducible first | refine sRet ?_ | refine sIf ?_) | ((with_reducible refine sExpr ?hd105 ?hb105); (case hb105 => intro _; exact rfl)))
    repeat walk_at "e"
    refine ⟨by show 1 ≤ sizeLine; decide, ?_⟩
    refine callBu rfl E.len Boot.«len» (by decide) ?_
    repeat walk_at "e"
    refine len_ref et rfl (by first | with_reducible assumption | omega) ?_
    refine mul_ti (o3 zt hm) ?_
    repeat walk_at "e"
    refine ⟨by show 3 ≤ sizeLine; decide, ?_⟩
    repeat walk_at "e"
    refine ⟨by show 1 ≤ sizeLine; decide, ?_⟩
    repeat walk_at "e"
    refine callBu rfl E.len Boot.«len» (by decide) ?_
    repeat walk_at "e"
    have p1 := List.prefix_append σ [O.list [.tup [.tup (List.replicate lt.length (.int 0)), .str "most", .int 3]]]
    refine len_ref (pre_get p1 er) rfl (by first | with_reducible assumption | omega) ?_
    repeat walk_at "e"
    obtain ⟨n7, hn7, hn7'⟩ : ∃ n : Nat, (7 : Int) - lr.length = n ∧ lr.length + n = 7 := ⟨7 - lr.length, by omega, by omega⟩
    rw [hn7]
    refine mul_li List.getElem?_concat_length (by simp) (by first | exact la1 (by with_reducible assumption) | exact la2 (by with_reducible assumption) | exact la3 (by with_reducible assumption) | exact la4 (by with_reducible assumption) | exact la5 (by with_reducible assumption) | exact la6 (by with_reducible assumption) | exact la7 (by with_reducible assumption) | exact la8 (by with_reducible assumption) | exact la9 (by with_reducible assumption) | (simp; omega)) (by first | with_reducible assumption | omega) ?_
    have p2 := List.prefix_append (σ ++ [O.list [.tup [.tup (List.replicate lt.length (.int 0)), .str "most", .int 3]]]) [O.list (List.replicate n7 [V.tup [.tup (List.replicate lt.length (.int 0)), .str "most", .int 3]]).flatten]
    refine add_ll (pre_get (p1.trans p2) er) List.getElem?_concat_length (by first | exact la1 (by with_reducible assumption) | exact la2 (by with_reducible assumption) | exact la3 (by with_reducible assumption) | exact la4 (by with_reducible assumption) | exact la5 (by with_reducible assumption) | exact la6 (by with_reducible assumption) | exact la7 (by with_reducible assumption) | exact la8 (by with_reducible assumption) | exact la9 (by with_reducible assumption) | (simp; omega)) ?_
    repeat walk_at "e"
    have p3 := (p1.trans p2).trans (List.prefix_append _ [O.list (lr ++ (List.replicate n7 [V.tup [.tup (List.replicate lt.length (.int 0)), .str "most", .int 3]]).flatten)])
    refine fin p3 (.lst (pre_get p3 et)) (.lst List.getElem?_concat_length) (.lst (pre_get p3 eg)) (by first | with_reducible assumption | omega) (by first | exact la1 (by with_reducible assumption) | exact la2 (by with_reducible assumption) | exact la3 (by with_reducible assumption) | exact la4 (by with_reducible assumption) | exact la5 (by with_reducible assumption) | exact la6 (by with_reducible assumption) | exact la7 (by with_reducible assumption) | exact la8 (by with_reducible assumption) | exact la9 (by with_reducible assumption) | (simp; omega)) (by first | with_reducible assumption | omega) (It.plain _) (fun y hy => ?_) (Ig.plain _) (no_six (by first | exact la1 (by with_reducible assumption) | exact la2 (by with_reducible assumption) | exact la3 (by with_reducible assumption) | exact la4 (by with_reducible assumption) | exact la5 (by with_reducible assumption) | exact la6 (by with_reducible assumption) | exact la7 (by with_reducible assumption) | exact la8 (by with_reducible assumption) | exact la9 (by with_reducible assumption) | (simp; omega)))
    rcases List.mem_append.mp hy with z | z
    · exact pr0 y z
    · obtain ⟨l', hl', hy'⟩ := List.mem_flatten.mp z
      rw [List.eq_of_mem_replicate hl'] at hy'
      rw [List.mem_singleton.mp hy']
      refine rowP3 trivial (fun l e => ?_) flS flI (fun x e => by cases e; decide +kernel)
      cases e
      exact ⟨(by first | exact la1 (by with_reducible assumption) | exact la2 (by with_reducible assumption) | exact la3 (by with_reducible assumption) | exact la4 (by with_reducible assumption) | exact la5 (by with_reducible assumption) | exact la6 (by with_reducible assumption) | exact la7 (by with_reducible assumption) | exact la8 (by with_reducible assumption) | exact la9 (by with_reducible assumption) | (simp; omega)), fun y hy => by rw [List.eq_of_mem_replicate hy]; trivial⟩
  refine iN (cF (n := 14) k14 rfl) ?_
  refine sts0 ?_
  (refine stsC ?_; first | ((with_reducible refine sAssL ?ha106 ?hd106 ?hb106); (case ha106 => exact rfl); (case hb106 => intro _; exact rfl)) | ((with_reducible refine sAssC ?ha106 ?hd106 ?hb106); (case ha106 => exact rfl); (case hb106 => intro _; exact rfl)) | (with_reducible first | refine sRet ?_ | refine sIf ?_) | ((with_reducible refine sExpr ?hd106 ?hb106); (case hb106 => intro _; exact rfl)))
  repeat walk_at "e"
  refine ⟨by decide, ?_⟩
  have p1 := List.prefix_append σ [O.list []]
  have e1 : (σ ++ [O.list []])[σ.length]? = some (.list []) := List.getElem?_concat_length
  generalize σ.length = j1 at e1 ⊢
  generalize σ ++ [O.list []] = σ1 at p1 e1 ⊢
  repeat walk_at "e"
  refine ⟨by show 1 ≤ sizeLine; decide, ?_⟩
  repeat walk_at "e"
  refine mul_li (n := 4) List.getElem?_concat_length (by simp) (by simp) (by first | with_reducible assumption | omega) ?_
  have p2 := (List.prefix_append σ1 [O.list [V.int 0]]).trans (List.prefix_append _ [O.list (List.replicate 4 [V.int 0]).flatten])
  have e2 : (σ1 ++ [O.list [V.int 0]] ++ [O.list (List.replicate 4 [V.int 0]).flatten])[(σ1 ++ [O.list [V.int 0]]).length]? = some (.list (List.replicate 4 [V.int 0]).flatten) := List.getElem?_concat_length
  generalize (σ1 ++ [O.list [V.int 0]]).length = j2 at e2 ⊢
  generalize σ1 ++ [O.list [V.int 0]] ++ [O.list (List.replicate 4 [V.int 0]).flatten] = σ2 at p2 e2 ⊢
  repeat walk_at "e"
  refine ⟨by show 2 ≤ sizeLine; decide, ?_⟩
  repeat walk_at "e"
  have p3 := List.prefix_append σ2 [O.list [V.ref j1, V.ref j2]]
  have pp := (p1.trans p2).trans p3
  rcases two (g : Int) with h | h
  · refine item_list List.getElem?_concat_length rfl g2.1 (v := .ref j1) (by rw [h]; rfl) (h63 g2) ?_
    repeat walk_at "e"
    exact fin pp (.lst (pre_get (p2.trans p3) e1)) (.lst (pre_get pp er)) (.lst (pre_get pp eg)) (by simp) (by first | with_reducible assumption | omega) (by first | with_reducible assumption | omega) (fun y hy => by cases hy) pr0 (Ig.plain _) (no_three (by simp))
  · refine item_list List.getElem?_concat_length rfl g2.1 (v := .ref j2) (by rw [h]; rfl) (h63 g2) ?_
    repeat walk_at "e"
    refine fin pp (.lst (pre_get p3 e2)) (.lst (pre_get pp er)) (.lst (pre_get pp eg)) (by simp) (by first | with_reducible assumption | omega) (by first | with_reducible assumption | omega) (fun y hy => ?_) pr0 (Ig.plain _) (no_three (by simp))
    obtain ⟨l', hl', hy'⟩ := List.mem_flatten.mp hy
    rw [List.eq_of_mem_replicate hl'] at hy'
    rw [List.mem_singleton.mp hy']; trivial
end

theorem canAll {ds : List PyData} (h : ∀ d ∈ ds, d.canLay0 = true) : PyData.canLayAll0 ds = true := by
  induction ds with
  | nil => rfl
  | cons d ds ih => rw [PyData.canLayAll0, h d (.head _), ih fun d hd => h d (.tail _ hd)]; rfl
theorem depAll {ds : List PyData} {n : Nat} (h : ∀ d ∈ ds, d.depth ≤ n) : PyData.depthAll ds ≤ n := by
  induction ds with
  | nil => exact Nat.zero_le _
  | cons d ds ih => rw [PyData.depthAll]; exact Nat.max_le.mpr ⟨h d (.head _), ih fun d hd => h d (.tail _ hd)⟩
def RdL (l : List V) (ds : List PyData) : Prop := (∀ σ, Rds σ l ds) ∧ ∀ d ∈ ds, d.canLay0 = true ∧ d.depth ≤ 4
theorem RdL.of : ∀ {l : List V}, (∀ v ∈ l, ∃ d, (∀ σ, Rd σ v d) ∧ d.canLay0 = true ∧ d.depth ≤ 4) → ∃ ds, RdL l ds
  | [], _ => ⟨[], fun _ => .nil, fun _ h => by cases h⟩
  | v :: l, h => by
    obtain ⟨d, d1, d2⟩ := h v (.head _)
    obtain ⟨ds, e1, e2⟩ := RdL.of (l := l) fun v hv => h v (.tail _ hv)
    refine ⟨d :: ds, fun σ => .cons (d1 σ) (e1 σ), fun x hx => ?_⟩
    rcases List.mem_cons.mp hx with rfl | hx
    · exact d2
    · exact e2 x hx
theorem Ints.rd1 {lo hi : Int} : ∀ {l : List V}, Ints lo hi l → ∃ ds, (∀ σ, Rds σ l ds) ∧ ∀ d ∈ ds, d.canLay0 = true ∧ d.depth ≤ 0
  | [], _ => ⟨[], fun _ => .nil, fun _ h => by cases h⟩
  | v :: l, h => by
    obtain ⟨z, rfl, _⟩ := h v (.head _)
    obtain ⟨ds, e1, e2⟩ := Ints.rd1 (l := l) (lo := lo) (hi := hi) fun v hv => h v (.tail _ hv)
    refine ⟨.int z :: ds, fun σ => .cons (.int _) (e1 σ), fun x hx => ?_⟩
    rcases List.mem_cons.mp hx with rfl | hx
    · exact ⟨rfl, Nat.le_refl _⟩
    · exact e2 x hx
theorem Ints.rd {lo hi : Int} {l : List V} (h : Ints lo hi l) : ∃ ds, RdL l ds := by
  obtain ⟨ds, e1, e2⟩ := h.rd1
  exact ⟨ds, e1, fun d hd => ⟨(e2 d hd).1, Nat.le_trans (e2 d hd).2 (by decide)⟩⟩
theorem rowG_rd {m : Nat} {v : V} (h : RowG m v) : ∃ d, (∀ σ, Rd σ v d) ∧ d.canLay0 = true ∧ d.depth ≤ 4 := by
  obtain ⟨ns, w, b, rfl, _, hI, hw, _⟩ := h
  obtain ⟨ds, e1, e2⟩ := hI.rd1
  refine ⟨.tuple [.tuple ds, .str w, .int b], fun σ => .tup (.cons (.tup (e1 σ)) (.cons (.str _) (.cons (.int _) .nil))), ?_, ?_⟩
  · rw [PyData.canLay0]
    refine canAll fun d hd => ?_
    rcases List.mem_cons.mp hd with rfl | hd
    · rw [PyData.canLay0]; exact canAll fun d hd => (e2 d hd).1
    · rcases List.mem_cons.mp hd with rfl | hd
      · rcases hw with rfl | rfl <;> decide +kernel
      · rw [List.mem_singleton.mp hd]; rfl
  · rw [PyData.depth]
    refine Nat.le_trans (Nat.succ_le_succ (depAll (n := 1) fun d hd => ?_)) (by decide)
    rcases List.mem_cons.mp hd with rfl | hd
    · rw [PyData.depth]; exact Nat.succ_le_succ (depAll fun d hd => (e2 d hd).2)
    · rcases List.mem_cons.mp hd with rfl | hd
      · exact Nat.zero_le _
      · rw [List.mem_singleton.mp hd]; exact Nat.zero_le _
theorem RdL.shaped {l : List V} {ds : List PyData} (h : RdL l ds) : (PyData.list ds).canLay0 = true ∧ (PyData.list ds).depth ≤ 5 := by
  constructor
  · rw [PyData.canLay0]; exact canAll fun d hd => (h.2 d hd).1
  · rw [PyData.depth]; exact Nat.succ_le_succ (depAll fun d hd => (h.2 d hd).2)
theorem shapedOf {d : PyData} {n : Nat} (h : d.canLay0 = true ∧ d.depth ≤ n) (hn : n ≤ 60) : SeqAt.shaped d = true := by
  unfold SeqAt.shaped
  rw [h.1, decide_eq_true (Nat.le_trans h.2 (Nat.le_trans hn (by decide)))]; rfl
theorem shaped3 {a b d : PyData} (ha : a.canLay0 = true ∧ a.depth ≤ 5) (hb : b.canLay0 = true ∧ b.depth ≤ 5) (hd : d.canLay0 = true ∧ d.depth ≤ 5) : (PyData.list [a, b, d]).canLay0 = true ∧ (PyData.list [a, b, d]).depth ≤ 6 := by
  have g : ∀ x ∈ [a, b, d], x.canLay0 = true ∧ x.depth ≤ 5 := fun x hx => by
    rcases List.mem_cons.mp hx with rfl | hx
    · exact ha
    · rcases List.mem_cons.mp hx with rfl | hx
      · exact hb
      · rw [List.mem_singleton.mp hx]; exact hd
  constructor
  · rw [PyData.canLay0]; exact canAll fun d hd => (g d hd).1
  · rw [PyData.depth]; exact Nat.succ_le_succ (depAll fun d hd => (g d hd).2)

theorem okP_true {m : Nat} (hm : 1 ≤ m ∧ m ≤ 3) {lt lr lg : List V} (zt : lt.length = m) (It : Ints 0 20 lt) (zr : lr.length ≤ 6) (Ir : ∀ v ∈ lr, RowG m v) (zg : lg.length = m) (Ig : Ints (-50) 50 lg) : okP true lt true lr true lg = true := by
  have wi : ∀ {l : List V}, Ints (-50) 50 l → l.all (withinB · 50) = true := fun {l} h => List.all_eq_true.mpr fun v hv => by
    obtain ⟨z, rfl, h1, h2⟩ := h v hv
    simp [withinB, h1, h2]
  have a1 : lt.all topB = true := List.all_eq_true.mpr fun v hv => by
    obtain ⟨z, rfl, h1, h2⟩ := It v hv
    simp [topB, h1, h2]
  have a2 : lr.all (rowB · lt.length) = true := List.all_eq_true.mpr fun v hv => by
    obtain ⟨ns, w, b, rfl, y1, y2, y3, y4, y5⟩ := Ir v hv
    have z1 : (ns.length == lt.length) = true := by simp [y1, zt]
    have z2 := wi y2
    have z3 : wordB (.str w) = true := by rcases y3 with rfl | rfl <;> decide +kernel
    have z4 : withinB (.int b) 2000 = true := by simp [withinB, y4, y5]
    show (ns.length == lt.length && ns.all (withinB · 50) && wordB (.str w) && withinB (.int b) 2000) = true
    rw [z1, z2, z3, z4]; rfl
  unfold okP
  rw [a1, a2, wi Ig, decide_eq_true (show 1 ≤ lt.length by omega), decide_eq_true (show lt.length ≤ 3 by omega), decide_eq_true zr, decide_eq_true (show lg.length = lt.length by omega)]
  rfl

theorem neq3 {a x t i : Nat} (h : x < t ∨ i ≤ x) (h2 : t ≤ a ∧ a < i) : a ≠ x := by omega
theorem le200 {n k : Nat} (h : n ≤ 100) : n ≤ 200 + k := by omega
section
variable {c : C0} {S : Stt} {ρ γ : List (Str × V)} {σ : List O} {Q : V → List O → Prop} {X : Addr → List O → Prop}

theorem lwhole_ok (E : E01 c) (hn : S.n < 45) {z : Int} (q : Q (.bool true) σ) : WL VR c S (fun us => call (.ref (E.a 17)) us) [.int z] ρ γ Q X σ := by
  refine callB [("_law_found", .int z)] [] E.lwhole.2 rfl (dm hn) (by repeat (first | exact Par.nil | refine Par.cons rfl rfl ?_)) (by repeat (first | exact Par.nil | refine Par.cons rfl rfl ?_)) ?_
  (refine stsC ?_; first | ((with_reducible refine sAssL ?ha107 ?hd107 ?hb107); (case ha107 => exact rfl); (case hb107 => intro _; exact rfl)) | ((with_reducible refine sAssC ?ha107 ?hd107 ?hb107); (case ha107 => exact rfl); (case hb107 => intro _; exact rfl)) | (with_reducible first | refine sRet ?_ | refine sIf ?_) | ((with_reducible refine sExpr ?hd107 ?hb107); (case hb107 => intro _; exact rfl)))
  refine boolAnd ?_
  refine callIsi rfl E.isi rfl E.int Boot.«int» (by decide) ?_
  repeat walk_at "e"
  refine isi_ty (T := .int) trivial ?_
  repeat walk_at "e"
  refine boolOp1 ?_
  repeat walk_at "e"
  refine callIsi rfl E.isi rfl E.bool Boot.«bool» (by decide) ?_
  repeat walk_at "e"
  refine isi_ty (T := .bool) trivial ?_
  exact not_b q

theorem numbers_ok (E : E01 c) (hn : S.n < 40) (hq : S.q = true) {i j : Nat} {l : List V} {lo hi : Int} (e1 : σ[i]? = some (.list l)) (e2 : σ[j]? = some (.list l)) (hI : Ints lo hi l) (hl : l.length ≤ 100) (q : Q (.bool true) σ) :
    WL VR c S (fun us => call (.ref (E.a 24)) us) [.ref i, .ref j] ρ γ Q X σ := by
  refine callB [("_law_found", .ref i), ("_law_due", .ref j)] [] E.numbers.2 rfl (dm hn) (by repeat (first | exact Par.nil | refine Par.cons rfl rfl ?_)) (by repeat (first | exact Par.nil | refine Par.cons rfl rfl ?_)) ?_
  (refine stsC ?_; first | ((with_reducible refine sAssL ?ha108 ?hd108 ?hb108); (case ha108 => exact rfl); (case hb108 => intro _; exact rfl)) | ((with_reducible refine sAssC ?ha108 ?hd108 ?hb108); (case ha108 => exact rfl); (case hb108 => intro _; exact rfl)) | (with_reducible first | refine sRet ?_ | refine sIf ?_) | ((with_reducible refine sExpr ?hd108 ?hb108); (case hb108 => intro _; exact rfl)))
  repeat walk_at "e"
  refine tstP (callIsi rfl E.isi rfl E.list Boot.«list» (by decide) ?_)
  repeat walk_at "e"
  refine isi_ty (T := .list) ⟨_, _, e1, rfl⟩ ?_
  repeat walk_at "e"
  refine callBu rfl E.len Boot.«len» (by decide) ?_
  repeat walk_at "e"
  refine len_ref e1 rfl (by omega) ?_
  refine callBu rfl E.len Boot.«len» (by decide) ?_
  repeat walk_at "e"
  refine len_ref e2 rfl (by omega) ?_
  repeat walk_at "e"
  refine iN (by simp) ?_
  repeat walk_at "e"
  refine sts0 ?_
  refine forL hq rfl ?_
  refine wiRange rfl E.range Boot.«range» ?_
  refine callBu rfl E.len Boot.«len» (by decide) ?_
  repeat walk_at "e"
  refine len_ref e2 rfl (by omega) ?_
  refine ⟨_, rfl, by omega, by omega, ?_⟩
  rw [Int.toNat_natCast]
  refine ⟨fun k => J0 [("_law_found", .ref i), ("_law_due", .ref j)] [] fun σ' => σ = σ', ⟨_, _, by repeat (first | exact Sub.nil | refine Sub.cons rfl ?_), by repeat (first | exact Sub.nil | refine Sub.cons rfl ?_), rfl, rfl, rfl⟩, ?_, ?_⟩
  · rintro k v _ _ _ hv _ ⟨rfl, rfl, rfl⟩
    have hk : k < l.length := by have := (List.getElem?_eq_some_iff.mp hv).1; rwa [cnt_len] at this
    rw [cnt_get hk] at hv; cases hv
    obtain ⟨z, hz, _⟩ := hI _ (List.getElem_mem hk)
    have hz' : l[((k : Int)).toNat]? = some (.int z) := by rw [Int.toNat_natCast, List.getElem?_eq_getElem hk, hz]
    (refine stsC ?_; first | ((with_reducible refine sAssL ?ha109 ?hd109 ?hb109); (case ha109 => exact rfl); (case hb109 => intro _; exact rfl)) | ((with_reducible refine sAssC ?ha109 ?hd109 ?hb109); (case ha109 => exact rfl); (case hb109 => intro _; exact rfl)) | (with_reducible first | refine sRet ?_ | refine sIf ?_) | ((with_reducible refine sExpr ?hd109 ?hb109); (case hb109 => intro _; exact rfl)))
    repeat walk_at "e"
    refine tstP (callF E.lwhole.1 E.lwhole.2 rfl ?_)
    repeat walk_at "e"
    refine item_list e1 rfl (Int.natCast_nonneg _) hz' (by omega) ?_
    repeat walk_at "e"
    refine lwhole_ok (S := S.deeper (s01 24)) E (dn hn) ?_
    repeat walk_at "e"
    refine item_list e1 rfl (Int.natCast_nonneg _) hz' (by omega) ?_
    repeat walk_at "e"
    refine item_list e2 rfl (Int.natCast_nonneg _) hz' (by omega) ?_
    repeat walk_at "e"
    refine iN (by simp) ?_
    repeat walk_at "e"
    exact sts0 (sts0 ⟨trivial, _, _, by repeat (first | exact Sub.nil | refine Sub.cons rfl ?_), by repeat (first | exact Sub.nil | refine Sub.cons rfl ?_), rfl, rfl, rfl⟩)
  · rintro _ _ _ _ ⟨rfl, rfl, rfl⟩
    (refine stsC ?_; first | ((with_reducible refine sAssL ?ha110 ?hd110 ?hb110); (case ha110 => exact rfl); (case hb110 => intro _; exact rfl)) | ((with_reducible refine sAssC ?ha110 ?hd110 ?hb110); (case ha110 => exact rfl); (case hb110 => intro _; exact rfl)) | (with_reducible first | refine sRet ?_ | refine sIf ?_) | ((with_reducible refine sExpr ?hd110 ?hb110); (case hb110 => intro _; exact rfl)))
    repeat walk_at "e"
    exact q

theorem law_ok (E : E01 c) {ns : List Int} (h0 : σ[0]? = some (.ro (ns.map V.int))) (hl : ns.length ≤ 63) :
    WSs c { n := 1, kd := fun x => (s01 29).names.lookup x, q := true } (b01 29) [("_law_script", .ref 0)] [] (fun fl _ _ _ => fl = .ret (.bool true)) (fun _ _ => False) σ := by
  have mle := many_le (cellAt ns 0)
  (refine stsC ?_; first | ((with_reducible refine sAssL ?ha111 ?hd111 ?hb111); (case ha111 => exact rfl); (case hb111 => intro _; exact rfl)) | ((with_reducible refine sAssC ?ha111 ?hd111 ?hb111); (case ha111 => exact rfl); (case hb111 => intro _; exact rfl)) | (with_reducible first | refine sRet ?_ | refine sIf ?_) | ((with_reducible refine sExpr ?hd111 ?hb111); (case hb111 => intro _; exact rfl)))
  repeat walk_at "e"
  refine callF E.tops.1 E.tops.2 rfl ?_
  repeat walk_at "e"
  refine tops_ok (S := { n := 1, kd := fun x => (s01 29).names.lookup x, q := true }) E (by decide) rfl h0 hl fun it lt σ1 p1 et zt It => ?_
  repeat walk_at "e"
  refine callF E.rows.1 E.rows.2 rfl ?_
  repeat walk_at "e"
  refine rows_ok (S := { n := 1, kd := fun x => (s01 29).names.lookup x, q := true }) E (by decide) rfl (pre_get p1 h0) hl fun ir lr σ2 p2 er zr Ir => ?_
  repeat walk_at "e"
  refine callF E.gain.1 E.gain.2 rfl ?_
  repeat walk_at "e"
  refine gain_ok (S := { n := 1, kd := fun x => (s01 29).names.lookup x, q := true }) E (by decide) rfl (pre_get (p1.trans p2) h0) hl fun ig lg σ3 p3 eg zg Ig => ?_
  repeat walk_at "e"
  refine ⟨by show 3 ≤ sizeLine; decide, ?_⟩
  have p4 := List.prefix_append σ3 [O.list [V.ref it, V.ref ir, V.ref ig]]
  have e4 : (σ3 ++ [O.list [V.ref it, V.ref ir, V.ref ig]])[σ3.length]? = some (.list [V.ref it, V.ref ir, V.ref ig]) := List.getElem?_concat_length
  replace et := pre_get ((p2.trans p3).trans p4) et
  replace er := pre_get (p3.trans p4) er
  replace eg := pre_get p4 eg
  replace h0 := pre_get (((p1.trans p2).trans p3).trans p4) h0
  generalize σ3.length = ip at e4 ⊢
  generalize σ3 ++ [O.list [V.ref it, V.ref ir, V.ref ig]] = τ at et er eg h0 e4 ⊢
  clear p1 p2 p3 p4 σ1 σ2 σ3
  generalize hm : many (cellAt ns 0) = m at mle zt zg Ir
  have z1 : lt.length ≤ 100 := by omega
  have z2 : lr.length ≤ 100 := by omega
  have z3 : lg.length ≤ 100 := by omega
  (refine stsC ?_; first | ((with_reducible refine sAssL ?ha112 ?hd112 ?hb112); (case ha112 => exact rfl); (case hb112 => intro _; exact rfl)) | ((with_reducible refine sAssC ?ha112 ?hd112 ?hb112); (case ha112 => exact rfl); (case hb112 => intro _; exact rfl)) | (with_reducible first | refine sRet ?_ | refine sIf ?_) | ((with_reducible refine sExpr ?hd112 ?hb112); (case hb112 => intro _; exact rfl)))
  repeat walk_at "e"
  refine callF E.cell.1 E.cell.2 rfl ?_
  repeat walk_at "e"
  refine cell_ok E (by decide) h0 rfl hl ?_
  repeat walk_at "e"
  refine pow_c (v := 1000000000) (by decide) (by decide) (by decide) (by decide) (by decide +kernel) (by decide) ?_
  repeat walk_at "e"
  generalize (cellAt ns 31).fmod 1000000000 = G
  (refine stsC ?_; first | ((with_reducible refine sAssL ?ha113 ?hd113 ?hb113); (case ha113 => exact rfl); (case hb113 => intro _; exact rfl)) | ((with_reducible refine sAssC ?ha113 ?hd113 ?hb113); (case ha113 => exact rfl); (case hb113 => intro _; exact rfl)) | (with_reducible first | refine sRet ?_ | refine sIf ?_) | ((with_reducible refine sExpr ?hd113 ?hb113); (case hb113 => intro _; exact rfl)))
  repeat walk_at "e"
  by_cases hodd : G.fmod 2 = 1
  · refine iT (by first | exact dT hodd | exact eT hodd | exact nT hodd | simpa using hodd) ?_
    (refine stsC ?_; first | ((with_reducible refine sAssL ?ha114 ?hd114 ?hb114); (case ha114 => exact rfl); (case hb114 => intro _; exact rfl)) | ((with_reducible refine sAssC ?ha114 ?hd114 ?hb114); (case ha114 => exact rfl); (case hb114 => intro _; exact rfl)) | (with_reducible first | refine sRet ?_ | refine sIf ?_) | ((with_reducible refine sExpr ?hd114 ?hb114); (case hb114 => intro _; exact rfl)))
    refine callF E.spoilt.1 E.spoilt.2 rfl ?_
    repeat walk_at "e"
    obtain ⟨k, hk, hk16⟩ := toN (n := 16) (fm (F := G.fdiv 2) (b := 16) (by decide)) rfl
    rw [hk]
    refine spoilt_ok (S := { n := 1, kd := fun x => (s01 29).names.lookup x, q := true }) E (by decide) mle hk16 e4 et er eg zt It zr Ir zg Ig fun ib σ5 p5 hbad => ?_
    obtain ⟨vt, vr, vg, tL, lt', rL, lr', gL, lg', eb, s1, s2, s3, z1, z2, z3, q1, q2, q3, hno⟩ := hbad
    (refine stsC ?_; first | ((with_reducible refine sAssL ?ha115 ?hd115 ?hb115); (case ha115 => exact rfl); (case hb115 => intro _; exact rfl)) | ((with_reducible refine sAssC ?ha115 ?hd115 ?hb115); (case ha115 => exact rfl); (case hb115 => intro _; exact rfl)) | (with_reducible first | refine sRet ?_ | refine sIf ?_) | ((with_reducible refine sExpr ?hd115 ?hb115); (case hb115 => intro _; exact rfl)))
    refine callF E.refused.1 E.refused.2 rfl ?_
    repeat walk_at "e"
    refine item_list eb rfl (by decide) rfl (by decide) ?_
    repeat walk_at "e"
    refine item_list eb rfl (by decide) rfl (by decide) ?_
    repeat walk_at "e"
    refine item_list eb rfl (by decide) rfl (by decide) ?_
    repeat walk_at "e"
    exact refused_ok (S := { n := 1, kd := fun x => (s01 29).names.lookup x, q := true }) E (by decide) rfl s1 s2 s3 z1 z2 z3 q1 q2 q3 hno fun σ' => rfl
  refine iN (by first | exact dF hodd | exact eF hodd | exact nF hodd | simpa using hodd) ?_
  refine sts0 ?_
  refine stsC (sAssCompN rfl (compOk rfl rfl) rfl rfl rfl ?_)
  refine wiList ?_
  repeat walk_at "e"
  have hpart : ∀ (k : Nat) v, ([V.ref it, V.ref ir, V.ref ig])[k]? = some v → ∃ i l, v = .ref i ∧ ([lt, lr, lg])[k]? = some l ∧ τ[i]? = some (.list l) ∧ l.length ≤ 100 := by
    intro k v hv
    match k, hv with
    | 0, hv => cases hv; exact ⟨_, _, rfl, rfl, et, by omega⟩
    | 1, hv => cases hv; exact ⟨_, _, rfl, rfl, er, by omega⟩
    | 2, hv => cases hv; exact ⟨_, _, rfl, rfl, eg, by omega⟩
  refine ⟨_, _, _, rfl, e4, rfl, by show 3 < 2 ^ 63; decide, szOk (by show 3 ≤ 1000; decide), fun k rs σ' => τ <+: σ' ∧ rs.length = k ∧ ∀ (j : Nat) v, rs[j]? = some v → ∃ a l, v = .ref a ∧ ([lt, lr, lg])[j]? = some l ∧ σ'[a]? = some (.list l) ∧ τ.length ≤ a, ⟨List.prefix_refl _, rfl, fun j v e => by simp at e⟩, ?_, ?_⟩
  · rintro k v rs σ5 hv hs ⟨p5, hrs, hall⟩
    obtain ⟨i, l, rfl, hP, hi, hz⟩ := hpart k v hv
    refine callTy rfl E.list Boot.«list» (by decide) ?_
    repeat walk_at "e"
    refine list_ref (pre_get p5 hi) rfl (szOk (by first | with_reducible assumption | omega)) ?_
    have p6 := List.prefix_append σ5 [O.list l]
    refine ⟨⟨_, pre_get (p5.trans p6) e4, rfl⟩, p5.trans p6, by simp [hrs], fun j v e => ?_⟩
    rcases get_snoc e with e | ⟨rfl, rfl⟩
    · obtain ⟨a, l', y1, y2, y3, y4⟩ := hall j v e
      exact ⟨a, l', y1, y2, pre_get p6 y3, y4⟩
    · exact ⟨_, l, rfl, by rw [hrs]; exact hP, List.getElem?_concat_length, p5.length_le⟩
  rintro rs σ5 hrl _ ⟨p5, hrs, hall⟩
  obtain ⟨v0, v1, v2, rfl⟩ : ∃ v0 v1 v2, rs = [v0, v1, v2] := by
    match rs, hrl with
    | [a, b, d], _ => exact ⟨a, b, d, rfl⟩
  obtain ⟨a0, l0, rfl, y0, e50, g0⟩ := hall 0 _ rfl
  cases y0
  obtain ⟨a1, l1, rfl, y1, e51, g1⟩ := hall 1 _ rfl
  cases y1
  obtain ⟨a2, l2, rfl, y2, e52, g2⟩ := hall 2 _ rfl
  cases y2
  clear hall hrs hrl hpart
  have p6 := List.prefix_append σ5 [O.list [V.ref a0, V.ref a1, V.ref a2]]
  have e6 : (σ5 ++ [O.list [V.ref a0, V.ref a1, V.ref a2]])[σ5.length]? = some (.list [V.ref a0, V.ref a1, V.ref a2]) := List.getElem?_concat_length
  have l0' : a0 < σ5.length := (List.getElem?_eq_some_iff.mp e50).1
  have l1' : a1 < σ5.length := (List.getElem?_eq_some_iff.mp e51).1
  have l2' : a2 < σ5.length := (List.getElem?_eq_some_iff.mp e52).1
  have p7 := p5.trans p6
  replace e50 := pre_get p6 e50
  replace e51 := pre_get p6 e51
  replace e52 := pre_get p6 e52
  have lτ : ∀ {x : Nat} {o : O}, τ[x]? = some o → x < τ.length := fun e => (List.getElem?_eq_some_iff.mp e).1
  have kt := lτ et
  have kr := lτ er
  have kg := lτ eg
  have kp := lτ e4
  have et6 := pre_get p7 et
  have er6 := pre_get p7 er
  have eg6 := pre_get p7 eg
  have ep6 := pre_get p7 e4
  have hlen6 : (σ5 ++ [O.list [V.ref a0, V.ref a1, V.ref a2]]).length = σ5.length + 1 := by simp
  generalize σ5.length = ih at e6 l0' l1' l2' hlen6 ⊢
  generalize σ5 ++ [O.list [V.ref a0, V.ref a1, V.ref a2]] = σ6 at e6 e50 e51 e52 et6 er6 eg6 ep6 hlen6 ⊢
  (refine stsC ?_; first | ((with_reducible refine sAssL ?ha116 ?hd116 ?hb116); (case ha116 => exact rfl); (case hb116 => intro _; exact rfl)) | ((with_reducible refine sAssC ?ha116 ?hd116 ?hb116); (case ha116 => exact rfl); (case hb116 => intro _; exact rfl)) | (with_reducible first | refine sRet ?_ | refine sIf ?_) | ((with_reducible refine sExpr ?hd116 ?hb116); (case hb116 => intro _; exact rfl)))
  refine callK E.KX E.keepP E.pb rfl ?_
  repeat walk_at "e"
  refine item_list e6 rfl (by decide) rfl (by decide) ?_
  repeat walk_at "e"
  refine item_list e6 rfl (by decide) rfl (by decide) ?_
  repeat walk_at "e"
  refine item_list e6 rfl (by decide) rfl (by decide) ?_
  repeat walk_at "e"
  have hok := okP_true mle zt It zr Ir zg Ig
  refine make_ok (S := { n := 1, kd := fun x => (s01 29).names.lookup x, q := true }) E (by decide) rfl (.lst e50) (.lst e51) (.lst e52) (by first | with_reducible assumption | omega) (by first | with_reducible assumption | omega) (by first | with_reducible assumption | omega) (It.plain _) (fun v hv => rowG_p mle.2 (Ir v hv)) (Ig.plain _) (fun h => by rw [hok] at h; cases h) ?_
  intro _ σ8 i1 i2 i3 p8 ei ed f1 f2 f3 hi
  rw [hlen6] at ei ed hi
  rw [hlen6]
  have e8 := pre_get p8 e6
  have e80 := pre_get p8 e50
  have e81 := pre_get p8 e51
  have e82 := pre_get p8 e52
  have et8 := pre_get p8 et6
  have er8 := pre_get p8 er6
  have eg8 := pre_get p8 eg6
  have ep8 := pre_get p8 ep6
  obtain ⟨dt, Rt⟩ := It.rd
  obtain ⟨dr, Rr⟩ := RdL.of fun v hv => rowG_rd (Ir v hv)
  obtain ⟨dg, Rg⟩ := Ig.rd
  have sh3 := shapedOf (shaped3 Rt.shaped Rr.shaped Rg.shaped) (by decide)
  (refine stsC ?_; first | ((with_reducible refine sAssL ?ha117 ?hd117 ?hb117); (case ha117 => exact rfl); (case hb117 => intro _; exact rfl)) | ((with_reducible refine sAssC ?ha117 ?hd117 ?hb117); (case ha117 => exact rfl); (case hb117 => intro _; exact rfl)) | (with_reducible first | refine sRet ?_ | refine sIf ?_) | ((with_reducible refine sExpr ?hd117 ?hb117); (case hb117 => intro _; exact rfl)))
  repeat walk_at "e"
  refine ne_rd (.ref e8 rfl (.cons (.ref e80 rfl (Rt.1 _)) (.cons (.ref e81 rfl (Rr.1 _)) (.cons (.ref e82 rfl (Rg.1 _)) .nil)))) (.ref ep8 rfl (.cons (.ref et8 rfl (Rt.1 _)) (.cons (.ref er8 rfl (Rr.1 _)) (.cons (.ref eg8 rfl (Rg.1 _)) .nil)))) sh3 sh3 ?_
  rw [SeqAt.eqv_refl _ (SeqAt.canLay_of_shaped sh3)]
  repeat walk_at "e"
  refine sts0 ?_
  -- the handed lists are spoilt
  have small : ∀ a, a = a0 ∨ a = a1 ∨ a = a2 → τ.length ≤ a ∧ a < ih := fun a h => by
    rcases h with rfl | rfl | rfl
    · exact ⟨g0, l0'⟩
    · exact ⟨g1, l1'⟩
    · exact ⟨g2, l2'⟩
  refine forL rfl rfl ?_
  refine wiList ?_
  repeat walk_at "e"
  refine ⟨_, _, _, rfl, e8, rfl, by show 3 < 2 ^ 63; decide, fun k => J0 [("_law_parts", .ref ip), ("_law_problem", .ref (ih + 1 + 1))] [] fun σ' => (∀ (x : Nat) o, x < τ.length ∨ ih ≤ x → σ8[x]? = some o → σ'[x]? = some o) ∧ ∀ a, a = a0 ∨ a = a1 ∨ a = a2 → ∃ l : List V, σ'[a]? = some (O.list l) ∧ l.length ≤ 200 + k,
    ⟨_, _, by repeat (first | exact Sub.nil | refine Sub.cons rfl ?_), by repeat (first | exact Sub.nil | refine Sub.cons rfl ?_), rfl, rfl, fun x o _ e => e, fun a h => ?_⟩, ?_, ?_⟩
  · rcases h with rfl | rfl | rfl
    · exact ⟨_, e80, le200 z1⟩
    · exact ⟨_, e81, le200 z2⟩
    · exact ⟨_, e82, le200 z3⟩
  · rintro k v _ _ σ9 hv _ ⟨rfl, rfl, keep, grow⟩
    have hk3 : k < 3 := (List.getElem?_eq_some_iff.mp hv).1
    obtain ⟨a, rfl, ha⟩ : ∃ a, v = .ref a ∧ (a = a0 ∨ a = a1 ∨ a = a2) := by
      match k, hv with
      | 0, hv => cases hv; exact ⟨_, rfl, .inl rfl⟩
      | 1, hv => cases hv; exact ⟨_, rfl, .inr (.inl rfl)⟩
      | 2, hv => cases hv; exact ⟨_, rfl, .inr (.inr rfl)⟩
    obtain ⟨l, hla, hll⟩ := grow a ha
    have hab := small a ha
    (refine stsC ?_; first | ((with_reducible refine sAssL ?ha118 ?hd118 ?hb118); (case ha118 => exact rfl); (case hb118 => intro _; exact rfl)) | ((with_reducible refine sAssC ?ha118 ?hd118 ?hb118); (case ha118 => exact rfl); (case hb118 => intro _; exact rfl)) | (with_reducible first | refine sRet ?_ | refine sIf ?_) | ((with_reducible refine sExpr ?hd118 ?hb118); (case hb118 => intro _; exact rfl)))
    refine append_list' ?_
    repeat walk_at "e"
    refine ⟨_, rfl, ⟨_, hla⟩, ?_⟩
    repeat walk_at "e"
    refine ⟨_, hla, szOk (by first | with_reducible assumption | omega), ?_⟩
    have keep' : ∀ (x : Nat) o, x < τ.length ∨ ih ≤ x → σ8[x]? = some o → (σ9.set a (.list (l ++ [.none])))[x]? = some o := fun x o hx e => by
      rw [get_set_ne (neq3 hx hab)]; exact keep x o hx e
    refine sts0 ⟨⟨_, keep' _ _ (.inr (Nat.le_refl _)) e8, rfl⟩, _, _, by repeat (first | exact Sub.nil | refine Sub.cons rfl ?_), by repeat (first | exact Sub.nil | refine Sub.cons rfl ?_), rfl, rfl, keep', fun b hb => ?_⟩
    by_cases hab' : a = b
    · subst hab'
      exact ⟨_, set_get hla, by simp; omega⟩
    · obtain ⟨l', y1, y2⟩ := grow b hb
      exact ⟨l', by rw [get_set_ne hab']; exact y1, by omega⟩
  rintro _ _ σ9 _ ⟨rfl, rfl, keep, _⟩
  have hip : ip < τ.length := kp
  have ep9 := keep _ _ (.inl kp) ep8
  have et9 := keep _ _ (.inl kt) et8
  have er9 := keep _ _ (.inl kr) er8
  have eg9 := keep _ _ (.inl kg) eg8
  have f19 := keep _ _ (.inr (Nat.le_of_succ_le hi.1)) f1
  have f29 := keep _ _ (.inr (Nat.le_of_succ_le hi.2.1)) f2
  have f39 := keep _ _ (.inr (Nat.le_of_succ_le hi.2.2)) f3
  have ei9 := keep _ _ (.inr (Nat.le_add_right _ 2)) ei
  have ed9 := keep _ _ (.inr (Nat.le_add_right _ 1)) ed
  (refine stsC ?_; first | ((with_reducible refine sAssL ?ha119 ?hd119 ?hb119); (case ha119 => exact rfl); (case hb119 => intro _; exact rfl)) | ((with_reducible refine sAssC ?ha119 ?hd119 ?hb119); (case ha119 => exact rfl); (case hb119 => intro _; exact rfl)) | (with_reducible first | refine sRet ?_ | refine sIf ?_) | ((with_reducible refine sExpr ?hd119 ?hb119); (case hb119 => intro _; exact rfl)))
  repeat walk_at "e"
  refine tstP (callF E.numbers.1 E.numbers.2 rfl ?_)
  refine argsC ?_
  refine attrG E.KX E.pl (.head _) ?_
  repeat walk_at "e"
  refine ⟨_, _, _, _, rfl, ei9, ed9, rfl, ⟨_, rfl⟩, ?_⟩
  repeat walk_at "e"
  refine item_list ep9 rfl (by decide) rfl (by decide) ?_
  repeat walk_at "e"
  refine numbers_ok (S := { n := 1, kd := fun x => (s01 29).names.lookup x, q := true }) E (by decide) rfl f19 et9 It (by first | with_reducible assumption | omega) ?_
  repeat walk_at "e"
  refine tstP (callF E.numbers.1 E.numbers.2 rfl ?_)
  refine argsC ?_
  refine attrG E.KX E.pl (.tail _ (.tail _ (.head _))) ?_
  repeat walk_at "e"
  refine ⟨_, _, _, _, rfl, ei9, ed9, rfl, ⟨_, rfl⟩, ?_⟩
  repeat walk_at "e"
  refine item_list ep9 rfl (by decide) rfl (by decide) ?_
  repeat walk_at "e"
  refine numbers_ok (S := { n := 1, kd := fun x => (s01 29).names.lookup x, q := true }) E (by decide) rfl f39 eg9 Ig (by first | with_reducible assumption | omega) ?_
  repeat walk_at "e"
  refine sts0 ?_
  (refine stsC ?_; first | ((with_reducible refine sAssL ?ha120 ?hd120 ?hb120); (case ha120 => exact rfl); (case hb120 => intro _; exact rfl)) | ((with_reducible refine sAssC ?ha120 ?hd120 ?hb120); (case ha120 => exact rfl); (case hb120 => intro _; exact rfl)) | (with_reducible first | refine sRet ?_ | refine sIf ?_) | ((with_reducible refine sExpr ?hd120 ?hb120); (case hb120 => intro _; exact rfl)))
  refine boolAnd ?_
  refine callIsi rfl E.isi rfl E.list Boot.«list» (by decide) ?_
  refine attrG E.KX E.pl (.tail _ (.head _)) ?_
  repeat walk_at "e"
  refine ⟨_, _, _, _, rfl, ei9, ed9, rfl, ⟨_, rfl⟩, ?_⟩
  refine isi_ty (T := .list) ⟨_, _, f29, rfl⟩ ?_
  repeat walk_at "e"
  refine boolOp1 ?_
  repeat walk_at "e"
  refine attrG E.KX E.pl (.tail _ (.head _)) ?_
  repeat walk_at "e"
  refine ⟨_, _, _, _, rfl, ei9, ed9, rfl, ⟨_, rfl⟩, ?_⟩
  repeat walk_at "e"
  refine item_list ep9 rfl (by decide) rfl (by decide) ?_
  have sh1 := shapedOf Rr.shaped (by decide)
  refine eq_rd (.ref f29 rfl (Rr.1 _)) (.ref er9 rfl (Rr.1 _)) sh1 sh1 ?_
  rw [SeqAt.eqv_refl _ (SeqAt.canLay_of_shaped sh1)]
  rfl
end

section
open PySem PySem.W PySem.Calls PySem.Spec PyProof.Rows

theorem fnTop {p : Program} {loose : List Str} {mean : ExcName → Option Value} {mg mb : Str → Option Value} {h : Heap} (T : Top p loose mean mg mb h) {R : List DefRec} (hR : recsOf p = R) {c : C0} (hmg : c.mg = mg) (hb : c.base = h) {x : Str} {d : DefRec} (hd : R.find? (fun e => e.name == x) = some d) (e1 : d.name = x)
    (ps : List Str) (kind : d.scope.kind = .function) (co : d.scope.isCoroutine = false) (gen : d.scope.isGenerator = false) (nd : ps.Nodup) (par : ∀ x ∈ ps, d.scope.names.lookup x = some .local ∨ d.scope.names.lookup x = some .cell)
    (hbind : ∀ pm code doc (us : List Value), us.length = ps.length → bindArgs (docDef d.name d.params d.body d.scope pm code doc) ⟨us, []⟩ = pure (ps.zip us)) : ∃ a, c.mg x = some (.ref a) ∧ FnAt c a ps d.body d.scope := by
  obtain ⟨a, o, pm, code, doc, g1, g2, g3, g4⟩ := T.fn d (hR ▸ List.mem_of_find?_eq_some hd)
  rw [e1] at g1
  subst hmg hb
  exact ⟨a, g1, ⟨o, _, g2, g3, rfl, rfl, rfl, rfl, rfl, g4, hbind pm code doc⟩, kind, co, gen, nd, par⟩
theorem len1 {us : List Value} (h : us.length = 1) : ∃ a, us = [a] := List.length_eq_one_iff.mp h
theorem len2 {us : List Value} (h : us.length = 2) : ∃ a b, us = [a, b] := by
  cases us with
  | nil => cases h
  | cons a r => obtain ⟨b, rfl⟩ := len1 (us := r) (by simpa using h); exact ⟨a, b, rfl⟩
theorem len3 {us : List Value} (h : us.length = 3) : ∃ a b c, us = [a, b, c] := by
  cases us with
  | nil => cases h
  | cons a r => obtain ⟨b, c, rfl⟩ := len2 (us := r) (by simpa using h); exact ⟨a, b, c, rfl⟩
theorem len4 {us : List Value} (h : us.length = 4) : ∃ a b c d, us = [a, b, c, d] := by
  cases us with
  | nil => cases h
  | cons a r => obtain ⟨b, c, d, rfl⟩ := len3 (us := r) (by simpa using h); exact ⟨a, b, c, d, rfl⟩

section
variable {q : Program} {loose : List Str} {mean : ExcName → Option Value} {mg mb : Str → Option Value} {h : Heap} {c : C0}
theorem f12 (T : Top q loose mean mg mb h) (hR : recsOf q = recsOf PySem.Challenge.pw_uf020023_01) (hmg : c.mg = mg) (hb : c.base = h) : ∃ a, c.mg "is_whole" = some (.ref a) ∧ FnAt c a ["thing"] (b01 12) (s01 12) :=
  fnTop T hR hmg hb (x := "is_whole") (d := _) rfl rfl ["thing"] rfl rfl rfl (by decide) (by decide) (fun pm code doc us e => by obtain ⟨_, rfl⟩ := len1 e; rfl)
theorem f13 (T : Top q loose mean mg mb h) (hR : recsOf q = recsOf PySem.Challenge.pw_uf020023_01) (hmg : c.mg = mg) (hb : c.base = h) : ∃ a, c.mg "is_within" = some (.ref a) ∧ FnAt c a ["thing", "most"] (b01 13) (s01 13) :=
  fnTop T hR hmg hb (x := "is_within") (d := _) rfl rfl ["thing", "most"] rfl rfl rfl (by decide) (by decide) (fun pm code doc us e => by obtain ⟨_, _, rfl⟩ := len2 e; rfl)
theorem f14 (T : Top q loose mean mg mb h) (hR : recsOf q = recsOf PySem.Challenge.pw_uf020023_01) (hmg : c.mg = mg) (hb : c.base = h) : ∃ a, c.mg "is_row" = some (.ref a) ∧ FnAt c a ["thing", "many"] (b01 14) (s01 14) :=
  fnTop T hR hmg hb (x := "is_row") (d := _) rfl rfl ["thing", "many"] rfl rfl rfl (by decide) (by decide) (fun pm code doc us e => by obtain ⟨_, _, rfl⟩ := len2 e; rfl)
theorem f16 (T : Top q loose mean mg mb h) (hR : recsOf q = recsOf PySem.Challenge.pw_uf020023_01) (hmg : c.mg = mg) (hb : c.base = h) : ∃ a, c.mg "_law_cell_at" = some (.ref a) ∧ FnAt c a ["_law_script", "_law_k"] (b01 16) (s01 16) :=
  fnTop T hR hmg hb (x := "_law_cell_at") (d := _) rfl rfl ["_law_script", "_law_k"] rfl rfl rfl (by decide) (by decide) (fun pm code doc us e => by obtain ⟨_, _, rfl⟩ := len2 e; rfl)
theorem f17 (T : Top q loose mean mg mb h) (hR : recsOf q = recsOf PySem.Challenge.pw_uf020023_01) (hmg : c.mg = mg) (hb : c.base = h) : ∃ a, c.mg "_law_whole" = some (.ref a) ∧ FnAt c a ["_law_found"] (b01 17) (s01 17) :=
  fnTop T hR hmg hb (x := "_law_whole") (d := _) rfl rfl ["_law_found"] rfl rfl rfl (by decide) (by decide) (fun pm code doc us e => by obtain ⟨_, rfl⟩ := len1 e; rfl)
theorem f18 (T : Top q loose mean mg mb h) (hR : recsOf q = recsOf PySem.Challenge.pw_uf020023_01) (hmg : c.mg = mg) (hb : c.base = h) : ∃ a, c.mg "_law_number" = some (.ref a) ∧ FnAt c a ["_law_cell", "_law_kind_here"] (b01 18) (s01 18) :=
  fnTop T hR hmg hb (x := "_law_number") (d := _) rfl rfl ["_law_cell", "_law_kind_here"] rfl rfl rfl (by decide) (by decide) (fun pm code doc us e => by obtain ⟨_, _, rfl⟩ := len2 e; rfl)
theorem f19 (T : Top q loose mean mg mb h) (hR : recsOf q = recsOf PySem.Challenge.pw_uf020023_01) (hmg : c.mg = mg) (hb : c.base = h) : ∃ a, c.mg "_law_bound" = some (.ref a) ∧ FnAt c a ["_law_cell", "_law_kind_here"] (b01 19) (s01 19) :=
  fnTop T hR hmg hb (x := "_law_bound") (d := _) rfl rfl ["_law_cell", "_law_kind_here"] rfl rfl rfl (by decide) (by decide) (fun pm code doc us e => by obtain ⟨_, _, rfl⟩ := len2 e; rfl)
theorem f20 (T : Top q loose mean mg mb h) (hR : recsOf q = recsOf PySem.Challenge.pw_uf020023_01) (hmg : c.mg = mg) (hb : c.base = h) : ∃ a, c.mg "_law_tops" = some (.ref a) ∧ FnAt c a ["_law_script"] (b01 20) (s01 20) :=
  fnTop T hR hmg hb (x := "_law_tops") (d := _) rfl rfl ["_law_script"] rfl rfl rfl (by decide) (by decide) (fun pm code doc us e => by obtain ⟨_, rfl⟩ := len1 e; rfl)
theorem f21 (T : Top q loose mean mg mb h) (hR : recsOf q = recsOf PySem.Challenge.pw_uf020023_01) (hmg : c.mg = mg) (hb : c.base = h) : ∃ a, c.mg "_law_kind" = some (.ref a) ∧ FnAt c a ["_law_script"] (b01 21) (s01 21) :=
  fnTop T hR hmg hb (x := "_law_kind") (d := _) rfl rfl ["_law_script"] rfl rfl rfl (by decide) (by decide) (fun pm code doc us e => by obtain ⟨_, rfl⟩ := len1 e; rfl)
theorem f22 (T : Top q loose mean mg mb h) (hR : recsOf q = recsOf PySem.Challenge.pw_uf020023_01) (hmg : c.mg = mg) (hb : c.base = h) : ∃ a, c.mg "_law_gain" = some (.ref a) ∧ FnAt c a ["_law_script"] (b01 22) (s01 22) :=
  fnTop T hR hmg hb (x := "_law_gain") (d := _) rfl rfl ["_law_script"] rfl rfl rfl (by decide) (by decide) (fun pm code doc us e => by obtain ⟨_, rfl⟩ := len1 e; rfl)
theorem f23 (T : Top q loose mean mg mb h) (hR : recsOf q = recsOf PySem.Challenge.pw_uf020023_01) (hmg : c.mg = mg) (hb : c.base = h) : ∃ a, c.mg "_law_rows" = some (.ref a) ∧ FnAt c a ["_law_script"] (b01 23) (s01 23) :=
  fnTop T hR hmg hb (x := "_law_rows") (d := _) rfl rfl ["_law_script"] rfl rfl rfl (by decide) (by decide) (fun pm code doc us e => by obtain ⟨_, rfl⟩ := len1 e; rfl)
theorem f24 (T : Top q loose mean mg mb h) (hR : recsOf q = recsOf PySem.Challenge.pw_uf020023_01) (hmg : c.mg = mg) (hb : c.base = h) : ∃ a, c.mg "_law_numbers" = some (.ref a) ∧ FnAt c a ["_law_found", "_law_due"] (b01 24) (s01 24) :=
  fnTop T hR hmg hb (x := "_law_numbers") (d := _) rfl rfl ["_law_found", "_law_due"] rfl rfl rfl (by decide) (by decide) (fun pm code doc us e => by obtain ⟨_, _, rfl⟩ := len2 e; rfl)
theorem f25 (T : Top q loose mean mg mb h) (hR : recsOf q = recsOf PySem.Challenge.pw_uf020023_01) (hmg : c.mg = mg) (hb : c.base = h) : ∃ a, c.mg "_law_refused" = some (.ref a) ∧ FnAt c a ["_law_tops_here", "_law_rows_here", "_law_gain_here"] (b01 25) (s01 25) :=
  fnTop T hR hmg hb (x := "_law_refused") (d := _) rfl rfl ["_law_tops_here", "_law_rows_here", "_law_gain_here"] rfl rfl rfl (by decide) (by decide) (fun pm code doc us e => by obtain ⟨_, _, _, rfl⟩ := len3 e; rfl)
theorem f26 (T : Top q loose mean mg mb h) (hR : recsOf q = recsOf PySem.Challenge.pw_uf020023_01) (hmg : c.mg = mg) (hb : c.base = h) : ∃ a, c.mg "_law_put" = some (.ref a) ∧ FnAt c a ["_law_things", "_law_at", "_law_thing"] (b01 26) (s01 26) :=
  fnTop T hR hmg hb (x := "_law_put") (d := _) rfl rfl ["_law_things", "_law_at", "_law_thing"] rfl rfl rfl (by decide) (by decide) (fun pm code doc us e => by obtain ⟨_, _, _, rfl⟩ := len3 e; rfl)
theorem f27 (T : Top q loose mean mg mb h) (hR : recsOf q = recsOf PySem.Challenge.pw_uf020023_01) (hmg : c.mg = mg) (hb : c.base = h) : ∃ a, c.mg "_law_spoilt_row" = some (.ref a) ∧ FnAt c a ["_law_row", "_law_kind_here", "_law_cell"] (b01 27) (s01 27) :=
  fnTop T hR hmg hb (x := "_law_spoilt_row") (d := _) rfl rfl ["_law_row", "_law_kind_here", "_law_cell"] rfl rfl rfl (by decide) (by decide) (fun pm code doc us e => by obtain ⟨_, _, _, rfl⟩ := len3 e; rfl)
theorem f28 (T : Top q loose mean mg mb h) (hR : recsOf q = recsOf PySem.Challenge.pw_uf020023_01) (hmg : c.mg = mg) (hb : c.base = h) : ∃ a, c.mg "_law_spoilt" = some (.ref a) ∧ FnAt c a ["_law_parts", "_law_kind_here", "_law_cell"] (b01 28) (s01 28) :=
  fnTop T hR hmg hb (x := "_law_spoilt") (d := _) rfl rfl ["_law_parts", "_law_kind_here", "_law_cell"] rfl rfl rfl (by decide) (by decide) (fun pm code doc us e => by obtain ⟨_, _, _, rfl⟩ := len3 e; rfl)
theorem f29 (T : Top q loose mean mg mb h) (hR : recsOf q = recsOf PySem.Challenge.pw_uf020023_01) (hmg : c.mg = mg) (hb : c.base = h) : ∃ a, c.mg "law" = some (.ref a) ∧ FnAt c a ["_law_script"] (b01 29) (s01 29) :=
  fnTop T hR hmg hb (x := "law") (d := _) rfl rfl ["_law_script"] rfl rfl rfl (by decide) (by decide) (fun pm code doc us e => by obtain ⟨_, rfl⟩ := len1 e; rfl)
end
end

section
open PySem PySem.W PySem.Calls PySem.Spec PyProof.Rows
noncomputable def parsOf : Stmt → Arguments
  | .FunctionDef _ ps _ _ _ _ _ _ _ _ => ps
  | .ClassDef _ _ _ (.FunctionDef _ ps _ _ _ _ _ _ _ _ :: _) _ _ _ _ _ _ _ => ps
  | _ => default
noncomputable def bP (k : Nat) : List Stmt := bodyOf (nthS PySem.Challenge.pw_uf020023_01.main.body k)
noncomputable def sP (k : Nat) : Scope := scopeOf (nthS PySem.Challenge.pw_uf020023_01.main.body k)
noncomputable def pP (k : Nat) : Arguments := parsOf (nthS PySem.Challenge.pw_uf020023_01.main.body k)
noncomputable def h11_0 (P : Params) : Obj := { cls := Value.type "tuple", data := Data.seq #[] }
noncomputable def h12_0 (P : Params) : Obj := { cls := Value.none, data := Data.fields #[] }
noncomputable def h13_0 (P : Params) : Obj := { cls := Value.type "code", data := Data.fields #[Value.str (Str.ofString "<module>") 182, Value.str (Str.ofString "<module>") 183, Value.str (Str.ofString "/claim/cut.py") 184, Value.int 1 0, Value.int 0 0, Value.int 0 0, Value.int 0 0, Value.int 0 0, Value.ref 11, Value.bool Bool.false, Value.int 181 0, Value.ref 12, Value.none, Value.none, Value.none, Value.none, Value.int 185 0, Value.int 1 0, Value.str (Str.ofString "/claim/cut.py") 186] }
noncomputable def h14_0 (P : Params) : Obj := { cls := Value.type "frame", slots := #[Option.some (Value.ref 13), Option.some (Value.ref 3), Option.some (Value.ref 3), Option.none, Option.some (Value.str (Str.ofString "__main__") 164), Option.none, Option.some (Value.ref 0)] }
noncomputable def t0 (P : Params) : BT := .node (boot_o_0 P) (.node (boot_o_1 P) (.node (boot_o_3 P) (.node (boot_o_7 P) .nil .nil) (.node (h11_0 P) .nil .nil)) (.node (boot_o_5 P) (.node (boot_o_9 P) .nil .nil) (.node (h13_0 P) .nil .nil))) (.node (boot_o_2 P) (.node (boot_o_4 P) (.node (boot_o_8 P) .nil .nil) (.node (h12_0 P) .nil .nil)) (.node (boot_o_6 P) (.node (boot_o_10 P) .nil .nil) (.node (h14_0 P) .nil .nil)))
noncomputable def z0 (w : World) (os : OsState) : SharedT := ⟨t0 w.params, 15, { }, #[], { }, 187, os⟩
noncomputable def h3_1 (P : Params) : Obj := { cls := Value.type "dict", data := Data.dict #[{ hash := PyData.keyHash P (Str.ofString "__name__"), key := Value.str (Str.ofString "__name__") 165, val := Value.str (Str.ofString "wholecut.errors") 187 }, { hash := PyData.keyHash P (Str.ofString "__doc__"), key := Value.str (Str.ofString "__doc__") 166, val := Value.none }, { hash := PyData.keyHash P (Str.ofString "__package__"), key := Value.str (Str.ofString "__package__") 167, val := Value.none }, { hash := PyData.keyHash P (Str.ofString "__loader__"), key := Value.str (Str.ofString "__loader__") 168, val := Value.builtin "__main__.__loader__#opaque" }, { hash := PyData.keyHash P (Str.ofString "__spec__"), key := Value.str (Str.ofString "__spec__") 169, val := Value.none }, { hash := PyData.keyHash P (Str.ofString "__annotations__"), key := Value.str (Str.ofString "__annotations__") 170, val := Value.ref 6 }, { hash := PyData.keyHash P (Str.ofString "__builtins__"), key := Value.str (Str.ofString "__builtins__") 171, val := Value.ref 4 }, { hash := PyData.keyHash P (Str.ofString "__file__"), key := Value.str (Str.ofString "__file__") 173, val := Value.str (Str.ofString "/claim/cut.py") 172 }, { hash := PyData.keyHash P (Str.ofString "__cached__"), key := Value.str (Str.ofString "__cached__") 174, val := Value.none }, { hash := PyData.keyHash P (Str.ofString "CutError"), key := Value.str (Str.ofString "CutError") 206, val := Value.ref 24 }] 10 }
noncomputable def h12_1 (P : Params) : Obj := { cls := Value.none, data := Data.fields #[Value.int 2 0, Value.int 0 0, Value.ref 20] }
noncomputable def h15_1 (P : Params) : Obj := { cls := Value.type "tuple", data := Data.seq #[Value.type "ValueError"] }
noncomputable def h16_1 (P : Params) : Obj := { cls := Value.type "builtin_function_or_method", data := Data.fields #[Value.builtin "type.__prepare__", Value.type "type"] }
noncomputable def h17_1 (P : Params) : Obj := { cls := Value.type "dict", data := Data.dict #[{ hash := PyData.keyHash P (Str.ofString "__module__"), key := Value.str (Str.ofString "__module__") 196, val := Value.str (Str.ofString "wholecut.errors") 187 }, { hash := PyData.keyHash P (Str.ofString "__qualname__"), key := Value.str (Str.ofString "__qualname__") 198, val := Value.str (Str.ofString "CutError") 197 }, { hash := PyData.keyHash P (Str.ofString "__firstlineno__"), key := Value.str (Str.ofString "__firstlineno__") 200, val := Value.int 2 199 }, { hash := PyData.keyHash P (Str.ofString "__static_attributes__"), key := Value.str (Str.ofString "__static_attributes__") 201, val := Value.ref 22 }] 4 }
noncomputable def h18_1 (P : Params) : Obj := { cls := Value.type "tuple", data := Data.seq #[] }
noncomputable def h19_1 (P : Params) : Obj := { cls := Value.none, data := Data.fields #[] }
noncomputable def h20_1 (P : Params) : Obj := { cls := Value.type "code", data := Data.fields #[Value.str (Str.ofString "CutError") 191, Value.str (Str.ofString "CutError") 192, Value.str (Str.ofString "/claim/cut.py") 193, Value.int 2 0, Value.int 0 0, Value.int 0 0, Value.int 0 0, Value.int 0 0, Value.ref 18, Value.bool Bool.false, Value.int 181 0, Value.ref 19, Value.none, Value.none, Value.none, Value.none, Value.int 194 0, Value.int 2 0, Value.str (Str.ofString "/claim/cut.py") 195] }
noncomputable def h21_1 (P : Params) : Obj := { cls := Value.type "frame", slots := #[Option.some (Value.ref 20), Option.some (Value.ref 3), Option.some (Value.ref 17), Option.none, Option.some (Value.str (Str.ofString "wholecut.errors") 187), Option.none, Option.some (Value.ref 0)] }
noncomputable def h22_1 (P : Params) : Obj := { cls := Value.type "tuple", data := Data.seq #[] }
noncomputable def h23_1 (P : Params) : Obj := { cls := Value.type "dict", data := Data.dict #[{ hash := PyData.keyHash P (Str.ofString "__module__"), key := Value.str (Str.ofString "__module__") 196, val := Value.str (Str.ofString "wholecut.errors") 187 }, { hash := PyData.keyHash P (Str.ofString "__firstlineno__"), key := Value.str (Str.ofString "__firstlineno__") 200, val := Value.int 2 199 }, { hash := PyData.keyHash P (Str.ofString "__static_attributes__"), key := Value.str (Str.ofString "__static_attributes__") 201, val := Value.ref 22 }, { hash := PyData.keyHash P (Str.ofString "__weakref__"), key := Value.str (Str.ofString "__weakref__") 203, val := Value.ref 25 }, { hash := PyData.keyHash P (Str.ofString "__doc__"), key := Value.str (Str.ofString "__doc__") 204, val := Value.none }] 3 }
noncomputable def h24_1 (P : Params) : Obj := { cls := Value.type "type", data := Data.cls { name := Str.ofString "CutError", bases := [Value.type "ValueError"], mro := [Value.ref 24, Value.type "ValueError", Value.type "Exception", Value.type "BaseException", Value.type "object"], ns := 23, qualname := Str.ofString "CutError" }, slots := #[Option.some (Value.ref 15), Option.none, Option.some (Value.str (Str.ofString "CutError") 189), Option.some (Value.str (Str.ofString "CutError") 197), Option.some (Value.builtin "ValueError.__new__"), Option.some (Value.bool Bool.true)] }
noncomputable def h25_1 (P : Params) : Obj := { cls := Value.type "getset_descriptor", data := Data.fields #[Value.str (Str.ofString "__weakref__") 202, Value.ref 24, Value.builtin "ExceptionGroup.__weakref__", Value.none] }
noncomputable def h26_1 (P : Params) : Obj := { cls := Value.type "super", data := Data.fields #[Value.ref 24, Value.ref 24, Value.ref 24] }
noncomputable def h27_1 (P : Params) : Obj := { cls := Value.type "builtin_function_or_method", data := Data.fields #[Value.builtin "object.__init_subclass__", Value.ref 24] }
noncomputable def t1 (P : Params) : BT := .node (boot_o_0 P) (.node (boot_o_1 P) (.node (h3_1 P) (.node (boot_o_7 P) (.node (h15_1 P) .nil .nil) (.node (h23_1 P) .nil .nil)) (.node (h11_0 P) (.node (h19_1 P) .nil .nil) (.node (h27_1 P) .nil .nil))) (.node (boot_o_5 P) (.node (boot_o_9 P) (.node (h17_1 P) .nil .nil) (.node (h25_1 P) .nil .nil)) (.node (h13_0 P) (.node (h21_1 P) .nil .nil) .nil))) (.node (boot_o_2 P) (.node (boot_o_4 P) (.node (boot_o_8 P) (.node (h16_1 P) .nil .nil) (.node (h24_1 P) .nil .nil)) (.node (h12_1 P) (.node (h20_1 P) .nil .nil) .nil)) (.node (boot_o_6 P) (.node (boot_o_10 P) (.node (h18_1 P) .nil .nil) (.node (h26_1 P) .nil .nil)) (.node (h14_0 P) (.node (h22_1 P) .nil .nil) .nil)))
noncomputable def z1 (w : World) (os : OsState) : SharedT := ⟨t1 w.params, 28, { }, #[], { }, 207, os⟩
noncomputable def h3_2 (P : Params) : Obj := { cls := Value.type "dict", data := Data.dict #[{ hash := PyData.keyHash P (Str.ofString "__name__"), key := Value.str (Str.ofString "__name__") 165, val := Value.str (Str.ofString "wholecut.errors") 187 }, { hash := PyData.keyHash P (Str.ofString "__doc__"), key := Value.str (Str.ofString "__doc__") 166, val := Value.none }, { hash := PyData.keyHash P (Str.ofString "__package__"), key := Value.str (Str.ofString "__package__") 167, val := Value.none }, { hash := PyData.keyHash P (Str.ofString "__loader__"), key := Value.str (Str.ofString "__loader__") 168, val := Value.builtin "__main__.__loader__#opaque" }, { hash := PyData.keyHash P (Str.ofString "__spec__"), key := Value.str (Str.ofString "__spec__") 169, val := Value.none }, { hash := PyData.keyHash P (Str.ofString "__annotations__"), key := Value.str (Str.ofString "__annotations__") 170, val := Value.ref 6 }, { hash := PyData.keyHash P (Str.ofString "__builtins__"), key := Value.str (Str.ofString "__builtins__") 171, val := Value.ref 4 }, { hash := PyData.keyHash P (Str.ofString "__file__"), key := Value.str (Str.ofString "__file__") 173, val := Value.str (Str.ofString "/claim/cut.py") 172 }, { hash := PyData.keyHash P (Str.ofString "__cached__"), key := Value.str (Str.ofString "__cached__") 174, val := Value.none }, { hash := PyData.keyHash P (Str.ofString "CutError"), key := Value.str (Str.ofString "CutError") 206, val := Value.ref 24 }, { hash := PyData.keyHash P (Str.ofString "BadProblem"), key := Value.str (Str.ofString "BadProblem") 222, val := Value.ref 37 }] 11 }
noncomputable def h12_2 (P : Params) : Obj := { cls := Value.none, data := Data.fields #[Value.int 2 0, Value.int 0 0, Value.ref 20, Value.int 4 0, Value.int 0 0, Value.ref 33] }
noncomputable def h24_2 (P : Params) : Obj := { cls := Value.type "type", data := Data.cls { name := Str.ofString "CutError", bases := [Value.type "ValueError"], mro := [Value.ref 24, Value.type "ValueError", Value.type "Exception", Value.type "BaseException", Value.type "object"], ns := 23, qualname := Str.ofString "CutError", subclasses := [Value.ref 37] }, slots := #[Option.some (Value.ref 15), Option.none, Option.some (Value.str (Str.ofString "CutError") 189), Option.some (Value.str (Str.ofString "CutError") 197), Option.some (Value.builtin "ValueError.__new__"), Option.some (Value.bool Bool.true)] }
noncomputable def h28_2 (P : Params) : Obj := { cls := Value.type "tuple", data := Data.seq #[Value.ref 24] }
noncomputable def h29_2 (P : Params) : Obj := { cls := Value.type "builtin_function_or_method", data := Data.fields #[Value.builtin "type.__prepare__", Value.type "type"] }
noncomputable def h30_2 (P : Params) : Obj := { cls := Value.type "dict", data := Data.dict #[{ hash := PyData.keyHash P (Str.ofString "__module__"), key := Value.str (Str.ofString "__module__") 214, val := Value.str (Str.ofString "wholecut.errors") 187 }, { hash := PyData.keyHash P (Str.ofString "__qualname__"), key := Value.str (Str.ofString "__qualname__") 216, val := Value.str (Str.ofString "BadProblem") 215 }, { hash := PyData.keyHash P (Str.ofString "__firstlineno__"), key := Value.str (Str.ofString "__firstlineno__") 218, val := Value.int 4 217 }, { hash := PyData.keyHash P (Str.ofString "__static_attributes__"), key := Value.str (Str.ofString "__static_attributes__") 219, val := Value.ref 35 }] 4 }
noncomputable def h31_2 (P : Params) : Obj := { cls := Value.type "tuple", data := Data.seq #[] }
noncomputable def h32_2 (P : Params) : Obj := { cls := Value.none, data := Data.fields #[] }
noncomputable def h33_2 (P : Params) : Obj := { cls := Value.type "code", data := Data.fields #[Value.str (Str.ofString "BadProblem") 209, Value.str (Str.ofString "BadProblem") 210, Value.str (Str.ofString "/claim/cut.py") 211, Value.int 4 0, Value.int 0 0, Value.int 0 0, Value.int 0 0, Value.int 0 0, Value.ref 31, Value.bool Bool.false, Value.int 181 0, Value.ref 32, Value.none, Value.none, Value.none, Value.none, Value.int 212 0, Value.int 4 0, Value.str (Str.ofString "/claim/cut.py") 213] }
noncomputable def h34_2 (P : Params) : Obj := { cls := Value.type "frame", slots := #[Option.some (Value.ref 33), Option.some (Value.ref 3), Option.some (Value.ref 30), Option.none, Option.some (Value.str (Str.ofString "wholecut.errors") 187), Option.none, Option.some (Value.ref 0)] }
noncomputable def h35_2 (P : Params) : Obj := { cls := Value.type "tuple", data := Data.seq #[] }
noncomputable def h36_2 (P : Params) : Obj := { cls := Value.type "dict", data := Data.dict #[{ hash := PyData.keyHash P (Str.ofString "__module__"), key := Value.str (Str.ofString "__module__") 214, val := Value.str (Str.ofString "wholecut.errors") 187 }, { hash := PyData.keyHash P (Str.ofString "__firstlineno__"), key := Value.str (Str.ofString "__firstlineno__") 218, val := Value.int 4 217 }, { hash := PyData.keyHash P (Str.ofString "__static_attributes__"), key := Value.str (Str.ofString "__static_attributes__") 219, val := Value.ref 35 }, { hash := PyData.keyHash P (Str.ofString "__doc__"), key := Value.str (Str.ofString "__doc__") 220, val := Value.none }] 2 }
noncomputable def h37_2 (P : Params) : Obj := { cls := Value.type "type", data := Data.cls { name := Str.ofString "BadProblem", bases := [Value.ref 24], mro := [Value.ref 37, Value.ref 24, Value.type "ValueError", Value.type "Exception", Value.type "BaseException", Value.type "object"], ns := 36, qualname := Str.ofString "BadProblem" }, slots := #[Option.some (Value.ref 28), Option.none, Option.some (Value.str (Str.ofString "BadProblem") 207), Option.some (Value.str (Str.ofString "BadProblem") 215), Option.some (Value.builtin "ValueError.__new__"), Option.some (Value.bool Bool.true)] }
noncomputable def h38_2 (P : Params) : Obj := { cls := Value.type "super", data := Data.fields #[Value.ref 37, Value.ref 37, Value.ref 37] }
noncomputable def h39_2 (P : Params) : Obj := { cls := Value.type "builtin_function_or_method", data := Data.fields #[Value.builtin "object.__init_subclass__", Value.ref 37] }
noncomputable def t2 (P : Params) : BT := .node (boot_o_0 P) (.node (boot_o_1 P) (.node (h3_2 P) (.node (boot_o_7 P) (.node (h15_1 P) (.node (h31_2 P) .nil .nil) .nil) (.node (h23_1 P) (.node (h39_2 P) .nil .nil) .nil)) (.node (h11_0 P) (.node (h19_1 P) (.node (h35_2 P) .nil .nil) .nil) (.node (h27_1 P) .nil .nil))) (.node (boot_o_5 P) (.node (boot_o_9 P) (.node (h17_1 P) (.node (h33_2 P) .nil .nil) .nil) (.node (h25_1 P) .nil .nil)) (.node (h13_0 P) (.node (h21_1 P) (.node (h37_2 P) .nil .nil) .nil) (.node (h29_2 P) .nil .nil)))) (.node (boot_o_2 P) (.node (boot_o_4 P) (.node (boot_o_8 P) (.node (h16_1 P) (.node (h32_2 P) .nil .nil) .nil) (.node (h24_2 P) .nil .nil)) (.node (h12_2 P) (.node (h20_1 P) (.node (h36_2 P) .nil .nil) .nil) (.node (h28_2 P) .nil .nil))) (.node (boot_o_6 P) (.node (boot_o_10 P) (.node (h18_1 P) (.node (h34_2 P) .nil .nil) .nil) (.node (h26_1 P) .nil .nil)) (.node (h14_0 P) (.node (h22_1 P) (.node (h38_2 P) .nil .nil) .nil) (.node (h30_2 P) .nil .nil))))
noncomputable def z2 (w : World) (os : OsState) : SharedT := ⟨t2 w.params, 40, { }, #[], { }, 223, os⟩
noncomputable def h3_3 (P : Params) : Obj := { cls := Value.type "dict", data := Data.dict #[{ hash := PyData.keyHash P (Str.ofString "__name__"), key := Value.str (Str.ofString "__name__") 165, val := Value.str (Str.ofString "wholecut.errors") 187 }, { hash := PyData.keyHash P (Str.ofString "__doc__"), key := Value.str (Str.ofString "__doc__") 166, val := Value.none }, { hash := PyData.keyHash P (Str.ofString "__package__"), key := Value.str (Str.ofString "__package__") 167, val := Value.none }, { hash := PyData.keyHash P (Str.ofString "__loader__"), key := Value.str (Str.ofString "__loader__") 168, val := Value.builtin "__main__.__loader__#opaque" }, { hash := PyData.keyHash P (Str.ofString "__spec__"), key := Value.str (Str.ofString "__spec__") 169, val := Value.none }, { hash := PyData.keyHash P (Str.ofString "__annotations__"), key := Value.str (Str.ofString "__annotations__") 170, val := Value.ref 6 }, { hash := PyData.keyHash P (Str.ofString "__builtins__"), key := Value.str (Str.ofString "__builtins__") 171, val := Value.ref 4 }, { hash := PyData.keyHash P (Str.ofString "__file__"), key := Value.str (Str.ofString "__file__") 173, val := Value.str (Str.ofString "/claim/cut.py") 172 }, { hash := PyData.keyHash P (Str.ofString "__cached__"), key := Value.str (Str.ofString "__cached__") 174, val := Value.none }, { hash := PyData.keyHash P (Str.ofString "CutError"), key := Value.str (Str.ofString "CutError") 206, val := Value.ref 24 }, { hash := PyData.keyHash P (Str.ofString "BadProblem"), key := Value.str (Str.ofString "BadProblem") 222, val := Value.ref 37 }, { hash := PyData.keyHash P (Str.ofString "BadPoint"), key := Value.str (Str.ofString "BadPoint") 238, val := Value.ref 49 }] 12 }
noncomputable def h12_3 (P : Params) : Obj := { cls := Value.none, data := Data.fields #[Value.int 2 0, Value.int 0 0, Value.ref 20, Value.int 4 0, Value.int 0 0, Value.ref 33, Value.int 6 0, Value.int 0 0, Value.ref 45] }
noncomputable def h24_3 (P : Params) : Obj := { cls := Value.type "type", data := Data.cls { name := Str.ofString "CutError", bases := [Value.type "ValueError"], mro := [Value.ref 24, Value.type "ValueError", Value.type "Exception", Value.type "BaseException", Value.type "object"], ns := 23, qualname := Str.ofString "CutError", subclasses := [Value.ref 37, Value.ref 49] }, slots := #[Option.some (Value.ref 15), Option.none, Option.some (Value.str (Str.ofString "CutError") 189), Option.some (Value.str (Str.ofString "CutError") 197), Option.some (Value.builtin "ValueError.__new__"), Option.some (Value.bool Bool.true)] }
noncomputable def h40_3 (P : Params) : Obj := { cls := Value.type "tuple", data := Data.seq #[Value.ref 24] }
noncomputable def h41_3 (P : Params) : Obj := { cls := Value.type "builtin_function_or_method", data := Data.fields #[Value.builtin "type.__prepare__", Value.type "type"] }
noncomputable def h42_3 (P : Params) : Obj := { cls := Value.type "dict", data := Data.dict #[{ hash := PyData.keyHash P (Str.ofString "__module__"), key := Value.str (Str.ofString "__module__") 230, val := Value.str (Str.ofString "wholecut.errors") 187 }, { hash := PyData.keyHash P (Str.ofString "__qualname__"), key := Value.str (Str.ofString "__qualname__") 232, val := Value.str (Str.ofString "BadPoint") 231 }, { hash := PyData.keyHash P (Str.ofString "__firstlineno__"), key := Value.str (Str.ofString "__firstlineno__") 234, val := Value.int 6 233 }, { hash := PyData.keyHash P (Str.ofString "__static_attributes__"), key := Value.str (Str.ofString "__static_attributes__") 235, val := Value.ref 47 }] 4 }
noncomputable def h43_3 (P : Params) : Obj := { cls := Value.type "tuple", data := Data.seq #[] }
noncomputable def h44_3 (P : Params) : Obj := { cls := Value.none, data := Data.fields #[] }
noncomputable def h45_3 (P : Params) : Obj := { cls := Value.type "code", data := Data.fields #[Value.str (Str.ofString "BadPoint") 225, Value.str (Str.ofString "BadPoint") 226, Value.str (Str.ofString "/claim/cut.py") 227, Value.int 6 0, Value.int 0 0, Value.int 0 0, Value.int 0 0, Value.int 0 0, Value.ref 43, Value.bool Bool.false, Value.int 181 0, Value.ref 44, Value.none, Value.none, Value.none, Value.none, Value.int 228 0, Value.int 6 0, Value.str (Str.ofString "/claim/cut.py") 229] }
noncomputable def h46_3 (P : Params) : Obj := { cls := Value.type "frame", slots := #[Option.some (Value.ref 45), Option.some (Value.ref 3), Option.some (Value.ref 42), Option.none, Option.some (Value.str (Str.ofString "wholecut.errors") 187), Option.none, Option.some (Value.ref 0)] }
noncomputable def h47_3 (P : Params) : Obj := { cls := Value.type "tuple", data := Data.seq #[] }
noncomputable def h48_3 (P : Params) : Obj := { cls := Value.type "dict", data := Data.dict #[{ hash := PyData.keyHash P (Str.ofString "__module__"), key := Value.str (Str.ofString "__module__") 230, val := Value.str (Str.ofString "wholecut.errors") 187 }, { hash := PyData.keyHash P (Str.ofString "__firstlineno__"), key := Value.str (Str.ofString "__firstlineno__") 234, val := Value.int 6 233 }, { hash := PyData.keyHash P (Str.ofString "__static_attributes__"), key := Value.str (Str.ofString "__static_attributes__") 235, val := Value.ref 47 }, { hash := PyData.keyHash P (Str.ofString "__doc__"), key := Value.str (Str.ofString "__doc__") 236, val := Value.none }] 2 }
noncomputable def h49_3 (P : Params) : Obj := { cls := Value.type "type", data := Data.cls { name := Str.ofString "BadPoint", bases := [Value.ref 24], mro := [Value.ref 49, Value.ref 24, Value.type "ValueError", Value.type "Exception", Value.type "BaseException", Value.type "object"], ns := 48, qualname := Str.ofString "BadPoint" }, slots := #[Option.some (Value.ref 40), Option.none, Option.some (Value.str (Str.ofString "BadPoint") 223), Option.some (Value.str (Str.ofString "BadPoint") 231), Option.some (Value.builtin "ValueError.__new__"), Option.some (Value.bool Bool.true)] }
noncomputable def h50_3 (P : Params) : Obj := { cls := Value.type "super", data := Data.fields #[Value.ref 49, Value.ref 49, Value.ref 49] }
noncomputable def h51_3 (P : Params) : Obj := { cls := Value.type "builtin_function_or_method", data := Data.fields #[Value.builtin "object.__init_subclass__", Value.ref 49] }
noncomputable def t3 (P : Params) : BT := .node (boot_o_0 P) (.node (boot_o_1 P) (.node (h3_3 P) (.node (boot_o_7 P) (.node (h15_1 P) (.node (h31_2 P) .nil .nil) (.node (h47_3 P) .nil .nil)) (.node (h23_1 P) (.node (h39_2 P) .nil .nil) .nil)) (.node (h11_0 P) (.node (h19_1 P) (.node (h35_2 P) .nil .nil) (.node (h51_3 P) .nil .nil)) (.node (h27_1 P) (.node (h43_3 P) .nil .nil) .nil))) (.node (boot_o_5 P) (.node (boot_o_9 P) (.node (h17_1 P) (.node (h33_2 P) .nil .nil) (.node (h49_3 P) .nil .nil)) (.node (h25_1 P) (.node (h41_3 P) .nil .nil) .nil)) (.node (h13_0 P) (.node (h21_1 P) (.node (h37_2 P) .nil .nil) .nil) (.node (h29_2 P) (.node (h45_3 P) .nil .nil) .nil)))) (.node (boot_o_2 P) (.node (boot_o_4 P) (.node (boot_o_8 P) (.node (h16_1 P) (.node (h32_2 P) .nil .nil) (.node (h48_3 P) .nil .nil)) (.node (h24_3 P) (.node (h40_3 P) .nil .nil) .nil)) (.node (h12_3 P) (.node (h20_1 P) (.node (h36_2 P) .nil .nil) .nil) (.node (h28_2 P) (.node (h44_3 P) .nil .nil) .nil))) (.node (boot_o_6 P) (.node (boot_o_10 P) (.node (h18_1 P) (.node (h34_2 P) .nil .nil) (.node (h50_3 P) .nil .nil)) (.node (h26_1 P) (.node (h42_3 P) .nil .nil) .nil)) (.node (h14_0 P) (.node (h22_1 P) (.node (h38_2 P) .nil .nil) .nil) (.node (h30_2 P) (.node (h46_3 P) .nil .nil) .nil))))
noncomputable def z3 (w : World) (os : OsState) : SharedT := ⟨t3 w.params, 52, { }, #[], { }, 239, os⟩
noncomputable def h3_4 (P : Params) : Obj := { cls := Value.type "dict", data := Data.dict #[{ hash := PyData.keyHash P (Str.ofString "__name__"), key := Value.str (Str.ofString "__name__") 165, val := Value.str (Str.ofString "wholecut.errors") 187 }, { hash := PyData.keyHash P (Str.ofString "__doc__"), key := Value.str (Str.ofString "__doc__") 166, val := Value.none }, { hash := PyData.keyHash P (Str.ofString "__package__"), key := Value.str (Str.ofString "__package__") 167, val := Value.none }, { hash := PyData.keyHash P (Str.ofString "__loader__"), key := Value.str (Str.ofString "__loader__") 168, val := Value.builtin "__main__.__loader__#opaque" }, { hash := PyData.keyHash P (Str.ofString "__spec__"), key := Value.str (Str.ofString "__spec__") 169, val := Value.none }, { hash := PyData.keyHash P (Str.ofString "__annotations__"), key := Value.str (Str.ofString "__annotations__") 170, val := Value.ref 6 }, { hash := PyData.keyHash P (Str.ofString "__builtins__"), key := Value.str (Str.ofString "__builtins__") 171, val := Value.ref 4 }, { hash := PyData.keyHash P (Str.ofString "__file__"), key := Value.str (Str.ofString "__file__") 173, val := Value.str (Str.ofString "/claim/cut.py") 172 }, { hash := PyData.keyHash P (Str.ofString "__cached__"), key := Value.str (Str.ofString "__cached__") 174, val := Value.none }, { hash := PyData.keyHash P (Str.ofString "CutError"), key := Value.str (Str.ofString "CutError") 206, val := Value.ref 24 }, { hash := PyData.keyHash P (Str.ofString "BadProblem"), key := Value.str (Str.ofString "BadProblem") 222, val := Value.ref 37 }, { hash := PyData.keyHash P (Str.ofString "BadPoint"), key := Value.str (Str.ofString "BadPoint") 238, val := Value.ref 49 }, { hash := PyData.keyHash P (Str.ofString "BadBox"), key := Value.str (Str.ofString "BadBox") 254, val := Value.ref 61 }] 13 }
noncomputable def h12_4 (P : Params) : Obj := { cls := Value.none, data := Data.fields #[Value.int 2 0, Value.int 0 0, Value.ref 20, Value.int 4 0, Value.int 0 0, Value.ref 33, Value.int 6 0, Value.int 0 0, Value.ref 45, Value.int 8 0, Value.int 0 0, Value.ref 57] }
noncomputable def h24_4 (P : Params) : Obj := { cls := Value.type "type", data := Data.cls { name := Str.ofString "CutError", bases := [Value.type "ValueError"], mro := [Value.ref 24, Value.type "ValueError", Value.type "Exception", Value.type "BaseException", Value.type "object"], ns := 23, qualname := Str.ofString "CutError", subclasses := [Value.ref 37, Value.ref 49, Value.ref 61] }, slots := #[Option.some (Value.ref 15), Option.none, Option.some (Value.str (Str.ofString "CutError") 189), Option.some (Value.str (Str.ofString "CutError") 197), Option.some (Value.builtin "ValueError.__new__"), Option.some (Value.bool Bool.true)] }
noncomputable def h52_4 (P : Params) : Obj := { cls := Value.type "tuple", data := Data.seq #[Value.ref 24] }
noncomputable def h53_4 (P : Params) : Obj := { cls := Value.type "builtin_function_or_method", data := Data.fields #[Value.builtin "type.__prepare__", Value.type "type"] }
noncomputable def h54_4 (P : Params) : Obj := { cls := Value.type "dict", data := Data.dict #[{ hash := PyData.keyHash P (Str.ofString "__module__"), key := Value.str (Str.ofString "__module__") 246, val := Value.str (Str.ofString "wholecut.errors") 187 }, { hash := PyData.keyHash P (Str.ofString "__qualname__"), key := Value.str (Str.ofString "__qualname__") 248, val := Value.str (Str.ofString "BadBox") 247 }, { hash := PyData.keyHash P (Str.ofString "__firstlineno__"), key := Value.str (Str.ofString "__firstlineno__") 250, val := Value.int 8 249 }, { hash := PyData.keyHash P (Str.ofString "__static_attributes__"), key := Value.str (Str.ofString "__static_attributes__") 251, val := Value.ref 59 }] 4 }
noncomputable def h55_4 (P : Params) : Obj := { cls := Value.type "tuple", data := Data.seq #[] }
noncomputable def h56_4 (P : Params) : Obj := { cls := Value.none, data := Data.fields #[] }
noncomputable def h57_4 (P : Params) : Obj := { cls := Value.type "code", data := Data.fields #[Value.str (Str.ofString "BadBox") 241, Value.str (Str.ofString "BadBox") 242, Value.str (Str.ofString "/claim/cut.py") 243, Value.int 8 0, Value.int 0 0, Value.int 0 0, Value.int 0 0, Value.int 0 0, Value.ref 55, Value.bool Bool.false, Value.int 181 0, Value.ref 56, Value.none, Value.none, Value.none, Value.none, Value.int 244 0, Value.int 8 0, Value.str (Str.ofString "/claim/cut.py") 245] }
noncomputable def h58_4 (P : Params) : Obj := { cls := Value.type "frame", slots := #[Option.some (Value.ref 57), Option.some (Value.ref 3), Option.some (Value.ref 54), Option.none, Option.some (Value.str (Str.ofString "wholecut.errors") 187), Option.none, Option.some (Value.ref 0)] }
noncomputable def h59_4 (P : Params) : Obj := { cls := Value.type "tuple", data := Data.seq #[] }
noncomputable def h60_4 (P : Params) : Obj := { cls := Value.type "dict", data := Data.dict #[{ hash := PyData.keyHash P (Str.ofString "__module__"), key := Value.str (Str.ofString "__module__") 246, val := Value.str (Str.ofString "wholecut.errors") 187 }, { hash := PyData.keyHash P (Str.ofString "__firstlineno__"), key := Value.str (Str.ofString "__firstlineno__") 250, val := Value.int 8 249 }, { hash := PyData.keyHash P (Str.ofString "__static_attributes__"), key := Value.str (Str.ofString "__static_attributes__") 251, val := Value.ref 59 }, { hash := PyData.keyHash P (Str.ofString "__doc__"), key := Value.str (Str.ofString "__doc__") 252, val := Value.none }] 2 }
noncomputable def h61_4 (P : Params) : Obj := { cls := Value.type "type", data := Data.cls { name := Str.ofString "BadBox", bases := [Value.ref 24], mro := [Value.ref 61, Value.ref 24, Value.type "ValueError", Value.type "Exception", Value.type "BaseException", Value.type "object"], ns := 60, qualname := Str.ofString "BadBox" }, slots := #[Option.some (Value.ref 52), Option.none, Option.some (Value.str (Str.ofString "BadBox") 239), Option.some (Value.str (Str.ofString "BadBox") 247), Option.some (Value.builtin "ValueError.__new__"), Option.some (Value.bool Bool.true)] }
noncomputable def h62_4 (P : Params) : Obj := { cls := Value.type "super", data := Data.fields #[Value.ref 61, Value.ref 61, Value.ref 61] }
noncomputable def h63_4 (P : Params) : Obj := { cls := Value.type "builtin_function_or_method", data := Data.fields #[Value.builtin "object.__init_subclass__", Value.ref 61] }
noncomputable def t4 (P : Params) : BT := .node (boot_o_0 P) (.node (boot_o_1 P) (.node (h3_4 P) (.node (boot_o_7 P) (.node (h15_1 P) (.node (h31_2 P) (.node (h63_4 P) .nil .nil) .nil) (.node (h47_3 P) .nil .nil)) (.node (h23_1 P) (.node (h39_2 P) .nil .nil) (.node (h55_4 P) .nil .nil))) (.node (h11_0 P) (.node (h19_1 P) (.node (h35_2 P) .nil .nil) (.node (h51_3 P) .nil .nil)) (.node (h27_1 P) (.node (h43_3 P) .nil .nil) (.node (h59_4 P) .nil .nil)))) (.node (boot_o_5 P) (.node (boot_o_9 P) (.node (h17_1 P) (.node (h33_2 P) .nil .nil) (.node (h49_3 P) .nil .nil)) (.node (h25_1 P) (.node (h41_3 P) .nil .nil) (.node (h57_4 P) .nil .nil))) (.node (h13_0 P) (.node (h21_1 P) (.node (h37_2 P) .nil .nil) (.node (h53_4 P) .nil .nil)) (.node (h29_2 P) (.node (h45_3 P) .nil .nil) (.node (h61_4 P) .nil .nil))))) (.node (boot_o_2 P) (.node (boot_o_4 P) (.node (boot_o_8 P) (.node (h16_1 P) (.node (h32_2 P) .nil .nil) (.node (h48_3 P) .nil .nil)) (.node (h24_4 P) (.node (h40_3 P) .nil .nil) (.node (h56_4 P) .nil .nil))) (.node (h12_4 P) (.node (h20_1 P) (.node (h36_2 P) .nil .nil) (.node (h52_4 P) .nil .nil)) (.node (h28_2 P) (.node (h44_3 P) .nil .nil) (.node (h60_4 P) .nil .nil)))) (.node (boot_o_6 P) (.node (boot_o_10 P) (.node (h18_1 P) (.node (h34_2 P) .nil .nil) (.node (h50_3 P) .nil .nil)) (.node (h26_1 P) (.node (h42_3 P) .nil .nil) (.node (h58_4 P) .nil .nil))) (.node (h14_0 P) (.node (h22_1 P) (.node (h38_2 P) .nil .nil) (.node (h54_4 P) .nil .nil)) (.node (h30_2 P) (.node (h46_3 P) .nil .nil) (.node (h62_4 P) .nil .nil)))))
noncomputable def z4 (w : World) (os : OsState) : SharedT := ⟨t4 w.params, 64, { }, #[], { }, 255, os⟩
noncomputable def h3_5 (P : Params) : Obj := { cls := Value.type "dict", data := Data.dict #[{ hash := PyData.keyHash P (Str.ofString "__name__"), key := Value.str (Str.ofString "__name__") 165, val := Value.str (Str.ofString "wholecut.errors") 187 }, { hash := PyData.keyHash P (Str.ofString "__doc__"), key := Value.str (Str.ofString "__doc__") 166, val := Value.none }, { hash := PyData.keyHash P (Str.ofString "__package__"), key := Value.str (Str.ofString "__package__") 167, val := Value.none }, { hash := PyData.keyHash P (Str.ofString "__loader__"), key := Value.str (Str.ofString "__loader__") 168, val := Value.builtin "__main__.__loader__#opaque" }, { hash := PyData.keyHash P (Str.ofString "__spec__"), key := Value.str (Str.ofString "__spec__") 169, val := Value.none }, { hash := PyData.keyHash P (Str.ofString "__annotations__"), key := Value.str (Str.ofString "__annotations__") 170, val := Value.ref 6 }, { hash := PyData.keyHash P (Str.ofString "__builtins__"), key := Value.str (Str.ofString "__builtins__") 171, val := Value.ref 4 }, { hash := PyData.keyHash P (Str.ofString "__file__"), key := Value.str (Str.ofString "__file__") 173, val := Value.str (Str.ofString "/claim/cut.py") 172 }, { hash := PyData.keyHash P (Str.ofString "__cached__"), key := Value.str (Str.ofString "__cached__") 174, val := Value.none }, { hash := PyData.keyHash P (Str.ofString "CutError"), key := Value.str (Str.ofString "CutError") 206, val := Value.ref 24 }, { hash := PyData.keyHash P (Str.ofString "BadProblem"), key := Value.str (Str.ofString "BadProblem") 222, val := Value.ref 37 }, { hash := PyData.keyHash P (Str.ofString "BadPoint"), key := Value.str (Str.ofString "BadPoint") 238, val := Value.ref 49 }, { hash := PyData.keyHash P (Str.ofString "BadBox"), key := Value.str (Str.ofString "BadBox") 254, val := Value.ref 61 }, { hash := PyData.keyHash P (Str.ofString "BadWeights"), key := Value.str (Str.ofString "BadWeights") 270, val := Value.ref 73 }] 14 }
noncomputable def h12_5 (P : Params) : Obj := { cls := Value.none, data := Data.fields #[Value.int 2 0, Value.int 0 0, Value.ref 20, Value.int 4 0, Value.int 0 0, Value.ref 33, Value.int 6 0, Value.int 0 0, Value.ref 45, Value.int 8 0, Value.int 0 0, Value.ref 57, Value.int 10 0, Value.int 0 0, Value.ref 69] }
noncomputable def h24_5 (P : Params) : Obj := { cls := Value.type "type", data := Data.cls { name := Str.ofString "CutError", bases := [Value.type "ValueError"], mro := [Value.ref 24, Value.type "ValueError", Value.type "Exception", Value.type "BaseException", Value.type "object"], ns := 23, qualname := Str.ofString "CutError", subclasses := [Value.ref 37, Value.ref 49, Value.ref 61, Value.ref 73] }, slots := #[Option.some (Value.ref 15), Option.none, Option.some (Value.str (Str.ofString "CutError") 189), Option.some (Value.str (Str.ofString "CutError") 197), Option.some (Value.builtin "ValueError.__new__"), Option.some (Value.bool Bool.true)] }
noncomputable def h64_5 (P : Params) : Obj := { cls := Value.type "tuple", data := Data.seq #[Value.ref 24] }
noncomputable def h65_5 (P : Params) : Obj := { cls := Value.type "builtin_function_or_method", data := Data.fields #[Value.builtin "type.__prepare__", Value.type "type"] }
noncomputable def h66_5 (P : Params) : Obj := { cls := Value.type "dict", data := Data.dict #[{ hash := PyData.keyHash P (Str.ofString "__module__"), key := Value.str (Str.ofString "__module__") 262, val := Value.str (Str.ofString "wholecut.errors") 187 }, { hash := PyData.keyHash P (Str.ofString "__qualname__"), key := Value.str (Str.ofString "__qualname__") 264, val := Value.str (Str.ofString "BadWeights") 263 }, { hash := PyData.keyHash P (Str.ofString "__firstlineno__"), key := Value.str (Str.ofString "__firstlineno__") 266, val := Value.int 10 265 }, { hash := PyData.keyHash P (Str.ofString "__static_attributes__"), key := Value.str (Str.ofString "__static_attributes__") 267, val := Value.ref 71 }] 4 }
noncomputable def h67_5 (P : Params) : Obj := { cls := Value.type "tuple", data := Data.seq #[] }
noncomputable def h68_5 (P : Params) : Obj := { cls := Value.none, data := Data.fields #[] }
noncomputable def h69_5 (P : Params) : Obj := { cls := Value.type "code", data := Data.fields #[Value.str (Str.ofString "BadWeights") 257, Value.str (Str.ofString "BadWeights") 258, Value.str (Str.ofString "/claim/cut.py") 259, Value.int 10 0, Value.int 0 0, Value.int 0 0, Value.int 0 0, Value.int 0 0, Value.ref 67, Value.bool Bool.false, Value.int 181 0, Value.ref 68, Value.none, Value.none, Value.none, Value.none, Value.int 260 0, Value.int 10 0, Value.str (Str.ofString "/claim/cut.py") 261] }
noncomputable def h70_5 (P : Params) : Obj := { cls := Value.type "frame", slots := #[Option.some (Value.ref 69), Option.some (Value.ref 3), Option.some (Value.ref 66), Option.none, Option.some (Value.str (Str.ofString "wholecut.errors") 187), Option.none, Option.some (Value.ref 0)] }
noncomputable def h71_5 (P : Params) : Obj := { cls := Value.type "tuple", data := Data.seq #[] }
noncomputable def h72_5 (P : Params) : Obj := { cls := Value.type "dict", data := Data.dict #[{ hash := PyData.keyHash P (Str.ofString "__module__"), key := Value.str (Str.ofString "__module__") 262, val := Value.str (Str.ofString "wholecut.errors") 187 }, { hash := PyData.keyHash P (Str.ofString "__firstlineno__"), key := Value.str (Str.ofString "__firstlineno__") 266, val := Value.int 10 265 }, { hash := PyData.keyHash P (Str.ofString "__static_attributes__"), key := Value.str (Str.ofString "__static_attributes__") 267, val := Value.ref 71 }, { hash := PyData.keyHash P (Str.ofString "__doc__"), key := Value.str (Str.ofString "__doc__") 268, val := Value.none }] 2 }
noncomputable def h73_5 (P : Params) : Obj := { cls := Value.type "type", data := Data.cls { name := Str.ofString "BadWeights", bases := [Value.ref 24], mro := [Value.ref 73, Value.ref 24, Value.type "ValueError", Value.type "Exception", Value.type "BaseException", Value.type "object"], ns := 72, qualname := Str.ofString "BadWeights" }, slots := #[Option.some (Value.ref 64), Option.none, Option.some (Value.str (Str.ofString "BadWeights") 255), Option.some (Value.str (Str.ofString "BadWeights") 263), Option.some (Value.builtin "ValueError.__new__"), Option.some (Value.bool Bool.true)] }
noncomputable def h74_5 (P : Params) : Obj := { cls := Value.type "super", data := Data.fields #[Value.ref 73, Value.ref 73, Value.ref 73] }
noncomputable def h75_5 (P : Params) : Obj := { cls := Value.type "builtin_function_or_method", data := Data.fields #[Value.builtin "object.__init_subclass__", Value.ref 73] }
noncomputable def t5 (P : Params) : BT := .node (boot_o_0 P) (.node (boot_o_1 P) (.node (h3_5 P) (.node (boot_o_7 P) (.node (h15_1 P) (.node (h31_2 P) (.node (h63_4 P) .nil .nil) .nil) (.node (h47_3 P) .nil .nil)) (.node (h23_1 P) (.node (h39_2 P) (.node (h71_5 P) .nil .nil) .nil) (.node (h55_4 P) .nil .nil))) (.node (h11_0 P) (.node (h19_1 P) (.node (h35_2 P) (.node (h67_5 P) .nil .nil) .nil) (.node (h51_3 P) .nil .nil)) (.node (h27_1 P) (.node (h43_3 P) (.node (h75_5 P) .nil .nil) .nil) (.node (h59_4 P) .nil .nil)))) (.node (boot_o_5 P) (.node (boot_o_9 P) (.node (h17_1 P) (.node (h33_2 P) (.node (h65_5 P) .nil .nil) .nil) (.node (h49_3 P) .nil .nil)) (.node (h25_1 P) (.node (h41_3 P) (.node (h73_5 P) .nil .nil) .nil) (.node (h57_4 P) .nil .nil))) (.node (h13_0 P) (.node (h21_1 P) (.node (h37_2 P) (.node (h69_5 P) .nil .nil) .nil) (.node (h53_4 P) .nil .nil)) (.node (h29_2 P) (.node (h45_3 P) .nil .nil) (.node (h61_4 P) .nil .nil))))) (.node (boot_o_2 P) (.node (boot_o_4 P) (.node (boot_o_8 P) (.node (h16_1 P) (.node (h32_2 P) (.node (h64_5 P) .nil .nil) .nil) (.node (h48_3 P) .nil .nil)) (.node (h24_5 P) (.node (h40_3 P) (.node (h72_5 P) .nil .nil) .nil) (.node (h56_4 P) .nil .nil))) (.node (h12_5 P) (.node (h20_1 P) (.node (h36_2 P) (.node (h68_5 P) .nil .nil) .nil) (.node (h52_4 P) .nil .nil)) (.node (h28_2 P) (.node (h44_3 P) .nil .nil) (.node (h60_4 P) .nil .nil)))) (.node (boot_o_6 P) (.node (boot_o_10 P) (.node (h18_1 P) (.node (h34_2 P) (.node (h66_5 P) .nil .nil) .nil) (.node (h50_3 P) .nil .nil)) (.node (h26_1 P) (.node (h42_3 P) (.node (h74_5 P) .nil .nil) .nil) (.node (h58_4 P) .nil .nil))) (.node (h14_0 P) (.node (h22_1 P) (.node (h38_2 P) (.node (h70_5 P) .nil .nil) .nil) (.node (h54_4 P) .nil .nil)) (.node (h30_2 P) (.node (h46_3 P) .nil .nil) (.node (h62_4 P) .nil .nil)))))
noncomputable def z5 (w : World) (os : OsState) : SharedT := ⟨t5 w.params, 76, { }, #[], { }, 271, os⟩
noncomputable def h3_6 (P : Params) : Obj := { cls := Value.type "dict", data := Data.dict #[{ hash := PyData.keyHash P (Str.ofString "__name__"), key := Value.str (Str.ofString "__name__") 165, val := Value.str (Str.ofString "wholecut.errors") 187 }, { hash := PyData.keyHash P (Str.ofString "__doc__"), key := Value.str (Str.ofString "__doc__") 166, val := Value.none }, { hash := PyData.keyHash P (Str.ofString "__package__"), key := Value.str (Str.ofString "__package__") 167, val := Value.none }, { hash := PyData.keyHash P (Str.ofString "__loader__"), key := Value.str (Str.ofString "__loader__") 168, val := Value.builtin "__main__.__loader__#opaque" }, { hash := PyData.keyHash P (Str.ofString "__spec__"), key := Value.str (Str.ofString "__spec__") 169, val := Value.none }, { hash := PyData.keyHash P (Str.ofString "__annotations__"), key := Value.str (Str.ofString "__annotations__") 170, val := Value.ref 6 }, { hash := PyData.keyHash P (Str.ofString "__builtins__"), key := Value.str (Str.ofString "__builtins__") 171, val := Value.ref 4 }, { hash := PyData.keyHash P (Str.ofString "__file__"), key := Value.str (Str.ofString "__file__") 173, val := Value.str (Str.ofString "/claim/cut.py") 172 }, { hash := PyData.keyHash P (Str.ofString "__cached__"), key := Value.str (Str.ofString "__cached__") 174, val := Value.none }, { hash := PyData.keyHash P (Str.ofString "CutError"), key := Value.str (Str.ofString "CutError") 206, val := Value.ref 24 }, { hash := PyData.keyHash P (Str.ofString "BadProblem"), key := Value.str (Str.ofString "BadProblem") 222, val := Value.ref 37 }, { hash := PyData.keyHash P (Str.ofString "BadPoint"), key := Value.str (Str.ofString "BadPoint") 238, val := Value.ref 49 }, { hash := PyData.keyHash P (Str.ofString "BadBox"), key := Value.str (Str.ofString "BadBox") 254, val := Value.ref 61 }, { hash := PyData.keyHash P (Str.ofString "BadWeights"), key := Value.str (Str.ofString "BadWeights") 270, val := Value.ref 73 }, { hash := PyData.keyHash P (Str.ofString "NoTurn"), key := Value.str (Str.ofString "NoTurn") 286, val := Value.ref 85 }] 15 }
noncomputable def h12_6 (P : Params) : Obj := { cls := Value.none, data := Data.fields #[Value.int 2 0, Value.int 0 0, Value.ref 20, Value.int 4 0, Value.int 0 0, Value.ref 33, Value.int 6 0, Value.int 0 0, Value.ref 45, Value.int 8 0, Value.int 0 0, Value.ref 57, Value.int 10 0, Value.int 0 0, Value.ref 69, Value.int 12 0, Value.int 0 0, Value.ref 81] }
noncomputable def h24_6 (P : Params) : Obj := { cls := Value.type "type", data := Data.cls { name := Str.ofString "CutError", bases := [Value.type "ValueError"], mro := [Value.ref 24, Value.type "ValueError", Value.type "Exception", Value.type "BaseException", Value.type "object"], ns := 23, qualname := Str.ofString "CutError", subclasses := [Value.ref 37, Value.ref 49, Value.ref 61, Value.ref 73, Value.ref 85] }, slots := #[Option.some (Value.ref 15), Option.none, Option.some (Value.str (Str.ofString "CutError") 189), Option.some (Value.str (Str.ofString "CutError") 197), Option.some (Value.builtin "ValueError.__new__"), Option.some (Value.bool Bool.true)] }
noncomputable def h76_6 (P : Params) : Obj := { cls := Value.type "tuple", data := Data.seq #[Value.ref 24] }
noncomputable def h77_6 (P : Params) : Obj := { cls := Value.type "builtin_function_or_method", data := Data.fields #[Value.builtin "type.__prepare__", Value.type "type"] }
noncomputable def h78_6 (P : Params) : Obj := { cls := Value.type "dict", data := Data.dict #[{ hash := PyData.keyHash P (Str.ofString "__module__"), key := Value.str (Str.ofString "__module__") 278, val := Value.str (Str.ofString "wholecut.errors") 187 }, { hash := PyData.keyHash P (Str.ofString "__qualname__"), key := Value.str (Str.ofString "__qualname__") 280, val := Value.str (Str.ofString "NoTurn") 279 }, { hash := PyData.keyHash P (Str.ofString "__firstlineno__"), key := Value.str (Str.ofString "__firstlineno__") 282, val := Value.int 12 281 }, { hash := PyData.keyHash P (Str.ofString "__static_attributes__"), key := Value.str (Str.ofString "__static_attributes__") 283, val := Value.ref 83 }] 4 }
noncomputable def h79_6 (P : Params) : Obj := { cls := Value.type "tuple", data := Data.seq #[] }
noncomputable def h80_6 (P : Params) : Obj := { cls := Value.none, data := Data.fields #[] }
noncomputable def h81_6 (P : Params) : Obj := { cls := Value.type "code", data := Data.fields #[Value.str (Str.ofString "NoTurn") 273, Value.str (Str.ofString "NoTurn") 274, Value.str (Str.ofString "/claim/cut.py") 275, Value.int 12 0, Value.int 0 0, Value.int 0 0, Value.int 0 0, Value.int 0 0, Value.ref 79, Value.bool Bool.false, Value.int 181 0, Value.ref 80, Value.none, Value.none, Value.none, Value.none, Value.int 276 0, Value.int 12 0, Value.str (Str.ofString "/claim/cut.py") 277] }
noncomputable def h82_6 (P : Params) : Obj := { cls := Value.type "frame", slots := #[Option.some (Value.ref 81), Option.some (Value.ref 3), Option.some (Value.ref 78), Option.none, Option.some (Value.str (Str.ofString "wholecut.errors") 187), Option.none, Option.some (Value.ref 0)] }
noncomputable def h83_6 (P : Params) : Obj := { cls := Value.type "tuple", data := Data.seq #[] }
noncomputable def h84_6 (P : Params) : Obj := { cls := Value.type "dict", data := Data.dict #[{ hash := PyData.keyHash P (Str.ofString "__module__"), key := Value.str (Str.ofString "__module__") 278, val := Value.str (Str.ofString "wholecut.errors") 187 }, { hash := PyData.keyHash P (Str.ofString "__firstlineno__"), key := Value.str (Str.ofString "__firstlineno__") 282, val := Value.int 12 281 }, { hash := PyData.keyHash P (Str.ofString "__static_attributes__"), key := Value.str (Str.ofString "__static_attributes__") 283, val := Value.ref 83 }, { hash := PyData.keyHash P (Str.ofString "__doc__"), key := Value.str (Str.ofString "__doc__") 284, val := Value.none }] 2 }
noncomputable def h85_6 (P : Params) : Obj := { cls := Value.type "type", data := Data.cls { name := Str.ofString "NoTurn", bases := [Value.ref 24], mro := [Value.ref 85, Value.ref 24, Value.type "ValueError", Value.type "Exception", Value.type "BaseException", Value.type "object"], ns := 84, qualname := Str.ofString "NoTurn" }, slots := #[Option.some (Value.ref 76), Option.none, Option.some (Value.str (Str.ofString "NoTurn") 271), Option.some (Value.str (Str.ofString "NoTurn") 279), Option.some (Value.builtin "ValueError.__new__"), Option.some (Value.bool Bool.true)] }
noncomputable def h86_6 (P : Params) : Obj := { cls := Value.type "super", data := Data.fields #[Value.ref 85, Value.ref 85, Value.ref 85] }
noncomputable def h87_6 (P : Params) : Obj := { cls := Value.type "builtin_function_or_method", data := Data.fields #[Value.builtin "object.__init_subclass__", Value.ref 85] }
noncomputable def t6 (P : Params) : BT := .node (boot_o_0 P) (.node (boot_o_1 P) (.node (h3_6 P) (.node (boot_o_7 P) (.node (h15_1 P) (.node (h31_2 P) (.node (h63_4 P) .nil .nil) .nil) (.node (h47_3 P) (.node (h79_6 P) .nil .nil) .nil)) (.node (h23_1 P) (.node (h39_2 P) (.node (h71_5 P) .nil .nil) .nil) (.node (h55_4 P) (.node (h87_6 P) .nil .nil) .nil))) (.node (h11_0 P) (.node (h19_1 P) (.node (h35_2 P) (.node (h67_5 P) .nil .nil) .nil) (.node (h51_3 P) (.node (h83_6 P) .nil .nil) .nil)) (.node (h27_1 P) (.node (h43_3 P) (.node (h75_5 P) .nil .nil) .nil) (.node (h59_4 P) .nil .nil)))) (.node (boot_o_5 P) (.node (boot_o_9 P) (.node (h17_1 P) (.node (h33_2 P) (.node (h65_5 P) .nil .nil) .nil) (.node (h49_3 P) (.node (h81_6 P) .nil .nil) .nil)) (.node (h25_1 P) (.node (h41_3 P) (.node (h73_5 P) .nil .nil) .nil) (.node (h57_4 P) .nil .nil))) (.node (h13_0 P) (.node (h21_1 P) (.node (h37_2 P) (.node (h69_5 P) .nil .nil) .nil) (.node (h53_4 P) (.node (h85_6 P) .nil .nil) .nil)) (.node (h29_2 P) (.node (h45_3 P) (.node (h77_6 P) .nil .nil) .nil) (.node (h61_4 P) .nil .nil))))) (.node (boot_o_2 P) (.node (boot_o_4 P) (.node (boot_o_8 P) (.node (h16_1 P) (.node (h32_2 P) (.node (h64_5 P) .nil .nil) .nil) (.node (h48_3 P) (.node (h80_6 P) .nil .nil) .nil)) (.node (h24_6 P) (.node (h40_3 P) (.node (h72_5 P) .nil .nil) .nil) (.node (h56_4 P) .nil .nil))) (.node (h12_6 P) (.node (h20_1 P) (.node (h36_2 P) (.node (h68_5 P) .nil .nil) .nil) (.node (h52_4 P) (.node (h84_6 P) .nil .nil) .nil)) (.node (h28_2 P) (.node (h44_3 P) (.node (h76_6 P) .nil .nil) .nil) (.node (h60_4 P) .nil .nil)))) (.node (boot_o_6 P) (.node (boot_o_10 P) (.node (h18_1 P) (.node (h34_2 P) (.node (h66_5 P) .nil .nil) .nil) (.node (h50_3 P) (.node (h82_6 P) .nil .nil) .nil)) (.node (h26_1 P) (.node (h42_3 P) (.node (h74_5 P) .nil .nil) .nil) (.node (h58_4 P) .nil .nil))) (.node (h14_0 P) (.node (h22_1 P) (.node (h38_2 P) (.node (h70_5 P) .nil .nil) .nil) (.node (h54_4 P) (.node (h86_6 P) .nil .nil) .nil)) (.node (h30_2 P) (.node (h46_3 P) (.node (h78_6 P) .nil .nil) .nil) (.node (h62_4 P) .nil .nil)))))
noncomputable def z6 (w : World) (os : OsState) : SharedT := ⟨t6 w.params, 88, { }, #[], { }, 287, os⟩
noncomputable def h3_7 (P : Params) : Obj := { cls := Value.type "dict", data := Data.dict #[{ hash := PyData.keyHash P (Str.ofString "__name__"), key := Value.str (Str.ofString "__name__") 165, val := Value.str (Str.ofString "wholecut.problems") 303 }, { hash := PyData.keyHash P (Str.ofString "__doc__"), key := Value.str (Str.ofString "__doc__") 166, val := Value.none }, { hash := PyData.keyHash P (Str.ofString "__package__"), key := Value.str (Str.ofString "__package__") 167, val := Value.none }, { hash := PyData.keyHash P (Str.ofString "__loader__"), key := Value.str (Str.ofString "__loader__") 168, val := Value.builtin "__main__.__loader__#opaque" }, { hash := PyData.keyHash P (Str.ofString "__spec__"), key := Value.str (Str.ofString "__spec__") 169, val := Value.none }, { hash := PyData.keyHash P (Str.ofString "__annotations__"), key := Value.str (Str.ofString "__annotations__") 170, val := Value.ref 6 }, { hash := PyData.keyHash P (Str.ofString "__builtins__"), key := Value.str (Str.ofString "__builtins__") 171, val := Value.ref 4 }, { hash := PyData.keyHash P (Str.ofString "__file__"), key := Value.str (Str.ofString "__file__") 173, val := Value.str (Str.ofString "/claim/cut.py") 172 }, { hash := PyData.keyHash P (Str.ofString "__cached__"), key := Value.str (Str.ofString "__cached__") 174, val := Value.none }, { hash := PyData.keyHash P (Str.ofString "CutError"), key := Value.str (Str.ofString "CutError") 206, val := Value.ref 24 }, { hash := PyData.keyHash P (Str.ofString "BadProblem"), key := Value.str (Str.ofString "BadProblem") 222, val := Value.ref 37 }, { hash := PyData.keyHash P (Str.ofString "BadPoint"), key := Value.str (Str.ofString "BadPoint") 238, val := Value.ref 49 }, { hash := PyData.keyHash P (Str.ofString "BadBox"), key := Value.str (Str.ofString "BadBox") 254, val := Value.ref 61 }, { hash := PyData.keyHash P (Str.ofString "BadWeights"), key := Value.str (Str.ofString "BadWeights") 270, val := Value.ref 73 }, { hash := PyData.keyHash P (Str.ofString "NoTurn"), key := Value.str (Str.ofString "NoTurn") 286, val := Value.ref 85 }, { hash := PyData.keyHash P (Str.ofString "BadText"), key := Value.str (Str.ofString "BadText") 302, val := Value.ref 97 }, { hash := PyData.keyHash P (Str.ofString "MOST_UNKNOWNS"), key := Value.str (Str.ofString "MOST_UNKNOWNS") 306, val := Value.int 3 305 }, { hash := PyData.keyHash P (Str.ofString "MOST_TOP"), key := Value.str (Str.ofString "MOST_TOP") 308, val := Value.int 20 307 }, { hash := PyData.keyHash P (Str.ofString "MOST_ROWS"), key := Value.str (Str.ofString "MOST_ROWS") 310, val := Value.int 6 309 }, { hash := PyData.keyHash P (Str.ofString "MOST_NUMBER"), key := Value.str (Str.ofString "MOST_NUMBER") 312, val := Value.int 50 311 }, { hash := PyData.keyHash P (Str.ofString "MOST_BOUND"), key := Value.str (Str.ofString "MOST_BOUND") 314, val := Value.int 2000 313 }, { hash := PyData.keyHash P (Str.ofString "is_whole"), key := Value.str (Str.ofString "is_whole") 321, val := Value.ref 106 }, { hash := PyData.keyHash P (Str.ofString "is_within"), key := Value.str (Str.ofString "is_within") 329, val := Value.ref 113 }, { hash := PyData.keyHash P (Str.ofString "is_row"), key := Value.str (Str.ofString "is_row") 335, val := Value.ref 118 }] 24 }
noncomputable def h12_7 (P : Params) : Obj := { cls := Value.none, data := Data.fields #[Value.int 2 0, Value.int 0 0, Value.ref 20, Value.int 4 0, Value.int 0 0, Value.ref 33, Value.int 6 0, Value.int 0 0, Value.ref 45, Value.int 8 0, Value.int 0 0, Value.ref 57, Value.int 10 0, Value.int 0 0, Value.ref 69, Value.int 12 0, Value.int 0 0, Value.ref 81, Value.int 14 0, Value.int 0 0, Value.ref 93, Value.int 22 0, Value.int 0 0, Value.ref 105, Value.int 24 0, Value.int 0 0, Value.ref 112, Value.int 26 0, Value.int 0 0, Value.ref 117] }
noncomputable def h24_7 (P : Params) : Obj := { cls := Value.type "type", data := Data.cls { name := Str.ofString "CutError", bases := [Value.type "ValueError"], mro := [Value.ref 24, Value.type "ValueError", Value.type "Exception", Value.type "BaseException", Value.type "object"], ns := 23, qualname := Str.ofString "CutError", subclasses := [Value.ref 37, Value.ref 49, Value.ref 61, Value.ref 73, Value.ref 85, Value.ref 97] }, slots := #[Option.some (Value.ref 15), Option.none, Option.some (Value.str (Str.ofString "CutError") 189), Option.some (Value.str (Str.ofString "CutError") 197), Option.some (Value.builtin "ValueError.__new__"), Option.some (Value.bool Bool.true)] }
noncomputable def h88_7 (P : Params) : Obj := { cls := Value.type "tuple", data := Data.seq #[Value.ref 24] }
noncomputable def h89_7 (P : Params) : Obj := { cls := Value.type "builtin_function_or_method", data := Data.fields #[Value.builtin "type.__prepare__", Value.type "type"] }
noncomputable def h90_7 (P : Params) : Obj := { cls := Value.type "dict", data := Data.dict #[{ hash := PyData.keyHash P (Str.ofString "__module__"), key := Value.str (Str.ofString "__module__") 294, val := Value.str (Str.ofString "wholecut.errors") 187 }, { hash := PyData.keyHash P (Str.ofString "__qualname__"), key := Value.str (Str.ofString "__qualname__") 296, val := Value.str (Str.ofString "BadText") 295 }, { hash := PyData.keyHash P (Str.ofString "__firstlineno__"), key := Value.str (Str.ofString "__firstlineno__") 298, val := Value.int 14 297 }, { hash := PyData.keyHash P (Str.ofString "__static_attributes__"), key := Value.str (Str.ofString "__static_attributes__") 299, val := Value.ref 95 }] 4 }
noncomputable def h91_7 (P : Params) : Obj := { cls := Value.type "tuple", data := Data.seq #[] }
noncomputable def h92_7 (P : Params) : Obj := { cls := Value.none, data := Data.fields #[] }
noncomputable def h93_7 (P : Params) : Obj := { cls := Value.type "code", data := Data.fields #[Value.str (Str.ofString "BadText") 289, Value.str (Str.ofString "BadText") 290, Value.str (Str.ofString "/claim/cut.py") 291, Value.int 14 0, Value.int 0 0, Value.int 0 0, Value.int 0 0, Value.int 0 0, Value.ref 91, Value.bool Bool.false, Value.int 181 0, Value.ref 92, Value.none, Value.none, Value.none, Value.none, Value.int 292 0, Value.int 14 0, Value.str (Str.ofString "/claim/cut.py") 293] }
noncomputable def h94_7 (P : Params) : Obj := { cls := Value.type "frame", slots := #[Option.some (Value.ref 93), Option.some (Value.ref 3), Option.some (Value.ref 90), Option.none, Option.some (Value.str (Str.ofString "wholecut.errors") 187), Option.none, Option.some (Value.ref 0)] }
noncomputable def h95_7 (P : Params) : Obj := { cls := Value.type "tuple", data := Data.seq #[] }
noncomputable def h96_7 (P : Params) : Obj := { cls := Value.type "dict", data := Data.dict #[{ hash := PyData.keyHash P (Str.ofString "__module__"), key := Value.str (Str.ofString "__module__") 294, val := Value.str (Str.ofString "wholecut.errors") 187 }, { hash := PyData.keyHash P (Str.ofString "__firstlineno__"), key := Value.str (Str.ofString "__firstlineno__") 298, val := Value.int 14 297 }, { hash := PyData.keyHash P (Str.ofString "__static_attributes__"), key := Value.str (Str.ofString "__static_attributes__") 299, val := Value.ref 95 }, { hash := PyData.keyHash P (Str.ofString "__doc__"), key := Value.str (Str.ofString "__doc__") 300, val := Value.none }] 2 }
noncomputable def h97_7 (P : Params) : Obj := { cls := Value.type "type", data := Data.cls { name := Str.ofString "BadText", bases := [Value.ref 24], mro := [Value.ref 97, Value.ref 24, Value.type "ValueError", Value.type "Exception", Value.type "BaseException", Value.type "object"], ns := 96, qualname := Str.ofString "BadText" }, slots := #[Option.some (Value.ref 88), Option.none, Option.some (Value.str (Str.ofString "BadText") 287), Option.some (Value.str (Str.ofString "BadText") 295), Option.some (Value.builtin "ValueError.__new__"), Option.some (Value.bool Bool.true)] }
noncomputable def h98_7 (P : Params) : Obj := { cls := Value.type "super", data := Data.fields #[Value.ref 97, Value.ref 97, Value.ref 97] }
noncomputable def h99_7 (P : Params) : Obj := { cls := Value.type "builtin_function_or_method", data := Data.fields #[Value.builtin "object.__init_subclass__", Value.ref 97] }
noncomputable def h100_7 (P : Params) : Obj := { cls := Value.type "tuple", data := Data.seq #[] }
noncomputable def h101_7 (P : Params) : Obj := { cls := Value.none, data := Data.fields #[] }
noncomputable def h102_7 (P : Params) : Obj := { cls := Value.type "tuple", data := Data.seq #[Value.str (Str.ofString "thing") 318] }
noncomputable def h103_7 (P : Params) : Obj := { cls := Value.type "tuple", data := Data.seq #[] }
noncomputable def h104_7 (P : Params) : Obj := { cls := Value.none, data := Data.func { name := Str.ofString "is_whole", qualname := Str.ofString "is_whole", params := pP 14, body := FuncBody.stmts (bP 14), scope := sP 14, globals := 0, closure := [], defaults := Value.none, kwdefaults := Value.none } }
noncomputable def h105_7 (P : Params) : Obj := { cls := Value.type "code", data := Data.fields #[Value.str (Str.ofString "is_whole") 315, Value.str (Str.ofString "is_whole") 316, Value.str (Str.ofString "/claim/cut.py") 317, Value.int 22 0, Value.int 1 0, Value.int 0 0, Value.int 0 0, Value.int 3 0, Value.ref 100, Value.bool Bool.true, Value.int 181 0, Value.ref 101, Value.none, Value.ref 102, Value.ref 103, Value.ref 104, Value.int 319 0, Value.int 22 0, Value.str (Str.ofString "/claim/cut.py") 320] }
noncomputable def h106_7 (P : Params) : Obj := { cls := Value.type "function", data := Data.func { name := Str.ofString "is_whole", qualname := Str.ofString "is_whole", params := pP 14, body := FuncBody.stmts (bP 14), scope := sP 14, globals := 3, closure := [], defaults := Value.none, kwdefaults := Value.none, pyModule := Value.str (Str.ofString "wholecut.problems") 303, code := Value.ref 105 } }
noncomputable def h107_7 (P : Params) : Obj := { cls := Value.type "tuple", data := Data.seq #[] }
noncomputable def h108_7 (P : Params) : Obj := { cls := Value.none, data := Data.fields #[] }
noncomputable def h109_7 (P : Params) : Obj := { cls := Value.type "tuple", data := Data.seq #[Value.str (Str.ofString "thing") 325, Value.str (Str.ofString "most") 326] }
noncomputable def h110_7 (P : Params) : Obj := { cls := Value.type "tuple", data := Data.seq #[] }
noncomputable def h111_7 (P : Params) : Obj := { cls := Value.none, data := Data.func { name := Str.ofString "is_within", qualname := Str.ofString "is_within", params := pP 15, body := FuncBody.stmts (bP 15), scope := sP 15, globals := 0, closure := [], defaults := Value.none, kwdefaults := Value.none } }
noncomputable def h112_7 (P : Params) : Obj := { cls := Value.type "code", data := Data.fields #[Value.str (Str.ofString "is_within") 322, Value.str (Str.ofString "is_within") 323, Value.str (Str.ofString "/claim/cut.py") 324, Value.int 24 0, Value.int 2 0, Value.int 0 0, Value.int 0 0, Value.int 3 0, Value.ref 107, Value.bool Bool.true, Value.int 181 0, Value.ref 108, Value.none, Value.ref 109, Value.ref 110, Value.ref 111, Value.int 327 0, Value.int 24 0, Value.str (Str.ofString "/claim/cut.py") 328] }
noncomputable def h113_7 (P : Params) : Obj := { cls := Value.type "function", data := Data.func { name := Str.ofString "is_within", qualname := Str.ofString "is_within", params := pP 15, body := FuncBody.stmts (bP 15), scope := sP 15, globals := 3, closure := [], defaults := Value.none, kwdefaults := Value.none, pyModule := Value.str (Str.ofString "wholecut.problems") 303, code := Value.ref 112 } }
noncomputable def h114_7 (P : Params) : Obj := { cls := Value.type "tuple", data := Data.seq #[] }
noncomputable def h115_7 (P : Params) : Obj := { cls := Value.none, data := Data.fields #[] }
noncomputable def h116_7 (P : Params) : Obj := { cls := Value.none, data := Data.func { name := Str.ofString "is_row", qualname := Str.ofString "is_row", params := pP 16, body := FuncBody.stmts (bP 16), scope := sP 16, globals := 0, closure := [], defaults := Value.none, kwdefaults := Value.none } }
noncomputable def h117_7 (P : Params) : Obj := { cls := Value.type "code", data := Data.fields #[Value.str (Str.ofString "is_row") 330, Value.str (Str.ofString "is_row") 331, Value.str (Str.ofString "/claim/cut.py") 332, Value.int 26 0, Value.int 2 0, Value.int 0 0, Value.int 0 0, Value.int 3 0, Value.ref 114, Value.bool Bool.true, Value.int 181 0, Value.ref 115, Value.none, Value.none, Value.none, Value.ref 116, Value.int 333 0, Value.int 26 0, Value.str (Str.ofString "/claim/cut.py") 334] }
noncomputable def h118_7 (P : Params) : Obj := { cls := Value.type "function", data := Data.func { name := Str.ofString "is_row", qualname := Str.ofString "is_row", params := pP 16, body := FuncBody.stmts (bP 16), scope := sP 16, globals := 3, closure := [], defaults := Value.none, kwdefaults := Value.none, pyModule := Value.str (Str.ofString "wholecut.problems") 303, code := Value.ref 117 } }
noncomputable def t7 (P : Params) : BT := .node (boot_o_0 P) (.node (boot_o_1 P) (.node (h3_7 P) (.node (boot_o_7 P) (.node (h15_1 P) (.node (h31_2 P) (.node (h63_4 P) .nil .nil) (.node (h95_7 P) .nil .nil)) (.node (h47_3 P) (.node (h79_6 P) .nil .nil) (.node (h111_7 P) .nil .nil))) (.node (h23_1 P) (.node (h39_2 P) (.node (h71_5 P) .nil .nil) (.node (h103_7 P) .nil .nil)) (.node (h55_4 P) (.node (h87_6 P) .nil .nil) .nil))) (.node (h11_0 P) (.node (h19_1 P) (.node (h35_2 P) (.node (h67_5 P) .nil .nil) (.node (h99_7 P) .nil .nil)) (.node (h51_3 P) (.node (h83_6 P) .nil .nil) (.node (h115_7 P) .nil .nil))) (.node (h27_1 P) (.node (h43_3 P) (.node (h75_5 P) .nil .nil) (.node (h107_7 P) .nil .nil)) (.node (h59_4 P) (.node (h91_7 P) .nil .nil) .nil)))) (.node (boot_o_5 P) (.node (boot_o_9 P) (.node (h17_1 P) (.node (h33_2 P) (.node (h65_5 P) .nil .nil) (.node (h97_7 P) .nil .nil)) (.node (h49_3 P) (.node (h81_6 P) .nil .nil) (.node (h113_7 P) .nil .nil))) (.node (h25_1 P) (.node (h41_3 P) (.node (h73_5 P) .nil .nil) (.node (h105_7 P) .nil .nil)) (.node (h57_4 P) (.node (h89_7 P) .nil .nil) .nil))) (.node (h13_0 P) (.node (h21_1 P) (.node (h37_2 P) (.node (h69_5 P) .nil .nil) (.node (h101_7 P) .nil .nil)) (.node (h53_4 P) (.node (h85_6 P) .nil .nil) (.node (h117_7 P) .nil .nil))) (.node (h29_2 P) (.node (h45_3 P) (.node (h77_6 P) .nil .nil) (.node (h109_7 P) .nil .nil)) (.node (h61_4 P) (.node (h93_7 P) .nil .nil) .nil))))) (.node (boot_o_2 P) (.node (boot_o_4 P) (.node (boot_o_8 P) (.node (h16_1 P) (.node (h32_2 P) (.node (h64_5 P) .nil .nil) (.node (h96_7 P) .nil .nil)) (.node (h48_3 P) (.node (h80_6 P) .nil .nil) (.node (h112_7 P) .nil .nil))) (.node (h24_7 P) (.node (h40_3 P) (.node (h72_5 P) .nil .nil) (.node (h104_7 P) .nil .nil)) (.node (h56_4 P) (.node (h88_7 P) .nil .nil) .nil))) (.node (h12_7 P) (.node (h20_1 P) (.node (h36_2 P) (.node (h68_5 P) .nil .nil) (.node (h100_7 P) .nil .nil)) (.node (h52_4 P) (.node (h84_6 P) .nil .nil) (.node (h116_7 P) .nil .nil))) (.node (h28_2 P) (.node (h44_3 P) (.node (h76_6 P) .nil .nil) (.node (h108_7 P) .nil .nil)) (.node (h60_4 P) (.node (h92_7 P) .nil .nil) .nil)))) (.node (boot_o_6 P) (.node (boot_o_10 P) (.node (h18_1 P) (.node (h34_2 P) (.node (h66_5 P) .nil .nil) (.node (h98_7 P) .nil .nil)) (.node (h50_3 P) (.node (h82_6 P) .nil .nil) (.node (h114_7 P) .nil .nil))) (.node (h26_1 P) (.node (h42_3 P) (.node (h74_5 P) .nil .nil) (.node (h106_7 P) .nil .nil)) (.node (h58_4 P) (.node (h90_7 P) .nil .nil) .nil))) (.node (h14_0 P) (.node (h22_1 P) (.node (h38_2 P) (.node (h70_5 P) .nil .nil) (.node (h102_7 P) .nil .nil)) (.node (h54_4 P) (.node (h86_6 P) .nil .nil) (.node (h118_7 P) .nil .nil))) (.node (h30_2 P) (.node (h46_3 P) (.node (h78_6 P) .nil .nil) (.node (h110_7 P) .nil .nil)) (.node (h62_4 P) (.node (h94_7 P) .nil .nil) .nil)))))
noncomputable def z7 (w : World) (os : OsState) : SharedT := ⟨t7 w.params, 119, { }, #[], { }, 336, os⟩
noncomputable def h3_8 (P : Params) : Obj := { cls := Value.type "dict", data := Data.dict #[{ hash := PyData.keyHash P (Str.ofString "__name__"), key := Value.str (Str.ofString "__name__") 165, val := Value.str (Str.ofString "law_uf020023_01") 365 }, { hash := PyData.keyHash P (Str.ofString "__doc__"), key := Value.str (Str.ofString "__doc__") 166, val := Value.none }, { hash := PyData.keyHash P (Str.ofString "__package__"), key := Value.str (Str.ofString "__package__") 167, val := Value.none }, { hash := PyData.keyHash P (Str.ofString "__loader__"), key := Value.str (Str.ofString "__loader__") 168, val := Value.builtin "__main__.__loader__#opaque" }, { hash := PyData.keyHash P (Str.ofString "__spec__"), key := Value.str (Str.ofString "__spec__") 169, val := Value.none }, { hash := PyData.keyHash P (Str.ofString "__annotations__"), key := Value.str (Str.ofString "__annotations__") 170, val := Value.ref 6 }, { hash := PyData.keyHash P (Str.ofString "__builtins__"), key := Value.str (Str.ofString "__builtins__") 171, val := Value.ref 4 }, { hash := PyData.keyHash P (Str.ofString "__file__"), key := Value.str (Str.ofString "__file__") 173, val := Value.str (Str.ofString "/claim/cut.py") 172 }, { hash := PyData.keyHash P (Str.ofString "__cached__"), key := Value.str (Str.ofString "__cached__") 174, val := Value.none }, { hash := PyData.keyHash P (Str.ofString "CutError"), key := Value.str (Str.ofString "CutError") 206, val := Value.ref 24 }, { hash := PyData.keyHash P (Str.ofString "BadProblem"), key := Value.str (Str.ofString "BadProblem") 222, val := Value.ref 37 }, { hash := PyData.keyHash P (Str.ofString "BadPoint"), key := Value.str (Str.ofString "BadPoint") 238, val := Value.ref 49 }, { hash := PyData.keyHash P (Str.ofString "BadBox"), key := Value.str (Str.ofString "BadBox") 254, val := Value.ref 61 }, { hash := PyData.keyHash P (Str.ofString "BadWeights"), key := Value.str (Str.ofString "BadWeights") 270, val := Value.ref 73 }, { hash := PyData.keyHash P (Str.ofString "NoTurn"), key := Value.str (Str.ofString "NoTurn") 286, val := Value.ref 85 }, { hash := PyData.keyHash P (Str.ofString "BadText"), key := Value.str (Str.ofString "BadText") 302, val := Value.ref 97 }, { hash := PyData.keyHash P (Str.ofString "MOST_UNKNOWNS"), key := Value.str (Str.ofString "MOST_UNKNOWNS") 306, val := Value.int 3 305 }, { hash := PyData.keyHash P (Str.ofString "MOST_TOP"), key := Value.str (Str.ofString "MOST_TOP") 308, val := Value.int 20 307 }, { hash := PyData.keyHash P (Str.ofString "MOST_ROWS"), key := Value.str (Str.ofString "MOST_ROWS") 310, val := Value.int 6 309 }, { hash := PyData.keyHash P (Str.ofString "MOST_NUMBER"), key := Value.str (Str.ofString "MOST_NUMBER") 312, val := Value.int 50 311 }, { hash := PyData.keyHash P (Str.ofString "MOST_BOUND"), key := Value.str (Str.ofString "MOST_BOUND") 314, val := Value.int 2000 313 }, { hash := PyData.keyHash P (Str.ofString "is_whole"), key := Value.str (Str.ofString "is_whole") 321, val := Value.ref 106 }, { hash := PyData.keyHash P (Str.ofString "is_within"), key := Value.str (Str.ofString "is_within") 329, val := Value.ref 113 }, { hash := PyData.keyHash P (Str.ofString "is_row"), key := Value.str (Str.ofString "is_row") 335, val := Value.ref 118 }, { hash := PyData.keyHash P (Str.ofString "Problem"), key := Value.str (Str.ofString "Problem") 364, val := Value.ref 133 }, { hash := PyData.keyHash P (Str.ofString "_law_cell_at"), key := Value.str (Str.ofString "_law_cell_at") 375, val := Value.ref 144 }, { hash := PyData.keyHash P (Str.ofString "_law_whole"), key := Value.str (Str.ofString "_law_whole") 382, val := Value.ref 151 }, { hash := PyData.keyHash P (Str.ofString "_law_number"), key := Value.str (Str.ofString "_law_number") 390, val := Value.ref 158 }, { hash := PyData.keyHash P (Str.ofString "_law_bound"), key := Value.str (Str.ofString "_law_bound") 398, val := Value.ref 165 }, { hash := PyData.keyHash P (Str.ofString "_law_tops"), key := Value.str (Str.ofString "_law_tops") 404, val := Value.ref 170 }] 30 }
noncomputable def h12_8 (P : Params) : Obj := { cls := Value.none, data := Data.fields #[Value.int 2 0, Value.int 0 0, Value.ref 20, Value.int 4 0, Value.int 0 0, Value.ref 33, Value.int 6 0, Value.int 0 0, Value.ref 45, Value.int 8 0, Value.int 0 0, Value.ref 57, Value.int 10 0, Value.int 0 0, Value.ref 69, Value.int 12 0, Value.int 0 0, Value.ref 81, Value.int 14 0, Value.int 0 0, Value.ref 93, Value.int 22 0, Value.int 0 0, Value.ref 105, Value.int 24 0, Value.int 0 0, Value.ref 112, Value.int 26 0, Value.int 0 0, Value.ref 117, Value.int 32 0, Value.int 0 0, Value.ref 124, Value.int 49 0, Value.int 0 0, Value.ref 143, Value.int 54 0, Value.int 0 0, Value.ref 150, Value.int 56 0, Value.int 0 0, Value.ref 157, Value.int 64 0, Value.int 0 0, Value.ref 164, Value.int 72 0, Value.int 0 0, Value.ref 169] }
noncomputable def h119_8 (P : Params) : Obj := { cls := Value.type "tuple", data := Data.seq #[] }
noncomputable def h120_8 (P : Params) : Obj := { cls := Value.type "builtin_function_or_method", data := Data.fields #[Value.builtin "type.__prepare__", Value.type "type"] }
noncomputable def h121_8 (P : Params) : Obj := { cls := Value.type "dict", data := Data.dict #[{ hash := PyData.keyHash P (Str.ofString "__module__"), key := Value.str (Str.ofString "__module__") 343, val := Value.str (Str.ofString "wholecut.problems") 303 }, { hash := PyData.keyHash P (Str.ofString "__qualname__"), key := Value.str (Str.ofString "__qualname__") 345, val := Value.str (Str.ofString "Problem") 344 }, { hash := PyData.keyHash P (Str.ofString "__firstlineno__"), key := Value.str (Str.ofString "__firstlineno__") 347, val := Value.int 32 346 }, { hash := PyData.keyHash P (Str.ofString "__init__"), key := Value.str (Str.ofString "__init__") 353, val := Value.ref 130 }, { hash := PyData.keyHash P (Str.ofString "__static_attributes__"), key := Value.str (Str.ofString "__static_attributes__") 357, val := Value.ref 131 }] 5 }
noncomputable def h122_8 (P : Params) : Obj := { cls := Value.type "tuple", data := Data.seq #[] }
noncomputable def h123_8 (P : Params) : Obj := { cls := Value.none, data := Data.fields #[Value.int 34 0, Value.int 4 0, Value.ref 129] }
noncomputable def h124_8 (P : Params) : Obj := { cls := Value.type "code", data := Data.fields #[Value.str (Str.ofString "Problem") 338, Value.str (Str.ofString "Problem") 339, Value.str (Str.ofString "/claim/cut.py") 340, Value.int 32 0, Value.int 0 0, Value.int 0 0, Value.int 0 0, Value.int 0 0, Value.ref 122, Value.bool Bool.false, Value.int 181 0, Value.ref 123, Value.none, Value.none, Value.none, Value.none, Value.int 341 0, Value.int 32 0, Value.str (Str.ofString "/claim/cut.py") 342] }
noncomputable def h125_8 (P : Params) : Obj := { cls := Value.type "frame", slots := #[Option.some (Value.ref 124), Option.some (Value.ref 3), Option.some (Value.ref 121), Option.none, Option.some (Value.str (Str.ofString "wholecut.problems") 303), Option.none, Option.some (Value.ref 0)] }
noncomputable def h126_8 (P : Params) : Obj := { cls := Value.type "tuple", data := Data.seq #[] }
noncomputable def h127_8 (P : Params) : Obj := { cls := Value.none, data := Data.fields #[] }
noncomputable def h128_8 (P : Params) : Obj := { cls := Value.none, data := Data.func { name := Str.ofString "__init__", qualname := Str.ofString "Problem.__init__", params := pP 17, body := FuncBody.stmts (bP 17), scope := sP 17, globals := 0, closure := [], defaults := Value.none, kwdefaults := Value.none } }
noncomputable def h129_8 (P : Params) : Obj := { cls := Value.type "code", data := Data.fields #[Value.str (Str.ofString "__init__") 348, Value.str (Str.ofString "Problem.__init__") 349, Value.str (Str.ofString "/claim/cut.py") 350, Value.int 34 0, Value.int 4 0, Value.int 0 0, Value.int 0 0, Value.int 3 0, Value.ref 126, Value.bool Bool.true, Value.int 181 0, Value.ref 127, Value.none, Value.none, Value.none, Value.ref 128, Value.int 351 0, Value.int 34 0, Value.str (Str.ofString "/claim/cut.py") 352] }
noncomputable def h130_8 (P : Params) : Obj := { cls := Value.type "function", data := Data.func { name := Str.ofString "__init__", qualname := Str.ofString "Problem.__init__", params := pP 17, body := FuncBody.stmts (bP 17), scope := sP 17, globals := 3, closure := [], defaults := Value.none, kwdefaults := Value.none, pyModule := Value.str (Str.ofString "wholecut.problems") 303, code := Value.ref 129 } }
noncomputable def h131_8 (P : Params) : Obj := { cls := Value.type "tuple", data := Data.seq #[Value.str (Str.ofString "gain") 354, Value.str (Str.ofString "rows") 355, Value.str (Str.ofString "tops") 356] }
noncomputable def h132_8 (P : Params) : Obj := { cls := Value.type "dict", data := Data.dict #[{ hash := PyData.keyHash P (Str.ofString "__module__"), key := Value.str (Str.ofString "__module__") 343, val := Value.str (Str.ofString "wholecut.problems") 303 }, { hash := PyData.keyHash P (Str.ofString "__firstlineno__"), key := Value.str (Str.ofString "__firstlineno__") 347, val := Value.int 32 346 }, { hash := PyData.keyHash P (Str.ofString "__init__"), key := Value.str (Str.ofString "__init__") 353, val := Value.ref 130 }, { hash := PyData.keyHash P (Str.ofString "__static_attributes__"), key := Value.str (Str.ofString "__static_attributes__") 357, val := Value.ref 131 }, { hash := PyData.keyHash P (Str.ofString "__dict__"), key := Value.str (Str.ofString "__dict__") 359, val := Value.ref 134 }, { hash := PyData.keyHash P (Str.ofString "__weakref__"), key := Value.str (Str.ofString "__weakref__") 361, val := Value.ref 135 }, { hash := PyData.keyHash P (Str.ofString "__doc__"), key := Value.str (Str.ofString "__doc__") 362, val := Value.none }] 4 }
noncomputable def h133_8 (P : Params) : Obj := { cls := Value.type "type", data := Data.cls { name := Str.ofString "Problem", bases := [Value.type "object"], mro := [Value.ref 133, Value.type "object"], ns := 132, qualname := Str.ofString "Problem" }, slots := #[Option.none, Option.none, Option.some (Value.str (Str.ofString "Problem") 336), Option.some (Value.str (Str.ofString "Problem") 344), Option.some (Value.builtin "object.__new__"), Option.some (Value.bool Bool.true)] }
noncomputable def h134_8 (P : Params) : Obj := { cls := Value.type "getset_descriptor", data := Data.fields #[Value.str (Str.ofString "__dict__") 358, Value.ref 133, Value.builtin "function.__dict__", Value.builtin "function.__dict__#set"] }
noncomputable def h135_8 (P : Params) : Obj := { cls := Value.type "getset_descriptor", data := Data.fields #[Value.str (Str.ofString "__weakref__") 360, Value.ref 133, Value.builtin "ExceptionGroup.__weakref__", Value.none] }
noncomputable def h136_8 (P : Params) : Obj := { cls := Value.type "super", data := Data.fields #[Value.ref 133, Value.ref 133, Value.ref 133] }
noncomputable def h137_8 (P : Params) : Obj := { cls := Value.type "builtin_function_or_method", data := Data.fields #[Value.builtin "object.__init_subclass__", Value.ref 133] }
noncomputable def h138_8 (P : Params) : Obj := { cls := Value.type "tuple", data := Data.seq #[] }
noncomputable def h139_8 (P : Params) : Obj := { cls := Value.none, data := Data.fields #[] }
noncomputable def h140_8 (P : Params) : Obj := { cls := Value.type "tuple", data := Data.seq #[Value.str (Str.ofString "_law_script") 370, Value.str (Str.ofString "_law_k") 371, Value.str (Str.ofString "_law_cell") 372] }
noncomputable def h141_8 (P : Params) : Obj := { cls := Value.type "tuple", data := Data.seq #[] }
noncomputable def h142_8 (P : Params) : Obj := { cls := Value.none, data := Data.func { name := Str.ofString "_law_cell_at", qualname := Str.ofString "_law_cell_at", params := pP 19, body := FuncBody.stmts (bP 19), scope := sP 19, globals := 0, closure := [], defaults := Value.none, kwdefaults := Value.none } }
noncomputable def h143_8 (P : Params) : Obj := { cls := Value.type "code", data := Data.fields #[Value.str (Str.ofString "_law_cell_at") 367, Value.str (Str.ofString "_law_cell_at") 368, Value.str (Str.ofString "/claim/cut.py") 369, Value.int 49 0, Value.int 2 0, Value.int 0 0, Value.int 0 0, Value.int 3 0, Value.ref 138, Value.bool Bool.true, Value.int 181 0, Value.ref 139, Value.none, Value.ref 140, Value.ref 141, Value.ref 142, Value.int 373 0, Value.int 49 0, Value.str (Str.ofString "/claim/cut.py") 374] }
noncomputable def h144_8 (P : Params) : Obj := { cls := Value.type "function", data := Data.func { name := Str.ofString "_law_cell_at", qualname := Str.ofString "_law_cell_at", params := pP 19, body := FuncBody.stmts (bP 19), scope := sP 19, globals := 3, closure := [], defaults := Value.none, kwdefaults := Value.none, pyModule := Value.str (Str.ofString "law_uf020023_01") 365, code := Value.ref 143 } }
noncomputable def h145_8 (P : Params) : Obj := { cls := Value.type "tuple", data := Data.seq #[] }
noncomputable def h146_8 (P : Params) : Obj := { cls := Value.none, data := Data.fields #[] }
noncomputable def h147_8 (P : Params) : Obj := { cls := Value.type "tuple", data := Data.seq #[Value.str (Str.ofString "_law_found") 379] }
noncomputable def h148_8 (P : Params) : Obj := { cls := Value.type "tuple", data := Data.seq #[] }
noncomputable def h149_8 (P : Params) : Obj := { cls := Value.none, data := Data.func { name := Str.ofString "_law_whole", qualname := Str.ofString "_law_whole", params := pP 20, body := FuncBody.stmts (bP 20), scope := sP 20, globals := 0, closure := [], defaults := Value.none, kwdefaults := Value.none } }
noncomputable def h150_8 (P : Params) : Obj := { cls := Value.type "code", data := Data.fields #[Value.str (Str.ofString "_law_whole") 376, Value.str (Str.ofString "_law_whole") 377, Value.str (Str.ofString "/claim/cut.py") 378, Value.int 54 0, Value.int 1 0, Value.int 0 0, Value.int 0 0, Value.int 3 0, Value.ref 145, Value.bool Bool.true, Value.int 181 0, Value.ref 146, Value.none, Value.ref 147, Value.ref 148, Value.ref 149, Value.int 380 0, Value.int 54 0, Value.str (Str.ofString "/claim/cut.py") 381] }
noncomputable def h151_8 (P : Params) : Obj := { cls := Value.type "function", data := Data.func { name := Str.ofString "_law_whole", qualname := Str.ofString "_law_whole", params := pP 20, body := FuncBody.stmts (bP 20), scope := sP 20, globals := 3, closure := [], defaults := Value.none, kwdefaults := Value.none, pyModule := Value.str (Str.ofString "law_uf020023_01") 365, code := Value.ref 150 } }
noncomputable def h152_8 (P : Params) : Obj := { cls := Value.type "tuple", data := Data.seq #[] }
noncomputable def h153_8 (P : Params) : Obj := { cls := Value.none, data := Data.fields #[] }
noncomputable def h154_8 (P : Params) : Obj := { cls := Value.type "tuple", data := Data.seq #[Value.str (Str.ofString "_law_cell") 386, Value.str (Str.ofString "_law_kind_here") 387] }
noncomputable def h155_8 (P : Params) : Obj := { cls := Value.type "tuple", data := Data.seq #[] }
noncomputable def h156_8 (P : Params) : Obj := { cls := Value.none, data := Data.func { name := Str.ofString "_law_number", qualname := Str.ofString "_law_number", params := pP 21, body := FuncBody.stmts (bP 21), scope := sP 21, globals := 0, closure := [], defaults := Value.none, kwdefaults := Value.none } }
noncomputable def h157_8 (P : Params) : Obj := { cls := Value.type "code", data := Data.fields #[Value.str (Str.ofString "_law_number") 383, Value.str (Str.ofString "_law_number") 384, Value.str (Str.ofString "/claim/cut.py") 385, Value.int 56 0, Value.int 2 0, Value.int 0 0, Value.int 0 0, Value.int 3 0, Value.ref 152, Value.bool Bool.true, Value.int 181 0, Value.ref 153, Value.none, Value.ref 154, Value.ref 155, Value.ref 156, Value.int 388 0, Value.int 56 0, Value.str (Str.ofString "/claim/cut.py") 389] }
noncomputable def h158_8 (P : Params) : Obj := { cls := Value.type "function", data := Data.func { name := Str.ofString "_law_number", qualname := Str.ofString "_law_number", params := pP 21, body := FuncBody.stmts (bP 21), scope := sP 21, globals := 3, closure := [], defaults := Value.none, kwdefaults := Value.none, pyModule := Value.str (Str.ofString "law_uf020023_01") 365, code := Value.ref 157 } }
noncomputable def h159_8 (P : Params) : Obj := { cls := Value.type "tuple", data := Data.seq #[] }
noncomputable def h160_8 (P : Params) : Obj := { cls := Value.none, data := Data.fields #[] }
noncomputable def h161_8 (P : Params) : Obj := { cls := Value.type "tuple", data := Data.seq #[Value.str (Str.ofString "_law_cell") 394, Value.str (Str.ofString "_law_kind_here") 395] }
noncomputable def h162_8 (P : Params) : Obj := { cls := Value.type "tuple", data := Data.seq #[] }
noncomputable def h163_8 (P : Params) : Obj := { cls := Value.none, data := Data.func { name := Str.ofString "_law_bound", qualname := Str.ofString "_law_bound", params := pP 22, body := FuncBody.stmts (bP 22), scope := sP 22, globals := 0, closure := [], defaults := Value.none, kwdefaults := Value.none } }
noncomputable def h164_8 (P : Params) : Obj := { cls := Value.type "code", data := Data.fields #[Value.str (Str.ofString "_law_bound") 391, Value.str (Str.ofString "_law_bound") 392, Value.str (Str.ofString "/claim/cut.py") 393, Value.int 64 0, Value.int 2 0, Value.int 0 0, Value.int 0 0, Value.int 3 0, Value.ref 159, Value.bool Bool.true, Value.int 181 0, Value.ref 160, Value.none, Value.ref 161, Value.ref 162, Value.ref 163, Value.int 396 0, Value.int 64 0, Value.str (Str.ofString "/claim/cut.py") 397] }
noncomputable def h165_8 (P : Params) : Obj := { cls := Value.type "function", data := Data.func { name := Str.ofString "_law_bound", qualname := Str.ofString "_law_bound", params := pP 22, body := FuncBody.stmts (bP 22), scope := sP 22, globals := 3, closure := [], defaults := Value.none, kwdefaults := Value.none, pyModule := Value.str (Str.ofString "law_uf020023_01") 365, code := Value.ref 164 } }
noncomputable def h166_8 (P : Params) : Obj := { cls := Value.type "tuple", data := Data.seq #[] }
noncomputable def h167_8 (P : Params) : Obj := { cls := Value.none, data := Data.fields #[] }
noncomputable def h168_8 (P : Params) : Obj := { cls := Value.none, data := Data.func { name := Str.ofString "_law_tops", qualname := Str.ofString "_law_tops", params := pP 23, body := FuncBody.stmts (bP 23), scope := sP 23, globals := 0, closure := [], defaults := Value.none, kwdefaults := Value.none } }
noncomputable def h169_8 (P : Params) : Obj := { cls := Value.type "code", data := Data.fields #[Value.str (Str.ofString "_law_tops") 399, Value.str (Str.ofString "_law_tops") 400, Value.str (Str.ofString "/claim/cut.py") 401, Value.int 72 0, Value.int 1 0, Value.int 0 0, Value.int 0 0, Value.int 3 0, Value.ref 166, Value.bool Bool.true, Value.int 181 0, Value.ref 167, Value.none, Value.none, Value.none, Value.ref 168, Value.int 402 0, Value.int 72 0, Value.str (Str.ofString "/claim/cut.py") 403] }
noncomputable def h170_8 (P : Params) : Obj := { cls := Value.type "function", data := Data.func { name := Str.ofString "_law_tops", qualname := Str.ofString "_law_tops", params := pP 23, body := FuncBody.stmts (bP 23), scope := sP 23, globals := 3, closure := [], defaults := Value.none, kwdefaults := Value.none, pyModule := Value.str (Str.ofString "law_uf020023_01") 365, code := Value.ref 169 } }
noncomputable def t8 (P : Params) : BT := .node (boot_o_0 P) (.node (boot_o_1 P) (.node (h3_8 P) (.node (boot_o_7 P) (.node (h15_1 P) (.node (h31_2 P) (.node (h63_4 P) (.node (h127_8 P) .nil .nil) .nil) (.node (h95_7 P) (.node (h159_8 P) .nil .nil) .nil)) (.node (h47_3 P) (.node (h79_6 P) (.node (h143_8 P) .nil .nil) .nil) (.node (h111_7 P) .nil .nil))) (.node (h23_1 P) (.node (h39_2 P) (.node (h71_5 P) (.node (h135_8 P) .nil .nil) .nil) (.node (h103_7 P) (.node (h167_8 P) .nil .nil) .nil)) (.node (h55_4 P) (.node (h87_6 P) (.node (h151_8 P) .nil .nil) .nil) (.node (h119_8 P) .nil .nil)))) (.node (h11_0 P) (.node (h19_1 P) (.node (h35_2 P) (.node (h67_5 P) (.node (h131_8 P) .nil .nil) .nil) (.node (h99_7 P) (.node (h163_8 P) .nil .nil) .nil)) (.node (h51_3 P) (.node (h83_6 P) (.node (h147_8 P) .nil .nil) .nil) (.node (h115_7 P) .nil .nil))) (.node (h27_1 P) (.node (h43_3 P) (.node (h75_5 P) (.node (h139_8 P) .nil .nil) .nil) (.node (h107_7 P) .nil .nil)) (.node (h59_4 P) (.node (h91_7 P) (.node (h155_8 P) .nil .nil) .nil) (.node (h123_8 P) .nil .nil))))) (.node (boot_o_5 P) (.node (boot_o_9 P) (.node (h17_1 P) (.node (h33_2 P) (.node (h65_5 P) (.node (h129_8 P) .nil .nil) .nil) (.node (h97_7 P) (.node (h161_8 P) .nil .nil) .nil)) (.node (h49_3 P) (.node (h81_6 P) (.node (h145_8 P) .nil .nil) .nil) (.node (h113_7 P) .nil .nil))) (.node (h25_1 P) (.node (h41_3 P) (.node (h73_5 P) (.node (h137_8 P) .nil .nil) .nil) (.node (h105_7 P) (.node (h169_8 P) .nil .nil) .nil)) (.node (h57_4 P) (.node (h89_7 P) (.node (h153_8 P) .nil .nil) .nil) (.node (h121_8 P) .nil .nil)))) (.node (h13_0 P) (.node (h21_1 P) (.node (h37_2 P) (.node (h69_5 P) (.node (h133_8 P) .nil .nil) .nil) (.node (h101_7 P) (.node (h165_8 P) .nil .nil) .nil)) (.node (h53_4 P) (.node (h85_6 P) (.node (h149_8 P) .nil .nil) .nil) (.node (h117_7 P) .nil .nil))) (.node (h29_2 P) (.node (h45_3 P) (.node (h77_6 P) (.node (h141_8 P) .nil .nil) .nil) (.node (h109_7 P) .nil .nil)) (.node (h61_4 P) (.node (h93_7 P) (.node (h157_8 P) .nil .nil) .nil) (.node (h125_8 P) .nil .nil)))))) (.node (boot_o_2 P) (.node (boot_o_4 P) (.node (boot_o_8 P) (.node (h16_1 P) (.node (h32_2 P) (.node (h64_5 P) (.node (h128_8 P) .nil .nil) .nil) (.node (h96_7 P) (.node (h160_8 P) .nil .nil) .nil)) (.node (h48_3 P) (.node (h80_6 P) (.node (h144_8 P) .nil .nil) .nil) (.node (h112_7 P) .nil .nil))) (.node (h24_7 P) (.node (h40_3 P) (.node (h72_5 P) (.node (h136_8 P) .nil .nil) .nil) (.node (h104_7 P) (.node (h168_8 P) .nil .nil) .nil)) (.node (h56_4 P) (.node (h88_7 P) (.node (h152_8 P) .nil .nil) .nil) (.node (h120_8 P) .nil .nil)))) (.node (h12_8 P) (.node (h20_1 P) (.node (h36_2 P) (.node (h68_5 P) (.node (h132_8 P) .nil .nil) .nil) (.node (h100_7 P) (.node (h164_8 P) .nil .nil) .nil)) (.node (h52_4 P) (.node (h84_6 P) (.node (h148_8 P) .nil .nil) .nil) (.node (h116_7 P) .nil .nil))) (.node (h28_2 P) (.node (h44_3 P) (.node (h76_6 P) (.node (h140_8 P) .nil .nil) .nil) (.node (h108_7 P) .nil .nil)) (.node (h60_4 P) (.node (h92_7 P) (.node (h156_8 P) .nil .nil) .nil) (.node (h124_8 P) .nil .nil))))) (.node (boot_o_6 P) (.node (boot_o_10 P) (.node (h18_1 P) (.node (h34_2 P) (.node (h66_5 P) (.node (h130_8 P) .nil .nil) .nil) (.node (h98_7 P) (.node (h162_8 P) .nil .nil) .nil)) (.node (h50_3 P) (.node (h82_6 P) (.node (h146_8 P) .nil .nil) .nil) (.node (h114_7 P) .nil .nil))) (.node (h26_1 P) (.node (h42_3 P) (.node (h74_5 P) (.node (h138_8 P) .nil .nil) .nil) (.node (h106_7 P) (.node (h170_8 P) .nil .nil) .nil)) (.node (h58_4 P) (.node (h90_7 P) (.node (h154_8 P) .nil .nil) .nil) (.node (h122_8 P) .nil .nil)))) (.node (h14_0 P) (.node (h22_1 P) (.node (h38_2 P) (.node (h70_5 P) (.node (h134_8 P) .nil .nil) .nil) (.node (h102_7 P) (.node (h166_8 P) .nil .nil) .nil)) (.node (h54_4 P) (.node (h86_6 P) (.node (h150_8 P) .nil .nil) .nil) (.node (h118_7 P) .nil .nil))) (.node (h30_2 P) (.node (h46_3 P) (.node (h78_6 P) (.node (h142_8 P) .nil .nil) .nil) (.node (h110_7 P) .nil .nil)) (.node (h62_4 P) (.node (h94_7 P) (.node (h158_8 P) .nil .nil) .nil) (.node (h126_8 P) .nil .nil))))))
noncomputable def z8 (w : World) (os : OsState) : SharedT := ⟨t8 w.params, 171, { }, #[], { }, 405, os⟩
noncomputable def h3_9 (P : Params) : Obj := { cls := Value.type "dict", data := Data.dict #[{ hash := PyData.keyHash P (Str.ofString "__name__"), key := Value.str (Str.ofString "__name__") 165, val := Value.str (Str.ofString "law_uf020023_01") 365 }, { hash := PyData.keyHash P (Str.ofString "__doc__"), key := Value.str (Str.ofString "__doc__") 166, val := Value.none }, { hash := PyData.keyHash P (Str.ofString "__package__"), key := Value.str (Str.ofString "__package__") 167, val := Value.none }, { hash := PyData.keyHash P (Str.ofString "__loader__"), key := Value.str (Str.ofString "__loader__") 168, val := Value.builtin "__main__.__loader__#opaque" }, { hash := PyData.keyHash P (Str.ofString "__spec__"), key := Value.str (Str.ofString "__spec__") 169, val := Value.none }, { hash := PyData.keyHash P (Str.ofString "__annotations__"), key := Value.str (Str.ofString "__annotations__") 170, val := Value.ref 6 }, { hash := PyData.keyHash P (Str.ofString "__builtins__"), key := Value.str (Str.ofString "__builtins__") 171, val := Value.ref 4 }, { hash := PyData.keyHash P (Str.ofString "__file__"), key := Value.str (Str.ofString "__file__") 173, val := Value.str (Str.ofString "/claim/cut.py") 172 }, { hash := PyData.keyHash P (Str.ofString "__cached__"), key := Value.str (Str.ofString "__cached__") 174, val := Value.none }, { hash := PyData.keyHash P (Str.ofString "CutError"), key := Value.str (Str.ofString "CutError") 206, val := Value.ref 24 }, { hash := PyData.keyHash P (Str.ofString "BadProblem"), key := Value.str (Str.ofString "BadProblem") 222, val := Value.ref 37 }, { hash := PyData.keyHash P (Str.ofString "BadPoint"), key := Value.str (Str.ofString "BadPoint") 238, val := Value.ref 49 }, { hash := PyData.keyHash P (Str.ofString "BadBox"), key := Value.str (Str.ofString "BadBox") 254, val := Value.ref 61 }, { hash := PyData.keyHash P (Str.ofString "BadWeights"), key := Value.str (Str.ofString "BadWeights") 270, val := Value.ref 73 }, { hash := PyData.keyHash P (Str.ofString "NoTurn"), key := Value.str (Str.ofString "NoTurn") 286, val := Value.ref 85 }, { hash := PyData.keyHash P (Str.ofString "BadText"), key := Value.str (Str.ofString "BadText") 302, val := Value.ref 97 }, { hash := PyData.keyHash P (Str.ofString "MOST_UNKNOWNS"), key := Value.str (Str.ofString "MOST_UNKNOWNS") 306, val := Value.int 3 305 }, { hash := PyData.keyHash P (Str.ofString "MOST_TOP"), key := Value.str (Str.ofString "MOST_TOP") 308, val := Value.int 20 307 }, { hash := PyData.keyHash P (Str.ofString "MOST_ROWS"), key := Value.str (Str.ofString "MOST_ROWS") 310, val := Value.int 6 309 }, { hash := PyData.keyHash P (Str.ofString "MOST_NUMBER"), key := Value.str (Str.ofString "MOST_NUMBER") 312, val := Value.int 50 311 }, { hash := PyData.keyHash P (Str.ofString "MOST_BOUND"), key := Value.str (Str.ofString "MOST_BOUND") 314, val := Value.int 2000 313 }, { hash := PyData.keyHash P (Str.ofString "is_whole"), key := Value.str (Str.ofString "is_whole") 321, val := Value.ref 106 }, { hash := PyData.keyHash P (Str.ofString "is_within"), key := Value.str (Str.ofString "is_within") 329, val := Value.ref 113 }, { hash := PyData.keyHash P (Str.ofString "is_row"), key := Value.str (Str.ofString "is_row") 335, val := Value.ref 118 }, { hash := PyData.keyHash P (Str.ofString "Problem"), key := Value.str (Str.ofString "Problem") 364, val := Value.ref 133 }, { hash := PyData.keyHash P (Str.ofString "_law_cell_at"), key := Value.str (Str.ofString "_law_cell_at") 375, val := Value.ref 144 }, { hash := PyData.keyHash P (Str.ofString "_law_whole"), key := Value.str (Str.ofString "_law_whole") 382, val := Value.ref 151 }, { hash := PyData.keyHash P (Str.ofString "_law_number"), key := Value.str (Str.ofString "_law_number") 390, val := Value.ref 158 }, { hash := PyData.keyHash P (Str.ofString "_law_bound"), key := Value.str (Str.ofString "_law_bound") 398, val := Value.ref 165 }, { hash := PyData.keyHash P (Str.ofString "_law_tops"), key := Value.str (Str.ofString "_law_tops") 404, val := Value.ref 170 }, { hash := PyData.keyHash P (Str.ofString "_law_kind"), key := Value.str (Str.ofString "_law_kind") 411, val := Value.ref 177 }, { hash := PyData.keyHash P (Str.ofString "_law_gain"), key := Value.str (Str.ofString "_law_gain") 417, val := Value.ref 182 }, { hash := PyData.keyHash P (Str.ofString "_law_rows"), key := Value.str (Str.ofString "_law_rows") 423, val := Value.ref 187 }, { hash := PyData.keyHash P (Str.ofString "_law_numbers"), key := Value.str (Str.ofString "_law_numbers") 432, val := Value.ref 194 }, { hash := PyData.keyHash P (Str.ofString "_law_refused"), key := Value.str (Str.ofString "_law_refused") 442, val := Value.ref 201 }, { hash := PyData.keyHash P (Str.ofString "_law_put"), key := Value.str (Str.ofString "_law_put") 451, val := Value.ref 208 }, { hash := PyData.keyHash P (Str.ofString "_law_spoilt_row"), key := Value.str (Str.ofString "_law_spoilt_row") 462, val := Value.ref 215 }, { hash := PyData.keyHash P (Str.ofString "_law_spoilt"), key := Value.str (Str.ofString "_law_spoilt") 477, val := Value.ref 222 }, { hash := PyData.keyHash P (Str.ofString "law"), key := Value.str (Str.ofString "law") 483, val := Value.ref 227 }] 39 }
noncomputable def h12_9 (P : Params) : Obj := { cls := Value.none, data := Data.fields #[Value.int 2 0, Value.int 0 0, Value.ref 20, Value.int 4 0, Value.int 0 0, Value.ref 33, Value.int 6 0, Value.int 0 0, Value.ref 45, Value.int 8 0, Value.int 0 0, Value.ref 57, Value.int 10 0, Value.int 0 0, Value.ref 69, Value.int 12 0, Value.int 0 0, Value.ref 81, Value.int 14 0, Value.int 0 0, Value.ref 93, Value.int 22 0, Value.int 0 0, Value.ref 105, Value.int 24 0, Value.int 0 0, Value.ref 112, Value.int 26 0, Value.int 0 0, Value.ref 117, Value.int 32 0, Value.int 0 0, Value.ref 124, Value.int 49 0, Value.int 0 0, Value.ref 143, Value.int 54 0, Value.int 0 0, Value.ref 150, Value.int 56 0, Value.int 0 0, Value.ref 157, Value.int 64 0, Value.int 0 0, Value.ref 164, Value.int 72 0, Value.int 0 0, Value.ref 169, Value.int 82 0, Value.int 0 0, Value.ref 176, Value.int 84 0, Value.int 0 0, Value.ref 181, Value.int 87 0, Value.int 0 0, Value.ref 186, Value.int 103 0, Value.int 0 0, Value.ref 193, Value.int 110 0, Value.int 0 0, Value.ref 200, Value.int 120 0, Value.int 0 0, Value.ref 207, Value.int 122 0, Value.int 0 0, Value.ref 214, Value.int 141 0, Value.int 0 0, Value.ref 221, Value.int 168 0, Value.int 0 0, Value.ref 226] }
noncomputable def h171_9 (P : Params) : Obj := { cls := Value.type "tuple", data := Data.seq #[] }
noncomputable def h172_9 (P : Params) : Obj := { cls := Value.none, data := Data.fields #[] }
noncomputable def h173_9 (P : Params) : Obj := { cls := Value.type "tuple", data := Data.seq #[Value.str (Str.ofString "_law_script") 408] }
noncomputable def h174_9 (P : Params) : Obj := { cls := Value.type "tuple", data := Data.seq #[] }
noncomputable def h175_9 (P : Params) : Obj := { cls := Value.none, data := Data.func { name := Str.ofString "_law_kind", qualname := Str.ofString "_law_kind", params := pP 24, body := FuncBody.stmts (bP 24), scope := sP 24, globals := 0, closure := [], defaults := Value.none, kwdefaults := Value.none } }
noncomputable def h176_9 (P : Params) : Obj := { cls := Value.type "code", data := Data.fields #[Value.str (Str.ofString "_law_kind") 405, Value.str (Str.ofString "_law_kind") 406, Value.str (Str.ofString "/claim/cut.py") 407, Value.int 82 0, Value.int 1 0, Value.int 0 0, Value.int 0 0, Value.int 3 0, Value.ref 171, Value.bool Bool.true, Value.int 181 0, Value.ref 172, Value.none, Value.ref 173, Value.ref 174, Value.ref 175, Value.int 409 0, Value.int 82 0, Value.str (Str.ofString "/claim/cut.py") 410] }
noncomputable def h177_9 (P : Params) : Obj := { cls := Value.type "function", data := Data.func { name := Str.ofString "_law_kind", qualname := Str.ofString "_law_kind", params := pP 24, body := FuncBody.stmts (bP 24), scope := sP 24, globals := 3, closure := [], defaults := Value.none, kwdefaults := Value.none, pyModule := Value.str (Str.ofString "law_uf020023_01") 365, code := Value.ref 176 } }
noncomputable def h178_9 (P : Params) : Obj := { cls := Value.type "tuple", data := Data.seq #[] }
noncomputable def h179_9 (P : Params) : Obj := { cls := Value.none, data := Data.fields #[] }
noncomputable def h180_9 (P : Params) : Obj := { cls := Value.none, data := Data.func { name := Str.ofString "_law_gain", qualname := Str.ofString "_law_gain", params := pP 25, body := FuncBody.stmts (bP 25), scope := sP 25, globals := 0, closure := [], defaults := Value.none, kwdefaults := Value.none } }
noncomputable def h181_9 (P : Params) : Obj := { cls := Value.type "code", data := Data.fields #[Value.str (Str.ofString "_law_gain") 412, Value.str (Str.ofString "_law_gain") 413, Value.str (Str.ofString "/claim/cut.py") 414, Value.int 84 0, Value.int 1 0, Value.int 0 0, Value.int 0 0, Value.int 3 0, Value.ref 178, Value.bool Bool.true, Value.int 181 0, Value.ref 179, Value.none, Value.none, Value.none, Value.ref 180, Value.int 415 0, Value.int 84 0, Value.str (Str.ofString "/claim/cut.py") 416] }
noncomputable def h182_9 (P : Params) : Obj := { cls := Value.type "function", data := Data.func { name := Str.ofString "_law_gain", qualname := Str.ofString "_law_gain", params := pP 25, body := FuncBody.stmts (bP 25), scope := sP 25, globals := 3, closure := [], defaults := Value.none, kwdefaults := Value.none, pyModule := Value.str (Str.ofString "law_uf020023_01") 365, code := Value.ref 181 } }
noncomputable def h183_9 (P : Params) : Obj := { cls := Value.type "tuple", data := Data.seq #[] }
noncomputable def h184_9 (P : Params) : Obj := { cls := Value.none, data := Data.fields #[] }
noncomputable def h185_9 (P : Params) : Obj := { cls := Value.none, data := Data.func { name := Str.ofString "_law_rows", qualname := Str.ofString "_law_rows", params := pP 26, body := FuncBody.stmts (bP 26), scope := sP 26, globals := 0, closure := [], defaults := Value.none, kwdefaults := Value.none } }
noncomputable def h186_9 (P : Params) : Obj := { cls := Value.type "code", data := Data.fields #[Value.str (Str.ofString "_law_rows") 418, Value.str (Str.ofString "_law_rows") 419, Value.str (Str.ofString "/claim/cut.py") 420, Value.int 87 0, Value.int 1 0, Value.int 0 0, Value.int 0 0, Value.int 3 0, Value.ref 183, Value.bool Bool.true, Value.int 181 0, Value.ref 184, Value.none, Value.none, Value.none, Value.ref 185, Value.int 421 0, Value.int 87 0, Value.str (Str.ofString "/claim/cut.py") 422] }
noncomputable def h187_9 (P : Params) : Obj := { cls := Value.type "function", data := Data.func { name := Str.ofString "_law_rows", qualname := Str.ofString "_law_rows", params := pP 26, body := FuncBody.stmts (bP 26), scope := sP 26, globals := 3, closure := [], defaults := Value.none, kwdefaults := Value.none, pyModule := Value.str (Str.ofString "law_uf020023_01") 365, code := Value.ref 186 } }
noncomputable def h188_9 (P : Params) : Obj := { cls := Value.type "tuple", data := Data.seq #[] }
noncomputable def h189_9 (P : Params) : Obj := { cls := Value.none, data := Data.fields #[] }
noncomputable def h190_9 (P : Params) : Obj := { cls := Value.type "tuple", data := Data.seq #[Value.str (Str.ofString "_law_found") 427, Value.str (Str.ofString "_law_due") 428, Value.str (Str.ofString "_law_k") 429] }
noncomputable def h191_9 (P : Params) : Obj := { cls := Value.type "tuple", data := Data.seq #[] }
noncomputable def h192_9 (P : Params) : Obj := { cls := Value.none, data := Data.func { name := Str.ofString "_law_numbers", qualname := Str.ofString "_law_numbers", params := pP 27, body := FuncBody.stmts (bP 27), scope := sP 27, globals := 0, closure := [], defaults := Value.none, kwdefaults := Value.none } }
noncomputable def h193_9 (P : Params) : Obj := { cls := Value.type "code", data := Data.fields #[Value.str (Str.ofString "_law_numbers") 424, Value.str (Str.ofString "_law_numbers") 425, Value.str (Str.ofString "/claim/cut.py") 426, Value.int 103 0, Value.int 2 0, Value.int 0 0, Value.int 0 0, Value.int 3 0, Value.ref 188, Value.bool Bool.true, Value.int 181 0, Value.ref 189, Value.none, Value.ref 190, Value.ref 191, Value.ref 192, Value.int 430 0, Value.int 103 0, Value.str (Str.ofString "/claim/cut.py") 431] }
noncomputable def h194_9 (P : Params) : Obj := { cls := Value.type "function", data := Data.func { name := Str.ofString "_law_numbers", qualname := Str.ofString "_law_numbers", params := pP 27, body := FuncBody.stmts (bP 27), scope := sP 27, globals := 3, closure := [], defaults := Value.none, kwdefaults := Value.none, pyModule := Value.str (Str.ofString "law_uf020023_01") 365, code := Value.ref 193 } }
noncomputable def h195_9 (P : Params) : Obj := { cls := Value.type "tuple", data := Data.seq #[] }
noncomputable def h196_9 (P : Params) : Obj := { cls := Value.none, data := Data.fields #[] }
noncomputable def h197_9 (P : Params) : Obj := { cls := Value.type "tuple", data := Data.seq #[Value.str (Str.ofString "_law_tops_here") 436, Value.str (Str.ofString "_law_rows_here") 437, Value.str (Str.ofString "_law_gain_here") 438, Value.str (Str.ofString "e") 439] }
noncomputable def h198_9 (P : Params) : Obj := { cls := Value.type "tuple", data := Data.seq #[] }
noncomputable def h199_9 (P : Params) : Obj := { cls := Value.none, data := Data.func { name := Str.ofString "_law_refused", qualname := Str.ofString "_law_refused", params := pP 28, body := FuncBody.stmts (bP 28), scope := sP 28, globals := 0, closure := [], defaults := Value.none, kwdefaults := Value.none } }
noncomputable def h200_9 (P : Params) : Obj := { cls := Value.type "code", data := Data.fields #[Value.str (Str.ofString "_law_refused") 433, Value.str (Str.ofString "_law_refused") 434, Value.str (Str.ofString "/claim/cut.py") 435, Value.int 110 0, Value.int 3 0, Value.int 0 0, Value.int 0 0, Value.int 3 0, Value.ref 195, Value.bool Bool.true, Value.int 181 0, Value.ref 196, Value.none, Value.ref 197, Value.ref 198, Value.ref 199, Value.int 440 0, Value.int 110 0, Value.str (Str.ofString "/claim/cut.py") 441] }
noncomputable def h201_9 (P : Params) : Obj := { cls := Value.type "function", data := Data.func { name := Str.ofString "_law_refused", qualname := Str.ofString "_law_refused", params := pP 28, body := FuncBody.stmts (bP 28), scope := sP 28, globals := 3, closure := [], defaults := Value.none, kwdefaults := Value.none, pyModule := Value.str (Str.ofString "law_uf020023_01") 365, code := Value.ref 200 } }
noncomputable def h202_9 (P : Params) : Obj := { cls := Value.type "tuple", data := Data.seq #[] }
noncomputable def h203_9 (P : Params) : Obj := { cls := Value.none, data := Data.fields #[] }
noncomputable def h204_9 (P : Params) : Obj := { cls := Value.type "tuple", data := Data.seq #[Value.str (Str.ofString "_law_things") 446, Value.str (Str.ofString "_law_at") 447, Value.str (Str.ofString "_law_thing") 448] }
noncomputable def h205_9 (P : Params) : Obj := { cls := Value.type "tuple", data := Data.seq #[] }
noncomputable def h206_9 (P : Params) : Obj := { cls := Value.none, data := Data.func { name := Str.ofString "_law_put", qualname := Str.ofString "_law_put", params := pP 29, body := FuncBody.stmts (bP 29), scope := sP 29, globals := 0, closure := [], defaults := Value.none, kwdefaults := Value.none } }
noncomputable def h207_9 (P : Params) : Obj := { cls := Value.type "code", data := Data.fields #[Value.str (Str.ofString "_law_put") 443, Value.str (Str.ofString "_law_put") 444, Value.str (Str.ofString "/claim/cut.py") 445, Value.int 120 0, Value.int 3 0, Value.int 0 0, Value.int 0 0, Value.int 3 0, Value.ref 202, Value.bool Bool.true, Value.int 181 0, Value.ref 203, Value.none, Value.ref 204, Value.ref 205, Value.ref 206, Value.int 449 0, Value.int 120 0, Value.str (Str.ofString "/claim/cut.py") 450] }
noncomputable def h208_9 (P : Params) : Obj := { cls := Value.type "function", data := Data.func { name := Str.ofString "_law_put", qualname := Str.ofString "_law_put", params := pP 29, body := FuncBody.stmts (bP 29), scope := sP 29, globals := 3, closure := [], defaults := Value.none, kwdefaults := Value.none, pyModule := Value.str (Str.ofString "law_uf020023_01") 365, code := Value.ref 207 } }
noncomputable def h209_9 (P : Params) : Obj := { cls := Value.type "tuple", data := Data.seq #[] }
noncomputable def h210_9 (P : Params) : Obj := { cls := Value.none, data := Data.fields #[] }
noncomputable def h211_9 (P : Params) : Obj := { cls := Value.type "tuple", data := Data.seq #[Value.str (Str.ofString "_law_row") 455, Value.str (Str.ofString "_law_kind_here") 456, Value.str (Str.ofString "_law_cell") 457, Value.str (Str.ofString "_law_numbers_here") 458, Value.str (Str.ofString "_law_at") 459] }
noncomputable def h212_9 (P : Params) : Obj := { cls := Value.type "tuple", data := Data.seq #[] }
noncomputable def h213_9 (P : Params) : Obj := { cls := Value.none, data := Data.func { name := Str.ofString "_law_spoilt_row", qualname := Str.ofString "_law_spoilt_row", params := pP 30, body := FuncBody.stmts (bP 30), scope := sP 30, globals := 0, closure := [], defaults := Value.none, kwdefaults := Value.none } }
noncomputable def h214_9 (P : Params) : Obj := { cls := Value.type "code", data := Data.fields #[Value.str (Str.ofString "_law_spoilt_row") 452, Value.str (Str.ofString "_law_spoilt_row") 453, Value.str (Str.ofString "/claim/cut.py") 454, Value.int 122 0, Value.int 3 0, Value.int 0 0, Value.int 0 0, Value.int 3 0, Value.ref 209, Value.bool Bool.true, Value.int 181 0, Value.ref 210, Value.none, Value.ref 211, Value.ref 212, Value.ref 213, Value.int 460 0, Value.int 122 0, Value.str (Str.ofString "/claim/cut.py") 461] }
noncomputable def h215_9 (P : Params) : Obj := { cls := Value.type "function", data := Data.func { name := Str.ofString "_law_spoilt_row", qualname := Str.ofString "_law_spoilt_row", params := pP 30, body := FuncBody.stmts (bP 30), scope := sP 30, globals := 3, closure := [], defaults := Value.none, kwdefaults := Value.none, pyModule := Value.str (Str.ofString "law_uf020023_01") 365, code := Value.ref 214 } }
noncomputable def h216_9 (P : Params) : Obj := { cls := Value.type "tuple", data := Data.seq #[] }
noncomputable def h217_9 (P : Params) : Obj := { cls := Value.none, data := Data.fields #[] }
noncomputable def h218_9 (P : Params) : Obj := { cls := Value.type "tuple", data := Data.seq #[Value.str (Str.ofString "_law_parts") 466, Value.str (Str.ofString "_law_kind_here") 467, Value.str (Str.ofString "_law_cell") 468, Value.str (Str.ofString "_law_tops_here") 469, Value.str (Str.ofString "_law_rows_here") 470, Value.str (Str.ofString "_law_gain_here") 471, Value.str (Str.ofString "_law_at") 472, Value.str (Str.ofString "_law_row") 473, Value.str (Str.ofString "_law_bad") 474] }
noncomputable def h219_9 (P : Params) : Obj := { cls := Value.type "tuple", data := Data.seq #[] }
noncomputable def h220_9 (P : Params) : Obj := { cls := Value.none, data := Data.func { name := Str.ofString "_law_spoilt", qualname := Str.ofString "_law_spoilt", params := pP 31, body := FuncBody.stmts (bP 31), scope := sP 31, globals := 0, closure := [], defaults := Value.none, kwdefaults := Value.none } }
noncomputable def h221_9 (P : Params) : Obj := { cls := Value.type "code", data := Data.fields #[Value.str (Str.ofString "_law_spoilt") 463, Value.str (Str.ofString "_law_spoilt") 464, Value.str (Str.ofString "/claim/cut.py") 465, Value.int 141 0, Value.int 3 0, Value.int 0 0, Value.int 0 0, Value.int 3 0, Value.ref 216, Value.bool Bool.true, Value.int 181 0, Value.ref 217, Value.none, Value.ref 218, Value.ref 219, Value.ref 220, Value.int 475 0, Value.int 141 0, Value.str (Str.ofString "/claim/cut.py") 476] }
noncomputable def h222_9 (P : Params) : Obj := { cls := Value.type "function", data := Data.func { name := Str.ofString "_law_spoilt", qualname := Str.ofString "_law_spoilt", params := pP 31, body := FuncBody.stmts (bP 31), scope := sP 31, globals := 3, closure := [], defaults := Value.none, kwdefaults := Value.none, pyModule := Value.str (Str.ofString "law_uf020023_01") 365, code := Value.ref 221 } }
noncomputable def h223_9 (P : Params) : Obj := { cls := Value.type "tuple", data := Data.seq #[] }
noncomputable def h224_9 (P : Params) : Obj := { cls := Value.none, data := Data.fields #[] }
noncomputable def h225_9 (P : Params) : Obj := { cls := Value.none, data := Data.func { name := Str.ofString "law", qualname := Str.ofString "law", params := pP 32, body := FuncBody.stmts (bP 32), scope := sP 32, globals := 0, closure := [], defaults := Value.none, kwdefaults := Value.none } }
noncomputable def h226_9 (P : Params) : Obj := { cls := Value.type "code", data := Data.fields #[Value.str (Str.ofString "law") 478, Value.str (Str.ofString "law") 479, Value.str (Str.ofString "/claim/cut.py") 480, Value.int 168 0, Value.int 1 0, Value.int 0 0, Value.int 0 0, Value.int 3 0, Value.ref 223, Value.bool Bool.true, Value.int 181 0, Value.ref 224, Value.none, Value.none, Value.none, Value.ref 225, Value.int 481 0, Value.int 168 0, Value.str (Str.ofString "/claim/cut.py") 482] }
noncomputable def h227_9 (P : Params) : Obj := { cls := Value.type "function", data := Data.func { name := Str.ofString "law", qualname := Str.ofString "law", params := pP 32, body := FuncBody.stmts (bP 32), scope := sP 32, globals := 3, closure := [], defaults := Value.none, kwdefaults := Value.none, pyModule := Value.str (Str.ofString "law_uf020023_01") 365, code := Value.ref 226 } }
noncomputable def t9 (P : Params) : BT := .node (boot_o_0 P) (.node (boot_o_1 P) (.node (h3_9 P) (.node (boot_o_7 P) (.node (h15_1 P) (.node (h31_2 P) (.node (h63_4 P) (.node (h127_8 P) .nil .nil) (.node (h191_9 P) .nil .nil)) (.node (h95_7 P) (.node (h159_8 P) .nil .nil) (.node (h223_9 P) .nil .nil))) (.node (h47_3 P) (.node (h79_6 P) (.node (h143_8 P) .nil .nil) (.node (h207_9 P) .nil .nil)) (.node (h111_7 P) (.node (h175_9 P) .nil .nil) .nil))) (.node (h23_1 P) (.node (h39_2 P) (.node (h71_5 P) (.node (h135_8 P) .nil .nil) (.node (h199_9 P) .nil .nil)) (.node (h103_7 P) (.node (h167_8 P) .nil .nil) .nil)) (.node (h55_4 P) (.node (h87_6 P) (.node (h151_8 P) .nil .nil) (.node (h215_9 P) .nil .nil)) (.node (h119_8 P) (.node (h183_9 P) .nil .nil) .nil)))) (.node (h11_0 P) (.node (h19_1 P) (.node (h35_2 P) (.node (h67_5 P) (.node (h131_8 P) .nil .nil) (.node (h195_9 P) .nil .nil)) (.node (h99_7 P) (.node (h163_8 P) .nil .nil) (.node (h227_9 P) .nil .nil))) (.node (h51_3 P) (.node (h83_6 P) (.node (h147_8 P) .nil .nil) (.node (h211_9 P) .nil .nil)) (.node (h115_7 P) (.node (h179_9 P) .nil .nil) .nil))) (.node (h27_1 P) (.node (h43_3 P) (.node (h75_5 P) (.node (h139_8 P) .nil .nil) (.node (h203_9 P) .nil .nil)) (.node (h107_7 P) (.node (h171_9 P) .nil .nil) .nil)) (.node (h59_4 P) (.node (h91_7 P) (.node (h155_8 P) .nil .nil) (.node (h219_9 P) .nil .nil)) (.node (h123_8 P) (.node (h187_9 P) .nil .nil) .nil))))) (.node (boot_o_5 P) (.node (boot_o_9 P) (.node (h17_1 P) (.node (h33_2 P) (.node (h65_5 P) (.node (h129_8 P) .nil .nil) (.node (h193_9 P) .nil .nil)) (.node (h97_7 P) (.node (h161_8 P) .nil .nil) (.node (h225_9 P) .nil .nil))) (.node (h49_3 P) (.node (h81_6 P) (.node (h145_8 P) .nil .nil) (.node (h209_9 P) .nil .nil)) (.node (h113_7 P) (.node (h177_9 P) .nil .nil) .nil))) (.node (h25_1 P) (.node (h41_3 P) (.node (h73_5 P) (.node (h137_8 P) .nil .nil) (.node (h201_9 P) .nil .nil)) (.node (h105_7 P) (.node (h169_8 P) .nil .nil) .nil)) (.node (h57_4 P) (.node (h89_7 P) (.node (h153_8 P) .nil .nil) (.node (h217_9 P) .nil .nil)) (.node (h121_8 P) (.node (h185_9 P) .nil .nil) .nil)))) (.node (h13_0 P) (.node (h21_1 P) (.node (h37_2 P) (.node (h69_5 P) (.node (h133_8 P) .nil .nil) (.node (h197_9 P) .nil .nil)) (.node (h101_7 P) (.node (h165_8 P) .nil .nil) .nil)) (.node (h53_4 P) (.node (h85_6 P) (.node (h149_8 P) .nil .nil) (.node (h213_9 P) .nil .nil)) (.node (h117_7 P) (.node (h181_9 P) .nil .nil) .nil))) (.node (h29_2 P) (.node (h45_3 P) (.node (h77_6 P) (.node (h141_8 P) .nil .nil) (.node (h205_9 P) .nil .nil)) (.node (h109_7 P) (.node (h173_9 P) .nil .nil) .nil)) (.node (h61_4 P) (.node (h93_7 P) (.node (h157_8 P) .nil .nil) (.node (h221_9 P) .nil .nil)) (.node (h125_8 P) (.node (h189_9 P) .nil .nil) .nil)))))) (.node (boot_o_2 P) (.node (boot_o_4 P) (.node (boot_o_8 P) (.node (h16_1 P) (.node (h32_2 P) (.node (h64_5 P) (.node (h128_8 P) .nil .nil) (.node (h192_9 P) .nil .nil)) (.node (h96_7 P) (.node (h160_8 P) .nil .nil) (.node (h224_9 P) .nil .nil))) (.node (h48_3 P) (.node (h80_6 P) (.node (h144_8 P) .nil .nil) (.node (h208_9 P) .nil .nil)) (.node (h112_7 P) (.node (h176_9 P) .nil .nil) .nil))) (.node (h24_7 P) (.node (h40_3 P) (.node (h72_5 P) (.node (h136_8 P) .nil .nil) (.node (h200_9 P) .nil .nil)) (.node (h104_7 P) (.node (h168_8 P) .nil .nil) .nil)) (.node (h56_4 P) (.node (h88_7 P) (.node (h152_8 P) .nil .nil) (.node (h216_9 P) .nil .nil)) (.node (h120_8 P) (.node (h184_9 P) .nil .nil) .nil)))) (.node (h12_9 P) (.node (h20_1 P) (.node (h36_2 P) (.node (h68_5 P) (.node (h132_8 P) .nil .nil) (.node (h196_9 P) .nil .nil)) (.node (h100_7 P) (.node (h164_8 P) .nil .nil) .nil)) (.node (h52_4 P) (.node (h84_6 P) (.node (h148_8 P) .nil .nil) (.node (h212_9 P) .nil .nil)) (.node (h116_7 P) (.node (h180_9 P) .nil .nil) .nil))) (.node (h28_2 P) (.node (h44_3 P) (.node (h76_6 P) (.node (h140_8 P) .nil .nil) (.node (h204_9 P) .nil .nil)) (.node (h108_7 P) (.node (h172_9 P) .nil .nil) .nil)) (.node (h60_4 P) (.node (h92_7 P) (.node (h156_8 P) .nil .nil) (.node (h220_9 P) .nil .nil)) (.node (h124_8 P) (.node (h188_9 P) .nil .nil) .nil))))) (.node (boot_o_6 P) (.node (boot_o_10 P) (.node (h18_1 P) (.node (h34_2 P) (.node (h66_5 P) (.node (h130_8 P) .nil .nil) (.node (h194_9 P) .nil .nil)) (.node (h98_7 P) (.node (h162_8 P) .nil .nil) (.node (h226_9 P) .nil .nil))) (.node (h50_3 P) (.node (h82_6 P) (.node (h146_8 P) .nil .nil) (.node (h210_9 P) .nil .nil)) (.node (h114_7 P) (.node (h178_9 P) .nil .nil) .nil))) (.node (h26_1 P) (.node (h42_3 P) (.node (h74_5 P) (.node (h138_8 P) .nil .nil) (.node (h202_9 P) .nil .nil)) (.node (h106_7 P) (.node (h170_8 P) .nil .nil) .nil)) (.node (h58_4 P) (.node (h90_7 P) (.node (h154_8 P) .nil .nil) (.node (h218_9 P) .nil .nil)) (.node (h122_8 P) (.node (h186_9 P) .nil .nil) .nil)))) (.node (h14_0 P) (.node (h22_1 P) (.node (h38_2 P) (.node (h70_5 P) (.node (h134_8 P) .nil .nil) (.node (h198_9 P) .nil .nil)) (.node (h102_7 P) (.node (h166_8 P) .nil .nil) .nil)) (.node (h54_4 P) (.node (h86_6 P) (.node (h150_8 P) .nil .nil) (.node (h214_9 P) .nil .nil)) (.node (h118_7 P) (.node (h182_9 P) .nil .nil) .nil))) (.node (h30_2 P) (.node (h46_3 P) (.node (h78_6 P) (.node (h142_8 P) .nil .nil) (.node (h206_9 P) .nil .nil)) (.node (h110_7 P) (.node (h174_9 P) .nil .nil) .nil)) (.node (h62_4 P) (.node (h94_7 P) (.node (h158_8 P) .nil .nil) (.node (h222_9 P) .nil .nil)) (.node (h126_8 P) (.node (h190_9 P) .nil .nil) .nil))))))
noncomputable def z9 (w : World) (os : OsState) : SharedT := ⟨t9 w.params, 228, { }, #[], { }, 484, os⟩
noncomputable abbrev bd : List Stmt := behindTheImports PySem.Challenge.pw_uf020023_01
noncomputable def env0 : Env := { scope := PySem.Challenge.pw_uf020023_01.main.scope, locals := mainNs, globals := mainNs, cells := [], code := .ref 13, frame := some 14 }
noncomputable abbrev cd0 : Code := .body bd env0
abbrev fr0 : List Frame := [topFrame ⟨0, 0, 0, 0⟩]
noncomputable def sl (a k : Nat) : List Stmt := (bd.drop a).take k
theorem pc0 (w : World) (os : OsState) : segRunT treeTable PySem.Challenge.pw_uf020023_01 w 11 (Option.some (Value.ref 6)) 1 196 (z0 w os) (piecesOf (sl 0 2) env0 cd0 ⟨0, 0, 0, 0⟩ fr0) = some (.next, z1 w os, cd0, ⟨2, 0, 3, 8⟩) := by
  rw [PySem.W.Fast.te10110043849684766642, PySem.W.Fast.te14364793385576792824]
  kernel_rfl
theorem pc1 (w : World) (os : OsState) : segRunT treeTable PySem.Challenge.pw_uf020023_01 w 11 (Option.some (Value.ref 6)) 1 214 (z1 w os) (piecesOf (sl 2 1) env0 cd0 ⟨2, 0, 3, 8⟩ fr0) = some (.next, z2 w os, cd0, ⟨4, 0, 5, 8⟩) := by
  rw [PySem.W.Fast.te10110043849684766642, PySem.W.Fast.te14364793385576792824]
  kernel_rfl
theorem pc2 (w : World) (os : OsState) : segRunT treeTable PySem.Challenge.pw_uf020023_01 w 11 (Option.some (Value.ref 6)) 1 214 (z2 w os) (piecesOf (sl 3 1) env0 cd0 ⟨4, 0, 5, 8⟩ fr0) = some (.next, z3 w os, cd0, ⟨6, 0, 7, 8⟩) := by
  rw [PySem.W.Fast.te10110043849684766642, PySem.W.Fast.te14364793385576792824]
  kernel_rfl
theorem pc3 (w : World) (os : OsState) : segRunT treeTable PySem.Challenge.pw_uf020023_01 w 11 (Option.some (Value.ref 6)) 1 214 (z3 w os) (piecesOf (sl 4 1) env0 cd0 ⟨6, 0, 7, 8⟩ fr0) = some (.next, z4 w os, cd0, ⟨8, 0, 9, 8⟩) := by
  rw [PySem.W.Fast.te10110043849684766642, PySem.W.Fast.te14364793385576792824]
  kernel_rfl
theorem pc4 (w : World) (os : OsState) : segRunT treeTable PySem.Challenge.pw_uf020023_01 w 11 (Option.some (Value.ref 6)) 1 214 (z4 w os) (piecesOf (sl 5 1) env0 cd0 ⟨8, 0, 9, 8⟩ fr0) = some (.next, z5 w os, cd0, ⟨10, 0, 11, 8⟩) := by
  rw [PySem.W.Fast.te10110043849684766642, PySem.W.Fast.te14364793385576792824]
  kernel_rfl
theorem pc5 (w : World) (os : OsState) : segRunT treeTable PySem.Challenge.pw_uf020023_01 w 11 (Option.some (Value.ref 6)) 1 214 (z5 w os) (piecesOf (sl 6 1) env0 cd0 ⟨10, 0, 11, 8⟩ fr0) = some (.next, z6 w os, cd0, ⟨12, 0, 13, 8⟩) := by
  rw [PySem.W.Fast.te10110043849684766642, PySem.W.Fast.te14364793385576792824]
  kernel_rfl
theorem pc6 (w : World) (os : OsState) : segRunT treeTable PySem.Challenge.pw_uf020023_01 w 11 (Option.some (Value.ref 6)) 1 353 (z6 w os) (piecesOf (sl 7 10) env0 cd0 ⟨12, 0, 13, 8⟩ fr0) = some (.next, z7 w os, cd0, ⟨26, 0, 31, 106⟩) := by
  rw [PySem.W.Fast.te10110043849684766642, PySem.W.Fast.te14364793385576792824]
  kernel_rfl
theorem pc7 (w : World) (os : OsState) : segRunT treeTable PySem.Challenge.pw_uf020023_01 w 11 (Option.some (Value.ref 6)) 1 376 (z7 w os) (piecesOf (sl 17 7) env0 cd0 ⟨26, 0, 31, 106⟩ fr0) = some (.next, z8 w os, cd0, ⟨72, 0, 81, 25⟩) := by
  rw [PySem.W.Fast.te10110043849684766642, PySem.W.Fast.te14364793385576792824]
  kernel_rfl
theorem pc8 (w : World) (os : OsState) : segRunT treeTable PySem.Challenge.pw_uf020023_01 w 11 (Option.some (Value.ref 6)) 1 272 (z8 w os) (piecesOf (sl 24 9) env0 cd0 ⟨72, 0, 81, 25⟩ fr0) = some (.next, z9 w os, cd0, ⟨168, 0, 182, 85⟩) := by
  rw [PySem.W.Fast.te10110043849684766642, PySem.W.Fast.te14364793385576792824]
  kernel_rfl
theorem pcPre (w : World) (os : OsState) : topGo treeTable PySem.Challenge.pw_uf020023_01 w 11 (Option.some (Value.ref 6)) 12 ⟨boot_heap w.params, #[], boot_drawn, boot_toks, os⟩ (topStub PySem.Challenge.pw_uf020023_01) = some ((z0 w os).abs, ⟨denote treeTable cd0, cd0, ⟨0, 0, 0, 0⟩, fr0⟩) := by
  rw [PySem.W.Fast.te15667345088766844465, PySem.W.Fast.te14364793385576792824, PySem.W.Fast.te11892475500146522536]
  kernel_rfl
theorem pcBlk (w : World) (os : OsState) : segRun treeTable PySem.Challenge.pw_uf020023_01 w 11 (Option.some (Value.ref 6)) 1 1 (z0 w os).abs (blockOf bd env0 cd0 ⟨0, 0, 0, 0⟩ fr0) = some (.next, (z0 w os).abs, cd0, ⟨0, 0, 0, 0⟩) := by
  rw [PySem.W.Fast.te14374325043358763698, PySem.W.Fast.te14364793385576792824]
  kernel_rfl
theorem pcFin (w : World) (os : OsState) : topRun treeTable PySem.Challenge.pw_uf020023_01 w 11 (Option.some (Value.ref 6)) 2 (z9 w os).abs ⟨doneF .next, cd0, ⟨168, 0, 182, 85⟩, fr0⟩ = some (z9 w os).abs := by
  rw [PySem.W.Fast.te14082659384304107361, PySem.W.Fast.te14364793385576792824]
  kernel_rfl
theorem bdIs : bd = sl 0 2 ++ (sl 2 1 ++ (sl 3 1 ++ (sl 4 1 ++ (sl 5 1 ++ (sl 6 1 ++ (sl 7 10 ++ (sl 17 7 ++ (sl 24 9 ++ [])))))))) := by kernel_rfl
theorem pcAll (w : World) (os : OsState) : topRun treeTable PySem.Challenge.pw_uf020023_01 w 11 (Option.some (Value.ref 6)) (196 + (214 + (214 + (214 + (214 + (214 + (353 + (376 + (272 + 2))))))))) (z0 w os).abs (restOf (sl 0 2 ++ (sl 2 1 ++ (sl 3 1 ++ (sl 4 1 ++ (sl 5 1 ++ (sl 6 1 ++ (sl 7 10 ++ (sl 17 7 ++ (sl 24 9 ++ []))))))))) env0 cd0 ⟨0, 0, 0, 0⟩ fr0) = some (z9 w os).abs :=
  piece_app (segRun_of (pc0 w os)) (piece_app (segRun_of (pc1 w os)) (piece_app (segRun_of (pc2 w os)) (piece_app (segRun_of (pc3 w os)) (piece_app (segRun_of (pc4 w os)) (piece_app (segRun_of (pc5 w os)) (piece_app (segRun_of (pc6 w os)) (piece_app (segRun_of (pc7 w os)) (piece_app (segRun_of (pc8 w os)) (piece_nil (pcFin w os))))))))))
theorem runAll (w : World) (os : OsState) : topRun treeTable PySem.Challenge.pw_uf020023_01 w 11 (Option.some (Value.ref 6)) (12 + (1 + (196 + (214 + (214 + (214 + (214 + (214 + (353 + (376 + (272 + 2))))))))))) ⟨boot_heap w.params, #[], boot_drawn, boot_toks, os⟩ (topStub PySem.Challenge.pw_uf020023_01) = some (z9 w os).abs := by
  refine go_top (pcPre w os) (piece_block (pcBlk w os) ?_)
  rw [show restOf bd env0 cd0 ⟨0, 0, 0, 0⟩ fr0 = restOf (sl 0 2 ++ (sl 2 1 ++ (sl 3 1 ++ (sl 4 1 ++ (sl 5 1 ++ (sl 6 1 ++ (sl 7 10 ++ (sl 17 7 ++ (sl 24 9 ++ []))))))))) env0 cd0 ⟨0, 0, 0, 0⟩ fr0 from congrArg (fun x => restOf x env0 cd0 ⟨0, 0, 0, 0⟩ fr0) bdIs]
  exact pcAll w os
end

section
open PySem PySem.W PySem.Calls PySem.Spec PyProof.Rows
noncomputable def k01 (P : Params) : Frag := [(3, h3_9 P), (23, h23_1 P), (24, h24_7 P), (36, h36_2 P), (37, h37_2 P), (48, h48_3 P), (49, h49_3 P), (60, h60_4 P), (61, h61_4 P), (72, h72_5 P), (73, h73_5 P), (84, h84_6 P), (85, h85_6 P), (96, h96_7 P), (97, h97_7 P), (129, h129_8 P), (130, h130_8 P), (132, h132_8 P), (133, h133_8 P)]
theorem init01 {w : World} {h : Heap} {c : C0} (KX : (k01 w.params).In h) (hb : c.base = h) : FnAt c 130 ["self", "tops", "rows", "gain"] (b01 15) (s01 15) := by
  subst hb
  exact ⟨⟨_, _, KX 130 _ rfl, rfl, rfl, rfl, rfl, rfl, rfl, codeRec_of KX (by kernel_rfl), fun us e => by obtain ⟨_, _, _, _, rfl⟩ := len4 e; rfl⟩, rfl, rfl, rfl, by decide, by decide⟩
theorem e01 {prog : Program} {w : World} {loose : List Str} {mean : ExcName → Option Value} {mg mb : Str → Option Value} {h : Heap} {c : C0} {q : Program} (T : Top q loose mean mg mb h) (hR : recsOf q = recsOf PySem.Challenge.pw_uf020023_01) (KX : (k01 w.params).In h) (hc : c = ⟨prog, w, h, mg, mb⟩) :
    ∃ E : E01 c, c.mg "law" = some (.ref (E.a 29)) := by
  have hmg : c.mg = mg := by rw [hc]
  have hb : c.base = h := by rw [hc]
  obtain ⟨a12, f12⟩ := f12 T hR hmg hb
  obtain ⟨a13, f13⟩ := f13 T hR hmg hb
  obtain ⟨a14, f14⟩ := f14 T hR hmg hb
  obtain ⟨a16, f16⟩ := f16 T hR hmg hb
  obtain ⟨a17, f17⟩ := f17 T hR hmg hb
  obtain ⟨a18, f18⟩ := f18 T hR hmg hb
  obtain ⟨a19, f19⟩ := f19 T hR hmg hb
  obtain ⟨a20, f20⟩ := f20 T hR hmg hb
  obtain ⟨a21, f21⟩ := f21 T hR hmg hb
  obtain ⟨a22, f22⟩ := f22 T hR hmg hb
  obtain ⟨a23, f23⟩ := f23 T hR hmg hb
  obtain ⟨a24, f24⟩ := f24 T hR hmg hb
  obtain ⟨a25, f25⟩ := f25 T hR hmg hb
  obtain ⟨a26, f26⟩ := f26 T hR hmg hb
  obtain ⟨a27, f27⟩ := f27 T hR hmg hb
  obtain ⟨a28, f28⟩ := f28 T hR hmg hb
  obtain ⟨a29, f29⟩ := f29 T hR hmg hb
  have f15 := init01 (c := c) KX hb
  subst hmg hb
  have g0 := mg_of KX T.g (n := "CutError") (v := .ref _) rfl
  have g1 := own_of_in (x := "BadProblem") (C := _) (bmB := bmV) (newId := "ValueError.__new__") KX (topRead_of T) rfl (by kernel_rfl)
  have g2 := mg_of KX T.g (n := "BadPoint") (v := .ref _) rfl
  have g3 := mg_of KX T.g (n := "BadBox") (v := .ref _) rfl
  have g4 := mg_of KX T.g (n := "BadWeights") (v := .ref _) rfl
  have g5 := mg_of KX T.g (n := "NoTurn") (v := .ref _) rfl
  have g6 := mg_of KX T.g (n := "BadText") (v := .ref _) rfl
  have gP := mg_of KX T.g (n := "Problem") (v := .ref _) rfl
  have m0 := mg_of KX T.g (n := "MOST_UNKNOWNS") (v := .int 3 _) rfl
  have m1 := mg_of KX T.g (n := "MOST_TOP") (v := .int 20 _) rfl
  have m2 := mg_of KX T.g (n := "MOST_ROWS") (v := .int 6 _) rfl
  have m3 := mg_of KX T.g (n := "MOST_NUMBER") (v := .int 50 _) rfl
  have m4 := mg_of KX T.g (n := "MOST_BOUND") (v := .int 2000 _) rfl
  have P : Pl (k01 w.params) 37 := ⟨by kernel_rfl, by kernel_rfl, by kernel_rfl, by kernel_rfl, by kernel_rfl, by kernel_rfl, by kernel_rfl, by kernel_rfl⟩
  have no : ∀ D, kin_not (k01 w.params) 37 D = true → IsNo c 37 (.ref D) := fun D e => isNo_of KX P e
  exact ⟨{
    a := fun k => match k with | 12 => a12 | 13 => a13 | 14 => a14 | 15 => 130 | 16 => a16 | 17 => a17 | 18 => a18 | 19 => a19 | 20 => a20 | 21 => a21 | 22 => a22 | 23 => a23 | 24 => a24 | 25 => a25 | 26 => a26 | 27 => a27 | 28 => a28 | _ => a29
    whole := f12, within := f13, row := f14, init := f15, cell := f16, lwhole := f17, number := f18, bound := f19, tops := f20, kind := f21, gain := f22, rows := f23, numbers := f24, refused := f25, put := f26, sprow := f27, spoilt := f28, law := f29.2
    range := mg_none_of KX T.g (by kernel_rfl), len := mg_none_of KX T.g (by kernel_rfl), isi := mg_none_of KX T.g (by kernel_rfl), list := mg_none_of KX T.g (by kernel_rfl)
    int := mg_none_of KX T.g (by kernel_rfl), bool := mg_none_of KX T.g (by kernel_rfl), tuple := mg_none_of KX T.g (by kernel_rfl), str := mg_none_of KX T.g (by kernel_rfl), all := mg_none_of KX T.g (by kernel_rfl), min := mg_none_of KX T.g (by kernel_rfl)
    tk := fun k => match k with | 0 => 305 | 1 => 307 | 2 => 309 | 3 => 311 | _ => 313
    mUnk := m0, mTop := m1, mRows := m2, mNum := m3, mBound := m4
    bp := 37, bad := g1
    k := fun k => match k with | 0 => 24 | 2 => 49 | 3 => 61 | 4 => 73 | 5 => 85 | _ => 97
    k0 := ⟨g0, isYes_of KX (by kernel_rfl)⟩
    k2 := ⟨g2, no _ (by kernel_rfl)⟩, k3 := ⟨g3, no _ (by kernel_rfl)⟩, k4 := ⟨g4, no _ (by kernel_rfl)⟩, k5 := ⟨g5, no _ (by kernel_rfl)⟩, k6 := ⟨g6, no _ (by kernel_rfl)⟩
    ve := ⟨mg_none_of KX T.g (by kernel_rfl), isYesT_of KX rfl (by kernel_rfl)⟩
    pc := 133, pb := gP, K := _, KX := KX
    mkP := ⟨by kernel_rfl, by kernel_rfl, by kernel_rfl⟩
    pl := ⟨by kernel_rfl, by kernel_rfl, by kernel_rfl, by kernel_rfl, fun x hx => by
      rcases List.mem_cons.mp hx with rfl | hx
      · kernel_rfl
      rcases List.mem_cons.mp hx with rfl | hx
      · kernel_rfl
      rw [List.mem_singleton.mp hx]; kernel_rfl⟩
    keepP := by kernel_rfl }, f29.1⟩

noncomputable def q01 : Program := view PySem.Challenge.pw_uf020023_01 [1, 2, 3, 4, 5, 6, 7, 9, 10, 11, 12, 13, 14, 15, 16, 17, 19, 20, 21, 22, 23, 24, 25, 26, 27, 28, 29, 30, 31, 32]
noncomputable abbrev H01 : Hook := kHook k01 [3, 23, 24, 36, 37, 48, 49, 60, 61, 72, 73, 84, 85, 96, 97, 129, 130, 132, 133] (fun _ => by kernel_rfl)
noncomputable abbrev X01 (s : Shared) : Bool := xlAt q01 [] s && recOk (RowW.records (OpenRow.toRowW PySem.Challenge.rw_uf020023_01.row)) s
theorem lookA (w : World) (os : OsState) : (staticsOk (importedModules PySem.Challenge.pw_uf020023_01.main.body) (boot_heap w.params) (absHeap (t9 w.params) 228 {}) && namesBound PySem.Challenge.pw_uf020023_01 (absHeap (t9 w.params) 228 {}) && gensDone ⟨absHeap (t9 w.params) 228 {}, #[], {}, 484, os⟩ && laidKept (boot_heap w.params) (absHeap (t9 w.params) 228 {})) = true := by
  rw [PySem.W.Fast.te5923862056798008813]
  kernel_rfl
theorem lookB (w : World) (os : OsState) : openSeen q01 [] (importedModules PySem.Challenge.pw_uf020023_01.main.body) X01 true ⟨absHeap (t9 w.params) 228 {}, #[], {}, 484, os⟩ = openGood q01 [] := by
  rw [PySem.W.Fast.te4187177175401517315, PySem.W.Fast.te5923862056798008813]
  kernel_rfl
theorem lookC (w : World) (os : OsState) : H01.obs ⟨absHeap (t9 w.params) 228 {}, #[], {}, 484, os⟩ = H01.val w := by kernel_rfl
theorem left01 : LeftO PySem.Challenge.pw_uf020023_01 q01 [] X01 H01.obs H01.val 4808 :=
  LeftO.of_pieces (H₀ := boot_heap) (H₁ := fun P => absHeap (t9 P) 228 {}) (gs₁ := #[]) (d₁ := {}) (k₁ := 484) (m₀ := 11) (ann := (Option.some (Value.ref 6))) (M := (12 + (1 + (196 + (214 + (214 + (214 + (214 + (214 + (353 + (376 + (272 + 2))))))))))))
    (boot_open (by kernel_rfl) (by decide) (fun s => by kernel_rfl)) (fun w => by kernel_rfl) (fun w os => runAll w os) (by decide) (fun w => funext fun os => looks_pair (lookA w os) (looks_pair (lookB w os) (lookC w os)))
theorem recs01 : recsOf q01 = recsOf PySem.Challenge.pw_uf020023_01 := by kernel_rfl
theorem fa_of {f : Str → Option Value} {a b : Addr} (h1 : f "law" = some (.ref a)) (h2 : f "law" = some (.ref b)) : b = a := by
  have := h1.symm.trans h2
  injection this with this
  injection this with this
  exact this.symm
theorem main01 : PySem.Challenge.rw_uf020023_01.Holds := by
  w_on
  o_law
  refine holds_open (q := q01) (loose := []) (Xt := X01) (XP := XL q01 []) (Yf := H01.obs) (Ya := H01.val) (YP := H01.says) (N := 4808) left01 H01.of H01.keeps (fun s e => xl_of s (Bool.and_eq_true_iff.mp e).1) XL.keeps (by rfl) (by rfl) (by rfl) (fun s e => recFacts_of (Bool.and_eq_true_iff.mp e).2) (by rfl) (by first | assumption | decide +kernel) (by decide +kernel) ⟨rfl, rfl, rfl, rfl, rfl, by decide +kernel⟩ ?hw ?hc
  case hw => w_witness2
  intro w s₀ s₁ mg mb G Y fa o pm cd doc dV kV ho hd hcd hD hmg hg args vals as hpre hlay hrd hwl hlo
  have KX : (k01 w.params).In s₁.heap := kIn_of Y
  refine Ground.open G ?_
  intro T B D TE TW
  wrow_args hpre hlay hrd hwl hlo
  all_goals first | refine callC_kw (enter_call ?_) | refine enter_call ?_ | refine callC_kw (enter_callW ?_) | refine enter_callW ?_ | w_how
  w_top on
  try refine codeAny_mono ?_ (fun _ _ g => GoodW.toG g)
  obtain ⟨E, hE⟩ := e01 (c := ⟨Challenge.rw_uf020023_01.row.prog, w, s₁.heap, mg, mb⟩) T recs01 KX rfl
  have hfa : E.a 29 = fa := fa_of (f := mg) hmg hE
  rename_i hL _ _ _ hI _ hlen _
  have hlen' : ¬ ((63 : Nat) : Int) < _ := hlen
  rw [← hfa]
  refine codeAny_mono (topDef (c := ⟨Challenge.rw_uf020023_01.row.prog, w, s₁.heap, mg, mb⟩) (ρ' := [("_law_script", .ref 0)]) (γ' := []) ⟨T.g, T.b, T.nolimit, T.builtins⟩ rfl E.law rfl hL hI (Par.cons rfl rfl Par.nil) (fun x v e => by cases e) (law_ok E rfl (by omega))) ?_
  rintro r s' ⟨rfl, hk, hos, hge⟩
  exact ⟨.inl ⟨_, _, [], rfl, fun _ => rfl, .bool true, (by kernel_rfl), fun _ => ⟨.nil, fun a ha => by cases ha⟩⟩, hk, hos, hge.trans hg⟩
end
end Mine
theorem PySem.Challenge.cw_uf020023_01_holds : PySem.Challenge.rw_uf020023_01.Holds :=
  Mine.main01
