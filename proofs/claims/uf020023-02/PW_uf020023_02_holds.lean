import PyProof.Rows.All
import Wide.All
import OpenK.AllK
import Wide.FinOn
import KE.KItem
import OpenK.KLine
import OpenK.KRaise
import OpenK.KOwn
import KE.KIsNot
import PyProof.Rows.Chain
import PyProof.Rows.TupIter
import PyProof.WalkInts
import PyProof.ConsumeWalk
import PyProof.P3In
import PyProof.TupleOfSeq
import PyProof.SliceStr2
import PyProof.SliceMore
import PyProof.ListOps
import PyProof.StrBlockH
import PyProof.StrCalls3
import PyProof.StrWalks
import PyProof.EqAt
import PyProof.EqKinds
import PyProof.ListIndexNeg
import PyProof.CallStr
import PyProof.Rows.StrItems
import PyProof.Rows.StrTemp
import PyProof.Rows.StrRules
import PyProof.Rows.RuleIs
import PyProof.Rows.StrMul
import KE.KIntText
import PySem.Challenge.RW_uf020023_02
set_option Elab.async false
set_option compiler.extract_closed false
set_option maxRecDepth 100000
set_option maxHeartbeats 8000000
set_option autoImplicit false
set_option linter.unusedVariables false
set_option genSizeOf false
set_option genSizeOfSpec false
set_option genInjectivity false
namespace Mine
open PySem PySem.Calls PySem.Spec PyProof.Rows
inductive V where
  | none
  | bool (b : Bool)
  | int (i : Int)
  | str (s : Str)
  | ref (i : Nat)
  | tup (l : List V)
  | exc (C : Addr)

inductive O where
  | list (l : List V)
  | ro (l : List V)
  | inst (C : Addr) (j : Nat)
  | dict (fs : List (Str × V))

mutual
inductive VR (ι : List Addr) (h : Heap) : V → Value → Prop where
  | none : VR ι h .none .none
  | bool (b : Bool) : VR ι h (.bool b) (.bool b)
  | int (i : Int) (t : Tok) : VR ι h (.int i) (.int i t)
  | str (s : Str) (t : Tok) : VR ι h (.str s) (.str s t)
  | ref {i : Nat} {a : Addr} : ι[i]? = some a → VR ι h (.ref i) (.ref a)
  | tup {l : List V} {a : Addr} {vs : List Value} : IsTup h a vs.toArray → VRs ι h l vs → VR ι h (.tup l) (.ref a)
  | exc {C a : Addr} {o : Obj} : h.get? a = some o → o.cls = .ref C → (∃ vs, o.data = .fields vs) → VR ι h (.exc C) (.ref a)
inductive VRs (ι : List Addr) (h : Heap) : List V → List Value → Prop where
  | nil : VRs ι h [] []
  | cons {v : V} {u : Value} {l : List V} {us : List Value} : VR ι h v u → VRs ι h l us → VRs ι h (v :: l) (u :: us)
end

def Same (o o' : Obj) : Prop := o' = o ∨ ((∃ es n, o.data = .dict es n) ∧ ∃ sl, o' = { o with slots := sl })

theorem Same.refl (o : Obj) : Same o o := .inl rfl
theorem Same.trans {a b c : Obj} (x : Same a b) (y : Same b c) : Same a c := by
  rcases x with rfl | ⟨⟨es, n, hd⟩, sl, rfl⟩
  · exact y
  · rcases y with rfl | ⟨_, sl', rfl⟩
    · exact .inr ⟨⟨es, n, hd⟩, sl, rfl⟩
    · exact .inr ⟨⟨es, n, hd⟩, sl', rfl⟩
theorem Same.cls {a b : Obj} (x : Same a b) : b.cls = a.cls := by
  rcases x with rfl | ⟨_, sl, rfl⟩ <;> rfl
theorem Same.data {a b : Obj} (x : Same a b) : b.data = a.data := by
  rcases x with rfl | ⟨_, sl, rfl⟩ <;> rfl
theorem Same.eq {a b : Obj} (x : Same a b) (h : ∀ es n, a.data ≠ .dict es n) : b = a := by
  rcases x with rfl | ⟨⟨es, n, hd⟩, _⟩
  · rfl
  · exact absurd hd (h es n)

def Kp (X : Addr → Prop) (h h' : Heap) : Prop := ∀ b o, h.get? b = some o → ¬ X b → ∃ o', h'.get? b = some o' ∧ Same o o'

theorem Kp.refl (X : Addr → Prop) (h : Heap) : Kp X h h := fun _ o e _ => ⟨o, e, .refl o⟩
theorem Kp.of_keeps {X : Addr → Prop} {h h' : Heap} (k : ∀ b o, h.get? b = some o → h'.get? b = some o) : Kp X h h' := fun b o e _ => ⟨o, k b o e, .refl o⟩
theorem Kp.trans {X Y : Addr → Prop} {h₁ h₂ h₃ : Heap} (x : Kp X h₁ h₂) (y : Kp Y h₂ h₃) (hy : ∀ b o, h₁.get? b = some o → Y b → X b) : Kp X h₁ h₃ := fun b o e n => by
  obtain ⟨o', e', s'⟩ := x b o e n
  obtain ⟨o'', e'', s''⟩ := y b o' e' fun q => n (hy b o e q)
  exact ⟨o'', e'', s'.trans s''⟩
theorem Kp.mono {X Y : Addr → Prop} {h h' : Heap} (x : Kp X h h') (hy : ∀ b o, h.get? b = some o → X b → Y b) : Kp Y h h' := fun b o e n => x b o e fun q => n (hy b o e q)
theorem Kp.tup {X : Addr → Prop} {h h' : Heap} {a : Addr} {vs : Array Value} (k : Kp X h h') (n : ¬ X a) (x : IsTup h a vs) : IsTup h' a vs := by
  obtain ⟨o, ho, hc, m, hd⟩ := x
  obtain ⟨o', e', s'⟩ := k a o ho n
  exact ⟨o', e', s'.cls.trans hc, m, s'.data.trans hd⟩
theorem Kp.lst {X : Addr → Prop} {h h' : Heap} {a : Addr} {vs : Array Value} (k : Kp X h h') (n : ¬ X a) (x : h.IsList a vs) : h'.IsList a vs := by
  obtain ⟨o, ho, hc, m, hd⟩ := x
  obtain ⟨o', e', s'⟩ := k a o ho n
  exact ⟨o', e', s'.cls.trans hc, m, s'.data.trans hd⟩
theorem Kp.ns {X : Addr → Prop} {h h' : Heap} {a : Addr} {m : Str → Option Value} (k : Kp X h h') (n : ¬ X a) (x : h.Ns a m) : h'.Ns a m := by
  obtain ⟨o, es, ep, ho, hd, r⟩ := x
  obtain ⟨o', e', s'⟩ := k a o ho n
  exact ⟨o', es, ep, e', s'.data.trans hd, r⟩
theorem Kp.cell {X : Addr → Prop} {h h' : Heap} {a : Addr} {v : Option Value} (k : Kp X h h') (n : ¬ X a) (x : h.IsCell a v) : h'.IsCell a v := by
  obtain ⟨o, ho, hd⟩ := x
  obtain ⟨o', e', s'⟩ := k a o ho n
  exact ⟨o', e', s'.data.trans hd⟩
theorem Kp.frames {X : Addr → Prop} {h h' base : Heap} (k : Kp X h h') : ∀ {l : List Env}, h.FunFrames base l → (∀ env ∈ l, ∀ L, env.frame = some L → ¬ X L) → h'.FunFrames base l
  | [], _, _ => trivial
  | env :: _, ⟨hk, ⟨L, o, hf, hn, ho, hd⟩, hr⟩, hx => by
    obtain ⟨o', e', s'⟩ := k L o ho (hx env (.head _) L hf)
    exact ⟨hk, ⟨L, o', hf, hn, e', fun vs => by rw [s'.data]; exact hd vs⟩, k.frames hr fun e he => hx e (.tail _ he)⟩

def Mu (ι : List Addr) (h : Heap) : Prop := ∀ a ∈ ι, ∀ o, h.get? a = some o → o.cls ≠ .type "tuple" ∧ ∀ vs, o.data ≠ .fields vs

def Aft (ι : List Addr) (h : Heap) (ι' : List Addr) (h' : Heap) : Prop :=
  (∃ t, ι' = ι ++ t) ∧ (∀ b ∈ ι', b ∈ ι ∨ h.get? b = none) ∧ Kp (· ∈ ι) h h'

theorem Aft.refl (ι : List Addr) (h : Heap) : Aft ι h ι h := ⟨⟨[], by simp⟩, fun _ hb => .inl hb, .refl _ _⟩
theorem Aft.of_keeps {ι : List Addr} {h h' : Heap} (k : ∀ b o, h.get? b = some o → h'.get? b = some o) : Aft ι h ι h' := ⟨⟨[], by simp⟩, fun _ hb => .inl hb, .of_keeps k⟩
theorem Kp.some {X : Addr → Prop} {h h' : Heap} (k : Kp X h h') {b : Addr} {o : Obj} (e : h.get? b = some o) (n : ¬ X b) : ∃ o', h'.get? b = some o' := let ⟨o', e', _⟩ := k b o e n; ⟨o', e'⟩
theorem Aft.trans {ι₁ ι₂ ι₃ : List Addr} {h₁ h₂ h₃ : Heap} (x : Aft ι₁ h₁ ι₂ h₂) (y : Aft ι₂ h₂ ι₃ h₃) : Aft ι₁ h₁ ι₃ h₃ := by
  obtain ⟨⟨t, rfl⟩, x2, x3⟩ := x
  obtain ⟨⟨t', rfl⟩, y2, y3⟩ := y
  refine ⟨⟨t ++ t', by simp⟩, fun b hb => ?_, x3.trans y3 fun b o e q => (x2 b q).resolve_right fun z => by rw [e] at z; cases z⟩
  by_cases hb1 : b ∈ ι₁
  · exact .inl hb1
  · refine .inr ?_
    cases q : h₁.get? b with
    | none => rfl
    | some o =>
      obtain ⟨o', e', _⟩ := x3 b o q hb1
      rcases y2 b hb with z | z
      · rcases x2 b z with z' | z'
        · exact absurd z' hb1
        · rw [q] at z'; cases z'
      · rw [e'] at z; cases z

def MuX (X : Addr → Prop) (h : Heap) : Prop := ∀ a o, X a → h.get? a = some o → (o.cls = .type "tuple" → ∀ its n, o.data ≠ .seq its n) ∧ ∀ vs, o.data = .fields vs → ∀ C, o.cls ≠ .ref C
theorem Mu.x {ι : List Addr} {h : Heap} (M : Mu ι h) : MuX (· ∈ ι) h := fun a o ha ho => ⟨fun q => absurd q (M a ha o ho).1, fun vs q => absurd q ((M a ha o ho).2 vs)⟩

mutual
theorem VR.grow {X : Addr → Prop} {ι ι' : List Addr} {h h' : Heap} (M : MuX X h) (p : ∃ t, ι' = ι ++ t) (k : Kp X h h') : ∀ {v : V} {u : Value}, VR ι h v u → VR ι' h' v u
  | _, _, .none => .none
  | _, _, .bool b => .bool b
  | _, _, .int i t => .int i t
  | _, _, .str s t => .str s t
  | _, _, .ref e => .ref (by obtain ⟨t, rfl⟩ := p; rw [List.getElem?_append_left (List.getElem?_eq_some_iff.mp e).1]; exact e)
  | _, _, .tup x y => .tup (k.tup (fun q => by obtain ⟨o, ho, hc, n, hd⟩ := x; exact (M _ o q ho).1 hc _ n hd) x) (VRs.grow M p k y)
  | _, _, .exc (C := C) (a := a) (o := o) e c d => by
    obtain ⟨o', e', s'⟩ := k a o e (fun q => by obtain ⟨vs, hv⟩ := d; exact (M _ o q e).2 vs hv C c)
    exact .exc e' (s'.cls.trans c) (by obtain ⟨vs, hv⟩ := d; exact ⟨vs, s'.data.trans hv⟩)
theorem VRs.grow {X : Addr → Prop} {ι ι' : List Addr} {h h' : Heap} (M : MuX X h) (p : ∃ t, ι' = ι ++ t) (k : Kp X h h') : ∀ {l : List V} {us : List Value}, VRs ι h l us → VRs ι' h' l us
  | _, _, .nil => .nil
  | _, _, .cons x y => .cons (VR.grow M p k x) (VRs.grow M p k y)
end
theorem VR.mono {ι ι' : List Addr} {h h' : Heap} (M : Mu ι h) (A : Aft ι h ι' h') {v : V} {u : Value} (x : VR ι h v u) : VR ι' h' v u := x.grow M.x A.1 A.2.2
theorem VRs.mono {ι ι' : List Addr} {h h' : Heap} (M : Mu ι h) (A : Aft ι h ι' h') {v : List V} {u : List Value} (x : VRs ι h v u) : VRs ι' h' v u := x.grow M.x A.1 A.2.2

structure C0 where
  prog : Program
  w : World
  base : Heap
  mg : Str → Option Value
  mb : Str → Option Value

abbrev C0.M (c : C0) : Model := model c.prog c.w

structure Gr (c : C0) : Prop where
  g : c.base.Ns mainGlobals c.mg
  b : c.base.Ns builtinsNs c.mb
  nolimit : c.base.NoLimit
  builtins : ∀ x : Str, x ≠ "__name__" → c.mb x = bootBuiltins x

inductive FsR (ι : List Addr) (h : Heap) (P : Params) : List (Str × V) → List DictEntry → Prop where
  | nil : FsR ι h P [] []
  | cons {x : Str} {t : Tok} {v : V} {u : Value} {r : List (Str × V)} {es : List DictEntry} : VR ι h v u → FsR ι h P r es → FsR ι h P ((x, v) :: r) (⟨PyData.keyHash P x, .str x t, u⟩ :: es)

def OR (c : C0) (ι : List Addr) (h : Heap) : O → Addr → Prop
  | .list l, a => ∃ vs n, h.get? a = some { cls := .type "list", data := .seq vs.toArray n } ∧ VRs ι h l vs ∧ c.base.get? a = none
  | .ro l, a => ∃ vs, h.IsList a vs.toArray ∧ VRs ι h l vs
  | .inst C j, a => ∃ dx, ι[j]? = some dx ∧ h.get? a = some { cls := .ref C, dict := some dx, data := .plain } ∧ c.base.get? a = none
  | .dict fs, a => ∃ es n, h.get? a = some { cls := .type "dict", data := .dict es.toArray n } ∧ FsR ι h c.w.params fs es ∧ c.base.get? a = none

structure Stt where
  n : Nat
  kd : Str → Option NameKind
  q : Bool

structure Fm where
  A : Around
  fe : Env
  env : Env
  outer : List Env

structure Sit (c : C0) (S : Stt) (f : Fm) (ι : List Addr) (ρ γ : List (Str × V)) (σ : List O) (h : Heap) : Prop where
  gr : Gr c
  base : c.base.StaysIn h
  stack : f.A.frames = some (f.fe :: f.outer)
  frames : h.FunFrames c.base (f.fe :: f.outer)
  fnotin : ∀ env ∈ f.fe :: f.outer, ∀ L, env.frame = some L → L ∉ ι
  fdict : ∀ env ∈ f.fe :: f.outer, ∀ L o, env.frame = some L → h.get? L = some o → ∃ es n, o.data = .dict es n
  depth : f.A.depth ≤ 310 + 4 * S.n
  units : f.A.units ≤ 50 + 20 * S.n
  lvl : S.n ≤ 50
  quiet : S.q = true → f.A.handled = none
  kind : f.env.scope.kind = .function
  kinds : ∀ x, f.env.kindOf x = S.kd x
  glob : f.env.globals = mainGlobals
  blt : f.env.builtins = builtinsNs
  frm : f.env.frame = f.fe.frame
  loc : ∃ m, h.Ns f.env.locals m ∧ ∀ x v, ρ.lookup x = some v → ∃ u, m x = some u ∧ VR ι h v u
  locx : f.env.locals ∉ ι ∧ c.base.get? f.env.locals = none
  cel : ∀ x v, γ.lookup x = some v → ∃ a u, f.env.cells.lookup x = some a ∧ h.IsCell a (some u) ∧ VR ι h v u
  celx : ∀ x a, f.env.cells.lookup x = some a → a ∉ ι ∧ a ≠ f.env.locals ∧ c.base.get? a = none ∧ ∃ v₀, h.IsCell a v₀
  celk : ∀ x, S.kd x = some .cell → ∃ a, f.env.cells.lookup x = some a
  celd : ∀ x y a, f.env.cells.lookup x = some a → f.env.cells.lookup y = some a → x = y
  len : ι.length = σ.length
  nd : ι.Nodup
  sto : ∀ (i : Nat) o a, σ[i]? = some o → ι[i]? = some a → OR c ι h o a

theorem OR.mu {c : C0} {ι : List Addr} {h : Heap} {o : O} {a : Addr} (x : OR c ι h o a) : ∀ ob, h.get? a = some ob → ob.cls ≠ .type "tuple" ∧ ∀ vs, ob.data ≠ .fields vs := by
  intro ob hob
  cases o with
  | list l => obtain ⟨vs, n, e, _⟩ := x; rw [e] at hob; cases hob; exact ⟨fun q => absurd q (by show Value.type _ ≠ Value.type _; decide), fun _ q => nomatch q⟩
  | ro l =>
    obtain ⟨vs, ⟨o', e, hc, n, hd⟩, _⟩ := x
    rw [e] at hob; cases hob
    exact ⟨by rw [hc]; decide, fun _ => by rw [hd]; exact fun q => nomatch q⟩
  | inst C j => obtain ⟨dx, _, e, _⟩ := x; rw [e] at hob; cases hob; exact ⟨fun q => (nomatch q), fun _ q => (nomatch q)⟩
  | dict fs => obtain ⟨es, n, e, _⟩ := x; rw [e] at hob; cases hob; exact ⟨fun q => absurd q (by show Value.type _ ≠ Value.type _; decide), fun _ q => nomatch q⟩

section
variable {c : C0} {S : Stt} {f : Fm} {ι ι' : List Addr} {ρ γ : List (Str × V)} {σ σ' : List O} {h h' : Heap}

theorem Sit.mu (x : Sit c S f ι ρ γ σ h) : Mu ι h := by
  intro a ha o ho
  obtain ⟨i, hi, rfl⟩ := List.mem_iff_getElem.mp ha
  have hs : i < σ.length := x.len ▸ hi
  exact (x.sto i σ[i] ι[i] (List.getElem?_eq_getElem hs) (List.getElem?_eq_getElem hi)).mu o ho

theorem FsR.mono {P : Params} (M : Mu ι h) (A : Aft ι h ι' h') {fs : List (Str × V)} {es : List DictEntry} (x : FsR ι h P fs es) : FsR ι' h' P fs es := by
  induction x with
  | nil => exact .nil
  | cons v _ ih => exact .cons (v.mono M A) ih

theorem Sit.aft (x : Sit c S f ι ρ γ σ h) (A : Aft ι h ι' h') (hb : c.base.StaysIn h') (hnf : ∀ b ∈ ι', b ∈ ι ∨ h.get? b = none)
    (hl : ι'.length = σ'.length) (hnd : ι'.Nodup) (hs : ∀ (i : Nat) o a, σ'[i]? = some o → ι'[i]? = some a → OR c ι' h' o a) : Sit c S f ι' ρ γ σ' h' := by
  have M := x.mu
  have fresh : ∀ b o, h.get? b = some o → b ∉ ι → b ∉ ι' := fun b o e n q => by
    rcases hnf b q with z | z
    · exact n z
    · rw [e] at z; cases z
  have ff : ∀ env ∈ f.fe :: f.outer, ∀ L, env.frame = some L → L ∉ ι' := fun env he L hL => by
    obtain ⟨_, o, ho, _⟩ := x.frames.mem (List.mem_filterMap.mpr ⟨env, he, hL⟩)
    exact fresh L o ho (x.fnotin env he L hL)
  obtain ⟨m, hm, hr⟩ := x.loc
  refine { x with base := hb, frames := A.2.2.frames x.frames x.fnotin, fnotin := ff, fdict := fun env he L o' hL e' => ?_, loc := ⟨m, A.2.2.ns x.locx.1 hm, fun y v e => ?_⟩, locx := ⟨?_, x.locx.2⟩, cel := fun y v e => ?_, celx := fun y a e => ?_, len := hl, nd := hnd, sto := hs }
  · obtain ⟨_, o, ho, _⟩ := x.frames.mem (List.mem_filterMap.mpr ⟨env, he, hL⟩)
    obtain ⟨o₂, e₂, s₂⟩ := A.2.2 L o ho (x.fnotin env he L hL)
    rw [e'] at e₂; cases e₂
    rw [s₂.data]; exact x.fdict env he L o hL ho
  · obtain ⟨u, e1, e2⟩ := hr y v e
    exact ⟨u, e1, e2.mono M A⟩
  · obtain ⟨o, _, _, ho, _⟩ := hm
    exact fresh _ o ho x.locx.1
  · obtain ⟨a, u, e1, e2, e3⟩ := x.cel y v e
    obtain ⟨n1, _⟩ := x.celx y a e1
    exact ⟨a, u, e1, A.2.2.cell n1 e2, e3.mono M A⟩
  · obtain ⟨n1, n2, n3, v₀, e2⟩ := x.celx y a e
    obtain ⟨o, ho, _⟩ := id e2
    exact ⟨fresh a o ho n1, n2, n3, v₀, A.2.2.cell n1 e2⟩

theorem OR.keeps {ι : List Addr} (M : Mu ι h) (k : ∀ b o, h.get? b = some o → h'.get? b = some o) {o : O} {a : Addr} (x : OR c ι h o a) : OR c ι h' o a := by
  have A : Aft ι h ι h' := .of_keeps k
  cases o with
  | list l => obtain ⟨vs, n, e, r, b⟩ := x; exact ⟨vs, n, k _ _ e, r.mono M A, b⟩
  | ro l => obtain ⟨vs, e, r⟩ := x; exact ⟨vs, e.at fun o q => k _ o q, r.mono M A⟩
  | inst C j => obtain ⟨dx, e, q, b⟩ := x; exact ⟨dx, e, k _ _ q, b⟩
  | dict fs => obtain ⟨es, n, e, r, b⟩ := x; exact ⟨es, n, k _ _ e, r.mono M A, b⟩

theorem Sit.keeps (x : Sit c S f ι ρ γ σ h) (k : ∀ b o, h.get? b = some o → h'.get? b = some o) : Sit c S f ι ρ γ σ h' :=
  x.aft (.of_keeps k) (fun b o e => k b o (x.base b o e)) (fun _ hb => .inl hb) x.len x.nd fun i o a e1 e2 => (x.sto i o a e1 e2).keeps x.mu k
end

def frs (f : Fm) : List Addr := (f.fe :: f.outer).filterMap (·.frame)

def FlyG (B : Heap) (l : List Env) (e : Addr) (cls a0 fl : Value) (h : Heap) : Prop := B.StaysIn h ∧ B.get? e = none ∧ h.FunFrames B l ∧ h.TracedAtW B e cls a0 fl
def Air (c : C0) (f : Fm) (ea C : Addr) (hb h' : Heap) : Prop :=
  (∃ args, Heap.MadeExcOf hb h' ea (.ref C) args) ∨
  (∃ B a0 fl, c.base.StaysIn B ∧ (∀ b o, hb.get? b = some o → b ∉ frs f → B.get? b = some o) ∧ FlyG B (f.fe :: f.outer) ea (.ref C) a0 fl h' ∧
    ∀ b o, hb.get? b = some o → b ∈ frs f → ∃ sl, h'.get? b = some { o with slots := sl })

inductive PR {α β : Type} (R : List Addr → Heap → β → α → Prop) (c : C0) (S : Stt) (f : Fm) (ι : List Addr) (ρ γ : List (Str × V)) (s : Shared) (Q : β → List O → Prop) (u : α) (s' : Shared) : Prop where
  | mk (v : β) (σ' : List O) (ι' : List Addr) (h' : Heap) (tk : Nat) (e : s' = { s with heap := h', toks := tk }) (A : Aft ι s.heap ι' h') (w : Sit c S f ι' ρ γ σ' h') (r : R ι' h' v u) (q : Q v σ')

inductive PX (c : C0) (S : Stt) (f : Fm) (ι : List Addr) (ρ γ : List (Str × V)) (s : Shared) (X : Addr → List O → Prop) (ev : Value) (s' : Shared) : Prop where
  | mk (C ea : Addr) (hb : Heap) (σ' : List O) (ι' : List Addr) (h' : Heap) (tk : Nat) (e1 : ev = .ref ea) (e : s' = { s with heap := h', toks := tk }) (A : Aft ι s.heap ι' hb) (w : Sit c S f ι' ρ γ σ' hb) (air : Air c f ea C hb h') (q : X C σ')

def W {α β : Type} (R : List Addr → Heap → β → α → Prop) (c : C0) (S : Stt) (t : Env → Sem α) (ρ γ : List (Str × V)) (Q : β → List O → Prop) (X : Addr → List O → Prop) (σ : List O) : Prop :=
  ∀ f ι s, Sit c S f ι ρ γ σ s.heap → wpAny c.M f.A (t f.env) (PR R c S f ι ρ γ s Q) (PX c S f ι ρ γ s X) s

abbrev WE (c : C0) (S : Stt) (e : Expr) (ρ γ : List (Str × V)) (Q : V → List O → Prop) (X : Addr → List O → Prop) (σ : List O) : Prop := W VR c S (fun env => eval e env) ρ γ Q X σ
abbrev WB (c : C0) (S : Stt) (e : Expr) (ρ γ : List (Str × V)) (Q : Bool → List O → Prop) (X : Addr → List O → Prop) (σ : List O) : Prop := W (fun _ _ b b' => b = b') c S (fun env => isTrue e env (eval e env)) ρ γ Q X σ

section
variable {α β α' β' : Type} {R : List Addr → Heap → β → α → Prop} {R' : List Addr → Heap → β' → α' → Prop} {c : C0} {S : Stt} {f : Fm} {ι ι₁ : List Addr} {ρ γ : List (Str × V)} {σ σ' : List O} {s s₁ s' : Shared} {h₁ : Heap} {tk : Nat}
  {Q Q' : β → List O → Prop} {X X' : Addr → List O → Prop} {t : Env → Sem α}

theorem PR.trans {u : α} (p : PR R c S f ι₁ ρ γ s₁ Q u s') (e : s₁ = { s with heap := h₁, toks := tk }) (A : Aft ι s.heap ι₁ h₁) : PR R c S f ι ρ γ s Q u s' := by
  obtain ⟨v, σ', ι', h', tk', rfl, A', r, r2, r3⟩ := p
  subst e
  exact ⟨v, σ', ι', h', tk', rfl, A.trans A', r, r2, r3⟩
theorem PX.trans {ev : Value} (p : PX c S f ι₁ ρ γ s₁ X ev s') (e : s₁ = { s with heap := h₁, toks := tk }) (A : Aft ι s.heap ι₁ h₁) : PX c S f ι ρ γ s X ev s' := by
  obtain ⟨C, ea, hb, σ', ι', h', tk', rfl, rfl, A', r, r2, r3⟩ := p
  subst e
  exact ⟨C, ea, hb, σ', ι', h', tk', rfl, rfl, A.trans A', r, r2, r3⟩

theorem PR.imp {u : α} (p : PR R c S f ι ρ γ s Q u s') (hQ : ∀ v σ', Q v σ' → Q' v σ') : PR R c S f ι ρ γ s Q' u s' := by
  cases p with | mk v σ' ι' h' tk e a b d q => exact ⟨v, σ', ι', h', tk, e, a, b, d, hQ v σ' q⟩
theorem PX.imp {ev : Value} (p : PX c S f ι ρ γ s X ev s') (hX : ∀ C σ', X C σ' → X' C σ') : PX c S f ι ρ γ s X' ev s' := by
  cases p with | mk C ea hb σ' ι' h' tk e1 e a b d q => exact ⟨C, ea, hb, σ', ι', h', tk, e1, e, a, b, d, hX C σ' q⟩
theorem W.mono (p : W R c S t ρ γ Q X σ) (hQ : ∀ v σ', Q v σ' → Q' v σ') (hX : ∀ C σ', X C σ' → X' C σ') : W R c S t ρ γ Q' X' σ := fun f ι s x =>
  wpAny_mono (p f ι s x) (fun _ _ p => p.imp hQ) fun _ _ p => p.imp hX
theorem W.imp (p : W R c S t ρ γ Q X σ) (hQ : ∀ v σ', Q v σ' → Q' v σ') : W R c S t ρ γ Q' X σ := p.mono hQ fun _ _ q => q

theorem PR.here {u : α} {v : β} {h' : Heap} (x : Sit c S f ι ρ γ σ s.heap) (k : ∀ b o, s.heap.get? b = some o → h'.get? b = some o) (r : R ι h' v u) (q : Q v σ) : PR R c S f ι ρ γ s Q u { s with heap := h', toks := tk } :=
  ⟨v, σ, ι, h', tk, rfl, .of_keeps k, x.keeps k, r, q⟩
theorem PR.now {u : α} {v : β} (x : Sit c S f ι ρ γ σ s.heap) (r : R ι s.heap v u) (q : Q v σ) : PR R c S f ι ρ γ s Q u s :=
  ⟨v, σ, ι, s.heap, s.toks, rfl, .refl _ _, x, r, q⟩
theorem PR.tok {u : α} {v : β} (x : Sit c S f ι ρ γ σ s.heap) (r : R ι s.heap v u) (q : Q v σ) : PR R c S f ι ρ γ s Q u { s with toks := tk } :=
  ⟨v, σ, ι, s.heap, tk, rfl, .refl _ _, x, r, q⟩
end

def W1 {α β : Type} (R : List Addr → Heap → β → α → Prop) (c : C0) (S : Stt) (k : Value → Sem α) (a : V) (ρ γ : List (Str × V)) (Q : β → List O → Prop) (X : Addr → List O → Prop) (σ : List O) : Prop :=
  ∀ f ι s u, Sit c S f ι ρ γ σ s.heap → VR ι s.heap a u → wpAny c.M f.A (k u) (PR R c S f ι ρ γ s Q) (PX c S f ι ρ γ s X) s
def W2 {α β : Type} (R : List Addr → Heap → β → α → Prop) (c : C0) (S : Stt) (k : Value → Value → Sem α) (a b : V) (ρ γ : List (Str × V)) (Q : β → List O → Prop) (X : Addr → List O → Prop) (σ : List O) : Prop :=
  ∀ f ι s u v, Sit c S f ι ρ γ σ s.heap → VR ι s.heap a u → VR ι s.heap b v → wpAny c.M f.A (k u v) (PR R c S f ι ρ γ s Q) (PX c S f ι ρ γ s X) s
def WL {α β : Type} (R : List Addr → Heap → β → α → Prop) (c : C0) (S : Stt) (k : List Value → Sem α) (as : List V) (ρ γ : List (Str × V)) (Q : β → List O → Prop) (X : Addr → List O → Prop) (σ : List O) : Prop :=
  ∀ f ι s us, Sit c S f ι ρ γ σ s.heap → VRs ι s.heap as us → wpAny c.M f.A (k us) (PR R c S f ι ρ γ s Q) (PX c S f ι ρ γ s X) s

abbrev RB : List Addr → Heap → Bool → Bool → Prop := fun _ _ b b' => b = b'

section
variable {c : C0} {S : Stt} {ρ γ : List (Str × V)} {σ : List O} {Q : V → List O → Prop} {QB : Bool → List O → Prop} {X : Addr → List O → Prop}

theorem name_L {x : Str} {pos : Pos} {v : V} (hv : ρ.lookup x = some v) (hk : S.kd x = some .local) (q : Q v σ) (hd : (x == ("__debug__" : Str)) = false := by decide) : WE c S (.Name x pos) ρ γ Q X σ := fun f ι s w => by
  obtain ⟨m, hm, hr⟩ := w.loc
  obtain ⟨u, e1, e2⟩ := hr x v hv
  exact wpAny_Name (wpAny_loadName_local w.kind ((w.kinds x).trans hk) hm e1 (.now w e2 q)) hd
theorem name_C {x : Str} {pos : Pos} {v : V} (hv : γ.lookup x = some v) (hk : S.kd x = some .cell) (q : Q v σ) (hd : (x == ("__debug__" : Str)) = false := by decide) : WE c S (.Name x pos) ρ γ Q X σ := fun f ι s w => by
  obtain ⟨a, u, e1, e2, e3⟩ := w.cel x v hv
  exact wpAny_Name (wpAny_loadName_cell w.kind ((w.kinds x).trans hk) e1 e2 (.now w e3 q)) hd
theorem name_G {x : Str} {pos : Pos} {v : V} {u : Value} (hk : S.kd x = some .globalImplicit) (hg : c.mg x = some u) (hr : ∀ ι h, VR ι h v u) (q : Q v σ) (hd : (x == ("__debug__" : Str)) = false := by decide) : WE c S (.Name x pos) ρ γ Q X σ := fun f ι s w => by
  refine Name_function_global w.kind ((w.kinds x).trans hk) (loadGlobal_global (mg := c.mg) ?_ hg (.now w (hr _ _) q)) hd
  rw [w.glob]; exact w.gr.g.keeps w.base

theorem const_int {i : Int} {k : Nat} {pos : Pos} (q : Q (.int i) σ) : WE c S (.Constant (.int i) k pos) ρ γ Q X σ := fun f ι s w => wpAny_Constant_int (.tok w (.int _ _) q)
theorem const_bool {b : Bool} {k : Nat} {pos : Pos} (q : Q (.bool b) σ) : WE c S (.Constant (.bool b) k pos) ρ γ Q X σ := fun f ι s w => fun _ _ _ => PR.now w (.bool _) q
theorem const_none {k : Nat} {pos : Pos} (q : Q .none σ) : WE c S (.Constant .none k pos) ρ γ Q X σ := fun f ι s w => fun _ _ _ => PR.now w .none q

theorem nest2 {l r : Env → Sem Value} {f : Fm} {ι : List Addr} {s : Shared} {G : V → V → List O → Prop} {T : Value → Value → Shared → Prop} (w : Sit c S f ι ρ γ σ s.heap)
    (h : W VR c S l ρ γ (fun a σ₁ => W VR c S r ρ γ (fun b σ₂ => G a b σ₂) X σ₁) X σ)
    (n : ∀ u v a b σ₂ ι₂ h₂ tk₂, Aft ι s.heap ι₂ h₂ → Sit c S f ι₂ ρ γ σ₂ h₂ → VR ι₂ h₂ a u → VR ι₂ h₂ b v → G a b σ₂ → T u v { s with heap := h₂, toks := tk₂ }) :
    wpAny c.M f.A (l f.env) (fun a s₁ => wpAny c.M f.A (r f.env) (fun b s₂ => T a b s₂) (PX c S f ι ρ γ s X) s₁) (PX c S f ι ρ γ s X) s := by
  refine wpAny_mono (h f ι s w) (fun u s₁ p => ?_) fun _ _ p => p
  obtain ⟨a, σ₁, ι₁, h₁, tk₁, rfl, A₁, w₁, va, q₁⟩ := p
  refine wpAny_mono (q₁ f ι₁ _ w₁) (fun v s₂ p => ?_) fun _ _ p => p.trans rfl A₁
  obtain ⟨b, σ₂, ι₂, h₂, tk₂, rfl, A₂, w₂, vb, q₂⟩ := p
  exact n u v a b σ₂ ι₂ h₂ tk₂ (A₁.trans A₂) w₂ (va.mono w₁.mu A₂) vb q₂
theorem bind1 {α β : Type} {R : List Addr → Heap → β → α → Prop} {α' β' : Type} {R' : List Addr → Heap → β' → α' → Prop} {Qr : β' → List O → Prop} {Q₁ : β → List O → Prop} {m : Sem α} {k : α → Sem α'} {f : Fm} {ι : List Addr} {s : Shared}
    (h : wpAny c.M f.A m (PR R c S f ι ρ γ s Q₁) (PX c S f ι ρ γ s X) s)
    (n : ∀ u v σ₁ ι₁ s₁, Aft ι s.heap ι₁ s₁.heap → Sit c S f ι₁ ρ γ σ₁ s₁.heap → R ι₁ s₁.heap v u → Q₁ v σ₁ → wpAny c.M f.A (k u) (PR R' c S f ι₁ ρ γ s₁ Qr) (PX c S f ι₁ ρ γ s₁ X) s₁) :
    wpAny c.M f.A m (fun a s₁ => wpAny c.M f.A (k a) (PR R' c S f ι ρ γ s Qr) (PX c S f ι ρ γ s X) s₁) (PX c S f ι ρ γ s X) s := by
  refine wpAny_mono h (fun u s₁ p => ?_) fun _ _ p => p
  obtain ⟨a, σ₁, ι₁, h₁, tk₁, rfl, A₁, w₁, va, q₁⟩ := p
  exact wpAny_mono (n u a σ₁ ι₁ { s with heap := h₁, toks := tk₁ } A₁ w₁ va q₁) (fun _ _ p => p.trans rfl A₁) fun _ _ p => p.trans rfl A₁
theorem lift1 {α β : Type} {R : List Addr → Heap → β → α → Prop} {Qr : β → List O → Prop} {m : Sem α} {f : Fm} {ι ι₁ : List Addr} {s : Shared} {h₁ : Heap} {tk : Nat} (A : Aft ι s.heap ι₁ h₁)
    (h : wpAny c.M f.A m (PR R c S f ι₁ ρ γ { s with heap := h₁, toks := tk } Qr) (PX c S f ι₁ ρ γ { s with heap := h₁, toks := tk } X) { s with heap := h₁, toks := tk }) :
    wpAny c.M f.A m (PR R c S f ι ρ γ s Qr) (PX c S f ι ρ γ s X) { s with heap := h₁, toks := tk } := wpAny_mono h (fun _ _ p => p.trans rfl A) fun _ _ p => p.trans rfl A

abbrev K2 (c : C0) (S : Stt) (k : Value → Value → Sem Value) (ρ γ : List (Str × V)) (Q : V → List O → Prop) (X : Addr → List O → Prop) (a : V) : V → List O → Prop := fun b σ₂ => W2 VR c S k a b ρ γ Q X σ₂
abbrev KB (c : C0) (S : Stt) (r : Expr) (k : Value → Value → Sem Value) (ρ γ : List (Str × V)) (Q : V → List O → Prop) (X : Addr → List O → Prop) : V → List O → Prop := fun a σ₁ => WE c S r ρ γ (K2 c S k ρ γ Q X a) X σ₁
abbrev KT (c : C0) (S : Stt) (ρ γ : List (Str × V)) (Q : Bool → List O → Prop) (X : Addr → List O → Prop) : V → List O → Prop := fun t σ₃ => W1 RB c S truthy t ρ γ Q X σ₃
abbrev KU (c : C0) (S : Stt) (k : Value → Sem Value) (ρ γ : List (Str × V)) (Q : V → List O → Prop) (X : Addr → List O → Prop) : V → List O → Prop := fun a σ₁ => W1 VR c S k a ρ γ Q X σ₁
theorem binOp {l r : Expr} {op : Operator} {pos : Pos} (h : WE c S l ρ γ (KB c S r (binaryOp op) ρ γ Q X) X σ) : WE c S (.BinOp l op r pos) ρ γ Q X σ :=
  fun f ι s w => wpAny_BinOp (nest2 (l := fun env => eval l env) (r := fun env => eval r env) w h fun u v a b σ₂ ι₂ h₂ tk₂ A w₂ hu hv g => lift1 A (g f ι₂ _ u v w₂ hu hv))
theorem cmp1 {l r : Expr} {op : CmpOp} {pos : Pos} (h : WE c S l ρ γ (KB c S r (compareOp op) ρ γ Q X) X σ) (hm : behindInMarks op r = false := by with_unfolding_all rfl) : WE c S (.Compare l [op] [r] pos) ρ γ Q X σ :=
  fun f ι s w => wpAny_Compare1 (nest2 (l := fun env => eval l env) (r := fun env => eval r env) w h fun u v a b σ₂ ι₂ h₂ tk₂ A w₂ hu hv g => lift1 A (g f ι₂ _ u v w₂ hu hv)) hm
theorem tst1 {l r : Expr} {op : CmpOp} {pos : Pos} (h : WE c S l ρ γ (KB c S r (compareOp op) ρ γ (KT c S ρ γ QB X) X) X σ) (hm : behindInMarks op r = false := by with_unfolding_all rfl) :
    WB c S (.Compare l [op] [r] pos) ρ γ QB X σ := fun f ι s w =>
  wpAny_isTrue_Compare1 (nest2 (l := fun env => eval l env) (r := fun env => eval r env) w h fun u v a b σ₂ ι₂ h₂ tk₂ A w₂ hu hv g => by
    refine wpAny_mono (g f ι₂ { s with heap := h₂, toks := tk₂ } u v w₂ hu hv) (fun t s₃ p => ?_) fun _ _ p => p.trans rfl A
    obtain ⟨tv, σ₃, ι₃, h₃, tk₃, rfl, A₃, w₃, vt, q₃⟩ := p
    exact lift1 (A.trans A₃) (q₃ f ι₃ _ t w₃ vt)) hm
theorem unOp {x : Expr} {op : UnaryOp} {pos : Pos} (h : WE c S x ρ γ (KU c S (unaryOp op) ρ γ Q X) X σ) : WE c S (.UnaryOp op x pos) ρ γ Q X σ :=
  fun f ι s w => wpAny_UnaryOp (bind1 (R := VR) (h f ι s w) fun u v σ₁ ι₁ s₁ _ w₁ r q => q f ι₁ s₁ u w₁ r)
theorem tstP {e : Expr} (h : WE c S e ρ γ (KT c S ρ γ QB X) X σ) (he : ∀ (env : Env) (whole : Sem Value), isTrue e env whole = (do let v ← whole; standAt e.pos; holding [v] (truthy v)) := by intro _ _; rfl) : WB c S e ρ γ QB X σ :=
  fun f ι s w => isTrue_plain (bind1 (R := VR) (h f ι s w) fun u v σ₁ ι₁ s₁ _ w₁ r q => q f ι₁ s₁ u w₁ r) (he _ _)
theorem tstNot {x : Expr} {pos : Pos} (h : WB c S x ρ γ (fun b σ₁ => QB (!b) σ₁) X σ) : WB c S (.UnaryOp .Not x pos) ρ γ QB X σ := fun f ι s w =>
  isTrue_not (wpAny_mono (h f ι s w) (fun u s₁ ⟨v, σ₁, ι₁, h₁, tk, e, a, b, d, q⟩ => ⟨!v, σ₁, ι₁, h₁, tk, e, a, b, congrArg _ d, q⟩) fun _ _ p => p)
theorem tstAnd0 {pos : Pos} (q : QB true σ) : WB c S (.BoolOp .And [] pos) ρ γ QB X σ := fun f ι s w => isTrue_and_nil (.now w rfl q)
theorem tstOr0 {pos : Pos} (q : QB false σ) : WB c S (.BoolOp .Or [] pos) ρ γ QB X σ := fun f ι s w => isTrue_or_nil (.now w rfl q)
end

section
variable {c : C0} {S : Stt} {ρ γ : List (Str × V)} {σ : List O} {Q : V → List O → Prop} {QB : Bool → List O → Prop} {X : Addr → List O → Prop}
theorem truth_bool {b : Bool} (q : QB b σ) : W1 RB c S truthy (.bool b) ρ γ QB X σ := fun f ι s u w hu => by cases hu; exact wpAny_truthy_bool (.now w rfl q)
theorem truth_int {i : Int} (q : QB (i != 0) σ) : W1 RB c S truthy (.int i) ρ γ QB X σ := fun f ι s u w hu => by cases hu; exact truthy_int (.now w rfl q)
theorem add_ii {a b : Int} (q : Q (.int (a + b)) σ) : W2 VR c S (binaryOp .Add) (.int a) (.int b) ρ γ Q X σ := fun f ι s u v w hu hv => by cases hu; cases hv; exact add_int (.tok w (.int _ _) q)
theorem sub_ii {a b : Int} (q : Q (.int (a - b)) σ) : W2 VR c S (binaryOp .Sub) (.int a) (.int b) ρ γ Q X σ := fun f ι s u v w hu hv => by cases hu; cases hv; exact sub_int (.tok w (.int _ _) q)
theorem mul_ii {a b : Int} (hm : IntMulOk a b) (q : Q (.int (a * b)) σ) : W2 VR c S (binaryOp .Mult) (.int a) (.int b) ρ γ Q X σ := fun f ι s u v w hu hv => by cases hu; cases hv; exact mul_int (.tok w (.int _ _) q) hm
theorem fdiv_ii {a b : Int} (hb : b ≠ 0) (hp : Builtin.divisionGoesByPylong a b = false) (q : Q (.int (a.fdiv b)) σ) : W2 VR c S (binaryOp .FloorDiv) (.int a) (.int b) ρ γ Q X σ := fun f ι s u v w hu hv => by cases hu; cases hv; exact floordiv_int hb (.tok w (.int _ _) q) (.inl hp)
theorem fmod_ii {a b : Int} (hb : b ≠ 0) (q : Q (.int (a.fmod b)) σ) : W2 VR c S (binaryOp .Mod) (.int a) (.int b) ρ γ Q X σ := fun f ι s u v w hu hv => by cases hu; cases hv; exact mod_int' hb (.tok w (.int _ _) q)
theorem neg_i {a : Int} (q : Q (.int (-a)) σ) : W1 VR c S (unaryOp .USub) (.int a) ρ γ Q X σ := fun f ι s u w hu => by cases hu; exact neg_int (.tok w (.int _ _) q)
theorem not_b {b : Bool} (q : Q (.bool (!b)) σ) : W1 VR c S (unaryOp .Not) (.bool b) ρ γ Q X σ := fun f ι s u w hu => by cases hu; exact not_of (wpAny_truthy_bool (.now w (.bool _) q))
theorem eq_ii {a b : Int} (q : Q (.bool (a == b)) σ) : W2 VR c S (compareOp .Eq) (.int a) (.int b) ρ γ Q X σ := fun f ι s u v w hu hv => by cases hu; cases hv; exact eq_int (.now w (.bool _) q)
theorem ne_ii {a b : Int} (q : Q (.bool (a != b)) σ) : W2 VR c S (compareOp .NotEq) (.int a) (.int b) ρ γ Q X σ := fun f ι s u v w hu hv => by cases hu; cases hv; exact ne_int (.now w (.bool _) q)
theorem lt_ii {a b : Int} (q : Q (.bool (decide (a < b))) σ) : W2 VR c S (compareOp .Lt) (.int a) (.int b) ρ γ Q X σ := fun f ι s u v w hu hv => by cases hu; cases hv; exact lt_int (.now w (.bool _) q)
theorem le_ii {a b : Int} (q : Q (.bool (decide (a ≤ b))) σ) : W2 VR c S (compareOp .LtE) (.int a) (.int b) ρ γ Q X σ := fun f ι s u v w hu hv => by cases hu; cases hv; exact le_int (.now w (.bool _) q)
theorem gt_ii {a b : Int} (q : Q (.bool (decide (b < a))) σ) : W2 VR c S (compareOp .Gt) (.int a) (.int b) ρ γ Q X σ := fun f ι s u v w hu hv => by cases hu; cases hv; exact gt_int (.now w (.bool _) q)
theorem ge_ii {a b : Int} (q : Q (.bool (decide (b ≤ a))) σ) : W2 VR c S (compareOp .GtE) (.int a) (.int b) ρ γ Q X σ := fun f ι s u v w hu hv => by cases hu; cases hv; exact ge_int (.now w (.bool _) q)
end

theorem VRs.length {ι : List Addr} {h : Heap} : ∀ {l : List V} {us : List Value}, VRs ι h l us → us.length = l.length
  | _, _, .nil => rfl
  | _, _, .cons _ y => by rw [List.length_cons, List.length_cons, y.length]
theorem VRs.get {ι : List Addr} {h : Heap} : ∀ {l : List V} {us : List Value} {k : Nat} {v : V}, VRs ι h l us → l[k]? = some v → ∃ u, us[k]? = some u ∧ VR ι h v u
  | _, _, 0, _, .cons x _, e => ⟨_, rfl, by simpa using (Option.some.inj (by simpa using e)) ▸ x⟩
  | _, _, k + 1, _, .cons _ y, e => by
    obtain ⟨u, e1, e2⟩ := y.get (k := k) (by simpa using e)
    exact ⟨u, by simpa using e1, e2⟩
theorem VRs.append {ι : List Addr} {h : Heap} : ∀ {l l' : List V} {us us' : List Value}, VRs ι h l us → VRs ι h l' us' → VRs ι h (l ++ l') (us ++ us')
  | _, _, _, _, .nil, y => y
  | _, _, _, _, .cons x r, y => .cons x (r.append y)
theorem VRs.take {ι : List Addr} {h : Heap} : ∀ {l : List V} {us : List Value} (k : Nat), VRs ι h l us → VRs ι h (l.take k) (us.take k)
  | _, _, 0, _ => by simpa using VRs.nil
  | _, _, _ + 1, .nil => by simpa using VRs.nil
  | _, _, k + 1, .cons x y => by simpa using VRs.cons x (y.take k)
theorem VRs.drop {ι : List Addr} {h : Heap} : ∀ {l : List V} {us : List Value} (k : Nat), VRs ι h l us → VRs ι h (l.drop k) (us.drop k)
  | _, _, 0, x => by simpa using x
  | _, _, _ + 1, .nil => by simpa using VRs.nil
  | _, _, k + 1, .cons _ y => by simpa using y.drop k
theorem VRs.set {ι : List Addr} {h : Heap} {v : V} {u : Value} (q : VR ι h v u) : ∀ {l : List V} {us : List Value} (k : Nat), VRs ι h l us → VRs ι h (l.set k v) (us.set k u)
  | _, _, _, .nil => by simpa using VRs.nil
  | _, _, 0, .cons _ y => by simpa using VRs.cons q y
  | _, _, k + 1, .cons x y => by simpa using VRs.cons x (y.set q k)

section
variable {c : C0} {S : Stt} {ρ γ : List (Str × V)} {σ : List O} {Q : V → List O → Prop} {QB : Bool → List O → Prop} {X : Addr → List O → Prop}

theorem cont {α β : Type} {R : List Addr → Heap → β → α → Prop} {Qr : β → List O → Prop} {t : Env → Sem α} {f : Fm} {ι ι₁ : List Addr} {s : Shared} {h₁ : Heap} {tk : Nat} {σ₁ : List O} (A : Aft ι s.heap ι₁ h₁) (w : Sit c S f ι₁ ρ γ σ₁ h₁)
    (h : W R c S t ρ γ Qr X σ₁) : wpAny c.M f.A (t f.env) (PR R c S f ι ρ γ s Qr) (PX c S f ι ρ γ s X) { s with heap := h₁, toks := tk } := lift1 A (h f ι₁ _ w)

abbrev KAn (c : C0) (S : Stt) (rest : List Expr) (pos : Pos) (ρ γ : List (Str × V)) (QB : Bool → List O → Prop) (X : Addr → List O → Prop) : Bool → List O → Prop := fun b σ₁ => if b = true then WB c S (.BoolOp .And rest pos) ρ γ QB X σ₁ else QB false σ₁
abbrev KOr (c : C0) (S : Stt) (rest : List Expr) (pos : Pos) (ρ γ : List (Str × V)) (QB : Bool → List O → Prop) (X : Addr → List O → Prop) : Bool → List O → Prop := fun b σ₁ => if b = true then QB true σ₁ else WB c S (.BoolOp .Or rest pos) ρ γ QB X σ₁
abbrev KBa (c : C0) (S : Stt) (es : List Expr) (pos : Pos) (ρ γ : List (Str × V)) (Q : V → List O → Prop) (X : Addr → List O → Prop) (v : V) : Bool → List O → Prop := fun b σ₂ => if b = true then WE c S (.BoolOp .And es pos) ρ γ Q X σ₂ else Q v σ₂
abbrev KBA (c : C0) (S : Stt) (es : List Expr) (pos : Pos) (ρ γ : List (Str × V)) (Q : V → List O → Prop) (X : Addr → List O → Prop) : V → List O → Prop := fun v σ₁ => W1 RB c S truthy v ρ γ (KBa c S es pos ρ γ Q X v) X σ₁
theorem tstAnd {x : Expr} {rest : List Expr} {pos : Pos} (h : WB c S x ρ γ (KAn c S rest pos ρ γ QB X) X σ) : WB c S (.BoolOp .And (x :: rest) pos) ρ γ QB X σ := fun f ι s w => by
  refine isTrue_and (wpAny_mono (h f ι s w) (fun u s₁ p => ?_) fun _ _ p => p)
  obtain ⟨b, σ₁, ι₁, h₁, tk, rfl, A, w₁, rfl, q⟩ := p
  cases b with
  | false => exact ⟨false, σ₁, ι₁, h₁, tk, rfl, A, w₁, rfl, q⟩
  | true => exact cont (R := RB) (t := fun env => isTrue (.BoolOp .And rest pos) env (eval (.BoolOp .And rest pos) env)) A w₁ q
theorem tstOr {x : Expr} {rest : List Expr} {pos : Pos} (h : WB c S x ρ γ (KOr c S rest pos ρ γ QB X) X σ) : WB c S (.BoolOp .Or (x :: rest) pos) ρ γ QB X σ := fun f ι s w => by
  refine isTrue_or (wpAny_mono (h f ι s w) (fun u s₁ p => ?_) fun _ _ p => p)
  obtain ⟨b, σ₁, ι₁, h₁, tk, rfl, A, w₁, rfl, q⟩ := p
  cases b with
  | true => exact ⟨true, σ₁, ι₁, h₁, tk, rfl, A, w₁, rfl, q⟩
  | false => exact cont (R := RB) (t := fun env => isTrue (.BoolOp .Or rest pos) env (eval (.BoolOp .Or rest pos) env)) A w₁ q
theorem ifExp {test body orelse : Expr} {pos : Pos} (h : WB c S test ρ γ (fun b σ₁ => if b = true then WE c S body ρ γ Q X σ₁ else WE c S orelse ρ γ Q X σ₁) X σ) : WE c S (.IfExp test body orelse pos) ρ γ Q X σ := fun f ι s w => by
  refine IfExp_ (wpAny_mono (h f ι s w) (fun u s₁ p => ?_) fun _ _ p => p)
  obtain ⟨b, σ₁, ι₁, h₁, tk, rfl, A, w₁, rfl, q⟩ := p
  cases b with
  | true => exact cont (R := VR) (t := fun env => eval body env) A w₁ q
  | false => exact cont (R := VR) (t := fun env => eval orelse env) A w₁ q
theorem boolOp1 {op : BoolOp} {e : Expr} {pos : Pos} (h : WE c S e ρ γ Q X σ) : WE c S (.BoolOp op [e] pos) ρ γ Q X σ := fun f ι s w => BoolOp_one (h f ι s w)
theorem boolAnd {e₁ e₂ : Expr} {rest : List Expr} {pos : Pos} (h : WE c S e₁ ρ γ (KBA c S (e₂ :: rest) pos ρ γ Q X) X σ) :
    WE c S (.BoolOp .And (e₁ :: e₂ :: rest) pos) ρ γ Q X σ := fun f ι s w => by
  refine BoolOp_and (wpAny_mono (h f ι s w) (fun u s₁ p => ?_) fun _ _ p => p)
  obtain ⟨v, σ₁, ι₁, h₁, tk, rfl, A, w₁, r₁, q⟩ := p
  refine wpAny_mono (q f ι₁ { s with heap := h₁, toks := tk } u w₁ r₁) (fun b s₂ p => ?_) fun _ _ p => p.trans rfl A
  obtain ⟨b', σ₂, ι₂, h₂, tk₂, rfl, A₂, w₂, rfl, q₂⟩ := p
  cases b' with
  | false => exact ⟨v, σ₂, ι₂, h₂, tk₂, rfl, A.trans A₂, w₂, r₁.mono w₁.mu A₂, q₂⟩
  | true => exact cont (R := VR) (t := fun env => eval (.BoolOp .And (e₂ :: rest) pos) env) (A.trans A₂) w₂ q₂
theorem boolOr {e₁ e₂ : Expr} {rest : List Expr} {pos : Pos} (h : WE c S e₁ ρ γ (fun v σ₁ => W1 RB c S truthy v ρ γ (fun b σ₂ => if b = true then Q v σ₂ else WE c S (.BoolOp .Or (e₂ :: rest) pos) ρ γ Q X σ₂) X σ₁) X σ) :
    WE c S (.BoolOp .Or (e₁ :: e₂ :: rest) pos) ρ γ Q X σ := fun f ι s w => by
  refine BoolOp_or (wpAny_mono (h f ι s w) (fun u s₁ p => ?_) fun _ _ p => p)
  obtain ⟨v, σ₁, ι₁, h₁, tk, rfl, A, w₁, r₁, q⟩ := p
  refine wpAny_mono (q f ι₁ { s with heap := h₁, toks := tk } u w₁ r₁) (fun b s₂ p => ?_) fun _ _ p => p.trans rfl A
  obtain ⟨b', σ₂, ι₂, h₂, tk₂, rfl, A₂, w₂, rfl, q₂⟩ := p
  cases b' with
  | true => exact ⟨v, σ₂, ι₂, h₂, tk₂, rfl, A.trans A₂, w₂, r₁.mono w₁.mu A₂, q₂⟩
  | false => exact cont (R := VR) (t := fun env => eval (.BoolOp .Or (e₂ :: rest) pos) env) (A.trans A₂) w₂ q₂

theorem const_str {x : Str} {k : Nat} {pos : Pos} (q : Q (.str x) σ) : WE c S (.Constant (.str x) k pos) ρ γ Q X σ := fun f ι s w => Constant_str (.tok w (.str _ _) q)

abbrev WA (c : C0) (S : Stt) (pos : Pos) (es : List Expr) (ρ γ : List (Str × V)) (Q : List V → List O → Prop) (X : Addr → List O → Prop) (σ : List O) : Prop := W VRs c S (fun env => spliced (backTo pos (starEach es env))) ρ γ Q X σ
abbrev KC (Q : List V → List O → Prop) (v : V) : List V → List O → Prop := fun vs σ₂ => Q (v :: vs) σ₂
abbrev KA (c : C0) (S : Stt) (pos : Pos) (rest : List Expr) (ρ γ : List (Str × V)) (Q : List V → List O → Prop) (X : Addr → List O → Prop) : V → List O → Prop := fun v σ₁ => WA c S pos rest ρ γ (KC Q v) X σ₁
abbrev KL (c : C0) (S : Stt) (k : List Value → Sem Value) (ρ γ : List (Str × V)) (Q : V → List O → Prop) (X : Addr → List O → Prop) : List V → List O → Prop := fun vs σ₁ => WL VR c S k vs ρ γ Q X σ₁
theorem args0 {pos : Pos} {Q : List V → List O → Prop} (q : Q [] σ) : WA c S pos [] ρ γ Q X σ := fun f ι s w => args_nil (.now w .nil q)
theorem argsC {pos : Pos} {e : Expr} {rest : List Expr} {Q : List V → List O → Prop} (h : WE c S e ρ γ (KA c S pos rest ρ γ Q X) X σ)
    (he : ∀ env, starEach (e :: rest) env = (false, eval e env) :: starEach rest env := by intro _; rfl) : WA c S pos (e :: rest) ρ γ Q X σ := fun f ι s w => by
  refine args_cons (wpAny_mono (h f ι s w) (fun u s₁ p => ?_) fun _ _ p => p) (he _)
  obtain ⟨v, σ₁, ι₁, h₁, tk, rfl, A, w₁, r₁, q⟩ := p
  refine wpAny_mono (q f ι₁ _ w₁) (fun us s₂ p => ?_) fun _ _ p => p.trans rfl A
  obtain ⟨vs, σ₂, ι₂, h₂, tk₂, rfl, A₂, w₂, r₂, q₂⟩ := p
  exact ⟨v :: vs, σ₂, ι₂, h₂, tk₂, rfl, A.trans A₂, w₂, .cons (r₁.mono w₁.mu A₂) r₂, q₂⟩

theorem callFn {x : Str} {p pos : Pos} {e : Expr} {rest : List Expr} {a : Addr} {o : Obj} {fd : FuncData} (hk : S.kd x = some .globalImplicit) (hg : c.mg x = some (.ref a)) (ho : c.base.get? a = some o) (hd : o.data = .func fd)
    (h : WA c S pos (e :: rest) ρ γ (KL c S (fun us => call (.ref a) us) ρ γ Q X) X σ)
    (he : ∀ env, starEach (e :: rest) env = (false, eval e env) :: starEach rest env := by intro _; rfl) (hb : (x == ("__debug__" : Str)) = false := by decide)
    (hc : ∀ env, eval (.Call (.Name x p) (e :: rest) [] pos) env = (do callWith pos (← eval (.Name x p) env) [] (backTo pos (starEach (e :: rest) env)) (backToKw pos (keywordEach [] env))) := by intro _; rfl) :
    WE c S (.Call (.Name x p) (e :: rest) [] pos) ρ γ Q X σ := fun f ι s w => by
  refine Call_ (Name_function_global w.kind ((w.kinds x).trans hk) (loadGlobal_global (mg := c.mg) (by rw [w.glob]; exact w.gr.g.keeps w.base) hg ?_) hb) (hc _)
  refine callWith_def hd (wpAny_mono (h f ι s w) (fun us s₁ p => ?_) fun _ _ p => p) (he _)
  obtain ⟨vs, σ₁, ι₁, h₁, tk, rfl, A, w₁, r₁, q⟩ := p
  exact ⟨w₁.base _ _ ho, lift1 A (q f ι₁ _ us w₁ r₁)⟩
theorem callBu {x : Str} {p pos : Pos} {e : Expr} {rest : List Expr} {id : String} (hk : S.kd x = some .globalImplicit) (hg : c.mg x = none) (hv : bootBuiltins x = some (.builtin id)) (hn : x ≠ "__name__")
    (h : WA c S pos (e :: rest) ρ γ (KL c S (fun us => call (.builtin id) us) ρ γ Q X) X σ)
    (he : ∀ env, starEach (e :: rest) env = (false, eval e env) :: starEach rest env := by intro _; rfl) (hpl : ∀ env, (backTo pos (starEach rest env)).any (·.1) = false := by intro _; rfl) (hb : (x == ("__debug__" : Str)) = false := by decide)
    (hc : ∀ env, eval (.Call (.Name x p) (e :: rest) [] pos) env = (do callWith pos (← eval (.Name x p) env) [] (backTo pos (starEach (e :: rest) env)) (backToKw pos (keywordEach [] env))) := by intro _; rfl) :
    WE c S (.Call (.Name x p) (e :: rest) [] pos) ρ γ Q X σ := fun f ι s w => by
  refine Call_ (Name_function_global w.kind ((w.kinds x).trans hk) (loadGlobal_builtin (mg := c.mg) (mb := c.mb) (by rw [w.glob]; exact w.gr.g.keeps w.base) hg (by rw [w.blt]; exact w.gr.b.keeps w.base) ((w.gr.builtins x hn).trans hv) ?_) hb) (hc _)
  refine callWith_builtin1 (wpAny_mono (h f ι s w) (fun us s₁ p => ?_) fun _ _ p => p) (he _) (hpl _)
  obtain ⟨vs, σ₁, ι₁, h₁, tk, rfl, A, w₁, r₁, q⟩ := p
  exact lift1 A (q f ι₁ _ us w₁ r₁)
theorem callTy {x : Str} {p pos : Pos} {e : Expr} {rest : List Expr} {T : String} (hk : S.kd x = some .globalImplicit) (hg : c.mg x = none) (hv : bootBuiltins x = some (.type T)) (hn : x ≠ "__name__")
    (h : WA c S pos (e :: rest) ρ γ (KL c S (fun us => call (.type T) us) ρ γ Q X) X σ)
    (he : ∀ env, starEach (e :: rest) env = (false, eval e env) :: starEach rest env := by intro _; rfl) (hpl : ∀ env, (backTo pos (starEach rest env)).any (·.1) = false := by intro _; rfl) (hb : (x == ("__debug__" : Str)) = false := by decide)
    (hc : ∀ env, eval (.Call (.Name x p) (e :: rest) [] pos) env = (do callWith pos (← eval (.Name x p) env) [] (backTo pos (starEach (e :: rest) env)) (backToKw pos (keywordEach [] env))) := by intro _; rfl) :
    WE c S (.Call (.Name x p) (e :: rest) [] pos) ρ γ Q X σ := fun f ι s w => by
  refine Call_ (Name_function_global w.kind ((w.kinds x).trans hk) (loadGlobal_builtin (mg := c.mg) (mb := c.mb) (by rw [w.glob]; exact w.gr.g.keeps w.base) hg (by rw [w.blt]; exact w.gr.b.keeps w.base) ((w.gr.builtins x hn).trans hv) ?_) hb) (hc _)
  refine callWith_type1 (wpAny_mono (h f ι s w) (fun us s₁ p => ?_) fun _ _ p => p) (he _) (hpl _)
  obtain ⟨vs, σ₁, ι₁, h₁, tk, rfl, A, w₁, r₁, q⟩ := p
  exact lift1 A (q f ι₁ _ us w₁ r₁)

theorem subscr {value slice : Expr} {pos : Pos} (h : WE c S value ρ γ (KB c S slice (subscriptTail value slice) ρ γ Q X) X σ) : WE c S (.Subscript value slice pos) ρ γ Q X σ :=
  fun f ι s w => Subscript_ (nest2 (l := fun env => eval value env) (r := fun env => eval slice env) w h fun u v a b σ₂ ι₂ h₂ tk₂ A w₂ hu hv g => lift1 A (g f ι₂ _ u v w₂ hu hv))

def O.items? : O → Option (List V)
  | .list l => some l
  | .ro l => some l
  | _ => none
theorem OR.items {ι : List Addr} {h : Heap} {o : O} {a : Addr} {l : List V} (x : OR c ι h o a) (e : o.items? = some l) : ∃ vs, h.IsList a vs.toArray ∧ VRs ι h l vs := by
  cases o with
  | list l' => cases e; obtain ⟨vs, n, e, r, _⟩ := x; exact ⟨vs, ⟨_, e, rfl, n, rfl⟩, r⟩
  | ro l' => cases e; exact x
  | inst => cases e
  | dict => cases e
theorem Sit.items {f : Fm} {ι : List Addr} {h : Heap} (w : Sit c S f ι ρ γ σ h) {i : Nat} {o : O} {a : Addr} {l : List V} (e1 : σ[i]? = some o) (e2 : o.items? = some l) (e3 : ι[i]? = some a) : ∃ vs, h.IsList a vs.toArray ∧ VRs ι h l vs := (w.sto i o a e1 e3).items e2

theorem item_list {value slice : Expr} {i : Nat} {k : Int} {o : O} {l : List V} {v : V} (h1 : σ[i]? = some o) (h2 : o.items? = some l) (h0 : 0 ≤ k) (hx : l[k.toNat]? = some v) (hf : k < 2 ^ 63) (q : Q v σ)
    (hs : ∀ o i, subscripted slice false o i = operate [o, i] (getItem o i) := by intro _ _; with_unfolding_all rfl) : W2 VR c S (subscriptTail value slice) (.ref i) (.int k) ρ γ Q X σ := fun f ι s u w' w hu hv => by
  cases hu with
  | ref hi =>
    cases hv
    obtain ⟨vs, hl, hr⟩ := w.items h1 h2 hi
    obtain ⟨u, e1, e2⟩ := hr.get hx
    exact tail_any hl.typeIs slot_list_getitem.lookup (wpAny_getItem_list hl h0 hf (by simpa using e1) (.now w e2 q)) (hs _ _)
theorem seqIndex_nonneg {k : Int} {n : Nat} (h0 : 0 ≤ k) (h1 : k < n) : seqIndex? k n = some k.toNat := by
  unfold seqIndex?
  simp only [show ¬ k < 0 by omega, if_false]
  first | rfl | (split <;> first | rfl | omega) | simp [h0, h1]
theorem item_tup {value slice : Expr} {k : Int} {l : List V} {v : V} (h0 : 0 ≤ k) (hx : l[k.toNat]? = some v) (hf : k < 2 ^ 63) (q : Q v σ)
    (hs : ∀ o i, subscripted slice false o i = operate [o, i] (getItem o i) := by intro _ _; with_unfolding_all rfl) : W2 VR c S (subscriptTail value slice) (.tup l) (.int k) ρ γ Q X σ := fun f ι s u w' w hu hv => by
  cases hu with
  | tup ht hr =>
    cases hv
    obtain ⟨u, e1, e2⟩ := hr.get hx
    refine item_tupleT ht (by omega) hf (seqIndex_nonneg h0 ?_) e1 (.now w e2 q) (hs _ _)
    have := (List.getElem?_eq_some_iff.mp e1).1
    omega
end

section
variable {c : C0} {S : Stt} {f : Fm} {ι ι' : List Addr} {ρ γ : List (Str × V)} {σ σ' : List O} {h h' : Heap}

theorem OR.other {X : Addr → Prop} (M : MuX X h) (p : ∃ t, ι' = ι ++ t) (k : Kp X h h') {o : O} {a : Addr} (e : ∀ ob, h.get? a = some ob → h'.get? a = some ob) (x : OR c ι h o a) : OR c ι' h' o a := by
  cases o with
  | list l => obtain ⟨vs, n, q, r, b⟩ := x; exact ⟨vs, n, e _ q, r.grow M p k, b⟩
  | ro l => obtain ⟨vs, q, r⟩ := x; exact ⟨vs, q.at fun o z => e o z, r.grow M p k⟩
  | inst C j =>
    obtain ⟨dx, q, z, b⟩ := x
    refine ⟨dx, ?_, e _ z, b⟩
    obtain ⟨t, rfl⟩ := p
    rw [List.getElem?_append_left (List.getElem?_eq_some_iff.mp q).1]; exact q
  | dict fs =>
    obtain ⟨es, n, q, r, b⟩ := x
    refine ⟨es, n, e _ q, ?_, b⟩
    clear q
    induction r with
    | nil => exact .nil
    | cons v _ ih => exact .cons (v.grow M p k) ih

theorem Sit.fresh (w : Sit c S f ι ρ γ σ h) : h.objs.size ∉ ι := fun q => by
  obtain ⟨i, hi, e⟩ := List.mem_iff_getElem.mp q
  have hs : i < σ.length := w.len ▸ hi
  have x := w.sto i σ[i] ι[i] (List.getElem?_eq_getElem hs) (List.getElem?_eq_getElem hi)
  rw [e] at x
  have no : ∀ ob, h.get? h.objs.size = some ob → False := fun ob z => Nat.lt_irrefl _ (Heap.lt_size z)
  revert x
  cases σ[i] with
  | list l => rintro ⟨vs, n, z, _⟩; exact no _ z
  | ro l => rintro ⟨vs, ⟨o, z, _⟩, _⟩; exact no _ z
  | inst C j => rintro ⟨dx, _, z, _⟩; exact no _ z
  | dict fs => rintro ⟨es, n, z, _⟩; exact no _ z

theorem get_snoc {α : Type} {l : List α} {a b : α} {i : Nat} (e : (l ++ [a])[i]? = some b) : l[i]? = some b ∨ (i = l.length ∧ a = b) := by
  by_cases hi : i < l.length
  · rw [List.getElem?_append_left hi] at e; exact .inl e
  · rw [List.getElem?_append_right (by omega)] at e
    have : i - l.length = 0 := by
      by_cases z : i - l.length = 0
      · exact z
      · rw [List.getElem?_eq_none (by simp; omega)] at e; cases e
    rw [this] at e
    exact .inr ⟨by omega, by simpa using e⟩

theorem Sit.new (w : Sit c S f ι ρ γ σ h) {a : Addr} {o : O} (k : ∀ b ob, h.get? b = some ob → h'.get? b = some ob) (hn : h.get? a = none) (hi : a ∉ ι) (x : OR c (ι ++ [a]) h' o a) :
    Sit c S f (ι ++ [a]) ρ γ (σ ++ [o]) h' ∧ Aft ι h (ι ++ [a]) h' := by
  have A : Aft ι h (ι ++ [a]) h' := ⟨⟨[a], rfl⟩, fun b hb => (List.mem_append.mp hb).imp id fun q => by rw [List.mem_singleton.mp q]; exact hn, .of_keeps k⟩
  refine ⟨w.aft A (fun b ob e => k b ob (w.base b ob e)) A.2.1 (by simp [w.len]) ?_ fun i ob b e1 e2 => ?_, A⟩
  · rw [List.nodup_append]
    exact ⟨w.nd, by simp, fun y hy z hz => by rw [List.mem_singleton.mp hz]; intro q; exact hi (q ▸ hy)⟩
  · rcases get_snoc e1 with q1 | ⟨q1, rfl⟩
    · have hil : i < ι.length := by rw [w.len]; exact (List.getElem?_eq_some_iff.mp q1).1
      rw [List.getElem?_append_left hil] at e2
      exact (w.sto i ob b q1 e2).other w.mu.x A.1 A.2.2 fun o z => k _ o z
    · rw [q1, ← w.len, List.getElem?_append_right (Nat.le_refl _)] at e2
      simp at e2
      subst e2
      exact x

theorem Sit.upd (w : Sit c S f ι ρ γ σ h) {i : Nat} {a : Addr} {o' : O} (hi : ι[i]? = some a) (hs : Heap.SameBut a h h') (hb : c.base.get? a = none) (x : Aft ι h ι h' → OR c ι h' o' a) :
    Sit c S f ι ρ γ (σ.set i o') h' ∧ Aft ι h ι h' := by
  have A : Aft ι h ι h' := ⟨⟨[], by simp⟩, fun _ q => .inl q, fun b ob e n => ⟨ob, (hs.2 b fun q => n (q ▸ List.mem_of_getElem? hi)).trans e, .refl _⟩⟩
  refine ⟨w.aft A (fun b ob e => (hs.2 b fun q => by rw [q, hb] at e; cases e).trans (w.base b ob e)) A.2.1 (by simp [w.len]) w.nd fun j ob b e1 e2 => ?_, A⟩
  by_cases hj : i = j
  · subst hj
    have hl : i < σ.length := by rw [← w.len]; exact (List.getElem?_eq_some_iff.mp hi).1
    rw [List.getElem?_set_self hl] at e1
    rw [hi] at e2
    cases e1; cases e2
    exact x A
  · rw [List.getElem?_set_ne hj] at e1
    have hab : b ≠ a := fun q => hj (by
      subst q
      exact (List.getElem?_inj (List.getElem?_eq_some_iff.mp hi).1 w.nd).mp (hi.trans e2.symm))
    exact (w.sto j ob b e1 e2).other w.mu.x A.1 A.2.2 fun o z => (hs.2 b hab).trans z
end

section
variable {c : C0} {S : Stt} {ρ γ : List (Str × V)} {σ : List O} {Q : V → List O → Prop} {QB : Bool → List O → Prop} {X : Addr → List O → Prop}

theorem none_above {h : Heap} : h.get? h.objs.size = none := by
  cases q : h.get? h.objs.size with
  | none => rfl
  | some o => exact absurd (Heap.lt_size q) (Nat.lt_irrefl _)
theorem base_above {f : Fm} {ι : List Addr} {h : Heap} (w : Sit c S f ι ρ γ σ h) : c.base.get? h.objs.size = none := by
  cases q : c.base.get? h.objs.size with
  | none => rfl
  | some o => exact absurd (Heap.lt_size (w.base _ _ q)) (Nat.lt_irrefl _)

theorem PR.newList {f : Fm} {ι : List Addr} {s : Shared} {tk : Nat} {us : List Value} {l : List V} {h' : Heap} {a : Addr} {n : Nat} (w : Sit c S f ι ρ γ σ s.heap) (k : ∀ b ob, s.heap.get? b = some ob → h'.get? b = some ob) (hn : s.heap.get? a = none)
    (hl : h'.get? a = some { cls := .type "list", data := .seq us.toArray n }) (r : VRs ι s.heap l us) (q : Q (.ref σ.length) (σ ++ [.list l])) : PR VR c S f ι ρ γ s Q (.ref a) { s with heap := h', toks := tk } := by
  have hi : a ∉ ι := fun q => by
    obtain ⟨i, hi, e⟩ := List.mem_iff_getElem.mp q
    have hs : i < σ.length := w.len ▸ hi
    have x := w.sto i σ[i] ι[i] (List.getElem?_eq_getElem hs) (List.getElem?_eq_getElem hi)
    rw [e] at x
    have no : ∀ ob, s.heap.get? a = some ob → False := fun ob z => by rw [hn] at z; cases z
    revert x
    cases σ[i] with
    | list l => rintro ⟨vs, n, z, _⟩; exact no _ z
    | ro l => rintro ⟨vs, ⟨o, z, _⟩, _⟩; exact no _ z
    | inst C j => rintro ⟨dx, _, z, _⟩; exact no _ z
    | dict fs => rintro ⟨es, n, z, _⟩; exact no _ z
  have hb : c.base.get? a = none := by
    cases z : c.base.get? a with
    | none => rfl
    | some o => rw [w.base _ _ z] at hn; cases hn
  obtain ⟨w', A⟩ := w.new (o := .list l) k hn hi ⟨us, n, hl, r.grow w.mu.x ⟨[a], rfl⟩ (.of_keeps k), hb⟩
  exact ⟨.ref σ.length, _, _, h', tk, rfl, A, w', .ref (by rw [← w.len]; simp), q⟩
theorem PR.newTup {f : Fm} {ι : List Addr} {s : Shared} {tk : Nat} {us : List Value} {l : List V} {h' : Heap} {a : Addr} (w : Sit c S f ι ρ γ σ s.heap) (k : ∀ b ob, s.heap.get? b = some ob → h'.get? b = some ob)
    (hl : IsTup h' a us.toArray) (r : VRs ι s.heap l us) (q : Q (.tup l) σ) : PR VR c S f ι ρ γ s Q (.ref a) { s with heap := h', toks := tk } :=
  .here w k (.tup hl (r.grow w.mu.x ⟨[], by simp⟩ (.of_keeps k))) q

abbrev KD (Q : V → List O → Prop) : List V → List O → Prop := fun l σ₁ => l.length ≤ sizeLine ∧ Q (.ref σ₁.length) (σ₁ ++ [.list l])
abbrev KTu (Q : V → List O → Prop) : List V → List O → Prop := fun l σ₁ => l.length ≤ sizeLine ∧ Q (.tup l) σ₁
theorem lstD {es : List Expr} {pos : Pos} (h : WA c S pos es ρ γ (KD Q) X σ) : WE c S (.List es pos) ρ γ Q X σ := fun f ι s w => by
  refine List_ (wpAny_mono (h f ι s w) (fun us s₁ p => ?_) fun _ _ p => p)
  obtain ⟨l, σ₁, ι₁, h₁, tk, rfl, A, w₁, r, hz, q⟩ := p
  refine lift1 A (wpAny_newObj_type (PR.newList w₁ (fun b ob e => Heap.get?_push_of_some _ e) none_above (Heap.get?_push_size _ rfl) r q) ?_)
  show us.toArray.size ≤ sizeLine
  rw [List.size_toArray, r.length]; exact hz
theorem tupD {es : List Expr} {k : Nat} {pos : Pos} (h : WA c S pos es ρ γ (KTu Q) X σ) : WE c S (.Tuple es k pos) ρ γ Q X σ := fun f ι s w => by
  refine Tuple_ (wpAny_mono (h f ι s w) (fun us s₁ p => ?_) fun _ _ p => p)
  obtain ⟨l, σ₁, ι₁, h₁, tk, rfl, A, w₁, r, hz, q⟩ := p
  refine lift1 A (wpAny_newObj_type (PR.newTup w₁ (fun b ob e => Heap.get?_push_of_some _ e) ⟨_, Heap.get?_push_size _ rfl, rfl, 0, rfl⟩ r q) ?_)
  show us.toArray.size ≤ sizeLine
  rw [List.size_toArray, r.length]; exact hz

theorem meth1 {o e : Expr} {name : Str} {apos pos : Pos} {rest : List Expr} {pl : Env → Sem Bool} (h : WE c S o ρ γ (fun ov σ₁ => ∀ f ι s u, Sit c S f ι ρ γ σ₁ s.heap → VR ι s.heap ov u →
      ∃ id, (∀ (Q' : Value × List Value → Shared → Prop) (E' : Value → Shared → Prop), Q' (.builtin id, [u]) s → wpAny c.M f.A (getMethod u name (pl f.env)) Q' E' s) ∧
      wpAny c.M f.A (spliced (backTo pos (starEach (e :: rest) f.env))) (fun us s₁ => wpAny c.M f.A (call (.builtin id) (u :: us)) (PR VR c S f ι ρ γ s Q) (PX c S f ι ρ γ s X) s₁) (PX c S f ι ρ γ s X) s) X σ)
    (he : ∀ env, starEach (e :: rest) env = (false, eval e env) :: starEach rest env := by intro _; rfl) (hpl : ∀ env, (backTo pos (starEach rest env)).any (·.1) = false := by intro _; rfl)
    (hm : ∀ env, eval (.Call (.Attribute o name apos) (e :: rest) [] pos) env = (do
      let ov ← eval o env
      standAt apos.atName
      let (f, first) ← holding [ov] (getMethod ov name (pl env))
      callWith pos f first (backTo pos (starEach (e :: rest) env)) []) := by intro _; rfl) : WE c S (.Call (.Attribute o name apos) (e :: rest) [] pos) ρ γ Q X σ := fun f ι s w => by
  refine MethodCall_ (wpAny_mono (h f ι s w) (fun u s₁ p => ?_) fun _ _ p => p) (hm f.env)
  obtain ⟨ov, σ₁, ι₁, h₁, tk, rfl, A, w₁, r, q⟩ := p
  obtain ⟨id, g, n⟩ := q f ι₁ { s with heap := h₁, toks := tk } u w₁ r
  refine g _ _ (callWith_method1 (wpAny_mono n (fun us s₂ p => ?_) fun _ _ p => p.trans rfl A) (he _) (hpl _))
  exact wpAny_mono p (fun _ _ p => p.trans rfl A) fun _ _ p => p.trans rfl A

inductive KAp1 (Q : V → List O → Prop) (i : Nat) (v : V) (σ₂ : List O) : Prop where
  | mk (l : List V) (e : σ₂[i]? = some (.list l)) (hz : l.length ≤ sizeLine) (q : Q .none (σ₂.set i (.list (l ++ [v]))))
inductive KAp (c : C0) (S : Stt) (e : Expr) (ρ γ : List (Str × V)) (Q : V → List O → Prop) (X : Addr → List O → Prop) (ov : V) (σ₁ : List O) : Prop where
  | mk (i : Nat) (e1 : ov = .ref i) (e2 : ∃ l, σ₁[i]? = some (.list l)) (h : WE c S e ρ γ (KAp1 Q i) X σ₁)
theorem append_list' {o e : Expr} {apos pos : Pos} {pl : Env → Sem Bool} (h : WE c S o ρ γ (KAp c S e ρ γ Q X) X σ)
    (he : ∀ env, starEach [e] env = (false, eval e env) :: starEach [] env := by intro _; rfl)
    (hm : ∀ env, eval (.Call (.Attribute o "append" apos) [e] [] pos) env = (do
      let ov ← eval o env
      standAt apos.atName
      let (f, first) ← holding [ov] (getMethod ov "append" (pl env))
      callWith pos f first (backTo pos (starEach [e] env)) []) := by intro _; rfl) : WE c S (.Call (.Attribute o "append" apos) [e] [] pos) ρ γ Q X σ := by
  refine meth1 (W.imp h fun ov σ₁ p f ι s u w r => ?_) he (fun _ => rfl) hm
  obtain ⟨i, rfl, ⟨l, hl⟩, g⟩ := p
  cases r with
  | ref hi =>
    rename_i a
    obtain ⟨us, n, ho, _, hb⟩ := w.sto i _ a hl hi
    refine ⟨"list.append", fun Q' E' q => getMethod_list_append ho rfl rfl q, ?_⟩
    refine args_cons (wpAny_mono (g f ι s w) (fun v s₁ p => ?_) fun _ _ p => p) (he _)
    obtain ⟨vv, σ₂, ι₂, h₂, tk₂, rfl, A₂, w₂, r₂, l₂, hl₂, hz, q⟩ := p
    refine args_nil ?_
    have hi₂ : ι₂[i]? = some a := by obtain ⟨⟨t, rfl⟩, _⟩ := A₂; rw [List.getElem?_append_left (List.getElem?_eq_some_iff.mp hi).1]; exact hi
    obtain ⟨us₂, n₂, ho₂, rs₂, hb₂⟩ := w₂.sto i _ a hl₂ hi₂
    refine wpAny_list_append_plain (hl := ⟨n₂, ho₂⟩) (fun h₃ hp₃ hs₃ => ?_) (by rw [List.size_toArray, rs₂.length]; exact hz)
    obtain ⟨n₃, ho₃⟩ := hp₃
    obtain ⟨w₃, A₃⟩ := w₂.upd (o' := .list (l₂ ++ [vv])) hi₂ hs₃ hb₂ fun A => ⟨us₂ ++ [v], n₃, by rw [ho₃]; simp, (rs₂.append (.cons r₂ .nil)).mono w₂.mu A, hb₂⟩
    exact ⟨.none, _, ι₂, h₃, tk₂, rfl, A₂.trans A₃, w₃, .none, q⟩
end

inductive Fl where
  | next | brk | cont
  | ret (v : V)

inductive FR (ι : List Addr) (h : Heap) : Fl → Flow → Prop where
  | next : FR ι h .next .next
  | brk : FR ι h .brk .brk
  | cont : FR ι h .cont .cont
  | ret {v : V} {u : Value} : VR ι h v u → FR ι h (.ret v) (.ret u)

def Lo (f : Fm) (b : Addr) : Prop := b = f.env.locals ∨ ∃ x, f.env.cells.lookup x = some b
def AftX (f : Fm) (ι : List Addr) (h : Heap) (ι' : List Addr) (h' : Heap) : Prop :=
  (∃ t, ι' = ι ++ t) ∧ (∀ b ∈ ι', b ∈ ι ∨ h.get? b = none) ∧ Kp (fun b => b ∈ ι ∨ Lo f b) h h'
theorem Aft.x {ι ι' : List Addr} {h h' : Heap} (A : Aft ι h ι' h') (f : Fm) : AftX f ι h ι' h' := ⟨A.1, A.2.1, A.2.2.mono fun _ _ _ q => .inl q⟩
theorem AftX.trans {f : Fm} {ι₁ ι₂ ι₃ : List Addr} {h₁ h₂ h₃ : Heap} (x : AftX f ι₁ h₁ ι₂ h₂) (y : AftX f ι₂ h₂ ι₃ h₃) (hl : ∀ b o, h₁.get? b = some o → Lo f b → ∃ o', h₂.get? b = some o')
    (hi : ∀ b o, h₁.get? b = some o → b ∈ ι₁ → ∃ o', h₂.get? b = some o') : AftX f ι₁ h₁ ι₃ h₃ := by
  obtain ⟨⟨t, rfl⟩, x2, x3⟩ := x
  obtain ⟨⟨t', rfl⟩, y2, y3⟩ := y
  refine ⟨⟨t ++ t', by simp⟩, fun b hb => ?_, x3.trans y3 fun b o e q => q.imp (fun q => (x2 b q).resolve_right fun z => by rw [e] at z; cases z) id⟩
  by_cases hb1 : b ∈ ι₁
  · exact .inl hb1
  · refine .inr ?_
    cases q : h₁.get? b with
    | none => rfl
    | some o =>
      have e' : ∃ o', h₂.get? b = some o' := by
        by_cases hL : Lo f b
        · exact hl b o q hL
        · obtain ⟨o', e', _⟩ := x3 b o q (fun z => z.elim hb1 hL)
          exact ⟨o', e'⟩
      obtain ⟨o', e'⟩ := e'
      rcases y2 b hb with z | z
      · rcases x2 b z with z' | z'
        · exact absurd z' hb1
        · rw [q] at z'; cases z'
      · rw [e'] at z; cases z

section
variable {c : C0} {S : Stt} {f : Fm} {ι ι' ι₁ : List Addr} {ρ γ ρ₁ γ₁ : List (Str × V)} {σ σ' σ₁ : List O} {h h' h₁ : Heap}
theorem Sit.lo_some (w : Sit c S f ι ρ γ σ h) {b : Addr} (q : Lo f b) : ∃ o, h.get? b = some o := by
  rcases q with rfl | ⟨x, e⟩
  · obtain ⟨m, ⟨o, _, _, ho, _⟩, _⟩ := w.loc; exact ⟨o, ho⟩
  · obtain ⟨_, _, _, v₀, o, ho, _⟩ := w.celx x b e; exact ⟨o, ho⟩
theorem Sit.io_some (w : Sit c S f ι ρ γ σ h) {b : Addr} (q : b ∈ ι) : ∃ o, h.get? b = some o := by
  obtain ⟨i, hi, e⟩ := List.mem_iff_getElem.mp q
  have hs : i < σ.length := w.len ▸ hi
  have x := w.sto i σ[i] ι[i] (List.getElem?_eq_getElem hs) (List.getElem?_eq_getElem hi)
  rw [e] at x
  revert x
  cases σ[i] with
  | list l => rintro ⟨vs, n, z, _⟩; exact ⟨_, z⟩
  | ro l => rintro ⟨vs, ⟨o, z, _⟩, _⟩; exact ⟨_, z⟩
  | inst C j => rintro ⟨dx, _, z, _⟩; exact ⟨_, z⟩
  | dict fs => rintro ⟨es, n, z, _⟩; exact ⟨_, z⟩
theorem AftX.then (x : AftX f ι h ι₁ h₁) (w : Sit c S f ι₁ ρ₁ γ₁ σ₁ h₁) (y : AftX f ι₁ h₁ ι' h') : AftX f ι h ι' h' :=
  x.trans y (fun b o _ q => w.lo_some q) fun b o e q => w.io_some (by obtain ⟨⟨t, rfl⟩, _⟩ := x; exact List.mem_append_left _ q)
theorem Sit.muX (w : Sit c S f ι ρ γ σ h) : MuX (fun b => b ∈ ι ∨ Lo f b) h := fun a o q ho => by
  rcases q with q | rfl | ⟨x, e⟩
  · exact w.mu.x a o q ho
  · obtain ⟨m, ⟨o', es, ep, ho', hd, _⟩, _⟩ := w.loc
    rw [ho] at ho'; cases ho'
    exact ⟨fun _ its n q => (by rw [hd] at q; cases q), fun vs q => (by rw [hd] at q; cases q)⟩
  · obtain ⟨_, _, _, v₀, o', ho', hd⟩ := w.celx x a e
    rw [ho] at ho'; cases ho'
    exact ⟨fun _ its n q => (by rw [hd] at q; cases q), fun vs q => (by rw [hd] at q; cases q)⟩
end

inductive PS (c : C0) (S : Stt) (f : Fm) (ι : List Addr) (s : Shared) (Q : Fl → List (Str × V) → List (Str × V) → List O → Prop) (u : Flow) (s' : Shared) : Prop where
  | mk (fl : Fl) (ρ' γ' : List (Str × V)) (σ' : List O) (ι' : List Addr) (h' : Heap) (tk : Nat) (e : s' = { s with heap := h', toks := tk }) (A : AftX f ι s.heap ι' h') (w : Sit c S f ι' ρ' γ' σ' h') (r : FR ι' h' fl u) (q : Q fl ρ' γ' σ')
inductive PXS (c : C0) (S : Stt) (f : Fm) (ι : List Addr) (s : Shared) (X : Addr → List O → Prop) (ev : Value) (s' : Shared) : Prop where
  | mk (C ea : Addr) (hb : Heap) (ρ' γ' : List (Str × V)) (σ' : List O) (ι' : List Addr) (h' : Heap) (tk : Nat) (e1 : ev = .ref ea) (e : s' = { s with heap := h', toks := tk }) (A : AftX f ι s.heap ι' hb) (w : Sit c S f ι' ρ' γ' σ' hb) (air : Air c f ea C hb h') (q : X C σ')
def WX (c : C0) (S : Stt) (t : Env → Sem Flow) (ρ γ : List (Str × V)) (Q : Fl → List (Str × V) → List (Str × V) → List O → Prop) (X : Addr → List O → Prop) (σ : List O) : Prop :=
  ∀ f ι s, Sit c S f ι ρ γ σ s.heap → f.env = f.fe → wpAny c.M f.A (t f.env) (PS c S f ι s Q) (PXS c S f ι s X) s
abbrev WS (c : C0) (S : Stt) (st : Stmt) (ρ γ : List (Str × V)) (Q : Fl → List (Str × V) → List (Str × V) → List O → Prop) (X : Addr → List O → Prop) (σ : List O) : Prop := WX c S (fun env => exec st env) ρ γ Q X σ
abbrev WSs (c : C0) (S : Stt) (sts : List Stmt) (ρ γ : List (Str × V)) (Q : Fl → List (Str × V) → List (Str × V) → List O → Prop) (X : Addr → List O → Prop) (σ : List O) : Prop := WX c S (fun env => execs sts env) ρ γ Q X σ

section
variable {c : C0} {S : Stt} {f : Fm} {ι ι₁ : List Addr} {ρ γ ρ₁ γ₁ : List (Str × V)} {σ σ₁ : List O} {s s₁ s' : Shared} {h₁ : Heap} {tk : Nat} {Q Q' : Fl → List (Str × V) → List (Str × V) → List O → Prop} {X X' : Addr → List O → Prop} {t : Env → Sem Flow}

theorem PS.trans {u : Flow} (p : PS c S f ι₁ s₁ Q u s') (e : s₁ = { s with heap := h₁, toks := tk }) (w : Sit c S f ι₁ ρ₁ γ₁ σ₁ h₁) (A : AftX f ι s.heap ι₁ h₁) : PS c S f ι s Q u s' := by
  obtain ⟨fl, ρ', γ', σ', ι', h', tk', rfl, A', r, r2, r3⟩ := p
  subst e
  exact ⟨fl, ρ', γ', σ', ι', h', tk', rfl, A.then w A', r, r2, r3⟩
theorem PXS.trans {ev : Value} (p : PXS c S f ι₁ s₁ X ev s') (e : s₁ = { s with heap := h₁, toks := tk }) (w : Sit c S f ι₁ ρ₁ γ₁ σ₁ h₁) (A : AftX f ι s.heap ι₁ h₁) : PXS c S f ι s X ev s' := by
  obtain ⟨C, ea, hb, ρ', γ', σ', ι', h', tk', rfl, rfl, A', r, r2, r3⟩ := p
  subst e
  exact ⟨C, ea, hb, ρ', γ', σ', ι', h', tk', rfl, rfl, A.then w A', r, r2, r3⟩
theorem PX.st {ev : Value} (p : PX c S f ι ρ γ s X ev s') : PXS c S f ι s X ev s' := by
  obtain ⟨C, ea, hb, σ', ι', h', tk', rfl, rfl, A', r, r2, q⟩ := p
  exact ⟨C, ea, hb, ρ, γ, σ', ι', h', tk', rfl, rfl, A'.x f, r, r2, q⟩
theorem WX.mono (p : WX c S t ρ γ Q X σ) (hQ : ∀ fl ρ' γ' σ', Q fl ρ' γ' σ' → Q' fl ρ' γ' σ') (hX : ∀ C σ', X C σ' → X' C σ') : WX c S t ρ γ Q' X' σ := fun f ι s x e =>
  wpAny_mono (p f ι s x e) (fun _ _ p => by cases p with | mk fl ρ' γ' σ' ι' h' tk e a b d q => exact ⟨fl, ρ', γ', σ', ι', h', tk, e, a, b, d, hQ _ _ _ _ q⟩) fun _ _ p => by cases p with | mk C ea hb ρ' γ' σ' ι' h' tk e1 e a b d q => exact ⟨C, ea, hb, ρ', γ', σ', ι', h', tk, e1, e, a, b, d, hX C σ' q⟩
theorem WX.imp (p : WX c S t ρ γ Q X σ) (hQ : ∀ fl ρ' γ' σ', Q fl ρ' γ' σ' → Q' fl ρ' γ' σ') : WX c S t ρ γ Q' X σ := p.mono hQ fun _ _ q => q
theorem liftX {m : Sem Flow} (w : Sit c S f ι₁ ρ₁ γ₁ σ₁ h₁) (A : AftX f ι s.heap ι₁ h₁) (h : wpAny c.M f.A m (PS c S f ι₁ { s with heap := h₁, toks := tk } Q) (PXS c S f ι₁ { s with heap := h₁, toks := tk } X) { s with heap := h₁, toks := tk }) :
    wpAny c.M f.A m (PS c S f ι s Q) (PXS c S f ι s X) { s with heap := h₁, toks := tk } := wpAny_mono h (fun _ _ p => p.trans rfl w A) fun _ _ p => p.trans rfl w A

theorem sts0 (q : Q .next ρ γ σ) : WSs c S [] ρ γ Q X σ := fun f ι s w e => wpAny_execs_nil ⟨.next, ρ, γ, σ, ι, s.heap, s.toks, rfl, (Aft.refl _ _).x f, w, .next, q⟩
def Then (c : C0) (S : Stt) (rest : List Stmt) (Q : Fl → List (Str × V) → List (Str × V) → List O → Prop) (X : Addr → List O → Prop) : Fl → List (Str × V) → List (Str × V) → List O → Prop
  | .next, ρ, γ, σ => WSs c S rest ρ γ Q X σ
  | fl, ρ, γ, σ => Q fl ρ γ σ
theorem stsC {st : Stmt} {rest : List Stmt} (h : WS c S st ρ γ (Then c S rest Q X) X σ) : WSs c S (st :: rest) ρ γ Q X σ := fun f ι s w e => by
  refine wpAny_execs_cons (wpAny_mono (h f ι s w e) (fun fl s₁ p => ?_) fun _ _ p => p)
  obtain ⟨fl', ρ', γ', σ', ι', h', tk, rfl, A, w', r, q⟩ := p
  cases r with
  | next => exact liftX w' A (q f ι' _ w' e)
  | brk => exact ⟨.brk, ρ', γ', σ', ι', h', tk, rfl, A, w', .brk, q⟩
  | cont => exact ⟨.cont, ρ', γ', σ', ι', h', tk, rfl, A, w', .cont, q⟩
  | ret r => exact ⟨.ret _, ρ', γ', σ', ι', h', tk, rfl, A, w', .ret r, q⟩

noncomputable def upd : List (Str × V) → Str → V → List (Str × V)
  | [], x, v => [(x, v)]
  | (y, u) :: r, x, v => match x == y with
    | true => (x, v) :: r
    | false => (y, u) :: upd r x v
abbrev KR (Q : Fl → List (Str × V) → List (Str × V) → List O → Prop) (ρ γ : List (Str × V)) : V → List O → Prop := fun v σ' => Q (.ret v) ρ γ σ'
abbrev KN (Q : Fl → List (Str × V) → List (Str × V) → List O → Prop) (ρ γ : List (Str × V)) : V → List O → Prop := fun _ σ' => Q .next ρ γ σ'
abbrev KS (Q : Fl → List (Str × V) → List (Str × V) → List O → Prop) (ρ γ : List (Str × V)) (x : Str) : V → List O → Prop := fun v σ' => Q .next (upd ρ x v) γ σ'
abbrev KSC (Q : Fl → List (Str × V) → List (Str × V) → List O → Prop) (ρ γ : List (Str × V)) (x : Str) : V → List O → Prop := fun v σ' => Q .next ρ (upd γ x v) σ'
abbrev KI (c : C0) (S : Stt) (body orelse : List Stmt) (ρ γ : List (Str × V)) (Q : Fl → List (Str × V) → List (Str × V) → List O → Prop) (X : Addr → List O → Prop) : Bool → List O → Prop := fun b σ₁ => if b = true then WSs c S body ρ γ Q X σ₁ else WSs c S orelse ρ γ Q X σ₁
theorem sRet {e : Expr} {pos : Pos} (h : WE c S e ρ γ (KR Q ρ γ) X σ) : WS c S (.Return (some e) pos) ρ γ Q X σ := fun f ι s w _ => by
  refine wpAny_Return_some (wpAny_mono (h f ι s w) (fun u s₁ p => ?_) fun _ _ p => p.st)
  obtain ⟨v, σ', ι', h', tk, rfl, A, w', r, q⟩ := p
  exact ⟨.ret v, ρ, γ, σ', ι', h', tk, rfl, A.x f, w', .ret r, q⟩
theorem sIf {test : Expr} {body orelse : List Stmt} {pos : Pos} (h : WB c S test ρ γ (KI c S body orelse ρ γ Q X) X σ) : WS c S (.If test body orelse pos) ρ γ Q X σ := fun f ι s w e => by
  refine wpAny_If (wpAny_mono (h f ι s w) (fun u s₁ p => ?_) fun _ _ p => p.st)
  obtain ⟨b, σ₁, ι₁, h₁, tk, rfl, A, w₁, rfl, q⟩ := p
  cases b with
  | true => exact liftX w₁ (A.x f) (q f ι₁ _ w₁ e)
  | false => exact liftX w₁ (A.x f) (q f ι₁ _ w₁ e)
theorem sExpr {e : Expr} {pos : Pos} (h : WE c S e ρ γ (KN Q ρ γ) X σ) (hs : ∀ env, swapsWith e none pos.line env = pure false := by intro _; rfl) : WS c S (.Expr e pos) ρ γ Q X σ := fun f ι s w _ => by
  have hi : interactive f.env = false := by unfold interactive; rw [w.kind]; rfl
  show wpAny c.M f.A (exec (.Expr e pos) f.env) _ _ s
  rw [exec_Expr f.env e pos hi (hs _)]
  refine wpAny_bind (wpAny_standAt (wpAny_bind (wpAny_mono (h f ι s w) (fun u s₁ p => ?_) fun _ _ p => p.st)))
  obtain ⟨v, σ', ι', h', tk, rfl, A, w', r, q⟩ := p
  exact wpAny_dropValue ⟨.next, ρ, γ, σ', ι', h', tk, rfl, A.x f, w', .next, q⟩
theorem sPass {pos : Pos} (q : Q .next ρ γ σ) : WS c S (.Pass pos) ρ γ Q X σ := fun f ι s w _ => by
  show wpAny c.M f.A (exec (.Pass pos) f.env) _ _ s
  rw [exec_Pass]
  exact wpAny_bind (wpAny_standAt (wpAny_pure ⟨.next, ρ, γ, σ, ι, s.heap, s.toks, rfl, (Aft.refl _ _).x f, w, .next, q⟩))
end

theorem lookup_upd {x y : Str} {v : V} : ∀ {ρ : List (Str × V)}, (upd ρ x v).lookup y = if y = x then some v else ρ.lookup y
  | [] => by
    simp only [upd, List.lookup_cons, List.lookup_nil]
    by_cases q : y = x
    · subst q; simp
    · rw [if_neg q, show (y == x) = false from by simpa using q]
  | (z, u) :: r => by
    have ih := lookup_upd (x := x) (y := y) (v := v) (ρ := r)
    simp only [upd]
    by_cases q : x = z
    · subst q
      rw [show (x == x) = true from by simp]
      show List.lookup y ((x, v) :: r) = _
      rw [List.lookup_cons, List.lookup_cons]
      by_cases q' : y = x
      · subst q'; simp
      · rw [if_neg q', show (y == x) = false from by simpa using q']
    · rw [show (x == z) = false from by simpa using q]
      show List.lookup y ((z, u) :: upd r x v) = _
      rw [List.lookup_cons, List.lookup_cons, ih]
      by_cases q' : y = z
      · subst q'
        have hne : ¬ y = x := fun e => q e.symm
        simp [hne]
      · rw [show (y == z) = false from by simpa using q']

section
variable {c : C0} {S : Stt} {f : Fm} {ι ι₁ : List Addr} {ρ γ ρ₁ γ₁ : List (Str × V)} {σ σ₁ : List O} {s s₁ s' : Shared} {h h' h₁ : Heap} {tk : Nat} {Q Q' : Fl → List (Str × V) → List (Str × V) → List O → Prop} {X X' : Addr → List O → Prop} {t : Env → Sem Flow}

theorem framesOf {h h' base : Heap} : ∀ {l : List Env}, h.FunFrames base l → (∀ b o, h.get? b = some o → (∀ vs, o.data ≠ .fields vs) → ∃ o', h'.get? b = some o' ∧ ∀ vs, o'.data ≠ .fields vs) → h'.FunFrames base l
  | [], _, _ => trivial
  | env :: _, ⟨hk, ⟨L, o, hf, hn, ho, hd⟩, hr⟩, k => by
    obtain ⟨o', e', s'⟩ := k L o ho hd
    exact ⟨hk, ⟨L, o', hf, hn, e', s'⟩, framesOf hr k⟩
theorem Sit.own (w : Sit c S f ι ρ γ σ h) {a : Addr} (hl : Lo f a) (hs : Heap.SameBut a h h')
    (hloc : AftX f ι h ι h' → ∃ m, h'.Ns f.env.locals m ∧ ∀ x v, ρ₁.lookup x = some v → ∃ u, m x = some u ∧ VR ι h' v u)
    (hcel : AftX f ι h ι h' → ∀ x v, γ₁.lookup x = some v → ∃ a u, f.env.cells.lookup x = some a ∧ h'.IsCell a (some u) ∧ VR ι h' v u)
    (hcx : ∀ x a, f.env.cells.lookup x = some a → ∃ v₀, h'.IsCell a v₀) : Sit c S f ι ρ₁ γ₁ σ h' ∧ AftX f ι h ι h' := by
  have A : AftX f ι h ι h' := ⟨⟨[], by simp⟩, fun _ q => .inl q, fun b ob e n => ⟨ob, (hs.2 b fun q => n (.inr (q ▸ hl))).trans e, .refl _⟩⟩
  have hai : a ∉ ι := by
    rcases hl with rfl | ⟨x, e⟩
    · exact w.locx.1
    · exact (w.celx x a e).1
  have hab : c.base.get? a = none := by
    rcases hl with rfl | ⟨x, e⟩
    · exact w.locx.2
    · exact (w.celx x a e).2.2.1
  have hfr : h'.FunFrames c.base (f.fe :: f.outer) := by
    refine framesOf w.frames fun b o e hnf => ?_
    by_cases q : b = a
    · subst q
      rcases hl with rfl | ⟨x, e'⟩
      · obtain ⟨m₁, ⟨o₁, es₁, ep₁, ho₁, hd₁, _⟩, _⟩ := hloc A
        exact ⟨o₁, ho₁, fun vs q => (by rw [hd₁] at q; cases q)⟩
      · obtain ⟨v₀, o₁, ho₁, hd₁⟩ := hcx x b e'
        exact ⟨o₁, ho₁, fun vs q => (by rw [hd₁] at q; cases q)⟩
    · exact ⟨o, (hs.2 b q).trans e, hnf⟩
  refine ⟨{ w with base := fun b o e => (hs.2 b fun q => by rw [q, hab] at e; cases e).trans (w.base b o e), frames := hfr, fdict := fun env he L o hL e => ?_, loc := hloc A, cel := hcel A, celx := fun x b e => ?_, sto := fun i o b e1 e2 => ?_ }, A⟩
  · by_cases q : L = a
    · subst q
      rcases hl with rfl | ⟨x, e'⟩
      · obtain ⟨m₁, ⟨o₁, es₁, ep₁, ho₁, hd₁, _⟩, _⟩ := hloc A
        rw [e] at ho₁; cases ho₁
        exact ⟨es₁, ep₁, hd₁⟩
      · obtain ⟨_, _, _, v₀, o₁, ho₁, hd₁⟩ := w.celx x L e'
        obtain ⟨es, n, hd⟩ := w.fdict env he L o₁ hL ho₁
        rw [hd₁] at hd; cases hd
    · exact w.fdict env he L o hL ((hs.2 L q).symm.trans e)
  · obtain ⟨n1, n2, n3, _⟩ := w.celx x b e
    exact ⟨n1, n2, n3, hcx x b e⟩
  · refine (w.sto i o b e1 e2).other w.muX A.1 A.2.2 fun ob z => (hs.2 b fun q => hai (q ▸ List.mem_of_getElem? e2)).trans z

theorem store_L {x : Str} {v : V} {u : Value} {Qs : Unit → Shared → Prop} {E : Value → Shared → Prop} (w : Sit c S f ι ρ γ σ s.heap) (hk : S.kd x = some .local) (hv : VR ι s.heap v u)
    (n : ∀ h', Sit c S f ι (upd ρ x v) γ σ h' → AftX f ι s.heap ι h' → Qs () { s with heap := h', toks := s.toks + 1 }) : wpAny c.M f.A (storeName f.env x u) Qs E s := by
  obtain ⟨m, hm, hr⟩ := w.loc
  refine wpAny_storeName_local ((w.kinds x).trans hk) hm (fun h' hn hs => ?_) (by rw [w.kind]; rfl)
  have hcx : ∀ y b, f.env.cells.lookup y = some b → ∃ v₀, h'.IsCell b v₀ := fun y b e => by
    obtain ⟨_, n2, _, v₀, o, ho, hd⟩ := w.celx y b e
    exact ⟨v₀, o, (hs.2 b n2).trans ho, hd⟩
  have step : Sit c S f ι (upd ρ x v) γ σ h' ∧ AftX f ι s.heap ι h' := by
    refine w.own (ρ₁ := upd ρ x v) (γ₁ := γ) (a := f.env.locals) (.inl rfl) hs (fun A => ⟨_, hn, fun y z e => ?_⟩) (fun A y z e => ?_) hcx
    · rw [lookup_upd] at e
      by_cases q : y = x
      · rw [if_pos q] at e ⊢
        cases e
        exact ⟨u, rfl, hv.grow w.muX A.1 A.2.2⟩
      · rw [if_neg q] at e ⊢
        obtain ⟨u', e1, e2⟩ := hr y z e
        exact ⟨u', e1, e2.grow w.muX A.1 A.2.2⟩
    · obtain ⟨a, u', e1, ⟨o, ho, hd⟩, e3⟩ := w.cel y z e
      exact ⟨a, u', e1, ⟨o, (hs.2 a (w.celx y a e1).2.1).trans ho, hd⟩, e3.grow w.muX A.1 A.2.2⟩
  exact n h' step.1 step.2
theorem store_C {x : Str} {v : V} {u : Value} {Qs : Unit → Shared → Prop} {E : Value → Shared → Prop} (w : Sit c S f ι ρ γ σ s.heap) (hk : S.kd x = some .cell) (hv : VR ι s.heap v u)
    (n : ∀ h', Sit c S f ι ρ (upd γ x v) σ h' → AftX f ι s.heap ι h' → Qs () { s with heap := h' }) : wpAny c.M f.A (storeName f.env x u) Qs E s := by
  obtain ⟨a, ha⟩ := w.celk x hk
  obtain ⟨n1, n2, n3, v₀, hc⟩ := w.celx x a ha
  refine wpAny_storeName_cell w.kind ((w.kinds x).trans hk) ha hc fun h' hn hs => ?_
  have hcx : ∀ y b, f.env.cells.lookup y = some b → ∃ v₀, h'.IsCell b v₀ := fun y b e => by
    by_cases q : b = a
    · exact ⟨_, q ▸ hn⟩
    · obtain ⟨_, _, _, v₀, o, ho, hd⟩ := w.celx y b e
      exact ⟨v₀, o, (hs.2 b q).trans ho, hd⟩
  have step : Sit c S f ι ρ (upd γ x v) σ h' ∧ AftX f ι s.heap ι h' := by
    refine w.own (ρ₁ := ρ) (γ₁ := upd γ x v) (a := a) (.inr ⟨x, ha⟩) hs (fun A => ?_) (fun A y z e => ?_) hcx
    · obtain ⟨m, ⟨o, es, ep, ho, r⟩, hr⟩ := w.loc
      refine ⟨m, ⟨o, es, ep, (hs.2 _ (Ne.symm n2)).trans ho, r⟩, fun y z e => ?_⟩
      obtain ⟨u', e1, e2⟩ := hr y z e
      exact ⟨u', e1, e2.grow w.muX A.1 A.2.2⟩
    · rw [lookup_upd] at e
      by_cases q : y = x
      · subst q
        rw [if_pos rfl] at e
        cases e
        exact ⟨a, u, ha, hn, hv.grow w.muX A.1 A.2.2⟩
      · rw [if_neg q] at e
        obtain ⟨b, u', e1, ⟨o, ho, hd⟩, e3⟩ := w.cel y z e
        exact ⟨b, u', e1, ⟨o, (hs.2 b fun z => q (w.celd y x b e1 (z ▸ ha))).trans ho, hd⟩, e3.grow w.muX A.1 A.2.2⟩
  exact n h' step.1 step.2
theorem sAssL {x : Str} {pos' pos : Pos} {e : Expr} (hk : S.kd x = some .local) (h : WE c S e ρ γ (KS Q ρ γ x) X σ) (hs : ∀ env, swapsWith e (some (.Name x pos')) pos.line env = pure false := by intro _; rfl) :
    WS c S (.Assign [.Name x pos'] e pos) ρ γ Q X σ := fun f ι s w _ => by
  refine wpAny_Assign_Name (wpAny_mono (h f ι s w) (fun u s₁ p => ?_) fun _ _ p => p.st) (hs _)
  obtain ⟨v, σ', ι', h', tk, rfl, A, w', r, q⟩ := p
  exact store_L (s := { s with heap := h', toks := tk }) w' hk r fun h'' w'' A'' => ⟨.next, _, γ, σ', ι', h'', _, rfl, (A.x f).then w' A'', w'', .next, q⟩
theorem sAssC {x : Str} {pos' pos : Pos} {e : Expr} (hk : S.kd x = some .cell) (h : WE c S e ρ γ (KSC Q ρ γ x) X σ) (hs : ∀ env, swapsWith e (some (.Name x pos')) pos.line env = pure false := by intro _; rfl) :
    WS c S (.Assign [.Name x pos'] e pos) ρ γ Q X σ := fun f ι s w _ => by
  refine wpAny_Assign_Name (wpAny_mono (h f ι s w) (fun u s₁ p => ?_) fun _ _ p => p.st) (hs _)
  obtain ⟨v, σ', ι', h', tk, rfl, A, w', r, q⟩ := p
  exact store_C (s := { s with heap := h', toks := tk }) w' hk r fun h'' w'' A'' => ⟨.next, ρ, _, σ', ι', h'', _, rfl, (A.x f).then w' A'', w'', .next, q⟩

inductive KSt (Q : Fl → List (Str × V) → List (Str × V) → List O → Prop) (ρ γ : List (Str × V)) (v ov iv : V) (σ₃ : List O) : Prop where
  | mk (j : Nat) (k : Int) (l : List V) (e1 : ov = .ref j) (e2 : iv = .int k) (e3 : σ₃[j]? = some (.list l)) (h0 : 0 ≤ k) (h1 : k < l.length) (h2 : k < 2 ^ 63) (q : Q .next ρ γ (σ₃.set j (.list (l.set k.toNat v))))
theorem sSet {o i e : Expr} {pos' pos : Pos} (h : WE c S e ρ γ (fun v σ₁ => WE c S o ρ γ (fun ov σ₂ => WE c S i ρ γ (KSt Q ρ γ v ov) X σ₂) X σ₁) X σ)
    (hs : ∀ env, swapsWith e (some (.Subscript o i pos')) pos.line env = pure false := by intro _; rfl) : WS c S (.Assign [.Subscript o i pos'] e pos) ρ γ Q X σ := fun f ι s w _ => by
  refine wpAny_Assign_Subscript (wpAny_mono (h f ι s w) (fun u s₁ p => ?_) fun _ _ p => p.st) (hs _)
  obtain ⟨v, σ₁, ι₁, h₁, tk₁, rfl, A₁, w₁, r₁, q₁⟩ := p
  refine wpAny_mono (q₁ f ι₁ _ w₁) (fun uo s₂ p => ?_) fun _ _ p => (PX.trans (s := s) p rfl A₁).st
  obtain ⟨ov, σ₂, ι₂, h₂, tk₂, rfl, A₂, w₂, r₂, q₂⟩ := p
  refine wpAny_mono (q₂ f ι₂ _ w₂) (fun ui s₃ p => ?_) fun _ _ p => (PX.trans (s := s) p rfl (A₁.trans A₂)).st
  obtain ⟨iv, σ₃, ι₃, h₃, tk₃, rfl, A₃, w₃, r₃, j, k, l, rfl, rfl, hl, h0, hlt, hf, q⟩ := p
  cases r₃
  cases r₂ with
  | ref hj =>
    rename_i a
    have hj₃ : ι₃[j]? = some a := by obtain ⟨⟨t, rfl⟩, _⟩ := A₃; rw [List.getElem?_append_left (List.getElem?_eq_some_iff.mp hj).1]; exact hj
    obtain ⟨us, n, ho, rs, hb⟩ := w₃.sto j _ a hl hj₃
    have r₁' := (r₁.mono w₁.mu A₂).mono w₂.mu A₃
    refine W.ki_setAt ho h0 hf (by rw [List.size_toArray, rs.length]; exact hlt) ?_
    obtain ⟨w₄, A₄⟩ := w₃.upd (o' := .list (l.set k.toNat v)) hj₃ (Heap.SameBut.update _ a _) hb fun A => ⟨us.set k.toNat u, n, by
        rw [Heap.get?_update_self (Obj.mapSeq (·.setIfInBounds k.toNat u)) ho rfl]
        simp [Obj.mapSeq], (rs.set r₁' k.toNat).mono w₃.mu A, hb⟩
    exact ⟨.next, ρ, γ, _, ι₃, _, tk₃, rfl, (((A₁.trans A₂).trans A₃).trans A₄).x f, w₄, .next, q⟩
end

theorem bindL_is {kd : Str → Option NameKind} {x : Str} : ∀ (binds : List (Str × Value)) (m : Str → Option Value), bindL kd binds m x = if kd x = some .local then (binds.reverse.lookup x).or (m x) else m x
  | [], m => by simp [bindL]
  | (n, v) :: r, m => by
    rw [bindL, bindL_is r]
    by_cases hx : kd x = some .local
    · rw [if_pos hx, if_pos hx, List.reverse_cons, List.lookup_append]
      by_cases hn : x = n
      · subst hn
        rw [if_pos hx, if_pos rfl]
        cases (r.reverse.lookup x) <;> simp
      · have hb : (x == n) = false := by simpa using hn
        have : (if kd n = some .local then fun y => if y = n then some v else m y else m) x = m x := by split <;> simp [hn]
        rw [this]
        cases (r.reverse.lookup x) <;> simp [List.lookup_cons, hb]
    · rw [if_neg hx, if_neg hx]
      by_cases hn : x = n
      · subst hn; rw [if_neg hx]
      · split <;> simp [hn]
theorem bindC_is {kd : Str → Option NameKind} {x : Str} : ∀ (binds : List (Str × Value)) (m : Str → Option Value), bindC kd binds m x = if kd x = some .local then m x else (binds.reverse.lookup x).or (m x)
  | [], m => by simp [bindC]
  | (n, v) :: r, m => by
    rw [bindC, bindC_is r]
    by_cases hx : kd x = some .local
    · rw [if_pos hx, if_pos hx]
      by_cases hn : x = n
      · subst hn; rw [if_pos hx]
      · split <;> simp [hn]
    · rw [if_neg hx, if_neg hx, List.reverse_cons, List.lookup_append]
      by_cases hn : x = n
      · subst hn
        rw [if_neg hx, if_pos rfl]
        cases (r.reverse.lookup x) <;> simp
      · have hb : (x == n) = false := by simpa using hn
        have : (if kd n = some .local then m else fun y => if y = n then some v else m y) x = m x := by split <;> simp [hn]
        rw [this]
        cases (r.reverse.lookup x) <;> simp [List.lookup_cons, hb]
theorem lookup_none {α : Type} {x : Str} : ∀ {l : List (Str × α)}, x ∉ l.map (·.1) → l.lookup x = none
  | [], _ => rfl
  | (y, _) :: r, h => by
    simp only [List.map_cons, List.mem_cons, not_or] at h
    rw [List.lookup_cons, show (x == y) = false from by simpa using h.1]
    exact lookup_none h.2
theorem lookup_reverse {α : Type} {x : Str} : ∀ {l : List (Str × α)}, (l.map (·.1)).Nodup → l.reverse.lookup x = l.lookup x
  | [], _ => rfl
  | (y, v) :: r, h => by
    simp only [List.map_cons, List.nodup_cons] at h
    rw [List.reverse_cons, List.lookup_append, lookup_reverse h.2, List.lookup_cons]
    by_cases q : x = y
    · subst q
      rw [lookup_none h.1]; simp
    · have hb : (x == y) = false := by simpa using q
      rw [hb, List.lookup_cons, hb]
      cases r.lookup x <;> simp
theorem zip_lookup {ι : List Addr} {h : Heap} {x : Str} {v : V} : ∀ {ps : List Str} {vs : List V} {us : List Value}, VRs ι h vs us → (ps.zip vs).lookup x = some v → ∃ u, (ps.zip us).lookup x = some u ∧ VR ι h v u
  | [], _, _, _, e => by simp at e
  | _ :: _, _, _, .nil, e => by simp at e
  | p :: ps, _, _, .cons (u := u) r rs, e => by
    simp only [List.zip_cons_cons, List.lookup_cons] at e ⊢
    cases q : x == p with
    | true => rw [q] at e; cases e; exact ⟨u, rfl, r⟩
    | false => rw [q] at e; exact zip_lookup rs e
theorem zip_keys {α : Type} : ∀ {ps : List Str} {us : List α}, us.length = ps.length → (ps.zip us).map (·.1) = ps
  | [], [], _ => rfl
  | p :: ps, u :: us, h => by simp only [List.zip_cons_cons, List.map_cons, List.cons.injEq, true_and]; exact zip_keys (by simpa using h)

structure FnAt (c : C0) (a : Addr) (ps : List Str) (body : List Stmt) (scope : Scope) : Prop where
  there : ∃ o fd, c.base.get? a = some o ∧ o.data = .func fd ∧ fd.body = .stmts body ∧ fd.scope = scope ∧ fd.closure = [] ∧ fd.globals = mainGlobals ∧ fd.builtins = builtinsNs ∧ c.base.CodeRec fd.code fd.qualname ∧
    ∀ us : List Value, us.length = ps.length → bindArgs fd ⟨us, []⟩ = pure (ps.zip us)
  kind : scope.kind = .function
  co : scope.isCoroutine = false
  gen : scope.isGenerator = false
  nd : ps.Nodup
  par : ∀ x ∈ ps, scope.names.lookup x = some .local ∨ scope.names.lookup x = some .cell

section
variable {M : Model} {A : Around} {E : Value → Shared → Prop} {s : Shared} {B : Heap} {l : List Env} {e : Addr} {cls a0 fl : Value} {Q : Unit → Shared → Prop}

theorem fly_more (X : FlyG B l e cls a0 fl s.heap) {T : Addr} {oT : Obj} {ts : Array Value} (hT : s.heap.get? T = some oT) (hdT : oT.data = .fields ts) (hnT : B.get? T = none) (v : Value) :
    B.StaysIn (s.heap.update T (Obj.mapFields (·.setIfInBounds 3 v))) ∧ (s.heap.update T (Obj.mapFields (·.setIfInBounds 3 v))).FunFrames B l ∧ ∀ b o, s.heap.get? b = some o → (∀ vs, o.data ≠ .fields vs) → (s.heap.update T (Obj.mapFields (·.setIfInBounds 3 v))).get? b = some o := by
  have other : ∀ b, b ≠ T → (s.heap.update T (Obj.mapFields (·.setIfInBounds 3 v))).get? b = s.heap.get? b := fun b hb => Heap.get?_update_other _ _ (Ne.symm hb)
  have recs : ∀ b o, s.heap.get? b = some o → (∀ vs, o.data ≠ .fields vs) → b ≠ T := fun b o hb hn q => by subst q; rw [hT] at hb; cases hb; exact hn ts hdT
  refine ⟨fun b o hbo => (other b fun q => by rw [q, hnT] at hbo; cases hbo).trans (X.1 b o hbo), X.2.2.1.of_keeps fun b o hb hn => ⟨o, (other b (recs b o hb hn)).trans hb, rfl⟩, fun b o hb hn => (other b (recs b o hb hn)).trans hb⟩

theorem note_any {env : Env} {outer : List Env} {L : Addr} (hfr : A.frames = some (env :: outer)) (hf : env.frame = some L) (X : FlyG B (env :: outer) e cls a0 fl s.heap)
    (hQ : ∀ h', Heap.HeldW B (env :: outer) e cls a0 L h' → s.heap.UpToSlots h' → Q () { s with heap := h' }) : wpAny M A (noteFrame (.ref e) env) Q E s := by
  by_cases q : fl = rawInt L
  · subst q; exact wpAny_noteFrame_againW hf X.2.2.2 (hQ s.heap X (.refl _))
  · obtain ⟨_, hen, _, oe, vs, T, oT, ts, he, ⟨rfl, h0⟩, hd, h1, hnT, hTe, hT, hdT, h3⟩ := id X
    obtain ⟨m1, m2, m3⟩ := fly_more X hT hdT hnT .none
    unfold noteFrame
    simp only [hf]
    refine wpAny_bind (wpAny_field he hd h1 ?_)
    rw [if_pos (show (Value.ref T != Value.none) = true from by simp)]
    refine wpAny_bind (wpAny_field hT hdT h3 ?_)
    rw [if_neg (fun z => q (beq_iff_eq.mp z))]
    refine wpAny_bind (wpAny_setField hT hdT (Array.getElem?_eq_some_iff.mp h3).1 ?_)
    refine wpAny_entryW hfr m2 hf ((Heap.get?_update_other _ _ hTe).trans he) m1 hen hd (Array.getElem?_eq_some_iff.mp h1).1 h0 fun h' x => ?_
    exact hQ h' ⟨x.1, hen, x.2.1, x.2.2.1⟩ fun b o hb hn => x.2.2.2 b o (m3 b o hb hn) hn

theorem leaves_any {env : Env} {outer : List Env} {L : Addr} (hfr : A.frames = some (env :: outer)) (hf : env.frame = some L) (X : FlyG B (env :: outer) e cls a0 fl s.heap)
    (hQ : ∀ h', Heap.FlyingW B outer e cls a0 h' → s.heap.UpToSlots h' → Q () { s with heap := h' }) : wpAny M A (leaving env (.ref e)) Q E s := by
  unfold leaving
  refine wpAny_bind (note_any hfr hf X fun h₁ hh up => wpAny_landsW hh fun h₂ fly up' => ?_)
  obtain ⟨k1, k2, ⟨_, _, k3⟩, k4⟩ := fly
  exact hQ h₂ ⟨k1, k2, k3, k4⟩ (up.trans up')

theorem setFl {F : Option Addr} (X : FlyG B l e cls a0 fl s.heap) (hQ : ∀ h' fl', FlyG B l e cls a0 fl' h' → (∀ b o, s.heap.get? b = some o → (∀ vs, o.data ≠ .fields vs) → h'.get? b = some o) → Q () { s with heap := h' }) :
    wpAny M A (setFlight (.ref e) F) Q E s := by
  obtain ⟨_, hen, _, oe, vs, T, oT, ts, he, hc, hd, h1, hnT, hTe, hT, hdT, h3⟩ := id X
  obtain ⟨m1, m2, m3⟩ := fly_more X hT hdT hnT (F.elim Value.none fun f => rawInt f)
  have h3' := (Array.getElem?_eq_some_iff.mp h3).1
  unfold setFlight
  refine wpAny_bind (wpAny_field he hd h1 ?_)
  rw [if_pos (show (Value.ref T != Value.none) = true from by simp)]
  exact wpAny_setField hT hdT h3' (hQ _ _ ⟨m1, hen, m2, oe, vs, T, _, _, (Heap.get?_update_other _ _ hTe).trans he, hc, hd, h1, hnT, hTe, Heap.get?_update_self _ hT (Obj.isFreed_of_fields (Obj.data_mapFields hdT _)), Obj.data_mapFields hdT _, by simp [h3']; rfl⟩ m3)

theorem throwOn {α : Type} {what : String} {env : Env} {Q : α → Shared → Prop} (X : FlyG B l e cls a0 fl s.heap) (hE : ∀ h' fl', FlyG B l e cls a0 fl' h' → (∀ b o, s.heap.get? b = some o → (∀ vs, o.data ≠ .fields vs) → h'.get? b = some o) → E (.ref e) { s with heap := h' }) :
    wpAny M A (PySem.passOn what (.ref e) env : Sem α) Q E s := by
  obtain ⟨_, _, _, oe, vs, T, _, _, he, _, hd, h1, _⟩ := id X
  unfold PySem.passOn
  refine wpAny_bind (wpAny_field he hd h1 ?_)
  rw [if_neg (show ¬ ((Value.ref T == Value.none) = true) from by simp)]
  first
    | exact wpAny_bind (wpAny_pure (wpAny_bind (setFl X fun h' fl' x k => wpAny_throw (hE h' fl' x k))))
    | exact wpAny_bind (setFl X fun h' fl' x k => wpAny_throw (hE h' fl' x k))
theorem note_frame {env env' : Env} (h : env.frame = env'.frame) (x : Value) : noteFrame x env = noteFrame x env' := by
  unfold noteFrame PySem.frameOf
  rw [h]
end

section
variable {c : C0} {S : Stt} {f : Fm} {ι ι' : List Addr} {ρ γ ρ' γ' : List (Str × V)} {σ σ' : List O} {h h' hb : Heap} {s : Shared}
theorem note_air {ea C : Addr} {tk : Nat} {A : Around} {Q : Unit → Shared → Prop} {E : Value → Shared → Prop} (w : Sit c S f ι ρ γ σ hb) (hA : A.frames = some (f.fe :: f.outer)) (air : Air c f ea C hb h')
    (k : ∀ h₃ B a0 L, f.fe.frame = some L → Heap.HeldW B (f.fe :: f.outer) ea (.ref C) a0 L h₃ → (∀ b o, hb.get? b = some o → b ∉ frs f → B.get? b = some o) → (∀ b o, hb.get? b = some o → b ∈ frs f → ∃ sl, h₃.get? b = some { o with slots := sl }) → Q () { s with heap := h₃, toks := tk }) :
    wpAny c.M A (noteFrame (.ref ea) f.fe) Q E { s with heap := h', toks := tk } := by
  obtain ⟨_, ⟨L, oL, hfe, hnL, hoL, hdL⟩, _⟩ := w.frames
  have nof : ∀ b o, hb.get? b = some o → b ∈ frs f → ∀ vs, o.data ≠ .fields vs := fun b o e hm => by
    obtain ⟨_, o', ho', hd'⟩ := w.frames.mem hm
    rw [e] at ho'; cases ho'; exact hd'
  rcases air with ⟨args, hx⟩ | ⟨B, a0, fl, hB, hcov, hfl, hsl⟩
  · obtain ⟨t, he, htn, ht⟩ := hx.there
    have hff := W.funFrames_hide w.frames (as := frs f) fun env hE b hb' => List.mem_filterMap.mpr ⟨env, hE, hb'⟩
    have hff' : h'.FunFrames (W.hideAll hb (frs f)) (f.fe :: f.outer) := hff.of_keeps fun b o e _ => ⟨o, hx.keeps b o e, rfl⟩
    have fresh : ∀ b, hb.get? b = none → (W.hideAll hb (frs f)).get? b = none := fun b z => by
      cases q : (W.hideAll hb (frs f)).get? b with
      | none => rfl
      | some o => rw [W.of_hideAll _ q] at z; cases z
    have main : wpAny c.M A (do let a ← frameOf f.fe; let pl ← entryPlaceOf L false; let b ← EntryCells.newEntry .none a .none (rawInt L) .none pl; setField (.ref ea) 1 b) Q E { s with heap := h', toks := tk } := by
      refine wpAny_entryW (base := W.hideAll hb (frs f)) (a0 := .ref t) (s := { s with heap := h', toks := tk }) hA hff' hfe he (fun b o e => hx.keeps b o (W.of_hideAll _ e)) (fresh ea hx.new) rfl (by show 1 < 6; decide) rfl fun h₃ hN => ?_
      obtain ⟨k1, k2, k3, k4⟩ := hN
      refine k h₃ _ _ L hfe ⟨k1, fresh ea hx.new, k2, k3⟩ (fun b o e n => W.hideAll_get _ e n) fun b o e hm => ?_
      exact k4 b o (hx.keeps b o e) (nof b o e hm)
    unfold noteFrame
    simp only [hfe]
    refine wpAny_bind (wpAny_field he rfl (x := .none) rfl ?_)
    exact main
  · refine note_any hA hfe hfl fun h₃ held up => ?_
    refine k h₃ B a0 L hfe held hcov fun b o e hm => ?_
    obtain ⟨sl, e1⟩ := hsl b o e hm
    obtain ⟨sl', e2⟩ := up b _ e1 (nof b o e hm)
    exact ⟨sl', e2⟩
end

section
variable {c : C0} {S : Stt} {f : Fm} {ι ι' : List Addr} {ρ γ : List (Str × V)} {σ σ' : List O} {h h' : Heap} {s : Shared}

theorem Sit.back {S' : Stt} {f' : Fm} {ρ' γ' : List (Str × V)} {X : Addr → Prop} (w : Sit c S f ι ρ γ σ h) (A : Aft ι h ι' h') (w' : Sit c S' f' ι' ρ' γ' σ' h') : Sit c S f ι' ρ γ σ' h' :=
  w.aft A w'.base A.2.1 w'.len w'.nd w'.sto

theorem hide_kp {hb : Heap} {L : Addr} : Kp (· = L) hb (hb.hide L) := fun b o e n => ⟨o, (Heap.hide_ne hb n).trans e, .refl o⟩
theorem leaveX {S' : Stt} {f' : Fm} {ρ' γ' : List (Str × V)} {X : Addr → List O → Prop} {L ea C : Addr} {hb h₂ : Heap} {tk : Nat} {E : Value → Shared → Prop} (w : Sit c S f ι ρ γ σ s.heap) (w₂ : Sit c S' f' ι' ρ' γ' σ' hb) (hL : s.heap.get? L = none) (hfe : f'.fe.frame = some L) (henv : f'.env = f'.fe) (hloc : f'.env.locals = L)
    (hout : f'.outer = f.fe :: f.outer) (A : Aft ι s.heap ι' hb) (air : Air c f' ea C hb h₂) (q : X C σ') :
    wpAny c.M f'.A (leaving f'.fe (.ref ea)) (fun _ s'' => PX c S f ι ρ γ s X (.ref ea) s'') E { s with heap := h₂, toks := tk } := by
  have hfrs : frs f' = L :: frs f := by simp only [frs, List.filterMap_cons, hfe, hout]
  have hnL : ∀ b o, s.heap.get? b = some o → b ≠ L := fun b o e q => by rw [q, hL] at e; cases e
  have A' : Aft ι s.heap ι' (hb.hide L) := ⟨A.1, A.2.1, fun b o e n => by
    obtain ⟨o', e', s'⟩ := A.2.2 b o e n
    exact ⟨o', (Heap.hide_ne hb (hnL b o e)).trans e', s'⟩⟩
  have hbL : c.base.get? L = none := hloc ▸ w₂.locx.2
  have M : MuX (· = L) hb := fun a o qa ho => by
    obtain ⟨m, ⟨oL, es, ep, hoL, hdL, _⟩, _⟩ := w₂.loc
    rw [hloc, ← qa, ho] at hoL; cases hoL
    exact ⟨fun _ its n z => (by rw [hdL] at z; cases z), fun vs z => (by rw [hdL] at z; cases z)⟩
  have hLi : L ∉ ι' := hloc ▸ w₂.locx.1
  have ws : Sit c S f ι' ρ γ σ' (hb.hide L) := w.aft A' (fun b o e => (Heap.hide_ne hb fun z => by rw [z, hbL] at e; cases e).trans (w₂.base b o e)) A.2.1 w₂.len w₂.nd fun i o a e1 e2 =>
    (w₂.sto i o a e1 e2).other M ⟨[], by simp⟩ hide_kp fun ob z => (Heap.hide_ne hb (fun (y : a = L) => hLi (y ▸ List.mem_of_getElem? e2))).trans z
  have hfr : f'.A.frames = some (f'.fe :: f.fe :: f.outer) := by rw [← hout]; exact w₂.stack
  have ofhide : ∀ b o, (hb.hide L).get? b = some o → hb.get? b = some o ∧ b ≠ L := fun b o e => ⟨Heap.of_hide e, fun z => by rw [z, Heap.hide_self] at e; cases e⟩
  have nof : ∀ b o, hb.get? b = some o → b ∈ frs f' → ∀ vs, o.data ≠ .fields vs := fun b o e hm => by
    obtain ⟨_, o', ho', hd'⟩ := w₂.frames.mem hm
    rw [e] at ho'; cases ho'; exact hd'
  rcases air with ⟨args, hx⟩ | ⟨B, a0, fl, hB, hcov, hfl, hsl⟩
  · have hin : ∀ env ∈ f'.fe :: f'.outer, ∀ b, env.frame = some b → b ∈ frs f' := fun env he b hb' => List.mem_filterMap.mpr ⟨env, he, hb'⟩
    have hff := W.funFrames_hide w₂.frames hin
    rw [hout] at hff
    refine wpAny_leaves_madeW hfr hfe (fun b o e => W.of_hideAll _ e) hff hx fun h₃ t fly _ _ up => ?_
    refine ⟨C, ea, hb.hide L, σ', ι', h₃, tk, rfl, rfl, A', ws, .inr ⟨_, _, .none, fun b o e => ?_, fun b o e n => ?_, fly, fun b o e hm => ?_⟩, q⟩
    · refine W.hideAll_get _ (w₂.base b o e) fun hm => ?_
      rw [(w₂.frames.mem hm).1] at e; cases e
    · obtain ⟨e1, e2⟩ := ofhide b o e
      exact W.hideAll_get _ e1 (by rw [hfrs]; exact fun z => (List.mem_cons.mp z).elim e2 n)
    · obtain ⟨e1, e2⟩ := ofhide b o e
      exact up b o (hx.keeps b o e1) (nof b o e1 (by rw [hfrs]; exact .tail _ hm))
  · rw [hout] at hfl
    refine leaves_any hfr hfe hfl fun h₃ fly up => ?_
    refine ⟨C, ea, hb.hide L, σ', ι', h₃, tk, rfl, rfl, A', ws, .inr ⟨B, a0, .none, hB, fun b o e n => ?_, fly, fun b o e hm => ?_⟩, q⟩
    · obtain ⟨e1, e2⟩ := ofhide b o e
      exact hcov b o e1 (by rw [hfrs]; exact fun z => (List.mem_cons.mp z).elim e2 n)
    · obtain ⟨e1, e2⟩ := ofhide b o e
      have hm' : b ∈ frs f' := by rw [hfrs]; exact .tail _ hm
      obtain ⟨sl, e3⟩ := hsl b o e1 hm'
      obtain ⟨sl', e4⟩ := up b _ e3 (nof b o e1 hm')
      exact ⟨sl', e4⟩
end

section
variable {c : C0} {S : Stt} {ρ γ : List (Str × V)} {σ : List O} {Q : V → List O → Prop} {X : Addr → List O → Prop}

abbrev Stt.deeper (S : Stt) (scope : Scope) : Stt := { n := S.n + 1, kd := fun x => scope.names.lookup x, q := S.q }

theorem callCode {a : Addr} {ps : List Str} {body : List Stmt} {scope : Scope} {vs : List V} {ρ' γ' : List (Str × V)} (F : FnAt c a ps body scope) (hlen : vs.length = ps.length) (hn : S.n < 50)
    (hρ : ∀ x v, ρ'.lookup x = some v → scope.names.lookup x = some .local ∧ (ps.zip vs).lookup x = some v)
    (hγ : ∀ x v, γ'.lookup x = some v → scope.names.lookup x = some .cell ∧ (ps.zip vs).lookup x = some v)
    (h : WSs c (S.deeper scope) body ρ' γ' (fun fl _ _ σ' => Q (match fl with | .ret v => v | _ => .none) σ') X σ) (f : Fm) (ι : List Addr) (s : Shared) (us : List Value) (w : Sit c S f ι ρ γ σ s.heap) (hr : VRs ι s.heap vs us) :
    codeAny c.M f.A (.call (.ref a) ⟨us, []⟩) (fun r s' => match r with | .ok (.ret v) => PR VR c S f ι ρ γ s Q v s' | .ok _ => False | .error e => PX c S f ι ρ γ s X e s') s := by
  obtain ⟨o, fd, ho, hd, hb, rfl, hcl, hgl, hbl, hcd, hbind⟩ := F.there
  have hul : us.length = ps.length := hr.length.trans hlen
  have hkeys : ((ps.zip us).map (·.1)).Nodup := by rw [zip_keys hul]; exact F.nd
  have hdep := w.depth
  have hun := w.units
  have hlv := w.lvl
  refine codeAny_call_function (show f.A.depth < recursionLimit by unfold recursionLimit; omega) (w.base _ _ ho) hd F.co F.gen hb (hcd.keeps w.base) ?_
  rw [hbind us hul, hcl]
  refine wpAny_pure (wpAny_newFunctionEnv_cells F.kind (fun x hx => ?_) fun env he s' x => ?_)
  · have hp : x.1 ∈ ps := by rw [← zip_keys hul]; exact List.mem_map_of_mem hx
    exact (F.par _ hp).imp id fun q => ⟨q, W.cellsFrom_some _ _ _ (.inl q)⟩
  obtain ⟨h₁, tk₁, rfl, hk₁⟩ := x.done
  have hL : env.locals = s.heap.objs.size := by rw [he]; rfl
  have hsc : env.scope = fd.scope := by rw [he]; rfl
  have hfr : env.frame = some s.heap.objs.size := by rw [he]; rfl
  have hkd : ∀ y, env.kindOf y = fd.scope.names.lookup y := fun y => by unfold Env.kindOf; rw [hsc]
  have hcells : env.cells = cellsFrom (s.heap.objs.size + 1) fd.scope.names [] := by rw [he]; rfl
  have above : ∀ b o, s.heap.get? b = some o → b ≠ env.locals ∧ ∀ y, env.cells.lookup y ≠ some b := fun b o e => by
    have hb := Heap.lt_size e
    refine ⟨by rw [hL]; exact Nat.ne_of_lt hb, fun y q => ?_⟩
    have := x.above y b (mem_of_lookup q)
    rw [hL] at this; exact absurd (Nat.lt_trans hb this) (Nat.lt_irrefl _)
  have hns := x.toInCall.ns
  rw [hL] at hns
  -- the called frame
  have w₁ := w.keeps hk₁
  have wc : Sit c (S.deeper fd.scope) { A := f.A.deeper env, fe := env, env := env, outer := f.fe :: f.outer } ι ρ' γ' σ h₁ := {
    gr := w.gr
    base := w₁.base
    stack := Around.frames_deeper w.stack
    frames := by
      obtain ⟨oL, es, ep, hoL, hdL, _⟩ := hns
      exact ⟨by rw [hsc, F.kind]; decide, ⟨_, oL, hfr, base_above w, hoL, fun vs q => (by rw [hdL] at q; cases q)⟩, w₁.frames⟩
    fnotin := fun e he' L hL' => by
      rcases List.mem_cons.mp he' with rfl | he'
      · rw [hfr] at hL'; cases hL'; exact w.fresh
      · exact w.fnotin e he' L hL'
    fdict := fun e he' L o hL' ho' => by
      rcases List.mem_cons.mp he' with rfl | he'
      · rw [hfr] at hL'; cases hL'
        obtain ⟨oL, es, ep, hoL, hdL, _⟩ := hns
        rw [ho'] at hoL; cases hoL
        exact ⟨es, ep, hdL⟩
      · exact w₁.fdict e he' L o hL' ho'
    depth := by show f.A.depth + 1 ≤ 310 + 4 * (S.n + 1); omega
    units := by show f.A.units + 3 ≤ 50 + 20 * (S.n + 1); omega
    lvl := by show S.n + 1 ≤ 50; omega
    quiet := fun q => w.quiet q
    kind := by show env.scope.kind = _; rw [hsc]; exact F.kind
    kinds := hkd
    glob := by show env.globals = _; rw [he]; exact hgl
    blt := by show env.builtins = _; rw [he]; exact hbl
    frm := rfl
    loc := by
      refine ⟨_, by show h₁.Ns env.locals _; rw [hL]; exact hns, fun y v e => ?_⟩
      obtain ⟨e1, e2⟩ := hρ y v e
      obtain ⟨u, e3, e4⟩ := zip_lookup hr e2
      refine ⟨u, ?_, e4.mono w.mu (.of_keeps hk₁)⟩
      rw [bindL_is, if_pos ((hkd y).trans e1), lookup_reverse hkeys, e3]; rfl
    locx := ⟨by show env.locals ∉ ι; rw [hL]; exact w.fresh, by show c.base.get? env.locals = none; rw [hL]; exact base_above w⟩
    cel := fun y v e => by
      obtain ⟨e1, e2⟩ := hγ y v e
      obtain ⟨u, e3, e4⟩ := zip_lookup hr e2
      have hs := W.cellsFrom_some (x := y) fd.scope.names (s.heap.objs.size + 1) [] (.inl e1)
      obtain ⟨b, hb'⟩ := Option.isSome_iff_exists.mp hs
      have hc := x.cell y b (by rw [hcells]; exact hb')
      rw [bindC_is, if_neg (by rw [hkd, e1]; decide), lookup_reverse hkeys, e3] at hc
      exact ⟨b, u, by show env.cells.lookup y = _; rw [hcells]; exact hb', hc, e4.mono w.mu (.of_keeps hk₁)⟩
    celx := fun y b e => by
      have hb' := x.above y b (mem_of_lookup e)
      have hnone : s.heap.get? b = none := Heap.get?_none_of_le (by rw [hL] at hb'; exact Nat.le_of_lt hb')
      refine ⟨fun q => ?_, ?_, ?_, _, x.cell y b e⟩
      · obtain ⟨o', e'⟩ := w.io_some q; rw [hnone] at e'; cases e'
      · exact Nat.ne_of_gt hb'
      · cases q : c.base.get? b with
        | none => rfl
        | some o' => rw [w.base _ _ q] at hnone; cases hnone
    celk := fun y e => by
      have hs := W.cellsFrom_some (x := y) fd.scope.names (s.heap.objs.size + 1) [] (.inl e)
      obtain ⟨b, hb'⟩ := Option.isSome_iff_exists.mp hs
      exact ⟨b, by show env.cells.lookup y = _; rw [hcells]; exact hb'⟩
    celd := fun y z b e1 e2 => name_of_addr x.apart (mem_of_lookup e1) (mem_of_lookup e2)
    len := w.len
    nd := w.nd
    sto := w₁.sto }
  have hnl : h₁.NoLimit := (w.gr.nolimit.keeps w.base).keeps hk₁
  -- from the called frame's heaps to the caller's
  have back : ∀ ι' h', AftX { A := f.A.deeper env, fe := env, env := env, outer := f.fe :: f.outer } ι h₁ ι' h' → Aft ι s.heap ι' h' := fun ι' h' A => by
    refine ⟨A.1, fun b hb => (A.2.1 b hb).imp id fun q => ?_, fun b o e n => A.2.2 b o (hk₁ b o e) fun q => ?_⟩
    · cases z : s.heap.get? b with
      | none => rfl
      | some o' => rw [hk₁ _ _ z] at q; cases q
    · rcases q with q | q | ⟨y, q⟩
      · exact n q
      · exact (above b o e).1 q
      · exact (above b o e).2 y q
  refine ⟨hnl, codeAny_func (wpAny_mono (h _ ι { s with heap := h₁, toks := tk₁ } wc rfl) (fun fl s₂ p => ?_) fun ev s₂ p => ?_)⟩
  · obtain ⟨fl', ρ₂, γ₂, σ₂, ι₂, h₂, tk₂, rfl, A₂, w₂, r₂, q₂⟩ := p
    have A := back _ _ A₂
    cases r₂ with
    | ret r => exact ⟨_, σ₂, ι₂, h₂, tk₂, rfl, A, w.aft A w₂.base A.2.1 w₂.len w₂.nd w₂.sto, r, q₂⟩
    | next => exact ⟨.none, σ₂, ι₂, h₂, tk₂, rfl, A, w.aft A w₂.base A.2.1 w₂.len w₂.nd w₂.sto, .none, q₂⟩
    | brk => exact ⟨.none, σ₂, ι₂, h₂, tk₂, rfl, A, w.aft A w₂.base A.2.1 w₂.len w₂.nd w₂.sto, .none, q₂⟩
    | cont => exact ⟨.none, σ₂, ι₂, h₂, tk₂, rfl, A, w.aft A w₂.base A.2.1 w₂.len w₂.nd w₂.sto, .none, q₂⟩
  · obtain ⟨C, ea, hb, ρ₂, γ₂, σ₂, ι₂, h₂, tk₂, rfl, rfl, A₂, w₂, air, q⟩ := p
    exact leaveX (f' := { A := f.A.deeper env, fe := env, env := env, outer := f.fe :: f.outer }) w w₂ none_above hfr rfl hL rfl (back _ _ A₂) air q
theorem callDef {a : Addr} {ps : List Str} {body : List Stmt} {scope : Scope} {vs : List V} {ρ' γ' : List (Str × V)} (F : FnAt c a ps body scope) (hlen : vs.length = ps.length) (hn : S.n < 50)
    (hρ : ∀ x v, ρ'.lookup x = some v → scope.names.lookup x = some .local ∧ (ps.zip vs).lookup x = some v)
    (hγ : ∀ x v, γ'.lookup x = some v → scope.names.lookup x = some .cell ∧ (ps.zip vs).lookup x = some v)
    (h : WSs c (S.deeper scope) body ρ' γ' (fun fl _ _ σ' => Q (match fl with | .ret v => v | _ => .none) σ') X σ) : WL VR c S (fun us => call (.ref a) us) vs ρ γ Q X σ := fun f ι s us w hr =>
  wpAny_call (callCode F hlen hn hρ hγ h f ι s us w hr)
end

structure Itr (c : C0) (I : Addr) (vs : List V) (Src : List O → Prop) (St : Nat → List Addr → Heap → Prop) : Prop where
  frame : ∀ k ι h ι' h', St k ι h → (∃ t, ι' = ι ++ t) → (∀ o, h.get? I = some o → h'.get? I = some o) → (∃ Y, MuX Y h ∧ Kp Y h h') → St k ι' h'
  isrec : ∀ k ι h, St k ι h → ∃ o fs, h.get? I = some o ∧ o.data = .fields fs ∧ ∀ C, o.cls ≠ .ref C
  item : ∀ S f ι ρ γ σ k s v (Q : Option Value → Shared → Prop) (E : Value → Shared → Prop), vs[k]? = some v → Sit c S f ι ρ γ σ s.heap → Src σ → St k ι s.heap →
    (∀ u h' tk, VR ι h' v u → St (k + 1) ι h' → Heap.ExtBut I s.heap h' → Q (some u) { s with heap := h', toks := tk }) → wpAny c.M f.A (pyNext (.ref I)) Q E s
  done : ∀ S f ι ρ γ σ s (Q : Option Value → Shared → Prop) (E : Value → Shared → Prop), Sit c S f ι ρ γ σ s.heap → S.q = true → Src σ → St vs.length ι s.heap →
    (∀ h' tk, Heap.ExtBut I s.heap h' → Q none { s with heap := h', toks := tk }) → wpAny c.M f.A (pyNext (.ref I)) Q E s
  self : ∀ S f ι ρ γ σ s k (Q : Value → Shared → Prop) (E : Value → Shared → Prop), Sit c S f ι ρ γ σ s.heap → St k ι s.heap → Q (.ref I) s → wpAny c.M f.A (pyIter (.ref I)) Q E s

inductive WIP (c : C0) (S : Stt) (f : Fm) (ι : List Addr) (ρ γ : List (Str × V)) (s : Shared) (Q : List V → (List O → Prop) → List O → Prop) (it : Value) (s₂ : Shared) : Prop where
  | mk (vs : List V) (Src : List O → Prop) (I : Addr) (St : Nat → List Addr → Heap → Prop) (σ' : List O) (ι' : List Addr) (h' : Heap) (tk : Nat) (e1 : it = .ref I) (e2 : s₂ = { s with heap := h', toks := tk }) (A : Aft ι s.heap ι' h') (w : Sit c S f ι' ρ γ σ' h') (itr : Itr c I vs Src St) (st : St 0 ι' h') (hI : s.heap.get? I = none) (src : Src σ') (q : Q vs Src σ')
def WI (c : C0) (S : Stt) (iter : Expr) (ρ γ : List (Str × V)) (Q : List V → (List O → Prop) → List O → Prop) (X : Addr → List O → Prop) (σ : List O) : Prop :=
  ∀ f ι s, Sit c S f ι ρ γ σ s.heap → wpAny c.M f.A (eval iter f.env) (fun x s₁ => wpAny c.M f.A (pyIter x) (WIP c S f ι ρ γ s Q) (PX c S f ι ρ γ s X) s₁) (PX c S f ι ρ γ s X) s

section
variable {c : C0} {S : Stt} {f : Fm} {ι ι' : List Addr} {ρ γ : List (Str × V)} {σ σ' : List O} {h h' : Heap} {s : Shared}

theorem Sit.extI (w : Sit c S f ι ρ γ σ h) {I : Addr} (hr : ∃ o fs, h.get? I = some o ∧ o.data = .fields fs ∧ ∀ C, o.cls ≠ .ref C) (hb : c.base.get? I = none) (k : Heap.ExtBut I h h') : Sit c S f ι ρ γ σ h' := by
  obtain ⟨oI, fs, hoI, hdI, hcI⟩ := hr
  have kp : Kp (· = I) h h' := fun b o e n => ⟨o, k b o n e, .refl o⟩
  have M : MuX (· = I) h := fun a o qa ho => by
    subst qa; rw [hoI] at ho; cases ho
    exact ⟨fun _ its n z => (by rw [hdI] at z; cases z), fun vs z => hcI⟩
  have ne : ∀ b o, h.get? b = some o → (∀ vs, o.data ≠ .fields vs) → b ≠ I := fun b o e n q => by subst q; rw [hoI] at e; cases e; exact n fs hdI
  have p : ∃ t, ι = ι ++ t := ⟨[], by simp⟩
  obtain ⟨m, hm, hrr⟩ := w.loc
  refine { w with base := fun b o e => k b o (fun q => by rw [q, hb] at e; cases e) (w.base b o e), frames := framesOf w.frames fun b o e n => ⟨o, k b o (ne b o e n) e, n⟩, fdict := fun env he L o' hL e' => ?_, loc := ⟨m, ?_, fun x v e => ?_⟩, cel := fun x v e => ?_, celx := fun x a e => ?_, sto := fun i o a e1 e2 => ?_ }
  · obtain ⟨_, o, ho, hn⟩ := w.frames.mem (List.mem_filterMap.mpr ⟨env, he, hL⟩)
    have := k L o (ne L o ho hn) ho
    rw [e'] at this; cases this
    exact w.fdict env he L o' hL ho
  · obtain ⟨o, es, ep, ho, hd, r⟩ := hm
    exact ⟨o, es, ep, k _ o (ne _ o ho fun vs q => by rw [hd] at q; cases q) ho, hd, r⟩
  · obtain ⟨u, e1, e2⟩ := hrr x v e
    exact ⟨u, e1, e2.grow M p kp⟩
  · obtain ⟨a, u, e1, ⟨o, ho, hd⟩, e3⟩ := w.cel x v e
    exact ⟨a, u, e1, ⟨o, k _ o (ne _ o ho fun vs q => by rw [hd] at q; cases q) ho, hd⟩, e3.grow M p kp⟩
  · obtain ⟨n1, n2, n3, v₀, o, ho, hd⟩ := w.celx x a e
    exact ⟨n1, n2, n3, v₀, o, k _ o (ne _ o ho fun vs q => by rw [hd] at q; cases q) ho, hd⟩
  · refine (w.sto i o a e1 e2).other M p kp fun ob z => k _ ob (ne _ ob z ((w.sto i o a e1 e2).mu ob z).2) z
theorem Sit.not_rec (w : Sit c S f ι ρ γ σ h) {I : Addr} (hr : ∃ o fs, h.get? I = some o ∧ o.data = .fields fs ∧ ∀ C, o.cls ≠ .ref C) : I ∉ ι ∧ ¬ Lo f I := by
  obtain ⟨oI, fs, hoI, hdI, hcI⟩ := hr
  refine ⟨fun q => (w.mu I q oI hoI).2 fs hdI, fun q => ?_⟩
  rcases q with q | ⟨x, q⟩
  · obtain ⟨m, ⟨o, es, ep, ho, hd, _⟩, _⟩ := w.loc
    rw [← q, hoI] at ho; cases ho; rw [hd] at hdI; cases hdI
  · obtain ⟨_, _, _, v₀, o, ho, hd⟩ := w.celx x I q
    rw [hoI] at ho; cases ho; rw [hd] at hdI; cases hdI
end

section
variable {c : C0} {S : Stt} {ρ γ : List (Str × V)} {σ : List O} {Q : Fl → List (Str × V) → List (Str × V) → List O → Prop} {X : Addr → List O → Prop}

theorem dec1 {n k : Nat} (h : k < n) : n + 1 - (k + 1) < n + 1 - k := by omega
def Turn (Q : Fl → List (Str × V) → List (Str × V) → List O → Prop) (N : List (Str × V) → List (Str × V) → List O → Prop) : Fl → List (Str × V) → List (Str × V) → List O → Prop
  | .next, ρ, γ, σ => N ρ γ σ
  | .cont, ρ, γ, σ => N ρ γ σ
  | .brk, ρ, γ, σ => Q .next ρ γ σ
  | .ret v, ρ, γ, σ => Q (.ret v) ρ γ σ

inductive FL (c : C0) (S : Stt) (f : Fm) (ι : List Addr) (s : Shared) (vs : List V) (Src : List O → Prop) (St : Nat → List Addr → Heap → Prop) (Inv : Nat → List (Str × V) → List (Str × V) → List O → Prop) (n : Nat) (s' : Shared) : Prop where
  | mk (k : Nat) (ρ' γ' : List (Str × V)) (σ' : List O) (ι' : List Addr) (h' : Heap) (tk : Nat) (e : s' = { s with heap := h', toks := tk }) (en : n = vs.length + 1 - k) (hk : k ≤ vs.length) (A : AftX f ι s.heap ι' h') (w : Sit c S f ι' ρ' γ' σ' h') (st : St k ι' h') (src : Src σ') (inv : Inv k ρ' γ' σ')
theorem sForG {target iter : Expr} {body : List Stmt} {pos : Pos} (pρ pγ : List (Str × V) → V → List (Str × V)) (hq : S.q = true)
    (hst : ∀ f ι ρ γ σ s v u (Qs : Unit → Shared → Prop) (E : Value → Shared → Prop), Sit c S f ι ρ γ σ s.heap → VR ι s.heap v u → (∀ h' tk, Sit c S f ι (pρ ρ v) (pγ γ v) σ h' → AftX f ι s.heap ι h' → Qs () { s with heap := h', toks := tk }) → wpAny c.M f.A (assign target f.env u) Qs E s)
    (h : WI c S iter ρ γ (fun vs Src σ₀ => ∃ Inv : Nat → List (Str × V) → List (Str × V) → List O → Prop, Inv 0 ρ γ σ₀ ∧
      (∀ k v ρ γ σ, vs[k]? = some v → Src σ → Inv k ρ γ σ → WSs c S body (pρ ρ v) (pγ γ v) (Turn Q fun ρ' γ' σ' => Src σ' ∧ Inv (k + 1) ρ' γ' σ') (fun _ _ => False) σ) ∧
      (∀ ρ γ σ, Src σ → Inv vs.length ρ γ σ → Q .next ρ γ σ)) X σ)
    (hs : ∀ env x, foldedSetIterable iter env x = pure x := by intro _ _; rfl) (ht : ∀ it v, letOwnedTupleGo target it v = pure () := by intro _ _; rfl) : WS c S (.For target iter body [] pos) ρ γ Q X σ := fun f ι s w hfe => by
  refine wpAny_For (wpAny_mono (h f ι s w) (fun x s₁ p => wpAny_mono p (fun it s₂ p => ?_) fun _ _ p => p.st) fun _ _ p => p.st) (hs _)
  obtain ⟨vs, Src, I, St, σ₂, ι₂, h₂, tk₂, rfl, rfl, A₂, w₂, itr, st₂, hI, src₂, ⟨Inv, i0, turn, fin⟩⟩ := p
  have hIb : c.base.get? I = none := by
    cases z : c.base.get? I with
    | none => rfl
    | some o => rw [w.base _ _ z] at hI; cases hI
  -- the state between the turns
  refine codeAny_forLoop (FL c S f ι s vs Src St Inv) ?_ (vs.length + 1)
    ⟨0, ρ, γ, σ₂, ι₂, h₂, tk₂, rfl, rfl, Nat.zero_le _, A₂.x f, w₂, st₂, src₂, i0⟩ (ht _)
  rintro n s' ⟨k, ρ', γ', σ', ι', h', tk, rfl, rfl, hk, A', w', st', src', inv'⟩
  have hrec := itr.isrec _ _ _ st'
  have inot := w'.not_rec hrec
  have keepI : ∀ h₃, Heap.ExtBut I h' h₃ → AftX f ι s.heap ι' h₃ := fun h₃ e => ⟨A'.1, A'.2.1, fun b o eb n => by
    obtain ⟨o', e', s'⟩ := A'.2.2 b o eb n
    exact ⟨o', e b o' (fun q => by rw [q, hI] at eb; cases eb) e', s'⟩⟩
  by_cases hlt : k < vs.length
  · obtain ⟨v, hv⟩ : ∃ v, vs[k]? = some v := ⟨vs[k], List.getElem?_eq_getElem hlt⟩
    refine itr.item S f ι' ρ' γ' σ' k { s with heap := h', toks := tk } v _ _ hv w' src' st' fun u h₃ tk₃ vr st₃ ext => ?_
    have w₃ := w'.extI hrec hIb ext
    have A₃ := keepI h₃ ext
    refine hst f ι' ρ' γ' σ' { s with heap := h₃, toks := tk₃ } v u _ _ w₃ vr fun h₄ tk₄ w₄ A₄ => ?_
    have A₄' := A₃.then w₃ A₄
    have hrec₃ := itr.isrec _ _ _ st₃
    have inot₃ := w₃.not_rec hrec₃
    obtain ⟨oI, fs, hoI, hdI, hcI⟩ := hrec₃
    have keep4 : ∀ o, h₃.get? I = some o → h₄.get? I = some o := fun o e => by
      obtain ⟨o', e', s'⟩ := A₄.2.2 I o e (fun q => q.elim inot₃.1 inot₃.2)
      rw [hoI] at e; cases e
      rw [s'.eq fun es n q => by rw [hdI] at q; cases q] at e'
      exact e'
    have st₄ := itr.frame _ _ _ ι' h₄ st₃ ⟨[], by simp⟩ keep4 ⟨_, w₃.muX, A₄.2.2⟩
    refine wpAny_mono (turn k v ρ' γ' σ' hv src' inv' f ι' { s with heap := h₄, toks := tk₄ } w₄ hfe) (fun fl s₅ p => ?_) fun _ _ p => ?_
    · obtain ⟨fl', ρ₅, γ₅, σ₅, ι₅, h₅, tk₅, rfl, A₅, w₅, r₅, q₅⟩ := p
      have A₅' := A₄'.then w₄ A₅
      have hrec₄ := itr.isrec _ _ _ st₄
      have inot₄ := w₄.not_rec hrec₄
      have keep5 : ∀ o, h₄.get? I = some o → h₅.get? I = some o := fun o e => by
        obtain ⟨o', e', s'⟩ := A₅.2.2 I o e (fun q => q.elim inot₄.1 inot₄.2)
        have := keep4 oI hoI
        rw [e] at this; cases this
        rw [s'.eq fun es n q => by rw [hdI] at q; cases q] at e'
        exact e'
      have st₅ := itr.frame _ _ _ ι₅ h₅ st₄ A₅.1 keep5 ⟨_, w₄.muX, A₅.2.2⟩
      cases r₅ with
      | next => exact ⟨vs.length + 1 - (k + 1), dec1 hlt, k + 1, ρ₅, γ₅, σ₅, ι₅, h₅, tk₅, rfl, rfl, hlt, A₅', w₅, st₅, q₅.1, q₅.2⟩
      | cont => exact ⟨vs.length + 1 - (k + 1), dec1 hlt, k + 1, ρ₅, γ₅, σ₅, ι₅, h₅, tk₅, rfl, rfl, hlt, A₅', w₅, st₅, q₅.1, q₅.2⟩
      | brk => exact ⟨.next, ρ₅, γ₅, σ₅, ι₅, h₅, tk₅, rfl, A₅', w₅, .next, q₅⟩
      | ret r => exact ⟨.ret _, ρ₅, γ₅, σ₅, ι₅, h₅, tk₅, rfl, A₅', w₅, .ret r, q₅⟩
    · obtain ⟨_, _, _, _, _, _, _, _, _, _, _, _, _, _, z⟩ := p
      exact z.elim
  · have hke : k = vs.length := Nat.le_antisymm hk (Nat.le_of_not_lt hlt)
    subst hke
    refine itr.done S f ι' ρ' γ' σ' { s with heap := h', toks := tk } _ _ w' hq src' st' fun h₃ tk₃ ext => wpAny_execs_nil ?_
    exact ⟨.next, ρ', γ', σ', ι', h₃, tk₃, rfl, keepI h₃ ext, w'.extI hrec hIb ext, .next, fin _ _ _ src' inv'⟩

theorem sForL {x : Str} {px : Pos} {iter : Expr} {body : List Stmt} {pos : Pos} (hq : S.q = true) (hk : S.kd x = some .local)
    (h : WI c S iter ρ γ (fun vs Src σ₀ => ∃ Inv : Nat → List (Str × V) → List (Str × V) → List O → Prop, Inv 0 ρ γ σ₀ ∧
      (∀ k v ρ γ σ, vs[k]? = some v → Src σ → Inv k ρ γ σ → WSs c S body (upd ρ x v) γ (Turn Q fun ρ' γ' σ' => Src σ' ∧ Inv (k + 1) ρ' γ' σ') (fun _ _ => False) σ) ∧
      (∀ ρ γ σ, Src σ → Inv vs.length ρ γ σ → Q .next ρ γ σ)) X σ)
    (hs : ∀ env x, foldedSetIterable iter env x = pure x := by intro _ _; rfl) : WS c S (.For (.Name x px) iter body [] pos) ρ γ Q X σ :=
  sForG (fun ρ v => upd ρ x v) (fun γ _ => γ) hq (fun f ι ρ γ σ s v u Qs E w r n => wpAny_assign_Name (store_L w hk r fun h' w' A' => n h' _ w' A')) h hs (fun _ _ => rfl)
theorem sForC {x : Str} {px : Pos} {iter : Expr} {body : List Stmt} {pos : Pos} (hq : S.q = true) (hk : S.kd x = some .cell)
    (h : WI c S iter ρ γ (fun vs Src σ₀ => ∃ Inv : Nat → List (Str × V) → List (Str × V) → List O → Prop, Inv 0 ρ γ σ₀ ∧
      (∀ k v ρ γ σ, vs[k]? = some v → Src σ → Inv k ρ γ σ → WSs c S body ρ (upd γ x v) (Turn Q fun ρ' γ' σ' => Src σ' ∧ Inv (k + 1) ρ' γ' σ') (fun _ _ => False) σ) ∧
      (∀ ρ γ σ, Src σ → Inv vs.length ρ γ σ → Q .next ρ γ σ)) X σ)
    (hs : ∀ env x, foldedSetIterable iter env x = pure x := by intro _ _; rfl) : WS c S (.For (.Name x px) iter body [] pos) ρ γ Q X σ :=
  sForG (fun ρ _ => ρ) (fun γ v => upd γ x v) hq (fun f ι ρ γ σ s v u Qs E w r n => wpAny_assign_Name (store_C w hk r fun h' w' A' => n h' s.toks w' A')) h hs (fun _ _ => rfl)

theorem none_after {f : Fm} {ι ι₁ : List Addr} {s : Shared} {h₁ : Heap} {σ₁ : List O} {b : Addr} (w : Sit c S f ι ρ γ σ s.heap) (A₁ : Aft ι s.heap ι₁ h₁) (w₁ : Sit c S f ι₁ ρ γ σ₁ h₁) (hb : h₁.objs.size ≤ b) : s.heap.get? b = none := by
  cases z : s.heap.get? b with
  | none => rfl
  | some ob =>
    by_cases hi : b ∈ ι
    · obtain ⟨ob', e'⟩ := w₁.io_some (show b ∈ ι₁ by obtain ⟨⟨t, rfl⟩, _⟩ := A₁; exact List.mem_append_left _ hi)
      exact absurd (Heap.lt_size e') (Nat.not_lt.mpr hb)
    · obtain ⟨ob', e', _⟩ := A₁.2.2 _ ob z hi
      exact absurd (Heap.lt_size e') (Nat.not_lt.mpr hb)
theorem itr_list {I j : Nat} {a : Addr} {l : List V} (hlen : l.length < 2 ^ 63) : Itr c I l (fun σ => ∃ o, σ[j]? = some o ∧ o.items? = some l) (fun k ι h => h.IsListIter I a k ∧ ι[j]? = some a) where
  frame := fun k ι h ι' h' st p kp _ => ⟨st.1.at fun o e => kp o e, by obtain ⟨t, rfl⟩ := p; rw [List.getElem?_append_left (List.getElem?_eq_some_iff.mp st.2).1]; exact st.2⟩
  isrec := fun k ι h st => by obtain ⟨o, ho, hc, hd⟩ := st.1; exact ⟨o, _, ho, hd, fun C => by rw [hc]; exact fun q => nomatch q⟩
  item := fun S f ι ρ γ σ k s v Q E hv w src st n => by
    obtain ⟨o, e1, e2⟩ := src
    obtain ⟨us, hl, hr⟩ := w.items e1 e2 st.2
    obtain ⟨u, e3, e4⟩ := hr.get hv
    refine wpAny_pyNext_list_item st.1 hl (by simpa using e3) fun h' hit hs => n u h' _ ?_ ⟨hit, st.2⟩ hs.extBut
    obtain ⟨oI, hoI, hcI, hdI⟩ := st.1
    refine e4.grow (X := (· = I)) (fun a' o' qa ho' => ?_) ⟨[], by simp⟩ fun b o' e n => ⟨o', hs.extBut b o' n e, .refl _⟩
    subst qa; rw [hoI] at ho'; cases ho'
    exact ⟨fun _ its n z => (by rw [hdI] at z; cases z), fun vs z C => by rw [hcI]; exact fun q => nomatch q⟩
  done := fun S f ι ρ γ σ s Q E w hq src st n => by
    obtain ⟨o, e1, e2⟩ := src
    obtain ⟨us, hl, hr⟩ := w.items e1 e2 st.2
    exact wpAny_pyNext_list_end (w.quiet hq) st.1 hl (by rw [List.getElem?_toArray, List.getElem?_eq_none (by rw [hr.length]; exact Nat.le_refl _)]) fun h' ext => n h' _ ext
  self := fun S f ι ρ γ σ s k Q E w st q => wpAny_pyIter_listiter st.1 q

inductive KWL (Q : List V → (List O → Prop) → List O → Prop) (v : V) (σ' : List O) : Prop where
  | mk (j : Nat) (o : O) (l : List V) (e1 : v = .ref j) (e2 : σ'[j]? = some o) (e3 : o.items? = some l) (hl : l.length < 2 ^ 63) (q : Q l (fun σ => ∃ o, σ[j]? = some o ∧ o.items? = some l) σ')
theorem wiList {iter : Expr} {Q : List V → (List O → Prop) → List O → Prop} (h : WE c S iter ρ γ (KWL Q) X σ) : WI c S iter ρ γ Q X σ := fun f ι s w => by
  refine wpAny_mono (h f ι s w) (fun u s₁ p => ?_) fun _ _ p => p
  obtain ⟨v, σ₁, ι₁, h₁, tk₁, rfl, A₁, w₁, r₁, j, o, l, rfl, e1, e2, hlen, q⟩ := p
  cases r₁ with
  | ref hj =>
    rename_i a
    obtain ⟨us, hl, hr⟩ := w₁.items e1 e2 hj
    refine wpAny_pyIter_list hl ?_
    have k : ∀ b ob, h₁.get? b = some ob → (h₁.push { cls := .type "list_iterator", data := .fields #[.ref a, .int 0 0] }).get? b = some ob := fun b ob e => Heap.get?_push_of_some _ e
    refine ⟨l, _, h₁.objs.size, _, σ₁, ι₁, _, tk₁, rfl, rfl, A₁.trans (.of_keeps k), w₁.keeps k, itr_list (I := h₁.objs.size) (j := j) (a := a) hlen, ⟨⟨_, Heap.get?_push_size _ rfl, rfl, rfl⟩, hj⟩, ?_, ⟨o, e1, e2⟩, q⟩
    exact none_after w A₁ w₁ (Nat.le_refl _)

noncomputable def cnt (n : Nat) : List V := (List.range n).map fun (k : Nat) => V.int (k : Int)
theorem cnt_get {n k : Nat} (h : k < n) : (cnt n)[k]? = some (.int (k : Int)) := by simp [cnt, h]
theorem cnt_len (n : Nat) : (cnt n).length = n := by simp [cnt]

theorem itr_range {I : Addr} {n : Nat} : Itr c I (cnt n) (fun _ => True) (fun k ι h => IsRangeIter h I k (n - k) 1) where
  frame := fun k ι h ι' h' st p kp _ => kp _ st
  isrec := fun k ι h st => ⟨_, _, st, rfl, fun C q => nomatch q⟩
  item := fun S f ι ρ γ σ k s v Q E hv w src st n' => by
    have hk : k < n := by have := (List.getElem?_eq_some_iff.mp hv).1; rwa [cnt_len] at this
    rw [cnt_get hk] at hv; cases hv
    refine wpAny_pyNext_range_item st (by omega) fun h' hit hs => n' _ h' _ (.int _ _) ?_ hs.extBut
    have : ((n : Int) - k - 1) = (n : Int) - ((k + 1 : Nat) : Int) := by omega
    rw [this] at hit
    exact hit
  done := fun S f ι ρ γ σ s Q E w hq src st n' => by
    rw [cnt_len] at st
    exact wpAny_pyNext_range_end (w.quiet hq) st (by omega) fun h' ext => n' h' _ ext
  self := fun S f ι ρ γ σ s k Q E w st q => wpAny_pyIter_rangeiter st q

inductive KWR (Q : List V → (List O → Prop) → List O → Prop) (v : V) (σ' : List O) : Prop where
  | mk (n : Int) (e : v = .int n) (h1 : n < 2 ^ 62) (h2 : -(2 ^ 62) ≤ n) (q : Q (cnt n.toNat) (fun _ => True) σ')
theorem wiRange {e : Expr} {p pos : Pos} {Q : List V → (List O → Prop) → List O → Prop} (hk : S.kd "range" = some .globalImplicit) (hg : c.mg "range" = none) (hv : bootBuiltins "range" = some (.type "range"))
    (h : WE c S e ρ γ (KWR Q) X σ)
    (he : ∀ env, starEach [e] env = (false, eval e env) :: starEach [] env := by intro _; rfl) : WI c S (.Call (.Name "range" p) [e] [] pos) ρ γ Q X σ := fun f ι s w => by
  refine Call_ (Name_function_global w.kind ((w.kinds "range").trans hk) (loadGlobal_builtin (mg := c.mg) (mb := c.mb) (by rw [w.glob]; exact w.gr.g.keeps w.base) hg (by rw [w.blt]; exact w.gr.b.keeps w.base) ((w.gr.builtins "range" (by decide)).trans hv) ?_)) rfl
  refine callWith_type1 (args_cons (wpAny_mono (h f ι s w) (fun u s₁ p => args_nil ?_) fun _ _ p => p) (he _)) (he _) rfl
  obtain ⟨v, σ₁, ι₁, h₁, tk₁, rfl, A₁, w₁, r₁, i, rfl, hlo, hhi, q⟩ := p
  cases r₁ with
  | int _ t =>
    refine call_range_1 ?_
    refine wpAny_pyIter_range (IsRange.new h₁ 0 i 1 tk₁ t (tk₁ + 1)) (small_one (by decide) (by decide) hhi hlo) ?_
    have k : ∀ b ob, h₁.get? b = some ob → ((h₁.push { cls := .type "range", data := .fields #[.int 0 tk₁, .int i t, .int 1 (tk₁ + 1)] }).push { cls := .type "range_iterator", data := .fields #[rawInt 0, rawInt (Builtin.Range.rangeSize 0 i 1), rawInt 1] }).get? b = some ob :=
      fun b ob e => Heap.get?_push_of_some _ (Heap.get?_push_of_some _ e)
    refine ⟨cnt i.toNat, fun _ => True, (h₁.push { cls := .type "range", data := .fields #[.int 0 tk₁, .int i t, .int 1 (tk₁ + 1)] }).objs.size, _, σ₁, ι₁, _, tk₁ + 1 + 1, rfl, rfl, A₁.trans (.of_keeps k), w₁.keeps k, itr_range, ?_, ?_, trivial, q⟩
    · have e : (((i.toNat : Nat) : Int) - ((0 : Nat) : Int)) = Builtin.Range.rangeSize 0 i 1 := by rw [rangeSize_one]; split <;> omega
      rw [e]
      exact Heap.get?_push_size _ rfl
    · have hsz : h₁.objs.size ≤ (h₁.push { cls := .type "range", data := .fields #[.int 0 tk₁, .int i t, .int 1 (tk₁ + 1)] }).objs.size := by rw [Heap.size_push]; exact Nat.le_succ _
      exact none_after w A₁ w₁ hsz
end

theorem closure_aux {env : Env} : ∀ (names : List (Str × NameKind)) (acc : List (Str × Addr)), (∀ n, (n, NameKind.free) ∈ names → ∃ a, env.cells.lookup n = some a) → (∀ x a, acc.lookup x = some a → env.cells.lookup x = some a) →
    ∃ cl, (forIn names acc (fun x r => if (x.snd == NameKind.free) = true then do let a ← cellOf env x.fst; pure (ForInStep.yield ((x.fst, a) :: r)) else pure (ForInStep.yield r)) : Sem (List (Str × Addr))) = pure cl ∧
      (∀ x a, cl.lookup x = some a → env.cells.lookup x = some a) ∧ ∀ x, ((x, NameKind.free) ∈ names ∨ (acc.lookup x).isSome = true) → (cl.lookup x).isSome = true
  | [], acc, _, h2 => ⟨acc, by rw [List.forIn_nil], h2, fun x q => q.resolve_left (by simp)⟩
  | (n, k) :: r, acc, h1, h2 => by
    by_cases hk : (k == NameKind.free) = true
    · have hk' : k = .free := eq_of_beq hk
      subst hk'
      obtain ⟨a, ha⟩ := h1 n (.head _)
      obtain ⟨cl, e, p1, p2⟩ := closure_aux (env := env) r ((n, a) :: acc) (fun m hm => h1 m (.tail _ hm)) (fun x b q => by
        rw [List.lookup_cons] at q
        cases z : x == n with
        | true => rw [z] at q; cases q; rw [beq_iff_eq.mp z]; exact ha
        | false => rw [z] at q; exact h2 x b q)
      refine ⟨cl, ?_, p1, fun x q => p2 x ?_⟩
      · rw [List.forIn_cons]
        simp only [beq_self_eq_true, if_true, cellOf, ha]
        exact e
      · rcases q with q | q
        · rcases List.mem_cons.mp q with q | q
          · cases q; exact .inr (by rw [List.lookup_cons]; simp)
          · exact .inl q
        · refine .inr ?_
          rw [List.lookup_cons]
          cases z : x == n with
          | true => rfl
          | false => exact q
    · obtain ⟨cl, e, p1, p2⟩ := closure_aux (env := env) r acc (fun m hm => h1 m (.tail _ hm)) h2
      refine ⟨cl, ?_, p1, fun x q => p2 x ?_⟩
      · rw [List.forIn_cons]
        simp only [hk]
        exact e
      · rcases q with q | q
        · rcases List.mem_cons.mp q with q | q
          · cases q; exact absurd (by rfl) hk
          · exact .inl q
        · exact .inr q
theorem closure_is {scope : Scope} {env : Env} (h : ∀ n, (n, NameKind.free) ∈ scope.names → ∃ a, env.cells.lookup n = some a) :
    ∃ cl, closureFor scope env = pure cl ∧ (∀ x a, cl.lookup x = some a → env.cells.lookup x = some a) ∧ ∀ x, (x, NameKind.free) ∈ scope.names → (cl.lookup x).isSome = true := by
  obtain ⟨cl, e, p1, p2⟩ := closure_aux (env := env) scope.names [] h (fun x a q => by cases q)
  refine ⟨cl, ?_, p1, fun x q => p2 x (.inl q)⟩
  unfold closureFor
  dsimp only
  rw [e]
  rfl

def compNames (kd : Str → Option NameKind) (names : List (Str × NameKind)) : List (Str × NameKind) := names.map fun (n, k) => if (k == .free && kd n == some .cell) then (n, .cell) else (n, k)
abbrev Stt.comp (S : Stt) (scope : Scope) : Stt := { n := S.n, kd := fun x => (compNames S.kd scope.names).lookup x, q := S.q }
def compCells (γ : List (Str × V)) (scope : Scope) : List (Str × V) := γ.filter fun p => scope.names.contains (p.1, NameKind.free)
theorem filter_lookup {α : Type} {P : Str → Bool} {x : Str} {v : α} : ∀ {l : List (Str × α)}, (l.filter fun p => P p.1).lookup x = some v → l.lookup x = some v ∧ P x = true
  | [], e => by simp at e
  | (y, u) :: r, e => by
    rw [List.filter_cons] at e
    rw [List.lookup_cons]
    cases z : x == y with
    | true =>
      have hxy := beq_iff_eq.mp z
      subst hxy
      cases hp : P x with
      | true => simp only [hp, if_true, List.lookup_cons, beq_self_eq_true] at e; cases e; exact ⟨rfl, rfl⟩
      | false =>
        simp only [hp] at e
        have := (filter_lookup e).2
        rw [hp] at this; cases this
    | false =>
      cases hp : P y with
      | true => simp only [hp, if_true, List.lookup_cons, z] at e; exact filter_lookup e
      | false => simp only [hp] at e; exact filter_lookup e

section
variable {c : C0} {S : Stt} {f : Fm} {ι ι' : List Addr} {ρ γ : List (Str × V)} {σ σ' : List O} {h h' : Heap} {s : Shared}

structure Junk (c : C0) (f : Fm) (ι : List Addr) (b : Addr) : Prop where
  i : b ∉ ι
  l : b ≠ f.env.locals
  cl : ∀ x, f.env.cells.lookup x ≠ some b
  fr : b ∉ frs f
  b : c.base.get? b = none
theorem Sit.junkOf (w : Sit c S f ι ρ γ σ h) {b : Addr} (hb : h.get? b = none) (hi : b ∉ ι') : Junk c f ι' b := by
  refine ⟨hi, fun q => ?_, fun x q => ?_, fun q => ?_, ?_⟩
  · obtain ⟨o, e⟩ := w.lo_some (b := b) (.inl q); rw [hb] at e; cases e
  · obtain ⟨o, e⟩ := w.lo_some (b := b) (.inr ⟨x, q⟩); rw [hb] at e; cases e
  · obtain ⟨_, o, e, _⟩ := w.frames.mem q; rw [hb] at e; cases e
  · cases z : c.base.get? b with
    | none => rfl
    | some o => rw [w.base _ _ z] at hb; cases hb
theorem Sit.junk (w : Sit c S f ι ρ γ σ h) {J : Addr → Prop} (hJ : ∀ b, J b → Junk c f ι b) (M : MuX J h) (k : ∀ b o, ¬ J b → h.get? b = some o → h'.get? b = some o) : Sit c S f ι ρ γ σ h' := by
  have kp : Kp J h h' := fun b o e n => ⟨o, k b o n e, .refl o⟩
  have p : ∃ t, ι = ι ++ t := ⟨[], by simp⟩
  obtain ⟨m, hm, hrr⟩ := w.loc
  refine { w with base := fun b o e => k b o (fun q => by rw [(hJ b q).b] at e; cases e) (w.base b o e), frames := kp.frames w.frames fun env he L hL q => (hJ L q).fr (List.mem_filterMap.mpr ⟨env, he, hL⟩), fdict := fun env he L o' hL e' => ?_, loc := ⟨m, kp.ns (fun q => (hJ _ q).l rfl) hm, fun x v e => ?_⟩, cel := fun x v e => ?_, celx := fun x a e => ?_, sto := fun i o a e1 e2 => ?_ }
  · have hm' := List.mem_filterMap.mpr ⟨env, he, hL⟩
    obtain ⟨_, o, ho, hn⟩ := w.frames.mem hm'
    have := k L o (fun q => (hJ L q).fr hm') ho
    rw [e'] at this; cases this
    exact w.fdict env he L o' hL ho
  · obtain ⟨u, e1, e2⟩ := hrr x v e
    exact ⟨u, e1, e2.grow M p kp⟩
  · obtain ⟨a, u, e1, e2, e3⟩ := w.cel x v e
    exact ⟨a, u, e1, kp.cell (fun q => (hJ _ q).cl x e1) e2, e3.grow M p kp⟩
  · obtain ⟨n1, n2, n3, v₀, e2⟩ := w.celx x a e
    exact ⟨n1, n2, n3, v₀, kp.cell (fun q => (hJ _ q).cl x e) e2⟩
  · exact (w.sto i o a e1 e2).other M p kp fun ob z => k _ ob (fun q => (hJ _ q).i (List.mem_of_getElem? e2)) z
theorem Sit.adopt (w : Sit c S f ι ρ γ σ h) {a : Addr} {o : O} (j : Junk c f ι a) (x : OR c (ι ++ [a]) h o a) : Sit c S f (ι ++ [a]) ρ γ (σ ++ [o]) h := by
  have p : ∃ t, ι ++ [a] = ι ++ t := ⟨[a], rfl⟩
  have kp : Kp (fun _ => False) h h := .refl _ _
  have M : MuX (fun _ => False) h := fun _ _ q => q.elim
  have ni : ∀ b, b ∉ ι → b ≠ a → b ∉ ι ++ [a] := fun b n1 n2 q => (List.mem_append.mp q).elim n1 fun q => n2 (List.mem_singleton.mp q)
  obtain ⟨m, hm, hrr⟩ := w.loc
  refine { w with fnotin := fun env he L hL => ni L (w.fnotin env he L hL) fun q => j.fr (q ▸ List.mem_filterMap.mpr ⟨env, he, hL⟩), loc := ⟨m, hm, fun y v e => ?_⟩, locx := ⟨ni _ w.locx.1 fun q => j.l q.symm, w.locx.2⟩, cel := fun y v e => ?_, celx := fun y b e => ?_, len := by simp [w.len], nd := ?_, sto := fun i ob b e1 e2 => ?_ }
  · obtain ⟨u, e1, e2⟩ := hrr y v e
    exact ⟨u, e1, e2.grow M p kp⟩
  · obtain ⟨b, u, e1, e2, e3⟩ := w.cel y v e
    exact ⟨b, u, e1, e2, e3.grow M p kp⟩
  · obtain ⟨n1, n2, n3, e2⟩ := w.celx y b e
    exact ⟨ni b n1 fun q => j.cl y (q ▸ e), n2, n3, e2⟩
  · rw [List.nodup_append]
    exact ⟨w.nd, by simp, fun y hy z hz => by rw [List.mem_singleton.mp hz]; intro q; exact j.i (q ▸ hy)⟩
  · rcases get_snoc e1 with q1 | ⟨q1, rfl⟩
    · have hil : i < ι.length := by rw [w.len]; exact (List.getElem?_eq_some_iff.mp q1).1
      rw [List.getElem?_append_left hil] at e2
      exact (w.sto i ob b q1 e2).other M p kp fun o z => z
    · rw [q1, ← w.len, List.getElem?_append_right (Nat.le_refl _)] at e2
      simp at e2
      subst e2
      exact x
end

section
variable {c : C0} {S : Stt} {ρ γ : List (Str × V)} {σ : List O} {X : Addr → List O → Prop}

structure CompOk (S : Stt) (scope : Scope) : Prop where
  kind : scope.kind = .function
  names : ∀ y ∈ scope.names, y.2 = .local → scope.names.lookup y.1 = some .local
  nocell : ∀ y ∈ scope.names, y.2 ≠ .cell
  free : ∀ n, (n, NameKind.free) ∈ scope.names → S.kd n = some .cell

abbrev Fm.comp (f : Fm) (scope : Scope) (cl : List (Str × Addr)) (C : Addr) : Fm := { f with env := compEnvC scope cl C f.env }

theorem comp_raise {S' : Stt} {f : Fm} {env' : Env} {ι ι₅ : List Addr} {s : Shared} {hb h₅ : Heap} {C ea C' : Addr} {tk : Nat} {σ₅ : List O} {ρ' γ' : List (Str × V)} {E : Value → Shared → Prop} {use : Option (Value → Sem Unit)} {Q' : Value → Shared → Prop} {D : Value} {E' : Value → Shared → Prop}
    (w : Sit c S f ι ρ γ σ s.heap) (hC₀ : s.heap.get? C = none) (A : Aft ι s.heap ι₅ hb) (w₅ : Sit c S' { f with env := env' } ι₅ ρ' γ' σ₅ hb) (hl : env'.locals = C) (air : Air c f ea C' hb h₅) (q : X C' σ₅) (hE : ∀ e s', PX c S f ι ρ γ s X e s' → E e s') :
    wpAny c.M f.A (noteFrame (.ref ea) env') (fun _ s' => compPost c.M f.A E use Q' D C (.error (.ref ea)) s') E' { s with heap := h₅, toks := tk } := by
  have hfr : env'.frame = f.fe.frame := w₅.frm
  rw [note_frame hfr]
  have hCf : C ∉ frs f := fun hm => by obtain ⟨_, o, e, _⟩ := w.frames.mem hm; rw [hC₀] at e; cases e
  refine note_air (f := { f with env := env' }) w₅ w.stack air fun h₃ B a0 L hfe held cov sl => ?_
  obtain ⟨m, ⟨oC, es, ep, hoC, hdC, r⟩, _⟩ := w₅.loc
  have hoC : hb.get? C = some oC := hl ▸ hoC
  have hC3 : h₃.get? C = some oC := held.1 _ _ (cov C oC hoC hCf)
  refine ⟨m, ⟨oC, es, ep, hC3, hdC, r⟩, fun h₄ hs cenv _ => ?_⟩
  have k34 : ∀ b o, b ≠ C → h₃.get? b = some o → h₄.get? b = some o := fun b o n e => hs.extBut b o n e
  have neC : ∀ b o vs, h₃.get? b = some o → o.data = .fields vs → b ≠ C := fun b o vs e d z => by rw [z, hC3] at e; cases e; rw [hdC] at d; cases d
  have hide : ∀ b o, (B.hide C).get? b = some o → B.get? b = some o ∧ b ≠ C := fun b o e => ⟨Heap.of_hide e, fun z => by rw [z, Heap.hide_self] at e; cases e⟩
  have fr₃ := (W.heldW_base (base := B.hide C) (fun b o e => (hide b o e).1) held).2.2.1
  have fr₄ : h₄.FunFrames (B.hide C) (f.fe :: f.outer) := Kp.frames (X := (· = C)) (fun b o e n => ⟨o, k34 b o n e, .refl o⟩) fr₃ fun env he L hL z => hCf (List.mem_filterMap.mpr ⟨env, he, z ▸ hL⟩)
  obtain ⟨g1, g2, _, oe, vs, T, oT, ts, he, hc, hd, h1, hnT, hTe, hT, hdT, h3⟩ := held
  have none' : ∀ b, B.get? b = none → (B.hide C).get? b = none := fun b z => by
    cases q : (B.hide C).get? b with
    | none => rfl
    | some o => rw [(hide b o q).1] at z; cases z
  have fly : FlyG (B.hide C) (f.fe :: f.outer) ea (.ref C') a0 (rawInt L) h₄ := ⟨fun b o e => k34 b o (hide b o e).2 (g1 b o (hide b o e).1), none' _ g2, fr₄, oe, vs, T, oT, ts, k34 _ _ (neC _ _ _ he hd) he, hc, hd, h1, none' _ hnT, hTe, k34 _ _ (neC _ _ _ hT hdT) hT, hdT, h3⟩
  refine throwOn (s := { s with heap := h₄, toks := tk }) fly fun h₆ fl' fly' k6 => hE _ _ ?_
  have hb2 : ∀ b o, (hb.hide C).get? b = some o → hb.get? b = some o ∧ b ≠ C := fun b o e => ⟨Heap.of_hide e, fun z => by rw [z, Heap.hide_self] at e; cases e⟩
  have A' : Aft ι s.heap ι₅ (hb.hide C) := ⟨A.1, A.2.1, fun b o e n => by
    obtain ⟨o', e', s'⟩ := A.2.2 b o e n
    exact ⟨o', (Heap.hide_ne hb fun z => by rw [z, hC₀] at e; cases e).trans e', s'⟩⟩
  have hbC : c.base.get? C = none := hl ▸ w₅.locx.2
  have hCι : C ∉ ι₅ := hl ▸ w₅.locx.1
  have M : MuX (· = C) hb := fun a o qa ho => by
    rw [qa, hoC] at ho; cases ho
    exact ⟨fun _ its n z => (by rw [hdC] at z; cases z), fun vs z => (by rw [hdC] at z; cases z)⟩
  have ws : Sit c S f ι₅ ρ γ σ₅ (hb.hide C) := w.aft A' (fun b o e => (Heap.hide_ne hb fun z => by rw [z, hbC] at e; cases e).trans (w₅.base b o e)) A.2.1 w₅.len w₅.nd fun i o a e1 e2 =>
    (w₅.sto i o a e1 e2).other M ⟨[], by simp⟩ hide_kp fun ob z => (Heap.hide_ne hb (fun (y : a = C) => hCι (y ▸ List.mem_of_getElem? e2))).trans z
  refine ⟨C', ea, hb.hide C, σ₅, ι₅, h₆, tk, rfl, rfl, A', ws, .inr ⟨B.hide C, a0, fl', fun b o e => ?_, fun b o e n => ?_, fly', fun b o e hm => ?_⟩, q⟩
  · refine (Heap.hide_ne B fun z => by rw [z, hbC] at e; cases e).trans (cov b o (w₅.base b o e) fun hm => ?_)
    rw [(w₅.frames.mem hm).1] at e; cases e
  · exact (Heap.hide_ne B (hb2 b o e).2).trans (cov b o (hb2 b o e).1 n)
  · obtain ⟨e1, e2⟩ := hb2 b o e
    obtain ⟨z, e3⟩ := sl b o e1 hm
    refine ⟨z, k6 b _ (k34 b _ e2 e3) ?_⟩
    obtain ⟨_, o', ho', hd'⟩ := w₅.frames.mem hm
    rw [e1] at ho'; cases ho'; exact hd'

abbrev WT (c : C0) (S : Stt) (ifs : List Expr) (ρ γ : List (Str × V)) (Q : Bool → List O → Prop) (X : Addr → List O → Prop) (σ : List O) : Prop :=
  W (fun _ _ b b' => b = b') c S (fun env => (forIn ifs true fun c r => if r = true then do let ok ← isTrue c env (eval c env); pure (ForInStep.yield ok) else pure (ForInStep.yield r) : Sem Bool)) ρ γ Q X σ
abbrev KCt (c : C0) (S : Stt) (elt : Expr) (scope : Scope) (pρ : V → List (Str × V)) (γ : List (Str × V)) (X : Addr → List O → Prop) (Src : List O → Prop) (Inv : Nat → List V → List O → Prop) (k : Nat) (v : V) (rs : List V) : Bool → List O → Prop := fun ok σ₁ =>
  if ok = true then WE c (S.comp scope) elt (pρ v) (compCells γ scope) (fun y σ' => Src σ' ∧ Inv (k + 1) (rs ++ [y]) σ') X σ₁ else Src σ₁ ∧ Inv (k + 1) rs σ₁
inductive CL (c : C0) (S : Stt) (f : Fm) (γ : List (Str × V)) (pρ : V → List (Str × V)) (ι : List Addr) (s : Shared) (vs : List V) (Src : List O → Prop) (St : Nat → List Addr → Heap → Prop) (Inv : Nat → List V → List O → Prop) (D : Addr) (n : Nat) (s' : Shared) : Prop where
  | mk (k : Nat) (rs : List V) (us : List Value) (σ' : List O) (ι' : List Addr) (h' : Heap) (tk : Nat) (ρ' : List (Str × V)) (nn : Nat) (e : s' = { s with heap := h', toks := tk }) (en : n = vs.length + 1 - k) (hk : k ≤ vs.length) (hrs : rs.length ≤ k) (A : Aft ι s.heap ι' h') (w : Sit c S f ι' ρ' γ σ' h') (hρ : ρ' = [] ∨ ∃ v', ρ' = pρ v') (st : St k ι' h') (src : Src σ')
    (hD : h'.get? D = some { cls := .type "list", data := .seq (List.toArray us) nn }) (vr : VRs ι' h' rs us) (hDι : D ∉ ι') (inv : Inv k rs σ')
theorem comp_core {target iter elt : Expr} {ifs : List Expr} {scope : Scope} {pos pos' : Pos} {f : Fm} {ι : List Addr} {s : Shared} {Q : List V → List O → Prop} {use : Option (Value → Sem Unit)} {Q' : Value → Shared → Prop} {E : Value → Shared → Prop}
    (pρ : V → List (Str × V)) (w : Sit c S f ι ρ γ σ s.heap) (hq : S.q = true) (ok : CompOk S scope)
    (hst : ∀ f ι ρ γ σ s v u (Qs : Unit → Shared → Prop) (E : Value → Shared → Prop), (ρ = [] ∨ ∃ v', ρ = pρ v') → Sit c (S.comp scope) f ι ρ γ σ s.heap → VR ι s.heap v u → (∀ h' tk, Sit c (S.comp scope) f ι (pρ v) γ σ h' → Heap.ExtBut f.env.locals s.heap h' → Qs () { s with heap := h', toks := tk }) → wpAny c.M f.A (assign target f.env u) Qs E s)
    (h : WI c S iter ρ γ (fun vs Src σ₀ => vs.length ≤ sizeLine ∧ ∃ Inv : Nat → List V → List O → Prop, Inv 0 [] σ₀ ∧
      (∀ k v rs σ, vs[k]? = some v → Src σ → Inv k rs σ → WT c (S.comp scope) ifs (pρ v) (compCells γ scope) (KCt c S elt scope pρ γ X Src Inv k v rs) X σ) ∧
      (∀ rs σ, Src σ → Inv vs.length rs σ → Q rs σ)) X σ)
    (hE : ∀ e s', PX c S f ι ρ γ s X e s' → E e s')
    (fin : ∀ D C m rs us σ' ι' h' tk n, Aft ι s.heap ι' h' → Sit c S f ι' ρ γ σ' h' → h'.get? D = some { cls := .type "list", data := .seq (List.toArray us) n } → VRs ι' h' rs us → s.heap.get? D = none → D ∉ ι' → s.heap.get? C = none → C ∉ ι' → C ≠ D → h'.Ns C m → Q rs σ' →
      compPost c.M f.A E use Q' (.ref D) C (.ok .next) { s with heap := h', toks := tk })
    (hs : ∀ x, foldedSetIterable iter f.env x = pure x) (ht : ∀ it v, letOwnedTupleGo target it v = pure ()) :
    wpAny c.M f.A (comprehension (.ListComp elt [⟨target, iter, ifs, 0⟩] scope pos) scope f.env pos' (newList []) false (eval iter f.env) use) Q' E s := by
  obtain ⟨cl, hcl, hcl1, hcl2⟩ := closure_is (scope := scope) (env := f.env) fun n hn => w.celk n (ok.free n hn)
  refine wpAny_comprehension_free (cl := cl) rfl hs hcl ok.kind ok.names (wpAny_mono (h f ι s w) (fun x s₁ p => wpAny_mono p (fun it s₂ p => ?_) fun e s' p => hE e s' p) fun e s' p => hE e s' p)
  obtain ⟨vs, Src, I, St, σ₂, ι₂, h₂, tk₂, rfl, rfl, A₂, w₂, itr, st₂, hI, src₂, ⟨hsz, Inv, i0, turn, fi⟩⟩ := p
  refine wpAny_newObj_type ?_ (by size_fits)
  refine wpAny_newFunctionEnv ok.nocell (by intro y hy; simp at hy) (fun h₁ hns₁ hsb₁ => ?_) ok.kind
  dsimp only at hns₁ hsb₁ ⊢
  generalize hH2 : h₂.push { cls := .type "list", dict := none, data := .seq ([] : List Value).toArray } = H2 at hns₁ hsb₁ ⊢
  have hC : H2.objs.size = h₂.objs.size + 1 := by rw [← hH2, Heap.size_push]
  generalize hDn : h₂.objs.size = D at hC ⊢
  generalize hCn : H2.objs.size = C at hC hns₁ hsb₁ ⊢
  have hDC : C ≠ D := by rw [hC]; exact Nat.succ_ne_self _
  have old : ∀ b o, h₂.get? b = some o → h₁.get? b = some o := fun b o e => by
    have hlt := Heap.lt_size e
    rw [hDn] at hlt
    refine hsb₁.extBut b o ?_ (Heap.get?_push_of_some _ (hH2 ▸ Heap.get?_push_of_some _ e))
    rw [hC]; exact Nat.ne_of_lt (Nat.lt_succ_of_lt hlt)
  have hD₁ : h₁.get? D = some { cls := .type "list", dict := none, data := .seq ([] : List Value).toArray } := by
    refine hsb₁.extBut _ _ (Ne.symm hDC) (Heap.get?_push_of_some _ ?_)
    rw [← hH2, ← hDn]; exact Heap.get?_push_size _ rfl
  have hD₀ : s.heap.get? D = none := none_after w A₂ w₂ (by rw [hDn]; exact Nat.le_refl _)
  have hC₀ : s.heap.get? C = none := none_after w A₂ w₂ (by rw [hDn, hC]; exact Nat.le_succ _)
  have hDι : D ∉ ι₂ := fun q => by obtain ⟨o, e⟩ := w₂.io_some q; have := Heap.lt_size e; rw [hDn] at this; exact Nat.lt_irrefl _ this
  have hCι : C ∉ ι₂ := fun q => by obtain ⟨o, e⟩ := w₂.io_some q; have := Heap.lt_size e; rw [hDn] at this; rw [hC] at this; exact Nat.lt_irrefl _ (Nat.lt_trans (Nat.lt_succ_self _) this)
  have hDI : D ≠ I := fun q => by obtain ⟨o, _, e, _⟩ := itr.isrec _ _ _ st₂; have := Heap.lt_size e; rw [hDn, ← q] at this; exact Nat.lt_irrefl _ this
  have hCI : C ≠ I := fun q => by obtain ⟨o, _, e, _⟩ := itr.isrec _ _ _ st₂; have := Heap.lt_size e; rw [hDn, ← q, hC] at this; exact Nat.lt_irrefl _ (Nat.lt_trans (Nat.lt_succ_self _) this)
  have w₁ := w₂.keeps old
  have A₁ : Aft ι s.heap ι₂ h₁ := A₂.trans (.of_keeps old)
  have hIb : c.base.get? I = none := (w.junkOf (ι' := ι) hI (fun q => by obtain ⟨o, e⟩ := w.io_some q; rw [hI] at e; cases e)).b
  have hbase : ∀ b, s.heap.get? b = none → c.base.get? b = none := fun b hb => by
    cases z : c.base.get? b with
    | none => rfl
    | some o => rw [w.base _ _ z] at hb; cases hb
  -- the block's frame
  have wb : Sit c (S.comp scope) (f.comp scope cl C) ι₂ [] (compCells γ scope) σ₂ h₁ := {
    gr := w.gr, base := w₁.base, stack := w.stack, frames := w₁.frames, fnotin := w₁.fnotin, fdict := w₁.fdict, depth := w.depth, units := w.units, lvl := w.lvl, quiet := w.quiet
    kind := ok.kind
    kinds := fun y => by
      show (relabel scope f.env).names.lookup y = (compNames S.kd scope.names).lookup y
      unfold relabel compNames
      have hfun : (fun (p : Str × NameKind) => if (p.2 == .free && f.env.scope.kind == .function && f.env.kindOf p.1 == some .cell) = true then (p.1, NameKind.cell) else (p.1, p.2)) = fun p => if (p.2 == .free && S.kd p.1 == some .cell) = true then (p.1, .cell) else (p.1, p.2) := by
        funext p
        rw [w.kind, w.kinds]; simp
      exact congrArg (fun F => (scope.names.map F).lookup y) hfun
    glob := w.glob, blt := w.blt, frm := w.frm
    loc := ⟨_, hns₁, fun y v e => by cases e⟩
    locx := ⟨hCι, hbase C hC₀⟩
    cel := fun y v e => by
      obtain ⟨e1, e2⟩ := filter_lookup (P := fun y => scope.names.contains (y, NameKind.free)) e
      obtain ⟨a, u, z1, z2, z3⟩ := w₁.cel y v e1
      have hsome := hcl2 y (by simpa using e2)
      obtain ⟨b, hb⟩ := Option.isSome_iff_exists.mp hsome
      have := hcl1 y b hb
      rw [z1] at this; cases this
      exact ⟨a, u, hb, z2, z3⟩
    celx := fun y a e => by
      obtain ⟨n1, n2, n3, v₀, z⟩ := w₁.celx y a (hcl1 y a e)
      refine ⟨n1, fun q => ?_, n3, v₀, z⟩
      have q : a = C := q
      obtain ⟨_, _, _, _, o, ho, _⟩ := w.celx y a (hcl1 y a e)
      rw [q, hC₀] at ho; cases ho
    celk := fun y e => by
      have hm : (y, NameKind.free) ∈ scope.names := by
        have hm := mem_of_lookup e
        obtain ⟨p, hp, hpe⟩ := List.mem_map.mp hm
        by_cases hf : (p.2 == NameKind.free && S.kd p.1 == some .cell) = true
        · simp only [hf, if_true] at hpe
          cases hpe
          have : p.2 = .free := by simpa using (Bool.and_eq_true_iff.mp hf).1
          rw [← this]; exact hp
        · simp only [hf] at hpe
          have : p = (y, NameKind.cell) := hpe
          subst this
          exact absurd rfl (ok.nocell _ hp)
      exact Option.isSome_iff_exists.mp (hcl2 y hm)
    celd := fun y z a e1 e2 => w.celd y z a (hcl1 y a e1) (hcl1 z a e2)
    len := w₁.len, nd := w₁.nd, sto := w₁.sto }
  have st₁ : St 0 ι₂ h₁ := itr.frame _ _ _ _ _ st₂ ⟨[], by simp⟩ (fun o e => old _ o e) ⟨fun _ => False, fun _ _ q => q.elim, .of_keeps old⟩
  have loop : ∀ s₃ : Shared, s₃ = { s with heap := h₁, toks := tk₂ + ([] : List (Str × Value)).length } →
      codeAny c.M f.A (.compLoop (.ListComp elt [⟨target, iter, ifs, 0⟩] scope pos) 0 (.ref I) (.ref D) (compEnvC scope cl C f.env)) (compPost c.M f.A E use Q' (.ref D) C) s₃ := by
    rintro s₃ rfl
    refine codeAny_compLoop_tests (CL c (S.comp scope) (f.comp scope cl C) (compCells γ scope) pρ ι s vs Src St Inv D) ?_ (vs.length + 1)
      ⟨0, [], [], σ₂, ι₂, h₁, _, [], 0, rfl, rfl, Nat.zero_le _, Nat.le_refl _, A₁, wb, .inl rfl, st₁, src₂, hD₁, .nil, hDι, i0⟩ (ht _)
    rintro n s' ⟨k, rs, us, σ', ι', h', tk, ρ', nn, rfl, rfl, hk, hrs, A', w', hρ', st', src', hD', vr', hDι', inv'⟩
    have hrec := itr.isrec _ _ _ st'
    have keepI : ∀ h₃, Heap.ExtBut I h' h₃ → Aft ι s.heap ι' h₃ := fun h₃ e => ⟨A'.1, A'.2.1, fun b o eb n => by
      obtain ⟨o', e', s'⟩ := A'.2.2 b o eb n
      exact ⟨o', e b o' (fun q => by rw [q, hI] at eb; cases eb) e', s'⟩⟩
    have MI : MuX (· = I) h' := fun a o qa ho => by
      obtain ⟨oI, fs, hoI, hdI, hcI⟩ := hrec
      subst qa; rw [hoI] at ho; cases ho
      exact ⟨fun _ its n z => (by rw [hdI] at z; cases z), fun vs z => hcI⟩
    by_cases hlt : k < vs.length
    · obtain ⟨v, hv⟩ : ∃ v, vs[k]? = some v := ⟨vs[k], List.getElem?_eq_getElem hlt⟩
      refine itr.item (S.comp scope) (f.comp scope cl C) ι' ρ' _ σ' k { s with heap := h', toks := tk } v _ _ hv w' src' st' fun u h₃ tk₃ vr st₃ ext => ?_
      have w₃ := w'.extI hrec hIb ext
      have A₃ := keepI h₃ ext
      have hD₃ : h₃.get? D = _ := ext D _ hDI hD'
      have vr₃ : VRs ι' h₃ rs us := vr'.grow MI ⟨[], by simp⟩ fun b o e n => ⟨o, ext b o n e, .refl _⟩
      refine hst (f.comp scope cl C) ι' ρ' _ σ' { s with heap := h₃, toks := tk₃ } v u _ _ hρ' w₃ vr fun h₄ tk₄ w₄ ext₄ => ?_
      have hC₃ : ∃ m, h₃.Ns C m := by obtain ⟨m, hm, _⟩ := w₃.loc; exact ⟨m, hm⟩
      have MC : MuX (· = C) h₃ := fun a o qa ho => by
        obtain ⟨m, o', es, ep, ho', hd', _⟩ := hC₃
        subst qa; rw [ho] at ho'; cases ho'
        exact ⟨fun _ its n z => (by rw [hd'] at z; cases z), fun vs z => by rw [hd'] at z; cases z⟩
      have ext₄' : Heap.ExtBut C h₃ h₄ := ext₄
      have A₄ : Aft ι s.heap ι' h₄ := ⟨A₃.1, A₃.2.1, fun b o eb n => by
        obtain ⟨o', e', s'⟩ := A₃.2.2 b o eb n
        exact ⟨o', ext₄' b o' (fun q => by rw [q, hC₀] at eb; cases eb) e', s'⟩⟩
      have hD₄ := ext₄' D _ (Ne.symm hDC) hD₃
      have vr₄ : VRs ι' h₄ rs us := vr₃.grow MC ⟨[], by simp⟩ fun b o e n => ⟨o, ext₄' b o n e, .refl _⟩
      have st₄ : St (k + 1) ι' h₄ := itr.frame _ _ _ _ _ st₃ ⟨[], by simp⟩ (fun o e => ext₄' _ o (Ne.symm hCI) e) ⟨_, MC, fun b o e n => ⟨o, ext₄' b o n e, .refl _⟩⟩
      have rec₄ := itr.isrec _ _ _ st₄
      have aft : ∀ {ι₅ : List Addr} {h₅ : Heap}, Aft ι' h₄ ι₅ h₅ → h₅.get? D = some { cls := .type "list", data := .seq (List.toArray us) nn } ∧ D ∉ ι₅ ∧ VRs ι₅ h₅ rs us ∧ St (k + 1) ι₅ h₅ := fun {ι₅ h₅} A₅ => by
        refine ⟨?_, (fun q => (A₅.2.1 D q).elim hDι' fun z => (by rw [hD₄] at z; cases z)), vr₄.mono w₄.mu A₅, itr.frame _ _ _ _ _ st₄ A₅.1 (fun o e => ?_) ⟨_, w₄.mu.x, A₅.2.2⟩⟩
        · obtain ⟨o', e', s'⟩ := A₅.2.2 D _ hD₄ hDι'
          rw [s'.eq fun es n q => by cases q] at e'
          exact e'
        · obtain ⟨o', e', s'⟩ := A₅.2.2 I o e (w₄.not_rec rec₄).1
          obtain ⟨oI, fs, hoI, hdI, hcI⟩ := rec₄
          rw [hoI] at e; cases e
          rw [s'.eq fun es n q => by rw [hdI] at q; cases q] at e'
          exact e'
      refine wpAny_mono (turn k v rs σ' hv src' inv' (f.comp scope cl C) ι' { s with heap := h₄, toks := tk₄ } w₄) (fun okv s₅ p => ?_) fun _ _ p => ?_
      · obtain ⟨ok', σ₇, ι₇, h₇, tk₇, rfl, A₇, w₇, rfl, q₇⟩ := p
        cases ok' with
        | false =>
          obtain ⟨hD₅, hDι₅, vr₅, st₅⟩ := aft A₇
          exact ⟨vs.length + 1 - (k + 1), dec1 hlt, k + 1, rs, us, σ₇, ι₇, h₇, tk₇, pρ v, nn, rfl, rfl, hlt, Nat.le_succ_of_le hrs, A₄.trans A₇, w₇, .inr ⟨v, rfl⟩, st₅, q₇.1, hD₅, vr₅, hDι₅, q₇.2⟩
        | true =>
          refine wpAny_mono (q₇ (f.comp scope cl C) ι₇ { s with heap := h₇, toks := tk₇ } w₇) (fun y s₅ p => ?_) fun _ _ p => ?_
          · obtain ⟨yv, σ₅, ι₅, h₅, tk₅, rfl, A₅, w₅, r₅, src₅, inv₅⟩ := p
            have A₇₅ := A₇.trans A₅
            obtain ⟨hD₅, hDι₅, vr₅, st₅⟩ := aft A₇₅
            have hsz' : us.toArray.size ≤ sizeLine := by rw [List.size_toArray, vr'.length]; exact Nat.le_trans hrs (Nat.le_trans hk hsz)
            refine wpAny_list_append_plain (hl := ⟨nn, hD₅⟩) (fun h₆ hp₆ hs₆ => ?_) hsz'
            obtain ⟨n₆, hD₆⟩ := hp₆
            have jD : Junk c (f.comp scope cl C) ι₅ D := ⟨hDι₅, Ne.symm hDC, fun y q => (by
              obtain ⟨o, e⟩ := w.lo_some (b := D) (.inr ⟨y, hcl1 y D q⟩); rw [hD₀] at e; cases e), fun q => (by
              obtain ⟨_, o, e, _⟩ := w.frames.mem q; rw [hD₀] at e; cases e), hbase D hD₀⟩
            have MD : MuX (· = D) h₅ := fun a o qa ho => by
              subst qa; rw [hD₅] at ho; cases ho
              exact ⟨fun q => absurd q (by show Value.type _ ≠ Value.type _; decide), fun vs z => by cases z⟩
            have w₆ := w₅.junk (J := (· = D)) (fun b q => q ▸ jD) MD fun b o n e => hs₆.extBut b o n e
            have A₆ : Aft ι s.heap ι₅ h₆ := by
              have A₄₅ := A₄.trans A₇₅
              exact ⟨A₄₅.1, A₄₅.2.1, fun b o eb n => by
                obtain ⟨o', e', s'⟩ := A₄₅.2.2 b o eb n
                exact ⟨o', hs₆.extBut b o' (fun q => by rw [q, hD₀] at eb; cases eb) e', s'⟩⟩
            have kpD : Kp (· = D) h₅ h₆ := fun b o e n => ⟨o, hs₆.extBut b o n e, .refl _⟩
            have st₆ : St (k + 1) ι₅ h₆ := itr.frame _ _ _ _ _ st₅ ⟨[], by simp⟩ (fun o e => hs₆.extBut _ o (Ne.symm hDI) e) ⟨_, MD, kpD⟩
            refine ⟨vs.length + 1 - (k + 1), dec1 hlt, k + 1, rs ++ [yv], us ++ [y], σ₅, ι₅, h₆, tk₅, pρ v, n₆, rfl, rfl, hlt, by rw [List.length_append]; exact Nat.succ_le_succ hrs, A₆, w₆, .inr ⟨v, rfl⟩, st₆, src₅, by rw [hD₆]; simp, ?_, hDι₅, inv₅⟩
            exact (vr₅.append (.cons r₅ .nil)).grow MD ⟨[], by simp⟩ kpD
          · obtain ⟨C', ea, hb, σ₅, ι₅, h₅, tk₅, rfl, rfl, A₅, w₅, air, q⟩ := p
            exact comp_raise (s := s) w hC₀ ((A₄.trans A₇).trans A₅) w₅ rfl air q hE
      · obtain ⟨C', ea, hb, σ₅, ι₅, h₅, tk₅, rfl, rfl, A₅, w₅, air, q⟩ := p
        exact comp_raise (s := s) w hC₀ (A₄.trans A₅) w₅ rfl air q hE
    · have hke : k = vs.length := Nat.le_antisymm hk (Nat.le_of_not_lt hlt)
      subst hke
      refine itr.done (S.comp scope) (f.comp scope cl C) ι' ρ' _ σ' { s with heap := h', toks := tk } _ _ w' hq src' st' fun h₃ tk₃ ext => ?_
      have w₃ := w'.extI hrec hIb ext
      have A₃ := keepI h₃ ext
      have hD₃ : h₃.get? D = _ := ext D _ hDI hD'
      have vr₃ : VRs ι' h₃ rs us := vr'.grow MI ⟨[], by simp⟩ fun b o e n => ⟨o, ext b o n e, .refl _⟩
      obtain ⟨m, hm, _⟩ := w₃.loc
      have hCι' : C ∉ ι' := w₃.locx.1
      exact fin D C m rs us σ' ι' h₃ tk₃ nn A₃ (w.aft A₃ w₃.base A₃.2.1 w₃.len w₃.nd w₃.sto) hD₃ vr₃ hD₀ hDι' hC₀ hCι' hDC hm (fi rs σ' src' inv')
  exact codeAny_compStart_list (loop _ rfl) (itr.self (S.comp scope) (f.comp scope cl C) ι₂ [] _ σ₂ { s with heap := h₁, toks := tk₂ + ([] : List (Str × Value)).length } 0 _ _ wb st₁ (loop _ rfl))
end

section
variable {c : C0} {S : Stt} {ρ γ : List (Str × V)} {σ : List O} {X : Addr → List O → Prop}

abbrev CompBody (c : C0) (S : Stt) (elt : Expr) (scope : Scope) (pρ : V → List (Str × V)) (γ : List (Str × V)) (X : Addr → List O → Prop) (Q : List V → List O → Prop) (vs : List V) (Src : List O → Prop) (σ₀ : List O) : Prop :=
  vs.length ≤ sizeLine ∧ ∃ Inv : Nat → List V → List O → Prop, Inv 0 [] σ₀ ∧
      (∀ k v rs σ, vs[k]? = some v → Src σ → Inv k rs σ → WE c (S.comp scope) elt (pρ v) (compCells γ scope) (fun y σ' => Src σ' ∧ Inv (k + 1) (rs ++ [y]) σ') X σ) ∧
      (∀ rs σ, Src σ → Inv vs.length rs σ → Q rs σ)
abbrev CompBodyT (c : C0) (S : Stt) (elt : Expr) (ifs : List Expr) (scope : Scope) (pρ : V → List (Str × V)) (γ : List (Str × V)) (X : Addr → List O → Prop) (Q : List V → List O → Prop) (vs : List V) (Src : List O → Prop) (σ₀ : List O) : Prop :=
  vs.length ≤ sizeLine ∧ ∃ Inv : Nat → List V → List O → Prop, Inv 0 [] σ₀ ∧
      (∀ k v rs σ, vs[k]? = some v → Src σ → Inv k rs σ → WT c (S.comp scope) ifs (pρ v) (compCells γ scope) (KCt c S elt scope pρ γ X Src Inv k v rs) X σ) ∧
      (∀ rs σ, Src σ → Inv vs.length rs σ → Q rs σ)
theorem CompBody.t {elt : Expr} {scope : Scope} {pρ : V → List (Str × V)} {Q : List V → List O → Prop} {vs : List V} {Src : List O → Prop} {σ₀ : List O} (h : CompBody c S elt scope pρ γ X Q vs Src σ₀) : CompBodyT c S elt [] scope pρ γ X Q vs Src σ₀ := by
  obtain ⟨hz, Inv, i0, turn, fin⟩ := h
  exact ⟨hz, Inv, i0, fun k v rs σ hv hs hi f ι s w => wpAny_tests_nil (.now w rfl (turn k v rs σ hv hs hi)), fin⟩
theorem WI.imp {iter : Expr} {Q Q' : List V → (List O → Prop) → List O → Prop} (h : WI c S iter ρ γ Q X σ) (hq : ∀ vs Src σ, Q vs Src σ → Q' vs Src σ) : WI c S iter ρ γ Q' X σ := fun f ι s w =>
  wpAny_mono (h f ι s w) (fun _ _ p => wpAny_mono p (fun _ _ p => by cases p with | mk vs Src I St σ' ι' h' tk e1 e2 A w itr st hI src q => exact ⟨vs, Src, I, St, σ', ι', h', tk, e1, e2, A, w, itr, st, hI, src, hq _ _ _ q⟩) fun _ _ p => p) fun _ _ p => p

theorem comp_name {x : Str} {px : Pos} {scope : Scope} (hx : (compNames S.kd scope.names).lookup x = some .local) (f : Fm) (ι : List Addr) (ρ γ : List (Str × V)) (σ : List O) (s : Shared) (v : V) (u : Value) (Qs : Unit → Shared → Prop) (E : Value → Shared → Prop)
    (hρ : ρ = [] ∨ ∃ v', ρ = [(x, v')]) (w : Sit c (S.comp scope) f ι ρ γ σ s.heap) (hv : VR ι s.heap v u)
    (n : ∀ h' tk, Sit c (S.comp scope) f ι [(x, v)] γ σ h' → Heap.ExtBut f.env.locals s.heap h' → Qs () { s with heap := h', toks := tk }) : wpAny c.M f.A (assign (.Name x px) f.env u) Qs E s := by
  obtain ⟨m, hm, hr⟩ := w.loc
  refine wpAny_assign_Name (wpAny_storeName_local ((w.kinds x).trans hx) hm (fun h' hn hs => ?_) (by rw [w.kind]; rfl))
  have hcx : ∀ y b, f.env.cells.lookup y = some b → ∃ v₀, h'.IsCell b v₀ := fun y b e => by
    obtain ⟨_, n2, _, v₀, o, ho, hd⟩ := w.celx y b e
    exact ⟨v₀, o, (hs.2 b n2).trans ho, hd⟩
  have step : Sit c (S.comp scope) f ι [(x, v)] γ σ h' ∧ AftX f ι s.heap ι h' := by
    refine w.own (ρ₁ := [(x, v)]) (γ₁ := γ) (a := f.env.locals) (.inl rfl) hs (fun A => ⟨_, hn, fun y z e => ?_⟩) (fun A y z e => ?_) hcx
    · rw [List.lookup_cons] at e
      cases q : y == x with
      | true =>
        rw [q] at e; cases e
        exact ⟨u, by rw [if_pos (beq_iff_eq.mp q)], hv.grow w.muX A.1 A.2.2⟩
      | false => rw [q] at e; cases e
    · obtain ⟨a, u', e1, ⟨o, ho, hd⟩, e3⟩ := w.cel y z e
      exact ⟨a, u', e1, ⟨o, (hs.2 a (w.celx y a e1).2.1).trans ho, hd⟩, e3.grow w.muX A.1 A.2.2⟩
  exact n h' _ step.1 hs.extBut

theorem comp_done {f : Fm} {ι ι' : List Addr} {s : Shared} {σ' : List O} {h' h'' : Heap} {tk n : Nat} {D C : Addr} {m : Str → Option Value} {rs : List V} {us : List Value} {Q : V → List O → Prop} (w : Sit c S f ι ρ γ σ s.heap)
    (A : Aft ι s.heap ι' h') (w' : Sit c S f ι' ρ γ σ' h') (hD : h'.get? D = some { cls := .type "list", data := .seq us.toArray n }) (r : VRs ι' h' rs us) (hD₀ : s.heap.get? D = none) (hDι : D ∉ ι') (hC₀ : s.heap.get? C = none) (hCι : C ∉ ι') (hCD : C ≠ D) (hm : h'.Ns C m)
    (hs : Heap.SameBut C h' h'') (q : Q (.ref σ'.length) (σ' ++ [.list rs])) : PR VR c S f ι ρ γ s Q (.ref D) { s with heap := h'', toks := tk } := by
  have jC := w.junkOf (ι' := ι') hC₀ hCι
  have jD := w.junkOf (ι' := ι') hD₀ hDι
  have MC : MuX (· = C) h' := fun a o qa ho => by
    obtain ⟨o', es, ep, ho', hd', _⟩ := hm
    subst qa; rw [ho] at ho'; cases ho'
    exact ⟨fun _ its n z => (by rw [hd'] at z; cases z), fun vs z => by rw [hd'] at z; cases z⟩
  have kC : ∀ b o, ¬ b = C → h'.get? b = some o → h''.get? b = some o := fun b o n e => hs.extBut b o n e
  have w₁ := w'.junk (J := (· = C)) (fun b q => q ▸ jC) MC kC
  have hD₁ : h''.get? D = _ := kC D _ (Ne.symm hCD) hD
  have r₁ : VRs ι' h'' rs us := r.grow MC ⟨[], by simp⟩ fun b o e n => ⟨o, kC b o n e, .refl _⟩
  have M0 : MuX (fun _ => False) h'' := fun _ _ q => q.elim
  have w₂ := w₁.adopt (o := .list rs) jD ⟨us, n, hD₁, r₁.grow M0 ⟨[D], rfl⟩ (.refl _ _), jD.b⟩
  refine ⟨.ref σ'.length, _, _, h'', tk, rfl, ⟨by obtain ⟨t, ht⟩ := A.1; exact ⟨t ++ [D], by rw [ht, List.append_assoc]⟩, fun b hb => ?_, fun b o e n => ?_⟩, w₂, .ref (by rw [← w'.len]; simp), q⟩
  · rcases List.mem_append.mp hb with hb | hb
    · exact A.2.1 b hb
    · rw [List.mem_singleton.mp hb]; exact .inr hD₀
  · obtain ⟨o', e', s'⟩ := A.2.2 b o e n
    exact ⟨o', kC b o' (fun z => by rw [z, hC₀] at e; cases e) e', s'⟩

theorem compG {target iter elt : Expr} {ifs : List Expr} {scope : Scope} {pos : Pos} {Q : V → List O → Prop} (pρ : V → List (Str × V)) (hq : S.q = true) (ok : CompOk S scope)
    (hst : ∀ f ι ρ γ σ s v u (Qs : Unit → Shared → Prop) (E : Value → Shared → Prop), (ρ = [] ∨ ∃ v', ρ = pρ v') → Sit c (S.comp scope) f ι ρ γ σ s.heap → VR ι s.heap v u → (∀ h' tk, Sit c (S.comp scope) f ι (pρ v) γ σ h' → Heap.ExtBut f.env.locals s.heap h' → Qs () { s with heap := h', toks := tk }) → wpAny c.M f.A (assign target f.env u) Qs E s)
    (h : WI c S iter ρ γ (CompBodyT c S elt ifs scope pρ γ X fun rs σ' => Q (.ref σ'.length) (σ' ++ [.list rs])) X σ)
    (hs : ∀ env x, foldedSetIterable iter env x = pure x) (ht : ∀ it v, letOwnedTupleGo target it v = pure ()) : WE c S (.ListComp elt [⟨target, iter, ifs, 0⟩] scope pos) ρ γ Q X σ := fun f ι s w => by
  show wpAny c.M f.A (eval (.ListComp elt [⟨target, iter, ifs, 0⟩] scope pos) f.env) _ _ s
  rw [eval_ListComp]
  refine comp_core (use := none) pρ w hq ok hst h (fun _ _ p => p) (fun D C m rs us σ' ι' h' tk n A w' hD r hD₀ hDι hC₀ hCι hCD hm q => ?_) (hs _) ht
  exact ⟨m, hm, fun h'' hs'' => comp_done w A w' hD r hD₀ hDι hC₀ hCι hCD hm hs'' q⟩
theorem compN {x : Str} {px : Pos} {iter elt : Expr} {scope : Scope} {pos : Pos} {Q : V → List O → Prop} (hq : S.q = true) (ok : CompOk S scope) (hx : (compNames S.kd scope.names).lookup x = some .local)
    (h : WI c S iter ρ γ (CompBody c S elt scope (fun v => [(x, v)]) γ X fun rs σ' => Q (.ref σ'.length) (σ' ++ [.list rs])) X σ)
    (hs : ∀ env x, foldedSetIterable iter env x = pure x := by intro _ _; rfl) : WE c S (.ListComp elt [⟨.Name x px, iter, [], 0⟩] scope pos) ρ γ Q X σ :=
  compG _ hq ok (comp_name hx) (h.imp fun _ _ _ q => q.t) hs fun _ _ => rfl
theorem compNone {x : Str} {px : Pos} {iter elt cond : Expr} {scope : Scope} {pos : Pos} {Q : V → List O → Prop} (hq : S.q = true) (ok : CompOk S scope) (hx : (compNames S.kd scope.names).lookup x = some .local)
    (h : WI c S iter ρ γ (fun vs Src σ₀ => vs.length ≤ sizeLine ∧ ∃ P : List O → Prop, P σ₀ ∧ (∀ (k : Nat) v σ, vs[k]? = some v → Src σ → P σ → WB c (S.comp scope) cond [(x, v)] (compCells γ scope) (fun b σ' => b = false ∧ Src σ' ∧ P σ') X σ) ∧ ∀ σ', Src σ' → P σ' → Q (.ref σ'.length) (σ' ++ [.list []])) X σ)
    (hs : ∀ env x, foldedSetIterable iter env x = pure x := by intro _ _; rfl) : WE c S (.ListComp elt [⟨.Name x px, iter, [cond], 0⟩] scope pos) ρ γ Q X σ :=
  compG _ hq ok (comp_name hx) (h.imp fun vs Src σ₀ q => by
    obtain ⟨hz, P, p0, turn, fin⟩ := q
    refine ⟨hz, fun _ rs σ => rs = [] ∧ P σ, ⟨rfl, p0⟩, fun k v rs σ hv hs hi f ι s w => ?_, fun rs σ hs hi => by obtain ⟨rfl, p⟩ := hi; exact fin σ hs p⟩
    refine wpAny_tests_one (wpAny_mono (turn k v σ hv hs hi.2 f ι s w) (fun b s' p => ?_) fun _ _ p => p)
    obtain ⟨b', σ', ι', h', tk, e, A, w', r, rfl, q1, q2⟩ := p
    exact ⟨false, σ', ι', h', tk, e, A, w', r, q1, hi.1, q2⟩) hs fun _ _ => rfl

theorem sAssCompG {target iter elt : Expr} {ifs : List Expr} {y : Str} {py spos : Pos} {scope : Scope} {pos : Pos} {Q : Fl → List (Str × V) → List (Str × V) → List O → Prop} (pρ : V → List (Str × V)) (hq : S.q = true) (ok : CompOk S scope) (hy : S.kd y = some .local)
    (hst : ∀ f ι ρ γ σ s v u (Qs : Unit → Shared → Prop) (E : Value → Shared → Prop), (ρ = [] ∨ ∃ v', ρ = pρ v') → Sit c (S.comp scope) f ι ρ γ σ s.heap → VR ι s.heap v u → (∀ h' tk, Sit c (S.comp scope) f ι (pρ v) γ σ h' → Heap.ExtBut f.env.locals s.heap h' → Qs () { s with heap := h', toks := tk }) → wpAny c.M f.A (assign target f.env u) Qs E s)
    (h : WI c S iter ρ γ (CompBodyT c S elt ifs scope pρ γ X fun rs σ' => Q .next (upd ρ y (.ref σ'.length)) γ (σ' ++ [.list rs])) X σ)
    (hsw : (py.line == pos.line && !(scope.names.any fun (n, k) => n == y && (k == .local || k == .cell))) = true)
    (hs : ∀ env x, foldedSetIterable iter env x = pure x) (ht : ∀ it v, letOwnedTupleGo target it v = pure ()) : WS c S (.Assign [.Name y py] (.ListComp elt [⟨target, iter, ifs, 0⟩] scope pos) spos) ρ γ Q X σ := fun f ι s w _ => by
  have hsw' : swapsWith (.ListComp elt [⟨target, iter, ifs, 0⟩] scope pos) (some (.Name y py)) spos.line f.env = pure true := by
    have hb : f.env.blockKind = .function := by unfold Env.blockKind; rw [w.kind]; rfl
    have : swapsWith (.ListComp elt [⟨target, iter, ifs, 0⟩] scope pos) (some (.Name y py)) spos.line f.env = pure (f.env.blockKind == .function && f.env.kindOf y == some .local && py.line == pos.line && !(scope.names.any fun (n, k) => n == y && (k == .local || k == .cell))) := rfl
    rw [this, hb, w.kinds, hy]
    simp only [Bool.and_eq_true] at hsw
    rw [hsw.1, hsw.2]; rfl
  show wpAny c.M f.A (exec (.Assign [.Name y py] (.ListComp elt [⟨target, iter, ifs, 0⟩] scope pos) spos) f.env) _ _ s
  rw [exec_Assign_Name_used _ _ _ _ hsw']
  refine wpAny_bind (wpAny_standAt (wpAny_bind ?_))
  show wpAny c.M f.A (do let _ ← comprehension (.ListComp elt [⟨target, iter, ifs, 0⟩] scope pos) scope f.env _ (newList []) false (eval iter f.env) (some (assign (.Name y py) f.env))) _ _ s
  refine wpAny_bind (wpAny_mono (comp_core (use := some (assign (.Name y py) f.env)) (Q' := fun _ s' => PS c S f ι s Q .next s') (E := PXS c S f ι s X) pρ w hq ok hst h (fun _ _ p => p.st) (fun D C m rs us σ' ι' h' tk n A w' hD r hD₀ hDι hC₀ hCι hCD hm q => ?_) (hs _) ht) (fun _ s' hq => wpAny_pure (wpAny_pure hq)) fun _ _ e => e)
  have jC := w.junkOf (ι' := ι') hC₀ hCι
  have jD := w.junkOf (ι' := ι') hD₀ hDι
  have M0 : MuX (fun _ => False) h' := fun _ _ q => q.elim
  have w₂ := w'.adopt (o := .list rs) jD ⟨us, n, hD, r.grow M0 ⟨[D], rfl⟩ (.refl _ _), jD.b⟩
  have A₂ : Aft ι s.heap (ι' ++ [D]) h' := ⟨by obtain ⟨t, ht⟩ := A.1; exact ⟨t ++ [D], by rw [ht, List.append_assoc]⟩, fun b hb => by
    rcases List.mem_append.mp hb with hb | hb
    · exact A.2.1 b hb
    · rw [List.mem_singleton.mp hb]; exact .inr hD₀, A.2.2⟩
  have hCι₂ : C ∉ ι' ++ [D] := fun q => (List.mem_append.mp q).elim hCι fun q => hCD (List.mem_singleton.mp q)
  have jC₂ := w.junkOf (ι' := ι' ++ [D]) hC₀ hCι₂
  show wpAny c.M f.A (assign (.Name y py) f.env (.ref D)) _ _ _
  refine wpAny_assign_Name (store_L (v := .ref σ'.length) w₂ hy (.ref (by rw [← w'.len]; simp)) fun h₃ w₃ A₃ => ?_)
  have hm₃ : h₃.Ns C m := A₃.2.2.ns (fun q => q.elim hCι₂ fun q => q.elim jC.l fun ⟨x, e⟩ => jC.cl x e) hm
  refine ⟨m, hm₃, fun h₄ hs₄ => ?_⟩
  have MC : MuX (· = C) h₃ := fun a o qa ho => by
    obtain ⟨o', es, ep, ho', hd', _⟩ := hm₃
    subst qa; rw [ho] at ho'; cases ho'
    exact ⟨fun _ its n z => (by rw [hd'] at z; cases z), fun vs z => by rw [hd'] at z; cases z⟩
  have w₄ := w₃.junk (J := (· = C)) (fun b q => q ▸ jC₂) MC fun b o n e => hs₄.extBut b o n e
  have A₃' := (A₂.x f).then w₂ A₃
  exact ⟨.next, _, γ, _, _, h₄, _, rfl, ⟨A₃'.1, A₃'.2.1, fun b o e n => by
    obtain ⟨o', e', s'⟩ := A₃'.2.2 b o e n
    exact ⟨o', hs₄.extBut b o' (fun z => by rw [z, hC₀] at e; cases e) e', s'⟩⟩, w₄, .next, q⟩
theorem sAssCompN {x : Str} {px : Pos} {iter elt : Expr} {y : Str} {py spos : Pos} {scope : Scope} {pos : Pos} {Q : Fl → List (Str × V) → List (Str × V) → List O → Prop} (hq : S.q = true) (ok : CompOk S scope) (hy : S.kd y = some .local) (hx : (compNames S.kd scope.names).lookup x = some .local)
    (hsw : (py.line == pos.line && !(scope.names.any fun (n, k) => n == y && (k == .local || k == .cell))) = true)
    (h : WI c S iter ρ γ (CompBody c S elt scope (fun v => [(x, v)]) γ X fun rs σ' => Q .next (upd ρ y (.ref σ'.length)) γ (σ' ++ [.list rs])) X σ)
    (hs : ∀ env x, foldedSetIterable iter env x = pure x := by intro _ _; rfl) : WS c S (.Assign [.Name y py] (.ListComp elt [⟨.Name x px, iter, [], 0⟩] scope pos) spos) ρ γ Q X σ :=
  sAssCompG _ hq ok hy (comp_name hx) (h.imp fun _ _ _ q => q.t) hsw hs fun _ _ => rfl
end

mutual
inductive Rd (σ : List O) : V → PyData → Prop where
  | none : Rd σ .none .none
  | bool (b : Bool) : Rd σ (.bool b) (.bool b)
  | int (i : Int) : Rd σ (.int i) (.int i)
  | str (s : Str) : Rd σ (.str s) (.str s)
  | tup {l : List V} {ds : List PyData} : Rds σ l ds → Rd σ (.tup l) (.tuple ds)
  | ref {i : Nat} {o : O} {l : List V} {ds : List PyData} : σ[i]? = some o → o.items? = some l → Rds σ l ds → Rd σ (.ref i) (.list ds)
inductive Rds (σ : List O) : List V → List PyData → Prop where
  | nil : Rds σ [] []
  | cons {v : V} {d : PyData} {l : List V} {ds : List PyData} : Rd σ v d → Rds σ l ds → Rds σ (v :: l) (d :: ds)
end

section
variable {c : C0} {S : Stt} {f : Fm} {ι : List Addr} {ρ γ : List (Str × V)} {σ : List O} {h : Heap}
theorem Rd.reads (w : Sit c S f ι ρ γ σ h) {v : V} {d : PyData} {u : Value} (x : Rd σ v d) (y : VR ι h v u) : ∃ as, Reads h u d as := by
  refine Rd.rec (motive_1 := fun v d _ => ∀ u, VR ι h v u → ∃ as, Reads h u d as) (motive_2 := fun l ds _ => ∀ us, VRs ι h l us → ∃ as, ReadsAll h us ds as) ?_ ?_ ?_ ?_ ?_ ?_ ?_ ?_ x u y
  · intro u y; cases y; exact ⟨_, .none⟩
  · intro b u y; cases y; exact ⟨_, .bool b⟩
  · intro i u y; cases y; exact ⟨_, .int i _⟩
  · intro z u y; cases y; exact ⟨_, .str z _⟩
  · intro l ds x ih u y
    cases y with
    | tup t y =>
      obtain ⟨as, r⟩ := ih _ y
      obtain ⟨o, ho, hc, n, hd⟩ := t
      exact ⟨as, .tuple ho hc hd (by simpa using r)⟩
  · intro i o l ds e1 e2 x ih u y
    cases y with
    | ref e3 =>
      obtain ⟨us, ⟨o, ho, hc, n, hd⟩, r⟩ := w.items e1 e2 e3
      obtain ⟨as, r'⟩ := ih _ r
      exact ⟨_, .list ho hc hd (by simpa using r')⟩
  · intro us y; cases y; exact ⟨_, .nil⟩
  · intro v d l ds x z ih1 ih2 us y
    cases y with
    | cons r q =>
      obtain ⟨as, e1⟩ := ih1 _ r
      obtain ⟨bs, e2⟩ := ih2 _ q
      exact ⟨_, .cons e1 e2⟩
end

section
variable {c : C0} {S : Stt} {ρ γ : List (Str × V)} {σ : List O} {Q : V → List O → Prop} {QB : Bool → List O → Prop} {X : Addr → List O → Prop}

theorem room64 {f : Fm} {ι : List Addr} {h : Heap} (w : Sit c S f ι ρ γ σ h) : f.A.units + 64 < cLine := by
  have := w.units; have := w.lvl; unfold cLine; omega
theorem eq_rd {a b : V} {da db : PyData} (ha : Rd σ a da) (hb : Rd σ b db) (sa : SeqAt.shaped da = true) (sb : SeqAt.shaped db = true) (q : Q (.bool (PyData.eqv da db)) σ) : W2 VR c S (compareOp .Eq) a b ρ γ Q X σ := fun f ι s u v w hu hv => by
  obtain ⟨as, ra⟩ := ha.reads w hu
  obtain ⟨bs, rb⟩ := hb.reads w hv
  exact SeqAt.compareEq_shaped ra rb sa sb (room64 w) (.now w (.bool _) q)
theorem ne_rd {a b : V} {da db : PyData} (ha : Rd σ a da) (hb : Rd σ b db) (sa : SeqAt.shaped da = true) (sb : SeqAt.shaped db = true) (q : Q (.bool (!PyData.eqv da db)) σ) : W2 VR c S (compareOp .NotEq) a b ρ γ Q X σ := fun f ι s u v w hu hv => by
  obtain ⟨as, ra⟩ := ha.reads w hu
  obtain ⟨bs, rb⟩ := hb.reads w hv
  exact SeqAt.compareNe_shaped ra rb sa sb (room64 w) (.now w (.bool _) q)

theorem len_ref {i : Nat} {o : O} {l : List V} (h1 : σ[i]? = some o) (h2 : o.items? = some l) (hz : (l.length : Int) < 2 ^ 63) (q : Q (.int l.length) σ) : WL VR c S (fun us => call (.builtin "len") us) [.ref i] ρ γ Q X σ := fun f ι s us w hr => by
  cases hr with
  | cons r rs =>
    cases rs
    cases r with
    | ref hi =>
      obtain ⟨us, hl, hv⟩ := w.items h1 h2 hi
      have e : us.toArray.size = l.length := by rw [List.size_toArray, hv.length]
      exact len_list hl (by rw [e]; exact hz) (by rw [e]; exact .tok w (.int _ _) q)
theorem len_tup {l : List V} (hz : (l.length : Int) < 2 ^ 63) (q : Q (.int l.length) σ) : WL VR c S (fun us => call (.builtin "len") us) [.tup l] ρ γ Q X σ := fun f ι s us w hr => by
  cases hr with
  | cons r rs =>
    cases rs
    cases r with
    | tup ht hv =>
      rename_i vs
      have e : vs.toArray.size = l.length := by rw [List.size_toArray, hv.length]
      exact len_tuple ht (by rw [e]; exact hz) (by rw [e]; exact .tok w (.int _ _) q)

theorem list_ref {i : Nat} {o : O} {l : List V} (h1 : σ[i]? = some o) (h2 : o.items? = some l) (hz : l.length ≤ sizeLine) (q : Q (.ref σ.length) (σ ++ [.list l])) : WL VR c S (fun us => call (.type "list") us) [.ref i] ρ γ Q X σ := fun f ι s us w hr => by
  cases hr with
  | cons r rs =>
    cases rs
    cases r with
    | ref hi =>
      obtain ⟨us, ⟨ob, ho, hc, n, hd⟩, hv⟩ := w.items h1 h2 hi
      exact call_list_seq _ (.inl rfl) ho hc hd (fun h' c' k hl => PR.newList w k none_above hl hv q) (by rw [List.size_toArray, hv.length]; exact hz)
theorem list_tup {l : List V} (hz : l.length ≤ sizeLine) (q : Q (.ref σ.length) (σ ++ [.list l])) : WL VR c S (fun us => call (.type "list") us) [.tup l] ρ γ Q X σ := fun f ι s us w hr => by
  cases hr with
  | cons r rs =>
    cases rs
    cases r with
    | tup ht hv =>
      obtain ⟨ob, ho, hc, n, hd⟩ := ht
      exact call_list_seq _ (.inr rfl) ho hc hd (fun h' c' k hl => PR.newList w k none_above hl hv q) (by rw [List.size_toArray, hv.length]; exact hz)

inductive Ty where
  | int | bool | list | tuple | str
noncomputable def Ty.nm : Ty → String
  | .int => "int" | .bool => "bool" | .list => "list" | .tuple => "tuple" | .str => "str"
abbrev isT : V → Ty → Bool
  | .int _, .int => true
  | .bool _, .int => true
  | .bool _, .bool => true
  | .str _, .str => true
  | .tup _, .tuple => true
  | .ref _, .list => true
  | _, _ => false
def plainV (σ : List O) : V → Prop
  | .ref i => ∃ o l, σ[i]? = some o ∧ o.items? = some l
  | .exc _ => False
  | _ => True

theorem isi_ty {v : V} {T : Ty} (hp : plainV σ v) (q : Q (.bool (isT v T)) σ) : W1 VR c S (fun u => call (.builtin "isinstance") [u, .type T.nm]) v ρ γ Q X σ := fun f ι s u w hu => by
  have q1 : ∀ tk, PR VR c S f ι ρ γ s Q (.bool (isT v T)) { s with toks := tk } := fun tk => .tok w (.bool _) q
  have q0 : PR VR c S f ι ρ γ s Q (.bool (isT v T)) s := .now w (.bool _) q
  cases hu with
  | none => cases T <;> first | exact IsiPair.NoneType_int (q1 _) | exact IsiPair.NoneType_bool (q1 _) | exact IsiPair.NoneType_list (q1 _) | exact IsiPair.NoneType_tuple (q1 _) | exact IsiPair.NoneType_str (q1 _)
  | bool b => cases T <;> first | exact IsiPair.bool_int q0 | exact IsiPair.bool_bool q0 | exact IsiPair.bool_list (q1 _) | exact IsiPair.bool_tuple (q1 _) | exact IsiPair.bool_str (q1 _)
  | int i t => cases T <;> first | exact IsiPair.int_int q0 | exact IsiPair.int_bool (q1 _) | exact IsiPair.int_list (q1 _) | exact IsiPair.int_tuple (q1 _) | exact IsiPair.int_str (q1 _)
  | str x t => cases T <;> first | exact IsiPair.str_int (q1 _) | exact IsiPair.str_bool (q1 _) | exact IsiPair.str_list (q1 _) | exact IsiPair.str_tuple (q1 _) | exact IsiPair.str_str q0
  | ref hi =>
    obtain ⟨o, l, e1, e2⟩ := hp
    obtain ⟨us, ⟨ob, ho, hc, n, hd⟩, hv⟩ := w.items e1 e2 hi
    cases T <;> first | exact IsiPair.list_int ho hc (q1 _) | exact IsiPair.list_bool ho hc (q1 _) | exact IsiPair.list_list ho hc q0 | exact IsiPair.list_tuple ho hc (q1 _) | exact IsiPair.list_str ho hc (q1 _)
  | tup ht hv =>
    obtain ⟨ob, ho, hc, n, hd⟩ := ht
    cases T <;> first | exact IsiPair.tuple_int ho hc (q1 _) | exact IsiPair.tuple_bool ho hc (q1 _) | exact IsiPair.tuple_list ho hc (q1 _) | exact IsiPair.tuple_tuple ho hc q0 | exact IsiPair.tuple_str ho hc (q1 _)
  | exc e cl d => exact hp.elim

theorem callIsi {e : Expr} {t : Str} {T : String} {p p2 pos : Pos} (hk : S.kd "isinstance" = some .globalImplicit) (hg : c.mg "isinstance" = none) (hkt : S.kd t = some .globalImplicit) (hgt : c.mg t = none) (hvt : bootBuiltins t = some (.type T)) (hn : t ≠ "__name__")
    (h : WE c S e ρ γ (KU c S (fun u => call (.builtin "isinstance") [u, .type T]) ρ γ Q X) X σ) (hb : (t == ("__debug__" : Str)) = false := by decide)
    (he : ∀ env, starEach [e, .Name t p2] env = (false, eval e env) :: starEach [.Name t p2] env := by intro _; rfl) (hpl : ∀ env, (backTo pos (starEach [.Name t p2] env)).any (·.1) = false := by intro _; rfl) :
    WE c S (.Call (.Name "isinstance" p) [e, .Name t p2] [] pos) ρ γ Q X σ := fun f ι s w => by
  refine Call_ (Name_function_global w.kind ((w.kinds "isinstance").trans hk) (loadGlobal_builtin (mg := c.mg) (mb := c.mb) (by rw [w.glob]; exact w.gr.g.keeps w.base) hg (by rw [w.blt]; exact w.gr.b.keeps w.base) ((w.gr.builtins "isinstance" (by decide)).trans Boot.«isinstance») ?_)) rfl
  refine callWith_builtin1 (args_cons (wpAny_mono (h f ι s w) (fun u s₁ p => ?_) fun _ _ p => p) (he _)) (he _) (hpl _)
  obtain ⟨v, σ₁, ι₁, h₁, tk₁, rfl, A₁, w₁, r₁, q⟩ := p
  refine args_cons (Name_function_global w.kind ((w.kinds t).trans hkt) (loadGlobal_builtin (mg := c.mg) (mb := c.mb) (by rw [w.glob]; exact w.gr.g.keeps w₁.base) hgt (by rw [w.blt]; exact w.gr.b.keeps w₁.base) ((w.gr.builtins t hn).trans hvt) (args_nil ?_)) hb)
  exact lift1 A₁ (q f ι₁ _ u w₁ r₁)
theorem callIsiG {e : Expr} {t : Str} {C : Addr} {p p2 pos : Pos} (hk : S.kd "isinstance" = some .globalImplicit) (hg : c.mg "isinstance" = none) (hkt : S.kd t = some .globalImplicit) (hgt : c.mg t = some (.ref C))
    (h : WE c S e ρ γ (KU c S (fun u => call (.builtin "isinstance") [u, .ref C]) ρ γ Q X) X σ) (hb : (t == ("__debug__" : Str)) = false := by decide)
    (he : ∀ env, starEach [e, .Name t p2] env = (false, eval e env) :: starEach [.Name t p2] env := by intro _; rfl) (hpl : ∀ env, (backTo pos (starEach [.Name t p2] env)).any (·.1) = false := by intro _; rfl) :
    WE c S (.Call (.Name "isinstance" p) [e, .Name t p2] [] pos) ρ γ Q X σ := fun f ι s w => by
  refine Call_ (Name_function_global w.kind ((w.kinds "isinstance").trans hk) (loadGlobal_builtin (mg := c.mg) (mb := c.mb) (by rw [w.glob]; exact w.gr.g.keeps w.base) hg (by rw [w.blt]; exact w.gr.b.keeps w.base) ((w.gr.builtins "isinstance" (by decide)).trans Boot.«isinstance») ?_)) rfl
  refine callWith_builtin1 (args_cons (wpAny_mono (h f ι s w) (fun u s₁ p => ?_) fun _ _ p => p) (he _)) (he _) (hpl _)
  obtain ⟨v, σ₁, ι₁, h₁, tk₁, rfl, A₁, w₁, r₁, q⟩ := p
  refine args_cons (Name_function_global w.kind ((w.kinds t).trans hkt) (loadGlobal_global (mg := c.mg) (by rw [w.glob]; exact w.gr.g.keeps w₁.base) hgt (args_nil ?_)) hb)
  exact lift1 A₁ (q f ι₁ _ u w₁ r₁)
end

abbrev bmV : List Value := [.type "ValueError", .type "Exception", .type "BaseException", .type "object"]
abbrev ExcAt (c : C0) (x : Str) (C : Addr) : Prop := OwnCls x C bmV "ValueError.__new__" c.mg c.base

section
variable {c : C0} {S : Stt} {f : Fm} {ι ι' : List Addr} {ρ γ ρ' γ' : List (Str × V)} {σ σ' : List O} {h h' hb : Heap} {s : Shared}

theorem Sit.weaken (w : Sit c S f ι ρ γ σ h) (h1 : ∀ x v, ρ'.lookup x = some v → ρ.lookup x = some v) (h2 : ∀ x v, γ'.lookup x = some v → γ.lookup x = some v) : Sit c S f ι ρ' γ' σ h := by
  obtain ⟨m, hm, hr⟩ := w.loc
  exact { w with loc := ⟨m, hm, fun x v e => hr x v (h1 x v e)⟩, cel := fun x v e => w.cel x v (h2 x v e) }

theorem Sit.slots (w : Sit c S f ι ρ γ σ hb) (k1 : ∀ b o, hb.get? b = some o → b ∉ frs f → h.get? b = some o) (k2 : ∀ b o, hb.get? b = some o → b ∈ frs f → ∃ sl, h.get? b = some { o with slots := sl }) : Sit c S f ι ρ γ σ h ∧ Aft ι hb ι h := by
  have kp : Kp (fun _ => False) hb h := fun b o e _ => by
    by_cases hm : b ∈ frs f
    · obtain ⟨sl, e'⟩ := k2 b o e hm
      obtain ⟨env, he, hL⟩ := List.mem_filterMap.mp hm
      exact ⟨_, e', .inr ⟨w.fdict env he b o hL e, sl, rfl⟩⟩
    · exact ⟨o, k1 b o e hm, .refl o⟩
  have A : Aft ι hb ι h := ⟨⟨[], by simp⟩, fun _ q => .inl q, kp.mono fun _ _ _ q => q.elim⟩
  refine ⟨w.aft A (fun b o e => k1 b o (w.base b o e) fun hm => ?_) (fun _ q => .inl q) w.len w.nd fun i o a e1 e2 => ?_, A⟩
  · rw [(w.frames.mem hm).1] at e; cases e
  · refine (w.sto i o a e1 e2).other (X := fun _ => False) (fun _ _ q => q.elim) A.1 kp fun ob z => k1 a ob z fun hm => ?_
    obtain ⟨env, he, hL⟩ := List.mem_filterMap.mp hm
    exact w.fnotin env he a hL (List.mem_of_getElem? e2)

theorem Sit.toA {A' : Around} {q : Bool} (w : Sit c S f ι ρ γ σ h) (e : A'.frames = f.A.frames) (hd : A'.depth ≤ 310 + 4 * S.n) (hu : A'.units ≤ 50 + 20 * S.n) (hq : q = true → A'.handled = none) : Sit c { S with q := q } { f with A := A' } ι ρ γ σ h :=
  { w with stack := e.trans w.stack, depth := hd, units := hu, quiet := hq }
theorem Sit.ofA {A' : Around} {q : Bool} {ι₀ : List Addr} {ρ₀ γ₀ : List (Str × V)} {σ₀ : List O} {h₀ : Heap} (w : Sit c { S with q := q } { f with A := A' } ι ρ γ σ h) (w₀ : Sit c S f ι₀ ρ₀ γ₀ σ₀ h₀) : Sit c S f ι ρ γ σ h :=
  { w with stack := w₀.stack, depth := w₀.depth, units := w₀.units, quiet := w₀.quiet }
end

section
variable {c : C0} {S : Stt} {ρ γ : List (Str × V)} {σ : List O} {Q : Fl → List (Str × V) → List (Str × V) → List O → Prop} {X : Addr → List O → Prop}

theorem sRaise {x : Str} {np cpos pos : Pos} {e : Expr} {C : Addr} (O : ExcAt c x C) (hq : S.q = true) (hk : S.kd x = some .globalImplicit) (h : WE c S e ρ γ (fun _ σ' => X C σ') X σ)
    (he : ∀ env, starEach [e] env = (false, eval e env) :: starEach [] env := by intro _; rfl) (hb : (x == ("__debug__" : Str)) = false := by decide) : WS c S (.Raise (some (.Call (.Name x np) [e] [] cpos)) none pos) ρ γ Q X σ := fun f ι s w _ => by
  obtain ⟨tl, N, nm, q, bs, hdct, sn, sub, ab, col, dd, k0, k1, k2, k3, k5, mN, hC, hN, hni, T⟩ := O.obj
  refine wpAny_Raise_call_subT (C := C) (nm := nm) (q := q) (N := N) (bs := bs) (bm := tl) (hdct := hdct) (sn := sn) (sub := sub) (ab := ab) (col := col) (dd := dd) (k0 := k0) (k1 := k1) (k2 := k2) (k3 := k3) (k5 := k5)
    PySem.F.excBase_ValueError (mN := mN) (T.hasType (by decide)) (w.quiet hq) (by rw [he]; rfl) hni (Name_function_global w.kind ((w.kinds x).trans hk) (loadGlobal_global (mg := c.mg) (by rw [w.glob]; exact w.gr.g.keeps w.base) O.bound ⟨rfl, ?_⟩) hb)
  rw [he]
  refine Calls.evalArgs_plain (spliced_cons (wpAny_mono (h f ι s w) (fun u s₁ p => spliced_nil ?_) fun _ _ p => p.st))
  obtain ⟨v, σ₁, ι₁, h₁, tk₁, rfl, A₁, w₁, r₁, q₁⟩ := p
  exact ⟨rfl, by show 1 ≤ sizeLine; decide, w₁.base _ _ hC, hN.keeps w₁.base, T.keeps w₁.base, fun h' ea hm => ⟨C, ea, h₁, ρ, γ, σ₁, ι₁, h', tk₁, rfl, rfl, A₁.x f, w₁, .inl ⟨_, hm⟩, q₁⟩⟩

theorem sTry {x n : Str} {body suite : List Stmt} {b₀ : Stmt} {np hpos pos : Pos} {C : Addr} (O : ExcAt c x C) (hk : S.kd x = some .globalImplicit) (hn : S.kd n = some .local)
    (h : WSs c S body ρ γ Q (fun C' σ' => C' = C ∧ WSs c { S with q := false } (b₀ :: suite) [(n, .exc C)] [] (fun fl _ _ σ'' => ∃ v, fl = .ret v ∧ Q (.ret v) [] [] σ'') (fun _ _ => False) σ') σ) (hb : (x == ("__debug__" : Str)) = false := by decide) :
    WS c S (.Try body [.ExceptHandler (some (.Name x np)) (some n) (b₀ :: suite) hpos] [] [] pos) ρ γ Q X σ := fun f ι s w hfe => by
  refine wpAny_Try_except (wpAny_mono (h f ι s w hfe) (fun fl s₁ p => ?_) fun ev s₁ p => ?_)
  · obtain ⟨fl', ρ', γ', σ', ι', h', tk, rfl, A, w', r, q⟩ := p
    cases r with
    | next => exact wpAny_execs_nil ⟨.next, ρ', γ', σ', ι', h', tk, rfl, A, w', .next, q⟩
    | brk => exact ⟨.brk, ρ', γ', σ', ι', h', tk, rfl, A, w', .brk, q⟩
    | cont => exact ⟨.cont, ρ', γ', σ', ι', h', tk, rfl, A, w', .cont, q⟩
    | ret r => exact ⟨.ret _, ρ', γ', σ', ι', h', tk, rfl, A, w', .ret r, q⟩
  · obtain ⟨C', ea, hb', ρ', γ', σ', ι', h', tk, rfl, rfl, A, w', air, rfl, hs⟩ := p
    have hst := w'.stack
    rw [hfe]
    refine note_air w' hst air fun h₃ B a0 L hL held cov sl => ?_
    refine wpAny_landsW (s := { s with heap := h₃, toks := tk }) held fun h₅ fly₅ up₅ => ?_
    have nof : ∀ b o, hb'.get? b = some o → b ∈ frs f → ∀ vs, o.data ≠ .fields vs := fun b o e hm => by
      obtain ⟨_, o', ho', hd'⟩ := w'.frames.mem hm
      rw [e] at ho'; cases ho'; exact hd'
    have sl₅ : ∀ b o, hb'.get? b = some o → b ∈ frs f → ∃ sl, h₅.get? b = some { o with slots := sl } := fun b o e hm => by
      obtain ⟨z, e1⟩ := sl b o e hm
      obtain ⟨z', e2⟩ := up₅ b _ e1 (nof b o e hm)
      exact ⟨z', e2⟩
    obtain ⟨w₅, _⟩ := w'.slots (fun b o e hm => fly₅.1 b o (cov b o e hm)) sl₅
    obtain ⟨ob, hob, hobc⟩ := fly₅.there
    obtain ⟨tl, N, nm, q, bs, hdct, sn, sub, ab, col, dd, k0, k1, k2, k3, k5, mN, hC, hN, hni, T⟩ := (O.keeps w₅.base).obj
    have hke : f.fe.scope.kind = .function := hfe ▸ w.kind
    have hkx : f.fe.kindOf x = some .globalImplicit := hfe ▸ (w.kinds x).trans hk
    have hgl : f.fe.globals = mainGlobals := hfe ▸ w.glob
    refine wpAny_handleBy_cons (codeAny_handlers_test (Name_function_global hke hkx (loadGlobal_global (mg := c.mg) (by rw [hgl]; exact w.gr.g.keeps w₅.base) O.bound ?_) hb)) (by intro q; cases q)
    refine wpAny_excMatches_sub_self hC hob hobc (T.hasType (by decide)) (codeAny_handlers_suite_as ?_)
    refine lands_againW (s := { s with heap := h₅, toks := tk }) fly₅ fun h₆ fly₆ up₆ => ?_
    have sl₆ : ∀ b o, hb'.get? b = some o → b ∈ frs f → ∃ sl, h₆.get? b = some { o with slots := sl } := fun b o e hm => by
      obtain ⟨z, e1⟩ := sl₅ b o e hm
      obtain ⟨z', e2⟩ := up₆ b _ e1 (nof b o e hm)
      exact ⟨z', e2⟩
    obtain ⟨w₆, A₆⟩ := w'.slots (fun b o e hm => fly₆.1 b o (cov b o e hm)) sl₆
    -- the frame within the clause
    have wm : Sit c { S with q := false } { f with A := f.A.mark (some (.ref ea)) } ι' [] [] σ' h₆ :=
      (w₆.weaken (ρ' := []) (γ' := []) (fun x v e => by cases e) (fun x v e => by cases e)).toA rfl w.depth w.units (fun q => by cases q)
    obtain ⟨oe, ws, hoe, hoec, hoed, _⟩ := fly₆.first
    rw [← hfe]
    refine store_L (s := { s with heap := h₆, toks := tk }) (f := { f with A := f.A.mark (some (.ref ea)) }) wm hn (.exc hoe hoec ⟨ws, hoed⟩) fun h₇ w₇ A₇ => ?_
    have A₇' : AftX f ι s.heap ι' h₇ := (A.then w' (A₆.x f)).then w₆ A₇
    refine wpAny_mono (hs { f with A := f.A.mark (some (.ref ea)) } ι' { s with heap := h₇, toks := tk + 1 } w₇ hfe) (fun fl s₈ p => ?_) fun _ _ p => ?_
    · obtain ⟨fl', ρ₈, γ₈, σ₈, ι₈, h₈, tk₈, rfl, A₈, w₈, r₈, v, rfl, q₈⟩ := p
      cases r₈ with
      | ret r₈ =>
        obtain ⟨m, hm, _⟩ := w₈.loc
        show wpAny c.M f.A (do bindName f.env n .none; unbindBehindTheSuite f.env n hpos) _ _ _
        refine wpAny_nameGoes ((w.kinds n).trans hn) hm (by rw [w.kind]; rfl) fun h₉ m₉ hm₉ hs₉ => ?_
        have hcx : ∀ y b, f.env.cells.lookup y = some b → ∃ v₀, h₉.IsCell b v₀ := fun y b e => by
          obtain ⟨_, n2, _, v₀, o, ho, hd⟩ := w₈.celx y b e
          exact ⟨v₀, o, (hs₉.2 b n2).trans ho, hd⟩
        have step := w₈.own (ρ₁ := []) (γ₁ := []) (a := f.env.locals) (.inl rfl) hs₉ (fun _ => ⟨m₉, hm₉, fun x v e => by cases e⟩) (fun _ x v e => by cases e) hcx
        have A₉ : AftX f ι s.heap ι₈ h₉ := (A₇'.then (w₇.ofA w) A₈).then (w₈.ofA w) step.2
        exact ⟨.ret v, [], [], σ₈, ι₈, h₉, _, rfl, A₉, step.1.ofA w, .ret (r₈.grow w₈.muX step.2.1 step.2.2.2), q₈⟩
    · obtain ⟨_, _, _, _, _, _, _, _, _, _, _, _, _, _, z⟩ := p
      exact z.elim
end

theorem vrs_ints {ι : List Addr} {h : Heap} : ∀ {vs : List Value} {ns : List Int}, IntsAre vs ns → VRs ι h (ns.map V.int) vs
  | _, _, .nil => .nil
  | _, _, .cons _ _ r => .cons (.int _ _) (vrs_ints r)

theorem topDef {c : C0} {a l : Addr} {ps : List Str} {body : List Stmt} {scope : Scope} {ns : List Int} {vs : List Value} {ρ' γ' : List (Str × V)} {s : Shared} (gr : Gr c) (hs : c.base = s.heap) (F : FnAt c a ps body scope) (hp1 : ps.length = 1)
    (hl : s.heap.IsList l vs.toArray) (hI : IntsAre vs ns)
    (hρ : ∀ x v, ρ'.lookup x = some v → scope.names.lookup x = some .local ∧ (ps.zip [V.ref 0]).lookup x = some v)
    (hγ : ∀ x v, γ'.lookup x = some v → scope.names.lookup x = some .cell ∧ (ps.zip [V.ref 0]).lookup x = some v)
    (h : WSs c { n := 1, kd := fun x => scope.names.lookup x, q := true } body ρ' γ' (fun fl _ _ _ => fl = .ret (.bool true)) (fun _ _ => False) [.ro (ns.map V.int)]) :
    codeAny c.M callerA (.call (.ref a) ⟨[.ref l], []⟩) (fun r s' => r = .ok (.ret (.bool true)) ∧ (∀ b o, s.heap.get? b = some o → s'.heap.get? b = some o) ∧ s'.os = s.os ∧ s'.gens = s.gens) s := by
  obtain ⟨o, fd, ho, hd, hb, rfl, hcl, hgl, hbl, hcd, hbind⟩ := F.there
  rw [hs] at ho hcd
  have hul : [Value.ref l].length = ps.length := by rw [hp1]; rfl
  have hkeys : ((ps.zip [Value.ref l]).map (·.1)).Nodup := by rw [zip_keys hul]; exact F.nd
  have hr : VRs [l] s.heap [V.ref 0] [Value.ref l] := .cons (.ref rfl) .nil
  refine codeAny_call_function (show callerA.depth < recursionLimit by decide) ho hd F.co F.gen hb hcd ?_
  rw [hbind _ hul, hcl]
  refine wpAny_pure (wpAny_newFunctionEnv_cells F.kind (fun x hx => ?_) fun env he s' x => ?_)
  · have hp : x.1 ∈ ps := by rw [← zip_keys hul]; exact List.mem_map_of_mem hx
    exact (F.par _ hp).imp id fun q => ⟨q, W.cellsFrom_some _ _ _ (.inl q)⟩
  obtain ⟨h₁, tk₁, rfl, hk₁⟩ := x.done
  have hL : env.locals = s.heap.objs.size := by rw [he]; rfl
  have hsc : env.scope = fd.scope := by rw [he]; rfl
  have hfr : env.frame = some s.heap.objs.size := by rw [he]; rfl
  have hkd : ∀ y, env.kindOf y = fd.scope.names.lookup y := fun y => by unfold Env.kindOf; rw [hsc]
  have hcells : env.cells = cellsFrom (s.heap.objs.size + 1) fd.scope.names [] := by rw [he]; rfl
  have hll : ∃ ob, s.heap.get? l = some ob := by obtain ⟨ob, e, _⟩ := hl; exact ⟨ob, e⟩
  have hnl' : ∀ b, s.heap.get? b = none → b ∉ [l] := fun b q z => by
    rw [List.mem_singleton.mp z] at q; obtain ⟨ob, e⟩ := hll; rw [e] at q; cases q
  have hnone : s.heap.get? s.heap.objs.size = none := none_above
  have hns := x.toInCall.ns
  rw [hL] at hns
  have hb0 : ∀ b, s.heap.get? b = none → c.base.get? b = none := fun b q => by rw [hs]; exact q
  have M0 : Mu [l] s.heap := fun a ha o' ho' => by
    rw [List.mem_singleton.mp ha] at ho'
    obtain ⟨ob, e, hc, n, hd⟩ := hl
    rw [e] at ho'; cases ho'
    exact ⟨by rw [hc]; decide, fun _ => by rw [hd]; exact fun q => nomatch q⟩
  have wc : Sit c { n := 1, kd := fun x => fd.scope.names.lookup x, q := true } { A := callerA.deeper env, fe := env, env := env, outer := [] } [l] ρ' γ' [.ro (ns.map V.int)] h₁ := {
    gr := gr
    base := fun b ob e => hk₁ b ob (hs ▸ e)
    stack := Around.frames_deeper rfl
    frames := by
      obtain ⟨oL, es, ep, hoL, hdL, _⟩ := hns
      exact ⟨by rw [hsc, F.kind]; decide, ⟨_, oL, hfr, hb0 _ hnone, hoL, fun vs q => (by rw [hdL] at q; cases q)⟩, trivial⟩
    fnotin := fun e he' L hL' => by
      rcases List.mem_cons.mp he' with rfl | he'
      · rw [hfr] at hL'; cases hL'; exact hnl' _ hnone
      · cases he'
    fdict := fun e he' L o hL' ho' => by
      rcases List.mem_cons.mp he' with rfl | he'
      · rw [hfr] at hL'; cases hL'
        obtain ⟨oL, es, ep, hoL, hdL, _⟩ := hns
        rw [ho'] at hoL; cases hoL
        exact ⟨es, ep, hdL⟩
      · cases he'
    depth := by show callerA.depth + 1 ≤ 310 + 4 * 1; decide
    units := by show callerA.units + 3 ≤ 50 + 20 * 1; decide
    lvl := by show 1 ≤ 50; omega
    quiet := fun q => rfl
    kind := by show env.scope.kind = _; rw [hsc]; exact F.kind
    kinds := hkd
    glob := by show env.globals = _; rw [he]; exact hgl
    blt := by show env.builtins = _; rw [he]; exact hbl
    frm := rfl
    loc := by
      refine ⟨_, by show h₁.Ns env.locals _; rw [hL]; exact hns, fun y v e => ?_⟩
      obtain ⟨e1, e2⟩ := hρ y v e
      obtain ⟨u, e3, e4⟩ := zip_lookup hr e2
      refine ⟨u, ?_, e4.mono M0 (.of_keeps hk₁)⟩
      rw [bindL_is, if_pos ((hkd y).trans e1), lookup_reverse hkeys, e3]; rfl
    locx := ⟨by show env.locals ∉ [l]; rw [hL]; exact hnl' _ hnone, by show c.base.get? env.locals = none; rw [hL]; exact hb0 _ hnone⟩
    cel := fun y v e => by
      obtain ⟨e1, e2⟩ := hγ y v e
      obtain ⟨u, e3, e4⟩ := zip_lookup hr e2
      have hs := W.cellsFrom_some (x := y) fd.scope.names (s.heap.objs.size + 1) [] (.inl e1)
      obtain ⟨b, hb'⟩ := Option.isSome_iff_exists.mp hs
      have hc := x.cell y b (by rw [hcells]; exact hb')
      rw [bindC_is, if_neg (by rw [hkd, e1]; decide), lookup_reverse hkeys, e3] at hc
      exact ⟨b, u, by show env.cells.lookup y = _; rw [hcells]; exact hb', hc, e4.mono M0 (.of_keeps hk₁)⟩
    celx := fun y b e => by
      have hb' := x.above y b (mem_of_lookup e)
      have hn2 : s.heap.get? b = none := Heap.get?_none_of_le (by rw [hL] at hb'; exact Nat.le_of_lt hb')
      exact ⟨hnl' _ hn2, Nat.ne_of_gt hb', hb0 _ hn2, _, x.cell y b e⟩
    celk := fun y e => by
      have hs := W.cellsFrom_some (x := y) fd.scope.names (s.heap.objs.size + 1) [] (.inl e)
      obtain ⟨b, hb'⟩ := Option.isSome_iff_exists.mp hs
      exact ⟨b, by show env.cells.lookup y = _; rw [hcells]; exact hb'⟩
    celd := fun y z b e1 e2 => name_of_addr x.apart (mem_of_lookup e1) (mem_of_lookup e2)
    len := rfl
    nd := by simp
    sto := fun i o a e1 e2 => by
      match i, e1, e2 with
      | 0, e1, e2 =>
        cases e1; cases e2
        exact ⟨vs, hl.at fun o q => hk₁ _ o q, vrs_ints hI⟩
      | i + 1, e1, e2 => simp at e1 }
  have hnl : h₁.NoLimit := (hs ▸ gr.nolimit : s.heap.NoLimit).keeps hk₁
  refine ⟨hnl, codeAny_func (wpAny_mono (h _ [l] { s with heap := h₁, toks := tk₁ } wc rfl) (fun fl s₂ p => ?_) fun ev s₂ p => ?_)⟩
  · obtain ⟨fl', ρ₂, γ₂, σ₂, ι₂, h₂, tk₂, rfl, A₂, w₂, r₂, rfl⟩ := p
    cases r₂ with
    | ret r =>
      cases r
      exact ⟨rfl, fun b ob e => w₂.base b ob (hs ▸ e), rfl, rfl⟩
  · obtain ⟨C, ea, hb, ρ₂, γ₂, σ₂, ι₂, h₂, tk₂, rfl, rfl, A₂, w₂, air, q⟩ := p
    exact q.elim

theorem iT {b : Bool} {A B : Prop} (h : b = true) (a : A) : if b = true then A else B := by rw [if_pos h]; exact a
theorem iN {b : Bool} {A B : Prop} (h : ¬ b = true) (a : B) : if b = true then A else B := by rw [if_neg h]; exact a
theorem iNT {A B : Prop} (a : B) : if (!true) = true then A else B := a
theorem iTF {A B : Prop} (a : A) : if (!false) = true then A else B := a
theorem nb {b : Bool} (h : b = false) : ¬ b = true := fun q => Bool.noConfusion (h.symm.trans q)
theorem dT {p : Prop} [Decidable p] (h : p) : decide p = true := decide_eq_true h
theorem dF {p : Prop} [Decidable p] (h : ¬ p) : ¬ decide p = true := fun q => h (of_decide_eq_true q)
theorem eT {a b : Int} (h : a = b) : (a == b) = true := beq_iff_eq.mpr h
theorem eF {a b : Int} (h : a ≠ b) : ¬ (a == b) = true := fun q => h (beq_iff_eq.mp q)
theorem nT {a b : Int} (h : a ≠ b) : (a != b) = true := by rw [bne_iff_ne]; exact h
theorem nF {a b : Int} (h : a = b) : ¬ (a != b) = true := fun q => (bne_iff_ne.mp q) h
theorem cT {k n : Nat} {z : Int} (h : k = n) (e : z = (n : Int)) : ((k : Int) == z) = true := by subst h e; exact beq_self_eq_true _
theorem cF {k n : Nat} {z : Int} (h : ¬ k = n) (e : z = (n : Int)) : ¬ ((k : Int) == z) = true := fun q => h (Int.ofNat.inj ((beq_iff_eq.mp q).trans e))
theorem l63 {n : Nat} (h : n ≤ 1000) : (n : Int) < 2 ^ 63 := by omega
theorem dn {n a b : Nat} (h : n < a) (e : a + 1 ≤ b := by decide) : n + 1 < b := Nat.lt_of_lt_of_le (Nat.succ_lt_succ h) e
theorem dm {n a b : Nat} (h : n < a) (e : a ≤ b := by decide) : n < b := Nat.lt_of_lt_of_le h e
def Sub (ρ₁ ρ : List (Str × V)) : Prop := ∀ x v, ρ₁.lookup x = some v → ρ.lookup x = some v
theorem Sub.refl (ρ : List (Str × V)) : Sub ρ ρ := fun _ _ e => e
theorem Sub.nil {ρ : List (Str × V)} : Sub [] ρ := fun _ _ e => by cases e
theorem Sub.cons {x : Str} {v : V} {r ρ : List (Str × V)} (h : ρ.lookup x = some v) (t : Sub r ρ) : Sub ((x, v) :: r) ρ := fun y u e => by
  rw [List.lookup_cons] at e
  cases q : y == x with
  | true => rw [q] at e; cases e; rw [show y = x by simpa using q]; exact h
  | false => rw [q] at e; exact t y u e

abbrev En := List (Str × V)
def J0 (ρ₁ γ₁ : En) (P : List O → Prop) : En → En → List O → Prop := fun ρ γ σ => ρ = ρ₁ ∧ γ = γ₁ ∧ P σ
def Par (kd : NameKind) (scope : Scope) (zs : En) (ρ : En) : Prop := ∀ x v, ρ.lookup x = some v → scope.names.lookup x = some kd ∧ zs.lookup x = some v
theorem Par.nil {kd : NameKind} {scope : Scope} {zs : En} : Par kd scope zs [] := fun _ _ e => by cases e
theorem Par.cons {kd : NameKind} {scope : Scope} {zs : En} {x : Str} {v : V} {r : En} (h1 : scope.names.lookup x = some kd) (h2 : zs.lookup x = some v) (t : Par kd scope zs r) : Par kd scope zs ((x, v) :: r) := fun y u e => by
  rw [List.lookup_cons] at e
  cases q : y == x with
  | true => rw [q] at e; cases e; rw [show y = x by simpa using q]; exact ⟨h1, h2⟩
  | false => rw [q] at e; exact t y u e

section
variable {c : C0} {S : Stt} {ρ γ ρ₁ γ₁ : List (Str × V)} {σ : List O} {Q Q' : Fl → List (Str × V) → List (Str × V) → List O → Prop} {QV : V → List O → Prop} {X : Addr → List O → Prop}

theorem WX.weaken {t : Env → Sem Flow} (h1 : Sub ρ₁ ρ) (h2 : Sub γ₁ γ) (p : WX c S t ρ₁ γ₁ Q X σ) : WX c S t ρ γ Q X σ := fun f ι s w e => p f ι s (w.weaken h1 h2) e

theorem stsJ {st : Stmt} {rest : List Stmt} (M : List (Str × V) → List (Str × V) → List O → Prop) (h : WS c S st ρ γ (fun fl ρ' γ' σ' => fl = .next ∧ ∃ ρ₁ γ₁, Sub ρ₁ ρ' ∧ Sub γ₁ γ' ∧ M ρ₁ γ₁ σ') X σ)
    (n : ∀ ρ γ σ, M ρ γ σ → WSs c S rest ρ γ Q X σ) : WSs c S (st :: rest) ρ γ Q X σ :=
  stsC (WX.imp h fun fl ρ' γ' σ' ⟨e, ρ₁, γ₁, h1, h2, m⟩ => by subst e; exact WX.weaken h1 h2 (n ρ₁ γ₁ σ' m))

theorem forL {x : Str} {px : Pos} {iter : Expr} {body rest : List Stmt} {pos : Pos} (hq : S.q = true) (hk : S.kd x = some .local)
    (h : WI c S iter ρ γ (fun vs Src σ₀ => ∃ J : Nat → List (Str × V) → List (Str × V) → List O → Prop, (∃ ρ₁ γ₁, Sub ρ₁ ρ ∧ Sub γ₁ γ ∧ J 0 ρ₁ γ₁ σ₀) ∧
      (∀ k v ρ γ σ, vs[k]? = some v → Src σ → J k ρ γ σ → WSs c S body (upd ρ x v) γ (Turn (Then c S rest Q X) fun ρ' γ' σ' => Src σ' ∧ ∃ ρ₁ γ₁, Sub ρ₁ ρ' ∧ Sub γ₁ γ' ∧ J (k + 1) ρ₁ γ₁ σ') (fun _ _ => False) σ) ∧
      (∀ ρ γ σ, Src σ → J vs.length ρ γ σ → WSs c S rest ρ γ Q X σ)) X σ)
    (hs : ∀ env x, foldedSetIterable iter env x = pure x := by intro _ _; rfl) : WSs c S (.For (.Name x px) iter body [] pos :: rest) ρ γ Q X σ := by
  refine stsC (sForL hq hk ?_ hs)
  refine fun f ι s w => wpAny_mono (h f ι s w) (fun _ _ p => wpAny_mono p (fun _ _ p => ?_) fun _ _ p => p) fun _ _ p => p
  obtain ⟨vs, Src, I, St, σ', ι', h', tk, e1, e2, A, w', itr, st, hI, src, ⟨J, ⟨ρ₁, γ₁, s1, s2, j0⟩, turn, fin⟩⟩ := p
  refine ⟨vs, Src, I, St, σ', ι', h', tk, e1, e2, A, w', itr, st, hI, src, ⟨fun k ρ γ σ => ∃ ρ₁ γ₁, Sub ρ₁ ρ ∧ Sub γ₁ γ ∧ J k ρ₁ γ₁ σ, ⟨ρ₁, γ₁, s1, s2, j0⟩, ?_, ?_⟩⟩
  · rintro k v ρ γ σ hv hsrc ⟨ρ₂, γ₂, t1, t2, j⟩
    refine WX.weaken (fun y u e => ?_) t2 (turn k v ρ₂ γ₂ σ hv hsrc j)
    rw [lookup_upd] at e ⊢
    split
    · rename_i q; rw [if_pos q] at e; exact e
    · rename_i q; rw [if_neg q] at e; exact t1 y u e
  · rintro ρ γ σ hsrc ⟨ρ₂, γ₂, t1, t2, j⟩
    exact WX.weaken t1 t2 (fin ρ₂ γ₂ σ hsrc j)
theorem forC {x : Str} {px : Pos} {iter : Expr} {body rest : List Stmt} {pos : Pos} (hq : S.q = true) (hk : S.kd x = some .cell)
    (h : WI c S iter ρ γ (fun vs Src σ₀ => ∃ J : Nat → List (Str × V) → List (Str × V) → List O → Prop, (∃ ρ₁ γ₁, Sub ρ₁ ρ ∧ Sub γ₁ γ ∧ J 0 ρ₁ γ₁ σ₀) ∧
      (∀ k v ρ γ σ, vs[k]? = some v → Src σ → J k ρ γ σ → WSs c S body ρ (upd γ x v) (Turn (Then c S rest Q X) fun ρ' γ' σ' => Src σ' ∧ ∃ ρ₁ γ₁, Sub ρ₁ ρ' ∧ Sub γ₁ γ' ∧ J (k + 1) ρ₁ γ₁ σ') (fun _ _ => False) σ) ∧
      (∀ ρ γ σ, Src σ → J vs.length ρ γ σ → WSs c S rest ρ γ Q X σ)) X σ)
    (hs : ∀ env x, foldedSetIterable iter env x = pure x := by intro _ _; rfl) : WSs c S (.For (.Name x px) iter body [] pos :: rest) ρ γ Q X σ := by
  refine stsC (sForC hq hk ?_ hs)
  refine fun f ι s w => wpAny_mono (h f ι s w) (fun _ _ p => wpAny_mono p (fun _ _ p => ?_) fun _ _ p => p) fun _ _ p => p
  obtain ⟨vs, Src, I, St, σ', ι', h', tk, e1, e2, A, w', itr, st, hI, src, ⟨J, ⟨ρ₁, γ₁, s1, s2, j0⟩, turn, fin⟩⟩ := p
  refine ⟨vs, Src, I, St, σ', ι', h', tk, e1, e2, A, w', itr, st, hI, src, ⟨fun k ρ γ σ => ∃ ρ₁ γ₁, Sub ρ₁ ρ ∧ Sub γ₁ γ ∧ J k ρ₁ γ₁ σ, ⟨ρ₁, γ₁, s1, s2, j0⟩, ?_, ?_⟩⟩
  · rintro k v ρ γ σ hv hsrc ⟨ρ₂, γ₂, t1, t2, j⟩
    refine WX.weaken t1 (fun y u e => ?_) (turn k v ρ₂ γ₂ σ hv hsrc j)
    rw [lookup_upd] at e ⊢
    split
    · rename_i q; rw [if_pos q] at e; exact e
    · rename_i q; rw [if_neg q] at e; exact t2 y u e
  · rintro ρ γ σ hsrc ⟨ρ₂, γ₂, t1, t2, j⟩
    exact WX.weaken t1 t2 (fin ρ₂ γ₂ σ hsrc j)

theorem callF {x : Str} {p pos : Pos} {e : Expr} {rest : List Expr} {a : Addr} {ps : List Str} {body : List Stmt} {scope : Scope} (hg : c.mg x = some (.ref a)) (F : FnAt c a ps body scope) (hk : S.kd x = some .globalImplicit)
    (h : WA c S pos (e :: rest) ρ γ (KL c S (fun us => call (.ref a) us) ρ γ QV X) X σ)
    (he : ∀ env, starEach (e :: rest) env = (false, eval e env) :: starEach rest env := by intro _; rfl) (hb : (x == ("__debug__" : Str)) = false := by decide)
    (hc : ∀ env, eval (.Call (.Name x p) (e :: rest) [] pos) env = (do callWith pos (← eval (.Name x p) env) [] (backTo pos (starEach (e :: rest) env)) (backToKw pos (keywordEach [] env))) := by intro _; rfl) :
    WE c S (.Call (.Name x p) (e :: rest) [] pos) ρ γ QV X σ := by
  obtain ⟨o, fd, ho, hd, _⟩ := F.there
  exact callFn hk hg ho hd h he hb hc
theorem callB {a : Addr} {ps : List Str} {body : List Stmt} {scope : Scope} {vs : List V} (ρ' γ' : En) (F : FnAt c a ps body scope) (hlen : vs.length = ps.length) (hn : S.n < 50)
    (hρ : Par .local scope (ps.zip vs) ρ') (hγ : Par .cell scope (ps.zip vs) γ')
    (h : WSs c (S.deeper scope) body ρ' γ' (fun fl _ _ σ' => QV (match fl with | .ret v => v | _ => .none) σ') X σ) : WL VR c S (fun us => call (.ref a) us) vs ρ γ QV X σ := callDef F hlen hn hρ hγ h
theorem WL.imp {Q Q' : V → List O → Prop} {k : List Value → Sem Value} {vs : List V} (h : WL VR c S k vs ρ γ Q X σ) (hQ : ∀ v σ', Q v σ' → Q' v σ') : WL VR c S k vs ρ γ Q' X σ := fun f ι s us w hr =>
  wpAny_mono (h f ι s us w hr) (fun _ _ ⟨v, σ', ι', h', tk, e, a, b, d, q⟩ => ⟨v, σ', ι', h', tk, e, a, b, d, hQ v σ' q⟩) fun _ _ p => p
end

theorem pre_get {σ σ' : List O} {i : Nat} {o : O} (h : σ <+: σ') (e : σ[i]? = some o) : σ'[i]? = some o := by
  obtain ⟨t, rfl⟩ := h
  rw [List.getElem?_append_left (List.getElem?_eq_some_iff.mp e).1]; exact e
theorem pre_snoc {σ σ' : List O} {o : O} (h : σ <+: σ') : σ <+: σ' ++ [o] := h.trans (List.prefix_append _ _)
theorem pre_set {σ σ' : List O} {o : O} {i : Nat} (h : σ <+: σ') (hi : σ.length ≤ i) : σ <+: σ'.set i o := by
  obtain ⟨t, rfl⟩ := h
  rw [List.set_append_right _ _ hi]; exact List.prefix_append _ _

def Tab (σ : List O) (i m n : Nat) (g : Nat → Nat → V) : Prop := ∃ rs : List V, σ[i]? = some (.list rs) ∧ rs.length = m ∧ ∀ k, k < m → ∃ r, rs[k]? = some (.ref r) ∧ r ≠ i ∧ σ[r]? = some (.list ((List.range n).map (g k)))
theorem Tab.pre {σ σ' : List O} {i m n : Nat} {g : Nat → Nat → V} (T : Tab σ i m n g) (h : σ <+: σ') : Tab σ' i m n g := by
  obtain ⟨rs, e, l, r⟩ := T
  exact ⟨rs, pre_get h e, l, fun k hk => let ⟨r, a, b, d⟩ := r k hk; ⟨r, a, b, pre_get h d⟩⟩
theorem Tab.congr {σ : List O} {i m n : Nat} {g g' : Nat → Nat → V} (T : Tab σ i m n g) (h : ∀ k j, k < m → j < n → g k j = g' k j) : Tab σ i m n g' := by
  obtain ⟨rs, e, l, r⟩ := T
  refine ⟨rs, e, l, fun k hk => let ⟨r, a, b, d⟩ := r k hk; ⟨r, a, b, ?_⟩⟩
  rw [d]
  refine congrArg (fun l => some (O.list l)) (List.map_congr_left fun j hj => h k j hk (List.mem_range.mp hj))
theorem Tab.nil {σ : List O} {i n : Nat} {g : Nat → Nat → V} (e : σ[i]? = some (.list [])) : Tab σ i 0 n g := ⟨[], e, rfl, fun k hk => absurd hk (Nat.not_lt_zero k)⟩
theorem get_set_ne {σ : List O} {i j : Nat} {o : O} (h : i ≠ j) : (σ.set i o)[j]? = σ[j]? := List.getElem?_set_ne h
theorem Tab.snoc {σ : List O} {i m n r : Nat} {g : Nat → Nat → V} {rs : List V} (T : Tab σ i m n g) (e : σ[i]? = some (.list rs)) (hr : σ[r]? = some (.list ((List.range n).map (g m)))) (hri : r ≠ i) : Tab (σ.set i (.list (rs ++ [.ref r]))) i (m + 1) n g := by
  obtain ⟨rs', e', l, h⟩ := T
  rw [e] at e'; cases e'
  have hi : i < σ.length := (List.getElem?_eq_some_iff.mp e).1
  refine ⟨rs ++ [.ref r], List.getElem?_set_self hi, by simp [l], fun k hk => ?_⟩
  by_cases q : k = m
  · subst q
    exact ⟨r, by rw [List.getElem?_append_right (by omega), l]; simp, hri, by rw [get_set_ne (Ne.symm hri)]; exact hr⟩
  · obtain ⟨r', a, b, d⟩ := h k (by omega)
    exact ⟨r', by rw [List.getElem?_append_left (by omega)]; exact a, b, by rw [get_set_ne (Ne.symm b)]; exact d⟩

section
variable {c : C0} {S : Stt} {ρ γ : List (Str × V)} {σ : List O} {Q : V → List O → Prop} {X : Addr → List O → Prop}

theorem tabRow {value slice : Expr} {i m n k : Nat} {g : Nat → Nat → V} (T : Tab σ i m n g) (hk : k < m) (hm : m ≤ 1000) (q : ∀ r, σ[r]? = some (.list ((List.range n).map (g k))) → Q (.ref r) σ)
    (hs : ∀ o i, subscripted slice false o i = operate [o, i] (getItem o i) := by intro _ _; with_unfolding_all rfl) : W2 VR c S (subscriptTail value slice) (.ref i) (.int (k : Int)) ρ γ Q X σ := by
  obtain ⟨rs, e, l, h⟩ := T
  obtain ⟨r, a, _, d⟩ := h k hk
  exact item_list e rfl (Int.natCast_nonneg _) (by simpa using a) (by omega) (q r d) hs
theorem rowItem {value slice : Expr} {r n k : Nat} {g : Nat → V} (e : σ[r]? = some (.list ((List.range n).map g))) (hk : k < n) (hm : n ≤ 1000) (q : Q (g k) σ)
    (hs : ∀ o i, subscripted slice false o i = operate [o, i] (getItem o i) := by intro _ _; with_unfolding_all rfl) : W2 VR c S (subscriptTail value slice) (.ref r) (.int (k : Int)) ρ γ Q X σ :=
  item_list e rfl (Int.natCast_nonneg _) (by simp [hk]) (by omega) q hs
theorem lenTab {i m n : Nat} {g : Nat → Nat → V} (T : Tab σ i m n g) (hm : m ≤ 1000) (q : Q (.int (m : Int)) σ) : WL VR c S (fun us => call (.builtin "len") us) [.ref i] ρ γ Q X σ := by
  obtain ⟨rs, e, l, h⟩ := T
  exact len_ref e rfl (by rw [l]; omega) (by rw [l]; exact q)
theorem lenRow {r n : Nat} {g : Nat → V} (e : σ[r]? = some (.list ((List.range n).map g))) (hm : n ≤ 1000) (q : Q (.int (n : Int)) σ) : WL VR c S (fun us => call (.builtin "len") us) [.ref r] ρ γ Q X σ :=
  len_ref e rfl (by simp; omega) (by simpa using q)
theorem item_tup0 {value slice : Expr} {l : List V} {v : V} (q : Q v σ)
    (hs : ∀ o i, subscripted slice false o i = operate [o, i] (getItem o i) := by intro _ _; with_unfolding_all rfl) : W2 VR c S (subscriptTail value slice) (.tup (v :: l)) (.int 0) ρ γ Q X σ := item_tup (by decide) rfl (by decide) q hs
theorem item_tup1 {value slice : Expr} {l : List V} {u v : V} (q : Q v σ)
    (hs : ∀ o i, subscripted slice false o i = operate [o, i] (getItem o i) := by intro _ _; with_unfolding_all rfl) : W2 VR c S (subscriptTail value slice) (.tup (u :: v :: l)) (.int 1) ρ γ Q X σ := item_tup (by decide) rfl (by decide) q hs
end

def Bd (n : Nat) (x : Int) : Prop := x.natAbs < 2 ^ n
theorem Bd.mono {m n : Nat} {x : Int} (h : Bd m x) (l : m ≤ n) : Bd n x := Nat.lt_of_lt_of_le h (Nat.pow_le_pow_right (by decide) l)
theorem Bd.mul {m n : Nat} {x y : Int} (h : Bd m x) (k : Bd n y) : Bd (m + n) (x * y) := by
  unfold Bd at *
  rw [Int.natAbs_mul, Nat.pow_add]
  exact Nat.mul_lt_mul'' h k
theorem Bd.add {n : Nat} {x y : Int} (h : Bd n x) (k : Bd n y) : Bd (n + 1) (x + y) := by
  unfold Bd at *
  rw [Nat.pow_succ]; omega
theorem Bd.sub {n : Nat} {x y : Int} (h : Bd n x) (k : Bd n y) : Bd (n + 1) (x - y) := by
  unfold Bd at *
  rw [Nat.pow_succ]; omega
theorem Bd.neg {n : Nat} {x : Int} (h : Bd n x) : Bd n (-x) := by unfold Bd at *; omega
theorem Bd.one : Bd 1 1 := by unfold Bd; decide
theorem Bd.sgn {n : Nat} {x : Int} (h : Bd n x) {s : Int} (hs : s = 1 ∨ s = -1) : Bd n (x * s) := by
  rcases hs with rfl | rfl
  · rw [Int.mul_one]; exact h
  · rw [Int.mul_neg, Int.mul_one]; exact h.neg
theorem Bd.of_mul_left {n : Nat} {x y : Int} (h : Bd n (x * y)) (hx : x ≠ 0) : Bd n y := by
  unfold Bd at *
  rw [Int.natAbs_mul] at h
  have : 1 ≤ x.natAbs := by omega
  exact Nat.lt_of_le_of_lt (Nat.le_mul_of_pos_left _ this) h
theorem bits_le {n : Nat} {x : Int} (h : Bd n x) : Builtin.Int.intBits x ≤ n := by
  unfold Builtin.Int.intBits
  split
  · omega
  · rename_i hx
    have h1 : x.natAbs ≠ 0 := by simpa using hx
    have := (Nat.log2_lt h1).mpr h
    omega
theorem mulOk {m n : Nat} {x y : Int} (h : Bd m x) (k : Bd n y) (l : m + n ≤ 100000) : IntMulOk x y := by
  have a := bits_le h
  have b := bits_le k
  have c : Builtin.Int.intTooBig (Builtin.Int.intBits x + Builtin.Int.intBits y) = false := by
    unfold Builtin.Int.intTooBig
    have hb : (100000 : Nat) ≤ bitsLine := by decide
    simp
    omega
  unfold IntMulOk; rw [c]; simp
theorem pylong {n : Nat} {x y : Int} (k : Bd n y) (l : n ≤ 9000) : Builtin.divisionGoesByPylong x y = false := by
  unfold Builtin.divisionGoesByPylong
  have : ¬ ((if y == 0 then 0 else y.natAbs.log2 / 30 + 1) > 300) := by
    split
    · decide
    · rename_i hx
      have h1 : y.natAbs ≠ 0 := by simpa using hx
      have := (Nat.log2_lt h1).mpr (Nat.lt_of_lt_of_le k (Nat.pow_le_pow_right (by decide) l))
      omega
  simp only [this, decide_false, Bool.false_and]

section
open PySem PySem.W PySem.Calls PySem.Spec PyProof.Rows Builtin Builtin.ObjectAttr Builtin.Getset_descriptor

def HasTy (h : Heap) (x D : Addr) : Prop := ∃ o, h.get? x = some o ∧ o.cls = .ref D
theorem HasTy.looks {M : Model} {h : Heap} {x D : Addr} (I : HasTy h x D) : Looks M h (typeOf (.ref x)) (.ref D) := by
  obtain ⟨o, ho, hc⟩ := I
  exact hc ▸ (Looks.ld ho).andThen .now
theorem data_find {K : Frag} {M : Model} {h : Heap} {x D : Addr} {name : Str} {g a : Value} (X : K.In h) (ha : findIn K (.ref D) name = some (some a)) (hg : specialIn K a "__get__" = some (some g)) (ht : takesIn K a = some true) :
    Looks M h (find (.ref x) (.ref D) name) (.bind g a) := by
  have L2 : Looks M h (getOf (some a)) (some g) := looks_specialIn X hg
  have L3 := looks_takesIn (M := M) X ht
  exact (looks_findIn X ha).andThen (L2.andThen ((show Looks M h (dataDescriptor? (some a) (some g)) (some (g, a)) from L3.andThen .now).andThen (Looks.tag .now)))

structure Pl (K : Frag) (D : Addr) : Prop where
  cls : (clsIn K D).isSome = true
  ga : findIn K (.ref D) "__getattribute__" = some (some (.builtin "BaseException.__getattribute__"))
  gh : findIn K (.ref D) "__getattr__" = some none
  at_ : findIn K (.ref D) "__class__" = some (some (.builtin "object.__class__"))
  ob : mroIn K D (.type "object") = some true
  bx : mroIn K D (.type "BaseException") = some true
  gt : specialIn K (.builtin "object.__class__") "__get__" = some (some (.builtin "getset_descriptor.__get__"))
  tk : takesIn K (.builtin "object.__class__") = some true

section
variable {prog : Program} {w : World} {A : Around} {E : Value → Shared → Prop} {s : Shared} {K : Frag} {x D : Addr}
theorem cls_code {R : Result → Shared → Prop} {tp : Value} (X : K.In s.heap) (I : HasTy s.heap x D) (hm : mroIn K D (.type "object") = some true)
    (h : R (.ok (.ret (.ref D))) s) : codeAny (model prog w) A (.call (.builtin "getset_descriptor.__get__") ⟨[.builtin "object.__class__", .ref x, tp], []⟩) R s := by
  obtain ⟨hh, g, dr, t, os⟩ := s
  have L0 := I.looks (M := model prog w)
  have L1 := looks_mroIn (M := model prog w) X hm
  refine codeAny_call_builtin KF.slot_gs.plain KF.entry_gs (KF.slot_gs.check _ _ _ _ _ _ _ _ KF.type_class (KF.args_gs _ _ _) ?_)
  unfold Builtin.«getset_descriptor.__get__» descrGet
  rw [dga_obj]
  refine wpAny_bind (wpAny_pure ?_)
  unfold descrGetter descrCheckInstance descrNameAndClass isInstance
  simp only [KF.owner_class]
  repeat lk
  refine ⟨Code.quiet_builtin _ (by decide +kernel), codeAny_builtin KF.entry_class ?_⟩
  unfold Builtin.«object.__class__» shownTypeOf
  repeat lk
  exact h
theorem ga_check {M : Model} {nameV : Value} {Q : Unit → Shared → Prop} (X : K.In s.heap) (I : HasTy s.heap x D) (hm : mroIn K D (.type "BaseException") = some true) (h : Q () s) : wpAny M A (checkBuiltinCall "BaseException.__getattribute__" ⟨[.ref x, nameV], []⟩) Q E s := by
  obtain ⟨hh, g, d, t, os⟩ := s
  have hk : builtinKind "BaseException.__getattribute__" = some .slot := by decide +kernel
  have hsplit : splitId "BaseException.__getattribute__" = some ("BaseException", "__getattribute__") := by decide +kernel
  have ha := F.args_bexc_ga (.ref x) nameV
  have L : Looks M hh (isInstance (.ref x) (.type "BaseException")) true := I.looks.andThen (looks_mroIn X hm)
  simp only [checkBuiltinCall, hk, hsplit]
  refine wpAny_bind (L.at ?_)
  repeat (first | wp_step)
  all_goals first | exact h | assumption
theorem cls_attr {Q : Option Value → Shared → Prop} (X : K.In s.heap) (I : HasTy s.heap x D) (P : Pl K D) (h : Q (some (.ref D)) { s with toks := s.toks + 1 }) : wpAny (model prog w) A (getAttr? (.ref x) "__class__") Q E s := by
  obtain ⟨hh, g, d, t, os⟩ := s
  have L0 := I.looks (M := model prog w)
  have L1 := looks_findIn (M := model prog w) X P.ga
  have L2 := data_find (M := model prog w) (x := x) X P.at_ P.gt P.tk
  have L3 := looks_findIn (M := model prog w) X P.gh
  unfold getAttr? getAttrBy? getAttrBy
  refine wpAny_bind (wpAny_mkText (wpAny_bind (wpAny_attempt (wpAny_holding (wpAny_bind (L0.at (wpAny_bind (L1.at ?_))))))))
  show wpAny _ _ (getAttrByItsOwn _ _ _ _ _ _) _ _ _
  unfold getAttrByItsOwn hookBefore
  refine wpAny_bind (L3.at ?_)
  refine wpAny_bind (wpAny_attempt (wpAny_holding ?_))
  show wpAny _ _ (boundAndCalled _ _ _) _ _ _
  unfold boundAndCalled
  rw [F.attr_ValueError.ga.bind]
  refine wpAny_bind (wpAny_pure ?_)
  refine wpAny_call (codeAny_call_builtin F.attr_ValueError.ga.plain F.entry_bexc_ga (ga_check (s := ⟨hh, g, d, t + 1, os⟩) X I P.bx ?_))
  unfold Builtin.«object.__getattribute__»
  refine wpAny_bind (wpAny_pure (wpAny_bind (wpAny_pure (wpAny_bind (L0.at (wpAny_bind (L2.at ?_)))))))
  show wpAny _ _ (holding [_] (call (.builtin "getset_descriptor.__get__") [.builtin "object.__class__", .ref x, .ref D]) >>= ret) _ _ _
  refine wpAny_bind (wpAny_holding (wpAny_call (cls_code (s := ⟨hh, g, d, t + 1, os⟩) X I P.ob ?_)))
  exact wpAny_pure (handed_on rfl (wpAny_pure h))
theorem isNo_nested {c : Value} {dep : Int} {tk : Tok} {Q : Fin → Shared → Prop} (X : K.In s.heap) (I : HasTy s.heap x D) (P : Pl K D) (hty : Looks (model prog w) s.heap (typeOf c) (.type "type")) (his : Looks (model prog w) s.heap (isType c) true)
    (hne : (Value.ref D == c) = false) (hsub : Looks (model prog w) s.heap (isSubtype (.ref D) c) false) (h : Q (.done (.ret (.bool false))) { s with toks := s.toks + 1 }) :
    wpAny (model prog w) A (Builtin.«isinstance.nested» ⟨[.ref x, c, .int dep tk], []⟩) Q E s := by
  have hisD : Looks (model prog w) s.heap (isType (.ref D)) true := by
    have hcD := P.cls
    unfold clsIn at hcD
    split at hcD
    · rename_i c' d' cd' sl' ho
      intro A' Q' E' s' k q
      unfold isType loadHead
      exact wpAny_bind (wpAny_loadPart (k _ _ (X _ _ ho)) (wpAny_pure q))
    · cases hcD
  obtain ⟨h0, g, d, tt, os⟩ := s
  have L0 := I.looks (M := model prog w)
  have LI : Looks (model prog w) h0 (isInstance (.ref x) c) false := L0.andThen hsub
  unfold Builtin.«isinstance.nested»
  refine wpAny_bind (L0.at ?_)
  rw [if_neg (fun q => by rw [hne] at q; exact Bool.noConfusion q)]
  refine wpAny_bind (hty.at ?_)
  rw [if_pos (by decide)]
  k_delta "plainIsInstance"
  refine wpAny_bind (wpAny_bind (his.at ?_))
  simp only [Bool.not_true, Bool.false_eq_true, if_false]
  refine wpAny_bind (LI.at ?_)
  simp only [Bool.false_eq_true, if_false]
  refine wpAny_bind (cls_attr X I P ?_)
  refine wpAny_bind (hisD.at ?_)
  simp only [Bool.not_true, Bool.false_eq_true, if_false]
  refine wpAny_bind (wpAny_rule ?_)
  refine hsub.at ?_
  first
    | exact wpAny_pure h
    | exact wpAny_pure (wpAny_pure h)
    | exact wpAny_bind (wpAny_pure (wpAny_pure h))
theorem isNo_call {c : Value} {Q : Value → Shared → Prop} (X : K.In s.heap) (I : HasTy s.heap x D) (P : Pl K D) (hty : ∀ (M : Model) h', K.In h' → Looks M h' (typeOf c) (.type "type")) (his : ∀ (M : Model) h', K.In h' → Looks M h' (isType c) true)
    (hne : (Value.ref D == c) = false) (hsub : ∀ (M : Model) h', K.In h' → Looks M h' (isSubtype (.ref D) c) false) (h : Q (.bool false) { s with toks := s.toks + 1 }) : wpAny (model prog w) A (call (.builtin "isinstance") [.ref x, c]) Q E s :=
  call_isinstance (S := fun _ R s => (K.In s.heap ∧ HasTy s.heap x D) ∧ R (.ok (.ret (.bool false))) { s with toks := s.toks + 1 })
    (fun _ _ _ _ _ hs => isinstance_outer (isNo_nested hs.1.1 hs.1.2 P (hty _ _ hs.1.1) (his _ _ hs.1.1) hne (hsub _ _ hs.1.1) hs.2) (by intro q; cases q)) ⟨⟨X, I⟩, h⟩
end

def IsNo (c : C0) (C : Addr) (t : Value) : Prop := ∀ {S : Stt} {ρ γ : List (Str × V)} {Q : V → List O → Prop} {X : Addr → List O → Prop} {σ : List O}, Q (.bool false) σ → W1 VR c S (fun u => call (.builtin "isinstance") [u, t]) (.exc C) ρ γ Q X σ
def IsYes (c : C0) (C : Addr) (t : Value) : Prop := ∀ {S : Stt} {ρ γ : List (Str × V)} {Q : V → List O → Prop} {X : Addr → List O → Prop} {σ : List O}, Q (.bool true) σ → W1 VR c S (fun u => call (.builtin "isinstance") [u, t]) (.exc C) ρ γ Q X σ

theorem isNo_of {c : C0} {K : Frag} {C D : Addr} (X : K.In c.base) (P : Pl K C) (e : kin_not K C D = true) : IsNo c C (.ref D) := by
  intro S ρ γ Q X' σ q f ι s u w hu
  cases hu with
  | exc ho hc hd =>
    have XK : K.In s.heap := fun b o h => w.base b o (X b o h)
    unfold kin_not at e
    rw [Bool.and_eq_true, Bool.and_eq_true, Bool.and_eq_true] at e
    obtain ⟨⟨⟨e0, e1⟩, e2⟩, e3⟩ := e
    refine isNo_call XK ⟨_, ho, hc⟩ P (fun _ h' X' => looks_typeIn X' (beq_iff_eq.mp e2)) (fun _ h' X' => ?_) ?_ (fun _ h' X' => looks_subIn X' (beq_iff_eq.mp e3)) (.tok w (.bool _) q)
    · unfold clsIn at e1
      split at e1
      · rename_i c' d' cd' sl' ho
        intro A' Q' E' s' k q
        unfold isType loadHead
        exact wpAny_bind (wpAny_loadPart (k _ _ (X' _ _ ho)) (wpAny_pure q))
      · cases e1
    · exact Bool.eq_false_iff.mpr fun q => of_decide_eq_true e0 (Value.ref.inj (beq_iff_eq.mp q))
theorem isYes_of {c : C0} {K : Frag} {C D : Addr} (X : K.In c.base) (e : isIn K (.ref C) D = true) : IsYes c C (.ref D) := by
  intro S ρ γ Q X' σ q f ι s u w hu
  cases hu with
  | exc ho hc hd =>
    have XK : K.In s.heap := fun b o h => w.base b o (X b o h)
    exact isi_call XK (fun M => HasTy.looks ⟨_, ho, hc⟩) e (by intro e; cases e) (PR.now w (.bool _) q)
theorem isYesT_nested {prog : Program} {w : World} {A : Around} {E : Value → Shared → Prop} {s : Shared} {K : Frag} {x D : Addr} {T : String} {dep : Int} {tk : Tok} {Q : Fin → Shared → Prop} (X : K.In s.heap) (I : HasTy s.heap x D) (hty : typeOf (.type T) = pure (.type "type"))
    (hsub : subIn K (.ref D) (.type T) = some true) (h : Q (.done (.ret (.bool true))) s) : wpAny (model prog w) A (Builtin.«isinstance.nested» ⟨[.ref x, .type T, .int dep tk], []⟩) Q E s := by
  obtain ⟨hh, g, d, tt, os⟩ := s
  have L0 := I.looks (M := model prog w)
  have L3 : Looks (model prog w) hh (isInstance (.ref x) (.type T)) true := L0.andThen (looks_subIn X hsub)
  unfold Builtin.«isinstance.nested»
  refine wpAny_bind (L0.at ?_)
  rw [if_neg (fun q => by cases beq_iff_eq.mp q)]
  rw [hty]
  refine wpAny_bind (wpAny_pure ?_)
  rw [if_pos (by decide)]
  k_delta "plainIsInstance"
  refine wpAny_bind (wpAny_bind (wpAny_pure ?_))
  simp only [Bool.not_true, Bool.false_eq_true, if_false]
  refine wpAny_bind (L3.at ?_)
  simp only [if_true]
  exact wpAny_pure (wpAny_pure h)
theorem isYesT_of {c : C0} {K : Frag} {C : Addr} {T : String} (X : K.In c.base) (hty : typeOf (.type T) = pure (.type "type")) (e : subIn K (.ref C) (.type T) = some true) : IsYes c C (.type T) := by
  intro S ρ γ Q X' σ q f ι s u w hu
  cases hu with
  | exc ho hc hd =>
    have XK : K.In s.heap := fun b o h => w.base b o (X b o h)
    exact call_isinstance (S := fun _ R s => (K.In s.heap ∧ HasTy s.heap _ C) ∧ R (.ok (.ret (.bool true))) s)
      (fun _ _ _ _ _ hs => isinstance_outer (isYesT_nested hs.1.1 hs.1.2 hty e hs.2) (by intro q; cases q)) ⟨⟨XK, _, ho, hc⟩, PR.now w (.bool _) q⟩
end

section
variable {c : C0} {S : Stt} {ρ γ : List (Str × V)} {σ : List O} {Q : V → List O → Prop} {QB : Bool → List O → Prop} {X : Addr → List O → Prop}

theorem chain2 {l r₁ r₂ : Expr} {op₁ op₂ : CmpOp} {pos : Pos}
    (h : WE c S l ρ γ (fun a σ₁ => WE c S r₁ ρ γ (fun b σ₂ => W2 VR c S (compareOp op₁) a b ρ γ (fun t σ₃ => W1 RB c S truthy t ρ γ (fun tb σ₄ => if tb = true then WE c S r₂ ρ γ (fun d σ₅ => W2 VR c S (compareOp op₂) b d ρ γ Q X σ₅) X σ₄ else Q t σ₄) X σ₃) X σ₂) X σ₁) X σ)
    (hm : lastMarks [op₁, op₂] [r₁, r₂] = false := by with_unfolding_all rfl) : WE c S (.Compare l [op₁, op₂] [r₁, r₂] pos) ρ γ Q X σ := fun f ι s w => by
  refine Compare_chain (rs := []) (wpAny_mono (h f ι s w) (fun ua s₁ p => ?_) fun _ _ p => p) hm
  obtain ⟨a, σ₁, ι₁, h₁, tk₁, rfl, A₁, w₁, va, q₁⟩ := p
  refine chain_link (wpAny_mono (q₁ f ι₁ _ w₁) (fun ub s₂ p => ?_) fun _ _ p => p.trans rfl A₁)
  obtain ⟨b, σ₂, ι₂, h₂, tk₂, rfl, A₂, w₂, vb, q₂⟩ := p
  refine wpAny_mono (q₂ f ι₂ { s with heap := h₂, toks := tk₂ } ua ub w₂ (va.mono w₁.mu A₂) vb) (fun ut s₃ p => ?_) fun _ _ p => p.trans rfl (A₁.trans A₂)
  obtain ⟨t, σ₃, ι₃, h₃, tk₃, rfl, A₃, w₃, vt, q₃⟩ := p
  refine wpAny_mono (q₃ f ι₃ { s with heap := h₃, toks := tk₃ } ut w₃ vt) (fun ub' s₄ p => ?_) fun _ _ p => p.trans rfl ((A₁.trans A₂).trans A₃)
  obtain ⟨tb, σ₄, ι₄, h₄, tk₄, rfl, A₄, w₄, rfl, q₄⟩ := p
  have A04 := ((A₁.trans A₂).trans A₃).trans A₄
  cases tb with
  | false => exact ⟨t, σ₄, ι₄, h₄, tk₄, rfl, A04, w₄, vt.mono w₃.mu A₄, q₄⟩
  | true =>
    refine chain_last (wpAny_mono (q₄ f ι₄ { s with heap := h₄, toks := tk₄ } w₄) (fun ud s₅ p => ?_) fun _ _ p => p.trans rfl A04)
    obtain ⟨d, σ₅, ι₅, h₅, tk₅, rfl, A₅, w₅, vd, q₅⟩ := p
    exact lift1 (A04.trans A₅) (q₅ f ι₅ _ ub ud w₅ (((vb.mono w₂.mu A₃).mono w₃.mu A₄).mono w₄.mu A₅) vd)
theorem tchain2 {l r₁ r₂ : Expr} {op₁ op₂ : CmpOp} {pos : Pos}
    (h : WE c S l ρ γ (fun a σ₁ => WE c S r₁ ρ γ (fun b σ₂ => W2 VR c S (compareOp op₁) a b ρ γ (fun t σ₃ => W1 RB c S truthy t ρ γ (fun tb σ₄ => if tb = true then WE c S r₂ ρ γ (fun d σ₅ => W2 VR c S (compareOp op₂) b d ρ γ (fun t₂ σ₆ => W1 RB c S truthy t₂ ρ γ QB X σ₆) X σ₅) X σ₄ else QB false σ₄) X σ₃) X σ₂) X σ₁) X σ)
    (hm : lastMarks [op₁, op₂] [r₁, r₂] = false := by with_unfolding_all rfl) : WB c S (.Compare l [op₁, op₂] [r₁, r₂] pos) ρ γ QB X σ := fun f ι s w => by
  refine isTrue_chain (rs := []) (wpAny_mono (h f ι s w) (fun ua s₁ p => ?_) fun _ _ p => p) hm
  obtain ⟨a, σ₁, ι₁, h₁, tk₁, rfl, A₁, w₁, va, q₁⟩ := p
  refine test_link (wpAny_mono (q₁ f ι₁ _ w₁) (fun ub s₂ p => ?_) fun _ _ p => p.trans rfl A₁)
  obtain ⟨b, σ₂, ι₂, h₂, tk₂, rfl, A₂, w₂, vb, q₂⟩ := p
  refine wpAny_mono (q₂ f ι₂ { s with heap := h₂, toks := tk₂ } ua ub w₂ (va.mono w₁.mu A₂) vb) (fun ut s₃ p => ?_) fun _ _ p => p.trans rfl (A₁.trans A₂)
  obtain ⟨t, σ₃, ι₃, h₃, tk₃, rfl, A₃, w₃, vt, q₃⟩ := p
  refine wpAny_mono (q₃ f ι₃ { s with heap := h₃, toks := tk₃ } ut w₃ vt) (fun ub' s₄ p => ?_) fun _ _ p => p.trans rfl ((A₁.trans A₂).trans A₃)
  obtain ⟨tb, σ₄, ι₄, h₄, tk₄, rfl, A₄, w₄, rfl, q₄⟩ := p
  have A04 := ((A₁.trans A₂).trans A₃).trans A₄
  cases tb with
  | false => exact ⟨false, σ₄, ι₄, h₄, tk₄, rfl, A04, w₄, rfl, q₄⟩
  | true =>
    refine test_last (wpAny_mono (q₄ f ι₄ { s with heap := h₄, toks := tk₄ } w₄) (fun ud s₅ p => ?_) fun _ _ p => p.trans rfl A04)
    obtain ⟨d, σ₅, ι₅, h₅, tk₅, rfl, A₅, w₅, vd, q₅⟩ := p
    refine wpAny_mono (q₅ f ι₅ { s with heap := h₅, toks := tk₅ } ub ud w₅ (((vb.mono w₂.mu A₃).mono w₃.mu A₄).mono w₄.mu A₅) vd) (fun ut s₆ p => ?_) fun _ _ p => p.trans rfl (A04.trans A₅)
    obtain ⟨t₂, σ₆, ι₆, h₆, tk₆, rfl, A₆, w₆, vt₂, q₆⟩ := p
    exact lift1 ((A04.trans A₅).trans A₆) (q₆ f ι₆ _ ut w₆ vt₂)

theorem all_bools {i : Nat} {o : O} {bs : List Bool} (h1 : σ[i]? = some o) (h2 : o.items? = some (bs.map V.bool)) (hq : S.q = true) (q : Q (.bool (bs.all id)) σ) : WL VR c S (fun us => call (.builtin "all") us) [.ref i] ρ γ Q X σ := fun f ι s us w hr => by
  cases hr with
  | cons r rs =>
    cases rs
    cases r with
    | ref hi =>
      rename_i a
      obtain ⟨us, hl, hv⟩ := w.items h1 h2 hi
      have hlt : a < s.heap.objs.size := by obtain ⟨_, e, _⟩ := hl; exact Heap.lt_size e
      have hlen : us.length = bs.length := by rw [hv.length]; simp
      refine call_all_walk (wpAny_pyIter_list hl ?_)
      refine ⟨_, _, _, _, _, _, fun k => (bs[k]?).getD false, rfl, Walks.list (A := f.A.in1) (w.quiet hq) s.heap.objs.size a (Nat.ne_of_lt hlt) us.toArray, ⟨⟨_, Heap.get?_push_size _ rfl, rfl, rfl⟩, hl.push _⟩, ?_, fun h' tk hk => ?_⟩
      · intro k v s' Q' E' hP hQ
        have hk : us[k]? = some v := by simpa using hP
        have hkb : k < bs.length := by rw [← hlen]; exact (List.getElem?_eq_some_iff.mp hk).1
        obtain ⟨u, e1, e2⟩ := hv.get (k := k) (v := .bool bs[k]) (by simp [hkb])
        rw [hk] at e1; cases e1
        cases e2
        refine wpAny_truthy_bool ?_
        dsimp only at hQ
        have : (bs[k]?).getD false = bs[k] := by simp [hkb]
        rw [this] at hQ
        exact hQ
      · have e : (List.range us.toArray.size).all (fun k => (bs[k]?).getD false) = bs.all id := by
          rw [List.size_toArray, hlen]
          rw [Bool.eq_iff_iff, List.all_eq_true, List.all_eq_true]
          constructor
          · intro g b hb
            obtain ⟨k, hk, rfl⟩ := List.mem_iff_getElem.mp hb
            have := g k (List.mem_range.mpr hk)
            simpa [hk] using this
          · intro g k hk
            have hk := List.mem_range.mp hk
            have := g bs[k] (List.getElem_mem hk)
            simpa [hk] using this
        rw [e]
        exact .here w (old_kept hk) (.bool _) q
theorem tuple_ref {i : Nat} {o : O} {l : List V} (h1 : σ[i]? = some o) (h2 : o.items? = some l) (hz : l.length ≤ sizeLine) (q : Q (.tup l) σ) : WL VR c S (fun us => call (.type "tuple") us) [.ref i] ρ γ Q X σ := fun f ι s us w hr => by
  cases hr with
  | cons r rs =>
    cases rs
    cases r with
    | ref hi =>
      obtain ⟨us, hl, hv⟩ := w.items h1 h2 hi
      refine call_tuple_list hl (fun h' k => ?_) (by rw [List.size_toArray, hv.length]; exact hz)
      exact PR.newTup w (fun b ob e => Heap.get?_push_of_some _ (k b ob e)) ⟨_, Heap.get?_push_size _ rfl, rfl, 0, rfl⟩ hv q
theorem in_tup {a : V} {l : List V} {da : PyData} {ds : List PyData} (ha : Rd σ a da) (hl : Rds σ l ds) (h1 : PyData.canLayAll0 ds = true) (h2 : da.canLay0 = true) (h3 : PyData.depthAll ds ≤ 60) (q : Q (.bool (ds.any fun y => PyData.eqv y da)) σ) : W2 VR c S (compareOp .In) a (.tup l) ρ γ Q X σ := fun f ι s u v w hu hv => by
  obtain ⟨as, ra⟩ := ha.reads w hu
  obtain ⟨bs, rb⟩ := (Rd.tup hl).reads w hv
  have hr := room64 w
  have : min (PyData.depthAll ds) da.depth ≤ PyData.depthAll ds := Nat.min_le_left _ _
  exact SeqAt.in_tuple_reads rb ra h1 h2 (by omega) (.now w (.bool _) q)
theorem min_ii {a b : Int} (hq : S.q = true) (q : Q (.int (if b < a then b else a)) σ) : WL VR c S (fun us => call (.builtin "min") us) [.int a, .int b] ρ γ Q X σ := fun f ι s us w hr => by
  cases hr with
  | cons r rs =>
    cases rs with
    | cons r₂ rs =>
      cases rs; cases r; cases r₂
      refine min_two_ints (w.quiet hq) fun h' tk k => ?_
      split
      · rename_i hb; rw [if_pos hb] at q; exact .here w k (.int _ _) q
      · rename_i hb; rw [if_neg hb] at q; exact .here w k (.int _ _) q

theorem itr_tup {I : Nat} {a : Addr} {l : List V} (hIr : True) : Itr c I l (fun _ => True) (fun k ι h => IsTupIter h I a k ∧ VR ι h (.tup l) (.ref a) ∧ a ≠ I) where
  frame := fun k ι h ι' h' st p kp hY => by
    obtain ⟨o, ho, hc, hd⟩ := st.1
    obtain ⟨Y, M, K⟩ := hY
    exact ⟨⟨o, kp o ho, hc, hd⟩, st.2.1.grow M p K, st.2.2⟩
  isrec := fun k ι h st => by obtain ⟨o, ho, hc, hd⟩ := st.1; exact ⟨o, _, ho, hd, fun C => by rw [hc]; exact fun q => nomatch q⟩
  item := fun S f ι ρ γ σ k s v Q E hv w src st n => by
    obtain ⟨h1, h2, h3⟩ := st
    cases h2 with
    | tup ht hr =>
      obtain ⟨u, e3, e4⟩ := hr.get hv
      refine next_tuple_item h1 ht (by simpa using e3) fun h' hit hs => ?_
      obtain ⟨oI, hoI, hcI, hdI⟩ := h1
      have M : MuX (· = I) s.heap := fun a' o' qa ho' => by
        subst qa; rw [hoI] at ho'; cases ho'
        exact ⟨fun _ its n z => (by rw [hdI] at z; cases z), fun vs z C => by rw [hcI]; exact fun q => nomatch q⟩
      have K : Kp (· = I) s.heap h' := fun b o' e n => ⟨o', hs.extBut b o' n e, .refl _⟩
      exact n u h' _ (e4.grow M ⟨[], by simp⟩ K) ⟨hit, VR.grow M ⟨[], by simp⟩ K (.tup ht hr), h3⟩ hs.extBut
  done := fun S f ι ρ γ σ s Q E w hq src st n => by
    obtain ⟨h1, h2, h3⟩ := st
    cases h2 with
    | tup ht hr =>
      exact next_tuple_end (w.quiet hq) h1 ht (by rw [List.getElem?_toArray, List.getElem?_eq_none (by rw [hr.length]; exact Nat.le_refl _)]) fun h' ext => n h' _ ext
  self := fun S f ι ρ γ σ s k Q E w st q => wpAny_pyIter_tupleiter st.1 q
theorem wiTup {iter : Expr} {Q : List V → (List O → Prop) → List O → Prop} (h : WE c S iter ρ γ (fun v σ' => ∃ l, v = .tup l ∧ Q l (fun _ => True) σ') X σ) : WI c S iter ρ γ Q X σ := fun f ι s w => by
  refine wpAny_mono (h f ι s w) (fun u s₁ p => ?_) fun _ _ p => p
  obtain ⟨v, σ₁, ι₁, h₁, tk₁, rfl, A₁, w₁, r₁, l, rfl, q⟩ := p
  cases r₁ with
  | tup ht hr =>
    rename_i a us
    have k : ∀ b ob, h₁.get? b = some ob → (h₁.push { cls := .type "tuple_iterator", data := .fields #[.ref a, .int 0 0] }).get? b = some ob := fun b ob e => Heap.get?_push_of_some _ e
    have hlt : a < h₁.objs.size := by obtain ⟨_, e, _⟩ := ht; exact Heap.lt_size e
    refine iter_tuple (s := { s with heap := h₁, toks := tk₁ }) ht ?_
    refine ⟨l, _, h₁.objs.size, _, σ₁, ι₁, _, tk₁, rfl, rfl, A₁.trans (.of_keeps k), w₁.keeps k, itr_tup (I := h₁.objs.size) (a := a) trivial, ⟨⟨_, Heap.get?_push_size _ rfl, rfl, rfl⟩, VR.mono w₁.mu (.of_keeps k) (.tup ht hr), Nat.ne_of_lt hlt⟩, ?_, trivial, q⟩
    exact none_after w A₁ w₁ (Nat.le_refl _)
end

noncomputable def txt (n : Int) : Str := Str.ofString (toString n)
theorem vrs_from {ι : List Addr} {h : Heap} : ∀ (l : List Str) (tk : Nat), VRs ι h (l.map V.str) (strsFrom tk l)
  | [], _ => .nil
  | x :: r, tk => .cons (.str x tk) (vrs_from r (tk + 1))
theorem vrs_strs {ι : List Addr} {h : Heap} : ∀ {l : List Str} {us : List Value}, VRs ι h (l.map V.str) us → ∃ p : List (Str × Tok), us = strValues p ∧ p.map (·.1) = l
  | [], _, .nil => ⟨[], rfl, rfl⟩
  | x :: r, _, .cons (.str _ t) y => by
    obtain ⟨p, rfl, rfl⟩ := vrs_strs y
    exact ⟨(x, t) :: p, rfl, rfl⟩

section
variable {c : C0} {S : Stt} {ρ γ : List (Str × V)} {σ : List O} {Q : V → List O → Prop} {QB : Bool → List O → Prop} {X : Addr → List O → Prop}

theorem add_ss {x y : Str} (hz : x.length + y.length ≤ sizeLine) (q : Q (.str (x ++ y)) σ) : W2 VR c S (binaryOp .Add) (.str x) (.str y) ρ γ Q X σ := fun f ι s u v w hu hv => by cases hu; cases hv; exact add_str (fun _ _ => .tok w (.str _ _) q) hz
theorem eq_ss {x y : Str} (q : Q (.bool (x == y)) σ) : W2 VR c S (compareOp .Eq) (.str x) (.str y) ρ γ Q X σ := fun f ι s u v w hu hv => by cases hu; cases hv; exact eq_str (.now w (.bool _) q)
theorem ne_ss {x y : Str} (q : Q (.bool (x != y)) σ) : W2 VR c S (compareOp .NotEq) (.str x) (.str y) ρ γ Q X σ := fun f ι s u v w hu hv => by cases hu; cases hv; exact ne_str (.now w (.bool _) q)
theorem in_ss {x : Str} {k : Nat} (q : Q (.bool (decide (k ∈ x.cps.toList))) σ) : W2 VR c S (compareOp .In) (.str ⟨#[k]⟩) (.str x) ρ γ Q X σ := fun f ι s u v w hu hv => by
  cases hu; cases hv; refine in_str ?_; rw [StrLaws.found_one]; exact .now w (.bool _) q
theorem nin_ss {x : Str} {k : Nat} (q : Q (.bool (!decide (k ∈ x.cps.toList))) σ) : W2 VR c S (compareOp .NotIn) (.str ⟨#[k]⟩) (.str x) ρ γ Q X σ := fun f ι s u v w hu hv => by
  cases hu; cases hv; refine notIn_str ?_; rw [StrLaws.found_one]; exact .now w (.bool _) q
theorem mul_si {x : Str} {n : Int} (hm : MulOk x n) (q : Q (.str (Txt.mul x n)) σ) : W2 VR c S (binaryOp .Mult) (.str x) (.int n) ρ γ Q X σ := fun f ι s u v w hu hv => by cases hu; cases hv; exact SB.mul hm (fun _ _ => .tok w (.str _ _) q)
abbrev isNone : V → Bool
  | .none => true
  | _ => false
theorem is_none {v : V} (q : Q (.bool (isNone v)) σ) : W2 VR c S (compareOp .Is) v .none ρ γ Q X σ := fun f ι s u u' w hu hv => by
  cases hv
  cases hu with
  | none => exact is_none_none (.now w (.bool _) q)
  | _ => exact is_none_ne (by intro z; cases z) (.now w (.bool _) q)

theorem len_s {x : Str} (hz : x.length ≤ sizeLine) (q : Q (.int x.length) σ) : WL VR c S (fun us => call (.builtin "len") us) [.str x] ρ γ Q X σ := fun f ι s us w hr => by
  have hz' : x.length ≤ 2 ^ 24 := hz
  cases hr with
  | cons r rs => cases rs; cases r; exact len_str (by omega) (.tok w (.int _ _) q)
theorem str_i {a : Int} (ha : a.natAbs.log2 < 1920) (q : Q (.str (txt a)) σ) : WL VR c S (fun us => call (.type "str") us) [.int a] ρ γ Q X σ := fun f ι s us w hr => by
  cases hr with
  | cons r rs => cases rs; cases r; exact P.str_of_int ha (.tok w (.str _ _) q)
theorem int_s {x : Str} {n : Int} (hn : intText? x = some n) (hl : x.length ≤ 640) (q : Q (.int n) σ) : WL VR c S (fun us => call (.type "int") us) [.str x] ρ γ Q X σ := fun f ι s us w hr => by
  cases hr with
  | cons r rs => cases rs; cases r; exact W.KIN.call_text hn hl (.tok w (.int _ _) q)
theorem starts_s {x y : Str} (q : Q (.bool (Txt.startswith x y)) σ) : WL VR c S (fun us => call (.builtin "str.startswith") us) [.str x, .str y] ρ γ Q X σ := fun f ι s us w hr => by
  cases hr with
  | cons r rs => cases rs with | cons r₂ rs => cases rs; cases r; cases r₂; exact SC.startswith (.now w (.bool _) q)
theorem join_s {x : Str} {i : Nat} {o : O} {l : List Str} (h1 : σ[i]? = some o) (h2 : o.items? = some (l.map V.str)) (hz : JoinOk x l = true) (q : Q (.str (Txt.join x l)) σ) : WL VR c S (fun us => call (.builtin "str.join") us) [.str x, .ref i] ρ γ Q X σ := fun f ι s us w hr => by
  cases hr with
  | cons r rs => cases rs with | cons r₂ rs =>
    cases rs; cases r
    cases r₂ with
    | ref hi =>
      obtain ⟨vs, hl, hv⟩ := w.items h1 h2 hi
      obtain ⟨p, rfl, hp⟩ := vrs_strs hv
      exact SC.join hl hp hz (fun _ _ => .tok w (.str _ _) q)
theorem split_s {x y : Str} (hz : x.length + 2 ≤ sizeLine) (hy : (y.length == 0) = false) (q : Q (.ref σ.length) (σ ++ [.list ((Txt.split x y).map V.str)])) : WL VR c S (fun us => call (.builtin "str.split") us) [.str x, .str y] ρ γ Q X σ := fun f ι s us w hr => by
  have hx : x.length ≤ sizeLine := Nat.le_trans (Nat.le_add_right _ 2) hz
  have hn : (Txt.split x y).length ≤ sizeLine := Nat.le_trans (split_le x y) hz
  cases hr with
  | cons r rs => cases rs with | cons r₂ rs =>
    cases rs
    cases r with | str _ t =>
    cases r₂ with | str _ u =>
    unfold Txt.split at q hn
    have new : ∀ (l : List V) (vs : List Value) (tk : Nat), VRs ι s.heap l vs → Q (.ref σ.length) (σ ++ [.list l]) → PR VR c S f ι ρ γ s Q (.ref s.heap.objs.size) { s with heap := s.heap.push { cls := .type "list", data := .seq vs.toArray }, toks := tk } := fun l vs tk r q =>
      PR.newList (n := 0) w (fun b ob e => Heap.get?_push_of_some _ e) none_above (Heap.get?_push_size _ rfl) r q
    cases h1 : (decide (x.length < y.length) || decide (Builtin.Str.strKind x < Builtin.Str.strKind y)) with
    | true =>
      rw [h1, if_pos rfl] at q
      exact call_meets F.slot_str_split (typeIs_str _ _ _) F.entry_str_split (F.args_str_split_2 _ _) (meets_str_split_cannot_occur x y t u h1) (new _ _ s.toks (.cons (.str x t) .nil) q)
    | false =>
      rw [h1, if_neg Bool.false_ne_true] at q hn
      cases hf : (Builtin.Str.occurrences x y 0 x.length (x.length + 1)).isEmpty with
      | true =>
        rw [hf, if_pos rfl] at q
        exact call_meets F.slot_str_split (typeIs_str _ _ _) F.entry_str_split (F.args_str_split_2 _ _) (meets_str_split_not_found x y t u h1 hy hf) (new _ _ s.toks (.cons (.str x t) .nil) q)
      | false =>
        rw [hf, if_neg Bool.false_ne_true] at q hn
        exact call_meets F.slot_str_split (typeIs_str _ _ _) F.entry_str_split (F.args_str_split_2 _ _) (meets_str_split_sep x y t u h1 hy hf hx hn) (new _ _ _ (vrs_from _ _) q)

theorem item_s {value slice : Expr} {x : Str} {k : Int} {ch : Nat} (h0 : 0 ≤ k) (hf : k < 2 ^ 63) (hx : x.cps[k.toNat]? = some ch) (q : Q (.str ⟨#[ch]⟩) σ)
    (hs : ∀ o i, subscripted slice false o i = operate [o, i] (getItem o i) := by intro _ _; with_unfolding_all rfl) : W2 VR c S (subscriptTail value slice) (.str x) (.int k) ρ γ Q X σ := fun f ι s u w' w hu hv => by
  cases hu; cases hv
  have hlt : k.toNat < x.length := (Array.getElem?_eq_some_iff.mp hx).1
  refine tail_any (typeIs_str _ _ _) F.slot_str_getitem.lookup (getItem_str (by simp; omega) (by rw [seqIndex_nonneg h0 (by omega)]; exact hx) (.tok w (.str _ _) q)) (hs _ _)
theorem item_neg {value slice : Expr} {i : Nat} {k : Int} {o : O} {l : List V} {v : V} (h1 : σ[i]? = some o) (h2 : o.items? = some l) (h0 : k < 0) (hk : -(l.length : Int) ≤ k) (hx : l[(k + l.length).toNat]? = some v) (hf : -(2 ^ 63) ≤ k) (q : Q v σ)
    (hs : ∀ o i, subscripted slice false o i = operate [o, i] (getItem o i) := by intro _ _; with_unfolding_all rfl) : W2 VR c S (subscriptTail value slice) (.ref i) (.int k) ρ γ Q X σ := fun f ι s u w' w hu hv => by
  cases hu with
  | ref hi =>
    cases hv
    obtain ⟨vs, hl, hr⟩ := w.items h1 h2 hi
    obtain ⟨u, e1, e2⟩ := hr.get hx
    have hz : vs.toArray.size = l.length := by rw [List.size_toArray, hr.length]
    exact tail_any hl.typeIs slot_list_getitem.lookup (wpAny_getItem_list_neg hl h0 (by rw [hz]; exact hk) hf (by rw [hz]; simpa using e1) (.now w e2 q)) (hs _ _)

theorem nin_tup {x : Str} {l : List Str} (q : Q (.bool (!l.any (· == x))) σ) : W2 VR c S (compareOp .NotIn) (.str x) (.tup (l.map V.str)) ρ γ Q X σ := fun f ι s u v w hu hv => by
  cases hu with | str _ t =>
  cases hv with
  | tup ht hr =>
    obtain ⟨p, rfl, rfl⟩ := vrs_strs hr
    refine SeqAt.notIn_tupleAt (fun y => match y with | .str a _ => a == x | _ => false) ht (fun y hy => ?_) ?_
    · obtain ⟨a, _, rfl⟩ := List.mem_map.mp (List.mem_toArray.mp hy)
      exact SeqAt.EqAt.str_str _ _ _ _
    · have e : (strValues p).toArray.any (fun y => match y with | .str a _ => a == x | _ => false) = (p.map (·.1)).any (· == x) := by
        rw [List.any_toArray, strValues, List.any_map, List.any_map]; rfl
      rw [e]; exact .now w (.bool _) q
theorem nin_list {x : Str} {l : List Str} {i : Nat} (h : σ[i]? = some (.list (l.map V.str))) (q : Q (.bool (!l.any (· == x))) σ) : W2 VR c S (compareOp .NotIn) (.str x) (.ref i) ρ γ Q X σ := fun f ι s u v w hu hv => by
  cases hu with | str _ t =>
  cases hv with
  | ref hi =>
    obtain ⟨vs, hl, hr⟩ := w.items h rfl hi
    obtain ⟨p, rfl, rfl⟩ := vrs_strs hr
    refine SeqAt.notIn_listAt (fun y => match y with | .str a _ => a == x | _ => false) hl (fun y hy => ?_) ?_
    · obtain ⟨a, _, rfl⟩ := List.mem_map.mp (List.mem_toArray.mp hy)
      exact SeqAt.EqAt.str_str _ _ _ _
    · have e : (strValues p).toArray.any (fun y => match y with | .str a _ => a == x | _ => false) = (p.map (·.1)).any (· == x) := by
        rw [List.any_toArray, strValues, List.any_map, List.any_map]; rfl
      rw [e]; exact .now w (.bool _) q
noncomputable def optV : Option Int → V
  | some z => .int z
  | none => .none
theorem eqNone {A : Around} {s : Shared} : SeqAt.EqAt A s .none .none true := fun prog w E Q h => by
  unfold eqBool
  refine wpAny_holding ?_
  refine wpAny_ite_split (fun _ => ?_) (fun hab => absurd rfl hab)
  exact wpAny_bind (wpAny_rule (wpAny_pure h))
theorem opts_in {ι : List Addr} {h : Heap} : ∀ {l : List (Option Int)} {us : List Value}, VRs ι h (l.map optV) us → us.any (fun y => y == Value.none) = l.any Option.isNone ∧ ∀ y ∈ us, y = .none ∨ ∃ a t, y = .int a t
  | [], _, .nil => ⟨rfl, fun _ h => by cases h⟩
  | none :: r, _, .cons .none y => by
    obtain ⟨e, q⟩ := opts_in y
    exact ⟨by rw [List.any_cons, List.any_cons, e]; rfl, fun y hy => (List.mem_cons.mp hy).elim .inl (q y)⟩
  | some z :: r, _, .cons (.int _ t) y => by
    obtain ⟨e, q⟩ := opts_in y
    exact ⟨by rw [List.any_cons, List.any_cons, e]; rfl, fun y hy => (List.mem_cons.mp hy).elim (fun e => .inr ⟨z, t, e⟩) (q y)⟩
theorem none_in {l : List (Option Int)} {i : Nat} (h : σ[i]? = some (.list (l.map optV))) (q : Q (.bool (l.any Option.isNone)) σ) : W2 VR c S (compareOp .In) .none (.ref i) ρ γ Q X σ := fun f ι s u v w hu hv => by
  cases hu
  cases hv with
  | ref hi =>
    obtain ⟨vs, hl, hr⟩ := w.items h rfl hi
    obtain ⟨e, hm⟩ := opts_in hr
    refine SeqAt.in_listAt (fun y => y == Value.none) hl (fun y hy => ?_) ?_
    · rcases hm y (List.mem_toArray.mp hy) with rfl | ⟨a, t, rfl⟩
      · exact eqNone
      · exact SeqAt.EqAt.int_none a t
    · rw [List.any_toArray, e]; exact .now w (.bool _) q

inductive KMs (c : C0) (S : Stt) (pos : Pos) (es : List Expr) (id : String) (ρ γ : List (Str × V)) (Q : V → List O → Prop) (X : Addr → List O → Prop) (ov : V) (σ₁ : List O) : Prop where
  | mk (x : Str) (e1 : ov = .str x) (h : WA c S pos es ρ γ (fun vs σ₂ => WL VR c S (fun us => call (.builtin id) us) (.str x :: vs) ρ γ Q X σ₂) X σ₁)
theorem methS {o e : Expr} {name : Str} {id : String} {apos pos : Pos} {rest : List Expr} {pl : Env → Sem Bool}
    (hg : ∀ {M : Model} {A : Around} {Q' : Value × List Value → Shared → Prop} {E' : Value → Shared → Prop} {s : Shared} {x : Str} {t : Tok} {p : Sem Bool}, Q' (.builtin id, [.str x t]) s → wpAny M A (getMethod (.str x t) name p) Q' E' s)
    (h : WE c S o ρ γ (KMs c S pos (e :: rest) id ρ γ Q X) X σ)
    (he : ∀ env, starEach (e :: rest) env = (false, eval e env) :: starEach rest env := by intro _; rfl) (hpl : ∀ env, (backTo pos (starEach rest env)).any (·.1) = false := by intro _; rfl)
    (hm : ∀ env, eval (.Call (.Attribute o name apos) (e :: rest) [] pos) env = (do
      let ov ← eval o env
      standAt apos.atName
      let (f, first) ← holding [ov] (getMethod ov name (pl env))
      callWith pos f first (backTo pos (starEach (e :: rest) env)) []) := by intro _; rfl) : WE c S (.Call (.Attribute o name apos) (e :: rest) [] pos) ρ γ Q X σ := by
  refine meth1 (W.imp h fun ov σ₁ p f ι s u w r => ?_) he hpl hm
  obtain ⟨x, rfl, g⟩ := p
  cases r with
  | str _ t =>
    refine ⟨id, fun Q' E' q => hg q, wpAny_mono (g f ι s w) (fun us s₁ p => ?_) fun _ _ p => p⟩
    obtain ⟨vs, σ₂, ι₂, h₂, tk₂, rfl, A₂, w₂, r₂, q⟩ := p
    exact lift1 A₂ (q f ι₂ _ _ w₂ (.cons (.str x t) r₂))

inductive KTo1 (Q : V → List O → Prop) (v kv : V) (σ₂ : List O) : Prop where
  | mk (x : Str) (k : Int) (e1 : v = .str x) (e2 : kv = .int k) (hz : x.length ≤ sizeLine) (q : Q (.str (Txt.slice x none (some k))) σ₂)
abbrev KTo (c : C0) (S : Stt) (e : Expr) (ρ γ : List (Str × V)) (Q : V → List O → Prop) (X : Addr → List O → Prop) : V → List O → Prop := fun v σ₁ => WE c S e ρ γ (KTo1 Q v) X σ₁
inductive KFr1 (Q : V → List O → Prop) (v kv : V) (σ₂ : List O) : Prop where
  | mk (x : Str) (k : Int) (e1 : v = .str x) (e2 : kv = .int k) (hz : x.length ≤ sizeLine) (q : Q (.str (Txt.slice x (some k) none)) σ₂)
abbrev KFr (c : C0) (S : Stt) (e : Expr) (ρ γ : List (Str × V)) (Q : V → List O → Prop) (X : Addr → List O → Prop) : V → List O → Prop := fun v σ₁ => WE c S e ρ γ (KFr1 Q v) X σ₁
theorem sliceTo {value e : Expr} {p pos : Pos} (h : WE c S value ρ γ (KTo c S e ρ γ Q X) X σ)
    (ht : ∀ o r, letTemporaryGo value o r = pure () := by intro _ _; rfl) : WE c S (.Subscript value (.Slice none (some e) none p) pos) ρ γ Q X σ := fun f ι s w => by
  refine wpAny_Subscript_str_slice (wpAny_mono (h f ι s w) (fun u s₁ p => ?_) fun _ _ p => p) ht
  obtain ⟨v, σ₁, ι₁, h₁, tk₁, rfl, A₁, w₁, r₁, q₁⟩ := p
  refine wpAny_pure ?_
  rw [evalPart_some]
  refine wpAny_mono (q₁ f ι₁ _ w₁) (fun uk s₂ p => ?_) fun _ _ p => p.trans rfl A₁
  obtain ⟨kv, σ₂, ι₂, h₂, tk₂, rfl, A₂, w₂, r₂, x, k, rfl, rfl, hz, q⟩ := p
  cases r₁ with | str _ t =>
  cases r₂ with | int _ t' =>
  refine ⟨x, t, none, some (k, t'), rfl, rfl, rfl, post_val_or_str ⟨Nat.le_trans (Txt.slice_le x _ _) hz, fun t'' kk => ?_⟩⟩
  exact PR.trans (s := s) (s₁ := { s with heap := h₂, toks := tk₂ }) (PR.here w₂ (fun b ob e => Heap.get?_push_of_some _ e) (.str _ _) q) rfl (A₁.trans A₂)
theorem sliceFr {value e : Expr} {p pos : Pos} (h : WE c S value ρ γ (KFr c S e ρ γ Q X) X σ)
    (ht : ∀ o r, letTemporaryGo value o r = pure () := by intro _ _; rfl) : WE c S (.Subscript value (.Slice (some e) none none p) pos) ρ γ Q X σ := fun f ι s w => by
  refine wpAny_Subscript_str_slice (wpAny_mono (h f ι s w) (fun u s₁ p => ?_) fun _ _ p => p) ht
  obtain ⟨v, σ₁, ι₁, h₁, tk₁, rfl, A₁, w₁, r₁, q₁⟩ := p
  rw [evalPart_some]
  refine wpAny_mono (q₁ f ι₁ _ w₁) (fun uk s₂ p => ?_) fun _ _ p => p.trans rfl A₁
  obtain ⟨kv, σ₂, ι₂, h₂, tk₂, rfl, A₂, w₂, r₂, x, k, rfl, rfl, hz, q⟩ := p
  refine wpAny_pure ?_
  cases r₁ with | str _ t =>
  cases r₂ with | int _ t' =>
  refine ⟨x, t, some (k, t'), none, rfl, rfl, rfl, post_val_or_str ⟨Nat.le_trans (Txt.slice_le x _ _) hz, fun t'' kk => ?_⟩⟩
  exact PR.trans (s := s) (s₁ := { s with heap := h₂, toks := tk₂ }) (PR.here w₂ (fun b ob e => Heap.get?_push_of_some _ e) (.str _ _) q) rfl (A₁.trans A₂)

theorem PR.newList2 {f : Fm} {ι : List Addr} {s : Shared} {tk : Nat} {us : List Value} {l : List V} {o1 : Obj} (w : Sit c S f ι ρ γ σ s.heap) (r : VRs ι s.heap l us) (q : Q (.ref σ.length) (σ ++ [.list l])) :
    PR VR c S f ι ρ γ s Q (.ref (s.heap.objs.size + 1)) { s with heap := (s.heap.push o1).push { cls := .type "list", data := .seq us.toArray }, toks := tk } := by
  refine PR.newList (n := 0) w (fun b ob e => Heap.get?_push_of_some _ (Heap.get?_push_of_some _ e)) (Heap.get?_none_of_le (Nat.le_succ _)) ?_ r q
  have : (s.heap.push o1).objs.size = s.heap.objs.size + 1 := Heap.size_push ..
  rw [← this]
  exact Heap.get?_push_size _ rfl
inductive KB21 (Q : V → List O → Prop) (v kv : V) (σ₂ : List O) : Prop where
  | mk (i : Nat) (o : O) (l : List V) (e1 : v = .ref i) (e2 : σ₂[i]? = some o) (e3 : o.items? = some l) (hz : l.length ≤ sizeLine) (e4 : kv = .int (-2)) (q : Q (.ref σ₂.length) (σ₂ ++ [.list (l.take (l.length - 2))]))
abbrev KB2 (c : C0) (S : Stt) (e : Expr) (ρ γ : List (Str × V)) (Q : V → List O → Prop) (X : Addr → List O → Prop) : V → List O → Prop := fun v σ₁ => WE c S e ρ γ (KB21 Q v) X σ₁
theorem sliceBut2 {value e : Expr} {p pos : Pos} (h : WE c S value ρ γ (KB2 c S e ρ γ Q X) X σ)
    (ht : ∀ o r, letTemporaryGo value o r = pure () := by intro _ _; rfl) : WE c S (.Subscript value (.Slice none (some e) none p) pos) ρ γ Q X σ := fun f ι s w => by
  refine wpAny_Subscript_list_slice (wpAny_mono (h f ι s w) (fun u s₁ p => ?_) fun _ _ p => p) ht
  obtain ⟨v, σ₁, ι₁, h₁, tk₁, rfl, A₁, w₁, r₁, q₁⟩ := p
  refine wpAny_pure ?_
  rw [evalPart_some]
  refine wpAny_mono (q₁ f ι₁ _ w₁) (fun uk s₂ p => ?_) fun _ _ p => p.trans rfl A₁
  obtain ⟨kv, σ₂, ι₂, h₂, tk₂, rfl, A₂, w₂, r₂, i, o, l, rfl, e1, e2, hz, rfl, q⟩ := p
  cases r₁ with
  | ref hi =>
    rename_i a
    have hi₂ : ι₂[i]? = some a := by obtain ⟨⟨t, rfl⟩, _⟩ := A₂; rw [List.getElem?_append_left (List.getElem?_eq_some_iff.mp hi).1]; exact hi
    obtain ⟨us, hl, hr⟩ := w₂.items e1 e2 hi₂
    cases r₂
    refine ⟨_, us.toArray, none, some (-((2 : Nat) : Int)), rfl, hl, by rw [List.size_toArray, hr.length]; exact hz, .none, .int _ _, ?_⟩
    rw [slicePick_butLast _ 2 (by decide)]
    have e : us.toArray.size - 2 = l.length - 2 := by rw [List.size_toArray, hr.length]
    rw [e]
    exact PR.trans (s := s) (s₁ := { s with heap := h₂, toks := tk₂ }) (PR.newList2 w₂ (hr.take (l.length - 2)) q) rfl (A₁.trans A₂)
theorem add_ll {i j : Nat} {l l' : List V} (h1 : σ[i]? = some (.list l)) (h2 : σ[j]? = some (.list l')) (hz : l.length + l'.length ≤ 1000) (q : Q (.ref σ.length) (σ ++ [.list (l ++ l')])) : W2 VR c S (binaryOp .Add) (.ref i) (.ref j) ρ γ Q X σ := fun f ι s u v w hu hv => by
  cases hu with
  | ref hi =>
    cases hv with
    | ref hj =>
      obtain ⟨us, n, ho, hr, _⟩ := w.sto i _ _ h1 hi
      obtain ⟨us', n', ho', hr', _⟩ := w.sto j _ _ h2 hj
      refine P.add_list ho ho' ?_ ?_
      · rw [List.append_toArray]
        exact PR.newList (n := 0) w (fun b ob e => Heap.get?_push_of_some _ e) none_above (Heap.get?_push_size _ rfl) (hr.append hr') q
      · rw [List.size_toArray, List.size_toArray, hr.length, hr'.length]; exact Nat.le_trans hz (by decide)

noncomputable def signs (x : Str) : List V := x.cps.toList.map fun c => V.str ⟨#[c]⟩
theorem signs_get {x : Str} {k : Nat} {v : V} (h : (signs x)[k]? = some v) : ∃ c, x.cps[k]? = some c ∧ v = .str ⟨#[c]⟩ := by
  unfold signs at h
  rw [List.getElem?_map] at h
  obtain ⟨c, e1, e2⟩ := Option.map_eq_some_iff.mp h
  exact ⟨c, by rw [← e1]; simp, e2.symm⟩
theorem itr_str {I : Nat} {x : Str} {t : Tok} {T : String} (hT : T = "str_ascii_iterator" ∨ T = "str_iterator") : Itr c I (signs x) (fun _ => True) (fun k ι h => h.IsStrIter I T x t k) where
  frame := fun k ι h ι' h' st p kp _ => by obtain ⟨o, ho, r⟩ := st; exact ⟨o, kp o ho, r⟩
  isrec := fun k ι h st => by obtain ⟨o, ho, hc, hd⟩ := st; exact ⟨o, _, ho, hd, fun C => by rw [hc]; exact fun q => nomatch q⟩
  item := fun S f ι ρ γ σ k s v Q E hv w src st n => by
    obtain ⟨ch, e1, rfl⟩ := signs_get hv
    rcases hT with rfl | rfl
    · exact wpAny_pyNext_ascii_item st e1 fun h' hit hs => n _ h' _ (.str _ _) hit hs.extBut
    · exact wpAny_pyNext_wide_item st e1 fun h' hit hs => n _ h' _ (.str _ _) hit hs.extBut
  done := fun S f ι ρ γ σ s Q E w hq src st n => by
    have e : x.cps[(signs x).length]? = none := by rw [signs, List.length_map]; simp
    rcases hT with rfl | rfl
    · exact wpAny_pyNext_ascii_end (w.quiet hq) st e fun h' ext => n h' _ ext
    · exact wpAny_pyNext_wide_end (w.quiet hq) st e fun h' ext => n h' _ ext
  self := fun S f ι ρ γ σ s k Q E w st q => by
    rcases hT with rfl | rfl
    · exact wpAny_pyIter_striter_ascii st q
    · exact wpAny_pyIter_striter_wide st q
inductive KWs (Q : List V → (List O → Prop) → List O → Prop) (v : V) (σ' : List O) : Prop where
  | mk (x : Str) (e1 : v = .str x) (q : Q (signs x) (fun _ => True) σ')
theorem wiStr {iter : Expr} {Q : List V → (List O → Prop) → List O → Prop} (h : WE c S iter ρ γ (KWs Q) X σ) : WI c S iter ρ γ Q X σ := fun f ι s w => by
  refine wpAny_mono (h f ι s w) (fun u s₁ p => ?_) fun _ _ p => p
  obtain ⟨v, σ₁, ι₁, h₁, tk₁, rfl, A₁, w₁, r₁, x, rfl, q⟩ := p
  cases r₁ with
  | str _ t =>
    have fin : ∀ T, T = "str_ascii_iterator" ∨ T = "str_iterator" → WIP c S f ι ρ γ s Q (.ref h₁.objs.size) { s with heap := h₁.push { cls := .type T, data := .fields #[.str x t, .int 0 0] }, toks := tk₁ } := fun T hT => by
      have k : ∀ b ob, h₁.get? b = some ob → (h₁.push { cls := .type T, data := .fields #[.str x t, .int 0 0] }).get? b = some ob := fun b ob e => Heap.get?_push_of_some _ e
      exact ⟨signs x, _, h₁.objs.size, _, σ₁, ι₁, _, tk₁, rfl, rfl, A₁.trans (.of_keeps k), w₁.keeps k, itr_str (t := t) hT, ⟨_, Heap.get?_push_size _ rfl, rfl, rfl⟩, none_after w A₁ w₁ (Nat.le_refl _), trivial, q⟩
    cases ha : x.cps.all (· < 128) with
    | true => exact wpAny_pyIter_ascii ha (fin _ (.inl rfl))
    | false => exact wpAny_pyIter_wide ha (fin _ (.inr rfl))
end

section
open PySem PySem.Calls PySem.Spec PyProof.Rows PySem.NumText

noncomputable def neg (w : Str) : Bool := w.cps.toList.head? == some 45
noncomputable def fg (w : Str) : Str := if neg w then ⟨w.cps.toList.tail.toArray⟩ else w
noncomputable def dig (c : Nat) : Bool := decide (48 ≤ c ∧ c ≤ 57)
noncomputable def val (w : Str) : Nat := digitsVal (fg w).cps.toList
noncomputable def sgn (w : Str) (n : Nat) : Int := if neg w then -(n : Int) else n
noncomputable def numOf (w : Str) (m : Int) : Option Int :=
  if (fg w).length = 0 ∨ 6 < (fg w).length ∨ (fg w).cps.toList.all dig = false then none
  else if (fg w).cps.toList.head? = some 48 ∧ (1 < (fg w).length ∨ neg w = true) then none
  else if m < (val w : Int) then none else some (sgn w (val w))

theorem str_ext {x y : Str} (h : x.cps.toList = y.cps.toList) : x = y := by cases x; cases y; simp only [Str.mk.injEq]; exact Array.toList_inj.mp h
theorem len_toList (x : Str) : x.cps.toList.length = x.length := Array.length_toList
theorem neg_starts (w : Str) : Txt.startswith w (Str.ofString "-") = neg w := by
  have h := StrLaws.subAt_one w 45 0
  have e : Str.ofString "-" = ⟨#[45]⟩ := by decide +kernel
  rw [e]
  unfold Txt.startswith neg
  rw [Bool.eq_iff_iff, Bool.and_eq_true, decide_eq_true_eq, beq_iff_eq, List.head?_eq_getElem?]
  exact h
theorem neg_slice (w : Str) : (Txt.slice w none (some 1) == Str.ofString "-") = neg w := by
  have e : Str.ofString "-" = ⟨#[45]⟩ := by decide +kernel
  obtain ⟨⟨l⟩⟩ := w
  rw [e]
  cases l with
  | nil => decide +kernel
  | cons a r =>
    rw [beq_iff_eq.mp (slice_closes_to (x := ⟨⟨a :: r⟩⟩) (j := 1) ⟨by decide, by simp; omega⟩)]
    unfold neg
    rw [Bool.eq_iff_iff, beq_iff_eq, beq_iff_eq]
    simp
theorem slice_tail {w : Str} (h : neg w = true) : Txt.slice w (some 1) none = ⟨w.cps.toList.tail.toArray⟩ := by
  obtain ⟨⟨l⟩⟩ := w
  cases l with
  | nil => simp [neg] at h
  | cons a r =>
    rw [slice_from_eq (x := ⟨⟨a :: r⟩⟩) (i := 1) (b := ((⟨⟨a :: r⟩⟩ : Str).length : Int)) (by decide) (by show (1 : Int) ≤ ((a :: r).length : Int); simp; omega) rfl]
    refine str_ext ?_
    have hl : ((⟨⟨a :: r⟩⟩ : Str).length : Int) = (r.length : Int) + 1 := by show (((a :: r).length : Nat) : Int) = _; simp
    rw [hl]
    have : ((r.length : Int) + 1 - 1).toNat = r.length := by omega
    rw [this]
    simp
theorem fg_neg {w : Str} (h : neg w = true) : fg w = Txt.slice w (some 1) none := by rw [slice_tail h]; unfold fg; rw [if_pos h]
theorem fg_pos {w : Str} (h : neg w = false) : fg w = w := by unfold fg; rw [h]; rfl
theorem neg_cons {w : Str} (h : neg w = true) : w.cps.toList = 45 :: (fg w).cps.toList := by
  unfold fg; rw [if_pos h]
  unfold neg at h
  rw [beq_iff_eq] at h
  cases e : w.cps.toList with
  | nil => rw [e] at h; cases h
  | cons a r => rw [e] at h; cases h; simp
theorem fg_ne (w : Str) : (fg w != w) = neg w := by
  cases h : neg w with
  | false => rw [fg_pos h]; simp
  | true =>
    have := neg_cons h
    rw [bne_iff_ne]
    intro e
    rw [e] at this
    exact absurd (congrArg List.length this) (by simp)
theorem fg_le (w : Str) : (fg w).length ≤ w.length := by
  cases h : neg w with
  | false => rw [fg_pos h]; exact Nat.le_refl _
  | true =>
    have := congrArg List.length (neg_cons h)
    rw [List.length_cons, len_toList, len_toList] at this
    omega
theorem digs {l : List Nat} (h : l.all dig = true) : AllDigits l := fun c hc => by
  have := List.all_eq_true.mp h c hc
  exact of_decide_eq_true this
theorem fig_mem (c : Nat) : decide (c ∈ (Str.ofString "0123456789").cps.toList) = dig c := by
  have e : (Str.ofString "0123456789").cps.toList = [48, 49, 50, 51, 52, 53, 54, 55, 56, 57] := by decide +kernel
  rw [e, dig, decide_eq_decide]
  simp only [List.mem_cons, List.not_mem_nil, or_false]
  omega
theorem foldl_pow : ∀ (cs : List Nat) (a : Nat), a * 10 ^ cs.length ≤ cs.foldl (fun acc c => acc * 10 + (c - 48)) a
  | [], a => by simp
  | c :: cs, a => by
    have h := foldl_pow cs (a * 10 + (c - 48))
    rw [List.foldl_cons, List.length_cons, Nat.pow_succ]
    refine Nat.le_trans ?_ h
    rw [Nat.mul_comm (10 ^ cs.length) 10, ← Nat.mul_assoc]
    exact Nat.mul_le_mul_right _ (Nat.le_add_right _ _)
theorem val_big {w : Str} (h5 : 4 < (fg w).length) (hd : (fg w).cps.toList.all dig = true) (h0 : (fg w).cps.toList.head? ≠ some 48) : 10000 ≤ val w := by
  unfold val
  rw [← len_toList] at h5
  have ha := digs hd
  cases e : (fg w).cps.toList with
  | nil => rw [e] at h5; cases h5
  | cons c cs =>
    rw [e] at h5 h0 ha
    have hc := ha.head
    have h49 : 1 ≤ c - 48 := by
      have : c ≠ 48 := fun q => h0 (by rw [q]; rfl)
      omega
    have hp := foldl_pow cs (0 * 10 + (c - 48))
    have : 10 ^ 4 ≤ 10 ^ cs.length := Nat.pow_le_pow_right (by decide) (by simp at h5; omega)
    show 10000 ≤ cs.foldl (fun acc c => acc * 10 + (c - 48)) (0 * 10 + (c - 48))
    refine Nat.le_trans (Nat.le_trans this ?_) hp
    rw [Nat.zero_mul, Nat.zero_add]
    exact Nat.le_mul_of_pos_left _ h49

theorem no_len0 {w : Str} {m : Int} (h : (fg w).length = 0) : numOf w m = none := by unfold numOf; rw [if_pos (.inl h)]
theorem no_len6 {w : Str} {m : Int} (h : 6 < (fg w).length) : numOf w m = none := by unfold numOf; rw [if_pos (.inr (.inl h))]
theorem no_dig {w : Str} {m : Int} (h : (fg w).cps.toList.all dig = false) : numOf w m = none := by unfold numOf; rw [if_pos (.inr (.inr h))]
theorem no_lead {w : Str} {m : Int} (h1 : (fg w).cps.toList.head? = some 48) (h2 : 1 < (fg w).length ∨ neg w = true) : numOf w m = none := by
  unfold numOf; split
  · rfl
  · rw [if_pos ⟨h1, h2⟩]
theorem no_out {w : Str} {m : Int} (h : m < (val w : Int)) : numOf w m = none := by
  unfold numOf; rw [if_pos h]; split
  · rfl
  · split <;> rfl
theorem no_len4 {w : Str} {m : Int} (hm : m < 10000) (h : 4 < (fg w).length) : numOf w m = none := by
  by_cases hd : (fg w).cps.toList.all dig = true
  · by_cases h0 : (fg w).cps.toList.head? = some 48
    · exact no_lead h0 (.inl (by omega))
    · exact no_out (by have := val_big h hd h0; omega)
  · exact no_dig (by simpa using hd)
theorem num_ok {w : Str} {m : Int} (h1 : (fg w).length ≠ 0) (h2 : (fg w).length ≤ 6) (h3 : (fg w).cps.toList.all dig = true) (h4 : ¬ ((fg w).cps.toList.head? = some 48 ∧ (1 < (fg w).length ∨ neg w = true))) (h5 : ¬ m < (val w : Int)) : numOf w m = some (sgn w (val w)) := by
  unfold numOf
  rw [if_neg (by rintro (q | q | q); exact h1 q; omega; rw [h3] at q; cases q), if_neg h4, if_neg h5]
theorem int_fg {w : Str} (h1 : (fg w).length ≠ 0) (h2 : (fg w).length ≤ 6) (h3 : (fg w).cps.toList.all dig = true) : intText? (fg w) = some ((val w : Nat) : Int) :=
  intText_digits (digs h3) (fun e => h1 (by rw [← len_toList, e]; rfl)) (by omega)
theorem int_w {w : Str} (h1 : (fg w).length ≠ 0) (h2 : (fg w).length ≤ 6) (h3 : (fg w).cps.toList.all dig = true) : intText? w = some (sgn w (val w)) := by
  have hne : (fg w).cps.toList ≠ [] := fun e => h1 (by rw [← len_toList, e]; rfl)
  cases h : neg w with
  | false =>
    have := int_fg h1 h2 h3
    rw [fg_pos h] at this
    rw [this]; unfold sgn; rw [h]; rfl
  | true =>
    have hc := neg_cons h
    have hl : w.length = (fg w).length + 1 := by rw [← len_toList, hc, List.length_cons, len_toList]
    rw [intText_neg hc (digs h3) hne (by omega)]
    unfold sgn val; rw [h]; rfl
theorem w_len {w : Str} (h2 : (fg w).length ≤ 6) : w.length ≤ 7 := by
  cases h : neg w with
  | false => rw [fg_pos h] at h2; omega
  | true =>
    have : w.length = (fg w).length + 1 := by rw [← len_toList, neg_cons h, List.length_cons, len_toList]
    omega
theorem sgn_in {w : Str} {m : Int} {n : Nat} (hm : 0 ≤ m) : (-m ≤ sgn w n ∧ sgn w n ≤ m) ↔ ¬ m < (n : Int) := by
  unfold sgn; split <;> omega
theorem head_get {x : Str} {c : Nat} (h : x.cps[0]? = some c) : x.cps.toList.head? = some c := by rw [List.head?_eq_getElem?]; simpa using h
theorem one_eq (a b : Nat) : ((⟨#[a]⟩ : Str) == ⟨#[b]⟩) = decide (a = b) := by
  rw [Bool.eq_iff_iff, beq_iff_eq, decide_eq_true_eq]
  exact ⟨fun h => by injection h with h; simpa using h, fun h => by rw [h]⟩
theorem nought : Str.ofString "0" = ⟨#[48]⟩ := by decide +kernel

noncomputable def okWord (x : Str) : Bool := [Str.ofString "most", Str.ofString "least"].any (· == x)
noncomputable def optsOf (ws : List Str) : List (Option Int) := (ws.take (ws.length - 2)).map (numOf · 50)
noncomputable def rd (ws : List Str) : Option (List Int × Str × Int) :=
  if ws.length < 3 ∨ 5 < ws.length then none
  else if okWord (ws.getD (ws.length - 2) Str.empty) = false then none
  else if (optsOf ws).any Option.isNone = true then none
  else match numOf (ws.getD (ws.length - 1) Str.empty) 2000 with
    | none => none
    | some b => some ((optsOf ws).filterMap id, ws.getD (ws.length - 2) Str.empty, b)
noncomputable def rdV : Option (List Int × Str × Int) → V
  | none => .none
  | some (ns, w, b) => .tup [.tup (ns.map V.int), .str w, .int b]
theorem opts_all : ∀ {l : List (Option Int)}, l.any Option.isNone = false → l = (l.filterMap id).map some
  | [], _ => rfl
  | none :: r, h => by simp at h
  | some z :: r, h => by
    rw [List.any_cons] at h
    have := opts_all (l := r) (by simpa using h)
    rw [List.filterMap_cons_some (f := id) (a := some z) (b := z) rfl, List.map_cons, ← this]
theorem opts_V {l : List (Option Int)} (h : l.any Option.isNone = false) : l.map optV = (l.filterMap id).map V.int := by
  conv => lhs; rw [opts_all h]
  rw [List.map_map]; rfl

theorem foldl_len (sep : Nat) : ∀ (l : List Str) (a B : Nat), (∀ x ∈ l, x.length ≤ B) → l.foldl (fun n x => n + x.length + sep) a ≤ a + l.length * (B + sep)
  | [], a, B, _ => by simp
  | x :: r, a, B, h => by
    have := foldl_len sep r (a + x.length + sep) B fun y hy => h y (.tail _ hy)
    have hx := h x (.head _)
    rw [List.foldl_cons, List.length_cons, Nat.succ_mul]
    omega
theorem joinOk {l : List Str} {B N : Nat} (h : ∀ x ∈ l, x.length ≤ B) (hn : l.length ≤ N) (hz : N * (B + 1) ≤ sizeLine) : JoinOk (Str.ofString " ") l = true ∧ (Txt.join (Str.ofString " ") l).length ≤ N * (B + 1) := by
  have e1 : (Str.ofString " ").length = 1 := by decide +kernel
  have f := foldl_len 1 l 0 B h
  have g : l.length * (B + 1) ≤ N * (B + 1) := Nat.mul_le_mul_right _ hn
  have key : l.toArray.foldl (· + ·.length + (Str.ofString " ").length) 0 ≤ N * (B + 1) := by
    rw [e1, List.foldl_toArray]; omega
  refine ⟨?_, ?_⟩
  · unfold JoinOk Builtin.Str.tooLong
    simp only [Bool.not_eq_true', decide_eq_false_iff_not]
    omega
  · have gl : ∀ (ps : List Str) (acc : Array Nat), (∀ x ∈ ps, x.length ≤ B) → (ps.foldl (fun acc p => acc ++ (Str.ofString " ").cps ++ p.cps) acc).size ≤ acc.size + ps.length * (B + 1) := by
      intro ps
      induction ps with
      | nil => intro acc _; simp
      | cons p r ih =>
        intro acc h
        have := ih (acc ++ (Str.ofString " ").cps ++ p.cps) fun y hy => h y (.tail _ hy)
        have hx : p.cps.size ≤ B := h p (.head _)
        have e2 : (Str.ofString " ").cps.size = 1 := e1
        rw [Array.size_append, Array.size_append, e2] at this
        rw [List.foldl_cons, List.length_cons, Nat.succ_mul]
        omega
    show (Builtin.Str.glued (Str.ofString " ") l).length ≤ _
    unfold Builtin.Str.glued
    cases l with
    | nil => exact Nat.zero_le _
    | cons p r =>
      have := gl r p.cps fun y hy => h y (.tail _ hy)
      have hx : p.cps.size ≤ B := h p (.head _)
      rw [List.length_cons, Nat.succ_mul] at g
      show (r.foldl (fun acc p => acc ++ (Str.ofString " ").cps ++ p.cps) p.cps).size ≤ _
      omega
theorem split_each {x y p : Str} (h : p ∈ Txt.split x y) : p.length ≤ x.length := by
  unfold Txt.split at h
  split at h
  · rw [List.mem_singleton.mp h]; exact Nat.le_refl _
  · split at h
    · rw [List.mem_singleton.mp h]; exact Nat.le_refl _
    · simp only [Builtin.Str.partsBetween, List.mem_map] at h
      obtain ⟨⟨i, j⟩, _, rfl⟩ := h
      exact strSub_length_le ..
theorem app_len (x y : Str) : (x ++ y).length = x.length + y.length := by
  show (x.cps ++ y.cps).size = _
  rw [Array.size_append]; rfl
theorem int_len {n : Int} (h1 : -2000 ≤ n) (h2 : n ≤ 2000) : (Str.ofString (toString n)).length ≤ 5 := by
  have := int_text_length_le10 (a := n) (k := 4) (by decide) (by omega)
  rw [PySem.ofString_length]; omega
theorem int_log {n : Int} (h1 : -2000 ≤ n) (h2 : n ≤ 2000) : n.natAbs.log2 < 1920 := by
  by_cases h : n.natAbs = 0
  · rw [h]; decide
  · have : n.natAbs.log2 < 11 := (Nat.log2_lt h).mpr (by omega)
    omega
end

noncomputable def nthS : List Stmt → Nat → Stmt
  | s :: _, 0 => s
  | _ :: r, n + 1 => nthS r n
  | [], _ => .Pass default
noncomputable def bodyOf : Stmt → List Stmt
  | .FunctionDef _ _ b _ _ _ _ _ _ _ => b
  | _ => []
noncomputable def scopeOf : Stmt → Scope
  | .FunctionDef _ _ _ _ _ _ s _ _ _ => s
  | _ => default
noncomputable def b02 (k : Nat) : List Stmt := bodyOf (nthS PySem.Challenge.pw_uf020023_02.main.body k)
noncomputable def s02 (k : Nat) : Scope := scopeOf (nthS PySem.Challenge.pw_uf020023_02.main.body k)

structure E02 (c : C0) (a : Nat → Addr) (tk : Nat → Tok) (bt : Addr) (k : Nat → Addr) : Prop where
  shown : c.mg "shown" = some (.ref (a 14)) ∧ FnAt c (a 14) ["row"] (b02 14) (s02 14)
  number : c.mg "number_of" = some (.ref (a 15)) ∧ FnAt c (a 15) ["word", "most"] (b02 15) (s02 15)
  read : c.mg "read" = some (.ref (a 16)) ∧ FnAt c (a 16) ["text"] (b02 16) (s02 16)
  cell : c.mg "_law_cell_at" = some (.ref (a 18)) ∧ FnAt c (a 18) ["_law_script", "_law_k"] (b02 18) (s02 18)
  whole : c.mg "_law_whole" = some (.ref (a 19)) ∧ FnAt c (a 19) ["_law_found"] (b02 19) (s02 19)
  numin : c.mg "_law_number_in" = some (.ref (a 20)) ∧ FnAt c (a 20) ["_law_word", "_law_most"] (b02 20) (s02 20)
  lread : c.mg "_law_read" = some (.ref (a 21)) ∧ FnAt c (a 21) ["_law_text_here"] (b02 21) (s02 21)
  odd : c.mg "_law_odd" = some (.ref (a 22)) ∧ FnAt c (a 22) ["_law_cell"] (b02 22) (s02 22)
  text : c.mg "_law_text" = some (.ref (a 23)) ∧ FnAt c (a 23) ["_law_text_here", "_law_kind", "_law_cell"] (b02 23) (s02 23)
  refused : c.mg "_law_refused" = some (.ref (a 24)) ∧ FnAt c (a 24) ["_law_text_here"] (b02 24) (s02 24)
  law : FnAt c (a 25) ["_law_script"] (b02 25) (s02 25)
  range : c.mg "range" = none
  len : c.mg "len" = none
  isi : c.mg "isinstance" = none
  int : c.mg "int" = none
  bool : c.mg "bool" = none
  tuple : c.mg "tuple" = none
  str : c.mg "str" = none
  all : c.mg "all" = none
  mUnk : c.mg "MOST_UNKNOWNS" = some (.int 3 (tk 0))
  mNum : c.mg "MOST_NUMBER" = some (.int 50 (tk 1))
  mBound : c.mg "MOST_BOUND" = some (.int 2000 (tk 2))
  figs : c.mg "FIGURES" = some (.str "0123456789" (tk 3))
  mFig : c.mg "MOST_FIGURES" = some (.int 4 (tk 4))
  bad : ExcAt c "BadText" bt
  k0 : c.mg "CutError" = some (.ref (k 0)) ∧ IsYes c bt (.ref (k 0))
  k1 : c.mg "BadProblem" = some (.ref (k 1)) ∧ IsNo c bt (.ref (k 1))
  k2 : c.mg "BadPoint" = some (.ref (k 2)) ∧ IsNo c bt (.ref (k 2))
  k3 : c.mg "BadBox" = some (.ref (k 3)) ∧ IsNo c bt (.ref (k 3))
  k4 : c.mg "BadWeights" = some (.ref (k 4)) ∧ IsNo c bt (.ref (k 4))
  k5 : c.mg "NoTurn" = some (.ref (k 5)) ∧ IsNo c bt (.ref (k 5))
  ve : c.mg "ValueError" = none ∧ IsYes c bt (.type "ValueError")

local macro_rules | `(tactic| walk_at "e") => `(tactic| first
  | ((with_reducible refine' name_L ?h1 ?h2 ?h4 ?h3); (case h1 => exact rfl); (case h2 => exact rfl); (case h3 => decide))
  | ((with_reducible refine' name_C ?h1 ?h2 ?h4 ?h3); (case h1 => exact rfl); (case h2 => exact rfl); (case h3 => decide))
  | ((with_reducible refine argsC ?h4 ?h1); (case h1 => intro _; exact rfl))
  | ((with_reducible refine mul_ii ?h1 ?h4); (case h1 => first | exact IntMulOk.of_left (by decide +kernel) | exact IntMulOk.of_right (by decide +kernel)))
  | ((with_reducible refine fmod_ii ?h1 ?h4); (case h1 => first | decide | omega))
  | ((with_reducible refine fdiv_ii ?h1 ?h2 ?h4); (case h1 => decide); (case h2 => exact pylong (n := 60) (by unfold Bd; decide) (by decide)))
  | ((with_reducible first | refine chain2 ?h4 ?h1 | refine tchain2 ?h4 ?h1 | refine cmp1 ?h4 ?h1 | refine tst1 ?h4 ?h1); (case h1 => with_unfolding_all exact rfl))
  | ((with_reducible first | refine item_tup0 ?h4 ?h1 | refine item_tup1 ?h4 ?h1); (case h1 => intro _ _; with_unfolding_all exact rfl))
  | with_reducible first
    | refine const_int ?_ | refine const_bool ?_ | refine const_none ?_ | refine const_str ?_ | refine binOp ?_ | refine unOp ?_ | refine subscr ?_ | refine lstD ?_ | refine tupD ?_ | refine args0 ?_
    | refine add_ii ?_ | refine sub_ii ?_ | refine neg_i ?_ | refine eq_ii ?_ | refine eq_ss ?_ | refine ne_ss ?_ | refine is_none ?_ | refine ne_ii ?_ | refine lt_ii ?_ | refine le_ii ?_ | refine gt_ii ?_ | refine tstNot ?_ | refine truth_bool ?_
    | refine tstAnd ?_ | refine tstOr ?_ | refine tstAnd0 ?_ | refine tstOr0 ?_ | refine iT rfl ?_ | refine iN (nb rfl) ?_ | refine iNT ?_ | refine iTF ?_
  | rw [Bool.not_true]
  | rw [Bool.not_false])
theorem szOk {j : Nat} (h : j ≤ 1000) : j ≤ sizeLine := Nat.le_trans h (by decide)
noncomputable def cellAt (ns : List Int) (k : Int) : Int := ((if 0 < ns.length then ns.getD (k.fmod ns.length).toNat 0 else 0) + 17 * k) * 48271 |>.fmod 1000003
noncomputable def okName (S : Stt) (scope : Scope) (y : Str × NameKind) : Bool := match y.2 with
  | .local => decide (scope.names.lookup y.1 = some .local)
  | .cell => false
  | .free => decide (S.kd y.1 = some .cell)
  | _ => true
theorem compOk {S : Stt} {scope : Scope} (hk : scope.kind = .function) (h : scope.names.all (okName S scope) = true) : CompOk S scope := by
  have g := List.all_eq_true.mp h
  refine ⟨hk, fun y hy e => ?_, fun y hy e => ?_, fun n hn => ?_⟩
  · have := g y hy; rw [okName, e] at this; exact of_decide_eq_true this
  · have := g y hy; rw [okName, e] at this; cases this
  · have := g _ hn; exact of_decide_eq_true this
theorem fm {F b : Int} (h : 0 < b) : 0 ≤ F.fmod b ∧ F.fmod b < b := ⟨Int.fmod_nonneg_of_pos F h, Int.fmod_lt_of_pos F h⟩

section
variable {c : C0} {S : Stt} {ρ γ : List (Str × V)} {σ : List O} {Q : V → List O → Prop} {X : Addr → List O → Prop} {a : Nat → Addr} {tk : Nat → Tok} {bt : Addr} {kk : Nat → Addr}

theorem mapBody {elt : Expr} {scope : Scope} {x : Str} {l : List V} {g : V → V} {Src : List O → Prop} {Qc : List V → List O → Prop} (hl : l.length ≤ sizeLine) (hsrc : ∀ σ', σ <+: σ' → Src σ')
    (helt : ∀ v ∈ l, ∀ σ', σ <+: σ' → ∀ Q : V → List O → Prop, (∀ σ'', σ' <+: σ'' → Q (g v) σ'') → WE c (S.comp scope) elt [(x, v)] (compCells γ scope) Q X σ')
    (q : ∀ σ', σ <+: σ' → Qc (l.map g) σ') : CompBody c S elt scope (fun v => [(x, v)]) γ X Qc l Src σ := by
  refine ⟨hl, fun k rs σ' => σ <+: σ' ∧ rs = (l.take k).map g, ⟨List.prefix_refl _, by simp⟩, ?_, ?_⟩
  · rintro k v rs σ' hv hs ⟨hpre, rfl⟩
    refine helt v (List.mem_of_getElem? hv) σ' hpre _ fun σ'' p'' => ⟨hsrc _ (hpre.trans p''), hpre.trans p'', ?_⟩
    rw [List.take_add_one, hv]
    simp
  · rintro rs σ' _ ⟨hpre, rfl⟩
    rw [List.take_length]
    exact q σ' hpre

theorem cell_ok (E : E02 c a tk bt kk) (hn : S.n < 40) {i : Nat} {k : Int} {o : O} {ns : List Int} (h1 : σ[i]? = some o) (h2 : o.items? = some (ns.map V.int)) (hl : ns.length ≤ 63) (q : Q (.int (cellAt ns k)) σ) :
    WL VR c S (fun us => call (.ref (a 18)) us) [.ref i, .int k] ρ γ Q X σ := by
  refine callB [("_law_script", .ref i), ("_law_k", .int k)] [] E.cell.2 rfl (dm hn) (by repeat (first | exact Par.nil | refine Par.cons rfl rfl ?_)) (by repeat (first | exact Par.nil | refine Par.cons rfl rfl ?_)) ?_
  obtain ⟨w, hw⟩ : ∃ w, w = if 0 < ns.length then ns.getD (k.fmod ns.length).toNat 0 else 0 := ⟨_, rfl⟩
  have hc : cellAt ns k = ((w + 17 * k) * 48271).fmod 1000003 := by rw [cellAt, ← hw]
  (refine stsC ?_; first | ((with_reducible refine sAssL ?ha1 ?hd1 ?hb1); (case ha1 => exact rfl); (case hb1 => intro _; exact rfl)) | ((with_reducible refine sAssC ?ha1 ?hd1 ?hb1); (case ha1 => exact rfl); (case hb1 => intro _; exact rfl)) | (with_reducible first | refine sRet ?_ | refine sIf ?_) | ((with_reducible refine sExpr ?hd1 ?hb1); (case hb1 => intro _; exact rfl)))
  repeat walk_at "e"
  refine stsJ (J0 [("_law_k", .int k), ("_law_cell", .int w)] [] fun σ' => σ' = σ) ?_ ?_
  · refine sIf ?_
    repeat walk_at "e"
    refine callBu rfl E.len Boot.«len» (by decide) ?_
    repeat walk_at "e"
    refine len_ref h1 h2 (by simp; omega) ?_
    repeat walk_at "e"
    by_cases hp : 0 < ns.length
    · rw [if_pos hp] at hw
      refine iT (by first | exact dT hp | exact eT hp | exact nT hp | simpa using hp) ?_
      (refine stsC ?_; first | ((with_reducible refine sAssL ?ha2 ?hd2 ?hb2); (case ha2 => exact rfl); (case hb2 => intro _; exact rfl)) | ((with_reducible refine sAssC ?ha2 ?hd2 ?hb2); (case ha2 => exact rfl); (case hb2 => intro _; exact rfl)) | (with_reducible first | refine sRet ?_ | refine sIf ?_) | ((with_reducible refine sExpr ?hd2 ?hb2); (case hb2 => intro _; exact rfl)))
      repeat walk_at "e"
      refine callBu rfl E.len Boot.«len» (by decide) ?_
      repeat walk_at "e"
      refine len_ref h1 h2 (by simp; omega) ?_
      rw [List.length_map]
      refine fmod_ii (by omega) ?_
      have f0 : 0 ≤ k.fmod ns.length := Int.fmod_nonneg_of_pos _ (by omega)
      have f1 : k.fmod ns.length < ns.length := Int.fmod_lt_of_pos _ (by omega)
      refine item_list (v := .int w) h1 h2 f0 ?_ (by omega) ?_
      · have : (k.fmod ns.length).toNat < ns.length := by omega
        rw [hw]; simp [this]
      · exact sts0 ⟨rfl, _, _, by repeat (first | exact Sub.nil | refine Sub.cons rfl ?_), by repeat (first | exact Sub.nil | refine Sub.cons rfl ?_), rfl, rfl, rfl⟩
    · rw [if_neg hp] at hw
      refine iN (by simpa using hp) ?_
      rw [hw]
      exact sts0 ⟨rfl, _, _, by repeat (first | exact Sub.nil | refine Sub.cons rfl ?_), by repeat (first | exact Sub.nil | refine Sub.cons rfl ?_), rfl, rfl, rfl⟩
  · rintro _ _ _ ⟨rfl, rfl, rfl⟩
    (refine stsC ?_; first | ((with_reducible refine sAssL ?ha3 ?hd3 ?hb3); (case ha3 => exact rfl); (case hb3 => intro _; exact rfl)) | ((with_reducible refine sAssC ?ha3 ?hd3 ?hb3); (case ha3 => exact rfl); (case hb3 => intro _; exact rfl)) | (with_reducible first | refine sRet ?_ | refine sIf ?_) | ((with_reducible refine sExpr ?hd3 ?hb3); (case hb3 => intro _; exact rfl)))
    repeat walk_at "e"
    exact hc ▸ q

theorem whole_ok (E : E02 c a tk bt kk) (hn : S.n < 45) {z : Int} (q : Q (.bool true) σ) : WL VR c S (fun us => call (.ref (a 19)) us) [.int z] ρ γ Q X σ := by
  refine callB [("_law_found", .int z)] [] E.whole.2 rfl (dm hn) (by repeat (first | exact Par.nil | refine Par.cons rfl rfl ?_)) (by repeat (first | exact Par.nil | refine Par.cons rfl rfl ?_)) ?_
  (refine stsC ?_; first | ((with_reducible refine sAssL ?ha4 ?hd4 ?hb4); (case ha4 => exact rfl); (case hb4 => intro _; exact rfl)) | ((with_reducible refine sAssC ?ha4 ?hd4 ?hb4); (case ha4 => exact rfl); (case hb4 => intro _; exact rfl)) | (with_reducible first | refine sRet ?_ | refine sIf ?_) | ((with_reducible refine sExpr ?hd4 ?hb4); (case hb4 => intro _; exact rfl)))
  refine boolAnd ?_
  refine callIsi rfl E.isi rfl E.int Boot.«int» (by decide) ?_
  repeat walk_at "e"
  refine isi_ty (T := .int) trivial ?_
  repeat walk_at "e"
  refine boolOp1 ?_
  repeat walk_at "e"
  refine callIsi rfl E.isi rfl E.bool Boot.«bool» (by decide) ?_
  repeat walk_at "e"
  refine isi_ty (T := .bool) trivial ?_
  exact not_b q

noncomputable def told (ns : List Int) (w : Str) (b : Int) : Str := Txt.join " " (ns.map txt ++ [w, txt b])
def In (lo hi : Int) (ns : List Int) : Prop := ∀ n ∈ ns, lo ≤ n ∧ n ≤ hi
noncomputable def asTxt : V → V
  | .int n => .str (txt n)
  | v => v
theorem map_txt (ns : List Int) : (ns.map V.int).map asTxt = (ns.map txt).map V.str := by rw [List.map_map, List.map_map]; rfl
theorem words_ok {ns : List Int} {w : Str} {b : Int} (hn : ns.length ≤ 3) (hI : In (-50) 50 ns) (hw : w.length ≤ 5) (hb : -2000 ≤ b ∧ b ≤ 2000) : JoinOk (Str.ofString " ") (ns.map txt ++ [w, txt b]) = true ∧ (told ns w b).length ≤ 30 := by
  refine joinOk (B := 5) (N := 5) (fun x hx => ?_) (by simp; omega) (by decide)
  rcases List.mem_append.mp hx with q | q
  · obtain ⟨n, h, rfl⟩ := List.mem_map.mp q
    have := hI n h
    exact int_len (by omega) (by omega)
  · rcases List.mem_cons.mp q with rfl | q
    · exact hw
    · rw [List.mem_singleton.mp q]; exact int_len hb.1 hb.2
theorem told_pos {ns : List Int} {w : Str} {b : Int} : 1 ≤ (told ns w b).length := by
  have g : ∀ (ps : List Str) (acc : Array Nat), acc.size ≤ (ps.foldl (fun acc p => acc ++ (Str.ofString " ").cps ++ p.cps) acc).size := by
    intro ps
    induction ps with
    | nil => intro acc; exact Nat.le_refl _
    | cons p r ih => intro acc; refine Nat.le_trans ?_ (ih _); rw [Array.size_append, Array.size_append]; omega
  have e1 : (Str.ofString " ").cps.size = 1 := by decide +kernel
  have key : ∀ (p : Str) (r : List Str), r ≠ [] → 1 ≤ (Builtin.Str.glued (Str.ofString " ") (p :: r)).length := by
    intro p r hr
    cases r with
    | nil => exact absurd rfl hr
    | cons q r =>
      refine Nat.le_trans ?_ (g r _)
      rw [Array.size_append, Array.size_append, e1]; omega
  unfold told Txt.join
  cases ns with
  | nil => exact key _ _ (by simp)
  | cons n r => exact key _ _ (by simp)

theorem shown_ok (E : E02 c a tk bt kk) (hn : S.n < 40) (hq : S.q = true) {ns : List Int} {w : Str} {b : Int} (hl : ns.length ≤ 3) (hI : In (-50) 50 ns) (hw : w.length ≤ 5) (hb : -2000 ≤ b ∧ b ≤ 2000) (q : ∀ σ', σ <+: σ' → Q (.str (told ns w b)) σ') :
    WL VR c S (fun us => call (.ref (a 14)) us) [.tup [.tup (ns.map V.int), .str w, .int b]] ρ γ Q X σ := by
  refine callB [("row", .tup [.tup (ns.map V.int), .str w, .int b])] [] E.shown.2 rfl (dm hn) (by repeat (first | exact Par.nil | refine Par.cons rfl rfl ?_)) (by repeat (first | exact Par.nil | refine Par.cons rfl rfl ?_)) ?_
  (refine stsC ?_; first | ((with_reducible refine sAssL ?ha5 ?hd5 ?hb5); (case ha5 => exact rfl); (case hb5 => intro _; exact rfl)) | ((with_reducible refine sAssC ?ha5 ?hd5 ?hb5); (case ha5 => exact rfl); (case hb5 => intro _; exact rfl)) | (with_reducible first | refine sRet ?_ | refine sIf ?_) | ((with_reducible refine sExpr ?hd5 ?hb5); (case hb5 => intro _; exact rfl)))
  refine binOp ?_
  refine compN hq (compOk rfl rfl) rfl ?_
  refine wiTup ?_
  repeat walk_at "e"
  refine ⟨_, rfl, mapBody (g := asTxt) (by rw [List.length_map]; exact szOk (by omega)) (fun _ _ => trivial) (fun v hv σ' p' Q' q' => ?_) fun σ' p' => ?_⟩
  · obtain ⟨n, h, rfl⟩ := List.mem_map.mp hv
    have := hI n h
    refine callTy rfl E.str Boot.«str» (by decide) ?_
    repeat walk_at "e"
    exact str_i (int_log (by omega) (by omega)) (q' _ (List.prefix_refl _))
  rw [map_txt]
  repeat walk_at "e"
  refine callTy rfl E.str Boot.«str» (by decide) ?_
  repeat walk_at "e"
  refine item_tup (by decide) rfl (by decide) ?_
  repeat walk_at "e"
  refine str_i (int_log hb.1 hb.2) ?_
  repeat walk_at "e"
  refine ⟨by show 2 ≤ sizeLine; decide, ?_⟩
  have p1 := List.prefix_append σ' [O.list ((ns.map txt).map V.str)]
  have e1 : (σ' ++ [O.list ((ns.map txt).map V.str)])[σ'.length]? = some (.list ((ns.map txt).map V.str)) := List.getElem?_concat_length
  generalize σ'.length = j1 at e1 ⊢
  replace p1 := p'.trans p1
  generalize σ' ++ [O.list ((ns.map txt).map V.str)] = σ1 at p1 e1 ⊢
  have p2 := List.prefix_append σ1 [O.list [V.str w, V.str (txt b)]]
  refine add_ll (pre_get p2 e1) List.getElem?_concat_length (by simp; omega) ?_
  have e2 : (ns.map txt).map V.str ++ [V.str w, V.str (txt b)] = (ns.map txt ++ [w, txt b]).map V.str := by rw [List.map_append]; rfl
  rw [e2]
  (refine stsC ?_; first | ((with_reducible refine sAssL ?ha6 ?hd6 ?hb6); (case ha6 => exact rfl); (case hb6 => intro _; exact rfl)) | ((with_reducible refine sAssC ?ha6 ?hd6 ?hb6); (case ha6 => exact rfl); (case hb6 => intro _; exact rfl)) | (with_reducible first | refine sRet ?_ | refine sIf ?_) | ((with_reducible refine sExpr ?hd6 ?hb6); (case hb6 => intro _; exact rfl)))
  refine methS GM.join ?_
  repeat walk_at "e"
  refine ⟨_, rfl, ?_⟩
  repeat walk_at "e"
  refine join_s List.getElem?_concat_length rfl (words_ok hl hI hw hb).1 ?_
  exact q _ ((p1.trans p2).trans (List.prefix_append _ _))
end

def NumP (Q : V → List O → Prop) (X : Addr → List O → Prop) (bt : Addr) : Option Int → List O → Prop
  | some n, σ => Q (.int n) σ
  | none, σ => X bt σ
noncomputable def digV : V → V
  | .str x => .bool (x.cps.toList.all dig)
  | v => v
theorem digV_one (k : Nat) : digV (.str ⟨#[k]⟩) = .bool (dig k) := by show V.bool ([k].all dig) = _; rw [List.all_cons, List.all_nil, Bool.and_true]
theorem signs_dig (x : Str) : (signs x).map digV = (x.cps.toList.map dig).map V.bool := by
  unfold signs
  rw [List.map_map, List.map_map]
  exact List.map_congr_left fun k _ => digV_one k
theorem all_dig (l : List Nat) : (l.map dig).all id = l.all dig := by rw [List.all_map]; rfl
theorem signs_len (x : Str) : (signs x).length = x.length := by unfold signs; rw [List.length_map, len_toList]
theorem first_of {x : Str} (h : x.length ≠ 0) : ∃ k, x.cps[0]? = some k := by
  have : 0 < x.cps.size := Nat.pos_of_ne_zero h
  exact ⟨x.cps[0], by simp [this]⟩
theorem dT' {p : Prop} [Decidable p] (h : p) : decide p = true := decide_eq_true h
theorem dF' {p : Prop} [Decidable p] (h : ¬ p) : decide p = false := decide_eq_false h
theorem lead_iff {x : Str} {k : Nat} (h : x.cps[0]? = some k) : x.cps.toList.head? = some 48 ↔ k = 48 := by
  rw [head_get h]; exact ⟨fun e => Option.some.inj e, fun e => by rw [e]⟩
theorem is_empty (x : Str) : (x == Str.ofString "") = decide (x.length = 0) := by
  rw [Bool.eq_iff_iff, beq_iff_eq, decide_eq_true_eq]
  have e : Str.ofString "" = ⟨#[]⟩ := by decide +kernel
  rw [e]
  constructor
  · intro h; rw [h]; rfl
  · intro h; obtain ⟨a⟩ := x; congr; exact Array.eq_empty_of_size_eq_zero h

section
variable {c : C0} {S : Stt} {ρ γ : List (Str × V)} {σ : List O} {Q : V → List O → Prop} {X : Addr → List O → Prop} {a : Nat → Addr} {tk : Nat → Tok} {bt : Addr} {kk : Nat → Addr}

def Jn (M : En → En → List O → Prop) (Q : Fl → En → En → List O → Prop) : Fl → En → En → List O → Prop
  | .next, ρ, γ, σ => ∃ ρ₁ γ₁, Sub ρ₁ ρ ∧ Sub γ₁ γ ∧ M ρ₁ γ₁ σ
  | fl, ρ, γ, σ => Q fl ρ γ σ
theorem stsR {Q : Fl → En → En → List O → Prop} {st : Stmt} {rest : List Stmt} (M : En → En → List O → Prop) (h : WS c S st ρ γ (Jn M Q) X σ) (n : ∀ ρ γ σ, M ρ γ σ → WSs c S rest ρ γ Q X σ) : WSs c S (st :: rest) ρ γ Q X σ :=
  stsC (WX.imp h fun fl ρ' γ' σ' p => by
    cases fl with
    | next => obtain ⟨ρ₁, γ₁, s1, s2, m⟩ := p; exact WX.weaken s1 s2 (n _ _ _ m)
    | brk => exact p
    | cont => exact p
    | ret v => exact p)

theorem number_ok (E : E02 c a tk bt kk) (hn : S.n < 40) (hq : S.q = true) {w : Str} {m : Int} (hw : w.length ≤ sizeLine) (hm0 : 0 ≤ m) (hm : m < 10000) (q : ∀ σ', σ <+: σ' → NumP Q X bt (numOf w m) σ') :
    WL VR c S (fun us => call (.ref (a 15)) us) [.str w, .int m] ρ γ Q X σ := by
  refine callB [("word", .str w), ("most", .int m)] [] E.number.2 rfl (dm hn) (by repeat (first | exact Par.nil | refine Par.cons rfl rfl ?_)) (by repeat (first | exact Par.nil | refine Par.cons rfl rfl ?_)) ?_
  have hz : (fg w).length ≤ sizeLine := Nat.le_trans (fg_le w) hw
  (refine stsC ?_; first | ((with_reducible refine sAssL ?ha7 ?hd7 ?hb7); (case ha7 => exact rfl); (case hb7 => intro _; exact rfl)) | ((with_reducible refine sAssC ?ha7 ?hd7 ?hb7); (case ha7 => exact rfl); (case hb7 => intro _; exact rfl)) | (with_reducible first | refine sRet ?_ | refine sIf ?_) | ((with_reducible refine sExpr ?hd7 ?hb7); (case hb7 => intro _; exact rfl)))
  repeat walk_at "e"
  refine stsJ (J0 [("word", .str w), ("most", .int m), ("figures", .str (fg w))] [] fun σ' => σ' = σ) ?_ ?_
  · refine sIf ?_
    refine tstP (methS GM.startswith ?_)
    repeat walk_at "e"
    refine ⟨_, rfl, ?_⟩
    repeat walk_at "e"
    refine starts_s ?_
    rw [neg_starts]
    cases hg : neg w with
    | false =>
      rw [fg_pos hg]
      repeat walk_at "e"
      exact sts0 ⟨rfl, _, _, by repeat (first | exact Sub.nil | refine Sub.cons rfl ?_), by repeat (first | exact Sub.nil | refine Sub.cons rfl ?_), rfl, rfl, rfl⟩
    | true =>
      rw [fg_neg hg]
      repeat walk_at "e"
      (refine stsC ?_; first | ((with_reducible refine sAssL ?ha8 ?hd8 ?hb8); (case ha8 => exact rfl); (case hb8 => intro _; exact rfl)) | ((with_reducible refine sAssC ?ha8 ?hd8 ?hb8); (case ha8 => exact rfl); (case hb8 => intro _; exact rfl)) | (with_reducible first | refine sRet ?_ | refine sIf ?_) | ((with_reducible refine sExpr ?hd8 ?hb8); (case hb8 => intro _; exact rfl)))
      refine sliceFr ?_
      repeat walk_at "e"
      refine ⟨_, _, rfl, rfl, hw, ?_⟩
      exact sts0 ⟨rfl, _, _, by repeat (first | exact Sub.nil | refine Sub.cons rfl ?_), by repeat (first | exact Sub.nil | refine Sub.cons rfl ?_), rfl, rfl, rfl⟩
  rintro _ _ _ ⟨rfl, rfl, rfl⟩
  have q0 := q _ (List.prefix_refl _)
  (refine stsC ?_; first | ((with_reducible refine sAssL ?ha9 ?hd9 ?hb9); (case ha9 => exact rfl); (case hb9 => intro _; exact rfl)) | ((with_reducible refine sAssC ?ha9 ?hd9 ?hb9); (case ha9 => exact rfl); (case hb9 => intro _; exact rfl)) | (with_reducible first | refine sRet ?_ | refine sIf ?_) | ((with_reducible refine sExpr ?hd9 ?hb9); (case hb9 => intro _; exact rfl)))
  repeat walk_at "e"
  refine callBu rfl E.len Boot.«len» (by decide) ?_
  repeat walk_at "e"
  refine len_s hz ?_
  repeat walk_at "e"
  by_cases h1 : (fg w).length = 0
  · refine iN (dF (by omega)) ?_
    repeat walk_at "e"
    refine stsC (sRaise E.bad hq rfl ?_)
    repeat walk_at "e"
    rw [no_len0 h1] at q0
    exact q0
  refine iT (dT (by omega)) ?_
  refine name_G (v := .int 4) rfl E.mFig (fun _ _ => .int _ _) ?_
  repeat walk_at "e"
  by_cases h4 : (fg w).length ≤ 4
  case neg =>
    rw [dF' (by omega)]
    repeat walk_at "e"
    refine stsC (sRaise E.bad hq rfl ?_)
    repeat walk_at "e"
    rw [no_len4 hm (by omega)] at q0
    exact q0
  rw [dT' (by omega)]
  repeat walk_at "e"
  refine tstP (callBu rfl E.all boot_all (by decide) ?_)
  refine argsC ?_
  refine compN hq (compOk rfl rfl) rfl ?_
  refine wiStr ?_
  repeat walk_at "e"
  refine ⟨_, rfl, mapBody (g := digV) (by rw [signs_len]; exact hz) (fun _ _ => trivial) (fun v hv σ' p' Q' q' => ?_) fun σ' p' => ?_⟩
  · obtain ⟨k, _, rfl⟩ := List.mem_map.mp hv
    repeat walk_at "e"
    refine name_G (v := .str "0123456789") rfl E.figs (fun _ _ => .str _ _) ?_
    refine in_ss ?_
    rw [fig_mem, ← digV_one]
    exact q' _ (List.prefix_refl _)
  rw [signs_dig]
  repeat walk_at "e"
  refine all_bools List.getElem?_concat_length rfl hq ?_
  rw [all_dig]
  have p1 := p'.trans (List.prefix_append σ' [O.list (((fg w).cps.toList.map dig).map V.bool)])
  generalize σ' ++ [O.list (((fg w).cps.toList.map dig).map V.bool)] = σ1 at p1 ⊢
  have q1 := q _ p1
  cases hd : (fg w).cps.toList.all dig with
  | false =>
    repeat walk_at "e"
    refine stsC (sRaise E.bad hq rfl ?_)
    repeat walk_at "e"
    rw [no_dig hd] at q1
    exact q1
  | true =>
  repeat walk_at "e"
  refine sts0 ?_
  obtain ⟨k, hk⟩ := first_of h1
  have hlead := lead_iff hk
  have h6 : (fg w).length ≤ 6 := by omega
  refine stsJ (J0 [("word", .str w), ("most", .int m)] [] fun σ' => σ' = σ1 ∧ ¬ ((fg w).cps.toList.head? = some 48 ∧ (1 < (fg w).length ∨ neg w = true))) ?_ ?_
  · refine sIf ?_
    repeat walk_at "e"
    refine item_s (by decide) (by decide) hk ?_
    repeat walk_at "e"
    rw [nought, one_eq]
    by_cases h48 : k = 48
    · rw [dT' h48]
      repeat walk_at "e"
      refine callBu rfl E.len Boot.«len» (by decide) ?_
      repeat walk_at "e"
      refine len_s hz ?_
      repeat walk_at "e"
      by_cases hl : 1 < (fg w).length
      · refine iT (dT (by omega)) ?_
        repeat walk_at "e"
        refine stsC (sRaise E.bad hq rfl ?_)
        repeat walk_at "e"
        rw [no_lead (hlead.mpr h48) (.inl hl)] at q1
        exact q1
      refine iN (dF (by omega)) ?_
      repeat walk_at "e"
      rw [fg_ne]
      cases hg : neg w with
      | true =>
        repeat walk_at "e"
        refine stsC (sRaise E.bad hq rfl ?_)
        repeat walk_at "e"
        rw [no_lead (hlead.mpr h48) (.inr hg)] at q1
        exact q1
      | false =>
        repeat walk_at "e"
        exact sts0 ⟨rfl, _, _, by repeat (first | exact Sub.nil | refine Sub.cons rfl ?_), by repeat (first | exact Sub.nil | refine Sub.cons rfl ?_), rfl, rfl, rfl, fun z => z.2.elim hl (fun y => by cases y)⟩
    · rw [dF' h48]
      repeat walk_at "e"
      exact sts0 ⟨rfl, _, _, by repeat (first | exact Sub.nil | refine Sub.cons rfl ?_), by repeat (first | exact Sub.nil | refine Sub.cons rfl ?_), rfl, rfl, rfl, fun z => h48 (hlead.mp z.1)⟩
  rintro _ _ _ ⟨rfl, rfl, rfl, hno⟩
  (refine stsC ?_; first | ((with_reducible refine sAssL ?ha10 ?hd10 ?hb10); (case ha10 => exact rfl); (case hb10 => intro _; exact rfl)) | ((with_reducible refine sAssC ?ha10 ?hd10 ?hb10); (case ha10 => exact rfl); (case hb10 => intro _; exact rfl)) | (with_reducible first | refine sRet ?_ | refine sIf ?_) | ((with_reducible refine sExpr ?hd10 ?hb10); (case hb10 => intro _; exact rfl)))
  refine callTy rfl E.int Boot.«int» (by decide) ?_
  repeat walk_at "e"
  refine int_s (int_w h1 h6 hd) (by have := w_len h6; omega) ?_
  have hin := sgn_in (w := w) (n := val w) hm0
  (refine stsC ?_; first | ((with_reducible refine sAssL ?ha11 ?hd11 ?hb11); (case ha11 => exact rfl); (case hb11 => intro _; exact rfl)) | ((with_reducible refine sAssC ?ha11 ?hd11 ?hb11); (case ha11 => exact rfl); (case hb11 => intro _; exact rfl)) | (with_reducible first | refine sRet ?_ | refine sIf ?_) | ((with_reducible refine sExpr ?hd11 ?hb11); (case hb11 => intro _; exact rfl)))
  repeat walk_at "e"
  by_cases hv : m < (val w : Int)
  · rw [no_out hv] at q1
    by_cases a1 : -m ≤ sgn w (val w)
    · have a2 : ¬ sgn w (val w) ≤ m := fun a2 => (hin.mp ⟨a1, a2⟩) hv
      refine iT (dT a1) ?_
      repeat walk_at "e"
      rw [dF' a2]
      repeat walk_at "e"
      refine stsC (sRaise E.bad hq rfl ?_)
      repeat walk_at "e"
      exact q1
    · refine iN (dF a1) ?_
      repeat walk_at "e"
      refine stsC (sRaise E.bad hq rfl ?_)
      repeat walk_at "e"
      exact q1
  · obtain ⟨a1, a2⟩ := hin.mpr hv
    refine iT (dT a1) ?_
    repeat walk_at "e"
    rw [dT' a2]
    repeat walk_at "e"
    refine sts0 ?_
    (refine stsC ?_; first | ((with_reducible refine sAssL ?ha12 ?hd12 ?hb12); (case ha12 => exact rfl); (case hb12 => intro _; exact rfl)) | ((with_reducible refine sAssC ?ha12 ?hd12 ?hb12); (case ha12 => exact rfl); (case hb12 => intro _; exact rfl)) | (with_reducible first | refine sRet ?_ | refine sIf ?_) | ((with_reducible refine sExpr ?hd12 ?hb12); (case hb12 => intro _; exact rfl)))
    repeat walk_at "e"
    rw [num_ok h1 h6 hd hno hv] at q1
    exact q1

theorem numin_ok (E : E02 c a tk bt kk) (hn : S.n < 40) (hq : S.q = true) {w : Str} {m : Int} (hw : w.length ≤ sizeLine) (q : Q (optV (numOf w m)) σ) :
    WL VR c S (fun us => call (.ref (a 20)) us) [.str w, .int m] ρ γ Q X σ := by
  refine callB [("_law_word", .str w), ("_law_most", .int m)] [] E.numin.2 rfl (dm hn) (by repeat (first | exact Par.nil | refine Par.cons rfl rfl ?_)) (by repeat (first | exact Par.nil | refine Par.cons rfl rfl ?_)) ?_
  have hz : (fg w).length ≤ sizeLine := Nat.le_trans (fg_le w) hw
  (refine stsC ?_; first | ((with_reducible refine sAssL ?ha13 ?hd13 ?hb13); (case ha13 => exact rfl); (case hb13 => intro _; exact rfl)) | ((with_reducible refine sAssC ?ha13 ?hd13 ?hb13); (case ha13 => exact rfl); (case hb13 => intro _; exact rfl)) | (with_reducible first | refine sRet ?_ | refine sIf ?_) | ((with_reducible refine sExpr ?hd13 ?hb13); (case hb13 => intro _; exact rfl)))
  repeat walk_at "e"
  refine stsJ (J0 [("_law_word", .str w), ("_law_most", .int m), ("_law_figures", .str (fg w))] [] fun σ' => σ = σ') ?_ ?_
  · refine sIf ?_
    refine tst1 ?_
    refine sliceTo ?_
    repeat walk_at "e"
    refine ⟨_, _, rfl, rfl, hw, ?_⟩
    repeat walk_at "e"
    rw [neg_slice]
    cases hg : neg w with
    | false =>
      rw [fg_pos hg]
      repeat walk_at "e"
      exact sts0 ⟨rfl, _, _, by repeat (first | exact Sub.nil | refine Sub.cons rfl ?_), by repeat (first | exact Sub.nil | refine Sub.cons rfl ?_), rfl, rfl, rfl⟩
    | true =>
      rw [fg_neg hg]
      repeat walk_at "e"
      (refine stsC ?_; first | ((with_reducible refine sAssL ?ha14 ?hd14 ?hb14); (case ha14 => exact rfl); (case hb14 => intro _; exact rfl)) | ((with_reducible refine sAssC ?ha14 ?hd14 ?hb14); (case ha14 => exact rfl); (case hb14 => intro _; exact rfl)) | (with_reducible first | refine sRet ?_ | refine sIf ?_) | ((with_reducible refine sExpr ?hd14 ?hb14); (case hb14 => intro _; exact rfl)))
      refine sliceFr ?_
      repeat walk_at "e"
      refine ⟨_, _, rfl, rfl, hw, ?_⟩
      exact sts0 ⟨rfl, _, _, by repeat (first | exact Sub.nil | refine Sub.cons rfl ?_), by repeat (first | exact Sub.nil | refine Sub.cons rfl ?_), rfl, rfl, rfl⟩
  rintro _ _ _ ⟨rfl, rfl, rfl⟩
  (refine stsC ?_; first | ((with_reducible refine sAssL ?ha15 ?hd15 ?hb15); (case ha15 => exact rfl); (case hb15 => intro _; exact rfl)) | ((with_reducible refine sAssC ?ha15 ?hd15 ?hb15); (case ha15 => exact rfl); (case hb15 => intro _; exact rfl)) | (with_reducible first | refine sRet ?_ | refine sIf ?_) | ((with_reducible refine sExpr ?hd15 ?hb15); (case hb15 => intro _; exact rfl)))
  repeat walk_at "e"
  rw [is_empty]
  by_cases h1 : (fg w).length = 0
  · rw [dT' h1]
    repeat walk_at "e"
    (refine stsC ?_; first | ((with_reducible refine sAssL ?ha16 ?hd16 ?hb16); (case ha16 => exact rfl); (case hb16 => intro _; exact rfl)) | ((with_reducible refine sAssC ?ha16 ?hd16 ?hb16); (case ha16 => exact rfl); (case hb16 => intro _; exact rfl)) | (with_reducible first | refine sRet ?_ | refine sIf ?_) | ((with_reducible refine sExpr ?hd16 ?hb16); (case hb16 => intro _; exact rfl)))
    repeat walk_at "e"
    rw [no_len0 h1] at q
    exact q
  rw [dF' h1]
  repeat walk_at "e"
  refine callBu rfl E.len Boot.«len» (by decide) ?_
  repeat walk_at "e"
  refine len_s hz ?_
  repeat walk_at "e"
  by_cases h6 : (fg w).length ≤ 6
  case neg =>
    refine iT (dT (by omega)) ?_
    repeat walk_at "e"
    (refine stsC ?_; first | ((with_reducible refine sAssL ?ha17 ?hd17 ?hb17); (case ha17 => exact rfl); (case hb17 => intro _; exact rfl)) | ((with_reducible refine sAssC ?ha17 ?hd17 ?hb17); (case ha17 => exact rfl); (case hb17 => intro _; exact rfl)) | (with_reducible first | refine sRet ?_ | refine sIf ?_) | ((with_reducible refine sExpr ?hd17 ?hb17); (case hb17 => intro _; exact rfl)))
    repeat walk_at "e"
    rw [no_len6 (by omega)] at q
    exact q
  refine iN (dF (by omega)) ?_
  repeat walk_at "e"
  refine sts0 ?_
  refine forL hq rfl ?_
  refine wiStr ?_
  repeat walk_at "e"
  refine ⟨_, rfl, fun k => J0 [("_law_word", .str w), ("_law_most", .int m), ("_law_figures", .str (fg w))] [] fun σ' => σ = σ' ∧ ((fg w).cps.toList.take k).all dig = true, ⟨_, _, by repeat (first | exact Sub.nil | refine Sub.cons rfl ?_), by repeat (first | exact Sub.nil | refine Sub.cons rfl ?_), rfl, rfl, rfl, rfl⟩, ?_, ?_⟩
  · rintro k v _ _ _ hv _ ⟨rfl, rfl, rfl, hpre⟩
    obtain ⟨ch, hch, rfl⟩ := signs_get hv
    have hch' : (fg w).cps.toList[k]? = some ch := by simpa using hch
    (refine stsC ?_; first | ((with_reducible refine sAssL ?ha18 ?hd18 ?hb18); (case ha18 => exact rfl); (case hb18 => intro _; exact rfl)) | ((with_reducible refine sAssC ?ha18 ?hd18 ?hb18); (case ha18 => exact rfl); (case hb18 => intro _; exact rfl)) | (with_reducible first | refine sRet ?_ | refine sIf ?_) | ((with_reducible refine sExpr ?hd18 ?hb18); (case hb18 => intro _; exact rfl)))
    repeat walk_at "e"
    refine nin_ss ?_
    rw [fig_mem]
    cases hdg : dig ch with
    | false =>
      repeat walk_at "e"
      (refine stsC ?_; first | ((with_reducible refine sAssL ?ha19 ?hd19 ?hb19); (case ha19 => exact rfl); (case hb19 => intro _; exact rfl)) | ((with_reducible refine sAssC ?ha19 ?hd19 ?hb19); (case ha19 => exact rfl); (case hb19 => intro _; exact rfl)) | (with_reducible first | refine sRet ?_ | refine sIf ?_) | ((with_reducible refine sExpr ?hd19 ?hb19); (case hb19 => intro _; exact rfl)))
      repeat walk_at "e"
      have : (fg w).cps.toList.all dig = false := by
        rw [Bool.eq_false_iff]; intro z
        have := List.all_eq_true.mp z ch (List.mem_of_getElem? hch')
        rw [hdg] at this; cases this
      rw [no_dig this] at q
      exact q
    | true =>
      repeat walk_at "e"
      refine sts0 (sts0 ⟨trivial, _, _, by repeat (first | exact Sub.nil | refine Sub.cons rfl ?_), by repeat (first | exact Sub.nil | refine Sub.cons rfl ?_), rfl, rfl, rfl, ?_⟩)
      rw [List.take_add_one, hch', List.all_append, hpre]
      simp [hdg]
  rintro _ _ _ _ ⟨rfl, rfl, rfl, hd⟩
  rw [signs_len, ← len_toList, List.take_length] at hd
  obtain ⟨k, hk⟩ := first_of h1
  have hlead := lead_iff hk
  refine stsR (J0 [("_law_word", .str w), ("_law_most", .int m), ("_law_figures", .str (fg w))] [] fun σ' => σ = σ' ∧ ¬ ((fg w).cps.toList.head? = some 48 ∧ (1 < (fg w).length ∨ neg w = true))) ?_ ?_
  · refine sIf ?_
    repeat walk_at "e"
    refine item_s (by decide) (by decide) hk ?_
    repeat walk_at "e"
    rw [nought, one_eq]
    by_cases h48 : k = 48
    · rw [dT' h48]
      repeat walk_at "e"
      refine callBu rfl E.len Boot.«len» (by decide) ?_
      repeat walk_at "e"
      refine len_s hz ?_
      repeat walk_at "e"
      by_cases hl : 1 < (fg w).length
      · refine iT (dT (by omega)) ?_
        repeat walk_at "e"
        (refine stsC ?_; first | ((with_reducible refine sAssL ?ha20 ?hd20 ?hb20); (case ha20 => exact rfl); (case hb20 => intro _; exact rfl)) | ((with_reducible refine sAssC ?ha20 ?hd20 ?hb20); (case ha20 => exact rfl); (case hb20 => intro _; exact rfl)) | (with_reducible first | refine sRet ?_ | refine sIf ?_) | ((with_reducible refine sExpr ?hd20 ?hb20); (case hb20 => intro _; exact rfl)))
        repeat walk_at "e"
        rw [no_lead (hlead.mpr h48) (.inl hl)] at q
        exact q
      refine iN (dF (by omega)) ?_
      repeat walk_at "e"
      rw [fg_ne]
      cases hg : neg w with
      | true =>
        repeat walk_at "e"
        (refine stsC ?_; first | ((with_reducible refine sAssL ?ha21 ?hd21 ?hb21); (case ha21 => exact rfl); (case hb21 => intro _; exact rfl)) | ((with_reducible refine sAssC ?ha21 ?hd21 ?hb21); (case ha21 => exact rfl); (case hb21 => intro _; exact rfl)) | (with_reducible first | refine sRet ?_ | refine sIf ?_) | ((with_reducible refine sExpr ?hd21 ?hb21); (case hb21 => intro _; exact rfl)))
        repeat walk_at "e"
        rw [no_lead (hlead.mpr h48) (.inr hg)] at q
        exact q
      | false =>
        repeat walk_at "e"
        exact sts0 ⟨_, _, by repeat (first | exact Sub.nil | refine Sub.cons rfl ?_), by repeat (first | exact Sub.nil | refine Sub.cons rfl ?_), rfl, rfl, rfl, fun z => z.2.elim hl (fun y => by cases y)⟩
    · rw [dF' h48]
      repeat walk_at "e"
      exact sts0 ⟨_, _, by repeat (first | exact Sub.nil | refine Sub.cons rfl ?_), by repeat (first | exact Sub.nil | refine Sub.cons rfl ?_), rfl, rfl, rfl, fun z => h48 (hlead.mp z.1)⟩
  rintro _ _ _ ⟨rfl, rfl, rfl, hno⟩
  (refine stsC ?_; first | ((with_reducible refine sAssL ?ha22 ?hd22 ?hb22); (case ha22 => exact rfl); (case hb22 => intro _; exact rfl)) | ((with_reducible refine sAssC ?ha22 ?hd22 ?hb22); (case ha22 => exact rfl); (case hb22 => intro _; exact rfl)) | (with_reducible first | refine sRet ?_ | refine sIf ?_) | ((with_reducible refine sExpr ?hd22 ?hb22); (case hb22 => intro _; exact rfl)))
  refine callTy rfl E.int Boot.«int» (by decide) ?_
  repeat walk_at "e"
  refine int_s (int_fg h1 h6 hd) (by omega) ?_
  (refine stsC ?_; first | ((with_reducible refine sAssL ?ha23 ?hd23 ?hb23); (case ha23 => exact rfl); (case hb23 => intro _; exact rfl)) | ((with_reducible refine sAssC ?ha23 ?hd23 ?hb23); (case ha23 => exact rfl); (case hb23 => intro _; exact rfl)) | (with_reducible first | refine sRet ?_ | refine sIf ?_) | ((with_reducible refine sExpr ?hd23 ?hb23); (case hb23 => intro _; exact rfl)))
  repeat walk_at "e"
  by_cases hv : m < ((val w : Nat) : Int)
  · refine iT (dT hv) ?_
    (refine stsC ?_; first | ((with_reducible refine sAssL ?ha24 ?hd24 ?hb24); (case ha24 => exact rfl); (case hb24 => intro _; exact rfl)) | ((with_reducible refine sAssC ?ha24 ?hd24 ?hb24); (case ha24 => exact rfl); (case hb24 => intro _; exact rfl)) | (with_reducible first | refine sRet ?_ | refine sIf ?_) | ((with_reducible refine sExpr ?hd24 ?hb24); (case hb24 => intro _; exact rfl)))
    repeat walk_at "e"
    rw [no_out hv] at q
    exact q
  refine iN (dF hv) ?_
  refine sts0 ?_
  rw [num_ok h1 h6 hd hno hv] at q
  refine stsJ (J0 [("_law_found", .int (sgn w (val w)))] [] fun σ' => σ = σ') ?_ ?_
  · refine sIf ?_
    repeat walk_at "e"
    rw [fg_ne]
    unfold sgn
    cases hg : neg w with
    | true =>
      repeat walk_at "e"
      (refine stsC ?_; first | ((with_reducible refine sAssL ?ha25 ?hd25 ?hb25); (case ha25 => exact rfl); (case hb25 => intro _; exact rfl)) | ((with_reducible refine sAssC ?ha25 ?hd25 ?hb25); (case ha25 => exact rfl); (case hb25 => intro _; exact rfl)) | (with_reducible first | refine sRet ?_ | refine sIf ?_) | ((with_reducible refine sExpr ?hd25 ?hb25); (case hb25 => intro _; exact rfl)))
      repeat walk_at "e"
      rw [Int.zero_sub]
      exact sts0 ⟨rfl, _, _, by repeat (first | exact Sub.nil | refine Sub.cons rfl ?_), by repeat (first | exact Sub.nil | refine Sub.cons rfl ?_), rfl, rfl, rfl⟩
    | false =>
      repeat walk_at "e"
      exact sts0 ⟨rfl, _, _, by repeat (first | exact Sub.nil | refine Sub.cons rfl ?_), by repeat (first | exact Sub.nil | refine Sub.cons rfl ?_), rfl, rfl, rfl⟩
  rintro _ _ _ ⟨rfl, rfl, rfl⟩
  (refine stsC ?_; first | ((with_reducible refine sAssL ?ha26 ?hd26 ?hb26); (case ha26 => exact rfl); (case hb26 => intro _; exact rfl)) | ((with_reducible refine sAssC ?ha26 ?hd26 ?hb26); (case ha26 => exact rfl); (case hb26 => intro _; exact rfl)) | (with_reducible first | refine sRet ?_ | refine sIf ?_) | ((with_reducible refine sExpr ?hd26 ?hb26); (case hb26 => intro _; exact rfl)))
  repeat walk_at "e"
  exact q
end

theorem at2 {ws : List Str} (h : 2 ≤ ws.length) : (ws.map V.str)[((-2 : Int) + ((ws.map V.str).length : Int)).toNat]? = some (.str (ws.getD (ws.length - 2) Str.empty)) := by
  rw [List.length_map, show ((-2 : Int) + (ws.length : Int)).toNat = ws.length - 2 by omega, List.getElem?_map, List.getElem?_eq_getElem (by omega), List.getD_eq_getElem?_getD, List.getElem?_eq_getElem (by omega)]
  rfl
theorem at1 {ws : List Str} (h : 2 ≤ ws.length) : (ws.map V.str)[((-1 : Int) + ((ws.map V.str).length : Int)).toNat]? = some (.str (ws.getD (ws.length - 1) Str.empty)) := by
  rw [List.length_map, show ((-1 : Int) + (ws.length : Int)).toNat = ws.length - 1 by omega, List.getElem?_map, List.getElem?_eq_getElem (by omega), List.getD_eq_getElem?_getD, List.getElem?_eq_getElem (by omega)]
  rfl
theorem rd_short {ws : List Str} (h : ws.length < 3 ∨ 5 < ws.length) : rd ws = none := by unfold rd; rw [if_pos h]
theorem rd_word {ws : List Str} (h : okWord (ws.getD (ws.length - 2) Str.empty) = false) : rd ws = none := by unfold rd; rw [if_pos h]; split <;> rfl
theorem rd_opt {ws : List Str} (h : (optsOf ws).any Option.isNone = true) : rd ws = none := by
  unfold rd; rw [if_pos h]; split
  · rfl
  · split <;> rfl
theorem rd_last {ws : List Str} (h : numOf (ws.getD (ws.length - 1) Str.empty) 2000 = none) : rd ws = none := by
  unfold rd; rw [h]; split
  · rfl
  · split
    · rfl
    · split <;> rfl
theorem rd_ok {ws : List Str} {b : Int} (h1 : ¬ (ws.length < 3 ∨ 5 < ws.length)) (h2 : okWord (ws.getD (ws.length - 2) Str.empty) = true) (h3 : (optsOf ws).any Option.isNone = false) (h4 : numOf (ws.getD (ws.length - 1) Str.empty) 2000 = some b) :
    rd ws = some ((optsOf ws).filterMap id, ws.getD (ws.length - 2) Str.empty, b) := by
  unfold rd
  rw [if_neg h1, if_neg (by rw [h2]; exact Bool.noConfusion), if_neg (by rw [h3]; exact Bool.noConfusion), h4]
theorem each_len {t w : Str} {n : Nat} (ht : t.length ≤ n) {k : Nat} (h : (Txt.split t (Str.ofString " "))[k]? = some w) : w.length ≤ n := Nat.le_trans (split_each (List.mem_of_getElem? h)) ht
theorem getD_len {t : Str} {n k : Nat} (ht : t.length ≤ n) : ((Txt.split t (Str.ofString " ")).getD k Str.empty).length ≤ n := by
  rw [List.getD_eq_getElem?_getD]
  cases h : (Txt.split t (Str.ofString " "))[k]? with
  | none => exact Nat.zero_le _
  | some w => exact each_len ht h
def ReadP (Q : V → List O → Prop) (X : Addr → List O → Prop) (bt : Addr) : Option (List Int × Str × Int) → List O → Prop
  | none, σ => X bt σ
  | some r, σ => Q (rdV (some r)) σ
theorem readP_some {Q : V → List O → Prop} {X : Addr → List O → Prop} {bt : Addr} {ns : List Int} {w : Str} {b : Int} {σ : List O} (h : Q (.tup [.tup (ns.map V.int), .str w, .int b]) σ) : ReadP Q X bt (some (ns, w, b)) σ := h
noncomputable def asNum : V → V
  | .str w => optV (numOf w 50)
  | v => v
theorem take_V {ws : List Str} {k : Nat} : (ws.map V.str).take k = (ws.take k).map V.str := by rw [List.map_take]
theorem nums_V (ws : List Str) : ((ws.take (ws.length - 2)).map V.str).map asNum = (optsOf ws).map optV := by unfold optsOf; rw [List.map_map, List.map_map]; rfl

section
variable {c : C0} {S : Stt} {ρ γ : List (Str × V)} {σ : List O} {Q : V → List O → Prop} {X : Addr → List O → Prop} {a : Nat → Addr} {tk : Nat → Tok} {bt : Addr} {kk : Nat → Addr}

theorem read_no (E : E02 c a tk bt kk) (hn : S.n < 38) (hq : S.q = true) {v : V} (hp : plainV σ v) (hs : isT v .str = false) (q : X bt σ) : WL VR c S (fun us => call (.ref (a 16)) us) [v] ρ γ Q X σ := by
  refine callB [("text", v)] [] E.read.2 rfl (dm hn) (by repeat (first | exact Par.nil | refine Par.cons rfl rfl ?_)) (by repeat (first | exact Par.nil | refine Par.cons rfl rfl ?_)) ?_
  (refine stsC ?_; first | ((with_reducible refine sAssL ?ha27 ?hd27 ?hb27); (case ha27 => exact rfl); (case hb27 => intro _; exact rfl)) | ((with_reducible refine sAssC ?ha27 ?hd27 ?hb27); (case ha27 => exact rfl); (case hb27 => intro _; exact rfl)) | (with_reducible first | refine sRet ?_ | refine sIf ?_) | ((with_reducible refine sExpr ?hd27 ?hb27); (case hb27 => intro _; exact rfl)))
  repeat walk_at "e"
  refine tstP (callIsi rfl E.isi rfl E.str Boot.«str» (by decide) ?_)
  repeat walk_at "e"
  refine isi_ty (T := .str) hp ?_
  rw [hs]
  repeat walk_at "e"
  refine stsC (sRaise E.bad hq rfl ?_)
  repeat walk_at "e"
  exact q

theorem read_ok (E : E02 c a tk bt kk) (hn : S.n < 38) (hq : S.q = true) {t : Str} (ht : t.length ≤ 5000) (q : ∀ σ', σ <+: σ' → ReadP Q X bt (rd (Txt.split t (Str.ofString " "))) σ') :
    WL VR c S (fun us => call (.ref (a 16)) us) [.str t] ρ γ Q X σ := by
  refine callB [("text", .str t)] [] E.read.2 rfl (dm hn) (by repeat (first | exact Par.nil | refine Par.cons rfl rfl ?_)) (by repeat (first | exact Par.nil | refine Par.cons rfl rfl ?_)) ?_
  have hz : ∀ {n : Nat}, n ≤ 6000 → n ≤ sizeLine := fun h => Nat.le_trans h (by decide)
  (refine stsC ?_; first | ((with_reducible refine sAssL ?ha28 ?hd28 ?hb28); (case ha28 => exact rfl); (case hb28 => intro _; exact rfl)) | ((with_reducible refine sAssC ?ha28 ?hd28 ?hb28); (case ha28 => exact rfl); (case hb28 => intro _; exact rfl)) | (with_reducible first | refine sRet ?_ | refine sIf ?_) | ((with_reducible refine sExpr ?hd28 ?hb28); (case hb28 => intro _; exact rfl)))
  repeat walk_at "e"
  refine tstP (callIsi rfl E.isi rfl E.str Boot.«str» (by decide) ?_)
  repeat walk_at "e"
  refine isi_ty (T := .str) trivial ?_
  repeat walk_at "e"
  refine sts0 ?_
  (refine stsC ?_; first | ((with_reducible refine sAssL ?ha29 ?hd29 ?hb29); (case ha29 => exact rfl); (case hb29 => intro _; exact rfl)) | ((with_reducible refine sAssC ?ha29 ?hd29 ?hb29); (case ha29 => exact rfl); (case hb29 => intro _; exact rfl)) | (with_reducible first | refine sRet ?_ | refine sIf ?_) | ((with_reducible refine sExpr ?hd29 ?hb29); (case hb29 => intro _; exact rfl)))
  refine methS GM.split ?_
  repeat walk_at "e"
  refine ⟨_, rfl, ?_⟩
  repeat walk_at "e"
  refine split_s (hz (by omega)) (by decide +kernel) ?_
  have hlen : (Txt.split t (Str.ofString " ")).length ≤ 6000 := Nat.le_trans (split_le _ _) (by omega)
  have hlast : ∀ k, ((Txt.split t (Str.ofString " ")).getD k Str.empty).length ≤ sizeLine := fun k => hz (Nat.le_trans (getD_len (k := k) ht) (by decide))
  have heach : ∀ (k : Nat) w, (Txt.split t (Str.ofString " "))[k]? = some w → w.length ≤ sizeLine := fun k w h => hz (Nat.le_trans (each_len ht h) (by decide))
  generalize Txt.split t (Str.ofString " ") = ws at q hlen hlast heach ⊢
  have p1 := List.prefix_append σ [O.list (ws.map V.str)]
  have e1 : (σ ++ [O.list (ws.map V.str)])[σ.length]? = some (.list (ws.map V.str)) := List.getElem?_concat_length
  generalize σ.length = iw at e1 ⊢
  generalize σ ++ [O.list (ws.map V.str)] = σ1 at p1 e1 ⊢
  have q1 := q _ p1
  (refine stsC ?_; first | ((with_reducible refine sAssL ?ha30 ?hd30 ?hb30); (case ha30 => exact rfl); (case hb30 => intro _; exact rfl)) | ((with_reducible refine sAssC ?ha30 ?hd30 ?hb30); (case ha30 => exact rfl); (case hb30 => intro _; exact rfl)) | (with_reducible first | refine sRet ?_ | refine sIf ?_) | ((with_reducible refine sExpr ?hd30 ?hb30); (case hb30 => intro _; exact rfl)))
  repeat walk_at "e"
  refine callBu rfl E.len Boot.«len» (by decide) ?_
  repeat walk_at "e"
  refine len_ref e1 rfl (by rw [List.length_map]; omega) ?_
  rw [List.length_map]
  repeat walk_at "e"
  by_cases h3 : ws.length < 3
  · refine iN (dF (by omega)) ?_
    repeat walk_at "e"
    refine stsC (sRaise E.bad hq rfl ?_)
    repeat walk_at "e"
    rw [rd_short (.inl h3)] at q1
    exact q1
  refine iT (dT (by omega)) ?_
  repeat walk_at "e"
  refine name_G (v := .int 3) rfl E.mUnk (fun _ _ => .int _ _) ?_
  repeat walk_at "e"
  by_cases h5 : 5 < ws.length
  · rw [dF' (by omega)]
    repeat walk_at "e"
    refine stsC (sRaise E.bad hq rfl ?_)
    repeat walk_at "e"
    rw [rd_short (.inr h5)] at q1
    exact q1
  rw [dT' (by omega)]
  repeat walk_at "e"
  have g2 := at2 (ws := ws) (by omega)
  have g1 := at1 (ws := ws) (by omega)
  have hlw : -((ws.map V.str).length : Int) ≤ -2 := by rw [List.length_map]; omega
  refine item_neg e1 rfl (by decide) hlw g2 (by decide) ?_
  repeat walk_at "e"
  refine ⟨by show 2 ≤ sizeLine; decide, ?_⟩
  refine nin_tup (l := [Str.ofString "most", Str.ofString "least"]) ?_
  show KT _ _ _ _ _ _ (.bool (!okWord (ws.getD (ws.length - 2) Str.empty))) _
  cases hw : okWord (ws.getD (ws.length - 2) Str.empty) with
  | false =>
    repeat walk_at "e"
    refine stsC (sRaise E.bad hq rfl ?_)
    repeat walk_at "e"
    rw [rd_word hw] at q1
    exact q1
  | true =>
  repeat walk_at "e"
  refine sts0 ?_
  (refine stsC ?_; first | ((with_reducible refine sAssL ?ha31 ?hd31 ?hb31); (case ha31 => exact rfl); (case hb31 => intro _; exact rfl)) | ((with_reducible refine sAssC ?ha31 ?hd31 ?hb31); (case ha31 => exact rfl); (case hb31 => intro _; exact rfl)) | (with_reducible first | refine sRet ?_ | refine sIf ?_) | ((with_reducible refine sExpr ?hd31 ?hb31); (case hb31 => intro _; exact rfl)))
  refine callTy rfl E.tuple Boot.«tuple» (by decide) ?_
  refine argsC ?_
  refine compN hq (compOk rfl rfl) rfl ?_
  refine wiList ?_
  refine sliceBut2 ?_
  repeat walk_at "e"
  refine ⟨_, _, _, rfl, e1, rfl, by rw [List.length_map]; exact hz hlen, rfl, ?_⟩
  rw [List.length_map, take_V]
  have p2 := List.prefix_append σ1 [O.list ((ws.take (ws.length - 2)).map V.str)]
  have hl2 : ((ws.take (ws.length - 2)).map V.str).length ≤ 5 := by rw [List.length_map, List.length_take]; omega
  refine ⟨_, _, _, rfl, List.getElem?_concat_length, rfl, by omega, hz (by omega), fun k rs σ' => (σ1 ++ [O.list ((ws.take (ws.length - 2)).map V.str)]) <+: σ' ∧ rs = ((optsOf ws).take k).map optV ∧ ((optsOf ws).take k).any Option.isNone = false, ⟨List.prefix_refl _, by simp, by simp⟩, ?_, ?_⟩
  · rintro k v rs σ' hv hs ⟨p3, rfl, hno⟩
    rw [List.getElem?_map] at hv
    obtain ⟨w, hw', rfl⟩ := Option.map_eq_some_iff.mp hv
    have hopt : (optsOf ws)[k]? = some (numOf w 50) := by unfold optsOf; rw [List.getElem?_map, hw']; rfl
    have hwk : ws[k]? = some w := by
      have hk : k < ws.length - 2 := by
        have := (List.getElem?_eq_some_iff.mp hw').1
        rw [List.length_take] at this; omega
      rw [List.getElem?_take_of_lt hk] at hw'
      exact hw'
    refine callF E.number.1 E.number.2 rfl ?_
    repeat walk_at "e"
    refine name_G (v := .int 50) rfl E.mNum (fun _ _ => .int _ _) ?_
    repeat walk_at "e"
    refine number_ok (S := (S.deeper (s02 16)).comp _) E (dn hn) hq (heach k w hwk) (by decide) (by decide) fun σ'' p'' => ?_
    cases hnum : numOf w 50 with
    | none =>
      have := q _ ((((p1.trans p2).trans p3).trans p''))
      rw [rd_opt (List.any_eq_true.mpr ⟨none, by rw [← hnum]; exact List.mem_of_getElem? hopt, rfl⟩)] at this
      exact this
    | some z =>
      rw [hnum] at hopt
      refine ⟨?_, p3.trans p'', ?_, ?_⟩
      · obtain ⟨o, e2, e3⟩ := hs
        exact ⟨o, pre_get p'' e2, e3⟩
      · rw [List.take_add_one, hopt, List.map_append]; rfl
      · rw [List.take_add_one, hopt, List.any_append, hno]; rfl
  rintro rs σ' _ ⟨p3, rfl, hno⟩
  have hlo : ((ws.take (ws.length - 2)).map V.str).length = (optsOf ws).length := by unfold optsOf; rw [List.length_map, List.length_map]
  rw [hlo, List.take_length] at hno ⊢
  rw [opts_V hno]
  repeat walk_at "e"
  refine tuple_ref List.getElem?_concat_length rfl (hz (by rw [← opts_V hno, List.length_map, ← hlo]; omega)) ?_
  have p4 := (p2.trans p3).trans (List.prefix_append σ' [O.list (((optsOf ws).filterMap id).map V.int)])
  generalize σ' ++ [O.list (((optsOf ws).filterMap id).map V.int)] = σ4 at p4 ⊢
  have e4 := pre_get p4 e1
  (refine stsC ?_; first | ((with_reducible refine sAssL ?ha32 ?hd32 ?hb32); (case ha32 => exact rfl); (case hb32 => intro _; exact rfl)) | ((with_reducible refine sAssC ?ha32 ?hd32 ?hb32); (case ha32 => exact rfl); (case hb32 => intro _; exact rfl)) | (with_reducible first | refine sRet ?_ | refine sIf ?_) | ((with_reducible refine sExpr ?hd32 ?hb32); (case hb32 => intro _; exact rfl)))
  repeat walk_at "e"
  refine item_neg e4 rfl (by decide) hlw g2 (by decide) ?_
  repeat walk_at "e"
  refine callF E.number.1 E.number.2 rfl ?_
  repeat walk_at "e"
  refine item_neg e4 rfl (by decide) (by omega) g1 (by decide) ?_
  repeat walk_at "e"
  refine name_G (v := .int 2000) rfl E.mBound (fun _ _ => .int _ _) ?_
  repeat walk_at "e"
  refine number_ok (S := S.deeper (s02 16)) E (dn hn) hq (hlast _) (by decide) (by decide) fun σ'' p'' => ?_
  have q5 := q _ ((p1.trans p4).trans p'')
  cases hnum : numOf (ws.getD (ws.length - 1) Str.empty) 2000 with
  | none => rw [rd_last hnum] at q5; exact q5
  | some b =>
    rw [rd_ok (by omega) hw hno hnum] at q5
    show KA _ _ _ _ _ _ _ _ _ _
    repeat walk_at "e"
    exact ⟨by show 3 ≤ sizeLine; decide, q5⟩

theorem lread_ok (E : E02 c a tk bt kk) (hn : S.n < 38) (hq : S.q = true) {t : Str} (ht : t.length ≤ 5000) (q : ∀ σ', σ <+: σ' → Q (rdV (rd (Txt.split t (Str.ofString " ")))) σ') :
    WL VR c S (fun us => call (.ref (a 21)) us) [.str t] ρ γ Q X σ := by
  refine callB [("_law_text_here", .str t)] [] E.lread.2 rfl (dm hn) (by repeat (first | exact Par.nil | refine Par.cons rfl rfl ?_)) (by repeat (first | exact Par.nil | refine Par.cons rfl rfl ?_)) ?_
  have hz : ∀ {n : Nat}, n ≤ 6000 → n ≤ sizeLine := fun h => Nat.le_trans h (by decide)
  (refine stsC ?_; first | ((with_reducible refine sAssL ?ha33 ?hd33 ?hb33); (case ha33 => exact rfl); (case hb33 => intro _; exact rfl)) | ((with_reducible refine sAssC ?ha33 ?hd33 ?hb33); (case ha33 => exact rfl); (case hb33 => intro _; exact rfl)) | (with_reducible first | refine sRet ?_ | refine sIf ?_) | ((with_reducible refine sExpr ?hd33 ?hb33); (case hb33 => intro _; exact rfl)))
  refine methS GM.split ?_
  repeat walk_at "e"
  refine ⟨_, rfl, ?_⟩
  repeat walk_at "e"
  refine split_s (hz (by omega)) (by decide +kernel) ?_
  have hlen : (Txt.split t (Str.ofString " ")).length ≤ 6000 := Nat.le_trans (split_le _ _) (by omega)
  have hlast : ∀ k, ((Txt.split t (Str.ofString " ")).getD k Str.empty).length ≤ sizeLine := fun k => hz (Nat.le_trans (getD_len (k := k) ht) (by decide))
  have heach : ∀ w ∈ Txt.split t (Str.ofString " "), w.length ≤ sizeLine := fun w h => hz (Nat.le_trans (split_each h) (by omega))
  generalize Txt.split t (Str.ofString " ") = ws at q hlen hlast heach ⊢
  have p1 := List.prefix_append σ [O.list (ws.map V.str)]
  have e1 : (σ ++ [O.list (ws.map V.str)])[σ.length]? = some (.list (ws.map V.str)) := List.getElem?_concat_length
  generalize σ.length = iw at e1 ⊢
  generalize σ ++ [O.list (ws.map V.str)] = σ1 at p1 e1 ⊢
  have q1 := q _ p1
  (refine stsC ?_; first | ((with_reducible refine sAssL ?ha34 ?hd34 ?hb34); (case ha34 => exact rfl); (case hb34 => intro _; exact rfl)) | ((with_reducible refine sAssC ?ha34 ?hd34 ?hb34); (case ha34 => exact rfl); (case hb34 => intro _; exact rfl)) | (with_reducible first | refine sRet ?_ | refine sIf ?_) | ((with_reducible refine sExpr ?hd34 ?hb34); (case hb34 => intro _; exact rfl)))
  repeat walk_at "e"
  refine callBu rfl E.len Boot.«len» (by decide) ?_
  repeat walk_at "e"
  refine len_ref e1 rfl (by rw [List.length_map]; omega) ?_
  rw [List.length_map]
  repeat walk_at "e"
  by_cases h3 : ws.length < 3
  · refine iN (dF (by omega)) ?_
    repeat walk_at "e"
    (refine stsC ?_; first | ((with_reducible refine sAssL ?ha35 ?hd35 ?hb35); (case ha35 => exact rfl); (case hb35 => intro _; exact rfl)) | ((with_reducible refine sAssC ?ha35 ?hd35 ?hb35); (case ha35 => exact rfl); (case hb35 => intro _; exact rfl)) | (with_reducible first | refine sRet ?_ | refine sIf ?_) | ((with_reducible refine sExpr ?hd35 ?hb35); (case hb35 => intro _; exact rfl)))
    repeat walk_at "e"
    rw [rd_short (.inl h3)] at q1
    exact q1
  refine iT (dT (by omega)) ?_
  repeat walk_at "e"
  by_cases h5 : 5 < ws.length
  · rw [dF' (by omega)]
    repeat walk_at "e"
    (refine stsC ?_; first | ((with_reducible refine sAssL ?ha36 ?hd36 ?hb36); (case ha36 => exact rfl); (case hb36 => intro _; exact rfl)) | ((with_reducible refine sAssC ?ha36 ?hd36 ?hb36); (case ha36 => exact rfl); (case hb36 => intro _; exact rfl)) | (with_reducible first | refine sRet ?_ | refine sIf ?_) | ((with_reducible refine sExpr ?hd36 ?hb36); (case hb36 => intro _; exact rfl)))
    repeat walk_at "e"
    rw [rd_short (.inr h5)] at q1
    exact q1
  rw [dT' (by omega)]
  repeat walk_at "e"
  have g2 := at2 (ws := ws) (by omega)
  have g1 := at1 (ws := ws) (by omega)
  have hlw : -((ws.map V.str).length : Int) ≤ -2 := by rw [List.length_map]; omega
  refine item_neg e1 rfl (by decide) hlw g2 (by decide) ?_
  repeat walk_at "e"
  refine ⟨by show 2 ≤ sizeLine; decide, ?_⟩
  have p2 := List.prefix_append σ1 [O.list [V.str (Str.ofString "most"), V.str (Str.ofString "least")]]
  refine nin_list (l := [Str.ofString "most", Str.ofString "least"]) List.getElem?_concat_length ?_
  show KT _ _ _ _ _ _ (.bool (!okWord (ws.getD (ws.length - 2) Str.empty))) _
  replace p1 := p1.trans p2
  replace e1 := pre_get p2 e1
  generalize σ1 ++ [O.list [V.str (Str.ofString "most"), V.str (Str.ofString "least")]] = σ2 at p1 e1 ⊢
  replace q1 := q _ p1
  cases hw : okWord (ws.getD (ws.length - 2) Str.empty) with
  | false =>
    repeat walk_at "e"
    (refine stsC ?_; first | ((with_reducible refine sAssL ?ha37 ?hd37 ?hb37); (case ha37 => exact rfl); (case hb37 => intro _; exact rfl)) | ((with_reducible refine sAssC ?ha37 ?hd37 ?hb37); (case ha37 => exact rfl); (case hb37 => intro _; exact rfl)) | (with_reducible first | refine sRet ?_ | refine sIf ?_) | ((with_reducible refine sExpr ?hd37 ?hb37); (case hb37 => intro _; exact rfl)))
    repeat walk_at "e"
    rw [rd_word hw] at q1
    exact q1
  | true =>
  repeat walk_at "e"
  refine sts0 ?_
  refine stsC (sAssCompN hq (compOk rfl rfl) rfl rfl rfl ?_)
  refine wiList ?_
  refine sliceBut2 ?_
  repeat walk_at "e"
  refine ⟨_, _, _, rfl, e1, rfl, by rw [List.length_map]; exact hz hlen, rfl, ?_⟩
  rw [List.length_map, take_V]
  have p3 := List.prefix_append σ2 [O.list ((ws.take (ws.length - 2)).map V.str)]
  have hl2 : ((ws.take (ws.length - 2)).map V.str).length ≤ 5 := by rw [List.length_map, List.length_take]; omega
  refine ⟨_, _, _, rfl, List.getElem?_concat_length, rfl, by omega, mapBody (g := asNum) (hz (by omega)) (fun σ' p' => ⟨_, pre_get p' List.getElem?_concat_length, rfl⟩) (fun v hv σ' p' Q' q' => ?_) fun σ' p' => ?_⟩
  · obtain ⟨w, hw', rfl⟩ := List.mem_map.mp hv
    refine callF E.numin.1 E.numin.2 rfl ?_
    repeat walk_at "e"
    exact numin_ok (S := (S.deeper (s02 21)).comp _) E (dn hn) hq (heach w (List.mem_of_mem_take hw')) (q' _ (List.prefix_refl _))
  rw [nums_V]
  have p4 := (p3.trans p').trans (List.prefix_append σ' [O.list ((optsOf ws).map optV)])
  have e4 : (σ' ++ [O.list ((optsOf ws).map optV)])[σ'.length]? = some (.list ((optsOf ws).map optV)) := List.getElem?_concat_length
  have e1' := pre_get p4 e1
  generalize σ'.length = io at e4 ⊢
  generalize σ' ++ [O.list ((optsOf ws).map optV)] = σ4 at p4 e4 e1' ⊢
  have q4 := q _ (p1.trans p4)
  (refine stsC ?_; first | ((with_reducible refine sAssL ?ha38 ?hd38 ?hb38); (case ha38 => exact rfl); (case hb38 => intro _; exact rfl)) | ((with_reducible refine sAssC ?ha38 ?hd38 ?hb38); (case ha38 => exact rfl); (case hb38 => intro _; exact rfl)) | (with_reducible first | refine sRet ?_ | refine sIf ?_) | ((with_reducible refine sExpr ?hd38 ?hb38); (case hb38 => intro _; exact rfl)))
  refine callF E.numin.1 E.numin.2 rfl ?_
  repeat walk_at "e"
  refine item_neg e1' rfl (by decide) (by omega) g1 (by decide) ?_
  repeat walk_at "e"
  refine numin_ok (S := S.deeper (s02 21)) E (dn hn) hq (hlast _) ?_
  (refine stsC ?_; first | ((with_reducible refine sAssL ?ha39 ?hd39 ?hb39); (case ha39 => exact rfl); (case hb39 => intro _; exact rfl)) | ((with_reducible refine sAssC ?ha39 ?hd39 ?hb39); (case ha39 => exact rfl); (case hb39 => intro _; exact rfl)) | (with_reducible first | refine sRet ?_ | refine sIf ?_) | ((with_reducible refine sExpr ?hd39 ?hb39); (case hb39 => intro _; exact rfl)))
  repeat walk_at "e"
  refine none_in e4 ?_
  cases hno : (optsOf ws).any Option.isNone with
  | true =>
    repeat walk_at "e"
    (refine stsC ?_; first | ((with_reducible refine sAssL ?ha40 ?hd40 ?hb40); (case ha40 => exact rfl); (case hb40 => intro _; exact rfl)) | ((with_reducible refine sAssC ?ha40 ?hd40 ?hb40); (case ha40 => exact rfl); (case hb40 => intro _; exact rfl)) | (with_reducible first | refine sRet ?_ | refine sIf ?_) | ((with_reducible refine sExpr ?hd40 ?hb40); (case hb40 => intro _; exact rfl)))
    repeat walk_at "e"
    rw [rd_opt hno] at q4
    exact q4
  | false =>
  repeat walk_at "e"
  cases hnum : numOf (ws.getD (ws.length - 1) Str.empty) 2000 with
  | none =>
    rw [rd_last hnum] at q4
    refine iT rfl ?_
    repeat walk_at "e"
    (refine stsC ?_; first | ((with_reducible refine sAssL ?ha41 ?hd41 ?hb41); (case ha41 => exact rfl); (case hb41 => intro _; exact rfl)) | ((with_reducible refine sAssC ?ha41 ?hd41 ?hb41); (case ha41 => exact rfl); (case hb41 => intro _; exact rfl)) | (with_reducible first | refine sRet ?_ | refine sIf ?_) | ((with_reducible refine sExpr ?hd41 ?hb41); (case hb41 => intro _; exact rfl)))
    repeat walk_at "e"
    exact q4
  | some b =>
  rw [rd_ok (by omega) hw hno hnum] at q4
  refine iN (nb rfl) ?_
  repeat walk_at "e"
  refine sts0 ?_
  (refine stsC ?_; first | ((with_reducible refine sAssL ?ha42 ?hd42 ?hb42); (case ha42 => exact rfl); (case hb42 => intro _; exact rfl)) | ((with_reducible refine sAssC ?ha42 ?hd42 ?hb42); (case ha42 => exact rfl); (case hb42 => intro _; exact rfl)) | (with_reducible first | refine sRet ?_ | refine sIf ?_) | ((with_reducible refine sExpr ?hd42 ?hb42); (case hb42 => intro _; exact rfl)))
  repeat walk_at "e"
  refine callTy rfl E.tuple Boot.«tuple» (by decide) ?_
  repeat walk_at "e"
  rw [opts_V hno] at e4
  refine tuple_ref e4 rfl (hz ?_) ?_
  · rw [← opts_V hno, List.length_map]
    unfold optsOf; rw [List.length_map, List.length_take]; omega
  repeat walk_at "e"
  refine item_neg e1' rfl (by decide) hlw g2 (by decide) ?_
  repeat walk_at "e"
  exact ⟨by show 3 ≤ sizeLine; decide, q4⟩

theorem refused_ok (E : E02 c a tk bt kk) (hn : S.n < 36) (hq : S.q = true) {v : V} (hread : ∀ {S : Stt} {ρ γ : En} {Q : V → List O → Prop} {X : Addr → List O → Prop}, S.n < 38 → S.q = true → (∀ σ', X bt σ') → WL VR c S (fun us => call (.ref (a 16)) us) [v] ρ γ Q X σ) (q : ∀ σ', Q (.bool true) σ') :
    WL VR c S (fun us => call (.ref (a 24)) us) [v] ρ γ Q X σ := by
  refine callB [("_law_text_here", v)] [] E.refused.2 rfl (dm hn) (by repeat (first | exact Par.nil | refine Par.cons rfl rfl ?_)) (by repeat (first | exact Par.nil | refine Par.cons rfl rfl ?_)) ?_
  refine stsC (sTry E.bad rfl rfl ?_)
  (refine stsC ?_; first | ((with_reducible refine sAssL ?ha43 ?hd43 ?hb43); (case ha43 => exact rfl); (case hb43 => intro _; exact rfl)) | ((with_reducible refine sAssC ?ha43 ?hd43 ?hb43); (case ha43 => exact rfl); (case hb43 => intro _; exact rfl)) | (with_reducible first | refine sRet ?_ | refine sIf ?_) | ((with_reducible refine sExpr ?hd43 ?hb43); (case hb43 => intro _; exact rfl)))
  refine callF E.read.1 E.read.2 rfl ?_
  repeat walk_at "e"
  refine hread (S := S.deeper (s02 24)) (dn hn) hq fun σ' => ⟨rfl, ?_⟩
  (refine stsC ?_; first | ((with_reducible refine sAssL ?ha44 ?hd44 ?hb44); (case ha44 => exact rfl); (case hb44 => intro _; exact rfl)) | ((with_reducible refine sAssC ?ha44 ?hd44 ?hb44); (case ha44 => exact rfl); (case hb44 => intro _; exact rfl)) | (with_reducible first | refine sRet ?_ | refine sIf ?_) | ((with_reducible refine sExpr ?hd44 ?hb44); (case hb44 => intro _; exact rfl)))
  repeat walk_at "e"
  refine tstP (callIsiG rfl E.isi rfl E.k2.1 ?_)
  repeat walk_at "e"
  refine E.k2.2 ?_
  repeat walk_at "e"
  refine tstP (callIsiG rfl E.isi rfl E.k3.1 ?_)
  repeat walk_at "e"
  refine E.k3.2 ?_
  repeat walk_at "e"
  refine tstP (callIsiG rfl E.isi rfl E.k4.1 ?_)
  repeat walk_at "e"
  refine E.k4.2 ?_
  repeat walk_at "e"
  refine sts0 ?_
  (refine stsC ?_; first | ((with_reducible refine sAssL ?ha45 ?hd45 ?hb45); (case ha45 => exact rfl); (case hb45 => intro _; exact rfl)) | ((with_reducible refine sAssC ?ha45 ?hd45 ?hb45); (case ha45 => exact rfl); (case hb45 => intro _; exact rfl)) | (with_reducible first | refine sRet ?_ | refine sIf ?_) | ((with_reducible refine sExpr ?hd45 ?hb45); (case hb45 => intro _; exact rfl)))
  repeat walk_at "e"
  refine tstP (callIsiG rfl E.isi rfl E.k5.1 ?_)
  repeat walk_at "e"
  refine E.k5.2 ?_
  repeat walk_at "e"
  refine tstP (callIsiG rfl E.isi rfl E.k1.1 ?_)
  repeat walk_at "e"
  refine E.k1.2 ?_
  repeat walk_at "e"
  refine sts0 ?_
  (refine stsC ?_; first | ((with_reducible refine sAssL ?ha46 ?hd46 ?hb46); (case ha46 => exact rfl); (case hb46 => intro _; exact rfl)) | ((with_reducible refine sAssC ?ha46 ?hd46 ?hb46); (case ha46 => exact rfl); (case hb46 => intro _; exact rfl)) | (with_reducible first | refine sRet ?_ | refine sIf ?_) | ((with_reducible refine sExpr ?hd46 ?hb46); (case hb46 => intro _; exact rfl)))
  refine boolAnd ?_
  refine callIsiG rfl E.isi rfl E.k0.1 ?_
  repeat walk_at "e"
  refine E.k0.2 ?_
  repeat walk_at "e"
  refine boolOp1 ?_
  refine callIsi rfl E.isi rfl E.ve.1 Boot.«ValueError» (by decide) ?_
  repeat walk_at "e"
  exact E.ve.2 ⟨_, rfl, q _⟩
end

def Strs (l : List V) : Prop := ∀ v ∈ l, ∃ x : Str, v = .str x ∧ x.length ≤ 5000
theorem Strs.nil : Strs [] := fun _ h => by cases h
theorem Strs.cons {x : Str} {l : List V} (h : x.length ≤ 5000) (t : Strs l) : Strs (.str x :: l) := fun v hv => by
  rcases List.mem_cons.mp hv with rfl | hv
  · exact ⟨x, rfl, h⟩
  · exact t v hv
theorem Strs.app {l l' : List V} (h : Strs l) (h' : Strs l') : Strs (l ++ l') := fun v hv => (List.mem_append.mp hv).elim (h v) (h' v)
theorem mul_len {x : Str} (h : x.length = 1) : (Txt.mul x 4400).length = 4400 := by
  have := len_mul x 4400
  rw [h] at this
  simp at this
  omega
theorem mulOk4 {x : Str} (h : x.length = 1) : MulOk x 4400 := mulOk_of 1 4400 (by omega) (by decide) (by decide) (by decide) (by decide)

section
variable {c : C0} {S : Stt} {ρ γ : List (Str × V)} {σ : List O} {Q : V → List O → Prop} {X : Addr → List O → Prop} {a : Nat → Addr} {tk : Nat → Tok} {bt : Addr} {kk : Nat → Addr}

inductive KDs (n : Nat) (Q : V → List O → Prop) (l : List V) (σ₁ : List O) : Prop where
  | mk (h1 : l.length = n) (h2 : n ≤ 1000) (s : Strs l) (q : ∀ l', l'.length = n → Strs l' → Q (.ref σ₁.length) (σ₁ ++ [.list l']))
theorem lstS (n : Nat) {es : List Expr} {pos : Pos} (h : WA c S pos es ρ γ (KDs n Q) X σ) : WE c S (.List es pos) ρ γ Q X σ :=
  lstD (W.imp h fun l σ₁ ⟨h1, h2, s, q⟩ => ⟨by rw [h1]; exact szOk h2, q l h1 s⟩)

theorem odd_ok (E : E02 c a tk bt kk) (hn : S.n < 40) {k : Int} (q : ∀ x σ', σ <+: σ' → x.length ≤ 5000 → Q (.str x) σ') : WL VR c S (fun us => call (.ref (a 22)) us) [.int k] ρ γ Q X σ := by
  refine callB [("_law_cell", .int k)] [] E.odd.2 rfl (dm hn) (by repeat (first | exact Par.nil | refine Par.cons rfl rfl ?_)) (by repeat (first | exact Par.nil | refine Par.cons rfl rfl ?_)) ?_
  (refine stsC ?_; first | ((with_reducible refine sAssL ?ha47 ?hd47 ?hb47); (case ha47 => exact rfl); (case hb47 => intro _; exact rfl)) | ((with_reducible refine sAssC ?ha47 ?hd47 ?hb47); (case ha47 => exact rfl); (case hb47 => intro _; exact rfl)) | (with_reducible first | refine sRet ?_ | refine sIf ?_) | ((with_reducible refine sExpr ?hd47 ?hb47); (case hb47 => intro _; exact rfl)))
  refine lstS 9 ?_
  repeat walk_at "e"
  refine ⟨rfl, by decide, by repeat (first | exact Strs.nil | refine Strs.cons (by decide +kernel) ?_), fun l1 n1 s1 => ?_⟩
  have p1 := List.prefix_append σ [O.list l1]
  have e1 : (σ ++ [O.list l1])[σ.length]? = some (.list l1) := List.getElem?_concat_length
  generalize σ.length = i1 at e1 ⊢
  generalize σ ++ [O.list l1] = σ1 at p1 e1 ⊢
  (refine stsC ?_; first | ((with_reducible refine sAssL ?ha48 ?hd48 ?hb48); (case ha48 => exact rfl); (case hb48 => intro _; exact rfl)) | ((with_reducible refine sAssC ?ha48 ?hd48 ?hb48); (case ha48 => exact rfl); (case hb48 => intro _; exact rfl)) | (with_reducible first | refine sRet ?_ | refine sIf ?_) | ((with_reducible refine sExpr ?hd48 ?hb48); (case hb48 => intro _; exact rfl)))
  refine binOp ?_
  walk_at "e"
  refine lstS 7 ?_
  repeat walk_at "e"
  refine ⟨rfl, by decide, by repeat (first | exact Strs.nil | refine Strs.cons (by decide +kernel) ?_), fun l2 n2 s2 => ?_⟩
  have p2 := List.prefix_append σ1 [O.list l2]
  refine add_ll (pre_get p2 e1) List.getElem?_concat_length (by omega) ?_
  have p3 := (p1.trans p2).trans (List.prefix_append (σ1 ++ [O.list l2]) [O.list (l1 ++ l2)])
  have e3 : (σ1 ++ [O.list l2] ++ [O.list (l1 ++ l2)])[(σ1 ++ [O.list l2]).length]? = some (.list (l1 ++ l2)) := List.getElem?_concat_length
  generalize (σ1 ++ [O.list l2]).length = i3 at e3 ⊢
  generalize σ1 ++ [O.list l2] ++ [O.list (l1 ++ l2)] = σ3 at p3 e3 ⊢
  have s3 := s1.app s2
  have n3 : (l1 ++ l2).length = 16 := by rw [List.length_append, n1, n2]
  generalize l1 ++ l2 = l3 at e3 s3 n3
  (refine stsC ?_; first | ((with_reducible refine sAssL ?ha49 ?hd49 ?hb49); (case ha49 => exact rfl); (case hb49 => intro _; exact rfl)) | ((with_reducible refine sAssC ?ha49 ?hd49 ?hb49); (case ha49 => exact rfl); (case hb49 => intro _; exact rfl)) | (with_reducible first | refine sRet ?_ | refine sIf ?_) | ((with_reducible refine sExpr ?hd49 ?hb49); (case hb49 => intro _; exact rfl)))
  refine binOp ?_
  walk_at "e"
  refine lstS 6 ?_
  repeat walk_at "e"
  refine ⟨rfl, by decide, by repeat (first | exact Strs.nil | refine Strs.cons (by decide +kernel) ?_), fun l4 n4 s4 => ?_⟩
  have p4 := List.prefix_append σ3 [O.list l4]
  refine add_ll (pre_get p4 e3) List.getElem?_concat_length (by omega) ?_
  have p5 := (p3.trans p4).trans (List.prefix_append (σ3 ++ [O.list l4]) [O.list (l3 ++ l4)])
  have e5 : (σ3 ++ [O.list l4] ++ [O.list (l3 ++ l4)])[(σ3 ++ [O.list l4]).length]? = some (.list (l3 ++ l4)) := List.getElem?_concat_length
  generalize (σ3 ++ [O.list l4]).length = i5 at e5 ⊢
  generalize σ3 ++ [O.list l4] ++ [O.list (l3 ++ l4)] = σ5 at p5 e5 ⊢
  have s5 := s3.app s4
  have n5 : (l3 ++ l4).length = 22 := by rw [List.length_append, n3, n4]
  generalize l3 ++ l4 = l5 at e5 s5 n5
  have u1 : (Str.ofString "9").length = 1 := by decide +kernel
  have u2 : (Str.ofString "8").length = 1 := by decide +kernel
  have u3 : (Str.ofString " most 0").length = 7 := by decide +kernel
  have u4 : (Str.ofString "1 least -").length = 9 := by decide +kernel
  have v1 := mul_len u1
  have v2 := mul_len u2
  (refine stsC ?_; first | ((with_reducible refine sAssL ?ha50 ?hd50 ?hb50); (case ha50 => exact rfl); (case hb50 => intro _; exact rfl)) | ((with_reducible refine sAssC ?ha50 ?hd50 ?hb50); (case ha50 => exact rfl); (case hb50 => intro _; exact rfl)) | (with_reducible first | refine sRet ?_ | refine sIf ?_) | ((with_reducible refine sExpr ?hd50 ?hb50); (case hb50 => intro _; exact rfl)))
  refine binOp ?_
  walk_at "e"
  refine lstS 2 ?_
  repeat walk_at "e"
  refine mul_si (mulOk4 u1) ?_
  repeat walk_at "e"
  refine add_ss (by rw [v1, u3]; decide) ?_
  repeat walk_at "e"
  refine mul_si (mulOk4 u2) ?_
  refine add_ss (by rw [v2, u4]; decide) ?_
  repeat walk_at "e"
  refine ⟨rfl, by decide, Strs.cons (by rw [app_len, v1, u3]; decide) (Strs.cons (by rw [app_len, v2, u4]; decide) Strs.nil), fun l6 n6 s6 => ?_⟩
  have p6 := List.prefix_append σ5 [O.list l6]
  refine add_ll (pre_get p6 e5) List.getElem?_concat_length (by omega) ?_
  have p7 := (p5.trans p6).trans (List.prefix_append (σ5 ++ [O.list l6]) [O.list (l5 ++ l6)])
  have e7 : (σ5 ++ [O.list l6] ++ [O.list (l5 ++ l6)])[(σ5 ++ [O.list l6]).length]? = some (.list (l5 ++ l6)) := List.getElem?_concat_length
  generalize (σ5 ++ [O.list l6]).length = i7 at e7 ⊢
  generalize σ5 ++ [O.list l6] ++ [O.list (l5 ++ l6)] = σ7 at p7 e7 ⊢
  have s7 := s5.app s6
  have n7 : (l5 ++ l6).length = 24 := by rw [List.length_append, n5, n6]
  generalize l5 ++ l6 = l7 at e7 s7 n7
  (refine stsC ?_; first | ((with_reducible refine sAssL ?ha51 ?hd51 ?hb51); (case ha51 => exact rfl); (case hb51 => intro _; exact rfl)) | ((with_reducible refine sAssC ?ha51 ?hd51 ?hb51); (case ha51 => exact rfl); (case hb51 => intro _; exact rfl)) | (with_reducible first | refine sRet ?_ | refine sIf ?_) | ((with_reducible refine sExpr ?hd51 ?hb51); (case hb51 => intro _; exact rfl)))
  repeat walk_at "e"
  have f := fm (F := k) (b := 24) (by decide)
  have hlt : (k.fmod 24).toNat < l7.length := by omega
  obtain ⟨x, hx, hz⟩ := s7 _ (List.getElem_mem hlt)
  exact item_list e7 rfl f.1 (by rw [List.getElem?_eq_getElem hlt, hx]) (by omega) (q x _ p7 hz)

theorem text_ok (E : E02 c a tk bt kk) (hn : S.n < 38) {t : Str} (h1 : 1 ≤ t.length) (h30 : t.length ≤ 30) {k ce : Int} (q : ∀ x σ', σ <+: σ' → x.length ≤ 5000 → Q (.str x) σ') :
    WL VR c S (fun us => call (.ref (a 23)) us) [.str t, .int k, .int ce] ρ γ Q X σ := by
  refine callB [("_law_text_here", .str t), ("_law_kind", .int k), ("_law_cell", .int ce)] [] E.text.2 rfl (dm hn) (by repeat (first | exact Par.nil | refine Par.cons rfl rfl ?_)) (by repeat (first | exact Par.nil | refine Par.cons rfl rfl ?_)) ?_
  have hz : ∀ {n : Nat}, n ≤ 6000 → n ≤ sizeLine := fun h => Nat.le_trans h (by decide)
  have ht : t.length ≤ sizeLine := hz (by omega)
  have sl : ∀ l u, (Txt.slice t l u).length ≤ 30 := fun l u => Nat.le_trans (Txt.slice_le t l u) h30
  (refine stsC ?_; first | ((with_reducible refine sAssL ?ha52 ?hd52 ?hb52); (case ha52 => exact rfl); (case hb52 => intro _; exact rfl)) | ((with_reducible refine sAssC ?ha52 ?hd52 ?hb52); (case ha52 => exact rfl); (case hb52 => intro _; exact rfl)) | (with_reducible first | refine sRet ?_ | refine sIf ?_) | ((with_reducible refine sExpr ?hd52 ?hb52); (case hb52 => intro _; exact rfl)))
  repeat walk_at "e"
  refine callBu rfl E.len Boot.«len» (by decide) ?_
  repeat walk_at "e"
  refine len_s ht ?_
  repeat walk_at "e"
  (refine stsC ?_; first | ((with_reducible refine sAssL ?ha53 ?hd53 ?hb53); (case ha53 => exact rfl); (case hb53 => intro _; exact rfl)) | ((with_reducible refine sAssC ?ha53 ?hd53 ?hb53); (case ha53 => exact rfl); (case hb53 => intro _; exact rfl)) | (with_reducible first | refine sRet ?_ | refine sIf ?_) | ((with_reducible refine sExpr ?hd53 ?hb53); (case hb53 => intro _; exact rfl)))
  repeat walk_at "e"
  by_cases k1 : k = 1
  · refine iT (eT k1) ?_
    (refine stsC ?_; first | ((with_reducible refine sAssL ?ha54 ?hd54 ?hb54); (case ha54 => exact rfl); (case hb54 => intro _; exact rfl)) | ((with_reducible refine sAssC ?ha54 ?hd54 ?hb54); (case ha54 => exact rfl); (case hb54 => intro _; exact rfl)) | (with_reducible first | refine sRet ?_ | refine sIf ?_) | ((with_reducible refine sExpr ?hd54 ?hb54); (case hb54 => intro _; exact rfl)))
    refine binOp ?_
    refine binOp ?_
    refine sliceTo ?_
    repeat walk_at "e"
    refine ⟨_, _, rfl, rfl, ht, ?_⟩
    repeat walk_at "e"
    have f := fm (F := ce.fdiv 97) (b := 18) (by decide)
    have hs : (Str.ofString "0123456789- +.\n\tem").cps.size = 18 := by decide +kernel
    obtain ⟨ch, hch⟩ : ∃ ch, (Str.ofString "0123456789- +.\n\tem").cps[((ce.fdiv 97).fmod 18).toNat]? = some ch := ⟨_, Array.getElem?_eq_getElem (by rw [hs]; omega)⟩
    refine item_s f.1 (by omega) hch ?_
    refine add_ss (hz (Nat.le_trans (Nat.add_le_add (sl _ _) (Nat.le_refl 1)) (by decide))) ?_
    refine sliceFr ?_
    repeat walk_at "e"
    refine ⟨_, _, rfl, rfl, ht, ?_⟩
    have b1 : (Txt.slice t none (some (ce.fmod ((t.length : Int) + 1))) ++ (⟨#[ch]⟩ : Str)).length ≤ 31 := by rw [app_len]; exact Nat.add_le_add (sl _ _) (Nat.le_refl 1)
    refine add_ss (hz (Nat.le_trans (Nat.add_le_add b1 (sl _ _)) (by decide))) ?_
    exact q _ _ (List.prefix_refl _) (by rw [app_len]; exact Nat.le_trans (Nat.add_le_add b1 (sl _ _)) (by decide))
  refine iN (eF k1) ?_
  refine sts0 ?_
  (refine stsC ?_; first | ((with_reducible refine sAssL ?ha55 ?hd55 ?hb55); (case ha55 => exact rfl); (case hb55 => intro _; exact rfl)) | ((with_reducible refine sAssC ?ha55 ?hd55 ?hb55); (case ha55 => exact rfl); (case hb55 => intro _; exact rfl)) | (with_reducible first | refine sRet ?_ | refine sIf ?_) | ((with_reducible refine sExpr ?hd55 ?hb55); (case hb55 => intro _; exact rfl)))
  repeat walk_at "e"
  by_cases k2 : k = 2
  · refine iT (eT k2) ?_
    (refine stsC ?_; first | ((with_reducible refine sAssL ?ha56 ?hd56 ?hb56); (case ha56 => exact rfl); (case hb56 => intro _; exact rfl)) | ((with_reducible refine sAssC ?ha56 ?hd56 ?hb56); (case ha56 => exact rfl); (case hb56 => intro _; exact rfl)) | (with_reducible first | refine sRet ?_ | refine sIf ?_) | ((with_reducible refine sExpr ?hd56 ?hb56); (case hb56 => intro _; exact rfl)))
    repeat walk_at "e"
    refine callBu rfl E.len Boot.«len» (by decide) ?_
    repeat walk_at "e"
    refine len_s ht ?_
    repeat walk_at "e"
    (refine stsC ?_; first | ((with_reducible refine sAssL ?ha57 ?hd57 ?hb57); (case ha57 => exact rfl); (case hb57 => intro _; exact rfl)) | ((with_reducible refine sAssC ?ha57 ?hd57 ?hb57); (case ha57 => exact rfl); (case hb57 => intro _; exact rfl)) | (with_reducible first | refine sRet ?_ | refine sIf ?_) | ((with_reducible refine sExpr ?hd57 ?hb57); (case hb57 => intro _; exact rfl)))
    refine binOp ?_
    refine sliceTo ?_
    repeat walk_at "e"
    refine ⟨_, _, rfl, rfl, ht, ?_⟩
    refine sliceFr ?_
    repeat walk_at "e"
    refine ⟨_, _, rfl, rfl, ht, ?_⟩
    refine add_ss (hz (Nat.le_trans (Nat.add_le_add (sl _ _) (sl _ _)) (by decide))) ?_
    exact q _ _ (List.prefix_refl _) (by rw [app_len]; exact Nat.le_trans (Nat.add_le_add (sl _ _) (sl _ _)) (by decide))
  refine iN (eF k2) ?_
  refine sts0 ?_
  (refine stsC ?_; first | ((with_reducible refine sAssL ?ha58 ?hd58 ?hb58); (case ha58 => exact rfl); (case hb58 => intro _; exact rfl)) | ((with_reducible refine sAssC ?ha58 ?hd58 ?hb58); (case ha58 => exact rfl); (case hb58 => intro _; exact rfl)) | (with_reducible first | refine sRet ?_ | refine sIf ?_) | ((with_reducible refine sExpr ?hd58 ?hb58); (case hb58 => intro _; exact rfl)))
  repeat walk_at "e"
  by_cases k3 : k = 3
  · refine iT (eT k3) ?_
    (refine stsC ?_; first | ((with_reducible refine sAssL ?ha59 ?hd59 ?hb59); (case ha59 => exact rfl); (case hb59 => intro _; exact rfl)) | ((with_reducible refine sAssC ?ha59 ?hd59 ?hb59); (case ha59 => exact rfl); (case hb59 => intro _; exact rfl)) | (with_reducible first | refine sRet ?_ | refine sIf ?_) | ((with_reducible refine sExpr ?hd59 ?hb59); (case hb59 => intro _; exact rfl)))
    refine methS GM.split ?_
    repeat walk_at "e"
    refine ⟨_, rfl, ?_⟩
    repeat walk_at "e"
    refine split_s (hz (by omega)) (by decide +kernel) ?_
    have m1 : 1 ≤ (Txt.split t (Str.ofString " ")).length := split_pos _ _
    have m2 : (Txt.split t (Str.ofString " ")).length ≤ 32 := Nat.le_trans (split_le _ _) (by omega)
    have m3 : ∀ w ∈ Txt.split t (Str.ofString " "), w.length ≤ 30 := fun w h => Nat.le_trans (split_each h) h30
    generalize Txt.split t (Str.ofString " ") = ws at m1 m2 m3 ⊢
    have p1 := List.prefix_append σ [O.list (ws.map V.str)]
    have e1 : (σ ++ [O.list (ws.map V.str)])[σ.length]? = some (.list (ws.map V.str)) := List.getElem?_concat_length
    have hi : σ.length ≤ σ.length := Nat.le_refl _
    generalize hiw : σ.length = iw at e1 hi ⊢
    generalize σ ++ [O.list (ws.map V.str)] = σ1 at p1 e1 ⊢
    (refine stsC ?_; first | ((with_reducible refine sAssL ?ha60 ?hd60 ?hb60); (case ha60 => exact rfl); (case hb60 => intro _; exact rfl)) | ((with_reducible refine sAssC ?ha60 ?hd60 ?hb60); (case ha60 => exact rfl); (case hb60 => intro _; exact rfl)) | (with_reducible first | refine sRet ?_ | refine sIf ?_) | ((with_reducible refine sExpr ?hd60 ?hb60); (case hb60 => intro _; exact rfl)))
    repeat walk_at "e"
    refine callBu rfl E.len Boot.«len» (by decide) ?_
    repeat walk_at "e"
    refine len_ref e1 rfl (by rw [List.length_map]; omega) ?_
    rw [List.length_map]
    repeat walk_at "e"
    (refine stsC ?_; first | ((with_reducible refine sAssL ?ha61 ?hd61 ?hb61); (case ha61 => exact rfl); (case hb61 => intro _; exact rfl)) | ((with_reducible refine sAssC ?ha61 ?hd61 ?hb61); (case ha61 => exact rfl); (case hb61 => intro _; exact rfl)) | (with_reducible first | refine sRet ?_ | refine sIf ?_) | ((with_reducible refine sExpr ?hd61 ?hb61); (case hb61 => intro _; exact rfl)))
    repeat walk_at "e"
    refine callBu rfl E.len Boot.«len» (by decide) ?_
    repeat walk_at "e"
    refine len_ref e1 rfl (by rw [List.length_map]; omega) ?_
    rw [List.length_map]
    repeat walk_at "e"
    have f1 := fm (F := ce) (b := (ws.length : Int)) (by omega)
    have f2 := fm (F := ce.fdiv 97) (b := (ws.length : Int)) (by omega)
    generalize ce.fmod (ws.length : Int) = x1 at f1 ⊢
    generalize (ce.fdiv 97).fmod (ws.length : Int) = x2 at f2 ⊢
    have l1 : x1.toNat < ws.length := by omega
    have l2 : x2.toNat < ws.length := by omega
    have g1 : (ws.map V.str)[x1.toNat]? = some (.str ws[x1.toNat]) := by rw [List.getElem?_map, List.getElem?_eq_getElem l1]; rfl
    have g2 : (ws.map V.str)[x2.toNat]? = some (.str ws[x2.toNat]) := by rw [List.getElem?_map, List.getElem?_eq_getElem l2]; rfl
    (refine stsC ?_; first | ((with_reducible refine sAssL ?ha62 ?hd62 ?hb62); (case ha62 => exact rfl); (case hb62 => intro _; exact rfl)) | ((with_reducible refine sAssC ?ha62 ?hd62 ?hb62); (case ha62 => exact rfl); (case hb62 => intro _; exact rfl)) | (with_reducible first | refine sRet ?_ | refine sIf ?_) | ((with_reducible refine sExpr ?hd62 ?hb62); (case hb62 => intro _; exact rfl)))
    repeat walk_at "e"
    refine item_list e1 rfl f1.1 g1 (by omega) ?_
    refine stsC (sSet ?_)
    repeat walk_at "e"
    refine item_list e1 rfl f2.1 g2 (by omega) ?_
    repeat walk_at "e"
    refine ⟨_, _, _, rfl, rfl, e1, f1.1, by rw [List.length_map]; omega, by omega, ?_⟩
    have e2 : (σ1.set iw (.list ((ws.map V.str).set x1.toNat (.str ws[x2.toNat]))))[iw]? = some (.list ((ws.map V.str).set x1.toNat (.str ws[x2.toNat]))) := List.getElem?_set_self (List.getElem?_eq_some_iff.mp e1).1
    have p2 := pre_set (o := .list ((ws.map V.str).set x1.toNat (.str ws[x2.toNat]))) p1 (Nat.le_of_eq hiw)
    generalize σ1.set iw (.list ((ws.map V.str).set x1.toNat (.str ws[x2.toNat]))) = σ2 at e2 p2 ⊢
    refine stsC (sSet ?_)
    repeat walk_at "e"
    refine ⟨_, _, _, rfl, rfl, e2, f2.1, by rw [List.length_set, List.length_map]; omega, by omega, ?_⟩
    have ev : ((ws.map V.str).set x1.toNat (.str ws[x2.toNat])).set x2.toNat (.str ws[x1.toNat]) = ((ws.set x1.toNat ws[x2.toNat]).set x2.toNat ws[x1.toNat]).map V.str := by rw [List.map_set, List.map_set]
    rw [ev]
    have hj := joinOk (l := (ws.set x1.toNat ws[x2.toNat]).set x2.toNat ws[x1.toNat]) (B := 30) (N := 32) (fun w hw => by
      rcases List.mem_or_eq_of_mem_set hw with hw | rfl
      · rcases List.mem_or_eq_of_mem_set hw with hw | rfl
        · exact m3 w hw
        · exact m3 _ (List.getElem_mem l2)
      · exact m3 _ (List.getElem_mem l1)) (by rw [List.length_set, List.length_set]; exact m2) (by decide)
    have e3 : (σ2.set iw (.list (((ws.set x1.toNat ws[x2.toNat]).set x2.toNat ws[x1.toNat]).map V.str)))[iw]? = some (.list (((ws.set x1.toNat ws[x2.toNat]).set x2.toNat ws[x1.toNat]).map V.str)) := List.getElem?_set_self (List.getElem?_eq_some_iff.mp e2).1
    have p3 := pre_set (o := .list (((ws.set x1.toNat ws[x2.toNat]).set x2.toNat ws[x1.toNat]).map V.str)) p2 (Nat.le_of_eq hiw)
    (refine stsC ?_; first | ((with_reducible refine sAssL ?ha63 ?hd63 ?hb63); (case ha63 => exact rfl); (case hb63 => intro _; exact rfl)) | ((with_reducible refine sAssC ?ha63 ?hd63 ?hb63); (case ha63 => exact rfl); (case hb63 => intro _; exact rfl)) | (with_reducible first | refine sRet ?_ | refine sIf ?_) | ((with_reducible refine sExpr ?hd63 ?hb63); (case hb63 => intro _; exact rfl)))
    refine methS GM.join ?_
    repeat walk_at "e"
    refine ⟨_, rfl, ?_⟩
    repeat walk_at "e"
    refine join_s e3 rfl hj.1 ?_
    exact q _ _ p3 (Nat.le_trans hj.2 (by decide))
  refine iN (eF k3) ?_
  refine sts0 ?_
  (refine stsC ?_; first | ((with_reducible refine sAssL ?ha64 ?hd64 ?hb64); (case ha64 => exact rfl); (case hb64 => intro _; exact rfl)) | ((with_reducible refine sAssC ?ha64 ?hd64 ?hb64); (case ha64 => exact rfl); (case hb64 => intro _; exact rfl)) | (with_reducible first | refine sRet ?_ | refine sIf ?_) | ((with_reducible refine sExpr ?hd64 ?hb64); (case hb64 => intro _; exact rfl)))
  repeat walk_at "e"
  by_cases k4 : k = 4
  · refine iT (eT k4) ?_
    (refine stsC ?_; first | ((with_reducible refine sAssL ?ha65 ?hd65 ?hb65); (case ha65 => exact rfl); (case hb65 => intro _; exact rfl)) | ((with_reducible refine sAssC ?ha65 ?hd65 ?hb65); (case ha65 => exact rfl); (case hb65 => intro _; exact rfl)) | (with_reducible first | refine sRet ?_ | refine sIf ?_) | ((with_reducible refine sExpr ?hd65 ?hb65); (case hb65 => intro _; exact rfl)))
    refine callF E.odd.1 E.odd.2 rfl ?_
    repeat walk_at "e"
    exact odd_ok (S := S.deeper (s02 23)) E (dn hn) q
  refine iN (eF k4) ?_
  refine sts0 ?_
  (refine stsC ?_; first | ((with_reducible refine sAssL ?ha66 ?hd66 ?hb66); (case ha66 => exact rfl); (case hb66 => intro _; exact rfl)) | ((with_reducible refine sAssC ?ha66 ?hd66 ?hb66); (case ha66 => exact rfl); (case hb66 => intro _; exact rfl)) | (with_reducible first | refine sRet ?_ | refine sIf ?_) | ((with_reducible refine sExpr ?hd66 ?hb66); (case hb66 => intro _; exact rfl)))
  repeat walk_at "e"
  exact q _ _ (List.prefix_refl _) (by omega)
end

theorem canAll {ds : List PyData} (h : ∀ d ∈ ds, d.canLay0 = true) : PyData.canLayAll0 ds = true := by
  induction ds with
  | nil => rfl
  | cons d ds ih => rw [PyData.canLayAll0, h d (.head _), ih fun d hd => h d (.tail _ hd)]; rfl
theorem depAll {ds : List PyData} {n : Nat} (h : ∀ d ∈ ds, d.depth ≤ n) : PyData.depthAll ds ≤ n := by
  induction ds with
  | nil => exact Nat.zero_le _
  | cons d ds ih => rw [PyData.depthAll]; exact Nat.max_le.mpr ⟨h d (.head _), ih fun d hd => h d (.tail _ hd)⟩
theorem rds_ints (σ : List O) : ∀ ns : List Int, Rds σ (ns.map V.int) (ns.map PyData.int)
  | [] => .nil
  | _ :: r => .cons (.int _) (rds_ints σ r)
noncomputable def rdD (ns : List Int) (w : Str) (b : Int) : PyData := .tuple [.tuple (ns.map PyData.int), .str w, .int b]
theorem rd_row (σ : List O) (ns : List Int) (w : Str) (b : Int) : Rd σ (.tup [.tup (ns.map V.int), .str w, .int b]) (rdD ns w b) := .tup (.cons (.tup (rds_ints σ ns)) (.cons (.str _) (.cons (.int _) .nil)))
theorem rd_shaped {ns : List Int} {w : Str} {b : Int} (hw : okWord w = true) : SeqAt.shaped (rdD ns w b) = true := by
  have hs : PyData.strOk w = true := by
    unfold okWord at hw
    simp only [List.any_cons, List.any_nil, Bool.or_false, Bool.or_eq_true, beq_iff_eq] at hw
    rcases hw with rfl | rfl <;> decide +kernel
  have h1 : (rdD ns w b).canLay0 = true := by
    unfold rdD
    rw [PyData.canLay0]
    refine canAll fun d hd => ?_
    rcases List.mem_cons.mp hd with rfl | hd
    · rw [PyData.canLay0]
      refine canAll fun d hd => ?_
      obtain ⟨n, _, rfl⟩ := List.mem_map.mp hd
      rfl
    · rcases List.mem_cons.mp hd with rfl | hd
      · exact hs
      · rw [List.mem_singleton.mp hd]; rfl
  have h2 : (rdD ns w b).depth ≤ 2 := by
    unfold rdD
    rw [PyData.depth]
    refine Nat.succ_le_succ (depAll (n := 1) fun d hd => ?_)
    rcases List.mem_cons.mp hd with rfl | hd
    · rw [PyData.depth]
      refine Nat.succ_le_succ (depAll (n := 0) fun d hd => ?_)
      obtain ⟨n, _, rfl⟩ := List.mem_map.mp hd
      exact Nat.le_refl _
    · rcases List.mem_cons.mp hd with rfl | hd
      · exact Nat.zero_le _
      · rw [List.mem_singleton.mp hd]; exact Nat.zero_le _
  unfold SeqAt.shaped
  rw [h1, decide_eq_true (Nat.le_trans h2 (by decide))]; rfl
theorem rd_word_ok {ws : List Str} {ns : List Int} {w : Str} {b : Int} (h : rd ws = some (ns, w, b)) : okWord w = true := by
  unfold rd at h
  split at h
  · cases h
  · split at h
    · cases h
    · rename_i hw
      split at h
      · cases h
      · split at h
        · cases h
        · cases h
          simpa using hw
theorem rd_len {ws : List Str} {ns : List Int} {w : Str} {b : Int} (h : rd ws = some (ns, w, b)) : ns.length ≤ 5 := by
  unfold rd at h
  split at h
  · cases h
  · rename_i hl
    split at h
    · cases h
    · split at h
      · cases h
      · split at h
        · cases h
        · cases h
          refine Nat.le_trans (List.length_filterMap_le _ _) ?_
          unfold optsOf
          rw [List.length_map, List.length_take]
          omega
theorem two (F : Int) : F.fmod 2 = 0 ∨ F.fmod 2 = 1 := by
  have := fm (F := F) (b := 2) (by decide)
  omega
theorem four (F : Int) : F.fmod 4 = 0 ∨ F.fmod 4 = 1 ∨ F.fmod 4 = 2 ∨ F.fmod 4 = 3 := by
  have := fm (F := F) (b := 4) (by decide)
  omega

section
variable {c : C0} {σ : List O} {a : Nat → Addr} {tk : Nat → Tok} {bt : Addr} {kk : Nat → Addr}

theorem law_ok (E : E02 c a tk bt kk) {ns : List Int} (h0 : σ[0]? = some (.ro (ns.map V.int))) (hl : ns.length ≤ 63) :
    WSs c { n := 1, kd := fun x => (s02 25).names.lookup x, q := true } (b02 25) [] [("_law_script", .ref 0)] (fun fl _ _ _ => fl = .ret (.bool true)) (fun _ _ => False) σ := by
  (refine stsC ?_; first | ((with_reducible refine sAssL ?ha67 ?hd67 ?hb67); (case ha67 => exact rfl); (case hb67 => intro _; exact rfl)) | ((with_reducible refine sAssC ?ha67 ?hd67 ?hb67); (case ha67 => exact rfl); (case hb67 => intro _; exact rfl)) | (with_reducible first | refine sRet ?_ | refine sIf ?_) | ((with_reducible refine sExpr ?hd67 ?hb67); (case hb67 => intro _; exact rfl)))
  repeat walk_at "e"
  refine callF E.cell.1 E.cell.2 rfl ?_
  repeat walk_at "e"
  refine cell_ok E (by decide) h0 rfl hl ?_
  repeat walk_at "e"
  have f3 := fm (F := cellAt ns 0) (b := 3) (by decide)
  obtain ⟨m, hm, hm3⟩ : ∃ m : Nat, 1 + (cellAt ns 0).fmod 3 = (m : Int) ∧ m ≤ 3 := ⟨(1 + (cellAt ns 0).fmod 3).toNat, by omega, by omega⟩
  rw [hm]
  refine stsC (sAssCompN rfl (compOk rfl rfl) rfl rfl rfl ?_)
  refine wiRange rfl E.range Boot.«range» ?_
  repeat walk_at "e"
  refine ⟨_, rfl, by omega, by omega, ?_⟩
  rw [Int.toNat_natCast]
  refine ⟨szOk (by rw [cnt_len]; omega), fun j rs σ' => σ = σ' ∧ ∃ xs : List Int, rs = xs.map V.int ∧ xs.length = j ∧ In (-50) 50 xs, ⟨rfl, [], rfl, rfl, fun _ h => by cases h⟩, ?_, ?_⟩
  · rintro j v rs _ hv hsrc ⟨rfl, xs, rfl, hlen, hI⟩
    have hj : j < m := by have := (List.getElem?_eq_some_iff.mp hv).1; rwa [cnt_len] at this
    rw [cnt_get hj] at hv; cases hv
    repeat walk_at "e"
    refine callF E.cell.1 E.cell.2 rfl ?_
    repeat walk_at "e"
    refine cell_ok E (by decide) h0 rfl hl ?_
    repeat walk_at "e"
    have f := fm (F := cellAt ns (1 + (j : Int))) (b := 101) (by decide)
    refine ⟨trivial, rfl, xs ++ [(cellAt ns (1 + (j : Int))).fmod 101 - 50], by rw [List.map_append]; rfl, by rw [List.length_append, hlen]; rfl, fun n hn => ?_⟩
    rcases List.mem_append.mp hn with hn | hn
    · exact hI n hn
    · rw [List.mem_singleton.mp hn]; omega
  rintro rs _ _ ⟨rfl, xs, rfl, hlen, hI⟩
  rw [cnt_len] at hlen
  have hx3 : xs.length ≤ 3 := by omega
  have p1 := List.prefix_append σ [O.list (xs.map V.int)]
  have e1 : (σ ++ [O.list (xs.map V.int)])[σ.length]? = some (.list (xs.map V.int)) := List.getElem?_concat_length
  have h1 := pre_get p1 h0
  generalize σ.length = ix at e1 ⊢
  generalize σ ++ [O.list (xs.map V.int)] = σ1 at p1 e1 h1 ⊢
  clear f3 hm
  (refine stsC ?_; first | ((with_reducible refine sAssL ?ha68 ?hd68 ?hb68); (case ha68 => exact rfl); (case hb68 => intro _; exact rfl)) | ((with_reducible refine sAssC ?ha68 ?hd68 ?hb68); (case ha68 => exact rfl); (case hb68 => intro _; exact rfl)) | (with_reducible first | refine sRet ?_ | refine sIf ?_) | ((with_reducible refine sExpr ?hd68 ?hb68); (case hb68 => intro _; exact rfl)))
  refine callF E.cell.1 E.cell.2 rfl ?_
  repeat walk_at "e"
  refine cell_ok E (by decide) h1 rfl hl ?_
  generalize cellAt ns 4 = la
  (refine stsC ?_; first | ((with_reducible refine sAssL ?ha69 ?hd69 ?hb69); (case ha69 => exact rfl); (case hb69 => intro _; exact rfl)) | ((with_reducible refine sAssC ?ha69 ?hd69 ?hb69); (case ha69 => exact rfl); (case hb69 => intro _; exact rfl)) | (with_reducible first | refine sRet ?_ | refine sIf ?_) | ((with_reducible refine sExpr ?hd69 ?hb69); (case hb69 => intro _; exact rfl)))
  repeat walk_at "e"
  refine callTy rfl E.tuple Boot.«tuple» (by decide) ?_
  repeat walk_at "e"
  refine tuple_ref e1 rfl (szOk (by rw [List.length_map]; omega)) ?_
  repeat walk_at "e"
  refine ⟨by show 2 ≤ sizeLine; decide, ?_⟩
  repeat walk_at "e"
  obtain ⟨wd, hwd, hw5⟩ : ∃ wd : Str, ([V.str "most", V.str "least"])[(la.fmod 2).toNat]? = some (.str wd) ∧ wd.length ≤ 5 := by
    rcases two la with h | h <;> rw [h]
    · exact ⟨_, rfl, by decide +kernel⟩
    · exact ⟨_, rfl, by decide +kernel⟩
  have f2 := fm (F := la) (b := 2) (by decide)
  refine item_list List.getElem?_concat_length rfl f2.1 hwd (by omega) ?_
  have p2 := List.prefix_append σ1 [O.list [V.str "most", V.str "least"]]
  replace e1 := pre_get p2 e1
  replace h1 := pre_get p2 h1
  generalize σ1 ++ [O.list [V.str "most", V.str "least"]] = σ2 at e1 h1 ⊢
  clear p1 p2 σ1
  repeat walk_at "e"
  refine ⟨by show 3 ≤ sizeLine; decide, ?_⟩
  have fb := fm (F := la.fdiv 2) (b := 4001) (by decide)
  have hb : -2000 ≤ (la.fdiv 2).fmod 4001 - 2000 ∧ (la.fdiv 2).fmod 4001 - 2000 ≤ 2000 := by omega
  generalize (la.fdiv 2).fmod 4001 - 2000 = b at hb ⊢
  have hJ := words_ok hx3 hI hw5 hb
  -- the words
  (refine stsC ?_; first | ((with_reducible refine sAssL ?ha70 ?hd70 ?hb70); (case ha70 => exact rfl); (case hb70 => intro _; exact rfl)) | ((with_reducible refine sAssC ?ha70 ?hd70 ?hb70); (case ha70 => exact rfl); (case hb70 => intro _; exact rfl)) | (with_reducible first | refine sRet ?_ | refine sIf ?_) | ((with_reducible refine sExpr ?hd70 ?hb70); (case hb70 => intro _; exact rfl)))
  refine binOp ?_
  refine compN rfl (compOk rfl rfl) rfl ?_
  refine wiList ?_
  repeat walk_at "e"
  refine ⟨_, _, _, rfl, e1, rfl, by rw [List.length_map]; omega, mapBody (g := asTxt) (szOk (by rw [List.length_map]; omega)) (fun σ' p' => ⟨_, pre_get p' e1, rfl⟩) (fun v hv σ' p' Q' q' => ?_) fun σ' p' => ?_⟩
  · obtain ⟨n, h, rfl⟩ := List.mem_map.mp hv
    have := hI n h
    refine callTy rfl E.str Boot.«str» (by decide) ?_
    repeat walk_at "e"
    exact str_i (int_log (by omega) (by omega)) (q' _ (List.prefix_refl _))
  rw [map_txt]
  repeat walk_at "e"
  refine callTy rfl E.str Boot.«str» (by decide) ?_
  repeat walk_at "e"
  refine item_tup (by decide) rfl (by decide) ?_
  repeat walk_at "e"
  refine str_i (int_log hb.1 hb.2) ?_
  repeat walk_at "e"
  refine ⟨by show 2 ≤ sizeLine; decide, ?_⟩
  have p3 := p'.trans (List.prefix_append σ' [O.list ((xs.map txt).map V.str)])
  have e3 : (σ' ++ [O.list ((xs.map txt).map V.str)])[σ'.length]? = some (.list ((xs.map txt).map V.str)) := List.getElem?_concat_length
  generalize σ'.length = j1 at e3 ⊢
  generalize σ' ++ [O.list ((xs.map txt).map V.str)] = σ3 at p3 e3 ⊢
  have p4 := List.prefix_append σ3 [O.list [V.str wd, V.str (txt b)]]
  refine add_ll (pre_get p4 e3) List.getElem?_concat_length (by simp; omega) ?_
  have e2 : (xs.map txt).map V.str ++ [V.str wd, V.str (txt b)] = (xs.map txt ++ [wd, txt b]).map V.str := by rw [List.map_append]; rfl
  rw [e2]
  have p5 := (p3.trans p4).trans (List.prefix_append (σ3 ++ [O.list [V.str wd, V.str (txt b)]]) [O.list ((xs.map txt ++ [wd, txt b]).map V.str)])
  have e5 : (σ3 ++ [O.list [V.str wd, V.str (txt b)]] ++ [O.list ((xs.map txt ++ [wd, txt b]).map V.str)])[(σ3 ++ [O.list [V.str wd, V.str (txt b)]]).length]? = some (.list ((xs.map txt ++ [wd, txt b]).map V.str)) := List.getElem?_concat_length
  generalize (σ3 ++ [O.list [V.str wd, V.str (txt b)]]).length = j5 at e5 ⊢
  generalize σ3 ++ [O.list [V.str wd, V.str (txt b)]] ++ [O.list ((xs.map txt ++ [wd, txt b]).map V.str)] = σ5 at p5 e5 ⊢
  replace h1 := pre_get p5 h1
  clear e1 p3 p4 p5 e3 p' σ3 σ' σ2
  (refine stsC ?_; first | ((with_reducible refine sAssL ?ha71 ?hd71 ?hb71); (case ha71 => exact rfl); (case hb71 => intro _; exact rfl)) | ((with_reducible refine sAssC ?ha71 ?hd71 ?hb71); (case ha71 => exact rfl); (case hb71 => intro _; exact rfl)) | (with_reducible first | refine sRet ?_ | refine sIf ?_) | ((with_reducible refine sExpr ?hd71 ?hb71); (case hb71 => intro _; exact rfl)))
  refine callF E.shown.1 E.shown.2 rfl ?_
  repeat walk_at "e"
  refine shown_ok (S := { n := 1, kd := fun x => (s02 25).names.lookup x, q := true }) E (by decide) rfl hx3 hI hw5 hb fun σ6 p6 => ?_
  (refine stsC ?_; first | ((with_reducible refine sAssL ?ha72 ?hd72 ?hb72); (case ha72 => exact rfl); (case hb72 => intro _; exact rfl)) | ((with_reducible refine sAssC ?ha72 ?hd72 ?hb72); (case ha72 => exact rfl); (case hb72 => intro _; exact rfl)) | (with_reducible first | refine sRet ?_ | refine sIf ?_) | ((with_reducible refine sExpr ?hd72 ?hb72); (case hb72 => intro _; exact rfl)))
  repeat walk_at "e"
  refine tstP (callIsi rfl E.isi rfl E.str Boot.«str» (by decide) ?_)
  repeat walk_at "e"
  refine isi_ty (T := .str) trivial ?_
  repeat walk_at "e"
  refine methS GM.join ?_
  repeat walk_at "e"
  refine ⟨_, rfl, ?_⟩
  repeat walk_at "e"
  refine join_s (pre_get p6 e5) rfl hJ.1 ?_
  repeat walk_at "e"
  have hne : (told xs wd b != Txt.join (Str.ofString " ") (xs.map txt ++ [wd, txt b])) = false := bne_self_eq_false _
  rw [hne]
  repeat walk_at "e"
  refine sts0 ?_
  replace h1 := pre_get p6 h1
  have tl := hJ.2
  have tp := told_pos (ns := xs) (w := wd) (b := b)
  generalize told xs wd b = to at tl tp ⊢
  clear e5 p6 hne hJ
  (refine stsC ?_; first | ((with_reducible refine sAssL ?ha73 ?hd73 ?hb73); (case ha73 => exact rfl); (case hb73 => intro _; exact rfl)) | ((with_reducible refine sAssC ?ha73 ?hd73 ?hb73); (case ha73 => exact rfl); (case hb73 => intro _; exact rfl)) | (with_reducible first | refine sRet ?_ | refine sIf ?_) | ((with_reducible refine sExpr ?hd73 ?hb73); (case hb73 => intro _; exact rfl)))
  repeat walk_at "e"
  refine callF E.cell.1 E.cell.2 rfl ?_
  repeat walk_at "e"
  refine cell_ok E (by decide) h1 rfl hl ?_
  repeat walk_at "e"
  (refine stsC ?_; first | ((with_reducible refine sAssL ?ha74 ?hd74 ?hb74); (case ha74 => exact rfl); (case hb74 => intro _; exact rfl)) | ((with_reducible refine sAssC ?ha74 ?hd74 ?hb74); (case ha74 => exact rfl); (case hb74 => intro _; exact rfl)) | (with_reducible first | refine sRet ?_ | refine sIf ?_) | ((with_reducible refine sExpr ?hd74 ?hb74); (case hb74 => intro _; exact rfl)))
  repeat walk_at "e"
  by_cases k5 : (cellAt ns 5).fmod 8 = 5
  · refine iT (eT k5) ?_
    (refine stsC ?_; first | ((with_reducible refine sAssL ?ha75 ?hd75 ?hb75); (case ha75 => exact rfl); (case hb75 => intro _; exact rfl)) | ((with_reducible refine sAssC ?ha75 ?hd75 ?hb75); (case ha75 => exact rfl); (case hb75 => intro _; exact rfl)) | (with_reducible first | refine sRet ?_ | refine sIf ?_) | ((with_reducible refine sExpr ?hd75 ?hb75); (case hb75 => intro _; exact rfl)))
    refine callF E.refused.1 E.refused.2 rfl ?_
    refine argsC ?_
    repeat walk_at "e"
    refine ⟨by show 1 ≤ sizeLine; decide, ?_⟩
    have p7 := List.prefix_append σ6 [O.list [V.str to]]
    have e7 : (σ6 ++ [O.list [V.str to]])[σ6.length]? = some (.list [V.str to]) := List.getElem?_concat_length
    replace h1 := pre_get p7 h1
    generalize σ6.length = j7 at e7 ⊢
    generalize σ6 ++ [O.list [V.str to]] = σ7 at e7 h1 ⊢
    repeat walk_at "e"
    refine ⟨by show 4 ≤ sizeLine; decide, ?_⟩
    repeat walk_at "e"
    refine callF E.cell.1 E.cell.2 rfl ?_
    repeat walk_at "e"
    have p8 := List.prefix_append σ7 [O.list [V.none, V.int 5, V.tup [V.tup (xs.map V.int), V.str wd, V.int b], V.ref j7]]
    refine cell_ok E (by decide) (pre_get p8 h1) rfl hl ?_
    repeat walk_at "e"
    have fo := four ((cellAt ns 5).fdiv 8)
    have ff := fm (F := (cellAt ns 5).fdiv 8) (b := 4) (by decide)
    generalize ((cellAt ns 5).fdiv 8).fmod 4 = z at fo ff ⊢
    obtain ⟨v, hv, hp, hs⟩ : ∃ v, ([V.none, V.int 5, V.tup [V.tup (xs.map V.int), V.str wd, V.int b], V.ref j7])[z.toNat]? = some v ∧ plainV (σ7 ++ [O.list [V.none, V.int 5, V.tup [V.tup (xs.map V.int), V.str wd, V.int b], V.ref j7]]) v ∧ isT v .str = false := by
      rcases fo with rfl | rfl | rfl | rfl
      · exact ⟨_, rfl, trivial, rfl⟩
      · exact ⟨_, rfl, trivial, rfl⟩
      · exact ⟨_, rfl, trivial, rfl⟩
      · exact ⟨_, rfl, ⟨_, _, pre_get p8 e7, rfl⟩, rfl⟩
    refine item_list List.getElem?_concat_length rfl ff.1 hv (by omega) ?_
    repeat walk_at "e"
    exact refused_ok (S := { n := 1, kd := fun x => (s02 25).names.lookup x, q := true }) E (by decide) rfl (fun hn hq hX => read_no E hn hq hp hs (hX _)) fun σ' => rfl
  refine iN (eF k5) ?_
  refine sts0 ?_
  (refine stsC ?_; first | ((with_reducible refine sAssL ?ha76 ?hd76 ?hb76); (case ha76 => exact rfl); (case hb76 => intro _; exact rfl)) | ((with_reducible refine sAssC ?ha76 ?hd76 ?hb76); (case ha76 => exact rfl); (case hb76 => intro _; exact rfl)) | (with_reducible first | refine sRet ?_ | refine sIf ?_) | ((with_reducible refine sExpr ?hd76 ?hb76); (case hb76 => intro _; exact rfl)))
  refine callF E.text.1 E.text.2 rfl ?_
  repeat walk_at "e"
  refine callF E.cell.1 E.cell.2 rfl ?_
  repeat walk_at "e"
  refine cell_ok E (by decide) h1 rfl hl ?_
  repeat walk_at "e"
  refine text_ok (S := { n := 1, kd := fun x => (s02 25).names.lookup x, q := true }) E (by decide) tp tl fun te σ7 p7 hte => ?_
  (refine stsC ?_; first | ((with_reducible refine sAssL ?ha77 ?hd77 ?hb77); (case ha77 => exact rfl); (case hb77 => intro _; exact rfl)) | ((with_reducible refine sAssC ?ha77 ?hd77 ?hb77); (case ha77 => exact rfl); (case hb77 => intro _; exact rfl)) | (with_reducible first | refine sRet ?_ | refine sIf ?_) | ((with_reducible refine sExpr ?hd77 ?hb77); (case hb77 => intro _; exact rfl)))
  refine callF E.lread.1 E.lread.2 rfl ?_
  repeat walk_at "e"
  refine lread_ok (S := { n := 1, kd := fun x => (s02 25).names.lookup x, q := true }) E (by decide) rfl hte fun σ8 p8 => ?_
  (refine stsC ?_; first | ((with_reducible refine sAssL ?ha78 ?hd78 ?hb78); (case ha78 => exact rfl); (case hb78 => intro _; exact rfl)) | ((with_reducible refine sAssC ?ha78 ?hd78 ?hb78); (case ha78 => exact rfl); (case hb78 => intro _; exact rfl)) | (with_reducible first | refine sRet ?_ | refine sIf ?_) | ((with_reducible refine sExpr ?hd78 ?hb78); (case hb78 => intro _; exact rfl)))
  repeat walk_at "e"
  cases hrd : rd (Txt.split te (Str.ofString " ")) with
  | none =>
    refine iT rfl ?_
    repeat walk_at "e"
    (refine stsC ?_; first | ((with_reducible refine sAssL ?ha79 ?hd79 ?hb79); (case ha79 => exact rfl); (case hb79 => intro _; exact rfl)) | ((with_reducible refine sAssC ?ha79 ?hd79 ?hb79); (case ha79 => exact rfl); (case hb79 => intro _; exact rfl)) | (with_reducible first | refine sRet ?_ | refine sIf ?_) | ((with_reducible refine sExpr ?hd79 ?hb79); (case hb79 => intro _; exact rfl)))
    refine callF E.refused.1 E.refused.2 rfl ?_
    repeat walk_at "e"
    exact refused_ok (S := { n := 1, kd := fun x => (s02 25).names.lookup x, q := true }) E (by decide) rfl (fun hn hq hX => read_ok E hn hq hte fun σ' _ => by rw [hrd]; exact hX _) fun σ' => rfl
  | some r =>
  obtain ⟨xs', wd', b'⟩ := r
  rw [show rdV (some (xs', wd', b')) = V.tup [V.tup (xs'.map V.int), V.str wd', V.int b'] from rfl]
  have hsh := rd_shaped (ns := xs') (b := b') (rd_word_ok hrd)
  refine iN (nb rfl) ?_
  repeat walk_at "e"
  refine sts0 ?_
  (refine stsC ?_; first | ((with_reducible refine sAssL ?ha80 ?hd80 ?hb80); (case ha80 => exact rfl); (case hb80 => intro _; exact rfl)) | ((with_reducible refine sAssC ?ha80 ?hd80 ?hb80); (case ha80 => exact rfl); (case hb80 => intro _; exact rfl)) | (with_reducible first | refine sRet ?_ | refine sIf ?_) | ((with_reducible refine sExpr ?hd80 ?hb80); (case hb80 => intro _; exact rfl)))
  refine callF E.read.1 E.read.2 rfl ?_
  repeat walk_at "e"
  refine read_ok (S := { n := 1, kd := fun x => (s02 25).names.lookup x, q := true }) E (by decide) rfl hte fun σ9 p9 => ?_
  rw [hrd]
  refine readP_some ?_
  (refine stsC ?_; first | ((with_reducible refine sAssL ?ha81 ?hd81 ?hb81); (case ha81 => exact rfl); (case hb81 => intro _; exact rfl)) | ((with_reducible refine sAssC ?ha81 ?hd81 ?hb81); (case ha81 => exact rfl); (case hb81 => intro _; exact rfl)) | (with_reducible first | refine sRet ?_ | refine sIf ?_) | ((with_reducible refine sExpr ?hd81 ?hb81); (case hb81 => intro _; exact rfl)))
  repeat walk_at "e"
  refine tstP (callIsi rfl E.isi rfl E.tuple Boot.«tuple» (by decide) ?_)
  repeat walk_at "e"
  refine isi_ty (T := .tuple) trivial ?_
  repeat walk_at "e"
  refine callBu rfl E.len Boot.«len» (by decide) ?_
  repeat walk_at "e"
  refine len_tup (by show (3 : Int) < 2 ^ 63; decide) ?_
  repeat walk_at "e"
  refine tstP (callIsi rfl E.isi rfl E.tuple Boot.«tuple» (by decide) ?_)
  repeat walk_at "e"
  refine isi_ty (T := .tuple) trivial ?_
  repeat walk_at "e"
  refine ne_rd (rd_row _ _ _ _) (rd_row _ _ _ _) hsh hsh ?_
  rw [SeqAt.eqv_refl _ (SeqAt.canLay_of_shaped hsh)]
  repeat walk_at "e"
  refine sts0 ?_
  (refine stsC ?_; first | ((with_reducible refine sAssL ?ha82 ?hd82 ?hb82); (case ha82 => exact rfl); (case hb82 => intro _; exact rfl)) | ((with_reducible refine sAssC ?ha82 ?hd82 ?hb82); (case ha82 => exact rfl); (case hb82 => intro _; exact rfl)) | (with_reducible first | refine sRet ?_ | refine sIf ?_) | ((with_reducible refine sExpr ?hd82 ?hb82); (case hb82 => intro _; exact rfl)))
  refine boolAnd ?_
  refine callF E.whole.1 E.whole.2 rfl ?_
  repeat walk_at "e"
  refine item_tup (by decide) rfl (by decide) ?_
  repeat walk_at "e"
  refine whole_ok (S := { n := 1, kd := fun x => (s02 25).names.lookup x, q := true }) E (by decide) ?_
  repeat walk_at "e"
  refine boolOp1 ?_
  refine cmp1 ?_
  refine compNone rfl (compOk rfl rfl) rfl ?_
  refine wiTup ?_
  repeat walk_at "e"
  refine ⟨_, rfl, ?_, fun _ => True, trivial, fun k v σ' hv _ _ => ?_, fun σ' _ _ => ?_⟩
  · rw [List.length_map]; exact szOk (Nat.le_trans (rd_len hrd) (by decide))
  · rw [List.getElem?_map] at hv
    obtain ⟨n, _, rfl⟩ := Option.map_eq_some_iff.mp hv
    repeat walk_at "e"
    refine tstP (callF E.whole.1 E.whole.2 rfl ?_)
    repeat walk_at "e"
    refine whole_ok E (by decide) ?_
    repeat walk_at "e"
    exact ⟨rfl, trivial, trivial⟩
  repeat walk_at "e"
  refine ⟨by show 0 ≤ sizeLine; decide, ?_⟩
  have p10 := List.prefix_append (σ' ++ [O.list []]) [O.list []]
  refine eq_rd (.ref (pre_get p10 List.getElem?_concat_length) rfl .nil) (.ref List.getElem?_concat_length rfl .nil) (by decide +kernel) (by decide +kernel) ?_
  rfl
end

section
open PySem PySem.W PySem.Calls PySem.Spec PyProof.Rows

theorem fnTop {p : Program} {loose : List Str} {mean : ExcName → Option Value} {mg mb : Str → Option Value} {h : Heap} (T : Top p loose mean mg mb h) {R : List DefRec} (hR : recsOf p = R) {c : C0} (hmg : c.mg = mg) (hb : c.base = h) {x : Str} {d : DefRec} (hd : R.find? (fun e => e.name == x) = some d) (e1 : d.name = x)
    (ps : List Str) (kind : d.scope.kind = .function) (co : d.scope.isCoroutine = false) (gen : d.scope.isGenerator = false) (nd : ps.Nodup) (par : ∀ x ∈ ps, d.scope.names.lookup x = some .local ∨ d.scope.names.lookup x = some .cell)
    (hbind : ∀ pm code doc (us : List Value), us.length = ps.length → bindArgs (docDef d.name d.params d.body d.scope pm code doc) ⟨us, []⟩ = pure (ps.zip us)) : ∃ a, c.mg x = some (.ref a) ∧ FnAt c a ps d.body d.scope := by
  obtain ⟨a, o, pm, code, doc, g1, g2, g3, g4⟩ := T.fn d (hR ▸ List.mem_of_find?_eq_some hd)
  rw [e1] at g1
  subst hmg hb
  exact ⟨a, g1, ⟨o, _, g2, g3, rfl, rfl, rfl, rfl, rfl, g4, hbind pm code doc⟩, kind, co, gen, nd, par⟩
theorem len1 {us : List Value} (h : us.length = 1) : ∃ a, us = [a] := List.length_eq_one_iff.mp h
theorem len2 {us : List Value} (h : us.length = 2) : ∃ a b, us = [a, b] := by
  cases us with
  | nil => cases h
  | cons a r => obtain ⟨b, rfl⟩ := len1 (us := r) (by simpa using h); exact ⟨a, b, rfl⟩
theorem len3 {us : List Value} (h : us.length = 3) : ∃ a b c, us = [a, b, c] := by
  cases us with
  | nil => cases h
  | cons a r => obtain ⟨b, c, rfl⟩ := len2 (us := r) (by simpa using h); exact ⟨a, b, c, rfl⟩

section
variable {q : Program} {loose : List Str} {mean : ExcName → Option Value} {mg mb : Str → Option Value} {h : Heap} {c : C0}
theorem f14 (T : Top q loose mean mg mb h) (hR : recsOf q = recsOf PySem.Challenge.pw_uf020023_02) (hmg : c.mg = mg) (hb : c.base = h) : ∃ a, c.mg "shown" = some (.ref a) ∧ FnAt c a ["row"] (b02 14) (s02 14) :=
  fnTop T hR hmg hb (x := "shown") (d := _) rfl rfl ["row"] rfl rfl rfl (by decide) (by decide) (fun pm code doc us e => by obtain ⟨_, rfl⟩ := len1 e; rfl)
theorem f15 (T : Top q loose mean mg mb h) (hR : recsOf q = recsOf PySem.Challenge.pw_uf020023_02) (hmg : c.mg = mg) (hb : c.base = h) : ∃ a, c.mg "number_of" = some (.ref a) ∧ FnAt c a ["word", "most"] (b02 15) (s02 15) :=
  fnTop T hR hmg hb (x := "number_of") (d := _) rfl rfl ["word", "most"] rfl rfl rfl (by decide) (by decide) (fun pm code doc us e => by obtain ⟨_, _, rfl⟩ := len2 e; rfl)
theorem f16 (T : Top q loose mean mg mb h) (hR : recsOf q = recsOf PySem.Challenge.pw_uf020023_02) (hmg : c.mg = mg) (hb : c.base = h) : ∃ a, c.mg "read" = some (.ref a) ∧ FnAt c a ["text"] (b02 16) (s02 16) :=
  fnTop T hR hmg hb (x := "read") (d := _) rfl rfl ["text"] rfl rfl rfl (by decide) (by decide) (fun pm code doc us e => by obtain ⟨_, rfl⟩ := len1 e; rfl)
theorem f18 (T : Top q loose mean mg mb h) (hR : recsOf q = recsOf PySem.Challenge.pw_uf020023_02) (hmg : c.mg = mg) (hb : c.base = h) : ∃ a, c.mg "_law_cell_at" = some (.ref a) ∧ FnAt c a ["_law_script", "_law_k"] (b02 18) (s02 18) :=
  fnTop T hR hmg hb (x := "_law_cell_at") (d := _) rfl rfl ["_law_script", "_law_k"] rfl rfl rfl (by decide) (by decide) (fun pm code doc us e => by obtain ⟨_, _, rfl⟩ := len2 e; rfl)
theorem f19 (T : Top q loose mean mg mb h) (hR : recsOf q = recsOf PySem.Challenge.pw_uf020023_02) (hmg : c.mg = mg) (hb : c.base = h) : ∃ a, c.mg "_law_whole" = some (.ref a) ∧ FnAt c a ["_law_found"] (b02 19) (s02 19) :=
  fnTop T hR hmg hb (x := "_law_whole") (d := _) rfl rfl ["_law_found"] rfl rfl rfl (by decide) (by decide) (fun pm code doc us e => by obtain ⟨_, rfl⟩ := len1 e; rfl)
theorem f20 (T : Top q loose mean mg mb h) (hR : recsOf q = recsOf PySem.Challenge.pw_uf020023_02) (hmg : c.mg = mg) (hb : c.base = h) : ∃ a, c.mg "_law_number_in" = some (.ref a) ∧ FnAt c a ["_law_word", "_law_most"] (b02 20) (s02 20) :=
  fnTop T hR hmg hb (x := "_law_number_in") (d := _) rfl rfl ["_law_word", "_law_most"] rfl rfl rfl (by decide) (by decide) (fun pm code doc us e => by obtain ⟨_, _, rfl⟩ := len2 e; rfl)
theorem f21 (T : Top q loose mean mg mb h) (hR : recsOf q = recsOf PySem.Challenge.pw_uf020023_02) (hmg : c.mg = mg) (hb : c.base = h) : ∃ a, c.mg "_law_read" = some (.ref a) ∧ FnAt c a ["_law_text_here"] (b02 21) (s02 21) :=
  fnTop T hR hmg hb (x := "_law_read") (d := _) rfl rfl ["_law_text_here"] rfl rfl rfl (by decide) (by decide) (fun pm code doc us e => by obtain ⟨_, rfl⟩ := len1 e; rfl)
theorem f22 (T : Top q loose mean mg mb h) (hR : recsOf q = recsOf PySem.Challenge.pw_uf020023_02) (hmg : c.mg = mg) (hb : c.base = h) : ∃ a, c.mg "_law_odd" = some (.ref a) ∧ FnAt c a ["_law_cell"] (b02 22) (s02 22) :=
  fnTop T hR hmg hb (x := "_law_odd") (d := _) rfl rfl ["_law_cell"] rfl rfl rfl (by decide) (by decide) (fun pm code doc us e => by obtain ⟨_, rfl⟩ := len1 e; rfl)
theorem f23 (T : Top q loose mean mg mb h) (hR : recsOf q = recsOf PySem.Challenge.pw_uf020023_02) (hmg : c.mg = mg) (hb : c.base = h) : ∃ a, c.mg "_law_text" = some (.ref a) ∧ FnAt c a ["_law_text_here", "_law_kind", "_law_cell"] (b02 23) (s02 23) :=
  fnTop T hR hmg hb (x := "_law_text") (d := _) rfl rfl ["_law_text_here", "_law_kind", "_law_cell"] rfl rfl rfl (by decide) (by decide) (fun pm code doc us e => by obtain ⟨_, _, _, rfl⟩ := len3 e; rfl)
theorem f24 (T : Top q loose mean mg mb h) (hR : recsOf q = recsOf PySem.Challenge.pw_uf020023_02) (hmg : c.mg = mg) (hb : c.base = h) : ∃ a, c.mg "_law_refused" = some (.ref a) ∧ FnAt c a ["_law_text_here"] (b02 24) (s02 24) :=
  fnTop T hR hmg hb (x := "_law_refused") (d := _) rfl rfl ["_law_text_here"] rfl rfl rfl (by decide) (by decide) (fun pm code doc us e => by obtain ⟨_, rfl⟩ := len1 e; rfl)
theorem f25 (T : Top q loose mean mg mb h) (hR : recsOf q = recsOf PySem.Challenge.pw_uf020023_02) (hmg : c.mg = mg) (hb : c.base = h) : ∃ a, c.mg "law" = some (.ref a) ∧ FnAt c a ["_law_script"] (b02 25) (s02 25) :=
  fnTop T hR hmg hb (x := "law") (d := _) rfl rfl ["_law_script"] rfl rfl rfl (by decide) (by decide) (fun pm code doc us e => by obtain ⟨_, rfl⟩ := len1 e; rfl)
end
end

section
open PySem PySem.W PySem.Calls PySem.Spec PyProof.Rows
noncomputable def k02 (P : Params) : Frag := [
  (3, { cls := Value.type "dict", data := Data.dict #[{ hash := PyData.keyHash P (Str.ofString "__name__"), key := Value.str (Str.ofString "__name__") 165, val := Value.str (Str.ofString "law_uf020023_02") 333 }, { hash := PyData.keyHash P (Str.ofString "__doc__"), key := Value.str (Str.ofString "__doc__") 166, val := Value.none }, { hash := PyData.keyHash P (Str.ofString "__package__"), key := Value.str (Str.ofString "__package__") 167, val := Value.none }, { hash := PyData.keyHash P (Str.ofString "__loader__"), key := Value.str (Str.ofString "__loader__") 168, val := Value.builtin "__main__.__loader__#opaque" }, { hash := PyData.keyHash P (Str.ofString "__spec__"), key := Value.str (Str.ofString "__spec__") 169, val := Value.none }, { hash := PyData.keyHash P (Str.ofString "__annotations__"), key := Value.str (Str.ofString "__annotations__") 170, val := Value.ref 6 }, { hash := PyData.keyHash P (Str.ofString "__builtins__"), key := Value.str (Str.ofString "__builtins__") 171, val := Value.ref 4 }, { hash := PyData.keyHash P (Str.ofString "__file__"), key := Value.str (Str.ofString "__file__") 173, val := Value.str (Str.ofString "/claim/cut.py") 172 }, { hash := PyData.keyHash P (Str.ofString "__cached__"), key := Value.str (Str.ofString "__cached__") 174, val := Value.none }, { hash := PyData.keyHash P (Str.ofString "CutError"), key := Value.str (Str.ofString "CutError") 206, val := Value.ref 24 }, { hash := PyData.keyHash P (Str.ofString "BadProblem"), key := Value.str (Str.ofString "BadProblem") 222, val := Value.ref 37 }, { hash := PyData.keyHash P (Str.ofString "BadPoint"), key := Value.str (Str.ofString "BadPoint") 238, val := Value.ref 49 }, { hash := PyData.keyHash P (Str.ofString "BadBox"), key := Value.str (Str.ofString "BadBox") 254, val := Value.ref 61 }, { hash := PyData.keyHash P (Str.ofString "BadWeights"), key := Value.str (Str.ofString "BadWeights") 270, val := Value.ref 73 }, { hash := PyData.keyHash P (Str.ofString "NoTurn"), key := Value.str (Str.ofString "NoTurn") 286, val := Value.ref 85 }, { hash := PyData.keyHash P (Str.ofString "BadText"), key := Value.str (Str.ofString "BadText") 302, val := Value.ref 97 }, { hash := PyData.keyHash P (Str.ofString "MOST_UNKNOWNS"), key := Value.str (Str.ofString "MOST_UNKNOWNS") 304, val := Value.int 3 303 }, { hash := PyData.keyHash P (Str.ofString "MOST_NUMBER"), key := Value.str (Str.ofString "MOST_NUMBER") 306, val := Value.int 50 305 }, { hash := PyData.keyHash P (Str.ofString "MOST_BOUND"), key := Value.str (Str.ofString "MOST_BOUND") 308, val := Value.int 2000 307 }, { hash := PyData.keyHash P (Str.ofString "FIGURES"), key := Value.str (Str.ofString "FIGURES") 312, val := Value.str (Str.ofString "0123456789") 311 }, { hash := PyData.keyHash P (Str.ofString "MOST_FIGURES"), key := Value.str (Str.ofString "MOST_FIGURES") 314, val := Value.int 4 313 }, { hash := PyData.keyHash P (Str.ofString "shown"), key := Value.str (Str.ofString "shown") 320, val := Value.ref 104 }, { hash := PyData.keyHash P (Str.ofString "number_of"), key := Value.str (Str.ofString "number_of") 326, val := Value.ref 109 }, { hash := PyData.keyHash P (Str.ofString "read"), key := Value.str (Str.ofString "read") 332, val := Value.ref 114 }, { hash := PyData.keyHash P (Str.ofString "_law_cell_at"), key := Value.str (Str.ofString "_law_cell_at") 343, val := Value.ref 121 }, { hash := PyData.keyHash P (Str.ofString "_law_whole"), key := Value.str (Str.ofString "_law_whole") 350, val := Value.ref 128 }, { hash := PyData.keyHash P (Str.ofString "_law_number_in"), key := Value.str (Str.ofString "_law_number_in") 361, val := Value.ref 135 }, { hash := PyData.keyHash P (Str.ofString "_law_read"), key := Value.str (Str.ofString "_law_read") 367, val := Value.ref 140 }, { hash := PyData.keyHash P (Str.ofString "_law_odd"), key := Value.str (Str.ofString "_law_odd") 375, val := Value.ref 147 }, { hash := PyData.keyHash P (Str.ofString "_law_text"), key := Value.str (Str.ofString "_law_text") 389, val := Value.ref 154 }, { hash := PyData.keyHash P (Str.ofString "_law_refused"), key := Value.str (Str.ofString "_law_refused") 397, val := Value.ref 161 }, { hash := PyData.keyHash P (Str.ofString "law"), key := Value.str (Str.ofString "law") 403, val := Value.ref 166 }] 32 }),
  (23, { cls := Value.type "dict", data := Data.dict #[{ hash := PyData.keyHash P (Str.ofString "__module__"), key := Value.str (Str.ofString "__module__") 196, val := Value.str (Str.ofString "wholecut.errors") 187 }, { hash := PyData.keyHash P (Str.ofString "__firstlineno__"), key := Value.str (Str.ofString "__firstlineno__") 200, val := Value.int 2 199 }, { hash := PyData.keyHash P (Str.ofString "__static_attributes__"), key := Value.str (Str.ofString "__static_attributes__") 201, val := Value.ref 22 }, { hash := PyData.keyHash P (Str.ofString "__weakref__"), key := Value.str (Str.ofString "__weakref__") 203, val := Value.ref 25 }, { hash := PyData.keyHash P (Str.ofString "__doc__"), key := Value.str (Str.ofString "__doc__") 204, val := Value.none }] 3 }),
  (24, { cls := Value.type "type", data := Data.cls { name := Str.ofString "CutError", bases := [Value.type "ValueError"], mro := [Value.ref 24, Value.type "ValueError", Value.type "Exception", Value.type "BaseException", Value.type "object"], ns := 23, qualname := Str.ofString "CutError", subclasses := [Value.ref 37, Value.ref 49, Value.ref 61, Value.ref 73, Value.ref 85, Value.ref 97] }, slots := #[Option.some (Value.ref 15), Option.none, Option.some (Value.str (Str.ofString "CutError") 189), Option.some (Value.str (Str.ofString "CutError") 197), Option.some (Value.builtin "ValueError.__new__"), Option.some (Value.bool Bool.true)] }),
  (36, { cls := Value.type "dict", data := Data.dict #[{ hash := PyData.keyHash P (Str.ofString "__module__"), key := Value.str (Str.ofString "__module__") 214, val := Value.str (Str.ofString "wholecut.errors") 187 }, { hash := PyData.keyHash P (Str.ofString "__firstlineno__"), key := Value.str (Str.ofString "__firstlineno__") 218, val := Value.int 4 217 }, { hash := PyData.keyHash P (Str.ofString "__static_attributes__"), key := Value.str (Str.ofString "__static_attributes__") 219, val := Value.ref 35 }, { hash := PyData.keyHash P (Str.ofString "__doc__"), key := Value.str (Str.ofString "__doc__") 220, val := Value.none }] 2 }),
  (37, { cls := Value.type "type", data := Data.cls { name := Str.ofString "BadProblem", bases := [Value.ref 24], mro := [Value.ref 37, Value.ref 24, Value.type "ValueError", Value.type "Exception", Value.type "BaseException", Value.type "object"], ns := 36, qualname := Str.ofString "BadProblem" }, slots := #[Option.some (Value.ref 28), Option.none, Option.some (Value.str (Str.ofString "BadProblem") 207), Option.some (Value.str (Str.ofString "BadProblem") 215), Option.some (Value.builtin "ValueError.__new__"), Option.some (Value.bool Bool.true)] }),
  (48, { cls := Value.type "dict", data := Data.dict #[{ hash := PyData.keyHash P (Str.ofString "__module__"), key := Value.str (Str.ofString "__module__") 230, val := Value.str (Str.ofString "wholecut.errors") 187 }, { hash := PyData.keyHash P (Str.ofString "__firstlineno__"), key := Value.str (Str.ofString "__firstlineno__") 234, val := Value.int 6 233 }, { hash := PyData.keyHash P (Str.ofString "__static_attributes__"), key := Value.str (Str.ofString "__static_attributes__") 235, val := Value.ref 47 }, { hash := PyData.keyHash P (Str.ofString "__doc__"), key := Value.str (Str.ofString "__doc__") 236, val := Value.none }] 2 }),
  (49, { cls := Value.type "type", data := Data.cls { name := Str.ofString "BadPoint", bases := [Value.ref 24], mro := [Value.ref 49, Value.ref 24, Value.type "ValueError", Value.type "Exception", Value.type "BaseException", Value.type "object"], ns := 48, qualname := Str.ofString "BadPoint" }, slots := #[Option.some (Value.ref 40), Option.none, Option.some (Value.str (Str.ofString "BadPoint") 223), Option.some (Value.str (Str.ofString "BadPoint") 231), Option.some (Value.builtin "ValueError.__new__"), Option.some (Value.bool Bool.true)] }),
  (60, { cls := Value.type "dict", data := Data.dict #[{ hash := PyData.keyHash P (Str.ofString "__module__"), key := Value.str (Str.ofString "__module__") 246, val := Value.str (Str.ofString "wholecut.errors") 187 }, { hash := PyData.keyHash P (Str.ofString "__firstlineno__"), key := Value.str (Str.ofString "__firstlineno__") 250, val := Value.int 8 249 }, { hash := PyData.keyHash P (Str.ofString "__static_attributes__"), key := Value.str (Str.ofString "__static_attributes__") 251, val := Value.ref 59 }, { hash := PyData.keyHash P (Str.ofString "__doc__"), key := Value.str (Str.ofString "__doc__") 252, val := Value.none }] 2 }),
  (61, { cls := Value.type "type", data := Data.cls { name := Str.ofString "BadBox", bases := [Value.ref 24], mro := [Value.ref 61, Value.ref 24, Value.type "ValueError", Value.type "Exception", Value.type "BaseException", Value.type "object"], ns := 60, qualname := Str.ofString "BadBox" }, slots := #[Option.some (Value.ref 52), Option.none, Option.some (Value.str (Str.ofString "BadBox") 239), Option.some (Value.str (Str.ofString "BadBox") 247), Option.some (Value.builtin "ValueError.__new__"), Option.some (Value.bool Bool.true)] }),
  (72, { cls := Value.type "dict", data := Data.dict #[{ hash := PyData.keyHash P (Str.ofString "__module__"), key := Value.str (Str.ofString "__module__") 262, val := Value.str (Str.ofString "wholecut.errors") 187 }, { hash := PyData.keyHash P (Str.ofString "__firstlineno__"), key := Value.str (Str.ofString "__firstlineno__") 266, val := Value.int 10 265 }, { hash := PyData.keyHash P (Str.ofString "__static_attributes__"), key := Value.str (Str.ofString "__static_attributes__") 267, val := Value.ref 71 }, { hash := PyData.keyHash P (Str.ofString "__doc__"), key := Value.str (Str.ofString "__doc__") 268, val := Value.none }] 2 }),
  (73, { cls := Value.type "type", data := Data.cls { name := Str.ofString "BadWeights", bases := [Value.ref 24], mro := [Value.ref 73, Value.ref 24, Value.type "ValueError", Value.type "Exception", Value.type "BaseException", Value.type "object"], ns := 72, qualname := Str.ofString "BadWeights" }, slots := #[Option.some (Value.ref 64), Option.none, Option.some (Value.str (Str.ofString "BadWeights") 255), Option.some (Value.str (Str.ofString "BadWeights") 263), Option.some (Value.builtin "ValueError.__new__"), Option.some (Value.bool Bool.true)] }),
  (84, { cls := Value.type "dict", data := Data.dict #[{ hash := PyData.keyHash P (Str.ofString "__module__"), key := Value.str (Str.ofString "__module__") 278, val := Value.str (Str.ofString "wholecut.errors") 187 }, { hash := PyData.keyHash P (Str.ofString "__firstlineno__"), key := Value.str (Str.ofString "__firstlineno__") 282, val := Value.int 12 281 }, { hash := PyData.keyHash P (Str.ofString "__static_attributes__"), key := Value.str (Str.ofString "__static_attributes__") 283, val := Value.ref 83 }, { hash := PyData.keyHash P (Str.ofString "__doc__"), key := Value.str (Str.ofString "__doc__") 284, val := Value.none }] 2 }),
  (85, { cls := Value.type "type", data := Data.cls { name := Str.ofString "NoTurn", bases := [Value.ref 24], mro := [Value.ref 85, Value.ref 24, Value.type "ValueError", Value.type "Exception", Value.type "BaseException", Value.type "object"], ns := 84, qualname := Str.ofString "NoTurn" }, slots := #[Option.some (Value.ref 76), Option.none, Option.some (Value.str (Str.ofString "NoTurn") 271), Option.some (Value.str (Str.ofString "NoTurn") 279), Option.some (Value.builtin "ValueError.__new__"), Option.some (Value.bool Bool.true)] }),
  (96, { cls := Value.type "dict", data := Data.dict #[{ hash := PyData.keyHash P (Str.ofString "__module__"), key := Value.str (Str.ofString "__module__") 294, val := Value.str (Str.ofString "wholecut.errors") 187 }, { hash := PyData.keyHash P (Str.ofString "__firstlineno__"), key := Value.str (Str.ofString "__firstlineno__") 298, val := Value.int 14 297 }, { hash := PyData.keyHash P (Str.ofString "__static_attributes__"), key := Value.str (Str.ofString "__static_attributes__") 299, val := Value.ref 95 }, { hash := PyData.keyHash P (Str.ofString "__doc__"), key := Value.str (Str.ofString "__doc__") 300, val := Value.none }] 2 }),
  (97, { cls := Value.type "type", data := Data.cls { name := Str.ofString "BadText", bases := [Value.ref 24], mro := [Value.ref 97, Value.ref 24, Value.type "ValueError", Value.type "Exception", Value.type "BaseException", Value.type "object"], ns := 96, qualname := Str.ofString "BadText" }, slots := #[Option.some (Value.ref 88), Option.none, Option.some (Value.str (Str.ofString "BadText") 287), Option.some (Value.str (Str.ofString "BadText") 295), Option.some (Value.builtin "ValueError.__new__"), Option.some (Value.bool Bool.true)] })]
theorem e02 {prog : Program} {w : World} {loose : List Str} {mean : ExcName → Option Value} {mg mb : Str → Option Value} {h : Heap} {c : C0} {q : Program} (T : Top q loose mean mg mb h) (hR : recsOf q = recsOf PySem.Challenge.pw_uf020023_02) (KX : (k02 w.params).In h) (hc : c = ⟨prog, w, h, mg, mb⟩) :
    ∃ a tk bt k, E02 c a tk bt k ∧ c.mg "law" = some (.ref (a 25)) := by
  have hmg : c.mg = mg := by rw [hc]
  have hb : c.base = h := by rw [hc]
  obtain ⟨a14, f14⟩ := f14 T hR hmg hb
  obtain ⟨a15, f15⟩ := f15 T hR hmg hb
  obtain ⟨a16, f16⟩ := f16 T hR hmg hb
  obtain ⟨a18, f18⟩ := f18 T hR hmg hb
  obtain ⟨a19, f19⟩ := f19 T hR hmg hb
  obtain ⟨a20, f20⟩ := f20 T hR hmg hb
  obtain ⟨a21, f21⟩ := f21 T hR hmg hb
  obtain ⟨a22, f22⟩ := f22 T hR hmg hb
  obtain ⟨a23, f23⟩ := f23 T hR hmg hb
  obtain ⟨a24, f24⟩ := f24 T hR hmg hb
  obtain ⟨a25, f25⟩ := f25 T hR hmg hb
  subst hmg hb
  have g6 := own_of_in (x := "BadText") (C := _) (bmB := bmV) (newId := "ValueError.__new__") KX (topRead_of T) rfl (by kernel_rfl)
  have P : Pl (k02 w.params) 97 := ⟨by kernel_rfl, by kernel_rfl, by kernel_rfl, by kernel_rfl, by kernel_rfl, by kernel_rfl, by kernel_rfl, by kernel_rfl⟩
  have no : ∀ D, kin_not (k02 w.params) 97 D = true → IsNo c 97 (.ref D) := fun D e => isNo_of KX P e
  exact ⟨fun k => match k with | 14 => a14 | 15 => a15 | 16 => a16 | 18 => a18 | 19 => a19 | 20 => a20 | 21 => a21 | 22 => a22 | 23 => a23 | 24 => a24 | _ => a25, fun k => match k with | 0 => 303 | 1 => 305 | 2 => 307 | 3 => 311 | _ => 313, 97, fun k => match k with | 0 => 24 | 1 => 37 | 2 => 49 | 3 => 61 | 4 => 73 | _ => 85, {
    shown := f14, number := f15, read := f16, cell := f18, whole := f19, numin := f20, lread := f21, odd := f22, text := f23, refused := f24, law := f25.2
    range := mg_none_of KX T.g (by kernel_rfl), len := mg_none_of KX T.g (by kernel_rfl), isi := mg_none_of KX T.g (by kernel_rfl)
    int := mg_none_of KX T.g (by kernel_rfl), bool := mg_none_of KX T.g (by kernel_rfl), tuple := mg_none_of KX T.g (by kernel_rfl), str := mg_none_of KX T.g (by kernel_rfl), all := mg_none_of KX T.g (by kernel_rfl)
    mUnk := mg_of KX T.g (n := "MOST_UNKNOWNS") (v := .int 3 _) rfl, mNum := mg_of KX T.g (n := "MOST_NUMBER") (v := .int 50 _) rfl, mBound := mg_of KX T.g (n := "MOST_BOUND") (v := .int 2000 _) rfl
    figs := mg_of KX T.g (n := "FIGURES") (v := .str "0123456789" _) rfl, mFig := mg_of KX T.g (n := "MOST_FIGURES") (v := .int 4 _) rfl
    bad := g6
    k0 := ⟨mg_of KX T.g (n := "CutError") (v := .ref _) rfl, isYes_of KX (by kernel_rfl)⟩
    k1 := ⟨mg_of KX T.g (n := "BadProblem") (v := .ref _) rfl, no _ (by kernel_rfl)⟩
    k2 := ⟨mg_of KX T.g (n := "BadPoint") (v := .ref _) rfl, no _ (by kernel_rfl)⟩
    k3 := ⟨mg_of KX T.g (n := "BadBox") (v := .ref _) rfl, no _ (by kernel_rfl)⟩
    k4 := ⟨mg_of KX T.g (n := "BadWeights") (v := .ref _) rfl, no _ (by kernel_rfl)⟩
    k5 := ⟨mg_of KX T.g (n := "NoTurn") (v := .ref _) rfl, no _ (by kernel_rfl)⟩
    ve := ⟨mg_none_of KX T.g (by kernel_rfl), isYesT_of KX rfl (by kernel_rfl)⟩ }, f25.1⟩

theorem main02 : PySem.Challenge.rw_uf020023_02.Holds := by
  w_on
  o_law
  o_head (kHook (fun P => [
  (3, { cls := Value.type "dict", data := Data.dict #[{ hash := PyData.keyHash P (Str.ofString "__name__"), key := Value.str (Str.ofString "__name__") 165, val := Value.str (Str.ofString "law_uf020023_02") 333 }, { hash := PyData.keyHash P (Str.ofString "__doc__"), key := Value.str (Str.ofString "__doc__") 166, val := Value.none }, { hash := PyData.keyHash P (Str.ofString "__package__"), key := Value.str (Str.ofString "__package__") 167, val := Value.none }, { hash := PyData.keyHash P (Str.ofString "__loader__"), key := Value.str (Str.ofString "__loader__") 168, val := Value.builtin "__main__.__loader__#opaque" }, { hash := PyData.keyHash P (Str.ofString "__spec__"), key := Value.str (Str.ofString "__spec__") 169, val := Value.none }, { hash := PyData.keyHash P (Str.ofString "__annotations__"), key := Value.str (Str.ofString "__annotations__") 170, val := Value.ref 6 }, { hash := PyData.keyHash P (Str.ofString "__builtins__"), key := Value.str (Str.ofString "__builtins__") 171, val := Value.ref 4 }, { hash := PyData.keyHash P (Str.ofString "__file__"), key := Value.str (Str.ofString "__file__") 173, val := Value.str (Str.ofString "/claim/cut.py") 172 }, { hash := PyData.keyHash P (Str.ofString "__cached__"), key := Value.str (Str.ofString "__cached__") 174, val := Value.none }, { hash := PyData.keyHash P (Str.ofString "CutError"), key := Value.str (Str.ofString "CutError") 206, val := Value.ref 24 }, { hash := PyData.keyHash P (Str.ofString "BadProblem"), key := Value.str (Str.ofString "BadProblem") 222, val := Value.ref 37 }, { hash := PyData.keyHash P (Str.ofString "BadPoint"), key := Value.str (Str.ofString "BadPoint") 238, val := Value.ref 49 }, { hash := PyData.keyHash P (Str.ofString "BadBox"), key := Value.str (Str.ofString "BadBox") 254, val := Value.ref 61 }, { hash := PyData.keyHash P (Str.ofString "BadWeights"), key := Value.str (Str.ofString "BadWeights") 270, val := Value.ref 73 }, { hash := PyData.keyHash P (Str.ofString "NoTurn"), key := Value.str (Str.ofString "NoTurn") 286, val := Value.ref 85 }, { hash := PyData.keyHash P (Str.ofString "BadText"), key := Value.str (Str.ofString "BadText") 302, val := Value.ref 97 }, { hash := PyData.keyHash P (Str.ofString "MOST_UNKNOWNS"), key := Value.str (Str.ofString "MOST_UNKNOWNS") 304, val := Value.int 3 303 }, { hash := PyData.keyHash P (Str.ofString "MOST_NUMBER"), key := Value.str (Str.ofString "MOST_NUMBER") 306, val := Value.int 50 305 }, { hash := PyData.keyHash P (Str.ofString "MOST_BOUND"), key := Value.str (Str.ofString "MOST_BOUND") 308, val := Value.int 2000 307 }, { hash := PyData.keyHash P (Str.ofString "FIGURES"), key := Value.str (Str.ofString "FIGURES") 312, val := Value.str (Str.ofString "0123456789") 311 }, { hash := PyData.keyHash P (Str.ofString "MOST_FIGURES"), key := Value.str (Str.ofString "MOST_FIGURES") 314, val := Value.int 4 313 }, { hash := PyData.keyHash P (Str.ofString "shown"), key := Value.str (Str.ofString "shown") 320, val := Value.ref 104 }, { hash := PyData.keyHash P (Str.ofString "number_of"), key := Value.str (Str.ofString "number_of") 326, val := Value.ref 109 }, { hash := PyData.keyHash P (Str.ofString "read"), key := Value.str (Str.ofString "read") 332, val := Value.ref 114 }, { hash := PyData.keyHash P (Str.ofString "_law_cell_at"), key := Value.str (Str.ofString "_law_cell_at") 343, val := Value.ref 121 }, { hash := PyData.keyHash P (Str.ofString "_law_whole"), key := Value.str (Str.ofString "_law_whole") 350, val := Value.ref 128 }, { hash := PyData.keyHash P (Str.ofString "_law_number_in"), key := Value.str (Str.ofString "_law_number_in") 361, val := Value.ref 135 }, { hash := PyData.keyHash P (Str.ofString "_law_read"), key := Value.str (Str.ofString "_law_read") 367, val := Value.ref 140 }, { hash := PyData.keyHash P (Str.ofString "_law_odd"), key := Value.str (Str.ofString "_law_odd") 375, val := Value.ref 147 }, { hash := PyData.keyHash P (Str.ofString "_law_text"), key := Value.str (Str.ofString "_law_text") 389, val := Value.ref 154 }, { hash := PyData.keyHash P (Str.ofString "_law_refused"), key := Value.str (Str.ofString "_law_refused") 397, val := Value.ref 161 }, { hash := PyData.keyHash P (Str.ofString "law"), key := Value.str (Str.ofString "law") 403, val := Value.ref 166 }] 32 }),
  (23, { cls := Value.type "dict", data := Data.dict #[{ hash := PyData.keyHash P (Str.ofString "__module__"), key := Value.str (Str.ofString "__module__") 196, val := Value.str (Str.ofString "wholecut.errors") 187 }, { hash := PyData.keyHash P (Str.ofString "__firstlineno__"), key := Value.str (Str.ofString "__firstlineno__") 200, val := Value.int 2 199 }, { hash := PyData.keyHash P (Str.ofString "__static_attributes__"), key := Value.str (Str.ofString "__static_attributes__") 201, val := Value.ref 22 }, { hash := PyData.keyHash P (Str.ofString "__weakref__"), key := Value.str (Str.ofString "__weakref__") 203, val := Value.ref 25 }, { hash := PyData.keyHash P (Str.ofString "__doc__"), key := Value.str (Str.ofString "__doc__") 204, val := Value.none }] 3 }),
  (24, { cls := Value.type "type", data := Data.cls { name := Str.ofString "CutError", bases := [Value.type "ValueError"], mro := [Value.ref 24, Value.type "ValueError", Value.type "Exception", Value.type "BaseException", Value.type "object"], ns := 23, qualname := Str.ofString "CutError", subclasses := [Value.ref 37, Value.ref 49, Value.ref 61, Value.ref 73, Value.ref 85, Value.ref 97] }, slots := #[Option.some (Value.ref 15), Option.none, Option.some (Value.str (Str.ofString "CutError") 189), Option.some (Value.str (Str.ofString "CutError") 197), Option.some (Value.builtin "ValueError.__new__"), Option.some (Value.bool Bool.true)] }),
  (36, { cls := Value.type "dict", data := Data.dict #[{ hash := PyData.keyHash P (Str.ofString "__module__"), key := Value.str (Str.ofString "__module__") 214, val := Value.str (Str.ofString "wholecut.errors") 187 }, { hash := PyData.keyHash P (Str.ofString "__firstlineno__"), key := Value.str (Str.ofString "__firstlineno__") 218, val := Value.int 4 217 }, { hash := PyData.keyHash P (Str.ofString "__static_attributes__"), key := Value.str (Str.ofString "__static_attributes__") 219, val := Value.ref 35 }, { hash := PyData.keyHash P (Str.ofString "__doc__"), key := Value.str (Str.ofString "__doc__") 220, val := Value.none }] 2 }),
  (37, { cls := Value.type "type", data := Data.cls { name := Str.ofString "BadProblem", bases := [Value.ref 24], mro := [Value.ref 37, Value.ref 24, Value.type "ValueError", Value.type "Exception", Value.type "BaseException", Value.type "object"], ns := 36, qualname := Str.ofString "BadProblem" }, slots := #[Option.some (Value.ref 28), Option.none, Option.some (Value.str (Str.ofString "BadProblem") 207), Option.some (Value.str (Str.ofString "BadProblem") 215), Option.some (Value.builtin "ValueError.__new__"), Option.some (Value.bool Bool.true)] }),
  (48, { cls := Value.type "dict", data := Data.dict #[{ hash := PyData.keyHash P (Str.ofString "__module__"), key := Value.str (Str.ofString "__module__") 230, val := Value.str (Str.ofString "wholecut.errors") 187 }, { hash := PyData.keyHash P (Str.ofString "__firstlineno__"), key := Value.str (Str.ofString "__firstlineno__") 234, val := Value.int 6 233 }, { hash := PyData.keyHash P (Str.ofString "__static_attributes__"), key := Value.str (Str.ofString "__static_attributes__") 235, val := Value.ref 47 }, { hash := PyData.keyHash P (Str.ofString "__doc__"), key := Value.str (Str.ofString "__doc__") 236, val := Value.none }] 2 }),
  (49, { cls := Value.type "type", data := Data.cls { name := Str.ofString "BadPoint", bases := [Value.ref 24], mro := [Value.ref 49, Value.ref 24, Value.type "ValueError", Value.type "Exception", Value.type "BaseException", Value.type "object"], ns := 48, qualname := Str.ofString "BadPoint" }, slots := #[Option.some (Value.ref 40), Option.none, Option.some (Value.str (Str.ofString "BadPoint") 223), Option.some (Value.str (Str.ofString "BadPoint") 231), Option.some (Value.builtin "ValueError.__new__"), Option.some (Value.bool Bool.true)] }),
  (60, { cls := Value.type "dict", data := Data.dict #[{ hash := PyData.keyHash P (Str.ofString "__module__"), key := Value.str (Str.ofString "__module__") 246, val := Value.str (Str.ofString "wholecut.errors") 187 }, { hash := PyData.keyHash P (Str.ofString "__firstlineno__"), key := Value.str (Str.ofString "__firstlineno__") 250, val := Value.int 8 249 }, { hash := PyData.keyHash P (Str.ofString "__static_attributes__"), key := Value.str (Str.ofString "__static_attributes__") 251, val := Value.ref 59 }, { hash := PyData.keyHash P (Str.ofString "__doc__"), key := Value.str (Str.ofString "__doc__") 252, val := Value.none }] 2 }),
  (61, { cls := Value.type "type", data := Data.cls { name := Str.ofString "BadBox", bases := [Value.ref 24], mro := [Value.ref 61, Value.ref 24, Value.type "ValueError", Value.type "Exception", Value.type "BaseException", Value.type "object"], ns := 60, qualname := Str.ofString "BadBox" }, slots := #[Option.some (Value.ref 52), Option.none, Option.some (Value.str (Str.ofString "BadBox") 239), Option.some (Value.str (Str.ofString "BadBox") 247), Option.some (Value.builtin "ValueError.__new__"), Option.some (Value.bool Bool.true)] }),
  (72, { cls := Value.type "dict", data := Data.dict #[{ hash := PyData.keyHash P (Str.ofString "__module__"), key := Value.str (Str.ofString "__module__") 262, val := Value.str (Str.ofString "wholecut.errors") 187 }, { hash := PyData.keyHash P (Str.ofString "__firstlineno__"), key := Value.str (Str.ofString "__firstlineno__") 266, val := Value.int 10 265 }, { hash := PyData.keyHash P (Str.ofString "__static_attributes__"), key := Value.str (Str.ofString "__static_attributes__") 267, val := Value.ref 71 }, { hash := PyData.keyHash P (Str.ofString "__doc__"), key := Value.str (Str.ofString "__doc__") 268, val := Value.none }] 2 }),
  (73, { cls := Value.type "type", data := Data.cls { name := Str.ofString "BadWeights", bases := [Value.ref 24], mro := [Value.ref 73, Value.ref 24, Value.type "ValueError", Value.type "Exception", Value.type "BaseException", Value.type "object"], ns := 72, qualname := Str.ofString "BadWeights" }, slots := #[Option.some (Value.ref 64), Option.none, Option.some (Value.str (Str.ofString "BadWeights") 255), Option.some (Value.str (Str.ofString "BadWeights") 263), Option.some (Value.builtin "ValueError.__new__"), Option.some (Value.bool Bool.true)] }),
  (84, { cls := Value.type "dict", data := Data.dict #[{ hash := PyData.keyHash P (Str.ofString "__module__"), key := Value.str (Str.ofString "__module__") 278, val := Value.str (Str.ofString "wholecut.errors") 187 }, { hash := PyData.keyHash P (Str.ofString "__firstlineno__"), key := Value.str (Str.ofString "__firstlineno__") 282, val := Value.int 12 281 }, { hash := PyData.keyHash P (Str.ofString "__static_attributes__"), key := Value.str (Str.ofString "__static_attributes__") 283, val := Value.ref 83 }, { hash := PyData.keyHash P (Str.ofString "__doc__"), key := Value.str (Str.ofString "__doc__") 284, val := Value.none }] 2 }),
  (85, { cls := Value.type "type", data := Data.cls { name := Str.ofString "NoTurn", bases := [Value.ref 24], mro := [Value.ref 85, Value.ref 24, Value.type "ValueError", Value.type "Exception", Value.type "BaseException", Value.type "object"], ns := 84, qualname := Str.ofString "NoTurn" }, slots := #[Option.some (Value.ref 76), Option.none, Option.some (Value.str (Str.ofString "NoTurn") 271), Option.some (Value.str (Str.ofString "NoTurn") 279), Option.some (Value.builtin "ValueError.__new__"), Option.some (Value.bool Bool.true)] }),
  (96, { cls := Value.type "dict", data := Data.dict #[{ hash := PyData.keyHash P (Str.ofString "__module__"), key := Value.str (Str.ofString "__module__") 294, val := Value.str (Str.ofString "wholecut.errors") 187 }, { hash := PyData.keyHash P (Str.ofString "__firstlineno__"), key := Value.str (Str.ofString "__firstlineno__") 298, val := Value.int 14 297 }, { hash := PyData.keyHash P (Str.ofString "__static_attributes__"), key := Value.str (Str.ofString "__static_attributes__") 299, val := Value.ref 95 }, { hash := PyData.keyHash P (Str.ofString "__doc__"), key := Value.str (Str.ofString "__doc__") 300, val := Value.none }] 2 }),
  (97, { cls := Value.type "type", data := Data.cls { name := Str.ofString "BadText", bases := [Value.ref 24], mro := [Value.ref 97, Value.ref 24, Value.type "ValueError", Value.type "Exception", Value.type "BaseException", Value.type "object"], ns := 96, qualname := Str.ofString "BadText" }, slots := #[Option.some (Value.ref 88), Option.none, Option.some (Value.str (Str.ofString "BadText") 287), Option.some (Value.str (Str.ofString "BadText") 295), Option.some (Value.builtin "ValueError.__new__"), Option.some (Value.bool Bool.true)] })]) [3, 23, 24, 36, 37, 48, 49, 60, 61, 72, 73, 84, 85, 96, 97] (fun _ => by kernel_rfl))
  case hw => w_witness2
  intro w s₀ s₁ mg mb G Y fa o pm cd doc dV kV ho hd hcd hD hmg hg args vals as hpre hlay hrd hwl hlo
  have KX : (k02 w.params).In s₁.heap := kIn_of Y
  refine Ground.open G ?_
  intro T B D TE TW
  wrow_args hpre hlay hrd hwl hlo
  all_goals first | refine callC_kw (enter_call ?_) | refine enter_call ?_ | refine callC_kw (enter_callW ?_) | refine enter_callW ?_ | w_how
  w_top on
  try refine codeAny_mono ?_ (fun _ _ g => GoodW.toG g)
  obtain ⟨a, tk, bt, k, E, hE⟩ := e02 (c := ⟨Challenge.rw_uf020023_02.row.prog, w, s₁.heap, mg, mb⟩) T (by rfl) KX rfl
  have hfa : a 25 = fa := by
    have := hmg.symm.trans hE
    injection this with this
    injection this with this
    exact this.symm
  rename_i hL _ _ _ hI _ hlen _
  have hlen' : ¬ ((63 : Nat) : Int) < _ := hlen
  rw [← hfa]
  refine codeAny_mono (topDef (c := ⟨Challenge.rw_uf020023_02.row.prog, w, s₁.heap, mg, mb⟩) (ρ' := []) (γ' := [("_law_script", .ref 0)]) ⟨T.g, T.b, T.nolimit, T.builtins⟩ rfl E.law rfl hL hI (fun x v e => by cases e) (Par.cons rfl rfl Par.nil) (law_ok E rfl (by omega))) ?_
  rintro r s' ⟨rfl, hk, hos, hge⟩
  exact ⟨.inl ⟨_, _, [], rfl, fun _ => rfl, .bool true, (by kernel_rfl), fun _ => ⟨.nil, fun a ha => by cases ha⟩⟩, hk, hos, hge.trans hg⟩
end
end Mine
theorem PySem.Challenge.cw_uf020023_02_holds : PySem.Challenge.rw_uf020023_02.Holds :=
  Mine.main02
