import PyProof.Rows.All
import Wide.All
import OpenK.AllK
import Wide.FinOn
import PyProof.Cells
import PyProof.Walks
import PyProof.CompFree
import PyProof.Rules3
import PyProof.ForRange
import PyProof.DictKinds
import PyProof.DictRoadsH
import PyProof.TupleKey
import KE.KDictList
import KE.KDictOf
import PyProof.RulesAssignMore
import Lean
import PySem.Challenge.RW_uf060015_03

set_option Elab.async false
set_option maxRecDepth 100000
set_option maxHeartbeats 8000000
set_option linter.unusedVariables false
set_option linter.unusedSimpArgs false
set_option genSizeOf false
noncomputable section

section
namespace Mine
open PySem

inductive AV where
  | none
  | bool (b : Bool)
  | int (i : Int)
  | str (x : Str)
  | tup (l : List AV)
  | list (l : List AV)
  | dict (l : List (AV × AV))
  | rng (lo hi : Int)
  | obj (a : Addr)
  | raw (v : Value)

abbrev Fz := Addr → Option Obj
def Fz.le (F G : Fz) : Prop := ∀ a o, F a = some o → G a = some o
theorem Fz.le.refl (F : Fz) : F.le F := fun _ _ h => h
theorem Fz.le.trans {F G H : Fz} (x : F.le G) (y : G.le H) : F.le H := fun a o h => y a o (x a o h)

abbrev lstO (vs : List Value) (n : Nat) : Obj := { cls := .type "list", data := .seq vs.toArray n }
abbrev tupO (vs : List Value) (n : Nat) : Obj := { cls := .type "tuple", data := .seq vs.toArray n }
abbrev dctO (es : List DictEntry) (n : Nat) : Obj := { cls := .type "dict", data := .dict es.toArray n }

mutual
def hK (w : World) : AV → Int
  | .int i => hashInt i
  | .str x => hashStr w x
  | .tup l => reduceHash (Builtin.Tuple.tupleHashOf (hKs w l))
  | _ => 0
def hKs (w : World) : List AV → List Int
  | [] => []
  | x :: r => hK w x :: hKs w r
end
mutual
def isKey : AV → Bool
  | .int _ => true
  | .str _ => true
  | .tup l => areKeys l
  | _ => false
def areKeys : List AV → Bool
  | [] => true
  | x :: r => isKey x && areKeys r
end

def DOk (a : Addr) (l : List (AV × AV)) : Prop := (l.map (·.1)).Nodup ∧ (a == sysModules) = false
mutual
inductive Rep (w : World) (F : Fz) : Value → AV → Prop
  | none : Rep w F .none .none
  | bool (b : Bool) : Rep w F (.bool b) (.bool b)
  | int (i : Int) (t : Tok) : Rep w F (.int i t) (.int i)
  | str (x : Str) (t : Tok) : Rep w F (.str x t) (.str x)
  | tup {a : Addr} {vs : List Value} {n : Nat} {l : List AV} : F a = some (tupO vs n) → RepL w F vs l → Rep w F (.ref a) (.tup l)
  | list {a : Addr} {vs : List Value} {n : Nat} {l : List AV} : F a = some (lstO vs n) → RepL w F vs l → Rep w F (.ref a) (.list l)
  | dict {a : Addr} {es : List DictEntry} {n : Nat} {l : List (AV × AV)} : F a = some (dctO es n) → RepE w F es l → DOk a l → Rep w F (.ref a) (.dict l)
  | rng {a : Addr} {lo hi : Int} {t u v : Tok} : F a = some { cls := .type "range", data := .fields #[.int lo t, .int hi u, .int 1 v] } → Rep w F (.ref a) (.rng lo hi)
  | obj (a : Addr) : Rep w F (.ref a) (.obj a)
  | raw (v : Value) : Rep w F v (.raw v)
inductive RepL (w : World) (F : Fz) : List Value → List AV → Prop
  | nil : RepL w F [] []
  | cons {v : Value} {vs : List Value} {x : AV} {l : List AV} : Rep w F v x → RepL w F vs l → RepL w F (v :: vs) (x :: l)
inductive RepE (w : World) (F : Fz) : List DictEntry → List (AV × AV) → Prop
  | nil : RepE w F [] []
  | cons {k v : Value} {es : List DictEntry} {x y : AV} {l : List (AV × AV)} : isKey x = true → Rep w F k x → Rep w F v y → RepE w F es l → RepE w F (⟨hK w x, k, v⟩ :: es) ((x, y) :: l)
end

section
variable {w : World} {F G : Fz}
mutual
theorem Rep.mono (hl : F.le G) : ∀ {v : Value} {x : AV}, Rep w F v x → Rep w G v x
  | _, _, .none => .none
  | _, _, .bool b => .bool b
  | _, _, .int i t => .int i t
  | _, _, .str x t => .str x t
  | _, _, .tup h r => .tup (hl _ _ h) (RepL.mono hl r)
  | _, _, .list h r => .list (hl _ _ h) (RepL.mono hl r)
  | _, _, .dict h r n => .dict (hl _ _ h) (RepE.mono hl r) n
  | _, _, .rng h => .rng (hl _ _ h)
  | _, _, .obj a => .obj a
  | _, _, .raw v => .raw v
theorem RepL.mono (hl : F.le G) : ∀ {vs : List Value} {l : List AV}, RepL w F vs l → RepL w G vs l
  | _, _, .nil => .nil
  | _, _, .cons h r => .cons (Rep.mono hl h) (RepL.mono hl r)
theorem RepE.mono (hl : F.le G) : ∀ {es : List DictEntry} {l : List (AV × AV)}, RepE w F es l → RepE w G es l
  | _, _, .nil => .nil
  | _, _, .cons k h h' r => .cons k (Rep.mono hl h) (Rep.mono hl h') (RepE.mono hl r)
end
theorem RepL.length {vs : List Value} {l : List AV} (h : RepL w F vs l) : vs.length = l.length := by
  induction vs generalizing l with
  | nil => cases h; rfl
  | cons v vs ih => cases h with | cons _ r => rw [List.length_cons, List.length_cons, ih r]
theorem RepL.append {vs ws : List Value} {l m : List AV} (h : RepL w F vs l) (k : RepL w F ws m) : RepL w F (vs ++ ws) (l ++ m) := by
  induction vs generalizing l with
  | nil => cases h; exact k
  | cons v vs ih => cases h with | cons h r => exact .cons h (ih r)
theorem RepL.get {vs : List Value} {l : List AV} (h : RepL w F vs l) {i : Nat} {x : AV} (hx : l[i]? = some x) : ∃ v, vs[i]? = some v ∧ Rep w F v x := by
  induction vs generalizing l i with
  | nil => cases h; simp at hx
  | cons v vs ih =>
    cases h with
    | cons h r =>
      cases i with
      | zero => simp at hx; subst hx; exact ⟨v, rfl, h⟩
      | succ i => exact ih r (by simpa using hx)
theorem RepL.get' {vs : List Value} {l : List AV} (h : RepL w F vs l) {i : Nat} {v : Value} (hv : vs[i]? = some v) : ∃ x, l[i]? = some x ∧ Rep w F v x := by
  induction vs generalizing l i with
  | nil => simp at hv
  | cons u vs ih =>
    cases h with
    | cons h r =>
      cases i with
      | zero => simp at hv; subst hv; exact ⟨_, rfl, h⟩
      | succ i => exact ih r (by simpa using hv)
theorem RepL.take {vs : List Value} {l : List AV} (h : RepL w F vs l) (n : Nat) : RepL w F (vs.take n) (l.take n) := by
  induction vs generalizing l n with
  | nil => cases h; simp; exact .nil
  | cons u vs ih =>
    cases h with
    | cons h r =>
      cases n with
      | zero => exact .nil
      | succ n => exact .cons h (ih r n)
theorem RepL.drop {vs : List Value} {l : List AV} (h : RepL w F vs l) (n : Nat) : RepL w F (vs.drop n) (l.drop n) := by
  induction vs generalizing l n with
  | nil => cases h; simp; exact .nil
  | cons u vs ih =>
    cases h with
    | cons h r =>
      cases n with
      | zero => exact .cons h r
      | succ n => exact ih r n
theorem RepE.length {es : List DictEntry} {l : List (AV × AV)} (h : RepE w F es l) : es.length = l.length := by
  induction es generalizing l with
  | nil => cases h; rfl
  | cons v vs ih => cases h with | cons _ _ _ r => rw [List.length_cons, List.length_cons, ih r]
end

inductive AObj where
  | lst (l : List AV)
  | dct (l : List (AV × AV))
abbrev Sto := Addr → Option AObj
def Sto.set (σ : Sto) (a : Addr) (x : AObj) : Sto := fun b => if b = a then some x else σ b
def Sto.del (σ : Sto) (a : Addr) : Sto := fun b => if b = a then Option.none else σ b
def fz (h : Heap) (own : List Addr) (σ : Sto) : Fz := fun a => if (σ a).isSome || own.contains a then Option.none else h.get? a

theorem fz_eq {h : Heap} {own : List Addr} {σ : Sto} {a : Addr} {o : Obj} : fz h own σ a = some o ↔ σ a = Option.none ∧ a ∉ own ∧ h.get? a = some o := by
  unfold fz
  by_cases h1 : (σ a).isSome = true
  · rw [h1]; simp; intro e; rw [e] at h1; cases h1
  · by_cases h2 : a ∈ own
    · simp [h2]
    · have e : σ a = Option.none := by cases hq : σ a with | none => rfl | some x => rw [hq] at h1; simp at h1
      simp [h2, e]

def ObjRep (w : World) (F : Fz) (h : Heap) (a : Addr) : AObj → Prop
  | .lst l => ∃ vs n, h.get? a = some (lstO vs n) ∧ RepL w F vs l
  | .dct l => ∃ es n, h.get? a = some (dctO es n) ∧ RepE w F es l ∧ DOk a l
theorem ObjRep.live {w : World} {F : Fz} {h : Heap} {a : Addr} {x : AObj} (r : ObjRep w F h a x) : ∃ o, h.get? a = some o := by
  cases x with
  | lst l => obtain ⟨_, _, e, _⟩ := r; exact ⟨_, e⟩
  | dct l => obtain ⟨_, _, e, _⟩ := r; exact ⟨_, e⟩
theorem ObjRep.mono {w : World} {F G : Fz} {h h' : Heap} {a : Addr} {x : AObj} (r : ObjRep w F h a x) (hl : F.le G) (he : ∀ o, h.get? a = some o → h'.get? a = some o) : ObjRep w G h' a x := by
  cases x with
  | lst l => obtain ⟨vs, n, e, k⟩ := r; exact ⟨vs, n, he _ e, k.mono hl⟩
  | dct l => obtain ⟨vs, n, e, k, m⟩ := r; exact ⟨vs, n, he _ e, k.mono hl, m⟩

structure Inv (w : World) (H₀ : Heap) (own : List Addr) (σ : Sto) (s : Shared) : Prop where
  keep : ∀ b o, H₀.get? b = some o → fz s.heap own σ b = some o
  objs : ∀ a x, σ a = some x → ObjRep w (fz s.heap own σ) s.heap a x
  off : ∀ a ∈ own, σ a = Option.none
  live : ∀ a ∈ own, ∃ o, s.heap.get? a = some o

structure Ev (own : List Addr) (σ : Sto) (s : Shared) (σ' : Sto) (s' : Shared) : Prop where
  same : ∃ h' tk, s' = { s with heap := h', toks := tk }
  grow : (fz s.heap own σ).le (fz s'.heap own σ')
  own : ∀ a ∈ own, ∀ o, s.heap.get? a = some o → s'.heap.get? a = some o

theorem Ev.refl (own : List Addr) (σ : Sto) (s : Shared) : Ev own σ s σ s := ⟨⟨s.heap, s.toks, rfl⟩, .refl _, fun _ _ _ h => h⟩
theorem Ev.trans {own : List Addr} {σ σ' σ'' : Sto} {s s' s'' : Shared} (x : Ev own σ s σ' s') (y : Ev own σ' s' σ'' s'') : Ev own σ s σ'' s'' := by
  refine ⟨?_, x.grow.trans y.grow, fun a ha o h => y.own a ha o (x.own a ha o h)⟩
  obtain ⟨h1, t1, rfl⟩ := x.same
  obtain ⟨h2, t2, rfl⟩ := y.same
  exact ⟨h2, t2, rfl⟩

theorem Inv.toks {w : World} {H₀ : Heap} {own : List Addr} {σ : Sto} {s : Shared} (x : Inv w H₀ own σ s) (t : Nat) : Inv w H₀ own σ { s with toks := t } := ⟨x.keep, x.objs, x.off, x.live⟩
theorem Ev.toks (own : List Addr) (σ : Sto) (s : Shared) (t : Nat) : Ev own σ s σ { s with toks := t } := ⟨⟨s.heap, t, rfl⟩, .refl _, fun _ _ _ h => h⟩

theorem keep_fz {h h' : Heap} {own : List Addr} {σ : Sto} (hk : ∀ b o, h.get? b = some o → h'.get? b = some o) : (fz h own σ).le (fz h' own σ) := fun a o e => by
  obtain ⟨e1, e2, e3⟩ := fz_eq.mp e
  exact fz_eq.mpr ⟨e1, e2, hk a o e3⟩
theorem Inv.keeps {w : World} {H₀ : Heap} {own : List Addr} {σ : Sto} {s : Shared} (x : Inv w H₀ own σ s) {h' : Heap} {t : Nat} (hk : ∀ b o, s.heap.get? b = some o → h'.get? b = some o) : Inv w H₀ own σ { s with heap := h', toks := t } :=
  ⟨fun b o e => keep_fz hk b o (x.keep b o e), fun a y e => (x.objs a y e).mono (keep_fz hk) (fun o e => hk a o e), x.off, fun a ha => let ⟨o, e⟩ := x.live a ha; ⟨o, hk a o e⟩⟩
theorem Ev.keeps {own : List Addr} {σ : Sto} {s : Shared} {h' : Heap} {t : Nat} (hk : ∀ b o, s.heap.get? b = some o → h'.get? b = some o) : Ev own σ s σ { s with heap := h', toks := t } :=
  ⟨⟨h', t, rfl⟩, keep_fz hk, fun a _ o e => hk a o e⟩

theorem push_keeps (h : Heap) (o : Obj) : ∀ b ob, h.get? b = some ob → (h.push o).get? b = some ob := fun _ _ e => Heap.get?_push_of_some _ e
theorem Inv.fresh {w : World} {H₀ : Heap} {own : List Addr} {σ : Sto} {s : Shared} (x : Inv w H₀ own σ s) {a : Addr} (ha : s.heap.objs.size ≤ a) : σ a = Option.none ∧ a ∉ own := by
  refine ⟨?_, fun hm => ?_⟩
  · cases e : σ a with
    | none => rfl
    | some y => obtain ⟨o, ho⟩ := (x.objs a y e).live; exact absurd (Heap.lt_size ho) (Nat.not_lt.mpr ha)
  · obtain ⟨o, ho⟩ := x.live a hm; exact absurd (Heap.lt_size ho) (Nat.not_lt.mpr ha)

end Mine

end

section
namespace Mine
open PySem

abbrev Rho := List (Str × Option AV)

structure Gx where
  prog : Program
  w : World
  H₀ : Heap
abbrev Gx.M (g : Gx) : Model := model g.prog g.w
structure Cx (g : Gx) where
  A : Around
  env : Env
  own : List Addr
  hid : List Addr
  E : Value → Shared → Prop
  sc : Scope
  isFn : Bool

section
variable {g : Gx}
abbrev Cx.F (c : Cx g) (σ : Sto) (s : Shared) : Fz := fz s.heap c.own σ
abbrev Cx.Inv (c : Cx g) (σ : Sto) (s : Shared) : Prop := Mine.Inv g.w g.H₀ c.own σ s
abbrev Cx.Ev (c : Cx g) (σ : Sto) (s : Shared) (σ' : Sto) (s' : Shared) : Prop := Mine.Ev c.own σ s σ' s'
end

variable {g : Gx}
structure Frame (c : Cx g) (ns : List Str) : Prop where
  sc : c.env.scope = c.sc
  wr : c.isFn = true → ∀ x a, c.env.cells.lookup x = some a → a ∉ c.hid
  kind : c.env.scope.kind = .function
  glob : c.env.globals = mainGlobals
  blt : c.env.builtins = builtinsNs
  loc : c.env.locals ∈ c.own
  loc' : c.env.locals ∉ c.hid
  sub : ∀ a ∈ c.hid, a ∈ c.own
  cells : ∀ x a, c.env.cells.lookup x = some a → a ∈ c.own ∧ a ≠ c.env.locals
  apart : c.isFn = true → c.env.cells.Pairwise fun x y => x.2 ≠ y.2
  kinds : ∀ x ∈ ns, (x == ("__debug__" : Str)) = false ∧ (c.sc.names.lookup x = some .local ∨ (c.sc.names.lookup x = some .cell ∧ ∃ a, c.env.cells.lookup x = some a))
  nodup : ns.Nodup

structure St (c : Cx g) (ρ : Rho) (σ : Sto) (s : Shared) : Prop where
  inv : c.Inv σ s
  fr : Frame c (ρ.map (·.1))
  ns : ∃ m, s.heap.Ns c.env.locals m ∧ ∀ x v, (x, some v) ∈ ρ → c.sc.names.lookup x = some .local → ∃ u, m x = some u ∧ Rep g.w (c.F σ s) u v
  cl : ∀ x a, c.sc.names.lookup x = some .cell → c.env.cells.lookup x = some a → ∃ vo, s.heap.IsCell a vo ∧ ∀ v, (x, some v) ∈ ρ → ∃ u, vo = some u ∧ Rep g.w (c.F σ s) u v

theorem Frame.kindOf {c : Cx g} {ns : List Str} (f : Frame c ns) (x : Str) : c.env.kindOf x = c.sc.names.lookup x := by unfold Env.kindOf; rw [f.sc]

theorem St.ev {c : Cx g} {ρ : Rho} {σ σ' : Sto} {s s' : Shared} (x : St c ρ σ s) (i : c.Inv σ' s') (e : c.Ev σ s σ' s') : St c ρ σ' s' := by
  refine ⟨i, x.fr, ?_, ?_⟩
  · obtain ⟨m, hn, hm⟩ := x.ns
    refine ⟨m, hn.at' fun o ho => e.own _ x.fr.loc o ho, fun y v hy hk => ?_⟩
    obtain ⟨u, h1, h2⟩ := hm y v hy hk
    exact ⟨u, h1, h2.mono e.grow⟩
  · intro y a hk hl
    obtain ⟨vo, ⟨o, ho, hd⟩, hv⟩ := x.cl y a hk hl
    refine ⟨vo, ⟨o, e.own _ (x.fr.cells y a hl).1 o ho, hd⟩, fun v hy => ?_⟩
    obtain ⟨u, h1, h2⟩ := hv v hy
    exact ⟨u, h1, h2.mono e.grow⟩

def pg {α β : Type} (c : Cx g) (R : Fz → α → β → Prop) (σ : Sto) (s : Shared) (t : Sem α) (Q : β → Sto → Prop) : Prop :=
  wpAny g.M c.A t (fun v s' => ∃ x σ', c.Inv σ' s' ∧ c.Ev σ s σ' s' ∧ R (c.F σ' s') v x ∧ Q x σ') c.E s
abbrev pv (c : Cx g) (σ : Sto) (s : Shared) (t : Sem Value) (Q : AV → Sto → Prop) : Prop := pg c (Rep g.w) σ s t Q
abbrev pb (c : Cx g) (σ : Sto) (s : Shared) (t : Sem Bool) (Q : Bool → Sto → Prop) : Prop := pg c (fun _ a b => a = b) σ s t Q
abbrev pu (c : Cx g) (σ : Sto) (s : Shared) (t : Sem Unit) (Q : Sto → Prop) : Prop := pg c (fun _ _ (_ : Unit) => True) σ s t (fun _ σ' => Q σ')

def op1 (c : Cx g) (f : Value → Sem Value) (x : AV) (σ : Sto) (Q : AV → Sto → Prop) : Prop := ∀ s a, c.Inv σ s → Rep g.w (c.F σ s) a x → pv c σ s (f a) Q
def op2 (c : Cx g) (f : Value → Value → Sem Value) (x y : AV) (σ : Sto) (Q : AV → Sto → Prop) : Prop := ∀ s a b, c.Inv σ s → Rep g.w (c.F σ s) a x → Rep g.w (c.F σ s) b y → pv c σ s (f a b) Q
def opb (c : Cx g) (f : Value → Sem Bool) (x : AV) (σ : Sto) (Q : Bool → Sto → Prop) : Prop := ∀ s a, c.Inv σ s → Rep g.w (c.F σ s) a x → pb c σ s (f a) Q
def op3u (c : Cx g) (f : Value → Value → Value → Sem Unit) (x y z : AV) (σ : Sto) (Q : Sto → Prop) : Prop :=
  ∀ s a b d, c.Inv σ s → Rep g.w (c.F σ s) a x → Rep g.w (c.F σ s) b y → Rep g.w (c.F σ s) d z → pu c σ s (f a b d) Q
def cal (c : Cx g) (f : Value) (xs : List AV) (σ : Sto) (Q : AV → Sto → Prop) : Prop := ∀ s vs, c.Inv σ s → RepL g.w (c.F σ s) vs xs → pv c σ s (call f vs []) Q

def gv {α β : Type} (c : Cx g) (ρ : Rho) (R : Fz → α → β → Prop) (t : Sem α) (σ : Sto) (Q : β → Sto → Prop) : Prop := ∀ s, St c ρ σ s → pg c R σ s t Q
abbrev ev (c : Cx g) (ρ : Rho) (e : Expr) (σ : Sto) (Q : AV → Sto → Prop) : Prop := gv c ρ (Rep g.w) (eval e c.env) σ Q
abbrev evb (c : Cx g) (ρ : Rho) (e : Expr) (σ : Sto) (Q : Bool → Sto → Prop) : Prop := gv c ρ (fun _ a b => a = b) (isTrue e c.env (eval e c.env)) σ Q
def evl (c : Cx g) (ρ : Rho) : List Expr → Sto → (List AV → Sto → Prop) → Prop
  | [], σ, Q => Q [] σ
  | e :: r, σ, Q => ev c ρ e σ fun x σ₁ => evl c ρ r σ₁ fun l σ₂ => Q (x :: l) σ₂

inductive AFl where
  | next | brk | cont
  | ret (x : AV)
inductive RepF (w : World) (F : Fz) : Flow → AFl → Prop
  | next : RepF w F .next .next
  | brk : RepF w F .brk .brk
  | cont : RepF w F .cont .cont
  | ret {v : Value} {x : AV} : Rep w F v x → RepF w F (.ret v) (.ret x)
structure EvS (c : Cx g) (σ : Sto) (s : Shared) (σ' : Sto) (s' : Shared) : Prop where
  same : ∃ h' tk, s' = { s with heap := h', toks := tk }
  grow : (c.F σ s).le (c.F σ' s')
  hid : ∀ a ∈ c.hid, ∀ o, s.heap.get? a = some o → s'.heap.get? a = some o
theorem EvS.refl (c : Cx g) (σ : Sto) (s : Shared) : EvS c σ s σ s := ⟨⟨s.heap, s.toks, rfl⟩, .refl _, fun _ _ _ h => h⟩
theorem EvS.trans {c : Cx g} {σ σ' σ'' : Sto} {s s' s'' : Shared} (x : EvS c σ s σ' s') (y : EvS c σ' s' σ'' s'') : EvS c σ s σ'' s'' := by
  refine ⟨?_, x.grow.trans y.grow, fun a ha o h => y.hid a ha o (x.hid a ha o h)⟩
  obtain ⟨h1, t1, rfl⟩ := x.same
  obtain ⟨h2, t2, rfl⟩ := y.same
  exact ⟨h2, t2, rfl⟩
theorem Ev.toS {c : Cx g} {σ σ' : Sto} {s s' : Shared} (x : c.Ev σ s σ' s') (hs : ∀ a ∈ c.hid, a ∈ c.own) : EvS c σ s σ' s' := ⟨x.same, x.grow, fun a ha => x.own a (hs a ha)⟩

def es (c : Cx g) (ρ : Rho) (t : Sem Flow) (σ : Sto) (Q : AFl → Rho → Sto → Prop) : Prop :=
  ∀ s, St c ρ σ s → wpAny g.M c.A t (fun f s' => ∃ fl ρ' σ', St c ρ' σ' s' ∧ EvS c σ s σ' s' ∧ RepF g.w (c.F σ' s') f fl ∧ Q fl ρ' σ') c.E s

section
variable {c : Cx g} {ρ : Rho} {σ : Sto}

theorem pg.mono {α β : Type} {R : Fz → α → β → Prop} {s : Shared} {t : Sem α} {Q Q' : β → Sto → Prop} (h : pg c R σ s t Q) (hq : ∀ x σ', Q x σ' → Q' x σ') : pg c R σ s t Q' :=
  wpAny_mono h (fun _ _ ⟨x, σ', i, e, r, q⟩ => ⟨x, σ', i, e, r, hq x σ' q⟩) fun _ _ e => e
theorem gv.mono {α β : Type} {R : Fz → α → β → Prop} {t : Sem α} {Q Q' : β → Sto → Prop} (h : gv c ρ R t σ Q) (hq : ∀ x σ', Q x σ' → Q' x σ') : gv c ρ R t σ Q' := fun s hs => (h s hs).mono hq
theorem es.mono {t : Sem Flow} {Q Q' : AFl → Rho → Sto → Prop} (h : es c ρ t σ Q) (hq : ∀ x ρ' σ', Q x ρ' σ' → Q' x ρ' σ') : es c ρ t σ Q' :=
  fun s hs => wpAny_mono (h s hs) (fun _ _ ⟨x, ρ', σ', i, e, r, q⟩ => ⟨x, ρ', σ', i, e, r, hq x ρ' σ' q⟩) fun _ _ e => e
theorem ev_none {k pos} {Q : AV → Sto → Prop} (q : Q .none σ) : ev c ρ (.Constant .none k pos) σ Q := fun s hs => wpAny_Constant_none ⟨_, σ, hs.inv, .refl .., .none, q⟩
theorem ev_bool {b k pos} {Q : AV → Sto → Prop} (q : Q (.bool b) σ) : ev c ρ (.Constant (.bool b) k pos) σ Q := fun s hs => wpAny_Constant_bool ⟨_, σ, hs.inv, .refl .., .bool b, q⟩
theorem ev_int {i k pos} {Q : AV → Sto → Prop} (q : Q (.int i) σ) : ev c ρ (.Constant (.int i) k pos) σ Q := fun s hs => wpAny_Constant_int ⟨_, σ, hs.inv.toks _, .toks .., .int i _, q⟩
theorem ev_str {x k pos} {Q : AV → Sto → Prop} (q : Q (.str x) σ) : ev c ρ (.Constant (.str x) k pos) σ Q := fun s hs => wpAny_Constant_str ⟨_, σ, hs.inv.toks _, .toks .., .str x _, q⟩

theorem ev_name {x pos v} {Q : AV → Sto → Prop} (hx : (x, some v) ∈ ρ) (q : Q v σ) : ev c ρ (.Name x pos) σ Q := fun s hs => by
  have hm : x ∈ ρ.map (·.1) := List.mem_map.mpr ⟨_, hx, rfl⟩
  obtain ⟨hd, hk⟩ := hs.fr.kinds x hm
  rcases hk with hk | ⟨hk, a, ha⟩
  · obtain ⟨m, hn, hm⟩ := hs.ns
    obtain ⟨u, h1, h2⟩ := hm x v hx hk
    exact wpAny_Name (wpAny_loadName_local hs.fr.kind ((hs.fr.kindOf x).trans hk) hn h1 ⟨v, σ, hs.inv, .refl .., h2, q⟩) hd
  · obtain ⟨vo, hc, hv⟩ := hs.cl x a hk ha
    obtain ⟨u, rfl, h2⟩ := hv v hx
    exact wpAny_Name (wpAny_loadName_cell hs.fr.kind ((hs.fr.kindOf x).trans hk) ha hc ⟨v, σ, hs.inv, .refl .., h2, q⟩) hd

def Glob (H₀ : Heap) (x : Str) (v : Value) : Prop :=
  (x == ("__debug__" : Str)) = false ∧ ∃ mg mb, H₀.Ns mainGlobals mg ∧ H₀.Ns builtinsNs mb ∧ (mg x = some v ∨ mg x = Option.none ∧ mb x = some v)
theorem ev_glob {x pos v} {Q : AV → Sto → Prop} (hg : Glob g.H₀ x v) (hx : c.sc.names.lookup x = some .globalImplicit) (q : Q (.raw v) σ) : ev c ρ (.Name x pos) σ Q := fun s hs => by
  obtain ⟨hd, mg, mb, h1, h2, h3⟩ := hg
  have hk : ∀ b o, g.H₀.get? b = some o → s.heap.get? b = some o := fun b o e => (fz_eq.mp (hs.inv.keep b o e)).2.2
  have k1 := h1.keeps hk
  have k2 := h2.keeps hk
  rw [← hs.fr.glob] at k1
  rw [← hs.fr.blt] at k2
  refine Calls.Name_function_global hs.fr.kind ((hs.fr.kindOf x).trans hx) ?_ hd
  rcases h3 with h3 | ⟨h3, h4⟩
  · exact Calls.loadGlobal_global k1 h3 ⟨_, σ, hs.inv, .refl .., .raw v, q⟩
  · exact Calls.loadGlobal_builtin k1 h3 k2 h4 ⟨_, σ, hs.inv, .refl .., .raw v, q⟩

theorem ev_BinOp {l op r pos} {Q : AV → Sto → Prop} (h : ev c ρ l σ fun x σ₁ => ev c ρ r σ₁ fun y σ₂ => op2 c (binaryOp op) x y σ₂ Q) : ev c ρ (.BinOp l op r pos) σ Q := fun s hs => by
  refine wpAny_BinOp (wpAny_mono (h s hs) (fun a s₁ ⟨x, σ₁, i₁, e₁, r₁, q₁⟩ => ?_) fun _ _ e => e)
  refine wpAny_mono (q₁ s₁ (hs.ev i₁ e₁)) (fun b s₂ ⟨y, σ₂, i₂, e₂, r₂, q₂⟩ => ?_) fun _ _ e => e
  exact wpAny_mono (q₂ s₂ a b i₂ (r₁.mono e₂.grow) r₂) (fun v s₃ ⟨z, σ₃, i₃, e₃, r₃, q₃⟩ => ⟨z, σ₃, i₃, (e₁.trans e₂).trans e₃, r₃, q₃⟩) fun _ _ e => e
theorem ev_Cmp {l op r pos} {Q : AV → Sto → Prop} (h : ev c ρ l σ fun x σ₁ => ev c ρ r σ₁ fun y σ₂ => op2 c (compareOp op) x y σ₂ Q) (hm : behindInMarks op r = false := by with_unfolding_all rfl) : ev c ρ (.Compare l [op] [r] pos) σ Q := fun s hs => by
  refine wpAny_Compare1 (wpAny_mono (h s hs) (fun a s₁ ⟨x, σ₁, i₁, e₁, r₁, q₁⟩ => ?_) fun _ _ e => e) hm
  refine wpAny_mono (q₁ s₁ (hs.ev i₁ e₁)) (fun b s₂ ⟨y, σ₂, i₂, e₂, r₂, q₂⟩ => ?_) fun _ _ e => e
  exact wpAny_mono (q₂ s₂ a b i₂ (r₁.mono e₂.grow) r₂) (fun v s₃ ⟨z, σ₃, i₃, e₃, r₃, q₃⟩ => ⟨z, σ₃, i₃, (e₁.trans e₂).trans e₃, r₃, q₃⟩) fun _ _ e => e
theorem evb_Cmp {l op r pos} {Q : Bool → Sto → Prop} (h : ev c ρ l σ fun x σ₁ => ev c ρ r σ₁ fun y σ₂ => op2 c (compareOp op) x y σ₂ fun z σ₃ => opb c truthy z σ₃ Q) (hm : behindInMarks op r = false := by with_unfolding_all rfl) : evb c ρ (.Compare l [op] [r] pos) σ Q := fun s hs => by
  refine wpAny_isTrue_Compare1 (wpAny_mono (h s hs) (fun a s₁ ⟨x, σ₁, i₁, e₁, r₁, q₁⟩ => ?_) fun _ _ e => e) hm
  refine wpAny_mono (q₁ s₁ (hs.ev i₁ e₁)) (fun b s₂ ⟨y, σ₂, i₂, e₂, r₂, q₂⟩ => ?_) fun _ _ e => e
  refine wpAny_mono (q₂ s₂ a b i₂ (r₁.mono e₂.grow) r₂) (fun v s₃ ⟨z, σ₃, i₃, e₃, r₃, q₃⟩ => ?_) fun _ _ e => e
  exact wpAny_mono (q₃ s₃ v i₃ r₃) (fun v s₄ ⟨z, σ₄, i₄, e₄, r₄, q₄⟩ => ⟨z, σ₄, i₄, ((e₁.trans e₂).trans e₃).trans e₄, r₄, q₄⟩) fun _ _ e => e
theorem opb_bool {b : Bool} {Q : Bool → Sto → Prop} (q : Q b σ) : opb c truthy (.bool b) σ Q := fun s a i r => by
  cases r; exact wpAny_truthy_bool ⟨b, σ, i, .refl .., rfl, q⟩
theorem evb_value {e : Expr} {Q : Bool → Sto → Prop} (h : ev c ρ e σ fun x σ₁ => opb c truthy x σ₁ Q)
    (he : isTrue e c.env (eval e c.env) = (do let v ← eval e c.env; standAt e.pos; holding [v] (truthy v)) := by rfl) : evb c ρ e σ Q := fun s hs => by
  refine wpAny_isTrue_value (wpAny_mono (h s hs) (fun a s₁ ⟨x, σ₁, i₁, e₁, r₁, q₁⟩ => ?_) fun _ _ e => e) he
  exact wpAny_mono (q₁ s₁ a i₁ r₁) (fun v s₄ ⟨z, σ₄, i₄, e₄, r₄, q₄⟩ => ⟨z, σ₄, i₄, e₁.trans e₄, r₄, q₄⟩) fun _ _ e => e
theorem evb_not {x : Expr} {pos : Pos} {Q : Bool → Sto → Prop} (h : evb c ρ x σ fun b σ₁ => Q (!b) σ₁) : evb c ρ (.UnaryOp .Not x pos) σ Q := fun s hs =>
  wpAny_isTrue_Not (wpAny_mono (h s hs) (fun a s₁ ⟨x, σ₁, i₁, e₁, r₁, q₁⟩ => ⟨!a, σ₁, i₁, e₁, rfl, r₁ ▸ q₁⟩) fun _ _ e => e)
def evAll (c : Cx g) (ρ : Rho) (op : BoolOp) : List Expr → Sto → (Bool → Sto → Prop) → Prop
  | [], σ, Q => Q (op == .And) σ
  | e :: r, σ, Q => evb c ρ e σ fun b σ₁ => match op, b with
    | .And, false => Q false σ₁
    | .Or, true => Q true σ₁
    | _, _ => evAll c ρ op r σ₁ Q
theorem evAll_sound {op : BoolOp} : ∀ {l : List Expr} {σ : Sto} {Q : Bool → Sto → Prop}, evAll c ρ op l σ Q → gv c ρ (fun _ a b => a = b) (allTrue op l c.env) σ Q
  | [], σ, Q, h => fun s hs => by
    cases op
    · exact wpAny_allTrue_And_nil ⟨_, σ, hs.inv, .refl .., rfl, h⟩
    · exact wpAny_allTrue_Or_nil ⟨_, σ, hs.inv, .refl .., rfl, h⟩
  | e :: r, σ, Q, h => fun s hs => by
    have go : ∀ {s₁ : Shared} {σ₁ : Sto}, c.Inv σ₁ s₁ → c.Ev σ s σ₁ s₁ → evAll c ρ op r σ₁ Q → wpAny g.M c.A (allTrue op r c.env) (fun v s' => ∃ x σ', c.Inv σ' s' ∧ c.Ev σ s σ' s' ∧ v = x ∧ Q x σ') c.E s₁ := fun {s₁ σ₁} i₁ e₁ q =>
      wpAny_mono (evAll_sound q s₁ (hs.ev i₁ e₁)) (fun v s₄ ⟨z, σ₄, i₄, e₄, r₄, q₄⟩ => ⟨z, σ₄, i₄, e₁.trans e₄, r₄, q₄⟩) fun _ _ e => e
    cases op
    · refine wpAny_allTrue_And_cons (wpAny_mono (h s hs) (fun b s₁ ⟨x, σ₁, i₁, e₁, r₁, q₁⟩ => ?_) fun _ _ e => e)
      subst r₁
      cases b
      · exact ⟨_, σ₁, i₁, e₁, rfl, q₁⟩
      · exact go i₁ e₁ q₁
    · refine wpAny_allTrue_Or_cons (wpAny_mono (h s hs) (fun b s₁ ⟨x, σ₁, i₁, e₁, r₁, q₁⟩ => ?_) fun _ _ e => e)
      subst r₁
      cases b
      · exact go i₁ e₁ q₁
      · exact ⟨_, σ₁, i₁, e₁, rfl, q₁⟩
theorem evb_bool {op : BoolOp} {values : List Expr} {pos : Pos} {Q : Bool → Sto → Prop} (h : evAll c ρ op values σ Q) : evb c ρ (.BoolOp op values pos) σ Q := fun s hs => wpAny_isTrue_BoolOp (evAll_sound h s hs)

def evVal (c : Cx g) (ρ : Rho) (op : BoolOp) : List Expr → Sto → (AV → Sto → Prop) → Prop
  | [], _, _ => False
  | [e], σ, Q => ev c ρ e σ Q
  | e :: e' :: r, σ, Q => ev c ρ e σ fun x σ₁ => opb c truthy x σ₁ fun b σ₂ => match op, b with
    | .And, false => Q x σ₂
    | .Or, true => Q x σ₂
    | _, _ => evVal c ρ op (e' :: r) σ₂ Q
theorem evVal_sound {op : BoolOp} {pos : Pos} : ∀ {l : List Expr} {σ : Sto} {Q : AV → Sto → Prop}, evVal c ρ op l σ Q → gv c ρ (Rep g.w) (boolOp pos op (evalEach l c.env)) σ Q
  | [], _, _, h => h.elim
  | [e], σ, Q, h => h
  | e :: e' :: r, σ, Q, h => fun s hs => by
    show wpAny _ _ (do
      let v ← eval e c.env
      standAt pos
      let t ← holding [v] (truthy v)
      match op, t with
      | .And, false | .Or, true => pure v
      | _, _ => boolOp pos op (evalEach (e' :: r) c.env)) _ _ s
    refine wpAny_bind (wpAny_mono (h s hs) (fun a s₁ ⟨x, σ₁, i₁, e₁, r₁, q₁⟩ => ?_) fun _ _ e => e)
    refine wpAny_bind (wpAny_standAt (wpAny_bind (wpAny_holding (wpAny_mono (q₁ s₁ a i₁ r₁) (fun b s₂ ⟨y, σ₂, i₂, e₂, r₂, q₂⟩ => ?_) fun _ _ e => e))))
    subst r₂
    have go : evVal c ρ op (e' :: r) σ₂ Q → wpAny g.M c.A (boolOp pos op (evalEach (e' :: r) c.env)) (fun v s' => ∃ x σ', c.Inv σ' s' ∧ c.Ev σ s σ' s' ∧ Rep g.w (c.F σ' s') v x ∧ Q x σ') c.E s₂ := fun q =>
      wpAny_mono (evVal_sound q s₂ (hs.ev i₂ (e₁.trans e₂))) (fun v s₄ ⟨z, σ₄, i₄, e₄, r₄, q₄⟩ => ⟨z, σ₄, i₄, (e₁.trans e₂).trans e₄, r₄, q₄⟩) fun _ _ e => e
    cases op <;> cases b <;> first | exact go q₂ | exact wpAny_pure ⟨x, σ₂, i₂, e₁.trans e₂, r₁.mono e₂.grow, q₂⟩
theorem ev_boolop {op : BoolOp} {values : List Expr} {pos : Pos} {Q : AV → Sto → Prop} (h : evVal c ρ op values σ Q) : ev c ρ (.BoolOp op values pos) σ Q := fun s hs => evVal_sound (pos := pos) h s hs

theorem es_nil {Q : AFl → Rho → Sto → Prop} (q : Q .next ρ σ) : es c ρ (execs [] c.env) σ Q := fun s hs => wpAny_execs_nil ⟨_, ρ, σ, hs, .refl .., .next, q⟩
theorem es_cons {st rest} {Q : AFl → Rho → Sto → Prop} (h : es c ρ (exec st c.env) σ fun g ρ' σ' => match g with | .next => es c ρ' (execs rest c.env) σ' Q | g => Q g ρ' σ') : es c ρ (execs (st :: rest) c.env) σ Q := fun s hs => by
  refine wpAny_execs_cons (wpAny_mono (h s hs) (fun f s₁ ⟨g, ρ₁, σ₁, i₁, e₁, r₁, q₁⟩ => ?_) fun _ _ e => e)
  cases r₁ with
  | next => exact wpAny_mono (q₁ s₁ i₁) (fun f s₂ ⟨g, ρ₂, σ₂, i₂, e₂, r₂, q₂⟩ => ⟨g, ρ₂, σ₂, i₂, e₁.trans e₂, r₂, q₂⟩) fun _ _ e => e
  | brk => exact ⟨_, ρ₁, σ₁, i₁, e₁, .brk, q₁⟩
  | cont => exact ⟨_, ρ₁, σ₁, i₁, e₁, .cont, q₁⟩
  | ret h => exact ⟨_, ρ₁, σ₁, i₁, e₁, .ret h, q₁⟩
theorem es_return {e pos} {Q : AFl → Rho → Sto → Prop} (h : ev c ρ e σ fun x σ' => Q (.ret x) ρ σ') : es c ρ (exec (.Return (some e) pos) c.env) σ Q := fun s hs =>
  wpAny_Return_some (wpAny_mono (h s hs) (fun v s₁ ⟨x, σ₁, i₁, e₁, r₁, q₁⟩ => ⟨_, ρ, σ₁, hs.ev i₁ e₁, e₁.toS hs.fr.sub, .ret r₁, q₁⟩) fun _ _ e => e)
theorem es_if {test body orelse pos} {Q : AFl → Rho → Sto → Prop} (h : evb c ρ test σ fun b σ' => match b with | true => es c ρ (execs body c.env) σ' Q | false => es c ρ (execs orelse c.env) σ' Q) :
    es c ρ (exec (.If test body orelse pos) c.env) σ Q := fun s hs => by
  refine wpAny_If (wpAny_mono (h s hs) (fun b s₁ ⟨x, σ₁, i₁, e₁, r₁, q₁⟩ => ?_) fun _ _ e => e)
  subst r₁
  have go : ∀ {l : List Stmt}, es c ρ (execs l c.env) σ₁ Q → wpAny g.M c.A (execs l c.env) (fun f s' => ∃ fl ρ' σ', St c ρ' σ' s' ∧ EvS c σ s σ' s' ∧ RepF g.w (c.F σ' s') f fl ∧ Q fl ρ' σ') c.E s₁ := fun q =>
    wpAny_mono (q s₁ (hs.ev i₁ e₁)) (fun f s₂ ⟨g, ρ₂, σ₂, i₂, e₂, r₂, q₂⟩ => ⟨g, ρ₂, σ₂, i₂, (e₁.toS hs.fr.sub).trans e₂, r₂, q₂⟩) fun _ _ e => e
  cases b
  · exact go q₁
  · exact go q₁

inductive Upd (x : Str) (v : AV) : Rho → Rho → Prop
  | head {o : Option AV} {r : Rho} : Upd x v ((x, o) :: r) ((x, some v) :: r)
  | tail {p : Str × Option AV} {r r' : Rho} : Upd x v r r' → Upd x v (p :: r) (p :: r')
theorem Upd.names {x : Str} {v : AV} {r r' : Rho} (u : Upd x v r r') : r'.map (·.1) = r.map (·.1) := by
  induction u with
  | head => rfl
  | tail _ ih => simp [ih]
theorem Upd.mem {x : Str} {v : AV} {r r' : Rho} (u : Upd x v r r') : x ∈ r.map (·.1) := by
  induction u with
  | head => simp
  | tail _ ih => exact List.mem_cons_of_mem _ ih
theorem Upd.get {x : Str} {v : AV} {r r' : Rho} (u : Upd x v r r') (nd : (r.map (·.1)).Nodup) : ∀ y z, (y, some z) ∈ r' → (y = x ∧ z = v) ∨ (y ≠ x ∧ (y, some z) ∈ r) := by
  induction u with
  | @head o r =>
    intro y z h
    rw [List.map_cons, List.nodup_cons] at nd
    rcases List.mem_cons.mp h with h | h
    · injection h with h1 h2; injection h2 with h2; exact .inl ⟨h1, h2⟩
    · refine .inr ⟨?_, List.mem_cons_of_mem _ h⟩
      intro e
      exact nd.1 (e ▸ List.mem_map.mpr ⟨_, h, rfl⟩)
  | @tail p r r' u ih =>
    intro y z h
    rw [List.map_cons, List.nodup_cons] at nd
    rcases List.mem_cons.mp h with h | h
    · subst h
      refine .inr ⟨?_, List.mem_cons_self⟩
      rintro rfl
      exact nd.1 u.mem
    · rcases ih nd.2 y z h with h | ⟨h1, h2⟩
      · exact .inl h
      · exact .inr ⟨h1, List.mem_cons_of_mem _ h2⟩

theorem fz_sameBut {h h' : Heap} {own : List Addr} {σ : Sto} {a : Addr} (ha : a ∈ own) (hs : Heap.SameBut a h h') : fz h' own σ = fz h own σ := by
  funext b
  unfold fz
  by_cases hb : b = a
  · subst hb; simp [ha]
  · rw [hs.2 b hb]
theorem Inv.sameBut {w : World} {H₀ : Heap} {own : List Addr} {σ : Sto} {s : Shared} (x : Inv w H₀ own σ s) {a : Addr} (ha : a ∈ own) {h' : Heap} {t : Nat} (hs : Heap.SameBut a s.heap h') (hl : ∃ o, h'.get? a = some o) :
    Inv w H₀ own σ { s with heap := h', toks := t } := by
  have e : fz h' own σ = fz s.heap own σ := fz_sameBut ha hs
  refine ⟨fun b o hb => ?_, fun b y hb => ?_, x.off, fun b hb => ?_⟩
  · show fz h' own σ b = _; rw [e]; exact x.keep b o hb
  · show ObjRep w (fz h' own σ) h' b y
    rw [e]
    have hne : b ≠ a := by rintro rfl; rw [x.off b ha] at hb; cases hb
    exact (x.objs b y hb).mono (.refl _) fun o ho => (hs.2 b hne).trans ho
  · by_cases hne : b = a
    · subst hne; exact hl
    · obtain ⟨o, ho⟩ := x.live b hb; exact ⟨o, (hs.2 b hne).trans ho⟩

theorem store_sound {x : Str} {v : Value} {y : AV} {ρ' : Rho} {s : Shared} (hs : St c ρ σ s) (hu : Upd x y ρ ρ') (hc : c.isFn = true)
    (hv : Rep g.w (c.F σ s) v y) {Q : Unit → Shared → Prop} {E : Value → Shared → Prop} (q : ∀ s', St c ρ' σ s' → EvS c σ s σ s' → Q () s') : wpAny g.M c.A (storeName c.env x v) Q E s := by
  have hget := hu.get hs.fr.nodup
  have fr' : Frame c (ρ'.map (·.1)) := by rw [hu.names]; exact hs.fr
  rcases (hs.fr.kinds x hu.mem).2 with hk | ⟨hk, a, ha⟩
  · obtain ⟨m, hn, hm⟩ := hs.ns
    have hp : (c.env.scope.kind == .class || (c.env.scope.kind == .module && c.env.locals != c.env.globals)) = false := by rw [hs.fr.kind]; rfl
    refine wpAny_storeName_local ((hs.fr.kindOf x).trans hk) hn (fun h' hn' hs' => ?_) hp
    have hF : fz h' c.own σ = fz s.heap c.own σ := fz_sameBut hs.fr.loc hs'
    refine q _ ⟨hs.inv.sameBut hs.fr.loc hs' (let ⟨o, _, _, ho, _⟩ := hn'; ⟨o, ho⟩), fr', ⟨_, hn', fun z u hz hkz => ?_⟩, fun z b hkz hbz => ?_⟩
      ⟨⟨_, _, rfl⟩, by show (fz s.heap c.own σ).le (fz h' c.own σ); rw [hF]; exact .refl _, fun b hb o ho => (hs'.2 b (by rintro rfl; exact hs.fr.loc' hb)).trans ho⟩
    · show ∃ u', _ ∧ Rep g.w (fz h' c.own σ) u' u
      rw [hF]
      rcases hget z u hz with ⟨rfl, rfl⟩ | ⟨hne, hz'⟩
      · exact ⟨v, if_pos rfl, hv⟩
      · obtain ⟨u', h1, h2⟩ := hm z u hz' hkz
        exact ⟨u', by rw [if_neg hne]; exact h1, h2⟩
    · obtain ⟨vo, h1, h2⟩ := hs.cl z b hkz hbz
      refine ⟨vo, h1.sameBut hs' (hs.fr.cells z b hbz).2, fun u hz => ?_⟩
      show ∃ u', _ ∧ Rep g.w (fz h' c.own σ) u' u
      rw [hF]
      rcases hget z u hz with ⟨rfl, rfl⟩ | ⟨hne, hz'⟩
      · rw [hk] at hkz; cases hkz
      · exact h2 u hz'
  · obtain ⟨vo, hc0, hvo⟩ := hs.cl x a hk ha
    refine wpAny_storeName_cell hs.fr.kind ((hs.fr.kindOf x).trans hk) ha hc0 fun h' hc' hs' => ?_
    have hao := hs.fr.cells x a ha
    have hF : fz h' c.own σ = fz s.heap c.own σ := fz_sameBut hao.1 hs'
    have e0 : ({ s with heap := h' } : Shared) = { s with heap := h', toks := s.toks } := rfl
    refine q _ ⟨by rw [e0]; exact hs.inv.sameBut hao.1 hs' (let ⟨o, ho, _⟩ := hc'; ⟨o, ho⟩), fr', ?_, fun z b hkz hbz => ?_⟩
      ⟨⟨h', s.toks, rfl⟩, by show (fz s.heap c.own σ).le (fz h' c.own σ); rw [hF]; exact .refl _, fun b hb o ho => (hs'.2 b (by rintro rfl; exact hs.fr.wr hc _ _ ha hb)).trans ho⟩
    · obtain ⟨m, hn, hm⟩ := hs.ns
      refine ⟨m, hn.sameBut hs' (Ne.symm hao.2), fun z u hz hkz => ?_⟩
      show ∃ u', _ ∧ Rep g.w (fz h' c.own σ) u' u
      rw [hF]
      rcases hget z u hz with ⟨rfl, rfl⟩ | ⟨hne, hz'⟩
      · rw [hk] at hkz; cases hkz
      · exact hm z u hz' hkz
    · by_cases hz : z = x
      · subst hz
        rw [ha] at hbz; injection hbz with hbz; subst hbz
        refine ⟨some v, hc', fun u hu' => ?_⟩
        show ∃ u', _ ∧ Rep g.w (fz h' c.own σ) u' u
        rw [hF]
        rcases hget z u hu' with ⟨_, rfl⟩ | ⟨hne, _⟩
        · exact ⟨v, rfl, hv⟩
        · exact absurd rfl hne
      · obtain ⟨vo', h1, h2⟩ := hs.cl z b hkz hbz
        have hba : b ≠ a := by
          rintro rfl
          exact hz (name_of_addr (hs.fr.apart hc) (mem_of_lookup hbz) (mem_of_lookup ha))
        refine ⟨vo', h1.sameBut hs' hba, fun u hu' => ?_⟩
        show ∃ u', _ ∧ Rep g.w (fz h' c.own σ) u' u
        rw [hF]
        rcases hget z u hu' with ⟨rfl, _⟩ | ⟨_, hz'⟩
        · exact absurd rfl hz
        · exact h2 u hz'

theorem es_assign {x pos' value pos} {Q : AFl → Rho → Sto → Prop} (h : ev c ρ value σ fun y σ' => ∃ ρ', Upd x y ρ ρ' ∧ Q .next ρ' σ')
    (hc : c.isFn = true)
    (hw : swapsWith value (some (.Name x pos')) pos.line c.env = pure false := by rfl) : es c ρ (exec (.Assign [.Name x pos'] value pos) c.env) σ Q := fun s hs => by
  refine wpAny_Assign_Name (wpAny_mono (h s hs) (fun v s₁ ⟨y, σ₁, i₁, e₁, r₁, ρ', hu, q₁⟩ => ?_) fun _ _ e => e) hw
  exact store_sound (hs.ev i₁ e₁) hu hc r₁ fun s' hs' e' => ⟨_, ρ', σ₁, hs', (e₁.toS hs.fr.sub).trans e', .next, q₁⟩
end

end Mine

end

section
namespace Mine
open PySem
variable {g : Gx}

theorem bindL_skip {kindOf : Str → Option NameKind} : ∀ {b : List (Str × Value)} {m : Str → Option Value} {x : Str}, x ∉ b.map (·.1) → bindL kindOf b m x = m x
  | [], _, _, _ => rfl
  | (n, v) :: r, m, x, h => by
    rw [List.map_cons, List.mem_cons, not_or] at h
    unfold bindL
    rw [bindL_skip h.2]
    split
    · exact if_neg h.1
    · rfl
theorem bindC_skip {kindOf : Str → Option NameKind} : ∀ {b : List (Str × Value)} {m : Str → Option Value} {x : Str}, x ∉ b.map (·.1) → bindC kindOf b m x = m x
  | [], _, _, _ => rfl
  | (n, v) :: r, m, x, h => by
    rw [List.map_cons, List.mem_cons, not_or] at h
    unfold bindC
    rw [bindC_skip h.2]
    split
    · rfl
    · exact if_neg h.1
theorem bindL_get {kindOf : Str → Option NameKind} : ∀ {b : List (Str × Value)} {m : Str → Option Value} {x : Str} {v : Value}, (b.map (·.1)).Nodup → (x, v) ∈ b → kindOf x = some .local → bindL kindOf b m x = some v
  | (n, u) :: r, m, x, v, nd, h, hk => by
    rw [List.map_cons, List.nodup_cons] at nd
    unfold bindL
    rcases List.mem_cons.mp h with e | h
    · injection e with e1 e2
      subst e1; subst e2
      rw [bindL_skip nd.1, if_pos hk, if_pos rfl]
    · exact bindL_get nd.2 h hk
theorem bindC_get {kindOf : Str → Option NameKind} : ∀ {b : List (Str × Value)} {m : Str → Option Value} {x : Str} {v : Value}, (b.map (·.1)).Nodup → (x, v) ∈ b → kindOf x = some .cell → bindC kindOf b m x = some v
  | (n, u) :: r, m, x, v, nd, h, hk => by
    rw [List.map_cons, List.nodup_cons] at nd
    unfold bindC
    rcases List.mem_cons.mp h with e | h
    · injection e with e1 e2
      subst e1; subst e2
      rw [bindC_skip nd.1, if_neg (by rw [hk]; decide), if_pos rfl]
    · exact bindC_get nd.2 h hk
theorem cellsFrom_has {x : Str} : ∀ (names : List (Str × NameKind)) (n : Nat) (acc : List (Str × Addr)), names.lookup x = some .cell ∨ (acc.lookup x).isSome = true → ((cellsFrom n names acc).lookup x).isSome = true
  | [], _, _, h => h.elim (fun e => by cases e) id
  | (y, k) :: r, n, acc, h => by
    unfold cellsFrom
    by_cases hk : (k == .cell) = true
    · rw [if_pos hk]
      refine cellsFrom_has r (n + 1) ((y, n) :: acc) ?_
      by_cases hy : (x == y) = true
      · exact .inr (by rw [List.lookup_cons, hy]; rfl)
      · refine h.imp (fun e => ?_) fun e => ?_
        · rw [List.lookup_cons] at e; simpa only [hy] using e
        · rw [List.lookup_cons]; simpa only [hy] using e
    · rw [if_neg hk]
      refine cellsFrom_has r n acc ?_
      by_cases hy : (x == y) = true
      · refine .inr (h.elim (fun e => ?_) id)
        rw [List.lookup_cons, hy] at e
        exact absurd (by rw [Option.some.inj e]; rfl) hk
      · refine h.imp (fun e => ?_) id
        rw [List.lookup_cons] at e; simpa only [hy] using e

structure FnAt (g : Gx) (f : Addr) (ps : List Str) (body : List Stmt) (sc : Scope) : Prop where
  ex : ∃ o fd, g.H₀.get? f = some o ∧ o.data = .func fd ∧ fd.body = .stmts body ∧ fd.scope = sc ∧ fd.closure = [] ∧ fd.globals = mainGlobals ∧ fd.builtins = builtinsNs ∧
    g.H₀.CodeRec fd.code fd.qualname ∧ ∀ vals : List Value, vals.length = ps.length → bindArgs fd ⟨vals, []⟩ = pure (ps.zip vals)
  nolimit : g.H₀.NoLimit

def scOk (ps rest : List Str) (sc : Scope) : Bool :=
  !sc.isCoroutine && !sc.isGenerator && (sc.kind == .function) && decide ((ps ++ rest).Nodup) &&
  (ps ++ rest).all fun x => !(x == ("__debug__" : Str)) && (sc.names.lookup x == some .local || sc.names.lookup x == some .cell)
def rho0 (ps rest : List Str) (xs : List AV) : Rho := ps.zip (xs.map some) ++ rest.map fun x => (x, Option.none)

theorem rho0_names {ps rest : List Str} {xs : List AV} (h : xs.length = ps.length) : (rho0 ps rest xs).map (·.1) = ps ++ rest := by
  unfold rho0
  rw [List.map_append, List.map_map, List.map_fst_zip (by simp [h])]
  congr 1
  exact List.map_id' _
theorem zip_rep {w : World} {F : Fz} : ∀ {ps : List Str} {vs : List Value} {xs : List AV} {x : Str} {v : AV}, RepL w F vs xs → (x, some v) ∈ ps.zip (xs.map some) → ∃ u, (x, u) ∈ ps.zip vs ∧ Rep w F u v
  | [], _, _, _, _, _, h => by simp at h
  | p :: ps, _, _, x, v, .nil, h => by simp at h
  | p :: ps, _, _, x, v, .cons (v := u) hu r, h => by
    rw [List.map_cons, List.zip_cons_cons] at h
    rcases List.mem_cons.mp h with e | h
    · injection e with e1 e2
      injection e2 with e2
      subst e1; subst e2
      exact ⟨u, by rw [List.zip_cons_cons]; exact List.mem_cons_self, hu⟩
    · obtain ⟨u', h1, h2⟩ := zip_rep r h
      exact ⟨u', by rw [List.zip_cons_cons]; exact List.mem_cons_of_mem _ h1, h2⟩

def fnPost (Q : AV → Sto → Prop) : AFl → Rho → Sto → Prop := fun fl _ σ' => match fl with | .ret x => Q x σ' | _ => Q .none σ'

def cellAdrs (env : Env) : List Addr := (env.cells.map (·.1)).filterMap fun n => env.cells.lookup n
theorem cellAdrs_of {env : Env} {x : Str} {a : Addr} (h : env.cells.lookup x = some a) : a ∈ cellAdrs env :=
  List.mem_filterMap.mpr ⟨x, List.mem_map.mpr ⟨_, mem_of_lookup h, rfl⟩, h⟩
theorem of_cellAdrs {env : Env} {a : Addr} (h : a ∈ cellAdrs env) : ∃ x, env.cells.lookup x = some a := by
  obtain ⟨x, _, e⟩ := List.mem_filterMap.mp h; exact ⟨x, e⟩

theorem cal_fn {c : Cx g} {f : Addr} {ps rest : List Str} {body : List Stmt} {sc : Scope} {xs : List AV} {σ : Sto} {Q : AV → Sto → Prop} (fn : FnAt g f ps body sc) (ok : scOk ps rest sc = true)
    (hroom : c.A.depth < recursionLimit) (hlen : xs.length = ps.length)
    (h : ∀ c' : Cx g, c'.sc = sc → c'.isFn = true → c'.A = c.A.deeper c'.env → es c' (rho0 ps rest xs) (execs body c'.env) σ (fnPost Q)) : cal c (.ref f) xs σ Q := by
  intro s vs i r
  obtain ⟨o, fd, ho, hd, hb, hsc, hcl, hgl, hbl, hcr, hbind⟩ := fn.ex
  have hkeep : ∀ b o, g.H₀.get? b = some o → s.heap.get? b = some o := fun b o e => (fz_eq.mp (i.keep b o e)).2.2
  have hvl : vs.length = ps.length := r.length.trans hlen
  simp only [scOk, Bool.and_eq_true, Bool.not_eq_true', beq_iff_eq, decide_eq_true_eq, List.all_eq_true, Bool.or_eq_true] at ok
  obtain ⟨⟨⟨⟨hco, hgen⟩, hkd⟩, hnd⟩, hnm⟩ := ok
  subst hsc
  have hfst : (ps.zip vs).map (·.1) = ps := List.map_fst_zip (by omega)
  have hkinds : ∀ x ∈ ps.zip vs, fd.scope.names.lookup x.1 = some .local ∨ (fd.scope.names.lookup x.1 = some .cell ∧ ((cellsFrom (s.heap.objs.size + 1) fd.scope.names []).lookup x.1).isSome = true) := fun x hx => by
    have : x.1 ∈ ps := hfst ▸ List.mem_map.mpr ⟨x, hx, rfl⟩
    rcases (hnm x.1 (List.mem_append_left _ this)).2 with q | q
    · exact .inl q
    · exact .inr ⟨q, cellsFrom_has _ _ _ (.inl q)⟩
  refine wpAny_call (codeAny_call_cells hroom (hkeep _ _ ho) hd (fn.nolimit.keeps hkeep) (hcr.keeps hkeep) hb (hbind vs hvl) hcl hkinds (fun s₁ x => ?_) hco hgen hkd)
  obtain ⟨⟨h₁, tk₁, hs₁⟩, hns, hk₁, _⟩ := x.toInCall
  have xcell := x.cell
  have xapart := x.apart
  have xabove := x.above
  have hm1 : ∀ x v, (x, v) ∈ ps.zip vs → fd.scope.names.lookup x = some .local → bindL (callEnvC fd s.heap.objs.size f).kindOf (ps.zip vs) (fun _ => Option.none) x = some v := fun x v hx hk =>
    bindL_get (by rw [hfst]; exact (List.nodup_append.mp hnd).1) hx hk
  have hm2 : ∀ x v, (x, v) ∈ ps.zip vs → fd.scope.names.lookup x = some .cell → bindC (callEnvC fd s.heap.objs.size f).kindOf (ps.zip vs) (fun _ => Option.none) x = some v := fun x v hx hk =>
    bindC_get (by rw [hfst]; exact (List.nodup_append.mp hnd).1) hx hk
  generalize hml : bindL (callEnvC fd s.heap.objs.size f).kindOf (ps.zip vs) (fun _ => Option.none) = ml at hns hm1
  generalize hmc : bindC (callEnvC fd s.heap.objs.size f).kindOf (ps.zip vs) (fun _ => Option.none) = mc at xcell hm2
  clear x
  have hLoc : (callEnvC fd s.heap.objs.size f).locals = s.heap.objs.size := rfl
  have hScope : (callEnvC fd s.heap.objs.size f).scope = fd.scope := rfl
  have hGlob : (callEnvC fd s.heap.objs.size f).globals = mainGlobals := hgl
  have hBlt : (callEnvC fd s.heap.objs.size f).builtins = builtinsNs := hbl
  have hCells : ∀ x, ((fd.scope.names.lookup x) = some .cell) → ∃ a, (callEnvC fd s.heap.objs.size f).cells.lookup x = some a := fun x hx =>
    Option.isSome_iff_exists.mp (cellsFrom_has fd.scope.names (s.heap.objs.size + 1) [] (.inl hx))
  generalize henv : callEnvC fd s.heap.objs.size f = env at *
  -- the new context
  let R : Result → Shared → Prop := fun r s' => match r with | .ok (.ret v) => (∃ x σ', c.Inv σ' s' ∧ c.Ev σ s σ' s' ∧ Rep g.w (c.F σ' s') v x ∧ Q x σ') | .ok _ => False | .error e => c.E e s'
  let c' : Cx g := ⟨c.A.deeper env, env, (env.locals :: cellAdrs env) ++ c.own, c.own, fun e s' => wpAny g.M (c.A.deeper env) (leaving env e) (fun _ s'' => R (.error e) s'') (fun e' s'' => R (.error e') s'') s', fd.scope, true⟩
  have hnew : ∀ a ∈ env.locals :: cellAdrs env, s.heap.objs.size ≤ a := by
    intro a ha
    rcases List.mem_cons.mp ha with rfl | ha
    · exact Nat.le_of_eq hLoc.symm
    · obtain ⟨n, hb⟩ := of_cellAdrs ha
      exact Nat.le_of_lt (Nat.lt_of_le_of_lt (Nat.le_of_eq hLoc.symm) (xabove n a (mem_of_lookup hb)))
  have hF : (fz s.heap c.own σ).le (fz s₁.heap c'.own σ) := fun b ob e => by
    obtain ⟨e1, e2, e3⟩ := fz_eq.mp e
    refine fz_eq.mpr ⟨e1, fun hm => ?_, hk₁ b ob e3⟩
    rcases List.mem_append.mp hm with hm | hm
    · exact absurd (Heap.lt_size e3) (Nat.not_lt.mpr (hnew b hm))
    · exact e2 hm
  have hlook : ∀ {x a}, env.cells.lookup x = some a → a ∈ cellAdrs env := fun hx => cellAdrs_of hx
  have inv' : c'.Inv σ s₁ := by
    refine ⟨fun b ob e => hF b ob (i.keep b ob e), fun a y e => (i.objs a y e).mono hF fun ob e => hk₁ a ob e, fun a ha => ?_, fun a ha => ?_⟩
    · rcases List.mem_append.mp ha with ha | ha
      · exact (i.fresh (hnew a ha)).1
      · exact i.off a ha
    · rcases List.mem_append.mp ha with ha | ha
      · rcases List.mem_cons.mp ha with rfl | ha
        · obtain ⟨ob, _, _, hob, _⟩ := hns; exact ⟨ob, hob⟩
        · obtain ⟨n, hb⟩ := of_cellAdrs ha
          obtain ⟨ob, hob, _⟩ := xcell n a hb
          exact ⟨ob, hob⟩
      · obtain ⟨ob, hob⟩ := i.live a ha; exact ⟨ob, hk₁ a ob hob⟩
  have fr' : Frame c' ((rho0 ps rest xs).map (·.1)) := by
    rw [rho0_names hlen]
    refine ⟨hScope, fun _ x a ha hh => ?_, by show env.scope.kind = _; rw [hScope]; exact hkd, hGlob, hBlt, by simp [c'], fun hh => ?_, fun a ha => List.mem_append_right _ ha, fun x a ha => ⟨?_, ?_⟩, fun _ => xapart, fun x hx => ?_, hnd⟩
    · exact (i.fresh (hnew a (List.mem_cons_of_mem _ (hlook ha)))).2 hh
    · exact (i.fresh (hnew _ List.mem_cons_self)).2 hh
    · exact List.mem_append_left _ (List.mem_cons_of_mem _ (hlook ha))
    · exact Nat.ne_of_gt (xabove x a (mem_of_lookup ha))
    · obtain ⟨h1, h2⟩ := hnm x hx
      refine ⟨h1, h2.imp id fun q => ⟨q, hCells x q⟩⟩
  have st' : St c' (rho0 ps rest xs) σ s₁ := by
    refine ⟨inv', fr', ⟨ml, hns, fun x v hx hk => ?_⟩, fun x a hk ha => ⟨mc x, xcell x a ha, fun v hx => ?_⟩⟩
    · rcases List.mem_append.mp hx with hx | hx
      · obtain ⟨u, h1, h2⟩ := zip_rep r hx
        exact ⟨u, hm1 x u h1 hk, h2.mono hF⟩
      · obtain ⟨_, _, e⟩ := List.mem_map.mp hx; cases e
    · rcases List.mem_append.mp hx with hx | hx
      · obtain ⟨u, h1, h2⟩ := zip_rep r hx
        exact ⟨u, hm2 x u h1 hk, h2.mono hF⟩
      · obtain ⟨_, _, e⟩ := List.mem_map.mp hx; cases e
  refine wpAny_mono (h c' rfl rfl rfl s₁ st') (fun fl s' ⟨ag, ρ', σ', hst, hev, hrf, hq⟩ => ?_) fun _ _ e => e
  have hback : (fz s'.heap c'.own σ').le (fz s'.heap c.own σ') := fun b ob e => by
    obtain ⟨e1, e2, e3⟩ := fz_eq.mp e
    exact fz_eq.mpr ⟨e1, fun hm => e2 (List.mem_append_right _ hm), e3⟩
  have inv'' : c.Inv σ' s' := ⟨fun b ob e => hback b ob (hst.inv.keep b ob e), fun a y e => (hst.inv.objs a y e).mono hback fun _ e => e, fun a ha => hst.inv.off a (List.mem_append_right _ ha), fun a ha => hst.inv.live a (List.mem_append_right _ ha)⟩
  have ev'' : c.Ev σ s σ' s' := by
    refine ⟨?_, (hF.trans hev.grow).trans hback, fun a ha ob e => hev.hid a ha ob (hk₁ a ob e)⟩
    obtain ⟨h2, t2, e2⟩ := hev.same
    subst hs₁
    exact ⟨h2, t2, e2⟩
  cases hrf with
  | next => exact ⟨_, σ', inv'', ev'', .none, hq⟩
  | brk => exact ⟨_, σ', inv'', ev'', .none, hq⟩
  | cont => exact ⟨_, σ', inv'', ev'', .none, hq⟩
  | ret hr => exact ⟨_, σ', inv'', ev'', hr.mono hback, hq⟩

end Mine

end

section
namespace Mine
open PySem
variable {g : Gx} {c : Cx g} {ρ : Rho} {σ : Sto}

def noStar : Expr → Bool
  | .Starred _ _ => false
  | _ => true
theorem starEach_plain {env : Env} {pos : Pos} : ∀ {l : List Expr}, l.all noStar = true → backTo pos (starEach l env) = l.map fun e => (false, eval e env)
  | [], _ => rfl
  | e :: r, h => by
    simp only [List.all_cons, Bool.and_eq_true] at h
    have ih := starEach_plain (env := env) (pos := pos) h.2
    cases e <;> first | (exact congrArg (List.cons _) ih) | exact absurd h.1 Bool.false_ne_true

theorem evl_sound : ∀ {l : List Expr} {σ : Sto} {Q : List AV → Sto → Prop}, evl c ρ l σ Q → gv c ρ (RepL g.w) (spliced (l.map fun e => (false, eval e c.env))) σ Q
  | [], σ, Q, h => fun s hs => Calls.spliced_nil ⟨[], σ, hs.inv, .refl .., .nil, h⟩
  | e :: r, σ, Q, h => fun s hs => by
    refine Calls.spliced_cons (wpAny_mono (h s hs) (fun v s₁ ⟨x, σ₁, i₁, e₁, r₁, q₁⟩ => ?_) fun _ _ e => e)
    exact wpAny_mono (evl_sound q₁ s₁ (hs.ev i₁ e₁)) (fun vs s₂ ⟨xs, σ₂, i₂, e₂, r₂, q₂⟩ => ⟨x :: xs, σ₂, i₂, e₁.trans e₂, .cons (r₁.mono e₂.grow) r₂, q₂⟩) fun _ _ e => e

inductive Callee (g : Gx) : Value → Prop
  | builtin (id : String) : Callee g (.builtin id)
  | type (T : String) : Callee g (.type T)
  | fn {a : Addr} {o : Obj} {fd : FuncData} : g.H₀.get? a = some o → o.data = .func fd → Callee g (.ref a)

theorem callWith_any {v : Value} {first : List Value} {fx : List AV} {e : Expr} {rest : List Expr} {pos : Pos} {Q : AV → Sto → Prop} (hc : Callee g v) (hp : (e :: rest).all noStar = true) {s : Shared} (hs : St c ρ σ s)
    (hf : RepL g.w (c.F σ s) first fx) (h : evl c ρ (e :: rest) σ fun xs σ₁ => cal c v (fx ++ xs) σ₁ Q) : pv c σ s (callWith pos v first (backTo pos (starEach (e :: rest) c.env)) []) Q := by
  have e0 : backTo pos (starEach (e :: rest) c.env) = (false, eval e c.env) :: rest.map fun e => (false, eval e c.env) := starEach_plain hp
  have hany : ((false, eval e c.env) :: rest.map fun e => (false, eval e c.env)).any (·.1) = false := by
    rw [List.any_eq_false]; intro x hx
    rcases List.mem_cons.mp hx with rfl | hx
    · simp
    · obtain ⟨_, _, rfl⟩ := List.mem_map.mp hx; simp
  show wpAny _ _ _ _ _ s
  rw [e0]
  have main : wpAny g.M c.A (evalArgs v true ((false, eval e c.env) :: rest.map fun e => (false, eval e c.env)) []) (fun a s₁ => (∃ σ₁ xs, c.Inv σ₁ s₁ ∧ c.Ev σ s σ₁ s₁ ∧ a.kw = [] ∧ RepL g.w (c.F σ₁ s₁) a.pos xs ∧ cal c v (fx ++ xs) σ₁ Q)) c.E s :=
    Calls.evalArgs_plain (wpAny_mono (evl_sound h s hs) (fun vs s₁ ⟨xs, σ₁, i₁, e₁, r₁, q₁⟩ => ⟨σ₁, xs, i₁, e₁, rfl, r₁, q₁⟩) fun _ _ e => e)
  have fin : ∀ {a : Args} {s₁ : Shared}, (∃ σ₁ xs, c.Inv σ₁ s₁ ∧ c.Ev σ s σ₁ s₁ ∧ a.kw = [] ∧ RepL g.w (c.F σ₁ s₁) a.pos xs ∧ cal c v (fx ++ xs) σ₁ Q) → wpAny g.M c.A (call v (first ++ a.pos) a.kw) (fun v s' => ∃ x σ', c.Inv σ' s' ∧ c.Ev σ s σ' s' ∧ Rep g.w (c.F σ' s') v x ∧ Q x σ') c.E s₁ := by
    rintro a s₁ ⟨σ₁, xs, i₁, e₁, hk, r₁, q₁⟩
    rw [hk]
    exact wpAny_mono (q₁ s₁ _ i₁ ((hf.mono e₁.grow).append r₁)) (fun v s₃ ⟨z, σ₃, i₃, e₃, r₃, q₃⟩ => ⟨z, σ₃, i₃, e₁.trans e₃, r₃, q₃⟩) fun _ _ e => e
  cases hc with
  | builtin id => exact Calls.callWith_builtin hany (wpAny_mono main (fun a s₁ h₁ => fin h₁) fun _ _ e => e)
  | type T => exact callWith_type hany (wpAny_mono main (fun a s₁ h₁ => fin h₁) fun _ _ e => e)
  | fn ho hd =>
    refine Calls.callWith_function (wpAny_mono main (fun a s₁ h₁ => ⟨⟨?_, hd⟩, fin h₁⟩) fun _ _ e => e)
    obtain ⟨σ₁, xs, i₁, _⟩ := h₁
    exact (fz_eq.mp (i₁.keep _ _ ho)).2.2

theorem ev_call {id : Str} {p pos : Pos} {e : Expr} {rest : List Expr} {v : Value} {Q : AV → Sto → Prop} (hg : Glob g.H₀ id v) (hx : c.sc.names.lookup id = some .globalImplicit) (hc : Callee g v)
    (h : evl c ρ (e :: rest) σ fun xs σ₁ => cal c v xs σ₁ Q) (hp : (e :: rest).all noStar = true := by rfl) : ev c ρ (.Call (.Name id p) (e :: rest) [] pos) σ Q := fun s hs => by
  refine wpAny_Call_NameR (wpAny_mono (ev_glob (Q := fun x σ' => x = .raw v ∧ σ' = σ) (pos := p) hg hx ⟨rfl, rfl⟩ s hs) (fun f s₁ ⟨x, σ₁, i₁, e₁, r₁, hx, hσ⟩ => ?_) fun _ _ e => e)
  subst hx; subst hσ
  cases r₁
  have := callWith_any (pos := pos) (first := []) (fx := []) hc hp (hs.ev i₁ e₁) .nil (by simpa using h)
  exact wpAny_mono this (fun v s₃ ⟨z, σ₃, i₃, e₃, r₃, q₃⟩ => ⟨z, σ₃, i₃, e₁.trans e₃, r₃, q₃⟩) fun _ _ e => e

def Iter (c : Cx g) (y : AV) (l : List AV) : Prop := ∀ σ s v, c.Inv σ s → Rep g.w (c.F σ s) v y → ∀ E, wpAny g.M c.A (pyIter v) (fun it s₂ => ∃ I fp P Sx, it = .ref I ∧ Walks g.prog g.w c.A I fp [I] l.length P Sx ∧ Sx 0 s₂.heap ∧
  (∃ h' tk, s₂ = { s with heap := h', toks := tk }) ∧ (∀ b o, s.heap.get? b = some o → s₂.heap.get? b = some o) ∧ s.heap.objs.size ≤ I ∧ (∀ j h, Sx j h → ∃ o, h.get? I = some o) ∧
  (∀ b ∈ fp, b = I ∨ ∃ o, c.F σ s b = some o) ∧ ∀ i u, i < l.length → P i u → ∃ x, l[i]? = some x ∧ Rep g.w (c.F σ s) u x) E s

theorem iter_list (hh : c.A.handled = none) (l : List AV) : Iter c (.list l) l := fun σ s v i r E => by
  cases r with
  | @list a vs n _ hF hr =>
    obtain ⟨_, _, ho⟩ := fz_eq.mp hF
    have hl : s.heap.IsList a vs.toArray := ⟨_, ho, rfl, n, rfl⟩
    have hlen : vs.toArray.size = l.length := by rw [List.size_toArray]; exact hr.length
    refine wpAny_pyIter_list hl ⟨s.heap.objs.size, [s.heap.objs.size, a], fun i v => vs.toArray[i]? = some v, _, rfl, hlen ▸ Walks.list hh s.heap.objs.size a (Nat.ne_of_lt (Heap.lt_size ho)) vs.toArray, ?_, ⟨_, s.toks, rfl⟩, push_keeps _ _, Nat.le_refl _, (fun _ _ hx => let ⟨⟨o, ho, _⟩, _⟩ := hx; ⟨o, ho⟩), ?_, ?_⟩
    · exact ⟨⟨_, Heap.get?_push_size _ rfl, rfl, rfl⟩, ⟨_, push_keeps _ _ _ _ ho, rfl, n, rfl⟩⟩
    · intro b hb
      rcases List.mem_cons.mp hb with rfl | hb
      · exact .inl rfl
      · rw [List.mem_singleton.mp hb]; exact .inr ⟨_, hF⟩
    · intro i u _ hu
      obtain ⟨x, h1, h2⟩ := hr.get' (i := i) (v := u) (by simpa using hu)
      exact ⟨x, h1, h2⟩
def rngL (lo hi : Int) : List Int := (List.range (hi - lo).toNat).map fun i : Nat => lo + (i : Int)
theorem iter_rng (hh : c.A.handled = none) {lo hi : Int} (h1 : -(2 ^ 62) ≤ lo) (h2 : lo < 2 ^ 62) (h3 : -(2 ^ 62) ≤ hi) (h4 : hi < 2 ^ 62) : Iter c (.rng lo hi) ((rngL lo hi).map .int) := fun σ s v i r E => by
  cases r with
  | @rng a _ _ t u v hF =>
    obtain ⟨_, _, ho⟩ := fz_eq.mp hF
    have hlen : ((rngL lo hi).map AV.int).length = (hi - lo).toNat := by simp [rngL]
    have hsz : Builtin.Range.rangeSize lo hi 1 = ((hi - lo).toNat : Int) := by rw [rangeSize_one]; split <;> omega
    refine wpAny_pyIter_range (r := a) (a := lo) (b := hi) (c := 1) (t := t) (u := u) (v := v) ho (small_one h1 h2 h3 h4) ⟨s.heap.objs.size, [s.heap.objs.size], _, _, rfl, hlen ▸ Walks.range hh s.heap.objs.size lo 1 (hi - lo).toNat, ?_, ⟨_, s.toks, rfl⟩, push_keeps _ _, Nat.le_refl _, (fun _ _ hx => ⟨_, hx⟩), ?_, ?_⟩
    · rw [hsz]
      have e1 : lo + ((0 : Nat) : Int) * 1 = lo := by omega
      have e2 : (((hi - lo).toNat : Nat) : Int) - ((0 : Nat) : Int) = ((hi - lo).toNat : Int) := by omega
      rw [e1, hlen, e2]
      exact Heap.get?_push_size _ rfl
    · intro b hb; exact .inl (List.mem_singleton.mp hb)
    · rintro i u hi' ⟨tk, rfl⟩
      rw [hlen] at hi'
      refine ⟨.int (lo + i), by simp [rngL, hi'], ?_⟩
      have : lo + (i : Int) * 1 = lo + i := by omega
      rw [this]; exact .int _ _

inductive Wk : Rho → Rho → Prop
  | nil : Wk [] []
  | keep {p : Str × Option AV} {r r' : Rho} : Wk r r' → Wk (p :: r) (p :: r')
  | drop {x : Str} {o : Option AV} {r r' : Rho} : Wk r r' → Wk ((x, Option.none) :: r) ((x, o) :: r')
theorem Wk.names {r r' : Rho} (h : Wk r r') : r.map (·.1) = r'.map (·.1) := by
  induction h with
  | nil => rfl
  | keep _ ih => simp [ih]
  | drop _ ih => simp [ih]
theorem Wk.get {r r' : Rho} (h : Wk r r') {x : Str} {v : AV} (hm : (x, some v) ∈ r) : (x, some v) ∈ r' := by
  induction h with
  | nil => exact hm
  | keep _ ih =>
    rcases List.mem_cons.mp hm with rfl | hm
    · exact List.mem_cons_self
    · exact List.mem_cons_of_mem _ (ih hm)
  | drop _ ih =>
    rcases List.mem_cons.mp hm with e | hm
    · injection e with _ e; cases e
    · exact List.mem_cons_of_mem _ (ih hm)
theorem St.wk {ρ' : Rho} {s : Shared} (h : St c ρ' σ s) (hw : Wk ρ ρ') : St c ρ σ s := by
  refine ⟨h.inv, hw.names ▸ h.fr, ?_, fun x a hk ha => ?_⟩
  · obtain ⟨m, h1, h2⟩ := h.ns
    exact ⟨m, h1, fun x v hx hk => h2 x v (hw.get hx) hk⟩
  · obtain ⟨vo, h1, h2⟩ := h.cl x a hk ha
    exact ⟨vo, h1, fun v hx => h2 v (hw.get hx)⟩

structure Same (c c' : Cx g) : Prop where
  A : c'.A = c.A
  env : c'.env = c.env
  sc : c'.sc = c.sc
  fn : c'.isFn = c.isFn

theorem enter_le {h h' : Heap} {own : List Addr} {I : Addr} {n : Nat} (hk : ∀ b o, h.get? b = some o → h'.get? b = some o) (hI : h.objs.size ≤ I) : (fz h own σ).le (fz h' (I :: own) σ) := fun b o e => by
  obtain ⟨e1, e2, e3⟩ := fz_eq.mp e
  refine fz_eq.mpr ⟨e1, fun hm => ?_, hk b o e3⟩
  rcases List.mem_cons.mp hm with rfl | hm
  · exact absurd (Heap.lt_size e3) (Nat.not_lt.mpr hI)
  · exact e2 hm
theorem Inv.enter {w : World} {H₀ : Heap} {own : List Addr} {s : Shared} (i : Inv w H₀ own σ s) {h' : Heap} {tk : Nat} {I : Addr} (hk : ∀ b o, s.heap.get? b = some o → h'.get? b = some o) (hI : s.heap.objs.size ≤ I)
    (hl : ∃ o, h'.get? I = some o) : Inv w H₀ (I :: own) σ { s with heap := h', toks := tk } := by
  have hF := enter_le (σ := σ) (own := own) (n := 0) hk hI
  refine ⟨fun b o e => hF b o (i.keep b o e), fun a y e => (i.objs a y e).mono hF fun o e => hk a o e, fun a ha => ?_, fun a ha => ?_⟩
  · rcases List.mem_cons.mp ha with rfl | ha
    · exact (i.fresh hI).1
    · exact i.off a ha
  · rcases List.mem_cons.mp ha with rfl | ha
    · exact hl
    · obtain ⟨o, ho⟩ := i.live a ha; exact ⟨o, hk a o ho⟩
theorem Frame.enter {c c' : Cx g} {ns : List Str} {I : Addr} (f : Frame c ns) (hs : Same c c') (ho : c'.own = I :: c.own) (hh : c'.hid = I :: c.hid) (hI : I ∉ c.own) : Frame c' ns := by
  obtain ⟨hA, hE, hS, hF⟩ := hs
  refine ⟨by rw [hE, hS]; exact f.sc, fun h x a ha => ?_, by rw [hE]; exact f.kind, by rw [hE]; exact f.glob, by rw [hE]; exact f.blt, by rw [hE, ho]; exact List.mem_cons_of_mem _ f.loc, ?_, ?_, ?_, by rw [hE, hF]; exact f.apart, ?_, f.nodup⟩
  · rw [hE] at ha
    rw [hh]
    intro hm
    rcases List.mem_cons.mp hm with rfl | hm
    · exact hI (f.cells x a ha).1
    · exact f.wr (hF ▸ h) x a ha hm
  · rw [hE, hh]
    intro hm
    rcases List.mem_cons.mp hm with e | hm
    · exact hI (e ▸ f.loc)
    · exact f.loc' hm
  · rw [hh, ho]
    intro a ha
    rcases List.mem_cons.mp ha with rfl | ha
    · exact List.mem_cons_self
    · exact List.mem_cons_of_mem _ (f.sub a ha)
  · rw [hE, ho]
    intro x a ha
    exact ⟨List.mem_cons_of_mem _ (f.cells x a ha).1, (f.cells x a ha).2⟩
  · rw [hE, hS]; exact f.kinds

theorem St.enter {c c' : Cx g} {s : Shared} {h' : Heap} {tk : Nat} {I : Addr} (x : St c ρ σ s) (hs : Same c c') (ho : c'.own = I :: c.own) (hh : c'.hid = I :: c.hid) (hk : ∀ b o, s.heap.get? b = some o → h'.get? b = some o) (hI : s.heap.objs.size ≤ I)
    (hl : ∃ o, h'.get? I = some o) : St c' ρ σ { s with heap := h', toks := tk } := by
  have hF : (c.F σ s).le (fz h' c'.own σ) := by rw [ho]; exact enter_le (n := 0) hk hI
  refine ⟨by show Mine.Inv _ _ c'.own _ _; rw [ho]; exact x.inv.enter hk hI hl, x.fr.enter hs ho hh (x.inv.fresh hI).2, ?_, ?_⟩
  · obtain ⟨m, hn, hm⟩ := x.ns
    rw [hs.env, hs.sc]
    refine ⟨m, hn.keeps hk, fun y v hy hky => ?_⟩
    obtain ⟨u, h1, h2⟩ := hm y v hy hky
    exact ⟨u, h1, h2.mono hF⟩
  · rw [hs.env, hs.sc]
    intro y a hky ha
    obtain ⟨vo, h1, h2⟩ := x.cl y a hky ha
    refine ⟨vo, h1.keeps hk, fun v hy => ?_⟩
    obtain ⟨u, h3, h4⟩ := h2 v hy
    exact ⟨u, h3, h4.mono hF⟩
theorem St.leave' {c c' : Cx g} {s : Shared} {I : Addr} {h' : Heap} {tk : Nat} (x : St c' ρ σ s) (hs : Same c c') (ho : c'.own = I :: c.own) (hI : I ∉ c.own) (f : Frame c (ρ.map (·.1)))
    (hk : ∀ b o, b ∉ [I] → s.heap.get? b = some o → h'.get? b = some o) : St c ρ σ { s with heap := h', toks := tk } ∧ (c'.F σ s).le (fz h' c.own σ) := by
  have hk' : ∀ b o, b ≠ I → s.heap.get? b = some o → h'.get? b = some o := fun b o hb => hk b o (by simpa using hb)
  have hF : (c'.F σ s).le (fz h' c.own σ) := by
    show (fz s.heap c'.own σ).le _
    rw [ho]
    intro b o e
    obtain ⟨e1, e2, e3⟩ := fz_eq.mp e
    rw [List.mem_cons, not_or] at e2
    exact fz_eq.mpr ⟨e1, e2.2, hk' b o e2.1 e3⟩
  have hi : Mine.Inv g.w g.H₀ (I :: c.own) σ s := ho ▸ x.inv
  refine ⟨⟨⟨fun b o e => hF b o (x.inv.keep b o e), fun a y e => (x.inv.objs a y e).mono hF fun o e' => hk' a o (by rintro rfl; rw [hi.off a List.mem_cons_self] at e; cases e) e', fun a ha => hi.off a (List.mem_cons_of_mem _ ha), fun a ha => ?_⟩, f, ?_, ?_⟩, hF⟩
  · obtain ⟨o, ho⟩ := hi.live a (List.mem_cons_of_mem _ ha)
    exact ⟨o, hk' a o (by rintro rfl; exact hI ha) ho⟩
  · obtain ⟨m, hn, hm⟩ := x.ns
    rw [hs.env] at hn
    rw [hs.sc] at hm
    refine ⟨m, hn.at' fun o e => hk' _ o (by intro e; exact hI (e ▸ f.loc)) e, fun y v hy hky => ?_⟩
    obtain ⟨u, h1, h2⟩ := hm y v hy hky
    exact ⟨u, h1, h2.mono hF⟩
  · intro y a hky ha
    have hac := (f.cells y a ha).1
    rw [← hs.env] at ha
    rw [← hs.sc] at hky
    obtain ⟨vo, ⟨o, ho, hd⟩, h2⟩ := x.cl y a hky ha
    refine ⟨vo, ⟨o, hk' a o (by rintro rfl; exact hI hac) ho, hd⟩, fun v hy => ?_⟩
    obtain ⟨u, h3, h4⟩ := h2 v hy
    exact ⟨u, h3, h4.mono hF⟩

theorem St.turned {s : Shared} {h' : Heap} {tk : Nat} {I : Addr} (x : St c ρ σ s) (hI : I ∈ c.hid) (hk : ∀ b o, b ∉ [I] → s.heap.get? b = some o → h'.get? b = some o) (hl : ∃ o, h'.get? I = some o)
    (hIc : ∀ x a, c.env.cells.lookup x = some a → a ≠ I) : St c ρ σ { s with heap := h', toks := tk } := by
  have hk' : ∀ b o, b ≠ I → s.heap.get? b = some o → h'.get? b = some o := fun b o hb => hk b o (by simpa using hb)
  have hIo := x.fr.sub I hI
  have hF : (c.F σ s).le (fz h' c.own σ) := fun b o e => by
    obtain ⟨e1, e2, e3⟩ := fz_eq.mp e
    exact fz_eq.mpr ⟨e1, e2, hk' b o (by rintro rfl; exact e2 hIo) e3⟩
  refine ⟨⟨fun b o e => hF b o (x.inv.keep b o e), fun a y e => (x.inv.objs a y e).mono hF fun o e' => hk' a o (by rintro rfl; rw [x.inv.off _ hIo] at e; cases e) e', x.inv.off, fun a ha => ?_⟩, x.fr, ?_, ?_⟩
  · by_cases h : a = I
    · subst h; exact hl
    · obtain ⟨o, ho⟩ := x.inv.live a ha; exact ⟨o, hk' a o h ho⟩
  · obtain ⟨m, hn, hm⟩ := x.ns
    refine ⟨m, hn.at' fun o e => hk' _ o (by rintro rfl; exact x.fr.loc' hI) e, fun y v hy hky => ?_⟩
    obtain ⟨u, h1, h2⟩ := hm y v hy hky
    exact ⟨u, h1, h2.mono hF⟩
  · intro y a hky ha
    obtain ⟨vo, ⟨o, ho, hd⟩, h2⟩ := x.cl y a hky ha
    refine ⟨vo, ⟨o, hk' a o (hIc y a ha) ho, hd⟩, fun v hy => ?_⟩
    obtain ⟨u, h3, h4⟩ := h2 v hy
    exact ⟨u, h3, h4.mono hF⟩

theorem es_for {x : Str} {px : Pos} {iter : Expr} {body : List Stmt} {pos : Pos} {Q : AFl → Rho → Sto → Prop} (J : List AV → Rho → Sto → Prop) (hfn : c.isFn = true)
    (h : ev c ρ iter σ fun y σ₁ => ∃ l, Iter c y l ∧ J l ρ σ₁)
    (turn : ∀ c' : Cx g, Same c c' → ∀ y rest ρ₁ σ₁, J (y :: rest) ρ₁ σ₁ → ∃ ρ₂, Upd x y ρ₁ ρ₂ ∧ es c' ρ₂ (execs body c'.env) σ₁ fun fl ρ' σ' => match fl with
      | .next | .cont => ∃ ρ'', Wk ρ'' ρ' ∧ J rest ρ'' σ'
      | .brk => Q .next ρ' σ'
      | .ret v => Q (.ret v) ρ' σ')
    (done : ∀ ρ₁ σ₁, J [] ρ₁ σ₁ → Q .next ρ₁ σ₁)
    (hs : ∀ x, foldedSetIterable iter c.env x = pure x := by intro _; rfl) : es c ρ (exec (.For (.Name x px) iter body [] pos) c.env) σ Q := fun s st => by
  refine wpAny_For (wpAny_mono (h s st) (fun v s₁ ⟨y, σ₁, i₁, e₁, r₁, l, hit, hJ⟩ => ?_) fun _ _ e => e) hs
  have st₁ := st.ev i₁ e₁
  refine wpAny_mono (hit σ₁ s₁ v i₁ r₁ c.E) (fun it s₂ ⟨I, fp, P, Sx, hI, W, hS, ⟨h₂, tk₂, hs₂⟩, hk, hsz, hlv, hfp, hP⟩ => ?_) fun _ _ e => e
  subst hI
  subst hs₂
  -- the loop's own result and context
  generalize hR : (fun (r : Result) (s' : Shared) => match r with
    | .ok f => ∃ fl ρ' σ', St c ρ' σ' s' ∧ EvS c σ s σ' s' ∧ RepF g.w (c.F σ' s') f fl ∧ Q fl ρ' σ'
    | .error e => cameBackBy g.M c.A c.env c.E e s') = R
  have hRok : ∀ f s', (∃ fl ρ' σ', St c ρ' σ' s' ∧ EvS c σ s σ' s' ∧ RepF g.w (c.F σ' s') f fl ∧ Q fl ρ' σ') → R (.ok f) s' := fun f s' q => by rw [← hR]; exact q
  clear hR
  let c' : Cx g := ⟨c.A, c.env, I :: c.own, I :: c.hid, notedBy g.M c.A c.env fun e s' => R (.error e) s', c.sc, c.isFn⟩
  have same : Same c c' := ⟨rfl, rfl, rfl, rfl⟩
  have hIo : I ∉ c.own := (i₁.fresh hsz).2
  have st₂ : St c' ρ σ₁ { s₁ with heap := h₂, toks := tk₂ } := st₁.enter same rfl rfl hk hsz (hlv 0 _ hS)
  have hF₁ : (c.F σ₁ s₁).le (c'.F σ₁ { s₁ with heap := h₂, toks := tk₂ }) := enter_le (n := 0) hk hsz
  -- what is frozen at the loop's start
  have hfp' : ∀ b ∈ fp, b = I ∨ ∃ o, c'.F σ₁ { s₁ with heap := h₂, toks := tk₂ } b = some o := fun b hb => (hfp b hb).imp id fun ⟨o, ho⟩ => ⟨o, hF₁ b o ho⟩
  generalize hBig : (fun (σ' : Sto) (s' : Shared) => (∃ h' tk, s' = { s₁ with heap := h', toks := tk }) ∧ (c'.F σ₁ { s₁ with heap := h₂, toks := tk₂ }).le (c'.F σ' s') ∧ ∀ a ∈ c.hid, ∀ o, h₂.get? a = some o → s'.heap.get? a = some o) = Big
  have big_of : ∀ {σ' : Sto} {s' : Shared}, ((∃ h' tk, s' = { s₁ with heap := h', toks := tk }) ∧ (c'.F σ₁ { s₁ with heap := h₂, toks := tk₂ }).le (c'.F σ' s') ∧ ∀ a ∈ c.hid, ∀ o, h₂.get? a = some o → s'.heap.get? a = some o) → Big σ' s' := fun h => by rw [← hBig]; exact h
  have of_big : ∀ {σ' : Sto} {s' : Shared}, Big σ' s' → ((∃ h' tk, s' = { s₁ with heap := h', toks := tk }) ∧ (c'.F σ₁ { s₁ with heap := h₂, toks := tk₂ }).le (c'.F σ' s') ∧ ∀ a ∈ c.hid, ∀ o, h₂.get? a = some o → s'.heap.get? a = some o) := fun h => by rw [← hBig] at h; exact h
  clear hBig
  -- leaving
  have out : ∀ {ρ' : Rho} {σ' : Sto} {s' : Shared} {h' : Heap} {tk : Nat} {f : Flow} {fl : AFl}, St c' ρ' σ' s' → Big σ' s' → (∀ b o, b ∉ [I] → s'.heap.get? b = some o → h'.get? b = some o) → RepF g.w (c'.F σ' s') f fl → Q fl ρ' σ' → R (.ok f) { s' with heap := h', toks := tk } := by
    intro ρ' σ' s' h' tk f fl hst hbig hk' hrf hq
    obtain ⟨⟨h3, t3, e3⟩, hgrow, hhid⟩ := of_big hbig
    obtain ⟨hst', hle⟩ := hst.leave' (c := c) (tk := tk) same rfl hIo { st.fr with kinds := hst.fr.kinds, nodup := hst.fr.nodup } hk'
    refine hRok f _ ⟨fl, ρ', σ', hst', ?_, ?_, hq⟩
    · refine ⟨?_, (e₁.grow.trans hF₁).trans (hgrow.trans hle), fun a ha o ho => ?_⟩
      · obtain ⟨h1, t1, e1⟩ := e₁.same
        subst e1
        subst e3
        exact ⟨h', tk, rfl⟩
      · exact hk' a o (by intro hm; exact hIo (List.mem_singleton.mp hm ▸ st.fr.sub a ha)) (hhid a ha o (hk a o (e₁.own a (st.fr.sub a ha) o ho)))
    · cases hrf with
      | next => exact .next
      | brk => exact .brk
      | cont => exact .cont
      | ret hr => exact .ret (hr.mono hle)
  refine codeAny_forLoop (fun n s' => ∃ (j : Nat) (ρ' : Rho) (σ' : Sto), n = l.length + 1 - j ∧ j ≤ l.length ∧ Sx j s'.heap ∧ St c' ρ' σ' s' ∧ Big σ' s' ∧ J (l.drop j) ρ' σ')
    ?_ (l.length + 1) ⟨0, ρ, σ₁, rfl, Nat.zero_le _, hS, st₂, big_of ⟨⟨_, _, rfl⟩, .refl _, fun _ _ _ e => e⟩, by simpa using hJ⟩
  rintro n s' ⟨j, ρ', σ', rfl, hj, hSj, hst, hbig, hJj⟩
  obtain ⟨⟨h6, t6, e6⟩, hgrow, hhid⟩ := of_big hbig
  by_cases hlt : j < l.length
  · refine W.item j s' _ _ hlt hSj fun u h₃ tk₃ hPu hS₃ hk₃ => ?_
    obtain ⟨y', hy', hyr⟩ := hP j u hlt hPu
    have hdrop : l.drop j = y' :: l.drop (j + 1) := by
      rw [List.getElem?_eq_getElem hlt] at hy'
      injection hy' with hy'
      rw [List.drop_eq_getElem_cons hlt, hy']
    rw [hdrop] at hJj
    have hIh : I ∈ c'.hid := List.mem_cons_self
    have hlv₃ : ∃ o, h₃.get? I = some o := hlv _ _ hS₃
    have hIc : ∀ x a, c'.env.cells.lookup x = some a → a ≠ I := fun x a ha e => hIo (e ▸ (st.fr.cells x a ha).1)
    have st₃ : St c' ρ' σ' { s' with heap := h₃, toks := tk₃ } := hst.turned hIh hk₃ hlv₃ hIc
    have le₃ : (c'.F σ' s').le (c'.F σ' { s' with heap := h₃, toks := tk₃ }) := fun b o e => by
      obtain ⟨e1, e2, e3⟩ := fz_eq.mp e
      exact fz_eq.mpr ⟨e1, e2, hk₃ b o (by intro hm; exact e2 (List.mem_singleton.mp hm ▸ List.mem_cons_self)) e3⟩
    obtain ⟨ρ₂, hu, hbody⟩ := turn c' same y' (l.drop (j + 1)) ρ' σ' hJj
    have hyr' : Rep g.w (c'.F σ' { s' with heap := h₃, toks := tk₃ }) u y' := hyr.mono (hF₁.trans (hgrow.trans le₃))
    refine wpAny_assign_Name (store_sound (c := c') (E := c'.E) st₃ hu hfn hyr' fun s₄ st₄ ev₄ => ?_)
    refine wpAny_mono (hbody s₄ st₄) (fun f s₅ ⟨fl, ρ₅, σ₅, st₅, ev₅, rf₅, q₅⟩ => ?_) fun _ _ e => e
    have ev₄₅ := ev₄.trans ev₅
    have big : Big σ₅ s₅ := by
      refine big_of ⟨?_, hgrow.trans (le₃.trans ev₄₅.grow), fun a ha o ho => ?_⟩
      · obtain ⟨h7, t7, e7⟩ := ev₄₅.same
        subst e6
        exact ⟨h7, t7, e7⟩
      · refine ev₄₅.hid a (List.mem_cons_of_mem _ ha) o (hk₃ a o ?_ (hhid a ha o ho))
        intro hm; exact hIo (List.mem_singleton.mp hm ▸ st.fr.sub a ha)
    have hS₅ : Sx (j + 1) s₅.heap := by
      refine W.frame _ _ _ hS₃ fun b hb o ho => ?_
      rcases hfp' b hb with rfl | ⟨o₀, ho₀⟩
      · exact ev₄₅.hid _ List.mem_cons_self o ho
      · have h8 := le₃ b o₀ (hgrow b o₀ ho₀)
        have h9 := (fz_eq.mp h8).2.2
        rw [show ({ s' with heap := h₃, toks := tk₃ } : Shared).heap = h₃ from rfl, ho] at h9
        injection h9 with h9
        subst h9
        exact (fz_eq.mp (ev₄₅.grow b o h8)).2.2
    have go : ∀ ρ'', Wk ρ'' ρ₅ → J (l.drop (j + 1)) ρ'' σ₅ → ∃ m, m < l.length + 1 - j ∧ ∃ (j : Nat) (ρ' : Rho) (σ' : Sto), m = l.length + 1 - j ∧ j ≤ l.length ∧ Sx j s₅.heap ∧ St c' ρ' σ' s₅ ∧ Big σ' s₅ ∧ J (l.drop j) ρ' σ' := fun ρ'' hw hJ' =>
      ⟨l.length + 1 - (j + 1), by omega, j + 1, ρ'', σ₅, rfl, hlt, hS₅, st₅.wk hw, big, hJ'⟩
    have same₅ : s₅ = { s₅ with heap := s₅.heap, toks := s₅.toks } := rfl
    cases rf₅ with
    | next => obtain ⟨ρ'', hw, hJ'⟩ := q₅; exact go ρ'' hw hJ'
    | cont => obtain ⟨ρ'', hw, hJ'⟩ := q₅; exact go ρ'' hw hJ'
    | brk => rw [same₅]; exact out (h' := s₅.heap) (tk := s₅.toks) st₅ big (fun _ _ _ e => e) .next q₅
    | ret hr => rw [same₅]; exact out (h' := s₅.heap) (tk := s₅.toks) st₅ big (fun _ _ _ e => e) (.ret hr) q₅
  · have hjl : j = l.length := by omega
    subst hjl
    refine W.done s' _ _ hSj fun h₃ tk₃ hk₃ => ?_
    refine wpAny_execs_nil (out hst hbig hk₃ .next (done ρ' σ' (by simpa using hJj)))

end Mine

end

section
namespace Mine
open PySem
variable {g : Gx} {c : Cx g} {ρ : Rho} {σ : Sto}

def relabN (sc : Scope) : List (Str × NameKind) → List (Str × NameKind)
  | [] => []
  | (n, k) :: r => (if k == .free && sc.kind == .function && sc.names.lookup n == some .cell then (n, .cell) else (n, k)) :: relabN sc r
def relab (scope sc : Scope) : Scope := { scope with names := relabN sc scope.names }
theorem relabel_eq {scope sc : Scope} {env : Env} (h : env.scope = sc) : relabel scope env = relab scope sc := by
  subst h
  unfold relabel relab
  congr 1
  generalize scope.names = l
  induction l with
  | nil => rfl
  | cons p r ih => obtain ⟨n, k⟩ := p; simp only [List.map_cons, relabN, ih]; rfl
def closN (cells : List (Str × Addr)) : List (Str × NameKind) → List (Str × Addr) → List (Str × Addr)
  | [], acc => acc
  | (n, k) :: r, acc => closN cells r (if k == .free then (n, (cells.lookup n).getD 0) :: acc else acc)
theorem closN_free {cells : List (Str × Addr)} {n : Str} {k : NameKind} {a : Addr} {r : List (Str × NameKind)} {acc : List (Str × Addr)} (hk : (k == NameKind.free) = true) (ha : cells.lookup n = some a) : closN cells ((n, k) :: r) acc = closN cells r ((n, a) :: acc) := by
  rw [closN, if_pos hk, ha]; rfl
theorem closN_other {cells : List (Str × Addr)} {n : Str} {k : NameKind} {r : List (Str × NameKind)} {acc : List (Str × Addr)} (hk : ¬ (k == NameKind.free) = true) : closN cells ((n, k) :: r) acc = closN cells r acc := by
  rw [closN, if_neg hk]
theorem closureFor_eq {scope : Scope} {env : Env} (h : ∀ y ∈ scope.names, y.2 = .free → ∃ a, env.cells.lookup y.1 = some a) : closureFor scope env = pure (closN env.cells scope.names []) := by
  have main : ∀ (l : List (Str × NameKind)) (acc : List (Str × Addr)), (∀ y ∈ l, y.2 = .free → ∃ a, env.cells.lookup y.1 = some a) →
      (forIn l acc fun (x : Str × NameKind) (cs : List (Str × Addr)) => (if (x.2 == .free) = true then do let a ← cellOf env x.1; pure (ForInStep.yield ((x.1, a) :: cs)) else pure (ForInStep.yield cs) : Sem (ForInStep (List (Str × Addr))))) = (pure (closN env.cells l acc) : Sem _) := by
    intro l
    induction l with
    | nil => intro acc _; rfl
    | cons p r ih =>
      intro acc hl
      obtain ⟨n, k⟩ := p
      have ihr := fun acc => ih acc fun y hy => hl y (List.mem_cons_of_mem _ hy)
      rw [List.forIn_cons]
      by_cases hk : (k == NameKind.free) = true
      · obtain ⟨a, ha⟩ := hl (n, k) List.mem_cons_self (by simpa using hk)
        simp only [hk, if_true]
        have e : cellOf env n = pure a := by unfold cellOf; rw [show env.cells.lookup n = some a from ha]
        rw [e]
        simp only [pure_bind]
        rw [ihr, closN_free hk ha]
      · simp only [hk]
        simp only [Bool.false_eq_true, if_false]
        rw [closN_other hk]
        exact ihr acc
  have := main scope.names [] h
  unfold closureFor
  simp only [pure_bind, bind_pure] at this ⊢
  exact this
theorem closN_get {cells : List (Str × Addr)} {n : Str} {a : Addr} : ∀ {l : List (Str × NameKind)} {acc : List (Str × Addr)}, (∀ y ∈ l, y.2 = .free → ∃ a, cells.lookup y.1 = some a) → (closN cells l acc).lookup n = some a → cells.lookup n = some a ∨ acc.lookup n = some a
  | [], _, _, h => .inr h
  | (m, k) :: r, acc, hl, h => by
    unfold closN at h
    rcases closN_get (fun y hy => hl y (List.mem_cons_of_mem _ hy)) h with h' | h'
    · exact .inl h'
    clear h
    have h := h'
    clear h'
    by_cases hk0 : True
    · by_cases hk : (k == NameKind.free) = true
      · rw [if_pos hk] at h
        rw [List.lookup_cons] at h
        cases hn : n == m with
        | true =>
          rw [hn] at h
          obtain ⟨b, hb⟩ := hl (m, k) List.mem_cons_self (by simpa using hk)
          have hb' : cells.lookup m = some b := hb
          rw [hb'] at h
          have : n = m := by simpa using hn
          subst this
          left; rw [hb']; exact h
        | false => rw [hn] at h; exact .inr h
      · rw [if_neg hk] at h; exact .inr h
    · exact absurd trivial hk0
theorem closN_has {cells : List (Str × Addr)} {n : Str} : ∀ {l : List (Str × NameKind)} {acc : List (Str × Addr)}, (l.lookup n = some .free ∨ (acc.lookup n).isSome = true) → ((closN cells l acc).lookup n).isSome = true
  | [], _, h => h.elim (fun e => by cases e) id
  | (m, k) :: r, acc, h => by
    unfold closN
    refine closN_has ?_
    rw [List.lookup_cons] at h
    by_cases hk : (k == NameKind.free) = true
    · rw [if_pos hk]
      rw [List.lookup_cons]
      cases hn : n == m with
      | true => exact .inr rfl
      | false => rw [hn] at h; exact h
    · rw [if_neg hk]
      cases hn : n == m with
      | true =>
        rw [hn] at h
        rcases h with h | h
        · injection h with h; rw [h] at hk; exact absurd rfl hk
        · exact .inr h
      | false => rw [hn] at h; exact h
theorem relabN_cell {sc : Scope} {n : Str} : ∀ {l : List (Str × NameKind)}, (∀ y ∈ l, y.2 ≠ .cell) → (relabN sc l).lookup n = some .cell → l.lookup n = some .free ∧ sc.names.lookup n = some .cell
  | [], _, h => by cases h
  | (m, k) :: r, hc, h => by
    unfold relabN at h
    rw [List.lookup_cons]
    by_cases hk : (k == .free && sc.kind == .function && sc.names.lookup m == some .cell) = true
    · rw [if_pos hk, List.lookup_cons] at h
      simp only [Bool.and_eq_true, beq_iff_eq] at hk
      cases hn : n == m with
      | true =>
        have : n = m := by simpa using hn
        subst this
        exact ⟨by rw [hk.1.1], hk.2⟩
      | false => rw [hn] at h; exact relabN_cell (fun y hy => hc y (List.mem_cons_of_mem _ hy)) h
    · rw [if_neg hk, List.lookup_cons] at h
      cases hn : n == m with
      | true => rw [hn] at h; injection h with h; exact absurd h (hc (m, k) List.mem_cons_self)
      | false => rw [hn] at h; exact relabN_cell (fun y hy => hc y (List.mem_cons_of_mem _ hy)) h

def compOk (x : Str) (fr : List Str) (scope sc : Scope) : Bool :=
  (scope.kind == .function) && scope.names.all (fun y => y.2 != .cell && (y.2 != .free || fr.contains y.1) && (y.2 != .local || scope.names.lookup y.1 == some .local)) &&
  (scope.names.lookup x == some .local) && !(x == ("__debug__" : Str)) && decide ((x :: fr).Nodup) &&
  fr.all fun n => (relab scope sc).names.lookup n == some .cell
def evT (c : Cx g) (ρ : Rho) : Option Expr → Sto → (Bool → Sto → Prop) → Prop
  | Option.none, σ, Q => Q true σ
  | some t, σ, Q => evb c ρ t σ Q
theorem evT_sound {t : Option Expr} {Q : Bool → Sto → Prop} (h : evT c ρ t σ Q) : gv c ρ (fun _ a b => a = b) (forIn t.toList true fun e r => if r = true then do let ok ← isTrue e c.env (eval e c.env); pure (ForInStep.yield ok) else pure (ForInStep.yield r)) σ Q := fun s hs => by
  cases t with
  | none => exact wpAny_tests_nil ⟨_, σ, hs.inv, .refl .., rfl, h⟩
  | some t => exact wpAny_tests_one (h s hs)

theorem compOk_facts {x : Str} {fr : List Str} {scope sc : Scope} (h : compOk x fr scope sc = true) : scope.kind = .function ∧ (∀ y ∈ scope.names, y.2 ≠ .cell) ∧ (∀ y ∈ scope.names, y.2 = .free → y.1 ∈ fr) ∧
    (∀ y ∈ scope.names, y.2 = .local → scope.names.lookup y.1 = some .local) ∧ scope.names.lookup x = some .local ∧ (x == ("__debug__" : Str)) = false ∧ (x :: fr).Nodup ∧ ∀ n ∈ fr, (relab scope sc).names.lookup n = some .cell := by
  simp only [compOk, Bool.and_eq_true, Bool.not_eq_true', beq_iff_eq, decide_eq_true_eq, List.all_eq_true, Bool.or_eq_true, bne_iff_ne, ne_eq] at h
  obtain ⟨⟨⟨⟨⟨h1, h2⟩, h3⟩, h4⟩, h5⟩, h6⟩ := h
  refine ⟨h1, fun y hy => (h2 y hy).1.1, fun y hy hf => ?_, fun y hy hf => ?_, h3, h4, h5, h6⟩
  · rcases (h2 y hy).1.2 with q | q
    · exact absurd hf q
    · simpa using q
  · rcases (h2 y hy).2 with q | q
    · exact absurd hf q
    · exact q

def FrIn (fr ρ : Rho) : Prop := ∀ p ∈ fr, p.1 ∈ ρ.map (·.1) ∧ ∀ v, p.2 = some v → (p.1, some v) ∈ ρ

abbrev compCx (c : Cx g) (env' : Env) (own' hid' : List Addr) (sc' : Scope) (R : Result → Shared → Prop) : Cx g := ⟨c.A, env', own', hid', notedBy g.M c.A env' fun e s' => R (.error e) s', sc', false⟩
theorem comp_loop {elt iter : Expr} {x : Str} {px pos : Pos} {t : Option Expr} {scope sc' : Scope} {fr : Rho} {l : List AV} {s : Shared} {R : Result → Shared → Prop} {env' : Env} {own' hid' : List Addr} {I D Z : Addr} {fp : List Addr} {P : Nat → Value → Prop} {Sx : Nat → Heap → Prop} {h₁ : Heap} {tk₁ : Nat} {Slot : Heap → Option Value → Prop} {vo₁ : Option Value}
    (J : List AV → List AV → Sto → Prop) (W : Walks g.prog g.w c.A I fp [I] l.length P Sx) (hlv : ∀ j h, Sx j h → ∃ o, h.get? I = some o) (hfp : ∀ b ∈ fp, b = I ∨ ∃ o, c.F σ s b = some o) (hP : ∀ i u, i < l.length → P i u → ∃ x, l[i]? = some x ∧ Rep g.w (c.F σ s) u x)
    (hIin : I ∈ own') (hDin : D ∈ own') (hZin : Z ∈ own') (hsub : ∀ a ∈ c.own, a ∈ own') (hDo : D ∉ c.own) (hZo : Z ∉ c.own) (hIo : I ∉ c.own) (hID : I ≠ D) (hIZ : I ≠ Z) (hZD : Z ≠ D) (hZs : s.heap.objs.size ≤ Z) (hsz : l.length ≤ sizeLine)
    (slot_at : ∀ {h h' : Heap} {vo : Option Value}, Slot h vo → (∀ a ∈ own', a ≠ D → a ≠ I → ∀ o, h.get? a = some o → h'.get? a = some o) → Slot h' vo)
    (store : ∀ {s' : Shared} {vo : Option Value} {u : Value} {Q : Unit → Shared → Prop} {E : Value → Shared → Prop}, Slot s'.heap vo → (∀ h' tk, Slot h' (some u) → Heap.SameBut Z s'.heap h' → (∃ o, h'.get? Z = some o) → Q () { s' with heap := h', toks := tk }) → wpAny g.M c.A (storeName env' x u) Q E s')
    (mkSt : ∀ {σ' : Sto} {s' : Shared} {u : Value} {z : AV}, (compCx c env' own' hid' sc' R).Inv σ' s' → Slot s'.heap (some u) → Rep g.w ((compCx c env' own' hid' sc' R).F σ' s') u z → (c.F σ s).le ((compCx c env' own' hid' sc' R).F σ' s') → (∀ a ∈ c.own, ∀ o, s.heap.get? a = some o → s'.heap.get? a = some o) → St (compCx c env' own' hid' sc' R) ((x, some z) :: fr) σ' s')
    (turn : ∀ y rest acc σ₁, J (y :: rest) acc σ₁ → evT (compCx c env' own' hid' sc' R) ((x, some y) :: fr) t σ₁ fun b σ₂ => match b with
      | true => ev (compCx c env' own' hid' sc' R) ((x, some y) :: fr) elt σ₂ fun z σ₃ => J rest (acc ++ [z]) σ₃
      | false => J rest acc σ₂)
    (hS₁ : Sx 0 h₁) (hacc₁ : h₁.get? D = some (lstO [] 0)) (inv₁ : (compCx c env' own' hid' sc' R).Inv σ { s with heap := h₁, toks := tk₁ }) (slot₁ : Slot h₁ vo₁) (hF₁ : (c.F σ s).le (fz h₁ own' σ)) (oldO : ∀ a ∈ c.own, ∀ o, s.heap.get? a = some o → h₁.get? a = some o) (hJ : J l [] σ)
    (fin : ∀ (l' : List AV) (σ' : Sto) (h' h₃ : Heap) (tk tk₃ : Nat) (vs : List Value) (n : Nat) (vo : Option Value), J [] l' σ' → h'.get? D = some (lstO vs n) → Mine.Inv g.w g.H₀ own' σ' { s with heap := h', toks := tk } → Slot h' vo → RepL g.w (fz h' own' σ') vs l' → (c.F σ s).le (fz h' own' σ') → (∀ a ∈ c.own, ∀ o, s.heap.get? a = some o → h'.get? a = some o) → l'.length ≤ l.length →
      (∀ b o, b ≠ I → h'.get? b = some o → h₃.get? b = some o) → R (.ok .next) { s with heap := h₃, toks := tk₃ }) :
    codeAny g.M c.A (.compLoop (.ListComp elt [⟨.Name x px, iter, t.toList, 0⟩] scope pos) 0 (.ref I) (.ref D) env') R { s with heap := h₁, toks := tk₁ } := by
  let c' := compCx c env' own' hid' sc' R
  refine codeAny_compLoop_tests (fun k s' => ∃ (j : Nat) (acc : List AV) (σ' : Sto) (vs : List Value) (n : Nat) (h' : Heap) (tk : Nat), s' = { s with heap := h', toks := tk } ∧ k = l.length + 1 - j ∧ j ≤ l.length ∧ Sx j h' ∧ h'.get? D = some (lstO vs n) ∧
    c'.Inv σ' s' ∧ (∃ vo, Slot h' vo) ∧ RepL g.w (c'.F σ' s') vs acc ∧ (c.F σ s).le (c'.F σ' s') ∧ (∀ a ∈ c.own, ∀ o, s.heap.get? a = some o → h'.get? a = some o) ∧ J (l.drop j) acc σ' ∧ acc.length ≤ j)
    ?_ (l.length + 1) ⟨0, [], σ, [], 0, h₁, _, rfl, rfl, Nat.zero_le _, hS₁, hacc₁, inv₁, ⟨_, slot₁⟩, .nil, hF₁, oldO, by simpa using hJ, Nat.le_refl _⟩
  rintro k s' ⟨j, acc, σ', vs, n, h', tk, rfl, rfl, hj, hSj, hDj, hi, ⟨voj, hn⟩, hvs, hle, hown, hJj, hlen⟩
  by_cases hlt : j < l.length
  · refine W.item j _ _ _ hlt hSj fun u h₃ tk₃ hPu hS₃ hk₃ => ?_
    have hk₃' : ∀ b o, b ≠ I → h'.get? b = some o → h₃.get? b = some o := fun b o hb => hk₃ b o (by simpa using hb)
    obtain ⟨y', hy', hyr⟩ := hP j u hlt hPu
    have hdrop : l.drop j = y' :: l.drop (j + 1) := by
      rw [List.getElem?_eq_getElem hlt] at hy'
      injection hy' with hy'
      rw [List.drop_eq_getElem_cons hlt, hy']
    rw [hdrop] at hJj
    -- the walker turned
    have le₃ : (fz h' c'.own σ').le (fz h₃ c'.own σ') := fun b o e => by
      obtain ⟨e1, e2, e3⟩ := fz_eq.mp e
      exact fz_eq.mpr ⟨e1, e2, hk₃' b o (by rintro rfl; exact e2 hIin) e3⟩
    have inv₃ : c'.Inv σ' { s with heap := h₃, toks := tk₃ } := by
      refine ⟨fun b o e => le₃ b o (hi.keep b o e), fun a z e => (hi.objs a z e).mono le₃ fun o e' => hk₃' a o (by rintro rfl; rw [hi.off _ hIin] at e; cases e) e', hi.off, fun a ha => ?_⟩
      by_cases hq : a = I
      · subst hq; exact hlv _ _ hS₃
      · obtain ⟨o, ho⟩ := hi.live a ha; exact ⟨o, hk₃' a o hq ho⟩
    have hn₃ : Slot h₃ voj := slot_at hn fun a _ _ hne o e => hk₃' a o hne e
    refine wpAny_assign_Name (store hn₃ fun h₄ tk₄ hn₄ hs₄ hZ₄ => ?_)
    have hF₄ : fz h₄ c'.own σ' = fz h₃ c'.own σ' := fz_sameBut hZin hs₄
    have inv₄ : c'.Inv σ' { s with heap := h₄, toks := tk₄ } := inv₃.sameBut (t := tk₄) hZin hs₄ hZ₄
    have le₄ : (c.F σ s).le (fz h₄ c'.own σ') := by rw [hF₄]; exact hle.trans le₃
    have own₄ : ∀ a ∈ c.own, ∀ o, s.heap.get? a = some o → h₄.get? a = some o := fun a ha o ho => (hs₄.2 a (by rintro rfl; exact hZo ha)).trans (hk₃' a o (by rintro rfl; exact hIo ha) (hown a ha o ho))
    have hD₄ : h₄.get? D = some (lstO vs n) := (hs₄.2 D (Ne.symm hZD)).trans (hk₃' D _ (Ne.symm hID) hDj)
    have hS₄ : Sx (j + 1) h₄ := by
      refine W.frame _ _ _ hS₃ fun b hb o ho => (hs₄.2 b ?_).trans ho
      rcases hfp b hb with rfl | ⟨o₀, ho₀⟩
      · exact hIZ
      · have := Heap.lt_size (fz_eq.mp ho₀).2.2
        exact fun e => absurd this (e ▸ Nat.not_lt.mpr hZs)
    have hvs₄ : RepL g.w (fz h₄ c'.own σ') vs acc := by rw [hF₄]; exact hvs.mono le₃
    have st₄ : St c' ((x, some y') :: fr) σ' { s with heap := h₄, toks := tk₄ } := mkSt inv₄ hn₄ (hyr.mono le₄) le₄ own₄
    have hturn := turn y' (l.drop (j + 1)) acc σ' hJj
    refine wpAny_mono (evT_sound hturn _ st₄) (fun b s₅ ⟨b', σ₅, i₅, e₅, hbb, q₅⟩ => ?_) fun _ _ e => e
    subst hbb
    obtain ⟨h₅, tk₅, e5⟩ := e₅.same
    subst e5
    have hgl₅ : (fz h₄ c'.own σ').le (fz h₅ c'.own σ₅) := e₅.grow
    have hown₅ : ∀ a ∈ c'.own, ∀ o, h₄.get? a = some o → h₅.get? a = some o := e₅.own
    have hD₅ := hown₅ D hDin _ hD₄
    -- a turn's end
    have tend : ∀ {σ₆ : Sto} {h₆ : Heap} {tk₆ : Nat}, c'.Inv σ₆ { s with heap := h₆, toks := tk₆ } → (fz h₅ c'.own σ₅).le (fz h₆ c'.own σ₆) → (∀ a ∈ c'.own, a ≠ D → ∀ o, h₅.get? a = some o → h₆.get? a = some o) →
        ∀ acc' vs' n', h₆.get? D = some (lstO vs' n') → RepL g.w (fz h₆ c'.own σ₆) vs' acc' → J (l.drop (j + 1)) acc' σ₆ → acc'.length ≤ j + 1 →
        ∃ mm, mm < l.length + 1 - j ∧ ∃ (j : Nat) (acc : List AV) (σ' : Sto) (vs : List Value) (n : Nat) (h' : Heap) (tk : Nat), ({ s with heap := h₆, toks := tk₆ } : Shared) = { s with heap := h', toks := tk } ∧ mm = l.length + 1 - j ∧ j ≤ l.length ∧ Sx j h' ∧ h'.get? D = some (lstO vs n) ∧
          c'.Inv σ' { s with heap := h₆, toks := tk₆ } ∧ (∃ vo, Slot h' vo) ∧ RepL g.w (c'.F σ' { s with heap := h₆, toks := tk₆ }) vs acc ∧ (c.F σ s).le (c'.F σ' { s with heap := h₆, toks := tk₆ }) ∧ (∀ a ∈ c.own, ∀ o, s.heap.get? a = some o → h'.get? a = some o) ∧ J (l.drop j) acc σ' ∧ acc.length ≤ j := by
      intro σ₆ h₆ tk₆ i₆ g₆ o₆ acc' vs' n' hD₆ hvs₆ hJ₆ hl₆
      have back : ∀ a ∈ c'.own, a ≠ D → ∀ o, h₄.get? a = some o → h₆.get? a = some o := fun a ha hne o ho => o₆ a ha hne o (hown₅ a ha o ho)
      refine ⟨l.length + 1 - (j + 1), by omega, j + 1, acc', σ₆, vs', n', h₆, tk₆, rfl, rfl, hlt, ?_, hD₆, i₆, ⟨_, slot_at hn₄ fun a ha hne _ o e => back a ha hne o e⟩, hvs₆, le₄.trans (hgl₅.trans g₆), fun a ha o ho => ?_, hJ₆, hl₆⟩
      · refine W.frame _ _ _ hS₄ fun b hb o ho => ?_
        rcases hfp b hb with rfl | ⟨o₀, ho₀⟩
        · exact back _ hIin hID o ho
        · have h7 := le₄ b o₀ ho₀
          have h8 := (fz_eq.mp h7).2.2
          rw [ho] at h8
          injection h8 with h8
          subst h8
          exact (fz_eq.mp (g₆ b o (hgl₅ b o h7))).2.2
      · exact back a (hsub a ha) (by rintro rfl; exact hDo ha) o (own₄ a ha o ho)
    cases b with
    | false =>
      rw [if_neg Bool.false_ne_true]
      exact tend i₅ (.refl _) (fun _ _ _ _ e => e) acc vs n hD₅ (hvs₄.mono hgl₅) q₅ (by omega)
    | true =>
      rw [if_pos rfl]
      have st₅ : St c' ((x, some y') :: fr) σ₅ { s with heap := h₅, toks := tk₅ } := st₄.ev i₅ e₅
      refine wpAny_mono (q₅ _ st₅) (fun z s₆ ⟨z', σ₆, i₆, e₆, r₆, q₆⟩ => ?_) fun _ _ e => e
      obtain ⟨h₆, tk₆, e6⟩ := e₆.same
      subst e6
      have hgl₆ : (fz h₅ c'.own σ₅).le (fz h₆ c'.own σ₆) := e₆.grow
      have hown₆ : ∀ a ∈ c'.own, ∀ o, h₅.get? a = some o → h₆.get? a = some o := e₆.own
      have hD₆ : h₆.PlainList D vs.toArray := ⟨n, hown₆ D hDin _ hD₅⟩
      have hvlen : vs.length = acc.length := hvs.length
      refine wpAny_list_append_plain hD₆ (fun h₇ hp₇ hs₇ => ?_) (by rw [List.size_toArray]; omega)
      have hF₇ : fz h₇ c'.own σ₆ = fz h₆ c'.own σ₆ := fz_sameBut hDin hs₇
      obtain ⟨n₇, hn₇⟩ := hp₇
      have hD₇ : h₇.get? D = some (lstO (vs ++ [z]) n₇) := by rw [hn₇]; simp
      refine tend (h₆ := h₇) (tk₆ := tk₆) (i₆.sameBut (t := tk₆) hDin hs₇ ⟨_, hD₇⟩) ?_ (fun a ha hne o ho => (hs₇.2 a hne).trans (hown₆ a ha o ho)) (acc ++ [z']) (vs ++ [z]) n₇ hD₇ ?_ q₆ (by rw [List.length_append, List.length_singleton]; omega)
      · rw [hF₇]; exact hgl₆
      · rw [hF₇]
        exact ((hvs₄.mono hgl₅).mono hgl₆).append (.cons r₆ .nil)
  · have hjl : j = l.length := by omega
    subst hjl
    refine W.done _ _ _ hSj fun h₃ tk₃ hk₃ => ?_
    have hk₃' : ∀ b o, b ≠ I → h'.get? b = some o → h₃.get? b = some o := fun b o hb => hk₃ b o (by simpa using hb)
    exact fin acc σ' h' h₃ tk tk₃ vs n voj (by simpa using hJj) hDj hi hn hvs hle hown hlen hk₃'

theorem comp_core {elt iter : Expr} {x : Str} {px pos : Pos} {t : Option Expr} {scope : Scope} {fr : Rho} {y : AV} {v : Value} {l : List AV} {s : Shared} {RR : Value → Addr → Result → Shared → Prop} {E : Value → Shared → Prop}
    (J : List AV → List AV → Sto → Prop) (hok : compOk x (fr.map (·.1)) scope c.sc = true) (hfr : FrIn fr ρ) (st : St c ρ σ s) (r : Rep g.w (c.F σ s) v y) (hit : Iter c y l) (hJ : J l [] σ) (hsz : l.length ≤ sizeLine)
    (turn : ∀ c' : Cx g, c'.A = c.A → c'.sc = relab scope c.sc → ∀ y rest acc σ₁, J (y :: rest) acc σ₁ → evT c' ((x, some y) :: fr) t σ₁ fun b σ₂ => match b with
      | true => ev c' ((x, some y) :: fr) elt σ₂ fun z σ₃ => J rest (acc ++ [z]) σ₃
      | false => J rest acc σ₂)
    (hRR : ∀ D C l' σ' h' tk m vs n, J [] l' σ' → D ∉ c.own → C ∉ c.own → C ≠ D → s.heap.objs.size ≤ D → s.heap.objs.size ≤ C → h'.get? D = some (lstO vs n) →
      RepL g.w (fz h' (C :: D :: c.own) σ') vs l' → h'.Ns C m → (c.F σ s).le (fz h' (C :: D :: c.own) σ') → (∀ a ∈ c.own, ∀ o, s.heap.get? a = some o → h'.get? a = some o) →
      Mine.Inv g.w g.H₀ (C :: D :: c.own) σ' { s with heap := h', toks := tk } → l'.length ≤ l.length → RR (.ref D) C (.ok .next) { s with heap := h', toks := tk }) :
    wpAny g.M c.A (pyIter v) (fun it s₂ => wpAny g.M c.A (newList []) (fun acc s₃ => wpAny g.M c.A (newFunctionEnv scope c.env.globals (closN c.env.cells scope.names []) [] c.env.qual none .none (some c.env)) (fun cenv s₄ =>
      codeAny g.M c.A (.compStart (.ListComp elt [⟨.Name x px, iter, t.toList, 0⟩] scope pos) 0 it acc { cenv with scope := relabel scope c.env }) (RR acc cenv.locals) s₄) E s₃) E s₂) E s := by
  obtain ⟨hkind, hcell, hfree, hnames, hx, hdbg, hnd, hfrk⟩ := compOk_facts hok
  refine wpAny_mono (hit σ s v st.inv r E) (fun it s₂ ⟨I, fp, P, Sx, hI, W, hS, ⟨h₂, tk₂, hs₂⟩, hk, hszI, hlv, hfp, hP⟩ => ?_) fun _ _ e => e
  subst hI
  subst hs₂
  refine wpAny_newObj_type (wpAny_newFunctionEnv hcell (by intro y hy; simp at hy) (fun h₁ hns₁ hsb₁ => ?_) hkind)
  dsimp only at hns₁ hsb₁ ⊢
  have hIlt : I < h₂.objs.size := by obtain ⟨o, ho⟩ := hlv 0 _ hS; exact Heap.lt_size ho
  generalize hD : h₂.objs.size = D at hns₁ hsb₁ ⊢
  generalize hH2 : h₂.push { cls := .type "list", dict := none, data := .seq ([] : List Value).toArray } = H2 at hns₁ hsb₁ ⊢
  have hC : H2.objs.size = D + 1 := by rw [← hH2, Heap.size_push, hD]
  generalize hCe : H2.objs.size = C at hns₁ hsb₁ hC ⊢
  have hscR : relabel scope c.env = relab scope c.sc := relabel_eq st.fr.sc
  have hfreeC : ∀ y ∈ scope.names, y.2 = .free → ∃ a, c.env.cells.lookup y.1 = some a := fun y hy hf => by
    obtain ⟨p, hp, e⟩ := List.mem_map.mp (hfree y hy hf)
    have h1 := (hfr p hp).1
    rw [e] at h1
    have hk1 := hfrk y.1 (hfree y hy hf)
    have hk2 := (relabN_cell hcell hk1).2
    rcases (st.fr.kinds y.1 h1).2 with q | ⟨_, q⟩
    · rw [hk2] at q; cases q
    · exact q
  generalize hcl : closN c.env.cells scope.names [] = cl
  have hclget : ∀ n a, cl.lookup n = some a → c.env.cells.lookup n = some a := fun n a h => by
    rw [← hcl] at h
    exact (closN_get hfreeC h).resolve_right (by simp)
  have hclhas : ∀ n, scope.names.lookup n = some .free → ∃ a, cl.lookup n = some a := fun n h => by
    rw [← hcl]
    exact Option.isSome_iff_exists.mp (closN_has (.inl h))
  have hDs : s.heap.objs.size ≤ D := by
    rw [← hD]
    exact Nat.le_trans hszI (Nat.le_of_lt hIlt)
  have hIo : I ∉ c.own := (st.inv.fresh hszI).2
  have hDo : D ∉ c.own := (st.inv.fresh hDs).2
  have hCs : s.heap.objs.size ≤ C := by rw [hC]; exact Nat.le_succ_of_le hDs
  have hCo : C ∉ c.own := (st.inv.fresh hCs).2
  have hCD : C ≠ D := by rw [hC]; exact Nat.ne_of_gt (Nat.lt_succ_self _)
  have hID : I ≠ D := by rw [← hD]; exact Nat.ne_of_lt hIlt
  have hIC : I ≠ C := by rw [hC]; rw [hD] at hIlt; exact Nat.ne_of_lt (Nat.lt_succ_of_lt hIlt)
  have old : ∀ b o, h₂.get? b = some o → h₁.get? b = some o := fun b o e => by
    have hb : b < D := hD ▸ Heap.lt_size e
    exact hsb₁.extBut b o (by rw [hC]; exact Nat.ne_of_lt (Nat.lt_succ_of_lt hb)) (Heap.get?_push_of_some _ (hH2 ▸ Heap.get?_push_of_some _ e))
  have oldS : ∀ b o, s.heap.get? b = some o → h₁.get? b = some o := fun b o e => old b o (hk b o e)
  have hacc₁ : h₁.get? D = some (lstO [] 0) := hsb₁.extBut _ _ (Ne.symm hCD) (Heap.get?_push_of_some _ (hH2 ▸ hD ▸ Heap.get?_push_size _ rfl))
  have hS₁ : Sx 0 h₁ := W.frame _ _ _ hS fun b _ o e => old b o e
  -- the comprehension's own context
  generalize hE' : compEnvC scope cl C c.env = env'
  have he1 : env'.scope = relab scope c.sc := by rw [← hE', ← hscR]; rfl
  have he2 : env'.locals = C := by rw [← hE']; rfl
  have he3 : env'.cells = cl := by rw [← hE']; rfl
  have he4 : env'.globals = mainGlobals := by rw [← hE']; exact st.fr.glob
  have he5 : env'.builtins = builtinsNs := by rw [← hE']; exact st.fr.blt
  show codeAny g.M c.A (.compStart (.ListComp elt [⟨.Name x px, iter, t.toList, 0⟩] scope pos) 0 (.ref I) (.ref D) (compEnvC scope cl C c.env)) (RR (.ref D) C) _
  rw [hE']
  let c' : Cx g := ⟨c.A, env', C :: D :: I :: c.own, D :: I :: c.own, notedBy g.M c.A env' fun e s' => RR (.ref D) C (.error e) s', relab scope c.sc, false⟩
  have hF₁ : (c.F σ s).le (fz h₁ c'.own σ) := fun b o e => by
    obtain ⟨e1, e2, e3⟩ := fz_eq.mp e
    have hb := Heap.lt_size e3
    refine fz_eq.mpr ⟨e1, fun hm => ?_, oldS b o e3⟩
    rcases List.mem_cons.mp hm with q | hm
    · exact absurd hb (q ▸ Nat.not_lt.mpr hCs)
    rcases List.mem_cons.mp hm with q | hm
    · exact absurd hb (q ▸ Nat.not_lt.mpr hDs)
    rcases List.mem_cons.mp hm with q | hm
    · exact absurd hb (q ▸ Nat.not_lt.mpr hszI)
    · exact e2 hm
  have inv₁ : c'.Inv σ { s with heap := h₁, toks := tk₂ + ([] : List (Str × Value)).length } := by
    refine ⟨fun b o e => hF₁ b o (st.inv.keep b o e), fun a z e => (st.inv.objs a z e).mono hF₁ fun o e => oldS a o e, fun a ha => ?_, fun a ha => ?_⟩
    · rcases List.mem_cons.mp ha with rfl | ha
      · exact (st.inv.fresh hCs).1
      rcases List.mem_cons.mp ha with rfl | ha
      · exact (st.inv.fresh hDs).1
      rcases List.mem_cons.mp ha with rfl | ha
      · exact (st.inv.fresh hszI).1
      · exact st.inv.off a ha
    · rcases List.mem_cons.mp ha with rfl | ha
      · obtain ⟨o, _, _, ho, _⟩ := hns₁; exact ⟨o, ho⟩
      rcases List.mem_cons.mp ha with rfl | ha
      · exact ⟨_, hacc₁⟩
      rcases List.mem_cons.mp ha with rfl | ha
      · exact hlv 0 _ hS₁
      · obtain ⟨o, ho⟩ := st.inv.live a ha; exact ⟨o, oldS a o ho⟩
  have fr' : Frame c' (((x, (Option.none : Option AV)) :: fr).map (·.1)) := by
    refine ⟨he1, (fun h => by cases h), ?_, he4, he5, ?_, ?_, fun a ha => List.mem_cons_of_mem _ ha, fun n a ha => ?_, (fun h => by cases h), fun n hn => ?_, ?_⟩
    · show env'.scope.kind = _; rw [he1]; exact hkind
    · show env'.locals ∈ _; rw [he2]; exact List.mem_cons_self
    · show env'.locals ∉ _
      rw [he2]
      simp only [List.mem_cons, not_or, c']
      exact ⟨hCD, Ne.symm hIC, hCo⟩
    · have ha' : cl.lookup n = some a := he3 ▸ ha
      have := (st.fr.cells n a (hclget n a ha')).1
      refine ⟨List.mem_cons_of_mem _ (List.mem_cons_of_mem _ (List.mem_cons_of_mem _ this)), ?_⟩
      show a ≠ env'.locals
      rw [he2]
      rintro rfl
      exact hCo this
    · rcases List.mem_cons.mp hn with rfl | hn
      · refine ⟨hdbg, .inl ?_⟩
        have := lookup_relabel_local (env := c.env) hx
        show (relab scope c.sc).names.lookup _ = _
        rw [← hscR]
        exact this
      · obtain ⟨p, hp, rfl⟩ := List.mem_map.mp hn
        have hk1 := hfrk p.1 hn
        refine ⟨(st.fr.kinds p.1 (hfr p hp).1).1, .inr ⟨hk1, ?_⟩⟩
        show ∃ a, env'.cells.lookup p.1 = some a
        rw [he3]
        exact hclhas p.1 (relabN_cell hcell hk1).1
    · exact hnd
  -- the state at a turn
  have mkSt : ∀ {σ' : Sto} {s' : Shared} {m : Str → Option Value} {u : Value} {z : AV}, c'.Inv σ' s' → s'.heap.Ns C m → m x = some u → Rep g.w (c'.F σ' s') u z → (c.F σ s).le (c'.F σ' s') → (∀ a ∈ c.own, ∀ o, s.heap.get? a = some o → s'.heap.get? a = some o) →
      St c' ((x, some z) :: fr) σ' s' := by
    intro σ' s' m u z hi hn hm hz hle hown
    refine ⟨hi, fr', ⟨m, by show s'.heap.Ns env'.locals m; rw [he2]; exact hn, fun n w' hw hkn => ?_⟩, fun n a hkn ha => ?_⟩
    · rcases List.mem_cons.mp hw with e | hw
      · injection e with e1 e2
        injection e2 with e2
        subst e1; subst e2
        exact ⟨u, hm, hz⟩
      · have := hfrk n (List.mem_map.mpr ⟨_, hw, rfl⟩)
        have hkn' : (relab scope c.sc).names.lookup n = some .local := hkn
        rw [this] at hkn'; cases hkn'
    · have ha' : cl.lookup n = some a := he3 ▸ ha
      have hkn' : (relab scope c.sc).names.lookup n = some .cell := hkn
      have hcn := hclget n a ha'
      obtain ⟨vo, ⟨o, ho, hd⟩, hv⟩ := st.cl n a (relabN_cell hcell hkn').2 hcn
      refine ⟨vo, ⟨o, hown a (st.fr.cells n a hcn).1 o ho, hd⟩, fun w' hw => ?_⟩
      rcases List.mem_cons.mp hw with e | hw
      · injection e with e1 e2
        subst e1
        have := lookup_relabel_local (env := c.env) hx
        have h' : (relabel scope c.env).names.lookup n = some .cell := hscR ▸ hkn'
        rw [show (relabel scope c.env).names.lookup n = some .local from this] at h'; cases h'
      · obtain ⟨u', e1, e2⟩ := hv w' ((hfr _ hw).2 w' rfl)
        exact ⟨u', e1, e2.mono hle⟩
  have loop : codeAny g.M c.A (.compLoop (.ListComp elt [⟨.Name x px, iter, t.toList, 0⟩] scope pos) 0 (.ref I) (.ref D) env') (RR (.ref D) C) { s with heap := h₁, toks := tk₂ + ([] : List (Str × Value)).length } := by
   refine comp_loop (elt := elt) (iter := iter) (px := px) (pos := pos) (t := t) (scope := scope) (sc' := relab scope c.sc) (R := RR (.ref D) C) (hid' := D :: I :: c.own) (Slot := fun h vo => ∃ m, h.Ns C m ∧ ∀ u, vo = some u → m x = some u) (vo₁ := none) (tk₁ := tk₂ + ([] : List (Str × Value)).length) J W hlv hfp hP (List.mem_cons_of_mem _ (List.mem_cons_of_mem _ List.mem_cons_self)) (List.mem_cons_of_mem _ List.mem_cons_self) (List.mem_cons_self (a := C) (l := D :: I :: c.own)) (fun a ha => List.mem_cons_of_mem _ (List.mem_cons_of_mem _ (List.mem_cons_of_mem _ ha))) hDo hCo hIo hID hIC hCD hCs hsz
    (fun ⟨m, hn, hm⟩ hk => ⟨m, hn.at' (hk C List.mem_cons_self hCD (Ne.symm hIC)), hm⟩)
    (fun {s' vo u Q E} ⟨m, hn, hm⟩ hq => by
      have hlocal : env'.kindOf x = some .local := by
        unfold Env.kindOf
        rw [he1, ← hscR]
        exact lookup_relabel_local (env := c.env) hx
      have hp : (env'.scope.kind == .class || (env'.scope.kind == .module && env'.locals != env'.globals)) = false := by
        rw [he1, show (relab scope c.sc).kind = .function from hkind]; rfl
      refine wpAny_storeName_local hlocal (he2 ▸ hn) (fun h₄ hn₄ hs₄ => ?_) hp
      rw [he2] at hn₄ hs₄
      exact hq h₄ _ ⟨_, hn₄, fun u' e => by injection e with e; subst e; exact if_pos rfl⟩ hs₄ (let ⟨o, _, _, ho, _⟩ := hn₄; ⟨o, ho⟩))
    (fun hi ⟨m, hn, hm⟩ hz hle hown => mkSt hi hn (hm _ rfl) hz hle hown) (fun y rest acc σ₁ hJ => turn c' rfl rfl y rest acc σ₁ hJ) hS₁ hacc₁ inv₁ ⟨_, hns₁, fun u e => by cases e⟩ hF₁ (fun a _ o e => oldS a o e) hJ ?_
   intro acc σ' h' h₃ tk tk₃ vs n vo hJj hDj hi ⟨m, hn, _⟩ hvs hle hown hlen hk₃'
   have le₃ : (fz h' c'.own σ').le (fz h₃ (C :: D :: c.own) σ') := fun b o e => by
     obtain ⟨e1, e2, e3⟩ := fz_eq.mp e
     simp only [c', List.mem_cons, not_or] at e2
     refine fz_eq.mpr ⟨e1, ?_, hk₃' b o e2.2.2.1 e3⟩
     simp only [List.mem_cons, not_or]
     exact ⟨e2.1, e2.2.1, e2.2.2.2⟩
   have sub : ∀ a ∈ C :: D :: c.own, a ∈ c'.own ∧ a ≠ I := fun a ha => by
     rcases List.mem_cons.mp ha with rfl | ha
     · exact ⟨List.mem_cons_self, Ne.symm hIC⟩
     rcases List.mem_cons.mp ha with rfl | ha
     · exact ⟨List.mem_cons_of_mem _ List.mem_cons_self, Ne.symm hID⟩
     · exact ⟨List.mem_cons_of_mem _ (List.mem_cons_of_mem _ (List.mem_cons_of_mem _ ha)), by rintro rfl; exact hIo ha⟩
   have hIin : I ∈ c'.own := List.mem_cons_of_mem _ (List.mem_cons_of_mem _ List.mem_cons_self)
   refine hRR D C acc σ' h₃ tk₃ m vs n (by simpa using hJj) hDo hCo hCD hDs hCs (hk₃' D _ (Ne.symm hID) hDj) (hvs.mono le₃) (hn.at' fun o e => hk₃' _ o (Ne.symm hIC) e) (hle.trans le₃)
     (fun a ha o ho => hk₃' a o (by rintro rfl; exact hIo ha) (hown a ha o ho)) ⟨fun b o e => le₃ b o (hi.keep b o e), fun a z e => (hi.objs a z e).mono le₃ fun o e' => hk₃' a o (by rintro rfl; rw [hi.off _ hIin] at e; cases e) e', fun a ha => hi.off a (sub a ha).1, fun a ha => ?_⟩ hlen
   obtain ⟨o, ho⟩ := hi.live a (sub a ha).1
   exact ⟨o, hk₃' a o (sub a ha).2 ho⟩
  exact codeAny_compStart_list loop (W.self 0 _ _ _ hS₁ loop)

theorem comp_end {s : Shared} {D C : Addr} {l' : List AV} {σ' : Sto} {h' h'' : Heap} {tk : Nat} {vs : List Value} {n : Nat} (hDo : D ∉ c.own) (hCo : C ∉ c.own) (hCD : C ≠ D) (hDg : h'.get? D = some (lstO vs n))
    (hvs : RepL g.w (fz h' (C :: D :: c.own) σ') vs l') (hle : (c.F σ s).le (fz h' (C :: D :: c.own) σ')) (hown : ∀ a ∈ c.own, ∀ o, s.heap.get? a = some o → h'.get? a = some o)
    (hi : Mine.Inv g.w g.H₀ (C :: D :: c.own) σ' { s with heap := h', toks := tk }) (hs : Heap.SameBut C h' h'') :
    c.Inv σ' { s with heap := h'', toks := tk } ∧ c.Ev σ s σ' { s with heap := h'', toks := tk } ∧ RepL g.w (fz h'' c.own σ') vs l' ∧ h''.get? D = some (lstO vs n) ∧ σ' D = Option.none := by
  have le : (fz h' (C :: D :: c.own) σ').le (fz h'' c.own σ') := fun b o e => by
    obtain ⟨e1, e2, e3⟩ := fz_eq.mp e
    simp only [List.mem_cons, not_or] at e2
    exact fz_eq.mpr ⟨e1, e2.2.2, (hs.2 b e2.1).trans e3⟩
  refine ⟨⟨fun b o e => le b o (hi.keep b o e), fun a z e => (hi.objs a z e).mono le fun o e' => (hs.2 a ?_).trans e', fun a ha => hi.off a (List.mem_cons_of_mem _ (List.mem_cons_of_mem _ ha)), fun a ha => ?_⟩, ⟨⟨_, _, rfl⟩, hle.trans le, fun a ha o ho => (hs.2 a ?_).trans (hown a ha o ho)⟩,
    hvs.mono le, (hs.2 D (Ne.symm hCD)).trans hDg, hi.off D (List.mem_cons_of_mem _ List.mem_cons_self)⟩
  · rintro rfl; rw [hi.off _ List.mem_cons_self] at e; cases e
  · obtain ⟨o, ho⟩ := hi.live a (List.mem_cons_of_mem _ (List.mem_cons_of_mem _ ha))
    exact ⟨o, (hs.2 a (by rintro rfl; exact hCo ha)).trans ho⟩
  · rintro rfl; exact hCo ha

theorem ev_comp {elt iter : Expr} {x : Str} {px pos : Pos} {t : Option Expr} {scope : Scope} {fr : Rho} {Q : AV → Sto → Prop} (J : List AV → List AV → Sto → Prop) (hok : compOk x (fr.map (·.1)) scope c.sc = true) (hfr : FrIn fr ρ)
    (h : ev c ρ iter σ fun y σ₁ => ∃ l, Iter c y l ∧ l.length ≤ sizeLine ∧ J l [] σ₁)
    (turn : ∀ c' : Cx g, c'.A = c.A → c'.sc = relab scope c.sc → ∀ y rest acc σ₁, J (y :: rest) acc σ₁ → evT c' ((x, some y) :: fr) t σ₁ fun b σ₂ => match b with
      | true => ev c' ((x, some y) :: fr) elt σ₂ fun z σ₃ => J rest (acc ++ [z]) σ₃
      | false => J rest acc σ₂)
    (done : ∀ acc σ₁, J [] acc σ₁ → Q (.list acc) σ₁)
    (hs : ∀ x, foldedSetIterable iter c.env x = pure x := by intro _; rfl) : ev c ρ (.ListComp elt [⟨.Name x px, iter, t.toList, 0⟩] scope pos) σ Q := fun s st => by
  obtain ⟨hkind, hcell, hfree, hnames, hx, hdbg, hnd, hfrk⟩ := compOk_facts hok
  have hfreeC : ∀ y ∈ scope.names, y.2 = .free → ∃ a, c.env.cells.lookup y.1 = some a := fun y hy hf => by
    obtain ⟨p, hp, e⟩ := List.mem_map.mp (hfree y hy hf)
    have h1 := (hfr p hp).1
    rw [e] at h1
    have hk2 := (relabN_cell hcell (hfrk y.1 (hfree y hy hf))).2
    rcases (st.fr.kinds y.1 h1).2 with q | ⟨_, q⟩
    · rw [hk2] at q; cases q
    · exact q
  show wpAny _ _ (eval _ _) _ _ _
  rw [eval_ListComp]
  refine wpAny_comprehension_free (use := none) rfl hs (closureFor_eq hfreeC) hkind hnames (wpAny_mono (h s st) (fun v s₁ ⟨y, σ₁, i₁, e₁, r₁, l, hit, hsz, hJ⟩ => ?_) fun _ _ e => e)
  have st₁ := st.ev i₁ e₁
  refine comp_core (RR := fun acc C => compPost g.M c.A c.E none (fun v s' => ∃ x σ', c.Inv σ' s' ∧ c.Ev σ s σ' s' ∧ Rep g.w (c.F σ' s') v x ∧ Q x σ') acc C) J hok hfr st₁ r₁ hit hJ hsz turn ?_
  intro D C l' σ' h' tk m vs n hJ' hDo hCo hCD hDs hCs hDg hvs hn hle hown hi hlen
  refine ⟨m, hn, fun h'' hs'' => ?_⟩
  obtain ⟨i₂, e₂, r₂, d₂, o₂⟩ := comp_end (s := s₁) (tk := tk) hDo hCo hCD hDg hvs hle hown hi hs''
  refine ⟨.list l', σ', i₂, e₁.trans e₂, .list (fz_eq.mpr ⟨o₂, hDo, d₂⟩) r₂, done l' σ' hJ'⟩

end Mine

end

section
namespace Mine
open PySem
variable {g : Gx} {c : Cx g} {ρ : Rho} {σ : Sto}

section
variable {a b : Int} {Q : AV → Sto → Prop}
theorem op_add (q : Q (.int (a + b)) σ) : op2 c (binaryOp .Add) (.int a) (.int b) σ Q := fun s x y i r1 r2 => by
  cases r1; cases r2; exact PyProof.Rows.add_int ⟨_, σ, i.toks _, .toks .., .int _ _, q⟩
theorem op_sub (q : Q (.int (a - b)) σ) : op2 c (binaryOp .Sub) (.int a) (.int b) σ Q := fun s x y i r1 r2 => by
  cases r1; cases r2; exact PyProof.Rows.sub_int ⟨_, σ, i.toks _, .toks .., .int _ _, q⟩
theorem op_mul (q : Q (.int (a * b)) σ) (h : (-(2 ^ 64) < a ∧ a < 2 ^ 64) ∨ (-(2 ^ 64) < b ∧ b < 2 ^ 64)) : op2 c (binaryOp .Mult) (.int a) (.int b) σ Q := fun s x y i r1 r2 => by
  cases r1; cases r2
  refine PyProof.Rows.mul_int ⟨_, σ, i.toks _, .toks .., .int _ _, q⟩ ?_
  rcases h with h | h
  · exact IntMulOk.of_left (intBits_le_64 h.1 h.2)
  · exact IntMulOk.of_right (intBits_le_64 h.1 h.2)
theorem op_fdiv (hb : b ≠ 0) (hs : b.natAbs < 1073741824) (q : Q (.int (a.fdiv b)) σ) : op2 c (binaryOp .FloorDiv) (.int a) (.int b) σ Q := fun s x y i r1 r2 => by
  cases r1; cases r2; exact PyProof.Rows.floordiv_int hb ⟨_, σ, i.toks _, .toks .., .int _ _, q⟩ (.inl (PyProof.noPylong_small hs))
theorem op_fmod (hb : b ≠ 0) (q : Q (.int (a.fmod b)) σ) : op2 c (binaryOp .Mod) (.int a) (.int b) σ Q := fun s x y i r1 r2 => by
  cases r1; cases r2; exact PyProof.Rows.mod_int' hb ⟨_, σ, i.toks _, .toks .., .int _ _, q⟩
theorem cmp_lt (q : Q (.bool (decide (a < b))) σ) : op2 c (compareOp .Lt) (.int a) (.int b) σ Q := fun s x y i r1 r2 => by
  cases r1; cases r2; exact PyProof.Rows.lt_int ⟨_, σ, i, .refl .., .bool _, q⟩
theorem cmp_gt (q : Q (.bool (decide (b < a))) σ) : op2 c (compareOp .Gt) (.int a) (.int b) σ Q := fun s x y i r1 r2 => by
  cases r1; cases r2; exact PyProof.Rows.gt_int ⟨_, σ, i, .refl .., .bool _, q⟩
theorem cmp_eq (q : Q (.bool (a == b)) σ) : op2 c (compareOp .Eq) (.int a) (.int b) σ Q := fun s x y i r1 r2 => by
  cases r1; cases r2; exact PyProof.Rows.eq_int ⟨_, σ, i, .refl .., .bool _, q⟩
end

section
variable {Q : AV → Sto → Prop}
def isNoneA : AV → Bool
  | .none => true
  | .raw v => v == .none
  | _ => false
theorem rep_none {w : World} {F : Fz} {v : Value} {x : AV} (r : Rep w F v x) : (v == Value.none) = isNoneA x := by cases r <;> rfl
theorem cmp_is {x : AV} (q : Q (.bool (isNoneA x)) σ) : op2 c (compareOp .Is) x .none σ Q := fun s u v i r1 r2 => by
  cases r2; exact is_none (by rw [rep_none r1]; exact ⟨_, σ, i, .refl .., .bool _, q⟩)
theorem cmp_isNot {x : AV} (q : Q (.bool (!isNoneA x)) σ) : op2 c (compareOp .IsNot) x .none σ Q := fun s u v i r1 r2 => by
  cases r2; exact isNot_none (by rw [rep_none r1]; exact ⟨_, σ, i, .refl .., .bool _, q⟩)
theorem cmp_eqs {x y : Str} (q : Q (.bool (x == y)) σ) : op2 c (compareOp .Eq) (.str x) (.str y) σ Q := fun s u v i r1 r2 => by
  cases r1; cases r2; exact PyProof.Rows.eq_str ⟨_, σ, i, .refl .., .bool _, q⟩
theorem op_adds {x y : Str} (hz : x.length + y.length ≤ sizeLine) (q : Q (.str (x ++ y)) σ) : op2 c (binaryOp .Add) (.str x) (.str y) σ Q := fun s u v i r1 r2 => by
  cases r1; cases r2; exact PyProof.Rows.add_str (fun t' tk => ⟨_, σ, i.toks _, .toks .., .str _ _, q⟩) hz
end

def Seq (σ : Sto) (x : AV) (l : List AV) : Prop := x = .list l ∨ ∃ a, x = .obj a ∧ σ a = some (.lst l)
theorem Seq.list {l : List AV} : Seq σ (.list l) l := .inl rfl
theorem Seq.heap {x : AV} {l : List AV} {s : Shared} {v : Value} (h : Seq σ x l) (i : c.Inv σ s) (r : Rep g.w (c.F σ s) v x) : ∃ a vs n, v = .ref a ∧ s.heap.get? a = some (lstO vs n) ∧ RepL g.w (c.F σ s) vs l := by
  rcases h with rfl | ⟨a, rfl, ha⟩
  · cases r with
    | list hF hr => exact ⟨_, _, _, rfl, (fz_eq.mp hF).2.2, hr⟩
  · cases r
    obtain ⟨vs, n, h1, h2⟩ := i.objs a _ ha
    exact ⟨a, vs, n, rfl, h1, h2⟩

def Made (Q : AV → Sto → Prop) (l : List AV) (σ : Sto) : Prop := Q (.list l) σ ∨ ∀ a, σ a = Option.none → Q (.obj a) (σ.set a (.lst l))
theorem Sto.set_self {σ : Sto} {a : Addr} {x : AObj} : σ.set a x a = some x := if_pos rfl
theorem Sto.set_ne {σ : Sto} {a b : Addr} {x : AObj} (h : b ≠ a) : σ.set a x b = σ b := if_neg h
theorem store_new {s : Shared} {h' : Heap} {tk : Nat} {D : Addr} {x : AObj} (i : c.Inv σ s) (hk : ∀ b o, s.heap.get? b = some o → h'.get? b = some o) (hD : s.heap.objs.size ≤ D) (hr : ∀ F : Fz, (c.F σ s).le F → ObjRep g.w F h' D x) :
    c.Inv (σ.set D x) { s with heap := h', toks := tk } ∧ c.Ev σ s (σ.set D x) { s with heap := h', toks := tk } := by
  have hn := i.fresh hD
  have le : (c.F σ s).le (fz h' c.own (σ.set D x)) := fun b o e => by
    obtain ⟨e1, e2, e3⟩ := fz_eq.mp e
    have hb : b ≠ D := by rintro rfl; exact absurd (Heap.lt_size e3) (Nat.not_lt.mpr hD)
    exact fz_eq.mpr ⟨(Sto.set_ne hb).trans e1, e2, hk b o e3⟩
  refine ⟨⟨fun b o e => le b o (i.keep b o e), fun a y e => ?_, fun a ha => ?_, fun a ha => let ⟨o, ho⟩ := i.live a ha; ⟨o, hk a o ho⟩⟩, ⟨⟨_, _, rfl⟩, le, fun a _ o e => hk a o e⟩⟩
  · by_cases hb : a = D
    · subst hb
      rw [Sto.set_self] at e
      injection e with e
      subst e
      exact hr _ le
    · rw [Sto.set_ne hb] at e
      exact (i.objs a y e).mono le fun o e => hk a o e
  · rw [Sto.set_ne (by rintro rfl; exact hn.2 ha)]; exact i.off a ha

theorem made_list {s : Shared} {h' : Heap} {tk : Nat} {D : Addr} {vs : List Value} {n : Nat} {l : List AV} {Q : AV → Sto → Prop} (i : c.Inv σ s) (hk : ∀ b o, s.heap.get? b = some o → h'.get? b = some o) (hD : s.heap.objs.size ≤ D) (hg : h'.get? D = some (lstO vs n))
    (r : RepL g.w (c.F σ s) vs l) (q : Made Q l σ) : ∃ x σ', c.Inv σ' { s with heap := h', toks := tk } ∧ c.Ev σ s σ' { s with heap := h', toks := tk } ∧ Rep g.w (c.F σ' { s with heap := h', toks := tk }) (.ref D) x ∧ Q x σ' := by
  have hn := i.fresh hD
  rcases q with q | q
  · exact ⟨.list l, σ, i.keeps hk, .keeps hk, .list (fz_eq.mpr ⟨hn.1, hn.2, hg⟩) (r.mono (keep_fz hk)), q⟩
  · obtain ⟨h1, h2⟩ := store_new (tk := tk) (x := .lst l) i hk hD (fun F hF => ⟨vs, n, hg, r.mono hF⟩)
    exact ⟨.obj D, _, h1, h2, .obj D, q D hn.1⟩

theorem ev_list {elts : List Expr} {pos : Pos} {Q : AV → Sto → Prop} (h : evl c ρ elts σ fun xs σ₁ => xs.length ≤ sizeLine ∧ Made Q xs σ₁) (hp : elts.all noStar = true := by rfl) : ev c ρ (.List elts pos) σ Q := fun s hs => by
  refine wpAny_List ?_
  rw [starEach_plain hp]
  refine wpAny_mono (evl_sound h s hs) (fun vs s₁ ⟨xs, σ₁, i₁, e₁, r₁, hz, q₁⟩ => ⟨r₁.length ▸ hz, ?_⟩) fun _ _ e => e
  obtain ⟨x, σ', a, b, d, e⟩ := made_list (tk := s₁.toks) i₁ (push_keeps _ _) (Nat.le_refl _) (Heap.get?_push_size _ rfl) r₁ q₁
  exact ⟨x, σ', a, e₁.trans b, d, e⟩
theorem ev_tuple {elts : List Expr} {k : Nat} {pos : Pos} {Q : AV → Sto → Prop} (h : evl c ρ elts σ fun xs σ₁ => xs.length ≤ sizeLine ∧ Q (.tup xs) σ₁) (hp : elts.all noStar = true := by rfl) : ev c ρ (.Tuple elts k pos) σ Q := fun s hs => by
  refine wpAny_Tuple ?_
  rw [starEach_plain hp]
  refine wpAny_mono (evl_sound h s hs) (fun vs s₁ ⟨xs, σ₁, i₁, e₁, r₁, hz, q₁⟩ => ⟨r₁.length ▸ hz, ?_⟩) fun _ _ e => e
  have hn := i₁.fresh (Nat.le_refl s₁.heap.objs.size)
  exact ⟨.tup xs, σ₁, i₁.keeps (t := s₁.toks) (push_keeps _ _), e₁.trans (.keeps (t := s₁.toks) (push_keeps _ _)), .tup (fz_eq.mpr ⟨hn.1, hn.2, Heap.get?_push_size _ rfl⟩) (r₁.mono (keep_fz (push_keeps _ _))), q₁⟩

def subT (c : Cx g) (value slice : Expr) (x y : AV) (σ : Sto) (Q : AV → Sto → Prop) : Prop := ∀ s a b, c.Inv σ s → Rep g.w (c.F σ s) a x → Rep g.w (c.F σ s) b y → pv c σ s (PyProof.Rows.subscriptTail value slice a b) Q
theorem ev_sub {value slice : Expr} {pos : Pos} {Q : AV → Sto → Prop} (h : ev c ρ value σ fun x σ₁ => ev c ρ slice σ₁ fun y σ₂ => subT c value slice x y σ₂ Q) : ev c ρ (.Subscript value slice pos) σ Q := fun s hs => by
  refine PyProof.Rows.Subscript_ (wpAny_mono (h s hs) (fun a s₁ ⟨x, σ₁, i₁, e₁, r₁, q₁⟩ => ?_) fun _ _ e => e)
  refine wpAny_mono (q₁ s₁ (hs.ev i₁ e₁)) (fun b s₂ ⟨y, σ₂, i₂, e₂, r₂, q₂⟩ => ?_) fun _ _ e => e
  exact wpAny_mono (q₂ s₂ a b i₂ (r₁.mono e₂.grow) r₂) (fun v s₃ ⟨z, σ₃, i₃, e₃, r₃, q₃⟩ => ⟨z, σ₃, i₃, (e₁.trans e₂).trans e₃, r₃, q₃⟩) fun _ _ e => e

def noSlice : Expr → Bool
  | .Slice _ _ _ _ => false
  | _ => true
theorem subscripted_plain {slice : Expr} (h : noSlice slice = true) (o i : Value) : subscripted slice false o i = operate [o, i] (getItem o i) := by
  cases slice <;> first | rfl | exact absurd h Bool.false_ne_true
theorem sub_list {value slice : Expr} {x y : AV} {l : List AV} {k : Int} {Q : AV → Sto → Prop} (hx : Seq σ x l) (h0 : 0 ≤ k) (hk : k < 2 ^ 63) (hy : l[k.toNat]? = some y) (q : Q y σ) (hn : noSlice slice = true := by rfl) : subT c value slice x (.int k) σ Q := fun s a b i r1 r2 => by
  obtain ⟨a', vs, n, rfl, hg, hv⟩ := hx.heap i r1
  cases r2
  have hl : s.heap.IsList a' vs.toArray := ⟨_, hg, rfl, n, rfl⟩
  obtain ⟨u, h1, h2⟩ := hv.get hy
  exact PyProof.Rows.tail_any hl.typeIs slot_list_getitem.lookup (wpAny_getItem_list hl h0 hk (by simpa using h1) ⟨y, σ, i, .refl .., h2, q⟩) (subscripted_plain hn _ _)
theorem sub_str {value slice : Expr} {x : Str} {k : Int} {d : Nat} {Q : AV → Sto → Prop} (h0 : 0 ≤ k) (hk : k < 2 ^ 63) (hy : x.cps[k.toNat]? = some d) (q : Q (.str ⟨#[d]⟩) σ) (hn : noSlice slice = true := by rfl) : subT c value slice (.str x) (.int k) σ Q := fun s a b i r1 r2 => by
  cases r1; cases r2
  have hlt : k.toNat < x.length := by
    rcases Nat.lt_or_ge k.toNat x.cps.size with h | h
    · exact h
    · rw [Array.getElem?_eq_none h] at hy; cases hy
  refine PyProof.Rows.tail_any (typeIs_str s x _) PyProof.Rows.slot_str_getitem.lookup (PyProof.Rows.getItem_str ?_ ?_ ⟨_, σ, i.toks _, .toks .., .str _ _, q⟩) (subscripted_plain hn _ _)
  · rw [Bool.or_eq_false_iff]; constructor <;> (rw [decide_eq_false_iff_not]; omega)
  · have e : seqIndex? k x.length = some k.toNat := by
      unfold seqIndex?
      simp only [show ¬ k < 0 by omega, if_false]
      first | (rw [if_pos (by omega)]) | simp; omega
    rw [e]; exact hy

end Mine

end

section
namespace Mine
open PySem
variable {g : Gx} {c : Cx g} {ρ : Rho} {σ : Sto}

section
variable {Q : AV → Sto → Prop}
theorem cal_len_list {x : AV} {l : List AV} (hx : Seq σ x l) (hz : l.length < 2 ^ 62) (q : Q (.int l.length) σ) : cal c (.builtin "len") [x] σ Q := fun s vs i r => by
  cases r with
  | cons r1 r2 =>
    cases r2
    obtain ⟨a, us, n, rfl, hg, hv⟩ := hx.heap i r1
    have hl : s.heap.IsList a us.toArray := ⟨_, hg, rfl, n, rfl⟩
    have e : us.toArray.size = l.length := by rw [List.size_toArray]; exact hv.length
    exact Calls.call_len_list hl (by omega) ⟨.int l.length, σ, i.toks _, .toks .., by rw [e]; exact .int _ _, q⟩
theorem cal_len_tup {l : List AV} (hz : l.length < 2 ^ 62) (q : Q (.int l.length) σ) : cal c (.builtin "len") [.tup l] σ Q := fun s vs i r => by
  cases r with
  | cons r1 r2 =>
    cases r2
    cases r1 with
    | @tup a us n _ hF hv =>
      have hl : PyProof.Rows.IsTup s.heap a us.toArray := ⟨_, (fz_eq.mp hF).2.2, rfl, n, rfl⟩
      have e : us.toArray.size = l.length := by rw [List.size_toArray]; exact hv.length
      exact PyProof.Rows.len_tuple hl (by omega) ⟨.int l.length, σ, i.toks _, .toks .., by rw [e]; exact .int _ _, q⟩
theorem cal_range1 {n : Int} (q : Q (.rng 0 n) σ) : cal c (.type "range") [.int n] σ Q := fun s vs i r => by
  cases r with
  | cons r1 r2 =>
    cases r2; cases r1
    have hn := i.fresh (Nat.le_refl s.heap.objs.size)
    exact call_range_1 ⟨_, σ, i.keeps (t := s.toks + 1 + 1) (push_keeps _ _), .keeps (t := s.toks + 1 + 1) (push_keeps _ _), .rng (fz_eq.mpr ⟨hn.1, hn.2, Heap.get?_push_size _ rfl⟩), q⟩
theorem cal_range2 {a b : Int} (q : Q (.rng a b) σ) : cal c (.type "range") [.int a, .int b] σ Q := fun s vs i r => by
  cases r with
  | cons r1 r2 =>
    cases r2 with
    | cons r2 r3 =>
      cases r3; cases r1; cases r2
      have hn := i.fresh (Nat.le_refl s.heap.objs.size)
      exact call_range_2 ⟨_, σ, i.keeps (t := s.toks + 1) (push_keeps _ _), .keeps (t := s.toks + 1) (push_keeps _ _), .rng (fz_eq.mpr ⟨hn.1, hn.2, Heap.get?_push_size _ rfl⟩), q⟩
theorem cal_max {a b : Int} (hh : c.A.handled = none) (q : Q (.int (max a b)) σ) : cal c (.builtin "max") [.int a, .int b] σ Q := fun s vs i r => by
  cases r with
  | cons r1 r2 =>
    cases r2 with
    | cons r2 r3 =>
      cases r3; cases r1; cases r2
      refine max_two_ints hh fun h' tk hk => ⟨.int (max a b), σ, i.keeps hk, .keeps hk, ?_, q⟩
      by_cases h : b > a
      · rw [if_pos h, show max a b = b by omega]; exact .int _ _
      · rw [if_neg h, show max a b = a by omega]; exact .int _ _
theorem cal_isStr {x : Str} (q : Q (.bool true) σ) : cal c (.builtin "isinstance") [.str x, .raw (.type "str")] σ Q := fun s vs i r => by
  cases r with
  | cons r1 r2 =>
    cases r2 with
    | cons r2 r3 =>
      cases r3; cases r1; cases r2
      exact PyProof.Rows.call_isinstance_yes (Tx := "str") (typeIs_str s x _) (by kernel_rfl) (by rw [isSubtype_type]; kernel_rfl) ⟨_, σ, i, .refl .., .bool _, q⟩
end

mutual
def plain : AV → Bool
  | .none => true
  | .bool _ => true
  | .int _ => true
  | .str _ => true
  | .tup l => plainL l
  | _ => false
def plainL : List AV → Bool
  | [] => true
  | x :: r => plain x && plainL r
end
mutual
def eqA : AV → AV → Bool
  | .none, .none => true
  | .bool a, .bool b => a == b
  | .int a, .int b => a == b
  | .str a, .str b => a == b
  | .bool a, .int b => (if a then 1 else 0) == b
  | .int a, .bool b => a == (if b then 1 else 0)
  | .tup a, .tup b => eqL a b
  | _, _ => false
def eqL : List AV → List AV → Bool
  | [], [] => true
  | x :: r, y :: t => eqA x y && eqL r t
  | _, _ => false
end
mutual
def deep : AV → Nat
  | .tup l => deepL l + 1
  | _ => 0
def deepL : List AV → Nat
  | [] => 0
  | x :: r => max (deep x) (deepL r)
end
mutual
theorem eqA_refl : ∀ {x : AV}, plain x = true → eqA x x = true
  | .none, _ => rfl
  | .bool b, _ => by unfold eqA; simp
  | .int b, _ => by unfold eqA; simp
  | .str b, _ => by unfold eqA; simp
  | .tup l, h => by unfold eqA; exact eqL_refl h
  | .list _, h => by cases h
  | .dict _, h => by cases h
  | .rng _ _, h => by cases h
  | .obj _, h => by cases h
  | .raw _, h => by cases h
theorem eqL_refl : ∀ {l : List AV}, plainL l = true → eqL l l = true
  | [], _ => rfl
  | x :: r, h => by
    unfold plainL at h
    rw [Bool.and_eq_true] at h
    unfold eqL
    rw [eqA_refl h.1, eqL_refl h.2]; rfl
end
mutual
theorem Rep.inj {w : World} {F : Fz} : ∀ {v : Value} {x y : AV}, Rep w F v x → plain x = true → Rep w F v y → plain y = true → x = y
  | _, _, _, .none, _, r, p => by cases r <;> first | rfl | cases p
  | _, _, _, .bool _, _, r, p => by cases r <;> first | rfl | cases p
  | _, _, _, .int _ _, _, r, p => by cases r <;> first | rfl | cases p
  | _, _, _, .str _ _, _, r, p => by cases r <;> first | rfl | cases p
  | _, _, _, .tup (vs := vs) h hl, p, r, p' => by
    cases r with
    | @tup _ us k l' h' hl' =>
      rw [h] at h'
      injection h' with h'
      have := congrArg Obj.data h'
      injection this with this
      have hvu : vs = us := by simpa using this
      subst hvu
      rw [RepL.inj hl p hl' p']
    | list _ _ => cases p'
    | dict _ _ _ => cases p'
    | rng _ => cases p'
    | obj _ => cases p'
    | raw _ => cases p'
  | _, _, _, .list _ _, p, _, _ => by cases p
  | _, _, _, .dict _ _ _, p, _, _ => by cases p
  | _, _, _, .rng _, p, _, _ => by cases p
  | _, _, _, .obj _, p, _, _ => by cases p
  | _, _, _, .raw _, p, _, _ => by cases p
theorem RepL.inj {w : World} {F : Fz} : ∀ {vs : List Value} {l l' : List AV}, RepL w F vs l → plainL l = true → RepL w F vs l' → plainL l' = true → l = l'
  | _, _, _, .nil, _, r, _ => by cases r; rfl
  | _, _, _, .cons h r, p, r', p' => by
    cases r' with
    | cons h' t' =>
      unfold plainL at p p'
      rw [Bool.and_eq_true] at p p'
      rw [Rep.inj h p.1 h' p'.1, RepL.inj r p.2 t' p'.2]
end
theorem deepL_get {l : List AV} {x : AV} {i : Nat} (h : l[i]? = some x) : deep x ≤ deepL l := by
  induction l generalizing i with
  | nil => simp at h
  | cons y r ih =>
    unfold deepL
    cases i with
    | zero => simp at h; subst h; omega
    | succ i => have := ih (by simpa using h); omega
theorem plainL_get {l : List AV} {x : AV} {i : Nat} (hp : plainL l = true) (h : l[i]? = some x) : plain x = true := by
  induction l generalizing i with
  | nil => simp at h
  | cons y r ih =>
    unfold plainL at hp
    rw [Bool.and_eq_true] at hp
    cases i with
    | zero => simp at h; subst h; exact hp.1
    | succ i => exact ih hp.2 (by simpa using h)
theorem eqL_all : ∀ (a b : List AV), eqL a b = ((List.range (min a.length b.length)).all (fun j => eqA (a.getD j .none) (b.getD j .none)) && a.length == b.length)
  | [], [] => rfl
  | [], y :: t => by unfold eqL; simp
  | x :: r, [] => by unfold eqL; simp
  | x :: r, y :: t => by
    unfold eqL
    rw [eqL_all r t]
    have e : min (x :: r).length (y :: t).length = min r.length t.length + 1 := by simp only [List.length_cons]; omega
    rw [e, List.range_succ_eq_map, List.all_cons, List.all_map]
    have e2 : ((x :: r).length == (y :: t).length) = (r.length == t.length) := by simp
    rw [e2, Bool.and_assoc]
    rfl

open PySem.SeqAt in
theorem eqAt {w : World} {F : Fz} : ∀ (n : Nat) {A : Around} {s : Shared} {v u : Value} {x y : AV}, deep x ≤ n → Rep w F v x → Rep w F u y → plain x = true → plain y = true → (∀ a o, F a = some o → s.heap.get? a = some o) → A.units + n < cLine → EqAt A s v u (eqA x y) := by
  intro n
  induction n with
  | zero =>
    intro A s v u x y hd r1 r2 p1 p2 hF hu
    cases r1 with
    | tup _ _ => unfold deep at hd; omega
    | list _ _ => cases p1
    | dict _ _ _ => cases p1
    | rng _ => cases p1
    | obj _ => cases p1
    | raw _ => cases p1
    | none =>
      cases r2 with
      | none => exact EqAt.same _
      | bool b => exact EqAt.none_bool b
      | int i t => exact EqAt.none_int i t
      | str x t => exact EqAt.none_str x t
      | @tup a vs m l h hl => exact EqAt.none_tuple (items := vs.toArray) ⟨_, hF _ _ h, rfl, m, rfl⟩ hu
      | list _ _ => cases p2
      | dict _ _ _ => cases p2
      | rng _ => cases p2
      | obj _ => cases p2
      | raw _ => cases p2
    | bool a =>
      cases r2 with
      | none => exact EqAt.bool_none a
      | bool b => exact EqAt.bool_bool a b
      | int i t => exact EqAt.bool_int a i t
      | str x t => exact EqAt.bool_str a x t
      | @tup _ vs m l h hl => exact EqAt.bool_tuple (items := vs.toArray) a ⟨_, hF _ _ h, rfl, m, rfl⟩ hu
      | list _ _ => cases p2
      | dict _ _ _ => cases p2
      | rng _ => cases p2
      | obj _ => cases p2
      | raw _ => cases p2
    | int a t =>
      cases r2 with
      | none => exact EqAt.int_none a t
      | bool b => exact EqAt.int_bool a t b
      | int i t' => exact EqAt.int_int a t i t'
      | str x t' => exact EqAt.int_str a t x t'
      | @tup _ vs m l h hl => exact EqAt.int_tuple (items := vs.toArray) a t ⟨_, hF _ _ h, rfl, m, rfl⟩ hu
      | list _ _ => cases p2
      | dict _ _ _ => cases p2
      | rng _ => cases p2
      | obj _ => cases p2
      | raw _ => cases p2
    | str a t =>
      cases r2 with
      | none => exact EqAt.str_none a t
      | bool b => exact EqAt.str_bool a t b
      | int i t' => exact EqAt.str_int a t i t'
      | str x t' => exact EqAt.str_str a t x t'
      | @tup _ vs m l h hl => exact EqAt.str_tuple (items := vs.toArray) a t ⟨_, hF _ _ h, rfl, m, rfl⟩ hu
      | list _ _ => cases p2
      | dict _ _ _ => cases p2
      | rng _ => cases p2
      | obj _ => cases p2
      | raw _ => cases p2
  | succ n ih =>
    intro A s v u x y hd r1 r2 p1 p2 hF hu
    by_cases hx : deep x ≤ n
    · exact ih hx r1 r2 p1 p2 hF (by omega)
    cases r1 with
    | none => exact absurd (Nat.zero_le _) hx
    | bool _ => exact absurd (Nat.zero_le _) hx
    | int _ _ => exact absurd (Nat.zero_le _) hx
    | str _ _ => exact absurd (Nat.zero_le _) hx
    | list _ _ => cases p1
    | dict _ _ _ => cases p1
    | rng _ => cases p1
    | obj _ => cases p1
    | raw _ => cases p1
    | @tup a vs m l h hl =>
      have ht : s.heap.IsTuple a vs.toArray := ⟨_, hF _ _ h, rfl, m, rfl⟩
      have hu' : A.units < cLine := by omega
      cases r2 with
      | none => exact EqAt.tuple_none ht hu'
      | bool b => exact EqAt.tuple_bool b ht hu'
      | int i t' => exact EqAt.tuple_int i t' ht hu'
      | str x t' => exact EqAt.tuple_str x t' ht hu'
      | list _ _ => cases p2
      | dict _ _ _ => cases p2
      | rng _ => cases p2
      | obj _ => cases p2
      | raw _ => cases p2
      | @tup b us k l' h' hl' =>
        have ht' : s.heap.IsTuple b us.toArray := ⟨_, hF _ _ h', rfl, k, rfl⟩
        have p1' : plainL l = true := p1
        have p2' : plainL l' = true := p2
        have hdl : deepL l ≤ n := by unfold deep at hd; omega
        have items : ∀ j (h1 : j < vs.toArray.size) (h2 : j < us.toArray.size), EqAt A.in1 s vs.toArray[j] us.toArray[j] (eqA (l.getD j .none) (l'.getD j .none)) := by
          intro j h1 h2
          rw [List.size_toArray] at h1 h2
          obtain ⟨x1, e1, q1⟩ := hl.get' (i := j) (v := vs[j]) (List.getElem?_eq_getElem h1)
          obtain ⟨x2, e2, q2⟩ := hl'.get' (i := j) (v := us[j]) (List.getElem?_eq_getElem h2)
          have g1 : l.getD j .none = x1 := by rw [List.getD_eq_getElem?_getD, e1]; rfl
          have g2 : l'.getD j .none = x2 := by rw [List.getD_eq_getElem?_getD, e2]; rfl
          rw [g1, g2]
          have := ih (A := A.in1) (s := s) (Nat.le_trans (deepL_get e1) hdl) q1 q2 (plainL_get p1' e1) (plainL_get p2' e2) hF (by show A.units + 1 + n < cLine; omega)
          simpa using this
        have e : eqA (.tup l) (.tup l') = ((List.range (min vs.toArray.size us.toArray.size)).all (fun j => eqA (l.getD j .none) (l'.getD j .none)) && vs.toArray.size == us.toArray.size) := by
          show eqL l l' = _
          rw [eqL_all]
          simp only [List.size_toArray, hl.length, hl'.length]
        rw [e]
        by_cases hab : a = b
        · subst hab
          rw [h] at h'
          injection h' with h'
          have hvu : vs = us := by
            have := congrArg Obj.data h'
            injection this with this
            simpa using this
          subst hvu
          rw [← e]
          have : eqA (.tup l) (.tup l') = true := by rw [RepL.inj hl p1' hl' p2']; exact eqA_refl (x := .tup l') p2'
          rw [this]
          exact EqAt.same _
        · exact EqAt.of_refs hab (RcAt.tuples ht ht' hu' items)

end Mine

end

section
namespace Mine
open PySem
variable {g : Gx} {c : Cx g} {ρ : Rho} {σ : Sto}

inductive Kind (σ : Sto) : AV → String → Prop
  | list {l : List AV} : Kind σ (.list l) "list"
  | objL {a : Addr} {l : List AV} : σ a = some (.lst l) → Kind σ (.obj a) "list"
  | tup {l : List AV} : Kind σ (.tup l) "tuple"
  | dict {l : List (AV × AV)} : Kind σ (.dict l) "dict"
  | objD {a : Addr} {l : List (AV × AV)} : σ a = some (.dct l) → Kind σ (.obj a) "dict"
  | str {x : Str} : Kind σ (.str x) "str"
theorem Kind.at {x : AV} {T : String} {s : Shared} {v : Value} (h : Kind σ x T) (i : c.Inv σ s) (r : Rep g.w (c.F σ s) v x) : s.TypeIs v T ∧ ∀ a, v = .ref a → ∃ ob, s.heap.get? a = some ob ∧ ob.dict = Option.none := by
  cases h with
  | list =>
    cases r with
    | list h _ => have e := (fz_eq.mp h).2.2; exact ⟨⟨_, e, rfl⟩, fun b hb => by injection hb with hb; subst hb; exact ⟨_, e, rfl⟩⟩
  | objL ha =>
    cases r
    obtain ⟨vs, n, e, _⟩ := i.objs _ _ ha
    exact ⟨⟨_, e, rfl⟩, fun b hb => by injection hb with hb; subst hb; exact ⟨_, e, rfl⟩⟩
  | tup =>
    cases r with
    | tup h _ => have e := (fz_eq.mp h).2.2; exact ⟨⟨_, e, rfl⟩, fun b hb => by injection hb with hb; subst hb; exact ⟨_, e, rfl⟩⟩
  | dict =>
    cases r with
    | dict h _ _ => have e := (fz_eq.mp h).2.2; exact ⟨⟨_, e, rfl⟩, fun b hb => by injection hb with hb; subst hb; exact ⟨_, e, rfl⟩⟩
  | objD ha =>
    cases r
    obtain ⟨vs, n, e, _⟩ := i.objs _ _ ha
    exact ⟨⟨_, e, rfl⟩, fun b hb => by injection hb with hb; subst hb; exact ⟨_, e, rfl⟩⟩
  | str => cases r; exact ⟨typeIs_str s _ _, fun a h => by cases h⟩

theorem ev_meth {o e : Expr} {rest : List Expr} {name : Str} {apos pos : Pos} {T id : String} {Q : AV → Sto → Prop} (pa : PlainAttrs T) (slot : Slot T name id) (hty : typeOf (.builtin id) = pure (.type "method_descriptor"))
    (h : ev c ρ o σ fun x σ₁ => Kind σ₁ x T ∧ evl c ρ (e :: rest) σ₁ fun xs σ₂ => cal c (.builtin id) (x :: xs) σ₂ Q)
    (hbase : attributeBase o name c.env (eval o c.env) = eval o c.env := by rfl) (hline : (apos.endLine == pos.line) = true := by rfl) (hp : (e :: rest).all noStar = true := by rfl) (hfew : decide ((e :: rest).length < 30) = true := by rfl) :
    ev c ρ (.Call (.Attribute o name apos) (e :: rest) [] pos) σ Q := fun s hs => by
  refine wpAny_Call_method hbase ?_ hline pa slot hty (wpAny_mono (h s hs) (fun ov s₁ ⟨x, σ₁, i₁, e₁, r₁, hk, q₁⟩ => ⟨(hk.at i₁ r₁).1, (hk.at i₁ r₁).2, ?_⟩) fun _ _ e => e)
  · rw [starEach_plain hp]
    simp only [Bool.and_eq_true]
    refine ⟨⟨?_, rfl⟩, ?_⟩
    · rw [List.all_map]; simp
    · simpa using hfew
  · have := callWith_any (pos := pos) (first := [ov]) (fx := [x]) (.builtin id) hp (hs.ev i₁ e₁) (.cons r₁ .nil) q₁
    exact wpAny_mono this (fun v s₃ ⟨z, σ₃, i₃, e₃, r₃, q₃⟩ => ⟨z, σ₃, i₃, e₁.trans e₃, r₃, q₃⟩) fun _ _ e => e

theorem store_upd {s : Shared} {h' : Heap} {tk : Nat} {a : Addr} {x y : AObj} (i : c.Inv σ s) (ha : σ a = some x) (hs : Heap.SameBut a s.heap h') (hr : ObjRep g.w (c.F σ s) h' a y) :
    c.Inv (σ.set a y) { s with heap := h', toks := tk } ∧ c.Ev σ s (σ.set a y) { s with heap := h', toks := tk } := by
  have hao : a ∉ c.own := fun hm => by rw [i.off a hm] at ha; cases ha
  have eF : fz h' c.own (σ.set a y) = fz s.heap c.own σ := by
    funext b
    by_cases hb : b = a
    · subst hb; simp [fz, Sto.set_self, ha]
    · simp only [fz, Sto.set_ne hb, hs.2 b hb]
  refine ⟨⟨fun b o e => by show fz h' c.own (σ.set a y) b = _; rw [eF]; exact i.keep b o e, fun b z e => ?_, fun b hb => ?_, fun b hb => ?_⟩, ⟨⟨_, _, rfl⟩, by show (fz s.heap c.own σ).le (fz h' c.own (σ.set a y)); rw [eF]; exact .refl _, fun b hb o e => (hs.2 b (by rintro rfl; exact hao hb)).trans e⟩⟩
  · show ObjRep g.w (fz h' c.own (σ.set a y)) h' b z
    rw [eF]
    by_cases hb : b = a
    · subst hb; rw [Sto.set_self] at e; injection e with e; subst e; exact hr
    · rw [Sto.set_ne hb] at e; exact (i.objs b z e).mono (.refl _) fun o e => (hs.2 b hb).trans e
  · rw [Sto.set_ne (by rintro rfl; exact hao hb)]; exact i.off b hb
  · obtain ⟨o, ho⟩ := i.live b hb; exact ⟨o, (hs.2 b (by rintro rfl; exact hao hb)).trans ho⟩

section
variable {Q : AV → Sto → Prop}
theorem cal_append {a : Addr} {l : List AV} {x : AV} (ha : σ a = some (.lst l)) (hz : l.length ≤ sizeLine) (q : Q .none (σ.set a (.lst (l ++ [x])))) : cal c (.builtin "list.append") [.obj a, x] σ Q := fun s vs i r => by
  cases r with
  | cons r1 r2 =>
    cases r2 with
    | @cons u _ _ _ r2 r3 =>
      cases r3; cases r1
      obtain ⟨us, n, e, hr⟩ := i.objs a _ ha
      refine wpAny_list_append_plain (items := us.toArray) ⟨n, e⟩ (fun h' hp hs => ?_) (by rw [List.size_toArray, hr.length]; exact hz)
      obtain ⟨n', hn'⟩ := hp
      obtain ⟨h1, h2⟩ := store_upd (tk := s.toks) (y := .lst (l ++ [x])) i ha hs ⟨us ++ [u], n', by rw [hn']; simp, hr.append (.cons r2 .nil)⟩
      exact ⟨.none, _, h1, h2, .none, q⟩
noncomputable def eqV (w : World) (F : Fz) (x : AV) (v : Value) : Bool := @decide (∃ y, Rep w F v y ∧ plain y = true ∧ eqA y x = true) (Classical.propDecidable _)
theorem eqV_of {w : World} {F : Fz} {x y : AV} {v : Value} (r : Rep w F v y) (p : plain y = true) : eqV w F x v = eqA y x := by
  unfold eqV
  by_cases h : eqA y x = true
  · rw [h]; exact @decide_eq_true _ (Classical.propDecidable _) ⟨y, r, p, h⟩
  · have h' : eqA y x = false := by simpa using h
    rw [h']
    refine @decide_eq_false _ (Classical.propDecidable _) ?_
    rintro ⟨z, r', p', h2⟩
    rw [Rep.inj r' p' r p] at h2
    exact h h2
theorem any_eqV {w : World} {F : Fz} {x : AV} : ∀ {vs : List Value} {l : List AV}, RepL w F vs l → plainL l = true → vs.any (eqV w F x) = l.any (eqA · x)
  | _, _, .nil, _ => rfl
  | _, _, .cons h r, p => by
    unfold plainL at p
    rw [Bool.and_eq_true] at p
    rw [List.any_cons, List.any_cons, eqV_of h p.1, any_eqV r p.2]
theorem count_eqV {w : World} {F : Fz} {x : AV} : ∀ {vs : List Value} {l : List AV}, RepL w F vs l → plainL l = true → vs.countP (eqV w F x) = l.countP (eqA · x)
  | _, _, .nil, _ => rfl
  | _, _, .cons h r, p => by
    unfold plainL at p
    rw [Bool.and_eq_true] at p
    rw [List.countP_cons, List.countP_cons, eqV_of h p.1, count_eqV r p.2]
theorem fz_sub {s : Shared} : ∀ a o, c.F σ s a = some o → s.heap.get? a = some o := fun a o h => (fz_eq.mp h).2.2
theorem items_eq {n : Nat} {s : Shared} {vs : List Value} {l : List AV} {u : Value} {x : AV} {A : Around} (hr : RepL g.w (c.F σ s) vs l) (pl : plainL l = true) (dl : deepL l ≤ n) (ru : Rep g.w (c.F σ s) u x) (px : plain x = true) (hu : A.units + n < cLine) :
    ∀ y, y ∈ vs.toArray → PySem.SeqAt.EqAt A s y u (eqV g.w (c.F σ s) x y) := by
  intro y hy
  obtain ⟨i, hi⟩ := List.mem_iff_getElem?.mp (by simpa using hy)
  obtain ⟨z, hz, rz⟩ := hr.get' hi
  rw [eqV_of rz (plainL_get pl hz)]
  exact eqAt n (Nat.le_trans (deepL_get hz) dl) rz ru (plainL_get pl hz) px fz_sub hu
theorem cal_count {x y : AV} {l : List AV} (hx : Seq σ x l) (pl : plainL l = true) (dl : deepL l ≤ 4) (py : plain y = true) (hu : c.A.units + 8 < cLine) (q : Q (.int (l.countP (eqA · y) : Nat)) σ) : cal c (.builtin "list.count") [x, y] σ Q := fun s vs i r => by
  cases r with
  | cons r1 r2 =>
    cases r2 with
    | @cons u _ _ _ r2 r3 =>
      cases r3
      obtain ⟨a, us, n, rfl, hg, hv⟩ := hx.heap i r1
      refine call_meets F.slot_list_count ⟨_, hg, rfl⟩ F.entry_list_count (F.args_list_count_2 _ _) (PySem.SeqAt.list_countAt a us.toArray n Option.none #[] u (eqV g.w (c.F σ s) y)) ⟨hg, items_eq hv pl dl r2 py (by show c.A.units + 1 + 4 < cLine; omega), ?_⟩
      have e : us.toArray.toList.countP (eqV g.w (c.F σ s) y) = l.countP (eqA · y) := by simpa using count_eqV hv pl
      rw [e]
      exact ⟨_, σ, i.toks _, .toks .., .int _ _, q⟩
theorem cmp_notin_tup {x : AV} {l : List AV} (pl : plainL l = true) (dl : deepL l ≤ 4) (px : plain x = true) (hu : c.A.units + 8 < cLine) (q : Q (.bool (!l.any (eqA · x))) σ) : op2 c (compareOp .NotIn) x (.tup l) σ Q := fun s u v i r1 r2 => by
  cases r2 with
  | @tup a us n _ h hl =>
    refine PySem.SeqAt.notIn_tupleAt (l := a) (items := us.toArray) (eqV g.w (c.F σ s) x) ⟨_, fz_sub _ _ h, rfl, n, rfl⟩ (items_eq hl pl dl r1 px (by show c.A.units + 1 + 4 < cLine; omega)) ?_
    have e : us.toArray.any (eqV g.w (c.F σ s) x) = l.any (eqA · x) := by rw [← Array.any_toList]; simpa using any_eqV hl pl
    rw [e]
    exact ⟨_, σ, i, .refl .., .bool _, q⟩
theorem op_addl {x y : AV} {l m : List AV} (hx : Seq σ x l) (hy : Seq σ y m) (hz : l.length + m.length ≤ sizeLine) (q : Made Q (l ++ m) σ) : op2 c (binaryOp .Add) x y σ Q := fun s u v i r1 r2 => by
  obtain ⟨a, us, n, rfl, hg, hv⟩ := hx.heap i r1
  obtain ⟨b, ws, k, rfl, hg', hw⟩ := hy.heap i r2
  refine P.add_list (items := us.toArray) (items2 := ws.toArray) hg hg' ?_ (by rw [List.size_toArray, List.size_toArray, hv.length, hw.length]; exact hz)
  exact made_list (tk := s.toks) (vs := us ++ ws) (n := 0) i (push_keeps _ _) (Nat.le_refl _) (by rw [show us.toArray ++ ws.toArray = (us ++ ws).toArray by simp]; exact Heap.get?_push_size _ rfl) (hv.append hw) q
end

theorem es_setitem {o i : Expr} {pos' : Pos} {value : Expr} {pos : Pos} {Q : AFl → Rho → Sto → Prop} (h : ev c ρ value σ fun z σ₁ => ev c ρ o σ₁ fun x σ₂ => ev c ρ i σ₂ fun y σ₃ => op3u c (fun a b d => setItem a b d) x y z σ₃ fun σ₄ => Q .next ρ σ₄)
    (hw : swapsWith value (some (.Subscript o i pos')) pos.line c.env = pure false := by rfl) : es c ρ (exec (.Assign [.Subscript o i pos'] value pos) c.env) σ Q := fun s hs => by
  refine wpAny_Assign_Subscript (wpAny_mono (h s hs) (fun vz s₁ ⟨z, σ₁, i₁, e₁, r₁, q₁⟩ => ?_) fun _ _ e => e) hw
  refine wpAny_mono (q₁ s₁ (hs.ev i₁ e₁)) (fun vx s₂ ⟨x, σ₂, i₂, e₂, r₂, q₂⟩ => ?_) fun _ _ e => e
  refine wpAny_mono (q₂ s₂ (hs.ev i₂ (e₁.trans e₂))) (fun vy s₃ ⟨y, σ₃, i₃, e₃, r₃, q₃⟩ => ?_) fun _ _ e => e
  refine wpAny_mono (q₃ s₃ vx vy vz i₃ (r₂.mono e₃.grow) r₃ (r₁.mono (e₂.grow.trans e₃.grow))) (fun _ s₄ ⟨_, σ₄, i₄, e₄, _, q₄⟩ => ?_) fun _ _ e => e
  have e := ((e₁.trans e₂).trans e₃).trans e₄
  exact ⟨_, ρ, σ₄, hs.ev i₄ e, e.toS hs.fr.sub, .next, q₄⟩
theorem es_expr {e pos} {Q : AFl → Rho → Sto → Prop} (h : ev c ρ e σ fun x σ' => (match x with | .none => True | .bool _ => True | .int _ => True | .str _ => True | _ => False) ∧ Q .next ρ σ')
    (hw : swapsWith e none pos.line c.env = pure false := by rfl) : es c ρ (exec (.Expr e pos) c.env) σ Q := fun s hs => by
  have hi : interactive c.env = false := by
    unfold interactive
    rw [hs.fr.kind]; rfl
  refine wpAny_Expr (wpAny_mono (h s hs) (fun v s₁ ⟨x, σ₁, i₁, e₁, r₁, hx, q₁⟩ => ?_) fun _ _ e => e) hi hw
  have post : ∃ fl ρ' σ', St c ρ' σ' s₁ ∧ EvS c σ s σ' s₁ ∧ RepF g.w (c.F σ' s₁) .next fl ∧ Q fl ρ' σ' := ⟨_, ρ, σ₁, hs.ev i₁ e₁, e₁.toS hs.fr.sub, .next, q₁⟩
  cases r₁ <;> first | exact post | exact hx.elim

end Mine

end

section
namespace Mine
open PySem
variable {g : Gx} {c : Cx g} {ρ : Rho} {σ : Sto}

section
variable {Q : AV → Sto → Prop}
end

def evO (c : Cx g) (ρ : Rho) : Option Expr → Sto → (Option Int → Sto → Prop) → Prop
  | Option.none, σ, Q => Q Option.none σ
  | some e, σ, Q => ev c ρ e σ fun x σ₁ => ∃ i, x = .int i ∧ Q (some i) σ₁
theorem evO_sound {e : Option Expr} {Q : Option Int → Sto → Prop} (h : evO c ρ e σ Q) : gv c ρ (fun _ v o => IsPart v o) (evalPart e c.env) σ Q := fun s hs => by
  cases e with
  | none => exact wpAny_pure ⟨_, σ, hs.inv, .refl .., .none, h⟩
  | some e =>
    refine wpAny_mono (h s hs) (fun v s₁ ⟨x, σ₁, i₁, e₁, r₁, i, hx, q⟩ => ?_) fun _ _ e => e
    subst hx
    cases r₁
    exact ⟨_, σ₁, i₁, e₁, .int _ _, q⟩
def cut {α : Type} (l : List α) (lo hi : Option Int) : List α := (l.drop (lo.elim 0 (clipAt l.length))).take (hi.elim l.length (clipAt l.length) - lo.elim 0 (clipAt l.length))
theorem cut_pick {us : List Value} {lo hi : Option Int} : slicePick us.toArray lo hi none = (cut us lo hi).toArray := by
  rw [slicePick_plain]; simp [cut]
theorem RepL.cut {w : World} {F : Fz} {us : List Value} {l : List AV} (h : RepL w F us l) (lo hi : Option Int) : RepL w F (cut us lo hi) (cut l lo hi) := by
  unfold Mine.cut; rw [h.length]; exact (h.drop _).take _
theorem ev_slice {value : Expr} {lower upper : Option Expr} {p pos : Pos} {Q : AV → Sto → Prop}
    (h : ev c ρ value σ fun x σ₁ => evO c ρ lower σ₁ fun lo σ₂ => evO c ρ upper σ₂ fun hi σ₃ => ∃ l, Seq σ₃ x l ∧ l.length ≤ sizeLine ∧ Made Q (cut l lo hi) σ₃)
    (ht : ∀ o r, letTemporaryGo value o r = pure () := by intro _ _; rfl) : ev c ρ (.Subscript value (.Slice lower upper none p) pos) σ Q := fun s hs => by
  refine wpAny_Subscript_list_slice (wpAny_mono (h s hs) (fun a s₁ ⟨x, σ₁, i₁, e₁, r₁, q₁⟩ => ?_) fun _ _ e => e) ht
  refine wpAny_mono (evO_sound q₁ s₁ (hs.ev i₁ e₁)) (fun vl s₂ ⟨lo, σ₂, i₂, e₂, r₂, q₂⟩ => ?_) fun _ _ e => e
  refine wpAny_mono (evO_sound q₂ s₂ (hs.ev i₂ (e₁.trans e₂))) (fun vu s₃ ⟨hi, σ₃, i₃, e₃, r₃, l, hx, hz, q₃⟩ => ?_) fun _ _ e => e
  obtain ⟨b, us, n, rfl, hg, hv⟩ := hx.heap i₃ (r₁.mono (e₂.grow.trans e₃.grow))
  refine ⟨b, us.toArray, lo, hi, rfl, ⟨_, hg, rfl, n, rfl⟩, by rw [List.size_toArray, hv.length]; exact hz, r₂, r₃, ?_⟩
  rw [cut_pick]
  obtain ⟨y, σ', a1, a2, a3, a4⟩ := made_list (tk := s₃.toks) (D := s₃.heap.objs.size + 1) (h' := (s₃.heap.push { cls := .type "slice", data := .fields #[vl, vu, .none] }).push { cls := .type "list", data := .seq (cut us lo hi).toArray }) (n := 0) i₃ (fun b o e => push_keeps _ _ _ _ (push_keeps _ _ _ _ e)) (Nat.le_succ _)
    (by have := Heap.get?_push_size (s₃.heap.push { cls := .type "slice", data := .fields #[vl, vu, .none] }) (o := lstO (cut us lo hi) 0) rfl; rw [Heap.size_push] at this; exact this) (hv.cut lo hi) q₃
  exact ⟨y, σ', a1, ((e₁.trans e₂).trans e₃).trans a2, a3, a4⟩

theorem foldl_cps (x : Array Nat) : ∀ (n : Nat) (acc : Array Nat), ((List.replicate n x).foldl (· ++ ·) acc).size = acc.size + n * x.size
  | 0, acc => by simp
  | n + 1, acc => by rw [List.replicate_succ, List.foldl_cons, foldl_cps x n, Array.size_append, Nat.add_mul]; omega
theorem mul_len {x : Str} {n : Int} : (Txt.mul x n).length ≤ x.length * n.toNat := by
  unfold Txt.mul
  by_cases h1 : n < 1
  · rw [if_pos h1]; exact Nat.zero_le _
  · rw [if_neg h1]
    by_cases h2 : (n == 1 || x.length == 0) = true
    · rw [if_pos h2]
      have : 1 ≤ n.toNat := by omega
      exact Nat.le_mul_of_pos_right _ this
    · rw [if_neg h2]
      show ((List.replicate n.toNat x.cps).foldl (· ++ ·) #[]).size ≤ _
      rw [foldl_cps]
      simp [Str.length, Nat.mul_comm]
theorem op_muls {x : Str} {n : Int} {Q : AV → Sto → Prop} (hx : x.length ≤ 1024) (h0 : -1024 ≤ n) (hn : n ≤ 1024) (q : Q (.str (Txt.mul x n)) σ) : op2 c (binaryOp .Mult) (.str x) (.int n) σ Q := fun s u v i r1 r2 => by
  cases r1; cases r2
  have hle : x.length * n.toNat ≤ 1024 * 1024 := Nat.mul_le_mul hx (by omega)
  refine SB.mul ⟨?_, fun h1 h2 h3 => ?_, fun h1 h2 => ?_⟩ fun t' k => ⟨_, σ, i.toks _, .toks .., .str _ _, q⟩
  · rw [Bool.or_eq_false_iff]; constructor <;> (rw [decide_eq_false_iff_not]; omega)
  · have h4 : (x.length : Int) * n ≤ 1024 * 1024 := by
      have e : ((x.length * n.toNat : Nat) : Int) = (x.length : Int) * n := by rw [Int.natCast_mul, Int.toNat_of_nonneg (by omega)]
      omega
    have h5 : 1024 ≤ (2 ^ 63 - 1) / n := by
      rw [Int.le_ediv_iff_mul_le (by omega)]
      have : (1024 : Int) * n ≤ 1024 * 1024 := Int.mul_le_mul_of_nonneg_left hn (by decide)
      omega
    omega
  · unfold Builtin.Str.tooLong
    rw [decide_eq_false_iff_not, sizeLine_eq]
    omega

theorem Sto.del_self {σ : Sto} {a : Addr} : σ.del a a = Option.none := if_pos rfl
theorem Sto.del_ne {σ : Sto} {a b : Addr} (h : b ≠ a) : σ.del a b = σ b := if_neg h
theorem freeze_le {h : Heap} {own : List Addr} {a : Addr} : (fz h own σ).le (fz h own (σ.del a)) := fun b o e => by
  obtain ⟨e1, e2, e3⟩ := fz_eq.mp e
  refine fz_eq.mpr ⟨?_, e2, e3⟩
  by_cases hb : b = a
  · subst hb; exact Sto.del_self
  · exact (Sto.del_ne hb).trans e1
theorem Inv.freeze {w : World} {H₀ : Heap} {own : List Addr} {s : Shared} (i : Inv w H₀ own σ s) (a : Addr) : Inv w H₀ own (σ.del a) s := by
  refine ⟨fun b o e => freeze_le b o (i.keep b o e), fun b y e => ?_, fun b hb => ?_, i.live⟩
  · have hb : b ≠ a := by rintro rfl; rw [Sto.del_self] at e; cases e
    rw [Sto.del_ne hb] at e
    exact (i.objs b y e).mono freeze_le fun _ e => e
  · by_cases h : b = a
    · subst h; exact Sto.del_self
    · exact (Sto.del_ne h).trans (i.off b hb)
inductive Frz : AObj → AV → Prop
  | lst (l : List AV) : Frz (.lst l) (.list l)
  | dct (l : List (AV × AV)) : Frz (.dct l) (.dict l)
theorem Inv.frozen {w : World} {H₀ : Heap} {own : List Addr} {s : Shared} (i : Inv w H₀ own σ s) {a : Addr} {x : AObj} {y : AV} (ha : σ a = some x) (hf : Frz x y) : Rep w (fz s.heap own (σ.del a)) (.ref a) y := by
  have hao : a ∉ own := fun hm => by rw [i.off a hm] at ha; cases ha
  have := i.objs a x ha
  cases hf with
  | lst l =>
    obtain ⟨vs, n, e, r⟩ := this
    exact .list (fz_eq.mpr ⟨Sto.del_self, hao, e⟩) (r.mono freeze_le)
  | dct l =>
    obtain ⟨es, n, e, r, nd⟩ := this
    exact .dict (fz_eq.mpr ⟨Sto.del_self, hao, e⟩) (r.mono freeze_le) nd
inductive FrzR (a : Addr) (y : AV) : Rho → Rho → Prop
  | nil : FrzR a y [] []
  | hit {x : Str} {r r' : Rho} : FrzR a y r r' → FrzR a y ((x, some (.obj a)) :: r) ((x, some y) :: r')
  | skip {p : Str × Option AV} {r r' : Rho} : FrzR a y r r' → FrzR a y (p :: r) (p :: r')
theorem FrzR.names {a : Addr} {y : AV} {r r' : Rho} (h : FrzR a y r r') : r'.map (·.1) = r.map (·.1) := by
  induction h with
  | nil => rfl
  | hit _ ih => simp [ih]
  | skip _ ih => simp [ih]
theorem FrzR.get {a : Addr} {y : AV} {r r' : Rho} (h : FrzR a y r r') {x : Str} {v : AV} (hm : (x, some v) ∈ r') : (x, some v) ∈ r ∨ (v = y ∧ (x, some (.obj a)) ∈ r) := by
  induction h with
  | nil => exact .inl hm
  | hit _ ih =>
    rcases List.mem_cons.mp hm with e | hm
    · injection e with e1 e2; injection e2 with e2; subst e1; exact .inr ⟨e2, List.mem_cons_self⟩
    · exact (ih hm).imp (List.mem_cons_of_mem _) fun ⟨q1, q2⟩ => ⟨q1, List.mem_cons_of_mem _ q2⟩
  | skip _ ih =>
    rcases List.mem_cons.mp hm with rfl | hm
    · exact .inl List.mem_cons_self
    · exact (ih hm).imp (List.mem_cons_of_mem _) fun ⟨q1, q2⟩ => ⟨q1, List.mem_cons_of_mem _ q2⟩
theorem St.freeze {ρ' : Rho} {s : Shared} (h : St c ρ σ s) {a : Addr} {x : AObj} {y : AV} (ha : σ a = some x) (hf : Frz x y) (hr : FrzR a y ρ ρ') : St c ρ' (σ.del a) s := by
  have le : (c.F σ s).le (c.F (σ.del a) s) := freeze_le
  have hy : Rep g.w (c.F (σ.del a) s) (.ref a) y := h.inv.frozen ha hf
  refine ⟨h.inv.freeze a, hr.names ▸ h.fr, ?_, fun z b hk hb => ?_⟩
  · obtain ⟨m, hn, hm⟩ := h.ns
    refine ⟨m, hn, fun z v hz hk => ?_⟩
    rcases hr.get hz with hz | ⟨rfl, hz⟩
    · obtain ⟨u, h1, h2⟩ := hm z v hz hk; exact ⟨u, h1, h2.mono le⟩
    · obtain ⟨u, h1, h2⟩ := hm z _ hz hk; cases h2; exact ⟨_, h1, hy⟩
  · obtain ⟨vo, h1, h2⟩ := h.cl z b hk hb
    refine ⟨vo, h1, fun v hz => ?_⟩
    rcases hr.get hz with hz | ⟨rfl, hz⟩
    · obtain ⟨u, h3, h4⟩ := h2 v hz; exact ⟨u, h3, h4.mono le⟩
    · obtain ⟨u, h3, h4⟩ := h2 _ hz; cases h4; exact ⟨_, h3, hy⟩
theorem es_freeze {ρ' : Rho} {t : Sem Flow} {Q : AFl → Rho → Sto → Prop} {a : Addr} {x : AObj} {y : AV} (ha : σ a = some x) (hf : Frz x y) (hr : FrzR a y ρ ρ') (h : es c ρ' t (σ.del a) Q) : es c ρ t σ Q := fun s hs =>
  wpAny_mono (h s (hs.freeze ha hf hr)) (fun f s' ⟨fl, ρ₁, σ₁, a1, a2, a3, a4⟩ => ⟨fl, ρ₁, σ₁, a1, ⟨a2.same, (freeze_le (a := a)).trans a2.grow, a2.hid⟩, a3, a4⟩) fun _ _ e => e
theorem es_ret_freeze {e pos} {Q : AFl → Rho → Sto → Prop} (h : ev c ρ e σ fun x σ' => ∃ a o y, x = .obj a ∧ σ' a = some o ∧ Frz o y ∧ Q (.ret y) ρ (σ'.del a)) : es c ρ (exec (.Return (some e) pos) c.env) σ Q := fun s hs =>
  wpAny_Return_some (wpAny_mono (h s hs) (fun v s₁ ⟨x, σ₁, i₁, e₁, r₁, a, o, y, hx, ha, hf, q⟩ => by
    subst hx
    cases r₁
    have st₁ := hs.ev i₁ e₁
    have le : (c.F σ₁ s₁).le (c.F (σ₁.del a) s₁) := freeze_le
    have st₂ : St c ρ (σ₁.del a) s₁ := by
      refine ⟨i₁.freeze a, hs.fr, ?_, fun z b hk hb => ?_⟩
      · obtain ⟨m, hn, hm⟩ := st₁.ns
        exact ⟨m, hn, fun z v hz hk => let ⟨u, h1, h2⟩ := hm z v hz hk; ⟨u, h1, h2.mono le⟩⟩
      · obtain ⟨vo, h1, h2⟩ := st₁.cl z b hk hb
        exact ⟨vo, h1, fun v hz => let ⟨u, h3, h4⟩ := h2 v hz; ⟨u, h3, h4.mono le⟩⟩
    have e₂ := e₁.toS hs.fr.sub
    exact ⟨_, ρ, σ₁.del a, st₂, ⟨e₂.same, e₂.grow.trans le, e₂.hid⟩, .ret (i₁.frozen ha hf), q⟩) fun _ _ e => e)

end Mine

end

section
namespace Mine
open PySem
variable {g : Gx} {c : Cx g} {ρ : Rho} {σ : Sto}

def swOk (y : Str) (py pos : Pos) (scope sc : Scope) : Bool := (sc.kind == .function) && (sc.names.lookup y == some .local) && (py.line == pos.line) && !(scope.names.any fun x => x.1 == y && (x.2 == .local || x.2 == .cell))
theorem swaps_of {y : Str} {py pos : Pos} {scope : Scope} {elt : Expr} {gens : List Comprehension} {line : Nat} {b : Bool} {ns : List Str} (fr : Frame c ns) (h : swOk y py pos scope c.sc = b) : swapsWith (.ListComp elt gens scope pos) (some (.Name y py)) line c.env = pure b := by
  have hsk : c.sc.kind = .function := by rw [← fr.sc]; exact fr.kind
  have hb : c.env.blockKind = .function := by unfold Env.blockKind; rw [fr.kind]; rfl
  have hk : c.env.kindOf y = c.sc.names.lookup y := by unfold Env.kindOf; rw [fr.sc]
  show (pure (c.env.blockKind == .function && c.env.kindOf y == some .local && py.line == pos.line && !(scope.names.any fun (n, k) => n == y && (k == .local || k == .cell))) : Sem Bool) = pure b
  rw [← h, hk, hb]
  unfold swOk
  rw [hsk]

theorem es_comp {elt iter : Expr} {x y : Str} {px py pos spos : Pos} {t : Option Expr} {scope : Scope} {fr : Rho} {Q : AFl → Rho → Sto → Prop} (J : List AV → List AV → Sto → Prop) (hfn : c.isFn = true) (hsw : swOk y py pos scope c.sc = true) (hok : compOk x (fr.map (·.1)) scope c.sc = true) (hfr : FrIn fr ρ)
    (h : ev c ρ iter σ fun z σ₁ => ∃ l, Iter c z l ∧ l.length ≤ sizeLine ∧ J l [] σ₁)
    (turn : ∀ c' : Cx g, c'.A = c.A → c'.sc = relab scope c.sc → ∀ z rest acc σ₁, J (z :: rest) acc σ₁ → evT c' ((x, some z) :: fr) t σ₁ fun b σ₂ => match b with
      | true => ev c' ((x, some z) :: fr) elt σ₂ fun w σ₃ => J rest (acc ++ [w]) σ₃
      | false => J rest acc σ₂)
    (done : ∀ acc σ₁, J [] acc σ₁ → Made (fun z σ₂ => ∃ ρ', Upd y z ρ ρ' ∧ Q .next ρ' σ₂) acc σ₁)
    (hs : ∀ x, foldedSetIterable iter c.env x = pure x := by intro _; rfl) : es c ρ (exec (.Assign [.Name y py] (.ListComp elt [⟨.Name x px, iter, t.toList, 0⟩] scope pos) spos) c.env) σ Q := fun s st => by
  obtain ⟨hkind, hcell, hfree, hnames, hx, hdbg, hnd, hfrk⟩ := compOk_facts hok
  have hfreeC : ∀ y ∈ scope.names, y.2 = .free → ∃ a, c.env.cells.lookup y.1 = some a := fun y hy hf => by
    obtain ⟨p, hp, e⟩ := List.mem_map.mp (hfree y hy hf)
    have h1 := (hfr p hp).1
    rw [e] at h1
    have hk2 := (relabN_cell hcell (hfrk y.1 (hfree y hy hf))).2
    rcases (st.fr.kinds y.1 h1).2 with q | ⟨_, q⟩
    · rw [hk2] at q; cases q
    · exact q
  rw [exec_Assign_Name_used _ _ _ _ (swaps_of st.fr hsw)]
  refine wpAny_bind (wpAny_standAt (wpAny_bind ?_))
  show wpAny _ _ (do let _ ← comprehension (.ListComp elt [⟨.Name x px, iter, t.toList, 0⟩] scope pos) scope c.env _ (newList []) false (eval iter c.env) (some (assign (.Name y py) c.env))) _ _ s
  refine wpAny_bind (wpAny_mono (wpAny_comprehension_free (use := some (assign (.Name y py) c.env)) (Q := fun _ s' => ∃ fl ρ' σ', St c ρ' σ' s' ∧ EvS c σ s σ' s' ∧ RepF g.w (c.F σ' s') .next fl ∧ Q fl ρ' σ') rfl hs (closureFor_eq hfreeC) hkind hnames
    (wpAny_mono (h s st) (fun v s₁ ⟨z, σ₁, i₁, e₁, r₁, l, hit, hsz, hJ⟩ => ?_) fun _ _ e => e)) (fun _ s' hq => wpAny_pure (wpAny_pure hq)) fun _ _ e => e)
  have st₁ := st.ev i₁ e₁
  refine comp_core (RR := fun acc C => compPost g.M c.A c.E (some (assign (.Name y py) c.env)) (fun _ s' => ∃ fl ρ' σ', St c ρ' σ' s' ∧ EvS c σ s σ' s' ∧ RepF g.w (c.F σ' s') .next fl ∧ Q fl ρ' σ') acc C) J hok hfr st₁ r₁ hit hJ hsz turn ?_
  intro D C l' σ' h' tk m vs n hJ' hDo hCo hCD hDs hCs hDg hvs hn hle hown hi hlen
  show wpAny _ _ (assign (.Name y py) c.env (.ref D)) _ _ _
  -- the frame with the comprehension's own names still hidden
  let c₂ : Cx g := ⟨c.A, c.env, C :: c.own, C :: c.hid, c.E, c.sc, c.isFn⟩
  have same : Same c c₂ := ⟨rfl, rfl, rfl, rfl⟩
  have hC2 : C ∉ c.own := hCo
  have finish : ∀ (z : AV) (σ₂ : Sto), c₂.Inv σ₂ { s₁ with heap := h', toks := tk } → (c.F σ₁ s₁).le (c₂.F σ₂ { s₁ with heap := h', toks := tk }) → Rep g.w (c₂.F σ₂ { s₁ with heap := h', toks := tk }) (.ref D) z → (∃ ρ', Upd y z ρ ρ' ∧ Q .next ρ' σ₂) →
      wpAny g.M c.A (assign (.Name y py) c.env (.ref D)) (fun _ s'' => ∃ m, s''.heap.Ns C m ∧ ∀ h'', Heap.SameBut C s''.heap h'' → ∃ fl ρ' σ', St c ρ' σ' { s'' with heap := h'' } ∧ EvS c σ s σ' { s'' with heap := h'' } ∧ RepF g.w (c.F σ' { s'' with heap := h'' }) .next fl ∧ Q fl ρ' σ') c.E { s₁ with heap := h', toks := tk } := by
    intro z σ₂ i₂ le₂ rz ⟨ρ', hu, hq⟩
    have st₂ : St c₂ ρ σ₂ { s₁ with heap := h', toks := tk } := by
      refine ⟨i₂, st₁.fr.enter same rfl rfl hCo, ?_, fun w' a hk ha => ?_⟩
      · obtain ⟨m', hn', hm'⟩ := st₁.ns
        refine ⟨m', hn'.at' fun o e => hown _ st₁.fr.loc o e, fun w' v' hw' hk => ?_⟩
        obtain ⟨u, h1, h2⟩ := hm' w' v' hw' hk
        exact ⟨u, h1, h2.mono le₂⟩
      · obtain ⟨vo, ⟨o, ho, hd⟩, h2⟩ := st₁.cl w' a hk ha
        refine ⟨vo, ⟨o, hown a (st₁.fr.cells w' a ha).1 o ho, hd⟩, fun v' hv' => ?_⟩
        obtain ⟨u, h3, h4⟩ := h2 v' hv'
        exact ⟨u, h3, h4.mono le₂⟩
    refine wpAny_assign_Name (store_sound (c := c₂) (E := c.E) st₂ hu hfn rz fun s₃ st₃ e₃ => ?_)
    have hCl : ∃ o, h'.get? C = some o := let ⟨o, _, _, ho, _⟩ := hn; ⟨o, ho⟩
    refine ⟨m, hn.at' fun o e => e₃.hid C List.mem_cons_self o e, fun h'' hs'' => ?_⟩
    have hk3 : ∀ b o, b ∉ [C] → s₃.heap.get? b = some o → h''.get? b = some o := fun b o hb e => (hs''.2 b (by simpa using hb)).trans e
    have e0 : ({ s₃ with heap := h'' } : Shared) = { s₃ with heap := h'', toks := s₃.toks } := rfl
    obtain ⟨st₄, le₄⟩ := st₃.leave' (c := c) (tk := s₃.toks) same rfl hCo { st₁.fr with kinds := st₃.fr.kinds, nodup := st₃.fr.nodup } hk3
    refine ⟨.next, ρ', σ₂, st₄, ⟨?_, (e₁.grow.trans le₂).trans (e₃.grow.trans le₄), fun a ha o ho => ?_⟩, .next, hq⟩
    · obtain ⟨h5, t5, e5⟩ := e₃.same
      obtain ⟨h6, t6, e6⟩ := e₁.same
      subst e6
      subst e5
      exact ⟨h'', t5, rfl⟩
    · have hao := st.fr.sub a ha
      exact hk3 a o (by intro hm; exact hCo (List.mem_singleton.mp hm ▸ hao)) (e₃.hid a (List.mem_cons_of_mem _ ha) o (hown a hao o (e₁.own a hao o ho)))
  have hD0 : σ' D = Option.none := hi.off D (List.mem_cons_of_mem _ List.mem_cons_self)
  rcases done l' σ' hJ' with hq | hq
  · have le : (fz h' (C :: D :: c.own) σ').le (fz h' (C :: c.own) σ') := fun b o e => by
      obtain ⟨e1, e2, e3⟩ := fz_eq.mp e
      simp only [List.mem_cons, not_or] at e2
      exact fz_eq.mpr ⟨e1, by simp only [List.mem_cons, not_or]; exact ⟨e2.1, e2.2.2⟩, e3⟩
    have i₂ : c₂.Inv σ' { s₁ with heap := h', toks := tk } := by
      refine ⟨fun b o e => le b o (hi.keep b o e), fun a z e => (hi.objs a z e).mono le fun _ e => e, fun a ha => ?_, fun a ha => ?_⟩
      · rcases List.mem_cons.mp ha with rfl | ha
        · exact hi.off _ List.mem_cons_self
        · exact hi.off a (List.mem_cons_of_mem _ (List.mem_cons_of_mem _ ha))
      · rcases List.mem_cons.mp ha with rfl | ha
        · exact hi.live _ List.mem_cons_self
        · exact hi.live a (List.mem_cons_of_mem _ (List.mem_cons_of_mem _ ha))
    refine finish _ σ' i₂ (hle.trans le) (.list (fz_eq.mpr ⟨hD0, ?_, hDg⟩) (hvs.mono le)) hq
    intro hm
    rcases List.mem_cons.mp hm with e | hm
    · exact hCD e.symm
    · exact hDo hm
  · have le : (fz h' (C :: D :: c.own) σ').le (fz h' (C :: c.own) (σ'.set D (.lst l'))) := fun b o e => by
      obtain ⟨e1, e2, e3⟩ := fz_eq.mp e
      simp only [List.mem_cons, not_or] at e2
      exact fz_eq.mpr ⟨(Sto.set_ne e2.2.1).trans e1, by simp only [List.mem_cons, not_or]; exact ⟨e2.1, e2.2.2⟩, e3⟩
    have i₂ : c₂.Inv (σ'.set D (.lst l')) { s₁ with heap := h', toks := tk } := by
      refine ⟨fun b o e => le b o (hi.keep b o e), fun a z e => ?_, fun a ha => ?_, fun a ha => ?_⟩
      · by_cases haD : a = D
        · subst haD
          rw [Sto.set_self] at e
          injection e with e
          subst e
          exact ⟨vs, n, hDg, hvs.mono le⟩
        · rw [Sto.set_ne haD] at e
          exact (hi.objs a z e).mono le fun _ e => e
      · rcases List.mem_cons.mp ha with rfl | ha
        · rw [Sto.set_ne hCD]; exact hi.off _ List.mem_cons_self
        · rw [Sto.set_ne (by rintro rfl; exact hDo ha)]; exact hi.off a (List.mem_cons_of_mem _ (List.mem_cons_of_mem _ ha))
      · rcases List.mem_cons.mp ha with rfl | ha
        · exact hi.live _ List.mem_cons_self
        · exact hi.live a (List.mem_cons_of_mem _ (List.mem_cons_of_mem _ ha))
    exact finish _ _ i₂ (hle.trans le) (.obj D) (hq D hD0)

end Mine

end

section
namespace Mine
open PySem PySem.W
variable {g : Gx} {c : Cx g} {ρ : Rho} {σ : Sto}

def fdAt (K : Frag) (f : Addr) : FuncData := match K.lookup f with | some ⟨_, _, .func fd, _⟩ => fd | _ => default
def bodyAt (K : Frag) (f : Addr) : List Stmt := match (fdAt K f).body with | .stmts b => b | _ => []
def fnOk (K : Frag) (f : Addr) : Bool := match K.lookup f with
  | some ⟨_, _, .func fd, _⟩ => (match fd.body with | .stmts _ => true | _ => false) && fd.closure.isEmpty && fd.globals == mainGlobals && fd.builtins == builtinsNs &&
    (match fd.code with | .ref c => (match K.lookup c with | some ⟨_, _, .fields vs, _⟩ => (match (vs[1]? : Option Value) with | some (Value.str q _) => q == fd.qualname | _ => false) | _ => false) | _ => false)
  | _ => false
theorem fnAt_of {K : Frag} (X : K.In g.H₀) (nl : g.H₀.NoLimit) {f : Addr} {ps : List Str} (ok : fnOk K f = true) (hb : ∀ vals : List Value, vals.length = ps.length → bindArgs (fdAt K f) ⟨vals, []⟩ = pure (ps.zip vals)) : FnAt g f ps (bodyAt K f) (fdAt K f).scope := by
  unfold fnOk at ok
  split at ok
  · rename_i oc od fd osl hl
    have e : fdAt K f = fd := by unfold fdAt; rw [hl]
    have eb : bodyAt K f = match fd.body with | .stmts b => b | _ => [] := by unfold bodyAt; rw [e]
    rw [e] at hb
    rw [eb, e]
    simp only [Bool.and_eq_true, beq_iff_eq] at ok
    obtain ⟨⟨⟨⟨h1, h2⟩, h3⟩, h4⟩, h5⟩ := ok
    refine ⟨⟨_, fd, X _ _ hl, rfl, ?_, rfl, by simpa using h2, h3, h4, ?_, hb⟩, nl⟩
    · split at h1
      · rename_i b hb'; rw [hb']
      · cases h1
    · split at h5
      · rename_i cc hc
        split at h5
        · rename_i vs _ hk
          split at h5
          · rename_i q t hq
            have : q = fd.qualname := by simpa using h5
            subst this
            exact ⟨cc, _, vs, t, hc, X _ _ hk, rfl, hq⟩
          · cases h5
        · cases h5
      · cases h5
  · cases ok
structure TopG (g : Gx) (K : Frag) : Prop where
  X : K.In g.H₀
  nl : g.H₀.NoLimit
  names : ∃ mg mb, g.H₀.Ns mainGlobals mg ∧ g.H₀.Ns builtinsNs mb ∧ (∀ x v, nsIn K mainGlobals x = some (some v) → mg x = some v) ∧ (∀ x v, nsIn K mainGlobals x = some Option.none → PySem.bootBuiltins x = some v → x ≠ "__name__" → mg x = Option.none ∧ mb x = some v)
theorem TopG.glob {K : Frag} (T : TopG g K) {x : Str} {v : Value} (h : nsIn K mainGlobals x = some (some v)) (hd : (x == ("__debug__" : Str)) = false := by decide) : Glob g.H₀ x v := by
  obtain ⟨mg, mb, h1, h2, h3, _⟩ := T.names
  exact ⟨hd, mg, mb, h1, h2, .inl (h3 x v h)⟩
theorem TopG.blt {K : Frag} (T : TopG g K) {x : Str} {v : Value} (h : nsIn K mainGlobals x = some Option.none) (hv : PySem.bootBuiltins x = some v) (hn : x ≠ "__name__" := by decide) (hd : (x == ("__debug__" : Str)) = false := by decide) : Glob g.H₀ x v := by
  obtain ⟨mg, mb, h1, h2, _, h3⟩ := T.names
  obtain ⟨a, b⟩ := h3 x v h hv hn
  exact ⟨hd, mg, mb, h1, h2, .inr ⟨a, b⟩⟩
end Mine

end

section
namespace Mine
open PySem PySem.W
variable {g : Gx} {c : Cx g} {ρ : Rho} {σ : Sto}

inductive MemR (x : Str) (v : AV) : Rho → Prop
  | head {r : Rho} : MemR x v ((x, some v) :: r)
  | tail {p : Str × Option AV} {r : Rho} : MemR x v r → MemR x v (p :: r)
theorem MemR.mem {x : Str} {v : AV} {r : Rho} (h : MemR x v r) : (x, some v) ∈ r := by
  induction h with
  | head => exact List.mem_cons_self
  | tail _ ih => exact List.mem_cons_of_mem _ ih
theorem ev_nm {x pos v} {Q : AV → Sto → Prop} (hx : MemR x v ρ) (q : Q v σ) : ev c ρ (.Name x pos) σ Q := ev_name hx.mem q
theorem evl_nil {Q : List AV → Sto → Prop} (h : Q [] σ) : evl c ρ [] σ Q := h
theorem evl_cons {e : Expr} {r : List Expr} {Q : List AV → Sto → Prop} (h : ev c ρ e σ fun x σ₁ => evl c ρ r σ₁ fun l σ₂ => Q (x :: l) σ₂) : evl c ρ (e :: r) σ Q := h
theorem evAnd_nil {Q : Bool → Sto → Prop} (h : Q true σ) : evAll c ρ .And [] σ Q := h
theorem evOr_nil {Q : Bool → Sto → Prop} (h : Q false σ) : evAll c ρ .Or [] σ Q := h
def br (b : Bool) (p q : Prop) : Prop := (b = true → p) ∧ (b = false → q)
theorem br_true {p q : Prop} (h : p) : br true p q := ⟨fun _ => h, fun e => by cases e⟩
theorem br_false {p q : Prop} (h : q) : br false p q := ⟨(fun e => by cases e), fun _ => h⟩
theorem br_intro {b : Bool} {p q : Prop} (h1 : b = true → p) (h2 : b = false → q) : br b p q := ⟨h1, h2⟩
theorem evAnd_cons {e : Expr} {r : List Expr} {Q : Bool → Sto → Prop} (h : evb c ρ e σ fun b σ₁ => br b (evAll c ρ .And r σ₁ Q) (Q false σ₁)) : evAll c ρ .And (e :: r) σ Q :=
  gv.mono h fun b σ₁ h => by cases b; exact h.2 rfl; exact h.1 rfl
theorem evOr_cons {e : Expr} {r : List Expr} {Q : Bool → Sto → Prop} (h : evb c ρ e σ fun b σ₁ => br b (Q true σ₁) (evAll c ρ .Or r σ₁ Q)) : evAll c ρ .Or (e :: r) σ Q :=
  gv.mono h fun b σ₁ h => by cases b; exact h.2 rfl; exact h.1 rfl
theorem es_ifc {test body orelse pos} {Q : AFl → Rho → Sto → Prop} (h : evb c ρ test σ fun b σ' => br b (es c ρ (execs body c.env) σ' Q) (es c ρ (execs orelse c.env) σ' Q)) :
    es c ρ (exec (.If test body orelse pos) c.env) σ Q := es_if (gv.mono h fun b σ₁ h => by cases b; exact h.2 rfl; exact h.1 rfl)
theorem evVal_one {op : BoolOp} {e : Expr} {Q : AV → Sto → Prop} (h : ev c ρ e σ Q) : evVal c ρ op [e] σ Q := h
theorem evVal_and {e e' : Expr} {r : List Expr} {Q : AV → Sto → Prop} (h : ev c ρ e σ fun x σ₁ => opb c truthy x σ₁ fun b σ₂ => br b (evVal c ρ .And (e' :: r) σ₂ Q) (Q x σ₂)) : evVal c ρ .And (e :: e' :: r) σ Q :=
  gv.mono h fun x σ₁ h s a i r => pg.mono (h s a i r) fun b σ₂ h => by cases b; exact h.2 rfl; exact h.1 rfl
theorem es_one {st : Stmt} {Q : AFl → Rho → Sto → Prop} (h : es c ρ (exec st c.env) σ Q) : es c ρ (execs [st] c.env) σ Q :=
  es_cons (es.mono h fun x ρ' σ' q => by cases x <;> first | exact es_nil q | exact q)
def thn (c : Cx g) (rest : List Stmt) (Q : AFl → Rho → Sto → Prop) : AFl → Rho → Sto → Prop := fun fl ρ' σ' => match fl with | .next => es c ρ' (execs rest c.env) σ' Q | fl => Q fl ρ' σ'
theorem es_seq {st rest} {Q : AFl → Rho → Sto → Prop} (h : es c ρ (exec st c.env) σ (thn c rest Q)) : es c ρ (execs (st :: rest) c.env) σ Q := es_cons h
theorem thn_next {rest} {Q : AFl → Rho → Sto → Prop} (h : es c ρ (execs rest c.env) σ Q) : thn c rest Q .next ρ σ := h
theorem thn_ret {rest} {x : AV} {Q : AFl → Rho → Sto → Prop} (h : Q (.ret x) ρ σ) : thn c rest Q (.ret x) ρ σ := h
theorem post_ret {Q : AV → Sto → Prop} {x : AV} (h : Q x σ) : fnPost Q (.ret x) ρ σ := h
def trn (Q : AFl → Rho → Sto → Prop) (J : Rho → Sto → Prop) : AFl → Rho → Sto → Prop := fun fl ρ' σ' => match fl with
  | .next | .cont => ∃ ρ'', Wk ρ'' ρ' ∧ J ρ'' σ'
  | .brk => Q .next ρ' σ'
  | .ret v => Q (.ret v) ρ' σ'
theorem trn_next {Q : AFl → Rho → Sto → Prop} {J : Rho → Sto → Prop} {ρ'' : Rho} (hw : Wk ρ'' ρ) (h : J ρ'' σ) : trn Q J .next ρ σ := ⟨ρ'', hw, h⟩
theorem trn_ret {Q : AFl → Rho → Sto → Prop} {J : Rho → Sto → Prop} {x : AV} (h : Q (.ret x) ρ σ) : trn Q J (.ret x) ρ σ := h
theorem es_loop {x : Str} {px : Pos} {iter : Expr} {body : List Stmt} {pos : Pos} {Q : AFl → Rho → Sto → Prop} (J : List AV → Rho → Sto → Prop) (hfn : c.isFn = true)
    (h : ev c ρ iter σ fun y σ₁ => ∃ l, Iter c y l ∧ J l ρ σ₁)
    (turn : ∀ c' : Cx g, c'.A = c.A → c'.sc = c.sc → c'.isFn = true → ∀ y rest ρ₁ σ₁, J (y :: rest) ρ₁ σ₁ → ∃ ρ₂, Upd x y ρ₁ ρ₂ ∧ es c' ρ₂ (execs body c'.env) σ₁ (trn Q (J rest)))
    (done : ∀ ρ₁ σ₁, J [] ρ₁ σ₁ → Q .next ρ₁ σ₁)
    (hs : ∀ x, foldedSetIterable iter c.env x = pure x := by intro _; rfl) : es c ρ (exec (.For (.Name x px) iter body [] pos) c.env) σ Q :=
  es_for J hfn h (fun c' hs y rest ρ₁ σ₁ hJ => turn c' hs.A hs.sc (hs.fn.trans hfn) y rest ρ₁ σ₁ hJ) done hs
theorem upd_ex {x : Str} {y : AV} {ρ₁ ρ₂ : Rho} {P : Rho → Prop} (hu : Upd x y ρ₁ ρ₂) (h : P ρ₂) : ∃ ρ', Upd x y ρ₁ ρ' ∧ P ρ' := ⟨_, hu, h⟩
theorem callee_K {K : Frag} (X : K.In g.H₀) {f : Addr} (ok : fnOk K f = true) : Callee g (.ref f) := by
  unfold fnOk at ok
  split at ok
  · rename_i hl; exact .fn (X _ _ hl) rfl
  · cases ok
theorem ev_callF {K : Frag} {sc : Scope} {id : Str} {p pos : Pos} {e : Expr} {rest : List Expr} {f : Addr} {Q : AV → Sto → Prop} (T : TopG g K) (hsc : c.sc = sc) (hn : nsIn K mainGlobals id = some (some (.ref f))) (hx : sc.names.lookup id = some .globalImplicit) (ok : fnOk K f = true)
    (h : evl c ρ (e :: rest) σ fun xs σ₁ => cal c (.ref f) xs σ₁ Q) (hd : (id == ("__debug__" : Str)) = false := by rfl) (hp : (e :: rest).all noStar = true := by rfl) : ev c ρ (.Call (.Name id p) (e :: rest) [] pos) σ Q :=
  ev_call (T.glob hn hd) (by rw [hsc]; exact hx) (callee_K T.X ok) h hp
theorem ev_callB {K : Frag} {sc : Scope} {id : Str} {p pos : Pos} {e : Expr} {rest : List Expr} {v : Value} {Q : AV → Sto → Prop} (hv : PySem.bootBuiltins id = some v) (hc : Callee g v) (T : TopG g K) (hsc : c.sc = sc) (hn : nsIn K mainGlobals id = some Option.none) (hx : sc.names.lookup id = some .globalImplicit)
    (h : evl c ρ (e :: rest) σ fun xs σ₁ => cal c v xs σ₁ Q) (hn' : id ≠ "__name__" := by decide) (hd : (id == ("__debug__" : Str)) = false := by rfl) (hp : (e :: rest).all noStar = true := by rfl) : ev c ρ (.Call (.Name id p) (e :: rest) [] pos) σ Q :=
  ev_call (T.blt hn hv hn' hd) (by rw [hsc]; exact hx) hc h hp
inductive FrI : Rho → Rho → Prop
  | nil {ρ : Rho} : FrI [] ρ
  | cons {x : Str} {v : AV} {fr ρ : Rho} : MemR x v ρ → FrI fr ρ → FrI ((x, some v) :: fr) ρ
theorem FrI.frIn {fr ρ : Rho} (h : FrI fr ρ) : FrIn fr ρ := by
  induction h with
  | nil => intro p hp; cases hp
  | cons hm _ ih =>
    intro p hp
    rcases List.mem_cons.mp hp with rfl | hp
    · exact ⟨List.mem_map.mpr ⟨_, hm.mem, rfl⟩, fun v' e => by injection e with e; subst e; exact hm.mem⟩
    · exact ih p hp
theorem ev_map {sc : Scope} {elt iter : Expr} {x : Str} {px pos : Pos} {scope : Scope} {Q : AV → Sto → Prop} (fr : Rho) (J : List AV → List AV → Sto → Prop) (hsc : c.sc = sc) (hok : compOk x (fr.map (·.1)) scope sc = true) (hfr : FrI fr ρ)
    (h : ev c ρ iter σ fun y σ₁ => ∃ l, Iter c y l ∧ l.length ≤ sizeLine ∧ J l [] σ₁)
    (turn : ∀ c' : Cx g, c'.A = c.A → c'.sc = relab scope sc → ∀ y rest acc σ₁, J (y :: rest) acc σ₁ → ev c' ((x, some y) :: fr) elt σ₁ fun z σ₃ => J rest (acc ++ [z]) σ₃)
    (done : ∀ acc σ₁, J [] acc σ₁ → Q (.list acc) σ₁)
    (hs : ∀ x, foldedSetIterable iter c.env x = pure x := by intro _; rfl) : ev c ρ (.ListComp elt [⟨.Name x px, iter, [], 0⟩] scope pos) σ Q := by
  subst hsc
  exact ev_comp (t := Option.none) J hok hfr.frIn h (fun c' hA hS y rest acc σ₁ hJ => turn c' hA hS y rest acc σ₁ hJ) done hs
theorem ev_filt {sc : Scope} {elt iter test : Expr} {x : Str} {px pos : Pos} {scope : Scope} {Q : AV → Sto → Prop} (fr : Rho) (J : List AV → List AV → Sto → Prop) (hsc : c.sc = sc) (hok : compOk x (fr.map (·.1)) scope sc = true) (hfr : FrI fr ρ)
    (h : ev c ρ iter σ fun y σ₁ => ∃ l, Iter c y l ∧ l.length ≤ sizeLine ∧ J l [] σ₁)
    (turn : ∀ c' : Cx g, c'.A = c.A → c'.sc = relab scope sc → ∀ y rest acc σ₁, J (y :: rest) acc σ₁ → evb c' ((x, some y) :: fr) test σ₁ fun b σ₂ => br b (ev c' ((x, some y) :: fr) elt σ₂ fun z σ₃ => J rest (acc ++ [z]) σ₃) (J rest acc σ₂))
    (done : ∀ acc σ₁, J [] acc σ₁ → Q (.list acc) σ₁)
    (hs : ∀ x, foldedSetIterable iter c.env x = pure x := by intro _; rfl) : ev c ρ (.ListComp elt [⟨.Name x px, iter, [test], 0⟩] scope pos) σ Q := by
  subst hsc
  exact ev_comp (t := some test) J hok hfr.frIn h (fun c' hA hS y rest acc σ₁ hJ => gv.mono (turn c' hA hS y rest acc σ₁ hJ) fun b σ₂ h => by cases b; exact h.2 rfl; exact h.1 rfl) done hs
theorem es_filt {sc : Scope} {elt iter test : Expr} {x y : Str} {px py pos spos : Pos} {scope : Scope} {Q : AFl → Rho → Sto → Prop} (fr : Rho) (J : List AV → List AV → Sto → Prop) (hfn : c.isFn = true) (hsc : c.sc = sc) (hsw : swOk y py pos scope sc = true) (hok : compOk x (fr.map (·.1)) scope sc = true) (hfr : FrI fr ρ)
    (h : ev c ρ iter σ fun y σ₁ => ∃ l, Iter c y l ∧ l.length ≤ sizeLine ∧ J l [] σ₁)
    (turn : ∀ c' : Cx g, c'.A = c.A → c'.sc = relab scope sc → ∀ y rest acc σ₁, J (y :: rest) acc σ₁ → evb c' ((x, some y) :: fr) test σ₁ fun b σ₂ => br b (ev c' ((x, some y) :: fr) elt σ₂ fun z σ₃ => J rest (acc ++ [z]) σ₃) (J rest acc σ₂))
    (done : ∀ acc σ₁, J [] acc σ₁ → Made (fun z σ₂ => ∃ ρ', Upd y z ρ ρ' ∧ Q .next ρ' σ₂) acc σ₁)
    (hs : ∀ x, foldedSetIterable iter c.env x = pure x := by intro _; rfl) : es c ρ (exec (.Assign [.Name y py] (.ListComp elt [⟨.Name x px, iter, [test], 0⟩] scope pos) spos) c.env) σ Q := by
  subst hsc
  exact es_comp (t := some test) J hfn hsw hok hfr.frIn h (fun c' hA hS y rest acc σ₁ hJ => gv.mono (turn c' hA hS y rest acc σ₁ hJ) fun b σ₂ h => by cases b; exact h.2 rfl; exact h.1 rfl) done hs
theorem made_frz {P : Rho → Sto → Prop} {y : Str} {l : List AV} {ρ : Rho} (h : ∃ ρ', Upd y (.list l) ρ ρ' ∧ P ρ' σ) : Made (fun z σ₂ => ∃ ρ', Upd y z ρ ρ' ∧ P ρ' σ₂) l σ := .inl h
theorem evO_none {Q : Option Int → Sto → Prop} (h : Q Option.none σ) : evO c ρ Option.none σ Q := h
theorem evO_some {e : Expr} {Q : Option Int → Sto → Prop} (h : ev c ρ e σ fun x σ₁ => ∃ i, x = .int i ∧ Q (some i) σ₁) : evO c ρ (some e) σ Q := h
theorem int_ex {i : Int} {P : Int → Prop} (h : P i) : ∃ j, AV.int i = .int j ∧ P j := ⟨i, rfl, h⟩
def jn (M : Rho → Sto → Prop) : AFl → Rho → Sto → Prop := fun fl ρ' σ' => match fl with
  | .next => ∃ ρ'', Wk ρ'' ρ' ∧ M ρ'' σ'
  | _ => False
theorem jn_next {M : Rho → Sto → Prop} {ρ'' : Rho} (hw : Wk ρ'' ρ) (h : M ρ'' σ) : jn M .next ρ σ := ⟨ρ'', hw, h⟩
theorem es.wk {ρ' : Rho} {t : Sem Flow} {Q : AFl → Rho → Sto → Prop} (hw : Wk ρ ρ') (h : es c ρ t σ Q) : es c ρ' t σ Q := fun s hs => h s (hs.wk hw)
theorem es_join {t : Sem Flow} {rest : List Stmt} {Q : AFl → Rho → Sto → Prop} (M : Rho → Sto → Prop) (h1 : es c ρ t σ (jn M)) (h2 : ∀ ρ' σ', M ρ' σ' → es c ρ' (execs rest c.env) σ' Q) : es c ρ t σ (thn c rest Q) :=
  es.mono h1 fun fl ρ' σ' q => by
    cases fl with
    | next => obtain ⟨ρ'', hw, hm⟩ := q; exact (h2 ρ'' σ' hm).wk hw
    | brk => exact q.elim
    | cont => exact q.elim
    | ret _ => exact q.elim
end Mine

end

section
namespace Mine
open PySem PySem.W

theorem topG_of {p prog : Program} {w : World} {loose : List Str} {mean : ExcName → Option Value} {mg mb : Str → Option Value} {h : Heap} {K : Frag} (T : PyProof.Rows.Top p loose mean mg mb h) (X : K.In h) : TopG ⟨prog, w, h⟩ K :=
  ⟨X, T.nolimit, mg, mb, T.g, T.b, fun x v e => mg_of X T.g e, fun x v e hb hn => ⟨mg_none_of X T.g e, (T.builtins x hn).trans hb⟩⟩

def σ₀ : Sto := fun _ => none
theorem wellAll_ints {P : Params} {h : Heap} {w : World} {F : Fz} {ns : List Int} : ∀ {vs : List Value}, WellAll P h vs ((ns.map PyData.int).map ofPy) → RepL w F vs (ns.map AV.int) := by
  induction ns with
  | nil => intro vs r; cases r; exact .nil
  | cons n ns ih =>
    intro vs r
    rw [List.map_cons, List.map_cons, show ofPy (PyData.int n) = WData.int n from rfl] at r
    cases r with
    | cons a b =>
      cases a with
      | int _ t => exact .cons (.int n t) (ih b)

theorem fz_none {h : Heap} {b : Addr} {o : Obj} : fz h [] σ₀ b = some o ↔ h.get? b = some o := by
  simp [fz, σ₀]

theorem law_end {prog : Program} {w : World} {s₁ : Shared} {fa l : Addr} {ns : List Int} {cl : ClaimW} {ca : Str → Option Addr} {mean : ExcName → Option Value} {args : List WData}
    (w1 : Well w.params s₁.heap (.ref l) (ofPy (.list (ns.map .int)))) (hg : s₁.gens = #[]) (hn : ∀ k, cl.raises args k = false) (hp : cl.post args (.bool true) args = true)
    (spec : ∀ (c : Cx ⟨prog, w, s₁.heap⟩), c.A = callerA → cal c (.ref fa) [.list (ns.map .int)] σ₀ (fun x _ => x = .bool true)) :
    wpAny (model prog w) callerA (call (.ref fa) [.ref l]) (fun v s' => GoodWG cl ca mean args s₁ (.ok (.ret v)) s') (fun e s' => GoodWG cl ca mean args s₁ (.error e) s') s₁ := by
  have i0 : Inv w s₁.heap [] σ₀ s₁ := ⟨fun b o h => fz_none.2 h, (fun a x h => by cases h), (fun a h => by cases h), (fun a h => by cases h)⟩
  have r0 : Rep w (fz s₁.heap [] σ₀) (.ref l) (.list (ns.map .int)) := by
    unfold ofPy at w1
    cases w1 with
    | list h1 h2 => 
      refine .list (n := 0) (fz_none.2 h1) (wellAll_ints (P := w.params) (h := s₁.heap) ?_)
      rw [← ofPys_eq]; exact h2
  have := spec ⟨callerA, default, [], [], fun _ _ => False, default, true⟩ rfl s₁ [.ref l] i0 (.cons r0 .nil)
  refine wpAny_mono this ?_ (fun _ _ h => h.elim)
  rintro v s' ⟨x, σ', i, e, r, rfl⟩
  cases r
  obtain ⟨h', tk, rfl⟩ := e.same
  refine ⟨.inl ⟨_, _, [], rfl, hn, .bool _, hp, fun _ => ⟨List.nodup_nil, fun _ h => by cases h⟩⟩, .of_keep fun b o h => ?_, rfl, .of_eq hg⟩
  have := e.grow b o (fz_none.2 h)
  exact (fz_eq.1 this).2.2
end Mine

end

section
namespace Mine
open PySem

mutual
def dr : AV → Nat
  | .tup l => drs l + 1
  | _ => 1
def drs : List AV → Nat
  | [] => 0
  | x :: r => dr x + drs r
end
def tkey : AV → Bool
  | .tup l => areKeys l && decide (deepL l ≤ 1)
  | _ => false
mutual
theorem isKey_plain : ∀ {x : AV}, isKey x = true → plain x = true
  | .int _, _ => rfl
  | .str _, _ => rfl
  | .tup l, h => areKeys_plain h
  | .none, h => by cases h
  | .bool _, h => by cases h
  | .list _, h => by cases h
  | .dict _, h => by cases h
  | .rng _ _, h => by cases h
  | .obj _, h => by cases h
  | .raw _, h => by cases h
theorem areKeys_plain : ∀ {l : List AV}, areKeys l = true → plainL l = true
  | [], _ => rfl
  | x :: r, h => by
    unfold areKeys at h
    rw [Bool.and_eq_true] at h
    unfold plainL
    rw [isKey_plain h.1, areKeys_plain h.2]; rfl
end
mutual
theorem key_eq : ∀ {x y : AV}, isKey x = true → isKey y = true → eqA x y = true → x = y
  | .int a, y, _, h, e => by
    cases y with
    | int b => unfold eqA at e; rw [beq_iff_eq] at e; rw [e]
    | bool b => cases h
    | none => cases h
    | _ => unfold eqA at e; cases e
  | .str a, y, _, h, e => by
    cases y with
    | str b => unfold eqA at e; rw [beq_iff_eq] at e; rw [e]
    | _ => unfold eqA at e; cases e
  | .tup l, y, h, h', e => by
    cases y with
    | tup m => rw [keys_eq h h' e]
    | _ => unfold eqA at e; cases e
  | .none, _, h, _, _ => by cases h
  | .bool _, _, h, _, _ => by cases h
  | .list _, _, h, _, _ => by cases h
  | .dict _, _, h, _, _ => by cases h
  | .rng _ _, _, h, _, _ => by cases h
  | .obj _, _, h, _, _ => by cases h
  | .raw _, _, h, _, _ => by cases h
theorem keys_eq : ∀ {l m : List AV}, areKeys l = true → areKeys m = true → eqL l m = true → l = m
  | [], [], _, _, _ => rfl
  | [], _ :: _, _, _, e => by unfold eqL at e; cases e
  | _ :: _, [], _, _, e => by unfold eqL at e; cases e
  | x :: r, y :: t, h, h', e => by
    unfold areKeys at h h'
    unfold eqL at e
    rw [Bool.and_eq_true] at h h' e
    rw [key_eq h.1 h'.1 e.1, keys_eq h.2 h'.2 e.2]
end
open scoped Classical
theorem eqA_key {x y : AV} (hx : isKey x = true) (hy : isKey y = true) : eqA x y = decide (x = y) := by
  by_cases e : x = y
  · subst e; rw [eqA_refl (isKey_plain hx)]; simp
  · cases h : eqA x y with
    | false => simp [e]
    | true => exact absurd (key_eq hx hy h) e

mutual
theorem Rep.stays {w : World} {h h' : Heap} {d : Addr} {o : Obj} {es ep} (ho : h.get? d = some o) (hd : o.data = .dict es ep) (hs : Heap.SameBut d h h') : ∀ {v : Value} {x : AV}, Rep w h.get? v x → isKey x = true → Rep w h'.get? v x
  | _, _, .int i t, _ => .int i t
  | _, _, .str i t, _ => .str i t
  | _, _, .tup (a := a) (n := n) e r, k => by
    refine .tup (n := n) ?_ (RepL.stays ho hd hs r k)
    rw [hs.2 a]; exact e
    rintro rfl
    rw [ho] at e
    injection e with e
    rw [e] at hd
    cases hd
  | _, _, .none, k => by cases k
  | _, _, .bool _, k => by cases k
  | _, _, .list _ _, k => by cases k
  | _, _, .dict _ _ _, k => by cases k
  | _, _, .rng _, k => by cases k
  | _, _, .obj _, k => by cases k
  | _, _, .raw _, k => by cases k
theorem RepL.stays {w : World} {h h' : Heap} {d : Addr} {o : Obj} {es ep} (ho : h.get? d = some o) (hd : o.data = .dict es ep) (hs : Heap.SameBut d h h') : ∀ {vs : List Value} {l : List AV}, RepL w h.get? vs l → areKeys l = true → RepL w h'.get? vs l
  | _, _, .nil, _ => .nil
  | _, _, .cons a b, k => by
    unfold areKeys at k
    rw [Bool.and_eq_true] at k
    exact .cons (Rep.stays ho hd hs a k.1) (RepL.stays ho hd hs b k.2)
end

theorem hashes {prog : Program} {w : World} : ∀ (n : Nat) {A : Around} {E : Value → Shared → Prop} {s : Shared} {v : Value} {x : AV} {Q : Int → Shared → Prop}, deep x ≤ n → isKey x = true → Rep w s.heap.get? v x → A.units + n < cLine →
    Q (hK w x) { s with toks := s.toks + dr x } → wpAny (model prog w) A (pyHash v) Q E s := by
  intro n
  induction n with
  | zero =>
    intro A E s v x Q hd hk r hu h
    cases r with
    | tup _ _ => unfold deep at hd; omega
    | int i t => exact wpAny_pyHash_int h
    | str x t => exact wpAny_pyHash_str h
    | none => cases hk
    | bool _ => cases hk
    | list _ _ => cases hk
    | dict _ _ _ => cases hk
    | rng _ => cases hk
    | obj _ => cases hk
    | raw _ => cases hk
  | succ n ih =>
    intro A E s v x Q hd hk r hu h
    cases r with
    | int i t => exact wpAny_pyHash_int h
    | str x t => exact wpAny_pyHash_str h
    | none => cases hk
    | bool _ => cases hk
    | list _ _ => cases hk
    | dict _ _ _ => cases hk
    | rng _ => cases hk
    | obj _ => cases hk
    | raw _ => cases hk
    | @tup a vs m l ho hl =>
      have hdl : deepL l ≤ n := by unfold deep at hd; omega
      have hk' : areKeys l = true := hk
      have hT : s.TypeIs (.ref a) "tuple" := ⟨_, ho, rfl⟩
      unfold pyHash
      first | unfold pyHashByItsType | skip
      first | refine wpAny_bind (wpAny_cRoomFor_or (.inr (by omega)) ?_) | skip
      refine wpAny_bind (wpAny_specialOf hT F.slot_tuple_hash.lookup ?_)
      show wpAny _ _ (if (some (Value.builtin "tuple.__hash__") == some Value.none) = true then _ else _) Q E s
      rw [if_neg (by rw [beq_builtin_none]; exact Bool.false_ne_true)]
      refine wpAny_bind (wpAny_specialOf hT F.slot_tuple_hash.lookup ?_)
      show wpAny _ _ (callSpecialIfBoundUnlessNone? (.ref a) "__hash__" _ >>= _) Q E s
      refine wpAny_bind (wpAny_callSpecialIfBoundUnlessNone?_slot hT F.slot_tuple_hash (wpAny_call_entry F.slot_tuple_hash hT F.entry_tuple_hash ?_ (F.args_tuple_hash_1 _)))
      show wpAny _ _ (Builtin.Tuple.tupleItemsOf (.ref a) >>= _) _ _ s
      refine wpAny_bind (wpAny_tupleItemsOf ho rfl ?_)
      refine wpAny_bind ?_
      rw [← Array.forIn_toList]
      refine wpAny_forIn_list _
        (fun rest (b : Array Int) s' => ∃ t left, RepL w s.heap.get? rest left ∧ areKeys left = true ∧ deepL left ≤ n ∧ b.toList ++ hKs w left = hKs w l ∧ t + drs left = drs l ∧ s' = { s with toks := s.toks + t })
        _ ?_ ?_ _ _ ⟨0, l, hl, hk', hdl, rfl, by omega, rfl⟩
      · rintro x rest b s' ⟨t, left, hl, hk, hdl, hb, ht, rfl⟩
        cases hl with
        | @cons _ _ k ks h1 hl' =>
          unfold areKeys at hk
          rw [Bool.and_eq_true] at hk
          unfold deepL at hdl
          refine wpAny_bind (ih (s := { s with toks := s.toks + t }) (by omega) hk.1 h1 (by show A.units + 1 + n < cLine; omega) ?_)
          rw [show hKs w (k :: ks) = hK w k :: hKs w ks from rfl] at hb
          rw [show drs (k :: ks) = dr k + drs ks from rfl] at ht
          first
            | exact wpAny_pure ⟨t + dr k, ks, hl', hk.2, by omega, by simpa using hb, by omega, by simp [Nat.add_assoc]⟩
            | exact wpAny_bind (wpAny_pure (wpAny_pure ⟨t + dr k, ks, hl', hk.2, by omega, by simpa using hb, by omega, by simp [Nat.add_assoc]⟩))
      · rintro b s' ⟨t, left, hl, hk, hdl, hb, ht, rfl⟩
        cases hl
        rw [show hKs w [] = [] from rfl, List.append_nil] at hb
        rw [show drs [] = 0 from rfl] at ht
        show wpAny _ _ (retInt (Builtin.Tuple.tupleHashOf b.toList)) _ _ _
        rw [hb]
        refine wpAny_ret_mkInt ?_
        show wpAny _ _ (if (decide (-(2 : Int) ^ 63 ≤ Builtin.Tuple.tupleHashOf (hKs w l)) && decide (Builtin.Tuple.tupleHashOf (hKs w l) < 2 ^ 63)) = true then _ else _) Q E _
        unfold hK reduceHash dr at h
        have et : t = drs l := by omega
        subst et
        by_cases hr : (decide (-(2 : Int) ^ 63 ≤ Builtin.Tuple.tupleHashOf (hKs w l)) && decide (Builtin.Tuple.tupleHashOf (hKs w l) < 2 ^ 63)) = true
        · rw [if_pos hr]
          rw [if_pos hr] at h
          exact wpAny_pure (by simpa [Nat.add_assoc] using h)
        · rw [if_neg hr]
          rw [if_neg hr] at h
          exact wpAny_bind (wpAny_rule (wpAny_pure (by simpa [Nat.add_assoc] using h)))

theorem quiets {prog : Program} {w : World} : ∀ (n : Nat) {A : Around} {E : Value → Shared → Prop} {s : Shared} {v : Value} {x : AV} {Q : Bool → Shared → Prop}, deep x ≤ n → isKey x = true → Rep w s.heap.get? v x →
    Q true s → wpAny (model prog w) A (eqIsQuiet n v) Q E s := by
  intro n
  induction n with
  | zero =>
    intro A E s v x Q hd hk r h
    cases r with
    | tup _ _ => unfold deep at hd; omega
    | int i t => rw [eqIsQuiet_byValue _ rfl]; exact wpAny_pure h
    | str x t => rw [eqIsQuiet_byValue _ rfl]; exact wpAny_pure h
    | none => cases hk
    | bool _ => cases hk
    | list _ _ => cases hk
    | dict _ _ _ => cases hk
    | rng _ => cases hk
    | obj _ => cases hk
    | raw _ => cases hk
  | succ n ih =>
    intro A E s v x Q hd hk r h
    cases r with
    | int i t => rw [eqIsQuiet_byValue _ rfl]; exact wpAny_pure h
    | str x t => rw [eqIsQuiet_byValue _ rfl]; exact wpAny_pure h
    | none => cases hk
    | bool _ => cases hk
    | list _ _ => cases hk
    | dict _ _ _ => cases hk
    | rng _ => cases hk
    | obj _ => cases hk
    | raw _ => cases hk
    | @tup a vs m l ho hl =>
      have hdl : deepL l ≤ n := by unfold deep at hd; omega
      have hk' : areKeys l = true := hk
      have hT : s.TypeIs (.ref a) "tuple" := ⟨_, ho, rfl⟩
      unfold eqIsQuiet
      refine wpAny_bind (wpAny_specialOf hT F.slot_tuple_eq.lookup ?_)
      show wpAny _ _ (isInstance (.ref a) (.type "tuple") >>= _) _ _ s
      refine wpAny_bind (wpAny_isInstance hT isSubtype_tuple_tuple ?_)
      simp only [Bool.not_true, Bool.false_eq_true, if_false]
      refine wpAny_bind (wpAny_seqItems ho rfl ?_)
      refine wpAny_bind ?_
      show wpAny _ _ (forIn vs.toArray _ _) _ _ s
      rw [← Array.forIn_toList]
      refine wpAny_forIn_list _ (fun rest r s' => r.1 = none ∧ s' = s ∧ ∃ left, RepL w s.heap.get? rest left ∧ areKeys left = true ∧ deepL left ≤ n) _ ?_ ?_ _ _ ⟨rfl, rfl, l, hl, hk', hdl⟩
      · rintro v rest r s' ⟨hr, rfl, left, hl, hk, hdl⟩
        cases hl with
        | @cons _ _ k ks h1 hl' =>
          unfold areKeys at hk
          rw [Bool.and_eq_true] at hk
          unfold deepL at hdl
          refine wpAny_bind (ih (by omega) hk.1 h1 ?_)
          simp only [Bool.not_true, Bool.false_eq_true, if_false]
          exact wpAny_pure ⟨rfl, rfl, ks, hl', hk.2, by omega⟩
      · rintro ⟨r1, r2⟩ s' ⟨hr, rfl, _⟩
        simp only at hr
        subst hr
        exact wpAny_pure h

theorem tkey_isKey {x : AV} (h : tkey x = true) : isKey x = true := by
  cases x with
  | tup l => unfold tkey at h; rw [Bool.and_eq_true] at h; exact h.1
  | _ => cases h
theorem tkey_deep {x : AV} (h : tkey x = true) : deep x ≤ 2 := by
  cases x with
  | tup l => unfold tkey at h; rw [Bool.and_eq_true] at h; have := of_decide_eq_true h.2; unfold Mine.deep; omega
  | _ => cases h

noncomputable def kd (prog : Program) (w : World) : HeapKind prog w AV where
  is := fun h x a => tkey x = true ∧ Rep w h.get? (.ref a) x
  hash := hK w
  draws := dr
  room := fun A => A.units + 2 < cLine
  inj := fun hx hy => Rep.inj hx.2 (isKey_plain (tkey_isKey hx.1)) hy.2 (isKey_plain (tkey_isKey hy.1))
  keeps := fun x ho hd hs => ⟨x.1, x.2.stays ho hd hs (tkey_isKey x.1)⟩
  pyHash := fun hu hk h => hashes 2 (tkey_deep hk.1) (tkey_isKey hk.1) hk.2 hu h
  eqBool := fun hu hx hy h => by
    rw [← eqA_key (tkey_isKey hx.1) (tkey_isKey hy.1)] at h
    exact eqAt 2 (tkey_deep hx.1) hx.2 hy.2 (isKey_plain (tkey_isKey hx.1)) (isKey_plain (tkey_isKey hy.1)) (fun _ _ e => e) hu _ _ _ _ h
  quiet := fun hk h => quiets 8 (Nat.le_trans (tkey_deep hk.1) (by decide)) (tkey_isKey hk.1) hk.2 h
end Mine

end

section
namespace Mine
open PySem
open scoped Classical

section
variable {prog : Program} {w : World} {A : Around} {E : Value → Shared → Prop} {s : Shared}
theorem raw_iter {d : Addr} {es : Array DictEntry} {ep : Nat} {o : Obj} {Q : Value → Shared → Prop} (hd : (d == sysModules) = false) (ho : s.heap.get? d = some o) (hc : o.cls = .type "dict") (hdat : o.data = .dict es ep)
    (hQ : Q (.ref s.heap.objs.size) { s with heap := s.heap.push { cls := .type "dict_keyiterator", data := .fields #[.ref d, .int 0 0, .int es.size 0, .int ep 0] } }) : wpAny (model prog w) A (pyIter (.ref d)) Q E s := by
  have hT : s.TypeIs (.ref d) "dict" := ⟨o, ho, hc⟩
  refine wpAny_pyIter_slot hT F.slot_dict_iter (wpAny_call_entry F.slot_dict_iter hT F.entry_dict_iter ?_ (F.args_dict_iter_1 _))
  unfold Builtin.«dict.__iter__»
  refine wpAny_bind ?_
  unfold Builtin.Dict.dictSlotNone
  refine wpAny_bind (wpAny_notOrdered_dict hT ?_)
  show wpAny _ _ (pure (Value.ref d)) _ _ s
  refine wpAny_pure ?_
  show wpAny _ _ (Builtin.Dict.showsAll d >>= _) _ _ s
  unfold Builtin.Dict.showsAll
  rw [if_neg (by rw [hd]; exact Bool.false_ne_true)]
  refine wpAny_bind (wpAny_pure ?_)
  refine wpAny_bind (wpAny_dictEntries ho hdat ?_)
  refine wpAny_bind (wpAny_dictEpoch ho hdat ?_)
  refine wpAny_bind (wpAny_newObj_type (wpAny_pure ⟨_, rfl, "dict_keyiterator", _, ⟨_, Heap.get?_push_size _ rfl, rfl⟩, F.slot_dict_keyiterator_next.lookup, ?_⟩))
  simpa [rawInt] using hQ

theorem raw_item {it d : Addr} {i ep : Nat} {es : Array DictEntry} {od : Obj} {Q : Option Value → Shared → Prop} (hit : s.heap.IsKeyIter it d i es.size ep) (hod : s.heap.get? d = some od) (hdd : od.data = .dict es ep) (hlt : i < es.size)
    (hQ : ∀ h', h'.IsKeyIter it d (i + 1) es.size ep → Heap.SameBut it s.heap h' → Q (some es[i].key) { s with heap := h' }) : wpAny (model prog w) A (pyNext (.ref it)) Q E s := by
  obtain ⟨o, ho, hc, hd⟩ := id hit
  unfold pyNext
  refine wpAny_bind (wpAny_attempt (wpAny_callSpecial?_slot (name := Str.ofString "__next__") hit.typeIs F.slot_dict_keyiterator_next
    (wpAny_call_entry F.slot_dict_keyiterator_next hit.typeIs F.entry_dict_keyiterator_next ?_ (F.args_dict_keyiterator_next_1 _))))
  refine wpAny_bind (wpAny_pure ?_)
  refine wpAny_bind ?_
  refine wpAny_bind ?_
  first | refine wpAny_bind (wpAny_typeNameOfWhole_keyiter hit.typeIs (wpAny_pure ?_)) | refine wpAny_bind (wpAny_typeNameOf_keyiter hit.typeIs (wpAny_pure ?_))
  refine wpAny_bind (wpAny_fieldsOf ho hd ?_)
  have hown : Builtin.Dict_items.ownsTuple "dict_keyiterator" = false := by decide
  simp only [hown, Bool.false_eq_true, if_false]
  show wpAny _ _ (if (Value.ref d == Value.none) = true then _ else _) _ _ s
  rw [if_neg (show ¬ ((Value.ref d == Value.none) = true) from Bool.false_ne_true)]
  refine wpAny_bind (wpAny_pure ?_)
  refine wpAny_bind (wpAny_dictEntries hod hdd ?_)
  rw [if_neg (by simp)]
  refine wpAny_bind (wpAny_pure ?_)
  refine wpAny_bind (wpAny_dictEpoch hod hdd ?_)
  rw [if_neg (by simp)]
  refine wpAny_pure ?_
  simp only [show ¬ ((i : Int) < 0) from by omega, if_false, Int.toNat_natCast, Array.getElem?_eq_getElem hlt]
  refine wpAny_bind ?_
  first | refine wpAny_bind (wpAny_typeNameOfWhole_keyiter hit.typeIs (wpAny_pure ?_)) | refine wpAny_bind (wpAny_typeNameOf_keyiter hit.typeIs (wpAny_pure ?_))
  refine wpAny_bind (wpAny_isOneOf_keyiter hit.typeIs ?_)
  show wpAny _ _ (setField (.ref it) 1 (rawInt ((i : Int) + 1)) >>= _) _ _ s
  refine wpAny_bind (wpAny_setField ho hd (by simp) ?_)
  have hit' : (s.heap.update it (Obj.mapFields (·.setIfInBounds 1 (rawInt ((i : Int) + 1))))).IsKeyIter it d (i + 1) es.size ep :=
    ⟨_, Heap.get?_update_self _ ho (Obj.isFreed_of_fields (Obj.data_mapFields hd _)), (Obj.cls_mapFields ..).trans hc, by rw [Obj.data_mapFields hd]; simp [rawInt]⟩
  refine wpAny_bind (wpAny_holding ?_)
  refine wpAny_bind (wpAny_isOneOf_keyiter (s := { s with heap := s.heap.update it (Obj.mapFields (·.setIfInBounds 1 (rawInt ((i : Int) + 1)))) }) hit'.typeIs ?_)
  show wpAny _ _ (pure es[i].key) _ _ _
  exact wpAny_pure (wpAny_pure ⟨_, rfl, wpAny_pure (hQ _ hit' (Heap.SameBut.update ..))⟩)

theorem raw_end {it d : Addr} {i ep : Nat} {es : Array DictEntry} {od : Obj} {Q : Option Value → Shared → Prop} (hh : A.handled = none) (hit : s.heap.IsKeyIter it d i es.size ep) (hod : s.heap.get? d = some od) (hdd : od.data = .dict es ep) (hge : es.size ≤ i)
    (hQ : ∀ h', Heap.ExtBut it s.heap h' → Q none { s with heap := h' }) : wpAny (model prog w) A (pyNext (.ref it)) Q E s := by
  obtain ⟨o, ho, hc, hd⟩ := id hit
  unfold pyNext
  refine wpAny_bind (wpAny_attempt (wpAny_callSpecial?_slot (name := Str.ofString "__next__") hit.typeIs F.slot_dict_keyiterator_next
    (wpAny_call_entry F.slot_dict_keyiterator_next hit.typeIs F.entry_dict_keyiterator_next ?_ (F.args_dict_keyiterator_next_1 _))))
  refine wpAny_bind (wpAny_pure ?_)
  refine wpAny_bind ?_
  refine wpAny_bind ?_
  first | refine wpAny_bind (wpAny_typeNameOfWhole_keyiter hit.typeIs (wpAny_pure ?_)) | refine wpAny_bind (wpAny_typeNameOf_keyiter hit.typeIs (wpAny_pure ?_))
  refine wpAny_bind (wpAny_fieldsOf ho hd ?_)
  have hown : Builtin.Dict_items.ownsTuple "dict_keyiterator" = false := by decide
  simp only [hown, Bool.false_eq_true, if_false]
  show wpAny _ _ (if (Value.ref d == Value.none) = true then _ else _) _ _ s
  rw [if_neg (show ¬ ((Value.ref d == Value.none) = true) from Bool.false_ne_true)]
  refine wpAny_bind (wpAny_pure ?_)
  refine wpAny_bind (wpAny_dictEntries hod hdd ?_)
  rw [if_neg (by simp)]
  refine wpAny_bind (wpAny_pure ?_)
  refine wpAny_bind (wpAny_dictEpoch hod hdd ?_)
  rw [if_neg (by simp)]
  refine wpAny_pure ?_
  simp only [show ¬ ((i : Int) < 0) from by omega, if_false, Int.toNat_natCast, Array.getElem?_eq_none hge]
  refine wpAny_bind ?_
  first | refine wpAny_bind (wpAny_typeNameOfWhole_keyiter hit.typeIs (wpAny_pure ?_)) | refine wpAny_bind (wpAny_typeNameOf_keyiter hit.typeIs (wpAny_pure ?_))
  show wpAny _ _ (setField (.ref it) 0 .none >>= _) _ _ s
  refine wpAny_bind (wpAny_setField ho hd (by simp) ?_)
  show wpAny _ _ (newExc (.type "StopIteration") [] >>= _) _ _ _
  refine wpAny_bind ?_
  simp only [newExc, newTuple]
  refine wpAny_bind (wpAny_newObj_type ?_ (by size_fits))
  refine wpAny_bind (m := firstArgMember _ _) (wpAny_of_eq (a := Value.none) (by first | rfl | (simp only [firstArgMember]; rfl)) ?_)
  refine wpAny_newObj_type ?_ (by size_fits)
  simp only [raiseNew]
  refine wpAny_bind (wpAny_handled ?_)
  rw [show A.in1.handled = none from hh]
  refine wpAny_bind (wpAny_pure (wpAny_throw ?_))
  refine wpAny_bind (wpAny_isInstance (T := "StopIteration") (b := true) ⟨_, Heap.get?_push_size _ rfl, rfl⟩ isSubtype_stop ?_)
  exact wpAny_pure (hQ _ (((Heap.SameBut.update ..).extBut.push _).push _))

theorem raw_walks (hh : A.handled = none) (I d : Addr) (hne : d ≠ I) (es : List DictEntry) (ep : Nat) :
    Walks prog w A I [I, d] [I] es.length (fun i v => (es[i]?).map (·.key) = some v) (fun i h => h.IsKeyIter I d i es.toArray.size ep ∧ h.get? d = some (dctO es ep)) where
  sub := fun b hb => by simp at hb; simp [hb]
  frame := fun _ _ _ st hk => ⟨st.1.at fun o e => hk I (by simp) o e, hk d (by simp) _ st.2⟩
  item := fun i s Q E hi st hQ => by
    refine raw_item st.1 st.2 rfl (by simpa using hi) fun h' hit' hs' => ?_
    exact hQ _ h' s.toks (by simp [hi]) ⟨hit', (hs'.2 d hne).trans st.2⟩ fun b o hb e => hs'.extBut b o (fun h => hb (by simp [h])) e
  done := fun s Q E st hQ => raw_end hh st.1 st.2 rfl (by simp) fun h' he' => hQ h' s.toks fun b o hb e => he' b o (fun h => hb (by simp [h])) e
  self := fun _ _ _ _ st hQ => wpAny_pyIter_keyiter st.1 hQ
theorem raw_src {d : Addr} {es : List DictEntry} {ep : Nat} (lo : (d == sysModules) = false) : PySem.W.KdlSrc prog w "dict" d d es.length (fun i v => (es[i]?).map (·.key) = some v) (fun h => h.get? d = some (dctO es ep)) where
  type := fun _ hm => ⟨_, hm, rfl⟩
  there := fun _ hm => ⟨Heap.lt_size hm, Heap.lt_size hm⟩
  keep := fun _ _ hm hk => hk d (.inl rfl) _ hm
  notList := by decide
  notTuple := by decide
  hint := fun _ _ _ _ hm hq => PySem.W.kdl_hint_dict ⟨_, hm, rfl⟩ hq
  iter := fun A s hh hm => ⟨_, _, (fun _ _ hq => raw_iter lo hm rfl rfl hq), raw_walks hh _ d (Nat.ne_of_lt (Heap.lt_size hm)) es ep, ⟨⟨_, Heap.get?_push_size _ rfl, rfl, rfl⟩, Heap.get?_push_of_some _ hm⟩⟩
end
end Mine

end

section
namespace Mine
open PySem
open scoped Classical
variable {g : Gx} {c : Cx g} {ρ : Rho} {σ : Sto}

def tkeys (l : List (AV × AV)) : Prop := ∀ p ∈ l, tkey p.1 = true
inductive Xs (w : World) (F : Fz) : List (AV × Addr × Value) → List (AV × AV) → Prop
  | nil : Xs w F [] []
  | cons {x : AV} {a : Addr} {v : Value} {y : AV} {xs : List (AV × Addr × Value)} {l : List (AV × AV)} : tkey x = true → Rep w F (.ref a) x → Rep w F v y → Xs w F xs l → Xs w F ((x, a, v) :: xs) ((x, y) :: l)
section
variable {prog : Program} {w : World} {F : Fz}
theorem xs_of (prog : Program) : ∀ {es : List DictEntry} {l : List (AV × AV)}, RepE w F es l → tkeys l → ∃ xs, Xs w F xs l ∧ es = xs.map (entryOfKey (kd prog w))
  | _, _, .nil, _ => ⟨[], .nil, rfl⟩
  | _, _, .cons (k := k) (v := v) (x := x) hk r1 r2 r, t => by
    obtain ⟨xs, h1, h2⟩ := xs_of prog r fun p hp => t p (List.mem_cons_of_mem _ hp)
    have tk : tkey x = true := t _ List.mem_cons_self
    have : ∃ a, k = .ref a := by
      cases r1 with
      | tup _ _ => exact ⟨_, rfl⟩
      | _ => cases tk
    obtain ⟨a, rfl⟩ := this
    exact ⟨(x, a, v) :: xs, .cons tk r1 r2 h1, by rw [h2]; rfl⟩
theorem Xs.repE : ∀ {xs : List (AV × Addr × Value)} {l : List (AV × AV)}, Xs w F xs l → RepE w F (xs.map (entryOfKey (kd prog w))) l
  | _, _, .nil => .nil
  | _, _, .cons t r1 r2 r => .cons (tkey_isKey t) r1 r2 r.repE
theorem Xs.keys : ∀ {xs : List (AV × Addr × Value)} {l : List (AV × AV)}, Xs w F xs l → xs.map (·.1) = l.map (·.1)
  | _, _, .nil => rfl
  | _, _, .cons t r1 r2 r => by rw [List.map_cons, List.map_cons, r.keys]
theorem Xs.length {xs : List (AV × Addr × Value)} {l : List (AV × AV)} (h : Xs w F xs l) : xs.length = l.length := by
  have := congrArg List.length h.keys
  simpa using this
theorem Xs.is {h : Heap} (hF : F.le h.get?) : ∀ {xs : List (AV × Addr × Value)} {l : List (AV × AV)}, Xs w F xs l → ∀ x ∈ xs, (kd prog w).is h x.1 x.2.1
  | _, _, .nil, _, hx => by cases hx
  | _, _, .cons t r1 r2 r, x, hx => by
    rcases List.mem_cons.mp hx with rfl | hx
    · exact ⟨t, r1.mono hF⟩
    · exact Xs.is hF r x hx

noncomputable def dget (l : List (AV × AV)) (k : AV) : Option AV := (l.find? fun p => decide (p.1 = k)).map (·.2)
noncomputable def dset (l : List (AV × AV)) (k v : AV) : List (AV × AV) := if (dget l k).isSome then l.map (fun p => if p.1 = k then (p.1, v) else p) else l ++ [(k, v)]

theorem Xs.get (k : AV) : ∀ {xs : List (AV × Addr × Value)} {l : List (AV × AV)}, Xs w F xs l → (dget l k = Option.none ∧ atKey xs k = none) ∨ ∃ y p, dget l k = some y ∧ atKey xs k = some p ∧ Rep w F p.2 y
  | _, _, .nil => .inl ⟨rfl, rfl⟩
  | _, _, .cons (x := x) (a := a) (v := v) (y := y) t r1 r2 r => by
    by_cases e : x = k
    · refine .inr ⟨y, (a, v), ?_, ?_, r2⟩
      · simp [dget, e]
      · simp [atKey, e]
    · rcases r.get k with ⟨h1, h2⟩ | ⟨y', p, h1, h2, h3⟩
      · refine .inl ⟨?_, ?_⟩
        · simp only [dget, List.find?_cons, decide_eq_false e]; exact h1
        · simp only [atKey, List.find?_cons, decide_eq_false e]; exact h2
      · refine .inr ⟨y', p, ?_, ?_, h3⟩
        · simp only [dget, List.find?_cons, decide_eq_false e]; exact h1
        · simp only [atKey, List.find?_cons, decide_eq_false e]; exact h2
theorem Xs.append : ∀ {xs ys : List (AV × Addr × Value)} {l m : List (AV × AV)}, Xs w F xs l → Xs w F ys m → Xs w F (xs ++ ys) (l ++ m)
  | _, _, _, _, .nil, h => h
  | _, _, _, _, .cons t r1 r2 r, h => .cons t r1 r2 (r.append h)
theorem Xs.put {k : AV} {v : Value} {y : AV} (hr : Rep w F v y) : ∀ {xs : List (AV × Addr × Value)} {l : List (AV × AV)}, Xs w F xs l → Xs w F (xs.map (putAt k v)) (l.map fun p => if p.1 = k then (p.1, y) else p)
  | _, _, .nil => .nil
  | _, _, .cons (x := x) t r1 r2 r => by
    rw [List.map_cons, List.map_cons]
    by_cases e : x = k
    · simp only [putAt, e, if_true]
      subst e
      exact .cons t r1 hr (r.put hr)
    · simp only [putAt, e, if_false]
      exact .cons t r1 r2 (r.put hr)
theorem Xs.stored {k : AV} {a : Addr} {v : Value} {y : AV} (tk : tkey k = true) (ra : Rep w F (.ref a) k) (hr : Rep w F v y) {xs : List (AV × Addr × Value)} {l : List (AV × AV)} (h : Xs w F xs l) : Xs w F (storedH xs k a v) (dset l k y) := by
  unfold storedH dset
  rcases h.get k with ⟨h1, h2⟩ | ⟨y', p, h1, h2, h3⟩
  · rw [h1, h2]
    simp only [Option.isSome_none, Bool.false_eq_true, if_false]
    exact h.append (.cons tk ra hr .nil)
  · rw [h1, h2]
    simp only [Option.isSome_some, if_true]
    exact h.put hr
theorem dset_nodup {l : List (AV × AV)} {k v : AV} (h : (l.map (·.1)).Nodup) : ((dset l k v).map (·.1)).Nodup := by
  unfold dset
  split
  · have : (l.map fun p => if p.1 = k then (p.1, v) else p).map (·.1) = l.map (·.1) := by
      rw [List.map_map]
      refine List.map_congr_left fun p _ => ?_
      simp only [Function.comp]
      split <;> rfl
    rw [this]; exact h
  · rename_i hn
    rw [List.map_append, List.nodup_append]
    refine ⟨h, by simp, fun a ha b hb => ?_⟩
    simp only [List.map_cons, List.map_nil, List.mem_singleton] at hb
    subst hb
    rintro rfl
    obtain ⟨p, hp, e⟩ := List.mem_map.mp ha
    refine hn ?_
    unfold dget
    rw [Option.isSome_map, List.find?_isSome]
    exact ⟨p, hp, by simpa using e⟩
end

theorem repE_keys {w : World} {F : Fz} : ∀ {es : List DictEntry} {l : List (AV × AV)}, RepE w F es l → RepL w F (es.map (·.key)) (l.map (·.1))
  | _, _, .nil => .nil
  | _, _, .cons _ r1 _ r => .cons r1 (repE_keys r)
def Dct (σ : Sto) (x : AV) (l : List (AV × AV)) : Prop := x = .dict l ∨ ∃ a, x = .obj a ∧ σ a = some (.dct l)
theorem Dct.dict {l : List (AV × AV)} : Dct σ (.dict l) l := .inl rfl
theorem Dct.obj {a : Addr} {l : List (AV × AV)} (h : σ a = some (.dct l)) : Dct σ (.obj a) l := .inr ⟨a, rfl, h⟩
theorem Dct.heap {x : AV} {l : List (AV × AV)} {s : Shared} {v : Value} (h : Dct σ x l) (i : c.Inv σ s) (r : Rep g.w (c.F σ s) v x) : ∃ a es n, v = .ref a ∧ s.heap.get? a = some (dctO es n) ∧ RepE g.w (c.F σ s) es l ∧ DOk a l := by
  rcases h with rfl | ⟨a, rfl, ha⟩
  · cases r with
    | dict hF hr ok => exact ⟨_, _, _, rfl, (fz_eq.mp hF).2.2, hr, ok⟩
  · cases r
    obtain ⟨es, n, h1, h2, h3⟩ := i.objs a _ ha
    exact ⟨a, es, n, rfl, h1, h2, h3⟩
theorem Dct.of {x : AV} {l : List (AV × AV)} {s : Shared} {v : Value} (h : Dct σ x l) (tk : tkeys l) (i : c.Inv σ s) (r : Rep g.w (c.F σ s) v x) :
    ∃ a xs, v = .ref a ∧ s.heap.DictOfH (kd g.prog g.w) a xs ∧ Xs g.w (c.F σ s) xs l ∧ (a == sysModules) = false := by
  obtain ⟨a, es, n, rfl, h1, h2, h3⟩ := h.heap i r
  obtain ⟨xs, hx, rfl⟩ := xs_of g.prog h2 tk
  exact ⟨a, xs, rfl, ⟨_, _, n, h1, ⟨rfl, rfl, rfl⟩, rfl, rfl, hx.is fz_sub, by rw [hx.keys]; exact h3.1⟩, hx, h3.2⟩
theorem key_ref {w : World} {F : Fz} {k : AV} {b : Value} (tk : tkey k = true) (r : Rep w F b k) : ∃ a, b = .ref a := by
  cases r with
  | tup _ _ => exact ⟨_, rfl⟩
  | _ => cases tk

theorem sub_dict {value slice : Expr} {x k y : AV} {l : List (AV × AV)} {Q : AV → Sto → Prop} (hx : Dct σ x l) (tl : tkeys l) (tk : tkey k = true) (hy : dget l k = some y) (hu : c.A.units + 3 < cLine) (q : Q y σ) (hn : noSlice slice = true := by rfl) : subT c value slice x k σ Q := fun s a b i r1 r2 => by
  obtain ⟨d, xs, rfl, hd, hX, _⟩ := hx.of tl i r1
  obtain ⟨ka, rfl⟩ := key_ref tk r2
  rcases hX.get k with ⟨h1, _⟩ | ⟨y', p, h1, h2, h3⟩
  · rw [h1] at hy; cases hy
  · rw [h1] at hy; injection hy with hy; subst hy
    exact PyProof.Rows.tail_any hd.typeIs slot_dict_getitem.lookup (wpAny_getItem_heap (knd := kd g.prog g.w) (by show c.A.units + 1 + 2 < cLine; omega) ⟨tk, r2.mono fz_sub⟩ hd h2 ⟨y', σ, i.toks _, .toks .., h3, q⟩) (subscripted_plain hn _ _)

theorem set_dict {a : Addr} {l : List (AV × AV)} {k z : AV} {Q : Sto → Prop} (ha : σ a = some (.dct l)) (tl : tkeys l) (tk : tkey k = true) (hz : l.length ≤ sizeLine) (hu : c.A.units + 3 < cLine) (q : Q (σ.set a (.dct (dset l k z)))) : op3u c (fun a b d => setItem a b d) (.obj a) k z σ Q := fun s u v d i r1 r2 r3 => by
  obtain ⟨a', xs, rfl, hd, hX, hm⟩ := (Dct.obj ha).of tl i r1
  cases r1
  obtain ⟨ka, rfl⟩ := key_ref tk r2
  obtain ⟨_, _, _, _, ok⟩ := i.objs a _ ha
  refine wpAny_setItem_heap (knd := kd g.prog g.w) (by show c.A.units + 1 + 2 < cLine; omega) ⟨tk, r2.mono fz_sub⟩ hd (fun h' hd' hs => ?_) (by rw [hX.length]; exact hz)
  obtain ⟨o, es, ep, ho, ⟨o1, o2, o3⟩, hdat, he, _, _⟩ := hd'
  obtain ⟨o4, o5, o6, o7⟩ := o
  simp only at o1 o2 o3 hdat
  subst o1 o2 o3 hdat
  obtain ⟨h1, h2⟩ := store_upd (tk := s.toks + (kd g.prog g.w).draws k) (y := .dct (dset l k z)) i ha hs ⟨es.toList, ep, by simpa using ho, by rw [he]; exact (hX.stored tk r2 r3).repE, dset_nodup ok.1, ok.2⟩
  exact ⟨(), _, h1, h2, trivial, q⟩

theorem ev_dict0 {pos : Pos} {Q : AV → Sto → Prop} (hs : ∃ f o, sysModules ≤ f ∧ g.H₀.get? f = some o) (h : Q (.dict []) σ ∨ ∀ a, σ a = none → Q (.obj a) (σ.set a (.dct []))) : ev c ρ (.Dict [] [] pos) σ Q := fun s st => by
  refine wpAny_Dict_empty ?_
  have hn := st.inv.fresh (Nat.le_refl s.heap.objs.size)
  have ok : DOk s.heap.objs.size [] := ⟨List.nodup_nil, by
    obtain ⟨f, o, hf, ho⟩ := hs
    have := Heap.lt_size (fz_eq.mp (st.inv.keep _ _ ho)).2.2
    rw [beq_eq_false_iff_ne]; exact fun e => Nat.lt_irrefl f (Nat.lt_of_lt_of_le (e ▸ this) hf)⟩
  rcases h with h | h
  · exact ⟨.dict [], σ, st.inv.keeps (t := s.toks) (push_keeps _ _), .keeps (t := s.toks) (push_keeps _ _), .dict (es := []) (fz_eq.mpr ⟨hn.1, hn.2, Heap.get?_push_size _ rfl⟩) .nil ok, h⟩
  · obtain ⟨h1, h2⟩ := store_new (tk := s.toks) (x := .dct []) st.inv (push_keeps s.heap _) (Nat.le_refl _) (fun F hF => ⟨[], 0, Heap.get?_push_size _ rfl, .nil, ok⟩)
    exact ⟨.obj _, _, h1, h2, .obj _, h _ hn.1⟩

section
variable {Q : AV → Sto → Prop}
theorem cal_listD {x : AV} {l : List (AV × AV)} (hh : c.A.handled = none) (hx : Dct σ x l) (hz : l.length ≤ sizeLine) (q : Made Q (l.map (·.1)) σ) : cal c (.type "list") [x] σ Q := fun s vs i r => by
  cases r with
  | cons r1 r2 =>
    cases r2
    obtain ⟨a, es, n, rfl, hg, hv, ok⟩ := hx.heap i r1
    have hlen : es.length = l.length := hv.length
    refine PySem.W.kdl_call (raw_src ok.2) hh hg (by rw [hlen]; exact hz) fun h' tk acc c' hk hn hacc => ?_
    have : acc = (es.map (·.key)).toArray := by
      refine Array.ext (by rw [hacc.1]; simp) fun j h1 h2 => ?_
      have : (es[j]?).map (·.key) = some acc[j] := hacc.2 j acc[j] (by simp)
      simp only [List.getElem_toArray, List.getElem_map]
      rw [Option.map_eq_some_iff] at this
      obtain ⟨e, he, hke⟩ := this
      have hj : j < es.length := by simpa using h2
      rw [List.getElem?_eq_getElem hj] at he
      injection he with he
      rw [he, hke]
    subst this
    refine made_list (tk := tk) i hk (Nat.le_refl _) hn ?_ q
    exact repE_keys hv

end
end Mine

end

section
namespace Mine
open PySem
open scoped Classical
variable {g : Gx} {c : Cx g} {ρ : Rho} {σ : Sto} {Q : AV → Sto → Prop}

section
variable {prog : Program} {w : World} {A : Around} {E : Value → Shared → Prop} {s : Shared}
theorem raw_len (d : Addr) (hd : (d == sysModules) = false) :
    MeetsIn prog w (Builtin.«dict.__len__» ⟨[.ref d], []⟩) (fun _ R s => ∃ es ep, s.heap.get? d = some (dctO es ep) ∧ R (.ok (.ret (.int es.length s.toks))) { s with toks := s.toks + 1 }) :=
  .of_wp fun A R s ⟨es, ep, ho, h⟩ => by
    show wpAny _ _ (dictSize d >>= _) _ _ s
    unfold dictSize
    refine wpAny_bind (wpAny_bind (wpAny_dictEntries ho rfl (wpAny_pure ?_)))
    show wpAny _ _ (Builtin.Dict.pendingCount d >>= _) _ _ s
    refine wpAny_bind (wpAny_pendingCount_other hd ?_)
    refine wpAny_ret_mkInt ?_
    rw [Nat.add_zero, List.size_toArray]; exact h
theorem raw_call_len {d : Addr} {es : List DictEntry} {ep : Nat} {Q : Value → Shared → Prop} (hd : (d == sysModules) = false) (hm : s.heap.get? d = some (dctO es ep)) (hfit : (es.length : Int) < 2 ^ 63)
    (h : Q (.int es.length (s.toks + 1)) { s with toks := s.toks + 1 + 1 }) : wpAny (model prog w) A (call (.builtin "len") [.ref d]) Q E s := by
  have hT : s.TypeIs (.ref d) "dict" := ⟨_, hm, rfl⟩
  refine Calls.call_function_entry kind_len plain_len entry_len (args_len1 _) ?_
  unfold Builtin.«len»
  refine wpAny_bind (m := oneArg "len" _) (wpAny_pure ?_)
  refine wpAny_bind (m := callSpecial? (.ref d) (Str.ofString "__len__")) (wpAny_callSpecial?_slot (name := Str.ofString "__len__") hT F.slot_dict_len
    (call_meetsIn F.slot_dict_len hT F.entry_dict_len (F.args_dict_len_1 _) (raw_len d hd) ⟨es, ep, hm, ?_⟩))
  show wpAny _ _ _ _ _ { s with toks := s.toks + 1 }
  refine wpAny_bind (wpAny_holding (wpAny_pure ?_))
  refine wpAny_bind (wpAny_letGo ?_)
  show wpAny _ _ (if ((es.length : Nat) : Int) < 0 then _ else _) _ _ _
  rw [if_neg (by omega)]
  show wpAny _ _ (if ((es.length : Nat) : Int) ≥ 2 ^ 63 then _ else _) _ _ _
  rw [if_neg (by omega)]
  exact wpAny_bind (wpAny_mkInt (wpAny_pure ⟨_, rfl, h⟩))

theorem raw_forEmpty {id : String} {d : Addr} {es : List DictEntry} {ep : Nat} {Q : Array DictEntry → Shared → Prop} (ho : s.heap.get? d = some (dctO es ep)) (hk : ∀ e ∈ es, ∃ a, e.key = .ref a ∧ s.TypeIs (.ref a) "tuple") (hn : (es.map (·.hash)).Nodup) (h : Q es.toArray s) :
    wpAny (model prog w) A (Builtin.Dict.entriesForEmpty id d) Q E s := by
  unfold Builtin.Dict.entriesForEmpty
  refine wpAny_bind (wpAny_dictEntries ho rfl ?_)
  refine wpAny_bind ?_
  rw [← Array.forIn_toList]
  refine wpAny_forIn_list _ (fun rest _ s' => s' = s ∧ ∀ e ∈ rest, e ∈ es) _ ?_ ?_ _ _ ⟨rfl, fun e he => by simpa using he⟩
  · rintro e rest b s' ⟨rfl, hr⟩
    obtain ⟨a, ha, hT⟩ := hk e (hr e List.mem_cons_self)
    unfold Builtin.Dict.quietEq
    rw [ha]
    refine wpAny_bind (wpAny_bind (wpAny_specialOf hT F.slot_tuple_eq.lookup (wpAny_pure ?_)))
    have e1 : (some (Value.builtin "tuple.__eq__") == some (Value.builtin "object.__eq__")) = false := by decide
    rw [e1]
    simp only [Bool.not_false, if_true]
    have e2 : ¬ (es.toArray.filter (·.hash == e.hash)).size > 1 := by
      have : (es.toArray.filter (·.hash == e.hash)).size = (es.filter (·.hash == e.hash)).length := by simp
      rw [this]
      have hc : (es.filter (·.hash == e.hash)).length = (es.map (·.hash)).count e.hash := by
        rw [List.count_eq_countP, List.countP_map, List.countP_eq_length_filter]
        rfl
      rw [hc]
      have := List.nodup_iff_count.mp hn e.hash
      omega
    rw [if_neg e2]
    exact wpAny_pure ⟨rfl, fun u hu => hr u (List.mem_cons_of_mem _ hu)⟩
  · rintro b s' ⟨rfl, _⟩
    exact wpAny_pure h

theorem raw_call_dict {o : Addr} {es : List DictEntry} {ep : Nat} {Q : Value → Shared → Prop} (hoS : (o == sysModules) = false) (ho : s.heap.get? o = some (dctO es ep)) (hsz : es.length ≤ sizeLine) (hk : ∀ e ∈ es, ∃ a, e.key = .ref a ∧ s.TypeIs (.ref a) "tuple") (hn : (es.map (·.hash)).Nodup)
    (h : ∀ h' n, h'.get? s.heap.objs.size = some (dctO es n) → (∀ b o, s.heap.get? b = some o → h'.get? b = some o) → Q (.ref s.heap.objs.size) { s with heap := h' }) :
    wpAny (model prog w) A (call (.type "dict") [.ref o]) Q E s := by
  refine callType_codes (Q₁ := fun obj s₁ => obj = .ref s.heap.objs.size ∧ s₁ = { s with heap := s.heap.push { cls := .type "dict", data := .dict #[] } }) F.kt_called_dict (F.kt_typeCall_dict_1 _) F.entry_dict_init (kt_code_dict_new _ ⟨rfl, rfl⟩) ?_
  rintro obj s₁ ⟨rfl, rfl⟩
  have hnew : (s.heap.push { cls := .type "dict", data := .dict #[] }).get? s.heap.objs.size = some (dctO [] 0) := Heap.get?_push_size _ rfl
  have ho' : (s.heap.push { cls := .type "dict", data := .dict #[] }).get? o = some (dctO es ep) := Heap.get?_push_of_some _ ho
  have hTn : ({ s with heap := s.heap.push { cls := .type "dict", data := .dict #[] } } : Shared).TypeIs (.ref s.heap.objs.size) "dict" := ⟨_, hnew, rfl⟩
  have hTo : ({ s with heap := s.heap.push { cls := .type "dict", data := .dict #[] } } : Shared).TypeIs (.ref o) "dict" := ⟨_, ho', rfl⟩
  have hdo : s.heap.objs.size ≠ o := fun e => absurd (Heap.lt_size ho) (by rw [e]; exact Nat.lt_irrefl _)
  refine ⟨hTn, F.args_dict_init_2 _ _, ?_⟩
  unfold Builtin.«dict.__init__»
  refine wpAny_bind ?_
  unfold Builtin.Dict.selfAndRest
  refine wpAny_bind (wpAny_notOrdered_dict hTn ?_)
  show wpAny _ _ (pure (s.heap.objs.size, [Value.ref o])) _ _ _
  refine wpAny_pure ?_
  show wpAny _ _ (Builtin.Dict.updateFrom "dict.__init__" s.heap.objs.size (.ref o) [] .none) _ _ _
  unfold Builtin.Dict.updateFrom
  refine wpAny_bind (wpAny_typeOf hTo ?_)
  rw [if_neg (by decide)]
  refine wpAny_bind ?_
  unfold Builtin.Dict.merge
  refine wpAny_bind ?_
  unfold Builtin.Dict.readDirectly
  refine wpAny_bind (wpAny_isInstance hTo isSubtype_dict_dict ?_)
  simp only [Bool.not_true, Bool.false_eq_true, if_false]
  refine wpAny_bind (wpAny_specialOf hTo F.slot_dict_iter.lookup (wpAny_pure ?_))
  simp only [beq_self_eq_true, if_true]
  refine wpAny_bind (wpAny_pure ?_)
  have fin : ∀ h' n, h'.get? s.heap.objs.size = some (dctO es n) → (∀ b o, s.heap.get? b = some o → h'.get? b = some o) → wpAny (model prog w) A.in1.in1 (Builtin.Dict.addKeywords s.heap.objs.size [] >>= fun _ => ret .none) (fun fin s' => match fin with | .done f => wants (fun r s₂ => r = .none ∧ Q (.ref s.heap.objs.size) s₂) E (.ok f) s' | .again c' => c'.quiet = true ∧ codeAny (model prog w) A.in1 c' (wants (fun r s₂ => r = .none ∧ Q (.ref s.heap.objs.size) s₂) E) s')
        (fun e s' => wants (fun r s₂ => r = .none ∧ Q (.ref s.heap.objs.size) s₂) E (.error e) s') { s with heap := h' } := fun h' n h1 h2 => wpAny_bind (wpAny_pure (wpAny_pure ⟨rfl, h h' n h1 h2⟩))
  unfold Builtin.Dict.mergeDict
  rw [if_neg (by simpa using hdo)]
  unfold Builtin.Dict.showsAll
  rw [if_neg (by rw [hoS]; exact Bool.false_ne_true)]
  refine wpAny_bind (wpAny_pure ?_)
  refine wpAny_bind (wpAny_dictEntries (s := { s with heap := s.heap.push { cls := .type "dict", data := .dict #[] } }) ho' rfl ?_)
  cases es with
  | nil =>
    have e1 : (!(decide ((#[] : Array DictEntry).size ≤ 8) && (#[] : Array DictEntry).all fun e => (keyPart e.key).isSome)) = false := by simp
    rw [if_neg (by simp)]
    refine wpAny_bind (wpAny_dictEpoch (s := { s with heap := s.heap.push { cls := .type "dict", data := .dict #[] } }) ho' rfl ?_)
    refine wpAny_bind (wpAny_dictEntries (s := { s with heap := s.heap.push { cls := .type "dict", data := .dict #[] } }) ho' rfl ?_)
    refine wpAny_bind ?_
    rw [Std.Legacy.Range.forIn_eq_forIn_range']
    exact wpAny_pure (wpAny_pure (fin _ 0 hnew fun b o e => Heap.get?_push_of_some _ e))
  | cons e0 rest =>
    obtain ⟨a0, ha0, _⟩ := hk e0 List.mem_cons_self
    have e1 : ((decide ((e0 :: rest).toArray.size ≤ 8) && (e0 :: rest).toArray.all fun e => (keyPart e.key).isSome)) = false := by
      simp [ha0, keyPart]
    dsimp only
    rw [e1, if_pos (by rfl)]
    refine wpAny_bind (wpAny_dictEntries (s := { s with heap := s.heap.push { cls := .type "dict", data := .dict #[] } }) hnew rfl ?_)
    rw [if_pos (by rfl)]
    refine wpAny_bind (raw_forEmpty ho' (fun e he => ?_) hn ?_)
    · obtain ⟨a, ha, o', ho', hc'⟩ := hk e he
      exact ⟨a, ha, o', Heap.get?_push_of_some _ ho', hc'⟩
    · rw [if_pos (by simp)]
      refine wpAny_bind (wpAny_updateDictKeysTo (s := { s with heap := s.heap.push { cls := .type "dict", data := .dict #[] } }) hnew rfl (wpAny_pure (fin _ 1 ?_ ?_)) (by simp at hsz ⊢; omega))
      · exact Heap.get?_update_self _ hnew rfl
      · intro b o' e
        exact ((Heap.SameBut.update ..).2 b (Nat.ne_of_lt (Heap.lt_size e))).trans (Heap.get?_push_of_some _ e)
end
theorem tup_type {w : World} {F : Fz} {s : Shared} {k : AV} {b : Addr} (hF : F.le s.heap.get?) (tk : tkey k = true) (r : Rep w F (.ref b) k) : s.TypeIs (.ref b) "tuple" := by
  cases r with
  | tup h _ => exact ⟨_, hF _ _ h, rfl⟩
  | _ => cases tk

theorem cal_lenD {x : AV} {l : List (AV × AV)} (hx : Dct σ x l) (hz : (l.length : Int) < 2 ^ 63) (q : Q (.int l.length) σ) : cal c (.builtin "len") [x] σ Q := fun s vs i r => by
  cases r with
  | cons r1 r2 =>
    cases r2
    obtain ⟨a, es, n, rfl, hg, hv, ok⟩ := hx.heap i r1
    have hlen : es.length = l.length := hv.length
    refine raw_call_len ok.2 hg (by rw [hlen]; exact hz) ⟨.int l.length, σ, i.toks _, .toks .., ?_, q⟩
    rw [hlen]; exact .int _ _
theorem repE_hash {w : World} {F : Fz} : ∀ {es : List DictEntry} {l : List (AV × AV)}, RepE w F es l → es.map (·.hash) = l.map fun p => hK w p.1
  | _, _, .nil => rfl
  | _, _, .cons _ r1 _ r => by rw [List.map_cons, List.map_cons, repE_hash r]
theorem repE_tup {w : World} {F : Fz} {s : Shared} (hF : F.le s.heap.get?) : ∀ {es : List DictEntry} {l : List (AV × AV)}, RepE w F es l → tkeys l → ∀ e ∈ es, ∃ a, e.key = .ref a ∧ s.TypeIs (.ref a) "tuple"
  | _, _, .nil, _, _, h => by cases h
  | _, _, .cons _ r1 _ r, t, e, h => by
    rcases List.mem_cons.mp h with rfl | h
    · have tk := t _ List.mem_cons_self
      obtain ⟨a, rfl⟩ := key_ref tk r1
      exact ⟨a, rfl, tup_type hF tk r1⟩
    · exact repE_tup hF r (fun p hp => t p (List.mem_cons_of_mem _ hp)) e h
theorem new_ok {s : Shared} {l : List (AV × AV)} (i : c.Inv σ s) (hs : ∃ f o, sysModules ≤ f ∧ g.H₀.get? f = some o) (hn : (l.map (·.1)).Nodup) : DOk s.heap.objs.size l := ⟨hn, by
    obtain ⟨f, o, hf, ho⟩ := hs
    have := Heap.lt_size (fz_eq.mp (i.keep _ _ ho)).2.2
    rw [beq_eq_false_iff_ne]; exact fun e => Nat.lt_irrefl f (Nat.lt_of_lt_of_le (e ▸ this) hf)⟩
def MadeD (Q : AV → Sto → Prop) (l : List (AV × AV)) (σ : Sto) : Prop := Q (.dict l) σ ∨ ∀ a, σ a = none → Q (.obj a) (σ.set a (.dct l))
theorem made_dict {s : Shared} {h' : Heap} {tk : Nat} {D : Addr} {es : List DictEntry} {n : Nat} {l : List (AV × AV)} (i : c.Inv σ s) (hk : ∀ b o, s.heap.get? b = some o → h'.get? b = some o) (hD : s.heap.objs.size ≤ D) (hg : h'.get? D = some (dctO es n))
    (r : RepE g.w (c.F σ s) es l) (ok : DOk D l) (q : MadeD Q l σ) : ∃ x σ', c.Inv σ' { s with heap := h', toks := tk } ∧ c.Ev σ s σ' { s with heap := h', toks := tk } ∧ Rep g.w (c.F σ' { s with heap := h', toks := tk }) (.ref D) x ∧ Q x σ' := by
  have hn := i.fresh hD
  rcases q with q | q
  · exact ⟨.dict l, σ, i.keeps hk, .keeps hk, .dict (fz_eq.mpr ⟨hn.1, hn.2, hg⟩) (r.mono (keep_fz hk)) ok, q⟩
  · obtain ⟨h1, h2⟩ := store_new (tk := tk) (x := .dct l) i hk hD (fun F hF => ⟨es, n, hg, r.mono hF, ok⟩)
    exact ⟨.obj D, _, h1, h2, .obj D, q D hn.1⟩
theorem cal_dictD {x : AV} {l : List (AV × AV)} (hs : ∃ f o, sysModules ≤ f ∧ g.H₀.get? f = some o) (hx : Dct σ x l) (tl : tkeys l) (hz : l.length ≤ sizeLine) (hn : (l.map fun p => hK g.w p.1).Nodup) (q : MadeD Q l σ) : cal c (.type "dict") [x] σ Q := fun s vs i r => by
  cases r with
  | cons r1 r2 =>
    cases r2
    obtain ⟨a, es, n, rfl, hg, hv, ok⟩ := hx.heap i r1
    refine raw_call_dict ok.2 hg (by rw [hv.length]; exact hz) (repE_tup fz_sub hv tl) (by rw [repE_hash hv]; exact hn) fun h' n' h1 h2 => ?_
    exact made_dict (tk := s.toks) i h2 (Nat.le_refl _) h1 hv (new_ok i hs ok.1) q
theorem op_addt {l m : List AV} (hl : l ≠ []) (hm : m ≠ []) (hz : l.length + m.length ≤ sizeLine) (q : Q (.tup (l ++ m)) σ) : op2 c (binaryOp .Add) (.tup l) (.tup m) σ Q := fun s u v i r1 r2 => by
  cases r1 with
  | @tup a us n _ h1 hv =>
    cases r2 with
    | @tup b ws k _ h2 hw =>
      have n1 : us ≠ [] := by rintro rfl; cases hv; exact hl rfl
      have n2 : ws ≠ [] := by rintro rfl; cases hw; exact hm rfl
      refine P.add_tuple (items := us.toArray) (items2 := ws.toArray) (fz_sub _ _ h1) (fz_sub _ _ h2) (by simpa using n1) (by simpa using n2) ?_ (by rw [List.size_toArray, List.size_toArray, hv.length, hw.length]; exact hz)
      have hn := i.fresh (Nat.le_refl s.heap.objs.size)
      refine ⟨.tup (l ++ m), σ, i.keeps (t := s.toks) (push_keeps _ _), .keeps (t := s.toks) (push_keeps _ _), .tup (vs := us ++ ws) (n := 0) (fz_eq.mpr ⟨hn.1, hn.2, ?_⟩) ((hv.append hw).mono (keep_fz (push_keeps _ _))), q⟩
      rw [show us.toArray ++ ws.toArray = (us ++ ws).toArray by simp]; exact Heap.get?_push_size _ rfl
theorem cal_min {a b : Int} (hh : c.A.handled = none) (q : Q (.int (min a b)) σ) : cal c (.builtin "min") [.int a, .int b] σ Q := fun s vs i r => by
  cases r with
  | cons r1 r2 =>
    cases r2 with
    | cons r2 r3 =>
      cases r3; cases r1; cases r2
      refine min_two_ints hh fun h' tk hk => ⟨.int (min a b), σ, i.keeps hk, .keeps hk, ?_, q⟩
      by_cases h : b < a
      · rw [if_pos h, show min a b = b by omega]; exact .int _ _
      · rw [if_neg h, show min a b = a by omega]; exact .int _ _
end Mine

end

section
namespace Mine
open PySem
variable {g : Gx} {c : Cx g} {ρ : Rho} {σ : Sto}

theorem one_cell {x : Str} : ∀ {names : List (Str × NameKind)} {n : Nat} {acc : List (Str × Addr)} {h : Heap}, names.filter (·.2 == NameKind.cell) = [(x, .cell)] → cellsFrom n names acc = (x, n) :: acc ∧ pushCells h names = h.push { cls := .type "cell", data := .cell none }
  | [], _, _, _, e => by cases e
  | (m, k) :: r, n, acc, h, e => by
    have none_cell : ∀ {names : List (Str × NameKind)} {n : Nat} {acc : List (Str × Addr)} {h : Heap}, names.filter (·.2 == NameKind.cell) = [] → cellsFrom n names acc = acc ∧ pushCells h names = h := by
      intro names
      induction names with
      | nil => intro n acc h _; exact ⟨rfl, rfl⟩
      | cons p r ih =>
        obtain ⟨m, k⟩ := p
        intro n acc h e
        rw [List.filter_cons] at e
        by_cases hk : (k == NameKind.cell) = true
        · rw [if_pos hk] at e; cases e
        · rw [if_neg hk] at e
          unfold cellsFrom pushCells
          rw [if_neg hk, if_neg hk]
          exact ih e
    rw [List.filter_cons] at e
    by_cases hk : (k == NameKind.cell) = true
    · rw [if_pos hk] at e
      injection e with e1 e2
      injection e1 with e1 e3
      subst e1
      unfold cellsFrom pushCells
      rw [if_pos hk, if_pos hk]
      exact none_cell e2
    · rw [if_neg hk] at e
      unfold cellsFrom pushCells
      rw [if_neg hk, if_neg hk]
      exact one_cell e
theorem newEnv_one {prog : Program} {w : World} {A : Around} {E : Value → Shared → Prop} {s : Shared} {scope : Scope} {x : Str} {globals : Addr} {closure : List (Str × Addr)} {qual : Str} {env : Env} {Q : Env → Shared → Prop} (hc : scope.names.filter (·.2 == NameKind.cell) = [(x, .cell)])
    (hQ : Q (newEnv scope s.heap.objs.size globals ((x, s.heap.objs.size + 1) :: closure) qual none .none (some env) builtinsNs) { s with heap := (s.heap.push { cls := .type "dict", data := .dict #[] }).push { cls := .type "cell", data := .cell none } }) :
    wpAny (model prog w) A (newFunctionEnv scope globals closure [] qual none .none (some env)) Q E s := by
  simp only [newFunctionEnv, Option.isSome_some, if_true]
  refine wpAny_bind (wpAny_alloc ?_)
  refine wpAny_bind (wpAny_layCells _ (fun name kind cells => by cases hkc : kind == NameKind.cell <;> simp [hkc]) _ _ _ _ ?_)
  obtain ⟨e1, e2⟩ := one_cell (n := s.heap.objs.size + 1) (acc := closure) (h := s.heap.push { cls := .type "dict", data := .dict #[] }) hc
  rw [show ({ s with heap := s.heap.push { cls := .type "dict", data := .dict #[] } } : Shared).heap.objs.size = s.heap.objs.size + 1 from Heap.size_push .., e1]
  show wpAny _ _ _ _ _ { s with heap := pushCells (s.heap.push { cls := .type "dict", data := .dict #[] }) scope.names }
  rw [e2]
  exact wpAny_bind (wpAny_pure (wpAny_pure hQ))

def compOkC (x : Str) (fr : List Str) (scope sc : Scope) : Bool :=
  (scope.kind == .function) && (scope.names.filter (·.2 == NameKind.cell) == [(x, .cell)]) && scope.names.all (fun y => (y.2 != .free || fr.contains y.1) && (y.2 != .local || scope.names.lookup y.1 == some .local)) &&
  (scope.names.lookup x == some .cell) && !(x == ("__debug__" : Str)) && decide ((x :: fr).Nodup) &&
  fr.all fun n => (relab scope sc).names.lookup n == some .cell
theorem relabN_cell' {sc : Scope} {n x : Str} : ∀ {l : List (Str × NameKind)}, (∀ y ∈ l, y.2 = .cell → y.1 = x) → (relabN sc l).lookup n = some .cell → n = x ∨ (l.lookup n = some .free ∧ sc.names.lookup n = some .cell)
  | [], _, h => by cases h
  | (m, k) :: r, hc, h => by
    unfold relabN at h
    rw [List.lookup_cons]
    by_cases hk : (k == .free && sc.kind == .function && sc.names.lookup m == some .cell) = true
    · rw [if_pos hk, List.lookup_cons] at h
      simp only [Bool.and_eq_true, beq_iff_eq] at hk
      cases hn : n == m with
      | true =>
        have : n = m := by simpa using hn
        subst this
        exact .inr ⟨by rw [hk.1.1], hk.2⟩
      | false => rw [hn] at h; exact relabN_cell' (fun y hy => hc y (List.mem_cons_of_mem _ hy)) h
    · rw [if_neg hk, List.lookup_cons] at h
      cases hn : n == m with
      | true =>
        rw [hn] at h; injection h with h
        have : n = m := by simpa using hn
        exact .inl (this ▸ hc (m, k) List.mem_cons_self h)
      | false => rw [hn] at h; exact relabN_cell' (fun y hy => hc y (List.mem_cons_of_mem _ hy)) h
theorem relabN_keep {sc : Scope} {x : Str} : ∀ {l : List (Str × NameKind)}, l.lookup x = some .cell → (relabN sc l).lookup x = some .cell
  | [], h => by cases h
  | (m, k) :: r, h => by
    unfold relabN
    rw [List.lookup_cons] at h
    by_cases hk : (k == .free && sc.kind == .function && sc.names.lookup m == some .cell) = true
    · rw [if_pos hk, List.lookup_cons]
      cases hn : x == m with
      | true => rfl
      | false => rw [hn] at h; exact relabN_keep h
    · rw [if_neg hk, List.lookup_cons]
      cases hn : x == m with
      | true => rw [hn] at h; exact h
      | false => rw [hn] at h; exact relabN_keep h
theorem compOkC_facts {x : Str} {fr : List Str} {scope sc : Scope} (h : compOkC x fr scope sc = true) : scope.kind = .function ∧ scope.names.filter (·.2 == NameKind.cell) = [(x, .cell)] ∧ (∀ y ∈ scope.names, y.2 = .cell → y.1 = x) ∧ (∀ y ∈ scope.names, y.2 = .free → y.1 ∈ fr) ∧
    (∀ y ∈ scope.names, y.2 = .local → scope.names.lookup y.1 = some .local) ∧ scope.names.lookup x = some .cell ∧ (x == ("__debug__" : Str)) = false ∧ (x :: fr).Nodup ∧ ∀ n ∈ fr, (relab scope sc).names.lookup n = some .cell := by
  simp only [compOkC, Bool.and_eq_true, Bool.not_eq_true', beq_iff_eq, decide_eq_true_eq, List.all_eq_true, Bool.or_eq_true, bne_iff_ne, ne_eq] at h
  obtain ⟨⟨⟨⟨⟨⟨h1, h0⟩, h2⟩, h3⟩, h4⟩, h5⟩, h6⟩ := h
  refine ⟨h1, h0, fun y hy hc => ?_, fun y hy hf => ?_, fun y hy hf => ?_, h3, h4, h5, h6⟩
  · have : y ∈ scope.names.filter (·.2 == NameKind.cell) := List.mem_filter.mpr ⟨hy, by rw [hc]; rfl⟩
    rw [h0] at this
    rw [List.mem_singleton.mp this]
  · rcases (h2 y hy).1 with q | q
    · exact absurd hf q
    · simpa using q
  · rcases (h2 y hy).2 with q | q
    · exact absurd hf q
    · exact q

theorem comp_coreC {elt iter : Expr} {x : Str} {px pos : Pos} {t : Option Expr} {scope : Scope} {fr : Rho} {y : AV} {v : Value} {l : List AV} {s : Shared} {RR : Value → Addr → Result → Shared → Prop} {E : Value → Shared → Prop}
    (J : List AV → List AV → Sto → Prop) (hok : compOkC x (fr.map (·.1)) scope c.sc = true) (hfr : FrIn fr ρ) (st : St c ρ σ s) (r : Rep g.w (c.F σ s) v y) (hit : Iter c y l) (hJ : J l [] σ) (hsz : l.length ≤ sizeLine)
    (turn : ∀ c' : Cx g, c'.A = c.A → c'.sc = relab scope c.sc → ∀ y rest acc σ₁, J (y :: rest) acc σ₁ → evT c' ((x, some y) :: fr) t σ₁ fun b σ₂ => match b with
      | true => ev c' ((x, some y) :: fr) elt σ₂ fun z σ₃ => J rest (acc ++ [z]) σ₃
      | false => J rest acc σ₂)
    (hRR : ∀ D C l' σ' h' tk m vs n, J [] l' σ' → D ∉ c.own → C ∉ c.own → C ≠ D → s.heap.objs.size ≤ D → s.heap.objs.size ≤ C → h'.get? D = some (lstO vs n) →
      RepL g.w (fz h' (C :: D :: c.own) σ') vs l' → h'.Ns C m → (c.F σ s).le (fz h' (C :: D :: c.own) σ') → (∀ a ∈ c.own, ∀ o, s.heap.get? a = some o → h'.get? a = some o) →
      Mine.Inv g.w g.H₀ (C :: D :: c.own) σ' { s with heap := h', toks := tk } → l'.length ≤ l.length → RR (.ref D) C (.ok .next) { s with heap := h', toks := tk }) :
    wpAny g.M c.A (pyIter v) (fun it s₂ => wpAny g.M c.A (newList []) (fun acc s₃ => wpAny g.M c.A (newFunctionEnv scope c.env.globals (closN c.env.cells scope.names []) [] c.env.qual none .none (some c.env)) (fun cenv s₄ =>
      codeAny g.M c.A (.compStart (.ListComp elt [⟨.Name x px, iter, t.toList, 0⟩] scope pos) 0 it acc { cenv with scope := relabel scope c.env }) (RR acc cenv.locals) s₄) E s₃) E s₂) E s := by
  obtain ⟨hkind, hone, hcell, hfree, hnames, hx, hdbg, hnd, hfrk⟩ := compOkC_facts hok
  have hxf : ∀ n ∈ fr.map (·.1), n ≠ x := fun n hn => by rintro rfl; exact (List.nodup_cons.mp hnd).1 hn
  refine wpAny_mono (hit σ s v st.inv r E) (fun it s₂ ⟨I, fp, P, Sx, hI, W, hS, ⟨h₂, tk₂, hs₂⟩, hk, hszI, hlv, hfp, hP⟩ => ?_) fun _ _ e => e
  subst hI
  subst hs₂
  refine wpAny_newObj_type (newEnv_one hone ?_)
  dsimp only
  have hIlt : I < h₂.objs.size := by obtain ⟨o, ho⟩ := hlv 0 _ hS; exact Heap.lt_size ho
  generalize hD : h₂.objs.size = D
  generalize hH2 : h₂.push { cls := .type "list", dict := none, data := .seq ([] : List Value).toArray } = H2
  have hC : H2.objs.size = D + 1 := by rw [← hH2, Heap.size_push, hD]
  generalize hK : H2.objs.size + 1 = K
  generalize hh₁ : (H2.push { cls := .type "dict", data := .dict #[] }).push { cls := .type "cell", data := .cell none } = h₁
  have hns₁ : h₁.Ns H2.objs.size (fun _ => none) := by
    rw [← hh₁]
    exact (Heap.Ns.new H2 _).at' fun o e => Heap.get?_push_of_some _ e
  have hcl₁ : h₁.IsCell K none := ⟨_, by rw [← hh₁, ← hK, show H2.objs.size + 1 = (H2.push { cls := .type "dict", data := .dict #[] }).objs.size from (Heap.size_push ..).symm]; exact Heap.get?_push_size _ rfl, rfl⟩
  have hex₁ : ∀ b o, H2.get? b = some o → h₁.get? b = some o := fun b o e => by rw [← hh₁]; exact Heap.get?_push_of_some _ (Heap.get?_push_of_some _ e)
  generalize hCe : H2.objs.size = C at hns₁ hC hK ⊢
  have hscR : relabel scope c.env = relab scope c.sc := relabel_eq st.fr.sc
  have hfreeC : ∀ y ∈ scope.names, y.2 = .free → ∃ a, c.env.cells.lookup y.1 = some a := fun y hy hf => by
    obtain ⟨p, hp, e⟩ := List.mem_map.mp (hfree y hy hf)
    have h1 := (hfr p hp).1
    rw [e] at h1
    have hk1 := hfrk y.1 (hfree y hy hf)
    have hk2 := ((relabN_cell' hcell hk1).resolve_left (hxf _ (hfree y hy hf))).2
    rcases (st.fr.kinds y.1 h1).2 with q | ⟨_, q⟩
    · rw [hk2] at q; cases q
    · exact q
  generalize hcl : closN c.env.cells scope.names [] = cl
  have hclget : ∀ n a, cl.lookup n = some a → c.env.cells.lookup n = some a := fun n a h => by
    rw [← hcl] at h
    exact (closN_get hfreeC h).resolve_right (by simp)
  have hclhas : ∀ n, scope.names.lookup n = some .free → ∃ a, cl.lookup n = some a := fun n h => by
    rw [← hcl]
    exact Option.isSome_iff_exists.mp (closN_has (.inl h))
  have hDs : s.heap.objs.size ≤ D := by
    rw [← hD]
    exact Nat.le_trans hszI (Nat.le_of_lt hIlt)
  have hIo : I ∉ c.own := (st.inv.fresh hszI).2
  have hDo : D ∉ c.own := (st.inv.fresh hDs).2
  have hCs : s.heap.objs.size ≤ C := by rw [hC]; exact Nat.le_succ_of_le hDs
  have hCo : C ∉ c.own := (st.inv.fresh hCs).2
  have hCD : C ≠ D := by rw [hC]; exact Nat.ne_of_gt (Nat.lt_succ_self _)
  have hKC : K ≠ C := by rw [← hK]; exact Nat.ne_of_gt (Nat.lt_succ_self _)
  have hKD : K ≠ D := by rw [← hK, hC]; exact Nat.ne_of_gt (Nat.lt_succ_of_lt (Nat.lt_succ_self _))
  have hKs : s.heap.objs.size ≤ K := by rw [← hK]; exact Nat.le_succ_of_le hCs
  have hKo : K ∉ c.own := (st.inv.fresh hKs).2
  have hID : I ≠ D := by rw [← hD]; exact Nat.ne_of_lt hIlt
  have hIC : I ≠ C := by rw [hC]; rw [hD] at hIlt; exact Nat.ne_of_lt (Nat.lt_succ_of_lt hIlt)
  have hIK : I ≠ K := by rw [← hK, hC]; rw [hD] at hIlt; exact Nat.ne_of_lt (Nat.lt_succ_of_lt (Nat.lt_succ_of_lt hIlt))
  have old : ∀ b o, h₂.get? b = some o → h₁.get? b = some o := fun b o e => hex₁ b o (hH2 ▸ Heap.get?_push_of_some _ e)
  have oldS : ∀ b o, s.heap.get? b = some o → h₁.get? b = some o := fun b o e => old b o (hk b o e)
  have hacc₁ : h₁.get? D = some (lstO [] 0) := hex₁ _ _ (hH2 ▸ hD ▸ Heap.get?_push_size _ rfl)
  have hS₁ : Sx 0 h₁ := W.frame _ _ _ hS fun b _ o e => old b o e
  -- the comprehension's own context
  generalize hE' : compEnvC scope ((x, K) :: cl) C c.env = env'
  have he1 : env'.scope = relab scope c.sc := by rw [← hE', ← hscR]; rfl
  have he2 : env'.locals = C := by rw [← hE']; rfl
  have he3 : env'.cells = (x, K) :: cl := by rw [← hE']; rfl
  have he6 : ∀ n a, env'.cells.lookup n = some a → (n = x ∧ a = K) ∨ (n ≠ x ∧ cl.lookup n = some a) := fun n a h => by
    rw [he3, List.lookup_cons] at h
    cases hn : n == x with
    | true => rw [hn] at h; exact .inl ⟨by simpa using hn, (Option.some.inj h).symm⟩
    | false => rw [hn] at h; exact .inr ⟨by simpa using hn, h⟩
  have he4 : env'.globals = mainGlobals := by rw [← hE']; exact st.fr.glob
  have he5 : env'.builtins = builtinsNs := by rw [← hE']; exact st.fr.blt
  show codeAny g.M c.A (.compStart (.ListComp elt [⟨.Name x px, iter, t.toList, 0⟩] scope pos) 0 (.ref I) (.ref D) (compEnvC scope ((x, K) :: cl) C c.env)) (RR (.ref D) C) _
  rw [hE']
  let c' : Cx g := ⟨c.A, env', C :: D :: I :: K :: c.own, D :: I :: c.own, notedBy g.M c.A env' fun e s' => RR (.ref D) C (.error e) s', relab scope c.sc, false⟩
  have hF₁ : (c.F σ s).le (fz h₁ c'.own σ) := fun b o e => by
    obtain ⟨e1, e2, e3⟩ := fz_eq.mp e
    have hb := Heap.lt_size e3
    refine fz_eq.mpr ⟨e1, fun hm => ?_, oldS b o e3⟩
    rcases List.mem_cons.mp hm with q | hm
    · exact absurd hb (q ▸ Nat.not_lt.mpr hCs)
    rcases List.mem_cons.mp hm with q | hm
    · exact absurd hb (q ▸ Nat.not_lt.mpr hDs)
    rcases List.mem_cons.mp hm with q | hm
    · exact absurd hb (q ▸ Nat.not_lt.mpr hszI)
    rcases List.mem_cons.mp hm with q | hm
    · exact absurd hb (q ▸ Nat.not_lt.mpr hKs)
    · exact e2 hm
  have inv₁ : c'.Inv σ { s with heap := h₁, toks := tk₂ } := by
    refine ⟨fun b o e => hF₁ b o (st.inv.keep b o e), fun a z e => (st.inv.objs a z e).mono hF₁ fun o e => oldS a o e, fun a ha => ?_, fun a ha => ?_⟩
    · rcases List.mem_cons.mp ha with rfl | ha
      · exact (st.inv.fresh hCs).1
      rcases List.mem_cons.mp ha with rfl | ha
      · exact (st.inv.fresh hDs).1
      rcases List.mem_cons.mp ha with rfl | ha
      · exact (st.inv.fresh hszI).1
      rcases List.mem_cons.mp ha with rfl | ha
      · exact (st.inv.fresh hKs).1
      · exact st.inv.off a ha
    · rcases List.mem_cons.mp ha with rfl | ha
      · obtain ⟨o, _, _, ho, _⟩ := hns₁; exact ⟨o, ho⟩
      rcases List.mem_cons.mp ha with rfl | ha
      · exact ⟨_, hacc₁⟩
      rcases List.mem_cons.mp ha with rfl | ha
      · exact hlv 0 _ hS₁
      rcases List.mem_cons.mp ha with rfl | ha
      · obtain ⟨o, ho, _⟩ := hcl₁; exact ⟨o, ho⟩
      · obtain ⟨o, ho⟩ := st.inv.live a ha; exact ⟨o, oldS a o ho⟩
  have hidS : ∀ a ∈ c'.hid, a ∈ c'.own := fun a ha => by
    simp only [c', List.mem_cons] at ha ⊢
    rcases ha with ha | ha | ha
    · exact .inr (.inl ha)
    · exact .inr (.inr (.inl ha))
    · exact .inr (.inr (.inr (.inr ha)))
  have fr' : Frame c' (((x, (Option.none : Option AV)) :: fr).map (·.1)) := by
    refine ⟨he1, (fun h => by cases h), ?_, he4, he5, ?_, ?_, fun a ha => hidS a ha, fun n a ha => ?_, (fun h => by cases h), fun n hn => ?_, ?_⟩
    · show env'.scope.kind = _; rw [he1]; exact hkind
    · show env'.locals ∈ _; rw [he2]; exact List.mem_cons_self
    · show env'.locals ∉ _
      rw [he2]
      simp only [List.mem_cons, not_or, c']
      exact ⟨hCD, Ne.symm hIC, hCo⟩
    · rcases he6 n a ha with ⟨_, rfl⟩ | ⟨_, ha'⟩
      · exact ⟨List.mem_cons_of_mem _ (List.mem_cons_of_mem _ (List.mem_cons_of_mem _ List.mem_cons_self)), by show a ≠ env'.locals; rw [he2]; exact hKC⟩
      have := (st.fr.cells n a (hclget n a ha')).1
      refine ⟨List.mem_cons_of_mem _ (List.mem_cons_of_mem _ (List.mem_cons_of_mem _ (List.mem_cons_of_mem _ this))), ?_⟩
      show a ≠ env'.locals
      rw [he2]
      rintro rfl
      exact hCo this
    · rcases List.mem_cons.mp hn with rfl | hn
      · refine ⟨hdbg, .inr ⟨relabN_keep hx, K, ?_⟩⟩
        show env'.cells.lookup _ = some K
        rw [he3, List.lookup_cons, beq_self_eq_true]
      · obtain ⟨p, hp, rfl⟩ := List.mem_map.mp hn
        have hk1 := hfrk p.1 hn
        refine ⟨(st.fr.kinds p.1 (hfr p hp).1).1, .inr ⟨hk1, ?_⟩⟩
        show ∃ a, env'.cells.lookup p.1 = some a
        rw [he3, List.lookup_cons, beq_eq_false_iff_ne.mpr (hxf _ hn)]
        exact hclhas p.1 ((relabN_cell' hcell hk1).resolve_left (hxf _ hn)).1
    · exact hnd
  -- the state at a turn
  have mkSt : ∀ {σ' : Sto} {s' : Shared} {m : Str → Option Value} {u : Value} {z : AV}, c'.Inv σ' s' → s'.heap.Ns C m → s'.heap.IsCell K (some u) → Rep g.w (c'.F σ' s') u z → (c.F σ s).le (c'.F σ' s') → (∀ a ∈ c.own, ∀ o, s.heap.get? a = some o → s'.heap.get? a = some o) →
      St c' ((x, some z) :: fr) σ' s' := by
    intro σ' s' m u z hi hn hm hz hle hown
    refine ⟨hi, fr', ⟨m, by show s'.heap.Ns env'.locals m; rw [he2]; exact hn, fun n w' hw hkn => ?_⟩, fun n a hkn ha => ?_⟩
    · have hkn' : (relab scope c.sc).names.lookup n = some .local := hkn
      rcases List.mem_cons.mp hw with e | hw
      · injection e with e1 e2
        subst e1
        have := relabN_keep (sc := c.sc) hx
        rw [show (relab scope c.sc).names.lookup n = some .cell from this] at hkn'; cases hkn'
      · have := hfrk n (List.mem_map.mpr ⟨_, hw, rfl⟩)
        rw [this] at hkn'; cases hkn'
    · have hkn' : (relab scope c.sc).names.lookup n = some .cell := hkn
      rcases he6 n a ha with ⟨rfl, rfl⟩ | ⟨hnx, ha'⟩
      · refine ⟨some u, hm, fun w' hw => ?_⟩
        rcases List.mem_cons.mp hw with e | hw
        · injection e with e1 e2
          injection e2 with e2
          subst e2
          exact ⟨u, rfl, hz⟩
        · exact absurd rfl (hxf n (List.mem_map.mpr ⟨_, hw, rfl⟩))
      have hcn := hclget n a ha'
      obtain ⟨vo, ⟨o, ho, hd⟩, hv⟩ := st.cl n a ((relabN_cell' hcell hkn').resolve_left hnx).2 hcn
      refine ⟨vo, ⟨o, hown a (st.fr.cells n a hcn).1 o ho, hd⟩, fun w' hw => ?_⟩
      rcases List.mem_cons.mp hw with e | hw
      · injection e with e1 e2
        exact absurd e1 hnx
      · obtain ⟨u', e1, e2⟩ := hv w' ((hfr _ hw).2 w' rfl)
        exact ⟨u', e1, e2.mono hle⟩
  have loop : codeAny g.M c.A (.compLoop (.ListComp elt [⟨.Name x px, iter, t.toList, 0⟩] scope pos) 0 (.ref I) (.ref D) env') (RR (.ref D) C) { s with heap := h₁, toks := tk₂ } := by
   refine comp_loop (elt := elt) (iter := iter) (px := px) (pos := pos) (t := t) (scope := scope) (sc' := relab scope c.sc) (R := RR (.ref D) C) (hid' := D :: I :: c.own) (Slot := fun h vo => (∃ m, h.Ns C m) ∧ h.IsCell K vo) (vo₁ := none) (tk₁ := tk₂) J W hlv hfp hP (List.mem_cons_of_mem _ (List.mem_cons_of_mem _ List.mem_cons_self)) (List.mem_cons_of_mem _ List.mem_cons_self) (own' := C :: D :: I :: K :: c.own) (Z := K) (List.mem_cons_of_mem _ (List.mem_cons_of_mem _ (List.mem_cons_of_mem _ List.mem_cons_self))) (fun a ha => List.mem_cons_of_mem _ (List.mem_cons_of_mem _ (List.mem_cons_of_mem _ (List.mem_cons_of_mem _ ha)))) hDo hKo hIo hID hIK hKD hKs hsz
    (fun ⟨⟨m, hn⟩, o, ho, hd⟩ hk => ⟨⟨m, hn.at' (hk C List.mem_cons_self hCD (Ne.symm hIC))⟩, o, hk K (List.mem_cons_of_mem _ (List.mem_cons_of_mem _ (List.mem_cons_of_mem _ List.mem_cons_self))) hKD (Ne.symm hIK) o ho, hd⟩)
    (fun {s' vo u Q E} ⟨⟨m, hn⟩, hc⟩ hq => by
      refine wpAny_storeName_cell (by rw [he1]; exact hkind) (by unfold Env.kindOf; rw [he1]; exact relabN_keep hx) (by rw [he3, List.lookup_cons, beq_self_eq_true]) hc fun h₄ hc₄ hs₄ => ?_
      exact hq h₄ _ ⟨⟨m, hn.at' fun o e => (hs₄.2 C (Ne.symm hKC)).trans e⟩, hc₄⟩ hs₄ (let ⟨o, ho, _⟩ := hc₄; ⟨o, ho⟩))
    (fun hi ⟨⟨m, hn⟩, hm⟩ hz hle hown => mkSt hi hn hm hz hle hown) (fun y rest acc σ₁ hJ => turn c' rfl rfl y rest acc σ₁ hJ) hS₁ hacc₁ inv₁ ⟨⟨_, hns₁⟩, hcl₁⟩ hF₁ (fun a _ o e => oldS a o e) hJ ?_
   intro acc σ' h' h₃ tk tk₃ vs n vo hJj hDj hi ⟨⟨m, hn⟩, _⟩ hvs hle hown hlen hk₃'
   have le₃ : (fz h' c'.own σ').le (fz h₃ (C :: D :: c.own) σ') := fun b o e => by
     obtain ⟨e1, e2, e3⟩ := fz_eq.mp e
     simp only [c', List.mem_cons, not_or] at e2
     refine fz_eq.mpr ⟨e1, ?_, hk₃' b o e2.2.2.1 e3⟩
     simp only [List.mem_cons, not_or]
     exact ⟨e2.1, e2.2.1, e2.2.2.2.2⟩
   have sub : ∀ a ∈ C :: D :: c.own, a ∈ c'.own ∧ a ≠ I := fun a ha => by
     rcases List.mem_cons.mp ha with rfl | ha
     · exact ⟨List.mem_cons_self, Ne.symm hIC⟩
     rcases List.mem_cons.mp ha with rfl | ha
     · exact ⟨List.mem_cons_of_mem _ List.mem_cons_self, Ne.symm hID⟩
     · exact ⟨List.mem_cons_of_mem _ (List.mem_cons_of_mem _ (List.mem_cons_of_mem _ (List.mem_cons_of_mem _ ha))), by rintro rfl; exact hIo ha⟩
   have hIin : I ∈ c'.own := List.mem_cons_of_mem _ (List.mem_cons_of_mem _ List.mem_cons_self)
   refine hRR D C acc σ' h₃ tk₃ m vs n (by simpa using hJj) hDo hCo hCD hDs hCs (hk₃' D _ (Ne.symm hID) hDj) (hvs.mono le₃) (hn.at' fun o e => hk₃' _ o (Ne.symm hIC) e) (hle.trans le₃)
     (fun a ha o ho => hk₃' a o (by rintro rfl; exact hIo ha) (hown a ha o ho)) ⟨fun b o e => le₃ b o (hi.keep b o e), fun a z e => (hi.objs a z e).mono le₃ fun o e' => hk₃' a o (by rintro rfl; rw [hi.off _ hIin] at e; cases e) e', fun a ha => hi.off a (sub a ha).1, fun a ha => ?_⟩ hlen
   obtain ⟨o, ho⟩ := hi.live a (sub a ha).1
   exact ⟨o, hk₃' a o (sub a ha).2 ho⟩
  exact codeAny_compStart_list loop (W.self 0 _ _ _ hS₁ loop)

theorem ev_mapC {sc : Scope} {elt iter : Expr} {x : Str} {px pos : Pos} {scope : Scope} {Q : AV → Sto → Prop} (fr : Rho) (J : List AV → List AV → Sto → Prop) (hsc : c.sc = sc) (hok : compOkC x (fr.map (·.1)) scope sc = true) (hfr : FrI fr ρ)
    (h : ev c ρ iter σ fun y σ₁ => ∃ l, Iter c y l ∧ l.length ≤ sizeLine ∧ J l [] σ₁)
    (turn : ∀ c' : Cx g, c'.A = c.A → c'.sc = relab scope sc → ∀ y rest acc σ₁, J (y :: rest) acc σ₁ → ev c' ((x, some y) :: fr) elt σ₁ fun z σ₃ => J rest (acc ++ [z]) σ₃)
    (done : ∀ acc σ₁, J [] acc σ₁ → Q (.list acc) σ₁)
    (hs : ∀ x, foldedSetIterable iter c.env x = pure x := by intro _; rfl) : ev c ρ (.ListComp elt [⟨.Name x px, iter, [], 0⟩] scope pos) σ Q := fun s st => by
  subst hsc
  have hfr' := hfr.frIn
  obtain ⟨hkind, hone, hcell, hfree, hnames, hx, hdbg, hnd, hfrk⟩ := compOkC_facts hok
  have hxf : ∀ n ∈ fr.map (·.1), n ≠ x := fun n hn => by rintro rfl; exact (List.nodup_cons.mp hnd).1 hn
  have hfreeC : ∀ y ∈ scope.names, y.2 = .free → ∃ a, c.env.cells.lookup y.1 = some a := fun y hy hf => by
    obtain ⟨p, hp, e⟩ := List.mem_map.mp (hfree y hy hf)
    have h1 := (hfr' p hp).1
    rw [e] at h1
    have hk2 := ((relabN_cell' hcell (hfrk y.1 (hfree y hy hf))).resolve_left (hxf _ (hfree y hy hf))).2
    rcases (st.fr.kinds y.1 h1).2 with q | ⟨_, q⟩
    · rw [hk2] at q; cases q
    · exact q
  show wpAny _ _ (eval _ _) _ _ _
  rw [eval_ListComp]
  refine wpAny_comprehension_free (use := none) rfl hs (closureFor_eq hfreeC) hkind hnames (wpAny_mono (h s st) (fun v s₁ ⟨y, σ₁, i₁, e₁, r₁, l, hit, hsz, hJ⟩ => ?_) fun _ _ e => e)
  have st₁ := st.ev i₁ e₁
  refine comp_coreC (t := none) (RR := fun acc C => compPost g.M c.A c.E none (fun v s' => ∃ x σ', c.Inv σ' s' ∧ c.Ev σ s σ' s' ∧ Rep g.w (c.F σ' s') v x ∧ Q x σ') acc C) J hok hfr' st₁ r₁ hit hJ hsz (fun c' hA hS y rest acc σ₁ hJ => turn c' hA hS y rest acc σ₁ hJ) ?_
  intro D C l' σ' h' tk m vs n hJ' hDo hCo hCD hDs hCs hDg hvs hn hle hown hi hlen
  refine ⟨m, hn, fun h'' hs'' => ?_⟩
  obtain ⟨i₂, e₂, r₂, d₂, o₂⟩ := comp_end (s := s₁) (tk := tk) hDo hCo hCD hDg hvs hle hown hi hs''
  refine ⟨.list l', σ', i₂, e₁.trans e₂, .list (fz_eq.mpr ⟨o₂, hDo, d₂⟩) r₂, done l' σ' hJ'⟩
end Mine

end

section
namespace Mine
open PySem

section
variable {prog : Program} {w : World} {A : Around} {E : Value → Shared → Prop} {R : Result → Shared → Prop} {I : Addr} {fp : List Addr} {n : Nat} {P : Nat → Value → Prop} {Sx : Nat → Heap → Prop}
def catTo (ws : Nat → List Value) (i : Nat) : List Value := (List.range i).flatMap ws
theorem catTo_succ (ws : Nat → List Value) (i : Nat) : catTo ws (i + 1) = catTo ws i ++ ws i := by
  unfold catTo; rw [List.range_succ, List.flatMap_append]; simp
theorem sub_list_ty {T : String} (h : isSubtype (.type "list") (.type T) = pure false) {s : Shared} {a : Addr} {l : List Value} {n : Nat} {Q : Bool → Shared → Prop} (ha : s.heap.get? a = some (lstO l n)) (hq : Q false s) : wpAny (model prog w) A (isInstance (.ref a) (.type T)) Q E s :=
  wpAny_isInstance (T := "list") (b := false) ⟨_, ha, rfl⟩ h hq
theorem sum_loop (W : Walks prog w A.in1 I fp [I] n P Sx) (ws : Nat → List Value) (S : Addr) (hSf : S ∉ fp) (H : Heap) (hI : ∀ o, H.get? I = some o → False) (hS0 : ∀ o, H.get? S = some o → False) (hlv : ∀ j h, Sx j h → ∃ o, h.get? I = some o) (hit : ∀ j v, j < n → P j v → ∃ a m, v = .ref a ∧ H.get? a = some (lstO (ws j) m)) (t0 : Addr)
    (hz : ∀ j, j ≤ n → (catTo ws j).length ≤ sizeLine) :
    ∀ (k i : Nat) (s : Shared) (tot : Addr) (c m : Nat), n - i = k → i ≤ n → Sx i s.heap → (∀ b o, H.get? b = some o → s.heap.get? b = some o) → s.heap.get? S = some (lstO [.ref tot] c) → s.heap.get? tot = some (lstO (catTo ws i) m) → tot ≠ S → tot ≠ I → (tot = t0 ∨ H.get? tot = none) →
    (∀ h' tk tot m, (∀ b o, H.get? b = some o → h'.get? b = some o) → h'.get? tot = some (lstO (catTo ws n) m) → (tot = t0 ∨ H.get? tot = none) → R (.ok (.ret (.ref tot))) { s with heap := h', toks := tk }) →
    codeAny (model prog w) A (.builtin "sum.loop" ⟨[.ref I, .ref S, rawInt 2, rawInt 0], []⟩) R s := by
  have hSI : S ≠ I := fun h => hSf (W.sub _ (by rw [h]; exact List.mem_singleton_self _))
  intro k
  induction k with
  | zero =>
    intro i s tot c m hk hi hst hH hS htot h1 h2 h3 hR
    have hin : i = n := by omega
    subst hin
    refine codeAny_builtin F.entry_sum_loop ?_
    rw [Around.under_plainId F.plain_sum_loop _]
    show wpAny _ A.in1 (seqItems? (.ref S) >>= _) _ _ s
    refine wpAny_bind (wpAny_seqItems hS rfl ?_)
    show wpAny _ A.in1 (tryCatch (pyNext (.ref I)) _ >>= _) _ _ s
    refine wpAny_bind (wpAny_tryCatch (W.done s _ _ hst fun h' tk hk' => ?_))
    have hk2 : ∀ b o, b ≠ I → s.heap.get? b = some o → h'.get? b = some o := fun b o hb e => hk' b o (by simpa using hb) e
    exact wpAny_pure (hR h' tk tot m (fun b o e => hk2 b o (by rintro rfl; exact hI _ e) (hH b o e)) (hk2 tot _ h2 htot) h3)
  | succ k ih =>
    intro i s tot c m hk hi hst hH hS htot h1 h2 h3 hR
    have hlt : i < n := by omega
    refine codeAny_builtin F.entry_sum_loop ?_
    rw [Around.under_plainId F.plain_sum_loop _]
    show wpAny _ A.in1 (seqItems? (.ref S) >>= _) _ _ s
    refine wpAny_bind (wpAny_seqItems hS rfl ?_)
    show wpAny _ A.in1 (tryCatch (pyNext (.ref I)) _ >>= _) _ _ s
    refine wpAny_bind (wpAny_tryCatch (W.item i s _ _ hlt hst fun v h' tk hP hst' hk' => ?_))
    have hk2 : ∀ b o, b ≠ I → s.heap.get? b = some o → h'.get? b = some o := fun b o hb e => hk' b o (by simpa using hb) e
    have hmono : s.heap.objs.size ≤ h'.objs.size ∨ True := .inr trivial
    obtain ⟨a, m', rfl, ha⟩ := hit i v hlt hP
    have hS' := hk2 S _ hSI hS
    have ht' := hk2 tot _ h2 htot
    have ha' := hk2 a _ (by rintro rfl; exact hI _ ha) (hH a _ ha)
    have haS : a ≠ S := by rintro rfl; exact hS0 _ ha
    show wpAny _ A.in1 ((holding [Value.ref a] (binaryOp .Add (.ref tot) (.ref a))).attempt >>= _) _ _ _
    have hsz := hz (i + 1) hlt
    rw [catTo_succ, List.length_append] at hsz
    refine wpAny_bind (wpAny_attempt (wpAny_holding (PySem.P.add_list (items := (catTo ws i).toArray) (items2 := (ws i).toArray) ht' ha' ?_ (by rw [List.size_toArray, List.size_toArray]; exact hsz))))
    have eN : (catTo ws i).toArray ++ (ws i).toArray = (catTo ws (i + 1)).toArray := by rw [catTo_succ]; simp
    rw [eN]
    generalize hHn : h'.push { cls := .type "list", data := .seq (catTo ws (i + 1)).toArray } = hn
    have hN : hn.get? h'.objs.size = some (lstO (catTo ws (i + 1)) 0) := by rw [← hHn]; exact Heap.get?_push_size _ rfl
    have hkn : ∀ b o, h'.get? b = some o → hn.get? b = some o := fun b o e => by rw [← hHn]; exact Heap.get?_push_of_some _ e
    have hS'' := hkn S _ hS'
    have hNS : h'.objs.size ≠ S := fun e => Nat.lt_irrefl _ (e ▸ Heap.lt_size hS')
    show wpAny _ A.in1 (updateSeq S (fun _ => #[.ref h'.objs.size]) >>= _) _ _ _
    refine wpAny_bind ?_
    refine wpAny_updateSeq hS'' rfl ?_
    have hS2 := Heap.get?_update_self (Obj.mapSeq fun _ => #[Value.ref h'.objs.size]) hS'' rfl
    refine wpAny_bind (wpAny_letGo ?_)
    refine wpAny_bind ?_
    have oth : ∀ b o, b ≠ S → hn.get? b = some o → ((hn.update S (Obj.mapSeq fun _ => #[Value.ref h'.objs.size])).update S (Obj.mapSeq fun _ => #[Value.ref h'.objs.size])).get? b = some o :=
      fun b o hb e => (Heap.get?_update_other _ _ (Ne.symm hb)).trans ((Heap.get?_update_other _ _ (Ne.symm hb)).trans e)
    refine wpAny_updateSeq hS2 rfl (wpAny_pure ⟨plainId_quiet F.plain_sum_loop _, ih (i + 1) _ h'.objs.size _ 0 (by omega) hlt (W.frame _ _ _ hst' fun b hb o e => ?_) (fun b o e => ?_) (Heap.get?_update_self _ hS2 rfl) ?_ hNS ?_ ?_ fun h'' tk'' tot'' m'' hk'' ht'' h4 => ?_⟩)
    · exact oth b o (fun h => hSf (by rw [← h]; exact hb)) (hkn b o e)
    · exact oth b o (by rintro rfl; exact hS0 _ e) (hkn b o (hk2 b o (by rintro rfl; exact hI _ e) (hH b o e)))
    · exact oth _ _ hNS hN
    · intro e
      obtain ⟨o, ho⟩ := hlv _ _ hst'
      exact Nat.lt_irrefl _ (e ▸ Heap.lt_size ho)
    · refine .inr ?_
      cases hq : H.get? h'.objs.size with
      | none => rfl
      | some o => exact absurd (Heap.lt_size (hk2 _ _ (by rintro rfl; exact hI _ hq) (hH _ _ hq))) (Nat.lt_irrefl _)
    · exact hR h'' tk'' tot'' m'' hk'' ht'' h4

theorem args_sum2 (a b : Value) : argsOk "sum" ⟨[a, b], []⟩ := by unfold argsOk; kernel_rfl
theorem call_sum_lists {s : Shared} {x st : Addr} {vs : List Value} {nx ns : Nat} {ws : Nat → List Value} {Q : Value → Shared → Prop} (hh : A.handled = none) (hx : s.heap.get? x = some (lstO vs nx)) (hst : s.heap.get? st = some (lstO [] ns))
    (hit : ∀ j v, vs[j]? = some v → ∃ a m, v = .ref a ∧ s.heap.get? a = some (lstO (ws j) m)) (hz : ∀ j, j ≤ vs.length → (catTo ws j).length ≤ sizeLine)
    (hQ : ∀ h' tk tot m, (∀ b o, s.heap.get? b = some o → h'.get? b = some o) → h'.get? tot = some (lstO (catTo ws vs.length) m) → (tot = st ∨ s.heap.get? tot = none) → Q (.ref tot) { s with heap := h', toks := tk }) :
    wpAny (model prog w) A (call (.builtin "sum") [.ref x, .ref st]) Q E s := by
  refine call_function_tree F.kind_sum F.plain_sum F.entry_sum (args_sum2 _ _) ?_
  unfold Builtin.«sum»
  simp only [List.length_cons, List.length_nil]
  rw [if_neg (by decide)]
  refine wpAny_bind (wpAny_of_eq (show Builtin.Builtins.bindParams "sum" ["start"] 0 { pos := [.ref st] } = pure [some (.ref st)] from rfl) ?_)
  have hl : s.heap.IsList x vs.toArray := ⟨_, hx, rfl, nx, rfl⟩
  have hxlt := Heap.lt_size hx
  refine wpAny_bind (wpAny_pyIter_list hl ?_)
  refine wpAny_bind (wpAny_pure ?_)
  generalize hI : s.heap.objs.size = I
  generalize hh₂ : s.heap.push _ = h₂
  have hk : ∀ b o, s.heap.get? b = some o → h₂.get? b = some o := fun b o e => by rw [← hh₂]; exact Heap.get?_push_of_some _ e
  have hst2 := hk _ _ hst
  simp only [List.forIn_cons, List.forIn_nil]
  refine wpAny_bind (wpAny_bind (wpAny_bind (sub_list_ty PySem.F.sub_list_str hst2 ?_)))
  simp only [Bool.false_eq_true, if_false]
  refine wpAny_pure (wpAny_bind (wpAny_bind (sub_list_ty PySem.F.sub_list_bytes hst2 ?_)))
  simp only [Bool.false_eq_true, if_false]
  refine wpAny_pure (wpAny_bind (wpAny_bind (sub_list_ty PySem.F.sub_list_bytearray hst2 ?_)))
  simp only [Bool.false_eq_true, if_false]
  refine wpAny_pure (wpAny_pure ?_)
  refine wpAny_bind (wpAny_newObj_type ?_)
  have hS2 : h₂.objs.size = I + 1 := by rw [← hh₂, Heap.size_push, hI]
  have W : Walks prog w A.in1 I [I, x] [I] vs.toArray.size (fun i v => vs.toArray[i]? = some v) _ := Walks.list (A := A.in1) hh I x (by rw [← hI]; exact Nat.ne_of_lt hxlt) vs.toArray
  have hSf : h₂.objs.size ∉ [I, x] := by
    simp only [List.mem_cons, List.not_mem_nil, or_false, not_or]
    rw [hS2]
    exact ⟨Nat.ne_of_gt (Nat.lt_succ_self _), by rw [← hI]; exact Nat.ne_of_gt (Nat.lt_succ_of_lt hxlt)⟩
  refine wpAny_pure ⟨plainId_quiet F.plain_sum_loop _, sum_loop (t0 := st) W ws h₂.objs.size hSf s.heap (fun o e => ?_) (fun o e => ?_) (fun j h hx => let ⟨⟨o, ho, _⟩, _⟩ := hx; ⟨o, ho⟩) (fun j v hj hv => hit j v (by simpa using hv)) (fun j hj => hz j (by simpa using hj)) vs.toArray.size 0 _ st 0 ns rfl (Nat.zero_le _) ?_ (fun b o e => Heap.get?_push_of_some _ (hk b o e)) (Heap.get?_push_size _ rfl) (Heap.get?_push_of_some _ hst2) ?_ ?_ (.inl rfl) fun h' tk tot m h1 h2 h3 => hQ h' tk tot m h1 (by simpa using h2) h3⟩
  · exact absurd (Heap.lt_size e) (by rw [hI]; exact Nat.lt_irrefl _)
  · exact absurd (Heap.lt_size e) (by rw [hI, hS2]; exact Nat.not_lt.mpr (Nat.le_succ _))
  · refine ⟨⟨_, Heap.get?_push_of_some _ (by rw [← hh₂, ← hI]; exact Heap.get?_push_size _ rfl), rfl, rfl⟩, ⟨_, Heap.get?_push_of_some _ (hk _ _ hx), rfl, nx, rfl⟩⟩
  · rw [hS2]; exact Nat.ne_of_lt (Nat.lt_succ_of_lt (hI ▸ Heap.lt_size hst))
  · rw [← hI]; exact Nat.ne_of_lt (Heap.lt_size hst)
end

variable {g : Gx} {c : Cx g} {ρ : Rho} {σ : Sto} {Q : AV → Sto → Prop}
theorem repL_lists {w : World} {F : Fz} : ∀ {vs : List Value} {ll : List (List AV)}, RepL w F vs (ll.map .list) → ∃ ws : Nat → List Value, (∀ j v, vs[j]? = some v → ∃ a m, v = .ref a ∧ F a = some (lstO (ws j) m)) ∧ (∀ j, j ≤ vs.length → RepL w F (catTo ws j) (ll.take j).flatten)
  | [], [], _ => ⟨fun _ => [], fun j v h => by simp at h, fun j _ => by
      have : catTo (fun _ => ([] : List Value)) j = [] := by unfold catTo; simp
      rw [this]; simp; exact .nil⟩
  | v :: vs, [], h => by cases h
  | [], l :: ll, h => by cases h
  | v :: vs, l :: ll, h => by
    cases h with
    | cons h1 h2 =>
      cases h1 with
      | @list a us m _ hF hr =>
        obtain ⟨ws, i1, i2⟩ := repL_lists h2
        refine ⟨fun j => if j = 0 then us else ws (j - 1), fun j v' hv => ?_, fun j hj => ?_⟩
        · cases j with
          | zero => simp at hv; subst hv; exact ⟨a, m, rfl, hF⟩
          | succ j => simpa using i1 j v' (by simpa using hv)
        · cases j with
          | zero => exact .nil
          | succ j =>
            have e : catTo (fun j => if j = 0 then us else ws (j - 1)) (j + 1) = us ++ catTo ws j := by
              unfold catTo
              rw [List.range_succ_eq_map, List.flatMap_cons, List.flatMap_map]
              simp
            rw [e, List.take_succ_cons, List.flatten_cons]
            exact hr.append (i2 j (by simpa using hj))
theorem cal_sumL {ll : List (List AV)} (hh : c.A.handled = none) (hz : ll.flatten.length ≤ sizeLine) (q : Q (.list ll.flatten) σ) : cal c (.builtin "sum") [.list (ll.map .list), .list []] σ Q := fun s vs i r => by
  cases r with
  | cons r1 r =>
    cases r with
    | cons r2 r =>
      cases r
      cases r1 with
      | @list x us nx _ h1 hv =>
        cases r2 with
        | @list y ys ny _ h2 hv2 =>
          cases hv2
          obtain ⟨ws, w1, w2⟩ := repL_lists hv
          have hlen : us.length = ll.length := by simpa using hv.length
          refine call_sum_lists (ws := ws) hh (fz_sub _ _ h1) (fz_sub _ _ h2) (fun j v e => ?_) (fun j hj => ?_) fun h' tk tot m hk ht ho => ?_
          · obtain ⟨a, m, e1, e2⟩ := w1 j v e; exact ⟨a, m, e1, fz_sub _ _ e2⟩
          · rw [(w2 j hj).length]
            refine Nat.le_trans ?_ hz
            rw [← List.take_append_drop j ll, List.flatten_append, List.length_append, List.take_append_drop]
            exact Nat.le_add_right _ _
          · have hr := w2 us.length (Nat.le_refl _)
            rw [hlen, List.take_length] at hr
            rw [hlen] at ht
            refine ⟨.list ll.flatten, σ, i.keeps hk, .keeps hk, .list (n := m) (fz_eq.mpr ⟨?_, ?_, ht⟩) (hr.mono (keep_fz hk)), q⟩
            · rcases ho with rfl | ho
              · exact (fz_eq.mp h2).1
              · cases hq : σ tot with
                | none => rfl
                | some x => obtain ⟨o, e⟩ := (i.objs tot x hq).live; rw [ho] at e; cases e
            · rcases ho with rfl | ho
              · exact (fz_eq.mp h2).2.1
              · intro hm; obtain ⟨o, e⟩ := i.live tot hm; rw [ho] at e; cases e
end Mine

end

section
namespace Mine
open PySem
open scoped Classical
variable {g : Gx} {c : Cx g} {ρ : Rho} {σ : Sto} {Q : AV → Sto → Prop}

theorem assign2 {a b : Str} {pa pb pos : Pos} {k : Nat} {x y : AV} {v : Value} {ρ₁ ρ₂ : Rho} {s : Shared} {Q : Unit → Shared → Prop} {E : Value → Shared → Prop} (hs : St c ρ σ s) (hh : c.A.handled = none) (hc : c.isFn = true) (u1 : Upd a x ρ ρ₁) (u2 : Upd b y ρ₁ ρ₂) (r : Rep g.w (c.F σ s) v (.tup [x, y]))
    (q : ∀ s', St c ρ₂ σ s' → EvS c σ s σ s' → Q () s') : wpAny g.M c.A (assign (.Tuple [.Name a pa, .Name b pb] k pos) c.env v) Q E s := by
  cases r with
  | @tup t vs n _ hF hr =>
    cases hr with
    | @cons v1 _ _ _ r1 hr =>
      cases hr with
      | @cons v2 _ _ _ r2 hr =>
        cases hr
        refine wpAny_assign_Tuple (items := #[v1, v2]) hh ⟨_, fz_sub _ _ hF, rfl, n, rfl⟩ rfl rfl fun h' he => ?_
        have hk : ∀ b o, s.heap.get? b = some o → h'.get? b = some o := fun b o e => he b o (Nat.ne_of_lt (Heap.lt_size e)) e
        have hs1 : St c ρ σ { s with heap := h', toks := s.toks } := hs.ev (hs.inv.keeps hk) (.keeps hk)
        have e1 : c.Ev σ s σ { s with heap := h', toks := s.toks } := .keeps hk
        show wpAny _ _ (assignInOrder [assign (.Name a pa) c.env, assign (.Name b pb) c.env] [v1, v2]) _ _ _
        refine wpAny_bind (wpAny_holding (wpAny_assign_Name (store_sound hs1 u1 hc (r1.mono e1.grow) fun s2 hs2 e2 => ?_)))
        refine wpAny_bind (wpAny_holding (wpAny_assign_Name (store_sound hs2 u2 hc (r2.mono (e1.grow.trans e2.grow)) fun s3 hs3 e3 => ?_)))
        exact wpAny_pure (q s3 hs3 (((e1.toS hs.fr.sub).trans e2).trans e3))
theorem es_unpack {a b : Str} {pa pb tpos : Pos} {k : Nat} {value : Expr} {pos : Pos} {Q : AFl → Rho → Sto → Prop} (hh : c.A.handled = none) (h : ev c ρ value σ fun z σ' => ∃ x y ρ₁ ρ₂, z = .tup [x, y] ∧ Upd a x ρ ρ₁ ∧ Upd b y ρ₁ ρ₂ ∧ Q .next ρ₂ σ') (hc : c.isFn = true)
    (hs : swapsWithSole [.Tuple [.Name a pa, .Name b pb] k tpos] value pos.line c.env = pure false := by rfl) (hw : swappedStores [.Tuple [.Name a pa, .Name b pb] k tpos] value c.env = pure none := by rfl) : es c ρ (exec (.Assign [.Tuple [.Name a pa, .Name b pb] k tpos] value pos) c.env) σ Q := fun s st => by
  refine wpAny_Assign_stores (wpAny_mono (h s st) (fun v s₁ ⟨z, σ₁, i₁, e₁, r₁, x, y, ρ₁, ρ₂, hz, u1, u2, q₁⟩ => ?_) fun _ _ e => e) hs hw
  subst hz
  exact assign2 (k := k) (st.ev i₁ e₁) hh hc u1 u2 r₁ fun s' hs' e' => ⟨_, ρ₂, σ₁, hs', (e₁.toS st.fr.sub).trans e', .next, q₁⟩

theorem Xs.at_ {w : World} {F : Fz} {k : AV} {p : Addr × Value} : ∀ {xs : List (AV × Addr × Value)} {l : List (AV × AV)} {j : Nat}, Xs w F xs l → xs[j]? = some (k, p) → ∃ y, l[j]? = some (k, y) ∧ Rep w F p.2 y ∧ Rep w F (.ref p.1) k
  | _, _, j, .nil, h => by simp at h
  | _, _, 0, .cons t r1 r2 r, h => by
    simp only [List.getElem?_cons_zero, Option.some.injEq, Prod.mk.injEq] at h
    obtain ⟨rfl, rfl⟩ := h
    exact ⟨_, by simp, r2, r1⟩
  | _, _, j + 1, .cons t r1 r2 r, h => by simpa using r.at_ (by simpa using h)
theorem nodup_keys {l : List (AV × AV)} {k y y' : AV} {i j : Nat} (hn : (l.map (·.1)).Nodup) (h1 : l[i]? = some (k, y)) (h2 : l[j]? = some (k, y')) : y = y' := by
  have e1 : (l.map (·.1))[i]? = some k := by rw [List.getElem?_map, h1]; rfl
  have e2 : (l.map (·.1))[j]? = some k := by rw [List.getElem?_map, h2]; rfl
  have hi : i < (l.map (·.1)).length := (List.getElem?_eq_some_iff.mp e1).1
  have := (List.getElem?_inj hi hn).mp (e1.trans e2.symm)
  subst this
  rw [h1] at h2
  injection h2 with h2
  injection h2

theorem same_pairs {id : String} {x y : AV} {l : List (AV × AV)} {s : Shared} {u v : Value} {A : Around} {E : Value → Shared → Prop} {Q : Bool → Shared → Prop} (hx : Dct σ x l) (hy : Dct σ y l) (tl : tkeys l) (pl : ∀ p ∈ l, plain p.2 = true ∧ deep p.2 ≤ 4) (hu : A.units + 6 < cLine) (i : c.Inv σ s) (r1 : Rep g.w (c.F σ s) u x) (r2 : Rep g.w (c.F σ s) v y) :
    ∃ a b, u = .ref a ∧ v = .ref b ∧ s.TypeIs u "dict" ∧ s.TypeIs v "dict" ∧ (Q true s → wpAny g.M A (Builtin.Dict.samePairs id a b) Q E s) := by
  obtain ⟨a, ea, na, rfl, ha, ra, oka⟩ := hx.heap i r1
  obtain ⟨b, eb, nb, rfl, hb, rb, okb⟩ := hy.heap i r2
  obtain ⟨xs, hX, rfl⟩ := xs_of g.prog ra tl
  obtain ⟨ys, hY, rfl⟩ := xs_of g.prog rb tl
  refine ⟨a, b, rfl, rfl, ⟨_, ha, rfl⟩, ⟨_, hb, rfl⟩, fun q => ?_⟩
  have l1 := hX.length
  have l2 := hY.length
  unfold Builtin.Dict.samePairs Builtin.Dict.showsAll
  rw [if_neg (by rw [oka.2]; exact Bool.false_ne_true), if_neg (by rw [okb.2]; exact Bool.false_ne_true)]
  refine wpAny_bind (wpAny_pure (wpAny_bind (wpAny_pure ?_)))
  refine wpAny_bind (wpAny_dictEntries ha rfl ?_)
  dsimp only
  refine wpAny_bind (wpAny_dictEntries hb rfl ?_)
  rw [if_neg (by simp [l1, l2])]
  refine wpAny_bind (wpAny_dictEpoch ha rfl ?_)
  refine wpAny_bind ?_
  rw [Std.Legacy.Range.forIn_eq_forIn_range']
  simp only [Std.Legacy.Range.size, Nat.sub_zero, Nat.add_sub_cancel, Nat.div_one]
  refine wpAny_forIn_list _ (fun rest r s' => r.1 = none ∧ s' = s ∧ ∀ j ∈ rest, j < l.length) _ ?_ ?_ _ _ ⟨rfl, rfl, fun j hj => by simpa [l1, List.mem_range'] using hj⟩
  · rintro j rest r s' ⟨hr, rfl, hall⟩
    have hj := hall j List.mem_cons_self
    refine wpAny_bind (wpAny_dictEntries ha rfl ?_)
    have hjx : j < xs.length := by omega
    obtain ⟨⟨k, p⟩, hxj⟩ : ∃ q, xs[j] = q := ⟨_, rfl⟩
    have hxj' : xs[j]? = some (k, p) := by rw [List.getElem?_eq_getElem hjx, hxj]
    have e1 : (xs.map (entryOfKey (kd g.prog g.w))).toArray[j]? = some (entryOfKey (kd g.prog g.w) (k, p)) := by simp [hxj']
    rw [e1]
    obtain ⟨z, hz, rz, rk⟩ := hX.at_ hxj'
    have tk : tkey k = true := tl (k, z) (List.mem_of_getElem? hz)
    refine wpAny_bind (wpAny_holding ?_)
    show wpAny _ _ (dictFind b (.ref p.1) ((kd g.prog g.w).hash k) >>= _) _ _ _
    refine wpAny_bind (wpAny_dictFind_heap (knd := kd g.prog g.w) (xs := ys) (k := k) (by show A.units + 2 < cLine; omega) ⟨tk, rk.mono fz_sub⟩ hb rfl rfl (hY.is fz_sub) (by rw [hY.keys]; exact okb.1) ?_ ?_)
    · intro hno
      exfalso
      have hk : k ∈ ys.map (·.1) := by rw [hY.keys]; exact List.mem_map.mpr ⟨(k, z), List.mem_of_getElem? hz, rfl⟩
      obtain ⟨⟨k', p'⟩, hm, rfl⟩ := List.mem_map.mp hk
      obtain ⟨jj, hjj⟩ := List.mem_iff_getElem?.mp hm
      exact hno jj p' hjj
    · intro j' p' hj'
      obtain ⟨z', hz', rz', _⟩ := hY.at_ hj'
      have ez := nodup_keys oka.1 hz hz'
      subst ez
      refine wpAny_bind (wpAny_dictEntries hb rfl ?_)
      have e2 : (ys.map (entryOfKey (kd g.prog g.w))).toArray[j']? = some (entryOfKey (kd g.prog g.w) (k, p')) := by simp [hj']
      rw [e2]
      obtain ⟨pz, dz⟩ := pl (k, z) (List.mem_of_getElem? hz)
      refine wpAny_holding (eqAt 4 dz rz rz' pz pz fz_sub (by omega) _ _ _ _ ?_)
      rw [eqA_refl pz]
      simp only [Bool.not_true, Bool.false_eq_true, if_false]
      refine wpAny_bind (wpAny_dictEpoch ha rfl ?_)
      rw [if_neg (by simp)]
      exact wpAny_pure ⟨rfl, rfl, fun u hu => hall u (List.mem_cons_of_mem _ hu)⟩
  · rintro ⟨r1, r2⟩ s' ⟨hr, rfl, _⟩
    simp only at hr
    subst hr
    exact wpAny_pure q

theorem cmp_eqd {x y : AV} {l : List (AV × AV)} (hx : Dct σ x l) (hy : Dct σ y l) (tl : tkeys l) (pl : ∀ p ∈ l, plain p.2 = true ∧ deep p.2 ≤ 4) (hu : c.A.units + 8 < cLine) (q : Q (.bool true) σ) : op2 c (compareOp .Eq) x y σ Q := fun s u v i r1 r2 => by
  obtain ⟨a, b, rfl, rfl, h1, h2, h3⟩ := same_pairs (id := "dict.__eq__") (A := c.A.in1) (E := c.E) (Q := fun r s' => wpAny g.M c.A.in1 (ret (.bool (r == true))) (fun fin s' => ∃ v, fin = .done (.ret v) ∧ v ≠ .notImplemented ∧ ∃ x σ', c.Inv σ' s' ∧ c.Ev σ s σ' s' ∧ Rep g.w (c.F σ' s') v x ∧ Q x σ') c.E s') hx hy tl pl (by show c.A.units + 1 + 6 < cLine; omega) i r1 r2
  refine wpAny_richCompare_same_room (op := .Eq) h1 h2 F.slot_dict_eq (wpAny_call_entry F.slot_dict_eq h1 F.entry_dict_eq ?_ (F.args_dict_eq_2 _ _)) (by omega)
  show wpAny _ _ (Builtin.Dict.dictSlotArgs "__eq__" ⟨[.ref a, .ref b], []⟩ >>= _) _ _ s
  unfold Builtin.Dict.dictSlotArgs
  refine wpAny_bind (wpAny_bind (wpAny_notOrdered_dict h1 ?_))
  show wpAny _ _ (pure (Value.ref a, Value.ref b)) _ _ s
  refine wpAny_pure ?_
  show wpAny _ _ (isInstance (.ref b) (.type "dict") >>= _) _ _ s
  refine wpAny_bind (wpAny_isInstance h2 isSubtype_dict_dict ?_)
  simp only [Bool.not_true, Bool.false_eq_true, if_false]
  show wpAny _ _ (Builtin.Dict.samePairs "dict.__eq__" a b >>= _) _ _ s
  refine wpAny_bind (h3 ?_)
  exact wpAny_pure ⟨_, rfl, (fun e => nomatch e), _, σ, i, .refl .., .bool _, q⟩
end Mine

end

section
namespace Mine
open PySem
variable {g : Gx} {c : Cx g} {ρ : Rho} {σ : Sto} {Q : AV → Sto → Prop}

theorem ev_filtP {α : Type} {sc : Scope} {elt iter test : Expr} {x : Str} {px pos : Pos} {scope : Scope} (fr : Rho) (inj : α → AV) (l : List α) (p : α → Bool) (f : α → AV) (hsc : c.sc = sc) (hok : compOk x (fr.map (·.1)) scope sc = true) (hfr : FrI fr ρ) (hz : l.length ≤ sizeLine)
    (h : ev c ρ iter σ fun y σ₁ => σ₁ = σ ∧ Iter c y (l.map inj))
    (turn : ∀ c' : Cx g, c'.A = c.A → c'.sc = relab scope sc → ∀ a ∈ l, evb c' ((x, some (inj a)) :: fr) test σ (fun b σ₂ => b = p a ∧ σ₂ = σ) ∧ (p a = true → ev c' ((x, some (inj a)) :: fr) elt σ fun z σ₃ => z = f a ∧ σ₃ = σ))
    (q : Q (.list ((l.filter p).map f)) σ)
    (hs : ∀ x, foldedSetIterable iter c.env x = pure x := by intro _; rfl) : ev c ρ (.ListComp elt [⟨.Name x px, iter, [test], 0⟩] scope pos) σ Q := by
  refine ev_filt fr (fun l' acc σ₁ => σ₁ = σ ∧ ∃ d r, l = d ++ r ∧ l' = r.map inj ∧ acc = (d.filter p).map f) hsc hok hfr (gv.mono h fun y σ₁ ⟨e, hi⟩ => ⟨_, hi, by simpa using hz, e, [], l, rfl, rfl, rfl⟩) ?_ ?_ hs
  · rintro c' hA hS y rest acc σ₁ ⟨rfl, d, r, hl, hr, rfl⟩
    cases r with
    | nil => cases hr
    | cons a r =>
      rw [List.map_cons] at hr
      injection hr with h1 h2
      subst h1; subst h2
      obtain ⟨t1, t2⟩ := turn c' hA hS a (by rw [hl]; simp)
      refine gv.mono t1 fun b σ₂ ⟨hb, hs2⟩ => ?_
      subst hb; subst hs2
      refine ⟨fun hp => gv.mono (t2 hp) fun z σ₃ ⟨hz, hs3⟩ => ?_, fun hp => ?_⟩
      · subst hz; subst hs3
        exact ⟨rfl, d ++ [a], r, by rw [hl]; simp, rfl, by rw [List.filter_append, List.filter_cons_of_pos hp]; simp⟩
      · exact ⟨rfl, d ++ [a], r, by rw [hl]; simp, rfl, by rw [List.filter_append, List.filter_cons_of_neg (by rw [hp]; simp)]; simp⟩
  · rintro acc σ₁ ⟨rfl, d, r, hl, hr, rfl⟩
    have : r = [] := by cases r with | nil => rfl | cons _ _ => cases hr
    subst this
    rw [List.append_nil] at hl
    rw [← hl]; exact q
theorem ev_mapP {α : Type} {sc : Scope} {elt iter : Expr} {x : Str} {px pos : Pos} {scope : Scope} (fr : Rho) (inj : α → AV) (l : List α) (f : α → AV) (hsc : c.sc = sc) (hok : compOk x (fr.map (·.1)) scope sc = true) (hfr : FrI fr ρ) (hz : l.length ≤ sizeLine)
    (h : ev c ρ iter σ fun y σ₁ => σ₁ = σ ∧ Iter c y (l.map inj))
    (turn : ∀ c' : Cx g, c'.A = c.A → c'.sc = relab scope sc → ∀ a ∈ l, ev c' ((x, some (inj a)) :: fr) elt σ fun z σ₃ => z = f a ∧ σ₃ = σ)
    (q : Q (.list (l.map f)) σ)
    (hs : ∀ x, foldedSetIterable iter c.env x = pure x := by intro _; rfl) : ev c ρ (.ListComp elt [⟨.Name x px, iter, [], 0⟩] scope pos) σ Q := by
  refine ev_map fr (fun l' acc σ₁ => σ₁ = σ ∧ ∃ d r, l = d ++ r ∧ l' = r.map inj ∧ acc = d.map f) hsc hok hfr (gv.mono h fun y σ₁ ⟨e, hi⟩ => ⟨_, hi, by simpa using hz, e, [], l, rfl, rfl, rfl⟩) ?_ ?_ hs
  · rintro c' hA hS y rest acc σ₁ ⟨rfl, d, r, hl, hr, rfl⟩
    cases r with
    | nil => cases hr
    | cons a r =>
      rw [List.map_cons] at hr
      injection hr with h1 h2
      subst h1; subst h2
      refine gv.mono (turn c' hA hS a (by rw [hl]; simp)) fun z σ₃ ⟨hz, hs3⟩ => ?_
      subst hz; subst hs3
      exact ⟨rfl, d ++ [a], r, by rw [hl]; simp, rfl, by simp⟩
  · rintro acc σ₁ ⟨rfl, d, r, hl, hr, rfl⟩
    have : r = [] := by cases r with | nil => rfl | cons _ _ => cases hr
    subst this
    rw [List.append_nil] at hl
    rw [← hl]; exact q
theorem ev_mapCP {α : Type} {sc : Scope} {elt iter : Expr} {x : Str} {px pos : Pos} {scope : Scope} (fr : Rho) (inj : α → AV) (l : List α) (f : α → AV) (hsc : c.sc = sc) (hok : compOkC x (fr.map (·.1)) scope sc = true) (hfr : FrI fr ρ) (hz : l.length ≤ sizeLine)
    (h : ev c ρ iter σ fun y σ₁ => σ₁ = σ ∧ Iter c y (l.map inj))
    (turn : ∀ c' : Cx g, c'.A = c.A → c'.sc = relab scope sc → ∀ a ∈ l, ev c' ((x, some (inj a)) :: fr) elt σ fun z σ₃ => z = f a ∧ σ₃ = σ)
    (q : Q (.list (l.map f)) σ)
    (hs : ∀ x, foldedSetIterable iter c.env x = pure x := by intro _; rfl) : ev c ρ (.ListComp elt [⟨.Name x px, iter, [], 0⟩] scope pos) σ Q := by
  refine ev_mapC fr (fun l' acc σ₁ => σ₁ = σ ∧ ∃ d r, l = d ++ r ∧ l' = r.map inj ∧ acc = d.map f) hsc hok hfr (gv.mono h fun y σ₁ ⟨e, hi⟩ => ⟨_, hi, by simpa using hz, e, [], l, rfl, rfl, rfl⟩) ?_ ?_ hs
  · rintro c' hA hS y rest acc σ₁ ⟨rfl, d, r, hl, hr, rfl⟩
    cases r with
    | nil => cases hr
    | cons a r =>
      rw [List.map_cons] at hr
      injection hr with h1 h2
      subst h1; subst h2
      refine gv.mono (turn c' hA hS a (by rw [hl]; simp)) fun z σ₃ ⟨hz, hs3⟩ => ?_
      subst hz; subst hs3
      exact ⟨rfl, d ++ [a], r, by rw [hl]; simp, rfl, by simp⟩
  · rintro acc σ₁ ⟨rfl, d, r, hl, hr, rfl⟩
    have : r = [] := by cases r with | nil => rfl | cons _ _ => cases hr
    subst this
    rw [List.append_nil] at hl
    rw [← hl]; exact q

section
variable {a b : Int}
theorem cmp_ne (q : Q (.bool (a != b)) σ) : op2 c (compareOp .NotEq) (.int a) (.int b) σ Q := fun s x y i r1 r2 => by
  cases r1; cases r2; exact PySem.P.ne_int ⟨_, σ, i, .refl .., .bool _, q⟩
end
def pth (p : List Int) : AV := .tup (p.map .int)
theorem ints_plain (p : List Int) : plainL (p.map .int) = true := by
  induction p with
  | nil => rfl
  | cons a r ih => rw [List.map_cons]; unfold plainL; rw [ih]; rfl
theorem ints_keys (p : List Int) : areKeys (p.map .int) = true := by
  induction p with
  | nil => rfl
  | cons a r ih => rw [List.map_cons]; unfold areKeys; rw [ih]; rfl
theorem ints_deep (p : List Int) : deepL (p.map .int) = 0 := by
  induction p with
  | nil => rfl
  | cons a r ih => rw [List.map_cons]; unfold deepL; rw [ih]; rfl
theorem pth_tkey (p : List Int) : tkey (pth p) = true := by
  show (areKeys (p.map .int) && decide (deepL (p.map .int) ≤ 1)) = true
  rw [ints_keys, ints_deep]; rfl
theorem ints_any (p : List Int) (x : Int) : (p.map AV.int).any (eqA · (.int x)) = p.contains x := by
  induction p with
  | nil => rfl
  | cons a r ih => rw [List.map_cons, List.any_cons, ih, List.contains_cons]; unfold eqA; rw [Bool.beq_comm]
theorem pth_inj {p q : List Int} (h : pth p = pth q) : p = q := by
  unfold pth at h
  injection h with h
  induction p generalizing q with
  | nil => cases q with | nil => rfl | cons _ _ => cases h
  | cons a r ih =>
    cases q with
    | nil => cases h
    | cons b t =>
      rw [List.map_cons, List.map_cons] at h
      injection h with h1 h2
      injection h1 with h1
      rw [h1, ih h2]
def hears (h : Int) (p : List Int) : List Int := (rngL 0 h).filter fun x => !p.contains x
theorem rngL_len (a b : Int) : (rngL a b).length = (b - a).toNat := by simp [rngL]
theorem mem_rngL {a b x : Int} : x ∈ rngL a b ↔ a ≤ x ∧ x < b := by
  simp only [rngL, List.mem_map, List.mem_range]
  constructor
  · rintro ⟨i, hi, rfl⟩; omega
  · intro h; exact ⟨(x - a).toNat, by omega, by omega⟩
end Mine

end

section
namespace Mine
open PySem
variable {g : Gx} {c : Cx g} {ρ : Rho} {σ : Sto}

theorem es_filtP {α : Type} {sc : Scope} {elt iter test : Expr} {x y : Str} {px py pos spos : Pos} {scope : Scope} {Q : AFl → Rho → Sto → Prop} (fr : Rho) (inj : α → AV) (l : List α) (p : α → Bool) (f : α → AV) (hfn : c.isFn = true) (hsc : c.sc = sc) (hsw : swOk y py pos scope sc = true) (hok : compOk x (fr.map (·.1)) scope sc = true) (hfr : FrI fr ρ) (hz : l.length ≤ sizeLine)
    (h : ev c ρ iter σ fun y σ₁ => σ₁ = σ ∧ Iter c y (l.map inj))
    (turn : ∀ c' : Cx g, c'.A = c.A → c'.sc = relab scope sc → ∀ a ∈ l, evb c' ((x, some (inj a)) :: fr) test σ (fun b σ₂ => b = p a ∧ σ₂ = σ) ∧ (p a = true → ev c' ((x, some (inj a)) :: fr) elt σ fun z σ₃ => z = f a ∧ σ₃ = σ))
    (q : Made (fun z σ₂ => ∃ ρ', Upd y z ρ ρ' ∧ Q .next ρ' σ₂) ((l.filter p).map f) σ)
    (hs : ∀ x, foldedSetIterable iter c.env x = pure x := by intro _; rfl) : es c ρ (exec (.Assign [.Name y py] (.ListComp elt [⟨.Name x px, iter, [test], 0⟩] scope pos) spos) c.env) σ Q := by
  refine es_filt fr (fun l' acc σ₁ => σ₁ = σ ∧ ∃ d r, l = d ++ r ∧ l' = r.map inj ∧ acc = (d.filter p).map f) hfn hsc hsw hok hfr (gv.mono h fun y σ₁ ⟨e, hi⟩ => ⟨_, hi, by simpa using hz, e, [], l, rfl, rfl, rfl⟩) ?_ ?_ hs
  · rintro c' hA hS y rest acc σ₁ ⟨rfl, d, r, hl, hr, rfl⟩
    cases r with
    | nil => cases hr
    | cons a r =>
      rw [List.map_cons] at hr
      injection hr with h1 h2
      subst h1; subst h2
      obtain ⟨t1, t2⟩ := turn c' hA hS a (by rw [hl]; simp)
      refine gv.mono t1 fun b σ₂ ⟨hb, hs2⟩ => ?_
      subst hb; subst hs2
      refine ⟨fun hp => gv.mono (t2 hp) fun z σ₃ ⟨hz, hs3⟩ => ?_, fun hp => ?_⟩
      · subst hz; subst hs3
        exact ⟨rfl, d ++ [a], r, by rw [hl]; simp, rfl, by rw [List.filter_append, List.filter_cons_of_pos hp]; simp⟩
      · exact ⟨rfl, d ++ [a], r, by rw [hl]; simp, rfl, by rw [List.filter_append, List.filter_cons_of_neg (by rw [hp]; simp)]; simp⟩
  · rintro acc σ₁ ⟨rfl, d, r, hl, hr, rfl⟩
    have : r = [] := by cases r with | nil => rfl | cons _ _ => cases hr
    subst this
    rw [List.append_nil] at hl
    rw [← hl]; exact q
theorem br_nt {p q : Prop} (h : q) : br (!true) p q := br_false h
theorem Dct.set {x : AV} {l : List (AV × AV)} {a : Addr} {y : AObj} (h : Dct σ x l) (ha : σ a = none) : Dct (σ.set a y) x l := by
  rcases h with rfl | ⟨b, rfl, hb⟩
  · exact .dict
  · refine .obj ?_
    rw [Sto.set_ne (by rintro rfl; rw [ha] at hb; cases hb)]; exact hb
end Mine

end

section
open PySem PySem.W PyProof.Rows
open_top hd03 for PySem.Challenge.rw_uf060015_03
end
section
open PySem PySem.W Mine
namespace Mine

variable {g : Gx} {c : Cx g} {σ : Sto}
local macro_rules | `(tactic| walk_at "ctor") => `(tactic| repeat with_reducible constructor)
-- one step where nothing is to be said
local macro_rules | `(tactic| walk_at "go0") => `(tactic| with_reducible first
  | refine ev_nm (by walk_at "ctor") ?_
  | refine ev_int ?_
  | refine ev_none ?_
  | refine ev_str ?_
  | refine ev_bool ?_
  | refine ev_BinOp ?_
  | refine evb_Cmp ?_
  | refine ev_Cmp ?_
  | refine evb_bool ?_
  | refine evb_not ?_
  | refine evAnd_cons ?_
  | refine evAnd_nil ?_
  | refine evOr_cons ?_
  | refine evOr_nil ?_
  | refine ev_slice ?_ (by intro _ _; with_unfolding_all rfl)
  | refine ev_sub ?_
  | refine evl_cons ?_
  | refine evl_nil ?_
  | refine op_add ?_
  | refine op_sub ?_
  | refine op_fdiv (by decide) (by decide) ?_
  | refine op_fmod (by decide) ?_
  | refine op_mul ?_ (by first | (left; constructor <;> omega) | (right; constructor <;> omega) | fail "mul")
  | refine cmp_lt ?_
  | refine cmp_gt ?_
  | refine cmp_eq ?_
  | refine cmp_ne ?_
  | refine cmp_le ?_
  | refine cmp_ge ?_
  | refine cmp_is ?_
  | refine cmp_isNot ?_
  | refine opb_bool ?_
  | refine thn_next ?_
  | refine thn_ret ?_
  | refine post_ret ?_
  | refine post_next ?_
  | refine es_nil ?_
  | refine es_seq ?_
  | refine es_return ?_
  | refine trn_ret ?_
  | refine ev_boolop ?_
  | refine evVal_and ?_
  | refine evVal_or ?_
  | refine evVal_one ?_
  | refine br_true ?_
  | refine br_false ?_
  | refine br_nt ?_
  | refine br_nf ?_
  | (refine br_intro ?_ ?_) <;> intro _
  | refine es_assign ?_ (by assumption) (by with_unfolding_all rfl)
  | refine upd_ex (by walk_at "ctor") ?_
  | refine es_expr ?_ (by with_unfolding_all rfl)
  | refine evO_none ?_
  | refine evO_some ?_
  | refine int_ex ?_
  | refine es_setitem ?_ (by with_unfolding_all rfl))
local macro_rules | `(tactic| walk_at "go1") => `(tactic| first | walk_at "go0" | with_reducible refine es_ifc ?_)
local macro_rules | `(tactic| walk_at "gos") => `(tactic| repeat' (walk_at "go0"))
local macro_rules | `(tactic| walk_at "go") => `(tactic| repeat' (walk_at "go1"))
local macro_rules | `(tactic| walk_at "fn") => `(tactic| (refine ev_callF (by assumption) (by assumption) (by rfl) (by rfl) (by rfl) ?_; walk_at "go"))
local macro_rules | `(tactic| walk_at "len") => `(tactic| (refine ev_callB boot_len (.builtin _) (by assumption) (by assumption) (by rfl) (by rfl) ?_; walk_at "go"))
local macro_rules | `(tactic| walk_at "range") => `(tactic| (refine ev_callB PyProof.Rows.boot_range (.type _) (by assumption) (by assumption) (by rfl) (by rfl) ?_; walk_at "go"))
local macro_rules | `(tactic| walk_at "max") => `(tactic| (refine ev_callB PyProof.Rows.boot_max (.builtin _) (by assumption) (by assumption) (by rfl) (by rfl) ?_; walk_at "go"))
local macro_rules | `(tactic| walk_at "list") => `(tactic| (refine ev_callB PyProof.Rows.boot_list (.type _) (by assumption) (by assumption) (by rfl) (by rfl) ?_; walk_at "go"))
local macro_rules | `(tactic| walk_at "isinstance") => `(tactic| (refine ev_callB PyProof.Rows.boot_isinstance (.builtin _) (by assumption) (by assumption) (by rfl) (by rfl) ?_; walk_at "go"))
local macro_rules | `(tactic| walk_at "sum") => `(tactic| (refine ev_callB PyProof.Rows.boot_sum (.builtin _) (by assumption) (by assumption) (by rfl) (by rfl) ?_; walk_at "go"))
local macro_rules | `(tactic| walk_at "min") => `(tactic| (refine ev_callB PyProof.Rows.boot_min (.builtin _) (by assumption) (by assumption) (by rfl) (by rfl) ?_; walk_at "go"))
local macro_rules | `(tactic| walk_at "dict") => `(tactic| (refine ev_callB PyProof.Rows.boot_dict (.type _) (by assumption) (by assumption) (by rfl) (by rfl) ?_; walk_at "go"))
local macro_rules | `(tactic| walk_at "tuple") => `(tactic| (refine ev_callB PyProof.Rows.boot_tuple (.type _) (by assumption) (by assumption) (by rfl) (by rfl) ?_; walk_at "go"))
local macro_rules | `(tactic| walk_at "all") => `(tactic| (refine ev_callB PyProof.Rows.boot_all (.builtin _) (by assumption) (by assumption) (by rfl) (by rfl) ?_; walk_at "go"))
local macro_rules | `(tactic| walk_at "int") => `(tactic| (refine ev_callB PyProof.Rows.boot_int (.type _) (by assumption) (by assumption) (by rfl) (by rfl) ?_; walk_at "go"))
local macro_rules | `(tactic| walk_at "append") => `(tactic| (refine ev_meth F.plainAttrs_list F.slot_list_append F.type_list_append ?_; walk_at "go"))
noncomputable abbrev K03 (g : Gx) : Frag := hd03.heap_39 g.w.params

def sg : Option Str → AV
  | some x => .str x
  | none => .none
def voteF (xs : List (Option Str)) : Option Str := (xs.find? fun x => x.isSome && decide (xs.length < 2 * xs.count x)).getD none

theorem sg_inj {a b : Option Str} : eqA (sg a) (sg b) = (a == b) := by
  cases a <;> cases b <;> simp [sg, eqA]
theorem sg_plain (a : Option Str) : plain (sg a) = true := by cases a <;> rfl
theorem sgs_plain (l : List (Option Str)) : plainL (l.map sg) = true := by
  induction l with
  | nil => rfl
  | cons a l ih => rw [List.map_cons]; unfold plainL; rw [sg_plain, ih]; rfl
theorem sg_deep (a : Option Str) : deep (sg a) = 0 := by cases a <;> rfl
theorem sgs_deep (l : List (Option Str)) : deepL (l.map sg) = 0 := by
  induction l with
  | nil => rfl
  | cons a l ih => rw [List.map_cons]; unfold deepL; rw [sg_deep, ih]; rfl
theorem sgs_count (l : List (Option Str)) (a : Option Str) : (l.map sg).countP (eqA · (sg a)) = l.count a := by
  rw [List.countP_map, List.count]
  congr 1
  funext b
  exact sg_inj
theorem sg_none (a : Option Str) : isNoneA (sg a) = a.isNone := by cases a <;> rfl

theorem blt_len : bootBuiltins "len" = some (.builtin "len") := by decide +kernel

theorem vote_spec {Q : AV → Sto → Prop} (T : TopG g (K03 g)) (hd : c.A.depth < recursionLimit) (hh : c.A.handled = none) (hu : c.A.units + 20 < cLine) {xs : List (Option Str)} (hz : xs.length < 2 ^ 20) (q : Q (sg (voteF xs)) σ) :
    cal c (.ref 26) [.list (xs.map sg)] σ Q := by
  refine cal_fn (ps := ["signs"]) (rest := ["sign"]) (fnAt_of T.X T.nl (by rfl) (fun | [_], _ => by rfl)) (by rfl) hd rfl fun c' hsc hfn hA => ?_
  have hh' : c'.A.handled = none := by rw [hA]; exact hh
  have hu' : c'.A.units + 8 < cLine := by rw [hA]; show c.A.units + 3 + 8 < cLine; omega
  show es c' [(("signs" : Str), some _), (("sign" : Str), none)] (execs (_ :: _) c'.env) σ _
  refine es_seq (es_loop (fun l ρ' σ' => σ' = σ ∧ ρ' = [(("signs" : Str), some (AV.list (xs.map sg))), (("sign" : Str), none)] ∧ ∃ r : List (Option Str), l = r.map sg ∧ (r.find? fun x => x.isSome && decide (xs.length < 2 * xs.count x)).getD none = voteF xs) hfn ?_ ?_ ?_)
  · refine ev_nm (by walk_at "ctor") ?_
    exact ⟨_, iter_list hh' _, rfl, rfl, xs, rfl, rfl⟩
  · rintro c₂ hA₂ hsc₂ hfn₂ y rest ρ₁ σ₁ ⟨rfl, rfl, r, hr, hv⟩
    rw [← hA₂] at hh' hu'
    rw [hsc] at hsc₂
    cases r with
    | nil => cases hr
    | cons a r =>
      rw [List.map_cons] at hr
      injection hr with h1 h2
      subst h1; subst h2
      refine upd_ex (by walk_at "ctor") ?_
      have hcnt : xs.count a < 2 ^ 20 := Nat.lt_of_le_of_lt List.count_le_length hz
      walk_at "go"
      · refine ev_meth F.plainAttrs_list F.slot_list_count F.type_list_count ?_
        walk_at "go"
        refine ⟨.list, ?_⟩
        walk_at "go"
        refine cal_count .list (sgs_plain _) (by rw [sgs_deep]; exact Nat.zero_le _) (sg_plain _) hu' ?_
        rw [sgs_count]
        walk_at "go"
        refine ev_call (T.blt (by rfl) blt_len) (by rw [hsc₂]; rfl) (.builtin _) ?_
        walk_at "go"
        refine cal_len_list .list (by simp; omega) ?_
        walk_at "go"
        · rename_i h1 h2
          rw [sg_none] at h1
          simp only [decide_eq_true_eq, List.length_map] at h2
          have e : voteF xs = a := by
            rw [← hv, List.find?_cons_of_pos]
            · rfl
            · cases a with
              | none => cases h1
              | some x => simp; omega
          rw [e] at q; exact q
        · rename_i h1 h2
          simp only [decide_eq_false_iff_not, List.length_map] at h2
          refine trn_next (by walk_at "ctor") ⟨rfl, rfl, r, rfl, ?_⟩
          rw [← hv, List.find?_cons_of_neg]
          simp
          intro _
          omega
      · rename_i h1
        rw [sg_none] at h1
        refine trn_next (by walk_at "ctor") ⟨rfl, rfl, r, rfl, ?_⟩
        rw [← hv, List.find?_cons_of_neg]
        cases a with
        | none => simp
        | some x => cases h1
  · rintro ρ₁ σ₁ ⟨rfl, rfl, r, hr, hv⟩
    walk_at "go"
    cases r with
    | nil => rw [← hv] at q; exact q
    | cons _ _ => cases hr

def voteG (xs : List (Option Str)) : Option Str := (xs.find? fun x => decide (xs.length < 2 * xs.count x)).getD none
theorem find_eq (p : Option Str → Bool) : ∀ (xs : List (Option Str)), (p none = true → ∀ x ∈ xs, p x = true → x = none) → (xs.find? fun x => x.isSome && p x).getD none = (xs.find? p).getD none := by
  intro xs h
  induction xs with
  | nil => rfl
  | cons a r ih =>
    have ih' := ih fun h0 x hx => h h0 x (List.mem_cons_of_mem _ hx)
    cases hp : p a with
    | false => rw [List.find?_cons_of_neg (by simp [hp]), List.find?_cons_of_neg (by simp [hp])]; exact ih'
    | true =>
      rw [List.find?_cons_of_pos (p := p) hp]
      cases a with
      | some x => rw [List.find?_cons_of_pos (by simp [hp])]
      | none =>
        rw [List.find?_cons_of_neg (by simp)]
        show _ = none
        rw [ih']
        have h1 := h hp
        cases hf : r.find? p with
        | none => rfl
        | some y => exact h1 y (List.mem_cons_of_mem _ (List.mem_of_find?_eq_some hf)) (List.find?_some hf)
theorem count_two {a b : Option Str} (h : a ≠ b) : ∀ xs : List (Option Str), xs.count a + xs.count b ≤ xs.length
  | [] => Nat.le_refl _
  | x :: r => by
    have ih := count_two h r
    rw [List.count_cons, List.count_cons, List.length_cons]
    by_cases h1 : x = a
    · have h2 : x ≠ b := fun e => h (h1.symm.trans e)
      simp [h1, h] ; omega
    · by_cases h2 : x = b
      · simp [h2, Ne.symm h]; omega
      · simp [h1, h2]; omega
theorem vote_same (xs : List (Option Str)) : voteF xs = voteG xs := by
  refine find_eq (fun x => decide (xs.length < 2 * xs.count x)) xs fun h x hx hp => ?_
  simp only [decide_eq_true_eq] at h hp
  by_cases hne : x = none
  · exact hne
  · have := count_two (fun e => hne e.symm : (none : Option Str) ≠ x) xs
    omega

theorem lvote_spec {Q : AV → Sto → Prop} (T : TopG g (K03 g)) (hd : c.A.depth < recursionLimit) (hh : c.A.handled = none) (hu : c.A.units + 20 < cLine) {xs : List (Option Str)} (hz : xs.length < 2 ^ 20) (q : Q (sg (voteG xs)) σ) :
    cal c (.ref 66) [.list (xs.map sg)] σ Q := by
  refine cal_fn (ps := ["_law_signs_here"]) (rest := ["_law_sign"]) (fnAt_of T.X T.nl (by rfl) (fun | [_], _ => by rfl)) (by rfl) hd rfl fun c' hsc hfn hA => ?_
  have hh' : c'.A.handled = none := by rw [hA]; exact hh
  have hu' : c'.A.units + 8 < cLine := by rw [hA]; show c.A.units + 3 + 8 < cLine; omega
  show es c' [(("_law_signs_here" : Str), some _), (("_law_sign" : Str), none)] (execs (_ :: _) c'.env) σ _
  refine es_seq (es_loop (fun l ρ' σ' => σ' = σ ∧ ρ' = [(("_law_signs_here" : Str), some (AV.list (xs.map sg))), (("_law_sign" : Str), none)] ∧ ∃ r : List (Option Str), l = r.map sg ∧ (r.find? fun x => decide (xs.length < 2 * xs.count x)).getD none = voteG xs) hfn ?_ ?_ ?_)
  · refine ev_nm (by walk_at "ctor") ?_
    exact ⟨_, iter_list hh' _, rfl, rfl, xs, rfl, rfl⟩
  · rintro c₂ hA₂ hsc₂ hfn₂ y rest ρ₁ σ₁ ⟨rfl, rfl, r, hr, hv⟩
    rw [← hA₂] at hh' hu'
    rw [hsc] at hsc₂
    cases r with
    | nil => cases hr
    | cons a r =>
      rw [List.map_cons] at hr
      injection hr with h1 h2
      subst h1; subst h2
      refine upd_ex (by walk_at "ctor") ?_
      have hcnt : xs.count a < 2 ^ 20 := Nat.lt_of_le_of_lt List.count_le_length hz
      walk_at "go"
      refine ev_meth F.plainAttrs_list F.slot_list_count F.type_list_count ?_
      walk_at "go"
      refine ⟨.list, ?_⟩
      walk_at "go"
      refine cal_count .list (sgs_plain _) (by rw [sgs_deep]; exact Nat.zero_le _) (sg_plain _) hu' ?_
      rw [sgs_count]
      walk_at "go"
      refine ev_call (T.blt (by rfl) blt_len) (by rw [hsc₂]; rfl) (.builtin _) ?_
      walk_at "go"
      refine cal_len_list .list (by simp; omega) ?_
      walk_at "go"
      · rename_i h2
        simp only [decide_eq_true_eq, List.length_map] at h2
        have e : voteG xs = a := by
          rw [← hv, List.find?_cons_of_pos]
          · rfl
          · simp; omega
        rw [e] at q; exact q
      · rename_i h2
        simp only [decide_eq_false_iff_not, List.length_map] at h2
        refine trn_next (by walk_at "ctor") ⟨rfl, rfl, r, rfl, ?_⟩
        rw [← hv, List.find?_cons_of_neg]
        simp
        omega
  · rintro ρ₁ σ₁ ⟨rfl, rfl, r, hr, hv⟩
    walk_at "go"
    cases r with
    | nil => rw [← hv] at q; exact q
    | cons _ _ => cases hr

theorem blt_isi : bootBuiltins "isinstance" = some (.builtin "isinstance") := by decide +kernel
theorem blt_str : bootBuiltins "str" = some (.type "str") := by decide +kernel
theorem same_spec {Q : AV → Sto → Prop} (T : TopG g (K03 g)) (hd : c.A.depth < recursionLimit) {x : Option Str} (q : Q (.bool true) σ) :
    cal c (.ref 78) [sg x, sg x] σ Q := by
  refine cal_fn (ps := ["_law_found", "_law_due"]) (rest := []) (fnAt_of T.X T.nl (by rfl) (fun | [_, _], _ => by rfl)) (by rfl) hd rfl fun c' hsc hfn hA => ?_
  show es c' [(("_law_found" : Str), some _), (("_law_due" : Str), some _)] (execs (_ :: _) c'.env) σ _
  walk_at "go"
  · rename_i h
    rw [h]; exact q
  · refine ev_call (T.blt (by rfl) blt_isi) (by rw [hsc]; rfl) (.builtin _) ?_
    walk_at "go"
    refine ev_glob (T.blt (by rfl) blt_str) (by rw [hsc]; rfl) ?_
    walk_at "go"
    cases x with
    | none => rename_i h; cases h
    | some x =>
      refine cal_isStr ?_
      walk_at "go"
      refine cmp_eqs ?_
      walk_at "go"
      simpa using q

theorem cell_spec {Q : AV → Sto → Prop} (T : TopG g (K03 g)) (hd : c.A.depth < recursionLimit) {ns : List Int} (hz : ns.length < 2 ^ 20) {k : Int} (h0 : 0 ≤ k) (h1 : k < 2 ^ 20) (q : Q (.int (ns.getD k.toNat 0)) σ) :
    cal c (.ref 40) [.list (ns.map .int), .int k] σ Q := by
  refine cal_fn (ps := ["_law_script", "_law_k"]) (rest := []) (fnAt_of T.X T.nl (by rfl) (fun | [_, _], _ => by rfl)) (by rfl) hd rfl fun c' hsc hfn hA => ?_
  show es c' [(("_law_script" : Str), some _), (("_law_k" : Str), some _)] (execs (_ :: _) c'.env) σ _
  walk_at "go"
  refine ev_call (T.blt (by rfl) blt_len) (by rw [hsc]; rfl) (.builtin _) ?_
  walk_at "go"
  refine cal_len_list .list (by simp; omega) ?_
  walk_at "go"
  · rename_i h
    simp only [decide_eq_true_eq, List.length_map] at h
    have hlt : k.toNat < ns.length := by omega
    refine sub_list .list h0 (by omega) (y := .int ns[k.toNat]) (by simp [hlt]) ?_
    rw [List.getD_eq_getElem?_getD, List.getElem?_eq_getElem hlt] at q
    walk_at "go"
    exact q
  · rename_i h
    simp only [decide_eq_false_iff_not, List.length_map] at h
    rw [List.getD_eq_getElem?_getD, List.getElem?_eq_none (by omega)] at q
    exact q

local macro_rules | `(tactic| walk_at "cell") => `(tactic| (walk_at "fn"; refine cell_spec (by assumption) (by omega) (by omega) (by decide) (by decide) ?_; walk_at "go"))
theorem fm_lo (a : Int) {n : Int} (h : 0 < n) : 0 ≤ Int.fmod a n := by
  rw [Int.fmod_eq_emod_of_nonneg a (by omega)]; exact Int.emod_nonneg a (by omega)
theorem fm_hi (a : Int) {n : Int} (h : 0 < n) : Int.fmod a n < n := by
  rw [Int.fmod_eq_emod_of_nonneg a (by omega)]; exact Int.emod_lt_of_pos a h
theorem letter_at {i : Int} (h0 : 0 ≤ i) (h1 : i < 26) : ∃ d, (Str.ofString "abcdefghijklmnopqrstuvwxyz").cps[i.toNat]? = some d := by
  have e : (Str.ofString "abcdefghijklmnopqrstuvwxyz").cps.size = 26 := by decide +kernel
  exact ⟨_, Array.getElem?_eq_getElem (by omega)⟩
theorem Sto.set_set {σ : Sto} {a : Addr} {x y : AObj} : (σ.set a x).set a y = σ.set a y := by
  funext b; unfold Sto.set; by_cases h : b = a <;> simp [h]
theorem Sto.set_del {σ : Sto} {a : Addr} {x : AObj} (h : σ a = Option.none) : (σ.set a x).del a = σ := by
  funext b; unfold Sto.set Sto.del; by_cases hb : b = a
  · subst hb; simp [h]
  · simp [hb]

theorem signs_spec {Q : AV → Sto → Prop} (T : TopG g (K03 g)) (hd : c.A.depth < recursionLimit) (hh : c.A.handled = none) {n : Int} (q : ∀ l : List Str, l.length = 4 → Q (.list (l.map .str)) σ) :
    cal c (.ref 47) [.int n] σ Q := by
  refine cal_fn (ps := ["_law_cell"]) (rest := ["_law_letters", "_law_size", "_law_found", "_law_k", "_law_sign", "_law_place", "_law_ahead", "_law_behind"]) (fnAt_of T.X T.nl (by rfl) (fun | [_], _ => by rfl)) (by rfl) hd rfl fun c' hsc hfn hA => ?_
  have hh' : c'.A.handled = none := by rw [hA]; exact hh
  show es c' [(("_law_cell" : Str), some (.int n)), (("_law_letters" : Str), none), (("_law_size" : Str), none), (("_law_found" : Str), none), (("_law_k" : Str), none), (("_law_sign" : Str), none), (("_law_place" : Str), none), (("_law_ahead" : Str), none), (("_law_behind" : Str), none)] (execs (_ :: _) c'.env) σ _
  walk_at "go"
  have hs0 := fm_lo (n.fdiv 3) (n := 8) (by decide)
  have hs1 := fm_hi (n.fdiv 3) (n := 8) (by decide)
  generalize hsz : 1 + (n.fdiv 3).fmod 8 = sz
  have hz0 : 1 ≤ sz := by omega
  have hz1 : sz ≤ 8 := by omega
  refine ev_list (evl_nil ⟨by decide, .inr fun a ha => ?_⟩)
  walk_at "go"
  refine es_loop (fun l ρ' σ' => ∃ fl : List Str, ∃ r : List Int, l = r.map AV.int ∧ (∀ k ∈ r, 0 ≤ k ∧ k < 4) ∧ fl.length + r.length = 4 ∧ σ' = σ.set a (.lst (fl.map .str)) ∧ ρ' = [(("_law_cell" : Str), some (AV.int n)), (("_law_letters" : Str), some (AV.str "abcdefghijklmnopqrstuvwxyz")), (("_law_size" : Str), some (AV.int sz)), (("_law_found" : Str), some (AV.obj a)), (("_law_k" : Str), none), (("_law_sign" : Str), none), (("_law_place" : Str), none), (("_law_ahead" : Str), none), (("_law_behind" : Str), none)]) hfn ?_ ?_ ?_
  · refine ev_call (T.blt (by rfl) PyProof.Rows.boot_range) (by rw [hsc]; rfl) (.type _) ?_
    walk_at "go"
    refine cal_range1 ⟨_, iter_rng hh' (by decide) (by decide) (by decide) (by decide), [], rngL 0 4, rfl, ?_, by decide, rfl, rfl⟩
    decide
  · rintro c₂ hA₂ hsc₂ hfn₂ y rest ρ₁ σ₁ ⟨fl, r, hr, hrg, hlen, rfl, rfl⟩
    rw [hsc] at hsc₂
    cases r with
    | nil => cases hr
    | cons k r =>
      rw [List.map_cons] at hr
      injection hr with h1 h2
      subst h1; subst h2
      obtain ⟨hk0, hk1⟩ := hrg k List.mem_cons_self
      walk_at "go"
      obtain ⟨d, hd1⟩ := letter_at (fm_lo (n.fdiv 24 + 7 * k) (n := 26) (by decide)) (fm_hi _ (by decide))
      refine sub_str (fm_lo _ (by decide)) (Int.lt_trans (fm_hi _ (by decide)) (by decide)) hd1 ?_
      walk_at "go"
      · refine ev_meth F.plainAttrs_list F.slot_list_append F.type_list_append ?_
        walk_at "go"
        refine ⟨.objL Sto.set_self, ?_⟩
        walk_at "go"
        obtain ⟨d2, hd2⟩ := letter_at (fm_lo (n.fdiv 24) (n := 26) (by decide)) (fm_hi _ (by decide))
        refine sub_str (fm_lo _ (by decide)) (Int.lt_trans (fm_hi _ (by decide)) (by decide)) hd2 ?_
        walk_at "go"
        refine op_muls (Nat.le_of_ble_eq_true rfl) (by omega) (by omega) ?_
        walk_at "go"
        refine cal_append Sto.set_self (by simp only [List.length_map, sizeLine_eq]; omega) ⟨trivial, ?_⟩
        walk_at "go"
        refine trn_next (by walk_at "ctor") ⟨fl ++ [Txt.mul ⟨#[d2]⟩ (1 + 2 * k)], r, rfl, fun k hk => hrg k (List.mem_cons_of_mem _ hk), ?_, ?_, rfl⟩
        · simp only [List.length_append, List.length_cons, List.length_nil] at hlen ⊢; omega
        · rw [Sto.set_set, List.map_append]; rfl
      · refine op_fmod (by omega) ?_
        have hp0 := fm_lo (n.fdiv 5) (n := sz) (by omega)
        have hp1 := fm_hi (n.fdiv 5) (n := sz) (by omega)
        generalize (n.fdiv 5).fmod sz = pl at hp0 hp1 ⊢
        have hc0 := fm_lo n (n := 3) (by decide)
        have hc1 := fm_hi n (n := 3) (by decide)
        walk_at "go"
        obtain ⟨d2, hd2⟩ := letter_at (i := sz) (by omega) (by omega)
        refine sub_str (by omega) (by omega) hd2 ?_
        walk_at "go"
        refine op_muls (Nat.le_of_ble_eq_true rfl) (by omega) (by omega) ?_
        have hm1 := mul_len (x := ⟨#[d2]⟩) (n := pl)
        walk_at "go"
        obtain ⟨d3, hd3⟩ := letter_at (i := sz + n.fmod 3) (by omega) (by omega)
        refine sub_str (by omega) (by omega) hd3 ?_
        walk_at "go"
        refine op_muls (Nat.le_of_ble_eq_true rfl) (by omega) (by omega) ?_
        have hm2 := mul_len (x := ⟨#[d3]⟩) (n := sz - 1 - pl)
        have hl1 : (Str.mk #[d2]).length = 1 := rfl
        have hl2 : (Str.mk #[d3]).length = 1 := rfl
        have hl3 : (Str.mk #[d]).length = 1 := rfl
        rw [hl1] at hm1
        rw [hl2] at hm2
        walk_at "go"
        refine ev_meth F.plainAttrs_list F.slot_list_append F.type_list_append ?_
        walk_at "go"
        refine ⟨.objL Sto.set_self, ?_⟩
        walk_at "go"
        refine op_adds (by rw [sizeLine_eq, hl3]; omega) ?_
        walk_at "go"
        refine op_adds (by rw [sizeLine_eq, Str.length_append, hl3]; omega) ?_
        walk_at "go"
        refine cal_append Sto.set_self (by simp only [List.length_map, sizeLine_eq]; omega) ⟨trivial, ?_⟩
        walk_at "go"
        refine trn_next (by walk_at "ctor") ⟨fl ++ [Txt.mul ⟨#[d2]⟩ pl ++ ⟨#[d]⟩ ++ Txt.mul ⟨#[d3]⟩ (sz - 1 - pl)], r, rfl, fun k hk => hrg k (List.mem_cons_of_mem _ hk), ?_, ?_, rfl⟩
        · simp only [List.length_append, List.length_cons, List.length_nil] at hlen ⊢; omega
        · rw [Sto.set_set, List.map_append]; rfl
  · rintro ρ₁ σ₁ ⟨fl, r, hr, hrg, hlen, rfl, rfl⟩
    cases r with
    | cons _ _ => cases hr
    | nil =>
      refine thn_next (es_one (es_ret_freeze ?_))
      walk_at "go"
      refine ⟨a, _, _, rfl, Sto.set_self, .lst _, ?_⟩
      rw [Sto.set_del ha]
      exact q fl (by simpa using hlen)

theorem hearers_spec {Q : AV → Sto → Prop} (T : TopG g (K03 g)) (hd : c.A.depth < recursionLimit) (hh : c.A.handled = none) (hu : c.A.units + 20 < cLine) {h : Int} {p : List Int} (h0 : 0 ≤ h) (h1 : h ≤ 64) (q : Q (.list ((hears h p).map .int)) σ) :
    cal c (.ref 19) [.int h, pth p] σ Q := by
  refine cal_fn (ps := ["hands", "path"]) (rest := []) (fnAt_of T.X T.nl (by rfl) (fun | [_, _], _ => by rfl)) (by rfl) hd rfl fun c' hsc hfn hA => ?_
  have hh' : c'.A.handled = none := by rw [hA]; exact hh
  have hu' : c'.A.units + 10 < cLine := by rw [hA]; show c.A.units + 3 + 10 < cLine; omega
  show es c' [(("hands" : Str), some _), (("path" : Str), some _)] (execs (_ :: _) c'.env) σ _
  walk_at "go"
  refine ev_filtP [(("path" : Str), some (pth p))] AV.int (rngL 0 h) (fun x => !p.contains x) AV.int hsc (by rfl) (by walk_at "ctor") (by rw [rngL_len, sizeLine_eq]; omega) ?_ ?_ ?_
  · walk_at "range"
    exact cal_range1 ⟨rfl, iter_rng hh' (by decide) (by decide) (by omega) (by omega)⟩
  · intro c₂ hA₂ hsc₂ a ha
    rw [← hA₂] at hu'
    refine ⟨?_, fun _ => ?_⟩
    · walk_at "go"
      refine cmp_notin_tup (ints_plain p) (by rw [ints_deep]; exact Nat.zero_le _) rfl (by omega) ?_
      walk_at "go"
      rw [ints_any]
      exact ⟨rfl, rfl⟩
    · walk_at "go"
      exact ⟨rfl, rfl⟩
  · walk_at "go"
    exact q

theorem table_spec {Q : AV → Sto → Prop} (T : TopG g (K03 g)) (hd : c.A.depth < recursionLimit) {n : Int} (q : ∀ H M : Int, 2 ≤ H → H ≤ 10 → 0 ≤ M → M ≤ 2 → (M = 2 → H ≤ 8) → Q (.tup [.int H, .int M]) σ) :
    cal c (.ref 54) [.int n] σ Q := by
  refine cal_fn (ps := ["_law_cell"]) (rest := ["_law_most"]) (fnAt_of T.X T.nl (by rfl) (fun | [_], _ => by rfl)) (by rfl) hd rfl fun c' hsc hfn hA => ?_
  show es c' [(("_law_cell" : Str), some _), (("_law_most" : Str), none)] (execs (_ :: _) c'.env) σ _
  walk_at "go"
  refine ev_list ?_
  walk_at "go"
  refine ⟨by decide, .inl ?_⟩
  walk_at "go"
  have hr0 := fm_lo n (n := 6) (by decide)
  have hr1 := fm_hi n (n := 6) (by decide)
  obtain ⟨m, hm, hmem⟩ : ∃ m : Int, ([AV.int 1, .int 2, .int 0, .int 1, .int 2, .int 2] : List AV)[(n.fmod 6).toNat]? = some (.int m) ∧ (m = 0 ∨ m = 1 ∨ m = 2) := by
    generalize n.fmod 6 = r at hr0 hr1
    have : r = 0 ∨ r = 1 ∨ r = 2 ∨ r = 3 ∨ r = 4 ∨ r = 5 := by omega
    rcases this with rfl | rfl | rfl | rfl | rfl | rfl
    · exact ⟨1, rfl, by decide⟩
    · exact ⟨2, rfl, by decide⟩
    · exact ⟨0, rfl, by decide⟩
    · exact ⟨1, rfl, by decide⟩
    · exact ⟨2, rfl, by decide⟩
    · exact ⟨2, rfl, by decide⟩
  refine sub_list (y := .int m) .list hr0 (by omega) hm ?_
  walk_at "go"
  refine ev_tuple ?_
  walk_at "go"
  refine ev_list ?_
  walk_at "go"
  refine ⟨by decide, .inl ?_⟩
  walk_at "go"
  obtain ⟨d, hdm, hd1, hd2, hd3⟩ : ∃ d : Int, ([AV.int 9, .int 9, .int 7] : List AV)[m.toNat]? = some (.int d) ∧ 0 < d ∧ d ≤ 9 ∧ (m = 2 → d = 7) := by
    rcases hmem with rfl | rfl | rfl
    · exact ⟨9, rfl, by decide, by decide, by decide⟩
    · exact ⟨9, rfl, by decide, by decide, by decide⟩
    · exact ⟨7, rfl, by decide, by decide, by decide⟩
  refine sub_list (y := .int d) .list (by omega) (by omega) hdm ?_
  refine op_fmod (by omega) ?_
  have hx0 := fm_lo (n.fdiv 6) (n := d) (by omega)
  have hx1 := fm_hi (n.fdiv 6) (n := d) (by omega)
  walk_at "go"
  refine ⟨by show 2 ≤ sizeLine; rw [sizeLine_eq]; decide, ?_⟩
  walk_at "go"
  exact q _ _ (by omega) (by omega) (by omega) (by omega) (fun e => by have := hd3 e; omega)

def nexts (h : Int) (P : List (List Int)) : List (List Int) := P.flatMap fun p => (hears h p).map fun x => p ++ [x]
def pathsN (h : Int) : Nat → List (List Int)
  | 0 => [[0]]
  | n + 1 => nexts h (pathsN h n)
theorem hears_len (h : Int) (p : List Int) : (hears h p).length ≤ h.toNat := by
  have := List.length_filter_le (fun x => !p.contains x) (rngL 0 h)
  rw [rngL_len] at this
  simpa [hears] using this
theorem nexts_len {h : Int} (hh : h ≤ 10) (P : List (List Int)) : (nexts h P).length ≤ 10 * P.length := by
  induction P with
  | nil => simp [nexts]
  | cons p r ih =>
    have e : nexts h (p :: r) = ((hears h p).map fun x => p ++ [x]) ++ nexts h r := by simp [nexts]
    rw [e, List.length_append, List.length_map, List.length_cons]
    have := hears_len h p
    omega
theorem pathsN_len {h : Int} (hh : h ≤ 10) : ∀ n, (pathsN h n).length ≤ 10 ^ n
  | 0 => by simp [pathsN]
  | n + 1 => by
    have := nexts_len hh (pathsN h n)
    have := pathsN_len hh n
    show (nexts h (pathsN h n)).length ≤ _
    omega
theorem pathsN_size {h : Int} : ∀ n, ∀ p ∈ pathsN h n, p.length = n + 1
  | 0, p, hp => by simp [pathsN] at hp; subst hp; rfl
  | n + 1, p, hp => by
    simp only [pathsN, nexts, List.mem_flatMap, List.mem_map] at hp
    obtain ⟨r, hr, x, _, rfl⟩ := hp
    rw [List.length_append, pathsN_size n r hr]; rfl
theorem nexts_flat (h : Int) (P : List (List Int)) : (P.map fun p => (hears h p).map fun x => pth (p ++ [x])).flatten = (nexts h P).map pth := by
  induction P with
  | nil => rfl
  | cons p r ih =>
    have e : nexts h (p :: r) = ((hears h p).map fun x => p ++ [x]) ++ nexts h r := by simp [nexts]
    rw [List.map_cons, List.flatten_cons, ih, e, List.map_append, List.map_map]
    rfl
def lpaths (h : Int) (n : Int) : List (List Int) := (pathsN h (min n (h - 1) - 1).toNat).filter fun p => ((p.length : Int) == n)

theorem paths_spec {Q : AV → Sto → Prop} (T : TopG g (K03 g)) (hd : c.A.depth < recursionLimit) (hh : c.A.handled = none) (hu : c.A.units + 20 < cLine) {h n : Int} (h0 : 0 ≤ h) (h1 : h ≤ 10) (n0 : 0 ≤ n) (n1 : n ≤ 3) (q : Q (.list ((lpaths h n).map pth)) σ) :
    cal c (.ref 59) [.int h, .int n] σ Q := by
  refine cal_fn (ps := ["_law_hands", "_law_size"]) (rest := ["_law_found", "_law_turn"]) (fnAt_of T.X T.nl (by rfl) (fun | [_, _], _ => by rfl)) (by rfl) hd rfl fun c' hsc hfn hA => ?_
  have hh' : c'.A.handled = none := by rw [hA]; exact hh
  have hu' : c'.A.units + 10 < cLine := by rw [hA]; show c.A.units + 3 + 10 < cLine; omega
  show es c' [(("_law_hands" : Str), some _), (("_law_size" : Str), some _), (("_law_found" : Str), none), (("_law_turn" : Str), none)] (execs (_ :: _) c'.env) σ _
  walk_at "go"
  refine ev_list (evl_cons (ev_tuple ?_))
  walk_at "go"
  refine ⟨by decide, ?_⟩
  walk_at "go"
  refine ⟨by decide, .inl ?_⟩
  walk_at "go"
  have hN : (min n (h - 1) - 1).toNat ≤ 2 := by omega
  generalize hNe : min n (h - 1) - 1 = N at hN
  refine es_loop (fun l ρ' σ' => σ' = σ ∧ ∃ j : Nat, ∃ r : List Int, l = r.map AV.int ∧ j + r.length = N.toNat ∧ ρ' = [(("_law_hands" : Str), some (AV.int h)), (("_law_size" : Str), some (AV.int n)), (("_law_found" : Str), some (AV.list ((pathsN h j).map pth))), (("_law_turn" : Str), none)]) hfn ?_ ?_ ?_
  · walk_at "range"
    walk_at "min"
    refine cal_min hh' ?_
    walk_at "go"
    rw [hNe]
    exact cal_range1 ⟨_, iter_rng hh' (by decide) (by decide) (by omega) (by omega), rfl, 0, rngL 0 N, rfl, by rw [rngL_len]; omega, rfl⟩
  · rintro c₂ hA₂ hsc₂ hfn₂ y rest ρ₁ σ₂ ⟨rfl, j, r, hr, hj, rfl⟩
    rw [hsc] at hsc₂
    rw [← hA₂] at hh' hu'
    cases r with
    | nil => cases hr
    | cons k r =>
      rw [List.map_cons] at hr
      injection hr with e1 e2
      subst e1; subst e2
      have hjl := pathsN_len h1 j
      have hj2 : 10 ^ j ≤ 10 ^ 2 := Nat.pow_le_pow_right (by decide) (by simp at hj; omega)
      have hjl' := pathsN_len h1 (j + 1)
      have hj3 : 10 ^ (j + 1) ≤ 10 ^ 2 := Nat.pow_le_pow_right (by decide) (by simp at hj; omega)
      walk_at "go"
      walk_at "sum"
      refine ev_mapCP [(("_law_hands" : Str), some (AV.int h))] pth (pathsN h j) (fun p => AV.list ((hears h p).map fun x => pth (p ++ [x]))) hsc₂ (by rfl) (by walk_at "ctor") (by rw [sizeLine_eq]; omega) ?_ ?_ ?_
      · walk_at "go"
        exact ⟨rfl, iter_list hh' _⟩
      · intro c₃ hA₃ hsc₃ p hp
        rw [← hA₃] at hh' hu'
        refine ev_filtP [(("_law_path" : Str), some (pth p))] AV.int (rngL 0 h) (fun x => !p.contains x) (fun x => pth (p ++ [x])) hsc₃ (by rfl) (by walk_at "ctor") (by rw [rngL_len, sizeLine_eq]; omega) ?_ ?_ ?_
        · walk_at "range"
          exact cal_range1 ⟨rfl, iter_rng hh' (by decide) (by decide) (by omega) (by omega)⟩
        · intro c₄ hA₄ hsc₄ a ha
          rw [← hA₄] at hu'
          have hps := pathsN_size j p hp
          refine ⟨?_, fun _ => ?_⟩
          · walk_at "go"
            refine cmp_notin_tup (ints_plain p) (by rw [ints_deep]; exact Nat.zero_le _) rfl (by omega) ?_
            walk_at "go"
            rw [ints_any]
            exact ⟨rfl, rfl⟩
          · walk_at "go"
            refine ev_tuple ?_
            walk_at "go"
            refine ⟨by show 1 ≤ sizeLine; rw [sizeLine_eq]; decide, ?_⟩
            refine op_addt ?_ (by simp) (by simp [sizeLine_eq]; simp at hj; omega) ?_
            · intro e
              have := congrArg List.length e
              simp at this
              subst this
              cases hps
            · refine ⟨?_, rfl⟩
              show AV.tup _ = AV.tup _
              rw [List.map_append]; rfl
        · exact ⟨rfl, rfl⟩
      · walk_at "go"
        refine ev_list ?_
        walk_at "go"
        refine ⟨by decide, .inl ?_⟩
        walk_at "go"
        have e := nexts_flat h (pathsN h j)
        have em : (pathsN h j).map (fun p => AV.list ((hears h p).map fun x => pth (p ++ [x]))) = ((pathsN h j).map fun p => (hears h p).map fun x => pth (p ++ [x])).map AV.list := by rw [List.map_map]; rfl
        rw [em]
        refine cal_sumL hh' (by rw [e, List.length_map, sizeLine_eq]; show (pathsN h (j + 1)).length ≤ _; omega) ?_
        rw [e, show nexts h (pathsN h j) = pathsN h (j + 1) from rfl]
        walk_at "go"
        exact trn_next (by walk_at "ctor") ⟨rfl, j + 1, r, rfl, by simp at hj; omega, rfl⟩
  · rintro ρ₁ σ₂ ⟨rfl, j, r, hr, hj, rfl⟩
    have hr0 : r = [] := by cases r with | nil => rfl | cons _ _ => cases hr
    subst hr0
    have hjN : j = N.toNat := by simpa using hj
    subst hjN
    have hjl := pathsN_len h1 N.toNat
    have hj2 : 10 ^ N.toNat ≤ 10 ^ 2 := Nat.pow_le_pow_right (by decide) hN
    walk_at "go"
    refine ev_filtP [(("_law_size" : Str), some (AV.int n))] pth (pathsN h N.toNat) (fun p => (p.length : Int) == n) pth hsc (by rfl) (by walk_at "ctor") (by rw [sizeLine_eq]; omega) ?_ ?_ ?_
    · walk_at "go"
      exact ⟨rfl, iter_list hh' _⟩
    · intro c₃ hA₃ hsc₃ p hp
      have hps := pathsN_size _ p hp
      refine ⟨?_, fun _ => ?_⟩
      · walk_at "go"
        walk_at "len"
        refine cal_len_tup (by simp; omega) ?_
        walk_at "go"
        rw [List.length_map]
        exact ⟨rfl, rfl⟩
      · walk_at "go"
        exact ⟨rfl, rfl⟩
    · walk_at "go"
      subst hNe
      exact q

def stl (h hand : Int) (tg : List Int → Option Str) : Nat → List Int → Option Str
  | 0, p => tg p
  | k + 1, p => voteF (tg p :: ((hears h p).filter (· != hand)).map fun x => stl h hand tg k (p ++ [x]))
theorem pth_add (p : List Int) (x : Int) : AV.tup (p.map AV.int ++ [AV.int x]) = pth (p ++ [x]) := by unfold pth; rw [List.map_append]; rfl
theorem pth_ne {p : List Int} (h : p ≠ []) : p.map AV.int ≠ [] := by simpa using h
theorem sgs_append (S : List (Option Str)) (x : Option Str) : S.map sg ++ [sg x] = (S ++ [x]).map sg := by simp

theorem settled_spec (T : TopG g (K03 g)) {h hand most : Int} {told : AV} {l : List (AV × AV)} (h0 : 0 ≤ h) (h1 : h ≤ 10) (hm : most ≤ 2) (tl : tkeys l) (tg : List Int → Option Str) (D : List Int → Prop) (hD : ∀ p, D p → dget l (pth p) = some (sg (tg p)))
    (hN : ∀ p, D p → (p.length : Int) ≤ most → ∀ x ∈ hears h p, x ≠ hand → D (p ++ [x])) (hne : ∀ p, D p → p ≠ []) :
    ∀ (k : Nat) {c : Cx g} {σ : Sto} {Q : AV → Sto → Prop} {p : List Int}, c.A.depth + k + 2 < recursionLimit → c.A.handled = none → c.A.units + 10 * k + 60 < cLine → (p.length : Int) + k = most + 1 → D p → Dct σ told l → Q (sg (stl h hand tg k p)) σ →
      cal c (.ref 33) [.int h, .int most, told, .int hand, pth p] σ Q := by
  intro k
  induction k with
  | zero =>
    intro c σ Q p hd hh hu hk hp hx q
    refine cal_fn (ps := ["hands", "most", "told", "hand", "path"]) (rest := ["signs", "other"]) (fnAt_of T.X T.nl (by rfl) (fun | [_, _, _, _, _], _ => by rfl)) (by rfl) (by omega) rfl fun c' hsc hfn hA => ?_
    have hu' : c'.A.units + 20 < cLine := by rw [hA]; show c.A.units + 3 + 20 < cLine; omega
    show es c' [(("hands" : Str), some _), (("most" : Str), some _), (("told" : Str), some _), (("hand" : Str), some _), (("path" : Str), some _), (("signs" : Str), none), (("other" : Str), none)] (execs (_ :: _) c'.env) σ _
    walk_at "go"
    walk_at "len"
    refine cal_len_tup (by simp; omega) ?_
    rw [List.length_map]
    walk_at "go"
    · refine sub_dict hx tl (pth_tkey p) (hD p hp) (by omega) ?_
      walk_at "go"
      exact q
    · rename_i hbad
      simp at hbad
      omega
  | succ k ih =>
    intro c σ Q p hd hh hu hk hp hx q
    refine cal_fn (ps := ["hands", "most", "told", "hand", "path"]) (rest := ["signs", "other"]) (fnAt_of T.X T.nl (by rfl) (fun | [_, _, _, _, _], _ => by rfl)) (by rfl) (by omega) rfl fun c' hsc hfn hA => ?_
    have hu' : c'.A.units + 10 * k + 60 < cLine := by rw [hA]; show c.A.units + 3 + 10 * k + 60 < cLine; omega
    have hd' : c'.A.depth + k + 2 < recursionLimit := by rw [hA]; show c.A.depth + 1 + k + 2 < _; omega
    have hh' : c'.A.handled = none := by rw [hA]; exact hh
    show es c' [(("hands" : Str), some _), (("most" : Str), some _), (("told" : Str), some _), (("hand" : Str), some _), (("path" : Str), some _), (("signs" : Str), none), (("other" : Str), none)] (execs (_ :: _) c'.env) σ _
    walk_at "go"
    walk_at "len"
    refine cal_len_tup (by simp; omega) ?_
    rw [List.length_map]
    walk_at "go"
    · rename_i hbad
      simp at hbad
      omega
    refine ev_list ?_
    walk_at "go"
    refine sub_dict hx tl (pth_tkey p) (hD p hp) (by omega) ?_
    walk_at "go"
    refine ⟨by show 1 ≤ sizeLine; rw [sizeLine_eq]; decide, .inr fun a ha => ?_⟩
    walk_at "go"
    have hlen := hears_len h p
    refine es_loop (fun l ρ' σ' => ∃ d r : List Int, hears h p = d ++ r ∧ l = r.map AV.int ∧ σ' = σ.set a (.lst ((tg p :: (d.filter (· != hand)).map fun x => stl h hand tg k (p ++ [x])).map sg)) ∧ ρ' = [(("hands" : Str), some (AV.int h)), (("most" : Str), some (AV.int most)), (("told" : Str), some told), (("hand" : Str), some (AV.int hand)), (("path" : Str), some (pth p)), (("signs" : Str), some (AV.obj a)), (("other" : Str), none)]) hfn ?_ ?_ ?_
    · walk_at "fn"
      refine hearers_spec T (by omega) hh' (by omega) h0 (by omega) ?_
      exact ⟨_, iter_list hh' _, [], hears h p, rfl, rfl, rfl, rfl⟩
    · rintro c₂ hA₂ hsc₂ hfn₂ y rest ρ₁ σ₂ ⟨d, r, hdr, hr, rfl, rfl⟩
      rw [hsc] at hsc₂
      rw [← hA₂] at hh' hu' hd'
      cases r with
      | nil => cases hr
      | cons x r =>
        rw [List.map_cons] at hr
        injection hr with e1 e2
        subst e1; subst e2
        have hxm : x ∈ hears h p := by rw [hdr]; simp
        have hds : d.length ≤ 10 := by
          have := congrArg List.length hdr
          rw [List.length_append] at this
          omega
        walk_at "go"
        · rename_i hxh
          walk_at "append"
          refine ⟨.objL Sto.set_self, ?_⟩
          walk_at "go"
          walk_at "fn"
          refine ev_tuple ?_
          walk_at "go"
          refine ⟨by show 1 ≤ sizeLine; rw [sizeLine_eq]; decide, ?_⟩
          refine op_addt (pth_ne (hne p hp)) (by simp) (by simp [sizeLine_eq]; omega) ?_
          rw [pth_add]
          walk_at "go"
          refine ih hd' hh' hu' (by rw [List.length_append, List.length_singleton]; omega) (hN p hp (by omega) x hxm (by simpa using hxh)) (hx.set ha) ?_
          walk_at "go"
          have hfl := List.length_filter_le (· != hand) d
          refine cal_append Sto.set_self (by simp only [List.length_map, List.length_cons, sizeLine_eq]; omega) ⟨trivial, ?_⟩
          walk_at "go"
          refine trn_next (by walk_at "ctor") ⟨d ++ [x], r, by rw [hdr]; simp, rfl, ?_, rfl⟩
          rw [Sto.set_set, sgs_append, List.filter_append, List.map_append]
          simp [hxh]
        · rename_i hxh
          refine trn_next (by walk_at "ctor") ⟨d ++ [x], r, by rw [hdr]; simp, rfl, ?_, rfl⟩
          simp [hxh]
    · rintro ρ₁ σ₂ ⟨d, r, hdr, hr, rfl, rfl⟩
      have hr0 : r = [] := by cases r with | nil => rfl | cons _ _ => cases hr
      subst hr0
      rw [List.append_nil] at hdr
      subst hdr
      refine thn_next ?_
      refine es_freeze Sto.set_self (.lst _) (by walk_at "ctor") ?_
      rw [Sto.set_del ha]
      walk_at "go"
      walk_at "fn"
      have hfl := List.length_filter_le (· != hand) (hears h p)
      refine vote_spec T (by omega) hh' (by omega) (by rw [List.length_cons, List.length_map]; omega) ?_
      walk_at "go"
      exact q

theorem lsettled_spec (T : TopG g (K03 g)) {h hand most : Int} {told : AV} {l : List (AV × AV)} (h0 : 0 ≤ h) (h1 : h ≤ 10) (hm : most ≤ 2) (tl : tkeys l) (tg : List Int → Option Str) (D : List Int → Prop) (hD : ∀ p, D p → dget l (pth p) = some (sg (tg p)))
    (hN : ∀ p, D p → (p.length : Int) ≤ most → ∀ x ∈ hears h p, x ≠ hand → D (p ++ [x])) (hne : ∀ p, D p → p ≠ []) :
    ∀ (k : Nat) {c : Cx g} {σ : Sto} {Q : AV → Sto → Prop} {p : List Int}, c.A.depth + k + 2 < recursionLimit → c.A.handled = none → c.A.units + 10 * k + 60 < cLine → (p.length : Int) + k = most + 1 → D p → Dct σ told l → Q (sg (stl h hand tg k p)) σ →
      cal c (.ref 71) [.int h, .int most, told, .int hand, pth p] σ Q := by
  intro k
  induction k with
  | zero =>
    intro c σ Q p hd hh hu hk hp hx q
    refine cal_fn (ps := ["_law_hands", "_law_most", "_law_told", "_law_hand", "_law_path"]) (rest := ["_law_others"]) (fnAt_of T.X T.nl (by rfl) (fun | [_, _, _, _, _], _ => by rfl)) (by rfl) (by omega) rfl fun c' hsc hfn hA => ?_
    have hu' : c'.A.units + 20 < cLine := by rw [hA]; show c.A.units + 3 + 20 < cLine; omega
    show es c' [(("_law_hands" : Str), some _), (("_law_most" : Str), some _), (("_law_told" : Str), some _), (("_law_hand" : Str), some _), (("_law_path" : Str), some _), (("_law_others" : Str), none)] (execs (_ :: _) c'.env) σ _
    walk_at "go"
    walk_at "len"
    refine cal_len_tup (by simp; omega) ?_
    rw [List.length_map]
    walk_at "go"
    · refine sub_dict hx tl (pth_tkey p) (hD p hp) (by omega) ?_
      walk_at "go"
      exact q
    · rename_i hbad
      simp at hbad
      omega
  | succ k ih =>
    intro c σ Q p hd hh hu hk hp hx q
    refine cal_fn (ps := ["_law_hands", "_law_most", "_law_told", "_law_hand", "_law_path"]) (rest := ["_law_others"]) (fnAt_of T.X T.nl (by rfl) (fun | [_, _, _, _, _], _ => by rfl)) (by rfl) (by omega) rfl fun c' hsc hfn hA => ?_
    have hu' : c'.A.units + 10 * k + 60 < cLine := by rw [hA]; show c.A.units + 3 + 10 * k + 60 < cLine; omega
    have hd' : c'.A.depth + k + 2 < recursionLimit := by rw [hA]; show c.A.depth + 1 + k + 2 < _; omega
    have hh' : c'.A.handled = none := by rw [hA]; exact hh
    show es c' [(("_law_hands" : Str), some _), (("_law_most" : Str), some _), (("_law_told" : Str), some _), (("_law_hand" : Str), some _), (("_law_path" : Str), some _), (("_law_others" : Str), none)] (execs (_ :: _) c'.env) σ _
    walk_at "go"
    walk_at "len"
    refine cal_len_tup (by simp; omega) ?_
    rw [List.length_map]
    walk_at "go"
    · rename_i hbad
      simp at hbad
      omega
    have hlen := hears_len h p
    refine es_filtP [(("_law_hand" : Str), some (AV.int hand)), (("_law_path" : Str), some (pth p))] AV.int (rngL 0 h) (fun x => x != hand && !p.contains x) AV.int hfn hsc (by rfl) (by rfl) (by walk_at "ctor") (by rw [rngL_len, sizeLine_eq]; omega) ?_ ?_ ?_
    · walk_at "range"
      exact cal_range1 ⟨rfl, iter_rng hh' (by decide) (by decide) (by omega) (by omega)⟩
    · intro c₂ hA₂ hsc₂ a ha
      rw [← hA₂] at hu'
      refine ⟨?_, fun _ => ?_⟩
      · walk_at "go"
        · rename_i hne'
          refine cmp_notin_tup (ints_plain p) (by rw [ints_deep]; exact Nat.zero_le _) rfl (by omega) ?_
          walk_at "go"
          all_goals
            rename_i hc
            rw [ints_any] at hc
            rw [hne', hc]
            exact ⟨rfl, rfl⟩
        · rename_i hne'
          rw [hne']
          exact ⟨rfl, rfl⟩
      · walk_at "go"
        exact ⟨rfl, rfl⟩
    · refine made_frz (upd_ex (by walk_at "ctor") ?_)
      have ef : (rngL 0 h).filter (fun x => x != hand && !p.contains x) = (hears h p).filter (· != hand) := by
        unfold hears
        rw [List.filter_filter]
      rw [ef]
      have hfl := List.length_filter_le (· != hand) (hears h p)
      walk_at "go"
      walk_at "fn"
      refine ev_list ?_
      walk_at "go"
      refine sub_dict hx tl (pth_tkey p) (hD p hp) (by omega) ?_
      walk_at "go"
      refine ⟨by show 1 ≤ sizeLine; rw [sizeLine_eq]; decide, .inl ?_⟩
      refine ev_mapP [(("_law_hands" : Str), some (AV.int h)), (("_law_most" : Str), some (AV.int most)), (("_law_told" : Str), some told), (("_law_hand" : Str), some (AV.int hand)), (("_law_path" : Str), some (pth p))] AV.int ((hears h p).filter (· != hand)) (fun x => sg (stl h hand tg k (p ++ [x]))) hsc (by rfl) (by walk_at "ctor") (by rw [sizeLine_eq]; omega) ?_ ?_ ?_
      · walk_at "go"
        exact ⟨rfl, iter_list hh' _⟩
      · intro c₂ hA₂ hsc₂ x hxm
        rw [← hA₂] at hu' hh' hd'
        obtain ⟨hx1, hx2⟩ := List.mem_filter.mp hxm
        walk_at "fn"
        refine ev_tuple ?_
        walk_at "go"
        refine ⟨by show 1 ≤ sizeLine; rw [sizeLine_eq]; decide, ?_⟩
        refine op_addt (pth_ne (hne p hp)) (by simp) (by simp [sizeLine_eq]; omega) ?_
        rw [pth_add]
        walk_at "go"
        exact ih hd' hh' hu' (by rw [List.length_append, List.length_singleton]; omega) (hN p hp (by omega) x hx1 (by simpa using hx2)) hx ⟨rfl, rfl⟩
      · have em : ((hears h p).filter (· != hand)).map (fun x => sg (stl h hand tg k (p ++ [x]))) = (((hears h p).filter (· != hand)).map fun x => stl h hand tg k (p ++ [x])).map sg := by rw [List.map_map]; rfl
        rw [em]
        refine op_addl .list .list (by simp only [List.length_map, List.length_cons, List.length_nil, sizeLine_eq]; omega) (.inl ?_)
        walk_at "go"
        rw [show [sg (tg p)] ++ List.map sg (((hears h p).filter (· != hand)).map fun x => stl h hand tg k (p ++ [x])) = (tg p :: (((hears h p).filter (· != hand)).map fun x => stl h hand tg k (p ++ [x]))).map sg from rfl]
        refine lvote_spec T (by omega) hh' (by omega) (by rw [List.length_cons, List.length_map]; omega) ?_
        walk_at "go"
        rw [← vote_same]
        exact q

theorem sub_len : ∀ {l m : List Int}, l.Nodup → (∀ x ∈ l, x ∈ m) → l.length ≤ m.length
  | [], _, _, _ => Nat.zero_le _
  | a :: l, m, hn, hs => by
    obtain ⟨h1, h2⟩ := List.nodup_cons.mp hn
    have ha := hs a List.mem_cons_self
    have := sub_len (l := l) (m := m.erase a) h2 fun x hx => (List.mem_erase_of_ne (by rintro rfl; exact h1 hx)).mpr (hs x (List.mem_cons_of_mem _ hx))
    rw [List.length_erase_of_mem ha] at this
    have hp := List.length_pos_of_mem ha
    rw [List.length_cons]; omega
theorem mem_hears {h : Int} {p : List Int} {x : Int} : x ∈ hears h p ↔ (0 ≤ x ∧ x < h) ∧ x ∉ p := by
  unfold hears
  rw [List.mem_filter, mem_rngL]
  simp
theorem mem_nexts {h : Int} {P : List (List Int)} {q : List Int} : q ∈ nexts h P ↔ ∃ p ∈ P, ∃ x ∈ hears h p, q = p ++ [x] := by
  simp only [nexts, List.mem_flatMap, List.mem_map]
  constructor
  · rintro ⟨p, hp, x, hx, rfl⟩; exact ⟨p, hp, x, hx, rfl⟩
  · rintro ⟨p, hp, x, hx, rfl⟩; exact ⟨p, hp, x, hx, rfl⟩
theorem pathsN_ok {h : Int} (h0 : 0 < h) : ∀ n, ∀ p ∈ pathsN h n, p.Nodup ∧ (∀ x ∈ p, 0 ≤ x ∧ x < h) ∧ p.head? = some 0
  | 0, p, hp => by simp [pathsN] at hp; subst hp; exact ⟨by simp, by simp; omega, rfl⟩
  | n + 1, p, hp => by
    obtain ⟨r, hr, x, hx, rfl⟩ := mem_nexts.mp hp
    obtain ⟨h1, h2, h3⟩ := pathsN_ok h0 n r hr
    obtain ⟨hx1, hx2⟩ := mem_hears.mp hx
    refine ⟨?_, ?_, ?_⟩
    · rw [List.nodup_append]
      refine ⟨h1, by simp, fun a ha b hb => ?_⟩
      rw [List.mem_singleton.mp hb]
      rintro rfl; exact hx2 ha
    · intro y hy
      rcases List.mem_append.mp hy with hy | hy
      · exact h2 y hy
      · rw [List.mem_singleton.mp hy]; exact hx1
    · cases r with
      | nil => cases h3
      | cons a t => exact h3
theorem rngL_nodup (a b : Int) : (rngL a b).Nodup := by
  unfold rngL
  refine List.Pairwise.map _ (fun x y h => ?_) (List.nodup_range (n := (b - a).toNat))
  show (a + (x : Int)) ≠ a + (y : Int)
  omega
theorem hears_nodup (h : Int) (p : List Int) : (hears h p).Nodup := List.Pairwise.filter _ (rngL_nodup 0 h)
theorem nexts_nodup {h : Int} {P : List (List Int)} (hP : P.Nodup) : (nexts h P).Nodup := by
  unfold nexts
  refine List.pairwise_flatMap.mpr ⟨fun p _ => ?_, hP.imp fun {p q} hpq x hx y hy => ?_⟩
  · refine List.Pairwise.map _ (fun x y hxy => ?_) (hears_nodup h p)
    intro e
    exact hxy (by simpa using e)
  · obtain ⟨a, _, rfl⟩ := List.mem_map.mp hx
    obtain ⟨b, _, rfl⟩ := List.mem_map.mp hy
    intro e
    exact hpq (List.append_inj' e rfl).1
theorem pathsN_nodup (h : Int) : ∀ n, (pathsN h n).Nodup
  | 0 => by simp [pathsN]
  | n + 1 => nexts_nodup (pathsN_nodup h n)
theorem mem_lpaths {h n : Int} (h2 : 2 ≤ h) (n1 : 1 ≤ n) {p : List Int} : p ∈ lpaths h n ↔ n ≤ h - 1 ∧ p ∈ pathsN h (n - 1).toNat := by
  unfold lpaths
  rw [List.mem_filter]
  constructor
  · rintro ⟨hp, hl⟩
    have hs := pathsN_size _ p hp
    have hl' : (p.length : Int) = n := by simpa using hl
    have : n ≤ h - 1 := by omega
    rw [show min n (h - 1) = n by omega] at hp
    exact ⟨this, hp⟩
  · rintro ⟨hn, hp⟩
    rw [show min n (h - 1) = n by omega]
    have hs := pathsN_size _ p hp
    refine ⟨hp, ?_⟩
    simp only [beq_iff_eq]
    omega
def dom (h most hand : Int) (ss : List Int) : List (List Int) := (ss.flatMap (lpaths h)).filter fun p => !p.contains hand
theorem dom_cons (h most hand n : Int) (ss : List Int) : dom h most hand (n :: ss) = ((lpaths h n).filter fun p => !p.contains hand) ++ dom h most hand ss := by
  simp [dom]
theorem lpaths_size {h n : Int} {p : List Int} (hp : p ∈ lpaths h n) : (p.length : Int) = n := by
  unfold lpaths at hp
  have := (List.mem_filter.mp hp).2
  simpa using this
theorem lpaths_len {h n : Int} (h1 : h ≤ 10) (n1 : n ≤ 3) : (lpaths h n).length ≤ 100 := by
  unfold lpaths
  have := List.length_filter_le (fun p : List Int => ((p.length : Int) == n)) (pathsN h (min n (h - 1) - 1).toNat)
  have h2 := pathsN_len h1 (min n (h - 1) - 1).toNat
  have h3 : 10 ^ (min n (h - 1) - 1).toNat ≤ 10 ^ 2 := Nat.pow_le_pow_right (by decide) (by omega)
  omega
theorem dom_nodup {h most hand : Int} {ss : List Int} (hs : ss.Nodup) : (dom h most hand ss).Nodup := by
  refine List.Pairwise.filter _ (List.pairwise_flatMap.mpr ⟨fun n _ => List.Pairwise.filter _ (pathsN_nodup _ _), hs.imp fun {a b} hab x hx y hy e => ?_⟩)
  subst e
  exact hab ((lpaths_size hx).symm.trans (lpaths_size hy))
theorem mem_dom {h most hand : Int} {p : List Int} (h2 : 2 ≤ h) : p ∈ dom h most hand (rngL 1 (most + 2)) ↔ ∃ n : Int, 1 ≤ n ∧ n ≤ most + 1 ∧ n ≤ h - 1 ∧ p ∈ pathsN h (n - 1).toNat ∧ hand ∉ p := by
  unfold dom
  rw [List.mem_filter, List.mem_flatMap]
  constructor
  · rintro ⟨⟨n, hn, hp⟩, hh⟩
    rw [mem_rngL] at hn
    obtain ⟨a, b⟩ := (mem_lpaths h2 hn.1).mp hp
    exact ⟨n, hn.1, by omega, a, b, by simpa using hh⟩
  · rintro ⟨n, h1, h2', h3, h4, h5⟩
    exact ⟨⟨n, mem_rngL.mpr ⟨h1, by omega⟩, (mem_lpaths h2 h1).mpr ⟨h3, h4⟩⟩, by simpa using h5⟩
theorem dom_next {h most hand : Int} {p : List Int} (h2 : 2 ≤ h) (hh0 : 0 ≤ hand) (hh1 : hand < h) (hp : p ∈ dom h most hand (rngL 1 (most + 2))) (hl : (p.length : Int) ≤ most) {x : Int} (hx : x ∈ hears h p) (hxh : x ≠ hand) : p ++ [x] ∈ dom h most hand (rngL 1 (most + 2)) := by
  obtain ⟨n, n1, n2, n3, hp', hnh⟩ := (mem_dom h2).mp hp
  have hsz := pathsN_size _ p hp'
  have hq : p ++ [x] ∈ pathsN h ((n - 1).toNat + 1) := mem_nexts.mpr ⟨p, hp', x, hx, rfl⟩
  obtain ⟨q1, q2, _⟩ := pathsN_ok (by omega) _ _ hq
  have hnq : hand ∉ p ++ [x] := by
    intro hm
    rcases List.mem_append.mp hm with hm | hm
    · exact hnh hm
    · exact hxh (List.mem_singleton.mp hm).symm
  have hlen := sub_len (l := hand :: (p ++ [x])) (m := rngL 0 h) (List.nodup_cons.mpr ⟨hnq, q1⟩) fun y hy => by
    rcases List.mem_cons.mp hy with rfl | hy
    · exact mem_rngL.mpr ⟨hh0, hh1⟩
    · exact mem_rngL.mpr (q2 y hy)
  rw [List.length_cons, List.length_append, List.length_singleton, rngL_len] at hlen
  refine (mem_dom h2).mpr ⟨n + 1, by omega, by omega, by omega, ?_, hnq⟩
  rw [show (n + 1 - 1).toNat = (n - 1).toNat + 1 by omega]
  exact hq
theorem dom_zero {h most hand : Int} (h2 : 2 ≤ h) (hm : 0 ≤ most) (hh : 0 < hand) : [0] ∈ dom h most hand (rngL 1 (most + 2)) :=
  (mem_dom h2).mpr ⟨1, by omega, by omega, by omega, by simp [pathsN], by simp; omega⟩
theorem dom_ne {h most hand : Int} {p : List Int} (h2 : 2 ≤ h) (hp : p ∈ dom h most hand (rngL 1 (most + 2))) : p ≠ [] := by
  obtain ⟨n, _, _, _, hp', _⟩ := (mem_dom h2).mp hp
  have := pathsN_size _ p hp'
  rintro rfl; cases this
theorem dom_len {h most hand : Int} {p : List Int} (h2 : 2 ≤ h) (hp : p ∈ dom h most hand (rngL 1 (most + 2))) : (p.length : Int) ≤ most + 1 := by
  obtain ⟨n, _, _, _, hp', _⟩ := (mem_dom h2).mp hp
  have := pathsN_size _ p hp'
  omega

def ph (p : List Int) : Int := reduceHash (Builtin.Tuple.tupleHashOf (p.map hashInt))
theorem hKs_ints (w : World) (p : List Int) : hKs w (p.map .int) = p.map hashInt := by
  induction p with
  | nil => rfl
  | cons a r ih => rw [List.map_cons, List.map_cons]; unfold hKs; rw [ih]; rfl
theorem hK_pth (w : World) (p : List Int) : hK w (pth p) = ph p := by
  show reduceHash (Builtin.Tuple.tupleHashOf (hKs w (p.map .int))) = _
  rw [hKs_ints]; rfl
def ten : List Int := [0, 1, 2, 3, 4, 5, 6, 7, 8, 9]
def allP : List (List Int) := [0] :: (ten.map fun a => [0, a]) ++ ten.flatMap fun a => ten.map fun b => [0, a, b]
def allH : List Int := allP.map ph
theorem mem_ten {x : Int} (h0 : 0 ≤ x) (h1 : x < 10) : x ∈ ten := by
  have : x = 0 ∨ x = 1 ∨ x = 2 ∨ x = 3 ∨ x = 4 ∨ x = 5 ∨ x = 6 ∨ x = 7 ∨ x = 8 ∨ x = 9 := by omega
  simp only [ten, List.mem_cons, List.not_mem_nil, or_false]
  exact this
theorem dom_allP {h most hand : Int} {p : List Int} (h2 : 2 ≤ h) (h3 : h ≤ 10) (hm : most ≤ 2) (hp : p ∈ dom h most hand (rngL 1 (most + 2))) : p ∈ allP := by
  obtain ⟨n, n1, n2, n3, hp', _⟩ := (mem_dom h2).mp hp
  have hsz := pathsN_size _ p hp'
  obtain ⟨_, q2, q3⟩ := pathsN_ok (by omega) _ p hp'
  have hlen : p.length ≤ 3 := by omega
  match p, hlen, q2, q3 with
  | [], _, _, q3 => cases q3
  | [a], _, q2, q3 =>
    injection q3 with q3; subst q3
    simp [allP]
  | [a, b], _, q2, q3 =>
    injection q3 with q3; subst q3
    have hb := q2 b (by simp)
    have := mem_ten hb.1 (by omega)
    simp only [allP, List.cons_append, List.mem_cons, List.mem_append, List.mem_map]
    exact .inr (.inl ⟨b, this, rfl⟩)
  | [a, b, d], _, q2, q3 =>
    injection q3 with q3; subst q3
    have hb := mem_ten (q2 b (by simp)).1 (by have := (q2 b (by simp)).2; omega)
    have hd := mem_ten (q2 d (by simp)).1 (by have := (q2 d (by simp)).2; omega)
    simp only [allP, List.cons_append, List.mem_cons, List.mem_append, List.mem_map, List.mem_flatMap]
    exact .inr (.inr ⟨b, hb, d, hd, rfl⟩)
  | _ :: _ :: _ :: _ :: _, hl, _, _ => simp at hl
theorem inj_of_nodup {α β : Type} {f : α → β} : ∀ {l : List α}, (l.map f).Nodup → ∀ x ∈ l, ∀ y ∈ l, f x = f y → x = y
  | [], _, x, hx, _, _, _ => by cases hx
  | a :: l, hn, x, hx, y, hy, e => by
    rw [List.map_cons, List.nodup_cons] at hn
    by_cases hxa : x = a
    · by_cases hya : y = a
      · rw [hxa, hya]
      · have hy' := (List.mem_cons.mp hy).resolve_left hya
        exact absurd (List.mem_map.mpr ⟨y, hy', by rw [← e, hxa]⟩) hn.1
    · have hx' := (List.mem_cons.mp hx).resolve_left hxa
      by_cases hya : y = a
      · exact absurd (List.mem_map.mpr ⟨x, hx', by rw [e, hya]⟩) hn.1
      · exact inj_of_nodup hn.2 x hx' y ((List.mem_cons.mp hy).resolve_left hya) e
theorem allH_nodup : allH.Nodup := by decide +kernel
theorem dom_hashes {h most hand : Int} (w : World) (h2 : 2 ≤ h) (h3 : h ≤ 10) (hm : most ≤ 2) : ((dom h most hand (rngL 1 (most + 2))).map fun p => hK w (pth p)).Nodup := by
  have e : (dom h most hand (rngL 1 (most + 2))).map (fun p => hK w (pth p)) = (dom h most hand (rngL 1 (most + 2))).map ph := List.map_congr_left fun p _ => hK_pth w p
  rw [e]
  refine List.pairwise_map.mpr (List.Pairwise.imp_of_mem (fun {a b} ha hb hab e => ?_) (dom_nodup (most := most) (rngL_nodup 1 (most + 2))))
  exact hab (inj_of_nodup allH_nodup a (dom_allP h2 h3 hm ha) b (dom_allP h2 h3 hm hb) e)

def ent (e : List Int × Option Str) : AV × AV := (pth e.1, sg e.2)
theorem ent_keys (L : List (List Int × Option Str)) : (L.map ent).map (·.1) = (L.map (·.1)).map pth := by rw [List.map_map, List.map_map]; rfl
theorem ent_tkeys (L : List (List Int × Option Str)) : tkeys (L.map ent) := by
  intro p hp
  obtain ⟨e, _, rfl⟩ := List.mem_map.mp hp
  exact pth_tkey _
open scoped Classical in
theorem dget_ent (L : List (List Int × Option Str)) (p : List Int) : dget (L.map ent) (pth p) = (L.lookup p).map sg := by
  induction L with
  | nil => rfl
  | cons e r ih =>
    obtain ⟨q, s⟩ := e
    rw [List.map_cons]
    unfold dget at ih ⊢
    rw [List.find?_cons, List.lookup_cons]
    by_cases h : q = p
    · subst h
      simp [ent]
    · have h1 : (p == q) = false := by simpa using fun e => h e.symm
      have h2 : ¬ (ent (q, s)).1 = pth p := fun e => h (pth_inj e)
      rw [h1]
      simp only [decide_eq_false h2]
      exact ih
theorem lookup_none {L : List (List Int × Option Str)} {p : List Int} (h : p ∉ L.map (·.1)) : L.lookup p = none := by
  induction L with
  | nil => rfl
  | cons e r ih =>
    obtain ⟨q, s⟩ := e
    rw [List.map_cons, List.mem_cons, not_or] at h
    rw [List.lookup_cons, show (p == q) = false by simpa using h.1]
    exact ih h.2
theorem lookup_some {L : List (List Int × Option Str)} {p : List Int} (h : p ∈ L.map (·.1)) : ∃ s, L.lookup p = some s := by
  induction L with
  | nil => cases h
  | cons e r ih =>
    obtain ⟨q, s⟩ := e
    rw [List.lookup_cons]
    cases hq : p == q with
    | true => exact ⟨s, rfl⟩
    | false =>
      rw [List.map_cons, List.mem_cons] at h
      exact ih (h.resolve_left (by simpa using hq))
theorem dset_ent {L : List (List Int × Option Str)} {p : List Int} {s : Option Str} (h : p ∉ L.map (·.1)) : dset (L.map ent) (pth p) (sg s) = (L ++ [(p, s)]).map ent := by
  unfold dset
  rw [dget_ent, lookup_none h]
  simp [ent]

theorem filt_pos {p : List Int} {P : List (List Int)} {hand : Int} (h : (!p.contains hand) = true) : (p :: P).filter (fun p => !p.contains hand) = p :: P.filter fun p => !p.contains hand := List.filter_cons_of_pos (p := fun p : List Int => !p.contains hand) h
theorem filt_neg {p : List Int} {P : List (List Int)} {hand : Int} (h : (!p.contains hand) = false) : (p :: P).filter (fun p => !p.contains hand) = P.filter fun p => !p.contains hand := List.filter_cons_of_neg (p := fun p : List Int => !p.contains hand) (by rw [h]; exact Bool.false_ne_true)
theorem drawn_spec {Q : AV → Sto → Prop} (T : TopG g (K03 g)) (hS : ∃ f o, sysModules ≤ f ∧ g.H₀.get? f = some o) (hd : c.A.depth + 4 < recursionLimit) (hh : c.A.handled = none) (hu : c.A.units + 60 < cLine) {ns : List Int} (hz : ns.length ≤ 63) (hz0 : 0 < ns.length) {h most hand : Int} (h2 : 2 ≤ h) (h3 : h ≤ 10) (m0 : 0 ≤ most) (m1 : most ≤ 2)
    (q : ∀ L : List (List Int × Option Str), L.map (·.1) = dom h most hand (rngL 1 (most + 2)) → L.length ≤ 300 → Q (.dict (L.map ent)) σ) :
    cal c (.ref 85) [.list (ns.map .int), .int h, .int most, .int hand] σ Q := by
  refine cal_fn (ps := ["_law_script", "_law_hands", "_law_most", "_law_hand"]) (rest := ["_law_signs_here", "_law_few", "_law_found", "_law_k", "_law_size", "_law_path", "_law_cell", "_law_mixed"]) (fnAt_of T.X T.nl (by rfl) (fun | [_, _, _, _], _ => by rfl)) (by rfl) (by omega) rfl fun c' hsc hfn hA => ?_
  have hh' : c'.A.handled = none := by rw [hA]; exact hh
  have hd' : c'.A.depth + 2 < recursionLimit := by rw [hA]; show c.A.depth + 1 + 2 < _; omega
  have hu' : c'.A.units + 40 < cLine := by rw [hA]; show c.A.units + 3 + 40 < cLine; omega
  show es c' [(("_law_script" : Str), some (AV.list (ns.map .int))), (("_law_hands" : Str), some (AV.int h)), (("_law_most" : Str), some (AV.int most)), (("_law_hand" : Str), some (AV.int hand)), (("_law_signs_here" : Str), none), (("_law_few" : Str), none), (("_law_found" : Str), none), (("_law_k" : Str), none), (("_law_size" : Str), none), (("_law_path" : Str), none), (("_law_cell" : Str), none), (("_law_mixed" : Str), none)] (execs (_ :: _) c'.env) σ _
  walk_at "go"
  walk_at "fn"
  walk_at "cell"
  refine signs_spec T (by omega) hh' fun l hl => ?_
  walk_at "go"
  refine ev_list (evl_cons (ev_none (evl_nil ⟨by decide, .inl ?_⟩)))
  generalize hSx : l.map some ++ [none] = S
  have hSl : S.length = 5 := by rw [← hSx]; simp [hl]
  have hSe : l.map AV.str ++ [AV.none] = S.map sg := by rw [← hSx]; simp [sg, Function.comp_def]
  refine op_addl .list .list (by simp [hl, sizeLine_eq]) (.inl ?_)
  rw [hSe]
  walk_at "go"
  walk_at "cell"
  generalize hc2 : ns.getD (Int.toNat 2) 0 = c2
  have hf0 := fm_lo c2 (n := 4) (by decide)
  have hf1 := fm_hi c2 (n := 4) (by decide)
  generalize hfew : 2 + c2.fmod 4 = few
  refine ev_dict0 hS (.inr fun a ha => ?_)
  walk_at "go"
  refine es_loop (fun l ρ' σ' => ∃ r : List Int, ∃ L : List (List Int × Option Str), ∃ kk : Int, l = r.map AV.int ∧ (∀ n ∈ r, 0 ≤ n ∧ n ≤ 3) ∧ L.map (·.1) ++ dom h most hand r = dom h most hand (rngL 1 (most + 2)) ∧ 0 ≤ kk ∧ kk + 100 * r.length ≤ 300 ∧ L.length ≤ kk ∧ σ' = σ.set a (.dct (L.map ent)) ∧ ρ' = [(("_law_script" : Str), some (AV.list (ns.map .int))), (("_law_hands" : Str), some (AV.int h)), (("_law_most" : Str), some (AV.int most)), (("_law_hand" : Str), some (AV.int hand)), (("_law_signs_here" : Str), some (AV.list (S.map sg))), (("_law_few" : Str), some (AV.int few)), (("_law_found" : Str), some (AV.obj a)), (("_law_k" : Str), some (AV.int kk)), (("_law_size" : Str), none), (("_law_path" : Str), none), (("_law_cell" : Str), none), (("_law_mixed" : Str), none)]) hfn ?_ ?_ ?_
  · walk_at "range"
    refine cal_range2 ⟨_, iter_rng hh' (by decide) (by decide) (by omega) (by omega), rngL 1 (most + 2), [], 0, rfl, fun n hn => ?_, rfl, by decide, ?_, by simp, rfl, rfl⟩
    · have := mem_rngL.mp hn; omega
    · rw [rngL_len]; omega
  · rintro c₂ hA₂ hsc₂ hfn₂ y rest ρ₁ σ₂ ⟨r, L, kk, hr, hrn, hdom, hk0, hk1, hLk, rfl, rfl⟩
    rw [hsc] at hsc₂
    rw [← hA₂] at hh' hu' hd'
    cases r with
    | nil => cases hr
    | cons n r =>
      rw [List.map_cons] at hr
      injection hr with e1 e2
      subst e1; subst e2
      obtain ⟨hn0, hn1⟩ := hrn n List.mem_cons_self
      have hlp := lpaths_len (n := n) h3 hn1
      rw [dom_cons] at hdom
      refine upd_ex (by walk_at "ctor") (es_one (es_loop (fun l ρ' σ' => ∃ P : List (List Int), ∃ L : List (List Int × Option Str), ∃ kk : Int, l = P.map pth ∧ L.map (·.1) ++ ((P.filter fun p => !p.contains hand) ++ dom h most hand r) = dom h most hand (rngL 1 (most + 2)) ∧ 0 ≤ kk ∧ kk + P.length + 100 * r.length ≤ 300 ∧ L.length ≤ kk ∧ σ' = σ.set a (.dct (L.map ent)) ∧ ρ' = [(("_law_script" : Str), some (AV.list (ns.map .int))), (("_law_hands" : Str), some (AV.int h)), (("_law_most" : Str), some (AV.int most)), (("_law_hand" : Str), some (AV.int hand)), (("_law_signs_here" : Str), some (AV.list (S.map sg))), (("_law_few" : Str), some (AV.int few)), (("_law_found" : Str), some (AV.obj a)), (("_law_k" : Str), some (AV.int kk)), (("_law_size" : Str), some (AV.int n)), (("_law_path" : Str), none), (("_law_cell" : Str), none), (("_law_mixed" : Str), none)]) hfn₂ ?_ ?_ ?_))
      · walk_at "fn"
        refine paths_spec T (by omega) hh' (by omega) (by omega) h3 hn0 hn1 ?_
        exact ⟨_, iter_list hh' _, lpaths h n, L, kk, rfl, hdom, hk0, by rw [List.length_cons] at hk1; omega, hLk, rfl, rfl⟩
      · rintro c₃ hA₃ hsc₃ hfn₃ y rest ρ₁ σ₂ ⟨P, L, kk, hr, hdom, hk0, hk1, hLk, rfl, rfl⟩
        rw [hsc₂] at hsc₃
        rw [← hA₃] at hh' hu' hd'
        cases P with
        | nil => cases hr
        | cons p P =>
          rw [List.map_cons] at hr
          injection hr with e1 e2
          subst e1; subst e2
          rw [List.length_cons] at hk1
          walk_at "go"
          refine cmp_notin_tup (ints_plain p) (by rw [ints_deep]; exact Nat.zero_le _) rfl (by omega) ?_
          rw [ints_any]
          walk_at "go"
          · rename_i hph
            rw [filt_pos hph] at hdom
            have hpn : p ∉ L.map (·.1) := by
              have hnd := dom_nodup (h := h) (most := most) (hand := hand) (rngL_nodup 1 (most + 2))
              rw [← hdom, List.nodup_append] at hnd
              intro hm
              exact hnd.2.2 p hm p (by simp) rfl
            walk_at "len"
            refine cal_len_list .list (by rw [List.length_map]; omega) ?_
            rw [List.length_map]
            refine op_fmod (by omega) ?_
            have hi0 := fm_lo (kk + 1) (n := (ns.length : Int)) (by omega)
            have hi1 := fm_hi (kk + 1) (n := (ns.length : Int)) (by omega)
            have hlt : ((kk + 1).fmod (ns.length : Int)).toNat < ns.length := by omega
            refine sub_list (y := .int ns[((kk + 1).fmod (ns.length : Int)).toNat]) .list hi0 (by omega) (by simp [hlt]) ?_
            walk_at "go"
            walk_at "len"
            refine cal_len_list .list (by rw [List.length_map]; omega) ?_
            rw [List.length_map]
            walk_at "go"
            generalize hX : (ns[((kk + 1).fmod (ns.length : Int)).toNat] + 7919 * (kk + 1) + (ns.length : Int) * (kk + 1) * (kk + 1)) = X
            have hx0 := fm_lo X (n := 2147483647) (by decide)
            have hx1 := fm_hi X (n := 2147483647) (by decide)
            refine op_mul ?_ (.inl ⟨by omega, by omega⟩)
            walk_at "gos"
            generalize hM0 : (((((X.fmod 2147483647) * (X.fmod 2147483647)).fmod 2147483629) * 48271).fmod 2147483647).fdiv 7 = M0
            refine es_join (fun ρ' σ' => ∃ M : Int, σ' = σ.set a (.dct (L.map ent)) ∧ ρ' = [(("_law_script" : Str), some (AV.list (ns.map .int))), (("_law_hands" : Str), some (AV.int h)), (("_law_most" : Str), some (AV.int most)), (("_law_hand" : Str), some (AV.int hand)), (("_law_signs_here" : Str), some (AV.list (S.map sg))), (("_law_few" : Str), some (AV.int few)), (("_law_found" : Str), some (AV.obj a)), (("_law_k" : Str), some (AV.int (kk + 1))), (("_law_size" : Str), some (AV.int n)), (("_law_path" : Str), some (pth p)), (("_law_cell" : Str), none), (("_law_mixed" : Str), some (AV.int M))]) ?_ ?_
            · walk_at "go"
              walk_at "cell"
              · walk_at "max"
                refine cal_max hh' ?_
                walk_at "go"
                exact jn_next (by walk_at "ctor") ⟨_, rfl, rfl⟩
              · exact jn_next (by walk_at "ctor") ⟨_, rfl, rfl⟩
            · rintro ρ' σ' ⟨M, rfl, rfl⟩
              walk_at "go"
              refine op_fmod (by omega) ?_
              have hm0 := fm_lo M (n := few) (by omega)
              have hm1 := fm_hi M (n := few) (by omega)
              have hmt : (M.fmod few).toNat < S.length := by omega
              refine sub_list (y := sg S[(M.fmod few).toNat]) .list hm0 (by omega) (by simp [hmt]) ?_
              walk_at "go"
              refine set_dict Sto.set_self (ent_tkeys L) (pth_tkey p) (by rw [List.length_map, sizeLine_eq]; omega) (by omega) ?_
              rw [dset_ent hpn, Sto.set_set]
              walk_at "go"
              refine trn_next (by walk_at "ctor") ⟨P, L ++ [(p, S[(M.fmod few).toNat])], kk + 1, rfl, ?_, by omega, by omega, by simp; omega, rfl, rfl⟩
              rw [← hdom]; simp
          · rename_i hph
            rw [filt_neg hph] at hdom
            exact trn_next (by walk_at "ctor") ⟨P, L, kk + 1, rfl, hdom, by omega, by omega, by omega, rfl, rfl⟩
      · rintro ρ₁ σ₂ ⟨P, L, kk, hr, hdom, hk0, hk1, hLk, rfl, rfl⟩
        have hP0 : P = [] := by cases P with | nil => rfl | cons _ _ => cases hr
        subst hP0
        exact trn_next (by walk_at "ctor") ⟨r, L, kk, rfl, fun n hn => hrn n (List.mem_cons_of_mem _ hn), hdom, hk0, by simp at hk1; omega, hLk, rfl, rfl⟩
  · rintro ρ₁ σ₂ ⟨r, L, kk, hr, hrn, hdom, hk0, hk1, hLk, rfl, rfl⟩
    have hr0 : r = [] := by cases r with | nil => rfl | cons _ _ => cases hr
    subst hr0
    refine thn_next (es_one (es_ret_freeze ?_))
    walk_at "go"
    refine ⟨a, _, _, rfl, Sto.set_self, .dct _, ?_⟩
    rw [Sto.set_del ha]
    exact q L (by simpa [dom] using hdom) (by simp at hk1; omega)

theorem cut_map {α β : Type} (f : α → β) (l : List α) (a b : Option Int) : cut (l.map f) a b = (cut l a b).map f := by
  unfold cut; simp
theorem cut_mem {α : Type} {l : List α} {a b : Option Int} {x : α} (h : x ∈ cut l a b) : x ∈ l := by
  unfold cut at h
  exact List.mem_of_mem_drop (List.mem_of_mem_take h)
theorem cut_len {α : Type} (l : List α) (a b : Option Int) : (cut l a b).length ≤ l.length := by
  unfold cut
  rw [List.length_take, List.length_drop]
  omega
theorem ents_plain (L : List (List Int × Option Str)) : ∀ p ∈ L.map ent, plain p.2 = true ∧ deep p.2 ≤ 4 := by
  intro p hp
  obtain ⟨e, _, rfl⟩ := List.mem_map.mp hp
  refine ⟨sg_plain _, ?_⟩
  show deep (sg e.2) ≤ 4
  cases e.2 <;> exact Nat.zero_le _

theorem law_spec {Q : AV → Sto → Prop} (T : TopG g (K03 g)) (hS : ∃ f o, sysModules ≤ f ∧ g.H₀.get? f = some o) (hd : c.A.depth + 20 < recursionLimit) (hh : c.A.handled = none) (hu : c.A.units + 200 < cLine) {ns : List Int} (hz : ns.length ≤ 63) (q : Q (.bool true) σ) :
    cal c (.ref 92) [.list (ns.map .int)] σ Q := by
  refine cal_fn (ps := ["_law_script"]) (rest := ["_law_hands", "_law_most", "_law_hand", "_law_told", "_law_kept", "_law_listed", "_law_turn", "_law_path", "_law_due"]) (fnAt_of T.X T.nl (by rfl) (fun | [_], _ => by rfl)) (by rfl) (by omega) rfl fun c' hsc hfn hA => ?_
  have hh' : c'.A.handled = none := by rw [hA]; exact hh
  have hd' : c'.A.depth + 15 < recursionLimit := by rw [hA]; show c.A.depth + 1 + 15 < _; omega
  have hu' : c'.A.units + 150 < cLine := by rw [hA]; show c.A.units + 3 + 150 < cLine; omega
  show es c' [(("_law_script" : Str), some (AV.list (ns.map .int))), (("_law_hands" : Str), none), (("_law_most" : Str), none), (("_law_hand" : Str), none), (("_law_told" : Str), none), (("_law_kept" : Str), none), (("_law_listed" : Str), none), (("_law_turn" : Str), none), (("_law_path" : Str), none), (("_law_due" : Str), none)] (execs (_ :: _) c'.env) σ _
  walk_at "go"
  walk_at "len"
  refine cal_len_list .list (by rw [List.length_map]; omega) ?_
  rw [List.length_map]
  walk_at "go"
  · exact q
  rename_i hlen0
  have hz0 : 0 < ns.length := by simp at hlen0; cases ns with | nil => exact absurd rfl hlen0 | cons _ _ => simp
  refine es_unpack hh' ?_ hfn
  walk_at "fn"
  walk_at "cell"
  refine table_spec T (by omega) fun H M hH2 hH10 hM0 hM2 hHM => ?_
  refine ⟨_, _, _, _, rfl, by walk_at "ctor", by walk_at "ctor", ?_⟩
  walk_at "go"
  walk_at "cell"
  refine op_fmod (by omega) ?_
  generalize ns.getD (Int.toNat 3) 0 = c3
  have hx0 := fm_lo c3 (n := H - 1) (by omega)
  have hx1 := fm_hi c3 (n := H - 1) (by omega)
  walk_at "go"
  generalize hhand : 1 + c3.fmod (H - 1) = hand
  walk_at "fn"
  refine drawn_spec T hS (by omega) hh' (by omega) hz hz0 hH2 hH10 hM0 hM2 fun L hL hLl => ?_
  walk_at "go"
  have hd0 : [0] ∈ dom H M hand (rngL 1 (M + 2)) := dom_zero hH2 hM0 (by omega)
  have hnd := dom_hashes (h := H) (most := M) (hand := hand) g.w hH2 hH10 hM2
  walk_at "dict"
  refine cal_dictD hS .dict (ent_tkeys L) (by rw [List.length_map, sizeLine_eq]; omega) ?_ (.inl ?_)
  · have e : (L.map ent).map (fun p => hK g.w p.1) = (L.map (·.1)).map fun p => hK g.w (pth p) := by rw [List.map_map, List.map_map]; rfl
    rw [e, hL]; exact hnd
  walk_at "go"
  walk_at "list"
  refine cal_listD hh' .dict (by rw [List.length_map, sizeLine_eq]; omega) (.inl ?_)
  rw [ent_keys, hL]
  generalize hDm : dom H M hand (rngL 1 (M + 2)) = D0 at hL hd0
  have hDl : D0.length ≤ 300 := by rw [← hL, List.length_map]; exact hLl
  have hDp := List.length_pos_of_mem hd0
  walk_at "go"
  walk_at "cell"
  walk_at "len"
  refine cal_len_list .list (by rw [List.length_map]; omega) ?_
  rw [List.length_map]
  refine op_fmod (by omega) ?_
  generalize (ns.getD (Int.toNat 4) 0).fmod (D0.length : Int) = tn
  walk_at "go"
  refine ⟨_, .list, by rw [List.length_map, sizeLine_eq]; omega, .inl ?_⟩
  walk_at "go"
  refine ⟨_, .list, by rw [List.length_map, sizeLine_eq]; omega, .inl ?_⟩
  rw [cut_map, cut_map]
  have hl1 := cut_len D0 (some tn) none
  have hl2 := cut_len D0 none (some tn)
  refine op_addl .list .list (by rw [List.length_map, List.length_map, sizeLine_eq]; omega) (.inl ?_)
  rw [← List.map_append]
  walk_at "gos"
  refine es_join (fun ρ' σ' => ∃ P : List (List Int), (∀ p ∈ P, p ∈ D0) ∧ σ' = σ ∧ ρ' = [(("_law_script" : Str), some (AV.list (ns.map .int))), (("_law_hands" : Str), some (AV.int H)), (("_law_most" : Str), some (AV.int M)), (("_law_hand" : Str), some (AV.int hand)), (("_law_told" : Str), some (AV.dict (L.map ent))), (("_law_kept" : Str), some (AV.dict (L.map ent))), (("_law_listed" : Str), some (AV.list (P.map pth))), (("_law_turn" : Str), none), (("_law_path" : Str), none), (("_law_due" : Str), none)]) ?_ ?_
  · have hmem : ∀ p ∈ cut D0 (some tn) none ++ cut D0 none (some tn), p ∈ D0 := fun p hp => (List.mem_append.mp hp).elim cut_mem cut_mem
    walk_at "go"
    · refine ⟨_, .list, by rw [List.length_map, List.length_append, sizeLine_eq]; omega, .inl ?_⟩
      rw [cut_map]
      refine ev_list (evl_cons (ev_tuple ?_))
      walk_at "go"
      refine ⟨by decide, ?_⟩
      walk_at "go"
      refine ⟨by decide, .inl ?_⟩
      have hl3 := cut_len (cut D0 (some tn) none ++ cut D0 none (some tn)) none (some 12)
      rw [List.length_append] at hl3
      refine op_addl .list .list (by rw [List.length_map, sizeLine_eq]; simp; omega) (.inl ?_)
      rw [show [AV.tup [AV.int 0]] = ([[0]] : List (List Int)).map pth from rfl, ← List.map_append]
      walk_at "go"
      refine jn_next (by walk_at "ctor") ⟨_, fun p hp => ?_, rfl, rfl⟩
      rcases List.mem_append.mp hp with hp | hp
      · exact hmem p (cut_mem hp)
      · rw [List.mem_singleton.mp hp]; exact hd0
    · exact jn_next (by walk_at "ctor") ⟨_, hmem, rfl, rfl⟩
  · rintro ρ' σ' ⟨P, hP, rfl, rfl⟩
    have tD : ∀ p, p ∈ D0 → dget (L.map ent) (pth p) = some (sg ((L.lookup p).getD none)) := fun p hp => by
      obtain ⟨s, hs⟩ := lookup_some (L := L) (p := p) (by rw [hL]; exact hp)
      rw [dget_ent, hs]; rfl
    have tN : ∀ p, p ∈ D0 → (p.length : Int) ≤ M → ∀ x ∈ hears H p, x ≠ hand → p ++ [x] ∈ D0 := fun p hp hl x hx hxh => by
      rw [← hDm] at hp ⊢
      exact dom_next hH2 (by omega) (by omega) hp hl hx hxh
    have tE : ∀ p, p ∈ D0 → p ≠ [] := fun p hp => dom_ne hH2 (hDm ▸ hp)
    have tL : ∀ p, p ∈ D0 → (p.length : Int) ≤ M + 1 := fun p hp => dom_len hH2 (hDm ▸ hp)
    refine es_seq (es_loop (fun l ρ' σ'' => ∃ r : List (List Int), l = r.map pth ∧ (∀ p ∈ r, p ∈ D0) ∧ σ'' = σ' ∧ ρ' = [(("_law_script" : Str), some (AV.list (ns.map .int))), (("_law_hands" : Str), some (AV.int H)), (("_law_most" : Str), some (AV.int M)), (("_law_hand" : Str), some (AV.int hand)), (("_law_told" : Str), some (AV.dict (L.map ent))), (("_law_kept" : Str), some (AV.dict (L.map ent))), (("_law_listed" : Str), some (AV.list (P.map pth))), (("_law_turn" : Str), none), (("_law_path" : Str), none), (("_law_due" : Str), none)]) hfn ?_ ?_ ?_)
    · walk_at "go"
      exact ⟨_, iter_list hh' _, P, rfl, hP, rfl, rfl⟩
    · rintro c₂ hA₂ hsc₂ hfn₂ y rest ρ₁ σ₂ ⟨r, hr, hrm, rfl, rfl⟩
      rw [hsc] at hsc₂
      rw [← hA₂] at hh' hu' hd'
      cases r with
      | nil => cases hr
      | cons p r =>
        rw [List.map_cons] at hr
        injection hr with e1 e2
        subst e1; subst e2
        have hp := hrm p List.mem_cons_self
        have hpl := tL p hp
        have hp0 : 0 < p.length := by cases p with | nil => exact absurd rfl (tE _ hp) | cons _ _ => simp
        walk_at "go"
        walk_at "fn"
        refine lsettled_spec T (by omega) hH10 hM2 (ent_tkeys L) (fun p => (L.lookup p).getD none) (· ∈ D0) tD tN tE (M + 1 - p.length).toNat (by omega) hh' (by omega) (by omega) hp .dict ?_
        walk_at "go"
        refine evb_value ?_
        walk_at "fn"
        walk_at "fn"
        refine settled_spec T (by omega) hH10 hM2 (ent_tkeys L) (fun p => (L.lookup p).getD none) (· ∈ D0) tD tN tE (M + 1 - p.length).toNat (by omega) hh' (by omega) (by omega) hp .dict ?_
        walk_at "go"
        refine same_spec T (by omega) ?_
        walk_at "go"
        walk_at "len"
        refine cal_lenD .dict (by rw [List.length_map]; omega) ?_
        walk_at "go"
        walk_at "len"
        refine cal_lenD .dict (by rw [List.length_map]; omega) ?_
        walk_at "go"
        · rename_i hbad
          simp at hbad
        · exact trn_next (by walk_at "ctor") ⟨r, rfl, fun p hp => hrm p (List.mem_cons_of_mem _ hp), rfl, rfl⟩
    · rintro ρ₁ σ₂ ⟨r, hr, hrm, rfl, rfl⟩
      walk_at "go"
      refine cmp_eqd .dict .dict (ent_tkeys L) (ents_plain L) (by omega) ?_
      walk_at "go"
      exact q

end Mine
end

section
open PySem PySem.W PyProof.Rows
theorem PySem.Challenge.cw_uf060015_03_holds : PySem.Challenge.rw_uf060015_03.Holds := by
  refine hd03 ?_
  k_fill
  intro w s₀ s₁ mg mb G Y fa o pm cd doc dV kV ho hd hcd hD hmg hg args vals as hpre hlay hrd hwl hlo
  have KX := kIn_of Y
  refine Ground.open G ?_
  intro T B D TE TW
  have hfa : fa = 92 := by
    have e := mg_of (n := "law") (v := .ref 92) KX T.g (by rfl)
    have e2 : mg "law" = some (.ref fa) := hmg
    rw [e2] at e
    injection e with e; injection e
  clear ho hd hcd hD hmg
  subst hfa
  wrow_args hpre hlay hrd hwl hlo
  rename_i ns _ _ _ _ _ _ _ _ _ _ _ _ w1 _ _ _ hc _
  refine Mine.law_end w1 hg (raisesW_false (by wrow_none_raised)) (by wrow_post) fun c hA => ?_
  exact Mine.law_spec (Mine.topG_of T KX) ⟨92, _, by decide, KX 92 _ rfl⟩ (by rw [hA]; decide) (by rw [hA]; rfl) (by rw [hA]; decide) (by omega) rfl

end

