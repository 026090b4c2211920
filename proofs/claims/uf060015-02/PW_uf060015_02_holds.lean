import PyProof.Rows.All
import Wide.All
import OpenK.AllK
import Wide.FinOn
import Lean
import PySem.Challenge.RW_uf060015_02

set_option Elab.async false
set_option maxRecDepth 100000
set_option maxHeartbeats 8000000
set_option linter.unusedVariables false

section
namespace Mine
open PySem

/-! plain data -/
inductive AV where
  | none
  | bool (b : Bool)
  | int (i : Int)
  | str (x : Str)
  | tup (l : List AV)
  | list (l : List AV)
  | dict (l : List (AV × AV))
  | rng (lo hi : Int)
  | obj (a : Addr)
  | raw (v : Value)

abbrev Fz := Addr → Option Obj
def Fz.le (F G : Fz) : Prop := ∀ a o, F a = some o → G a = some o
theorem Fz.le.refl (F : Fz) : F.le F := fun _ _ h => h
theorem Fz.le.trans {F G H : Fz} (x : F.le G) (y : G.le H) : F.le H := fun a o h => y a o (x a o h)

abbrev lstO (vs : List Value) (n : Nat) : Obj := { cls := .type "list", data := .seq vs.toArray n }
abbrev tupO (vs : List Value) (n : Nat) : Obj := { cls := .type "tuple", data := .seq vs.toArray n }
abbrev dctO (es : List DictEntry) (n : Nat) : Obj := { cls := .type "dict", data := .dict es.toArray n }

mutual
def hK (w : World) : AV → Int
  | .int i => hashInt i
  | .str x => hashStr w x
  | .tup l => reduceHash (Builtin.Tuple.tupleHashOf (hKs w l))
  | _ => 0
def hKs (w : World) : List AV → List Int
  | [] => []
  | x :: r => hK w x :: hKs w r
end
mutual
def isKey : AV → Bool
  | .int _ => true
  | .str _ => true
  | .tup l => areKeys l
  | _ => false
def areKeys : List AV → Bool
  | [] => true
  | x :: r => isKey x && areKeys r
end

mutual
inductive Rep (w : World) (F : Fz) : Value → AV → Prop
  | none : Rep w F .none .none
  | bool (b : Bool) : Rep w F (.bool b) (.bool b)
  | int (i : Int) (t : Tok) : Rep w F (.int i t) (.int i)
  | str (x : Str) (t : Tok) : Rep w F (.str x t) (.str x)
  | tup {a : Addr} {vs : List Value} {n : Nat} {l : List AV} : F a = some (tupO vs n) → RepL w F vs l → Rep w F (.ref a) (.tup l)
  | list {a : Addr} {vs : List Value} {n : Nat} {l : List AV} : F a = some (lstO vs n) → RepL w F vs l → Rep w F (.ref a) (.list l)
  | dict {a : Addr} {es : List DictEntry} {n : Nat} {l : List (AV × AV)} : F a = some (dctO es n) → RepE w F es l → (l.map (·.1)).Nodup → Rep w F (.ref a) (.dict l)
  | rng {a : Addr} {lo hi : Int} {t u v : Tok} : F a = some { cls := .type "range", data := .fields #[.int lo t, .int hi u, .int 1 v] } → Rep w F (.ref a) (.rng lo hi)
  | obj (a : Addr) : Rep w F (.ref a) (.obj a)
  | raw (v : Value) : Rep w F v (.raw v)
inductive RepL (w : World) (F : Fz) : List Value → List AV → Prop
  | nil : RepL w F [] []
  | cons {v : Value} {vs : List Value} {x : AV} {l : List AV} : Rep w F v x → RepL w F vs l → RepL w F (v :: vs) (x :: l)
inductive RepE (w : World) (F : Fz) : List DictEntry → List (AV × AV) → Prop
  | nil : RepE w F [] []
  | cons {k v : Value} {es : List DictEntry} {x y : AV} {l : List (AV × AV)} : isKey x = true → Rep w F k x → Rep w F v y → RepE w F es l → RepE w F (⟨hK w x, k, v⟩ :: es) ((x, y) :: l)
end

section
variable {w : World} {F G : Fz}
mutual
theorem Rep.mono (hl : F.le G) : ∀ {v : Value} {x : AV}, Rep w F v x → Rep w G v x
  | _, _, .none => .none
  | _, _, .bool b => .bool b
  | _, _, .int i t => .int i t
  | _, _, .str x t => .str x t
  | _, _, .tup h r => .tup (hl _ _ h) (RepL.mono hl r)
  | _, _, .list h r => .list (hl _ _ h) (RepL.mono hl r)
  | _, _, .dict h r n => .dict (hl _ _ h) (RepE.mono hl r) n
  | _, _, .rng h => .rng (hl _ _ h)
  | _, _, .obj a => .obj a
  | _, _, .raw v => .raw v
theorem RepL.mono (hl : F.le G) : ∀ {vs : List Value} {l : List AV}, RepL w F vs l → RepL w G vs l
  | _, _, .nil => .nil
  | _, _, .cons h r => .cons (Rep.mono hl h) (RepL.mono hl r)
theorem RepE.mono (hl : F.le G) : ∀ {es : List DictEntry} {l : List (AV × AV)}, RepE w F es l → RepE w G es l
  | _, _, .nil => .nil
  | _, _, .cons k h h' r => .cons k (Rep.mono hl h) (Rep.mono hl h') (RepE.mono hl r)
end
theorem RepL.length {vs : List Value} {l : List AV} (h : RepL w F vs l) : vs.length = l.length := by
  induction vs generalizing l with
  | nil => cases h; rfl
  | cons v vs ih => cases h with | cons _ r => rw [List.length_cons, List.length_cons, ih r]
theorem RepL.append {vs ws : List Value} {l m : List AV} (h : RepL w F vs l) (k : RepL w F ws m) : RepL w F (vs ++ ws) (l ++ m) := by
  induction vs generalizing l with
  | nil => cases h; exact k
  | cons v vs ih => cases h with | cons h r => exact .cons h (ih r)
theorem RepL.get {vs : List Value} {l : List AV} (h : RepL w F vs l) {i : Nat} {x : AV} (hx : l[i]? = some x) : ∃ v, vs[i]? = some v ∧ Rep w F v x := by
  induction vs generalizing l i with
  | nil => cases h; simp at hx
  | cons v vs ih =>
    cases h with
    | cons h r =>
      cases i with
      | zero => simp at hx; subst hx; exact ⟨v, rfl, h⟩
      | succ i => exact ih r (by simpa using hx)
theorem RepL.get' {vs : List Value} {l : List AV} (h : RepL w F vs l) {i : Nat} {v : Value} (hv : vs[i]? = some v) : ∃ x, l[i]? = some x ∧ Rep w F v x := by
  induction vs generalizing l i with
  | nil => simp at hv
  | cons u vs ih =>
    cases h with
    | cons h r =>
      cases i with
      | zero => simp at hv; subst hv; exact ⟨_, rfl, h⟩
      | succ i => exact ih r (by simpa using hv)
theorem RepL.set {vs : List Value} {l : List AV} (h : RepL w F vs l) {i : Nat} {v : Value} {x : AV} (hv : Rep w F v x) : RepL w F (vs.set i v) (l.set i x) := by
  induction vs generalizing l i with
  | nil => cases h; exact .nil
  | cons u vs ih =>
    cases h with
    | cons h r =>
      cases i with
      | zero => exact .cons hv r
      | succ i => exact .cons h (ih r)
theorem RepL.take {vs : List Value} {l : List AV} (h : RepL w F vs l) (n : Nat) : RepL w F (vs.take n) (l.take n) := by
  induction vs generalizing l n with
  | nil => cases h; simp; exact .nil
  | cons u vs ih =>
    cases h with
    | cons h r =>
      cases n with
      | zero => exact .nil
      | succ n => exact .cons h (ih r n)
theorem RepL.drop {vs : List Value} {l : List AV} (h : RepL w F vs l) (n : Nat) : RepL w F (vs.drop n) (l.drop n) := by
  induction vs generalizing l n with
  | nil => cases h; simp; exact .nil
  | cons u vs ih =>
    cases h with
    | cons h r =>
      cases n with
      | zero => exact .cons h r
      | succ n => exact ih r n
theorem RepE.length {es : List DictEntry} {l : List (AV × AV)} (h : RepE w F es l) : es.length = l.length := by
  induction es generalizing l with
  | nil => cases h; rfl
  | cons v vs ih => cases h with | cons _ _ _ r => rw [List.length_cons, List.length_cons, ih r]
end

/-! the store: what is still changed -/
inductive AObj where
  | lst (l : List AV)
  | dct (l : List (AV × AV))
abbrev Sto := Addr → Option AObj
def Sto.set (σ : Sto) (a : Addr) (x : AObj) : Sto := fun b => if b = a then some x else σ b
def Sto.del (σ : Sto) (a : Addr) : Sto := fun b => if b = a then Option.none else σ b
def fz (h : Heap) (own : List Addr) (σ : Sto) : Fz := fun a => if (σ a).isSome || own.contains a then Option.none else h.get? a

theorem fz_eq {h : Heap} {own : List Addr} {σ : Sto} {a : Addr} {o : Obj} : fz h own σ a = some o ↔ σ a = Option.none ∧ a ∉ own ∧ h.get? a = some o := by
  unfold fz
  by_cases h1 : (σ a).isSome = true
  · rw [h1]; simp; intro e; rw [e] at h1; cases h1
  · by_cases h2 : a ∈ own
    · simp [h2]
    · have e : σ a = Option.none := by cases hq : σ a with | none => rfl | some x => rw [hq] at h1; simp at h1
      simp [h2, e]

def ObjRep (w : World) (F : Fz) (h : Heap) (a : Addr) : AObj → Prop
  | .lst l => ∃ vs n, h.get? a = some (lstO vs n) ∧ RepL w F vs l
  | .dct l => ∃ es n, h.get? a = some (dctO es n) ∧ RepE w F es l ∧ (l.map (·.1)).Nodup
theorem ObjRep.live {w : World} {F : Fz} {h : Heap} {a : Addr} {x : AObj} (r : ObjRep w F h a x) : ∃ o, h.get? a = some o := by
  cases x with
  | lst l => obtain ⟨_, _, e, _⟩ := r; exact ⟨_, e⟩
  | dct l => obtain ⟨_, _, e, _⟩ := r; exact ⟨_, e⟩
theorem ObjRep.mono {w : World} {F G : Fz} {h h' : Heap} {a : Addr} {x : AObj} (r : ObjRep w F h a x) (hl : F.le G) (he : ∀ o, h.get? a = some o → h'.get? a = some o) : ObjRep w G h' a x := by
  cases x with
  | lst l => obtain ⟨vs, n, e, k⟩ := r; exact ⟨vs, n, he _ e, k.mono hl⟩
  | dct l => obtain ⟨vs, n, e, k, m⟩ := r; exact ⟨vs, n, he _ e, k.mono hl, m⟩

structure Inv (w : World) (H₀ : Heap) (own : List Addr) (σ : Sto) (s : Shared) : Prop where
  keep : ∀ b o, H₀.get? b = some o → fz s.heap own σ b = some o
  objs : ∀ a x, σ a = some x → ObjRep w (fz s.heap own σ) s.heap a x
  off : ∀ a ∈ own, σ a = Option.none
  live : ∀ a ∈ own, ∃ o, s.heap.get? a = some o

structure Ev (own : List Addr) (σ : Sto) (s : Shared) (σ' : Sto) (s' : Shared) : Prop where
  same : ∃ h' tk, s' = { s with heap := h', toks := tk }
  grow : (fz s.heap own σ).le (fz s'.heap own σ')
  own : ∀ a ∈ own, ∀ o, s.heap.get? a = some o → s'.heap.get? a = some o

theorem Ev.refl (own : List Addr) (σ : Sto) (s : Shared) : Ev own σ s σ s := ⟨⟨s.heap, s.toks, rfl⟩, .refl _, fun _ _ _ h => h⟩
theorem Ev.trans {own : List Addr} {σ σ' σ'' : Sto} {s s' s'' : Shared} (x : Ev own σ s σ' s') (y : Ev own σ' s' σ'' s'') : Ev own σ s σ'' s'' := by
  refine ⟨?_, x.grow.trans y.grow, fun a ha o h => y.own a ha o (x.own a ha o h)⟩
  obtain ⟨h1, t1, rfl⟩ := x.same
  obtain ⟨h2, t2, rfl⟩ := y.same
  exact ⟨h2, t2, rfl⟩

theorem Inv.toks {w : World} {H₀ : Heap} {own : List Addr} {σ : Sto} {s : Shared} (x : Inv w H₀ own σ s) (t : Nat) : Inv w H₀ own σ { s with toks := t } := ⟨x.keep, x.objs, x.off, x.live⟩
theorem Ev.toks (own : List Addr) (σ : Sto) (s : Shared) (t : Nat) : Ev own σ s σ { s with toks := t } := ⟨⟨s.heap, t, rfl⟩, .refl _, fun _ _ _ h => h⟩

/-- all that stands is kept: the store as it was -/
theorem keep_fz {h h' : Heap} {own : List Addr} {σ : Sto} (hk : ∀ b o, h.get? b = some o → h'.get? b = some o) : (fz h own σ).le (fz h' own σ) := fun a o e => by
  obtain ⟨e1, e2, e3⟩ := fz_eq.mp e
  exact fz_eq.mpr ⟨e1, e2, hk a o e3⟩
theorem Inv.keeps {w : World} {H₀ : Heap} {own : List Addr} {σ : Sto} {s : Shared} (x : Inv w H₀ own σ s) {h' : Heap} {t : Nat} (hk : ∀ b o, s.heap.get? b = some o → h'.get? b = some o) : Inv w H₀ own σ { s with heap := h', toks := t } :=
  ⟨fun b o e => keep_fz hk b o (x.keep b o e), fun a y e => (x.objs a y e).mono (keep_fz hk) (fun o e => hk a o e), x.off, fun a ha => let ⟨o, e⟩ := x.live a ha; ⟨o, hk a o e⟩⟩
theorem Ev.keeps {own : List Addr} {σ : Sto} {s : Shared} {h' : Heap} {t : Nat} (hk : ∀ b o, s.heap.get? b = some o → h'.get? b = some o) : Ev own σ s σ { s with heap := h', toks := t } :=
  ⟨⟨h', t, rfl⟩, keep_fz hk, fun a _ o e => hk a o e⟩

/-- a new object, frozen at once -/
theorem push_keeps (h : Heap) (o : Obj) : ∀ b ob, h.get? b = some ob → (h.push o).get? b = some ob := fun _ _ e => Heap.get?_push_of_some _ e
theorem fz_new {h : Heap} {own : List Addr} {σ : Sto} {o : Obj} (hs : σ h.objs.size = Option.none) (ho : h.objs.size ∉ own) (hf : o.isFreed = false := by rfl) : fz (h.push o) own σ h.objs.size = some o :=
  fz_eq.mpr ⟨hs, ho, Heap.get?_push_size _ hf⟩
theorem Inv.fresh {w : World} {H₀ : Heap} {own : List Addr} {σ : Sto} {s : Shared} (x : Inv w H₀ own σ s) {a : Addr} (ha : s.heap.objs.size ≤ a) : σ a = Option.none ∧ a ∉ own := by
  refine ⟨?_, fun hm => ?_⟩
  · cases e : σ a with
    | none => rfl
    | some y => obtain ⟨o, ho⟩ := (x.objs a y e).live; exact absurd (Heap.lt_size ho) (Nat.not_lt.mpr ha)
  · obtain ⟨o, ho⟩ := x.live a hm; exact absurd (Heap.lt_size ho) (Nat.not_lt.mpr ha)

end Mine

end

section
namespace Mine
open PySem

abbrev Rho := List (Str × Option AV)

structure Gx where
  prog : Program
  w : World
  H₀ : Heap
abbrev Gx.M (g : Gx) : Model := model g.prog g.w
structure Cx (g : Gx) where
  A : Around
  env : Env
  own : List Addr
  hid : List Addr
  E : Value → Shared → Prop
  sc : Scope
  isFn : Bool

section
variable {g : Gx}
abbrev Cx.F (c : Cx g) (σ : Sto) (s : Shared) : Fz := fz s.heap c.own σ
abbrev Cx.Inv (c : Cx g) (σ : Sto) (s : Shared) : Prop := Mine.Inv g.w g.H₀ c.own σ s
abbrev Cx.Ev (c : Cx g) (σ : Sto) (s : Shared) (σ' : Sto) (s' : Shared) : Prop := Mine.Ev c.own σ s σ' s'
end

variable {g : Gx}
structure Frame (c : Cx g) (ns : List Str) : Prop where
  sc : c.env.scope = c.sc
  wr : c.isFn = true → ∀ x a, c.env.cells.lookup x = some a → a ∉ c.hid
  kind : c.env.scope.kind = .function
  glob : c.env.globals = mainGlobals
  blt : c.env.builtins = builtinsNs
  loc : c.env.locals ∈ c.own
  loc' : c.env.locals ∉ c.hid
  sub : ∀ a ∈ c.hid, a ∈ c.own
  cells : ∀ x a, c.env.cells.lookup x = some a → a ∈ c.own ∧ a ≠ c.env.locals
  apart : c.isFn = true → c.env.cells.Pairwise fun x y => x.2 ≠ y.2
  kinds : ∀ x ∈ ns, (x == ("__debug__" : Str)) = false ∧ (c.sc.names.lookup x = some .local ∨ (c.sc.names.lookup x = some .cell ∧ ∃ a, c.env.cells.lookup x = some a))
  nodup : ns.Nodup

structure St (c : Cx g) (ρ : Rho) (σ : Sto) (s : Shared) : Prop where
  inv : c.Inv σ s
  fr : Frame c (ρ.map (·.1))
  ns : ∃ m, s.heap.Ns c.env.locals m ∧ ∀ x v, (x, some v) ∈ ρ → c.sc.names.lookup x = some .local → ∃ u, m x = some u ∧ Rep g.w (c.F σ s) u v
  cl : ∀ x a, c.sc.names.lookup x = some .cell → c.env.cells.lookup x = some a → ∃ vo, s.heap.IsCell a vo ∧ ∀ v, (x, some v) ∈ ρ → ∃ u, vo = some u ∧ Rep g.w (c.F σ s) u v

theorem Frame.kindOf {c : Cx g} {ns : List Str} (f : Frame c ns) (x : Str) : c.env.kindOf x = c.sc.names.lookup x := by unfold Env.kindOf; rw [f.sc]

theorem St.ev {c : Cx g} {ρ : Rho} {σ σ' : Sto} {s s' : Shared} (x : St c ρ σ s) (i : c.Inv σ' s') (e : c.Ev σ s σ' s') : St c ρ σ' s' := by
  refine ⟨i, x.fr, ?_, ?_⟩
  · obtain ⟨m, hn, hm⟩ := x.ns
    refine ⟨m, hn.at' fun o ho => e.own _ x.fr.loc o ho, fun y v hy hk => ?_⟩
    obtain ⟨u, h1, h2⟩ := hm y v hy hk
    exact ⟨u, h1, h2.mono e.grow⟩
  · intro y a hk hl
    obtain ⟨vo, ⟨o, ho, hd⟩, hv⟩ := x.cl y a hk hl
    refine ⟨vo, ⟨o, e.own _ (x.fr.cells y a hl).1 o ho, hd⟩, fun v hy => ?_⟩
    obtain ⟨u, h1, h2⟩ := hv v hy
    exact ⟨u, h1, h2.mono e.grow⟩

/-! a primitive step: no frame in sight -/
def pg {α β : Type} (c : Cx g) (R : Fz → α → β → Prop) (σ : Sto) (s : Shared) (t : Sem α) (Q : β → Sto → Prop) : Prop :=
  wpAny g.M c.A t (fun v s' => ∃ x σ', c.Inv σ' s' ∧ c.Ev σ s σ' s' ∧ R (c.F σ' s') v x ∧ Q x σ') c.E s
abbrev pv (c : Cx g) (σ : Sto) (s : Shared) (t : Sem Value) (Q : AV → Sto → Prop) : Prop := pg c (Rep g.w) σ s t Q
abbrev pb (c : Cx g) (σ : Sto) (s : Shared) (t : Sem Bool) (Q : Bool → Sto → Prop) : Prop := pg c (fun _ a b => a = b) σ s t Q
abbrev pu (c : Cx g) (σ : Sto) (s : Shared) (t : Sem Unit) (Q : Sto → Prop) : Prop := pg c (fun _ _ (_ : Unit) => True) σ s t (fun _ σ' => Q σ')

def op1 (c : Cx g) (f : Value → Sem Value) (x : AV) (σ : Sto) (Q : AV → Sto → Prop) : Prop := ∀ s a, c.Inv σ s → Rep g.w (c.F σ s) a x → pv c σ s (f a) Q
def op2 (c : Cx g) (f : Value → Value → Sem Value) (x y : AV) (σ : Sto) (Q : AV → Sto → Prop) : Prop := ∀ s a b, c.Inv σ s → Rep g.w (c.F σ s) a x → Rep g.w (c.F σ s) b y → pv c σ s (f a b) Q
def opb (c : Cx g) (f : Value → Sem Bool) (x : AV) (σ : Sto) (Q : Bool → Sto → Prop) : Prop := ∀ s a, c.Inv σ s → Rep g.w (c.F σ s) a x → pb c σ s (f a) Q
def op3u (c : Cx g) (f : Value → Value → Value → Sem Unit) (x y z : AV) (σ : Sto) (Q : Sto → Prop) : Prop :=
  ∀ s a b d, c.Inv σ s → Rep g.w (c.F σ s) a x → Rep g.w (c.F σ s) b y → Rep g.w (c.F σ s) d z → pu c σ s (f a b d) Q
/-- a call of the value f -/
def cal (c : Cx g) (f : Value) (xs : List AV) (σ : Sto) (Q : AV → Sto → Prop) : Prop := ∀ s vs, c.Inv σ s → RepL g.w (c.F σ s) vs xs → pv c σ s (call f vs []) Q

/-! expressions in a frame -/
def gv {α β : Type} (c : Cx g) (ρ : Rho) (R : Fz → α → β → Prop) (t : Sem α) (σ : Sto) (Q : β → Sto → Prop) : Prop := ∀ s, St c ρ σ s → pg c R σ s t Q
abbrev ev (c : Cx g) (ρ : Rho) (e : Expr) (σ : Sto) (Q : AV → Sto → Prop) : Prop := gv c ρ (Rep g.w) (eval e c.env) σ Q
abbrev evb (c : Cx g) (ρ : Rho) (e : Expr) (σ : Sto) (Q : Bool → Sto → Prop) : Prop := gv c ρ (fun _ a b => a = b) (isTrue e c.env (eval e c.env)) σ Q
def evl (c : Cx g) (ρ : Rho) : List Expr → Sto → (List AV → Sto → Prop) → Prop
  | [], σ, Q => Q [] σ
  | e :: r, σ, Q => ev c ρ e σ fun x σ₁ => evl c ρ r σ₁ fun l σ₂ => Q (x :: l) σ₂

/-! statements -/
inductive AFl where
  | next | brk | cont
  | ret (x : AV)
inductive RepF (w : World) (F : Fz) : Flow → AFl → Prop
  | next : RepF w F .next .next
  | brk : RepF w F .brk .brk
  | cont : RepF w F .cont .cont
  | ret {v : Value} {x : AV} : Rep w F v x → RepF w F (.ret v) (.ret x)
structure EvS (c : Cx g) (σ : Sto) (s : Shared) (σ' : Sto) (s' : Shared) : Prop where
  same : ∃ h' tk, s' = { s with heap := h', toks := tk }
  grow : (c.F σ s).le (c.F σ' s')
  hid : ∀ a ∈ c.hid, ∀ o, s.heap.get? a = some o → s'.heap.get? a = some o
theorem EvS.refl (c : Cx g) (σ : Sto) (s : Shared) : EvS c σ s σ s := ⟨⟨s.heap, s.toks, rfl⟩, .refl _, fun _ _ _ h => h⟩
theorem EvS.trans {c : Cx g} {σ σ' σ'' : Sto} {s s' s'' : Shared} (x : EvS c σ s σ' s') (y : EvS c σ' s' σ'' s'') : EvS c σ s σ'' s'' := by
  refine ⟨?_, x.grow.trans y.grow, fun a ha o h => y.hid a ha o (x.hid a ha o h)⟩
  obtain ⟨h1, t1, rfl⟩ := x.same
  obtain ⟨h2, t2, rfl⟩ := y.same
  exact ⟨h2, t2, rfl⟩
theorem Ev.toS {c : Cx g} {σ σ' : Sto} {s s' : Shared} (x : c.Ev σ s σ' s') (hs : ∀ a ∈ c.hid, a ∈ c.own) : EvS c σ s σ' s' := ⟨x.same, x.grow, fun a ha => x.own a (hs a ha)⟩

def es (c : Cx g) (ρ : Rho) (t : Sem Flow) (σ : Sto) (Q : AFl → Rho → Sto → Prop) : Prop :=
  ∀ s, St c ρ σ s → wpAny g.M c.A t (fun f s' => ∃ fl ρ' σ', St c ρ' σ' s' ∧ EvS c σ s σ' s' ∧ RepF g.w (c.F σ' s') f fl ∧ Q fl ρ' σ') c.E s

section
variable {c : Cx g} {ρ : Rho} {σ : Sto}

theorem pg.mono {α β : Type} {R : Fz → α → β → Prop} {s : Shared} {t : Sem α} {Q Q' : β → Sto → Prop} (h : pg c R σ s t Q) (hq : ∀ x σ', Q x σ' → Q' x σ') : pg c R σ s t Q' :=
  wpAny_mono h (fun _ _ ⟨x, σ', i, e, r, q⟩ => ⟨x, σ', i, e, r, hq x σ' q⟩) fun _ _ e => e
theorem gv.mono {α β : Type} {R : Fz → α → β → Prop} {t : Sem α} {Q Q' : β → Sto → Prop} (h : gv c ρ R t σ Q) (hq : ∀ x σ', Q x σ' → Q' x σ') : gv c ρ R t σ Q' := fun s hs => (h s hs).mono hq
theorem es.mono {t : Sem Flow} {Q Q' : AFl → Rho → Sto → Prop} (h : es c ρ t σ Q) (hq : ∀ x ρ' σ', Q x ρ' σ' → Q' x ρ' σ') : es c ρ t σ Q' :=
  fun s hs => wpAny_mono (h s hs) (fun _ _ ⟨x, ρ', σ', i, e, r, q⟩ => ⟨x, ρ', σ', i, e, r, hq x ρ' σ' q⟩) fun _ _ e => e
theorem pg.pure {α β : Type} {R : Fz → α → β → Prop} {s : Shared} {v : α} {x : β} {Q : β → Sto → Prop} (i : c.Inv σ s) (r : R (c.F σ s) v x) (q : Q x σ) : pg c R σ s (pure v) Q :=
  wpAny_pure ⟨x, σ, i, .refl .., r, q⟩
/-- two steps one behind the other -/
theorem pg.bind {α α' β β' : Type} {R : Fz → α → β → Prop} {R' : Fz → α' → β' → Prop} {s : Shared} {t : Sem α} {f : α → Sem α'} {Q : β' → Sto → Prop}
    (h : pg c R σ s t (fun x σ₁ => ∀ s₁ v, c.Inv σ₁ s₁ → c.Ev σ s σ₁ s₁ → R (c.F σ₁ s₁) v x → pg c R' σ₁ s₁ (f v) Q)) : pg c R' σ s (t >>= f) Q := by
  refine wpAny_bind (wpAny_mono h (fun v s₁ ⟨x, σ₁, i, e, r, q⟩ => ?_) fun _ _ e => e)
  exact wpAny_mono (q s₁ v i e r) (fun _ _ ⟨y, σ₂, i₂, e₂, r₂, q₂⟩ => ⟨y, σ₂, i₂, e.trans e₂, r₂, q₂⟩) fun _ _ e => e
/-- the state as wpAny's own lemmas leave it -/
theorem pg.of {α β : Type} {R : Fz → α → β → Prop} {s : Shared} {t : Sem α} {Q : β → Sto → Prop} {P : α → Shared → Prop} (h : wpAny g.M c.A t P c.E s)
    (hp : ∀ v s', P v s' → ∃ x σ', c.Inv σ' s' ∧ c.Ev σ s σ' s' ∧ R (c.F σ' s') v x ∧ Q x σ') : pg c R σ s t Q := wpAny_mono h hp fun _ _ e => e

/-! constants and names -/
theorem ev_none {k pos} {Q : AV → Sto → Prop} (q : Q .none σ) : ev c ρ (.Constant .none k pos) σ Q := fun s hs => wpAny_Constant_none ⟨_, σ, hs.inv, .refl .., .none, q⟩
theorem ev_bool {b k pos} {Q : AV → Sto → Prop} (q : Q (.bool b) σ) : ev c ρ (.Constant (.bool b) k pos) σ Q := fun s hs => wpAny_Constant_bool ⟨_, σ, hs.inv, .refl .., .bool b, q⟩
theorem ev_int {i k pos} {Q : AV → Sto → Prop} (q : Q (.int i) σ) : ev c ρ (.Constant (.int i) k pos) σ Q := fun s hs => wpAny_Constant_int ⟨_, σ, hs.inv.toks _, .toks .., .int i _, q⟩
theorem ev_str {x k pos} {Q : AV → Sto → Prop} (q : Q (.str x) σ) : ev c ρ (.Constant (.str x) k pos) σ Q := fun s hs => wpAny_Constant_str ⟨_, σ, hs.inv.toks _, .toks .., .str x _, q⟩

theorem ev_name {x pos v} {Q : AV → Sto → Prop} (hx : (x, some v) ∈ ρ) (q : Q v σ) : ev c ρ (.Name x pos) σ Q := fun s hs => by
  have hm : x ∈ ρ.map (·.1) := List.mem_map.mpr ⟨_, hx, rfl⟩
  obtain ⟨hd, hk⟩ := hs.fr.kinds x hm
  rcases hk with hk | ⟨hk, a, ha⟩
  · obtain ⟨m, hn, hm⟩ := hs.ns
    obtain ⟨u, h1, h2⟩ := hm x v hx hk
    exact wpAny_Name (wpAny_loadName_local hs.fr.kind ((hs.fr.kindOf x).trans hk) hn h1 ⟨v, σ, hs.inv, .refl .., h2, q⟩) hd
  · obtain ⟨vo, hc, hv⟩ := hs.cl x a hk ha
    obtain ⟨u, rfl, h2⟩ := hv v hx
    exact wpAny_Name (wpAny_loadName_cell hs.fr.kind ((hs.fr.kindOf x).trans hk) ha hc ⟨v, σ, hs.inv, .refl .., h2, q⟩) hd

/-- a global name's value -/
def Glob (H₀ : Heap) (x : Str) (v : Value) : Prop :=
  (x == ("__debug__" : Str)) = false ∧ ∃ mg mb, H₀.Ns mainGlobals mg ∧ H₀.Ns builtinsNs mb ∧ (mg x = some v ∨ mg x = Option.none ∧ mb x = some v)
theorem ev_glob {x pos v} {Q : AV → Sto → Prop} (hg : Glob g.H₀ x v) (hx : c.sc.names.lookup x = some .globalImplicit) (q : Q (.raw v) σ) : ev c ρ (.Name x pos) σ Q := fun s hs => by
  obtain ⟨hd, mg, mb, h1, h2, h3⟩ := hg
  have hk : ∀ b o, g.H₀.get? b = some o → s.heap.get? b = some o := fun b o e => (fz_eq.mp (hs.inv.keep b o e)).2.2
  have k1 := h1.keeps hk
  have k2 := h2.keeps hk
  rw [← hs.fr.glob] at k1
  rw [← hs.fr.blt] at k2
  refine Calls.Name_function_global hs.fr.kind ((hs.fr.kindOf x).trans hx) ?_ hd
  rcases h3 with h3 | ⟨h3, h4⟩
  · exact Calls.loadGlobal_global k1 h3 ⟨_, σ, hs.inv, .refl .., .raw v, q⟩
  · exact Calls.loadGlobal_builtin k1 h3 k2 h4 ⟨_, σ, hs.inv, .refl .., .raw v, q⟩

theorem ev_BinOp {l op r pos} {Q : AV → Sto → Prop} (h : ev c ρ l σ fun x σ₁ => ev c ρ r σ₁ fun y σ₂ => op2 c (binaryOp op) x y σ₂ Q) : ev c ρ (.BinOp l op r pos) σ Q := fun s hs => by
  refine wpAny_BinOp (wpAny_mono (h s hs) (fun a s₁ ⟨x, σ₁, i₁, e₁, r₁, q₁⟩ => ?_) fun _ _ e => e)
  refine wpAny_mono (q₁ s₁ (hs.ev i₁ e₁)) (fun b s₂ ⟨y, σ₂, i₂, e₂, r₂, q₂⟩ => ?_) fun _ _ e => e
  exact wpAny_mono (q₂ s₂ a b i₂ (r₁.mono e₂.grow) r₂) (fun v s₃ ⟨z, σ₃, i₃, e₃, r₃, q₃⟩ => ⟨z, σ₃, i₃, (e₁.trans e₂).trans e₃, r₃, q₃⟩) fun _ _ e => e
theorem ev_Cmp {l op r pos} {Q : AV → Sto → Prop} (h : ev c ρ l σ fun x σ₁ => ev c ρ r σ₁ fun y σ₂ => op2 c (compareOp op) x y σ₂ Q) (hm : behindInMarks op r = false := by with_unfolding_all rfl) : ev c ρ (.Compare l [op] [r] pos) σ Q := fun s hs => by
  refine wpAny_Compare1 (wpAny_mono (h s hs) (fun a s₁ ⟨x, σ₁, i₁, e₁, r₁, q₁⟩ => ?_) fun _ _ e => e) hm
  refine wpAny_mono (q₁ s₁ (hs.ev i₁ e₁)) (fun b s₂ ⟨y, σ₂, i₂, e₂, r₂, q₂⟩ => ?_) fun _ _ e => e
  exact wpAny_mono (q₂ s₂ a b i₂ (r₁.mono e₂.grow) r₂) (fun v s₃ ⟨z, σ₃, i₃, e₃, r₃, q₃⟩ => ⟨z, σ₃, i₃, (e₁.trans e₂).trans e₃, r₃, q₃⟩) fun _ _ e => e
theorem evb_Cmp {l op r pos} {Q : Bool → Sto → Prop} (h : ev c ρ l σ fun x σ₁ => ev c ρ r σ₁ fun y σ₂ => op2 c (compareOp op) x y σ₂ fun z σ₃ => opb c truthy z σ₃ Q) (hm : behindInMarks op r = false := by with_unfolding_all rfl) : evb c ρ (.Compare l [op] [r] pos) σ Q := fun s hs => by
  refine wpAny_isTrue_Compare1 (wpAny_mono (h s hs) (fun a s₁ ⟨x, σ₁, i₁, e₁, r₁, q₁⟩ => ?_) fun _ _ e => e) hm
  refine wpAny_mono (q₁ s₁ (hs.ev i₁ e₁)) (fun b s₂ ⟨y, σ₂, i₂, e₂, r₂, q₂⟩ => ?_) fun _ _ e => e
  refine wpAny_mono (q₂ s₂ a b i₂ (r₁.mono e₂.grow) r₂) (fun v s₃ ⟨z, σ₃, i₃, e₃, r₃, q₃⟩ => ?_) fun _ _ e => e
  exact wpAny_mono (q₃ s₃ v i₃ r₃) (fun v s₄ ⟨z, σ₄, i₄, e₄, r₄, q₄⟩ => ⟨z, σ₄, i₄, ((e₁.trans e₂).trans e₃).trans e₄, r₄, q₄⟩) fun _ _ e => e
theorem opb_bool {b : Bool} {Q : Bool → Sto → Prop} (q : Q b σ) : opb c truthy (.bool b) σ Q := fun s a i r => by
  cases r; exact wpAny_truthy_bool ⟨b, σ, i, .refl .., rfl, q⟩
theorem evb_value {e : Expr} {Q : Bool → Sto → Prop} (h : ev c ρ e σ fun x σ₁ => opb c truthy x σ₁ Q)
    (he : isTrue e c.env (eval e c.env) = (do let v ← eval e c.env; standAt e.pos; holding [v] (truthy v)) := by rfl) : evb c ρ e σ Q := fun s hs => by
  refine wpAny_isTrue_value (wpAny_mono (h s hs) (fun a s₁ ⟨x, σ₁, i₁, e₁, r₁, q₁⟩ => ?_) fun _ _ e => e) he
  exact wpAny_mono (q₁ s₁ a i₁ r₁) (fun v s₄ ⟨z, σ₄, i₄, e₄, r₄, q₄⟩ => ⟨z, σ₄, i₄, e₁.trans e₄, r₄, q₄⟩) fun _ _ e => e
theorem evb_not {x : Expr} {pos : Pos} {Q : Bool → Sto → Prop} (h : evb c ρ x σ fun b σ₁ => Q (!b) σ₁) : evb c ρ (.UnaryOp .Not x pos) σ Q := fun s hs =>
  wpAny_isTrue_Not (wpAny_mono (h s hs) (fun a s₁ ⟨x, σ₁, i₁, e₁, r₁, q₁⟩ => ⟨!a, σ₁, i₁, e₁, rfl, r₁ ▸ q₁⟩) fun _ _ e => e)
theorem ev_not {x : Expr} {pos : Pos} {Q : AV → Sto → Prop} (h : ev c ρ x σ fun y σ₁ => opb c truthy y σ₁ fun b σ₂ => Q (.bool (!b)) σ₂) : ev c ρ (.UnaryOp .Not x pos) σ Q := fun s hs => by
  refine wpAny_UnaryOp (wpAny_mono (h s hs) (fun a s₁ ⟨x, σ₁, i₁, e₁, r₁, q₁⟩ => ?_) fun _ _ e => e)
  exact not_value (wpAny_mono (q₁ s₁ a i₁ r₁) (fun v s₄ ⟨z, σ₄, i₄, e₄, r₄, q₄⟩ => ⟨_, σ₄, i₄, e₁.trans e₄, r₄ ▸ .bool _, q₄⟩) fun _ _ e => e)

/-- and | or in a test -/
def evAll (c : Cx g) (ρ : Rho) (op : BoolOp) : List Expr → Sto → (Bool → Sto → Prop) → Prop
  | [], σ, Q => Q (op == .And) σ
  | e :: r, σ, Q => evb c ρ e σ fun b σ₁ => match op, b with
    | .And, false => Q false σ₁
    | .Or, true => Q true σ₁
    | _, _ => evAll c ρ op r σ₁ Q
theorem evAll_sound {op : BoolOp} : ∀ {l : List Expr} {σ : Sto} {Q : Bool → Sto → Prop}, evAll c ρ op l σ Q → gv c ρ (fun _ a b => a = b) (allTrue op l c.env) σ Q
  | [], σ, Q, h => fun s hs => by
    cases op
    · exact wpAny_allTrue_And_nil ⟨_, σ, hs.inv, .refl .., rfl, h⟩
    · exact wpAny_allTrue_Or_nil ⟨_, σ, hs.inv, .refl .., rfl, h⟩
  | e :: r, σ, Q, h => fun s hs => by
    have go : ∀ {s₁ : Shared} {σ₁ : Sto}, c.Inv σ₁ s₁ → c.Ev σ s σ₁ s₁ → evAll c ρ op r σ₁ Q → wpAny g.M c.A (allTrue op r c.env) (fun v s' => ∃ x σ', c.Inv σ' s' ∧ c.Ev σ s σ' s' ∧ v = x ∧ Q x σ') c.E s₁ := fun {s₁ σ₁} i₁ e₁ q =>
      wpAny_mono (evAll_sound q s₁ (hs.ev i₁ e₁)) (fun v s₄ ⟨z, σ₄, i₄, e₄, r₄, q₄⟩ => ⟨z, σ₄, i₄, e₁.trans e₄, r₄, q₄⟩) fun _ _ e => e
    cases op
    · refine wpAny_allTrue_And_cons (wpAny_mono (h s hs) (fun b s₁ ⟨x, σ₁, i₁, e₁, r₁, q₁⟩ => ?_) fun _ _ e => e)
      subst r₁
      cases b
      · exact ⟨_, σ₁, i₁, e₁, rfl, q₁⟩
      · exact go i₁ e₁ q₁
    · refine wpAny_allTrue_Or_cons (wpAny_mono (h s hs) (fun b s₁ ⟨x, σ₁, i₁, e₁, r₁, q₁⟩ => ?_) fun _ _ e => e)
      subst r₁
      cases b
      · exact go i₁ e₁ q₁
      · exact ⟨_, σ₁, i₁, e₁, rfl, q₁⟩
theorem evb_bool {op : BoolOp} {values : List Expr} {pos : Pos} {Q : Bool → Sto → Prop} (h : evAll c ρ op values σ Q) : evb c ρ (.BoolOp op values pos) σ Q := fun s hs => wpAny_isTrue_BoolOp (evAll_sound h s hs)

/-- and | or as a value -/
def evVal (c : Cx g) (ρ : Rho) (op : BoolOp) : List Expr → Sto → (AV → Sto → Prop) → Prop
  | [], _, _ => False
  | [e], σ, Q => ev c ρ e σ Q
  | e :: e' :: r, σ, Q => ev c ρ e σ fun x σ₁ => opb c truthy x σ₁ fun b σ₂ => match op, b with
    | .And, false => Q x σ₂
    | .Or, true => Q x σ₂
    | _, _ => evVal c ρ op (e' :: r) σ₂ Q
theorem evVal_sound {op : BoolOp} {pos : Pos} : ∀ {l : List Expr} {σ : Sto} {Q : AV → Sto → Prop}, evVal c ρ op l σ Q → gv c ρ (Rep g.w) (boolOp pos op (evalEach l c.env)) σ Q
  | [], _, _, h => h.elim
  | [e], σ, Q, h => h
  | e :: e' :: r, σ, Q, h => fun s hs => by
    show wpAny _ _ (do
      let v ← eval e c.env
      standAt pos
      let t ← holding [v] (truthy v)
      match op, t with
      | .And, false | .Or, true => pure v
      | _, _ => boolOp pos op (evalEach (e' :: r) c.env)) _ _ s
    refine wpAny_bind (wpAny_mono (h s hs) (fun a s₁ ⟨x, σ₁, i₁, e₁, r₁, q₁⟩ => ?_) fun _ _ e => e)
    refine wpAny_bind (wpAny_standAt (wpAny_bind (wpAny_holding (wpAny_mono (q₁ s₁ a i₁ r₁) (fun b s₂ ⟨y, σ₂, i₂, e₂, r₂, q₂⟩ => ?_) fun _ _ e => e))))
    subst r₂
    have go : evVal c ρ op (e' :: r) σ₂ Q → wpAny g.M c.A (boolOp pos op (evalEach (e' :: r) c.env)) (fun v s' => ∃ x σ', c.Inv σ' s' ∧ c.Ev σ s σ' s' ∧ Rep g.w (c.F σ' s') v x ∧ Q x σ') c.E s₂ := fun q =>
      wpAny_mono (evVal_sound q s₂ (hs.ev i₂ (e₁.trans e₂))) (fun v s₄ ⟨z, σ₄, i₄, e₄, r₄, q₄⟩ => ⟨z, σ₄, i₄, (e₁.trans e₂).trans e₄, r₄, q₄⟩) fun _ _ e => e
    cases op <;> cases b <;> first | exact go q₂ | exact wpAny_pure ⟨x, σ₂, i₂, e₁.trans e₂, r₁.mono e₂.grow, q₂⟩
theorem ev_boolop {op : BoolOp} {values : List Expr} {pos : Pos} {Q : AV → Sto → Prop} (h : evVal c ρ op values σ Q) : ev c ρ (.BoolOp op values pos) σ Q := fun s hs => evVal_sound (pos := pos) h s hs

/-! statements -/
theorem es_nil {Q : AFl → Rho → Sto → Prop} (q : Q .next ρ σ) : es c ρ (execs [] c.env) σ Q := fun s hs => wpAny_execs_nil ⟨_, ρ, σ, hs, .refl .., .next, q⟩
theorem es_cons {st rest} {Q : AFl → Rho → Sto → Prop} (h : es c ρ (exec st c.env) σ fun g ρ' σ' => match g with | .next => es c ρ' (execs rest c.env) σ' Q | g => Q g ρ' σ') : es c ρ (execs (st :: rest) c.env) σ Q := fun s hs => by
  refine wpAny_execs_cons (wpAny_mono (h s hs) (fun f s₁ ⟨g, ρ₁, σ₁, i₁, e₁, r₁, q₁⟩ => ?_) fun _ _ e => e)
  cases r₁ with
  | next => exact wpAny_mono (q₁ s₁ i₁) (fun f s₂ ⟨g, ρ₂, σ₂, i₂, e₂, r₂, q₂⟩ => ⟨g, ρ₂, σ₂, i₂, e₁.trans e₂, r₂, q₂⟩) fun _ _ e => e
  | brk => exact ⟨_, ρ₁, σ₁, i₁, e₁, .brk, q₁⟩
  | cont => exact ⟨_, ρ₁, σ₁, i₁, e₁, .cont, q₁⟩
  | ret h => exact ⟨_, ρ₁, σ₁, i₁, e₁, .ret h, q₁⟩
theorem es_return {e pos} {Q : AFl → Rho → Sto → Prop} (h : ev c ρ e σ fun x σ' => Q (.ret x) ρ σ') : es c ρ (exec (.Return (some e) pos) c.env) σ Q := fun s hs =>
  wpAny_Return_some (wpAny_mono (h s hs) (fun v s₁ ⟨x, σ₁, i₁, e₁, r₁, q₁⟩ => ⟨_, ρ, σ₁, hs.ev i₁ e₁, e₁.toS hs.fr.sub, .ret r₁, q₁⟩) fun _ _ e => e)
theorem es_pass {pos} {Q : AFl → Rho → Sto → Prop} (q : Q .next ρ σ) : es c ρ (exec (.Pass pos) c.env) σ Q := fun s hs => wpAny_Pass ⟨_, ρ, σ, hs, .refl .., .next, q⟩
theorem es_if {test body orelse pos} {Q : AFl → Rho → Sto → Prop} (h : evb c ρ test σ fun b σ' => match b with | true => es c ρ (execs body c.env) σ' Q | false => es c ρ (execs orelse c.env) σ' Q) :
    es c ρ (exec (.If test body orelse pos) c.env) σ Q := fun s hs => by
  refine wpAny_If (wpAny_mono (h s hs) (fun b s₁ ⟨x, σ₁, i₁, e₁, r₁, q₁⟩ => ?_) fun _ _ e => e)
  subst r₁
  have go : ∀ {l : List Stmt}, es c ρ (execs l c.env) σ₁ Q → wpAny g.M c.A (execs l c.env) (fun f s' => ∃ fl ρ' σ', St c ρ' σ' s' ∧ EvS c σ s σ' s' ∧ RepF g.w (c.F σ' s') f fl ∧ Q fl ρ' σ') c.E s₁ := fun q =>
    wpAny_mono (q s₁ (hs.ev i₁ e₁)) (fun f s₂ ⟨g, ρ₂, σ₂, i₂, e₂, r₂, q₂⟩ => ⟨g, ρ₂, σ₂, i₂, (e₁.toS hs.fr.sub).trans e₂, r₂, q₂⟩) fun _ _ e => e
  cases b
  · exact go q₁
  · exact go q₁

inductive Upd (x : Str) (v : AV) : Rho → Rho → Prop
  | head {o : Option AV} {r : Rho} : Upd x v ((x, o) :: r) ((x, some v) :: r)
  | tail {p : Str × Option AV} {r r' : Rho} : Upd x v r r' → Upd x v (p :: r) (p :: r')
theorem Upd.names {x : Str} {v : AV} {r r' : Rho} (u : Upd x v r r') : r'.map (·.1) = r.map (·.1) := by
  induction u with
  | head => rfl
  | tail _ ih => simp [ih]
theorem Upd.mem {x : Str} {v : AV} {r r' : Rho} (u : Upd x v r r') : x ∈ r.map (·.1) := by
  induction u with
  | head => simp
  | tail _ ih => exact List.mem_cons_of_mem _ ih
theorem Upd.get {x : Str} {v : AV} {r r' : Rho} (u : Upd x v r r') (nd : (r.map (·.1)).Nodup) : ∀ y z, (y, some z) ∈ r' → (y = x ∧ z = v) ∨ (y ≠ x ∧ (y, some z) ∈ r) := by
  induction u with
  | @head o r =>
    intro y z h
    rw [List.map_cons, List.nodup_cons] at nd
    rcases List.mem_cons.mp h with h | h
    · injection h with h1 h2; injection h2 with h2; exact .inl ⟨h1, h2⟩
    · refine .inr ⟨?_, List.mem_cons_of_mem _ h⟩
      intro e
      exact nd.1 (e ▸ List.mem_map.mpr ⟨_, h, rfl⟩)
  | @tail p r r' u ih =>
    intro y z h
    rw [List.map_cons, List.nodup_cons] at nd
    rcases List.mem_cons.mp h with h | h
    · subst h
      refine .inr ⟨?_, List.mem_cons_self⟩
      rintro rfl
      exact nd.1 u.mem
    · rcases ih nd.2 y z h with h | ⟨h1, h2⟩
      · exact .inl h
      · exact .inr ⟨h1, List.mem_cons_of_mem _ h2⟩

/-- a heap changed at one own address alone, outside what others see -/
theorem fz_sameBut {h h' : Heap} {own : List Addr} {σ : Sto} {a : Addr} (ha : a ∈ own) (hs : Heap.SameBut a h h') : fz h' own σ = fz h own σ := by
  funext b
  unfold fz
  by_cases hb : b = a
  · subst hb; simp [ha]
  · rw [hs.2 b hb]
theorem Inv.sameBut {w : World} {H₀ : Heap} {own : List Addr} {σ : Sto} {s : Shared} (x : Inv w H₀ own σ s) {a : Addr} (ha : a ∈ own) {h' : Heap} {t : Nat} (hs : Heap.SameBut a s.heap h') (hl : ∃ o, h'.get? a = some o) :
    Inv w H₀ own σ { s with heap := h', toks := t } := by
  have e : fz h' own σ = fz s.heap own σ := fz_sameBut ha hs
  refine ⟨fun b o hb => ?_, fun b y hb => ?_, x.off, fun b hb => ?_⟩
  · show fz h' own σ b = _; rw [e]; exact x.keep b o hb
  · show ObjRep w (fz h' own σ) h' b y
    rw [e]
    have hne : b ≠ a := by rintro rfl; rw [x.off b ha] at hb; cases hb
    exact (x.objs b y hb).mono (.refl _) fun o ho => (hs.2 b hne).trans ho
  · by_cases hne : b = a
    · subst hne; exact hl
    · obtain ⟨o, ho⟩ := x.live b hb; exact ⟨o, (hs.2 b hne).trans ho⟩

/-- a name is stored -/
theorem store_sound {x : Str} {v : Value} {y : AV} {ρ' : Rho} {s : Shared} (hs : St c ρ σ s) (hu : Upd x y ρ ρ') (hc : c.isFn = true)
    (hv : Rep g.w (c.F σ s) v y) {Q : Unit → Shared → Prop} {E : Value → Shared → Prop} (q : ∀ s', St c ρ' σ s' → EvS c σ s σ s' → Q () s') : wpAny g.M c.A (storeName c.env x v) Q E s := by
  have hget := hu.get hs.fr.nodup
  have fr' : Frame c (ρ'.map (·.1)) := by rw [hu.names]; exact hs.fr
  rcases (hs.fr.kinds x hu.mem).2 with hk | ⟨hk, a, ha⟩
  · obtain ⟨m, hn, hm⟩ := hs.ns
    have hp : (c.env.scope.kind == .class || (c.env.scope.kind == .module && c.env.locals != c.env.globals)) = false := by rw [hs.fr.kind]; rfl
    refine wpAny_storeName_local ((hs.fr.kindOf x).trans hk) hn (fun h' hn' hs' => ?_) hp
    have hF : fz h' c.own σ = fz s.heap c.own σ := fz_sameBut hs.fr.loc hs'
    refine q _ ⟨hs.inv.sameBut hs.fr.loc hs' (let ⟨o, _, _, ho, _⟩ := hn'; ⟨o, ho⟩), fr', ⟨_, hn', fun z u hz hkz => ?_⟩, fun z b hkz hbz => ?_⟩
      ⟨⟨_, _, rfl⟩, by show (fz s.heap c.own σ).le (fz h' c.own σ); rw [hF]; exact .refl _, fun b hb o ho => (hs'.2 b (by rintro rfl; exact hs.fr.loc' hb)).trans ho⟩
    · show ∃ u', _ ∧ Rep g.w (fz h' c.own σ) u' u
      rw [hF]
      rcases hget z u hz with ⟨rfl, rfl⟩ | ⟨hne, hz'⟩
      · exact ⟨v, if_pos rfl, hv⟩
      · obtain ⟨u', h1, h2⟩ := hm z u hz' hkz
        exact ⟨u', by rw [if_neg hne]; exact h1, h2⟩
    · obtain ⟨vo, h1, h2⟩ := hs.cl z b hkz hbz
      refine ⟨vo, h1.sameBut hs' (hs.fr.cells z b hbz).2, fun u hz => ?_⟩
      show ∃ u', _ ∧ Rep g.w (fz h' c.own σ) u' u
      rw [hF]
      rcases hget z u hz with ⟨rfl, rfl⟩ | ⟨hne, hz'⟩
      · rw [hk] at hkz; cases hkz
      · exact h2 u hz'
  · obtain ⟨vo, hc0, hvo⟩ := hs.cl x a hk ha
    refine wpAny_storeName_cell hs.fr.kind ((hs.fr.kindOf x).trans hk) ha hc0 fun h' hc' hs' => ?_
    have hao := hs.fr.cells x a ha
    have hF : fz h' c.own σ = fz s.heap c.own σ := fz_sameBut hao.1 hs'
    have e0 : ({ s with heap := h' } : Shared) = { s with heap := h', toks := s.toks } := rfl
    refine q _ ⟨by rw [e0]; exact hs.inv.sameBut hao.1 hs' (let ⟨o, ho, _⟩ := hc'; ⟨o, ho⟩), fr', ?_, fun z b hkz hbz => ?_⟩
      ⟨⟨h', s.toks, rfl⟩, by show (fz s.heap c.own σ).le (fz h' c.own σ); rw [hF]; exact .refl _, fun b hb o ho => (hs'.2 b (by rintro rfl; exact hs.fr.wr hc _ _ ha hb)).trans ho⟩
    · obtain ⟨m, hn, hm⟩ := hs.ns
      refine ⟨m, hn.sameBut hs' (Ne.symm hao.2), fun z u hz hkz => ?_⟩
      show ∃ u', _ ∧ Rep g.w (fz h' c.own σ) u' u
      rw [hF]
      rcases hget z u hz with ⟨rfl, rfl⟩ | ⟨hne, hz'⟩
      · rw [hk] at hkz; cases hkz
      · exact hm z u hz' hkz
    · by_cases hz : z = x
      · subst hz
        rw [ha] at hbz; injection hbz with hbz; subst hbz
        refine ⟨some v, hc', fun u hu' => ?_⟩
        show ∃ u', _ ∧ Rep g.w (fz h' c.own σ) u' u
        rw [hF]
        rcases hget z u hu' with ⟨_, rfl⟩ | ⟨hne, _⟩
        · exact ⟨v, rfl, hv⟩
        · exact absurd rfl hne
      · obtain ⟨vo', h1, h2⟩ := hs.cl z b hkz hbz
        have hba : b ≠ a := by
          rintro rfl
          exact hz (name_of_addr (hs.fr.apart hc) (mem_of_lookup hbz) (mem_of_lookup ha))
        refine ⟨vo', h1.sameBut hs' hba, fun u hu' => ?_⟩
        show ∃ u', _ ∧ Rep g.w (fz h' c.own σ) u' u
        rw [hF]
        rcases hget z u hu' with ⟨rfl, _⟩ | ⟨_, hz'⟩
        · exact absurd rfl hz
        · exact h2 u hz'

theorem es_assign {x pos' value pos} {Q : AFl → Rho → Sto → Prop} (h : ev c ρ value σ fun y σ' => ∃ ρ', Upd x y ρ ρ' ∧ Q .next ρ' σ')
    (hc : c.isFn = true)
    (hw : swapsWith value (some (.Name x pos')) pos.line c.env = pure false := by rfl) : es c ρ (exec (.Assign [.Name x pos'] value pos) c.env) σ Q := fun s hs => by
  refine wpAny_Assign_Name (wpAny_mono (h s hs) (fun v s₁ ⟨y, σ₁, i₁, e₁, r₁, ρ', hu, q₁⟩ => ?_) fun _ _ e => e) hw
  exact store_sound (hs.ev i₁ e₁) hu hc r₁ fun s' hs' e' => ⟨_, ρ', σ₁, hs', (e₁.toS hs.fr.sub).trans e', .next, q₁⟩
end

end Mine

end

section
namespace Mine
open PySem
variable {g : Gx}

/-! a call of a def of the text -/
theorem bindL_skip {kindOf : Str → Option NameKind} : ∀ {b : List (Str × Value)} {m : Str → Option Value} {x : Str}, x ∉ b.map (·.1) → bindL kindOf b m x = m x
  | [], _, _, _ => rfl
  | (n, v) :: r, m, x, h => by
    rw [List.map_cons, List.mem_cons, not_or] at h
    unfold bindL
    rw [bindL_skip h.2]
    split
    · exact if_neg h.1
    · rfl
theorem bindC_skip {kindOf : Str → Option NameKind} : ∀ {b : List (Str × Value)} {m : Str → Option Value} {x : Str}, x ∉ b.map (·.1) → bindC kindOf b m x = m x
  | [], _, _, _ => rfl
  | (n, v) :: r, m, x, h => by
    rw [List.map_cons, List.mem_cons, not_or] at h
    unfold bindC
    rw [bindC_skip h.2]
    split
    · rfl
    · exact if_neg h.1
theorem bindL_get {kindOf : Str → Option NameKind} : ∀ {b : List (Str × Value)} {m : Str → Option Value} {x : Str} {v : Value}, (b.map (·.1)).Nodup → (x, v) ∈ b → kindOf x = some .local → bindL kindOf b m x = some v
  | (n, u) :: r, m, x, v, nd, h, hk => by
    rw [List.map_cons, List.nodup_cons] at nd
    unfold bindL
    rcases List.mem_cons.mp h with e | h
    · injection e with e1 e2
      subst e1; subst e2
      rw [bindL_skip nd.1, if_pos hk, if_pos rfl]
    · exact bindL_get nd.2 h hk
theorem bindC_get {kindOf : Str → Option NameKind} : ∀ {b : List (Str × Value)} {m : Str → Option Value} {x : Str} {v : Value}, (b.map (·.1)).Nodup → (x, v) ∈ b → kindOf x = some .cell → bindC kindOf b m x = some v
  | (n, u) :: r, m, x, v, nd, h, hk => by
    rw [List.map_cons, List.nodup_cons] at nd
    unfold bindC
    rcases List.mem_cons.mp h with e | h
    · injection e with e1 e2
      subst e1; subst e2
      rw [bindC_skip nd.1, if_neg (by rw [hk]; decide), if_pos rfl]
    · exact bindC_get nd.2 h hk
theorem cellsFrom_has {x : Str} : ∀ (names : List (Str × NameKind)) (n : Nat) (acc : List (Str × Addr)), names.lookup x = some .cell ∨ (acc.lookup x).isSome = true → ((cellsFrom n names acc).lookup x).isSome = true
  | [], _, _, h => h.elim (fun e => by cases e) id
  | (y, k) :: r, n, acc, h => by
    unfold cellsFrom
    by_cases hk : (k == .cell) = true
    · rw [if_pos hk]
      refine cellsFrom_has r (n + 1) ((y, n) :: acc) ?_
      by_cases hy : (x == y) = true
      · exact .inr (by rw [List.lookup_cons, hy]; rfl)
      · refine h.imp (fun e => ?_) fun e => ?_
        · rw [List.lookup_cons] at e; simpa only [hy] using e
        · rw [List.lookup_cons]; simpa only [hy] using e
    · rw [if_neg hk]
      refine cellsFrom_has r n acc ?_
      by_cases hy : (x == y) = true
      · refine .inr (h.elim (fun e => ?_) id)
        rw [List.lookup_cons, hy] at e
        exact absurd (by rw [Option.some.inj e]; rfl) hk
      · refine h.imp (fun e => ?_) id
        rw [List.lookup_cons] at e; simpa only [hy] using e

structure FnAt (g : Gx) (f : Addr) (ps : List Str) (body : List Stmt) (sc : Scope) : Prop where
  ex : ∃ o fd, g.H₀.get? f = some o ∧ o.data = .func fd ∧ fd.body = .stmts body ∧ fd.scope = sc ∧ fd.closure = [] ∧ fd.globals = mainGlobals ∧ fd.builtins = builtinsNs ∧
    g.H₀.CodeRec fd.code fd.qualname ∧ ∀ vals : List Value, vals.length = ps.length → bindArgs fd ⟨vals, []⟩ = pure (ps.zip vals)
  nolimit : g.H₀.NoLimit

/-- what is decided of a def's names once -/
def scOk (ps rest : List Str) (sc : Scope) : Bool :=
  !sc.isCoroutine && !sc.isGenerator && (sc.kind == .function) && decide ((ps ++ rest).Nodup) &&
  (ps ++ rest).all fun x => !(x == ("__debug__" : Str)) && (sc.names.lookup x == some .local || sc.names.lookup x == some .cell)
def rho0 (ps rest : List Str) (xs : List AV) : Rho := ps.zip (xs.map some) ++ rest.map fun x => (x, Option.none)

theorem rho0_names {ps rest : List Str} {xs : List AV} (h : xs.length = ps.length) : (rho0 ps rest xs).map (·.1) = ps ++ rest := by
  unfold rho0
  rw [List.map_append, List.map_map, List.map_fst_zip (by simp [h])]
  congr 1
  exact List.map_id' _
theorem zip_rep {w : World} {F : Fz} : ∀ {ps : List Str} {vs : List Value} {xs : List AV} {x : Str} {v : AV}, RepL w F vs xs → (x, some v) ∈ ps.zip (xs.map some) → ∃ u, (x, u) ∈ ps.zip vs ∧ Rep w F u v
  | [], _, _, _, _, _, h => by simp at h
  | p :: ps, _, _, x, v, .nil, h => by simp at h
  | p :: ps, _, _, x, v, .cons (v := u) hu r, h => by
    rw [List.map_cons, List.zip_cons_cons] at h
    rcases List.mem_cons.mp h with e | h
    · injection e with e1 e2
      injection e2 with e2
      subst e1; subst e2
      exact ⟨u, by rw [List.zip_cons_cons]; exact List.mem_cons_self, hu⟩
    · obtain ⟨u', h1, h2⟩ := zip_rep r h
      exact ⟨u', by rw [List.zip_cons_cons]; exact List.mem_cons_of_mem _ h1, h2⟩

def fnPost (Q : AV → Sto → Prop) : AFl → Rho → Sto → Prop := fun fl _ σ' => match fl with | .ret x => Q x σ' | _ => Q .none σ'

def cellAdrs (env : Env) : List Addr := (env.cells.map (·.1)).filterMap fun n => env.cells.lookup n
theorem cellAdrs_of {env : Env} {x : Str} {a : Addr} (h : env.cells.lookup x = some a) : a ∈ cellAdrs env :=
  List.mem_filterMap.mpr ⟨x, List.mem_map.mpr ⟨_, mem_of_lookup h, rfl⟩, h⟩
theorem of_cellAdrs {env : Env} {a : Addr} (h : a ∈ cellAdrs env) : ∃ x, env.cells.lookup x = some a := by
  obtain ⟨x, _, e⟩ := List.mem_filterMap.mp h; exact ⟨x, e⟩

theorem cal_fn {c : Cx g} {f : Addr} {ps rest : List Str} {body : List Stmt} {sc : Scope} {xs : List AV} {σ : Sto} {Q : AV → Sto → Prop} (fn : FnAt g f ps body sc) (ok : scOk ps rest sc = true)
    (hroom : c.A.depth < recursionLimit) (hlen : xs.length = ps.length)
    (h : ∀ c' : Cx g, c'.sc = sc → c'.isFn = true → c'.A = c.A.deeper c'.env → es c' (rho0 ps rest xs) (execs body c'.env) σ (fnPost Q)) : cal c (.ref f) xs σ Q := by
  intro s vs i r
  obtain ⟨o, fd, ho, hd, hb, hsc, hcl, hgl, hbl, hcr, hbind⟩ := fn.ex
  have hkeep : ∀ b o, g.H₀.get? b = some o → s.heap.get? b = some o := fun b o e => (fz_eq.mp (i.keep b o e)).2.2
  have hvl : vs.length = ps.length := r.length.trans hlen
  simp only [scOk, Bool.and_eq_true, Bool.not_eq_true', beq_iff_eq, decide_eq_true_eq, List.all_eq_true, Bool.or_eq_true] at ok
  obtain ⟨⟨⟨⟨hco, hgen⟩, hkd⟩, hnd⟩, hnm⟩ := ok
  subst hsc
  have hfst : (ps.zip vs).map (·.1) = ps := List.map_fst_zip (by omega)
  have hkinds : ∀ x ∈ ps.zip vs, fd.scope.names.lookup x.1 = some .local ∨ (fd.scope.names.lookup x.1 = some .cell ∧ ((cellsFrom (s.heap.objs.size + 1) fd.scope.names []).lookup x.1).isSome = true) := fun x hx => by
    have : x.1 ∈ ps := hfst ▸ List.mem_map.mpr ⟨x, hx, rfl⟩
    rcases (hnm x.1 (List.mem_append_left _ this)).2 with q | q
    · exact .inl q
    · exact .inr ⟨q, cellsFrom_has _ _ _ (.inl q)⟩
  refine wpAny_call (codeAny_call_cells hroom (hkeep _ _ ho) hd (fn.nolimit.keeps hkeep) (hcr.keeps hkeep) hb (hbind vs hvl) hcl hkinds (fun s₁ x => ?_) hco hgen hkd)
  obtain ⟨⟨h₁, tk₁, hs₁⟩, hns, hk₁, _⟩ := x.toInCall
  have xcell := x.cell
  have xapart := x.apart
  have xabove := x.above
  have hm1 : ∀ x v, (x, v) ∈ ps.zip vs → fd.scope.names.lookup x = some .local → bindL (callEnvC fd s.heap.objs.size f).kindOf (ps.zip vs) (fun _ => Option.none) x = some v := fun x v hx hk =>
    bindL_get (by rw [hfst]; exact (List.nodup_append.mp hnd).1) hx hk
  have hm2 : ∀ x v, (x, v) ∈ ps.zip vs → fd.scope.names.lookup x = some .cell → bindC (callEnvC fd s.heap.objs.size f).kindOf (ps.zip vs) (fun _ => Option.none) x = some v := fun x v hx hk =>
    bindC_get (by rw [hfst]; exact (List.nodup_append.mp hnd).1) hx hk
  generalize hml : bindL (callEnvC fd s.heap.objs.size f).kindOf (ps.zip vs) (fun _ => Option.none) = ml at hns hm1
  generalize hmc : bindC (callEnvC fd s.heap.objs.size f).kindOf (ps.zip vs) (fun _ => Option.none) = mc at xcell hm2
  clear x
  have hLoc : (callEnvC fd s.heap.objs.size f).locals = s.heap.objs.size := rfl
  have hScope : (callEnvC fd s.heap.objs.size f).scope = fd.scope := rfl
  have hGlob : (callEnvC fd s.heap.objs.size f).globals = mainGlobals := hgl
  have hBlt : (callEnvC fd s.heap.objs.size f).builtins = builtinsNs := hbl
  have hCells : ∀ x, ((fd.scope.names.lookup x) = some .cell) → ∃ a, (callEnvC fd s.heap.objs.size f).cells.lookup x = some a := fun x hx =>
    Option.isSome_iff_exists.mp (cellsFrom_has fd.scope.names (s.heap.objs.size + 1) [] (.inl hx))
  generalize henv : callEnvC fd s.heap.objs.size f = env at *
  -- the new context
  let R : Result → Shared → Prop := fun r s' => match r with | .ok (.ret v) => (∃ x σ', c.Inv σ' s' ∧ c.Ev σ s σ' s' ∧ Rep g.w (c.F σ' s') v x ∧ Q x σ') | .ok _ => False | .error e => c.E e s'
  let c' : Cx g := ⟨c.A.deeper env, env, (env.locals :: cellAdrs env) ++ c.own, c.own, fun e s' => wpAny g.M (c.A.deeper env) (leaving env e) (fun _ s'' => R (.error e) s'') (fun e' s'' => R (.error e') s'') s', fd.scope, true⟩
  have hnew : ∀ a ∈ env.locals :: cellAdrs env, s.heap.objs.size ≤ a := by
    intro a ha
    rcases List.mem_cons.mp ha with rfl | ha
    · exact Nat.le_of_eq hLoc.symm
    · obtain ⟨n, hb⟩ := of_cellAdrs ha
      exact Nat.le_of_lt (Nat.lt_of_le_of_lt (Nat.le_of_eq hLoc.symm) (xabove n a (mem_of_lookup hb)))
  have hF : (fz s.heap c.own σ).le (fz s₁.heap c'.own σ) := fun b ob e => by
    obtain ⟨e1, e2, e3⟩ := fz_eq.mp e
    refine fz_eq.mpr ⟨e1, fun hm => ?_, hk₁ b ob e3⟩
    rcases List.mem_append.mp hm with hm | hm
    · exact absurd (Heap.lt_size e3) (Nat.not_lt.mpr (hnew b hm))
    · exact e2 hm
  have hlook : ∀ {x a}, env.cells.lookup x = some a → a ∈ cellAdrs env := fun hx => cellAdrs_of hx
  have inv' : c'.Inv σ s₁ := by
    refine ⟨fun b ob e => hF b ob (i.keep b ob e), fun a y e => (i.objs a y e).mono hF fun ob e => hk₁ a ob e, fun a ha => ?_, fun a ha => ?_⟩
    · rcases List.mem_append.mp ha with ha | ha
      · exact (i.fresh (hnew a ha)).1
      · exact i.off a ha
    · rcases List.mem_append.mp ha with ha | ha
      · rcases List.mem_cons.mp ha with rfl | ha
        · obtain ⟨ob, _, _, hob, _⟩ := hns; exact ⟨ob, hob⟩
        · obtain ⟨n, hb⟩ := of_cellAdrs ha
          obtain ⟨ob, hob, _⟩ := xcell n a hb
          exact ⟨ob, hob⟩
      · obtain ⟨ob, hob⟩ := i.live a ha; exact ⟨ob, hk₁ a ob hob⟩
  have fr' : Frame c' ((rho0 ps rest xs).map (·.1)) := by
    rw [rho0_names hlen]
    refine ⟨hScope, fun _ x a ha hh => ?_, by show env.scope.kind = _; rw [hScope]; exact hkd, hGlob, hBlt, by simp [c'], fun hh => ?_, fun a ha => List.mem_append_right _ ha, fun x a ha => ⟨?_, ?_⟩, fun _ => xapart, fun x hx => ?_, hnd⟩
    · exact (i.fresh (hnew a (List.mem_cons_of_mem _ (hlook ha)))).2 hh
    · exact (i.fresh (hnew _ List.mem_cons_self)).2 hh
    · exact List.mem_append_left _ (List.mem_cons_of_mem _ (hlook ha))
    · exact Nat.ne_of_gt (xabove x a (mem_of_lookup ha))
    · obtain ⟨h1, h2⟩ := hnm x hx
      refine ⟨h1, h2.imp id fun q => ⟨q, hCells x q⟩⟩
  have st' : St c' (rho0 ps rest xs) σ s₁ := by
    refine ⟨inv', fr', ⟨ml, hns, fun x v hx hk => ?_⟩, fun x a hk ha => ⟨mc x, xcell x a ha, fun v hx => ?_⟩⟩
    · rcases List.mem_append.mp hx with hx | hx
      · obtain ⟨u, h1, h2⟩ := zip_rep r hx
        exact ⟨u, hm1 x u h1 hk, h2.mono hF⟩
      · obtain ⟨_, _, e⟩ := List.mem_map.mp hx; cases e
    · rcases List.mem_append.mp hx with hx | hx
      · obtain ⟨u, h1, h2⟩ := zip_rep r hx
        exact ⟨u, hm2 x u h1 hk, h2.mono hF⟩
      · obtain ⟨_, _, e⟩ := List.mem_map.mp hx; cases e
  refine wpAny_mono (h c' rfl rfl rfl s₁ st') (fun fl s' ⟨ag, ρ', σ', hst, hev, hrf, hq⟩ => ?_) fun _ _ e => e
  have hback : (fz s'.heap c'.own σ').le (fz s'.heap c.own σ') := fun b ob e => by
    obtain ⟨e1, e2, e3⟩ := fz_eq.mp e
    exact fz_eq.mpr ⟨e1, fun hm => e2 (List.mem_append_right _ hm), e3⟩
  have inv'' : c.Inv σ' s' := ⟨fun b ob e => hback b ob (hst.inv.keep b ob e), fun a y e => (hst.inv.objs a y e).mono hback fun _ e => e, fun a ha => hst.inv.off a (List.mem_append_right _ ha), fun a ha => hst.inv.live a (List.mem_append_right _ ha)⟩
  have ev'' : c.Ev σ s σ' s' := by
    refine ⟨?_, (hF.trans hev.grow).trans hback, fun a ha ob e => hev.hid a ha ob (hk₁ a ob e)⟩
    obtain ⟨h2, t2, e2⟩ := hev.same
    subst hs₁
    exact ⟨h2, t2, e2⟩
  cases hrf with
  | next => exact ⟨_, σ', inv'', ev'', .none, hq⟩
  | brk => exact ⟨_, σ', inv'', ev'', .none, hq⟩
  | cont => exact ⟨_, σ', inv'', ev'', .none, hq⟩
  | ret hr => exact ⟨_, σ', inv'', ev'', hr.mono hback, hq⟩

end Mine

end

section
namespace Mine
open PySem
variable {g : Gx} {c : Cx g} {ρ : Rho} {σ : Sto}

/-! calls as expressions -/
def noStar : Expr → Bool
  | .Starred _ _ => false
  | _ => true
theorem starEach_plain {env : Env} {pos : Pos} : ∀ {l : List Expr}, l.all noStar = true → backTo pos (starEach l env) = l.map fun e => (false, eval e env)
  | [], _ => rfl
  | e :: r, h => by
    simp only [List.all_cons, Bool.and_eq_true] at h
    have ih := starEach_plain (env := env) (pos := pos) h.2
    cases e <;> first | (exact congrArg (List.cons _) ih) | exact absurd h.1 Bool.false_ne_true

theorem evl_sound : ∀ {l : List Expr} {σ : Sto} {Q : List AV → Sto → Prop}, evl c ρ l σ Q → gv c ρ (RepL g.w) (spliced (l.map fun e => (false, eval e c.env))) σ Q
  | [], σ, Q, h => fun s hs => Calls.spliced_nil ⟨[], σ, hs.inv, .refl .., .nil, h⟩
  | e :: r, σ, Q, h => fun s hs => by
    refine Calls.spliced_cons (wpAny_mono (h s hs) (fun v s₁ ⟨x, σ₁, i₁, e₁, r₁, q₁⟩ => ?_) fun _ _ e => e)
    exact wpAny_mono (evl_sound q₁ s₁ (hs.ev i₁ e₁)) (fun vs s₂ ⟨xs, σ₂, i₂, e₂, r₂, q₂⟩ => ⟨x :: xs, σ₂, i₂, e₁.trans e₂, .cons (r₁.mono e₂.grow) r₂, q₂⟩) fun _ _ e => e

/-- what may stand ahead of the brackets -/
inductive Callee (g : Gx) : Value → Prop
  | builtin (id : String) : Callee g (.builtin id)
  | type (T : String) : Callee g (.type T)
  | fn {a : Addr} {o : Obj} {fd : FuncData} : g.H₀.get? a = some o → o.data = .func fd → Callee g (.ref a)

theorem callWith_any {v : Value} {first : List Value} {fx : List AV} {e : Expr} {rest : List Expr} {pos : Pos} {Q : AV → Sto → Prop} (hc : Callee g v) (hp : (e :: rest).all noStar = true) {s : Shared} (hs : St c ρ σ s)
    (hf : RepL g.w (c.F σ s) first fx) (h : evl c ρ (e :: rest) σ fun xs σ₁ => cal c v (fx ++ xs) σ₁ Q) : pv c σ s (callWith pos v first (backTo pos (starEach (e :: rest) c.env)) []) Q := by
  have e0 : backTo pos (starEach (e :: rest) c.env) = (false, eval e c.env) :: rest.map fun e => (false, eval e c.env) := starEach_plain hp
  have hany : ((false, eval e c.env) :: rest.map fun e => (false, eval e c.env)).any (·.1) = false := by
    rw [List.any_eq_false]; intro x hx
    rcases List.mem_cons.mp hx with rfl | hx
    · simp
    · obtain ⟨_, _, rfl⟩ := List.mem_map.mp hx; simp
  show wpAny _ _ _ _ _ s
  rw [e0]
  have main : wpAny g.M c.A (evalArgs v true ((false, eval e c.env) :: rest.map fun e => (false, eval e c.env)) []) (fun a s₁ => (∃ σ₁ xs, c.Inv σ₁ s₁ ∧ c.Ev σ s σ₁ s₁ ∧ a.kw = [] ∧ RepL g.w (c.F σ₁ s₁) a.pos xs ∧ cal c v (fx ++ xs) σ₁ Q)) c.E s :=
    Calls.evalArgs_plain (wpAny_mono (evl_sound h s hs) (fun vs s₁ ⟨xs, σ₁, i₁, e₁, r₁, q₁⟩ => ⟨σ₁, xs, i₁, e₁, rfl, r₁, q₁⟩) fun _ _ e => e)
  have fin : ∀ {a : Args} {s₁ : Shared}, (∃ σ₁ xs, c.Inv σ₁ s₁ ∧ c.Ev σ s σ₁ s₁ ∧ a.kw = [] ∧ RepL g.w (c.F σ₁ s₁) a.pos xs ∧ cal c v (fx ++ xs) σ₁ Q) → wpAny g.M c.A (call v (first ++ a.pos) a.kw) (fun v s' => ∃ x σ', c.Inv σ' s' ∧ c.Ev σ s σ' s' ∧ Rep g.w (c.F σ' s') v x ∧ Q x σ') c.E s₁ := by
    rintro a s₁ ⟨σ₁, xs, i₁, e₁, hk, r₁, q₁⟩
    rw [hk]
    exact wpAny_mono (q₁ s₁ _ i₁ ((hf.mono e₁.grow).append r₁)) (fun v s₃ ⟨z, σ₃, i₃, e₃, r₃, q₃⟩ => ⟨z, σ₃, i₃, e₁.trans e₃, r₃, q₃⟩) fun _ _ e => e
  cases hc with
  | builtin id => exact Calls.callWith_builtin hany (wpAny_mono main (fun a s₁ h₁ => fin h₁) fun _ _ e => e)
  | type T => exact callWith_type hany (wpAny_mono main (fun a s₁ h₁ => fin h₁) fun _ _ e => e)
  | fn ho hd =>
    refine Calls.callWith_function (wpAny_mono main (fun a s₁ h₁ => ⟨⟨?_, hd⟩, fin h₁⟩) fun _ _ e => e)
    obtain ⟨σ₁, xs, i₁, _⟩ := h₁
    exact (fz_eq.mp (i₁.keep _ _ ho)).2.2

theorem ev_call {id : Str} {p pos : Pos} {e : Expr} {rest : List Expr} {v : Value} {Q : AV → Sto → Prop} (hg : Glob g.H₀ id v) (hx : c.sc.names.lookup id = some .globalImplicit) (hc : Callee g v)
    (h : evl c ρ (e :: rest) σ fun xs σ₁ => cal c v xs σ₁ Q) (hp : (e :: rest).all noStar = true := by rfl) : ev c ρ (.Call (.Name id p) (e :: rest) [] pos) σ Q := fun s hs => by
  refine wpAny_Call_NameR (wpAny_mono (ev_glob (Q := fun x σ' => x = .raw v ∧ σ' = σ) (pos := p) hg hx ⟨rfl, rfl⟩ s hs) (fun f s₁ ⟨x, σ₁, i₁, e₁, r₁, hx, hσ⟩ => ?_) fun _ _ e => e)
  subst hx; subst hσ
  cases r₁
  have := callWith_any (pos := pos) (first := []) (fx := []) hc hp (hs.ev i₁ e₁) .nil (by simpa using h)
  exact wpAny_mono this (fun v s₃ ⟨z, σ₃, i₃, e₃, r₃, q₃⟩ => ⟨z, σ₃, i₃, e₁.trans e₃, r₃, q₃⟩) fun _ _ e => e

/-! loops -/
/-- y can be walked, its items are l -/
def Iter (c : Cx g) (y : AV) (l : List AV) : Prop := ∀ σ s v, c.Inv σ s → Rep g.w (c.F σ s) v y → ∀ E, wpAny g.M c.A (pyIter v) (fun it s₂ => ∃ I fp P Sx, it = .ref I ∧ Walks g.prog g.w c.A I fp [I] l.length P Sx ∧ Sx 0 s₂.heap ∧
  (∃ h' tk, s₂ = { s with heap := h', toks := tk }) ∧ (∀ b o, s.heap.get? b = some o → s₂.heap.get? b = some o) ∧ s.heap.objs.size ≤ I ∧ (∀ j h, Sx j h → ∃ o, h.get? I = some o) ∧
  (∀ b ∈ fp, b = I ∨ ∃ o, c.F σ s b = some o) ∧ ∀ i u, i < l.length → P i u → ∃ x, l[i]? = some x ∧ Rep g.w (c.F σ s) u x) E s

theorem iter_list (hh : c.A.handled = none) (l : List AV) : Iter c (.list l) l := fun σ s v i r E => by
  cases r with
  | @list a vs n _ hF hr =>
    obtain ⟨_, _, ho⟩ := fz_eq.mp hF
    have hl : s.heap.IsList a vs.toArray := ⟨_, ho, rfl, n, rfl⟩
    have hlen : vs.toArray.size = l.length := by rw [List.size_toArray]; exact hr.length
    refine wpAny_pyIter_list hl ⟨s.heap.objs.size, [s.heap.objs.size, a], fun i v => vs.toArray[i]? = some v, _, rfl, hlen ▸ Walks.list hh s.heap.objs.size a (Nat.ne_of_lt (Heap.lt_size ho)) vs.toArray, ?_, ⟨_, s.toks, rfl⟩, push_keeps _ _, Nat.le_refl _, (fun _ _ hx => let ⟨⟨o, ho, _⟩, _⟩ := hx; ⟨o, ho⟩), ?_, ?_⟩
    · exact ⟨⟨_, Heap.get?_push_size _ rfl, rfl, rfl⟩, ⟨_, push_keeps _ _ _ _ ho, rfl, n, rfl⟩⟩
    · intro b hb
      rcases List.mem_cons.mp hb with rfl | hb
      · exact .inl rfl
      · rw [List.mem_singleton.mp hb]; exact .inr ⟨_, hF⟩
    · intro i u _ hu
      obtain ⟨x, h1, h2⟩ := hr.get' (i := i) (v := u) (by simpa using hu)
      exact ⟨x, h1, h2⟩
theorem iter_tup (hh : c.A.handled = none) (l : List AV) : Iter c (.tup l) l := fun σ s v i r E => by
  cases r with
  | @tup a vs n _ hF hr =>
    obtain ⟨_, _, ho⟩ := fz_eq.mp hF
    have hl : s.heap.IsTuple a vs.toArray := ⟨_, ho, rfl, n, rfl⟩
    have hlen : vs.toArray.size = l.length := by rw [List.size_toArray]; exact hr.length
    refine wpAny_pyIter_tuple hl ⟨s.heap.objs.size, [s.heap.objs.size, a], fun i v => vs.toArray[i]? = some v, _, rfl, hlen ▸ Walks.tuple hh s.heap.objs.size a (Nat.ne_of_lt (Heap.lt_size ho)) vs.toArray, ?_, ⟨_, s.toks, rfl⟩, push_keeps _ _, Nat.le_refl _, (fun _ _ hx => let ⟨⟨o, ho, _⟩, _⟩ := hx; ⟨o, ho⟩), ?_, ?_⟩
    · exact ⟨⟨_, Heap.get?_push_size _ rfl, rfl, rfl⟩, ⟨_, push_keeps _ _ _ _ ho, rfl, n, rfl⟩⟩
    · intro b hb
      rcases List.mem_cons.mp hb with rfl | hb
      · exact .inl rfl
      · rw [List.mem_singleton.mp hb]; exact .inr ⟨_, hF⟩
    · intro i u _ hu
      obtain ⟨x, h1, h2⟩ := hr.get' (i := i) (v := u) (by simpa using hu)
      exact ⟨x, h1, h2⟩
def rngL (lo hi : Int) : List Int := (List.range (hi - lo).toNat).map fun i : Nat => lo + (i : Int)
theorem iter_rng (hh : c.A.handled = none) {lo hi : Int} (h1 : -(2 ^ 62) ≤ lo) (h2 : lo < 2 ^ 62) (h3 : -(2 ^ 62) ≤ hi) (h4 : hi < 2 ^ 62) : Iter c (.rng lo hi) ((rngL lo hi).map .int) := fun σ s v i r E => by
  cases r with
  | @rng a _ _ t u v hF =>
    obtain ⟨_, _, ho⟩ := fz_eq.mp hF
    have hlen : ((rngL lo hi).map AV.int).length = (hi - lo).toNat := by simp [rngL]
    have hsz : Builtin.Range.rangeSize lo hi 1 = ((hi - lo).toNat : Int) := by rw [rangeSize_one]; split <;> omega
    refine wpAny_pyIter_range (r := a) (a := lo) (b := hi) (c := 1) (t := t) (u := u) (v := v) ho (small_one h1 h2 h3 h4) ⟨s.heap.objs.size, [s.heap.objs.size], _, _, rfl, hlen ▸ Walks.range hh s.heap.objs.size lo 1 (hi - lo).toNat, ?_, ⟨_, s.toks, rfl⟩, push_keeps _ _, Nat.le_refl _, (fun _ _ hx => ⟨_, hx⟩), ?_, ?_⟩
    · rw [hsz]
      have e1 : lo + ((0 : Nat) : Int) * 1 = lo := by omega
      have e2 : (((hi - lo).toNat : Nat) : Int) - ((0 : Nat) : Int) = ((hi - lo).toNat : Int) := by omega
      rw [e1, hlen, e2]
      exact Heap.get?_push_size _ rfl
    · intro b hb; exact .inl (List.mem_singleton.mp hb)
    · rintro i u hi' ⟨tk, rfl⟩
      rw [hlen] at hi'
      refine ⟨.int (lo + i), by simp [rngL, hi'], ?_⟩
      have : lo + (i : Int) * 1 = lo + i := by omega
      rw [this]; exact .int _ _

/-- names forgotten -/
inductive Wk : Rho → Rho → Prop
  | nil : Wk [] []
  | keep {p : Str × Option AV} {r r' : Rho} : Wk r r' → Wk (p :: r) (p :: r')
  | drop {x : Str} {o : Option AV} {r r' : Rho} : Wk r r' → Wk ((x, Option.none) :: r) ((x, o) :: r')
theorem Wk.refl : ∀ r : Rho, Wk r r
  | [] => .nil
  | _ :: r => .keep (Wk.refl r)
theorem Wk.names {r r' : Rho} (h : Wk r r') : r.map (·.1) = r'.map (·.1) := by
  induction h with
  | nil => rfl
  | keep _ ih => simp [ih]
  | drop _ ih => simp [ih]
theorem Wk.get {r r' : Rho} (h : Wk r r') {x : Str} {v : AV} (hm : (x, some v) ∈ r) : (x, some v) ∈ r' := by
  induction h with
  | nil => exact hm
  | keep _ ih =>
    rcases List.mem_cons.mp hm with rfl | hm
    · exact List.mem_cons_self
    · exact List.mem_cons_of_mem _ (ih hm)
  | drop _ ih =>
    rcases List.mem_cons.mp hm with e | hm
    · injection e with _ e; cases e
    · exact List.mem_cons_of_mem _ (ih hm)
theorem St.wk {ρ' : Rho} {s : Shared} (h : St c ρ' σ s) (hw : Wk ρ ρ') : St c ρ σ s := by
  refine ⟨h.inv, hw.names ▸ h.fr, ?_, fun x a hk ha => ?_⟩
  · obtain ⟨m, h1, h2⟩ := h.ns
    exact ⟨m, h1, fun x v hx hk => h2 x v (hw.get hx) hk⟩
  · obtain ⟨vo, h1, h2⟩ := h.cl x a hk ha
    exact ⟨vo, h1, fun v hx => h2 v (hw.get hx)⟩

/-- the same frame, more hidden -/
structure Same (c c' : Cx g) : Prop where
  A : c'.A = c.A
  env : c'.env = c.env
  sc : c'.sc = c.sc
  fn : c'.isFn = c.isFn

/-- the walker's address added to what is hidden -/
theorem enter_le {h h' : Heap} {own : List Addr} {I : Addr} {n : Nat} (hk : ∀ b o, h.get? b = some o → h'.get? b = some o) (hI : h.objs.size ≤ I) : (fz h own σ).le (fz h' (I :: own) σ) := fun b o e => by
  obtain ⟨e1, e2, e3⟩ := fz_eq.mp e
  refine fz_eq.mpr ⟨e1, fun hm => ?_, hk b o e3⟩
  rcases List.mem_cons.mp hm with rfl | hm
  · exact absurd (Heap.lt_size e3) (Nat.not_lt.mpr hI)
  · exact e2 hm
theorem leave_le {h : Heap} {own : List Addr} {I : Addr} : (fz h (I :: own) σ).le (fz h own σ) := fun b o e => by
  obtain ⟨e1, e2, e3⟩ := fz_eq.mp e
  exact fz_eq.mpr ⟨e1, fun hm => e2 (List.mem_cons_of_mem _ hm), e3⟩
theorem Inv.enter {w : World} {H₀ : Heap} {own : List Addr} {s : Shared} (i : Inv w H₀ own σ s) {h' : Heap} {tk : Nat} {I : Addr} (hk : ∀ b o, s.heap.get? b = some o → h'.get? b = some o) (hI : s.heap.objs.size ≤ I)
    (hl : ∃ o, h'.get? I = some o) : Inv w H₀ (I :: own) σ { s with heap := h', toks := tk } := by
  have hF := enter_le (σ := σ) (own := own) (n := 0) hk hI
  refine ⟨fun b o e => hF b o (i.keep b o e), fun a y e => (i.objs a y e).mono hF fun o e => hk a o e, fun a ha => ?_, fun a ha => ?_⟩
  · rcases List.mem_cons.mp ha with rfl | ha
    · exact (i.fresh hI).1
    · exact i.off a ha
  · rcases List.mem_cons.mp ha with rfl | ha
    · exact hl
    · obtain ⟨o, ho⟩ := i.live a ha; exact ⟨o, hk a o ho⟩
theorem Inv.leave {w : World} {H₀ : Heap} {own : List Addr} {s : Shared} {I : Addr} (i : Inv w H₀ (I :: own) σ s) : Inv w H₀ own σ s :=
  ⟨fun b o e => leave_le b o (i.keep b o e), fun a y e => (i.objs a y e).mono leave_le fun _ e => e, fun a ha => i.off a (List.mem_cons_of_mem _ ha), fun a ha => i.live a (List.mem_cons_of_mem _ ha)⟩

theorem Frame.enter {c c' : Cx g} {ns : List Str} {I : Addr} (f : Frame c ns) (hs : Same c c') (ho : c'.own = I :: c.own) (hh : c'.hid = I :: c.hid) (hI : I ∉ c.own) : Frame c' ns := by
  obtain ⟨hA, hE, hS, hF⟩ := hs
  refine ⟨by rw [hE, hS]; exact f.sc, fun h x a ha => ?_, by rw [hE]; exact f.kind, by rw [hE]; exact f.glob, by rw [hE]; exact f.blt, by rw [hE, ho]; exact List.mem_cons_of_mem _ f.loc, ?_, ?_, ?_, by rw [hE, hF]; exact f.apart, ?_, f.nodup⟩
  · rw [hE] at ha
    rw [hh]
    intro hm
    rcases List.mem_cons.mp hm with rfl | hm
    · exact hI (f.cells x a ha).1
    · exact f.wr (hF ▸ h) x a ha hm
  · rw [hE, hh]
    intro hm
    rcases List.mem_cons.mp hm with e | hm
    · exact hI (e ▸ f.loc)
    · exact f.loc' hm
  · rw [hh, ho]
    intro a ha
    rcases List.mem_cons.mp ha with rfl | ha
    · exact List.mem_cons_self
    · exact List.mem_cons_of_mem _ (f.sub a ha)
  · rw [hE, ho]
    intro x a ha
    exact ⟨List.mem_cons_of_mem _ (f.cells x a ha).1, (f.cells x a ha).2⟩
  · rw [hE, hS]; exact f.kinds

theorem St.enter {c c' : Cx g} {s : Shared} {h' : Heap} {tk : Nat} {I : Addr} (x : St c ρ σ s) (hs : Same c c') (ho : c'.own = I :: c.own) (hh : c'.hid = I :: c.hid) (hk : ∀ b o, s.heap.get? b = some o → h'.get? b = some o) (hI : s.heap.objs.size ≤ I)
    (hl : ∃ o, h'.get? I = some o) : St c' ρ σ { s with heap := h', toks := tk } := by
  have hF : (c.F σ s).le (fz h' c'.own σ) := by rw [ho]; exact enter_le (n := 0) hk hI
  refine ⟨by show Mine.Inv _ _ c'.own _ _; rw [ho]; exact x.inv.enter hk hI hl, x.fr.enter hs ho hh (x.inv.fresh hI).2, ?_, ?_⟩
  · obtain ⟨m, hn, hm⟩ := x.ns
    rw [hs.env, hs.sc]
    refine ⟨m, hn.keeps hk, fun y v hy hky => ?_⟩
    obtain ⟨u, h1, h2⟩ := hm y v hy hky
    exact ⟨u, h1, h2.mono hF⟩
  · rw [hs.env, hs.sc]
    intro y a hky ha
    obtain ⟨vo, h1, h2⟩ := x.cl y a hky ha
    refine ⟨vo, h1.keeps hk, fun v hy => ?_⟩
    obtain ⟨u, h3, h4⟩ := h2 v hy
    exact ⟨u, h3, h4.mono hF⟩
theorem St.leave' {c c' : Cx g} {s : Shared} {I : Addr} {h' : Heap} {tk : Nat} (x : St c' ρ σ s) (hs : Same c c') (ho : c'.own = I :: c.own) (hI : I ∉ c.own) (f : Frame c (ρ.map (·.1)))
    (hk : ∀ b o, b ∉ [I] → s.heap.get? b = some o → h'.get? b = some o) : St c ρ σ { s with heap := h', toks := tk } ∧ (c'.F σ s).le (fz h' c.own σ) := by
  have hk' : ∀ b o, b ≠ I → s.heap.get? b = some o → h'.get? b = some o := fun b o hb => hk b o (by simpa using hb)
  have hF : (c'.F σ s).le (fz h' c.own σ) := by
    show (fz s.heap c'.own σ).le _
    rw [ho]
    intro b o e
    obtain ⟨e1, e2, e3⟩ := fz_eq.mp e
    rw [List.mem_cons, not_or] at e2
    exact fz_eq.mpr ⟨e1, e2.2, hk' b o e2.1 e3⟩
  have hi : Mine.Inv g.w g.H₀ (I :: c.own) σ s := ho ▸ x.inv
  refine ⟨⟨⟨fun b o e => hF b o (x.inv.keep b o e), fun a y e => (x.inv.objs a y e).mono hF fun o e' => hk' a o (by rintro rfl; rw [hi.off a List.mem_cons_self] at e; cases e) e', fun a ha => hi.off a (List.mem_cons_of_mem _ ha), fun a ha => ?_⟩, f, ?_, ?_⟩, hF⟩
  · obtain ⟨o, ho⟩ := hi.live a (List.mem_cons_of_mem _ ha)
    exact ⟨o, hk' a o (by rintro rfl; exact hI ha) ho⟩
  · obtain ⟨m, hn, hm⟩ := x.ns
    rw [hs.env] at hn
    rw [hs.sc] at hm
    refine ⟨m, hn.at' fun o e => hk' _ o (by intro e; exact hI (e ▸ f.loc)) e, fun y v hy hky => ?_⟩
    obtain ⟨u, h1, h2⟩ := hm y v hy hky
    exact ⟨u, h1, h2.mono hF⟩
  · intro y a hky ha
    have hac := (f.cells y a ha).1
    rw [← hs.env] at ha
    rw [← hs.sc] at hky
    obtain ⟨vo, ⟨o, ho, hd⟩, h2⟩ := x.cl y a hky ha
    refine ⟨vo, ⟨o, hk' a o (by rintro rfl; exact hI hac) ho, hd⟩, fun v hy => ?_⟩
    obtain ⟨u, h3, h4⟩ := h2 v hy
    exact ⟨u, h3, h4.mono hF⟩

/-- the walker's own object turned -/
theorem St.turned {s : Shared} {h' : Heap} {tk : Nat} {I : Addr} (x : St c ρ σ s) (hI : I ∈ c.hid) (hk : ∀ b o, b ∉ [I] → s.heap.get? b = some o → h'.get? b = some o) (hl : ∃ o, h'.get? I = some o)
    (hIc : ∀ x a, c.env.cells.lookup x = some a → a ≠ I) : St c ρ σ { s with heap := h', toks := tk } := by
  have hk' : ∀ b o, b ≠ I → s.heap.get? b = some o → h'.get? b = some o := fun b o hb => hk b o (by simpa using hb)
  have hIo := x.fr.sub I hI
  have hF : (c.F σ s).le (fz h' c.own σ) := fun b o e => by
    obtain ⟨e1, e2, e3⟩ := fz_eq.mp e
    exact fz_eq.mpr ⟨e1, e2, hk' b o (by rintro rfl; exact e2 hIo) e3⟩
  refine ⟨⟨fun b o e => hF b o (x.inv.keep b o e), fun a y e => (x.inv.objs a y e).mono hF fun o e' => hk' a o (by rintro rfl; rw [x.inv.off _ hIo] at e; cases e) e', x.inv.off, fun a ha => ?_⟩, x.fr, ?_, ?_⟩
  · by_cases h : a = I
    · subst h; exact hl
    · obtain ⟨o, ho⟩ := x.inv.live a ha; exact ⟨o, hk' a o h ho⟩
  · obtain ⟨m, hn, hm⟩ := x.ns
    refine ⟨m, hn.at' fun o e => hk' _ o (by rintro rfl; exact x.fr.loc' hI) e, fun y v hy hky => ?_⟩
    obtain ⟨u, h1, h2⟩ := hm y v hy hky
    exact ⟨u, h1, h2.mono hF⟩
  · intro y a hky ha
    obtain ⟨vo, ⟨o, ho, hd⟩, h2⟩ := x.cl y a hky ha
    refine ⟨vo, ⟨o, hk' a o (hIc y a ha) ho, hd⟩, fun v hy => ?_⟩
    obtain ⟨u, h3, h4⟩ := h2 v hy
    exact ⟨u, h3, h4.mono hF⟩

/-- a for with a plain name over what can be walked -/
theorem es_for {x : Str} {px : Pos} {iter : Expr} {body : List Stmt} {pos : Pos} {Q : AFl → Rho → Sto → Prop} (J : List AV → Rho → Sto → Prop) (hfn : c.isFn = true)
    (h : ev c ρ iter σ fun y σ₁ => ∃ l, Iter c y l ∧ J l ρ σ₁)
    (turn : ∀ c' : Cx g, Same c c' → ∀ y rest ρ₁ σ₁, J (y :: rest) ρ₁ σ₁ → ∃ ρ₂, Upd x y ρ₁ ρ₂ ∧ es c' ρ₂ (execs body c'.env) σ₁ fun fl ρ' σ' => match fl with
      | .next | .cont => ∃ ρ'', Wk ρ'' ρ' ∧ J rest ρ'' σ'
      | .brk => Q .next ρ' σ'
      | .ret v => Q (.ret v) ρ' σ')
    (done : ∀ ρ₁ σ₁, J [] ρ₁ σ₁ → Q .next ρ₁ σ₁)
    (hs : ∀ x, foldedSetIterable iter c.env x = pure x := by intro _; rfl) : es c ρ (exec (.For (.Name x px) iter body [] pos) c.env) σ Q := fun s st => by
  refine wpAny_For (wpAny_mono (h s st) (fun v s₁ ⟨y, σ₁, i₁, e₁, r₁, l, hit, hJ⟩ => ?_) fun _ _ e => e) hs
  have st₁ := st.ev i₁ e₁
  refine wpAny_mono (hit σ₁ s₁ v i₁ r₁ c.E) (fun it s₂ ⟨I, fp, P, Sx, hI, W, hS, ⟨h₂, tk₂, hs₂⟩, hk, hsz, hlv, hfp, hP⟩ => ?_) fun _ _ e => e
  subst hI
  subst hs₂
  -- the loop's own result and context
  generalize hR : (fun (r : Result) (s' : Shared) => match r with
    | .ok f => ∃ fl ρ' σ', St c ρ' σ' s' ∧ EvS c σ s σ' s' ∧ RepF g.w (c.F σ' s') f fl ∧ Q fl ρ' σ'
    | .error e => cameBackBy g.M c.A c.env c.E e s') = R
  have hRok : ∀ f s', (∃ fl ρ' σ', St c ρ' σ' s' ∧ EvS c σ s σ' s' ∧ RepF g.w (c.F σ' s') f fl ∧ Q fl ρ' σ') → R (.ok f) s' := fun f s' q => by rw [← hR]; exact q
  clear hR
  let c' : Cx g := ⟨c.A, c.env, I :: c.own, I :: c.hid, notedBy g.M c.A c.env fun e s' => R (.error e) s', c.sc, c.isFn⟩
  have same : Same c c' := ⟨rfl, rfl, rfl, rfl⟩
  have hIo : I ∉ c.own := (i₁.fresh hsz).2
  have st₂ : St c' ρ σ₁ { s₁ with heap := h₂, toks := tk₂ } := st₁.enter same rfl rfl hk hsz (hlv 0 _ hS)
  have hF₁ : (c.F σ₁ s₁).le (c'.F σ₁ { s₁ with heap := h₂, toks := tk₂ }) := enter_le (n := 0) hk hsz
  -- what is frozen at the loop's start
  have hfp' : ∀ b ∈ fp, b = I ∨ ∃ o, c'.F σ₁ { s₁ with heap := h₂, toks := tk₂ } b = some o := fun b hb => (hfp b hb).imp id fun ⟨o, ho⟩ => ⟨o, hF₁ b o ho⟩
  generalize hBig : (fun (σ' : Sto) (s' : Shared) => (∃ h' tk, s' = { s₁ with heap := h', toks := tk }) ∧ (c'.F σ₁ { s₁ with heap := h₂, toks := tk₂ }).le (c'.F σ' s') ∧ ∀ a ∈ c.hid, ∀ o, h₂.get? a = some o → s'.heap.get? a = some o) = Big
  have big_of : ∀ {σ' : Sto} {s' : Shared}, ((∃ h' tk, s' = { s₁ with heap := h', toks := tk }) ∧ (c'.F σ₁ { s₁ with heap := h₂, toks := tk₂ }).le (c'.F σ' s') ∧ ∀ a ∈ c.hid, ∀ o, h₂.get? a = some o → s'.heap.get? a = some o) → Big σ' s' := fun h => by rw [← hBig]; exact h
  have of_big : ∀ {σ' : Sto} {s' : Shared}, Big σ' s' → ((∃ h' tk, s' = { s₁ with heap := h', toks := tk }) ∧ (c'.F σ₁ { s₁ with heap := h₂, toks := tk₂ }).le (c'.F σ' s') ∧ ∀ a ∈ c.hid, ∀ o, h₂.get? a = some o → s'.heap.get? a = some o) := fun h => by rw [← hBig] at h; exact h
  clear hBig
  -- leaving
  have out : ∀ {ρ' : Rho} {σ' : Sto} {s' : Shared} {h' : Heap} {tk : Nat} {f : Flow} {fl : AFl}, St c' ρ' σ' s' → Big σ' s' → (∀ b o, b ∉ [I] → s'.heap.get? b = some o → h'.get? b = some o) → RepF g.w (c'.F σ' s') f fl → Q fl ρ' σ' → R (.ok f) { s' with heap := h', toks := tk } := by
    intro ρ' σ' s' h' tk f fl hst hbig hk' hrf hq
    obtain ⟨⟨h3, t3, e3⟩, hgrow, hhid⟩ := of_big hbig
    obtain ⟨hst', hle⟩ := hst.leave' (c := c) (tk := tk) same rfl hIo { st.fr with kinds := hst.fr.kinds, nodup := hst.fr.nodup } hk'
    refine hRok f _ ⟨fl, ρ', σ', hst', ?_, ?_, hq⟩
    · refine ⟨?_, (e₁.grow.trans hF₁).trans (hgrow.trans hle), fun a ha o ho => ?_⟩
      · obtain ⟨h1, t1, e1⟩ := e₁.same
        subst e1
        subst e3
        exact ⟨h', tk, rfl⟩
      · exact hk' a o (by intro hm; exact hIo (List.mem_singleton.mp hm ▸ st.fr.sub a ha)) (hhid a ha o (hk a o (e₁.own a (st.fr.sub a ha) o ho)))
    · cases hrf with
      | next => exact .next
      | brk => exact .brk
      | cont => exact .cont
      | ret hr => exact .ret (hr.mono hle)
  refine codeAny_forLoop (fun n s' => ∃ (j : Nat) (ρ' : Rho) (σ' : Sto), n = l.length + 1 - j ∧ j ≤ l.length ∧ Sx j s'.heap ∧ St c' ρ' σ' s' ∧ Big σ' s' ∧ J (l.drop j) ρ' σ')
    ?_ (l.length + 1) ⟨0, ρ, σ₁, rfl, Nat.zero_le _, hS, st₂, big_of ⟨⟨_, _, rfl⟩, .refl _, fun _ _ _ e => e⟩, by simpa using hJ⟩
  rintro n s' ⟨j, ρ', σ', rfl, hj, hSj, hst, hbig, hJj⟩
  obtain ⟨⟨h6, t6, e6⟩, hgrow, hhid⟩ := of_big hbig
  by_cases hlt : j < l.length
  · refine W.item j s' _ _ hlt hSj fun u h₃ tk₃ hPu hS₃ hk₃ => ?_
    obtain ⟨y', hy', hyr⟩ := hP j u hlt hPu
    have hdrop : l.drop j = y' :: l.drop (j + 1) := by
      rw [List.getElem?_eq_getElem hlt] at hy'
      injection hy' with hy'
      rw [List.drop_eq_getElem_cons hlt, hy']
    rw [hdrop] at hJj
    have hIh : I ∈ c'.hid := List.mem_cons_self
    have hlv₃ : ∃ o, h₃.get? I = some o := hlv _ _ hS₃
    have hIc : ∀ x a, c'.env.cells.lookup x = some a → a ≠ I := fun x a ha e => hIo (e ▸ (st.fr.cells x a ha).1)
    have st₃ : St c' ρ' σ' { s' with heap := h₃, toks := tk₃ } := hst.turned hIh hk₃ hlv₃ hIc
    have le₃ : (c'.F σ' s').le (c'.F σ' { s' with heap := h₃, toks := tk₃ }) := fun b o e => by
      obtain ⟨e1, e2, e3⟩ := fz_eq.mp e
      exact fz_eq.mpr ⟨e1, e2, hk₃ b o (by intro hm; exact e2 (List.mem_singleton.mp hm ▸ List.mem_cons_self)) e3⟩
    obtain ⟨ρ₂, hu, hbody⟩ := turn c' same y' (l.drop (j + 1)) ρ' σ' hJj
    have hyr' : Rep g.w (c'.F σ' { s' with heap := h₃, toks := tk₃ }) u y' := hyr.mono (hF₁.trans (hgrow.trans le₃))
    refine wpAny_assign_Name (store_sound (c := c') (E := c'.E) st₃ hu hfn hyr' fun s₄ st₄ ev₄ => ?_)
    refine wpAny_mono (hbody s₄ st₄) (fun f s₅ ⟨fl, ρ₅, σ₅, st₅, ev₅, rf₅, q₅⟩ => ?_) fun _ _ e => e
    have ev₄₅ := ev₄.trans ev₅
    have big : Big σ₅ s₅ := by
      refine big_of ⟨?_, hgrow.trans (le₃.trans ev₄₅.grow), fun a ha o ho => ?_⟩
      · obtain ⟨h7, t7, e7⟩ := ev₄₅.same
        subst e6
        exact ⟨h7, t7, e7⟩
      · refine ev₄₅.hid a (List.mem_cons_of_mem _ ha) o (hk₃ a o ?_ (hhid a ha o ho))
        intro hm; exact hIo (List.mem_singleton.mp hm ▸ st.fr.sub a ha)
    have hS₅ : Sx (j + 1) s₅.heap := by
      refine W.frame _ _ _ hS₃ fun b hb o ho => ?_
      rcases hfp' b hb with rfl | ⟨o₀, ho₀⟩
      · exact ev₄₅.hid _ List.mem_cons_self o ho
      · have h8 := le₃ b o₀ (hgrow b o₀ ho₀)
        have h9 := (fz_eq.mp h8).2.2
        rw [show ({ s' with heap := h₃, toks := tk₃ } : Shared).heap = h₃ from rfl, ho] at h9
        injection h9 with h9
        subst h9
        exact (fz_eq.mp (ev₄₅.grow b o h8)).2.2
    have go : ∀ ρ'', Wk ρ'' ρ₅ → J (l.drop (j + 1)) ρ'' σ₅ → ∃ m, m < l.length + 1 - j ∧ ∃ (j : Nat) (ρ' : Rho) (σ' : Sto), m = l.length + 1 - j ∧ j ≤ l.length ∧ Sx j s₅.heap ∧ St c' ρ' σ' s₅ ∧ Big σ' s₅ ∧ J (l.drop j) ρ' σ' := fun ρ'' hw hJ' =>
      ⟨l.length + 1 - (j + 1), by omega, j + 1, ρ'', σ₅, rfl, hlt, hS₅, st₅.wk hw, big, hJ'⟩
    have same₅ : s₅ = { s₅ with heap := s₅.heap, toks := s₅.toks } := rfl
    cases rf₅ with
    | next => obtain ⟨ρ'', hw, hJ'⟩ := q₅; exact go ρ'' hw hJ'
    | cont => obtain ⟨ρ'', hw, hJ'⟩ := q₅; exact go ρ'' hw hJ'
    | brk => rw [same₅]; exact out (h' := s₅.heap) (tk := s₅.toks) st₅ big (fun _ _ _ e => e) .next q₅
    | ret hr => rw [same₅]; exact out (h' := s₅.heap) (tk := s₅.toks) st₅ big (fun _ _ _ e => e) (.ret hr) q₅
  · have hjl : j = l.length := by omega
    subst hjl
    refine W.done s' _ _ hSj fun h₃ tk₃ hk₃ => ?_
    refine wpAny_execs_nil (out hst hbig hk₃ .next (done ρ' σ' (by simpa using hJj)))

end Mine

end

section
namespace Mine
open PySem
variable {g : Gx} {c : Cx g} {ρ : Rho} {σ : Sto}

/-! comprehensions -/
def relabN (sc : Scope) : List (Str × NameKind) → List (Str × NameKind)
  | [] => []
  | (n, k) :: r => (if k == .free && sc.kind == .function && sc.names.lookup n == some .cell then (n, .cell) else (n, k)) :: relabN sc r
def relab (scope sc : Scope) : Scope := { scope with names := relabN sc scope.names }
theorem relabel_eq {scope sc : Scope} {env : Env} (h : env.scope = sc) : relabel scope env = relab scope sc := by
  subst h
  unfold relabel relab
  congr 1
  generalize scope.names = l
  induction l with
  | nil => rfl
  | cons p r ih => obtain ⟨n, k⟩ := p; simp only [List.map_cons, relabN, ih]; rfl
def closN (cells : List (Str × Addr)) : List (Str × NameKind) → List (Str × Addr) → List (Str × Addr)
  | [], acc => acc
  | (n, k) :: r, acc => closN cells r (if k == .free then (n, (cells.lookup n).getD 0) :: acc else acc)
theorem closN_free {cells : List (Str × Addr)} {n : Str} {k : NameKind} {a : Addr} {r : List (Str × NameKind)} {acc : List (Str × Addr)} (hk : (k == NameKind.free) = true) (ha : cells.lookup n = some a) : closN cells ((n, k) :: r) acc = closN cells r ((n, a) :: acc) := by
  rw [closN, if_pos hk, ha]; rfl
theorem closN_other {cells : List (Str × Addr)} {n : Str} {k : NameKind} {r : List (Str × NameKind)} {acc : List (Str × Addr)} (hk : ¬ (k == NameKind.free) = true) : closN cells ((n, k) :: r) acc = closN cells r acc := by
  rw [closN, if_neg hk]
theorem closureFor_eq {scope : Scope} {env : Env} (h : ∀ y ∈ scope.names, y.2 = .free → ∃ a, env.cells.lookup y.1 = some a) : closureFor scope env = pure (closN env.cells scope.names []) := by
  have main : ∀ (l : List (Str × NameKind)) (acc : List (Str × Addr)), (∀ y ∈ l, y.2 = .free → ∃ a, env.cells.lookup y.1 = some a) →
      (forIn l acc fun (x : Str × NameKind) (cs : List (Str × Addr)) => (if (x.2 == .free) = true then do let a ← cellOf env x.1; pure (ForInStep.yield ((x.1, a) :: cs)) else pure (ForInStep.yield cs) : Sem (ForInStep (List (Str × Addr))))) = (pure (closN env.cells l acc) : Sem _) := by
    intro l
    induction l with
    | nil => intro acc _; rfl
    | cons p r ih =>
      intro acc hl
      obtain ⟨n, k⟩ := p
      have ihr := fun acc => ih acc fun y hy => hl y (List.mem_cons_of_mem _ hy)
      rw [List.forIn_cons]
      by_cases hk : (k == NameKind.free) = true
      · obtain ⟨a, ha⟩ := hl (n, k) List.mem_cons_self (by simpa using hk)
        simp only [hk, if_true]
        have e : cellOf env n = pure a := by unfold cellOf; rw [show env.cells.lookup n = some a from ha]
        rw [e]
        simp only [pure_bind]
        rw [ihr, closN_free hk ha]
      · simp only [hk]
        simp only [Bool.false_eq_true, if_false]
        rw [closN_other hk]
        exact ihr acc
  have := main scope.names [] h
  unfold closureFor
  simp only [pure_bind, bind_pure] at this ⊢
  exact this
theorem closN_get {cells : List (Str × Addr)} {n : Str} {a : Addr} : ∀ {l : List (Str × NameKind)} {acc : List (Str × Addr)}, (∀ y ∈ l, y.2 = .free → ∃ a, cells.lookup y.1 = some a) → (closN cells l acc).lookup n = some a → cells.lookup n = some a ∨ acc.lookup n = some a
  | [], _, _, h => .inr h
  | (m, k) :: r, acc, hl, h => by
    unfold closN at h
    rcases closN_get (fun y hy => hl y (List.mem_cons_of_mem _ hy)) h with h' | h'
    · exact .inl h'
    clear h
    have h := h'
    clear h'
    by_cases hk0 : True
    · by_cases hk : (k == NameKind.free) = true
      · rw [if_pos hk] at h
        rw [List.lookup_cons] at h
        cases hn : n == m with
        | true =>
          rw [hn] at h
          obtain ⟨b, hb⟩ := hl (m, k) List.mem_cons_self (by simpa using hk)
          have hb' : cells.lookup m = some b := hb
          rw [hb'] at h
          have : n = m := by simpa using hn
          subst this
          left; rw [hb']; exact h
        | false => rw [hn] at h; exact .inr h
      · rw [if_neg hk] at h; exact .inr h
    · exact absurd trivial hk0
theorem closN_has {cells : List (Str × Addr)} {n : Str} : ∀ {l : List (Str × NameKind)} {acc : List (Str × Addr)}, (l.lookup n = some .free ∨ (acc.lookup n).isSome = true) → ((closN cells l acc).lookup n).isSome = true
  | [], _, h => h.elim (fun e => by cases e) id
  | (m, k) :: r, acc, h => by
    unfold closN
    refine closN_has ?_
    rw [List.lookup_cons] at h
    by_cases hk : (k == NameKind.free) = true
    · rw [if_pos hk]
      rw [List.lookup_cons]
      cases hn : n == m with
      | true => exact .inr rfl
      | false => rw [hn] at h; exact h
    · rw [if_neg hk]
      cases hn : n == m with
      | true =>
        rw [hn] at h
        rcases h with h | h
        · injection h with h; rw [h] at hk; exact absurd rfl hk
        · exact .inr h
      | false => rw [hn] at h; exact h
theorem relabN_cell {sc : Scope} {n : Str} : ∀ {l : List (Str × NameKind)}, (∀ y ∈ l, y.2 ≠ .cell) → (relabN sc l).lookup n = some .cell → l.lookup n = some .free ∧ sc.names.lookup n = some .cell
  | [], _, h => by cases h
  | (m, k) :: r, hc, h => by
    unfold relabN at h
    rw [List.lookup_cons]
    by_cases hk : (k == .free && sc.kind == .function && sc.names.lookup m == some .cell) = true
    · rw [if_pos hk, List.lookup_cons] at h
      simp only [Bool.and_eq_true, beq_iff_eq] at hk
      cases hn : n == m with
      | true =>
        have : n = m := by simpa using hn
        subst this
        exact ⟨by rw [hk.1.1], hk.2⟩
      | false => rw [hn] at h; exact relabN_cell (fun y hy => hc y (List.mem_cons_of_mem _ hy)) h
    · rw [if_neg hk, List.lookup_cons] at h
      cases hn : n == m with
      | true => rw [hn] at h; injection h with h; exact absurd h (hc (m, k) List.mem_cons_self)
      | false => rw [hn] at h; exact relabN_cell (fun y hy => hc y (List.mem_cons_of_mem _ hy)) h

/-- what is decided of a comprehension's names once: x its own, fr the free ones -/
def compOk (x : Str) (fr : List Str) (scope sc : Scope) : Bool :=
  (scope.kind == .function) && scope.names.all (fun y => y.2 != .cell && (y.2 != .free || fr.contains y.1) && (y.2 != .local || scope.names.lookup y.1 == some .local)) &&
  (scope.names.lookup x == some .local) && !(x == ("__debug__" : Str)) && decide ((x :: fr).Nodup) &&
  fr.all fun n => (relab scope sc).names.lookup n == some .cell
def evT (c : Cx g) (ρ : Rho) : Option Expr → Sto → (Bool → Sto → Prop) → Prop
  | Option.none, σ, Q => Q true σ
  | some t, σ, Q => evb c ρ t σ Q
theorem evT_sound {t : Option Expr} {Q : Bool → Sto → Prop} (h : evT c ρ t σ Q) : gv c ρ (fun _ a b => a = b) (forIn t.toList true fun e r => if r = true then do let ok ← isTrue e c.env (eval e c.env); pure (ForInStep.yield ok) else pure (ForInStep.yield r)) σ Q := fun s hs => by
  cases t with
  | none => exact wpAny_tests_nil ⟨_, σ, hs.inv, .refl .., rfl, h⟩
  | some t => exact wpAny_tests_one (h s hs)

theorem compOk_facts {x : Str} {fr : List Str} {scope sc : Scope} (h : compOk x fr scope sc = true) : scope.kind = .function ∧ (∀ y ∈ scope.names, y.2 ≠ .cell) ∧ (∀ y ∈ scope.names, y.2 = .free → y.1 ∈ fr) ∧
    (∀ y ∈ scope.names, y.2 = .local → scope.names.lookup y.1 = some .local) ∧ scope.names.lookup x = some .local ∧ (x == ("__debug__" : Str)) = false ∧ (x :: fr).Nodup ∧ ∀ n ∈ fr, (relab scope sc).names.lookup n = some .cell := by
  simp only [compOk, Bool.and_eq_true, Bool.not_eq_true', beq_iff_eq, decide_eq_true_eq, List.all_eq_true, Bool.or_eq_true, bne_iff_ne, ne_eq] at h
  obtain ⟨⟨⟨⟨⟨h1, h2⟩, h3⟩, h4⟩, h5⟩, h6⟩ := h
  refine ⟨h1, fun y hy => (h2 y hy).1.1, fun y hy hf => ?_, fun y hy hf => ?_, h3, h4, h5, h6⟩
  · rcases (h2 y hy).1.2 with q | q
    · exact absurd hf q
    · simpa using q
  · rcases (h2 y hy).2 with q | q
    · exact absurd hf q
    · exact q

/-- the part of the frame that a comprehension sees -/
def FrIn (fr ρ : Rho) : Prop := ∀ p ∈ fr, p.1 ∈ ρ.map (·.1) ∧ ∀ v, p.2 = some v → (p.1, some v) ∈ ρ

theorem comp_core {elt iter : Expr} {x : Str} {px pos : Pos} {t : Option Expr} {scope : Scope} {fr : Rho} {y : AV} {v : Value} {l : List AV} {s : Shared} {RR : Value → Addr → Result → Shared → Prop} {E : Value → Shared → Prop}
    (J : List AV → List AV → Sto → Prop) (hok : compOk x (fr.map (·.1)) scope c.sc = true) (hfr : FrIn fr ρ) (st : St c ρ σ s) (r : Rep g.w (c.F σ s) v y) (hit : Iter c y l) (hJ : J l [] σ) (hsz : l.length ≤ sizeLine)
    (turn : ∀ c' : Cx g, c'.A = c.A → c'.sc = relab scope c.sc → ∀ y rest acc σ₁, J (y :: rest) acc σ₁ → evT c' ((x, some y) :: fr) t σ₁ fun b σ₂ => match b with
      | true => ev c' ((x, some y) :: fr) elt σ₂ fun z σ₃ => J rest (acc ++ [z]) σ₃
      | false => J rest acc σ₂)
    (hRR : ∀ D C l' σ' h' tk m vs n, J [] l' σ' → D ∉ c.own → C ∉ c.own → C ≠ D → s.heap.objs.size ≤ D → s.heap.objs.size ≤ C → h'.get? D = some (lstO vs n) →
      RepL g.w (fz h' (C :: D :: c.own) σ') vs l' → h'.Ns C m → (c.F σ s).le (fz h' (C :: D :: c.own) σ') → (∀ a ∈ c.own, ∀ o, s.heap.get? a = some o → h'.get? a = some o) →
      Mine.Inv g.w g.H₀ (C :: D :: c.own) σ' { s with heap := h', toks := tk } → l'.length ≤ l.length → RR (.ref D) C (.ok .next) { s with heap := h', toks := tk }) :
    wpAny g.M c.A (pyIter v) (fun it s₂ => wpAny g.M c.A (newList []) (fun acc s₃ => wpAny g.M c.A (newFunctionEnv scope c.env.globals (closN c.env.cells scope.names []) [] c.env.qual none .none (some c.env)) (fun cenv s₄ =>
      codeAny g.M c.A (.compStart (.ListComp elt [⟨.Name x px, iter, t.toList, 0⟩] scope pos) 0 it acc { cenv with scope := relabel scope c.env }) (RR acc cenv.locals) s₄) E s₃) E s₂) E s := by
  obtain ⟨hkind, hcell, hfree, hnames, hx, hdbg, hnd, hfrk⟩ := compOk_facts hok
  refine wpAny_mono (hit σ s v st.inv r E) (fun it s₂ ⟨I, fp, P, Sx, hI, W, hS, ⟨h₂, tk₂, hs₂⟩, hk, hszI, hlv, hfp, hP⟩ => ?_) fun _ _ e => e
  subst hI
  subst hs₂
  refine wpAny_newObj_type (wpAny_newFunctionEnv hcell (by intro y hy; simp at hy) (fun h₁ hns₁ hsb₁ => ?_) hkind)
  dsimp only at hns₁ hsb₁ ⊢
  have hIlt : I < h₂.objs.size := by obtain ⟨o, ho⟩ := hlv 0 _ hS; exact Heap.lt_size ho
  generalize hD : h₂.objs.size = D at hns₁ hsb₁ ⊢
  generalize hH2 : h₂.push { cls := .type "list", dict := none, data := .seq ([] : List Value).toArray } = H2 at hns₁ hsb₁ ⊢
  have hC : H2.objs.size = D + 1 := by rw [← hH2, Heap.size_push, hD]
  generalize hCe : H2.objs.size = C at hns₁ hsb₁ hC ⊢
  have hscR : relabel scope c.env = relab scope c.sc := relabel_eq st.fr.sc
  have hfreeC : ∀ y ∈ scope.names, y.2 = .free → ∃ a, c.env.cells.lookup y.1 = some a := fun y hy hf => by
    obtain ⟨p, hp, e⟩ := List.mem_map.mp (hfree y hy hf)
    have h1 := (hfr p hp).1
    rw [e] at h1
    have hk1 := hfrk y.1 (hfree y hy hf)
    have hk2 := (relabN_cell hcell hk1).2
    rcases (st.fr.kinds y.1 h1).2 with q | ⟨_, q⟩
    · rw [hk2] at q; cases q
    · exact q
  generalize hcl : closN c.env.cells scope.names [] = cl
  have hclget : ∀ n a, cl.lookup n = some a → c.env.cells.lookup n = some a := fun n a h => by
    rw [← hcl] at h
    exact (closN_get hfreeC h).resolve_right (by simp)
  have hclhas : ∀ n, scope.names.lookup n = some .free → ∃ a, cl.lookup n = some a := fun n h => by
    rw [← hcl]
    exact Option.isSome_iff_exists.mp (closN_has (.inl h))
  have hDs : s.heap.objs.size ≤ D := by
    rw [← hD]
    exact Nat.le_trans hszI (Nat.le_of_lt hIlt)
  have hIo : I ∉ c.own := (st.inv.fresh hszI).2
  have hDo : D ∉ c.own := (st.inv.fresh hDs).2
  have hCs : s.heap.objs.size ≤ C := by rw [hC]; exact Nat.le_succ_of_le hDs
  have hCo : C ∉ c.own := (st.inv.fresh hCs).2
  have hCD : C ≠ D := by rw [hC]; exact Nat.ne_of_gt (Nat.lt_succ_self _)
  have hID : I ≠ D := by rw [← hD]; exact Nat.ne_of_lt hIlt
  have hIC : I ≠ C := by rw [hC]; rw [hD] at hIlt; exact Nat.ne_of_lt (Nat.lt_succ_of_lt hIlt)
  have old : ∀ b o, h₂.get? b = some o → h₁.get? b = some o := fun b o e => by
    have hb : b < D := hD ▸ Heap.lt_size e
    exact hsb₁.extBut b o (by rw [hC]; exact Nat.ne_of_lt (Nat.lt_succ_of_lt hb)) (Heap.get?_push_of_some _ (hH2 ▸ Heap.get?_push_of_some _ e))
  have oldS : ∀ b o, s.heap.get? b = some o → h₁.get? b = some o := fun b o e => old b o (hk b o e)
  have hacc₁ : h₁.get? D = some (lstO [] 0) := hsb₁.extBut _ _ (Ne.symm hCD) (Heap.get?_push_of_some _ (hH2 ▸ hD ▸ Heap.get?_push_size _ rfl))
  have hS₁ : Sx 0 h₁ := W.frame _ _ _ hS fun b _ o e => old b o e
  -- the comprehension's own context
  generalize hE' : compEnvC scope cl C c.env = env'
  have he1 : env'.scope = relab scope c.sc := by rw [← hE', ← hscR]; rfl
  have he2 : env'.locals = C := by rw [← hE']; rfl
  have he3 : env'.cells = cl := by rw [← hE']; rfl
  have he4 : env'.globals = mainGlobals := by rw [← hE']; exact st.fr.glob
  have he5 : env'.builtins = builtinsNs := by rw [← hE']; exact st.fr.blt
  show codeAny g.M c.A (.compStart (.ListComp elt [⟨.Name x px, iter, t.toList, 0⟩] scope pos) 0 (.ref I) (.ref D) (compEnvC scope cl C c.env)) (RR (.ref D) C) _
  rw [hE']
  let c' : Cx g := ⟨c.A, env', C :: D :: I :: c.own, D :: I :: c.own, notedBy g.M c.A env' fun e s' => RR (.ref D) C (.error e) s', relab scope c.sc, false⟩
  have hF₁ : (c.F σ s).le (fz h₁ c'.own σ) := fun b o e => by
    obtain ⟨e1, e2, e3⟩ := fz_eq.mp e
    have hb := Heap.lt_size e3
    refine fz_eq.mpr ⟨e1, fun hm => ?_, oldS b o e3⟩
    rcases List.mem_cons.mp hm with q | hm
    · exact absurd hb (q ▸ Nat.not_lt.mpr hCs)
    rcases List.mem_cons.mp hm with q | hm
    · exact absurd hb (q ▸ Nat.not_lt.mpr hDs)
    rcases List.mem_cons.mp hm with q | hm
    · exact absurd hb (q ▸ Nat.not_lt.mpr hszI)
    · exact e2 hm
  have inv₁ : c'.Inv σ { s with heap := h₁, toks := tk₂ + ([] : List (Str × Value)).length } := by
    refine ⟨fun b o e => hF₁ b o (st.inv.keep b o e), fun a z e => (st.inv.objs a z e).mono hF₁ fun o e => oldS a o e, fun a ha => ?_, fun a ha => ?_⟩
    · rcases List.mem_cons.mp ha with rfl | ha
      · exact (st.inv.fresh hCs).1
      rcases List.mem_cons.mp ha with rfl | ha
      · exact (st.inv.fresh hDs).1
      rcases List.mem_cons.mp ha with rfl | ha
      · exact (st.inv.fresh hszI).1
      · exact st.inv.off a ha
    · rcases List.mem_cons.mp ha with rfl | ha
      · obtain ⟨o, _, _, ho, _⟩ := hns₁; exact ⟨o, ho⟩
      rcases List.mem_cons.mp ha with rfl | ha
      · exact ⟨_, hacc₁⟩
      rcases List.mem_cons.mp ha with rfl | ha
      · exact hlv 0 _ hS₁
      · obtain ⟨o, ho⟩ := st.inv.live a ha; exact ⟨o, oldS a o ho⟩
  have fr' : Frame c' (((x, (Option.none : Option AV)) :: fr).map (·.1)) := by
    refine ⟨he1, (fun h => by cases h), ?_, he4, he5, ?_, ?_, fun a ha => List.mem_cons_of_mem _ ha, fun n a ha => ?_, (fun h => by cases h), fun n hn => ?_, ?_⟩
    · show env'.scope.kind = _; rw [he1]; exact hkind
    · show env'.locals ∈ _; rw [he2]; exact List.mem_cons_self
    · show env'.locals ∉ _
      rw [he2]
      simp only [List.mem_cons, not_or, c']
      exact ⟨hCD, Ne.symm hIC, hCo⟩
    · have ha' : cl.lookup n = some a := he3 ▸ ha
      have := (st.fr.cells n a (hclget n a ha')).1
      refine ⟨List.mem_cons_of_mem _ (List.mem_cons_of_mem _ (List.mem_cons_of_mem _ this)), ?_⟩
      show a ≠ env'.locals
      rw [he2]
      rintro rfl
      exact hCo this
    · rcases List.mem_cons.mp hn with rfl | hn
      · refine ⟨hdbg, .inl ?_⟩
        have := lookup_relabel_local (env := c.env) hx
        show (relab scope c.sc).names.lookup _ = _
        rw [← hscR]
        exact this
      · obtain ⟨p, hp, rfl⟩ := List.mem_map.mp hn
        have hk1 := hfrk p.1 hn
        refine ⟨(st.fr.kinds p.1 (hfr p hp).1).1, .inr ⟨hk1, ?_⟩⟩
        show ∃ a, env'.cells.lookup p.1 = some a
        rw [he3]
        exact hclhas p.1 (relabN_cell hcell hk1).1
    · exact hnd
  -- the state at a turn
  have mkSt : ∀ {σ' : Sto} {s' : Shared} {m : Str → Option Value} {u : Value} {z : AV}, c'.Inv σ' s' → s'.heap.Ns C m → m x = some u → Rep g.w (c'.F σ' s') u z → (c.F σ s).le (c'.F σ' s') → (∀ a ∈ c.own, ∀ o, s.heap.get? a = some o → s'.heap.get? a = some o) →
      St c' ((x, some z) :: fr) σ' s' := by
    intro σ' s' m u z hi hn hm hz hle hown
    refine ⟨hi, fr', ⟨m, by show s'.heap.Ns env'.locals m; rw [he2]; exact hn, fun n w' hw hkn => ?_⟩, fun n a hkn ha => ?_⟩
    · rcases List.mem_cons.mp hw with e | hw
      · injection e with e1 e2
        injection e2 with e2
        subst e1; subst e2
        exact ⟨u, hm, hz⟩
      · have := hfrk n (List.mem_map.mpr ⟨_, hw, rfl⟩)
        have hkn' : (relab scope c.sc).names.lookup n = some .local := hkn
        rw [this] at hkn'; cases hkn'
    · have ha' : cl.lookup n = some a := he3 ▸ ha
      have hkn' : (relab scope c.sc).names.lookup n = some .cell := hkn
      have hcn := hclget n a ha'
      obtain ⟨vo, ⟨o, ho, hd⟩, hv⟩ := st.cl n a (relabN_cell hcell hkn').2 hcn
      refine ⟨vo, ⟨o, hown a (st.fr.cells n a hcn).1 o ho, hd⟩, fun w' hw => ?_⟩
      rcases List.mem_cons.mp hw with e | hw
      · injection e with e1 e2
        subst e1
        have := lookup_relabel_local (env := c.env) hx
        have h' : (relabel scope c.env).names.lookup n = some .cell := hscR ▸ hkn'
        rw [show (relabel scope c.env).names.lookup n = some .local from this] at h'; cases h'
      · obtain ⟨u', e1, e2⟩ := hv w' ((hfr _ hw).2 w' rfl)
        exact ⟨u', e1, e2.mono hle⟩
  have loop : codeAny g.M c.A (.compLoop (.ListComp elt [⟨.Name x px, iter, t.toList, 0⟩] scope pos) 0 (.ref I) (.ref D) env') (RR (.ref D) C) { s with heap := h₁, toks := tk₂ + ([] : List (Str × Value)).length } := by
    refine codeAny_compLoop_tests (fun k s' => ∃ (j : Nat) (acc : List AV) (σ' : Sto) (vs : List Value) (n : Nat) (h' : Heap) (tk : Nat) (m : Str → Option Value), s' = { s with heap := h', toks := tk } ∧ k = l.length + 1 - j ∧ j ≤ l.length ∧ Sx j h' ∧ h'.get? D = some (lstO vs n) ∧
      c'.Inv σ' s' ∧ h'.Ns C m ∧ RepL g.w (c'.F σ' s') vs acc ∧ (c.F σ s).le (c'.F σ' s') ∧ (∀ a ∈ c.own, ∀ o, s.heap.get? a = some o → h'.get? a = some o) ∧ J (l.drop j) acc σ' ∧ acc.length ≤ j)
      ?_ (l.length + 1) ⟨0, [], σ, [], 0, h₁, _, _, rfl, rfl, Nat.zero_le _, hS₁, hacc₁, inv₁, hns₁, .nil, hF₁, fun a _ o e => oldS a o e, by simpa using hJ, Nat.le_refl _⟩
    rintro k s' ⟨j, acc, σ', vs, n, h', tk, m, rfl, rfl, hj, hSj, hDj, hi, hn, hvs, hle, hown, hJj, hlen⟩
    by_cases hlt : j < l.length
    · refine W.item j _ _ _ hlt hSj fun u h₃ tk₃ hPu hS₃ hk₃ => ?_
      have hk₃' : ∀ b o, b ≠ I → h'.get? b = some o → h₃.get? b = some o := fun b o hb => hk₃ b o (by simpa using hb)
      obtain ⟨y', hy', hyr⟩ := hP j u hlt hPu
      have hdrop : l.drop j = y' :: l.drop (j + 1) := by
        rw [List.getElem?_eq_getElem hlt] at hy'
        injection hy' with hy'
        rw [List.drop_eq_getElem_cons hlt, hy']
      rw [hdrop] at hJj
      -- the walker turned
      have le₃ : (fz h' c'.own σ').le (fz h₃ c'.own σ') := fun b o e => by
        obtain ⟨e1, e2, e3⟩ := fz_eq.mp e
        exact fz_eq.mpr ⟨e1, e2, hk₃' b o (by rintro rfl; exact e2 (List.mem_cons_of_mem _ (List.mem_cons_of_mem _ List.mem_cons_self))) e3⟩
      have hIin : I ∈ c'.own := List.mem_cons_of_mem _ (List.mem_cons_of_mem _ List.mem_cons_self)
      have inv₃ : c'.Inv σ' { s with heap := h₃, toks := tk₃ } := by
        refine ⟨fun b o e => le₃ b o (hi.keep b o e), fun a z e => (hi.objs a z e).mono le₃ fun o e' => hk₃' a o (by rintro rfl; rw [hi.off _ hIin] at e; cases e) e', hi.off, fun a ha => ?_⟩
        by_cases hq : a = I
        · subst hq; exact hlv _ _ hS₃
        · obtain ⟨o, ho⟩ := hi.live a ha; exact ⟨o, hk₃' a o hq ho⟩
      have hn₃ : h₃.Ns C m := hn.at' fun o e => hk₃' _ o (Ne.symm hIC) e
      have hlocal : env'.kindOf x = some .local := by
        unfold Env.kindOf
        rw [he1, ← hscR]
        exact lookup_relabel_local (env := c.env) hx
      have hp : (env'.scope.kind == .class || (env'.scope.kind == .module && env'.locals != env'.globals)) = false := by
        rw [he1, show (relab scope c.sc).kind = .function from hkind]; rfl
      refine wpAny_assign_Name (wpAny_storeName_local hlocal (he2 ▸ hn₃) (fun h₄ hn₄ hs₄ => ?_) hp)
      rw [he2] at hn₄ hs₄
      have hCin : C ∈ c'.own := List.mem_cons_self
      have hF₄ : fz h₄ c'.own σ' = fz h₃ c'.own σ' := fz_sameBut hCin hs₄
      have inv₄ : c'.Inv σ' { s with heap := h₄, toks := tk₃ + 1 } := inv₃.sameBut (t := tk₃ + 1) hCin hs₄ (let ⟨o, _, _, ho, _⟩ := hn₄; ⟨o, ho⟩)
      have le₄ : (c.F σ s).le (fz h₄ c'.own σ') := by rw [hF₄]; exact hle.trans le₃
      have own₄ : ∀ a ∈ c.own, ∀ o, s.heap.get? a = some o → h₄.get? a = some o := fun a ha o ho => (hs₄.2 a (by rintro rfl; exact hCo ha)).trans (hk₃' a o (by rintro rfl; exact hIo ha) (hown a ha o ho))
      have hD₄ : h₄.get? D = some (lstO vs n) := (hs₄.2 D (Ne.symm hCD)).trans (hk₃' D _ (Ne.symm hID) hDj)
      have hS₄ : Sx (j + 1) h₄ := by
        refine W.frame _ _ _ hS₃ fun b hb o ho => (hs₄.2 b ?_).trans ho
        rcases hfp b hb with rfl | ⟨o₀, ho₀⟩
        · exact hIC
        · have := Heap.lt_size (fz_eq.mp ho₀).2.2
          exact fun e => absurd this (e ▸ Nat.not_lt.mpr hCs)
      have hvs₄ : RepL g.w (fz h₄ c'.own σ') vs acc := by rw [hF₄]; exact hvs.mono le₃
      have st₄ : St c' ((x, some y') :: fr) σ' { s with heap := h₄, toks := tk₃ + 1 } := mkSt inv₄ hn₄ (if_pos rfl) (hyr.mono le₄) le₄ own₄
      have hturn := turn c' rfl rfl y' (l.drop (j + 1)) acc σ' hJj
      refine wpAny_mono (evT_sound hturn _ st₄) (fun b s₅ ⟨b', σ₅, i₅, e₅, hbb, q₅⟩ => ?_) fun _ _ e => e
      subst hbb
      obtain ⟨h₅, tk₅, e5⟩ := e₅.same
      subst e5
      have hgl₅ : (fz h₄ c'.own σ').le (fz h₅ c'.own σ₅) := e₅.grow
      have hown₅ : ∀ a ∈ c'.own, ∀ o, h₄.get? a = some o → h₅.get? a = some o := e₅.own
      have hD₅ := hown₅ D (List.mem_cons_of_mem _ List.mem_cons_self) _ hD₄
      -- a turn's end
      have fin : ∀ {σ₆ : Sto} {h₆ : Heap} {tk₆ : Nat}, c'.Inv σ₆ { s with heap := h₆, toks := tk₆ } → (fz h₅ c'.own σ₅).le (fz h₆ c'.own σ₆) → (∀ a ∈ c'.own, a ≠ D → ∀ o, h₅.get? a = some o → h₆.get? a = some o) →
          ∀ acc' vs' n', h₆.get? D = some (lstO vs' n') → RepL g.w (fz h₆ c'.own σ₆) vs' acc' → J (l.drop (j + 1)) acc' σ₆ → acc'.length ≤ j + 1 →
          ∃ mm, mm < l.length + 1 - j ∧ ∃ (j : Nat) (acc : List AV) (σ' : Sto) (vs : List Value) (n : Nat) (h' : Heap) (tk : Nat) (m : Str → Option Value), ({ s with heap := h₆, toks := tk₆ } : Shared) = { s with heap := h', toks := tk } ∧ mm = l.length + 1 - j ∧ j ≤ l.length ∧ Sx j h' ∧ h'.get? D = some (lstO vs n) ∧
            c'.Inv σ' { s with heap := h₆, toks := tk₆ } ∧ h'.Ns C m ∧ RepL g.w (c'.F σ' { s with heap := h₆, toks := tk₆ }) vs acc ∧ (c.F σ s).le (c'.F σ' { s with heap := h₆, toks := tk₆ }) ∧ (∀ a ∈ c.own, ∀ o, s.heap.get? a = some o → h'.get? a = some o) ∧ J (l.drop j) acc σ' ∧ acc.length ≤ j := by
        intro σ₆ h₆ tk₆ i₆ g₆ o₆ acc' vs' n' hD₆ hvs₆ hJ₆ hl₆
        have back : ∀ a ∈ c'.own, a ≠ D → ∀ o, h₄.get? a = some o → h₆.get? a = some o := fun a ha hne o ho => o₆ a ha hne o (hown₅ a ha o ho)
        refine ⟨l.length + 1 - (j + 1), by omega, j + 1, acc', σ₆, vs', n', h₆, tk₆, _, rfl, rfl, hlt, ?_, hD₆, i₆, hn₄.at' (back C hCin hCD), hvs₆, le₄.trans (hgl₅.trans g₆), fun a ha o ho => ?_, hJ₆, hl₆⟩
        · refine W.frame _ _ _ hS₄ fun b hb o ho => ?_
          rcases hfp b hb with rfl | ⟨o₀, ho₀⟩
          · exact back _ hIin hID o ho
          · have h7 := le₄ b o₀ ho₀
            have h8 := (fz_eq.mp h7).2.2
            rw [ho] at h8
            injection h8 with h8
            subst h8
            exact (fz_eq.mp (g₆ b o (hgl₅ b o h7))).2.2
        · exact back a (List.mem_cons_of_mem _ (List.mem_cons_of_mem _ (List.mem_cons_of_mem _ ha))) (by rintro rfl; exact hDo ha) o (own₄ a ha o ho)
      cases b with
      | false =>
        rw [if_neg Bool.false_ne_true]
        exact fin i₅ (.refl _) (fun _ _ _ _ e => e) acc vs n hD₅ (hvs₄.mono hgl₅) q₅ (by omega)
      | true =>
        rw [if_pos rfl]
        have st₅ : St c' ((x, some y') :: fr) σ₅ { s with heap := h₅, toks := tk₅ } := st₄.ev i₅ e₅
        refine wpAny_mono (q₅ _ st₅) (fun z s₆ ⟨z', σ₆, i₆, e₆, r₆, q₆⟩ => ?_) fun _ _ e => e
        obtain ⟨h₆, tk₆, e6⟩ := e₆.same
        subst e6
        have hgl₆ : (fz h₅ c'.own σ₅).le (fz h₆ c'.own σ₆) := e₆.grow
        have hown₆ : ∀ a ∈ c'.own, ∀ o, h₅.get? a = some o → h₆.get? a = some o := e₆.own
        have hDin : D ∈ c'.own := List.mem_cons_of_mem _ List.mem_cons_self
        have hD₆ : h₆.PlainList D vs.toArray := ⟨n, hown₆ D hDin _ hD₅⟩
        have hvlen : vs.length = acc.length := hvs.length
        refine wpAny_list_append_plain hD₆ (fun h₇ hp₇ hs₇ => ?_) (by rw [List.size_toArray]; omega)
        have hF₇ : fz h₇ c'.own σ₆ = fz h₆ c'.own σ₆ := fz_sameBut hDin hs₇
        obtain ⟨n₇, hn₇⟩ := hp₇
        have hD₇ : h₇.get? D = some (lstO (vs ++ [z]) n₇) := by rw [hn₇]; simp
        refine fin (h₆ := h₇) (tk₆ := tk₆) (i₆.sameBut (t := tk₆) hDin hs₇ ⟨_, hD₇⟩) ?_ (fun a ha hne o ho => (hs₇.2 a hne).trans (hown₆ a ha o ho)) (acc ++ [z']) (vs ++ [z]) n₇ hD₇ ?_ q₆ (by rw [List.length_append, List.length_singleton]; omega)
        · rw [hF₇]; exact hgl₆
        · rw [hF₇]
          exact ((hvs₄.mono hgl₅).mono hgl₆).append (.cons r₆ .nil)
    · have hjl : j = l.length := by omega
      subst hjl
      refine W.done _ _ _ hSj fun h₃ tk₃ hk₃ => ?_
      have hk₃' : ∀ b o, b ≠ I → h'.get? b = some o → h₃.get? b = some o := fun b o hb => hk₃ b o (by simpa using hb)
      have le₃ : (fz h' c'.own σ').le (fz h₃ (C :: D :: c.own) σ') := fun b o e => by
        obtain ⟨e1, e2, e3⟩ := fz_eq.mp e
        simp only [c', List.mem_cons, not_or] at e2
        refine fz_eq.mpr ⟨e1, ?_, hk₃' b o e2.2.2.1 e3⟩
        simp only [List.mem_cons, not_or]
        exact ⟨e2.1, e2.2.1, e2.2.2.2⟩
      have sub : ∀ a ∈ C :: D :: c.own, a ∈ c'.own ∧ a ≠ I := fun a ha => by
        rcases List.mem_cons.mp ha with rfl | ha
        · exact ⟨List.mem_cons_self, Ne.symm hIC⟩
        rcases List.mem_cons.mp ha with rfl | ha
        · exact ⟨List.mem_cons_of_mem _ List.mem_cons_self, Ne.symm hID⟩
        · exact ⟨List.mem_cons_of_mem _ (List.mem_cons_of_mem _ (List.mem_cons_of_mem _ ha)), by rintro rfl; exact hIo ha⟩
      have hIin : I ∈ c'.own := List.mem_cons_of_mem _ (List.mem_cons_of_mem _ List.mem_cons_self)
      refine hRR D C acc σ' h₃ tk₃ m vs n (by simpa using hJj) hDo hCo hCD hDs hCs (hk₃' D _ (Ne.symm hID) hDj) (hvs.mono le₃) (hn.at' fun o e => hk₃' _ o (Ne.symm hIC) e) (hle.trans le₃)
        (fun a ha o ho => hk₃' a o (by rintro rfl; exact hIo ha) (hown a ha o ho)) ⟨fun b o e => le₃ b o (hi.keep b o e), fun a z e => (hi.objs a z e).mono le₃ fun o e' => hk₃' a o (by rintro rfl; rw [hi.off _ hIin] at e; cases e) e', fun a ha => hi.off a (sub a ha).1, fun a ha => ?_⟩ hlen
      obtain ⟨o, ho⟩ := hi.live a (sub a ha).1
      exact ⟨o, hk₃' a o (sub a ha).2 ho⟩
  exact codeAny_compStart_list loop (W.self 0 _ _ _ hS₁ loop)

/-- what a comprehension leaves, its list frozen -/
theorem comp_end {s : Shared} {D C : Addr} {l' : List AV} {σ' : Sto} {h' h'' : Heap} {tk : Nat} {vs : List Value} {n : Nat} (hDo : D ∉ c.own) (hCo : C ∉ c.own) (hCD : C ≠ D) (hDg : h'.get? D = some (lstO vs n))
    (hvs : RepL g.w (fz h' (C :: D :: c.own) σ') vs l') (hle : (c.F σ s).le (fz h' (C :: D :: c.own) σ')) (hown : ∀ a ∈ c.own, ∀ o, s.heap.get? a = some o → h'.get? a = some o)
    (hi : Mine.Inv g.w g.H₀ (C :: D :: c.own) σ' { s with heap := h', toks := tk }) (hs : Heap.SameBut C h' h'') :
    c.Inv σ' { s with heap := h'', toks := tk } ∧ c.Ev σ s σ' { s with heap := h'', toks := tk } ∧ RepL g.w (fz h'' c.own σ') vs l' ∧ h''.get? D = some (lstO vs n) ∧ σ' D = Option.none := by
  have le : (fz h' (C :: D :: c.own) σ').le (fz h'' c.own σ') := fun b o e => by
    obtain ⟨e1, e2, e3⟩ := fz_eq.mp e
    simp only [List.mem_cons, not_or] at e2
    exact fz_eq.mpr ⟨e1, e2.2.2, (hs.2 b e2.1).trans e3⟩
  refine ⟨⟨fun b o e => le b o (hi.keep b o e), fun a z e => (hi.objs a z e).mono le fun o e' => (hs.2 a ?_).trans e', fun a ha => hi.off a (List.mem_cons_of_mem _ (List.mem_cons_of_mem _ ha)), fun a ha => ?_⟩, ⟨⟨_, _, rfl⟩, hle.trans le, fun a ha o ho => (hs.2 a ?_).trans (hown a ha o ho)⟩,
    hvs.mono le, (hs.2 D (Ne.symm hCD)).trans hDg, hi.off D (List.mem_cons_of_mem _ List.mem_cons_self)⟩
  · rintro rfl; rw [hi.off _ List.mem_cons_self] at e; cases e
  · obtain ⟨o, ho⟩ := hi.live a (List.mem_cons_of_mem _ (List.mem_cons_of_mem _ ha))
    exact ⟨o, (hs.2 a (by rintro rfl; exact hCo ha)).trans ho⟩
  · rintro rfl; exact hCo ha

/-- a list by a comprehension, frozen -/
theorem ev_comp {elt iter : Expr} {x : Str} {px pos : Pos} {t : Option Expr} {scope : Scope} {fr : Rho} {Q : AV → Sto → Prop} (J : List AV → List AV → Sto → Prop) (hok : compOk x (fr.map (·.1)) scope c.sc = true) (hfr : FrIn fr ρ)
    (h : ev c ρ iter σ fun y σ₁ => ∃ l, Iter c y l ∧ l.length ≤ sizeLine ∧ J l [] σ₁)
    (turn : ∀ c' : Cx g, c'.A = c.A → c'.sc = relab scope c.sc → ∀ y rest acc σ₁, J (y :: rest) acc σ₁ → evT c' ((x, some y) :: fr) t σ₁ fun b σ₂ => match b with
      | true => ev c' ((x, some y) :: fr) elt σ₂ fun z σ₃ => J rest (acc ++ [z]) σ₃
      | false => J rest acc σ₂)
    (done : ∀ acc σ₁, J [] acc σ₁ → Q (.list acc) σ₁)
    (hs : ∀ x, foldedSetIterable iter c.env x = pure x := by intro _; rfl) : ev c ρ (.ListComp elt [⟨.Name x px, iter, t.toList, 0⟩] scope pos) σ Q := fun s st => by
  obtain ⟨hkind, hcell, hfree, hnames, hx, hdbg, hnd, hfrk⟩ := compOk_facts hok
  have hfreeC : ∀ y ∈ scope.names, y.2 = .free → ∃ a, c.env.cells.lookup y.1 = some a := fun y hy hf => by
    obtain ⟨p, hp, e⟩ := List.mem_map.mp (hfree y hy hf)
    have h1 := (hfr p hp).1
    rw [e] at h1
    have hk2 := (relabN_cell hcell (hfrk y.1 (hfree y hy hf))).2
    rcases (st.fr.kinds y.1 h1).2 with q | ⟨_, q⟩
    · rw [hk2] at q; cases q
    · exact q
  show wpAny _ _ (eval _ _) _ _ _
  rw [eval_ListComp]
  refine wpAny_comprehension_free (use := none) rfl hs (closureFor_eq hfreeC) hkind hnames (wpAny_mono (h s st) (fun v s₁ ⟨y, σ₁, i₁, e₁, r₁, l, hit, hsz, hJ⟩ => ?_) fun _ _ e => e)
  have st₁ := st.ev i₁ e₁
  refine comp_core (RR := fun acc C => compPost g.M c.A c.E none (fun v s' => ∃ x σ', c.Inv σ' s' ∧ c.Ev σ s σ' s' ∧ Rep g.w (c.F σ' s') v x ∧ Q x σ') acc C) J hok hfr st₁ r₁ hit hJ hsz turn ?_
  intro D C l' σ' h' tk m vs n hJ' hDo hCo hCD hDs hCs hDg hvs hn hle hown hi hlen
  refine ⟨m, hn, fun h'' hs'' => ?_⟩
  obtain ⟨i₂, e₂, r₂, d₂, o₂⟩ := comp_end (s := s₁) (tk := tk) hDo hCo hCD hDg hvs hle hown hi hs''
  refine ⟨.list l', σ', i₂, e₁.trans e₂, .list (fz_eq.mpr ⟨o₂, hDo, d₂⟩) r₂, done l' σ' hJ'⟩

end Mine

end

section
namespace Mine
open PySem
variable {g : Gx} {c : Cx g} {ρ : Rho} {σ : Sto}

/-! ints -/
section
variable {a b : Int} {Q : AV → Sto → Prop}
theorem op_add (q : Q (.int (a + b)) σ) : op2 c (binaryOp .Add) (.int a) (.int b) σ Q := fun s x y i r1 r2 => by
  cases r1; cases r2; exact PyProof.Rows.add_int ⟨_, σ, i.toks _, .toks .., .int _ _, q⟩
theorem op_sub (q : Q (.int (a - b)) σ) : op2 c (binaryOp .Sub) (.int a) (.int b) σ Q := fun s x y i r1 r2 => by
  cases r1; cases r2; exact PyProof.Rows.sub_int ⟨_, σ, i.toks _, .toks .., .int _ _, q⟩
theorem op_mul (q : Q (.int (a * b)) σ) (h : (-(2 ^ 64) < a ∧ a < 2 ^ 64) ∨ (-(2 ^ 64) < b ∧ b < 2 ^ 64)) : op2 c (binaryOp .Mult) (.int a) (.int b) σ Q := fun s x y i r1 r2 => by
  cases r1; cases r2
  refine PyProof.Rows.mul_int ⟨_, σ, i.toks _, .toks .., .int _ _, q⟩ ?_
  rcases h with h | h
  · exact IntMulOk.of_left (intBits_le_64 h.1 h.2)
  · exact IntMulOk.of_right (intBits_le_64 h.1 h.2)
theorem op_fdiv (hb : b ≠ 0) (hs : b.natAbs < 1073741824) (q : Q (.int (a.fdiv b)) σ) : op2 c (binaryOp .FloorDiv) (.int a) (.int b) σ Q := fun s x y i r1 r2 => by
  cases r1; cases r2; exact PyProof.Rows.floordiv_int hb ⟨_, σ, i.toks _, .toks .., .int _ _, q⟩ (.inl (PyProof.noPylong_small hs))
theorem op_fmod (hb : b ≠ 0) (q : Q (.int (a.fmod b)) σ) : op2 c (binaryOp .Mod) (.int a) (.int b) σ Q := fun s x y i r1 r2 => by
  cases r1; cases r2; exact PyProof.Rows.mod_int' hb ⟨_, σ, i.toks _, .toks .., .int _ _, q⟩
theorem cmp_lt (q : Q (.bool (decide (a < b))) σ) : op2 c (compareOp .Lt) (.int a) (.int b) σ Q := fun s x y i r1 r2 => by
  cases r1; cases r2; exact PyProof.Rows.lt_int ⟨_, σ, i, .refl .., .bool _, q⟩
theorem cmp_gt (q : Q (.bool (decide (b < a))) σ) : op2 c (compareOp .Gt) (.int a) (.int b) σ Q := fun s x y i r1 r2 => by
  cases r1; cases r2; exact PyProof.Rows.gt_int ⟨_, σ, i, .refl .., .bool _, q⟩
theorem cmp_eq (q : Q (.bool (a == b)) σ) : op2 c (compareOp .Eq) (.int a) (.int b) σ Q := fun s x y i r1 r2 => by
  cases r1; cases r2; exact PyProof.Rows.eq_int ⟨_, σ, i, .refl .., .bool _, q⟩
end

/-! None, strs -/
section
variable {Q : AV → Sto → Prop}
def isNoneA : AV → Bool
  | .none => true
  | .raw v => v == .none
  | _ => false
theorem rep_none {w : World} {F : Fz} {v : Value} {x : AV} (r : Rep w F v x) : (v == Value.none) = isNoneA x := by cases r <;> rfl
theorem cmp_is {x : AV} (q : Q (.bool (isNoneA x)) σ) : op2 c (compareOp .Is) x .none σ Q := fun s u v i r1 r2 => by
  cases r2; exact is_none (by rw [rep_none r1]; exact ⟨_, σ, i, .refl .., .bool _, q⟩)
theorem cmp_isNot {x : AV} (q : Q (.bool (!isNoneA x)) σ) : op2 c (compareOp .IsNot) x .none σ Q := fun s u v i r1 r2 => by
  cases r2; exact isNot_none (by rw [rep_none r1]; exact ⟨_, σ, i, .refl .., .bool _, q⟩)
theorem cmp_eqs {x y : Str} (q : Q (.bool (x == y)) σ) : op2 c (compareOp .Eq) (.str x) (.str y) σ Q := fun s u v i r1 r2 => by
  cases r1; cases r2; exact PyProof.Rows.eq_str ⟨_, σ, i, .refl .., .bool _, q⟩
theorem op_adds {x y : Str} (hz : x.length + y.length ≤ sizeLine) (q : Q (.str (x ++ y)) σ) : op2 c (binaryOp .Add) (.str x) (.str y) σ Q := fun s u v i r1 r2 => by
  cases r1; cases r2; exact PyProof.Rows.add_str (fun t' tk => ⟨_, σ, i.toks _, .toks .., .str _ _, q⟩) hz
end

/-! lists -/
def Seq (σ : Sto) (x : AV) (l : List AV) : Prop := x = .list l ∨ ∃ a, x = .obj a ∧ σ a = some (.lst l)
theorem Seq.list {l : List AV} : Seq σ (.list l) l := .inl rfl
theorem Seq.obj {a : Addr} {l : List AV} (h : σ a = some (.lst l)) : Seq σ (.obj a) l := .inr ⟨a, rfl, h⟩
theorem Seq.heap {x : AV} {l : List AV} {s : Shared} {v : Value} (h : Seq σ x l) (i : c.Inv σ s) (r : Rep g.w (c.F σ s) v x) : ∃ a vs n, v = .ref a ∧ s.heap.get? a = some (lstO vs n) ∧ RepL g.w (c.F σ s) vs l := by
  rcases h with rfl | ⟨a, rfl, ha⟩
  · cases r with
    | list hF hr => exact ⟨_, _, _, rfl, (fz_eq.mp hF).2.2, hr⟩
  · cases r
    obtain ⟨vs, n, h1, h2⟩ := i.objs a _ ha
    exact ⟨a, vs, n, rfl, h1, h2⟩

def Made (Q : AV → Sto → Prop) (l : List AV) (σ : Sto) : Prop := Q (.list l) σ ∨ ∀ a, σ a = Option.none → Q (.obj a) (σ.set a (.lst l))
theorem Sto.set_self {σ : Sto} {a : Addr} {x : AObj} : σ.set a x a = some x := if_pos rfl
theorem Sto.set_ne {σ : Sto} {a b : Addr} {x : AObj} (h : b ≠ a) : σ.set a x b = σ b := if_neg h
theorem fz_set {h : Heap} {own : List Addr} {a : Addr} {x : AObj} (ha : σ a = Option.none) : fz h own (σ.set a x) = fun b => if b = a then Option.none else fz h own σ b := by
  funext b
  by_cases hb : b = a
  · subst hb; simp [fz, Sto.set_self]
  · simp [fz, Sto.set_ne hb, hb]

/-- a new object put into the store -/
theorem store_new {s : Shared} {h' : Heap} {tk : Nat} {D : Addr} {x : AObj} (i : c.Inv σ s) (hk : ∀ b o, s.heap.get? b = some o → h'.get? b = some o) (hD : s.heap.objs.size ≤ D) (hr : ∀ F : Fz, (c.F σ s).le F → ObjRep g.w F h' D x) :
    c.Inv (σ.set D x) { s with heap := h', toks := tk } ∧ c.Ev σ s (σ.set D x) { s with heap := h', toks := tk } := by
  have hn := i.fresh hD
  have le : (c.F σ s).le (fz h' c.own (σ.set D x)) := fun b o e => by
    obtain ⟨e1, e2, e3⟩ := fz_eq.mp e
    have hb : b ≠ D := by rintro rfl; exact absurd (Heap.lt_size e3) (Nat.not_lt.mpr hD)
    exact fz_eq.mpr ⟨(Sto.set_ne hb).trans e1, e2, hk b o e3⟩
  refine ⟨⟨fun b o e => le b o (i.keep b o e), fun a y e => ?_, fun a ha => ?_, fun a ha => let ⟨o, ho⟩ := i.live a ha; ⟨o, hk a o ho⟩⟩, ⟨⟨_, _, rfl⟩, le, fun a _ o e => hk a o e⟩⟩
  · by_cases hb : a = D
    · subst hb
      rw [Sto.set_self] at e
      injection e with e
      subst e
      exact hr _ le
    · rw [Sto.set_ne hb] at e
      exact (i.objs a y e).mono le fun o e => hk a o e
  · rw [Sto.set_ne (by rintro rfl; exact hn.2 ha)]; exact i.off a ha

theorem made_list {s : Shared} {h' : Heap} {tk : Nat} {D : Addr} {vs : List Value} {n : Nat} {l : List AV} {Q : AV → Sto → Prop} (i : c.Inv σ s) (hk : ∀ b o, s.heap.get? b = some o → h'.get? b = some o) (hD : s.heap.objs.size ≤ D) (hg : h'.get? D = some (lstO vs n))
    (r : RepL g.w (c.F σ s) vs l) (q : Made Q l σ) : ∃ x σ', c.Inv σ' { s with heap := h', toks := tk } ∧ c.Ev σ s σ' { s with heap := h', toks := tk } ∧ Rep g.w (c.F σ' { s with heap := h', toks := tk }) (.ref D) x ∧ Q x σ' := by
  have hn := i.fresh hD
  rcases q with q | q
  · exact ⟨.list l, σ, i.keeps hk, .keeps hk, .list (fz_eq.mpr ⟨hn.1, hn.2, hg⟩) (r.mono (keep_fz hk)), q⟩
  · obtain ⟨h1, h2⟩ := store_new (tk := tk) (x := .lst l) i hk hD (fun F hF => ⟨vs, n, hg, r.mono hF⟩)
    exact ⟨.obj D, _, h1, h2, .obj D, q D hn.1⟩

theorem ev_list {elts : List Expr} {pos : Pos} {Q : AV → Sto → Prop} (h : evl c ρ elts σ fun xs σ₁ => xs.length ≤ sizeLine ∧ Made Q xs σ₁) (hp : elts.all noStar = true := by rfl) : ev c ρ (.List elts pos) σ Q := fun s hs => by
  refine wpAny_List ?_
  rw [starEach_plain hp]
  refine wpAny_mono (evl_sound h s hs) (fun vs s₁ ⟨xs, σ₁, i₁, e₁, r₁, hz, q₁⟩ => ⟨r₁.length ▸ hz, ?_⟩) fun _ _ e => e
  obtain ⟨x, σ', a, b, d, e⟩ := made_list (tk := s₁.toks) i₁ (push_keeps _ _) (Nat.le_refl _) (Heap.get?_push_size _ rfl) r₁ q₁
  exact ⟨x, σ', a, e₁.trans b, d, e⟩
theorem ev_tuple {elts : List Expr} {k : Nat} {pos : Pos} {Q : AV → Sto → Prop} (h : evl c ρ elts σ fun xs σ₁ => xs.length ≤ sizeLine ∧ Q (.tup xs) σ₁) (hp : elts.all noStar = true := by rfl) : ev c ρ (.Tuple elts k pos) σ Q := fun s hs => by
  refine wpAny_Tuple ?_
  rw [starEach_plain hp]
  refine wpAny_mono (evl_sound h s hs) (fun vs s₁ ⟨xs, σ₁, i₁, e₁, r₁, hz, q₁⟩ => ⟨r₁.length ▸ hz, ?_⟩) fun _ _ e => e
  have hn := i₁.fresh (Nat.le_refl s₁.heap.objs.size)
  exact ⟨.tup xs, σ₁, i₁.keeps (t := s₁.toks) (push_keeps _ _), e₁.trans (.keeps (t := s₁.toks) (push_keeps _ _)), .tup (fz_eq.mpr ⟨hn.1, hn.2, Heap.get?_push_size _ rfl⟩) (r₁.mono (keep_fz (push_keeps _ _))), q₁⟩

/-! subscripts -/
def subT (c : Cx g) (value slice : Expr) (x y : AV) (σ : Sto) (Q : AV → Sto → Prop) : Prop := ∀ s a b, c.Inv σ s → Rep g.w (c.F σ s) a x → Rep g.w (c.F σ s) b y → pv c σ s (PyProof.Rows.subscriptTail value slice a b) Q
theorem ev_sub {value slice : Expr} {pos : Pos} {Q : AV → Sto → Prop} (h : ev c ρ value σ fun x σ₁ => ev c ρ slice σ₁ fun y σ₂ => subT c value slice x y σ₂ Q) : ev c ρ (.Subscript value slice pos) σ Q := fun s hs => by
  refine PyProof.Rows.Subscript_ (wpAny_mono (h s hs) (fun a s₁ ⟨x, σ₁, i₁, e₁, r₁, q₁⟩ => ?_) fun _ _ e => e)
  refine wpAny_mono (q₁ s₁ (hs.ev i₁ e₁)) (fun b s₂ ⟨y, σ₂, i₂, e₂, r₂, q₂⟩ => ?_) fun _ _ e => e
  exact wpAny_mono (q₂ s₂ a b i₂ (r₁.mono e₂.grow) r₂) (fun v s₃ ⟨z, σ₃, i₃, e₃, r₃, q₃⟩ => ⟨z, σ₃, i₃, (e₁.trans e₂).trans e₃, r₃, q₃⟩) fun _ _ e => e

/-- the slice is no a:b -/
def noSlice : Expr → Bool
  | .Slice _ _ _ _ => false
  | _ => true
theorem subscripted_plain {slice : Expr} (h : noSlice slice = true) (o i : Value) : subscripted slice false o i = operate [o, i] (getItem o i) := by
  cases slice <;> first | rfl | exact absurd h Bool.false_ne_true
theorem sub_list {value slice : Expr} {x y : AV} {l : List AV} {k : Int} {Q : AV → Sto → Prop} (hx : Seq σ x l) (h0 : 0 ≤ k) (hk : k < 2 ^ 63) (hy : l[k.toNat]? = some y) (q : Q y σ) (hn : noSlice slice = true := by rfl) : subT c value slice x (.int k) σ Q := fun s a b i r1 r2 => by
  obtain ⟨a', vs, n, rfl, hg, hv⟩ := hx.heap i r1
  cases r2
  have hl : s.heap.IsList a' vs.toArray := ⟨_, hg, rfl, n, rfl⟩
  obtain ⟨u, h1, h2⟩ := hv.get hy
  exact PyProof.Rows.tail_any hl.typeIs slot_list_getitem.lookup (wpAny_getItem_list hl h0 hk (by simpa using h1) ⟨y, σ, i, .refl .., h2, q⟩) (subscripted_plain hn _ _)
theorem sub_str {value slice : Expr} {x : Str} {k : Int} {d : Nat} {Q : AV → Sto → Prop} (h0 : 0 ≤ k) (hk : k < 2 ^ 63) (hy : x.cps[k.toNat]? = some d) (q : Q (.str ⟨#[d]⟩) σ) (hn : noSlice slice = true := by rfl) : subT c value slice (.str x) (.int k) σ Q := fun s a b i r1 r2 => by
  cases r1; cases r2
  have hlt : k.toNat < x.length := by
    rcases Nat.lt_or_ge k.toNat x.cps.size with h | h
    · exact h
    · rw [Array.getElem?_eq_none h] at hy; cases hy
  refine PyProof.Rows.tail_any (typeIs_str s x _) PyProof.Rows.slot_str_getitem.lookup (PyProof.Rows.getItem_str ?_ ?_ ⟨_, σ, i.toks _, .toks .., .str _ _, q⟩) (subscripted_plain hn _ _)
  · rw [Bool.or_eq_false_iff]; constructor <;> (rw [decide_eq_false_iff_not]; omega)
  · have e : seqIndex? k x.length = some k.toNat := by
      unfold seqIndex?
      simp only [show ¬ k < 0 by omega, if_false]
      first | (rw [if_pos (by omega)]) | simp; omega
    rw [e]; exact hy

end Mine

end

section
namespace Mine
open PySem
variable {g : Gx} {c : Cx g} {ρ : Rho} {σ : Sto}

/-! calls of built-ins -/
section
variable {Q : AV → Sto → Prop}
theorem cal_len_list {x : AV} {l : List AV} (hx : Seq σ x l) (hz : l.length < 2 ^ 62) (q : Q (.int l.length) σ) : cal c (.builtin "len") [x] σ Q := fun s vs i r => by
  cases r with
  | cons r1 r2 =>
    cases r2
    obtain ⟨a, us, n, rfl, hg, hv⟩ := hx.heap i r1
    have hl : s.heap.IsList a us.toArray := ⟨_, hg, rfl, n, rfl⟩
    have e : us.toArray.size = l.length := by rw [List.size_toArray]; exact hv.length
    exact Calls.call_len_list hl (by omega) ⟨.int l.length, σ, i.toks _, .toks .., by rw [e]; exact .int _ _, q⟩
theorem cal_len_tup {l : List AV} (hz : l.length < 2 ^ 62) (q : Q (.int l.length) σ) : cal c (.builtin "len") [.tup l] σ Q := fun s vs i r => by
  cases r with
  | cons r1 r2 =>
    cases r2
    cases r1 with
    | @tup a us n _ hF hv =>
      have hl : PyProof.Rows.IsTup s.heap a us.toArray := ⟨_, (fz_eq.mp hF).2.2, rfl, n, rfl⟩
      have e : us.toArray.size = l.length := by rw [List.size_toArray]; exact hv.length
      exact PyProof.Rows.len_tuple hl (by omega) ⟨.int l.length, σ, i.toks _, .toks .., by rw [e]; exact .int _ _, q⟩
theorem cal_len_str {x : Str} (hz : x.length < 2 ^ 62) (q : Q (.int x.length) σ) : cal c (.builtin "len") [.str x] σ Q := fun s vs i r => by
  cases r with
  | cons r1 r2 =>
    cases r2; cases r1
    exact PyProof.Rows.len_str (by omega) ⟨_, σ, i.toks _, .toks .., .int _ _, q⟩
theorem cal_range1 {n : Int} (q : Q (.rng 0 n) σ) : cal c (.type "range") [.int n] σ Q := fun s vs i r => by
  cases r with
  | cons r1 r2 =>
    cases r2; cases r1
    have hn := i.fresh (Nat.le_refl s.heap.objs.size)
    exact call_range_1 ⟨_, σ, i.keeps (t := s.toks + 1 + 1) (push_keeps _ _), .keeps (t := s.toks + 1 + 1) (push_keeps _ _), .rng (fz_eq.mpr ⟨hn.1, hn.2, Heap.get?_push_size _ rfl⟩), q⟩
theorem cal_range2 {a b : Int} (q : Q (.rng a b) σ) : cal c (.type "range") [.int a, .int b] σ Q := fun s vs i r => by
  cases r with
  | cons r1 r2 =>
    cases r2 with
    | cons r2 r3 =>
      cases r3; cases r1; cases r2
      have hn := i.fresh (Nat.le_refl s.heap.objs.size)
      exact call_range_2 ⟨_, σ, i.keeps (t := s.toks + 1) (push_keeps _ _), .keeps (t := s.toks + 1) (push_keeps _ _), .rng (fz_eq.mpr ⟨hn.1, hn.2, Heap.get?_push_size _ rfl⟩), q⟩
theorem cal_max {a b : Int} (hh : c.A.handled = none) (q : Q (.int (max a b)) σ) : cal c (.builtin "max") [.int a, .int b] σ Q := fun s vs i r => by
  cases r with
  | cons r1 r2 =>
    cases r2 with
    | cons r2 r3 =>
      cases r3; cases r1; cases r2
      refine max_two_ints hh fun h' tk hk => ⟨.int (max a b), σ, i.keeps hk, .keeps hk, ?_, q⟩
      by_cases h : b > a
      · rw [if_pos h, show max a b = b by omega]; exact .int _ _
      · rw [if_neg h, show max a b = a by omega]; exact .int _ _
theorem cal_list {x : AV} {l : List AV} (hx : Seq σ x l) (hz : l.length ≤ sizeLine) (q : Made Q l σ) : cal c (.type "list") [x] σ Q := fun s vs i r => by
  cases r with
  | cons r1 r2 =>
    cases r2
    obtain ⟨a, us, n, rfl, hg, hv⟩ := hx.heap i r1
    refine call_list_seq a (T := "list") (.inl rfl) hg rfl rfl (fun h' c' hk hn => ?_) (by rw [List.size_toArray, hv.length]; exact hz)
    exact made_list (tk := s.toks) i hk (Nat.le_refl _) hn hv q
theorem cal_isStr {x : Str} (q : Q (.bool true) σ) : cal c (.builtin "isinstance") [.str x, .raw (.type "str")] σ Q := fun s vs i r => by
  cases r with
  | cons r1 r2 =>
    cases r2 with
    | cons r2 r3 =>
      cases r3; cases r1; cases r2
      exact PyProof.Rows.call_isinstance_yes (Tx := "str") (typeIs_str s x _) (by kernel_rfl) (by rw [isSubtype_type]; kernel_rfl) ⟨_, σ, i, .refl .., .bool _, q⟩
end

/-! equality of plain data -/
mutual
def plain : AV → Bool
  | .none => true
  | .bool _ => true
  | .int _ => true
  | .str _ => true
  | .tup l => plainL l
  | _ => false
def plainL : List AV → Bool
  | [] => true
  | x :: r => plain x && plainL r
end
mutual
def eqA : AV → AV → Bool
  | .none, .none => true
  | .bool a, .bool b => a == b
  | .int a, .int b => a == b
  | .str a, .str b => a == b
  | .bool a, .int b => (if a then 1 else 0) == b
  | .int a, .bool b => a == (if b then 1 else 0)
  | .tup a, .tup b => eqL a b
  | _, _ => false
def eqL : List AV → List AV → Bool
  | [], [] => true
  | x :: r, y :: t => eqA x y && eqL r t
  | _, _ => false
end
mutual
def deep : AV → Nat
  | .tup l => deepL l + 1
  | _ => 0
def deepL : List AV → Nat
  | [] => 0
  | x :: r => max (deep x) (deepL r)
end
mutual
theorem eqA_refl : ∀ {x : AV}, plain x = true → eqA x x = true
  | .none, _ => rfl
  | .bool b, _ => by unfold eqA; simp
  | .int b, _ => by unfold eqA; simp
  | .str b, _ => by unfold eqA; simp
  | .tup l, h => by unfold eqA; exact eqL_refl h
  | .list _, h => by cases h
  | .dict _, h => by cases h
  | .rng _ _, h => by cases h
  | .obj _, h => by cases h
  | .raw _, h => by cases h
theorem eqL_refl : ∀ {l : List AV}, plainL l = true → eqL l l = true
  | [], _ => rfl
  | x :: r, h => by
    unfold plainL at h
    rw [Bool.and_eq_true] at h
    unfold eqL
    rw [eqA_refl h.1, eqL_refl h.2]; rfl
end
mutual
theorem Rep.inj {w : World} {F : Fz} : ∀ {v : Value} {x y : AV}, Rep w F v x → plain x = true → Rep w F v y → plain y = true → x = y
  | _, _, _, .none, _, r, p => by cases r <;> first | rfl | cases p
  | _, _, _, .bool _, _, r, p => by cases r <;> first | rfl | cases p
  | _, _, _, .int _ _, _, r, p => by cases r <;> first | rfl | cases p
  | _, _, _, .str _ _, _, r, p => by cases r <;> first | rfl | cases p
  | _, _, _, .tup (vs := vs) h hl, p, r, p' => by
    cases r with
    | @tup _ us k l' h' hl' =>
      rw [h] at h'
      injection h' with h'
      have := congrArg Obj.data h'
      injection this with this
      have hvu : vs = us := by simpa using this
      subst hvu
      rw [RepL.inj hl p hl' p']
    | list _ _ => cases p'
    | dict _ _ _ => cases p'
    | rng _ => cases p'
    | obj _ => cases p'
    | raw _ => cases p'
  | _, _, _, .list _ _, p, _, _ => by cases p
  | _, _, _, .dict _ _ _, p, _, _ => by cases p
  | _, _, _, .rng _, p, _, _ => by cases p
  | _, _, _, .obj _, p, _, _ => by cases p
  | _, _, _, .raw _, p, _, _ => by cases p
theorem RepL.inj {w : World} {F : Fz} : ∀ {vs : List Value} {l l' : List AV}, RepL w F vs l → plainL l = true → RepL w F vs l' → plainL l' = true → l = l'
  | _, _, _, .nil, _, r, _ => by cases r; rfl
  | _, _, _, .cons h r, p, r', p' => by
    cases r' with
    | cons h' t' =>
      unfold plainL at p p'
      rw [Bool.and_eq_true] at p p'
      rw [Rep.inj h p.1 h' p'.1, RepL.inj r p.2 t' p'.2]
end
theorem deepL_get {l : List AV} {x : AV} {i : Nat} (h : l[i]? = some x) : deep x ≤ deepL l := by
  induction l generalizing i with
  | nil => simp at h
  | cons y r ih =>
    unfold deepL
    cases i with
    | zero => simp at h; subst h; omega
    | succ i => have := ih (by simpa using h); omega
theorem plainL_get {l : List AV} {x : AV} {i : Nat} (hp : plainL l = true) (h : l[i]? = some x) : plain x = true := by
  induction l generalizing i with
  | nil => simp at h
  | cons y r ih =>
    unfold plainL at hp
    rw [Bool.and_eq_true] at hp
    cases i with
    | zero => simp at h; subst h; exact hp.1
    | succ i => exact ih hp.2 (by simpa using h)
theorem eqL_all : ∀ (a b : List AV), eqL a b = ((List.range (min a.length b.length)).all (fun j => eqA (a.getD j .none) (b.getD j .none)) && a.length == b.length)
  | [], [] => rfl
  | [], y :: t => by unfold eqL; simp
  | x :: r, [] => by unfold eqL; simp
  | x :: r, y :: t => by
    unfold eqL
    rw [eqL_all r t]
    have e : min (x :: r).length (y :: t).length = min r.length t.length + 1 := by simp only [List.length_cons]; omega
    rw [e, List.range_succ_eq_map, List.all_cons, List.all_map]
    have e2 : ((x :: r).length == (y :: t).length) = (r.length == t.length) := by simp
    rw [e2, Bool.and_assoc]
    rfl

open PySem.SeqAt in
theorem eqAt {w : World} {F : Fz} : ∀ (n : Nat) {A : Around} {s : Shared} {v u : Value} {x y : AV}, deep x ≤ n → Rep w F v x → Rep w F u y → plain x = true → plain y = true → (∀ a o, F a = some o → s.heap.get? a = some o) → A.units + n < cLine → EqAt A s v u (eqA x y) := by
  intro n
  induction n with
  | zero =>
    intro A s v u x y hd r1 r2 p1 p2 hF hu
    cases r1 with
    | tup _ _ => unfold deep at hd; omega
    | list _ _ => cases p1
    | dict _ _ _ => cases p1
    | rng _ => cases p1
    | obj _ => cases p1
    | raw _ => cases p1
    | none =>
      cases r2 with
      | none => exact EqAt.same _
      | bool b => exact EqAt.none_bool b
      | int i t => exact EqAt.none_int i t
      | str x t => exact EqAt.none_str x t
      | @tup a vs m l h hl => exact EqAt.none_tuple (items := vs.toArray) ⟨_, hF _ _ h, rfl, m, rfl⟩ hu
      | list _ _ => cases p2
      | dict _ _ _ => cases p2
      | rng _ => cases p2
      | obj _ => cases p2
      | raw _ => cases p2
    | bool a =>
      cases r2 with
      | none => exact EqAt.bool_none a
      | bool b => exact EqAt.bool_bool a b
      | int i t => exact EqAt.bool_int a i t
      | str x t => exact EqAt.bool_str a x t
      | @tup _ vs m l h hl => exact EqAt.bool_tuple (items := vs.toArray) a ⟨_, hF _ _ h, rfl, m, rfl⟩ hu
      | list _ _ => cases p2
      | dict _ _ _ => cases p2
      | rng _ => cases p2
      | obj _ => cases p2
      | raw _ => cases p2
    | int a t =>
      cases r2 with
      | none => exact EqAt.int_none a t
      | bool b => exact EqAt.int_bool a t b
      | int i t' => exact EqAt.int_int a t i t'
      | str x t' => exact EqAt.int_str a t x t'
      | @tup _ vs m l h hl => exact EqAt.int_tuple (items := vs.toArray) a t ⟨_, hF _ _ h, rfl, m, rfl⟩ hu
      | list _ _ => cases p2
      | dict _ _ _ => cases p2
      | rng _ => cases p2
      | obj _ => cases p2
      | raw _ => cases p2
    | str a t =>
      cases r2 with
      | none => exact EqAt.str_none a t
      | bool b => exact EqAt.str_bool a t b
      | int i t' => exact EqAt.str_int a t i t'
      | str x t' => exact EqAt.str_str a t x t'
      | @tup _ vs m l h hl => exact EqAt.str_tuple (items := vs.toArray) a t ⟨_, hF _ _ h, rfl, m, rfl⟩ hu
      | list _ _ => cases p2
      | dict _ _ _ => cases p2
      | rng _ => cases p2
      | obj _ => cases p2
      | raw _ => cases p2
  | succ n ih =>
    intro A s v u x y hd r1 r2 p1 p2 hF hu
    by_cases hx : deep x ≤ n
    · exact ih hx r1 r2 p1 p2 hF (by omega)
    cases r1 with
    | none => exact absurd (Nat.zero_le _) hx
    | bool _ => exact absurd (Nat.zero_le _) hx
    | int _ _ => exact absurd (Nat.zero_le _) hx
    | str _ _ => exact absurd (Nat.zero_le _) hx
    | list _ _ => cases p1
    | dict _ _ _ => cases p1
    | rng _ => cases p1
    | obj _ => cases p1
    | raw _ => cases p1
    | @tup a vs m l h hl =>
      have ht : s.heap.IsTuple a vs.toArray := ⟨_, hF _ _ h, rfl, m, rfl⟩
      have hu' : A.units < cLine := by omega
      cases r2 with
      | none => exact EqAt.tuple_none ht hu'
      | bool b => exact EqAt.tuple_bool b ht hu'
      | int i t' => exact EqAt.tuple_int i t' ht hu'
      | str x t' => exact EqAt.tuple_str x t' ht hu'
      | list _ _ => cases p2
      | dict _ _ _ => cases p2
      | rng _ => cases p2
      | obj _ => cases p2
      | raw _ => cases p2
      | @tup b us k l' h' hl' =>
        have ht' : s.heap.IsTuple b us.toArray := ⟨_, hF _ _ h', rfl, k, rfl⟩
        have p1' : plainL l = true := p1
        have p2' : plainL l' = true := p2
        have hdl : deepL l ≤ n := by unfold deep at hd; omega
        have items : ∀ j (h1 : j < vs.toArray.size) (h2 : j < us.toArray.size), EqAt A.in1 s vs.toArray[j] us.toArray[j] (eqA (l.getD j .none) (l'.getD j .none)) := by
          intro j h1 h2
          rw [List.size_toArray] at h1 h2
          obtain ⟨x1, e1, q1⟩ := hl.get' (i := j) (v := vs[j]) (List.getElem?_eq_getElem h1)
          obtain ⟨x2, e2, q2⟩ := hl'.get' (i := j) (v := us[j]) (List.getElem?_eq_getElem h2)
          have g1 : l.getD j .none = x1 := by rw [List.getD_eq_getElem?_getD, e1]; rfl
          have g2 : l'.getD j .none = x2 := by rw [List.getD_eq_getElem?_getD, e2]; rfl
          rw [g1, g2]
          have := ih (A := A.in1) (s := s) (Nat.le_trans (deepL_get e1) hdl) q1 q2 (plainL_get p1' e1) (plainL_get p2' e2) hF (by show A.units + 1 + n < cLine; omega)
          simpa using this
        have e : eqA (.tup l) (.tup l') = ((List.range (min vs.toArray.size us.toArray.size)).all (fun j => eqA (l.getD j .none) (l'.getD j .none)) && vs.toArray.size == us.toArray.size) := by
          show eqL l l' = _
          rw [eqL_all]
          simp only [List.size_toArray, hl.length, hl'.length]
        rw [e]
        by_cases hab : a = b
        · subst hab
          rw [h] at h'
          injection h' with h'
          have hvu : vs = us := by
            have := congrArg Obj.data h'
            injection this with this
            simpa using this
          subst hvu
          rw [← e]
          have : eqA (.tup l) (.tup l') = true := by rw [RepL.inj hl p1' hl' p2']; exact eqA_refl (x := .tup l') p2'
          rw [this]
          exact EqAt.same _
        · exact EqAt.of_refs hab (RcAt.tuples ht ht' hu' items)

end Mine

end

section
namespace Mine
open PySem
variable {g : Gx} {c : Cx g} {ρ : Rho} {σ : Sto}

/-! methods of built-in kinds -/
/-- the built-in type of what x is -/
inductive Kind (σ : Sto) : AV → String → Prop
  | list {l : List AV} : Kind σ (.list l) "list"
  | objL {a : Addr} {l : List AV} : σ a = some (.lst l) → Kind σ (.obj a) "list"
  | tup {l : List AV} : Kind σ (.tup l) "tuple"
  | dict {l : List (AV × AV)} : Kind σ (.dict l) "dict"
  | objD {a : Addr} {l : List (AV × AV)} : σ a = some (.dct l) → Kind σ (.obj a) "dict"
  | str {x : Str} : Kind σ (.str x) "str"
theorem Kind.at {x : AV} {T : String} {s : Shared} {v : Value} (h : Kind σ x T) (i : c.Inv σ s) (r : Rep g.w (c.F σ s) v x) : s.TypeIs v T ∧ ∀ a, v = .ref a → ∃ ob, s.heap.get? a = some ob ∧ ob.dict = Option.none := by
  cases h with
  | list =>
    cases r with
    | list h _ => have e := (fz_eq.mp h).2.2; exact ⟨⟨_, e, rfl⟩, fun b hb => by injection hb with hb; subst hb; exact ⟨_, e, rfl⟩⟩
  | objL ha =>
    cases r
    obtain ⟨vs, n, e, _⟩ := i.objs _ _ ha
    exact ⟨⟨_, e, rfl⟩, fun b hb => by injection hb with hb; subst hb; exact ⟨_, e, rfl⟩⟩
  | tup =>
    cases r with
    | tup h _ => have e := (fz_eq.mp h).2.2; exact ⟨⟨_, e, rfl⟩, fun b hb => by injection hb with hb; subst hb; exact ⟨_, e, rfl⟩⟩
  | dict =>
    cases r with
    | dict h _ _ => have e := (fz_eq.mp h).2.2; exact ⟨⟨_, e, rfl⟩, fun b hb => by injection hb with hb; subst hb; exact ⟨_, e, rfl⟩⟩
  | objD ha =>
    cases r
    obtain ⟨vs, n, e, _⟩ := i.objs _ _ ha
    exact ⟨⟨_, e, rfl⟩, fun b hb => by injection hb with hb; subst hb; exact ⟨_, e, rfl⟩⟩
  | str => cases r; exact ⟨typeIs_str s _ _, fun a h => by cases h⟩

theorem ev_meth {o e : Expr} {rest : List Expr} {name : Str} {apos pos : Pos} {T id : String} {Q : AV → Sto → Prop} (pa : PlainAttrs T) (slot : Slot T name id) (hty : typeOf (.builtin id) = pure (.type "method_descriptor"))
    (h : ev c ρ o σ fun x σ₁ => Kind σ₁ x T ∧ evl c ρ (e :: rest) σ₁ fun xs σ₂ => cal c (.builtin id) (x :: xs) σ₂ Q)
    (hbase : attributeBase o name c.env (eval o c.env) = eval o c.env := by rfl) (hline : (apos.endLine == pos.line) = true := by rfl) (hp : (e :: rest).all noStar = true := by rfl) (hfew : decide ((e :: rest).length < 30) = true := by rfl) :
    ev c ρ (.Call (.Attribute o name apos) (e :: rest) [] pos) σ Q := fun s hs => by
  refine wpAny_Call_method hbase ?_ hline pa slot hty (wpAny_mono (h s hs) (fun ov s₁ ⟨x, σ₁, i₁, e₁, r₁, hk, q₁⟩ => ⟨(hk.at i₁ r₁).1, (hk.at i₁ r₁).2, ?_⟩) fun _ _ e => e)
  · rw [starEach_plain hp]
    simp only [Bool.and_eq_true]
    refine ⟨⟨?_, rfl⟩, ?_⟩
    · rw [List.all_map]; simp
    · simpa using hfew
  · have := callWith_any (pos := pos) (first := [ov]) (fx := [x]) (.builtin id) hp (hs.ev i₁ e₁) (.cons r₁ .nil) q₁
    exact wpAny_mono this (fun v s₃ ⟨z, σ₃, i₃, e₃, r₃, q₃⟩ => ⟨z, σ₃, i₃, e₁.trans e₃, r₃, q₃⟩) fun _ _ e => e

/-- an object of the store changed in place -/
theorem store_upd {s : Shared} {h' : Heap} {tk : Nat} {a : Addr} {x y : AObj} (i : c.Inv σ s) (ha : σ a = some x) (hs : Heap.SameBut a s.heap h') (hr : ObjRep g.w (c.F σ s) h' a y) :
    c.Inv (σ.set a y) { s with heap := h', toks := tk } ∧ c.Ev σ s (σ.set a y) { s with heap := h', toks := tk } := by
  have hao : a ∉ c.own := fun hm => by rw [i.off a hm] at ha; cases ha
  have eF : fz h' c.own (σ.set a y) = fz s.heap c.own σ := by
    funext b
    by_cases hb : b = a
    · subst hb; simp [fz, Sto.set_self, ha]
    · simp only [fz, Sto.set_ne hb, hs.2 b hb]
  refine ⟨⟨fun b o e => by show fz h' c.own (σ.set a y) b = _; rw [eF]; exact i.keep b o e, fun b z e => ?_, fun b hb => ?_, fun b hb => ?_⟩, ⟨⟨_, _, rfl⟩, by show (fz s.heap c.own σ).le (fz h' c.own (σ.set a y)); rw [eF]; exact .refl _, fun b hb o e => (hs.2 b (by rintro rfl; exact hao hb)).trans e⟩⟩
  · show ObjRep g.w (fz h' c.own (σ.set a y)) h' b z
    rw [eF]
    by_cases hb : b = a
    · subst hb; rw [Sto.set_self] at e; injection e with e; subst e; exact hr
    · rw [Sto.set_ne hb] at e; exact (i.objs b z e).mono (.refl _) fun o e => (hs.2 b hb).trans e
  · rw [Sto.set_ne (by rintro rfl; exact hao hb)]; exact i.off b hb
  · obtain ⟨o, ho⟩ := i.live b hb; exact ⟨o, (hs.2 b (by rintro rfl; exact hao hb)).trans ho⟩

section
variable {Q : AV → Sto → Prop}
theorem cal_append {a : Addr} {l : List AV} {x : AV} (ha : σ a = some (.lst l)) (hz : l.length ≤ sizeLine) (q : Q .none (σ.set a (.lst (l ++ [x])))) : cal c (.builtin "list.append") [.obj a, x] σ Q := fun s vs i r => by
  cases r with
  | cons r1 r2 =>
    cases r2 with
    | @cons u _ _ _ r2 r3 =>
      cases r3; cases r1
      obtain ⟨us, n, e, hr⟩ := i.objs a _ ha
      refine wpAny_list_append_plain (items := us.toArray) ⟨n, e⟩ (fun h' hp hs => ?_) (by rw [List.size_toArray, hr.length]; exact hz)
      obtain ⟨n', hn'⟩ := hp
      obtain ⟨h1, h2⟩ := store_upd (tk := s.toks) (y := .lst (l ++ [x])) i ha hs ⟨us ++ [u], n', by rw [hn']; simp, hr.append (.cons r2 .nil)⟩
      exact ⟨.none, _, h1, h2, .none, q⟩
/-- by which the items of a list are compared -/
noncomputable def eqV (w : World) (F : Fz) (x : AV) (v : Value) : Bool := @decide (∃ y, Rep w F v y ∧ plain y = true ∧ eqA y x = true) (Classical.propDecidable _)
theorem eqV_of {w : World} {F : Fz} {x y : AV} {v : Value} (r : Rep w F v y) (p : plain y = true) : eqV w F x v = eqA y x := by
  unfold eqV
  by_cases h : eqA y x = true
  · rw [h]; exact @decide_eq_true _ (Classical.propDecidable _) ⟨y, r, p, h⟩
  · have h' : eqA y x = false := by simpa using h
    rw [h']
    refine @decide_eq_false _ (Classical.propDecidable _) ?_
    rintro ⟨z, r', p', h2⟩
    rw [Rep.inj r' p' r p] at h2
    exact h h2
theorem any_eqV {w : World} {F : Fz} {x : AV} : ∀ {vs : List Value} {l : List AV}, RepL w F vs l → plainL l = true → vs.any (eqV w F x) = l.any (eqA · x)
  | _, _, .nil, _ => rfl
  | _, _, .cons h r, p => by
    unfold plainL at p
    rw [Bool.and_eq_true] at p
    rw [List.any_cons, List.any_cons, eqV_of h p.1, any_eqV r p.2]
theorem count_eqV {w : World} {F : Fz} {x : AV} : ∀ {vs : List Value} {l : List AV}, RepL w F vs l → plainL l = true → vs.countP (eqV w F x) = l.countP (eqA · x)
  | _, _, .nil, _ => rfl
  | _, _, .cons h r, p => by
    unfold plainL at p
    rw [Bool.and_eq_true] at p
    rw [List.countP_cons, List.countP_cons, eqV_of h p.1, count_eqV r p.2]
theorem plainL_mem {l : List AV} {x : AV} (hp : plainL l = true) (h : x ∈ l) : plain x = true := by
  obtain ⟨i, hi⟩ := List.mem_iff_getElem?.mp h
  exact plainL_get hp hi
theorem fz_sub {s : Shared} : ∀ a o, c.F σ s a = some o → s.heap.get? a = some o := fun a o h => (fz_eq.mp h).2.2
/-- the items of a represented list against x -/
theorem items_eq {n : Nat} {s : Shared} {vs : List Value} {l : List AV} {u : Value} {x : AV} {A : Around} (hr : RepL g.w (c.F σ s) vs l) (pl : plainL l = true) (dl : deepL l ≤ n) (ru : Rep g.w (c.F σ s) u x) (px : plain x = true) (hu : A.units + n < cLine) :
    ∀ y, y ∈ vs.toArray → PySem.SeqAt.EqAt A s y u (eqV g.w (c.F σ s) x y) := by
  intro y hy
  obtain ⟨i, hi⟩ := List.mem_iff_getElem?.mp (by simpa using hy)
  obtain ⟨z, hz, rz⟩ := hr.get' hi
  rw [eqV_of rz (plainL_get pl hz)]
  exact eqAt n (Nat.le_trans (deepL_get hz) dl) rz ru (plainL_get pl hz) px fz_sub hu
theorem cal_count {x y : AV} {l : List AV} (hx : Seq σ x l) (pl : plainL l = true) (dl : deepL l ≤ 4) (py : plain y = true) (hu : c.A.units + 8 < cLine) (q : Q (.int (l.countP (eqA · y) : Nat)) σ) : cal c (.builtin "list.count") [x, y] σ Q := fun s vs i r => by
  cases r with
  | cons r1 r2 =>
    cases r2 with
    | @cons u _ _ _ r2 r3 =>
      cases r3
      obtain ⟨a, us, n, rfl, hg, hv⟩ := hx.heap i r1
      refine call_meets F.slot_list_count ⟨_, hg, rfl⟩ F.entry_list_count (F.args_list_count_2 _ _) (PySem.SeqAt.list_countAt a us.toArray n Option.none #[] u (eqV g.w (c.F σ s) y)) ⟨hg, items_eq hv pl dl r2 py (by show c.A.units + 1 + 4 < cLine; omega), ?_⟩
      have e : us.toArray.toList.countP (eqV g.w (c.F σ s) y) = l.countP (eqA · y) := by simpa using count_eqV hv pl
      rw [e]
      exact ⟨_, σ, i.toks _, .toks .., .int _ _, q⟩
theorem cmp_notin_tup {x : AV} {l : List AV} (pl : plainL l = true) (dl : deepL l ≤ 4) (px : plain x = true) (hu : c.A.units + 8 < cLine) (q : Q (.bool (!l.any (eqA · x))) σ) : op2 c (compareOp .NotIn) x (.tup l) σ Q := fun s u v i r1 r2 => by
  cases r2 with
  | @tup a us n _ h hl =>
    refine PySem.SeqAt.notIn_tupleAt (l := a) (items := us.toArray) (eqV g.w (c.F σ s) x) ⟨_, fz_sub _ _ h, rfl, n, rfl⟩ (items_eq hl pl dl r1 px (by show c.A.units + 1 + 4 < cLine; omega)) ?_
    have e : us.toArray.any (eqV g.w (c.F σ s) x) = l.any (eqA · x) := by rw [← Array.any_toList]; simpa using any_eqV hl pl
    rw [e]
    exact ⟨_, σ, i, .refl .., .bool _, q⟩
theorem cmp_in_list {x y : AV} {l : List AV} (hy : Seq σ y l) (pl : plainL l = true) (dl : deepL l ≤ 4) (px : plain x = true) (hu : c.A.units + 8 < cLine) (q : Q (.bool (l.any (eqA · x))) σ) : op2 c (compareOp .In) x y σ Q := fun s u v i r1 r2 => by
  obtain ⟨a, us, n, rfl, hg, hv⟩ := hy.heap i r2
  refine PySem.SeqAt.in_listAt (items := us.toArray) (eqV g.w (c.F σ s) x) ⟨_, hg, rfl, n, rfl⟩ (items_eq hv pl dl r1 px (by show c.A.units + 1 + 4 < cLine; omega)) ?_
  have e : us.toArray.any (eqV g.w (c.F σ s) x) = l.any (eqA · x) := by rw [← Array.any_toList]; simpa using any_eqV hv pl
  rw [e]
  exact ⟨_, σ, i, .refl .., .bool _, q⟩
theorem cmp_notin_list {x y : AV} {l : List AV} (hy : Seq σ y l) (pl : plainL l = true) (dl : deepL l ≤ 4) (px : plain x = true) (hu : c.A.units + 8 < cLine) (q : Q (.bool (!l.any (eqA · x))) σ) : op2 c (compareOp .NotIn) x y σ Q := fun s u v i r1 r2 => by
  obtain ⟨a, us, n, rfl, hg, hv⟩ := hy.heap i r2
  refine PySem.SeqAt.notIn_listAt (items := us.toArray) (eqV g.w (c.F σ s) x) ⟨_, hg, rfl, n, rfl⟩ (items_eq hv pl dl r1 px (by show c.A.units + 1 + 4 < cLine; omega)) ?_
  have e : us.toArray.any (eqV g.w (c.F σ s) x) = l.any (eqA · x) := by rw [← Array.any_toList]; simpa using any_eqV hv pl
  rw [e]
  exact ⟨_, σ, i, .refl .., .bool _, q⟩
theorem op_addl {x y : AV} {l m : List AV} (hx : Seq σ x l) (hy : Seq σ y m) (hz : l.length + m.length ≤ sizeLine) (q : Made Q (l ++ m) σ) : op2 c (binaryOp .Add) x y σ Q := fun s u v i r1 r2 => by
  obtain ⟨a, us, n, rfl, hg, hv⟩ := hx.heap i r1
  obtain ⟨b, ws, k, rfl, hg', hw⟩ := hy.heap i r2
  refine P.add_list (items := us.toArray) (items2 := ws.toArray) hg hg' ?_ (by rw [List.size_toArray, List.size_toArray, hv.length, hw.length]; exact hz)
  exact made_list (tk := s.toks) (vs := us ++ ws) (n := 0) i (push_keeps _ _) (Nat.le_refl _) (by rw [show us.toArray ++ ws.toArray = (us ++ ws).toArray by simp]; exact Heap.get?_push_size _ rfl) (hv.append hw) q
/-- lists of plain things compared -/
theorem list_eqs {x y : AV} {l m : List AV} {s : Shared} {u v : Value} (hx : Seq σ x l) (hy : Seq σ y m) (pl : plainL l = true) (pm : plainL m = true) (dl : deepL l ≤ 4) (hu : c.A.units + 8 < cLine) (i : c.Inv σ s) (r1 : Rep g.w (c.F σ s) u x) (r2 : Rep g.w (c.F σ s) v y) :
    PySem.SeqAt.RcAt c.A s u v (eqL l m) := by
  obtain ⟨a, us, n, rfl, hg, hv⟩ := hx.heap i r1
  obtain ⟨b, ws, k, rfl, hg', hw⟩ := hy.heap i r2
  have hla : s.heap.IsList a us.toArray := ⟨_, hg, rfl, n, rfl⟩
  have hlb : s.heap.IsList b ws.toArray := ⟨_, hg', rfl, k, rfl⟩
  rw [eqL_all]
  by_cases hlen : l.length = m.length
  · have e1 : ((List.range (min l.length m.length)).all (fun j => eqA (l.getD j .none) (m.getD j .none)) && l.length == m.length) = (List.range us.toArray.size).all (fun j => eqA (l.getD j .none) (m.getD j .none)) := by
      rw [List.size_toArray, hv.length, hlen]; simp
    rw [e1]
    refine PySem.SeqAt.RcAt.lists hla hlb (by rw [List.size_toArray, List.size_toArray, hv.length, hw.length]; exact hlen) (by omega) fun j h1 h2 => ?_
    rw [List.size_toArray] at h1 h2
    obtain ⟨x1, f1, q1⟩ := hv.get' (i := j) (v := us[j]) (List.getElem?_eq_getElem h1)
    obtain ⟨x2, f2, q2⟩ := hw.get' (i := j) (v := ws[j]) (List.getElem?_eq_getElem h2)
    have g1 : l.getD j .none = x1 := by rw [List.getD_eq_getElem?_getD, f1]; rfl
    have g2 : m.getD j .none = x2 := by rw [List.getD_eq_getElem?_getD, f2]; rfl
    rw [g1, g2]
    have := eqAt (A := c.A.in1) (s := s) 4 (Nat.le_trans (deepL_get f1) dl) q1 q2 (plainL_get pl f1) (plainL_get pm f2) fz_sub (by show c.A.units + 1 + 4 < cLine; omega)
    simpa using this
  · have e1 : (l.length == m.length) = false := by simpa using hlen
    rw [e1, Bool.and_false]
    exact PySem.SeqAt.RcAt.lists_lengths hla hlb (by rw [List.size_toArray, List.size_toArray, hv.length, hw.length]; simpa using hlen) (by omega)
theorem cmp_eql {x y : AV} {l m : List AV} (hx : Seq σ x l) (hy : Seq σ y m) (pl : plainL l = true) (pm : plainL m = true) (dl : deepL l ≤ 4) (hu : c.A.units + 8 < cLine) (q : Q (.bool (eqL l m)) σ) : op2 c (compareOp .Eq) x y σ Q := fun s u v i r1 r2 =>
  list_eqs hx hy pl pm dl hu i r1 r2 g.prog g.w c.E _ ⟨_, σ, i, .refl .., .bool _, q⟩
end

/-! statements -/
theorem es_setitem {o i : Expr} {pos' : Pos} {value : Expr} {pos : Pos} {Q : AFl → Rho → Sto → Prop} (h : ev c ρ value σ fun z σ₁ => ev c ρ o σ₁ fun x σ₂ => ev c ρ i σ₂ fun y σ₃ => op3u c (fun a b d => setItem a b d) x y z σ₃ fun σ₄ => Q .next ρ σ₄)
    (hw : swapsWith value (some (.Subscript o i pos')) pos.line c.env = pure false := by rfl) : es c ρ (exec (.Assign [.Subscript o i pos'] value pos) c.env) σ Q := fun s hs => by
  refine wpAny_Assign_Subscript (wpAny_mono (h s hs) (fun vz s₁ ⟨z, σ₁, i₁, e₁, r₁, q₁⟩ => ?_) fun _ _ e => e) hw
  refine wpAny_mono (q₁ s₁ (hs.ev i₁ e₁)) (fun vx s₂ ⟨x, σ₂, i₂, e₂, r₂, q₂⟩ => ?_) fun _ _ e => e
  refine wpAny_mono (q₂ s₂ (hs.ev i₂ (e₁.trans e₂))) (fun vy s₃ ⟨y, σ₃, i₃, e₃, r₃, q₃⟩ => ?_) fun _ _ e => e
  refine wpAny_mono (q₃ s₃ vx vy vz i₃ (r₂.mono e₃.grow) r₃ (r₁.mono (e₂.grow.trans e₃.grow))) (fun _ s₄ ⟨_, σ₄, i₄, e₄, _, q₄⟩ => ?_) fun _ _ e => e
  have e := ((e₁.trans e₂).trans e₃).trans e₄
  exact ⟨_, ρ, σ₄, hs.ev i₄ e, e.toS hs.fr.sub, .next, q₄⟩
theorem set_list {a : Addr} {l : List AV} {k : Int} {z : AV} {Q : Sto → Prop} (ha : σ a = some (.lst l)) (h0 : 0 ≤ k) (hk : k < l.length) (hk' : k < 2 ^ 63) (q : Q (σ.set a (.lst (l.set k.toNat z)))) : op3u c (fun a b d => setItem a b d) (.obj a) (.int k) z σ Q := fun s u v d i r1 r2 r3 => by
  cases r1
  cases r2 with | int _ t0 => ?_
  obtain ⟨us, n, e, hr⟩ := i.objs a _ ha
  have hsz : us.length = l.length := hr.length
  have hl : s.heap.IsList a us.toArray := ⟨_, e, rfl, n, rfl⟩
  have plainIt : wpAny g.M c.A (setItem (.ref a) (.int k t0) d) (fun _ s' => s' = { s with heap := s.heap.update a (Obj.mapSeq (·.setIfInBounds k.toNat d)) }) c.E s := by
    unfold setItem
    refine wpAny_holding ?_
    refine wpAny_bind (wpAny_sequenceKey hl.typeIs (by decide) ?_)
    refine wpAny_bind (wpAny_callSpecial?_slot (name := Str.ofString "__setitem__") hl.typeIs slot_list_setitem
      (wpAny_call_entry slot_list_setitem hl.typeIs entry_list_setitem ?_ (args_list_setitem _ _ _)))
    show wpAny _ _ (Builtin.List.listSubscript? (.int k t0) >>= _) _ _ s
    refine wpAny_bind (wpAny_listSubscript_int (fitsIndex_of h0 hk') ?_)
    obtain ⟨j, rfl⟩ := Int.eq_ofNat_of_zero_le h0
    have hj : j < us.length := by omega
    have hx' : us.toArray[j]? = some us[j] := by simp [hj]
    show wpAny _ _ ((seqItemAt a j >>= fun r => pure (r.map (j, ·))) >>= _) _ _ s
    refine wpAny_bind (wpAny_bind (wpAny_seqItemAt e rfl (wpAny_pure ?_)))
    rw [hx']
    show wpAny _ _ (setSeqItemAt a j d >>= _) _ _ s
    refine wpAny_bind (wpAny_setSeqItemAt e rfl ?_)
    first
      | exact wpAny_bind (wpAny_pure (wpAny_pure ⟨.none, rfl, wpAny_pure rfl⟩))
      | exact wpAny_pure ⟨.none, rfl, wpAny_pure rfl⟩
  refine wpAny_mono plainIt (fun _ s' hs' => ?_) fun _ _ e => e
  subst hs'
  obtain ⟨h1, h2⟩ := store_upd (tk := s.toks) (h' := s.heap.update a (Obj.mapSeq (·.setIfInBounds k.toNat d))) (y := .lst (l.set k.toNat z)) i ha (Heap.SameBut.update ..) ⟨us.set k.toNat d, _, by
    have := Heap.get?_update_self (Obj.mapSeq (·.setIfInBounds k.toNat d)) e rfl
    rw [this]
    simp [Obj.mapSeq]
    rfl, hr.set r3⟩
  exact ⟨(), _, h1, h2, trivial, q⟩

theorem es_expr {e pos} {Q : AFl → Rho → Sto → Prop} (h : ev c ρ e σ fun x σ' => (match x with | .none => True | .bool _ => True | .int _ => True | .str _ => True | _ => False) ∧ Q .next ρ σ')
    (hw : swapsWith e none pos.line c.env = pure false := by rfl) : es c ρ (exec (.Expr e pos) c.env) σ Q := fun s hs => by
  have hi : interactive c.env = false := by
    unfold interactive
    rw [hs.fr.kind]; rfl
  refine wpAny_Expr (wpAny_mono (h s hs) (fun v s₁ ⟨x, σ₁, i₁, e₁, r₁, hx, q₁⟩ => ?_) fun _ _ e => e) hi hw
  have post : ∃ fl ρ' σ', St c ρ' σ' s₁ ∧ EvS c σ s σ' s₁ ∧ RepF g.w (c.F σ' s₁) .next fl ∧ Q fl ρ' σ' := ⟨_, ρ, σ₁, hs.ev i₁ e₁, e₁.toS hs.fr.sub, .next, q₁⟩
  cases r₁ <;> first | exact post | exact hx.elim

end Mine

end

section
namespace Mine
open PySem
variable {g : Gx} {c : Cx g} {ρ : Rho} {σ : Sto}

section
variable {Q : AV → Sto → Prop}
theorem list_nes {x y : AV} {l m : List AV} {s : Shared} {u v : Value} (hx : Seq σ x l) (hy : Seq σ y m) (pl : plainL l = true) (pm : plainL m = true) (dl : deepL l ≤ 4) (hu : c.A.units + 8 < cLine) (i : c.Inv σ s) (r1 : Rep g.w (c.F σ s) u x) (r2 : Rep g.w (c.F σ s) v y) :
    PySem.SeqAt.RcNeAt c.A s u v (!eqL l m) := by
  obtain ⟨a, us, n, rfl, hg, hv⟩ := hx.heap i r1
  obtain ⟨b, ws, k, rfl, hg', hw⟩ := hy.heap i r2
  have hla : s.heap.IsList a us.toArray := ⟨_, hg, rfl, n, rfl⟩
  have hlb : s.heap.IsList b ws.toArray := ⟨_, hg', rfl, k, rfl⟩
  rw [eqL_all]
  by_cases hlen : l.length = m.length
  · have e1 : ((List.range (min l.length m.length)).all (fun j => eqA (l.getD j .none) (m.getD j .none)) && l.length == m.length) = (List.range us.toArray.size).all (fun j => eqA (l.getD j .none) (m.getD j .none)) := by
      rw [List.size_toArray, hv.length, hlen]; simp
    rw [e1]
    refine PySem.SeqAt.RcNeAt.lists hla hlb (by rw [List.size_toArray, List.size_toArray, hv.length, hw.length]; exact hlen) (by omega) fun j h1 h2 => ?_
    rw [List.size_toArray] at h1 h2
    obtain ⟨x1, f1, q1⟩ := hv.get' (i := j) (v := us[j]) (List.getElem?_eq_getElem h1)
    obtain ⟨x2, f2, q2⟩ := hw.get' (i := j) (v := ws[j]) (List.getElem?_eq_getElem h2)
    have g1 : l.getD j .none = x1 := by rw [List.getD_eq_getElem?_getD, f1]; rfl
    have g2 : m.getD j .none = x2 := by rw [List.getD_eq_getElem?_getD, f2]; rfl
    rw [g1, g2]
    have := eqAt (A := c.A.in1) (s := s) 4 (Nat.le_trans (deepL_get f1) dl) q1 q2 (plainL_get pl f1) (plainL_get pm f2) fz_sub (by show c.A.units + 1 + 4 < cLine; omega)
    simpa using this
  · have e1 : (l.length == m.length) = false := by simpa using hlen
    rw [e1, Bool.and_false]
    exact PySem.SeqAt.RcNeAt.lists_lengths hla hlb (by rw [List.size_toArray, List.size_toArray, hv.length, hw.length]; simpa using hlen) (by omega)
theorem cmp_nel {x y : AV} {l m : List AV} (hx : Seq σ x l) (hy : Seq σ y m) (pl : plainL l = true) (pm : plainL m = true) (dl : deepL l ≤ 4) (hu : c.A.units + 8 < cLine) (q : Q (.bool (!eqL l m)) σ) : op2 c (compareOp .NotEq) x y σ Q := fun s u v i r1 r2 =>
  list_nes hx hy pl pm dl hu i r1 r2 g.prog g.w c.E _ ⟨_, σ, i, .refl .., .bool _, q⟩
end

/-! slices -/
def evO (c : Cx g) (ρ : Rho) : Option Expr → Sto → (Option Int → Sto → Prop) → Prop
  | Option.none, σ, Q => Q Option.none σ
  | some e, σ, Q => ev c ρ e σ fun x σ₁ => ∃ i, x = .int i ∧ Q (some i) σ₁
theorem evO_sound {e : Option Expr} {Q : Option Int → Sto → Prop} (h : evO c ρ e σ Q) : gv c ρ (fun _ v o => IsPart v o) (evalPart e c.env) σ Q := fun s hs => by
  cases e with
  | none => exact wpAny_pure ⟨_, σ, hs.inv, .refl .., .none, h⟩
  | some e =>
    refine wpAny_mono (h s hs) (fun v s₁ ⟨x, σ₁, i₁, e₁, r₁, i, hx, q⟩ => ?_) fun _ _ e => e
    subst hx
    cases r₁
    exact ⟨_, σ₁, i₁, e₁, .int _ _, q⟩
/-- a[lo:hi] -/
def cut {α : Type} (l : List α) (lo hi : Option Int) : List α := (l.drop (lo.elim 0 (clipAt l.length))).take (hi.elim l.length (clipAt l.length) - lo.elim 0 (clipAt l.length))
theorem cut_pick {us : List Value} {lo hi : Option Int} : slicePick us.toArray lo hi none = (cut us lo hi).toArray := by
  rw [slicePick_plain]; simp [cut]
theorem RepL.cut {w : World} {F : Fz} {us : List Value} {l : List AV} (h : RepL w F us l) (lo hi : Option Int) : RepL w F (cut us lo hi) (cut l lo hi) := by
  unfold Mine.cut; rw [h.length]; exact (h.drop _).take _
theorem ev_slice {value : Expr} {lower upper : Option Expr} {p pos : Pos} {Q : AV → Sto → Prop}
    (h : ev c ρ value σ fun x σ₁ => evO c ρ lower σ₁ fun lo σ₂ => evO c ρ upper σ₂ fun hi σ₃ => ∃ l, Seq σ₃ x l ∧ l.length ≤ sizeLine ∧ Made Q (cut l lo hi) σ₃)
    (ht : ∀ o r, letTemporaryGo value o r = pure () := by intro _ _; rfl) : ev c ρ (.Subscript value (.Slice lower upper none p) pos) σ Q := fun s hs => by
  refine wpAny_Subscript_list_slice (wpAny_mono (h s hs) (fun a s₁ ⟨x, σ₁, i₁, e₁, r₁, q₁⟩ => ?_) fun _ _ e => e) ht
  refine wpAny_mono (evO_sound q₁ s₁ (hs.ev i₁ e₁)) (fun vl s₂ ⟨lo, σ₂, i₂, e₂, r₂, q₂⟩ => ?_) fun _ _ e => e
  refine wpAny_mono (evO_sound q₂ s₂ (hs.ev i₂ (e₁.trans e₂))) (fun vu s₃ ⟨hi, σ₃, i₃, e₃, r₃, l, hx, hz, q₃⟩ => ?_) fun _ _ e => e
  obtain ⟨b, us, n, rfl, hg, hv⟩ := hx.heap i₃ (r₁.mono (e₂.grow.trans e₃.grow))
  refine ⟨b, us.toArray, lo, hi, rfl, ⟨_, hg, rfl, n, rfl⟩, by rw [List.size_toArray, hv.length]; exact hz, r₂, r₃, ?_⟩
  rw [cut_pick]
  obtain ⟨y, σ', a1, a2, a3, a4⟩ := made_list (tk := s₃.toks) (D := s₃.heap.objs.size + 1) (h' := (s₃.heap.push { cls := .type "slice", data := .fields #[vl, vu, .none] }).push { cls := .type "list", data := .seq (cut us lo hi).toArray }) (n := 0) i₃ (fun b o e => push_keeps _ _ _ _ (push_keeps _ _ _ _ e)) (Nat.le_succ _)
    (by have := Heap.get?_push_size (s₃.heap.push { cls := .type "slice", data := .fields #[vl, vu, .none] }) (o := lstO (cut us lo hi) 0) rfl; rw [Heap.size_push] at this; exact this) (hv.cut lo hi) q₃
  exact ⟨y, σ', a1, ((e₁.trans e₂).trans e₃).trans a2, a3, a4⟩

/-! strs -/
theorem foldl_cps (x : Array Nat) : ∀ (n : Nat) (acc : Array Nat), ((List.replicate n x).foldl (· ++ ·) acc).size = acc.size + n * x.size
  | 0, acc => by simp
  | n + 1, acc => by rw [List.replicate_succ, List.foldl_cons, foldl_cps x n, Array.size_append, Nat.add_mul]; omega
theorem mul_len {x : Str} {n : Int} : (Txt.mul x n).length ≤ x.length * n.toNat := by
  unfold Txt.mul
  by_cases h1 : n < 1
  · rw [if_pos h1]; exact Nat.zero_le _
  · rw [if_neg h1]
    by_cases h2 : (n == 1 || x.length == 0) = true
    · rw [if_pos h2]
      have : 1 ≤ n.toNat := by omega
      exact Nat.le_mul_of_pos_right _ this
    · rw [if_neg h2]
      show ((List.replicate n.toNat x.cps).foldl (· ++ ·) #[]).size ≤ _
      rw [foldl_cps]
      simp [Str.length, Nat.mul_comm]
theorem op_muls {x : Str} {n : Int} {Q : AV → Sto → Prop} (hx : x.length ≤ 1024) (h0 : -1024 ≤ n) (hn : n ≤ 1024) (q : Q (.str (Txt.mul x n)) σ) : op2 c (binaryOp .Mult) (.str x) (.int n) σ Q := fun s u v i r1 r2 => by
  cases r1; cases r2
  have hle : x.length * n.toNat ≤ 1024 * 1024 := Nat.mul_le_mul hx (by omega)
  refine SB.mul ⟨?_, fun h1 h2 h3 => ?_, fun h1 h2 => ?_⟩ fun t' k => ⟨_, σ, i.toks _, .toks .., .str _ _, q⟩
  · rw [Bool.or_eq_false_iff]; constructor <;> (rw [decide_eq_false_iff_not]; omega)
  · have h4 : (x.length : Int) * n ≤ 1024 * 1024 := by
      have e : ((x.length * n.toNat : Nat) : Int) = (x.length : Int) * n := by rw [Int.natCast_mul, Int.toNat_of_nonneg (by omega)]
      omega
    have h5 : 1024 ≤ (2 ^ 63 - 1) / n := by
      rw [Int.le_ediv_iff_mul_le (by omega)]
      have : (1024 : Int) * n ≤ 1024 * 1024 := Int.mul_le_mul_of_nonneg_left hn (by decide)
      omega
    omega
  · unfold Builtin.Str.tooLong
    rw [decide_eq_false_iff_not, sizeLine_eq]
    omega

/-! a list no longer changed -/
theorem Sto.del_self {σ : Sto} {a : Addr} : σ.del a a = Option.none := if_pos rfl
theorem Sto.del_ne {σ : Sto} {a b : Addr} (h : b ≠ a) : σ.del a b = σ b := if_neg h
theorem freeze_le {h : Heap} {own : List Addr} {a : Addr} : (fz h own σ).le (fz h own (σ.del a)) := fun b o e => by
  obtain ⟨e1, e2, e3⟩ := fz_eq.mp e
  refine fz_eq.mpr ⟨?_, e2, e3⟩
  by_cases hb : b = a
  · subst hb; exact Sto.del_self
  · exact (Sto.del_ne hb).trans e1
theorem Inv.freeze {w : World} {H₀ : Heap} {own : List Addr} {s : Shared} (i : Inv w H₀ own σ s) (a : Addr) : Inv w H₀ own (σ.del a) s := by
  refine ⟨fun b o e => freeze_le b o (i.keep b o e), fun b y e => ?_, fun b hb => ?_, i.live⟩
  · have hb : b ≠ a := by rintro rfl; rw [Sto.del_self] at e; cases e
    rw [Sto.del_ne hb] at e
    exact (i.objs b y e).mono freeze_le fun _ e => e
  · by_cases h : b = a
    · subst h; exact Sto.del_self
    · exact (Sto.del_ne h).trans (i.off b hb)
/-- what an object of the store is, once frozen -/
inductive Frz : AObj → AV → Prop
  | lst (l : List AV) : Frz (.lst l) (.list l)
  | dct (l : List (AV × AV)) : Frz (.dct l) (.dict l)
theorem Inv.frozen {w : World} {H₀ : Heap} {own : List Addr} {s : Shared} (i : Inv w H₀ own σ s) {a : Addr} {x : AObj} {y : AV} (ha : σ a = some x) (hf : Frz x y) : Rep w (fz s.heap own (σ.del a)) (.ref a) y := by
  have hao : a ∉ own := fun hm => by rw [i.off a hm] at ha; cases ha
  have := i.objs a x ha
  cases hf with
  | lst l =>
    obtain ⟨vs, n, e, r⟩ := this
    exact .list (fz_eq.mpr ⟨Sto.del_self, hao, e⟩) (r.mono freeze_le)
  | dct l =>
    obtain ⟨es, n, e, r, nd⟩ := this
    exact .dict (fz_eq.mpr ⟨Sto.del_self, hao, e⟩) (r.mono freeze_le) nd
/-- names of the frame that hold the object now hold the data -/
inductive FrzR (a : Addr) (y : AV) : Rho → Rho → Prop
  | nil : FrzR a y [] []
  | hit {x : Str} {r r' : Rho} : FrzR a y r r' → FrzR a y ((x, some (.obj a)) :: r) ((x, some y) :: r')
  | skip {p : Str × Option AV} {r r' : Rho} : FrzR a y r r' → FrzR a y (p :: r) (p :: r')
theorem FrzR.names {a : Addr} {y : AV} {r r' : Rho} (h : FrzR a y r r') : r'.map (·.1) = r.map (·.1) := by
  induction h with
  | nil => rfl
  | hit _ ih => simp [ih]
  | skip _ ih => simp [ih]
theorem FrzR.get {a : Addr} {y : AV} {r r' : Rho} (h : FrzR a y r r') {x : Str} {v : AV} (hm : (x, some v) ∈ r') : (x, some v) ∈ r ∨ (v = y ∧ (x, some (.obj a)) ∈ r) := by
  induction h with
  | nil => exact .inl hm
  | hit _ ih =>
    rcases List.mem_cons.mp hm with e | hm
    · injection e with e1 e2; injection e2 with e2; subst e1; exact .inr ⟨e2, List.mem_cons_self⟩
    · exact (ih hm).imp (List.mem_cons_of_mem _) fun ⟨q1, q2⟩ => ⟨q1, List.mem_cons_of_mem _ q2⟩
  | skip _ ih =>
    rcases List.mem_cons.mp hm with rfl | hm
    · exact .inl List.mem_cons_self
    · exact (ih hm).imp (List.mem_cons_of_mem _) fun ⟨q1, q2⟩ => ⟨q1, List.mem_cons_of_mem _ q2⟩
theorem St.freeze {ρ' : Rho} {s : Shared} (h : St c ρ σ s) {a : Addr} {x : AObj} {y : AV} (ha : σ a = some x) (hf : Frz x y) (hr : FrzR a y ρ ρ') : St c ρ' (σ.del a) s := by
  have le : (c.F σ s).le (c.F (σ.del a) s) := freeze_le
  have hy : Rep g.w (c.F (σ.del a) s) (.ref a) y := h.inv.frozen ha hf
  refine ⟨h.inv.freeze a, hr.names ▸ h.fr, ?_, fun z b hk hb => ?_⟩
  · obtain ⟨m, hn, hm⟩ := h.ns
    refine ⟨m, hn, fun z v hz hk => ?_⟩
    rcases hr.get hz with hz | ⟨rfl, hz⟩
    · obtain ⟨u, h1, h2⟩ := hm z v hz hk; exact ⟨u, h1, h2.mono le⟩
    · obtain ⟨u, h1, h2⟩ := hm z _ hz hk; cases h2; exact ⟨_, h1, hy⟩
  · obtain ⟨vo, h1, h2⟩ := h.cl z b hk hb
    refine ⟨vo, h1, fun v hz => ?_⟩
    rcases hr.get hz with hz | ⟨rfl, hz⟩
    · obtain ⟨u, h3, h4⟩ := h2 v hz; exact ⟨u, h3, h4.mono le⟩
    · obtain ⟨u, h3, h4⟩ := h2 _ hz; cases h4; exact ⟨_, h3, hy⟩
theorem es_freeze {ρ' : Rho} {t : Sem Flow} {Q : AFl → Rho → Sto → Prop} {a : Addr} {x : AObj} {y : AV} (ha : σ a = some x) (hf : Frz x y) (hr : FrzR a y ρ ρ') (h : es c ρ' t (σ.del a) Q) : es c ρ t σ Q := fun s hs =>
  wpAny_mono (h s (hs.freeze ha hf hr)) (fun f s' ⟨fl, ρ₁, σ₁, a1, a2, a3, a4⟩ => ⟨fl, ρ₁, σ₁, a1, ⟨a2.same, (freeze_le (a := a)).trans a2.grow, a2.hid⟩, a3, a4⟩) fun _ _ e => e
/-- a function's result frozen as it leaves -/
theorem es_ret_freeze {e pos} {Q : AFl → Rho → Sto → Prop} (h : ev c ρ e σ fun x σ' => ∃ a o y, x = .obj a ∧ σ' a = some o ∧ Frz o y ∧ Q (.ret y) ρ (σ'.del a)) : es c ρ (exec (.Return (some e) pos) c.env) σ Q := fun s hs =>
  wpAny_Return_some (wpAny_mono (h s hs) (fun v s₁ ⟨x, σ₁, i₁, e₁, r₁, a, o, y, hx, ha, hf, q⟩ => by
    subst hx
    cases r₁
    have st₁ := hs.ev i₁ e₁
    have le : (c.F σ₁ s₁).le (c.F (σ₁.del a) s₁) := freeze_le
    have st₂ : St c ρ (σ₁.del a) s₁ := by
      refine ⟨i₁.freeze a, hs.fr, ?_, fun z b hk hb => ?_⟩
      · obtain ⟨m, hn, hm⟩ := st₁.ns
        exact ⟨m, hn, fun z v hz hk => let ⟨u, h1, h2⟩ := hm z v hz hk; ⟨u, h1, h2.mono le⟩⟩
      · obtain ⟨vo, h1, h2⟩ := st₁.cl z b hk hb
        exact ⟨vo, h1, fun v hz => let ⟨u, h3, h4⟩ := h2 v hz; ⟨u, h3, h4.mono le⟩⟩
    have e₂ := e₁.toS hs.fr.sub
    exact ⟨_, ρ, σ₁.del a, st₂, ⟨e₂.same, e₂.grow.trans le, e₂.hid⟩, .ret (i₁.frozen ha hf), q⟩) fun _ _ e => e)

end Mine

end

section
namespace Mine
open PySem
variable {g : Gx} {c : Cx g} {ρ : Rho} {σ : Sto}

/-- what a comprehension leaves, its list in the store -/
theorem comp_endO {s : Shared} {D C : Addr} {l' : List AV} {σ' : Sto} {h' h'' : Heap} {tk : Nat} {vs : List Value} {n : Nat} (hDo : D ∉ c.own) (hCo : C ∉ c.own) (hCD : C ≠ D) (hDs : s.heap.objs.size ≤ D) (hDg : h'.get? D = some (lstO vs n))
    (hvs : RepL g.w (fz h' (C :: D :: c.own) σ') vs l') (hle : (c.F σ s).le (fz h' (C :: D :: c.own) σ')) (hown : ∀ a ∈ c.own, ∀ o, s.heap.get? a = some o → h'.get? a = some o)
    (hi : Mine.Inv g.w g.H₀ (C :: D :: c.own) σ' { s with heap := h', toks := tk }) (hs : Heap.SameBut C h' h'') :
    c.Inv (σ'.set D (.lst l')) { s with heap := h'', toks := tk } ∧ c.Ev σ s (σ'.set D (.lst l')) { s with heap := h'', toks := tk } ∧ σ' D = Option.none := by
  have hD0 : σ' D = Option.none := hi.off D (List.mem_cons_of_mem _ List.mem_cons_self)
  have le : (fz h' (C :: D :: c.own) σ').le (fz h'' c.own (σ'.set D (.lst l'))) := fun b o e => by
    obtain ⟨e1, e2, e3⟩ := fz_eq.mp e
    simp only [List.mem_cons, not_or] at e2
    exact fz_eq.mpr ⟨(Sto.set_ne e2.2.1).trans e1, e2.2.2, (hs.2 b e2.1).trans e3⟩
  refine ⟨⟨fun b o e => le b o (hi.keep b o e), fun a z e => ?_, fun a ha => ?_, fun a ha => ?_⟩, ⟨⟨_, _, rfl⟩, hle.trans le, fun a ha o ho => (hs.2 a ?_).trans (hown a ha o ho)⟩, hD0⟩
  · by_cases ha : a = D
    · subst ha
      rw [Sto.set_self] at e
      injection e with e
      subst e
      exact ⟨vs, n, (hs.2 a (Ne.symm hCD)).trans hDg, hvs.mono le⟩
    · rw [Sto.set_ne ha] at e
      refine (hi.objs a z e).mono le fun o e' => (hs.2 a ?_).trans e'
      rintro rfl; rw [hi.off _ List.mem_cons_self] at e; cases e
  · rw [Sto.set_ne (by rintro rfl; exact hDo ha)]
    exact hi.off a (List.mem_cons_of_mem _ (List.mem_cons_of_mem _ ha))
  · obtain ⟨o, ho⟩ := hi.live a (List.mem_cons_of_mem _ (List.mem_cons_of_mem _ ha))
    exact ⟨o, (hs.2 a (by rintro rfl; exact hCo ha)).trans ho⟩
  · rintro rfl; exact hCo ha

def swOk (y : Str) (py pos : Pos) (scope sc : Scope) : Bool := (sc.kind == .function) && (sc.names.lookup y == some .local) && (py.line == pos.line) && !(scope.names.any fun x => x.1 == y && (x.2 == .local || x.2 == .cell))
theorem swaps_of {y : Str} {py pos : Pos} {scope : Scope} {elt : Expr} {gens : List Comprehension} {line : Nat} {b : Bool} {ns : List Str} (fr : Frame c ns) (h : swOk y py pos scope c.sc = b) : swapsWith (.ListComp elt gens scope pos) (some (.Name y py)) line c.env = pure b := by
  have hsk : c.sc.kind = .function := by rw [← fr.sc]; exact fr.kind
  have hb : c.env.blockKind = .function := by unfold Env.blockKind; rw [fr.kind]; rfl
  have hk : c.env.kindOf y = c.sc.names.lookup y := by unfold Env.kindOf; rw [fr.sc]
  show (pure (c.env.blockKind == .function && c.env.kindOf y == some .local && py.line == pos.line && !(scope.names.any fun (n, k) => n == y && (k == .local || k == .cell))) : Sem Bool) = pure b
  rw [← h, hk, hb]
  unfold swOk
  rw [hsk]

/-- a list by a comprehension, named on its line -/
theorem es_comp {elt iter : Expr} {x y : Str} {px py pos spos : Pos} {t : Option Expr} {scope : Scope} {fr : Rho} {Q : AFl → Rho → Sto → Prop} (J : List AV → List AV → Sto → Prop) (hfn : c.isFn = true) (hsw : swOk y py pos scope c.sc = true) (hok : compOk x (fr.map (·.1)) scope c.sc = true) (hfr : FrIn fr ρ)
    (h : ev c ρ iter σ fun z σ₁ => ∃ l, Iter c z l ∧ l.length ≤ sizeLine ∧ J l [] σ₁)
    (turn : ∀ c' : Cx g, c'.A = c.A → c'.sc = relab scope c.sc → ∀ z rest acc σ₁, J (z :: rest) acc σ₁ → evT c' ((x, some z) :: fr) t σ₁ fun b σ₂ => match b with
      | true => ev c' ((x, some z) :: fr) elt σ₂ fun w σ₃ => J rest (acc ++ [w]) σ₃
      | false => J rest acc σ₂)
    (done : ∀ acc σ₁, J [] acc σ₁ → Made (fun z σ₂ => ∃ ρ', Upd y z ρ ρ' ∧ Q .next ρ' σ₂) acc σ₁)
    (hs : ∀ x, foldedSetIterable iter c.env x = pure x := by intro _; rfl) : es c ρ (exec (.Assign [.Name y py] (.ListComp elt [⟨.Name x px, iter, t.toList, 0⟩] scope pos) spos) c.env) σ Q := fun s st => by
  obtain ⟨hkind, hcell, hfree, hnames, hx, hdbg, hnd, hfrk⟩ := compOk_facts hok
  have hfreeC : ∀ y ∈ scope.names, y.2 = .free → ∃ a, c.env.cells.lookup y.1 = some a := fun y hy hf => by
    obtain ⟨p, hp, e⟩ := List.mem_map.mp (hfree y hy hf)
    have h1 := (hfr p hp).1
    rw [e] at h1
    have hk2 := (relabN_cell hcell (hfrk y.1 (hfree y hy hf))).2
    rcases (st.fr.kinds y.1 h1).2 with q | ⟨_, q⟩
    · rw [hk2] at q; cases q
    · exact q
  rw [exec_Assign_Name_used _ _ _ _ (swaps_of st.fr hsw)]
  refine wpAny_bind (wpAny_standAt (wpAny_bind ?_))
  show wpAny _ _ (do let _ ← comprehension (.ListComp elt [⟨.Name x px, iter, t.toList, 0⟩] scope pos) scope c.env _ (newList []) false (eval iter c.env) (some (assign (.Name y py) c.env))) _ _ s
  refine wpAny_bind (wpAny_mono (wpAny_comprehension_free (use := some (assign (.Name y py) c.env)) (Q := fun _ s' => ∃ fl ρ' σ', St c ρ' σ' s' ∧ EvS c σ s σ' s' ∧ RepF g.w (c.F σ' s') .next fl ∧ Q fl ρ' σ') rfl hs (closureFor_eq hfreeC) hkind hnames
    (wpAny_mono (h s st) (fun v s₁ ⟨z, σ₁, i₁, e₁, r₁, l, hit, hsz, hJ⟩ => ?_) fun _ _ e => e)) (fun _ s' hq => wpAny_pure (wpAny_pure hq)) fun _ _ e => e)
  have st₁ := st.ev i₁ e₁
  refine comp_core (RR := fun acc C => compPost g.M c.A c.E (some (assign (.Name y py) c.env)) (fun _ s' => ∃ fl ρ' σ', St c ρ' σ' s' ∧ EvS c σ s σ' s' ∧ RepF g.w (c.F σ' s') .next fl ∧ Q fl ρ' σ') acc C) J hok hfr st₁ r₁ hit hJ hsz turn ?_
  intro D C l' σ' h' tk m vs n hJ' hDo hCo hCD hDs hCs hDg hvs hn hle hown hi hlen
  show wpAny _ _ (assign (.Name y py) c.env (.ref D)) _ _ _
  -- the frame with the comprehension's own names still hidden
  let c₂ : Cx g := ⟨c.A, c.env, C :: c.own, C :: c.hid, c.E, c.sc, c.isFn⟩
  have same : Same c c₂ := ⟨rfl, rfl, rfl, rfl⟩
  have hC2 : C ∉ c.own := hCo
  have finish : ∀ (z : AV) (σ₂ : Sto), c₂.Inv σ₂ { s₁ with heap := h', toks := tk } → (c.F σ₁ s₁).le (c₂.F σ₂ { s₁ with heap := h', toks := tk }) → Rep g.w (c₂.F σ₂ { s₁ with heap := h', toks := tk }) (.ref D) z → (∃ ρ', Upd y z ρ ρ' ∧ Q .next ρ' σ₂) →
      wpAny g.M c.A (assign (.Name y py) c.env (.ref D)) (fun _ s'' => ∃ m, s''.heap.Ns C m ∧ ∀ h'', Heap.SameBut C s''.heap h'' → ∃ fl ρ' σ', St c ρ' σ' { s'' with heap := h'' } ∧ EvS c σ s σ' { s'' with heap := h'' } ∧ RepF g.w (c.F σ' { s'' with heap := h'' }) .next fl ∧ Q fl ρ' σ') c.E { s₁ with heap := h', toks := tk } := by
    intro z σ₂ i₂ le₂ rz ⟨ρ', hu, hq⟩
    have st₂ : St c₂ ρ σ₂ { s₁ with heap := h', toks := tk } := by
      refine ⟨i₂, st₁.fr.enter same rfl rfl hCo, ?_, fun w' a hk ha => ?_⟩
      · obtain ⟨m', hn', hm'⟩ := st₁.ns
        refine ⟨m', hn'.at' fun o e => hown _ st₁.fr.loc o e, fun w' v' hw' hk => ?_⟩
        obtain ⟨u, h1, h2⟩ := hm' w' v' hw' hk
        exact ⟨u, h1, h2.mono le₂⟩
      · obtain ⟨vo, ⟨o, ho, hd⟩, h2⟩ := st₁.cl w' a hk ha
        refine ⟨vo, ⟨o, hown a (st₁.fr.cells w' a ha).1 o ho, hd⟩, fun v' hv' => ?_⟩
        obtain ⟨u, h3, h4⟩ := h2 v' hv'
        exact ⟨u, h3, h4.mono le₂⟩
    refine wpAny_assign_Name (store_sound (c := c₂) (E := c.E) st₂ hu hfn rz fun s₃ st₃ e₃ => ?_)
    have hCl : ∃ o, h'.get? C = some o := let ⟨o, _, _, ho, _⟩ := hn; ⟨o, ho⟩
    refine ⟨m, hn.at' fun o e => e₃.hid C List.mem_cons_self o e, fun h'' hs'' => ?_⟩
    have hk3 : ∀ b o, b ∉ [C] → s₃.heap.get? b = some o → h''.get? b = some o := fun b o hb e => (hs''.2 b (by simpa using hb)).trans e
    have e0 : ({ s₃ with heap := h'' } : Shared) = { s₃ with heap := h'', toks := s₃.toks } := rfl
    obtain ⟨st₄, le₄⟩ := st₃.leave' (c := c) (tk := s₃.toks) same rfl hCo { st₁.fr with kinds := st₃.fr.kinds, nodup := st₃.fr.nodup } hk3
    refine ⟨.next, ρ', σ₂, st₄, ⟨?_, (e₁.grow.trans le₂).trans (e₃.grow.trans le₄), fun a ha o ho => ?_⟩, .next, hq⟩
    · obtain ⟨h5, t5, e5⟩ := e₃.same
      obtain ⟨h6, t6, e6⟩ := e₁.same
      subst e6
      subst e5
      exact ⟨h'', t5, rfl⟩
    · have hao := st.fr.sub a ha
      exact hk3 a o (by intro hm; exact hCo (List.mem_singleton.mp hm ▸ hao)) (e₃.hid a (List.mem_cons_of_mem _ ha) o (hown a hao o (e₁.own a hao o ho)))
  have hD0 : σ' D = Option.none := hi.off D (List.mem_cons_of_mem _ List.mem_cons_self)
  rcases done l' σ' hJ' with hq | hq
  · have le : (fz h' (C :: D :: c.own) σ').le (fz h' (C :: c.own) σ') := fun b o e => by
      obtain ⟨e1, e2, e3⟩ := fz_eq.mp e
      simp only [List.mem_cons, not_or] at e2
      exact fz_eq.mpr ⟨e1, by simp only [List.mem_cons, not_or]; exact ⟨e2.1, e2.2.2⟩, e3⟩
    have i₂ : c₂.Inv σ' { s₁ with heap := h', toks := tk } := by
      refine ⟨fun b o e => le b o (hi.keep b o e), fun a z e => (hi.objs a z e).mono le fun _ e => e, fun a ha => ?_, fun a ha => ?_⟩
      · rcases List.mem_cons.mp ha with rfl | ha
        · exact hi.off _ List.mem_cons_self
        · exact hi.off a (List.mem_cons_of_mem _ (List.mem_cons_of_mem _ ha))
      · rcases List.mem_cons.mp ha with rfl | ha
        · exact hi.live _ List.mem_cons_self
        · exact hi.live a (List.mem_cons_of_mem _ (List.mem_cons_of_mem _ ha))
    refine finish _ σ' i₂ (hle.trans le) (.list (fz_eq.mpr ⟨hD0, ?_, hDg⟩) (hvs.mono le)) hq
    intro hm
    rcases List.mem_cons.mp hm with e | hm
    · exact hCD e.symm
    · exact hDo hm
  · have le : (fz h' (C :: D :: c.own) σ').le (fz h' (C :: c.own) (σ'.set D (.lst l'))) := fun b o e => by
      obtain ⟨e1, e2, e3⟩ := fz_eq.mp e
      simp only [List.mem_cons, not_or] at e2
      exact fz_eq.mpr ⟨(Sto.set_ne e2.2.1).trans e1, by simp only [List.mem_cons, not_or]; exact ⟨e2.1, e2.2.2⟩, e3⟩
    have i₂ : c₂.Inv (σ'.set D (.lst l')) { s₁ with heap := h', toks := tk } := by
      refine ⟨fun b o e => le b o (hi.keep b o e), fun a z e => ?_, fun a ha => ?_, fun a ha => ?_⟩
      · by_cases haD : a = D
        · subst haD
          rw [Sto.set_self] at e
          injection e with e
          subst e
          exact ⟨vs, n, hDg, hvs.mono le⟩
        · rw [Sto.set_ne haD] at e
          exact (hi.objs a z e).mono le fun _ e => e
      · rcases List.mem_cons.mp ha with rfl | ha
        · rw [Sto.set_ne hCD]; exact hi.off _ List.mem_cons_self
        · rw [Sto.set_ne (by rintro rfl; exact hDo ha)]; exact hi.off a (List.mem_cons_of_mem _ (List.mem_cons_of_mem _ ha))
      · rcases List.mem_cons.mp ha with rfl | ha
        · exact hi.live _ List.mem_cons_self
        · exact hi.live a (List.mem_cons_of_mem _ (List.mem_cons_of_mem _ ha))
    exact finish _ _ i₂ (hle.trans le) (.obj D) (hq D hD0)

end Mine

end

section
namespace Mine
open PySem PySem.W
variable {g : Gx} {c : Cx g} {ρ : Rho} {σ : Sto}

def fdAt (K : Frag) (f : Addr) : FuncData := match K.lookup f with | some ⟨_, _, .func fd, _⟩ => fd | _ => default
def bodyAt (K : Frag) (f : Addr) : List Stmt := match (fdAt K f).body with | .stmts b => b | _ => []
def fnOk (K : Frag) (f : Addr) : Bool := match K.lookup f with
  | some ⟨_, _, .func fd, _⟩ => (match fd.body with | .stmts _ => true | _ => false) && fd.closure.isEmpty && fd.globals == mainGlobals && fd.builtins == builtinsNs &&
    (match fd.code with | .ref c => (match K.lookup c with | some ⟨_, _, .fields vs, _⟩ => (match (vs[1]? : Option Value) with | some (Value.str q _) => q == fd.qualname | _ => false) | _ => false) | _ => false)
  | _ => false
theorem fnAt_of {K : Frag} (X : K.In g.H₀) (nl : g.H₀.NoLimit) {f : Addr} {ps : List Str} (ok : fnOk K f = true) (hb : ∀ vals : List Value, vals.length = ps.length → bindArgs (fdAt K f) ⟨vals, []⟩ = pure (ps.zip vals)) : FnAt g f ps (bodyAt K f) (fdAt K f).scope := by
  unfold fnOk at ok
  split at ok
  · rename_i oc od fd osl hl
    have e : fdAt K f = fd := by unfold fdAt; rw [hl]
    have eb : bodyAt K f = match fd.body with | .stmts b => b | _ => [] := by unfold bodyAt; rw [e]
    rw [e] at hb
    rw [eb, e]
    simp only [Bool.and_eq_true, beq_iff_eq] at ok
    obtain ⟨⟨⟨⟨h1, h2⟩, h3⟩, h4⟩, h5⟩ := ok
    refine ⟨⟨_, fd, X _ _ hl, rfl, ?_, rfl, by simpa using h2, h3, h4, ?_, hb⟩, nl⟩
    · split at h1
      · rename_i b hb'; rw [hb']
      · cases h1
    · split at h5
      · rename_i cc hc
        split at h5
        · rename_i vs _ hk
          split at h5
          · rename_i q t hq
            have : q = fd.qualname := by simpa using h5
            subst this
            exact ⟨cc, _, vs, t, hc, X _ _ hk, rfl, hq⟩
          · cases h5
        · cases h5
      · cases h5
  · cases ok
theorem callee_fn {f : Addr} {ps : List Str} {body : List Stmt} {sc : Scope} (h : FnAt g f ps body sc) : Callee g (.ref f) := let ⟨_, _, h1, h2, _⟩ := h.ex; .fn h1 h2

/-- all that a walk asks of the top -/
structure TopG (g : Gx) (K : Frag) : Prop where
  X : K.In g.H₀
  nl : g.H₀.NoLimit
  names : ∃ mg mb, g.H₀.Ns mainGlobals mg ∧ g.H₀.Ns builtinsNs mb ∧ (∀ x v, nsIn K mainGlobals x = some (some v) → mg x = some v) ∧ (∀ x v, nsIn K mainGlobals x = some Option.none → PySem.bootBuiltins x = some v → x ≠ "__name__" → mg x = Option.none ∧ mb x = some v)
theorem TopG.glob {K : Frag} (T : TopG g K) {x : Str} {v : Value} (h : nsIn K mainGlobals x = some (some v)) (hd : (x == ("__debug__" : Str)) = false := by decide) : Glob g.H₀ x v := by
  obtain ⟨mg, mb, h1, h2, h3, _⟩ := T.names
  exact ⟨hd, mg, mb, h1, h2, .inl (h3 x v h)⟩
theorem TopG.blt {K : Frag} (T : TopG g K) {x : Str} {v : Value} (h : nsIn K mainGlobals x = some Option.none) (hv : PySem.bootBuiltins x = some v) (hn : x ≠ "__name__" := by decide) (hd : (x == ("__debug__" : Str)) = false := by decide) : Glob g.H₀ x v := by
  obtain ⟨mg, mb, h1, h2, _, h3⟩ := T.names
  obtain ⟨a, b⟩ := h3 x v h hv hn
  exact ⟨hd, mg, mb, h1, h2, .inr ⟨a, b⟩⟩
end Mine

end

section
namespace Mine
open PySem PySem.W
variable {g : Gx} {c : Cx g} {ρ : Rho} {σ : Sto}

inductive MemR (x : Str) (v : AV) : Rho → Prop
  | head {r : Rho} : MemR x v ((x, some v) :: r)
  | tail {p : Str × Option AV} {r : Rho} : MemR x v r → MemR x v (p :: r)
theorem MemR.mem {x : Str} {v : AV} {r : Rho} (h : MemR x v r) : (x, some v) ∈ r := by
  induction h with
  | head => exact List.mem_cons_self
  | tail _ ih => exact List.mem_cons_of_mem _ ih
theorem ev_nm {x pos v} {Q : AV → Sto → Prop} (hx : MemR x v ρ) (q : Q v σ) : ev c ρ (.Name x pos) σ Q := ev_name hx.mem q
theorem evl_nil {Q : List AV → Sto → Prop} (h : Q [] σ) : evl c ρ [] σ Q := h
theorem evl_cons {e : Expr} {r : List Expr} {Q : List AV → Sto → Prop} (h : ev c ρ e σ fun x σ₁ => evl c ρ r σ₁ fun l σ₂ => Q (x :: l) σ₂) : evl c ρ (e :: r) σ Q := h
theorem evAnd_nil {Q : Bool → Sto → Prop} (h : Q true σ) : evAll c ρ .And [] σ Q := h
theorem evOr_nil {Q : Bool → Sto → Prop} (h : Q false σ) : evAll c ρ .Or [] σ Q := h
def br (b : Bool) (p q : Prop) : Prop := (b = true → p) ∧ (b = false → q)
theorem br_true {p q : Prop} (h : p) : br true p q := ⟨fun _ => h, fun e => by cases e⟩
theorem br_false {p q : Prop} (h : q) : br false p q := ⟨(fun e => by cases e), fun _ => h⟩
theorem br_intro {b : Bool} {p q : Prop} (h1 : b = true → p) (h2 : b = false → q) : br b p q := ⟨h1, h2⟩
theorem evAnd_cons {e : Expr} {r : List Expr} {Q : Bool → Sto → Prop} (h : evb c ρ e σ fun b σ₁ => br b (evAll c ρ .And r σ₁ Q) (Q false σ₁)) : evAll c ρ .And (e :: r) σ Q :=
  gv.mono h fun b σ₁ h => by cases b; exact h.2 rfl; exact h.1 rfl
theorem evOr_cons {e : Expr} {r : List Expr} {Q : Bool → Sto → Prop} (h : evb c ρ e σ fun b σ₁ => br b (Q true σ₁) (evAll c ρ .Or r σ₁ Q)) : evAll c ρ .Or (e :: r) σ Q :=
  gv.mono h fun b σ₁ h => by cases b; exact h.2 rfl; exact h.1 rfl
theorem es_ifc {test body orelse pos} {Q : AFl → Rho → Sto → Prop} (h : evb c ρ test σ fun b σ' => br b (es c ρ (execs body c.env) σ' Q) (es c ρ (execs orelse c.env) σ' Q)) :
    es c ρ (exec (.If test body orelse pos) c.env) σ Q := es_if (gv.mono h fun b σ₁ h => by cases b; exact h.2 rfl; exact h.1 rfl)
theorem evVal_one {op : BoolOp} {e : Expr} {Q : AV → Sto → Prop} (h : ev c ρ e σ Q) : evVal c ρ op [e] σ Q := h
theorem evVal_and {e e' : Expr} {r : List Expr} {Q : AV → Sto → Prop} (h : ev c ρ e σ fun x σ₁ => opb c truthy x σ₁ fun b σ₂ => br b (evVal c ρ .And (e' :: r) σ₂ Q) (Q x σ₂)) : evVal c ρ .And (e :: e' :: r) σ Q :=
  gv.mono h fun x σ₁ h s a i r => pg.mono (h s a i r) fun b σ₂ h => by cases b; exact h.2 rfl; exact h.1 rfl
theorem evVal_or {e e' : Expr} {r : List Expr} {Q : AV → Sto → Prop} (h : ev c ρ e σ fun x σ₁ => opb c truthy x σ₁ fun b σ₂ => br b (Q x σ₂) (evVal c ρ .Or (e' :: r) σ₂ Q)) : evVal c ρ .Or (e :: e' :: r) σ Q :=
  gv.mono h fun x σ₁ h s a i r => pg.mono (h s a i r) fun b σ₂ h => by cases b; exact h.2 rfl; exact h.1 rfl
theorem es_one {st : Stmt} {Q : AFl → Rho → Sto → Prop} (h : es c ρ (exec st c.env) σ Q) : es c ρ (execs [st] c.env) σ Q :=
  es_cons (es.mono h fun x ρ' σ' q => by cases x <;> first | exact es_nil q | exact q)
/-- a statement that goes on -/
def thn (c : Cx g) (rest : List Stmt) (Q : AFl → Rho → Sto → Prop) : AFl → Rho → Sto → Prop := fun fl ρ' σ' => match fl with | .next => es c ρ' (execs rest c.env) σ' Q | fl => Q fl ρ' σ'
theorem es_seq {st rest} {Q : AFl → Rho → Sto → Prop} (h : es c ρ (exec st c.env) σ (thn c rest Q)) : es c ρ (execs (st :: rest) c.env) σ Q := es_cons h
theorem thn_next {rest} {Q : AFl → Rho → Sto → Prop} (h : es c ρ (execs rest c.env) σ Q) : thn c rest Q .next ρ σ := h
theorem thn_ret {rest} {x : AV} {Q : AFl → Rho → Sto → Prop} (h : Q (.ret x) ρ σ) : thn c rest Q (.ret x) ρ σ := h
theorem post_ret {Q : AV → Sto → Prop} {x : AV} (h : Q x σ) : fnPost Q (.ret x) ρ σ := h
theorem post_next {Q : AV → Sto → Prop} (h : Q .none σ) : fnPost Q .next ρ σ := h
/-- what a turn's end is -/
def trn (Q : AFl → Rho → Sto → Prop) (J : Rho → Sto → Prop) : AFl → Rho → Sto → Prop := fun fl ρ' σ' => match fl with
  | .next | .cont => ∃ ρ'', Wk ρ'' ρ' ∧ J ρ'' σ'
  | .brk => Q .next ρ' σ'
  | .ret v => Q (.ret v) ρ' σ'
theorem trn_next {Q : AFl → Rho → Sto → Prop} {J : Rho → Sto → Prop} {ρ'' : Rho} (hw : Wk ρ'' ρ) (h : J ρ'' σ) : trn Q J .next ρ σ := ⟨ρ'', hw, h⟩
theorem trn_ret {Q : AFl → Rho → Sto → Prop} {J : Rho → Sto → Prop} {x : AV} (h : Q (.ret x) ρ σ) : trn Q J (.ret x) ρ σ := h
theorem es_loop {x : Str} {px : Pos} {iter : Expr} {body : List Stmt} {pos : Pos} {Q : AFl → Rho → Sto → Prop} (J : List AV → Rho → Sto → Prop) (hfn : c.isFn = true)
    (h : ev c ρ iter σ fun y σ₁ => ∃ l, Iter c y l ∧ J l ρ σ₁)
    (turn : ∀ c' : Cx g, c'.A = c.A → c'.sc = c.sc → c'.isFn = true → ∀ y rest ρ₁ σ₁, J (y :: rest) ρ₁ σ₁ → ∃ ρ₂, Upd x y ρ₁ ρ₂ ∧ es c' ρ₂ (execs body c'.env) σ₁ (trn Q (J rest)))
    (done : ∀ ρ₁ σ₁, J [] ρ₁ σ₁ → Q .next ρ₁ σ₁)
    (hs : ∀ x, foldedSetIterable iter c.env x = pure x := by intro _; rfl) : es c ρ (exec (.For (.Name x px) iter body [] pos) c.env) σ Q :=
  es_for J hfn h (fun c' hs y rest ρ₁ σ₁ hJ => turn c' hs.A hs.sc (hs.fn.trans hfn) y rest ρ₁ σ₁ hJ) done hs
theorem upd_ex {x : Str} {y : AV} {ρ₁ ρ₂ : Rho} {P : Rho → Prop} (hu : Upd x y ρ₁ ρ₂) (h : P ρ₂) : ∃ ρ', Upd x y ρ₁ ρ' ∧ P ρ' := ⟨_, hu, h⟩
theorem callee_K {K : Frag} (X : K.In g.H₀) {f : Addr} (ok : fnOk K f = true) : Callee g (.ref f) := by
  unfold fnOk at ok
  split at ok
  · rename_i hl; exact .fn (X _ _ hl) rfl
  · cases ok
/-- a call of a def of the text, by its name -/
theorem ev_callF {K : Frag} {sc : Scope} {id : Str} {p pos : Pos} {e : Expr} {rest : List Expr} {f : Addr} {Q : AV → Sto → Prop} (T : TopG g K) (hsc : c.sc = sc) (hn : nsIn K mainGlobals id = some (some (.ref f))) (hx : sc.names.lookup id = some .globalImplicit) (ok : fnOk K f = true)
    (h : evl c ρ (e :: rest) σ fun xs σ₁ => cal c (.ref f) xs σ₁ Q) (hd : (id == ("__debug__" : Str)) = false := by rfl) (hp : (e :: rest).all noStar = true := by rfl) : ev c ρ (.Call (.Name id p) (e :: rest) [] pos) σ Q :=
  ev_call (T.glob hn hd) (by rw [hsc]; exact hx) (callee_K T.X ok) h hp
/-- a call of a built-in by its name -/
theorem ev_callB {K : Frag} {sc : Scope} {id : Str} {p pos : Pos} {e : Expr} {rest : List Expr} {v : Value} {Q : AV → Sto → Prop} (hv : PySem.bootBuiltins id = some v) (hc : Callee g v) (T : TopG g K) (hsc : c.sc = sc) (hn : nsIn K mainGlobals id = some Option.none) (hx : sc.names.lookup id = some .globalImplicit)
    (h : evl c ρ (e :: rest) σ fun xs σ₁ => cal c v xs σ₁ Q) (hn' : id ≠ "__name__" := by decide) (hd : (id == ("__debug__" : Str)) = false := by rfl) (hp : (e :: rest).all noStar = true := by rfl) : ev c ρ (.Call (.Name id p) (e :: rest) [] pos) σ Q :=
  ev_call (T.blt hn hv hn' hd) (by rw [hsc]; exact hx) hc h hp
inductive FrI : Rho → Rho → Prop
  | nil {ρ : Rho} : FrI [] ρ
  | cons {x : Str} {v : AV} {fr ρ : Rho} : MemR x v ρ → FrI fr ρ → FrI ((x, some v) :: fr) ρ
theorem FrI.frIn {fr ρ : Rho} (h : FrI fr ρ) : FrIn fr ρ := by
  induction h with
  | nil => intro p hp; cases hp
  | cons hm _ ih =>
    intro p hp
    rcases List.mem_cons.mp hp with rfl | hp
    · exact ⟨List.mem_map.mpr ⟨_, hm.mem, rfl⟩, fun v' e => by injection e with e; subst e; exact hm.mem⟩
    · exact ih p hp
/-- no test -/
theorem ev_map {sc : Scope} {elt iter : Expr} {x : Str} {px pos : Pos} {scope : Scope} {Q : AV → Sto → Prop} (fr : Rho) (J : List AV → List AV → Sto → Prop) (hsc : c.sc = sc) (hok : compOk x (fr.map (·.1)) scope sc = true) (hfr : FrI fr ρ)
    (h : ev c ρ iter σ fun y σ₁ => ∃ l, Iter c y l ∧ l.length ≤ sizeLine ∧ J l [] σ₁)
    (turn : ∀ c' : Cx g, c'.A = c.A → c'.sc = relab scope sc → ∀ y rest acc σ₁, J (y :: rest) acc σ₁ → ev c' ((x, some y) :: fr) elt σ₁ fun z σ₃ => J rest (acc ++ [z]) σ₃)
    (done : ∀ acc σ₁, J [] acc σ₁ → Q (.list acc) σ₁)
    (hs : ∀ x, foldedSetIterable iter c.env x = pure x := by intro _; rfl) : ev c ρ (.ListComp elt [⟨.Name x px, iter, [], 0⟩] scope pos) σ Q := by
  subst hsc
  exact ev_comp (t := Option.none) J hok hfr.frIn h (fun c' hA hS y rest acc σ₁ hJ => turn c' hA hS y rest acc σ₁ hJ) done hs
/-- one test -/
theorem ev_filt {sc : Scope} {elt iter test : Expr} {x : Str} {px pos : Pos} {scope : Scope} {Q : AV → Sto → Prop} (fr : Rho) (J : List AV → List AV → Sto → Prop) (hsc : c.sc = sc) (hok : compOk x (fr.map (·.1)) scope sc = true) (hfr : FrI fr ρ)
    (h : ev c ρ iter σ fun y σ₁ => ∃ l, Iter c y l ∧ l.length ≤ sizeLine ∧ J l [] σ₁)
    (turn : ∀ c' : Cx g, c'.A = c.A → c'.sc = relab scope sc → ∀ y rest acc σ₁, J (y :: rest) acc σ₁ → evb c' ((x, some y) :: fr) test σ₁ fun b σ₂ => br b (ev c' ((x, some y) :: fr) elt σ₂ fun z σ₃ => J rest (acc ++ [z]) σ₃) (J rest acc σ₂))
    (done : ∀ acc σ₁, J [] acc σ₁ → Q (.list acc) σ₁)
    (hs : ∀ x, foldedSetIterable iter c.env x = pure x := by intro _; rfl) : ev c ρ (.ListComp elt [⟨.Name x px, iter, [test], 0⟩] scope pos) σ Q := by
  subst hsc
  exact ev_comp (t := some test) J hok hfr.frIn h (fun c' hA hS y rest acc σ₁ hJ => gv.mono (turn c' hA hS y rest acc σ₁ hJ) fun b σ₂ h => by cases b; exact h.2 rfl; exact h.1 rfl) done hs
/-- the same, named on its line -/
theorem es_map {sc : Scope} {elt iter : Expr} {x y : Str} {px py pos spos : Pos} {scope : Scope} {Q : AFl → Rho → Sto → Prop} (fr : Rho) (J : List AV → List AV → Sto → Prop) (hfn : c.isFn = true) (hsc : c.sc = sc) (hsw : swOk y py pos scope sc = true) (hok : compOk x (fr.map (·.1)) scope sc = true) (hfr : FrI fr ρ)
    (h : ev c ρ iter σ fun y σ₁ => ∃ l, Iter c y l ∧ l.length ≤ sizeLine ∧ J l [] σ₁)
    (turn : ∀ c' : Cx g, c'.A = c.A → c'.sc = relab scope sc → ∀ y rest acc σ₁, J (y :: rest) acc σ₁ → ev c' ((x, some y) :: fr) elt σ₁ fun z σ₃ => J rest (acc ++ [z]) σ₃)
    (done : ∀ acc σ₁, J [] acc σ₁ → Made (fun z σ₂ => ∃ ρ', Upd y z ρ ρ' ∧ Q .next ρ' σ₂) acc σ₁)
    (hs : ∀ x, foldedSetIterable iter c.env x = pure x := by intro _; rfl) : es c ρ (exec (.Assign [.Name y py] (.ListComp elt [⟨.Name x px, iter, [], 0⟩] scope pos) spos) c.env) σ Q := by
  subst hsc
  exact es_comp (t := Option.none) J hfn hsw hok hfr.frIn h (fun c' hA hS y rest acc σ₁ hJ => turn c' hA hS y rest acc σ₁ hJ) done hs
theorem es_filt {sc : Scope} {elt iter test : Expr} {x y : Str} {px py pos spos : Pos} {scope : Scope} {Q : AFl → Rho → Sto → Prop} (fr : Rho) (J : List AV → List AV → Sto → Prop) (hfn : c.isFn = true) (hsc : c.sc = sc) (hsw : swOk y py pos scope sc = true) (hok : compOk x (fr.map (·.1)) scope sc = true) (hfr : FrI fr ρ)
    (h : ev c ρ iter σ fun y σ₁ => ∃ l, Iter c y l ∧ l.length ≤ sizeLine ∧ J l [] σ₁)
    (turn : ∀ c' : Cx g, c'.A = c.A → c'.sc = relab scope sc → ∀ y rest acc σ₁, J (y :: rest) acc σ₁ → evb c' ((x, some y) :: fr) test σ₁ fun b σ₂ => br b (ev c' ((x, some y) :: fr) elt σ₂ fun z σ₃ => J rest (acc ++ [z]) σ₃) (J rest acc σ₂))
    (done : ∀ acc σ₁, J [] acc σ₁ → Made (fun z σ₂ => ∃ ρ', Upd y z ρ ρ' ∧ Q .next ρ' σ₂) acc σ₁)
    (hs : ∀ x, foldedSetIterable iter c.env x = pure x := by intro _; rfl) : es c ρ (exec (.Assign [.Name y py] (.ListComp elt [⟨.Name x px, iter, [test], 0⟩] scope pos) spos) c.env) σ Q := by
  subst hsc
  exact es_comp (t := some test) J hfn hsw hok hfr.frIn h (fun c' hA hS y rest acc σ₁ hJ => gv.mono (turn c' hA hS y rest acc σ₁ hJ) fun b σ₂ h => by cases b; exact h.2 rfl; exact h.1 rfl) done hs
/-- names, then the made list goes on -/
theorem made_obj {P : Rho → Sto → Prop} {y : Str} {l : List AV} {ρ : Rho} (h : ∀ a, σ a = Option.none → ∃ ρ', Upd y (.obj a) ρ ρ' ∧ P ρ' (σ.set a (.lst l))) : Made (fun z σ₂ => ∃ ρ', Upd y z ρ ρ' ∧ P ρ' σ₂) l σ := .inr h
theorem made_frz {P : Rho → Sto → Prop} {y : Str} {l : List AV} {ρ : Rho} (h : ∃ ρ', Upd y (.list l) ρ ρ' ∧ P ρ' σ) : Made (fun z σ₂ => ∃ ρ', Upd y z ρ ρ' ∧ P ρ' σ₂) l σ := .inl h
theorem evO_none {Q : Option Int → Sto → Prop} (h : Q Option.none σ) : evO c ρ Option.none σ Q := h
theorem evO_some {e : Expr} {Q : Option Int → Sto → Prop} (h : ev c ρ e σ fun x σ₁ => ∃ i, x = .int i ∧ Q (some i) σ₁) : evO c ρ (some e) σ Q := h
theorem int_ex {i : Int} {P : Int → Prop} (h : P i) : ∃ j, AV.int i = .int j ∧ P j := ⟨i, rfl, h⟩
/-- ways that meet -/
def jn (M : Rho → Sto → Prop) : AFl → Rho → Sto → Prop := fun fl ρ' σ' => match fl with
  | .next => ∃ ρ'', Wk ρ'' ρ' ∧ M ρ'' σ'
  | _ => False
theorem jn_next {M : Rho → Sto → Prop} {ρ'' : Rho} (hw : Wk ρ'' ρ) (h : M ρ'' σ) : jn M .next ρ σ := ⟨ρ'', hw, h⟩
theorem es.wk {ρ' : Rho} {t : Sem Flow} {Q : AFl → Rho → Sto → Prop} (hw : Wk ρ ρ') (h : es c ρ t σ Q) : es c ρ' t σ Q := fun s hs => h s (hs.wk hw)
theorem es_join {t : Sem Flow} {rest : List Stmt} {Q : AFl → Rho → Sto → Prop} (M : Rho → Sto → Prop) (h1 : es c ρ t σ (jn M)) (h2 : ∀ ρ' σ', M ρ' σ' → es c ρ' (execs rest c.env) σ' Q) : es c ρ t σ (thn c rest Q) :=
  es.mono h1 fun fl ρ' σ' q => by
    cases fl with
    | next => obtain ⟨ρ'', hw, hm⟩ := q; exact (h2 ρ'' σ' hm).wk hw
    | brk => exact q.elim
    | cont => exact q.elim
    | ret _ => exact q.elim
end Mine

end

section
namespace Mine
open PySem PySem.W

theorem topG_of {p prog : Program} {w : World} {loose : List Str} {mean : ExcName → Option Value} {mg mb : Str → Option Value} {h : Heap} {K : Frag} (T : PyProof.Rows.Top p loose mean mg mb h) (X : K.In h) : TopG ⟨prog, w, h⟩ K :=
  ⟨X, T.nolimit, mg, mb, T.g, T.b, fun x v e => mg_of X T.g e, fun x v e hb hn => ⟨mg_none_of X T.g e, (T.builtins x hn).trans hb⟩⟩

def σ₀ : Sto := fun _ => none
theorem wellAll_ints {P : Params} {h : Heap} {w : World} {F : Fz} : ∀ {vs : List Value} {ns : List Int}, WellAll P h vs ((ns.map PyData.int).map ofPy) → RepL w F vs (ns.map AV.int)
  | _, [], .nil => .nil
  | _, n :: ns, .cons (.int _ t) r => .cons (.int n t) (wellAll_ints r)

theorem fz_none {h : Heap} {b : Addr} {o : Obj} : fz h [] σ₀ b = some o ↔ h.get? b = some o := by
  simp [fz, σ₀]

theorem law_end {prog : Program} {w : World} {s₁ : Shared} {fa l : Addr} {ns : List Int} {cl : ClaimW} {ca : Str → Option Addr} {mean : ExcName → Option Value} {args : List WData}
    (w1 : Well w.params s₁.heap (.ref l) (ofPy (.list (ns.map .int)))) (hg : s₁.gens = #[]) (hn : ∀ k, cl.raises args k = false) (hp : cl.post args (.bool true) args = true)
    (spec : ∀ (c : Cx ⟨prog, w, s₁.heap⟩), c.A = callerA → cal c (.ref fa) [.list (ns.map .int)] σ₀ (fun x _ => x = .bool true)) :
    wpAny (model prog w) callerA (call (.ref fa) [.ref l]) (fun v s' => GoodWG cl ca mean args s₁ (.ok (.ret v)) s') (fun e s' => GoodWG cl ca mean args s₁ (.error e) s') s₁ := by
  have i0 : Inv w s₁.heap [] σ₀ s₁ := ⟨fun b o h => fz_none.2 h, (fun a x h => by cases h), (fun a h => by cases h), (fun a h => by cases h)⟩
  have r0 : Rep w (fz s₁.heap [] σ₀) (.ref l) (.list (ns.map .int)) := by
    unfold ofPy at w1
    cases w1 with
    | list h1 h2 => 
      refine .list (n := 0) (fz_none.2 h1) (wellAll_ints (P := w.params) (h := s₁.heap) ?_)
      rw [← ofPys_eq]; exact h2
  have := spec ⟨callerA, default, [], [], fun _ _ => False, default, true⟩ rfl s₁ [.ref l] i0 (.cons r0 .nil)
  refine wpAny_mono this ?_ (fun _ _ h => h.elim)
  rintro v s' ⟨x, σ', i, e, r, rfl⟩
  cases r
  obtain ⟨h', tk, rfl⟩ := e.same
  refine ⟨.inl ⟨_, _, [], rfl, hn, .bool _, hp, fun _ => ⟨List.nodup_nil, fun _ h => by cases h⟩⟩, .of_keep fun b o h => ?_, rfl, .of_eq hg⟩
  have := e.grow b o (fz_none.2 h)
  exact (fz_eq.1 this).2.2
end Mine

end

section
open PySem PySem.W PyProof.Rows
open_top hd02 for PySem.Challenge.rw_uf060015_02
end
section
open PySem PySem.W Mine
namespace Mine
variable {g : Gx} {c : Cx g} {σ : Sto}
noncomputable abbrev K02 (g : Gx) : Frag := hd02.heap_39 g.w.params

local macro_rules | `(tactic| walk_at "ctor") => `(tactic| repeat with_reducible constructor)
-- one step where nothing is to be said
local macro_rules | `(tactic| walk_at "go1") => `(tactic| first
  | with_reducible refine ev_nm (by walk_at "ctor") ?_
  | with_reducible refine ev_int ?_
  | with_reducible refine ev_none ?_
  | with_reducible refine ev_str ?_
  | with_reducible refine ev_bool ?_
  | with_reducible refine ev_BinOp ?_
  | with_reducible refine evb_Cmp ?_
  | with_reducible refine ev_Cmp ?_
  | with_reducible refine evb_bool ?_
  | with_reducible refine evb_not ?_
  | with_reducible refine evAnd_cons ?_
  | with_reducible refine evAnd_nil ?_
  | with_reducible refine evOr_cons ?_
  | with_reducible refine evOr_nil ?_
  | with_reducible refine ev_sub ?_
  | with_reducible refine evl_cons ?_
  | with_reducible refine evl_nil ?_
  | with_reducible refine op_add ?_
  | with_reducible refine op_sub ?_
  | with_reducible refine op_fdiv (by decide) (by decide) ?_
  | with_reducible refine op_fmod (by decide) ?_
  | with_reducible refine op_mul ?_ (by first | (left; constructor <;> omega) | (right; constructor <;> omega))
  | with_reducible refine cmp_lt ?_
  | with_reducible refine cmp_gt ?_
  | with_reducible refine cmp_eq ?_
  | with_reducible refine cmp_is ?_
  | with_reducible refine cmp_isNot ?_
  | with_reducible refine opb_bool ?_
  | with_reducible refine thn_next ?_
  | with_reducible refine thn_ret ?_
  | with_reducible refine post_ret ?_
  | with_reducible refine post_next ?_
  | with_reducible refine es_nil ?_
  | with_reducible refine es_seq ?_
  | with_reducible refine es_return ?_
  | with_reducible refine es_ifc ?_
  | with_reducible refine trn_ret ?_
  | with_reducible refine ev_boolop ?_
  | with_reducible refine evVal_and ?_
  | with_reducible refine evVal_or ?_
  | with_reducible refine evVal_one ?_
  | with_reducible refine br_true ?_
  | with_reducible refine br_false ?_
  | (with_reducible refine br_intro ?_ ?_) <;> intro _
  | with_reducible refine es_assign ?_ (by assumption) (by with_unfolding_all rfl)
  | with_reducible refine upd_ex (by walk_at "ctor") ?_
  | with_reducible refine es_expr ?_ (by with_unfolding_all rfl))
local macro_rules | `(tactic| walk_at "go") => `(tactic| repeat' (walk_at "go1"))

/-- signs and Nones -/
def sg : Option Str → AV
  | some x => .str x
  | none => .none
def voteF (xs : List (Option Str)) : Option Str := (xs.find? fun x => x.isSome && decide (xs.length < 2 * xs.count x)).getD none

theorem sg_inj {a b : Option Str} : eqA (sg a) (sg b) = (a == b) := by
  cases a <;> cases b <;> simp [sg, eqA]
theorem sg_plain (a : Option Str) : plain (sg a) = true := by cases a <;> rfl
theorem sgs_plain (l : List (Option Str)) : plainL (l.map sg) = true := by
  induction l with
  | nil => rfl
  | cons a l ih => rw [List.map_cons]; unfold plainL; rw [sg_plain, ih]; rfl
theorem sg_deep (a : Option Str) : deep (sg a) = 0 := by cases a <;> rfl
theorem sgs_deep (l : List (Option Str)) : deepL (l.map sg) = 0 := by
  induction l with
  | nil => rfl
  | cons a l ih => rw [List.map_cons]; unfold deepL; rw [sg_deep, ih]; rfl
theorem sgs_count (l : List (Option Str)) (a : Option Str) : (l.map sg).countP (eqA · (sg a)) = l.count a := by
  rw [List.countP_map, List.count]
  congr 1
  funext b
  exact sg_inj
theorem sg_none (a : Option Str) : isNoneA (sg a) = a.isNone := by cases a <;> rfl

theorem blt_len : bootBuiltins "len" = some (.builtin "len") := by decide +kernel

theorem vote_spec {Q : AV → Sto → Prop} (T : TopG g (K02 g)) (hd : c.A.depth < recursionLimit) (hh : c.A.handled = none) (hu : c.A.units + 20 < cLine) {xs : List (Option Str)} (hz : xs.length < 2 ^ 20) (q : Q (sg (voteF xs)) σ) :
    cal c (.ref 21) [.list (xs.map sg)] σ Q := by
  refine cal_fn (ps := ["signs"]) (rest := ["sign"]) (fnAt_of T.X T.nl (by rfl) (fun | [_], _ => by rfl)) (by rfl) hd rfl fun c' hsc hfn hA => ?_
  have hh' : c'.A.handled = none := by rw [hA]; exact hh
  have hu' : c'.A.units + 8 < cLine := by rw [hA]; show c.A.units + 3 + 8 < cLine; omega
  show es c' [(("signs" : Str), some _), (("sign" : Str), none)] (execs (_ :: _) c'.env) σ _
  refine es_seq (es_loop (fun l ρ' σ' => σ' = σ ∧ ρ' = [(("signs" : Str), some (AV.list (xs.map sg))), (("sign" : Str), none)] ∧ ∃ r : List (Option Str), l = r.map sg ∧ (r.find? fun x => x.isSome && decide (xs.length < 2 * xs.count x)).getD none = voteF xs) hfn ?_ ?_ ?_)
  · refine ev_nm (by walk_at "ctor") ?_
    exact ⟨_, iter_list hh' _, rfl, rfl, xs, rfl, rfl⟩
  · rintro c₂ hA₂ hsc₂ hfn₂ y rest ρ₁ σ₁ ⟨rfl, rfl, r, hr, hv⟩
    rw [← hA₂] at hh' hu'
    rw [hsc] at hsc₂
    cases r with
    | nil => cases hr
    | cons a r =>
      rw [List.map_cons] at hr
      injection hr with h1 h2
      subst h1; subst h2
      refine upd_ex (by walk_at "ctor") ?_
      have hcnt : xs.count a < 2 ^ 20 := Nat.lt_of_le_of_lt List.count_le_length hz
      walk_at "go"
      · refine ev_meth F.plainAttrs_list F.slot_list_count F.type_list_count ?_
        walk_at "go"
        refine ⟨.list, ?_⟩
        walk_at "go"
        refine cal_count .list (sgs_plain _) (by rw [sgs_deep]; exact Nat.zero_le _) (sg_plain _) hu' ?_
        rw [sgs_count]
        walk_at "go"
        refine ev_call (T.blt (by rfl) blt_len) (by rw [hsc₂]; rfl) (.builtin _) ?_
        walk_at "go"
        refine cal_len_list .list (by simp; omega) ?_
        walk_at "go"
        · rename_i h1 h2
          rw [sg_none] at h1
          simp only [decide_eq_true_eq, List.length_map] at h2
          have e : voteF xs = a := by
            rw [← hv, List.find?_cons_of_pos]
            · rfl
            · cases a with
              | none => cases h1
              | some x => simp; omega
          rw [e] at q; exact q
        · rename_i h1 h2
          simp only [decide_eq_false_iff_not, List.length_map] at h2
          refine trn_next (by walk_at "ctor") ⟨rfl, rfl, r, rfl, ?_⟩
          rw [← hv, List.find?_cons_of_neg]
          simp
          intro _
          omega
      · rename_i h1
        rw [sg_none] at h1
        refine trn_next (by walk_at "ctor") ⟨rfl, rfl, r, rfl, ?_⟩
        rw [← hv, List.find?_cons_of_neg]
        cases a with
        | none => simp
        | some x => cases h1
  · rintro ρ₁ σ₁ ⟨rfl, rfl, r, hr, hv⟩
    walk_at "go"
    cases r with
    | nil => rw [← hv] at q; exact q
    | cons _ _ => cases hr

def voteG (xs : List (Option Str)) : Option Str := (xs.find? fun x => decide (xs.length < 2 * xs.count x)).getD none
theorem find_eq (p : Option Str → Bool) : ∀ (xs : List (Option Str)), (p none = true → ∀ x ∈ xs, p x = true → x = none) → (xs.find? fun x => x.isSome && p x).getD none = (xs.find? p).getD none := by
  intro xs h
  induction xs with
  | nil => rfl
  | cons a r ih =>
    have ih' := ih fun h0 x hx => h h0 x (List.mem_cons_of_mem _ hx)
    cases hp : p a with
    | false => rw [List.find?_cons_of_neg (by simp [hp]), List.find?_cons_of_neg (by simp [hp])]; exact ih'
    | true =>
      rw [List.find?_cons_of_pos (p := p) hp]
      cases a with
      | some x => rw [List.find?_cons_of_pos (by simp [hp])]
      | none =>
        rw [List.find?_cons_of_neg (by simp)]
        show _ = none
        rw [ih']
        have h1 := h hp
        cases hf : r.find? p with
        | none => rfl
        | some y => exact h1 y (List.mem_cons_of_mem _ (List.mem_of_find?_eq_some hf)) (List.find?_some hf)
theorem count_two {a b : Option Str} (h : a ≠ b) : ∀ xs : List (Option Str), xs.count a + xs.count b ≤ xs.length
  | [] => Nat.le_refl _
  | x :: r => by
    have ih := count_two h r
    rw [List.count_cons, List.count_cons, List.length_cons]
    by_cases h1 : x = a
    · have h2 : x ≠ b := fun e => h (h1.symm.trans e)
      simp [h1, h] ; omega
    · by_cases h2 : x = b
      · simp [h2, Ne.symm h]; omega
      · simp [h1, h2]; omega
theorem vote_same (xs : List (Option Str)) : voteF xs = voteG xs := by
  refine find_eq (fun x => decide (xs.length < 2 * xs.count x)) xs fun h x hx hp => ?_
  simp only [decide_eq_true_eq] at h hp
  by_cases hne : x = none
  · exact hne
  · have := count_two (fun e => hne e.symm : (none : Option Str) ≠ x) xs
    omega

theorem lvote_spec {Q : AV → Sto → Prop} (T : TopG g (K02 g)) (hd : c.A.depth < recursionLimit) (hh : c.A.handled = none) (hu : c.A.units + 20 < cLine) {xs : List (Option Str)} (hz : xs.length < 2 ^ 20) (q : Q (sg (voteG xs)) σ) :
    cal c (.ref 42) [.list (xs.map sg)] σ Q := by
  refine cal_fn (ps := ["_law_signs_here"]) (rest := ["_law_sign"]) (fnAt_of T.X T.nl (by rfl) (fun | [_], _ => by rfl)) (by rfl) hd rfl fun c' hsc hfn hA => ?_
  have hh' : c'.A.handled = none := by rw [hA]; exact hh
  have hu' : c'.A.units + 8 < cLine := by rw [hA]; show c.A.units + 3 + 8 < cLine; omega
  show es c' [(("_law_signs_here" : Str), some _), (("_law_sign" : Str), none)] (execs (_ :: _) c'.env) σ _
  refine es_seq (es_loop (fun l ρ' σ' => σ' = σ ∧ ρ' = [(("_law_signs_here" : Str), some (AV.list (xs.map sg))), (("_law_sign" : Str), none)] ∧ ∃ r : List (Option Str), l = r.map sg ∧ (r.find? fun x => decide (xs.length < 2 * xs.count x)).getD none = voteG xs) hfn ?_ ?_ ?_)
  · refine ev_nm (by walk_at "ctor") ?_
    exact ⟨_, iter_list hh' _, rfl, rfl, xs, rfl, rfl⟩
  · rintro c₂ hA₂ hsc₂ hfn₂ y rest ρ₁ σ₁ ⟨rfl, rfl, r, hr, hv⟩
    rw [← hA₂] at hh' hu'
    rw [hsc] at hsc₂
    cases r with
    | nil => cases hr
    | cons a r =>
      rw [List.map_cons] at hr
      injection hr with h1 h2
      subst h1; subst h2
      refine upd_ex (by walk_at "ctor") ?_
      have hcnt : xs.count a < 2 ^ 20 := Nat.lt_of_le_of_lt List.count_le_length hz
      walk_at "go"
      refine ev_meth F.plainAttrs_list F.slot_list_count F.type_list_count ?_
      walk_at "go"
      refine ⟨.list, ?_⟩
      walk_at "go"
      refine cal_count .list (sgs_plain _) (by rw [sgs_deep]; exact Nat.zero_le _) (sg_plain _) hu' ?_
      rw [sgs_count]
      walk_at "go"
      refine ev_call (T.blt (by rfl) blt_len) (by rw [hsc₂]; rfl) (.builtin _) ?_
      walk_at "go"
      refine cal_len_list .list (by simp; omega) ?_
      walk_at "go"
      · rename_i h2
        simp only [decide_eq_true_eq, List.length_map] at h2
        have e : voteG xs = a := by
          rw [← hv, List.find?_cons_of_pos]
          · rfl
          · simp; omega
        rw [e] at q; exact q
      · rename_i h2
        simp only [decide_eq_false_iff_not, List.length_map] at h2
        refine trn_next (by walk_at "ctor") ⟨rfl, rfl, r, rfl, ?_⟩
        rw [← hv, List.find?_cons_of_neg]
        simp
        omega
  · rintro ρ₁ σ₁ ⟨rfl, rfl, r, hr, hv⟩
    walk_at "go"
    cases r with
    | nil => rw [← hv] at q; exact q
    | cons _ _ => cases hr

theorem blt_isi : bootBuiltins "isinstance" = some (.builtin "isinstance") := by decide +kernel
theorem blt_str : bootBuiltins "str" = some (.type "str") := by decide +kernel
theorem same_spec {Q : AV → Sto → Prop} (T : TopG g (K02 g)) (hd : c.A.depth < recursionLimit) {x : Option Str} (q : Q (.bool true) σ) :
    cal c (.ref 49) [sg x, sg x] σ Q := by
  refine cal_fn (ps := ["_law_found", "_law_due"]) (rest := []) (fnAt_of T.X T.nl (by rfl) (fun | [_, _], _ => by rfl)) (by rfl) hd rfl fun c' hsc hfn hA => ?_
  show es c' [(("_law_found" : Str), some _), (("_law_due" : Str), some _)] (execs (_ :: _) c'.env) σ _
  walk_at "go"
  · rename_i h
    rw [h]; exact q
  · refine ev_call (T.blt (by rfl) blt_isi) (by rw [hsc]; rfl) (.builtin _) ?_
    walk_at "go"
    refine ev_glob (T.blt (by rfl) blt_str) (by rw [hsc]; rfl) ?_
    walk_at "go"
    cases x with
    | none => rename_i h; cases h
    | some x =>
      refine cal_isStr ?_
      walk_at "go"
      refine cmp_eqs ?_
      walk_at "go"
      simpa using q

theorem cell_spec {Q : AV → Sto → Prop} (T : TopG g (K02 g)) (hd : c.A.depth < recursionLimit) {ns : List Int} (hz : ns.length < 2 ^ 20) {k : Int} (h0 : 0 ≤ k) (h1 : k < 2 ^ 20) (q : Q (.int (ns.getD k.toNat 0)) σ) :
    cal c (.ref 28) [.list (ns.map .int), .int k] σ Q := by
  refine cal_fn (ps := ["_law_script", "_law_k"]) (rest := []) (fnAt_of T.X T.nl (by rfl) (fun | [_, _], _ => by rfl)) (by rfl) hd rfl fun c' hsc hfn hA => ?_
  show es c' [(("_law_script" : Str), some _), (("_law_k" : Str), some _)] (execs (_ :: _) c'.env) σ _
  walk_at "go"
  refine ev_call (T.blt (by rfl) blt_len) (by rw [hsc]; rfl) (.builtin _) ?_
  walk_at "go"
  refine cal_len_list .list (by simp; omega) ?_
  walk_at "go"
  · rename_i h
    simp only [decide_eq_true_eq, List.length_map] at h
    have hlt : k.toNat < ns.length := by omega
    refine sub_list .list h0 (by omega) (y := .int ns[k.toNat]) (by simp [hlt]) ?_
    rw [List.getD_eq_getElem?_getD, List.getElem?_eq_getElem hlt] at q
    walk_at "go"
    exact q
  · rename_i h
    simp only [decide_eq_false_iff_not, List.length_map] at h
    rw [List.getD_eq_getElem?_getD, List.getElem?_eq_none (by omega)] at q
    exact q
end Mine

end

section
open PySem PySem.W Mine
namespace Mine
variable {g : Gx} {c : Cx g} {σ : Sto}
local macro_rules | `(tactic| walk_at "ctor") => `(tactic| repeat with_reducible constructor)
-- one step where nothing is to be said
local macro_rules | `(tactic| walk_at "go1") => `(tactic| first
  | with_reducible refine ev_nm (by walk_at "ctor") ?_
  | with_reducible refine ev_int ?_
  | with_reducible refine ev_none ?_
  | with_reducible refine ev_str ?_
  | with_reducible refine ev_bool ?_
  | with_reducible refine ev_BinOp ?_
  | with_reducible refine evb_Cmp ?_
  | with_reducible refine ev_Cmp ?_
  | with_reducible refine evb_bool ?_
  | with_reducible refine evb_not ?_
  | with_reducible refine evAnd_cons ?_
  | with_reducible refine evAnd_nil ?_
  | with_reducible refine evOr_cons ?_
  | with_reducible refine evOr_nil ?_
  | with_reducible refine ev_sub ?_
  | with_reducible refine evl_cons ?_
  | with_reducible refine evl_nil ?_
  | with_reducible refine op_add ?_
  | with_reducible refine op_sub ?_
  | with_reducible refine op_fdiv (by decide) (by decide) ?_
  | with_reducible refine op_fmod (by decide) ?_
  | with_reducible refine op_mul ?_ (by first | (left; constructor <;> omega) | (right; constructor <;> omega))
  | with_reducible refine cmp_lt ?_
  | with_reducible refine cmp_gt ?_
  | with_reducible refine cmp_eq ?_
  | with_reducible refine cmp_is ?_
  | with_reducible refine cmp_isNot ?_
  | with_reducible refine opb_bool ?_
  | with_reducible refine thn_next ?_
  | with_reducible refine thn_ret ?_
  | with_reducible refine post_ret ?_
  | with_reducible refine post_next ?_
  | with_reducible refine es_nil ?_
  | with_reducible refine es_seq ?_
  | with_reducible refine es_return ?_
  | with_reducible refine es_ifc ?_
  | with_reducible refine trn_ret ?_
  | with_reducible refine ev_boolop ?_
  | with_reducible refine evVal_and ?_
  | with_reducible refine evVal_or ?_
  | with_reducible refine evVal_one ?_
  | with_reducible refine br_true ?_
  | with_reducible refine br_false ?_
  | (with_reducible refine br_intro ?_ ?_) <;> intro _
  | with_reducible refine es_assign ?_ (by assumption) (by with_unfolding_all rfl)
  | with_reducible refine upd_ex (by walk_at "ctor") ?_
  | with_reducible refine es_expr ?_ (by with_unfolding_all rfl))
local macro_rules | `(tactic| walk_at "go") => `(tactic| repeat' (walk_at "go1"))

theorem fm_lo (a : Int) {n : Int} (h : 0 < n) : 0 ≤ Int.fmod a n := by
  rw [Int.fmod_eq_emod_of_nonneg a (by omega)]; exact Int.emod_nonneg a (by omega)
theorem fm_hi (a : Int) {n : Int} (h : 0 < n) : Int.fmod a n < n := by
  rw [Int.fmod_eq_emod_of_nonneg a (by omega)]; exact Int.emod_lt_of_pos a h
theorem letter_at {i : Int} (h0 : 0 ≤ i) (h1 : i < 26) : ∃ d, (Str.ofString "abcdefghijklmnopqrstuvwxyz").cps[i.toNat]? = some d := by
  have e : (Str.ofString "abcdefghijklmnopqrstuvwxyz").cps.size = 26 := by decide +kernel
  exact ⟨_, Array.getElem?_eq_getElem (by omega)⟩
theorem Sto.set_set {σ : Sto} {a : Addr} {x y : AObj} : (σ.set a x).set a y = σ.set a y := by
  funext b; unfold Sto.set; by_cases h : b = a <;> simp [h]
theorem Sto.set_del {σ : Sto} {a : Addr} {x : AObj} (h : σ a = Option.none) : (σ.set a x).del a = σ := by
  funext b; unfold Sto.set Sto.del; by_cases hb : b = a
  · subst hb; simp [h]
  · simp [hb]

theorem signs_spec {Q : AV → Sto → Prop} (T : TopG g (K02 g)) (hd : c.A.depth < recursionLimit) (hh : c.A.handled = none) {n : Int} (q : ∀ l : List Str, l.length = 4 → Q (.list (l.map .str)) σ) :
    cal c (.ref 35) [.int n] σ Q := by
  refine cal_fn (ps := ["_law_cell"]) (rest := ["_law_letters", "_law_size", "_law_found", "_law_k", "_law_sign", "_law_place", "_law_ahead", "_law_behind"]) (fnAt_of T.X T.nl (by rfl) (fun | [_], _ => by rfl)) (by rfl) hd rfl fun c' hsc hfn hA => ?_
  have hh' : c'.A.handled = none := by rw [hA]; exact hh
  show es c' [(("_law_cell" : Str), some (.int n)), (("_law_letters" : Str), none), (("_law_size" : Str), none), (("_law_found" : Str), none), (("_law_k" : Str), none), (("_law_sign" : Str), none), (("_law_place" : Str), none), (("_law_ahead" : Str), none), (("_law_behind" : Str), none)] (execs (_ :: _) c'.env) σ _
  walk_at "go"
  have hs0 := fm_lo (n.fdiv 3) (n := 8) (by decide)
  have hs1 := fm_hi (n.fdiv 3) (n := 8) (by decide)
  generalize hsz : 1 + (n.fdiv 3).fmod 8 = sz
  have hz0 : 1 ≤ sz := by omega
  have hz1 : sz ≤ 8 := by omega
  refine ev_list (evl_nil ⟨by decide, .inr fun a ha => ?_⟩)
  walk_at "go"
  refine es_loop (fun l ρ' σ' => ∃ fl : List Str, ∃ r : List Int, l = r.map AV.int ∧ (∀ k ∈ r, 0 ≤ k ∧ k < 4) ∧ fl.length + r.length = 4 ∧ σ' = σ.set a (.lst (fl.map .str)) ∧ ρ' = [(("_law_cell" : Str), some (AV.int n)), (("_law_letters" : Str), some (AV.str "abcdefghijklmnopqrstuvwxyz")), (("_law_size" : Str), some (AV.int sz)), (("_law_found" : Str), some (AV.obj a)), (("_law_k" : Str), none), (("_law_sign" : Str), none), (("_law_place" : Str), none), (("_law_ahead" : Str), none), (("_law_behind" : Str), none)]) hfn ?_ ?_ ?_
  · refine ev_call (T.blt (by rfl) PyProof.Rows.boot_range) (by rw [hsc]; rfl) (.type _) ?_
    walk_at "go"
    refine cal_range1 ⟨_, iter_rng hh' (by decide) (by decide) (by decide) (by decide), [], rngL 0 4, rfl, ?_, by decide, rfl, rfl⟩
    decide
  · rintro c₂ hA₂ hsc₂ hfn₂ y rest ρ₁ σ₁ ⟨fl, r, hr, hrg, hlen, rfl, rfl⟩
    rw [hsc] at hsc₂
    cases r with
    | nil => cases hr
    | cons k r =>
      rw [List.map_cons] at hr
      injection hr with h1 h2
      subst h1; subst h2
      obtain ⟨hk0, hk1⟩ := hrg k List.mem_cons_self
      walk_at "go"
      obtain ⟨d, hd1⟩ := letter_at (fm_lo (n.fdiv 24 + 7 * k) (n := 26) (by decide)) (fm_hi _ (by decide))
      refine sub_str (fm_lo _ (by decide)) (Int.lt_trans (fm_hi _ (by decide)) (by decide)) hd1 ?_
      walk_at "go"
      · refine ev_meth F.plainAttrs_list F.slot_list_append F.type_list_append ?_
        walk_at "go"
        refine ⟨.objL Sto.set_self, ?_⟩
        walk_at "go"
        obtain ⟨d2, hd2⟩ := letter_at (fm_lo (n.fdiv 24) (n := 26) (by decide)) (fm_hi _ (by decide))
        refine sub_str (fm_lo _ (by decide)) (Int.lt_trans (fm_hi _ (by decide)) (by decide)) hd2 ?_
        walk_at "go"
        refine op_muls (Nat.le_of_ble_eq_true rfl) (by omega) (by omega) ?_
        walk_at "go"
        refine cal_append Sto.set_self (by simp only [List.length_map, sizeLine_eq]; omega) ⟨trivial, ?_⟩
        walk_at "go"
        refine trn_next (by walk_at "ctor") ⟨fl ++ [Txt.mul ⟨#[d2]⟩ (1 + 2 * k)], r, rfl, fun k hk => hrg k (List.mem_cons_of_mem _ hk), ?_, ?_, rfl⟩
        · simp only [List.length_append, List.length_cons, List.length_nil] at hlen ⊢; omega
        · rw [Sto.set_set, List.map_append]; rfl
      · refine op_fmod (by omega) ?_
        have hp0 := fm_lo (n.fdiv 5) (n := sz) (by omega)
        have hp1 := fm_hi (n.fdiv 5) (n := sz) (by omega)
        generalize (n.fdiv 5).fmod sz = pl at hp0 hp1 ⊢
        have hc0 := fm_lo n (n := 3) (by decide)
        have hc1 := fm_hi n (n := 3) (by decide)
        walk_at "go"
        obtain ⟨d2, hd2⟩ := letter_at (i := sz) (by omega) (by omega)
        refine sub_str (by omega) (by omega) hd2 ?_
        walk_at "go"
        refine op_muls (Nat.le_of_ble_eq_true rfl) (by omega) (by omega) ?_
        have hm1 := mul_len (x := ⟨#[d2]⟩) (n := pl)
        walk_at "go"
        obtain ⟨d3, hd3⟩ := letter_at (i := sz + n.fmod 3) (by omega) (by omega)
        refine sub_str (by omega) (by omega) hd3 ?_
        walk_at "go"
        refine op_muls (Nat.le_of_ble_eq_true rfl) (by omega) (by omega) ?_
        have hm2 := mul_len (x := ⟨#[d3]⟩) (n := sz - 1 - pl)
        have hl1 : (Str.mk #[d2]).length = 1 := rfl
        have hl2 : (Str.mk #[d3]).length = 1 := rfl
        have hl3 : (Str.mk #[d]).length = 1 := rfl
        rw [hl1] at hm1
        rw [hl2] at hm2
        walk_at "go"
        refine ev_meth F.plainAttrs_list F.slot_list_append F.type_list_append ?_
        walk_at "go"
        refine ⟨.objL Sto.set_self, ?_⟩
        walk_at "go"
        refine op_adds (by rw [sizeLine_eq, hl3]; omega) ?_
        walk_at "go"
        refine op_adds (by rw [sizeLine_eq, Str.length_append, hl3]; omega) ?_
        walk_at "go"
        refine cal_append Sto.set_self (by simp only [List.length_map, sizeLine_eq]; omega) ⟨trivial, ?_⟩
        walk_at "go"
        refine trn_next (by walk_at "ctor") ⟨fl ++ [Txt.mul ⟨#[d2]⟩ pl ++ ⟨#[d]⟩ ++ Txt.mul ⟨#[d3]⟩ (sz - 1 - pl)], r, rfl, fun k hk => hrg k (List.mem_cons_of_mem _ hk), ?_, ?_, rfl⟩
        · simp only [List.length_append, List.length_cons, List.length_nil] at hlen ⊢; omega
        · rw [Sto.set_set, List.map_append]; rfl
  · rintro ρ₁ σ₁ ⟨fl, r, hr, hrg, hlen, rfl, rfl⟩
    cases r with
    | cons _ _ => cases hr
    | nil =>
      refine thn_next (es_one (es_ret_freeze ?_))
      walk_at "go"
      refine ⟨a, _, _, rfl, Sto.set_self, .lst _, ?_⟩
      rw [Sto.set_del ha]
      exact q fl (by simpa using hlen)
end Mine

end

section
open PySem PySem.W Mine
namespace Mine
variable {g : Gx} {c : Cx g} {σ : Sto}
local macro_rules | `(tactic| walk_at "ctor") => `(tactic| repeat with_reducible constructor)
-- one step where nothing is to be said
local macro_rules | `(tactic| walk_at "go1") => `(tactic| first
  | with_reducible refine ev_nm (by walk_at "ctor") ?_
  | with_reducible refine ev_int ?_
  | with_reducible refine ev_none ?_
  | with_reducible refine ev_str ?_
  | with_reducible refine ev_bool ?_
  | with_reducible refine ev_BinOp ?_
  | with_reducible refine evb_Cmp ?_
  | with_reducible refine ev_Cmp ?_
  | with_reducible refine evb_bool ?_
  | with_reducible refine evb_not ?_
  | with_reducible refine evAnd_cons ?_
  | with_reducible refine evAnd_nil ?_
  | with_reducible refine evOr_cons ?_
  | with_reducible refine evOr_nil ?_
  | with_reducible refine ev_slice ?_ (by intro _ _; with_unfolding_all rfl)
  | with_reducible refine ev_sub ?_
  | with_reducible refine evl_cons ?_
  | with_reducible refine evl_nil ?_
  | with_reducible refine op_add ?_
  | with_reducible refine op_sub ?_
  | with_reducible refine op_fdiv (by decide) (by decide) ?_
  | with_reducible refine op_fmod (by decide) ?_
  | with_reducible refine op_mul ?_ (by first | (left; constructor <;> omega) | (right; constructor <;> omega))
  | with_reducible refine cmp_lt ?_
  | with_reducible refine cmp_gt ?_
  | with_reducible refine cmp_eq ?_
  | with_reducible refine cmp_is ?_
  | with_reducible refine cmp_isNot ?_
  | with_reducible refine opb_bool ?_
  | with_reducible refine thn_next ?_
  | with_reducible refine thn_ret ?_
  | with_reducible refine post_ret ?_
  | with_reducible refine post_next ?_
  | with_reducible refine es_nil ?_
  | with_reducible refine es_seq ?_
  | with_reducible refine es_return ?_
  | with_reducible refine es_ifc ?_
  | with_reducible refine trn_ret ?_
  | with_reducible refine ev_boolop ?_
  | with_reducible refine evVal_and ?_
  | with_reducible refine evVal_or ?_
  | with_reducible refine evVal_one ?_
  | with_reducible refine br_true ?_
  | with_reducible refine br_false ?_
  | (with_reducible refine br_intro ?_ ?_) <;> intro _
  | with_reducible refine es_assign ?_ (by assumption) (by with_unfolding_all rfl)
  | with_reducible refine upd_ex (by walk_at "ctor") ?_
  | with_reducible refine es_expr ?_ (by with_unfolding_all rfl)
  | with_reducible refine evO_none ?_
  | with_reducible refine evO_some ?_
  | with_reducible refine int_ex ?_
  | with_reducible refine es_setitem ?_ (by with_unfolding_all rfl))
local macro_rules | `(tactic| walk_at "go") => `(tactic| repeat' (walk_at "go1"))
local macro_rules | `(tactic| walk_at "fn") => `(tactic| (refine ev_callF (by assumption) (by assumption) (by rfl) (by rfl) (by rfl) ?_; walk_at "go"))
local macro_rules | `(tactic| walk_at "len") => `(tactic| (refine ev_callB boot_len (.builtin _) (by assumption) (by assumption) (by rfl) (by rfl) ?_; walk_at "go"))
local macro_rules | `(tactic| walk_at "range") => `(tactic| (refine ev_callB PyProof.Rows.boot_range (.type _) (by assumption) (by assumption) (by rfl) (by rfl) ?_; walk_at "go"))
local macro_rules | `(tactic| walk_at "max") => `(tactic| (refine ev_callB PyProof.Rows.boot_max (.builtin _) (by assumption) (by assumption) (by rfl) (by rfl) ?_; walk_at "go"))
local macro_rules | `(tactic| walk_at "list") => `(tactic| (refine ev_callB PyProof.Rows.boot_list (.type _) (by assumption) (by assumption) (by rfl) (by rfl) ?_; walk_at "go"))
local macro_rules | `(tactic| walk_at "isinstance") => `(tactic| (refine ev_callB PyProof.Rows.boot_isinstance (.builtin _) (by assumption) (by assumption) (by rfl) (by rfl) ?_; walk_at "go"))
-- _law_cell_at(_law_script, k)
local macro_rules | `(tactic| walk_at "cell") => `(tactic| (walk_at "fn"; refine cell_spec (by assumption) (by assumption) (by omega) (by decide) (by decide) ?_; walk_at "go"))

theorem law_spec {Q : AV → Sto → Prop} (T : TopG g (K02 g)) (hd : c.A.depth + 5 < recursionLimit) (hh : c.A.handled = none) (hu : c.A.units + 60 < cLine) {ns : List Int} (hz : ns.length ≤ 63) (q : Q (.bool true) σ) :
    cal c (.ref 54) [.list (ns.map .int)] σ Q := by
  refine cal_fn (ps := ["_law_script"]) (rest := ["_law_signs_here", "_law_few", "_law_listed", "_law_size", "_law_k", "_law_kept"]) (fnAt_of T.X T.nl (by rfl) (fun | [_], _ => by rfl)) (by rfl) (by omega) rfl fun c' hsc hfn hA => ?_
  have hh' : c'.A.handled = none := by rw [hA]; exact hh
  have hd' : c'.A.depth < recursionLimit := by rw [hA]; show c.A.depth + 1 < _; omega
  have hu' : c'.A.units + 20 < cLine := by rw [hA]; show c.A.units + 3 + 20 < cLine; omega
  show es c' [(("_law_script" : Str), some (AV.list (ns.map .int))), (("_law_signs_here" : Str), none), (("_law_few" : Str), none), (("_law_listed" : Str), none), (("_law_size" : Str), none), (("_law_k" : Str), none), (("_law_kept" : Str), none)] (execs (_ :: _) c'.env) σ _
  walk_at "go"
  walk_at "fn"
  walk_at "cell"
  refine signs_spec T hd' hh' fun l hl => ?_
  walk_at "go"
  refine ev_list (evl_cons (ev_none (evl_nil ⟨by decide, .inl ?_⟩)))
  generalize hS : l.map some ++ [none] = S
  have hSl : S.length = 5 := by rw [← hS]; simp [hl]
  have hSe : l.map AV.str ++ [AV.none] = S.map sg := by rw [← hS]; simp [sg, Function.comp_def]
  refine op_addl .list .list (by simp [hl, sizeLine_eq]) (.inl ?_)
  rw [hSe]
  walk_at "go"
  walk_at "cell"
  generalize hc1 : ns.getD (Int.toNat 1) 0 = c1
  have hf0 := fm_lo c1 (n := 5) (by decide)
  have hf1 := fm_hi c1 (n := 5) (by decide)
  generalize hfew : 1 + c1.fmod 5 = few
  have hcl : (cut (ns.map AV.int) (some 2) (some 42)).length ≤ 40 := by
    unfold cut
    rw [List.length_take, List.length_drop]
    simp only [Option.elim]
    have e1 := clipAt_nat (ns.map AV.int).length 2
    have e2 := clipAt_nat (ns.map AV.int).length 42
    rw [show ((2 : Nat) : Int) = 2 from rfl] at e1
    rw [show ((42 : Nat) : Int) = 42 from rfl] at e2
    rw [e1, e2]
    omega
  have hcm : cut (ns.map AV.int) (some 2) (some 42) = (cut ns (some 2) (some 42)).map AV.int := by
    unfold cut; simp
  generalize hX : cut ns (some 2) (some 42) = X at hcm
  rw [hcm, List.length_map] at hcl
  refine es_map [(("_law_few" : Str), some (AV.int few)), (("_law_script" : Str), some (AV.list (ns.map .int))), (("_law_signs_here" : Str), some (AV.list (S.map sg)))] (fun l acc σ₁ => σ₁ = σ ∧ ∃ r : List Int, ∃ B : List (Option Str), l = r.map AV.int ∧ acc = B.map sg ∧ B.length + r.length = X.length) hfn hsc (by rfl) (by rfl) (by walk_at "ctor") ?_ ?_ ?_
  · walk_at "go"
    refine ⟨_, .list, by simp [sizeLine_eq]; omega, .inl ?_⟩
    rw [hcm]
    exact ⟨_, iter_list hh' _, by rw [List.length_map, sizeLine_eq]; omega, rfl, X, [], rfl, rfl, by simp⟩
  · rintro c₂ hA₂ hsc₂ y rest acc σ₁ ⟨rfl, r, B, hr, rfl, hlen⟩
    cases r with
    | nil => cases hr
    | cons k r =>
      rw [List.map_cons] at hr
      injection hr with h1 h2
      subst h1; subst h2
      rw [← hA₂] at hd'
      walk_at "go"
      walk_at "cell"
      rw [hc1]
      refine op_fmod (by omega) ?_
      have hx0 := fm_lo (k + c1.fdiv 5) (n := few) (by omega)
      have hx1 := fm_hi (k + c1.fdiv 5) (n := few) (by omega)
      generalize (k + c1.fdiv 5).fmod few = ix at hx0 hx1 ⊢
      have hlt : ix.toNat < S.length := by omega
      refine sub_list (y := sg S[ix.toNat]) .list hx0 (by omega) (by simp [hlt]) ?_
      refine ⟨rfl, r, B ++ [S[ix.toNat]], rfl, by simp, by simp at hlen ⊢; omega⟩
  · rintro acc σ₁ ⟨rfl, r, B, hr, rfl, hlen⟩
    refine made_obj fun a ha => ?_
    have hBl : B.length ≤ 40 := by omega
    refine upd_ex (by walk_at "ctor") ?_
    refine thn_next (es_seq ?_)
    refine es_join (fun ρ' σ' => ∃ B : List (Option Str), B.length ≤ 40 ∧ σ' = σ₁.set a (.lst (B.map sg)) ∧ ρ' = [(("_law_script" : Str), some (AV.list (ns.map .int))), (("_law_signs_here" : Str), some (AV.list (S.map sg))), (("_law_few" : Str), some (AV.int few)), (("_law_listed" : Str), some (AV.obj a)), (("_law_size" : Str), none), (("_law_k" : Str), none), (("_law_kept" : Str), none)]) ?_ ?_
    · walk_at "go"
      refine ev_list (evl_nil ⟨by decide, .inl ?_⟩)
      refine cmp_nel (.obj Sto.set_self) .list (sgs_plain _) rfl (by rw [sgs_deep]; exact Nat.zero_le _) (by omega) ?_
      walk_at "go"
      · rename_i hne
        have hB0 : 0 < B.length := by
          cases B with
          | nil => cases hne
          | cons _ _ => simp
        walk_at "cell"
        · walk_at "len"
          refine cal_len_list (.obj Sto.set_self) (by rw [List.length_map]; omega) ?_
          walk_at "go"
          walk_at "cell"
          rw [hc1, List.length_map]
          have hm0 := fm_lo (c1.fdiv 75) (n := 3) (by decide)
          have hm1 := fm_hi (c1.fdiv 75) (n := 3) (by decide)
          rw [Int.fdiv_eq_ediv_of_nonneg (B.length : Int) (by decide : (0 : Int) ≤ 2)]
          generalize hsz : (B.length : Int) / 2 + (c1.fdiv 75).fmod 3 - 1 = sz
          have hsz1 : sz ≤ (B.length : Int) / 2 + 1 := by omega
          refine es_loop (fun l ρ' σ' => ∃ r : List Int, ∃ D : List (Option Str), l = r.map AV.int ∧ (∀ k ∈ r, 0 ≤ k ∧ k < sz) ∧ D.length = B.length ∧ σ' = σ₁.set a (.lst (D.map sg)) ∧ ρ' = [(("_law_script" : Str), some (AV.list (ns.map .int))), (("_law_signs_here" : Str), some (AV.list (S.map sg))), (("_law_few" : Str), some (AV.int few)), (("_law_listed" : Str), some (AV.obj a)), (("_law_size" : Str), some (AV.int sz)), (("_law_k" : Str), none), (("_law_kept" : Str), none)]) hfn ?_ ?_ ?_
          · walk_at "range"
            walk_at "max"
            refine cal_max hh' ?_
            walk_at "go"
            refine cal_range1 ⟨_, iter_rng hh' (by decide) (by decide) (by omega) (by omega), rngL 0 (max 0 sz), B, rfl, ?_, rfl, rfl, rfl⟩
            intro k hk
            simp only [rngL, List.mem_map, List.mem_range] at hk
            obtain ⟨i, hi, rfl⟩ := hk
            omega
          · rintro c₂ hA₂ hsc₂ hfn₂ y rest ρ₁ σ₂ ⟨r, D, hr, hrg, hDl, rfl, rfl⟩
            rw [hsc] at hsc₂
            rw [← hA₂] at hd'
            cases r with
            | nil => cases hr
            | cons k r =>
              rw [List.map_cons] at hr
              injection hr with h1 h2
              subst h1; subst h2
              obtain ⟨hk0, hk1⟩ := hrg k List.mem_cons_self
              walk_at "go"
              walk_at "len"
              refine cal_len_list (.obj Sto.set_self) (by rw [List.length_map]; omega) ?_
              rw [List.length_map, hDl]
              refine op_fdiv (by omega) (by omega) ?_
              have e0 : k.fdiv (B.length : Int) = 0 := by
                rw [Int.fdiv_eq_ediv_of_nonneg k (by omega)]
                exact Int.ediv_eq_zero_of_lt hk0 (by omega)
              rw [e0]
              refine sub_list (y := sg S[0]) .list (by decide) (by decide) (by simp [hSl]) ?_
              walk_at "go"
              walk_at "cell"
              rw [hc1]
              walk_at "len"
              refine cal_len_list (.obj Sto.set_self) (by rw [List.length_map]; omega) ?_
              rw [List.length_map, hDl]
              refine op_fmod (by omega) ?_
              have hx0 := fm_lo (7 * k + c1.fdiv 225) (n := (B.length : Int)) (by omega)
              have hx1 := fm_hi (7 * k + c1.fdiv 225) (n := (B.length : Int)) (by omega)
              refine set_list Sto.set_self hx0 (by rw [List.length_map, hDl]; exact hx1) (by omega) ?_
              walk_at "go"
              refine trn_next (by walk_at "ctor") ⟨r, D.set ((7 * k + c1.fdiv 225).fmod (B.length : Int)).toNat S[0], rfl, fun k hk => hrg k (List.mem_cons_of_mem _ hk), by rw [List.length_set]; exact hDl, ?_, rfl⟩
              rw [Sto.set_set, List.map_set]
          · rintro ρ₁ σ₂ ⟨r, D, hr, hrg, hDl, rfl, rfl⟩
            walk_at "go"
            exact jn_next (by walk_at "ctor") ⟨D, by omega, rfl, rfl⟩
        · exact jn_next (by walk_at "ctor") ⟨B, hBl, rfl, rfl⟩
      · exact jn_next (by walk_at "ctor") ⟨B, hBl, rfl, rfl⟩
    · rintro ρ' σ' ⟨D, hDl, rfl, rfl⟩
      refine es_freeze Sto.set_self (.lst _) (by walk_at "ctor") ?_
      rw [Sto.set_del ha]
      walk_at "go"
      walk_at "list"
      refine cal_list .list (by rw [List.length_map, sizeLine_eq]; omega) (.inl ?_)
      walk_at "go"
      walk_at "fn"
      walk_at "fn"
      refine vote_spec T hd' hh' hu' (by omega) ?_
      walk_at "go"
      walk_at "fn"
      refine lvote_spec T hd' hh' hu' (by omega) ?_
      walk_at "go"
      rw [vote_same]
      refine same_spec T hd' ?_
      walk_at "go"
      walk_at "len"
      refine cal_len_list .list (by rw [List.length_map]; omega) ?_
      walk_at "go"
      walk_at "len"
      refine cal_len_list .list (by rw [List.length_map]; omega) ?_
      walk_at "go"
      · refine cmp_eql .list .list (sgs_plain _) (sgs_plain _) (by rw [sgs_deep]; exact Nat.zero_le _) (by omega) ?_
        walk_at "go"
        rw [eqL_refl (sgs_plain _)]
        exact q
      · rename_i hbad
        simp at hbad
end Mine

end

section
open PySem PySem.W PyProof.Rows
theorem PySem.Challenge.cw_uf060015_02_holds : PySem.Challenge.rw_uf060015_02.Holds := by
  refine hd02 ?_
  k_fill
  intro w s₀ s₁ mg mb G Y fa o pm cd doc dV kV ho hd hcd hD hmg hg args vals as hpre hlay hrd hwl hlo
  have KX := kIn_of Y
  refine Ground.open G ?_
  intro T B D TE TW
  have hfa : fa = 54 := by
    have e := mg_of (n := "law") (v := .ref 54) KX T.g (by rfl)
    have e2 : mg "law" = some (.ref fa) := hmg
    rw [e2] at e
    injection e with e; injection e
  clear ho hd hcd hD hmg
  subst hfa
  wrow_args hpre hlay hrd hwl hlo
  rename_i ns _ _ _ _ _ _ _ _ _ _ _ _ w1 _ _ _ hc _
  refine Mine.law_end w1 hg (raisesW_false (by wrow_none_raised)) (by wrow_post) fun c hA => ?_
  exact Mine.law_spec (Mine.topG_of T KX) (by rw [hA]; decide) (by rw [hA]; rfl) (by rw [hA]; decide) (by omega) rfl

end

