import PyProof.Rows.All
import Wide.All
import OpenK.AllK
import Wide.FinOn
import PyProof.Cells
import PyProof.Walks
import PyProof.CompFree
import PyProof.Rules3
import PyProof.ForRange
import PyProof.DictKinds
import PyProof.ForAny
import OpenK.KWalk
import PyProof.DictRoadsH
import PyProof.TupleKey
import KE.KDictList
import KE.KDictOf
import PyProof.RulesAssignMore
import PyProof.Rows.Chain
import PyProof.ConsumeWalk
import PyProof.StrWalks
import PyProof.AutoSeq1
import PyProof.IsInstance
import PyProof.Rows.TupMore
import PyProof.Rows.ExtendIn
import OpenK.KLine
import Lean
import PySem.Challenge.RW_uf060015_04

set_option Elab.async false
set_option maxRecDepth 100000
set_option maxHeartbeats 8000000
set_option linter.unusedVariables false
set_option linter.unusedSimpArgs false
set_option genSizeOf false
set_option genInjectivity true

section
namespace Mine
open PySem

inductive AV where
  | none
  | bool (b : Bool)
  | int (i : Int)
  | str (x : Str)
  | tup (l : List AV)
  | list (l : List AV)
  | dict (l : List (AV × AV))
  | rng (lo hi : Int)
  | obj (a : Addr)
  | raw (v : Value)

noncomputable abbrev Fz := Addr → Option Obj
noncomputable def Fz.le (F G : Fz) : Prop := ∀ a o, F a = some o → G a = some o
theorem Fz.le.refl (F : Fz) : F.le F := fun _ _ h => h
theorem Fz.le.trans {F G H : Fz} (x : F.le G) (y : G.le H) : F.le H := fun a o h => y a o (x a o h)

noncomputable abbrev lstO (vs : List Value) (n : Nat) : Obj := { cls := .type "list", data := .seq vs.toArray n }
noncomputable abbrev tupO (vs : List Value) (n : Nat) : Obj := { cls := .type "tuple", data := .seq vs.toArray n }
noncomputable abbrev dctO (es : List DictEntry) (n : Nat) : Obj := { cls := .type "dict", data := .dict es.toArray n }

mutual
noncomputable def hK (w : World) : AV → Int
  | .int i => hashInt i
  | .str x => hashStr w x
  | .tup l => reduceHash (Builtin.Tuple.tupleHashOf (hKs w l))
  | _ => 0
noncomputable def hKs (w : World) : List AV → List Int
  | [] => []
  | x :: r => hK w x :: hKs w r
end
mutual
noncomputable def isKey : AV → Bool
  | .int _ => true
  | .str _ => true
  | .tup l => areKeys l
  | _ => false
noncomputable def areKeys : List AV → Bool
  | [] => true
  | x :: r => isKey x && areKeys r
end

noncomputable def DOk (a : Addr) (l : List (AV × AV)) : Prop := (l.map (·.1)).Nodup ∧ (a == sysModules) = false
mutual
inductive Rep (w : World) (F : Fz) : Value → AV → Prop
  | none : Rep w F .none .none
  | bool (b : Bool) : Rep w F (.bool b) (.bool b)
  | int (i : Int) (t : Tok) : Rep w F (.int i t) (.int i)
  | str (x : Str) (t : Tok) : Rep w F (.str x t) (.str x)
  | tup {a : Addr} {vs : List Value} {n : Nat} {l : List AV} : F a = some (tupO vs n) → RepL w F vs l → Rep w F (.ref a) (.tup l)
  | list {a : Addr} {vs : List Value} {n : Nat} {l : List AV} : F a = some (lstO vs n) → RepL w F vs l → Rep w F (.ref a) (.list l)
  | dict {a : Addr} {es : List DictEntry} {n : Nat} {l : List (AV × AV)} : F a = some (dctO es n) → RepE w F es l → DOk a l → Rep w F (.ref a) (.dict l)
  | rng {a : Addr} {lo hi : Int} {t u v : Tok} : F a = some { cls := .type "range", data := .fields #[.int lo t, .int hi u, .int 1 v] } → Rep w F (.ref a) (.rng lo hi)
  | obj (a : Addr) : Rep w F (.ref a) (.obj a)
  | raw (v : Value) : Rep w F v (.raw v)
inductive RepL (w : World) (F : Fz) : List Value → List AV → Prop
  | nil : RepL w F [] []
  | cons {v : Value} {vs : List Value} {x : AV} {l : List AV} : Rep w F v x → RepL w F vs l → RepL w F (v :: vs) (x :: l)
inductive RepE (w : World) (F : Fz) : List DictEntry → List (AV × AV) → Prop
  | nil : RepE w F [] []
  | cons {k v : Value} {es : List DictEntry} {x y : AV} {l : List (AV × AV)} : isKey x = true → Rep w F k x → Rep w F v y → RepE w F es l → RepE w F (⟨hK w x, k, v⟩ :: es) ((x, y) :: l)
end

section
variable {w : World} {F G : Fz}
theorem Rep.mono (hl : F.le G) {v : Value} {x : AV} (r : Rep w F v x) : Rep w G v x :=
  Rep.rec (motive_1 := fun v x _ => Rep w G v x) (motive_2 := fun vs l _ => RepL w G vs l) (motive_3 := fun es l _ => RepE w G es l)
    .none .bool .int .str (fun h _ r => .tup (hl _ _ h) r) (fun h _ r => .list (hl _ _ h) r) (fun h _ n r => .dict (hl _ _ h) r n) (fun h => .rng (hl _ _ h)) .obj .raw .nil (fun _ _ h r => .cons h r) .nil (fun k _ _ _ h h' r => .cons k h h' r) r
theorem RepL.mono (hl : F.le G) {vs : List Value} {l : List AV} (r : RepL w F vs l) : RepL w G vs l :=
  RepL.rec (motive_1 := fun v x _ => Rep w G v x) (motive_2 := fun vs l _ => RepL w G vs l) (motive_3 := fun es l _ => RepE w G es l)
    .none .bool .int .str (fun h _ r => .tup (hl _ _ h) r) (fun h _ r => .list (hl _ _ h) r) (fun h _ n r => .dict (hl _ _ h) r n) (fun h => .rng (hl _ _ h)) .obj .raw .nil (fun _ _ h r => .cons h r) .nil (fun k _ _ _ h h' r => .cons k h h' r) r
theorem RepE.mono (hl : F.le G) {es : List DictEntry} {l : List (AV × AV)} (r : RepE w F es l) : RepE w G es l :=
  RepE.rec (motive_1 := fun v x _ => Rep w G v x) (motive_2 := fun vs l _ => RepL w G vs l) (motive_3 := fun es l _ => RepE w G es l)
    .none .bool .int .str (fun h _ r => .tup (hl _ _ h) r) (fun h _ r => .list (hl _ _ h) r) (fun h _ n r => .dict (hl _ _ h) r n) (fun h => .rng (hl _ _ h)) .obj .raw .nil (fun _ _ h r => .cons h r) .nil (fun k _ _ _ h h' r => .cons k h h' r) r
theorem Rep.inv {v : Value} {x : AV} (r : Rep w F v x) : match x with
  | .none => v = .none | .bool b => v = .bool b | .int i => ∃ t, v = .int i t | .str y => ∃ t, v = .str y t
  | .tup l => ∃ a vs n, v = .ref a ∧ F a = some (tupO vs n) ∧ RepL w F vs l
  | .list l => ∃ a vs n, v = .ref a ∧ F a = some (lstO vs n) ∧ RepL w F vs l
  | .dict l => ∃ a es n, v = .ref a ∧ F a = some (dctO es n) ∧ RepE w F es l ∧ DOk a l
  | .rng lo hi => ∃ a t u z, v = .ref a ∧ F a = some { cls := .type "range", data := .fields #[.int lo t, .int hi u, .int 1 z] }
  | .obj a => v = .ref a | .raw u => v = u := by
  cases r with
  | none => rfl
  | bool => rfl
  | int i t => exact ⟨t, rfl⟩
  | str i t => exact ⟨t, rfl⟩
  | tup h r => exact ⟨_, _, _, rfl, h, r⟩
  | list h r => exact ⟨_, _, _, rfl, h, r⟩
  | dict h r d => exact ⟨_, _, _, rfl, h, r, d⟩
  | rng h => exact ⟨_, _, _, _, rfl, h⟩
  | obj => rfl
  | raw => rfl
theorem Rep.invNone {v : Value} (r : Rep w F v .none) : v = .none := r.inv
theorem Rep.invBool {v : Value} {b : Bool} (r : Rep w F v (.bool b)) : v = .bool b := r.inv
theorem Rep.invInt {v : Value} {i : Int} (r : Rep w F v (.int i)) : ∃ t, v = .int i t := r.inv
theorem Rep.invStr {v : Value} {y : Str} (r : Rep w F v (.str y)) : ∃ t, v = .str y t := r.inv
theorem Rep.invTup {v : Value} {l : List AV} (r : Rep w F v (.tup l)) : ∃ a vs n, v = .ref a ∧ F a = some (tupO vs n) ∧ RepL w F vs l := r.inv
theorem Rep.invList {v : Value} {l : List AV} (r : Rep w F v (.list l)) : ∃ a vs n, v = .ref a ∧ F a = some (lstO vs n) ∧ RepL w F vs l := r.inv
theorem Rep.invDict {v : Value} {l : List (AV × AV)} (r : Rep w F v (.dict l)) : ∃ a es n, v = .ref a ∧ F a = some (dctO es n) ∧ RepE w F es l ∧ DOk a l := r.inv
theorem Rep.invRng {v : Value} {lo hi : Int} (r : Rep w F v (.rng lo hi)) : ∃ a t u z, v = .ref a ∧ F a = some { cls := .type "range", data := .fields #[.int lo t, .int hi u, .int 1 z] } := r.inv
theorem Rep.invObj {v : Value} {a : Addr} (r : Rep w F v (.obj a)) : v = .ref a := r.inv
theorem Rep.invRaw {v u : Value} (r : Rep w F v (.raw u)) : v = u := r.inv
theorem RepL.invNil {vs : List Value} (r : RepL w F vs []) : vs = [] := by cases r; rfl
theorem RepL.invCons {vs : List Value} {x : AV} {l : List AV} (r : RepL w F vs (x :: l)) : ∃ v us, vs = v :: us ∧ Rep w F v x ∧ RepL w F us l := by
  cases r with | cons h r => exact ⟨_, _, rfl, h, r⟩
theorem RepL.one {vs : List Value} {x : AV} (r : RepL w F vs [x]) : ∃ v, vs = [v] ∧ Rep w F v x := by
  obtain ⟨v, us, rfl, h, r⟩ := r.invCons
  obtain rfl := r.invNil
  exact ⟨v, rfl, h⟩
theorem RepL.two {vs : List Value} {x y : AV} (r : RepL w F vs [x, y]) : ∃ v u, vs = [v, u] ∧ Rep w F v x ∧ Rep w F u y := by
  obtain ⟨v, us, rfl, h, r⟩ := r.invCons
  obtain ⟨u, rfl, h'⟩ := r.one
  exact ⟨v, u, rfl, h, h'⟩
theorem RepL.length {vs : List Value} {l : List AV} (h : RepL w F vs l) : vs.length = l.length := by
  induction vs generalizing l with
  | nil => cases h; rfl
  | cons v vs ih => cases h with | cons _ r => rw [List.length_cons, List.length_cons, ih r]
theorem RepL.append {vs ws : List Value} {l m : List AV} (h : RepL w F vs l) (k : RepL w F ws m) : RepL w F (vs ++ ws) (l ++ m) := by
  induction vs generalizing l with
  | nil => cases h; exact k
  | cons v vs ih => cases h with | cons h r => exact .cons h (ih r)
theorem RepL.get {vs : List Value} {l : List AV} (h : RepL w F vs l) {i : Nat} {x : AV} (hx : l[i]? = some x) : ∃ v, vs[i]? = some v ∧ Rep w F v x := by
  induction vs generalizing l i with
  | nil => cases h; simp at hx
  | cons v vs ih =>
    cases h with
    | cons h r =>
      cases i with
      | zero => simp at hx; subst hx; exact ⟨v, rfl, h⟩
      | succ i => exact ih r (by simpa using hx)
theorem RepL.get' {vs : List Value} {l : List AV} (h : RepL w F vs l) {i : Nat} {v : Value} (hv : vs[i]? = some v) : ∃ x, l[i]? = some x ∧ Rep w F v x := by
  induction vs generalizing l i with
  | nil => simp at hv
  | cons u vs ih =>
    cases h with
    | cons h r =>
      cases i with
      | zero => simp at hv; subst hv; exact ⟨_, rfl, h⟩
      | succ i => exact ih r (by simpa using hv)
theorem RepL.set {vs : List Value} {l : List AV} (h : RepL w F vs l) {i : Nat} {v : Value} {x : AV} (hv : Rep w F v x) : RepL w F (vs.set i v) (l.set i x) := by
  induction vs generalizing l i with
  | nil => cases h; exact .nil
  | cons u vs ih =>
    cases h with
    | cons h r =>
      cases i with
      | zero => exact .cons hv r
      | succ i => exact .cons h (ih r)
theorem RepL.take {vs : List Value} {l : List AV} (h : RepL w F vs l) (n : Nat) : RepL w F (vs.take n) (l.take n) := by
  induction vs generalizing l n with
  | nil => cases h; simp; exact .nil
  | cons u vs ih =>
    cases h with
    | cons h r =>
      cases n with
      | zero => exact .nil
      | succ n => exact .cons h (ih r n)
theorem RepL.drop {vs : List Value} {l : List AV} (h : RepL w F vs l) (n : Nat) : RepL w F (vs.drop n) (l.drop n) := by
  induction vs generalizing l n with
  | nil => cases h; simp; exact .nil
  | cons u vs ih =>
    cases h with
    | cons h r =>
      cases n with
      | zero => exact .cons h r
      | succ n => exact ih r n
theorem RepE.length {es : List DictEntry} {l : List (AV × AV)} (h : RepE w F es l) : es.length = l.length := by
  induction es generalizing l with
  | nil => cases h; rfl
  | cons v vs ih => cases h with | cons _ _ _ r => rw [List.length_cons, List.length_cons, ih r]
end

inductive AObj where
  | lst (l : List AV)
  | dct (l : List (AV × AV))
  | inst (C d : Addr)
noncomputable abbrev Sto := Addr → Option AObj
noncomputable def Sto.set (σ : Sto) (a : Addr) (x : AObj) : Sto := fun b => if b = a then some x else σ b
noncomputable def Sto.del (σ : Sto) (a : Addr) : Sto := fun b => if b = a then Option.none else σ b
noncomputable def fz (h : Heap) (own : List Addr) (σ : Sto) : Fz := fun a => if (σ a).isSome || own.contains a then Option.none else h.get? a

theorem fz_eq {h : Heap} {own : List Addr} {σ : Sto} {a : Addr} {o : Obj} : fz h own σ a = some o ↔ σ a = Option.none ∧ a ∉ own ∧ h.get? a = some o := by
  unfold fz
  by_cases h1 : (σ a).isSome = true
  · rw [h1]; simp; intro e; rw [e] at h1; cases h1
  · by_cases h2 : a ∈ own
    · simp [h2]
    · have e : σ a = Option.none := by cases hq : σ a with | none => rfl | some x => rw [hq] at h1; simp at h1
      simp [h2, e]

noncomputable def ObjRep (w : World) (F : Fz) (h : Heap) (a : Addr) : AObj → Prop
  | .lst l => ∃ vs n, h.get? a = some (lstO vs n) ∧ RepL w F vs l
  | .dct l => ∃ es n, h.get? a = some (dctO es n) ∧ RepE w F es l ∧ DOk a l
  | .inst C d => h.get? a = some { cls := .ref C, dict := some d, data := .plain }
theorem ObjRep.live {w : World} {F : Fz} {h : Heap} {a : Addr} {x : AObj} (r : ObjRep w F h a x) : ∃ o, h.get? a = some o := by
  cases x with
  | lst l => obtain ⟨_, _, e, _⟩ := r; exact ⟨_, e⟩
  | dct l => obtain ⟨_, _, e, _⟩ := r; exact ⟨_, e⟩
  | inst C d => exact ⟨_, r⟩
theorem ObjRep.mono {w : World} {F G : Fz} {h h' : Heap} {a : Addr} {x : AObj} (r : ObjRep w F h a x) (hl : F.le G) (he : ∀ o, h.get? a = some o → h'.get? a = some o) : ObjRep w G h' a x := by
  cases x with
  | lst l => obtain ⟨vs, n, e, k⟩ := r; exact ⟨vs, n, he _ e, k.mono hl⟩
  | dct l => obtain ⟨vs, n, e, k, m⟩ := r; exact ⟨vs, n, he _ e, k.mono hl, m⟩
  | inst C d => exact he _ r

structure Inv (w : World) (H₀ : Heap) (own : List Addr) (σ : Sto) (s : Shared) : Prop where
  keep : ∀ b o, H₀.get? b = some o → fz s.heap own σ b = some o
  objs : ∀ a x, σ a = some x → ObjRep w (fz s.heap own σ) s.heap a x
  off : ∀ a ∈ own, σ a = Option.none
  live : ∀ a ∈ own, ∃ o, s.heap.get? a = some o

structure Ev (own : List Addr) (σ : Sto) (s : Shared) (σ' : Sto) (s' : Shared) : Prop where
  same : ∃ h' tk, s' = { s with heap := h', toks := tk }
  grow : (fz s.heap own σ).le (fz s'.heap own σ')
  own : ∀ a ∈ own, ∀ o, s.heap.get? a = some o → s'.heap.get? a = some o

theorem Ev.refl (own : List Addr) (σ : Sto) (s : Shared) : Ev own σ s σ s := ⟨⟨s.heap, s.toks, rfl⟩, .refl _, fun _ _ _ h => h⟩
theorem Ev.trans {own : List Addr} {σ σ' σ'' : Sto} {s s' s'' : Shared} (x : Ev own σ s σ' s') (y : Ev own σ' s' σ'' s'') : Ev own σ s σ'' s'' := by
  refine ⟨?_, x.grow.trans y.grow, fun a ha o h => y.own a ha o (x.own a ha o h)⟩
  obtain ⟨h1, t1, rfl⟩ := x.same
  obtain ⟨h2, t2, rfl⟩ := y.same
  exact ⟨h2, t2, rfl⟩

theorem Inv.toks {w : World} {H₀ : Heap} {own : List Addr} {σ : Sto} {s : Shared} (x : Inv w H₀ own σ s) (t : Nat) : Inv w H₀ own σ { s with toks := t } := ⟨x.keep, x.objs, x.off, x.live⟩
theorem Ev.toks (own : List Addr) (σ : Sto) (s : Shared) (t : Nat) : Ev own σ s σ { s with toks := t } := ⟨⟨s.heap, t, rfl⟩, .refl _, fun _ _ _ h => h⟩

theorem keep_fz {h h' : Heap} {own : List Addr} {σ : Sto} (hk : ∀ b o, h.get? b = some o → h'.get? b = some o) : (fz h own σ).le (fz h' own σ) := fun a o e => by
  obtain ⟨e1, e2, e3⟩ := fz_eq.mp e
  exact fz_eq.mpr ⟨e1, e2, hk a o e3⟩
theorem Inv.keeps {w : World} {H₀ : Heap} {own : List Addr} {σ : Sto} {s : Shared} (x : Inv w H₀ own σ s) {h' : Heap} {t : Nat} (hk : ∀ b o, s.heap.get? b = some o → h'.get? b = some o) : Inv w H₀ own σ { s with heap := h', toks := t } :=
  ⟨fun b o e => keep_fz hk b o (x.keep b o e), fun a y e => (x.objs a y e).mono (keep_fz hk) (fun o e => hk a o e), x.off, fun a ha => (x.live a ha).imp fun o e => hk a o e⟩
theorem Ev.keeps {own : List Addr} {σ : Sto} {s : Shared} {h' : Heap} {t : Nat} (hk : ∀ b o, s.heap.get? b = some o → h'.get? b = some o) : Ev own σ s σ { s with heap := h', toks := t } :=
  ⟨⟨h', t, rfl⟩, keep_fz hk, fun a _ o e => hk a o e⟩

theorem push_keeps (h : Heap) (o : Obj) : ∀ b ob, h.get? b = some ob → (h.push o).get? b = some ob := fun _ _ e => Heap.get?_push_of_some _ e
theorem Inv.fresh {w : World} {H₀ : Heap} {own : List Addr} {σ : Sto} {s : Shared} (x : Inv w H₀ own σ s) {a : Addr} (ha : s.heap.objs.size ≤ a) : σ a = Option.none ∧ a ∉ own := by
  refine ⟨?_, fun hm => ?_⟩
  · cases e : σ a with
    | none => rfl
    | some y => obtain ⟨o, ho⟩ := (x.objs a y e).live; exact absurd (Heap.lt_size ho) (Nat.not_lt.mpr ha)
  · obtain ⟨o, ho⟩ := x.live a hm; exact absurd (Heap.lt_size ho) (Nat.not_lt.mpr ha)

end Mine

end

section
namespace Mine
open PySem

noncomputable abbrev Rho := List (Str × Option AV)

structure Gx where
  prog : Program
  w : World
  H₀ : Heap
noncomputable abbrev Gx.M (g : Gx) : Model := model g.prog g.w
structure Cx (g : Gx) where
  A : Around
  env : Env
  own : List Addr
  hid : List Addr
  E : Value → Shared → Prop
  sc : Scope
  isFn : Bool

section
variable {g : Gx}
noncomputable abbrev Cx.F (c : Cx g) (σ : Sto) (s : Shared) : Fz := fz s.heap c.own σ
noncomputable abbrev Cx.Inv (c : Cx g) (σ : Sto) (s : Shared) : Prop := Mine.Inv g.w g.H₀ c.own σ s
noncomputable abbrev Cx.Ev (c : Cx g) (σ : Sto) (s : Shared) (σ' : Sto) (s' : Shared) : Prop := Mine.Ev c.own σ s σ' s'
end

variable {g : Gx}
structure Frame (c : Cx g) (ns : List Str) : Prop where
  sc : c.env.scope = c.sc
  wr : c.isFn = true → ∀ x a, c.env.cells.lookup x = some a → a ∉ c.hid
  kind : c.env.scope.kind = .function
  glob : c.env.globals = mainGlobals
  blt : c.env.builtins = builtinsNs
  loc : c.env.locals ∈ c.own
  loc' : c.env.locals ∉ c.hid
  sub : ∀ a ∈ c.hid, a ∈ c.own
  cells : ∀ x a, c.env.cells.lookup x = some a → a ∈ c.own ∧ a ≠ c.env.locals
  apart : c.isFn = true → c.env.cells.Pairwise fun x y => x.2 ≠ y.2
  kinds : ∀ x ∈ ns, (x == ("__debug__" : Str)) = false ∧ (c.sc.names.lookup x = some .local ∨ (c.sc.names.lookup x = some .cell ∧ ∃ a, c.env.cells.lookup x = some a))
  nodup : ns.Nodup

structure St (c : Cx g) (ρ : Rho) (σ : Sto) (s : Shared) : Prop where
  inv : c.Inv σ s
  fr : Frame c (ρ.map (·.1))
  ns : ∃ m, s.heap.Ns c.env.locals m ∧ ∀ x v, (x, some v) ∈ ρ → c.sc.names.lookup x = some .local → ∃ u, m x = some u ∧ Rep g.w (c.F σ s) u v
  cl : ∀ x a, c.sc.names.lookup x = some .cell → c.env.cells.lookup x = some a → ∃ vo, s.heap.IsCell a vo ∧ ∀ v, (x, some v) ∈ ρ → ∃ u, vo = some u ∧ Rep g.w (c.F σ s) u v

theorem Frame.kindOf {c : Cx g} {ns : List Str} (f : Frame c ns) (x : Str) : c.env.kindOf x = c.sc.names.lookup x := by unfold Env.kindOf; rw [f.sc]

theorem St.ev {c : Cx g} {ρ : Rho} {σ σ' : Sto} {s s' : Shared} (x : St c ρ σ s) (i : c.Inv σ' s') (e : c.Ev σ s σ' s') : St c ρ σ' s' := by
  refine ⟨i, x.fr, ?_, ?_⟩
  · obtain ⟨m, hn, hm⟩ := x.ns
    refine ⟨m, hn.at' fun o ho => e.own _ x.fr.loc o ho, fun y v hy hk => ?_⟩
    obtain ⟨u, h1, h2⟩ := hm y v hy hk
    exact ⟨u, h1, h2.mono e.grow⟩
  · intro y a hk hl
    obtain ⟨vo, ⟨o, ho, hd⟩, hv⟩ := x.cl y a hk hl
    refine ⟨vo, ⟨o, e.own _ (x.fr.cells y a hl).1 o ho, hd⟩, fun v hy => ?_⟩
    obtain ⟨u, h1, h2⟩ := hv v hy
    exact ⟨u, h1, h2.mono e.grow⟩

noncomputable def pg {α β : Type} (c : Cx g) (R : Fz → α → β → Prop) (σ : Sto) (s : Shared) (t : Sem α) (Q : β → Sto → Prop) : Prop :=
  wpAny g.M c.A t (fun v s' => ∃ x σ', c.Inv σ' s' ∧ c.Ev σ s σ' s' ∧ R (c.F σ' s') v x ∧ Q x σ') c.E s
noncomputable abbrev pv (c : Cx g) (σ : Sto) (s : Shared) (t : Sem Value) (Q : AV → Sto → Prop) : Prop := pg c (Rep g.w) σ s t Q
noncomputable abbrev pb (c : Cx g) (σ : Sto) (s : Shared) (t : Sem Bool) (Q : Bool → Sto → Prop) : Prop := pg c (fun _ a b => a = b) σ s t Q
noncomputable abbrev pu (c : Cx g) (σ : Sto) (s : Shared) (t : Sem Unit) (Q : Sto → Prop) : Prop := pg c (fun _ _ (_ : Unit) => True) σ s t (fun _ σ' => Q σ')

noncomputable def op2 (c : Cx g) (f : Value → Value → Sem Value) (x y : AV) (σ : Sto) (Q : AV → Sto → Prop) : Prop := ∀ s a b, c.Inv σ s → Rep g.w (c.F σ s) a x → Rep g.w (c.F σ s) b y → pv c σ s (f a b) Q
noncomputable def opb (c : Cx g) (f : Value → Sem Bool) (x : AV) (σ : Sto) (Q : Bool → Sto → Prop) : Prop := ∀ s a, c.Inv σ s → Rep g.w (c.F σ s) a x → pb c σ s (f a) Q
noncomputable def op3u (c : Cx g) (f : Value → Value → Value → Sem Unit) (x y z : AV) (σ : Sto) (Q : Sto → Prop) : Prop :=
  ∀ s a b d, c.Inv σ s → Rep g.w (c.F σ s) a x → Rep g.w (c.F σ s) b y → Rep g.w (c.F σ s) d z → pu c σ s (f a b d) Q
noncomputable def cal (c : Cx g) (f : Value) (xs : List AV) (σ : Sto) (Q : AV → Sto → Prop) : Prop := ∀ s vs, c.Inv σ s → RepL g.w (c.F σ s) vs xs → pv c σ s (call f vs []) Q

noncomputable def gv {α β : Type} (c : Cx g) (ρ : Rho) (R : Fz → α → β → Prop) (t : Sem α) (σ : Sto) (Q : β → Sto → Prop) : Prop := ∀ s, St c ρ σ s → pg c R σ s t Q
noncomputable abbrev ev (c : Cx g) (ρ : Rho) (e : Expr) (σ : Sto) (Q : AV → Sto → Prop) : Prop := gv c ρ (Rep g.w) (eval e c.env) σ Q
noncomputable abbrev evb (c : Cx g) (ρ : Rho) (e : Expr) (σ : Sto) (Q : Bool → Sto → Prop) : Prop := gv c ρ (fun _ a b => a = b) (isTrue e c.env (eval e c.env)) σ Q
noncomputable def evl (c : Cx g) (ρ : Rho) : List Expr → Sto → (List AV → Sto → Prop) → Prop
  | [], σ, Q => Q [] σ
  | e :: r, σ, Q => ev c ρ e σ fun x σ₁ => evl c ρ r σ₁ fun l σ₂ => Q (x :: l) σ₂

inductive AFl where
  | next | brk | cont
  | ret (x : AV)
inductive RepF (w : World) (F : Fz) : Flow → AFl → Prop
  | next : RepF w F .next .next
  | brk : RepF w F .brk .brk
  | cont : RepF w F .cont .cont
  | ret {v : Value} {x : AV} : Rep w F v x → RepF w F (.ret v) (.ret x)
structure EvS (c : Cx g) (σ : Sto) (s : Shared) (σ' : Sto) (s' : Shared) : Prop where
  same : ∃ h' tk, s' = { s with heap := h', toks := tk }
  grow : (c.F σ s).le (c.F σ' s')
  hid : ∀ a ∈ c.hid, ∀ o, s.heap.get? a = some o → s'.heap.get? a = some o
theorem EvS.refl (c : Cx g) (σ : Sto) (s : Shared) : EvS c σ s σ s := ⟨⟨s.heap, s.toks, rfl⟩, .refl _, fun _ _ _ h => h⟩
theorem EvS.trans {c : Cx g} {σ σ' σ'' : Sto} {s s' s'' : Shared} (x : EvS c σ s σ' s') (y : EvS c σ' s' σ'' s'') : EvS c σ s σ'' s'' := by
  refine ⟨?_, x.grow.trans y.grow, fun a ha o h => y.hid a ha o (x.hid a ha o h)⟩
  obtain ⟨h1, t1, rfl⟩ := x.same
  obtain ⟨h2, t2, rfl⟩ := y.same
  exact ⟨h2, t2, rfl⟩
theorem Ev.toS {c : Cx g} {σ σ' : Sto} {s s' : Shared} (x : c.Ev σ s σ' s') (hs : ∀ a ∈ c.hid, a ∈ c.own) : EvS c σ s σ' s' := ⟨x.same, x.grow, fun a ha => x.own a (hs a ha)⟩

noncomputable def es (c : Cx g) (ρ : Rho) (t : Sem Flow) (σ : Sto) (Q : AFl → Rho → Sto → Prop) : Prop :=
  ∀ s, St c ρ σ s → wpAny g.M c.A t (fun f s' => ∃ fl ρ' σ', St c ρ' σ' s' ∧ EvS c σ s σ' s' ∧ RepF g.w (c.F σ' s') f fl ∧ Q fl ρ' σ') c.E s

section
variable {c : Cx g} {ρ : Rho} {σ : Sto}

theorem pg.use {α β : Type} {R : Fz → α → β → Prop} {s : Shared} {t : Sem α} {Q : β → Sto → Prop} {P : α → Shared → Prop} (h : pg c R σ s t Q) (k : ∀ v s₁ x σ₁, c.Inv σ₁ s₁ → c.Ev σ s σ₁ s₁ → R (c.F σ₁ s₁) v x → Q x σ₁ → P v s₁) : wpAny g.M c.A t P c.E s :=
  wpAny_mono h (fun v s₁ H => Exists.elim H fun x H => Exists.elim H fun σ₁ H => k v s₁ x σ₁ H.1 H.2.1 H.2.2.1 H.2.2.2) fun _ _ e => e
theorem es.use {s : Shared} {t : Sem Flow} {Q : AFl → Rho → Sto → Prop} {P : Flow → Shared → Prop} (h : wpAny g.M c.A t (fun f s' => ∃ fl ρ' σ', St c ρ' σ' s' ∧ EvS c σ s σ' s' ∧ RepF g.w (c.F σ' s') f fl ∧ Q fl ρ' σ') c.E s) (k : ∀ f s₁ fl ρ₁ σ₁, St c ρ₁ σ₁ s₁ → EvS c σ s σ₁ s₁ → RepF g.w (c.F σ₁ s₁) f fl → Q fl ρ₁ σ₁ → P f s₁) : wpAny g.M c.A t P c.E s :=
  wpAny_mono h (fun f s₁ H => Exists.elim H fun fl H => Exists.elim H fun ρ₁ H => Exists.elim H fun σ₁ H => k f s₁ fl ρ₁ σ₁ H.1 H.2.1 H.2.2.1 H.2.2.2) fun _ _ e => e

theorem pg.mono {α β : Type} {R : Fz → α → β → Prop} {s : Shared} {t : Sem α} {Q Q' : β → Sto → Prop} (h : pg c R σ s t Q) (hq : ∀ x σ', Q x σ' → Q' x σ') : pg c R σ s t Q' :=
  pg.use h (fun _ _ x σ' i e r q => ⟨x, σ', i, e, r, hq x σ' q⟩)
theorem gv.mono {α β : Type} {R : Fz → α → β → Prop} {t : Sem α} {Q Q' : β → Sto → Prop} (h : gv c ρ R t σ Q) (hq : ∀ x σ', Q x σ' → Q' x σ') : gv c ρ R t σ Q' := fun s hs => (h s hs).mono hq
theorem es.mono {t : Sem Flow} {Q Q' : AFl → Rho → Sto → Prop} (h : es c ρ t σ Q) (hq : ∀ x ρ' σ', Q x ρ' σ' → Q' x ρ' σ') : es c ρ t σ Q' :=
  fun s hs => es.use (h s hs) (fun _ _ x ρ' σ' i e r q => ⟨x, ρ', σ', i, e, r, hq x ρ' σ' q⟩)
theorem pg.pure {α β : Type} {R : Fz → α → β → Prop} {s : Shared} {v : α} {x : β} {Q : β → Sto → Prop} (i : c.Inv σ s) (r : R (c.F σ s) v x) (q : Q x σ) : pg c R σ s (pure v) Q :=
  wpAny_pure ⟨x, σ, i, .refl .., r, q⟩
theorem pg.of {α β : Type} {R : Fz → α → β → Prop} {s : Shared} {t : Sem α} {Q : β → Sto → Prop} {P : α → Shared → Prop} (h : wpAny g.M c.A t P c.E s)
    (hp : ∀ v s', P v s' → ∃ x σ', c.Inv σ' s' ∧ c.Ev σ s σ' s' ∧ R (c.F σ' s') v x ∧ Q x σ') : pg c R σ s t Q := wpAny_mono h hp fun _ _ e => e

theorem ev_none {k pos} {Q : AV → Sto → Prop} (q : Q .none σ) : ev c ρ (.Constant .none k pos) σ Q := fun s hs => wpAny_Constant_none ⟨_, σ, hs.inv, .refl .., .none, q⟩
theorem ev_bool {b k pos} {Q : AV → Sto → Prop} (q : Q (.bool b) σ) : ev c ρ (.Constant (.bool b) k pos) σ Q := fun s hs => wpAny_Constant_bool ⟨_, σ, hs.inv, .refl .., .bool b, q⟩
theorem ev_int {i k pos} {Q : AV → Sto → Prop} (q : Q (.int i) σ) : ev c ρ (.Constant (.int i) k pos) σ Q := fun s hs => wpAny_Constant_int ⟨_, σ, hs.inv.toks _, .toks .., .int i _, q⟩
theorem ev_str {x k pos} {Q : AV → Sto → Prop} (q : Q (.str x) σ) : ev c ρ (.Constant (.str x) k pos) σ Q := fun s hs => wpAny_Constant_str ⟨_, σ, hs.inv.toks _, .toks .., .str x _, q⟩

theorem ev_name {x pos v} {Q : AV → Sto → Prop} (hx : (x, some v) ∈ ρ) (q : Q v σ) : ev c ρ (.Name x pos) σ Q := fun s hs => by
  have hm : x ∈ ρ.map (·.1) := List.mem_map.mpr ⟨_, hx, rfl⟩
  obtain ⟨hd, hk⟩ := hs.fr.kinds x hm
  rcases hk with hk | ⟨hk, a, ha⟩
  · obtain ⟨m, hn, hm⟩ := hs.ns
    obtain ⟨u, h1, h2⟩ := hm x v hx hk
    exact wpAny_Name (wpAny_loadName_local hs.fr.kind ((hs.fr.kindOf x).trans hk) hn h1 ⟨v, σ, hs.inv, .refl .., h2, q⟩) hd
  · obtain ⟨vo, hc, hv⟩ := hs.cl x a hk ha
    obtain ⟨u, rfl, h2⟩ := hv v hx
    exact wpAny_Name (wpAny_loadName_cell hs.fr.kind ((hs.fr.kindOf x).trans hk) ha hc ⟨v, σ, hs.inv, .refl .., h2, q⟩) hd

noncomputable def Glob (H₀ : Heap) (x : Str) (v : Value) : Prop :=
  (x == ("__debug__" : Str)) = false ∧ ∃ mg mb, H₀.Ns mainGlobals mg ∧ H₀.Ns builtinsNs mb ∧ (mg x = some v ∨ mg x = Option.none ∧ mb x = some v)
theorem ev_glob {x pos v} {Q : AV → Sto → Prop} (hg : Glob g.H₀ x v) (hx : c.sc.names.lookup x = some .globalImplicit) (q : Q (.raw v) σ) : ev c ρ (.Name x pos) σ Q := fun s hs => by
  obtain ⟨hd, mg, mb, h1, h2, h3⟩ := hg
  have hk : ∀ b o, g.H₀.get? b = some o → s.heap.get? b = some o := fun b o e => (fz_eq.mp (hs.inv.keep b o e)).2.2
  have k1 := h1.keeps hk
  have k2 := h2.keeps hk
  rw [← hs.fr.glob] at k1
  rw [← hs.fr.blt] at k2
  refine Calls.Name_function_global hs.fr.kind ((hs.fr.kindOf x).trans hx) ?_ hd
  rcases h3 with h3 | ⟨h3, h4⟩
  · exact Calls.loadGlobal_global k1 h3 ⟨_, σ, hs.inv, .refl .., .raw v, q⟩
  · exact Calls.loadGlobal_builtin k1 h3 k2 h4 ⟨_, σ, hs.inv, .refl .., .raw v, q⟩

theorem ev_BinOp {l op r pos} {Q : AV → Sto → Prop} (h : ev c ρ l σ fun x σ₁ => ev c ρ r σ₁ fun y σ₂ => op2 c (binaryOp op) x y σ₂ Q) : ev c ρ (.BinOp l op r pos) σ Q := fun s hs => by
  refine wpAny_BinOp (pg.use (h s hs) (fun a s₁ x σ₁ i₁ e₁ r₁ q₁ => ?_))
  refine pg.use (q₁ s₁ (hs.ev i₁ e₁)) (fun b s₂ y σ₂ i₂ e₂ r₂ q₂ => ?_)
  exact pg.use (q₂ s₂ a b i₂ (r₁.mono e₂.grow) r₂) (fun v s₃ z σ₃ i₃ e₃ r₃ q₃ => ⟨z, σ₃, i₃, (e₁.trans e₂).trans e₃, r₃, q₃⟩)
theorem ev_Cmp {l op r pos} {Q : AV → Sto → Prop} (h : ev c ρ l σ fun x σ₁ => ev c ρ r σ₁ fun y σ₂ => op2 c (compareOp op) x y σ₂ Q) (hm : behindInMarks op r = false := by with_unfolding_all rfl) : ev c ρ (.Compare l [op] [r] pos) σ Q := fun s hs => by
  refine wpAny_Compare1 (pg.use (h s hs) (fun a s₁ x σ₁ i₁ e₁ r₁ q₁ => ?_)) hm
  refine pg.use (q₁ s₁ (hs.ev i₁ e₁)) (fun b s₂ y σ₂ i₂ e₂ r₂ q₂ => ?_)
  exact pg.use (q₂ s₂ a b i₂ (r₁.mono e₂.grow) r₂) (fun v s₃ z σ₃ i₃ e₃ r₃ q₃ => ⟨z, σ₃, i₃, (e₁.trans e₂).trans e₃, r₃, q₃⟩)
theorem evb_Cmp {l op r pos} {Q : Bool → Sto → Prop} (h : ev c ρ l σ fun x σ₁ => ev c ρ r σ₁ fun y σ₂ => op2 c (compareOp op) x y σ₂ fun z σ₃ => opb c truthy z σ₃ Q) (hm : behindInMarks op r = false := by with_unfolding_all rfl) : evb c ρ (.Compare l [op] [r] pos) σ Q := fun s hs => by
  refine wpAny_isTrue_Compare1 (pg.use (h s hs) (fun a s₁ x σ₁ i₁ e₁ r₁ q₁ => ?_)) hm
  refine pg.use (q₁ s₁ (hs.ev i₁ e₁)) (fun b s₂ y σ₂ i₂ e₂ r₂ q₂ => ?_)
  refine pg.use (q₂ s₂ a b i₂ (r₁.mono e₂.grow) r₂) (fun v s₃ z σ₃ i₃ e₃ r₃ q₃ => ?_)
  exact pg.use (q₃ s₃ v i₃ r₃) (fun v s₄ z σ₄ i₄ e₄ r₄ q₄ => ⟨z, σ₄, i₄, ((e₁.trans e₂).trans e₃).trans e₄, r₄, q₄⟩)
theorem opb_bool {b : Bool} {Q : Bool → Sto → Prop} (q : Q b σ) : opb c truthy (.bool b) σ Q := fun s a i r => by
  (first | obtain rfl := r.invNil | obtain ⟨_, rfl⟩ := r.invInt | obtain rfl := r.invObj | obtain ⟨_, rfl⟩ := r.invStr | obtain rfl := r.invBool | obtain rfl := r.invNone | obtain rfl := r.invRaw); exact wpAny_truthy_bool ⟨b, σ, i, .refl .., rfl, q⟩
theorem evb_value {e : Expr} {Q : Bool → Sto → Prop} (h : ev c ρ e σ fun x σ₁ => opb c truthy x σ₁ Q)
    (he : isTrue e c.env (eval e c.env) = (do let v ← eval e c.env; standAt e.pos; holding [v] (truthy v)) := by rfl) : evb c ρ e σ Q := fun s hs => by
  refine wpAny_isTrue_value (pg.use (h s hs) (fun a s₁ x σ₁ i₁ e₁ r₁ q₁ => ?_)) he
  exact pg.use (q₁ s₁ a i₁ r₁) (fun v s₄ z σ₄ i₄ e₄ r₄ q₄ => ⟨z, σ₄, i₄, e₁.trans e₄, r₄, q₄⟩)
theorem evb_not {x : Expr} {pos : Pos} {Q : Bool → Sto → Prop} (h : evb c ρ x σ fun b σ₁ => Q (!b) σ₁) : evb c ρ (.UnaryOp .Not x pos) σ Q := fun s hs =>
  wpAny_isTrue_Not (pg.use (h s hs) (fun a s₁ x σ₁ i₁ e₁ r₁ q₁ => ⟨!a, σ₁, i₁, e₁, rfl, r₁ ▸ q₁⟩))
theorem ev_not {x : Expr} {pos : Pos} {Q : AV → Sto → Prop} (h : ev c ρ x σ fun y σ₁ => opb c truthy y σ₁ fun b σ₂ => Q (.bool (!b)) σ₂) : ev c ρ (.UnaryOp .Not x pos) σ Q := fun s hs => by
  refine wpAny_UnaryOp (pg.use (h s hs) (fun a s₁ x σ₁ i₁ e₁ r₁ q₁ => ?_))
  exact not_value (pg.use (q₁ s₁ a i₁ r₁) (fun v s₄ z σ₄ i₄ e₄ r₄ q₄ => ⟨_, σ₄, i₄, e₁.trans e₄, r₄ ▸ .bool _, q₄⟩))

noncomputable def evAll (c : Cx g) (ρ : Rho) (op : BoolOp) : List Expr → Sto → (Bool → Sto → Prop) → Prop
  | [], σ, Q => Q (op == .And) σ
  | e :: r, σ, Q => evb c ρ e σ fun b σ₁ => match op, b with
    | .And, false => Q false σ₁
    | .Or, true => Q true σ₁
    | _, _ => evAll c ρ op r σ₁ Q
theorem evAll_sound {op : BoolOp} : ∀ {l : List Expr} {σ : Sto} {Q : Bool → Sto → Prop}, evAll c ρ op l σ Q → gv c ρ (fun _ a b => a = b) (allTrue op l c.env) σ Q
  | [], σ, Q, h => fun s hs => by
    cases op
    · exact wpAny_allTrue_And_nil ⟨_, σ, hs.inv, .refl .., rfl, h⟩
    · exact wpAny_allTrue_Or_nil ⟨_, σ, hs.inv, .refl .., rfl, h⟩
  | e :: r, σ, Q, h => fun s hs => by
    have go : ∀ {s₁ : Shared} {σ₁ : Sto}, c.Inv σ₁ s₁ → c.Ev σ s σ₁ s₁ → evAll c ρ op r σ₁ Q → wpAny g.M c.A (allTrue op r c.env) (fun v s' => ∃ x σ', c.Inv σ' s' ∧ c.Ev σ s σ' s' ∧ v = x ∧ Q x σ') c.E s₁ := fun {s₁ σ₁} i₁ e₁ q =>
      pg.use (evAll_sound q s₁ (hs.ev i₁ e₁)) (fun v s₄ z σ₄ i₄ e₄ r₄ q₄ => ⟨z, σ₄, i₄, e₁.trans e₄, r₄, q₄⟩)
    cases op
    · refine wpAny_allTrue_And_cons (pg.use (h s hs) (fun b s₁ x σ₁ i₁ e₁ r₁ q₁ => ?_))
      subst r₁
      cases b
      · exact ⟨_, σ₁, i₁, e₁, rfl, q₁⟩
      · exact go i₁ e₁ q₁
    · refine wpAny_allTrue_Or_cons (pg.use (h s hs) (fun b s₁ x σ₁ i₁ e₁ r₁ q₁ => ?_))
      subst r₁
      cases b
      · exact go i₁ e₁ q₁
      · exact ⟨_, σ₁, i₁, e₁, rfl, q₁⟩
theorem evb_bool {op : BoolOp} {values : List Expr} {pos : Pos} {Q : Bool → Sto → Prop} (h : evAll c ρ op values σ Q) : evb c ρ (.BoolOp op values pos) σ Q := fun s hs => wpAny_isTrue_BoolOp (evAll_sound h s hs)

noncomputable def evVal (c : Cx g) (ρ : Rho) (op : BoolOp) : List Expr → Sto → (AV → Sto → Prop) → Prop
  | [], _, _ => False
  | [e], σ, Q => ev c ρ e σ Q
  | e :: e' :: r, σ, Q => ev c ρ e σ fun x σ₁ => opb c truthy x σ₁ fun b σ₂ => match op, b with
    | .And, false => Q x σ₂
    | .Or, true => Q x σ₂
    | _, _ => evVal c ρ op (e' :: r) σ₂ Q
theorem evVal_sound {op : BoolOp} {pos : Pos} : ∀ {l : List Expr} {σ : Sto} {Q : AV → Sto → Prop}, evVal c ρ op l σ Q → gv c ρ (Rep g.w) (boolOp pos op (evalEach l c.env)) σ Q
  | [], _, _, h => h.elim
  | [e], σ, Q, h => h
  | e :: e' :: r, σ, Q, h => fun s hs => by
    show wpAny _ _ (do
      let v ← eval e c.env
      standAt pos
      let t ← holding [v] (truthy v)
      match op, t with
      | .And, false | .Or, true => pure v
      | _, _ => boolOp pos op (evalEach (e' :: r) c.env)) _ _ s
    refine wpAny_bind (pg.use (h s hs) (fun a s₁ x σ₁ i₁ e₁ r₁ q₁ => ?_))
    refine wpAny_bind (wpAny_standAt (wpAny_bind (wpAny_holding (pg.use (q₁ s₁ a i₁ r₁) (fun b s₂ y σ₂ i₂ e₂ r₂ q₂ => ?_)))))
    subst r₂
    have go : evVal c ρ op (e' :: r) σ₂ Q → wpAny g.M c.A (boolOp pos op (evalEach (e' :: r) c.env)) (fun v s' => ∃ x σ', c.Inv σ' s' ∧ c.Ev σ s σ' s' ∧ Rep g.w (c.F σ' s') v x ∧ Q x σ') c.E s₂ := fun q =>
      pg.use (evVal_sound q s₂ (hs.ev i₂ (e₁.trans e₂))) (fun v s₄ z σ₄ i₄ e₄ r₄ q₄ => ⟨z, σ₄, i₄, (e₁.trans e₂).trans e₄, r₄, q₄⟩)
    cases op <;> cases b <;> first | exact go q₂ | exact wpAny_pure ⟨x, σ₂, i₂, e₁.trans e₂, r₁.mono e₂.grow, q₂⟩
theorem ev_boolop {op : BoolOp} {values : List Expr} {pos : Pos} {Q : AV → Sto → Prop} (h : evVal c ρ op values σ Q) : ev c ρ (.BoolOp op values pos) σ Q := fun s hs => evVal_sound (pos := pos) h s hs

theorem es_nil {Q : AFl → Rho → Sto → Prop} (q : Q .next ρ σ) : es c ρ (execs [] c.env) σ Q := fun s hs => wpAny_execs_nil ⟨_, ρ, σ, hs, .refl .., .next, q⟩
theorem es_cons {st rest} {Q : AFl → Rho → Sto → Prop} (h : es c ρ (exec st c.env) σ fun g ρ' σ' => match g with | .next => es c ρ' (execs rest c.env) σ' Q | g => Q g ρ' σ') : es c ρ (execs (st :: rest) c.env) σ Q := fun s hs => by
  refine wpAny_execs_cons (es.use (h s hs) (fun f s₁ g ρ₁ σ₁ i₁ e₁ r₁ q₁ => ?_))
  cases r₁ with
  | next => exact es.use (q₁ s₁ i₁) (fun f s₂ g ρ₂ σ₂ i₂ e₂ r₂ q₂ => ⟨g, ρ₂, σ₂, i₂, e₁.trans e₂, r₂, q₂⟩)
  | brk => exact ⟨_, ρ₁, σ₁, i₁, e₁, .brk, q₁⟩
  | cont => exact ⟨_, ρ₁, σ₁, i₁, e₁, .cont, q₁⟩
  | ret h => exact ⟨_, ρ₁, σ₁, i₁, e₁, .ret h, q₁⟩
theorem es_return {e pos} {Q : AFl → Rho → Sto → Prop} (h : ev c ρ e σ fun x σ' => Q (.ret x) ρ σ') : es c ρ (exec (.Return (some e) pos) c.env) σ Q := fun s hs =>
  wpAny_Return_some (pg.use (h s hs) (fun v s₁ x σ₁ i₁ e₁ r₁ q₁ => ⟨_, ρ, σ₁, hs.ev i₁ e₁, e₁.toS hs.fr.sub, .ret r₁, q₁⟩))
theorem es_if {test body orelse pos} {Q : AFl → Rho → Sto → Prop} (h : evb c ρ test σ fun b σ' => match b with | true => es c ρ (execs body c.env) σ' Q | false => es c ρ (execs orelse c.env) σ' Q) :
    es c ρ (exec (.If test body orelse pos) c.env) σ Q := fun s hs => by
  refine wpAny_If (pg.use (h s hs) (fun b s₁ x σ₁ i₁ e₁ r₁ q₁ => ?_))
  subst r₁
  have go : ∀ {l : List Stmt}, es c ρ (execs l c.env) σ₁ Q → wpAny g.M c.A (execs l c.env) (fun f s' => ∃ fl ρ' σ', St c ρ' σ' s' ∧ EvS c σ s σ' s' ∧ RepF g.w (c.F σ' s') f fl ∧ Q fl ρ' σ') c.E s₁ := fun q =>
    es.use (q s₁ (hs.ev i₁ e₁)) (fun f s₂ g ρ₂ σ₂ i₂ e₂ r₂ q₂ => ⟨g, ρ₂, σ₂, i₂, (e₁.toS hs.fr.sub).trans e₂, r₂, q₂⟩)
  cases b
  · exact go q₁
  · exact go q₁

inductive Upd (x : Str) (v : AV) : Rho → Rho → Prop
  | head {o : Option AV} {r : Rho} : Upd x v ((x, o) :: r) ((x, some v) :: r)
  | tail {p : Str × Option AV} {r r' : Rho} : Upd x v r r' → Upd x v (p :: r) (p :: r')
theorem Upd.names {x : Str} {v : AV} {r r' : Rho} (u : Upd x v r r') : r'.map (·.1) = r.map (·.1) := by
  induction u with
  | head => rfl
  | tail _ ih => simp [ih]
theorem Upd.mem {x : Str} {v : AV} {r r' : Rho} (u : Upd x v r r') : x ∈ r.map (·.1) := by
  induction u with
  | head => simp
  | tail _ ih => exact List.mem_cons_of_mem _ ih
theorem Upd.get {x : Str} {v : AV} {r r' : Rho} (u : Upd x v r r') (nd : (r.map (·.1)).Nodup) : ∀ y z, (y, some z) ∈ r' → (y = x ∧ z = v) ∨ (y ≠ x ∧ (y, some z) ∈ r) := by
  induction u with
  | @head o r =>
    intro y z h
    rw [List.map_cons, List.nodup_cons] at nd
    rcases List.mem_cons.mp h with h | h
    · injection h with h1 h2; injection h2 with h2; exact .inl ⟨h1, h2⟩
    · refine .inr ⟨?_, List.mem_cons_of_mem _ h⟩
      intro e
      exact nd.1 (e ▸ List.mem_map.mpr ⟨_, h, rfl⟩)
  | @tail p r r' u ih =>
    intro y z h
    rw [List.map_cons, List.nodup_cons] at nd
    rcases List.mem_cons.mp h with h | h
    · subst h
      refine .inr ⟨?_, List.mem_cons_self⟩
      rintro rfl
      exact nd.1 u.mem
    · rcases ih nd.2 y z h with h | ⟨h1, h2⟩
      · exact .inl h
      · exact .inr ⟨h1, List.mem_cons_of_mem _ h2⟩

theorem fz_sameBut {h h' : Heap} {own : List Addr} {σ : Sto} {a : Addr} (ha : a ∈ own) (hs : Heap.SameBut a h h') : fz h' own σ = fz h own σ := by
  funext b
  unfold fz
  by_cases hb : b = a
  · subst hb; simp [ha]
  · rw [hs.2 b hb]
theorem Inv.sameBut {w : World} {H₀ : Heap} {own : List Addr} {σ : Sto} {s : Shared} (x : Inv w H₀ own σ s) {a : Addr} (ha : a ∈ own) {h' : Heap} {t : Nat} (hs : Heap.SameBut a s.heap h') (hl : ∃ o, h'.get? a = some o) :
    Inv w H₀ own σ { s with heap := h', toks := t } := by
  have e : fz h' own σ = fz s.heap own σ := fz_sameBut ha hs
  refine ⟨fun b o hb => ?_, fun b y hb => ?_, x.off, fun b hb => ?_⟩
  · show fz h' own σ b = _; rw [e]; exact x.keep b o hb
  · show ObjRep w (fz h' own σ) h' b y
    rw [e]
    have hne : b ≠ a := by rintro rfl; rw [x.off b ha] at hb; cases hb
    exact (x.objs b y hb).mono (.refl _) fun o ho => (hs.2 b hne).trans ho
  · by_cases hne : b = a
    · subst hne; exact hl
    · obtain ⟨o, ho⟩ := x.live b hb; exact ⟨o, (hs.2 b hne).trans ho⟩

theorem store_sound {x : Str} {v : Value} {y : AV} {ρ' : Rho} {s : Shared} (hs : St c ρ σ s) (hu : Upd x y ρ ρ') (hc : c.isFn = true)
    (hv : Rep g.w (c.F σ s) v y) {Q : Unit → Shared → Prop} {E : Value → Shared → Prop} (q : ∀ s', St c ρ' σ s' → EvS c σ s σ s' → Q () s') : wpAny g.M c.A (storeName c.env x v) Q E s := by
  have hget := hu.get hs.fr.nodup
  have fr' : Frame c (ρ'.map (·.1)) := by rw [hu.names]; exact hs.fr
  rcases (hs.fr.kinds x hu.mem).2 with hk | ⟨hk, a, ha⟩
  · obtain ⟨m, hn, hm⟩ := hs.ns
    have hp : (c.env.scope.kind == .class || (c.env.scope.kind == .module && c.env.locals != c.env.globals)) = false := by rw [hs.fr.kind]; rfl
    refine wpAny_storeName_local ((hs.fr.kindOf x).trans hk) hn (fun h' hn' hs' => ?_) hp
    have hF : fz h' c.own σ = fz s.heap c.own σ := fz_sameBut hs.fr.loc hs'
    refine q _ ⟨hs.inv.sameBut hs.fr.loc hs' (let ⟨o, _, _, ho, _⟩ := hn'; ⟨o, ho⟩), fr', ⟨_, hn', fun z u hz hkz => ?_⟩, fun z b hkz hbz => ?_⟩
      ⟨⟨_, _, rfl⟩, by show (fz s.heap c.own σ).le (fz h' c.own σ); rw [hF]; exact .refl _, fun b hb o ho => (hs'.2 b (by rintro rfl; exact hs.fr.loc' hb)).trans ho⟩
    · show ∃ u', _ ∧ Rep g.w (fz h' c.own σ) u' u
      rw [hF]
      rcases hget z u hz with ⟨rfl, rfl⟩ | ⟨hne, hz'⟩
      · exact ⟨v, if_pos rfl, hv⟩
      · obtain ⟨u', h1, h2⟩ := hm z u hz' hkz
        exact ⟨u', by rw [if_neg hne]; exact h1, h2⟩
    · obtain ⟨vo, h1, h2⟩ := hs.cl z b hkz hbz
      refine ⟨vo, h1.sameBut hs' (hs.fr.cells z b hbz).2, fun u hz => ?_⟩
      show ∃ u', _ ∧ Rep g.w (fz h' c.own σ) u' u
      rw [hF]
      rcases hget z u hz with ⟨rfl, rfl⟩ | ⟨hne, hz'⟩
      · rw [hk] at hkz; cases hkz
      · exact h2 u hz'
  · obtain ⟨vo, hc0, hvo⟩ := hs.cl x a hk ha
    refine wpAny_storeName_cell hs.fr.kind ((hs.fr.kindOf x).trans hk) ha hc0 fun h' hc' hs' => ?_
    have hao := hs.fr.cells x a ha
    have hF : fz h' c.own σ = fz s.heap c.own σ := fz_sameBut hao.1 hs'
    have e0 : ({ s with heap := h' } : Shared) = { s with heap := h', toks := s.toks } := rfl
    refine q _ ⟨by rw [e0]; exact hs.inv.sameBut hao.1 hs' (let ⟨o, ho, _⟩ := hc'; ⟨o, ho⟩), fr', ?_, fun z b hkz hbz => ?_⟩
      ⟨⟨h', s.toks, rfl⟩, by show (fz s.heap c.own σ).le (fz h' c.own σ); rw [hF]; exact .refl _, fun b hb o ho => (hs'.2 b (by rintro rfl; exact hs.fr.wr hc _ _ ha hb)).trans ho⟩
    · obtain ⟨m, hn, hm⟩ := hs.ns
      refine ⟨m, hn.sameBut hs' (Ne.symm hao.2), fun z u hz hkz => ?_⟩
      show ∃ u', _ ∧ Rep g.w (fz h' c.own σ) u' u
      rw [hF]
      rcases hget z u hz with ⟨rfl, rfl⟩ | ⟨hne, hz'⟩
      · rw [hk] at hkz; cases hkz
      · exact hm z u hz' hkz
    · by_cases hz : z = x
      · subst hz
        rw [ha] at hbz; injection hbz with hbz; subst hbz
        refine ⟨some v, hc', fun u hu' => ?_⟩
        show ∃ u', _ ∧ Rep g.w (fz h' c.own σ) u' u
        rw [hF]
        rcases hget z u hu' with ⟨_, rfl⟩ | ⟨hne, _⟩
        · exact ⟨v, rfl, hv⟩
        · exact absurd rfl hne
      · obtain ⟨vo', h1, h2⟩ := hs.cl z b hkz hbz
        have hba : b ≠ a := by
          rintro rfl
          exact hz (name_of_addr (hs.fr.apart hc) (mem_of_lookup hbz) (mem_of_lookup ha))
        refine ⟨vo', h1.sameBut hs' hba, fun u hu' => ?_⟩
        show ∃ u', _ ∧ Rep g.w (fz h' c.own σ) u' u
        rw [hF]
        rcases hget z u hu' with ⟨rfl, _⟩ | ⟨_, hz'⟩
        · exact absurd rfl hz
        · exact h2 u hz'

theorem es_assign {x pos' value pos} {Q : AFl → Rho → Sto → Prop} (h : ev c ρ value σ fun y σ' => ∃ ρ', Upd x y ρ ρ' ∧ Q .next ρ' σ')
    (hc : c.isFn = true)
    (hw : swapsWith value (some (.Name x pos')) pos.line c.env = pure false := by rfl) : es c ρ (exec (.Assign [.Name x pos'] value pos) c.env) σ Q := fun s hs => by
  refine wpAny_Assign_Name (pg.use (h s hs) (fun v s₁ y σ₁ i₁ e₁ r₁ qq => ?_)) hw
  obtain ⟨ρ', hu, q₁⟩ := qq
  exact store_sound (hs.ev i₁ e₁) hu hc r₁ fun s' hs' e' => ⟨_, ρ', σ₁, hs', (e₁.toS hs.fr.sub).trans e', .next, q₁⟩
end

end Mine

end

section
namespace Mine
open PySem
variable {g : Gx}

theorem bindL_skip {kindOf : Str → Option NameKind} : ∀ {b : List (Str × Value)} {m : Str → Option Value} {x : Str}, x ∉ b.map (·.1) → bindL kindOf b m x = m x
  | [], _, _, _ => rfl
  | (n, v) :: r, m, x, h => by
    rw [List.map_cons, List.mem_cons, not_or] at h
    unfold bindL
    rw [bindL_skip h.2]
    split
    · exact if_neg h.1
    · rfl
theorem bindC_skip {kindOf : Str → Option NameKind} : ∀ {b : List (Str × Value)} {m : Str → Option Value} {x : Str}, x ∉ b.map (·.1) → bindC kindOf b m x = m x
  | [], _, _, _ => rfl
  | (n, v) :: r, m, x, h => by
    rw [List.map_cons, List.mem_cons, not_or] at h
    unfold bindC
    rw [bindC_skip h.2]
    split
    · rfl
    · exact if_neg h.1
theorem bindL_get {kindOf : Str → Option NameKind} : ∀ {b : List (Str × Value)} {m : Str → Option Value} {x : Str} {v : Value}, (b.map (·.1)).Nodup → (x, v) ∈ b → kindOf x = some .local → bindL kindOf b m x = some v
  | (n, u) :: r, m, x, v, nd, h, hk => by
    rw [List.map_cons, List.nodup_cons] at nd
    unfold bindL
    rcases List.mem_cons.mp h with e | h
    · injection e with e1 e2
      subst e1; subst e2
      rw [bindL_skip nd.1, if_pos hk, if_pos rfl]
    · exact bindL_get nd.2 h hk
theorem bindC_get {kindOf : Str → Option NameKind} : ∀ {b : List (Str × Value)} {m : Str → Option Value} {x : Str} {v : Value}, (b.map (·.1)).Nodup → (x, v) ∈ b → kindOf x = some .cell → bindC kindOf b m x = some v
  | (n, u) :: r, m, x, v, nd, h, hk => by
    rw [List.map_cons, List.nodup_cons] at nd
    unfold bindC
    rcases List.mem_cons.mp h with e | h
    · injection e with e1 e2
      subst e1; subst e2
      rw [bindC_skip nd.1, if_neg (by rw [hk]; decide), if_pos rfl]
    · exact bindC_get nd.2 h hk
theorem cellsFrom_has {x : Str} : ∀ (names : List (Str × NameKind)) (n : Nat) (acc : List (Str × Addr)), names.lookup x = some .cell ∨ (acc.lookup x).isSome = true → ((cellsFrom n names acc).lookup x).isSome = true
  | [], _, _, h => h.elim (fun e => by cases e) id
  | (y, k) :: r, n, acc, h => by
    unfold cellsFrom
    by_cases hk : (k == .cell) = true
    · rw [if_pos hk]
      refine cellsFrom_has r (n + 1) ((y, n) :: acc) ?_
      by_cases hy : (x == y) = true
      · exact .inr (by rw [List.lookup_cons, hy]; rfl)
      · refine h.imp (fun e => ?_) fun e => ?_
        · rw [List.lookup_cons] at e; simpa only [hy] using e
        · rw [List.lookup_cons]; simpa only [hy] using e
    · rw [if_neg hk]
      refine cellsFrom_has r n acc ?_
      by_cases hy : (x == y) = true
      · refine .inr (h.elim (fun e => ?_) id)
        rw [List.lookup_cons, hy] at e
        exact absurd (by rw [Option.some.inj e]; rfl) hk
      · refine h.imp (fun e => ?_) id
        rw [List.lookup_cons] at e; simpa only [hy] using e

structure FnAt (g : Gx) (f : Addr) (ps : List Str) (body : List Stmt) (sc : Scope) : Prop where
  ex : ∃ o fd, g.H₀.get? f = some o ∧ o.data = .func fd ∧ fd.body = .stmts body ∧ fd.scope = sc ∧ fd.closure = [] ∧ fd.globals = mainGlobals ∧ fd.builtins = builtinsNs ∧
    g.H₀.CodeRec fd.code fd.qualname ∧ ∀ vals : List Value, vals.length = ps.length → bindArgs fd ⟨vals, []⟩ = pure (ps.zip vals)
  nolimit : g.H₀.NoLimit

noncomputable def scOk (ps rest : List Str) (sc : Scope) : Bool :=
  !sc.isCoroutine && !sc.isGenerator && (sc.kind == .function) && decide ((ps ++ rest).Nodup) &&
  (ps ++ rest).all fun x => !(x == ("__debug__" : Str)) && (sc.names.lookup x == some .local || sc.names.lookup x == some .cell)
noncomputable def rho0 (ps rest : List Str) (xs : List AV) : Rho := ps.zip (xs.map some) ++ rest.map fun x => (x, Option.none)

theorem rho0_names {ps rest : List Str} {xs : List AV} (h : xs.length = ps.length) : (rho0 ps rest xs).map (·.1) = ps ++ rest := by
  unfold rho0
  rw [List.map_append, List.map_map, List.map_fst_zip (by simp [h])]
  congr 1
  exact List.map_id' _
theorem zip_rep {w : World} {F : Fz} : ∀ {ps : List Str} {vs : List Value} {xs : List AV} {x : Str} {v : AV}, RepL w F vs xs → (x, some v) ∈ ps.zip (xs.map some) → ∃ u, (x, u) ∈ ps.zip vs ∧ Rep w F u v
  | [], _, _, _, _, _, h => by simp at h
  | p :: ps, _, _, x, v, .nil, h => by simp at h
  | p :: ps, _, _, x, v, .cons (v := u) hu r, h => by
    rw [List.map_cons, List.zip_cons_cons] at h
    rcases List.mem_cons.mp h with e | h
    · injection e with e1 e2
      injection e2 with e2
      subst e1; subst e2
      exact ⟨u, by rw [List.zip_cons_cons]; exact List.mem_cons_self, hu⟩
    · obtain ⟨u', h1, h2⟩ := zip_rep r h
      exact ⟨u', by rw [List.zip_cons_cons]; exact List.mem_cons_of_mem _ h1, h2⟩

noncomputable def fnPost (Q : AV → Sto → Prop) : AFl → Rho → Sto → Prop := fun fl _ σ' => match fl with | .ret x => Q x σ' | _ => Q .none σ'

noncomputable def cellAdrs (env : Env) : List Addr := (env.cells.map (·.1)).filterMap fun n => env.cells.lookup n
theorem cellAdrs_of {env : Env} {x : Str} {a : Addr} (h : env.cells.lookup x = some a) : a ∈ cellAdrs env :=
  List.mem_filterMap.mpr ⟨x, List.mem_map.mpr ⟨_, mem_of_lookup h, rfl⟩, h⟩
theorem of_cellAdrs {env : Env} {a : Addr} (h : a ∈ cellAdrs env) : ∃ x, env.cells.lookup x = some a := by
  obtain ⟨x, _, e⟩ := List.mem_filterMap.mp h; exact ⟨x, e⟩

noncomputable def calC (c : Cx g) (f : Value) (xs : List AV) (σ : Sto) (Q : AV → Sto → Prop) : Prop := ∀ s vs, c.Inv σ s → RepL g.w (c.F σ s) vs xs →
  codeAny g.M c.A (.call f ⟨vs, []⟩) (fun r s' => match r with | .ok (.ret v) => (∃ x σ', c.Inv σ' s' ∧ c.Ev σ s σ' s' ∧ Rep g.w (c.F σ' s') v x ∧ Q x σ') | .ok _ => False | .error e => c.E e s') s
theorem fn_code {c : Cx g} {f : Addr} {ps rest : List Str} {body : List Stmt} {sc : Scope} {xs : List AV} {σ : Sto} {Q : AV → Sto → Prop} (fn : FnAt g f ps body sc) (ok : scOk ps rest sc = true)
    (hroom : c.A.depth < recursionLimit) (hlen : xs.length = ps.length)
    (h : ∀ c' : Cx g, c'.sc = sc → c'.isFn = true → c'.A = c.A.deeper c'.env → es c' (rho0 ps rest xs) (execs body c'.env) σ (fnPost Q)) : calC c (.ref f) xs σ Q := by
  intro s vs i r
  obtain ⟨o, fd, ho, hd, hb, hsc, hcl, hgl, hbl, hcr, hbind⟩ := fn.ex
  have hkeep : ∀ b o, g.H₀.get? b = some o → s.heap.get? b = some o := fun b o e => (fz_eq.mp (i.keep b o e)).2.2
  have hvl : vs.length = ps.length := r.length.trans hlen
  simp only [scOk, Bool.and_eq_true, Bool.not_eq_true', beq_iff_eq, decide_eq_true_eq, List.all_eq_true, Bool.or_eq_true] at ok
  obtain ⟨⟨⟨⟨hco, hgen⟩, hkd⟩, hnd⟩, hnm⟩ := ok
  subst hsc
  have hfst : (ps.zip vs).map (·.1) = ps := List.map_fst_zip (by omega)
  have hkinds : ∀ x ∈ ps.zip vs, fd.scope.names.lookup x.1 = some .local ∨ (fd.scope.names.lookup x.1 = some .cell ∧ ((cellsFrom (s.heap.objs.size + 1) fd.scope.names []).lookup x.1).isSome = true) := fun x hx => by
    have : x.1 ∈ ps := hfst ▸ List.mem_map.mpr ⟨x, hx, rfl⟩
    rcases (hnm x.1 (List.mem_append_left _ this)).2 with q | q
    · exact .inl q
    · exact .inr ⟨q, cellsFrom_has _ _ _ (.inl q)⟩
  refine codeAny_call_cells hroom (hkeep _ _ ho) hd (fn.nolimit.keeps hkeep) (hcr.keeps hkeep) hb (hbind vs hvl) hcl hkinds (fun s₁ x => ?_) hco hgen hkd
  obtain ⟨⟨h₁, tk₁, hs₁⟩, hns, hk₁, _⟩ := x.toInCall
  have xcell := x.cell
  have xapart := x.apart
  have xabove := x.above
  have hm1 : ∀ x v, (x, v) ∈ ps.zip vs → fd.scope.names.lookup x = some .local → bindL (callEnvC fd s.heap.objs.size f).kindOf (ps.zip vs) (fun _ => Option.none) x = some v := fun x v hx hk =>
    bindL_get (by rw [hfst]; exact (List.nodup_append.mp hnd).1) hx hk
  have hm2 : ∀ x v, (x, v) ∈ ps.zip vs → fd.scope.names.lookup x = some .cell → bindC (callEnvC fd s.heap.objs.size f).kindOf (ps.zip vs) (fun _ => Option.none) x = some v := fun x v hx hk =>
    bindC_get (by rw [hfst]; exact (List.nodup_append.mp hnd).1) hx hk
  generalize hml : bindL (callEnvC fd s.heap.objs.size f).kindOf (ps.zip vs) (fun _ => Option.none) = ml at hns hm1
  generalize hmc : bindC (callEnvC fd s.heap.objs.size f).kindOf (ps.zip vs) (fun _ => Option.none) = mc at xcell hm2
  clear x
  have hLoc : (callEnvC fd s.heap.objs.size f).locals = s.heap.objs.size := rfl
  have hScope : (callEnvC fd s.heap.objs.size f).scope = fd.scope := rfl
  have hGlob : (callEnvC fd s.heap.objs.size f).globals = mainGlobals := hgl
  have hBlt : (callEnvC fd s.heap.objs.size f).builtins = builtinsNs := hbl
  have hCells : ∀ x, ((fd.scope.names.lookup x) = some .cell) → ∃ a, (callEnvC fd s.heap.objs.size f).cells.lookup x = some a := fun x hx =>
    Option.isSome_iff_exists.mp (cellsFrom_has fd.scope.names (s.heap.objs.size + 1) [] (.inl hx))
  generalize henv : callEnvC fd s.heap.objs.size f = env at *
  -- the new context
  let R : Result → Shared → Prop := fun r s' => match r with | .ok (.ret v) => (∃ x σ', c.Inv σ' s' ∧ c.Ev σ s σ' s' ∧ Rep g.w (c.F σ' s') v x ∧ Q x σ') | .ok _ => False | .error e => c.E e s'
  let c' : Cx g := ⟨c.A.deeper env, env, (env.locals :: cellAdrs env) ++ c.own, c.own, fun e s' => wpAny g.M (c.A.deeper env) (leaving env e) (fun _ s'' => R (.error e) s'') (fun e' s'' => R (.error e') s'') s', fd.scope, true⟩
  have hnew : ∀ a ∈ env.locals :: cellAdrs env, s.heap.objs.size ≤ a := by
    intro a ha
    rcases List.mem_cons.mp ha with rfl | ha
    · exact Nat.le_of_eq hLoc.symm
    · obtain ⟨n, hb⟩ := of_cellAdrs ha
      exact Nat.le_of_lt (Nat.lt_of_le_of_lt (Nat.le_of_eq hLoc.symm) (xabove n a (mem_of_lookup hb)))
  have hF : (fz s.heap c.own σ).le (fz s₁.heap c'.own σ) := fun b ob e => by
    obtain ⟨e1, e2, e3⟩ := fz_eq.mp e
    refine fz_eq.mpr ⟨e1, fun hm => ?_, hk₁ b ob e3⟩
    rcases List.mem_append.mp hm with hm | hm
    · exact absurd (Heap.lt_size e3) (Nat.not_lt.mpr (hnew b hm))
    · exact e2 hm
  have hlook : ∀ {x a}, env.cells.lookup x = some a → a ∈ cellAdrs env := fun hx => cellAdrs_of hx
  have inv' : c'.Inv σ s₁ := by
    refine ⟨fun b ob e => hF b ob (i.keep b ob e), fun a y e => (i.objs a y e).mono hF fun ob e => hk₁ a ob e, fun a ha => ?_, fun a ha => ?_⟩
    · rcases List.mem_append.mp ha with ha | ha
      · exact (i.fresh (hnew a ha)).1
      · exact i.off a ha
    · rcases List.mem_append.mp ha with ha | ha
      · rcases List.mem_cons.mp ha with rfl | ha
        · obtain ⟨ob, _, _, hob, _⟩ := hns; exact ⟨ob, hob⟩
        · obtain ⟨n, hb⟩ := of_cellAdrs ha
          obtain ⟨ob, hob, _⟩ := xcell n a hb
          exact ⟨ob, hob⟩
      · obtain ⟨ob, hob⟩ := i.live a ha; exact ⟨ob, hk₁ a ob hob⟩
  have fr' : Frame c' ((rho0 ps rest xs).map (·.1)) := by
    rw [rho0_names hlen]
    refine ⟨hScope, fun _ x a ha hh => ?_, by show env.scope.kind = _; rw [hScope]; exact hkd, hGlob, hBlt, by simp [c'], fun hh => ?_, fun a ha => List.mem_append_right _ ha, fun x a ha => ⟨?_, ?_⟩, fun _ => xapart, fun x hx => ?_, hnd⟩
    · exact (i.fresh (hnew a (List.mem_cons_of_mem _ (hlook ha)))).2 hh
    · exact (i.fresh (hnew _ List.mem_cons_self)).2 hh
    · exact List.mem_append_left _ (List.mem_cons_of_mem _ (hlook ha))
    · exact Nat.ne_of_gt (xabove x a (mem_of_lookup ha))
    · obtain ⟨h1, h2⟩ := hnm x hx
      refine ⟨h1, h2.imp id fun q => ⟨q, hCells x q⟩⟩
  have st' : St c' (rho0 ps rest xs) σ s₁ := by
    refine ⟨inv', fr', ⟨ml, hns, fun x v hx hk => ?_⟩, fun x a hk ha => ⟨mc x, xcell x a ha, fun v hx => ?_⟩⟩
    · rcases List.mem_append.mp hx with hx | hx
      · obtain ⟨u, h1, h2⟩ := zip_rep r hx
        exact ⟨u, hm1 x u h1 hk, h2.mono hF⟩
      · obtain ⟨_, _, e⟩ := List.mem_map.mp hx; cases e
    · rcases List.mem_append.mp hx with hx | hx
      · obtain ⟨u, h1, h2⟩ := zip_rep r hx
        exact ⟨u, hm2 x u h1 hk, h2.mono hF⟩
      · obtain ⟨_, _, e⟩ := List.mem_map.mp hx; cases e
  refine es.use (h c' rfl rfl rfl s₁ st') (fun fl s' ag ρ' σ' hst hev hrf hq => ?_)
  have hback : (fz s'.heap c'.own σ').le (fz s'.heap c.own σ') := fun b ob e => by
    obtain ⟨e1, e2, e3⟩ := fz_eq.mp e
    exact fz_eq.mpr ⟨e1, fun hm => e2 (List.mem_append_right _ hm), e3⟩
  have inv'' : c.Inv σ' s' := ⟨fun b ob e => hback b ob (hst.inv.keep b ob e), fun a y e => (hst.inv.objs a y e).mono hback fun _ e => e, fun a ha => hst.inv.off a (List.mem_append_right _ ha), fun a ha => hst.inv.live a (List.mem_append_right _ ha)⟩
  have ev'' : c.Ev σ s σ' s' := by
    refine ⟨?_, (hF.trans hev.grow).trans hback, fun a ha ob e => hev.hid a ha ob (hk₁ a ob e)⟩
    obtain ⟨h2, t2, e2⟩ := hev.same
    subst hs₁
    exact ⟨h2, t2, e2⟩
  cases hrf with
  | next => exact ⟨_, σ', inv'', ev'', .none, hq⟩
  | brk => exact ⟨_, σ', inv'', ev'', .none, hq⟩
  | cont => exact ⟨_, σ', inv'', ev'', .none, hq⟩
  | ret hr => exact ⟨_, σ', inv'', ev'', hr.mono hback, hq⟩

theorem cal_fn {c : Cx g} {f : Addr} {ps rest : List Str} {body : List Stmt} {sc : Scope} {xs : List AV} {σ : Sto} {Q : AV → Sto → Prop} (fn : FnAt g f ps body sc) (ok : scOk ps rest sc = true)
    (hroom : c.A.depth < recursionLimit) (hlen : xs.length = ps.length)
    (h : ∀ c' : Cx g, c'.sc = sc → c'.isFn = true → c'.A = c.A.deeper c'.env → es c' (rho0 ps rest xs) (execs body c'.env) σ (fnPost Q)) : cal c (.ref f) xs σ Q := fun s vs i r => wpAny_call (fn_code fn ok hroom hlen h s vs i r)
end Mine

end

section
namespace Mine
open PySem
variable {g : Gx} {c : Cx g} {ρ : Rho} {σ : Sto}

noncomputable def noStar : Expr → Bool
  | .Starred _ _ => false
  | _ => true
theorem starEach_plain {env : Env} {pos : Pos} : ∀ {l : List Expr}, l.all noStar = true → backTo pos (starEach l env) = l.map fun e => (false, eval e env)
  | [], _ => rfl
  | e :: r, h => by
    simp only [List.all_cons, Bool.and_eq_true] at h
    have ih := starEach_plain (env := env) (pos := pos) h.2
    cases e <;> first | (exact congrArg (List.cons _) ih) | exact absurd h.1 Bool.false_ne_true

theorem evl_sound : ∀ {l : List Expr} {σ : Sto} {Q : List AV → Sto → Prop}, evl c ρ l σ Q → gv c ρ (RepL g.w) (spliced (l.map fun e => (false, eval e c.env))) σ Q
  | [], σ, Q, h => fun s hs => Calls.spliced_nil ⟨[], σ, hs.inv, .refl .., .nil, h⟩
  | e :: r, σ, Q, h => fun s hs => by
    refine Calls.spliced_cons (pg.use (h s hs) (fun v s₁ x σ₁ i₁ e₁ r₁ q₁ => ?_))
    exact pg.use (evl_sound q₁ s₁ (hs.ev i₁ e₁)) (fun vs s₂ xs σ₂ i₂ e₂ r₂ q₂ => ⟨x :: xs, σ₂, i₂, e₁.trans e₂, .cons (r₁.mono e₂.grow) r₂, q₂⟩)

inductive Callee (g : Gx) : Value → Prop
  | builtin (id : String) : Callee g (.builtin id)
  | type (T : String) : Callee g (.type T)
  | fn {a : Addr} {o : Obj} {fd : FuncData} : g.H₀.get? a = some o → o.data = .func fd → Callee g (.ref a)
  | keeps {v : Value} : (∀ h : Heap, (∀ b o, g.H₀.get? b = some o → h.get? b = some o) → ∃ k, (k = Keeper.frame ∨ k = Keeper.machine ∨ k = Keeper.boundFrame) ∧ PySem.W.Looks g.M h (keeperOf v) k) → Callee g v

theorem callWith_any {v : Value} {first : List Value} {fx : List AV} {e : Expr} {rest : List Expr} {pos : Pos} {Q : AV → Sto → Prop} (hc : Callee g v) (hp : (e :: rest).all noStar = true) {s : Shared} (hs : St c ρ σ s)
    (hf : RepL g.w (c.F σ s) first fx) (h : evl c ρ (e :: rest) σ fun xs σ₁ => cal c v (fx ++ xs) σ₁ Q) : pv c σ s (callWith pos v first (backTo pos (starEach (e :: rest) c.env)) []) Q := by
  have e0 : backTo pos (starEach (e :: rest) c.env) = (false, eval e c.env) :: rest.map fun e => (false, eval e c.env) := starEach_plain hp
  have hany : ((false, eval e c.env) :: rest.map fun e => (false, eval e c.env)).any (·.1) = false := by
    rw [List.any_eq_false]; intro x hx
    rcases List.mem_cons.mp hx with rfl | hx
    · simp
    · obtain ⟨_, _, rfl⟩ := List.mem_map.mp hx; simp
  show wpAny _ _ _ _ _ s
  rw [e0]
  have main : wpAny g.M c.A (evalArgs v true ((false, eval e c.env) :: rest.map fun e => (false, eval e c.env)) []) (fun a s₁ => (∃ σ₁ xs, c.Inv σ₁ s₁ ∧ c.Ev σ s σ₁ s₁ ∧ a.kw = [] ∧ RepL g.w (c.F σ₁ s₁) a.pos xs ∧ cal c v (fx ++ xs) σ₁ Q)) c.E s :=
    Calls.evalArgs_plain (pg.use (evl_sound h s hs) (fun vs s₁ xs σ₁ i₁ e₁ r₁ q₁ => ⟨σ₁, xs, i₁, e₁, rfl, r₁, q₁⟩))
  have fin : ∀ {a : Args} {s₁ : Shared}, (∃ σ₁ xs, c.Inv σ₁ s₁ ∧ c.Ev σ s σ₁ s₁ ∧ a.kw = [] ∧ RepL g.w (c.F σ₁ s₁) a.pos xs ∧ cal c v (fx ++ xs) σ₁ Q) → wpAny g.M c.A (call v (first ++ a.pos) a.kw) (fun v s' => ∃ x σ', c.Inv σ' s' ∧ c.Ev σ s σ' s' ∧ Rep g.w (c.F σ' s') v x ∧ Q x σ') c.E s₁ := by
    rintro a s₁ ⟨σ₁, xs, i₁, e₁, hk, r₁, q₁⟩
    rw [hk]
    exact pg.use (q₁ s₁ _ i₁ ((hf.mono e₁.grow).append r₁)) (fun v s₃ z σ₃ i₃ e₃ r₃ q₃ => ⟨z, σ₃, i₃, e₁.trans e₃, r₃, q₃⟩)
  cases hc with
  | builtin id => exact Calls.callWith_builtin hany (wpAny_mono main (fun a s₁ h₁ => fin h₁) fun _ _ e => e)
  | type T => exact callWith_type hany (wpAny_mono main (fun a s₁ h₁ => fin h₁) fun _ _ e => e)
  | fn ho hd =>
    refine Calls.callWith_function (wpAny_mono main (fun a s₁ h₁ => ⟨⟨?_, hd⟩, fin h₁⟩) fun _ _ e => e)
    obtain ⟨σ₁, xs, i₁, _⟩ := h₁
    exact (fz_eq.mp (i₁.keep _ _ ho)).2.2
  | keeps hk =>
    refine PySem.W.callWith_of (P := fun h => ∀ b o, g.H₀.get? b = some o → h.get? b = some o) (by rw [hany]; rfl) hk (wpAny_mono main (fun a s₁ h₁ => ⟨?_, fin h₁⟩) fun _ _ e => e)
    obtain ⟨σ₁, xs, i₁, _⟩ := h₁
    exact fun b o e => (fz_eq.mp (i₁.keep b o e)).2.2

theorem ev_call {id : Str} {p pos : Pos} {e : Expr} {rest : List Expr} {v : Value} {Q : AV → Sto → Prop} (hg : Glob g.H₀ id v) (hx : c.sc.names.lookup id = some .globalImplicit) (hc : Callee g v)
    (h : evl c ρ (e :: rest) σ fun xs σ₁ => cal c v xs σ₁ Q) (hp : (e :: rest).all noStar = true := by rfl) : ev c ρ (.Call (.Name id p) (e :: rest) [] pos) σ Q := fun s hs => by
  refine wpAny_Call_NameR (pg.use (ev_glob (Q := fun x σ' => x = .raw v ∧ σ' = σ) (pos := p) hg hx ⟨rfl, rfl⟩ s hs) (fun f s₁ x σ₁ i₁ e₁ r₁ qq => ?_))
  obtain ⟨hx, hσ⟩ := qq
  subst hx; subst hσ
  (first | obtain rfl := r₁.invNil | obtain ⟨_, rfl⟩ := r₁.invInt | obtain rfl := r₁.invObj | obtain ⟨_, rfl⟩ := r₁.invStr | obtain rfl := r₁.invBool | obtain rfl := r₁.invNone | obtain rfl := r₁.invRaw)
  have := callWith_any (pos := pos) (first := []) (fx := []) hc hp (hs.ev i₁ e₁) .nil (by simpa using h)
  exact wpAny_mono this (fun v s₃ q_ => q_.elim fun z q => q.elim fun σ₃ q => ⟨z, σ₃, q.1, e₁.trans q.2.1, q.2.2⟩) fun _ _ e => e

noncomputable def owned (n : String) : Bool := ["enumerate", "zip", "dict_itemiterator", "dict_reverseitemiterator", "odict_iterator", "itertools.zip_longest", "itertools.pairwise"].contains n
noncomputable def itOk (o : Obj) : Bool := match o.cls with
  | .type n => !owned n
  | _ => true
theorem itOk_of {o : Obj} {n : String} (h : o.cls = .type n) (hn : owned n = false) : itOk o = true := by unfold itOk; rw [h]; show (!owned n) = true; rw [hn]; rfl
theorem owned_skip {prog : Program} {w : World} {A : Around} {E : Value → Shared → Prop} {s : Shared} {target : Expr} {I : Addr} {v : Value} {o : Obj} {Q : Unit → Shared → Prop} (ho : s.heap.get? I = some o) (hok : itOk o = true) (q : Q () s) :
    wpAny (model prog w) A (letOwnedTupleGo target (.ref I) v) Q E s := by
  have go : wpAny (model prog w) A (do
      let (.ref r, .ref a) := (Value.ref I, v) | return
      let o ← load r
      match o.cls, o.data with
      | .type n, .fields vs =>
        if ["enumerate", "zip", "dict_itemiterator", "dict_reverseitemiterator", "odict_iterator", "itertools.zip_longest", "itertools.pairwise"].contains n && vs[0]? == some (rawInt a) then
          rule "for.unpacks-the-owned-tuple"
          updateField r 0 .none
      | _, _ => pure ()) Q E s := by
    cases v with
    | ref a =>
      refine wpAny_bind (wpAny_load ho ?_)
      split
      · rename_i n vs hc hd
        have hn : owned n = false := by unfold itOk at hok; rw [hc] at hok; simpa using hok
        rw [show (["enumerate", "zip", "dict_itemiterator", "dict_reverseitemiterator", "odict_iterator", "itertools.zip_longest", "itertools.pairwise"].contains n) = false from hn, Bool.false_and, if_neg (by decide)]
        exact wpAny_pure q
      · exact wpAny_pure q
    | _ => exact wpAny_pure q
  unfold letOwnedTupleGo
  cases target <;> first | exact wpAny_pure q | exact go
noncomputable def Iter (c : Cx g) (y : AV) (l : List AV) : Prop := ∀ σ s v, c.Inv σ s → Rep g.w (c.F σ s) v y → ∀ E, wpAny g.M c.A (pyIter v) (fun it s₂ => ∃ I fp P Sx, it = .ref I ∧ Walks g.prog g.w c.A I fp [I] l.length P Sx ∧ Sx 0 s₂.heap ∧
  (∃ h' tk, s₂ = { s with heap := h', toks := tk }) ∧ (∀ b o, s.heap.get? b = some o → s₂.heap.get? b = some o) ∧ s.heap.objs.size ≤ I ∧ (∀ j h, Sx j h → ∃ o, h.get? I = some o ∧ itOk o = true) ∧
  (∀ b ∈ fp, b = I ∨ ∃ o, c.F σ s b = some o) ∧ ∀ i u, i < l.length → P i u → ∃ x, l[i]? = some x ∧ Rep g.w (c.F σ s) u x) E s

theorem iter_list (hh : c.A.handled = none) (l : List AV) : Iter c (.list l) l := fun σ s v i r E => by
  obtain ⟨a, vs, n, rfl, hF, hr⟩ := r.invList
  obtain ⟨_, _, ho⟩ := fz_eq.mp hF
  have hl : s.heap.IsList a vs.toArray := ⟨_, ho, rfl, n, rfl⟩
  have hlen : vs.toArray.size = l.length := by rw [List.size_toArray]; exact hr.length
  refine wpAny_pyIter_list hl ⟨s.heap.objs.size, [s.heap.objs.size, a], fun i v => vs.toArray[i]? = some v, _, rfl, hlen ▸ Walks.list hh s.heap.objs.size a (Nat.ne_of_lt (Heap.lt_size ho)) vs.toArray, ?_, ⟨_, s.toks, rfl⟩, push_keeps _ _, Nat.le_refl _, (fun _ _ hx => let ⟨⟨o, ho, hc, _⟩, _⟩ := hx; ⟨o, ho, itOk_of hc rfl⟩), ?_, ?_⟩
  · exact ⟨⟨_, Heap.get?_push_size _ rfl, rfl, rfl⟩, ⟨_, push_keeps _ _ _ _ ho, rfl, n, rfl⟩⟩
  · intro b hb
    rcases List.mem_cons.mp hb with rfl | hb
    · exact .inl rfl
    · rw [List.mem_singleton.mp hb]; exact .inr ⟨_, hF⟩
  · intro i u _ hu
    obtain ⟨x, h1, h2⟩ := hr.get' (i := i) (v := u) (by simpa using hu)
    exact ⟨x, h1, h2⟩
theorem iter_tup (hh : c.A.handled = none) (l : List AV) : Iter c (.tup l) l := fun σ s v i r E => by
  obtain ⟨a, vs, n, rfl, hF, hr⟩ := r.invTup
  obtain ⟨_, _, ho⟩ := fz_eq.mp hF
  have hl : s.heap.IsTuple a vs.toArray := ⟨_, ho, rfl, n, rfl⟩
  have hlen : vs.toArray.size = l.length := by rw [List.size_toArray]; exact hr.length
  refine wpAny_pyIter_tuple hl ⟨s.heap.objs.size, [s.heap.objs.size, a], fun i v => vs.toArray[i]? = some v, _, rfl, hlen ▸ Walks.tuple hh s.heap.objs.size a (Nat.ne_of_lt (Heap.lt_size ho)) vs.toArray, ?_, ⟨_, s.toks, rfl⟩, push_keeps _ _, Nat.le_refl _, (fun _ _ hx => let ⟨⟨o, ho, hc, _⟩, _⟩ := hx; ⟨o, ho, itOk_of hc rfl⟩), ?_, ?_⟩
  · exact ⟨⟨_, Heap.get?_push_size _ rfl, rfl, rfl⟩, ⟨_, push_keeps _ _ _ _ ho, rfl, n, rfl⟩⟩
  · intro b hb
    rcases List.mem_cons.mp hb with rfl | hb
    · exact .inl rfl
    · rw [List.mem_singleton.mp hb]; exact .inr ⟨_, hF⟩
  · intro i u _ hu
    obtain ⟨x, h1, h2⟩ := hr.get' (i := i) (v := u) (by simpa using hu)
    exact ⟨x, h1, h2⟩
noncomputable def rngL (lo hi : Int) : List Int := (List.range (hi - lo).toNat).map fun i : Nat => lo + (i : Int)
theorem iter_rng (hh : c.A.handled = none) {lo hi : Int} (h1 : -(2 ^ 62) ≤ lo) (h2 : lo < 2 ^ 62) (h3 : -(2 ^ 62) ≤ hi) (h4 : hi < 2 ^ 62) : Iter c (.rng lo hi) ((rngL lo hi).map .int) := fun σ s v i r E => by
  obtain ⟨a, t, u, v, rfl, hF⟩ := r.invRng
  obtain ⟨_, _, ho⟩ := fz_eq.mp hF
  have hlen : ((rngL lo hi).map AV.int).length = (hi - lo).toNat := by simp [rngL]
  have hsz : Builtin.Range.rangeSize lo hi 1 = ((hi - lo).toNat : Int) := by rw [rangeSize_one]; split <;> omega
  refine wpAny_pyIter_range (r := a) (a := lo) (b := hi) (c := 1) (t := t) (u := u) (v := v) ho (small_one h1 h2 h3 h4) ⟨s.heap.objs.size, [s.heap.objs.size], _, _, rfl, hlen ▸ Walks.range hh s.heap.objs.size lo 1 (hi - lo).toNat, ?_, ⟨_, s.toks, rfl⟩, push_keeps _ _, Nat.le_refl _, (fun _ _ hx => ⟨_, hx, rfl⟩), ?_, ?_⟩
  · rw [hsz]
    have e1 : lo + ((0 : Nat) : Int) * 1 = lo := by omega
    have e2 : (((hi - lo).toNat : Nat) : Int) - ((0 : Nat) : Int) = ((hi - lo).toNat : Int) := by omega
    rw [e1, hlen, e2]
    exact Heap.get?_push_size _ rfl
  · intro b hb; exact .inl (List.mem_singleton.mp hb)
  · rintro i u hi' ⟨tk, rfl⟩
    rw [hlen] at hi'
    refine ⟨.int (lo + i), by simp [rngL, hi'], ?_⟩
    have : lo + (i : Int) * 1 = lo + i := by omega
    rw [this]; exact .int _ _

inductive Wk : Rho → Rho → Prop
  | nil : Wk [] []
  | keep {p : Str × Option AV} {r r' : Rho} : Wk r r' → Wk (p :: r) (p :: r')
  | drop {x : Str} {o : Option AV} {r r' : Rho} : Wk r r' → Wk ((x, Option.none) :: r) ((x, o) :: r')
theorem Wk.refl : ∀ r : Rho, Wk r r
  | [] => .nil
  | _ :: r => .keep (Wk.refl r)
theorem Wk.names {r r' : Rho} (h : Wk r r') : r.map (·.1) = r'.map (·.1) := by
  induction h with
  | nil => rfl
  | keep _ ih => simp [ih]
  | drop _ ih => simp [ih]
theorem Wk.get {r r' : Rho} (h : Wk r r') {x : Str} {v : AV} (hm : (x, some v) ∈ r) : (x, some v) ∈ r' := by
  induction h with
  | nil => exact hm
  | keep _ ih =>
    rcases List.mem_cons.mp hm with rfl | hm
    · exact List.mem_cons_self
    · exact List.mem_cons_of_mem _ (ih hm)
  | drop _ ih =>
    rcases List.mem_cons.mp hm with e | hm
    · injection e with _ e; cases e
    · exact List.mem_cons_of_mem _ (ih hm)
theorem St.wk {ρ' : Rho} {s : Shared} (h : St c ρ' σ s) (hw : Wk ρ ρ') : St c ρ σ s := by
  refine ⟨h.inv, hw.names ▸ h.fr, ?_, fun x a hk ha => ?_⟩
  · obtain ⟨m, h1, h2⟩ := h.ns
    exact ⟨m, h1, fun x v hx hk => h2 x v (hw.get hx) hk⟩
  · obtain ⟨vo, h1, h2⟩ := h.cl x a hk ha
    exact ⟨vo, h1, fun v hx => h2 v (hw.get hx)⟩

structure Same (c c' : Cx g) : Prop where
  A : c'.A = c.A
  env : c'.env = c.env
  sc : c'.sc = c.sc
  fn : c'.isFn = c.isFn

theorem enter_le {h h' : Heap} {own : List Addr} {I : Addr} {n : Nat} (hk : ∀ b o, h.get? b = some o → h'.get? b = some o) (hI : h.objs.size ≤ I) : (fz h own σ).le (fz h' (I :: own) σ) := fun b o e => by
  obtain ⟨e1, e2, e3⟩ := fz_eq.mp e
  refine fz_eq.mpr ⟨e1, fun hm => ?_, hk b o e3⟩
  rcases List.mem_cons.mp hm with rfl | hm
  · exact absurd (Heap.lt_size e3) (Nat.not_lt.mpr hI)
  · exact e2 hm
theorem leave_le {h : Heap} {own : List Addr} {I : Addr} : (fz h (I :: own) σ).le (fz h own σ) := fun b o e => by
  obtain ⟨e1, e2, e3⟩ := fz_eq.mp e
  exact fz_eq.mpr ⟨e1, fun hm => e2 (List.mem_cons_of_mem _ hm), e3⟩
theorem Inv.enter {w : World} {H₀ : Heap} {own : List Addr} {s : Shared} (i : Inv w H₀ own σ s) {h' : Heap} {tk : Nat} {I : Addr} (hk : ∀ b o, s.heap.get? b = some o → h'.get? b = some o) (hI : s.heap.objs.size ≤ I)
    (hl : ∃ o, h'.get? I = some o) : Inv w H₀ (I :: own) σ { s with heap := h', toks := tk } := by
  have hF := enter_le (σ := σ) (own := own) (n := 0) hk hI
  refine ⟨fun b o e => hF b o (i.keep b o e), fun a y e => (i.objs a y e).mono hF fun o e => hk a o e, fun a ha => ?_, fun a ha => ?_⟩
  · rcases List.mem_cons.mp ha with rfl | ha
    · exact (i.fresh hI).1
    · exact i.off a ha
  · rcases List.mem_cons.mp ha with rfl | ha
    · exact hl
    · obtain ⟨o, ho⟩ := i.live a ha; exact ⟨o, hk a o ho⟩
theorem Inv.leave {w : World} {H₀ : Heap} {own : List Addr} {s : Shared} {I : Addr} (i : Inv w H₀ (I :: own) σ s) : Inv w H₀ own σ s :=
  ⟨fun b o e => leave_le b o (i.keep b o e), fun a y e => (i.objs a y e).mono leave_le fun _ e => e, fun a ha => i.off a (List.mem_cons_of_mem _ ha), fun a ha => i.live a (List.mem_cons_of_mem _ ha)⟩

theorem Frame.enter {c c' : Cx g} {ns : List Str} {I : Addr} (f : Frame c ns) (hs : Same c c') (ho : c'.own = I :: c.own) (hh : c'.hid = I :: c.hid) (hI : I ∉ c.own) : Frame c' ns := by
  obtain ⟨hA, hE, hS, hF⟩ := hs
  refine ⟨by rw [hE, hS]; exact f.sc, fun h x a ha => ?_, by rw [hE]; exact f.kind, by rw [hE]; exact f.glob, by rw [hE]; exact f.blt, by rw [hE, ho]; exact List.mem_cons_of_mem _ f.loc, ?_, ?_, ?_, by rw [hE, hF]; exact f.apart, ?_, f.nodup⟩
  · rw [hE] at ha
    rw [hh]
    intro hm
    rcases List.mem_cons.mp hm with rfl | hm
    · exact hI (f.cells x a ha).1
    · exact f.wr (hF ▸ h) x a ha hm
  · rw [hE, hh]
    intro hm
    rcases List.mem_cons.mp hm with e | hm
    · exact hI (e ▸ f.loc)
    · exact f.loc' hm
  · rw [hh, ho]
    intro a ha
    rcases List.mem_cons.mp ha with rfl | ha
    · exact List.mem_cons_self
    · exact List.mem_cons_of_mem _ (f.sub a ha)
  · rw [hE, ho]
    intro x a ha
    exact ⟨List.mem_cons_of_mem _ (f.cells x a ha).1, (f.cells x a ha).2⟩
  · rw [hE, hS]; exact f.kinds

theorem St.enter {c c' : Cx g} {s : Shared} {h' : Heap} {tk : Nat} {I : Addr} (x : St c ρ σ s) (hs : Same c c') (ho : c'.own = I :: c.own) (hh : c'.hid = I :: c.hid) (hk : ∀ b o, s.heap.get? b = some o → h'.get? b = some o) (hI : s.heap.objs.size ≤ I)
    (hl : ∃ o, h'.get? I = some o) : St c' ρ σ { s with heap := h', toks := tk } := by
  have hF : (c.F σ s).le (fz h' c'.own σ) := by rw [ho]; exact enter_le (n := 0) hk hI
  refine ⟨by show Mine.Inv _ _ c'.own _ _; rw [ho]; exact x.inv.enter hk hI hl, x.fr.enter hs ho hh (x.inv.fresh hI).2, ?_, ?_⟩
  · obtain ⟨m, hn, hm⟩ := x.ns
    rw [hs.env, hs.sc]
    refine ⟨m, hn.keeps hk, fun y v hy hky => ?_⟩
    obtain ⟨u, h1, h2⟩ := hm y v hy hky
    exact ⟨u, h1, h2.mono hF⟩
  · rw [hs.env, hs.sc]
    intro y a hky ha
    obtain ⟨vo, h1, h2⟩ := x.cl y a hky ha
    refine ⟨vo, h1.keeps hk, fun v hy => ?_⟩
    obtain ⟨u, h3, h4⟩ := h2 v hy
    exact ⟨u, h3, h4.mono hF⟩
theorem St.leave' {c c' : Cx g} {s : Shared} {I : Addr} {h' : Heap} {tk : Nat} (x : St c' ρ σ s) (hs : Same c c') (ho : c'.own = I :: c.own) (hI : I ∉ c.own) (f : Frame c (ρ.map (·.1)))
    (hk : ∀ b o, b ∉ [I] → s.heap.get? b = some o → h'.get? b = some o) : St c ρ σ { s with heap := h', toks := tk } ∧ (c'.F σ s).le (fz h' c.own σ) := by
  have hk' : ∀ b o, b ≠ I → s.heap.get? b = some o → h'.get? b = some o := fun b o hb => hk b o (by simpa using hb)
  have hF : (c'.F σ s).le (fz h' c.own σ) := by
    show (fz s.heap c'.own σ).le _
    rw [ho]
    intro b o e
    obtain ⟨e1, e2, e3⟩ := fz_eq.mp e
    rw [List.mem_cons, not_or] at e2
    exact fz_eq.mpr ⟨e1, e2.2, hk' b o e2.1 e3⟩
  have hi : Mine.Inv g.w g.H₀ (I :: c.own) σ s := ho ▸ x.inv
  refine ⟨⟨⟨fun b o e => hF b o (x.inv.keep b o e), fun a y e => (x.inv.objs a y e).mono hF fun o e' => hk' a o (by rintro rfl; rw [hi.off a List.mem_cons_self] at e; cases e) e', fun a ha => hi.off a (List.mem_cons_of_mem _ ha), fun a ha => ?_⟩, f, ?_, ?_⟩, hF⟩
  · obtain ⟨o, ho⟩ := hi.live a (List.mem_cons_of_mem _ ha)
    exact ⟨o, hk' a o (by rintro rfl; exact hI ha) ho⟩
  · obtain ⟨m, hn, hm⟩ := x.ns
    rw [hs.env] at hn
    rw [hs.sc] at hm
    refine ⟨m, hn.at' fun o e => hk' _ o (by intro e; exact hI (e ▸ f.loc)) e, fun y v hy hky => ?_⟩
    obtain ⟨u, h1, h2⟩ := hm y v hy hky
    exact ⟨u, h1, h2.mono hF⟩
  · intro y a hky ha
    have hac := (f.cells y a ha).1
    rw [← hs.env] at ha
    rw [← hs.sc] at hky
    obtain ⟨vo, ⟨o, ho, hd⟩, h2⟩ := x.cl y a hky ha
    refine ⟨vo, ⟨o, hk' a o (by rintro rfl; exact hI hac) ho, hd⟩, fun v hy => ?_⟩
    obtain ⟨u, h3, h4⟩ := h2 v hy
    exact ⟨u, h3, h4.mono hF⟩

theorem St.turned {s : Shared} {h' : Heap} {tk : Nat} {I : Addr} (x : St c ρ σ s) (hI : I ∈ c.hid) (hk : ∀ b o, b ∉ [I] → s.heap.get? b = some o → h'.get? b = some o) (hl : ∃ o, h'.get? I = some o)
    (hIc : ∀ x a, c.env.cells.lookup x = some a → a ≠ I) : St c ρ σ { s with heap := h', toks := tk } := by
  have hk' : ∀ b o, b ≠ I → s.heap.get? b = some o → h'.get? b = some o := fun b o hb => hk b o (by simpa using hb)
  have hIo := x.fr.sub I hI
  have hF : (c.F σ s).le (fz h' c.own σ) := fun b o e => by
    obtain ⟨e1, e2, e3⟩ := fz_eq.mp e
    exact fz_eq.mpr ⟨e1, e2, hk' b o (by rintro rfl; exact e2 hIo) e3⟩
  refine ⟨⟨fun b o e => hF b o (x.inv.keep b o e), fun a y e => (x.inv.objs a y e).mono hF fun o e' => hk' a o (by rintro rfl; rw [x.inv.off _ hIo] at e; cases e) e', x.inv.off, fun a ha => ?_⟩, x.fr, ?_, ?_⟩
  · by_cases h : a = I
    · subst h; exact hl
    · obtain ⟨o, ho⟩ := x.inv.live a ha; exact ⟨o, hk' a o h ho⟩
  · obtain ⟨m, hn, hm⟩ := x.ns
    refine ⟨m, hn.at' fun o e => hk' _ o (by rintro rfl; exact x.fr.loc' hI) e, fun y v hy hky => ?_⟩
    obtain ⟨u, h1, h2⟩ := hm y v hy hky
    exact ⟨u, h1, h2.mono hF⟩
  · intro y a hky ha
    obtain ⟨vo, ⟨o, ho, hd⟩, h2⟩ := x.cl y a hky ha
    refine ⟨vo, ⟨o, hk' a o (hIc y a ha) ho, hd⟩, fun v hy => ?_⟩
    obtain ⟨u, h3, h4⟩ := h2 v hy
    exact ⟨u, h3, h4.mono hF⟩

theorem es_forG {target iter : Expr} {body : List Stmt} {pos : Pos} {Q : AFl → Rho → Sto → Prop} (U : AV → Rho → Rho → Prop) (J : List AV → Rho → Sto → Prop)
    (sto : ∀ (c' : Cx g), Same c c' → ∀ {ρ₁ ρ₂ : Rho} {σ₁ : Sto} {s : Shared} {v : Value} {y : AV} {Q : Unit → Shared → Prop} {E : Value → Shared → Prop}, St c' ρ₁ σ₁ s → U y ρ₁ ρ₂ → Rep g.w (c'.F σ₁ s) v y → (∀ s', St c' ρ₂ σ₁ s' → EvS c' σ₁ s σ₁ s' → Q () s') → wpAny g.M c'.A (assign target c'.env v) Q E s)
    (h : ev c ρ iter σ fun y σ₁ => ∃ l, Iter c y l ∧ J l ρ σ₁)
    (turn : ∀ c' : Cx g, Same c c' → ∀ y rest ρ₁ σ₁, J (y :: rest) ρ₁ σ₁ → ∃ ρ₂, U y ρ₁ ρ₂ ∧ es c' ρ₂ (execs body c'.env) σ₁ fun fl ρ' σ' => match fl with
      | .next | .cont => ∃ ρ'', Wk ρ'' ρ' ∧ J rest ρ'' σ'
      | .brk => Q .next ρ' σ'
      | .ret v => Q (.ret v) ρ' σ')
    (done : ∀ ρ₁ σ₁, J [] ρ₁ σ₁ → Q .next ρ₁ σ₁)
    (hs : ∀ x, foldedSetIterable iter c.env x = pure x := by intro _; rfl) : es c ρ (exec (.For target iter body [] pos) c.env) σ Q := fun s st => by
  refine wpAny_For (pg.use (h s st) (fun v s₁ y σ₁ i₁ e₁ r₁ qq => ?_)) hs
  obtain ⟨l, hit, hJ⟩ := qq
  have st₁ := st.ev i₁ e₁
  refine wpAny_mono (hit σ₁ s₁ v i₁ r₁ c.E) (fun it s₂ q_ => ?_) fun _ _ e => e
  obtain ⟨I, fp, P, Sx, hI, W, hS, ⟨h₂, tk₂, hs₂⟩, hk, hsz, hlv0, hfp, hP⟩ := q_
  have hlv : ∀ j h, Sx j h → ∃ o, h.get? I = some o := fun j h hx => (hlv0 j h hx).imp fun _ q => q.1
  subst hI
  subst hs₂
  -- the loop's own result and context
  generalize hR : (fun (r : Result) (s' : Shared) => match r with
    | .ok f => ∃ fl ρ' σ', St c ρ' σ' s' ∧ EvS c σ s σ' s' ∧ RepF g.w (c.F σ' s') f fl ∧ Q fl ρ' σ'
    | .error e => cameBackBy g.M c.A c.env c.E e s') = R
  have hRok : ∀ f s', (∃ fl ρ' σ', St c ρ' σ' s' ∧ EvS c σ s σ' s' ∧ RepF g.w (c.F σ' s') f fl ∧ Q fl ρ' σ') → R (.ok f) s' := fun f s' q => by rw [← hR]; exact q
  clear hR
  let c' : Cx g := ⟨c.A, c.env, I :: c.own, I :: c.hid, notedBy g.M c.A c.env fun e s' => R (.error e) s', c.sc, c.isFn⟩
  have same : Same c c' := ⟨rfl, rfl, rfl, rfl⟩
  have hIo : I ∉ c.own := (i₁.fresh hsz).2
  have st₂ : St c' ρ σ₁ { s₁ with heap := h₂, toks := tk₂ } := st₁.enter same rfl rfl hk hsz (hlv 0 _ hS)
  have hF₁ : (c.F σ₁ s₁).le (c'.F σ₁ { s₁ with heap := h₂, toks := tk₂ }) := enter_le (n := 0) hk hsz
  -- what is frozen at the loop's start
  have hfp' : ∀ b ∈ fp, b = I ∨ ∃ o, c'.F σ₁ { s₁ with heap := h₂, toks := tk₂ } b = some o := fun b hb => (hfp b hb).imp id fun q => q.imp fun o ho => hF₁ b o ho
  generalize hBig : (fun (σ' : Sto) (s' : Shared) => (∃ h' tk, s' = { s₁ with heap := h', toks := tk }) ∧ (c'.F σ₁ { s₁ with heap := h₂, toks := tk₂ }).le (c'.F σ' s') ∧ ∀ a ∈ c.hid, ∀ o, h₂.get? a = some o → s'.heap.get? a = some o) = Big
  have big_of : ∀ {σ' : Sto} {s' : Shared}, ((∃ h' tk, s' = { s₁ with heap := h', toks := tk }) ∧ (c'.F σ₁ { s₁ with heap := h₂, toks := tk₂ }).le (c'.F σ' s') ∧ ∀ a ∈ c.hid, ∀ o, h₂.get? a = some o → s'.heap.get? a = some o) → Big σ' s' := fun h => by rw [← hBig]; exact h
  have of_big : ∀ {σ' : Sto} {s' : Shared}, Big σ' s' → ((∃ h' tk, s' = { s₁ with heap := h', toks := tk }) ∧ (c'.F σ₁ { s₁ with heap := h₂, toks := tk₂ }).le (c'.F σ' s') ∧ ∀ a ∈ c.hid, ∀ o, h₂.get? a = some o → s'.heap.get? a = some o) := fun h => by rw [← hBig] at h; exact h
  clear hBig
  -- leaving
  have out : ∀ {ρ' : Rho} {σ' : Sto} {s' : Shared} {h' : Heap} {tk : Nat} {f : Flow} {fl : AFl}, St c' ρ' σ' s' → Big σ' s' → (∀ b o, b ∉ [I] → s'.heap.get? b = some o → h'.get? b = some o) → RepF g.w (c'.F σ' s') f fl → Q fl ρ' σ' → R (.ok f) { s' with heap := h', toks := tk } := by
    intro ρ' σ' s' h' tk f fl hst hbig hk' hrf hq
    obtain ⟨⟨h3, t3, e3⟩, hgrow, hhid⟩ := of_big hbig
    obtain ⟨hst', hle⟩ := hst.leave' (c := c) (tk := tk) same rfl hIo { st.fr with kinds := hst.fr.kinds, nodup := hst.fr.nodup } hk'
    refine hRok f _ ⟨fl, ρ', σ', hst', ?_, ?_, hq⟩
    · refine ⟨?_, (e₁.grow.trans hF₁).trans (hgrow.trans hle), fun a ha o ho => ?_⟩
      · obtain ⟨h1, t1, e1⟩ := e₁.same
        subst e1
        subst e3
        exact ⟨h', tk, rfl⟩
      · exact hk' a o (by intro hm; exact hIo (List.mem_singleton.mp hm ▸ st.fr.sub a ha)) (hhid a ha o (hk a o (e₁.own a (st.fr.sub a ha) o ho)))
    · cases hrf with
      | next => exact .next
      | brk => exact .brk
      | cont => exact .cont
      | ret hr => exact .ret (hr.mono hle)
  refine codeAny_forLoop_any (fun n s' => ∃ (j : Nat) (ρ' : Rho) (σ' : Sto), n = l.length + 1 - j ∧ j ≤ l.length ∧ Sx j s'.heap ∧ St c' ρ' σ' s' ∧ Big σ' s' ∧ J (l.drop j) ρ' σ')
    ?_ (l.length + 1) ⟨0, ρ, σ₁, rfl, Nat.zero_le _, hS, st₂, big_of ⟨⟨_, _, rfl⟩, .refl _, fun _ _ _ e => e⟩, by simpa using hJ⟩
  rintro n s' ⟨j, ρ', σ', rfl, hj, hSj, hst, hbig, hJj⟩
  obtain ⟨⟨h6, t6, e6⟩, hgrow, hhid⟩ := of_big hbig
  by_cases hlt : j < l.length
  · refine W.item j s' _ _ hlt hSj fun u h₃ tk₃ hPu hS₃ hk₃ => ?_
    obtain ⟨y', hy', hyr⟩ := hP j u hlt hPu
    have hdrop : l.drop j = y' :: l.drop (j + 1) := by
      rw [List.getElem?_eq_getElem hlt] at hy'
      injection hy' with hy'
      rw [List.drop_eq_getElem_cons hlt, hy']
    rw [hdrop] at hJj
    have hIh : I ∈ c'.hid := List.mem_cons_self
    have hlv₃ : ∃ o, h₃.get? I = some o := hlv _ _ hS₃
    have hIc : ∀ x a, c'.env.cells.lookup x = some a → a ≠ I := fun x a ha e => hIo (e ▸ (st.fr.cells x a ha).1)
    have st₃ : St c' ρ' σ' { s' with heap := h₃, toks := tk₃ } := hst.turned hIh hk₃ hlv₃ hIc
    have le₃ : (c'.F σ' s').le (c'.F σ' { s' with heap := h₃, toks := tk₃ }) := fun b o e => by
      obtain ⟨e1, e2, e3⟩ := fz_eq.mp e
      exact fz_eq.mpr ⟨e1, e2, hk₃ b o (by intro hm; exact e2 (List.mem_singleton.mp hm ▸ List.mem_cons_self)) e3⟩
    obtain ⟨ρ₂, hu, hbody⟩ := turn c' same y' (l.drop (j + 1)) ρ' σ' hJj
    have hyr' : Rep g.w (c'.F σ' { s' with heap := h₃, toks := tk₃ }) u y' := hyr.mono (hF₁.trans (hgrow.trans le₃))
    obtain ⟨oI, hoI, hokI⟩ := hlv0 _ _ hS₃
    refine owned_skip (s := { s' with heap := h₃, toks := tk₃ }) hoI hokI ?_
    refine sto c' same (E := c'.E) st₃ hu hyr' fun s₄ st₄ ev₄ => ?_
    refine es.use (hbody s₄ st₄) (fun f s₅ fl ρ₅ σ₅ st₅ ev₅ rf₅ q₅ => ?_)
    have ev₄₅ := ev₄.trans ev₅
    have big : Big σ₅ s₅ := by
      refine big_of ⟨?_, hgrow.trans (le₃.trans ev₄₅.grow), fun a ha o ho => ?_⟩
      · obtain ⟨h7, t7, e7⟩ := ev₄₅.same
        subst e6
        exact ⟨h7, t7, e7⟩
      · refine ev₄₅.hid a (List.mem_cons_of_mem _ ha) o (hk₃ a o ?_ (hhid a ha o ho))
        intro hm; exact hIo (List.mem_singleton.mp hm ▸ st.fr.sub a ha)
    have hS₅ : Sx (j + 1) s₅.heap := by
      refine W.frame _ _ _ hS₃ fun b hb o ho => ?_
      rcases hfp' b hb with rfl | ⟨o₀, ho₀⟩
      · exact ev₄₅.hid _ List.mem_cons_self o ho
      · have h8 := le₃ b o₀ (hgrow b o₀ ho₀)
        have h9 := (fz_eq.mp h8).2.2
        rw [show ({ s' with heap := h₃, toks := tk₃ } : Shared).heap = h₃ from rfl, ho] at h9
        injection h9 with h9
        subst h9
        exact (fz_eq.mp (ev₄₅.grow b o h8)).2.2
    have go : ∀ ρ'', Wk ρ'' ρ₅ → J (l.drop (j + 1)) ρ'' σ₅ → ∃ m, m < l.length + 1 - j ∧ ∃ (j : Nat) (ρ' : Rho) (σ' : Sto), m = l.length + 1 - j ∧ j ≤ l.length ∧ Sx j s₅.heap ∧ St c' ρ' σ' s₅ ∧ Big σ' s₅ ∧ J (l.drop j) ρ' σ' := fun ρ'' hw hJ' =>
      ⟨l.length + 1 - (j + 1), by omega, j + 1, ρ'', σ₅, rfl, hlt, hS₅, st₅.wk hw, big, hJ'⟩
    have same₅ : s₅ = { s₅ with heap := s₅.heap, toks := s₅.toks } := rfl
    cases rf₅ with
    | next => obtain ⟨ρ'', hw, hJ'⟩ := q₅; exact go ρ'' hw hJ'
    | cont => obtain ⟨ρ'', hw, hJ'⟩ := q₅; exact go ρ'' hw hJ'
    | brk => rw [same₅]; exact out (h' := s₅.heap) (tk := s₅.toks) st₅ big (fun _ _ _ e => e) .next q₅
    | ret hr => rw [same₅]; exact out (h' := s₅.heap) (tk := s₅.toks) st₅ big (fun _ _ _ e => e) (.ret hr) q₅
  · have hjl : j = l.length := by omega
    subst hjl
    refine W.done s' _ _ hSj fun h₃ tk₃ hk₃ => ?_
    refine wpAny_execs_nil (out hst hbig hk₃ .next (done ρ' σ' (by simpa using hJj)))

theorem es_for {x : Str} {px : Pos} {iter : Expr} {body : List Stmt} {pos : Pos} {Q : AFl → Rho → Sto → Prop} (J : List AV → Rho → Sto → Prop) (hfn : c.isFn = true)
    (h : ev c ρ iter σ fun y σ₁ => ∃ l, Iter c y l ∧ J l ρ σ₁)
    (turn : ∀ c' : Cx g, Same c c' → ∀ y rest ρ₁ σ₁, J (y :: rest) ρ₁ σ₁ → ∃ ρ₂, Upd x y ρ₁ ρ₂ ∧ es c' ρ₂ (execs body c'.env) σ₁ fun fl ρ' σ' => match fl with
      | .next | .cont => ∃ ρ'', Wk ρ'' ρ' ∧ J rest ρ'' σ'
      | .brk => Q .next ρ' σ'
      | .ret v => Q (.ret v) ρ' σ')
    (done : ∀ ρ₁ σ₁, J [] ρ₁ σ₁ → Q .next ρ₁ σ₁)
    (hs : ∀ x, foldedSetIterable iter c.env x = pure x := by intro _; rfl) : es c ρ (exec (.For (.Name x px) iter body [] pos) c.env) σ Q :=
  es_forG (Upd x) J (fun c' hs' _ _ _ _ _ _ _ _ st hu r q => wpAny_assign_Name (store_sound st hu (hs'.fn.trans hfn) r q)) h turn done hs
end Mine

end

section
namespace Mine
open PySem
variable {g : Gx} {c : Cx g} {ρ : Rho} {σ : Sto}

noncomputable def relabN (sc : Scope) : List (Str × NameKind) → List (Str × NameKind)
  | [] => []
  | (n, k) :: r => (if k == .free && sc.kind == .function && sc.names.lookup n == some .cell then (n, .cell) else (n, k)) :: relabN sc r
noncomputable def relab (scope sc : Scope) : Scope := { scope with names := relabN sc scope.names }
theorem relabel_eq {scope sc : Scope} {env : Env} (h : env.scope = sc) : relabel scope env = relab scope sc := by
  subst h
  unfold relabel relab
  congr 1
  generalize scope.names = l
  induction l with
  | nil => rfl
  | cons p r ih => obtain ⟨n, k⟩ := p; simp only [List.map_cons, relabN, ih]; rfl
noncomputable def closN (cells : List (Str × Addr)) : List (Str × NameKind) → List (Str × Addr) → List (Str × Addr)
  | [], acc => acc
  | (n, k) :: r, acc => closN cells r (if k == .free then (n, (cells.lookup n).getD 0) :: acc else acc)
theorem closN_free {cells : List (Str × Addr)} {n : Str} {k : NameKind} {a : Addr} {r : List (Str × NameKind)} {acc : List (Str × Addr)} (hk : (k == NameKind.free) = true) (ha : cells.lookup n = some a) : closN cells ((n, k) :: r) acc = closN cells r ((n, a) :: acc) := by
  rw [closN, if_pos hk, ha]; rfl
theorem closN_other {cells : List (Str × Addr)} {n : Str} {k : NameKind} {r : List (Str × NameKind)} {acc : List (Str × Addr)} (hk : ¬ (k == NameKind.free) = true) : closN cells ((n, k) :: r) acc = closN cells r acc := by
  rw [closN, if_neg hk]
theorem closureFor_eq {scope : Scope} {env : Env} (h : ∀ y ∈ scope.names, y.2 = .free → ∃ a, env.cells.lookup y.1 = some a) : closureFor scope env = pure (closN env.cells scope.names []) := by
  have main : ∀ (l : List (Str × NameKind)) (acc : List (Str × Addr)), (∀ y ∈ l, y.2 = .free → ∃ a, env.cells.lookup y.1 = some a) →
      (forIn l acc fun (x : Str × NameKind) (cs : List (Str × Addr)) => (if (x.2 == .free) = true then do let a ← cellOf env x.1; pure (ForInStep.yield ((x.1, a) :: cs)) else pure (ForInStep.yield cs) : Sem (ForInStep (List (Str × Addr))))) = (pure (closN env.cells l acc) : Sem _) := by
    intro l
    induction l with
    | nil => intro acc _; rfl
    | cons p r ih =>
      intro acc hl
      obtain ⟨n, k⟩ := p
      have ihr := fun acc => ih acc fun y hy => hl y (List.mem_cons_of_mem _ hy)
      rw [List.forIn_cons]
      by_cases hk : (k == NameKind.free) = true
      · obtain ⟨a, ha⟩ := hl (n, k) List.mem_cons_self (by simpa using hk)
        simp only [hk, if_true]
        have e : cellOf env n = pure a := by unfold cellOf; rw [show env.cells.lookup n = some a from ha]
        rw [e]
        simp only [pure_bind]
        rw [ihr, closN_free hk ha]
      · simp only [hk]
        simp only [Bool.false_eq_true, if_false]
        rw [closN_other hk]
        exact ihr acc
  have := main scope.names [] h
  unfold closureFor
  simp only [pure_bind, bind_pure] at this ⊢
  exact this
theorem closN_get {cells : List (Str × Addr)} {n : Str} {a : Addr} : ∀ {l : List (Str × NameKind)} {acc : List (Str × Addr)}, (∀ y ∈ l, y.2 = .free → ∃ a, cells.lookup y.1 = some a) → (closN cells l acc).lookup n = some a → cells.lookup n = some a ∨ acc.lookup n = some a
  | [], _, _, h => .inr h
  | (m, k) :: r, acc, hl, h => by
    unfold closN at h
    rcases closN_get (fun y hy => hl y (List.mem_cons_of_mem _ hy)) h with h' | h'
    · exact .inl h'
    clear h
    have h := h'
    clear h'
    by_cases hk0 : True
    · by_cases hk : (k == NameKind.free) = true
      · rw [if_pos hk] at h
        rw [List.lookup_cons] at h
        cases hn : n == m with
        | true =>
          rw [hn] at h
          obtain ⟨b, hb⟩ := hl (m, k) List.mem_cons_self (by simpa using hk)
          have hb' : cells.lookup m = some b := hb
          rw [hb'] at h
          have : n = m := by simpa using hn
          subst this
          left; rw [hb']; exact h
        | false => rw [hn] at h; exact .inr h
      · rw [if_neg hk] at h; exact .inr h
    · exact absurd trivial hk0
theorem closN_has {cells : List (Str × Addr)} {n : Str} : ∀ {l : List (Str × NameKind)} {acc : List (Str × Addr)}, (l.lookup n = some .free ∨ (acc.lookup n).isSome = true) → ((closN cells l acc).lookup n).isSome = true
  | [], _, h => h.elim (fun e => by cases e) id
  | (m, k) :: r, acc, h => by
    unfold closN
    refine closN_has ?_
    rw [List.lookup_cons] at h
    by_cases hk : (k == NameKind.free) = true
    · rw [if_pos hk]
      rw [List.lookup_cons]
      cases hn : n == m with
      | true => exact .inr rfl
      | false => rw [hn] at h; exact h
    · rw [if_neg hk]
      cases hn : n == m with
      | true =>
        rw [hn] at h
        rcases h with h | h
        · injection h with h; rw [h] at hk; exact absurd rfl hk
        · exact .inr h
      | false => rw [hn] at h; exact h
theorem relabN_cell {sc : Scope} {n : Str} : ∀ {l : List (Str × NameKind)}, (∀ y ∈ l, y.2 ≠ .cell) → (relabN sc l).lookup n = some .cell → l.lookup n = some .free ∧ sc.names.lookup n = some .cell
  | [], _, h => by cases h
  | (m, k) :: r, hc, h => by
    unfold relabN at h
    rw [List.lookup_cons]
    by_cases hk : (k == .free && sc.kind == .function && sc.names.lookup m == some .cell) = true
    · rw [if_pos hk, List.lookup_cons] at h
      simp only [Bool.and_eq_true, beq_iff_eq] at hk
      cases hn : n == m with
      | true =>
        have : n = m := by simpa using hn
        subst this
        exact ⟨by rw [hk.1.1], hk.2⟩
      | false => rw [hn] at h; exact relabN_cell (fun y hy => hc y (List.mem_cons_of_mem _ hy)) h
    · rw [if_neg hk, List.lookup_cons] at h
      cases hn : n == m with
      | true => rw [hn] at h; injection h with h; exact absurd h (hc (m, k) List.mem_cons_self)
      | false => rw [hn] at h; exact relabN_cell (fun y hy => hc y (List.mem_cons_of_mem _ hy)) h

noncomputable def compOkL (xs fr : List Str) (scope sc : Scope) : Bool :=
  (scope.kind == .function) && scope.names.all (fun y => y.2 != .cell && (y.2 != .free || fr.contains y.1) && (y.2 != .local || scope.names.lookup y.1 == some .local)) &&
  xs.all (fun x => (scope.names.lookup x == some .local) && !(x == ("__debug__" : Str))) && decide ((xs ++ fr).Nodup) &&
  fr.all fun n => (relab scope sc).names.lookup n == some .cell
noncomputable abbrev compOk (x : Str) (fr : List Str) (scope sc : Scope) : Bool := compOkL [x] fr scope sc
noncomputable def evT (c : Cx g) (ρ : Rho) : Option Expr → Sto → (Bool → Sto → Prop) → Prop
  | Option.none, σ, Q => Q true σ
  | some t, σ, Q => evb c ρ t σ Q
theorem evT_sound {t : Option Expr} {Q : Bool → Sto → Prop} (h : evT c ρ t σ Q) : gv c ρ (fun _ a b => a = b) (forIn t.toList true fun e r => if r = true then do let ok ← isTrue e c.env (eval e c.env); pure (ForInStep.yield ok) else pure (ForInStep.yield r)) σ Q := fun s hs => by
  cases t with
  | none => exact wpAny_tests_nil ⟨_, σ, hs.inv, .refl .., rfl, h⟩
  | some t => exact wpAny_tests_one (h s hs)

theorem compOk_facts {xs : List Str} {fr : List Str} {scope sc : Scope} (h : compOkL xs fr scope sc = true) : scope.kind = .function ∧ (∀ y ∈ scope.names, y.2 ≠ .cell) ∧ (∀ y ∈ scope.names, y.2 = .free → y.1 ∈ fr) ∧
    (∀ y ∈ scope.names, y.2 = .local → scope.names.lookup y.1 = some .local) ∧ (∀ x ∈ xs, scope.names.lookup x = some .local ∧ (x == ("__debug__" : Str)) = false) ∧ (xs ++ fr).Nodup ∧ ∀ n ∈ fr, (relab scope sc).names.lookup n = some .cell := by
  simp only [compOkL, Bool.and_eq_true, Bool.not_eq_true', beq_iff_eq, decide_eq_true_eq, List.all_eq_true, Bool.or_eq_true, bne_iff_ne, ne_eq] at h
  obtain ⟨⟨⟨⟨h1, h2⟩, h3⟩, h5⟩, h6⟩ := h
  refine ⟨h1, fun y hy => (h2 y hy).1.1, fun y hy hf => ?_, fun y hy hf => ?_, h3, h5, h6⟩
  · rcases (h2 y hy).1.2 with q | q
    · exact absurd hf q
    · simpa using q
  · rcases (h2 y hy).2 with q | q
    · exact absurd hf q
    · exact q

noncomputable def FrIn (fr ρ : Rho) : Prop := ∀ p ∈ fr, p.1 ∈ ρ.map (·.1) ∧ ∀ v, p.2 = some v → (p.1, some v) ∈ ρ

noncomputable abbrev compCx (c : Cx g) (env' : Env) (own' hid' : List Addr) (sc' : Scope) (R : Result → Shared → Prop) : Cx g := ⟨c.A, env', own', hid', notedBy g.M c.A env' fun e s' => R (.error e) s', sc', false⟩
theorem Inv.slot {w : World} {H₀ : Heap} {own' : List Addr} {σ' : Sto} {s' : Shared} {h' : Heap} {tk : Nat} {Z : Addr} (hi : Inv w H₀ own' σ' s') (hZ : Z ∈ own') (hk : ∀ b o, b ≠ Z → s'.heap.get? b = some o → h'.get? b = some o) (hl : ∃ o, h'.get? Z = some o) : Inv w H₀ own' σ' { s' with heap := h', toks := tk } ∧ (fz s'.heap own' σ').le (fz h' own' σ') := by
  have le : (fz s'.heap own' σ').le (fz h' own' σ') := fun b o e => by
    obtain ⟨e1, e2, e3⟩ := fz_eq.mp e
    exact fz_eq.mpr ⟨e1, e2, hk b o (by rintro rfl; exact e2 hZ) e3⟩
  refine ⟨⟨fun b o e => le b o (hi.keep b o e), fun a z e => (hi.objs a z e).mono le fun o e' => hk a o (by rintro rfl; rw [hi.off _ hZ] at e; cases e) e', hi.off, fun a ha => ?_⟩, le⟩
  by_cases h : a = Z
  · subst h; exact hl
  · obtain ⟨o, ho⟩ := hi.live a ha; exact ⟨o, hk a o h ho⟩
theorem comp_turns {prog : Program} {w : World} {A : Around} {s : Shared} {R : Result → Shared → Prop} {elt target iter : Expr} {ifs : List Expr} {scope : Scope} {pos : Pos} {it acc : Value} {env : Env} (I : Nat → Shared → Prop)
    (turn : ∀ n s, I n s → wpAny (model prog w) A (pyNext it) (fun r s₁ => match r with
      | none => R (.ok .next) s₁
      | some v => wpAny (model prog w) A (letOwnedTupleGo target it v) (fun _ s₀ => wpAny (model prog w) A (assign target env v) (fun _ s₂ =>
          wpAny (model prog w) A (forIn ifs true fun c r => if r = true then do let ok ← isTrue c env (eval c env); pure (ForInStep.yield ok) else pure (ForInStep.yield r)) (fun ok s₃ =>
            if ok = true then wpAny (model prog w) A (eval elt env) (fun x s₄ =>
              wpAny (model prog w) A (call (.builtin "list.append") [acc, x]) (fun _ s₅ => ∃ m, m < n ∧ I m s₅) (notedBy (model prog w) A env fun e s' => R (.error e) s') s₄) (notedBy (model prog w) A env fun e s' => R (.error e) s') s₃
            else ∃ m, m < n ∧ I m s₃) (notedBy (model prog w) A env fun e s' => R (.error e) s') s₂) (notedBy (model prog w) A env fun e s' => R (.error e) s') s₀) (notedBy (model prog w) A env fun e s' => R (.error e) s') s₁) (notedBy (model prog w) A env fun e s' => R (.error e) s') s)
    (n : Nat) (h : I n s) : codeAny (model prog w) A (.compLoop (.ListComp elt [⟨target, iter, ifs, 0⟩] scope pos) 0 it acc env) R s := by
  refine codeAny_loop rfl I (fun n s hI => ?_) n h
  show wpAny _ A ((compTurn (.ListComp elt [⟨target, iter, ifs, 0⟩] scope pos) 0 it acc env).onRaise (fun x => do noteFrame x env; theTreesLotGoes x)) _ _ s
  refine wpAny_noted ?_
  rw [compTurn_list]
  refine wpAny_bind (wpAny_standAt (wpAny_bind (wpAny_mono (turn n s hI) (fun r s₁ h₁ => ?_) fun _ _ e => e)))
  cases r with
  | none => exact wpAny_pure h₁
  | some v =>
    refine wpAny_bind (wpAny_mono h₁ (fun _ s₀ h₀ => wpAny_bind (wpAny_mono h₀ (fun _ s₂ h₂ => wpAny_bind (wpAny_mono h₂ (fun ok s₃ h₃ => ?_) fun _ _ e => e)) fun _ _ e => e)) fun _ _ e => e)
    cases ok with
    | false => exact wpAny_pure ⟨rfl, h₃⟩
    | true => exact wpAny_bind (wpAny_bind (wpAny_mono h₃ (fun x s₄ h₄ => wpAny_bind (wpAny_mono h₄ (fun _ s₅ h₅ => wpAny_pure (wpAny_pure ⟨rfl, h₅⟩)) fun _ _ e => e)) fun _ _ e => e))
theorem comp_loopG {elt iter tgt : Expr} {pos : Pos} {t : Option Expr} {scope sc' : Scope} {fr : Rho} {l : List AV} {s : Shared} {R : Result → Shared → Prop} {env' : Env} {own' hid' : List Addr} {I D Z : Addr} {fp : List Addr} {P : Nat → Value → Prop} {Sx : Nat → Heap → Prop} {h₁ : Heap} {tk₁ : Nat} {Slot : Heap → Prop}
    (bnd : AV → Rho) (okT : AV → Prop) (J : List AV → List AV → Sto → Prop) (W : Walks g.prog g.w c.A I fp [I] l.length P Sx) (hlv : ∀ j h, Sx j h → ∃ o, h.get? I = some o ∧ itOk o = true) (hfp : ∀ b ∈ fp, b = I ∨ ∃ o, c.F σ s b = some o) (hP : ∀ i u, i < l.length → P i u → ∃ x, l[i]? = some x ∧ Rep g.w (c.F σ s) u x)
    (hIin : I ∈ own') (hDin : D ∈ own') (hZin : Z ∈ own') (hsub : ∀ a ∈ c.own, a ∈ own') (hDo : D ∉ c.own) (hZo : Z ∉ c.own) (hIo : I ∉ c.own) (hID : I ≠ D) (hIZ : I ≠ Z) (hZD : Z ≠ D) (hZs : s.heap.objs.size ≤ Z) (hsz : l.length ≤ sizeLine)
    (slot_at : ∀ {h h' : Heap}, Slot h → (∀ a ∈ own', a ≠ D → a ≠ I → ∀ o, h.get? a = some o → h'.get? a = some o) → Slot h')
    (put : ∀ {σ' : Sto} {s' : Shared} {u : Value} {z : AV} {Q : Unit → Shared → Prop} {E : Value → Shared → Prop}, (compCx c env' own' hid' sc' R).Inv σ' s' → Slot s'.heap → Rep g.w ((compCx c env' own' hid' sc' R).F σ' s') u z → okT z → (c.F σ s).le ((compCx c env' own' hid' sc' R).F σ' s') → (∀ a ∈ c.own, ∀ o, s.heap.get? a = some o → s'.heap.get? a = some o) →
      (∀ h' tk, (compCx c env' own' hid' sc' R).Inv σ' { s' with heap := h', toks := tk } → Slot h' → St (compCx c env' own' hid' sc' R) (bnd z ++ fr) σ' { s' with heap := h', toks := tk } → ((compCx c env' own' hid' sc' R).F σ' s').le (fz h' own' σ') → (∀ b o, b ≠ Z → s'.heap.get? b = some o → h'.get? b = some o) → Q () { s' with heap := h', toks := tk }) → wpAny g.M c.A (assign tgt env' u) Q E s')
    (okJ : ∀ y rest acc σ₁, J (y :: rest) acc σ₁ → okT y)
    (turn : ∀ y rest acc σ₁, J (y :: rest) acc σ₁ → evT (compCx c env' own' hid' sc' R) (bnd y ++ fr) t σ₁ fun b σ₂ => match b with
      | true => ev (compCx c env' own' hid' sc' R) (bnd y ++ fr) elt σ₂ fun z σ₃ => J rest (acc ++ [z]) σ₃
      | false => J rest acc σ₂)
    (hS₁ : Sx 0 h₁) (hacc₁ : h₁.get? D = some (lstO [] 0)) (inv₁ : (compCx c env' own' hid' sc' R).Inv σ { s with heap := h₁, toks := tk₁ }) (slot₁ : Slot h₁) (hF₁ : (c.F σ s).le (fz h₁ own' σ)) (oldO : ∀ a ∈ c.own, ∀ o, s.heap.get? a = some o → h₁.get? a = some o) (hJ : J l [] σ)
    (fin : ∀ (l' : List AV) (σ' : Sto) (h' h₃ : Heap) (tk tk₃ : Nat) (vs : List Value) (n : Nat), J [] l' σ' → h'.get? D = some (lstO vs n) → Mine.Inv g.w g.H₀ own' σ' { s with heap := h', toks := tk } → Slot h' → RepL g.w (fz h' own' σ') vs l' → (c.F σ s).le (fz h' own' σ') → (∀ a ∈ c.own, ∀ o, s.heap.get? a = some o → h'.get? a = some o) → l'.length ≤ l.length →
      (∀ b o, b ≠ I → h'.get? b = some o → h₃.get? b = some o) → R (.ok .next) { s with heap := h₃, toks := tk₃ }) :
    codeAny g.M c.A (.compLoop (.ListComp elt [⟨tgt, iter, t.toList, 0⟩] scope pos) 0 (.ref I) (.ref D) env') R { s with heap := h₁, toks := tk₁ } := by
  let c' := compCx c env' own' hid' sc' R
  refine comp_turns (fun k s' => ∃ (j : Nat) (acc : List AV) (σ' : Sto) (vs : List Value) (n : Nat) (h' : Heap) (tk : Nat), s' = { s with heap := h', toks := tk } ∧ k = l.length + 1 - j ∧ j ≤ l.length ∧ Sx j h' ∧ h'.get? D = some (lstO vs n) ∧
    c'.Inv σ' s' ∧ Slot h' ∧ RepL g.w (c'.F σ' s') vs acc ∧ (c.F σ s).le (c'.F σ' s') ∧ (∀ a ∈ c.own, ∀ o, s.heap.get? a = some o → h'.get? a = some o) ∧ J (l.drop j) acc σ' ∧ acc.length ≤ j)
    ?_ (l.length + 1) ⟨0, [], σ, [], 0, h₁, _, rfl, rfl, Nat.zero_le _, hS₁, hacc₁, inv₁, slot₁, .nil, hF₁, oldO, by simpa using hJ, Nat.le_refl _⟩
  rintro k s' ⟨j, acc, σ', vs, n, h', tk, rfl, rfl, hj, hSj, hDj, hi, hn, hvs, hle, hown, hJj, hlen⟩
  by_cases hlt : j < l.length
  · refine W.item j _ _ _ hlt hSj fun u h₃ tk₃ hPu hS₃ hk₃ => ?_
    have hk₃' : ∀ b o, b ≠ I → h'.get? b = some o → h₃.get? b = some o := fun b o hb => hk₃ b o (by simpa using hb)
    obtain ⟨y', hy', hyr⟩ := hP j u hlt hPu
    have hdrop : l.drop j = y' :: l.drop (j + 1) := by
      rw [List.getElem?_eq_getElem hlt] at hy'
      injection hy' with hy'
      rw [List.drop_eq_getElem_cons hlt, hy']
    rw [hdrop] at hJj
    -- the walker turned
    have le₃ : (fz h' c'.own σ').le (fz h₃ c'.own σ') := fun b o e => by
      obtain ⟨e1, e2, e3⟩ := fz_eq.mp e
      exact fz_eq.mpr ⟨e1, e2, hk₃' b o (by rintro rfl; exact e2 hIin) e3⟩
    have inv₃ : c'.Inv σ' { s with heap := h₃, toks := tk₃ } := by
      refine ⟨fun b o e => le₃ b o (hi.keep b o e), fun a z e => (hi.objs a z e).mono le₃ fun o e' => hk₃' a o (by rintro rfl; rw [hi.off _ hIin] at e; cases e) e', hi.off, fun a ha => ?_⟩
      by_cases hq : a = I
      · subst hq; exact let ⟨o, ho, _⟩ := hlv _ _ hS₃; ⟨o, ho⟩
      · obtain ⟨o, ho⟩ := hi.live a ha; exact ⟨o, hk₃' a o hq ho⟩
    have hn₃ : Slot h₃ := slot_at hn fun a _ _ hne o e => hk₃' a o hne e
    obtain ⟨oI, hoI, hIok⟩ := hlv _ _ hS₃
    refine owned_skip (s := { s with heap := h₃, toks := tk₃ }) hoI hIok ?_
    have own₃ : ∀ a ∈ c.own, ∀ o, s.heap.get? a = some o → h₃.get? a = some o := fun a ha o ho => hk₃' a o (by rintro rfl; exact hIo ha) (hown a ha o ho)
    refine put inv₃ hn₃ (hyr.mono (hle.trans le₃)) (okJ _ _ _ _ hJj) (hle.trans le₃) own₃ fun h₄ tk₄ inv₄ hn₄ st₄ le34 hk₄ => ?_
    have le₄ : (c.F σ s).le (fz h₄ c'.own σ') := (hle.trans le₃).trans le34
    have own₄ : ∀ a ∈ c.own, ∀ o, s.heap.get? a = some o → h₄.get? a = some o := fun a ha o ho => hk₄ a o (by rintro rfl; exact hZo ha) (own₃ a ha o ho)
    have hD₄ : h₄.get? D = some (lstO vs n) := hk₄ D _ (Ne.symm hZD) (hk₃' D _ (Ne.symm hID) hDj)
    have hS₄ : Sx (j + 1) h₄ := by
      refine W.frame _ _ _ hS₃ fun b hb o ho => hk₄ b o ?_ ho
      rcases hfp b hb with rfl | ⟨o₀, ho₀⟩
      · exact hIZ
      · have := Heap.lt_size (fz_eq.mp ho₀).2.2
        exact fun e => absurd this (e ▸ Nat.not_lt.mpr hZs)
    have hvs₄ : RepL g.w (fz h₄ c'.own σ') vs acc := (hvs.mono le₃).mono le34
    have hturn := turn y' (l.drop (j + 1)) acc σ' hJj
    refine pg.use (evT_sound hturn _ st₄) (fun b s₅ b' σ₅ i₅ e₅ hbb q₅ => ?_)
    subst hbb
    obtain ⟨h₅, tk₅, e5⟩ := e₅.same
    subst e5
    have hgl₅ : (fz h₄ c'.own σ').le (fz h₅ c'.own σ₅) := e₅.grow
    have hown₅ : ∀ a ∈ c'.own, ∀ o, h₄.get? a = some o → h₅.get? a = some o := e₅.own
    have hD₅ := hown₅ D hDin _ hD₄
    -- a turn's end
    have tend : ∀ {σ₆ : Sto} {h₆ : Heap} {tk₆ : Nat}, c'.Inv σ₆ { s with heap := h₆, toks := tk₆ } → (fz h₅ c'.own σ₅).le (fz h₆ c'.own σ₆) → (∀ a ∈ c'.own, a ≠ D → ∀ o, h₅.get? a = some o → h₆.get? a = some o) →
        ∀ acc' vs' n', h₆.get? D = some (lstO vs' n') → RepL g.w (fz h₆ c'.own σ₆) vs' acc' → J (l.drop (j + 1)) acc' σ₆ → acc'.length ≤ j + 1 →
        ∃ mm, mm < l.length + 1 - j ∧ ∃ (j : Nat) (acc : List AV) (σ' : Sto) (vs : List Value) (n : Nat) (h' : Heap) (tk : Nat), ({ s with heap := h₆, toks := tk₆ } : Shared) = { s with heap := h', toks := tk } ∧ mm = l.length + 1 - j ∧ j ≤ l.length ∧ Sx j h' ∧ h'.get? D = some (lstO vs n) ∧
          c'.Inv σ' { s with heap := h₆, toks := tk₆ } ∧ Slot h' ∧ RepL g.w (c'.F σ' { s with heap := h₆, toks := tk₆ }) vs acc ∧ (c.F σ s).le (c'.F σ' { s with heap := h₆, toks := tk₆ }) ∧ (∀ a ∈ c.own, ∀ o, s.heap.get? a = some o → h'.get? a = some o) ∧ J (l.drop j) acc σ' ∧ acc.length ≤ j := by
      intro σ₆ h₆ tk₆ i₆ g₆ o₆ acc' vs' n' hD₆ hvs₆ hJ₆ hl₆
      have back : ∀ a ∈ c'.own, a ≠ D → ∀ o, h₄.get? a = some o → h₆.get? a = some o := fun a ha hne o ho => o₆ a ha hne o (hown₅ a ha o ho)
      refine ⟨l.length + 1 - (j + 1), by omega, j + 1, acc', σ₆, vs', n', h₆, tk₆, rfl, rfl, hlt, ?_, hD₆, i₆, slot_at hn₄ fun a ha hne _ o e => back a ha hne o e, hvs₆, le₄.trans (hgl₅.trans g₆), fun a ha o ho => ?_, hJ₆, hl₆⟩
      · refine W.frame _ _ _ hS₄ fun b hb o ho => ?_
        rcases hfp b hb with rfl | ⟨o₀, ho₀⟩
        · exact back _ hIin hID o ho
        · have h7 := le₄ b o₀ ho₀
          have h8 := (fz_eq.mp h7).2.2
          rw [ho] at h8
          injection h8 with h8
          subst h8
          exact (fz_eq.mp (g₆ b o (hgl₅ b o h7))).2.2
      · exact back a (hsub a ha) (by rintro rfl; exact hDo ha) o (own₄ a ha o ho)
    cases b with
    | false =>
      rw [if_neg Bool.false_ne_true]
      exact tend i₅ (.refl _) (fun _ _ _ _ e => e) acc vs n hD₅ (hvs₄.mono hgl₅) q₅ (by omega)
    | true =>
      rw [if_pos rfl]
      have st₅ : St c' (bnd y' ++ fr) σ₅ { s with heap := h₅, toks := tk₅ } := st₄.ev i₅ e₅
      refine pg.use (q₅ _ st₅) (fun z s₆ z' σ₆ i₆ e₆ r₆ q₆ => ?_)
      obtain ⟨h₆, tk₆, e6⟩ := e₆.same
      subst e6
      have hgl₆ : (fz h₅ c'.own σ₅).le (fz h₆ c'.own σ₆) := e₆.grow
      have hown₆ : ∀ a ∈ c'.own, ∀ o, h₅.get? a = some o → h₆.get? a = some o := e₆.own
      have hD₆ : h₆.PlainList D vs.toArray := ⟨n, hown₆ D hDin _ hD₅⟩
      have hvlen : vs.length = acc.length := hvs.length
      refine wpAny_list_append_plain hD₆ (fun h₇ hp₇ hs₇ => ?_) (by rw [List.size_toArray]; omega)
      have hF₇ : fz h₇ c'.own σ₆ = fz h₆ c'.own σ₆ := fz_sameBut hDin hs₇
      obtain ⟨n₇, hn₇⟩ := hp₇
      have hD₇ : h₇.get? D = some (lstO (vs ++ [z]) n₇) := by rw [hn₇]; simp
      refine tend (h₆ := h₇) (tk₆ := tk₆) (i₆.sameBut (t := tk₆) hDin hs₇ ⟨_, hD₇⟩) ?_ (fun a ha hne o ho => (hs₇.2 a hne).trans (hown₆ a ha o ho)) (acc ++ [z']) (vs ++ [z]) n₇ hD₇ ?_ q₆ (by rw [List.length_append, List.length_singleton]; omega)
      · rw [hF₇]; exact hgl₆
      · rw [hF₇]
        exact ((hvs₄.mono hgl₅).mono hgl₆).append (.cons r₆ .nil)
  · have hjl : j = l.length := by omega
    subst hjl
    refine W.done _ _ _ hSj fun h₃ tk₃ hk₃ => ?_
    have hk₃' : ∀ b o, b ≠ I → h'.get? b = some o → h₃.get? b = some o := fun b o hb => hk₃ b o (by simpa using hb)
    exact fin acc σ' h' h₃ tk tk₃ vs n (by simpa using hJj) hDj hi hn hvs hle hown hlen hk₃'

noncomputable def Binds (c : Cx g) (tgt : Expr) (xs : List Str) (bnd : AV → Rho) (okT : AV → Prop) : Prop := (∀ z, okT z → (bnd z).map (·.1) = xs) ∧
  ∀ {env' : Env} {C : Addr} {s' : Shared} {m : Str → Option Value} {u : Value} {z : AV} {F : Fz} {Q : Unit → Shared → Prop} {E : Value → Shared → Prop}, (∀ x ∈ xs, env'.kindOf x = some .local) → (env'.scope.kind == .class || (env'.scope.kind == .module && env'.locals != env'.globals)) = false → env'.locals = C → s'.heap.Ns C m → Rep g.w F u z → (∀ b o, F b = some o → s'.heap.get? b = some o) → okT z →
    (∀ h' tk m', h'.Ns C m' → (∀ n v, (n, some v) ∈ bnd z → ∃ u', m' n = some u' ∧ Rep g.w F u' v) → (∀ b o, b ≠ C → s'.heap.get? b = some o → h'.get? b = some o) → Q () { s' with heap := h', toks := tk }) → wpAny g.M c.A (assign tgt env' u) Q E s'
theorem binds_name {x : Str} {px : Pos} : Binds c (.Name x px) [x] (fun z => [(x, some z)]) fun _ => True := ⟨fun _ _ => rfl, fun {env' C s' m u z F Q E} hl hp hC hn hz hF _ q => by
  subst hC
  refine wpAny_assign_Name (wpAny_storeName_local (hl x List.mem_cons_self) hn (fun h₄ hn₄ hs₄ => ?_) hp)
  refine q h₄ _ _ hn₄ (fun n v hv => ?_) fun b o hb e => (hs₄.2 b hb).trans e
  rw [List.mem_singleton] at hv
  injection hv with e1 e2
  injection e2 with e2
  subst e1 e2
  exact ⟨u, if_pos rfl, hz⟩⟩
theorem comp_core {elt iter tgt : Expr} {xs : List Str} {pos : Pos} {t : Option Expr} {scope : Scope} {fr : Rho} {y : AV} {v : Value} {l : List AV} {s : Shared} {RR : Value → Addr → Result → Shared → Prop} {E : Value → Shared → Prop}
    (bnd : AV → Rho) (okT : AV → Prop) (asg : Binds c tgt xs bnd okT) (J : List AV → List AV → Sto → Prop) (okJ : ∀ y rest acc σ₁, J (y :: rest) acc σ₁ → okT y) (hok : compOkL xs (fr.map (·.1)) scope c.sc = true) (hfr : FrIn fr ρ) (st : St c ρ σ s) (r : Rep g.w (c.F σ s) v y) (hit : Iter c y l) (hJ : J l [] σ) (hsz : l.length ≤ sizeLine)
    (turn : ∀ c' : Cx g, c'.A = c.A → c'.sc = relab scope c.sc → ∀ y rest acc σ₁, J (y :: rest) acc σ₁ → evT c' (bnd y ++ fr) t σ₁ fun b σ₂ => match b with
      | true => ev c' (bnd y ++ fr) elt σ₂ fun z σ₃ => J rest (acc ++ [z]) σ₃
      | false => J rest acc σ₂)
    (hRR : ∀ D C l' σ' h' tk m vs n, J [] l' σ' → D ∉ c.own → C ∉ c.own → C ≠ D → s.heap.objs.size ≤ D → s.heap.objs.size ≤ C → h'.get? D = some (lstO vs n) →
      RepL g.w (fz h' (C :: D :: c.own) σ') vs l' → h'.Ns C m → (c.F σ s).le (fz h' (C :: D :: c.own) σ') → (∀ a ∈ c.own, ∀ o, s.heap.get? a = some o → h'.get? a = some o) →
      Mine.Inv g.w g.H₀ (C :: D :: c.own) σ' { s with heap := h', toks := tk } → l'.length ≤ l.length → RR (.ref D) C (.ok .next) { s with heap := h', toks := tk }) :
    wpAny g.M c.A (pyIter v) (fun it s₂ => wpAny g.M c.A (newList []) (fun acc s₃ => wpAny g.M c.A (newFunctionEnv scope c.env.globals (closN c.env.cells scope.names []) [] c.env.qual none .none (some c.env)) (fun cenv s₄ =>
      codeAny g.M c.A (.compStart (.ListComp elt [⟨tgt, iter, t.toList, 0⟩] scope pos) 0 it acc { cenv with scope := relabel scope c.env }) (RR acc cenv.locals) s₄) E s₃) E s₂) E s := by
  obtain ⟨hkind, hcell, hfree, hnames, hx, hnd, hfrk⟩ := compOk_facts hok
  refine wpAny_mono (hit σ s v st.inv r E) (fun it s₂ q_ => ?_) fun _ _ e => e
  obtain ⟨I, fp, P, Sx, hI, W, hS, ⟨h₂, tk₂, hs₂⟩, hk, hszI, hlv0, hfp, hP⟩ := q_
  have hlv : ∀ j h, Sx j h → ∃ o, h.get? I = some o := fun j h hx => (hlv0 j h hx).imp fun _ q => q.1
  subst hI
  subst hs₂
  refine wpAny_newObj_type (wpAny_newFunctionEnv hcell (by intro y hy; simp at hy) (fun h₁ hns₁ hsb₁ => ?_) hkind)
  dsimp only at hns₁ hsb₁ ⊢
  have hIlt : I < h₂.objs.size := by obtain ⟨o, ho⟩ := hlv 0 _ hS; exact Heap.lt_size ho
  generalize hD : h₂.objs.size = D at hns₁ hsb₁ ⊢
  generalize hH2 : h₂.push { cls := .type "list", dict := none, data := .seq ([] : List Value).toArray } = H2 at hns₁ hsb₁ ⊢
  have hC : H2.objs.size = D + 1 := by rw [← hH2, Heap.size_push, hD]
  generalize hCe : H2.objs.size = C at hns₁ hsb₁ hC ⊢
  have hscR : relabel scope c.env = relab scope c.sc := relabel_eq st.fr.sc
  have hfreeC : ∀ y ∈ scope.names, y.2 = .free → ∃ a, c.env.cells.lookup y.1 = some a := fun y hy hf => by
    obtain ⟨p, hp, e⟩ := List.mem_map.mp (hfree y hy hf)
    have h1 := (hfr p hp).1
    rw [e] at h1
    have hk1 := hfrk y.1 (hfree y hy hf)
    have hk2 := (relabN_cell hcell hk1).2
    rcases (st.fr.kinds y.1 h1).2 with q | ⟨_, q⟩
    · rw [hk2] at q; cases q
    · exact q
  generalize hcl : closN c.env.cells scope.names [] = cl
  have hclget : ∀ n a, cl.lookup n = some a → c.env.cells.lookup n = some a := fun n a h => by
    rw [← hcl] at h
    exact (closN_get hfreeC h).resolve_right (by simp)
  have hclhas : ∀ n, scope.names.lookup n = some .free → ∃ a, cl.lookup n = some a := fun n h => by
    rw [← hcl]
    exact Option.isSome_iff_exists.mp (closN_has (.inl h))
  have hDs : s.heap.objs.size ≤ D := by
    rw [← hD]
    exact Nat.le_trans hszI (Nat.le_of_lt hIlt)
  have hIo : I ∉ c.own := (st.inv.fresh hszI).2
  have hDo : D ∉ c.own := (st.inv.fresh hDs).2
  have hCs : s.heap.objs.size ≤ C := by rw [hC]; exact Nat.le_succ_of_le hDs
  have hCo : C ∉ c.own := (st.inv.fresh hCs).2
  have hCD : C ≠ D := by rw [hC]; exact Nat.ne_of_gt (Nat.lt_succ_self _)
  have hID : I ≠ D := by rw [← hD]; exact Nat.ne_of_lt hIlt
  have hIC : I ≠ C := by rw [hC]; rw [hD] at hIlt; exact Nat.ne_of_lt (Nat.lt_succ_of_lt hIlt)
  have old : ∀ b o, h₂.get? b = some o → h₁.get? b = some o := fun b o e => by
    have hb : b < D := hD ▸ Heap.lt_size e
    exact hsb₁.extBut b o (by rw [hC]; exact Nat.ne_of_lt (Nat.lt_succ_of_lt hb)) (Heap.get?_push_of_some _ (hH2 ▸ Heap.get?_push_of_some _ e))
  have oldS : ∀ b o, s.heap.get? b = some o → h₁.get? b = some o := fun b o e => old b o (hk b o e)
  have hacc₁ : h₁.get? D = some (lstO [] 0) := hsb₁.extBut _ _ (Ne.symm hCD) (Heap.get?_push_of_some _ (hH2 ▸ hD ▸ Heap.get?_push_size _ rfl))
  have hS₁ : Sx 0 h₁ := W.frame _ _ _ hS fun b _ o e => old b o e
  -- the comprehension's own context
  generalize hE' : compEnvC scope cl C c.env = env'
  have he1 : env'.scope = relab scope c.sc := by rw [← hE', ← hscR]; rfl
  have he2 : env'.locals = C := by rw [← hE']; rfl
  have he3 : env'.cells = cl := by rw [← hE']; rfl
  have he4 : env'.globals = mainGlobals := by rw [← hE']; exact st.fr.glob
  have he5 : env'.builtins = builtinsNs := by rw [← hE']; exact st.fr.blt
  show codeAny g.M c.A (.compStart (.ListComp elt [⟨tgt, iter, t.toList, 0⟩] scope pos) 0 (.ref I) (.ref D) (compEnvC scope cl C c.env)) (RR (.ref D) C) _
  rw [hE']
  let c' : Cx g := ⟨c.A, env', C :: D :: I :: c.own, D :: I :: c.own, notedBy g.M c.A env' fun e s' => RR (.ref D) C (.error e) s', relab scope c.sc, false⟩
  have hF₁ : (c.F σ s).le (fz h₁ c'.own σ) := fun b o e => by
    obtain ⟨e1, e2, e3⟩ := fz_eq.mp e
    have hb := Heap.lt_size e3
    refine fz_eq.mpr ⟨e1, fun hm => ?_, oldS b o e3⟩
    rcases List.mem_cons.mp hm with q | hm
    · exact absurd hb (q ▸ Nat.not_lt.mpr hCs)
    rcases List.mem_cons.mp hm with q | hm
    · exact absurd hb (q ▸ Nat.not_lt.mpr hDs)
    rcases List.mem_cons.mp hm with q | hm
    · exact absurd hb (q ▸ Nat.not_lt.mpr hszI)
    · exact e2 hm
  have inv₁ : c'.Inv σ { s with heap := h₁, toks := tk₂ + ([] : List (Str × Value)).length } := by
    refine ⟨fun b o e => hF₁ b o (st.inv.keep b o e), fun a z e => (st.inv.objs a z e).mono hF₁ fun o e => oldS a o e, fun a ha => ?_, fun a ha => ?_⟩
    · rcases List.mem_cons.mp ha with rfl | ha
      · exact (st.inv.fresh hCs).1
      rcases List.mem_cons.mp ha with rfl | ha
      · exact (st.inv.fresh hDs).1
      rcases List.mem_cons.mp ha with rfl | ha
      · exact (st.inv.fresh hszI).1
      · exact st.inv.off a ha
    · rcases List.mem_cons.mp ha with rfl | ha
      · obtain ⟨o, _, _, ho, _⟩ := hns₁; exact ⟨o, ho⟩
      rcases List.mem_cons.mp ha with rfl | ha
      · exact ⟨_, hacc₁⟩
      rcases List.mem_cons.mp ha with rfl | ha
      · exact hlv 0 _ hS₁
      · obtain ⟨o, ho⟩ := st.inv.live a ha; exact ⟨o, oldS a o ho⟩
  have fr' : Frame c' (xs ++ fr.map (·.1)) := by
    refine ⟨he1, (fun h => by cases h), ?_, he4, he5, ?_, ?_, fun a ha => List.mem_cons_of_mem _ ha, fun n a ha => ?_, (fun h => by cases h), fun n hn => ?_, ?_⟩
    · show env'.scope.kind = _; rw [he1]; exact hkind
    · show env'.locals ∈ _; rw [he2]; exact List.mem_cons_self
    · show env'.locals ∉ _
      rw [he2]
      simp only [List.mem_cons, not_or, c']
      exact ⟨hCD, Ne.symm hIC, hCo⟩
    · have ha' : cl.lookup n = some a := he3 ▸ ha
      have := (st.fr.cells n a (hclget n a ha')).1
      refine ⟨List.mem_cons_of_mem _ (List.mem_cons_of_mem _ (List.mem_cons_of_mem _ this)), ?_⟩
      show a ≠ env'.locals
      rw [he2]
      rintro rfl
      exact hCo this
    · rcases List.mem_append.mp hn with hn | hn
      · refine ⟨(hx n hn).2, .inl ?_⟩
        have := lookup_relabel_local (env := c.env) (hx n hn).1
        show (relab scope c.sc).names.lookup _ = _
        rw [← hscR]
        exact this
      · obtain ⟨p, hp, rfl⟩ := List.mem_map.mp hn
        have hk1 := hfrk p.1 hn
        refine ⟨(st.fr.kinds p.1 (hfr p hp).1).1, .inr ⟨hk1, ?_⟩⟩
        show ∃ a, env'.cells.lookup p.1 = some a
        rw [he3]
        exact hclhas p.1 (relabN_cell hcell hk1).1
    · exact hnd
  -- the state at a turn
  have mkSt : ∀ {σ' : Sto} {s' : Shared} {m : Str → Option Value} {z : AV}, okT z → c'.Inv σ' s' → s'.heap.Ns C m → (∀ n v, (n, some v) ∈ bnd z → ∃ u, m n = some u ∧ Rep g.w (c'.F σ' s') u v) → (c.F σ s).le (c'.F σ' s') → (∀ a ∈ c.own, ∀ o, s.heap.get? a = some o → s'.heap.get? a = some o) →
      St c' (bnd z ++ fr) σ' s' := by
    intro σ' s' m z hz0 hi hn hm hle hown
    have hbn := asg.1 z hz0
    refine ⟨hi, by rw [List.map_append, hbn]; exact fr', ⟨m, by show s'.heap.Ns env'.locals m; rw [he2]; exact hn, fun n w' hw hkn => ?_⟩, fun n a hkn ha => ?_⟩
    · rcases List.mem_append.mp hw with hw | hw
      · exact hm n w' hw
      · have := hfrk n (List.mem_map.mpr ⟨_, hw, rfl⟩)
        have hkn' : (relab scope c.sc).names.lookup n = some .local := hkn
        rw [this] at hkn'; cases hkn'
    · have ha' : cl.lookup n = some a := he3 ▸ ha
      have hkn' : (relab scope c.sc).names.lookup n = some .cell := hkn
      have hcn := hclget n a ha'
      obtain ⟨vo, ⟨o, ho, hd⟩, hv⟩ := st.cl n a (relabN_cell hcell hkn').2 hcn
      refine ⟨vo, ⟨o, hown a (st.fr.cells n a hcn).1 o ho, hd⟩, fun w' hw => ?_⟩
      rcases List.mem_append.mp hw with hw | hw
      · have hnx : n ∈ xs := hbn ▸ List.mem_map.mpr ⟨_, hw, rfl⟩
        have := lookup_relabel_local (env := c.env) (hx n hnx).1
        have h' : (relabel scope c.env).names.lookup n = some .cell := hscR ▸ hkn'
        rw [show (relabel scope c.env).names.lookup n = some .local from this] at h'; cases h'
      · obtain ⟨u', e1, e2⟩ := hv w' ((hfr _ hw).2 w' rfl)
        exact ⟨u', e1, e2.mono hle⟩
  have loop : codeAny g.M c.A (.compLoop (.ListComp elt [⟨tgt, iter, t.toList, 0⟩] scope pos) 0 (.ref I) (.ref D) env') (RR (.ref D) C) { s with heap := h₁, toks := tk₂ + ([] : List (Str × Value)).length } := by
   refine comp_loopG (elt := elt) (iter := iter) (tgt := tgt) (pos := pos) (t := t) (scope := scope) (sc' := relab scope c.sc) (R := RR (.ref D) C) (hid' := D :: I :: c.own) (Slot := fun h => ∃ m, h.Ns C m) (tk₁ := tk₂ + ([] : List (Str × Value)).length) bnd okT J W hlv0 hfp hP (List.mem_cons_of_mem _ (List.mem_cons_of_mem _ List.mem_cons_self)) (List.mem_cons_of_mem _ List.mem_cons_self) (List.mem_cons_self (a := C) (l := D :: I :: c.own)) (fun a ha => List.mem_cons_of_mem _ (List.mem_cons_of_mem _ (List.mem_cons_of_mem _ ha))) hDo hCo hIo hID hIC hCD hCs hsz
    (fun ⟨m, hn⟩ hk => ⟨m, hn.at' (hk C List.mem_cons_self hCD (Ne.symm hIC))⟩)
    (fun {σ' s' u z Q E} hi ⟨m, hn⟩ hz hz0 hle hown hq => by
      refine asg.2 (env' := env') (fun n hm => ?_) (by rw [he1, show (relab scope c.sc).kind = .function from hkind]; rfl) he2 hn hz (fun b o e => (fz_eq.mp e).2.2) hz0 fun h₄ tk₄ m' hn₄ hm₄ hk₄ => ?_
      · unfold Env.kindOf
        rw [he1, ← hscR]
        exact lookup_relabel_local (env := c.env) (hx n hm).1
      · obtain ⟨inv₄, le34⟩ := hi.slot (tk := tk₄) List.mem_cons_self hk₄ (let ⟨o, _, _, ho, _⟩ := hn₄; ⟨o, ho⟩)
        exact hq h₄ tk₄ inv₄ ⟨m', hn₄⟩ (mkSt hz0 inv₄ hn₄ (fun n v hv => let ⟨u', q1, q2⟩ := hm₄ n v hv; ⟨u', q1, q2.mono le34⟩) (hle.trans le34) fun a ha o ho => hk₄ a o (by rintro rfl; exact hCo ha) (hown a ha o ho)) le34 hk₄)
    okJ (fun y rest acc σ₁ hJ => turn c' rfl rfl y rest acc σ₁ hJ) hS₁ hacc₁ inv₁ ⟨_, hns₁⟩ hF₁ (fun a _ o e => oldS a o e) hJ ?_
   intro acc σ' h' h₃ tk tk₃ vs n hJj hDj hi ⟨m, hn⟩ hvs hle hown hlen hk₃'
   have le₃ : (fz h' c'.own σ').le (fz h₃ (C :: D :: c.own) σ') := fun b o e => by
     obtain ⟨e1, e2, e3⟩ := fz_eq.mp e
     simp only [c', List.mem_cons, not_or] at e2
     refine fz_eq.mpr ⟨e1, ?_, hk₃' b o e2.2.2.1 e3⟩
     simp only [List.mem_cons, not_or]
     exact ⟨e2.1, e2.2.1, e2.2.2.2⟩
   have sub : ∀ a ∈ C :: D :: c.own, a ∈ c'.own ∧ a ≠ I := fun a ha => by
     rcases List.mem_cons.mp ha with rfl | ha
     · exact ⟨List.mem_cons_self, Ne.symm hIC⟩
     rcases List.mem_cons.mp ha with rfl | ha
     · exact ⟨List.mem_cons_of_mem _ List.mem_cons_self, Ne.symm hID⟩
     · exact ⟨List.mem_cons_of_mem _ (List.mem_cons_of_mem _ (List.mem_cons_of_mem _ ha)), by rintro rfl; exact hIo ha⟩
   have hIin : I ∈ c'.own := List.mem_cons_of_mem _ (List.mem_cons_of_mem _ List.mem_cons_self)
   refine hRR D C acc σ' h₃ tk₃ m vs n (by simpa using hJj) hDo hCo hCD hDs hCs (hk₃' D _ (Ne.symm hID) hDj) (hvs.mono le₃) (hn.at' fun o e => hk₃' _ o (Ne.symm hIC) e) (hle.trans le₃)
     (fun a ha o ho => hk₃' a o (by rintro rfl; exact hIo ha) (hown a ha o ho)) ⟨fun b o e => le₃ b o (hi.keep b o e), fun a z e => (hi.objs a z e).mono le₃ fun o e' => hk₃' a o (by rintro rfl; rw [hi.off _ hIin] at e; cases e) e', fun a ha => hi.off a (sub a ha).1, fun a ha => ?_⟩ hlen
   obtain ⟨o, ho⟩ := hi.live a (sub a ha).1
   exact ⟨o, hk₃' a o (sub a ha).2 ho⟩
  exact codeAny_compStart_list loop (W.self 0 _ _ _ hS₁ loop)

theorem comp_end {s : Shared} {D C : Addr} {l' : List AV} {σ' : Sto} {h' h'' : Heap} {tk : Nat} {vs : List Value} {n : Nat} (hDo : D ∉ c.own) (hCo : C ∉ c.own) (hCD : C ≠ D) (hDg : h'.get? D = some (lstO vs n))
    (hvs : RepL g.w (fz h' (C :: D :: c.own) σ') vs l') (hle : (c.F σ s).le (fz h' (C :: D :: c.own) σ')) (hown : ∀ a ∈ c.own, ∀ o, s.heap.get? a = some o → h'.get? a = some o)
    (hi : Mine.Inv g.w g.H₀ (C :: D :: c.own) σ' { s with heap := h', toks := tk }) (hs : Heap.SameBut C h' h'') :
    c.Inv σ' { s with heap := h'', toks := tk } ∧ c.Ev σ s σ' { s with heap := h'', toks := tk } ∧ RepL g.w (fz h'' c.own σ') vs l' ∧ h''.get? D = some (lstO vs n) ∧ σ' D = Option.none := by
  have le : (fz h' (C :: D :: c.own) σ').le (fz h'' c.own σ') := fun b o e => by
    obtain ⟨e1, e2, e3⟩ := fz_eq.mp e
    simp only [List.mem_cons, not_or] at e2
    exact fz_eq.mpr ⟨e1, e2.2.2, (hs.2 b e2.1).trans e3⟩
  refine ⟨⟨fun b o e => le b o (hi.keep b o e), fun a z e => (hi.objs a z e).mono le fun o e' => (hs.2 a ?_).trans e', fun a ha => hi.off a (List.mem_cons_of_mem _ (List.mem_cons_of_mem _ ha)), fun a ha => ?_⟩, ⟨⟨_, _, rfl⟩, hle.trans le, fun a ha o ho => (hs.2 a ?_).trans (hown a ha o ho)⟩,
    hvs.mono le, (hs.2 D (Ne.symm hCD)).trans hDg, hi.off D (List.mem_cons_of_mem _ List.mem_cons_self)⟩
  · rintro rfl; rw [hi.off _ List.mem_cons_self] at e; cases e
  · obtain ⟨o, ho⟩ := hi.live a (List.mem_cons_of_mem _ (List.mem_cons_of_mem _ ha))
    exact ⟨o, (hs.2 a (by rintro rfl; exact hCo ha)).trans ho⟩
  · rintro rfl; exact hCo ha

theorem ev_compG {elt iter tgt : Expr} {xs : List Str} {pos : Pos} {t : Option Expr} {scope : Scope} {fr : Rho} {Q : AV → Sto → Prop} (bnd : AV → Rho) (okT : AV → Prop) (asg : Binds c tgt xs bnd okT) (J : List AV → List AV → Sto → Prop) (okJ : ∀ y rest acc σ₁, J (y :: rest) acc σ₁ → okT y) (hok : compOkL xs (fr.map (·.1)) scope c.sc = true) (hfr : FrIn fr ρ)
    (h : ev c ρ iter σ fun y σ₁ => ∃ l, Iter c y l ∧ l.length ≤ sizeLine ∧ J l [] σ₁)
    (turn : ∀ c' : Cx g, c'.A = c.A → c'.sc = relab scope c.sc → ∀ y rest acc σ₁, J (y :: rest) acc σ₁ → evT c' (bnd y ++ fr) t σ₁ fun b σ₂ => match b with
      | true => ev c' (bnd y ++ fr) elt σ₂ fun z σ₃ => J rest (acc ++ [z]) σ₃
      | false => J rest acc σ₂)
    (done : ∀ acc σ₁, J [] acc σ₁ → Q (.list acc) σ₁)
    (hs : ∀ x, foldedSetIterable iter c.env x = pure x := by intro _; rfl) : ev c ρ (.ListComp elt [⟨tgt, iter, t.toList, 0⟩] scope pos) σ Q := fun s st => by
  obtain ⟨hkind, hcell, hfree, hnames, hx, hnd, hfrk⟩ := compOk_facts hok
  have hfreeC : ∀ y ∈ scope.names, y.2 = .free → ∃ a, c.env.cells.lookup y.1 = some a := fun y hy hf => by
    obtain ⟨p, hp, e⟩ := List.mem_map.mp (hfree y hy hf)
    have h1 := (hfr p hp).1
    rw [e] at h1
    have hk2 := (relabN_cell hcell (hfrk y.1 (hfree y hy hf))).2
    rcases (st.fr.kinds y.1 h1).2 with q | ⟨_, q⟩
    · rw [hk2] at q; cases q
    · exact q
  show wpAny _ _ (eval _ _) _ _ _
  rw [eval_ListComp]
  refine wpAny_comprehension_free (use := none) rfl hs (closureFor_eq hfreeC) hkind hnames (pg.use (h s st) (fun v s₁ y σ₁ i₁ e₁ r₁ qq => ?_))
  obtain ⟨l, hit, hsz, hJ⟩ := qq
  have st₁ := st.ev i₁ e₁
  refine comp_core (RR := fun acc C => compPost g.M c.A c.E none (fun v s' => ∃ x σ', c.Inv σ' s' ∧ c.Ev σ s σ' s' ∧ Rep g.w (c.F σ' s') v x ∧ Q x σ') acc C) bnd okT asg J okJ hok hfr st₁ r₁ hit hJ hsz turn ?_
  intro D C l' σ' h' tk m vs n hJ' hDo hCo hCD hDs hCs hDg hvs hn hle hown hi hlen
  refine ⟨m, hn, fun h'' hs'' => ?_⟩
  obtain ⟨i₂, e₂, r₂, d₂, o₂⟩ := comp_end (s := s₁) (tk := tk) hDo hCo hCD hDg hvs hle hown hi hs''
  refine ⟨.list l', σ', i₂, e₁.trans e₂, .list (fz_eq.mpr ⟨o₂, hDo, d₂⟩) r₂, done l' σ' hJ'⟩

theorem ev_comp {elt iter : Expr} {x : Str} {px pos : Pos} {t : Option Expr} {scope : Scope} {fr : Rho} {Q : AV → Sto → Prop} (J : List AV → List AV → Sto → Prop) (hok : compOk x (fr.map (·.1)) scope c.sc = true) (hfr : FrIn fr ρ)
    (h : ev c ρ iter σ fun y σ₁ => ∃ l, Iter c y l ∧ l.length ≤ sizeLine ∧ J l [] σ₁)
    (turn : ∀ c' : Cx g, c'.A = c.A → c'.sc = relab scope c.sc → ∀ y rest acc σ₁, J (y :: rest) acc σ₁ → evT c' ((x, some y) :: fr) t σ₁ fun b σ₂ => match b with
      | true => ev c' ((x, some y) :: fr) elt σ₂ fun z σ₃ => J rest (acc ++ [z]) σ₃
      | false => J rest acc σ₂)
    (done : ∀ acc σ₁, J [] acc σ₁ → Q (.list acc) σ₁)
    (hs : ∀ x, foldedSetIterable iter c.env x = pure x := by intro _; rfl) : ev c ρ (.ListComp elt [⟨.Name x px, iter, t.toList, 0⟩] scope pos) σ Q :=
  ev_compG _ _ binds_name J (fun _ _ _ _ _ => trivial) hok hfr h turn done hs

end Mine

end

section
namespace Mine
open PySem
variable {g : Gx} {c : Cx g} {ρ : Rho} {σ : Sto}

section
variable {a b : Int} {Q : AV → Sto → Prop}
theorem op_add (q : Q (.int (a + b)) σ) : op2 c (binaryOp .Add) (.int a) (.int b) σ Q := fun s x y i r1 r2 => by
  (first | obtain rfl := r1.invNil | obtain ⟨_, rfl⟩ := r1.invInt | obtain rfl := r1.invObj | obtain ⟨_, rfl⟩ := r1.invStr | obtain rfl := r1.invBool | obtain rfl := r1.invNone | obtain rfl := r1.invRaw); (first | obtain rfl := r2.invNil | obtain ⟨_, rfl⟩ := r2.invInt | obtain rfl := r2.invObj | obtain ⟨_, rfl⟩ := r2.invStr | obtain rfl := r2.invBool | obtain rfl := r2.invNone | obtain rfl := r2.invRaw); exact PyProof.Rows.add_int ⟨_, σ, i.toks _, .toks .., .int _ _, q⟩
theorem op_sub (q : Q (.int (a - b)) σ) : op2 c (binaryOp .Sub) (.int a) (.int b) σ Q := fun s x y i r1 r2 => by
  (first | obtain rfl := r1.invNil | obtain ⟨_, rfl⟩ := r1.invInt | obtain rfl := r1.invObj | obtain ⟨_, rfl⟩ := r1.invStr | obtain rfl := r1.invBool | obtain rfl := r1.invNone | obtain rfl := r1.invRaw); (first | obtain rfl := r2.invNil | obtain ⟨_, rfl⟩ := r2.invInt | obtain rfl := r2.invObj | obtain ⟨_, rfl⟩ := r2.invStr | obtain rfl := r2.invBool | obtain rfl := r2.invNone | obtain rfl := r2.invRaw); exact PyProof.Rows.sub_int ⟨_, σ, i.toks _, .toks .., .int _ _, q⟩
theorem op_mul (q : Q (.int (a * b)) σ) (h : (-(2 ^ 64) < a ∧ a < 2 ^ 64) ∨ (-(2 ^ 64) < b ∧ b < 2 ^ 64)) : op2 c (binaryOp .Mult) (.int a) (.int b) σ Q := fun s x y i r1 r2 => by
  (first | obtain rfl := r1.invNil | obtain ⟨_, rfl⟩ := r1.invInt | obtain rfl := r1.invObj | obtain ⟨_, rfl⟩ := r1.invStr | obtain rfl := r1.invBool | obtain rfl := r1.invNone | obtain rfl := r1.invRaw); (first | obtain rfl := r2.invNil | obtain ⟨_, rfl⟩ := r2.invInt | obtain rfl := r2.invObj | obtain ⟨_, rfl⟩ := r2.invStr | obtain rfl := r2.invBool | obtain rfl := r2.invNone | obtain rfl := r2.invRaw)
  refine PyProof.Rows.mul_int ⟨_, σ, i.toks _, .toks .., .int _ _, q⟩ ?_
  rcases h with h | h
  · exact IntMulOk.of_left (intBits_le_64 h.1 h.2)
  · exact IntMulOk.of_right (intBits_le_64 h.1 h.2)
theorem op_fdiv (hb : b ≠ 0) (hs : b.natAbs < 1073741824) (q : Q (.int (a.fdiv b)) σ) : op2 c (binaryOp .FloorDiv) (.int a) (.int b) σ Q := fun s x y i r1 r2 => by
  (first | obtain rfl := r1.invNil | obtain ⟨_, rfl⟩ := r1.invInt | obtain rfl := r1.invObj | obtain ⟨_, rfl⟩ := r1.invStr | obtain rfl := r1.invBool | obtain rfl := r1.invNone | obtain rfl := r1.invRaw); (first | obtain rfl := r2.invNil | obtain ⟨_, rfl⟩ := r2.invInt | obtain rfl := r2.invObj | obtain ⟨_, rfl⟩ := r2.invStr | obtain rfl := r2.invBool | obtain rfl := r2.invNone | obtain rfl := r2.invRaw); exact PyProof.Rows.floordiv_int hb ⟨_, σ, i.toks _, .toks .., .int _ _, q⟩ (.inl (PyProof.noPylong_small hs))
theorem op_fmod (hb : b ≠ 0) (q : Q (.int (a.fmod b)) σ) : op2 c (binaryOp .Mod) (.int a) (.int b) σ Q := fun s x y i r1 r2 => by
  (first | obtain rfl := r1.invNil | obtain ⟨_, rfl⟩ := r1.invInt | obtain rfl := r1.invObj | obtain ⟨_, rfl⟩ := r1.invStr | obtain rfl := r1.invBool | obtain rfl := r1.invNone | obtain rfl := r1.invRaw); (first | obtain rfl := r2.invNil | obtain ⟨_, rfl⟩ := r2.invInt | obtain rfl := r2.invObj | obtain ⟨_, rfl⟩ := r2.invStr | obtain rfl := r2.invBool | obtain rfl := r2.invNone | obtain rfl := r2.invRaw); exact PyProof.Rows.mod_int' hb ⟨_, σ, i.toks _, .toks .., .int _ _, q⟩
theorem cmp_lt (q : Q (.bool (decide (a < b))) σ) : op2 c (compareOp .Lt) (.int a) (.int b) σ Q := fun s x y i r1 r2 => by
  (first | obtain rfl := r1.invNil | obtain ⟨_, rfl⟩ := r1.invInt | obtain rfl := r1.invObj | obtain ⟨_, rfl⟩ := r1.invStr | obtain rfl := r1.invBool | obtain rfl := r1.invNone | obtain rfl := r1.invRaw); (first | obtain rfl := r2.invNil | obtain ⟨_, rfl⟩ := r2.invInt | obtain rfl := r2.invObj | obtain ⟨_, rfl⟩ := r2.invStr | obtain rfl := r2.invBool | obtain rfl := r2.invNone | obtain rfl := r2.invRaw); exact PyProof.Rows.lt_int ⟨_, σ, i, .refl .., .bool _, q⟩
theorem cmp_gt (q : Q (.bool (decide (b < a))) σ) : op2 c (compareOp .Gt) (.int a) (.int b) σ Q := fun s x y i r1 r2 => by
  (first | obtain rfl := r1.invNil | obtain ⟨_, rfl⟩ := r1.invInt | obtain rfl := r1.invObj | obtain ⟨_, rfl⟩ := r1.invStr | obtain rfl := r1.invBool | obtain rfl := r1.invNone | obtain rfl := r1.invRaw); (first | obtain rfl := r2.invNil | obtain ⟨_, rfl⟩ := r2.invInt | obtain rfl := r2.invObj | obtain ⟨_, rfl⟩ := r2.invStr | obtain rfl := r2.invBool | obtain rfl := r2.invNone | obtain rfl := r2.invRaw); exact PyProof.Rows.gt_int ⟨_, σ, i, .refl .., .bool _, q⟩
theorem cmp_eq (q : Q (.bool (a == b)) σ) : op2 c (compareOp .Eq) (.int a) (.int b) σ Q := fun s x y i r1 r2 => by
  (first | obtain rfl := r1.invNil | obtain ⟨_, rfl⟩ := r1.invInt | obtain rfl := r1.invObj | obtain ⟨_, rfl⟩ := r1.invStr | obtain rfl := r1.invBool | obtain rfl := r1.invNone | obtain rfl := r1.invRaw); (first | obtain rfl := r2.invNil | obtain ⟨_, rfl⟩ := r2.invInt | obtain rfl := r2.invObj | obtain ⟨_, rfl⟩ := r2.invStr | obtain rfl := r2.invBool | obtain rfl := r2.invNone | obtain rfl := r2.invRaw); exact PyProof.Rows.eq_int ⟨_, σ, i, .refl .., .bool _, q⟩
end

section
variable {Q : AV → Sto → Prop}
noncomputable def isNoneA : AV → Bool
  | .none => true
  | .raw v => v == .none
  | _ => false
theorem rep_none {w : World} {F : Fz} {v : Value} {x : AV} (r : Rep w F v x) : (v == Value.none) = isNoneA x := by cases r <;> rfl
theorem cmp_is {x : AV} (q : Q (.bool (isNoneA x)) σ) : op2 c (compareOp .Is) x .none σ Q := fun s u v i r1 r2 => by
  (first | obtain rfl := r2.invNil | obtain ⟨_, rfl⟩ := r2.invInt | obtain rfl := r2.invObj | obtain ⟨_, rfl⟩ := r2.invStr | obtain rfl := r2.invBool | obtain rfl := r2.invNone | obtain rfl := r2.invRaw); exact is_none (by rw [rep_none r1]; exact ⟨_, σ, i, .refl .., .bool _, q⟩)
theorem cmp_isNot {x : AV} (q : Q (.bool (!isNoneA x)) σ) : op2 c (compareOp .IsNot) x .none σ Q := fun s u v i r1 r2 => by
  (first | obtain rfl := r2.invNil | obtain ⟨_, rfl⟩ := r2.invInt | obtain rfl := r2.invObj | obtain ⟨_, rfl⟩ := r2.invStr | obtain rfl := r2.invBool | obtain rfl := r2.invNone | obtain rfl := r2.invRaw); exact isNot_none (by rw [rep_none r1]; exact ⟨_, σ, i, .refl .., .bool _, q⟩)
theorem cmp_eqs {x y : Str} (q : Q (.bool (x == y)) σ) : op2 c (compareOp .Eq) (.str x) (.str y) σ Q := fun s u v i r1 r2 => by
  (first | obtain rfl := r1.invNil | obtain ⟨_, rfl⟩ := r1.invInt | obtain rfl := r1.invObj | obtain ⟨_, rfl⟩ := r1.invStr | obtain rfl := r1.invBool | obtain rfl := r1.invNone | obtain rfl := r1.invRaw); (first | obtain rfl := r2.invNil | obtain ⟨_, rfl⟩ := r2.invInt | obtain rfl := r2.invObj | obtain ⟨_, rfl⟩ := r2.invStr | obtain rfl := r2.invBool | obtain rfl := r2.invNone | obtain rfl := r2.invRaw); exact PyProof.Rows.eq_str ⟨_, σ, i, .refl .., .bool _, q⟩
theorem op_adds {x y : Str} (hz : x.length + y.length ≤ sizeLine) (q : Q (.str (x ++ y)) σ) : op2 c (binaryOp .Add) (.str x) (.str y) σ Q := fun s u v i r1 r2 => by
  (first | obtain rfl := r1.invNil | obtain ⟨_, rfl⟩ := r1.invInt | obtain rfl := r1.invObj | obtain ⟨_, rfl⟩ := r1.invStr | obtain rfl := r1.invBool | obtain rfl := r1.invNone | obtain rfl := r1.invRaw); (first | obtain rfl := r2.invNil | obtain ⟨_, rfl⟩ := r2.invInt | obtain rfl := r2.invObj | obtain ⟨_, rfl⟩ := r2.invStr | obtain rfl := r2.invBool | obtain rfl := r2.invNone | obtain rfl := r2.invRaw); exact PyProof.Rows.add_str (fun t' tk => ⟨_, σ, i.toks _, .toks .., .str _ _, q⟩) hz
end

noncomputable def Seq (σ : Sto) (x : AV) (l : List AV) : Prop := x = .list l ∨ ∃ a, x = .obj a ∧ σ a = some (.lst l)
theorem Seq.list {l : List AV} : Seq σ (.list l) l := .inl rfl
theorem Seq.obj {a : Addr} {l : List AV} (h : σ a = some (.lst l)) : Seq σ (.obj a) l := .inr ⟨a, rfl, h⟩
theorem Seq.heap {x : AV} {l : List AV} {s : Shared} {v : Value} (h : Seq σ x l) (i : c.Inv σ s) (r : Rep g.w (c.F σ s) v x) : ∃ a vs n, v = .ref a ∧ s.heap.get? a = some (lstO vs n) ∧ RepL g.w (c.F σ s) vs l := by
  rcases h with rfl | ⟨a, rfl, ha⟩
  · obtain ⟨_, _, _, rfl, hF, hr⟩ := r.invList
    exact ⟨_, _, _, rfl, (fz_eq.mp hF).2.2, hr⟩
  · (first | obtain rfl := r.invNil | obtain ⟨_, rfl⟩ := r.invInt | obtain rfl := r.invObj | obtain ⟨_, rfl⟩ := r.invStr | obtain rfl := r.invBool | obtain rfl := r.invNone | obtain rfl := r.invRaw)
    obtain ⟨vs, n, h1, h2⟩ := i.objs a _ ha
    exact ⟨a, vs, n, rfl, h1, h2⟩

noncomputable def Made (Q : AV → Sto → Prop) (l : List AV) (σ : Sto) : Prop := Q (.list l) σ ∨ ∀ a, σ a = Option.none → Q (.obj a) (σ.set a (.lst l))
theorem Sto.set_self {σ : Sto} {a : Addr} {x : AObj} : σ.set a x a = some x := if_pos rfl
theorem Sto.set_ne {σ : Sto} {a b : Addr} {x : AObj} (h : b ≠ a) : σ.set a x b = σ b := if_neg h
theorem store_new {s : Shared} {h' : Heap} {tk : Nat} {D : Addr} {x : AObj} (i : c.Inv σ s) (hk : ∀ b o, s.heap.get? b = some o → h'.get? b = some o) (hD : s.heap.objs.size ≤ D) (hr : ∀ F : Fz, (c.F σ s).le F → ObjRep g.w F h' D x) :
    c.Inv (σ.set D x) { s with heap := h', toks := tk } ∧ c.Ev σ s (σ.set D x) { s with heap := h', toks := tk } := by
  have hn := i.fresh hD
  have le : (c.F σ s).le (fz h' c.own (σ.set D x)) := fun b o e => by
    obtain ⟨e1, e2, e3⟩ := fz_eq.mp e
    have hb : b ≠ D := by rintro rfl; exact absurd (Heap.lt_size e3) (Nat.not_lt.mpr hD)
    exact fz_eq.mpr ⟨(Sto.set_ne hb).trans e1, e2, hk b o e3⟩
  refine ⟨⟨fun b o e => le b o (i.keep b o e), fun a y e => ?_, fun a ha => ?_, fun a ha => (i.live a ha).imp fun o ho => hk a o ho⟩, ⟨⟨_, _, rfl⟩, le, fun a _ o e => hk a o e⟩⟩
  · by_cases hb : a = D
    · subst hb
      rw [Sto.set_self] at e
      injection e with e
      subst e
      exact hr _ le
    · rw [Sto.set_ne hb] at e
      exact (i.objs a y e).mono le fun o e => hk a o e
  · rw [Sto.set_ne (by rintro rfl; exact hn.2 ha)]; exact i.off a ha

theorem made_list {s : Shared} {h' : Heap} {tk : Nat} {D : Addr} {vs : List Value} {n : Nat} {l : List AV} {Q : AV → Sto → Prop} (i : c.Inv σ s) (hk : ∀ b o, s.heap.get? b = some o → h'.get? b = some o) (hD : s.heap.objs.size ≤ D) (hg : h'.get? D = some (lstO vs n))
    (r : RepL g.w (c.F σ s) vs l) (q : Made Q l σ) : ∃ x σ', c.Inv σ' { s with heap := h', toks := tk } ∧ c.Ev σ s σ' { s with heap := h', toks := tk } ∧ Rep g.w (c.F σ' { s with heap := h', toks := tk }) (.ref D) x ∧ Q x σ' := by
  have hn := i.fresh hD
  rcases q with q | q
  · exact ⟨.list l, σ, i.keeps hk, .keeps hk, .list (fz_eq.mpr ⟨hn.1, hn.2, hg⟩) (r.mono (keep_fz hk)), q⟩
  · obtain ⟨h1, h2⟩ := store_new (tk := tk) (x := .lst l) i hk hD (fun F hF => ⟨vs, n, hg, r.mono hF⟩)
    exact ⟨.obj D, _, h1, h2, .obj D, q D hn.1⟩

theorem ev_list {elts : List Expr} {pos : Pos} {Q : AV → Sto → Prop} (h : evl c ρ elts σ fun xs σ₁ => xs.length ≤ sizeLine ∧ Made Q xs σ₁) (hp : elts.all noStar = true := by rfl) : ev c ρ (.List elts pos) σ Q := fun s hs => by
  refine wpAny_List ?_
  rw [starEach_plain hp]
  refine wpAny_mono (evl_sound h s hs) (fun vs s₁ q_ => ?_) fun _ _ e => e
  obtain ⟨xs, σ₁, i₁, e₁, r₁, hz, q₁⟩ := q_
  refine ⟨r₁.length ▸ hz, ?_⟩
  obtain ⟨x, σ', a, b, d, e⟩ := made_list (tk := s₁.toks) i₁ (push_keeps _ _) (Nat.le_refl _) (Heap.get?_push_size _ rfl) r₁ q₁
  exact ⟨x, σ', a, e₁.trans b, d, e⟩
theorem ev_tuple {elts : List Expr} {k : Nat} {pos : Pos} {Q : AV → Sto → Prop} (h : evl c ρ elts σ fun xs σ₁ => xs.length ≤ sizeLine ∧ Q (.tup xs) σ₁) (hp : elts.all noStar = true := by rfl) : ev c ρ (.Tuple elts k pos) σ Q := fun s hs => by
  refine wpAny_Tuple ?_
  rw [starEach_plain hp]
  refine wpAny_mono (evl_sound h s hs) (fun vs s₁ q_ => ?_) fun _ _ e => e
  obtain ⟨xs, σ₁, i₁, e₁, r₁, hz, q₁⟩ := q_
  refine ⟨r₁.length ▸ hz, ?_⟩
  have hn := i₁.fresh (Nat.le_refl s₁.heap.objs.size)
  exact ⟨.tup xs, σ₁, i₁.keeps (t := s₁.toks) (push_keeps _ _), e₁.trans (.keeps (t := s₁.toks) (push_keeps _ _)), .tup (fz_eq.mpr ⟨hn.1, hn.2, Heap.get?_push_size _ rfl⟩) (r₁.mono (keep_fz (push_keeps _ _))), q₁⟩

noncomputable def subT (c : Cx g) (value slice : Expr) (x y : AV) (σ : Sto) (Q : AV → Sto → Prop) : Prop := ∀ s a b, c.Inv σ s → Rep g.w (c.F σ s) a x → Rep g.w (c.F σ s) b y → pv c σ s (PyProof.Rows.subscriptTail value slice a b) Q
theorem ev_sub {value slice : Expr} {pos : Pos} {Q : AV → Sto → Prop} (h : ev c ρ value σ fun x σ₁ => ev c ρ slice σ₁ fun y σ₂ => subT c value slice x y σ₂ Q) : ev c ρ (.Subscript value slice pos) σ Q := fun s hs => by
  refine PyProof.Rows.Subscript_ (pg.use (h s hs) (fun a s₁ x σ₁ i₁ e₁ r₁ q₁ => ?_))
  refine pg.use (q₁ s₁ (hs.ev i₁ e₁)) (fun b s₂ y σ₂ i₂ e₂ r₂ q₂ => ?_)
  exact pg.use (q₂ s₂ a b i₂ (r₁.mono e₂.grow) r₂) (fun v s₃ z σ₃ i₃ e₃ r₃ q₃ => ⟨z, σ₃, i₃, (e₁.trans e₂).trans e₃, r₃, q₃⟩)

noncomputable def noSlice : Expr → Bool
  | .Slice _ _ _ _ => false
  | _ => true
theorem subscripted_plain {slice : Expr} (h : noSlice slice = true) (o i : Value) : subscripted slice false o i = operate [o, i] (getItem o i) := by
  cases slice <;> first | rfl | exact absurd h Bool.false_ne_true
theorem sub_list {value slice : Expr} {x y : AV} {l : List AV} {k : Int} {Q : AV → Sto → Prop} (hx : Seq σ x l) (h0 : 0 ≤ k) (hk : k < 2 ^ 63) (hy : l[k.toNat]? = some y) (q : Q y σ) (hn : noSlice slice = true := by rfl) : subT c value slice x (.int k) σ Q := fun s a b i r1 r2 => by
  obtain ⟨a', vs, n, rfl, hg, hv⟩ := hx.heap i r1
  (first | obtain rfl := r2.invNil | obtain ⟨_, rfl⟩ := r2.invInt | obtain rfl := r2.invObj | obtain ⟨_, rfl⟩ := r2.invStr | obtain rfl := r2.invBool | obtain rfl := r2.invNone | obtain rfl := r2.invRaw)
  have hl : s.heap.IsList a' vs.toArray := ⟨_, hg, rfl, n, rfl⟩
  obtain ⟨u, h1, h2⟩ := hv.get hy
  exact PyProof.Rows.tail_any hl.typeIs slot_list_getitem.lookup (wpAny_getItem_list hl h0 hk (by simpa using h1) ⟨y, σ, i, .refl .., h2, q⟩) (subscripted_plain hn _ _)
theorem sub_str {value slice : Expr} {x : Str} {k : Int} {d : Nat} {Q : AV → Sto → Prop} (h0 : 0 ≤ k) (hk : k < 2 ^ 63) (hy : x.cps[k.toNat]? = some d) (q : Q (.str ⟨#[d]⟩) σ) (hn : noSlice slice = true := by rfl) : subT c value slice (.str x) (.int k) σ Q := fun s a b i r1 r2 => by
  (first | obtain rfl := r1.invNil | obtain ⟨_, rfl⟩ := r1.invInt | obtain rfl := r1.invObj | obtain ⟨_, rfl⟩ := r1.invStr | obtain rfl := r1.invBool | obtain rfl := r1.invNone | obtain rfl := r1.invRaw); (first | obtain rfl := r2.invNil | obtain ⟨_, rfl⟩ := r2.invInt | obtain rfl := r2.invObj | obtain ⟨_, rfl⟩ := r2.invStr | obtain rfl := r2.invBool | obtain rfl := r2.invNone | obtain rfl := r2.invRaw)
  have hlt : k.toNat < x.length := by
    rcases Nat.lt_or_ge k.toNat x.cps.size with h | h
    · exact h
    · rw [Array.getElem?_eq_none h] at hy; cases hy
  refine PyProof.Rows.tail_any (typeIs_str s x _) PyProof.Rows.slot_str_getitem.lookup (PyProof.Rows.getItem_str ?_ ?_ ⟨_, σ, i.toks _, .toks .., .str _ _, q⟩) (subscripted_plain hn _ _)
  · rw [Bool.or_eq_false_iff]; constructor <;> (rw [decide_eq_false_iff_not]; omega)
  · have e : seqIndex? k x.length = some k.toNat := by
      unfold seqIndex?
      simp only [show ¬ k < 0 by omega, if_false]
      first | (rw [if_pos (by omega)]) | simp; omega
    rw [e]; exact hy

end Mine

end

section
namespace Mine
open PySem
variable {g : Gx} {c : Cx g} {ρ : Rho} {σ : Sto}

section
variable {Q : AV → Sto → Prop}
theorem cal_len_list {x : AV} {l : List AV} (hx : Seq σ x l) (hz : l.length < 2 ^ 62) (q : Q (.int l.length) σ) : cal c (.builtin "len") [x] σ Q := fun s vs i r => by
  obtain ⟨_, rfl, r1⟩ := r.one
  obtain ⟨a, us, n, rfl, hg, hv⟩ := hx.heap i r1
  have hl : s.heap.IsList a us.toArray := ⟨_, hg, rfl, n, rfl⟩
  have e : us.toArray.size = l.length := by rw [List.size_toArray]; exact hv.length
  exact Calls.call_len_list hl (by omega) ⟨.int l.length, σ, i.toks _, .toks .., by rw [e]; exact .int _ _, q⟩
theorem cal_len_tup {l : List AV} (hz : l.length < 2 ^ 62) (q : Q (.int l.length) σ) : cal c (.builtin "len") [.tup l] σ Q := fun s vs i r => by
  obtain ⟨_, rfl, r1⟩ := r.one
  obtain ⟨a, us, n, rfl, hF, hv⟩ := r1.invTup
  have hl : PyProof.Rows.IsTup s.heap a us.toArray := ⟨_, (fz_eq.mp hF).2.2, rfl, n, rfl⟩
  have e : us.toArray.size = l.length := by rw [List.size_toArray]; exact hv.length
  exact PyProof.Rows.len_tuple hl (by omega) ⟨.int l.length, σ, i.toks _, .toks .., by rw [e]; exact .int _ _, q⟩
theorem cal_len_str {x : Str} (hz : x.length < 2 ^ 62) (q : Q (.int x.length) σ) : cal c (.builtin "len") [.str x] σ Q := fun s vs i r => by
  obtain ⟨_, rfl, r1⟩ := r.one; (first | obtain rfl := r1.invNil | obtain ⟨_, rfl⟩ := r1.invInt | obtain rfl := r1.invObj | obtain ⟨_, rfl⟩ := r1.invStr | obtain rfl := r1.invBool | obtain rfl := r1.invNone | obtain rfl := r1.invRaw)
  exact PyProof.Rows.len_str (by omega) ⟨_, σ, i.toks _, .toks .., .int _ _, q⟩
theorem cal_range1 {n : Int} (q : Q (.rng 0 n) σ) : cal c (.type "range") [.int n] σ Q := fun s vs i r => by
  obtain ⟨_, rfl, r1⟩ := r.one; (first | obtain rfl := r1.invNil | obtain ⟨_, rfl⟩ := r1.invInt | obtain rfl := r1.invObj | obtain ⟨_, rfl⟩ := r1.invStr | obtain rfl := r1.invBool | obtain rfl := r1.invNone | obtain rfl := r1.invRaw)
  have hn := i.fresh (Nat.le_refl s.heap.objs.size)
  exact call_range_1 ⟨_, σ, i.keeps (t := s.toks + 1 + 1) (push_keeps _ _), .keeps (t := s.toks + 1 + 1) (push_keeps _ _), .rng (fz_eq.mpr ⟨hn.1, hn.2, Heap.get?_push_size _ rfl⟩), q⟩
theorem cal_range2 {a b : Int} (q : Q (.rng a b) σ) : cal c (.type "range") [.int a, .int b] σ Q := fun s vs i r => by
  obtain ⟨_, _, rfl, r1, r2⟩ := r.two; (first | obtain rfl := r1.invNil | obtain ⟨_, rfl⟩ := r1.invInt | obtain rfl := r1.invObj | obtain ⟨_, rfl⟩ := r1.invStr | obtain rfl := r1.invBool | obtain rfl := r1.invNone | obtain rfl := r1.invRaw); (first | obtain rfl := r2.invNil | obtain ⟨_, rfl⟩ := r2.invInt | obtain rfl := r2.invObj | obtain ⟨_, rfl⟩ := r2.invStr | obtain rfl := r2.invBool | obtain rfl := r2.invNone | obtain rfl := r2.invRaw)
  have hn := i.fresh (Nat.le_refl s.heap.objs.size)
  exact call_range_2 ⟨_, σ, i.keeps (t := s.toks + 1) (push_keeps _ _), .keeps (t := s.toks + 1) (push_keeps _ _), .rng (fz_eq.mpr ⟨hn.1, hn.2, Heap.get?_push_size _ rfl⟩), q⟩
theorem cal_list {x : AV} {l : List AV} (hx : Seq σ x l) (hz : l.length ≤ sizeLine) (q : Made Q l σ) : cal c (.type "list") [x] σ Q := fun s vs i r => by
  obtain ⟨_, rfl, r1⟩ := r.one
  obtain ⟨a, us, n, rfl, hg, hv⟩ := hx.heap i r1
  refine call_list_seq a (T := "list") (.inl rfl) hg rfl rfl (fun h' c' hk hn => ?_) (by rw [List.size_toArray, hv.length]; exact hz)
  exact made_list (tk := s.toks) i hk (Nat.le_refl _) hn hv q
theorem cal_isStr {x : Str} (q : Q (.bool true) σ) : cal c (.builtin "isinstance") [.str x, .raw (.type "str")] σ Q := fun s vs i r => by
  obtain ⟨_, _, rfl, r1, r2⟩ := r.two; (first | obtain rfl := r1.invNil | obtain ⟨_, rfl⟩ := r1.invInt | obtain rfl := r1.invObj | obtain ⟨_, rfl⟩ := r1.invStr | obtain rfl := r1.invBool | obtain rfl := r1.invNone | obtain rfl := r1.invRaw); (first | obtain rfl := r2.invNil | obtain ⟨_, rfl⟩ := r2.invInt | obtain rfl := r2.invObj | obtain ⟨_, rfl⟩ := r2.invStr | obtain rfl := r2.invBool | obtain rfl := r2.invNone | obtain rfl := r2.invRaw)
  exact PyProof.Rows.call_isinstance_yes (Tx := "str") (typeIs_str s x _) (by kernel_rfl) (by rw [isSubtype_type]; kernel_rfl) ⟨_, σ, i, .refl .., .bool _, q⟩
end

mutual
noncomputable def plain : AV → Bool
  | .none => true
  | .bool _ => true
  | .int _ => true
  | .str _ => true
  | .tup l => plainL l
  | _ => false
noncomputable def plainL : List AV → Bool
  | [] => true
  | x :: r => plain x && plainL r
end
mutual
noncomputable def eqA : AV → AV → Bool
  | .none, .none => true
  | .bool a, .bool b => a == b
  | .int a, .int b => a == b
  | .str a, .str b => a == b
  | .bool a, .int b => (if a then 1 else 0) == b
  | .int a, .bool b => a == (if b then 1 else 0)
  | .tup a, .tup b => eqL a b
  | _, _ => false
noncomputable def eqL : List AV → List AV → Bool
  | [], [] => true
  | x :: r, y :: t => eqA x y && eqL r t
  | _, _ => false
end
mutual
noncomputable def deep : AV → Nat
  | .tup l => deepL l + 1
  | _ => 0
noncomputable def deepL : List AV → Nat
  | [] => 0
  | x :: r => max (deep x) (deepL r)
end
mutual
theorem eqA_refl : ∀ {x : AV}, plain x = true → eqA x x = true
  | .none, _ => rfl
  | .bool b, _ => (beq_self_eq_true b : (b == b) = true)
  | .int b, _ => (beq_self_eq_true b : (b == b) = true)
  | .str b, _ => (beq_self_eq_true b : (b == b) = true)
  | .tup l, h => (eqL_refl h : eqL l l = true)
  | .list _, h => by cases h
  | .dict _, h => by cases h
  | .rng _ _, h => by cases h
  | .obj _, h => by cases h
  | .raw _, h => by cases h
theorem eqL_refl : ∀ {l : List AV}, plainL l = true → eqL l l = true
  | [], _ => rfl
  | x :: r, h => by
    unfold plainL at h
    rw [Bool.and_eq_true] at h
    show (eqA x x && eqL r r) = true
    rw [eqA_refl h.1, eqL_refl h.2]; rfl
end
theorem Rep.inj {w : World} {F : Fz} {v : Value} {x y : AV} (r : Rep w F v x) (p : plain x = true) (r' : Rep w F v y) (p' : plain y = true) : x = y := by
  refine Rep.rec (motive_1 := fun v x _ => plain x = true → ∀ y, Rep w F v y → plain y = true → x = y) (motive_2 := fun vs l _ => plainL l = true → ∀ l', RepL w F vs l' → plainL l' = true → l = l') (motive_3 := fun _ _ _ => True)
    ?_ ?_ ?_ ?_ ?_ (fun _ _ _ p => by cases p) (fun _ _ _ _ p => by cases p) (fun _ p => by cases p) (fun _ p => by cases p) (fun _ p => by cases p) ?_ ?_ trivial (fun _ _ _ _ _ _ _ => trivial) r p y r' p'
  · intro _ y r p; cases r <;> first | rfl | cases p
  · intro _ _ y r p; cases r <;> first | rfl | cases p
  · intro _ _ _ y r p; cases r <;> first | rfl | cases p
  · intro _ _ _ y r p; cases r <;> first | rfl | cases p
  · intro a vs n l h hl ih p y r p'
    cases r with
    | @tup _ us k l' h' hl' =>
      rw [h] at h'
      injection h' with h'
      have := congrArg Obj.data h'
      injection this with this
      have hvu : vs = us := by simpa using this
      subst hvu
      rw [ih p l' hl' p']
    | _ => cases p'
  · intro _ l' r _; cases r; rfl
  · intro v vs x l h r ih1 ih2 p l' r' p'
    cases r' with
    | cons h' t' =>
      replace p : (plain x && plainL l) = true := p
      replace p' : (plain _ && plainL _) = true := p'
      rw [Bool.and_eq_true] at p p'
      rw [ih1 p.1 _ h' p'.1, ih2 p.2 _ t' p'.2]
theorem RepL.inj {w : World} {F : Fz} {vs : List Value} {l l' : List AV} (r : RepL w F vs l) (p : plainL l = true) (r' : RepL w F vs l') (p' : plainL l' = true) : l = l' := by
  induction vs generalizing l l' with
  | nil => cases r; cases r'; rfl
  | cons v vs ih =>
    cases r with
    | cons h t =>
      cases r' with
      | cons h' t' =>
        replace p : (plain _ && plainL _) = true := p
        replace p' : (plain _ && plainL _) = true := p'
        rw [Bool.and_eq_true] at p p'
        rw [h.inj p.1 h' p'.1, ih t p.2 t' p'.2]
theorem deepL_get {l : List AV} {x : AV} {i : Nat} (h : l[i]? = some x) : deep x ≤ deepL l := by
  induction l generalizing i with
  | nil => simp at h
  | cons y r ih =>
    unfold deepL
    cases i with
    | zero => simp at h; subst h; omega
    | succ i => have := ih (by simpa using h); omega
theorem plainL_get {l : List AV} {x : AV} {i : Nat} (hp : plainL l = true) (h : l[i]? = some x) : plain x = true := by
  induction l generalizing i with
  | nil => simp at h
  | cons y r ih =>
    unfold plainL at hp
    rw [Bool.and_eq_true] at hp
    cases i with
    | zero => simp at h; subst h; exact hp.1
    | succ i => exact ih hp.2 (by simpa using h)
theorem eqL_all : ∀ (a b : List AV), eqL a b = ((List.range (min a.length b.length)).all (fun j => eqA (a.getD j .none) (b.getD j .none)) && a.length == b.length)
  | [], [] => rfl
  | [], y :: t => by show false = _; simp
  | x :: r, [] => by show false = _; simp
  | x :: r, y :: t => by
    show (eqA x y && eqL r t) = _
    rw [eqL_all r t]
    have e : min (x :: r).length (y :: t).length = min r.length t.length + 1 := by simp only [List.length_cons]; omega
    rw [e, List.range_succ_eq_map, List.all_cons, List.all_map]
    have e2 : ((x :: r).length == (y :: t).length) = (r.length == t.length) := by simp
    rw [e2, Bool.and_assoc]
    rfl

theorem Rep.invP {w : World} {F : Fz} {v : Value} {x : AV} (r : Rep w F v x) (p : plain x = true) : (v = .none ∧ x = .none) ∨ (∃ b, v = .bool b ∧ x = .bool b) ∨ (∃ i t, v = .int i t ∧ x = .int i) ∨ (∃ y t, v = .str y t ∧ x = .str y) ∨ ∃ a vs m l, v = .ref a ∧ x = .tup l ∧ F a = some (tupO vs m) ∧ RepL w F vs l := by
  cases x with
  | none => exact .inl ⟨r.invNone, rfl⟩
  | bool b => exact .inr (.inl ⟨b, r.invBool, rfl⟩)
  | int i => obtain ⟨t, rfl⟩ := r.invInt; exact .inr (.inr (.inl ⟨i, t, rfl, rfl⟩))
  | str y => obtain ⟨t, rfl⟩ := r.invStr; exact .inr (.inr (.inr (.inl ⟨y, t, rfl, rfl⟩)))
  | tup l => obtain ⟨a, vs, m, rfl, h, hl⟩ := r.invTup; exact .inr (.inr (.inr (.inr ⟨a, vs, m, l, rfl, rfl, h, hl⟩)))
  | _ => cases p
open PySem.SeqAt in
theorem eqAt {w : World} {F : Fz} : ∀ (n : Nat) {A : Around} {s : Shared} {v u : Value} {x y : AV}, deep x ≤ n → Rep w F v x → Rep w F u y → plain x = true → plain y = true → (∀ a o, F a = some o → s.heap.get? a = some o) → A.units + n < cLine → EqAt A s v u (eqA x y) := by
  intro n
  induction n with
  | zero =>
    intro A s v u x y hd r1 r2 p1 p2 hF hu
    rcases r1.invP p1 with ⟨rfl, rfl⟩ | ⟨a, rfl, rfl⟩ | ⟨a, t, rfl, rfl⟩ | ⟨a, t, rfl, rfl⟩ | ⟨a, vs, m, l, rfl, rfl, h, hl⟩
    · rcases r2.invP p2 with ⟨rfl, rfl⟩ | ⟨b, rfl, rfl⟩ | ⟨i, t', rfl, rfl⟩ | ⟨x, t', rfl, rfl⟩ | ⟨_, vs, m, l, rfl, rfl, h, hl⟩
      · exact EqAt.same _
      · exact EqAt.none_bool b
      · exact EqAt.none_int i t'
      · exact EqAt.none_str x t'
      · exact EqAt.none_tuple (items := vs.toArray) ⟨_, hF _ _ h, rfl, m, rfl⟩ hu
    · rcases r2.invP p2 with ⟨rfl, rfl⟩ | ⟨b, rfl, rfl⟩ | ⟨i, t', rfl, rfl⟩ | ⟨x, t', rfl, rfl⟩ | ⟨_, vs, m, l, rfl, rfl, h, hl⟩
      · exact EqAt.bool_none a
      · exact EqAt.bool_bool a b
      · exact EqAt.bool_int a i t'
      · exact EqAt.bool_str a x t'
      · exact EqAt.bool_tuple (items := vs.toArray) a ⟨_, hF _ _ h, rfl, m, rfl⟩ hu
    · rcases r2.invP p2 with ⟨rfl, rfl⟩ | ⟨b, rfl, rfl⟩ | ⟨i, t', rfl, rfl⟩ | ⟨x, t', rfl, rfl⟩ | ⟨_, vs, m, l, rfl, rfl, h, hl⟩
      · exact EqAt.int_none a t
      · exact EqAt.int_bool a t b
      · exact EqAt.int_int a t i t'
      · exact EqAt.int_str a t x t'
      · exact EqAt.int_tuple (items := vs.toArray) a t ⟨_, hF _ _ h, rfl, m, rfl⟩ hu
    · rcases r2.invP p2 with ⟨rfl, rfl⟩ | ⟨b, rfl, rfl⟩ | ⟨i, t', rfl, rfl⟩ | ⟨x, t', rfl, rfl⟩ | ⟨_, vs, m, l, rfl, rfl, h, hl⟩
      · exact EqAt.str_none a t
      · exact EqAt.str_bool a t b
      · exact EqAt.str_int a t i t'
      · exact EqAt.str_str a t x t'
      · exact EqAt.str_tuple (items := vs.toArray) a t ⟨_, hF _ _ h, rfl, m, rfl⟩ hu
    · unfold deep at hd; exact absurd hd (Nat.not_succ_le_zero _)
  | succ n ih =>
    intro A s v u x y hd r1 r2 p1 p2 hF hu
    by_cases hx : deep x ≤ n
    · exact ih hx r1 r2 p1 p2 hF (by omega)
    rcases r1.invP p1 with ⟨rfl, rfl⟩ | ⟨_, rfl, rfl⟩ | ⟨_, _, rfl, rfl⟩ | ⟨_, _, rfl, rfl⟩ | ⟨a, vs, m, l, rfl, rfl, h, hl⟩
    · exact absurd (Nat.zero_le _) hx
    · exact absurd (Nat.zero_le _) hx
    · exact absurd (Nat.zero_le _) hx
    · exact absurd (Nat.zero_le _) hx
    · have ht : s.heap.IsTuple a vs.toArray := ⟨_, hF _ _ h, rfl, m, rfl⟩
      have hu' : A.units < cLine := by omega
      rcases r2.invP p2 with ⟨rfl, rfl⟩ | ⟨b, rfl, rfl⟩ | ⟨i, t', rfl, rfl⟩ | ⟨x, t', rfl, rfl⟩ | ⟨b, us, k, l', rfl, rfl, h', hl'⟩
      · exact EqAt.tuple_none ht hu'
      · exact EqAt.tuple_bool b ht hu'
      · exact EqAt.tuple_int i t' ht hu'
      · exact EqAt.tuple_str x t' ht hu'
      · have ht' : s.heap.IsTuple b us.toArray := ⟨_, hF _ _ h', rfl, k, rfl⟩
        have p1' : plainL l = true := p1
        have p2' : plainL l' = true := p2
        have hdl : deepL l ≤ n := by unfold deep at hd; omega
        have items : ∀ j (h1 : j < vs.toArray.size) (h2 : j < us.toArray.size), EqAt A.in1 s vs.toArray[j] us.toArray[j] (eqA (l.getD j .none) (l'.getD j .none)) := by
          intro j h1 h2
          rw [List.size_toArray] at h1 h2
          obtain ⟨x1, e1, q1⟩ := hl.get' (i := j) (v := vs[j]) (List.getElem?_eq_getElem h1)
          obtain ⟨x2, e2, q2⟩ := hl'.get' (i := j) (v := us[j]) (List.getElem?_eq_getElem h2)
          have g1 : l.getD j .none = x1 := by rw [List.getD_eq_getElem?_getD, e1]; rfl
          have g2 : l'.getD j .none = x2 := by rw [List.getD_eq_getElem?_getD, e2]; rfl
          rw [g1, g2]
          have := ih (A := A.in1) (s := s) (Nat.le_trans (deepL_get e1) hdl) q1 q2 (plainL_get p1' e1) (plainL_get p2' e2) hF (by show A.units + 1 + n < cLine; omega)
          simpa using this
        have e : eqA (.tup l) (.tup l') = ((List.range (min vs.toArray.size us.toArray.size)).all (fun j => eqA (l.getD j .none) (l'.getD j .none)) && vs.toArray.size == us.toArray.size) := by
          show eqL l l' = _
          rw [eqL_all]
          simp only [List.size_toArray, hl.length, hl'.length]
        rw [e]
        by_cases hab : a = b
        · subst hab
          rw [h] at h'
          injection h' with h'
          have hvu : vs = us := by
            have := congrArg Obj.data h'
            injection this with this
            simpa using this
          subst hvu
          rw [← e]
          have : eqA (.tup l) (.tup l') = true := by rw [RepL.inj hl p1' hl' p2']; exact eqA_refl (x := .tup l') p2'
          rw [this]
          exact EqAt.same _
        · exact EqAt.of_refs hab (RcAt.tuples ht ht' hu' items)

end Mine

end

section
namespace Mine
open PySem
variable {g : Gx} {c : Cx g} {ρ : Rho} {σ : Sto}

inductive Kind (σ : Sto) : AV → String → Prop
  | list {l : List AV} : Kind σ (.list l) "list"
  | objL {a : Addr} {l : List AV} : σ a = some (.lst l) → Kind σ (.obj a) "list"
  | tup {l : List AV} : Kind σ (.tup l) "tuple"
  | dict {l : List (AV × AV)} : Kind σ (.dict l) "dict"
  | objD {a : Addr} {l : List (AV × AV)} : σ a = some (.dct l) → Kind σ (.obj a) "dict"
  | str {x : Str} : Kind σ (.str x) "str"
theorem Kind.at {x : AV} {T : String} {s : Shared} {v : Value} (h : Kind σ x T) (i : c.Inv σ s) (r : Rep g.w (c.F σ s) v x) : s.TypeIs v T ∧ ∀ a, v = .ref a → ∃ ob, s.heap.get? a = some ob ∧ ob.dict = Option.none := by
  cases h with
  | list =>
    obtain ⟨_, _, _, rfl, h, _⟩ := r.invList
    have e := (fz_eq.mp h).2.2; exact ⟨⟨_, e, rfl⟩, fun b hb => by injection hb with hb; subst hb; exact ⟨_, e, rfl⟩⟩
  | objL ha =>
    (first | obtain rfl := r.invNil | obtain ⟨_, rfl⟩ := r.invInt | obtain rfl := r.invObj | obtain ⟨_, rfl⟩ := r.invStr | obtain rfl := r.invBool | obtain rfl := r.invNone | obtain rfl := r.invRaw)
    obtain ⟨vs, n, e, _⟩ := i.objs _ _ ha
    exact ⟨⟨_, e, rfl⟩, fun b hb => by injection hb with hb; subst hb; exact ⟨_, e, rfl⟩⟩
  | tup =>
    obtain ⟨_, _, _, rfl, h, _⟩ := r.invTup
    have e := (fz_eq.mp h).2.2; exact ⟨⟨_, e, rfl⟩, fun b hb => by injection hb with hb; subst hb; exact ⟨_, e, rfl⟩⟩
  | dict =>
    obtain ⟨_, _, _, rfl, h, _, _⟩ := r.invDict
    have e := (fz_eq.mp h).2.2; exact ⟨⟨_, e, rfl⟩, fun b hb => by injection hb with hb; subst hb; exact ⟨_, e, rfl⟩⟩
  | objD ha =>
    (first | obtain rfl := r.invNil | obtain ⟨_, rfl⟩ := r.invInt | obtain rfl := r.invObj | obtain ⟨_, rfl⟩ := r.invStr | obtain rfl := r.invBool | obtain rfl := r.invNone | obtain rfl := r.invRaw)
    obtain ⟨vs, n, e, _⟩ := i.objs _ _ ha
    exact ⟨⟨_, e, rfl⟩, fun b hb => by injection hb with hb; subst hb; exact ⟨_, e, rfl⟩⟩
  | str => (first | obtain rfl := r.invNil | obtain ⟨_, rfl⟩ := r.invInt | obtain rfl := r.invObj | obtain ⟨_, rfl⟩ := r.invStr | obtain rfl := r.invBool | obtain rfl := r.invNone | obtain rfl := r.invRaw); exact ⟨typeIs_str s _ _, fun a h => by cases h⟩

theorem ev_meth {o e : Expr} {rest : List Expr} {name : Str} {apos pos : Pos} {T id : String} {Q : AV → Sto → Prop} (pa : PlainAttrs T) (slot : Slot T name id) (hty : typeOf (.builtin id) = pure (.type "method_descriptor"))
    (h : ev c ρ o σ fun x σ₁ => Kind σ₁ x T ∧ evl c ρ (e :: rest) σ₁ fun xs σ₂ => cal c (.builtin id) (x :: xs) σ₂ Q)
    (hbase : attributeBase o name c.env (eval o c.env) = eval o c.env := by rfl) (hline : (apos.endLine == pos.line) = true := by rfl) (hp : (e :: rest).all noStar = true := by rfl) (hfew : decide ((e :: rest).length < 30) = true := by rfl) :
    ev c ρ (.Call (.Attribute o name apos) (e :: rest) [] pos) σ Q := fun s hs => by
  refine wpAny_Call_method hbase ?_ hline pa slot hty (pg.use (h s hs) (fun ov s₁ x σ₁ i₁ e₁ r₁ qq => ⟨(qq.1.at i₁ r₁).1, (qq.1.at i₁ r₁).2, ?_⟩))
  · rw [starEach_plain hp]
    simp only [Bool.and_eq_true]
    refine ⟨⟨?_, rfl⟩, ?_⟩
    · rw [List.all_map]; simp
    · simpa using hfew
  · have := callWith_any (pos := pos) (first := [ov]) (fx := [x]) (.builtin id) hp (hs.ev i₁ e₁) (.cons r₁ .nil) qq.2
    exact wpAny_mono this (fun v s₃ q_ => q_.elim fun z q => q.elim fun σ₃ q => ⟨z, σ₃, q.1, e₁.trans q.2.1, q.2.2⟩) fun _ _ e => e

theorem store_upd {s : Shared} {h' : Heap} {tk : Nat} {a : Addr} {x y : AObj} (i : c.Inv σ s) (ha : σ a = some x) (hs : Heap.SameBut a s.heap h') (hr : ObjRep g.w (c.F σ s) h' a y) :
    c.Inv (σ.set a y) { s with heap := h', toks := tk } ∧ c.Ev σ s (σ.set a y) { s with heap := h', toks := tk } := by
  have hao : a ∉ c.own := fun hm => by rw [i.off a hm] at ha; cases ha
  have eF : fz h' c.own (σ.set a y) = fz s.heap c.own σ := by
    funext b
    by_cases hb : b = a
    · subst hb; simp [fz, Sto.set_self, ha]
    · simp only [fz, Sto.set_ne hb, hs.2 b hb]
  refine ⟨⟨fun b o e => by show fz h' c.own (σ.set a y) b = _; rw [eF]; exact i.keep b o e, fun b z e => ?_, fun b hb => ?_, fun b hb => ?_⟩, ⟨⟨_, _, rfl⟩, by show (fz s.heap c.own σ).le (fz h' c.own (σ.set a y)); rw [eF]; exact .refl _, fun b hb o e => (hs.2 b (by rintro rfl; exact hao hb)).trans e⟩⟩
  · show ObjRep g.w (fz h' c.own (σ.set a y)) h' b z
    rw [eF]
    by_cases hb : b = a
    · subst hb; rw [Sto.set_self] at e; injection e with e; subst e; exact hr
    · rw [Sto.set_ne hb] at e; exact (i.objs b z e).mono (.refl _) fun o e => (hs.2 b hb).trans e
  · rw [Sto.set_ne (by rintro rfl; exact hao hb)]; exact i.off b hb
  · obtain ⟨o, ho⟩ := i.live b hb; exact ⟨o, (hs.2 b (by rintro rfl; exact hao hb)).trans ho⟩

section
variable {Q : AV → Sto → Prop}
theorem cal_append {a : Addr} {l : List AV} {x : AV} (ha : σ a = some (.lst l)) (hz : l.length ≤ sizeLine) (q : Q .none (σ.set a (.lst (l ++ [x])))) : cal c (.builtin "list.append") [.obj a, x] σ Q := fun s vs i r => by
  obtain ⟨_, u, rfl, r1, r2⟩ := r.two; (first | obtain rfl := r1.invNil | obtain ⟨_, rfl⟩ := r1.invInt | obtain rfl := r1.invObj | obtain ⟨_, rfl⟩ := r1.invStr | obtain rfl := r1.invBool | obtain rfl := r1.invNone | obtain rfl := r1.invRaw)
  obtain ⟨us, n, e, hr⟩ := i.objs a _ ha
  refine wpAny_list_append_plain (items := us.toArray) ⟨n, e⟩ (fun h' hp hs => ?_) (by rw [List.size_toArray, hr.length]; exact hz)
  obtain ⟨n', hn'⟩ := hp
  obtain ⟨h1, h2⟩ := store_upd (tk := s.toks) (y := .lst (l ++ [x])) i ha hs ⟨us ++ [u], n', by rw [hn']; simp, hr.append (.cons r2 .nil)⟩
  exact ⟨.none, _, h1, h2, .none, q⟩
noncomputable def eqV (w : World) (F : Fz) (x : AV) (v : Value) : Bool := @decide (∃ y, Rep w F v y ∧ plain y = true ∧ eqA y x = true) (Classical.propDecidable _)
theorem eqV_of {w : World} {F : Fz} {x y : AV} {v : Value} (r : Rep w F v y) (p : plain y = true) : eqV w F x v = eqA y x := by
  unfold eqV
  by_cases h : eqA y x = true
  · rw [h]; exact @decide_eq_true _ (Classical.propDecidable _) ⟨y, r, p, h⟩
  · have h' : eqA y x = false := by simpa using h
    rw [h']
    refine @decide_eq_false _ (Classical.propDecidable _) ?_
    rintro ⟨z, r', p', h2⟩
    rw [Rep.inj r' p' r p] at h2
    exact h h2
theorem any_eqV {w : World} {F : Fz} {x : AV} : ∀ {vs : List Value} {l : List AV}, RepL w F vs l → plainL l = true → vs.any (eqV w F x) = l.any (eqA · x)
  | _, _, .nil, _ => rfl
  | _, _, .cons h r, p => by
    unfold plainL at p
    rw [Bool.and_eq_true] at p
    rw [List.any_cons, List.any_cons, eqV_of h p.1, any_eqV r p.2]
theorem fz_sub {s : Shared} : ∀ a o, c.F σ s a = some o → s.heap.get? a = some o := fun a o h => (fz_eq.mp h).2.2
theorem items_eq {n : Nat} {s : Shared} {vs : List Value} {l : List AV} {u : Value} {x : AV} {A : Around} (hr : RepL g.w (c.F σ s) vs l) (pl : plainL l = true) (dl : deepL l ≤ n) (ru : Rep g.w (c.F σ s) u x) (px : plain x = true) (hu : A.units + n < cLine) :
    ∀ y, y ∈ vs.toArray → PySem.SeqAt.EqAt A s y u (eqV g.w (c.F σ s) x y) := by
  intro y hy
  obtain ⟨i, hi⟩ := List.mem_iff_getElem?.mp (by simpa using hy)
  obtain ⟨z, hz, rz⟩ := hr.get' hi
  rw [eqV_of rz (plainL_get pl hz)]
  exact eqAt n (Nat.le_trans (deepL_get hz) dl) rz ru (plainL_get pl hz) px fz_sub hu
theorem cmp_notin_tup {x : AV} {l : List AV} (pl : plainL l = true) (dl : deepL l ≤ 4) (px : plain x = true) (hu : c.A.units + 8 < cLine) (q : Q (.bool (!l.any (eqA · x))) σ) : op2 c (compareOp .NotIn) x (.tup l) σ Q := fun s u v i r1 r2 => by
  obtain ⟨a, us, n, rfl, h, hl⟩ := r2.invTup
  refine PySem.SeqAt.notIn_tupleAt (l := a) (items := us.toArray) (eqV g.w (c.F σ s) x) ⟨_, fz_sub _ _ h, rfl, n, rfl⟩ (items_eq hl pl dl r1 px (by show c.A.units + 1 + 4 < cLine; omega)) ?_
  have e : us.toArray.any (eqV g.w (c.F σ s) x) = l.any (eqA · x) := by rw [← Array.any_toList]; simpa using any_eqV hl pl
  rw [e]
  exact ⟨_, σ, i, .refl .., .bool _, q⟩
theorem cmp_in_list {x y : AV} {l : List AV} (hy : Seq σ y l) (pl : plainL l = true) (dl : deepL l ≤ 4) (px : plain x = true) (hu : c.A.units + 8 < cLine) (q : Q (.bool (l.any (eqA · x))) σ) : op2 c (compareOp .In) x y σ Q := fun s u v i r1 r2 => by
  obtain ⟨a, us, n, rfl, hg, hv⟩ := hy.heap i r2
  refine PySem.SeqAt.in_listAt (items := us.toArray) (eqV g.w (c.F σ s) x) ⟨_, hg, rfl, n, rfl⟩ (items_eq hv pl dl r1 px (by show c.A.units + 1 + 4 < cLine; omega)) ?_
  have e : us.toArray.any (eqV g.w (c.F σ s) x) = l.any (eqA · x) := by rw [← Array.any_toList]; simpa using any_eqV hv pl
  rw [e]
  exact ⟨_, σ, i, .refl .., .bool _, q⟩
theorem cmp_notin_list {x y : AV} {l : List AV} (hy : Seq σ y l) (pl : plainL l = true) (dl : deepL l ≤ 4) (px : plain x = true) (hu : c.A.units + 8 < cLine) (q : Q (.bool (!l.any (eqA · x))) σ) : op2 c (compareOp .NotIn) x y σ Q := fun s u v i r1 r2 => by
  obtain ⟨a, us, n, rfl, hg, hv⟩ := hy.heap i r2
  refine PySem.SeqAt.notIn_listAt (items := us.toArray) (eqV g.w (c.F σ s) x) ⟨_, hg, rfl, n, rfl⟩ (items_eq hv pl dl r1 px (by show c.A.units + 1 + 4 < cLine; omega)) ?_
  have e : us.toArray.any (eqV g.w (c.F σ s) x) = l.any (eqA · x) := by rw [← Array.any_toList]; simpa using any_eqV hv pl
  rw [e]
  exact ⟨_, σ, i, .refl .., .bool _, q⟩
theorem op_addl {x y : AV} {l m : List AV} (hx : Seq σ x l) (hy : Seq σ y m) (hz : l.length + m.length ≤ sizeLine) (q : Made Q (l ++ m) σ) : op2 c (binaryOp .Add) x y σ Q := fun s u v i r1 r2 => by
  obtain ⟨a, us, n, rfl, hg, hv⟩ := hx.heap i r1
  obtain ⟨b, ws, k, rfl, hg', hw⟩ := hy.heap i r2
  refine P.add_list (items := us.toArray) (items2 := ws.toArray) hg hg' ?_ (by rw [List.size_toArray, List.size_toArray, hv.length, hw.length]; exact hz)
  exact made_list (tk := s.toks) (vs := us ++ ws) (n := 0) i (push_keeps _ _) (Nat.le_refl _) (by rw [show us.toArray ++ ws.toArray = (us ++ ws).toArray by simp]; exact Heap.get?_push_size _ rfl) (hv.append hw) q
end

theorem es_setitem {o i : Expr} {pos' : Pos} {value : Expr} {pos : Pos} {Q : AFl → Rho → Sto → Prop} (h : ev c ρ value σ fun z σ₁ => ev c ρ o σ₁ fun x σ₂ => ev c ρ i σ₂ fun y σ₃ => op3u c (fun a b d => setItem a b d) x y z σ₃ fun σ₄ => Q .next ρ σ₄)
    (hw : swapsWith value (some (.Subscript o i pos')) pos.line c.env = pure false := by rfl) : es c ρ (exec (.Assign [.Subscript o i pos'] value pos) c.env) σ Q := fun s hs => by
  refine wpAny_Assign_Subscript (pg.use (h s hs) (fun vz s₁ z σ₁ i₁ e₁ r₁ q₁ => ?_)) hw
  refine pg.use (q₁ s₁ (hs.ev i₁ e₁)) (fun vx s₂ x σ₂ i₂ e₂ r₂ q₂ => ?_)
  refine pg.use (q₂ s₂ (hs.ev i₂ (e₁.trans e₂))) (fun vy s₃ y σ₃ i₃ e₃ r₃ q₃ => ?_)
  refine pg.use (q₃ s₃ vx vy vz i₃ (r₂.mono e₃.grow) r₃ (r₁.mono (e₂.grow.trans e₃.grow))) (fun _ s₄ _ σ₄ i₄ e₄ _ q₄ => ?_)
  have e := ((e₁.trans e₂).trans e₃).trans e₄
  exact ⟨_, ρ, σ₄, hs.ev i₄ e, e.toS hs.fr.sub, .next, q₄⟩
theorem es_expr {e pos} {Q : AFl → Rho → Sto → Prop} (h : ev c ρ e σ fun x σ' => (match x with | .none => True | .bool _ => True | .int _ => True | .str _ => True | _ => False) ∧ Q .next ρ σ')
    (hw : swapsWith e none pos.line c.env = pure false := by rfl) : es c ρ (exec (.Expr e pos) c.env) σ Q := fun s hs => by
  have hi : interactive c.env = false := by
    unfold interactive
    rw [hs.fr.kind]; rfl
  refine wpAny_Expr (pg.use (h s hs) (fun v s₁ x σ₁ i₁ e₁ r₁ qq => ?_)) hi hw
  obtain ⟨hx, q₁⟩ := qq
  have post : ∃ fl ρ' σ', St c ρ' σ' s₁ ∧ EvS c σ s σ' s₁ ∧ RepF g.w (c.F σ' s₁) .next fl ∧ Q fl ρ' σ' := ⟨_, ρ, σ₁, hs.ev i₁ e₁, e₁.toS hs.fr.sub, .next, q₁⟩
  cases r₁ <;> first | exact post | exact hx.elim

end Mine

end

section
namespace Mine
open PySem
variable {g : Gx} {c : Cx g} {ρ : Rho} {σ : Sto}

section
variable {Q : AV → Sto → Prop}
end

noncomputable def evO (c : Cx g) (ρ : Rho) : Option Expr → Sto → (Option Int → Sto → Prop) → Prop
  | Option.none, σ, Q => Q Option.none σ
  | some e, σ, Q => ev c ρ e σ fun x σ₁ => ∃ i, x = .int i ∧ Q (some i) σ₁
theorem evO_sound {e : Option Expr} {Q : Option Int → Sto → Prop} (h : evO c ρ e σ Q) : gv c ρ (fun _ v o => IsPart v o) (evalPart e c.env) σ Q := fun s hs => by
  cases e with
  | none => exact wpAny_pure ⟨_, σ, hs.inv, .refl .., .none, h⟩
  | some e =>
    refine pg.use (h s hs) (fun v s₁ x σ₁ i₁ e₁ r₁ qq => ?_)
    obtain ⟨i, hx, q⟩ := qq
    subst hx
    (first | obtain rfl := r₁.invNil | obtain ⟨_, rfl⟩ := r₁.invInt | obtain rfl := r₁.invObj | obtain ⟨_, rfl⟩ := r₁.invStr | obtain rfl := r₁.invBool | obtain rfl := r₁.invNone | obtain rfl := r₁.invRaw)
    exact ⟨_, σ₁, i₁, e₁, .int _ _, q⟩
noncomputable def cut {α : Type} (l : List α) (lo hi : Option Int) : List α := (l.drop (lo.elim 0 (clipAt l.length))).take (hi.elim l.length (clipAt l.length) - lo.elim 0 (clipAt l.length))
theorem cut_pick {us : List Value} {lo hi : Option Int} : slicePick us.toArray lo hi none = (cut us lo hi).toArray := by
  rw [slicePick_plain]; simp [cut]
theorem RepL.cut {w : World} {F : Fz} {us : List Value} {l : List AV} (h : RepL w F us l) (lo hi : Option Int) : RepL w F (cut us lo hi) (cut l lo hi) := by
  unfold Mine.cut; rw [h.length]; exact (h.drop _).take _
theorem ev_slice {value : Expr} {lower upper : Option Expr} {p pos : Pos} {Q : AV → Sto → Prop}
    (h : ev c ρ value σ fun x σ₁ => evO c ρ lower σ₁ fun lo σ₂ => evO c ρ upper σ₂ fun hi σ₃ => ∃ l, Seq σ₃ x l ∧ l.length ≤ sizeLine ∧ Made Q (cut l lo hi) σ₃)
    (ht : ∀ o r, letTemporaryGo value o r = pure () := by intro _ _; rfl) : ev c ρ (.Subscript value (.Slice lower upper none p) pos) σ Q := fun s hs => by
  refine wpAny_Subscript_list_slice (pg.use (h s hs) (fun a s₁ x σ₁ i₁ e₁ r₁ q₁ => ?_)) ht
  refine pg.use (evO_sound q₁ s₁ (hs.ev i₁ e₁)) (fun vl s₂ lo σ₂ i₂ e₂ r₂ q₂ => ?_)
  refine pg.use (evO_sound q₂ s₂ (hs.ev i₂ (e₁.trans e₂))) (fun vu s₃ hi σ₃ i₃ e₃ r₃ qq => ?_)
  obtain ⟨l, hx, hz, q₃⟩ := qq
  obtain ⟨b, us, n, rfl, hg, hv⟩ := hx.heap i₃ (r₁.mono (e₂.grow.trans e₃.grow))
  refine ⟨b, us.toArray, lo, hi, rfl, ⟨_, hg, rfl, n, rfl⟩, by rw [List.size_toArray, hv.length]; exact hz, r₂, r₃, ?_⟩
  rw [cut_pick]
  obtain ⟨y, σ', a1, a2, a3, a4⟩ := made_list (tk := s₃.toks) (D := s₃.heap.objs.size + 1) (h' := (s₃.heap.push { cls := .type "slice", data := .fields #[vl, vu, .none] }).push { cls := .type "list", data := .seq (cut us lo hi).toArray }) (n := 0) i₃ (fun b o e => push_keeps _ _ _ _ (push_keeps _ _ _ _ e)) (Nat.le_succ _)
    (by have := Heap.get?_push_size (s₃.heap.push { cls := .type "slice", data := .fields #[vl, vu, .none] }) (o := lstO (cut us lo hi) 0) rfl; rw [Heap.size_push] at this; exact this) (hv.cut lo hi) q₃
  exact ⟨y, σ', a1, ((e₁.trans e₂).trans e₃).trans a2, a3, a4⟩

theorem foldl_cps (x : Array Nat) : ∀ (n : Nat) (acc : Array Nat), ((List.replicate n x).foldl (· ++ ·) acc).size = acc.size + n * x.size
  | 0, acc => by simp
  | n + 1, acc => by rw [List.replicate_succ, List.foldl_cons, foldl_cps x n, Array.size_append, Nat.add_mul]; omega
theorem mul_len {x : Str} {n : Int} : (Txt.mul x n).length ≤ x.length * n.toNat := by
  unfold Txt.mul
  by_cases h1 : n < 1
  · rw [if_pos h1]; exact Nat.zero_le _
  · rw [if_neg h1]
    by_cases h2 : (n == 1 || x.length == 0) = true
    · rw [if_pos h2]
      have : 1 ≤ n.toNat := by omega
      exact Nat.le_mul_of_pos_right _ this
    · rw [if_neg h2]
      show ((List.replicate n.toNat x.cps).foldl (· ++ ·) #[]).size ≤ _
      rw [foldl_cps]
      simp [Str.length, Nat.mul_comm]
theorem op_muls {x : Str} {n : Int} {Q : AV → Sto → Prop} (hx : x.length ≤ 1024) (h0 : -1024 ≤ n) (hn : n ≤ 1024) (q : Q (.str (Txt.mul x n)) σ) : op2 c (binaryOp .Mult) (.str x) (.int n) σ Q := fun s u v i r1 r2 => by
  (first | obtain rfl := r1.invNil | obtain ⟨_, rfl⟩ := r1.invInt | obtain rfl := r1.invObj | obtain ⟨_, rfl⟩ := r1.invStr | obtain rfl := r1.invBool | obtain rfl := r1.invNone | obtain rfl := r1.invRaw); (first | obtain rfl := r2.invNil | obtain ⟨_, rfl⟩ := r2.invInt | obtain rfl := r2.invObj | obtain ⟨_, rfl⟩ := r2.invStr | obtain rfl := r2.invBool | obtain rfl := r2.invNone | obtain rfl := r2.invRaw)
  have hle : x.length * n.toNat ≤ 1024 * 1024 := Nat.mul_le_mul hx (by omega)
  refine SB.mul ⟨?_, fun h1 h2 h3 => ?_, fun h1 h2 => ?_⟩ fun t' k => ⟨_, σ, i.toks _, .toks .., .str _ _, q⟩
  · rw [Bool.or_eq_false_iff]; constructor <;> (rw [decide_eq_false_iff_not]; omega)
  · have h4 : (x.length : Int) * n ≤ 1024 * 1024 := by
      have e : ((x.length * n.toNat : Nat) : Int) = (x.length : Int) * n := by rw [Int.natCast_mul, Int.toNat_of_nonneg (by omega)]
      omega
    have h5 : 1024 ≤ (2 ^ 63 - 1) / n := by
      rw [Int.le_ediv_iff_mul_le (by omega)]
      have : (1024 : Int) * n ≤ 1024 * 1024 := Int.mul_le_mul_of_nonneg_left hn (by decide)
      omega
    omega
  · unfold Builtin.Str.tooLong
    rw [decide_eq_false_iff_not, sizeLine_eq]
    omega

theorem Sto.del_self {σ : Sto} {a : Addr} : σ.del a a = Option.none := if_pos rfl
theorem Sto.del_ne {σ : Sto} {a b : Addr} (h : b ≠ a) : σ.del a b = σ b := if_neg h
theorem freeze_le {h : Heap} {own : List Addr} {a : Addr} : (fz h own σ).le (fz h own (σ.del a)) := fun b o e => by
  obtain ⟨e1, e2, e3⟩ := fz_eq.mp e
  refine fz_eq.mpr ⟨?_, e2, e3⟩
  by_cases hb : b = a
  · subst hb; exact Sto.del_self
  · exact (Sto.del_ne hb).trans e1
theorem Inv.freeze {w : World} {H₀ : Heap} {own : List Addr} {s : Shared} (i : Inv w H₀ own σ s) (a : Addr) : Inv w H₀ own (σ.del a) s := by
  refine ⟨fun b o e => freeze_le b o (i.keep b o e), fun b y e => ?_, fun b hb => ?_, i.live⟩
  · have hb : b ≠ a := by rintro rfl; rw [Sto.del_self] at e; cases e
    rw [Sto.del_ne hb] at e
    exact (i.objs b y e).mono freeze_le fun _ e => e
  · by_cases h : b = a
    · subst h; exact Sto.del_self
    · exact (Sto.del_ne h).trans (i.off b hb)
inductive Frz : AObj → AV → Prop
  | lst (l : List AV) : Frz (.lst l) (.list l)
  | dct (l : List (AV × AV)) : Frz (.dct l) (.dict l)
theorem Inv.frozen {w : World} {H₀ : Heap} {own : List Addr} {s : Shared} (i : Inv w H₀ own σ s) {a : Addr} {x : AObj} {y : AV} (ha : σ a = some x) (hf : Frz x y) : Rep w (fz s.heap own (σ.del a)) (.ref a) y := by
  have hao : a ∉ own := fun hm => by rw [i.off a hm] at ha; cases ha
  have := i.objs a x ha
  cases hf with
  | lst l =>
    obtain ⟨vs, n, e, r⟩ := this
    exact .list (fz_eq.mpr ⟨Sto.del_self, hao, e⟩) (r.mono freeze_le)
  | dct l =>
    obtain ⟨es, n, e, r, nd⟩ := this
    exact .dict (fz_eq.mpr ⟨Sto.del_self, hao, e⟩) (r.mono freeze_le) nd
inductive FrzR (a : Addr) (y : AV) : Rho → Rho → Prop
  | nil : FrzR a y [] []
  | hit {x : Str} {r r' : Rho} : FrzR a y r r' → FrzR a y ((x, some (.obj a)) :: r) ((x, some y) :: r')
  | skip {p : Str × Option AV} {r r' : Rho} : FrzR a y r r' → FrzR a y (p :: r) (p :: r')
theorem FrzR.names {a : Addr} {y : AV} {r r' : Rho} (h : FrzR a y r r') : r'.map (·.1) = r.map (·.1) := by
  induction h with
  | nil => rfl
  | hit _ ih => simp [ih]
  | skip _ ih => simp [ih]
theorem FrzR.get {a : Addr} {y : AV} {r r' : Rho} (h : FrzR a y r r') {x : Str} {v : AV} (hm : (x, some v) ∈ r') : (x, some v) ∈ r ∨ (v = y ∧ (x, some (.obj a)) ∈ r) := by
  induction h with
  | nil => exact .inl hm
  | hit _ ih =>
    rcases List.mem_cons.mp hm with e | hm
    · injection e with e1 e2; injection e2 with e2; subst e1; exact .inr ⟨e2, List.mem_cons_self⟩
    · exact (ih hm).imp (List.mem_cons_of_mem _) fun q => ⟨q.1, List.mem_cons_of_mem _ q.2⟩
  | skip _ ih =>
    rcases List.mem_cons.mp hm with rfl | hm
    · exact .inl List.mem_cons_self
    · exact (ih hm).imp (List.mem_cons_of_mem _) fun q => ⟨q.1, List.mem_cons_of_mem _ q.2⟩
theorem St.freeze {ρ' : Rho} {s : Shared} (h : St c ρ σ s) {a : Addr} {x : AObj} {y : AV} (ha : σ a = some x) (hf : Frz x y) (hr : FrzR a y ρ ρ') : St c ρ' (σ.del a) s := by
  have le : (c.F σ s).le (c.F (σ.del a) s) := freeze_le
  have hy : Rep g.w (c.F (σ.del a) s) (.ref a) y := h.inv.frozen ha hf
  refine ⟨h.inv.freeze a, hr.names ▸ h.fr, ?_, fun z b hk hb => ?_⟩
  · obtain ⟨m, hn, hm⟩ := h.ns
    refine ⟨m, hn, fun z v hz hk => ?_⟩
    rcases hr.get hz with hz | ⟨rfl, hz⟩
    · obtain ⟨u, h1, h2⟩ := hm z v hz hk; exact ⟨u, h1, h2.mono le⟩
    · obtain ⟨u, h1, h2⟩ := hm z _ hz hk; cases h2; exact ⟨_, h1, hy⟩
  · obtain ⟨vo, h1, h2⟩ := h.cl z b hk hb
    refine ⟨vo, h1, fun v hz => ?_⟩
    rcases hr.get hz with hz | ⟨rfl, hz⟩
    · obtain ⟨u, h3, h4⟩ := h2 v hz; exact ⟨u, h3, h4.mono le⟩
    · obtain ⟨u, h3, h4⟩ := h2 _ hz; cases h4; exact ⟨_, h3, hy⟩
theorem es_freeze {ρ' : Rho} {t : Sem Flow} {Q : AFl → Rho → Sto → Prop} {a : Addr} {x : AObj} {y : AV} (ha : σ a = some x) (hf : Frz x y) (hr : FrzR a y ρ ρ') (h : es c ρ' t (σ.del a) Q) : es c ρ t σ Q := fun s hs =>
  es.use (h s (hs.freeze ha hf hr)) (fun f s' fl ρ₁ σ₁ a1 a2 a3 a4 => ⟨fl, ρ₁, σ₁, a1, ⟨a2.same, (freeze_le (a := a)).trans a2.grow, a2.hid⟩, a3, a4⟩)
theorem es_ret_freeze {e pos} {Q : AFl → Rho → Sto → Prop} (h : ev c ρ e σ fun x σ' => ∃ a o y, x = .obj a ∧ σ' a = some o ∧ Frz o y ∧ Q (.ret y) ρ (σ'.del a)) : es c ρ (exec (.Return (some e) pos) c.env) σ Q := fun s hs =>
  wpAny_Return_some (pg.use (h s hs) (fun v s₁ x σ₁ i₁ e₁ r₁ qq => by
    obtain ⟨a, o, y, hx, ha, hf, q⟩ := qq
    subst hx
    (first | obtain rfl := r₁.invNil | obtain ⟨_, rfl⟩ := r₁.invInt | obtain rfl := r₁.invObj | obtain ⟨_, rfl⟩ := r₁.invStr | obtain rfl := r₁.invBool | obtain rfl := r₁.invNone | obtain rfl := r₁.invRaw)
    have st₁ := hs.ev i₁ e₁
    have le : (c.F σ₁ s₁).le (c.F (σ₁.del a) s₁) := freeze_le
    have st₂ : St c ρ (σ₁.del a) s₁ := by
      refine ⟨i₁.freeze a, hs.fr, ?_, fun z b hk hb => ?_⟩
      · obtain ⟨m, hn, hm⟩ := st₁.ns
        exact ⟨m, hn, fun z v hz hk => (hm z v hz hk).imp fun _ q => ⟨q.1, q.2.mono le⟩⟩
      · obtain ⟨vo, h1, h2⟩ := st₁.cl z b hk hb
        exact ⟨vo, h1, fun v hz => (h2 v hz).imp fun _ q => ⟨q.1, q.2.mono le⟩⟩
    have e₂ := e₁.toS hs.fr.sub
    exact ⟨_, ρ, σ₁.del a, st₂, ⟨e₂.same, e₂.grow.trans le, e₂.hid⟩, .ret (i₁.frozen ha hf), q⟩))

end Mine

end

section
namespace Mine
open PySem
variable {g : Gx} {c : Cx g} {ρ : Rho} {σ : Sto}

noncomputable def swOk (y : Str) (py pos : Pos) (scope sc : Scope) : Bool := (sc.kind == .function) && (sc.names.lookup y == some .local) && (py.line == pos.line) && !(scope.names.any fun x => x.1 == y && (x.2 == .local || x.2 == .cell))
theorem swaps_of {y : Str} {py pos : Pos} {scope : Scope} {elt : Expr} {gens : List Comprehension} {line : Nat} {b : Bool} {ns : List Str} (fr : Frame c ns) (h : swOk y py pos scope c.sc = b) : swapsWith (.ListComp elt gens scope pos) (some (.Name y py)) line c.env = pure b := by
  have hsk : c.sc.kind = .function := by rw [← fr.sc]; exact fr.kind
  have hb : c.env.blockKind = .function := by unfold Env.blockKind; rw [fr.kind]; rfl
  have hk : c.env.kindOf y = c.sc.names.lookup y := by unfold Env.kindOf; rw [fr.sc]
  show (pure (c.env.blockKind == .function && c.env.kindOf y == some .local && py.line == pos.line && !(scope.names.any fun (n, k) => n == y && (k == .local || k == .cell))) : Sem Bool) = pure b
  rw [← h, hk, hb]
  unfold swOk
  rw [hsk]

theorem es_comp {elt iter : Expr} {x y : Str} {px py pos spos : Pos} {t : Option Expr} {scope : Scope} {fr : Rho} {Q : AFl → Rho → Sto → Prop} (J : List AV → List AV → Sto → Prop) (hfn : c.isFn = true) (hsw : swOk y py pos scope c.sc = true) (hok : compOk x (fr.map (·.1)) scope c.sc = true) (hfr : FrIn fr ρ)
    (h : ev c ρ iter σ fun z σ₁ => ∃ l, Iter c z l ∧ l.length ≤ sizeLine ∧ J l [] σ₁)
    (turn : ∀ c' : Cx g, c'.A = c.A → c'.sc = relab scope c.sc → ∀ z rest acc σ₁, J (z :: rest) acc σ₁ → evT c' ((x, some z) :: fr) t σ₁ fun b σ₂ => match b with
      | true => ev c' ((x, some z) :: fr) elt σ₂ fun w σ₃ => J rest (acc ++ [w]) σ₃
      | false => J rest acc σ₂)
    (done : ∀ acc σ₁, J [] acc σ₁ → Made (fun z σ₂ => ∃ ρ', Upd y z ρ ρ' ∧ Q .next ρ' σ₂) acc σ₁)
    (hs : ∀ x, foldedSetIterable iter c.env x = pure x := by intro _; rfl) : es c ρ (exec (.Assign [.Name y py] (.ListComp elt [⟨.Name x px, iter, t.toList, 0⟩] scope pos) spos) c.env) σ Q := fun s st => by
  obtain ⟨hkind, hcell, hfree, hnames, hx, hnd, hfrk⟩ := compOk_facts hok
  have hfreeC : ∀ y ∈ scope.names, y.2 = .free → ∃ a, c.env.cells.lookup y.1 = some a := fun y hy hf => by
    obtain ⟨p, hp, e⟩ := List.mem_map.mp (hfree y hy hf)
    have h1 := (hfr p hp).1
    rw [e] at h1
    have hk2 := (relabN_cell hcell (hfrk y.1 (hfree y hy hf))).2
    rcases (st.fr.kinds y.1 h1).2 with q | ⟨_, q⟩
    · rw [hk2] at q; cases q
    · exact q
  rw [exec_Assign_Name_used _ _ _ _ (swaps_of st.fr hsw)]
  refine wpAny_bind (wpAny_standAt (wpAny_bind ?_))
  show wpAny _ _ (do let _ ← comprehension (.ListComp elt [⟨.Name x px, iter, t.toList, 0⟩] scope pos) scope c.env _ (newList []) false (eval iter c.env) (some (assign (.Name y py) c.env))) _ _ s
  refine wpAny_bind (wpAny_mono (wpAny_comprehension_free (use := some (assign (.Name y py) c.env)) (Q := fun _ s' => ∃ fl ρ' σ', St c ρ' σ' s' ∧ EvS c σ s σ' s' ∧ RepF g.w (c.F σ' s') .next fl ∧ Q fl ρ' σ') rfl hs (closureFor_eq hfreeC) hkind hnames
    (pg.use (h s st) (fun v s₁ z σ₁ i₁ e₁ r₁ qq => ?_))) (fun _ s' hq => wpAny_pure (wpAny_pure hq)) fun _ _ e => e)
  obtain ⟨l, hit, hsz, hJ⟩ := qq
  have st₁ := st.ev i₁ e₁
  refine comp_core (RR := fun acc C => compPost g.M c.A c.E (some (assign (.Name y py) c.env)) (fun _ s' => ∃ fl ρ' σ', St c ρ' σ' s' ∧ EvS c σ s σ' s' ∧ RepF g.w (c.F σ' s') .next fl ∧ Q fl ρ' σ') acc C) _ _ binds_name J (fun _ _ _ _ _ => trivial) hok hfr st₁ r₁ hit hJ hsz turn ?_
  intro D C l' σ' h' tk m vs n hJ' hDo hCo hCD hDs hCs hDg hvs hn hle hown hi hlen
  show wpAny _ _ (assign (.Name y py) c.env (.ref D)) _ _ _
  -- the frame with the comprehension's own names still hidden
  let c₂ : Cx g := ⟨c.A, c.env, C :: c.own, C :: c.hid, c.E, c.sc, c.isFn⟩
  have same : Same c c₂ := ⟨rfl, rfl, rfl, rfl⟩
  have hC2 : C ∉ c.own := hCo
  have finish : ∀ (z : AV) (σ₂ : Sto), c₂.Inv σ₂ { s₁ with heap := h', toks := tk } → (c.F σ₁ s₁).le (c₂.F σ₂ { s₁ with heap := h', toks := tk }) → Rep g.w (c₂.F σ₂ { s₁ with heap := h', toks := tk }) (.ref D) z → (∃ ρ', Upd y z ρ ρ' ∧ Q .next ρ' σ₂) →
      wpAny g.M c.A (assign (.Name y py) c.env (.ref D)) (fun _ s'' => ∃ m, s''.heap.Ns C m ∧ ∀ h'', Heap.SameBut C s''.heap h'' → ∃ fl ρ' σ', St c ρ' σ' { s'' with heap := h'' } ∧ EvS c σ s σ' { s'' with heap := h'' } ∧ RepF g.w (c.F σ' { s'' with heap := h'' }) .next fl ∧ Q fl ρ' σ') c.E { s₁ with heap := h', toks := tk } := by
    intro z σ₂ i₂ le₂ rz ⟨ρ', hu, hq⟩
    have st₂ : St c₂ ρ σ₂ { s₁ with heap := h', toks := tk } := by
      refine ⟨i₂, st₁.fr.enter same rfl rfl hCo, ?_, fun w' a hk ha => ?_⟩
      · obtain ⟨m', hn', hm'⟩ := st₁.ns
        refine ⟨m', hn'.at' fun o e => hown _ st₁.fr.loc o e, fun w' v' hw' hk => ?_⟩
        obtain ⟨u, h1, h2⟩ := hm' w' v' hw' hk
        exact ⟨u, h1, h2.mono le₂⟩
      · obtain ⟨vo, ⟨o, ho, hd⟩, h2⟩ := st₁.cl w' a hk ha
        refine ⟨vo, ⟨o, hown a (st₁.fr.cells w' a ha).1 o ho, hd⟩, fun v' hv' => ?_⟩
        obtain ⟨u, h3, h4⟩ := h2 v' hv'
        exact ⟨u, h3, h4.mono le₂⟩
    refine wpAny_assign_Name (store_sound (c := c₂) (E := c.E) st₂ hu hfn rz fun s₃ st₃ e₃ => ?_)
    have hCl : ∃ o, h'.get? C = some o := let ⟨o, _, _, ho, _⟩ := hn; ⟨o, ho⟩
    refine ⟨m, hn.at' fun o e => e₃.hid C List.mem_cons_self o e, fun h'' hs'' => ?_⟩
    have hk3 : ∀ b o, b ∉ [C] → s₃.heap.get? b = some o → h''.get? b = some o := fun b o hb e => (hs''.2 b (by simpa using hb)).trans e
    have e0 : ({ s₃ with heap := h'' } : Shared) = { s₃ with heap := h'', toks := s₃.toks } := rfl
    obtain ⟨st₄, le₄⟩ := st₃.leave' (c := c) (tk := s₃.toks) same rfl hCo { st₁.fr with kinds := st₃.fr.kinds, nodup := st₃.fr.nodup } hk3
    refine ⟨.next, ρ', σ₂, st₄, ⟨?_, (e₁.grow.trans le₂).trans (e₃.grow.trans le₄), fun a ha o ho => ?_⟩, .next, hq⟩
    · obtain ⟨h5, t5, e5⟩ := e₃.same
      obtain ⟨h6, t6, e6⟩ := e₁.same
      subst e6
      subst e5
      exact ⟨h'', t5, rfl⟩
    · have hao := st.fr.sub a ha
      exact hk3 a o (by intro hm; exact hCo (List.mem_singleton.mp hm ▸ hao)) (e₃.hid a (List.mem_cons_of_mem _ ha) o (hown a hao o (e₁.own a hao o ho)))
  have hD0 : σ' D = Option.none := hi.off D (List.mem_cons_of_mem _ List.mem_cons_self)
  rcases done l' σ' hJ' with hq | hq
  · have le : (fz h' (C :: D :: c.own) σ').le (fz h' (C :: c.own) σ') := fun b o e => by
      obtain ⟨e1, e2, e3⟩ := fz_eq.mp e
      simp only [List.mem_cons, not_or] at e2
      exact fz_eq.mpr ⟨e1, by simp only [List.mem_cons, not_or]; exact ⟨e2.1, e2.2.2⟩, e3⟩
    have i₂ : c₂.Inv σ' { s₁ with heap := h', toks := tk } := by
      refine ⟨fun b o e => le b o (hi.keep b o e), fun a z e => (hi.objs a z e).mono le fun _ e => e, fun a ha => ?_, fun a ha => ?_⟩
      · rcases List.mem_cons.mp ha with rfl | ha
        · exact hi.off _ List.mem_cons_self
        · exact hi.off a (List.mem_cons_of_mem _ (List.mem_cons_of_mem _ ha))
      · rcases List.mem_cons.mp ha with rfl | ha
        · exact hi.live _ List.mem_cons_self
        · exact hi.live a (List.mem_cons_of_mem _ (List.mem_cons_of_mem _ ha))
    refine finish _ σ' i₂ (hle.trans le) (.list (fz_eq.mpr ⟨hD0, ?_, hDg⟩) (hvs.mono le)) hq
    intro hm
    rcases List.mem_cons.mp hm with e | hm
    · exact hCD e.symm
    · exact hDo hm
  · have le : (fz h' (C :: D :: c.own) σ').le (fz h' (C :: c.own) (σ'.set D (.lst l'))) := fun b o e => by
      obtain ⟨e1, e2, e3⟩ := fz_eq.mp e
      simp only [List.mem_cons, not_or] at e2
      exact fz_eq.mpr ⟨(Sto.set_ne e2.2.1).trans e1, by simp only [List.mem_cons, not_or]; exact ⟨e2.1, e2.2.2⟩, e3⟩
    have i₂ : c₂.Inv (σ'.set D (.lst l')) { s₁ with heap := h', toks := tk } := by
      refine ⟨fun b o e => le b o (hi.keep b o e), fun a z e => ?_, fun a ha => ?_, fun a ha => ?_⟩
      · by_cases haD : a = D
        · subst haD
          rw [Sto.set_self] at e
          injection e with e
          subst e
          exact ⟨vs, n, hDg, hvs.mono le⟩
        · rw [Sto.set_ne haD] at e
          exact (hi.objs a z e).mono le fun _ e => e
      · rcases List.mem_cons.mp ha with rfl | ha
        · rw [Sto.set_ne hCD]; exact hi.off _ List.mem_cons_self
        · rw [Sto.set_ne (by rintro rfl; exact hDo ha)]; exact hi.off a (List.mem_cons_of_mem _ (List.mem_cons_of_mem _ ha))
      · rcases List.mem_cons.mp ha with rfl | ha
        · exact hi.live _ List.mem_cons_self
        · exact hi.live a (List.mem_cons_of_mem _ (List.mem_cons_of_mem _ ha))
    exact finish _ _ i₂ (hle.trans le) (.obj D) (hq D hD0)

end Mine

end

section
namespace Mine
open PySem PySem.W
variable {g : Gx} {c : Cx g} {ρ : Rho} {σ : Sto}

noncomputable def fdAt (K : Frag) (f : Addr) : FuncData := match K.lookup f with | some ⟨_, _, .func fd, _⟩ => fd | _ => default
noncomputable def bodyAt (K : Frag) (f : Addr) : List Stmt := match (fdAt K f).body with | .stmts b => b | _ => []
noncomputable def fnOk (K : Frag) (f : Addr) : Bool := match K.lookup f with
  | some ⟨_, _, .func fd, _⟩ => (match fd.body with | .stmts _ => true | _ => false) && fd.closure.isEmpty && fd.globals == mainGlobals && fd.builtins == builtinsNs &&
    (match fd.code with | .ref c => (match K.lookup c with | some ⟨_, _, .fields vs, _⟩ => (match (vs[1]? : Option Value) with | some (Value.str q _) => q == fd.qualname | _ => false) | _ => false) | _ => false)
  | _ => false
theorem fnAt_of {K : Frag} (X : K.In g.H₀) (nl : g.H₀.NoLimit) {f : Addr} {ps : List Str} (ok : fnOk K f = true) (hb : ∀ vals : List Value, vals.length = ps.length → bindArgs (fdAt K f) ⟨vals, []⟩ = pure (ps.zip vals)) : FnAt g f ps (bodyAt K f) (fdAt K f).scope := by
  unfold fnOk at ok
  split at ok
  · rename_i oc od fd osl hl
    have e : fdAt K f = fd := by unfold fdAt; rw [hl]
    have eb : bodyAt K f = match fd.body with | .stmts b => b | _ => [] := by unfold bodyAt; rw [e]
    rw [e] at hb
    rw [eb, e]
    simp only [Bool.and_eq_true, beq_iff_eq] at ok
    obtain ⟨⟨⟨⟨h1, h2⟩, h3⟩, h4⟩, h5⟩ := ok
    refine ⟨⟨_, fd, X _ _ hl, rfl, ?_, rfl, by simpa using h2, h3, h4, ?_, hb⟩, nl⟩
    · split at h1
      · rename_i b hb'; rw [hb']
      · cases h1
    · split at h5
      · rename_i cc hc
        split at h5
        · rename_i vs _ hk
          split at h5
          · rename_i q t hq
            have : q = fd.qualname := by simpa using h5
            subst this
            exact ⟨cc, _, vs, t, hc, X _ _ hk, rfl, hq⟩
          · cases h5
        · cases h5
      · cases h5
  · cases ok
theorem fa1 {P : List Value → Prop} (h : ∀ a, P [a]) : ∀ vs : List Value, vs.length = 1 → P vs
  | [a], _ => h a
theorem fa2 {P : List Value → Prop} (h : ∀ a b, P [a, b]) : ∀ vs : List Value, vs.length = 2 → P vs
  | a :: vs, e => fa1 (P := fun vs => P (a :: vs)) (h a) vs (Nat.succ.inj e)
theorem fa3 {P : List Value → Prop} (h : ∀ a b c, P [a, b, c]) : ∀ vs : List Value, vs.length = 3 → P vs
  | a :: vs, e => fa2 (P := fun vs => P (a :: vs)) (h a) vs (Nat.succ.inj e)
theorem fa4 {P : List Value → Prop} (h : ∀ a b c d, P [a, b, c, d]) : ∀ vs : List Value, vs.length = 4 → P vs
  | a :: vs, e => fa3 (P := fun vs => P (a :: vs)) (h a) vs (Nat.succ.inj e)
theorem fa5 {P : List Value → Prop} (h : ∀ a b c d e, P [a, b, c, d, e]) : ∀ vs : List Value, vs.length = 5 → P vs
  | a :: vs, e => fa4 (P := fun vs => P (a :: vs)) (h a) vs (Nat.succ.inj e)
theorem fnAt_mk {K : Frag} (X : K.In g.H₀) (nl : g.H₀.NoLimit) {f : Addr} {ps : List Str} {body : List Stmt} {sc : Scope} (ok : fnOk K f = true) (eb : bodyAt K f = body) (es : (fdAt K f).scope = sc) (hb : ∀ vals : List Value, vals.length = ps.length → bindArgs (fdAt K f) ⟨vals, []⟩ = pure (ps.zip vals)) : FnAt g f ps body sc :=
  eb ▸ es ▸ fnAt_of X nl ok hb
structure TopG (g : Gx) (K : Frag) : Prop where
  X : K.In g.H₀
  nl : g.H₀.NoLimit
  names : ∃ mg mb, g.H₀.Ns mainGlobals mg ∧ g.H₀.Ns builtinsNs mb ∧ (∀ x v, nsIn K mainGlobals x = some (some v) → mg x = some v) ∧ (∀ x v, nsIn K mainGlobals x = some Option.none → PySem.bootBuiltins x = some v → x ≠ "__name__" → mg x = Option.none ∧ mb x = some v)
theorem TopG.glob {K : Frag} (T : TopG g K) {x : Str} {v : Value} (h : nsIn K mainGlobals x = some (some v)) (hd : (x == ("__debug__" : Str)) = false := by decide) : Glob g.H₀ x v := by
  obtain ⟨mg, mb, h1, h2, h3, _⟩ := T.names
  exact ⟨hd, mg, mb, h1, h2, .inl (h3 x v h)⟩
theorem TopG.blt {K : Frag} (T : TopG g K) {x : Str} {v : Value} (h : nsIn K mainGlobals x = some Option.none) (hv : PySem.bootBuiltins x = some v) (hn : x ≠ "__name__" := by decide) (hd : (x == ("__debug__" : Str)) = false := by decide) : Glob g.H₀ x v := by
  obtain ⟨mg, mb, h1, h2, _, h3⟩ := T.names
  obtain ⟨a, b⟩ := h3 x v h hv hn
  exact ⟨hd, mg, mb, h1, h2, .inr ⟨a, b⟩⟩
end Mine

end

section
namespace Mine
open PySem PySem.W
variable {g : Gx} {c : Cx g} {ρ : Rho} {σ : Sto}

inductive MemR (x : Str) (v : AV) : Rho → Prop
  | head {r : Rho} : MemR x v ((x, some v) :: r)
  | tail {p : Str × Option AV} {r : Rho} : MemR x v r → MemR x v (p :: r)
theorem MemR.mem {x : Str} {v : AV} {r : Rho} (h : MemR x v r) : (x, some v) ∈ r := by
  induction h with
  | head => exact List.mem_cons_self
  | tail _ ih => exact List.mem_cons_of_mem _ ih
theorem ev_nm {x pos v} {Q : AV → Sto → Prop} (hx : MemR x v ρ) (q : Q v σ) : ev c ρ (.Name x pos) σ Q := ev_name hx.mem q
theorem evl_nil {Q : List AV → Sto → Prop} (h : Q [] σ) : evl c ρ [] σ Q := h
theorem evl_cons {e : Expr} {r : List Expr} {Q : List AV → Sto → Prop} (h : ev c ρ e σ fun x σ₁ => evl c ρ r σ₁ fun l σ₂ => Q (x :: l) σ₂) : evl c ρ (e :: r) σ Q := h
theorem evAnd_nil {Q : Bool → Sto → Prop} (h : Q true σ) : evAll c ρ .And [] σ Q := h
theorem evOr_nil {Q : Bool → Sto → Prop} (h : Q false σ) : evAll c ρ .Or [] σ Q := h
noncomputable def br (b : Bool) (p q : Prop) : Prop := (b = true → p) ∧ (b = false → q)
theorem br_true {p q : Prop} (h : p) : br true p q := ⟨fun _ => h, fun e => by cases e⟩
theorem br_false {p q : Prop} (h : q) : br false p q := ⟨(fun e => by cases e), fun _ => h⟩
theorem br_intro {b : Bool} {p q : Prop} (h1 : b = true → p) (h2 : b = false → q) : br b p q := ⟨h1, h2⟩
theorem evAnd_cons {e : Expr} {r : List Expr} {Q : Bool → Sto → Prop} (h : evb c ρ e σ fun b σ₁ => br b (evAll c ρ .And r σ₁ Q) (Q false σ₁)) : evAll c ρ .And (e :: r) σ Q :=
  gv.mono h fun b σ₁ h => by cases b; exact h.2 rfl; exact h.1 rfl
theorem evOr_cons {e : Expr} {r : List Expr} {Q : Bool → Sto → Prop} (h : evb c ρ e σ fun b σ₁ => br b (Q true σ₁) (evAll c ρ .Or r σ₁ Q)) : evAll c ρ .Or (e :: r) σ Q :=
  gv.mono h fun b σ₁ h => by cases b; exact h.2 rfl; exact h.1 rfl
theorem es_ifc {test body orelse pos} {Q : AFl → Rho → Sto → Prop} (h : evb c ρ test σ fun b σ' => br b (es c ρ (execs body c.env) σ' Q) (es c ρ (execs orelse c.env) σ' Q)) :
    es c ρ (exec (.If test body orelse pos) c.env) σ Q := es_if (gv.mono h fun b σ₁ h => by cases b; exact h.2 rfl; exact h.1 rfl)
theorem evVal_one {op : BoolOp} {e : Expr} {Q : AV → Sto → Prop} (h : ev c ρ e σ Q) : evVal c ρ op [e] σ Q := h
theorem evVal_and {e e' : Expr} {r : List Expr} {Q : AV → Sto → Prop} (h : ev c ρ e σ fun x σ₁ => opb c truthy x σ₁ fun b σ₂ => br b (evVal c ρ .And (e' :: r) σ₂ Q) (Q x σ₂)) : evVal c ρ .And (e :: e' :: r) σ Q :=
  gv.mono h fun x σ₁ h s a i r => pg.mono (h s a i r) fun b σ₂ h => by cases b; exact h.2 rfl; exact h.1 rfl
theorem es_one {st : Stmt} {Q : AFl → Rho → Sto → Prop} (h : es c ρ (exec st c.env) σ Q) : es c ρ (execs [st] c.env) σ Q :=
  es_cons (es.mono h fun x ρ' σ' q => by cases x <;> first | exact es_nil q | exact q)
noncomputable def thn (c : Cx g) (rest : List Stmt) (Q : AFl → Rho → Sto → Prop) : AFl → Rho → Sto → Prop := fun fl ρ' σ' => match fl with | .next => es c ρ' (execs rest c.env) σ' Q | fl => Q fl ρ' σ'
theorem es_seq {st rest} {Q : AFl → Rho → Sto → Prop} (h : es c ρ (exec st c.env) σ (thn c rest Q)) : es c ρ (execs (st :: rest) c.env) σ Q := es_cons h
theorem thn_next {rest} {Q : AFl → Rho → Sto → Prop} (h : es c ρ (execs rest c.env) σ Q) : thn c rest Q .next ρ σ := h
theorem thn_ret {rest} {x : AV} {Q : AFl → Rho → Sto → Prop} (h : Q (.ret x) ρ σ) : thn c rest Q (.ret x) ρ σ := h
theorem post_ret {Q : AV → Sto → Prop} {x : AV} (h : Q x σ) : fnPost Q (.ret x) ρ σ := h
theorem post_next {Q : AV → Sto → Prop} (h : Q .none σ) : fnPost Q .next ρ σ := h
noncomputable def trn (Q : AFl → Rho → Sto → Prop) (J : Rho → Sto → Prop) : AFl → Rho → Sto → Prop := fun fl ρ' σ' => match fl with
  | .next | .cont => ∃ ρ'', Wk ρ'' ρ' ∧ J ρ'' σ'
  | .brk => Q .next ρ' σ'
  | .ret v => Q (.ret v) ρ' σ'
theorem trn_next {Q : AFl → Rho → Sto → Prop} {J : Rho → Sto → Prop} {ρ'' : Rho} (hw : Wk ρ'' ρ) (h : J ρ'' σ) : trn Q J .next ρ σ := ⟨ρ'', hw, h⟩
theorem es_loop {x : Str} {px : Pos} {iter : Expr} {body : List Stmt} {pos : Pos} {Q : AFl → Rho → Sto → Prop} (J : List AV → Rho → Sto → Prop) (hfn : c.isFn = true)
    (h : ev c ρ iter σ fun y σ₁ => ∃ l, Iter c y l ∧ J l ρ σ₁)
    (turn : ∀ c' : Cx g, c'.A = c.A → c'.sc = c.sc → c'.isFn = true → ∀ y rest ρ₁ σ₁, J (y :: rest) ρ₁ σ₁ → ∃ ρ₂, Upd x y ρ₁ ρ₂ ∧ es c' ρ₂ (execs body c'.env) σ₁ (trn Q (J rest)))
    (done : ∀ ρ₁ σ₁, J [] ρ₁ σ₁ → Q .next ρ₁ σ₁)
    (hs : ∀ x, foldedSetIterable iter c.env x = pure x := by intro _; rfl) : es c ρ (exec (.For (.Name x px) iter body [] pos) c.env) σ Q :=
  es_for J hfn h (fun c' hs y rest ρ₁ σ₁ hJ => turn c' hs.A hs.sc (hs.fn.trans hfn) y rest ρ₁ σ₁ hJ) done hs
theorem upd_ex {x : Str} {y : AV} {ρ₁ ρ₂ : Rho} {P : Rho → Prop} (hu : Upd x y ρ₁ ρ₂) (h : P ρ₂) : ∃ ρ', Upd x y ρ₁ ρ' ∧ P ρ' := ⟨_, hu, h⟩
theorem callee_K {K : Frag} (X : K.In g.H₀) {f : Addr} (ok : fnOk K f = true) : Callee g (.ref f) := by
  unfold fnOk at ok
  split at ok
  · rename_i hl; exact .fn (X _ _ hl) rfl
  · cases ok
theorem ev_callF {K : Frag} {sc : Scope} {id : Str} {p pos : Pos} {e : Expr} {rest : List Expr} {f : Addr} {Q : AV → Sto → Prop} (T : TopG g K) (hsc : c.sc = sc) (hn : nsIn K mainGlobals id = some (some (.ref f))) (hx : sc.names.lookup id = some .globalImplicit) (ok : fnOk K f = true)
    (h : evl c ρ (e :: rest) σ fun xs σ₁ => cal c (.ref f) xs σ₁ Q) (hd : (id == ("__debug__" : Str)) = false := by rfl) (hp : (e :: rest).all noStar = true := by rfl) : ev c ρ (.Call (.Name id p) (e :: rest) [] pos) σ Q :=
  ev_call (T.glob hn hd) (by rw [hsc]; exact hx) (callee_K T.X ok) h hp
theorem ev_callB {K : Frag} {sc : Scope} {id : Str} {p pos : Pos} {e : Expr} {rest : List Expr} {v : Value} {Q : AV → Sto → Prop} (hv : PySem.bootBuiltins id = some v) (hc : Callee g v) (T : TopG g K) (hsc : c.sc = sc) (hn : nsIn K mainGlobals id = some Option.none) (hx : sc.names.lookup id = some .globalImplicit)
    (h : evl c ρ (e :: rest) σ fun xs σ₁ => cal c v xs σ₁ Q) (hn' : id ≠ "__name__" := by decide) (hd : (id == ("__debug__" : Str)) = false := by rfl) (hp : (e :: rest).all noStar = true := by rfl) : ev c ρ (.Call (.Name id p) (e :: rest) [] pos) σ Q :=
  ev_call (T.blt hn hv hn' hd) (by rw [hsc]; exact hx) hc h hp
inductive FrI : Rho → Rho → Prop
  | nil {ρ : Rho} : FrI [] ρ
  | cons {x : Str} {v : AV} {fr ρ : Rho} : MemR x v ρ → FrI fr ρ → FrI ((x, some v) :: fr) ρ
theorem FrI.frIn {fr ρ : Rho} (h : FrI fr ρ) : FrIn fr ρ := by
  induction h with
  | nil => intro p hp; cases hp
  | cons hm _ ih =>
    intro p hp
    rcases List.mem_cons.mp hp with rfl | hp
    · exact ⟨List.mem_map.mpr ⟨_, hm.mem, rfl⟩, fun v' e => by injection e with e; subst e; exact hm.mem⟩
    · exact ih p hp
theorem ev_map {sc : Scope} {elt iter : Expr} {x : Str} {px pos : Pos} {scope : Scope} {Q : AV → Sto → Prop} (fr : Rho) (J : List AV → List AV → Sto → Prop) (hsc : c.sc = sc) (hok : compOk x (fr.map (·.1)) scope sc = true) (hfr : FrI fr ρ)
    (h : ev c ρ iter σ fun y σ₁ => ∃ l, Iter c y l ∧ l.length ≤ sizeLine ∧ J l [] σ₁)
    (turn : ∀ c' : Cx g, c'.A = c.A → c'.sc = relab scope sc → ∀ y rest acc σ₁, J (y :: rest) acc σ₁ → ev c' ((x, some y) :: fr) elt σ₁ fun z σ₃ => J rest (acc ++ [z]) σ₃)
    (done : ∀ acc σ₁, J [] acc σ₁ → Q (.list acc) σ₁)
    (hs : ∀ x, foldedSetIterable iter c.env x = pure x := by intro _; rfl) : ev c ρ (.ListComp elt [⟨.Name x px, iter, [], 0⟩] scope pos) σ Q := by
  subst hsc
  exact ev_comp (t := Option.none) J hok hfr.frIn h (fun c' hA hS y rest acc σ₁ hJ => turn c' hA hS y rest acc σ₁ hJ) done hs
theorem ev_filt {sc : Scope} {elt iter test : Expr} {x : Str} {px pos : Pos} {scope : Scope} {Q : AV → Sto → Prop} (fr : Rho) (J : List AV → List AV → Sto → Prop) (hsc : c.sc = sc) (hok : compOk x (fr.map (·.1)) scope sc = true) (hfr : FrI fr ρ)
    (h : ev c ρ iter σ fun y σ₁ => ∃ l, Iter c y l ∧ l.length ≤ sizeLine ∧ J l [] σ₁)
    (turn : ∀ c' : Cx g, c'.A = c.A → c'.sc = relab scope sc → ∀ y rest acc σ₁, J (y :: rest) acc σ₁ → evb c' ((x, some y) :: fr) test σ₁ fun b σ₂ => br b (ev c' ((x, some y) :: fr) elt σ₂ fun z σ₃ => J rest (acc ++ [z]) σ₃) (J rest acc σ₂))
    (done : ∀ acc σ₁, J [] acc σ₁ → Q (.list acc) σ₁)
    (hs : ∀ x, foldedSetIterable iter c.env x = pure x := by intro _; rfl) : ev c ρ (.ListComp elt [⟨.Name x px, iter, [test], 0⟩] scope pos) σ Q := by
  subst hsc
  exact ev_comp (t := some test) J hok hfr.frIn h (fun c' hA hS y rest acc σ₁ hJ => gv.mono (turn c' hA hS y rest acc σ₁ hJ) fun b σ₂ h => by cases b; exact h.2 rfl; exact h.1 rfl) done hs
theorem es_map {sc : Scope} {elt iter : Expr} {x y : Str} {px py pos spos : Pos} {scope : Scope} {Q : AFl → Rho → Sto → Prop} (fr : Rho) (J : List AV → List AV → Sto → Prop) (hfn : c.isFn = true) (hsc : c.sc = sc) (hsw : swOk y py pos scope sc = true) (hok : compOk x (fr.map (·.1)) scope sc = true) (hfr : FrI fr ρ)
    (h : ev c ρ iter σ fun y σ₁ => ∃ l, Iter c y l ∧ l.length ≤ sizeLine ∧ J l [] σ₁)
    (turn : ∀ c' : Cx g, c'.A = c.A → c'.sc = relab scope sc → ∀ y rest acc σ₁, J (y :: rest) acc σ₁ → ev c' ((x, some y) :: fr) elt σ₁ fun z σ₃ => J rest (acc ++ [z]) σ₃)
    (done : ∀ acc σ₁, J [] acc σ₁ → Made (fun z σ₂ => ∃ ρ', Upd y z ρ ρ' ∧ Q .next ρ' σ₂) acc σ₁)
    (hs : ∀ x, foldedSetIterable iter c.env x = pure x := by intro _; rfl) : es c ρ (exec (.Assign [.Name y py] (.ListComp elt [⟨.Name x px, iter, [], 0⟩] scope pos) spos) c.env) σ Q := by
  subst hsc
  exact es_comp (t := Option.none) J hfn hsw hok hfr.frIn h (fun c' hA hS y rest acc σ₁ hJ => turn c' hA hS y rest acc σ₁ hJ) done hs
theorem es_filt {sc : Scope} {elt iter test : Expr} {x y : Str} {px py pos spos : Pos} {scope : Scope} {Q : AFl → Rho → Sto → Prop} (fr : Rho) (J : List AV → List AV → Sto → Prop) (hfn : c.isFn = true) (hsc : c.sc = sc) (hsw : swOk y py pos scope sc = true) (hok : compOk x (fr.map (·.1)) scope sc = true) (hfr : FrI fr ρ)
    (h : ev c ρ iter σ fun y σ₁ => ∃ l, Iter c y l ∧ l.length ≤ sizeLine ∧ J l [] σ₁)
    (turn : ∀ c' : Cx g, c'.A = c.A → c'.sc = relab scope sc → ∀ y rest acc σ₁, J (y :: rest) acc σ₁ → evb c' ((x, some y) :: fr) test σ₁ fun b σ₂ => br b (ev c' ((x, some y) :: fr) elt σ₂ fun z σ₃ => J rest (acc ++ [z]) σ₃) (J rest acc σ₂))
    (done : ∀ acc σ₁, J [] acc σ₁ → Made (fun z σ₂ => ∃ ρ', Upd y z ρ ρ' ∧ Q .next ρ' σ₂) acc σ₁)
    (hs : ∀ x, foldedSetIterable iter c.env x = pure x := by intro _; rfl) : es c ρ (exec (.Assign [.Name y py] (.ListComp elt [⟨.Name x px, iter, [test], 0⟩] scope pos) spos) c.env) σ Q := by
  subst hsc
  exact es_comp (t := some test) J hfn hsw hok hfr.frIn h (fun c' hA hS y rest acc σ₁ hJ => gv.mono (turn c' hA hS y rest acc σ₁ hJ) fun b σ₂ h => by cases b; exact h.2 rfl; exact h.1 rfl) done hs
theorem made_frz {P : Rho → Sto → Prop} {y : Str} {l : List AV} {ρ : Rho} (h : ∃ ρ', Upd y (.list l) ρ ρ' ∧ P ρ' σ) : Made (fun z σ₂ => ∃ ρ', Upd y z ρ ρ' ∧ P ρ' σ₂) l σ := .inl h
theorem evO_none {Q : Option Int → Sto → Prop} (h : Q Option.none σ) : evO c ρ Option.none σ Q := h
theorem evO_some {e : Expr} {Q : Option Int → Sto → Prop} (h : ev c ρ e σ fun x σ₁ => ∃ i, x = .int i ∧ Q (some i) σ₁) : evO c ρ (some e) σ Q := h
theorem int_ex {i : Int} {P : Int → Prop} (h : P i) : ∃ j, AV.int i = .int j ∧ P j := ⟨i, rfl, h⟩
noncomputable def jn (M : Rho → Sto → Prop) : AFl → Rho → Sto → Prop := fun fl ρ' σ' => match fl with
  | .next => ∃ ρ'', Wk ρ'' ρ' ∧ M ρ'' σ'
  | _ => False
theorem jn_next {M : Rho → Sto → Prop} {ρ'' : Rho} (hw : Wk ρ'' ρ) (h : M ρ'' σ) : jn M .next ρ σ := ⟨ρ'', hw, h⟩
theorem es.wk {ρ' : Rho} {t : Sem Flow} {Q : AFl → Rho → Sto → Prop} (hw : Wk ρ ρ') (h : es c ρ t σ Q) : es c ρ' t σ Q := fun s hs => h s (hs.wk hw)
theorem es_join {t : Sem Flow} {rest : List Stmt} {Q : AFl → Rho → Sto → Prop} (M : Rho → Sto → Prop) (h1 : es c ρ t σ (jn M)) (h2 : ∀ ρ' σ', M ρ' σ' → es c ρ' (execs rest c.env) σ' Q) : es c ρ t σ (thn c rest Q) :=
  es.mono h1 fun fl ρ' σ' q => by
    cases fl with
    | next => obtain ⟨ρ'', hw, hm⟩ := q; exact (h2 ρ'' σ' hm).wk hw
    | brk => exact q.elim
    | cont => exact q.elim
    | ret _ => exact q.elim
end Mine

end

section
namespace Mine
open PySem PySem.W

theorem topG_of {p prog : Program} {w : World} {loose : List Str} {mean : ExcName → Option Value} {mg mb : Str → Option Value} {h : Heap} {K : Frag} (T : PyProof.Rows.Top p loose mean mg mb h) (X : K.In h) : TopG ⟨prog, w, h⟩ K :=
  ⟨X, T.nolimit, mg, mb, T.g, T.b, fun x v e => mg_of X T.g e, fun x v e hb hn => ⟨mg_none_of X T.g e, (T.builtins x hn).trans hb⟩⟩

noncomputable def σ₀ : Sto := fun _ => none
theorem wellAll_ints {P : Params} {h : Heap} {w : World} {F : Fz} {ns : List Int} : ∀ {vs : List Value}, WellAll P h vs ((ns.map PyData.int).map ofPy) → RepL w F vs (ns.map AV.int) := by
  induction ns with
  | nil => intro vs r; cases r; exact .nil
  | cons n ns ih =>
    intro vs r
    rw [List.map_cons, List.map_cons, show ofPy (PyData.int n) = WData.int n from rfl] at r
    cases r with
    | cons a b =>
      cases a with
      | int _ t => exact .cons (.int n t) (ih b)

theorem fz_none {h : Heap} {b : Addr} {o : Obj} : fz h [] σ₀ b = some o ↔ h.get? b = some o := by
  simp [fz, σ₀]

theorem law_end {prog : Program} {w : World} {s₁ : Shared} {fa l : Addr} {ns : List Int} {cl : ClaimW} {ca : Str → Option Addr} {mean : ExcName → Option Value} {args : List WData}
    (w1 : Well w.params s₁.heap (.ref l) (ofPy (.list (ns.map .int)))) (hg : s₁.gens = #[]) (hn : ∀ k, cl.raises args k = false) (hp : cl.post args (.bool true) args = true)
    (spec : ∀ (c : Cx ⟨prog, w, s₁.heap⟩), c.A = callerA → cal c (.ref fa) [.list (ns.map .int)] σ₀ (fun x _ => x = .bool true)) :
    wpAny (model prog w) callerA (call (.ref fa) [.ref l]) (fun v s' => GoodWG cl ca mean args s₁ (.ok (.ret v)) s') (fun e s' => GoodWG cl ca mean args s₁ (.error e) s') s₁ := by
  have i0 : Inv w s₁.heap [] σ₀ s₁ := ⟨fun b o h => fz_none.2 h, (fun a x h => by cases h), (fun a h => by cases h), (fun a h => by cases h)⟩
  have r0 : Rep w (fz s₁.heap [] σ₀) (.ref l) (.list (ns.map .int)) := by
    unfold ofPy at w1
    cases w1 with
    | list h1 h2 => 
      refine .list (n := 0) (fz_none.2 h1) (wellAll_ints (P := w.params) (h := s₁.heap) ?_)
      rw [← ofPys_eq]; exact h2
  have := spec ⟨callerA, default, [], [], fun _ _ => False, default, true⟩ rfl s₁ [.ref l] i0 (.cons r0 .nil)
  refine wpAny_mono this ?_ (fun _ _ h => h.elim)
  rintro v s' ⟨x, σ', i, e, r, rfl⟩
  cases r
  obtain ⟨h', tk, rfl⟩ := e.same
  refine ⟨.inl ⟨_, _, [], rfl, hn, .bool _, hp, fun _ => ⟨List.nodup_nil, fun _ h => by cases h⟩⟩, .of_keep fun b o h => ?_, rfl, .of_eq hg⟩
  have := e.grow b o (fz_none.2 h)
  exact (fz_eq.1 this).2.2
end Mine

end

section
namespace Mine
open PySem

mutual
noncomputable def dr : AV → Nat
  | .tup l => drs l + 1
  | _ => 1
noncomputable def drs : List AV → Nat
  | [] => 0
  | x :: r => dr x + drs r
end
noncomputable def tkey : AV → Bool
  | .tup l => areKeys l && decide (deepL l ≤ 1)
  | _ => false
mutual
theorem isKey_plain : ∀ {x : AV}, isKey x = true → plain x = true
  | .int _, _ => rfl
  | .str _, _ => rfl
  | .tup l, h => areKeys_plain h
  | .none, h => by cases h
  | .bool _, h => by cases h
  | .list _, h => by cases h
  | .dict _, h => by cases h
  | .rng _ _, h => by cases h
  | .obj _, h => by cases h
  | .raw _, h => by cases h
theorem areKeys_plain : ∀ {l : List AV}, areKeys l = true → plainL l = true
  | [], _ => rfl
  | x :: r, h => by
    unfold areKeys at h
    rw [Bool.and_eq_true] at h
    unfold plainL
    rw [isKey_plain h.1, areKeys_plain h.2]; rfl
end
mutual
theorem key_eq : ∀ {x y : AV}, isKey x = true → isKey y = true → eqA x y = true → x = y
  | .int a, y, _, h, e => by
    cases y with
    | int b => rw [show a = b from beq_iff_eq.mp (show (a == b) = true from e)]
    | bool b => cases h
    | none => cases h
    | _ => exact absurd e Bool.false_ne_true
  | .str a, y, _, h, e => by
    cases y with
    | str b => rw [show a = b from beq_iff_eq.mp (show (a == b) = true from e)]
    | _ => exact absurd e Bool.false_ne_true
  | .tup l, y, h, h', e => by
    cases y with
    | tup m => rw [keys_eq h h' e]
    | _ => exact absurd e Bool.false_ne_true
  | .none, _, h, _, _ => by cases h
  | .bool _, _, h, _, _ => by cases h
  | .list _, _, h, _, _ => by cases h
  | .dict _, _, h, _, _ => by cases h
  | .rng _ _, _, h, _, _ => by cases h
  | .obj _, _, h, _, _ => by cases h
  | .raw _, _, h, _, _ => by cases h
theorem keys_eq : ∀ {l m : List AV}, areKeys l = true → areKeys m = true → eqL l m = true → l = m
  | [], [], _, _, _ => rfl
  | [], _ :: _, _, _, e => absurd e Bool.false_ne_true
  | _ :: _, [], _, _, e => absurd e Bool.false_ne_true
  | x :: r, y :: t, h, h', e => by
    unfold areKeys at h h'
    replace e : (eqA x y && eqL r t) = true := e
    rw [Bool.and_eq_true] at h h' e
    rw [key_eq h.1 h'.1 e.1, keys_eq h.2 h'.2 e.2]
end
open scoped Classical
theorem eqA_key {x y : AV} (hx : isKey x = true) (hy : isKey y = true) : eqA x y = decide (x = y) := by
  by_cases e : x = y
  · subst e; rw [eqA_refl (isKey_plain hx)]; simp
  · cases h : eqA x y with
    | false => simp [e]
    | true => exact absurd (key_eq hx hy h) e

theorem Rep.stays {w : World} {h h' : Heap} {d : Addr} {o : Obj} {es ep} (ho : h.get? d = some o) (hd : o.data = .dict es ep) (hs : Heap.SameBut d h h') {v : Value} {x : AV} (r : Rep w h.get? v x) (k : isKey x = true) : Rep w h'.get? v x := by
  refine Rep.rec (motive_1 := fun v x _ => isKey x = true → Rep w h'.get? v x) (motive_2 := fun vs l _ => areKeys l = true → RepL w h'.get? vs l) (motive_3 := fun _ _ _ => True)
    (fun k => by cases k) (fun _ k => by cases k) (fun i t _ => .int i t) (fun i t _ => .str i t) ?_ (fun _ _ _ k => by cases k) (fun _ _ _ _ k => by cases k) (fun _ k => by cases k) (fun _ k => by cases k) (fun _ k => by cases k) (fun _ => .nil) ?_ trivial (fun _ _ _ _ _ _ _ => trivial) r k
  · intro a vs n l e _ ih k
    refine .tup (n := n) ?_ (ih k)
    rw [hs.2 a]; exact e
    rintro rfl
    rw [ho] at e
    injection e with e
    rw [e] at hd
    cases hd
  · intro v vs x l _ _ i1 i2 k
    replace k : (isKey x && areKeys l) = true := k
    rw [Bool.and_eq_true] at k
    exact .cons (i1 k.1) (i2 k.2)

theorem Rep.key {w : World} {F : Fz} {v : Value} {x : AV} (r : Rep w F v x) (k : isKey x = true) : (∃ i t, v = .int i t ∧ x = .int i) ∨ (∃ y t, v = .str y t ∧ x = .str y) ∨ ∃ a vs m l, v = .ref a ∧ x = .tup l ∧ F a = some (tupO vs m) ∧ RepL w F vs l := by
  cases x with
  | int i => obtain ⟨t, rfl⟩ := r.invInt; exact .inl ⟨i, t, rfl, rfl⟩
  | str y => obtain ⟨t, rfl⟩ := r.invStr; exact .inr (.inl ⟨y, t, rfl, rfl⟩)
  | tup l => obtain ⟨a, vs, m, rfl, h, hl⟩ := r.invTup; exact .inr (.inr ⟨a, vs, m, l, rfl, rfl, h, hl⟩)
  | _ => cases k
theorem hashes {prog : Program} {w : World} : ∀ (n : Nat) {A : Around} {E : Value → Shared → Prop} {s : Shared} {v : Value} {x : AV} {Q : Int → Shared → Prop}, deep x ≤ n → isKey x = true → Rep w s.heap.get? v x → A.units + n < cLine →
    Q (hK w x) { s with toks := s.toks + dr x } → wpAny (model prog w) A (pyHash v) Q E s := by
  intro n
  induction n with
  | zero =>
    intro A E s v x Q hd hk r hu h
    rcases r.key hk with ⟨i, t, rfl, rfl⟩ | ⟨x, t, rfl, rfl⟩ | ⟨a, vs, m, l, rfl, rfl, ho, hl⟩
    · exact wpAny_pyHash_int h
    · exact wpAny_pyHash_str h
    · unfold deep at hd; exact absurd hd (Nat.not_succ_le_zero _)
  | succ n ih =>
    intro A E s v x Q hd hk r hu h
    rcases r.key hk with ⟨i, t, rfl, rfl⟩ | ⟨x, t, rfl, rfl⟩ | ⟨a, vs, m, l, rfl, rfl, ho, hl⟩
    · exact wpAny_pyHash_int h
    · exact wpAny_pyHash_str h
    · have hdl : deepL l ≤ n := by unfold deep at hd; omega
      have hk' : areKeys l = true := hk
      have hT : s.TypeIs (.ref a) "tuple" := ⟨_, ho, rfl⟩
      unfold pyHash
      first | unfold pyHashByItsType | skip
      first | refine wpAny_bind (wpAny_cRoomFor_or (.inr (by omega)) ?_) | skip
      refine wpAny_bind (wpAny_specialOf hT F.slot_tuple_hash.lookup ?_)
      show wpAny _ _ (if (some (Value.builtin "tuple.__hash__") == some Value.none) = true then _ else _) Q E s
      rw [if_neg (by rw [beq_builtin_none]; exact Bool.false_ne_true)]
      refine wpAny_bind (wpAny_specialOf hT F.slot_tuple_hash.lookup ?_)
      show wpAny _ _ (callSpecialIfBoundUnlessNone? (.ref a) "__hash__" _ >>= _) Q E s
      refine wpAny_bind (wpAny_callSpecialIfBoundUnlessNone?_slot hT F.slot_tuple_hash (wpAny_call_entry F.slot_tuple_hash hT F.entry_tuple_hash ?_ (F.args_tuple_hash_1 _)))
      show wpAny _ _ (Builtin.Tuple.tupleItemsOf (.ref a) >>= _) _ _ s
      refine wpAny_bind (wpAny_tupleItemsOf ho rfl ?_)
      refine wpAny_bind ?_
      rw [← Array.forIn_toList]
      refine wpAny_forIn_list _
        (fun rest (b : Array Int) s' => ∃ t left, RepL w s.heap.get? rest left ∧ areKeys left = true ∧ deepL left ≤ n ∧ b.toList ++ hKs w left = hKs w l ∧ t + drs left = drs l ∧ s' = { s with toks := s.toks + t })
        _ ?_ ?_ _ _ ⟨0, l, hl, hk', hdl, rfl, by omega, rfl⟩
      · rintro x rest b s' ⟨t, left, hl, hk, hdl, hb, ht, rfl⟩
        cases hl with
        | @cons _ _ k ks h1 hl' =>
          unfold areKeys at hk
          rw [Bool.and_eq_true] at hk
          unfold deepL at hdl
          refine wpAny_bind (ih (s := { s with toks := s.toks + t }) (by omega) hk.1 h1 (by show A.units + 1 + n < cLine; omega) ?_)
          rw [show hKs w (k :: ks) = hK w k :: hKs w ks from rfl] at hb
          rw [show drs (k :: ks) = dr k + drs ks from rfl] at ht
          first
            | exact wpAny_pure ⟨t + dr k, ks, hl', hk.2, by omega, by simpa using hb, by omega, by simp [Nat.add_assoc]⟩
            | exact wpAny_bind (wpAny_pure (wpAny_pure ⟨t + dr k, ks, hl', hk.2, by omega, by simpa using hb, by omega, by simp [Nat.add_assoc]⟩))
      · rintro b s' ⟨t, left, hl, hk, hdl, hb, ht, rfl⟩
        cases hl
        rw [show hKs w [] = [] from rfl, List.append_nil] at hb
        rw [show drs [] = 0 from rfl] at ht
        show wpAny _ _ (retInt (Builtin.Tuple.tupleHashOf b.toList)) _ _ _
        rw [hb]
        refine wpAny_ret_mkInt ?_
        show wpAny _ _ (if (decide (-(2 : Int) ^ 63 ≤ Builtin.Tuple.tupleHashOf (hKs w l)) && decide (Builtin.Tuple.tupleHashOf (hKs w l) < 2 ^ 63)) = true then _ else _) Q E _
        unfold hK reduceHash dr at h
        have et : t = drs l := by omega
        subst et
        by_cases hr : (decide (-(2 : Int) ^ 63 ≤ Builtin.Tuple.tupleHashOf (hKs w l)) && decide (Builtin.Tuple.tupleHashOf (hKs w l) < 2 ^ 63)) = true
        · rw [if_pos hr]
          rw [if_pos hr] at h
          exact wpAny_pure (by simpa [Nat.add_assoc] using h)
        · rw [if_neg hr]
          rw [if_neg hr] at h
          exact wpAny_bind (wpAny_rule (wpAny_pure (by simpa [Nat.add_assoc] using h)))

theorem quiets {prog : Program} {w : World} : ∀ (n : Nat) {A : Around} {E : Value → Shared → Prop} {s : Shared} {v : Value} {x : AV} {Q : Bool → Shared → Prop}, deep x ≤ n → isKey x = true → Rep w s.heap.get? v x →
    Q true s → wpAny (model prog w) A (eqIsQuiet n v) Q E s := by
  intro n
  induction n with
  | zero =>
    intro A E s v x Q hd hk r h
    rcases r.key hk with ⟨i, t, rfl, rfl⟩ | ⟨x, t, rfl, rfl⟩ | ⟨a, vs, m, l, rfl, rfl, ho, hl⟩
    · rw [eqIsQuiet_byValue _ rfl]; exact wpAny_pure h
    · rw [eqIsQuiet_byValue _ rfl]; exact wpAny_pure h
    · unfold deep at hd; exact absurd hd (Nat.not_succ_le_zero _)
  | succ n ih =>
    intro A E s v x Q hd hk r h
    rcases r.key hk with ⟨i, t, rfl, rfl⟩ | ⟨x, t, rfl, rfl⟩ | ⟨a, vs, m, l, rfl, rfl, ho, hl⟩
    · rw [eqIsQuiet_byValue _ rfl]; exact wpAny_pure h
    · rw [eqIsQuiet_byValue _ rfl]; exact wpAny_pure h
    · have hdl : deepL l ≤ n := by unfold deep at hd; omega
      have hk' : areKeys l = true := hk
      have hT : s.TypeIs (.ref a) "tuple" := ⟨_, ho, rfl⟩
      unfold eqIsQuiet
      refine wpAny_bind (wpAny_specialOf hT F.slot_tuple_eq.lookup ?_)
      show wpAny _ _ (isInstance (.ref a) (.type "tuple") >>= _) _ _ s
      refine wpAny_bind (wpAny_isInstance hT isSubtype_tuple_tuple ?_)
      simp only [Bool.not_true, Bool.false_eq_true, if_false]
      refine wpAny_bind (wpAny_seqItems ho rfl ?_)
      refine wpAny_bind ?_
      show wpAny _ _ (forIn vs.toArray _ _) _ _ s
      rw [← Array.forIn_toList]
      refine wpAny_forIn_list _ (fun rest r s' => r.1 = none ∧ s' = s ∧ ∃ left, RepL w s.heap.get? rest left ∧ areKeys left = true ∧ deepL left ≤ n) _ ?_ ?_ _ _ ⟨rfl, rfl, l, hl, hk', hdl⟩
      · rintro v rest r s' ⟨hr, rfl, left, hl, hk, hdl⟩
        cases hl with
        | @cons _ _ k ks h1 hl' =>
          unfold areKeys at hk
          rw [Bool.and_eq_true] at hk
          unfold deepL at hdl
          refine wpAny_bind (ih (by omega) hk.1 h1 ?_)
          simp only [Bool.not_true, Bool.false_eq_true, if_false]
          exact wpAny_pure ⟨rfl, rfl, ks, hl', hk.2, by omega⟩
      · rintro ⟨r1, r2⟩ s' ⟨hr, rfl, _⟩
        simp only at hr
        subst hr
        exact wpAny_pure h

theorem tkey_isKey {x : AV} (h : tkey x = true) : isKey x = true := by
  cases x with
  | tup l => unfold tkey at h; rw [Bool.and_eq_true] at h; exact h.1
  | _ => cases h
theorem tkey_deep {x : AV} (h : tkey x = true) : deep x ≤ 2 := by
  cases x with
  | tup l => unfold tkey at h; rw [Bool.and_eq_true] at h; have := of_decide_eq_true h.2; unfold Mine.deep; omega
  | _ => cases h

noncomputable def kd (prog : Program) (w : World) : HeapKind prog w AV where
  is := fun h x a => tkey x = true ∧ Rep w h.get? (.ref a) x
  hash := hK w
  draws := dr
  room := fun A => A.units + 2 < cLine
  inj := fun hx hy => Rep.inj hx.2 (isKey_plain (tkey_isKey hx.1)) hy.2 (isKey_plain (tkey_isKey hy.1))
  keeps := fun x ho hd hs => ⟨x.1, x.2.stays ho hd hs (tkey_isKey x.1)⟩
  pyHash := fun hu hk h => hashes 2 (tkey_deep hk.1) (tkey_isKey hk.1) hk.2 hu h
  eqBool := fun hu hx hy h => by
    rw [← eqA_key (tkey_isKey hx.1) (tkey_isKey hy.1)] at h
    exact eqAt 2 (tkey_deep hx.1) hx.2 hy.2 (isKey_plain (tkey_isKey hx.1)) (isKey_plain (tkey_isKey hy.1)) (fun _ _ e => e) hu _ _ _ _ h
  quiet := fun hk h => quiets 8 (Nat.le_trans (tkey_deep hk.1) (by decide)) (tkey_isKey hk.1) hk.2 h
end Mine

end

section
namespace Mine
open PySem
open scoped Classical

section
variable {prog : Program} {w : World} {A : Around} {E : Value → Shared → Prop} {s : Shared}
theorem raw_iter {d : Addr} {es : Array DictEntry} {ep : Nat} {o : Obj} {Q : Value → Shared → Prop} (hd : (d == sysModules) = false) (ho : s.heap.get? d = some o) (hc : o.cls = .type "dict") (hdat : o.data = .dict es ep)
    (hQ : Q (.ref s.heap.objs.size) { s with heap := s.heap.push { cls := .type "dict_keyiterator", data := .fields #[.ref d, .int 0 0, .int es.size 0, .int ep 0] } }) : wpAny (model prog w) A (pyIter (.ref d)) Q E s := by
  have hT : s.TypeIs (.ref d) "dict" := ⟨o, ho, hc⟩
  refine wpAny_pyIter_slot hT F.slot_dict_iter (wpAny_call_entry F.slot_dict_iter hT F.entry_dict_iter ?_ (F.args_dict_iter_1 _))
  unfold Builtin.«dict.__iter__»
  refine wpAny_bind ?_
  unfold Builtin.Dict.dictSlotNone
  refine wpAny_bind (wpAny_notOrdered_dict hT ?_)
  show wpAny _ _ (pure (Value.ref d)) _ _ s
  refine wpAny_pure ?_
  show wpAny _ _ (Builtin.Dict.showsAll d >>= _) _ _ s
  unfold Builtin.Dict.showsAll
  rw [if_neg (by rw [hd]; exact Bool.false_ne_true)]
  refine wpAny_bind (wpAny_pure ?_)
  refine wpAny_bind (wpAny_dictEntries ho hdat ?_)
  refine wpAny_bind (wpAny_dictEpoch ho hdat ?_)
  refine wpAny_bind (wpAny_newObj_type (wpAny_pure ⟨_, rfl, "dict_keyiterator", _, ⟨_, Heap.get?_push_size _ rfl, rfl⟩, F.slot_dict_keyiterator_next.lookup, ?_⟩))
  simpa [rawInt] using hQ

theorem raw_item {it d : Addr} {i ep : Nat} {es : Array DictEntry} {od : Obj} {Q : Option Value → Shared → Prop} (hit : s.heap.IsKeyIter it d i es.size ep) (hod : s.heap.get? d = some od) (hdd : od.data = .dict es ep) (hlt : i < es.size)
    (hQ : ∀ h', h'.IsKeyIter it d (i + 1) es.size ep → Heap.SameBut it s.heap h' → Q (some es[i].key) { s with heap := h' }) : wpAny (model prog w) A (pyNext (.ref it)) Q E s := by
  obtain ⟨o, ho, hc, hd⟩ := id hit
  unfold pyNext
  refine wpAny_bind (wpAny_attempt (wpAny_callSpecial?_slot (name := Str.ofString "__next__") hit.typeIs F.slot_dict_keyiterator_next
    (wpAny_call_entry F.slot_dict_keyiterator_next hit.typeIs F.entry_dict_keyiterator_next ?_ (F.args_dict_keyiterator_next_1 _))))
  refine wpAny_bind (wpAny_pure ?_)
  refine wpAny_bind ?_
  refine wpAny_bind ?_
  first | refine wpAny_bind (wpAny_typeNameOfWhole_keyiter hit.typeIs (wpAny_pure ?_)) | refine wpAny_bind (wpAny_typeNameOf_keyiter hit.typeIs (wpAny_pure ?_))
  refine wpAny_bind (wpAny_fieldsOf ho hd ?_)
  have hown : Builtin.Dict_items.ownsTuple "dict_keyiterator" = false := by decide
  simp only [hown, Bool.false_eq_true, if_false]
  show wpAny _ _ (if (Value.ref d == Value.none) = true then _ else _) _ _ s
  rw [if_neg (show ¬ ((Value.ref d == Value.none) = true) from Bool.false_ne_true)]
  refine wpAny_bind (wpAny_pure ?_)
  refine wpAny_bind (wpAny_dictEntries hod hdd ?_)
  rw [if_neg (by simp)]
  refine wpAny_bind (wpAny_pure ?_)
  refine wpAny_bind (wpAny_dictEpoch hod hdd ?_)
  rw [if_neg (by simp)]
  refine wpAny_pure ?_
  simp only [show ¬ ((i : Int) < 0) from by omega, if_false, Int.toNat_natCast, Array.getElem?_eq_getElem hlt]
  refine wpAny_bind ?_
  first | refine wpAny_bind (wpAny_typeNameOfWhole_keyiter hit.typeIs (wpAny_pure ?_)) | refine wpAny_bind (wpAny_typeNameOf_keyiter hit.typeIs (wpAny_pure ?_))
  refine wpAny_bind (wpAny_isOneOf_keyiter hit.typeIs ?_)
  show wpAny _ _ (setField (.ref it) 1 (rawInt ((i : Int) + 1)) >>= _) _ _ s
  refine wpAny_bind (wpAny_setField ho hd (by simp) ?_)
  have hit' : (s.heap.update it (Obj.mapFields (·.setIfInBounds 1 (rawInt ((i : Int) + 1))))).IsKeyIter it d (i + 1) es.size ep :=
    ⟨_, Heap.get?_update_self _ ho (Obj.isFreed_of_fields (Obj.data_mapFields hd _)), (Obj.cls_mapFields ..).trans hc, by rw [Obj.data_mapFields hd]; simp [rawInt]⟩
  refine wpAny_bind (wpAny_holding ?_)
  refine wpAny_bind (wpAny_isOneOf_keyiter (s := { s with heap := s.heap.update it (Obj.mapFields (·.setIfInBounds 1 (rawInt ((i : Int) + 1)))) }) hit'.typeIs ?_)
  show wpAny _ _ (pure es[i].key) _ _ _
  exact wpAny_pure (wpAny_pure ⟨_, rfl, wpAny_pure (hQ _ hit' (Heap.SameBut.update ..))⟩)

theorem raw_end {it d : Addr} {i ep : Nat} {es : Array DictEntry} {od : Obj} {Q : Option Value → Shared → Prop} (hh : A.handled = none) (hit : s.heap.IsKeyIter it d i es.size ep) (hod : s.heap.get? d = some od) (hdd : od.data = .dict es ep) (hge : es.size ≤ i)
    (hQ : ∀ h', Heap.ExtBut it s.heap h' → Q none { s with heap := h' }) : wpAny (model prog w) A (pyNext (.ref it)) Q E s := by
  obtain ⟨o, ho, hc, hd⟩ := id hit
  unfold pyNext
  refine wpAny_bind (wpAny_attempt (wpAny_callSpecial?_slot (name := Str.ofString "__next__") hit.typeIs F.slot_dict_keyiterator_next
    (wpAny_call_entry F.slot_dict_keyiterator_next hit.typeIs F.entry_dict_keyiterator_next ?_ (F.args_dict_keyiterator_next_1 _))))
  refine wpAny_bind (wpAny_pure ?_)
  refine wpAny_bind ?_
  refine wpAny_bind ?_
  first | refine wpAny_bind (wpAny_typeNameOfWhole_keyiter hit.typeIs (wpAny_pure ?_)) | refine wpAny_bind (wpAny_typeNameOf_keyiter hit.typeIs (wpAny_pure ?_))
  refine wpAny_bind (wpAny_fieldsOf ho hd ?_)
  have hown : Builtin.Dict_items.ownsTuple "dict_keyiterator" = false := by decide
  simp only [hown, Bool.false_eq_true, if_false]
  show wpAny _ _ (if (Value.ref d == Value.none) = true then _ else _) _ _ s
  rw [if_neg (show ¬ ((Value.ref d == Value.none) = true) from Bool.false_ne_true)]
  refine wpAny_bind (wpAny_pure ?_)
  refine wpAny_bind (wpAny_dictEntries hod hdd ?_)
  rw [if_neg (by simp)]
  refine wpAny_bind (wpAny_pure ?_)
  refine wpAny_bind (wpAny_dictEpoch hod hdd ?_)
  rw [if_neg (by simp)]
  refine wpAny_pure ?_
  simp only [show ¬ ((i : Int) < 0) from by omega, if_false, Int.toNat_natCast, Array.getElem?_eq_none hge]
  refine wpAny_bind ?_
  first | refine wpAny_bind (wpAny_typeNameOfWhole_keyiter hit.typeIs (wpAny_pure ?_)) | refine wpAny_bind (wpAny_typeNameOf_keyiter hit.typeIs (wpAny_pure ?_))
  show wpAny _ _ (setField (.ref it) 0 .none >>= _) _ _ s
  refine wpAny_bind (wpAny_setField ho hd (by simp) ?_)
  show wpAny _ _ (newExc (.type "StopIteration") [] >>= _) _ _ _
  refine wpAny_bind ?_
  simp only [newExc, newTuple]
  refine wpAny_bind (wpAny_newObj_type ?_ (by size_fits))
  refine wpAny_bind (m := firstArgMember _ _) (wpAny_of_eq (a := Value.none) (by first | rfl | (simp only [firstArgMember]; rfl)) ?_)
  refine wpAny_newObj_type ?_ (by size_fits)
  simp only [raiseNew]
  refine wpAny_bind (wpAny_handled ?_)
  rw [show A.in1.handled = none from hh]
  refine wpAny_bind (wpAny_pure (wpAny_throw ?_))
  refine wpAny_bind (wpAny_isInstance (T := "StopIteration") (b := true) ⟨_, Heap.get?_push_size _ rfl, rfl⟩ isSubtype_stop ?_)
  exact wpAny_pure (hQ _ (((Heap.SameBut.update ..).extBut.push _).push _))

theorem raw_walks (hh : A.handled = none) (I d : Addr) (hne : d ≠ I) (es : List DictEntry) (ep : Nat) :
    Walks prog w A I [I, d] [I] es.length (fun i v => (es[i]?).map (·.key) = some v) (fun i h => h.IsKeyIter I d i es.toArray.size ep ∧ h.get? d = some (dctO es ep)) where
  sub := fun b hb => by simp at hb; simp [hb]
  frame := fun _ _ _ st hk => ⟨st.1.at fun o e => hk I (by simp) o e, hk d (by simp) _ st.2⟩
  item := fun i s Q E hi st hQ => by
    refine raw_item st.1 st.2 rfl (by simpa using hi) fun h' hit' hs' => ?_
    exact hQ _ h' s.toks (by simp [hi]) ⟨hit', (hs'.2 d hne).trans st.2⟩ fun b o hb e => hs'.extBut b o (fun h => hb (by simp [h])) e
  done := fun s Q E st hQ => raw_end hh st.1 st.2 rfl (by simp) fun h' he' => hQ h' s.toks fun b o hb e => he' b o (fun h => hb (by simp [h])) e
  self := fun _ _ _ _ st hQ => wpAny_pyIter_keyiter st.1 hQ
theorem raw_src {d : Addr} {es : List DictEntry} {ep : Nat} (lo : (d == sysModules) = false) : PySem.W.KdlSrc prog w "dict" d d es.length (fun i v => (es[i]?).map (·.key) = some v) (fun h => h.get? d = some (dctO es ep)) where
  type := fun _ hm => ⟨_, hm, rfl⟩
  there := fun _ hm => ⟨Heap.lt_size hm, Heap.lt_size hm⟩
  keep := fun _ _ hm hk => hk d (.inl rfl) _ hm
  notList := by decide
  notTuple := by decide
  hint := fun _ _ _ _ hm hq => PySem.W.kdl_hint_dict ⟨_, hm, rfl⟩ hq
  iter := fun A s hh hm => ⟨_, _, (fun _ _ hq => raw_iter lo hm rfl rfl hq), raw_walks hh _ d (Nat.ne_of_lt (Heap.lt_size hm)) es ep, ⟨⟨_, Heap.get?_push_size _ rfl, rfl, rfl⟩, Heap.get?_push_of_some _ hm⟩⟩
end
end Mine

end

section
namespace Mine
open PySem
open scoped Classical
variable {g : Gx} {c : Cx g} {ρ : Rho} {σ : Sto}

noncomputable def tkeys (l : List (AV × AV)) : Prop := ∀ p ∈ l, tkey p.1 = true
inductive Xs (w : World) (F : Fz) : List (AV × Addr × Value) → List (AV × AV) → Prop
  | nil : Xs w F [] []
  | cons {x : AV} {a : Addr} {v : Value} {y : AV} {xs : List (AV × Addr × Value)} {l : List (AV × AV)} : tkey x = true → Rep w F (.ref a) x → Rep w F v y → Xs w F xs l → Xs w F ((x, a, v) :: xs) ((x, y) :: l)
section
variable {prog : Program} {w : World} {F : Fz}
theorem xs_of (prog : Program) : ∀ {es : List DictEntry} {l : List (AV × AV)}, RepE w F es l → tkeys l → ∃ xs, Xs w F xs l ∧ es = xs.map (entryOfKey (kd prog w))
  | _, _, .nil, _ => ⟨[], .nil, rfl⟩
  | _, _, .cons (k := k) (v := v) (x := x) hk r1 r2 r, t => by
    obtain ⟨xs, h1, h2⟩ := xs_of prog r fun p hp => t p (List.mem_cons_of_mem _ hp)
    have tk : tkey x = true := t _ List.mem_cons_self
    have : ∃ a, k = .ref a := by
      cases r1 with
      | tup _ _ => exact ⟨_, rfl⟩
      | _ => cases tk
    obtain ⟨a, rfl⟩ := this
    exact ⟨(x, a, v) :: xs, .cons tk r1 r2 h1, by rw [h2]; rfl⟩
theorem Xs.repE : ∀ {xs : List (AV × Addr × Value)} {l : List (AV × AV)}, Xs w F xs l → RepE w F (xs.map (entryOfKey (kd prog w))) l
  | _, _, .nil => .nil
  | _, _, .cons t r1 r2 r => .cons (tkey_isKey t) r1 r2 r.repE
theorem Xs.keys : ∀ {xs : List (AV × Addr × Value)} {l : List (AV × AV)}, Xs w F xs l → xs.map (·.1) = l.map (·.1)
  | _, _, .nil => rfl
  | _, _, .cons t r1 r2 r => by rw [List.map_cons, List.map_cons, r.keys]
theorem Xs.length {xs : List (AV × Addr × Value)} {l : List (AV × AV)} (h : Xs w F xs l) : xs.length = l.length := by
  have := congrArg List.length h.keys
  simpa using this
theorem Xs.is {h : Heap} (hF : F.le h.get?) : ∀ {xs : List (AV × Addr × Value)} {l : List (AV × AV)}, Xs w F xs l → ∀ x ∈ xs, (kd prog w).is h x.1 x.2.1
  | _, _, .nil, _, hx => by cases hx
  | _, _, .cons t r1 r2 r, x, hx => by
    rcases List.mem_cons.mp hx with rfl | hx
    · exact ⟨t, r1.mono hF⟩
    · exact Xs.is hF r x hx

noncomputable def dget (l : List (AV × AV)) (k : AV) : Option AV := (l.find? fun p => decide (p.1 = k)).map (·.2)
noncomputable def dset (l : List (AV × AV)) (k v : AV) : List (AV × AV) := if (dget l k).isSome then l.map (fun p => if p.1 = k then (p.1, v) else p) else l ++ [(k, v)]

theorem Xs.get (k : AV) : ∀ {xs : List (AV × Addr × Value)} {l : List (AV × AV)}, Xs w F xs l → (dget l k = Option.none ∧ atKey xs k = none) ∨ ∃ y p, dget l k = some y ∧ atKey xs k = some p ∧ Rep w F p.2 y
  | _, _, .nil => .inl ⟨rfl, rfl⟩
  | _, _, .cons (x := x) (a := a) (v := v) (y := y) t r1 r2 r => by
    by_cases e : x = k
    · refine .inr ⟨y, (a, v), ?_, ?_, r2⟩
      · simp [dget, e]
      · simp [atKey, e]
    · rcases r.get k with ⟨h1, h2⟩ | ⟨y', p, h1, h2, h3⟩
      · refine .inl ⟨?_, ?_⟩
        · simp only [dget, List.find?_cons, decide_eq_false e]; exact h1
        · simp only [atKey, List.find?_cons, decide_eq_false e]; exact h2
      · refine .inr ⟨y', p, ?_, ?_, h3⟩
        · simp only [dget, List.find?_cons, decide_eq_false e]; exact h1
        · simp only [atKey, List.find?_cons, decide_eq_false e]; exact h2
theorem Xs.append : ∀ {xs ys : List (AV × Addr × Value)} {l m : List (AV × AV)}, Xs w F xs l → Xs w F ys m → Xs w F (xs ++ ys) (l ++ m)
  | _, _, _, _, .nil, h => h
  | _, _, _, _, .cons t r1 r2 r, h => .cons t r1 r2 (r.append h)
theorem Xs.put {k : AV} {v : Value} {y : AV} (hr : Rep w F v y) : ∀ {xs : List (AV × Addr × Value)} {l : List (AV × AV)}, Xs w F xs l → Xs w F (xs.map (putAt k v)) (l.map fun p => if p.1 = k then (p.1, y) else p)
  | _, _, .nil => .nil
  | _, _, .cons (x := x) t r1 r2 r => by
    rw [List.map_cons, List.map_cons]
    by_cases e : x = k
    · simp only [putAt, e, if_true]
      subst e
      exact .cons t r1 hr (r.put hr)
    · simp only [putAt, e, if_false]
      exact .cons t r1 r2 (r.put hr)
theorem Xs.stored {k : AV} {a : Addr} {v : Value} {y : AV} (tk : tkey k = true) (ra : Rep w F (.ref a) k) (hr : Rep w F v y) {xs : List (AV × Addr × Value)} {l : List (AV × AV)} (h : Xs w F xs l) : Xs w F (storedH xs k a v) (dset l k y) := by
  unfold storedH dset
  rcases h.get k with ⟨h1, h2⟩ | ⟨y', p, h1, h2, h3⟩
  · rw [h1, h2]
    simp only [Option.isSome_none, Bool.false_eq_true, if_false]
    exact h.append (.cons tk ra hr .nil)
  · rw [h1, h2]
    simp only [Option.isSome_some, if_true]
    exact h.put hr
theorem dset_nodup {l : List (AV × AV)} {k v : AV} (h : (l.map (·.1)).Nodup) : ((dset l k v).map (·.1)).Nodup := by
  unfold dset
  split
  · have : (l.map fun p => if p.1 = k then (p.1, v) else p).map (·.1) = l.map (·.1) := by
      rw [List.map_map]
      refine List.map_congr_left fun p _ => ?_
      simp only [Function.comp]
      split <;> rfl
    rw [this]; exact h
  · rename_i hn
    rw [List.map_append, List.nodup_append]
    refine ⟨h, by simp, fun a ha b hb => ?_⟩
    simp only [List.map_cons, List.map_nil, List.mem_singleton] at hb
    subst hb
    rintro rfl
    obtain ⟨p, hp, e⟩ := List.mem_map.mp ha
    refine hn ?_
    unfold dget
    rw [Option.isSome_map, List.find?_isSome]
    exact ⟨p, hp, by simpa using e⟩
end

theorem repE_keys {w : World} {F : Fz} : ∀ {es : List DictEntry} {l : List (AV × AV)}, RepE w F es l → RepL w F (es.map (·.key)) (l.map (·.1))
  | _, _, .nil => .nil
  | _, _, .cons _ r1 _ r => .cons r1 (repE_keys r)
noncomputable def Dct (σ : Sto) (x : AV) (l : List (AV × AV)) : Prop := x = .dict l ∨ ∃ a, x = .obj a ∧ σ a = some (.dct l)
theorem Dct.dict {l : List (AV × AV)} : Dct σ (.dict l) l := .inl rfl
theorem Dct.obj {a : Addr} {l : List (AV × AV)} (h : σ a = some (.dct l)) : Dct σ (.obj a) l := .inr ⟨a, rfl, h⟩
theorem Dct.heap {x : AV} {l : List (AV × AV)} {s : Shared} {v : Value} (h : Dct σ x l) (i : c.Inv σ s) (r : Rep g.w (c.F σ s) v x) : ∃ a es n, v = .ref a ∧ s.heap.get? a = some (dctO es n) ∧ RepE g.w (c.F σ s) es l ∧ DOk a l := by
  rcases h with rfl | ⟨a, rfl, ha⟩
  · obtain ⟨_, _, _, rfl, hF, hr, ok⟩ := r.invDict
    exact ⟨_, _, _, rfl, (fz_eq.mp hF).2.2, hr, ok⟩
  · (first | obtain rfl := r.invNil | obtain ⟨_, rfl⟩ := r.invInt | obtain rfl := r.invObj | obtain ⟨_, rfl⟩ := r.invStr | obtain rfl := r.invBool | obtain rfl := r.invNone | obtain rfl := r.invRaw)
    obtain ⟨es, n, h1, h2, h3⟩ := i.objs a _ ha
    exact ⟨a, es, n, rfl, h1, h2, h3⟩
theorem Dct.of {x : AV} {l : List (AV × AV)} {s : Shared} {v : Value} (h : Dct σ x l) (tk : tkeys l) (i : c.Inv σ s) (r : Rep g.w (c.F σ s) v x) :
    ∃ a xs, v = .ref a ∧ s.heap.DictOfH (kd g.prog g.w) a xs ∧ Xs g.w (c.F σ s) xs l ∧ (a == sysModules) = false := by
  obtain ⟨a, es, n, rfl, h1, h2, h3⟩ := h.heap i r
  obtain ⟨xs, hx, rfl⟩ := xs_of g.prog h2 tk
  exact ⟨a, xs, rfl, ⟨_, _, n, h1, ⟨rfl, rfl, rfl⟩, rfl, rfl, hx.is fz_sub, by rw [hx.keys]; exact h3.1⟩, hx, h3.2⟩
theorem key_ref {w : World} {F : Fz} {k : AV} {b : Value} (tk : tkey k = true) (r : Rep w F b k) : ∃ a, b = .ref a := by
  cases r with
  | tup _ _ => exact ⟨_, rfl⟩
  | _ => cases tk

theorem sub_dict {value slice : Expr} {x k y : AV} {l : List (AV × AV)} {Q : AV → Sto → Prop} (hx : Dct σ x l) (tl : tkeys l) (tk : tkey k = true) (hy : dget l k = some y) (hu : c.A.units + 3 < cLine) (q : Q y σ) (hn : noSlice slice = true := by rfl) : subT c value slice x k σ Q := fun s a b i r1 r2 => by
  obtain ⟨d, xs, rfl, hd, hX, _⟩ := hx.of tl i r1
  obtain ⟨ka, rfl⟩ := key_ref tk r2
  rcases hX.get k with ⟨h1, _⟩ | ⟨y', p, h1, h2, h3⟩
  · rw [h1] at hy; cases hy
  · rw [h1] at hy; injection hy with hy; subst hy
    exact PyProof.Rows.tail_any hd.typeIs slot_dict_getitem.lookup (wpAny_getItem_heap (knd := kd g.prog g.w) (by show c.A.units + 1 + 2 < cLine; omega) ⟨tk, r2.mono fz_sub⟩ hd h2 ⟨y', σ, i.toks _, .toks .., h3, q⟩) (subscripted_plain hn _ _)

theorem set_dict {a : Addr} {l : List (AV × AV)} {k z : AV} {Q : Sto → Prop} (ha : σ a = some (.dct l)) (tl : tkeys l) (tk : tkey k = true) (hz : l.length ≤ sizeLine) (hu : c.A.units + 3 < cLine) (q : Q (σ.set a (.dct (dset l k z)))) : op3u c (fun a b d => setItem a b d) (.obj a) k z σ Q := fun s u v d i r1 r2 r3 => by
  obtain ⟨a', xs, rfl, hd, hX, hm⟩ := (Dct.obj ha).of tl i r1
  have ea := r1.invObj; injection ea with ea; rw [ea] at hd hm ⊢; clear ea r1
  obtain ⟨ka, rfl⟩ := key_ref tk r2
  obtain ⟨_, _, _, _, ok⟩ := i.objs a _ ha
  refine wpAny_setItem_heap (knd := kd g.prog g.w) (by show c.A.units + 1 + 2 < cLine; omega) ⟨tk, r2.mono fz_sub⟩ hd (fun h' hd' hs => ?_) (by rw [hX.length]; exact hz)
  obtain ⟨o, es, ep, ho, ⟨o1, o2, o3⟩, hdat, he, _, _⟩ := hd'
  obtain ⟨o4, o5, o6, o7⟩ := o
  simp only at o1 o2 o3 hdat
  subst o1 o2 o3 hdat
  obtain ⟨h1, h2⟩ := store_upd (tk := s.toks + (kd g.prog g.w).draws k) (y := .dct (dset l k z)) i ha hs ⟨es.toList, ep, by simpa using ho, by rw [he]; exact (hX.stored tk r2 r3).repE, dset_nodup ok.1, ok.2⟩
  exact ⟨(), _, h1, h2, trivial, q⟩

theorem ev_dict0 {pos : Pos} {Q : AV → Sto → Prop} (hs : ∃ f o, sysModules ≤ f ∧ g.H₀.get? f = some o) (h : Q (.dict []) σ ∨ ∀ a, σ a = none → Q (.obj a) (σ.set a (.dct []))) : ev c ρ (.Dict [] [] pos) σ Q := fun s st => by
  refine wpAny_Dict_empty ?_
  have hn := st.inv.fresh (Nat.le_refl s.heap.objs.size)
  have ok : DOk s.heap.objs.size [] := ⟨List.nodup_nil, by
    obtain ⟨f, o, hf, ho⟩ := hs
    have := Heap.lt_size (fz_eq.mp (st.inv.keep _ _ ho)).2.2
    rw [beq_eq_false_iff_ne]; exact fun e => Nat.lt_irrefl f (Nat.lt_of_lt_of_le (e ▸ this) hf)⟩
  rcases h with h | h
  · exact ⟨.dict [], σ, st.inv.keeps (t := s.toks) (push_keeps _ _), .keeps (t := s.toks) (push_keeps _ _), .dict (es := []) (fz_eq.mpr ⟨hn.1, hn.2, Heap.get?_push_size _ rfl⟩) .nil ok, h⟩
  · obtain ⟨h1, h2⟩ := store_new (tk := s.toks) (x := .dct []) st.inv (push_keeps s.heap _) (Nat.le_refl _) (fun F hF => ⟨[], 0, Heap.get?_push_size _ rfl, .nil, ok⟩)
    exact ⟨.obj _, _, h1, h2, .obj _, h _ hn.1⟩

section
variable {Q : AV → Sto → Prop}
theorem cal_get2 {x k z : AV} {l : List (AV × AV)} (hx : Dct σ x l) (tl : tkeys l) (tk : tkey k = true) (hu : c.A.units + 3 < cLine) (q : Q ((dget l k).getD z) σ) : cal c (.builtin "dict.get") [x, k, z] σ Q := fun s vs i r => by
  obtain ⟨_, _, rfl, r1, r⟩ := r.invCons
  obtain ⟨_, _, rfl, r2, r3⟩ := r.two
  obtain ⟨d, xs, rfl, hd, hX, hm⟩ := hx.of tl i r1
  obtain ⟨ka, rfl⟩ := key_ref tk r2
  refine call_meetsIn F.slot_dict_get hd.typeIs F.entry_dict_get (F.args_dict_get_3 _ _ _) (meetsH_dict_get_default (kd g.prog g.w) d ka hm _) ⟨by show c.A.units + 1 + 2 < cLine; omega, k, xs, ⟨tk, r2.mono fz_sub⟩, hd, ?_⟩
  rcases hX.get k with ⟨h1, h2⟩ | ⟨y', p, h1, h2, h3⟩
  · rw [h1] at q; rw [h2]; exact ⟨_, σ, i.toks _, .toks .., r3, q⟩
  · rw [h1] at q; rw [h2]; exact ⟨_, σ, i.toks _, .toks .., h3, q⟩

theorem cal_listD {x : AV} {l : List (AV × AV)} (hh : c.A.handled = none) (hx : Dct σ x l) (hz : l.length ≤ sizeLine) (q : Made Q (l.map (·.1)) σ) : cal c (.type "list") [x] σ Q := fun s vs i r => by
  obtain ⟨_, rfl, r1⟩ := r.one
  obtain ⟨a, es, n, rfl, hg, hv, ok⟩ := hx.heap i r1
  have hlen : es.length = l.length := hv.length
  refine PySem.W.kdl_call (raw_src ok.2) hh hg (by rw [hlen]; exact hz) fun h' tk acc c' hk hn hacc => ?_
  have : acc = (es.map (·.key)).toArray := by
    refine Array.ext (by rw [hacc.1]; simp) fun j h1 h2 => ?_
    have : (es[j]?).map (·.key) = some acc[j] := hacc.2 j acc[j] (by simp)
    simp only [List.getElem_toArray, List.getElem_map]
    rw [Option.map_eq_some_iff] at this
    obtain ⟨e, he, hke⟩ := this
    have hj : j < es.length := by simpa using h2
    rw [List.getElem?_eq_getElem hj] at he
    injection he with he
    rw [he, hke]
  subst this
  refine made_list (tk := tk) i hk (Nat.le_refl _) hn ?_ q
  exact repE_keys hv

end
end Mine

end

section
namespace Mine
open PySem
open scoped Classical
variable {g : Gx} {c : Cx g} {ρ : Rho} {σ : Sto} {Q : AV → Sto → Prop}

section
variable {prog : Program} {w : World} {A : Around} {E : Value → Shared → Prop} {s : Shared}
theorem raw_len (d : Addr) (hd : (d == sysModules) = false) :
    MeetsIn prog w (Builtin.«dict.__len__» ⟨[.ref d], []⟩) (fun _ R s => ∃ es ep, s.heap.get? d = some (dctO es ep) ∧ R (.ok (.ret (.int es.length s.toks))) { s with toks := s.toks + 1 }) :=
  .of_wp fun A R s ⟨es, ep, ho, h⟩ => by
    show wpAny _ _ (dictSize d >>= _) _ _ s
    unfold dictSize
    refine wpAny_bind (wpAny_bind (wpAny_dictEntries ho rfl (wpAny_pure ?_)))
    show wpAny _ _ (Builtin.Dict.pendingCount d >>= _) _ _ s
    refine wpAny_bind (wpAny_pendingCount_other hd ?_)
    refine wpAny_ret_mkInt ?_
    rw [Nat.add_zero, List.size_toArray]; exact h
theorem raw_call_len {d : Addr} {es : List DictEntry} {ep : Nat} {Q : Value → Shared → Prop} (hd : (d == sysModules) = false) (hm : s.heap.get? d = some (dctO es ep)) (hfit : (es.length : Int) < 2 ^ 63)
    (h : Q (.int es.length (s.toks + 1)) { s with toks := s.toks + 1 + 1 }) : wpAny (model prog w) A (call (.builtin "len") [.ref d]) Q E s := by
  have hT : s.TypeIs (.ref d) "dict" := ⟨_, hm, rfl⟩
  refine Calls.call_function_entry kind_len plain_len entry_len (args_len1 _) ?_
  unfold Builtin.«len»
  refine wpAny_bind (m := oneArg "len" _) (wpAny_pure ?_)
  refine wpAny_bind (m := callSpecial? (.ref d) (Str.ofString "__len__")) (wpAny_callSpecial?_slot (name := Str.ofString "__len__") hT F.slot_dict_len
    (call_meetsIn F.slot_dict_len hT F.entry_dict_len (F.args_dict_len_1 _) (raw_len d hd) ⟨es, ep, hm, ?_⟩))
  show wpAny _ _ _ _ _ { s with toks := s.toks + 1 }
  refine wpAny_bind (wpAny_holding (wpAny_pure ?_))
  refine wpAny_bind (wpAny_letGo ?_)
  show wpAny _ _ (if ((es.length : Nat) : Int) < 0 then _ else _) _ _ _
  rw [if_neg (by omega)]
  show wpAny _ _ (if ((es.length : Nat) : Int) ≥ 2 ^ 63 then _ else _) _ _ _
  rw [if_neg (by omega)]
  exact wpAny_bind (wpAny_mkInt (wpAny_pure ⟨_, rfl, h⟩))

theorem raw_forEmpty {id : String} {d : Addr} {es : List DictEntry} {ep : Nat} {Q : Array DictEntry → Shared → Prop} (ho : s.heap.get? d = some (dctO es ep)) (hk : ∀ e ∈ es, ∃ a, e.key = .ref a ∧ s.TypeIs (.ref a) "tuple") (hn : (es.map (·.hash)).Nodup) (h : Q es.toArray s) :
    wpAny (model prog w) A (Builtin.Dict.entriesForEmpty id d) Q E s := by
  unfold Builtin.Dict.entriesForEmpty
  refine wpAny_bind (wpAny_dictEntries ho rfl ?_)
  refine wpAny_bind ?_
  rw [← Array.forIn_toList]
  refine wpAny_forIn_list _ (fun rest _ s' => s' = s ∧ ∀ e ∈ rest, e ∈ es) _ ?_ ?_ _ _ ⟨rfl, fun e he => by simpa using he⟩
  · rintro e rest b s' ⟨rfl, hr⟩
    obtain ⟨a, ha, hT⟩ := hk e (hr e List.mem_cons_self)
    unfold Builtin.Dict.quietEq
    rw [ha]
    refine wpAny_bind (wpAny_bind (wpAny_specialOf hT F.slot_tuple_eq.lookup (wpAny_pure ?_)))
    have e1 : (some (Value.builtin "tuple.__eq__") == some (Value.builtin "object.__eq__")) = false := by decide
    rw [e1]
    simp only [Bool.not_false, if_true]
    have e2 : ¬ (es.toArray.filter (·.hash == e.hash)).size > 1 := by
      have : (es.toArray.filter (·.hash == e.hash)).size = (es.filter (·.hash == e.hash)).length := by simp
      rw [this]
      have hc : (es.filter (·.hash == e.hash)).length = (es.map (·.hash)).count e.hash := by
        rw [List.count_eq_countP, List.countP_map, List.countP_eq_length_filter]
        rfl
      rw [hc]
      have := List.nodup_iff_count.mp hn e.hash
      omega
    rw [if_neg e2]
    exact wpAny_pure ⟨rfl, fun u hu => hr u (List.mem_cons_of_mem _ hu)⟩
  · rintro b s' ⟨rfl, _⟩
    exact wpAny_pure h

theorem raw_call_dict {o : Addr} {es : List DictEntry} {ep : Nat} {Q : Value → Shared → Prop} (hoS : (o == sysModules) = false) (ho : s.heap.get? o = some (dctO es ep)) (hsz : es.length ≤ sizeLine) (hk : ∀ e ∈ es, ∃ a, e.key = .ref a ∧ s.TypeIs (.ref a) "tuple") (hn : (es.map (·.hash)).Nodup)
    (h : ∀ h' n, h'.get? s.heap.objs.size = some (dctO es n) → (∀ b o, s.heap.get? b = some o → h'.get? b = some o) → Q (.ref s.heap.objs.size) { s with heap := h' }) :
    wpAny (model prog w) A (call (.type "dict") [.ref o]) Q E s := by
  refine callType_codes (Q₁ := fun obj s₁ => obj = .ref s.heap.objs.size ∧ s₁ = { s with heap := s.heap.push { cls := .type "dict", data := .dict #[] } }) F.kt_called_dict (F.kt_typeCall_dict_1 _) F.entry_dict_init (kt_code_dict_new _ ⟨rfl, rfl⟩) ?_
  rintro obj s₁ ⟨rfl, rfl⟩
  have hnew : (s.heap.push { cls := .type "dict", data := .dict #[] }).get? s.heap.objs.size = some (dctO [] 0) := Heap.get?_push_size _ rfl
  have ho' : (s.heap.push { cls := .type "dict", data := .dict #[] }).get? o = some (dctO es ep) := Heap.get?_push_of_some _ ho
  have hTn : ({ s with heap := s.heap.push { cls := .type "dict", data := .dict #[] } } : Shared).TypeIs (.ref s.heap.objs.size) "dict" := ⟨_, hnew, rfl⟩
  have hTo : ({ s with heap := s.heap.push { cls := .type "dict", data := .dict #[] } } : Shared).TypeIs (.ref o) "dict" := ⟨_, ho', rfl⟩
  have hdo : s.heap.objs.size ≠ o := fun e => absurd (Heap.lt_size ho) (by rw [e]; exact Nat.lt_irrefl _)
  refine ⟨hTn, F.args_dict_init_2 _ _, ?_⟩
  unfold Builtin.«dict.__init__»
  refine wpAny_bind ?_
  unfold Builtin.Dict.selfAndRest
  refine wpAny_bind (wpAny_notOrdered_dict hTn ?_)
  show wpAny _ _ (pure (s.heap.objs.size, [Value.ref o])) _ _ _
  refine wpAny_pure ?_
  show wpAny _ _ (Builtin.Dict.updateFrom "dict.__init__" s.heap.objs.size (.ref o) [] .none) _ _ _
  unfold Builtin.Dict.updateFrom
  refine wpAny_bind (wpAny_typeOf hTo ?_)
  rw [if_neg (by decide)]
  refine wpAny_bind ?_
  unfold Builtin.Dict.merge
  refine wpAny_bind ?_
  unfold Builtin.Dict.readDirectly
  refine wpAny_bind (wpAny_isInstance hTo isSubtype_dict_dict ?_)
  simp only [Bool.not_true, Bool.false_eq_true, if_false]
  refine wpAny_bind (wpAny_specialOf hTo F.slot_dict_iter.lookup (wpAny_pure ?_))
  simp only [beq_self_eq_true, if_true]
  refine wpAny_bind (wpAny_pure ?_)
  have fin : ∀ h' n, h'.get? s.heap.objs.size = some (dctO es n) → (∀ b o, s.heap.get? b = some o → h'.get? b = some o) → wpAny (model prog w) A.in1.in1 (Builtin.Dict.addKeywords s.heap.objs.size [] >>= fun _ => ret .none) (fun fin s' => match fin with | .done f => wants (fun r s₂ => r = .none ∧ Q (.ref s.heap.objs.size) s₂) E (.ok f) s' | .again c' => c'.quiet = true ∧ codeAny (model prog w) A.in1 c' (wants (fun r s₂ => r = .none ∧ Q (.ref s.heap.objs.size) s₂) E) s')
        (fun e s' => wants (fun r s₂ => r = .none ∧ Q (.ref s.heap.objs.size) s₂) E (.error e) s') { s with heap := h' } := fun h' n h1 h2 => wpAny_bind (wpAny_pure (wpAny_pure ⟨rfl, h h' n h1 h2⟩))
  unfold Builtin.Dict.mergeDict
  rw [if_neg (by simpa using hdo)]
  unfold Builtin.Dict.showsAll
  rw [if_neg (by rw [hoS]; exact Bool.false_ne_true)]
  refine wpAny_bind (wpAny_pure ?_)
  refine wpAny_bind (wpAny_dictEntries (s := { s with heap := s.heap.push { cls := .type "dict", data := .dict #[] } }) ho' rfl ?_)
  cases es with
  | nil =>
    have e1 : (!(decide ((#[] : Array DictEntry).size ≤ 8) && (#[] : Array DictEntry).all fun e => (keyPart e.key).isSome)) = false := by simp
    rw [if_neg (by simp)]
    refine wpAny_bind (wpAny_dictEpoch (s := { s with heap := s.heap.push { cls := .type "dict", data := .dict #[] } }) ho' rfl ?_)
    refine wpAny_bind (wpAny_dictEntries (s := { s with heap := s.heap.push { cls := .type "dict", data := .dict #[] } }) ho' rfl ?_)
    refine wpAny_bind ?_
    rw [Std.Legacy.Range.forIn_eq_forIn_range']
    exact wpAny_pure (wpAny_pure (fin _ 0 hnew fun b o e => Heap.get?_push_of_some _ e))
  | cons e0 rest =>
    obtain ⟨a0, ha0, _⟩ := hk e0 List.mem_cons_self
    have e1 : ((decide ((e0 :: rest).toArray.size ≤ 8) && (e0 :: rest).toArray.all fun e => (keyPart e.key).isSome)) = false := by
      simp [ha0, keyPart]
    dsimp only
    rw [e1, if_pos (by rfl)]
    refine wpAny_bind (wpAny_dictEntries (s := { s with heap := s.heap.push { cls := .type "dict", data := .dict #[] } }) hnew rfl ?_)
    rw [if_pos (by rfl)]
    refine wpAny_bind (raw_forEmpty ho' (fun e he => ?_) hn ?_)
    · obtain ⟨a, ha, o', ho', hc'⟩ := hk e he
      exact ⟨a, ha, o', Heap.get?_push_of_some _ ho', hc'⟩
    · rw [if_pos (by simp)]
      refine wpAny_bind (wpAny_updateDictKeysTo (s := { s with heap := s.heap.push { cls := .type "dict", data := .dict #[] } }) hnew rfl (wpAny_pure (fin _ 1 ?_ ?_)) (by simp at hsz ⊢; omega))
      · exact Heap.get?_update_self _ hnew rfl
      · intro b o' e
        exact ((Heap.SameBut.update ..).2 b (Nat.ne_of_lt (Heap.lt_size e))).trans (Heap.get?_push_of_some _ e)
end
theorem tup_type {w : World} {F : Fz} {s : Shared} {k : AV} {b : Addr} (hF : F.le s.heap.get?) (tk : tkey k = true) (r : Rep w F (.ref b) k) : s.TypeIs (.ref b) "tuple" := by
  cases r with
  | tup h _ => exact ⟨_, hF _ _ h, rfl⟩
  | _ => cases tk

theorem cal_lenD {x : AV} {l : List (AV × AV)} (hx : Dct σ x l) (hz : (l.length : Int) < 2 ^ 63) (q : Q (.int l.length) σ) : cal c (.builtin "len") [x] σ Q := fun s vs i r => by
  obtain ⟨_, rfl, r1⟩ := r.one
  obtain ⟨a, es, n, rfl, hg, hv, ok⟩ := hx.heap i r1
  have hlen : es.length = l.length := hv.length
  refine raw_call_len ok.2 hg (by rw [hlen]; exact hz) ⟨.int l.length, σ, i.toks _, .toks .., ?_, q⟩
  rw [hlen]; exact .int _ _
theorem repE_hash {w : World} {F : Fz} : ∀ {es : List DictEntry} {l : List (AV × AV)}, RepE w F es l → es.map (·.hash) = l.map fun p => hK w p.1
  | _, _, .nil => rfl
  | _, _, .cons _ r1 _ r => by rw [List.map_cons, List.map_cons, repE_hash r]
theorem repE_tup {w : World} {F : Fz} {s : Shared} (hF : F.le s.heap.get?) : ∀ {es : List DictEntry} {l : List (AV × AV)}, RepE w F es l → tkeys l → ∀ e ∈ es, ∃ a, e.key = .ref a ∧ s.TypeIs (.ref a) "tuple"
  | _, _, .nil, _, _, h => by cases h
  | _, _, .cons _ r1 _ r, t, e, h => by
    rcases List.mem_cons.mp h with rfl | h
    · have tk := t _ List.mem_cons_self
      obtain ⟨a, rfl⟩ := key_ref tk r1
      exact ⟨a, rfl, tup_type hF tk r1⟩
    · exact repE_tup hF r (fun p hp => t p (List.mem_cons_of_mem _ hp)) e h
theorem new_ok {s : Shared} {l : List (AV × AV)} (i : c.Inv σ s) (hs : ∃ f o, sysModules ≤ f ∧ g.H₀.get? f = some o) (hn : (l.map (·.1)).Nodup) : DOk s.heap.objs.size l := ⟨hn, by
    obtain ⟨f, o, hf, ho⟩ := hs
    have := Heap.lt_size (fz_eq.mp (i.keep _ _ ho)).2.2
    rw [beq_eq_false_iff_ne]; exact fun e => Nat.lt_irrefl f (Nat.lt_of_lt_of_le (e ▸ this) hf)⟩
noncomputable def MadeD (Q : AV → Sto → Prop) (l : List (AV × AV)) (σ : Sto) : Prop := Q (.dict l) σ ∨ ∀ a, σ a = none → Q (.obj a) (σ.set a (.dct l))
theorem made_dict {s : Shared} {h' : Heap} {tk : Nat} {D : Addr} {es : List DictEntry} {n : Nat} {l : List (AV × AV)} (i : c.Inv σ s) (hk : ∀ b o, s.heap.get? b = some o → h'.get? b = some o) (hD : s.heap.objs.size ≤ D) (hg : h'.get? D = some (dctO es n))
    (r : RepE g.w (c.F σ s) es l) (ok : DOk D l) (q : MadeD Q l σ) : ∃ x σ', c.Inv σ' { s with heap := h', toks := tk } ∧ c.Ev σ s σ' { s with heap := h', toks := tk } ∧ Rep g.w (c.F σ' { s with heap := h', toks := tk }) (.ref D) x ∧ Q x σ' := by
  have hn := i.fresh hD
  rcases q with q | q
  · exact ⟨.dict l, σ, i.keeps hk, .keeps hk, .dict (fz_eq.mpr ⟨hn.1, hn.2, hg⟩) (r.mono (keep_fz hk)) ok, q⟩
  · obtain ⟨h1, h2⟩ := store_new (tk := tk) (x := .dct l) i hk hD (fun F hF => ⟨es, n, hg, r.mono hF, ok⟩)
    exact ⟨.obj D, _, h1, h2, .obj D, q D hn.1⟩
theorem cal_dictD {x : AV} {l : List (AV × AV)} (hs : ∃ f o, sysModules ≤ f ∧ g.H₀.get? f = some o) (hx : Dct σ x l) (tl : tkeys l) (hz : l.length ≤ sizeLine) (hn : (l.map fun p => hK g.w p.1).Nodup) (q : MadeD Q l σ) : cal c (.type "dict") [x] σ Q := fun s vs i r => by
  obtain ⟨_, rfl, r1⟩ := r.one
  obtain ⟨a, es, n, rfl, hg, hv, ok⟩ := hx.heap i r1
  refine raw_call_dict ok.2 hg (by rw [hv.length]; exact hz) (repE_tup fz_sub hv tl) (by rw [repE_hash hv]; exact hn) fun h' n' h1 h2 => ?_
  exact made_dict (tk := s.toks) i h2 (Nat.le_refl _) h1 hv (new_ok i hs ok.1) q
theorem iter_dict (hh : c.A.handled = none) (l : List (AV × AV)) : Iter c (.dict l) (l.map (·.1)) := fun σ s v i r E => by
  obtain ⟨a, es, n, rfl, hF, hr, ok⟩ := r.invDict
  obtain ⟨_, _, ho⟩ := fz_eq.mp hF
  have hlen : es.length = (l.map (·.1)).length := by rw [List.length_map]; exact hr.length
  refine raw_iter ok.2 ho rfl rfl ⟨s.heap.objs.size, [s.heap.objs.size, a], _, _, rfl, hlen ▸ raw_walks hh s.heap.objs.size a (Nat.ne_of_lt (Heap.lt_size ho)) es n, ?_, ⟨_, s.toks, rfl⟩, push_keeps _ _, Nat.le_refl _, (fun _ _ hx => let ⟨⟨o, ho, hc, _⟩, _⟩ := hx; ⟨o, ho, itOk_of hc rfl⟩), ?_, ?_⟩
  · exact ⟨⟨_, Heap.get?_push_size _ rfl, rfl, rfl⟩, push_keeps _ _ _ _ ho⟩
  · intro b hb
    rcases List.mem_cons.mp hb with rfl | hb
    · exact .inl rfl
    · rw [List.mem_singleton.mp hb]; exact .inr ⟨_, hF⟩
  · intro i u _ hu
    obtain ⟨x, h1, h2⟩ := (repE_keys hr).get' (i := i) (v := u) (by rw [List.getElem?_map]; exact hu)
    exact ⟨x, h1, h2⟩

theorem op_addt {l m : List AV} (hl : l ≠ []) (hm : m ≠ []) (hz : l.length + m.length ≤ sizeLine) (q : Q (.tup (l ++ m)) σ) : op2 c (binaryOp .Add) (.tup l) (.tup m) σ Q := fun s u v i r1 r2 => by
  obtain ⟨a, us, n, rfl, h1, hv⟩ := r1.invTup
  obtain ⟨b, ws, k, rfl, h2, hw⟩ := r2.invTup
  have n1 : us ≠ [] := by rintro rfl; cases hv; exact hl rfl
  have n2 : ws ≠ [] := by rintro rfl; cases hw; exact hm rfl
  refine P.add_tuple (items := us.toArray) (items2 := ws.toArray) (fz_sub _ _ h1) (fz_sub _ _ h2) (by simpa using n1) (by simpa using n2) ?_ (by rw [List.size_toArray, List.size_toArray, hv.length, hw.length]; exact hz)
  have hn := i.fresh (Nat.le_refl s.heap.objs.size)
  refine ⟨.tup (l ++ m), σ, i.keeps (t := s.toks) (push_keeps _ _), .keeps (t := s.toks) (push_keeps _ _), .tup (vs := us ++ ws) (n := 0) (fz_eq.mpr ⟨hn.1, hn.2, ?_⟩) ((hv.append hw).mono (keep_fz (push_keeps _ _))), q⟩
  rw [show us.toArray ++ ws.toArray = (us ++ ws).toArray by simp]; exact Heap.get?_push_size _ rfl
theorem cal_min {a b : Int} (hh : c.A.handled = none) (q : Q (.int (min a b)) σ) : cal c (.builtin "min") [.int a, .int b] σ Q := fun s vs i r => by
  obtain ⟨_, _, rfl, r1, r2⟩ := r.two; (first | obtain rfl := r1.invNil | obtain ⟨_, rfl⟩ := r1.invInt | obtain rfl := r1.invObj | obtain ⟨_, rfl⟩ := r1.invStr | obtain rfl := r1.invBool | obtain rfl := r1.invNone | obtain rfl := r1.invRaw); (first | obtain rfl := r2.invNil | obtain ⟨_, rfl⟩ := r2.invInt | obtain rfl := r2.invObj | obtain ⟨_, rfl⟩ := r2.invStr | obtain rfl := r2.invBool | obtain rfl := r2.invNone | obtain rfl := r2.invRaw)
  refine min_two_ints hh fun h' tk hk => ⟨.int (min a b), σ, i.keeps hk, .keeps hk, ?_, q⟩
  by_cases h : b < a
  · rw [if_pos h, show min a b = b by omega]; exact .int _ _
  · rw [if_neg h, show min a b = a by omega]; exact .int _ _
end Mine

end

section
namespace Mine
open PySem
variable {g : Gx} {c : Cx g} {ρ : Rho} {σ : Sto}

theorem one_cell {x : Str} : ∀ {names : List (Str × NameKind)} {n : Nat} {acc : List (Str × Addr)} {h : Heap}, names.filter (·.2 == NameKind.cell) = [(x, .cell)] → cellsFrom n names acc = (x, n) :: acc ∧ pushCells h names = h.push { cls := .type "cell", data := .cell none }
  | [], _, _, _, e => by cases e
  | (m, k) :: r, n, acc, h, e => by
    have none_cell : ∀ {names : List (Str × NameKind)} {n : Nat} {acc : List (Str × Addr)} {h : Heap}, names.filter (·.2 == NameKind.cell) = [] → cellsFrom n names acc = acc ∧ pushCells h names = h := by
      intro names
      induction names with
      | nil => intro n acc h _; exact ⟨rfl, rfl⟩
      | cons p r ih =>
        obtain ⟨m, k⟩ := p
        intro n acc h e
        rw [List.filter_cons] at e
        by_cases hk : (k == NameKind.cell) = true
        · rw [if_pos hk] at e; cases e
        · rw [if_neg hk] at e
          unfold cellsFrom pushCells
          rw [if_neg hk, if_neg hk]
          exact ih e
    rw [List.filter_cons] at e
    by_cases hk : (k == NameKind.cell) = true
    · rw [if_pos hk] at e
      injection e with e1 e2
      injection e1 with e1 e3
      subst e1
      unfold cellsFrom pushCells
      rw [if_pos hk, if_pos hk]
      exact none_cell e2
    · rw [if_neg hk] at e
      unfold cellsFrom pushCells
      rw [if_neg hk, if_neg hk]
      exact one_cell e
theorem newEnv_one {prog : Program} {w : World} {A : Around} {E : Value → Shared → Prop} {s : Shared} {scope : Scope} {x : Str} {globals : Addr} {closure : List (Str × Addr)} {qual : Str} {env : Env} {Q : Env → Shared → Prop} (hc : scope.names.filter (·.2 == NameKind.cell) = [(x, .cell)])
    (hQ : Q (newEnv scope s.heap.objs.size globals ((x, s.heap.objs.size + 1) :: closure) qual none .none (some env) builtinsNs) { s with heap := (s.heap.push { cls := .type "dict", data := .dict #[] }).push { cls := .type "cell", data := .cell none } }) :
    wpAny (model prog w) A (newFunctionEnv scope globals closure [] qual none .none (some env)) Q E s := by
  simp only [newFunctionEnv, Option.isSome_some, if_true]
  refine wpAny_bind (wpAny_alloc ?_)
  refine wpAny_bind (wpAny_layCells _ (fun name kind cells => by cases hkc : kind == NameKind.cell <;> simp [hkc]) _ _ _ _ ?_)
  obtain ⟨e1, e2⟩ := one_cell (n := s.heap.objs.size + 1) (acc := closure) (h := s.heap.push { cls := .type "dict", data := .dict #[] }) hc
  rw [show ({ s with heap := s.heap.push { cls := .type "dict", data := .dict #[] } } : Shared).heap.objs.size = s.heap.objs.size + 1 from Heap.size_push .., e1]
  show wpAny _ _ _ _ _ { s with heap := pushCells (s.heap.push { cls := .type "dict", data := .dict #[] }) scope.names }
  rw [e2]
  exact wpAny_bind (wpAny_pure (wpAny_pure hQ))

noncomputable def compOkC (x : Str) (fr : List Str) (scope sc : Scope) : Bool :=
  (scope.kind == .function) && (scope.names.filter (·.2 == NameKind.cell) == [(x, .cell)]) && scope.names.all (fun y => (y.2 != .free || fr.contains y.1) && (y.2 != .local || scope.names.lookup y.1 == some .local)) &&
  (scope.names.lookup x == some .cell) && !(x == ("__debug__" : Str)) && decide ((x :: fr).Nodup) &&
  fr.all fun n => (relab scope sc).names.lookup n == some .cell
theorem relabN_cell' {sc : Scope} {n x : Str} : ∀ {l : List (Str × NameKind)}, (∀ y ∈ l, y.2 = .cell → y.1 = x) → (relabN sc l).lookup n = some .cell → n = x ∨ (l.lookup n = some .free ∧ sc.names.lookup n = some .cell)
  | [], _, h => by cases h
  | (m, k) :: r, hc, h => by
    unfold relabN at h
    rw [List.lookup_cons]
    by_cases hk : (k == .free && sc.kind == .function && sc.names.lookup m == some .cell) = true
    · rw [if_pos hk, List.lookup_cons] at h
      simp only [Bool.and_eq_true, beq_iff_eq] at hk
      cases hn : n == m with
      | true =>
        have : n = m := by simpa using hn
        subst this
        exact .inr ⟨by rw [hk.1.1], hk.2⟩
      | false => rw [hn] at h; exact relabN_cell' (fun y hy => hc y (List.mem_cons_of_mem _ hy)) h
    · rw [if_neg hk, List.lookup_cons] at h
      cases hn : n == m with
      | true =>
        rw [hn] at h; injection h with h
        have : n = m := by simpa using hn
        exact .inl (this ▸ hc (m, k) List.mem_cons_self h)
      | false => rw [hn] at h; exact relabN_cell' (fun y hy => hc y (List.mem_cons_of_mem _ hy)) h
theorem relabN_keep {sc : Scope} {x : Str} : ∀ {l : List (Str × NameKind)}, l.lookup x = some .cell → (relabN sc l).lookup x = some .cell
  | [], h => by cases h
  | (m, k) :: r, h => by
    unfold relabN
    rw [List.lookup_cons] at h
    by_cases hk : (k == .free && sc.kind == .function && sc.names.lookup m == some .cell) = true
    · rw [if_pos hk, List.lookup_cons]
      cases hn : x == m with
      | true => rfl
      | false => rw [hn] at h; exact relabN_keep h
    · rw [if_neg hk, List.lookup_cons]
      cases hn : x == m with
      | true => rw [hn] at h; exact h
      | false => rw [hn] at h; exact relabN_keep h
theorem compOkC_facts {x : Str} {fr : List Str} {scope sc : Scope} (h : compOkC x fr scope sc = true) : scope.kind = .function ∧ scope.names.filter (·.2 == NameKind.cell) = [(x, .cell)] ∧ (∀ y ∈ scope.names, y.2 = .cell → y.1 = x) ∧ (∀ y ∈ scope.names, y.2 = .free → y.1 ∈ fr) ∧
    (∀ y ∈ scope.names, y.2 = .local → scope.names.lookup y.1 = some .local) ∧ scope.names.lookup x = some .cell ∧ (x == ("__debug__" : Str)) = false ∧ (x :: fr).Nodup ∧ ∀ n ∈ fr, (relab scope sc).names.lookup n = some .cell := by
  simp only [compOkC, Bool.and_eq_true, Bool.not_eq_true', beq_iff_eq, decide_eq_true_eq, List.all_eq_true, Bool.or_eq_true, bne_iff_ne, ne_eq] at h
  obtain ⟨⟨⟨⟨⟨⟨h1, h0⟩, h2⟩, h3⟩, h4⟩, h5⟩, h6⟩ := h
  refine ⟨h1, h0, fun y hy hc => ?_, fun y hy hf => ?_, fun y hy hf => ?_, h3, h4, h5, h6⟩
  · have : y ∈ scope.names.filter (·.2 == NameKind.cell) := List.mem_filter.mpr ⟨hy, by rw [hc]; rfl⟩
    rw [h0] at this
    rw [List.mem_singleton.mp this]
  · rcases (h2 y hy).1 with q | q
    · exact absurd hf q
    · simpa using q
  · rcases (h2 y hy).2 with q | q
    · exact absurd hf q
    · exact q

theorem comp_coreC {elt iter : Expr} {x : Str} {px pos : Pos} {t : Option Expr} {scope : Scope} {fr : Rho} {y : AV} {v : Value} {l : List AV} {s : Shared} {RR : Value → Addr → Result → Shared → Prop} {E : Value → Shared → Prop}
    (J : List AV → List AV → Sto → Prop) (hok : compOkC x (fr.map (·.1)) scope c.sc = true) (hfr : FrIn fr ρ) (st : St c ρ σ s) (r : Rep g.w (c.F σ s) v y) (hit : Iter c y l) (hJ : J l [] σ) (hsz : l.length ≤ sizeLine)
    (turn : ∀ c' : Cx g, c'.A = c.A → c'.sc = relab scope c.sc → ∀ y rest acc σ₁, J (y :: rest) acc σ₁ → evT c' ((x, some y) :: fr) t σ₁ fun b σ₂ => match b with
      | true => ev c' ((x, some y) :: fr) elt σ₂ fun z σ₃ => J rest (acc ++ [z]) σ₃
      | false => J rest acc σ₂)
    (hRR : ∀ D C l' σ' h' tk m vs n, J [] l' σ' → D ∉ c.own → C ∉ c.own → C ≠ D → s.heap.objs.size ≤ D → s.heap.objs.size ≤ C → h'.get? D = some (lstO vs n) →
      RepL g.w (fz h' (C :: D :: c.own) σ') vs l' → h'.Ns C m → (c.F σ s).le (fz h' (C :: D :: c.own) σ') → (∀ a ∈ c.own, ∀ o, s.heap.get? a = some o → h'.get? a = some o) →
      Mine.Inv g.w g.H₀ (C :: D :: c.own) σ' { s with heap := h', toks := tk } → l'.length ≤ l.length → RR (.ref D) C (.ok .next) { s with heap := h', toks := tk }) :
    wpAny g.M c.A (pyIter v) (fun it s₂ => wpAny g.M c.A (newList []) (fun acc s₃ => wpAny g.M c.A (newFunctionEnv scope c.env.globals (closN c.env.cells scope.names []) [] c.env.qual none .none (some c.env)) (fun cenv s₄ =>
      codeAny g.M c.A (.compStart (.ListComp elt [⟨.Name x px, iter, t.toList, 0⟩] scope pos) 0 it acc { cenv with scope := relabel scope c.env }) (RR acc cenv.locals) s₄) E s₃) E s₂) E s := by
  obtain ⟨hkind, hone, hcell, hfree, hnames, hx, hdbg, hnd, hfrk⟩ := compOkC_facts hok
  have hxf : ∀ n ∈ fr.map (·.1), n ≠ x := fun n hn => by rintro rfl; exact (List.nodup_cons.mp hnd).1 hn
  refine wpAny_mono (hit σ s v st.inv r E) (fun it s₂ q_ => ?_) fun _ _ e => e
  obtain ⟨I, fp, P, Sx, hI, W, hS, ⟨h₂, tk₂, hs₂⟩, hk, hszI, hlv0, hfp, hP⟩ := q_
  have hlv : ∀ j h, Sx j h → ∃ o, h.get? I = some o := fun j h hx => (hlv0 j h hx).imp fun _ q => q.1
  subst hI
  subst hs₂
  refine wpAny_newObj_type (newEnv_one hone ?_)
  dsimp only
  have hIlt : I < h₂.objs.size := by obtain ⟨o, ho⟩ := hlv 0 _ hS; exact Heap.lt_size ho
  generalize hD : h₂.objs.size = D
  generalize hH2 : h₂.push { cls := .type "list", dict := none, data := .seq ([] : List Value).toArray } = H2
  have hC : H2.objs.size = D + 1 := by rw [← hH2, Heap.size_push, hD]
  generalize hK : H2.objs.size + 1 = K
  generalize hh₁ : (H2.push { cls := .type "dict", data := .dict #[] }).push { cls := .type "cell", data := .cell none } = h₁
  have hns₁ : h₁.Ns H2.objs.size (fun _ => none) := by
    rw [← hh₁]
    exact (Heap.Ns.new H2 _).at' fun o e => Heap.get?_push_of_some _ e
  have hcl₁ : h₁.IsCell K none := ⟨_, by rw [← hh₁, ← hK, show H2.objs.size + 1 = (H2.push { cls := .type "dict", data := .dict #[] }).objs.size from (Heap.size_push ..).symm]; exact Heap.get?_push_size _ rfl, rfl⟩
  have hex₁ : ∀ b o, H2.get? b = some o → h₁.get? b = some o := fun b o e => by rw [← hh₁]; exact Heap.get?_push_of_some _ (Heap.get?_push_of_some _ e)
  generalize hCe : H2.objs.size = C at hns₁ hC hK ⊢
  have hscR : relabel scope c.env = relab scope c.sc := relabel_eq st.fr.sc
  have hfreeC : ∀ y ∈ scope.names, y.2 = .free → ∃ a, c.env.cells.lookup y.1 = some a := fun y hy hf => by
    obtain ⟨p, hp, e⟩ := List.mem_map.mp (hfree y hy hf)
    have h1 := (hfr p hp).1
    rw [e] at h1
    have hk1 := hfrk y.1 (hfree y hy hf)
    have hk2 := ((relabN_cell' hcell hk1).resolve_left (hxf _ (hfree y hy hf))).2
    rcases (st.fr.kinds y.1 h1).2 with q | ⟨_, q⟩
    · rw [hk2] at q; cases q
    · exact q
  generalize hcl : closN c.env.cells scope.names [] = cl
  have hclget : ∀ n a, cl.lookup n = some a → c.env.cells.lookup n = some a := fun n a h => by
    rw [← hcl] at h
    exact (closN_get hfreeC h).resolve_right (by simp)
  have hclhas : ∀ n, scope.names.lookup n = some .free → ∃ a, cl.lookup n = some a := fun n h => by
    rw [← hcl]
    exact Option.isSome_iff_exists.mp (closN_has (.inl h))
  have hDs : s.heap.objs.size ≤ D := by
    rw [← hD]
    exact Nat.le_trans hszI (Nat.le_of_lt hIlt)
  have hIo : I ∉ c.own := (st.inv.fresh hszI).2
  have hDo : D ∉ c.own := (st.inv.fresh hDs).2
  have hCs : s.heap.objs.size ≤ C := by rw [hC]; exact Nat.le_succ_of_le hDs
  have hCo : C ∉ c.own := (st.inv.fresh hCs).2
  have hCD : C ≠ D := by rw [hC]; exact Nat.ne_of_gt (Nat.lt_succ_self _)
  have hKC : K ≠ C := by rw [← hK]; exact Nat.ne_of_gt (Nat.lt_succ_self _)
  have hKD : K ≠ D := by rw [← hK, hC]; exact Nat.ne_of_gt (Nat.lt_succ_of_lt (Nat.lt_succ_self _))
  have hKs : s.heap.objs.size ≤ K := by rw [← hK]; exact Nat.le_succ_of_le hCs
  have hKo : K ∉ c.own := (st.inv.fresh hKs).2
  have hID : I ≠ D := by rw [← hD]; exact Nat.ne_of_lt hIlt
  have hIC : I ≠ C := by rw [hC]; rw [hD] at hIlt; exact Nat.ne_of_lt (Nat.lt_succ_of_lt hIlt)
  have hIK : I ≠ K := by rw [← hK, hC]; rw [hD] at hIlt; exact Nat.ne_of_lt (Nat.lt_succ_of_lt (Nat.lt_succ_of_lt hIlt))
  have old : ∀ b o, h₂.get? b = some o → h₁.get? b = some o := fun b o e => hex₁ b o (hH2 ▸ Heap.get?_push_of_some _ e)
  have oldS : ∀ b o, s.heap.get? b = some o → h₁.get? b = some o := fun b o e => old b o (hk b o e)
  have hacc₁ : h₁.get? D = some (lstO [] 0) := hex₁ _ _ (hH2 ▸ hD ▸ Heap.get?_push_size _ rfl)
  have hS₁ : Sx 0 h₁ := W.frame _ _ _ hS fun b _ o e => old b o e
  -- the comprehension's own context
  generalize hE' : compEnvC scope ((x, K) :: cl) C c.env = env'
  have he1 : env'.scope = relab scope c.sc := by rw [← hE', ← hscR]; rfl
  have he2 : env'.locals = C := by rw [← hE']; rfl
  have he3 : env'.cells = (x, K) :: cl := by rw [← hE']; rfl
  have he6 : ∀ n a, env'.cells.lookup n = some a → (n = x ∧ a = K) ∨ (n ≠ x ∧ cl.lookup n = some a) := fun n a h => by
    rw [he3, List.lookup_cons] at h
    cases hn : n == x with
    | true => rw [hn] at h; exact .inl ⟨by simpa using hn, (Option.some.inj h).symm⟩
    | false => rw [hn] at h; exact .inr ⟨by simpa using hn, h⟩
  have he4 : env'.globals = mainGlobals := by rw [← hE']; exact st.fr.glob
  have he5 : env'.builtins = builtinsNs := by rw [← hE']; exact st.fr.blt
  show codeAny g.M c.A (.compStart (.ListComp elt [⟨.Name x px, iter, t.toList, 0⟩] scope pos) 0 (.ref I) (.ref D) (compEnvC scope ((x, K) :: cl) C c.env)) (RR (.ref D) C) _
  rw [hE']
  let c' : Cx g := ⟨c.A, env', C :: D :: I :: K :: c.own, D :: I :: c.own, notedBy g.M c.A env' fun e s' => RR (.ref D) C (.error e) s', relab scope c.sc, false⟩
  have hF₁ : (c.F σ s).le (fz h₁ c'.own σ) := fun b o e => by
    obtain ⟨e1, e2, e3⟩ := fz_eq.mp e
    have hb := Heap.lt_size e3
    refine fz_eq.mpr ⟨e1, fun hm => ?_, oldS b o e3⟩
    rcases List.mem_cons.mp hm with q | hm
    · exact absurd hb (q ▸ Nat.not_lt.mpr hCs)
    rcases List.mem_cons.mp hm with q | hm
    · exact absurd hb (q ▸ Nat.not_lt.mpr hDs)
    rcases List.mem_cons.mp hm with q | hm
    · exact absurd hb (q ▸ Nat.not_lt.mpr hszI)
    rcases List.mem_cons.mp hm with q | hm
    · exact absurd hb (q ▸ Nat.not_lt.mpr hKs)
    · exact e2 hm
  have inv₁ : c'.Inv σ { s with heap := h₁, toks := tk₂ } := by
    refine ⟨fun b o e => hF₁ b o (st.inv.keep b o e), fun a z e => (st.inv.objs a z e).mono hF₁ fun o e => oldS a o e, fun a ha => ?_, fun a ha => ?_⟩
    · rcases List.mem_cons.mp ha with rfl | ha
      · exact (st.inv.fresh hCs).1
      rcases List.mem_cons.mp ha with rfl | ha
      · exact (st.inv.fresh hDs).1
      rcases List.mem_cons.mp ha with rfl | ha
      · exact (st.inv.fresh hszI).1
      rcases List.mem_cons.mp ha with rfl | ha
      · exact (st.inv.fresh hKs).1
      · exact st.inv.off a ha
    · rcases List.mem_cons.mp ha with rfl | ha
      · obtain ⟨o, _, _, ho, _⟩ := hns₁; exact ⟨o, ho⟩
      rcases List.mem_cons.mp ha with rfl | ha
      · exact ⟨_, hacc₁⟩
      rcases List.mem_cons.mp ha with rfl | ha
      · exact hlv 0 _ hS₁
      rcases List.mem_cons.mp ha with rfl | ha
      · obtain ⟨o, ho, _⟩ := hcl₁; exact ⟨o, ho⟩
      · obtain ⟨o, ho⟩ := st.inv.live a ha; exact ⟨o, oldS a o ho⟩
  have hidS : ∀ a ∈ c'.hid, a ∈ c'.own := fun a ha => by
    simp only [c', List.mem_cons] at ha ⊢
    rcases ha with ha | ha | ha
    · exact .inr (.inl ha)
    · exact .inr (.inr (.inl ha))
    · exact .inr (.inr (.inr (.inr ha)))
  have fr' : Frame c' (((x, (Option.none : Option AV)) :: fr).map (·.1)) := by
    refine ⟨he1, (fun h => by cases h), ?_, he4, he5, ?_, ?_, fun a ha => hidS a ha, fun n a ha => ?_, (fun h => by cases h), fun n hn => ?_, ?_⟩
    · show env'.scope.kind = _; rw [he1]; exact hkind
    · show env'.locals ∈ _; rw [he2]; exact List.mem_cons_self
    · show env'.locals ∉ _
      rw [he2]
      simp only [List.mem_cons, not_or, c']
      exact ⟨hCD, Ne.symm hIC, hCo⟩
    · rcases he6 n a ha with ⟨_, rfl⟩ | ⟨_, ha'⟩
      · exact ⟨List.mem_cons_of_mem _ (List.mem_cons_of_mem _ (List.mem_cons_of_mem _ List.mem_cons_self)), by show a ≠ env'.locals; rw [he2]; exact hKC⟩
      have := (st.fr.cells n a (hclget n a ha')).1
      refine ⟨List.mem_cons_of_mem _ (List.mem_cons_of_mem _ (List.mem_cons_of_mem _ (List.mem_cons_of_mem _ this))), ?_⟩
      show a ≠ env'.locals
      rw [he2]
      rintro rfl
      exact hCo this
    · rcases List.mem_cons.mp hn with rfl | hn
      · refine ⟨hdbg, .inr ⟨relabN_keep hx, K, ?_⟩⟩
        show env'.cells.lookup _ = some K
        rw [he3, List.lookup_cons, beq_self_eq_true]
      · obtain ⟨p, hp, rfl⟩ := List.mem_map.mp hn
        have hk1 := hfrk p.1 hn
        refine ⟨(st.fr.kinds p.1 (hfr p hp).1).1, .inr ⟨hk1, ?_⟩⟩
        show ∃ a, env'.cells.lookup p.1 = some a
        rw [he3, List.lookup_cons, beq_eq_false_iff_ne.mpr (hxf _ hn)]
        exact hclhas p.1 ((relabN_cell' hcell hk1).resolve_left (hxf _ hn)).1
    · exact hnd
  -- the state at a turn
  have mkSt : ∀ {σ' : Sto} {s' : Shared} {m : Str → Option Value} {u : Value} {z : AV}, c'.Inv σ' s' → s'.heap.Ns C m → s'.heap.IsCell K (some u) → Rep g.w (c'.F σ' s') u z → (c.F σ s).le (c'.F σ' s') → (∀ a ∈ c.own, ∀ o, s.heap.get? a = some o → s'.heap.get? a = some o) →
      St c' ((x, some z) :: fr) σ' s' := by
    intro σ' s' m u z hi hn hm hz hle hown
    refine ⟨hi, fr', ⟨m, by show s'.heap.Ns env'.locals m; rw [he2]; exact hn, fun n w' hw hkn => ?_⟩, fun n a hkn ha => ?_⟩
    · have hkn' : (relab scope c.sc).names.lookup n = some .local := hkn
      rcases List.mem_cons.mp hw with e | hw
      · injection e with e1 e2
        subst e1
        have := relabN_keep (sc := c.sc) hx
        rw [show (relab scope c.sc).names.lookup n = some .cell from this] at hkn'; cases hkn'
      · have := hfrk n (List.mem_map.mpr ⟨_, hw, rfl⟩)
        rw [this] at hkn'; cases hkn'
    · have hkn' : (relab scope c.sc).names.lookup n = some .cell := hkn
      rcases he6 n a ha with ⟨rfl, rfl⟩ | ⟨hnx, ha'⟩
      · refine ⟨some u, hm, fun w' hw => ?_⟩
        rcases List.mem_cons.mp hw with e | hw
        · injection e with e1 e2
          injection e2 with e2
          subst e2
          exact ⟨u, rfl, hz⟩
        · exact absurd rfl (hxf n (List.mem_map.mpr ⟨_, hw, rfl⟩))
      have hcn := hclget n a ha'
      obtain ⟨vo, ⟨o, ho, hd⟩, hv⟩ := st.cl n a ((relabN_cell' hcell hkn').resolve_left hnx).2 hcn
      refine ⟨vo, ⟨o, hown a (st.fr.cells n a hcn).1 o ho, hd⟩, fun w' hw => ?_⟩
      rcases List.mem_cons.mp hw with e | hw
      · injection e with e1 e2
        exact absurd e1 hnx
      · obtain ⟨u', e1, e2⟩ := hv w' ((hfr _ hw).2 w' rfl)
        exact ⟨u', e1, e2.mono hle⟩
  have loop : codeAny g.M c.A (.compLoop (.ListComp elt [⟨.Name x px, iter, t.toList, 0⟩] scope pos) 0 (.ref I) (.ref D) env') (RR (.ref D) C) { s with heap := h₁, toks := tk₂ } := by
   refine comp_loopG (elt := elt) (iter := iter) (tgt := .Name x px) (pos := pos) (t := t) (scope := scope) (sc' := relab scope c.sc) (R := RR (.ref D) C) (hid' := D :: I :: c.own) (Slot := fun h => (∃ m, h.Ns C m) ∧ ∃ vo, h.IsCell K vo) (tk₁ := tk₂) (fun z => [(x, some z)]) (fun _ => True) J W hlv0 hfp hP (List.mem_cons_of_mem _ (List.mem_cons_of_mem _ List.mem_cons_self)) (List.mem_cons_of_mem _ List.mem_cons_self) (own' := C :: D :: I :: K :: c.own) (Z := K) (List.mem_cons_of_mem _ (List.mem_cons_of_mem _ (List.mem_cons_of_mem _ List.mem_cons_self))) (fun a ha => List.mem_cons_of_mem _ (List.mem_cons_of_mem _ (List.mem_cons_of_mem _ (List.mem_cons_of_mem _ ha)))) hDo hKo hIo hID hIK hKD hKs hsz
    (fun ⟨⟨m, hn⟩, vo, o, ho, hd⟩ hk => ⟨⟨m, hn.at' (hk C List.mem_cons_self hCD (Ne.symm hIC))⟩, vo, o, hk K (List.mem_cons_of_mem _ (List.mem_cons_of_mem _ (List.mem_cons_of_mem _ List.mem_cons_self))) hKD (Ne.symm hIK) o ho, hd⟩)
    (fun {σ' s' u z Q E} hi ⟨⟨m, hn⟩, vo, hc⟩ hz _ hle hown hq => by
      refine wpAny_assign_Name (wpAny_storeName_cell (by rw [he1]; exact hkind) (by unfold Env.kindOf; rw [he1]; exact relabN_keep hx) (by rw [he3, List.lookup_cons, beq_self_eq_true]) hc fun h₄ hc₄ hs₄ => ?_)
      have hk₄ : ∀ b o, b ≠ K → s'.heap.get? b = some o → h₄.get? b = some o := fun b o hb e => (hs₄.2 b hb).trans e
      have hn₄ : h₄.Ns C m := hn.at' fun o e => hk₄ C o (Ne.symm hKC) e
      obtain ⟨inv₄, le34⟩ := hi.slot (tk := _) (List.mem_cons_of_mem _ (List.mem_cons_of_mem _ (List.mem_cons_of_mem _ List.mem_cons_self))) hk₄ (let ⟨o, ho, _⟩ := hc₄; ⟨o, ho⟩)
      exact hq h₄ _ inv₄ ⟨⟨m, hn₄⟩, _, hc₄⟩ (mkSt inv₄ hn₄ hc₄ (hz.mono le34) (hle.trans le34) fun a ha o ho => hk₄ a o (by rintro rfl; exact hKo ha) (hown a ha o ho)) le34 hk₄)
    (fun _ _ _ _ _ => trivial) (fun y rest acc σ₁ hJ => turn c' rfl rfl y rest acc σ₁ hJ) hS₁ hacc₁ inv₁ ⟨⟨_, hns₁⟩, _, hcl₁⟩ hF₁ (fun a _ o e => oldS a o e) hJ ?_
   intro acc σ' h' h₃ tk tk₃ vs n hJj hDj hi ⟨⟨m, hn⟩, _⟩ hvs hle hown hlen hk₃'
   have le₃ : (fz h' c'.own σ').le (fz h₃ (C :: D :: c.own) σ') := fun b o e => by
     obtain ⟨e1, e2, e3⟩ := fz_eq.mp e
     simp only [c', List.mem_cons, not_or] at e2
     refine fz_eq.mpr ⟨e1, ?_, hk₃' b o e2.2.2.1 e3⟩
     simp only [List.mem_cons, not_or]
     exact ⟨e2.1, e2.2.1, e2.2.2.2.2⟩
   have sub : ∀ a ∈ C :: D :: c.own, a ∈ c'.own ∧ a ≠ I := fun a ha => by
     rcases List.mem_cons.mp ha with rfl | ha
     · exact ⟨List.mem_cons_self, Ne.symm hIC⟩
     rcases List.mem_cons.mp ha with rfl | ha
     · exact ⟨List.mem_cons_of_mem _ List.mem_cons_self, Ne.symm hID⟩
     · exact ⟨List.mem_cons_of_mem _ (List.mem_cons_of_mem _ (List.mem_cons_of_mem _ (List.mem_cons_of_mem _ ha))), by rintro rfl; exact hIo ha⟩
   have hIin : I ∈ c'.own := List.mem_cons_of_mem _ (List.mem_cons_of_mem _ List.mem_cons_self)
   refine hRR D C acc σ' h₃ tk₃ m vs n (by simpa using hJj) hDo hCo hCD hDs hCs (hk₃' D _ (Ne.symm hID) hDj) (hvs.mono le₃) (hn.at' fun o e => hk₃' _ o (Ne.symm hIC) e) (hle.trans le₃)
     (fun a ha o ho => hk₃' a o (by rintro rfl; exact hIo ha) (hown a ha o ho)) ⟨fun b o e => le₃ b o (hi.keep b o e), fun a z e => (hi.objs a z e).mono le₃ fun o e' => hk₃' a o (by rintro rfl; rw [hi.off _ hIin] at e; cases e) e', fun a ha => hi.off a (sub a ha).1, fun a ha => ?_⟩ hlen
   obtain ⟨o, ho⟩ := hi.live a (sub a ha).1
   exact ⟨o, hk₃' a o (sub a ha).2 ho⟩
  exact codeAny_compStart_list loop (W.self 0 _ _ _ hS₁ loop)

theorem ev_mapC {sc : Scope} {elt iter : Expr} {x : Str} {px pos : Pos} {scope : Scope} {Q : AV → Sto → Prop} (fr : Rho) (J : List AV → List AV → Sto → Prop) (hsc : c.sc = sc) (hok : compOkC x (fr.map (·.1)) scope sc = true) (hfr : FrI fr ρ)
    (h : ev c ρ iter σ fun y σ₁ => ∃ l, Iter c y l ∧ l.length ≤ sizeLine ∧ J l [] σ₁)
    (turn : ∀ c' : Cx g, c'.A = c.A → c'.sc = relab scope sc → ∀ y rest acc σ₁, J (y :: rest) acc σ₁ → ev c' ((x, some y) :: fr) elt σ₁ fun z σ₃ => J rest (acc ++ [z]) σ₃)
    (done : ∀ acc σ₁, J [] acc σ₁ → Q (.list acc) σ₁)
    (hs : ∀ x, foldedSetIterable iter c.env x = pure x := by intro _; rfl) : ev c ρ (.ListComp elt [⟨.Name x px, iter, [], 0⟩] scope pos) σ Q := fun s st => by
  subst hsc
  have hfr' := hfr.frIn
  obtain ⟨hkind, hone, hcell, hfree, hnames, hx, hdbg, hnd, hfrk⟩ := compOkC_facts hok
  have hxf : ∀ n ∈ fr.map (·.1), n ≠ x := fun n hn => by rintro rfl; exact (List.nodup_cons.mp hnd).1 hn
  have hfreeC : ∀ y ∈ scope.names, y.2 = .free → ∃ a, c.env.cells.lookup y.1 = some a := fun y hy hf => by
    obtain ⟨p, hp, e⟩ := List.mem_map.mp (hfree y hy hf)
    have h1 := (hfr' p hp).1
    rw [e] at h1
    have hk2 := ((relabN_cell' hcell (hfrk y.1 (hfree y hy hf))).resolve_left (hxf _ (hfree y hy hf))).2
    rcases (st.fr.kinds y.1 h1).2 with q | ⟨_, q⟩
    · rw [hk2] at q; cases q
    · exact q
  show wpAny _ _ (eval _ _) _ _ _
  rw [eval_ListComp]
  refine wpAny_comprehension_free (use := none) rfl hs (closureFor_eq hfreeC) hkind hnames (pg.use (h s st) (fun v s₁ y σ₁ i₁ e₁ r₁ qq => ?_))
  obtain ⟨l, hit, hsz, hJ⟩ := qq
  have st₁ := st.ev i₁ e₁
  refine comp_coreC (t := none) (RR := fun acc C => compPost g.M c.A c.E none (fun v s' => ∃ x σ', c.Inv σ' s' ∧ c.Ev σ s σ' s' ∧ Rep g.w (c.F σ' s') v x ∧ Q x σ') acc C) J hok hfr' st₁ r₁ hit hJ hsz (fun c' hA hS y rest acc σ₁ hJ => turn c' hA hS y rest acc σ₁ hJ) ?_
  intro D C l' σ' h' tk m vs n hJ' hDo hCo hCD hDs hCs hDg hvs hn hle hown hi hlen
  refine ⟨m, hn, fun h'' hs'' => ?_⟩
  obtain ⟨i₂, e₂, r₂, d₂, o₂⟩ := comp_end (s := s₁) (tk := tk) hDo hCo hCD hDg hvs hle hown hi hs''
  refine ⟨.list l', σ', i₂, e₁.trans e₂, .list (fz_eq.mpr ⟨o₂, hDo, d₂⟩) r₂, done l' σ' hJ'⟩
end Mine

end

section
namespace Mine
open PySem

section
variable {prog : Program} {w : World} {A : Around} {E : Value → Shared → Prop} {R : Result → Shared → Prop} {I : Addr} {fp : List Addr} {n : Nat} {P : Nat → Value → Prop} {Sx : Nat → Heap → Prop}
noncomputable def catTo (ws : Nat → List Value) (i : Nat) : List Value := (List.range i).flatMap ws
theorem catTo_succ (ws : Nat → List Value) (i : Nat) : catTo ws (i + 1) = catTo ws i ++ ws i := by
  unfold catTo; rw [List.range_succ, List.flatMap_append]; simp
theorem sub_list_ty {T : String} (h : isSubtype (.type "list") (.type T) = pure false) {s : Shared} {a : Addr} {l : List Value} {n : Nat} {Q : Bool → Shared → Prop} (ha : s.heap.get? a = some (lstO l n)) (hq : Q false s) : wpAny (model prog w) A (isInstance (.ref a) (.type T)) Q E s :=
  wpAny_isInstance (T := "list") (b := false) ⟨_, ha, rfl⟩ h hq
theorem sum_loop (W : Walks prog w A.in1 I fp [I] n P Sx) (ws : Nat → List Value) (S : Addr) (hSf : S ∉ fp) (H : Heap) (hI : ∀ o, H.get? I = some o → False) (hS0 : ∀ o, H.get? S = some o → False) (hlv : ∀ j h, Sx j h → ∃ o, h.get? I = some o) (hit : ∀ j v, j < n → P j v → ∃ a m, v = .ref a ∧ H.get? a = some (lstO (ws j) m)) (t0 : Addr)
    (hz : ∀ j, j ≤ n → (catTo ws j).length ≤ sizeLine) :
    ∀ (k i : Nat) (s : Shared) (tot : Addr) (c m : Nat), n - i = k → i ≤ n → Sx i s.heap → (∀ b o, H.get? b = some o → s.heap.get? b = some o) → s.heap.get? S = some (lstO [.ref tot] c) → s.heap.get? tot = some (lstO (catTo ws i) m) → tot ≠ S → tot ≠ I → (tot = t0 ∨ H.get? tot = none) →
    (∀ h' tk tot m, (∀ b o, H.get? b = some o → h'.get? b = some o) → h'.get? tot = some (lstO (catTo ws n) m) → (tot = t0 ∨ H.get? tot = none) → R (.ok (.ret (.ref tot))) { s with heap := h', toks := tk }) →
    codeAny (model prog w) A (.builtin "sum.loop" ⟨[.ref I, .ref S, rawInt 2, rawInt 0], []⟩) R s := by
  have hSI : S ≠ I := fun h => hSf (W.sub _ (by rw [h]; exact List.mem_singleton_self _))
  intro k
  induction k with
  | zero =>
    intro i s tot c m hk hi hst hH hS htot h1 h2 h3 hR
    have hin : i = n := by omega
    subst hin
    refine codeAny_builtin F.entry_sum_loop ?_
    rw [Around.under_plainId F.plain_sum_loop _]
    show wpAny _ A.in1 (seqItems? (.ref S) >>= _) _ _ s
    refine wpAny_bind (wpAny_seqItems hS rfl ?_)
    show wpAny _ A.in1 (tryCatch (pyNext (.ref I)) _ >>= _) _ _ s
    refine wpAny_bind (wpAny_tryCatch (W.done s _ _ hst fun h' tk hk' => ?_))
    have hk2 : ∀ b o, b ≠ I → s.heap.get? b = some o → h'.get? b = some o := fun b o hb e => hk' b o (by simpa using hb) e
    exact wpAny_pure (hR h' tk tot m (fun b o e => hk2 b o (by rintro rfl; exact hI _ e) (hH b o e)) (hk2 tot _ h2 htot) h3)
  | succ k ih =>
    intro i s tot c m hk hi hst hH hS htot h1 h2 h3 hR
    have hlt : i < n := by omega
    refine codeAny_builtin F.entry_sum_loop ?_
    rw [Around.under_plainId F.plain_sum_loop _]
    show wpAny _ A.in1 (seqItems? (.ref S) >>= _) _ _ s
    refine wpAny_bind (wpAny_seqItems hS rfl ?_)
    show wpAny _ A.in1 (tryCatch (pyNext (.ref I)) _ >>= _) _ _ s
    refine wpAny_bind (wpAny_tryCatch (W.item i s _ _ hlt hst fun v h' tk hP hst' hk' => ?_))
    have hk2 : ∀ b o, b ≠ I → s.heap.get? b = some o → h'.get? b = some o := fun b o hb e => hk' b o (by simpa using hb) e
    have hmono : s.heap.objs.size ≤ h'.objs.size ∨ True := .inr trivial
    obtain ⟨a, m', rfl, ha⟩ := hit i v hlt hP
    have hS' := hk2 S _ hSI hS
    have ht' := hk2 tot _ h2 htot
    have ha' := hk2 a _ (by rintro rfl; exact hI _ ha) (hH a _ ha)
    have haS : a ≠ S := by rintro rfl; exact hS0 _ ha
    show wpAny _ A.in1 ((holding [Value.ref a] (binaryOp .Add (.ref tot) (.ref a))).attempt >>= _) _ _ _
    have hsz := hz (i + 1) hlt
    rw [catTo_succ, List.length_append] at hsz
    refine wpAny_bind (wpAny_attempt (wpAny_holding (PySem.P.add_list (items := (catTo ws i).toArray) (items2 := (ws i).toArray) ht' ha' ?_ (by rw [List.size_toArray, List.size_toArray]; exact hsz))))
    have eN : (catTo ws i).toArray ++ (ws i).toArray = (catTo ws (i + 1)).toArray := by rw [catTo_succ]; simp
    rw [eN]
    generalize hHn : h'.push { cls := .type "list", data := .seq (catTo ws (i + 1)).toArray } = hn
    have hN : hn.get? h'.objs.size = some (lstO (catTo ws (i + 1)) 0) := by rw [← hHn]; exact Heap.get?_push_size _ rfl
    have hkn : ∀ b o, h'.get? b = some o → hn.get? b = some o := fun b o e => by rw [← hHn]; exact Heap.get?_push_of_some _ e
    have hS'' := hkn S _ hS'
    have hNS : h'.objs.size ≠ S := fun e => Nat.lt_irrefl _ (e ▸ Heap.lt_size hS')
    show wpAny _ A.in1 (updateSeq S (fun _ => #[.ref h'.objs.size]) >>= _) _ _ _
    refine wpAny_bind ?_
    refine wpAny_updateSeq hS'' rfl ?_
    have hS2 := Heap.get?_update_self (Obj.mapSeq fun _ => #[Value.ref h'.objs.size]) hS'' rfl
    refine wpAny_bind (wpAny_letGo ?_)
    refine wpAny_bind ?_
    have oth : ∀ b o, b ≠ S → hn.get? b = some o → ((hn.update S (Obj.mapSeq fun _ => #[Value.ref h'.objs.size])).update S (Obj.mapSeq fun _ => #[Value.ref h'.objs.size])).get? b = some o :=
      fun b o hb e => (Heap.get?_update_other _ _ (Ne.symm hb)).trans ((Heap.get?_update_other _ _ (Ne.symm hb)).trans e)
    refine wpAny_updateSeq hS2 rfl (wpAny_pure ⟨plainId_quiet F.plain_sum_loop _, ih (i + 1) _ h'.objs.size _ 0 (by omega) hlt (W.frame _ _ _ hst' fun b hb o e => ?_) (fun b o e => ?_) (Heap.get?_update_self _ hS2 rfl) ?_ hNS ?_ ?_ fun h'' tk'' tot'' m'' hk'' ht'' h4 => ?_⟩)
    · exact oth b o (fun h => hSf (by rw [← h]; exact hb)) (hkn b o e)
    · exact oth b o (by rintro rfl; exact hS0 _ e) (hkn b o (hk2 b o (by rintro rfl; exact hI _ e) (hH b o e)))
    · exact oth _ _ hNS hN
    · intro e
      obtain ⟨o, ho⟩ := hlv _ _ hst'
      exact Nat.lt_irrefl _ (e ▸ Heap.lt_size ho)
    · refine .inr ?_
      cases hq : H.get? h'.objs.size with
      | none => rfl
      | some o => exact absurd (Heap.lt_size (hk2 _ _ (by rintro rfl; exact hI _ hq) (hH _ _ hq))) (Nat.lt_irrefl _)
    · exact hR h'' tk'' tot'' m'' hk'' ht'' h4

theorem args_sum2 (a b : Value) : argsOk "sum" ⟨[a, b], []⟩ := by unfold argsOk; kernel_rfl
theorem call_sum_lists {s : Shared} {x st : Addr} {vs : List Value} {nx ns : Nat} {ws : Nat → List Value} {Q : Value → Shared → Prop} (hh : A.handled = none) (hx : s.heap.get? x = some (lstO vs nx)) (hst : s.heap.get? st = some (lstO [] ns))
    (hit : ∀ j v, vs[j]? = some v → ∃ a m, v = .ref a ∧ s.heap.get? a = some (lstO (ws j) m)) (hz : ∀ j, j ≤ vs.length → (catTo ws j).length ≤ sizeLine)
    (hQ : ∀ h' tk tot m, (∀ b o, s.heap.get? b = some o → h'.get? b = some o) → h'.get? tot = some (lstO (catTo ws vs.length) m) → (tot = st ∨ s.heap.get? tot = none) → Q (.ref tot) { s with heap := h', toks := tk }) :
    wpAny (model prog w) A (call (.builtin "sum") [.ref x, .ref st]) Q E s := by
  refine call_function_tree F.kind_sum F.plain_sum F.entry_sum (args_sum2 _ _) ?_
  unfold Builtin.«sum»
  simp only [List.length_cons, List.length_nil]
  rw [if_neg (by decide)]
  refine wpAny_bind (wpAny_of_eq (show Builtin.Builtins.bindParams "sum" ["start"] 0 { pos := [.ref st] } = pure [some (.ref st)] from rfl) ?_)
  have hl : s.heap.IsList x vs.toArray := ⟨_, hx, rfl, nx, rfl⟩
  have hxlt := Heap.lt_size hx
  refine wpAny_bind (wpAny_pyIter_list hl ?_)
  refine wpAny_bind (wpAny_pure ?_)
  generalize hI : s.heap.objs.size = I
  generalize hh₂ : s.heap.push _ = h₂
  have hk : ∀ b o, s.heap.get? b = some o → h₂.get? b = some o := fun b o e => by rw [← hh₂]; exact Heap.get?_push_of_some _ e
  have hst2 := hk _ _ hst
  simp only [List.forIn_cons, List.forIn_nil]
  refine wpAny_bind (wpAny_bind (wpAny_bind (sub_list_ty PySem.F.sub_list_str hst2 ?_)))
  simp only [Bool.false_eq_true, if_false]
  refine wpAny_pure (wpAny_bind (wpAny_bind (sub_list_ty PySem.F.sub_list_bytes hst2 ?_)))
  simp only [Bool.false_eq_true, if_false]
  refine wpAny_pure (wpAny_bind (wpAny_bind (sub_list_ty PySem.F.sub_list_bytearray hst2 ?_)))
  simp only [Bool.false_eq_true, if_false]
  refine wpAny_pure (wpAny_pure ?_)
  refine wpAny_bind (wpAny_newObj_type ?_)
  have hS2 : h₂.objs.size = I + 1 := by rw [← hh₂, Heap.size_push, hI]
  have W : Walks prog w A.in1 I [I, x] [I] vs.toArray.size (fun i v => vs.toArray[i]? = some v) _ := Walks.list (A := A.in1) hh I x (by rw [← hI]; exact Nat.ne_of_lt hxlt) vs.toArray
  have hSf : h₂.objs.size ∉ [I, x] := by
    simp only [List.mem_cons, List.not_mem_nil, or_false, not_or]
    rw [hS2]
    exact ⟨Nat.ne_of_gt (Nat.lt_succ_self _), by rw [← hI]; exact Nat.ne_of_gt (Nat.lt_succ_of_lt hxlt)⟩
  refine wpAny_pure ⟨plainId_quiet F.plain_sum_loop _, sum_loop (t0 := st) W ws h₂.objs.size hSf s.heap (fun o e => ?_) (fun o e => ?_) (fun j h hx => let ⟨⟨o, ho, _⟩, _⟩ := hx; ⟨o, ho⟩) (fun j v hj hv => hit j v (by simpa using hv)) (fun j hj => hz j (by simpa using hj)) vs.toArray.size 0 _ st 0 ns rfl (Nat.zero_le _) ?_ (fun b o e => Heap.get?_push_of_some _ (hk b o e)) (Heap.get?_push_size _ rfl) (Heap.get?_push_of_some _ hst2) ?_ ?_ (.inl rfl) fun h' tk tot m h1 h2 h3 => hQ h' tk tot m h1 (by simpa using h2) h3⟩
  · exact absurd (Heap.lt_size e) (by rw [hI]; exact Nat.lt_irrefl _)
  · exact absurd (Heap.lt_size e) (by rw [hI, hS2]; exact Nat.not_lt.mpr (Nat.le_succ _))
  · refine ⟨⟨_, Heap.get?_push_of_some _ (by rw [← hh₂, ← hI]; exact Heap.get?_push_size _ rfl), rfl, rfl⟩, ⟨_, Heap.get?_push_of_some _ (hk _ _ hx), rfl, nx, rfl⟩⟩
  · rw [hS2]; exact Nat.ne_of_lt (Nat.lt_succ_of_lt (hI ▸ Heap.lt_size hst))
  · rw [← hI]; exact Nat.ne_of_lt (Heap.lt_size hst)
end

variable {g : Gx} {c : Cx g} {ρ : Rho} {σ : Sto} {Q : AV → Sto → Prop}
theorem repL_lists {w : World} {F : Fz} : ∀ {vs : List Value} {ll : List (List AV)}, RepL w F vs (ll.map .list) → ∃ ws : Nat → List Value, (∀ j v, vs[j]? = some v → ∃ a m, v = .ref a ∧ F a = some (lstO (ws j) m)) ∧ (∀ j, j ≤ vs.length → RepL w F (catTo ws j) (ll.take j).flatten)
  | [], [], _ => ⟨fun _ => [], fun j v h => by simp at h, fun j _ => by
      have : catTo (fun _ => ([] : List Value)) j = [] := by unfold catTo; simp
      rw [this]; simp; exact .nil⟩
  | v :: vs, [], h => by cases h
  | [], l :: ll, h => by cases h
  | v :: vs, l :: ll, h => by
    cases h with
    | cons h1 h2 =>
      obtain ⟨a, us, m, rfl, hF, hr⟩ := h1.invList
      obtain ⟨ws, i1, i2⟩ := repL_lists h2
      refine ⟨fun j => if j = 0 then us else ws (j - 1), fun j v' hv => ?_, fun j hj => ?_⟩
      · cases j with
        | zero => simp at hv; subst hv; exact ⟨a, m, rfl, hF⟩
        | succ j => simpa using i1 j v' (by simpa using hv)
      · cases j with
        | zero => exact .nil
        | succ j =>
          have e : catTo (fun j => if j = 0 then us else ws (j - 1)) (j + 1) = us ++ catTo ws j := by
            unfold catTo
            rw [List.range_succ_eq_map, List.flatMap_cons, List.flatMap_map]
            simp
          rw [e, List.take_succ_cons, List.flatten_cons]
          exact hr.append (i2 j (by simpa using hj))
theorem cal_sumL {ll : List (List AV)} (hh : c.A.handled = none) (hz : ll.flatten.length ≤ sizeLine) (q : Q (.list ll.flatten) σ) : cal c (.builtin "sum") [.list (ll.map .list), .list []] σ Q := fun s vs i r => by
  obtain ⟨_, _, rfl, r1, r2⟩ := r.two
  obtain ⟨x, us, nx, rfl, h1, hv⟩ := r1.invList
  obtain ⟨y, ys, ny, rfl, h2, hv2⟩ := r2.invList
  cases hv2
  obtain ⟨ws, w1, w2⟩ := repL_lists hv
  have hlen : us.length = ll.length := by simpa using hv.length
  refine call_sum_lists (ws := ws) hh (fz_sub _ _ h1) (fz_sub _ _ h2) (fun j v e => ?_) (fun j hj => ?_) fun h' tk tot m hk ht ho => ?_
  · obtain ⟨a, m, e1, e2⟩ := w1 j v e; exact ⟨a, m, e1, fz_sub _ _ e2⟩
  · rw [(w2 j hj).length]
    refine Nat.le_trans ?_ hz
    rw [← List.take_append_drop j ll, List.flatten_append, List.length_append, List.take_append_drop]
    exact Nat.le_add_right _ _
  · have hr := w2 us.length (Nat.le_refl _)
    rw [hlen, List.take_length] at hr
    rw [hlen] at ht
    refine ⟨.list ll.flatten, σ, i.keeps hk, .keeps hk, .list (n := m) (fz_eq.mpr ⟨?_, ?_, ht⟩) (hr.mono (keep_fz hk)), q⟩
    · rcases ho with rfl | ho
      · exact (fz_eq.mp h2).1
      · cases hq : σ tot with
        | none => rfl
        | some x => obtain ⟨o, e⟩ := (i.objs tot x hq).live; rw [ho] at e; cases e
    · rcases ho with rfl | ho
      · exact (fz_eq.mp h2).2.1
      · intro hm; obtain ⟨o, e⟩ := i.live tot hm; rw [ho] at e; cases e
end Mine

end

section
namespace Mine
open PySem
open scoped Classical
variable {g : Gx} {c : Cx g} {ρ : Rho} {σ : Sto} {Q : AV → Sto → Prop}

theorem assign2 {a b : Str} {pa pb pos : Pos} {k : Nat} {x y : AV} {v : Value} {ρ₁ ρ₂ : Rho} {s : Shared} {Q : Unit → Shared → Prop} {E : Value → Shared → Prop} (hs : St c ρ σ s) (hh : c.A.handled = none) (hc : c.isFn = true) (u1 : Upd a x ρ ρ₁) (u2 : Upd b y ρ₁ ρ₂) (r : Rep g.w (c.F σ s) v (.tup [x, y]))
    (q : ∀ s', St c ρ₂ σ s' → EvS c σ s σ s' → Q () s') : wpAny g.M c.A (assign (.Tuple [.Name a pa, .Name b pb] k pos) c.env v) Q E s := by
  obtain ⟨t, vs, n, rfl, hF, hr⟩ := r.invTup
  obtain ⟨v1, _, rfl, r1, hr⟩ := hr.invCons
  obtain ⟨v2, _, rfl, r2, hr⟩ := hr.invCons
  cases hr
  refine wpAny_assign_Tuple (items := #[v1, v2]) hh ⟨_, fz_sub _ _ hF, rfl, n, rfl⟩ rfl rfl fun h' he => ?_
  have hk : ∀ b o, s.heap.get? b = some o → h'.get? b = some o := fun b o e => he b o (Nat.ne_of_lt (Heap.lt_size e)) e
  have hs1 : St c ρ σ { s with heap := h', toks := s.toks } := hs.ev (hs.inv.keeps hk) (.keeps hk)
  have e1 : c.Ev σ s σ { s with heap := h', toks := s.toks } := .keeps hk
  show wpAny _ _ (assignInOrder [assign (.Name a pa) c.env, assign (.Name b pb) c.env] [v1, v2]) _ _ _
  refine wpAny_bind (wpAny_holding (wpAny_assign_Name (store_sound hs1 u1 hc (r1.mono e1.grow) fun s2 hs2 e2 => ?_)))
  refine wpAny_bind (wpAny_holding (wpAny_assign_Name (store_sound hs2 u2 hc (r2.mono (e1.grow.trans e2.grow)) fun s3 hs3 e3 => ?_)))
  exact wpAny_pure (q s3 hs3 (((e1.toS hs.fr.sub).trans e2).trans e3))
theorem es_unpack {a b : Str} {pa pb tpos : Pos} {k : Nat} {value : Expr} {pos : Pos} {Q : AFl → Rho → Sto → Prop} (hh : c.A.handled = none) (h : ev c ρ value σ fun z σ' => ∃ x y ρ₁ ρ₂, z = .tup [x, y] ∧ Upd a x ρ ρ₁ ∧ Upd b y ρ₁ ρ₂ ∧ Q .next ρ₂ σ') (hc : c.isFn = true)
    (hs : swapsWithSole [.Tuple [.Name a pa, .Name b pb] k tpos] value pos.line c.env = pure false := by rfl) (hw : swappedStores [.Tuple [.Name a pa, .Name b pb] k tpos] value c.env = pure none := by rfl) : es c ρ (exec (.Assign [.Tuple [.Name a pa, .Name b pb] k tpos] value pos) c.env) σ Q := fun s st => by
  refine wpAny_Assign_stores (pg.use (h s st) (fun v s₁ z σ₁ i₁ e₁ r₁ qq => ?_)) hs hw
  obtain ⟨x, y, ρ₁, ρ₂, hz, u1, u2, q₁⟩ := qq
  subst hz
  exact assign2 (k := k) (st.ev i₁ e₁) hh hc u1 u2 r₁ fun s' hs' e' => ⟨_, ρ₂, σ₁, hs', (e₁.toS st.fr.sub).trans e', .next, q₁⟩

theorem Xs.at_ {w : World} {F : Fz} {k : AV} {p : Addr × Value} : ∀ {xs : List (AV × Addr × Value)} {l : List (AV × AV)} {j : Nat}, Xs w F xs l → xs[j]? = some (k, p) → ∃ y, l[j]? = some (k, y) ∧ Rep w F p.2 y ∧ Rep w F (.ref p.1) k
  | _, _, j, .nil, h => by simp at h
  | _, _, 0, .cons t r1 r2 r, h => by
    simp only [List.getElem?_cons_zero, Option.some.injEq, Prod.mk.injEq] at h
    obtain ⟨rfl, rfl⟩ := h
    exact ⟨_, by simp, r2, r1⟩
  | _, _, j + 1, .cons t r1 r2 r, h => by simpa using r.at_ (by simpa using h)
theorem nodup_keys {l : List (AV × AV)} {k y y' : AV} {i j : Nat} (hn : (l.map (·.1)).Nodup) (h1 : l[i]? = some (k, y)) (h2 : l[j]? = some (k, y')) : y = y' := by
  have e1 : (l.map (·.1))[i]? = some k := by rw [List.getElem?_map, h1]; rfl
  have e2 : (l.map (·.1))[j]? = some k := by rw [List.getElem?_map, h2]; rfl
  have hi : i < (l.map (·.1)).length := (List.getElem?_eq_some_iff.mp e1).1
  have := (List.getElem?_inj hi hn).mp (e1.trans e2.symm)
  subst this
  rw [h1] at h2
  injection h2 with h2
  injection h2

theorem same_pairs {id : String} {x y : AV} {l : List (AV × AV)} {s : Shared} {u v : Value} {A : Around} {E : Value → Shared → Prop} {Q : Bool → Shared → Prop} (hx : Dct σ x l) (hy : Dct σ y l) (tl : tkeys l) (pl : ∀ p ∈ l, plain p.2 = true ∧ deep p.2 ≤ 4) (hu : A.units + 6 < cLine) (i : c.Inv σ s) (r1 : Rep g.w (c.F σ s) u x) (r2 : Rep g.w (c.F σ s) v y) :
    ∃ a b, u = .ref a ∧ v = .ref b ∧ s.TypeIs u "dict" ∧ s.TypeIs v "dict" ∧ (Q true s → wpAny g.M A (Builtin.Dict.samePairs id a b) Q E s) := by
  obtain ⟨a, ea, na, rfl, ha, ra, oka⟩ := hx.heap i r1
  obtain ⟨b, eb, nb, rfl, hb, rb, okb⟩ := hy.heap i r2
  obtain ⟨xs, hX, rfl⟩ := xs_of g.prog ra tl
  obtain ⟨ys, hY, rfl⟩ := xs_of g.prog rb tl
  refine ⟨a, b, rfl, rfl, ⟨_, ha, rfl⟩, ⟨_, hb, rfl⟩, fun q => ?_⟩
  have l1 := hX.length
  have l2 := hY.length
  unfold Builtin.Dict.samePairs Builtin.Dict.showsAll
  rw [if_neg (by rw [oka.2]; exact Bool.false_ne_true), if_neg (by rw [okb.2]; exact Bool.false_ne_true)]
  refine wpAny_bind (wpAny_pure (wpAny_bind (wpAny_pure ?_)))
  refine wpAny_bind (wpAny_dictEntries ha rfl ?_)
  dsimp only
  refine wpAny_bind (wpAny_dictEntries hb rfl ?_)
  rw [if_neg (by simp [l1, l2])]
  refine wpAny_bind (wpAny_dictEpoch ha rfl ?_)
  refine wpAny_bind ?_
  rw [Std.Legacy.Range.forIn_eq_forIn_range']
  simp only [Std.Legacy.Range.size, Nat.sub_zero, Nat.add_sub_cancel, Nat.div_one]
  refine wpAny_forIn_list _ (fun rest r s' => r.1 = none ∧ s' = s ∧ ∀ j ∈ rest, j < l.length) _ ?_ ?_ _ _ ⟨rfl, rfl, fun j hj => by simpa [l1, List.mem_range'] using hj⟩
  · rintro j rest r s' ⟨hr, rfl, hall⟩
    have hj := hall j List.mem_cons_self
    refine wpAny_bind (wpAny_dictEntries ha rfl ?_)
    have hjx : j < xs.length := by omega
    obtain ⟨⟨k, p⟩, hxj⟩ : ∃ q, xs[j] = q := ⟨_, rfl⟩
    have hxj' : xs[j]? = some (k, p) := by rw [List.getElem?_eq_getElem hjx, hxj]
    have e1 : (xs.map (entryOfKey (kd g.prog g.w))).toArray[j]? = some (entryOfKey (kd g.prog g.w) (k, p)) := by simp [hxj']
    rw [e1]
    obtain ⟨z, hz, rz, rk⟩ := hX.at_ hxj'
    have tk : tkey k = true := tl (k, z) (List.mem_of_getElem? hz)
    refine wpAny_bind (wpAny_holding ?_)
    show wpAny _ _ (dictFind b (.ref p.1) ((kd g.prog g.w).hash k) >>= _) _ _ _
    refine wpAny_bind (wpAny_dictFind_heap (knd := kd g.prog g.w) (xs := ys) (k := k) (by show A.units + 2 < cLine; omega) ⟨tk, rk.mono fz_sub⟩ hb rfl rfl (hY.is fz_sub) (by rw [hY.keys]; exact okb.1) ?_ ?_)
    · intro hno
      exfalso
      have hk : k ∈ ys.map (·.1) := by rw [hY.keys]; exact List.mem_map.mpr ⟨(k, z), List.mem_of_getElem? hz, rfl⟩
      obtain ⟨⟨k', p'⟩, hm, rfl⟩ := List.mem_map.mp hk
      obtain ⟨jj, hjj⟩ := List.mem_iff_getElem?.mp hm
      exact hno jj p' hjj
    · intro j' p' hj'
      obtain ⟨z', hz', rz', _⟩ := hY.at_ hj'
      have ez := nodup_keys oka.1 hz hz'
      subst ez
      refine wpAny_bind (wpAny_dictEntries hb rfl ?_)
      have e2 : (ys.map (entryOfKey (kd g.prog g.w))).toArray[j']? = some (entryOfKey (kd g.prog g.w) (k, p')) := by simp [hj']
      rw [e2]
      obtain ⟨pz, dz⟩ := pl (k, z) (List.mem_of_getElem? hz)
      refine wpAny_holding (eqAt 4 dz rz rz' pz pz fz_sub (by omega) _ _ _ _ ?_)
      rw [eqA_refl pz]
      simp only [Bool.not_true, Bool.false_eq_true, if_false]
      refine wpAny_bind (wpAny_dictEpoch ha rfl ?_)
      rw [if_neg (by simp)]
      exact wpAny_pure ⟨rfl, rfl, fun u hu => hall u (List.mem_cons_of_mem _ hu)⟩
  · rintro ⟨r1, r2⟩ s' ⟨hr, rfl, _⟩
    simp only at hr
    subst hr
    exact wpAny_pure q

theorem cmp_ned {x y : AV} {l : List (AV × AV)} (hx : Dct σ x l) (hy : Dct σ y l) (tl : tkeys l) (pl : ∀ p ∈ l, plain p.2 = true ∧ deep p.2 ≤ 4) (hu : c.A.units + 8 < cLine) (q : Q (.bool false) σ) : op2 c (compareOp .NotEq) x y σ Q := fun s u v i r1 r2 => by
  obtain ⟨a, b, rfl, rfl, h1, h2, h3⟩ := same_pairs (id := "dict.__ne__") (A := c.A.in1) (E := c.E) (Q := fun r s' => wpAny g.M c.A.in1 (ret (.bool (r == false))) (fun fin s' => ∃ v, fin = .done (.ret v) ∧ v ≠ .notImplemented ∧ ∃ x σ', c.Inv σ' s' ∧ c.Ev σ s σ' s' ∧ Rep g.w (c.F σ' s') v x ∧ Q x σ') c.E s') hx hy tl pl (by show c.A.units + 1 + 6 < cLine; omega) i r1 r2
  refine wpAny_richCompare_same_room (op := .NotEq) h1 h2 F.slot_dict_ne (wpAny_call_entry F.slot_dict_ne h1 F.entry_dict_ne ?_ (F.args_dict_ne_2 _ _)) (by omega)
  show wpAny _ _ (Builtin.Dict.dictSlotArgs "__ne__" ⟨[.ref a, .ref b], []⟩ >>= _) _ _ s
  unfold Builtin.Dict.dictSlotArgs
  refine wpAny_bind (wpAny_bind (wpAny_notOrdered_dict h1 ?_))
  show wpAny _ _ (pure (Value.ref a, Value.ref b)) _ _ s
  refine wpAny_pure ?_
  show wpAny _ _ (isInstance (.ref b) (.type "dict") >>= _) _ _ s
  refine wpAny_bind (wpAny_isInstance h2 isSubtype_dict_dict ?_)
  simp only [Bool.not_true, Bool.false_eq_true, if_false]
  show wpAny _ _ (Builtin.Dict.samePairs "dict.__ne__" a b >>= _) _ _ s
  refine wpAny_bind (h3 ?_)
  exact wpAny_pure ⟨_, rfl, (fun e => nomatch e), _, σ, i, .refl .., .bool _, q⟩
end Mine

end

section
namespace Mine
open PySem
variable {g : Gx} {c : Cx g} {ρ : Rho} {σ : Sto} {Q : AV → Sto → Prop}

theorem ev_filtP {α : Type} {sc : Scope} {elt iter test : Expr} {x : Str} {px pos : Pos} {scope : Scope} (fr : Rho) (inj : α → AV) (l : List α) (p : α → Bool) (f : α → AV) (hsc : c.sc = sc) (hok : compOk x (fr.map (·.1)) scope sc = true) (hfr : FrI fr ρ) (hz : l.length ≤ sizeLine)
    (h : ev c ρ iter σ fun y σ₁ => σ₁ = σ ∧ Iter c y (l.map inj))
    (turn : ∀ c' : Cx g, c'.A = c.A → c'.sc = relab scope sc → ∀ a ∈ l, evb c' ((x, some (inj a)) :: fr) test σ (fun b σ₂ => b = p a ∧ σ₂ = σ) ∧ (p a = true → ev c' ((x, some (inj a)) :: fr) elt σ fun z σ₃ => z = f a ∧ σ₃ = σ))
    (q : Q (.list ((l.filter p).map f)) σ)
    (hs : ∀ x, foldedSetIterable iter c.env x = pure x := by intro _; rfl) : ev c ρ (.ListComp elt [⟨.Name x px, iter, [test], 0⟩] scope pos) σ Q := by
  refine ev_filt fr (fun l' acc σ₁ => σ₁ = σ ∧ ∃ d r, l = d ++ r ∧ l' = r.map inj ∧ acc = (d.filter p).map f) hsc hok hfr (gv.mono h fun y σ₁ q => ⟨_, q.2, by simpa using hz, q.1, [], l, rfl, rfl, rfl⟩) ?_ ?_ hs
  · rintro c' hA hS y rest acc σ₁ ⟨rfl, d, r, hl, hr, rfl⟩
    cases r with
    | nil => cases hr
    | cons a r =>
      rw [List.map_cons] at hr
      injection hr with h1 h2
      subst h1; subst h2
      obtain ⟨t1, t2⟩ := turn c' hA hS a (by rw [hl]; simp)
      refine gv.mono t1 fun b σ₂ q_ => ?_
      obtain ⟨hb, hs2⟩ := q_
      subst hb; subst hs2
      refine ⟨fun hp => gv.mono (t2 hp) fun z σ₃ ⟨hz, hs3⟩ => ?_, fun hp => ?_⟩
      · subst hz; subst hs3
        exact ⟨rfl, d ++ [a], r, by rw [hl]; simp, rfl, by rw [List.filter_append, List.filter_cons_of_pos hp]; simp⟩
      · exact ⟨rfl, d ++ [a], r, by rw [hl]; simp, rfl, by rw [List.filter_append, List.filter_cons_of_neg (by rw [hp]; simp)]; simp⟩
  · rintro acc σ₁ ⟨rfl, d, r, hl, hr, rfl⟩
    have : r = [] := by cases r with | nil => rfl | cons _ _ => cases hr
    subst this
    rw [List.append_nil] at hl
    rw [← hl]; exact q
theorem ev_mapP {α : Type} {sc : Scope} {elt iter : Expr} {x : Str} {px pos : Pos} {scope : Scope} (fr : Rho) (inj : α → AV) (l : List α) (f : α → AV) (hsc : c.sc = sc) (hok : compOk x (fr.map (·.1)) scope sc = true) (hfr : FrI fr ρ) (hz : l.length ≤ sizeLine)
    (h : ev c ρ iter σ fun y σ₁ => σ₁ = σ ∧ Iter c y (l.map inj))
    (turn : ∀ c' : Cx g, c'.A = c.A → c'.sc = relab scope sc → ∀ a ∈ l, ev c' ((x, some (inj a)) :: fr) elt σ fun z σ₃ => z = f a ∧ σ₃ = σ)
    (q : Q (.list (l.map f)) σ)
    (hs : ∀ x, foldedSetIterable iter c.env x = pure x := by intro _; rfl) : ev c ρ (.ListComp elt [⟨.Name x px, iter, [], 0⟩] scope pos) σ Q := by
  refine ev_map fr (fun l' acc σ₁ => σ₁ = σ ∧ ∃ d r, l = d ++ r ∧ l' = r.map inj ∧ acc = d.map f) hsc hok hfr (gv.mono h fun y σ₁ q => ⟨_, q.2, by simpa using hz, q.1, [], l, rfl, rfl, rfl⟩) ?_ ?_ hs
  · rintro c' hA hS y rest acc σ₁ ⟨rfl, d, r, hl, hr, rfl⟩
    cases r with
    | nil => cases hr
    | cons a r =>
      rw [List.map_cons] at hr
      injection hr with h1 h2
      subst h1; subst h2
      refine gv.mono (turn c' hA hS a (by rw [hl]; simp)) fun z σ₃ q_ => ?_
      obtain ⟨hz, hs3⟩ := q_
      subst hz; subst hs3
      exact ⟨rfl, d ++ [a], r, by rw [hl]; simp, rfl, by simp⟩
  · rintro acc σ₁ ⟨rfl, d, r, hl, hr, rfl⟩
    have : r = [] := by cases r with | nil => rfl | cons _ _ => cases hr
    subst this
    rw [List.append_nil] at hl
    rw [← hl]; exact q
theorem ev_mapCP {α : Type} {sc : Scope} {elt iter : Expr} {x : Str} {px pos : Pos} {scope : Scope} (fr : Rho) (inj : α → AV) (l : List α) (f : α → AV) (hsc : c.sc = sc) (hok : compOkC x (fr.map (·.1)) scope sc = true) (hfr : FrI fr ρ) (hz : l.length ≤ sizeLine)
    (h : ev c ρ iter σ fun y σ₁ => σ₁ = σ ∧ Iter c y (l.map inj))
    (turn : ∀ c' : Cx g, c'.A = c.A → c'.sc = relab scope sc → ∀ a ∈ l, ev c' ((x, some (inj a)) :: fr) elt σ fun z σ₃ => z = f a ∧ σ₃ = σ)
    (q : Q (.list (l.map f)) σ)
    (hs : ∀ x, foldedSetIterable iter c.env x = pure x := by intro _; rfl) : ev c ρ (.ListComp elt [⟨.Name x px, iter, [], 0⟩] scope pos) σ Q := by
  refine ev_mapC fr (fun l' acc σ₁ => σ₁ = σ ∧ ∃ d r, l = d ++ r ∧ l' = r.map inj ∧ acc = d.map f) hsc hok hfr (gv.mono h fun y σ₁ q => ⟨_, q.2, by simpa using hz, q.1, [], l, rfl, rfl, rfl⟩) ?_ ?_ hs
  · rintro c' hA hS y rest acc σ₁ ⟨rfl, d, r, hl, hr, rfl⟩
    cases r with
    | nil => cases hr
    | cons a r =>
      rw [List.map_cons] at hr
      injection hr with h1 h2
      subst h1; subst h2
      refine gv.mono (turn c' hA hS a (by rw [hl]; simp)) fun z σ₃ q_ => ?_
      obtain ⟨hz, hs3⟩ := q_
      subst hz; subst hs3
      exact ⟨rfl, d ++ [a], r, by rw [hl]; simp, rfl, by simp⟩
  · rintro acc σ₁ ⟨rfl, d, r, hl, hr, rfl⟩
    have : r = [] := by cases r with | nil => rfl | cons _ _ => cases hr
    subst this
    rw [List.append_nil] at hl
    rw [← hl]; exact q

section
variable {a b : Int}
theorem cmp_ne (q : Q (.bool (a != b)) σ) : op2 c (compareOp .NotEq) (.int a) (.int b) σ Q := fun s x y i r1 r2 => by
  (first | obtain rfl := r1.invNil | obtain ⟨_, rfl⟩ := r1.invInt | obtain rfl := r1.invObj | obtain ⟨_, rfl⟩ := r1.invStr | obtain rfl := r1.invBool | obtain rfl := r1.invNone | obtain rfl := r1.invRaw); (first | obtain rfl := r2.invNil | obtain ⟨_, rfl⟩ := r2.invInt | obtain rfl := r2.invObj | obtain ⟨_, rfl⟩ := r2.invStr | obtain rfl := r2.invBool | obtain rfl := r2.invNone | obtain rfl := r2.invRaw); exact PySem.P.ne_int ⟨_, σ, i, .refl .., .bool _, q⟩
theorem cmp_le (q : Q (.bool (decide (a ≤ b))) σ) : op2 c (compareOp .LtE) (.int a) (.int b) σ Q := fun s x y i r1 r2 => by
  (first | obtain rfl := r1.invNil | obtain ⟨_, rfl⟩ := r1.invInt | obtain rfl := r1.invObj | obtain ⟨_, rfl⟩ := r1.invStr | obtain rfl := r1.invBool | obtain rfl := r1.invNone | obtain rfl := r1.invRaw); (first | obtain rfl := r2.invNil | obtain ⟨_, rfl⟩ := r2.invInt | obtain rfl := r2.invObj | obtain ⟨_, rfl⟩ := r2.invStr | obtain rfl := r2.invBool | obtain rfl := r2.invNone | obtain rfl := r2.invRaw); exact PySem.P.le_int ⟨_, σ, i, .refl .., .bool _, q⟩
end
noncomputable def pth (p : List Int) : AV := .tup (p.map .int)
theorem ints_plain (p : List Int) : plainL (p.map .int) = true := by
  induction p with
  | nil => rfl
  | cons a r ih => rw [List.map_cons]; unfold plainL; rw [ih]; rfl
theorem ints_keys (p : List Int) : areKeys (p.map .int) = true := by
  induction p with
  | nil => rfl
  | cons a r ih => rw [List.map_cons]; unfold areKeys; rw [ih]; rfl
theorem ints_deep (p : List Int) : deepL (p.map .int) = 0 := by
  induction p with
  | nil => rfl
  | cons a r ih => rw [List.map_cons]; unfold deepL; rw [ih]; rfl
theorem pth_tkey (p : List Int) : tkey (pth p) = true := by
  show (areKeys (p.map .int) && decide (deepL (p.map .int) ≤ 1)) = true
  rw [ints_keys, ints_deep]; rfl
theorem ints_any (p : List Int) (x : Int) : (p.map AV.int).any (eqA · (.int x)) = p.contains x := by
  induction p with
  | nil => rfl
  | cons a r ih => rw [List.map_cons, List.any_cons, ih, List.contains_cons]; show ((a == x) || _) = _; rw [Bool.beq_comm]
theorem pth_inj {p q : List Int} (h : pth p = pth q) : p = q := by
  unfold pth at h
  injection h with h
  induction p generalizing q with
  | nil => cases q with | nil => rfl | cons _ _ => cases h
  | cons a r ih =>
    cases q with
    | nil => cases h
    | cons b t =>
      rw [List.map_cons, List.map_cons] at h
      injection h with h1 h2
      injection h1 with h1
      rw [h1, ih h2]
noncomputable def hears (h : Int) (p : List Int) : List Int := (rngL 0 h).filter fun x => !p.contains x
theorem rngL_len (a b : Int) : (rngL a b).length = (b - a).toNat := by simp [rngL]
theorem mem_rngL {a b x : Int} : x ∈ rngL a b ↔ a ≤ x ∧ x < b := by
  simp only [rngL, List.mem_map, List.mem_range]
  constructor
  · rintro ⟨i, hi, rfl⟩; omega
  · intro h; exact ⟨(x - a).toNat, by omega, by omega⟩
end Mine

end

section
namespace Mine
open PySem
variable {g : Gx} {c : Cx g} {ρ : Rho} {σ : Sto}

theorem es_filtP {α : Type} {sc : Scope} {elt iter test : Expr} {x y : Str} {px py pos spos : Pos} {scope : Scope} {Q : AFl → Rho → Sto → Prop} (fr : Rho) (inj : α → AV) (l : List α) (p : α → Bool) (f : α → AV) (hfn : c.isFn = true) (hsc : c.sc = sc) (hsw : swOk y py pos scope sc = true) (hok : compOk x (fr.map (·.1)) scope sc = true) (hfr : FrI fr ρ) (hz : l.length ≤ sizeLine)
    (h : ev c ρ iter σ fun y σ₁ => σ₁ = σ ∧ Iter c y (l.map inj))
    (turn : ∀ c' : Cx g, c'.A = c.A → c'.sc = relab scope sc → ∀ a ∈ l, evb c' ((x, some (inj a)) :: fr) test σ (fun b σ₂ => b = p a ∧ σ₂ = σ) ∧ (p a = true → ev c' ((x, some (inj a)) :: fr) elt σ fun z σ₃ => z = f a ∧ σ₃ = σ))
    (q : Made (fun z σ₂ => ∃ ρ', Upd y z ρ ρ' ∧ Q .next ρ' σ₂) ((l.filter p).map f) σ)
    (hs : ∀ x, foldedSetIterable iter c.env x = pure x := by intro _; rfl) : es c ρ (exec (.Assign [.Name y py] (.ListComp elt [⟨.Name x px, iter, [test], 0⟩] scope pos) spos) c.env) σ Q := by
  refine es_filt fr (fun l' acc σ₁ => σ₁ = σ ∧ ∃ d r, l = d ++ r ∧ l' = r.map inj ∧ acc = (d.filter p).map f) hfn hsc hsw hok hfr (gv.mono h fun y σ₁ q => ⟨_, q.2, by simpa using hz, q.1, [], l, rfl, rfl, rfl⟩) ?_ ?_ hs
  · rintro c' hA hS y rest acc σ₁ ⟨rfl, d, r, hl, hr, rfl⟩
    cases r with
    | nil => cases hr
    | cons a r =>
      rw [List.map_cons] at hr
      injection hr with h1 h2
      subst h1; subst h2
      obtain ⟨t1, t2⟩ := turn c' hA hS a (by rw [hl]; simp)
      refine gv.mono t1 fun b σ₂ q_ => ?_
      obtain ⟨hb, hs2⟩ := q_
      subst hb; subst hs2
      refine ⟨fun hp => gv.mono (t2 hp) fun z σ₃ ⟨hz, hs3⟩ => ?_, fun hp => ?_⟩
      · subst hz; subst hs3
        exact ⟨rfl, d ++ [a], r, by rw [hl]; simp, rfl, by rw [List.filter_append, List.filter_cons_of_pos hp]; simp⟩
      · exact ⟨rfl, d ++ [a], r, by rw [hl]; simp, rfl, by rw [List.filter_append, List.filter_cons_of_neg (by rw [hp]; simp)]; simp⟩
  · rintro acc σ₁ ⟨rfl, d, r, hl, hr, rfl⟩
    have : r = [] := by cases r with | nil => rfl | cons _ _ => cases hr
    subst this
    rw [List.append_nil] at hl
    rw [← hl]; exact q
theorem es_mapP {α : Type} {sc : Scope} {elt iter : Expr} {x y : Str} {px py pos spos : Pos} {scope : Scope} {Q : AFl → Rho → Sto → Prop} (fr : Rho) (inj : α → AV) (l : List α) (f : α → AV) (hfn : c.isFn = true) (hsc : c.sc = sc) (hsw : swOk y py pos scope sc = true) (hok : compOk x (fr.map (·.1)) scope sc = true) (hfr : FrI fr ρ) (hz : l.length ≤ sizeLine)
    (h : ev c ρ iter σ fun y σ₁ => σ₁ = σ ∧ Iter c y (l.map inj))
    (turn : ∀ c' : Cx g, c'.A = c.A → c'.sc = relab scope sc → ∀ a ∈ l, ev c' ((x, some (inj a)) :: fr) elt σ fun z σ₃ => z = f a ∧ σ₃ = σ)
    (q : Made (fun z σ₂ => ∃ ρ', Upd y z ρ ρ' ∧ Q .next ρ' σ₂) (l.map f) σ)
    (hs : ∀ x, foldedSetIterable iter c.env x = pure x := by intro _; rfl) : es c ρ (exec (.Assign [.Name y py] (.ListComp elt [⟨.Name x px, iter, [], 0⟩] scope pos) spos) c.env) σ Q := by
  refine es_map fr (fun l' acc σ₁ => σ₁ = σ ∧ ∃ d r, l = d ++ r ∧ l' = r.map inj ∧ acc = d.map f) hfn hsc hsw hok hfr (gv.mono h fun y σ₁ q => ⟨_, q.2, by simpa using hz, q.1, [], l, rfl, rfl, rfl⟩) ?_ ?_ hs
  · rintro c' hA hS y rest acc σ₁ ⟨rfl, d, r, hl, hr, rfl⟩
    cases r with
    | nil => cases hr
    | cons a r =>
      rw [List.map_cons] at hr
      injection hr with h1 h2
      subst h1; subst h2
      refine gv.mono (turn c' hA hS a (by rw [hl]; simp)) fun z σ₃ q_ => ?_
      obtain ⟨hz, hs3⟩ := q_
      subst hz; subst hs3
      exact ⟨rfl, d ++ [a], r, by rw [hl]; simp, rfl, by simp⟩
  · rintro acc σ₁ ⟨rfl, d, r, hl, hr, rfl⟩
    have : r = [] := by cases r with | nil => rfl | cons _ _ => cases hr
    subst this
    rw [List.append_nil] at hl
    rw [← hl]; exact q
theorem br_nt {p q : Prop} (h : q) : br (!true) p q := br_false h
theorem br_nf {p q : Prop} (h : p) : br (!false) p q := br_true h
theorem Dct.set {x : AV} {l : List (AV × AV)} {a : Addr} {y : AObj} (h : Dct σ x l) (ha : σ a = none) : Dct (σ.set a y) x l := by
  rcases h with rfl | ⟨b, rfl, hb⟩
  · exact .dict
  · refine .obj ?_
    rw [Sto.set_ne (by rintro rfl; rw [ha] at hb; cases hb)]; exact hb
end Mine

end

section
namespace Mine
open PySem PySem.W
variable {g : Gx} {c : Cx g} {ρ : Rho} {σ : Sto}

noncomputable def atts (m : List (Str × AV)) : List (AV × AV) := m.map fun p => (.str p.1, p.2)
noncomputable def mset : List (Str × AV) → Str → AV → List (Str × AV)
  | [], x, y => [(x, y)]
  | (k, v) :: r, x, y => if k == x then (k, y) :: r else (k, v) :: mset r x y
theorem att_refs {w : World} {F : Fz} : ∀ {es : List DictEntry} {m : List (Str × AV)}, RepE w F es (atts m) → es.any (·.refKey) = false
  | _, [], .nil => rfl
  | _, (k, v) :: m, .cons _ hk _ r => by
    cases hk
    rw [List.any_cons, att_refs r]; rfl
theorem att_some {w : World} {F : Fz} {x : Str} {y : AV} : ∀ {es : List DictEntry} {m : List (Str × AV)}, RepE w F es (atts m) → m.lookup x = some y → ∃ e, es.find? (·.key.isStr x) = some e ∧ Rep w F e.val y
  | _, [], .nil, h => by cases h
  | _, (k, v) :: m, .cons _ hk hv r, h => by
    cases hk
    rename_i t es u
    by_cases e : k = x
    · subst e
      rw [List.lookup_cons, beq_self_eq_true] at h
      injection h with h; subst h
      exact ⟨_, List.find?_cons_of_pos (by simp [Value.isStr]), hv⟩
    · rw [List.lookup_cons, beq_eq_false_iff_ne.mpr (Ne.symm e)] at h
      obtain ⟨e', h1, h2⟩ := att_some r h
      exact ⟨e', by rw [List.find?_cons_of_neg (by simp [Value.isStr, e]), h1], h2⟩
theorem att_none {w : World} {F : Fz} {x : Str} : ∀ {es : List DictEntry} {m : List (Str × AV)}, RepE w F es (atts m) → m.lookup x = none → es.find? (·.key.isStr x) = none
  | _, [], .nil, h => rfl
  | _, (k, v) :: m, .cons _ hk hv r, h => by
    cases hk
    rename_i t es u
    by_cases e : k = x
    · subst e
      rw [List.lookup_cons, beq_self_eq_true] at h
      cases h
    · rw [List.lookup_cons, beq_eq_false_iff_ne.mpr (Ne.symm e)] at h
      rw [List.find?_cons_of_neg (by simp [Value.isStr, e]), att_none r h]
theorem att_put {w : World} {F : Fz} {x : Str} {t : Tok} {v : Value} {y : AV} (hv : Rep w F v y) : ∀ {es : List DictEntry} {m : List (Str × AV)}, RepE w F es (atts m) → RepE w F (putL x (hashStr w x) (.str x t) v es) (atts (mset m x y))
  | _, [], .nil => .cons (x := .str x) rfl (.str x t) hv .nil
  | _, (k, z) :: m, .cons hi hk hz r => by
    cases hk
    rename_i t' es u
    unfold putL mset
    by_cases e : k = x
    · subst e
      rw [if_pos (by simp [Value.isStr]), if_pos (by simp)]
      exact .cons hi (.str _ _) hv r
    · rw [if_neg (by simp [Value.isStr, e]), if_neg (by simpa using e)]
      exact .cons hi (.str _ _) hz (att_put hv r)
theorem mset_names {m : List (Str × AV)} {x : Str} {y : AV} : ((mset m x y).map (·.1)) = if x ∈ m.map (·.1) then m.map (·.1) else m.map (·.1) ++ [x] := by
  induction m with
  | nil => rfl
  | cons p r ih =>
    obtain ⟨k, v⟩ := p
    unfold mset
    by_cases e : k = x
    · subst e; simp
    · rw [if_neg (by simpa using e), List.map_cons, ih]
      by_cases h : x ∈ r.map (·.1)
      · simp [h]
      · have : ¬ x ∈ ((k, v) :: r).map (·.1) := by simp only [List.map_cons, List.mem_cons, not_or]; exact ⟨Ne.symm e, h⟩
        rw [if_neg h, if_neg this]; rfl
theorem atts_nodup {m : List (Str × AV)} (h : ((atts m).map (·.1)).Nodup) {x : Str} {y : AV} : ((atts (mset m x y)).map (·.1)).Nodup := by
  have e : ∀ m : List (Str × AV), (atts m).map (·.1) = (m.map (·.1)).map AV.str := fun m => by simp [atts]
  rw [e] at h ⊢
  have h' : (m.map (·.1)).Nodup := (List.pairwise_map.mp h).imp fun hab e => hab (by rw [e])
  have h2 : ((mset m x y).map (·.1)).Nodup := by
    rw [mset_names]
    split
    · exact h'
    · rename_i hx
      rw [List.nodup_append]
      exact ⟨h', by simp, fun a ha b hb e => hx (by rw [List.mem_singleton.mp hb] at e; exact e ▸ ha)⟩
  exact List.Pairwise.map _ (fun a b hab e => hab (by injection e)) h2

noncomputable def noRaw : AV → Bool
  | .raw _ => false
  | _ => true
theorem handed_of {w : World} {F : Fz} {v : Value} {y : AV} (r : Rep w F v y) (h : noRaw y = true) : handedIn v = true := by cases r <;> first | rfl | cases h

noncomputable def attrOk (K : Frag) (C : Addr) (x : Str) : Bool := findIn K (.ref C) "__getattribute__" == some (some (.builtin "object.__getattribute__")) && hasDictIn K C && (match findIn K (.ref C) x with | some a => noGet K a | none => false)
noncomputable def putOk (K : Frag) (C : Addr) (x : Str) : Bool := findIn K (.ref C) "__setattr__" == some (some (.builtin "object.__setattr__")) && plainOver K C && takerIn K C x == some none && hasDictIn K C
noncomputable def methOk (K : Frag) (C : Addr) (x : Str) (f : Addr) : Bool := findIn K (.ref C) "__getattribute__" == some (some (.builtin "object.__getattribute__")) && findIn K (.ref C) "__getattr__" == some none && findIn K (.ref C) x == some (some (.ref f)) && typeIn K (.ref f) == some (.type "function")

theorem inst_at {s : Shared} {a C d : Addr} {es : List DictEntry} {n : Nat} (i : c.Inv σ s) (ha : σ a = some (.inst C d)) (hd : s.heap.get? d = some (dctO es n)) : InstAt s.heap a { cls := .ref C, dict := some d, data := .plain } C (some (dctO es n)) :=
  ⟨i.objs a _ ha, rfl, rfl, hd⟩
theorem X_of {K : Frag} {s : Shared} (X : K.In g.H₀) (i : c.Inv σ s) : K.In s.heap := X.keeps fun b o e => (fz_eq.mp (i.keep b o e)).2.2

theorem ev_attr {K : Frag} {o : Expr} {x : Str} {pos : Pos} {Q : AV → Sto → Prop} (X : K.In g.H₀)
    (h : ev c ρ o σ fun y σ₁ => ∃ a C d m z, y = .obj a ∧ σ₁ a = some (.inst C d) ∧ σ₁ d = some (.dct (atts m)) ∧ attrOk K C x = true ∧ m.lookup x = some z ∧ noRaw z = true ∧ Q z σ₁)
    (he : eval (.Attribute o x pos) c.env = (do
      let v ← eval o c.env
      standAt pos.atName
      let r ← holding [v] (getAttr v x true)
      letTemporaryGo o v r
      pure r) := by with_unfolding_all rfl) : ev c ρ (.Attribute o x pos) σ Q := fun s st => by
  refine PyProof.Rows.Attribute_any_ (pg.use (h s st) (fun v s₁ y σ₁ i₁ e₁ r₁ qq => ?_)) he
  obtain ⟨a, C, d, m, z, hy, ha, hd, hk, hm, hz, q⟩ := qq
  subst hy
  (first | obtain rfl := r₁.invNil | obtain ⟨_, rfl⟩ := r₁.invInt | obtain rfl := r₁.invObj | obtain ⟨_, rfl⟩ := r₁.invStr | obtain rfl := r₁.invBool | obtain rfl := r₁.invNone | obtain rfl := r₁.invRaw)
  obtain ⟨es, n, hdo, hes, _⟩ := i₁.objs d _ hd
  obtain ⟨en, hf, hr⟩ := att_some hes hm
  unfold attrOk at hk
  simp only [Bool.and_eq_true, beq_iff_eq] at hk
  obtain ⟨⟨k1, k2⟩, k3⟩ := hk
  split at k3
  · rename_i at' hat
    refine get_value (X_of X i₁) (inst_at i₁ ha hdo) k1 (findObj_own k2 hat k3 ?_) (handed_of hr hz) ⟨z, σ₁, i₁.toks _, e₁.trans (.toks ..), hr, q⟩
    show getL x es = _
    unfold getL
    rw [hf]
  · cases k3

theorem ev_methI {K : Frag} {o e : Expr} {rest : List Expr} {x : Str} {apos pos : Pos} {f : Addr} {Q : AV → Sto → Prop} (X : K.In g.H₀) (ok : fnOk K f = true)
    (h : ev c ρ o σ fun y σ₁ => ∃ a C d m, y = .obj a ∧ σ₁ a = some (.inst C d) ∧ σ₁ d = some (.dct (atts m)) ∧ methOk K C x f = true ∧ m.lookup x = none ∧ evl c ρ (e :: rest) σ₁ fun xs σ₂ => cal c (.ref f) (y :: xs) σ₂ Q)
    (hbase : attributeBase o x c.env (eval o c.env) = eval o c.env := by rfl) (hline : (apos.endLine == pos.line) = true := by rfl) (hp : (e :: rest).all noStar = true := by rfl) (hfew : decide ((e :: rest).length < 30) = true := by rfl) :
    ev c ρ (.Call (.Attribute o x apos) (e :: rest) [] pos) σ Q := fun s st => by
  show wpAny _ _ (eval _ _) _ _ _
  rw [arm_eval_Call, hbase]
  refine wpAny_bind (pg.use (h s st) (fun v s₁ y σ₁ i₁ e₁ r₁ qq => ?_))
  obtain ⟨a, C, d, m, hy, ha, hd, hk, hm, q⟩ := qq
  subst hy
  have r0 := r₁
  (first | obtain rfl := r₁.invNil | obtain ⟨_, rfl⟩ := r₁.invInt | obtain rfl := r₁.invObj | obtain ⟨_, rfl⟩ := r₁.invStr | obtain rfl := r₁.invBool | obtain rfl := r₁.invNone | obtain rfl := r₁.invRaw)
  obtain ⟨es, n, hdo, hes, _⟩ := i₁.objs d _ hd
  unfold methOk at hk
  simp only [Bool.and_eq_true, beq_iff_eq] at hk
  obtain ⟨⟨⟨k1, k2⟩, k3⟩, k4⟩ := hk
  refine wpAny_bind (wpAny_standAt ?_)
  have hform : methodCallForm ((e :: rest).length + ([] : List Keyword).length) (backTo pos (starEach (e :: rest) c.env)) (backToKw pos (keywordEach [] c.env)) = true := by
    rw [starEach_plain hp]
    unfold methodCallForm
    simp only [Bool.and_eq_true]
    refine ⟨⟨?_, rfl⟩, ?_⟩
    · rw [List.all_map]; simp
    · rw [show backToKw pos (keywordEach [] c.env) = [] from rfl]; simpa using hfew
  have hpos : methodCallPos true o c.env apos pos = pure pos := by unfold methodCallPos; simp [hline]
  unfold methodCall
  rw [hform]
  refine wpAny_bind (wpAny_holding (method_fn (X_of X i₁) (inst_at i₁ ha hdo) k1 k2 k3 k4 ?_ ?_))
  · show (lookIn x (dctO es n)).map _ = _
    have : lookIn x (dctO es n) = some none := by
      show getL x es = _
      unfold getL
      rw [att_none hes hm, att_refs hes]; rfl
    rw [this]; rfl
  · refine wpAny_bind (wpAny_of_eq hpos ?_)
    have := callWith_any (pos := pos) (first := [.ref a]) (fx := [.obj a]) (callee_K X ok) hp (st.ev i₁ e₁) (.cons r0 .nil) q
    exact wpAny_mono this (fun v s₃ q_ => q_.elim fun z q => q.elim fun σ₃ q => ⟨z, σ₃, q.1, e₁.trans q.2.1, q.2.2⟩) fun _ _ e => e

theorem put_attr {prog : Program} {w : World} {A : Around} {E : Value → Shared → Prop} {s : Shared} {K : Frag} {a C d : Addr} {es : List DictEntry} {n : Nat} {x : Str} {v : Value} {Q : Unit → Shared → Prop} (X : K.In s.heap) (ha : s.heap.get? a = some { cls := .ref C, dict := some d, data := .plain })
    (hd : s.heap.get? d = some (dctO es n)) (hk : putOk K C x = true) (hr : es.any (·.refKey) = false) (hz : (putL x (PyData.keyHash w.params x) (.str x (s.toks + 1)) v es).length ≤ 1000)
    (h : ∀ h' n', h'.get? d = some (dctO (putL x (PyData.keyHash w.params x) (.str x (s.toks + 1)) v es) n') → Heap.SameBut d s.heap h' → Q () { s with heap := h', toks := s.toks + 2 }) : wpAny (model prog w) A (setAttr (.ref a) x v) Q E s := by
  unfold putOk at hk
  simp only [Bool.and_eq_true, beq_iff_eq] at hk
  obtain ⟨⟨⟨k1, k2⟩, k3⟩, k4⟩ := hk
  have I : InstAt s.heap a { cls := .ref C, dict := some d, data := .plain } C (some (dctO es n)) := ⟨ha, rfl, rfl, hd⟩
  obtain ⟨cd, hc, hdict⟩ := any_some k4
  refine set_plain X I k1 (osa_open (s := { s with toks := s.toks + 1 }) X I k2 k3 fun b => ?_)
  refine wpAny_bind (wpAny_pure (wpAny_bind (wpAny_bind (wpAny_loadPart ha (wpAny_bind (Looks.here (s := { s with toks := s.toks + 1 }) (looks_clsIn X hc) ?_))))))
  rw [hdict]
  refine wpAny_pure (a := some d) (wpAny_bind (wpAny_pure (wpAny_bind ?_)))
  unfold nsSet
  refine wpAny_bind (wpAny_bind (wpAny_askSetting (wpAny_pure (wpAny_bind (wpAny_mkText (wpAny_bind (wpAny_loadPart hd ?_)))))))
  dsimp only
  have cc : (!es.toArray.any (·.key.isStr x) && es.toArray.any (·.refKey)) = false := by
    rw [← Array.any_toList, ← Array.any_toList, hr, Bool.and_false]
  rw [aRefKeyMayBeTheName_at, cc]
  have D' := Heap.get?_update_self (Obj.putName x (PyData.keyHash w.params x) (.str x (s.toks + 1)) v) hd (by rw [putName_dict]; rfl)
  rw [putName_dict] at D'
  refine wpAny_updatePart hd ?_
  refine wpAny_bind (wpAny_lookBehind D' (pastItsLine_dict (by rw [List.size_toArray, sizeLine_eq]; omega)) ?_)
  exact wpAny_pure (h _ _ D' ⟨Heap.size_update .., fun b hb => Heap.get?_update_ne _ _ _ _ hb⟩)
theorem putL_len (x : Str) (h : Int) (k v : Value) : ∀ es : List DictEntry, (putL x h k v es).length ≤ es.length + 1
  | [] => Nat.le_refl _
  | e :: r => by
    unfold putL
    split
    · exact Nat.le_succ _
    · exact Nat.succ_le_succ (putL_len x h k v r)
theorem es_setattr {K : Frag} {o value : Expr} {x : Str} {pos' pos : Pos} {Q : AFl → Rho → Sto → Prop} (X : K.In g.H₀)
    (h : ev c ρ value σ fun z σ₁ => ev c ρ o σ₁ fun y σ₂ => ∃ a C d m, y = .obj a ∧ σ₂ a = some (.inst C d) ∧ σ₂ d = some (.dct (atts m)) ∧ putOk K C x = true ∧ m.length ≤ 99 ∧ Q .next ρ (σ₂.set d (.dct (atts (mset m x z)))))
    (hw : swapsWith value (some (.Attribute o x pos')) pos.line c.env = pure false := by rfl) : es c ρ (exec (.Assign [.Attribute o x pos'] value pos) c.env) σ Q := fun s hs => by
  refine plainObj_wpAny_Assign_Attribute (pg.use (h s hs) (fun vz s₁ z σ₁ i₁ e₁ r₁ q₁ => ?_)) hw
  refine pg.use (q₁ s₁ (hs.ev i₁ e₁)) (fun vy s₂ y σ₂ i₂ e₂ r₂ qq => ?_)
  obtain ⟨a, C, d, m, hy, ha, hd, hk, hz, q⟩ := qq
  subst hy
  (first | obtain rfl := r₂.invNil | obtain ⟨_, rfl⟩ := r₂.invInt | obtain rfl := r₂.invObj | obtain ⟨_, rfl⟩ := r₂.invStr | obtain rfl := r₂.invBool | obtain rfl := r₂.invNone | obtain rfl := r₂.invRaw)
  obtain ⟨es, n, hdo, hes, hok⟩ := i₂.objs d _ hd
  have hl : es.length ≤ 99 := by have := hes.length; unfold atts at this; rw [List.length_map] at this; omega
  refine put_attr (X_of X i₂) (i₂.objs a _ ha) hdo hk (att_refs hes) (Nat.le_trans (putL_len ..) (by omega)) fun h' n' hd' hs' => ?_
  obtain ⟨j1, j2⟩ := store_upd (tk := s₂.toks + 2) (y := .dct (atts (mset m x z))) i₂ hd hs' ⟨_, n', hd', att_put (r₁.mono e₂.grow) hes, ⟨atts_nodup hok.1, hok.2⟩⟩
  have e := (e₁.trans e₂).trans j2
  exact ⟨_, ρ, _, hs.ev j1 e, e.toS hs.fr.sub, .next, q⟩

noncomputable def makeOk (K : Frag) (C f : Addr) : Bool := makesIn K C && findIn K (.ref C) "__init__" == some (some (.ref f)) && typeIn K (.ref f) == some (.type "function")
theorem cal_make {K : Frag} {C f : Addr} {xs : List AV} {Q : AV → Sto → Prop} (X : K.In g.H₀) (ok : makeOk K C f = true) (hS : ∃ f o, sysModules ≤ f ∧ g.H₀.get? f = some o)
    (h : ∀ a d, σ a = none → σ d = none → a ≠ d → ∀ c' : Cx g, c'.A.depth = c.A.depth + 1 → c'.A.handled = c.A.handled → c'.A.units = c.A.units + 1 → calC c' (.ref f) (.obj a :: xs) ((σ.set d (.dct (atts []))).set a (.inst C d)) fun z σ' => z = .none ∧ Q (.obj a) σ') : cal c (.ref C) xs σ Q := fun s vs i r => by
  unfold makeOk at ok
  simp only [Bool.and_eq_true, beq_iff_eq] at ok
  obtain ⟨⟨k1, k2⟩, k3⟩ := ok
  have X' := X_of X i
  obtain ⟨hh, gg, dd, t, os⟩ := s
  have Y := makes_of (M := g.M) X' k1
  refine wpAny_call (make_core Y (looks_findIn X' k2) (fun self => bind_fn X' self k3) (.inl rfl) ?_)
  have hk : ∀ b o, hh.get? b = some o → ((hh.push emptyDict).push (instObj C hh.objs.size)).get? b = some o := fun b o e => push_keeps _ _ _ _ (push_keeps _ _ _ _ e)
  have hd1 : ((hh.push emptyDict).push (instObj C hh.objs.size)).get? hh.objs.size = some emptyDict := push_keeps _ _ _ _ (Heap.get?_push_size _ rfl)
  have ha1 : ((hh.push emptyDict).push (instObj C hh.objs.size)).get? (hh.objs.size + 1) = some (instObj C hh.objs.size) := by
    have := Heap.get?_push_size (hh.push emptyDict) (o := instObj C hh.objs.size) rfl
    rw [Heap.size_push] at this; exact this
  have f1 := i.fresh (a := hh.objs.size) (Nat.le_refl _)
  have f2 := i.fresh (a := hh.objs.size + 1) (Nat.le_succ _)
  have hne : hh.objs.size + 1 ≠ hh.objs.size := Nat.succ_ne_self _
  obtain ⟨j1, j2, j3⟩ : c.Inv ((σ.set hh.objs.size (.dct (atts []))).set (hh.objs.size + 1) (.inst C hh.objs.size)) ⟨(hh.push emptyDict).push (instObj C hh.objs.size), gg, dd, t, os⟩ ∧
      c.Ev σ ⟨hh, gg, dd, t, os⟩ ((σ.set hh.objs.size (.dct (atts []))).set (hh.objs.size + 1) (.inst C hh.objs.size)) ⟨(hh.push emptyDict).push (instObj C hh.objs.size), gg, dd, t, os⟩ ∧ True := by
    have p1 := store_new (c := c) (σ := σ) (tk := t) (D := hh.objs.size) (x := .dct (atts [])) (h' := hh.push emptyDict) i (push_keeps _ _) (Nat.le_refl _) (fun F _ => ⟨[], 0, Heap.get?_push_size _ rfl, .nil, new_ok i hS List.nodup_nil⟩)
    have p2 := store_new (c := c) (tk := t) (D := hh.objs.size + 1) (x := .inst C hh.objs.size) (h' := (hh.push emptyDict).push (instObj C hh.objs.size)) p1.1 (push_keeps _ _) (by show (hh.push emptyDict).objs.size ≤ _; rw [Heap.size_push]; exact Nat.le_refl _) (fun F _ => ha1)
    exact ⟨p2.1, p1.2.trans p2.2, trivial⟩
  have := h (hh.objs.size + 1) hh.objs.size f2.1 f1.1 hne { c with A := c.A.under (.builtin "type.__call__" ⟨.ref C :: vs, []⟩) } rfl rfl rfl ⟨(hh.push emptyDict).push (instObj C hh.objs.size), gg, dd, t, os⟩ (.ref (hh.objs.size + 1) :: vs) j1 (.cons (.obj _) (r.mono j2.grow))
  refine codeAny_mono this fun res s' z => ?_
  rcases res with e | (v | _ | _ | _)
  · exact z
  · exact z.elim
  · exact z.elim
  · exact z.elim
  · obtain ⟨y, σ', i', e', r', hy, q⟩ := z
    subst hy
    (first | obtain rfl := r'.invNil | obtain ⟨_, rfl⟩ := r'.invInt | obtain rfl := r'.invObj | obtain ⟨_, rfl⟩ := r'.invStr | obtain rfl := r'.invBool | obtain rfl := r'.invNone | obtain rfl := r'.invRaw)
    exact ⟨rfl, .obj (hh.objs.size + 1), σ', i', j2.trans e', .obj _, q⟩
end Mine

end

section
namespace Mine
open PySem PySem.W
variable {g : Gx} {c : Cx g} {ρ : Rho} {σ : Sto} {Q : AV → Sto → Prop}

theorem ev_globR {x pos v y} (hg : Glob g.H₀ x v) (hx : c.sc.names.lookup x = some .globalImplicit) (hr : ∀ F : Fz, Rep g.w F v y) (q : Q y σ) : ev c ρ (.Name x pos) σ Q := fun s hs =>
  wpAny_mono (ev_glob (Q := fun y' σ' => y' = .raw v ∧ σ' = σ) hg hx ⟨rfl, rfl⟩ s hs) (fun u s' ⟨z, σ', i, e, r, hz, hs'⟩ => by
    subst hz; subst hs'
    (first | obtain rfl := r.invNil | obtain ⟨_, rfl⟩ := r.invInt | obtain rfl := r.invObj | obtain ⟨_, rfl⟩ := r.invStr | obtain rfl := r.invBool | obtain rfl := r.invNone | obtain rfl := r.invRaw)
    exact ⟨y, σ', i, e, hr _, q⟩) fun _ _ e => e
theorem ev_globI {K : Frag} {sc : Scope} {x : Str} {pos : Pos} {i : Int} {t : Tok} (T : TopG g K) (hsc : c.sc = sc) (hn : nsIn K mainGlobals x = some (some (.int i t))) (hx : sc.names.lookup x = some .globalImplicit) (q : Q (.int i) σ) (hd : (x == ("__debug__" : Str)) = false := by rfl) : ev c ρ (.Name x pos) σ Q :=
  ev_globR (T.glob hn hd) (by rw [hsc]; exact hx) (fun F => .int i t) q
theorem ev_globS {K : Frag} {sc : Scope} {x y : Str} {pos : Pos} {t : Tok} (T : TopG g K) (hsc : c.sc = sc) (hn : nsIn K mainGlobals x = some (some (.str y t))) (hx : sc.names.lookup x = some .globalImplicit) (q : Q (.str y) σ) (hd : (x == ("__debug__" : Str)) = false := by rfl) : ev c ρ (.Name x pos) σ Q :=
  ev_globR (T.glob hn hd) (by rw [hsc]; exact hx) (fun F => .str y t) q

theorem ev_bltN {K : Frag} {sc : Scope} {x : Str} {pos : Pos} {v : Value} (hv : PySem.bootBuiltins x = some v) (T : TopG g K) (hsc : c.sc = sc) (hn : nsIn K mainGlobals x = some none) (hx : sc.names.lookup x = some .globalImplicit) (q : Q (.raw v) σ) (hn' : x ≠ "__name__" := by decide) (hd : (x == ("__debug__" : Str)) = false := by rfl) : ev c ρ (.Name x pos) σ Q :=
  ev_glob (T.blt hn hv hn' hd) (by rw [hsc]; exact hx) q
theorem ev_attrN {K : Frag} {a C d : Addr} {m : List (Str × AV)} {o x : Str} {po pos : Pos} {z : AV} (X : K.In g.H₀) (ho : MemR o (.obj a) ρ) (ha : σ a = some (.inst C d)) (hd : σ d = some (.dct (atts m))) (hk : attrOk K C x = true) (hm : m.lookup x = some z) (hz : noRaw z = true) (q : Q z σ)
    (he : eval (.Attribute (.Name o po) x pos) c.env = (do
      let v ← eval (.Name o po) c.env
      standAt pos.atName
      let r ← holding [v] (getAttr v x true)
      letTemporaryGo (.Name o po) v r
      pure r) := by with_unfolding_all rfl) : ev c ρ (.Attribute (.Name o po) x pos) σ Q :=
  ev_attr X (ev_nm ho ⟨a, C, d, m, z, rfl, ha, hd, hk, hm, hz, q⟩) he

theorem ev_callC {K : Frag} {sc : Scope} {id : Str} {p pos : Pos} {e : Expr} {rest : List Expr} {f : Addr} (T : TopG g K) (hsc : c.sc = sc) (hn : nsIn K mainGlobals id = some (some (.ref f))) (hx : sc.names.lookup id = some .globalImplicit) (ok : keepIn K (.ref f) = true)
    (h : evl c ρ (e :: rest) σ fun xs σ₁ => cal c (.ref f) xs σ₁ Q) (hd : (id == ("__debug__" : Str)) = false := by rfl) (hp : (e :: rest).all noStar = true := by rfl) : ev c ρ (.Call (.Name id p) (e :: rest) [] pos) σ Q :=
  ev_call (T.glob hn hd) (by rw [hsc]; exact hx) (.keeps fun h hk => keeps_K ok h (T.X.keeps hk)) h hp

theorem ev_Cmp2 {l m r o1 o2 pos} (h : ev c ρ l σ fun x σ₁ => ev c ρ m σ₁ fun y σ₂ => op2 c (compareOp o1) x y σ₂ fun z σ₃ => opb c truthy z σ₃ fun b σ₄ => br b (ev c ρ r σ₄ fun w σ₅ => op2 c (compareOp o2) y w σ₅ Q) (Q z σ₄))
    (hm : lastMarks [o1, o2] [m, r] = false := by with_unfolding_all rfl) : ev c ρ (.Compare l [o1, o2] [m, r] pos) σ Q := fun s hs => by
  refine PyProof.Rows.Compare_chain (pg.use (h s hs) (fun a s₁ x σ₁ i₁ e₁ r₁ q₁ => ?_)) hm
  refine PyProof.Rows.chain_link (pg.use (q₁ s₁ (hs.ev i₁ e₁)) (fun b s₂ y σ₂ i₂ e₂ r₂ q₂ => ?_))
  refine pg.use (q₂ s₂ a b i₂ (r₁.mono e₂.grow) r₂) (fun v s₃ z σ₃ i₃ e₃ r₃ q₃ => ?_)
  refine pg.use (q₃ s₃ v i₃ r₃) (fun t s₄ bb σ₄ i₄ e₄ r₄ q₄ => ?_)
  subst r₄
  have e04 := ((e₁.trans e₂).trans e₃).trans e₄
  cases t
  · exact ⟨z, σ₄, i₄, e04, r₃.mono e₄.grow, q₄.2 rfl⟩
  · refine PyProof.Rows.chain_last (pg.use (q₄.1 rfl s₄ (hs.ev i₄ e04)) (fun w' s₅ w σ₅ i₅ e₅ r₅ q₅ => ?_))
    exact pg.use (q₅ s₅ b w' i₅ (r₂.mono ((e₃.trans e₄).trans e₅).grow) r₅) (fun v s₆ z' σ₆ i₆ e₆ r₆ q₆ => ⟨z', σ₆, i₆, (e04.trans e₅).trans e₆, r₆, q₆⟩)
theorem evb_Cmp2 {l m r o1 o2 pos} {Q : Bool → Sto → Prop} (h : ev c ρ l σ fun x σ₁ => ev c ρ m σ₁ fun y σ₂ => op2 c (compareOp o1) x y σ₂ fun z σ₃ => opb c truthy z σ₃ fun b σ₄ => br b (ev c ρ r σ₄ fun w σ₅ => op2 c (compareOp o2) y w σ₅ fun z' σ₆ => opb c truthy z' σ₆ Q) (Q false σ₄))
    (hm : lastMarks [o1, o2] [m, r] = false := by with_unfolding_all rfl) : evb c ρ (.Compare l [o1, o2] [m, r] pos) σ Q := fun s hs => by
  refine PyProof.Rows.isTrue_chain (pg.use (h s hs) (fun a s₁ x σ₁ i₁ e₁ r₁ q₁ => ?_)) hm
  refine PyProof.Rows.test_link (pg.use (q₁ s₁ (hs.ev i₁ e₁)) (fun b s₂ y σ₂ i₂ e₂ r₂ q₂ => ?_))
  refine pg.use (q₂ s₂ a b i₂ (r₁.mono e₂.grow) r₂) (fun v s₃ z σ₃ i₃ e₃ r₃ q₃ => ?_)
  refine pg.use (q₃ s₃ v i₃ r₃) (fun t s₄ bb σ₄ i₄ e₄ r₄ q₄ => ?_)
  subst r₄
  have e04 := ((e₁.trans e₂).trans e₃).trans e₄
  cases t
  · exact ⟨false, σ₄, i₄, e04, rfl, q₄.2 rfl⟩
  · refine PyProof.Rows.test_last (pg.use (q₄.1 rfl s₄ (hs.ev i₄ e04)) (fun w' s₅ w σ₅ i₅ e₅ r₅ q₅ => ?_))
    refine pg.use (q₅ s₅ b w' i₅ (r₂.mono ((e₃.trans e₄).trans e₅).grow) r₅) (fun v s₆ z' σ₆ i₆ e₆ r₆ q₆ => ?_)
    exact pg.use (q₆ s₆ v i₆ r₆) (fun v s₇ z' σ₇ i₇ e₇ r₇ q₇ => ⟨z', σ₇, i₇, ((e04.trans e₅).trans e₆).trans e₇, r₇, q₇⟩)

theorem ev_neg {e : Expr} {pos : Pos} (h : ev c ρ e σ fun x σ₁ => ∃ i, x = .int i ∧ Q (.int (-i)) σ₁) : ev c ρ (.UnaryOp .USub e pos) σ Q := fun s hs => by
  refine wpAny_UnaryOp (pg.use (h s hs) (fun v s₁ x σ₁ i₁ e₁ r₁ qq => ?_))
  obtain ⟨i, hx, q₁⟩ := qq
  subst hx
  (first | obtain rfl := r₁.invNil | obtain ⟨_, rfl⟩ := r₁.invInt | obtain rfl := r₁.invObj | obtain ⟨_, rfl⟩ := r₁.invStr | obtain rfl := r₁.invBool | obtain rfl := r₁.invNone | obtain rfl := r₁.invRaw)
  exact PyProof.Rows.neg_int ⟨_, σ₁, i₁.toks _, e₁.trans (.toks ..), .int _ _, q₁⟩

theorem cal_isInt {i : Int} (q : Q (.bool true) σ) : cal c (.builtin "isinstance") [.int i, .raw (.type "int")] σ Q := fun s vs iv r => by
  obtain ⟨_, _, rfl, r1, r2⟩ := r.two; (first | obtain rfl := r1.invNil | obtain ⟨_, rfl⟩ := r1.invInt | obtain rfl := r1.invObj | obtain ⟨_, rfl⟩ := r1.invStr | obtain rfl := r1.invBool | obtain rfl := r1.invNone | obtain rfl := r1.invRaw); (first | obtain rfl := r2.invNil | obtain ⟨_, rfl⟩ := r2.invInt | obtain rfl := r2.invObj | obtain ⟨_, rfl⟩ := r2.invStr | obtain rfl := r2.invBool | obtain rfl := r2.invNone | obtain rfl := r2.invRaw)
  exact PyProof.Rows.call_isinstance_yes (Tx := "int") (typeIs_int s i _) (by kernel_rfl) (by rw [isSubtype_type]; kernel_rfl) ⟨_, σ, iv, .refl .., .bool _, q⟩
theorem cal_isBool {i : Int} (q : Q (.bool false) σ) : cal c (.builtin "isinstance") [.int i, .raw (.type "bool")] σ Q := fun s vs iv r => by
  obtain ⟨_, _, rfl, r1, r2⟩ := r.two; (first | obtain rfl := r1.invNil | obtain ⟨_, rfl⟩ := r1.invInt | obtain rfl := r1.invObj | obtain ⟨_, rfl⟩ := r1.invStr | obtain rfl := r1.invBool | obtain rfl := r1.invNone | obtain rfl := r1.invRaw); (first | obtain rfl := r2.invNil | obtain ⟨_, rfl⟩ := r2.invInt | obtain rfl := r2.invObj | obtain ⟨_, rfl⟩ := r2.invStr | obtain rfl := r2.invBool | obtain rfl := r2.invNone | obtain rfl := r2.invRaw)
  exact call_isinstance (isinstance_false_int (T := "bool") (by decide) (by kernel_rfl) (by rw [isSubtype_type]; kernel_rfl)) ⟨_, σ, iv.toks _, .toks .., .bool _, q⟩
theorem cal_isTup {l : List AV} (q : Q (.bool true) σ) : cal c (.builtin "isinstance") [.tup l, .raw (.type "tuple")] σ Q := fun s vs iv r => by
  obtain ⟨_, _, rfl, r1, r2⟩ := r.two; (first | obtain rfl := r2.invNil | obtain ⟨_, rfl⟩ := r2.invInt | obtain rfl := r2.invObj | obtain ⟨_, rfl⟩ := r2.invStr | obtain rfl := r2.invBool | obtain rfl := r2.invNone | obtain rfl := r2.invRaw)
  obtain ⟨_, _, _, rfl, h, _⟩ := r1.invTup
  exact PyProof.Rows.call_isinstance_yes (Tx := "tuple") ⟨_, (fz_eq.mp h).2.2, rfl⟩ (by kernel_rfl) (by rw [isSubtype_type]; kernel_rfl) ⟨_, σ, iv, .refl .., .bool _, q⟩

theorem iter_str (hh : c.A.handled = none) {x : Str} (ha : x.cps.all (· < 128) = true) : Iter c (.str x) (x.cps.toList.map fun d => .str ⟨#[d]⟩) := fun σ s v i r E => by
  (first | obtain rfl := r.invNil | obtain ⟨_, rfl⟩ := r.invInt | obtain rfl := r.invObj | obtain ⟨_, rfl⟩ := r.invStr | obtain rfl := r.invBool | obtain rfl := r.invNone | obtain rfl := r.invRaw)
  have hlen : (x.cps.toList.map fun d => AV.str ⟨#[d]⟩).length = x.cps.size := by simp
  refine wpAny_pyIter_ascii ha ⟨s.heap.objs.size, [s.heap.objs.size], SignAt x, _, rfl, hlen ▸ Walks.strAscii hh _ x _, ⟨_, Heap.get?_push_size _ rfl, rfl, rfl⟩, ⟨_, s.toks, rfl⟩, push_keeps _ _, Nat.le_refl _, (fun _ _ hx => let ⟨o, ho, hc, _⟩ := hx; ⟨o, ho, itOk_of hc rfl⟩), ?_, ?_⟩
  · intro b hb; exact .inl (List.mem_singleton.mp hb)
  · rintro i u hi ⟨d, t, hd, rfl⟩
    exact ⟨.str ⟨#[d]⟩, by simpa using hd, .str _ _⟩
theorem cmp_ins {x y : Str} (q : Q (.bool (!(Builtin.Str.occurrences x y 0 x.length 1).isEmpty)) σ) : op2 c (compareOp .In) (.str y) (.str x) σ Q := fun s u v i r1 r2 => by
  (first | obtain rfl := r1.invNil | obtain ⟨_, rfl⟩ := r1.invInt | obtain rfl := r1.invObj | obtain ⟨_, rfl⟩ := r1.invStr | obtain rfl := r1.invBool | obtain rfl := r1.invNone | obtain rfl := r1.invRaw); (first | obtain rfl := r2.invNil | obtain ⟨_, rfl⟩ := r2.invInt | obtain rfl := r2.invObj | obtain ⟨_, rfl⟩ := r2.invStr | obtain rfl := r2.invBool | obtain rfl := r2.invNone | obtain rfl := r2.invRaw)
  exact PyProof.Rows.in_str ⟨_, σ, i, .refl .., .bool _, q⟩

theorem cal_all (hh : c.A.handled = none) {bs : List Bool} (q : Q (.bool (bs.all id)) σ) : cal c (.builtin "all") [.list (bs.map .bool)] σ Q := fun s vs i r => by
  obtain ⟨_, rfl, r1⟩ := r.one
  obtain ⟨a, us, n, rfl, hF, hr⟩ := r1.invList
  obtain ⟨_, _, ho⟩ := fz_eq.mp hF
  have hl : s.heap.IsList a us.toArray := ⟨_, ho, rfl, n, rfl⟩
  have hlen : us.toArray.size = bs.length := by rw [List.size_toArray]; simpa using hr.length
  refine call_all_walk (wpAny_pyIter_list hl ⟨s.heap.objs.size, [s.heap.objs.size, a], [s.heap.objs.size], us.toArray.size, fun i v => us.toArray[i]? = some v, _, fun j => (bs[j]?).getD true, rfl, Walks.list (A := c.A.in1) hh s.heap.objs.size a (Nat.ne_of_lt (Heap.lt_size ho)) us.toArray, ?_, ?_, ?_⟩)
  · exact ⟨⟨_, Heap.get?_push_size _ rfl, rfl, rfl⟩, ⟨_, push_keeps _ _ _ _ ho, rfl, n, rfl⟩⟩
  · intro j v s' Q' E' hv hq
    obtain ⟨z, h1, h2⟩ := hr.get' (i := j) (v := v) (by simpa using hv)
    rw [List.getElem?_map] at h1
    obtain ⟨b, hb, rfl⟩ := Option.map_eq_some_iff.mp h1
    cases h2
    have hq' : Q' ((bs[j]?).getD true) s' := hq
    rw [hb] at hq'
    exact wpAny_truthy_bool hq'
  · intro h' tk hk
    have hk' : ∀ b o, s.heap.get? b = some o → h'.get? b = some o := fun b o e => hk b o (by
      intro hm
      rw [List.mem_singleton] at hm
      exact absurd (Heap.lt_size e) (by rw [hm]; exact Nat.lt_irrefl _)) (push_keeps _ _ _ _ e)
    have e : (List.range us.toArray.size).all (fun j => (bs[j]?).getD true) = bs.all id := by
      rw [hlen]
      clear q hr hlen r1 r
      induction bs with
      | nil => rfl
      | cons b bs ih =>
        rw [List.length_cons, List.range_succ_eq_map, List.all_cons, List.all_map, List.all_cons, ← ih]
        rfl
    rw [e]
    exact ⟨_, σ, i.keeps (t := tk) hk', .keeps (t := tk) hk', .bool _, q⟩

theorem cal_extend {a : Addr} {l m : List AV} {y : AV} (ha : σ a = some (.lst l)) (hy : Seq σ y m) (hne : y ≠ .obj a) (hz : l.length + m.length ≤ sizeLine) (q : Q .none (σ.set a (.lst (l ++ m)))) : cal c (.builtin "list.extend") [.obj a, y] σ Q := fun s vs i r => by
  obtain ⟨_, _, rfl, r1, r2⟩ := r.two; (first | obtain rfl := r1.invNil | obtain ⟨_, rfl⟩ := r1.invInt | obtain rfl := r1.invObj | obtain ⟨_, rfl⟩ := r1.invStr | obtain rfl := r1.invBool | obtain rfl := r1.invNone | obtain rfl := r1.invRaw)
  obtain ⟨us, n, e, hr⟩ := i.objs a _ ha
  obtain ⟨b, ws, k, rfl, hg, hw⟩ := hy.heap i r2
  refine call_meets F.slot_list_extend ⟨_, e, rfl⟩ F.entry_list_extend (F.args_list_extend_2 _ _) (AutoSeq1.list_extend_list_list_0 a us.toArray n b ws.toArray k ?_ ?_ ?_) ⟨e, hg, ?_⟩
  · exact PyProof.Rows.extend_door (by rw [List.size_toArray, List.size_toArray, hr.length, hw.length]; exact hz)
  · rw [List.size_toArray, hr.length]; exact Nat.le_trans (Nat.le_add_right _ _) hz
  · rw [List.size_toArray, List.size_toArray, hr.length, hw.length]; exact Nat.le_succ_of_le hz
  · have hs : Heap.SameBut a s.heap (s.heap.update a (Obj.mapSeq fun x => x ++ ws.toArray)) := ⟨Heap.size_update .., fun b hb => Heap.get?_update_ne _ _ _ _ hb⟩
    have hn := Heap.get?_update_self (Obj.mapSeq fun x => x ++ ws.toArray) e rfl
    obtain ⟨h1, h2⟩ := store_upd (tk := s.toks) (y := .lst (l ++ m)) i ha hs ⟨us ++ ws, if ws = [] then n else n + 1, by rw [hn]; simp [Obj.mapSeq], hr.append hw⟩
    exact ⟨.none, _, h1, h2, .none, q⟩
theorem sub_tup {value slice : Expr} {l : List AV} {k : Int} {j : Nat} {y : AV} (hlo : -(2 ^ 63) ≤ k) (hhi : k < 2 ^ 63) (hj : seqIndex? k l.length = some j) (hy : l[j]? = some y) (q : Q y σ) (hn : noSlice slice = true := by rfl) : subT c value slice (.tup l) (.int k) σ Q := fun s a b i r1 r2 => by
  (first | obtain rfl := r2.invNil | obtain ⟨_, rfl⟩ := r2.invInt | obtain rfl := r2.invObj | obtain ⟨_, rfl⟩ := r2.invStr | obtain rfl := r2.invBool | obtain rfl := r2.invNone | obtain rfl := r2.invRaw)
  obtain ⟨t, vs, n, rfl, hF, hr⟩ := r1.invTup
  obtain ⟨u, h1, h2⟩ := hr.get hy
  exact PyProof.Rows.item_tupleT ⟨_, fz_sub _ _ hF, rfl, n, rfl⟩ hlo hhi (by rw [hr.length]; exact hj) h1 ⟨y, σ, i, .refl .., h2, q⟩ (subscripted_plain hn _ _)
theorem adjust_init (n : Nat) (hn : 1 ≤ n) : Builtin.Slice.sliceAdjust none (some (-1)) 1 (n : Int) = (0, ((n - 1 : Nat) : Int)) := by
  unfold Builtin.Slice.sliceAdjust
  simp only [show ¬ ((1 : Int) < 0) by omega, show ((-1 : Int) < 0) by omega, if_false, if_true]
  congr 1
  omega
theorem places_init (n : Nat) : Builtin.Slice.slicePlaces 0 ((n - 1 : Nat) : Int) 1 = n - 1 := by
  unfold Builtin.Slice.slicePlaces
  simp only [show (1 : Int) > 0 by omega, if_true, Int.ediv_one]
  split <;> omega
theorem pick_init (xs : List Value) (m : Nat) : ((List.range m).filterMap fun (k : Nat) => xs.toArray[((0 : Int) + (k : Int) * 1).toNat]?).toArray = (xs.take m).toArray := by
  congr 1
  induction m with
  | zero => simp
  | succ m ih =>
    rw [List.range_succ, List.filterMap_append, ih, List.take_succ]
    congr 1
    have : ((0 : Int) + (m : Int) * 1).toNat = m := by omega
    simp only [List.filterMap_cons, List.filterMap_nil, this, List.getElem?_toArray]
    cases xs[m]? <;> rfl
section
variable {prog : Program} {w : World} {A : Around} {E : Value → Shared → Prop} {s : Shared}
theorem getItem_tuple_init {t sl : Addr} {xs : List Value} {u : Tok} {Q : Value → Shared → Prop} (ht : PyProof.Rows.IsTup s.heap t xs.toArray) (hs : s.heap.IsSliceOf sl .none (.int (-1) u) .none) (h1 : 1 ≤ xs.length) (hsz : xs.length ≤ sizeLine)
    (h : Q (.ref s.heap.objs.size) { s with heap := s.heap.push (tupO (xs.take (xs.length - 1)) 0) }) : wpAny (model prog w) A (getItem (.ref t) (.ref sl)) Q E s := by
  obtain ⟨os, hos, hcs, hds⟩ := id hs
  have hTs : s.TypeIs (.ref sl) "slice" := ⟨os, hos, hcs⟩
  have hok : sizeOk (.seq (xs.take (xs.length - 1)).toArray) := by
    show (xs.take (xs.length - 1)).toArray.size ≤ sizeLine
    rw [List.size_toArray, List.length_take]; omega
  unfold getItem
  refine wpAny_holding ?_
  refine wpAny_bind (wpAny_sequenceKey ht.typeIs (by decide) ?_)
  refine wpAny_bind (wpAny_callSpecial?_slot (name := Str.ofString "__getitem__") ht.typeIs PyProof.Rows.slot_tuple_getitem (wpAny_call_entry PyProof.Rows.slot_tuple_getitem ht.typeIs PyProof.Rows.entry_tuple_getitem ?_ (PyProof.Rows.args_tuple_getitem _ _)))
  show wpAny _ _ (Builtin.Tuple.tupleItemsOf (.ref t) >>= _) _ _ s
  refine wpAny_bind (PyProof.Rows.tupleItemsOf_ ht ?_)
  refine wpAny_bind (wpAny_typeOf hTs ?_)
  rw [if_pos (by decide)]
  refine wpAny_bind ?_
  unfold Builtin.Slice.sliceApplied Builtin.Slice.sliceFields
  refine wpAny_bind (wpAny_bind (wpAny_field hos hds (x := .none) rfl (wpAny_bind (wpAny_field hos hds (x := .int (-1) u) rfl (wpAny_bind (wpAny_field hos hds (x := .none) rfl (wpAny_pure ?_)))))))
  refine wpAny_bind (PyProof.Rows.slicePart_none ?_)
  show wpAny _ _ (if ((1 : Int) == 0) = true then _ else _) _ _ s
  rw [if_neg (by decide)]
  refine wpAny_bind (PyProof.Rows.slicePart_none (wpAny_bind (PyProof.Rows.slicePart_int (wpAny_bind (wpAny_pure ?_)))))
  show wpAny _ _ (match Builtin.Slice.sliceAdjust none (some (-1)) 1 ((xs.toArray.size : Nat) : Int) with | (lo, hi) => pure (lo, (1 : Int), Builtin.Slice.slicePlaces lo hi 1)) _ _ s
  rw [List.size_toArray, adjust_init _ h1]
  show wpAny _ _ (pure ((0 : Int), (1 : Int), Builtin.Slice.slicePlaces 0 ((xs.length - 1 : Nat) : Int) 1)) _ _ s
  rw [places_init]
  refine wpAny_pure ?_
  have hno : ¬ (((0 : Int) == 0 && (1 : Int) == 1 && (xs.length - 1) == xs.toArray.size) = true) := by
    rw [List.size_toArray]
    simp only [beq_self_eq_true, Bool.true_and, beq_iff_eq]; omega
  show wpAny _ _ (if ((0 : Int) == 0 && (1 : Int) == 1 && (xs.length - 1) == xs.toArray.size) = true then _ else _) _ _ s
  rw [if_neg hno, pick_init]
  first
    | exact wpAny_bind (m := Builtin.Tuple.tupleExact _) (wpAny_newObj_type (wpAny_pure ⟨_, rfl, wpAny_pure h⟩) hok)
    | exact wpAny_bind (wpAny_bind (m := Builtin.Tuple.tupleExact _) (wpAny_newObj_type (wpAny_pure (wpAny_pure ⟨_, rfl, wpAny_pure h⟩)) hok))
    | exact wpAny_bind (wpAny_bind (m := Builtin.Tuple.tupleExact _) (wpAny_newObj_type (wpAny_pure ⟨_, rfl, wpAny_pure h⟩) hok))
end
theorem ev_init {value upper : Expr} {p pos : Pos} (h : ev c ρ value σ fun x σ₁ => ev c ρ upper σ₁ fun y σ₂ => ∃ l, x = .tup l ∧ y = .int (-1) ∧ 1 ≤ l.length ∧ l.length ≤ 1000 ∧ Q (.tup (l.take (l.length - 1))) σ₂)
    (ht : ∀ o r, letTemporaryGo value o r = pure () := by intro _ _; rfl) : ev c ρ (.Subscript value (.Slice none (some upper) none p) pos) σ Q := fun s hs => by
  refine wpAny_Subscript_Slice (T := "tuple") PyProof.Rows.slot_tuple_getitem.lookup (pg.use (h s hs) (fun vx s₁ x σ₁ i₁ e₁ r₁ q₁ => wpAny_Slice ?_)) ht
  rw [evalPart_none]
  refine wpAny_pure ?_
  show wpAny _ _ (evalPart (some upper) c.env) _ _ _
  refine pg.use (q₁ s₁ (hs.ev i₁ e₁)) (fun vy s₂ y σ₂ i₂ e₂ r₂ qq => ?_)
  obtain ⟨l, hx, hy, hl, hz, q₂⟩ := qq
  refine wpAny_pure ?_
  subst hx; subst hy
  obtain ⟨u, rfl⟩ := r₂.invInt
  cases r₁.mono e₂.grow with
  | @tup t vs n _ hF hr =>
    have hT : PyProof.Rows.IsTup s₂.heap t vs.toArray := ⟨_, fz_sub _ _ hF, rfl, n, rfl⟩
    have hT' := hT.keeps (h' := s₂.heap.push { cls := .type "slice", data := .fields #[.none, .int (-1) u, .none] }) fun _ _ e => Heap.get?_push_of_some _ e
    have hlen := hr.length
    refine ⟨hT'.typeIs, getItem_tuple_init hT' (Heap.IsSliceOf.new ..) (by omega) (by rw [sizeLine_eq]; omega) ?_⟩
    have hk : ∀ b o, s₂.heap.get? b = some o → ((s₂.heap.push { cls := .type "slice", data := .fields #[.none, .int (-1) u, .none] }).push (tupO (vs.take (vs.length - 1)) 0)).get? b = some o := fun b o e => push_keeps _ _ _ _ (push_keeps _ _ _ _ e)
    have hn := i₂.fresh (a := s₂.heap.objs.size + 1) (Nat.le_succ _)
    refine ⟨.tup (l.take (l.length - 1)), σ₂, i₂.keeps (t := s₂.toks) hk, (e₁.trans e₂).trans (.keeps (t := s₂.toks) hk), ?_, q₂⟩
    rw [Heap.size_push]
    refine .tup (n := 0) (vs := vs.take (vs.length - 1)) (fz_eq.mpr ⟨hn.1, hn.2, ?_⟩) ?_
    · have := Heap.get?_push_size (s₂.heap.push { cls := .type "slice", data := .fields #[.none, .int (-1) u, .none] }) (o := tupO (vs.take (vs.length - 1)) 0) rfl
      rw [Heap.size_push] at this; exact this
    · have := (hr.take (vs.length - 1)).mono (keep_fz (own := c.own) (σ := σ₂) hk)
      rw [show l.length - 1 = vs.length - 1 by rw [hlen]]
      exact this
theorem es_for2 {a b : Str} {pa pb tpos : Pos} {k : Nat} {iter : Expr} {body : List Stmt} {pos : Pos} {Q : AFl → Rho → Sto → Prop} (J : List AV → Rho → Sto → Prop) (hfn : c.isFn = true) (hh : c.A.handled = none)
    (h : ev c ρ iter σ fun y σ₁ => ∃ l, Iter c y l ∧ J l ρ σ₁)
    (turn : ∀ c' : Cx g, c'.A = c.A → c'.sc = c.sc → c'.isFn = true → ∀ y rest ρ₁ σ₁, J (y :: rest) ρ₁ σ₁ → ∃ u v ρ₂ ρ₃, y = .tup [u, v] ∧ Upd a u ρ₁ ρ₂ ∧ Upd b v ρ₂ ρ₃ ∧ es c' ρ₃ (execs body c'.env) σ₁ (trn Q (J rest)))
    (done : ∀ ρ₁ σ₁, J [] ρ₁ σ₁ → Q .next ρ₁ σ₁)
    (hs : ∀ x, foldedSetIterable iter c.env x = pure x := by intro _; rfl) : es c ρ (exec (.For (.Tuple [.Name a pa, .Name b pb] k tpos) iter body [] pos) c.env) σ Q :=
  es_forG (fun y ρ₁ ρ₃ => ∃ u v ρ₂, y = .tup [u, v] ∧ Upd a u ρ₁ ρ₂ ∧ Upd b v ρ₂ ρ₃) J (fun c' hs' _ _ _ _ _ _ _ _ st ⟨u, v, ρ₂, hy, u1, u2⟩ r q => by
      subst hy
      exact assign2 st (by rw [hs'.A]; exact hh) (hs'.fn.trans hfn) u1 u2 r q) h
    (fun c' hs' y rest ρ₁ σ₁ hJ => by
      obtain ⟨u, v, ρ₂, ρ₃, hy, u1, u2, hb⟩ := turn c' hs'.A hs'.sc (hs'.fn.trans hfn) y rest ρ₁ σ₁ hJ
      exact ⟨ρ₃, ⟨u, v, ρ₂, hy, u1, u2⟩, hb⟩) done hs
theorem es_while {test : Expr} {body : List Stmt} {pos : Pos} {Q : AFl → Rho → Sto → Prop} (J : Nat → Rho → Sto → Prop) (n₀ : Nat) (hJ : J n₀ ρ σ)
    (turn : ∀ c' : Cx g, c'.A = c.A → c'.sc = c.sc → c'.isFn = c.isFn → ∀ n ρ₁ σ₁, J n ρ₁ σ₁ → evb c' ρ₁ test σ₁ fun b σ₂ => br b (es c' ρ₁ (execs body c'.env) σ₂ fun fl ρ' σ' => fl = .next ∧ ∃ m ρ'', m < n ∧ Wk ρ'' ρ' ∧ J m ρ'' σ') (Q .next ρ₁ σ₂)) :
    es c ρ (exec (.While test body [] pos) c.env) σ Q := fun s st => by
  refine wpAny_While (codeAny_whileLoop (fun n s' => ∃ ρ' σ', St c ρ' σ' s' ∧ EvS c σ s σ' s' ∧ J n ρ' σ') ?_ n₀ ⟨ρ, σ, st, .refl .., hJ⟩)
  rintro n s' ⟨ρ₁, σ₁, st₁, ev₁, hJ₁⟩
  generalize hE : (notedBy g.M c.A c.env fun e s' => cameBackBy g.M c.A c.env c.E e s') = E'
  let c' : Cx g := { c with E := E' }
  have st' : St c' ρ₁ σ₁ s' := ⟨st₁.inv, ⟨st₁.fr.sc, st₁.fr.wr, st₁.fr.kind, st₁.fr.glob, st₁.fr.blt, st₁.fr.loc, st₁.fr.loc', st₁.fr.sub, st₁.fr.cells, st₁.fr.apart, st₁.fr.kinds, st₁.fr.nodup⟩, st₁.ns, st₁.cl⟩
  refine pg.use (turn c' rfl rfl rfl n ρ₁ σ₁ hJ₁ s' st') (fun b s₂ b' σ₂ i₂ e₂ r₂ q₂ => ?_)
  subst r₂
  have st₂ := st₁.ev i₂ e₂
  have ev₂ : EvS c σ s σ₂ s₂ := ev₁.trans (Ev.toS (show c.Ev σ₁ s' σ₂ s₂ from e₂) st₁.fr.sub)
  cases b
  · rw [if_neg (by decide)]
    exact wpAny_execs_nil ⟨_, ρ₁, σ₂, st₂, ev₂, .next, q₂.2 rfl⟩
  · rw [if_pos rfl]
    refine wpAny_mono (q₂.1 rfl s₂ (st'.ev i₂ e₂)) (fun f s₃ q_ => ?_) fun _ _ e => e
    obtain ⟨fl, ρ₃, σ₃, st₃, ev₃, rf, hfl, m, ρ'', hm, hw, hJ'⟩ := q_
    subst hfl
    cases rf
    have st₃' : St c ρ₃ σ₃ s₃ := ⟨st₃.inv, ⟨st₃.fr.sc, st₃.fr.wr, st₃.fr.kind, st₃.fr.glob, st₃.fr.blt, st₃.fr.loc, st₃.fr.loc', st₃.fr.sub, st₃.fr.cells, st₃.fr.apart, st₃.fr.kinds, st₃.fr.nodup⟩, st₃.ns, st₃.cl⟩
    exact ⟨m, hm, ρ'', σ₃, st₃'.wk hw, ev₂.trans ⟨ev₃.same, ev₃.grow, ev₃.hid⟩, hJ'⟩
end Mine

end

section
open PySem PySem.W Mine
namespace Mine
variable {g : Gx} {c : Cx g} {ρ : Rho} {σ : Sto}

theorem lent_le {w : World} {H₀ : Heap} {own own' : List Addr} {s : Shared} {a : Addr} (hn : ∀ b, b ∈ own' → b ∈ own ∨ ((σ b).isSome = true ∧ b ≠ a)) : (fz s.heap own (σ.del a)).le (fz s.heap own' σ₀) := fun b o e => by
  obtain ⟨e1, e2, e3⟩ := fz_eq.mp e
  refine fz_eq.mpr ⟨rfl, fun hb => ?_, e3⟩
  rcases hn b hb with h | ⟨h1, h2⟩
  · exact e2 h
  · rw [Sto.del_ne h2] at e1; rw [e1] at h1; cases h1
theorem Inv.lend {w : World} {H₀ : Heap} {own : List Addr} {s : Shared} {a : Addr} {x : AObj} {y : AV} (i : Inv w H₀ own σ s) (ha : σ a = some x) (hf : Frz x y) :
    ∃ own', (∀ b ∈ own, b ∈ own') ∧ Inv w H₀ own' σ₀ s ∧ Rep w (fz s.heap own' σ₀) (.ref a) y ∧ (fz s.heap own σ).le (fz s.heap own' σ₀) ∧
      ∀ σ' s', Ev own' σ₀ s σ' s' → Inv w H₀ own σ s' ∧ Ev own σ s σ s' := by
  have hlt : ∀ b z, σ b = some z → b < s.heap.objs.size := fun b z h => by
    obtain ⟨o, ho⟩ := (i.objs b z h).live
    exact Heap.lt_size ho
  have hmem : ∀ b, b ∈ own ++ (List.range s.heap.objs.size).filter (fun b => (σ b).isSome && decide (b ≠ a)) ↔ b ∈ own ∨ ((σ b).isSome = true ∧ b ≠ a) := fun b => by
    rw [List.mem_append, List.mem_filter, List.mem_range]
    refine or_congr Iff.rfl ⟨fun h => by simpa using h.2, fun h => ⟨?_, by simpa using h⟩⟩
    obtain ⟨z, hz⟩ := Option.isSome_iff_exists.mp h.1
    exact hlt b z hz
  generalize own ++ (List.range s.heap.objs.size).filter (fun b => (σ b).isSome && decide (b ≠ a)) = own' at hmem
  have le1 := lent_le (w := w) (H₀ := H₀) (s := s) (σ := σ) (own := own) (own' := own') (a := a) fun b hb => (hmem b).mp hb
  have le0 : (fz s.heap own σ).le (fz s.heap own' σ₀) := (freeze_le (a := a)).trans le1
  refine ⟨own', fun b hb => (hmem b).mpr (.inl hb), ⟨fun b o h => le0 b o (i.keep b o h), (fun _ _ h => by cases h), fun _ _ => rfl, fun b hb => ?_⟩, (i.frozen ha hf).mono le1, le0, fun σ' s' e => ?_⟩
  · rcases (hmem b).mp hb with h | ⟨h, _⟩
    · exact i.live b h
    · obtain ⟨z, hz⟩ := Option.isSome_iff_exists.mp h
      exact (i.objs b z hz).live
  have kept : ∀ b o, fz s.heap own σ b = some o → s'.heap.get? b = some o := fun b o h => (fz_eq.mp (e.grow b o (le0 b o h))).2.2
  have le2 : (fz s.heap own σ).le (fz s'.heap own σ) := fun b o h => by
    obtain ⟨e1, e2, _⟩ := fz_eq.mp h
    exact fz_eq.mpr ⟨e1, e2, kept b o h⟩
  have hown : ∀ b ∈ own, ∀ o, s.heap.get? b = some o → s'.heap.get? b = some o := fun b hb => e.own b ((hmem b).mpr (.inl hb))
  refine ⟨⟨fun b o h => le2 b o (i.keep b o h), fun b z h => (i.objs b z h).mono le2 fun o ho => ?_, i.off, fun b hb => ?_⟩, e.same, le2, hown⟩
  · by_cases hb : b = a
    · subst hb
      have hno : b ∉ own' := fun hm => by
        rcases (hmem b).mp hm with q | ⟨_, q⟩
        · rw [i.off b q] at h; cases h
        · exact q rfl
      exact (fz_eq.mp (e.grow b o (fz_eq.mpr ⟨rfl, hno, ho⟩))).2.2
    · exact e.own b ((hmem b).mpr (.inr ⟨by rw [h]; rfl, hb⟩)) o ho
  · obtain ⟨o, ho⟩ := i.live b hb
    exact ⟨o, hown b hb o ho⟩
noncomputable def flat : AV → Bool
  | .none => true
  | .bool _ => true
  | _ => false
theorem Rep.flat {w : World} {F G : Fz} {v : Value} {x : AV} (r : Rep w F v x) (h : Mine.flat x = true) : Rep w G v x := by
  cases r with
  | none => exact .none
  | bool b => exact .bool b
  | _ => cases h
inductive FrzA (a : Addr) (y : AV) : List AV → List AV → Prop
  | nil : FrzA a y [] []
  | hit {r r' : List AV} : FrzA a y r r' → FrzA a y (.obj a :: r) (y :: r')
  | skip {p : AV} {r r' : List AV} : FrzA a y r r' → FrzA a y (p :: r) (p :: r')
theorem FrzA.rep {w : World} {F G : Fz} {a : Addr} {y : AV} {r r' : List AV} (h : FrzA a y r r') (hl : F.le G) (hy : Rep w G (.ref a) y) : ∀ {vs : List Value}, RepL w F vs r → RepL w G vs r' := by
  induction h with
  | nil => intro vs hr; cases hr; exact .nil
  | hit _ ih => intro vs hr; cases hr with | cons h1 h2 => cases h1; exact .cons hy (ih h2)
  | skip _ ih => intro vs hr; cases hr with | cons h1 h2 => exact .cons (h1.mono hl) (ih h2)
noncomputable abbrev Cx.lent (c : Cx g) (own' : List Addr) : Cx g := ⟨c.A, c.env, own', c.hid, c.E, c.sc, c.isFn⟩
theorem cal_lend {f : Value} {xs ys : List AV} {a : Addr} {x : AObj} {y : AV} {Q : AV → Sto → Prop} (ha : σ a = some x) (hf : Frz x y) (hr : FrzA a y xs ys) (h : ∀ c' : Cx g, c'.A = c.A → cal c' f ys σ₀ fun z _ => flat z = true ∧ Q z σ) : cal c f xs σ Q := fun s vs i r => by
  obtain ⟨own', ho, i', ry, le, back⟩ := i.lend ha hf
  refine wpAny_mono (h (c.lent own') rfl s vs i' (hr.rep le ry r)) (fun v s' hq => ?_) fun _ _ e => e
  obtain ⟨z, σ', i₁, e₁, r₁, hz, q⟩ := hq
  obtain ⟨i₂, e₂⟩ := back _ _ e₁
  exact ⟨z, σ, i₂, e₂, r₁.flat hz, q⟩
theorem ev_lend {e : Expr} {ρ' : Rho} {a : Addr} {x : AObj} {y : AV} {Q : AV → Sto → Prop} (ha : σ a = some x) (hf : Frz x y) (hr : FrzR a y ρ ρ') (h : ∀ c' : Cx g, c'.A = c.A → c'.sc = c.sc → ev c' ρ' e σ₀ fun z _ => flat z = true ∧ Q z σ) : ev c ρ e σ Q := fun s st => by
  obtain ⟨own', ho, i', ry, le, back⟩ := st.inv.lend ha hf
  have f := st.fr
  have st' : St (c.lent own') ρ' σ₀ s := by
    refine ⟨i', hr.names ▸ ⟨f.sc, f.wr, f.kind, f.glob, f.blt, ho _ f.loc, f.loc', fun b hb => ho b (f.sub b hb), fun n b hb => ⟨ho b (f.cells n b hb).1, (f.cells n b hb).2⟩, f.apart, f.kinds, f.nodup⟩, ?_, fun z b hk hb => ?_⟩
    · obtain ⟨m, hn, hm⟩ := st.ns
      refine ⟨m, hn, fun z v hz hk => ?_⟩
      rcases hr.get hz with hz | ⟨rfl, hz⟩
      · obtain ⟨u, h1, h2⟩ := hm z v hz hk; exact ⟨u, h1, h2.mono le⟩
      · obtain ⟨u, h1, h2⟩ := hm z _ hz hk; cases h2; exact ⟨_, h1, ry⟩
    · obtain ⟨vo, h1, h2⟩ := st.cl z b hk hb
      refine ⟨vo, h1, fun v hz => ?_⟩
      rcases hr.get hz with hz | ⟨rfl, hz⟩
      · obtain ⟨u, h3, h4⟩ := h2 v hz; exact ⟨u, h3, h4.mono le⟩
      · obtain ⟨u, h3, h4⟩ := h2 _ hz; cases h4; exact ⟨_, h3, ry⟩
  refine wpAny_mono (h (c.lent own') rfl rfl s st') (fun v s' hq => ?_) fun _ _ e => e
  obtain ⟨z, σ', i₁, e₁, r₁, hz, q⟩ := hq
  obtain ⟨i₂, e₂⟩ := back _ _ e₁
  exact ⟨z, σ, i₂, e₂, r₁.flat hz, q⟩

section
variable {Q : AV → Sto → Prop}
theorem cal_clearL {a : Addr} {l : List AV} (ha : σ a = some (.lst l)) (hz : l.length ≤ sizeLine) (q : Q .none (σ.set a (.lst []))) : cal c (.builtin "list.clear") [.obj a] σ Q := fun s vs i r => by
  obtain ⟨_, rfl, r1⟩ := r.one; (first | obtain rfl := r1.invNil | obtain ⟨_, rfl⟩ := r1.invInt | obtain rfl := r1.invObj | obtain ⟨_, rfl⟩ := r1.invStr | obtain rfl := r1.invBool | obtain rfl := r1.invNone | obtain rfl := r1.invRaw)
  obtain ⟨us, n, e, hr⟩ := i.objs a _ ha
  refine call_meets F.slot_list_clear ⟨_, e, rfl⟩ F.entry_list_clear (F.args_list_clear_1 _) (AutoSeq1.list_clear_list_0 a us.toArray n (by rw [List.size_toArray, hr.length]; exact hz)) ⟨e, ?_⟩
  have e2 := Heap.get?_update_self (Obj.mapSeq (fun _ => (#[] : Array Value))) e rfl
  obtain ⟨h1, h2⟩ := store_upd (tk := s.toks) (y := .lst []) i ha (Heap.SameBut.update ..) ⟨[], _, e2, .nil⟩
  exact ⟨.none, _, h1, h2, .none, q⟩
theorem raw_clear {prog : Program} {w : World} {d : Addr} {es : List DictEntry} {ep : Nat} (hsz : es.length ≤ sizeLine) :
    MeetsIn prog w (Builtin.«dict.clear» ⟨[.ref d], []⟩) (fun _ R s => s.heap.get? d = some (dctO es ep) ∧ R (.ok (.ret .none)) { s with heap := s.heap.update d (Obj.mapDictKeys fun _ => #[]) }) :=
  .of_wp fun A R s ⟨ho, h⟩ => by
    have hT : s.TypeIs (.ref d) "dict" := ⟨_, ho, rfl⟩
    unfold Builtin.«dict.clear»
    refine wpAny_bind ?_
    unfold Builtin.Dict.noArgs
    refine wpAny_bind (wpAny_notOrdered_dict hT (wpAny_pure ?_))
    refine wpAny_bind (wpAny_dictEntries ho rfl (wpAny_bind ?_))
    unfold bearsInstanceDictMark
    refine wpAny_bind (wpAny_load ho (wpAny_pure ?_))
    refine wpAny_bind (wpAny_updateDictKeys (hz := by simpa using hsz) ho rfl ?_)
    split
    · exact wpAny_bind (wpAny_letGo (wpAny_pure ⟨.none, rfl, h⟩))
    · exact wpAny_bind (wpAny_pure (wpAny_pure ⟨.none, rfl, h⟩))
theorem cal_clearD {a : Addr} {l : List (AV × AV)} (ha : σ a = some (.dct l)) (hz : l.length ≤ sizeLine) (q : Q .none (σ.set a (.dct []))) : cal c (.builtin "dict.clear") [.obj a] σ Q := fun s vs i r => by
  obtain ⟨_, rfl, r1⟩ := r.one; (first | obtain rfl := r1.invNil | obtain ⟨_, rfl⟩ := r1.invInt | obtain rfl := r1.invObj | obtain ⟨_, rfl⟩ := r1.invStr | obtain rfl := r1.invBool | obtain rfl := r1.invNone | obtain rfl := r1.invRaw)
  obtain ⟨es, n, e, hr, ok⟩ := i.objs a _ ha
  refine call_meetsIn F.slot_dict_clear ⟨_, e, rfl⟩ F.entry_dict_clear (F.args_dict_clear_1 _) (raw_clear (es := es) (ep := n) (by rw [hr.length]; exact hz)) ⟨e, ?_⟩
  have e2 := Heap.get?_update_self (Obj.mapDictKeys (fun _ => (#[] : Array DictEntry))) e rfl
  obtain ⟨h1, h2⟩ := store_upd (tk := s.toks) (y := .dct []) i ha (Heap.SameBut.update ..) ⟨[], _, e2, .nil, List.nodup_nil, ok.2⟩
  exact ⟨.none, _, h1, h2, .none, q⟩

theorem RepL.of {w : World} {F : Fz} : ∀ {vs : List Value} {l : List AV}, vs.length = l.length → (∀ (j : Nat) v x, vs[j]? = some v → l[j]? = some x → Rep w F v x) → RepL w F vs l
  | [], [], _, _ => .nil
  | v :: vs, x :: l, h, f => .cons (f 0 v x rfl rfl) (RepL.of (by simpa using h) fun j v x h1 h2 => f (j + 1) v x (by simpa using h1) (by simpa using h2))
theorem fresh_of {s : Shared} {h' : Heap} (i : c.Inv σ s) (hk : ∀ b o, s.heap.get? b = some o → h'.get? b = some o) : σ h'.objs.size = none ∧ h'.objs.size ∉ c.own := by
  refine ⟨?_, fun hm => ?_⟩
  · cases e : σ h'.objs.size with
    | none => rfl
    | some z =>
      obtain ⟨o, ho⟩ := (i.objs _ z e).live
      exact absurd (Heap.lt_size (hk _ o ho)) (Nat.lt_irrefl _)
  · obtain ⟨o, ho⟩ := i.live _ hm
    exact absurd (Heap.lt_size (hk _ o ho)) (Nat.lt_irrefl _)
theorem cal_listT {l : List AV} (hz : l.length ≤ sizeLine) (q : Made Q l σ) : cal c (.type "list") [.tup l] σ Q := fun s vs i r => by
  obtain ⟨_, rfl, r1⟩ := r.one
  obtain ⟨a, us, n, rfl, hF, hv⟩ := r1.invTup
  refine call_list_seq a (T := "tuple") (.inr rfl) (fz_eq.mp hF).2.2 rfl rfl (fun h' c' hk hn => ?_) (by rw [List.size_toArray, hv.length]; exact hz)
  exact made_list (tk := s.toks) i hk (Nat.le_refl _) hn hv q
theorem cal_tupL {x : AV} {l : List AV} (hx : Seq σ x l) (hz : l.length ≤ sizeLine) (q : Q (.tup l) σ) : cal c (.type "tuple") [x] σ Q := fun s vs i r => by
  obtain ⟨_, rfl, r1⟩ := r.one
  obtain ⟨a, us, n, rfl, hg, hv⟩ := hx.heap i r1
  refine call_tuple_list (items := us.toArray) ⟨_, hg, rfl, n, rfl⟩ (fun h' hk => ?_) (by rw [List.size_toArray, hv.length]; exact hz)
  have hk' : ∀ b o, s.heap.get? b = some o → (h'.push (tupO us 0)).get? b = some o := fun b o e => Heap.get?_push_of_some _ (hk b o e)
  have hn := fresh_of i hk
  exact ⟨.tup l, σ, i.keeps (t := s.toks) hk', .keeps (t := s.toks) hk', .tup (fz_eq.mpr ⟨hn.1, hn.2, Heap.get?_push_size _ rfl⟩) (hv.mono (keep_fz hk')), q⟩
theorem cal_listR {lo hi : Int} (hh : c.A.handled = none) (h1 : -(2 ^ 62) ≤ lo) (h2 : lo < 2 ^ 62) (h3 : -(2 ^ 62) ≤ hi) (h4 : hi < 2 ^ 62) (hz : (hi - lo).toNat ≤ 1000) (q : Made Q ((rngL lo hi).map .int) σ) : cal c (.type "list") [.rng lo hi] σ Q := fun s vs i r => by
  obtain ⟨_, rfl, r1⟩ := r.one
  obtain ⟨a, t, u, v, rfl, hF⟩ := r1.invRng
  have hsz : Builtin.Range.rangeSize lo hi 1 = ((hi - lo).toNat : Int) := by rw [rangeSize_one]; split <;> omega
  refine call_list_range hh (fz_eq.mp hF).2.2 (small_one h1 h2 h3 h4) hsz (by omega) fun h' tk acc c' hk hn hacc => ?_
  have hr : RepL g.w (c.F σ s) acc.toList ((rngL lo hi).map .int) := by
    refine RepL.of (by simp [hacc.1, rngL]) fun j v x hv hx => ?_
    obtain ⟨t, rfl⟩ := hacc.2 j v (by simpa using hv)
    rw [rngL, List.map_map, List.getElem?_map, Option.map_eq_some_iff] at hx
    obtain ⟨k, hk, rfl⟩ := hx
    obtain ⟨_, rfl⟩ := List.getElem?_eq_some_iff.mp hk
    rw [List.getElem_range, Int.mul_one]
    exact .int _ _
  exact made_list (vs := acc.toList) (tk := tk) i hk (Nat.le_refl _) (by simpa using hn) hr q
theorem cal_isDict {l : List (AV × AV)} (q : Q (.bool true) σ) : cal c (.builtin "isinstance") [.dict l, .raw (.type "dict")] σ Q := fun s vs iv r => by
  obtain ⟨_, _, rfl, r1, r2⟩ := r.two; (first | obtain rfl := r2.invNil | obtain ⟨_, rfl⟩ := r2.invInt | obtain rfl := r2.invObj | obtain ⟨_, rfl⟩ := r2.invStr | obtain rfl := r2.invBool | obtain rfl := r2.invNone | obtain rfl := r2.invRaw)
  obtain ⟨_, _, _, rfl, hF, _, _⟩ := r1.invDict
  exact PyProof.Rows.call_isinstance_yes (Tx := "dict") ⟨_, (fz_eq.mp hF).2.2, rfl⟩ (by kernel_rfl) (by rw [isSubtype_type]; kernel_rfl) ⟨_, σ, iv, .refl .., .bool _, q⟩
end
end Mine

end

section
open PySem PySem.W Mine
namespace Mine
variable {g : Gx} {c : Cx g} {ρ : Rho} {σ : Sto}

noncomputable def bnd2 (a b : Str) : AV → Rho
  | .tup [u, v] => [(a, some u), (b, some v)]
  | _ => []
theorem binds_pair {a b : Str} {pa pb tpos : Pos} {k : Nat} (hh : c.A.handled = none) (hab : a ≠ b) : Binds c (.Tuple [.Name a pa, .Name b pb] k tpos) [a, b] (bnd2 a b) fun z => ∃ u v, z = .tup [u, v] := by
  refine ⟨?_, ?_⟩
  · rintro _ ⟨u, v, rfl⟩; rfl
  · rintro env' C s' m w z F Q E hl hp hC hn hz hF ⟨x, y, rfl⟩ q
    subst hC
    cases hz with
    | @tup t vs n _ hF' hr =>
      obtain ⟨v1, _, rfl, r1, hr⟩ := hr.invCons
      obtain ⟨v2, _, rfl, r2, hr⟩ := hr.invCons
      cases hr
      refine wpAny_assign_Tuple (items := #[v1, v2]) hh ⟨_, hF _ _ hF', rfl, n, rfl⟩ rfl rfl fun h' he => ?_
      have hk : ∀ b o, s'.heap.get? b = some o → h'.get? b = some o := fun b o e => he b o (Nat.ne_of_lt (Heap.lt_size e)) e
      have hn' : h'.Ns env'.locals m := hn.at' fun o e => hk _ o e
      show wpAny _ _ (assignInOrder [assign (.Name a pa) env', assign (.Name b pb) env'] [v1, v2]) _ _ _
      refine wpAny_bind (wpAny_holding (wpAny_assign_Name (wpAny_storeName_local (hl a List.mem_cons_self) hn' (fun h₄ hn₄ hs₄ => ?_) hp)))
      refine wpAny_bind (wpAny_holding (wpAny_assign_Name (wpAny_storeName_local (hl b (List.mem_cons_of_mem _ List.mem_cons_self)) hn₄ (fun h₅ hn₅ hs₅ => ?_) hp)))
      refine wpAny_pure (q h₅ _ _ hn₅ (fun n v hv => ?_) fun b o hb e => (hs₅.2 b hb).trans ((hs₄.2 b hb).trans (hk b o e)))
      rcases List.mem_cons.mp hv with e | hv
      · injection e with e1 e2
        injection e2 with e2
        subst e1 e2
        exact ⟨v1, (if_neg hab).trans (if_pos rfl), r1⟩
      · rw [List.mem_singleton] at hv
        injection hv with e1 e2
        injection e2 with e2
        subst e1 e2
        exact ⟨v2, if_pos rfl, r2⟩
theorem ev_map2P {α : Type} {sc : Scope} {elt iter : Expr} {a b : Str} {pa pb tpos pos : Pos} {k : Nat} {scope : Scope} {Q : AV → Sto → Prop} (u v : α → AV) (l : List α) (f : α → AV) (hh : c.A.handled = none) (hab : a ≠ b) (hsc : c.sc = sc) (hok : compOkL [a, b] [] scope sc = true) (hz : l.length ≤ sizeLine)
    (h : ev c ρ iter σ fun y σ₁ => σ₁ = σ ∧ Iter c y (l.map fun x => .tup [u x, v x]))
    (turn : ∀ c' : Cx g, c'.A = c.A → c'.sc = relab scope sc → ∀ x ∈ l, ev c' [(a, some (u x)), (b, some (v x))] elt σ fun z σ₃ => σ₃ = σ ∧ z = f x)
    (q : Q (.list (l.map f)) σ)
    (hs : ∀ x, foldedSetIterable iter c.env x = pure x := by intro _; rfl) : ev c ρ (.ListComp elt [⟨.Tuple [.Name a pa, .Name b pb] k tpos, iter, [], 0⟩] scope pos) σ Q := by
  subst hsc
  refine ev_compG (t := none) (fr := []) _ _ (binds_pair hh hab) (fun r acc σ₁ => σ₁ = σ ∧ ∃ dn rs : List α, l = dn ++ rs ∧ r = rs.map (fun x => .tup [u x, v x]) ∧ acc = dn.map f) ?_ hok (fun p hp => by cases hp) ?_ ?_ ?_ hs
  · rintro y rest acc σ₁ ⟨_, dn, rs, _, hr, _⟩
    cases rs with
    | nil => cases hr
    | cons x rs => injection hr with e _; exact ⟨_, _, e⟩
  · refine gv.mono h ?_
    rintro y σ₁ ⟨rfl, hi⟩
    exact ⟨_, hi, by rw [List.length_map]; exact hz, rfl, [], l, rfl, rfl, rfl⟩
  · rintro c' hA hS y rest acc σ₁ ⟨rfl, dn, rs, hl, hr, rfl⟩
    cases rs with
    | nil => cases hr
    | cons x rs =>
      rw [List.map_cons] at hr
      injection hr with e1 e2
      subst e1 e2
      refine gv.mono (turn c' hA hS x (by rw [hl]; simp)) ?_
      rintro z σ₃ ⟨rfl, rfl⟩
      exact ⟨rfl, dn ++ [x], rs, by rw [hl]; simp, rfl, by simp⟩
  · rintro acc σ₁ ⟨rfl, dn, rs, hl, hr, rfl⟩
    have : rs = [] := by cases rs with | nil => rfl | cons _ _ => cases hr
    subst this
    rw [List.append_nil] at hl
    rw [← hl]; exact q

theorem ev_meth0 {o : Expr} {name : Str} {apos pos : Pos} {T id : String} {Q : AV → Sto → Prop} (pa : PlainAttrs T) (slot : Slot T name id) (hty : typeOf (.builtin id) = pure (.type "method_descriptor"))
    (h : ev c ρ o σ fun x σ₁ => Kind σ₁ x T ∧ cal c (.builtin id) [x] σ₁ Q)
    (hbase : attributeBase o name c.env (eval o c.env) = eval o c.env := by rfl) (hline : (apos.endLine == pos.line) = true := by rfl) :
    ev c ρ (.Call (.Attribute o name apos) [] [] pos) σ Q := fun s hs => by
  refine wpAny_Call_method hbase rfl hline pa slot hty (pg.use (h s hs) (fun ov s₁ x σ₁ i₁ e₁ r₁ qq => ⟨(qq.1.at i₁ r₁).1, (qq.1.at i₁ r₁).2, ?_⟩))
  refine Calls.callWith_builtin rfl (evalArgs_none ?_)
  exact pg.use (qq.2 s₁ [ov] i₁ (.cons r₁ .nil)) (fun v s₃ z σ₃ i₃ e₃ r₃ q₃ => ⟨z, σ₃, i₃, e₁.trans e₃, r₃, q₃⟩)

theorem Inv.drop {w : World} {H₀ : Heap} {own : List Addr} {σ' : Sto} {s : Shared} (i : Inv w H₀ own σ s) (h : ∀ b, σ' b = none ∨ σ' b = σ b) : Inv w H₀ own σ' s ∧ (fz s.heap own σ).le (fz s.heap own σ') := by
  have le : (fz s.heap own σ).le (fz s.heap own σ') := fun b o e => by
    obtain ⟨e1, e2, e3⟩ := fz_eq.mp e
    exact fz_eq.mpr ⟨(h b).elim id fun q => q.trans e1, e2, e3⟩
  refine ⟨⟨fun b o e => le b o (i.keep b o e), fun a x e => ?_, fun a ha => (h a).elim id fun q => q.trans (i.off a ha), i.live⟩, le⟩
  rcases h a with q | q
  · rw [q] at e; cases e
  · exact (i.objs a x (q ▸ e)).mono le fun _ e => e
theorem es_ret_freezeE {e pos} {Q : AFl → Rho → Sto → Prop} (h : ev c ρ e σ fun x σ' => ∃ (E : List Addr) (f : Addr → List (AV × AV)) (σ'' : Sto), x = .list (E.map .obj) ∧ (∀ e ∈ E, σ' e = some (.dct (f e)) ∧ σ'' e = none) ∧ (∀ b, σ'' b = none ∨ σ'' b = σ' b) ∧ Q (.ret (.list (E.map fun e => .dict (f e)))) ρ σ'') : es c ρ (exec (.Return (some e) pos) c.env) σ Q := fun s hs => by
  refine wpAny_Return_some (wpAny_mono (h s hs) (fun v s₁ hq => ?_) fun _ _ e => e)
  obtain ⟨x, σ₁, i₁, e₁, r₁, E, f, σ₂, rfl, hE, hd, q⟩ := hq
  have st₁ := hs.ev i₁ e₁
  obtain ⟨i₂, le⟩ := i₁.drop hd
  have st₂ : St c ρ σ₂ s₁ := by
    refine ⟨i₂, hs.fr, ?_, fun z b hk hb => ?_⟩
    · obtain ⟨m, hn, hm⟩ := st₁.ns
      exact ⟨m, hn, fun z v hz hk => (hm z v hz hk).imp fun _ q => ⟨q.1, q.2.mono le⟩⟩
    · obtain ⟨vo, h1, h2⟩ := st₁.cl z b hk hb
      exact ⟨vo, h1, fun v hz => (h2 v hz).imp fun _ q => ⟨q.1, q.2.mono le⟩⟩
  have e₂ := e₁.toS hs.fr.sub
  obtain ⟨a, vs, n, rfl, hF, hr⟩ := r₁.invList
  refine ⟨_, ρ, σ₂, st₂, ⟨e₂.same, e₂.grow.trans le, e₂.hid⟩, .ret (.list (le _ _ hF) ?_), q⟩
  refine RepL.of (by rw [hr.length, List.length_map, List.length_map]) fun j v x hv hx => ?_
  obtain ⟨y, hy, ry⟩ := hr.get' hv
  rw [List.getElem?_map, Option.map_eq_some_iff] at hx hy
  obtain ⟨e1, h1, rfl⟩ := hx
  obtain ⟨e2, h2, rfl⟩ := hy
  rw [h1] at h2
  injection h2 with h2
  subst h2
  (first | obtain rfl := ry.invNil | obtain ⟨_, rfl⟩ := ry.invInt | obtain rfl := ry.invObj | obtain ⟨_, rfl⟩ := ry.invStr | obtain rfl := ry.invBool | obtain rfl := ry.invNone | obtain rfl := ry.invRaw)
  obtain ⟨f1, f2⟩ := hE e1 (List.mem_of_getElem? h1)
  obtain ⟨es, n, g1, g2, g3⟩ := i₁.objs _ _ f1
  have hno : e1 ∉ c.own := fun hm => by rw [i₁.off _ hm] at f1; cases f1
  exact .dict (fz_eq.mpr ⟨f2, hno, g1⟩) (g2.mono le) g3
end Mine

end

section
open PySem PySem.W PyProof.Rows
namespace Mine.H
noncomputable def bodyS : Stmt → List Stmt
  | .FunctionDef _ _ b _ _ _ _ _ _ _ => b
  | .ClassDef _ _ _ b _ _ _ _ _ _ _ => b
  | _ => []
noncomputable def argsS : Stmt → Arguments
  | .FunctionDef _ a _ _ _ _ _ _ _ _ => a
  | _ => ⟨[], [], none, [], [], none, []⟩
noncomputable def scopeS : Stmt → Scope
  | .FunctionDef _ _ _ _ _ _ s _ _ _ => s
  | .ClassDef _ _ _ _ _ _ s _ _ _ _ => s
  | _ => ⟨.function, [], false, false, []⟩
noncomputable def nthS (l : List Stmt) (n : Nat) : Stmt := l.getD n (.Pass ⟨0, 0, 0, 0⟩)
noncomputable abbrev pg : Program := PySem.Challenge.pw_uf060015_04
noncomputable def s0 : Stmt := nthS pg.main.body 0
noncomputable def s1 : Stmt := nthS pg.main.body 1
noncomputable def s2 : Stmt := nthS pg.main.body 2
noncomputable def s3 : Stmt := nthS pg.main.body 3
noncomputable def s4 : Stmt := nthS pg.main.body 4
noncomputable def s5 : Stmt := nthS pg.main.body 5
noncomputable def s6 : Stmt := nthS pg.main.body 6
noncomputable def s7 : Stmt := nthS pg.main.body 7
noncomputable def s8 : Stmt := nthS pg.main.body 8
noncomputable def s9 : Stmt := nthS pg.main.body 9
noncomputable def s10 : Stmt := nthS pg.main.body 10
noncomputable def s11 : Stmt := nthS pg.main.body 11
noncomputable def s12 : Stmt := nthS pg.main.body 12
noncomputable def s13 : Stmt := nthS pg.main.body 13
noncomputable def s14 : Stmt := nthS pg.main.body 14
noncomputable def pa_is_within : Arguments := argsS s14
noncomputable def sc_is_within : Scope := scopeS s14
noncomputable def bd_is_within : List Stmt := bodyS s14
noncomputable def s15 : Stmt := nthS pg.main.body 15
noncomputable def pa_is_sign : Arguments := argsS s15
noncomputable def sc_is_sign : Scope := scopeS s15
noncomputable def bd_is_sign : List Stmt := bodyS s15
noncomputable def s16 : Stmt := nthS pg.main.body 16
noncomputable def pa_need_table : Arguments := argsS s16
noncomputable def sc_need_table : Scope := scopeS s16
noncomputable def bd_need_table : List Stmt := bodyS s16
noncomputable def s17 : Stmt := nthS pg.main.body 17
noncomputable def pa_need_sign : Arguments := argsS s17
noncomputable def sc_need_sign : Scope := scopeS s17
noncomputable def bd_need_sign : List Stmt := bodyS s17
noncomputable def s18 : Stmt := nthS pg.main.body 18
noncomputable def pa_need_hand : Arguments := argsS s18
noncomputable def sc_need_hand : Scope := scopeS s18
noncomputable def bd_need_hand : List Stmt := bodyS s18
noncomputable def s19 : Stmt := nthS pg.main.body 19
noncomputable def pa_need_liars : Arguments := argsS s19
noncomputable def sc_need_liars : Scope := scopeS s19
noncomputable def bd_need_liars : List Stmt := bodyS s19
noncomputable def s20 : Stmt := nthS pg.main.body 20
noncomputable def s21 : Stmt := nthS pg.main.body 21
noncomputable def pa_hearers : Arguments := argsS s21
noncomputable def sc_hearers : Scope := scopeS s21
noncomputable def bd_hearers : List Stmt := bodyS s21
noncomputable def s22 : Stmt := nthS pg.main.body 22
noncomputable def pa_longer_paths : Arguments := argsS s22
noncomputable def sc_longer_paths : Scope := scopeS s22
noncomputable def bd_longer_paths : List Stmt := bodyS s22
noncomputable def s23 : Stmt := nthS pg.main.body 23
noncomputable def pa_paths : Arguments := argsS s23
noncomputable def sc_paths : Scope := scopeS s23
noncomputable def bd_paths : List Stmt := bodyS s23
noncomputable def s24 : Stmt := nthS pg.main.body 24
noncomputable def pa_paths_of : Arguments := argsS s24
noncomputable def sc_paths_of : Scope := scopeS s24
noncomputable def bd_paths_of : List Stmt := bodyS s24
noncomputable def s25 : Stmt := nthS pg.main.body 25
noncomputable def s26 : Stmt := nthS pg.main.body 26
noncomputable def pa_is_saying : Arguments := argsS s26
noncomputable def sc_is_saying : Scope := scopeS s26
noncomputable def bd_is_saying : List Stmt := bodyS s26
noncomputable def s27 : Stmt := nthS pg.main.body 27
noncomputable def pa_need_lies : Arguments := argsS s27
noncomputable def sc_need_lies : Scope := scopeS s27
noncomputable def bd_need_lies : List Stmt := bodyS s27
noncomputable def s28 : Stmt := nthS pg.main.body 28
noncomputable def s29 : Stmt := nthS pg.main.body 29
noncomputable def pa_vote : Arguments := argsS s29
noncomputable def sc_vote : Scope := scopeS s29
noncomputable def bd_vote : List Stmt := bodyS s29
noncomputable def s30 : Stmt := nthS pg.main.body 30
noncomputable def pa_settled : Arguments := argsS s30
noncomputable def sc_settled : Scope := scopeS s30
noncomputable def bd_settled : List Stmt := bodyS s30
noncomputable def s31 : Stmt := nthS pg.main.body 31
noncomputable def s32 : Stmt := nthS pg.main.body 32
noncomputable def pa_Table___init__ : Arguments := argsS (nthS (bodyS s32) 0)
noncomputable def sc_Table___init__ : Scope := scopeS (nthS (bodyS s32) 0)
noncomputable def bd_Table___init__ : List Stmt := bodyS (nthS (bodyS s32) 0)
noncomputable def pa_Table_honest : Arguments := argsS (nthS (bodyS s32) 1)
noncomputable def sc_Table_honest : Scope := scopeS (nthS (bodyS s32) 1)
noncomputable def bd_Table_honest : List Stmt := bodyS (nthS (bodyS s32) 1)
noncomputable def pa_Table_play : Arguments := argsS (nthS (bodyS s32) 2)
noncomputable def sc_Table_play : Scope := scopeS (nthS (bodyS s32) 2)
noncomputable def bd_Table_play : List Stmt := bodyS (nthS (bodyS s32) 2)
noncomputable def pa_Table_told : Arguments := argsS (nthS (bodyS s32) 3)
noncomputable def sc_Table_told : Scope := scopeS (nthS (bodyS s32) 3)
noncomputable def bd_Table_told : List Stmt := bodyS (nthS (bodyS s32) 3)
noncomputable def pa_Table_says : Arguments := argsS (nthS (bodyS s32) 4)
noncomputable def sc_Table_says : Scope := scopeS (nthS (bodyS s32) 4)
noncomputable def bd_Table_says : List Stmt := bodyS (nthS (bodyS s32) 4)
noncomputable def s33 : Stmt := nthS pg.main.body 33
noncomputable def s34 : Stmt := nthS pg.main.body 34
noncomputable def pa__law_cell_at : Arguments := argsS s34
noncomputable def sc__law_cell_at : Scope := scopeS s34
noncomputable def bd__law_cell_at : List Stmt := bodyS s34
noncomputable def s35 : Stmt := nthS pg.main.body 35
noncomputable def pa__law_whole : Arguments := argsS s35
noncomputable def sc__law_whole : Scope := scopeS s35
noncomputable def bd__law_whole : List Stmt := bodyS s35
noncomputable def s36 : Stmt := nthS pg.main.body 36
noncomputable def pa__law_signs : Arguments := argsS s36
noncomputable def sc__law_signs : Scope := scopeS s36
noncomputable def bd__law_signs : List Stmt := bodyS s36
noncomputable def s37 : Stmt := nthS pg.main.body 37
noncomputable def pa__law_table : Arguments := argsS s37
noncomputable def sc__law_table : Scope := scopeS s37
noncomputable def bd__law_table : List Stmt := bodyS s37
noncomputable def s38 : Stmt := nthS pg.main.body 38
noncomputable def pa__law_paths : Arguments := argsS s38
noncomputable def sc__law_paths : Scope := scopeS s38
noncomputable def bd__law_paths : List Stmt := bodyS s38
noncomputable def s39 : Stmt := nthS pg.main.body 39
noncomputable def pa__law_liars : Arguments := argsS s39
noncomputable def sc__law_liars : Scope := scopeS s39
noncomputable def bd__law_liars : List Stmt := bodyS s39
noncomputable def s40 : Stmt := nthS pg.main.body 40
noncomputable def pa__law_mixed : Arguments := argsS s40
noncomputable def sc__law_mixed : Scope := scopeS s40
noncomputable def bd__law_mixed : List Stmt := bodyS s40
noncomputable def s41 : Stmt := nthS pg.main.body 41
noncomputable def pa__law_lie : Arguments := argsS s41
noncomputable def sc__law_lie : Scope := scopeS s41
noncomputable def bd__law_lie : List Stmt := bodyS s41
noncomputable def s42 : Stmt := nthS pg.main.body 42
noncomputable def pa__law_lies : Arguments := argsS s42
noncomputable def sc__law_lies : Scope := scopeS s42
noncomputable def bd__law_lies : List Stmt := bodyS s42
noncomputable def s43 : Stmt := nthS pg.main.body 43
noncomputable def pa__law_play : Arguments := argsS s43
noncomputable def sc__law_play : Scope := scopeS s43
noncomputable def bd__law_play : List Stmt := bodyS s43
noncomputable def s44 : Stmt := nthS pg.main.body 44
noncomputable def pa__law_of : Arguments := argsS s44
noncomputable def sc__law_of : Scope := scopeS s44
noncomputable def bd__law_of : List Stmt := bodyS s44
noncomputable def s45 : Stmt := nthS pg.main.body 45
noncomputable def pa__law_same : Arguments := argsS s45
noncomputable def sc__law_same : Scope := scopeS s45
noncomputable def bd__law_same : List Stmt := bodyS s45
noncomputable def s46 : Stmt := nthS pg.main.body 46
noncomputable def pa__law_told : Arguments := argsS s46
noncomputable def sc__law_told : Scope := scopeS s46
noncomputable def bd__law_told : List Stmt := bodyS s46
noncomputable def s47 : Stmt := nthS pg.main.body 47
noncomputable def pa__law_stands : Arguments := argsS s47
noncomputable def sc__law_stands : Scope := scopeS s47
noncomputable def bd__law_stands : List Stmt := bodyS s47
noncomputable def s48 : Stmt := nthS pg.main.body 48
noncomputable def pa_law : Arguments := argsS s48
noncomputable def sc_law : Scope := scopeS s48
noncomputable def bd_law : List Stmt := bodyS s48
noncomputable def en : Env := { scope := pg.main.scope, locals := mainNs, globals := mainNs, cells := [], code := (.ref 13), frame := some 14 }
noncomputable abbrev bE : List Stmt := behindTheImports pg
noncomputable abbrev cE : Code := Code.body bE en
noncomputable def qE : Pos := (Pos.mk 0 0 0 0)
noncomputable abbrev m0 : Nat := 11
noncomputable abbrev ann : Option Value := (.some (.ref 6))
noncomputable def o0 (P : Params) : Obj := (PySem.Obj.mk (.type "tuple") none (.seq ⟨[]⟩ 0) ⟨[]⟩)
noncomputable def o1 (P : Params) : Obj := (PySem.Obj.mk .none none (.fields ⟨[]⟩) ⟨[]⟩)
noncomputable def o2 (P : Params) : Obj := (PySem.Obj.mk (.type "code") none (.fields ⟨[(.str "<module>" 182), (.str "<module>" 183), (.str "/claim/cut.py" 184), (.int 1 0), (.int 0 0), (.int 0 0), (.int 0 0), (.int 0 0), (.ref 11), (.bool false), (.int 181 0), (.ref 12), .none, .none, .none, .none, (.int 185 0), (.int 1 0), (.str "/claim/cut.py" 186)]⟩) ⟨[]⟩)
noncomputable def o3 (P : Params) : Obj := (PySem.Obj.mk (.type "frame") none .plain ⟨[(.some (.ref 13)), (.some (.ref 3)), (.some (.ref 3)), none, (.some (.str "__main__" 164)), none, (.some (.ref 0))]⟩)
noncomputable def hA (P : Params) : Heap := Heap.mk ⟨[boot_o_0 P, boot_o_1 P, boot_o_2 P, boot_o_3 P, boot_o_4 P, boot_o_5 P, boot_o_6 P, boot_o_7 P, boot_o_8 P, boot_o_9 P, boot_o_10 P, o0 P, o1 P, o2 P, o3 P]⟩ (PySem.Life.mk [] [] [] 0 [] [] false ⟨[]⟩ [] 0 false false false 0 [2000, 10, 10] false 0 true [] [] 0 false)
noncomputable def S0 (w : World) (os : OsState) : Shared := Shared.mk (boot_heap w.params) (Array.mk []) boot_drawn boot_toks os
noncomputable def SA (w : World) (os : OsState) : Shared := Shared.mk (hA w.params) ⟨[]⟩ (PySem.Drawn.mk 0 0 0 0) 187 os
theorem pc_pre : ∀ w : World, (fun os => topGo treeTable pg w m0 ann 12 (S0 w os) (topStub pg)) = fun os => some (SA w os, Thread.mk (denote treeTable cE) cE (Pos.mk 0 0 0 0) [topFrame qE]) := fun w => by rewrite [PySem.W.Fast.te15667345088766844465, PySem.W.Fast.te11892475500146522536, PySem.W.Fast.te14364793385576792824]; kernel_rfl
noncomputable def tB (P : Params) : BT := (.node (boot_o_0 P) (.node (boot_o_1 P) (.node (boot_o_3 P) (.node (boot_o_7 P) .nil .nil) (.node (o0 P) .nil .nil)) (.node (boot_o_5 P) (.node (boot_o_9 P) .nil .nil) (.node (o2 P) .nil .nil))) (.node (boot_o_2 P) (.node (boot_o_4 P) (.node (boot_o_8 P) .nil .nil) (.node (o1 P) .nil .nil)) (.node (boot_o_6 P) (.node (boot_o_10 P) .nil .nil) (.node (o3 P) .nil .nil))))
noncomputable def TB (w : World) (os : OsState) : SharedT := SharedT.mk (tB w.params) 15 (PySem.Life.mk [] [] [] 0 [] [] false ⟨[]⟩ [] 0 false false false 0 [2000, 10, 10] false 0 true [] [] 0 false) ⟨[]⟩ (PySem.Drawn.mk 0 0 0 0) 187 os
theorem pc_block : ∀ w : World, (fun os => segRun treeTable pg w m0 ann 1 1 (SA w os) (blockOf bE en cE (Pos.mk 0 0 0 0) [topFrame qE])) = fun os => some (Flow.next, (TB w os).abs, cE, (Pos.mk 0 0 0 0)) := fun w => by rewrite [PySem.W.Fast.te14374325043358763698, PySem.W.Fast.te14364793385576792824]; kernel_rfl
noncomputable def o4 (P : Params) : Obj := (PySem.Obj.mk (.type "dict") none (.dict ⟨[(PySem.DictEntry.mk (PySem.PyData.keyHash P "__name__") (.str "__name__" 165) (.str "lietable.errors" 187)), (PySem.DictEntry.mk (PySem.PyData.keyHash P "__doc__") (.str "__doc__" 166) .none), (PySem.DictEntry.mk (PySem.PyData.keyHash P "__package__") (.str "__package__" 167) .none), (PySem.DictEntry.mk (PySem.PyData.keyHash P "__loader__") (.str "__loader__" 168) (.builtin "__main__.__loader__#opaque")), (PySem.DictEntry.mk (PySem.PyData.keyHash P "__spec__") (.str "__spec__" 169) .none), (PySem.DictEntry.mk (PySem.PyData.keyHash P "__annotations__") (.str "__annotations__" 170) (.ref 6)), (PySem.DictEntry.mk (PySem.PyData.keyHash P "__builtins__") (.str "__builtins__" 171) (.ref 4)), (PySem.DictEntry.mk (PySem.PyData.keyHash P "__file__") (.str "__file__" 173) (.str "/claim/cut.py" 172)), (PySem.DictEntry.mk (PySem.PyData.keyHash P "__cached__") (.str "__cached__" 174) .none), (PySem.DictEntry.mk (PySem.PyData.keyHash P "TableError") (.str "TableError" 206) (.ref 24))]⟩ 10) ⟨[]⟩)
noncomputable def o5 (P : Params) : Obj := (PySem.Obj.mk .none none (.fields ⟨[(.int 2 0), (.int 0 0), (.ref 20)]⟩) ⟨[]⟩)
noncomputable def o6 (P : Params) : Obj := (PySem.Obj.mk (.type "tuple") none (.seq ⟨[(.type "ValueError")]⟩ 0) ⟨[]⟩)
noncomputable def o7 (P : Params) : Obj := (PySem.Obj.mk (.type "builtin_function_or_method") none (.fields ⟨[(.builtin "type.__prepare__"), (.type "type")]⟩) ⟨[]⟩)
noncomputable def o8 (P : Params) : Obj := (PySem.Obj.mk (.type "dict") none (.dict ⟨[(PySem.DictEntry.mk (PySem.PyData.keyHash P "__module__") (.str "__module__" 196) (.str "lietable.errors" 187)), (PySem.DictEntry.mk (PySem.PyData.keyHash P "__qualname__") (.str "__qualname__" 198) (.str "TableError" 197)), (PySem.DictEntry.mk (PySem.PyData.keyHash P "__firstlineno__") (.str "__firstlineno__" 200) (.int 2 199)), (PySem.DictEntry.mk (PySem.PyData.keyHash P "__static_attributes__") (.str "__static_attributes__" 201) (.ref 22))]⟩ 4) ⟨[]⟩)
noncomputable def o9 (P : Params) : Obj := (PySem.Obj.mk (.type "tuple") none (.seq ⟨[]⟩ 0) ⟨[]⟩)
noncomputable def o10 (P : Params) : Obj := (PySem.Obj.mk .none none (.fields ⟨[]⟩) ⟨[]⟩)
noncomputable def o11 (P : Params) : Obj := (PySem.Obj.mk (.type "code") none (.fields ⟨[(.str "TableError" 191), (.str "TableError" 192), (.str "/claim/cut.py" 193), (.int 2 0), (.int 0 0), (.int 0 0), (.int 0 0), (.int 0 0), (.ref 18), (.bool false), (.int 181 0), (.ref 19), .none, .none, .none, .none, (.int 194 0), (.int 2 0), (.str "/claim/cut.py" 195)]⟩) ⟨[]⟩)
noncomputable def o12 (P : Params) : Obj := (PySem.Obj.mk (.type "frame") none .plain ⟨[(.some (.ref 20)), (.some (.ref 3)), (.some (.ref 17)), none, (.some (.str "lietable.errors" 187)), none, (.some (.ref 0))]⟩)
noncomputable def o13 (P : Params) : Obj := (PySem.Obj.mk (.type "tuple") none (.seq ⟨[]⟩ 0) ⟨[]⟩)
noncomputable def o14 (P : Params) : Obj := (PySem.Obj.mk (.type "dict") none (.dict ⟨[(PySem.DictEntry.mk (PySem.PyData.keyHash P "__module__") (.str "__module__" 196) (.str "lietable.errors" 187)), (PySem.DictEntry.mk (PySem.PyData.keyHash P "__firstlineno__") (.str "__firstlineno__" 200) (.int 2 199)), (PySem.DictEntry.mk (PySem.PyData.keyHash P "__static_attributes__") (.str "__static_attributes__" 201) (.ref 22)), (PySem.DictEntry.mk (PySem.PyData.keyHash P "__weakref__") (.str "__weakref__" 203) (.ref 25)), (PySem.DictEntry.mk (PySem.PyData.keyHash P "__doc__") (.str "__doc__" 204) .none)]⟩ 3) ⟨[]⟩)
noncomputable def o15 (P : Params) : Obj := (PySem.Obj.mk (.type "type") none (.cls (PySem.ClassData.mk "TableError" [(.type "ValueError")] [(.ref 24), (.type "ValueError"), (.type "Exception"), (.type "BaseException"), (.type "object")] 23 "TableError" true [] [] false none false)) ⟨[(.some (.ref 15)), none, (.some (.str "TableError" 189)), (.some (.str "TableError" 197)), (.some (.builtin "ValueError.__new__")), (.some (.bool true))]⟩)
noncomputable def o16 (P : Params) : Obj := (PySem.Obj.mk (.type "getset_descriptor") none (.fields ⟨[(.str "__weakref__" 202), (.ref 24), (.builtin "ExceptionGroup.__weakref__"), .none]⟩) ⟨[]⟩)
noncomputable def o17 (P : Params) : Obj := (PySem.Obj.mk (.type "super") none (.fields ⟨[(.ref 24), (.ref 24), (.ref 24)]⟩) ⟨[]⟩)
noncomputable def o18 (P : Params) : Obj := (PySem.Obj.mk (.type "builtin_function_or_method") none (.fields ⟨[(.builtin "object.__init_subclass__"), (.ref 24)]⟩) ⟨[]⟩)
noncomputable def t0 (P : Params) : BT := (.node (boot_o_0 P) (.node (boot_o_1 P) (.node (o4 P) (.node (boot_o_7 P) (.node (o6 P) .nil .nil) (.node (o14 P) .nil .nil)) (.node (o0 P) (.node (o10 P) .nil .nil) (.node (o18 P) .nil .nil))) (.node (boot_o_5 P) (.node (boot_o_9 P) (.node (o8 P) .nil .nil) (.node (o16 P) .nil .nil)) (.node (o2 P) (.node (o12 P) .nil .nil) .nil))) (.node (boot_o_2 P) (.node (boot_o_4 P) (.node (boot_o_8 P) (.node (o7 P) .nil .nil) (.node (o15 P) .nil .nil)) (.node (o5 P) (.node (o11 P) .nil .nil) .nil)) (.node (boot_o_6 P) (.node (boot_o_10 P) (.node (o9 P) .nil .nil) (.node (o17 P) .nil .nil)) (.node (o3 P) (.node (o13 P) .nil .nil) .nil))))
noncomputable def T0 (w : World) (os : OsState) : SharedT := SharedT.mk (t0 w.params) 28 (PySem.Life.mk [] [] [] 0 [] [] false ⟨[]⟩ [] 0 false false false 0 [2000, 10, 10] false 0 true [] [] 0 false) ⟨[]⟩ (PySem.Drawn.mk 0 0 0 0) 207 os
noncomputable def sts0 : List Stmt := [s0, s1]
theorem pc0 : ∀ w : World, (fun os => segRunT treeTable pg w m0 ann 1 196 (TB w os) (piecesOf sts0 en cE (Pos.mk 0 0 0 0) [topFrame qE])) = fun os => some (Flow.next, T0 w os, cE, (Pos.mk 2 0 3 8)) := fun w => by rewrite [PySem.W.Fast.te10110043849684766642, PySem.W.Fast.te14364793385576792824]; kernel_rfl
noncomputable def o19 (P : Params) : Obj := (PySem.Obj.mk (.type "dict") none (.dict ⟨[(PySem.DictEntry.mk (PySem.PyData.keyHash P "__name__") (.str "__name__" 165) (.str "lietable.errors" 187)), (PySem.DictEntry.mk (PySem.PyData.keyHash P "__doc__") (.str "__doc__" 166) .none), (PySem.DictEntry.mk (PySem.PyData.keyHash P "__package__") (.str "__package__" 167) .none), (PySem.DictEntry.mk (PySem.PyData.keyHash P "__loader__") (.str "__loader__" 168) (.builtin "__main__.__loader__#opaque")), (PySem.DictEntry.mk (PySem.PyData.keyHash P "__spec__") (.str "__spec__" 169) .none), (PySem.DictEntry.mk (PySem.PyData.keyHash P "__annotations__") (.str "__annotations__" 170) (.ref 6)), (PySem.DictEntry.mk (PySem.PyData.keyHash P "__builtins__") (.str "__builtins__" 171) (.ref 4)), (PySem.DictEntry.mk (PySem.PyData.keyHash P "__file__") (.str "__file__" 173) (.str "/claim/cut.py" 172)), (PySem.DictEntry.mk (PySem.PyData.keyHash P "__cached__") (.str "__cached__" 174) .none), (PySem.DictEntry.mk (PySem.PyData.keyHash P "TableError") (.str "TableError" 206) (.ref 24)), (PySem.DictEntry.mk (PySem.PyData.keyHash P "NoTable") (.str "NoTable" 222) (.ref 37))]⟩ 11) ⟨[]⟩)
noncomputable def o20 (P : Params) : Obj := (PySem.Obj.mk .none none (.fields ⟨[(.int 2 0), (.int 0 0), (.ref 20), (.int 4 0), (.int 0 0), (.ref 33)]⟩) ⟨[]⟩)
noncomputable def o21 (P : Params) : Obj := (PySem.Obj.mk (.type "type") none (.cls (PySem.ClassData.mk "TableError" [(.type "ValueError")] [(.ref 24), (.type "ValueError"), (.type "Exception"), (.type "BaseException"), (.type "object")] 23 "TableError" true [] [(.ref 37)] false none false)) ⟨[(.some (.ref 15)), none, (.some (.str "TableError" 189)), (.some (.str "TableError" 197)), (.some (.builtin "ValueError.__new__")), (.some (.bool true))]⟩)
noncomputable def o22 (P : Params) : Obj := (PySem.Obj.mk (.type "tuple") none (.seq ⟨[(.ref 24)]⟩ 0) ⟨[]⟩)
noncomputable def o23 (P : Params) : Obj := (PySem.Obj.mk (.type "builtin_function_or_method") none (.fields ⟨[(.builtin "type.__prepare__"), (.type "type")]⟩) ⟨[]⟩)
noncomputable def o24 (P : Params) : Obj := (PySem.Obj.mk (.type "dict") none (.dict ⟨[(PySem.DictEntry.mk (PySem.PyData.keyHash P "__module__") (.str "__module__" 214) (.str "lietable.errors" 187)), (PySem.DictEntry.mk (PySem.PyData.keyHash P "__qualname__") (.str "__qualname__" 216) (.str "NoTable" 215)), (PySem.DictEntry.mk (PySem.PyData.keyHash P "__firstlineno__") (.str "__firstlineno__" 218) (.int 4 217)), (PySem.DictEntry.mk (PySem.PyData.keyHash P "__static_attributes__") (.str "__static_attributes__" 219) (.ref 35))]⟩ 4) ⟨[]⟩)
noncomputable def o25 (P : Params) : Obj := (PySem.Obj.mk (.type "tuple") none (.seq ⟨[]⟩ 0) ⟨[]⟩)
noncomputable def o26 (P : Params) : Obj := (PySem.Obj.mk .none none (.fields ⟨[]⟩) ⟨[]⟩)
noncomputable def o27 (P : Params) : Obj := (PySem.Obj.mk (.type "code") none (.fields ⟨[(.str "NoTable" 209), (.str "NoTable" 210), (.str "/claim/cut.py" 211), (.int 4 0), (.int 0 0), (.int 0 0), (.int 0 0), (.int 0 0), (.ref 31), (.bool false), (.int 181 0), (.ref 32), .none, .none, .none, .none, (.int 212 0), (.int 4 0), (.str "/claim/cut.py" 213)]⟩) ⟨[]⟩)
noncomputable def o28 (P : Params) : Obj := (PySem.Obj.mk (.type "frame") none .plain ⟨[(.some (.ref 33)), (.some (.ref 3)), (.some (.ref 30)), none, (.some (.str "lietable.errors" 187)), none, (.some (.ref 0))]⟩)
noncomputable def o29 (P : Params) : Obj := (PySem.Obj.mk (.type "tuple") none (.seq ⟨[]⟩ 0) ⟨[]⟩)
noncomputable def o30 (P : Params) : Obj := (PySem.Obj.mk (.type "dict") none (.dict ⟨[(PySem.DictEntry.mk (PySem.PyData.keyHash P "__module__") (.str "__module__" 214) (.str "lietable.errors" 187)), (PySem.DictEntry.mk (PySem.PyData.keyHash P "__firstlineno__") (.str "__firstlineno__" 218) (.int 4 217)), (PySem.DictEntry.mk (PySem.PyData.keyHash P "__static_attributes__") (.str "__static_attributes__" 219) (.ref 35)), (PySem.DictEntry.mk (PySem.PyData.keyHash P "__doc__") (.str "__doc__" 220) .none)]⟩ 2) ⟨[]⟩)
noncomputable def o31 (P : Params) : Obj := (PySem.Obj.mk (.type "type") none (.cls (PySem.ClassData.mk "NoTable" [(.ref 24)] [(.ref 37), (.ref 24), (.type "ValueError"), (.type "Exception"), (.type "BaseException"), (.type "object")] 36 "NoTable" true [] [] false none false)) ⟨[(.some (.ref 28)), none, (.some (.str "NoTable" 207)), (.some (.str "NoTable" 215)), (.some (.builtin "ValueError.__new__")), (.some (.bool true))]⟩)
noncomputable def o32 (P : Params) : Obj := (PySem.Obj.mk (.type "super") none (.fields ⟨[(.ref 37), (.ref 37), (.ref 37)]⟩) ⟨[]⟩)
noncomputable def o33 (P : Params) : Obj := (PySem.Obj.mk (.type "builtin_function_or_method") none (.fields ⟨[(.builtin "object.__init_subclass__"), (.ref 37)]⟩) ⟨[]⟩)
noncomputable def t1 (P : Params) : BT := (.node (boot_o_0 P) (.node (boot_o_1 P) (.node (o19 P) (.node (boot_o_7 P) (.node (o6 P) (.node (o25 P) .nil .nil) .nil) (.node (o14 P) (.node (o33 P) .nil .nil) .nil)) (.node (o0 P) (.node (o10 P) (.node (o29 P) .nil .nil) .nil) (.node (o18 P) .nil .nil))) (.node (boot_o_5 P) (.node (boot_o_9 P) (.node (o8 P) (.node (o27 P) .nil .nil) .nil) (.node (o16 P) .nil .nil)) (.node (o2 P) (.node (o12 P) (.node (o31 P) .nil .nil) .nil) (.node (o23 P) .nil .nil)))) (.node (boot_o_2 P) (.node (boot_o_4 P) (.node (boot_o_8 P) (.node (o7 P) (.node (o26 P) .nil .nil) .nil) (.node (o21 P) .nil .nil)) (.node (o20 P) (.node (o11 P) (.node (o30 P) .nil .nil) .nil) (.node (o22 P) .nil .nil))) (.node (boot_o_6 P) (.node (boot_o_10 P) (.node (o9 P) (.node (o28 P) .nil .nil) .nil) (.node (o17 P) .nil .nil)) (.node (o3 P) (.node (o13 P) (.node (o32 P) .nil .nil) .nil) (.node (o24 P) .nil .nil)))))
noncomputable def T1 (w : World) (os : OsState) : SharedT := SharedT.mk (t1 w.params) 40 (PySem.Life.mk [] [] [] 0 [] [] false ⟨[]⟩ [] 0 false false false 0 [2000, 10, 10] false 0 true [] [] 0 false) ⟨[]⟩ (PySem.Drawn.mk 0 0 0 0) 223 os
noncomputable def sts1 : List Stmt := [s2]
theorem pc1 : ∀ w : World, (fun os => segRunT treeTable pg w m0 ann 1 214 (T0 w os) (piecesOf sts1 en cE (Pos.mk 2 0 3 8) [topFrame qE])) = fun os => some (Flow.next, T1 w os, cE, (Pos.mk 4 0 5 8)) := fun w => by rewrite [PySem.W.Fast.te10110043849684766642, PySem.W.Fast.te14364793385576792824]; kernel_rfl
noncomputable def o34 (P : Params) : Obj := (PySem.Obj.mk (.type "dict") none (.dict ⟨[(PySem.DictEntry.mk (PySem.PyData.keyHash P "__name__") (.str "__name__" 165) (.str "lietable.errors" 187)), (PySem.DictEntry.mk (PySem.PyData.keyHash P "__doc__") (.str "__doc__" 166) .none), (PySem.DictEntry.mk (PySem.PyData.keyHash P "__package__") (.str "__package__" 167) .none), (PySem.DictEntry.mk (PySem.PyData.keyHash P "__loader__") (.str "__loader__" 168) (.builtin "__main__.__loader__#opaque")), (PySem.DictEntry.mk (PySem.PyData.keyHash P "__spec__") (.str "__spec__" 169) .none), (PySem.DictEntry.mk (PySem.PyData.keyHash P "__annotations__") (.str "__annotations__" 170) (.ref 6)), (PySem.DictEntry.mk (PySem.PyData.keyHash P "__builtins__") (.str "__builtins__" 171) (.ref 4)), (PySem.DictEntry.mk (PySem.PyData.keyHash P "__file__") (.str "__file__" 173) (.str "/claim/cut.py" 172)), (PySem.DictEntry.mk (PySem.PyData.keyHash P "__cached__") (.str "__cached__" 174) .none), (PySem.DictEntry.mk (PySem.PyData.keyHash P "TableError") (.str "TableError" 206) (.ref 24)), (PySem.DictEntry.mk (PySem.PyData.keyHash P "NoTable") (.str "NoTable" 222) (.ref 37)), (PySem.DictEntry.mk (PySem.PyData.keyHash P "NoSign") (.str "NoSign" 238) (.ref 49))]⟩ 12) ⟨[]⟩)
noncomputable def o35 (P : Params) : Obj := (PySem.Obj.mk .none none (.fields ⟨[(.int 2 0), (.int 0 0), (.ref 20), (.int 4 0), (.int 0 0), (.ref 33), (.int 6 0), (.int 0 0), (.ref 45)]⟩) ⟨[]⟩)
noncomputable def o36 (P : Params) : Obj := (PySem.Obj.mk (.type "type") none (.cls (PySem.ClassData.mk "TableError" [(.type "ValueError")] [(.ref 24), (.type "ValueError"), (.type "Exception"), (.type "BaseException"), (.type "object")] 23 "TableError" true [] [(.ref 37), (.ref 49)] false none false)) ⟨[(.some (.ref 15)), none, (.some (.str "TableError" 189)), (.some (.str "TableError" 197)), (.some (.builtin "ValueError.__new__")), (.some (.bool true))]⟩)
noncomputable def o37 (P : Params) : Obj := (PySem.Obj.mk (.type "tuple") none (.seq ⟨[(.ref 24)]⟩ 0) ⟨[]⟩)
noncomputable def o38 (P : Params) : Obj := (PySem.Obj.mk (.type "builtin_function_or_method") none (.fields ⟨[(.builtin "type.__prepare__"), (.type "type")]⟩) ⟨[]⟩)
noncomputable def o39 (P : Params) : Obj := (PySem.Obj.mk (.type "dict") none (.dict ⟨[(PySem.DictEntry.mk (PySem.PyData.keyHash P "__module__") (.str "__module__" 230) (.str "lietable.errors" 187)), (PySem.DictEntry.mk (PySem.PyData.keyHash P "__qualname__") (.str "__qualname__" 232) (.str "NoSign" 231)), (PySem.DictEntry.mk (PySem.PyData.keyHash P "__firstlineno__") (.str "__firstlineno__" 234) (.int 6 233)), (PySem.DictEntry.mk (PySem.PyData.keyHash P "__static_attributes__") (.str "__static_attributes__" 235) (.ref 47))]⟩ 4) ⟨[]⟩)
noncomputable def o40 (P : Params) : Obj := (PySem.Obj.mk (.type "tuple") none (.seq ⟨[]⟩ 0) ⟨[]⟩)
noncomputable def o41 (P : Params) : Obj := (PySem.Obj.mk .none none (.fields ⟨[]⟩) ⟨[]⟩)
noncomputable def o42 (P : Params) : Obj := (PySem.Obj.mk (.type "code") none (.fields ⟨[(.str "NoSign" 225), (.str "NoSign" 226), (.str "/claim/cut.py" 227), (.int 6 0), (.int 0 0), (.int 0 0), (.int 0 0), (.int 0 0), (.ref 43), (.bool false), (.int 181 0), (.ref 44), .none, .none, .none, .none, (.int 228 0), (.int 6 0), (.str "/claim/cut.py" 229)]⟩) ⟨[]⟩)
noncomputable def o43 (P : Params) : Obj := (PySem.Obj.mk (.type "frame") none .plain ⟨[(.some (.ref 45)), (.some (.ref 3)), (.some (.ref 42)), none, (.some (.str "lietable.errors" 187)), none, (.some (.ref 0))]⟩)
noncomputable def o44 (P : Params) : Obj := (PySem.Obj.mk (.type "tuple") none (.seq ⟨[]⟩ 0) ⟨[]⟩)
noncomputable def o45 (P : Params) : Obj := (PySem.Obj.mk (.type "dict") none (.dict ⟨[(PySem.DictEntry.mk (PySem.PyData.keyHash P "__module__") (.str "__module__" 230) (.str "lietable.errors" 187)), (PySem.DictEntry.mk (PySem.PyData.keyHash P "__firstlineno__") (.str "__firstlineno__" 234) (.int 6 233)), (PySem.DictEntry.mk (PySem.PyData.keyHash P "__static_attributes__") (.str "__static_attributes__" 235) (.ref 47)), (PySem.DictEntry.mk (PySem.PyData.keyHash P "__doc__") (.str "__doc__" 236) .none)]⟩ 2) ⟨[]⟩)
noncomputable def o46 (P : Params) : Obj := (PySem.Obj.mk (.type "type") none (.cls (PySem.ClassData.mk "NoSign" [(.ref 24)] [(.ref 49), (.ref 24), (.type "ValueError"), (.type "Exception"), (.type "BaseException"), (.type "object")] 48 "NoSign" true [] [] false none false)) ⟨[(.some (.ref 40)), none, (.some (.str "NoSign" 223)), (.some (.str "NoSign" 231)), (.some (.builtin "ValueError.__new__")), (.some (.bool true))]⟩)
noncomputable def o47 (P : Params) : Obj := (PySem.Obj.mk (.type "super") none (.fields ⟨[(.ref 49), (.ref 49), (.ref 49)]⟩) ⟨[]⟩)
noncomputable def o48 (P : Params) : Obj := (PySem.Obj.mk (.type "builtin_function_or_method") none (.fields ⟨[(.builtin "object.__init_subclass__"), (.ref 49)]⟩) ⟨[]⟩)
noncomputable def t2 (P : Params) : BT := (.node (boot_o_0 P) (.node (boot_o_1 P) (.node (o34 P) (.node (boot_o_7 P) (.node (o6 P) (.node (o25 P) .nil .nil) (.node (o44 P) .nil .nil)) (.node (o14 P) (.node (o33 P) .nil .nil) .nil)) (.node (o0 P) (.node (o10 P) (.node (o29 P) .nil .nil) (.node (o48 P) .nil .nil)) (.node (o18 P) (.node (o40 P) .nil .nil) .nil))) (.node (boot_o_5 P) (.node (boot_o_9 P) (.node (o8 P) (.node (o27 P) .nil .nil) (.node (o46 P) .nil .nil)) (.node (o16 P) (.node (o38 P) .nil .nil) .nil)) (.node (o2 P) (.node (o12 P) (.node (o31 P) .nil .nil) .nil) (.node (o23 P) (.node (o42 P) .nil .nil) .nil)))) (.node (boot_o_2 P) (.node (boot_o_4 P) (.node (boot_o_8 P) (.node (o7 P) (.node (o26 P) .nil .nil) (.node (o45 P) .nil .nil)) (.node (o36 P) (.node (o37 P) .nil .nil) .nil)) (.node (o35 P) (.node (o11 P) (.node (o30 P) .nil .nil) .nil) (.node (o22 P) (.node (o41 P) .nil .nil) .nil))) (.node (boot_o_6 P) (.node (boot_o_10 P) (.node (o9 P) (.node (o28 P) .nil .nil) (.node (o47 P) .nil .nil)) (.node (o17 P) (.node (o39 P) .nil .nil) .nil)) (.node (o3 P) (.node (o13 P) (.node (o32 P) .nil .nil) .nil) (.node (o24 P) (.node (o43 P) .nil .nil) .nil)))))
noncomputable def T2 (w : World) (os : OsState) : SharedT := SharedT.mk (t2 w.params) 52 (PySem.Life.mk [] [] [] 0 [] [] false ⟨[]⟩ [] 0 false false false 0 [2000, 10, 10] false 0 true [] [] 0 false) ⟨[]⟩ (PySem.Drawn.mk 0 0 0 0) 239 os
noncomputable def sts2 : List Stmt := [s3]
theorem pc2 : ∀ w : World, (fun os => segRunT treeTable pg w m0 ann 1 214 (T1 w os) (piecesOf sts2 en cE (Pos.mk 4 0 5 8) [topFrame qE])) = fun os => some (Flow.next, T2 w os, cE, (Pos.mk 6 0 7 8)) := fun w => by rewrite [PySem.W.Fast.te10110043849684766642, PySem.W.Fast.te14364793385576792824]; kernel_rfl
noncomputable def o49 (P : Params) : Obj := (PySem.Obj.mk (.type "dict") none (.dict ⟨[(PySem.DictEntry.mk (PySem.PyData.keyHash P "__name__") (.str "__name__" 165) (.str "lietable.errors" 187)), (PySem.DictEntry.mk (PySem.PyData.keyHash P "__doc__") (.str "__doc__" 166) .none), (PySem.DictEntry.mk (PySem.PyData.keyHash P "__package__") (.str "__package__" 167) .none), (PySem.DictEntry.mk (PySem.PyData.keyHash P "__loader__") (.str "__loader__" 168) (.builtin "__main__.__loader__#opaque")), (PySem.DictEntry.mk (PySem.PyData.keyHash P "__spec__") (.str "__spec__" 169) .none), (PySem.DictEntry.mk (PySem.PyData.keyHash P "__annotations__") (.str "__annotations__" 170) (.ref 6)), (PySem.DictEntry.mk (PySem.PyData.keyHash P "__builtins__") (.str "__builtins__" 171) (.ref 4)), (PySem.DictEntry.mk (PySem.PyData.keyHash P "__file__") (.str "__file__" 173) (.str "/claim/cut.py" 172)), (PySem.DictEntry.mk (PySem.PyData.keyHash P "__cached__") (.str "__cached__" 174) .none), (PySem.DictEntry.mk (PySem.PyData.keyHash P "TableError") (.str "TableError" 206) (.ref 24)), (PySem.DictEntry.mk (PySem.PyData.keyHash P "NoTable") (.str "NoTable" 222) (.ref 37)), (PySem.DictEntry.mk (PySem.PyData.keyHash P "NoSign") (.str "NoSign" 238) (.ref 49)), (PySem.DictEntry.mk (PySem.PyData.keyHash P "NoHand") (.str "NoHand" 254) (.ref 61))]⟩ 13) ⟨[]⟩)
noncomputable def o50 (P : Params) : Obj := (PySem.Obj.mk .none none (.fields ⟨[(.int 2 0), (.int 0 0), (.ref 20), (.int 4 0), (.int 0 0), (.ref 33), (.int 6 0), (.int 0 0), (.ref 45), (.int 8 0), (.int 0 0), (.ref 57)]⟩) ⟨[]⟩)
noncomputable def o51 (P : Params) : Obj := (PySem.Obj.mk (.type "type") none (.cls (PySem.ClassData.mk "TableError" [(.type "ValueError")] [(.ref 24), (.type "ValueError"), (.type "Exception"), (.type "BaseException"), (.type "object")] 23 "TableError" true [] [(.ref 37), (.ref 49), (.ref 61)] false none false)) ⟨[(.some (.ref 15)), none, (.some (.str "TableError" 189)), (.some (.str "TableError" 197)), (.some (.builtin "ValueError.__new__")), (.some (.bool true))]⟩)
noncomputable def o52 (P : Params) : Obj := (PySem.Obj.mk (.type "tuple") none (.seq ⟨[(.ref 24)]⟩ 0) ⟨[]⟩)
noncomputable def o53 (P : Params) : Obj := (PySem.Obj.mk (.type "builtin_function_or_method") none (.fields ⟨[(.builtin "type.__prepare__"), (.type "type")]⟩) ⟨[]⟩)
noncomputable def o54 (P : Params) : Obj := (PySem.Obj.mk (.type "dict") none (.dict ⟨[(PySem.DictEntry.mk (PySem.PyData.keyHash P "__module__") (.str "__module__" 246) (.str "lietable.errors" 187)), (PySem.DictEntry.mk (PySem.PyData.keyHash P "__qualname__") (.str "__qualname__" 248) (.str "NoHand" 247)), (PySem.DictEntry.mk (PySem.PyData.keyHash P "__firstlineno__") (.str "__firstlineno__" 250) (.int 8 249)), (PySem.DictEntry.mk (PySem.PyData.keyHash P "__static_attributes__") (.str "__static_attributes__" 251) (.ref 59))]⟩ 4) ⟨[]⟩)
noncomputable def o55 (P : Params) : Obj := (PySem.Obj.mk (.type "tuple") none (.seq ⟨[]⟩ 0) ⟨[]⟩)
noncomputable def o56 (P : Params) : Obj := (PySem.Obj.mk .none none (.fields ⟨[]⟩) ⟨[]⟩)
noncomputable def o57 (P : Params) : Obj := (PySem.Obj.mk (.type "code") none (.fields ⟨[(.str "NoHand" 241), (.str "NoHand" 242), (.str "/claim/cut.py" 243), (.int 8 0), (.int 0 0), (.int 0 0), (.int 0 0), (.int 0 0), (.ref 55), (.bool false), (.int 181 0), (.ref 56), .none, .none, .none, .none, (.int 244 0), (.int 8 0), (.str "/claim/cut.py" 245)]⟩) ⟨[]⟩)
noncomputable def o58 (P : Params) : Obj := (PySem.Obj.mk (.type "frame") none .plain ⟨[(.some (.ref 57)), (.some (.ref 3)), (.some (.ref 54)), none, (.some (.str "lietable.errors" 187)), none, (.some (.ref 0))]⟩)
noncomputable def o59 (P : Params) : Obj := (PySem.Obj.mk (.type "tuple") none (.seq ⟨[]⟩ 0) ⟨[]⟩)
noncomputable def o60 (P : Params) : Obj := (PySem.Obj.mk (.type "dict") none (.dict ⟨[(PySem.DictEntry.mk (PySem.PyData.keyHash P "__module__") (.str "__module__" 246) (.str "lietable.errors" 187)), (PySem.DictEntry.mk (PySem.PyData.keyHash P "__firstlineno__") (.str "__firstlineno__" 250) (.int 8 249)), (PySem.DictEntry.mk (PySem.PyData.keyHash P "__static_attributes__") (.str "__static_attributes__" 251) (.ref 59)), (PySem.DictEntry.mk (PySem.PyData.keyHash P "__doc__") (.str "__doc__" 252) .none)]⟩ 2) ⟨[]⟩)
noncomputable def o61 (P : Params) : Obj := (PySem.Obj.mk (.type "type") none (.cls (PySem.ClassData.mk "NoHand" [(.ref 24)] [(.ref 61), (.ref 24), (.type "ValueError"), (.type "Exception"), (.type "BaseException"), (.type "object")] 60 "NoHand" true [] [] false none false)) ⟨[(.some (.ref 52)), none, (.some (.str "NoHand" 239)), (.some (.str "NoHand" 247)), (.some (.builtin "ValueError.__new__")), (.some (.bool true))]⟩)
noncomputable def o62 (P : Params) : Obj := (PySem.Obj.mk (.type "super") none (.fields ⟨[(.ref 61), (.ref 61), (.ref 61)]⟩) ⟨[]⟩)
noncomputable def o63 (P : Params) : Obj := (PySem.Obj.mk (.type "builtin_function_or_method") none (.fields ⟨[(.builtin "object.__init_subclass__"), (.ref 61)]⟩) ⟨[]⟩)
noncomputable def t3 (P : Params) : BT := (.node (boot_o_0 P) (.node (boot_o_1 P) (.node (o49 P) (.node (boot_o_7 P) (.node (o6 P) (.node (o25 P) (.node (o63 P) .nil .nil) .nil) (.node (o44 P) .nil .nil)) (.node (o14 P) (.node (o33 P) .nil .nil) (.node (o55 P) .nil .nil))) (.node (o0 P) (.node (o10 P) (.node (o29 P) .nil .nil) (.node (o48 P) .nil .nil)) (.node (o18 P) (.node (o40 P) .nil .nil) (.node (o59 P) .nil .nil)))) (.node (boot_o_5 P) (.node (boot_o_9 P) (.node (o8 P) (.node (o27 P) .nil .nil) (.node (o46 P) .nil .nil)) (.node (o16 P) (.node (o38 P) .nil .nil) (.node (o57 P) .nil .nil))) (.node (o2 P) (.node (o12 P) (.node (o31 P) .nil .nil) (.node (o53 P) .nil .nil)) (.node (o23 P) (.node (o42 P) .nil .nil) (.node (o61 P) .nil .nil))))) (.node (boot_o_2 P) (.node (boot_o_4 P) (.node (boot_o_8 P) (.node (o7 P) (.node (o26 P) .nil .nil) (.node (o45 P) .nil .nil)) (.node (o51 P) (.node (o37 P) .nil .nil) (.node (o56 P) .nil .nil))) (.node (o50 P) (.node (o11 P) (.node (o30 P) .nil .nil) (.node (o52 P) .nil .nil)) (.node (o22 P) (.node (o41 P) .nil .nil) (.node (o60 P) .nil .nil)))) (.node (boot_o_6 P) (.node (boot_o_10 P) (.node (o9 P) (.node (o28 P) .nil .nil) (.node (o47 P) .nil .nil)) (.node (o17 P) (.node (o39 P) .nil .nil) (.node (o58 P) .nil .nil))) (.node (o3 P) (.node (o13 P) (.node (o32 P) .nil .nil) (.node (o54 P) .nil .nil)) (.node (o24 P) (.node (o43 P) .nil .nil) (.node (o62 P) .nil .nil))))))
noncomputable def T3 (w : World) (os : OsState) : SharedT := SharedT.mk (t3 w.params) 64 (PySem.Life.mk [] [] [] 0 [] [] false ⟨[]⟩ [] 0 false false false 0 [2000, 10, 10] false 0 true [] [] 0 false) ⟨[]⟩ (PySem.Drawn.mk 0 0 0 0) 255 os
noncomputable def sts3 : List Stmt := [s4]
theorem pc3 : ∀ w : World, (fun os => segRunT treeTable pg w m0 ann 1 214 (T2 w os) (piecesOf sts3 en cE (Pos.mk 6 0 7 8) [topFrame qE])) = fun os => some (Flow.next, T3 w os, cE, (Pos.mk 8 0 9 8)) := fun w => by rewrite [PySem.W.Fast.te10110043849684766642, PySem.W.Fast.te14364793385576792824]; kernel_rfl
noncomputable def o64 (P : Params) : Obj := (PySem.Obj.mk (.type "dict") none (.dict ⟨[(PySem.DictEntry.mk (PySem.PyData.keyHash P "__name__") (.str "__name__" 165) (.str "lietable.errors" 187)), (PySem.DictEntry.mk (PySem.PyData.keyHash P "__doc__") (.str "__doc__" 166) .none), (PySem.DictEntry.mk (PySem.PyData.keyHash P "__package__") (.str "__package__" 167) .none), (PySem.DictEntry.mk (PySem.PyData.keyHash P "__loader__") (.str "__loader__" 168) (.builtin "__main__.__loader__#opaque")), (PySem.DictEntry.mk (PySem.PyData.keyHash P "__spec__") (.str "__spec__" 169) .none), (PySem.DictEntry.mk (PySem.PyData.keyHash P "__annotations__") (.str "__annotations__" 170) (.ref 6)), (PySem.DictEntry.mk (PySem.PyData.keyHash P "__builtins__") (.str "__builtins__" 171) (.ref 4)), (PySem.DictEntry.mk (PySem.PyData.keyHash P "__file__") (.str "__file__" 173) (.str "/claim/cut.py" 172)), (PySem.DictEntry.mk (PySem.PyData.keyHash P "__cached__") (.str "__cached__" 174) .none), (PySem.DictEntry.mk (PySem.PyData.keyHash P "TableError") (.str "TableError" 206) (.ref 24)), (PySem.DictEntry.mk (PySem.PyData.keyHash P "NoTable") (.str "NoTable" 222) (.ref 37)), (PySem.DictEntry.mk (PySem.PyData.keyHash P "NoSign") (.str "NoSign" 238) (.ref 49)), (PySem.DictEntry.mk (PySem.PyData.keyHash P "NoHand") (.str "NoHand" 254) (.ref 61)), (PySem.DictEntry.mk (PySem.PyData.keyHash P "NoSaying") (.str "NoSaying" 270) (.ref 73))]⟩ 14) ⟨[]⟩)
noncomputable def o65 (P : Params) : Obj := (PySem.Obj.mk .none none (.fields ⟨[(.int 2 0), (.int 0 0), (.ref 20), (.int 4 0), (.int 0 0), (.ref 33), (.int 6 0), (.int 0 0), (.ref 45), (.int 8 0), (.int 0 0), (.ref 57), (.int 10 0), (.int 0 0), (.ref 69)]⟩) ⟨[]⟩)
noncomputable def o66 (P : Params) : Obj := (PySem.Obj.mk (.type "type") none (.cls (PySem.ClassData.mk "TableError" [(.type "ValueError")] [(.ref 24), (.type "ValueError"), (.type "Exception"), (.type "BaseException"), (.type "object")] 23 "TableError" true [] [(.ref 37), (.ref 49), (.ref 61), (.ref 73)] false none false)) ⟨[(.some (.ref 15)), none, (.some (.str "TableError" 189)), (.some (.str "TableError" 197)), (.some (.builtin "ValueError.__new__")), (.some (.bool true))]⟩)
noncomputable def o67 (P : Params) : Obj := (PySem.Obj.mk (.type "tuple") none (.seq ⟨[(.ref 24)]⟩ 0) ⟨[]⟩)
noncomputable def o68 (P : Params) : Obj := (PySem.Obj.mk (.type "builtin_function_or_method") none (.fields ⟨[(.builtin "type.__prepare__"), (.type "type")]⟩) ⟨[]⟩)
noncomputable def o69 (P : Params) : Obj := (PySem.Obj.mk (.type "dict") none (.dict ⟨[(PySem.DictEntry.mk (PySem.PyData.keyHash P "__module__") (.str "__module__" 262) (.str "lietable.errors" 187)), (PySem.DictEntry.mk (PySem.PyData.keyHash P "__qualname__") (.str "__qualname__" 264) (.str "NoSaying" 263)), (PySem.DictEntry.mk (PySem.PyData.keyHash P "__firstlineno__") (.str "__firstlineno__" 266) (.int 10 265)), (PySem.DictEntry.mk (PySem.PyData.keyHash P "__static_attributes__") (.str "__static_attributes__" 267) (.ref 71))]⟩ 4) ⟨[]⟩)
noncomputable def o70 (P : Params) : Obj := (PySem.Obj.mk (.type "tuple") none (.seq ⟨[]⟩ 0) ⟨[]⟩)
noncomputable def o71 (P : Params) : Obj := (PySem.Obj.mk .none none (.fields ⟨[]⟩) ⟨[]⟩)
noncomputable def o72 (P : Params) : Obj := (PySem.Obj.mk (.type "code") none (.fields ⟨[(.str "NoSaying" 257), (.str "NoSaying" 258), (.str "/claim/cut.py" 259), (.int 10 0), (.int 0 0), (.int 0 0), (.int 0 0), (.int 0 0), (.ref 67), (.bool false), (.int 181 0), (.ref 68), .none, .none, .none, .none, (.int 260 0), (.int 10 0), (.str "/claim/cut.py" 261)]⟩) ⟨[]⟩)
noncomputable def o73 (P : Params) : Obj := (PySem.Obj.mk (.type "frame") none .plain ⟨[(.some (.ref 69)), (.some (.ref 3)), (.some (.ref 66)), none, (.some (.str "lietable.errors" 187)), none, (.some (.ref 0))]⟩)
noncomputable def o74 (P : Params) : Obj := (PySem.Obj.mk (.type "tuple") none (.seq ⟨[]⟩ 0) ⟨[]⟩)
noncomputable def o75 (P : Params) : Obj := (PySem.Obj.mk (.type "dict") none (.dict ⟨[(PySem.DictEntry.mk (PySem.PyData.keyHash P "__module__") (.str "__module__" 262) (.str "lietable.errors" 187)), (PySem.DictEntry.mk (PySem.PyData.keyHash P "__firstlineno__") (.str "__firstlineno__" 266) (.int 10 265)), (PySem.DictEntry.mk (PySem.PyData.keyHash P "__static_attributes__") (.str "__static_attributes__" 267) (.ref 71)), (PySem.DictEntry.mk (PySem.PyData.keyHash P "__doc__") (.str "__doc__" 268) .none)]⟩ 2) ⟨[]⟩)
noncomputable def o76 (P : Params) : Obj := (PySem.Obj.mk (.type "type") none (.cls (PySem.ClassData.mk "NoSaying" [(.ref 24)] [(.ref 73), (.ref 24), (.type "ValueError"), (.type "Exception"), (.type "BaseException"), (.type "object")] 72 "NoSaying" true [] [] false none false)) ⟨[(.some (.ref 64)), none, (.some (.str "NoSaying" 255)), (.some (.str "NoSaying" 263)), (.some (.builtin "ValueError.__new__")), (.some (.bool true))]⟩)
noncomputable def o77 (P : Params) : Obj := (PySem.Obj.mk (.type "super") none (.fields ⟨[(.ref 73), (.ref 73), (.ref 73)]⟩) ⟨[]⟩)
noncomputable def o78 (P : Params) : Obj := (PySem.Obj.mk (.type "builtin_function_or_method") none (.fields ⟨[(.builtin "object.__init_subclass__"), (.ref 73)]⟩) ⟨[]⟩)
noncomputable def t4 (P : Params) : BT := (.node (boot_o_0 P) (.node (boot_o_1 P) (.node (o64 P) (.node (boot_o_7 P) (.node (o6 P) (.node (o25 P) (.node (o63 P) .nil .nil) .nil) (.node (o44 P) .nil .nil)) (.node (o14 P) (.node (o33 P) (.node (o74 P) .nil .nil) .nil) (.node (o55 P) .nil .nil))) (.node (o0 P) (.node (o10 P) (.node (o29 P) (.node (o70 P) .nil .nil) .nil) (.node (o48 P) .nil .nil)) (.node (o18 P) (.node (o40 P) (.node (o78 P) .nil .nil) .nil) (.node (o59 P) .nil .nil)))) (.node (boot_o_5 P) (.node (boot_o_9 P) (.node (o8 P) (.node (o27 P) (.node (o68 P) .nil .nil) .nil) (.node (o46 P) .nil .nil)) (.node (o16 P) (.node (o38 P) (.node (o76 P) .nil .nil) .nil) (.node (o57 P) .nil .nil))) (.node (o2 P) (.node (o12 P) (.node (o31 P) (.node (o72 P) .nil .nil) .nil) (.node (o53 P) .nil .nil)) (.node (o23 P) (.node (o42 P) .nil .nil) (.node (o61 P) .nil .nil))))) (.node (boot_o_2 P) (.node (boot_o_4 P) (.node (boot_o_8 P) (.node (o7 P) (.node (o26 P) (.node (o67 P) .nil .nil) .nil) (.node (o45 P) .nil .nil)) (.node (o66 P) (.node (o37 P) (.node (o75 P) .nil .nil) .nil) (.node (o56 P) .nil .nil))) (.node (o65 P) (.node (o11 P) (.node (o30 P) (.node (o71 P) .nil .nil) .nil) (.node (o52 P) .nil .nil)) (.node (o22 P) (.node (o41 P) .nil .nil) (.node (o60 P) .nil .nil)))) (.node (boot_o_6 P) (.node (boot_o_10 P) (.node (o9 P) (.node (o28 P) (.node (o69 P) .nil .nil) .nil) (.node (o47 P) .nil .nil)) (.node (o17 P) (.node (o39 P) (.node (o77 P) .nil .nil) .nil) (.node (o58 P) .nil .nil))) (.node (o3 P) (.node (o13 P) (.node (o32 P) (.node (o73 P) .nil .nil) .nil) (.node (o54 P) .nil .nil)) (.node (o24 P) (.node (o43 P) .nil .nil) (.node (o62 P) .nil .nil))))))
noncomputable def T4 (w : World) (os : OsState) : SharedT := SharedT.mk (t4 w.params) 76 (PySem.Life.mk [] [] [] 0 [] [] false ⟨[]⟩ [] 0 false false false 0 [2000, 10, 10] false 0 true [] [] 0 false) ⟨[]⟩ (PySem.Drawn.mk 0 0 0 0) 271 os
noncomputable def sts4 : List Stmt := [s5]
theorem pc4 : ∀ w : World, (fun os => segRunT treeTable pg w m0 ann 1 214 (T3 w os) (piecesOf sts4 en cE (Pos.mk 8 0 9 8) [topFrame qE])) = fun os => some (Flow.next, T4 w os, cE, (Pos.mk 10 0 11 8)) := fun w => by rewrite [PySem.W.Fast.te10110043849684766642, PySem.W.Fast.te14364793385576792824]; kernel_rfl
noncomputable def o79 (P : Params) : Obj := (PySem.Obj.mk (.type "dict") none (.dict ⟨[(PySem.DictEntry.mk (PySem.PyData.keyHash P "__name__") (.str "__name__" 165) (.str "lietable.errors" 187)), (PySem.DictEntry.mk (PySem.PyData.keyHash P "__doc__") (.str "__doc__" 166) .none), (PySem.DictEntry.mk (PySem.PyData.keyHash P "__package__") (.str "__package__" 167) .none), (PySem.DictEntry.mk (PySem.PyData.keyHash P "__loader__") (.str "__loader__" 168) (.builtin "__main__.__loader__#opaque")), (PySem.DictEntry.mk (PySem.PyData.keyHash P "__spec__") (.str "__spec__" 169) .none), (PySem.DictEntry.mk (PySem.PyData.keyHash P "__annotations__") (.str "__annotations__" 170) (.ref 6)), (PySem.DictEntry.mk (PySem.PyData.keyHash P "__builtins__") (.str "__builtins__" 171) (.ref 4)), (PySem.DictEntry.mk (PySem.PyData.keyHash P "__file__") (.str "__file__" 173) (.str "/claim/cut.py" 172)), (PySem.DictEntry.mk (PySem.PyData.keyHash P "__cached__") (.str "__cached__" 174) .none), (PySem.DictEntry.mk (PySem.PyData.keyHash P "TableError") (.str "TableError" 206) (.ref 24)), (PySem.DictEntry.mk (PySem.PyData.keyHash P "NoTable") (.str "NoTable" 222) (.ref 37)), (PySem.DictEntry.mk (PySem.PyData.keyHash P "NoSign") (.str "NoSign" 238) (.ref 49)), (PySem.DictEntry.mk (PySem.PyData.keyHash P "NoHand") (.str "NoHand" 254) (.ref 61)), (PySem.DictEntry.mk (PySem.PyData.keyHash P "NoSaying") (.str "NoSaying" 270) (.ref 73)), (PySem.DictEntry.mk (PySem.PyData.keyHash P "Over") (.str "Over" 286) (.ref 85))]⟩ 15) ⟨[]⟩)
noncomputable def o80 (P : Params) : Obj := (PySem.Obj.mk .none none (.fields ⟨[(.int 2 0), (.int 0 0), (.ref 20), (.int 4 0), (.int 0 0), (.ref 33), (.int 6 0), (.int 0 0), (.ref 45), (.int 8 0), (.int 0 0), (.ref 57), (.int 10 0), (.int 0 0), (.ref 69), (.int 12 0), (.int 0 0), (.ref 81)]⟩) ⟨[]⟩)
noncomputable def o81 (P : Params) : Obj := (PySem.Obj.mk (.type "type") none (.cls (PySem.ClassData.mk "TableError" [(.type "ValueError")] [(.ref 24), (.type "ValueError"), (.type "Exception"), (.type "BaseException"), (.type "object")] 23 "TableError" true [] [(.ref 37), (.ref 49), (.ref 61), (.ref 73), (.ref 85)] false none false)) ⟨[(.some (.ref 15)), none, (.some (.str "TableError" 189)), (.some (.str "TableError" 197)), (.some (.builtin "ValueError.__new__")), (.some (.bool true))]⟩)
noncomputable def o82 (P : Params) : Obj := (PySem.Obj.mk (.type "tuple") none (.seq ⟨[(.ref 24)]⟩ 0) ⟨[]⟩)
noncomputable def o83 (P : Params) : Obj := (PySem.Obj.mk (.type "builtin_function_or_method") none (.fields ⟨[(.builtin "type.__prepare__"), (.type "type")]⟩) ⟨[]⟩)
noncomputable def o84 (P : Params) : Obj := (PySem.Obj.mk (.type "dict") none (.dict ⟨[(PySem.DictEntry.mk (PySem.PyData.keyHash P "__module__") (.str "__module__" 278) (.str "lietable.errors" 187)), (PySem.DictEntry.mk (PySem.PyData.keyHash P "__qualname__") (.str "__qualname__" 280) (.str "Over" 279)), (PySem.DictEntry.mk (PySem.PyData.keyHash P "__firstlineno__") (.str "__firstlineno__" 282) (.int 12 281)), (PySem.DictEntry.mk (PySem.PyData.keyHash P "__static_attributes__") (.str "__static_attributes__" 283) (.ref 83))]⟩ 4) ⟨[]⟩)
noncomputable def o85 (P : Params) : Obj := (PySem.Obj.mk (.type "tuple") none (.seq ⟨[]⟩ 0) ⟨[]⟩)
noncomputable def o86 (P : Params) : Obj := (PySem.Obj.mk .none none (.fields ⟨[]⟩) ⟨[]⟩)
noncomputable def o87 (P : Params) : Obj := (PySem.Obj.mk (.type "code") none (.fields ⟨[(.str "Over" 273), (.str "Over" 274), (.str "/claim/cut.py" 275), (.int 12 0), (.int 0 0), (.int 0 0), (.int 0 0), (.int 0 0), (.ref 79), (.bool false), (.int 181 0), (.ref 80), .none, .none, .none, .none, (.int 276 0), (.int 12 0), (.str "/claim/cut.py" 277)]⟩) ⟨[]⟩)
noncomputable def o88 (P : Params) : Obj := (PySem.Obj.mk (.type "frame") none .plain ⟨[(.some (.ref 81)), (.some (.ref 3)), (.some (.ref 78)), none, (.some (.str "lietable.errors" 187)), none, (.some (.ref 0))]⟩)
noncomputable def o89 (P : Params) : Obj := (PySem.Obj.mk (.type "tuple") none (.seq ⟨[]⟩ 0) ⟨[]⟩)
noncomputable def o90 (P : Params) : Obj := (PySem.Obj.mk (.type "dict") none (.dict ⟨[(PySem.DictEntry.mk (PySem.PyData.keyHash P "__module__") (.str "__module__" 278) (.str "lietable.errors" 187)), (PySem.DictEntry.mk (PySem.PyData.keyHash P "__firstlineno__") (.str "__firstlineno__" 282) (.int 12 281)), (PySem.DictEntry.mk (PySem.PyData.keyHash P "__static_attributes__") (.str "__static_attributes__" 283) (.ref 83)), (PySem.DictEntry.mk (PySem.PyData.keyHash P "__doc__") (.str "__doc__" 284) .none)]⟩ 2) ⟨[]⟩)
noncomputable def o91 (P : Params) : Obj := (PySem.Obj.mk (.type "type") none (.cls (PySem.ClassData.mk "Over" [(.ref 24)] [(.ref 85), (.ref 24), (.type "ValueError"), (.type "Exception"), (.type "BaseException"), (.type "object")] 84 "Over" true [] [] false none false)) ⟨[(.some (.ref 76)), none, (.some (.str "Over" 271)), (.some (.str "Over" 279)), (.some (.builtin "ValueError.__new__")), (.some (.bool true))]⟩)
noncomputable def o92 (P : Params) : Obj := (PySem.Obj.mk (.type "super") none (.fields ⟨[(.ref 85), (.ref 85), (.ref 85)]⟩) ⟨[]⟩)
noncomputable def o93 (P : Params) : Obj := (PySem.Obj.mk (.type "builtin_function_or_method") none (.fields ⟨[(.builtin "object.__init_subclass__"), (.ref 85)]⟩) ⟨[]⟩)
noncomputable def t5 (P : Params) : BT := (.node (boot_o_0 P) (.node (boot_o_1 P) (.node (o79 P) (.node (boot_o_7 P) (.node (o6 P) (.node (o25 P) (.node (o63 P) .nil .nil) .nil) (.node (o44 P) (.node (o85 P) .nil .nil) .nil)) (.node (o14 P) (.node (o33 P) (.node (o74 P) .nil .nil) .nil) (.node (o55 P) (.node (o93 P) .nil .nil) .nil))) (.node (o0 P) (.node (o10 P) (.node (o29 P) (.node (o70 P) .nil .nil) .nil) (.node (o48 P) (.node (o89 P) .nil .nil) .nil)) (.node (o18 P) (.node (o40 P) (.node (o78 P) .nil .nil) .nil) (.node (o59 P) .nil .nil)))) (.node (boot_o_5 P) (.node (boot_o_9 P) (.node (o8 P) (.node (o27 P) (.node (o68 P) .nil .nil) .nil) (.node (o46 P) (.node (o87 P) .nil .nil) .nil)) (.node (o16 P) (.node (o38 P) (.node (o76 P) .nil .nil) .nil) (.node (o57 P) .nil .nil))) (.node (o2 P) (.node (o12 P) (.node (o31 P) (.node (o72 P) .nil .nil) .nil) (.node (o53 P) (.node (o91 P) .nil .nil) .nil)) (.node (o23 P) (.node (o42 P) (.node (o83 P) .nil .nil) .nil) (.node (o61 P) .nil .nil))))) (.node (boot_o_2 P) (.node (boot_o_4 P) (.node (boot_o_8 P) (.node (o7 P) (.node (o26 P) (.node (o67 P) .nil .nil) .nil) (.node (o45 P) (.node (o86 P) .nil .nil) .nil)) (.node (o81 P) (.node (o37 P) (.node (o75 P) .nil .nil) .nil) (.node (o56 P) .nil .nil))) (.node (o80 P) (.node (o11 P) (.node (o30 P) (.node (o71 P) .nil .nil) .nil) (.node (o52 P) (.node (o90 P) .nil .nil) .nil)) (.node (o22 P) (.node (o41 P) (.node (o82 P) .nil .nil) .nil) (.node (o60 P) .nil .nil)))) (.node (boot_o_6 P) (.node (boot_o_10 P) (.node (o9 P) (.node (o28 P) (.node (o69 P) .nil .nil) .nil) (.node (o47 P) (.node (o88 P) .nil .nil) .nil)) (.node (o17 P) (.node (o39 P) (.node (o77 P) .nil .nil) .nil) (.node (o58 P) .nil .nil))) (.node (o3 P) (.node (o13 P) (.node (o32 P) (.node (o73 P) .nil .nil) .nil) (.node (o54 P) (.node (o92 P) .nil .nil) .nil)) (.node (o24 P) (.node (o43 P) (.node (o84 P) .nil .nil) .nil) (.node (o62 P) .nil .nil))))))
noncomputable def T5 (w : World) (os : OsState) : SharedT := SharedT.mk (t5 w.params) 88 (PySem.Life.mk [] [] [] 0 [] [] false ⟨[]⟩ [] 0 false false false 0 [2000, 10, 10] false 0 true [] [] 0 false) ⟨[]⟩ (PySem.Drawn.mk 0 0 0 0) 287 os
noncomputable def sts5 : List Stmt := [s6]
theorem pc5 : ∀ w : World, (fun os => segRunT treeTable pg w m0 ann 1 214 (T4 w os) (piecesOf sts5 en cE (Pos.mk 10 0 11 8) [topFrame qE])) = fun os => some (Flow.next, T5 w os, cE, (Pos.mk 12 0 13 8)) := fun w => by rewrite [PySem.W.Fast.te10110043849684766642, PySem.W.Fast.te14364793385576792824]; kernel_rfl
noncomputable def o94 (P : Params) : Obj := (PySem.Obj.mk (.type "dict") none (.dict ⟨[(PySem.DictEntry.mk (PySem.PyData.keyHash P "__name__") (.str "__name__" 165) (.str "lietable.checks" 303)), (PySem.DictEntry.mk (PySem.PyData.keyHash P "__doc__") (.str "__doc__" 166) .none), (PySem.DictEntry.mk (PySem.PyData.keyHash P "__package__") (.str "__package__" 167) .none), (PySem.DictEntry.mk (PySem.PyData.keyHash P "__loader__") (.str "__loader__" 168) (.builtin "__main__.__loader__#opaque")), (PySem.DictEntry.mk (PySem.PyData.keyHash P "__spec__") (.str "__spec__" 169) .none), (PySem.DictEntry.mk (PySem.PyData.keyHash P "__annotations__") (.str "__annotations__" 170) (.ref 6)), (PySem.DictEntry.mk (PySem.PyData.keyHash P "__builtins__") (.str "__builtins__" 171) (.ref 4)), (PySem.DictEntry.mk (PySem.PyData.keyHash P "__file__") (.str "__file__" 173) (.str "/claim/cut.py" 172)), (PySem.DictEntry.mk (PySem.PyData.keyHash P "__cached__") (.str "__cached__" 174) .none), (PySem.DictEntry.mk (PySem.PyData.keyHash P "TableError") (.str "TableError" 206) (.ref 24)), (PySem.DictEntry.mk (PySem.PyData.keyHash P "NoTable") (.str "NoTable" 222) (.ref 37)), (PySem.DictEntry.mk (PySem.PyData.keyHash P "NoSign") (.str "NoSign" 238) (.ref 49)), (PySem.DictEntry.mk (PySem.PyData.keyHash P "NoHand") (.str "NoHand" 254) (.ref 61)), (PySem.DictEntry.mk (PySem.PyData.keyHash P "NoSaying") (.str "NoSaying" 270) (.ref 73)), (PySem.DictEntry.mk (PySem.PyData.keyHash P "Over") (.str "Over" 286) (.ref 85)), (PySem.DictEntry.mk (PySem.PyData.keyHash P "NotOver") (.str "NotOver" 302) (.ref 97)), (PySem.DictEntry.mk (PySem.PyData.keyHash P "LEAST_HANDS") (.str "LEAST_HANDS" 306) (.int 2 305)), (PySem.DictEntry.mk (PySem.PyData.keyHash P "MOST_HANDS") (.str "MOST_HANDS" 308) (.int 10 307)), (PySem.DictEntry.mk (PySem.PyData.keyHash P "MOST_LIARS") (.str "MOST_LIARS" 310) (.int 2 309)), (PySem.DictEntry.mk (PySem.PyData.keyHash P "MOST_LETTERS") (.str "MOST_LETTERS" 312) (.int 8 311)), (PySem.DictEntry.mk (PySem.PyData.keyHash P "LETTERS") (.str "LETTERS" 314) (.str "abcdefghijklmnopqrstuvwxyz" 313)), (PySem.DictEntry.mk (PySem.PyData.keyHash P "is_within") (.str "is_within" 323) (.ref 106)), (PySem.DictEntry.mk (PySem.PyData.keyHash P "is_sign") (.str "is_sign" 329) (.ref 111)), (PySem.DictEntry.mk (PySem.PyData.keyHash P "need_table") (.str "need_table" 337) (.ref 118)), (PySem.DictEntry.mk (PySem.PyData.keyHash P "need_sign") (.str "need_sign" 344) (.ref 125))]⟩ 25) ⟨[]⟩)
noncomputable def o95 (P : Params) : Obj := (PySem.Obj.mk .none none (.fields ⟨[(.int 2 0), (.int 0 0), (.ref 20), (.int 4 0), (.int 0 0), (.ref 33), (.int 6 0), (.int 0 0), (.ref 45), (.int 8 0), (.int 0 0), (.ref 57), (.int 10 0), (.int 0 0), (.ref 69), (.int 12 0), (.int 0 0), (.ref 81), (.int 14 0), (.int 0 0), (.ref 93), (.int 22 0), (.int 0 0), (.ref 105), (.int 24 0), (.int 0 0), (.ref 110), (.int 28 0), (.int 0 0), (.ref 117), (.int 31 0), (.int 0 0), (.ref 124)]⟩) ⟨[]⟩)
noncomputable def o96 (P : Params) : Obj := (PySem.Obj.mk (.type "type") none (.cls (PySem.ClassData.mk "TableError" [(.type "ValueError")] [(.ref 24), (.type "ValueError"), (.type "Exception"), (.type "BaseException"), (.type "object")] 23 "TableError" true [] [(.ref 37), (.ref 49), (.ref 61), (.ref 73), (.ref 85), (.ref 97)] false none false)) ⟨[(.some (.ref 15)), none, (.some (.str "TableError" 189)), (.some (.str "TableError" 197)), (.some (.builtin "ValueError.__new__")), (.some (.bool true))]⟩)
noncomputable def o97 (P : Params) : Obj := (PySem.Obj.mk (.type "tuple") none (.seq ⟨[(.ref 24)]⟩ 0) ⟨[]⟩)
noncomputable def o98 (P : Params) : Obj := (PySem.Obj.mk (.type "builtin_function_or_method") none (.fields ⟨[(.builtin "type.__prepare__"), (.type "type")]⟩) ⟨[]⟩)
noncomputable def o99 (P : Params) : Obj := (PySem.Obj.mk (.type "dict") none (.dict ⟨[(PySem.DictEntry.mk (PySem.PyData.keyHash P "__module__") (.str "__module__" 294) (.str "lietable.errors" 187)), (PySem.DictEntry.mk (PySem.PyData.keyHash P "__qualname__") (.str "__qualname__" 296) (.str "NotOver" 295)), (PySem.DictEntry.mk (PySem.PyData.keyHash P "__firstlineno__") (.str "__firstlineno__" 298) (.int 14 297)), (PySem.DictEntry.mk (PySem.PyData.keyHash P "__static_attributes__") (.str "__static_attributes__" 299) (.ref 95))]⟩ 4) ⟨[]⟩)
noncomputable def o100 (P : Params) : Obj := (PySem.Obj.mk (.type "tuple") none (.seq ⟨[]⟩ 0) ⟨[]⟩)
noncomputable def o101 (P : Params) : Obj := (PySem.Obj.mk .none none (.fields ⟨[]⟩) ⟨[]⟩)
noncomputable def o102 (P : Params) : Obj := (PySem.Obj.mk (.type "code") none (.fields ⟨[(.str "NotOver" 289), (.str "NotOver" 290), (.str "/claim/cut.py" 291), (.int 14 0), (.int 0 0), (.int 0 0), (.int 0 0), (.int 0 0), (.ref 91), (.bool false), (.int 181 0), (.ref 92), .none, .none, .none, .none, (.int 292 0), (.int 14 0), (.str "/claim/cut.py" 293)]⟩) ⟨[]⟩)
noncomputable def o103 (P : Params) : Obj := (PySem.Obj.mk (.type "frame") none .plain ⟨[(.some (.ref 93)), (.some (.ref 3)), (.some (.ref 90)), none, (.some (.str "lietable.errors" 187)), none, (.some (.ref 0))]⟩)
noncomputable def o104 (P : Params) : Obj := (PySem.Obj.mk (.type "tuple") none (.seq ⟨[]⟩ 0) ⟨[]⟩)
noncomputable def o105 (P : Params) : Obj := (PySem.Obj.mk (.type "dict") none (.dict ⟨[(PySem.DictEntry.mk (PySem.PyData.keyHash P "__module__") (.str "__module__" 294) (.str "lietable.errors" 187)), (PySem.DictEntry.mk (PySem.PyData.keyHash P "__firstlineno__") (.str "__firstlineno__" 298) (.int 14 297)), (PySem.DictEntry.mk (PySem.PyData.keyHash P "__static_attributes__") (.str "__static_attributes__" 299) (.ref 95)), (PySem.DictEntry.mk (PySem.PyData.keyHash P "__doc__") (.str "__doc__" 300) .none)]⟩ 2) ⟨[]⟩)
noncomputable def o106 (P : Params) : Obj := (PySem.Obj.mk (.type "type") none (.cls (PySem.ClassData.mk "NotOver" [(.ref 24)] [(.ref 97), (.ref 24), (.type "ValueError"), (.type "Exception"), (.type "BaseException"), (.type "object")] 96 "NotOver" true [] [] false none false)) ⟨[(.some (.ref 88)), none, (.some (.str "NotOver" 287)), (.some (.str "NotOver" 295)), (.some (.builtin "ValueError.__new__")), (.some (.bool true))]⟩)
noncomputable def o107 (P : Params) : Obj := (PySem.Obj.mk (.type "super") none (.fields ⟨[(.ref 97), (.ref 97), (.ref 97)]⟩) ⟨[]⟩)
noncomputable def o108 (P : Params) : Obj := (PySem.Obj.mk (.type "builtin_function_or_method") none (.fields ⟨[(.builtin "object.__init_subclass__"), (.ref 97)]⟩) ⟨[]⟩)
noncomputable def o109 (P : Params) : Obj := (PySem.Obj.mk (.type "tuple") none (.seq ⟨[]⟩ 0) ⟨[]⟩)
noncomputable def o110 (P : Params) : Obj := (PySem.Obj.mk .none none (.fields ⟨[]⟩) ⟨[]⟩)
noncomputable def o111 (P : Params) : Obj := (PySem.Obj.mk (.type "tuple") none (.seq ⟨[(.str "thing" 318), (.str "least" 319), (.str "most" 320)]⟩ 0) ⟨[]⟩)
noncomputable def o112 (P : Params) : Obj := (PySem.Obj.mk (.type "tuple") none (.seq ⟨[]⟩ 0) ⟨[]⟩)
noncomputable def o113 (P : Params) : Obj := (PySem.Obj.mk .none none (.func (PySem.FuncData.mk "is_within" "is_within" pa_is_within (.stmts bd_is_within) sc_is_within 0 [] .none .none .none .none none .none .none 0)) ⟨[]⟩)
noncomputable def o114 (P : Params) : Obj := (PySem.Obj.mk (.type "code") none (.fields ⟨[(.str "is_within" 315), (.str "is_within" 316), (.str "/claim/cut.py" 317), (.int 22 0), (.int 3 0), (.int 0 0), (.int 0 0), (.int 3 0), (.ref 100), (.bool true), (.int 181 0), (.ref 101), .none, (.ref 102), (.ref 103), (.ref 104), (.int 321 0), (.int 22 0), (.str "/claim/cut.py" 322)]⟩) ⟨[]⟩)
noncomputable def o115 (P : Params) : Obj := (PySem.Obj.mk (.type "function") none (.func (PySem.FuncData.mk "is_within" "is_within" pa_is_within (.stmts bd_is_within) sc_is_within 3 [] .none .none .none (.str "lietable.checks" 303) none (.ref 105) .none 0)) ⟨[]⟩)
noncomputable def o116 (P : Params) : Obj := (PySem.Obj.mk (.type "tuple") none (.seq ⟨[]⟩ 0) ⟨[]⟩)
noncomputable def o117 (P : Params) : Obj := (PySem.Obj.mk .none none (.fields ⟨[]⟩) ⟨[]⟩)
noncomputable def o118 (P : Params) : Obj := (PySem.Obj.mk .none none (.func (PySem.FuncData.mk "is_sign" "is_sign" pa_is_sign (.stmts bd_is_sign) sc_is_sign 0 [] .none .none .none .none none .none .none 0)) ⟨[]⟩)
noncomputable def o119 (P : Params) : Obj := (PySem.Obj.mk (.type "code") none (.fields ⟨[(.str "is_sign" 324), (.str "is_sign" 325), (.str "/claim/cut.py" 326), (.int 24 0), (.int 1 0), (.int 0 0), (.int 0 0), (.int 3 0), (.ref 107), (.bool true), (.int 181 0), (.ref 108), .none, .none, .none, (.ref 109), (.int 327 0), (.int 24 0), (.str "/claim/cut.py" 328)]⟩) ⟨[]⟩)
noncomputable def o120 (P : Params) : Obj := (PySem.Obj.mk (.type "function") none (.func (PySem.FuncData.mk "is_sign" "is_sign" pa_is_sign (.stmts bd_is_sign) sc_is_sign 3 [] .none .none .none (.str "lietable.checks" 303) none (.ref 110) .none 0)) ⟨[]⟩)
noncomputable def o121 (P : Params) : Obj := (PySem.Obj.mk (.type "tuple") none (.seq ⟨[]⟩ 0) ⟨[]⟩)
noncomputable def o122 (P : Params) : Obj := (PySem.Obj.mk .none none (.fields ⟨[]⟩) ⟨[]⟩)
noncomputable def o123 (P : Params) : Obj := (PySem.Obj.mk (.type "tuple") none (.seq ⟨[(.str "hands" 333), (.str "most" 334)]⟩ 0) ⟨[]⟩)
noncomputable def o124 (P : Params) : Obj := (PySem.Obj.mk (.type "tuple") none (.seq ⟨[]⟩ 0) ⟨[]⟩)
noncomputable def o125 (P : Params) : Obj := (PySem.Obj.mk .none none (.func (PySem.FuncData.mk "need_table" "need_table" pa_need_table (.stmts bd_need_table) sc_need_table 0 [] .none .none .none .none none .none .none 0)) ⟨[]⟩)
noncomputable def o126 (P : Params) : Obj := (PySem.Obj.mk (.type "code") none (.fields ⟨[(.str "need_table" 330), (.str "need_table" 331), (.str "/claim/cut.py" 332), (.int 28 0), (.int 2 0), (.int 0 0), (.int 0 0), (.int 3 0), (.ref 112), (.bool true), (.int 181 0), (.ref 113), .none, (.ref 114), (.ref 115), (.ref 116), (.int 335 0), (.int 28 0), (.str "/claim/cut.py" 336)]⟩) ⟨[]⟩)
noncomputable def o127 (P : Params) : Obj := (PySem.Obj.mk (.type "function") none (.func (PySem.FuncData.mk "need_table" "need_table" pa_need_table (.stmts bd_need_table) sc_need_table 3 [] .none .none .none (.str "lietable.checks" 303) none (.ref 117) .none 0)) ⟨[]⟩)
noncomputable def o128 (P : Params) : Obj := (PySem.Obj.mk (.type "tuple") none (.seq ⟨[]⟩ 0) ⟨[]⟩)
noncomputable def o129 (P : Params) : Obj := (PySem.Obj.mk .none none (.fields ⟨[]⟩) ⟨[]⟩)
noncomputable def o130 (P : Params) : Obj := (PySem.Obj.mk (.type "tuple") none (.seq ⟨[(.str "thing" 341)]⟩ 0) ⟨[]⟩)
noncomputable def o131 (P : Params) : Obj := (PySem.Obj.mk (.type "tuple") none (.seq ⟨[]⟩ 0) ⟨[]⟩)
noncomputable def o132 (P : Params) : Obj := (PySem.Obj.mk .none none (.func (PySem.FuncData.mk "need_sign" "need_sign" pa_need_sign (.stmts bd_need_sign) sc_need_sign 0 [] .none .none .none .none none .none .none 0)) ⟨[]⟩)
noncomputable def o133 (P : Params) : Obj := (PySem.Obj.mk (.type "code") none (.fields ⟨[(.str "need_sign" 338), (.str "need_sign" 339), (.str "/claim/cut.py" 340), (.int 31 0), (.int 1 0), (.int 0 0), (.int 0 0), (.int 3 0), (.ref 119), (.bool true), (.int 181 0), (.ref 120), .none, (.ref 121), (.ref 122), (.ref 123), (.int 342 0), (.int 31 0), (.str "/claim/cut.py" 343)]⟩) ⟨[]⟩)
noncomputable def o134 (P : Params) : Obj := (PySem.Obj.mk (.type "function") none (.func (PySem.FuncData.mk "need_sign" "need_sign" pa_need_sign (.stmts bd_need_sign) sc_need_sign 3 [] .none .none .none (.str "lietable.checks" 303) none (.ref 124) .none 0)) ⟨[]⟩)
noncomputable def t6 (P : Params) : BT := (.node (boot_o_0 P) (.node (boot_o_1 P) (.node (o94 P) (.node (boot_o_7 P) (.node (o6 P) (.node (o25 P) (.node (o63 P) .nil .nil) (.node (o104 P) .nil .nil)) (.node (o44 P) (.node (o85 P) .nil .nil) (.node (o120 P) .nil .nil))) (.node (o14 P) (.node (o33 P) (.node (o74 P) .nil .nil) (.node (o112 P) .nil .nil)) (.node (o55 P) (.node (o93 P) .nil .nil) (.node (o128 P) .nil .nil)))) (.node (o0 P) (.node (o10 P) (.node (o29 P) (.node (o70 P) .nil .nil) (.node (o108 P) .nil .nil)) (.node (o48 P) (.node (o89 P) .nil .nil) (.node (o124 P) .nil .nil))) (.node (o18 P) (.node (o40 P) (.node (o78 P) .nil .nil) (.node (o116 P) .nil .nil)) (.node (o59 P) (.node (o100 P) .nil .nil) (.node (o132 P) .nil .nil))))) (.node (boot_o_5 P) (.node (boot_o_9 P) (.node (o8 P) (.node (o27 P) (.node (o68 P) .nil .nil) (.node (o106 P) .nil .nil)) (.node (o46 P) (.node (o87 P) .nil .nil) (.node (o122 P) .nil .nil))) (.node (o16 P) (.node (o38 P) (.node (o76 P) .nil .nil) (.node (o114 P) .nil .nil)) (.node (o57 P) (.node (o98 P) .nil .nil) (.node (o130 P) .nil .nil)))) (.node (o2 P) (.node (o12 P) (.node (o31 P) (.node (o72 P) .nil .nil) (.node (o110 P) .nil .nil)) (.node (o53 P) (.node (o91 P) .nil .nil) (.node (o126 P) .nil .nil))) (.node (o23 P) (.node (o42 P) (.node (o83 P) .nil .nil) (.node (o118 P) .nil .nil)) (.node (o61 P) (.node (o102 P) .nil .nil) (.node (o134 P) .nil .nil)))))) (.node (boot_o_2 P) (.node (boot_o_4 P) (.node (boot_o_8 P) (.node (o7 P) (.node (o26 P) (.node (o67 P) .nil .nil) (.node (o105 P) .nil .nil)) (.node (o45 P) (.node (o86 P) .nil .nil) (.node (o121 P) .nil .nil))) (.node (o96 P) (.node (o37 P) (.node (o75 P) .nil .nil) (.node (o113 P) .nil .nil)) (.node (o56 P) (.node (o97 P) .nil .nil) (.node (o129 P) .nil .nil)))) (.node (o95 P) (.node (o11 P) (.node (o30 P) (.node (o71 P) .nil .nil) (.node (o109 P) .nil .nil)) (.node (o52 P) (.node (o90 P) .nil .nil) (.node (o125 P) .nil .nil))) (.node (o22 P) (.node (o41 P) (.node (o82 P) .nil .nil) (.node (o117 P) .nil .nil)) (.node (o60 P) (.node (o101 P) .nil .nil) (.node (o133 P) .nil .nil))))) (.node (boot_o_6 P) (.node (boot_o_10 P) (.node (o9 P) (.node (o28 P) (.node (o69 P) .nil .nil) (.node (o107 P) .nil .nil)) (.node (o47 P) (.node (o88 P) .nil .nil) (.node (o123 P) .nil .nil))) (.node (o17 P) (.node (o39 P) (.node (o77 P) .nil .nil) (.node (o115 P) .nil .nil)) (.node (o58 P) (.node (o99 P) .nil .nil) (.node (o131 P) .nil .nil)))) (.node (o3 P) (.node (o13 P) (.node (o32 P) (.node (o73 P) .nil .nil) (.node (o111 P) .nil .nil)) (.node (o54 P) (.node (o92 P) .nil .nil) (.node (o127 P) .nil .nil))) (.node (o24 P) (.node (o43 P) (.node (o84 P) .nil .nil) (.node (o119 P) .nil .nil)) (.node (o62 P) (.node (o103 P) .nil .nil) .nil))))))
noncomputable def T6 (w : World) (os : OsState) : SharedT := SharedT.mk (t6 w.params) 126 (PySem.Life.mk [] [] [] 0 [] [] false ⟨[]⟩ [] 0 false false false 0 [2000, 10, 10] false 0 true [] [] 0 false) ⟨[]⟩ (PySem.Drawn.mk 0 0 0 0) 345 os
noncomputable def sts6 : List Stmt := [s7, s8, s9, s10, s11, s12, s13, s14, s15, s16, s17]
theorem pc6 : ∀ w : World, (fun os => segRunT treeTable pg w m0 ann 1 384 (T5 w os) (piecesOf sts6 en cE (Pos.mk 12 0 13 8) [topFrame qE])) = fun os => some (Flow.next, T6 w os, cE, (Pos.mk 31 0 33 31)) := fun w => by rewrite [PySem.W.Fast.te10110043849684766642, PySem.W.Fast.te14364793385576792824]; kernel_rfl
noncomputable def o135 (P : Params) : Obj := (PySem.Obj.mk (.type "dict") none (.dict ⟨[(PySem.DictEntry.mk (PySem.PyData.keyHash P "__name__") (.str "__name__" 165) (.str "lietable.tables" 436)), (PySem.DictEntry.mk (PySem.PyData.keyHash P "__doc__") (.str "__doc__" 166) .none), (PySem.DictEntry.mk (PySem.PyData.keyHash P "__package__") (.str "__package__" 167) .none), (PySem.DictEntry.mk (PySem.PyData.keyHash P "__loader__") (.str "__loader__" 168) (.builtin "__main__.__loader__#opaque")), (PySem.DictEntry.mk (PySem.PyData.keyHash P "__spec__") (.str "__spec__" 169) .none), (PySem.DictEntry.mk (PySem.PyData.keyHash P "__annotations__") (.str "__annotations__" 170) (.ref 6)), (PySem.DictEntry.mk (PySem.PyData.keyHash P "__builtins__") (.str "__builtins__" 171) (.ref 4)), (PySem.DictEntry.mk (PySem.PyData.keyHash P "__file__") (.str "__file__" 173) (.str "/claim/cut.py" 172)), (PySem.DictEntry.mk (PySem.PyData.keyHash P "__cached__") (.str "__cached__" 174) .none), (PySem.DictEntry.mk (PySem.PyData.keyHash P "TableError") (.str "TableError" 206) (.ref 24)), (PySem.DictEntry.mk (PySem.PyData.keyHash P "NoTable") (.str "NoTable" 222) (.ref 37)), (PySem.DictEntry.mk (PySem.PyData.keyHash P "NoSign") (.str "NoSign" 238) (.ref 49)), (PySem.DictEntry.mk (PySem.PyData.keyHash P "NoHand") (.str "NoHand" 254) (.ref 61)), (PySem.DictEntry.mk (PySem.PyData.keyHash P "NoSaying") (.str "NoSaying" 270) (.ref 73)), (PySem.DictEntry.mk (PySem.PyData.keyHash P "Over") (.str "Over" 286) (.ref 85)), (PySem.DictEntry.mk (PySem.PyData.keyHash P "NotOver") (.str "NotOver" 302) (.ref 97)), (PySem.DictEntry.mk (PySem.PyData.keyHash P "LEAST_HANDS") (.str "LEAST_HANDS" 306) (.int 2 305)), (PySem.DictEntry.mk (PySem.PyData.keyHash P "MOST_HANDS") (.str "MOST_HANDS" 308) (.int 10 307)), (PySem.DictEntry.mk (PySem.PyData.keyHash P "MOST_LIARS") (.str "MOST_LIARS" 310) (.int 2 309)), (PySem.DictEntry.mk (PySem.PyData.keyHash P "MOST_LETTERS") (.str "MOST_LETTERS" 312) (.int 8 311)), (PySem.DictEntry.mk (PySem.PyData.keyHash P "LETTERS") (.str "LETTERS" 314) (.str "abcdefghijklmnopqrstuvwxyz" 313)), (PySem.DictEntry.mk (PySem.PyData.keyHash P "is_within") (.str "is_within" 323) (.ref 106)), (PySem.DictEntry.mk (PySem.PyData.keyHash P "is_sign") (.str "is_sign" 329) (.ref 111)), (PySem.DictEntry.mk (PySem.PyData.keyHash P "need_table") (.str "need_table" 337) (.ref 118)), (PySem.DictEntry.mk (PySem.PyData.keyHash P "need_sign") (.str "need_sign" 344) (.ref 125)), (PySem.DictEntry.mk (PySem.PyData.keyHash P "need_hand") (.str "need_hand" 352) (.ref 132)), (PySem.DictEntry.mk (PySem.PyData.keyHash P "need_liars") (.str "need_liars" 362) (.ref 139)), (PySem.DictEntry.mk (PySem.PyData.keyHash P "hearers") (.str "hearers" 370) (.ref 144)), (PySem.DictEntry.mk (PySem.PyData.keyHash P "longer_paths") (.str "longer_paths" 381) (.ref 151)), (PySem.DictEntry.mk (PySem.PyData.keyHash P "paths") (.str "paths" 387) (.ref 156)), (PySem.DictEntry.mk (PySem.PyData.keyHash P "paths_of") (.str "paths_of" 393) (.ref 161)), (PySem.DictEntry.mk (PySem.PyData.keyHash P "is_saying") (.str "is_saying" 401) (.ref 166)), (PySem.DictEntry.mk (PySem.PyData.keyHash P "need_lies") (.str "need_lies" 412) (.ref 173)), (PySem.DictEntry.mk (PySem.PyData.keyHash P "vote") (.str "vote" 422) (.ref 180)), (PySem.DictEntry.mk (PySem.PyData.keyHash P "settled") (.str "settled" 435) (.ref 187))]⟩ 35) ⟨[]⟩)
noncomputable def o136 (P : Params) : Obj := (PySem.Obj.mk .none none (.fields ⟨[(.int 2 0), (.int 0 0), (.ref 20), (.int 4 0), (.int 0 0), (.ref 33), (.int 6 0), (.int 0 0), (.ref 45), (.int 8 0), (.int 0 0), (.ref 57), (.int 10 0), (.int 0 0), (.ref 69), (.int 12 0), (.int 0 0), (.ref 81), (.int 14 0), (.int 0 0), (.ref 93), (.int 22 0), (.int 0 0), (.ref 105), (.int 24 0), (.int 0 0), (.ref 110), (.int 28 0), (.int 0 0), (.ref 117), (.int 31 0), (.int 0 0), (.ref 124), (.int 34 0), (.int 0 0), (.ref 131), (.int 37 0), (.int 0 0), (.ref 138), (.int 45 0), (.int 0 0), (.ref 143), (.int 47 0), (.int 0 0), (.ref 150), (.int 53 0), (.int 0 0), (.ref 155), (.int 62 0), (.int 0 0), (.ref 160), (.int 65 0), (.int 0 0), (.ref 165), (.int 71 0), (.int 0 0), (.ref 172), (.int 78 0), (.int 0 0), (.ref 179), (.int 83 0), (.int 0 0), (.ref 186)]⟩) ⟨[]⟩)
noncomputable def o137 (P : Params) : Obj := (PySem.Obj.mk (.type "tuple") none (.seq ⟨[]⟩ 0) ⟨[]⟩)
noncomputable def o138 (P : Params) : Obj := (PySem.Obj.mk .none none (.fields ⟨[]⟩) ⟨[]⟩)
noncomputable def o139 (P : Params) : Obj := (PySem.Obj.mk (.type "tuple") none (.seq ⟨[(.str "hands" 348), (.str "thing" 349)]⟩ 0) ⟨[]⟩)
noncomputable def o140 (P : Params) : Obj := (PySem.Obj.mk (.type "tuple") none (.seq ⟨[]⟩ 0) ⟨[]⟩)
noncomputable def o141 (P : Params) : Obj := (PySem.Obj.mk .none none (.func (PySem.FuncData.mk "need_hand" "need_hand" pa_need_hand (.stmts bd_need_hand) sc_need_hand 0 [] .none .none .none .none none .none .none 0)) ⟨[]⟩)
noncomputable def o142 (P : Params) : Obj := (PySem.Obj.mk (.type "code") none (.fields ⟨[(.str "need_hand" 345), (.str "need_hand" 346), (.str "/claim/cut.py" 347), (.int 34 0), (.int 2 0), (.int 0 0), (.int 0 0), (.int 3 0), (.ref 126), (.bool true), (.int 181 0), (.ref 127), .none, (.ref 128), (.ref 129), (.ref 130), (.int 350 0), (.int 34 0), (.str "/claim/cut.py" 351)]⟩) ⟨[]⟩)
noncomputable def o143 (P : Params) : Obj := (PySem.Obj.mk (.type "function") none (.func (PySem.FuncData.mk "need_hand" "need_hand" pa_need_hand (.stmts bd_need_hand) sc_need_hand 3 [] .none .none .none (.str "lietable.checks" 303) none (.ref 131) .none 0)) ⟨[]⟩)
noncomputable def o144 (P : Params) : Obj := (PySem.Obj.mk (.type "tuple") none (.seq ⟨[]⟩ 0) ⟨[]⟩)
noncomputable def o145 (P : Params) : Obj := (PySem.Obj.mk .none none (.fields ⟨[]⟩) ⟨[]⟩)
noncomputable def o146 (P : Params) : Obj := (PySem.Obj.mk (.type "tuple") none (.seq ⟨[(.str "hands" 356), (.str "liars" 357), (.str "found" 358), (.str "hand" 359)]⟩ 0) ⟨[]⟩)
noncomputable def o147 (P : Params) : Obj := (PySem.Obj.mk (.type "tuple") none (.seq ⟨[]⟩ 0) ⟨[]⟩)
noncomputable def o148 (P : Params) : Obj := (PySem.Obj.mk .none none (.func (PySem.FuncData.mk "need_liars" "need_liars" pa_need_liars (.stmts bd_need_liars) sc_need_liars 0 [] .none .none .none .none none .none .none 0)) ⟨[]⟩)
noncomputable def o149 (P : Params) : Obj := (PySem.Obj.mk (.type "code") none (.fields ⟨[(.str "need_liars" 353), (.str "need_liars" 354), (.str "/claim/cut.py" 355), (.int 37 0), (.int 2 0), (.int 0 0), (.int 0 0), (.int 3 0), (.ref 133), (.bool true), (.int 181 0), (.ref 134), .none, (.ref 135), (.ref 136), (.ref 137), (.int 360 0), (.int 37 0), (.str "/claim/cut.py" 361)]⟩) ⟨[]⟩)
noncomputable def o150 (P : Params) : Obj := (PySem.Obj.mk (.type "function") none (.func (PySem.FuncData.mk "need_liars" "need_liars" pa_need_liars (.stmts bd_need_liars) sc_need_liars 3 [] .none .none .none (.str "lietable.checks" 303) none (.ref 138) .none 0)) ⟨[]⟩)
noncomputable def o151 (P : Params) : Obj := (PySem.Obj.mk (.type "tuple") none (.seq ⟨[]⟩ 0) ⟨[]⟩)
noncomputable def o152 (P : Params) : Obj := (PySem.Obj.mk .none none (.fields ⟨[]⟩) ⟨[]⟩)
noncomputable def o153 (P : Params) : Obj := (PySem.Obj.mk .none none (.func (PySem.FuncData.mk "hearers" "hearers" pa_hearers (.stmts bd_hearers) sc_hearers 0 [] .none .none .none .none none .none .none 0)) ⟨[]⟩)
noncomputable def o154 (P : Params) : Obj := (PySem.Obj.mk (.type "code") none (.fields ⟨[(.str "hearers" 365), (.str "hearers" 366), (.str "/claim/cut.py" 367), (.int 45 0), (.int 2 0), (.int 0 0), (.int 0 0), (.int 3 0), (.ref 140), (.bool true), (.int 181 0), (.ref 141), .none, .none, .none, (.ref 142), (.int 368 0), (.int 45 0), (.str "/claim/cut.py" 369)]⟩) ⟨[]⟩)
noncomputable def o155 (P : Params) : Obj := (PySem.Obj.mk (.type "function") none (.func (PySem.FuncData.mk "hearers" "hearers" pa_hearers (.stmts bd_hearers) sc_hearers 3 [] .none .none .none (.str "lietable.paths" 363) none (.ref 143) .none 0)) ⟨[]⟩)
noncomputable def o156 (P : Params) : Obj := (PySem.Obj.mk (.type "tuple") none (.seq ⟨[]⟩ 0) ⟨[]⟩)
noncomputable def o157 (P : Params) : Obj := (PySem.Obj.mk .none none (.fields ⟨[]⟩) ⟨[]⟩)
noncomputable def o158 (P : Params) : Obj := (PySem.Obj.mk (.type "tuple") none (.seq ⟨[(.str "hands" 374), (.str "row" 375), (.str "found" 376), (.str "path" 377), (.str "hand" 378)]⟩ 0) ⟨[]⟩)
noncomputable def o159 (P : Params) : Obj := (PySem.Obj.mk (.type "tuple") none (.seq ⟨[]⟩ 0) ⟨[]⟩)
noncomputable def o160 (P : Params) : Obj := (PySem.Obj.mk .none none (.func (PySem.FuncData.mk "longer_paths" "longer_paths" pa_longer_paths (.stmts bd_longer_paths) sc_longer_paths 0 [] .none .none .none .none none .none .none 0)) ⟨[]⟩)
noncomputable def o161 (P : Params) : Obj := (PySem.Obj.mk (.type "code") none (.fields ⟨[(.str "longer_paths" 371), (.str "longer_paths" 372), (.str "/claim/cut.py" 373), (.int 47 0), (.int 2 0), (.int 0 0), (.int 0 0), (.int 3 0), (.ref 145), (.bool true), (.int 181 0), (.ref 146), .none, (.ref 147), (.ref 148), (.ref 149), (.int 379 0), (.int 47 0), (.str "/claim/cut.py" 380)]⟩) ⟨[]⟩)
noncomputable def o162 (P : Params) : Obj := (PySem.Obj.mk (.type "function") none (.func (PySem.FuncData.mk "longer_paths" "longer_paths" pa_longer_paths (.stmts bd_longer_paths) sc_longer_paths 3 [] .none .none .none (.str "lietable.paths" 363) none (.ref 150) .none 0)) ⟨[]⟩)
noncomputable def o163 (P : Params) : Obj := (PySem.Obj.mk (.type "tuple") none (.seq ⟨[]⟩ 0) ⟨[]⟩)
noncomputable def o164 (P : Params) : Obj := (PySem.Obj.mk .none none (.fields ⟨[]⟩) ⟨[]⟩)
noncomputable def o165 (P : Params) : Obj := (PySem.Obj.mk .none none (.func (PySem.FuncData.mk "paths" "paths" pa_paths (.stmts bd_paths) sc_paths 0 [] .none .none .none .none none .none .none 0)) ⟨[]⟩)
noncomputable def o166 (P : Params) : Obj := (PySem.Obj.mk (.type "code") none (.fields ⟨[(.str "paths" 382), (.str "paths" 383), (.str "/claim/cut.py" 384), (.int 53 0), (.int 2 0), (.int 0 0), (.int 0 0), (.int 3 0), (.ref 152), (.bool true), (.int 181 0), (.ref 153), .none, .none, .none, (.ref 154), (.int 385 0), (.int 53 0), (.str "/claim/cut.py" 386)]⟩) ⟨[]⟩)
noncomputable def o167 (P : Params) : Obj := (PySem.Obj.mk (.type "function") none (.func (PySem.FuncData.mk "paths" "paths" pa_paths (.stmts bd_paths) sc_paths 3 [] .none .none .none (.str "lietable.paths" 363) none (.ref 155) .none 0)) ⟨[]⟩)
noncomputable def o168 (P : Params) : Obj := (PySem.Obj.mk (.type "tuple") none (.seq ⟨[]⟩ 0) ⟨[]⟩)
noncomputable def o169 (P : Params) : Obj := (PySem.Obj.mk .none none (.fields ⟨[]⟩) ⟨[]⟩)
noncomputable def o170 (P : Params) : Obj := (PySem.Obj.mk .none none (.func (PySem.FuncData.mk "paths_of" "paths_of" pa_paths_of (.stmts bd_paths_of) sc_paths_of 0 [] .none .none .none .none none .none .none 0)) ⟨[]⟩)
noncomputable def o171 (P : Params) : Obj := (PySem.Obj.mk (.type "code") none (.fields ⟨[(.str "paths_of" 388), (.str "paths_of" 389), (.str "/claim/cut.py" 390), (.int 62 0), (.int 3 0), (.int 0 0), (.int 0 0), (.int 3 0), (.ref 157), (.bool true), (.int 181 0), (.ref 158), .none, .none, .none, (.ref 159), (.int 391 0), (.int 62 0), (.str "/claim/cut.py" 392)]⟩) ⟨[]⟩)
noncomputable def o172 (P : Params) : Obj := (PySem.Obj.mk (.type "function") none (.func (PySem.FuncData.mk "paths_of" "paths_of" pa_paths_of (.stmts bd_paths_of) sc_paths_of 3 [] .none .none .none (.str "lietable.paths" 363) none (.ref 160) .none 0)) ⟨[]⟩)
noncomputable def o173 (P : Params) : Obj := (PySem.Obj.mk (.type "tuple") none (.seq ⟨[]⟩ 0) ⟨[]⟩)
noncomputable def o174 (P : Params) : Obj := (PySem.Obj.mk .none none (.fields ⟨[]⟩) ⟨[]⟩)
noncomputable def o175 (P : Params) : Obj := (PySem.Obj.mk .none none (.func (PySem.FuncData.mk "is_saying" "is_saying" pa_is_saying (.stmts bd_is_saying) sc_is_saying 0 [] .none .none .none .none none .none .none 0)) ⟨[]⟩)
noncomputable def o176 (P : Params) : Obj := (PySem.Obj.mk (.type "code") none (.fields ⟨[(.str "is_saying" 396), (.str "is_saying" 397), (.str "/claim/cut.py" 398), (.int 65 0), (.int 4 0), (.int 0 0), (.int 0 0), (.int 3 0), (.ref 162), (.bool true), (.int 181 0), (.ref 163), .none, .none, .none, (.ref 164), (.int 399 0), (.int 65 0), (.str "/claim/cut.py" 400)]⟩) ⟨[]⟩)
noncomputable def o177 (P : Params) : Obj := (PySem.Obj.mk (.type "function") none (.func (PySem.FuncData.mk "is_saying" "is_saying" pa_is_saying (.stmts bd_is_saying) sc_is_saying 3 [] .none .none .none (.str "lietable.sayings" 394) none (.ref 165) .none 0)) ⟨[]⟩)
noncomputable def o178 (P : Params) : Obj := (PySem.Obj.mk (.type "tuple") none (.seq ⟨[]⟩ 0) ⟨[]⟩)
noncomputable def o179 (P : Params) : Obj := (PySem.Obj.mk .none none (.fields ⟨[]⟩) ⟨[]⟩)
noncomputable def o180 (P : Params) : Obj := (PySem.Obj.mk (.type "tuple") none (.seq ⟨[(.str "hands" 405), (.str "liars" 406), (.str "rows" 407), (.str "lies" 408), (.str "pair" 409)]⟩ 0) ⟨[]⟩)
noncomputable def o181 (P : Params) : Obj := (PySem.Obj.mk (.type "tuple") none (.seq ⟨[]⟩ 0) ⟨[]⟩)
noncomputable def o182 (P : Params) : Obj := (PySem.Obj.mk .none none (.func (PySem.FuncData.mk "need_lies" "need_lies" pa_need_lies (.stmts bd_need_lies) sc_need_lies 0 [] .none .none .none .none none .none .none 0)) ⟨[]⟩)
noncomputable def o183 (P : Params) : Obj := (PySem.Obj.mk (.type "code") none (.fields ⟨[(.str "need_lies" 402), (.str "need_lies" 403), (.str "/claim/cut.py" 404), (.int 71 0), (.int 4 0), (.int 0 0), (.int 0 0), (.int 3 0), (.ref 167), (.bool true), (.int 181 0), (.ref 168), .none, (.ref 169), (.ref 170), (.ref 171), (.int 410 0), (.int 71 0), (.str "/claim/cut.py" 411)]⟩) ⟨[]⟩)
noncomputable def o184 (P : Params) : Obj := (PySem.Obj.mk (.type "function") none (.func (PySem.FuncData.mk "need_lies" "need_lies" pa_need_lies (.stmts bd_need_lies) sc_need_lies 3 [] .none .none .none (.str "lietable.sayings" 394) none (.ref 172) .none 0)) ⟨[]⟩)
noncomputable def o185 (P : Params) : Obj := (PySem.Obj.mk (.type "tuple") none (.seq ⟨[]⟩ 0) ⟨[]⟩)
noncomputable def o186 (P : Params) : Obj := (PySem.Obj.mk .none none (.fields ⟨[]⟩) ⟨[]⟩)
noncomputable def o187 (P : Params) : Obj := (PySem.Obj.mk (.type "tuple") none (.seq ⟨[(.str "signs" 418), (.str "sign" 419)]⟩ 0) ⟨[]⟩)
noncomputable def o188 (P : Params) : Obj := (PySem.Obj.mk (.type "tuple") none (.seq ⟨[]⟩ 0) ⟨[]⟩)
noncomputable def o189 (P : Params) : Obj := (PySem.Obj.mk .none none (.func (PySem.FuncData.mk "vote" "vote" pa_vote (.stmts bd_vote) sc_vote 0 [] .none .none .none .none none .none .none 0)) ⟨[]⟩)
noncomputable def o190 (P : Params) : Obj := (PySem.Obj.mk (.type "code") none (.fields ⟨[(.str "vote" 415), (.str "vote" 416), (.str "/claim/cut.py" 417), (.int 78 0), (.int 1 0), (.int 0 0), (.int 0 0), (.int 3 0), (.ref 174), (.bool true), (.int 181 0), (.ref 175), .none, (.ref 176), (.ref 177), (.ref 178), (.int 420 0), (.int 78 0), (.str "/claim/cut.py" 421)]⟩) ⟨[]⟩)
noncomputable def o191 (P : Params) : Obj := (PySem.Obj.mk (.type "function") none (.func (PySem.FuncData.mk "vote" "vote" pa_vote (.stmts bd_vote) sc_vote 3 [] .none .none .none (.str "lietable.votes" 413) none (.ref 179) .none 0)) ⟨[]⟩)
noncomputable def o192 (P : Params) : Obj := (PySem.Obj.mk (.type "tuple") none (.seq ⟨[]⟩ 0) ⟨[]⟩)
noncomputable def o193 (P : Params) : Obj := (PySem.Obj.mk .none none (.fields ⟨[]⟩) ⟨[]⟩)
noncomputable def o194 (P : Params) : Obj := (PySem.Obj.mk (.type "tuple") none (.seq ⟨[(.str "hands" 426), (.str "most" 427), (.str "told" 428), (.str "hand" 429), (.str "path" 430), (.str "signs" 431), (.str "other" 432)]⟩ 0) ⟨[]⟩)
noncomputable def o195 (P : Params) : Obj := (PySem.Obj.mk (.type "tuple") none (.seq ⟨[]⟩ 0) ⟨[]⟩)
noncomputable def o196 (P : Params) : Obj := (PySem.Obj.mk .none none (.func (PySem.FuncData.mk "settled" "settled" pa_settled (.stmts bd_settled) sc_settled 0 [] .none .none .none .none none .none .none 0)) ⟨[]⟩)
noncomputable def o197 (P : Params) : Obj := (PySem.Obj.mk (.type "code") none (.fields ⟨[(.str "settled" 423), (.str "settled" 424), (.str "/claim/cut.py" 425), (.int 83 0), (.int 5 0), (.int 0 0), (.int 0 0), (.int 3 0), (.ref 181), (.bool true), (.int 181 0), (.ref 182), .none, (.ref 183), (.ref 184), (.ref 185), (.int 433 0), (.int 83 0), (.str "/claim/cut.py" 434)]⟩) ⟨[]⟩)
noncomputable def o198 (P : Params) : Obj := (PySem.Obj.mk (.type "function") none (.func (PySem.FuncData.mk "settled" "settled" pa_settled (.stmts bd_settled) sc_settled 3 [] .none .none .none (.str "lietable.votes" 413) none (.ref 186) .none 0)) ⟨[]⟩)
noncomputable def t7 (P : Params) : BT := (.node (boot_o_0 P) (.node (boot_o_1 P) (.node (o135 P) (.node (boot_o_7 P) (.node (o6 P) (.node (o25 P) (.node (o63 P) (.node (o138 P) .nil .nil) .nil) (.node (o104 P) (.node (o170 P) .nil .nil) .nil)) (.node (o44 P) (.node (o85 P) (.node (o154 P) .nil .nil) .nil) (.node (o120 P) (.node (o186 P) .nil .nil) .nil))) (.node (o14 P) (.node (o33 P) (.node (o74 P) (.node (o146 P) .nil .nil) .nil) (.node (o112 P) (.node (o178 P) .nil .nil) .nil)) (.node (o55 P) (.node (o93 P) (.node (o162 P) .nil .nil) .nil) (.node (o128 P) (.node (o194 P) .nil .nil) .nil)))) (.node (o0 P) (.node (o10 P) (.node (o29 P) (.node (o70 P) (.node (o142 P) .nil .nil) .nil) (.node (o108 P) (.node (o174 P) .nil .nil) .nil)) (.node (o48 P) (.node (o89 P) (.node (o158 P) .nil .nil) .nil) (.node (o124 P) (.node (o190 P) .nil .nil) .nil))) (.node (o18 P) (.node (o40 P) (.node (o78 P) (.node (o150 P) .nil .nil) .nil) (.node (o116 P) (.node (o182 P) .nil .nil) .nil)) (.node (o59 P) (.node (o100 P) (.node (o166 P) .nil .nil) .nil) (.node (o132 P) (.node (o198 P) .nil .nil) .nil))))) (.node (boot_o_5 P) (.node (boot_o_9 P) (.node (o8 P) (.node (o27 P) (.node (o68 P) (.node (o140 P) .nil .nil) .nil) (.node (o106 P) (.node (o172 P) .nil .nil) .nil)) (.node (o46 P) (.node (o87 P) (.node (o156 P) .nil .nil) .nil) (.node (o122 P) (.node (o188 P) .nil .nil) .nil))) (.node (o16 P) (.node (o38 P) (.node (o76 P) (.node (o148 P) .nil .nil) .nil) (.node (o114 P) (.node (o180 P) .nil .nil) .nil)) (.node (o57 P) (.node (o98 P) (.node (o164 P) .nil .nil) .nil) (.node (o130 P) (.node (o196 P) .nil .nil) .nil)))) (.node (o2 P) (.node (o12 P) (.node (o31 P) (.node (o72 P) (.node (o144 P) .nil .nil) .nil) (.node (o110 P) (.node (o176 P) .nil .nil) .nil)) (.node (o53 P) (.node (o91 P) (.node (o160 P) .nil .nil) .nil) (.node (o126 P) (.node (o192 P) .nil .nil) .nil))) (.node (o23 P) (.node (o42 P) (.node (o83 P) (.node (o152 P) .nil .nil) .nil) (.node (o118 P) (.node (o184 P) .nil .nil) .nil)) (.node (o61 P) (.node (o102 P) (.node (o168 P) .nil .nil) .nil) (.node (o134 P) .nil .nil)))))) (.node (boot_o_2 P) (.node (boot_o_4 P) (.node (boot_o_8 P) (.node (o7 P) (.node (o26 P) (.node (o67 P) (.node (o139 P) .nil .nil) .nil) (.node (o105 P) (.node (o171 P) .nil .nil) .nil)) (.node (o45 P) (.node (o86 P) (.node (o155 P) .nil .nil) .nil) (.node (o121 P) (.node (o187 P) .nil .nil) .nil))) (.node (o96 P) (.node (o37 P) (.node (o75 P) (.node (o147 P) .nil .nil) .nil) (.node (o113 P) (.node (o179 P) .nil .nil) .nil)) (.node (o56 P) (.node (o97 P) (.node (o163 P) .nil .nil) .nil) (.node (o129 P) (.node (o195 P) .nil .nil) .nil)))) (.node (o136 P) (.node (o11 P) (.node (o30 P) (.node (o71 P) (.node (o143 P) .nil .nil) .nil) (.node (o109 P) (.node (o175 P) .nil .nil) .nil)) (.node (o52 P) (.node (o90 P) (.node (o159 P) .nil .nil) .nil) (.node (o125 P) (.node (o191 P) .nil .nil) .nil))) (.node (o22 P) (.node (o41 P) (.node (o82 P) (.node (o151 P) .nil .nil) .nil) (.node (o117 P) (.node (o183 P) .nil .nil) .nil)) (.node (o60 P) (.node (o101 P) (.node (o167 P) .nil .nil) .nil) (.node (o133 P) .nil .nil))))) (.node (boot_o_6 P) (.node (boot_o_10 P) (.node (o9 P) (.node (o28 P) (.node (o69 P) (.node (o141 P) .nil .nil) .nil) (.node (o107 P) (.node (o173 P) .nil .nil) .nil)) (.node (o47 P) (.node (o88 P) (.node (o157 P) .nil .nil) .nil) (.node (o123 P) (.node (o189 P) .nil .nil) .nil))) (.node (o17 P) (.node (o39 P) (.node (o77 P) (.node (o149 P) .nil .nil) .nil) (.node (o115 P) (.node (o181 P) .nil .nil) .nil)) (.node (o58 P) (.node (o99 P) (.node (o165 P) .nil .nil) .nil) (.node (o131 P) (.node (o197 P) .nil .nil) .nil)))) (.node (o3 P) (.node (o13 P) (.node (o32 P) (.node (o73 P) (.node (o145 P) .nil .nil) .nil) (.node (o111 P) (.node (o177 P) .nil .nil) .nil)) (.node (o54 P) (.node (o92 P) (.node (o161 P) .nil .nil) .nil) (.node (o127 P) (.node (o193 P) .nil .nil) .nil))) (.node (o24 P) (.node (o43 P) (.node (o84 P) (.node (o153 P) .nil .nil) .nil) (.node (o119 P) (.node (o185 P) .nil .nil) .nil)) (.node (o62 P) (.node (o103 P) (.node (o169 P) .nil .nil) .nil) (.node (o137 P) .nil .nil)))))))
noncomputable def T7 (w : World) (os : OsState) : SharedT := SharedT.mk (t7 w.params) 188 (PySem.Life.mk [] [] [] 0 [] [] false ⟨[]⟩ [] 0 false false false 0 [2000, 10, 10] false 0 true [] [] 0 false) ⟨[]⟩ (PySem.Drawn.mk 0 0 0 0) 438 os
noncomputable def sts7 : List Stmt := [s18, s19, s20, s21, s22, s23, s24, s25, s26, s27, s28, s29, s30, s31]
theorem pc7 : ∀ w : World, (fun os => segRunT treeTable pg w m0 ann 1 334 (T6 w os) (piecesOf sts7 en cE (Pos.mk 31 0 33 31) [topFrame qE])) = fun os => some (Flow.next, T7 w os, cE, (Pos.mk 91 0 91 8)) := fun w => by rewrite [PySem.W.Fast.te10110043849684766642, PySem.W.Fast.te14364793385576792824]; kernel_rfl
noncomputable def o199 (P : Params) : Obj := (PySem.Obj.mk (.type "dict") none (.dict ⟨[(PySem.DictEntry.mk (PySem.PyData.keyHash P "__name__") (.str "__name__" 165) (.str "law_uf060015_04" 500)), (PySem.DictEntry.mk (PySem.PyData.keyHash P "__doc__") (.str "__doc__" 166) .none), (PySem.DictEntry.mk (PySem.PyData.keyHash P "__package__") (.str "__package__" 167) .none), (PySem.DictEntry.mk (PySem.PyData.keyHash P "__loader__") (.str "__loader__" 168) (.builtin "__main__.__loader__#opaque")), (PySem.DictEntry.mk (PySem.PyData.keyHash P "__spec__") (.str "__spec__" 169) .none), (PySem.DictEntry.mk (PySem.PyData.keyHash P "__annotations__") (.str "__annotations__" 170) (.ref 6)), (PySem.DictEntry.mk (PySem.PyData.keyHash P "__builtins__") (.str "__builtins__" 171) (.ref 4)), (PySem.DictEntry.mk (PySem.PyData.keyHash P "__file__") (.str "__file__" 173) (.str "/claim/cut.py" 172)), (PySem.DictEntry.mk (PySem.PyData.keyHash P "__cached__") (.str "__cached__" 174) .none), (PySem.DictEntry.mk (PySem.PyData.keyHash P "TableError") (.str "TableError" 206) (.ref 24)), (PySem.DictEntry.mk (PySem.PyData.keyHash P "NoTable") (.str "NoTable" 222) (.ref 37)), (PySem.DictEntry.mk (PySem.PyData.keyHash P "NoSign") (.str "NoSign" 238) (.ref 49)), (PySem.DictEntry.mk (PySem.PyData.keyHash P "NoHand") (.str "NoHand" 254) (.ref 61)), (PySem.DictEntry.mk (PySem.PyData.keyHash P "NoSaying") (.str "NoSaying" 270) (.ref 73)), (PySem.DictEntry.mk (PySem.PyData.keyHash P "Over") (.str "Over" 286) (.ref 85)), (PySem.DictEntry.mk (PySem.PyData.keyHash P "NotOver") (.str "NotOver" 302) (.ref 97)), (PySem.DictEntry.mk (PySem.PyData.keyHash P "LEAST_HANDS") (.str "LEAST_HANDS" 306) (.int 2 305)), (PySem.DictEntry.mk (PySem.PyData.keyHash P "MOST_HANDS") (.str "MOST_HANDS" 308) (.int 10 307)), (PySem.DictEntry.mk (PySem.PyData.keyHash P "MOST_LIARS") (.str "MOST_LIARS" 310) (.int 2 309)), (PySem.DictEntry.mk (PySem.PyData.keyHash P "MOST_LETTERS") (.str "MOST_LETTERS" 312) (.int 8 311)), (PySem.DictEntry.mk (PySem.PyData.keyHash P "LETTERS") (.str "LETTERS" 314) (.str "abcdefghijklmnopqrstuvwxyz" 313)), (PySem.DictEntry.mk (PySem.PyData.keyHash P "is_within") (.str "is_within" 323) (.ref 106)), (PySem.DictEntry.mk (PySem.PyData.keyHash P "is_sign") (.str "is_sign" 329) (.ref 111)), (PySem.DictEntry.mk (PySem.PyData.keyHash P "need_table") (.str "need_table" 337) (.ref 118)), (PySem.DictEntry.mk (PySem.PyData.keyHash P "need_sign") (.str "need_sign" 344) (.ref 125)), (PySem.DictEntry.mk (PySem.PyData.keyHash P "need_hand") (.str "need_hand" 352) (.ref 132)), (PySem.DictEntry.mk (PySem.PyData.keyHash P "need_liars") (.str "need_liars" 362) (.ref 139)), (PySem.DictEntry.mk (PySem.PyData.keyHash P "hearers") (.str "hearers" 370) (.ref 144)), (PySem.DictEntry.mk (PySem.PyData.keyHash P "longer_paths") (.str "longer_paths" 381) (.ref 151)), (PySem.DictEntry.mk (PySem.PyData.keyHash P "paths") (.str "paths" 387) (.ref 156)), (PySem.DictEntry.mk (PySem.PyData.keyHash P "paths_of") (.str "paths_of" 393) (.ref 161)), (PySem.DictEntry.mk (PySem.PyData.keyHash P "is_saying") (.str "is_saying" 401) (.ref 166)), (PySem.DictEntry.mk (PySem.PyData.keyHash P "need_lies") (.str "need_lies" 412) (.ref 173)), (PySem.DictEntry.mk (PySem.PyData.keyHash P "vote") (.str "vote" 422) (.ref 180)), (PySem.DictEntry.mk (PySem.PyData.keyHash P "settled") (.str "settled" 435) (.ref 187)), (PySem.DictEntry.mk (PySem.PyData.keyHash P "Table") (.str "Table" 499) (.ref 228)), (PySem.DictEntry.mk (PySem.PyData.keyHash P "_law_cell_at") (.str "_law_cell_at" 509) (.ref 239))]⟩ 37) ⟨[]⟩)
noncomputable def o200 (P : Params) : Obj := (PySem.Obj.mk .none none (.fields ⟨[(.int 2 0), (.int 0 0), (.ref 20), (.int 4 0), (.int 0 0), (.ref 33), (.int 6 0), (.int 0 0), (.ref 45), (.int 8 0), (.int 0 0), (.ref 57), (.int 10 0), (.int 0 0), (.ref 69), (.int 12 0), (.int 0 0), (.ref 81), (.int 14 0), (.int 0 0), (.ref 93), (.int 22 0), (.int 0 0), (.ref 105), (.int 24 0), (.int 0 0), (.ref 110), (.int 28 0), (.int 0 0), (.ref 117), (.int 31 0), (.int 0 0), (.ref 124), (.int 34 0), (.int 0 0), (.ref 131), (.int 37 0), (.int 0 0), (.ref 138), (.int 45 0), (.int 0 0), (.ref 143), (.int 47 0), (.int 0 0), (.ref 150), (.int 53 0), (.int 0 0), (.ref 155), (.int 62 0), (.int 0 0), (.ref 160), (.int 65 0), (.int 0 0), (.ref 165), (.int 71 0), (.int 0 0), (.ref 172), (.int 78 0), (.int 0 0), (.ref 179), (.int 83 0), (.int 0 0), (.ref 186), (.int 92 0), (.int 0 0), (.ref 193), (.int 133 0), (.int 0 0), (.ref 238)]⟩) ⟨[]⟩)
noncomputable def o201 (P : Params) : Obj := (PySem.Obj.mk (.type "tuple") none (.seq ⟨[]⟩ 0) ⟨[]⟩)
noncomputable def o202 (P : Params) : Obj := (PySem.Obj.mk (.type "builtin_function_or_method") none (.fields ⟨[(.builtin "type.__prepare__"), (.type "type")]⟩) ⟨[]⟩)
noncomputable def o203 (P : Params) : Obj := (PySem.Obj.mk (.type "dict") none (.dict ⟨[(PySem.DictEntry.mk (PySem.PyData.keyHash P "__module__") (.str "__module__" 445) (.str "lietable.tables" 436)), (PySem.DictEntry.mk (PySem.PyData.keyHash P "__qualname__") (.str "__qualname__" 447) (.str "Table" 446)), (PySem.DictEntry.mk (PySem.PyData.keyHash P "__firstlineno__") (.str "__firstlineno__" 449) (.int 92 448)), (PySem.DictEntry.mk (PySem.PyData.keyHash P "__init__") (.str "__init__" 455) (.ref 199)), (PySem.DictEntry.mk (PySem.PyData.keyHash P "honest") (.str "honest" 463) (.ref 206)), (PySem.DictEntry.mk (PySem.PyData.keyHash P "play") (.str "play" 469) (.ref 211)), (PySem.DictEntry.mk (PySem.PyData.keyHash P "told") (.str "told" 477) (.ref 218)), (PySem.DictEntry.mk (PySem.PyData.keyHash P "says") (.str "says" 485) (.ref 225)), (PySem.DictEntry.mk (PySem.PyData.keyHash P "__static_attributes__") (.str "__static_attributes__" 492) (.ref 226))]⟩ 9) ⟨[]⟩)
noncomputable def o204 (P : Params) : Obj := (PySem.Obj.mk (.type "tuple") none (.seq ⟨[]⟩ 0) ⟨[]⟩)
noncomputable def o205 (P : Params) : Obj := (PySem.Obj.mk .none none (.fields ⟨[(.int 94 0), (.int 4 0), (.ref 198), (.int 105 0), (.int 4 0), (.ref 205), (.int 110 0), (.int 4 0), (.ref 210), (.int 121 0), (.int 4 0), (.ref 217), (.int 125 0), (.int 4 0), (.ref 224)]⟩) ⟨[]⟩)
noncomputable def o206 (P : Params) : Obj := (PySem.Obj.mk (.type "code") none (.fields ⟨[(.str "Table" 440), (.str "Table" 441), (.str "/claim/cut.py" 442), (.int 92 0), (.int 0 0), (.int 0 0), (.int 0 0), (.int 0 0), (.ref 191), (.bool false), (.int 181 0), (.ref 192), .none, .none, .none, .none, (.int 443 0), (.int 92 0), (.str "/claim/cut.py" 444)]⟩) ⟨[]⟩)
noncomputable def o207 (P : Params) : Obj := (PySem.Obj.mk (.type "frame") none .plain ⟨[(.some (.ref 193)), (.some (.ref 3)), (.some (.ref 190)), none, (.some (.str "lietable.tables" 436)), none, (.some (.ref 0))]⟩)
noncomputable def o208 (P : Params) : Obj := (PySem.Obj.mk (.type "tuple") none (.seq ⟨[]⟩ 0) ⟨[]⟩)
noncomputable def o209 (P : Params) : Obj := (PySem.Obj.mk .none none (.fields ⟨[]⟩) ⟨[]⟩)
noncomputable def o210 (P : Params) : Obj := (PySem.Obj.mk .none none (.func (PySem.FuncData.mk "__init__" "Table.__init__" pa_Table___init__ (.stmts bd_Table___init__) sc_Table___init__ 0 [] .none .none .none .none none .none .none 0)) ⟨[]⟩)
noncomputable def o211 (P : Params) : Obj := (PySem.Obj.mk (.type "code") none (.fields ⟨[(.str "__init__" 450), (.str "Table.__init__" 451), (.str "/claim/cut.py" 452), (.int 94 0), (.int 5 0), (.int 0 0), (.int 0 0), (.int 3 0), (.ref 195), (.bool true), (.int 181 0), (.ref 196), .none, .none, .none, (.ref 197), (.int 453 0), (.int 94 0), (.str "/claim/cut.py" 454)]⟩) ⟨[]⟩)
noncomputable def o212 (P : Params) : Obj := (PySem.Obj.mk (.type "function") none (.func (PySem.FuncData.mk "__init__" "Table.__init__" pa_Table___init__ (.stmts bd_Table___init__) sc_Table___init__ 3 [] .none .none .none (.str "lietable.tables" 436) none (.ref 198) .none 0)) ⟨[]⟩)
noncomputable def o213 (P : Params) : Obj := (PySem.Obj.mk (.type "tuple") none (.seq ⟨[]⟩ 0) ⟨[]⟩)
noncomputable def o214 (P : Params) : Obj := (PySem.Obj.mk .none none (.fields ⟨[]⟩) ⟨[]⟩)
noncomputable def o215 (P : Params) : Obj := (PySem.Obj.mk (.type "tuple") none (.seq ⟨[(.str "self" 459), (.str "path" 460)]⟩ 0) ⟨[]⟩)
noncomputable def o216 (P : Params) : Obj := (PySem.Obj.mk (.type "tuple") none (.seq ⟨[]⟩ 0) ⟨[]⟩)
noncomputable def o217 (P : Params) : Obj := (PySem.Obj.mk .none none (.func (PySem.FuncData.mk "honest" "Table.honest" pa_Table_honest (.stmts bd_Table_honest) sc_Table_honest 0 [] .none .none .none .none none .none .none 0)) ⟨[]⟩)
noncomputable def o218 (P : Params) : Obj := (PySem.Obj.mk (.type "code") none (.fields ⟨[(.str "honest" 456), (.str "Table.honest" 457), (.str "/claim/cut.py" 458), (.int 105 0), (.int 2 0), (.int 0 0), (.int 0 0), (.int 3 0), (.ref 200), (.bool true), (.int 181 0), (.ref 201), .none, (.ref 202), (.ref 203), (.ref 204), (.int 461 0), (.int 105 0), (.str "/claim/cut.py" 462)]⟩) ⟨[]⟩)
noncomputable def o219 (P : Params) : Obj := (PySem.Obj.mk (.type "function") none (.func (PySem.FuncData.mk "honest" "Table.honest" pa_Table_honest (.stmts bd_Table_honest) sc_Table_honest 3 [] .none .none .none (.str "lietable.tables" 436) none (.ref 205) .none 0)) ⟨[]⟩)
noncomputable def o220 (P : Params) : Obj := (PySem.Obj.mk (.type "tuple") none (.seq ⟨[]⟩ 0) ⟨[]⟩)
noncomputable def o221 (P : Params) : Obj := (PySem.Obj.mk .none none (.fields ⟨[]⟩) ⟨[]⟩)
noncomputable def o222 (P : Params) : Obj := (PySem.Obj.mk .none none (.func (PySem.FuncData.mk "play" "Table.play" pa_Table_play (.stmts bd_Table_play) sc_Table_play 0 [] .none .none .none .none none .none .none 0)) ⟨[]⟩)
noncomputable def o223 (P : Params) : Obj := (PySem.Obj.mk (.type "code") none (.fields ⟨[(.str "play" 464), (.str "Table.play" 465), (.str "/claim/cut.py" 466), (.int 110 0), (.int 2 0), (.int 0 0), (.int 0 0), (.int 3 0), (.ref 207), (.bool true), (.int 181 0), (.ref 208), .none, .none, .none, (.ref 209), (.int 467 0), (.int 110 0), (.str "/claim/cut.py" 468)]⟩) ⟨[]⟩)
noncomputable def o224 (P : Params) : Obj := (PySem.Obj.mk (.type "function") none (.func (PySem.FuncData.mk "play" "Table.play" pa_Table_play (.stmts bd_Table_play) sc_Table_play 3 [] .none .none .none (.str "lietable.tables" 436) none (.ref 210) .none 0)) ⟨[]⟩)
noncomputable def o225 (P : Params) : Obj := (PySem.Obj.mk (.type "tuple") none (.seq ⟨[]⟩ 0) ⟨[]⟩)
noncomputable def o226 (P : Params) : Obj := (PySem.Obj.mk .none none (.fields ⟨[]⟩) ⟨[]⟩)
noncomputable def o227 (P : Params) : Obj := (PySem.Obj.mk (.type "tuple") none (.seq ⟨[(.str "self" 473), (.str "hand" 474)]⟩ 0) ⟨[]⟩)
noncomputable def o228 (P : Params) : Obj := (PySem.Obj.mk (.type "tuple") none (.seq ⟨[]⟩ 0) ⟨[]⟩)
noncomputable def o229 (P : Params) : Obj := (PySem.Obj.mk .none none (.func (PySem.FuncData.mk "told" "Table.told" pa_Table_told (.stmts bd_Table_told) sc_Table_told 0 [] .none .none .none .none none .none .none 0)) ⟨[]⟩)
noncomputable def o230 (P : Params) : Obj := (PySem.Obj.mk (.type "code") none (.fields ⟨[(.str "told" 470), (.str "Table.told" 471), (.str "/claim/cut.py" 472), (.int 121 0), (.int 2 0), (.int 0 0), (.int 0 0), (.int 3 0), (.ref 212), (.bool true), (.int 181 0), (.ref 213), .none, (.ref 214), (.ref 215), (.ref 216), (.int 475 0), (.int 121 0), (.str "/claim/cut.py" 476)]⟩) ⟨[]⟩)
noncomputable def o231 (P : Params) : Obj := (PySem.Obj.mk (.type "function") none (.func (PySem.FuncData.mk "told" "Table.told" pa_Table_told (.stmts bd_Table_told) sc_Table_told 3 [] .none .none .none (.str "lietable.tables" 436) none (.ref 217) .none 0)) ⟨[]⟩)
noncomputable def o232 (P : Params) : Obj := (PySem.Obj.mk (.type "tuple") none (.seq ⟨[]⟩ 0) ⟨[]⟩)
noncomputable def o233 (P : Params) : Obj := (PySem.Obj.mk .none none (.fields ⟨[]⟩) ⟨[]⟩)
noncomputable def o234 (P : Params) : Obj := (PySem.Obj.mk (.type "tuple") none (.seq ⟨[(.str "self" 481), (.str "hand" 482)]⟩ 0) ⟨[]⟩)
noncomputable def o235 (P : Params) : Obj := (PySem.Obj.mk (.type "tuple") none (.seq ⟨[]⟩ 0) ⟨[]⟩)
noncomputable def o236 (P : Params) : Obj := (PySem.Obj.mk .none none (.func (PySem.FuncData.mk "says" "Table.says" pa_Table_says (.stmts bd_Table_says) sc_Table_says 0 [] .none .none .none .none none .none .none 0)) ⟨[]⟩)
noncomputable def o237 (P : Params) : Obj := (PySem.Obj.mk (.type "code") none (.fields ⟨[(.str "says" 478), (.str "Table.says" 479), (.str "/claim/cut.py" 480), (.int 125 0), (.int 2 0), (.int 0 0), (.int 0 0), (.int 3 0), (.ref 219), (.bool true), (.int 181 0), (.ref 220), .none, (.ref 221), (.ref 222), (.ref 223), (.int 483 0), (.int 125 0), (.str "/claim/cut.py" 484)]⟩) ⟨[]⟩)
noncomputable def o238 (P : Params) : Obj := (PySem.Obj.mk (.type "function") none (.func (PySem.FuncData.mk "says" "Table.says" pa_Table_says (.stmts bd_Table_says) sc_Table_says 3 [] .none .none .none (.str "lietable.tables" 436) none (.ref 224) .none 0)) ⟨[]⟩)
noncomputable def o239 (P : Params) : Obj := (PySem.Obj.mk (.type "tuple") none (.seq ⟨[(.str "hands" 486), (.str "heard" 487), (.str "liars" 488), (.str "most" 489), (.str "round" 490), (.str "sign" 491)]⟩ 0) ⟨[]⟩)
noncomputable def o240 (P : Params) : Obj := (PySem.Obj.mk (.type "dict") none (.dict ⟨[(PySem.DictEntry.mk (PySem.PyData.keyHash P "__module__") (.str "__module__" 445) (.str "lietable.tables" 436)), (PySem.DictEntry.mk (PySem.PyData.keyHash P "__firstlineno__") (.str "__firstlineno__" 449) (.int 92 448)), (PySem.DictEntry.mk (PySem.PyData.keyHash P "__init__") (.str "__init__" 455) (.ref 199)), (PySem.DictEntry.mk (PySem.PyData.keyHash P "honest") (.str "honest" 463) (.ref 206)), (PySem.DictEntry.mk (PySem.PyData.keyHash P "play") (.str "play" 469) (.ref 211)), (PySem.DictEntry.mk (PySem.PyData.keyHash P "told") (.str "told" 477) (.ref 218)), (PySem.DictEntry.mk (PySem.PyData.keyHash P "says") (.str "says" 485) (.ref 225)), (PySem.DictEntry.mk (PySem.PyData.keyHash P "__static_attributes__") (.str "__static_attributes__" 492) (.ref 226)), (PySem.DictEntry.mk (PySem.PyData.keyHash P "__dict__") (.str "__dict__" 494) (.ref 229)), (PySem.DictEntry.mk (PySem.PyData.keyHash P "__weakref__") (.str "__weakref__" 496) (.ref 230)), (PySem.DictEntry.mk (PySem.PyData.keyHash P "__doc__") (.str "__doc__" 497) .none)]⟩ 4) ⟨[]⟩)
noncomputable def o241 (P : Params) : Obj := (PySem.Obj.mk (.type "type") none (.cls (PySem.ClassData.mk "Table" [(.type "object")] [(.ref 228), (.type "object")] 227 "Table" true [] [] false none false)) ⟨[none, none, (.some (.str "Table" 438)), (.some (.str "Table" 446)), (.some (.builtin "object.__new__")), (.some (.bool true))]⟩)
noncomputable def o242 (P : Params) : Obj := (PySem.Obj.mk (.type "getset_descriptor") none (.fields ⟨[(.str "__dict__" 493), (.ref 228), (.builtin "function.__dict__"), (.builtin "function.__dict__#set")]⟩) ⟨[]⟩)
noncomputable def o243 (P : Params) : Obj := (PySem.Obj.mk (.type "getset_descriptor") none (.fields ⟨[(.str "__weakref__" 495), (.ref 228), (.builtin "ExceptionGroup.__weakref__"), .none]⟩) ⟨[]⟩)
noncomputable def o244 (P : Params) : Obj := (PySem.Obj.mk (.type "super") none (.fields ⟨[(.ref 228), (.ref 228), (.ref 228)]⟩) ⟨[]⟩)
noncomputable def o245 (P : Params) : Obj := (PySem.Obj.mk (.type "builtin_function_or_method") none (.fields ⟨[(.builtin "object.__init_subclass__"), (.ref 228)]⟩) ⟨[]⟩)
noncomputable def o246 (P : Params) : Obj := (PySem.Obj.mk (.type "tuple") none (.seq ⟨[]⟩ 0) ⟨[]⟩)
noncomputable def o247 (P : Params) : Obj := (PySem.Obj.mk .none none (.fields ⟨[]⟩) ⟨[]⟩)
noncomputable def o248 (P : Params) : Obj := (PySem.Obj.mk (.type "tuple") none (.seq ⟨[(.str "_law_script" 505), (.str "_law_k" 506)]⟩ 0) ⟨[]⟩)
noncomputable def o249 (P : Params) : Obj := (PySem.Obj.mk (.type "tuple") none (.seq ⟨[]⟩ 0) ⟨[]⟩)
noncomputable def o250 (P : Params) : Obj := (PySem.Obj.mk .none none (.func (PySem.FuncData.mk "_law_cell_at" "_law_cell_at" pa__law_cell_at (.stmts bd__law_cell_at) sc__law_cell_at 0 [] .none .none .none .none none .none .none 0)) ⟨[]⟩)
noncomputable def o251 (P : Params) : Obj := (PySem.Obj.mk (.type "code") none (.fields ⟨[(.str "_law_cell_at" 502), (.str "_law_cell_at" 503), (.str "/claim/cut.py" 504), (.int 133 0), (.int 2 0), (.int 0 0), (.int 0 0), (.int 3 0), (.ref 233), (.bool true), (.int 181 0), (.ref 234), .none, (.ref 235), (.ref 236), (.ref 237), (.int 507 0), (.int 133 0), (.str "/claim/cut.py" 508)]⟩) ⟨[]⟩)
noncomputable def o252 (P : Params) : Obj := (PySem.Obj.mk (.type "function") none (.func (PySem.FuncData.mk "_law_cell_at" "_law_cell_at" pa__law_cell_at (.stmts bd__law_cell_at) sc__law_cell_at 3 [] .none .none .none (.str "law_uf060015_04" 500) none (.ref 238) .none 0)) ⟨[]⟩)
noncomputable def t8 (P : Params) : BT := (.node (boot_o_0 P) (.node (boot_o_1 P) (.node (o199 P) (.node (boot_o_7 P) (.node (o6 P) (.node (o25 P) (.node (o63 P) (.node (o138 P) .nil .nil) (.node (o204 P) .nil .nil)) (.node (o104 P) (.node (o170 P) .nil .nil) (.node (o236 P) .nil .nil))) (.node (o44 P) (.node (o85 P) (.node (o154 P) .nil .nil) (.node (o220 P) .nil .nil)) (.node (o120 P) (.node (o186 P) .nil .nil) (.node (o252 P) .nil .nil)))) (.node (o14 P) (.node (o33 P) (.node (o74 P) (.node (o146 P) .nil .nil) (.node (o212 P) .nil .nil)) (.node (o112 P) (.node (o178 P) .nil .nil) (.node (o244 P) .nil .nil))) (.node (o55 P) (.node (o93 P) (.node (o162 P) .nil .nil) (.node (o228 P) .nil .nil)) (.node (o128 P) (.node (o194 P) .nil .nil) .nil)))) (.node (o0 P) (.node (o10 P) (.node (o29 P) (.node (o70 P) (.node (o142 P) .nil .nil) (.node (o208 P) .nil .nil)) (.node (o108 P) (.node (o174 P) .nil .nil) (.node (o240 P) .nil .nil))) (.node (o48 P) (.node (o89 P) (.node (o158 P) .nil .nil) (.node (o224 P) .nil .nil)) (.node (o124 P) (.node (o190 P) .nil .nil) .nil))) (.node (o18 P) (.node (o40 P) (.node (o78 P) (.node (o150 P) .nil .nil) (.node (o216 P) .nil .nil)) (.node (o116 P) (.node (o182 P) .nil .nil) (.node (o248 P) .nil .nil))) (.node (o59 P) (.node (o100 P) (.node (o166 P) .nil .nil) (.node (o232 P) .nil .nil)) (.node (o132 P) (.node (o198 P) .nil .nil) .nil))))) (.node (boot_o_5 P) (.node (boot_o_9 P) (.node (o8 P) (.node (o27 P) (.node (o68 P) (.node (o140 P) .nil .nil) (.node (o206 P) .nil .nil)) (.node (o106 P) (.node (o172 P) .nil .nil) (.node (o238 P) .nil .nil))) (.node (o46 P) (.node (o87 P) (.node (o156 P) .nil .nil) (.node (o222 P) .nil .nil)) (.node (o122 P) (.node (o188 P) .nil .nil) .nil))) (.node (o16 P) (.node (o38 P) (.node (o76 P) (.node (o148 P) .nil .nil) (.node (o214 P) .nil .nil)) (.node (o114 P) (.node (o180 P) .nil .nil) (.node (o246 P) .nil .nil))) (.node (o57 P) (.node (o98 P) (.node (o164 P) .nil .nil) (.node (o230 P) .nil .nil)) (.node (o130 P) (.node (o196 P) .nil .nil) .nil)))) (.node (o2 P) (.node (o12 P) (.node (o31 P) (.node (o72 P) (.node (o144 P) .nil .nil) (.node (o210 P) .nil .nil)) (.node (o110 P) (.node (o176 P) .nil .nil) (.node (o242 P) .nil .nil))) (.node (o53 P) (.node (o91 P) (.node (o160 P) .nil .nil) (.node (o226 P) .nil .nil)) (.node (o126 P) (.node (o192 P) .nil .nil) .nil))) (.node (o23 P) (.node (o42 P) (.node (o83 P) (.node (o152 P) .nil .nil) (.node (o218 P) .nil .nil)) (.node (o118 P) (.node (o184 P) .nil .nil) (.node (o250 P) .nil .nil))) (.node (o61 P) (.node (o102 P) (.node (o168 P) .nil .nil) (.node (o234 P) .nil .nil)) (.node (o134 P) (.node (o202 P) .nil .nil) .nil)))))) (.node (boot_o_2 P) (.node (boot_o_4 P) (.node (boot_o_8 P) (.node (o7 P) (.node (o26 P) (.node (o67 P) (.node (o139 P) .nil .nil) (.node (o205 P) .nil .nil)) (.node (o105 P) (.node (o171 P) .nil .nil) (.node (o237 P) .nil .nil))) (.node (o45 P) (.node (o86 P) (.node (o155 P) .nil .nil) (.node (o221 P) .nil .nil)) (.node (o121 P) (.node (o187 P) .nil .nil) .nil))) (.node (o96 P) (.node (o37 P) (.node (o75 P) (.node (o147 P) .nil .nil) (.node (o213 P) .nil .nil)) (.node (o113 P) (.node (o179 P) .nil .nil) (.node (o245 P) .nil .nil))) (.node (o56 P) (.node (o97 P) (.node (o163 P) .nil .nil) (.node (o229 P) .nil .nil)) (.node (o129 P) (.node (o195 P) .nil .nil) .nil)))) (.node (o200 P) (.node (o11 P) (.node (o30 P) (.node (o71 P) (.node (o143 P) .nil .nil) (.node (o209 P) .nil .nil)) (.node (o109 P) (.node (o175 P) .nil .nil) (.node (o241 P) .nil .nil))) (.node (o52 P) (.node (o90 P) (.node (o159 P) .nil .nil) (.node (o225 P) .nil .nil)) (.node (o125 P) (.node (o191 P) .nil .nil) .nil))) (.node (o22 P) (.node (o41 P) (.node (o82 P) (.node (o151 P) .nil .nil) (.node (o217 P) .nil .nil)) (.node (o117 P) (.node (o183 P) .nil .nil) (.node (o249 P) .nil .nil))) (.node (o60 P) (.node (o101 P) (.node (o167 P) .nil .nil) (.node (o233 P) .nil .nil)) (.node (o133 P) (.node (o201 P) .nil .nil) .nil))))) (.node (boot_o_6 P) (.node (boot_o_10 P) (.node (o9 P) (.node (o28 P) (.node (o69 P) (.node (o141 P) .nil .nil) (.node (o207 P) .nil .nil)) (.node (o107 P) (.node (o173 P) .nil .nil) (.node (o239 P) .nil .nil))) (.node (o47 P) (.node (o88 P) (.node (o157 P) .nil .nil) (.node (o223 P) .nil .nil)) (.node (o123 P) (.node (o189 P) .nil .nil) .nil))) (.node (o17 P) (.node (o39 P) (.node (o77 P) (.node (o149 P) .nil .nil) (.node (o215 P) .nil .nil)) (.node (o115 P) (.node (o181 P) .nil .nil) (.node (o247 P) .nil .nil))) (.node (o58 P) (.node (o99 P) (.node (o165 P) .nil .nil) (.node (o231 P) .nil .nil)) (.node (o131 P) (.node (o197 P) .nil .nil) .nil)))) (.node (o3 P) (.node (o13 P) (.node (o32 P) (.node (o73 P) (.node (o145 P) .nil .nil) (.node (o211 P) .nil .nil)) (.node (o111 P) (.node (o177 P) .nil .nil) (.node (o243 P) .nil .nil))) (.node (o54 P) (.node (o92 P) (.node (o161 P) .nil .nil) (.node (o227 P) .nil .nil)) (.node (o127 P) (.node (o193 P) .nil .nil) .nil))) (.node (o24 P) (.node (o43 P) (.node (o84 P) (.node (o153 P) .nil .nil) (.node (o219 P) .nil .nil)) (.node (o119 P) (.node (o185 P) .nil .nil) (.node (o251 P) .nil .nil))) (.node (o62 P) (.node (o103 P) (.node (o169 P) .nil .nil) (.node (o235 P) .nil .nil)) (.node (o137 P) (.node (o203 P) .nil .nil) .nil)))))))
noncomputable def T8 (w : World) (os : OsState) : SharedT := SharedT.mk (t8 w.params) 240 (PySem.Life.mk [] [] [] 0 [] [] false ⟨[]⟩ [] 0 false false false 0 [2000, 10, 10] false 0 true [] [] 0 false) ⟨[]⟩ (PySem.Drawn.mk 0 0 0 0) 510 os
noncomputable def sts8 : List Stmt := [s32, s33, s34]
theorem pc8 : ∀ w : World, (fun os => segRunT treeTable pg w m0 ann 1 387 (T7 w os) (piecesOf sts8 en cE (Pos.mk 91 0 91 8) [topFrame qE])) = fun os => some (Flow.next, T8 w os, cE, (Pos.mk 133 0 136 12)) := fun w => by rewrite [PySem.W.Fast.te10110043849684766642, PySem.W.Fast.te14364793385576792824]; kernel_rfl
noncomputable def o253 (P : Params) : Obj := (PySem.Obj.mk (.type "dict") none (.dict ⟨[(PySem.DictEntry.mk (PySem.PyData.keyHash P "__name__") (.str "__name__" 165) (.str "law_uf060015_04" 500)), (PySem.DictEntry.mk (PySem.PyData.keyHash P "__doc__") (.str "__doc__" 166) .none), (PySem.DictEntry.mk (PySem.PyData.keyHash P "__package__") (.str "__package__" 167) .none), (PySem.DictEntry.mk (PySem.PyData.keyHash P "__loader__") (.str "__loader__" 168) (.builtin "__main__.__loader__#opaque")), (PySem.DictEntry.mk (PySem.PyData.keyHash P "__spec__") (.str "__spec__" 169) .none), (PySem.DictEntry.mk (PySem.PyData.keyHash P "__annotations__") (.str "__annotations__" 170) (.ref 6)), (PySem.DictEntry.mk (PySem.PyData.keyHash P "__builtins__") (.str "__builtins__" 171) (.ref 4)), (PySem.DictEntry.mk (PySem.PyData.keyHash P "__file__") (.str "__file__" 173) (.str "/claim/cut.py" 172)), (PySem.DictEntry.mk (PySem.PyData.keyHash P "__cached__") (.str "__cached__" 174) .none), (PySem.DictEntry.mk (PySem.PyData.keyHash P "TableError") (.str "TableError" 206) (.ref 24)), (PySem.DictEntry.mk (PySem.PyData.keyHash P "NoTable") (.str "NoTable" 222) (.ref 37)), (PySem.DictEntry.mk (PySem.PyData.keyHash P "NoSign") (.str "NoSign" 238) (.ref 49)), (PySem.DictEntry.mk (PySem.PyData.keyHash P "NoHand") (.str "NoHand" 254) (.ref 61)), (PySem.DictEntry.mk (PySem.PyData.keyHash P "NoSaying") (.str "NoSaying" 270) (.ref 73)), (PySem.DictEntry.mk (PySem.PyData.keyHash P "Over") (.str "Over" 286) (.ref 85)), (PySem.DictEntry.mk (PySem.PyData.keyHash P "NotOver") (.str "NotOver" 302) (.ref 97)), (PySem.DictEntry.mk (PySem.PyData.keyHash P "LEAST_HANDS") (.str "LEAST_HANDS" 306) (.int 2 305)), (PySem.DictEntry.mk (PySem.PyData.keyHash P "MOST_HANDS") (.str "MOST_HANDS" 308) (.int 10 307)), (PySem.DictEntry.mk (PySem.PyData.keyHash P "MOST_LIARS") (.str "MOST_LIARS" 310) (.int 2 309)), (PySem.DictEntry.mk (PySem.PyData.keyHash P "MOST_LETTERS") (.str "MOST_LETTERS" 312) (.int 8 311)), (PySem.DictEntry.mk (PySem.PyData.keyHash P "LETTERS") (.str "LETTERS" 314) (.str "abcdefghijklmnopqrstuvwxyz" 313)), (PySem.DictEntry.mk (PySem.PyData.keyHash P "is_within") (.str "is_within" 323) (.ref 106)), (PySem.DictEntry.mk (PySem.PyData.keyHash P "is_sign") (.str "is_sign" 329) (.ref 111)), (PySem.DictEntry.mk (PySem.PyData.keyHash P "need_table") (.str "need_table" 337) (.ref 118)), (PySem.DictEntry.mk (PySem.PyData.keyHash P "need_sign") (.str "need_sign" 344) (.ref 125)), (PySem.DictEntry.mk (PySem.PyData.keyHash P "need_hand") (.str "need_hand" 352) (.ref 132)), (PySem.DictEntry.mk (PySem.PyData.keyHash P "need_liars") (.str "need_liars" 362) (.ref 139)), (PySem.DictEntry.mk (PySem.PyData.keyHash P "hearers") (.str "hearers" 370) (.ref 144)), (PySem.DictEntry.mk (PySem.PyData.keyHash P "longer_paths") (.str "longer_paths" 381) (.ref 151)), (PySem.DictEntry.mk (PySem.PyData.keyHash P "paths") (.str "paths" 387) (.ref 156)), (PySem.DictEntry.mk (PySem.PyData.keyHash P "paths_of") (.str "paths_of" 393) (.ref 161)), (PySem.DictEntry.mk (PySem.PyData.keyHash P "is_saying") (.str "is_saying" 401) (.ref 166)), (PySem.DictEntry.mk (PySem.PyData.keyHash P "need_lies") (.str "need_lies" 412) (.ref 173)), (PySem.DictEntry.mk (PySem.PyData.keyHash P "vote") (.str "vote" 422) (.ref 180)), (PySem.DictEntry.mk (PySem.PyData.keyHash P "settled") (.str "settled" 435) (.ref 187)), (PySem.DictEntry.mk (PySem.PyData.keyHash P "Table") (.str "Table" 499) (.ref 228)), (PySem.DictEntry.mk (PySem.PyData.keyHash P "_law_cell_at") (.str "_law_cell_at" 509) (.ref 239)), (PySem.DictEntry.mk (PySem.PyData.keyHash P "_law_whole") (.str "_law_whole" 516) (.ref 246)), (PySem.DictEntry.mk (PySem.PyData.keyHash P "_law_signs") (.str "_law_signs" 531) (.ref 253)), (PySem.DictEntry.mk (PySem.PyData.keyHash P "_law_table") (.str "_law_table" 539) (.ref 260)), (PySem.DictEntry.mk (PySem.PyData.keyHash P "_law_paths") (.str "_law_paths" 545) (.ref 265)), (PySem.DictEntry.mk (PySem.PyData.keyHash P "_law_liars") (.str "_law_liars" 557) (.ref 272)), (PySem.DictEntry.mk (PySem.PyData.keyHash P "_law_mixed") (.str "_law_mixed" 567) (.ref 279)), (PySem.DictEntry.mk (PySem.PyData.keyHash P "_law_lie") (.str "_law_lie" 579) (.ref 286)), (PySem.DictEntry.mk (PySem.PyData.keyHash P "_law_lies") (.str "_law_lies" 585) (.ref 291)), (PySem.DictEntry.mk (PySem.PyData.keyHash P "_law_play") (.str "_law_play" 591) (.ref 296)), (PySem.DictEntry.mk (PySem.PyData.keyHash P "_law_of") (.str "_law_of" 602) (.ref 303)), (PySem.DictEntry.mk (PySem.PyData.keyHash P "_law_same") (.str "_law_same" 610) (.ref 310)), (PySem.DictEntry.mk (PySem.PyData.keyHash P "_law_told") (.str "_law_told" 616) (.ref 315))]⟩ 49) ⟨[]⟩)
noncomputable def o254 (P : Params) : Obj := (PySem.Obj.mk .none none (.fields ⟨[(.int 2 0), (.int 0 0), (.ref 20), (.int 4 0), (.int 0 0), (.ref 33), (.int 6 0), (.int 0 0), (.ref 45), (.int 8 0), (.int 0 0), (.ref 57), (.int 10 0), (.int 0 0), (.ref 69), (.int 12 0), (.int 0 0), (.ref 81), (.int 14 0), (.int 0 0), (.ref 93), (.int 22 0), (.int 0 0), (.ref 105), (.int 24 0), (.int 0 0), (.ref 110), (.int 28 0), (.int 0 0), (.ref 117), (.int 31 0), (.int 0 0), (.ref 124), (.int 34 0), (.int 0 0), (.ref 131), (.int 37 0), (.int 0 0), (.ref 138), (.int 45 0), (.int 0 0), (.ref 143), (.int 47 0), (.int 0 0), (.ref 150), (.int 53 0), (.int 0 0), (.ref 155), (.int 62 0), (.int 0 0), (.ref 160), (.int 65 0), (.int 0 0), (.ref 165), (.int 71 0), (.int 0 0), (.ref 172), (.int 78 0), (.int 0 0), (.ref 179), (.int 83 0), (.int 0 0), (.ref 186), (.int 92 0), (.int 0 0), (.ref 193), (.int 133 0), (.int 0 0), (.ref 238), (.int 137 0), (.int 0 0), (.ref 245), (.int 139 0), (.int 0 0), (.ref 252), (.int 153 0), (.int 0 0), (.ref 259), (.int 156 0), (.int 0 0), (.ref 264), (.int 161 0), (.int 0 0), (.ref 271), (.int 169 0), (.int 0 0), (.ref 278), (.int 173 0), (.int 0 0), (.ref 285), (.int 182 0), (.int 0 0), (.ref 290), (.int 193 0), (.int 0 0), (.ref 295), (.int 203 0), (.int 0 0), (.ref 302), (.int 209 0), (.int 0 0), (.ref 309), (.int 213 0), (.int 0 0), (.ref 314)]⟩) ⟨[]⟩)
noncomputable def o255 (P : Params) : Obj := (PySem.Obj.mk (.type "tuple") none (.seq ⟨[]⟩ 0) ⟨[]⟩)
noncomputable def o256 (P : Params) : Obj := (PySem.Obj.mk .none none (.fields ⟨[]⟩) ⟨[]⟩)
noncomputable def o257 (P : Params) : Obj := (PySem.Obj.mk (.type "tuple") none (.seq ⟨[(.str "_law_found" 513)]⟩ 0) ⟨[]⟩)
noncomputable def o258 (P : Params) : Obj := (PySem.Obj.mk (.type "tuple") none (.seq ⟨[]⟩ 0) ⟨[]⟩)
noncomputable def o259 (P : Params) : Obj := (PySem.Obj.mk .none none (.func (PySem.FuncData.mk "_law_whole" "_law_whole" pa__law_whole (.stmts bd__law_whole) sc__law_whole 0 [] .none .none .none .none none .none .none 0)) ⟨[]⟩)
noncomputable def o260 (P : Params) : Obj := (PySem.Obj.mk (.type "code") none (.fields ⟨[(.str "_law_whole" 510), (.str "_law_whole" 511), (.str "/claim/cut.py" 512), (.int 137 0), (.int 1 0), (.int 0 0), (.int 0 0), (.int 3 0), (.ref 240), (.bool true), (.int 181 0), (.ref 241), .none, (.ref 242), (.ref 243), (.ref 244), (.int 514 0), (.int 137 0), (.str "/claim/cut.py" 515)]⟩) ⟨[]⟩)
noncomputable def o261 (P : Params) : Obj := (PySem.Obj.mk (.type "function") none (.func (PySem.FuncData.mk "_law_whole" "_law_whole" pa__law_whole (.stmts bd__law_whole) sc__law_whole 3 [] .none .none .none (.str "law_uf060015_04" 500) none (.ref 245) .none 0)) ⟨[]⟩)
noncomputable def o262 (P : Params) : Obj := (PySem.Obj.mk (.type "tuple") none (.seq ⟨[]⟩ 0) ⟨[]⟩)
noncomputable def o263 (P : Params) : Obj := (PySem.Obj.mk .none none (.fields ⟨[]⟩) ⟨[]⟩)
noncomputable def o264 (P : Params) : Obj := (PySem.Obj.mk (.type "tuple") none (.seq ⟨[(.str "_law_cell" 520), (.str "_law_letters" 521), (.str "_law_size" 522), (.str "_law_found" 523), (.str "_law_k" 524), (.str "_law_sign" 525), (.str "_law_place" 526), (.str "_law_ahead" 527), (.str "_law_behind" 528)]⟩ 0) ⟨[]⟩)
noncomputable def o265 (P : Params) : Obj := (PySem.Obj.mk (.type "tuple") none (.seq ⟨[]⟩ 0) ⟨[]⟩)
noncomputable def o266 (P : Params) : Obj := (PySem.Obj.mk .none none (.func (PySem.FuncData.mk "_law_signs" "_law_signs" pa__law_signs (.stmts bd__law_signs) sc__law_signs 0 [] .none .none .none .none none .none .none 0)) ⟨[]⟩)
noncomputable def o267 (P : Params) : Obj := (PySem.Obj.mk (.type "code") none (.fields ⟨[(.str "_law_signs" 517), (.str "_law_signs" 518), (.str "/claim/cut.py" 519), (.int 139 0), (.int 1 0), (.int 0 0), (.int 0 0), (.int 3 0), (.ref 247), (.bool true), (.int 181 0), (.ref 248), .none, (.ref 249), (.ref 250), (.ref 251), (.int 529 0), (.int 139 0), (.str "/claim/cut.py" 530)]⟩) ⟨[]⟩)
noncomputable def o268 (P : Params) : Obj := (PySem.Obj.mk (.type "function") none (.func (PySem.FuncData.mk "_law_signs" "_law_signs" pa__law_signs (.stmts bd__law_signs) sc__law_signs 3 [] .none .none .none (.str "law_uf060015_04" 500) none (.ref 252) .none 0)) ⟨[]⟩)
noncomputable def o269 (P : Params) : Obj := (PySem.Obj.mk (.type "tuple") none (.seq ⟨[]⟩ 0) ⟨[]⟩)
noncomputable def o270 (P : Params) : Obj := (PySem.Obj.mk .none none (.fields ⟨[]⟩) ⟨[]⟩)
noncomputable def o271 (P : Params) : Obj := (PySem.Obj.mk (.type "tuple") none (.seq ⟨[(.str "_law_cell" 535), (.str "_law_most" 536)]⟩ 0) ⟨[]⟩)
noncomputable def o272 (P : Params) : Obj := (PySem.Obj.mk (.type "tuple") none (.seq ⟨[]⟩ 0) ⟨[]⟩)
noncomputable def o273 (P : Params) : Obj := (PySem.Obj.mk .none none (.func (PySem.FuncData.mk "_law_table" "_law_table" pa__law_table (.stmts bd__law_table) sc__law_table 0 [] .none .none .none .none none .none .none 0)) ⟨[]⟩)
noncomputable def o274 (P : Params) : Obj := (PySem.Obj.mk (.type "code") none (.fields ⟨[(.str "_law_table" 532), (.str "_law_table" 533), (.str "/claim/cut.py" 534), (.int 153 0), (.int 1 0), (.int 0 0), (.int 0 0), (.int 3 0), (.ref 254), (.bool true), (.int 181 0), (.ref 255), .none, (.ref 256), (.ref 257), (.ref 258), (.int 537 0), (.int 153 0), (.str "/claim/cut.py" 538)]⟩) ⟨[]⟩)
noncomputable def o275 (P : Params) : Obj := (PySem.Obj.mk (.type "function") none (.func (PySem.FuncData.mk "_law_table" "_law_table" pa__law_table (.stmts bd__law_table) sc__law_table 3 [] .none .none .none (.str "law_uf060015_04" 500) none (.ref 259) .none 0)) ⟨[]⟩)
noncomputable def o276 (P : Params) : Obj := (PySem.Obj.mk (.type "tuple") none (.seq ⟨[]⟩ 0) ⟨[]⟩)
noncomputable def o277 (P : Params) : Obj := (PySem.Obj.mk .none none (.fields ⟨[]⟩) ⟨[]⟩)
noncomputable def o278 (P : Params) : Obj := (PySem.Obj.mk .none none (.func (PySem.FuncData.mk "_law_paths" "_law_paths" pa__law_paths (.stmts bd__law_paths) sc__law_paths 0 [] .none .none .none .none none .none .none 0)) ⟨[]⟩)
noncomputable def o279 (P : Params) : Obj := (PySem.Obj.mk (.type "code") none (.fields ⟨[(.str "_law_paths" 540), (.str "_law_paths" 541), (.str "/claim/cut.py" 542), (.int 156 0), (.int 2 0), (.int 0 0), (.int 0 0), (.int 3 0), (.ref 261), (.bool true), (.int 181 0), (.ref 262), .none, .none, .none, (.ref 263), (.int 543 0), (.int 156 0), (.str "/claim/cut.py" 544)]⟩) ⟨[]⟩)
noncomputable def o280 (P : Params) : Obj := (PySem.Obj.mk (.type "function") none (.func (PySem.FuncData.mk "_law_paths" "_law_paths" pa__law_paths (.stmts bd__law_paths) sc__law_paths 3 [] .none .none .none (.str "law_uf060015_04" 500) none (.ref 264) .none 0)) ⟨[]⟩)
noncomputable def o281 (P : Params) : Obj := (PySem.Obj.mk (.type "tuple") none (.seq ⟨[]⟩ 0) ⟨[]⟩)
noncomputable def o282 (P : Params) : Obj := (PySem.Obj.mk .none none (.fields ⟨[]⟩) ⟨[]⟩)
noncomputable def o283 (P : Params) : Obj := (PySem.Obj.mk (.type "tuple") none (.seq ⟨[(.str "_law_cell" 549), (.str "_law_hands" 550), (.str "_law_many" 551), (.str "_law_found" 552), (.str "_law_k" 553), (.str "_law_hand" 554)]⟩ 0) ⟨[]⟩)
noncomputable def o284 (P : Params) : Obj := (PySem.Obj.mk (.type "tuple") none (.seq ⟨[]⟩ 0) ⟨[]⟩)
noncomputable def o285 (P : Params) : Obj := (PySem.Obj.mk .none none (.func (PySem.FuncData.mk "_law_liars" "_law_liars" pa__law_liars (.stmts bd__law_liars) sc__law_liars 0 [] .none .none .none .none none .none .none 0)) ⟨[]⟩)
noncomputable def o286 (P : Params) : Obj := (PySem.Obj.mk (.type "code") none (.fields ⟨[(.str "_law_liars" 546), (.str "_law_liars" 547), (.str "/claim/cut.py" 548), (.int 161 0), (.int 3 0), (.int 0 0), (.int 0 0), (.int 3 0), (.ref 266), (.bool true), (.int 181 0), (.ref 267), .none, (.ref 268), (.ref 269), (.ref 270), (.int 555 0), (.int 161 0), (.str "/claim/cut.py" 556)]⟩) ⟨[]⟩)
noncomputable def o287 (P : Params) : Obj := (PySem.Obj.mk (.type "function") none (.func (PySem.FuncData.mk "_law_liars" "_law_liars" pa__law_liars (.stmts bd__law_liars) sc__law_liars 3 [] .none .none .none (.str "law_uf060015_04" 500) none (.ref 271) .none 0)) ⟨[]⟩)
noncomputable def o288 (P : Params) : Obj := (PySem.Obj.mk (.type "tuple") none (.seq ⟨[]⟩ 0) ⟨[]⟩)
noncomputable def o289 (P : Params) : Obj := (PySem.Obj.mk .none none (.fields ⟨[]⟩) ⟨[]⟩)
noncomputable def o290 (P : Params) : Obj := (PySem.Obj.mk (.type "tuple") none (.seq ⟨[(.str "_law_script" 561), (.str "_law_k" 562), (.str "_law_cell" 563), (.str "_law_mixed_here" 564)]⟩ 0) ⟨[]⟩)
noncomputable def o291 (P : Params) : Obj := (PySem.Obj.mk (.type "tuple") none (.seq ⟨[]⟩ 0) ⟨[]⟩)
noncomputable def o292 (P : Params) : Obj := (PySem.Obj.mk .none none (.func (PySem.FuncData.mk "_law_mixed" "_law_mixed" pa__law_mixed (.stmts bd__law_mixed) sc__law_mixed 0 [] .none .none .none .none none .none .none 0)) ⟨[]⟩)
noncomputable def o293 (P : Params) : Obj := (PySem.Obj.mk (.type "code") none (.fields ⟨[(.str "_law_mixed" 558), (.str "_law_mixed" 559), (.str "/claim/cut.py" 560), (.int 169 0), (.int 2 0), (.int 0 0), (.int 0 0), (.int 3 0), (.ref 273), (.bool true), (.int 181 0), (.ref 274), .none, (.ref 275), (.ref 276), (.ref 277), (.int 565 0), (.int 169 0), (.str "/claim/cut.py" 566)]⟩) ⟨[]⟩)
noncomputable def o294 (P : Params) : Obj := (PySem.Obj.mk (.type "function") none (.func (PySem.FuncData.mk "_law_mixed" "_law_mixed" pa__law_mixed (.stmts bd__law_mixed) sc__law_mixed 3 [] .none .none .none (.str "law_uf060015_04" 500) none (.ref 278) .none 0)) ⟨[]⟩)
noncomputable def o295 (P : Params) : Obj := (PySem.Obj.mk (.type "tuple") none (.seq ⟨[]⟩ 0) ⟨[]⟩)
noncomputable def o296 (P : Params) : Obj := (PySem.Obj.mk .none none (.fields ⟨[]⟩) ⟨[]⟩)
noncomputable def o297 (P : Params) : Obj := (PySem.Obj.mk (.type "tuple") none (.seq ⟨[(.str "_law_script" 571), (.str "_law_signs_here" 572), (.str "_law_path" 573), (.str "_law_hearer" 574), (.str "_law_k" 575), (.str "_law_way" 576)]⟩ 0) ⟨[]⟩)
noncomputable def o298 (P : Params) : Obj := (PySem.Obj.mk (.type "tuple") none (.seq ⟨[]⟩ 0) ⟨[]⟩)
noncomputable def o299 (P : Params) : Obj := (PySem.Obj.mk .none none (.func (PySem.FuncData.mk "_law_lie" "_law_lie" pa__law_lie (.stmts bd__law_lie) sc__law_lie 0 [] .none .none .none .none none .none .none 0)) ⟨[]⟩)
noncomputable def o300 (P : Params) : Obj := (PySem.Obj.mk (.type "code") none (.fields ⟨[(.str "_law_lie" 568), (.str "_law_lie" 569), (.str "/claim/cut.py" 570), (.int 173 0), (.int 5 0), (.int 0 0), (.int 0 0), (.int 3 0), (.ref 280), (.bool true), (.int 181 0), (.ref 281), .none, (.ref 282), (.ref 283), (.ref 284), (.int 577 0), (.int 173 0), (.str "/claim/cut.py" 578)]⟩) ⟨[]⟩)
noncomputable def o301 (P : Params) : Obj := (PySem.Obj.mk (.type "function") none (.func (PySem.FuncData.mk "_law_lie" "_law_lie" pa__law_lie (.stmts bd__law_lie) sc__law_lie 3 [] .none .none .none (.str "law_uf060015_04" 500) none (.ref 285) .none 0)) ⟨[]⟩)
noncomputable def o302 (P : Params) : Obj := (PySem.Obj.mk (.type "tuple") none (.seq ⟨[]⟩ 0) ⟨[]⟩)
noncomputable def o303 (P : Params) : Obj := (PySem.Obj.mk .none none (.fields ⟨[]⟩) ⟨[]⟩)
noncomputable def o304 (P : Params) : Obj := (PySem.Obj.mk .none none (.func (PySem.FuncData.mk "_law_lies" "_law_lies" pa__law_lies (.stmts bd__law_lies) sc__law_lies 0 [] .none .none .none .none none .none .none 0)) ⟨[]⟩)
noncomputable def o305 (P : Params) : Obj := (PySem.Obj.mk (.type "code") none (.fields ⟨[(.str "_law_lies" 580), (.str "_law_lies" 581), (.str "/claim/cut.py" 582), (.int 182 0), (.int 5 0), (.int 0 0), (.int 0 0), (.int 3 0), (.ref 287), (.bool true), (.int 181 0), (.ref 288), .none, .none, .none, (.ref 289), (.int 583 0), (.int 182 0), (.str "/claim/cut.py" 584)]⟩) ⟨[]⟩)
noncomputable def o306 (P : Params) : Obj := (PySem.Obj.mk (.type "function") none (.func (PySem.FuncData.mk "_law_lies" "_law_lies" pa__law_lies (.stmts bd__law_lies) sc__law_lies 3 [] .none .none .none (.str "law_uf060015_04" 500) none (.ref 290) .none 0)) ⟨[]⟩)
noncomputable def o307 (P : Params) : Obj := (PySem.Obj.mk (.type "tuple") none (.seq ⟨[]⟩ 0) ⟨[]⟩)
noncomputable def o308 (P : Params) : Obj := (PySem.Obj.mk .none none (.fields ⟨[]⟩) ⟨[]⟩)
noncomputable def o309 (P : Params) : Obj := (PySem.Obj.mk .none none (.func (PySem.FuncData.mk "_law_play" "_law_play" pa__law_play (.stmts bd__law_play) sc__law_play 0 [] .none .none .none .none none .none .none 0)) ⟨[]⟩)
noncomputable def o310 (P : Params) : Obj := (PySem.Obj.mk (.type "code") none (.fields ⟨[(.str "_law_play" 586), (.str "_law_play" 587), (.str "/claim/cut.py" 588), (.int 193 0), (.int 4 0), (.int 0 0), (.int 0 0), (.int 3 0), (.ref 292), (.bool true), (.int 181 0), (.ref 293), .none, .none, .none, (.ref 294), (.int 589 0), (.int 193 0), (.str "/claim/cut.py" 590)]⟩) ⟨[]⟩)
noncomputable def o311 (P : Params) : Obj := (PySem.Obj.mk (.type "function") none (.func (PySem.FuncData.mk "_law_play" "_law_play" pa__law_play (.stmts bd__law_play) sc__law_play 3 [] .none .none .none (.str "law_uf060015_04" 500) none (.ref 295) .none 0)) ⟨[]⟩)
noncomputable def o312 (P : Params) : Obj := (PySem.Obj.mk (.type "tuple") none (.seq ⟨[]⟩ 0) ⟨[]⟩)
noncomputable def o313 (P : Params) : Obj := (PySem.Obj.mk .none none (.fields ⟨[]⟩) ⟨[]⟩)
noncomputable def o314 (P : Params) : Obj := (PySem.Obj.mk (.type "tuple") none (.seq ⟨[(.str "_law_lies_here" 595), (.str "_law_size" 596), (.str "_law_found" 597), (.str "_law_path" 598), (.str "_law_hearer" 599)]⟩ 0) ⟨[]⟩)
noncomputable def o315 (P : Params) : Obj := (PySem.Obj.mk (.type "tuple") none (.seq ⟨[]⟩ 0) ⟨[]⟩)
noncomputable def o316 (P : Params) : Obj := (PySem.Obj.mk .none none (.func (PySem.FuncData.mk "_law_of" "_law_of" pa__law_of (.stmts bd__law_of) sc__law_of 0 [] .none .none .none .none none .none .none 0)) ⟨[]⟩)
noncomputable def o317 (P : Params) : Obj := (PySem.Obj.mk (.type "code") none (.fields ⟨[(.str "_law_of" 592), (.str "_law_of" 593), (.str "/claim/cut.py" 594), (.int 203 0), (.int 2 0), (.int 0 0), (.int 0 0), (.int 3 0), (.ref 297), (.bool true), (.int 181 0), (.ref 298), .none, (.ref 299), (.ref 300), (.ref 301), (.int 600 0), (.int 203 0), (.str "/claim/cut.py" 601)]⟩) ⟨[]⟩)
noncomputable def o318 (P : Params) : Obj := (PySem.Obj.mk (.type "function") none (.func (PySem.FuncData.mk "_law_of" "_law_of" pa__law_of (.stmts bd__law_of) sc__law_of 3 [] .none .none .none (.str "law_uf060015_04" 500) none (.ref 302) .none 0)) ⟨[]⟩)
noncomputable def o319 (P : Params) : Obj := (PySem.Obj.mk (.type "tuple") none (.seq ⟨[]⟩ 0) ⟨[]⟩)
noncomputable def o320 (P : Params) : Obj := (PySem.Obj.mk .none none (.fields ⟨[]⟩) ⟨[]⟩)
noncomputable def o321 (P : Params) : Obj := (PySem.Obj.mk (.type "tuple") none (.seq ⟨[(.str "_law_found" 606), (.str "_law_due" 607)]⟩ 0) ⟨[]⟩)
noncomputable def o322 (P : Params) : Obj := (PySem.Obj.mk (.type "tuple") none (.seq ⟨[]⟩ 0) ⟨[]⟩)
noncomputable def o323 (P : Params) : Obj := (PySem.Obj.mk .none none (.func (PySem.FuncData.mk "_law_same" "_law_same" pa__law_same (.stmts bd__law_same) sc__law_same 0 [] .none .none .none .none none .none .none 0)) ⟨[]⟩)
noncomputable def o324 (P : Params) : Obj := (PySem.Obj.mk (.type "code") none (.fields ⟨[(.str "_law_same" 603), (.str "_law_same" 604), (.str "/claim/cut.py" 605), (.int 209 0), (.int 2 0), (.int 0 0), (.int 0 0), (.int 3 0), (.ref 304), (.bool true), (.int 181 0), (.ref 305), .none, (.ref 306), (.ref 307), (.ref 308), (.int 608 0), (.int 209 0), (.str "/claim/cut.py" 609)]⟩) ⟨[]⟩)
noncomputable def o325 (P : Params) : Obj := (PySem.Obj.mk (.type "function") none (.func (PySem.FuncData.mk "_law_same" "_law_same" pa__law_same (.stmts bd__law_same) sc__law_same 3 [] .none .none .none (.str "law_uf060015_04" 500) none (.ref 309) .none 0)) ⟨[]⟩)
noncomputable def o326 (P : Params) : Obj := (PySem.Obj.mk (.type "tuple") none (.seq ⟨[]⟩ 0) ⟨[]⟩)
noncomputable def o327 (P : Params) : Obj := (PySem.Obj.mk .none none (.fields ⟨[]⟩) ⟨[]⟩)
noncomputable def o328 (P : Params) : Obj := (PySem.Obj.mk .none none (.func (PySem.FuncData.mk "_law_told" "_law_told" pa__law_told (.stmts bd__law_told) sc__law_told 0 [] .none .none .none .none none .none .none 0)) ⟨[]⟩)
noncomputable def o329 (P : Params) : Obj := (PySem.Obj.mk (.type "code") none (.fields ⟨[(.str "_law_told" 611), (.str "_law_told" 612), (.str "/claim/cut.py" 613), (.int 213 0), (.int 2 0), (.int 0 0), (.int 0 0), (.int 3 0), (.ref 311), (.bool true), (.int 181 0), (.ref 312), .none, .none, .none, (.ref 313), (.int 614 0), (.int 213 0), (.str "/claim/cut.py" 615)]⟩) ⟨[]⟩)
noncomputable def o330 (P : Params) : Obj := (PySem.Obj.mk (.type "function") none (.func (PySem.FuncData.mk "_law_told" "_law_told" pa__law_told (.stmts bd__law_told) sc__law_told 3 [] .none .none .none (.str "law_uf060015_04" 500) none (.ref 314) .none 0)) ⟨[]⟩)
noncomputable def t9 (P : Params) : BT := (.node (boot_o_0 P) (.node (boot_o_1 P) (.node (o253 P) (.node (boot_o_7 P) (.node (o6 P) (.node (o25 P) (.node (o63 P) (.node (o138 P) (.node (o270 P) .nil .nil) .nil) (.node (o204 P) .nil .nil)) (.node (o104 P) (.node (o170 P) (.node (o302 P) .nil .nil) .nil) (.node (o236 P) .nil .nil))) (.node (o44 P) (.node (o85 P) (.node (o154 P) (.node (o286 P) .nil .nil) .nil) (.node (o220 P) .nil .nil)) (.node (o120 P) (.node (o186 P) (.node (o318 P) .nil .nil) .nil) (.node (o252 P) .nil .nil)))) (.node (o14 P) (.node (o33 P) (.node (o74 P) (.node (o146 P) (.node (o278 P) .nil .nil) .nil) (.node (o212 P) .nil .nil)) (.node (o112 P) (.node (o178 P) (.node (o310 P) .nil .nil) .nil) (.node (o244 P) .nil .nil))) (.node (o55 P) (.node (o93 P) (.node (o162 P) (.node (o294 P) .nil .nil) .nil) (.node (o228 P) .nil .nil)) (.node (o128 P) (.node (o194 P) (.node (o326 P) .nil .nil) .nil) (.node (o262 P) .nil .nil))))) (.node (o0 P) (.node (o10 P) (.node (o29 P) (.node (o70 P) (.node (o142 P) (.node (o274 P) .nil .nil) .nil) (.node (o208 P) .nil .nil)) (.node (o108 P) (.node (o174 P) (.node (o306 P) .nil .nil) .nil) (.node (o240 P) .nil .nil))) (.node (o48 P) (.node (o89 P) (.node (o158 P) (.node (o290 P) .nil .nil) .nil) (.node (o224 P) .nil .nil)) (.node (o124 P) (.node (o190 P) (.node (o322 P) .nil .nil) .nil) (.node (o258 P) .nil .nil)))) (.node (o18 P) (.node (o40 P) (.node (o78 P) (.node (o150 P) (.node (o282 P) .nil .nil) .nil) (.node (o216 P) .nil .nil)) (.node (o116 P) (.node (o182 P) (.node (o314 P) .nil .nil) .nil) (.node (o248 P) .nil .nil))) (.node (o59 P) (.node (o100 P) (.node (o166 P) (.node (o298 P) .nil .nil) .nil) (.node (o232 P) .nil .nil)) (.node (o132 P) (.node (o198 P) (.node (o330 P) .nil .nil) .nil) (.node (o266 P) .nil .nil)))))) (.node (boot_o_5 P) (.node (boot_o_9 P) (.node (o8 P) (.node (o27 P) (.node (o68 P) (.node (o140 P) (.node (o272 P) .nil .nil) .nil) (.node (o206 P) .nil .nil)) (.node (o106 P) (.node (o172 P) (.node (o304 P) .nil .nil) .nil) (.node (o238 P) .nil .nil))) (.node (o46 P) (.node (o87 P) (.node (o156 P) (.node (o288 P) .nil .nil) .nil) (.node (o222 P) .nil .nil)) (.node (o122 P) (.node (o188 P) (.node (o320 P) .nil .nil) .nil) (.node (o256 P) .nil .nil)))) (.node (o16 P) (.node (o38 P) (.node (o76 P) (.node (o148 P) (.node (o280 P) .nil .nil) .nil) (.node (o214 P) .nil .nil)) (.node (o114 P) (.node (o180 P) (.node (o312 P) .nil .nil) .nil) (.node (o246 P) .nil .nil))) (.node (o57 P) (.node (o98 P) (.node (o164 P) (.node (o296 P) .nil .nil) .nil) (.node (o230 P) .nil .nil)) (.node (o130 P) (.node (o196 P) (.node (o328 P) .nil .nil) .nil) (.node (o264 P) .nil .nil))))) (.node (o2 P) (.node (o12 P) (.node (o31 P) (.node (o72 P) (.node (o144 P) (.node (o276 P) .nil .nil) .nil) (.node (o210 P) .nil .nil)) (.node (o110 P) (.node (o176 P) (.node (o308 P) .nil .nil) .nil) (.node (o242 P) .nil .nil))) (.node (o53 P) (.node (o91 P) (.node (o160 P) (.node (o292 P) .nil .nil) .nil) (.node (o226 P) .nil .nil)) (.node (o126 P) (.node (o192 P) (.node (o324 P) .nil .nil) .nil) (.node (o260 P) .nil .nil)))) (.node (o23 P) (.node (o42 P) (.node (o83 P) (.node (o152 P) (.node (o284 P) .nil .nil) .nil) (.node (o218 P) .nil .nil)) (.node (o118 P) (.node (o184 P) (.node (o316 P) .nil .nil) .nil) (.node (o250 P) .nil .nil))) (.node (o61 P) (.node (o102 P) (.node (o168 P) (.node (o300 P) .nil .nil) .nil) (.node (o234 P) .nil .nil)) (.node (o134 P) (.node (o202 P) .nil .nil) (.node (o268 P) .nil .nil))))))) (.node (boot_o_2 P) (.node (boot_o_4 P) (.node (boot_o_8 P) (.node (o7 P) (.node (o26 P) (.node (o67 P) (.node (o139 P) (.node (o271 P) .nil .nil) .nil) (.node (o205 P) .nil .nil)) (.node (o105 P) (.node (o171 P) (.node (o303 P) .nil .nil) .nil) (.node (o237 P) .nil .nil))) (.node (o45 P) (.node (o86 P) (.node (o155 P) (.node (o287 P) .nil .nil) .nil) (.node (o221 P) .nil .nil)) (.node (o121 P) (.node (o187 P) (.node (o319 P) .nil .nil) .nil) (.node (o255 P) .nil .nil)))) (.node (o96 P) (.node (o37 P) (.node (o75 P) (.node (o147 P) (.node (o279 P) .nil .nil) .nil) (.node (o213 P) .nil .nil)) (.node (o113 P) (.node (o179 P) (.node (o311 P) .nil .nil) .nil) (.node (o245 P) .nil .nil))) (.node (o56 P) (.node (o97 P) (.node (o163 P) (.node (o295 P) .nil .nil) .nil) (.node (o229 P) .nil .nil)) (.node (o129 P) (.node (o195 P) (.node (o327 P) .nil .nil) .nil) (.node (o263 P) .nil .nil))))) (.node (o254 P) (.node (o11 P) (.node (o30 P) (.node (o71 P) (.node (o143 P) (.node (o275 P) .nil .nil) .nil) (.node (o209 P) .nil .nil)) (.node (o109 P) (.node (o175 P) (.node (o307 P) .nil .nil) .nil) (.node (o241 P) .nil .nil))) (.node (o52 P) (.node (o90 P) (.node (o159 P) (.node (o291 P) .nil .nil) .nil) (.node (o225 P) .nil .nil)) (.node (o125 P) (.node (o191 P) (.node (o323 P) .nil .nil) .nil) (.node (o259 P) .nil .nil)))) (.node (o22 P) (.node (o41 P) (.node (o82 P) (.node (o151 P) (.node (o283 P) .nil .nil) .nil) (.node (o217 P) .nil .nil)) (.node (o117 P) (.node (o183 P) (.node (o315 P) .nil .nil) .nil) (.node (o249 P) .nil .nil))) (.node (o60 P) (.node (o101 P) (.node (o167 P) (.node (o299 P) .nil .nil) .nil) (.node (o233 P) .nil .nil)) (.node (o133 P) (.node (o201 P) .nil .nil) (.node (o267 P) .nil .nil)))))) (.node (boot_o_6 P) (.node (boot_o_10 P) (.node (o9 P) (.node (o28 P) (.node (o69 P) (.node (o141 P) (.node (o273 P) .nil .nil) .nil) (.node (o207 P) .nil .nil)) (.node (o107 P) (.node (o173 P) (.node (o305 P) .nil .nil) .nil) (.node (o239 P) .nil .nil))) (.node (o47 P) (.node (o88 P) (.node (o157 P) (.node (o289 P) .nil .nil) .nil) (.node (o223 P) .nil .nil)) (.node (o123 P) (.node (o189 P) (.node (o321 P) .nil .nil) .nil) (.node (o257 P) .nil .nil)))) (.node (o17 P) (.node (o39 P) (.node (o77 P) (.node (o149 P) (.node (o281 P) .nil .nil) .nil) (.node (o215 P) .nil .nil)) (.node (o115 P) (.node (o181 P) (.node (o313 P) .nil .nil) .nil) (.node (o247 P) .nil .nil))) (.node (o58 P) (.node (o99 P) (.node (o165 P) (.node (o297 P) .nil .nil) .nil) (.node (o231 P) .nil .nil)) (.node (o131 P) (.node (o197 P) (.node (o329 P) .nil .nil) .nil) (.node (o265 P) .nil .nil))))) (.node (o3 P) (.node (o13 P) (.node (o32 P) (.node (o73 P) (.node (o145 P) (.node (o277 P) .nil .nil) .nil) (.node (o211 P) .nil .nil)) (.node (o111 P) (.node (o177 P) (.node (o309 P) .nil .nil) .nil) (.node (o243 P) .nil .nil))) (.node (o54 P) (.node (o92 P) (.node (o161 P) (.node (o293 P) .nil .nil) .nil) (.node (o227 P) .nil .nil)) (.node (o127 P) (.node (o193 P) (.node (o325 P) .nil .nil) .nil) (.node (o261 P) .nil .nil)))) (.node (o24 P) (.node (o43 P) (.node (o84 P) (.node (o153 P) (.node (o285 P) .nil .nil) .nil) (.node (o219 P) .nil .nil)) (.node (o119 P) (.node (o185 P) (.node (o317 P) .nil .nil) .nil) (.node (o251 P) .nil .nil))) (.node (o62 P) (.node (o103 P) (.node (o169 P) (.node (o301 P) .nil .nil) .nil) (.node (o235 P) .nil .nil)) (.node (o137 P) (.node (o203 P) .nil .nil) (.node (o269 P) .nil .nil))))))))
noncomputable def T9 (w : World) (os : OsState) : SharedT := SharedT.mk (t9 w.params) 316 (PySem.Life.mk [] [] [] 0 [] [] false ⟨[]⟩ [] 0 false false false 0 [2000, 10, 10] false 0 true [] [] 0 false) ⟨[]⟩ (PySem.Drawn.mk 0 0 0 0) 617 os
noncomputable def sts9 : List Stmt := [s35, s36, s37, s38, s39, s40, s41, s42, s43, s44, s45, s46]
theorem pc9 : ∀ w : World, (fun os => segRunT treeTable pg w m0 ann 1 364 (T8 w os) (piecesOf sts9 en cE (Pos.mk 133 0 136 12) [topFrame qE])) = fun os => some (Flow.next, T9 w os, cE, (Pos.mk 213 0 216 103)) := fun w => by rewrite [PySem.W.Fast.te10110043849684766642, PySem.W.Fast.te14364793385576792824]; kernel_rfl
noncomputable def o331 (P : Params) : Obj := (PySem.Obj.mk (.type "dict") none (.dict ⟨[(PySem.DictEntry.mk (PySem.PyData.keyHash P "__name__") (.str "__name__" 165) (.str "law_uf060015_04" 500)), (PySem.DictEntry.mk (PySem.PyData.keyHash P "__doc__") (.str "__doc__" 166) .none), (PySem.DictEntry.mk (PySem.PyData.keyHash P "__package__") (.str "__package__" 167) .none), (PySem.DictEntry.mk (PySem.PyData.keyHash P "__loader__") (.str "__loader__" 168) (.builtin "__main__.__loader__#opaque")), (PySem.DictEntry.mk (PySem.PyData.keyHash P "__spec__") (.str "__spec__" 169) .none), (PySem.DictEntry.mk (PySem.PyData.keyHash P "__annotations__") (.str "__annotations__" 170) (.ref 6)), (PySem.DictEntry.mk (PySem.PyData.keyHash P "__builtins__") (.str "__builtins__" 171) (.ref 4)), (PySem.DictEntry.mk (PySem.PyData.keyHash P "__file__") (.str "__file__" 173) (.str "/claim/cut.py" 172)), (PySem.DictEntry.mk (PySem.PyData.keyHash P "__cached__") (.str "__cached__" 174) .none), (PySem.DictEntry.mk (PySem.PyData.keyHash P "TableError") (.str "TableError" 206) (.ref 24)), (PySem.DictEntry.mk (PySem.PyData.keyHash P "NoTable") (.str "NoTable" 222) (.ref 37)), (PySem.DictEntry.mk (PySem.PyData.keyHash P "NoSign") (.str "NoSign" 238) (.ref 49)), (PySem.DictEntry.mk (PySem.PyData.keyHash P "NoHand") (.str "NoHand" 254) (.ref 61)), (PySem.DictEntry.mk (PySem.PyData.keyHash P "NoSaying") (.str "NoSaying" 270) (.ref 73)), (PySem.DictEntry.mk (PySem.PyData.keyHash P "Over") (.str "Over" 286) (.ref 85)), (PySem.DictEntry.mk (PySem.PyData.keyHash P "NotOver") (.str "NotOver" 302) (.ref 97)), (PySem.DictEntry.mk (PySem.PyData.keyHash P "LEAST_HANDS") (.str "LEAST_HANDS" 306) (.int 2 305)), (PySem.DictEntry.mk (PySem.PyData.keyHash P "MOST_HANDS") (.str "MOST_HANDS" 308) (.int 10 307)), (PySem.DictEntry.mk (PySem.PyData.keyHash P "MOST_LIARS") (.str "MOST_LIARS" 310) (.int 2 309)), (PySem.DictEntry.mk (PySem.PyData.keyHash P "MOST_LETTERS") (.str "MOST_LETTERS" 312) (.int 8 311)), (PySem.DictEntry.mk (PySem.PyData.keyHash P "LETTERS") (.str "LETTERS" 314) (.str "abcdefghijklmnopqrstuvwxyz" 313)), (PySem.DictEntry.mk (PySem.PyData.keyHash P "is_within") (.str "is_within" 323) (.ref 106)), (PySem.DictEntry.mk (PySem.PyData.keyHash P "is_sign") (.str "is_sign" 329) (.ref 111)), (PySem.DictEntry.mk (PySem.PyData.keyHash P "need_table") (.str "need_table" 337) (.ref 118)), (PySem.DictEntry.mk (PySem.PyData.keyHash P "need_sign") (.str "need_sign" 344) (.ref 125)), (PySem.DictEntry.mk (PySem.PyData.keyHash P "need_hand") (.str "need_hand" 352) (.ref 132)), (PySem.DictEntry.mk (PySem.PyData.keyHash P "need_liars") (.str "need_liars" 362) (.ref 139)), (PySem.DictEntry.mk (PySem.PyData.keyHash P "hearers") (.str "hearers" 370) (.ref 144)), (PySem.DictEntry.mk (PySem.PyData.keyHash P "longer_paths") (.str "longer_paths" 381) (.ref 151)), (PySem.DictEntry.mk (PySem.PyData.keyHash P "paths") (.str "paths" 387) (.ref 156)), (PySem.DictEntry.mk (PySem.PyData.keyHash P "paths_of") (.str "paths_of" 393) (.ref 161)), (PySem.DictEntry.mk (PySem.PyData.keyHash P "is_saying") (.str "is_saying" 401) (.ref 166)), (PySem.DictEntry.mk (PySem.PyData.keyHash P "need_lies") (.str "need_lies" 412) (.ref 173)), (PySem.DictEntry.mk (PySem.PyData.keyHash P "vote") (.str "vote" 422) (.ref 180)), (PySem.DictEntry.mk (PySem.PyData.keyHash P "settled") (.str "settled" 435) (.ref 187)), (PySem.DictEntry.mk (PySem.PyData.keyHash P "Table") (.str "Table" 499) (.ref 228)), (PySem.DictEntry.mk (PySem.PyData.keyHash P "_law_cell_at") (.str "_law_cell_at" 509) (.ref 239)), (PySem.DictEntry.mk (PySem.PyData.keyHash P "_law_whole") (.str "_law_whole" 516) (.ref 246)), (PySem.DictEntry.mk (PySem.PyData.keyHash P "_law_signs") (.str "_law_signs" 531) (.ref 253)), (PySem.DictEntry.mk (PySem.PyData.keyHash P "_law_table") (.str "_law_table" 539) (.ref 260)), (PySem.DictEntry.mk (PySem.PyData.keyHash P "_law_paths") (.str "_law_paths" 545) (.ref 265)), (PySem.DictEntry.mk (PySem.PyData.keyHash P "_law_liars") (.str "_law_liars" 557) (.ref 272)), (PySem.DictEntry.mk (PySem.PyData.keyHash P "_law_mixed") (.str "_law_mixed" 567) (.ref 279)), (PySem.DictEntry.mk (PySem.PyData.keyHash P "_law_lie") (.str "_law_lie" 579) (.ref 286)), (PySem.DictEntry.mk (PySem.PyData.keyHash P "_law_lies") (.str "_law_lies" 585) (.ref 291)), (PySem.DictEntry.mk (PySem.PyData.keyHash P "_law_play") (.str "_law_play" 591) (.ref 296)), (PySem.DictEntry.mk (PySem.PyData.keyHash P "_law_of") (.str "_law_of" 602) (.ref 303)), (PySem.DictEntry.mk (PySem.PyData.keyHash P "_law_same") (.str "_law_same" 610) (.ref 310)), (PySem.DictEntry.mk (PySem.PyData.keyHash P "_law_told") (.str "_law_told" 616) (.ref 315)), (PySem.DictEntry.mk (PySem.PyData.keyHash P "_law_stands") (.str "_law_stands" 632) (.ref 322)), (PySem.DictEntry.mk (PySem.PyData.keyHash P "law") (.str "law" 638) (.ref 327))]⟩ 51) ⟨[]⟩)
noncomputable def o332 (P : Params) : Obj := (PySem.Obj.mk .none none (.fields ⟨[(.int 2 0), (.int 0 0), (.ref 20), (.int 4 0), (.int 0 0), (.ref 33), (.int 6 0), (.int 0 0), (.ref 45), (.int 8 0), (.int 0 0), (.ref 57), (.int 10 0), (.int 0 0), (.ref 69), (.int 12 0), (.int 0 0), (.ref 81), (.int 14 0), (.int 0 0), (.ref 93), (.int 22 0), (.int 0 0), (.ref 105), (.int 24 0), (.int 0 0), (.ref 110), (.int 28 0), (.int 0 0), (.ref 117), (.int 31 0), (.int 0 0), (.ref 124), (.int 34 0), (.int 0 0), (.ref 131), (.int 37 0), (.int 0 0), (.ref 138), (.int 45 0), (.int 0 0), (.ref 143), (.int 47 0), (.int 0 0), (.ref 150), (.int 53 0), (.int 0 0), (.ref 155), (.int 62 0), (.int 0 0), (.ref 160), (.int 65 0), (.int 0 0), (.ref 165), (.int 71 0), (.int 0 0), (.ref 172), (.int 78 0), (.int 0 0), (.ref 179), (.int 83 0), (.int 0 0), (.ref 186), (.int 92 0), (.int 0 0), (.ref 193), (.int 133 0), (.int 0 0), (.ref 238), (.int 137 0), (.int 0 0), (.ref 245), (.int 139 0), (.int 0 0), (.ref 252), (.int 153 0), (.int 0 0), (.ref 259), (.int 156 0), (.int 0 0), (.ref 264), (.int 161 0), (.int 0 0), (.ref 271), (.int 169 0), (.int 0 0), (.ref 278), (.int 173 0), (.int 0 0), (.ref 285), (.int 182 0), (.int 0 0), (.ref 290), (.int 193 0), (.int 0 0), (.ref 295), (.int 203 0), (.int 0 0), (.ref 302), (.int 209 0), (.int 0 0), (.ref 309), (.int 213 0), (.int 0 0), (.ref 314), (.int 217 0), (.int 0 0), (.ref 321), (.int 232 0), (.int 0 0), (.ref 326)]⟩) ⟨[]⟩)
noncomputable def o333 (P : Params) : Obj := (PySem.Obj.mk (.type "tuple") none (.seq ⟨[]⟩ 0) ⟨[]⟩)
noncomputable def o334 (P : Params) : Obj := (PySem.Obj.mk .none none (.fields ⟨[]⟩) ⟨[]⟩)
noncomputable def o335 (P : Params) : Obj := (PySem.Obj.mk (.type "tuple") none (.seq ⟨[(.str "_law_table_here" 620), (.str "_law_ears" 621), (.str "_law_size" 622), (.str "_law_turn" 623), (.str "_law_held" 624), (.str "_law_hands" 625), (.str "_law_hand" 626), (.str "_law_due" 627), (.str "_law_path" 628), (.str "_law_found" 629)]⟩ 0) ⟨[]⟩)
noncomputable def o336 (P : Params) : Obj := (PySem.Obj.mk (.type "tuple") none (.seq ⟨[]⟩ 0) ⟨[]⟩)
noncomputable def o337 (P : Params) : Obj := (PySem.Obj.mk .none none (.func (PySem.FuncData.mk "_law_stands" "_law_stands" pa__law_stands (.stmts bd__law_stands) sc__law_stands 0 [] .none .none .none .none none .none .none 0)) ⟨[]⟩)
noncomputable def o338 (P : Params) : Obj := (PySem.Obj.mk (.type "code") none (.fields ⟨[(.str "_law_stands" 617), (.str "_law_stands" 618), (.str "/claim/cut.py" 619), (.int 217 0), (.int 5 0), (.int 0 0), (.int 0 0), (.int 3 0), (.ref 316), (.bool true), (.int 181 0), (.ref 317), .none, (.ref 318), (.ref 319), (.ref 320), (.int 630 0), (.int 217 0), (.str "/claim/cut.py" 631)]⟩) ⟨[]⟩)
noncomputable def o339 (P : Params) : Obj := (PySem.Obj.mk (.type "function") none (.func (PySem.FuncData.mk "_law_stands" "_law_stands" pa__law_stands (.stmts bd__law_stands) sc__law_stands 3 [] .none .none .none (.str "law_uf060015_04" 500) none (.ref 321) .none 0)) ⟨[]⟩)
noncomputable def o340 (P : Params) : Obj := (PySem.Obj.mk (.type "tuple") none (.seq ⟨[]⟩ 0) ⟨[]⟩)
noncomputable def o341 (P : Params) : Obj := (PySem.Obj.mk .none none (.fields ⟨[]⟩) ⟨[]⟩)
noncomputable def o342 (P : Params) : Obj := (PySem.Obj.mk .none none (.func (PySem.FuncData.mk "law" "law" pa_law (.stmts bd_law) sc_law 0 [] .none .none .none .none none .none .none 0)) ⟨[]⟩)
noncomputable def o343 (P : Params) : Obj := (PySem.Obj.mk (.type "code") none (.fields ⟨[(.str "law" 633), (.str "law" 634), (.str "/claim/cut.py" 635), (.int 232 0), (.int 1 0), (.int 0 0), (.int 0 0), (.int 3 0), (.ref 323), (.bool true), (.int 181 0), (.ref 324), .none, .none, .none, (.ref 325), (.int 636 0), (.int 232 0), (.str "/claim/cut.py" 637)]⟩) ⟨[]⟩)
noncomputable def o344 (P : Params) : Obj := (PySem.Obj.mk (.type "function") none (.func (PySem.FuncData.mk "law" "law" pa_law (.stmts bd_law) sc_law 3 [] .none .none .none (.str "law_uf060015_04" 500) none (.ref 326) .none 0)) ⟨[]⟩)
noncomputable def t10 (P : Params) : BT := (.node (boot_o_0 P) (.node (boot_o_1 P) (.node (o331 P) (.node (boot_o_7 P) (.node (o6 P) (.node (o25 P) (.node (o63 P) (.node (o138 P) (.node (o270 P) .nil .nil) .nil) (.node (o204 P) (.node (o336 P) .nil .nil) .nil)) (.node (o104 P) (.node (o170 P) (.node (o302 P) .nil .nil) .nil) (.node (o236 P) .nil .nil))) (.node (o44 P) (.node (o85 P) (.node (o154 P) (.node (o286 P) .nil .nil) .nil) (.node (o220 P) .nil .nil)) (.node (o120 P) (.node (o186 P) (.node (o318 P) .nil .nil) .nil) (.node (o252 P) .nil .nil)))) (.node (o14 P) (.node (o33 P) (.node (o74 P) (.node (o146 P) (.node (o278 P) .nil .nil) .nil) (.node (o212 P) (.node (o344 P) .nil .nil) .nil)) (.node (o112 P) (.node (o178 P) (.node (o310 P) .nil .nil) .nil) (.node (o244 P) .nil .nil))) (.node (o55 P) (.node (o93 P) (.node (o162 P) (.node (o294 P) .nil .nil) .nil) (.node (o228 P) .nil .nil)) (.node (o128 P) (.node (o194 P) (.node (o326 P) .nil .nil) .nil) (.node (o262 P) .nil .nil))))) (.node (o0 P) (.node (o10 P) (.node (o29 P) (.node (o70 P) (.node (o142 P) (.node (o274 P) .nil .nil) .nil) (.node (o208 P) (.node (o340 P) .nil .nil) .nil)) (.node (o108 P) (.node (o174 P) (.node (o306 P) .nil .nil) .nil) (.node (o240 P) .nil .nil))) (.node (o48 P) (.node (o89 P) (.node (o158 P) (.node (o290 P) .nil .nil) .nil) (.node (o224 P) .nil .nil)) (.node (o124 P) (.node (o190 P) (.node (o322 P) .nil .nil) .nil) (.node (o258 P) .nil .nil)))) (.node (o18 P) (.node (o40 P) (.node (o78 P) (.node (o150 P) (.node (o282 P) .nil .nil) .nil) (.node (o216 P) .nil .nil)) (.node (o116 P) (.node (o182 P) (.node (o314 P) .nil .nil) .nil) (.node (o248 P) .nil .nil))) (.node (o59 P) (.node (o100 P) (.node (o166 P) (.node (o298 P) .nil .nil) .nil) (.node (o232 P) .nil .nil)) (.node (o132 P) (.node (o198 P) (.node (o330 P) .nil .nil) .nil) (.node (o266 P) .nil .nil)))))) (.node (boot_o_5 P) (.node (boot_o_9 P) (.node (o8 P) (.node (o27 P) (.node (o68 P) (.node (o140 P) (.node (o272 P) .nil .nil) .nil) (.node (o206 P) (.node (o338 P) .nil .nil) .nil)) (.node (o106 P) (.node (o172 P) (.node (o304 P) .nil .nil) .nil) (.node (o238 P) .nil .nil))) (.node (o46 P) (.node (o87 P) (.node (o156 P) (.node (o288 P) .nil .nil) .nil) (.node (o222 P) .nil .nil)) (.node (o122 P) (.node (o188 P) (.node (o320 P) .nil .nil) .nil) (.node (o256 P) .nil .nil)))) (.node (o16 P) (.node (o38 P) (.node (o76 P) (.node (o148 P) (.node (o280 P) .nil .nil) .nil) (.node (o214 P) .nil .nil)) (.node (o114 P) (.node (o180 P) (.node (o312 P) .nil .nil) .nil) (.node (o246 P) .nil .nil))) (.node (o57 P) (.node (o98 P) (.node (o164 P) (.node (o296 P) .nil .nil) .nil) (.node (o230 P) .nil .nil)) (.node (o130 P) (.node (o196 P) (.node (o328 P) .nil .nil) .nil) (.node (o264 P) .nil .nil))))) (.node (o2 P) (.node (o12 P) (.node (o31 P) (.node (o72 P) (.node (o144 P) (.node (o276 P) .nil .nil) .nil) (.node (o210 P) (.node (o342 P) .nil .nil) .nil)) (.node (o110 P) (.node (o176 P) (.node (o308 P) .nil .nil) .nil) (.node (o242 P) .nil .nil))) (.node (o53 P) (.node (o91 P) (.node (o160 P) (.node (o292 P) .nil .nil) .nil) (.node (o226 P) .nil .nil)) (.node (o126 P) (.node (o192 P) (.node (o324 P) .nil .nil) .nil) (.node (o260 P) .nil .nil)))) (.node (o23 P) (.node (o42 P) (.node (o83 P) (.node (o152 P) (.node (o284 P) .nil .nil) .nil) (.node (o218 P) .nil .nil)) (.node (o118 P) (.node (o184 P) (.node (o316 P) .nil .nil) .nil) (.node (o250 P) .nil .nil))) (.node (o61 P) (.node (o102 P) (.node (o168 P) (.node (o300 P) .nil .nil) .nil) (.node (o234 P) .nil .nil)) (.node (o134 P) (.node (o202 P) (.node (o334 P) .nil .nil) .nil) (.node (o268 P) .nil .nil))))))) (.node (boot_o_2 P) (.node (boot_o_4 P) (.node (boot_o_8 P) (.node (o7 P) (.node (o26 P) (.node (o67 P) (.node (o139 P) (.node (o271 P) .nil .nil) .nil) (.node (o205 P) (.node (o337 P) .nil .nil) .nil)) (.node (o105 P) (.node (o171 P) (.node (o303 P) .nil .nil) .nil) (.node (o237 P) .nil .nil))) (.node (o45 P) (.node (o86 P) (.node (o155 P) (.node (o287 P) .nil .nil) .nil) (.node (o221 P) .nil .nil)) (.node (o121 P) (.node (o187 P) (.node (o319 P) .nil .nil) .nil) (.node (o255 P) .nil .nil)))) (.node (o96 P) (.node (o37 P) (.node (o75 P) (.node (o147 P) (.node (o279 P) .nil .nil) .nil) (.node (o213 P) .nil .nil)) (.node (o113 P) (.node (o179 P) (.node (o311 P) .nil .nil) .nil) (.node (o245 P) .nil .nil))) (.node (o56 P) (.node (o97 P) (.node (o163 P) (.node (o295 P) .nil .nil) .nil) (.node (o229 P) .nil .nil)) (.node (o129 P) (.node (o195 P) (.node (o327 P) .nil .nil) .nil) (.node (o263 P) .nil .nil))))) (.node (o332 P) (.node (o11 P) (.node (o30 P) (.node (o71 P) (.node (o143 P) (.node (o275 P) .nil .nil) .nil) (.node (o209 P) (.node (o341 P) .nil .nil) .nil)) (.node (o109 P) (.node (o175 P) (.node (o307 P) .nil .nil) .nil) (.node (o241 P) .nil .nil))) (.node (o52 P) (.node (o90 P) (.node (o159 P) (.node (o291 P) .nil .nil) .nil) (.node (o225 P) .nil .nil)) (.node (o125 P) (.node (o191 P) (.node (o323 P) .nil .nil) .nil) (.node (o259 P) .nil .nil)))) (.node (o22 P) (.node (o41 P) (.node (o82 P) (.node (o151 P) (.node (o283 P) .nil .nil) .nil) (.node (o217 P) .nil .nil)) (.node (o117 P) (.node (o183 P) (.node (o315 P) .nil .nil) .nil) (.node (o249 P) .nil .nil))) (.node (o60 P) (.node (o101 P) (.node (o167 P) (.node (o299 P) .nil .nil) .nil) (.node (o233 P) .nil .nil)) (.node (o133 P) (.node (o201 P) (.node (o333 P) .nil .nil) .nil) (.node (o267 P) .nil .nil)))))) (.node (boot_o_6 P) (.node (boot_o_10 P) (.node (o9 P) (.node (o28 P) (.node (o69 P) (.node (o141 P) (.node (o273 P) .nil .nil) .nil) (.node (o207 P) (.node (o339 P) .nil .nil) .nil)) (.node (o107 P) (.node (o173 P) (.node (o305 P) .nil .nil) .nil) (.node (o239 P) .nil .nil))) (.node (o47 P) (.node (o88 P) (.node (o157 P) (.node (o289 P) .nil .nil) .nil) (.node (o223 P) .nil .nil)) (.node (o123 P) (.node (o189 P) (.node (o321 P) .nil .nil) .nil) (.node (o257 P) .nil .nil)))) (.node (o17 P) (.node (o39 P) (.node (o77 P) (.node (o149 P) (.node (o281 P) .nil .nil) .nil) (.node (o215 P) .nil .nil)) (.node (o115 P) (.node (o181 P) (.node (o313 P) .nil .nil) .nil) (.node (o247 P) .nil .nil))) (.node (o58 P) (.node (o99 P) (.node (o165 P) (.node (o297 P) .nil .nil) .nil) (.node (o231 P) .nil .nil)) (.node (o131 P) (.node (o197 P) (.node (o329 P) .nil .nil) .nil) (.node (o265 P) .nil .nil))))) (.node (o3 P) (.node (o13 P) (.node (o32 P) (.node (o73 P) (.node (o145 P) (.node (o277 P) .nil .nil) .nil) (.node (o211 P) (.node (o343 P) .nil .nil) .nil)) (.node (o111 P) (.node (o177 P) (.node (o309 P) .nil .nil) .nil) (.node (o243 P) .nil .nil))) (.node (o54 P) (.node (o92 P) (.node (o161 P) (.node (o293 P) .nil .nil) .nil) (.node (o227 P) .nil .nil)) (.node (o127 P) (.node (o193 P) (.node (o325 P) .nil .nil) .nil) (.node (o261 P) .nil .nil)))) (.node (o24 P) (.node (o43 P) (.node (o84 P) (.node (o153 P) (.node (o285 P) .nil .nil) .nil) (.node (o219 P) .nil .nil)) (.node (o119 P) (.node (o185 P) (.node (o317 P) .nil .nil) .nil) (.node (o251 P) .nil .nil))) (.node (o62 P) (.node (o103 P) (.node (o169 P) (.node (o301 P) .nil .nil) .nil) (.node (o235 P) .nil .nil)) (.node (o137 P) (.node (o203 P) (.node (o335 P) .nil .nil) .nil) (.node (o269 P) .nil .nil))))))))
noncomputable def T10 (w : World) (os : OsState) : SharedT := SharedT.mk (t10 w.params) 328 (PySem.Life.mk [] [] [] 0 [] [] false ⟨[]⟩ [] 0 false false false 0 [2000, 10, 10] false 0 true [] [] 0 false) ⟨[]⟩ (PySem.Drawn.mk 0 0 0 0) 639 os
noncomputable def sts10 : List Stmt := [s47, s48]
theorem pc10 : ∀ w : World, (fun os => segRunT treeTable pg w m0 ann 1 65 (T9 w os) (piecesOf sts10 en cE (Pos.mk 213 0 216 103) [topFrame qE])) = fun os => some (Flow.next, T10 w os, cE, (Pos.mk 232 0 259 79)) := fun w => by rewrite [PySem.W.Fast.te10110043849684766642, PySem.W.Fast.te14364793385576792824]; kernel_rfl
noncomputable def hF (P : Params) : Heap := Heap.mk ⟨[boot_o_0 P, boot_o_1 P, boot_o_2 P, o331 P, boot_o_4 P, boot_o_5 P, boot_o_6 P, boot_o_7 P, boot_o_8 P, boot_o_9 P, boot_o_10 P, o0 P, o332 P, o2 P, o3 P, o6 P, o7 P, o8 P, o9 P, o10 P, o11 P, o12 P, o13 P, o14 P, o96 P, o16 P, o17 P, o18 P, o22 P, o23 P, o24 P, o25 P, o26 P, o27 P, o28 P, o29 P, o30 P, o31 P, o32 P, o33 P, o37 P, o38 P, o39 P, o40 P, o41 P, o42 P, o43 P, o44 P, o45 P, o46 P, o47 P, o48 P, o52 P, o53 P, o54 P, o55 P, o56 P, o57 P, o58 P, o59 P, o60 P, o61 P, o62 P, o63 P, o67 P, o68 P, o69 P, o70 P, o71 P, o72 P, o73 P, o74 P, o75 P, o76 P, o77 P, o78 P, o82 P, o83 P, o84 P, o85 P, o86 P, o87 P, o88 P, o89 P, o90 P, o91 P, o92 P, o93 P, o97 P, o98 P, o99 P, o100 P, o101 P, o102 P, o103 P, o104 P, o105 P, o106 P, o107 P, o108 P, o109 P, o110 P, o111 P, o112 P, o113 P, o114 P, o115 P, o116 P, o117 P, o118 P, o119 P, o120 P, o121 P, o122 P, o123 P, o124 P, o125 P, o126 P, o127 P, o128 P, o129 P, o130 P, o131 P, o132 P, o133 P, o134 P, o137 P, o138 P, o139 P, o140 P, o141 P, o142 P, o143 P, o144 P, o145 P, o146 P, o147 P, o148 P, o149 P, o150 P, o151 P, o152 P, o153 P, o154 P, o155 P, o156 P, o157 P, o158 P, o159 P, o160 P, o161 P, o162 P, o163 P, o164 P, o165 P, o166 P, o167 P, o168 P, o169 P, o170 P, o171 P, o172 P, o173 P, o174 P, o175 P, o176 P, o177 P, o178 P, o179 P, o180 P, o181 P, o182 P, o183 P, o184 P, o185 P, o186 P, o187 P, o188 P, o189 P, o190 P, o191 P, o192 P, o193 P, o194 P, o195 P, o196 P, o197 P, o198 P, o201 P, o202 P, o203 P, o204 P, o205 P, o206 P, o207 P, o208 P, o209 P, o210 P, o211 P, o212 P, o213 P, o214 P, o215 P, o216 P, o217 P, o218 P, o219 P, o220 P, o221 P, o222 P, o223 P, o224 P, o225 P, o226 P, o227 P, o228 P, o229 P, o230 P, o231 P, o232 P, o233 P, o234 P, o235 P, o236 P, o237 P, o238 P, o239 P, o240 P, o241 P, o242 P, o243 P, o244 P, o245 P, o246 P, o247 P, o248 P, o249 P, o250 P, o251 P, o252 P, o255 P, o256 P, o257 P, o258 P, o259 P, o260 P, o261 P, o262 P, o263 P, o264 P, o265 P, o266 P, o267 P, o268 P, o269 P, o270 P, o271 P, o272 P, o273 P, o274 P, o275 P, o276 P, o277 P, o278 P, o279 P, o280 P, o281 P, o282 P, o283 P, o284 P, o285 P, o286 P, o287 P, o288 P, o289 P, o290 P, o291 P, o292 P, o293 P, o294 P, o295 P, o296 P, o297 P, o298 P, o299 P, o300 P, o301 P, o302 P, o303 P, o304 P, o305 P, o306 P, o307 P, o308 P, o309 P, o310 P, o311 P, o312 P, o313 P, o314 P, o315 P, o316 P, o317 P, o318 P, o319 P, o320 P, o321 P, o322 P, o323 P, o324 P, o325 P, o326 P, o327 P, o328 P, o329 P, o330 P, o333 P, o334 P, o335 P, o336 P, o337 P, o338 P, o339 P, o340 P, o341 P, o342 P, o343 P, o344 P]⟩ (PySem.Life.mk [] [] [] 0 [] [] false ⟨[]⟩ [] 0 false false false 0 [2000, 10, 10] false 0 true [] [] 0 false)
noncomputable def SF (w : World) (os : OsState) : Shared := Shared.mk (hF w.params) ⟨[]⟩ (PySem.Drawn.mk 0 0 0 0) 639 os
theorem pc_fin : ∀ w : World, (fun os => topRun treeTable pg w m0 ann 2 ((T10 w os).abs) (Thread.mk (doneF Flow.next) cE (Pos.mk 232 0 259 79) [topFrame qE])) = fun os => some (SF w os) := fun w => by rewrite [PySem.W.Fast.te14082659384304107361, PySem.W.Fast.te14364793385576792824]; kernel_rfl
theorem b_eq : bE = (sts0 ++ (sts1 ++ (sts2 ++ (sts3 ++ (sts4 ++ (sts5 ++ (sts6 ++ (sts7 ++ (sts8 ++ (sts9 ++ (sts10 ++ []))))))))))) := by kernel_rfl
theorem rest_run (w : World) (os : OsState) : topRun treeTable pg w m0 ann (196 + (214 + (214 + (214 + (214 + (214 + (384 + (334 + (387 + (364 + (65 + 2))))))))))) ((TB w os).abs) (restOf (sts0 ++ (sts1 ++ (sts2 ++ (sts3 ++ (sts4 ++ (sts5 ++ (sts6 ++ (sts7 ++ (sts8 ++ (sts9 ++ (sts10 ++ []))))))))))) en cE (Pos.mk 0 0 0 0) [topFrame qE]) = some (SF w os) := (piece_app (segRun_of (congrFun (pc0 w) os)) (piece_app (segRun_of (congrFun (pc1 w) os)) (piece_app (segRun_of (congrFun (pc2 w) os)) (piece_app (segRun_of (congrFun (pc3 w) os)) (piece_app (segRun_of (congrFun (pc4 w) os)) (piece_app (segRun_of (congrFun (pc5 w) os)) (piece_app (segRun_of (congrFun (pc6 w) os)) (piece_app (segRun_of (congrFun (pc7 w) os)) (piece_app (segRun_of (congrFun (pc8 w) os)) (piece_app (segRun_of (congrFun (pc9 w) os)) (piece_app (segRun_of (congrFun (pc10 w) os)) (congrFun (pc_fin w) os))))))))))))
theorem run_eq (w : World) (os : OsState) : topRun treeTable pg w m0 ann (12 + (1 + (196 + (214 + (214 + (214 + (214 + (214 + (384 + (334 + (387 + (364 + (65 + 2))))))))))))) (S0 w os) (topStub pg) = some (SF w os) := go_top (congrFun (pc_pre w) os) (piece_block (congrFun (pc_block w) os) (b_eq ▸ rest_run w os))
noncomputable abbrev NN : Nat := 5704
noncomputable abbrev MM : Nat := (12 + (1 + (196 + (214 + (214 + (214 + (214 + (214 + (384 + (334 + (387 + (364 + (65 + 2)))))))))))))
noncomputable def K (P : Params) : Frag := [(2, boot_o_2 P), (3, o331 P), (15, o6 P), (22, o13 P), (23, o14 P), (24, o96 P), (25, o16 P), (28, o22 P), (35, o29 P), (36, o30 P), (37, o31 P), (40, o37 P), (47, o44 P), (48, o45 P), (49, o46 P), (52, o52 P), (59, o59 P), (60, o60 P), (61, o61 P), (64, o67 P), (71, o74 P), (72, o75 P), (73, o76 P), (76, o82 P), (83, o89 P), (84, o90 P), (85, o91 P), (88, o97 P), (95, o104 P), (96, o105 P), (97, o106 P), (100, o109 P), (102, o111 P), (103, o112 P), (105, o114 P), (106, o115 P), (107, o116 P), (110, o119 P), (111, o120 P), (112, o121 P), (114, o123 P), (115, o124 P), (117, o126 P), (118, o127 P), (119, o128 P), (121, o130 P), (122, o131 P), (124, o133 P), (125, o134 P), (126, o137 P), (128, o139 P), (129, o140 P), (131, o142 P), (132, o143 P), (133, o144 P), (135, o146 P), (136, o147 P), (138, o149 P), (139, o150 P), (140, o151 P), (143, o154 P), (144, o155 P), (145, o156 P), (147, o158 P), (148, o159 P), (150, o161 P), (151, o162 P), (152, o163 P), (155, o166 P), (156, o167 P), (157, o168 P), (160, o171 P), (161, o172 P), (162, o173 P), (165, o176 P), (166, o177 P), (167, o178 P), (169, o180 P), (170, o181 P), (172, o183 P), (173, o184 P), (174, o185 P), (176, o187 P), (177, o188 P), (179, o190 P), (180, o191 P), (181, o192 P), (183, o194 P), (184, o195 P), (186, o197 P), (187, o198 P), (195, o208 P), (198, o211 P), (199, o212 P), (200, o213 P), (202, o215 P), (203, o216 P), (205, o218 P), (206, o219 P), (207, o220 P), (210, o223 P), (211, o224 P), (212, o225 P), (214, o227 P), (215, o228 P), (217, o230 P), (218, o231 P), (219, o232 P), (221, o234 P), (222, o235 P), (224, o237 P), (225, o238 P), (226, o239 P), (227, o240 P), (228, o241 P), (229, o242 P), (230, o243 P), (233, o246 P), (235, o248 P), (236, o249 P), (238, o251 P), (239, o252 P), (240, o255 P), (242, o257 P), (243, o258 P), (245, o260 P), (246, o261 P), (247, o262 P), (249, o264 P), (250, o265 P), (252, o267 P), (253, o268 P), (254, o269 P), (256, o271 P), (257, o272 P), (259, o274 P), (260, o275 P), (261, o276 P), (264, o279 P), (265, o280 P), (266, o281 P), (268, o283 P), (269, o284 P), (271, o286 P), (272, o287 P), (273, o288 P), (275, o290 P), (276, o291 P), (278, o293 P), (279, o294 P), (280, o295 P), (282, o297 P), (283, o298 P), (285, o300 P), (286, o301 P), (287, o302 P), (290, o305 P), (291, o306 P), (292, o307 P), (295, o310 P), (296, o311 P), (297, o312 P), (299, o314 P), (300, o315 P), (302, o317 P), (303, o318 P), (304, o319 P), (306, o321 P), (307, o322 P), (309, o324 P), (310, o325 P), (311, o326 P), (314, o329 P), (315, o330 P), (316, o333 P), (318, o335 P), (319, o336 P), (321, o338 P), (322, o339 P), (323, o340 P), (326, o343 P), (327, o344 P)]
noncomputable def adrs : List Addr := [2, 3, 15, 22, 23, 24, 25, 28, 35, 36, 37, 40, 47, 48, 49, 52, 59, 60, 61, 64, 71, 72, 73, 76, 83, 84, 85, 88, 95, 96, 97, 100, 102, 103, 105, 106, 107, 110, 111, 112, 114, 115, 117, 118, 119, 121, 122, 124, 125, 126, 128, 129, 131, 132, 133, 135, 136, 138, 139, 140, 143, 144, 145, 147, 148, 150, 151, 152, 155, 156, 157, 160, 161, 162, 165, 166, 167, 169, 170, 172, 173, 174, 176, 177, 179, 180, 181, 183, 184, 186, 187, 195, 198, 199, 200, 202, 203, 205, 206, 207, 210, 211, 212, 214, 215, 217, 218, 219, 221, 222, 224, 225, 226, 227, 228, 229, 230, 233, 235, 236, 238, 239, 240, 242, 243, 245, 246, 247, 249, 250, 252, 253, 254, 256, 257, 259, 260, 261, 264, 265, 266, 268, 269, 271, 272, 273, 275, 276, 278, 279, 280, 282, 283, 285, 286, 287, 290, 291, 292, 295, 296, 297, 299, 300, 302, 303, 304, 306, 307, 309, 310, 311, 314, 315, 316, 318, 319, 321, 322, 323, 326, 327]
noncomputable abbrev gF : Array GenState := ⟨[]⟩
noncomputable abbrev dF : Drawn := (PySem.Drawn.mk 0 0 0 0)
noncomputable abbrev kF : Nat := 639
noncomputable def qv : Program := { pg with main := { pg.main with body := [s48] } }
noncomputable def loose : List Str := [Str.ofString "TableError", Str.ofString "NoTable", Str.ofString "NoSign", Str.ofString "NoHand", Str.ofString "NoSaying", Str.ofString "Over", Str.ofString "NotOver", Str.ofString "LEAST_HANDS", Str.ofString "MOST_HANDS", Str.ofString "MOST_LIARS", Str.ofString "MOST_LETTERS", Str.ofString "LETTERS", Str.ofString "is_within", Str.ofString "is_sign", Str.ofString "need_table", Str.ofString "need_sign", Str.ofString "need_hand", Str.ofString "need_liars", Str.ofString "hearers", Str.ofString "longer_paths", Str.ofString "paths", Str.ofString "paths_of", Str.ofString "is_saying", Str.ofString "need_lies", Str.ofString "vote", Str.ofString "settled", Str.ofString "Table", Str.ofString "_law_cell_at", Str.ofString "_law_whole", Str.ofString "_law_signs", Str.ofString "_law_table", Str.ofString "_law_paths", Str.ofString "_law_liars", Str.ofString "_law_mixed", Str.ofString "_law_lie", Str.ofString "_law_lies", Str.ofString "_law_play", Str.ofString "_law_of", Str.ofString "_law_same", Str.ofString "_law_told", Str.ofString "_law_stands"]

noncomputable abbrev lw : OpenLaw := PySem.Challenge.rw_uf060015_04
theorem open_eq : ∀ w : World, (fencedOpening treeTable pg w NN).map (fun s => (s.heap, s.gens, s.drawn, s.toks)) = some (boot_heap w.params, Array.mk [], boot_drawn, boot_toks) :=
  boot_open (by kernel_rfl) (by decide) (fun s => by rewrite [PySem.W.Fast.te14289696077712309145]; kernel_rfl)
theorem size_eq : ∀ w : World, ((boot_heap w.params).isNs mainGlobals && (Array.mk [] : Array GenState).size == 0, (boot_heap w.params).objs.size, (boot_heap w.params).nsMap mainGlobals "__annotations__") = (true, m0, ann) := fun w => by
  rewrite [PySem.W.Fast.te8920871248978507458]; kernel_rfl
noncomputable def HK : Hook := kHook K adrs (fun P => by kernel_rfl)
noncomputable abbrev Xt : Shared → Bool := fun s => xlAt qv [] s && recOk (RowW.records (OpenRow.toRowW lw.row)) s
theorem look1 (w : World) (os : OsState) : (staticsOk (importedModules pg.main.body) (boot_heap w.params) (hF w.params) && namesBound pg (hF w.params) && gensDone ⟨hF w.params, gF, dF, kF, os⟩ && laidKept (boot_heap w.params) (hF w.params)) = true := by
  rewrite [PySem.W.Fast.te5923862056798008813]; kernel_rfl
theorem look2 (w : World) (os : OsState) : openSeen qv loose (importedModules pg.main.body) Xt true ⟨hF w.params, gF, dF, kF, os⟩ = openGood qv loose := by
  rewrite [PySem.W.Fast.te4187177175401517315, PySem.W.Fast.te5923862056798008813]; kernel_rfl
theorem look3 (w : World) (os : OsState) : Hook.obs HK ⟨hF w.params, gF, dF, kF, os⟩ = Hook.val HK w := by kernel_rfl
theorem left_eq : LeftO lw.row.prog qv loose Xt (Hook.obs HK) (Hook.val HK) NN :=
  LeftO.of_pieces (H₀ := boot_heap) (H₁ := hF) (gs₀ := Array.mk []) (gs₁ := gF) (d₀ := boot_drawn) (d₁ := dF) (k₀ := boot_toks) (k₁ := kF) (m₀ := m0) (ann := ann) (M := MM) open_eq size_eq (fun w os => run_eq w os) (by decide) (fun w => funext fun os => looks_pair (look1 w os) (looks_pair (look2 w os) (look3 w os)))
noncomputable def dr0 : DefRec := ((defOf qv lw.row.name).get (by kernel_rfl)).1
theorem def_eq : defOf qv lw.row.name = some (dr0, []) := by kernel_rfl
theorem the_eq : lw.row.prog.theDef lw.row.name = some (dr0.params, dr0.body, dr0.scope) := by rewrite [PySem.W.Fast.te10235530238920679567]; kernel_rfl
theorem kw_eq : kwWritten? dr0.params.kwonlyargs dr0.params.kw_defaults = some [] := by kernel_rfl
theorem head (walk : WalkO qv loose (XL qv []) (Hook.says HK) lw.row.toRowW dr0 [] fun f vs => PySem.call f vs) : PySem.Challenge.rw_uf060015_04.Holds := by
  show lw.Holds
  refine holds_law (by decide +kernel) fun said => ?_
  refine holds_open (r := lw.row) (q := qv) (loose := loose) (Xt := Xt) (XP := XL qv []) (Yf := Hook.obs HK) (Ya := Hook.val HK) (YP := Hook.says HK) (N := NN) left_eq (Hook.of HK) (Hook.keeps HK) (fun s e => xl_of s (Bool.and_eq_true_iff.mp e).1) XL.keeps def_eq the_eq kw_eq (fun s e => recFacts_of (Bool.and_eq_true_iff.mp e).2) (by rfl) (by first | assumption | decide +kernel) (by decide +kernel) ⟨rfl, rfl, rfl, rfl, rfl, by decide +kernel⟩ ?hw walk
  case hw => exact ⟨[.list []], by decide +kernel, by decide +kernel⟩

end Mine.H

end

section
open PySem PySem.W Mine
namespace Mine
variable {g : Gx} {c : Cx g} {σ : Sto}
noncomputable abbrev KK (g : Gx) : Frag := H.K g.w.params
theorem rm {a n b k : Nat} (h : a + n < b) (e : Nat.ble k n = true) : a + k < b := Nat.lt_of_le_of_lt (Nat.add_le_add_left (Nat.le_of_ble_eq_true e) a) h
theorem rm0 {a n b : Nat} (h : a + n < b) : a < b := Nat.lt_of_le_of_lt (Nat.le_add_right a n) h
theorem rm3 {a n b m k : Nat} (h : a + n < b) (e : Nat.ble (m + k) n = true) : a + m + k < b := by rw [Nat.add_assoc]; exact rm h e
theorem lo {a b x : Int} (h : a ≤ x) (e : b ≤ a) : b ≤ x := Int.le_trans e h
theorem hi {a b x : Int} (h : x ≤ a) (e : a ≤ b) : x ≤ b := Int.le_trans h e
theorem nb_len : nsIn (KK g) mainGlobals "len" = some none := by kernel_rfl
theorem nb_range : nsIn (KK g) mainGlobals "range" = some none := by kernel_rfl
theorem nb_min : nsIn (KK g) mainGlobals "min" = some none := by kernel_rfl
theorem nb_sum : nsIn (KK g) mainGlobals "sum" = some none := by kernel_rfl
theorem nb_list : nsIn (KK g) mainGlobals "list" = some none := by kernel_rfl
theorem nb_dict : nsIn (KK g) mainGlobals "dict" = some none := by kernel_rfl
theorem nb_isinstance : nsIn (KK g) mainGlobals "isinstance" = some none := by kernel_rfl
theorem nb_all : nsIn (KK g) mainGlobals "all" = some none := by kernel_rfl
theorem nb_tuple : nsIn (KK g) mainGlobals "tuple" = some none := by kernel_rfl
theorem nb_str : nsIn (KK g) mainGlobals "str" = some none := by kernel_rfl
theorem nb_int : nsIn (KK g) mainGlobals "int" = some none := by kernel_rfl
theorem nb_bool : nsIn (KK g) mainGlobals "bool" = some none := by kernel_rfl
theorem g_LEAST_HANDS : nsIn (KK g) mainGlobals "LEAST_HANDS" = some (some (.int 2 305)) := by kernel_rfl
theorem g_MOST_HANDS : nsIn (KK g) mainGlobals "MOST_HANDS" = some (some (.int 10 307)) := by kernel_rfl
theorem g_MOST_LIARS : nsIn (KK g) mainGlobals "MOST_LIARS" = some (some (.int 2 309)) := by kernel_rfl
theorem g_MOST_LETTERS : nsIn (KK g) mainGlobals "MOST_LETTERS" = some (some (.int 8 311)) := by kernel_rfl
theorem g_LETTERS : nsIn (KK g) mainGlobals "LETTERS" = some (some (.str "abcdefghijklmnopqrstuvwxyz" 313)) := by kernel_rfl
theorem n_Table : nsIn (KK g) mainGlobals "Table" = some (some (.ref 228)) := by kernel_rfl
theorem kc_Table : keepIn (KK g) (.ref 228) = true := by kernel_rfl
theorem km_Table : makeOk (KK g) 228 199 = true := by kernel_rfl
theorem n_is_within : nsIn (KK g) mainGlobals "is_within" = some (some (.ref 106)) := by kernel_rfl
theorem k_is_within : fnOk (KK g) 106 = true := by kernel_rfl
theorem fn_is_within (T : TopG g (KK g)) : FnAt g 106 ["thing", "least", "most"] H.bd_is_within H.sc_is_within := fnAt_mk T.X T.nl k_is_within (by kernel_rfl) (by kernel_rfl) (fa3 fun _ _ _ => by kernel_rfl)
theorem n_is_sign : nsIn (KK g) mainGlobals "is_sign" = some (some (.ref 111)) := by kernel_rfl
theorem k_is_sign : fnOk (KK g) 111 = true := by kernel_rfl
theorem fn_is_sign (T : TopG g (KK g)) : FnAt g 111 ["thing"] H.bd_is_sign H.sc_is_sign := fnAt_mk T.X T.nl k_is_sign (by kernel_rfl) (by kernel_rfl) (fa1 fun _ => by kernel_rfl)
theorem n_need_table : nsIn (KK g) mainGlobals "need_table" = some (some (.ref 118)) := by kernel_rfl
theorem k_need_table : fnOk (KK g) 118 = true := by kernel_rfl
theorem fn_need_table (T : TopG g (KK g)) : FnAt g 118 ["hands", "most"] H.bd_need_table H.sc_need_table := fnAt_mk T.X T.nl k_need_table (by kernel_rfl) (by kernel_rfl) (fa2 fun _ _ => by kernel_rfl)
theorem n_need_sign : nsIn (KK g) mainGlobals "need_sign" = some (some (.ref 125)) := by kernel_rfl
theorem k_need_sign : fnOk (KK g) 125 = true := by kernel_rfl
theorem fn_need_sign (T : TopG g (KK g)) : FnAt g 125 ["thing"] H.bd_need_sign H.sc_need_sign := fnAt_mk T.X T.nl k_need_sign (by kernel_rfl) (by kernel_rfl) (fa1 fun _ => by kernel_rfl)
theorem n_need_hand : nsIn (KK g) mainGlobals "need_hand" = some (some (.ref 132)) := by kernel_rfl
theorem k_need_hand : fnOk (KK g) 132 = true := by kernel_rfl
theorem fn_need_hand (T : TopG g (KK g)) : FnAt g 132 ["hands", "thing"] H.bd_need_hand H.sc_need_hand := fnAt_mk T.X T.nl k_need_hand (by kernel_rfl) (by kernel_rfl) (fa2 fun _ _ => by kernel_rfl)
theorem n_need_liars : nsIn (KK g) mainGlobals "need_liars" = some (some (.ref 139)) := by kernel_rfl
theorem k_need_liars : fnOk (KK g) 139 = true := by kernel_rfl
theorem fn_need_liars (T : TopG g (KK g)) : FnAt g 139 ["hands", "liars"] H.bd_need_liars H.sc_need_liars := fnAt_mk T.X T.nl k_need_liars (by kernel_rfl) (by kernel_rfl) (fa2 fun _ _ => by kernel_rfl)
theorem n_hearers : nsIn (KK g) mainGlobals "hearers" = some (some (.ref 144)) := by kernel_rfl
theorem k_hearers : fnOk (KK g) 144 = true := by kernel_rfl
theorem fn_hearers (T : TopG g (KK g)) : FnAt g 144 ["hands", "path"] H.bd_hearers H.sc_hearers := fnAt_mk T.X T.nl k_hearers (by kernel_rfl) (by kernel_rfl) (fa2 fun _ _ => by kernel_rfl)
theorem n_longer_paths : nsIn (KK g) mainGlobals "longer_paths" = some (some (.ref 151)) := by kernel_rfl
theorem k_longer_paths : fnOk (KK g) 151 = true := by kernel_rfl
theorem fn_longer_paths (T : TopG g (KK g)) : FnAt g 151 ["hands", "row"] H.bd_longer_paths H.sc_longer_paths := fnAt_mk T.X T.nl k_longer_paths (by kernel_rfl) (by kernel_rfl) (fa2 fun _ _ => by kernel_rfl)
theorem n_paths : nsIn (KK g) mainGlobals "paths" = some (some (.ref 156)) := by kernel_rfl
theorem k_paths : fnOk (KK g) 156 = true := by kernel_rfl
theorem fn_paths (T : TopG g (KK g)) : FnAt g 156 ["hands", "most"] H.bd_paths H.sc_paths := fnAt_mk T.X T.nl k_paths (by kernel_rfl) (by kernel_rfl) (fa2 fun _ _ => by kernel_rfl)
theorem n_paths_of : nsIn (KK g) mainGlobals "paths_of" = some (some (.ref 161)) := by kernel_rfl
theorem k_paths_of : fnOk (KK g) 161 = true := by kernel_rfl
theorem fn_paths_of (T : TopG g (KK g)) : FnAt g 161 ["hands", "most", "size"] H.bd_paths_of H.sc_paths_of := fnAt_mk T.X T.nl k_paths_of (by kernel_rfl) (by kernel_rfl) (fa3 fun _ _ _ => by kernel_rfl)
theorem n_is_saying : nsIn (KK g) mainGlobals "is_saying" = some (some (.ref 166)) := by kernel_rfl
theorem k_is_saying : fnOk (KK g) 166 = true := by kernel_rfl
theorem fn_is_saying (T : TopG g (KK g)) : FnAt g 166 ["hands", "liars", "rows", "thing"] H.bd_is_saying H.sc_is_saying := fnAt_mk T.X T.nl k_is_saying (by kernel_rfl) (by kernel_rfl) (fa4 fun _ _ _ _ => by kernel_rfl)
theorem n_need_lies : nsIn (KK g) mainGlobals "need_lies" = some (some (.ref 173)) := by kernel_rfl
theorem k_need_lies : fnOk (KK g) 173 = true := by kernel_rfl
theorem fn_need_lies (T : TopG g (KK g)) : FnAt g 173 ["hands", "liars", "rows", "lies"] H.bd_need_lies H.sc_need_lies := fnAt_mk T.X T.nl k_need_lies (by kernel_rfl) (by kernel_rfl) (fa4 fun _ _ _ _ => by kernel_rfl)
theorem n__law_cell_at : nsIn (KK g) mainGlobals "_law_cell_at" = some (some (.ref 239)) := by kernel_rfl
theorem k__law_cell_at : fnOk (KK g) 239 = true := by kernel_rfl
theorem fn__law_cell_at (T : TopG g (KK g)) : FnAt g 239 ["_law_script", "_law_k"] H.bd__law_cell_at H.sc__law_cell_at := fnAt_mk T.X T.nl k__law_cell_at (by kernel_rfl) (by kernel_rfl) (fa2 fun _ _ => by kernel_rfl)
theorem n__law_whole : nsIn (KK g) mainGlobals "_law_whole" = some (some (.ref 246)) := by kernel_rfl
theorem k__law_whole : fnOk (KK g) 246 = true := by kernel_rfl
theorem fn__law_whole (T : TopG g (KK g)) : FnAt g 246 ["_law_found"] H.bd__law_whole H.sc__law_whole := fnAt_mk T.X T.nl k__law_whole (by kernel_rfl) (by kernel_rfl) (fa1 fun _ => by kernel_rfl)
theorem n__law_signs : nsIn (KK g) mainGlobals "_law_signs" = some (some (.ref 253)) := by kernel_rfl
theorem k__law_signs : fnOk (KK g) 253 = true := by kernel_rfl
theorem fn__law_signs (T : TopG g (KK g)) : FnAt g 253 ["_law_cell"] H.bd__law_signs H.sc__law_signs := fnAt_mk T.X T.nl k__law_signs (by kernel_rfl) (by kernel_rfl) (fa1 fun _ => by kernel_rfl)
theorem n__law_table : nsIn (KK g) mainGlobals "_law_table" = some (some (.ref 260)) := by kernel_rfl
theorem k__law_table : fnOk (KK g) 260 = true := by kernel_rfl
theorem fn__law_table (T : TopG g (KK g)) : FnAt g 260 ["_law_cell"] H.bd__law_table H.sc__law_table := fnAt_mk T.X T.nl k__law_table (by kernel_rfl) (by kernel_rfl) (fa1 fun _ => by kernel_rfl)
theorem n__law_paths : nsIn (KK g) mainGlobals "_law_paths" = some (some (.ref 265)) := by kernel_rfl
theorem k__law_paths : fnOk (KK g) 265 = true := by kernel_rfl
theorem fn__law_paths (T : TopG g (KK g)) : FnAt g 265 ["_law_hands", "_law_size"] H.bd__law_paths H.sc__law_paths := fnAt_mk T.X T.nl k__law_paths (by kernel_rfl) (by kernel_rfl) (fa2 fun _ _ => by kernel_rfl)
theorem n__law_liars : nsIn (KK g) mainGlobals "_law_liars" = some (some (.ref 272)) := by kernel_rfl
theorem k__law_liars : fnOk (KK g) 272 = true := by kernel_rfl
theorem fn__law_liars (T : TopG g (KK g)) : FnAt g 272 ["_law_cell", "_law_hands", "_law_many"] H.bd__law_liars H.sc__law_liars := fnAt_mk T.X T.nl k__law_liars (by kernel_rfl) (by kernel_rfl) (fa3 fun _ _ _ => by kernel_rfl)
theorem n__law_mixed : nsIn (KK g) mainGlobals "_law_mixed" = some (some (.ref 279)) := by kernel_rfl
theorem k__law_mixed : fnOk (KK g) 279 = true := by kernel_rfl
theorem fn__law_mixed (T : TopG g (KK g)) : FnAt g 279 ["_law_script", "_law_k"] H.bd__law_mixed H.sc__law_mixed := fnAt_mk T.X T.nl k__law_mixed (by kernel_rfl) (by kernel_rfl) (fa2 fun _ _ => by kernel_rfl)
theorem n__law_lie : nsIn (KK g) mainGlobals "_law_lie" = some (some (.ref 286)) := by kernel_rfl
theorem k__law_lie : fnOk (KK g) 286 = true := by kernel_rfl
theorem fn__law_lie (T : TopG g (KK g)) : FnAt g 286 ["_law_script", "_law_signs_here", "_law_path", "_law_hearer", "_law_k"] H.bd__law_lie H.sc__law_lie := fnAt_mk T.X T.nl k__law_lie (by kernel_rfl) (by kernel_rfl) (fa5 fun _ _ _ _ _ => by kernel_rfl)
theorem n__law_lies : nsIn (KK g) mainGlobals "_law_lies" = some (some (.ref 291)) := by kernel_rfl
theorem k__law_lies : fnOk (KK g) 291 = true := by kernel_rfl
theorem fn__law_lies (T : TopG g (KK g)) : FnAt g 291 ["_law_script", "_law_hands", "_law_most", "_law_signs_here", "_law_liars_here"] H.bd__law_lies H.sc__law_lies := fnAt_mk T.X T.nl k__law_lies (by kernel_rfl) (by kernel_rfl) (fa5 fun _ _ _ _ _ => by kernel_rfl)
theorem n__law_play : nsIn (KK g) mainGlobals "_law_play" = some (some (.ref 296)) := by kernel_rfl
theorem k__law_play : fnOk (KK g) 296 = true := by kernel_rfl
theorem fn__law_play (T : TopG g (KK g)) : FnAt g 296 ["_law_hands", "_law_most", "_law_sign", "_law_lies_here"] H.bd__law_play H.sc__law_play := fnAt_mk T.X T.nl k__law_play (by kernel_rfl) (by kernel_rfl) (fa4 fun _ _ _ _ => by kernel_rfl)
theorem n__law_of : nsIn (KK g) mainGlobals "_law_of" = some (some (.ref 303)) := by kernel_rfl
theorem k__law_of : fnOk (KK g) 303 = true := by kernel_rfl
theorem fn__law_of (T : TopG g (KK g)) : FnAt g 303 ["_law_lies_here", "_law_size"] H.bd__law_of H.sc__law_of := fnAt_mk T.X T.nl k__law_of (by kernel_rfl) (by kernel_rfl) (fa2 fun _ _ => by kernel_rfl)
theorem n__law_same : nsIn (KK g) mainGlobals "_law_same" = some (some (.ref 310)) := by kernel_rfl
theorem k__law_same : fnOk (KK g) 310 = true := by kernel_rfl
theorem fn__law_same (T : TopG g (KK g)) : FnAt g 310 ["_law_found", "_law_due"] H.bd__law_same H.sc__law_same := fnAt_mk T.X T.nl k__law_same (by kernel_rfl) (by kernel_rfl) (fa2 fun _ _ => by kernel_rfl)
theorem n__law_told : nsIn (KK g) mainGlobals "_law_told" = some (some (.ref 315)) := by kernel_rfl
theorem k__law_told : fnOk (KK g) 315 = true := by kernel_rfl
theorem fn__law_told (T : TopG g (KK g)) : FnAt g 315 ["_law_found", "_law_due"] H.bd__law_told H.sc__law_told := fnAt_mk T.X T.nl k__law_told (by kernel_rfl) (by kernel_rfl) (fa2 fun _ _ => by kernel_rfl)
theorem n__law_stands : nsIn (KK g) mainGlobals "_law_stands" = some (some (.ref 322)) := by kernel_rfl
theorem k__law_stands : fnOk (KK g) 322 = true := by kernel_rfl
theorem fn__law_stands (T : TopG g (KK g)) : FnAt g 322 ["_law_table_here", "_law_ears", "_law_size", "_law_turn", "_law_held"] H.bd__law_stands H.sc__law_stands := fnAt_mk T.X T.nl k__law_stands (by kernel_rfl) (by kernel_rfl) (fa5 fun _ _ _ _ _ => by kernel_rfl)
theorem n_law : nsIn (KK g) mainGlobals "law" = some (some (.ref 327)) := by kernel_rfl
theorem k_law : fnOk (KK g) 327 = true := by kernel_rfl
theorem fn_law (T : TopG g (KK g)) : FnAt g 327 ["_law_script"] H.bd_law H.sc_law := fnAt_mk T.X T.nl k_law (by kernel_rfl) (by kernel_rfl) (fa1 fun _ => by kernel_rfl)
theorem k_Table___init__ : fnOk (KK g) 199 = true := by kernel_rfl
theorem fn_Table___init__ (T : TopG g (KK g)) : FnAt g 199 ["self", "hands", "most", "sign", "liars"] H.bd_Table___init__ H.sc_Table___init__ := fnAt_mk T.X T.nl k_Table___init__ (by kernel_rfl) (by kernel_rfl) (fa5 fun _ _ _ _ _ => by kernel_rfl)
theorem k_Table_honest : fnOk (KK g) 206 = true := by kernel_rfl
theorem fn_Table_honest (T : TopG g (KK g)) : FnAt g 206 ["self", "path"] H.bd_Table_honest H.sc_Table_honest := fnAt_mk T.X T.nl k_Table_honest (by kernel_rfl) (by kernel_rfl) (fa2 fun _ _ => by kernel_rfl)
theorem k_Table_play : fnOk (KK g) 211 = true := by kernel_rfl
theorem fn_Table_play (T : TopG g (KK g)) : FnAt g 211 ["self", "lies"] H.bd_Table_play H.sc_Table_play := fnAt_mk T.X T.nl k_Table_play (by kernel_rfl) (by kernel_rfl) (fa2 fun _ _ => by kernel_rfl)
theorem k_Table_told : fnOk (KK g) 218 = true := by kernel_rfl
theorem fn_Table_told (T : TopG g (KK g)) : FnAt g 218 ["self", "hand"] H.bd_Table_told H.sc_Table_told := fnAt_mk T.X T.nl k_Table_told (by kernel_rfl) (by kernel_rfl) (fa2 fun _ _ => by kernel_rfl)
local macro_rules | `(tactic| walk_at "ctor") => `(tactic| repeat with_reducible constructor)
local macro_rules | `(tactic| walk_at "go0") => `(tactic| with_reducible first
  | refine ev_nm (by walk_at "ctor") ?_
  | refine ev_int ?_
  | refine ev_none ?_
  | refine ev_str ?_
  | refine ev_bool ?_
  | refine ev_BinOp ?_
  | refine evb_Cmp ?_
  | refine ev_Cmp ?_
  | refine evb_Cmp2 ?_
  | refine ev_Cmp2 ?_
  | refine ev_neg ?_
  | refine ev_not ?_
  | refine evb_bool ?_
  | refine evb_not ?_
  | refine evAnd_cons ?_
  | refine evAnd_nil ?_
  | refine evOr_cons ?_
  | refine evOr_nil ?_
  | refine ev_slice ?_ (by intro _ _; with_unfolding_all rfl)
  | refine ev_sub ?_
  | refine evl_cons ?_
  | refine evl_nil ?_
  | refine op_add ?_
  | refine op_sub ?_
  | refine op_fdiv (by decide) (by decide) ?_
  | refine op_fmod (by decide) ?_
  | refine op_mul ?_ (by first | (left; constructor <;> omega) | (right; constructor <;> omega) | fail "mul")
  | refine cmp_lt ?_
  | refine cmp_gt ?_
  | refine cmp_eq ?_
  | refine cmp_ne ?_
  | refine cmp_le ?_
  | refine cmp_ge ?_
  | refine cmp_is ?_
  | refine cmp_isNot ?_
  | refine opb_bool ?_
  | refine thn_next ?_
  | refine thn_ret ?_
  | refine post_ret ?_
  | refine post_next ?_
  | refine es_nil ?_
  | refine es_seq ?_
  | refine es_return ?_
  | refine trn_ret ?_
  | refine ev_boolop ?_
  | refine evVal_and ?_
  | refine evVal_or ?_
  | refine evVal_one ?_
  | refine br_true ?_
  | refine br_false ?_
  | refine br_nt ?_
  | refine br_nf ?_
  | (refine br_intro ?_ ?_) <;> intro _
  | refine es_assign ?_ (by assumption) (by with_unfolding_all rfl)
  | refine upd_ex (by walk_at "ctor") ?_
  | refine es_expr ?_ (by with_unfolding_all rfl)
  | refine evO_none ?_
  | refine evO_some ?_
  | refine int_ex ?_
  | refine es_setitem ?_ (by with_unfolding_all rfl)
  | refine evb_value ?_ (by with_unfolding_all rfl))
local macro_rules | `(tactic| walk_at "go1") => `(tactic| first | walk_at "go0" | with_reducible refine es_ifc ?_)
local macro_rules | `(tactic| walk_at "gos") => `(tactic| repeat' (walk_at "go0"))
local macro_rules | `(tactic| walk_at "go") => `(tactic| repeat' (walk_at "go1"))
local macro_rules | `(tactic| walk_at "rm") => `(tactic| first | exact rm (by assumption) rfl | exact rm0 (by assumption) | exact rm3 (by assumption) rfl | exact lo (by assumption) (by decide) | exact hi (by assumption) (by decide) | omega)

noncomputable def sg : Option Str → AV
  | some x => .str x
  | none => .none
theorem sg_plain (a : Option Str) : plain (sg a) = true := by cases a <;> rfl
theorem sg_deep (a : Option Str) : deep (sg a) = 0 := by cases a <;> rfl
theorem blt_isi : bootBuiltins "isinstance" = some (.builtin "isinstance") := by decide +kernel
theorem blt_str : bootBuiltins "str" = some (.type "str") := by decide +kernel
theorem same_spec {Q : AV → Sto → Prop} (T : TopG g (KK g)) (hd : c.A.depth < recursionLimit) {x : Option Str} (q : Q (.bool true) σ) :
    cal c (.ref 310) [sg x, sg x] σ Q := by
  refine cal_fn (rest := []) (fn__law_same T) (by kernel_rfl) hd rfl fun c' hsc hfn hA => ?_
  show es c' [(("_law_found" : Str), some _), (("_law_due" : Str), some _)] (execs (_ :: _) c'.env) σ _
  walk_at "go"
  · rename_i h
    rw [h]; exact q
  · refine ev_call (T.blt (by rfl) blt_isi) (by rw [hsc]; rfl) (.builtin _) ?_
    walk_at "go"
    refine ev_glob (T.blt (by rfl) blt_str) (by rw [hsc]; rfl) ?_
    walk_at "go"
    cases x with
    | none => rename_i h; cases h
    | some x =>
      refine cal_isStr ?_
      walk_at "go"
      refine cmp_eqs ?_
      walk_at "go"
      simpa using q

theorem cell_spec {Q : AV → Sto → Prop} (T : TopG g (KK g)) (hd : c.A.depth < recursionLimit) {ns : List Int} (hz : ns.length < 2 ^ 20) {k : Int} (h0 : 0 ≤ k) (h1 : k < 2 ^ 20) (q : Q (.int (ns.getD k.toNat 0)) σ) :
    cal c (.ref 239) [.list (ns.map .int), .int k] σ Q := by
  refine cal_fn (rest := []) (fn__law_cell_at T) (by kernel_rfl) hd rfl fun c' hsc hfn hA => ?_
  show es c' [(("_law_script" : Str), some _), (("_law_k" : Str), some _)] (execs (_ :: _) c'.env) σ _
  walk_at "go"
  (refine ev_callB boot_len (.builtin _) T (by assumption) nb_len (by rfl) ?_; walk_at "go")
  refine cal_len_list .list (by simp; omega) ?_
  walk_at "go"
  · rename_i h
    simp only [decide_eq_true_eq, List.length_map] at h
    have hlt : k.toNat < ns.length := by omega
    refine sub_list .list h0 (by walk_at "rm") (y := .int ns[k.toNat]) (by simp [hlt]) ?_
    rw [List.getD_eq_getElem?_getD, List.getElem?_eq_getElem hlt] at q
    walk_at "go"
    exact q
  · rename_i h
    simp only [decide_eq_false_iff_not, List.length_map] at h
    rw [List.getD_eq_getElem?_getD, List.getElem?_eq_none (by walk_at "rm")] at q
    exact q

theorem fm_lo (a : Int) {n : Int} (h : 0 < n) : 0 ≤ Int.fmod a n := by
  rw [Int.fmod_eq_emod_of_nonneg a (by walk_at "rm")]; exact Int.emod_nonneg a (by walk_at "rm")
theorem fm_hi (a : Int) {n : Int} (h : 0 < n) : Int.fmod a n < n := by
  rw [Int.fmod_eq_emod_of_nonneg a (by walk_at "rm")]; exact Int.emod_lt_of_pos a h
theorem letters26 : ∀ i, i < 26 → (Str.ofString "abcdefghijklmnopqrstuvwxyz").cps[i]? = some (97 + i) := by decide +kernel
theorem letter_at {i : Int} (h0 : 0 ≤ i) (h1 : i < 26) : ∃ d, (Str.ofString "abcdefghijklmnopqrstuvwxyz").cps[i.toNat]? = some d ∧ 97 ≤ d ∧ d ≤ 122 :=
  ⟨97 + i.toNat, letters26 _ (by walk_at "rm"), by omega, by omega⟩
noncomputable def okS (x : Str) : Prop := 1 ≤ x.length ∧ x.length ≤ 8 ∧ ∀ d ∈ x.cps.toList, 97 ≤ d ∧ d ≤ 122
theorem foldl_mem {d : Nat} (x : Array Nat) : ∀ (n : Nat) (acc : Array Nat), d ∈ (List.replicate n x).foldl (· ++ ·) acc → d ∈ acc ∨ d ∈ x
  | 0, acc, h => .inl h
  | n + 1, acc, h => by
    rw [List.replicate_succ, List.foldl_cons] at h
    rcases foldl_mem x n _ h with h | h
    · exact Array.mem_append.mp h
    · exact .inr h
theorem mul_mem {e d : Nat} {n : Int} (h : d ∈ (Txt.mul ⟨#[e]⟩ n).cps.toList) : d = e := by
  unfold Txt.mul at h
  split at h
  · simp [Str.empty] at h
  · split at h
    · simpa using h
    · have := foldl_mem (d := d) #[e] n.toNat #[] (by simpa using h)
      simpa using this
theorem mul_pos {e : Nat} {n : Int} (h : 1 ≤ n) : 1 ≤ (Txt.mul ⟨#[e]⟩ n).length := by
  unfold Txt.mul
  rw [if_neg (by walk_at "rm")]
  split
  · exact Nat.le_refl _
  · show 1 ≤ ((List.replicate n.toNat #[e]).foldl (· ++ ·) #[]).size
    rw [foldl_cps]
    simp; omega
theorem app_ok {fl : List Str} {y : Str} (h : ∀ x ∈ fl, okS x) (hy : okS y) : ∀ x ∈ fl ++ [y], okS x := fun x hx => by
  rcases List.mem_append.mp hx with hx | hx
  · exact h x hx
  · rw [List.mem_singleton.mp hx]; exact hy
theorem Sto.set_set {σ : Sto} {a : Addr} {x y : AObj} : (σ.set a x).set a y = σ.set a y := by
  funext b; unfold Sto.set; by_cases h : b = a <;> simp [h]
theorem Sto.set_del {σ : Sto} {a : Addr} {x : AObj} (h : σ a = Option.none) : (σ.set a x).del a = σ := by
  funext b; unfold Sto.set Sto.del; by_cases hb : b = a
  · subst hb; simp [h]
  · simp [hb]

theorem signs_spec {Q : AV → Sto → Prop} (T : TopG g (KK g)) (hd : c.A.depth < recursionLimit) (hh : c.A.handled = none) {n : Int} (q : ∀ l : List Str, l.length = 4 → (∀ x ∈ l, okS x) → Q (.list (l.map .str)) σ) :
    cal c (.ref 253) [.int n] σ Q := by
  refine cal_fn (rest := ["_law_letters", "_law_size", "_law_found", "_law_k", "_law_sign", "_law_place", "_law_ahead", "_law_behind"]) (fn__law_signs T) (by kernel_rfl) hd rfl fun c' hsc hfn hA => ?_
  have hh' : c'.A.handled = none := by rw [hA]; exact hh
  show es c' [(("_law_cell" : Str), some (.int n)), (("_law_letters" : Str), none), (("_law_size" : Str), none), (("_law_found" : Str), none), (("_law_k" : Str), none), (("_law_sign" : Str), none), (("_law_place" : Str), none), (("_law_ahead" : Str), none), (("_law_behind" : Str), none)] (execs (_ :: _) c'.env) σ _
  walk_at "go"
  have hs0 := fm_lo (n.fdiv 3) (n := 8) (by decide)
  have hs1 := fm_hi (n.fdiv 3) (n := 8) (by decide)
  generalize hsz : 1 + (n.fdiv 3).fmod 8 = sz
  have hz0 : 1 ≤ sz := by omega
  have hz1 : sz ≤ 8 := by omega
  refine ev_list (evl_nil ⟨by decide, .inr fun a ha => ?_⟩)
  walk_at "go"
  refine es_loop (fun l ρ' σ' => ∃ fl : List Str, ∃ r : List Int, (∀ x ∈ fl, okS x) ∧ l = r.map AV.int ∧ (∀ k ∈ r, 0 ≤ k ∧ k < 4) ∧ fl.length + r.length = 4 ∧ σ' = σ.set a (.lst (fl.map .str)) ∧ ρ' = [(("_law_cell" : Str), some (AV.int n)), (("_law_letters" : Str), some (AV.str "abcdefghijklmnopqrstuvwxyz")), (("_law_size" : Str), some (AV.int sz)), (("_law_found" : Str), some (AV.obj a)), (("_law_k" : Str), none), (("_law_sign" : Str), none), (("_law_place" : Str), none), (("_law_ahead" : Str), none), (("_law_behind" : Str), none)]) hfn ?_ ?_ ?_
  · (refine ev_callB PyProof.Rows.boot_range (.type _) T (by assumption) nb_range (by rfl) ?_; walk_at "go")
    refine cal_range1 ⟨_, iter_rng hh' (by decide) (by decide) (by decide) (by decide), [], rngL 0 4, (fun _ h => by cases h), rfl, ?_, by decide, rfl, rfl⟩
    decide
  · rintro c₂ hA₂ hsc₂ hfn₂ y rest ρ₁ σ₁ ⟨fl, r, hok, hr, hrg, hlen, rfl, rfl⟩
    rw [hsc] at hsc₂
    cases r with
    | nil => cases hr
    | cons k r =>
      rw [List.map_cons] at hr
      injection hr with h1 h2
      subst h1; subst h2
      obtain ⟨hk0, hk1⟩ := hrg k List.mem_cons_self
      walk_at "go"
      obtain ⟨d, hd1, l1, l2⟩ := letter_at (fm_lo (n.fdiv 24 + 7 * k) (n := 26) (by decide)) (fm_hi _ (by decide))
      refine sub_str (fm_lo _ (by decide)) (Int.lt_trans (fm_hi _ (by decide)) (by decide)) hd1 ?_
      walk_at "go"
      · refine ev_meth F.plainAttrs_list F.slot_list_append F.type_list_append ?_
        walk_at "go"
        refine ⟨.objL Sto.set_self, ?_⟩
        walk_at "go"
        obtain ⟨d2, hd2, l3, l4⟩ := letter_at (fm_lo (n.fdiv 24) (n := 26) (by decide)) (fm_hi _ (by decide))
        refine sub_str (fm_lo _ (by decide)) (Int.lt_trans (fm_hi _ (by decide)) (by decide)) hd2 ?_
        walk_at "go"
        refine op_muls (Nat.le_of_ble_eq_true rfl) (by walk_at "rm") (by walk_at "rm") ?_
        walk_at "go"
        refine cal_append Sto.set_self (by simp only [List.length_map, sizeLine_eq]; omega) ⟨trivial, ?_⟩
        walk_at "go"
        refine trn_next (by walk_at "ctor") ⟨fl ++ [Txt.mul ⟨#[d2]⟩ (1 + 2 * k)], r, app_ok hok ⟨mul_pos (by walk_at "rm"), ?_, fun x hx => by rw [mul_mem hx]; exact ⟨l3, l4⟩⟩, rfl, fun k hk => hrg k (List.mem_cons_of_mem _ hk), ?_, ?_, rfl⟩
        · have := mul_len (x := ⟨#[d2]⟩) (n := 1 + 2 * k)
          have e1 : (Str.mk #[d2]).length = 1 := rfl
          rw [e1] at this; omega
        · simp only [List.length_append, List.length_cons, List.length_nil] at hlen ⊢; omega
        · rw [Sto.set_set, List.map_append]; rfl
      · refine op_fmod (by walk_at "rm") ?_
        have hp0 := fm_lo (n.fdiv 5) (n := sz) (by walk_at "rm")
        have hp1 := fm_hi (n.fdiv 5) (n := sz) (by walk_at "rm")
        generalize (n.fdiv 5).fmod sz = pl at hp0 hp1 ⊢
        have hc0 := fm_lo n (n := 3) (by decide)
        have hc1 := fm_hi n (n := 3) (by decide)
        walk_at "go"
        obtain ⟨d2, hd2, l3, l4⟩ := letter_at (i := sz) (by walk_at "rm") (by walk_at "rm")
        refine sub_str (by walk_at "rm") (by walk_at "rm") hd2 ?_
        walk_at "go"
        refine op_muls (Nat.le_of_ble_eq_true rfl) (by walk_at "rm") (by walk_at "rm") ?_
        have hm1 := mul_len (x := ⟨#[d2]⟩) (n := pl)
        walk_at "go"
        obtain ⟨d3, hd3, l5, l6⟩ := letter_at (i := sz + n.fmod 3) (by walk_at "rm") (by walk_at "rm")
        refine sub_str (by walk_at "rm") (by walk_at "rm") hd3 ?_
        walk_at "go"
        refine op_muls (Nat.le_of_ble_eq_true rfl) (by walk_at "rm") (by walk_at "rm") ?_
        have hm2 := mul_len (x := ⟨#[d3]⟩) (n := sz - 1 - pl)
        have hl1 : (Str.mk #[d2]).length = 1 := rfl
        have hl2 : (Str.mk #[d3]).length = 1 := rfl
        have hl3 : (Str.mk #[d]).length = 1 := rfl
        rw [hl1] at hm1
        rw [hl2] at hm2
        walk_at "go"
        refine ev_meth F.plainAttrs_list F.slot_list_append F.type_list_append ?_
        walk_at "go"
        refine ⟨.objL Sto.set_self, ?_⟩
        walk_at "go"
        refine op_adds (by rw [sizeLine_eq, hl3]; omega) ?_
        walk_at "go"
        refine op_adds (by rw [sizeLine_eq, Str.length_append, hl3]; omega) ?_
        walk_at "go"
        refine cal_append Sto.set_self (by simp only [List.length_map, sizeLine_eq]; omega) ⟨trivial, ?_⟩
        walk_at "go"
        refine trn_next (by walk_at "ctor") ⟨fl ++ [Txt.mul ⟨#[d2]⟩ pl ++ ⟨#[d]⟩ ++ Txt.mul ⟨#[d3]⟩ (sz - 1 - pl)], r, app_ok hok ⟨?_, ?_, ?_⟩, rfl, fun k hk => hrg k (List.mem_cons_of_mem _ hk), ?_, ?_, rfl⟩
        · rw [Str.length_append, Str.length_append, hl3]; omega
        · rw [Str.length_append, Str.length_append, hl3]; omega
        · intro x hx
          have hx' : x ∈ (Txt.mul ⟨#[d2]⟩ pl).cps.toList ∨ x = d ∨ x ∈ (Txt.mul ⟨#[d3]⟩ (sz - 1 - pl)).cps.toList := by
            have e : (Txt.mul ⟨#[d2]⟩ pl ++ (⟨#[d]⟩ : Str) ++ Txt.mul ⟨#[d3]⟩ (sz - 1 - pl)).cps = (Txt.mul ⟨#[d2]⟩ pl).cps ++ #[d] ++ (Txt.mul ⟨#[d3]⟩ (sz - 1 - pl)).cps := rfl
            rw [e] at hx
            simpa [or_assoc] using hx
          rcases hx' with h | rfl | h
          · rw [mul_mem h]; exact ⟨l3, l4⟩
          · exact ⟨l1, l2⟩
          · rw [mul_mem h]; exact ⟨l5, l6⟩
        · simp only [List.length_append, List.length_cons, List.length_nil] at hlen ⊢; omega
        · rw [Sto.set_set, List.map_append]; rfl
  · rintro ρ₁ σ₁ ⟨fl, r, hok, hr, hrg, hlen, rfl, rfl⟩
    cases r with
    | cons _ _ => cases hr
    | nil =>
      refine thn_next (es_one (es_ret_freeze ?_))
      walk_at "go"
      refine ⟨a, _, _, rfl, Sto.set_self, .lst _, ?_⟩
      rw [Sto.set_del ha]
      exact q fl (by simpa using hlen) hok

theorem hearers_spec {Q : AV → Sto → Prop} (T : TopG g (KK g)) (hd : c.A.depth < recursionLimit) (hh : c.A.handled = none) (hu : c.A.units + 20 < cLine) {h : Int} {p : List Int} (h0 : 0 ≤ h) (h1 : h ≤ 64) (q : Q (.list ((hears h p).map .int)) σ) :
    cal c (.ref 144) [.int h, pth p] σ Q := by
  refine cal_fn (rest := []) (fn_hearers T) (by kernel_rfl) hd rfl fun c' hsc hfn hA => ?_
  have hh' : c'.A.handled = none := by rw [hA]; exact hh
  have hu' : c'.A.units + 10 < cLine := by rw [hA]; show c.A.units + 3 + 10 < cLine; walk_at "rm"
  show es c' [(("hands" : Str), some _), (("path" : Str), some _)] (execs (_ :: _) c'.env) σ _
  walk_at "go"
  refine ev_filtP [(("path" : Str), some (pth p))] AV.int (rngL 0 h) (fun x => !p.contains x) AV.int hsc (by rfl) (by walk_at "ctor") (by rw [rngL_len, sizeLine_eq]; omega) ?_ ?_ ?_
  · (refine ev_callB PyProof.Rows.boot_range (.type _) T (by assumption) nb_range (by rfl) ?_; walk_at "go")
    exact cal_range1 ⟨rfl, iter_rng hh' (by decide) (by decide) (by walk_at "rm") (by walk_at "rm")⟩
  · intro c₂ hA₂ hsc₂ a ha
    rw [← hA₂] at hu'
    refine ⟨?_, fun _ => ?_⟩
    · walk_at "go"
      refine cmp_notin_tup (ints_plain p) (by rw [ints_deep]; exact Nat.zero_le _) rfl (by walk_at "rm") ?_
      walk_at "go"
      rw [ints_any]
      exact ⟨rfl, rfl⟩
    · walk_at "go"
      exact ⟨rfl, rfl⟩
  · walk_at "go"
    exact q

theorem table_spec {Q : AV → Sto → Prop} (T : TopG g (KK g)) (hd : c.A.depth < recursionLimit) {n : Int} (q : ∀ H M : Int, 2 ≤ H → H ≤ 10 → 0 ≤ M → M ≤ 2 → (M = 2 → H ≤ 8) → Q (.tup [.int H, .int M]) σ) :
    cal c (.ref 260) [.int n] σ Q := by
  refine cal_fn (rest := ["_law_most"]) (fn__law_table T) (by kernel_rfl) hd rfl fun c' hsc hfn hA => ?_
  show es c' [(("_law_cell" : Str), some _), (("_law_most" : Str), none)] (execs (_ :: _) c'.env) σ _
  walk_at "go"
  refine ev_list ?_
  walk_at "go"
  refine ⟨by decide, .inl ?_⟩
  walk_at "go"
  have hr0 := fm_lo n (n := 6) (by decide)
  have hr1 := fm_hi n (n := 6) (by decide)
  obtain ⟨m, hm, hmem⟩ : ∃ m : Int, ([AV.int 1, .int 2, .int 0, .int 1, .int 2, .int 2] : List AV)[(n.fmod 6).toNat]? = some (.int m) ∧ (m = 0 ∨ m = 1 ∨ m = 2) := by
    generalize n.fmod 6 = r at hr0 hr1
    have : r = 0 ∨ r = 1 ∨ r = 2 ∨ r = 3 ∨ r = 4 ∨ r = 5 := by omega
    rcases this with rfl | rfl | rfl | rfl | rfl | rfl
    · exact ⟨1, rfl, by decide⟩
    · exact ⟨2, rfl, by decide⟩
    · exact ⟨0, rfl, by decide⟩
    · exact ⟨1, rfl, by decide⟩
    · exact ⟨2, rfl, by decide⟩
    · exact ⟨2, rfl, by decide⟩
  refine sub_list (y := .int m) .list hr0 (by walk_at "rm") hm ?_
  walk_at "go"
  refine ev_tuple ?_
  walk_at "go"
  refine ev_list ?_
  walk_at "go"
  refine ⟨by decide, .inl ?_⟩
  walk_at "go"
  obtain ⟨d, hdm, hd1, hd2, hd3⟩ : ∃ d : Int, ([AV.int 9, .int 9, .int 7] : List AV)[m.toNat]? = some (.int d) ∧ 0 < d ∧ d ≤ 9 ∧ (m = 2 → d = 7) := by
    rcases hmem with rfl | rfl | rfl
    · exact ⟨9, rfl, by decide, by decide, by decide⟩
    · exact ⟨9, rfl, by decide, by decide, by decide⟩
    · exact ⟨7, rfl, by decide, by decide, by decide⟩
  refine sub_list (y := .int d) .list (by walk_at "rm") (by walk_at "rm") hdm ?_
  refine op_fmod (by walk_at "rm") ?_
  have hx0 := fm_lo (n.fdiv 6) (n := d) (by walk_at "rm")
  have hx1 := fm_hi (n.fdiv 6) (n := d) (by walk_at "rm")
  walk_at "go"
  refine ⟨by show 2 ≤ sizeLine; rw [sizeLine_eq]; decide, ?_⟩
  walk_at "go"
  exact q _ _ (by walk_at "rm") (by walk_at "rm") (by walk_at "rm") (by walk_at "rm") (fun e => by have := hd3 e; omega)

noncomputable def nexts (h : Int) (P : List (List Int)) : List (List Int) := P.flatMap fun p => (hears h p).map fun x => p ++ [x]
noncomputable def pathsN (h : Int) : Nat → List (List Int)
  | 0 => [[0]]
  | n + 1 => nexts h (pathsN h n)
theorem hears_len (h : Int) (p : List Int) : (hears h p).length ≤ h.toNat := by
  have := List.length_filter_le (fun x => !p.contains x) (rngL 0 h)
  rw [rngL_len] at this
  simpa [hears] using this
theorem nexts_len {h : Int} (hh : h ≤ 10) (P : List (List Int)) : (nexts h P).length ≤ 10 * P.length := by
  induction P with
  | nil => simp [nexts]
  | cons p r ih =>
    have e : nexts h (p :: r) = ((hears h p).map fun x => p ++ [x]) ++ nexts h r := by simp [nexts]
    rw [e, List.length_append, List.length_map, List.length_cons]
    have := hears_len h p
    omega
theorem pathsN_len {h : Int} (hh : h ≤ 10) : ∀ n, (pathsN h n).length ≤ 10 ^ n
  | 0 => by simp [pathsN]
  | n + 1 => by
    have := nexts_len hh (pathsN h n)
    have := pathsN_len hh n
    show (nexts h (pathsN h n)).length ≤ _
    omega
theorem pathsN_size {h : Int} : ∀ n, ∀ p ∈ pathsN h n, p.length = n + 1
  | 0, p, hp => by simp [pathsN] at hp; subst hp; rfl
  | n + 1, p, hp => by
    simp only [pathsN, nexts, List.mem_flatMap, List.mem_map] at hp
    obtain ⟨r, hr, x, _, rfl⟩ := hp
    rw [List.length_append, pathsN_size n r hr]; rfl
theorem nexts_flat (h : Int) (P : List (List Int)) : (P.map fun p => (hears h p).map fun x => pth (p ++ [x])).flatten = (nexts h P).map pth := by
  induction P with
  | nil => rfl
  | cons p r ih =>
    have e : nexts h (p :: r) = ((hears h p).map fun x => p ++ [x]) ++ nexts h r := by simp [nexts]
    rw [List.map_cons, List.flatten_cons, ih, e, List.map_append, List.map_map]
    rfl
noncomputable def lpaths (h : Int) (n : Int) : List (List Int) := (pathsN h (min n (h - 1) - 1).toNat).filter fun p => ((p.length : Int) == n)

theorem paths_spec {Q : AV → Sto → Prop} (T : TopG g (KK g)) (hd : c.A.depth < recursionLimit) (hh : c.A.handled = none) (hu : c.A.units + 20 < cLine) {h n : Int} (h0 : 0 ≤ h) (h1 : h ≤ 10) (n0 : 0 ≤ n) (n1 : n ≤ 3) (q : Q (.list ((lpaths h n).map pth)) σ) :
    cal c (.ref 265) [.int h, .int n] σ Q := by
  refine cal_fn (rest := ["_law_found", "_law_turn"]) (fn__law_paths T) (by kernel_rfl) hd rfl fun c' hsc hfn hA => ?_
  have hh' : c'.A.handled = none := by rw [hA]; exact hh
  have hu' : c'.A.units + 10 < cLine := by rw [hA]; show c.A.units + 3 + 10 < cLine; walk_at "rm"
  show es c' [(("_law_hands" : Str), some _), (("_law_size" : Str), some _), (("_law_found" : Str), none), (("_law_turn" : Str), none)] (execs (_ :: _) c'.env) σ _
  walk_at "go"
  refine ev_list (evl_cons (ev_tuple ?_))
  walk_at "go"
  refine ⟨by decide, ?_⟩
  walk_at "go"
  refine ⟨by decide, .inl ?_⟩
  walk_at "go"
  have hN : (min n (h - 1) - 1).toNat ≤ 2 := by omega
  generalize hNe : min n (h - 1) - 1 = N at hN
  refine es_loop (fun l ρ' σ' => σ' = σ ∧ ∃ j : Nat, ∃ r : List Int, l = r.map AV.int ∧ j + r.length = N.toNat ∧ ρ' = [(("_law_hands" : Str), some (AV.int h)), (("_law_size" : Str), some (AV.int n)), (("_law_found" : Str), some (AV.list ((pathsN h j).map pth))), (("_law_turn" : Str), none)]) hfn ?_ ?_ ?_
  · (refine ev_callB PyProof.Rows.boot_range (.type _) T (by assumption) nb_range (by rfl) ?_; walk_at "go")
    (refine ev_callB PyProof.Rows.boot_min (.builtin _) T (by assumption) nb_min (by rfl) ?_; walk_at "go")
    refine cal_min hh' ?_
    walk_at "go"
    rw [hNe]
    exact cal_range1 ⟨_, iter_rng hh' (by decide) (by decide) (by walk_at "rm") (by walk_at "rm"), rfl, 0, rngL 0 N, rfl, by rw [rngL_len]; omega, rfl⟩
  · rintro c₂ hA₂ hsc₂ hfn₂ y rest ρ₁ σ₂ ⟨rfl, j, r, hr, hj, rfl⟩
    rw [hsc] at hsc₂
    rw [← hA₂] at hh' hu'
    cases r with
    | nil => cases hr
    | cons k r =>
      rw [List.map_cons] at hr
      injection hr with e1 e2
      subst e1; subst e2
      have hjl := pathsN_len h1 j
      have hj2 : 10 ^ j ≤ 10 ^ 2 := Nat.pow_le_pow_right (by decide) (by simp at hj; omega)
      have hjl' := pathsN_len h1 (j + 1)
      have hj3 : 10 ^ (j + 1) ≤ 10 ^ 2 := Nat.pow_le_pow_right (by decide) (by simp at hj; omega)
      walk_at "go"
      (refine ev_callB PyProof.Rows.boot_sum (.builtin _) T (by assumption) nb_sum (by rfl) ?_; walk_at "go")
      refine ev_mapCP [(("_law_hands" : Str), some (AV.int h))] pth (pathsN h j) (fun p => AV.list ((hears h p).map fun x => pth (p ++ [x]))) hsc₂ (by rfl) (by walk_at "ctor") (by rw [sizeLine_eq]; omega) ?_ ?_ ?_
      · walk_at "go"
        exact ⟨rfl, iter_list hh' _⟩
      · intro c₃ hA₃ hsc₃ p hp
        rw [← hA₃] at hh' hu'
        refine ev_filtP [(("_law_path" : Str), some (pth p))] AV.int (rngL 0 h) (fun x => !p.contains x) (fun x => pth (p ++ [x])) hsc₃ (by rfl) (by walk_at "ctor") (by rw [rngL_len, sizeLine_eq]; omega) ?_ ?_ ?_
        · (refine ev_callB PyProof.Rows.boot_range (.type _) T (by assumption) nb_range (by rfl) ?_; walk_at "go")
          exact cal_range1 ⟨rfl, iter_rng hh' (by decide) (by decide) (by walk_at "rm") (by walk_at "rm")⟩
        · intro c₄ hA₄ hsc₄ a ha
          rw [← hA₄] at hu'
          have hps := pathsN_size j p hp
          refine ⟨?_, fun _ => ?_⟩
          · walk_at "go"
            refine cmp_notin_tup (ints_plain p) (by rw [ints_deep]; exact Nat.zero_le _) rfl (by walk_at "rm") ?_
            walk_at "go"
            rw [ints_any]
            exact ⟨rfl, rfl⟩
          · walk_at "go"
            refine ev_tuple ?_
            walk_at "go"
            refine ⟨by show 1 ≤ sizeLine; rw [sizeLine_eq]; decide, ?_⟩
            refine op_addt ?_ (by simp) (by simp [sizeLine_eq]; simp at hj; omega) ?_
            · intro e
              have := congrArg List.length e
              simp at this
              subst this
              cases hps
            · refine ⟨?_, rfl⟩
              show AV.tup _ = AV.tup _
              rw [List.map_append]; rfl
        · exact ⟨rfl, rfl⟩
      · walk_at "go"
        refine ev_list ?_
        walk_at "go"
        refine ⟨by decide, .inl ?_⟩
        walk_at "go"
        have e := nexts_flat h (pathsN h j)
        have em : (pathsN h j).map (fun p => AV.list ((hears h p).map fun x => pth (p ++ [x]))) = ((pathsN h j).map fun p => (hears h p).map fun x => pth (p ++ [x])).map AV.list := by rw [List.map_map]; rfl
        rw [em]
        refine cal_sumL hh' (by rw [e, List.length_map, sizeLine_eq]; show (pathsN h (j + 1)).length ≤ _; omega) ?_
        rw [e, show nexts h (pathsN h j) = pathsN h (j + 1) from rfl]
        walk_at "go"
        exact trn_next (by walk_at "ctor") ⟨rfl, j + 1, r, rfl, by simp at hj; omega, rfl⟩
  · rintro ρ₁ σ₂ ⟨rfl, j, r, hr, hj, rfl⟩
    have hr0 : r = [] := by cases r with | nil => rfl | cons _ _ => cases hr
    subst hr0
    have hjN : j = N.toNat := by simpa using hj
    subst hjN
    have hjl := pathsN_len h1 N.toNat
    have hj2 : 10 ^ N.toNat ≤ 10 ^ 2 := Nat.pow_le_pow_right (by decide) hN
    walk_at "go"
    refine ev_filtP [(("_law_size" : Str), some (AV.int n))] pth (pathsN h N.toNat) (fun p => (p.length : Int) == n) pth hsc (by rfl) (by walk_at "ctor") (by rw [sizeLine_eq]; omega) ?_ ?_ ?_
    · walk_at "go"
      exact ⟨rfl, iter_list hh' _⟩
    · intro c₃ hA₃ hsc₃ p hp
      have hps := pathsN_size _ p hp
      refine ⟨?_, fun _ => ?_⟩
      · walk_at "go"
        (refine ev_callB boot_len (.builtin _) T (by assumption) nb_len (by rfl) ?_; walk_at "go")
        refine cal_len_tup (by simp; omega) ?_
        walk_at "go"
        rw [List.length_map]
        exact ⟨rfl, rfl⟩
      · walk_at "go"
        exact ⟨rfl, rfl⟩
    · walk_at "go"
      subst hNe
      exact q

theorem sub_len : ∀ {l m : List Int}, l.Nodup → (∀ x ∈ l, x ∈ m) → l.length ≤ m.length
  | [], _, _, _ => Nat.zero_le _
  | a :: l, m, hn, hs => by
    obtain ⟨h1, h2⟩ := List.nodup_cons.mp hn
    have ha := hs a List.mem_cons_self
    have := sub_len (l := l) (m := m.erase a) h2 fun x hx => (List.mem_erase_of_ne (by rintro rfl; exact h1 hx)).mpr (hs x (List.mem_cons_of_mem _ hx))
    rw [List.length_erase_of_mem ha] at this
    have hp := List.length_pos_of_mem ha
    rw [List.length_cons]; omega
theorem mem_hears {h : Int} {p : List Int} {x : Int} : x ∈ hears h p ↔ (0 ≤ x ∧ x < h) ∧ x ∉ p := by
  unfold hears
  rw [List.mem_filter, mem_rngL]
  simp
theorem mem_nexts {h : Int} {P : List (List Int)} {q : List Int} : q ∈ nexts h P ↔ ∃ p ∈ P, ∃ x ∈ hears h p, q = p ++ [x] := by
  simp only [nexts, List.mem_flatMap, List.mem_map]
  constructor
  · rintro ⟨p, hp, x, hx, rfl⟩; exact ⟨p, hp, x, hx, rfl⟩
  · rintro ⟨p, hp, x, hx, rfl⟩; exact ⟨p, hp, x, hx, rfl⟩
theorem pathsN_ok {h : Int} (h0 : 0 < h) : ∀ n, ∀ p ∈ pathsN h n, p.Nodup ∧ (∀ x ∈ p, 0 ≤ x ∧ x < h) ∧ p.head? = some 0
  | 0, p, hp => by simp [pathsN] at hp; subst hp; exact ⟨by simp, by simp; omega, rfl⟩
  | n + 1, p, hp => by
    obtain ⟨r, hr, x, hx, rfl⟩ := mem_nexts.mp hp
    obtain ⟨h1, h2, h3⟩ := pathsN_ok h0 n r hr
    obtain ⟨hx1, hx2⟩ := mem_hears.mp hx
    refine ⟨?_, ?_, ?_⟩
    · rw [List.nodup_append]
      refine ⟨h1, by simp, fun a ha b hb => ?_⟩
      rw [List.mem_singleton.mp hb]
      rintro rfl; exact hx2 ha
    · intro y hy
      rcases List.mem_append.mp hy with hy | hy
      · exact h2 y hy
      · rw [List.mem_singleton.mp hy]; exact hx1
    · cases r with
      | nil => cases h3
      | cons a t => exact h3
theorem rngL_nodup (a b : Int) : (rngL a b).Nodup := by
  unfold rngL
  refine List.Pairwise.map _ (fun x y h => ?_) (List.nodup_range (n := (b - a).toNat))
  show (a + (x : Int)) ≠ a + (y : Int)
  omega
theorem hears_nodup (h : Int) (p : List Int) : (hears h p).Nodup := List.Pairwise.filter _ (rngL_nodup 0 h)
theorem nexts_nodup {h : Int} {P : List (List Int)} (hP : P.Nodup) : (nexts h P).Nodup := by
  unfold nexts
  refine List.pairwise_flatMap.mpr ⟨fun p _ => ?_, hP.imp fun {p q} hpq x hx y hy => ?_⟩
  · refine List.Pairwise.map _ (fun x y hxy => ?_) (hears_nodup h p)
    intro e
    exact hxy (by simpa using e)
  · obtain ⟨a, _, rfl⟩ := List.mem_map.mp hx
    obtain ⟨b, _, rfl⟩ := List.mem_map.mp hy
    intro e
    exact hpq (List.append_inj' e rfl).1
theorem pathsN_nodup (h : Int) : ∀ n, (pathsN h n).Nodup
  | 0 => by simp [pathsN]
  | n + 1 => nexts_nodup (pathsN_nodup h n)
theorem mem_lpaths {h n : Int} (h2 : 2 ≤ h) (n1 : 1 ≤ n) {p : List Int} : p ∈ lpaths h n ↔ n ≤ h - 1 ∧ p ∈ pathsN h (n - 1).toNat := by
  unfold lpaths
  rw [List.mem_filter]
  constructor
  · rintro ⟨hp, hl⟩
    have hs := pathsN_size _ p hp
    have hl' : (p.length : Int) = n := by simpa using hl
    have : n ≤ h - 1 := by omega
    rw [show min n (h - 1) = n by omega] at hp
    exact ⟨this, hp⟩
  · rintro ⟨hn, hp⟩
    rw [show min n (h - 1) = n by omega]
    have hs := pathsN_size _ p hp
    refine ⟨hp, ?_⟩
    simp only [beq_iff_eq]
    omega
noncomputable def dom (h most hand : Int) (ss : List Int) : List (List Int) := (ss.flatMap (lpaths h)).filter fun p => !p.contains hand
theorem lpaths_size {h n : Int} {p : List Int} (hp : p ∈ lpaths h n) : (p.length : Int) = n := by
  unfold lpaths at hp
  have := (List.mem_filter.mp hp).2
  simpa using this
theorem lpaths_len {h n : Int} (h1 : h ≤ 10) (n1 : n ≤ 3) : (lpaths h n).length ≤ 100 := by
  unfold lpaths
  have := List.length_filter_le (fun p : List Int => ((p.length : Int) == n)) (pathsN h (min n (h - 1) - 1).toNat)
  have h2 := pathsN_len h1 (min n (h - 1) - 1).toNat
  have h3 : 10 ^ (min n (h - 1) - 1).toNat ≤ 10 ^ 2 := Nat.pow_le_pow_right (by decide) (by walk_at "rm")
  omega
theorem dom_nodup {h most hand : Int} {ss : List Int} (hs : ss.Nodup) : (dom h most hand ss).Nodup := by
  refine List.Pairwise.filter _ (List.pairwise_flatMap.mpr ⟨fun n _ => List.Pairwise.filter _ (pathsN_nodup _ _), hs.imp fun {a b} hab x hx y hy e => ?_⟩)
  subst e
  exact hab ((lpaths_size hx).symm.trans (lpaths_size hy))
theorem mem_dom {h most hand : Int} {p : List Int} (h2 : 2 ≤ h) : p ∈ dom h most hand (rngL 1 (most + 2)) ↔ ∃ n : Int, 1 ≤ n ∧ n ≤ most + 1 ∧ n ≤ h - 1 ∧ p ∈ pathsN h (n - 1).toNat ∧ hand ∉ p := by
  unfold dom
  rw [List.mem_filter, List.mem_flatMap]
  constructor
  · rintro ⟨⟨n, hn, hp⟩, hh⟩
    rw [mem_rngL] at hn
    obtain ⟨a, b⟩ := (mem_lpaths h2 hn.1).mp hp
    exact ⟨n, hn.1, by omega, a, b, by simpa using hh⟩
  · rintro ⟨n, h1, h2', h3, h4, h5⟩
    exact ⟨⟨n, mem_rngL.mpr ⟨h1, by omega⟩, (mem_lpaths h2 h1).mpr ⟨h3, h4⟩⟩, by simpa using h5⟩
theorem part_len {α : Type} (f : α → Bool) : ∀ l : List α, (l.filter f).length + (l.filter fun x => !f x).length = l.length
  | [] => rfl
  | a :: l => by
    have ih := part_len f l
    cases h : f a <;> simp [h] <;> omega
theorem hears_cnt {h : Int} {p : List Int} (hn : p.Nodup) (hs : ∀ x ∈ p, 0 ≤ x ∧ x < h) : (hears h p).length + p.length = h.toNat := by
  have h1 := part_len (fun x => !p.contains x) (rngL 0 h)
  rw [rngL_len, Int.sub_zero] at h1
  have h2 : ((rngL 0 h).filter fun x => !(!p.contains x)).length = p.length := by
    refine Nat.le_antisymm (sub_len (List.Pairwise.filter _ (rngL_nodup 0 h)) fun x hx => ?_) (sub_len hn fun x hx => ?_)
    · simpa using (List.mem_filter.mp hx).2
    · exact List.mem_filter.mpr ⟨mem_rngL.mpr (hs x hx), by simpa using hx⟩
  rw [← h1, h2]; rfl
noncomputable def rnd (h : Int) (k : Nat) : List (List Int) := (pathsN h k).filter fun p => decide (0 < (hears h p).length)
theorem rnd_eq {h n : Int} (h2 : 2 ≤ h) (n1 : 1 ≤ n) : rnd h (n - 1).toNat = lpaths h n := by
  unfold rnd lpaths
  by_cases hn : n ≤ h - 1
  · rw [show min n (h - 1) = n by omega]
    rw [List.filter_eq_self.mpr, List.filter_eq_self.mpr]
    · intro p hp
      have := pathsN_size _ p hp
      simp only [beq_iff_eq]; omega
    · intro p hp
      obtain ⟨a, b, _⟩ := pathsN_ok (by walk_at "rm") _ p hp
      have h1 := hears_cnt a b
      have h2 := pathsN_size _ p hp
      simp only [decide_eq_true_eq]; omega
  · rw [List.filter_eq_nil_iff.mpr, List.filter_eq_nil_iff.mpr]
    · intro p hp
      have := pathsN_size _ p hp
      simp only [beq_iff_eq]; omega
    · intro p hp
      obtain ⟨a, b, _⟩ := pathsN_ok (by walk_at "rm") _ p hp
      have h1 := hears_cnt a b
      have h2 := pathsN_size _ p hp
      simp only [decide_eq_true_eq]; omega
theorem nexts_rnd (h : Int) (P : List (List Int)) : nexts h (P.filter fun p => decide (0 < (hears h p).length)) = nexts h P := by
  induction P with
  | nil => rfl
  | cons p r ih =>
    have e : ∀ r', nexts h (p :: r') = ((hears h p).map fun x => p ++ [x]) ++ nexts h r' := fun r' => by simp [nexts]
    cases hp : decide (0 < (hears h p).length) with
    | true => rw [List.filter_cons_of_pos (by simpa using hp), e, e, ih]
    | false =>
      rw [List.filter_cons_of_neg (by simpa using hp), e, ih]
      have : hears h p = [] := by
        simp only [decide_eq_false_iff_not] at hp
        exact List.length_eq_zero_iff.mp (by walk_at "rm")
      rw [this]; rfl
noncomputable def rnds (h : Int) (m : Nat) : List (List Int) := (List.range m).flatMap (rnd h)
theorem rnds_succ (h : Int) (m : Nat) : rnds h (m + 1) = rnds h m ++ rnd h m := by
  unfold rnds; rw [List.range_succ, List.flatMap_append]; simp
theorem rnds_of {h : Int} : ∀ {m : Nat} {n : Int}, 1 ≤ n → ((rnds h m).filter fun p => ((p.length : Int) == n)) = if n ≤ m then rnd h (n - 1).toNat else []
  | 0, n, n1 => by rw [if_neg (by walk_at "rm")]; rfl
  | m + 1, n, n1 => by
    rw [rnds_succ, List.filter_append, rnds_of n1]
    by_cases e : n = m + 1
    · rw [if_neg (by walk_at "rm"), if_pos (by walk_at "rm"), List.nil_append, show (n - 1).toNat = m by omega, List.filter_eq_self.mpr]
      intro p hp
      have := pathsN_size _ p (List.mem_filter.mp hp).1
      simp only [beq_iff_eq]; omega
    · have e2 : (rnd h m).filter (fun p => ((p.length : Int) == n)) = [] := by
        rw [List.filter_eq_nil_iff]
        intro p hp
        have := pathsN_size _ p (List.mem_filter.mp hp).1
        simp only [beq_iff_eq]; omega
      rw [e2, List.append_nil]
      by_cases h1 : n ≤ m
      · rw [if_pos h1, if_pos (by walk_at "rm")]
      · rw [if_neg h1, if_neg (by walk_at "rm")]

noncomputable def ph (p : List Int) : Int := reduceHash (Builtin.Tuple.tupleHashOf (p.map hashInt))
theorem hKs_ints (w : World) (p : List Int) : hKs w (p.map .int) = p.map hashInt := by
  induction p with
  | nil => rfl
  | cons a r ih => rw [List.map_cons, List.map_cons]; unfold hKs; rw [ih]; rfl
theorem hK_pth (w : World) (p : List Int) : hK w (pth p) = ph p := by
  show reduceHash (Builtin.Tuple.tupleHashOf (hKs w (p.map .int))) = _
  rw [hKs_ints]; rfl
noncomputable def ten : List Int := (List.range 10).map Int.ofNat
noncomputable def allP : List (List Int) := [0] :: (ten.map fun a => [0, a]) ++ ten.flatMap fun a => ten.map fun b => [0, a, b]
noncomputable def allH : List Int := allP.map ph
theorem mem_ten {x : Int} (h0 : 0 ≤ x) (h1 : x < 10) : x ∈ ten := List.mem_map.mpr ⟨x.toNat, List.mem_range.mpr ((Int.toNat_lt h0).mpr h1), Int.toNat_of_nonneg h0⟩
theorem dom_allP {h most hand : Int} {p : List Int} (h2 : 2 ≤ h) (h3 : h ≤ 10) (hm : most ≤ 2) (hp : p ∈ dom h most hand (rngL 1 (most + 2))) : p ∈ allP := by
  obtain ⟨n, n1, n2, n3, hp', _⟩ := (mem_dom h2).mp hp
  have hsz := pathsN_size _ p hp'
  obtain ⟨_, q2, q3⟩ := pathsN_ok (by walk_at "rm") _ p hp'
  have hlen : p.length ≤ 3 := by omega
  cases p with
  | nil => cases q3
  | cons a p =>
    injection q3 with q3; subst q3
    cases p with
    | nil => exact List.mem_append_left _ List.mem_cons_self
    | cons b p =>
      have hb := q2 b (by simp)
      have hb := mem_ten hb.1 (Int.lt_of_lt_of_le hb.2 h3)
      cases p with
      | nil => exact List.mem_append_left _ (List.mem_cons_of_mem _ (List.mem_map.mpr ⟨b, hb, rfl⟩))
      | cons d p =>
        have hd := q2 d (by simp)
        have hd := mem_ten hd.1 (Int.lt_of_lt_of_le hd.2 h3)
        cases p with
        | nil => exact List.mem_append_right _ (List.mem_flatMap.mpr ⟨b, hb, List.mem_map.mpr ⟨d, hd, rfl⟩⟩)
        | cons _ _ => simp at hlen
theorem inj_of_nodup {α β : Type} {f : α → β} : ∀ {l : List α}, (l.map f).Nodup → ∀ x ∈ l, ∀ y ∈ l, f x = f y → x = y
  | [], _, x, hx, _, _, _ => by cases hx
  | a :: l, hn, x, hx, y, hy, e => by
    rw [List.map_cons, List.nodup_cons] at hn
    by_cases hxa : x = a
    · by_cases hya : y = a
      · rw [hxa, hya]
      · have hy' := (List.mem_cons.mp hy).resolve_left hya
        exact absurd (List.mem_map.mpr ⟨y, hy', by rw [← e, hxa]⟩) hn.1
    · have hx' := (List.mem_cons.mp hx).resolve_left hxa
      by_cases hya : y = a
      · exact absurd (List.mem_map.mpr ⟨x, hx', by rw [e, hya]⟩) hn.1
      · exact inj_of_nodup hn.2 x hx' y ((List.mem_cons.mp hy).resolve_left hya) e
theorem allH_nodup : allH.Nodup := by decide +kernel
theorem dom_hashes {h most hand : Int} (w : World) (h2 : 2 ≤ h) (h3 : h ≤ 10) (hm : most ≤ 2) : ((dom h most hand (rngL 1 (most + 2))).map fun p => hK w (pth p)).Nodup := by
  have e : (dom h most hand (rngL 1 (most + 2))).map (fun p => hK w (pth p)) = (dom h most hand (rngL 1 (most + 2))).map ph := List.map_congr_left fun p _ => hK_pth w p
  rw [e]
  refine List.pairwise_map.mpr (List.Pairwise.imp_of_mem (fun {a b} ha hb hab e => ?_) (dom_nodup (most := most) (rngL_nodup 1 (most + 2))))
  exact hab (inj_of_nodup allH_nodup a (dom_allP h2 h3 hm ha) b (dom_allP h2 h3 hm hb) e)

theorem pth_add (p : List Int) (x : Int) : AV.tup (p.map AV.int ++ [AV.int x]) = pth (p ++ [x]) := by unfold pth; rw [List.map_append]; rfl
theorem pth_ne {p : List Int} (h : p ≠ []) : p.map AV.int ≠ [] := by simpa using h

theorem within_spec {Q : AV → Sto → Prop} (T : TopG g (KK g)) (hd : c.A.depth < recursionLimit) {t a b : Int} (q : Q (.bool (decide (a ≤ t) && decide (t ≤ b))) σ) : cal c (.ref 106) [.int t, .int a, .int b] σ Q := by
  refine cal_fn (rest := []) (fn_is_within T) (by kernel_rfl) hd rfl fun c' hsc hfn hA => ?_
  show es c' [(("thing" : Str), some _), (("least" : Str), some _), (("most" : Str), some _)] (execs (_ :: _) c'.env) σ _
  walk_at "go"
  (refine ev_callB PyProof.Rows.boot_isinstance (.builtin _) T (by assumption) nb_isinstance (by rfl) ?_; walk_at "go")
  (refine ev_bltN PyProof.Rows.boot_int T (by assumption) nb_int (by rfl) ?_; walk_at "go")
  refine cal_isInt ?_
  walk_at "go"
  (refine ev_callB PyProof.Rows.boot_isinstance (.builtin _) T (by assumption) nb_isinstance (by rfl) ?_; walk_at "go")
  (refine ev_bltN PyProof.Rows.boot_bool T (by assumption) nb_bool (by rfl) ?_; walk_at "go")
  refine cal_isBool ?_
  walk_at "go"
  all_goals
    rename_i h
    simp only [h, Bool.true_and, Bool.false_and] at q ⊢
    exact q
theorem okS_ascii {x : Str} (h : okS x) : x.cps.all (· < 128) = true := by
  rw [← Array.all_toList, List.all_eq_true]
  intro d hd
  have := h.2.2 d hd
  simp only [decide_eq_true_eq]; omega
theorem letters_all : ∀ d, d < 26 → (!(Builtin.Str.occurrences (Str.ofString "abcdefghijklmnopqrstuvwxyz") ⟨#[97 + d]⟩ 0 (Str.ofString "abcdefghijklmnopqrstuvwxyz").length 1).isEmpty) = true := by decide +kernel
theorem sign_spec {Q : AV → Sto → Prop} (T : TopG g (KK g)) (hd : c.A.depth < recursionLimit) (hh : c.A.handled = none) {x : Str} (hx : okS x) (q : Q (.bool true) σ) : cal c (.ref 111) [.str x] σ Q := by
  refine cal_fn (rest := []) (fn_is_sign T) (by kernel_rfl) hd rfl fun c' hsc hfn hA => ?_
  have hh' : c'.A.handled = none := by rw [hA]; exact hh
  show es c' [(("thing" : Str), some _)] (execs (_ :: _) c'.env) σ _
  have h1 := hx.1
  have h2 := hx.2.1
  walk_at "go"
  (refine ev_callB PyProof.Rows.boot_isinstance (.builtin _) T (by assumption) nb_isinstance (by rfl) ?_; walk_at "go")
  (refine ev_bltN PyProof.Rows.boot_str T (by assumption) nb_str (by rfl) ?_; walk_at "go")
  refine cal_isStr ?_
  walk_at "go"
  (refine ev_callB boot_len (.builtin _) T (by assumption) nb_len (by rfl) ?_; walk_at "go")
  refine cal_len_str (by walk_at "rm") ?_
  walk_at "go"
  · (refine ev_globI T (by assumption) g_MOST_LETTERS (by rfl) ?_; walk_at "go")
    · rename_i e; simp at e; omega
    · (refine ev_callB PyProof.Rows.boot_all (.builtin _) T (by assumption) nb_all (by rfl) ?_; walk_at "go")
      refine ev_mapP [] (fun d : Nat => AV.str ⟨#[d]⟩) x.cps.toList (fun _ => AV.bool true) hsc (by rfl) (by walk_at "ctor") ?_ ?_ ?_ ?_
      · rw [sizeLine_eq, Array.length_toList]
        have : x.cps.size = x.length := rfl
        omega
      · walk_at "go"
        exact ⟨rfl, iter_str hh' (okS_ascii hx)⟩
      · intro c₂ hA₂ hsc₂ d hdm
        obtain ⟨d1, d2⟩ := hx.2.2 d hdm
        walk_at "go"
        (refine ev_globS T (by assumption) g_LETTERS (by rfl) ?_; walk_at "go")
        refine cmp_ins ?_
        have := letters_all (d - 97) (by walk_at "rm")
        rw [show 97 + (d - 97) = d by omega] at this
        rw [this]
        exact ⟨rfl, rfl⟩
      · walk_at "go"
        have e : x.cps.toList.map (fun _ => AV.bool true) = (x.cps.toList.map fun _ => true).map AV.bool := by rw [List.map_map]; rfl
        rw [e]
        refine cal_all hh' ?_
        walk_at "go"
        have e2 : (x.cps.toList.map fun _ => true).all id = true := by simp
        rw [e2]
        exact q
  · rename_i e; simp at e; omega
theorem needTable_spec {Q : AV → Sto → Prop} (T : TopG g (KK g)) (hd : c.A.depth + 1 < recursionLimit) {h m : Int} (h0 : 2 ≤ h) (h1 : h ≤ 10) (m0 : 0 ≤ m) (m1 : m ≤ 2) (q : Q .none σ) : cal c (.ref 118) [.int h, .int m] σ Q := by
  refine cal_fn (rest := []) (fn_need_table T) (by kernel_rfl) (by walk_at "rm") rfl fun c' hsc hfn hA => ?_
  have hd' : c'.A.depth < recursionLimit := by rw [hA]; exact hd
  show es c' [(("hands" : Str), some _), (("most" : Str), some _)] (execs (_ :: _) c'.env) σ _
  walk_at "go"
  (refine ev_callF T (by assumption) n_is_within (by rfl) k_is_within ?_; walk_at "go")
  (refine ev_globI T (by assumption) g_LEAST_HANDS (by rfl) ?_; walk_at "go")
  (refine ev_globI T (by assumption) g_MOST_HANDS (by rfl) ?_; walk_at "go")
  refine within_spec T hd' ?_
  rw [decide_eq_true h0, decide_eq_true h1, Bool.and_self]
  walk_at "go"
  (refine ev_callF T (by assumption) n_is_within (by rfl) k_is_within ?_; walk_at "go")
  (refine ev_globI T (by assumption) g_MOST_LIARS (by rfl) ?_; walk_at "go")
  refine within_spec T hd' ?_
  rw [decide_eq_true m0, decide_eq_true m1, Bool.and_self]
  walk_at "go"
  exact q
theorem needSign_spec {Q : AV → Sto → Prop} (T : TopG g (KK g)) (hd : c.A.depth + 1 < recursionLimit) (hh : c.A.handled = none) {x : Str} (hx : okS x) (q : Q .none σ) : cal c (.ref 125) [.str x] σ Q := by
  refine cal_fn (rest := []) (fn_need_sign T) (by kernel_rfl) (by walk_at "rm") rfl fun c' hsc hfn hA => ?_
  have hd' : c'.A.depth < recursionLimit := by rw [hA]; exact hd
  have hh' : c'.A.handled = none := by rw [hA]; exact hh
  show es c' [(("thing" : Str), some _)] (execs (_ :: _) c'.env) σ _
  walk_at "go"
  (refine ev_callF T (by assumption) n_is_sign (by rfl) k_is_sign ?_; walk_at "go")
  refine sign_spec T hd' hh' hx ?_
  walk_at "go"
  exact q
theorem needHand_spec {Q : AV → Sto → Prop} (T : TopG g (KK g)) (hd : c.A.depth + 1 < recursionLimit) {h x : Int} (h0 : 0 ≤ x) (h1 : x < h) (q : Q .none σ) : cal c (.ref 132) [.int h, .int x] σ Q := by
  refine cal_fn (rest := []) (fn_need_hand T) (by kernel_rfl) (by walk_at "rm") rfl fun c' hsc hfn hA => ?_
  have hd' : c'.A.depth < recursionLimit := by rw [hA]; exact hd
  show es c' [(("hands" : Str), some _), (("thing" : Str), some _)] (execs (_ :: _) c'.env) σ _
  walk_at "go"
  (refine ev_callF T (by assumption) n_is_within (by rfl) k_is_within ?_; walk_at "go")
  refine within_spec T hd' ?_
  rw [decide_eq_true h0, decide_eq_true (show x ≤ h - 1 by omega), Bool.and_self]
  walk_at "go"
  exact q
theorem ints_anyF {p : List Int} {x : Int} (h : x ∉ p) : (p.map AV.int).any (eqA · (.int x)) = false := by rw [ints_any]; simpa using h
theorem needLiars_spec {Q : AV → Sto → Prop} (T : TopG g (KK g)) (hd : c.A.depth + 2 < recursionLimit) (hh : c.A.handled = none) (hu : c.A.units + 20 < cLine) {h : Int} {L : List Int} (hn : L.Nodup) (hL : ∀ x ∈ L, 0 ≤ x ∧ x < h) (hz : L.length ≤ 100) {v : AV} (hv : ∀ c' : Cx g, c'.A.handled = none → Iter c' v (L.map .int)) (q : Q .none σ) :
    cal c (.ref 139) [.int h, v] σ Q := by
  refine cal_fn (rest := ["found", "hand"]) (fn_need_liars T) (by kernel_rfl) (by walk_at "rm") rfl fun c' hsc hfn hA => ?_
  have hd' : c'.A.depth + 1 < recursionLimit := by rw [hA]; exact hd
  have hh' : c'.A.handled = none := by rw [hA]; exact hh
  have hu' : c'.A.units + 10 < cLine := by rw [hA]; show c.A.units + 3 + 10 < cLine; walk_at "rm"
  show es c' [(("hands" : Str), some _), (("liars" : Str), some _), (("found" : Str), none), (("hand" : Str), none)] (execs (_ :: _) c'.env) σ _
  walk_at "go"
  refine ev_list (evl_nil ⟨by decide, .inr fun a ha => ?_⟩)
  walk_at "go"
  refine es_loop (fun l ρ' σ' => ∃ d r : List Int, L = d ++ r ∧ l = r.map AV.int ∧ σ' = σ.set a (.lst (d.map .int)) ∧ ρ' = [(("hands" : Str), some (AV.int h)), (("liars" : Str), some v), (("found" : Str), some (AV.obj a)), (("hand" : Str), none)]) hfn ?_ ?_ ?_
  · walk_at "go"
    exact ⟨_, hv _ hh', [], L, rfl, rfl, rfl, rfl⟩
  · rintro c₂ hA₂ hsc₂ hfn₂ y rest ρ₁ σ₁ ⟨d, r, hdr, hr, rfl, rfl⟩
    rw [hsc] at hsc₂
    rw [← hA₂] at hd' hh' hu'
    cases r with
    | nil => cases hr
    | cons x r =>
      rw [List.map_cons] at hr
      injection hr with e1 e2
      subst e1; subst e2
      obtain ⟨x0, x1⟩ := hL x (by rw [hdr]; simp)
      have hnx : x ∉ d := by
        rw [hdr] at hn
        exact fun hm => (List.nodup_append.mp hn).2.2 x hm x (List.mem_cons_self) rfl
      have hdl : d.length ≤ 100 := by rw [hdr, List.length_append] at hz; omega
      walk_at "go"
      (refine ev_callF T (by assumption) n_need_hand (by rfl) k_need_hand ?_; walk_at "go")
      refine needHand_spec T hd' x0 x1 ⟨trivial, ?_⟩
      walk_at "go"
      refine cmp_in_list (.obj Sto.set_self) (ints_plain d) (by rw [ints_deep]; exact Nat.zero_le _) rfl (by walk_at "rm") ?_
      rw [ints_anyF hnx]
      walk_at "go"
      (refine ev_meth F.plainAttrs_list F.slot_list_append F.type_list_append ?_; walk_at "go")
      refine ⟨.objL Sto.set_self, ?_⟩
      walk_at "go"
      refine cal_append Sto.set_self (by rw [List.length_map, sizeLine_eq]; omega) ⟨trivial, ?_⟩
      walk_at "go"
      refine trn_next (by walk_at "ctor") ⟨d ++ [x], r, by rw [hdr]; simp, rfl, ?_, rfl⟩
      rw [Sto.set_set, List.map_append]; rfl
  · rintro ρ₁ σ₁ ⟨d, r, hdr, hr, rfl, rfl⟩
    have hr0 : r = [] := by cases r with | nil => rfl | cons _ _ => cases hr
    subst hr0
    refine thn_next ?_
    refine es_freeze Sto.set_self (.lst _) (by walk_at "ctor") ?_
    rw [Sto.set_del ha]
    walk_at "go"
    exact q
noncomputable def LV (σ : Sto) (v : AV) (L : List Int) : Prop := Seq σ v (L.map .int) ∨ v = .tup (L.map .int)
theorem LV.set {v : AV} {L : List Int} {d : Addr} {l : List (AV × AV)} {y : AObj} (h : LV σ v L) (hd : σ d = some (.dct l)) : LV (σ.set d y) v L := by
  rcases h with (rfl | ⟨b, rfl, hb⟩) | rfl
  · exact .inl (.inl rfl)
  · refine .inl (.inr ⟨b, rfl, (Sto.set_ne ?_).trans hb⟩)
    rintro rfl; rw [hd] at hb; cases hb
  · exact .inr rfl
theorem cal_listV {Q : AV → Sto → Prop} {v : AV} {L : List Int} (h : LV σ v L) (hz : L.length ≤ 100) (q : Made Q (L.map .int) σ) : cal c (.type "list") [v] σ Q := by
  have hz' : (L.map AV.int).length ≤ sizeLine := by rw [List.length_map, sizeLine_eq]; omega
  rcases h with h | rfl
  · exact cal_list h hz' q
  · exact cal_listT hz' q
theorem needLiarsV {Q : AV → Sto → Prop} (T : TopG g (KK g)) (hd : c.A.depth + 2 < recursionLimit) (hh : c.A.handled = none) (hu : c.A.units + 20 < cLine) {h : Int} {L : List Int} (hn : L.Nodup) (hL : ∀ x ∈ L, 0 ≤ x ∧ x < h) (hz : L.length ≤ 100) {v : AV} (hv : LV σ v L) (q : Q .none σ) :
    cal c (.ref 139) [.int h, v] σ Q := by
  rcases hv with (rfl | ⟨b, rfl, hb⟩) | rfl
  · exact needLiars_spec T hd hh hu hn hL hz (fun _ hh' => iter_list hh' _) q
  · refine cal_lend hb (.lst _) (.skip (.hit .nil)) fun c' hA => ?_
    rw [← hA] at hd hh hu
    exact needLiars_spec T hd hh hu hn hL hz (fun _ hh' => iter_list hh' _) ⟨rfl, q⟩
  · exact needLiars_spec T hd hh hu hn hL hz (fun _ hh' => iter_tup hh' _) q

theorem rnd_len {h : Int} (h1 : h ≤ 10) (k : Nat) : (rnd h k).length ≤ 10 ^ k := Nat.le_trans (List.length_filter_le _ _) (pathsN_len h1 k)
theorem rnds_len {h : Int} (h1 : h ≤ 10) : ∀ m, m ≤ 3 → (rnds h m).length ≤ 200
  | 0, _ => by simp [rnds]
  | 1, _ => by have := rnd_len h1 0; simp [rnds]; omega
  | 2, _ => by have a := rnd_len h1 0; have b := rnd_len h1 1; rw [rnds_succ, rnds_succ]; simp [rnds]; omega
  | 3, _ => by have a := rnd_len h1 0; have b := rnd_len h1 1; have d := rnd_len h1 2; rw [rnds_succ, rnds_succ, rnds_succ]; simp [rnds]; omega
theorem pths_append (P : List (List Int)) (p : List Int) : P.map pth ++ [pth p] = (P ++ [p]).map pth := by simp
theorem longer_spec {Q : AV → Sto → Prop} (T : TopG g (KK g)) (hd : c.A.depth + 1 < recursionLimit) (hh : c.A.handled = none) (hu : c.A.units + 40 < cLine) {h : Int} (h0 : 0 ≤ h) (h1 : h ≤ 10) {P : List (List Int)} (hP : P.length ≤ 100) (hne : ∀ p ∈ P, p ≠ [] ∧ p.length ≤ 10) (q : Q (.list ((nexts h P).map pth)) σ) :
    cal c (.ref 151) [.int h, .list (P.map pth)] σ Q := by
  refine cal_fn (rest := ["found", "path", "hand"]) (fn_longer_paths T) (by kernel_rfl) (by walk_at "rm") rfl fun c' hsc hfn hA => ?_
  have hh' : c'.A.handled = none := by rw [hA]; exact hh
  have hu' : c'.A.units + 30 < cLine := by rw [hA]; show c.A.units + 3 + 30 < cLine; walk_at "rm"
  have hd' : c'.A.depth < recursionLimit := by rw [hA]; exact hd
  show es c' [(("hands" : Str), some _), (("row" : Str), some _), (("found" : Str), none), (("path" : Str), none), (("hand" : Str), none)] (execs (_ :: _) c'.env) σ _
  walk_at "go"
  refine ev_list (evl_nil ⟨by decide, .inr fun a ha => ?_⟩)
  walk_at "go"
  refine es_loop (fun l ρ' σ' => ∃ d r : List (List Int), P = d ++ r ∧ l = r.map pth ∧ σ' = σ.set a (.lst ((nexts h d).map pth)) ∧ ρ' = [(("hands" : Str), some (AV.int h)), (("row" : Str), some (AV.list (P.map pth))), (("found" : Str), some (AV.obj a)), (("path" : Str), none), (("hand" : Str), none)]) hfn ?_ ?_ ?_
  · walk_at "go"
    exact ⟨_, iter_list hh' _, [], P, rfl, rfl, rfl, rfl⟩
  · rintro c₂ hA₂ hsc₂ hfn₂ y rest ρ₁ σ₁ ⟨d, r, hdr, hr, rfl, rfl⟩
    rw [hsc] at hsc₂
    rw [← hA₂] at hd' hh' hu'
    cases r with
    | nil => cases hr
    | cons p r =>
      rw [List.map_cons] at hr
      injection hr with e1 e2
      subst e1; subst e2
      obtain ⟨hp, hp10⟩ := hne p (by rw [hdr]; simp)
      have hnd : (nexts h d).length ≤ 1000 := by
        have h2 := nexts_len h1 d
        have h3 : d.length ≤ 100 := by rw [hdr, List.length_append] at hP; omega
        omega
      refine upd_ex (by walk_at "ctor") ?_
      walk_at "go"
      refine es_loop (fun l ρ' σ' => ∃ d' r' : List Int, hears h p = d' ++ r' ∧ l = r'.map AV.int ∧ σ' = σ.set a (.lst ((nexts h d ++ d'.map fun x => p ++ [x]).map pth)) ∧ ρ' = [(("hands" : Str), some (AV.int h)), (("row" : Str), some (AV.list (P.map pth))), (("found" : Str), some (AV.obj a)), (("path" : Str), some (pth p)), (("hand" : Str), none)]) hfn₂ ?_ ?_ ?_
      · (refine ev_callF T (by assumption) n_hearers (by rfl) k_hearers ?_; walk_at "go")
        refine hearers_spec T hd' hh' (by walk_at "rm") h0 (by walk_at "rm") ?_
        exact ⟨_, iter_list hh' _, [], hears h p, rfl, rfl, by simp, rfl⟩
      · rintro c₃ hA₃ hsc₃ hfn₃ y rest ρ₁ σ₁ ⟨d', r', hdr', hr', rfl, rfl⟩
        rw [← hA₃] at hh' hu'
        cases r' with
        | nil => cases hr'
        | cons x r' =>
          rw [List.map_cons] at hr'
          injection hr' with e1 e2
          subst e1; subst e2
          have hlen := hears_len h p
          have hd'l : d'.length ≤ 10 := by rw [hdr', List.length_append] at hlen; omega
          walk_at "go"
          (refine ev_meth F.plainAttrs_list F.slot_list_append F.type_list_append ?_; walk_at "go")
          refine ⟨.objL Sto.set_self, ?_⟩
          walk_at "go"
          refine ev_tuple ?_
          walk_at "go"
          refine ⟨by show 1 ≤ sizeLine; rw [sizeLine_eq]; decide, ?_⟩
          refine op_addt (pth_ne hp) (by simp) (by simp [sizeLine_eq]; omega) ?_
          rw [pth_add]
          walk_at "go"
          refine cal_append Sto.set_self (by simp only [List.length_map, List.length_append, sizeLine_eq]; omega) ⟨trivial, ?_⟩
          walk_at "go"
          refine trn_next (by walk_at "ctor") ⟨d' ++ [x], r', by rw [hdr']; simp, rfl, ?_, rfl⟩
          rw [Sto.set_set, pths_append]; simp
      · rintro ρ₁ σ₁ ⟨d', r', hdr', hr', rfl, rfl⟩
        have hr0 : r' = [] := by cases r' with | nil => rfl | cons _ _ => cases hr'
        subst hr0
        rw [List.append_nil] at hdr'
        walk_at "go"
        refine trn_next (by walk_at "ctor") ⟨d ++ [p], r, by rw [hdr]; simp, rfl, ?_, rfl⟩
        rw [← hdr']
        simp [nexts]
  · rintro ρ₁ σ₁ ⟨d, r, hdr, hr, rfl, rfl⟩
    have hr0 : r = [] := by cases r with | nil => rfl | cons _ _ => cases hr
    subst hr0
    rw [List.append_nil] at hdr
    refine thn_next (es_one (es_ret_freeze ?_))
    walk_at "go"
    refine ⟨a, _, _, rfl, Sto.set_self, .lst _, ?_⟩
    rw [Sto.set_del ha, ← hdr]
    exact q
theorem tpaths_spec {Q : AV → Sto → Prop} (T : TopG g (KK g)) (hd : c.A.depth + 3 < recursionLimit) (hh : c.A.handled = none) (hu : c.A.units + 60 < cLine) {h m : Int} (h0 : 2 ≤ h) (h1 : h ≤ 10) (m0 : 0 ≤ m) (m1 : m ≤ 2) (q : Q (.list ((rnds h (m + 1).toNat).map pth)) σ) :
    cal c (.ref 156) [.int h, .int m] σ Q := by
  refine cal_fn (rest := ["found", "row", "turn"]) (fn_paths T) (by kernel_rfl) (by walk_at "rm") rfl fun c' hsc hfn hA => ?_
  have hh' : c'.A.handled = none := by rw [hA]; exact hh
  have hu' : c'.A.units + 50 < cLine := by rw [hA]; show c.A.units + 3 + 50 < cLine; walk_at "rm"
  have hd' : c'.A.depth + 2 < recursionLimit := by rw [hA]; show c.A.depth + 1 + 2 < _; walk_at "rm"
  show es c' [(("hands" : Str), some _), (("most" : Str), some _), (("found" : Str), none), (("row" : Str), none), (("turn" : Str), none)] (execs (_ :: _) c'.env) σ _
  walk_at "go"
  (refine ev_callF T (by assumption) n_need_table (by rfl) k_need_table ?_; walk_at "go")
  refine needTable_spec T (by walk_at "rm") h0 h1 m0 m1 ⟨trivial, ?_⟩
  walk_at "go"
  refine ev_list (evl_nil ⟨by decide, .inr fun a ha => ?_⟩)
  walk_at "go"
  refine ev_list (evl_cons (ev_tuple ?_))
  walk_at "go"
  refine ⟨by decide, ?_⟩
  walk_at "go"
  refine ⟨by decide, .inl ?_⟩
  walk_at "go"
  refine es_loop (fun l ρ' σ' => ∃ j : Nat, ∃ r : List Int, l = r.map AV.int ∧ j + r.length = (m + 1).toNat ∧ σ' = σ.set a (.lst ((rnds h j).map pth)) ∧ ρ' = [(("hands" : Str), some (AV.int h)), (("most" : Str), some (AV.int m)), (("found" : Str), some (AV.obj a)), (("row" : Str), some (AV.list ((pathsN h j).map pth))), (("turn" : Str), none)]) hfn ?_ ?_ ?_
  · (refine ev_callB PyProof.Rows.boot_range (.type _) T (by assumption) nb_range (by rfl) ?_; walk_at "go")
    exact cal_range1 ⟨_, iter_rng hh' (by decide) (by decide) (by walk_at "rm") (by walk_at "rm"), 0, rngL 0 (m + 1), rfl, by rw [rngL_len]; omega, rfl, rfl⟩
  · rintro c₂ hA₂ hsc₂ hfn₂ y rest ρ₁ σ₁ ⟨j, r, hr, hj, rfl, rfl⟩
    rw [hsc] at hsc₂
    rw [← hA₂] at hd' hh' hu'
    cases r with
    | nil => cases hr
    | cons k r =>
      rw [List.map_cons] at hr
      injection hr with e1 e2
      subst e1; subst e2
      have hj2 : j ≤ 2 := by rw [List.length_cons] at hj; omega
      have hjl := pathsN_len h1 j
      have hrl := rnd_len h1 j
      have hj3 : 10 ^ j ≤ 10 ^ 2 := Nat.pow_le_pow_right (by decide) hj2
      have hrs := rnds_len h1 j (by walk_at "rm")
      walk_at "go"
      refine es_filtP [(("hands" : Str), some (AV.int h))] pth (pathsN h j) (fun p => decide (0 < (hears h p).length)) pth hfn₂ hsc₂ (by rfl) (by rfl) (by walk_at "ctor") (by rw [sizeLine_eq]; omega) ?_ ?_ ?_
      · walk_at "go"
        exact ⟨rfl, iter_list hh' _⟩
      · intro c₃ hA₃ hsc₃ p hp
        rw [← hA₃] at hh' hu' hd'
        refine ⟨?_, fun _ => ?_⟩
        · walk_at "go"
          (refine ev_callB boot_len (.builtin _) T (by assumption) nb_len (by rfl) ?_; walk_at "go")
          (refine ev_callF T (by assumption) n_hearers (by rfl) k_hearers ?_; walk_at "go")
          refine hearers_spec T (by walk_at "rm") hh' (by walk_at "rm") (by walk_at "rm") (by walk_at "rm") ?_
          have hlen := hears_len h p
          walk_at "go"
          refine cal_len_list .list (by rw [List.length_map]; omega) ?_
          walk_at "go"
          rw [List.length_map]
          exact ⟨by simp, rfl⟩
        · walk_at "go"
          exact ⟨rfl, rfl⟩
      · refine made_frz (upd_ex (by walk_at "ctor") ?_)
        walk_at "go"
        (refine ev_meth F.plainAttrs_list F.slot_list_extend F.type_list_extend ?_; walk_at "go")
        refine ⟨.objL Sto.set_self, ?_⟩
        walk_at "go"
        refine cal_extend Sto.set_self .list (by intro e; cases e) (by rw [List.length_map, List.length_map, sizeLine_eq]; unfold rnd at hrl; omega) ⟨trivial, ?_⟩
        walk_at "go"
        (refine ev_callF T (by assumption) n_longer_paths (by rfl) k_longer_paths ?_; walk_at "go")
        refine longer_spec T (by walk_at "rm") hh' (by walk_at "rm") (by walk_at "rm") h1 (by unfold rnd at hrl; omega) (fun p hp => ?_) ?_
        · have := pathsN_size j p (List.mem_filter.mp hp).1
          exact ⟨(by rintro rfl; cases this), by omega⟩
        rw [nexts_rnd, show nexts h (pathsN h j) = pathsN h (j + 1) from rfl]
        walk_at "go"
        refine trn_next (by walk_at "ctor") ⟨j + 1, r, rfl, by rw [List.length_cons] at hj; omega, ?_, rfl⟩
        rw [Sto.set_set, rnds_succ, List.map_append]; rfl
  · rintro ρ₁ σ₁ ⟨j, r, hr, hj, rfl, rfl⟩
    have hr0 : r = [] := by cases r with | nil => rfl | cons _ _ => cases hr
    subst hr0
    refine thn_next (es_one (es_ret_freeze ?_))
    walk_at "go"
    refine ⟨a, _, _, rfl, Sto.set_self, .lst _, ?_⟩
    rw [Sto.set_del ha, show j = (m + 1).toNat by simpa using hj]
    exact q
theorem pathsOf_spec {Q : AV → Sto → Prop} (T : TopG g (KK g)) (hd : c.A.depth + 4 < recursionLimit) (hh : c.A.handled = none) (hu : c.A.units + 70 < cLine) {h m n : Int} (h0 : 2 ≤ h) (h1 : h ≤ 10) (m0 : 0 ≤ m) (m1 : m ≤ 2) (n0 : 1 ≤ n) (n1 : n ≤ m + 1) (q : Q (.list ((lpaths h n).map pth)) σ) :
    cal c (.ref 161) [.int h, .int m, .int n] σ Q := by
  refine cal_fn (rest := []) (fn_paths_of T) (by kernel_rfl) (by walk_at "rm") rfl fun c' hsc hfn hA => ?_
  have hh' : c'.A.handled = none := by rw [hA]; exact hh
  have hu' : c'.A.units + 60 < cLine := by rw [hA]; show c.A.units + 3 + 60 < cLine; walk_at "rm"
  have hd' : c'.A.depth + 3 < recursionLimit := by rw [hA]; show c.A.depth + 1 + 3 < _; walk_at "rm"
  show es c' [(("hands" : Str), some _), (("most" : Str), some _), (("size" : Str), some _)] (execs (_ :: _) c'.env) σ _
  have hrs := rnds_len h1 (m + 1).toNat (by walk_at "rm")
  walk_at "go"
  refine ev_filtP [(("size" : Str), some (AV.int n))] pth (rnds h (m + 1).toNat) (fun p => ((p.length : Int) == n)) pth hsc (by rfl) (by walk_at "ctor") (by rw [sizeLine_eq]; omega) ?_ ?_ ?_
  · (refine ev_callF T (by assumption) n_paths (by rfl) k_paths ?_; walk_at "go")
    refine tpaths_spec T (by walk_at "rm") hh' (by walk_at "rm") h0 h1 m0 m1 ?_
    exact ⟨rfl, iter_list hh' _⟩
  · intro c₂ hA₂ hsc₂ p hp
    have hps : p.length ≤ 3 := by
      obtain ⟨k, hk, hp⟩ := List.mem_flatMap.mp hp
      have := pathsN_size k p (List.mem_filter.mp hp).1
      rw [List.mem_range] at hk
      omega
    refine ⟨?_, fun _ => ?_⟩
    · walk_at "go"
      (refine ev_callB boot_len (.builtin _) T (by assumption) nb_len (by rfl) ?_; walk_at "go")
      refine cal_len_tup (by rw [List.length_map]; omega) ?_
      rw [List.length_map]
      walk_at "go"
      exact ⟨rfl, rfl⟩
    · walk_at "go"
      exact ⟨rfl, rfl⟩
  · walk_at "go"
    rw [rnds_of n0, if_pos (by walk_at "rm"), rnd_eq h0 n0]
    exact q

noncomputable abbrev Lies := List ((List Int × Int) × Option Str)
noncomputable def lkey (k : List Int × Int) : AV := .tup [pth k.1, .int k.2]
theorem lkey_tkey (k : List Int × Int) : tkey (lkey k) = true := by
  show (areKeys [pth k.1, .int k.2] && decide (deepL [pth k.1, .int k.2] ≤ 1)) = true
  have e1 : areKeys [pth k.1, .int k.2] = true := by
    show (areKeys (k.1.map .int) && _) = true
    rw [ints_keys]; rfl
  have e2 : deepL [pth k.1, .int k.2] = 1 := by
    show max (deepL (k.1.map .int) + 1) _ = 1
    rw [ints_deep]; rfl
  rw [e1, e2]; rfl
theorem lkey_inj {a b : List Int × Int} (h : lkey a = lkey b) : a = b := by
  unfold lkey at h
  injection h with h
  injection h with h1 h2
  injection h2 with h2 _
  injection h2 with h2
  exact Prod.ext (pth_inj h1) h2
noncomputable def encL (ls : Lies) : List (AV × AV) := ls.map fun e => (lkey e.1, sg e.2)
noncomputable def lget (ls : Lies) (k : List Int × Int) : Option (Option Str) := (ls.find? fun e => decide (e.1 = k)).map (·.2)
noncomputable def lset (ls : Lies) (k : List Int × Int) (v : Option Str) : Lies := if (lget ls k).isSome then ls.map (fun e => if e.1 = k then (e.1, v) else e) else ls ++ [(k, v)]
theorem encL_tkeys (ls : Lies) : tkeys (encL ls) := fun p hp => by
  obtain ⟨e, _, rfl⟩ := List.mem_map.mp hp
  exact lkey_tkey e.1
theorem dget_enc (ls : Lies) (k : List Int × Int) : dget (encL ls) (lkey k) = (lget ls k).map sg := by
  unfold dget lget encL
  rw [List.find?_map, Option.map_map, Option.map_map]
  have e : ((fun p : AV × AV => @decide (p.1 = lkey k) (Classical.propDecidable _)) ∘ fun e : (List Int × Int) × Option Str => (lkey e.1, sg e.2)) = fun e => decide (e.1 = k) := by
    funext e
    show @decide (lkey e.1 = lkey k) (Classical.propDecidable _) = decide (e.1 = k)
    by_cases h : e.1 = k
    · rw [h]; simp
    · have : ¬ lkey e.1 = lkey k := fun e' => h (lkey_inj e')
      simp [h, this]
  rw [e]
  rfl
open scoped Classical in
theorem dset_enc (ls : Lies) (k : List Int × Int) (v : Option Str) : dset (encL ls) (lkey k) (sg v) = encL (lset ls k v) := by
  unfold dset lset
  rw [dget_enc]
  cases h : lget ls k with
  | none => simp [encL]
  | some w =>
    simp only [Option.map_some, Option.isSome_some, if_true]
    unfold encL
    rw [List.map_map, List.map_map]
    apply List.map_congr_left
    intro e _
    show (if lkey e.1 = lkey k then (lkey e.1, sg v) else (lkey e.1, sg e.2)) = (lkey (if e.1 = k then (e.1, v) else e).1, sg (if e.1 = k then (e.1, v) else e).2)
    by_cases h : e.1 = k
    · rw [if_pos h, if_pos (by rw [h])]
    · rw [if_neg h, if_neg (fun e' => h (lkey_inj e'))]
theorem lget_mem {ls : Lies} {k : List Int × Int} {v : Option Str} (h : lget ls k = some v) : (k, v) ∈ ls := by
  unfold lget at h
  obtain ⟨e, h1, h2⟩ := Option.map_eq_some_iff.mp h
  have := List.find?_some h1
  have e1 : e.1 = k := by simpa using this
  rw [← e1, ← h2]
  exact List.mem_of_find?_eq_some h1
theorem lget_some {ls : Lies} {k : List Int × Int} (h : k ∈ ls.map (·.1)) : ∃ v, lget ls k = some v := by
  unfold lget
  cases e : ls.find? fun e => decide (e.1 = k) with
  | some x => exact ⟨_, rfl⟩
  | none =>
    obtain ⟨x, hx, rfl⟩ := List.mem_map.mp h
    have := List.find?_eq_none.mp e x hx
    simp at this
theorem mem_lset {ls : Lies} {k : List Int × Int} {v : Option Str} {e : (List Int × Int) × Option Str} (h : e ∈ lset ls k v) : e = (k, v) ∨ e ∈ ls := by
  unfold lset at h
  split at h
  · obtain ⟨x, hx, rfl⟩ := List.mem_map.mp h
    by_cases hk : x.1 = k
    · rw [if_pos hk, hk]; exact .inl rfl
    · rw [if_neg hk]; exact .inr hx
  · rcases List.mem_append.mp h with h | h
    · exact .inr h
    · exact .inl (List.mem_singleton.mp h)
theorem lset_len (ls : Lies) (k : List Int × Int) (v : Option Str) : (lset ls k v).length ≤ ls.length + 1 := by
  unfold lset
  split <;> simp
theorem lget_lset (ls : Lies) (k k' : List Int × Int) (v : Option Str) : lget (lset ls k v) k' = if k' = k then some v else lget ls k' := by
  unfold lset
  split
  · rename_i h
    have key : ∀ ls : Lies, lget (ls.map fun e => if e.1 = k then (e.1, v) else e) k' = if k' = k then (lget ls k').map (fun _ => v) else lget ls k' := by
      intro ls
      induction ls with
      | nil => by_cases e : k' = k <;> simp [lget, e]
      | cons e r ih =>
        unfold lget at ih ⊢
        rw [List.map_cons]
        by_cases he : e.1 = k
        · rw [if_pos he]
          by_cases e2 : e.1 = k'
          · rw [List.find?_cons_of_pos (by simpa using e2), List.find?_cons_of_pos (by simpa using e2), if_pos (by rw [← e2, he])]; rfl
          · rw [List.find?_cons_of_neg (by simpa using e2), List.find?_cons_of_neg (by simpa using e2), ih]
        · rw [if_neg he]
          by_cases e2 : e.1 = k'
          · rw [List.find?_cons_of_pos (by simpa using e2), List.find?_cons_of_pos (by simpa using e2), if_neg (by rw [← e2]; exact he)]
          · rw [List.find?_cons_of_neg (by simpa using e2), List.find?_cons_of_neg (by simpa using e2), ih]
    rw [key]
    by_cases e : k' = k
    · subst e
      obtain ⟨w, hw⟩ := Option.isSome_iff_exists.mp h
      rw [if_pos rfl, if_pos rfl, hw]; rfl
    · rw [if_neg e, if_neg e]
  · rename_i h
    have hn : lget ls k = none := by simpa using h
    unfold lget at hn ⊢
    rw [List.find?_append]
    by_cases e : k' = k
    · subst e
      rw [if_pos rfl, Option.map_eq_none_iff.mp hn]
      simp
    · rw [if_neg e]
      have : ¬ k = k' := fun h => e h.symm
      simp [this]
noncomputable def GoodK (h : Int) (L : List Int) (R : List (List Int)) (k : List Int × Int) : Prop := (∀ y ∈ k.1, 0 ≤ y ∧ y < h) ∧ k.1 ∈ R ∧ (∃ p0 y, k.1 = p0 ++ [y] ∧ y ∈ L) ∧ k.2 ∈ hears h k.1
noncomputable def okV : Option Str → Prop
  | some x => okS x
  | none => True
theorem pths_plain (R : List (List Int)) : plainL (R.map pth) = true := by
  induction R with
  | nil => rfl
  | cons p r ih => rw [List.map_cons]; unfold plainL; rw [ih, show plain (pth p) = true from ints_plain p]; rfl
theorem pths_deep (R : List (List Int)) : deepL (R.map pth) ≤ 1 := by
  induction R with
  | nil => exact Nat.zero_le _
  | cons p r ih =>
    rw [List.map_cons]; unfold deepL
    have : deep (pth p) = 1 := by show deepL (p.map .int) + 1 = 1; rw [ints_deep]
    omega
theorem pths_any {R : List (List Int)} {p : List Int} (h : p ∈ R) : (R.map pth).any (eqA · (pth p)) = true :=
  List.any_eq_true.mpr ⟨pth p, List.mem_map.mpr ⟨p, h, rfl⟩, eqA_refl (x := pth p) (ints_plain p)⟩
theorem ints_anyT {p : List Int} {x : Int} (h : x ∈ p) : (p.map AV.int).any (eqA · (.int x)) = true := by rw [ints_any]; simpa using h
theorem seq_last (n : Nat) : seqIndex? (-1) (n + 1) = some n := by
  unfold seqIndex?
  simp
  omega
theorem saying_spec {Q : AV → Sto → Prop} (T : TopG g (KK g)) (hd : c.A.depth + 1 < recursionLimit) (hh : c.A.handled = none) (hu : c.A.units + 40 < cLine) {h : Int} (h0 : 0 ≤ h) (h1 : h ≤ 10) {L : List Int} {R : List (List Int)} {k : List Int × Int} (hk : GoodK h L R k) (hz : k.1.length ≤ 10) (q : Q (.bool true) σ) :
    cal c (.ref 166) [.int h, .list (L.map .int), .list (R.map pth), lkey k] σ Q := by
  refine cal_fn (rest := []) (fn_is_saying T) (by kernel_rfl) (by walk_at "rm") rfl fun c' hsc hfn hA => ?_
  have hh' : c'.A.handled = none := by rw [hA]; exact hh
  have hu' : c'.A.units + 30 < cLine := by rw [hA]; show c.A.units + 3 + 30 < cLine; walk_at "rm"
  have hd' : c'.A.depth < recursionLimit := by rw [hA]; exact hd
  obtain ⟨k1, k2, ⟨p0, y, k3, k4⟩, k5⟩ := hk
  obtain ⟨p, x⟩ := k
  dsimp only at k1 k2 k3 k5 hz
  show es c' [(("hands" : Str), some _), (("liars" : Str), some _), (("rows" : Str), some _), (("thing" : Str), some (.tup [pth p, .int x]))] (execs (_ :: _) c'.env) σ _
  walk_at "go"
  (refine ev_callB PyProof.Rows.boot_isinstance (.builtin _) T (by assumption) nb_isinstance (by rfl) ?_; walk_at "go")
  (refine ev_bltN PyProof.Rows.boot_tuple T (by assumption) nb_tuple (by rfl) ?_; walk_at "go")
  refine cal_isTup ?_
  walk_at "go"
  (refine ev_callB boot_len (.builtin _) T (by assumption) nb_len (by rfl) ?_; walk_at "go")
  refine cal_len_tup (by show 2 < 2 ^ 62; decide) ?_
  walk_at "go"
  · rename_i e; cases e
  (refine ev_callB PyProof.Rows.boot_isinstance (.builtin _) T (by assumption) nb_isinstance (by rfl) ?_; walk_at "go")
  refine sub_tup (j := 0) (y := pth p) (by decide) (by decide) rfl rfl ?_
  walk_at "go"
  (refine ev_bltN PyProof.Rows.boot_tuple T (by assumption) nb_tuple (by rfl) ?_; walk_at "go")
  refine cal_isTup ?_
  walk_at "go"
  (refine ev_callB PyProof.Rows.boot_all (.builtin _) T (by assumption) nb_all (by rfl) ?_; walk_at "go")
  refine ev_mapP [(("hands" : Str), some (AV.int h))] AV.int p (fun _ => AV.bool true) hsc (by rfl) (by walk_at "ctor") (by rw [sizeLine_eq]; omega) ?_ ?_ ?_
  · walk_at "go"
    refine sub_tup (j := 0) (y := pth p) (by decide) (by decide) rfl rfl ?_
    exact ⟨rfl, iter_tup hh' _⟩
  · intro c₂ hA₂ hsc₂ z hz
    rw [← hA₂] at hd'
    obtain ⟨z0, z1⟩ := k1 z hz
    (refine ev_callF T (by assumption) n_is_within (by rfl) k_is_within ?_; walk_at "go")
    refine within_spec T hd' ?_
    rw [decide_eq_true z0, decide_eq_true (show z ≤ h - 1 by omega)]
    exact ⟨rfl, rfl⟩
  walk_at "go"
  have e : p.map (fun _ => AV.bool true) = (p.map fun _ => true).map AV.bool := by rw [List.map_map]; rfl
  rw [e]
  refine cal_all hh' ?_
  rw [show (p.map fun _ => true).all id = true by simp]
  walk_at "go"
  refine sub_tup (j := 0) (y := pth p) (by decide) (by decide) rfl rfl ?_
  walk_at "go"
  refine cmp_notin_list .list (pths_plain R) (Nat.le_trans (pths_deep R) (by decide)) (ints_plain p) (by walk_at "rm") ?_
  rw [pths_any k2]
  walk_at "go"
  refine sub_tup (j := 0) (y := pth p) (by decide) (by decide) rfl rfl ?_
  walk_at "go"
  refine sub_tup (j := p0.length) (y := .int y) (by decide) (by decide) (by rw [k3, List.length_map, List.length_append]; exact seq_last _) (by rw [k3]; simp) ?_
  walk_at "go"
  refine cmp_in_list .list (ints_plain L) (by rw [ints_deep]; exact Nat.zero_le _) rfl (by walk_at "rm") ?_
  rw [ints_anyT k4]
  walk_at "go"
  obtain ⟨⟨x0, x1⟩, _⟩ := mem_hears.mp k5
  (refine ev_callF T (by assumption) n_is_within (by rfl) k_is_within ?_; walk_at "go")
  refine sub_tup (j := 1) (y := .int x) (by decide) (by decide) rfl rfl ?_
  walk_at "go"
  refine within_spec T hd' ?_
  rw [decide_eq_true x0, decide_eq_true (show x ≤ h - 1 by omega), Bool.and_self]
  walk_at "go"
  refine sub_tup (j := 1) (y := .int x) (by decide) (by decide) rfl rfl ?_
  (refine ev_callF T (by assumption) n_hearers (by rfl) k_hearers ?_; walk_at "go")
  refine sub_tup (j := 0) (y := pth p) (by decide) (by decide) rfl rfl ?_
  walk_at "go"
  refine hearers_spec T hd' hh' (by walk_at "rm") h0 (by walk_at "rm") ?_
  refine cmp_in_list .list (ints_plain _) (by rw [ints_deep]; exact Nat.zero_le _) rfl (by walk_at "rm") ?_
  rw [ints_anyT k5]
  walk_at "go"
  exact q
theorem needLies_spec {Q : AV → Sto → Prop} (T : TopG g (KK g)) (hd : c.A.depth + 3 < recursionLimit) (hh : c.A.handled = none) (hu : c.A.units + 60 < cLine) {h : Int} (h0 : 0 ≤ h) (h1 : h ≤ 10) {L : List Int} {R : List (List Int)} {ls : Lies} (hl : ∀ e ∈ ls, GoodK h L R e.1 ∧ e.1.1.length ≤ 10 ∧ okV e.2) (q : Q .none σ) :
    cal c (.ref 173) [.int h, .list (L.map .int), .list (R.map pth), .dict (encL ls)] σ Q := by
  refine cal_fn (rest := ["pair"]) (fn_need_lies T) (by kernel_rfl) (by walk_at "rm") rfl fun c' hsc hfn hA => ?_
  have hh' : c'.A.handled = none := by rw [hA]; exact hh
  have hu' : c'.A.units + 50 < cLine := by rw [hA]; show c.A.units + 3 + 50 < cLine; walk_at "rm"
  have hd' : c'.A.depth + 2 < recursionLimit := by rw [hA]; show c.A.depth + 1 + 2 < _; walk_at "rm"
  show es c' [(("hands" : Str), some _), (("liars" : Str), some _), (("rows" : Str), some _), (("lies" : Str), some _), (("pair" : Str), none)] (execs (_ :: _) c'.env) σ _
  walk_at "go"
  refine es_loop (fun l ρ' σ' => ∃ r : List (List Int × Int), (∀ k ∈ r, k ∈ ls.map (·.1)) ∧ l = r.map lkey ∧ σ' = σ ∧ ρ' = [(("hands" : Str), some (AV.int h)), (("liars" : Str), some (AV.list (L.map .int))), (("rows" : Str), some (AV.list (R.map pth))), (("lies" : Str), some (AV.dict (encL ls))), (("pair" : Str), none)]) hfn ?_ ?_ ?_
  · walk_at "go"
    exact ⟨_, iter_dict hh' _, ls.map (·.1), fun _ h => h, by simp [encL], rfl, rfl⟩
  · rintro c₂ hA₂ hsc₂ hfn₂ y rest ρ₁ σ₁ ⟨r, hr1, hr, rfl, rfl⟩
    rw [hsc] at hsc₂
    rw [← hA₂] at hd' hh' hu'
    cases r with
    | nil => cases hr
    | cons k r =>
      rw [List.map_cons] at hr
      injection hr with e1 e2
      subst e1; subst e2
      obtain ⟨v, hv⟩ := lget_some (hr1 k List.mem_cons_self)
      obtain ⟨g1, g2, g3⟩ := hl _ (lget_mem hv)
      have hdg : dget (encL ls) (lkey k) = some (sg v) := by rw [dget_enc, hv]; rfl
      refine upd_ex (by walk_at "ctor") ?_
      walk_at "go"
      (refine ev_callF T (by assumption) n_is_saying (by rfl) k_is_saying ?_; walk_at "go")
      refine saying_spec T (by walk_at "rm") hh' (by walk_at "rm") h0 h1 g1 g2 ?_
      walk_at "go"
      refine sub_dict .dict (encL_tkeys ls) (lkey_tkey k) hdg (by walk_at "rm") ?_
      walk_at "go"
      · rename_i hne
        cases v with
        | none => cases hne
        | some x =>
          (refine ev_callF T (by assumption) n_need_sign (by rfl) k_need_sign ?_; walk_at "go")
          refine sub_dict .dict (encL_tkeys ls) (lkey_tkey k) hdg (by walk_at "rm") ?_
          walk_at "go"
          refine needSign_spec T (by walk_at "rm") hh' g3 ⟨trivial, ?_⟩
          walk_at "go"
          exact trn_next (by walk_at "ctor") ⟨r, fun k hk => hr1 k (List.mem_cons_of_mem _ hk), rfl, rfl, rfl⟩
      · exact trn_next (by walk_at "ctor") ⟨r, fun k hk => hr1 k (List.mem_cons_of_mem _ hk), rfl, rfl, rfl⟩
  · rintro ρ₁ σ₁ ⟨r, hr1, hr, rfl, rfl⟩
    walk_at "go"
    exact q

noncomputable def encP (f : List Int → Option Str) (ps : List (List Int)) : List (AV × AV) := ps.map fun p => (pth p, sg (f p))
theorem encP_tkeys (f : List Int → Option Str) (ps : List (List Int)) : tkeys (encP f ps) := fun q hq => by
  obtain ⟨p, _, rfl⟩ := List.mem_map.mp hq
  exact pth_tkey p
theorem dget_encP {f : List Int → Option Str} {ps : List (List Int)} {p : List Int} (hp : p ∈ ps) : dget (encP f ps) (pth p) = some (sg (f p)) := by
  unfold dget encP
  induction ps with
  | nil => cases hp
  | cons q ps ih =>
    rw [List.map_cons]
    by_cases e : q = p
    · subst e; rw [List.find?_cons_of_pos (by simp)]; rfl
    · rw [List.find?_cons_of_neg (by simpa using fun h => e (pth_inj h))]
      exact ih ((List.mem_cons.mp hp).resolve_left fun h => e h.symm)
theorem dset_encP {f : List Int → Option Str} {ps : List (List Int)} {p : List Int} (hp : p ∉ ps) : dset (encP f ps) (pth p) (sg (f p)) = encP f (ps ++ [p]) := by
  have : dget (encP f ps) (pth p) = none := by
    unfold dget encP
    rw [Option.map_eq_none_iff, List.find?_eq_none]
    intro q hq e
    obtain ⟨p', hp', rfl⟩ := List.mem_map.mp hq
    exact hp (pth_inj (by simpa using e) ▸ hp')
  unfold dset
  rw [this]
  simp [encP]
noncomputable def Ears (σ : Sto) (E : List Addr) (h : Int) (D : Int → List (List Int)) (val : List Int → Int → Option Str) : Prop :=
  E.Nodup ∧ E.length = h.toNat ∧ ∀ x, 0 ≤ x → x < h → ∃ e, E[x.toNat]? = some e ∧ σ e = some (.dct (encP (fun p => val p x) (D x)))
theorem Ears.imp {σ : Sto} {E : List Addr} {h : Int} {D D' : Int → List (List Int)} {val : List Int → Int → Option Str} (H : Ears σ E h D val) (hD : ∀ x, 0 ≤ x → x < h → D x = D' x) : Ears σ E h D' val :=
  ⟨H.1, H.2.1, fun x x0 x1 => (H.2.2 x x0 x1).imp fun _ q => ⟨q.1, hD x x0 x1 ▸ q.2⟩⟩
theorem Ears.keep {σ σ' : Sto} {E : List Addr} {h : Int} {D : Int → List (List Int)} {val : List Int → Int → Option Str} (H : Ears σ E h D val) (hk : ∀ e ∈ E, σ' e = σ e) : Ears σ' E h D val :=
  ⟨H.1, H.2.1, fun x x0 x1 => (H.2.2 x x0 x1).imp fun e q => ⟨q.1, (hk e (List.mem_of_getElem? q.1)).trans q.2⟩⟩
theorem Ears.put {σ : Sto} {E : List Addr} {h : Int} {D : Int → List (List Int)} {val : List Int → Int → Option Str} (H : Ears σ E h D val) {x : Int} (x0 : 0 ≤ x) {e : Addr} (he : E[x.toNat]? = some e) {p : List Int} (hp : p ∉ D x) :
    Ears (σ.set e (.dct (dset (encP (fun p => val p x) (D x)) (pth p) (sg (val p x))))) E h (fun y => if y = x then D x ++ [p] else D y) val := by
  refine ⟨H.1, H.2.1, fun y y0 y1 => ?_⟩
  obtain ⟨e', a, b⟩ := H.2.2 y y0 y1
  by_cases hy : y = x
  · subst hy
    rw [he] at a
    injection a with a
    subst a
    refine ⟨_, he, ?_⟩
    show _ = some (AObj.dct (encP (fun p => val p y) (if y = y then D y ++ [p] else D y)))
    rw [Sto.set_self, if_pos rfl, dset_encP (f := fun p => val p y) hp]
  · have hne : e' ≠ e := by
      rintro rfl
      obtain ⟨h1, g1⟩ := List.getElem?_eq_some_iff.mp a
      obtain ⟨h2, g2⟩ := List.getElem?_eq_some_iff.mp he
      have := (List.getElem_inj H.1).mp (g1.trans g2.symm)
      omega
    refine ⟨e', a, ?_⟩
    show _ = some (AObj.dct (encP (fun p => val p y) (if y = x then D x ++ [p] else D y)))
    rw [Sto.set_ne hne, if_neg hy]; exact b
noncomputable def Dm (h n x : Int) : List (List Int) := dom h 0 x (rngL 1 (n + 1))
noncomputable def DD (h n : Int) (dn : List (List Int)) (x : Int) : List (List Int) := Dm h n x ++ dn.filter fun p => !p.contains x
noncomputable def D3 (h n : Int) (dn : List (List Int)) (p : List Int) (d' : List Int) (x : Int) : List (List Int) := DD h n dn x ++ if d'.contains x then [p] else []
theorem rngL_snoc {a b : Int} (h : a ≤ b) : rngL a (b + 1) = rngL a b ++ [b] := by
  unfold rngL
  rw [show (b + 1 - a).toNat = (b - a).toNat + 1 by omega, List.range_succ, List.map_append, List.map_singleton]
  congr 2; omega
theorem DD_all {h n x : Int} (n0 : 0 ≤ n) : DD h n (lpaths h (n + 1)) x = Dm h (n + 1) x := by
  unfold DD Dm dom
  rw [rngL_snoc (show (1 : Int) ≤ n + 1 by omega), List.flatMap_append, List.filter_append]
  simp
theorem DD_nil (h n x : Int) : DD h n [] x = Dm h n x := by simp [DD]
theorem D3_nil (h n x : Int) (dn : List (List Int)) (p : List Int) : D3 h n dn p [] x = DD h n dn x := by simp [D3]
theorem D3_end {h n x : Int} {dn : List (List Int)} {p : List Int} (x0 : 0 ≤ x) (x1 : x < h) : D3 h n dn p (hears h p) x = DD h n (dn ++ [p]) x := by
  unfold D3 DD
  rw [List.filter_append, List.append_assoc]
  by_cases hx : x ∈ p
  · have : x ∉ hears h p := fun hm => (mem_hears.mp hm).2 hx
    simp [this, hx]
  · have : x ∈ hears h p := mem_hears.mpr ⟨⟨x0, x1⟩, hx⟩
    simp [this, hx]
theorem D3_put {h n x : Int} {dn : List (List Int)} {p : List Int} {d' : List Int} (hx : x ∉ d') (y : Int) : (if y = x then D3 h n dn p d' x ++ [p] else D3 h n dn p d' y) = D3 h n dn p (d' ++ [x]) y := by
  unfold D3
  by_cases hy : y = x
  · subst hy; simp [hx]
  · simp [hy]
theorem Dm_mem {h n k x : Int} {p : List Int} (k1 : 1 ≤ k) (kn : k ≤ n) (hp : p ∈ lpaths h k) (hx : x ∉ p) : p ∈ Dm h n x :=
  List.mem_filter.mpr ⟨List.mem_flatMap.mpr ⟨k, mem_rngL.mpr ⟨k1, by omega⟩, hp⟩, by simpa using hx⟩
theorem Dm_size {h n x : Int} {p : List Int} (hp : p ∈ Dm h n x) : (p.length : Int) ≤ n := by
  obtain ⟨k, hk, hp⟩ := List.mem_flatMap.mp (List.mem_filter.mp hp).1
  have := mem_rngL.mp hk
  rw [lpaths_size hp]; omega
theorem Dm_len {h : Int} (h1 : h ≤ 10) (x : Int) {n : Int} (n0 : 0 ≤ n) (n1 : n ≤ 3) : (Dm h n x).length ≤ 300 := by
  have key : ∀ k : Nat, k ≤ 3 → (Dm h k x).length ≤ 100 * k := by
    intro k
    induction k with
    | zero => intro _; exact Nat.le_of_eq rfl
    | succ k ih =>
      intro hk
      have e := DD_all (h := h) (x := x) (n := k) (by walk_at "rm")
      rw [show ((k + 1 : Nat) : Int) = (k : Int) + 1 from rfl, ← e]
      unfold DD
      rw [List.length_append]
      have := List.length_filter_le (fun p : List Int => !p.contains x) (lpaths h ((k : Int) + 1))
      have := lpaths_len (n := (k : Int) + 1) h1 (by walk_at "rm")
      have := ih (by walk_at "rm")
      omega
  have := key n.toNat (by walk_at "rm")
  rw [Int.toNat_of_nonneg n0] at this
  omega
theorem D3_len {h n x : Int} {dn rs : List (List Int)} {p : List Int} {d' : List Int} (h1 : h ≤ 10) (n0 : 0 ≤ n) (n1 : n ≤ 2) (hdr : lpaths h (n + 1) = dn ++ rs) : (D3 h n dn p d' x).length ≤ 1000 := by
  have := Dm_len h1 x n0 (show n ≤ 3 by omega)
  have h2 := lpaths_len (n := n + 1) h1 (by walk_at "rm")
  rw [hdr, List.length_append] at h2
  have h3 := List.length_filter_le (fun p : List Int => !p.contains x) dn
  unfold D3 DD
  rw [List.length_append, List.length_append]
  split <;> simp only [List.length_singleton, List.length_nil] <;> omega
theorem lpaths_nodup (h n : Int) : (lpaths h n).Nodup := List.Pairwise.filter _ (pathsN_nodup _ _)
theorem D3_not {h n x : Int} {dn rs : List (List Int)} {p : List Int} {d' : List Int} (hdr : lpaths h (n + 1) = dn ++ p :: rs) (hx : x ∉ d') : p ∉ D3 h n dn p d' x := by
  have hp : p ∈ lpaths h (n + 1) := by rw [hdr]; simp
  have hs := lpaths_size hp
  have hnd := lpaths_nodup h (n + 1)
  rw [hdr] at hnd
  unfold D3 DD
  rw [if_neg (by simpa using hx), List.append_nil]
  intro hm
  rcases List.mem_append.mp hm with hm | hm
  · have := Dm_size hm; omega
  · exact (List.nodup_append.mp hnd).2.2 p (List.mem_filter.mp hm).1 p List.mem_cons_self rfl
noncomputable def Sto.le (σ σ' : Sto) : Prop := ∀ b x, σ b = some x → σ' b = some x
theorem Sto.le.refl (σ : Sto) : σ.le σ := fun _ _ h => h
theorem Sto.le.new {σ σ' : Sto} (h : σ.le σ') {a : Addr} {y : AObj} (ha : σ' a = none) : σ.le (σ'.set a y) := fun b x hb => by
  rw [Sto.set_ne (by rintro rfl; rw [h b x hb] at ha; cases ha)]; exact h b x hb
noncomputable def JE (σ : Sto) (n : Nat) (l acc : List AV) (σ₁ : Sto) : Prop := ∃ E : List Addr, acc = E.map .obj ∧ E.Nodup ∧ (∀ e ∈ E, σ₁ e = some (.dct []) ∧ σ e = none) ∧ (∀ b, b ∉ E → σ₁ b = σ b) ∧ E.length + l.length = n
theorem JE.start (σ : Sto) (l : List AV) : JE σ l.length l [] σ := ⟨[], rfl, List.nodup_nil, (fun _ h => by cases h), fun _ _ => rfl, by simp⟩
theorem JE.step {σ σ₁ : Sto} {n : Nat} {y : AV} {rest acc : List AV} (hS : ∃ f o, sysModules ≤ f ∧ g.H₀.get? f = some o) {ρ : Rho} {pos : Pos} (H : JE σ n (y :: rest) acc σ₁) : ev c ρ (.Dict [] [] pos) σ₁ fun z σ₃ => JE σ n rest (acc ++ [z]) σ₃ := by
  obtain ⟨E, rfl, h2, h3, h4, h5⟩ := H
  refine ev_dict0 hS (.inr fun a ha => ⟨E ++ [a], by simp, ?_, fun e he => ?_, fun b hb => by rw [Sto.set_ne (by rintro rfl; exact hb (by simp))]; exact h4 b fun h => hb (List.mem_append_left _ h), by rw [List.length_append, List.length_singleton]; rw [List.length_cons] at h5; omega⟩)
  · rw [List.nodup_append]
    refine ⟨h2, by simp, fun e he b hb e2 => ?_⟩
    rw [List.mem_singleton.mp hb] at e2
    subst e2
    rw [(h3 e he).1] at ha; cases ha
  · have haE : a ∉ E := fun h => by rw [(h3 a h).1] at ha; cases ha
    have hσ : σ a = none := (h4 a haE).symm.trans ha
    by_cases hea : e = a
    · subst hea; exact ⟨Sto.set_self, hσ⟩
    · rcases List.mem_append.mp he with he | he
      · exact ⟨(Sto.set_ne hea).trans (h3 e he).1, (h3 e he).2⟩
      · exact absurd (List.mem_singleton.mp he) hea
theorem JE.ears {σ σ₁ : Sto} {h : Int} {E : List Addr} (h2 : E.Nodup) (h3 : ∀ e ∈ E, σ₁ e = some (.dct [])) (h5 : E.length = h.toNat) {val : List Int → Int → Option Str} : Ears σ₁ E h (Dm h 0) val :=
  ⟨h2, h5, fun x x0 x1 => by
    have hl : x.toNat < E.length := by omega
    exact ⟨E[x.toNat], List.getElem?_eq_getElem hl, h3 _ (List.getElem_mem hl)⟩⟩

noncomputable def hv (s : Str) (ls : Lies) : Nat → List Int → Int → Option Str
  | 0, p, x => (lget ls (p, x)).getD (some s)
  | n + 1, p, x => (lget ls (p, x)).getD (hv s ls n p.dropLast (p.getLastD 0))
noncomputable def HV (s : Str) (ls : Lies) (p : List Int) (x : Int) : Option Str := hv s ls (p.length - 1) p x
noncomputable def tru (s : Str) (ls : Lies) (p : List Int) : Option Str := if p.length = 1 then some s else HV s ls p.dropLast (p.getLastD 0)
theorem HV_eq (s : Str) (ls : Lies) {p : List Int} (hp : p ≠ []) (x : Int) : HV s ls p x = (lget ls (p, x)).getD (tru s ls p) := by
  unfold HV tru
  have hl := List.length_pos_iff.mpr hp
  by_cases h : p.length = 1
  · rw [if_pos h, h]; rfl
  · obtain ⟨n, hn⟩ : ∃ n, p.length - 1 = n + 1 := ⟨p.length - 2, by omega⟩
    rw [if_neg h, hn]
    unfold HV
    rw [List.length_dropLast, hn]; rfl

noncomputable def tbl (h m : Int) (s : Str) (L : List Int) (r : Int) (E : List Addr) : List (Str × AV) :=
  [("hands", .int h), ("most", .int m), ("sign", .str s), ("liars", .list (L.map .int)), ("round", .int r), ("heard", .list (E.map .obj))]
theorem init_spec {Q : AV → Sto → Prop} (T : TopG g (KK g)) (hS : ∃ f o, sysModules ≤ f ∧ g.H₀.get? f = some o) (hd : c.A.depth + 4 < recursionLimit) (hh : c.A.handled = none) (hu : c.A.units + 60 < cLine) {h m : Int} {s : Str} {L : List Int} (h0 : 2 ≤ h) (h1 : h ≤ 10) (m0 : 0 ≤ m) (m1 : m ≤ 2) (hs : okS s) (hn : L.Nodup) (hL : ∀ x ∈ L, 0 ≤ x ∧ x < h) (hz : L.length ≤ 100) {v : AV} (hv : LV σ v L)
    {a d : Addr} (ha : σ a = some (.inst 228 d)) (hd0 : σ d = some (.dct (atts [])))
    (q : ∀ E σ', σ' a = some (.inst 228 d) → σ' d = some (.dct (atts (tbl h m s L 0 E))) → E.Nodup → (∀ e ∈ E, σ' e = some (.dct []) ∧ σ e = none) → (∀ b x, σ b = some x → b ≠ d → σ' b = some x) → E.length = h.toNat → Q .none σ') :
    calC c (.ref 199) [.obj a, .int h, .int m, .str s, v] σ Q := by
  refine fn_code (rest := []) (fn_Table___init__ T) (by kernel_rfl) (by walk_at "rm") rfl fun c' hsc hfn hA => ?_
  have hh' : c'.A.handled = none := by rw [hA]; exact hh
  have hu' : c'.A.units + 50 < cLine := by rw [hA]; show c.A.units + 3 + 50 < cLine; walk_at "rm"
  have hd' : c'.A.depth + 3 < recursionLimit := by rw [hA]; show c.A.depth + 1 + 3 < _; walk_at "rm"
  have had : a ≠ d := by rintro rfl; rw [ha] at hd0; cases hd0
  show es c' [(("self" : Str), some _), (("hands" : Str), some _), (("most" : Str), some _), (("sign" : Str), some _), (("liars" : Str), some _)] (execs (_ :: _) c'.env) σ _
  walk_at "go"
  (refine ev_callF T (by assumption) n_need_table (by rfl) k_need_table ?_; walk_at "go")
  refine needTable_spec T (by walk_at "rm") h0 h1 m0 m1 ⟨trivial, ?_⟩
  walk_at "go"
  (refine ev_callF T (by assumption) n_need_sign (by rfl) k_need_sign ?_; walk_at "go")
  refine needSign_spec T (by walk_at "rm") hh' hs ⟨trivial, ?_⟩
  walk_at "go"
  (refine ev_callF T (by assumption) n_need_liars (by rfl) k_need_liars ?_; walk_at "go")
  refine needLiarsV T (by walk_at "rm") hh' (by walk_at "rm") hn hL hz hv ⟨trivial, ?_⟩
  walk_at "go"
  refine es_setattr T.X ?_
  walk_at "go"
  refine ⟨a, _, d, [], rfl, ha, hd0, by kernel_rfl, Nat.le_of_ble_eq_true rfl, ?_⟩
  walk_at "go"
  refine es_setattr T.X ?_
  walk_at "go"
  refine ⟨a, _, d, [("hands", .int h)], rfl, (Sto.set_ne had).trans ha, Sto.set_self, by kernel_rfl, Nat.le_of_ble_eq_true rfl, ?_⟩
  rw [Sto.set_set]
  walk_at "go"
  refine es_setattr T.X ?_
  walk_at "go"
  refine ⟨a, _, d, [("hands", .int h), ("most", .int m)], rfl, (Sto.set_ne had).trans ha, Sto.set_self, by kernel_rfl, Nat.le_of_ble_eq_true rfl, ?_⟩
  rw [Sto.set_set]
  walk_at "go"
  refine es_setattr T.X ?_
  (refine ev_callB PyProof.Rows.boot_list (.type _) T (by assumption) nb_list (by rfl) ?_; walk_at "go")
  refine cal_listV (hv.set hd0) hz (.inl ?_)
  walk_at "go"
  refine ⟨a, _, d, [("hands", .int h), ("most", .int m), ("sign", .str s)], rfl, (Sto.set_ne had).trans ha, Sto.set_self, by kernel_rfl, Nat.le_of_ble_eq_true rfl, ?_⟩
  rw [Sto.set_set]
  walk_at "go"
  refine es_setattr T.X ?_
  walk_at "go"
  refine ⟨a, _, d, [("hands", .int h), ("most", .int m), ("sign", .str s), ("liars", .list (L.map .int))], rfl, (Sto.set_ne had).trans ha, Sto.set_self, by kernel_rfl, Nat.le_of_ble_eq_true rfl, ?_⟩
  rw [Sto.set_set]
  walk_at "go"
  refine es_setattr T.X ?_
  have hlen : ((rngL 0 h).map AV.int).length = h.toNat := by rw [List.length_map, rngL_len]; omega
  refine ev_map [] (JE (σ.set d (.dct (atts [("hands", .int h), ("most", .int m), ("sign", .str s), ("liars", .list (L.map .int)), ("round", .int 0)]))) h.toNat) hsc (by rfl) (by walk_at "ctor") ?_ ?_ ?_
  · (refine ev_callB PyProof.Rows.boot_range (.type _) T (by assumption) nb_range (by rfl) ?_; walk_at "go")
    exact cal_range1 ⟨_, iter_rng hh' (by decide) (by decide) (by walk_at "rm") (by walk_at "rm"), by rw [hlen, sizeLine_eq]; omega, hlen ▸ JE.start _ _⟩
  · intro c₂ hA₂ hsc₂ y rest acc σ₁ hJ
    exact hJ.step hS
  · rintro acc σ₁ ⟨E, rfl, e2, e3, e6, e5⟩
    have e4 : ∀ b x, _ = some x → σ₁ b = some x := fun b x hb => (e6 b (fun hE => by rw [(e3 b hE).2] at hb; cases hb)).trans hb
    walk_at "go"
    refine ⟨a, _, d, _, rfl, e4 _ _ ((Sto.set_ne had).trans ha), e4 _ _ Sto.set_self, by kernel_rfl, Nat.le_of_ble_eq_true rfl, ?_⟩
    walk_at "go"
    have hEd : ∀ e ∈ E, e ≠ d ∧ e ≠ a ∧ σ e = none := fun e he => by
      have h1 := (e3 e he).2
      have hed : e ≠ d := by rintro rfl; rw [Sto.set_self] at h1; cases h1
      rw [Sto.set_ne hed] at h1
      exact ⟨hed, (by rintro rfl; rw [ha] at h1; cases h1), h1⟩
    refine q E _ ((Sto.set_ne had).trans (e4 _ _ ((Sto.set_ne had).trans ha))) Sto.set_self e2 (fun e he => ⟨(Sto.set_ne (hEd e he).1).trans (e3 e he).1, (hEd e he).2.2⟩) (fun b x hb hbd => ?_) (by simpa using e5)
    rw [Sto.set_ne hbd]
    exact e4 _ _ ((Sto.set_ne hbd).trans hb)

theorem lpaths_ok {h n : Int} (h2 : 2 ≤ h) (n1 : 1 ≤ n) {p : List Int} (hp : p ∈ lpaths h n) : p ≠ [] ∧ (p.length : Int) = n ∧ (∀ y ∈ p, 0 ≤ y ∧ y < h) := by
  obtain ⟨_, hp'⟩ := (mem_lpaths h2 n1).mp hp
  have hs := lpaths_size hp
  exact ⟨(by rintro rfl; simp at hs; omega), hs, (pathsN_ok (by walk_at "rm") _ p hp').2.1⟩
theorem lpaths_last {h n : Int} (h2 : 2 ≤ h) (n1 : 2 ≤ n) {p : List Int} (hp : p ∈ lpaths h n) : ∃ p0 y, p = p0 ++ [y] ∧ p0 ∈ lpaths h (n - 1) ∧ y ∈ hears h p0 := by
  obtain ⟨hn, hp'⟩ := (mem_lpaths h2 (by walk_at "rm")).mp hp
  obtain ⟨j, hj⟩ : ∃ j, (n - 1).toNat = j + 1 := ⟨(n - 2).toNat, by omega⟩
  rw [hj] at hp'
  obtain ⟨p0, h0, y, hy, rfl⟩ := mem_nexts.mp hp'
  refine ⟨p0, y, rfl, (mem_lpaths h2 (by walk_at "rm")).mpr ⟨by omega, ?_⟩, hy⟩
  rw [show (n - 1 - 1).toNat = j by omega]; exact h0
theorem honest_spec {Q : AV → Sto → Prop} (T : TopG g (KK g)) (hd : c.A.depth < recursionLimit) (hu : c.A.units + 20 < cLine) {h m r n : Int} {s : Str} {L : List Int} {E : List Addr} {ls : Lies} {a d : Addr} (h0 : 2 ≤ h) (h1 : h ≤ 10) (n0 : 1 ≤ n) (n1 : n ≤ 3) (ha : σ a = some (.inst 228 d)) (hd0 : σ d = some (.dct (atts (tbl h m s L r E)))) (hE : Ears σ E h (Dm h (n - 1)) (HV s ls)) {p : List Int} (hp : p ∈ lpaths h n) (q : Q (sg (tru s ls p)) σ) :
    cal c (.ref 206) [.obj a, pth p] σ Q := by
  refine cal_fn (rest := []) (fn_Table_honest T) (by kernel_rfl) hd rfl fun c' hsc hfn hA => ?_
  have hu' : c'.A.units + 10 < cLine := by rw [hA]; show c.A.units + 3 + 10 < cLine; walk_at "rm"
  obtain ⟨p1, p2, p3⟩ := lpaths_ok h0 n0 hp
  show es c' [(("self" : Str), some _), (("path" : Str), some _)] (execs (_ :: _) c'.env) σ _
  walk_at "go"
  (refine ev_callB boot_len (.builtin _) T (by assumption) nb_len (by rfl) ?_; walk_at "go")
  refine cal_len_tup (by rw [List.length_map]; omega) ?_
  rw [List.length_map]
  walk_at "go"
  · rename_i e
    have e1 : p.length = 1 := by simp only [beq_iff_eq] at e; omega
    (refine ev_attrN T.X (by walk_at "ctor") ha hd0 (by kernel_rfl) (by rfl) (by rfl) ?_; walk_at "go")
    unfold tru at q
    rw [if_pos e1] at q
    exact q
  · rename_i e
    have e1 : p.length ≠ 1 := by
      intro e1; rw [e1] at e; cases e
    obtain ⟨p0, y, rfl, hp0, hy⟩ := lpaths_last h0 (by walk_at "rm") hp
    have hp0' := lpaths_ok h0 (by walk_at "rm") hp0
    obtain ⟨⟨y0, y1⟩, hyp⟩ := mem_hears.mp hy
    obtain ⟨e, f1, f2⟩ := hE.2.2 y y0 y1
    unfold tru at q
    rw [if_neg e1, List.dropLast_concat, List.getLastD_concat] at q
    (refine ev_attrN T.X (by walk_at "ctor") ha hd0 (by kernel_rfl) (by rfl) (by rfl) ?_; walk_at "go")
    refine sub_tup (j := p0.length) (y := .int y) (by decide) (by decide) (by rw [List.length_map, List.length_append]; exact seq_last _) (by simp) ?_
    refine sub_list (y := .obj e) .list y0 (by walk_at "rm") (by rw [List.getElem?_map, f1]; rfl) ?_
    refine ev_init ?_
    walk_at "go"
    refine ⟨_, rfl, rfl, by rw [List.length_map, List.length_append]; exact Nat.le_add_left _ _, by rw [List.length_map]; omega, ?_⟩
    have et : AV.tup (((p0 ++ [y]).map AV.int).take (((p0 ++ [y]).map AV.int).length - 1)) = pth p0 := by
      unfold pth
      rw [List.map_append, List.length_append, List.take_left' (by simp)]
    rw [et]
    refine sub_dict (.obj f2) (encP_tkeys _ _) (pth_tkey p0) (dget_encP (Dm_mem (by walk_at "rm") (Int.le_refl _) hp0 hyp)) (by walk_at "rm") ?_
    walk_at "go"
    exact q
theorem getD_sg (o : Option (Option Str)) (t : Option Str) : (o.map sg).getD (sg t) = sg (o.getD t) := by cases o <;> rfl
theorem play_spec {Q : AV → Sto → Prop} (T : TopG g (KK g)) (hd : c.A.depth + 6 < recursionLimit) (hh : c.A.handled = none) (hu : c.A.units + 100 < cLine) {h m n : Int} {s : Str} {L : List Int} {E : List Addr} {ls lt : Lies} {a d al : Addr} (h0 : 2 ≤ h) (h1 : h ≤ 10) (m1 : m ≤ 2) (n0 : 0 ≤ n) (n1 : n ≤ m) (ha : σ a = some (.inst 228 d)) (hd0 : σ d = some (.dct (atts (tbl h m s L n E)))) (haE : a ∉ E) (hdE : d ∉ E) (hE : Ears σ E h (Dm h n) (HV s ls)) (hal : σ al = some (.dct (encL lt))) (hlE : al ∉ E)
    (hl : ∀ e ∈ lt, GoodK h L (lpaths h (n + 1)) e.1 ∧ e.1.1.length ≤ 10 ∧ okV e.2) (hlt : ∀ p x, p ∈ lpaths h (n + 1) → lget lt (p, x) = lget ls (p, x))
    (q : ∀ σ', σ' a = some (.inst 228 d) → σ' d = some (.dct (atts (tbl h m s L (n + 1) E))) → Ears σ' E h (Dm h (n + 1)) (HV s ls) → (∀ b x, σ b = some x → b ∉ E → b ≠ d → σ' b = some x) → Q .none σ') :
    cal c (.ref 211) [.obj a, .obj al] σ Q := by
  refine cal_fn (rest := ["rows", "said", "path", "sign", "hearer"]) (fn_Table_play T) (by kernel_rfl) (by walk_at "rm") rfl fun c' hsc hfn hA => ?_
  have hh' : c'.A.handled = none := by rw [hA]; exact hh
  have hu' : c'.A.units + 90 < cLine := by rw [hA]; show c.A.units + 3 + 90 < cLine; walk_at "rm"
  have hd' : c'.A.depth + 5 < recursionLimit := by rw [hA]; show c.A.depth + 1 + 5 < _; walk_at "rm"
  have had : a ≠ d := by rintro rfl; rw [ha] at hd0; cases hd0
  have hll := lpaths_len (n := n + 1) h1 (by walk_at "rm")
  show es c' [(("self" : Str), some _), (("lies" : Str), some _), (("rows" : Str), none), (("said" : Str), none), (("path" : Str), none), (("sign" : Str), none), (("hearer" : Str), none)] (execs (_ :: _) c'.env) σ _
  walk_at "go"
  (refine ev_attrN T.X (by walk_at "ctor") ha hd0 (by kernel_rfl) (by rfl) (by rfl) ?_; walk_at "go")
  (refine ev_attrN T.X (by walk_at "ctor") ha hd0 (by kernel_rfl) (by rfl) (by rfl) ?_; walk_at "go")
  · rename_i e; simp at e; omega
  (refine ev_callF T (by assumption) n_paths_of (by rfl) k_paths_of ?_; walk_at "go")
  (refine ev_attrN T.X (by walk_at "ctor") ha hd0 (by kernel_rfl) (by rfl) (by rfl) ?_; walk_at "go")
  (refine ev_attrN T.X (by walk_at "ctor") ha hd0 (by kernel_rfl) (by rfl) (by rfl) ?_; walk_at "go")
  (refine ev_attrN T.X (by walk_at "ctor") ha hd0 (by kernel_rfl) (by rfl) (by rfl) ?_; walk_at "go")
  refine pathsOf_spec T (by walk_at "rm") hh' (by walk_at "rm") h0 h1 (by walk_at "rm") m1 (by walk_at "rm") (by walk_at "rm") ?_
  walk_at "go"
  (refine ev_callF T (by assumption) n_need_lies (by rfl) k_need_lies ?_; walk_at "go")
  (refine ev_attrN T.X (by walk_at "ctor") ha hd0 (by kernel_rfl) (by rfl) (by rfl) ?_; walk_at "go")
  (refine ev_attrN T.X (by walk_at "ctor") ha hd0 (by kernel_rfl) (by rfl) (by rfl) ?_; walk_at "go")
  refine cal_lend hal (.dct _) (.skip (.skip (.skip (.hit .nil)))) fun cl hAl => ?_
  rw [← hAl] at hd' hh' hu'
  refine needLies_spec T (by walk_at "rm") hh' (by walk_at "rm") (by walk_at "rm") h1 hl ⟨rfl, trivial, ?_⟩
  rw [hAl] at hd' hh' hu'
  walk_at "go"
  refine es_mapP [(("self" : Str), some (AV.obj a))] pth (lpaths h (n + 1)) (fun p => AV.tup [pth p, sg (tru s ls p)]) hfn hsc (by rfl) (by rfl) (by walk_at "ctor") (by rw [sizeLine_eq]; omega) ?_ ?_ ?_
  · walk_at "go"
    exact ⟨rfl, iter_list hh' _⟩
  · intro c₂ hA₂ hsc₂ p hp
    rw [← hA₂] at hd' hu'
    refine ev_tuple ?_
    walk_at "go"
    (refine ev_methI T.X k_Table_honest ?_; walk_at "go")
    refine ⟨a, _, d, _, rfl, ha, hd0, by kernel_rfl, by rfl, ?_⟩
    walk_at "go"
    refine honest_spec T (by walk_at "rm") (by walk_at "rm") h0 h1 (by walk_at "rm") (by walk_at "rm") ha hd0 (by rw [Int.add_sub_cancel]; exact hE) hp ?_
    walk_at "go"
    exact ⟨by show 2 ≤ sizeLine; rw [sizeLine_eq]; decide, rfl, rfl⟩
  refine made_frz (upd_ex (by walk_at "ctor") ?_)
  walk_at "go"
  refine es_for2 (fun l ρ' σ' => ∃ dn rs : List (List Int), lpaths h (n + 1) = dn ++ rs ∧ l = rs.map (fun p => AV.tup [pth p, sg (tru s ls p)]) ∧ (σ' a = some (.inst 228 d) ∧ σ' d = some (.dct (atts (tbl h m s L n E))) ∧ Ears σ' E h (DD h n dn) (HV s ls) ∧ ∀ b x, σ b = some x → b ∉ E → σ' b = some x) ∧ ρ' = [(("self" : Str), some (AV.obj a)), (("lies" : Str), some (AV.obj al)), (("rows" : Str), some (AV.list ((lpaths h (n + 1)).map pth))), (("said" : Str), some (AV.list ((lpaths h (n + 1)).map fun p => AV.tup [pth p, sg (tru s ls p)]))), (("path" : Str), none), (("sign" : Str), none), (("hearer" : Str), none)]) hfn hh' ?_ ?_ ?_
  · walk_at "go"
    exact ⟨_, iter_list hh' _, [], lpaths h (n + 1), rfl, rfl, ⟨ha, hd0, hE.imp (fun x _ _ => (DD_nil h n x).symm), fun b x hb _ => hb⟩, rfl⟩
  · rintro c₂ hA₂ hsc₂ hfn₂ y rest ρ₁ σ₁ ⟨dn, rs, hdr, hr, ⟨w1, w2, w3, w4⟩, rfl⟩
    rw [hsc] at hsc₂
    rw [← hA₂] at hd' hh' hu'
    cases rs with
    | nil => cases hr
    | cons p rs =>
      rw [List.map_cons] at hr
      injection hr with e1 e2
      subst e1; subst e2
      have hpm : p ∈ lpaths h (n + 1) := by rw [hdr]; simp
      obtain ⟨pne, psz, _⟩ := lpaths_ok h0 (by walk_at "rm") hpm
      refine ⟨_, _, _, _, rfl, by walk_at "ctor", by walk_at "ctor", ?_⟩
      walk_at "go"
      refine es_loop (fun l ρ' σ' => ∃ d' r' : List Int, hears h p = d' ++ r' ∧ l = r'.map AV.int ∧ (σ' a = some (.inst 228 d) ∧ σ' d = some (.dct (atts (tbl h m s L n E))) ∧ Ears σ' E h (D3 h n dn p d') (HV s ls) ∧ ∀ b x, σ b = some x → b ∉ E → σ' b = some x) ∧ ρ' = [(("self" : Str), some (AV.obj a)), (("lies" : Str), some (AV.obj al)), (("rows" : Str), some (AV.list ((lpaths h (n + 1)).map pth))), (("said" : Str), some (AV.list ((lpaths h (n + 1)).map fun p => AV.tup [pth p, sg (tru s ls p)]))), (("path" : Str), some (pth p)), (("sign" : Str), some (sg (tru s ls p))), (("hearer" : Str), none)]) hfn₂ ?_ ?_ ?_
      · (refine ev_callF T (by assumption) n_hearers (by rfl) k_hearers ?_; walk_at "go")
        (refine ev_attrN T.X (by walk_at "ctor") w1 w2 (by kernel_rfl) (by rfl) (by rfl) ?_; walk_at "go")
        refine hearers_spec T (by walk_at "rm") hh' (by walk_at "rm") (by walk_at "rm") (by walk_at "rm") ?_
        exact ⟨_, iter_list hh' _, [], hears h p, rfl, rfl, ⟨w1, w2, w3.imp (fun x _ _ => (D3_nil h n x dn p).symm), w4⟩, rfl⟩
      · rintro c₃ hA₃ hsc₃ hfn₃ y rest ρ₁ σ₂ ⟨d', r', hdr', hr', ⟨v1, v2, v3, v4⟩, rfl⟩
        rw [hsc₂] at hsc₃
        rw [← hA₃] at hd' hh' hu'
        cases r' with
        | nil => cases hr'
        | cons x r' =>
          rw [List.map_cons] at hr'
          injection hr' with e1 e2
          subst e1; subst e2
          have hx : x ∈ hears h p := by rw [hdr']; simp
          obtain ⟨⟨x0, x1⟩, _⟩ := mem_hears.mp hx
          obtain ⟨e, f1, f2⟩ := v3.2.2 x x0 x1
          have hxd : x ∉ d' := by
            have hnd := hears_nodup h p
            rw [hdr'] at hnd
            exact fun hm => (List.nodup_append.mp hnd).2.2 x hm x List.mem_cons_self rfl
          have heE := List.mem_of_getElem? f1
          walk_at "go"
          refine ev_meth F.plainAttrs_dict F.slot_dict_get F.type_dict_get ?_
          walk_at "go"
          refine ⟨.objD (v4 _ _ hal hlE), ?_⟩
          walk_at "go"
          refine ev_tuple ?_
          walk_at "go"
          refine ⟨by show 2 ≤ sizeLine; rw [sizeLine_eq]; decide, ?_⟩
          walk_at "go"
          refine cal_get2 (k := lkey (p, x)) (.obj (v4 _ _ hal hlE)) (encL_tkeys lt) (lkey_tkey _) (by walk_at "rm") ?_
          rw [dget_enc, hlt p x hpm, getD_sg, ← HV_eq s ls pne x]
          walk_at "go"
          (refine ev_attrN T.X (by walk_at "ctor") v1 v2 (by kernel_rfl) (by rfl) (by rfl) ?_; walk_at "go")
          refine sub_list (y := .obj e) .list x0 (by walk_at "rm") (by rw [List.getElem?_map, f1]; rfl) ?_
          walk_at "go"
          refine set_dict f2 (encP_tkeys _ _) (pth_tkey p) (by unfold encP; rw [List.length_map, sizeLine_eq]; exact Nat.le_trans (D3_len h1 n0 (by walk_at "rm") hdr) (by decide)) (by walk_at "rm") ?_
          walk_at "go"
          refine trn_next (by walk_at "ctor") ⟨d' ++ [x], r', by rw [hdr']; simp, rfl, ⟨(Sto.set_ne (by rintro rfl; exact haE heE)).trans v1, (Sto.set_ne (by rintro rfl; exact hdE heE)).trans v2, ?_, fun b z hb hbE => (Sto.set_ne (by rintro rfl; exact hbE heE)).trans (v4 b z hb hbE)⟩, rfl⟩
          exact (v3.put x0 f1 (D3_not hdr hxd)).imp fun y _ _ => D3_put hxd y
      · rintro ρ₁ σ₂ ⟨d', r', hdr', hr', ⟨v1, v2, v3, v4⟩, rfl⟩
        have hr0 : r' = [] := by cases r' with | nil => rfl | cons _ _ => cases hr'
        subst hr0
        rw [List.append_nil] at hdr'
        walk_at "go"
        exact trn_next (by walk_at "ctor") ⟨dn ++ [p], rs, by rw [hdr]; simp, rfl, ⟨v1, v2, v3.imp (fun x x0 x1 => by rw [← hdr']; exact D3_end x0 x1), v4⟩, rfl⟩
  · rintro ρ₁ σ₁ ⟨dn, rs, hdr, hr, ⟨w1, w2, w3, w4⟩, rfl⟩
    have hr0 : rs = [] := by cases rs with | nil => rfl | cons _ _ => cases hr
    subst hr0
    rw [List.append_nil] at hdr
    refine thn_next ?_
    walk_at "go"
    refine es_setattr T.X ?_
    walk_at "go"
    (refine ev_attrN T.X (by walk_at "ctor") w1 w2 (by kernel_rfl) (by rfl) (by rfl) ?_; walk_at "go")
    refine ⟨a, _, d, _, rfl, w1, w2, by kernel_rfl, Nat.le_of_ble_eq_true rfl, ?_⟩
    walk_at "go"
    exact q _ ((Sto.set_ne had).trans w1) Sto.set_self ((w3.imp (fun x _ _ => by rw [← hdr]; exact DD_all n0)).keep fun e he => Sto.set_ne (by rintro rfl; exact hdE he)) (fun b x hb hbE hbd => (Sto.set_ne hbd).trans (w4 b x hb hbE))

theorem whole_spec {Q : AV → Sto → Prop} (T : TopG g (KK g)) (hd : c.A.depth < recursionLimit) {i : Int} (q : Q (.bool true) σ) : cal c (.ref 246) [.int i] σ Q := by
  refine cal_fn (rest := []) (fn__law_whole T) (by kernel_rfl) hd rfl fun c' hsc hfn hA => ?_
  show es c' [(("_law_found" : Str), some _)] (execs (_ :: _) c'.env) σ _
  walk_at "go"
  (refine ev_callB PyProof.Rows.boot_isinstance (.builtin _) T (by assumption) nb_isinstance (by rfl) ?_; walk_at "go")
  (refine ev_bltN PyProof.Rows.boot_int T (by assumption) nb_int (by rfl) ?_; walk_at "go")
  refine cal_isInt ?_
  walk_at "go"
  (refine ev_callB PyProof.Rows.boot_isinstance (.builtin _) T (by assumption) nb_isinstance (by rfl) ?_; walk_at "go")
  (refine ev_bltN PyProof.Rows.boot_bool T (by assumption) nb_bool (by rfl) ?_; walk_at "go")
  refine cal_isBool ?_
  walk_at "go"
  exact q
theorem abs_small {a : Int} (h0 : 0 ≤ a) (h1 : a < 1073741824) : a.natAbs < 1073741824 := by have := Int.natAbs_of_nonneg h0; omega
theorem fm_em (a : Int) {n : Int} (h : 0 < n) : Int.fmod a n = a % n := Int.fmod_eq_emod_of_nonneg a (by walk_at "rm")
theorem free_hand {h : Int} {L : List Int} (hl : (L.length : Int) < h) : ∃ z, 0 ≤ z ∧ z < h ∧ z ∉ L := by
  refine Classical.byContradiction fun hn => ?_
  have := sub_len (l := rngL 0 h) (m := L) (rngL_nodup 0 h) fun x hx => by
    refine Classical.byContradiction fun hx' => hn ⟨x, ?_⟩
    exact ⟨(mem_rngL.mp hx).1, (mem_rngL.mp hx).2, hx'⟩
  rw [rngL_len] at this
  omega
theorem liars_spec {Q : AV → Sto → Prop} (T : TopG g (KK g)) (hd : c.A.depth < recursionLimit) (hh : c.A.handled = none) (hu : c.A.units + 20 < cLine) {n h m : Int} (h0 : 2 ≤ h) (h1 : h ≤ 10) (m0 : 0 ≤ m) (m1 : m ≤ h) (q : ∀ L : List Int, L.Nodup → (∀ x ∈ L, 0 ≤ x ∧ x < h) → L.length ≤ 10 → Q (.list (L.map .int)) σ) :
    cal c (.ref 272) [.int n, .int h, .int m] σ Q := by
  refine cal_fn (rest := ["_law_found", "_law_k", "_law_hand"]) (fn__law_liars T) (by kernel_rfl) hd rfl fun c' hsc hfn hA => ?_
  have hh' : c'.A.handled = none := by rw [hA]; exact hh
  have hu' : c'.A.units + 10 < cLine := by rw [hA]; show c.A.units + 3 + 10 < cLine; walk_at "rm"
  show es c' [(("_law_cell" : Str), some _), (("_law_hands" : Str), some _), (("_law_many" : Str), some _), (("_law_found" : Str), none), (("_law_k" : Str), none), (("_law_hand" : Str), none)] (execs (_ :: _) c'.env) σ _
  walk_at "go"
  refine ev_list (evl_nil ⟨by decide, .inr fun a ha => ?_⟩)
  walk_at "go"
  refine es_loop (fun l ρ' σ' => ∃ L r : List Int, L.Nodup ∧ (∀ x ∈ L, 0 ≤ x ∧ x < h) ∧ l = r.map AV.int ∧ (∀ k ∈ r, 0 ≤ k ∧ k < m) ∧ ((L.length + r.length : Nat) : Int) = m ∧ σ' = σ.set a (.lst (L.map .int)) ∧ ρ' = [(("_law_cell" : Str), some (AV.int n)), (("_law_hands" : Str), some (AV.int h)), (("_law_many" : Str), some (AV.int m)), (("_law_found" : Str), some (AV.obj a)), (("_law_k" : Str), none), (("_law_hand" : Str), none)]) hfn ?_ ?_ ?_
  · (refine ev_callB PyProof.Rows.boot_range (.type _) T (by assumption) nb_range (by rfl) ?_; walk_at "go")
    exact cal_range1 ⟨_, iter_rng hh' (by decide) (by decide) (by walk_at "rm") (by walk_at "rm"), [], rngL 0 m, List.nodup_nil, (fun _ h => by cases h), rfl, fun k hk => mem_rngL.mp hk, by rw [rngL_len]; simp; omega, rfl, rfl⟩
  · rintro c₂ hA₂ hsc₂ hfn₂ y rest ρ₁ σ₁ ⟨L, r, l1, l2, hr, l3, l4, rfl, rfl⟩
    rw [hsc] at hsc₂
    rw [← hA₂] at hh' hu'
    cases r with
    | nil => cases hr
    | cons k r =>
      rw [List.map_cons] at hr
      injection hr with e1 e2
      subst e1; subst e2
      obtain ⟨k0, k1⟩ := l3 k List.mem_cons_self
      rw [List.length_cons] at l4
      refine upd_ex (by walk_at "ctor") ?_
      walk_at "go"
      refine op_fdiv (by walk_at "rm") (abs_small (by walk_at "rm") (by walk_at "rm")) ?_
      walk_at "go"
      refine op_fmod (by walk_at "rm") ?_
      have y0 := fm_lo (n.fdiv (1 + 3 * k)) (n := h) (by walk_at "rm")
      have y1 := fm_hi (n.fdiv (1 + 3 * k)) (n := h) (by walk_at "rm")
      generalize (n.fdiv (1 + 3 * k)).fmod h = y at y0 y1 ⊢
      obtain ⟨z, z0, z1, z2⟩ := free_hand (h := h) (L := L) (by walk_at "rm")
      walk_at "go"
      refine es_while (fun j ρ' σ' => ∃ y, 0 ≤ y ∧ y < h ∧ (y + (j : Int)) % h ∉ L ∧ σ' = σ.set a (.lst (L.map .int)) ∧ ρ' = [(("_law_cell" : Str), some (AV.int n)), (("_law_hands" : Str), some (AV.int h)), (("_law_many" : Str), some (AV.int m)), (("_law_found" : Str), some (AV.obj a)), (("_law_k" : Str), some (AV.int k)), (("_law_hand" : Str), some (AV.int y))]) ((z - y) % h).toNat ⟨y, y0, y1, ?_, rfl, rfl⟩ ?_
      · have e : (y + (((z - y) % h).toNat : Int)) % h = z := by
          rw [Int.toNat_of_nonneg (Int.emod_nonneg _ (by walk_at "rm")), Int.add_emod_emod, show y + (z - y) = z by omega, Int.emod_eq_of_lt z0 z1]
        rw [e]; exact z2
      · rintro c₃ hA₃ hsc₃ hfn₃ j ρ₁ σ₂ ⟨y, y0, y1, hj, rfl, rfl⟩
        rw [← hA₃] at hu'
        walk_at "go"
        refine cmp_in_list (.obj Sto.set_self) (ints_plain L) (by rw [ints_deep]; exact Nat.zero_le _) rfl (by walk_at "rm") ?_
        rw [ints_any]
        walk_at "go"
        · rename_i hin
          have hin : y ∈ L := by simpa using hin
          refine es_assign ?_ (hfn₃.trans hfn₂) (by with_unfolding_all rfl)
          walk_at "go"
          refine op_fmod (by walk_at "rm") ?_
          walk_at "go"
          rw [fm_em _ (by walk_at "rm")]
          cases j with
          | zero =>
            exfalso
            apply hj
            rw [show y + ((0 : Nat) : Int) = y by omega, Int.emod_eq_of_lt y0 y1]
            exact hin
          | succ j =>
            refine ⟨rfl, j, _, Nat.lt_succ_self _, .refl _, (y + 1) % h, Int.emod_nonneg _ (by walk_at "rm"), Int.emod_lt_of_pos _ (by walk_at "rm"), ?_, rfl, rfl⟩
            rw [Int.emod_add_emod, show y + 1 + (j : Int) = y + ((j + 1 : Nat) : Int) by omega]
            exact hj
        · rename_i hin
          have hin : y ∉ L := by simpa using hin
          (refine ev_meth F.plainAttrs_list F.slot_list_append F.type_list_append ?_; walk_at "go")
          refine ⟨.objL Sto.set_self, ?_⟩
          walk_at "go"
          refine cal_append Sto.set_self (by rw [List.length_map, sizeLine_eq]; omega) ⟨trivial, ?_⟩
          walk_at "go"
          refine trn_next (by walk_at "ctor") ⟨L ++ [y], r, ?_, fun x hx => ?_, rfl, fun k hk => l3 k (List.mem_cons_of_mem _ hk), by rw [List.length_append, List.length_singleton]; omega, ?_, rfl⟩
          · rw [List.nodup_append]
            exact ⟨l1, by simp, fun x hx b hb e => hin (by rw [List.mem_singleton.mp hb] at e; exact e ▸ hx)⟩
          · rcases List.mem_append.mp hx with hx | hx
            · exact l2 x hx
            · rw [List.mem_singleton.mp hx]; exact ⟨y0, y1⟩
          · rw [Sto.set_set, List.map_append]; rfl
  · rintro ρ₁ σ₁ ⟨L, r, l1, l2, hr, l3, l4, rfl, rfl⟩
    have hr0 : r = [] := by cases r with | nil => rfl | cons _ _ => cases hr
    subst hr0
    refine thn_next (es_one (es_ret_freeze ?_))
    walk_at "go"
    refine ⟨a, _, _, rfl, Sto.set_self, .lst _, ?_⟩
    rw [Sto.set_del ha]
    exact q L l1 l2 (by rw [List.length_nil] at l4; omega)
theorem mixed_spec {Q : AV → Sto → Prop} (T : TopG g (KK g)) (hd : c.A.depth < recursionLimit) {ns : List Int} {k : Int} (n0 : 0 < ns.length) (n1 : ns.length ≤ 63) (k0 : 0 ≤ k) (k1 : k ≤ 1000000) (q : ∀ v, Q (.int v) σ) : cal c (.ref 279) [.list (ns.map .int), .int k] σ Q := by
  refine cal_fn (rest := ["_law_cell", "_law_mixed_here"]) (fn__law_mixed T) (by kernel_rfl) hd rfl fun c' hsc hfn hA => ?_
  show es c' [(("_law_script" : Str), some _), (("_law_k" : Str), some _), (("_law_cell" : Str), none), (("_law_mixed_here" : Str), none)] (execs (_ :: _) c'.env) σ _
  walk_at "go"
  (refine ev_callB boot_len (.builtin _) T (by assumption) nb_len (by rfl) ?_; walk_at "go")
  refine cal_len_list .list (by rw [List.length_map]; omega) ?_
  rw [List.length_map]
  refine op_fmod (by walk_at "rm") ?_
  have y0 := fm_lo k (n := (ns.length : Int)) (by walk_at "rm")
  have y1 := fm_hi k (n := (ns.length : Int)) (by walk_at "rm")
  have hlt : (k.fmod (ns.length : Int)).toNat < ns.length := by omega
  refine sub_list (y := .int ns[(k.fmod (ns.length : Int)).toNat]) .list y0 (by walk_at "rm") (by rw [List.getElem?_map, List.getElem?_eq_getElem hlt]; rfl) ?_
  walk_at "go"
  (refine ev_callB boot_len (.builtin _) T (by assumption) nb_len (by rfl) ?_; walk_at "go")
  refine cal_len_list .list (by rw [List.length_map]; omega) ?_
  rw [List.length_map]
  walk_at "go"
  generalize ns[(k.fmod (ns.length : Int)).toNat] + 7919 * k + (ns.length : Int) * k * k = w
  have w0 := fm_lo w (n := 2147483647) (by decide)
  have w1 := fm_hi w (n := 2147483647) (by decide)
  generalize w.fmod 2147483647 = v at w0 w1 ⊢
  refine op_mul ?_ (.inl (by constructor <;> omega))
  walk_at "go"
  exact q _
theorem lie_spec {Q : AV → Sto → Prop} (T : TopG g (KK g)) (hd : c.A.depth + 1 < recursionLimit) {ns : List Int} {l : List Str} {p : List Int} {x k : Int} (n0 : 0 < ns.length) (n1 : ns.length ≤ 63) (hl : l.length = 4) (hok : ∀ s ∈ l, okS s) (hp : ∃ p0 y, p = p0 ++ [y]) (hp1 : p.length ≤ 10) (k0 : 0 ≤ k) (k1 : k ≤ 1000000) (q : ∀ v, okV v → Q (sg v) σ) :
    cal c (.ref 286) [.list (ns.map .int), .list (l.map .str), pth p, .int x, .int k] σ Q := by
  refine cal_fn (rest := ["_law_way"]) (fn__law_lie T) (by kernel_rfl) (by walk_at "rm") rfl fun c' hsc hfn hA => ?_
  have hd' : c'.A.depth < recursionLimit := by rw [hA]; exact hd
  obtain ⟨s0, s1, s2, s3, rfl⟩ : ∃ a b c d, l = [a, b, c, d] := by
    match l, hl with
    | [a, b, c, d], _ => exact ⟨a, b, c, d, rfl⟩
  obtain ⟨p0, y, rfl⟩ := hp
  have o0 := hok s0 (by simp)
  have o1 := hok s1 (by simp)
  have o2 := hok s2 (by simp)
  have o3 := hok s3 (by simp)
  show es c' [(("_law_script" : Str), some _), (("_law_signs_here" : Str), some (.list [.str s0, .str s1, .str s2, .str s3])), (("_law_path" : Str), some _), (("_law_hearer" : Str), some _), (("_law_k" : Str), some _), (("_law_way" : Str), none)] (execs (_ :: _) c'.env) σ _
  walk_at "go"
  (refine ev_callF T (by assumption) n__law_cell_at (by rfl) k__law_cell_at ?_; walk_at "go")
  refine cell_spec T hd' (by walk_at "rm") (by decide) (by decide) ?_
  walk_at "go"
  · refine ev_list ?_
    walk_at "go"
    refine sub_list (y := .str s1) .list (by decide) (by decide) rfl ?_
    walk_at "go"
    refine sub_list (y := .str s2) .list (by decide) (by decide) rfl ?_
    walk_at "go"
    refine ⟨by show 2 ≤ sizeLine; rw [sizeLine_eq]; decide, .inl ?_⟩
    walk_at "go"
    have a0 := fm_lo x (n := 2) (by decide)
    have a1 := fm_hi x (n := 2) (by decide)
    rcases (show x.fmod 2 = 0 ∨ x.fmod 2 = 1 by omega) with e | e
    · rw [e]
      refine sub_list (y := .str s1) .list (by decide) (by decide) rfl ?_
      walk_at "go"
      exact q (some s1) o1
    · rw [e]
      refine sub_list (y := .str s2) .list (by decide) (by decide) rfl ?_
      walk_at "go"
      exact q (some s2) o2
  · refine ev_list ?_
    walk_at "go"
    refine sub_list (y := .str s1) .list (by decide) (by decide) rfl ?_
    walk_at "go"
    refine sub_list (y := .str s0) .list (by decide) (by decide) rfl ?_
    walk_at "go"
    refine sub_list (y := .str s1) .list (by decide) (by decide) rfl ?_
    walk_at "go"
    refine ⟨by show 4 ≤ sizeLine; rw [sizeLine_eq]; decide, .inl ?_⟩
    walk_at "go"
    (refine ev_callB boot_len (.builtin _) T (by assumption) nb_len (by rfl) ?_; walk_at "go")
    refine cal_len_tup (by rw [List.length_map]; omega) ?_
    walk_at "go"
    refine sub_tup (j := p0.length) (y := .int y) (by decide) (by decide) (by rw [List.length_map, List.length_append]; exact seq_last _) (by simp) ?_
    walk_at "go"
    generalize x + (((p0 ++ [y]).map AV.int).length : Int) + y = w
    have a0 := fm_lo w (n := 4) (by decide)
    have a1 := fm_hi w (n := 4) (by decide)
    rcases (show w.fmod 4 = 0 ∨ w.fmod 4 = 1 ∨ w.fmod 4 = 2 ∨ w.fmod 4 = 3 by omega) with e | e | e | e <;> rw [e]
    · refine sub_list (y := .str s1) .list (by decide) (by decide) rfl ?_
      walk_at "go"
      exact q (some s1) o1
    · refine sub_list (y := .str s0) .list (by decide) (by decide) rfl ?_
      walk_at "go"
      exact q (some s0) o0
    · refine sub_list (y := .str s1) .list (by decide) (by decide) rfl ?_
      walk_at "go"
      exact q (some s1) o1
    · refine sub_list (y := .none) .list (by decide) (by decide) rfl ?_
      walk_at "go"
      exact q none trivial
  · refine sub_list (y := .str s1) .list (by decide) (by decide) rfl ?_
    walk_at "go"
    exact q (some s1) o1
  · refine ev_list ?_
    walk_at "go"
    refine ⟨by show 1 ≤ sizeLine; rw [sizeLine_eq]; decide, .inl ?_⟩
    refine op_addl .list .list (by show 4 + 1 ≤ sizeLine; rw [sizeLine_eq]; decide) (.inl ?_)
    walk_at "go"
    (refine ev_callF T (by assumption) n__law_mixed (by rfl) k__law_mixed ?_; walk_at "go")
    refine mixed_spec T hd' n0 n1 k0 k1 fun w => ?_
    walk_at "go"
    have a0 := fm_lo w (n := 5) (by decide)
    have a1 := fm_hi w (n := 5) (by decide)
    rcases (show w.fmod 5 = 0 ∨ w.fmod 5 = 1 ∨ w.fmod 5 = 2 ∨ w.fmod 5 = 3 ∨ w.fmod 5 = 4 by omega) with e | e | e | e | e <;> rw [e]
    · refine sub_list (y := .str s0) .list (by decide) (by decide) rfl ?_
      walk_at "go"
      exact q (some s0) o0
    · refine sub_list (y := .str s1) .list (by decide) (by decide) rfl ?_
      walk_at "go"
      exact q (some s1) o1
    · refine sub_list (y := .str s2) .list (by decide) (by decide) rfl ?_
      walk_at "go"
      exact q (some s2) o2
    · refine sub_list (y := .str s3) .list (by decide) (by decide) rfl ?_
      walk_at "go"
      exact q (some s3) o3
    · refine sub_list (y := .none) .list (by decide) (by decide) rfl ?_
      walk_at "go"
      exact q none trivial

noncomputable def LG (h m : Int) (L : List Int) (ls : Lies) : Prop := ∀ e ∈ ls, (∃ n, 1 ≤ n ∧ n ≤ m + 1 ∧ GoodK h L (lpaths h n) e.1) ∧ okV e.2
theorem LG.put {h m : Int} {L : List Int} {ls : Lies} (H : LG h m L ls) {k : List Int × Int} {v : Option Str} (hk : ∃ n, 1 ≤ n ∧ n ≤ m + 1 ∧ GoodK h L (lpaths h n) k) (hv : okV v) : LG h m L (lset ls k v) := fun e he => by
  rcases mem_lset he with rfl | he
  · exact ⟨hk, hv⟩
  · exact H e he
noncomputable def LS (σ : Sto) (a : Addr) (h m : Int) (L : List Int) (k : Nat) (ls : Lies) (σ' : Sto) : Prop := ls.length ≤ k ∧ LG h m L ls ∧ σ' = σ.set a (.dct (encL ls))
noncomputable abbrev rhoL (ns : List Int) (h m : Int) (l : List Str) (L : List Int) (a : Addr) (k : Nat) (x y z : Option AV) : Rho :=
  [(("_law_script" : Str), some (.list (ns.map .int))), (("_law_hands" : Str), some (.int h)), (("_law_most" : Str), some (.int m)), (("_law_signs_here" : Str), some (.list (l.map .str))), (("_law_liars_here" : Str), some (.list (L.map .int))), (("_law_found" : Str), some (.obj a)), (("_law_k" : Str), some (.int k)), (("_law_size" : Str), x), (("_law_path" : Str), y), (("_law_hearer" : Str), z)]
noncomputable def JL1 (σ : Sto) (ns : List Int) (h m : Int) (l : List Str) (L : List Int) (a : Addr) (li : List AV) (ρ' : Rho) (σ' : Sto) : Prop := ∃ (r : List Int) (k : Nat) (ls : Lies), li = r.map AV.int ∧ (∀ z ∈ r, 1 ≤ z ∧ z ≤ m + 1) ∧ k + 1000 * r.length ≤ 3000 ∧ LS σ a h m L k ls σ' ∧ ρ' = rhoL ns h m l L a k none none none
noncomputable def JL2 (σ : Sto) (ns : List Int) (h m : Int) (l : List Str) (L : List Int) (a : Addr) (B : Nat) (n : Int) (li : List AV) (ρ' : Rho) (σ' : Sto) : Prop := ∃ (rs : List (List Int)) (k : Nat) (ls : Lies), li = rs.map pth ∧ (∀ p ∈ rs, p ∈ lpaths h n) ∧ k + 10 * rs.length ≤ B ∧ LS σ a h m L k ls σ' ∧ ρ' = rhoL ns h m l L a k (some (.int n)) none none
noncomputable def JL3 (σ : Sto) (ns : List Int) (h m : Int) (l : List Str) (L : List Int) (a : Addr) (B : Nat) (n : Int) (p : List Int) (li : List AV) (ρ' : Rho) (σ' : Sto) : Prop := ∃ (r : List Int) (k : Nat) (ls : Lies), li = r.map AV.int ∧ (∀ x ∈ r, x ∈ hears h p) ∧ k + r.length ≤ B ∧ LS σ a h m L k ls σ' ∧ ρ' = rhoL ns h m l L a k (some (.int n)) (some (pth p)) none
theorem lhear {Q : AV → Sto → Prop} (T : TopG g (KK g)) {sc scope : Scope} {ρ : Rho} {px pos p1 p2 p3 p4 p5 p6 p7 : Pos} {h : Int} {p : List Int} (hsc : c.sc = sc) (hh : c.A.handled = none) (hu : c.A.units + 20 < cLine) (h0 : 0 ≤ h) (h1 : h ≤ 10)
    (hok : compOk ("_law_hand" : Str) [("_law_path" : Str)] scope sc = true) (hx : sc.names.lookup ("range" : Str) = some .globalImplicit) (hp : MemR "_law_path" (pth p) ρ) (hm : MemR "_law_hands" (.int h) ρ) (q : Q (.list ((hears h p).map .int)) σ) :
    ev c ρ (.ListComp (.Name "_law_hand" p1) [⟨.Name "_law_hand" px, .Call (.Name "range" p2) [.Name "_law_hands" p3] [] p4, [.Compare (.Name "_law_hand" p5) [.NotIn] [.Name "_law_path" p6] p7], 0⟩] scope pos) σ Q := by
  refine ev_filtP [(("_law_path" : Str), some (pth p))] AV.int (rngL 0 h) (fun x => !p.contains x) AV.int hsc hok (.cons hp .nil) (by rw [rngL_len, sizeLine_eq]; omega) ?_ ?_ q
  · refine ev_callB PyProof.Rows.boot_range (.type _) T hsc nb_range hx (evl_cons (ev_nm hm (evl_nil ?_)))
    exact cal_range1 ⟨rfl, iter_rng hh (by decide) (by decide) (by walk_at "rm") (by walk_at "rm")⟩
  · intro c₂ hA₂ hsc₂ a ha
    rw [← hA₂] at hu
    refine ⟨?_, fun _ => ?_⟩
    · walk_at "go"
      refine cmp_notin_tup (ints_plain p) (by rw [ints_deep]; exact Nat.zero_le _) rfl (by walk_at "rm") ?_
      walk_at "go"
      rw [ints_any]
      exact ⟨rfl, rfl⟩
    · walk_at "go"
      exact ⟨rfl, rfl⟩
theorem lies_spec {Q : AV → Sto → Prop} (T : TopG g (KK g)) (hS : ∃ f o, sysModules ≤ f ∧ g.H₀.get? f = some o) (hd : c.A.depth + 2 < recursionLimit) (hh : c.A.handled = none) (hu : c.A.units + 60 < cLine) {ns : List Int} {h m : Int} {l : List Str} {L : List Int} (n0 : 0 < ns.length) (n1 : ns.length ≤ 63) (h0 : 2 ≤ h) (h1 : h ≤ 10) (m0 : 0 ≤ m) (m1 : m ≤ 2) (hl : l.length = 4) (hok : ∀ s ∈ l, okS s)
    (q : ∀ ls, LG h m L ls → ls.length ≤ 3000 → Q (.dict (encL ls)) σ) : cal c (.ref 291) [.list (ns.map .int), .int h, .int m, .list (l.map .str), .list (L.map .int)] σ Q := by
  refine cal_fn (rest := ["_law_found", "_law_k", "_law_size", "_law_path", "_law_hearer"]) (fn__law_lies T) (by kernel_rfl) (by walk_at "rm") rfl fun c' hsc hfn hA => ?_
  have hh' : c'.A.handled = none := by rw [hA]; exact hh
  have hu' : c'.A.units + 50 < cLine := by rw [hA]; show c.A.units + 3 + 50 < cLine; walk_at "rm"
  have hd' : c'.A.depth + 1 < recursionLimit := by rw [hA]; exact hd
  show es c' [(("_law_script" : Str), some _), (("_law_hands" : Str), some _), (("_law_most" : Str), some _), (("_law_signs_here" : Str), some _), (("_law_liars_here" : Str), some _), (("_law_found" : Str), none), (("_law_k" : Str), none), (("_law_size" : Str), none), (("_law_path" : Str), none), (("_law_hearer" : Str), none)] (execs (_ :: _) c'.env) σ _
  walk_at "go"
  refine ev_dict0 hS (.inr fun a ha => ?_)
  walk_at "go"
  refine es_loop (JL1 σ ns h m l L a) hfn ?_ ?_ ?_
  · (refine ev_callB PyProof.Rows.boot_range (.type _) T (by assumption) nb_range (by rfl) ?_; walk_at "go")
    refine cal_range2 ⟨_, iter_rng hh' (by decide) (by decide) (by walk_at "rm") (by walk_at "rm"), rngL 1 (m + 2), 0, [], rfl, fun z hz => ?_, by rw [rngL_len]; omega, ⟨Nat.le_refl _, (fun _ h => by cases h), rfl⟩, rfl⟩
    have := mem_rngL.mp hz; omega
  · rintro c₂ hA₂ hsc₂ hfn₂ y rest ρ₁ σ₁ ⟨r, k, ls, hr, hz, hk, hls, rfl⟩
    rw [hsc] at hsc₂
    rw [← hA₂] at hd' hh' hu'
    cases r with
    | nil => cases hr
    | cons n r =>
      rw [List.map_cons] at hr
      injection hr with e1 e2
      subst e1; subst e2
      obtain ⟨z0, z1⟩ := hz n List.mem_cons_self
      have hll := lpaths_len (n := n) h1 (by walk_at "rm")
      rw [List.length_cons] at hk
      refine upd_ex (by walk_at "ctor") ?_
      walk_at "go"
      refine es_loop (JL2 σ ns h m l L a (k + 1000) n) hfn₂ ?_ ?_ ?_
      · (refine ev_callF T (by assumption) n__law_paths (by rfl) k__law_paths ?_; walk_at "go")
        refine paths_spec T (by walk_at "rm") hh' (by walk_at "rm") (by walk_at "rm") h1 (by walk_at "rm") (by walk_at "rm") ?_
        exact ⟨_, iter_list hh' _, lpaths h n, k, ls, rfl, fun _ h => h, by omega, hls, rfl⟩
      · rintro c₃ hA₃ hsc₃ hfn₃ y rest ρ₁ σ₂ ⟨rs, k', ls', hr', hp', hk', hls', rfl⟩
        rw [hsc₂] at hsc₃
        rw [← hA₃] at hd' hh' hu'
        cases rs with
        | nil => cases hr'
        | cons p rs =>
          rw [List.map_cons] at hr'
          injection hr' with e1 e2
          subst e1; subst e2
          have hpm := hp' p List.mem_cons_self
          obtain ⟨pne, psz, prg⟩ := lpaths_ok h0 z0 hpm
          obtain ⟨p0, y, rfl⟩ : ∃ p0 y, p = p0 ++ [y] := ⟨_, _, (List.dropLast_concat_getLast pne).symm⟩
          rw [List.length_cons] at hk'
          have hhl := hears_len h (p0 ++ [y])
          refine upd_ex (by walk_at "ctor") ?_
          walk_at "go"
          refine sub_tup (j := p0.length) (y := .int y) (by decide) (by decide) (by rw [List.length_map, List.length_append]; exact seq_last _) (by simp) ?_
          walk_at "go"
          refine cmp_in_list .list (ints_plain L) (by rw [ints_deep]; exact Nat.zero_le _) rfl (by walk_at "rm") ?_
          rw [ints_any]
          walk_at "go"
          · rename_i hin
            have hin : y ∈ L := by simpa using hin
            refine es_loop (JL3 σ ns h m l L a (k' + 10) n (p0 ++ [y])) hfn₃ ?_ ?_ ?_
            · refine lhear (p := p0 ++ [y]) T hsc₃ hh' (by walk_at "rm") (by walk_at "rm") h1 (by rfl) (by rfl) (by walk_at "ctor") (by walk_at "ctor") ?_
              exact ⟨_, iter_list hh' _, hears h (p0 ++ [y]), k', ls', rfl, fun _ h => h, by omega, hls', rfl⟩
            · rintro c₄ hA₄ hsc₄ hfn₄ y' rest ρ₁ σ₃ ⟨r4, k4, ls4, hr4, hp4, hk4, hls4, rfl⟩
              rw [hsc₃] at hsc₄
              rw [← hA₄] at hd' hh' hu'
              cases r4 with
              | nil => cases hr4
              | cons x r4 =>
                rw [List.map_cons] at hr4
                injection hr4 with e1 e2
                subst e1; subst e2
                obtain ⟨s1, s2, rfl⟩ := hls4
                rw [List.length_cons] at hk4
                refine upd_ex (by walk_at "ctor") ?_
                walk_at "go"
                rw [show ((k4 : Int) + 1) = ((k4 + 1 : Nat) : Int) from rfl]
                (refine ev_callF T (by assumption) n__law_mixed (by rfl) k__law_mixed ?_; walk_at "go")
                refine mixed_spec T (by walk_at "rm") n0 n1 (by walk_at "rm") (by walk_at "rm") fun v => ?_
                walk_at "go"
                · (refine ev_callF T (by assumption) n__law_lie (by rfl) k__law_lie ?_; walk_at "go")
                  refine lie_spec T (by walk_at "rm") n0 n1 hl hok ⟨p0, y, rfl⟩ (by walk_at "rm") (by walk_at "rm") (by walk_at "rm") fun w hw => ?_
                  walk_at "go"
                  refine ev_tuple ?_
                  walk_at "go"
                  refine ⟨by show 2 ≤ sizeLine; rw [sizeLine_eq]; decide, ?_⟩
                  refine set_dict (k := lkey (p0 ++ [y], x)) Sto.set_self (encL_tkeys ls4) (lkey_tkey _) (by unfold encL; rw [List.length_map, sizeLine_eq]; omega) (by walk_at "rm") ?_
                  rw [Sto.set_set, dset_enc]
                  walk_at "go"
                  exact trn_next (by walk_at "ctor") ⟨r4, k4 + 1, lset ls4 (p0 ++ [y], x) w, rfl, fun z hz => hp4 z (List.mem_cons_of_mem _ hz), by omega, ⟨Nat.le_trans (lset_len ..) (by walk_at "rm"), s2.put ⟨n, z0, z1, prg, hpm, ⟨p0, y, rfl, hin⟩, hp4 x List.mem_cons_self⟩ hw, rfl⟩, rfl⟩
                · exact trn_next (by walk_at "ctor") ⟨r4, k4 + 1, ls4, rfl, fun z hz => hp4 z (List.mem_cons_of_mem _ hz), by omega, ⟨by omega, s2, rfl⟩, rfl⟩
            · rintro ρ₁ σ₃ ⟨r4, k4, ls4, hr4, hp4, hk4, hls4, rfl⟩
              walk_at "go"
              exact trn_next (by walk_at "ctor") ⟨rs, k4, ls4, rfl, fun p hp => hp' p (List.mem_cons_of_mem _ hp), by omega, hls4, rfl⟩
          · exact trn_next (by walk_at "ctor") ⟨rs, k', ls', rfl, fun p hp => hp' p (List.mem_cons_of_mem _ hp), by omega, hls', rfl⟩
      · rintro ρ₁ σ₂ ⟨rs, k', ls', hr', hp', hk', hls', rfl⟩
        walk_at "go"
        exact trn_next (by walk_at "ctor") ⟨r, k', ls', rfl, fun z hz' => hz z (List.mem_cons_of_mem _ hz'), by omega, hls', rfl⟩
  · rintro ρ₁ σ₁ ⟨r, k, ls, hr, hz, hk, ⟨s1, s2, rfl⟩, rfl⟩
    refine thn_next (es_one (es_ret_freeze ?_))
    walk_at "go"
    refine ⟨a, _, _, rfl, Sto.set_self, .dct _, ?_⟩
    rw [Sto.set_del ha]
    exact q ls s2 (by walk_at "rm")
noncomputable def ofK (n : Int) (ls : Lies) : List (List Int × Int) → Lies → Lies
  | [], lt => lt
  | k :: r, lt => ofK n ls r (if (k.1.length : Int) = n then lset lt k ((lget ls k).getD none) else lt)
noncomputable def ofL (n : Int) (ls : Lies) : Lies := ofK n ls (ls.map (·.1)) []
noncomputable def JO (σ : Sto) (a : Addr) (n : Int) (ls : Lies) (li : List AV) (ρ' : Rho) (σ' : Sto) : Prop := ∃ (dk rk : List (List Int × Int)) (lt : Lies), ls.map (·.1) = dk ++ rk ∧ li = rk.map lkey ∧ (∀ e ∈ lt, e ∈ ls ∧ (e.1.1.length : Int) = n) ∧ (∀ k, (k.1.length : Int) = n → k ∈ dk → lget lt k = lget ls k) ∧ lt.length ≤ dk.length ∧ ofK n ls rk lt = ofL n ls ∧ σ' = σ.set a (.dct (encL lt)) ∧
  ρ' = [(("_law_lies_here" : Str), some (.dict (encL ls))), (("_law_size" : Str), some (.int n)), (("_law_found" : Str), some (.obj a)), (("_law_path" : Str), none), (("_law_hearer" : Str), none)]
theorem of_spec {Q : AV → Sto → Prop} (T : TopG g (KK g)) (hS : ∃ f o, sysModules ≤ f ∧ g.H₀.get? f = some o) (hd : c.A.depth < recursionLimit) (hh : c.A.handled = none) (hu : c.A.units + 20 < cLine) {n : Int} {ls : Lies} (hz : ls.length ≤ 3000) (hk : ∀ e ∈ ls, e.1.1.length ≤ 10)
    (q : ∀ a, σ a = none → (∀ e ∈ ofL n ls, e ∈ ls ∧ (e.1.1.length : Int) = n) → (∀ k, (k.1.length : Int) = n → lget (ofL n ls) k = lget ls k) → (ofL n ls).length ≤ 3000 → Q (.obj a) (σ.set a (.dct (encL (ofL n ls))))) : cal c (.ref 303) [.dict (encL ls), .int n] σ Q := by
  refine cal_fn (rest := ["_law_found", "_law_path", "_law_hearer"]) (fn__law_of T) (by kernel_rfl) (by walk_at "rm") rfl fun c' hsc hfn hA => ?_
  have hh' : c'.A.handled = none := by rw [hA]; exact hh
  have hu' : c'.A.units + 10 < cLine := by rw [hA]; show c.A.units + 3 + 10 < cLine; walk_at "rm"
  show es c' [(("_law_lies_here" : Str), some _), (("_law_size" : Str), some _), (("_law_found" : Str), none), (("_law_path" : Str), none), (("_law_hearer" : Str), none)] (execs (_ :: _) c'.env) σ _
  walk_at "go"
  refine ev_dict0 hS (.inr fun a ha => ?_)
  walk_at "go"
  refine es_for2 (JO σ a n ls) hfn hh' ?_ ?_ ?_
  · walk_at "go"
    exact ⟨_, iter_dict hh' _, [], ls.map (·.1), [], rfl, by simp [encL], (fun _ h => by cases h), (fun _ _ h => by cases h), Nat.le_refl _, rfl, rfl, rfl⟩
  · rintro c₂ hA₂ hsc₂ hfn₂ y rest ρ₁ σ₁ ⟨dk, rk, lt, h1, hr, h2, h3, h4, h6, rfl, rfl⟩
    rw [hsc] at hsc₂
    rw [← hA₂] at hh' hu'
    cases rk with
    | nil => cases hr
    | cons k rk =>
      rw [List.map_cons] at hr
      injection hr with e1 e2
      subst e1; subst e2
      have hkm : k ∈ ls.map (·.1) := by rw [h1]; simp
      obtain ⟨v, hv⟩ := lget_some hkm
      have hk10 := hk _ (lget_mem hv)
      have hdl : dk.length ≤ 3000 := by
        have := congrArg List.length h1
        rw [List.length_map, List.length_append] at this; omega
      obtain ⟨p, x⟩ := k
      refine ⟨_, _, _, _, rfl, by walk_at "ctor", by walk_at "ctor", ?_⟩
      dsimp only at hk10 ⊢
      walk_at "go"
      (refine ev_callB boot_len (.builtin _) T (by assumption) nb_len (by rfl) ?_; walk_at "go")
      refine cal_len_tup (by rw [List.length_map]; omega) ?_
      rw [List.length_map]
      walk_at "go"
      · rename_i e
        have e : (p.length : Int) = n := by simpa using e
        refine ev_tuple ?_
        walk_at "go"
        refine ⟨by show 2 ≤ sizeLine; rw [sizeLine_eq]; decide, ?_⟩
        refine sub_dict (k := lkey (p, x)) .dict (encL_tkeys ls) (lkey_tkey _) (by rw [dget_enc, hv]; rfl) (by walk_at "rm") ?_
        walk_at "go"
        refine ev_tuple ?_
        walk_at "go"
        refine ⟨by show 2 ≤ sizeLine; rw [sizeLine_eq]; decide, ?_⟩
        refine set_dict (k := lkey (p, x)) Sto.set_self (encL_tkeys lt) (lkey_tkey _) (by unfold encL; rw [List.length_map, sizeLine_eq]; omega) (by walk_at "rm") ?_
        rw [Sto.set_set, dset_enc]
        walk_at "go"
        refine trn_next (by walk_at "ctor") ⟨dk ++ [(p, x)], rk, lset lt (p, x) v, by rw [h1]; simp, rfl, fun e' he => ?_, fun k' hn hk' => ?_, Nat.le_trans (lset_len ..) (by rw [List.length_append, List.length_singleton]; omega), ?_, rfl, rfl⟩
        · rcases mem_lset he with rfl | he
          · exact ⟨lget_mem hv, e⟩
          · exact h2 e' he
        · rw [lget_lset]
          by_cases hkk : k' = (p, x)
          · rw [if_pos hkk, hkk, hv]
          · rw [if_neg hkk]
            rcases List.mem_append.mp hk' with hk' | hk'
            · exact h3 k' hn hk'
            · exact absurd (List.mem_singleton.mp hk') hkk
        · rw [← h6]
          show _ = ofK n ls rk (if (p.length : Int) = n then _ else _)
          rw [if_pos e, hv]; rfl
      · rename_i e
        have e : (p.length : Int) ≠ n := by simpa using e
        refine trn_next (by walk_at "ctor") ⟨dk ++ [(p, x)], rk, lt, by rw [h1]; simp, rfl, h2, fun k' hn hk' => ?_, by rw [List.length_append]; omega, ?_, rfl, rfl⟩
        rotate_left
        · rw [← h6]
          show _ = ofK n ls rk (if (p.length : Int) = n then _ else _)
          rw [if_neg e]
        rcases List.mem_append.mp hk' with hk' | hk'
        · exact h3 k' hn hk'
        · rw [List.mem_singleton.mp hk'] at hn; exact absurd hn e
  · rintro ρ₁ σ₁ ⟨dk, rk, lt, h1, hr, h2, h3, h4, h6, rfl, rfl⟩
    have hr0 : rk = [] := by cases rk with | nil => rfl | cons _ _ => cases hr
    subst hr0
    rw [List.append_nil] at h1
    have h6 : lt = ofL n ls := h6
    subst h6
    refine thn_next ?_
    walk_at "go"
    refine q a ha h2 (fun k hn => ?_) (Nat.le_trans h4 (by have := congrArg List.length h1; rw [List.length_map] at this; omega))
    by_cases hkm : k ∈ ls.map (·.1)
    · exact h3 k hn (h1 ▸ hkm)
    · have e1 : lget ls k = none := by
        cases e : lget ls k with
        | none => rfl
        | some v => exact absurd (List.mem_map.mpr ⟨_, lget_mem e, rfl⟩) hkm
      have e2 : lget (ofL n ls) k = none := by
        cases e : lget (ofL n ls) k with
        | none => rfl
        | some v => exact absurd (List.mem_map.mpr ⟨_, (h2 _ (lget_mem e)).1, rfl⟩) hkm
      rw [e1, e2]

theorem rngL_cons {a b : Int} (h : a < b) : rngL a b = a :: rngL (a + 1) b := by
  unfold rngL
  obtain ⟨k, hk⟩ : ∃ k, (b - a).toNat = k + 1 := ⟨(b - a).toNat - 1, by omega⟩
  rw [hk, show (b - (a + 1)).toNat = k by omega, List.range_succ_eq_map, List.map_cons, List.map_map]
  congr 1
  · omega
  · apply List.map_congr_left
    intro i _
    show a + ((i + 1 : Nat) : Int) = a + 1 + (i : Int)
    omega
noncomputable abbrev rhoP (h m : Int) (s : Str) (ls : Lies) (E : List Addr) (x y t z : Option AV) : Rho :=
  [(("_law_hands" : Str), some (.int h)), (("_law_most" : Str), some (.int m)), (("_law_sign" : Str), some (.str s)), (("_law_lies_here" : Str), some (.dict (encL ls))), (("_law_ears" : Str), some (.list (E.map .obj))), (("_law_size" : Str), x), (("_law_path" : Str), y), (("_law_truth" : Str), t), (("_law_hearer" : Str), z)]
noncomputable def PW (σ : Sto) (E : List Addr) (h : Int) (s : Str) (ls : Lies) (D : Int → List (List Int)) (σ' : Sto) : Prop := Ears σ' E h D (HV s ls) ∧ ∀ b, b ∉ E → σ' b = σ b
noncomputable def JP1 (σ : Sto) (E : List Addr) (h m : Int) (s : Str) (ls : Lies) (li : List AV) (ρ' : Rho) (σ' : Sto) : Prop := ∃ n : Int, 0 ≤ n ∧ n ≤ m + 1 ∧ li = (rngL (n + 1) (m + 2)).map AV.int ∧ PW σ E h s ls (Dm h n) σ' ∧ ρ' = rhoP h m s ls E none none none none
noncomputable def JP2 (σ : Sto) (E : List Addr) (h m : Int) (s : Str) (ls : Lies) (n : Int) (li : List AV) (ρ' : Rho) (σ' : Sto) : Prop := ∃ dn rs : List (List Int), lpaths h (n + 1) = dn ++ rs ∧ li = rs.map pth ∧ PW σ E h s ls (DD h n dn) σ' ∧ ρ' = rhoP h m s ls E (some (.int (n + 1))) none none none
noncomputable def JP3 (σ : Sto) (E : List Addr) (h m : Int) (s : Str) (ls : Lies) (n : Int) (dn : List (List Int)) (p : List Int) (li : List AV) (ρ' : Rho) (σ' : Sto) : Prop := ∃ d' r' : List Int, hears h p = d' ++ r' ∧ li = r'.map AV.int ∧ PW σ E h s ls (D3 h n dn p d') σ' ∧ ρ' = rhoP h m s ls E (some (.int (n + 1))) (some (pth p)) (some (sg (tru s ls p))) none
noncomputable def dlist : Option AObj → List (AV × AV)
  | some (.dct l) => l
  | _ => []
noncomputable def ears (h m : Int) (s : Str) (ls : Lies) : List AV := (rngL 0 h).map fun x => .dict (encP (fun p => HV s ls p x) (Dm h (m + 1) x))
theorem lplay_spec {Q : AV → Sto → Prop} (T : TopG g (KK g)) (hS : ∃ f o, sysModules ≤ f ∧ g.H₀.get? f = some o) (hd : c.A.depth + 2 < recursionLimit) (hh : c.A.handled = none) (hu : c.A.units + 60 < cLine) {h m : Int} {s : Str} {ls : Lies} (h0 : 2 ≤ h) (h1 : h ≤ 10) (m0 : 0 ≤ m) (m1 : m ≤ 2)
    (q : Q (.list (ears h m s ls)) σ) : cal c (.ref 296) [.int h, .int m, .str s, .dict (encL ls)] σ Q := by
  refine cal_fn (rest := ["_law_ears", "_law_size", "_law_path", "_law_truth", "_law_hearer"]) (fn__law_play T) (by kernel_rfl) (by walk_at "rm") rfl fun c' hsc hfn hA => ?_
  have hh' : c'.A.handled = none := by rw [hA]; exact hh
  have hu' : c'.A.units + 50 < cLine := by rw [hA]; show c.A.units + 3 + 50 < cLine; walk_at "rm"
  have hd' : c'.A.depth + 1 < recursionLimit := by rw [hA]; exact hd
  show es c' [(("_law_hands" : Str), some _), (("_law_most" : Str), some _), (("_law_sign" : Str), some _), (("_law_lies_here" : Str), some _), (("_law_ears" : Str), none), (("_law_size" : Str), none), (("_law_path" : Str), none), (("_law_truth" : Str), none), (("_law_hearer" : Str), none)] (execs (_ :: _) c'.env) σ _
  walk_at "go"
  have hlen : ((rngL 0 h).map AV.int).length = h.toNat := by rw [List.length_map, rngL_len]; omega
  refine es_map [] (JE σ h.toNat) hfn hsc (by rfl) (by rfl) (by walk_at "ctor") ?_ ?_ ?_
  · (refine ev_callB PyProof.Rows.boot_range (.type _) T (by assumption) nb_range (by rfl) ?_; walk_at "go")
    exact cal_range1 ⟨_, iter_rng hh' (by decide) (by decide) (by walk_at "rm") (by walk_at "rm"), by rw [hlen, sizeLine_eq]; omega, hlen ▸ JE.start _ _⟩
  · intro c₂ hA₂ hsc₂ y rest acc σ₁ hJ
    exact hJ.step hS
  rintro acc σ₁ ⟨E, rfl, e2, e3, e6, e5⟩
  refine made_frz (upd_ex (by walk_at "ctor") ?_)
  walk_at "go"
  refine es_loop (JP1 σ E h m s ls) hfn ?_ ?_ ?_
  · (refine ev_callB PyProof.Rows.boot_range (.type _) T (by assumption) nb_range (by rfl) ?_; walk_at "go")
    exact cal_range2 ⟨_, iter_rng hh' (by decide) (by decide) (by walk_at "rm") (by walk_at "rm"), 0, by omega, by omega, rfl, ⟨JE.ears (σ := σ) e2 (fun e he => (e3 e he).1) (by simpa using e5), e6⟩, rfl⟩
  · rintro c₂ hA₂ hsc₂ hfn₂ y rest ρ₁ σ₂ ⟨n, n0, n1, hr, hw, rfl⟩
    rw [hsc] at hsc₂
    rw [← hA₂] at hd' hh' hu'
    by_cases hn : n < m + 1
    · rw [rngL_cons (show n + 1 < m + 2 by omega), List.map_cons] at hr
      injection hr with e1 e2'
      subst e1; subst e2'
      have hll := lpaths_len (n := n + 1) h1 (by walk_at "rm")
      refine upd_ex (by walk_at "ctor") ?_
      walk_at "go"
      refine es_loop (JP2 σ E h m s ls n) hfn₂ ?_ ?_ ?_
      · (refine ev_callF T (by assumption) n__law_paths (by rfl) k__law_paths ?_; walk_at "go")
        refine paths_spec T (by walk_at "rm") hh' (by walk_at "rm") (by walk_at "rm") h1 (by walk_at "rm") (by walk_at "rm") ?_
        exact ⟨_, iter_list hh' _, [], lpaths h (n + 1), rfl, rfl, ⟨hw.1.imp fun x _ _ => (DD_nil h n x).symm, hw.2⟩, rfl⟩
      · rintro c₃ hA₃ hsc₃ hfn₃ y rest ρ₁ σ₃ ⟨dn, rs, hdr, hr', hw', rfl⟩
        rw [hsc₂] at hsc₃
        rw [← hA₃] at hd' hh' hu'
        cases rs with
        | nil => cases hr'
        | cons p rs =>
          rw [List.map_cons] at hr'
          injection hr' with e1 e2'
          subst e1; subst e2'
          have hpm : p ∈ lpaths h (n + 1) := by rw [hdr]; simp
          obtain ⟨pne, psz, _⟩ := lpaths_ok h0 (by walk_at "rm") hpm
          refine upd_ex (by walk_at "ctor") ?_
          walk_at "gos"
          refine es_join (fun ρ' σ' => σ' = σ₃ ∧ ρ' = rhoP h m s ls E (some (.int (n + 1))) (some (pth p)) (some (sg (tru s ls p))) none) ?_ ?_
          · walk_at "go"
            · rename_i hgt
              have hgt : 1 < n + 1 := by simpa using hgt
              obtain ⟨p0, y, rfl, hp0, hy⟩ := lpaths_last h0 (by walk_at "rm") hpm
              obtain ⟨⟨y0, y1⟩, hyp⟩ := mem_hears.mp hy
              obtain ⟨e, f1, f2⟩ := hw'.1.2.2 y y0 y1
              have et2 : tru s ls (p0 ++ [y]) = HV s ls p0 y := by
                unfold tru
                rw [if_neg (by walk_at "rm"), List.dropLast_concat, List.getLastD_concat]
              refine sub_tup (j := p0.length) (y := .int y) (by decide) (by decide) (by rw [List.length_map, List.length_append]; exact seq_last _) (by simp) ?_
              refine sub_list (y := .obj e) .list y0 (by walk_at "rm") (by rw [List.getElem?_map, f1]; rfl) ?_
              refine ev_init ?_
              walk_at "go"
              refine ⟨_, rfl, rfl, by rw [List.length_map, List.length_append]; exact Nat.le_add_left _ _, by rw [List.length_map]; omega, ?_⟩
              have et : AV.tup (((p0 ++ [y]).map AV.int).take (((p0 ++ [y]).map AV.int).length - 1)) = pth p0 := by
                unfold pth
                rw [List.map_append, List.length_append, List.take_left' (by simp)]
              rw [et]
              refine sub_dict (.obj f2) (encP_tkeys _ _) (pth_tkey p0) (dget_encP (List.mem_append_left _ (Dm_mem (by walk_at "rm") (by walk_at "rm") hp0 hyp))) (by walk_at "rm") ?_
              rw [← et2]
              walk_at "go"
              exact jn_next (by walk_at "ctor") ⟨rfl, rfl⟩
            · rename_i hgt
              have hgt : ¬ 1 < n + 1 := by simpa using hgt
              have et : tru s ls p = some s := by unfold tru; rw [if_pos (by walk_at "rm")]
              rw [et, show sg (some s) = AV.str s from rfl]
              exact jn_next (by walk_at "ctor") ⟨rfl, rfl⟩
          · rintro ρ' σ' ⟨rfl, rfl⟩
            walk_at "go"
            refine es_loop (JP3 σ E h m s ls n dn p) hfn₃ ?_ ?_ ?_
            · refine lhear (p := p) T hsc₃ hh' (by walk_at "rm") (by walk_at "rm") h1 (by rfl) (by rfl) (by walk_at "ctor") (by walk_at "ctor") ?_
              exact ⟨_, iter_list hh' _, [], hears h p, rfl, rfl, ⟨hw'.1.imp fun x _ _ => (D3_nil h n x dn p).symm, hw'.2⟩, rfl⟩
            · rintro c₄ hA₄ hsc₄ hfn₄ y rest ρ₁ σ₄ ⟨d', r', hdr', hr', hw4, rfl⟩
              rw [hsc₃] at hsc₄
              rw [← hA₄] at hd' hh' hu'
              cases r' with
              | nil => cases hr'
              | cons x r' =>
                rw [List.map_cons] at hr'
                injection hr' with e1 e2'
                subst e1; subst e2'
                have hx : x ∈ hears h p := by rw [hdr']; simp
                obtain ⟨⟨x0, x1⟩, _⟩ := mem_hears.mp hx
                obtain ⟨e, f1, f2⟩ := hw4.1.2.2 x x0 x1
                have hxd : x ∉ d' := by
                  have hnd := hears_nodup h p
                  rw [hdr'] at hnd
                  exact fun hm => (List.nodup_append.mp hnd).2.2 x hm x List.mem_cons_self rfl
                have heE := List.mem_of_getElem? f1
                refine upd_ex (by walk_at "ctor") ?_
                walk_at "go"
                refine ev_meth F.plainAttrs_dict F.slot_dict_get F.type_dict_get ?_
                walk_at "go"
                refine ⟨.dict, ?_⟩
                walk_at "go"
                refine ev_tuple ?_
                walk_at "go"
                refine ⟨by show 2 ≤ sizeLine; rw [sizeLine_eq]; decide, ?_⟩
                walk_at "go"
                refine cal_get2 (k := lkey (p, x)) .dict (encL_tkeys ls) (lkey_tkey _) (by walk_at "rm") ?_
                rw [dget_enc, getD_sg, ← HV_eq s ls pne x]
                walk_at "go"
                refine sub_list (y := .obj e) .list x0 (by walk_at "rm") (by rw [List.getElem?_map, f1]; rfl) ?_
                walk_at "go"
                refine set_dict f2 (encP_tkeys _ _) (pth_tkey p) (by unfold encP; rw [List.length_map, sizeLine_eq]; exact Nat.le_trans (D3_len h1 n0 (by walk_at "rm") hdr) (by decide)) (by walk_at "rm") ?_
                walk_at "go"
                refine trn_next (by walk_at "ctor") ⟨d' ++ [x], r', by rw [hdr']; simp, rfl, ⟨?_, fun b hbE => (Sto.set_ne (by rintro rfl; exact hbE heE)).trans (hw4.2 b hbE)⟩, rfl⟩
                exact (hw4.1.put x0 f1 (D3_not hdr hxd)).imp fun y _ _ => D3_put hxd y
            · rintro ρ₁ σ₄ ⟨d', r', hdr', hr', hw4, rfl⟩
              have hr0 : r' = [] := by cases r' with | nil => rfl | cons _ _ => cases hr'
              subst hr0
              rw [List.append_nil] at hdr'
              walk_at "go"
              exact trn_next (by walk_at "ctor") ⟨dn ++ [p], rs, by rw [hdr]; simp, rfl, ⟨hw4.1.imp (fun x x0 x1 => by rw [← hdr']; exact D3_end x0 x1), hw4.2⟩, rfl⟩
      · rintro ρ₁ σ₃ ⟨dn, rs, hdr, hr', hw', rfl⟩
        have hr0 : rs = [] := by cases rs with | nil => rfl | cons _ _ => cases hr'
        subst hr0
        rw [List.append_nil] at hdr
        walk_at "go"
        exact trn_next (by walk_at "ctor") ⟨n + 1, by omega, by omega, rfl, ⟨hw'.1.imp (fun x _ _ => by rw [← hdr]; exact DD_all n0), hw'.2⟩, rfl⟩
    · rw [show n = m + 1 by omega, show m + 1 + 1 = m + 2 by omega] at hr
      simp [rngL] at hr
  · rintro ρ₁ σ₂ ⟨n, n0, n1, hr, hw, rfl⟩
    have hn : n = m + 1 := by
      refine Classical.byContradiction fun hne => ?_
      rw [rngL_cons (by walk_at "rm")] at hr
      cases hr
    subst hn
    refine thn_next (es_one (es_ret_freezeE ?_))
    walk_at "go"
    have hEl : E.length = h.toNat := hw.1.2.1
    have key : ∃ f : Addr → List (AV × AV), (∀ e ∈ E, σ₂ e = some (.dct (f e))) ∧ E.map (fun e => AV.dict (f e)) = ears h m s ls := by
      refine ⟨fun e => dlist (σ₂ e), fun e he => ?_, List.ext_getElem? fun i => ?_⟩
      · obtain ⟨i, hi, rfl⟩ := List.getElem_of_mem he
        obtain ⟨e', g1, g2⟩ := hw.1.2.2 (i : Int) (by walk_at "rm") (by walk_at "rm")
        rw [Int.toNat_natCast, List.getElem?_eq_getElem hi] at g1
        injection g1 with g1
        show σ₂ E[i] = some (.dct (dlist (σ₂ E[i])))
        rw [g1, g2]; rfl
      · by_cases hi : i < E.length
        · obtain ⟨e', g1, g2⟩ := hw.1.2.2 (i : Int) (by walk_at "rm") (by walk_at "rm")
          rw [Int.toNat_natCast] at g1
          unfold ears rngL
          rw [List.getElem?_map, g1, List.map_map, List.getElem?_map, List.getElem?_range (by walk_at "rm")]
          show some (AV.dict (dlist (σ₂ e'))) = some (AV.dict (encP (fun p => HV s ls p (0 + (i : Int))) (Dm h (m + 1) (0 + (i : Int)))))
          rw [g2, Int.zero_add]; rfl
        · rw [List.getElem?_eq_none (by rw [List.length_map]; omega), List.getElem?_eq_none (by unfold ears; rw [List.length_map, rngL_len]; omega)]
    obtain ⟨f, k1, k2⟩ := key
    refine ⟨E, f, σ, rfl, fun e he => ⟨k1 e he, (e3 e he).2⟩, fun b => ?_, ?_⟩
    · by_cases hb : b ∈ E
      · exact .inl (e3 b hb).2
      · exact .inr (hw.2 b hb).symm
    · rw [k2]; exact q

theorem cut_map {α β : Type} (f : α → β) (l : List α) (a b : Option Int) : cut (l.map f) a b = (cut l a b).map f := by
  unfold cut; simp
theorem cut_mem {α : Type} {l : List α} {a b : Option Int} {x : α} (h : x ∈ cut l a b) : x ∈ l := by
  unfold cut at h
  exact List.mem_of_mem_drop (List.mem_of_mem_take h)
theorem cut_len {α : Type} (l : List α) (a b : Option Int) : (cut l a b).length ≤ l.length := by
  unfold cut
  rw [List.length_take, List.length_drop]
  omega
theorem Dm_hash (w : World) {h n x : Int} (h2 : 2 ≤ h) (h3 : h ≤ 10) (n1 : n ≤ 3) (f : List Int → Option Str) : ((encP f (Dm h n x)).map fun p => hK w p.1).Nodup := by
  have := dom_hashes (h := h) (most := n - 1) (hand := x) w h2 h3 (by walk_at "rm")
  rw [show n - 1 + 2 = n + 1 by omega] at this
  unfold encP
  rw [List.map_map]
  exact this
theorem mtold_spec {Q : AV → Sto → Prop} (T : TopG g (KK g)) (hS : ∃ f o, sysModules ≤ f ∧ g.H₀.get? f = some o) (hd : c.A.depth + 3 < recursionLimit) {h m n x : Int} {s : Str} {L : List Int} {E : List Addr} {ls : Lies} {a d : Addr} (h0 : 2 ≤ h) (h1 : h ≤ 10) (n0 : 0 ≤ n) (n1 : n ≤ 3) (ha : σ a = some (.inst 228 d)) (hd0 : σ d = some (.dct (atts (tbl h m s L n E)))) (hE : Ears σ E h (Dm h n) (HV s ls)) (x0 : 0 ≤ x) (x1 : x < h)
    (q : MadeD Q (encP (fun p => HV s ls p x) (Dm h n x)) σ) : cal c (.ref 218) [.obj a, .int x] σ Q := by
  refine cal_fn (rest := []) (fn_Table_told T) (by kernel_rfl) (by walk_at "rm") rfl fun c' hsc hfn hA => ?_
  have hd' : c'.A.depth + 2 < recursionLimit := by rw [hA]; show c.A.depth + 1 + 2 < _; walk_at "rm"
  obtain ⟨e, f1, f2⟩ := hE.2.2 x x0 x1
  have hl := Dm_len h1 x n0 n1
  show es c' [(("self" : Str), some _), (("hand" : Str), some _)] (execs (_ :: _) c'.env) σ _
  walk_at "go"
  (refine ev_callF T (by assumption) n_need_hand (by rfl) k_need_hand ?_; walk_at "go")
  (refine ev_attrN T.X (by walk_at "ctor") ha hd0 (by kernel_rfl) (by rfl) (by rfl) ?_; walk_at "go")
  refine needHand_spec T (by walk_at "rm") x0 x1 ⟨trivial, ?_⟩
  walk_at "go"
  (refine ev_callB PyProof.Rows.boot_dict (.type _) T (by assumption) nb_dict (by rfl) ?_; walk_at "go")
  (refine ev_attrN T.X (by walk_at "ctor") ha hd0 (by kernel_rfl) (by rfl) (by rfl) ?_; walk_at "go")
  refine sub_list (y := .obj e) .list x0 (by walk_at "rm") (by rw [List.getElem?_map, f1]; rfl) ?_
  walk_at "go"
  refine cal_dictD hS (.obj f2) (encP_tkeys _ _) (by unfold encP; rw [List.length_map, sizeLine_eq]; omega) (Dm_hash _ h0 h1 n1 _) (q.imp (fun q => ?_) fun q b hb => ?_)
  · walk_at "go"
    exact q
  · walk_at "go"
    exact q b hb
theorem told_spec {Q : AV → Sto → Prop} (T : TopG g (KK g)) (hd : c.A.depth + 1 < recursionLimit) (hh : c.A.handled = none) (hu : c.A.units + 30 < cLine) (f : List Int → Option Str) {ps : List (List Int)} (hz : ps.length ≤ 300) (q : Q (.bool true) σ) :
    cal c (.ref 315) [.dict (encP f ps), .dict (encP f ps)] σ Q := by
  refine cal_fn (rest := []) (fn__law_told T) (by kernel_rfl) (by walk_at "rm") rfl fun c' hsc hfn hA => ?_
  have hd' : c'.A.depth < recursionLimit := by rw [hA]; exact hd
  have hh' : c'.A.handled = none := by rw [hA]; exact hh
  have hu' : c'.A.units + 20 < cLine := by rw [hA]; show c.A.units + 3 + 20 < cLine; walk_at "rm"
  have hlen : (encP f ps).length = ps.length := List.length_map ..
  show es c' [(("_law_found" : Str), some _), (("_law_due" : Str), some _)] (execs (_ :: _) c'.env) σ _
  walk_at "go"
  (refine ev_callB PyProof.Rows.boot_isinstance (.builtin _) T (by assumption) nb_isinstance (by rfl) ?_; walk_at "go")
  (refine ev_bltN PyProof.Rows.boot_dict T (by assumption) nb_dict (by rfl) ?_; walk_at "go")
  refine cal_isDict ?_
  walk_at "go"
  (refine ev_callB boot_len (.builtin _) T (by assumption) nb_len (by rfl) ?_; walk_at "go")
  refine cal_lenD .dict (by walk_at "rm") ?_
  walk_at "go"
  (refine ev_callB boot_len (.builtin _) T (by assumption) nb_len (by rfl) ?_; walk_at "go")
  refine cal_lenD .dict (by walk_at "rm") ?_
  walk_at "go"
  · rename_i e; simp at e
  refine cmp_ned .dict .dict (encP_tkeys f ps) (fun p hp => ?_) (by walk_at "rm") ?_
  · obtain ⟨p', _, rfl⟩ := List.mem_map.mp hp
    exact ⟨sg_plain _, by rw [sg_deep]; exact Nat.zero_le _⟩
  walk_at "go"
  (refine ev_callB PyProof.Rows.boot_all (.builtin _) T (by assumption) nb_all (by rfl) ?_; walk_at "go")
  refine ev_mapP [(("_law_found" : Str), some (.dict (encP f ps))), (("_law_due" : Str), some (.dict (encP f ps)))] pth ps (fun _ => AV.bool true) hsc (by rfl) (by walk_at "ctor") (by rw [sizeLine_eq]; omega) ?_ ?_ ?_
  · (refine ev_callB PyProof.Rows.boot_list (.type _) T (by assumption) nb_list (by rfl) ?_; walk_at "go")
    refine cal_listD hh' .dict (by rw [hlen, sizeLine_eq]; omega) (.inl ⟨rfl, ?_⟩)
    rw [show (encP f ps).map (·.1) = ps.map pth by unfold encP; rw [List.map_map]; rfl]
    exact iter_list hh' _
  · intro c₂ hA₂ hsc₂ p hp
    rw [← hA₂] at hd' hh' hu'
    (refine ev_callF T (by assumption) n__law_same (by rfl) k__law_same ?_; walk_at "go")
    refine sub_dict .dict (encP_tkeys f ps) (pth_tkey p) (dget_encP hp) (by walk_at "rm") ?_
    walk_at "go"
    refine sub_dict .dict (encP_tkeys f ps) (pth_tkey p) (dget_encP hp) (by walk_at "rm") ?_
    walk_at "go"
    exact same_spec T (by walk_at "rm") ⟨rfl, rfl⟩
  · rw [show ps.map (fun _ => AV.bool true) = (ps.map fun _ => true).map AV.bool by rw [List.map_map]; rfl]
    refine cal_all hh' ?_
    walk_at "go"
    rw [show (ps.map fun _ => true).all id = true by simp]
    exact q
theorem Dm_cut {h m n x : Int} (n0 : 0 ≤ n) (n1 : n ≤ m + 1) : (Dm h (m + 1) x).filter (fun p => decide ((p.length : Int) ≤ n)) = Dm h n x := by
  have e : ∀ k : Nat, (Dm h (n + k) x).filter (fun p => decide ((p.length : Int) ≤ n)) = Dm h n x := by
    intro k
    induction k with
    | zero =>
      rw [show n + ((0 : Nat) : Int) = n by omega]
      exact List.filter_eq_self.mpr fun p hp => decide_eq_true (Dm_size hp)
    | succ k ih =>
      rw [show n + ((k + 1 : Nat) : Int) = n + (k : Int) + 1 by omega, ← DD_all (by walk_at "rm")]
      unfold DD
      rw [List.filter_append, ih, List.filter_filter, List.filter_eq_nil_iff.mpr, List.append_nil]
      intro p hp
      have := lpaths_size hp
      simp; omega
  have := e (m + 1 - n).toNat
  rw [show n + ((m + 1 - n).toNat : Int) = m + 1 by omega] at this
  exact this
theorem ears_at {h m x : Int} {s : Str} {ls : Lies} (x0 : 0 ≤ x) (x1 : x < h) : (ears h m s ls)[x.toNat]? = some (.dict (encP (fun p => HV s ls p x) (Dm h (m + 1) x))) := by
  unfold ears rngL
  rw [List.map_map, List.getElem?_map, List.getElem?_range (by walk_at "rm")]
  show some (AV.dict (encP (fun p => HV s ls p (0 + (x.toNat : Int))) (Dm h (m + 1) (0 + (x.toNat : Int))))) = _
  rw [Int.zero_add, Int.toNat_of_nonneg x0]
theorem ears_len (h m : Int) (s : Str) (ls : Lies) : (ears h m s ls).length = h.toNat := by unfold ears; rw [List.length_map, rngL_len]; omega
noncomputable def Hd (hs : List AV) : Prop := ∃ fs : List ((List Int → Option Str) × List (List Int)), (∀ e ∈ fs, e.2.length ≤ 300) ∧ hs = fs.map fun e => .tup [.dict (encP e.1 e.2), .dict (encP e.1 e.2)]
theorem Hd.snoc {hs : List AV} (H : Hd hs) (f : List Int → Option Str) {ps : List (List Int)} (hz : ps.length ≤ 300) : Hd (hs ++ [.tup [.dict (encP f ps), .dict (encP f ps)]]) := by
  obtain ⟨fs, h1, rfl⟩ := H
  refine ⟨fs ++ [(f, ps)], fun e he => ?_, by simp⟩
  rcases List.mem_append.mp he with he | he
  · exact h1 e he
  · rw [List.mem_singleton.mp he]; exact hz
theorem Sto.set_eq {σ : Sto} {a : Addr} {x : AObj} (h : σ a = some x) : σ.set a x = σ := funext fun b => by
  by_cases e : b = a
  · subst e; rw [Sto.set_self, h]
  · exact Sto.set_ne e
noncomputable abbrev rhoS (a hl : Addr) (ea : List AV) (n t : Int) (hs x y z w : Option AV) : Rho :=
  [(("_law_table_here" : Str), some (.obj a)), (("_law_ears" : Str), some (.list ea)), (("_law_size" : Str), some (.int n)), (("_law_turn" : Str), some (.int t)), (("_law_held" : Str), some (.obj hl)), (("_law_hands" : Str), hs), (("_law_hand" : Str), x), (("_law_due" : Str), y), (("_law_path" : Str), z), (("_law_found" : Str), w)]
noncomputable def JS1 (σ : Sto) (a hl : Addr) (h m : Int) (s : Str) (ls : Lies) (n t : Int) (P : List Int) (N : Nat) (li : List AV) (ρ' : Rho) (σ' : Sto) : Prop := ∃ (r : List Int) (hs : List AV), li = r.map AV.int ∧ (∀ x ∈ r, 0 ≤ x ∧ x < h) ∧ Hd hs ∧ hs.length + r.length ≤ N ∧ σ' = σ.set hl (.lst hs) ∧ ρ' = rhoS a hl (ears h m s ls) n t (some (.list (P.map .int))) none none none none
noncomputable def JS2 (σ : Sto) (a hl b : Addr) (h m : Int) (s : Str) (ls : Lies) (n t : Int) (P : List Int) (x : Int) (li : List AV) (ρ' : Rho) (σ' : Sto) : Prop := ∃ dn rs : List (List Int), Dm h (m + 1) x = dn ++ rs ∧ li = rs.map pth ∧ σ' = σ.set b (.dct (encP (fun p => HV s ls p x) (dn.filter fun p => decide ((p.length : Int) ≤ n)))) ∧ ρ' = rhoS a hl (ears h m s ls) n t (some (.list (P.map .int))) (some (.int x)) (some (.obj b)) none none
theorem stands_spec {Q : AV → Sto → Prop} (T : TopG g (KK g)) (hS : ∃ f o, sysModules ≤ f ∧ g.H₀.get? f = some o) (hd : c.A.depth + 6 < recursionLimit) (hh : c.A.handled = none) (hu : c.A.units + 60 < cLine) {h m n t : Int} {s : Str} {L : List Int} {E : List Addr} {ls : Lies} {a d hl : Addr} {hs : List AV} (h0 : 2 ≤ h) (h1 : h ≤ 10) (m1 : m ≤ 2) (n0 : 0 ≤ n) (n1 : n ≤ m + 1) (ha : σ a = some (.inst 228 d)) (hd0 : σ d = some (.dct (atts (tbl h m s L n E)))) (hE : Ears σ E h (Dm h n) (HV s ls)) (hhl : σ hl = some (.lst hs)) (hH : Hd hs) (hz : hs.length ≤ 1000)
    (q : ∀ hs', Hd hs' → hs'.length ≤ hs.length + 20 → Q (.bool true) (σ.set hl (.lst hs'))) : cal c (.ref 322) [.obj a, .list (ears h m s ls), .int n, .int t, .obj hl] σ Q := by
  refine cal_fn (rest := ["_law_hands", "_law_hand", "_law_due", "_law_path", "_law_found"]) (fn__law_stands T) (by kernel_rfl) (by walk_at "rm") rfl fun c' hsc hfn hA => ?_
  have hh' : c'.A.handled = none := by rw [hA]; exact hh
  have hu' : c'.A.units + 50 < cLine := by rw [hA]; show c.A.units + 3 + 50 < cLine; walk_at "rm"
  have hd' : c'.A.depth + 5 < recursionLimit := by rw [hA]; show c.A.depth + 1 + 5 < _; walk_at "rm"
  have hae : a ≠ hl := by rintro rfl; rw [ha] at hhl; cases hhl
  have hde : d ≠ hl := by rintro rfl; rw [hd0] at hhl; cases hhl
  have hEe : ∀ e ∈ E, e ≠ hl := fun e he => by
    rintro rfl
    obtain ⟨i, hi, rfl⟩ := List.getElem_of_mem he
    have hEl := hE.2.1
    obtain ⟨e', g1, g2⟩ := hE.2.2 (i : Int) (by walk_at "rm") (by walk_at "rm")
    rw [Int.toNat_natCast, List.getElem?_eq_getElem hi] at g1
    injection g1 with g1
    rw [g1, g2] at hhl; cases hhl
  show es c' [(("_law_table_here" : Str), some _), (("_law_ears" : Str), some _), (("_law_size" : Str), some _), (("_law_turn" : Str), some _), (("_law_held" : Str), some _), (("_law_hands" : Str), none), (("_law_hand" : Str), none), (("_law_due" : Str), none), (("_law_path" : Str), none), (("_law_found" : Str), none)] (execs (_ :: _) c'.env) σ _
  walk_at "gos"
  refine es_join (fun ρ' σ' => σ' = σ ∧ ρ' = rhoS a hl (ears h m s ls) n t none none none none none) ?_ ?_
  · walk_at "go"
    · (refine ev_callF T (by assumption) n__law_whole (by rfl) k__law_whole ?_; walk_at "go")
      (refine ev_attrN T.X (by walk_at "ctor") ha hd0 (by kernel_rfl) (by rfl) (by rfl) ?_; walk_at "go")
      refine whole_spec T (by walk_at "rm") ?_
      walk_at "go"
      (refine ev_attrN T.X (by walk_at "ctor") ha hd0 (by kernel_rfl) (by rfl) (by rfl) ?_; walk_at "go")
      · rename_i e; simp at e
      exact jn_next (by walk_at "ctor") ⟨rfl, rfl⟩
    · exact jn_next (by walk_at "ctor") ⟨rfl, rfl⟩
  rintro ρ' σ' ⟨rfl, rfl⟩
  walk_at "go"
  have hle : (((ears h m s ls).length : Nat) : Int) = h := by rw [ears_len]; omega
  have hlz : (ears h m s ls).length < 2 ^ 62 := by rw [ears_len]; omega
  (refine ev_callB PyProof.Rows.boot_list (.type _) T (by assumption) nb_list (by rfl) ?_; walk_at "go")
  (refine ev_callB PyProof.Rows.boot_range (.type _) T (by assumption) nb_range (by rfl) ?_; walk_at "go")
  (refine ev_callB boot_len (.builtin _) T (by assumption) nb_len (by rfl) ?_; walk_at "go")
  refine cal_len_list .list hlz ?_
  rw [hle]
  walk_at "go"
  refine cal_range1 ?_
  walk_at "go"
  refine cal_listR hh' (by decide) (by decide) (by walk_at "rm") (by walk_at "rm") (by walk_at "rm") (.inl ?_)
  walk_at "go"
  (refine ev_callB boot_len (.builtin _) T (by assumption) nb_len (by rfl) ?_; walk_at "go")
  refine cal_len_list .list hlz ?_
  rw [hle]
  walk_at "go"
  refine op_fmod (by walk_at "rm") ?_
  generalize t.fmod h = tn
  walk_at "go"
  have hz0 : ((rngL 0 h).map AV.int).length ≤ sizeLine := by rw [List.length_map, rngL_len, sizeLine_eq]; omega
  refine ⟨_, .list, hz0, .inl ?_⟩
  rw [cut_map]
  walk_at "go"
  (refine ev_callB boot_len (.builtin _) T (by assumption) nb_len (by rfl) ?_; walk_at "go")
  refine cal_len_list .list hlz ?_
  rw [hle]
  walk_at "go"
  refine op_fmod (by walk_at "rm") ?_
  generalize t.fmod h = tm
  walk_at "go"
  refine ⟨_, .list, hz0, .inl ?_⟩
  rw [cut_map]
  have hl1 := cut_len (rngL 0 h) (some tn) none
  have hl2 := cut_len (rngL 0 h) none (some tm)
  have hr10 : (rngL 0 h).length ≤ 10 := by rw [rngL_len]; omega
  refine op_addl .list .list (by rw [List.length_map, List.length_map, sizeLine_eq]; omega) (.inl ?_)
  rw [← List.map_append]
  have hP : ∀ x ∈ cut (rngL 0 h) (some tn) none ++ cut (rngL 0 h) none (some tm), 0 ≤ x ∧ x < h := fun x hx => (List.mem_append.mp hx).elim (fun h => mem_rngL.mp (cut_mem h)) fun h => mem_rngL.mp (cut_mem h)
  have hPl : (cut (rngL 0 h) (some tn) none ++ cut (rngL 0 h) none (some tm)).length ≤ 20 := by rw [List.length_append]; omega
  generalize cut (rngL 0 h) (some tn) none ++ cut (rngL 0 h) none (some tm) = P at hP hPl
  clear hl1 hl2
  walk_at "go"
  refine es_loop (JS1 σ' a hl h m s ls n t P (hs.length + 20)) hfn ?_ ?_ ?_
  · walk_at "go"
    exact ⟨_, iter_list hh' _, P, hs, rfl, hP, hH, by omega, (Sto.set_eq hhl).symm, rfl⟩
  · rintro c₂ hA₂ hsc₂ hfn₂ y rest ρ₁ σ₁ ⟨r, hs₁, hr, hrm, hH₁, hl₁, rfl, rfl⟩
    rw [hsc] at hsc₂
    rw [← hA₂] at hd' hh' hu'
    cases r with
    | nil => cases hr
    | cons x r =>
      rw [List.map_cons] at hr
      injection hr with e1 e2
      subst e1; subst e2
      obtain ⟨x0, x1⟩ := hrm x List.mem_cons_self
      have hDl := Dm_len h1 x (show 0 ≤ m + 1 by omega) (show m + 1 ≤ 3 by omega)
      rw [List.length_cons] at hl₁
      refine upd_ex (by walk_at "ctor") ?_
      walk_at "go"
      refine ev_dict0 hS (.inr fun b hb => ?_)
      walk_at "go"
      refine es_loop (JS2 (σ'.set hl (.lst hs₁)) a hl b h m s ls n t P x) hfn₂ ?_ ?_ ?_
      · (refine ev_callB PyProof.Rows.boot_list (.type _) T (by assumption) nb_list (by rfl) ?_; walk_at "go")
        refine sub_list .list x0 (by walk_at "rm") (ears_at x0 x1) ?_
        walk_at "go"
        refine cal_listD hh' .dict (by unfold encP; rw [List.length_map, sizeLine_eq]; omega) (.inl ⟨_, iter_list hh' _, [], Dm h (m + 1) x, rfl, ?_, rfl, rfl⟩)
        unfold encP; rw [List.map_map]; rfl
      · rintro c₃ hA₃ hsc₃ hfn₃ y rest ρ₁ σ₁ ⟨dn, rs, hdr, hr', rfl, rfl⟩
        rw [hsc₂] at hsc₃
        rw [← hA₃] at hd' hh' hu'
        cases rs with
        | nil => cases hr'
        | cons p rs =>
          rw [List.map_cons] at hr'
          injection hr' with e1 e2
          subst e1; subst e2
          have hpm : p ∈ Dm h (m + 1) x := by rw [hdr]; simp
          have hps := Dm_size hpm
          have hpd : p ∉ dn.filter fun p => decide ((p.length : Int) ≤ n) := fun hm => by
            have hnd : (Dm h (m + 1) x).Nodup := dom_nodup (rngL_nodup _ _)
            rw [hdr] at hnd
            exact (List.nodup_append.mp hnd).2.2 p (List.mem_filter.mp hm).1 p List.mem_cons_self rfl
          refine upd_ex (by walk_at "ctor") ?_
          walk_at "go"
          (refine ev_callB boot_len (.builtin _) T (by assumption) nb_len (by rfl) ?_; walk_at "go")
          refine cal_len_tup (by rw [List.length_map]; omega) ?_
          rw [List.length_map]
          walk_at "go"
          · rename_i e
            refine sub_list .list x0 (by walk_at "rm") (ears_at x0 x1) ?_
            walk_at "go"
            refine sub_dict .dict (encP_tkeys _ _) (pth_tkey p) (dget_encP hpm) (by walk_at "rm") ?_
            walk_at "go"
            have hfl := List.length_filter_le (fun p : List Int => decide ((p.length : Int) ≤ n)) dn
            have hdl := congrArg List.length hdr
            rw [List.length_append] at hdl
            refine set_dict Sto.set_self (encP_tkeys _ _) (pth_tkey p) (by unfold encP; rw [List.length_map, sizeLine_eq]; omega) (by walk_at "rm") ?_
            rw [Sto.set_set, dset_encP (f := fun p => HV s ls p x) hpd]
            walk_at "go"
            refine trn_next (by walk_at "ctor") ⟨dn ++ [p], rs, by rw [hdr]; simp, rfl, ?_, rfl⟩
            rw [List.filter_append, List.filter_cons_of_pos (p := fun p : List Int => decide ((p.length : Int) ≤ n)) (by exact e)]; rfl
          · rename_i e
            refine trn_next (by walk_at "ctor") ⟨dn ++ [p], rs, by rw [hdr]; simp, rfl, ?_, rfl⟩
            rw [List.filter_append, List.filter_cons_of_neg (p := fun p : List Int => decide ((p.length : Int) ≤ n)) (by rw [e]; exact Bool.false_ne_true), List.filter_nil, List.append_nil]
      · rintro ρ₁ σ₁ ⟨dn, rs, hdr, hr', rfl, rfl⟩
        have hr0 : rs = [] := by cases rs with | nil => rfl | cons _ _ => cases hr'
        subst hr0
        rw [List.append_nil] at hdr
        subst hdr
        rw [Dm_cut n0 n1]
        have hDn := Dm_len h1 x n0 (show n ≤ 3 by omega)
        refine thn_next (es_freeze Sto.set_self (.dct _) (by walk_at "ctor") ?_)
        rw [Sto.set_del hb]
        walk_at "go"
        (refine ev_methI T.X k_Table_told ?_; walk_at "go")
        refine ⟨a, _, d, _, rfl, (Sto.set_ne hae).trans ha, (Sto.set_ne hde).trans hd0, by kernel_rfl, by rfl, ?_⟩
        walk_at "go"
        refine mtold_spec T hS (by walk_at "rm") h0 h1 n0 (by walk_at "rm") ((Sto.set_ne hae).trans ha) ((Sto.set_ne hde).trans hd0) (hE.keep fun e he => Sto.set_ne (hEe e he)) x0 x1 (.inl ?_)
        walk_at "go"
        (refine ev_callF T (by assumption) n__law_told (by rfl) k__law_told ?_; walk_at "go")
        refine told_spec T (by walk_at "rm") hh' (by walk_at "rm") _ hDn ?_
        walk_at "go"
        (refine ev_meth F.plainAttrs_list F.slot_list_append F.type_list_append ?_; walk_at "go")
        refine ⟨.objL Sto.set_self, ?_⟩
        walk_at "go"
        refine ev_tuple ?_
        walk_at "go"
        refine ⟨by show 2 ≤ sizeLine; rw [sizeLine_eq]; decide, ?_⟩
        walk_at "go"
        refine cal_append Sto.set_self (by rw [sizeLine_eq]; omega) ⟨trivial, ?_⟩
        rw [Sto.set_set]
        walk_at "go"
        exact trn_next (by walk_at "ctor") ⟨r, _, rfl, fun x hx => hrm x (List.mem_cons_of_mem _ hx), hH₁.snoc _ hDn, by rw [List.length_append, List.length_singleton]; omega, rfl, rfl⟩
  · rintro ρ₁ σ₁ ⟨r, hs₁, hr, hrm, hH₁, hl₁, rfl, rfl⟩
    walk_at "go"
    (refine ev_callF T (by assumption) n__law_whole (by rfl) k__law_whole ?_; walk_at "go")
    (refine ev_attrN T.X (by walk_at "ctor") ((Sto.set_ne hae).trans ha) ((Sto.set_ne hde).trans hd0) (by kernel_rfl) (by rfl) (by rfl) ?_; walk_at "go")
    refine whole_spec T (by walk_at "rm") ?_
    walk_at "go"
    (refine ev_attrN T.X (by walk_at "ctor") ((Sto.set_ne hae).trans ha) ((Sto.set_ne hde).trans hd0) (by kernel_rfl) (by rfl) (by rfl) ?_; walk_at "go")
    rw [beq_self_eq_true]
    exact q hs₁ hH₁ (by walk_at "rm")

noncomputable def Kn (a d : Addr) (E : List Addr) : List Addr := a :: d :: E
noncomputable def TB (a d : Addr) (E : List Addr) (H M : Int) (s : Str) (L : List Int) (ls : Lies) (n : Int) (σ' : Sto) : Prop := σ' a = some (.inst 228 d) ∧ σ' d = some (.dct (atts (tbl H M s L n E))) ∧ a ∉ E ∧ d ∉ E ∧ Ears σ' E H (Dm H n) (HV s ls)
theorem TB.live {a d : Addr} {E : List Addr} {H M : Int} {s : Str} {L : List Int} {ls : Lies} {n : Int} {σ : Sto} (t : TB a d E H M s L ls n σ) {k : Addr} (hk : k ∈ Kn a d E) : ∃ x, σ k = some x ∧ ∀ l, x ≠ .lst l := by
  obtain ⟨t1, t2, _, _, t5⟩ := t
  rcases List.mem_cons.mp hk with rfl | hk
  · exact ⟨_, t1, fun _ e => by cases e⟩
  rcases List.mem_cons.mp hk with rfl | hk
  · exact ⟨_, t2, fun _ e => by cases e⟩
  obtain ⟨i, hi, rfl⟩ := List.getElem_of_mem hk
  have hEl := t5.2.1
  obtain ⟨e', g1, g2⟩ := t5.2.2 (i : Int) (by walk_at "rm") (by walk_at "rm")
  rw [Int.toNat_natCast, List.getElem?_eq_getElem hi] at g1
  injection g1 with g1
  exact ⟨_, g1 ▸ g2, fun _ e => by cases e⟩
theorem TB.le {a d : Addr} {E : List Addr} {H M : Int} {s : Str} {L : List Int} {ls : Lies} {n : Int} {σ σ' : Sto} (t : TB a d E H M s L ls n σ) (h : ∀ k ∈ Kn a d E, ∀ x, σ k = some x → σ' k = some x) : TB a d E H M s L ls n σ' := by
  have t0 := t
  obtain ⟨t1, t2, t3, t4, t5⟩ := t
  refine ⟨h _ List.mem_cons_self _ t1, h _ (List.mem_cons_of_mem _ List.mem_cons_self) _ t2, t3, t4, t5.keep fun e he => ?_⟩
  have hm : e ∈ Kn a d E := List.mem_cons_of_mem _ (List.mem_cons_of_mem _ he)
  obtain ⟨x, hx, _⟩ := t0.live hm
  rw [h e hm x hx, hx]
theorem TB.set {a d : Addr} {E : List Addr} {H M : Int} {s : Str} {L : List Int} {ls : Lies} {n : Int} {σ : Sto} (t : TB a d E H M s L ls n σ) {b : Addr} {y : AObj} (hb : b ∉ Kn a d E) : TB a d E H M s L ls n (σ.set b y) :=
  t.le fun k hk x hx => (Sto.set_ne (by rintro rfl; exact hb hk)).trans hx
theorem TB.new {a d : Addr} {E : List Addr} {H M : Int} {s : Str} {L : List Int} {ls : Lies} {n : Int} {σ : Sto} (t : TB a d E H M s L ls n σ) {b : Addr} (hb : σ b = none) : b ∉ Kn a d E := fun h => by
  obtain ⟨x, hx, _⟩ := t.live h
  rw [hx] at hb; cases hb
theorem TB.lst {a d : Addr} {E : List Addr} {H M : Int} {s : Str} {L : List Int} {ls : Lies} {n : Int} {σ : Sto} (t : TB a d E H M s L ls n σ) {b : Addr} {l : List AV} (hb : σ b = some (.lst l)) : b ∉ Kn a d E := fun h => by
  obtain ⟨x, hx, h2⟩ := t.live h
  rw [hx] at hb; injection hb with hb; exact h2 l hb
theorem make_spec {Q : AV → Sto → Prop} (T : TopG g (KK g)) (hS : ∃ f o, sysModules ≤ f ∧ g.H₀.get? f = some o) (hd : c.A.depth + 6 < recursionLimit) (hh : c.A.handled = none) (hu : c.A.units + 70 < cLine) {h m : Int} {s : Str} {L : List Int} (h0 : 2 ≤ h) (h1 : h ≤ 10) (m0 : 0 ≤ m) (m1 : m ≤ 2) (hs : okS s) (hn : L.Nodup) (hL : ∀ x ∈ L, 0 ≤ x ∧ x < h) (hz : L.length ≤ 100) {v : AV} (hv : LV σ v L)
    (q : ∀ a d E σ', (∀ ls, TB a d E h m s L ls 0 σ') → (∀ k ∈ Kn a d E, σ k = none) → (∀ b x, σ b = some x → σ' b = some x) → Q (.obj a) σ') : cal c (.ref 228) [.int h, .int m, .str s, v] σ Q := by
  refine cal_make T.X km_Table hS fun a d fa fd had c'' hcd hch hcu => ?_
  have hv' : LV ((σ.set d (.dct (atts []))).set a (.inst 228 d)) v L := by
    rcases hv with (rfl | ⟨b, rfl, hb⟩) | rfl
    · exact .inl (.inl rfl)
    · refine .inl (.inr ⟨b, rfl, (Sto.set_ne ?_).trans ((Sto.set_ne ?_).trans hb)⟩) <;> rintro rfl
      · rw [fa] at hb; cases hb
      · rw [fd] at hb; cases hb
    · exact .inr rfl
  refine init_spec T hS (by rw [hcd]; omega) (hch.trans hh) (by rw [hcu]; omega) h0 h1 m0 m1 hs hn hL hz hv' Sto.set_self ((Sto.set_ne had.symm).trans Sto.set_self) fun E σ₁ b1 b2 b3 b4 b5 b6 => ⟨rfl, ?_⟩
  have haE : a ∉ E := fun h => by have := (b4 a h).2; rw [Sto.set_self] at this; cases this
  have hdE : d ∉ E := fun h => by have := (b4 d h).2; rw [Sto.set_ne had.symm, Sto.set_self] at this; cases this
  refine q a d E σ₁ (fun ls => ⟨b1, b2, haE, hdE, JE.ears (σ := σ₁) b3 (fun e he => (b4 e he).1) b6⟩) (fun k hk => ?_) fun b x hb => b5 b x ((Sto.set_ne (by rintro rfl; rw [fa] at hb; cases hb)).trans ((Sto.set_ne (by rintro rfl; rw [fd] at hb; cases hb)).trans hb)) (by rintro rfl; rw [fd] at hb; cases hb)
  rcases List.mem_cons.mp hk with rfl | hk
  · exact fa
  rcases List.mem_cons.mp hk with rfl | hk
  · exact fd
  have := (b4 k hk).2
  have n1 : k ≠ a := fun e => haE (e ▸ hk)
  have n2 : k ≠ d := fun e => hdE (e ▸ hk)
  rw [Sto.set_ne n1, Sto.set_ne n2] at this
  exact this
noncomputable abbrev rhoW (ns : List Int) (H M : Int) (l : List Str) (L : List Int) (ls : Lies) (hn a b hl : Addr) (ea oa : List AV) (x t z : Option AV) : Rho :=
  [(("_law_script" : Str), some (.list (ns.map .int))), (("_law_hands" : Str), some (.int H)), (("_law_most" : Str), some (.int M)), (("_law_signs_here" : Str), some (.list (l.map .str))), (("_law_liars_here" : Str), some (.list (L.map .int))), (("_law_lies_here" : Str), some (.dict (encL ls))), (("_law_handed" : Str), some (.obj hn)), (("_law_table_here" : Str), some (.obj a)), (("_law_beside" : Str), some (.obj b)), (("_law_ears" : Str), some (.list ea)), (("_law_others" : Str), some (.list oa)), (("_law_held" : Str), some (.obj hl)), (("_law_size" : Str), x), (("_law_turn" : Str), t), (("_law_some" : Str), z)]
noncomputable def WD (a d : Addr) (E : List Addr) (a' d' : Addr) (E' : List Addr) (hl : Addr) (H M : Int) (s s' : Str) (L : List Int) (ls : Lies) (n : Int) (N : Nat) (σ : Sto) : Prop := TB a d E H M s L ls n σ ∧ TB a' d' E' H M s' L [] n σ ∧ ∃ hs, σ hl = some (.lst hs) ∧ Hd hs ∧ hs.length ≤ N
noncomputable def JW (ns : List Int) (H M : Int) (l : List Str) (L : List Int) (ls : Lies) (s s' : Str) (hn a d : Addr) (E : List Addr) (a' d' : Addr) (E' : List Addr) (hl : Addr) (li : List AV) (ρ' : Rho) (σ' : Sto) : Prop := ∃ n : Int, 0 ≤ n ∧ n ≤ M + 2 ∧ li = (rngL n (M + 2)).map AV.int ∧ WD a d E a' d' E' hl H M s s' L ls (((n - 1).toNat : Nat) : Int) (40 * n.toNat) σ' ∧ ρ' = rhoW ns H M l L ls hn a a' hl (ears H M s ls) (ears H M s' []) none none none
theorem law_spec {Q : AV → Sto → Prop} (T : TopG g (KK g)) (hS : ∃ f o, sysModules ≤ f ∧ g.H₀.get? f = some o) (hd : c.A.depth + 30 < recursionLimit) (hh : c.A.handled = none) (hu : c.A.units + 300 < cLine) {ns : List Int} (hz : ns.length ≤ 63) (q : ∀ σ', Q (.bool true) σ') :
    cal c (.ref 327) [.list (ns.map .int)] σ Q := by
  refine cal_fn (rest := ["_law_hands", "_law_most", "_law_signs_here", "_law_liars_here", "_law_lies_here", "_law_handed", "_law_table_here", "_law_beside", "_law_ears", "_law_others", "_law_held", "_law_size", "_law_turn", "_law_some"]) (fn_law T) (by kernel_rfl) (by walk_at "rm") rfl fun c' hsc hfn hA => ?_
  have hh' : c'.A.handled = none := by rw [hA]; exact hh
  have hd' : c'.A.depth + 25 < recursionLimit := by rw [hA]; show c.A.depth + 1 + 25 < _; walk_at "rm"
  have hu' : c'.A.units + 250 < cLine := by rw [hA]; show c.A.units + 3 + 250 < cLine; walk_at "rm"
  show es c' [(("_law_script" : Str), some (AV.list (ns.map .int))), (("_law_hands" : Str), none), (("_law_most" : Str), none), (("_law_signs_here" : Str), none), (("_law_liars_here" : Str), none), (("_law_lies_here" : Str), none), (("_law_handed" : Str), none), (("_law_table_here" : Str), none), (("_law_beside" : Str), none), (("_law_ears" : Str), none), (("_law_others" : Str), none), (("_law_held" : Str), none), (("_law_size" : Str), none), (("_law_turn" : Str), none), (("_law_some" : Str), none)] (execs (_ :: _) c'.env) σ _
  walk_at "go"
  (refine ev_callB boot_len (.builtin _) T (by assumption) nb_len (by rfl) ?_; walk_at "go")
  refine cal_len_list .list (by rw [List.length_map]; omega) ?_
  rw [List.length_map]
  walk_at "go"
  · exact q _
  rename_i hlen0
  have hz0 : 0 < ns.length := by simp at hlen0; cases ns with | nil => exact absurd rfl hlen0 | cons _ _ => simp
  refine es_unpack hh' ?_ hfn
  (refine ev_callF T (by assumption) n__law_table (by rfl) k__law_table ?_; walk_at "go")
  (refine ev_callF T (by assumption) n__law_cell_at (by rfl) k__law_cell_at ?_; walk_at "go"; refine cell_spec T (by walk_at "rm") (by walk_at "rm") (by decide) (by decide) ?_; walk_at "go")
  refine table_spec T (by walk_at "rm") fun H M h0 h1 hM0 hM2 hHM => ?_
  refine ⟨_, _, _, _, rfl, by walk_at "ctor", by walk_at "ctor", ?_⟩
  walk_at "go"
  (refine ev_callF T (by assumption) n__law_signs (by rfl) k__law_signs ?_; walk_at "go")
  (refine ev_callF T (by assumption) n__law_cell_at (by rfl) k__law_cell_at ?_; walk_at "go"; refine cell_spec T (by walk_at "rm") (by walk_at "rm") (by decide) (by decide) ?_; walk_at "go")
  refine signs_spec T (by walk_at "rm") hh' fun l hl hok => ?_
  walk_at "go"
  (refine ev_callF T (by assumption) n__law_liars (by rfl) k__law_liars ?_; walk_at "go")
  (refine ev_callF T (by assumption) n__law_cell_at (by rfl) k__law_cell_at ?_; walk_at "go"; refine cell_spec T (by walk_at "rm") (by walk_at "rm") (by decide) (by decide) ?_; walk_at "go")
  (refine ev_callF T (by assumption) n__law_cell_at (by rfl) k__law_cell_at ?_; walk_at "go"; refine cell_spec T (by walk_at "rm") (by walk_at "rm") (by decide) (by decide) ?_; walk_at "go")
  refine op_fmod (by walk_at "rm") ?_
  generalize ns.getD (Int.toNat 4) 0 = c4
  have hm0 := fm_lo c4 (n := H + 1) (by walk_at "rm")
  have hm1 := fm_hi c4 (n := H + 1) (by walk_at "rm")
  walk_at "go"
  refine liars_spec T (by walk_at "rm") hh' (by walk_at "rm") h0 h1 hm0 (by walk_at "rm") fun L l1 l2 l3 => ?_
  walk_at "go"
  (refine ev_callF T (by assumption) n__law_lies (by rfl) k__law_lies ?_; walk_at "go")
  refine lies_spec T hS (by walk_at "rm") hh' (by walk_at "rm") hz0 hz h0 h1 hM0 hM2 hl hok fun ls hls hlz => ?_
  walk_at "go"
  obtain ⟨s, s1, s2, s3, rfl⟩ : ∃ a b c d, l = [a, b, c, d] := by
    match l, hl with
    | [a, b, c, d], _ => exact ⟨a, b, c, d, rfl⟩
  have os := hok s (by simp)
  have os3 := hok s3 (by simp)
  have hLz : (L.map AV.int).length ≤ sizeLine := by rw [List.length_map, sizeLine_eq]; omega
  (refine ev_callB PyProof.Rows.boot_list (.type _) T (by assumption) nb_list (by rfl) ?_; walk_at "go")
  refine cal_list .list hLz (.inr fun hn hhn => ?_)
  walk_at "go"
  refine ev_callC T hsc n_Table (by rfl) kc_Table ?_
  walk_at "go"
  refine sub_list (y := .str s) .list (by decide) (by decide) rfl ?_
  walk_at "go"
  refine make_spec T hS (by walk_at "rm") hh' (by walk_at "rm") h0 h1 hM0 hM2 os l1 l2 (by walk_at "rm") (.inl (.inr ⟨hn, rfl, Sto.set_self⟩)) fun a d E σ₁ b1 b2 b3 => ?_
  have hb3 := b3 hn _ Sto.set_self
  walk_at "go"
  (refine ev_meth0 F.plainAttrs_list F.slot_list_clear F.type_list_clear ?_; walk_at "go")
  refine ⟨.objL hb3, ?_⟩
  walk_at "go"
  refine cal_clearL hb3 hLz ⟨trivial, ?_⟩
  have b1 : ∀ ls, TB a d E H M s L ls 0 (σ₁.set hn (.lst [])) := fun ls => (b1 ls).set ((b1 ls).lst hb3)
  generalize σ₁.set hn (.lst []) = σ₂ at b1 ⊢
  clear b2 b3 hb3
  walk_at "go"
  refine ev_callC T hsc n_Table (by rfl) kc_Table ?_
  walk_at "go"
  refine sub_list (y := .str s3) .list (by decide) (by decide) rfl ?_
  walk_at "go"
  (refine ev_callB PyProof.Rows.boot_tuple (.type _) T (by assumption) nb_tuple (by rfl) ?_; walk_at "go")
  refine cal_tupL .list hLz ?_
  walk_at "go"
  refine make_spec T hS (by walk_at "rm") hh' (by walk_at "rm") h0 h1 hM0 hM2 os3 l1 l2 (by walk_at "rm") (.inr rfl) fun a' d' E' σ₃ b1' b2 b3 => ?_
  have dj : ∀ k ∈ Kn a d E, k ∉ Kn a' d' E' := fun k hk hk' => by
    obtain ⟨x, hx, _⟩ := (b1 []).live hk
    rw [b2 k hk'] at hx; cases hx
  have b1 : TB a d E H M s L ls 0 σ₃ := (b1 ls).le fun k _ x hx => b3 k x hx
  have b1' := b1' []
  clear b2 b3
  walk_at "go"
  (refine ev_callF T (by assumption) n__law_play (by rfl) k__law_play ?_; walk_at "go")
  refine sub_list (y := .str s) .list (by decide) (by decide) rfl ?_
  walk_at "go"
  refine lplay_spec T hS (by walk_at "rm") hh' (by walk_at "rm") h0 h1 hM0 hM2 ?_
  walk_at "go"
  (refine ev_callF T (by assumption) n__law_play (by rfl) k__law_play ?_; walk_at "go")
  refine sub_list (y := .str s3) .list (by decide) (by decide) rfl ?_
  walk_at "go"
  refine ev_dict0 hS (.inl ?_)
  walk_at "go"
  refine lplay_spec (ls := []) T hS (by walk_at "rm") hh' (by walk_at "rm") h0 h1 hM0 hM2 ?_
  walk_at "go"
  refine ev_list (evl_nil ⟨by decide, .inr fun hl hhl => ?_⟩)
  walk_at "go"
  refine es_loop (JW ns H M [s, s1, s2, s3] L ls s s3 hn a d E a' d' E' hl) hfn ?_ ?_ ?_
  · (refine ev_callB PyProof.Rows.boot_range (.type _) T (by assumption) nb_range (by rfl) ?_; walk_at "go")
    exact cal_range1 ⟨_, iter_rng hh' (by decide) (by decide) (by walk_at "rm") (by walk_at "rm"), 0, by omega, by omega, rfl, ⟨b1.set (b1.new hhl), b1'.set (b1'.new hhl), [], Sto.set_self, ⟨[], (fun _ h => by cases h), rfl⟩, Nat.zero_le _⟩, rfl⟩
  · rintro c₂ hA₂ hsc₂ hfn₂ y rest ρ₁ σ₄ ⟨n, n0, n1, hr, ⟨t, t', hs, w1, w2, w3⟩, rfl⟩
    rw [hsc] at hsc₂
    rw [← hA₂] at hd' hh' hu'
    by_cases hn2 : n < M + 2
    · rw [rngL_cons hn2, List.map_cons] at hr
      injection hr with e1 e2
      subst e1; subst e2
      refine upd_ex (by walk_at "ctor") ?_
      walk_at "go"
      (refine ev_callF T (by assumption) n__law_cell_at (by rfl) k__law_cell_at ?_; walk_at "go")
      refine cell_spec T (by walk_at "rm") (by walk_at "rm") (by walk_at "rm") (by walk_at "rm") ?_
      generalize ns.getD (5 + n).toNat 0 = tn
      walk_at "gos"
      refine es_join (fun ρ' σ' => WD a d E a' d' E' hl H M s s3 L ls n (40 * n.toNat) σ' ∧ ρ' = rhoW ns H M [s, s1, s2, s3] L ls hn a a' hl (ears H M s ls) (ears H M s3 []) (some (.int n)) (some (.int tn)) none) ?_ ?_
      · walk_at "go"
        · rename_i hgt
          have hgt : 0 < n := by simpa using hgt
          have en : (((n - 1).toNat : Nat) : Int) = n - 1 := by omega
          rw [en] at t t'
          have hk10 : ∀ e ∈ ls, e.1.1.length ≤ 10 := fun e he => by
            obtain ⟨⟨k, k1, k2, _, k4, _⟩, _⟩ := hls e he
            have := lpaths_size k4; omega
          (refine ev_callF T (by assumption) n__law_of (by rfl) k__law_of ?_; walk_at "go")
          refine of_spec T hS (by walk_at "rm") hh' (by walk_at "rm") hlz hk10 fun b hb q1 q2 q3 => ?_
          have hbk := t.new hb
          have hbk' := t'.new hb
          have hbh : b ≠ hl := by rintro rfl; rw [w1] at hb; cases hb
          walk_at "go"
          (refine ev_methI T.X k_Table_play ?_; walk_at "go")
          have u := t.set (y := .dct (encL (ofL n ls))) hbk
          refine ⟨a, _, d, _, rfl, u.1, u.2.1, by kernel_rfl, by rfl, ?_⟩
          walk_at "go"
          refine play_spec (lt := ofL n ls) T (by walk_at "rm") hh' (by walk_at "rm") h0 h1 hM2 (by walk_at "rm") (by walk_at "rm") u.1 u.2.1 u.2.2.1 u.2.2.2.1 u.2.2.2.2 Sto.set_self (fun h => hbk (List.mem_cons_of_mem _ (List.mem_cons_of_mem _ h))) (fun e he => ?_) (fun p x hp => q2 (p, x) (by rw [lpaths_size hp]; omega)) fun σ₅ u1 u2 u3 u4 => ?_
          · obtain ⟨q4, q5⟩ := q1 e he
            obtain ⟨⟨k, k1, k2, k3, k4, k5⟩, k6⟩ := hls e q4
            have := lpaths_size k4
            have hk : k = n - 1 + 1 := by omega
            subst hk
            exact ⟨⟨k3, k4, k5⟩, by omega, k6⟩
          rw [show n - 1 + 1 = n by omega] at u2 u3
          have hbE := u4 b _ Sto.set_self (fun h => hbk (List.mem_cons_of_mem _ (List.mem_cons_of_mem _ h))) (fun h => hbk (h ▸ List.mem_cons_of_mem _ List.mem_cons_self))
          have t1 : TB a d E H M s L ls n σ₅ := ⟨u1, u2, t.2.2.1, t.2.2.2.1, u3⟩
          have t2 : TB a' d' E' H M s3 L [] (n - 1) σ₅ := (t'.set (y := .dct (encL (ofL n ls))) hbk').le fun k hk x hx => u4 k x hx (fun h => dj k (List.mem_cons_of_mem _ (List.mem_cons_of_mem _ h)) hk) (fun h => dj k (h ▸ List.mem_cons_of_mem _ List.mem_cons_self) hk)
          have w1 := u4 hl _ ((Sto.set_ne (Ne.symm hbh)).trans w1) (fun h => t.lst w1 (List.mem_cons_of_mem _ (List.mem_cons_of_mem _ h))) (fun h => t.lst w1 (h ▸ List.mem_cons_of_mem _ List.mem_cons_self))
          clear u u1 u2 u3 u4 t t' hb
          walk_at "go"
          · rename_i e; cases e
          (refine ev_callF T (by assumption) n__law_of (by rfl) k__law_of ?_; walk_at "go")
          refine of_spec T hS (by walk_at "rm") hh' (by walk_at "rm") hlz hk10 fun b2 hb2 _ _ _ => ?_
          have hbb : b ≠ b2 := by rintro rfl; rw [hbE] at hb2; cases hb2
          have hbl : b2 ≠ hl := by rintro rfl; rw [w1] at hb2; cases hb2
          have t1 := t1.set (y := .dct (encL (ofL n ls))) (t1.new hb2)
          have t2 := t2.set (y := .dct (encL (ofL n ls))) (t2.new hb2)
          have w1 := (Sto.set_ne (x := .dct (encL (ofL n ls))) (Ne.symm hbl)).trans w1
          have hbE := (Sto.set_ne (x := .dct (encL (ofL n ls))) hbb).trans hbE
          walk_at "go"
          refine cmp_ned (.obj hbE) (.obj Sto.set_self) (encL_tkeys _) (fun p hp => ?_) (by walk_at "rm") ?_
          · obtain ⟨e, _, rfl⟩ := List.mem_map.mp hp
            exact ⟨sg_plain _, by rw [sg_deep]; exact Nat.zero_le _⟩
          generalize σ₅.set b2 (.dct (encL (ofL n ls))) = σ₆ at t1 t2 w1 hbE
          clear hb2 hbb hbl
          walk_at "go"
          (refine ev_meth0 F.plainAttrs_dict F.slot_dict_clear F.type_dict_clear ?_; walk_at "go")
          refine ⟨.objD hbE, ?_⟩
          walk_at "go"
          refine cal_clearD hbE (by unfold encL; rw [List.length_map, sizeLine_eq]; omega) ⟨trivial, ?_⟩
          have t1 := t1.set (y := .dct []) hbk
          have t2 := t2.set (y := .dct []) hbk'
          have w1 := (Sto.set_ne (x := .dct []) (Ne.symm hbh)).trans w1
          generalize σ₆.set b (.dct []) = σ₇ at t1 t2 w1
          walk_at "go"
          (refine ev_methI T.X k_Table_play ?_; walk_at "go")
          refine ⟨a', _, d', _, rfl, t2.1, t2.2.1, by kernel_rfl, by rfl, ?_⟩
          walk_at "go"
          refine ev_dict0 hS (.inr fun b3 hb3 => ?_)
          have hk3 := t2.new hb3
          have u := t2.set (y := .dct []) hk3
          have hbl : b3 ≠ hl := by rintro rfl; rw [w1] at hb3; cases hb3
          walk_at "go"
          refine play_spec (ls := []) (lt := []) T (by walk_at "rm") hh' (by walk_at "rm") h0 h1 hM2 (by walk_at "rm") (by walk_at "rm") u.1 u.2.1 u.2.2.1 u.2.2.2.1 u.2.2.2.2 Sto.set_self (fun h => hk3 (List.mem_cons_of_mem _ (List.mem_cons_of_mem _ h))) (fun e he => by cases he) (fun p x hp => rfl) fun σ₈ u1 u2 u3 u4 => ⟨trivial, ?_⟩
          rw [show n - 1 + 1 = n by omega] at u2 u3
          have t3 : TB a' d' E' H M s3 L [] n σ₈ := ⟨u1, u2, t2.2.2.1, t2.2.2.2.1, u3⟩
          have t1 := (t1.set (y := .dct []) (t1.new hb3)).le fun k hk x hx => u4 k x hx (fun h => dj k hk (List.mem_cons_of_mem _ (List.mem_cons_of_mem _ h))) (fun h => dj k hk (h ▸ List.mem_cons_of_mem _ List.mem_cons_self))
          have w1 := u4 hl _ ((Sto.set_ne (Ne.symm hbl)).trans w1) (fun h => t2.lst w1 (List.mem_cons_of_mem _ (List.mem_cons_of_mem _ h))) (fun h => t2.lst w1 (h ▸ List.mem_cons_of_mem _ List.mem_cons_self))
          walk_at "go"
          exact jn_next (by walk_at "ctor") ⟨⟨t1, t3, hs, w1, w2, w3⟩, rfl⟩
        · rename_i hgt
          have hgt : ¬ 0 < n := by simpa using hgt
          have en : (((n - 1).toNat : Nat) : Int) = n := by omega
          rw [en] at t t'
          exact jn_next (by walk_at "ctor") ⟨⟨t, t', hs, w1, w2, w3⟩, rfl⟩
      · clear t t' w1 w2 w3
        rintro ρ' σ' ⟨⟨t, t', hs, w1, w2, w3⟩, rfl⟩
        walk_at "go"
        (refine ev_callF T (by assumption) n__law_stands (by rfl) k__law_stands ?_; walk_at "go")
        refine stands_spec T hS (by walk_at "rm") hh' (by walk_at "rm") h0 h1 hM2 n0 (by walk_at "rm") t.1 t.2.1 t.2.2.2.2 w1 w2 (by walk_at "rm") fun hs₁ r1 r2 => ?_
        have v := t.set (y := .lst hs₁) (t.lst w1)
        have v' := t'.set (y := .lst hs₁) (t'.lst w1)
        walk_at "go"
        (refine ev_callF T (by assumption) n__law_stands (by rfl) k__law_stands ?_; walk_at "go")
        refine stands_spec T hS (by walk_at "rm") hh' (by walk_at "rm") h0 h1 hM2 n0 (by walk_at "rm") v'.1 v'.2.1 v'.2.2.2.2 Sto.set_self r1 (by walk_at "rm") fun hs₂ r3 r4 => ?_
        rw [Sto.set_set]
        walk_at "go"
        have en : (((n + 1 - 1).toNat : Nat) : Int) = n := by omega
        exact trn_next (by walk_at "ctor") ⟨n + 1, by omega, by omega, rfl, ⟨by rw [en]; exact t.set (t.lst w1), by rw [en]; exact t'.set (t'.lst w1), hs₂, Sto.set_self, r3, by omega⟩, rfl⟩
    · have hl := congrArg List.length hr
      rw [List.length_map, rngL_len, List.length_cons] at hl
      omega
  · rintro ρ₁ σ₄ ⟨n, n0, n1, hr, ⟨t, t', hs, w1, w2, w3⟩, rfl⟩
    have hn2 : n = M + 2 := by
      refine Classical.byContradiction fun hne => ?_
      rw [rngL_cons (by walk_at "rm")] at hr
      cases hr
    subst hn2
    rw [show (((M + 2 - 1).toNat : Nat) : Int) = M + 1 by omega] at t t'
    have w2' := w2
    obtain ⟨fs, f1, rfl⟩ := w2'
    rw [List.length_map] at w3
    walk_at "go"
    refine ev_lend w1 (.lst _) (by walk_at "ctor") fun cl hAl hscl => ?_
    rw [hsc] at hscl
    rw [← hAl] at hd' hh' hu'
    (refine ev_callB PyProof.Rows.boot_all (.builtin _) T (by assumption) nb_all (by rfl) ?_; walk_at "go")
    refine ev_map2P (fun e => AV.dict (encP e.1 e.2)) (fun e => AV.dict (encP e.1 e.2)) fs (fun _ => AV.bool true) hh' (by decide) hscl (by rfl) (by rw [sizeLine_eq]; omega) ?_ ?_ ?_
    · walk_at "go"
      exact ⟨rfl, iter_list hh' _⟩
    · intro c₂ hA₂ hsc₂ e he
      rw [← hA₂] at hd' hh' hu'
      (refine ev_callF T (by assumption) n__law_told (by rfl) k__law_told ?_; walk_at "go")
      exact told_spec T (by walk_at "rm") hh' (by walk_at "rm") _ (f1 e he) ⟨rfl, rfl⟩
    rw [show fs.map (fun _ => AV.bool true) = (fs.map fun _ => true).map AV.bool by rw [List.map_map]; rfl]
    refine cal_all hh' ⟨rfl, ?_⟩
    rw [hAl] at hd' hh' hu'
    rw [show (fs.map fun _ => true).all id = true by simp]
    walk_at "go"
    (refine ev_meth0 F.plainAttrs_dict F.slot_dict_clear F.type_dict_clear ?_; walk_at "go")
    (refine ev_methI T.X k_Table_told ?_; walk_at "go")
    refine ⟨a, _, d, _, rfl, t.1, t.2.1, by kernel_rfl, by rfl, ?_⟩
    walk_at "go"
    refine mtold_spec T hS (by walk_at "rm") h0 h1 (by walk_at "rm") (by walk_at "rm") t.1 t.2.1 t.2.2.2.2 (by walk_at "rm") (by walk_at "rm") (.inr fun b hb => ?_)
    have hbl : b ≠ hl := by rintro rfl; rw [w1] at hb; cases hb
    refine ⟨.objD Sto.set_self, ?_⟩
    refine cal_clearD Sto.set_self (by unfold encP; rw [List.length_map, sizeLine_eq]; exact Nat.le_trans (Dm_len h1 _ (by walk_at "rm") (by walk_at "rm")) (by decide)) ⟨trivial, ?_⟩
    rw [Sto.set_set]
    have t := t.set (y := .dct []) (t.new hb)
    have w1 := (Sto.set_ne (x := .dct []) (Ne.symm hbl)).trans w1
    walk_at "go"
    (refine ev_callF T (by assumption) n__law_stands (by rfl) k__law_stands ?_; walk_at "go")
    refine stands_spec T hS (by walk_at "rm") hh' (by walk_at "rm") h0 h1 hM2 (by walk_at "rm") (by walk_at "rm") t.1 t.2.1 t.2.2.2.2 w1 w2 (by rw [List.length_map]; omega) fun hs₁ r1 r2 => ?_
    walk_at "go"
    exact q _

end Mine
end

section
open PySem PySem.W PyProof.Rows
theorem PySem.Challenge.cw_uf060015_04_holds : PySem.Challenge.rw_uf060015_04.Holds := by
  refine Mine.H.head ?_
  intro w s₀ s₁ mg mb G Y fa o pm cd doc dV kV ho hd hcd hD hmg hg args vals as hpre hlay hrd hwl hlo
  have KX := kIn_of Y
  refine Ground.open G ?_
  intro T B D TE TW
  have hfa : fa = 327 := by
    have e := mg_of (n := "law") (v := .ref 327) KX T.g (Mine.n_law (g := ⟨Mine.H.pg, w, s₁.heap⟩))
    have e2 : mg "law" = some (.ref fa) := hmg
    rw [e2] at e
    injection e with e; injection e
  clear ho hd hcd hD hmg
  subst hfa
  wrow_args hpre hlay hrd hwl hlo
  rename_i ns _ _ _ _ _ _ _ _ _ _ _ _ w1 _ _ _ hc _
  refine Mine.law_end w1 hg (raisesW_false (by wrow_none_raised)) (by wrow_post) fun c hA => ?_
  exact Mine.law_spec (Mine.topG_of T KX) ⟨327, _, by decide, KX 327 _ rfl⟩ (by rw [hA]; decide) (by rw [hA]; rfl) (by rw [hA]; decide) (by omega) fun _ => rfl

end

