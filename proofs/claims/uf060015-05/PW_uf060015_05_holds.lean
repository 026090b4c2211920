import PyProof.Rows.All
import Wide.All
import OpenK.AllK
import Wide.FinOn
import PyProof.Cells
import PyProof.Walks
import PyProof.CompFree
import PyProof.Rules3
import PyProof.ForRange
import PyProof.DictKinds
import PyProof.ForAny
import OpenK.KWalk
import PyProof.DictRoadsH
import PyProof.TupleKey
import Wide.Seal
import KE.KDictList
import KE.KDictOf
import PyProof.RulesAssignMore
import PyProof.Rows.Chain
import PyProof.ConsumeWalk
import PyProof.StrWalks
import PyProof.AutoSeq1
import PyProof.IsInstance
import PyProof.Rows.TupMore
import PyProof.Rows.ExtendIn
import PyProof.StationsW
import PyProof.ExcClass3
import PyProof.RulesAs
import PyProof.ExcBaseAll.ValueError
import PyProof.ExcArgsOwn
import PyProof.ExcAttrAll.ValueError
import PyProof.IsInstanceH
import PyProof.IsiNone
import PyProof.Conv_int_bool
import PyProof.AttrMissHeap
import PyProof.DictDisplay
import OpenK.KLine
import Lean
import PySem.Challenge.RW_uf060015_05
set_option Elab.async false
set_option maxRecDepth 100000
set_option maxHeartbeats 8000000
set_option linter.unusedVariables false
set_option linter.unusedSimpArgs false
set_option genSizeOf false
set_option genInjectivity true
section
namespace Mine
inductive Lx where
 | c (k:Nat) | v (i:Nat) | p (a b:Lx) | s (a b:Lx) | m (k:Nat) (a:Lx) | g (a:Lx)
noncomputable abbrev v0:Lx := .v 0
noncomputable abbrev v1:Lx := .v 1
noncomputable abbrev v2:Lx := .v 2
noncomputable abbrev v3:Lx := .v 3
noncomputable abbrev v4:Lx := .v 4
noncomputable abbrev v5:Lx := .v 5
noncomputable abbrev v6:Lx := .v 6
noncomputable abbrev v7:Lx := .v 7
noncomputable abbrev v8:Lx := .v 8
noncomputable abbrev v9:Lx := .v 9
noncomputable def gt (x:List Int) (i:Nat):Int:=match x,i with
 | [],_=>0
 | a::_,0=>a
 | _::r,i+1=>gt r i
noncomputable def Lx.d (x:List Int):Lx→Int
 | .c k=>k
 | .v i=>gt x i
 | .p a b=>a.d x+b.d x
 | .s a b=>a.d x - b.d x
 | .m k a=>k * a.d x
 | .g a => -a.d x
noncomputable def Lx.co (i:Nat):Lx→Int
 | .c _=>0
 | .v j=>if i==j then 1 else 0
 | .p a b=>a.co i+b.co i
 | .s a b=>a.co i - b.co i
 | .m k a=>k * a.co i
 | .g a => -a.co i
noncomputable def Lx.k0:Lx→Int
 | .c k=>k
 | .v _=>0
 | .p a b=>a.k0+b.k0
 | .s a b=>a.k0 - b.k0
 | .m k a=>k * a.k0
 | .g a => -a.k0
noncomputable def sm (f:Nat→Int):List Int→Int
 | []=>0
 | a::r=>f 0 * a+sm (fun i=>f (i+1)) r
theorem sm_lin (f g:Nat→Int) (k l:Int):∀ (x:List Int) , sm (fun i=>k * f i+l * g i) x=k * sm f x+l * sm g x:=by
 intro x
 induction x generalizing f g with
 | nil=>simp [sm]
 | cons a r ih =>
  show (k * f 0+l * g 0) * a+sm (fun i=>k * f (i+1)+l * g (i+1)) r=k * (f 0 * a+sm (fun i=>f (i+1)) r)+l * (g 0 * a+sm (fun i=>g (i+1)) r)
  rw [ih (fun i=>f (i+1)) fun i=>g (i+1),Int.add_mul,Int.mul_add,Int.mul_add,Int.mul_assoc,Int.mul_assoc]
  omega
theorem sm_zero (f:Nat→Int):∀ (x:List Int),(∀ i,i < x.length→f i=0)→sm f x=0:=by
 intro x
 induction x generalizing f with
 | nil=>intro _;rfl
 | cons a r ih =>
  intro h
  show f 0 * a+_=0
  rw [h 0 (by simp),ih _ fun i hi=>h (i+1) (by simp;omega),Int.zero_mul,Int.add_zero]
theorem sm_v:∀ (x:List Int) (j:Nat),sm (fun i=>if i==j then 1 else 0) x=gt x j:=by
 intro x
 induction x with
 | nil=>intro j;rfl
 | cons a r ih =>
  intro j
  cases j with
  | zero =>
   show 1 * a+sm (fun i=>if i+1==0 then 1 else 0) r=a
   rw [sm_zero _ r fun i _=>by simp];omega
  | succ j =>
   show 0 * a+sm (fun i=>if i+1==j+1 then 1 else 0) r=gt r j
   rw [← ih j,show (fun i=>if i+1==j+1 then (1:Int) else 0)=fun i=>if i==j then 1 else 0 from funext fun i=>by simp];omega
theorem Lx.eq (x:List Int) (e:Lx):e.d x=e.k0+sm (fun i=>e.co i) x:=by
 have two:∀ (a b:Lx) (k l:Int),a.d x=a.k0+sm (fun i=>a.co i) x→b.d x=b.k0+sm (fun i=>b.co i) x→k * a.d x+l * b.d x=(k * a.k0+l * b.k0)+sm (fun i=>k * a.co i+l * b.co i) x:=fun a b k l h1 h2=>by
  rw [sm_lin,h1,h2,Int.mul_add,Int.mul_add];omega
 induction e with
 | c k=>show (k:Int)=k+sm (fun _=>0) x;rw [sm_zero _ x fun _ _=>rfl];omega
 | v j=>show gt x j=0+sm (fun i=>if i==j then 1 else 0) x;rw [sm_v];omega
 | p a b h1 h2=>have:=two a b 1 1 h1 h2;simp only [Int.one_mul] at this;exact this
 | s a b h1 h2=>have:=two a b 1 (-1) h1 h2;simp only [Int.one_mul,Int.neg_mul,← Int.sub_eq_add_neg] at this;exact this
 | m k a h=>have:=two a a k 0 h h;simp only [Int.zero_mul,Int.add_zero] at this;exact this
 | g a h=>have:=two a a (-1) 0 h h;simp only [Int.zero_mul,Int.add_zero,Int.neg_mul,Int.one_mul] at this;exact this
inductive HL where
 | n | h (k:Nat) (a b:Lx) (r:HL)
noncomputable def wt:HL→Lx
 | .n => .c 0
 | .h k a b r => .p (.m k (.s b a)) (wt r)
noncomputable def Hs (x:List Int):HL→Prop→Prop
 | .n,P=>P
 | .h _ a b r,P=>a.d x≤b.d x→Hs x r P
theorem Hs.of (x:List Int) {P:Prop}:∀ {hs:HL},(0≤(wt hs).d x→P)→Hs x hs P
 | .n,h=>h (Int.le_refl 0)
 | .h k a b r,h=>fun hab=>Hs.of x fun hr=>h (by
  show 0≤(k:Int) * (b.d x - a.d x)+(wt r).d x
  have:0≤(k:Int) * (b.d x - a.d x):=Int.mul_nonneg (Int.natCast_nonneg k) (by omega)
  omega)
noncomputable def tt (hs:HL) (k:Nat) (a b:Lx):Lx := .s (.m (k+1) (.s b a)) (wt hs)
noncomputable def ck (q:Int→Bool) (e:Lx):Nat→Bool
 | 0=>true
 | n+1=>q (e.co n) && ck q e n
theorem ck_ok {q:Int→Bool} {e:Lx}:∀ {n:Nat},ck q e n=true→∀ i,i < n→q (e.co i)=true
 | 0,_,_,h=>absurd h (Nat.not_lt_zero _)
 | n+1,h,i,hi=>by
  unfold ck at h
  rw [Bool.and_eq_true] at h
  by_cases e:i=n
  ·rw [e];exact h.1
  ·exact ck_ok h.2 i (by omega)
noncomputable def lk (q:Int→Bool) (n:Nat) (hs:HL) (k:Nat) (a b:Lx):Bool:=ck q (tt hs k a b) n && decide (-(k+1:Int) < (tt hs k a b).k0)
theorem lin_end {x:List Int} {hs:HL} {k:Nat} {a b:Lx} (h1 : -(k+1:Int) < (tt hs k a b).k0) (h2:0≤sm (fun i=>(tt hs k a b).co i) x) (h:0≤(wt hs).d x):a.d x≤b.d x:=by
 have h3:=Lx.eq x (tt hs k a b)
 rw [show (tt hs k a b).d x=((k+1:Nat):Int) * (b.d x - a.d x) - (wt hs).d x from rfl] at h3
 by_cases hD:0≤b.d x - a.d x
 ·omega
 ·have:=Int.mul_le_mul_of_nonneg_left (a:=b.d x - a.d x) (b := -1) (c:=((k+1:Nat):Int)) (by omega) (by omega)
  omega
theorem lin (x:List Int) (hs:HL) (k:Nat) (a b:Lx) (ok:lk (· == 0) x.length hs k a b=true):Hs x hs (a.d x≤b.d x):=Hs.of x fun h=>by
 unfold lk at ok
 rw [Bool.and_eq_true] at ok
 exact lin_end (of_decide_eq_true ok.2) (Int.le_of_eq (sm_zero _ x fun i hi=>beq_iff_eq.mp (ck_ok ok.1 i hi)).symm) h
noncomputable abbrev zz (x:List Nat):List Int:=x.map fun (n:Nat)=>(n:Int)
noncomputable def gn (x:List Nat) (i:Nat):Nat:=match x,i with
 | [],_=>0
 | a::_,0=>a
 | _::r,i+1=>gn r i
noncomputable def Lx.n (x:List Nat):Lx→Nat
 | .c k=>k
 | .v i=>gn x i
 | .p a b=>a.n x+b.n x
 | .s _ _=>0
 | .m k a=>k * a.n x
 | .g _=>0
noncomputable def Lx.f:Lx→Bool
 | .c _=>true
 | .v _=>true
 | .p a b=>a.f && b.f
 | .s _ _=>false
 | .m _ a=>a.f
 | .g _=>false
theorem gn_gt:∀ (x:List Nat) (i:Nat),gt (zz x) i=gn x i
 | [],_=>rfl
 | _::_,0=>rfl
 | _::r,i+1=>gn_gt r i
theorem Lx.ne (x:List Nat) {e:Lx} (h:e.f=true):e.d (zz x)=e.n x:=by
 induction e with
 | c k=>rfl
 | v i=>exact gn_gt x i
 | p a b h1 h2 =>
  unfold Lx.f at h;rw [Bool.and_eq_true] at h
  show a.d _+b.d _=((a.n x+b.n x:Nat):Int);rw [h1 h.1,h2 h.2];rfl
 | s=>cases h
 | m k a ih=>show (k:Int) * a.d _=((k * a.n x:Nat):Int);rw [ih h];rfl
 | g=>cases h
noncomputable def Hn (x:List Nat):HL→Prop→Prop
 | .n,P=>P
 | .h _ a b r,P=>a.n x≤b.n x→Hn x r P
noncomputable def HL.f:HL→Bool
 | .n=>true
 | .h _ a b r=>a.f && b.f && r.f
theorem sm_pos (f:Nat→Int):∀ (x:List Nat),(∀ i,i < x.length→0≤f i)→0≤sm f (zz x):=by
 intro x
 induction x generalizing f with
 | nil=>intro _;exact Int.le_refl 0
 | cons a r ih =>
  intro h
  have h1:=Int.mul_nonneg (h 0 (by simp)) (Int.natCast_nonneg a)
  have h2:=ih (fun i=>f (i+1)) fun i hi=>h (i+1) (by simp;omega)
  show 0≤f 0 * (a:Int)+sm (fun i=>f (i+1)) (zz r)
  omega
theorem Hn.of (x:List Nat) {P:Prop}:∀ {hs:HL},hs.f=true→(0≤(wt hs).d (zz x)→P)→Hn x hs P
 | .n,_,h=>h (Int.le_refl 0)
 | .h k a b r,hf,h=>fun hab=>by
  unfold HL.f at hf
  rw [Bool.and_eq_true,Bool.and_eq_true] at hf
  refine Hn.of x hf.2 fun hr=>h ?_
  show 0≤(k:Int) * (b.d _ - a.d _)+(wt r).d _
  have:0≤(k:Int) * (b.d (zz x) - a.d (zz x)):=Int.mul_nonneg (Int.natCast_nonneg k) (by rw [Lx.ne x hf.1.1,Lx.ne x hf.1.2];omega)
  omega
noncomputable def nk (n:Nat) (hs:HL) (k:Nat) (a b:Lx):Bool:=(lk (0 ≤ ·) n hs k a b && hs.f) && (a.f && b.f)
theorem lin' (x:List Nat) (hs:HL) (k:Nat) (a b:Lx) (ok:nk x.length hs k a b=true):Hn x hs (a.n x≤b.n x):=by
 unfold nk at ok
 rw [Bool.and_eq_true,Bool.and_eq_true,Bool.and_eq_true] at ok
 refine Hn.of x ok.1.2 fun h=>?_
 have ok1:=ok.1.1
 unfold lk at ok1
 rw [Bool.and_eq_true] at ok1
 have:=lin_end (of_decide_eq_true ok1.2) (sm_pos _ x fun i hi=>of_decide_eq_true (ck_ok ok1.1 i hi)) h
 rw [Lx.ne x ok.2.1,Lx.ne x ok.2.2] at this
 omega
theorem nl {a b:Nat} (h:a≤b):(a:Int)≤b:=Int.ofNat_le.mpr h
theorem gl {a b:Nat} (h:(a:Int)≤b):a≤b:=Int.ofNat_le.mp h
theorem nq {a b:Nat} (h:a=b):a≤b:=Nat.le_of_eq h
theorem nQ {a b:Nat} (h:a=b):b≤a:=Nat.le_of_eq h.symm
theorem iq {a b:Int} (h:a=b):a≤b:=Int.le_of_eq h
theorem iQ {a b:Int} (h:a=b):b≤a:=Int.le_of_eq h.symm
theorem nN {a b:Nat} (h:¬a < b):b≤a:=Nat.le_of_not_lt h
theorem nM {a b:Nat} (h:¬a≤b):b < a:=Nat.lt_of_not_le h
theorem iN {a b:Int} (h:¬a < b):b≤a:=Int.not_lt.mp h
theorem iM {a b:Int} (h:¬a≤b):b < a:=Int.not_le.mp h
theorem ts (a:Int):a≤a.toNat:=Int.self_le_toNat a
theorem tn {a:Int} (h:0≤a):(a.toNat:Int)≤a:=Int.le_of_eq (Int.toNat_of_nonneg h)
theorem nz (a:Nat):(0:Int)≤a:=Int.natCast_nonneg a
theorem fN (h:1≤0):False:=by cases h
theorem fZ (h:(1:Int)≤0):False:=by cases h
end Mine
end
namespace Mine
section
open Lx
theorem pwN10_0:(10^0:Nat)=1:=by decide +kernel
theorem pwN10_1:(10^1:Nat)=10:=by decide +kernel
theorem pwN10_2:(10^2:Nat)=100:=by decide +kernel
theorem pwN2_20:(2^20:Nat)=1048576:=by decide +kernel
theorem pwN2_62:(2^62:Nat)=4611686018427387904:=by decide +kernel
theorem pwZ2_20:(2^20:Int)=1048576:=by decide +kernel
theorem pwZ2_62:(2^62:Int)=4611686018427387904:=by decide +kernel
theorem pwZ2_63:(2^63:Int)=9223372036854775808:=by decide +kernel
theorem o0 {a b:Nat}(h0:b=a):a≤b:=lin' [a,b] (.h 1 v0 v1 .n) 0 v0 v1 rfl (nQ h0)
theorem o1 {a:Int}:a+((0:Nat):Int)*1=a:=Int.le_antisymm (lin [a] .n 0 (p v0 (m 0 (c 1))) v0 rfl) (lin [a] .n 0 v0 (p v0 (m 0 (c 1))) rfl)
theorem o2 {a b:Int}:((a-b).toNat:Int)-((0:Nat):Int)=((a-b).toNat:Int):=Int.le_antisymm (lin [a,b,((a-b).toNat:Int)] .n 0 (s v2 (c 0)) v2 rfl) (lin [a,b,((a-b).toNat:Int)] .n 0 v2 (s v2 (c 0)) rfl)
theorem o3 {a b:Nat}(h0:a≤b)(h1:¬(a<b)):a=b:=Nat.le_antisymm (lin' [a,b] (.h 1 v0 v1 .n) 0 v0 v1 rfl h0) (lin' [a,b] (.h 1 v1 v0 .n) 0 v1 v0 rfl (nN h1))
theorem o4 {a b:Nat}(h0:a≤b):a≤b+1:=lin' [a,b] (.h 1 v0 v1 .n) 0 v0 (p v1 (c 1)) rfl h0
theorem o5 {a b d e f:Nat}(h0:d≤b)(h1:e≤f)(h2:f<d)(h3:a=e):a≤b:=lin' [a,b,d,e,f] (.h 1 v2 v1 (.h 1 v3 v4 (.h 1 (p v4 (c 1)) v2 (.h 1 v0 v3 .n)))) 0 v0 v1 rfl h0 h1 h2 (nq h3)
theorem o6 {a b d:Nat}(h0:a≤b)(h1:d=a):a+1≤b+1:=lin' [a,b,d] (.h 1 v0 v1 .n) 0 (p v0 (c 1)) (p v1 (c 1)) rfl h0
theorem o7 {a:Int}(h0:0≤a)(h1:a<(2^63)):¬(a<0):=Int.not_lt.mpr (lin [a,(2^63)] (.h 1 (c 0) v0 .n) 0 (c 0) v0 rfl h0)
theorem o8 {a:Int}{b:Nat}(h0:0≤a)(h1:a<(2^63))(h2:a.toNat<b):(0≤a)∧(a<(b:Int)):=⟨lin [a,(b:Int),(2^63),(a.toNat:Int)] (.h 1 (c 0) v0 .n) 0 (c 0) v0 rfl h0,lin [a,(b:Int),(2^63),(a.toNat:Int)] (.h 1 (p v3 (c 1)) v1 (.h 1 v0 v3 .n)) 0 (p v0 (c 1)) v1 rfl (nl h2) (ts _)⟩
theorem o9 {a d:Nat}(h0:d<(2^62))(h1:a=d):(a:Int)<(2^63):=lin [(a:Int),(2^63),(d:Int),((2^62:Nat):Int)] (.h 9223372036854775807 (p v2 (c 1)) v3 (.h 9223372036854775807 v0 v2 (.h 4611686018427387903 (c 9223372036854775808) v1 (.h 9223372036854775807 v3 (c 4611686018427387904) (.h 4611686018427387904 (c 0) v0 .n))))) 4611686018427387902 (p v0 (c 1)) v1 rfl (nl h0) (nl (nq h1)) (iQ pwZ2_63) (nl (nq pwN2_62)) (nz a)
theorem o10 {a:Nat}(h0:a<(2^62)):¬((a:Int)≥(2^63)):=Int.not_le.mpr (lin [(a:Int),(2^63),((2^62:Nat):Int)] (.h 9223372036854775807 (p v0 (c 1)) v2 (.h 4611686018427387903 (c 9223372036854775808) v1 (.h 9223372036854775807 v2 (c 4611686018427387904) (.h 4611686018427387904 (c 0) v0 .n)))) 4611686018427387902 (p v0 (c 1)) v1 rfl (nl h0) (iQ pwZ2_63) (nl (nq pwN2_62)) (nz a))
theorem o11 {a b d:Nat}(h0:a+(b+1)<d):a+b<d:=lin' [a,b,d] (.h 1 (p (p v0 (p v1 (c 1))) (c 1)) v2 .n) 0 (p (p v0 v1) (c 1)) v2 rfl h0
theorem o12 {a b d e:Nat}(h0:a+(d+1)<b)(h1:e≤d+1)(h2:¬(e≤d)):a<b:=lin' [a,b,d,e] (.h 1 (p (p v0 (p v2 (c 1))) (c 1)) v1 (.h 1 v3 (p v2 (c 1)) .n)) 0 (p v0 (c 1)) v1 rfl h0 h1
theorem o13 {a b:Nat}(h0:a+1≤b+1):a≤b:=lin' [a,b] (.h 1 (p v0 (c 1)) (p v1 (c 1)) .n) 0 v0 v1 rfl h0
theorem o14 {a b d e:Nat}(h0:a+(b+1)<d)(h1:e≤b+1)(h2:¬(e≤b)):a+1+b<d:=lin' [a,b,d,e] (.h 1 (p (p v0 (p v1 (c 1))) (c 1)) v2 .n) 0 (p (p (p v0 (c 1)) v1) (c 1)) v2 rfl h0
theorem o15 {a b:Nat}(h0:a+8<b):a+1+4<b:=lin' [a,b] (.h 1 (p (p v0 (c 8)) (c 1)) v1 .n) 0 (p (p (p v0 (c 1)) (c 4)) (c 1)) v1 rfl h0
theorem o16 {a b d:Nat}(h0:b=d)(h1:(a:Int)<(d:Int)):a<b:=gl (lin [(a:Int),(b:Int),(d:Int)] (.h 1 v2 v1 (.h 1 (p v0 (c 1)) v2 .n)) 0 (p v0 (c 1)) v1 rfl (nl (nQ h0)) h1)
theorem o17 {a b:Nat}(h0:a+8<b):a<b:=lin' [a,b] (.h 1 (p (p v0 (c 8)) (c 1)) v1 .n) 0 (p v0 (c 1)) v1 rfl h0
theorem o18 {a:Int}(h0:¬(a<1)):1≤a.toNat:=gl (lin [a,(a.toNat:Int)] (.h 1 (c 1) v0 (.h 1 v0 v1 .n)) 0 (c 1) v1 rfl (iN h0) (ts _))
theorem o19 {a:Int}(h0:(-1024)≤a)(h1:a≤1024)(h2:¬(a<1)):0≤a:=lin [a] (.h 1 (g (c 1024)) v0 (.h 1024 (c 1) v0 .n)) 1024 (c 0) v0 rfl h0 (iN h2)
theorem o20 {a:Int}(h0:(-1024)≤a)(h1:a≤1024)(h2:¬(a<1)):0<a:=lin [a] (.h 1 (c 1) v0 .n) 0 (p (c 0) (c 1)) v0 rfl (iN h2)
theorem o21 {a:Int}(h0:(-1024)≤a)(h1:a≤1024)(h2:¬(a<1)):1024*a≤(2^63)-1:=lin [a,(2^63)] (.h 9223372036853727231 (g (c 1024)) v0 (.h 9223372036855824383 v0 (c 1024) (.h 2048 (c 9223372036854775808) v1 .n))) 2047 (m 1024 v0) (s v1 (c 1)) rfl h0 h1 (iQ pwZ2_63)
theorem o22 {a b d:Nat}(h0:a+(d+1)<b):a<b:=lin' [a,b,d] (.h 1 (p (p v0 (p v2 (c 1))) (c 1)) v1 .n) 0 (p v0 (c 1)) v1 rfl h0
theorem o23 {a:Nat}:0+a=a:=Nat.le_antisymm (lin' [a] .n 0 (p (c 0) v0) v0 rfl) (lin' [a] .n 0 v0 (p (c 0) v0) rfl)
theorem o24 {a b d:Nat}(h0:a+(b+1)<d):a+1+b<d:=lin' [a,b,d] (.h 1 (p (p v0 (p v1 (c 1))) (c 1)) v2 .n) 0 (p (p (p v0 (c 1)) v1) (c 1)) v2 rfl h0
theorem o25 {a b d e:Nat}(h0:a+(b+d)=e):a+b+d=e:=Nat.le_antisymm (lin' [a,b,d,e] (.h 1 (p v0 (p v1 v2)) v3 .n) 0 (p (p v0 v1) v2) v3 rfl (nq h0)) (lin' [a,b,d,e] (.h 1 v3 (p v0 (p v1 v2)) .n) 0 v3 (p (p v0 v1) v2) rfl (nQ h0))
theorem o26 {a:Nat}(h0:a≤1):a+1≤2:=lin' [a] (.h 1 v0 (c 1) .n) 0 (p v0 (c 1)) (c 2) rfl h0
theorem o27 {a:Nat}:¬((a:Int)<0):=Int.not_lt.mpr (lin [(a:Int)] (.h 1 (c 0) v0 .n) 0 (c 0) v0 rfl (nz a))
theorem o28 {a b:Nat}(h0:a+3<b):a+1+2<b:=lin' [a,b] (.h 1 (p (p v0 (c 3)) (c 1)) v1 .n) 0 (p (p (p v0 (c 1)) (c 2)) (c 1)) v1 rfl h0
theorem o29 {a b d:Nat}(h0:d+3<b)(h1:a=d):a+1+2<b:=lin' [a,b,d] (.h 1 (p (p v2 (c 3)) (c 1)) v1 (.h 1 v0 v2 .n)) 0 (p (p (p v0 (c 1)) (c 2)) (c 1)) v1 rfl h0 (nq h1)
theorem o30 {a:Nat}(h0:(a:Int)<(2^63)):¬((a:Int)<0):=Int.not_lt.mpr (lin [(a:Int),(2^63)] (.h 1 (c 0) v0 .n) 0 (c 0) v0 rfl (nz a))
theorem o31 {a:Nat}(h0:(a:Int)<(2^63)):¬((a:Int)≥(2^63)):=Int.not_le.mpr (lin [(a:Int),(2^63)] (.h 1 (p v0 (c 1)) v1 .n) 0 (p v0 (c 1)) v1 rfl h0)
theorem o32 {a b d:Nat}(h0:b=d)(h1:d=a)(h2:a≤1):¬(a>1):=Nat.not_lt.mpr (lin' [a,b,d] (.h 1 v0 (c 1) .n) 0 v0 (c 1) rfl h2)
theorem o33 {a b:Nat}(h0:a+1≤b):a≤b:=lin' [a,b] (.h 1 (p v0 (c 1)) v1 .n) 0 v0 v1 rfl h0
theorem o34 {a b d e:Nat}(h0:b=d)(h1:e=d)(h2:a<d):a<b:=lin' [a,b,d,e] (.h 1 v2 v1 (.h 1 (p v0 (c 1)) v2 .n)) 0 (p v0 (c 1)) v1 rfl (nQ h0) h2
theorem o35 {a b d e:Nat}(h0:a+6<b)(h1:d<e):a+2<b:=lin' [a,b,d,e] (.h 1 (p (p v0 (c 6)) (c 1)) v1 .n) 0 (p (p v0 (c 2)) (c 1)) v1 rfl h0
theorem o36 {a b d e:Nat}(h0:a+6<b)(h1:d<e):a+4<b:=lin' [a,b,d,e] (.h 1 (p (p v0 (c 6)) (c 1)) v1 .n) 0 (p (p v0 (c 4)) (c 1)) v1 rfl h0
theorem o37 {a b:Nat}(h0:a+8<b):a+1+6<b:=lin' [a,b] (.h 1 (p (p v0 (c 8)) (c 1)) v1 .n) 0 (p (p (p v0 (c 1)) (c 6)) (c 1)) v1 rfl h0
theorem o38 {a b d:Int}(h0:(b≤a)∧(a<d)):(a-b).toNat<(d-b).toNat:=gl (lin [a,b,d,((a-b).toNat:Int),((d-b).toNat:Int)] (.h 1 (p v0 (c 1)) v2 (.h 1 v3 (s v0 v1) (.h 1 (s v2 v1) v4 .n))) 0 (p v3 (c 1)) v4 rfl h0.2 (tn (lin [a,b,d,((a-b).toNat:Int),((d-b).toNat:Int)] (.h 1 v1 v0 .n) 0 (c 0) (s v0 v1) rfl h0.1)) (ts _))
theorem o39 {a b d:Int}(h0:(a≤b)∧(b<d)):a+((b-a).toNat:Int)=b:=Int.le_antisymm (lin [a,b,d,((b-a).toNat:Int)] (.h 1 v3 (s v1 v0) .n) 0 (p v0 v3) v1 rfl (tn (lin [a,b,d,((b-a).toNat:Int)] (.h 1 v0 v1 .n) 0 (c 0) (s v1 v0) rfl h0.1))) (lin [a,b,d,((b-a).toNat:Int)] (.h 1 (s v1 v0) v3 .n) 0 v1 (p v0 v3) rfl (ts _))
theorem o40 {a:Nat}(h0:a≤1000):a≤16777216+1:=lin' [a] (.h 16777217 v0 (c 1000) .n) 999 v0 (p (c 16777216) (c 1)) rfl h0
theorem o41 {a b:Nat}(h0:b≤99)(h1:a=b):a≤99:=lin' [a,b] (.h 1 v1 (c 99) (.h 1 v0 v1 .n)) 0 v0 (c 99) rfl h0 (nq h1)
theorem o42 {a:Nat}(h0:a≤99):a+1≤1000:=lin' [a] (.h 111 v0 (c 99) .n) 10 (p v0 (c 1)) (c 1000) rfl h0
theorem o43 :¬((1:Int)<0):=Int.not_lt.mpr (lin [] .n 0 (c 0) (c 1) rfl)
theorem o44 :((-1):Int)<0:=lin [] .n 0 (p (g (c 1)) (c 1)) (c 0) rfl
theorem o45 :(1:Int)>0:=lin [] .n 0 (p (c 0) (c 1)) (c 1) rfl
theorem o46 {a b:Nat}(h0:1≤b)(h1:b≤1000)(h2:a=b):1≤a:=lin' [a,b] (.h 1 (c 1) v1 (.h 1 v1 v0 .n)) 0 (c 1) v0 rfl h0 (nQ h2)
theorem o47 {a b:Nat}(h0:1≤b)(h1:b≤1000)(h2:a=b):a≤16777216:=lin' [a,b] (.h 1864024 (c 1) v1 (.h 1864135 v1 (c 1000) (.h 111 v0 v1 .n))) 110 v0 (c 16777216) rfl h0 h1 (nq h2)
theorem o48 {a d e:Nat}(h0:d≤100)(h1:e=d)(h2:a<e):(a:Int)<(2^63)-1:=lin [(a:Int),(2^63),(d:Int),(e:Int)] (.h 3074457345618258602 v2 (c 100) (.h 3074457345618258602 v3 v2 (.h 3074457345618258602 (p v0 (c 1)) v3 (.h 33 (c 9223372036854775808) v1 (.h 3074457345618258569 (c 0) v0 .n))))) 32 (p v0 (c 1)) (s v1 (c 1)) rfl (nl h0) (nl (nq h1)) (nl h2) (iQ pwZ2_63) (nz a)
theorem o49 {a:Nat}(h0:a+1≤2):a≤2:=lin' [a] (.h 2 (p v0 (c 1)) (c 2) .n) 0 v0 (c 2) rfl h0
theorem o50 {a b:Nat}(h0:a+8<b):a+1+2<b:=lin' [a,b] (.h 1 (p (p v0 (c 8)) (c 1)) v1 .n) 0 (p (p (p v0 (c 1)) (c 2)) (c 1)) v1 rfl h0
theorem o51 {a b:Nat}(h0:a<b)(h1:a=b):False:=fN (lin' [a,b] (.h 1 (p v0 (c 1)) v1 (.h 1 v1 v0 .n)) 0 (c 1) (c 0) rfl h0 (nQ h1))
theorem o52 {a b:Nat}(h0:a+4<b):a+1+2<b:=lin' [a,b] (.h 1 (p (p v0 (c 4)) (c 1)) v1 .n) 0 (p (p (p v0 (c 1)) (c 2)) (c 1)) v1 rfl h0
theorem o53 {a b:Nat}(h0:(a:Int)<2*(b:Int)):a<2*b:=gl (lin [(a:Int),(b:Int)] (.h 1 (p v0 (c 1)) (m 2 v1) .n) 0 (p v0 (c 1)) (m 2 v1) rfl h0)
theorem o54 {a b:Nat}(h0:¬((b:Int)<2*(a:Int))):2*a≤b:=gl (lin [(a:Int),(b:Int)] (.h 1 (m 2 v0) v1 .n) 0 (m 2 v0) v1 rfl (iN h0))
theorem o55 {a:Int}{b:Nat}(h0:0≤a)(h1:a<(2^20))(h2:a<(b:Int)):a.toNat<b:=gl (lin [a,(b:Int),(2^20),(a.toNat:Int)] (.h 1 (p v0 (c 1)) v1 (.h 1 v3 v0 .n)) 0 (p v3 (c 1)) v1 rfl h2 (tn (lin [a,(b:Int),(2^20),(a.toNat:Int)] (.h 1 (c 0) v0 .n) 0 (c 0) v0 rfl h0)))
theorem o56 {a:Int}(h0:0≤a)(h1:a<(2^20)):a<(2^63):=lin [a,(2^63),(2^20)] (.h 9223372036853727232 (c 0) v0 (.h 9223372036854775807 (p v0 (c 1)) v2 (.h 1048575 (c 9223372036854775808) v1 (.h 9223372036854775807 v2 (c 1048576) .n)))) 1048574 (p v0 (c 1)) v1 rfl h0 h1 (iQ pwZ2_63) (iq pwZ2_20)
theorem o57 {b:Int}{a:Nat}(h0:0≤b)(h1:b<(2^20))(h2:¬(b<(a:Int))):a≤b.toNat:=gl (lin [(a:Int),b,(2^20),(b.toNat:Int)] (.h 1 v0 v1 (.h 1 v1 v3 .n)) 0 v0 v3 rfl (iN h2) (ts _))
theorem o58 {a:Int}(h0:0<a):0≤a:=lin [a] (.h 1 (p (c 0) (c 1)) v0 .n) 0 (c 0) v0 rfl h0
theorem o59 {a:Int}(h0:0<a):a≠0:=Int.ne_of_gt (lin [a] (.h 1 (p (c 0) (c 1)) v0 .n) 0 (p (c 0) (c 1)) v0 rfl h0)
theorem o60 {a:Int}(h0:0≤a)(h1:a<26):a.toNat<26:=gl (lin [a,(a.toNat:Int)] (.h 1 (p v0 (c 1)) (c 26) (.h 1 v1 v0 .n)) 0 (p v1 (c 1)) (c 26) rfl h1 (tn (lin [a,(a.toNat:Int)] (.h 1 (c 0) v0 .n) 0 (c 0) v0 rfl h0)))
theorem o61 {a:Int}(h0:0≤a)(h1:a<26):97≤97+a.toNat:=gl (lin [a,(a.toNat:Int)] (.h 1 (c 0) v0 (.h 1 v0 v1 .n)) 0 (c 97) (p (c 97) v1) rfl h0 (ts _))
theorem o62 {a:Int}(h0:0≤a)(h1:a<26):97+a.toNat≤122:=gl (lin [a,(a.toNat:Int)] (.h 1 (p v0 (c 1)) (c 26) (.h 1 v1 v0 .n)) 0 (p (c 97) v1) (c 122) rfl h1 (tn (lin [a,(a.toNat:Int)] (.h 1 (c 0) v0 .n) 0 (c 0) v0 rfl h0)))
theorem o63 {a:Int}(h0:1≤a):¬(a<1):=Int.not_lt.mpr (lin [a] (.h 1 (c 1) v0 .n) 0 (c 1) v0 rfl h0)
theorem o64 {a:Int}(h0:1≤a):1≤a.toNat:=gl (lin [a,(a.toNat:Int)] (.h 1 (c 1) v0 (.h 1 v0 v1 .n)) 0 (c 1) v1 rfl h0 (ts _))
theorem o65 {a b:Int}(h0:0≤b)(h1:b<8)(h2:1+b=a):1≤a:=lin [a,b] (.h 1 (c 0) v1 (.h 1 (p (c 1) v1) v0 .n)) 0 (c 1) v0 rfl h0 (iq h2)
theorem o66 {a b:Int}(h0:0≤b)(h1:b<8)(h2:1+b=a):a≤8:=lin [a,b] (.h 1 (p v1 (c 1)) (c 8) (.h 1 v0 (p (c 1) v1) .n)) 0 v0 (c 8) rfl h1 (iQ h2)
theorem o67 {a:Int}(h0:0≤a)(h1:a<4):(-1024)≤1+2*a:=lin [a] (.h 1031 (c 0) v0 (.h 1025 (p v0 (c 1)) (c 4) .n)) 2 (g (c 1024)) (p (c 1) (m 2 v0)) rfl h0 h1
theorem o68 {a:Int}(h0:0≤a)(h1:a<4):1+2*a≤1024:=lin [a] (.h 339 (c 0) v0 (.h 341 (p v0 (c 1)) (c 4) .n)) 0 (p (c 1) (m 2 v0)) (c 1024) rfl h0 h1
theorem o69 {a:Int}(h0:0≤a)(h1:a<4):1≤1+2*a:=lin [a] (.h 2 (c 0) v0 .n) 0 (c 1) (p (c 1) (m 2 v0)) rfl h0
theorem o70 {b:Int}{a:Nat}(h0:0≤b)(h1:b<4)(h2:a≤1*(1+2*b).toNat):a≤8:=gl (lin [(a:Int),b,((1+2*b).toNat:Int)] (.h 1 (c 0) v1 (.h 7 (p v1 (c 1)) (c 4) (.h 3 v0 (m 1 v2) (.h 3 v2 (p (c 1) (m 2 v1)) .n)))) 2 v0 (c 8) rfl h0 h1 (nl h2) (tn (lin [(a:Int),b,((1+2*b).toNat:Int)] (.h 7 (c 0) v1 (.h 1 (p v1 (c 1)) (c 4) .n)) 2 (c 0) (p (c 1) (m 2 v1)) rfl h0 h1)))
theorem o71 {a b:Int}(h0:0≤b)(h1:b<8)(h2:1+b=a):a≠0:=Int.ne_of_gt (lin [a,b] (.h 1 (c 0) v1 (.h 1 (p (c 1) v1) v0 .n)) 0 (p (c 0) (c 1)) v0 rfl h0 (iq h2))
theorem o72 {a b d:Int}(h0:0≤b)(h1:b<8)(h2:1+b=d)(h3:a<d):a≤1024:=lin [a,b,d] (.h 1017 (c 0) v1 (.h 1024 (p v1 (c 1)) (c 8) (.h 7 v2 (p (c 1) v1) (.h 7 (p v0 (c 1)) v2 .n)))) 6 v0 (c 1024) rfl h0 h1 (iQ h2) h3
theorem o73 {a b d:Int}(h0:0≤d)(h1:d<a)(h2:0≤b)(h3:b<3):0≤a+b:=lin [a,b,d] (.h 2 (c 0) v2 (.h 2 (p v2 (c 1)) v0 (.h 3 (c 0) v1 (.h 1 (p v1 (c 1)) (c 3) .n)))) 1 (c 0) (p v0 v1) rfl h0 h1 h2 h3
theorem o74 {a b d:Int}(h0:0≤d)(h1:d<8)(h2:1+d=a)(h3:0≤b)(h4:b<3):a+b<26:=lin [a,b,d] (.h 15 (c 0) v2 (.h 22 (p v2 (c 1)) (c 8) (.h 7 v0 (p (c 1) v2) (.h 7 (p v1 (c 1)) (c 3) .n)))) 6 (p (p v0 v1) (c 1)) (c 26) rfl h0 h1 (iQ h2) h4
theorem o75 {a b e:Int}(h0:0≤e)(h1:e<8)(h2:1+e=a)(h3:0≤b)(h4:b<3):a+b<(2^63):=lin [a,b,(2^63),e] (.h 9223372036854775797 (c 0) v3 (.h 9223372036854775804 (p v3 (c 1)) (c 8) (.h 7 v0 (p (c 1) v3) (.h 7 (p v1 (c 1)) (c 3) (.h 7 (c 9223372036854775808) v2 .n))))) 6 (p (p v0 v1) (c 1)) v2 rfl h0 h1 (iQ h2) h4 (iQ pwZ2_63)
theorem o76 {a b:Int}(h0:b<a):(-1024)≤a-1-b:=lin [a,b] (.h 1 (p v1 (c 1)) v0 .n) 0 (g (c 1024)) (s (s v0 (c 1)) v1) rfl h0
theorem o77 {a b d:Int}(h0:0≤d)(h1:d<8)(h2:1+d=a)(h3:0≤b):a-1-b≤1024:=lin [a,b,d] (.h 1017 (c 0) v2 (.h 1024 (p v2 (c 1)) (c 8) (.h 7 v0 (p (c 1) v2) (.h 7 (c 0) v1 .n)))) 6 (s (s v0 (c 1)) v1) (c 1024) rfl h0 h1 (iQ h2) h3
theorem o78 {d e f:Int}{a b:Nat}(h0:0≤d)(h1:d<8)(h2:1+d=e)(h3:0≤f)(h4:f<e)(h5:a≤1*f.toNat)(h6:b≤1*(e-1-f).toNat):a+1+b≤16777216:=gl (lin [(a:Int),(b:Int),d,e,f,(f.toNat:Int),((e-1-f).toNat:Int)] (.h 2396744 (c 0) v2 (.h 2396745 (p v2 (c 1)) (c 8) (.h 1 v3 (p (c 1) v2) (.h 1 v0 (m 1 v5) (.h 1 v1 (m 1 v6) (.h 1 v5 v4 (.h 1 v6 (s (s v3 (c 1)) v4) .n))))))) 0 (p (p v0 (c 1)) v1) (c 16777216) rfl h0 h1 (iQ h2) (nl h5) (nl h6) (tn (lin [(a:Int),(b:Int),d,e,f,(f.toNat:Int),((e-1-f).toNat:Int)] (.h 1 (c 0) v4 .n) 0 (c 0) v4 rfl h3)) (tn (lin [(a:Int),(b:Int),d,e,f,(f.toNat:Int),((e-1-f).toNat:Int)] (.h 1 (p v4 (c 1)) v3 .n) 0 (c 0) (s (s v3 (c 1)) v4) rfl h4)))
theorem o79 {a b:Nat}:1≤a+1+b:=lin' [a,b] .n 0 (c 1) (p (p v0 (c 1)) v1) rfl
theorem o80 {d e f:Int}{a b:Nat}(h0:0≤d)(h1:d<8)(h2:1+d=e)(h3:0≤f)(h4:f<e)(h5:a≤1*f.toNat)(h6:b≤1*(e-1-f).toNat):a+1+b≤8:=gl (lin [(a:Int),(b:Int),d,e,f,(f.toNat:Int),((e-1-f).toNat:Int)] (.h 1 (p v2 (c 1)) (c 8) (.h 1 v3 (p (c 1) v2) (.h 1 v0 (m 1 v5) (.h 1 v1 (m 1 v6) (.h 1 v5 v4 (.h 1 v6 (s (s v3 (c 1)) v4) .n)))))) 0 (p (p v0 (c 1)) v1) (c 8) rfl h1 (iQ h2) (nl h5) (nl h6) (tn (lin [(a:Int),(b:Int),d,e,f,(f.toNat:Int),((e-1-f).toNat:Int)] (.h 1 (c 0) v4 .n) 0 (c 0) v4 rfl h3)) (tn (lin [(a:Int),(b:Int),d,e,f,(f.toNat:Int),((e-1-f).toNat:Int)] (.h 1 (p v4 (c 1)) v3 .n) 0 (c 0) (s (s v3 (c 1)) v4) rfl h4)))
theorem o81 {a:Int}(h0:0<a)(h1:a≤9):a≠0:=Int.ne_of_gt (lin [a] (.h 1 (p (c 0) (c 1)) v0 .n) 0 (p (c 0) (c 1)) v0 rfl h0)
theorem o82 {a:Int}(h0:0≤a):2≤2+a:=lin [a] (.h 1 (c 0) v0 .n) 0 (c 2) (p (c 2) v0) rfl h0
theorem o83 {a b:Int}(h0:0<b)(h1:b≤9)(h2:a<b):2+a≤10:=lin [a,b] (.h 1 v1 (c 9) (.h 1 (p v0 (c 1)) v1 .n)) 0 (p (c 2) v0) (c 10) rfl h1 h2
theorem o84 {a b:Int}(h0:0≤a)(h1:a<b)(h2:b=7):2+a≤8:=lin [a,b] (.h 1 (p v0 (c 1)) v1 (.h 1 v1 (c 7) .n)) 0 (p (c 2) v0) (c 8) rfl h1 (iq h2)
theorem o85 {a:Int}(h0:a.toNat≤2):a<(2^62):=lin [a,(2^62),(a.toNat:Int)] (.h 4611686018427387903 v2 (c 2) (.h 2 (c 4611686018427387904) v1 (.h 2 v0 v2 (.h 4611686018427387901 (c 0) v2 .n)))) 1 (p v0 (c 1)) v1 rfl (nl h0) (iQ pwZ2_62) (ts _) (nz a.toNat)
theorem o86 {b:Int}{a d:Nat}(h0:b.toNat≤2)(h1:a+(d+1)=b.toNat):a≤2:=gl (lin [(a:Int),b,(d:Int),(b.toNat:Int)] (.h 2 v3 (c 2) (.h 2 (p v0 (p v2 (c 1))) v3 (.h 1 (c 0) v0 (.h 2 (c 0) v2 .n)))) 0 v0 (c 2) rfl (nl h0) (nl (nq h1)) (nz a) (nz d))
theorem o87 {b:Int}{a d:Nat}(h0:b.toNat≤2)(h1:a+(d+1)=b.toNat):a+1≤2:=gl (lin [(a:Int),b,(d:Int),(b.toNat:Int)] (.h 1 v3 (c 2) (.h 1 (p v0 (p v2 (c 1))) v3 (.h 1 (c 0) v2 .n))) 0 (p v0 (c 1)) (c 2) rfl (nl h0) (nl (nq h1)) (nz d))
theorem o88 {b:Int}{a d e:Nat}(h0:b.toNat≤2)(h1:d+(e+1)=b.toNat)(h2:a=d+1):a≤16777215:=gl (lin [(a:Int),b,(d:Int),(e:Int),(b.toNat:Int)] (.h 16777215 v4 (c 2) (.h 16777215 (p v2 (p v3 (c 1))) v4 (.h 16777215 v0 (p v2 (c 1)) (.h 16777213 (c 0) v0 (.h 16777215 (c 0) v3 .n))))) 1 v0 (c 16777215) rfl (nl h0) (nl (nq h1)) (nl (nq h2)) (nz a) (nz e))
theorem o89 {b:Int}{a:Nat}(h0:b.toNat≤2)(h1:a=b.toNat+1):a<4611686018427387904:=gl (lin [(a:Int),b,(b.toNat:Int)] (.h 1537228672809129301 v2 (c 2) (.h 1537228672809129301 v0 (p v2 (c 1)) (.h 1537228672809129300 (c 0) v0 .n))) 0 (p v0 (c 1)) (c 4611686018427387904) rfl (nl h0) (nl (nq h1)) (nz a))
theorem o90 {b:Int}{a:Nat}(h0:1≤b)(h1:a=(b-1).toNat+1):(a:Int)=b:=Int.le_antisymm (lin [(a:Int),b,((b-1).toNat:Int)] (.h 1 v0 (p v2 (c 1)) (.h 1 v2 (s v1 (c 1)) .n)) 0 v0 v1 rfl (nl (nq h1)) (tn (lin [(a:Int),b,((b-1).toNat:Int)] (.h 1 (c 1) v1 .n) 0 (c 0) (s v1 (c 1)) rfl h0))) (lin [(a:Int),b,((b-1).toNat:Int)] (.h 1 (p v2 (c 1)) v0 (.h 1 (s v1 (c 1)) v2 .n)) 0 v1 v0 rfl (nl (nQ h1)) (ts _))
theorem o91 {a b:Int}(h0:(1≤a)∧(a<b+2)):a≤b+1:=lin [a,b] (.h 1 (p v0 (c 1)) (p v1 (c 2)) .n) 0 v0 (p v1 (c 1)) rfl h0.2
theorem o92 {a b:Int}(h0:a≤b+1):a<b+2:=lin [a,b] (.h 1 v0 (p v1 (c 1)) .n) 0 (p v0 (c 1)) (p v1 (c 2)) rfl h0
theorem o93 {a b d:Int}{e:Nat}(h0:2≤d)(h1:(e:Int)≤b)(h2:1≤a)(h3:a≤b+1)(h4:e=(a-1).toNat+1):a+1≤b+1:=lin [a,b,d,(e:Int),((a-1).toNat:Int)] (.h 1 v3 v1 (.h 1 (p v4 (c 1)) v3 (.h 1 (s v0 (c 1)) v4 .n))) 0 (p v0 (c 1)) (p v1 (c 1)) rfl h1 (nl (nQ h4)) (ts _)
theorem o94 {a b:Int}{d:Nat}(h0:2≤b)(h1:a≤b-1)(h2:d=(a-1).toNat+1)(h3:d+1+1≤(b-0).toNat):a+1≤b-1:=lin [a,b,(d:Int),((a-1).toNat:Int),((b-0).toNat:Int)] (.h 1 (p v3 (c 1)) v2 (.h 1 (p (p v2 (c 1)) (c 1)) v4 (.h 1 (s v0 (c 1)) v3 (.h 1 v4 (s v1 (c 0)) .n)))) 0 (p v0 (c 1)) (s v1 (c 1)) rfl (nl (nQ h2)) (nl h3) (ts _) (tn (lin [a,b,(d:Int),((a-1).toNat:Int),((b-0).toNat:Int)] (.h 1 (c 2) v1 .n) 0 (c 0) (s v1 (c 0)) rfl h0))
theorem o95 {a b:Int}(h0:2≤b)(h1:1≤a):(a+1-1).toNat=(a-1).toNat+1:=Nat.le_antisymm (gl (lin [a,b,((a+1-1).toNat:Int),((a-1).toNat:Int)] (.h 1 v2 (s (p v0 (c 1)) (c 1)) (.h 1 (s v0 (c 1)) v3 .n)) 0 v2 (p v3 (c 1)) rfl (tn (lin [a,b,((a+1-1).toNat:Int),((a-1).toNat:Int)] (.h 1 (c 1) v0 .n) 0 (c 0) (s (p v0 (c 1)) (c 1)) rfl h1)) (ts _))) (gl (lin [a,b,((a+1-1).toNat:Int),((a-1).toNat:Int)] (.h 1 (s (p v0 (c 1)) (c 1)) v2 (.h 1 v3 (s v0 (c 1)) .n)) 0 (p v3 (c 1)) v2 rfl (ts _) (tn (lin [a,b,((a+1-1).toNat:Int),((a-1).toNat:Int)] (.h 1 (c 1) v0 .n) 0 (c 0) (s v0 (c 1)) rfl h1))))
theorem o96 {a:Int}(h0:2≤a):1≤a-1:=lin [a] (.h 1 (c 2) v0 .n) 0 (c 1) (s v0 (c 1)) rfl h0
theorem o97 {b d:Int}{a e:Nat}(h0:2≤b)(h1:1≤d)(h2:¬(d≤b-1))(h3:a+e=b.toNat)(h4:e=(d-1).toNat+1):¬(0<a):=Nat.not_lt.mpr (gl (lin [(a:Int),b,d,(e:Int),(b.toNat:Int),((d-1).toNat:Int)] (.h 1 (p (s v1 (c 1)) (c 1)) v2 (.h 1 (p v0 v3) v4 (.h 1 (p v5 (c 1)) v3 (.h 1 v4 v1 (.h 1 (s v2 (c 1)) v5 .n))))) 0 v0 (c 0) rfl (iM h2) (nl (nq h3)) (nl (nQ h4)) (tn (lin [(a:Int),b,d,(e:Int),(b.toNat:Int),((d-1).toNat:Int)] (.h 1 (c 2) v1 .n) 0 (c 0) v1 rfl h0)) (ts _)))
theorem o98 {a:Nat}(h0:¬(0<a)):a=0:=Nat.le_antisymm (lin' [a] (.h 1 v0 (c 0) .n) 0 v0 (c 0) rfl (nN h0)) (lin' [a] .n 0 (c 0) v0 rfl)
theorem o99 {a:Int}(h0:1≤a):¬(a≤((0:Nat):Int)):=Int.not_le.mpr (lin [a] (.h 1 (c 1) v0 .n) 0 (p (c 0) (c 1)) v0 rfl h0)
theorem o100 {a:Int}{b:Nat}(h0:a=(b:Int)+1):¬(a≤(b:Int)):=Int.not_le.mpr (lin [a,(b:Int)] (.h 1 (p v1 (c 1)) v0 .n) 0 (p v1 (c 1)) v0 rfl (iQ h0))
theorem o101 {a:Int}{b:Nat}(h0:a=(b:Int)+1):a≤((b+1:Nat):Int):=lin [a,(b:Int)] (.h 1 v0 (p v1 (c 1)) .n) 0 v0 (p v1 (c 1)) rfl (iq h0)
theorem o102 {a:Int}{b:Nat}(h0:1≤a)(h1:a=(b:Int)+1):(a-1).toNat=b:=Nat.le_antisymm (gl (lin [a,(b:Int),((a-1).toNat:Int)] (.h 1 v0 (p v1 (c 1)) (.h 1 v2 (s v0 (c 1)) .n)) 0 v2 v1 rfl (iq h1) (tn (lin [a,(b:Int),((a-1).toNat:Int)] (.h 1 (c 1) v0 .n) 0 (c 0) (s v0 (c 1)) rfl h0)))) (gl (lin [a,(b:Int),((a-1).toNat:Int)] (.h 1 (p v1 (c 1)) v0 (.h 1 (s v0 (c 1)) v2 .n)) 0 v1 v2 rfl (iQ h1) (ts _)))
theorem o103 {b:Int}{a d:Nat}(h0:b=(d:Int)+1)(h1:a=d+1):(a:Int)=b:=Int.le_antisymm (lin [(a:Int),b,(d:Int)] (.h 1 (p v2 (c 1)) v1 (.h 1 v0 (p v2 (c 1)) .n)) 0 v0 v1 rfl (iQ h0) (nl (nq h1))) (lin [(a:Int),b,(d:Int)] (.h 1 v1 (p v2 (c 1)) (.h 1 (p v2 (c 1)) v0 .n)) 0 v1 v0 rfl (iq h0) (nl (nQ h1)))
theorem o104 {a:Int}{b:Nat}(h0:a≤(b:Int)):a≤((b+1:Nat):Int):=lin [a,(b:Int)] (.h 1 v0 v1 .n) 0 v0 (p v1 (c 1)) rfl h0
theorem o105 {a b:Nat}(h0:a+0+2<b):a<b:=lin' [a,b] (.h 1 (p (p (p v0 (c 0)) (c 2)) (c 1)) v1 .n) 0 (p v0 (c 1)) v1 rfl h0
theorem o106 {a b:Nat}(h0:a+10*0+60<b):a+3+20<b:=lin' [a,b] (.h 1 (p (p (p v0 (m 10 (c 0))) (c 60)) (c 1)) v1 .n) 0 (p (p (p v0 (c 3)) (c 20)) (c 1)) v1 rfl h0
theorem o107 {b:Int}{a:Nat}(h0:b≤2)(h1:(a:Int)+((0:Nat):Int)=b+1):a<4611686018427387904:=gl (lin [(a:Int),b] (.h 1537228672809129301 v1 (c 2) (.h 1537228672809129301 (p v0 (c 0)) (p v1 (c 1)) (.h 1537228672809129300 (c 0) v0 .n))) 0 (p v0 (c 1)) (c 4611686018427387904) rfl h0 (iq h1) (nz a))
theorem o108 {b:Int}{a:Nat}(h0:(a:Int)+((0:Nat):Int)=b+1)(h1:(a:Int)≤b):False:=fZ (lin [(a:Int),b] (.h 1 (p v1 (c 1)) (p v0 (c 0)) (.h 1 v0 v1 .n)) 0 (c 1) (c 0) rfl (iQ h0) h1)
theorem o109 {a b d:Nat}(h0:a+(d+1)+2<b):a<b:=lin' [a,b,d] (.h 1 (p (p (p v0 (p v2 (c 1))) (c 2)) (c 1)) v1 .n) 0 (p v0 (c 1)) v1 rfl h0
theorem o110 {a b d:Nat}(h0:a+10*(b+1)+60<d):a+3+10*b+60<d:=lin' [a,b,d] (.h 1 (p (p (p v0 (m 10 (p v1 (c 1)))) (c 60)) (c 1)) v2 .n) 0 (p (p (p (p v0 (c 3)) (m 10 v1)) (c 60)) (c 1)) v2 rfl h0
theorem o111 {a b d:Nat}(h0:a+(b+1)+2<d):a+1+b+2<d:=lin' [a,b,d] (.h 1 (p (p (p v0 (p v1 (c 1))) (c 2)) (c 1)) v2 .n) 0 (p (p (p (p v0 (c 1)) v1) (c 2)) (c 1)) v2 rfl h0
theorem o112 {b:Int}{a d:Nat}(h0:b≤2)(h1:(a:Int)+((d+1:Nat):Int)=b+1):a<4611686018427387904:=gl (lin [(a:Int),b,(d:Int)] (.h 4611686018427387903 v1 (c 2) (.h 4611686018427387903 (p v0 (p v2 (c 1))) (p v1 (c 1)) (.h 4611686018427387901 (c 0) v0 (.h 4611686018427387903 (c 0) v2 .n)))) 1 (p v0 (c 1)) (c 4611686018427387904) rfl h0 (iq h1) (nz a) (nz d))
theorem o113 {d:Int}{a b:Nat}(h0:(a:Int)+((b+1:Nat):Int)=d+1)(h1:d<(a:Int)):False:=fZ (lin [(a:Int),(b:Int),d] (.h 1 (p v0 (p v1 (c 1))) (p v2 (c 1)) (.h 1 (p v2 (c 1)) v0 (.h 1 (c 0) v1 .n))) 0 (c 1) (c 0) rfl (iq h0) h1 (nz b))
theorem o114 {a b d:Nat}(h0:a+10*d+60<b):a+3<b:=lin' [a,b,d] (.h 1 (p (p (p v0 (m 10 v2)) (c 60)) (c 1)) v1 .n) 0 (p (p v0 (c 3)) (c 1)) v1 rfl h0
theorem o115 {a b d:Nat}(h0:a+d+2<b):a<b:=lin' [a,b,d] (.h 1 (p (p (p v0 v2) (c 2)) (c 1)) v1 .n) 0 (p v0 (c 1)) v1 rfl h0
theorem o116 {a b d:Nat}(h0:a+10*d+60<b):a+20<b:=lin' [a,b,d] (.h 1 (p (p (p v0 (m 10 v2)) (c 60)) (c 1)) v1 .n) 0 (p (p v0 (c 20)) (c 1)) v1 rfl h0
theorem o117 {b:Int}{a d e:Nat}(h0:0≤b)(h1:b≤10)(h2:d≤b.toNat)(h3:d=a+e):a≤10:=gl (lin [(a:Int),b,(d:Int),(e:Int),(b.toNat:Int)] (.h 1 v1 (c 10) (.h 1 v2 v4 (.h 1 (p v0 v3) v2 (.h 1 v4 v1 (.h 1 (c 0) v3 .n))))) 0 v0 (c 10) rfl h1 (nl h2) (nl (nQ h3)) (tn (lin [(a:Int),b,(d:Int),(e:Int),(b.toNat:Int)] (.h 1 (c 0) v1 .n) 0 (c 0) v1 rfl h0)) (nz e))
theorem o118 {b:Int}{a d:Nat}(h0:b≤2)(h1:(a:Int)+((d+1:Nat):Int)=b+1):a≤16777215:=gl (lin [(a:Int),b,(d:Int)] (.h 16777215 v1 (c 2) (.h 16777215 (p v0 (p v2 (c 1))) (p v1 (c 1)) (.h 16777213 (c 0) v0 (.h 16777215 (c 0) v2 .n)))) 1 v0 (c 16777215) rfl h0 (iq h1) (nz a) (nz d))
theorem o119 {d:Int}{a b:Nat}(h0:(a:Int)+((b+1:Nat):Int)=d+1):((a+1:Nat):Int)+(b:Int)=d+1:=Int.le_antisymm (lin [(a:Int),(b:Int),d] (.h 1 (p v0 (p v1 (c 1))) (p v2 (c 1)) .n) 0 (p (p v0 (c 1)) v1) (p v2 (c 1)) rfl (iq h0)) (lin [(a:Int),(b:Int),d] (.h 1 (p v2 (c 1)) (p v0 (p v1 (c 1))) .n) 0 (p v2 (c 1)) (p (p v0 (c 1)) v1) rfl (iQ h0))
theorem o120 {b:Int}{a d:Nat}(h0:(a:Int)+((d+1:Nat):Int)=b+1):(a:Int)≤b:=lin [(a:Int),b,(d:Int)] (.h 1 (p v0 (p v2 (c 1))) (p v1 (c 1)) (.h 1 (c 0) v2 .n)) 0 v0 v1 rfl (iq h0) (nz d)
theorem o121 {a b:Nat}(h0:a≤b+1)(h1:b≤10):a≤16777216:=lin' [a,b] (.h 16777216 v0 (p v1 (c 1)) (.h 16777216 v1 (c 10) .n)) 10 v0 (c 16777216) rfl h0 h1
theorem o122 {a b:Nat}(h0:a≤b+1):a+1≤b+1+1:=lin' [a,b] (.h 1 v0 (p v1 (c 1)) .n) 0 (p v0 (c 1)) (p (p v1 (c 1)) (c 1)) rfl h0
theorem o123 {a b d:Nat}(h0:a≤b+1):a≤b+d+1:=lin' [a,b,d] (.h 1 v0 (p v1 (c 1)) .n) 0 v0 (p (p v1 v2) (c 1)) rfl h0
theorem o124 {d:Int}{a e:Nat}(h0:0≤d)(h1:d≤10)(h2:e≤d.toNat)(h3:a≤e+1):a<(2^20):=gl (lin [(a:Int),((2^20:Nat):Int),d,(e:Int),(d.toNat:Int)] (.h 524282 (c 0) v2 (.h 524287 v2 (c 10) (.h 5 v3 v4 (.h 5 v0 (p v3 (c 1)) (.h 5 (c 1048576) v1 (.h 5 v4 v2 .n)))))) 4 (p v0 (c 1)) v1 rfl h0 h1 (nl h2) (nl h3) (nl (nQ pwN2_20)) (tn (lin [(a:Int),((2^20:Nat):Int),d,(e:Int),(d.toNat:Int)] (.h 1 (c 0) v2 .n) 0 (c 0) v2 rfl h0)))
theorem o125 {a:Nat}(h0:(97≤a)∧(a≤122)):a<128:=lin' [a] (.h 1 (c 97) v0 (.h 6 v0 (c 122) .n)) 4 (p v0 (c 1)) (c 128) rfl h0.1 h0.2
theorem o126 {a:Nat}(h0:a≤100)(h1:1≤(a:Int)):1≤a:=gl (lin [(a:Int)] (.h 1 (c 1) v0 .n) 0 (c 1) v0 rfl h1)
theorem o127 {a:Nat}(h0:a≤100)(h1:1≤a)(h2:¬((a:Int)≤8)):¬(a≤8):=Nat.not_le.mpr (gl (lin [(a:Int)] (.h 1 (p (c 8) (c 1)) v0 .n) 0 (p (c 8) (c 1)) v0 rfl (iM h2)))
theorem o128 {a:Nat}(h0:a≤100)(h1:1≤a)(h2:(a:Int)≤8):a≤8:=gl (lin [(a:Int)] (.h 1 v0 (c 8) .n) 0 v0 (c 8) rfl h2)
theorem o129 {a b:Nat}(h0:b≤100)(h1:1≤b)(h2:a=b):a≤16777216:=lin' [a,b] (.h 1864135 v1 (c 100) (.h 1864124 (c 1) v1 (.h 11 v0 v1 .n))) 10 v0 (c 16777216) rfl h0 h1 (nq h2)
theorem o130 {a:Nat}(h0:a≤100)(h1:¬(1≤(a:Int))):¬(1≤a):=Nat.not_le.mpr (gl (lin [(a:Int)] (.h 1 (p v0 (c 1)) (c 1) .n) 0 (p v0 (c 1)) (c 1) rfl (iM h1)))
theorem o131 {a b:Int}(h0:a<b):a≤b-1:=lin [a,b] (.h 1 (p v0 (c 1)) v1 .n) 0 v0 (s v1 (c 1)) rfl h0
theorem o132 {a b:Nat}(h0:a≤(10^0))(h1:b≤(10^1)):a+b≤200:=lin' [a,b,(10^0),(10^1)] (.h 190 v0 v2 (.h 1 v1 v3 (.h 190 v2 (c 1) (.h 1 v3 (c 10) .n)))) 0 (p v0 v1) (c 200) rfl h0 h1 (nq pwN10_0) (nq pwN10_1)
theorem o133 {a b d:Nat}(h0:a≤(10^0))(h1:b≤(10^1))(h2:d≤(10^2)):a+(b+d)≤200:=lin' [a,b,d,(10^0),(10^1),(10^2)] (.h 90 v0 v3 (.h 1 v1 v4 (.h 1 v2 v5 (.h 90 v3 (c 1) (.h 1 v4 (c 10) (.h 1 v5 (c 100) .n)))))) 0 (p v0 (p v1 v2)) (c 200) rfl h0 h1 h2 (nq pwN10_0) (nq pwN10_1) (nq pwN10_2)
theorem o134 {a b:Nat}(h0:a≤10*b)(h1:b≤100):a≤1000:=lin' [a,b] (.h 1 v0 (m 10 v1) (.h 10 v1 (c 100) .n)) 0 v0 (c 1000) rfl h0 h1
theorem o135 {b:Int}{a d:Nat}(h0:0≤b)(h1:b≤10)(h2:a+d≤b.toNat):a≤10:=gl (lin [(a:Int),b,(d:Int),(b.toNat:Int)] (.h 1 v1 (c 10) (.h 1 (p v0 v2) v3 (.h 1 v3 v1 (.h 1 (c 0) v2 .n)))) 0 v0 (c 10) rfl h1 (nl h2) (tn (lin [(a:Int),b,(d:Int),(b.toNat:Int)] (.h 1 (c 0) v1 .n) 0 (c 0) v1 rfl h0)) (nz d))
theorem o136 {a b:Nat}(h0:a≤1000)(h1:b≤10):a+b≤16777216:=lin' [a,b] (.h 8388603 v0 (c 1000) (.h 500 v1 (c 10) .n)) 499 (p v0 v1) (c 16777216) rfl h0 h1
theorem o137 {a:Int}(h0:0≤a)(h1:a≤2):0+(a+1-0).toNat=(a+1).toNat:=Nat.le_antisymm (gl (lin [a,((a+1-0).toNat:Int),((a+1).toNat:Int)] (.h 1 v1 (s (p v0 (c 1)) (c 0)) (.h 1 (p v0 (c 1)) v2 .n)) 0 (p (c 0) v1) v2 rfl (tn (lin [a,((a+1-0).toNat:Int),((a+1).toNat:Int)] (.h 3 (c 0) v0 (.h 1 v0 (c 2) .n)) 1 (c 0) (s (p v0 (c 1)) (c 0)) rfl h0 h1)) (ts _))) (gl (lin [a,((a+1-0).toNat:Int),((a+1).toNat:Int)] (.h 1 (s (p v0 (c 1)) (c 0)) v1 (.h 1 v2 (p v0 (c 1)) .n)) 0 v2 (p (c 0) v1) rfl (ts _) (tn (lin [a,((a+1-0).toNat:Int),((a+1).toNat:Int)] (.h 3 (c 0) v0 (.h 1 v0 (c 2) .n)) 1 (c 0) (p v0 (c 1)) rfl h0 h1))))
theorem o138 {b:Int}{a d:Nat}(h0:0≤b)(h1:b≤2)(h2:a+(d+1)=(b+1).toNat):a≤2:=gl (lin [(a:Int),b,(d:Int),((b+1).toNat:Int)] (.h 1 v1 (c 2) (.h 1 (p v0 (p v2 (c 1))) v3 (.h 1 v3 (p v1 (c 1)) (.h 1 (c 0) v2 .n)))) 0 v0 (c 2) rfl h1 (nl (nq h2)) (tn (lin [(a:Int),b,(d:Int),((b+1).toNat:Int)] (.h 3 (c 0) v1 (.h 1 v1 (c 2) .n)) 1 (c 0) (p v1 (c 1)) rfl h0 h1)) (nz d))
theorem o139 {d:Int}{a:Nat}(h0:2≤d)(h1:d≤10)(h2:a≤d.toNat):a<(2^62):=gl (lin [(a:Int),((2^62:Nat):Int),d,(d.toNat:Int)] (.h 4611686018427387893 (c 2) v2 (.h 4611686018427387901 v2 (c 10) (.h 8 v0 v3 (.h 8 (c 4611686018427387904) v1 (.h 8 v3 v2 .n))))) 7 (p v0 (c 1)) v1 rfl h0 h1 (nl h2) (nl (nQ pwN2_62)) (tn (lin [(a:Int),((2^62:Nat):Int),d,(d.toNat:Int)] (.h 5 (c 2) v2 (.h 1 v2 (c 10) .n)) 3 (c 0) v2 rfl h0 h1)))
theorem o140 {e:Int}{a b d:Nat}(h0:b+d=(e+1).toNat)(h1:b≤2)(h2:a=b+1):a≤10:=gl (lin [(a:Int),(b:Int),(d:Int),e,((e+1).toNat:Int)] (.h 10 v1 (c 2) (.h 10 v0 (p v1 (c 1)) (.h 7 (c 0) v0 .n))) 2 v0 (c 10) rfl (nl h1) (nl (nq h2)) (nz a))
theorem o141 {a:Int}(h0:0≤a)(h1:a≤2):(a+1).toNat≤3:=gl (lin [a,((a+1).toNat:Int)] (.h 1 v0 (c 2) (.h 1 v1 (p v0 (c 1)) .n)) 0 v1 (c 3) rfl h1 (tn (lin [a,((a+1).toNat:Int)] (.h 3 (c 0) v0 (.h 1 v0 (c 2) .n)) 1 (c 0) (p v0 (c 1)) rfl h0 h1)))
theorem o142 {b:Int}{a d:Nat}(h0:0≤b)(h1:b≤2)(h2:d<(b+1).toNat)(h3:a=d+1):a≤3:=gl (lin [(a:Int),b,(d:Int),((b+1).toNat:Int)] (.h 1 v1 (c 2) (.h 1 (p v2 (c 1)) v3 (.h 1 v0 (p v2 (c 1)) (.h 1 v3 (p v1 (c 1)) .n)))) 0 v0 (c 3) rfl h1 (nl h2) (nl (nq h3)) (tn (lin [(a:Int),b,(d:Int),((b+1).toNat:Int)] (.h 3 (c 0) v1 (.h 1 v1 (c 2) .n)) 1 (c 0) (p v1 (c 1)) rfl h0 h1)))
theorem o143 {a b:Int}(h0:0≤b)(h1:b≤2)(h2:a≤b+1):a≤((b+1).toNat:Int):=lin [a,b,((b+1).toNat:Int)] (.h 1 v0 (p v1 (c 1)) (.h 1 (p v1 (c 1)) v2 .n)) 0 v0 v2 rfl h2 (ts _)
theorem o144 {a:Nat}:((0≤(-1)+((a:Int)+1))∧((-1)+((a:Int)+1)<(a:Int)+1))∧(((-1)+((a:Int)+1)).toNat=a):=⟨⟨lin [(a:Int),(((-1)+((a:Int)+1)).toNat:Int)] (.h 1 (c 0) v0 .n) 0 (c 0) (p (g (c 1)) (p v0 (c 1))) rfl (nz a),lin [(a:Int),(((-1)+((a:Int)+1)).toNat:Int)] .n 0 (p (p (g (c 1)) (p v0 (c 1))) (c 1)) (p v0 (c 1)) rfl⟩,Nat.le_antisymm (gl (lin [(a:Int),(((-1)+((a:Int)+1)).toNat:Int)] (.h 1 v1 (p (g (c 1)) (p v0 (c 1))) .n) 0 v1 v0 rfl (tn (lin [(a:Int),(((-1)+((a:Int)+1)).toNat:Int)] (.h 1 (c 0) v0 .n) 0 (c 0) (p (g (c 1)) (p v0 (c 1))) rfl (nz a))))) (gl (lin [(a:Int),(((-1)+((a:Int)+1)).toNat:Int)] (.h 1 (p (g (c 1)) (p v0 (c 1))) v1 .n) 0 v0 v1 rfl (ts _)))⟩
theorem o145 {a b:Int}(h0:(0≤a)∧(a<b)):a≤b-1:=lin [a,b] (.h 1 (p v0 (c 1)) v1 .n) 0 v0 (s v1 (c 1)) rfl h0.2
theorem o146 {a b:Int}(h0:b≤a):(a+1-b).toNat=(a-b).toNat+1:=Nat.le_antisymm (gl (lin [a,b,((a+1-b).toNat:Int),((a-b).toNat:Int)] (.h 1 v2 (s (p v0 (c 1)) v1) (.h 1 (s v0 v1) v3 .n)) 0 v2 (p v3 (c 1)) rfl (tn (lin [a,b,((a+1-b).toNat:Int),((a-b).toNat:Int)] (.h 1 v1 v0 .n) 0 (c 0) (s (p v0 (c 1)) v1) rfl h0)) (ts _))) (gl (lin [a,b,((a+1-b).toNat:Int),((a-b).toNat:Int)] (.h 1 (s (p v0 (c 1)) v1) v2 (.h 1 v3 (s v0 v1) .n)) 0 (p v3 (c 1)) v2 rfl (ts _) (tn (lin [a,b,((a+1-b).toNat:Int),((a-b).toNat:Int)] (.h 1 v1 v0 .n) 0 (c 0) (s v0 v1) rfl h0))))
theorem o147 {a b:Int}(h0:a≤b):a+((b-a).toNat:Int)=b:=Int.le_antisymm (lin [a,b,((b-a).toNat:Int)] (.h 1 v2 (s v1 v0) .n) 0 (p v0 v2) v1 rfl (tn (lin [a,b,((b-a).toNat:Int)] (.h 1 v0 v1 .n) 0 (c 0) (s v1 v0) rfl h0))) (lin [a,b,((b-a).toNat:Int)] (.h 1 (s v1 v0) v2 .n) 0 v1 (p v0 v2) rfl (ts _))
theorem o148 {a b:Int}(h0:a≤b):a<b+1:=lin [a,b] (.h 1 v0 v1 .n) 0 (p v0 (c 1)) (p v1 (c 1)) rfl h0
theorem o149 {a b:Int}(h0:(1≤a)∧(a<b+1)):a≤b:=lin [a,b] (.h 1 (p v0 (c 1)) (p v1 (c 1)) .n) 0 v0 v1 rfl h0.2
theorem o150 {a:Nat}(h0:a+1≤3):(a:Int)+1≤3:=lin [(a:Int)] (.h 1 (p v0 (c 1)) (c 3) .n) 0 (p v0 (c 1)) (c 3) rfl (nl h0)
theorem o151 {a b d e:Nat}(h0:b≤e)(h1:e≤100)(h2:a≤100*d):a+b≤100*(d+1):=lin' [a,b,d,e] (.h 1 v1 v3 (.h 1 v3 (c 100) (.h 1 v0 (m 100 v2) .n))) 0 (p v0 v1) (m 100 (p v2 (c 1))) rfl h0 h1 h2
theorem o152 {b:Int}{a:Nat}(h0:0≤b)(h1:b≤3)(h2:a≤100*b.toNat):a≤300:=gl (lin [(a:Int),b,(b.toNat:Int)] (.h 100 v1 (c 3) (.h 1 v0 (m 100 v2) (.h 100 v2 v1 .n))) 0 v0 (c 300) rfl h1 (nl h2) (tn (lin [(a:Int),b,(b.toNat:Int)] (.h 1 (c 0) v1 .n) 0 (c 0) v1 rfl h0)))
theorem o153 {b:Int}{a:Nat}(h0:(a:Int)=b+1)(h1:(a:Int)≤b):False:=fZ (lin [(a:Int),b] (.h 1 (p v1 (c 1)) v0 (.h 1 v0 v1 .n)) 0 (c 1) (c 0) rfl (iQ h0) h1)
theorem o154 {a d:Int}{b:Nat}(h0:b=d.toNat)(h1:0≤a)(h2:a<d):a.toNat<b:=gl (lin [a,(b:Int),d,(a.toNat:Int),(d.toNat:Int)] (.h 1 v4 v1 (.h 1 (p v0 (c 1)) v2 (.h 1 v3 v0 (.h 1 v2 v4 .n)))) 0 (p v3 (c 1)) v1 rfl (nl (nQ h0)) h2 (tn (lin [a,(b:Int),d,(a.toNat:Int),(d.toNat:Int)] (.h 1 (c 0) v0 .n) 0 (c 0) v0 rfl h1)) (ts _))
theorem o155 {a b d:Nat}(h0:d+6<b)(h1:a=d+1):a<b:=lin' [a,b,d] (.h 1 (p (p v2 (c 6)) (c 1)) v1 (.h 1 v0 (p v2 (c 1)) .n)) 0 (p v0 (c 1)) v1 rfl h0 (nq h1)
theorem o156 {a b d:Nat}(h0:d+6<b)(h1:a=d+1):a+1+3<b:=lin' [a,b,d] (.h 1 (p (p v2 (c 6)) (c 1)) v1 (.h 1 v0 (p v2 (c 1)) .n)) 0 (p (p (p v0 (c 1)) (c 3)) (c 1)) v1 rfl h0 (nq h1)
theorem o157 {a b d:Nat}(h0:d+70<b)(h1:a=d+1):a+3+50<b:=lin' [a,b,d] (.h 1 (p (p v2 (c 70)) (c 1)) v1 (.h 1 v0 (p v2 (c 1)) .n)) 0 (p (p (p v0 (c 3)) (c 50)) (c 1)) v1 rfl h0 (nq h1)
theorem o158 {a:Int}(h0:1≤a)(h1:0=a):False:=fZ (lin [a] (.h 1 (c 1) v0 (.h 1 v0 (c 0) .n)) 0 (c 1) (c 0) rfl h0 (iQ h1))
theorem o159 {a:Int}(h0:2≤a):(a-1).toNat=(a-2).toNat+1:=Nat.le_antisymm (gl (lin [a,((a-1).toNat:Int),((a-2).toNat:Int)] (.h 1 v1 (s v0 (c 1)) (.h 1 (s v0 (c 2)) v2 .n)) 0 v1 (p v2 (c 1)) rfl (tn (lin [a,((a-1).toNat:Int),((a-2).toNat:Int)] (.h 1 (c 2) v0 .n) 0 (c 0) (s v0 (c 1)) rfl h0)) (ts _))) (gl (lin [a,((a-1).toNat:Int),((a-2).toNat:Int)] (.h 1 (s v0 (c 1)) v1 (.h 1 v2 (s v0 (c 2)) .n)) 0 (p v2 (c 1)) v1 rfl (ts _) (tn (lin [a,((a-1).toNat:Int),((a-2).toNat:Int)] (.h 1 (c 2) v0 .n) 0 (c 0) (s v0 (c 2)) rfl h0))))
theorem o160 {a b:Int}(h0:a≤b-1):a-1≤b-1:=lin [a,b] (.h 1 v0 (s v1 (c 1)) .n) 0 (s v0 (c 1)) (s v1 (c 1)) rfl h0
theorem o161 {a:Int}{b:Nat}(h0:2≤a)(h1:(a-1).toNat=b+1):(a-1-1).toNat=b:=Nat.le_antisymm (gl (lin [a,(b:Int),((a-1-1).toNat:Int),((a-1).toNat:Int)] (.h 1 v3 (p v1 (c 1)) (.h 1 v2 (s (s v0 (c 1)) (c 1)) (.h 1 (s v0 (c 1)) v3 .n))) 0 v2 v1 rfl (nl (nq h1)) (tn (lin [a,(b:Int),((a-1-1).toNat:Int),((a-1).toNat:Int)] (.h 1 (c 2) v0 .n) 0 (c 0) (s (s v0 (c 1)) (c 1)) rfl h0)) (ts _))) (gl (lin [a,(b:Int),((a-1-1).toNat:Int),((a-1).toNat:Int)] (.h 1 (p v1 (c 1)) v3 (.h 1 (s (s v0 (c 1)) (c 1)) v2 (.h 1 v3 (s v0 (c 1)) .n))) 0 v1 v2 rfl (nl (nQ h1)) (ts _) (tn (lin [a,(b:Int),((a-1-1).toNat:Int),((a-1).toNat:Int)] (.h 1 (c 2) v0 .n) 0 (c 0) (s v0 (c 1)) rfl h0))))
theorem o162 {d:Int}{a:Nat}(h0:1≤d)(h1:d≤3)(h2:(a:Int)=d):a<(2^62):=gl (lin [(a:Int),((2^62:Nat):Int),d] (.h 2305843009213693950 (c 1) v2 (.h 2305843009213693951 v2 (c 3) (.h 1 v0 v2 (.h 1 (c 4611686018427387904) v1 .n)))) 0 (p v0 (c 1)) v1 rfl h0 h1 (iq h2) (nl (nQ pwN2_62)))
theorem o163 {a:Nat}(h0:(a:Int)=1):a=1:=Nat.le_antisymm (gl (lin [(a:Int)] (.h 1 v0 (c 1) .n) 0 v0 (c 1) rfl (iq h0))) (gl (lin [(a:Int)] (.h 1 (c 1) v0 .n) 0 (c 1) v0 rfl (iQ h0)))
theorem o164 {a b:Int}(h0:b≤2)(h1:a≤b):a+1≤3:=lin [a,b] (.h 1 v1 (c 2) (.h 1 v0 v1 .n)) 0 (p v0 (c 1)) (c 3) rfl h0 h1
theorem o165 {a b:Int}(h0:a≤b)(h1:b<a):False:=fZ (lin [a,b] (.h 1 v0 v1 (.h 1 (p v1 (c 1)) v0 .n)) 0 (c 1) (c 0) rfl h0 h1)
theorem o166 {a b:Int}(h0:0≤b)(h1:b≤a):0≤a:=lin [a,b] (.h 1 (c 0) v1 (.h 1 v1 v0 .n)) 0 (c 0) v0 rfl h0 h1
theorem o167 {a b:Int}(h0:a≤b):a+1≤b+1:=lin [a,b] (.h 1 v0 v1 .n) 0 (p v0 (c 1)) (p v1 (c 1)) rfl h0
theorem o168 {a b:Int}{d:Nat}(h0:b≤2)(h1:a≤b)(h2:(d:Int)=a+1):a≤2:=lin [a,b,(d:Int)] (.h 1 v1 (c 2) (.h 1 v0 v1 .n)) 0 v0 (c 2) rfl h0 h1
theorem o169 {a:Int}(h0:a+1≤a):False:=fZ (lin [a] (.h 1 (p v0 (c 1)) v0 .n) 0 (c 1) (c 0) rfl h0)
theorem o170 {b:Int}{a:Nat}(h0:0≤b)(h1:b<1073741824)(h2:(a:Int)=b):a<1073741824:=gl (lin [(a:Int),b] (.h 1 (p v1 (c 1)) (c 1073741824) (.h 1 v0 v1 .n)) 0 (p v0 (c 1)) (c 1073741824) rfl h1 (iq h2))
theorem o171 {b:Int}{a:Nat}(h0:(a:Int)<b)(h1:(b-0).toNat≤a):False:=fZ (lin [(a:Int),b,((b-0).toNat:Int)] (.h 1 (p v0 (c 1)) v1 (.h 1 v2 v0 (.h 1 (s v1 (c 0)) v2 .n))) 0 (c 1) (c 0) rfl h0 (nl h1) (ts _))
theorem o172 {a d:Int}(h0:2≤d)(h1:d≤10)(h2:a≤d):a<(2^62):=lin [a,(2^62),d] (.h 4611686018427387893 (c 2) v2 (.h 4611686018427387901 v2 (c 10) (.h 8 v0 v2 (.h 8 (c 4611686018427387904) v1 .n)))) 7 (p v0 (c 1)) v1 rfl h0 h1 h2 (iQ pwZ2_62)
theorem o173 {a:Int}(h0:0≤a):0≤1+3*a:=lin [a] (.h 3 (c 0) v0 .n) 0 (c 0) (p (c 1) (m 3 v0)) rfl h0
theorem o174 {a b d:Int}{e f:Nat}(h0:2≤b)(h1:b≤10)(h2:0≤d)(h3:d≤b)(h4:((e+(f+1):Nat):Int)=d)(h5:a<d):1+3*a<1073741824:=lin [a,b,d,(e:Int),(f:Int)] (.h 1073741795 (c 2) v1 (.h 1073741819 v1 (c 10) (.h 24 v2 v1 (.h 24 (p v0 (c 1)) v2 .n)))) 7 (p (p (c 1) (m 3 v0)) (c 1)) (c 1073741824) rfl h0 h1 h3 h5
theorem o175 {a:Int}(h0:2≤a)(h1:a≤10):a≠0:=Int.ne_of_gt (lin [a] (.h 9 (c 2) v0 (.h 1 v0 (c 10) .n)) 7 (p (c 0) (c 1)) v0 rfl h0 h1)
theorem o176 {a:Int}(h0:2≤a)(h1:a≤10):0<a:=lin [a] (.h 9 (c 2) v0 (.h 1 v0 (c 10) .n)) 7 (p (c 0) (c 1)) v0 rfl h0 h1
theorem o177 {b d:Int}{a e:Nat}(h0:d≤b)(h1:((a+(e+1):Nat):Int)=d):(a:Int)<b:=lin [(a:Int),b,d,(e:Int)] (.h 1 v2 v1 (.h 1 (p v0 (p v3 (c 1))) v2 (.h 1 (c 0) v3 .n))) 0 (p v0 (c 1)) v1 rfl h0 (iq h1) (nz e)
theorem o178 {a b:Int}:a+(b-a)=b:=Int.le_antisymm (lin [a,b] .n 0 (p v0 (s v1 v0)) v1 rfl) (lin [a,b] .n 0 v1 (p v0 (s v1 v0)) rfl)
theorem o179 {a:Int}:a+((0:Nat):Int)=a:=Int.le_antisymm (lin [a] .n 0 (p v0 (c 0)) v0 rfl) (lin [a] .n 0 v0 (p v0 (c 0)) rfl)
theorem o180 {a:Int}{b:Nat}:a+1+(b:Int)=a+((b+1:Nat):Int):=Int.le_antisymm (lin [a,(b:Int)] .n 0 (p (p v0 (c 1)) v1) (p v0 (p v1 (c 1))) rfl) (lin [a,(b:Int)] .n 0 (p v0 (p v1 (c 1))) (p (p v0 (c 1)) v1) rfl)
theorem o181 {b d:Int}{a e:Nat}(h0:2≤b)(h1:b≤10)(h2:d≤b)(h3:((a+(e+1):Nat):Int)=d):a≤16777216:=gl (lin [(a:Int),b,d,(e:Int)] (.h 16777207 (c 2) v1 (.h 16777215 v1 (c 10) (.h 8 v2 v1 (.h 8 (p v0 (p v3 (c 1))) v2 (.h 8 (c 0) v3 .n))))) 7 v0 (c 16777216) rfl h0 h1 h2 (iq h3) (nz e))
theorem o182 {d:Int}{a b:Nat}(h0:((a+(b+1):Nat):Int)=d):((a+1+b:Nat):Int)=d:=Int.le_antisymm (lin [(a:Int),(b:Int),d] (.h 1 (p v0 (p v1 (c 1))) v2 .n) 0 (p (p v0 (c 1)) v1) v2 rfl (iq h0)) (lin [(a:Int),(b:Int),d] (.h 1 v2 (p v0 (p v1 (c 1))) .n) 0 v2 (p (p v0 (c 1)) v1) rfl (iQ h0))
theorem o183 {b d:Int}{a:Nat}(h0:2≤b)(h1:b≤10)(h2:d≤b)(h3:((a+0:Nat):Int)=d):a≤10:=gl (lin [(a:Int),b,d] (.h 1 v1 (c 10) (.h 1 v2 v1 (.h 1 (p v0 (c 0)) v2 .n))) 0 v0 (c 10) rfl h1 h2 (iq h3))
theorem o184 {a:Nat}(h0:0<a)(h1:a≤63):(a:Int)≠0:=Int.ne_of_gt (lin [(a:Int)] (.h 1 (p (c 0) (c 1)) v0 .n) 0 (p (c 0) (c 1)) v0 rfl (nl h0))
theorem o185 {a:Nat}(h0:0<a)(h1:a≤63):0<(a:Int):=lin [(a:Int)] (.h 1 (p (c 0) (c 1)) v0 .n) 0 (p (c 0) (c 1)) v0 rfl (nl h0)
theorem o186 {a:Int}{b:Nat}(h0:0≤a)(h1:a<(b:Int)):a.toNat<b:=gl (lin [a,(b:Int),(a.toNat:Int)] (.h 1 (p v0 (c 1)) v1 (.h 1 v2 v0 .n)) 0 (p v2 (c 1)) v1 rfl h1 (tn (lin [a,(b:Int),(a.toNat:Int)] (.h 1 (c 0) v0 .n) 0 (c 0) v0 rfl h0)))
theorem o187 {a:Int}{d:Nat}(h0:0<d)(h1:d≤63)(h2:a<(d:Int)):a<(2^63):=lin [a,(2^63),(d:Int)] (.h 9223372036854775745 (p (c 0) (c 1)) v2 (.h 9223372036854775807 v2 (c 63) (.h 62 (p v0 (c 1)) v2 (.h 62 (c 9223372036854775808) v1 .n)))) 61 (p v0 (c 1)) v1 rfl (nl h0) (nl h1) h2 (iQ pwZ2_63)
theorem o188 {a:Int}(h0:0≤a)(h1:a≤2):0+1000*(a+2-1).toNat≤3000:=gl (lin [a,((a+2-1).toNat:Int)] (.h 1000 v0 (c 2) (.h 1000 v1 (s (p v0 (c 2)) (c 1)) .n)) 0 (p (c 0) (m 1000 v1)) (c 3000) rfl h1 (tn (lin [a,((a+2-1).toNat:Int)] (.h 3 (c 0) v0 (.h 1 v0 (c 2) .n)) 1 (c 0) (s (p v0 (c 2)) (c 1)) rfl h0 h1)))
theorem o189 {a b:Int}(h0:(1≤a)∧(a<b+2)):(1≤a)∧(a≤b+1):=⟨lin [a,b] (.h 1 (c 1) v0 .n) 0 (c 1) v0 rfl h0.1,lin [a,b] (.h 1 (p v0 (c 1)) (p v1 (c 2)) .n) 0 v0 (p v1 (c 1)) rfl h0.2⟩
theorem o190 {a b:Nat}(h0:b≤100):a+10*b≤a+1000:=lin' [a,b] (.h 10 v1 (c 100) .n) 0 (p v0 (m 10 v1)) (p v0 (c 1000)) rfl h0
theorem o191 {d:Int}{a b:Nat}(h0:2≤d)(h1:d≤10)(h2:b≤d.toNat):a+b≤a+10:=gl (lin [(a:Int),(b:Int),d,(d.toNat:Int)] (.h 1 v2 (c 10) (.h 1 v1 v3 (.h 1 v3 v2 .n))) 0 (p v0 v1) (p v0 (c 10)) rfl h1 (nl h2) (tn (lin [(a:Int),(b:Int),d,(d.toNat:Int)] (.h 5 (c 2) v2 (.h 1 v2 (c 10) .n)) 3 (c 0) v2 rfl h0 h1)))
theorem o192 {a:Nat}:0≤3*((a+1:Nat):Int)+1:=lin [(a:Int)] (.h 3 (c 0) v0 .n) 0 (c 0) (p (m 3 (p v0 (c 1))) (c 1)) rfl (nz a)
theorem o193 {a b d e f i:Nat}(h0:b+1000*(d+1)≤3000)(h1:e+10*(f+1)≤b+1000)(h2:a+(i+1)≤e+10):3*((a+1:Nat):Int)+1≤1000000:=lin [(a:Int),(b:Int),(d:Int),(e:Int),(f:Int),(i:Int)] (.h 996999 (p v1 (m 1000 (p v2 (c 1)))) (c 3000) (.h 6000 (p v3 (m 10 (p v4 (c 1)))) (p v1 (c 1000)) (.h 6000 (p v0 (p v5 (c 1))) (p v3 (c 10)) (.h 990999 (c 0) v1 (.h 996999000 (c 0) v2 (.h 60000 (c 0) v4 (.h 6000 (c 0) v5 .n))))))) 1999 (p (m 3 (p v0 (c 1))) (c 1)) (c 1000000) rfl (nl h0) (nl h1) (nl h2) (nz b) (nz d) (nz f) (nz i)
theorem o194 {b d:Int}{a:Nat}(h0:0≤b)(h1:b≤2)(h2:d≤b+1)(h3:(a:Int)=d):a≤10:=gl (lin [(a:Int),b,d] (.h 7 (c 0) v1 (.h 9 v1 (c 2) (.h 2 v2 (p v1 (c 1)) (.h 2 v0 v2 .n)))) 1 v0 (c 10) rfl h0 h1 h2 (iq h3))
theorem o195 {a:Nat}:0≤3*((a+1:Nat):Int):=lin [(a:Int)] (.h 3 (c 0) v0 .n) 0 (c 0) (m 3 (p v0 (c 1))) rfl (nz a)
theorem o196 {a b d e f i:Nat}(h0:b+1000*(d+1)≤3000)(h1:e+10*(f+1)≤b+1000)(h2:a+(i+1)≤e+10):3*((a+1:Nat):Int)≤1000000:=lin [(a:Int),(b:Int),(d:Int),(e:Int),(f:Int),(i:Int)] (.h 997 (p v1 (m 1000 (p v2 (c 1)))) (c 3000) (.h 6 (p v3 (m 10 (p v4 (c 1)))) (p v1 (c 1000)) (.h 6 (p v0 (p v5 (c 1))) (p v3 (c 10)) (.h 991 (c 0) v1 (.h 997000 (c 0) v2 (.h 60 (c 0) v4 (.h 6 (c 0) v5 .n))))))) 1 (m 3 (p v0 (c 1))) (c 1000000) rfl (nl h0) (nl h1) (nl h2) (nz b) (nz d) (nz f) (nz i)
theorem o197 {a b d e f i j:Nat}(h0:b+1000*(d+1)≤3000)(h1:e+10*(f+1)≤b+1000)(h2:i+(j+1)≤e+10)(h3:a≤i):a≤16777216:=lin' [a,b,d,e,f,i,j] (.h 16776217 (p v1 (m 1000 (p v2 (c 1)))) (c 3000) (.h 2000 (p v3 (m 10 (p v4 (c 1)))) (p v1 (c 1000)) (.h 2000 (p v5 (p v6 (c 1))) (p v3 (c 10)) (.h 2000 v0 v5 .n)))) 1999 v0 (c 16777216) rfl h0 h1 h2 h3
theorem o198 {a b:Nat}(h0:a≤b):a+1≤b+1:=lin' [a,b] (.h 1 v0 v1 .n) 0 (p v0 (c 1)) (p v1 (c 1)) rfl h0
theorem o199 {a b d e f:Nat}(h0:e+10*(b+1)≤d+1000)(h1:a+f≤e+10):a+10*b≤d+1000:=lin' [a,b,d,e,f] (.h 1 (p v3 (m 10 (p v1 (c 1)))) (p v2 (c 1000)) (.h 1 (p v0 v4) (p v3 (c 10)) .n)) 0 (p v0 (m 10 v1)) (p v2 (c 1000)) rfl h0 h1
theorem o200 {a b d:Nat}(h0:a+10*(b+1)≤d+1000):a+10*b≤d+1000:=lin' [a,b,d] (.h 1 (p v0 (m 10 (p v1 (c 1)))) (p v2 (c 1000)) .n) 0 (p v0 (m 10 v1)) (p v2 (c 1000)) rfl h0
theorem o201 {a b d e:Nat}(h0:d+1000*(b+1)≤3000)(h1:a+10*e≤d+1000):a+1000*b≤3000:=lin' [a,b,d,e] (.h 1 (p v2 (m 1000 (p v1 (c 1)))) (c 3000) (.h 1 (p v0 (m 10 v3)) (p v2 (c 1000)) .n)) 0 (p v0 (m 1000 v1)) (c 3000) rfl h0 h1
theorem o202 {a b d:Nat}(h0:b+1000*d≤3000)(h1:a≤b):a≤3000:=lin' [a,b,d] (.h 1 (p v1 (m 1000 v2)) (c 3000) (.h 1 v0 v1 .n)) 0 v0 (c 3000) rfl h0 h1
theorem o203 {a b d:Nat}(h0:b≤3000)(h1:b=a+d):a≤3000:=lin' [a,b,d] (.h 1 v1 (c 3000) (.h 1 (p v0 v2) v1 .n)) 0 v0 (c 3000) rfl h0 (nQ h1)
theorem o204 {a b:Nat}(h0:a≤b)(h1:b≤3000):a≤16777216:=lin' [a,b] (.h 2097152 v0 v1 (.h 2097152 v1 (c 3000) .n)) 374 v0 (c 16777216) rfl h0 h1
theorem o205 {a b d:Nat}(h0:a≤b):a≤b+d:=lin' [a,b,d] (.h 1 v0 v1 .n) 0 v0 (p v1 v2) rfl h0
theorem o206 {a b:Nat}(h0:b≤3000)(h1:b=a):a≤3000:=lin' [a,b] (.h 1 v1 (c 3000) (.h 1 v0 v1 .n)) 0 v0 (c 3000) rfl h0 (nQ h1)
theorem o207 {a b:Int}{d:Nat}(h0:b<a)(h1:(a-b).toNat=d+1):(a-(b+1)).toNat=d:=Nat.le_antisymm (gl (lin [a,b,(d:Int),((a-(b+1)).toNat:Int),((a-b).toNat:Int)] (.h 1 v4 (p v2 (c 1)) (.h 1 v3 (s v0 (p v1 (c 1))) (.h 1 (s v0 v1) v4 .n))) 0 v3 v2 rfl (nl (nq h1)) (tn (lin [a,b,(d:Int),((a-(b+1)).toNat:Int),((a-b).toNat:Int)] (.h 1 (p v1 (c 1)) v0 .n) 0 (c 0) (s v0 (p v1 (c 1))) rfl h0)) (ts _))) (gl (lin [a,b,(d:Int),((a-(b+1)).toNat:Int),((a-b).toNat:Int)] (.h 1 (p v2 (c 1)) v4 (.h 1 (s v0 (p v1 (c 1))) v3 (.h 1 v4 (s v0 v1) .n))) 0 v2 v3 rfl (nl (nQ h1)) (ts _) (tn (lin [a,b,(d:Int),((a-(b+1)).toNat:Int),((a-b).toNat:Int)] (.h 1 (p v1 (c 1)) v0 .n) 0 (c 0) (s v0 v1) rfl h0))))
theorem o208 {a:Int}{b:Nat}:a+((b+1:Nat):Int)=a+1+(b:Int):=Int.le_antisymm (lin [a,(b:Int)] .n 0 (p v0 (p v1 (c 1))) (p (p v0 (c 1)) v1) rfl) (lin [a,(b:Int)] .n 0 (p (p v0 (c 1)) v1) (p v0 (p v1 (c 1))) rfl)
theorem o209 {a b:Int}(h0:a<b+1):a+1<b+2:=lin [a,b] (.h 1 (p v0 (c 1)) (p v1 (c 1)) .n) 0 (p (p v0 (c 1)) (c 1)) (p v1 (c 2)) rfl h0
theorem o210 {a b:Int}(h0:0≤b)(h1:b≤2)(h2:a<b+1):a+1≤3:=lin [a,b] (.h 1 v1 (c 2) (.h 1 (p v0 (c 1)) (p v1 (c 1)) .n)) 0 (p v0 (c 1)) (c 3) rfl h1 h2
theorem o211 {a:Int}{b:Nat}(h0:(b:Int)=a+1)(h1:1<a+1):2≤a+1:=lin [a,(b:Int)] (.h 1 (p (c 1) (c 1)) (p v0 (c 1)) .n) 0 (c 2) (p v0 (c 1)) rfl h1
theorem o212 {b:Int}{a:Nat}(h0:1<b+1)(h1:(a:Int)=b+1):a≠1:=Nat.ne_of_gt (gl (lin [(a:Int),b] (.h 1 (p (c 1) (c 1)) (p v1 (c 1)) (.h 1 (p v1 (c 1)) v0 .n)) 0 (p (c 1) (c 1)) v0 rfl h0 (iQ h1)))
theorem o213 {b d:Int}{a:Nat}(h0:0≤b)(h1:b≤2)(h2:d<b+1)(h3:(a:Int)=d+1):a≤1000:=gl (lin [(a:Int),b,d] (.h 997 (c 0) v1 (.h 999 v1 (c 2) (.h 2 (p v2 (c 1)) (p v1 (c 1)) (.h 2 v0 (p v2 (c 1)) .n)))) 1 v0 (c 1000) rfl h0 h1 h2 (iq h3))
theorem o214 {a:Int}{b:Nat}(h0:1<a+1)(h1:(b:Int)=a+1):1≤a+1-1:=lin [a,(b:Int)] (.h 1 (p (c 1) (c 1)) (p v0 (c 1)) .n) 0 (c 1) (s (p v0 (c 1)) (c 1)) rfl h0
theorem o215 {a:Int}:a+1-1≤a:=lin [a] .n 0 (s (p v0 (c 1)) (c 1)) v0 rfl
theorem o216 {b:Int}{a:Nat}(h0:0≤b)(h1:(a:Int)=b+1)(h2:¬(1<b+1)):a=1:=Nat.le_antisymm (gl (lin [(a:Int),b] (.h 1 v0 (p v1 (c 1)) (.h 1 (p v1 (c 1)) (c 1) .n)) 0 v0 (c 1) rfl (iq h1) (iN h2))) (gl (lin [(a:Int),b] (.h 1 (c 0) v1 (.h 1 (p v1 (c 1)) v0 .n)) 0 (c 1) v0 rfl h0 (iQ h1)))
theorem o217 {a b:Int}{d:Nat}(h0:0≤b)(h1:b≤2)(h2:a<b+1)(h3:(d:Int)=a+1):a≤2:=lin [a,b,(d:Int)] (.h 1 v1 (c 2) (.h 1 (p v0 (c 1)) (p v1 (c 1)) .n)) 0 v0 (c 2) rfl h1 h2
theorem o218 {a b:Int}(h0:a≤b+1)(h1:¬(a<b+1)):a=b+1:=Int.le_antisymm (lin [a,b] (.h 1 v0 (p v1 (c 1)) .n) 0 v0 (p v1 (c 1)) rfl h0) (lin [a,b] (.h 1 (p v1 (c 1)) v0 .n) 0 (p v1 (c 1)) v0 rfl (iN h1))
theorem o219 {a:Int}:a+1+1=a+2:=Int.le_antisymm (lin [a] .n 0 (p (p v0 (c 1)) (c 1)) (p v0 (c 2)) rfl) (lin [a] .n 0 (p v0 (c 2)) (p (p v0 (c 1)) (c 1)) rfl)
theorem o220 {b:Int}{a d e:Nat}(h0:2≤b)(h1:b≤10)(h2:d+e=b.toNat)(h3:d=b.toNat)(h4:a<d):(a:Int)<b:=lin [(a:Int),b,(d:Int),(e:Int),(b.toNat:Int)] (.h 1 v2 v4 (.h 1 (p v0 (c 1)) v2 (.h 1 v4 v1 .n))) 0 (p v0 (c 1)) v1 rfl (nl (nq h3)) (nl h4) (tn (lin [(a:Int),b,(d:Int),(e:Int),(b.toNat:Int)] (.h 5 (c 2) v1 (.h 1 v1 (c 10) .n)) 3 (c 0) v1 rfl h0 h1))
theorem o221 {b:Int}{a d e:Nat}(h0:2≤b)(h1:b≤10)(h2:d+e=b.toNat)(h3:d=b.toNat)(h4:a<d):a<(b-0).toNat:=gl (lin [(a:Int),b,(d:Int),(e:Int),((b-0).toNat:Int),(b.toNat:Int)] (.h 1 v2 v5 (.h 1 (p v0 (c 1)) v2 (.h 1 (s v1 (c 0)) v4 (.h 1 v5 v1 .n)))) 0 (p v0 (c 1)) v4 rfl (nl (nq h3)) (nl h4) (ts _) (tn (lin [(a:Int),b,(d:Int),(e:Int),((b-0).toNat:Int),(b.toNat:Int)] (.h 5 (c 2) v1 (.h 1 v1 (c 10) .n)) 3 (c 0) v1 rfl h0 h1)))
theorem o222 {a b:Nat}(h0:¬(b<a)):a≤b:=lin' [a,b] (.h 1 v0 v1 .n) 0 v0 v1 rfl (nN h0)
theorem o223 {a:Int}{b d e:Nat}(h0:2≤a)(h1:a≤10)(h2:d+e=a.toNat)(h3:d=a.toNat)(h4:¬(b<d)):(a-0).toNat≤b:=gl (lin [a,(b:Int),(d:Int),(e:Int),((a-0).toNat:Int),(a.toNat:Int)] (.h 1 v5 v2 (.h 1 v2 v1 (.h 1 v4 (s v0 (c 0)) (.h 1 v0 v5 .n)))) 0 v4 v1 rfl (nl (nQ h3)) (nl (nN h4)) (tn (lin [a,(b:Int),(d:Int),(e:Int),((a-0).toNat:Int),(a.toNat:Int)] (.h 5 (c 2) v0 (.h 1 v0 (c 10) .n)) 3 (c 0) (s v0 (c 0)) rfl h0 h1)) (ts _))
theorem o224 {a:Int}(h0:a≤3):a-1≤2:=lin [a] (.h 1 v0 (c 3) .n) 0 (s v0 (c 1)) (c 2) rfl h0
theorem o225 {a:Int}:a-1+2=a+1:=Int.le_antisymm (lin [a] .n 0 (p (s v0 (c 1)) (c 2)) (p v0 (c 1)) rfl) (lin [a] .n 0 (p v0 (c 1)) (p (s v0 (c 1)) (c 2)) rfl)
theorem o226 {a d:Nat}(h0:d≤300)(h1:a=d):(a:Int)<(2^63):=lin [(a:Int),(2^63),(d:Int)] (.h 9223372036854775807 v2 (c 300) (.h 9223372036854775807 v0 v2 (.h 300 (c 9223372036854775808) v1 (.h 9223372036854775507 (c 0) v0 .n)))) 299 (p v0 (c 1)) v1 rfl (nl h0) (nl (nq h1)) (iQ pwZ2_63) (nz a)
theorem o227 {a b:Int}(h0:0≤a)(h1:a<b):a.toNat<(b-0).toNat:=gl (lin [a,b,(a.toNat:Int),((b-0).toNat:Int)] (.h 1 (p v0 (c 1)) v1 (.h 1 v2 v0 (.h 1 (s v1 (c 0)) v3 .n))) 0 (p v2 (c 1)) v3 rfl h1 (tn (lin [a,b,(a.toNat:Int),((b-0).toNat:Int)] (.h 1 (c 0) v0 .n) 0 (c 0) v0 rfl h0)) (ts _))
theorem o228 {b:Int}{a d:Nat}(h0:0≤b)(h1:b≤2)(h2:a+9<d):a+b.toNat+2<d:=gl (lin [(a:Int),b,(d:Int),(b.toNat:Int)] (.h 5 (c 0) v1 (.h 7 v1 (c 2) (.h 2 (p (p v0 (c 9)) (c 1)) v2 (.h 2 v3 v1 .n)))) 1 (p (p (p v0 v3) (c 2)) (c 1)) v2 rfl h0 h1 (nl h2) (tn (lin [(a:Int),b,(d:Int),(b.toNat:Int)] (.h 1 (c 0) v1 .n) 0 (c 0) v1 rfl h0)))
theorem o229 {b:Int}{a d:Nat}(h0:0≤b)(h1:b≤2)(h2:a+90<d):a+10*b.toNat+60<d:=gl (lin [(a:Int),b,(d:Int),(b.toNat:Int)] (.h 5 (c 0) v1 (.h 15 v1 (c 2) (.h 1 (p (p v0 (c 90)) (c 1)) v2 (.h 10 v3 v1 .n)))) 0 (p (p (p v0 (m 10 v3)) (c 60)) (c 1)) v2 rfl h0 h1 (nl h2) (tn (lin [(a:Int),b,(d:Int),(b.toNat:Int)] (.h 1 (c 0) v1 .n) 0 (c 0) v1 rfl h0)))
theorem o230 {a:Nat}(h0:a<6):(a:Int)<(2^63):=lin [(a:Int),(2^63)] (.h 9223372036854775807 (p v0 (c 1)) (c 6) (.h 5 (c 9223372036854775808) v1 (.h 9223372036854775802 (c 0) v0 .n))) 4 (p v0 (c 1)) v1 rfl (nl h0) (iQ pwZ2_63) (nz a)
theorem o231 {a:Int}{b d:Nat}(h0:b=d)(h1:0≤a)(h2:a<(d:Int)):a.toNat<b:=gl (lin [a,(b:Int),(d:Int),(a.toNat:Int)] (.h 1 v2 v1 (.h 1 (p v0 (c 1)) v2 (.h 1 v3 v0 .n))) 0 (p v3 (c 1)) v1 rfl (nl (nQ h0)) h2 (tn (lin [a,(b:Int),(d:Int),(a.toNat:Int)] (.h 1 (c 0) v0 .n) 0 (c 0) v0 rfl h1)))
theorem o232 {a:Nat}(h0:a≤2):a+1≤16777216:=lin' [a] (.h 16777215 v0 (c 2) .n) 1 (p v0 (c 1)) (c 16777216) rfl h0
theorem o233 {b d:Int}{a:Nat}(h0:d≤b-1)(h1:(a:Int)=d):(a:Int)<b:=lin [(a:Int),b,d] (.h 1 v2 (s v1 (c 1)) (.h 1 v0 v2 .n)) 0 (p v0 (c 1)) v1 rfl h0 (iq h1)
theorem o234 {a:Nat}(h0:0<a):(a:Int)≠0:=Int.ne_of_gt (lin [(a:Int)] (.h 1 (p (c 0) (c 1)) v0 .n) 0 (p (c 0) (c 1)) v0 rfl (nl h0))
theorem o235 {a:Nat}(h0:0<a):0<(a:Int):=lin [(a:Int)] (.h 1 (p (c 0) (c 1)) v0 .n) 0 (p (c 0) (c 1)) v0 rfl (nl h0)
theorem o236 {a d:Int}{e:Nat}(h0:2≤d)(h1:d≤10)(h2:e≤d.toNat)(h3:a<(e:Int)):a<(2^63):=lin [a,(2^63),d,(e:Int),(d.toNat:Int)] (.h 4611686018427387899 (c 2) v2 (.h 4611686018427387903 v2 (c 10) (.h 4 v3 v4 (.h 4 (p v0 (c 1)) v3 (.h 4 (c 9223372036854775808) v1 (.h 4 v4 v2 .n)))))) 3 (p v0 (c 1)) v1 rfl h0 h1 (nl h2) h3 (iQ pwZ2_63) (tn (lin [a,(2^63),d,(e:Int),(d.toNat:Int)] (.h 5 (c 2) v2 (.h 1 v2 (c 10) .n)) 3 (c 0) v2 rfl h0 h1))
theorem o237 {a:Int}(h0:2≤a):((0:Int)≤0)∧(0<a):=⟨lin [a] .n 0 (c 0) (c 0) rfl,lin [a] (.h 1 (c 2) v0 .n) 0 (p (c 0) (c 1)) v0 rfl h0⟩
theorem o238 {a b:Int}(h0:2≤b)(h1:a=0):(0≤a)∧(a<b):=⟨lin [a,b] (.h 1 (c 0) v0 .n) 0 (c 0) v0 rfl (iQ h1),lin [a,b] (.h 1 (c 2) v1 (.h 1 v0 (c 0) .n)) 0 (p v0 (c 1)) v1 rfl h0 (iq h1)⟩
theorem o239 {a:Int}(h0:2≤a):((0:Int)≤1)∧(1<a):=⟨lin [a] .n 0 (c 0) (c 1) rfl,lin [a] (.h 1 (c 2) v0 .n) 0 (p (c 1) (c 1)) v0 rfl h0⟩
theorem o240 {a:Int}(h0:(0≤a)∧(a<a)):False:=fZ (lin [a] (.h 1 (p v0 (c 1)) v0 .n) 0 (c 1) (c 0) rfl h0.2)
theorem o241 {b:Int}{a:Nat}(h0:1≤b)(h1:b≤3)(h2:(a:Int)=b):a≤10:=gl (lin [(a:Int),b] (.h 7 (c 1) v1 (.h 9 v1 (c 3) (.h 2 v0 v1 .n))) 1 v0 (c 10) rfl h0 h1 (iq h2))
theorem o242 {a:Int}(h0:1≤a)(h1:a≤3)(h2:1<a):1≠a:=Int.ne_of_lt (lin [a] (.h 1 (p (c 1) (c 1)) v0 .n) 0 (p (c 1) (c 1)) v0 rfl h2)
theorem o243 {a:Int}(h0:1≤a)(h1:a≤3)(h2:¬(1<a)):2≠a:=Int.ne_of_gt (lin [a] (.h 1 v0 (c 1) .n) 0 (p v0 (c 1)) (c 2) rfl (iN h2))
theorem o244 {a d:Nat}(h0:d≤100)(h1:a≤d):a<(2^62):=lin' [a,(2^62),d] (.h 4611686018427387903 v2 (c 100) (.h 4611686018427387903 v0 v2 (.h 100 (c 4611686018427387904) v1 .n))) 99 (p v0 (c 1)) v1 rfl h0 h1 (nQ pwN2_62)
theorem o245 {a:Nat}(h0:0<(a:Int)):(a:Int)≠0:=Int.ne_of_gt (lin [(a:Int)] (.h 1 (p (c 0) (c 1)) v0 .n) 0 (p (c 0) (c 1)) v0 rfl h0)
theorem o246 {a:Int}{d e:Nat}(h0:d≤100)(h1:e≤d)(h2:a<(e:Int)):a<(2^63):=lin [a,(2^63),(d:Int),(e:Int)] (.h 2305843009213693952 v2 (c 100) (.h 25 v3 v2 (.h 25 (p v0 (c 1)) v3 (.h 25 (c 9223372036854775808) v1 (.h 2305843009213693927 (c 0) v2 .n))))) 24 (p v0 (c 1)) v1 rfl (nl h0) (nl h1) h2 (iQ pwZ2_63) (nz d)
theorem o247 {b:Int}{a:Nat}(h0:1≤b)(h1:b≤3)(h2:(a:Int)=b):(a:Int)≠0:=Int.ne_of_gt (lin [(a:Int),b] (.h 1 (c 1) v1 (.h 1 v1 v0 .n)) 0 (p (c 0) (c 1)) v0 rfl h0 (iQ h2))
theorem o248 {b:Int}{a:Nat}(h0:1≤b)(h1:b≤3)(h2:(a:Int)=b):0<(a:Int):=lin [(a:Int),b] (.h 1 (c 1) v1 (.h 1 v1 v0 .n)) 0 (p (c 0) (c 1)) v0 rfl h0 (iQ h2)
theorem o249 {a d:Int}{e:Nat}(h0:1≤d)(h1:d≤3)(h2:(e:Int)=d)(h3:a<(e:Int)):a<(2^63):=lin [a,(2^63),d,(e:Int)] (.h 9223372036854775805 (c 1) v2 (.h 9223372036854775807 v2 (c 3) (.h 2 v3 v2 (.h 2 (p v0 (c 1)) v3 (.h 2 (c 9223372036854775808) v1 .n))))) 1 (p v0 (c 1)) v1 rfl h0 h1 (iq h2) h3 (iQ pwZ2_63)
theorem o250 {a:Nat}(h0:a≤100)(h1:0<(a:Int)):(a:Int)≠0:=Int.ne_of_gt (lin [(a:Int)] (.h 1 (p (c 0) (c 1)) v0 .n) 0 (p (c 0) (c 1)) v0 rfl h1)
theorem o251 {a:Int}{d:Nat}(h0:d≤100)(h1:0<(d:Int))(h2:a<(d:Int)):a<(2^63):=lin [a,(2^63),(d:Int)] (.h 9223372036854775807 v2 (c 100) (.h 9223372036854775708 (p (c 0) (c 1)) v2 (.h 99 (p v0 (c 1)) v2 (.h 99 (c 9223372036854775808) v1 .n)))) 98 (p v0 (c 1)) v1 rfl (nl h0) h1 h2 (iQ pwZ2_63)
end
end Mine
section
namespace Mine
open PySem
inductive AV where
 | none
 | bool (b:Bool)
 | int (i:Int)
 | str (x:Str)
 | tup (l:List AV)
 | list (l:List AV)
 | dict (l:List (AV×AV))
 | rng (lo hi:Int)
 | obj (a:Addr)
 | raw (v:Value)
 | exc (C:Addr)
noncomputable abbrev Fz:=Addr→Option Obj
noncomputable def Fz.le (F G:Fz):Prop:=∀ a o,F a=some o→G a=some o
theorem Fz.le.refl (F:Fz):F.le F:=fun _ _ h=>h
theorem Fz.le.trans {F G H:Fz} (x:F.le G) (y:G.le H):F.le H:=fun a o h=>y a o (x a o h)
noncomputable abbrev lstO (vs:List Value) (n:Nat):Obj:={ cls := .type "list", data := .seq vs.toArray n }
noncomputable abbrev tupO (vs:List Value) (n:Nat):Obj:={ cls := .type "tuple", data := .seq vs.toArray n }
noncomputable abbrev dctO (es:List DictEntry) (n:Nat):Obj:={ cls := .type "dict", data := .dict es.toArray n }
mutual
noncomputable def hK (w:World):AV→Int
 | .none=>reduceHash 4238894112
 | .int i=>hashInt i
 | .str x=>hashStr w x
 | .tup l=>reduceHash (Builtin.Tuple.tupleHashOf (hKs w l))
 | _=>0
noncomputable def hKs (w:World):List AV→List Int
 | []=>[]
 | x::r=>hK w x::hKs w r
end
mutual
noncomputable def isKey:AV→Bool
 | .none=>true
 | .int _=>true
 | .str _=>true
 | .tup l=>areKeys l
 | _=>false
noncomputable def areKeys:List AV→Bool
 | []=>true
 | x::r=>isKey x && areKeys r
end
noncomputable def DOk (a:Addr) (l:List (AV×AV)):Prop:=(l.map (·.1)).Nodup∧(a==sysModules)=false
mutual
inductive Rep (w:World) (F:Fz):Value→AV→Prop
 | none:Rep w F .none .none
 | bool (b:Bool):Rep w F (.bool b) (.bool b)
 | int (i:Int) (t:Tok):Rep w F (.int i t) (.int i)
 | str (x:Str) (t:Tok):Rep w F (.str x t) (.str x)
 | tup {a:Addr} {vs:List Value} {n:Nat} {l:List AV}:F a=some (tupO vs n)→RepL w F vs l→Rep w F (.ref a) (.tup l)
 | list {a:Addr} {vs:List Value} {n:Nat} {l:List AV}:F a=some (lstO vs n)→RepL w F vs l→Rep w F (.ref a) (.list l)
 | dict {a:Addr} {es:List DictEntry} {n:Nat} {l:List (AV×AV)}:F a=some (dctO es n)→RepE w F es l→DOk a l→Rep w F (.ref a) (.dict l)
 | rng {a:Addr} {lo hi:Int} {t u v:Tok}:F a=some { cls := .type "range", data := .fields #[.int lo t,.int hi u,.int 1 v] }→Rep w F (.ref a) (.rng lo hi)
 | obj (a:Addr):Rep w F (.ref a) (.obj a)
 | raw (v:Value):Rep w F v (.raw v)
 | exc {a C:Addr} {o:Obj}:F a=some o→o.cls = .ref C→Rep w F (.ref a) (.exc C)
inductive RepL (w:World) (F:Fz):List Value→List AV→Prop
 | nil:RepL w F [] []
 | cons {v:Value} {vs:List Value} {x:AV} {l:List AV}:Rep w F v x→RepL w F vs l→RepL w F (v::vs) (x::l)
inductive RepE (w:World) (F:Fz):List DictEntry→List (AV×AV)→Prop
 | nil:RepE w F [] []
 | cons {k v:Value} {es:List DictEntry} {x y:AV} {l:List (AV×AV)}:isKey x=true→Rep w F k x→Rep w F v y→RepE w F es l→RepE w F (⟨hK w x,k,v⟩::es) ((x,y)::l)
end
theorem lk_self {α:Type} {n:Str} {a:α} {l:List (Str×α)}:((n,a)::l).lookup n=some a:=by rw [List.lookup_cons,BEq.rfl]
theorem lk_ne {α:Type} {n m:Str} {a:α} {l:List (Str×α)} (h:¬n=m):((m,a)::l).lookup n=l.lookup n:=by
 rw [List.lookup_cons,show (n==m)=false from beq_eq_false_iff_ne.mpr h]
section
variable {w:World} {F G:Fz}
theorem Rep.mono (hl:F.le G) {v:Value} {x:AV} (r:Rep w F v x):Rep w G v x :=
 Rep.rec (motive_1:=fun v x _=>Rep w G v x) (motive_2:=fun vs l _=>RepL w G vs l) (motive_3:=fun es l _=>RepE w G es l)
  .none .bool .int .str (fun h _ r => .tup (hl _ _ h) r) (fun h _ r => .list (hl _ _ h) r) (fun h _ n r => .dict (hl _ _ h) r n) (fun h => .rng (hl _ _ h)) .obj .raw (fun h e => .exc (hl _ _ h) e) .nil (fun _ _ h r => .cons h r) .nil (fun k _ _ _ h h' r => .cons k h h' r) r
theorem RepL.mono (hl:F.le G) {vs:List Value} {l:List AV} (r:RepL w F vs l):RepL w G vs l :=
 RepL.rec (motive_1:=fun v x _=>Rep w G v x) (motive_2:=fun vs l _=>RepL w G vs l) (motive_3:=fun es l _=>RepE w G es l)
  .none .bool .int .str (fun h _ r => .tup (hl _ _ h) r) (fun h _ r => .list (hl _ _ h) r) (fun h _ n r => .dict (hl _ _ h) r n) (fun h => .rng (hl _ _ h)) .obj .raw (fun h e => .exc (hl _ _ h) e) .nil (fun _ _ h r => .cons h r) .nil (fun k _ _ _ h h' r => .cons k h h' r) r
theorem RepE.mono (hl:F.le G) {es:List DictEntry} {l:List (AV×AV)} (r:RepE w F es l):RepE w G es l :=
 RepE.rec (motive_1:=fun v x _=>Rep w G v x) (motive_2:=fun vs l _=>RepL w G vs l) (motive_3:=fun es l _=>RepE w G es l)
  .none .bool .int .str (fun h _ r => .tup (hl _ _ h) r) (fun h _ r => .list (hl _ _ h) r) (fun h _ n r => .dict (hl _ _ h) r n) (fun h => .rng (hl _ _ h)) .obj .raw (fun h e => .exc (hl _ _ h) e) .nil (fun _ _ h r => .cons h r) .nil (fun k _ _ _ h h' r => .cons k h h' r) r
inductive TupR (w:World) (F:Fz) (v:Value) (l:List AV):Prop
 | mk (a:Addr) (vs:List Value) (n:Nat) (hv:v = .ref a) (h:F a=some (tupO vs n)) (r:RepL w F vs l):TupR w F v l
inductive LstR (w:World) (F:Fz) (v:Value) (l:List AV):Prop
 | mk (a:Addr) (vs:List Value) (n:Nat) (hv:v = .ref a) (h:F a=some (lstO vs n)) (r:RepL w F vs l):LstR w F v l
inductive DctR (w:World) (F G:Fz) (v:Value) (l:List (AV×AV)):Prop
 | mk (a:Addr) (es:List DictEntry) (n:Nat) (hv:v = .ref a) (h:G a=some (dctO es n)) (r:RepE w F es l) (ok:DOk a l):DctR w F G v l
inductive ConsR (w:World) (F:Fz) (vs:List Value) (x:AV) (l:List AV):Prop
 | mk (v:Value) (us:List Value) (e:vs=v::us) (h:Rep w F v x) (r:RepL w F us l):ConsR w F vs x l
inductive ConsE (w:World) (F:Fz) (es:List DictEntry) (p:AV×AV) (l:List (AV×AV)):Prop
 | mk (k v:Value) (us:List DictEntry) (e:es=⟨hK w p.1,k,v⟩::us) (i:isKey p.1=true) (h:Rep w F k p.1) (h':Rep w F v p.2) (r:RepE w F us l):ConsE w F es p l
noncomputable def RI (w:World) (F:Fz) (v:Value):AV→Prop
 | .none=>v = .none | .bool b=>v = .bool b | .int i=>∃ t,v = .int i t | .str y=>∃ t,v = .str y t
 | .tup l=>TupR w F v l
 | .list l=>LstR w F v l
 | .dict l=>DctR w F F v l
 | .rng lo hi=>∃ a t u z,v = .ref a∧F a=some { cls := .type "range", data := .fields #[.int lo t,.int hi u,.int 1 z] }
 | .obj a=>v = .ref a | .raw u=>v=u | .exc C=>∃ a o,v = .ref a∧F a=some o∧o.cls = .ref C
theorem Rep.inv {v:Value} {x:AV} (r:Rep w F v x):RI w F v x :=
 Rep.casesOn (motive_1:=fun v x _=>RI w F v x) r rfl (fun _=>rfl) (fun _ t=>⟨t,rfl⟩) (fun _ t=>⟨t,rfl⟩) (fun h r=>⟨_,_,_,rfl,h,r⟩) (fun h r=>⟨_,_,_,rfl,h,r⟩) (fun h r d=>⟨_,_,_,rfl,h,r,d⟩) (fun h=>⟨_,_,_,_,rfl,h⟩) (fun _=>rfl) (fun _=>rfl) (fun h e=>⟨_,_,rfl,h,e⟩)
theorem Rep.invNone {v:Value} (r:Rep w F v .none):v = .none:=r.inv
theorem Rep.invBool {v:Value} {b:Bool} (r:Rep w F v (.bool b)):v = .bool b:=r.inv
theorem Rep.invInt {v:Value} {i:Int} (r:Rep w F v (.int i)):∃ t,v = .int i t:=r.inv
theorem Rep.invStr {v:Value} {y:Str} (r:Rep w F v (.str y)):∃ t,v = .str y t:=r.inv
theorem Rep.invTup {v:Value} {l:List AV} (r:Rep w F v (.tup l)):TupR w F v l:=r.inv
theorem Rep.invList {v:Value} {l:List AV} (r:Rep w F v (.list l)):LstR w F v l:=r.inv
theorem Rep.invDict {v:Value} {l:List (AV×AV)} (r:Rep w F v (.dict l)):DctR w F F v l:=r.inv
theorem Rep.invRng {v:Value} {lo hi:Int} (r:Rep w F v (.rng lo hi)):∃ a t u z,v = .ref a∧F a=some { cls := .type "range", data := .fields #[.int lo t,.int hi u,.int 1 z] }:=r.inv
theorem Rep.invObj {v:Value} {a:Addr} (r:Rep w F v (.obj a)):v = .ref a:=r.inv
theorem Rep.invRaw {v u:Value} (r:Rep w F v (.raw u)):v=u:=r.inv
theorem Rep.invExc {v:Value} {C:Addr} (r:Rep w F v (.exc C)):∃ a o,v = .ref a∧F a=some o∧o.cls = .ref C:=r.inv
theorem RepL.invNil {vs:List Value} (r:RepL w F vs []):vs=[]:=by cases r;rfl
theorem RepL.invCons {vs:List Value} {x:AV} {l:List AV} (r:RepL w F vs (x::l)):ConsR w F vs x l:=by
 cases r with | cons h r=>exact ⟨_,_,rfl,h,r⟩
theorem RepL.one {vs:List Value} {x:AV} (r:RepL w F vs [x]):∃ v,vs=[v]∧Rep w F v x:=by
 obtain ⟨v,us,rfl,h,r'⟩:=r.invCons
 obtain rfl:=r'.invNil
 exact ⟨v,rfl,h⟩
theorem RepL.two {vs:List Value} {x y:AV} (r:RepL w F vs [x,y]):∃ v u,vs=[v,u]∧Rep w F v x∧Rep w F u y:=by
 obtain ⟨v,us,rfl,h,r'⟩:=r.invCons
 obtain ⟨u,rfl,h'⟩:=r'.one
 exact ⟨v,u,rfl,h,h'⟩
theorem RepL.ind {P:List Value→List AV→Prop} (n:P [] []) (k:∀ {v:Value} {vs:List Value} {x:AV} {l:List AV},Rep w F v x→RepL w F vs l→P vs l→P (v::vs) (x::l)) {vs:List Value} {l:List AV} (h:RepL w F vs l):P vs l:=by
 induction l generalizing vs with
 | nil=>rw [h.invNil];exact n
 | cons x l ih=>obtain ⟨v,us,e,h,r⟩:=h.invCons;rw [e];exact k h r (ih r)
theorem RepL.length {vs:List Value} {l:List AV} (h:RepL w F vs l):vs.length=l.length :=
 RepL.ind (P:=fun vs l=>vs.length=l.length) rfl (fun _ _ e=>congrArg Nat.succ e) h
theorem RepL.append {vs ws:List Value} {l m:List AV} (h:RepL w F vs l) (k:RepL w F ws m):RepL w F (vs++ws) (l++m) :=
 RepL.ind (P:=fun vs l=>RepL w F (vs++ws) (l++m)) k (fun h _ r => .cons h r) h
theorem RepL.get {vs:List Value} {l:List AV} (h:RepL w F vs l) {i:Nat} {x:AV} (hx:l[i]?=some x):∃ v,vs[i]?=some v∧Rep w F v x :=
 RepL.ind (P:=fun vs l=>∀ i:Nat,l[i]?=some x→∃ v,vs[i]?=some v∧Rep w F v x) (fun _ h=>(Option.some_ne_none _ h.symm).elim)
  (fun h _ ih i=>Nat.casesOn i (fun e=>⟨_,rfl,Option.some.inj e ▸ h⟩) ih) h i hx
theorem RepL.get' {vs:List Value} {l:List AV} (h:RepL w F vs l) {i:Nat} {v:Value} (hv:vs[i]?=some v):∃ x,l[i]?=some x∧Rep w F v x :=
 RepL.ind (P:=fun vs l=>∀ i:Nat,vs[i]?=some v→∃ x,l[i]?=some x∧Rep w F v x) (fun _ h=>(Option.some_ne_none _ h.symm).elim)
  (fun h _ ih i=>Nat.casesOn i (fun e=>⟨_,rfl,Option.some.inj e ▸ h⟩) ih) h i hv
theorem RepL.set {vs:List Value} {l:List AV} (h:RepL w F vs l) {i:Nat} {v:Value} {x:AV} (hv:Rep w F v x):RepL w F (vs.set i v) (l.set i x) :=
 RepL.ind (P:=fun vs l=>∀ i:Nat,RepL w F (vs.set i v) (l.set i x)) (fun _ => .nil) (fun h r ih i=>Nat.casesOn i (.cons hv r) fun i => .cons h (ih i)) h i
theorem RepL.take {vs:List Value} {l:List AV} (h:RepL w F vs l) (n:Nat):RepL w F (vs.take n) (l.take n) :=
 RepL.ind (P:=fun vs l=>∀ n:Nat,RepL w F (vs.take n) (l.take n)) (fun n=>by rw [List.take_nil,List.take_nil];exact .nil) (fun h r ih i=>Nat.casesOn i .nil fun i => .cons h (ih i)) h n
theorem RepL.drop {vs:List Value} {l:List AV} (h:RepL w F vs l) (n:Nat):RepL w F (vs.drop n) (l.drop n) :=
 RepL.ind (P:=fun vs l=>∀ n:Nat,RepL w F (vs.drop n) (l.drop n)) (fun n=>by rw [List.drop_nil,List.drop_nil];exact .nil) (fun h r ih i=>Nat.casesOn i (.cons h r) ih) h n
inductive ConsV (w:World) (F:Fz) (v:Value) (vs:List Value) (l:List AV):Prop
 | mk (x:AV) (m:List AV) (e:l=x::m) (h:Rep w F v x) (r:RepL w F vs m):ConsV w F v vs l
theorem RepL.invV {v:Value} {vs:List Value} {l:List AV} (r:RepL w F (v::vs) l):ConsV w F v vs l:=by
 cases r with | cons h r=>exact ⟨_,_,rfl,h,r⟩
theorem RepL.invN {l:List AV} (r:RepL w F [] l):l=[]:=by cases r;rfl
theorem RepE.invNil {es:List DictEntry} (r:RepE w F es []):es=[]:=by cases r;rfl
theorem RepE.invCons {es:List DictEntry} {p:AV×AV} {l:List (AV×AV)} (r:RepE w F es (p::l)):ConsE w F es p l:=by
 cases r with | cons k h h' r=>exact ⟨_,_,_,rfl,k,h,h',r⟩
theorem RepE.length {es:List DictEntry} {l:List (AV×AV)} (h:RepE w F es l):es.length=l.length:=by
 induction l generalizing es with
 | nil=>obtain rfl:=h.invNil;rfl
 | cons p l ih=>obtain ⟨k,v,us,rfl,_,_,_,r⟩:=h.invCons;rw [List.length_cons,List.length_cons,ih r]
end
inductive AObj where
 | lst (l:List AV)
 | dct (l:List (AV×AV))
 | inst (C d:Addr)
noncomputable abbrev Sto:=Addr→Option AObj
noncomputable def Sto.set (σ:Sto) (a:Addr) (x:AObj):Sto:=fun b=>if b=a then some x else σ b
noncomputable def Sto.del (σ:Sto) (a:Addr):Sto:=fun b=>if b=a then Option.none else σ b
noncomputable def fz (h:Heap) (own:List Addr) (σ:Sto):Fz:=fun a=>if (σ a).isSome || own.contains a then Option.none else h.get? a
theorem fz_eq {h:Heap} {own:List Addr} {σ:Sto} {a:Addr} {o:Obj}:fz h own σ a=some o↔σ a=Option.none∧a∉own∧h.get? a=some o:=by
 unfold fz
 constructor
 ·intro e
  split at e
  ·cases e
  next hc =>
   rw [Bool.or_eq_true,not_or] at hc
   exact ⟨Option.not_isSome_iff_eq_none.mp hc.1,fun h=>hc.2 (List.contains_iff_mem.mpr h),e⟩
 ·intro ⟨e1,e2,e3⟩
  rw [e1,if_neg,e3]
  exact fun h=>e2 (List.contains_iff_mem.mp h)
noncomputable def ObjRep (w:World) (F:Fz) (h:Heap) (a:Addr):AObj→Prop
 | .lst l=>∃ vs n,h.get? a=some (lstO vs n)∧RepL w F vs l
 | .dct l=>∃ es n,h.get? a=some (dctO es n)∧RepE w F es l∧DOk a l
 | .inst C d=>h.get? a=some { cls := .ref C,dict:=some d,data := .plain }
theorem ObjRep.live {w:World} {F:Fz} {h:Heap} {a:Addr} {x:AObj} (r:ObjRep w F h a x):∃ o,h.get? a=some o:=by
 cases x with
 | lst l=>obtain ⟨_,_,e,_⟩:=r;exact ⟨_,e⟩
 | dct l=>obtain ⟨_,_,e,_⟩:=r;exact ⟨_,e⟩
 | inst C d=>exact ⟨_,r⟩
theorem ObjRep.mono {w:World} {F G:Fz} {h h':Heap} {a:Addr} {x:AObj} (r:ObjRep w F h a x) (hl:F.le G) (he:∀ o,h.get? a=some o→h'.get? a=some o):ObjRep w G h' a x:=by
 cases x with
 | lst l=>obtain ⟨vs,n,e,k⟩:=r;exact ⟨vs,n,he _ e,k.mono hl⟩
 | dct l=>obtain ⟨vs,n,e,k,m⟩:=r;exact ⟨vs,n,he _ e,k.mono hl,m⟩
 | inst C d=>exact he _ r
noncomputable def nrm (o:Obj):Obj:=match o.data with
 | .dict _ _=>{ o with slots := #[] }
 | _=>o
noncomputable def hg (h:Heap) (a:Addr):Option Obj:=(h.get? a).map nrm
theorem hg_of {h:Heap} {a:Addr} {o:Obj} (e:h.get? a=some o):hg h a=some (nrm o):=by unfold hg;rw [e];rfl
theorem hg_keep {h h':Heap} {a:Addr} (k:∀ o,h.get? a=some o→h'.get? a=some o) {o:Obj} (e:hg h a=some o):hg h' a=some o:=by
 obtain ⟨p,e1,rfl⟩:=Option.map_eq_some_iff.mp e
 exact hg_of (k p e1)
theorem nrm_data (o:Obj):(nrm o).data=o.data:=by
 unfold nrm
 split <;> rfl
theorem nrm_eq {o:Obj} (h:∀ es n,o.data ≠ .dict es n):nrm o=o:=by
 unfold nrm
 split
 ·rename_i es n e;exact absurd e (h es n)
 ·rfl
noncomputable abbrev Kpt (h h':Heap) (a:Addr):Prop:=∀ o,hg h a=some o→hg h' a=some o
theorem Kpt.get {h h':Heap} {a:Addr} {o:Obj} (k:Kpt h h' a) (e:h.get? a=some o) (hn:∀ es n,o.data ≠ .dict es n):h'.get? a=some o:=by
 obtain ⟨p,e1,e2⟩:=Option.map_eq_some_iff.mp (k _ (hg_of e))
 have hd:p.data=o.data:=by rw [← nrm_data p,e2,nrm_data]
 rw [nrm_eq hn,nrm_eq (by rw [hd];exact hn)] at e2
 rw [← e2];exact e1
theorem Kpt.data {h h':Heap} {a:Addr} {o:Obj} (k:Kpt h h' a) (e:h.get? a=some o):∃ p,h'.get? a=some p∧p.data=o.data:=by
 obtain ⟨p,e1,e2⟩:=Option.map_eq_some_iff.mp (k _ (hg_of e))
 exact ⟨p,e1,by rw [← nrm_data p,e2,nrm_data]⟩
theorem Kpt.ns {h h':Heap} {a:Addr} {m:Str→Option Value} (k:Kpt h h' a) (hn:h.Ns a m):h'.Ns a m:=by
 obtain ⟨o,es,ep,ho,hd,r⟩:=hn
 obtain ⟨p,e1,e2⟩:=k.data ho
 exact ⟨p,es,ep,e1,e2.trans hd,r⟩
theorem Kpt.of {h h':Heap} {a:Addr} (k:∀ o,h.get? a=some o→h'.get? a=some o):Kpt h h' a:=fun _ e=>hg_keep k e
theorem Kpt.trans {h h' h'':Heap} {a:Addr} (k:Kpt h h' a) (l:Kpt h' h'' a):Kpt h h'' a:=fun o e=>l o (k o e)
theorem Kpt.same {h h':Heap} {a b:Addr} (hs:Heap.SameBut a h h') (hne:b≠a):Kpt h h' b := .of fun _ e=>(hs.2 b hne).trans e
theorem Kpt.cell {h h':Heap} {a:Addr} {v:Option Value} (k:Kpt h h' a) (hc:h.IsCell a v):h'.IsCell a v:=by
 obtain ⟨o,ho,hd⟩:=hc
 exact ⟨o,k.get ho (fun es n e=>by rw [hd] at e;cases e),hd⟩
noncomputable def DAt (h:Heap) (a:Addr):Prop:=∃ o es n,h.get? a=some o∧o.data = .dict es n
theorem DAt.kpt {h h':Heap} {a:Addr} (d:DAt h a) (k:Kpt h h' a):DAt h' a:=by
 obtain ⟨o,es,n,e,hd⟩:=d
 obtain ⟨p,e1,e2⟩:=k.data e
 exact ⟨p,es,n,e1,e2.trans hd⟩
theorem DAt.keep {h h':Heap} {a:Addr} (d:DAt h a) (k:∀ o,h.get? a=some o→h'.get? a=some o):DAt h' a:=by
 obtain ⟨o,es,n,e,hd⟩:=d
 exact ⟨o,es,n,k o e,hd⟩
theorem DAt.of_ns {h:Heap} {a:Addr} {m:Str→Option Value} (hn:h.Ns a m):DAt h a:=by
 obtain ⟨o,es,ep,ho,hd,r⟩:=hn
 exact ⟨o,es,ep,ho,hd⟩
structure Inv (w:World) (H₀:Heap) (N own:List Addr) (σ:Sto) (s:Shared):Prop where
 keep:∀ b o,H₀.get? b=some o→fz s.heap own σ b=some o
 objs:∀ a x,σ a=some x→ObjRep w (fz s.heap own σ) s.heap a x
 off:∀ a∈own,σ a=Option.none
 live:∀ a∈own,∃ o,s.heap.get? a=some o
 ns:∀ a∈N,DAt s.heap a
 nsub:∀ a∈N,a∈own
noncomputable def SameS (s s':Shared):Prop:=∃ h' tk,s'={ s with heap:=h',toks:=tk }
theorem SameS.mk {s:Shared} (h:Heap) (t:Nat):SameS s { s with heap:=h,toks:=t }:=⟨h,t,rfl⟩
theorem SameS.tr {s s' s'':Shared} (x:SameS s s') (y:SameS s' s''):SameS s s'':=by
 obtain ⟨h,t,rfl⟩:=x
 exact y
theorem SameS.set {s s':Shared} {h:Heap} {t:Nat} (x:SameS s s'):SameS s { s' with heap:=h,toks:=t }:=x.tr (.mk h t)
theorem SameS.un {s s':Shared} {h:Heap} {t:Nat} (x:SameS { s with heap:=h,toks:=t } s'):SameS s s':=x
structure Ev (own:List Addr) (σ:Sto) (s:Shared) (σ':Sto) (s':Shared):Prop where
 same:SameS s s'
 grow:(fz s.heap own σ).le (fz s'.heap own σ')
 own:∀ a∈own,Kpt s.heap s'.heap a
theorem Ev.refl (own:List Addr) (σ:Sto) (s:Shared):Ev own σ s σ s:=⟨⟨s.heap,s.toks,rfl⟩,.refl _,fun _ _ _ h=>h⟩
theorem Ev.trans {own:List Addr} {σ σ' σ'':Sto} {s s' s'':Shared} (x:Ev own σ s σ' s') (y:Ev own σ' s' σ'' s''):Ev own σ s σ'' s'':=by
 exact ⟨x.same.tr y.same,x.grow.trans y.grow,fun a ha o h=>y.own a ha o (x.own a ha o h)⟩
theorem Inv.toks {w:World} {H₀:Heap} {N own:List Addr} {σ:Sto} {s:Shared} (x:Inv w H₀ N own σ s) (t:Nat):Inv w H₀ N own σ { s with toks:=t }:=⟨x.keep,x.objs,x.off,x.live,x.ns,x.nsub⟩
theorem Ev.toks (own:List Addr) (σ:Sto) (s:Shared) (t:Nat):Ev own σ s σ { s with toks:=t }:=⟨⟨s.heap,t,rfl⟩,.refl _,fun _ _ _ h=>h⟩
theorem keep_fz {h h':Heap} {own:List Addr} {σ:Sto} (hk:∀ b o,h.get? b=some o→h'.get? b=some o):(fz h own σ).le (fz h' own σ):=fun a o e=>by
 obtain ⟨e1,e2,e3⟩:=fz_eq.mp e
 exact fz_eq.mpr ⟨e1,e2,hk a o e3⟩
theorem Inv.keeps {w:World} {H₀:Heap} {N own:List Addr} {σ:Sto} {s:Shared} (x:Inv w H₀ N own σ s) {h':Heap} {t:Nat} (hk:∀ b o,s.heap.get? b=some o→h'.get? b=some o):Inv w H₀ N own σ { s with heap:=h',toks:=t } :=
 ⟨fun b o e=>keep_fz hk b o (x.keep b o e),fun a y e=>(x.objs a y e).mono (keep_fz hk) (fun o e=>hk a o e),x.off,fun a ha=>(x.live a ha).imp fun o e=>hk a o e,fun a ha=>(x.ns a ha).keep fun o e=>hk a o e,x.nsub⟩
theorem Ev.keeps {own:List Addr} {σ:Sto} {s:Shared} {h':Heap} {t:Nat} (hk:∀ b o,s.heap.get? b=some o→h'.get? b=some o):Ev own σ s σ { s with heap:=h',toks:=t } :=
 ⟨⟨h',t,rfl⟩,keep_fz hk,fun a _ _ e=>hg_keep (fun o e=>hk a o e) e⟩
theorem push_keeps (h:Heap) (o:Obj):∀ b ob,h.get? b=some ob→(h.push o).get? b=some ob:=fun _ _ e=>Heap.get?_push_of_some _ e
theorem Inv.fresh {w:World} {H₀:Heap} {N own:List Addr} {σ:Sto} {s:Shared} (x:Inv w H₀ N own σ s) {a:Addr} (ha:s.heap.objs.size≤a):σ a=Option.none∧a∉own:=by
 refine ⟨?_,fun hm=>?_⟩
 ·cases e:σ a with
  | none=>rfl
  | some y=>obtain ⟨o,ho⟩:=(x.objs a y e).live;exact absurd (Heap.lt_size ho) (Nat.not_lt.mpr ha)
 ·obtain ⟨o,ho⟩:=x.live a hm;exact absurd (Heap.lt_size ho) (Nat.not_lt.mpr ha)
theorem Inv.freshN {w:World} {H₀:Heap} {N own:List Addr} {σ:Sto} {s:Shared} (x:Inv w H₀ N own σ s) {a:Addr} (ha:s.heap.objs.size≤a):a∉N:=fun h=>by
 obtain ⟨o,_,_,ho,_⟩:=x.ns a h
 exact absurd (Heap.lt_size ho) (Nat.not_lt.mpr ha)
end Mine
end
section
namespace Mine
open PySem
noncomputable abbrev Rho:=List (Str×Option AV)
structure Gx where
 prog:Program
 w:World
 H₀:Heap
noncomputable abbrev Gx.M (g:Gx):Model:=model g.prog g.w
structure Cx (g:Gx) where
 A:Around
 env:Env
 own:List Addr
 hid:List Addr
 E:Value→Shared→Prop
 sc:Scope
 isFn:Bool
section
variable {g:Gx}
noncomputable abbrev Cx.F (c:Cx g) (σ:Sto) (s:Shared):Fz:=fz s.heap c.own σ
noncomputable def nsOf (A:Around):List Addr:=(A.frames.getD []).filterMap (·.frame)
noncomputable abbrev Cx.Inv (c:Cx g) (σ:Sto) (s:Shared):Prop:=Mine.Inv g.w g.H₀ (nsOf c.A) c.own σ s
noncomputable abbrev Cx.Ev (c:Cx g) (σ:Sto) (s:Shared) (σ':Sto) (s':Shared):Prop:=Mine.Ev c.own σ s σ' s'
end
variable {g:Gx}
structure Frame (c:Cx g) (ns:List Str):Prop where
 sc:c.env.scope=c.sc
 wr:c.isFn=true→∀ x a,c.env.cells.lookup x=some a→a∉c.hid
 kind:c.env.scope.kind = .function
 glob:c.env.globals=mainGlobals
 blt:c.env.builtins=builtinsNs
 loc:c.env.locals∈c.own
 loc':c.env.locals∉c.hid
 sub:∀ a∈c.hid,a∈c.own
 cells:∀ x a,c.env.cells.lookup x=some a→a∈c.own∧a≠c.env.locals
 apart:c.isFn=true→c.env.cells.Pairwise fun x y=>x.2≠y.2
 kinds:∀ x∈ns,(x==("__debug__":Str))=false∧(c.sc.names.lookup x=some .local∨(c.sc.names.lookup x=some .cell∧∃ a,c.env.cells.lookup x=some a))
 nodup:ns.Nodup
structure St (c:Cx g) (ρ:Rho) (σ:Sto) (s:Shared):Prop where
 inv:c.Inv σ s
 fr:Frame c (ρ.map (·.1))
 ns:∃ m,s.heap.Ns c.env.locals m∧∀ x v,(x,some v)∈ρ→c.sc.names.lookup x=some .local→∃ u,m x=some u∧Rep g.w (c.F σ s) u v
 cl:∀ x a,c.sc.names.lookup x=some .cell→c.env.cells.lookup x=some a→∃ vo,s.heap.IsCell a vo∧∀ v,(x,some v)∈ρ→∃ u,vo=some u∧Rep g.w (c.F σ s) u v
theorem Frame.kindOf {c:Cx g} {ns:List Str} (f:Frame c ns) (x:Str):c.env.kindOf x=c.sc.names.lookup x:=by unfold Env.kindOf;rw [f.sc]
theorem St.ev {c:Cx g} {ρ:Rho} {σ σ':Sto} {s s':Shared} (x:St c ρ σ s) (i:c.Inv σ' s') (e:c.Ev σ s σ' s'):St c ρ σ' s':=by
 refine ⟨i,x.fr,?_,?_⟩
 ·obtain ⟨m,hn,hm⟩:=x.ns
  refine ⟨m,(e.own _ x.fr.loc).ns hn,fun y v hy hk=>?_⟩
  obtain ⟨u,h1,h2⟩:=hm y v hy hk
  exact ⟨u,h1,h2.mono e.grow⟩
 ·intro y a hk hl
  obtain ⟨vo,hcl,hv⟩:=x.cl y a hk hl
  refine ⟨vo,(e.own _ (x.fr.cells y a hl).1).cell hcl,fun v hy=>?_⟩
  obtain ⟨u,h1,h2⟩:=hv v hy
  exact ⟨u,h1,h2.mono e.grow⟩
inductive PgP {α β:Type} (c:Cx g) (R:Fz→α→β→Prop) (σ:Sto) (s:Shared) (Q:β→Sto→Prop) (v:α) (s':Shared):Prop
 | mk (x:β) (σ':Sto) (i:c.Inv σ' s') (e:c.Ev σ s σ' s') (r:R (c.F σ' s') v x) (q:Q x σ'):PgP c R σ s Q v s'
noncomputable def pg {α β:Type} (c:Cx g) (R:Fz→α→β→Prop) (σ:Sto) (s:Shared) (t:Sem α) (Q:β→Sto→Prop):Prop :=
 wpAny g.M c.A t (PgP c R σ s Q) c.E s
noncomputable abbrev pv (c:Cx g) (σ:Sto) (s:Shared) (t:Sem Value) (Q:AV→Sto→Prop):Prop:=pg c (Rep g.w) σ s t Q
noncomputable abbrev pb (c:Cx g) (σ:Sto) (s:Shared) (t:Sem Bool) (Q:Bool→Sto→Prop):Prop:=pg c (fun _ a b=>a=b) σ s t Q
noncomputable abbrev pu (c:Cx g) (σ:Sto) (s:Shared) (t:Sem Unit) (Q:Sto→Prop):Prop:=pg c (fun _ _ (_:Unit)=>True) σ s t (fun _ σ'=>Q σ')
noncomputable def op2 (c:Cx g) (f:Value→Value→Sem Value) (x y:AV) (σ:Sto) (Q:AV→Sto→Prop):Prop:=∀ s a b,c.Inv σ s→Rep g.w (c.F σ s) a x→Rep g.w (c.F σ s) b y→pv c σ s (f a b) Q
noncomputable def opb (c:Cx g) (f:Value→Sem Bool) (x:AV) (σ:Sto) (Q:Bool→Sto→Prop):Prop:=∀ s a,c.Inv σ s→Rep g.w (c.F σ s) a x→pb c σ s (f a) Q
noncomputable def op3u (c:Cx g) (f:Value→Value→Value→Sem Unit) (x y z:AV) (σ:Sto) (Q:Sto→Prop):Prop :=
 ∀ s a b d,c.Inv σ s→Rep g.w (c.F σ s) a x→Rep g.w (c.F σ s) b y→Rep g.w (c.F σ s) d z→pu c σ s (f a b d) Q
noncomputable def cal (c:Cx g) (f:Value) (xs:List AV) (σ:Sto) (Q:AV→Sto→Prop):Prop:=∀ s vs,c.Inv σ s→RepL g.w (c.F σ s) vs xs→pv c σ s (call f vs []) Q
noncomputable def gv {α β:Type} (c:Cx g) (ρ:Rho) (R:Fz→α→β→Prop) (t:Sem α) (σ:Sto) (Q:β→Sto→Prop):Prop:=∀ s,St c ρ σ s→pg c R σ s t Q
noncomputable abbrev ev (c:Cx g) (ρ:Rho) (e:Expr) (σ:Sto) (Q:AV→Sto→Prop):Prop:=gv c ρ (Rep g.w) (eval e c.env) σ Q
noncomputable abbrev evb (c:Cx g) (ρ:Rho) (e:Expr) (σ:Sto) (Q:Bool→Sto→Prop):Prop:=gv c ρ (fun _ a b=>a=b) (isTrue e c.env (eval e c.env)) σ Q
noncomputable def evl (c:Cx g) (ρ:Rho):List Expr→Sto→(List AV→Sto→Prop)→Prop
 | [],σ,Q=>Q [] σ
 | e::r,σ,Q=>ev c ρ e σ fun x σ₁=>evl c ρ r σ₁ fun l σ₂=>Q (x::l) σ₂
inductive AFl where
 | next | brk | cont
 | ret (x:AV)
inductive RepF (w:World) (F:Fz):Flow→AFl→Prop
 | next:RepF w F .next .next
 | brk:RepF w F .brk .brk
 | cont:RepF w F .cont .cont
 | ret {v:Value} {x:AV}:Rep w F v x→RepF w F (.ret v) (.ret x)
structure EvS (c:Cx g) (σ:Sto) (s:Shared) (σ':Sto) (s':Shared):Prop where
 same:SameS s s'
 grow:(c.F σ s).le (c.F σ' s')
 hid:∀ a∈c.hid,Kpt s.heap s'.heap a
theorem EvS.refl (c:Cx g) (σ:Sto) (s:Shared):EvS c σ s σ s:=⟨⟨s.heap,s.toks,rfl⟩,.refl _,fun _ _ _ h=>h⟩
theorem EvS.trans {c:Cx g} {σ σ' σ'':Sto} {s s' s'':Shared} (x:EvS c σ s σ' s') (y:EvS c σ' s' σ'' s''):EvS c σ s σ'' s'':=by
 exact ⟨x.same.tr y.same,x.grow.trans y.grow,fun a ha o h=>y.hid a ha o (x.hid a ha o h)⟩
theorem Ev.toS {c:Cx g} {σ σ':Sto} {s s':Shared} (x:c.Ev σ s σ' s') (hs:∀ a∈c.hid,a∈c.own):EvS c σ s σ' s':=⟨x.same,x.grow,fun a ha=>x.own a (hs a ha)⟩
inductive EsP (c:Cx g) (σ:Sto) (s:Shared) (Q:AFl→Rho→Sto→Prop) (f:Flow) (s':Shared):Prop
 | mk (fl:AFl) (ρ':Rho) (σ':Sto) (st:St c ρ' σ' s') (e:EvS c σ s σ' s') (r:RepF g.w (c.F σ' s') f fl) (q:Q fl ρ' σ'):EsP c σ s Q f s'
noncomputable def es (c:Cx g) (ρ:Rho) (t:Sem Flow) (σ:Sto) (Q:AFl→Rho→Sto→Prop):Prop :=
 ∀ s,St c ρ σ s→wpAny g.M c.A t (EsP c σ s Q) c.E s
section
variable {c:Cx g} {ρ:Rho} {σ:Sto}
theorem pg.use {α β:Type} {R:Fz→α→β→Prop} {s:Shared} {t:Sem α} {Q:β→Sto→Prop} {P:α→Shared→Prop} (h:pg c R σ s t Q) (k:∀ v s₁ x σ₁,c.Inv σ₁ s₁→c.Ev σ s σ₁ s₁→R (c.F σ₁ s₁) v x→Q x σ₁→P v s₁):wpAny g.M c.A t P c.E s :=
 wpAny_mono h (fun v s₁ H=>H.rec (k v s₁)) fun _ _ e=>e
theorem es.use {s:Shared} {t:Sem Flow} {Q:AFl→Rho→Sto→Prop} {P:Flow→Shared→Prop} (h:wpAny g.M c.A t (EsP c σ s Q) c.E s) (k:∀ f s₁ fl ρ₁ σ₁,St c ρ₁ σ₁ s₁→EvS c σ s σ₁ s₁→RepF g.w (c.F σ₁ s₁) f fl→Q fl ρ₁ σ₁→P f s₁):wpAny g.M c.A t P c.E s :=
 wpAny_mono h (fun f s₁ H=>H.rec (k f s₁)) fun _ _ e=>e
theorem pg.mono {α β:Type} {R:Fz→α→β→Prop} {s:Shared} {t:Sem α} {Q Q':β→Sto→Prop} (h:pg c R σ s t Q) (hq:∀ x σ',Q x σ'→Q' x σ'):pg c R σ s t Q' :=
 pg.use h (fun _ _ x σ' i e r q=>⟨x,σ',i,e,r,hq x σ' q⟩)
theorem gv.mono {α β:Type} {R:Fz→α→β→Prop} {t:Sem α} {Q Q':β→Sto→Prop} (h:gv c ρ R t σ Q) (hq:∀ x σ',Q x σ'→Q' x σ'):gv c ρ R t σ Q':=fun s hs=>(h s hs).mono hq
theorem es.mono {t:Sem Flow} {Q Q':AFl→Rho→Sto→Prop} (h:es c ρ t σ Q) (hq:∀ x ρ' σ',Q x ρ' σ'→Q' x ρ' σ'):es c ρ t σ Q' :=
 fun s hs=>es.use (h s hs) (fun _ _ x ρ' σ' i e r q=>⟨x,ρ',σ',i,e,r,hq x ρ' σ' q⟩)
theorem pg.pure {α β:Type} {R:Fz→α→β→Prop} {s:Shared} {v:α} {x:β} {Q:β→Sto→Prop} (i:c.Inv σ s) (r:R (c.F σ s) v x) (q:Q x σ):pg c R σ s (pure v) Q :=
 wpAny_pure ⟨x,σ,i,.refl ..,r,q⟩
theorem pg.bind {α α' β β':Type} {R:Fz→α→β→Prop} {R':Fz→α'→β'→Prop} {s:Shared} {t:Sem α} {f:α→Sem α'} {Q:β'→Sto→Prop}
  (h:pg c R σ s t (fun x σ₁=>∀ s₁ v,c.Inv σ₁ s₁→c.Ev σ s σ₁ s₁→R (c.F σ₁ s₁) v x→pg c R' σ₁ s₁ (f v) Q)):pg c R' σ s (t >>= f) Q:=by
 refine wpAny_bind (pg.use h (fun v s₁ x σ₁ i e r q=>?_))
 exact pg.use (q s₁ v i e r) (fun _ _ y σ₂ i₂ e₂ r₂ q₂=>⟨y,σ₂,i₂,e.trans e₂,r₂,q₂⟩)
theorem pg.of {α β:Type} {R:Fz→α→β→Prop} {s:Shared} {t:Sem α} {Q:β→Sto→Prop} {P:α→Shared→Prop} (h:wpAny g.M c.A t P c.E s)
  (hp:∀ v s',P v s'→PgP c R σ s Q v s'):pg c R σ s t Q:=wpAny_mono h hp fun _ _ e=>e
theorem ev_none {k pos} {Q:AV→Sto→Prop} (q:Q .none σ):ev c ρ (.Constant .none k pos) σ Q:=fun s hs=>wpAny_Constant_none ⟨_,σ,hs.inv,.refl ..,.none,q⟩
theorem ev_bool {b k pos} {Q:AV→Sto→Prop} (q:Q (.bool b) σ):ev c ρ (.Constant (.bool b) k pos) σ Q:=fun s hs=>wpAny_Constant_bool ⟨_,σ,hs.inv,.refl ..,.bool b,q⟩
theorem ev_int {i k pos} {Q:AV→Sto→Prop} (q:Q (.int i) σ):ev c ρ (.Constant (.int i) k pos) σ Q:=fun s hs=>wpAny_Constant_int ⟨_,σ,hs.inv.toks _,.toks ..,.int i _,q⟩
theorem ev_str {x k pos} {Q:AV→Sto→Prop} (q:Q (.str x) σ):ev c ρ (.Constant (.str x) k pos) σ Q:=fun s hs=>wpAny_Constant_str ⟨_,σ,hs.inv.toks _,.toks ..,.str x _,q⟩
theorem ev_name {x pos v} {Q:AV→Sto→Prop} (hx:(x,some v)∈ρ) (q:Q v σ):ev c ρ (.Name x pos) σ Q:=fun s hs=>by
 have hm:x∈ρ.map (·.1):=List.mem_map.mpr ⟨_,hx,rfl⟩
 obtain ⟨hd,hk⟩:=hs.fr.kinds x hm
 rcases hk with hk | ⟨hk,a,ha⟩
 ·obtain ⟨m,hn,hm⟩:=hs.ns
  obtain ⟨u,h1,h2⟩:=hm x v hx hk
  exact wpAny_Name (wpAny_loadName_local hs.fr.kind ((hs.fr.kindOf x).trans hk) hn h1 ⟨v,σ,hs.inv,.refl ..,h2,q⟩) hd
 ·obtain ⟨vo,hc,hv⟩:=hs.cl x a hk ha
  obtain ⟨u,rfl,h2⟩:=hv v hx
  exact wpAny_Name (wpAny_loadName_cell hs.fr.kind ((hs.fr.kindOf x).trans hk) ha hc ⟨v,σ,hs.inv,.refl ..,h2,q⟩) hd
noncomputable def Glob (H₀:Heap) (x:Str) (v:Value):Prop :=
 (x==("__debug__":Str))=false∧∃ mg mb,H₀.Ns mainGlobals mg∧H₀.Ns builtinsNs mb∧(mg x=some v∨mg x=Option.none∧mb x=some v)
theorem ev_glob {x pos v} {Q:AV→Sto→Prop} (hg:Glob g.H₀ x v) (hx:c.sc.names.lookup x=some .globalImplicit) (q:Q (.raw v) σ):ev c ρ (.Name x pos) σ Q:=fun s hs=>by
 obtain ⟨hd,mg,mb,h1,h2,h3⟩:=hg
 have hk:∀ b o,g.H₀.get? b=some o→s.heap.get? b=some o:=fun b o e=>(fz_eq.mp (hs.inv.keep b o e)).2.2
 have k1:=h1.keeps hk
 have k2:=h2.keeps hk
 rw [← hs.fr.glob] at k1
 rw [← hs.fr.blt] at k2
 refine Calls.Name_function_global hs.fr.kind ((hs.fr.kindOf x).trans hx) ?_ hd
 rcases h3 with h3 | ⟨h3,h4⟩
 ·exact Calls.loadGlobal_global k1 h3 ⟨_,σ,hs.inv,.refl ..,.raw v,q⟩
 ·exact Calls.loadGlobal_builtin k1 h3 k2 h4 ⟨_,σ,hs.inv,.refl ..,.raw v,q⟩
theorem ev_BinOp {l op r pos} {Q:AV→Sto→Prop} (h:ev c ρ l σ fun x σ₁=>ev c ρ r σ₁ fun y σ₂=>op2 c (binaryOp op) x y σ₂ Q):ev c ρ (.BinOp l op r pos) σ Q:=fun s hs=>by
 refine wpAny_BinOp (pg.use (h s hs) (fun a s₁ x σ₁ i₁ e₁ r₁ q₁=>?_))
 refine pg.use (q₁ s₁ (hs.ev i₁ e₁)) (fun b s₂ y σ₂ i₂ e₂ r₂ q₂=>?_)
 exact pg.use (q₂ s₂ a b i₂ (r₁.mono e₂.grow) r₂) (fun v s₃ z σ₃ i₃ e₃ r₃ q₃=>⟨z,σ₃,i₃,(e₁.trans e₂).trans e₃,r₃,q₃⟩)
theorem ev_Cmp {l op r pos} {Q:AV→Sto→Prop} (h:ev c ρ l σ fun x σ₁=>ev c ρ r σ₁ fun y σ₂=>op2 c (compareOp op) x y σ₂ Q) (hm:behindInMarks op r=false:=by with_unfolding_all rfl):ev c ρ (.Compare l [op] [r] pos) σ Q:=fun s hs=>by
 refine wpAny_Compare1 (pg.use (h s hs) (fun a s₁ x σ₁ i₁ e₁ r₁ q₁=>?_)) hm
 refine pg.use (q₁ s₁ (hs.ev i₁ e₁)) (fun b s₂ y σ₂ i₂ e₂ r₂ q₂=>?_)
 exact pg.use (q₂ s₂ a b i₂ (r₁.mono e₂.grow) r₂) (fun v s₃ z σ₃ i₃ e₃ r₃ q₃=>⟨z,σ₃,i₃,(e₁.trans e₂).trans e₃,r₃,q₃⟩)
theorem evb_Cmp {l op r pos} {Q:Bool→Sto→Prop} (h:ev c ρ l σ fun x σ₁=>ev c ρ r σ₁ fun y σ₂=>op2 c (compareOp op) x y σ₂ fun z σ₃=>opb c truthy z σ₃ Q) (hm:behindInMarks op r=false:=by with_unfolding_all rfl):evb c ρ (.Compare l [op] [r] pos) σ Q:=fun s hs=>by
 refine wpAny_isTrue_Compare1 (pg.use (h s hs) (fun a s₁ x σ₁ i₁ e₁ r₁ q₁=>?_)) hm
 refine pg.use (q₁ s₁ (hs.ev i₁ e₁)) (fun b s₂ y σ₂ i₂ e₂ r₂ q₂=>?_)
 refine pg.use (q₂ s₂ a b i₂ (r₁.mono e₂.grow) r₂) (fun v s₃ z σ₃ i₃ e₃ r₃ q₃=>?_)
 exact pg.use (q₃ s₃ v i₃ r₃) (fun v s₄ z σ₄ i₄ e₄ r₄ q₄=>⟨z,σ₄,i₄,((e₁.trans e₂).trans e₃).trans e₄,r₄,q₄⟩)
theorem opb_bool {b:Bool} {Q:Bool→Sto→Prop} (q:Q b σ):opb c truthy (.bool b) σ Q:=fun s a i r=>by
 obtain rfl:=r.invBool;exact wpAny_truthy_bool ⟨b,σ,i,.refl ..,rfl,q⟩
theorem evb_value {e:Expr} {Q:Bool→Sto→Prop} (h:ev c ρ e σ fun x σ₁=>opb c truthy x σ₁ Q)
  (he:isTrue e c.env (eval e c.env)=(do let v ← eval e c.env;standAt e.pos;holding [v] (truthy v)):=by rfl):evb c ρ e σ Q:=fun s hs=>by
 refine wpAny_isTrue_value (pg.use (h s hs) (fun a s₁ x σ₁ i₁ e₁ r₁ q₁=>?_)) he
 exact pg.use (q₁ s₁ a i₁ r₁) (fun v s₄ z σ₄ i₄ e₄ r₄ q₄=>⟨z,σ₄,i₄,e₁.trans e₄,r₄,q₄⟩)
theorem evb_not {x:Expr} {pos:Pos} {Q:Bool→Sto→Prop} (h:evb c ρ x σ fun b σ₁=>Q (!b) σ₁):evb c ρ (.UnaryOp .Not x pos) σ Q:=fun s hs =>
 wpAny_isTrue_Not (pg.use (h s hs) (fun a s₁ x σ₁ i₁ e₁ r₁ q₁=>⟨!a,σ₁,i₁,e₁,rfl,r₁ ▸ q₁⟩))
theorem ev_not {x:Expr} {pos:Pos} {Q:AV→Sto→Prop} (h:ev c ρ x σ fun y σ₁=>opb c truthy y σ₁ fun b σ₂=>Q (.bool (!b)) σ₂):ev c ρ (.UnaryOp .Not x pos) σ Q:=fun s hs=>by
 refine wpAny_UnaryOp (pg.use (h s hs) (fun a s₁ x σ₁ i₁ e₁ r₁ q₁=>?_))
 exact not_value (pg.use (q₁ s₁ a i₁ r₁) (fun v s₄ z σ₄ i₄ e₄ r₄ q₄=>⟨_,σ₄,i₄,e₁.trans e₄,r₄ ▸ .bool _,q₄⟩))
noncomputable def evAll (c:Cx g) (ρ:Rho) (op:BoolOp):List Expr→Sto→(Bool→Sto→Prop)→Prop
 | [],σ,Q=>Q (op == .And) σ
 | e::r,σ,Q=>evb c ρ e σ fun b σ₁=>match op,b with
  | .And,false=>Q false σ₁
  | .Or,true=>Q true σ₁
  | _,_=>evAll c ρ op r σ₁ Q
theorem evAll_sound {op:BoolOp} {l:List Expr} {Q:Bool→Sto→Prop}:∀ {σ:Sto},evAll c ρ op l σ Q→gv c ρ (fun _ a b=>a=b) (allTrue op l c.env) σ Q:=by
 induction l with
 | nil =>
  intro σ h s hs
  cases op
  ·exact wpAny_allTrue_And_nil ⟨_,σ,hs.inv,.refl ..,rfl,h⟩
  ·exact wpAny_allTrue_Or_nil ⟨_,σ,hs.inv,.refl ..,rfl,h⟩
 | cons e r ih =>
  intro σ h s hs
  have go:∀ {s₁:Shared} {σ₁:Sto},c.Inv σ₁ s₁→c.Ev σ s σ₁ s₁→evAll c ρ op r σ₁ Q→wpAny g.M c.A (allTrue op r c.env) (PgP c (fun _ a b=>a=b) σ s Q) c.E s₁:=fun {s₁ σ₁} i₁ e₁ q =>
   pg.use (ih q s₁ (hs.ev i₁ e₁)) (fun v s₄ z σ₄ i₄ e₄ r₄ q₄=>⟨z,σ₄,i₄,e₁.trans e₄,r₄,q₄⟩)
  cases op
  ·refine wpAny_allTrue_And_cons (pg.use (h s hs) (fun b s₁ x σ₁ i₁ e₁ r₁ q₁=>?_))
   subst r₁
   cases b
   ·exact ⟨_,σ₁,i₁,e₁,rfl,q₁⟩
   ·exact go i₁ e₁ q₁
  ·refine wpAny_allTrue_Or_cons (pg.use (h s hs) (fun b s₁ x σ₁ i₁ e₁ r₁ q₁=>?_))
   subst r₁
   cases b
   ·exact go i₁ e₁ q₁
   ·exact ⟨_,σ₁,i₁,e₁,rfl,q₁⟩
theorem evb_bool {op:BoolOp} {values:List Expr} {pos:Pos} {Q:Bool→Sto→Prop} (h:evAll c ρ op values σ Q):evb c ρ (.BoolOp op values pos) σ Q:=fun s hs=>wpAny_isTrue_BoolOp (evAll_sound h s hs)
noncomputable def evVal (c:Cx g) (ρ:Rho) (op:BoolOp):List Expr→Sto→(AV→Sto→Prop)→Prop
 | [],_,_=>False
 | [e],σ,Q=>ev c ρ e σ Q
 | e::e'::r,σ,Q=>ev c ρ e σ fun x σ₁=>opb c truthy x σ₁ fun b σ₂=>match op,b with
  | .And,false=>Q x σ₂
  | .Or,true=>Q x σ₂
  | _,_=>evVal c ρ op (e'::r) σ₂ Q
theorem evVal_sound {op:BoolOp} {pos:Pos} {l:List Expr} {Q:AV→Sto→Prop}:∀ {σ:Sto},evVal c ρ op l σ Q→gv c ρ (Rep g.w) (boolOp pos op (evalEach l c.env)) σ Q:=by
 induction l with
 | nil=>exact fun h=>h.elim
 | cons e l ih =>
  intro σ h
  cases l with
  | nil=>exact h
  | cons e' r =>
  intro s hs
  show wpAny _ _ (do
   let v ← eval e c.env
   standAt pos
   let t ← holding [v] (truthy v)
   match op,t with
   | .And,false | .Or,true=>pure v
   | _,_=>boolOp pos op (evalEach (e'::r) c.env)) _ _ s
  refine wpAny_bind (pg.use (h s hs) (fun a s₁ x σ₁ i₁ e₁ r₁ q₁=>?_))
  refine wpAny_bind (wpAny_standAt (wpAny_bind (wpAny_holding (pg.use (q₁ s₁ a i₁ r₁) (fun b s₂ y σ₂ i₂ e₂ r₂ q₂=>?_)))))
  subst r₂
  have go:evVal c ρ op (e'::r) σ₂ Q→wpAny g.M c.A (boolOp pos op (evalEach (e'::r) c.env)) (PgP c (Rep g.w) σ s Q) c.E s₂:=fun q =>
   pg.use (ih q s₂ (hs.ev i₂ (e₁.trans e₂))) (fun v s₄ z σ₄ i₄ e₄ r₄ q₄=>⟨z,σ₄,i₄,(e₁.trans e₂).trans e₄,r₄,q₄⟩)
  cases op <;> cases b <;> first | exact go q₂ | exact wpAny_pure ⟨x,σ₂,i₂,e₁.trans e₂,r₁.mono e₂.grow,q₂⟩
theorem ev_boolop {op:BoolOp} {values:List Expr} {pos:Pos} {Q:AV→Sto→Prop} (h:evVal c ρ op values σ Q):ev c ρ (.BoolOp op values pos) σ Q:=fun s hs=>evVal_sound (pos:=pos) h s hs
theorem es_nil {Q:AFl→Rho→Sto→Prop} (q:Q .next ρ σ):es c ρ (execs [] c.env) σ Q:=fun s hs=>wpAny_execs_nil ⟨_,ρ,σ,hs,.refl ..,.next,q⟩
theorem es_cons {st rest} {Q:AFl→Rho→Sto→Prop} (h:es c ρ (exec st c.env) σ fun g ρ' σ'=>match g with | .next=>es c ρ' (execs rest c.env) σ' Q | g=>Q g ρ' σ'):es c ρ (execs (st::rest) c.env) σ Q:=fun s hs=>by
 refine wpAny_execs_cons (es.use (h s hs) (fun f s₁ g ρ₁ σ₁ i₁ e₁ r₁ q₁=>?_))
 cases r₁ with
 | next=>exact es.use (q₁ s₁ i₁) (fun f s₂ g ρ₂ σ₂ i₂ e₂ r₂ q₂=>⟨g,ρ₂,σ₂,i₂,e₁.trans e₂,r₂,q₂⟩)
 | brk=>exact ⟨_,ρ₁,σ₁,i₁,e₁,.brk,q₁⟩
 | cont=>exact ⟨_,ρ₁,σ₁,i₁,e₁,.cont,q₁⟩
 | ret h=>exact ⟨_,ρ₁,σ₁,i₁,e₁,.ret h,q₁⟩
theorem es_return {e pos} {Q:AFl→Rho→Sto→Prop} (h:ev c ρ e σ fun x σ'=>Q (.ret x) ρ σ'):es c ρ (exec (.Return (some e) pos) c.env) σ Q:=fun s hs =>
 wpAny_Return_some (pg.use (h s hs) (fun v s₁ x σ₁ i₁ e₁ r₁ q₁=>⟨_,ρ,σ₁,hs.ev i₁ e₁,e₁.toS hs.fr.sub,.ret r₁,q₁⟩))
theorem es_if {test body orelse pos} {Q:AFl→Rho→Sto→Prop} (h:evb c ρ test σ fun b σ'=>match b with | true=>es c ρ (execs body c.env) σ' Q | false=>es c ρ (execs orelse c.env) σ' Q) :
  es c ρ (exec (.If test body orelse pos) c.env) σ Q:=fun s hs=>by
 refine wpAny_If (pg.use (h s hs) (fun b s₁ x σ₁ i₁ e₁ r₁ q₁=>?_))
 subst r₁
 have go:∀ {l:List Stmt},es c ρ (execs l c.env) σ₁ Q→wpAny g.M c.A (execs l c.env) (EsP c σ s Q) c.E s₁:=fun q =>
  es.use (q s₁ (hs.ev i₁ e₁)) (fun f s₂ g ρ₂ σ₂ i₂ e₂ r₂ q₂=>⟨g,ρ₂,σ₂,i₂,(e₁.toS hs.fr.sub).trans e₂,r₂,q₂⟩)
 cases b
 ·exact go q₁
 ·exact go q₁
inductive Upd (x:Str) (v:AV):Rho→Rho→Prop
 | head {o:Option AV} {r:Rho}:Upd x v ((x,o)::r) ((x,some v)::r)
 | tail {p:Str×Option AV} {r r':Rho}:Upd x v r r'→Upd x v (p::r) (p::r')
theorem Upd.names {x:Str} {v:AV} {r r':Rho} (u:Upd x v r r'):r'.map (·.1)=r.map (·.1):=by
 induction u with
 | head=>rfl
 | tail _ ih=>simp [ih]
theorem Upd.mem {x:Str} {v:AV} {r r':Rho} (u:Upd x v r r'):x∈r.map (·.1):=by
 induction u with
 | head=>simp
 | tail _ ih=>exact List.mem_cons_of_mem _ ih
theorem Upd.get {x:Str} {v:AV} {r r':Rho} (u:Upd x v r r') (nd:(r.map (·.1)).Nodup):∀ y z,(y,some z)∈r'→(y=x∧z=v)∨(y≠x∧(y,some z)∈r):=by
 induction u with
 | @head o r =>
  intro y z h
  rw [List.map_cons,List.nodup_cons] at nd
  rcases List.mem_cons.mp h with h | h
  ·injection h with h1 h2;injection h2 with h2;exact .inl ⟨h1,h2⟩
  ·refine .inr ⟨?_,List.mem_cons_of_mem _ h⟩
   intro e
   exact nd.1 (e ▸ List.mem_map.mpr ⟨_,h,rfl⟩)
 | @tail p r r' u ih =>
  intro y z h
  rw [List.map_cons,List.nodup_cons] at nd
  rcases List.mem_cons.mp h with h | h
  ·subst h
   refine .inr ⟨?_,List.mem_cons_self⟩
   rintro rfl
   exact nd.1 u.mem
  ·rcases ih nd.2 y z h with h | ⟨h1,h2⟩
   ·exact .inl h
   ·exact .inr ⟨h1,List.mem_cons_of_mem _ h2⟩
theorem IsCell.not_dat {h:Heap} {a:Addr} {v:Option Value} (hc:h.IsCell a v):¬ DAt h a:=fun ⟨o,es,n,e,hd⟩=>by
 obtain ⟨p,hp,hpd⟩:=hc
 rw [hp] at e;injection e with e;subst e;rw [hpd] at hd;cases hd
theorem fz_sameBut {h h':Heap} {own:List Addr} {σ:Sto} {a:Addr} (ha:a∈own) (hs:Heap.SameBut a h h'):fz h' own σ=fz h own σ:=by
 funext b
 unfold fz
 by_cases hb:b=a
 ·subst hb;simp [ha]
 ·rw [hs.2 b hb]
theorem ns_same {N:List Addr} {a:Addr} {h h':Heap} (x:∀ b∈N,DAt h b) (hk:∀ b o,b≠a→h.get? b=some o→h'.get? b=some o) (hd:a∈N→DAt h' a):∀ b∈N,DAt h' b:=fun b hb=>by
 by_cases hne:b=a
 ·exact hne ▸ hd (hne ▸ hb)
 ·exact (x b hb).keep fun o e=>hk b o hne e
theorem Inv.sameBut {w:World} {H₀:Heap} {N own:List Addr} {σ:Sto} {s:Shared} (x:Inv w H₀ N own σ s) {a:Addr} (ha:a∈own) {h':Heap} {t:Nat} (hs:Heap.SameBut a s.heap h') (hl:∃ o,h'.get? a=some o) (hd:a∈N→DAt h' a) :
  Inv w H₀ N own σ { s with heap:=h',toks:=t }:=by
 have e:fz h' own σ=fz s.heap own σ:=fz_sameBut ha hs
 refine ⟨fun b o hb=>?_,fun b y hb=>?_,x.off,fun b hb=>?_,ns_same x.ns (fun b o hne e=>(hs.2 b hne).trans e) hd,x.nsub⟩
 ·show fz h' own σ b=_;rw [e];exact x.keep b o hb
 ·show ObjRep w (fz h' own σ) h' b y
  rw [e]
  have hne:b≠a:=by rintro rfl;rw [x.off b ha] at hb;cases hb
  exact (x.objs b y hb).mono (.refl _) fun o ho=>(hs.2 b hne).trans ho
 ·by_cases hne:b=a
  ·subst hne;exact hl
  ·obtain ⟨o,ho⟩:=x.live b hb;exact ⟨o,(hs.2 b hne).trans ho⟩
theorem store_sound {x:Str} {v:Value} {y:AV} {ρ':Rho} {s:Shared} (hs:St c ρ σ s) (hu:Upd x y ρ ρ') (hc:c.isFn=true)
  (hv:Rep g.w (c.F σ s) v y) {Q:Unit→Shared→Prop} {E:Value→Shared→Prop} (q:∀ s',St c ρ' σ s'→EvS c σ s σ s'→Q () s'):wpAny g.M c.A (storeName c.env x v) Q E s:=by
 have hget:=hu.get hs.fr.nodup
 have fr':Frame c (ρ'.map (·.1)):=by rw [hu.names];exact hs.fr
 rcases (hs.fr.kinds x hu.mem).2 with hk | ⟨hk,a,ha⟩
 ·obtain ⟨m,hn,hm⟩:=hs.ns
  have hp:(c.env.scope.kind == .class || (c.env.scope.kind == .module && c.env.locals != c.env.globals))=false:=by rw [hs.fr.kind];rfl
  refine wpAny_storeName_local ((hs.fr.kindOf x).trans hk) hn (fun h' hn' hs'=>?_) hp
  have hF:fz h' c.own σ=fz s.heap c.own σ:=fz_sameBut hs.fr.loc hs'
  refine q _ ⟨hs.inv.sameBut hs.fr.loc hs' (by obtain ⟨o,_,_,ho,_⟩:=hn';exact ⟨o,ho⟩) (fun _ => .of_ns hn'),fr',⟨_,hn',fun z u hz hkz=>?_⟩,fun z b hkz hbz=>?_⟩
   ⟨⟨_,_,rfl⟩,by show (fz s.heap c.own σ).le (fz h' c.own σ);rw [hF];exact .refl _,fun b hb => .same hs' (fun q=>hs.fr.loc' (q ▸ hb))⟩
  ·show ∃ u',_∧Rep g.w (fz h' c.own σ) u' u
   rw [hF]
   rcases hget z u hz with ⟨e1,e2⟩ | ⟨hne,hz'⟩
   ·exact ⟨v,if_pos e1,e2 ▸ hv⟩
   ·obtain ⟨u',h1,h2⟩:=hm z u hz' hkz
    exact ⟨u',by rw [if_neg hne];exact h1,h2⟩
  ·obtain ⟨vo,h1,h2⟩:=hs.cl z b hkz hbz
   refine ⟨vo,h1.sameBut hs' (hs.fr.cells z b hbz).2,fun u hz=>?_⟩
   show ∃ u',_∧Rep g.w (fz h' c.own σ) u' u
   rw [hF]
   rcases hget z u hz with ⟨e1,_⟩ | ⟨hne,hz'⟩
   ·rw [e1,hk] at hkz;cases hkz
   ·exact h2 u hz'
 ·obtain ⟨vo,hc0,hvo⟩:=hs.cl x a hk ha
  refine wpAny_storeName_cell hs.fr.kind ((hs.fr.kindOf x).trans hk) ha hc0 fun h' hc' hs'=>?_
  have hao:=hs.fr.cells x a ha
  have hF:fz h' c.own σ=fz s.heap c.own σ:=fz_sameBut hao.1 hs'
  have e0:({ s with heap:=h' }:Shared)={ s with heap:=h',toks:=s.toks }:=rfl
  refine q _ ⟨by rw [e0];exact hs.inv.sameBut hao.1 hs' (by obtain ⟨o,ho,_⟩:=hc';exact ⟨o,ho⟩) (fun hN=>absurd (hs.inv.ns a hN) (IsCell.not_dat hc0)),fr',?_,fun z b hkz hbz=>?_⟩
   ⟨⟨h',s.toks,rfl⟩,by show (fz s.heap c.own σ).le (fz h' c.own σ);rw [hF];exact .refl _,fun b hb => .same hs' (fun q=>hs.fr.wr hc _ _ ha (q ▸ hb))⟩
  ·obtain ⟨m,hn,hm⟩:=hs.ns
   refine ⟨m,hn.sameBut hs' (Ne.symm hao.2),fun z u hz hkz=>?_⟩
   show ∃ u',_∧Rep g.w (fz h' c.own σ) u' u
   rw [hF]
   rcases hget z u hz with ⟨e1,_⟩ | ⟨hne,hz'⟩
   ·rw [e1,hk] at hkz;cases hkz
   ·exact hm z u hz' hkz
  ·by_cases hz:z=x
   ·have hb:=Option.some.inj (ha.symm.trans (hz ▸ hbz))
    refine ⟨some v,hb ▸ hc',fun u hu'=>?_⟩
    show ∃ u',_∧Rep g.w (fz h' c.own σ) u' u
    rw [hF]
    rcases hget z u hu' with ⟨_,e2⟩ | ⟨hne,_⟩
    ·exact ⟨v,rfl,e2 ▸ hv⟩
    ·exact absurd hz hne
   ·obtain ⟨vo',h1,h2⟩:=hs.cl z b hkz hbz
    have hba:b≠a:=fun e=>hz (name_of_addr (hs.fr.apart hc) (mem_of_lookup hbz) (mem_of_lookup (e ▸ ha)))
    refine ⟨vo',h1.sameBut hs' hba,fun u hu'=>?_⟩
    show ∃ u',_∧Rep g.w (fz h' c.own σ) u' u
    rw [hF]
    rcases hget z u hu' with ⟨e1,_⟩ | ⟨_,hz'⟩
    ·exact absurd e1 hz
    ·exact h2 u hz'
theorem es_assign {x pos' value pos} {Q:AFl→Rho→Sto→Prop} (h:ev c ρ value σ fun y σ'=>∃ ρ',Upd x y ρ ρ'∧Q .next ρ' σ')
  (hc:c.isFn=true)
  (hw:swapsWith value (some (.Name x pos')) pos.line c.env=pure false:=by rfl):es c ρ (exec (.Assign [.Name x pos'] value pos) c.env) σ Q:=fun s hs=>by
 refine wpAny_Assign_Name (pg.use (h s hs) (fun v s₁ y σ₁ i₁ e₁ r₁ qq=>?_)) hw
 obtain ⟨ρ',hu,q₁⟩:=qq
 exact store_sound (hs.ev i₁ e₁) hu hc r₁ fun s' hs' e'=>⟨_,ρ',σ₁,hs',(e₁.toS hs.fr.sub).trans e',.next,q₁⟩
end
end Mine
end
section
namespace Mine
open PySem
variable {g:Gx}
theorem bindL_skip {kindOf:Str→Option NameKind} {b:List (Str×Value)} {x:Str}:∀ {m:Str→Option Value},x∉b.map (·.1)→bindL kindOf b m x=m x:=by
 induction b with
 | nil=>exact fun _=>rfl
 | cons p r ih =>
  obtain ⟨n,v⟩:=p
  intro m h
  rw [List.map_cons,List.mem_cons,not_or] at h
  unfold bindL
  rw [ih h.2]
  split
  ·exact if_neg h.1
  ·rfl
theorem bindC_skip {kindOf:Str→Option NameKind} {b:List (Str×Value)} {x:Str}:∀ {m:Str→Option Value},x∉b.map (·.1)→bindC kindOf b m x=m x:=by
 induction b with
 | nil=>exact fun _=>rfl
 | cons p r ih =>
  obtain ⟨n,v⟩:=p
  intro m h
  rw [List.map_cons,List.mem_cons,not_or] at h
  unfold bindC
  rw [ih h.2]
  split
  ·rfl
  ·exact if_neg h.1
theorem bindL_get {kindOf:Str→Option NameKind} {b:List (Str×Value)} {m:Str→Option Value} {x:Str} {v:Value} (nd:(b.map (·.1)).Nodup) (h:(x,v)∈b) (hk:kindOf x=some .local):bindL kindOf b m x=some v:=by
 induction b generalizing m with
 | nil=>cases h
 | cons p r ih =>
  obtain ⟨n,u⟩:=p
  rw [List.map_cons,List.nodup_cons] at nd
  unfold bindL
  rcases List.mem_cons.mp h with e | h
  ·injection e with e1 e2
   subst e1;subst e2
   rw [bindL_skip nd.1,if_pos hk,if_pos rfl]
  ·exact ih nd.2 h
theorem bindC_get {kindOf:Str→Option NameKind} {b:List (Str×Value)} {m:Str→Option Value} {x:Str} {v:Value} (nd:(b.map (·.1)).Nodup) (h:(x,v)∈b) (hk:kindOf x=some .cell):bindC kindOf b m x=some v:=by
 induction b generalizing m with
 | nil=>cases h
 | cons p r ih =>
  obtain ⟨n,u⟩:=p
  rw [List.map_cons,List.nodup_cons] at nd
  unfold bindC
  rcases List.mem_cons.mp h with e | h
  ·injection e with e1 e2
   subst e1;subst e2
   rw [bindC_skip nd.1,if_neg (by rw [hk];decide),if_pos rfl]
  ·exact ih nd.2 h
theorem cellsFrom_has {x:Str} (names:List (Str×NameKind)):∀ (n:Nat) (acc:List (Str×Addr)),names.lookup x=some .cell∨(acc.lookup x).isSome=true→((cellsFrom n names acc).lookup x).isSome=true:=by
 induction names with
 | nil=>exact fun _ _ h=>h.elim (fun e=>by cases e) id
 | cons p r ih =>
  obtain ⟨y,k⟩:=p
  intro n acc h
  unfold cellsFrom
  by_cases hy:x=y
  ·rw [← hy,lk_self] at h
   rw [← hy]
   split
   ·exact ih _ _ (.inr (by rw [lk_self];rfl))
   next hk=>exact ih _ _ (.inr (h.elim (fun e=>absurd (by rw [Option.some.inj e];rfl) hk) id))
  ·rw [lk_ne hy] at h
   split
   ·exact ih _ _ (by rw [lk_ne hy];exact h)
   ·exact ih _ _ h
inductive FnX (g:Gx) (f:Addr) (ps:List Str) (body:List Stmt) (sc:Scope):Prop
 | mk (o:Obj) (fd:FuncData) (ho:g.H₀.get? f=some o) (hd:o.data = .func fd) (hb:fd.body = .stmts body) (hs:fd.scope=sc) (hc:fd.closure=[]) (hg:fd.globals=mainGlobals) (hu:fd.builtins=builtinsNs)
  (hr:g.H₀.CodeRec fd.code fd.qualname) (ha:∀ vals:List Value,vals.length=ps.length→bindArgs fd ⟨vals,[]⟩=pure (ps.zip vals)):FnX g f ps body sc
structure FnAt (g:Gx) (f:Addr) (ps:List Str) (body:List Stmt) (sc:Scope):Prop where
 ex:FnX g f ps body sc
 nolimit:g.H₀.NoLimit
noncomputable def scOk (ps rest:List Str) (sc:Scope):Bool :=
 !sc.isCoroutine && !sc.isGenerator && (sc.kind == .function) && decide ((ps++rest).Nodup) &&
 (ps++rest).all fun x => !(x==("__debug__":Str)) && (sc.names.lookup x==some .local || sc.names.lookup x==some .cell)
inductive ScI (ps rest:List Str) (sc:Scope):Prop
 | mk (hco:sc.isCoroutine=false) (hgen:sc.isGenerator=false) (hkd:sc.kind = .function) (hnd:(ps++rest).Nodup) (hnm:∀ x∈ps++rest,(x==("__debug__":Str))=false∧(sc.names.lookup x=some .local∨sc.names.lookup x=some .cell)):ScI ps rest sc
theorem scI {ps rest:List Str} {sc:Scope} (ok:scOk ps rest sc=true):ScI ps rest sc:=by
 simp only [scOk,Bool.and_eq_true,Bool.not_eq_true',beq_iff_eq,decide_eq_true_eq,List.all_eq_true,Bool.or_eq_true] at ok
 exact ⟨ok.1.1.1.1,ok.1.1.1.2,ok.1.1.2,ok.1.2,ok.2⟩
noncomputable def rho0 (ps rest:List Str) (xs:List AV):Rho:=ps.zip (xs.map some)++rest.map fun x=>(x,Option.none)
theorem rho0_names {ps rest:List Str} {xs:List AV} (h:xs.length=ps.length):(rho0 ps rest xs).map (·.1)=ps++rest:=by
 unfold rho0
 rw [List.map_append,List.map_map,List.map_fst_zip (by simp [h])]
 congr 1
 exact List.map_id' _
theorem zip_rep {w:World} {F:Fz} {ps:List Str} {x:Str} {v:AV}:∀ {vs:List Value} {xs:List AV},RepL w F vs xs→(x,some v)∈ps.zip (xs.map some)→∃ u,(x,u)∈ps.zip vs∧Rep w F u v:=by
 induction ps with
 | nil=>exact fun _ h=>absurd h List.not_mem_nil
 | cons p ps ih =>
  intro vs xs r h
  cases xs with
  | nil=>exact absurd h List.not_mem_nil
  | cons a xs =>
   obtain ⟨u,us,e,hu,r⟩:=r.invCons
   rw [e]
   rcases List.mem_cons.mp h with e | h
   ·injection e with e1 e2
    exact ⟨u,e1 ▸ List.mem_cons_self,Option.some.inj e2 ▸ hu⟩
   ·obtain ⟨u',h1,h2⟩:=ih r h
    exact ⟨u',List.mem_cons_of_mem _ h1,h2⟩
noncomputable def fnPost (Q:AV→Sto→Prop):AFl→Rho→Sto→Prop:=fun fl _ σ'=>match fl with | .ret x=>Q x σ' | _=>Q .none σ'
noncomputable def cellAdrs (env:Env):List Addr:=(env.cells.map (·.1)).filterMap fun n=>env.cells.lookup n
theorem cellAdrs_of {env:Env} {x:Str} {a:Addr} (h:env.cells.lookup x=some a):a∈cellAdrs env :=
 List.mem_filterMap.mpr ⟨x,List.mem_map.mpr ⟨_,mem_of_lookup h,rfl⟩,h⟩
theorem of_cellAdrs {env:Env} {a:Addr} (h:a∈cellAdrs env):∃ x,env.cells.lookup x=some a:=by
 obtain ⟨x,_,e⟩:=List.mem_filterMap.mp h;exact ⟨x,e⟩
theorem nsOf_deeper {A:Around} {env:Env} {L a:Addr} (hf:env.frame=some L) (h:a∈nsOf (A.deeper env)):a=L∨a∈nsOf A:=by
 unfold nsOf Around.deeper at h
 cases hA:A.frames with
 | none=>simp [hA] at h
 | some l=>simp [hA,hf] at h;simpa [nsOf,hA] using h
theorem nsOf_sub {A:Around} {env:Env} {a:Addr} (h:a∈nsOf A):a∈nsOf (A.deeper env):=by
 unfold nsOf Around.deeper
 unfold nsOf at h
 cases hA:A.frames with
 | none=>simp [hA] at h
 | some l =>
  rw [hA] at h
  show a∈(env::l).filterMap _
  rw [List.filterMap_cons]
  split
  ·exact h
  ·exact List.mem_cons_of_mem _ h
noncomputable def calC (c:Cx g) (f:Value) (xs:List AV) (σ:Sto) (Q:AV→Sto→Prop):Prop:=∀ s vs,c.Inv σ s→RepL g.w (c.F σ s) vs xs →
 codeAny g.M c.A (.call f ⟨vs,[]⟩) (fun r s'=>match r with | .ok (.ret v)=>(PgP c (Rep g.w) σ s Q v s') | .ok _=>False | .error e=>c.E e s') s
theorem fn_gen {c:Cx g} {f:Addr} {ps rest:List Str} {body:List Stmt} {sc:Scope} {xs:List AV} {σ:Sto} {Q:AV→Sto→Prop} (fn:FnAt g f ps body sc) (ok:scOk ps rest sc=true)
  (hroom:c.A.depth < recursionLimit) (hlen:xs.length=ps.length) {s:Shared} {vs:List Value} (i:c.Inv σ s) (r:RepL g.w (c.F σ s) vs xs)
  (h:∀ (c':Cx g) (s₁:Shared),c'.sc=sc→c'.isFn=true→c'.A=c.A.deeper c'.env→c'.env.frame=some c'.env.locals→c'.env.scope.kind = .function→c'.hid=c.own→(∀ a∈c.own,a∈c'.own) →
   (∀ e s',wpAny g.M c'.A (leaving c'.env e) (fun _ s''=>c.E e s'') (fun e' s''=>c.E e' s'') s'→c'.E e s')→St c' (rho0 ps rest xs) σ s₁→(SameS s s₁)→(∀ b o,s.heap.get? b=some o→s₁.heap.get? b=some o) →
   (c.F σ s).le (c'.F σ s₁)→wpAny g.M c'.A (execs body c'.env) (EsP c' σ s₁ (fnPost Q)) c'.E s₁) :
  codeAny g.M c.A (.call (.ref f) ⟨vs,[]⟩) (fun r s'=>match r with | .ok (.ret v)=>(PgP c (Rep g.w) σ s Q v s') | .ok _=>False | .error e=>c.E e s') s:=by
 obtain ⟨o,fd,ho,hd,hb,hsc,hcl,hgl,hbl,hcr,hbind⟩:=fn.ex
 have hkeep:∀ b o,g.H₀.get? b=some o→s.heap.get? b=some o:=fun b o e=>(fz_eq.mp (i.keep b o e)).2.2
 have hvl:vs.length=ps.length:=r.length.trans hlen
 subst sc
 obtain ⟨hco,hgen,hkd,hnd,hnm⟩:=scI ok
 have hfst:(ps.zip vs).map (·.1)=ps:=List.map_fst_zip (by exact o0 hvl)
 have hkinds:∀ x∈ps.zip vs,fd.scope.names.lookup x.1=some .local∨(fd.scope.names.lookup x.1=some .cell∧((cellsFrom (s.heap.objs.size+1) fd.scope.names []).lookup x.1).isSome=true):=fun x hx=>by
  have:x.1∈ps:=hfst ▸ List.mem_map.mpr ⟨x,hx,rfl⟩
  rcases (hnm x.1 (List.mem_append_left _ this)).2 with q | q
  ·exact .inl q
  ·exact .inr ⟨q,cellsFrom_has _ _ _ (.inl q)⟩
 refine codeAny_call_cells hroom (hkeep _ _ ho) hd (fn.nolimit.keeps hkeep) (hcr.keeps hkeep) hb (hbind vs hvl) hcl hkinds (fun s₁ x=>?_) hco hgen hkd
 obtain ⟨⟨h₁,tk₁,hs₁⟩,hns,hk₁,_⟩:=x.toInCall
 have xcell:=x.cell
 have xapart:=x.apart
 have xabove:=x.above
 have hm1:∀ x v,(x,v)∈ps.zip vs→fd.scope.names.lookup x=some .local→bindL (callEnvC fd s.heap.objs.size f).kindOf (ps.zip vs) (fun _=>Option.none) x=some v:=fun x v hx hk =>
  bindL_get (by rw [hfst];exact (List.nodup_append.mp hnd).1) hx hk
 have hm2:∀ x v,(x,v)∈ps.zip vs→fd.scope.names.lookup x=some .cell→bindC (callEnvC fd s.heap.objs.size f).kindOf (ps.zip vs) (fun _=>Option.none) x=some v:=fun x v hx hk =>
  bindC_get (by rw [hfst];exact (List.nodup_append.mp hnd).1) hx hk
 generalize hml:bindL (callEnvC fd s.heap.objs.size f).kindOf (ps.zip vs) (fun _=>Option.none)=ml at hns hm1
 generalize hmc:bindC (callEnvC fd s.heap.objs.size f).kindOf (ps.zip vs) (fun _=>Option.none)=mc at xcell hm2
 clear x
 have hLoc:(callEnvC fd s.heap.objs.size f).locals=s.heap.objs.size:=rfl
 have hScope:(callEnvC fd s.heap.objs.size f).scope=fd.scope:=rfl
 have hGlob:(callEnvC fd s.heap.objs.size f).globals=mainGlobals:=hgl
 have hBlt:(callEnvC fd s.heap.objs.size f).builtins=builtinsNs:=hbl
 have hCells:∀ x,((fd.scope.names.lookup x)=some .cell)→∃ a,(callEnvC fd s.heap.objs.size f).cells.lookup x=some a:=fun x hx =>
  Option.isSome_iff_exists.mp (cellsFrom_has fd.scope.names (s.heap.objs.size+1) [] (.inl hx))
 have hFrame:(callEnvC fd s.heap.objs.size f).frame=some (callEnvC fd s.heap.objs.size f).locals:=rfl
 generalize henv:callEnvC fd s.heap.objs.size f=env at *
 -- the new context
 let R:Result→Shared→Prop:=fun r s'=>match r with | .ok (.ret v)=>(PgP c (Rep g.w) σ s Q v s') | .ok _=>False | .error e=>c.E e s'
 let c':Cx g:=⟨c.A.deeper env,env,(env.locals::cellAdrs env)++c.own,c.own,fun e s'=>wpAny g.M (c.A.deeper env) (leaving env e) (fun _ s''=>R (.error e) s'') (fun e' s''=>R (.error e') s'') s',fd.scope,true⟩
 have hnew:∀ a∈env.locals::cellAdrs env,s.heap.objs.size≤a:=by
  intro a ha
  rcases List.mem_cons.mp ha with rfl | ha
  ·exact Nat.le_of_eq hLoc.symm
  ·obtain ⟨n,hb⟩:=of_cellAdrs ha
   exact Nat.le_of_lt (Nat.lt_of_le_of_lt (Nat.le_of_eq hLoc.symm) (xabove n a (mem_of_lookup hb)))
 have hF:(fz s.heap c.own σ).le (fz s₁.heap c'.own σ):=fun b ob e=>by
  obtain ⟨e1,e2,e3⟩:=fz_eq.mp e
  refine fz_eq.mpr ⟨e1,fun hm=>?_,hk₁ b ob e3⟩
  rcases List.mem_append.mp hm with hm | hm
  ·exact absurd (Heap.lt_size e3) (Nat.not_lt.mpr (hnew b hm))
  ·exact e2 hm
 have hlook:∀ {x a},env.cells.lookup x=some a→a∈cellAdrs env:=fun hx=>cellAdrs_of hx
 have inv':c'.Inv σ s₁:=by
  refine ⟨fun b ob e=>hF b ob (i.keep b ob e),fun a y e=>(i.objs a y e).mono hF fun ob e=>hk₁ a ob e,fun a ha=>?_,fun a ha=>?_,fun a ha=>?_,fun a ha=>?_⟩
  ·rcases List.mem_append.mp ha with ha | ha
   ·exact (i.fresh (hnew a ha)).1
   ·exact i.off a ha
  ·rcases List.mem_append.mp ha with ha | ha
   ·rcases List.mem_cons.mp ha with rfl | ha
    ·obtain ⟨ob,_,_,hob,_⟩:=hns;exact ⟨ob,hob⟩
    ·obtain ⟨n,hb⟩:=of_cellAdrs ha
     obtain ⟨ob,hob,_⟩:=xcell n a hb
     exact ⟨ob,hob⟩
   ·obtain ⟨ob,hob⟩:=i.live a ha;exact ⟨ob,hk₁ a ob hob⟩
  ·rcases nsOf_deeper hFrame ha with rfl | ha
   ·exact .of_ns hns
   ·exact (i.ns a ha).keep fun ob e=>hk₁ a ob e
  ·rcases nsOf_deeper hFrame ha with rfl | ha
   ·exact List.mem_append_left _ List.mem_cons_self
   ·exact List.mem_append_right _ (i.nsub a ha)
 have fr':Frame c' ((rho0 ps rest xs).map (·.1)):=by
  rw [rho0_names hlen]
  refine ⟨hScope,fun _ x a ha hh=>?_,by show env.scope.kind=_;rw [hScope];exact hkd,hGlob,hBlt,by simp [c'],fun hh=>?_,fun a ha=>List.mem_append_right _ ha,fun x a ha=>⟨?_,?_⟩,fun _=>xapart,fun x hx=>?_,hnd⟩
  ·exact (i.fresh (hnew a (List.mem_cons_of_mem _ (hlook ha)))).2 hh
  ·exact (i.fresh (hnew _ List.mem_cons_self)).2 hh
  ·exact List.mem_append_left _ (List.mem_cons_of_mem _ (hlook ha))
  ·exact Nat.ne_of_gt (xabove x a (mem_of_lookup ha))
  ·obtain ⟨h1,h2⟩:=hnm x hx
   refine ⟨h1,h2.imp id fun q=>⟨q,hCells x q⟩⟩
 have st':St c' (rho0 ps rest xs) σ s₁:=by
  refine ⟨inv',fr',⟨ml,hns,fun x v hx hk=>?_⟩,fun x a hk ha=>⟨mc x,xcell x a ha,fun v hx=>?_⟩⟩
  ·rcases List.mem_append.mp hx with hx | hx
   ·obtain ⟨u,h1,h2⟩:=zip_rep r hx
    exact ⟨u,hm1 x u h1 hk,h2.mono hF⟩
   ·obtain ⟨_,_,e⟩:=List.mem_map.mp hx;cases e
  ·rcases List.mem_append.mp hx with hx | hx
   ·obtain ⟨u,h1,h2⟩:=zip_rep r hx
    exact ⟨u,hm2 x u h1 hk,h2.mono hF⟩
   ·obtain ⟨_,_,e⟩:=List.mem_map.mp hx;cases e
 refine es.use (h c' s₁ rfl rfl rfl hFrame (by show env.scope.kind=_;rw [hScope];exact hkd) rfl (fun a ha=>List.mem_append_right _ ha) (fun e s' hE=>hE) st' ⟨h₁,tk₁,hs₁⟩ hk₁ hF) (fun fl s' ag ρ' σ' hst hev hrf hq=>?_)
 have hback:(fz s'.heap c'.own σ').le (fz s'.heap c.own σ'):=fun b ob e=>by
  obtain ⟨e1,e2,e3⟩:=fz_eq.mp e
  exact fz_eq.mpr ⟨e1,fun hm=>e2 (List.mem_append_right _ hm),e3⟩
 have inv'':c.Inv σ' s':=⟨fun b ob e=>hback b ob (hst.inv.keep b ob e),fun a y e=>(hst.inv.objs a y e).mono hback fun _ e=>e,fun a ha=>hst.inv.off a (List.mem_append_right _ ha),fun a ha=>hst.inv.live a (List.mem_append_right _ ha),fun a ha=>hst.inv.ns a (nsOf_sub ha),i.nsub⟩
 have ev'':c.Ev σ s σ' s':=by
  exact ⟨SameS.tr ⟨h₁,tk₁,hs₁⟩ hev.same,(hF.trans hev.grow).trans hback,fun a ha=>(Kpt.of fun ob e=>hk₁ a ob e).trans (hev.hid a ha)⟩
 cases hrf with
 | next=>exact ⟨_,σ',inv'',ev'',.none,hq⟩
 | brk=>exact ⟨_,σ',inv'',ev'',.none,hq⟩
 | cont=>exact ⟨_,σ',inv'',ev'',.none,hq⟩
 | ret hr=>exact ⟨_,σ',inv'',ev'',hr.mono hback,hq⟩
theorem fn_code {c:Cx g} {f:Addr} {ps rest:List Str} {body:List Stmt} {sc:Scope} {xs:List AV} {σ:Sto} {Q:AV→Sto→Prop} (fn:FnAt g f ps body sc) (ok:scOk ps rest sc=true)
  (hroom:c.A.depth < recursionLimit) (hlen:xs.length=ps.length)
  (h:∀ c':Cx g,c'.sc=sc→c'.isFn=true→c'.A=c.A.deeper c'.env→es c' (rho0 ps rest xs) (execs body c'.env) σ (fnPost Q)):calC c (.ref f) xs σ Q:=fun _ _ i r =>
 fn_gen fn ok hroom hlen i r fun c' s₁ h1 h2 h3 _ _ _ _ _ st _ _ _=>h c' h1 h2 h3 s₁ st
theorem cal_fn {c:Cx g} {f:Addr} {ps rest:List Str} {body:List Stmt} {sc:Scope} {xs:List AV} {σ:Sto} {Q:AV→Sto→Prop} (fn:FnAt g f ps body sc) (ok:scOk ps rest sc=true)
  (hroom:c.A.depth < recursionLimit) (hlen:xs.length=ps.length)
  (h:∀ c':Cx g,c'.sc=sc→c'.isFn=true→c'.A=c.A.deeper c'.env→es c' (rho0 ps rest xs) (execs body c'.env) σ (fnPost Q)):cal c (.ref f) xs σ Q:=fun s vs i r=>wpAny_call (fn_code fn ok hroom hlen h s vs i r)
end Mine
end
section
namespace Mine
open PySem
variable {g:Gx} {c:Cx g} {ρ:Rho} {σ:Sto}
noncomputable def noStar:Expr→Bool
 | .Starred _ _=>false
 | _=>true
theorem starEach_plain {env:Env} {pos:Pos} {l:List Expr} (h:l.all noStar=true):backTo pos (starEach l env)=l.map fun e=>(false,eval e env):=by
 induction l with
 | nil=>rfl
 | cons e r ih =>
  rw [List.all_cons,Bool.and_eq_true] at h
  have ih:=ih h.2
  have h:=h.1
  generalize eq:r.map (fun e=>(false,eval e env))=R at ih
  rw [List.map_cons,eq]
  clear eq
  cases e <;> first | (exact congrArg (List.cons _) ih) | exact absurd h Bool.false_ne_true
theorem evl_sound {l:List Expr}:∀ {σ:Sto} {Q:List AV→Sto→Prop},evl c ρ l σ Q→gv c ρ (RepL g.w) (spliced (l.map fun e=>(false,eval e c.env))) σ Q:=by
 induction l with
 | nil=>exact fun h s hs=>Calls.spliced_nil ⟨[],_,hs.inv,.refl ..,.nil,h⟩
 | cons e r ih =>
  intro σ Q h s hs
  refine Calls.spliced_cons (pg.use (h s hs) (fun v s₁ x σ₁ i₁ e₁ r₁ q₁=>?_))
  exact pg.use (ih q₁ s₁ (hs.ev i₁ e₁)) (fun vs s₂ xs σ₂ i₂ e₂ r₂ q₂=>⟨x::xs,σ₂,i₂,e₁.trans e₂,.cons (r₁.mono e₂.grow) r₂,q₂⟩)
inductive Callee (g:Gx):Value→Prop
 | builtin (id:String):Callee g (.builtin id)
 | type (T:String):Callee g (.type T)
 | fn {a:Addr} {o:Obj} {fd:FuncData}:g.H₀.get? a=some o→o.data = .func fd→Callee g (.ref a)
 | keeps {v:Value}:(∀ h:Heap,(∀ b o,g.H₀.get? b=some o→h.get? b=some o)→∃ k,(k=Keeper.frame∨k=Keeper.machine∨k=Keeper.boundFrame)∧PySem.W.Looks g.M h (keeperOf v) k)→Callee g v
theorem callWith_gen {v:Value} {first:List Value} {fx:List AV} {e:Expr} {rest:List Expr} {pos:Pos} {K:List AV→Sto→Prop} {P:Value→Shared→Prop} (hc:Callee g v) (hp:(e::rest).all noStar=true) {s:Shared} (hs:St c ρ σ s)
  (hf:RepL g.w (c.F σ s) first fx) (h:evl c ρ (e::rest) σ K) (k:∀ s₁ vs xs σ₁,c.Inv σ₁ s₁→c.Ev σ s σ₁ s₁→RepL g.w (c.F σ₁ s₁) vs (fx++xs)→K xs σ₁→wpAny g.M c.A (call v vs []) P c.E s₁) :
  wpAny g.M c.A (callWith pos v first (backTo pos (starEach (e::rest) c.env)) []) P c.E s:=by
 have e0:backTo pos (starEach (e::rest) c.env)=(false,eval e c.env)::rest.map fun e=>(false,eval e c.env):=starEach_plain hp
 have hany:((false,eval e c.env)::rest.map fun e=>(false,eval e c.env)).any (·.1)=false:=by
  rw [List.any_eq_false];intro x hx
  rcases List.mem_cons.mp hx with rfl | hx
  ·simp
  ·obtain ⟨_,_,rfl⟩:=List.mem_map.mp hx;simp
 rw [e0]
 have main:wpAny g.M c.A (evalArgs v true ((false,eval e c.env)::rest.map fun e=>(false,eval e c.env)) []) (fun a s₁=>(∀ b o,g.H₀.get? b=some o→s₁.heap.get? b=some o)∧wpAny g.M c.A (call v (first++a.pos) a.kw) P c.E s₁) c.E s :=
  Calls.evalArgs_plain (pg.use (evl_sound h s hs) (fun vs s₁ xs σ₁ i₁ e₁ r₁ q₁=>⟨fun b o e=>(fz_eq.mp (i₁.keep b o e)).2.2,k s₁ _ xs σ₁ i₁ e₁ ((hf.mono e₁.grow).append r₁) q₁⟩))
 cases hc with
 | builtin id=>exact Calls.callWith_builtin hany (wpAny_mono main (fun a s₁ h₁=>h₁.2) fun _ _ e=>e)
 | type T=>exact callWith_type hany (wpAny_mono main (fun a s₁ h₁=>h₁.2) fun _ _ e=>e)
 | fn ho hd=>exact Calls.callWith_function (wpAny_mono main (fun a s₁ h₁=>⟨⟨h₁.1 _ _ ho,hd⟩,h₁.2⟩) fun _ _ e=>e)
 | keeps hk=>exact PySem.W.callWith_of (P:=fun h=>∀ b o,g.H₀.get? b=some o→h.get? b=some o) (by rw [hany];rfl) hk (wpAny_mono main (fun a s₁ h₁=>h₁) fun _ _ e=>e)
theorem callWith_any {v:Value} {first:List Value} {fx:List AV} {e:Expr} {rest:List Expr} {pos:Pos} {Q:AV→Sto→Prop} (hc:Callee g v) (hp:(e::rest).all noStar=true) {s:Shared} (hs:St c ρ σ s)
  (hf:RepL g.w (c.F σ s) first fx) (h:evl c ρ (e::rest) σ fun xs σ₁=>cal c v (fx++xs) σ₁ Q):pv c σ s (callWith pos v first (backTo pos (starEach (e::rest) c.env)) []) Q :=
 callWith_gen hc hp hs hf h fun s₁ vs xs σ₁ i₁ e₁ r₁ q₁=>pg.use (q₁ s₁ _ i₁ r₁) (fun v s₃ z σ₃ i₃ e₃ r₃ q₃=>⟨z,σ₃,i₃,e₁.trans e₃,r₃,q₃⟩)
theorem call_gen {id:Str} {p pos:Pos} {e:Expr} {rest:List Expr} {v:Value} {K:List AV→Sto→Prop} {P:Value→Shared→Prop} (hg:Glob g.H₀ id v) (hx:c.sc.names.lookup id=some .globalImplicit) (hc:Callee g v) {s:Shared} (hs:St c ρ σ s)
  (h:evl c ρ (e::rest) σ K) (k:∀ s₁ vs xs σ₁,c.Inv σ₁ s₁→c.Ev σ s σ₁ s₁→RepL g.w (c.F σ₁ s₁) vs xs→K xs σ₁→wpAny g.M c.A (call v vs []) P c.E s₁) (hp:(e::rest).all noStar=true) :
  wpAny g.M c.A (eval (.Call (.Name id p) (e::rest) [] pos) c.env) P c.E s:=by
 refine wpAny_Call_NameR (pg.use (ev_glob (Q:=fun x σ'=>x = .raw v∧σ'=σ) (pos:=p) hg hx ⟨rfl,rfl⟩ s hs) (fun f s₁ x σ₁ i₁ e₁ r₁ qq=>?_))
 obtain ⟨hx,hσ⟩:=qq
 subst hx;subst hσ
 obtain rfl:=r₁.invRaw
 exact callWith_gen (fx:=[]) hc hp (hs.ev i₁ e₁) .nil h fun s₂ vs xs σ₂ i₂ e₂ r₂ q₂=>k s₂ vs xs σ₂ i₂ (e₁.trans e₂) r₂ q₂
theorem ev_call {id:Str} {p pos:Pos} {e:Expr} {rest:List Expr} {v:Value} {Q:AV→Sto→Prop} (hg:Glob g.H₀ id v) (hx:c.sc.names.lookup id=some .globalImplicit) (hc:Callee g v)
  (h:evl c ρ (e::rest) σ fun xs σ₁=>cal c v xs σ₁ Q) (hp:(e::rest).all noStar=true:=by rfl):ev c ρ (.Call (.Name id p) (e::rest) [] pos) σ Q:=fun s hs =>
 call_gen hg hx hc hs h (fun s₁ vs xs σ₁ i₁ e₁ r₁ q₁=>pg.use (q₁ s₁ _ i₁ r₁) (fun v s₃ z σ₃ i₃ e₃ r₃ q₃=>⟨z,σ₃,i₃,e₁.trans e₃,r₃,q₃⟩)) hp
noncomputable def owned (n:String):Bool:=["enumerate", "zip", "dict_itemiterator", "dict_reverseitemiterator", "odict_iterator", "itertools.zip_longest", "itertools.pairwise"].contains n
noncomputable def itOk (o:Obj):Bool:=(match o.cls with
 | .type n => !owned n
 | _=>true) && (match o.data with | .fields _=>true | _=>false)
theorem itOk_of {o:Obj} {n:String} {vs:Array Value} (h:o.cls = .type n) (hn:owned n=false) (hd:o.data = .fields vs):itOk o=true:=by unfold itOk;rw [h,hd];show ((!owned n) && true)=true;rw [hn];rfl
theorem itOk.nd {o:Obj} (h:itOk o=true):∀ es n,o.data ≠ .dict es n:=fun es n e=>by unfold itOk at h;rw [e,Bool.and_false] at h;cases h
theorem owned_skip {prog:Program} {w:World} {A:Around} {E:Value→Shared→Prop} {s:Shared} {target:Expr} {I:Addr} {v:Value} {o:Obj} {Q:Unit→Shared→Prop} (ho:s.heap.get? I=some o) (hok:itOk o=true) (q:Q () s) :
  wpAny (model prog w) A (letOwnedTupleGo target (.ref I) v) Q E s:=by
 have go:wpAny (model prog w) A (do
   let (.ref r,.ref a):=(Value.ref I,v) | return
   let o ← load r
   match o.cls,o.data with
   | .type n,.fields vs =>
    if ["enumerate", "zip", "dict_itemiterator", "dict_reverseitemiterator", "odict_iterator", "itertools.zip_longest", "itertools.pairwise"].contains n && vs[0]?==some (rawInt a) then
     rule "for.unpacks-the-owned-tuple"
     updateField r 0 .none
   | _,_=>pure ()) Q E s:=by
  cases v with
  | ref a =>
   refine wpAny_bind (wpAny_load ho ?_)
   split
   ·rename_i n vs hc hd
    have hn:owned n=false:=by unfold itOk at hok;rw [hc,Bool.and_eq_true] at hok;simpa using hok.1
    rw [show (["enumerate", "zip", "dict_itemiterator", "dict_reverseitemiterator", "odict_iterator", "itertools.zip_longest", "itertools.pairwise"].contains n)=false from hn,Bool.false_and,if_neg (by decide)]
    exact wpAny_pure q
   ·exact wpAny_pure q
  | _=>exact wpAny_pure q
 unfold letOwnedTupleGo
 cases target <;> first | exact wpAny_pure q | exact go
inductive ItP (c:Cx g) (l:List AV) (σ:Sto) (s:Shared) (it:Value) (s₂:Shared):Prop
 | mk (I:Addr) (fp:List Addr) (P:Nat→Value→Prop) (Sx:Nat→Heap→Prop) (hI:it = .ref I) (W:Walks g.prog g.w c.A I fp [I] l.length P Sx) (hS:Sx 0 s₂.heap) (hs:SameS s s₂) (hk:∀ b o,s.heap.get? b=some o→s₂.heap.get? b=some o) (hz:s.heap.objs.size≤I) (hl:∀ j h,Sx j h→∃ o,h.get? I=some o∧itOk o=true)
  (hf:∀ b∈fp,b=I∨∃ o,c.F σ s b=some o) (hP:∀ i u,i < l.length→P i u→∃ x,l[i]?=some x∧Rep g.w (c.F σ s) u x):ItP c l σ s it s₂
noncomputable def Iter (c:Cx g) (y:AV) (l:List AV):Prop:=∀ σ s v,c.Inv σ s→Rep g.w (c.F σ s) v y→∀ E,wpAny g.M c.A (pyIter v) (ItP c l σ s) E s
theorem iter_list (hh:c.A.handled=none) (l:List AV):Iter c (.list l) l:=fun σ s v i r E=>by
 obtain ⟨a,vs,n,rfl,hF,hr⟩:=r.invList
 obtain ⟨_,_,ho⟩:=fz_eq.mp hF
 have hl:s.heap.IsList a vs.toArray:=⟨_,ho,rfl,n,rfl⟩
 have hlen:vs.toArray.size=l.length:=by rw [List.size_toArray];exact hr.length
 refine wpAny_pyIter_list hl ⟨s.heap.objs.size,[s.heap.objs.size,a],fun i v=>vs.toArray[i]?=some v,_,rfl,hlen ▸ Walks.list hh s.heap.objs.size a (Nat.ne_of_lt (Heap.lt_size ho)) vs.toArray,?_,⟨_,s.toks,rfl⟩,push_keeps _ _,Nat.le_refl _,(fun _ _ hx=>let ⟨⟨o,ho,hc,hd⟩,_⟩:=hx;⟨o,ho,itOk_of hc rfl hd⟩),?_,?_⟩
 ·exact ⟨⟨_,Heap.get?_push_size _ rfl,rfl,rfl⟩,⟨_,push_keeps _ _ _ _ ho,rfl,n,rfl⟩⟩
 ·intro b hb
  rcases List.mem_cons.mp hb with rfl | hb
  ·exact .inl rfl
  ·rw [List.mem_singleton.mp hb];exact .inr ⟨_,hF⟩
 ·intro i u _ hu
  obtain ⟨x,h1,h2⟩:=hr.get' (i:=i) (v:=u) (by simpa using hu)
  exact ⟨x,h1,h2⟩
theorem iter_tup (hh:c.A.handled=none) (l:List AV):Iter c (.tup l) l:=fun σ s v i r E=>by
 obtain ⟨a,vs,n,rfl,hF,hr⟩:=r.invTup
 obtain ⟨_,_,ho⟩:=fz_eq.mp hF
 have hl:s.heap.IsTuple a vs.toArray:=⟨_,ho,rfl,n,rfl⟩
 have hlen:vs.toArray.size=l.length:=by rw [List.size_toArray];exact hr.length
 refine wpAny_pyIter_tuple hl ⟨s.heap.objs.size,[s.heap.objs.size,a],fun i v=>vs.toArray[i]?=some v,_,rfl,hlen ▸ Walks.tuple hh s.heap.objs.size a (Nat.ne_of_lt (Heap.lt_size ho)) vs.toArray,?_,⟨_,s.toks,rfl⟩,push_keeps _ _,Nat.le_refl _,(fun _ _ hx=>let ⟨⟨o,ho,hc,hd⟩,_⟩:=hx;⟨o,ho,itOk_of hc rfl hd⟩),?_,?_⟩
 ·exact ⟨⟨_,Heap.get?_push_size _ rfl,rfl,rfl⟩,⟨_,push_keeps _ _ _ _ ho,rfl,n,rfl⟩⟩
 ·intro b hb
  rcases List.mem_cons.mp hb with rfl | hb
  ·exact .inl rfl
  ·rw [List.mem_singleton.mp hb];exact .inr ⟨_,hF⟩
 ·intro i u _ hu
  obtain ⟨x,h1,h2⟩:=hr.get' (i:=i) (v:=u) (by simpa using hu)
  exact ⟨x,h1,h2⟩
noncomputable def rngL (lo hi:Int):List Int:=(List.range (hi - lo).toNat).map fun i:Nat=>lo+(i:Int)
theorem iter_rng (hh:c.A.handled=none) {lo hi:Int} (h1 : -(2 ^ 62)≤lo) (h2:lo < 2 ^ 62) (h3 : -(2 ^ 62)≤hi) (h4:hi < 2 ^ 62):Iter c (.rng lo hi) ((rngL lo hi).map .int):=fun σ s v i r E=>by
 obtain ⟨a,t,u,v,rfl,hF⟩:=r.invRng
 obtain ⟨_,_,ho⟩:=fz_eq.mp hF
 have hlen:((rngL lo hi).map AV.int).length=(hi - lo).toNat:=by simp [rngL]
 have hsz:Builtin.Range.rangeSize lo hi 1=((hi - lo).toNat:Int):=by rw [rangeSize_one];split <;> omega
 refine wpAny_pyIter_range (r:=a) (a:=lo) (b:=hi) (c:=1) (t:=t) (u:=u) (v:=v) ho (small_one h1 h2 h3 h4) ⟨s.heap.objs.size,[s.heap.objs.size],_,_,rfl,hlen ▸ Walks.range hh s.heap.objs.size lo 1 (hi - lo).toNat,?_,⟨_,s.toks,rfl⟩,push_keeps _ _,Nat.le_refl _,(fun _ _ hx=>⟨_,hx,rfl⟩),?_,?_⟩
 ·rw [hsz]
  have e1:lo+((0:Nat):Int) * 1=lo:=by exact o1
  have e2:(((hi - lo).toNat:Nat):Int) - ((0:Nat):Int)=((hi - lo).toNat:Int):=by exact o2
  rw [e1,hlen,e2]
  exact Heap.get?_push_size _ rfl
 ·intro b hb;exact .inl (List.mem_singleton.mp hb)
 ·rintro i u hi' ⟨tk,rfl⟩
  rw [hlen] at hi'
  refine ⟨.int (lo+i),by simp [rngL,hi'],?_⟩
  have:lo+(i:Int) * 1=lo+i:=by omega
  rw [this];exact .int _ _
inductive Wk:Rho→Rho→Prop
 | nil:Wk [] []
 | keep {p:Str×Option AV} {r r':Rho}:Wk r r'→Wk (p::r) (p::r')
 | drop {x:Str} {o:Option AV} {r r':Rho}:Wk r r'→Wk ((x,Option.none)::r) ((x,o)::r')
theorem Wk.refl:∀ r:Rho,Wk r r
 | [] => .nil
 | _::r => .keep (Wk.refl r)
theorem Wk.names {r r':Rho} (h:Wk r r'):r.map (·.1)=r'.map (·.1):=by
 induction h with
 | nil=>rfl
 | keep _ ih=>simp [ih]
 | drop _ ih=>simp [ih]
theorem Wk.get {r r':Rho} (h:Wk r r') {x:Str} {v:AV} (hm:(x,some v)∈r):(x,some v)∈r':=by
 induction h with
 | nil=>exact hm
 | keep _ ih =>
  rcases List.mem_cons.mp hm with rfl | hm
  ·exact List.mem_cons_self
  ·exact List.mem_cons_of_mem _ (ih hm)
 | drop _ ih =>
  rcases List.mem_cons.mp hm with e | hm
  ·injection e with _ e;cases e
  ·exact List.mem_cons_of_mem _ (ih hm)
theorem St.wk {ρ':Rho} {s:Shared} (h:St c ρ' σ s) (hw:Wk ρ ρ'):St c ρ σ s:=by
 refine ⟨h.inv,hw.names ▸ h.fr,?_,fun x a hk ha=>?_⟩
 ·obtain ⟨m,h1,h2⟩:=h.ns
  exact ⟨m,h1,fun x v hx hk=>h2 x v (hw.get hx) hk⟩
 ·obtain ⟨vo,h1,h2⟩:=h.cl x a hk ha
  exact ⟨vo,h1,fun v hx=>h2 v (hw.get hx)⟩
structure Same (c c':Cx g):Prop where
 A:c'.A=c.A
 env:c'.env=c.env
 sc:c'.sc=c.sc
 fn:c'.isFn=c.isFn
theorem enter_le {h h':Heap} {own:List Addr} {I:Addr} {n:Nat} (hk:∀ b o,h.get? b=some o→h'.get? b=some o) (hI:h.objs.size≤I):(fz h own σ).le (fz h' (I::own) σ):=fun b o e=>by
 obtain ⟨e1,e2,e3⟩:=fz_eq.mp e
 refine fz_eq.mpr ⟨e1,fun hm=>?_,hk b o e3⟩
 rcases List.mem_cons.mp hm with rfl | hm
 ·exact absurd (Heap.lt_size e3) (Nat.not_lt.mpr hI)
 ·exact e2 hm
theorem leave_le {h:Heap} {own:List Addr} {I:Addr}:(fz h (I::own) σ).le (fz h own σ):=fun b o e=>by
 obtain ⟨e1,e2,e3⟩:=fz_eq.mp e
 exact fz_eq.mpr ⟨e1,fun hm=>e2 (List.mem_cons_of_mem _ hm),e3⟩
theorem Inv.enter {w:World} {H₀:Heap} {N own:List Addr} {s:Shared} (i:Inv w H₀ N own σ s) {h':Heap} {tk:Nat} {I:Addr} (hk:∀ b o,s.heap.get? b=some o→h'.get? b=some o) (hI:s.heap.objs.size≤I)
  (hl:∃ o,h'.get? I=some o):Inv w H₀ N (I::own) σ { s with heap:=h',toks:=tk }:=by
 have hF:=enter_le (σ:=σ) (own:=own) (n:=0) hk hI
 refine ⟨fun b o e=>hF b o (i.keep b o e),fun a y e=>(i.objs a y e).mono hF fun o e=>hk a o e,fun a ha=>?_,fun a ha=>?_,fun a ha=>(i.ns a ha).keep fun o e=>hk a o e,fun a ha=>List.mem_cons_of_mem _ (i.nsub a ha)⟩
 ·rcases List.mem_cons.mp ha with rfl | ha
  ·exact (i.fresh hI).1
  ·exact i.off a ha
 ·rcases List.mem_cons.mp ha with rfl | ha
  ·exact hl
  ·obtain ⟨o,ho⟩:=i.live a ha;exact ⟨o,hk a o ho⟩
theorem Inv.leave {w:World} {H₀:Heap} {N own:List Addr} {s:Shared} {I:Addr} (i:Inv w H₀ N (I::own) σ s) (hN:∀ a∈N,a∈own):Inv w H₀ N own σ s :=
 ⟨fun b o e=>leave_le b o (i.keep b o e),fun a y e=>(i.objs a y e).mono leave_le fun _ e=>e,fun a ha=>i.off a (List.mem_cons_of_mem _ ha),fun a ha=>i.live a (List.mem_cons_of_mem _ ha),i.ns,hN⟩
theorem Frame.enter {c c':Cx g} {ns:List Str} {I:Addr} (f:Frame c ns) (hs:Same c c') (ho:c'.own=I::c.own) (hh:c'.hid=I::c.hid) (hI:I∉c.own):Frame c' ns:=by
 obtain ⟨hA,hE,hS,hF⟩:=hs
 refine ⟨by rw [hE,hS];exact f.sc,fun h x a ha=>?_,by rw [hE];exact f.kind,by rw [hE];exact f.glob,by rw [hE];exact f.blt,by rw [hE,ho];exact List.mem_cons_of_mem _ f.loc,?_,?_,?_,by rw [hE,hF];exact f.apart,?_,f.nodup⟩
 ·rw [hE] at ha
  rw [hh]
  intro hm
  rcases List.mem_cons.mp hm with rfl | hm
  ·exact hI (f.cells x a ha).1
  ·exact f.wr (hF ▸ h) x a ha hm
 ·rw [hE,hh]
  intro hm
  rcases List.mem_cons.mp hm with e | hm
  ·exact hI (e ▸ f.loc)
  ·exact f.loc' hm
 ·rw [hh,ho]
  intro a ha
  rcases List.mem_cons.mp ha with rfl | ha
  ·exact List.mem_cons_self
  ·exact List.mem_cons_of_mem _ (f.sub a ha)
 ·rw [hE,ho]
  intro x a ha
  exact ⟨List.mem_cons_of_mem _ (f.cells x a ha).1,(f.cells x a ha).2⟩
 ·rw [hE,hS];exact f.kinds
theorem St.enter {c c':Cx g} {s:Shared} {h':Heap} {tk:Nat} {I:Addr} (x:St c ρ σ s) (hs:Same c c') (ho:c'.own=I::c.own) (hh:c'.hid=I::c.hid) (hk:∀ b o,s.heap.get? b=some o→h'.get? b=some o) (hI:s.heap.objs.size≤I)
  (hl:∃ o,h'.get? I=some o):St c' ρ σ { s with heap:=h',toks:=tk }:=by
 have hF:(c.F σ s).le (fz h' c'.own σ):=by rw [ho];exact enter_le (n:=0) hk hI
 refine ⟨by show Mine.Inv _ _ (nsOf c'.A) c'.own _ _;rw [ho,hs.A];exact x.inv.enter hk hI hl,x.fr.enter hs ho hh (x.inv.fresh hI).2,?_,?_⟩
 ·obtain ⟨m,hn,hm⟩:=x.ns
  rw [hs.env,hs.sc]
  refine ⟨m,hn.keeps hk,fun y v hy hky=>?_⟩
  obtain ⟨u,h1,h2⟩:=hm y v hy hky
  exact ⟨u,h1,h2.mono hF⟩
 ·rw [hs.env,hs.sc]
  intro y a hky ha
  obtain ⟨vo,h1,h2⟩:=x.cl y a hky ha
  refine ⟨vo,h1.keeps hk,fun v hy=>?_⟩
  obtain ⟨u,h3,h4⟩:=h2 v hy
  exact ⟨u,h3,h4.mono hF⟩
theorem St.leave' {c c':Cx g} {s:Shared} {I:Addr} {h':Heap} {tk:Nat} (x:St c' ρ σ s) (hs:Same c c') (ho:c'.own=I::c.own) (hI:I∉c.own) (hIN:I∉nsOf c.A) (f:Frame c (ρ.map (·.1)))
  (hk:∀ b o,b∉[I]→s.heap.get? b=some o→h'.get? b=some o):St c ρ σ { s with heap:=h',toks:=tk }∧(c'.F σ s).le (fz h' c.own σ):=by
 have hk':∀ b o,b≠I→s.heap.get? b=some o→h'.get? b=some o:=fun b o hb=>hk b o (by simpa using hb)
 have hF:(c'.F σ s).le (fz h' c.own σ):=by
  show (fz s.heap c'.own σ).le _
  rw [ho]
  intro b o e
  obtain ⟨e1,e2,e3⟩:=fz_eq.mp e
  rw [List.mem_cons,not_or] at e2
  exact fz_eq.mpr ⟨e1,e2.2,hk' b o e2.1 e3⟩
 have hi:Mine.Inv g.w g.H₀ (nsOf c.A) (I::c.own) σ s:=ho ▸ hs.A ▸ x.inv
 refine ⟨⟨⟨fun b o e=>hF b o (x.inv.keep b o e),fun a y e=>(x.inv.objs a y e).mono hF fun o e'=>hk' a o (by rintro rfl;rw [hi.off a List.mem_cons_self] at e;cases e) e',fun a ha=>hi.off a (List.mem_cons_of_mem _ ha),fun a ha=>?_,fun a ha=>(hi.ns a ha).keep fun o e=>hk' a o (fun q=>hIN (q ▸ ha)) e,fun a ha=>(List.mem_cons.mp (hi.nsub a ha)).resolve_left (fun q=>hIN (q ▸ ha))⟩,f,?_,?_⟩,hF⟩
 ·obtain ⟨o,ho⟩:=hi.live a (List.mem_cons_of_mem _ ha)
  exact ⟨o,hk' a o (fun q=>hI (q ▸ ha)) ho⟩
 ·obtain ⟨m,hn,hm⟩:=x.ns
  rw [hs.env] at hn
  rw [hs.sc] at hm
  refine ⟨m,hn.at' fun o e=>hk' _ o (by intro e;exact hI (e ▸ f.loc)) e,fun y v hy hky=>?_⟩
  obtain ⟨u,h1,h2⟩:=hm y v hy hky
  exact ⟨u,h1,h2.mono hF⟩
 ·intro y a hky ha
  have hac:=(f.cells y a ha).1
  rw [← hs.env] at ha
  rw [← hs.sc] at hky
  obtain ⟨vo,⟨o,ho,hd⟩,h2⟩:=x.cl y a hky ha
  refine ⟨vo,⟨o,hk' a o (fun q=>hI (q ▸ hac)) ho,hd⟩,fun v hy=>?_⟩
  obtain ⟨u,h3,h4⟩:=h2 v hy
  exact ⟨u,h3,h4.mono hF⟩
theorem St.turned {s:Shared} {h':Heap} {tk:Nat} {I:Addr} (x:St c ρ σ s) (hI:I∈c.hid) (hk:∀ b o,b∉[I]→s.heap.get? b=some o→h'.get? b=some o) (hl:∃ o,h'.get? I=some o)
  (hIc:∀ x a,c.env.cells.lookup x=some a→a≠I) (hIN:I∉nsOf c.A):St c ρ σ { s with heap:=h',toks:=tk }:=by
 have hk':∀ b o,b≠I→s.heap.get? b=some o→h'.get? b=some o:=fun b o hb=>hk b o (by simpa using hb)
 have hIo:=x.fr.sub I hI
 have hF:(c.F σ s).le (fz h' c.own σ):=fun b o e=>by
  obtain ⟨e1,e2,e3⟩:=fz_eq.mp e
  exact fz_eq.mpr ⟨e1,e2,hk' b o (fun q=>e2 (q ▸ hIo)) e3⟩
 refine ⟨⟨fun b o e=>hF b o (x.inv.keep b o e),fun a y e=>(x.inv.objs a y e).mono hF fun o e'=>hk' a o (by rintro rfl;rw [x.inv.off _ hIo] at e;cases e) e',x.inv.off,fun a ha=>?_,fun a ha=>(x.inv.ns a ha).keep fun o e=>hk' a o (fun q=>hIN (q ▸ ha)) e,x.inv.nsub⟩,x.fr,?_,?_⟩
 ·by_cases h:a=I
  ·subst h;exact hl
  ·obtain ⟨o,ho⟩:=x.inv.live a ha;exact ⟨o,hk' a o h ho⟩
 ·obtain ⟨m,hn,hm⟩:=x.ns
  refine ⟨m,hn.at' fun o e=>hk' _ o (fun q=>x.fr.loc' (q ▸ hI)) e,fun y v hy hky=>?_⟩
  obtain ⟨u,h1,h2⟩:=hm y v hy hky
  exact ⟨u,h1,h2.mono hF⟩
 ·intro y a hky ha
  obtain ⟨vo,⟨o,ho,hd⟩,h2⟩:=x.cl y a hky ha
  refine ⟨vo,⟨o,hk' a o (hIc y a ha) ho,hd⟩,fun v hy=>?_⟩
  obtain ⟨u,h3,h4⟩:=h2 v hy
  exact ⟨u,h3,h4.mono hF⟩
inductive FI (c':Cx g) (Sx:Nat→Heap→Prop) (Big:Sto→Shared→Prop) (J:List AV→Rho→Sto→Prop) (l:List AV) (s':Shared):Nat→Prop
 | mk (j:Nat) (ρ':Rho) (σ':Sto) (hj:j≤l.length) (hS:Sx j s'.heap) (st:St c' ρ' σ' s') (b:Big σ' s') (hJ:J (l.drop j) ρ' σ'):FI c' Sx Big J l s' (l.length+1 - j)
theorem es_forB {target iter:Expr} {body:List Stmt} {pos:Pos} {Q:AFl→Rho→Sto→Prop} (U:AV→Rho→Rho→Prop) (J:List AV→Rho→Sto→Prop)
  (sto:∀ (c':Cx g),Same c c'→∀ {ρ₁ ρ₂:Rho} {σ₁:Sto} {s:Shared} {v:Value} {y:AV} {Q:Unit→Shared→Prop} {E:Value→Shared→Prop},St c' ρ₁ σ₁ s→U y ρ₁ ρ₂→Rep g.w (c'.F σ₁ s) v y→(∀ s',St c' ρ₂ σ₁ s'→EvS c' σ₁ s σ₁ s'→Q () s')→wpAny g.M c'.A (assign target c'.env v) Q E s)
  {s:Shared} (st:St c ρ σ s) (h:pg c (Rep g.w) σ s (eval iter c.env) fun y σ₁=>∃ l,Iter c y l∧J l ρ σ₁)
  (turn:∀ c':Cx g,Same c c'→(∀ a∈c.own,a∈c'.own)→(∀ a∈c.hid,a∈c'.hid)→(∀ e s',notedBy g.M c.A c.env (cameBackBy g.M c.A c.env c.E) e s'→c'.E e s')→∀ y rest ρ₁ σ₁,J (y::rest) ρ₁ σ₁→∃ ρ₂,U y ρ₁ ρ₂∧∀ s₂,St c' ρ₂ σ₁ s₂→EvS c σ s σ₁ s₂→(c.F σ s).le (c'.F σ₁ s₂) →
   wpAny g.M c'.A (execs body c'.env) (EsP c' σ₁ s₂ fun fl ρ' σ'=>match fl with
   | .next | .cont=>∃ ρ'',Wk ρ'' ρ'∧J rest ρ'' σ'
   | .brk=>Q .next ρ' σ'
   | .ret v=>Q (.ret v) ρ' σ') c'.E s₂)
  (done:∀ ρ₁ σ₁,J [] ρ₁ σ₁→Q .next ρ₁ σ₁)
  (hs:∀ x,foldedSetIterable iter c.env x=pure x:=by intro _;rfl):wpAny g.M c.A (exec (.For target iter body [] pos) c.env) (EsP c σ s Q) c.E s:=by
 refine wpAny_For (pg.use h (fun v s₁ y σ₁ i₁ e₁ r₁ qq=>?_)) hs
 obtain ⟨l,hit,hJ⟩:=qq
 have st₁:=st.ev i₁ e₁
 refine wpAny_mono (hit σ₁ s₁ v i₁ r₁ c.E) (fun it s₂ q_=>?_) fun _ _ e=>e
 obtain ⟨I,fp,P,Sx,hI,W,hS,⟨h₂,tk₂,hs₂⟩,hk,hsz,hlv0,hfp,hP⟩:=q_
 have hlv:∀ j h,Sx j h→∃ o,h.get? I=some o:=fun j h hx=>(hlv0 j h hx).imp fun _ q=>q.1
 subst hI
 subst hs₂
 -- the loop's own result and context
 generalize hR:(fun (r:Result) (s':Shared)=>match r with
  | .ok f=>EsP c σ s Q f s'
  | .error e=>cameBackBy g.M c.A c.env c.E e s')=R
 have hRok:∀ f s',(EsP c σ s Q f s')→R (.ok f) s':=fun f s' q=>by rw [← hR];exact q
 have hRer:∀ e s',cameBackBy g.M c.A c.env c.E e s'→R (.error e) s':=fun e s' q=>by rw [← hR];exact q
 clear hR
 let c':Cx g:=⟨c.A,c.env,I::c.own,I::c.hid,notedBy g.M c.A c.env fun e s'=>R (.error e) s',c.sc,c.isFn⟩
 have same:Same c c':=⟨rfl,rfl,rfl,rfl⟩
 have hIo:I∉c.own:=(i₁.fresh hsz).2
 have hIN:I∉nsOf c.A:=i₁.freshN hsz
 have st₂:St c' ρ σ₁ { s₁ with heap:=h₂,toks:=tk₂ }:=st₁.enter same rfl rfl hk hsz (hlv 0 _ hS)
 have hF₁:(c.F σ₁ s₁).le (c'.F σ₁ { s₁ with heap:=h₂,toks:=tk₂ }):=enter_le (n:=0) hk hsz
 -- what is frozen at the loop's start
 have hfp':∀ b∈fp,b=I∨∃ o,c'.F σ₁ { s₁ with heap:=h₂,toks:=tk₂ } b=some o:=fun b hb=>(hfp b hb).imp id fun q=>q.imp fun o ho=>hF₁ b o ho
 generalize hBig:(fun (σ':Sto) (s':Shared)=>SameS s₁ s'∧(c'.F σ₁ { s₁ with heap:=h₂,toks:=tk₂ }).le (c'.F σ' s')∧∀ a∈c.hid,Kpt h₂ s'.heap a)=Big
 have big_of:∀ {σ':Sto} {s':Shared},(SameS s₁ s'∧(c'.F σ₁ { s₁ with heap:=h₂,toks:=tk₂ }).le (c'.F σ' s')∧∀ a∈c.hid,Kpt h₂ s'.heap a)→Big σ' s':=fun h=>by rw [← hBig];exact h
 have of_big:∀ {σ':Sto} {s':Shared},Big σ' s'→(SameS s₁ s'∧(c'.F σ₁ { s₁ with heap:=h₂,toks:=tk₂ }).le (c'.F σ' s')∧∀ a∈c.hid,Kpt h₂ s'.heap a):=fun h=>by rw [← hBig] at h;exact h
 clear hBig
 -- leaving
 have out:∀ {ρ':Rho} {σ':Sto} {s':Shared} {h':Heap} {tk:Nat} {f:Flow} {fl:AFl},St c' ρ' σ' s'→Big σ' s'→(∀ b o,b∉[I]→s'.heap.get? b=some o→h'.get? b=some o)→RepF g.w (c'.F σ' s') f fl→Q fl ρ' σ'→R (.ok f) { s' with heap:=h',toks:=tk }:=by
  intro ρ' σ' s' h' tk f fl hst hbig hk' hrf hq
  obtain ⟨hsm,hgrow,hhid⟩:=of_big hbig
  obtain ⟨hst',hle⟩:=hst.leave' (c:=c) (tk:=tk) same rfl hIo hIN { st.fr with kinds:=hst.fr.kinds,nodup:=hst.fr.nodup } hk'
  refine hRok f _ ⟨fl,ρ',σ',hst',?_,?_,hq⟩
  ·refine ⟨?_,(e₁.grow.trans hF₁).trans (hgrow.trans hle),fun a ha=>?_⟩
   ·exact (e₁.same.tr hsm).set
   ·exact ((e₁.own a (st.fr.sub a ha)).trans (.of fun o e=>hk a o e)).trans ((hhid a ha).trans (.of fun o e=>hk' a o (by intro hm;exact hIo (List.mem_singleton.mp hm ▸ st.fr.sub a ha)) e))
  ·cases hrf with
   | next=>exact .next
   | brk=>exact .brk
   | cont=>exact .cont
   | ret hr=>exact .ret (hr.mono hle)
 refine codeAny_forLoop_any (fun n s'=>FI c' Sx Big J l s' n) ?_ (l.length+1) (.mk 0 ρ σ₁ (Nat.zero_le _) hS st₂ (big_of ⟨.mk _ _,.refl _,fun _ _ _ e=>e⟩) hJ)
 intro n s' hpk
 cases hpk with | mk j ρ' σ' hj hSj hst hbig hJj=>?_
 obtain ⟨hsm,hgrow,hhid⟩:=of_big hbig
 by_cases hlt:j < l.length
 ·refine W.item j s' _ _ hlt hSj fun u h₃ tk₃ hPu hS₃ hk₃=>?_
  obtain ⟨y',hy',hyr⟩:=hP j u hlt hPu
  have hdrop:l.drop j=y'::l.drop (j+1):=by
   rw [List.getElem?_eq_getElem hlt] at hy'
   injection hy' with hy'
   rw [List.drop_eq_getElem_cons hlt,hy']
  rw [hdrop] at hJj
  have hIh:I∈c'.hid:=List.mem_cons_self
  have hlv₃:∃ o,h₃.get? I=some o:=hlv _ _ hS₃
  have hIc:∀ x a,c'.env.cells.lookup x=some a→a≠I:=fun x a ha e=>hIo (e ▸ (st.fr.cells x a ha).1)
  have st₃:St c' ρ' σ' { s' with heap:=h₃,toks:=tk₃ }:=hst.turned hIh hk₃ hlv₃ hIc hIN
  have le₃:(c'.F σ' s').le (c'.F σ' { s' with heap:=h₃,toks:=tk₃ }):=fun b o e=>by
   obtain ⟨e1,e2,e3⟩:=fz_eq.mp e
   exact fz_eq.mpr ⟨e1,e2,hk₃ b o (by intro hm;exact e2 (List.mem_singleton.mp hm ▸ List.mem_cons_self)) e3⟩
  obtain ⟨ρ₂,hu,hbody⟩:=turn c' same (fun a ha=>List.mem_cons_of_mem _ ha) (fun a ha=>List.mem_cons_of_mem _ ha) (fun e s' hE=>wpAny_mono hE (fun _ s'' q=>hRer e s'' q) fun x s'' q=>hRer x s'' q) y' (l.drop (j+1)) ρ' σ' hJj
  have hyr':Rep g.w (c'.F σ' { s' with heap:=h₃,toks:=tk₃ }) u y':=hyr.mono (hF₁.trans (hgrow.trans le₃))
  obtain ⟨oI,hoI,hokI⟩:=hlv0 _ _ hS₃
  refine owned_skip (s:={ s' with heap:=h₃,toks:=tk₃ }) hoI hokI ?_
  refine sto c' same (E:=c'.E) st₃ hu hyr' fun s₄ st₄ ev₄=>?_
  have gr₀:(c.F σ s).le (c'.F σ' s₄):=(e₁.grow.trans hF₁).trans (hgrow.trans (le₃.trans ev₄.grow))
  have ev₀:EvS c σ s σ' s₄:=by
   refine ⟨?_,gr₀.trans leave_le,fun a ha=>?_⟩
   ·exact e₁.same.tr (hsm.tr ev₄.same.un)
   ·exact (((e₁.own a (st.fr.sub a ha)).trans (.of fun o e=>hk a o e)).trans ((hhid a ha).trans (.of fun o e=>hk₃ a o (by intro hm;exact hIo (List.mem_singleton.mp hm ▸ st.fr.sub a ha)) e))).trans (ev₄.hid a (List.mem_cons_of_mem _ ha))
  refine es.use (hbody s₄ st₄ ev₀ gr₀) (fun f s₅ fl ρ₅ σ₅ st₅ ev₅ rf₅ q₅=>?_)
  have ev₄₅:=ev₄.trans ev₅
  have big:Big σ₅ s₅:=by
   refine big_of ⟨?_,hgrow.trans (le₃.trans ev₄₅.grow),fun a ha=>?_⟩
   ·exact hsm.tr ev₄₅.same.un
   ·refine ((hhid a ha).trans (.of fun o e=>hk₃ a o ?_ e)).trans (ev₄₅.hid a (List.mem_cons_of_mem _ ha))
    intro hm;exact hIo (List.mem_singleton.mp hm ▸ st.fr.sub a ha)
  have hS₅:Sx (j+1) s₅.heap:=by
   refine W.frame _ _ _ hS₃ fun b hb o ho=>?_
   rcases hfp' b hb with q | ⟨o₀,ho₀⟩
   ·subst b;rw [show h₃.get? I=some oI from hoI] at ho;injection ho with ho;subst ho
    exact (ev₄₅.hid _ List.mem_cons_self).get hoI (itOk.nd hokI)
   ·have h8:=le₃ b o₀ (hgrow b o₀ ho₀)
    have h9:=(fz_eq.mp h8).2.2
    rw [show ({ s' with heap:=h₃,toks:=tk₃ }:Shared).heap=h₃ from rfl,ho] at h9
    injection h9 with h9
    subst h9
    exact (fz_eq.mp (ev₄₅.grow b o h8)).2.2
  have go:∀ ρ'',Wk ρ'' ρ₅→J (l.drop (j+1)) ρ'' σ₅→∃ m,m < l.length+1 - j∧FI c' Sx Big J l s₅ m:=fun ρ'' hw hJ'=>⟨l.length+1 - (j+1),by omega,.mk (j+1) ρ'' σ₅ hlt hS₅ (st₅.wk hw) big hJ'⟩
  have same₅:s₅={ s₅ with heap:=s₅.heap,toks:=s₅.toks }:=rfl
  cases rf₅ with
  | next=>obtain ⟨ρ'',hw,hJ'⟩:=q₅;exact go ρ'' hw hJ'
  | cont=>obtain ⟨ρ'',hw,hJ'⟩:=q₅;exact go ρ'' hw hJ'
  | brk=>rw [same₅];exact out (h':=s₅.heap) (tk:=s₅.toks) st₅ big (fun _ _ _ e=>e) .next q₅
  | ret hr=>rw [same₅];exact out (h':=s₅.heap) (tk:=s₅.toks) st₅ big (fun _ _ _ e=>e) (.ret hr) q₅
 ·have hjl:j=l.length:=by exact o3 hj hlt
  subst hjl
  refine W.done s' _ _ hSj fun h₃ tk₃ hk₃=>?_
  refine wpAny_execs_nil (out hst hbig hk₃ .next (done ρ' σ' (by simpa using hJj)))
theorem es_forG {target iter:Expr} {body:List Stmt} {pos:Pos} {Q:AFl→Rho→Sto→Prop} (U:AV→Rho→Rho→Prop) (J:List AV→Rho→Sto→Prop)
  (sto:∀ (c':Cx g),Same c c'→∀ {ρ₁ ρ₂:Rho} {σ₁:Sto} {s:Shared} {v:Value} {y:AV} {Q:Unit→Shared→Prop} {E:Value→Shared→Prop},St c' ρ₁ σ₁ s→U y ρ₁ ρ₂→Rep g.w (c'.F σ₁ s) v y→(∀ s',St c' ρ₂ σ₁ s'→EvS c' σ₁ s σ₁ s'→Q () s')→wpAny g.M c'.A (assign target c'.env v) Q E s)
  (h:ev c ρ iter σ fun y σ₁=>∃ l,Iter c y l∧J l ρ σ₁)
  (turn:∀ c':Cx g,Same c c'→∀ y rest ρ₁ σ₁,J (y::rest) ρ₁ σ₁→∃ ρ₂,U y ρ₁ ρ₂∧es c' ρ₂ (execs body c'.env) σ₁ fun fl ρ' σ'=>match fl with
   | .next | .cont=>∃ ρ'',Wk ρ'' ρ'∧J rest ρ'' σ'
   | .brk=>Q .next ρ' σ'
   | .ret v=>Q (.ret v) ρ' σ')
  (done:∀ ρ₁ σ₁,J [] ρ₁ σ₁→Q .next ρ₁ σ₁)
  (hs:∀ x,foldedSetIterable iter c.env x=pure x:=by intro _;rfl):es c ρ (exec (.For target iter body [] pos) c.env) σ Q:=fun s st =>
 es_forB U J sto st (h s st) (fun c' hs' _ _ _ y rest ρ₁ σ₁ hJ=>by
  obtain ⟨ρ₂,hu,hb⟩:=turn c' hs' y rest ρ₁ σ₁ hJ
  exact ⟨ρ₂,hu,fun s₂ st₂ _ _=>hb s₂ st₂⟩) done hs
theorem es_for {x:Str} {px:Pos} {iter:Expr} {body:List Stmt} {pos:Pos} {Q:AFl→Rho→Sto→Prop} (J:List AV→Rho→Sto→Prop) (hfn:c.isFn=true)
  (h:ev c ρ iter σ fun y σ₁=>∃ l,Iter c y l∧J l ρ σ₁)
  (turn:∀ c':Cx g,Same c c'→∀ y rest ρ₁ σ₁,J (y::rest) ρ₁ σ₁→∃ ρ₂,Upd x y ρ₁ ρ₂∧es c' ρ₂ (execs body c'.env) σ₁ fun fl ρ' σ'=>match fl with
   | .next | .cont=>∃ ρ'',Wk ρ'' ρ'∧J rest ρ'' σ'
   | .brk=>Q .next ρ' σ'
   | .ret v=>Q (.ret v) ρ' σ')
  (done:∀ ρ₁ σ₁,J [] ρ₁ σ₁→Q .next ρ₁ σ₁)
  (hs:∀ x,foldedSetIterable iter c.env x=pure x:=by intro _;rfl):es c ρ (exec (.For (.Name x px) iter body [] pos) c.env) σ Q :=
 es_forG (Upd x) J (fun c' hs' _ _ _ _ _ _ _ _ st hu r q=>wpAny_assign_Name (store_sound st hu (hs'.fn.trans hfn) r q)) h turn done hs
end Mine
end
section
namespace Mine
open PySem
variable {g:Gx} {c:Cx g} {ρ:Rho} {σ:Sto}
noncomputable def relabN (sc:Scope):List (Str×NameKind)→List (Str×NameKind)
 | []=>[]
 | (n,k)::r=>(if k == .free && sc.kind == .function && sc.names.lookup n==some .cell then (n,.cell) else (n,k))::relabN sc r
noncomputable def relab (scope sc:Scope):Scope:={ scope with names:=relabN sc scope.names }
theorem relabel_eq {scope sc:Scope} {env:Env} (h:env.scope=sc):relabel scope env=relab scope sc:=by
 subst h
 unfold relabel relab
 congr 1
 generalize scope.names=l
 induction l with
 | nil=>rfl
 | cons p r ih=>obtain ⟨n,k⟩:=p;simp only [List.map_cons,relabN,ih];rfl
noncomputable def closN (cells:List (Str×Addr)):List (Str×NameKind)→List (Str×Addr)→List (Str×Addr)
 | [],acc=>acc
 | (n,k)::r,acc=>closN cells r (if k == .free then (n,(cells.lookup n).getD 0)::acc else acc)
theorem closN_free {cells:List (Str×Addr)} {n:Str} {k:NameKind} {a:Addr} {r:List (Str×NameKind)} {acc:List (Str×Addr)} (hk:(k==NameKind.free)=true) (ha:cells.lookup n=some a):closN cells ((n,k)::r) acc=closN cells r ((n,a)::acc):=by
 rw [closN,if_pos hk,ha];rfl
theorem closN_other {cells:List (Str×Addr)} {n:Str} {k:NameKind} {r:List (Str×NameKind)} {acc:List (Str×Addr)} (hk:¬ (k==NameKind.free)=true):closN cells ((n,k)::r) acc=closN cells r acc:=by
 rw [closN,if_neg hk]
theorem closureFor_eq {scope:Scope} {env:Env} (h:∀ y∈scope.names,y.2 = .free→∃ a,env.cells.lookup y.1=some a):closureFor scope env=pure (closN env.cells scope.names []):=by
 have main:∀ (l:List (Str×NameKind)) (acc:List (Str×Addr)),(∀ y∈l,y.2 = .free→∃ a,env.cells.lookup y.1=some a) →
   (forIn l acc fun (x:Str×NameKind) (cs:List (Str×Addr))=>(if (x.2 == .free)=true then do let a ← cellOf env x.1;pure (ForInStep.yield ((x.1,a)::cs)) else pure (ForInStep.yield cs):Sem (ForInStep (List (Str×Addr)))))=(pure (closN env.cells l acc):Sem _):=by
  intro l
  induction l with
  | nil=>intro acc _;rfl
  | cons p r ih =>
   intro acc hl
   obtain ⟨n,k⟩:=p
   have ihr:=fun acc=>ih acc fun y hy=>hl y (List.mem_cons_of_mem _ hy)
   rw [List.forIn_cons]
   by_cases hk:(k==NameKind.free)=true
   ·obtain ⟨a,ha⟩:=hl (n,k) List.mem_cons_self (by simpa using hk)
    simp only [hk,if_true]
    have e:cellOf env n=pure a:=by unfold cellOf;rw [show env.cells.lookup n=some a from ha]
    rw [e]
    simp only [pure_bind]
    rw [ihr,closN_free hk ha]
   ·simp only [hk]
    simp only [Bool.false_eq_true,if_false]
    rw [closN_other hk]
    exact ihr acc
 have:=main scope.names [] h
 unfold closureFor
 simp only [pure_bind,bind_pure] at this ⊢
 exact this
theorem closN_get {cells:List (Str×Addr)} {n:Str} {a:Addr} {l:List (Str×NameKind)}:∀ {acc:List (Str×Addr)},(∀ y∈l,y.2 = .free→∃ a,cells.lookup y.1=some a)→(closN cells l acc).lookup n=some a→cells.lookup n=some a∨acc.lookup n=some a:=by
 induction l with
 | nil=>exact fun _ h => .inr h
 | cons p r ih =>
  intro acc hl h
  rcases ih (fun y hy=>hl y (List.mem_cons_of_mem _ hy)) h with h | h
  ·exact .inl h
  by_cases hk:(p.2==NameKind.free)=true
  ·rw [if_pos hk] at h
   by_cases hn:n=p.1
   ·obtain ⟨b,hb⟩:=hl p List.mem_cons_self (eq_of_beq hk)
    rw [← hn] at h hb
    rw [lk_self,hb] at h
    exact .inl (hb.trans h)
   ·rw [lk_ne hn] at h;exact .inr h
  ·rw [if_neg hk] at h;exact .inr h
theorem closN_has {cells:List (Str×Addr)} {n:Str} {l:List (Str×NameKind)}:∀ {acc:List (Str×Addr)},(l.lookup n=some .free∨(acc.lookup n).isSome=true)→((closN cells l acc).lookup n).isSome=true:=by
 induction l with
 | nil=>exact fun h=>h.elim (fun e=>by cases e) id
 | cons p r ih =>
  intro acc h
  refine ih (acc:=if p.2 == .free then (p.1,(cells.lookup p.1).getD 0)::acc else acc) ?_
  by_cases hn:n=p.1
  ·have e:((p::r:List (Str×NameKind)).lookup n)=some p.2:=hn ▸ lk_self
   rw [e] at h
   by_cases hk:(p.2==NameKind.free)=true
   ·rw [if_pos hk,hn,lk_self];exact .inr rfl
   ·rw [if_neg hk]
    exact h.elim (fun h=>absurd (beq_iff_eq.mpr (Option.some.inj h)) hk) .inr
  ·have e:((p::r:List (Str×NameKind)).lookup n)=r.lookup n:=lk_ne hn
   rw [e] at h
   split
   ·rw [lk_ne hn];exact h
   ·exact h
theorem relabN_get {sc:Scope} {n:Str} {l:List (Str×NameKind)} (h:(relabN sc l).lookup n=some .cell):l.lookup n=some .cell∨l.lookup n=some .free∧sc.names.lookup n=some .cell:=by
 induction l with
 | nil=>cases h
 | cons p r ih =>
  obtain ⟨m,k⟩:=p
  unfold relabN at h
  by_cases hn:n=m
  ·rw [← hn,lk_self]
   rw [← hn] at h
   split at h
   next hk =>
    rw [Bool.and_eq_true,Bool.and_eq_true] at hk
    exact .inr ⟨congrArg some (eq_of_beq hk.1.1),eq_of_beq hk.2⟩
   next=>rw [lk_self] at h;exact .inl h
  ·rw [lk_ne hn]
   split at h
   ·rw [lk_ne hn] at h;exact ih h
   ·rw [lk_ne hn] at h;exact ih h
theorem relabN_cell {sc:Scope} {n:Str} {l:List (Str×NameKind)} (hc:∀ y∈l,y.2 ≠ .cell) (h:(relabN sc l).lookup n=some .cell):l.lookup n=some .free∧sc.names.lookup n=some .cell :=
 (relabN_get h).resolve_left fun e=>hc _ (mem_of_lookup e) rfl
noncomputable def compOkL (xs fr:List Str) (scope sc:Scope):Bool :=
 (scope.kind == .function) && scope.names.all (fun y=>y.2 != .cell && (y.2 != .free || fr.contains y.1) && (y.2 != .local || scope.names.lookup y.1==some .local)) &&
 xs.all (fun x=>(scope.names.lookup x==some .local) && !(x==("__debug__":Str))) && decide ((xs++fr).Nodup) &&
 fr.all fun n=>(relab scope sc).names.lookup n==some .cell
noncomputable abbrev compOk (x:Str) (fr:List Str) (scope sc:Scope):Bool:=compOkL [x] fr scope sc
noncomputable def evT (c:Cx g) (ρ:Rho):Option Expr→Sto→(Bool→Sto→Prop)→Prop
 | Option.none,σ,Q=>Q true σ
 | some t,σ,Q=>evb c ρ t σ Q
theorem evT_sound {t:Option Expr} {Q:Bool→Sto→Prop} (h:evT c ρ t σ Q):gv c ρ (fun _ a b=>a=b) (forIn t.toList true fun e r=>if r=true then do let ok ← isTrue e c.env (eval e c.env);pure (ForInStep.yield ok) else pure (ForInStep.yield r)) σ Q:=fun s hs=>by
 cases t with
 | none=>exact wpAny_tests_nil ⟨_,σ,hs.inv,.refl ..,rfl,h⟩
 | some t=>exact wpAny_tests_one (h s hs)
inductive CompF (xs fr:List Str) (scope sc:Scope):Prop
 | mk (k:scope.kind = .function) (h1:∀ y∈scope.names,y.2 ≠ .cell) (h2:∀ y∈scope.names,y.2 = .free→y.1∈fr) (h3:∀ y∈scope.names,y.2 = .local→scope.names.lookup y.1=some .local) (h4:∀ x∈xs,scope.names.lookup x=some .local∧(x==("__debug__":Str))=false) (h5:(xs++fr).Nodup) (h6:∀ n∈fr,(relab scope sc).names.lookup n=some .cell):CompF xs fr scope sc
theorem compOk_facts {xs:List Str} {fr:List Str} {scope sc:Scope} (h:compOkL xs fr scope sc=true):CompF xs fr scope sc:=by
 simp only [compOkL,Bool.and_eq_true,Bool.not_eq_true',beq_iff_eq,decide_eq_true_eq,List.all_eq_true,Bool.or_eq_true,bne_iff_ne,ne_eq] at h
 obtain ⟨⟨⟨⟨h1,h2⟩,h3⟩,h5⟩,h6⟩:=h
 refine ⟨h1,fun y hy=>(h2 y hy).1.1,fun y hy hf=>?_,fun y hy hf=>?_,h3,h5,h6⟩
 ·rcases (h2 y hy).1.2 with q | q
  ·exact absurd hf q
  ·simpa using q
 ·rcases (h2 y hy).2 with q | q
  ·exact absurd hf q
  ·exact q
noncomputable def FrIn (fr ρ:Rho):Prop:=∀ p∈fr,p.1∈ρ.map (·.1)∧∀ v,p.2=some v→(p.1,some v)∈ρ
noncomputable abbrev compCx (c:Cx g) (env':Env) (own' hid':List Addr) (sc':Scope) (R:Result→Shared→Prop):Cx g:=⟨c.A,env',own',hid',notedBy g.M c.A env' fun e s'=>R (.error e) s',sc',false⟩
theorem Inv.slot {w:World} {H₀:Heap} {N own':List Addr} {σ':Sto} {s':Shared} {h':Heap} {tk:Nat} {Z:Addr} (hi:Inv w H₀ N own' σ' s') (hZ:Z∈own') (hk:∀ b o,b≠Z→s'.heap.get? b=some o→h'.get? b=some o) (hl:∃ o,h'.get? Z=some o) (hd:Z∈N→DAt h' Z):Inv w H₀ N own' σ' { s' with heap:=h',toks:=tk }∧(fz s'.heap own' σ').le (fz h' own' σ'):=by
 have le:(fz s'.heap own' σ').le (fz h' own' σ'):=fun b o e=>by
  obtain ⟨e1,e2,e3⟩:=fz_eq.mp e
  exact fz_eq.mpr ⟨e1,e2,hk b o (fun q=>e2 (q ▸ hZ)) e3⟩
 refine ⟨⟨fun b o e=>le b o (hi.keep b o e),fun a z e=>(hi.objs a z e).mono le fun o e'=>hk a o (fun q=>by rw [q,hi.off _ hZ] at e;cases e) e',hi.off,fun a ha=>?_,ns_same hi.ns hk hd,hi.nsub⟩,le⟩
 by_cases h:a=Z
 ·subst h;exact hl
 ·obtain ⟨o,ho⟩:=hi.live a ha;exact ⟨o,hk a o h ho⟩
theorem comp_turns {prog:Program} {w:World} {A:Around} {s:Shared} {R:Result→Shared→Prop} {elt target iter:Expr} {ifs:List Expr} {scope:Scope} {pos:Pos} {it acc:Value} {env:Env} (I:Nat→Shared→Prop)
  (turn:∀ n s,I n s→wpAny (model prog w) A (pyNext it) (fun r s₁=>match r with
   | none=>R (.ok .next) s₁
   | some v=>wpAny (model prog w) A (letOwnedTupleGo target it v) (fun _ s₀=>wpAny (model prog w) A (assign target env v) (fun _ s₂ =>
     wpAny (model prog w) A (forIn ifs true fun c r=>if r=true then do let ok ← isTrue c env (eval c env);pure (ForInStep.yield ok) else pure (ForInStep.yield r)) (fun ok s₃ =>
      if ok=true then wpAny (model prog w) A (eval elt env) (fun x s₄ =>
       wpAny (model prog w) A (call (.builtin "list.append") [acc,x]) (fun _ s₅=>∃ m,m < n∧I m s₅) (notedBy (model prog w) A env fun e s'=>R (.error e) s') s₄) (notedBy (model prog w) A env fun e s'=>R (.error e) s') s₃
      else ∃ m,m < n∧I m s₃) (notedBy (model prog w) A env fun e s'=>R (.error e) s') s₂) (notedBy (model prog w) A env fun e s'=>R (.error e) s') s₀) (notedBy (model prog w) A env fun e s'=>R (.error e) s') s₁) (notedBy (model prog w) A env fun e s'=>R (.error e) s') s)
  (n:Nat) (h:I n s):codeAny (model prog w) A (.compLoop (.ListComp elt [⟨target,iter,ifs,0⟩] scope pos) 0 it acc env) R s:=by
 refine codeAny_loop rfl I (fun n s hI=>?_) n h
 show wpAny _ A ((compTurn (.ListComp elt [⟨target,iter,ifs,0⟩] scope pos) 0 it acc env).onRaise (fun x=>do noteFrame x env;theTreesLotGoes x)) _ _ s
 refine wpAny_noted ?_
 rw [compTurn_list]
 refine wpAny_bind (wpAny_standAt (wpAny_bind (wpAny_mono (turn n s hI) (fun r s₁ h₁=>?_) fun _ _ e=>e)))
 cases r with
 | none=>exact wpAny_pure h₁
 | some v =>
  refine wpAny_bind (wpAny_mono h₁ (fun _ s₀ h₀=>wpAny_bind (wpAny_mono h₀ (fun _ s₂ h₂=>wpAny_bind (wpAny_mono h₂ (fun ok s₃ h₃=>?_) fun _ _ e=>e)) fun _ _ e=>e)) fun _ _ e=>e)
  cases ok with
  | false=>exact wpAny_pure ⟨rfl,h₃⟩
  | true=>exact wpAny_bind (wpAny_bind (wpAny_mono h₃ (fun x s₄ h₄=>wpAny_bind (wpAny_mono h₄ (fun _ s₅ h₅=>wpAny_pure (wpAny_pure ⟨rfl,h₅⟩)) fun _ _ e=>e)) fun _ _ e=>e))
inductive CI (c c':Cx g) (s:Shared) (σ:Sto) (D:Addr) (Sx:Nat→Heap→Prop) (Slot:Heap→Prop) (J:List AV→List AV→Sto→Prop) (l:List AV):Nat→Shared→Prop
 | mk (j:Nat) (acc:List AV) (σ':Sto) (vs:List Value) (n:Nat) (h':Heap) (tk:Nat) (hj:j≤l.length) (hS:Sx j h') (hD:h'.get? D=some (lstO vs n)) (hi:c'.Inv σ' { s with heap:=h',toks:=tk }) (hn:Slot h') (hv:RepL g.w (fz h' c'.own σ') vs acc) (hle:(c.F σ s).le (fz h' c'.own σ'))
   (ho:∀ a∈c.own,Kpt s.heap h' a) (hJ:J (l.drop j) acc σ') (hl:acc.length≤j):CI c c' s σ D Sx Slot J l (l.length+1 - j) { s with heap:=h',toks:=tk }
theorem comp_loopG {elt iter tgt:Expr} {pos:Pos} {t:Option Expr} {scope sc':Scope} {fr:Rho} {l:List AV} {s:Shared} {R:Result→Shared→Prop} {env':Env} {own' hid':List Addr} {I D Z:Addr} {fp:List Addr} {P:Nat→Value→Prop} {Sx:Nat→Heap→Prop} {h₁:Heap} {tk₁:Nat} {Slot:Heap→Prop}
  (bnd:AV→Rho) (okT:AV→Prop) (J:List AV→List AV→Sto→Prop) (W:Walks g.prog g.w c.A I fp [I] l.length P Sx) (hlv:∀ j h,Sx j h→∃ o,h.get? I=some o∧itOk o=true) (hfp:∀ b∈fp,b=I∨∃ o,c.F σ s b=some o) (hP:∀ i u,i < l.length→P i u→∃ x,l[i]?=some x∧Rep g.w (c.F σ s) u x)
  (hIin:I∈own') (hDin:D∈own') (hZin:Z∈own') (hsub:∀ a∈c.own,a∈own') (hDo:D∉c.own) (hZo:Z∉c.own) (hIo:I∉c.own) (hDN:D∉nsOf c.A) (hIN:I∉nsOf c.A) (hID:I≠D) (hIZ:I≠Z) (hZD:Z≠D) (hZs:s.heap.objs.size≤Z) (hsz:l.length≤sizeLine)
  (slot_at:∀ {h h':Heap},Slot h→(∀ a∈own',a≠D→a≠I→Kpt h h' a)→Slot h')
  (put:∀ {σ':Sto} {s':Shared} {u:Value} {z:AV} {Q:Unit→Shared→Prop} {E:Value→Shared→Prop},(compCx c env' own' hid' sc' R).Inv σ' s'→Slot s'.heap→Rep g.w ((compCx c env' own' hid' sc' R).F σ' s') u z→okT z→(c.F σ s).le ((compCx c env' own' hid' sc' R).F σ' s')→(∀ a∈c.own,Kpt s.heap s'.heap a) →
   (∀ h' tk,(compCx c env' own' hid' sc' R).Inv σ' { s' with heap:=h',toks:=tk }→Slot h'→St (compCx c env' own' hid' sc' R) (bnd z++fr) σ' { s' with heap:=h',toks:=tk }→((compCx c env' own' hid' sc' R).F σ' s').le (fz h' own' σ')→(∀ b o,b≠Z→s'.heap.get? b=some o→h'.get? b=some o)→Q () { s' with heap:=h',toks:=tk })→wpAny g.M c.A (assign tgt env' u) Q E s')
  (okJ:∀ y rest acc σ₁,J (y::rest) acc σ₁→okT y)
  (turn:∀ y rest acc σ₁,J (y::rest) acc σ₁→evT (compCx c env' own' hid' sc' R) (bnd y++fr) t σ₁ fun b σ₂=>match b with
   | true=>ev (compCx c env' own' hid' sc' R) (bnd y++fr) elt σ₂ fun z σ₃=>J rest (acc++[z]) σ₃
   | false=>J rest acc σ₂)
  (hS₁:Sx 0 h₁) (hacc₁:h₁.get? D=some (lstO [] 0)) (inv₁:(compCx c env' own' hid' sc' R).Inv σ { s with heap:=h₁,toks:=tk₁ }) (slot₁:Slot h₁) (hF₁:(c.F σ s).le (fz h₁ own' σ)) (oldO:∀ a∈c.own,Kpt s.heap h₁ a) (hJ:J l [] σ)
  (fin:∀ (l':List AV) (σ':Sto) (h' h₃:Heap) (tk tk₃:Nat) (vs:List Value) (n:Nat),J [] l' σ'→h'.get? D=some (lstO vs n)→Mine.Inv g.w g.H₀ (nsOf c.A) own' σ' { s with heap:=h',toks:=tk }→Slot h'→RepL g.w (fz h' own' σ') vs l'→(c.F σ s).le (fz h' own' σ')→(∀ a∈c.own,Kpt s.heap h' a)→l'.length≤l.length →
   (∀ b o,b≠I→h'.get? b=some o→h₃.get? b=some o)→R (.ok .next) { s with heap:=h₃,toks:=tk₃ }) :
  codeAny g.M c.A (.compLoop (.ListComp elt [⟨tgt,iter,t.toList,0⟩] scope pos) 0 (.ref I) (.ref D) env') R { s with heap:=h₁,toks:=tk₁ }:=by
 let c':=compCx c env' own' hid' sc' R
 refine comp_turns (CI c c' s σ D Sx Slot J l) ?_ (l.length+1) (.mk 0 [] σ [] 0 h₁ _ (Nat.zero_le _) hS₁ hacc₁ inv₁ slot₁ .nil hF₁ oldO hJ (Nat.le_refl _))
 intro k s' hpk
 cases hpk with | mk j acc σ' vs n h' tk hj hSj hDj hi hn hvs hle hown hJj hlen=>?_
 by_cases hlt:j < l.length
 ·refine W.item j _ _ _ hlt hSj fun u h₃ tk₃ hPu hS₃ hk₃=>?_
  have hk₃':∀ b o,b≠I→h'.get? b=some o→h₃.get? b=some o:=fun b o hb=>hk₃ b o (by simpa using hb)
  obtain ⟨y',hy',hyr⟩:=hP j u hlt hPu
  have hdrop:l.drop j=y'::l.drop (j+1):=by
   rw [List.getElem?_eq_getElem hlt] at hy'
   injection hy' with hy'
   rw [List.drop_eq_getElem_cons hlt,hy']
  rw [hdrop] at hJj
  -- the walker turned
  have le₃:(fz h' c'.own σ').le (fz h₃ c'.own σ'):=fun b o e=>by
   obtain ⟨e1,e2,e3⟩:=fz_eq.mp e
   exact fz_eq.mpr ⟨e1,e2,hk₃' b o (fun q=>e2 (q ▸ hIin)) e3⟩
  have inv₃:c'.Inv σ' { s with heap:=h₃,toks:=tk₃ }:=by
   refine ⟨fun b o e=>le₃ b o (hi.keep b o e),fun a z e=>(hi.objs a z e).mono le₃ fun o e'=>hk₃' a o (fun q=>by rw [q,hi.off _ hIin] at e;cases e) e',hi.off,fun a ha=>?_,fun a ha=>(hi.ns a ha).keep fun o e=>hk₃' a o (fun q=>hIN (q ▸ ha)) e,hi.nsub⟩
   by_cases hq:a=I
   ·rw [hq];exact (hlv _ _ hS₃).imp fun _ q=>q.1
   ·obtain ⟨o,ho⟩:=hi.live a ha;exact ⟨o,hk₃' a o hq ho⟩
  have hn₃:Slot h₃:=slot_at hn fun a _ _ hne => .of fun o e=>hk₃' a o hne e
  obtain ⟨oI,hoI,hIok⟩:=hlv _ _ hS₃
  refine owned_skip (s:={ s with heap:=h₃,toks:=tk₃ }) hoI hIok ?_
  have own₃:∀ a∈c.own,Kpt s.heap h₃ a:=fun a ha=>(hown a ha).trans (.of fun o e=>hk₃' a o (fun q=>hIo (q ▸ ha)) e)
  refine put inv₃ hn₃ (hyr.mono (hle.trans le₃)) (okJ _ _ _ _ hJj) (hle.trans le₃) own₃ fun h₄ tk₄ inv₄ hn₄ st₄ le34 hk₄=>?_
  have le₄:(c.F σ s).le (fz h₄ c'.own σ'):=(hle.trans le₃).trans le34
  have own₄:∀ a∈c.own,Kpt s.heap h₄ a:=fun a ha=>(own₃ a ha).trans (.of fun o e=>hk₄ a o (fun q=>hZo (q ▸ ha)) e)
  have hD₄:h₄.get? D=some (lstO vs n):=hk₄ D _ (Ne.symm hZD) (hk₃' D _ (Ne.symm hID) hDj)
  have hS₄:Sx (j+1) h₄:=by
   refine W.frame _ _ _ hS₃ fun b hb o ho=>hk₄ b o ?_ ho
   rcases hfp b hb with q | ⟨o₀,ho₀⟩
   ·rw [q];exact hIZ
   ·have:=Heap.lt_size (fz_eq.mp ho₀).2.2
    exact fun e=>absurd this (e ▸ Nat.not_lt.mpr hZs)
  have hvs₄:RepL g.w (fz h₄ c'.own σ') vs acc:=(hvs.mono le₃).mono le34
  have hturn:=turn y' (l.drop (j+1)) acc σ' hJj
  refine pg.use (evT_sound hturn _ st₄) (fun b s₅ b' σ₅ i₅ e₅ hbb q₅=>?_)
  subst hbb
  obtain ⟨h₅,tk₅,e5⟩:=e₅.same
  subst e5
  have hgl₅:(fz h₄ c'.own σ').le (fz h₅ c'.own σ₅):=e₅.grow
  have hown₅:∀ a∈c'.own,Kpt h₄ h₅ a:=e₅.own
  have hD₅:=(hown₅ D hDin).get hD₄ (fun _ _ e=>by cases e)
  -- a turn's end
  have tend:∀ {σ₆:Sto} {h₆:Heap} {tk₆:Nat},c'.Inv σ₆ { s with heap:=h₆,toks:=tk₆ }→(fz h₅ c'.own σ₅).le (fz h₆ c'.own σ₆)→(∀ a∈c'.own,a≠D→Kpt h₅ h₆ a) →
    ∀ acc' vs' n',h₆.get? D=some (lstO vs' n')→RepL g.w (fz h₆ c'.own σ₆) vs' acc'→J (l.drop (j+1)) acc' σ₆→acc'.length≤j+1 →
    ∃ mm,mm < l.length+1 - j∧CI c c' s σ D Sx Slot J l mm { s with heap:=h₆,toks:=tk₆ }:=by
   intro σ₆ h₆ tk₆ i₆ g₆ o₆ acc' vs' n' hD₆ hvs₆ hJ₆ hl₆
   have back:∀ a∈c'.own,a≠D→Kpt h₄ h₆ a:=fun a ha hne=>(hown₅ a ha).trans (o₆ a ha hne)
   refine ⟨l.length+1 - (j+1),by omega,.mk (j+1) acc' σ₆ vs' n' h₆ tk₆ hlt ?_ hD₆ i₆ (slot_at hn₄ fun a ha hne _=>back a ha hne) hvs₆ (le₄.trans (hgl₅.trans g₆)) (fun a ha=>?_) hJ₆ hl₆⟩
   ·refine W.frame _ _ _ hS₄ fun b hb o ho=>?_
    rcases hfp b hb with q | ⟨o₀,ho₀⟩
    ·subst b;obtain ⟨oI',hoI',hok'⟩:=hlv _ _ hS₄
     rw [hoI'] at ho;injection ho with ho;subst ho
     exact (back _ hIin hID).get hoI' (itOk.nd hok')
    ·have h7:=le₄ b o₀ ho₀
     have h8:=(fz_eq.mp h7).2.2
     rw [ho] at h8
     injection h8 with h8
     subst h8
     exact (fz_eq.mp (g₆ b o (hgl₅ b o h7))).2.2
   ·exact (own₄ a ha).trans (back a (hsub a ha) (fun q=>hDo (q ▸ ha)))
  cases b with
  | false =>
   rw [if_neg Bool.false_ne_true]
   exact tend i₅ (.refl _) (fun _ _ _ _ e=>e) acc vs n hD₅ (hvs₄.mono hgl₅) q₅ (by exact o4 hlen)
  | true =>
   rw [if_pos rfl]
   have st₅:St c' (bnd y'++fr) σ₅ { s with heap:=h₅,toks:=tk₅ }:=st₄.ev i₅ e₅
   refine pg.use (q₅ _ st₅) (fun z s₆ z' σ₆ i₆ e₆ r₆ q₆=>?_)
   obtain ⟨h₆,tk₆,e6⟩:=e₆.same
   subst e6
   have hgl₆:(fz h₅ c'.own σ₅).le (fz h₆ c'.own σ₆):=e₆.grow
   have hown₆:∀ a∈c'.own,Kpt h₅ h₆ a:=e₆.own
   have hD₆:h₆.PlainList D vs.toArray:=⟨n,(hown₆ D hDin).get hD₅ (fun _ _ e=>by cases e)⟩
   have hvlen:vs.length=acc.length:=hvs.length
   refine wpAny_list_append_plain hD₆ (fun h₇ hp₇ hs₇=>?_) (by rw [List.size_toArray];exact o5 hsz hlen hlt hvlen)
   have hF₇:fz h₇ c'.own σ₆=fz h₆ c'.own σ₆:=fz_sameBut hDin hs₇
   obtain ⟨n₇,hn₇⟩:=hp₇
   have hD₇:h₇.get? D=some (lstO (vs++[z]) n₇):=by rw [hn₇];simp
   refine tend (h₆:=h₇) (tk₆:=tk₆) (i₆.sameBut (t:=tk₆) hDin hs₇ ⟨_,hD₇⟩ (fun h=>absurd h hDN)) ?_ (fun a ha hne=>(hown₆ a ha).trans (.same hs₇ hne)) (acc++[z']) (vs++[z]) n₇ hD₇ ?_ q₆ (by rw [List.length_append,List.length_singleton];exact o6 hlen hvlen)
   ·rw [hF₇];exact hgl₆
   ·rw [hF₇]
    exact ((hvs₄.mono hgl₅).mono hgl₆).append (.cons r₆ .nil)
 ·have hjl:j=l.length:=by exact o3 hj hlt
  subst hjl
  refine W.done _ _ _ hSj fun h₃ tk₃ hk₃=>?_
  have hk₃':∀ b o,b≠I→h'.get? b=some o→h₃.get? b=some o:=fun b o hb=>hk₃ b o (by simpa using hb)
  exact fin acc σ' h' h₃ tk tk₃ vs n (by simpa using hJj) hDj hi hn hvs hle hown hlen hk₃'
noncomputable def Binds (c:Cx g) (tgt:Expr) (xs:List Str) (bnd:AV→Rho) (okT:AV→Prop):Prop:=(∀ z,okT z→(bnd z).map (·.1)=xs) ∧
 ∀ {env':Env} {C:Addr} {s':Shared} {m:Str→Option Value} {u:Value} {z:AV} {F:Fz} {Q:Unit→Shared→Prop} {E:Value→Shared→Prop},(∀ x∈xs,env'.kindOf x=some .local)→(env'.scope.kind == .class || (env'.scope.kind == .module && env'.locals != env'.globals))=false→env'.locals=C→s'.heap.Ns C m→Rep g.w F u z→(∀ b o,F b=some o→s'.heap.get? b=some o)→okT z →
  (∀ h' tk m',h'.Ns C m'→(∀ n v,(n,some v)∈bnd z→∃ u',m' n=some u'∧Rep g.w F u' v)→(∀ b o,b≠C→s'.heap.get? b=some o→h'.get? b=some o)→Q () { s' with heap:=h',toks:=tk })→wpAny g.M c.A (assign tgt env' u) Q E s'
theorem binds_name {x:Str} {px:Pos}:Binds c (.Name x px) [x] (fun z=>[(x,some z)]) fun _=>True:=⟨fun _ _=>rfl,fun {env' C s' m u z F Q E} hl hp hC hn hz hF _ q=>by
 subst hC
 refine wpAny_assign_Name (wpAny_storeName_local (hl x List.mem_cons_self) hn (fun h₄ hn₄ hs₄=>?_) hp)
 refine q h₄ _ _ hn₄ (fun n v hv=>?_) fun b o hb e=>(hs₄.2 b hb).trans e
 rw [List.mem_singleton] at hv
 injection hv with e1 e2
 injection e2 with e2
 subst e1 e2
 exact ⟨u,if_pos rfl,hz⟩⟩
theorem free_cells {fr:Rho} {scope:Scope} {s:Shared} (hfree:∀ y∈scope.names,y.2 = .free→y.1∈fr.map (·.1)) (hk:∀ n∈fr.map (·.1),c.sc.names.lookup n=some .cell) (hfr:FrIn fr ρ) (st:St c ρ σ s):∀ y∈scope.names,y.2 = .free→∃ a,c.env.cells.lookup y.1=some a:=fun y hy hf=>by
 obtain ⟨p,hp,e⟩:=List.mem_map.mp (hfree y hy hf)
 rcases (st.fr.kinds y.1 (e ▸ (hfr p hp).1)).2 with q | ⟨_,q⟩
 ·rw [hk _ (hfree y hy hf)] at q;cases q
 ·exact q
theorem comp_core {elt iter tgt:Expr} {xs:List Str} {pos:Pos} {t:Option Expr} {scope:Scope} {fr:Rho} {y:AV} {v:Value} {l:List AV} {s:Shared} {RR:Value→Addr→Result→Shared→Prop} {E:Value→Shared→Prop}
    (bnd:AV→Rho) (okT:AV→Prop) (asg:Binds c tgt xs bnd okT) (J:List AV→List AV→Sto→Prop) (okJ:∀ y rest acc σ₁,J (y::rest) acc σ₁→okT y) (hok:compOkL xs (fr.map (·.1)) scope c.sc=true) (hfr:FrIn fr ρ) (st:St c ρ σ s) (r:Rep g.w (c.F σ s) v y) (hit:Iter c y l) (hJ:J l [] σ) (hsz:l.length≤sizeLine)
    (turn:∀ c':Cx g,c'.A=c.A→c'.sc=relab scope c.sc→∀ y rest acc σ₁,J (y::rest) acc σ₁→evT c' (bnd y++fr) t σ₁ fun b σ₂=>match b with
      | true=>ev c' (bnd y++fr) elt σ₂ fun z σ₃=>J rest (acc++[z]) σ₃
      | false=>J rest acc σ₂)
    (hRR:∀ D C l' σ' h' tk m vs n,J [] l' σ'→D∉c.own→C∉c.own→C≠D→s.heap.objs.size≤D→s.heap.objs.size≤C→h'.get? D=some (lstO vs n) →
      RepL g.w (fz h' (C::D::c.own) σ') vs l'→h'.Ns C m→(c.F σ s).le (fz h' (C::D::c.own) σ')→(∀ a∈c.own,Kpt s.heap h' a) →
      Mine.Inv g.w g.H₀ (nsOf c.A) (C::D::c.own) σ' { s with heap:=h',toks:=tk }→l'.length≤l.length→RR (.ref D) C (.ok .next) { s with heap:=h',toks:=tk }) :
    wpAny g.M c.A (pyIter v) (fun it s₂=>wpAny g.M c.A (newList []) (fun acc s₃=>wpAny g.M c.A (newFunctionEnv scope c.env.globals (closN c.env.cells scope.names []) [] c.env.qual none .none (some c.env)) (fun cenv s₄ =>
      codeAny g.M c.A (.compStart (.ListComp elt [⟨tgt,iter,t.toList,0⟩] scope pos) 0 it acc { cenv with scope:=relabel scope c.env }) (RR acc cenv.locals) s₄) E s₃) E s₂) E s:=by
  obtain ⟨hkind,hcell,hfree,hnames,hx,hnd,hfrk⟩:=compOk_facts hok
  refine wpAny_mono (hit σ s v st.inv r E) (fun it s₂ q_=>?_) fun _ _ e=>e
  obtain ⟨I,fp,P,Sx,hI,W,hS,⟨h₂,tk₂,hs₂⟩,hk,hszI,hlv0,hfp,hP⟩:=q_
  have hlv:∀ j h,Sx j h→∃ o,h.get? I=some o:=fun j h hx=>(hlv0 j h hx).imp fun _ q=>q.1
  subst hI
  subst hs₂
  refine wpAny_newObj_type (wpAny_newFunctionEnv hcell (by intro y hy;simp at hy) (fun h₁ hns₁ hsb₁=>?_) hkind)
  dsimp only at hns₁ hsb₁ ⊢
  have hIlt:I < h₂.objs.size:=by obtain ⟨o,ho⟩:=hlv 0 _ hS;exact Heap.lt_size ho
  generalize hD:h₂.objs.size=D at hns₁ hsb₁ ⊢
  generalize hH2:h₂.push { cls := .type "list", dict:=none,data := .seq ([]:List Value).toArray }=H2 at hns₁ hsb₁ ⊢
  have hC:H2.objs.size=D+1:=by rw [← hH2,Heap.size_push,hD]
  generalize hCe:H2.objs.size=C at hns₁ hsb₁ hC ⊢
  have hscR:relabel scope c.env=relab scope c.sc:=relabel_eq st.fr.sc
  have hfreeC:=free_cells hfree (fun n hn=>(relabN_cell hcell (hfrk n hn)).2) hfr st
  generalize hcl:closN c.env.cells scope.names []=cl
  have hclget:∀ n a,cl.lookup n=some a→c.env.cells.lookup n=some a:=fun n a h=>by
    rw [← hcl] at h
    exact (closN_get hfreeC h).resolve_right (by simp)
  have hclhas:∀ n,scope.names.lookup n=some .free→∃ a,cl.lookup n=some a:=fun n h=>by
    rw [← hcl]
    exact Option.isSome_iff_exists.mp (closN_has (.inl h))
  have hDs:s.heap.objs.size≤D:=by
    rw [← hD]
    exact Nat.le_trans hszI (Nat.le_of_lt hIlt)
  have hIo:I∉c.own:=(st.inv.fresh hszI).2
  have hDo:D∉c.own:=(st.inv.fresh hDs).2
  have hCs:s.heap.objs.size≤C:=by rw [hC];exact Nat.le_succ_of_le hDs
  have hCo:C∉c.own:=(st.inv.fresh hCs).2
  have hCD:C≠D:=by rw [hC];exact Nat.ne_of_gt (Nat.lt_succ_self _)
  have hID:I≠D:=by rw [← hD];exact Nat.ne_of_lt hIlt
  have hIC:I≠C:=by rw [hC];rw [hD] at hIlt;exact Nat.ne_of_lt (Nat.lt_succ_of_lt hIlt)
  have old:∀ b o,h₂.get? b=some o→h₁.get? b=some o:=fun b o e=>by
    have hb:b < D:=hD ▸ Heap.lt_size e
    exact hsb₁.extBut b o (by rw [hC];exact Nat.ne_of_lt (Nat.lt_succ_of_lt hb)) (Heap.get?_push_of_some _ (hH2 ▸ Heap.get?_push_of_some _ e))
  have oldS:∀ b o,s.heap.get? b=some o→h₁.get? b=some o:=fun b o e=>old b o (hk b o e)
  have hacc₁:h₁.get? D=some (lstO [] 0):=hsb₁.extBut _ _ (Ne.symm hCD) (Heap.get?_push_of_some _ (hH2 ▸ hD ▸ Heap.get?_push_size _ rfl))
  have hS₁:Sx 0 h₁:=W.frame _ _ _ hS fun b _ o e=>old b o e
  -- the comprehension's own context
  generalize hE':compEnvC scope cl C c.env=env'
  have he1:env'.scope=relab scope c.sc:=by rw [← hE',← hscR];rfl
  have he2:env'.locals=C:=by rw [← hE'];rfl
  have he3:env'.cells=cl:=by rw [← hE'];rfl
  have he4:env'.globals=mainGlobals:=by rw [← hE'];exact st.fr.glob
  have he5:env'.builtins=builtinsNs:=by rw [← hE'];exact st.fr.blt
  show codeAny g.M c.A (.compStart (.ListComp elt [⟨tgt,iter,t.toList,0⟩] scope pos) 0 (.ref I) (.ref D) (compEnvC scope cl C c.env)) (RR (.ref D) C) _
  rw [hE']
  let c':Cx g:=⟨c.A,env',C::D::I::c.own,D::I::c.own,notedBy g.M c.A env' fun e s'=>RR (.ref D) C (.error e) s',relab scope c.sc,false⟩
  have hF₁:(c.F σ s).le (fz h₁ c'.own σ):=fun b o e=>by
    obtain ⟨e1,e2,e3⟩:=fz_eq.mp e
    have hb:=Heap.lt_size e3
    refine fz_eq.mpr ⟨e1,fun hm=>?_,oldS b o e3⟩
    rcases List.mem_cons.mp hm with q | hm
    · exact absurd hb (q ▸ Nat.not_lt.mpr hCs)
    rcases List.mem_cons.mp hm with q | hm
    · exact absurd hb (q ▸ Nat.not_lt.mpr hDs)
    rcases List.mem_cons.mp hm with q | hm
    · exact absurd hb (q ▸ Nat.not_lt.mpr hszI)
    · exact e2 hm
  have inv₁:c'.Inv σ { s with heap:=h₁,toks:=tk₂+([]:List (Str×Value)).length }:=by
    refine ⟨fun b o e=>hF₁ b o (st.inv.keep b o e),fun a z e=>(st.inv.objs a z e).mono hF₁ fun o e=>oldS a o e,fun a ha=>?_,fun a ha=>?_,fun a ha=>(st.inv.ns a ha).keep fun o e=>oldS a o e,fun a ha=>List.mem_cons_of_mem _ (List.mem_cons_of_mem _ (List.mem_cons_of_mem _ (st.inv.nsub a ha)))⟩
    · rcases List.mem_cons.mp ha with q | ha
      · rw [q];exact (st.inv.fresh hCs).1
      rcases List.mem_cons.mp ha with q | ha
      · rw [q];exact (st.inv.fresh hDs).1
      rcases List.mem_cons.mp ha with q | ha
      · rw [q];exact (st.inv.fresh hszI).1
      · exact st.inv.off a ha
    · rcases List.mem_cons.mp ha with q | ha
      · rw [q];obtain ⟨o,_,_,ho,_⟩:=hns₁;exact ⟨o,ho⟩
      rcases List.mem_cons.mp ha with q | ha
      · rw [q];exact ⟨_,hacc₁⟩
      rcases List.mem_cons.mp ha with q | ha
      · rw [q];exact hlv 0 _ hS₁
      · obtain ⟨o,ho⟩:=st.inv.live a ha;exact ⟨o,oldS a o ho⟩
  have fr':Frame c' (xs++fr.map (·.1)):=by
    refine ⟨he1,(fun h=>by cases h),?_,he4,he5,?_,?_,fun a ha=>List.mem_cons_of_mem _ ha,fun n a ha=>?_,(fun h=>by cases h),fun n hn=>?_,?_⟩
    · show env'.scope.kind=_;rw [he1];exact hkind
    · show env'.locals∈_;rw [he2];exact List.mem_cons_self
    · show env'.locals∉_
      rw [he2]
      simp only [List.mem_cons,not_or,c']
      exact ⟨hCD,Ne.symm hIC,hCo⟩
    · have ha':cl.lookup n=some a:=he3 ▸ ha
      have:=(st.fr.cells n a (hclget n a ha')).1
      refine ⟨List.mem_cons_of_mem _ (List.mem_cons_of_mem _ (List.mem_cons_of_mem _ this)),?_⟩
      show a≠env'.locals
      rw [he2]
      exact fun q=>hCo (q ▸ this)
    · rcases List.mem_append.mp hn with hn | hn
      · refine ⟨(hx n hn).2,.inl ?_⟩
        have:=lookup_relabel_local (env:=c.env) (hx n hn).1
        show (relab scope c.sc).names.lookup _=_
        rw [← hscR]
        exact this
      · obtain ⟨p,hp,rfl⟩:=List.mem_map.mp hn
        have hk1:=hfrk p.1 hn
        refine ⟨(st.fr.kinds p.1 (hfr p hp).1).1,.inr ⟨hk1,?_⟩⟩
        show ∃ a,env'.cells.lookup p.1=some a
        rw [he3]
        exact hclhas p.1 (relabN_cell hcell hk1).1
    · exact hnd
  -- the state at a turn
  have mkSt:∀ {σ':Sto} {s':Shared} {m:Str→Option Value} {z:AV},okT z→c'.Inv σ' s'→s'.heap.Ns C m→(∀ n v,(n,some v)∈bnd z→∃ u,m n=some u∧Rep g.w (c'.F σ' s') u v)→(c.F σ s).le (c'.F σ' s')→(∀ a∈c.own,Kpt s.heap s'.heap a) →
      St c' (bnd z++fr) σ' s':=by
    intro σ' s' m z hz0 hi hn hm hle hown
    have hbn:=asg.1 z hz0
    refine ⟨hi,by rw [List.map_append,hbn];exact fr',⟨m,by show s'.heap.Ns env'.locals m;rw [he2];exact hn,fun n w' hw hkn=>?_⟩,fun n a hkn ha=>?_⟩
    · rcases List.mem_append.mp hw with hw | hw
      · exact hm n w' hw
      · have:=hfrk n (List.mem_map.mpr ⟨_,hw,rfl⟩)
        have hkn':(relab scope c.sc).names.lookup n=some .local:=hkn
        rw [this] at hkn';cases hkn'
    · have ha':cl.lookup n=some a:=he3 ▸ ha
      have hkn':(relab scope c.sc).names.lookup n=some .cell:=hkn
      have hcn:=hclget n a ha'
      obtain ⟨vo,hcl0,hv⟩:=st.cl n a (relabN_cell hcell hkn').2 hcn
      refine ⟨vo,(hown a (st.fr.cells n a hcn).1).cell hcl0,fun w' hw=>?_⟩
      rcases List.mem_append.mp hw with hw | hw
      · have hnx:n∈xs:=hbn ▸ List.mem_map.mpr ⟨_,hw,rfl⟩
        have:=lookup_relabel_local (env:=c.env) (hx n hnx).1
        have h':(relabel scope c.env).names.lookup n=some .cell:=hscR ▸ hkn'
        rw [show (relabel scope c.env).names.lookup n=some .local from this] at h';cases h'
      · obtain ⟨u',e1,e2⟩:=hv w' ((hfr _ hw).2 w' rfl)
        exact ⟨u',e1,e2.mono hle⟩
  have hIN:I∉nsOf c.A:=st.inv.freshN hszI
  have loop:codeAny g.M c.A (.compLoop (.ListComp elt [⟨tgt,iter,t.toList,0⟩] scope pos) 0 (.ref I) (.ref D) env') (RR (.ref D) C) { s with heap:=h₁,toks:=tk₂+([]:List (Str×Value)).length }:=by
   refine comp_loopG (elt:=elt) (iter:=iter) (tgt:=tgt) (pos:=pos) (t:=t) (scope:=scope) (sc':=relab scope c.sc) (R:=RR (.ref D) C) (hid':=D::I::c.own) (Slot:=fun h=>∃ m,h.Ns C m) (tk₁:=tk₂+([]:List (Str×Value)).length) bnd okT J W hlv0 hfp hP (List.mem_cons_of_mem _ (List.mem_cons_of_mem _ List.mem_cons_self)) (List.mem_cons_of_mem _ List.mem_cons_self) (List.mem_cons_self (a:=C) (l:=D::I::c.own)) (fun a ha=>List.mem_cons_of_mem _ (List.mem_cons_of_mem _ (List.mem_cons_of_mem _ ha))) hDo hCo hIo (st.inv.freshN hDs) hIN hID hIC hCD hCs hsz
    (fun q hk=>q.imp fun m hn=>(hk C List.mem_cons_self hCD (Ne.symm hIC)).ns hn)
    (fun {σ' s' u z Q E} hi ⟨m,hn⟩ hz hz0 hle hown hq=>by
      refine asg.2 (env':=env') (fun n hm=>?_) (by rw [he1,show (relab scope c.sc).kind = .function from hkind];rfl) he2 hn hz (fun b o e=>(fz_eq.mp e).2.2) hz0 fun h₄ tk₄ m' hn₄ hm₄ hk₄=>?_
      · unfold Env.kindOf
        rw [he1,← hscR]
        exact lookup_relabel_local (env:=c.env) (hx n hm).1
      · obtain ⟨inv₄,le34⟩:=hi.slot (tk:=tk₄) List.mem_cons_self hk₄ (by obtain ⟨o,_,_,ho,_⟩:=hn₄;exact ⟨o,ho⟩) (fun _ => .of_ns hn₄)
        exact hq h₄ tk₄ inv₄ ⟨m',hn₄⟩ (mkSt hz0 inv₄ hn₄ (fun n v hv=>let ⟨u',q1,q2⟩:=hm₄ n v hv;⟨u',q1,q2.mono le34⟩) (hle.trans le34) fun a ha=>(hown a ha).trans (.of fun o e=>hk₄ a o (fun q=>hCo (q ▸ ha)) e)) le34 hk₄)
    okJ (fun y rest acc σ₁ hJ=>turn c' rfl rfl y rest acc σ₁ hJ) hS₁ hacc₁ inv₁ ⟨_,hns₁⟩ hF₁ (fun a _ => .of fun o e=>oldS a o e) hJ ?_
   intro acc σ' h' h₃ tk tk₃ vs n hJj hDj hi ⟨m,hn⟩ hvs hle hown hlen hk₃'
   have le₃:(fz h' c'.own σ').le (fz h₃ (C::D::c.own) σ'):=fun b o e=>by
     obtain ⟨e1,e2,e3⟩:=fz_eq.mp e
     simp only [c',List.mem_cons,not_or] at e2
     refine fz_eq.mpr ⟨e1,?_,hk₃' b o e2.2.2.1 e3⟩
     simp only [List.mem_cons,not_or]
     exact ⟨e2.1,e2.2.1,e2.2.2.2⟩
   have sub:∀ a∈C::D::c.own,a∈c'.own∧a≠I:=fun a ha=>by
     rcases List.mem_cons.mp ha with q | ha
     · rw [q];exact ⟨List.mem_cons_self,Ne.symm hIC⟩
     rcases List.mem_cons.mp ha with q | ha
     · rw [q];exact ⟨List.mem_cons_of_mem _ List.mem_cons_self,Ne.symm hID⟩
     · exact ⟨List.mem_cons_of_mem _ (List.mem_cons_of_mem _ (List.mem_cons_of_mem _ ha)),fun q=>hIo (q ▸ ha)⟩
   have hIin:I∈c'.own:=List.mem_cons_of_mem _ (List.mem_cons_of_mem _ List.mem_cons_self)
   refine hRR D C acc σ' h₃ tk₃ m vs n (by simpa using hJj) hDo hCo hCD hDs hCs (hk₃' D _ (Ne.symm hID) hDj) (hvs.mono le₃) (hn.at' fun o e=>hk₃' _ o (Ne.symm hIC) e) (hle.trans le₃)
     (fun a ha=>(hown a ha).trans (.of fun o e=>hk₃' a o (fun q=>hIo (q ▸ ha)) e)) ⟨fun b o e=>le₃ b o (hi.keep b o e),fun a z e=>(hi.objs a z e).mono le₃ fun o e'=>hk₃' a o (fun q=>by rw [q,hi.off _ hIin] at e;cases e) e',fun a ha=>hi.off a (sub a ha).1,fun a ha=>?_,fun a ha=>(hi.ns a ha).keep fun o e=>hk₃' a o (fun q=>hIN (q ▸ ha)) e,fun a ha=>List.mem_cons_of_mem _ (List.mem_cons_of_mem _ (st.inv.nsub a ha))⟩ hlen
   obtain ⟨o,ho⟩:=hi.live a (sub a ha).1
   exact ⟨o,hk₃' a o (sub a ha).2 ho⟩
  exact codeAny_compStart_list loop (W.self 0 _ _ _ hS₁ loop)
theorem comp_end {s:Shared} {D C:Addr} {l':List AV} {σ':Sto} {h' h'':Heap} {tk:Nat} {vs:List Value} {n:Nat} (hDo:D∉c.own) (hCo:C∉c.own) (hN:∀ a∈nsOf c.A,a∈c.own) (hCD:C≠D) (hDg:h'.get? D=some (lstO vs n))
  (hvs:RepL g.w (fz h' (C::D::c.own) σ') vs l') (hle:(c.F σ s).le (fz h' (C::D::c.own) σ')) (hown:∀ a∈c.own,Kpt s.heap h' a)
  (hi:Mine.Inv g.w g.H₀ (nsOf c.A) (C::D::c.own) σ' { s with heap:=h',toks:=tk }) (hs:Heap.SameBut C h' h'') :
  c.Inv σ' { s with heap:=h'',toks:=tk }∧c.Ev σ s σ' { s with heap:=h'',toks:=tk }∧RepL g.w (fz h'' c.own σ') vs l'∧h''.get? D=some (lstO vs n)∧σ' D=Option.none:=by
 have le:(fz h' (C::D::c.own) σ').le (fz h'' c.own σ'):=fun b o e=>by
  obtain ⟨e1,e2,e3⟩:=fz_eq.mp e
  simp only [List.mem_cons,not_or] at e2
  exact fz_eq.mpr ⟨e1,e2.2.2,(hs.2 b e2.1).trans e3⟩
 refine ⟨⟨fun b o e=>le b o (hi.keep b o e),fun a z e=>(hi.objs a z e).mono le fun o e'=>(hs.2 a ?_).trans e',fun a ha=>hi.off a (List.mem_cons_of_mem _ (List.mem_cons_of_mem _ ha)),fun a ha=>?_,fun a ha=>(hi.ns a ha).keep fun o e=>(hs.2 a (by rintro rfl;exact hCo (hN _ ha))).trans e,hN⟩,⟨⟨_,_,rfl⟩,hle.trans le,fun a ha=>(hown a ha).trans (.same hs ?_)⟩,
  hvs.mono le,(hs.2 D (Ne.symm hCD)).trans hDg,hi.off D (List.mem_cons_of_mem _ List.mem_cons_self)⟩
 ·rintro rfl;rw [hi.off _ List.mem_cons_self] at e;cases e
 ·obtain ⟨o,ho⟩:=hi.live a (List.mem_cons_of_mem _ (List.mem_cons_of_mem _ ha))
  exact ⟨o,(hs.2 a (fun q=>hCo (q ▸ ha))).trans ho⟩
 ·rintro rfl;exact hCo ha
theorem ev_compG {elt iter tgt:Expr} {xs:List Str} {pos:Pos} {t:Option Expr} {scope:Scope} {fr:Rho} {Q:AV→Sto→Prop} (bnd:AV→Rho) (okT:AV→Prop) (asg:Binds c tgt xs bnd okT) (J:List AV→List AV→Sto→Prop) (okJ:∀ y rest acc σ₁,J (y::rest) acc σ₁→okT y) (hok:compOkL xs (fr.map (·.1)) scope c.sc=true) (hfr:FrIn fr ρ)
  (h:ev c ρ iter σ fun y σ₁=>∃ l,Iter c y l∧l.length≤sizeLine∧J l [] σ₁)
  (turn:∀ c':Cx g,c'.A=c.A→c'.sc=relab scope c.sc→∀ y rest acc σ₁,J (y::rest) acc σ₁→evT c' (bnd y++fr) t σ₁ fun b σ₂=>match b with
   | true=>ev c' (bnd y++fr) elt σ₂ fun z σ₃=>J rest (acc++[z]) σ₃
   | false=>J rest acc σ₂)
  (done:∀ acc σ₁,J [] acc σ₁→Q (.list acc) σ₁)
  (hs:∀ x,foldedSetIterable iter c.env x=pure x:=by intro _;rfl):ev c ρ (.ListComp elt [⟨tgt,iter,t.toList,0⟩] scope pos) σ Q:=fun s st=>by
 obtain ⟨hkind,hcell,hfree,hnames,hx,hnd,hfrk⟩:=compOk_facts hok
 have hfreeC:=free_cells hfree (fun n hn=>(relabN_cell hcell (hfrk n hn)).2) hfr st
 show wpAny _ _ (eval _ _) _ _ _
 rw [eval_ListComp]
 refine wpAny_comprehension_free (use:=none) rfl hs (closureFor_eq hfreeC) hkind hnames (pg.use (h s st) (fun v s₁ y σ₁ i₁ e₁ r₁ qq=>?_))
 obtain ⟨l,hit,hsz,hJ⟩:=qq
 have st₁:=st.ev i₁ e₁
 refine comp_core (RR:=fun acc C=>compPost g.M c.A c.E none (PgP c (Rep g.w) σ s Q) acc C) bnd okT asg J okJ hok hfr st₁ r₁ hit hJ hsz turn ?_
 intro D C l' σ' h' tk m vs n hJ' hDo hCo hCD hDs hCs hDg hvs hn hle hown hi hlen
 refine ⟨m,hn,fun h'' hs''=>?_⟩
 obtain ⟨i₂,e₂,r₂,d₂,o₂⟩:=comp_end (s:=s₁) (tk:=tk) hDo hCo i₁.nsub hCD hDg hvs hle hown hi hs''
 refine ⟨.list l',σ',i₂,e₁.trans e₂,.list (fz_eq.mpr ⟨o₂,hDo,d₂⟩) r₂,done l' σ' hJ'⟩
theorem ev_comp {elt iter:Expr} {x:Str} {px pos:Pos} {t:Option Expr} {scope:Scope} {fr:Rho} {Q:AV→Sto→Prop} (J:List AV→List AV→Sto→Prop) (hok:compOk x (fr.map (·.1)) scope c.sc=true) (hfr:FrIn fr ρ)
  (h:ev c ρ iter σ fun y σ₁=>∃ l,Iter c y l∧l.length≤sizeLine∧J l [] σ₁)
  (turn:∀ c':Cx g,c'.A=c.A→c'.sc=relab scope c.sc→∀ y rest acc σ₁,J (y::rest) acc σ₁→evT c' ((x,some y)::fr) t σ₁ fun b σ₂=>match b with
   | true=>ev c' ((x,some y)::fr) elt σ₂ fun z σ₃=>J rest (acc++[z]) σ₃
   | false=>J rest acc σ₂)
  (done:∀ acc σ₁,J [] acc σ₁→Q (.list acc) σ₁)
  (hs:∀ x,foldedSetIterable iter c.env x=pure x:=by intro _;rfl):ev c ρ (.ListComp elt [⟨.Name x px,iter,t.toList,0⟩] scope pos) σ Q :=
 ev_compG _ _ binds_name J (fun _ _ _ _ _=>trivial) hok hfr h turn done hs
end Mine
end
section
namespace Mine
open PySem
variable {g:Gx} {c:Cx g} {ρ:Rho} {σ:Sto}
section
variable {a b:Int} {Q:AV→Sto→Prop}
theorem op_add (q:Q (.int (a+b)) σ):op2 c (binaryOp .Add) (.int a) (.int b) σ Q:=fun s x y i r1 r2=>by
 obtain ⟨_,rfl⟩:=r1.invInt;obtain ⟨_,rfl⟩:=r2.invInt;exact PyProof.Rows.add_int ⟨_,σ,i.toks _,.toks ..,.int _ _,q⟩
theorem op_sub (q:Q (.int (a - b)) σ):op2 c (binaryOp .Sub) (.int a) (.int b) σ Q:=fun s x y i r1 r2=>by
 obtain ⟨_,rfl⟩:=r1.invInt;obtain ⟨_,rfl⟩:=r2.invInt;exact PyProof.Rows.sub_int ⟨_,σ,i.toks _,.toks ..,.int _ _,q⟩
theorem op_mul (q:Q (.int (a * b)) σ) (h:(-(2 ^ 64) < a∧a < 2 ^ 64)∨(-(2 ^ 64) < b∧b < 2 ^ 64)):op2 c (binaryOp .Mult) (.int a) (.int b) σ Q:=fun s x y i r1 r2=>by
 obtain ⟨_,rfl⟩:=r1.invInt;obtain ⟨_,rfl⟩:=r2.invInt
 refine PyProof.Rows.mul_int ⟨_,σ,i.toks _,.toks ..,.int _ _,q⟩ ?_
 rcases h with h | h
 ·exact IntMulOk.of_left (intBits_le_64 h.1 h.2)
 ·exact IntMulOk.of_right (intBits_le_64 h.1 h.2)
theorem op_fdiv (hb:b≠0) (hs:b.natAbs < 1073741824) (q:Q (.int (a.fdiv b)) σ):op2 c (binaryOp .FloorDiv) (.int a) (.int b) σ Q:=fun s x y i r1 r2=>by
 obtain ⟨_,rfl⟩:=r1.invInt;obtain ⟨_,rfl⟩:=r2.invInt;exact PyProof.Rows.floordiv_int hb ⟨_,σ,i.toks _,.toks ..,.int _ _,q⟩ (.inl (PyProof.noPylong_small hs))
theorem op_fmod (hb:b≠0) (q:Q (.int (a.fmod b)) σ):op2 c (binaryOp .Mod) (.int a) (.int b) σ Q:=fun s x y i r1 r2=>by
 obtain ⟨_,rfl⟩:=r1.invInt;obtain ⟨_,rfl⟩:=r2.invInt;exact PyProof.Rows.mod_int' hb ⟨_,σ,i.toks _,.toks ..,.int _ _,q⟩
theorem cmp_lt (q:Q (.bool (decide (a < b))) σ):op2 c (compareOp .Lt) (.int a) (.int b) σ Q:=fun s x y i r1 r2=>by
 obtain ⟨_,rfl⟩:=r1.invInt;obtain ⟨_,rfl⟩:=r2.invInt;exact PyProof.Rows.lt_int ⟨_,σ,i,.refl ..,.bool _,q⟩
theorem cmp_gt (q:Q (.bool (decide (b < a))) σ):op2 c (compareOp .Gt) (.int a) (.int b) σ Q:=fun s x y i r1 r2=>by
 obtain ⟨_,rfl⟩:=r1.invInt;obtain ⟨_,rfl⟩:=r2.invInt;exact PyProof.Rows.gt_int ⟨_,σ,i,.refl ..,.bool _,q⟩
theorem cmp_eq (q:Q (.bool (a==b)) σ):op2 c (compareOp .Eq) (.int a) (.int b) σ Q:=fun s x y i r1 r2=>by
 obtain ⟨_,rfl⟩:=r1.invInt;obtain ⟨_,rfl⟩:=r2.invInt;exact PyProof.Rows.eq_int ⟨_,σ,i,.refl ..,.bool _,q⟩
end
section
variable {Q:AV→Sto→Prop}
noncomputable def isNoneA:AV→Bool
 | .none=>true
 | .raw v=>v == .none
 | _=>false
theorem rep_none {w:World} {F:Fz} {v:Value} {x:AV} (r:Rep w F v x):(v==Value.none)=isNoneA x :=
 Rep.casesOn (motive_1:=fun v x _=>(v==Value.none)=isNoneA x) r rfl (fun _=>rfl) (fun _ _=>rfl) (fun _ _=>rfl) (fun _ _=>rfl) (fun _ _=>rfl) (fun _ _ _=>rfl) (fun _=>rfl) (fun _=>rfl) (fun _=>rfl) (fun _ _=>rfl)
theorem cmp_is {x:AV} (q:Q (.bool (isNoneA x)) σ):op2 c (compareOp .Is) x .none σ Q:=fun s u v i r1 r2=>by
 obtain rfl:=r2.invNone;exact is_none (by rw [rep_none r1];exact ⟨_,σ,i,.refl ..,.bool _,q⟩)
theorem cmp_isNot {x:AV} (q:Q (.bool (!isNoneA x)) σ):op2 c (compareOp .IsNot) x .none σ Q:=fun s u v i r1 r2=>by
 obtain rfl:=r2.invNone;exact isNot_none (by rw [rep_none r1];exact ⟨_,σ,i,.refl ..,.bool _,q⟩)
theorem cmp_eqs {x y:Str} (q:Q (.bool (x==y)) σ):op2 c (compareOp .Eq) (.str x) (.str y) σ Q:=fun s u v i r1 r2=>by
 obtain ⟨_,rfl⟩:=r1.invStr;obtain ⟨_,rfl⟩:=r2.invStr;exact PyProof.Rows.eq_str ⟨_,σ,i,.refl ..,.bool _,q⟩
theorem op_adds {x y:Str} (hz:x.length+y.length≤sizeLine) (q:Q (.str (x++y)) σ):op2 c (binaryOp .Add) (.str x) (.str y) σ Q:=fun s u v i r1 r2=>by
 obtain ⟨_,rfl⟩:=r1.invStr;obtain ⟨_,rfl⟩:=r2.invStr;exact PyProof.Rows.add_str (fun t' tk=>⟨_,σ,i.toks _,.toks ..,.str _ _,q⟩) hz
end
noncomputable def Seq (σ:Sto) (x:AV) (l:List AV):Prop:=x = .list l∨∃ a,x = .obj a∧σ a=some (.lst l)
theorem Seq.list {l:List AV}:Seq σ (.list l) l := .inl rfl
theorem Seq.obj {a:Addr} {l:List AV} (h:σ a=some (.lst l)):Seq σ (.obj a) l := .inr ⟨a,rfl,h⟩
inductive HpL (w:World) (F:Fz) (h:Heap) (v:Value) (l:List AV):Prop
 | mk (a:Addr) (vs:List Value) (n:Nat) (hv:v = .ref a) (e:h.get? a=some (lstO vs n)) (r:RepL w F vs l):HpL w F h v l
theorem Seq.heap {x:AV} {l:List AV} {s:Shared} {v:Value} (h:Seq σ x l) (i:c.Inv σ s) (r:Rep g.w (c.F σ s) v x):HpL g.w (c.F σ s) s.heap v l:=by
 rcases h with rfl | ⟨a,rfl,ha⟩
 ·obtain ⟨_,_,_,rfl,hF,hr⟩:=r.invList
  exact ⟨_,_,_,rfl,(fz_eq.mp hF).2.2,hr⟩
 ·obtain rfl:=r.invObj
  obtain ⟨vs,n,h1,h2⟩:=i.objs a _ ha
  exact ⟨a,vs,n,rfl,h1,h2⟩
noncomputable def Made (Q:AV→Sto→Prop) (l:List AV) (σ:Sto):Prop:=Q (.list l) σ∨∀ a,σ a=Option.none→Q (.obj a) (σ.set a (.lst l))
theorem Sto.set_self {σ:Sto} {a:Addr} {x:AObj}:σ.set a x a=some x:=if_pos rfl
theorem Sto.set_ne {σ:Sto} {a b:Addr} {x:AObj} (h:b≠a):σ.set a x b=σ b:=if_neg h
theorem store_new {s:Shared} {h':Heap} {tk:Nat} {D:Addr} {x:AObj} (i:c.Inv σ s) (hk:∀ b o,s.heap.get? b=some o→h'.get? b=some o) (hD:s.heap.objs.size≤D) (hr:∀ F:Fz,(c.F σ s).le F→ObjRep g.w F h' D x) :
  c.Inv (σ.set D x) { s with heap:=h',toks:=tk }∧c.Ev σ s (σ.set D x) { s with heap:=h',toks:=tk }:=by
 have hn:=i.fresh hD
 have le:(c.F σ s).le (fz h' c.own (σ.set D x)):=fun b o e=>by
  obtain ⟨e1,e2,e3⟩:=fz_eq.mp e
  have hb:b≠D:=by rintro rfl;exact absurd (Heap.lt_size e3) (Nat.not_lt.mpr hD)
  exact fz_eq.mpr ⟨(Sto.set_ne hb).trans e1,e2,hk b o e3⟩
 refine ⟨⟨fun b o e=>le b o (i.keep b o e),fun a y e=>?_,fun a ha=>?_,fun a ha=>(i.live a ha).imp fun o ho=>hk a o ho,fun a ha=>(i.ns a ha).keep fun o e=>hk a o e,i.nsub⟩,⟨⟨_,_,rfl⟩,le,fun a _ => .of fun o e=>hk a o e⟩⟩
 ·by_cases hb:a=D
  ·subst hb
   rw [Sto.set_self] at e
   injection e with e
   subst e
   exact hr _ le
  ·rw [Sto.set_ne hb] at e
   exact (i.objs a y e).mono le fun o e=>hk a o e
 ·rw [Sto.set_ne (by rintro rfl;exact hn.2 ha)];exact i.off a ha
theorem made_list {s:Shared} {h':Heap} {tk:Nat} {D:Addr} {vs:List Value} {n:Nat} {l:List AV} {Q:AV→Sto→Prop} (i:c.Inv σ s) (hk:∀ b o,s.heap.get? b=some o→h'.get? b=some o) (hD:s.heap.objs.size≤D) (hg:h'.get? D=some (lstO vs n))
  (r:RepL g.w (c.F σ s) vs l) (q:Made Q l σ):PgP c (Rep g.w) σ s Q (.ref D) { s with heap:=h',toks:=tk }:=by
 have hn:=i.fresh hD
 rcases q with q | q
 ·exact ⟨.list l,σ,i.keeps hk,.keeps hk,.list (fz_eq.mpr ⟨hn.1,hn.2,hg⟩) (r.mono (keep_fz hk)),q⟩
 ·obtain ⟨h1,h2⟩:=store_new (tk:=tk) (x := .lst l) i hk hD (fun F hF=>⟨vs,n,hg,r.mono hF⟩)
  exact ⟨.obj D,_,h1,h2,.obj D,q D hn.1⟩
theorem ev_list {elts:List Expr} {pos:Pos} {Q:AV→Sto→Prop} (h:evl c ρ elts σ fun xs σ₁=>xs.length≤sizeLine∧Made Q xs σ₁) (hp:elts.all noStar=true:=by rfl):ev c ρ (.List elts pos) σ Q:=fun s hs=>by
 refine wpAny_List ?_
 rw [starEach_plain hp]
 refine wpAny_mono (evl_sound h s hs) (fun vs s₁ q_=>?_) fun _ _ e=>e
 obtain ⟨xs,σ₁,i₁,e₁,r₁,hz,q₁⟩:=q_
 refine ⟨r₁.length ▸ hz,?_⟩
 obtain ⟨x,σ',a,b,d,e⟩:=made_list (tk:=s₁.toks) i₁ (push_keeps _ _) (Nat.le_refl _) (Heap.get?_push_size _ rfl) r₁ q₁
 exact ⟨x,σ',a,e₁.trans b,d,e⟩
theorem ev_tuple {elts:List Expr} {k:Nat} {pos:Pos} {Q:AV→Sto→Prop} (h:evl c ρ elts σ fun xs σ₁=>xs.length≤sizeLine∧Q (.tup xs) σ₁) (hp:elts.all noStar=true:=by rfl):ev c ρ (.Tuple elts k pos) σ Q:=fun s hs=>by
 refine wpAny_Tuple ?_
 rw [starEach_plain hp]
 refine wpAny_mono (evl_sound h s hs) (fun vs s₁ q_=>?_) fun _ _ e=>e
 obtain ⟨xs,σ₁,i₁,e₁,r₁,hz,q₁⟩:=q_
 refine ⟨r₁.length ▸ hz,?_⟩
 have hn:=i₁.fresh (Nat.le_refl s₁.heap.objs.size)
 exact ⟨.tup xs,σ₁,i₁.keeps (t:=s₁.toks) (push_keeps _ _),e₁.trans (.keeps (t:=s₁.toks) (push_keeps _ _)),.tup (fz_eq.mpr ⟨hn.1,hn.2,Heap.get?_push_size _ rfl⟩) (r₁.mono (keep_fz (push_keeps _ _))),q₁⟩
noncomputable def subT (c:Cx g) (value slice:Expr) (x y:AV) (σ:Sto) (Q:AV→Sto→Prop):Prop:=∀ s a b,c.Inv σ s→Rep g.w (c.F σ s) a x→Rep g.w (c.F σ s) b y→pv c σ s (PyProof.Rows.subscriptTail value slice a b) Q
theorem ev_sub {value slice:Expr} {pos:Pos} {Q:AV→Sto→Prop} (h:ev c ρ value σ fun x σ₁=>ev c ρ slice σ₁ fun y σ₂=>subT c value slice x y σ₂ Q):ev c ρ (.Subscript value slice pos) σ Q:=fun s hs=>by
 refine PyProof.Rows.Subscript_ (pg.use (h s hs) (fun a s₁ x σ₁ i₁ e₁ r₁ q₁=>?_))
 refine pg.use (q₁ s₁ (hs.ev i₁ e₁)) (fun b s₂ y σ₂ i₂ e₂ r₂ q₂=>?_)
 exact pg.use (q₂ s₂ a b i₂ (r₁.mono e₂.grow) r₂) (fun v s₃ z σ₃ i₃ e₃ r₃ q₃=>⟨z,σ₃,i₃,(e₁.trans e₂).trans e₃,r₃,q₃⟩)
noncomputable def noSlice:Expr→Bool
 | .Slice _ _ _ _=>false
 | _=>true
theorem subscripted_plain {slice:Expr} (h:noSlice slice=true) (o i:Value):subscripted slice false o i=operate [o,i] (getItem o i):=by
 cases slice <;> first | rfl | exact absurd h Bool.false_ne_true
theorem sub_list {value slice:Expr} {x y:AV} {l:List AV} {k:Int} {Q:AV→Sto→Prop} (hx:Seq σ x l) (h0:0≤k) (hk:k < 2 ^ 63) (hy:l[k.toNat]?=some y) (q:Q y σ) (hn:noSlice slice=true:=by rfl):subT c value slice x (.int k) σ Q:=fun s a b i r1 r2=>by
 obtain ⟨a',vs,n,rfl,hg,hv⟩:=hx.heap i r1
 obtain ⟨_,rfl⟩:=r2.invInt
 have hl:s.heap.IsList a' vs.toArray:=⟨_,hg,rfl,n,rfl⟩
 obtain ⟨u,h1,h2⟩:=hv.get hy
 exact PyProof.Rows.tail_any hl.typeIs slot_list_getitem.lookup (wpAny_getItem_list hl h0 hk (by simpa using h1) ⟨y,σ,i,.refl ..,h2,q⟩) (subscripted_plain hn _ _)
theorem sub_str {value slice:Expr} {x:Str} {k:Int} {d:Nat} {Q:AV→Sto→Prop} (h0:0≤k) (hk:k < 2 ^ 63) (hy:x.cps[k.toNat]?=some d) (q:Q (.str ⟨#[d]⟩) σ) (hn:noSlice slice=true:=by rfl):subT c value slice (.str x) (.int k) σ Q:=fun s a b i r1 r2=>by
 obtain ⟨_,rfl⟩:=r1.invStr;obtain ⟨_,rfl⟩:=r2.invInt
 have hlt:k.toNat < x.length:=by
  rcases Nat.lt_or_ge k.toNat x.cps.size with h | h
  ·exact h
  ·rw [Array.getElem?_eq_none h] at hy;cases hy
 refine PyProof.Rows.tail_any (typeIs_str s x _) PyProof.Rows.slot_str_getitem.lookup (PyProof.Rows.getItem_str ?_ ?_ ⟨_,σ,i.toks _,.toks ..,.str _ _,q⟩) (subscripted_plain hn _ _)
 ·rw [Bool.or_eq_false_iff];constructor <;> (rw [decide_eq_false_iff_not];omega)
 ·have e:seqIndex? k x.length=some k.toNat:=by
   unfold seqIndex?
   simp only [show ¬ k < 0 by exact o7 h0 hk,if_false]
   first | (rw [if_pos (by omega)]) | simp;exact o8 h0 hk hlt
  rw [e];exact hy
end Mine
end
section
namespace Mine
open PySem
variable {g:Gx} {c:Cx g} {ρ:Rho} {σ:Sto}
section
variable {Q:AV→Sto→Prop}
theorem cal_len_list {x:AV} {l:List AV} (hx:Seq σ x l) (hz:l.length < 2 ^ 62) (q:Q (.int l.length) σ):cal c (.builtin "len") [x] σ Q:=fun s vs i r=>by
 obtain ⟨_,rfl,r1⟩:=r.one
 obtain ⟨a,us,n,rfl,hg,hv⟩:=hx.heap i r1
 have hl:s.heap.IsList a us.toArray:=⟨_,hg,rfl,n,rfl⟩
 have e:us.toArray.size=l.length:=by rw [List.size_toArray];exact hv.length
 exact Calls.call_len_list hl (by exact o9 hz e) ⟨.int l.length,σ,i.toks _,.toks ..,by rw [e];exact .int _ _,q⟩
theorem cal_len_tup {l:List AV} (hz:l.length < 2 ^ 62) (q:Q (.int l.length) σ):cal c (.builtin "len") [.tup l] σ Q:=fun s vs i r=>by
 obtain ⟨_,rfl,r1⟩:=r.one
 obtain ⟨a,us,n,rfl,hF,hv⟩:=r1.invTup
 have hl:PyProof.Rows.IsTup s.heap a us.toArray:=⟨_,(fz_eq.mp hF).2.2,rfl,n,rfl⟩
 have e:us.toArray.size=l.length:=by rw [List.size_toArray];exact hv.length
 exact PyProof.Rows.len_tuple hl (by exact o9 hz e) ⟨.int l.length,σ,i.toks _,.toks ..,by rw [e];exact .int _ _,q⟩
theorem cal_len_str {x:Str} (hz:x.length < 2 ^ 62) (q:Q (.int x.length) σ):cal c (.builtin "len") [.str x] σ Q:=fun s vs i r=>by
 obtain ⟨_,rfl,r1⟩:=r.one;obtain ⟨_,rfl⟩:=r1.invStr
 exact PyProof.Rows.len_str (by exact o10 hz) ⟨_,σ,i.toks _,.toks ..,.int _ _,q⟩
theorem cal_range1 {n:Int} (q:Q (.rng 0 n) σ):cal c (.type "range") [.int n] σ Q:=fun s vs i r=>by
 obtain ⟨_,rfl,r1⟩:=r.one;obtain ⟨_,rfl⟩:=r1.invInt
 have hn:=i.fresh (Nat.le_refl s.heap.objs.size)
 exact call_range_1 ⟨_,σ,i.keeps (t:=s.toks+1+1) (push_keeps _ _),.keeps (t:=s.toks+1+1) (push_keeps _ _),.rng (fz_eq.mpr ⟨hn.1,hn.2,Heap.get?_push_size _ rfl⟩),q⟩
theorem cal_range2 {a b:Int} (q:Q (.rng a b) σ):cal c (.type "range") [.int a,.int b] σ Q:=fun s vs i r=>by
 obtain ⟨_,_,rfl,r1,r2⟩:=r.two;obtain ⟨_,rfl⟩:=r1.invInt;obtain ⟨_,rfl⟩:=r2.invInt
 have hn:=i.fresh (Nat.le_refl s.heap.objs.size)
 exact call_range_2 ⟨_,σ,i.keeps (t:=s.toks+1) (push_keeps _ _),.keeps (t:=s.toks+1) (push_keeps _ _),.rng (fz_eq.mpr ⟨hn.1,hn.2,Heap.get?_push_size _ rfl⟩),q⟩
theorem cal_list {x:AV} {l:List AV} (hx:Seq σ x l) (hz:l.length≤sizeLine) (q:Made Q l σ):cal c (.type "list") [x] σ Q:=fun s vs i r=>by
 obtain ⟨_,rfl,r1⟩:=r.one
 obtain ⟨a,us,n,rfl,hg,hv⟩:=hx.heap i r1
 refine call_list_seq a (T := "list") (.inl rfl) hg rfl rfl (fun h' c' hk hn=>?_) (by rw [List.size_toArray,hv.length];exact hz)
 exact made_list (tk:=s.toks) i hk (Nat.le_refl _) hn hv q
theorem cal_isStr {x:Str} (q:Q (.bool true) σ):cal c (.builtin "isinstance") [.str x,.raw (.type "str")] σ Q:=fun s vs i r=>by
 obtain ⟨_,_,rfl,r1,r2⟩:=r.two;obtain ⟨_,rfl⟩:=r1.invStr;obtain rfl:=r2.invRaw
 exact PyProof.Rows.call_isinstance_yes (Tx := "str") (typeIs_str s x _) (by kernel_rfl) (by rw [isSubtype_type];kernel_rfl) ⟨_,σ,i,.refl ..,.bool _,q⟩
end
mutual
noncomputable def plain:AV→Bool
 | .none=>true
 | .bool _=>true
 | .int _=>true
 | .str _=>true
 | .tup l=>plainL l
 | _=>false
noncomputable def plainL:List AV→Bool
 | []=>true
 | x::r=>plain x && plainL r
end
mutual
noncomputable def eqA:AV→AV→Bool
 | .none,.none=>true
 | .bool a,.bool b=>a==b
 | .int a,.int b=>a==b
 | .str a,.str b=>a==b
 | .bool a,.int b=>(if a then 1 else 0)==b
 | .int a,.bool b=>a==(if b then 1 else 0)
 | .tup a,.tup b=>eqL a b
 | _,_=>false
noncomputable def eqL:List AV→List AV→Bool
 | [],[]=>true
 | x::r,y::t=>eqA x y && eqL r t
 | _,_=>false
end
mutual
noncomputable def deep:AV→Nat
 | .tup l=>deepL l+1
 | _=>0
noncomputable def deepL:List AV→Nat
 | []=>0
 | x::r=>max (deep x) (deepL r)
end
theorem eqA_refl2 (x:AV):plain x=true→eqA x x=true :=
 AV.rec (motive_1:=fun x=>plain x=true→eqA x x=true) (motive_2:=fun l=>plainL l=true→eqL l l=true) (motive_3:=fun _=>True) (motive_4:=fun _=>True)
  (fun _=>rfl) (fun b _=>beq_self_eq_true b) (fun b _=>beq_self_eq_true b) (fun b _=>beq_self_eq_true b) (fun _ h=>h) (fun _ _ h=>absurd h Bool.false_ne_true) (fun _ _ h=>absurd h Bool.false_ne_true) (fun _ _ h=>absurd h Bool.false_ne_true) (fun _ h=>absurd h Bool.false_ne_true) (fun _ h=>absurd h Bool.false_ne_true) (fun _ h=>absurd h Bool.false_ne_true)
  (fun _=>rfl) (fun x r i j h=>Bool.and_eq_true_iff.mpr ⟨i (Bool.and_eq_true_iff.mp h).1,j (Bool.and_eq_true_iff.mp h).2⟩) trivial (fun _ _ _ _=>trivial) (fun _ _ _ _=>trivial) x
theorem eqA_refl {x:AV} (h:plain x=true):eqA x x=true:=eqA_refl2 x h
inductive TupI (w:World) (F:Fz) (a:Addr) (y:AV):Prop
 | mk (vs:List Value) (m:Nat) (l:List AV) (e:y = .tup l) (h:F a=some (tupO vs m)) (hl:RepL w F vs l):TupI w F a y
inductive PV (w:World) (F:Fz):Value→AV→Prop
 | none:PV w F .none .none
 | bool (b:Bool):PV w F (.bool b) (.bool b)
 | int (i:Int) (t:Tok):PV w F (.int i t) (.int i)
 | str (y:Str) (t:Tok):PV w F (.str y t) (.str y)
 | tup (a:Addr) (vs:List Value) (m:Nat) (l:List AV) (h:F a=some (tupO vs m)) (hl:RepL w F vs l):PV w F (.ref a) (.tup l)
theorem Rep.invP {w:World} {F:Fz} {v:Value} {x:AV} (r:Rep w F v x) (p:plain x=true):PV w F v x:=by
 cases x with
 | none=>rw [r.invNone];exact .none
 | bool b=>rw [r.invBool];exact .bool b
 | int i=>obtain ⟨t,rfl⟩:=r.invInt;exact .int i t
 | str y=>obtain ⟨t,rfl⟩:=r.invStr;exact .str y t
 | tup l=>obtain ⟨a,vs,m,rfl,h,hl⟩:=r.invTup;exact .tup a vs m l h hl
 | _=>cases p
noncomputable def PI (w:World) (F:Fz):Value→AV→Prop
 | .none,y=>y = .none
 | .bool b,y=>y = .bool b
 | .int i _,y=>y = .int i
 | .str x _,y=>y = .str x
 | .ref a,y=>TupI w F a y
 | _,_=>True
theorem Rep.toPI {w:World} {F:Fz} {v:Value} {x:AV} (r:Rep w F v x) (p:plain x=true):PI w F v x :=
 (r.invP p).casesOn rfl (fun _=>rfl) (fun _ _=>rfl) (fun _ _=>rfl) fun _ vs m l h hl=>⟨vs,m,l,rfl,h,hl⟩
theorem tupO_inj {vs us:List Value} {n m:Nat} (h:tupO vs n=tupO us m):vs=us:=by
 injection congrArg Obj.data h with h
 exact congrArg Array.toList h
theorem Rep.inj2 {w:World} {F:Fz} (x:AV):∀ v y,Rep w F v x→plain x=true→PI w F v y→plain y=true→x=y :=
 AV.rec (motive_1:=fun x=>∀ v y,Rep w F v x→plain x=true→PI w F v y→plain y=true→x=y) (motive_2:=fun l=>∀ vs l',RepL w F vs l→plainL l=true→RepL w F vs l'→plainL l'=true→l=l') (motive_3:=fun _=>True) (motive_4:=fun _=>True)
  (fun v y r _ h _=>Eq.symm (r.invNone ▸ h:PI w F .none y)) (fun b v y r _ h _=>Eq.symm (r.invBool ▸ h:PI w F (.bool b) y))
  (fun i v y r _ h _=>r.invInt.elim fun t e=>Eq.symm (e ▸ h:PI w F (.int i t) y)) (fun x v y r _ h _=>r.invStr.elim fun t e=>Eq.symm (e ▸ h:PI w F (.str x t) y))
  (fun l ih v y r p h p'=>by
   obtain ⟨a,vs,m,e,hF,hl⟩:=r.invTup
   rw [e] at h
   obtain ⟨us,k,l',e',hF',hl'⟩:=h
   rw [e'] at p' ⊢
   exact congrArg AV.tup (ih vs l' hl p (tupO_inj (Option.some.inj (hF.symm.trans hF')) ▸ hl') p'))
  (fun _ _ _ _ _ h=>absurd h Bool.false_ne_true) (fun _ _ _ _ _ h=>absurd h Bool.false_ne_true) (fun _ _ _ _ _ h=>absurd h Bool.false_ne_true) (fun _ _ _ _ h=>absurd h Bool.false_ne_true) (fun _ _ _ _ h=>absurd h Bool.false_ne_true) (fun _ _ _ _ h=>absurd h Bool.false_ne_true)
  (fun vs l' r _ r' _=>(List.eq_nil_of_length_eq_zero (r'.length.symm.trans r.length)).symm)
  (fun x l ih1 ih2 vs l' r p r' p'=>by
   obtain ⟨v,us,e,h,r⟩:=r.invCons
   rw [e] at r'
   cases l' with
   | nil=>exact absurd r'.length (Nat.succ_ne_zero _)
   | cons y l' =>
    obtain ⟨v',us',e',h',r'⟩:=r'.invCons
    injection e' with e1 e2
    have p:=Bool.and_eq_true_iff.mp p
    have p':=Bool.and_eq_true_iff.mp p'
    rw [ih1 v y h p.1 ((e1 ▸ h').toPI p'.1) p'.1,ih2 us l' r p.2 (e2 ▸ r') p'.2])
  trivial (fun _ _ _ _=>trivial) (fun _ _ _ _=>trivial) x
theorem Rep.inj {w:World} {F:Fz} {v:Value} {x y:AV} (r:Rep w F v x) (p:plain x=true) (r':Rep w F v y) (p':plain y=true):x=y:=Rep.inj2 x v y r p (r'.toPI p') p'
theorem RepL.inj {w:World} {F:Fz} {vs:List Value} {l l':List AV} (r:RepL w F vs l) (p:plainL l=true) (r':RepL w F vs l') (p':plainL l'=true):l=l':=by
 induction l generalizing vs l' with
 | nil=>exact (List.eq_nil_of_length_eq_zero (r'.length.symm.trans r.length)).symm
 | cons x l ih =>
  obtain ⟨v,us,e,h,r⟩:=r.invCons
  rw [e] at r'
  cases l' with
  | nil=>exact absurd r'.length (Nat.succ_ne_zero _)
  | cons y l' =>
   obtain ⟨v',us',e',h',r'⟩:=r'.invCons
   injection e' with e1 e2
   have p:=Bool.and_eq_true_iff.mp p
   have p':=Bool.and_eq_true_iff.mp p'
   rw [h.inj p.1 (e1 ▸ h') p'.1,ih r p.2 (e2 ▸ r') p'.2]
theorem deepL_get {l:List AV} {x:AV} {i:Nat} (h:l[i]?=some x):deep x≤deepL l:=by
 induction l generalizing i with
 | nil=>exact nomatch (show (Option.none:Option AV)=some x from h)
 | cons y r ih =>
  show _≤max (deep y) (deepL r)
  cases i with
  | zero=>exact Option.some.inj (show some y=some x from h) ▸ Nat.le_max_left _ _
  | succ i=>exact Nat.le_trans (ih (i:=i) h) (Nat.le_max_right _ _)
theorem plainL_get {l:List AV} {x:AV} {i:Nat} (hp:plainL l=true) (h:l[i]?=some x):plain x=true:=by
 induction l generalizing i with
 | nil=>exact nomatch (show (Option.none:Option AV)=some x from h)
 | cons y r ih =>
  have hp:=Bool.and_eq_true_iff.mp (show (plain y && plainL r)=true from hp)
  cases i with
  | zero=>exact Option.some.inj (show some y=some x from h) ▸ hp.1
  | succ i=>exact ih (i:=i) hp.2 h
theorem eqL_all (a b:List AV):eqL a b=((List.range (min a.length b.length)).all (fun j=>eqA (a.getD j .none) (b.getD j .none)) && a.length==b.length):=by
 induction a generalizing b with
 | nil =>
  cases b with
  | nil=>rfl
  | cons y t=>exact (Bool.and_false _).symm
 | cons x r ih =>
  cases b with
  | nil=>exact (Bool.and_false _).symm
  | cons y t =>
   show (eqA x y && eqL r t)=((List.range (min (r.length+1) (t.length+1))).all _ && decide (r.length+1=t.length+1))
   rw [ih,Nat.add_min_add_right,List.range_succ_eq_map,List.all_cons,List.all_map,Bool.and_assoc,decide_eq_decide.mpr Nat.add_right_cancel_iff]
   rfl
open PySem.SeqAt in
theorem eqAt {w:World} {F:Fz}:∀ (n:Nat) {A:Around} {s:Shared} {v u:Value} {x y:AV},deep x≤n→Rep w F v x→Rep w F u y→plain x=true→plain y=true→(∀ a o,F a=some o→s.heap.get? a=some o)→A.units+n < cLine→EqAt A s v u (eqA x y):=by
 intro n
 induction n with
 | zero =>
  intro A s v u x y hd r1 r2 p1 p2 hF hu
  replace r1:=r1.invP p1;replace r2:=r2.invP p2;clear p1 p2
  rcases r1 with _ | a | ⟨a,t⟩ | ⟨a,t⟩ | ⟨a,vs,m,l,h,hl⟩
  ·rcases r2 with _ | b | ⟨i,t'⟩ | ⟨x,t'⟩ | ⟨_,vs,m,l,h,hl⟩
   ·exact EqAt.same _
   ·exact EqAt.none_bool b
   ·exact EqAt.none_int i t'
   ·exact EqAt.none_str x t'
   ·exact EqAt.none_tuple (items:=vs.toArray) ⟨_,hF _ _ h,rfl,m,rfl⟩ hu
  ·rcases r2 with _ | b | ⟨i,t'⟩ | ⟨x,t'⟩ | ⟨_,vs,m,l,h,hl⟩
   ·exact EqAt.bool_none a
   ·exact EqAt.bool_bool a b
   ·exact EqAt.bool_int a i t'
   ·exact EqAt.bool_str a x t'
   ·exact EqAt.bool_tuple (items:=vs.toArray) a ⟨_,hF _ _ h,rfl,m,rfl⟩ hu
  ·rcases r2 with _ | b | ⟨i,t'⟩ | ⟨x,t'⟩ | ⟨_,vs,m,l,h,hl⟩
   ·exact EqAt.int_none a t
   ·exact EqAt.int_bool a t b
   ·exact EqAt.int_int a t i t'
   ·exact EqAt.int_str a t x t'
   ·exact EqAt.int_tuple (items:=vs.toArray) a t ⟨_,hF _ _ h,rfl,m,rfl⟩ hu
  ·rcases r2 with _ | b | ⟨i,t'⟩ | ⟨x,t'⟩ | ⟨_,vs,m,l,h,hl⟩
   ·exact EqAt.str_none a t
   ·exact EqAt.str_bool a t b
   ·exact EqAt.str_int a t i t'
   ·exact EqAt.str_str a t x t'
   ·exact EqAt.str_tuple (items:=vs.toArray) a t ⟨_,hF _ _ h,rfl,m,rfl⟩ hu
  ·unfold deep at hd;exact absurd hd (Nat.not_succ_le_zero _)
 | succ n ih =>
  intro A s v u x y hd r1 r2 p1 p2 hF hu
  by_cases hx:deep x≤n
  ·exact ih hx r1 r2 p1 p2 hF (by exact o11 hu)
  replace r1:=r1.invP p1;replace r2:=r2.invP p2
  rcases r1 with _ | _ | ⟨_,_⟩ | ⟨_,_⟩ | ⟨a,vs,m,l,h,hl⟩
  ·exact absurd (Nat.zero_le _) hx
  ·exact absurd (Nat.zero_le _) hx
  ·exact absurd (Nat.zero_le _) hx
  ·exact absurd (Nat.zero_le _) hx
  ·have ht:s.heap.IsTuple a vs.toArray:=⟨_,hF _ _ h,rfl,m,rfl⟩
   have hu':A.units < cLine:=by exact o12 hu hd hx
   rcases r2 with _ | b | ⟨i,t'⟩ | ⟨x,t'⟩ | ⟨b,us,k,l',h',hl'⟩
   ·exact EqAt.tuple_none ht hu'
   ·exact EqAt.tuple_bool b ht hu'
   ·exact EqAt.tuple_int i t' ht hu'
   ·exact EqAt.tuple_str x t' ht hu'
   ·have ht':s.heap.IsTuple b us.toArray:=⟨_,hF _ _ h',rfl,k,rfl⟩
    have p1':plainL l=true:=p1
    have p2':plainL l'=true:=p2
    have hdl:deepL l≤n:=by unfold deep at hd;exact o13 hd
    have items:∀ j (h1:j < vs.toArray.size) (h2:j < us.toArray.size),EqAt A.in1 s vs.toArray[j] us.toArray[j] (eqA (l.getD j .none) (l'.getD j .none)):=by
     intro j h1 h2
     rw [List.size_toArray] at h1 h2
     obtain ⟨x1,e1,q1⟩:=hl.get' (i:=j) (v:=vs[j]) (List.getElem?_eq_getElem h1)
     obtain ⟨x2,e2,q2⟩:=hl'.get' (i:=j) (v:=us[j]) (List.getElem?_eq_getElem h2)
     have g1:l.getD j .none=x1:=by rw [List.getD_eq_getElem?_getD,e1];rfl
     have g2:l'.getD j .none=x2:=by rw [List.getD_eq_getElem?_getD,e2];rfl
     rw [g1,g2]
     exact ih (A:=A.in1) (s:=s) (Nat.le_trans (deepL_get e1) hdl) q1 q2 (plainL_get p1' e1) (plainL_get p2' e2) hF (by show A.units+1+n < cLine;exact o14 hu hd hx)
    have e:eqA (.tup l) (.tup l')=((List.range (min vs.toArray.size us.toArray.size)).all (fun j=>eqA (l.getD j .none) (l'.getD j .none)) && vs.toArray.size==us.toArray.size):=by
     show eqL l l'=_
     rw [eqL_all]
     simp only [List.size_toArray,hl.length,hl'.length]
    rw [e]
    by_cases hab:a=b
    ·have hvu:=tupO_inj (Option.some.inj (h.symm.trans (hab ▸ h')))
     have:eqA (.tup l) (.tup l')=true:=by rw [RepL.inj hl p1' (hvu ▸ hl') p2'];exact eqA_refl (x := .tup l') p2'
     rw [← e,this,hab]
     exact EqAt.same _
    ·exact EqAt.of_refs hab (RcAt.tuples ht ht' hu' items)
end Mine
end
section
namespace Mine
open PySem
variable {g:Gx} {c:Cx g} {ρ:Rho} {σ:Sto}
inductive Kind (σ:Sto):AV→String→Prop
 | list {l:List AV}:Kind σ (.list l) "list"
 | objL {a:Addr} {l:List AV}:σ a=some (.lst l)→Kind σ (.obj a) "list"
 | tup {l:List AV}:Kind σ (.tup l) "tuple"
 | dict {l:List (AV×AV)}:Kind σ (.dict l) "dict"
 | objD {a:Addr} {l:List (AV×AV)}:σ a=some (.dct l)→Kind σ (.obj a) "dict"
 | str {x:Str}:Kind σ (.str x) "str"
theorem kind_mk {s:Shared} {a:Addr} {ob:Obj} {T:String} (e:s.heap.get? a=some ob) (hc:ob.cls = .type T) (hd:ob.dict=Option.none):s.TypeIs (.ref a) T∧∀ b,Value.ref a = .ref b→∃ ob,s.heap.get? b=some ob∧ob.dict=Option.none :=
 ⟨⟨_,e,hc⟩,fun b hb=>⟨ob,Value.ref.inj hb ▸ e,hd⟩⟩
theorem Kind.at {x:AV} {T:String} {s:Shared} {v:Value} (h:Kind σ x T) (i:c.Inv σ s) (r:Rep g.w (c.F σ s) v x):s.TypeIs v T∧∀ a,v = .ref a→∃ ob,s.heap.get? a=some ob∧ob.dict=Option.none:=by
 cases h with
 | list =>
  obtain ⟨_,_,_,rfl,h,_⟩:=r.invList
  exact kind_mk (fz_eq.mp h).2.2 rfl rfl
 | objL ha =>
  obtain rfl:=r.invObj
  obtain ⟨vs,n,e,_⟩:=i.objs _ _ ha
  exact kind_mk e rfl rfl
 | tup =>
  obtain ⟨_,_,_,rfl,h,_⟩:=r.invTup
  exact kind_mk (fz_eq.mp h).2.2 rfl rfl
 | dict =>
  obtain ⟨_,_,_,rfl,h,_,_⟩:=r.invDict
  exact kind_mk (fz_eq.mp h).2.2 rfl rfl
 | objD ha =>
  obtain rfl:=r.invObj
  obtain ⟨vs,n,e,_⟩:=i.objs _ _ ha
  exact kind_mk e rfl rfl
 | str=>obtain ⟨_,rfl⟩:=r.invStr;exact ⟨typeIs_str s _ _,fun a h=>by cases h⟩
theorem ev_meth {o e:Expr} {rest:List Expr} {name:Str} {apos pos:Pos} {T id:String} {Q:AV→Sto→Prop} (pa:PlainAttrs T) (slot:Slot T name id) (hty:typeOf (.builtin id)=pure (.type "method_descriptor"))
  (h:ev c ρ o σ fun x σ₁=>Kind σ₁ x T∧evl c ρ (e::rest) σ₁ fun xs σ₂=>cal c (.builtin id) (x::xs) σ₂ Q)
  (hbase:attributeBase o name c.env (eval o c.env)=eval o c.env:=by rfl) (hline:(apos.endLine==pos.line)=true:=by rfl) (hp:(e::rest).all noStar=true:=by rfl) (hfew:decide ((e::rest).length < 30)=true:=by rfl) :
  ev c ρ (.Call (.Attribute o name apos) (e::rest) [] pos) σ Q:=fun s hs=>by
 refine wpAny_Call_method hbase ?_ hline pa slot hty (pg.use (h s hs) (fun ov s₁ x σ₁ i₁ e₁ r₁ qq=>⟨(qq.1.at i₁ r₁).1,(qq.1.at i₁ r₁).2,?_⟩))
 ·rw [starEach_plain hp]
  simp only [Bool.and_eq_true]
  refine ⟨⟨?_,rfl⟩,?_⟩
  ·rw [List.all_map];simp
  ·simpa using hfew
 ·have:=callWith_any (pos:=pos) (first:=[ov]) (fx:=[x]) (.builtin id) hp (hs.ev i₁ e₁) (.cons r₁ .nil) qq.2
  exact pg.use this (fun _ _ z σ₃ i e r q=>⟨z,σ₃,i,e₁.trans e,r,q⟩)
theorem store_upd {s:Shared} {h':Heap} {tk:Nat} {a:Addr} {x y:AObj} (i:c.Inv σ s) (ha:σ a=some x) (hs:Heap.SameBut a s.heap h') (hr:ObjRep g.w (c.F σ s) h' a y) :
  c.Inv (σ.set a y) { s with heap:=h',toks:=tk }∧c.Ev σ s (σ.set a y) { s with heap:=h',toks:=tk }:=by
 have hao:a∉c.own:=fun hm=>by rw [i.off a hm] at ha;cases ha
 have eF:fz h' c.own (σ.set a y)=fz s.heap c.own σ:=by
  funext b
  by_cases hb:b=a
  ·subst hb;simp [fz,Sto.set_self,ha]
  ·simp only [fz,Sto.set_ne hb,hs.2 b hb]
 refine ⟨⟨fun b o e=>by show fz h' c.own (σ.set a y) b=_;rw [eF];exact i.keep b o e,fun b z e=>?_,fun b hb=>?_,fun b hb=>?_,fun b hb=>(i.ns b hb).keep fun o e=>(hs.2 b (by rintro rfl;exact hao (i.nsub _ hb))).trans e,i.nsub⟩,⟨⟨_,_,rfl⟩,by show (fz s.heap c.own σ).le (fz h' c.own (σ.set a y));rw [eF];exact .refl _,fun b hb => .same hs (by rintro rfl;exact hao hb)⟩⟩
 ·show ObjRep g.w (fz h' c.own (σ.set a y)) h' b z
  rw [eF]
  by_cases hb:b=a
  ·subst hb;rw [Sto.set_self] at e;injection e with e;subst e;exact hr
  ·rw [Sto.set_ne hb] at e;exact (i.objs b z e).mono (.refl _) fun o e=>(hs.2 b hb).trans e
 ·rw [Sto.set_ne (by rintro rfl;exact hao hb)];exact i.off b hb
 ·obtain ⟨o,ho⟩:=i.live b hb;exact ⟨o,(hs.2 b (by rintro rfl;exact hao hb)).trans ho⟩
section
variable {Q:AV→Sto→Prop}
theorem cal_append {a:Addr} {l:List AV} {x:AV} (ha:σ a=some (.lst l)) (hz:l.length≤sizeLine) (q:Q .none (σ.set a (.lst (l++[x])))):cal c (.builtin "list.append") [.obj a,x] σ Q:=fun s vs i r=>by
 obtain ⟨_,u,rfl,r1,r2⟩:=r.two;obtain rfl:=r1.invObj
 obtain ⟨us,n,e,hr⟩:=i.objs a _ ha
 refine wpAny_list_append_plain (items:=us.toArray) ⟨n,e⟩ (fun h' hp hs=>?_) (by rw [List.size_toArray,hr.length];exact hz)
 obtain ⟨n',hn'⟩:=hp
 obtain ⟨h1,h2⟩:=store_upd (tk:=s.toks) (y := .lst (l++[x])) i ha hs ⟨us++[u],n',by rw [hn'];simp,hr.append (.cons r2 .nil)⟩
 exact ⟨.none,_,h1,h2,.none,q⟩
noncomputable def eqV (w:World) (F:Fz) (x:AV) (v:Value):Bool:=@decide (∃ y,Rep w F v y∧plain y=true∧eqA y x=true) (Classical.propDecidable _)
theorem eqV_of {w:World} {F:Fz} {x y:AV} {v:Value} (r:Rep w F v y) (p:plain y=true):eqV w F x v=eqA y x:=by
 unfold eqV
 by_cases h:eqA y x=true
 ·rw [h];exact @decide_eq_true _ (Classical.propDecidable _) ⟨y,r,p,h⟩
 ·have h':eqA y x=false:=by simpa using h
  rw [h']
  refine @decide_eq_false _ (Classical.propDecidable _) ?_
  rintro ⟨z,r',p',h2⟩
  rw [Rep.inj r' p' r p] at h2
  exact h h2
theorem any_eqV {w:World} {F:Fz} {x:AV} {vs:List Value} {l:List AV} (r:RepL w F vs l) (p:plainL l=true):vs.any (eqV w F x)=l.any (eqA · x):=by
 induction l generalizing vs with
 | nil=>obtain rfl:=r.invNil;rfl
 | cons y l ih =>
  obtain ⟨v,us,rfl,h,r'⟩:=r.invCons
  replace p:(plain y && plainL l)=true:=p
  rw [Bool.and_eq_true] at p
  rw [List.any_cons,List.any_cons,eqV_of h p.1,ih r' p.2]
theorem count_eqV {w:World} {F:Fz} {x:AV} {vs:List Value} {l:List AV} (r:RepL w F vs l) (p:plainL l=true):vs.countP (eqV w F x)=l.countP (eqA · x):=by
 induction l generalizing vs with
 | nil=>obtain rfl:=r.invNil;rfl
 | cons y l ih =>
  obtain ⟨v,us,rfl,h,r'⟩:=r.invCons
  replace p:(plain y && plainL l)=true:=p
  rw [Bool.and_eq_true] at p
  rw [List.countP_cons,List.countP_cons,eqV_of h p.1,ih r' p.2]
theorem fz_sub {s:Shared}:∀ a o,c.F σ s a=some o→s.heap.get? a=some o:=fun a o h=>(fz_eq.mp h).2.2
theorem items_eq {n:Nat} {s:Shared} {vs:List Value} {l:List AV} {u:Value} {x:AV} {A:Around} (hr:RepL g.w (c.F σ s) vs l) (pl:plainL l=true) (dl:deepL l≤n) (ru:Rep g.w (c.F σ s) u x) (px:plain x=true) (hu:A.units+n < cLine) :
  ∀ y,y∈vs.toArray→PySem.SeqAt.EqAt A s y u (eqV g.w (c.F σ s) x y):=by
 intro y hy
 obtain ⟨i,hi⟩:=List.mem_iff_getElem?.mp (by simpa using hy)
 obtain ⟨z,hz,rz⟩:=hr.get' hi
 rw [eqV_of rz (plainL_get pl hz)]
 exact eqAt n (Nat.le_trans (deepL_get hz) dl) rz ru (plainL_get pl hz) px fz_sub hu
theorem cal_count {x y:AV} {l:List AV} (hx:Seq σ x l) (pl:plainL l=true) (dl:deepL l≤4) (py:plain y=true) (hu:c.A.units+8 < cLine) (q:Q (.int (l.countP (eqA · y):Nat)) σ):cal c (.builtin "list.count") [x,y] σ Q:=fun s vs i r=>by
 obtain ⟨_,u,rfl,r1,r2⟩:=r.two
 obtain ⟨a,us,n,rfl,hg,hv⟩:=hx.heap i r1
 refine call_meets F.slot_list_count ⟨_,hg,rfl⟩ F.entry_list_count (F.args_list_count_2 _ _) (PySem.SeqAt.list_countAt a us.toArray n Option.none #[] u (eqV g.w (c.F σ s) y)) ⟨hg,items_eq hv pl dl r2 py (by show c.A.units+1+4 < cLine;exact o15 hu),?_⟩
 have e:us.toArray.toList.countP (eqV g.w (c.F σ s) y)=l.countP (eqA · y):=by simpa using count_eqV hv pl
 rw [e]
 exact ⟨_,σ,i.toks _,.toks ..,.int _ _,q⟩
theorem cmp_notin_tup {x:AV} {l:List AV} (pl:plainL l=true) (dl:deepL l≤4) (px:plain x=true) (hu:c.A.units+8 < cLine) (q:Q (.bool (!l.any (eqA · x))) σ):op2 c (compareOp .NotIn) x (.tup l) σ Q:=fun s u v i r1 r2=>by
 obtain ⟨a,us,n,rfl,h,hl⟩:=r2.invTup
 refine PySem.SeqAt.notIn_tupleAt (l:=a) (items:=us.toArray) (eqV g.w (c.F σ s) x) ⟨_,fz_sub _ _ h,rfl,n,rfl⟩ (items_eq hl pl dl r1 px (by show c.A.units+1+4 < cLine;exact o15 hu)) ?_
 have e:us.toArray.any (eqV g.w (c.F σ s) x)=l.any (eqA · x):=by rw [← Array.any_toList];simpa using any_eqV hl pl
 rw [e]
 exact ⟨_,σ,i,.refl ..,.bool _,q⟩
theorem cmp_in_list {x y:AV} {l:List AV} (hy:Seq σ y l) (pl:plainL l=true) (dl:deepL l≤4) (px:plain x=true) (hu:c.A.units+8 < cLine) (q:Q (.bool (l.any (eqA · x))) σ):op2 c (compareOp .In) x y σ Q:=fun s u v i r1 r2=>by
 obtain ⟨a,us,n,rfl,hg,hv⟩:=hy.heap i r2
 refine PySem.SeqAt.in_listAt (items:=us.toArray) (eqV g.w (c.F σ s) x) ⟨_,hg,rfl,n,rfl⟩ (items_eq hv pl dl r1 px (by show c.A.units+1+4 < cLine;exact o15 hu)) ?_
 have e:us.toArray.any (eqV g.w (c.F σ s) x)=l.any (eqA · x):=by rw [← Array.any_toList];simpa using any_eqV hv pl
 rw [e]
 exact ⟨_,σ,i,.refl ..,.bool _,q⟩
theorem cmp_notin_list {x y:AV} {l:List AV} (hy:Seq σ y l) (pl:plainL l=true) (dl:deepL l≤4) (px:plain x=true) (hu:c.A.units+8 < cLine) (q:Q (.bool (!l.any (eqA · x))) σ):op2 c (compareOp .NotIn) x y σ Q:=fun s u v i r1 r2=>by
 obtain ⟨a,us,n,rfl,hg,hv⟩:=hy.heap i r2
 refine PySem.SeqAt.notIn_listAt (items:=us.toArray) (eqV g.w (c.F σ s) x) ⟨_,hg,rfl,n,rfl⟩ (items_eq hv pl dl r1 px (by show c.A.units+1+4 < cLine;exact o15 hu)) ?_
 have e:us.toArray.any (eqV g.w (c.F σ s) x)=l.any (eqA · x):=by rw [← Array.any_toList];simpa using any_eqV hv pl
 rw [e]
 exact ⟨_,σ,i,.refl ..,.bool _,q⟩
theorem op_addl {x y:AV} {l m:List AV} (hx:Seq σ x l) (hy:Seq σ y m) (hz:l.length+m.length≤sizeLine) (q:Made Q (l++m) σ):op2 c (binaryOp .Add) x y σ Q:=fun s u v i r1 r2=>by
 obtain ⟨a,us,n,rfl,hg,hv⟩:=hx.heap i r1
 obtain ⟨b,ws,k,rfl,hg',hw⟩:=hy.heap i r2
 refine P.add_list (items:=us.toArray) (items2:=ws.toArray) hg hg' ?_ (by rw [List.size_toArray,List.size_toArray,hv.length,hw.length];exact hz)
 exact made_list (tk:=s.toks) (vs:=us++ws) (n:=0) i (push_keeps _ _) (Nat.le_refl _) (by rw [show us.toArray++ws.toArray=(us++ws).toArray by simp];exact Heap.get?_push_size _ rfl) (hv.append hw) q
end
theorem es_setitem {o i:Expr} {pos':Pos} {value:Expr} {pos:Pos} {Q:AFl→Rho→Sto→Prop} (h:ev c ρ value σ fun z σ₁=>ev c ρ o σ₁ fun x σ₂=>ev c ρ i σ₂ fun y σ₃=>op3u c (fun a b d=>setItem a b d) x y z σ₃ fun σ₄=>Q .next ρ σ₄)
  (hw:swapsWith value (some (.Subscript o i pos')) pos.line c.env=pure false:=by rfl):es c ρ (exec (.Assign [.Subscript o i pos'] value pos) c.env) σ Q:=fun s hs=>by
 refine wpAny_Assign_Subscript (pg.use (h s hs) (fun vz s₁ z σ₁ i₁ e₁ r₁ q₁=>?_)) hw
 refine pg.use (q₁ s₁ (hs.ev i₁ e₁)) (fun vx s₂ x σ₂ i₂ e₂ r₂ q₂=>?_)
 refine pg.use (q₂ s₂ (hs.ev i₂ (e₁.trans e₂))) (fun vy s₃ y σ₃ i₃ e₃ r₃ q₃=>?_)
 refine pg.use (q₃ s₃ vx vy vz i₃ (r₂.mono e₃.grow) r₃ (r₁.mono (e₂.grow.trans e₃.grow))) (fun _ s₄ _ σ₄ i₄ e₄ _ q₄=>?_)
 have e:=((e₁.trans e₂).trans e₃).trans e₄
 exact ⟨_,ρ,σ₄,hs.ev i₄ e,e.toS hs.fr.sub,.next,q₄⟩
theorem set_list {a:Addr} {l:List AV} {k:Int} {z:AV} {Q:Sto→Prop} (ha:σ a=some (.lst l)) (h0:0≤k) (hk:k < l.length) (hk':k < 2 ^ 63) (q:Q (σ.set a (.lst (l.set k.toNat z)))):op3u c (fun a b d=>setItem a b d) (.obj a) (.int k) z σ Q:=fun s u v d i r1 r2 r3=>by
 obtain rfl:=r1.invObj
 obtain ⟨t0,rfl⟩:=r2.invInt
 obtain ⟨us,n,e,hr⟩:=i.objs a _ ha
 have hsz:us.length=l.length:=hr.length
 have hl:s.heap.IsList a us.toArray:=⟨_,e,rfl,n,rfl⟩
 have plainIt:wpAny g.M c.A (setItem (.ref a) (.int k t0) d) (fun _ s'=>s'={ s with heap:=s.heap.update a (Obj.mapSeq (·.setIfInBounds k.toNat d)) }) c.E s:=by
  unfold setItem
  refine wpAny_holding ?_
  refine wpAny_bind (wpAny_sequenceKey hl.typeIs (by decide) ?_)
  refine wpAny_bind (wpAny_callSpecial?_slot (name:=Str.ofString "__setitem__") hl.typeIs slot_list_setitem
   (wpAny_call_entry slot_list_setitem hl.typeIs entry_list_setitem ?_ (args_list_setitem _ _ _)))
  show wpAny _ _ (Builtin.List.listSubscript? (.int k t0) >>= _) _ _ s
  refine wpAny_bind (wpAny_listSubscript_int (fitsIndex_of h0 hk') ?_)
  obtain ⟨j,rfl⟩:=Int.eq_ofNat_of_zero_le h0
  have hj:j < us.length:=by exact o16 hsz hk
  have hx':us.toArray[j]?=some us[j]:=by simp [hj]
  show wpAny _ _ ((seqItemAt a j >>= fun r=>pure (r.map (j,·))) >>= _) _ _ s
  refine wpAny_bind (wpAny_bind (wpAny_seqItemAt e rfl (wpAny_pure ?_)))
  rw [hx']
  show wpAny _ _ (setSeqItemAt a j d >>= _) _ _ s
  refine wpAny_bind (wpAny_setSeqItemAt e rfl ?_)
  first
   | exact wpAny_bind (wpAny_pure (wpAny_pure ⟨.none,rfl,wpAny_pure rfl⟩))
   | exact wpAny_pure ⟨.none,rfl,wpAny_pure rfl⟩
 refine wpAny_mono plainIt (fun _ s' hs'=>?_) fun _ _ e=>e
 subst hs'
 obtain ⟨h1,h2⟩:=store_upd (tk:=s.toks) (h':=s.heap.update a (Obj.mapSeq (·.setIfInBounds k.toNat d))) (y := .lst (l.set k.toNat z)) i ha (Heap.SameBut.update ..) ⟨us.set k.toNat d,_,by
  have:=Heap.get?_update_self (Obj.mapSeq (·.setIfInBounds k.toNat d)) e rfl
  rw [this]
  simp [Obj.mapSeq]
  rfl,hr.set r3⟩
 exact ⟨(),_,h1,h2,trivial,q⟩
theorem es_expr {e pos} {Q:AFl→Rho→Sto→Prop} (h:ev c ρ e σ fun _ σ'=>Q .next ρ σ')
  (hw:swapsWith e none pos.line c.env=pure false:=by rfl):es c ρ (exec (.Expr e pos) c.env) σ Q:=fun s hs=>by
 have hi:interactive c.env=false:=by
  unfold interactive
  rw [hs.fr.kind];rfl
 exact wpAny_Expr_any (pg.use (h s hs) (fun v s₁ x σ₁ i₁ e₁ r₁ q₁=>⟨_,ρ,σ₁,hs.ev i₁ e₁,e₁.toS hs.fr.sub,.next,q₁⟩)) hi hw
end Mine
end
section
namespace Mine
open PySem
variable {g:Gx} {c:Cx g} {ρ:Rho} {σ:Sto}
section
variable {Q:AV→Sto→Prop}
theorem list_nes {x y:AV} {l m:List AV} {s:Shared} {u v:Value} (hx:Seq σ x l) (hy:Seq σ y m) (pl:plainL l=true) (pm:plainL m=true) (dl:deepL l≤4) (hu:c.A.units+8 < cLine) (i:c.Inv σ s) (r1:Rep g.w (c.F σ s) u x) (r2:Rep g.w (c.F σ s) v y) :
  PySem.SeqAt.RcNeAt c.A s u v (!eqL l m):=by
 obtain ⟨a,us,n,rfl,hg,hv⟩:=hx.heap i r1
 obtain ⟨b,ws,k,rfl,hg',hw⟩:=hy.heap i r2
 have hla:s.heap.IsList a us.toArray:=⟨_,hg,rfl,n,rfl⟩
 have hlb:s.heap.IsList b ws.toArray:=⟨_,hg',rfl,k,rfl⟩
 rw [eqL_all]
 by_cases hlen:l.length=m.length
 ·have e1:((List.range (min l.length m.length)).all (fun j=>eqA (l.getD j .none) (m.getD j .none)) && l.length==m.length)=(List.range us.toArray.size).all (fun j=>eqA (l.getD j .none) (m.getD j .none)):=by
   rw [List.size_toArray,hv.length,hlen];simp
  rw [e1]
  refine PySem.SeqAt.RcNeAt.lists hla hlb (by rw [List.size_toArray,List.size_toArray,hv.length,hw.length];exact hlen) (by exact o17 hu) fun j h1 h2=>?_
  rw [List.size_toArray] at h1 h2
  obtain ⟨x1,f1,q1⟩:=hv.get' (i:=j) (v:=us[j]) (List.getElem?_eq_getElem h1)
  obtain ⟨x2,f2,q2⟩:=hw.get' (i:=j) (v:=ws[j]) (List.getElem?_eq_getElem h2)
  have g1:l.getD j .none=x1:=by rw [List.getD_eq_getElem?_getD,f1];rfl
  have g2:m.getD j .none=x2:=by rw [List.getD_eq_getElem?_getD,f2];rfl
  rw [g1,g2]
  have:=eqAt (A:=c.A.in1) (s:=s) 4 (Nat.le_trans (deepL_get f1) dl) q1 q2 (plainL_get pl f1) (plainL_get pm f2) fz_sub (by show c.A.units+1+4 < cLine;exact o15 hu)
  simpa using this
 ·have e1:(l.length==m.length)=false:=by simpa using hlen
  rw [e1,Bool.and_false]
  exact PySem.SeqAt.RcNeAt.lists_lengths hla hlb (by rw [List.size_toArray,List.size_toArray,hv.length,hw.length];simpa using hlen) (by exact o17 hu)
theorem cmp_nel {x y:AV} {l m:List AV} (hx:Seq σ x l) (hy:Seq σ y m) (pl:plainL l=true) (pm:plainL m=true) (dl:deepL l≤4) (hu:c.A.units+8 < cLine) (q:Q (.bool (!eqL l m)) σ):op2 c (compareOp .NotEq) x y σ Q:=fun s u v i r1 r2 =>
 list_nes hx hy pl pm dl hu i r1 r2 g.prog g.w c.E _ ⟨_,σ,i,.refl ..,.bool _,q⟩
end
noncomputable def evO (c:Cx g) (ρ:Rho):Option Expr→Sto→(Option Int→Sto→Prop)→Prop
 | Option.none,σ,Q=>Q Option.none σ
 | some e,σ,Q=>ev c ρ e σ fun x σ₁=>∃ i,x = .int i∧Q (some i) σ₁
theorem evO_sound {e:Option Expr} {Q:Option Int→Sto→Prop} (h:evO c ρ e σ Q):gv c ρ (fun _ v o=>IsPart v o) (evalPart e c.env) σ Q:=fun s hs=>by
 cases e with
 | none=>exact wpAny_pure ⟨_,σ,hs.inv,.refl ..,.none,h⟩
 | some e =>
  refine pg.use (h s hs) (fun v s₁ x σ₁ i₁ e₁ r₁ qq=>?_)
  obtain ⟨i,hx,q⟩:=qq
  subst hx
  obtain ⟨_,rfl⟩:=r₁.invInt
  exact ⟨_,σ₁,i₁,e₁,.int _ _,q⟩
noncomputable def cut {α:Type} (l:List α) (lo hi:Option Int):List α:=(l.drop (lo.elim 0 (clipAt l.length))).take (hi.elim l.length (clipAt l.length) - lo.elim 0 (clipAt l.length))
theorem cut_pick {us:List Value} {lo hi:Option Int}:slicePick us.toArray lo hi none=(cut us lo hi).toArray:=by
 rw [slicePick_plain];simp [cut]
theorem RepL.cut {w:World} {F:Fz} {us:List Value} {l:List AV} (h:RepL w F us l) (lo hi:Option Int):RepL w F (cut us lo hi) (cut l lo hi):=by
 unfold Mine.cut;rw [h.length];exact (h.drop _).take _
theorem ev_slice {value:Expr} {lower upper:Option Expr} {p pos:Pos} {Q:AV→Sto→Prop}
  (h:ev c ρ value σ fun x σ₁=>evO c ρ lower σ₁ fun lo σ₂=>evO c ρ upper σ₂ fun hi σ₃=>∃ l,Seq σ₃ x l∧l.length≤sizeLine∧Made Q (cut l lo hi) σ₃):ev c ρ (.Subscript value (.Slice lower upper none p) pos) σ Q:=fun s hs=>by
 refine PyProof.Rows.Subscript_ (pg.use (h s hs) (fun a s₁ x σ₁ i₁ e₁ r₁ q₁=>wpAny_Slice ?_))
 refine pg.use (evO_sound q₁ s₁ (hs.ev i₁ e₁)) (fun vl s₂ lo σ₂ i₂ e₂ r₂ q₂=>?_)
 refine pg.use (evO_sound q₂ s₂ (hs.ev i₂ (e₁.trans e₂))) (fun vu s₃ hi σ₃ i₃ e₃ r₃ qq=>?_)
 rw [evalPart_none]
 refine wpAny_pure ?_
 obtain ⟨l,hx,hz,q₃⟩:=qq
 obtain ⟨b,us,n,rfl,hg,hv⟩:=hx.heap i₃ (r₁.mono (e₂.grow.trans e₃.grow))
 have hl:s₃.heap.IsList b us.toArray:=⟨_,hg,rfl,n,rfl⟩
 refine PyProof.Rows.tail_any (T := "list") (hl.push _).typeIs list_getitem_lookup (wpAny_getItem_list_slice (hl.push _) (Heap.IsSliceOf.new ..) r₂ r₃ .none (by simp) ?_ (by rw [List.size_toArray,hv.length];exact hz)) rfl
 rw [Heap.size_push,cut_pick]
 obtain ⟨y,σ',a1,a2,a3,a4⟩:=made_list (tk:=s₃.toks) (D:=s₃.heap.objs.size+1) (h':=(s₃.heap.push { cls := .type "slice", data := .fields #[vl,vu,.none] }).push { cls := .type "list", data := .seq (cut us lo hi).toArray }) (n:=0) i₃ (fun b o e=>push_keeps _ _ _ _ (push_keeps _ _ _ _ e)) (Nat.le_succ _)
  (by have:=Heap.get?_push_size (s₃.heap.push { cls := .type "slice", data := .fields #[vl,vu,.none] }) (o:=lstO (cut us lo hi) 0) rfl;rw [Heap.size_push] at this;exact this) (hv.cut lo hi) q₃
 exact ⟨y,σ',a1,((e₁.trans e₂).trans e₃).trans a2,a3,a4⟩
theorem foldl_cps (x:Array Nat):∀ (n:Nat) (acc:Array Nat),((List.replicate n x).foldl (· ++ ·) acc).size=acc.size+n * x.size
 | 0,acc=>by simp
 | n+1,acc=>by rw [List.replicate_succ,List.foldl_cons,foldl_cps x n,Array.size_append,Nat.add_mul];omega
theorem mul_len {x:Str} {n:Int}:(Txt.mul x n).length≤x.length * n.toNat:=by
 unfold Txt.mul
 by_cases h1:n < 1
 ·rw [if_pos h1];exact Nat.zero_le _
 ·rw [if_neg h1]
  by_cases h2:(n==1 || x.length==0)=true
  ·rw [if_pos h2]
   have:1≤n.toNat:=by exact o18 h1
   exact Nat.le_mul_of_pos_right _ this
  ·rw [if_neg h2]
   show ((List.replicate n.toNat x.cps).foldl (· ++ ·) #[]).size≤_
   rw [foldl_cps]
   simp [Str.length,Nat.mul_comm]
theorem op_muls {x:Str} {n:Int} {Q:AV→Sto→Prop} (hx:x.length≤1024) (h0 : -1024≤n) (hn:n≤1024) (q:Q (.str (Txt.mul x n)) σ):op2 c (binaryOp .Mult) (.str x) (.int n) σ Q:=fun s u v i r1 r2=>by
 obtain ⟨_,rfl⟩:=r1.invStr;obtain ⟨_,rfl⟩:=r2.invInt
 have hle:x.length * n.toNat≤1024 * 1024:=Nat.mul_le_mul hx (by omega)
 refine SB.mul ⟨?_,fun h1 h2 h3=>?_,fun h1 h2=>?_⟩ fun t' k=>⟨_,σ,i.toks _,.toks ..,.str _ _,q⟩
 ·rw [Bool.or_eq_false_iff];constructor <;> (rw [decide_eq_false_iff_not];omega)
 ·have h4:(x.length:Int) * n≤1024 * 1024:=by
   have e:((x.length * n.toNat:Nat):Int)=(x.length:Int) * n:=by rw [Int.natCast_mul,Int.toNat_of_nonneg (by exact o19 h0 hn h1)]
   omega
  have h5:1024≤(2 ^ 63 - 1) / n:=by
   rw [Int.le_ediv_iff_mul_le (by exact o20 h0 hn h1)]
   have:(1024:Int) * n≤1024 * 1024:=Int.mul_le_mul_of_nonneg_left hn (by decide)
   exact o21 h0 hn h1
  omega
 ·unfold Builtin.Str.tooLong
  rw [decide_eq_false_iff_not,sizeLine_eq]
  omega
theorem Sto.del_self {σ:Sto} {a:Addr}:σ.del a a=Option.none:=if_pos rfl
theorem Sto.del_ne {σ:Sto} {a b:Addr} (h:b≠a):σ.del a b=σ b:=if_neg h
theorem freeze_le {h:Heap} {own:List Addr} {a:Addr}:(fz h own σ).le (fz h own (σ.del a)):=fun b o e=>by
 obtain ⟨e1,e2,e3⟩:=fz_eq.mp e
 refine fz_eq.mpr ⟨?_,e2,e3⟩
 by_cases hb:b=a
 ·subst hb;exact Sto.del_self
 ·exact (Sto.del_ne hb).trans e1
theorem Inv.freeze {w:World} {H₀:Heap} {N own:List Addr} {s:Shared} (i:Inv w H₀ N own σ s) (a:Addr):Inv w H₀ N own (σ.del a) s:=by
 refine ⟨fun b o e=>freeze_le b o (i.keep b o e),fun b y e=>?_,fun b hb=>?_,i.live,i.ns,i.nsub⟩
 ·have hb:b≠a:=by rintro rfl;rw [Sto.del_self] at e;cases e
  rw [Sto.del_ne hb] at e
  exact (i.objs b y e).mono freeze_le fun _ e=>e
 ·by_cases h:b=a
  ·subst h;exact Sto.del_self
  ·exact (Sto.del_ne h).trans (i.off b hb)
inductive Frz:AObj→AV→Prop
 | lst (l:List AV):Frz (.lst l) (.list l)
 | dct (l:List (AV×AV)):Frz (.dct l) (.dict l)
theorem Inv.frozen {w:World} {H₀:Heap} {N own:List Addr} {s:Shared} (i:Inv w H₀ N own σ s) {a:Addr} {x:AObj} {y:AV} (ha:σ a=some x) (hf:Frz x y):Rep w (fz s.heap own (σ.del a)) (.ref a) y:=by
 have hao:a∉own:=fun hm=>by rw [i.off a hm] at ha;cases ha
 have:=i.objs a x ha
 cases hf with
 | lst l =>
  obtain ⟨vs,n,e,r⟩:=this
  exact .list (fz_eq.mpr ⟨Sto.del_self,hao,e⟩) (r.mono freeze_le)
 | dct l =>
  obtain ⟨es,n,e,r,nd⟩:=this
  exact .dict (fz_eq.mpr ⟨Sto.del_self,hao,e⟩) (r.mono freeze_le) nd
inductive FrzR (a:Addr) (y:AV):Rho→Rho→Prop
 | nil:FrzR a y [] []
 | hit {x:Str} {r r':Rho}:FrzR a y r r'→FrzR a y ((x,some (.obj a))::r) ((x,some y)::r')
 | skip {p:Str×Option AV} {r r':Rho}:FrzR a y r r'→FrzR a y (p::r) (p::r')
theorem FrzR.names {a:Addr} {y:AV} {r r':Rho} (h:FrzR a y r r'):r'.map (·.1)=r.map (·.1):=by
 induction h with
 | nil=>rfl
 | hit _ ih=>simp [ih]
 | skip _ ih=>simp [ih]
theorem FrzR.get {a:Addr} {y:AV} {r r':Rho} (h:FrzR a y r r') {x:Str} {v:AV} (hm:(x,some v)∈r'):(x,some v)∈r∨(v=y∧(x,some (.obj a))∈r):=by
 induction h with
 | nil=>exact .inl hm
 | hit _ ih =>
  rcases List.mem_cons.mp hm with e | hm
  ·injection e with e1 e2;injection e2 with e2;subst e1;exact .inr ⟨e2,List.mem_cons_self⟩
  ·exact (ih hm).imp (List.mem_cons_of_mem _) fun q=>⟨q.1,List.mem_cons_of_mem _ q.2⟩
 | skip _ ih =>
  rcases List.mem_cons.mp hm with rfl | hm
  ·exact .inl List.mem_cons_self
  ·exact (ih hm).imp (List.mem_cons_of_mem _) fun q=>⟨q.1,List.mem_cons_of_mem _ q.2⟩
theorem St.freeze {ρ':Rho} {s:Shared} (h:St c ρ σ s) {a:Addr} {x:AObj} {y:AV} (ha:σ a=some x) (hf:Frz x y) (hr:FrzR a y ρ ρ'):St c ρ' (σ.del a) s:=by
 have le:(c.F σ s).le (c.F (σ.del a) s):=freeze_le
 have hy:Rep g.w (c.F (σ.del a) s) (.ref a) y:=h.inv.frozen ha hf
 refine ⟨h.inv.freeze a,hr.names ▸ h.fr,?_,fun z b hk hb=>?_⟩
 ·obtain ⟨m,hn,hm⟩:=h.ns
  refine ⟨m,hn,fun z v hz hk=>?_⟩
  rcases hr.get hz with hz | ⟨rfl,hz⟩
  ·obtain ⟨u,h1,h2⟩:=hm z v hz hk;exact ⟨u,h1,h2.mono le⟩
  ·obtain ⟨u,h1,h2⟩:=hm z _ hz hk;exact ⟨u,h1,by rw [h2.invObj];exact hy⟩
 ·obtain ⟨vo,h1,h2⟩:=h.cl z b hk hb
  refine ⟨vo,h1,fun v hz=>?_⟩
  rcases hr.get hz with hz | ⟨rfl,hz⟩
  ·obtain ⟨u,h3,h4⟩:=h2 v hz;exact ⟨u,h3,h4.mono le⟩
  ·obtain ⟨u,h3,h4⟩:=h2 _ hz;exact ⟨u,h3,by rw [h4.invObj];exact hy⟩
theorem es_freeze {ρ':Rho} {t:Sem Flow} {Q:AFl→Rho→Sto→Prop} {a:Addr} {x:AObj} {y:AV} (ha:σ a=some x) (hf:Frz x y) (hr:FrzR a y ρ ρ') (h:es c ρ' t (σ.del a) Q):es c ρ t σ Q:=fun s hs =>
 es.use (h s (hs.freeze ha hf hr)) (fun f s' fl ρ₁ σ₁ a1 a2 a3 a4=>⟨fl,ρ₁,σ₁,a1,⟨a2.same,(freeze_le (a:=a)).trans a2.grow,a2.hid⟩,a3,a4⟩)
theorem es_ret_freeze {e pos} {Q:AFl→Rho→Sto→Prop} (h:ev c ρ e σ fun x σ'=>∃ a o y,x = .obj a∧σ' a=some o∧Frz o y∧Q (.ret y) ρ (σ'.del a)):es c ρ (exec (.Return (some e) pos) c.env) σ Q:=fun s hs =>
 wpAny_Return_some (pg.use (h s hs) (fun v s₁ x σ₁ i₁ e₁ r₁ qq=>by
  obtain ⟨a,o,y,hx,ha,hf,q⟩:=qq
  subst hx
  obtain rfl:=r₁.invObj
  have st₁:=hs.ev i₁ e₁
  have le:(c.F σ₁ s₁).le (c.F (σ₁.del a) s₁):=freeze_le
  have st₂:St c ρ (σ₁.del a) s₁:=by
   refine ⟨i₁.freeze a,hs.fr,?_,fun z b hk hb=>?_⟩
   ·obtain ⟨m,hn,hm⟩:=st₁.ns
    exact ⟨m,hn,fun z v hz hk=>(hm z v hz hk).imp fun _ q=>⟨q.1,q.2.mono le⟩⟩
   ·obtain ⟨vo,h1,h2⟩:=st₁.cl z b hk hb
    exact ⟨vo,h1,fun v hz=>(h2 v hz).imp fun _ q=>⟨q.1,q.2.mono le⟩⟩
  have e₂:=e₁.toS hs.fr.sub
  exact ⟨_,ρ,σ₁.del a,st₂,⟨e₂.same,e₂.grow.trans le,e₂.hid⟩,.ret (i₁.frozen ha hf),q⟩))
end Mine
end
section
namespace Mine
open PySem
variable {g:Gx} {c:Cx g} {ρ:Rho} {σ:Sto}
noncomputable def swOk (y:Str) (py pos:Pos) (scope sc:Scope):Bool:=(sc.kind == .function) && (sc.names.lookup y==some .local) && (py.line==pos.line) && !(scope.names.any fun x=>x.1==y && (x.2 == .local || x.2 == .cell))
theorem swaps_of {y:Str} {py pos:Pos} {scope:Scope} {elt:Expr} {gens:List Comprehension} {line:Nat} {b:Bool} {ns:List Str} (fr:Frame c ns) (h:swOk y py pos scope c.sc=b):swapsWith (.ListComp elt gens scope pos) (some (.Name y py)) line c.env=pure b:=by
 have hsk:c.sc.kind = .function:=by rw [← fr.sc];exact fr.kind
 have hb:c.env.blockKind = .function:=by unfold Env.blockKind;rw [fr.kind];rfl
 have hk:c.env.kindOf y=c.sc.names.lookup y:=by unfold Env.kindOf;rw [fr.sc]
 show (pure (c.env.blockKind == .function && c.env.kindOf y==some .local && py.line==pos.line && !(scope.names.any fun (n,k)=>n==y && (k == .local || k == .cell))):Sem Bool)=pure b
 rw [← h,hk,hb]
 unfold swOk
 rw [hsk]
theorem es_comp {elt iter:Expr} {x y:Str} {px py pos spos:Pos} {t:Option Expr} {scope:Scope} {fr:Rho} {Q:AFl→Rho→Sto→Prop} (J:List AV→List AV→Sto→Prop) (hfn:c.isFn=true) (hsw:swOk y py pos scope c.sc=true) (hok:compOk x (fr.map (·.1)) scope c.sc=true) (hfr:FrIn fr ρ)
  (h:ev c ρ iter σ fun z σ₁=>∃ l,Iter c z l∧l.length≤sizeLine∧J l [] σ₁)
  (turn:∀ c':Cx g,c'.A=c.A→c'.sc=relab scope c.sc→∀ z rest acc σ₁,J (z::rest) acc σ₁→evT c' ((x,some z)::fr) t σ₁ fun b σ₂=>match b with
   | true=>ev c' ((x,some z)::fr) elt σ₂ fun w σ₃=>J rest (acc++[w]) σ₃
   | false=>J rest acc σ₂)
  (done:∀ acc σ₁,J [] acc σ₁→Made (fun z σ₂=>∃ ρ',Upd y z ρ ρ'∧Q .next ρ' σ₂) acc σ₁)
  (hs:∀ x,foldedSetIterable iter c.env x=pure x:=by intro _;rfl):es c ρ (exec (.Assign [.Name y py] (.ListComp elt [⟨.Name x px,iter,t.toList,0⟩] scope pos) spos) c.env) σ Q:=fun s st=>by
 obtain ⟨hkind,hcell,hfree,hnames,hx,hnd,hfrk⟩:=compOk_facts hok
 have hfreeC:=free_cells hfree (fun n hn=>(relabN_cell hcell (hfrk n hn)).2) hfr st
 rw [exec_Assign_Name_used _ _ _ _ (swaps_of st.fr hsw)]
 refine wpAny_bind (wpAny_standAt (wpAny_bind ?_))
 show wpAny _ _ (do let _ ← comprehension (.ListComp elt [⟨.Name x px,iter,t.toList,0⟩] scope pos) scope c.env _ (newList []) false (eval iter c.env) (some (assign (.Name y py) c.env))) _ _ s
 refine wpAny_bind (wpAny_mono (wpAny_comprehension_free (use:=some (assign (.Name y py) c.env)) (Q:=fun _ s'=>EsP c σ s Q .next s') rfl hs (closureFor_eq hfreeC) hkind hnames
  (pg.use (h s st) (fun v s₁ z σ₁ i₁ e₁ r₁ qq=>?_))) (fun _ s' hq=>wpAny_pure (wpAny_pure hq)) fun _ _ e=>e)
 obtain ⟨l,hit,hsz,hJ⟩:=qq
 have st₁:=st.ev i₁ e₁
 refine comp_core (RR:=fun acc C=>compPost g.M c.A c.E (some (assign (.Name y py) c.env)) (fun _ s'=>EsP c σ s Q .next s') acc C) _ _ binds_name J (fun _ _ _ _ _=>trivial) hok hfr st₁ r₁ hit hJ hsz turn ?_
 intro D C l' σ' h' tk m vs n hJ' hDo hCo hCD hDs hCs hDg hvs hn hle hown hi hlen
 show wpAny _ _ (assign (.Name y py) c.env (.ref D)) _ _ _
 -- the frame with the comprehension's own names still hidden
 let c₂:Cx g:=⟨c.A,c.env,C::c.own,C::c.hid,c.E,c.sc,c.isFn⟩
 have same:Same c c₂:=⟨rfl,rfl,rfl,rfl⟩
 have hC2:C∉c.own:=hCo
 have finish:∀ (z:AV) (σ₂:Sto),c₂.Inv σ₂ { s₁ with heap:=h',toks:=tk }→(c.F σ₁ s₁).le (c₂.F σ₂ { s₁ with heap:=h',toks:=tk })→Rep g.w (c₂.F σ₂ { s₁ with heap:=h',toks:=tk }) (.ref D) z→(∃ ρ',Upd y z ρ ρ'∧Q .next ρ' σ₂) →
   wpAny g.M c.A (assign (.Name y py) c.env (.ref D)) (fun _ s''=>∃ m,s''.heap.Ns C m∧∀ h'',Heap.SameBut C s''.heap h''→EsP c σ s Q .next { s'' with heap:=h'' }) c.E { s₁ with heap:=h',toks:=tk }:=by
  intro z σ₂ i₂ le₂ rz ⟨ρ',hu,hq⟩
  have st₂:St c₂ ρ σ₂ { s₁ with heap:=h',toks:=tk }:=by
   refine ⟨i₂,st₁.fr.enter same rfl rfl hCo,?_,fun w' a hk ha=>?_⟩
   ·obtain ⟨m',hn',hm'⟩:=st₁.ns
    refine ⟨m',(hown _ st₁.fr.loc).ns hn',fun w' v' hw' hk=>?_⟩
    obtain ⟨u,h1,h2⟩:=hm' w' v' hw' hk
    exact ⟨u,h1,h2.mono le₂⟩
   ·obtain ⟨vo,hcl0,h2⟩:=st₁.cl w' a hk ha
    refine ⟨vo,(hown a (st₁.fr.cells w' a ha).1).cell hcl0,fun v' hv'=>?_⟩
    obtain ⟨u,h3,h4⟩:=h2 v' hv'
    exact ⟨u,h3,h4.mono le₂⟩
  refine wpAny_assign_Name (store_sound (c:=c₂) (E:=c.E) st₂ hu hfn rz fun s₃ st₃ e₃=>?_)
  refine ⟨m,(e₃.hid C List.mem_cons_self).ns hn,fun h'' hs''=>?_⟩
  have hk3:∀ b o,b∉[C]→s₃.heap.get? b=some o→h''.get? b=some o:=fun b o hb e=>(hs''.2 b (by simpa using hb)).trans e
  have e0:({ s₃ with heap:=h'' }:Shared)={ s₃ with heap:=h'',toks:=s₃.toks }:=rfl
  obtain ⟨st₄,le₄⟩:=st₃.leave' (c:=c) (tk:=s₃.toks) same rfl hCo (i₁.freshN hCs) { st₁.fr with kinds:=st₃.fr.kinds,nodup:=st₃.fr.nodup } hk3
  refine ⟨.next,ρ',σ₂,st₄,⟨?_,(e₁.grow.trans le₂).trans (e₃.grow.trans le₄),fun a ha=>?_⟩,.next,hq⟩
  ·obtain ⟨h5,t5,e5⟩:=e₃.same
   obtain ⟨h6,t6,e6⟩:=e₁.same
   subst e6
   subst e5
   exact ⟨h'',t5,rfl⟩
  ·have hao:=st.fr.sub a ha
   exact (((e₁.own a hao).trans (hown a hao)).trans (e₃.hid a (List.mem_cons_of_mem _ ha))).trans (.of fun o e=>hk3 a o (by intro hm;exact hCo (List.mem_singleton.mp hm ▸ hao)) e)
 have hD0:σ' D=Option.none:=hi.off D (List.mem_cons_of_mem _ List.mem_cons_self)
 rcases done l' σ' hJ' with hq | hq
 ·have le:(fz h' (C::D::c.own) σ').le (fz h' (C::c.own) σ'):=fun b o e=>by
   obtain ⟨e1,e2,e3⟩:=fz_eq.mp e
   simp only [List.mem_cons,not_or] at e2
   exact fz_eq.mpr ⟨e1,by simp only [List.mem_cons,not_or];exact ⟨e2.1,e2.2.2⟩,e3⟩
  have i₂:c₂.Inv σ' { s₁ with heap:=h',toks:=tk }:=by
   refine ⟨fun b o e=>le b o (hi.keep b o e),fun a z e=>(hi.objs a z e).mono le fun _ e=>e,fun a ha=>?_,fun a ha=>?_,hi.ns,fun a ha=>List.mem_cons_of_mem _ (i₁.nsub a ha)⟩
   ·rcases List.mem_cons.mp ha with q | ha
    ·rw [q];exact hi.off _ List.mem_cons_self
    ·exact hi.off a (List.mem_cons_of_mem _ (List.mem_cons_of_mem _ ha))
   ·rcases List.mem_cons.mp ha with q | ha
    ·rw [q];exact hi.live _ List.mem_cons_self
    ·exact hi.live a (List.mem_cons_of_mem _ (List.mem_cons_of_mem _ ha))
  refine finish _ σ' i₂ (hle.trans le) (.list (fz_eq.mpr ⟨hD0,?_,hDg⟩) (hvs.mono le)) hq
  intro hm
  rcases List.mem_cons.mp hm with e | hm
  ·exact hCD e.symm
  ·exact hDo hm
 ·have le:(fz h' (C::D::c.own) σ').le (fz h' (C::c.own) (σ'.set D (.lst l'))):=fun b o e=>by
   obtain ⟨e1,e2,e3⟩:=fz_eq.mp e
   simp only [List.mem_cons,not_or] at e2
   exact fz_eq.mpr ⟨(Sto.set_ne e2.2.1).trans e1,by simp only [List.mem_cons,not_or];exact ⟨e2.1,e2.2.2⟩,e3⟩
  have i₂:c₂.Inv (σ'.set D (.lst l')) { s₁ with heap:=h',toks:=tk }:=by
   refine ⟨fun b o e=>le b o (hi.keep b o e),fun a z e=>?_,fun a ha=>?_,fun a ha=>?_,hi.ns,fun a ha=>List.mem_cons_of_mem _ (i₁.nsub a ha)⟩
   ·by_cases haD:a=D
    ·rw [haD,Sto.set_self] at e
     injection e with e
     rw [← e,haD]
     exact ⟨vs,n,hDg,hvs.mono le⟩
    ·rw [Sto.set_ne haD] at e
     exact (hi.objs a z e).mono le fun _ e=>e
   ·rcases List.mem_cons.mp ha with q | ha
    ·rw [q];rw [Sto.set_ne hCD];exact hi.off _ List.mem_cons_self
    ·rw [Sto.set_ne (fun q:a=D=>hDo (q ▸ ha))];exact hi.off a (List.mem_cons_of_mem _ (List.mem_cons_of_mem _ ha))
   ·rcases List.mem_cons.mp ha with q | ha
    ·rw [q];exact hi.live _ List.mem_cons_self
    ·exact hi.live a (List.mem_cons_of_mem _ (List.mem_cons_of_mem _ ha))
  exact finish _ _ i₂ (hle.trans le) (.obj D) (hq D hD0)
end Mine
end
section
namespace Mine
open PySem PySem.W
variable {g:Gx} {c:Cx g} {ρ:Rho} {σ:Sto}
noncomputable def fdAt (K:Frag) (f:Addr):FuncData:=match K.lookup f with | some ⟨_,_,.func fd,_⟩=>fd | _=>default
noncomputable def bodyAt (K:Frag) (f:Addr):List Stmt:=match (fdAt K f).body with | .stmts b=>b | _=>[]
noncomputable def fnOk (K:Frag) (f:Addr):Bool:=match K.lookup f with
 | some ⟨_,_,.func fd,_⟩=>(match fd.body with | .stmts _=>true | _=>false) && fd.closure.isEmpty && fd.globals==mainGlobals && fd.builtins==builtinsNs &&
  (match fd.code with | .ref c=>(match K.lookup c with | some ⟨_,_,.fields vs,_⟩=>(match (vs[1]?:Option Value) with | some (Value.str q _)=>q==fd.qualname | _=>false) | _=>false) | _=>false)
 | _=>false
theorem fnAt_of {K:Frag} (X:K.In g.H₀) (nl:g.H₀.NoLimit) {f:Addr} {ps:List Str} (ok:fnOk K f=true) (hb:∀ vals:List Value,vals.length=ps.length→bindArgs (fdAt K f) ⟨vals,[]⟩=pure (ps.zip vals)):FnAt g f ps (bodyAt K f) (fdAt K f).scope:=by
 unfold fnOk at ok
 split at ok
 ·rename_i oc od fd osl hl
  have e:fdAt K f=fd:=by unfold fdAt;rw [hl]
  have eb:bodyAt K f=match fd.body with | .stmts b=>b | _=>[]:=by unfold bodyAt;rw [e]
  rw [e] at hb
  rw [eb,e]
  simp only [Bool.and_eq_true,beq_iff_eq] at ok
  obtain ⟨⟨⟨⟨h1,h2⟩,h3⟩,h4⟩,h5⟩:=ok
  refine ⟨⟨_,fd,X _ _ hl,rfl,?_,rfl,by simpa using h2,h3,h4,?_,hb⟩,nl⟩
  ·split at h1
   ·rename_i b hb';rw [hb']
   ·cases h1
  ·split at h5
   ·rename_i cc hc
    split at h5
    ·rename_i vs _ hk
     split at h5
     ·rename_i q t hq
      have:q=fd.qualname:=by simpa using h5
      subst this
      exact ⟨cc,_,vs,t,hc,X _ _ hk,rfl,hq⟩
     ·cases h5
    ·cases h5
   ·cases h5
 ·cases ok
theorem fa1 {P:List Value→Prop} (h:∀ a,P [a]):∀ vs:List Value,vs.length=1→P vs
 | [a],_=>h a
theorem fa2 {P:List Value→Prop} (h:∀ a b,P [a,b]):∀ vs:List Value,vs.length=2→P vs
 | a::vs,e=>fa1 (P:=fun vs=>P (a::vs)) (h a) vs (Nat.succ.inj e)
theorem fa3 {P:List Value→Prop} (h:∀ a b c,P [a,b,c]):∀ vs:List Value,vs.length=3→P vs
 | a::vs,e=>fa2 (P:=fun vs=>P (a::vs)) (h a) vs (Nat.succ.inj e)
theorem fa4 {P:List Value→Prop} (h:∀ a b c d,P [a,b,c,d]):∀ vs:List Value,vs.length=4→P vs
 | a::vs,e=>fa3 (P:=fun vs=>P (a::vs)) (h a) vs (Nat.succ.inj e)
theorem fa5 {P:List Value→Prop} (h:∀ a b c d e,P [a,b,c,d,e]):∀ vs:List Value,vs.length=5→P vs
 | a::vs,e=>fa4 (P:=fun vs=>P (a::vs)) (h a) vs (Nat.succ.inj e)
theorem fnAt_mk {K:Frag} (X:K.In g.H₀) (nl:g.H₀.NoLimit) {f:Addr} {ps:List Str} {body:List Stmt} {sc:Scope} (ok:fnOk K f=true) (eb:bodyAt K f=body) (es:(fdAt K f).scope=sc) (hb:∀ vals:List Value,vals.length=ps.length→bindArgs (fdAt K f) ⟨vals,[]⟩=pure (ps.zip vals)):FnAt g f ps body sc :=
 eb ▸ es ▸ fnAt_of X nl ok hb
structure TopG (g:Gx) (K:Frag):Prop where
 X:K.In g.H₀
 nl:g.H₀.NoLimit
 names:∃ mg mb,g.H₀.Ns mainGlobals mg∧g.H₀.Ns builtinsNs mb∧(∀ x v,nsIn K mainGlobals x=some (some v)→mg x=some v)∧(∀ x v,nsIn K mainGlobals x=some Option.none→PySem.bootBuiltins x=some v→x ≠ "__name__" → mg x=Option.none∧mb x=some v)
theorem TopG.glob {K:Frag} (T:TopG g K) {x:Str} {v:Value} (h:nsIn K mainGlobals x=some (some v)) (hd:(x==("__debug__":Str))=false:=by decide):Glob g.H₀ x v:=by
 obtain ⟨mg,mb,h1,h2,h3,_⟩:=T.names
 exact ⟨hd,mg,mb,h1,h2,.inl (h3 x v h)⟩
theorem TopG.blt {K:Frag} (T:TopG g K) {x:Str} {v:Value} (h:nsIn K mainGlobals x=some Option.none) (hv:PySem.bootBuiltins x=some v) (hn:x ≠ "__name__" := by decide) (hd:(x==("__debug__":Str))=false:=by decide):Glob g.H₀ x v:=by
 obtain ⟨mg,mb,h1,h2,_,h3⟩:=T.names
 obtain ⟨a,b⟩:=h3 x v h hv hn
 exact ⟨hd,mg,mb,h1,h2,.inr ⟨a,b⟩⟩
end Mine
end
section
namespace Mine
open PySem PySem.W
variable {g:Gx} {c:Cx g} {ρ:Rho} {σ:Sto}
inductive MemR (x:Str) (v:AV):Rho→Prop
 | head {r:Rho}:MemR x v ((x,some v)::r)
 | tail {p:Str×Option AV} {r:Rho}:MemR x v r→MemR x v (p::r)
theorem MemR.mem {x:Str} {v:AV} {r:Rho} (h:MemR x v r):(x,some v)∈r:=by
 induction h with
 | head=>exact List.mem_cons_self
 | tail _ ih=>exact List.mem_cons_of_mem _ ih
theorem ev_nm {x pos v} {Q:AV→Sto→Prop} (hx:MemR x v ρ) (q:Q v σ):ev c ρ (.Name x pos) σ Q:=ev_name hx.mem q
theorem evl_nil {Q:List AV→Sto→Prop} (h:Q [] σ):evl c ρ [] σ Q:=h
theorem evl_cons {e:Expr} {r:List Expr} {Q:List AV→Sto→Prop} (h:ev c ρ e σ fun x σ₁=>evl c ρ r σ₁ fun l σ₂=>Q (x::l) σ₂):evl c ρ (e::r) σ Q:=h
inductive At (ρ:Rho):Expr→AV→Prop
 | nm {x pos v}:MemR x v ρ→At ρ (.Name x pos) v
 | int {i k pos}:At ρ (.Constant (.int i) k pos) (.int i)
 | str {x k pos}:At ρ (.Constant (.str x) k pos) (.str x)
 | none {k pos}:At ρ (.Constant .none k pos) .none
 | bool {b k pos}:At ρ (.Constant (.bool b) k pos) (.bool b)
 | add {l r pos a b}:At ρ l (.int a)→At ρ r (.int b)→At ρ (.BinOp l .Add r pos) (.int (a+b))
 | sub {l r pos a b}:At ρ l (.int a)→At ρ r (.int b)→At ρ (.BinOp l .Sub r pos) (.int (a - b))
inductive Ats (ρ:Rho):List Expr→List AV→Prop
 | nil:Ats ρ [] []
 | cons {e v r l}:At ρ e v→Ats ρ r l→Ats ρ (e::r) (v::l)
theorem ev_at {e:Expr} {v:AV} {Q:AV→Sto→Prop} (h:At ρ e v) (q:Q v σ):ev c ρ e σ Q:=by
 induction h generalizing Q with
 | add _ _ ih ik=>exact ev_BinOp (ih (ik (op_add q)))
 | sub _ _ ih ik=>exact ev_BinOp (ih (ik (op_sub q)))
 | nm h=>exact ev_nm h q
 | int=>exact ev_int q
 | str=>exact ev_str q
 | none=>exact ev_none q
 | bool=>exact ev_bool q
theorem evl_at {es:List Expr} {vs:List AV} {Q:List AV→Sto→Prop} (h:Ats ρ es vs) (q:Q vs σ):evl c ρ es σ Q:=by
 induction h generalizing Q with
 | nil=>exact q
 | cons h _ ih=>exact ev_at h (ih q)
theorem bin_at {l r:Expr} {op:Operator} {pos:Pos} {x y:AV} {Q:AV→Sto→Prop} (h:At ρ l x) (k:At ρ r y) (q:op2 c (binaryOp op) x y σ Q):ev c ρ (.BinOp l op r pos) σ Q:=ev_BinOp (ev_at h (ev_at k q))
theorem bin_r {l r:Expr} {op:Operator} {pos:Pos} {y:AV} {Q:AV→Sto→Prop} (k:At ρ r y) (h:ev c ρ l σ fun x σ₁=>op2 c (binaryOp op) x y σ₁ Q):ev c ρ (.BinOp l op r pos) σ Q:=ev_BinOp (gv.mono h fun _ _ q=>ev_at k q)
theorem cmp_at {l r:Expr} {op:CmpOp} {pos:Pos} {x y:AV} {Q:AV→Sto→Prop} (h:At ρ l x) (k:At ρ r y) (q:op2 c (compareOp op) x y σ Q) (hm:behindInMarks op r=false:=by with_unfolding_all rfl):ev c ρ (.Compare l [op] [r] pos) σ Q:=ev_Cmp (ev_at h (ev_at k q)) hm
theorem cmpb_at {l r:Expr} {op:CmpOp} {pos:Pos} {x y:AV} {Q:Bool→Sto→Prop} (h:At ρ l x) (k:At ρ r y) (q:op2 c (compareOp op) x y σ fun z σ₃=>opb c truthy z σ₃ Q) (hm:behindInMarks op r=false:=by with_unfolding_all rfl):evb c ρ (.Compare l [op] [r] pos) σ Q:=evb_Cmp (ev_at h (ev_at k q)) hm
theorem cmpb_r {l r:Expr} {op:CmpOp} {pos:Pos} {y:AV} {Q:Bool→Sto→Prop} (k:At ρ r y) (h:ev c ρ l σ fun x σ₁=>op2 c (compareOp op) x y σ₁ fun z σ₃=>opb c truthy z σ₃ Q) (hm:behindInMarks op r=false:=by with_unfolding_all rfl):evb c ρ (.Compare l [op] [r] pos) σ Q:=evb_Cmp (gv.mono h fun _ _ q=>ev_at k q) hm
theorem sub_at {l r:Expr} {pos:Pos} {x y:AV} {Q:AV→Sto→Prop} (h:At ρ l x) (k:At ρ r y) (q:subT c l r x y σ Q):ev c ρ (.Subscript l r pos) σ Q:=ev_sub (ev_at h (ev_at k q))
theorem sub_r {l r:Expr} {pos:Pos} {y:AV} {Q:AV→Sto→Prop} (k:At ρ r y) (h:ev c ρ l σ fun x σ₁=>subT c l r x y σ₁ Q):ev c ρ (.Subscript l r pos) σ Q:=ev_sub (gv.mono h fun _ _ q=>ev_at k q)
theorem evAnd_nil {Q:Bool→Sto→Prop} (h:Q true σ):evAll c ρ .And [] σ Q:=h
theorem evOr_nil {Q:Bool→Sto→Prop} (h:Q false σ):evAll c ρ .Or [] σ Q:=h
noncomputable def br (b:Bool) (p q:Prop):Prop:=(b=true→p)∧(b=false→q)
theorem br_true {p q:Prop} (h:p):br true p q:=⟨fun _=>h,fun e=>by cases e⟩
theorem br_false {p q:Prop} (h:q):br false p q:=⟨(fun e=>by cases e),fun _=>h⟩
theorem br_intro {b:Bool} {p q:Prop} (h1:b=true→p) (h2:b=false→q):br b p q:=⟨h1,h2⟩
theorem evAnd_cons {e:Expr} {r:List Expr} {Q:Bool→Sto→Prop} (h:evb c ρ e σ fun b σ₁=>br b (evAll c ρ .And r σ₁ Q) (Q false σ₁)):evAll c ρ .And (e::r) σ Q :=
 gv.mono h fun b σ₁ h=>by cases b;exact h.2 rfl;exact h.1 rfl
theorem evOr_cons {e:Expr} {r:List Expr} {Q:Bool→Sto→Prop} (h:evb c ρ e σ fun b σ₁=>br b (Q true σ₁) (evAll c ρ .Or r σ₁ Q)):evAll c ρ .Or (e::r) σ Q :=
 gv.mono h fun b σ₁ h=>by cases b;exact h.2 rfl;exact h.1 rfl
theorem es_ifc {test body orelse pos} {Q:AFl→Rho→Sto→Prop} (h:evb c ρ test σ fun b σ'=>br b (es c ρ (execs body c.env) σ' Q) (es c ρ (execs orelse c.env) σ' Q)) :
  es c ρ (exec (.If test body orelse pos) c.env) σ Q:=es_if (gv.mono h fun b σ₁ h=>by cases b;exact h.2 rfl;exact h.1 rfl)
theorem evVal_one {op:BoolOp} {e:Expr} {Q:AV→Sto→Prop} (h:ev c ρ e σ Q):evVal c ρ op [e] σ Q:=h
theorem evVal_and {e e':Expr} {r:List Expr} {Q:AV→Sto→Prop} (h:ev c ρ e σ fun x σ₁=>opb c truthy x σ₁ fun b σ₂=>br b (evVal c ρ .And (e'::r) σ₂ Q) (Q x σ₂)):evVal c ρ .And (e::e'::r) σ Q :=
 gv.mono h fun x σ₁ h s a i r=>pg.mono (h s a i r) fun b σ₂ h=>by cases b;exact h.2 rfl;exact h.1 rfl
theorem es_one {st:Stmt} {Q:AFl→Rho→Sto→Prop} (h:es c ρ (exec st c.env) σ Q):es c ρ (execs [st] c.env) σ Q :=
 es_cons (es.mono h fun x ρ' σ' q=>by cases x <;> first | exact es_nil q | exact q)
noncomputable def thn (c:Cx g) (rest:List Stmt) (Q:AFl→Rho→Sto→Prop):AFl→Rho→Sto→Prop:=fun fl ρ' σ'=>match fl with | .next=>es c ρ' (execs rest c.env) σ' Q | fl=>Q fl ρ' σ'
theorem es_seq {st rest} {Q:AFl→Rho→Sto→Prop} (h:es c ρ (exec st c.env) σ (thn c rest Q)):es c ρ (execs (st::rest) c.env) σ Q:=es_cons h
theorem thn_next {rest} {Q:AFl→Rho→Sto→Prop} (h:es c ρ (execs rest c.env) σ Q):thn c rest Q .next ρ σ:=h
theorem thn_ret {rest} {x:AV} {Q:AFl→Rho→Sto→Prop} (h:Q (.ret x) ρ σ):thn c rest Q (.ret x) ρ σ:=h
theorem post_ret {Q:AV→Sto→Prop} {x:AV} (h:Q x σ):fnPost Q (.ret x) ρ σ:=h
theorem post_next {Q:AV→Sto→Prop} (h:Q .none σ):fnPost Q .next ρ σ:=h
noncomputable def trn (Q:AFl→Rho→Sto→Prop) (J:Rho→Sto→Prop):AFl→Rho→Sto→Prop:=fun fl ρ' σ'=>match fl with
 | .next | .cont=>∃ ρ'',Wk ρ'' ρ'∧J ρ'' σ'
 | .brk=>Q .next ρ' σ'
 | .ret v=>Q (.ret v) ρ' σ'
theorem trn_next {Q:AFl→Rho→Sto→Prop} {J:Rho→Sto→Prop} {ρ'':Rho} (hw:Wk ρ'' ρ) (h:J ρ'' σ):trn Q J .next ρ σ:=⟨ρ'',hw,h⟩
theorem trn_ret {Q:AFl→Rho→Sto→Prop} {J:Rho→Sto→Prop} {x:AV} (h:Q (.ret x) ρ σ):trn Q J (.ret x) ρ σ:=h
theorem es_loop {x:Str} {px:Pos} {iter:Expr} {body:List Stmt} {pos:Pos} {Q:AFl→Rho→Sto→Prop} (J:List AV→Rho→Sto→Prop) (hfn:c.isFn=true)
  (h:ev c ρ iter σ fun y σ₁=>∃ l,Iter c y l∧J l ρ σ₁)
  (turn:∀ c':Cx g,c'.A=c.A→c'.sc=c.sc→c'.isFn=true→∀ y rest ρ₁ σ₁,J (y::rest) ρ₁ σ₁→∃ ρ₂,Upd x y ρ₁ ρ₂∧es c' ρ₂ (execs body c'.env) σ₁ (trn Q (J rest)))
  (done:∀ ρ₁ σ₁,J [] ρ₁ σ₁→Q .next ρ₁ σ₁)
  (hs:∀ x,foldedSetIterable iter c.env x=pure x:=by intro _;rfl):es c ρ (exec (.For (.Name x px) iter body [] pos) c.env) σ Q :=
 es_for J hfn h (fun c' hs y rest ρ₁ σ₁ hJ=>turn c' hs.A hs.sc (hs.fn.trans hfn) y rest ρ₁ σ₁ hJ) done hs
theorem upd_ex {x:Str} {y:AV} {ρ₁ ρ₂:Rho} {P:Rho→Prop} (hu:Upd x y ρ₁ ρ₂) (h:P ρ₂):∃ ρ',Upd x y ρ₁ ρ'∧P ρ':=⟨_,hu,h⟩
theorem callee_K {K:Frag} (X:K.In g.H₀) {f:Addr} (ok:fnOk K f=true):Callee g (.ref f):=by
 unfold fnOk at ok
 split at ok
 ·rename_i hl;exact .fn (X _ _ hl) rfl
 ·cases ok
theorem ev_callF {K:Frag} {sc:Scope} {id:Str} {p pos:Pos} {e:Expr} {rest:List Expr} {f:Addr} {Q:AV→Sto→Prop} (T:TopG g K) (hsc:c.sc=sc) (hn:nsIn K mainGlobals id=some (some (.ref f))) (hx:sc.names.lookup id=some .globalImplicit) (ok:fnOk K f=true)
  (h:evl c ρ (e::rest) σ fun xs σ₁=>cal c (.ref f) xs σ₁ Q) (hd:(id==("__debug__":Str))=false:=by rfl) (hp:(e::rest).all noStar=true:=by rfl):ev c ρ (.Call (.Name id p) (e::rest) [] pos) σ Q :=
 ev_call (T.glob hn hd) (by rw [hsc];exact hx) (callee_K T.X ok) h hp
theorem ev_callB {K:Frag} {sc:Scope} {id:Str} {p pos:Pos} {e:Expr} {rest:List Expr} {v:Value} {Q:AV→Sto→Prop} (hv:PySem.bootBuiltins id=some v) (hc:Callee g v) (T:TopG g K) (hsc:c.sc=sc) (hn:nsIn K mainGlobals id=some Option.none) (hx:sc.names.lookup id=some .globalImplicit)
  (h:evl c ρ (e::rest) σ fun xs σ₁=>cal c v xs σ₁ Q) (hn':id ≠ "__name__" := by decide) (hd:(id==("__debug__":Str))=false:=by rfl) (hp:(e::rest).all noStar=true:=by rfl):ev c ρ (.Call (.Name id p) (e::rest) [] pos) σ Q :=
 ev_call (T.blt hn hv hn' hd) (by rw [hsc];exact hx) hc h hp
inductive FrI:Rho→Rho→Prop
 | nil {ρ:Rho}:FrI [] ρ
 | cons {x:Str} {v:AV} {fr ρ:Rho}:MemR x v ρ→FrI fr ρ→FrI ((x,some v)::fr) ρ
theorem FrI.frIn {fr ρ:Rho} (h:FrI fr ρ):FrIn fr ρ:=by
 induction h with
 | nil=>intro p hp;cases hp
 | cons hm _ ih =>
  intro p hp
  rcases List.mem_cons.mp hp with rfl | hp
  ·exact ⟨List.mem_map.mpr ⟨_,hm.mem,rfl⟩,fun v' e=>by injection e with e;subst e;exact hm.mem⟩
  ·exact ih p hp
theorem ev_map {sc:Scope} {elt iter:Expr} {x:Str} {px pos:Pos} {scope:Scope} {Q:AV→Sto→Prop} (fr:Rho) (J:List AV→List AV→Sto→Prop) (hsc:c.sc=sc) (hok:compOk x (fr.map (·.1)) scope sc=true) (hfr:FrI fr ρ)
  (h:ev c ρ iter σ fun y σ₁=>∃ l,Iter c y l∧l.length≤sizeLine∧J l [] σ₁)
  (turn:∀ c':Cx g,c'.A=c.A→c'.sc=relab scope sc→∀ y rest acc σ₁,J (y::rest) acc σ₁→ev c' ((x,some y)::fr) elt σ₁ fun z σ₃=>J rest (acc++[z]) σ₃)
  (done:∀ acc σ₁,J [] acc σ₁→Q (.list acc) σ₁)
  (hs:∀ x,foldedSetIterable iter c.env x=pure x:=by intro _;rfl):ev c ρ (.ListComp elt [⟨.Name x px,iter,[],0⟩] scope pos) σ Q:=by
 subst hsc
 exact ev_comp (t:=Option.none) J hok hfr.frIn h (fun c' hA hS y rest acc σ₁ hJ=>turn c' hA hS y rest acc σ₁ hJ) done hs
theorem ev_filt {sc:Scope} {elt iter test:Expr} {x:Str} {px pos:Pos} {scope:Scope} {Q:AV→Sto→Prop} (fr:Rho) (J:List AV→List AV→Sto→Prop) (hsc:c.sc=sc) (hok:compOk x (fr.map (·.1)) scope sc=true) (hfr:FrI fr ρ)
  (h:ev c ρ iter σ fun y σ₁=>∃ l,Iter c y l∧l.length≤sizeLine∧J l [] σ₁)
  (turn:∀ c':Cx g,c'.A=c.A→c'.sc=relab scope sc→∀ y rest acc σ₁,J (y::rest) acc σ₁→evb c' ((x,some y)::fr) test σ₁ fun b σ₂=>br b (ev c' ((x,some y)::fr) elt σ₂ fun z σ₃=>J rest (acc++[z]) σ₃) (J rest acc σ₂))
  (done:∀ acc σ₁,J [] acc σ₁→Q (.list acc) σ₁)
  (hs:∀ x,foldedSetIterable iter c.env x=pure x:=by intro _;rfl):ev c ρ (.ListComp elt [⟨.Name x px,iter,[test],0⟩] scope pos) σ Q:=by
 subst hsc
 exact ev_comp (t:=some test) J hok hfr.frIn h (fun c' hA hS y rest acc σ₁ hJ=>gv.mono (turn c' hA hS y rest acc σ₁ hJ) fun b σ₂ h=>by cases b;exact h.2 rfl;exact h.1 rfl) done hs
theorem es_map {sc:Scope} {elt iter:Expr} {x y:Str} {px py pos spos:Pos} {scope:Scope} {Q:AFl→Rho→Sto→Prop} (fr:Rho) (J:List AV→List AV→Sto→Prop) (hfn:c.isFn=true) (hsc:c.sc=sc) (hsw:swOk y py pos scope sc=true) (hok:compOk x (fr.map (·.1)) scope sc=true) (hfr:FrI fr ρ)
  (h:ev c ρ iter σ fun y σ₁=>∃ l,Iter c y l∧l.length≤sizeLine∧J l [] σ₁)
  (turn:∀ c':Cx g,c'.A=c.A→c'.sc=relab scope sc→∀ y rest acc σ₁,J (y::rest) acc σ₁→ev c' ((x,some y)::fr) elt σ₁ fun z σ₃=>J rest (acc++[z]) σ₃)
  (done:∀ acc σ₁,J [] acc σ₁→Made (fun z σ₂=>∃ ρ',Upd y z ρ ρ'∧Q .next ρ' σ₂) acc σ₁)
  (hs:∀ x,foldedSetIterable iter c.env x=pure x:=by intro _;rfl):es c ρ (exec (.Assign [.Name y py] (.ListComp elt [⟨.Name x px,iter,[],0⟩] scope pos) spos) c.env) σ Q:=by
 subst hsc
 exact es_comp (t:=Option.none) J hfn hsw hok hfr.frIn h (fun c' hA hS y rest acc σ₁ hJ=>turn c' hA hS y rest acc σ₁ hJ) done hs
theorem es_filt {sc:Scope} {elt iter test:Expr} {x y:Str} {px py pos spos:Pos} {scope:Scope} {Q:AFl→Rho→Sto→Prop} (fr:Rho) (J:List AV→List AV→Sto→Prop) (hfn:c.isFn=true) (hsc:c.sc=sc) (hsw:swOk y py pos scope sc=true) (hok:compOk x (fr.map (·.1)) scope sc=true) (hfr:FrI fr ρ)
  (h:ev c ρ iter σ fun y σ₁=>∃ l,Iter c y l∧l.length≤sizeLine∧J l [] σ₁)
  (turn:∀ c':Cx g,c'.A=c.A→c'.sc=relab scope sc→∀ y rest acc σ₁,J (y::rest) acc σ₁→evb c' ((x,some y)::fr) test σ₁ fun b σ₂=>br b (ev c' ((x,some y)::fr) elt σ₂ fun z σ₃=>J rest (acc++[z]) σ₃) (J rest acc σ₂))
  (done:∀ acc σ₁,J [] acc σ₁→Made (fun z σ₂=>∃ ρ',Upd y z ρ ρ'∧Q .next ρ' σ₂) acc σ₁)
  (hs:∀ x,foldedSetIterable iter c.env x=pure x:=by intro _;rfl):es c ρ (exec (.Assign [.Name y py] (.ListComp elt [⟨.Name x px,iter,[test],0⟩] scope pos) spos) c.env) σ Q:=by
 subst hsc
 exact es_comp (t:=some test) J hfn hsw hok hfr.frIn h (fun c' hA hS y rest acc σ₁ hJ=>gv.mono (turn c' hA hS y rest acc σ₁ hJ) fun b σ₂ h=>by cases b;exact h.2 rfl;exact h.1 rfl) done hs
theorem made_obj {P:Rho→Sto→Prop} {y:Str} {l:List AV} {ρ:Rho} (h:∀ a,σ a=Option.none→∃ ρ',Upd y (.obj a) ρ ρ'∧P ρ' (σ.set a (.lst l))):Made (fun z σ₂=>∃ ρ',Upd y z ρ ρ'∧P ρ' σ₂) l σ := .inr h
theorem made_frz {P:Rho→Sto→Prop} {y:Str} {l:List AV} {ρ:Rho} (h:∃ ρ',Upd y (.list l) ρ ρ'∧P ρ' σ):Made (fun z σ₂=>∃ ρ',Upd y z ρ ρ'∧P ρ' σ₂) l σ := .inl h
theorem evO_none {Q:Option Int→Sto→Prop} (h:Q Option.none σ):evO c ρ Option.none σ Q:=h
theorem evO_some {e:Expr} {Q:Option Int→Sto→Prop} (h:ev c ρ e σ fun x σ₁=>∃ i,x = .int i∧Q (some i) σ₁):evO c ρ (some e) σ Q:=h
theorem int_ex {i:Int} {P:Int→Prop} (h:P i):∃ j,AV.int i = .int j∧P j:=⟨i,rfl,h⟩
noncomputable def jn (M:Rho→Sto→Prop):AFl→Rho→Sto→Prop:=fun fl ρ' σ'=>match fl with
 | .next=>∃ ρ'',Wk ρ'' ρ'∧M ρ'' σ'
 | _=>False
theorem jn_next {M:Rho→Sto→Prop} {ρ'':Rho} (hw:Wk ρ'' ρ) (h:M ρ'' σ):jn M .next ρ σ:=⟨ρ'',hw,h⟩
theorem es.wk {ρ':Rho} {t:Sem Flow} {Q:AFl→Rho→Sto→Prop} (hw:Wk ρ ρ') (h:es c ρ t σ Q):es c ρ' t σ Q:=fun s hs=>h s (hs.wk hw)
theorem es_join {t:Sem Flow} {rest:List Stmt} {Q:AFl→Rho→Sto→Prop} (M:Rho→Sto→Prop) (h1:es c ρ t σ (jn M)) (h2:∀ ρ' σ',M ρ' σ'→es c ρ' (execs rest c.env) σ' Q):es c ρ t σ (thn c rest Q) :=
 es.mono h1 fun fl ρ' σ' q=>by
  cases fl with
  | next=>obtain ⟨ρ'',hw,hm⟩:=q;exact (h2 ρ'' σ' hm).wk hw
  | brk=>exact q.elim
  | cont=>exact q.elim
  | ret _=>exact q.elim
end Mine
end
section
namespace Mine
open PySem PySem.W
theorem topG_of {p prog:Program} {w:World} {loose:List Str} {mean:ExcName→Option Value} {mg mb:Str→Option Value} {h:Heap} {K:Frag} (T:PyProof.Rows.Top p loose mean mg mb h) (X:K.In h):TopG ⟨prog,w,h⟩ K :=
 ⟨X,T.nolimit,mg,mb,T.g,T.b,fun x v e=>mg_of X T.g e,fun x v e hb hn=>⟨mg_none_of X T.g e,(T.builtins x hn).trans hb⟩⟩
noncomputable def σ₀:Sto:=fun _=>none
theorem wellAll_ints {P:Params} {h:Heap} {w:World} {F:Fz} {ns:List Int}:∀ {vs:List Value},WellAll P h vs ((ns.map PyData.int).map ofPy)→RepL w F vs (ns.map AV.int):=by
 induction ns with
 | nil=>intro vs r;cases r;exact .nil
 | cons n ns ih =>
  intro vs r
  rw [List.map_cons,List.map_cons,show ofPy (PyData.int n)=WData.int n from rfl] at r
  cases r with
  | cons a b =>
   cases a with
   | int _ t=>exact .cons (.int n t) (ih b)
theorem fz_none {h:Heap} {b:Addr} {o:Obj}:fz h [] σ₀ b=some o↔h.get? b=some o:=by
 simp [fz,σ₀]
theorem law_end {prog:Program} {w:World} {s₁:Shared} {fa l:Addr} {ns:List Int} {cl:ClaimW} {ca:Str→Option Addr} {mean:ExcName→Option Value} {args:List WData}
  (w1:Well w.params s₁.heap (.ref l) (ofPy (.list (ns.map .int)))) (hg:s₁.gens = #[]) (hn:∀ k,cl.raises args k=false) (hp:cl.post args (.bool true) args=true)
  (spec:∀ (c:Cx ⟨prog,w,s₁.heap⟩),c.A=callerA→cal c (.ref fa) [.list (ns.map .int)] σ₀ (fun x _=>x = .bool true)) :
  wpAny (model prog w) callerA (call (.ref fa) [.ref l]) (fun v s'=>GoodWG cl ca mean args s₁ (.ok (.ret v)) s') (fun e s'=>GoodWG cl ca mean args s₁ (.error e) s') s₁:=by
 have i0:Inv w s₁.heap (nsOf callerA) [] σ₀ s₁:=⟨fun b o h=>fz_none.2 h,(fun a x h=>by cases h),(fun a h=>by cases h),(fun a h=>by cases h),(fun a h=>by cases h),(fun a h=>by cases h)⟩
 have r0:Rep w (fz s₁.heap [] σ₀) (.ref l) (.list (ns.map .int)):=by
  unfold ofPy at w1
  cases w1 with
  | list h1 h2 =>
   refine .list (n:=0) (fz_none.2 h1) (wellAll_ints (P:=w.params) (h:=s₁.heap) ?_)
   rw [← ofPys_eq];exact h2
 have:=spec ⟨callerA,default,[],[],fun _ _=>False,default,true⟩ rfl s₁ [.ref l] i0 (.cons r0 .nil)
 refine wpAny_mono this ?_ (fun _ _ h=>h.elim)
 rintro v s' ⟨x,σ',i,e,r,rfl⟩
 rw [r.invBool]
 obtain ⟨h',tk,rfl⟩:=e.same
 refine ⟨.inl ⟨_,_,[],rfl,hn,.bool _,hp,fun _=>⟨List.nodup_nil,fun _ h=>by cases h⟩⟩,.of_keep fun b o h=>?_,rfl,.of_eq hg⟩
 have:=e.grow b o (fz_none.2 h)
 exact (fz_eq.1 this).2.2
end Mine
end
section
namespace Mine
open PySem
mutual
noncomputable def dr:AV→Nat
 | .tup l=>drs l+1
 | _=>1
noncomputable def drs:List AV→Nat
 | []=>0
 | x::r=>dr x+drs r
end
noncomputable def tkey:AV→Bool
 | .tup l=>areKeys l && decide (deepL l≤1)
 | .int _=>true
 | .none=>true
 | _=>false
theorem isKey_plain {x:AV}:isKey x=true→plain x=true :=
 AV.rec (motive_1:=fun x=>isKey x=true→plain x=true) (motive_2:=fun l=>areKeys l=true→plainL l=true) (motive_3:=fun _=>True) (motive_4:=fun _=>True)
  id (fun _ h=>absurd h Bool.false_ne_true) (fun _=>id) (fun _=>id) (fun _ h=>h) (fun _ _ h=>absurd h Bool.false_ne_true) (fun _ _ h=>absurd h Bool.false_ne_true) (fun _ _ h=>absurd h Bool.false_ne_true) (fun _ h=>absurd h Bool.false_ne_true) (fun _ h=>absurd h Bool.false_ne_true) (fun _ h=>absurd h Bool.false_ne_true)
  id (fun x r i j h=>Bool.and_eq_true_iff.mpr ⟨i (Bool.and_eq_true_iff.mp h).1,j (Bool.and_eq_true_iff.mp h).2⟩) trivial (fun _ _ _ _=>trivial) (fun _ _ _ _=>trivial) x
inductive KV:AV→Prop
 | none:KV .none
 | int (i:Int):KV (.int i)
 | str (x:Str):KV (.str x)
 | tup {l:List AV} (h:areKeys l=true):KV (.tup l)
theorem isKey_view {x:AV} (h:isKey x=true):KV x:=by
 cases x <;> first | exact absurd h Bool.false_ne_true | constructor
 exact h
theorem key_eq {x y:AV}:isKey x=true→isKey y=true→eqA x y=true→x=y :=
 AV.rec (motive_1:=fun x=>∀ y,isKey x=true→isKey y=true→eqA x y=true→x=y) (motive_2:=fun l=>∀ m,areKeys l=true→areKeys m=true→eqL l m=true→l=m) (motive_3:=fun _=>True) (motive_4:=fun _=>True)
  (fun _ _ h e=>match isKey_view h with | .none=>rfl)
  (fun _ _ h=>absurd h Bool.false_ne_true)
  (fun a _ _ h e=>match isKey_view h with | .int b=>congrArg _ (eq_of_beq e))
  (fun a _ _ h e=>match isKey_view h with | .str b=>congrArg _ (eq_of_beq e))
  (fun l ih _ h h' e=>match isKey_view h' with | .tup k=>congrArg _ (ih _ h k e))
  (fun _ _ _ h=>absurd h Bool.false_ne_true) (fun _ _ _ h=>absurd h Bool.false_ne_true) (fun _ _ _ h=>absurd h Bool.false_ne_true) (fun _ _ h=>absurd h Bool.false_ne_true) (fun _ _ h=>absurd h Bool.false_ne_true) (fun _ _ h=>absurd h Bool.false_ne_true)
  (fun m _ _ e=>by cases m with | nil=>rfl | cons=>cases e)
  (fun x r i j m h h' e=>by
   cases m with
   | nil=>cases e
   | cons y t =>
    have h:=Bool.and_eq_true_iff.mp h
    have h':=Bool.and_eq_true_iff.mp h'
    have e:=Bool.and_eq_true_iff.mp e
    rw [i y h.1 h'.1 e.1,j t h.2 h'.2 e.2])
  trivial (fun _ _ _ _=>trivial) (fun _ _ _ _=>trivial) x y
open scoped Classical
theorem eqA_key {x y:AV} (hx:isKey x=true) (hy:isKey y=true):eqA x y=decide (x=y):=by
 by_cases e:x=y
 ·subst e;rw [eqA_refl (isKey_plain hx)];simp
 ·cases h:eqA x y with
  | false=>simp [e]
  | true=>exact absurd (key_eq hx hy h) e
theorem hash_none {prog:Program} {w:World} {A:Around} {E:Value→Shared→Prop} {s:Shared} {Q:Int→Shared→Prop} (h:Q (hK w .none) { s with toks:=s.toks+1 }):wpAny (model prog w) A (pyHash .none) Q E s :=
 PySem.W.pyHash_slot (T := "NoneType") rfl F.slot_NoneType_hash F.entry_NoneType_hash (F.args_NoneType_hash_1 _) (beq_builtin_none _) (.inl rfl) (wpAny_bind (wpAny_pure (wpAny_bind (wpAny_mkInt (wpAny_pure ⟨_,_,rfl,h⟩)))))
inductive HsL (w:World) (s:Shared) (n:Nat) (l:List AV) (rest:List Value) (b:Array Int) (s':Shared):Prop
 | mk (t:Nat) (left:List AV) (h1:RepL w s.heap.get? rest left) (h2:areKeys left=true) (h3:deepL left≤n) (h4:b.toList++hKs w left=hKs w l) (h5:t+drs left=drs l) (h6:s'={ s with toks:=s.toks+t }):HsL w s n l rest b s'
theorem hashes {prog:Program} {w:World}:∀ (n:Nat) {A:Around} {E:Value→Shared→Prop} {s:Shared} {v:Value} {x:AV} {Q:Int→Shared→Prop},deep x≤n→isKey x=true→Rep w s.heap.get? v x→A.units+n < cLine →
  Q (hK w x) { s with toks:=s.toks+dr x }→wpAny (model prog w) A (pyHash v) Q E s:=by
 intro n
 induction n with
 | zero =>
  intro A E s v x Q hd hk r hu h
  rcases r.invP (isKey_plain hk) with _ | b | ⟨i,t⟩ | ⟨x,t⟩ | ⟨a,vs,m,l,ho,hl⟩
  ·exact hash_none h
  ·exact absurd hk Bool.false_ne_true
  ·exact wpAny_pyHash_int h
  ·exact wpAny_pyHash_str h
  ·unfold deep at hd;exact absurd hd (Nat.not_succ_le_zero _)
 | succ n ih =>
  intro A E s v x Q hd hk r hu h
  rcases r.invP (isKey_plain hk) with _ | b | ⟨i,t⟩ | ⟨x,t⟩ | ⟨a,vs,m,l,ho,hl⟩
  ·exact hash_none h
  ·exact absurd hk Bool.false_ne_true
  ·exact wpAny_pyHash_int h
  ·exact wpAny_pyHash_str h
  ·have hdl:deepL l≤n:=by unfold deep at hd;exact o13 hd
   have hk':areKeys l=true:=hk
   have hT:s.TypeIs (.ref a) "tuple" := ⟨_,ho,rfl⟩
   unfold pyHash
   first | unfold pyHashByItsType | skip
   first | refine wpAny_bind (wpAny_cRoomFor_or (.inr (by exact o22 hu)) ?_) | skip
   refine wpAny_bind (wpAny_specialOf hT F.slot_tuple_hash.lookup ?_)
   show wpAny _ _ (if (some (Value.builtin "tuple.__hash__")==some Value.none)=true then _ else _) Q E s
   rw [if_neg (by rw [beq_builtin_none];exact Bool.false_ne_true)]
   refine wpAny_bind (wpAny_specialOf hT F.slot_tuple_hash.lookup ?_)
   show wpAny _ _ (callSpecialIfBoundUnlessNone? (.ref a) "__hash__" _ >>= _) Q E s
   refine wpAny_bind (wpAny_callSpecialIfBoundUnlessNone?_slot hT F.slot_tuple_hash (wpAny_call_entry F.slot_tuple_hash hT F.entry_tuple_hash ?_ (F.args_tuple_hash_1 _)))
   show wpAny _ _ (Builtin.Tuple.tupleItemsOf (.ref a) >>= _) _ _ s
   refine wpAny_bind (wpAny_tupleItemsOf ho rfl ?_)
   refine wpAny_bind ?_
   rw [← Array.forIn_toList]
   refine wpAny_forIn_list _
    (HsL w s n l)
    _ ?_ ?_ _ _ ⟨0,l,hl,hk',hdl,rfl,by exact o23,rfl⟩
   ·intro x rest b s' ⟨t,left,hl,hk,hdl,hb,ht,q⟩
    obtain ⟨k,ks,e,h1,hl'⟩:=hl.invV
    ·subst e q
     have hk:=Bool.and_eq_true_iff.mp (show (isKey k && areKeys ks)=true from hk)
     have hdl:max (deep k) (deepL ks)≤n:=hdl
     refine wpAny_bind (ih (s:={ s with toks:=s.toks+t }) (by omega) hk.1 h1 (by show A.units+1+n < cLine;exact o24 hu) ?_)
     rw [show hKs w (k::ks)=hK w k::hKs w ks from rfl] at hb
     rw [show drs (k::ks)=dr k+drs ks from rfl] at ht
     first
      | exact wpAny_pure ⟨t+dr k,ks,hl',hk.2,by omega,by simpa using hb,by exact o25 ht,by simp [Nat.add_assoc]⟩
      | exact wpAny_bind (wpAny_pure (wpAny_pure ⟨t+dr k,ks,hl',hk.2,by omega,by simpa using hb,by omega,by simp [Nat.add_assoc]⟩))
   ·intro b s' ⟨t,left,hl,hk,hdl,hb,ht,q⟩
    rw [hl.invN] at hb ht
    rw [q]
    rw [show hKs w []=[] from rfl,List.append_nil] at hb
    rw [show drs []=0 from rfl] at ht
    show wpAny _ _ (retInt (Builtin.Tuple.tupleHashOf b.toList)) _ _ _
    rw [hb]
    refine wpAny_ret_mkInt ?_
    show wpAny _ _ (if (decide (-(2:Int) ^ 63≤Builtin.Tuple.tupleHashOf (hKs w l)) && decide (Builtin.Tuple.tupleHashOf (hKs w l) < 2 ^ 63))=true then _ else _) Q E _
    unfold hK reduceHash dr at h
    have et:t=drs l:=ht
    rw [et]
    by_cases hr:(decide (-(2:Int) ^ 63≤Builtin.Tuple.tupleHashOf (hKs w l)) && decide (Builtin.Tuple.tupleHashOf (hKs w l) < 2 ^ 63))=true
    ·rw [if_pos hr]
     rw [if_pos hr] at h
     exact wpAny_pure (by simpa [Nat.add_assoc] using h)
    ·rw [if_neg hr]
     rw [if_neg hr] at h
     exact wpAny_bind (wpAny_rule (wpAny_pure (by simpa [Nat.add_assoc] using h)))
theorem quiets {prog:Program} {w:World}:∀ (n:Nat) {A:Around} {E:Value→Shared→Prop} {s:Shared} {v:Value} {x:AV} {Q:Bool→Shared→Prop},deep x≤n→isKey x=true→Rep w s.heap.get? v x →
  Q true s→wpAny (model prog w) A (eqIsQuiet n v) Q E s:=by
 intro n
 induction n with
 | zero =>
  intro A E s v x Q hd hk r h
  rcases r.invP (isKey_plain hk) with _ | b | ⟨i,t⟩ | ⟨x,t⟩ | ⟨a,vs,m,l,ho,hl⟩
  ·rw [eqIsQuiet_byValue _ rfl];exact wpAny_pure h
  ·exact absurd hk Bool.false_ne_true
  ·rw [eqIsQuiet_byValue _ rfl];exact wpAny_pure h
  ·rw [eqIsQuiet_byValue _ rfl];exact wpAny_pure h
  ·unfold deep at hd;exact absurd hd (Nat.not_succ_le_zero _)
 | succ n ih =>
  intro A E s v x Q hd hk r h
  rcases r.invP (isKey_plain hk) with _ | b | ⟨i,t⟩ | ⟨x,t⟩ | ⟨a,vs,m,l,ho,hl⟩
  ·rw [eqIsQuiet_byValue _ rfl];exact wpAny_pure h
  ·exact absurd hk Bool.false_ne_true
  ·rw [eqIsQuiet_byValue _ rfl];exact wpAny_pure h
  ·rw [eqIsQuiet_byValue _ rfl];exact wpAny_pure h
  ·have hdl:deepL l≤n:=by unfold deep at hd;exact o13 hd
   have hk':areKeys l=true:=hk
   have hT:s.TypeIs (.ref a) "tuple" := ⟨_,ho,rfl⟩
   unfold eqIsQuiet
   refine wpAny_bind (wpAny_specialOf hT F.slot_tuple_eq.lookup ?_)
   show wpAny _ _ (isInstance (.ref a) (.type "tuple") >>= _) _ _ s
   refine wpAny_bind (wpAny_isInstance hT isSubtype_tuple_tuple ?_)
   simp only [Bool.not_true,Bool.false_eq_true,if_false]
   refine wpAny_bind (wpAny_seqItems ho rfl ?_)
   refine wpAny_bind ?_
   show wpAny _ _ (forIn vs.toArray _ _) _ _ s
   rw [← Array.forIn_toList]
   refine wpAny_forIn_list _ (fun rest r s'=>r.1=none∧s'=s∧∃ left,RepL w s.heap.get? rest left∧areKeys left=true∧deepL left≤n) _ ?_ ?_ _ _ ⟨rfl,rfl,l,hl,hk',hdl⟩
   ·intro v rest r s' ⟨hr,q,left,hl,hk,hdl⟩
    obtain ⟨k,ks,e,h1,hl'⟩:=hl.invV
    ·subst e q
     have hk:=Bool.and_eq_true_iff.mp (show (isKey k && areKeys ks)=true from hk)
     have hdl:max (deep k) (deepL ks)≤n:=hdl
     refine wpAny_bind (ih (by omega) hk.1 h1 ?_)
     simp only [Bool.not_true,Bool.false_eq_true,if_false]
     exact wpAny_pure ⟨rfl,rfl,ks,hl',hk.2,by omega⟩
   ·rintro ⟨r1,r2⟩ s' ⟨hr,rfl,_⟩
    simp only at hr
    subst hr
    exact wpAny_pure h
theorem tkey_isKey {x:AV} (h:tkey x=true):isKey x=true:=by
 cases x with
 | tup l=>unfold tkey at h;rw [Bool.and_eq_true] at h;exact h.1
 | int=>rfl
 | none=>rfl
 | _=>cases h
theorem tkey_deep {x:AV} (h:tkey x=true):deep x≤2:=by
 cases x with
 | tup l=>unfold tkey at h;rw [Bool.and_eq_true] at h;have:=of_decide_eq_true h.2;unfold Mine.deep;exact o26 this
 | int=>exact Nat.zero_le _
 | none=>exact Nat.zero_le _
 | _=>cases h
theorem tkey_plain {x:AV} (h:tkey x=true):plain x=true:=isKey_plain (tkey_isKey h)
noncomputable def tkeys (l:List (AV×AV)):Prop:=∀ p∈l,tkey p.1=true
section
variable {w:World} {F:Fz}
inductive AtE (w:World) (F:Fz) (l:List (AV×AV)) (j:Nat) (e:DictEntry):Prop
 | mk (x y:AV) (h:l[j]?=some (x,y)) (k:e.hash=hK w x) (r:Rep w F e.key x) (r':Rep w F e.val y):AtE w F l j e
theorem RepE.at {es:List DictEntry} {l:List (AV×AV)} (r:RepE w F es l) {j:Nat} {e:DictEntry} (h:es[j]?=some e):AtE w F l j e:=by
 induction l generalizing es j with
 | nil=>obtain rfl:=r.invNil;cases h
 | cons p l ih =>
  obtain ⟨k,v,us,rfl,_,h1,h2,r'⟩:=r.invCons
  cases j with
  | zero=>injection h with h;subst h;exact ⟨p.1,p.2,rfl,rfl,h1,h2⟩
  | succ j=>obtain ⟨x,y,e1,e2,e3,e4⟩:=ih r' h;exact ⟨x,y,e1,e2,e3,e4⟩
theorem RepE.to {es:List DictEntry} {l:List (AV×AV)} (r:RepE w F es l) {j:Nat} {x y:AV} (h:l[j]?=some (x,y)):∃ e,es[j]?=some e:=by
 have h1:=(List.getElem?_eq_some_iff.mp h).1
 rw [← r.length] at h1
 exact ⟨_,List.getElem?_eq_getElem h1⟩
theorem RepE.append {es fs:List DictEntry} {l m:List (AV×AV)} (r:RepE w F es l) (t:RepE w F fs m):RepE w F (es++fs) (l++m):=by
 induction l generalizing es with
 | nil=>obtain rfl:=r.invNil;exact t
 | cons p l ih=>obtain ⟨k,v,us,rfl,hk,h1,h2,r'⟩:=r.invCons;exact .cons hk h1 h2 (ih r')
theorem key_once {l:List (AV×AV)} (hn:(l.map (·.1)).Nodup) {i j:Nat} {k y z:AV} (h1:l[i]?=some (k,y)) (h2:l[j]?=some (k,z)):i=j:=by
 have e1:(l.map (·.1))[i]?=some k:=by rw [List.getElem?_map,h1];rfl
 have e2:(l.map (·.1))[j]?=some k:=by rw [List.getElem?_map,h2];rfl
 exact (List.getElem?_inj (List.getElem?_eq_some_iff.mp e1).1 hn).mp (e1.trans e2.symm)
theorem map_no {l:List (AV×AV)} {k z:AV} (h:k∉l.map (·.1)):(l.map fun p=>if p.1=k then (p.1,z) else p)=l:=by
 induction l with
 | nil=>rfl
 | cons p l ih =>
  rw [List.map_cons,List.mem_cons,not_or] at h
  rw [List.map_cons,ih h.2,if_neg fun e=>h.1 e.symm]
theorem RepE.put {es:List DictEntry} {l:List (AV×AV)} (r:RepE w F es l) (hn:(l.map (·.1)).Nodup) {j:Nat} {k y z:AV} {v:Value} (h:l[j]?=some (k,y)) (hz:Rep w F v z):RepE w F (es.modify j fun e=>{ e with val:=v }) (l.map fun p=>if p.1=k then (p.1,z) else p):=by
 induction l generalizing es j with
 | nil=>cases h
 | cons p l ih =>
  obtain ⟨k',v',us,rfl,hk,h1,h2,r'⟩:=r.invCons
  rw [List.map_cons,List.nodup_cons] at hn
  rw [List.map_cons]
  cases j with
  | zero =>
   injection h with h;subst h
   rw [if_pos rfl,map_no hn.1]
   exact .cons hk h1 hz r'
  | succ j =>
   rw [if_neg fun e:p.1=k=>hn.1 (by rw [e];exact List.mem_map.mpr ⟨(k,y),List.mem_of_getElem? h,rfl⟩)]
   exact .cons hk h1 h2 (ih r' hn.2 h)
end
section
variable {prog:Program} {w:World} {F:Fz} {A:Around} {E:Value→Shared→Prop} {s:Shared} {d:Addr} {es:List DictEntry} {ep:Nat} {l:List (AV×AV)} {k:AV} {v:Value}
theorem key_same {x:AV} {u:Value} {Q:Bool→Shared→Prop} (hF:F.le s.heap.get?) (tx:tkey x=true) (tk:tkey k=true) (r1:Rep w F u x) (r2:Rep w F v k) (hu:A.units+2 < cLine) (h:Q (decide (x=k)) s):wpAny (model prog w) A (eqBool u v) Q E s:=by
 rw [← eqA_key (tkey_isKey tx) (tkey_isKey tk)] at h
 exact eqAt 2 (tkey_deep tx) r1 r2 (tkey_plain tx) (tkey_plain tk) hF hu _ _ _ _ h
theorem quiet_all {stored:List Value} {Q:Bool→Shared→Prop} (hF:F.le s.heap.get?) (tk:tkey k=true) (rk:Rep w F v k) (hst:∀ u∈stored,∃ x,tkey x=true∧Rep w F u x) (h:Q false s):wpAny (model prog w) A (tableMayTell v stored) Q E s:=by
 have qt:∀ {u:Value} {x:AV} {Q:Bool→Shared→Prop},tkey x=true→Rep w F u x→Q true s→wpAny (model prog w) A (eqIsQuiet 8 u) Q E s:=fun t r q=>quiets 8 (Nat.le_trans (tkey_deep t) (by decide)) (tkey_isKey t) (r.mono hF) q
 unfold tableMayTell
 split
 ·exact wpAny_pure h
 ·refine wpAny_bind (qt tk rk ?_)
  simp only [Bool.not_true,Bool.false_eq_true,if_false]
  refine wpAny_bind (wpAny_forIn_list _ (fun rest r s'=>s'=s∧r=(none,())∧∀ u∈rest,∃ x,tkey x=true∧Rep w F u x) _ ?_ ?_ _ _ ⟨rfl,rfl,hst⟩)
  ·rintro u rest r s' ⟨rfl,rfl,hr⟩
   obtain ⟨x,tx,rx⟩:=hr u List.mem_cons_self
   refine wpAny_bind (qt tx rx ?_)
   simp only [Bool.not_true,Bool.false_eq_true,if_false]
   exact wpAny_pure ⟨rfl,rfl,fun u hu=>hr u (List.mem_cons_of_mem _ hu)⟩
  ·rintro r s' ⟨rfl,rfl,_⟩
   exact wpAny_pure h
theorem find_plain {ps:List Nat} {Q:Option Nat→Shared→Prop} (hu:A.units+2 < cLine) (hF:F.le s.heap.get?) (ho:s.heap.get? d=some (dctO es ep)) (hr:RepE w F es l) (tl:tkeys l) (tk:tkey k=true) (rk:Rep w F v k)
  (q0:(∀ (j:Nat) (y:AV),l[j]?≠some (k,y))→Q none s) (q1:∀ (j:Nat) (y:AV),l[j]?=some (k,y)→Q (some j) s) (hp:∀ (j:Nat) (y:AV),l[j]?=some (k,y)→j∈ps):wpAny (model prog w) A (dictWalkPlain d v (hK w k) es.toArray ps) Q E s:=by
 unfold dictWalkPlain
 refine wpAny_bind (wpAny_forIn_list _ (fun rest b s'=>s'=s∧b=(none,())∧∀ (j:Nat) (y:AV),l[j]?=some (k,y)→j∈rest) _ ?_ ?_ _ _ ⟨rfl,rfl,hp⟩)
 ·rintro x rest b s' ⟨rfl,rfl,hx⟩
  have next:(∀ y,l[x]?≠some (k,y))→∀ (j:Nat) (y:AV),l[j]?=some (k,y)→j∈rest:=fun hno j y hj=>by
   rcases List.mem_cons.mp (hx j y hj) with rfl | h
   ·exact absurd hj (hno y)
   ·exact h
  rw [List.getElem?_toArray]
  cases he:es[x]? with
  | none=>exact wpAny_pure ⟨rfl,rfl,next fun y hy=>by obtain ⟨e,h⟩:=hr.to hy;rw [he] at h;cases h⟩
  | some e =>
   obtain ⟨x',y',hl,hh,r1,r2⟩:=hr.at he
   dsimp only
   by_cases hq:(e.hash==hK w k)=true
   ·rw [if_pos hq]
    refine wpAny_bind (wpAny_dictEpoch ho rfl (wpAny_bind (key_same hF (tl _ (List.mem_of_getElem? hl)) tk r1 rk hu (wpAny_bind (wpAny_dictEpoch ho rfl ?_)))))
    rw [if_neg (by simp)]
    by_cases e:x'=k
    ·subst e
     rw [decide_eq_true rfl]
     exact wpAny_bind (wpAny_rule (wpAny_pure (wpAny_pure (q1 x y' hl))))
    ·rw [decide_eq_false e]
     exact wpAny_bind (wpAny_rule (wpAny_pure ⟨rfl,rfl,next fun y hy=>by rw [hl] at hy;injection hy with hy;injection hy with hy;exact e hy⟩))
   ·rw [if_neg hq]
    exact wpAny_pure ⟨rfl,rfl,next fun y hy=>by rw [hl] at hy;injection hy with hy;injection hy with hy;rw [hh,hy] at hq;exact hq (beq_self_eq_true _)⟩
 ·rintro b s' ⟨rfl,rfl,hx⟩
  exact wpAny_pure (q0 fun j y h=>by cases hx j y h)
theorem ite_bind {α β:Type} {p:Prop} [Decidable p] {m1 m2:Sem α} {K:α→Sem β}:(if p then m1 >>= K else m2 >>= K)=(if p then m1 else m2) >>= K:=by split <;> rfl
theorem ref_skip {α:Type} {v:Value} {B:α}:carriedByValue.match_1 (fun _=>α) v (fun _=>B) (fun _=>B)=B:=by cases v <;> rfl
theorem find_at {Q:Option Nat→Shared→Prop} (hu:A.units+2 < cLine) (hF:F.le s.heap.get?) (ho:s.heap.get? d=some (dctO es ep)) (hr:RepE w F es l) (tl:tkeys l) (hn:(l.map (·.1)).Nodup) (tk:tkey k=true) (rk:Rep w F v k)
  (q0:(∀ (j:Nat) (y:AV),l[j]?≠some (k,y))→Q none s) (q1:∀ (j:Nat) (y:AV),l[j]?=some (k,y)→Q (some j) s):wpAny (model prog w) A (dictFind d v (hK w k)) Q E s:=by
 have hns:∀ x t,v ≠ .str x t:=by
  rintro x t rfl
  cases k with
  | none=>cases rk.invNone
  | int=>obtain ⟨_,h⟩:=rk.invInt;cases h
  | tup=>obtain ⟨_,_,_,h,_⟩:=rk.invTup;cases h
  | _=>cases tk
 have hps:∀ (j:Nat) (y:AV),l[j]?=some (k,y)→j∈placesWithHash es.toArray.size (fun i=>es.toArray[i]?.map (·.hash)) (hK w k):=fun j y h=>by
  obtain ⟨e,he⟩:=hr.to h
  obtain ⟨x',y',hl,hh,_⟩:=hr.at he
  rw [h] at hl;injection hl with hl;injection hl with hl;subst hl
  refine List.mem_filter.mpr ⟨List.mem_range.mpr ?_,?_⟩
  ·rw [List.size_toArray];exact (List.getElem?_eq_some_iff.mp he).1
  ·show (Option.map _ es.toArray[j]?==_)=true
   rw [List.getElem?_toArray,he,Option.map_some,hh];exact beq_self_eq_true _
 have hnd:(placesWithHash es.toArray.size (fun i=>es.toArray[i]?.map (·.hash)) (hK w k)).Nodup:=List.nodup_range.filter _
 have hst:∀ u∈(placesWithHash es.toArray.size (fun i=>es.toArray[i]?.map (·.hash)) (hK w k)).filterMap (fun i=>es.toArray[i]?.map (·.key)),∃ x,tkey x=true∧Rep w F u x:=fun u hu=>by
  obtain ⟨i,_,hi⟩:=List.mem_filterMap.mp hu
  rw [List.getElem?_toArray,Option.map_eq_some_iff] at hi
  obtain ⟨e,he,rfl⟩:=hi
  obtain ⟨x',y',hl,_,r1,_⟩:=hr.at he
  exact ⟨x',tl _ (List.mem_of_getElem? hl),r1⟩
 have hany:¬ (es.toArray.any fun e=>e.key==v && e.hash != hK w k)=true:=by
  rw [← Array.any_toList,List.any_eq_true]
  rintro ⟨e,hin,hc⟩
  obtain ⟨i,hi⟩:=List.mem_iff_getElem?.mp hin
  obtain ⟨x',y',hl,hh,r1,_⟩:=hr.at hi
  rw [Bool.and_eq_true,beq_iff_eq,bne_iff_ne] at hc
  rw [hc.1] at r1
  exact hc.2 (by rw [hh,Rep.inj r1 (tkey_plain (tl _ (List.mem_of_getElem? hl))) rk (tkey_plain tk)])
 unfold dictFind
 refine wpAny_holding ?_
 refine wpAny_bind (wpAny_dictEntries ho rfl ?_)
 dsimp only
 split
 ·exact absurd rfl (hns _ _)
 by_cases hall:((v::(placesWithHash es.toArray.size (fun i=>es.toArray[i]?.map (·.hash)) (hK w k)).filterMap (fun i=>es.toArray[i]?.map (·.key))).all carriedByValue)=true
 ·rw [if_pos hall]
  exact find_plain hu hF ho hr tl tk rk q0 q1 hps
 rw [if_neg hall]
 clear hall
 generalize placesWithHash es.toArray.size (fun i=>es.toArray[i]?.map (·.hash)) (hK w k)=ps at *
 have tells:∀ {Q:Bool→Shared→Prop},Q false s→wpAny (model prog w) A (if (ps.filterMap (fun i=>es.toArray[i]?.map (·.key))==[v])=true then pure false else tableMayTell v (ps.filterMap (fun i=>es.toArray[i]?.map (·.key)))) Q E s:=fun q=>by
  split
  ·exact wpAny_pure q
  ·exact quiet_all hF tk rk hst q
 rw [if_neg hany,ref_skip]
 rw [ite_bind]
 refine wpAny_bind (tells ?_)
 rw [if_neg (by simp)]
 refine wpAny_bind (wpAny_forIn_list _ (fun rest b s'=>s'=s∧rest.Nodup∧∃ hit,b=(none,hit)∧((hit=none∧∀ (j:Nat) (y:AV),l[j]?=some (k,y)→j∈rest)∨∃ j y,hit=some j∧l[j]?=some (k,y)∧j∉rest)) _ ?_ ?_ _ _ ⟨rfl,hnd,none,rfl,.inl ⟨rfl,hps⟩⟩)
 ·rintro x rest b s' ⟨rfl,hd',hit,rfl,hH⟩
  rw [List.nodup_cons] at hd'
  have next:(∀ y,l[x]?≠some (k,y))→((hit=none∧∀ (j:Nat) (y:AV),l[j]?=some (k,y)→j∈rest)∨∃ j y,hit=some j∧l[j]?=some (k,y)∧j∉rest):=fun hno=>by
   rcases hH with ⟨h0,hx⟩ | ⟨j,y,h1,h2,h3⟩
   ·refine .inl ⟨h0,fun j y hj=>?_⟩
    rcases List.mem_cons.mp (hx j y hj) with rfl | h
    ·exact absurd hj (hno y)
    ·exact h
   ·exact .inr ⟨j,y,h1,h2,fun h=>h3 (List.mem_cons_of_mem _ h)⟩
  rw [List.getElem?_toArray]
  cases he:es[x]? with
  | none=>exact wpAny_pure ⟨rfl,hd'.2,hit,rfl,next fun y hy=>by obtain ⟨e,h⟩:=hr.to hy;rw [he] at h;cases h⟩
  | some e =>
   obtain ⟨x',y',hl,hh,r1,r2⟩:=hr.at he
   dsimp only
   by_cases hq:(e.hash==hK w k)=true
   ·rw [if_pos hq]
    refine wpAny_bind (wpAny_dictEpoch ho rfl (wpAny_bind (key_same hF (tl _ (List.mem_of_getElem? hl)) tk r1 rk hu (wpAny_bind (wpAny_dictEpoch ho rfl ?_)))))
    rw [if_neg (by simp)]
    by_cases e:x'=k
    ·subst e
     rw [decide_eq_true rfl]
     rcases hH with ⟨rfl,_⟩ | ⟨j,y,_,h2,h3⟩
     ·simp only [Option.isSome_none,Bool.false_eq_true,if_false,if_true]
      refine wpAny_bind (wpAny_rule ?_)
      split
      ·exact wpAny_pure (wpAny_pure (q1 x y' hl))
      ·exact wpAny_pure ⟨rfl,hd'.2,some x,rfl,.inr ⟨x,y',rfl,hl,hd'.1⟩⟩
     ·exact absurd (key_once hn h2 hl) (fun e=>h3 (e ▸ List.mem_cons_self))
    ·rw [decide_eq_false e]
     simp only [Bool.false_eq_true,if_false]
     refine wpAny_bind (wpAny_rule ?_)
     exact wpAny_pure ⟨rfl,hd'.2,hit,rfl,next fun y hy=>by rw [hl] at hy;injection hy with hy;injection hy with hy;exact e hy⟩
   ·rw [if_neg hq]
    exact wpAny_pure ⟨rfl,hd'.2,hit,rfl,next fun y hy=>by rw [hl] at hy;injection hy with hy;injection hy with hy;rw [hh,hy] at hq;exact hq (beq_self_eq_true _)⟩
 ·rintro b s' ⟨rfl,_,hit,rfl,hH⟩
  rcases hH with ⟨rfl,hx⟩ | ⟨j,y,rfl,h2,_⟩
  ·exact wpAny_pure (q0 fun j y h=>by cases hx j y h)
  ·exact wpAny_pure (q1 j y h2)
noncomputable def dget (l:List (AV×AV)) (k:AV):Option AV:=(l.find? fun p=>decide (p.1=k)).map (·.2)
noncomputable def dset (l:List (AV×AV)) (k v:AV):List (AV×AV):=if (dget l k).isSome then l.map (fun p=>if p.1=k then (p.1,v) else p) else l++[(k,v)]
theorem dget_none (h:∀ (j:Nat) (y:AV),l[j]?≠some (k,y)):dget l k=none:=by
 have:(l.find? fun p=>decide (p.1=k))=none:=List.find?_eq_none.mpr fun p hp e=>by
  obtain ⟨j,hj⟩:=List.mem_iff_getElem?.mp hp
  exact h j p.2 (by rw [hj,← of_decide_eq_true e])
 unfold dget;rw [this];rfl
theorem dget_some (hn:(l.map (·.1)).Nodup) {j:Nat} {y:AV} (h:l[j]?=some (k,y)):dget l k=some y:=by
 cases hf:dget l k with
 | none =>
  unfold dget at hf
  rw [Option.map_eq_none_iff,List.find?_eq_none] at hf
  exact absurd (decide_eq_true rfl) (hf _ (List.mem_of_getElem? h))
 | some z =>
  unfold dget at hf
  obtain ⟨p,hp,rfl⟩:=Option.map_eq_some_iff.mp hf
  obtain ⟨i,hi⟩:=List.mem_iff_getElem?.mp (List.mem_of_find?_eq_some hp)
  have e:p.1=k:=of_decide_eq_true (List.find?_some (p:=fun p:AV×AV=>decide (p.1=k)) hp)
  have:=key_once (k:=k) (y:=p.2) hn (by rw [hi,← e]) h
  subst this
  rw [hi] at h;injection h with h;rw [h]
theorem raw_get {Q:Option Value→Shared→Prop} (hu:A.units+2 < cLine) (hF:F.le s.heap.get?) (ho:s.heap.get? d=some (dctO es ep)) (hr:RepE w F es l) (tl:tkeys l) (hn:(l.map (·.1)).Nodup) (tk:tkey k=true) (rk:Rep w F v k)
  (q0:dget l k=none→Q none { s with toks:=s.toks+dr k }) (q1:∀ y u,dget l k=some y→Rep w F u y→Q (some u) { s with toks:=s.toks+dr k }):wpAny (model prog w) A (dictGet d v) Q E s:=by
 unfold dictGet
 refine wpAny_holding ?_
 refine wpAny_bind (hashes 2 (tkey_deep tk) (tkey_isKey tk) (rk.mono hF) hu (wpAny_bind (find_at (s:={ s with toks:=s.toks+dr k }) hu hF ho hr tl hn tk rk (fun h=>?_) fun j y h=>?_)))
 ·exact wpAny_pure (q0 (dget_none h))
 ·refine wpAny_bind (wpAny_dictEntries (s:={ s with toks:=s.toks+dr k }) ho rfl ?_)
  obtain ⟨e,he⟩:=hr.to h
  obtain ⟨x',y',hl,_,_,r2⟩:=hr.at he
  rw [h] at hl;injection hl with hl;injection hl with _ hl;subst hl
  rw [List.getElem?_toArray,he]
  exact wpAny_pure (q1 y e.val (dget_some hn h) r2)
theorem raw_set {u:Value} {z:AV} {Q:Unit→Shared→Prop} (hu:A.units+2 < cLine) (hF:F.le s.heap.get?) (ho:s.heap.get? d=some (dctO es ep)) (hr:RepE w F es l) (tl:tkeys l) (hn:(l.map (·.1)).Nodup) (tk:tkey k=true) (rk:Rep w F v k) (rz:Rep w F u z) (hz:l.length≤sizeLine)
  (q:∀ h' es' ep',h'.get? d=some (dctO es' ep')→RepE w F es' (dset l k z)→Heap.SameBut d s.heap h'→Q () { s with heap:=h',toks:=s.toks+dr k }):wpAny (model prog w) A (dictSet d v u) Q E s:=by
 unfold dictSet
 refine wpAny_holding ?_
 refine wpAny_bind (hashes 2 (tkey_deep tk) (tkey_isKey tk) (rk.mono hF) hu ?_)
 unfold dictSetHashed
 refine wpAny_holding ?_
 refine wpAny_bind (find_at (s:={ s with toks:=s.toks+dr k }) hu hF ho hr tl hn tk rk (fun h=>?_) fun j y h=>?_)
 ·have hq:=q (s.heap.update d (Obj.mapDictKeys fun es=>es.push ⟨hK w k,v,u⟩)) (es++[⟨hK w k,v,u⟩]) (ep+1) ((Heap.get?_update_self _ ho rfl).trans (by show some (Obj.mk _ _ (.dict (es.toArray.push _) _) _)=_;rw [List.push_toArray])) (by
   unfold dset;rw [dget_none h];exact hr.append (.cons (tkey_isKey tk) rk rz .nil)) (Heap.SameBut.update ..)
  exact wpAny_bind (wpAny_rule (wpAny_updateDictKeys (hz:=by rw [List.size_toArray,hr.length];exact hz) (s:={ s with toks:=s.toks+dr k }) ho rfl hq))
 ·have hq:=q (s.heap.update d (Obj.mapDict fun es=>es.modify j fun e=>{ e with val:=u })) (es.modify j fun e=>{ e with val:=u }) ep ((Heap.get?_update_self _ ho rfl).trans (by show some (Obj.mk _ _ (.dict (es.toArray.modify _ _) _) _)=_;rw [List.modify_toArray])) (by
   unfold dset;rw [dget_some hn h];exact hr.put hn h rz) (Heap.SameBut.update ..)
  exact wpAny_bind (wpAny_rule (wpAny_bind (wpAny_updateDict (s:={ s with toks:=s.toks+dr k }) ho rfl (wpAny_point hq))))
end
end Mine
end
section
namespace Mine
open PySem
open scoped Classical
section
variable {prog:Program} {w:World} {A:Around} {E:Value→Shared→Prop} {s:Shared}
theorem raw_iter {d:Addr} {es:Array DictEntry} {ep:Nat} {o:Obj} {Q:Value→Shared→Prop} (hd:(d==sysModules)=false) (ho:s.heap.get? d=some o) (hc:o.cls = .type "dict") (hdat:o.data = .dict es ep)
  (hQ:Q (.ref s.heap.objs.size) { s with heap:=s.heap.push { cls := .type "dict_keyiterator", data := .fields #[.ref d,.int 0 0,.int es.size 0,.int ep 0] } }):wpAny (model prog w) A (pyIter (.ref d)) Q E s:=by
 have hT:s.TypeIs (.ref d) "dict" := ⟨o,ho,hc⟩
 refine wpAny_pyIter_slot hT F.slot_dict_iter (wpAny_call_entry F.slot_dict_iter hT F.entry_dict_iter ?_ (F.args_dict_iter_1 _))
 unfold Builtin.«dict.__iter__»
 refine wpAny_bind ?_
 unfold Builtin.Dict.dictSlotNone
 refine wpAny_bind (wpAny_notOrdered_dict hT ?_)
 show wpAny _ _ (pure (Value.ref d)) _ _ s
 refine wpAny_pure ?_
 show wpAny _ _ (Builtin.Dict.showsAll d >>= _) _ _ s
 unfold Builtin.Dict.showsAll
 rw [if_neg (by rw [hd];exact Bool.false_ne_true)]
 refine wpAny_bind (wpAny_pure ?_)
 refine wpAny_bind (wpAny_dictEntries ho hdat ?_)
 refine wpAny_bind (wpAny_dictEpoch ho hdat ?_)
 refine wpAny_bind (wpAny_newObj_type (wpAny_pure ⟨_,rfl, "dict_keyiterator", _,⟨_,Heap.get?_push_size _ rfl,rfl⟩,F.slot_dict_keyiterator_next.lookup,?_⟩))
 simpa [rawInt] using hQ
theorem raw_item {it d:Addr} {i ep:Nat} {es:Array DictEntry} {od:Obj} {Q:Option Value→Shared→Prop} (hit:s.heap.IsKeyIter it d i es.size ep) (hod:s.heap.get? d=some od) (hdd:od.data = .dict es ep) (hlt:i < es.size)
  (hQ:∀ h',h'.IsKeyIter it d (i+1) es.size ep→Heap.SameBut it s.heap h'→Q (some es[i].key) { s with heap:=h' }):wpAny (model prog w) A (pyNext (.ref it)) Q E s:=by
 obtain ⟨o,ho,hc,hd⟩:=id hit
 unfold pyNext
 refine wpAny_bind (wpAny_attempt (wpAny_callSpecial?_slot (name:=Str.ofString "__next__") hit.typeIs F.slot_dict_keyiterator_next
  (wpAny_call_entry F.slot_dict_keyiterator_next hit.typeIs F.entry_dict_keyiterator_next ?_ (F.args_dict_keyiterator_next_1 _))))
 refine wpAny_bind (wpAny_pure ?_)
 refine wpAny_bind ?_
 refine wpAny_bind ?_
 first | refine wpAny_bind (wpAny_typeNameOfWhole_keyiter hit.typeIs (wpAny_pure ?_)) | refine wpAny_bind (wpAny_typeNameOf_keyiter hit.typeIs (wpAny_pure ?_))
 refine wpAny_bind (wpAny_fieldsOf ho hd ?_)
 have hown:Builtin.Dict_items.ownsTuple "dict_keyiterator" = false:=by decide
 simp only [hown,Bool.false_eq_true,if_false]
 show wpAny _ _ (if (Value.ref d==Value.none)=true then _ else _) _ _ s
 rw [if_neg (show ¬ ((Value.ref d==Value.none)=true) from Bool.false_ne_true)]
 refine wpAny_bind (wpAny_pure ?_)
 refine wpAny_bind (wpAny_dictEntries hod hdd ?_)
 rw [if_neg (by simp)]
 refine wpAny_bind (wpAny_pure ?_)
 refine wpAny_bind (wpAny_dictEpoch hod hdd ?_)
 rw [if_neg (by simp)]
 refine wpAny_pure ?_
 simp only [show ¬ ((i:Int) < 0) from by exact o27,if_false,Int.toNat_natCast,Array.getElem?_eq_getElem hlt]
 refine wpAny_bind ?_
 first | refine wpAny_bind (wpAny_typeNameOfWhole_keyiter hit.typeIs (wpAny_pure ?_)) | refine wpAny_bind (wpAny_typeNameOf_keyiter hit.typeIs (wpAny_pure ?_))
 refine wpAny_bind (wpAny_isOneOf_keyiter hit.typeIs ?_)
 show wpAny _ _ (setField (.ref it) 1 (rawInt ((i:Int)+1)) >>= _) _ _ s
 refine wpAny_bind (wpAny_setField ho hd (by simp) ?_)
 have hit':(s.heap.update it (Obj.mapFields (·.setIfInBounds 1 (rawInt ((i:Int)+1))))).IsKeyIter it d (i+1) es.size ep :=
  ⟨_,Heap.get?_update_self _ ho (Obj.isFreed_of_fields (Obj.data_mapFields hd _)),(Obj.cls_mapFields ..).trans hc,by rw [Obj.data_mapFields hd];simp [rawInt]⟩
 refine wpAny_bind (wpAny_holding ?_)
 refine wpAny_bind (wpAny_isOneOf_keyiter (s:={ s with heap:=s.heap.update it (Obj.mapFields (·.setIfInBounds 1 (rawInt ((i:Int)+1)))) }) hit'.typeIs ?_)
 show wpAny _ _ (pure es[i].key) _ _ _
 exact wpAny_pure (wpAny_pure ⟨_,rfl,wpAny_pure (hQ _ hit' (Heap.SameBut.update ..))⟩)
theorem raw_end {it d:Addr} {i ep:Nat} {es:Array DictEntry} {od:Obj} {Q:Option Value→Shared→Prop} (hh:A.handled=none) (hit:s.heap.IsKeyIter it d i es.size ep) (hod:s.heap.get? d=some od) (hdd:od.data = .dict es ep) (hge:es.size≤i)
  (hQ:∀ h',Heap.ExtBut it s.heap h'→Q none { s with heap:=h' }):wpAny (model prog w) A (pyNext (.ref it)) Q E s:=by
 obtain ⟨o,ho,hc,hd⟩:=id hit
 unfold pyNext
 refine wpAny_bind (wpAny_attempt (wpAny_callSpecial?_slot (name:=Str.ofString "__next__") hit.typeIs F.slot_dict_keyiterator_next
  (wpAny_call_entry F.slot_dict_keyiterator_next hit.typeIs F.entry_dict_keyiterator_next ?_ (F.args_dict_keyiterator_next_1 _))))
 refine wpAny_bind (wpAny_pure ?_)
 refine wpAny_bind ?_
 refine wpAny_bind ?_
 first | refine wpAny_bind (wpAny_typeNameOfWhole_keyiter hit.typeIs (wpAny_pure ?_)) | refine wpAny_bind (wpAny_typeNameOf_keyiter hit.typeIs (wpAny_pure ?_))
 refine wpAny_bind (wpAny_fieldsOf ho hd ?_)
 have hown:Builtin.Dict_items.ownsTuple "dict_keyiterator" = false:=by decide
 simp only [hown,Bool.false_eq_true,if_false]
 show wpAny _ _ (if (Value.ref d==Value.none)=true then _ else _) _ _ s
 rw [if_neg (show ¬ ((Value.ref d==Value.none)=true) from Bool.false_ne_true)]
 refine wpAny_bind (wpAny_pure ?_)
 refine wpAny_bind (wpAny_dictEntries hod hdd ?_)
 rw [if_neg (by simp)]
 refine wpAny_bind (wpAny_pure ?_)
 refine wpAny_bind (wpAny_dictEpoch hod hdd ?_)
 rw [if_neg (by simp)]
 refine wpAny_pure ?_
 simp only [show ¬ ((i:Int) < 0) from by exact o27,if_false,Int.toNat_natCast,Array.getElem?_eq_none hge]
 refine wpAny_bind ?_
 first | refine wpAny_bind (wpAny_typeNameOfWhole_keyiter hit.typeIs (wpAny_pure ?_)) | refine wpAny_bind (wpAny_typeNameOf_keyiter hit.typeIs (wpAny_pure ?_))
 show wpAny _ _ (setField (.ref it) 0 .none >>= _) _ _ s
 refine wpAny_bind (wpAny_setField ho hd (by simp) ?_)
 show wpAny _ _ (newExc (.type "StopIteration") [] >>= _) _ _ _
 refine wpAny_bind ?_
 simp only [newExc,newTuple]
 refine wpAny_bind (wpAny_newObj_type ?_ (by size_fits))
 refine wpAny_bind (m:=firstArgMember _ _) (wpAny_of_eq (a:=Value.none) (by first | rfl | (simp only [firstArgMember];rfl)) ?_)
 refine wpAny_newObj_type ?_ (by size_fits)
 simp only [raiseNew]
 refine wpAny_bind (wpAny_handled ?_)
 rw [show A.in1.handled=none from hh]
 refine wpAny_bind (wpAny_pure (wpAny_throw ?_))
 refine wpAny_bind (wpAny_isInstance (T := "StopIteration") (b:=true) ⟨_,Heap.get?_push_size _ rfl,rfl⟩ isSubtype_stop ?_)
 exact wpAny_pure (hQ _ (((Heap.SameBut.update ..).extBut.push _).push _))
theorem raw_walks (hh:A.handled=none) (I d:Addr) (hne:d≠I) (es:List DictEntry) (ep:Nat) :
  Walks prog w A I [I,d] [I] es.length (fun i v=>(es[i]?).map (·.key)=some v) (fun i h=>h.IsKeyIter I d i es.toArray.size ep∧h.get? d=some (dctO es ep)) where
 sub:=fun b hb=>by simp at hb;simp [hb]
 frame:=fun _ _ _ st hk=>⟨st.1.at fun o e=>hk I (by simp) o e,hk d (by simp) _ st.2⟩
 item:=fun i s Q E hi st hQ=>by
  refine raw_item st.1 st.2 rfl (by simpa using hi) fun h' hit' hs'=>?_
  exact hQ _ h' s.toks (by simp [hi]) ⟨hit',(hs'.2 d hne).trans st.2⟩ fun b o hb e=>hs'.extBut b o (fun h=>hb (by simp [h])) e
 done:=fun s Q E st hQ=>raw_end hh st.1 st.2 rfl (by simp) fun h' he'=>hQ h' s.toks fun b o hb e=>he' b o (fun h=>hb (by simp [h])) e
 self:=fun _ _ _ _ st hQ=>wpAny_pyIter_keyiter st.1 hQ
theorem raw_src {d:Addr} {es:List DictEntry} {ep:Nat} (lo:(d==sysModules)=false):PySem.W.KdlSrc prog w "dict" d d es.length (fun i v=>(es[i]?).map (·.key)=some v) (fun h=>h.get? d=some (dctO es ep)) where
 type:=fun _ hm=>⟨_,hm,rfl⟩
 there:=fun _ hm=>⟨Heap.lt_size hm,Heap.lt_size hm⟩
 keep:=fun _ _ hm hk=>hk d (.inl rfl) _ hm
 notList:=by decide
 notTuple:=by decide
 hint:=fun _ _ _ _ hm hq=>PySem.W.kdl_hint_dict ⟨_,hm,rfl⟩ hq
 iter:=fun A s hh hm=>⟨_,_,(fun _ _ hq=>raw_iter lo hm rfl rfl hq),raw_walks hh _ d (Nat.ne_of_lt (Heap.lt_size hm)) es ep,⟨⟨_,Heap.get?_push_size _ rfl,rfl,rfl⟩,Heap.get?_push_of_some _ hm⟩⟩
end
end Mine
end
section
namespace Mine
open PySem
open scoped Classical
variable {g:Gx} {c:Cx g} {ρ:Rho} {σ:Sto}
section
variable {w:World} {F:Fz}
theorem dset_nodup {l:List (AV×AV)} {k v:AV} (h:(l.map (·.1)).Nodup):((dset l k v).map (·.1)).Nodup:=by
 unfold dset
 split
 ·have:(l.map fun p=>if p.1=k then (p.1,v) else p).map (·.1)=l.map (·.1):=by
   rw [List.map_map]
   refine List.map_congr_left fun p _=>?_
   simp only [Function.comp]
   split <;> rfl
  rw [this];exact h
 ·rename_i hn
  rw [List.map_append,List.nodup_append]
  refine ⟨h,by simp,fun a ha b hb=>?_⟩
  simp only [List.map_cons,List.map_nil,List.mem_singleton] at hb
  subst hb
  rintro rfl
  obtain ⟨p,hp,e⟩:=List.mem_map.mp ha
  refine hn ?_
  unfold dget
  rw [Option.isSome_map,List.find?_isSome]
  exact ⟨p,hp,by simpa using e⟩
end
theorem repE_keys {w:World} {F:Fz} {es:List DictEntry} {l:List (AV×AV)} (r:RepE w F es l):RepL w F (es.map (·.key)) (l.map (·.1)):=by
 induction l generalizing es with
 | nil=>obtain rfl:=r.invNil;exact .nil
 | cons p l ih=>obtain ⟨k,v,us,rfl,_,h1,_,r'⟩:=r.invCons;exact .cons h1 (ih r')
noncomputable def Dct (σ:Sto) (x:AV) (l:List (AV×AV)):Prop:=x = .dict l∨∃ a,x = .obj a∧σ a=some (.dct l)
theorem Dct.dict {l:List (AV×AV)}:Dct σ (.dict l) l := .inl rfl
theorem Dct.obj {a:Addr} {l:List (AV×AV)} (h:σ a=some (.dct l)):Dct σ (.obj a) l := .inr ⟨a,rfl,h⟩
theorem Dct.heap {x:AV} {l:List (AV×AV)} {s:Shared} {v:Value} (h:Dct σ x l) (i:c.Inv σ s) (r:Rep g.w (c.F σ s) v x):DctR g.w (c.F σ s) s.heap.get? v l:=by
 rcases h with rfl | ⟨a,rfl,ha⟩
 ·obtain ⟨_,_,_,rfl,hF,hr,ok⟩:=r.invDict
  exact ⟨_,_,_,rfl,(fz_eq.mp hF).2.2,hr,ok⟩
 ·obtain rfl:=r.invObj
  obtain ⟨es,n,h1,h2,h3⟩:=i.objs a _ ha
  exact ⟨a,es,n,rfl,h1,h2,h3⟩
section
variable {prog:Program} {w:World} {F:Fz} {A:Around} {E:Value→Shared→Prop} {s:Shared} {d:Addr} {es:List DictEntry} {ep:Nat} {l:List (AV×AV)} {k:AV} {v:Value}
theorem raw_item_get {y:AV} {Q:Value→Shared→Prop} (hu:A.units+3 < cLine) (hF:F.le s.heap.get?) (ho:s.heap.get? d=some (dctO es ep)) (hr:RepE w F es l) (tl:tkeys l) (hn:(l.map (·.1)).Nodup) (tk:tkey k=true) (rk:Rep w F v k) (hy:dget l k=some y)
  (q:∀ u,Rep w F u y→Q u { s with toks:=s.toks+dr k }):wpAny (model prog w) A (getItem (.ref d) v) Q E s:=by
 have hT:s.TypeIs (.ref d) "dict" := ⟨_,ho,rfl⟩
 unfold getItem
 refine wpAny_holding ?_
 refine wpAny_bind (wpAny_sequenceKey hT (by decide) ?_)
 refine wpAny_bind (wpAny_callSpecial?_slot (name:=Str.ofString "__getitem__") hT slot_dict_getitem (wpAny_call_entry slot_dict_getitem hT entry_dict_getitem ?_ (args_dict_getitem _ _)))
 show wpAny _ _ (dictGet d v >>= _) _ _ s
 refine wpAny_bind (raw_get (by show A.units+1+2 < cLine;exact o28 hu) hF ho hr tl hn tk rk (fun h=>by rw [hy] at h;cases h) fun y' u h r=>?_)
 rw [hy] at h;injection h with h;subst h
 exact wpAny_pure ⟨u,rfl,wpAny_pure (q u r)⟩
theorem raw_item_set {u:Value} {z:AV} {Q:Unit→Shared→Prop} (hu:A.units+3 < cLine) (hF:F.le s.heap.get?) (ho:s.heap.get? d=some (dctO es ep)) (hr:RepE w F es l) (tl:tkeys l) (hn:(l.map (·.1)).Nodup) (tk:tkey k=true) (rk:Rep w F v k) (rz:Rep w F u z) (hz:l.length≤sizeLine)
  (q:∀ h' es' ep',h'.get? d=some (dctO es' ep')→RepE w F es' (dset l k z)→Heap.SameBut d s.heap h'→Q () { s with heap:=h',toks:=s.toks+dr k }):wpAny (model prog w) A (setItem (.ref d) v u) Q E s:=by
 have hT:s.TypeIs (.ref d) "dict" := ⟨_,ho,rfl⟩
 unfold setItem
 refine wpAny_holding ?_
 refine wpAny_bind (wpAny_sequenceKey hT (by decide) ?_)
 refine wpAny_bind (wpAny_callSpecial?_slot (name:=Str.ofString "__setitem__") hT slot_dict_setitem (wpAny_call_entry slot_dict_setitem hT entry_dict_setitem ?_ (args_dict_setitem _ _ _)))
 show wpAny _ _ (Builtin.Dict.notOrdered "__setitem__" ⟨[.ref d,v,u],[]⟩ >>= _) _ _ s
 refine wpAny_bind (wpAny_notOrdered_dict hT ?_)
 show wpAny _ _ (dictSet d v u >>= _) _ _ s
 exact wpAny_bind (raw_set (by show A.units+1+2 < cLine;exact o28 hu) hF ho hr tl hn tk rk rz hz fun h' es' ep' h1 h2 h3=>wpAny_pure ⟨.none,rfl,wpAny_pure (q h' es' ep' h1 h2 h3)⟩)
end
theorem sub_dict {value slice:Expr} {x k y:AV} {l:List (AV×AV)} {Q:AV→Sto→Prop} (hx:Dct σ x l) (tl:tkeys l) (tk:tkey k=true) (hy:dget l k=some y) (hu:c.A.units+3 < cLine) (q:Q y σ) (hn:noSlice slice=true:=by rfl):subT c value slice x k σ Q:=fun s a b i r1 r2=>by
 obtain ⟨d,es,n,rfl,ho,hr,ok⟩:=hx.heap i r1
 exact PyProof.Rows.tail_any (T := "dict") ⟨_,ho,rfl⟩ slot_dict_getitem.lookup (raw_item_get hu fz_sub ho hr tl ok.1 tk r2 hy fun u r=>⟨y,σ,i.toks _,.toks ..,r,q⟩) (subscripted_plain hn _ _)
theorem set_dict {a:Addr} {l:List (AV×AV)} {k z:AV} {Q:Sto→Prop} (ha:σ a=some (.dct l)) (tl:tkeys l) (tk:tkey k=true) (hz:l.length≤sizeLine) (hu:c.A.units+3 < cLine) (q:Q (σ.set a (.dct (dset l k z)))):op3u c (fun a b d=>setItem a b d) (.obj a) k z σ Q:=fun s u v d i r1 r2 r3=>by
 obtain rfl:=r1.invObj
 obtain ⟨es,n,ho,hr,ok⟩:=i.objs a _ ha
 refine raw_item_set hu fz_sub ho hr tl ok.1 tk r2 r3 hz fun h' es' ep' h1 h2 hs=>?_
 obtain ⟨h3,h4⟩:=store_upd (tk:=s.toks+dr k) (y := .dct (dset l k z)) i ha hs ⟨es',ep',h1,h2,dset_nodup ok.1,ok.2⟩
 exact ⟨(),_,h3,h4,trivial,q⟩
theorem ev_dict0 {pos:Pos} {Q:AV→Sto→Prop} (hs:∃ f o,sysModules≤f∧g.H₀.get? f=some o) (h:Q (.dict []) σ∨∀ a,σ a=none→Q (.obj a) (σ.set a (.dct []))):ev c ρ (.Dict [] [] pos) σ Q:=fun s st=>by
 refine wpAny_Dict_empty ?_
 have hn:=st.inv.fresh (Nat.le_refl s.heap.objs.size)
 have ok:DOk s.heap.objs.size []:=⟨List.nodup_nil,by
  obtain ⟨f,o,hf,ho⟩:=hs
  have:=Heap.lt_size (fz_eq.mp (st.inv.keep _ _ ho)).2.2
  rw [beq_eq_false_iff_ne];exact fun e=>Nat.lt_irrefl f (Nat.lt_of_lt_of_le (e ▸ this) hf)⟩
 rcases h with h | h
 ·exact ⟨.dict [],σ,st.inv.keeps (t:=s.toks) (push_keeps _ _),.keeps (t:=s.toks) (push_keeps _ _),.dict (es:=[]) (fz_eq.mpr ⟨hn.1,hn.2,Heap.get?_push_size _ rfl⟩) .nil ok,h⟩
 ·obtain ⟨h1,h2⟩:=store_new (tk:=s.toks) (x := .dct []) st.inv (push_keeps s.heap _) (Nat.le_refl _) (fun F hF=>⟨[],0,Heap.get?_push_size _ rfl,.nil,ok⟩)
  exact ⟨.obj _,_,h1,h2,.obj _,h _ hn.1⟩
section
variable {Q:AV→Sto→Prop}
theorem cal_get2 {x k z:AV} {l:List (AV×AV)} (hx:Dct σ x l) (tl:tkeys l) (tk:tkey k=true) (hu:c.A.units+3 < cLine) (q:Q ((dget l k).getD z) σ):cal c (.builtin "dict.get") [x,k,z] σ Q:=fun s vs i r=>by
 obtain ⟨_,_,rfl,r1,r'⟩:=r.invCons
 obtain ⟨kv,dv,rfl,r2,r3⟩:=r'.two
 obtain ⟨d,es,n,rfl,ho,hr,ok⟩:=hx.heap i r1
 refine call_meetsIn (S:=fun A R s'=>s'=s∧A.units=c.A.units∧(∀ u,Rep g.w (c.F σ s) u ((dget l k).getD z)→R (.ok (.ret u)) { s with toks:=s.toks+dr k })) F.slot_dict_get ⟨_,ho,rfl⟩ F.entry_dict_get (F.args_dict_get_3 _ _ _) (.of_wp fun A R s' ⟨e,hA,h⟩=>?_) ⟨rfl,rfl,fun u r=>⟨_,σ,i.toks _,.toks ..,r,q⟩⟩
 subst e
 show wpAny _ _ (dictGet d kv >>= _) _ _ s'
 refine wpAny_bind (raw_get (by show A.units+1+2 < cLine;exact o29 hu hA) fz_sub ho hr tl ok.1 tk r2 (fun h'=>?_) fun y u h' r=>?_)
 ·rw [h'] at h
  show wpAny _ _ (Builtin.Dict.missed d kv >>= _) _ _ _
  exact wpAny_bind (wpAny_missed_other ok.2 (wpAny_pure ⟨dv,rfl,h dv r3⟩))
 ·rw [h'] at h
  exact wpAny_pure ⟨u,rfl,h u r⟩
theorem cal_listD {x:AV} {l:List (AV×AV)} (hh:c.A.handled=none) (hx:Dct σ x l) (hz:l.length≤sizeLine) (q:Made Q (l.map (·.1)) σ):cal c (.type "list") [x] σ Q:=fun s vs i r=>by
 obtain ⟨_,rfl,r1⟩:=r.one
 obtain ⟨a,es,n,rfl,hg,hv,ok⟩:=hx.heap i r1
 have hlen:es.length=l.length:=hv.length
 refine PySem.W.kdl_call (raw_src ok.2) hh hg (by rw [hlen];exact hz) fun h' tk acc c' hk hn hacc=>?_
 have:acc=(es.map (·.key)).toArray:=by
  refine Array.ext (by rw [hacc.1];simp) fun j h1 h2=>?_
  have:(es[j]?).map (·.key)=some acc[j]:=hacc.2 j acc[j] (by simp)
  simp only [List.getElem_toArray,List.getElem_map]
  rw [Option.map_eq_some_iff] at this
  obtain ⟨e,he,hke⟩:=this
  have hj:j < es.length:=by simpa using h2
  rw [List.getElem?_eq_getElem hj] at he
  injection he with he
  rw [he,hke]
 subst this
 refine made_list (tk:=tk) i hk (Nat.le_refl _) hn ?_ q
 exact repE_keys hv
end
end Mine
end
section
namespace Mine
open PySem
open scoped Classical
variable {g:Gx} {c:Cx g} {ρ:Rho} {σ:Sto} {Q:AV→Sto→Prop}
section
variable {prog:Program} {w:World} {A:Around} {E:Value→Shared→Prop} {s:Shared}
theorem raw_len (d:Addr) (hd:(d==sysModules)=false) :
  MeetsIn prog w (Builtin.«dict.__len__» ⟨[.ref d],[]⟩) (fun _ R s=>∃ es ep,s.heap.get? d=some (dctO es ep)∧R (.ok (.ret (.int es.length s.toks))) { s with toks:=s.toks+1 }) :=
 .of_wp fun A R s ⟨es,ep,ho,h⟩=>by
  show wpAny _ _ (dictSize d >>= _) _ _ s
  unfold dictSize
  refine wpAny_bind (wpAny_bind (wpAny_dictEntries ho rfl (wpAny_pure ?_)))
  show wpAny _ _ (Builtin.Dict.pendingCount d >>= _) _ _ s
  refine wpAny_bind (wpAny_pendingCount_other hd ?_)
  refine wpAny_ret_mkInt ?_
  rw [Nat.add_zero,List.size_toArray];exact h
theorem raw_call_len {d:Addr} {es:List DictEntry} {ep:Nat} {Q:Value→Shared→Prop} (hd:(d==sysModules)=false) (hm:s.heap.get? d=some (dctO es ep)) (hfit:(es.length:Int) < 2 ^ 63)
  (h:Q (.int es.length (s.toks+1)) { s with toks:=s.toks+1+1 }):wpAny (model prog w) A (call (.builtin "len") [.ref d]) Q E s:=by
 have hT:s.TypeIs (.ref d) "dict" := ⟨_,hm,rfl⟩
 refine Calls.call_function_entry kind_len plain_len entry_len (args_len1 _) ?_
 unfold Builtin.«len»
 refine wpAny_bind (m:=oneArg "len" _) (wpAny_pure ?_)
 refine wpAny_bind (m:=callSpecial? (.ref d) (Str.ofString "__len__")) (wpAny_callSpecial?_slot (name:=Str.ofString "__len__") hT F.slot_dict_len
  (call_meetsIn F.slot_dict_len hT F.entry_dict_len (F.args_dict_len_1 _) (raw_len d hd) ⟨es,ep,hm,?_⟩))
 show wpAny _ _ _ _ _ { s with toks:=s.toks+1 }
 refine wpAny_bind (wpAny_holding (wpAny_pure ?_))
 refine wpAny_bind (wpAny_letGo ?_)
 show wpAny _ _ (if ((es.length:Nat):Int) < 0 then _ else _) _ _ _
 rw [if_neg (by exact o30 hfit)]
 show wpAny _ _ (if ((es.length:Nat):Int)≥2 ^ 63 then _ else _) _ _ _
 rw [if_neg (by exact o31 hfit)]
 exact wpAny_bind (wpAny_mkInt (wpAny_pure ⟨_,rfl,h⟩))
theorem raw_forEmpty {id:String} {d:Addr} {es:List DictEntry} {ep:Nat} {Q:Array DictEntry→Shared→Prop} (ho:s.heap.get? d=some (dctO es ep)) (hk:∀ e∈es,∃ a,e.key = .ref a∧s.TypeIs (.ref a) "tuple") (hn:(es.map (·.hash)).Nodup) (h:Q es.toArray s) :
  wpAny (model prog w) A (Builtin.Dict.entriesForEmpty id d) Q E s:=by
 unfold Builtin.Dict.entriesForEmpty
 refine wpAny_bind (wpAny_dictEntries ho rfl ?_)
 refine wpAny_bind ?_
 rw [← Array.forIn_toList]
 refine wpAny_forIn_list _ (fun rest _ s'=>s'=s∧∀ e∈rest,e∈es) _ ?_ ?_ _ _ ⟨rfl,fun e he=>by simpa using he⟩
 ·rintro e rest b s' ⟨rfl,hr⟩
  obtain ⟨a,ha,hT⟩:=hk e (hr e List.mem_cons_self)
  unfold Builtin.Dict.quietEq
  rw [ha]
  refine wpAny_bind (wpAny_bind (wpAny_specialOf hT F.slot_tuple_eq.lookup (wpAny_pure ?_)))
  have e1:(some (Value.builtin "tuple.__eq__")==some (Value.builtin "object.__eq__"))=false:=by decide
  rw [e1]
  simp only [Bool.not_false,if_true]
  have e2:¬ (es.toArray.filter (·.hash==e.hash)).size > 1:=by
   have:(es.toArray.filter (·.hash==e.hash)).size=(es.filter (·.hash==e.hash)).length:=by simp
   rw [this]
   have hc:(es.filter (·.hash==e.hash)).length=(es.map (·.hash)).count e.hash:=by
    rw [List.count_eq_countP,List.countP_map,List.countP_eq_length_filter]
    rfl
   rw [hc]
   have:=List.nodup_iff_count.mp hn e.hash
   exact o32 (by assumption) hc this
  rw [if_neg e2]
  exact wpAny_pure ⟨rfl,fun u hu=>hr u (List.mem_cons_of_mem _ hu)⟩
 ·rintro b s' ⟨rfl,_⟩
  exact wpAny_pure h
theorem raw_call_dict {o:Addr} {es:List DictEntry} {ep:Nat} {Q:Value→Shared→Prop} (hoS:(o==sysModules)=false) (ho:s.heap.get? o=some (dctO es ep)) (hsz:es.length≤sizeLine) (hk:∀ e∈es,∃ a,e.key = .ref a∧s.TypeIs (.ref a) "tuple") (hn:(es.map (·.hash)).Nodup)
  (h:∀ h' n,h'.get? s.heap.objs.size=some (dctO es n)→(∀ b o,s.heap.get? b=some o→h'.get? b=some o)→Q (.ref s.heap.objs.size) { s with heap:=h' }) :
  wpAny (model prog w) A (call (.type "dict") [.ref o]) Q E s:=by
 refine callType_codes (Q₁:=fun obj s₁=>obj = .ref s.heap.objs.size∧s₁={ s with heap:=s.heap.push { cls := .type "dict", data := .dict #[] } }) F.kt_called_dict (F.kt_typeCall_dict_1 _) F.entry_dict_init (kt_code_dict_new _ ⟨rfl,rfl⟩) ?_
 rintro obj s₁ ⟨rfl,rfl⟩
 have hnew:(s.heap.push { cls := .type "dict", data := .dict #[] }).get? s.heap.objs.size=some (dctO [] 0):=Heap.get?_push_size _ rfl
 have ho':(s.heap.push { cls := .type "dict", data := .dict #[] }).get? o=some (dctO es ep):=Heap.get?_push_of_some _ ho
 have hTn:({ s with heap:=s.heap.push { cls := .type "dict", data := .dict #[] } }:Shared).TypeIs (.ref s.heap.objs.size) "dict" := ⟨_,hnew,rfl⟩
 have hTo:({ s with heap:=s.heap.push { cls := .type "dict", data := .dict #[] } }:Shared).TypeIs (.ref o) "dict" := ⟨_,ho',rfl⟩
 have hdo:s.heap.objs.size≠o:=fun e=>absurd (Heap.lt_size ho) (by rw [e];exact Nat.lt_irrefl _)
 refine ⟨hTn,F.args_dict_init_2 _ _,?_⟩
 unfold Builtin.«dict.__init__»
 refine wpAny_bind ?_
 unfold Builtin.Dict.selfAndRest
 refine wpAny_bind (wpAny_notOrdered_dict hTn ?_)
 show wpAny _ _ (pure (s.heap.objs.size,[Value.ref o])) _ _ _
 refine wpAny_pure ?_
 show wpAny _ _ (Builtin.Dict.updateFrom "dict.__init__" s.heap.objs.size (.ref o) [] .none) _ _ _
 unfold Builtin.Dict.updateFrom
 refine wpAny_bind (wpAny_typeOf hTo ?_)
 rw [if_neg (by decide)]
 refine wpAny_bind ?_
 unfold Builtin.Dict.merge
 refine wpAny_bind ?_
 unfold Builtin.Dict.readDirectly
 refine wpAny_bind (wpAny_isInstance hTo isSubtype_dict_dict ?_)
 simp only [Bool.not_true,Bool.false_eq_true,if_false]
 refine wpAny_bind (wpAny_specialOf hTo F.slot_dict_iter.lookup (wpAny_pure ?_))
 simp only [beq_self_eq_true,if_true]
 refine wpAny_bind (wpAny_pure ?_)
 have fin:∀ h' n,h'.get? s.heap.objs.size=some (dctO es n)→(∀ b o,s.heap.get? b=some o→h'.get? b=some o)→wpAny (model prog w) A.in1.in1 (Builtin.Dict.addKeywords s.heap.objs.size [] >>= fun _=>ret .none) (fun fin s'=>match fin with | .done f=>wants (fun r s₂=>r = .none∧Q (.ref s.heap.objs.size) s₂) E (.ok f) s' | .again c'=>c'.quiet=true∧codeAny (model prog w) A.in1 c' (wants (fun r s₂=>r = .none∧Q (.ref s.heap.objs.size) s₂) E) s')
    (fun e s'=>wants (fun r s₂=>r = .none∧Q (.ref s.heap.objs.size) s₂) E (.error e) s') { s with heap:=h' }:=fun h' n h1 h2=>wpAny_bind (wpAny_pure (wpAny_pure ⟨rfl,h h' n h1 h2⟩))
 unfold Builtin.Dict.mergeDict
 rw [if_neg (by simpa using hdo)]
 unfold Builtin.Dict.showsAll
 rw [if_neg (by rw [hoS];exact Bool.false_ne_true)]
 refine wpAny_bind (wpAny_pure ?_)
 refine wpAny_bind (wpAny_dictEntries (s:={ s with heap:=s.heap.push { cls := .type "dict", data := .dict #[] } }) ho' rfl ?_)
 cases es with
 | nil =>
  have e1:(!(decide ((#[]:Array DictEntry).size≤8) && (#[]:Array DictEntry).all fun e=>(keyPart e.key).isSome))=false:=by simp
  rw [if_neg (by simp)]
  refine wpAny_bind (wpAny_dictEpoch (s:={ s with heap:=s.heap.push { cls := .type "dict", data := .dict #[] } }) ho' rfl ?_)
  refine wpAny_bind (wpAny_dictEntries (s:={ s with heap:=s.heap.push { cls := .type "dict", data := .dict #[] } }) ho' rfl ?_)
  refine wpAny_bind ?_
  rw [Std.Legacy.Range.forIn_eq_forIn_range']
  exact wpAny_pure (wpAny_pure (fin _ 0 hnew fun b o e=>Heap.get?_push_of_some _ e))
 | cons e0 rest =>
  obtain ⟨a0,ha0,_⟩:=hk e0 List.mem_cons_self
  have e1:((decide ((e0::rest).toArray.size≤8) && (e0::rest).toArray.all fun e=>(keyPart e.key).isSome))=false:=by
   simp [ha0,keyPart]
  dsimp only
  rw [e1,if_pos (by rfl)]
  refine wpAny_bind (wpAny_dictEntries (s:={ s with heap:=s.heap.push { cls := .type "dict", data := .dict #[] } }) hnew rfl ?_)
  rw [if_pos (by rfl)]
  refine wpAny_bind (raw_forEmpty ho' (fun e he=>?_) hn ?_)
  ·obtain ⟨a,ha,o',ho',hc'⟩:=hk e he
   exact ⟨a,ha,o',Heap.get?_push_of_some _ ho',hc'⟩
  ·rw [if_pos (by simp)]
   refine wpAny_bind (wpAny_updateDictKeysTo (s:={ s with heap:=s.heap.push { cls := .type "dict", data := .dict #[] } }) hnew rfl (wpAny_pure (fin _ 1 ?_ ?_)) (by simp at hsz ⊢;exact o33 hsz))
   ·exact Heap.get?_update_self _ hnew rfl
   ·intro b o' e
    exact ((Heap.SameBut.update ..).2 b (Nat.ne_of_lt (Heap.lt_size e))).trans (Heap.get?_push_of_some _ e)
end
theorem cal_lenD {x:AV} {l:List (AV×AV)} (hx:Dct σ x l) (hz:(l.length:Int) < 2 ^ 63) (q:Q (.int l.length) σ):cal c (.builtin "len") [x] σ Q:=fun s vs i r=>by
 obtain ⟨_,rfl,r1⟩:=r.one
 obtain ⟨a,es,n,rfl,hg,hv,ok⟩:=hx.heap i r1
 have hlen:es.length=l.length:=hv.length
 refine raw_call_len ok.2 hg (by rw [hlen];exact hz) ⟨.int l.length,σ,i.toks _,.toks ..,?_,q⟩
 rw [hlen];exact .int _ _
theorem repE_hash {w:World} {F:Fz} {es:List DictEntry} {l:List (AV×AV)} (r:RepE w F es l):es.map (·.hash)=l.map fun p=>hK w p.1:=by
 induction l generalizing es with
 | nil=>obtain rfl:=r.invNil;rfl
 | cons p l ih=>obtain ⟨k,v,us,rfl,_,_,_,r'⟩:=r.invCons;rw [List.map_cons,List.map_cons,ih r']
noncomputable def tups (l:List (AV×AV)):Prop:=∀ p∈l,∃ t,p.1 = .tup t
theorem repE_tup {w:World} {F:Fz} {s:Shared} (hF:F.le s.heap.get?) {es:List DictEntry} {l:List (AV×AV)} (r:RepE w F es l) (t:tups l):∀ e∈es,∃ a,e.key = .ref a∧s.TypeIs (.ref a) "tuple" := fun e he=>by
 obtain ⟨j,hj⟩:=List.mem_iff_getElem?.mp he
 obtain ⟨x,y,hl,_,rk,_⟩:=r.at hj
 obtain ⟨z,rfl⟩:=t _ (List.mem_of_getElem? hl)
 obtain ⟨a,vs,n,e1,h,_⟩:=rk.invTup
 exact ⟨a,e1,_,hF _ _ h,rfl⟩
theorem new_ok {s:Shared} {l:List (AV×AV)} (i:c.Inv σ s) (hs:∃ f o,sysModules≤f∧g.H₀.get? f=some o) (hn:(l.map (·.1)).Nodup):DOk s.heap.objs.size l:=⟨hn,by
  obtain ⟨f,o,hf,ho⟩:=hs
  have:=Heap.lt_size (fz_eq.mp (i.keep _ _ ho)).2.2
  rw [beq_eq_false_iff_ne];exact fun e=>Nat.lt_irrefl f (Nat.lt_of_lt_of_le (e ▸ this) hf)⟩
noncomputable def MadeD (Q:AV→Sto→Prop) (l:List (AV×AV)) (σ:Sto):Prop:=Q (.dict l) σ∨∀ a,σ a=none→Q (.obj a) (σ.set a (.dct l))
theorem made_dict {s:Shared} {h':Heap} {tk:Nat} {D:Addr} {es:List DictEntry} {n:Nat} {l:List (AV×AV)} (i:c.Inv σ s) (hk:∀ b o,s.heap.get? b=some o→h'.get? b=some o) (hD:s.heap.objs.size≤D) (hg:h'.get? D=some (dctO es n))
  (r:RepE g.w (c.F σ s) es l) (ok:DOk D l) (q:MadeD Q l σ):PgP c (Rep g.w) σ s Q (.ref D) { s with heap:=h',toks:=tk }:=by
 have hn:=i.fresh hD
 rcases q with q | q
 ·exact ⟨.dict l,σ,i.keeps hk,.keeps hk,.dict (fz_eq.mpr ⟨hn.1,hn.2,hg⟩) (r.mono (keep_fz hk)) ok,q⟩
 ·obtain ⟨h1,h2⟩:=store_new (tk:=tk) (x := .dct l) i hk hD (fun F hF=>⟨es,n,hg,r.mono hF,ok⟩)
  exact ⟨.obj D,_,h1,h2,.obj D,q D hn.1⟩
theorem cal_dictD {x:AV} {l:List (AV×AV)} (hs:∃ f o,sysModules≤f∧g.H₀.get? f=some o) (hx:Dct σ x l) (tl:tups l) (hz:l.length≤sizeLine) (hn:(l.map fun p=>hK g.w p.1).Nodup) (q:MadeD Q l σ):cal c (.type "dict") [x] σ Q:=fun s vs i r=>by
 obtain ⟨_,rfl,r1⟩:=r.one
 obtain ⟨a,es,n,rfl,hg,hv,ok⟩:=hx.heap i r1
 refine raw_call_dict ok.2 hg (by rw [hv.length];exact hz) (repE_tup fz_sub hv tl) (by rw [repE_hash hv];exact hn) fun h' n' h1 h2=>?_
 exact made_dict (tk:=s.toks) i h2 (Nat.le_refl _) h1 hv (new_ok i hs ok.1) q
theorem iter_dict (hh:c.A.handled=none) (l:List (AV×AV)):Iter c (.dict l) (l.map (·.1)):=fun σ s v i r E=>by
 obtain ⟨a,es,n,rfl,hF,hr,ok⟩:=r.invDict
 obtain ⟨_,_,ho⟩:=fz_eq.mp hF
 have hlen:es.length=(l.map (·.1)).length:=by rw [List.length_map];exact hr.length
 refine raw_iter ok.2 ho rfl rfl ⟨s.heap.objs.size,[s.heap.objs.size,a],_,_,rfl,hlen ▸ raw_walks hh s.heap.objs.size a (Nat.ne_of_lt (Heap.lt_size ho)) es n,?_,⟨_,s.toks,rfl⟩,push_keeps _ _,Nat.le_refl _,(fun _ _ hx=>let ⟨⟨o,ho,hc,hd⟩,_⟩:=hx;⟨o,ho,itOk_of hc rfl hd⟩),?_,?_⟩
 ·exact ⟨⟨_,Heap.get?_push_size _ rfl,rfl,rfl⟩,push_keeps _ _ _ _ ho⟩
 ·intro b hb
  rcases List.mem_cons.mp hb with rfl | hb
  ·exact .inl rfl
  ·rw [List.mem_singleton.mp hb];exact .inr ⟨_,hF⟩
 ·intro i u _ hu
  obtain ⟨x,h1,h2⟩:=(repE_keys hr).get' (i:=i) (v:=u) (by rw [List.getElem?_map];exact hu)
  exact ⟨x,h1,h2⟩
theorem op_addt {l m:List AV} (hl:l≠[]) (hm:m≠[]) (hz:l.length+m.length≤sizeLine) (q:Q (.tup (l++m)) σ):op2 c (binaryOp .Add) (.tup l) (.tup m) σ Q:=fun s u v i r1 r2=>by
 obtain ⟨a,us,n,rfl,h1,hv⟩:=r1.invTup
 obtain ⟨b,ws,k,rfl,h2,hw⟩:=r2.invTup
 have n1:us≠[]:=fun e=>hl (RepL.invN (e ▸ hv))
 have n2:ws≠[]:=fun e=>hm (RepL.invN (e ▸ hw))
 refine P.add_tuple (items:=us.toArray) (items2:=ws.toArray) (fz_sub _ _ h1) (fz_sub _ _ h2) (by simpa using n1) (by simpa using n2) ?_ (by rw [List.size_toArray,List.size_toArray,hv.length,hw.length];exact hz)
 have hn:=i.fresh (Nat.le_refl s.heap.objs.size)
 refine ⟨.tup (l++m),σ,i.keeps (t:=s.toks) (push_keeps _ _),.keeps (t:=s.toks) (push_keeps _ _),.tup (vs:=us++ws) (n:=0) (fz_eq.mpr ⟨hn.1,hn.2,?_⟩) ((hv.append hw).mono (keep_fz (push_keeps _ _))),q⟩
 rw [show us.toArray++ws.toArray=(us++ws).toArray by simp];exact Heap.get?_push_size _ rfl
theorem cal_min {a b:Int} (hh:c.A.handled=none) (q:Q (.int (min a b)) σ):cal c (.builtin "min") [.int a,.int b] σ Q:=fun s vs i r=>by
 obtain ⟨_,_,rfl,r1,r2⟩:=r.two;obtain ⟨_,rfl⟩:=r1.invInt;obtain ⟨_,rfl⟩:=r2.invInt
 refine min_two_ints hh fun h' tk hk=>⟨.int (min a b),σ,i.keeps hk,.keeps hk,?_,q⟩
 by_cases h:b < a
 ·rw [if_pos h,show min a b=b by omega];exact .int _ _
 ·rw [if_neg h,show min a b=a by omega];exact .int _ _
end Mine
end
section
namespace Mine
open PySem
variable {g:Gx} {c:Cx g} {ρ:Rho} {σ:Sto}
theorem one_cell {x:Str}:∀ {names:List (Str×NameKind)} {n:Nat} {acc:List (Str×Addr)} {h:Heap},names.filter (·.2==NameKind.cell)=[(x,.cell)]→cellsFrom n names acc=(x,n)::acc∧pushCells h names=h.push { cls := .type "cell", data := .cell none }
 | [],_,_,_,e=>by cases e
 | (m,k)::r,n,acc,h,e=>by
  have none_cell:∀ {names:List (Str×NameKind)} {n:Nat} {acc:List (Str×Addr)} {h:Heap},names.filter (·.2==NameKind.cell)=[]→cellsFrom n names acc=acc∧pushCells h names=h:=by
   intro names
   induction names with
   | nil=>intro n acc h _;exact ⟨rfl,rfl⟩
   | cons p r ih =>
    obtain ⟨m,k⟩:=p
    intro n acc h e
    rw [List.filter_cons] at e
    by_cases hk:(k==NameKind.cell)=true
    ·rw [if_pos hk] at e;cases e
    ·rw [if_neg hk] at e
     unfold cellsFrom pushCells
     rw [if_neg hk,if_neg hk]
     exact ih e
  rw [List.filter_cons] at e
  by_cases hk:(k==NameKind.cell)=true
  ·rw [if_pos hk] at e
   injection e with e1 e2
   injection e1 with e1 e3
   subst e1
   unfold cellsFrom pushCells
   rw [if_pos hk,if_pos hk]
   exact none_cell e2
  ·rw [if_neg hk] at e
   unfold cellsFrom pushCells
   rw [if_neg hk,if_neg hk]
   exact one_cell e
theorem newEnv_one {prog:Program} {w:World} {A:Around} {E:Value→Shared→Prop} {s:Shared} {scope:Scope} {x:Str} {globals:Addr} {closure:List (Str×Addr)} {qual:Str} {env:Env} {Q:Env→Shared→Prop} (hc:scope.names.filter (·.2==NameKind.cell)=[(x,.cell)])
  (hQ:Q (newEnv scope s.heap.objs.size globals ((x,s.heap.objs.size+1)::closure) qual none .none (some env) builtinsNs) { s with heap:=(s.heap.push { cls := .type "dict", data := .dict #[] }).push { cls := .type "cell", data := .cell none } }) :
  wpAny (model prog w) A (newFunctionEnv scope globals closure [] qual none .none (some env)) Q E s:=by
 simp only [newFunctionEnv,Option.isSome_some,if_true]
 refine wpAny_bind (wpAny_alloc ?_)
 refine wpAny_bind (wpAny_layCells _ (fun name kind cells=>by cases hkc:kind==NameKind.cell <;> simp [hkc]) _ _ _ _ ?_)
 obtain ⟨e1,e2⟩:=one_cell (n:=s.heap.objs.size+1) (acc:=closure) (h:=s.heap.push { cls := .type "dict", data := .dict #[] }) hc
 rw [show ({ s with heap:=s.heap.push { cls := .type "dict", data := .dict #[] } }:Shared).heap.objs.size=s.heap.objs.size+1 from Heap.size_push ..,e1]
 show wpAny _ _ _ _ _ { s with heap:=pushCells (s.heap.push { cls := .type "dict", data := .dict #[] }) scope.names }
 rw [e2]
 exact wpAny_bind (wpAny_pure (wpAny_pure hQ))
noncomputable def compOkC (x:Str) (fr:List Str) (scope sc:Scope):Bool :=
 (scope.kind == .function) && (scope.names.filter (·.2==NameKind.cell)==[(x,.cell)]) && scope.names.all (fun y=>(y.2 != .free || fr.contains y.1) && (y.2 != .local || scope.names.lookup y.1==some .local)) &&
 (scope.names.lookup x==some .cell) && !(x==("__debug__":Str)) && decide ((x::fr).Nodup) &&
 fr.all fun n=>(relab scope sc).names.lookup n==some .cell
theorem relabN_cell' {sc:Scope} {n x:Str} {l:List (Str×NameKind)} (hc:∀ y∈l,y.2 = .cell→y.1=x) (h:(relabN sc l).lookup n=some .cell):n=x∨(l.lookup n=some .free∧sc.names.lookup n=some .cell) :=
 (relabN_get h).imp_left fun e=>hc _ (mem_of_lookup e) rfl
theorem relabN_keep {sc:Scope} {x:Str} {l:List (Str×NameKind)} (h:l.lookup x=some .cell):(relabN sc l).lookup x=some .cell:=by
 induction l with
 | nil=>cases h
 | cons p r ih =>
  obtain ⟨m,k⟩:=p
  unfold relabN
  by_cases hn:x=m
  ·rw [← hn] at h ⊢
   rw [lk_self] at h
   split
   ·exact lk_self
   ·exact lk_self.trans h
  ·rw [lk_ne hn] at h
   split <;> exact (lk_ne hn).trans (ih h)
inductive CompG (x:Str) (fr:List Str) (scope sc:Scope):Prop
 | mk (k:scope.kind = .function) (h0:scope.names.filter (·.2==NameKind.cell)=[(x,.cell)]) (h1:∀ y∈scope.names,y.2 = .cell→y.1=x) (h2:∀ y∈scope.names,y.2 = .free→y.1∈fr) (h3:∀ y∈scope.names,y.2 = .local→scope.names.lookup y.1=some .local) (h4:scope.names.lookup x=some .cell) (h5:(x==("__debug__":Str))=false) (h6:(x::fr).Nodup) (h7:∀ n∈fr,(relab scope sc).names.lookup n=some .cell):CompG x fr scope sc
theorem compOkC_facts {x:Str} {fr:List Str} {scope sc:Scope} (h:compOkC x fr scope sc=true):CompG x fr scope sc:=by
 simp only [compOkC,Bool.and_eq_true,Bool.not_eq_true',beq_iff_eq,decide_eq_true_eq,List.all_eq_true,Bool.or_eq_true,bne_iff_ne,ne_eq] at h
 obtain ⟨⟨⟨⟨⟨⟨h1,h0⟩,h2⟩,h3⟩,h4⟩,h5⟩,h6⟩:=h
 refine ⟨h1,h0,fun y hy hc=>?_,fun y hy hf=>?_,fun y hy hf=>?_,h3,h4,h5,h6⟩
 ·have:y∈scope.names.filter (·.2==NameKind.cell):=List.mem_filter.mpr ⟨hy,by rw [hc];rfl⟩
  rw [h0] at this
  rw [List.mem_singleton.mp this]
 ·rcases (h2 y hy).1 with q | q
  ·exact absurd hf q
  ·simpa using q
 ·rcases (h2 y hy).2 with q | q
  ·exact absurd hf q
  ·exact q
theorem comp_coreC {elt iter:Expr} {x:Str} {px pos:Pos} {t:Option Expr} {scope:Scope} {fr:Rho} {y:AV} {v:Value} {l:List AV} {s:Shared} {RR:Value→Addr→Result→Shared→Prop} {E:Value→Shared→Prop}
    (J:List AV→List AV→Sto→Prop) (hok:compOkC x (fr.map (·.1)) scope c.sc=true) (hfr:FrIn fr ρ) (st:St c ρ σ s) (r:Rep g.w (c.F σ s) v y) (hit:Iter c y l) (hJ:J l [] σ) (hsz:l.length≤sizeLine)
    (turn:∀ c':Cx g,c'.A=c.A→c'.sc=relab scope c.sc→∀ y rest acc σ₁,J (y::rest) acc σ₁→evT c' ((x,some y)::fr) t σ₁ fun b σ₂=>match b with
      | true=>ev c' ((x,some y)::fr) elt σ₂ fun z σ₃=>J rest (acc++[z]) σ₃
      | false=>J rest acc σ₂)
    (hRR:∀ D C l' σ' h' tk m vs n,J [] l' σ'→D∉c.own→C∉c.own→C≠D→s.heap.objs.size≤D→s.heap.objs.size≤C→h'.get? D=some (lstO vs n) →
      RepL g.w (fz h' (C::D::c.own) σ') vs l'→h'.Ns C m→(c.F σ s).le (fz h' (C::D::c.own) σ')→(∀ a∈c.own,Kpt s.heap h' a) →
      Mine.Inv g.w g.H₀ (nsOf c.A) (C::D::c.own) σ' { s with heap:=h',toks:=tk }→l'.length≤l.length→RR (.ref D) C (.ok .next) { s with heap:=h',toks:=tk }) :
    wpAny g.M c.A (pyIter v) (fun it s₂=>wpAny g.M c.A (newList []) (fun acc s₃=>wpAny g.M c.A (newFunctionEnv scope c.env.globals (closN c.env.cells scope.names []) [] c.env.qual none .none (some c.env)) (fun cenv s₄ =>
      codeAny g.M c.A (.compStart (.ListComp elt [⟨.Name x px,iter,t.toList,0⟩] scope pos) 0 it acc { cenv with scope:=relabel scope c.env }) (RR acc cenv.locals) s₄) E s₃) E s₂) E s:=by
  obtain ⟨hkind,hone,hcell,hfree,hnames,hx,hdbg,hnd,hfrk⟩:=compOkC_facts hok
  have hxf:∀ n∈fr.map (·.1),n≠x:=fun n hn=>by rintro rfl;exact (List.nodup_cons.mp hnd).1 hn
  refine wpAny_mono (hit σ s v st.inv r E) (fun it s₂ q_=>?_) fun _ _ e=>e
  obtain ⟨I,fp,P,Sx,hI,W,hS,⟨h₂,tk₂,hs₂⟩,hk,hszI,hlv0,hfp,hP⟩:=q_
  have hlv:∀ j h,Sx j h→∃ o,h.get? I=some o:=fun j h hx=>(hlv0 j h hx).imp fun _ q=>q.1
  subst hI
  subst hs₂
  refine wpAny_newObj_type (newEnv_one hone ?_)
  dsimp only
  have hIlt:I < h₂.objs.size:=by obtain ⟨o,ho⟩:=hlv 0 _ hS;exact Heap.lt_size ho
  generalize hD:h₂.objs.size=D
  generalize hH2:h₂.push { cls := .type "list", dict:=none,data := .seq ([]:List Value).toArray }=H2
  have hC:H2.objs.size=D+1:=by rw [← hH2,Heap.size_push,hD]
  generalize hK:H2.objs.size+1=K
  generalize hh₁:(H2.push { cls := .type "dict", data := .dict #[] }).push { cls := .type "cell", data := .cell none }=h₁
  have hns₁:h₁.Ns H2.objs.size (fun _=>none):=by
    rw [← hh₁]
    exact (Heap.Ns.new H2 _).at' fun o e=>Heap.get?_push_of_some _ e
  have hcl₁:h₁.IsCell K none:=⟨_,by rw [← hh₁,← hK,show H2.objs.size+1=(H2.push { cls := .type "dict", data := .dict #[] }).objs.size from (Heap.size_push ..).symm];exact Heap.get?_push_size _ rfl,rfl⟩
  have hex₁:∀ b o,H2.get? b=some o→h₁.get? b=some o:=fun b o e=>by rw [← hh₁];exact Heap.get?_push_of_some _ (Heap.get?_push_of_some _ e)
  generalize hCe:H2.objs.size=C at hns₁ hC hK ⊢
  have hscR:relabel scope c.env=relab scope c.sc:=relabel_eq st.fr.sc
  have hfreeC:=free_cells hfree (fun n hn=>((relabN_cell' hcell (hfrk n hn)).resolve_left (hxf n hn)).2) hfr st
  generalize hcl:closN c.env.cells scope.names []=cl
  have hclget:∀ n a,cl.lookup n=some a→c.env.cells.lookup n=some a:=fun n a h=>by
    rw [← hcl] at h
    exact (closN_get hfreeC h).resolve_right (by simp)
  have hclhas:∀ n,scope.names.lookup n=some .free→∃ a,cl.lookup n=some a:=fun n h=>by
    rw [← hcl]
    exact Option.isSome_iff_exists.mp (closN_has (.inl h))
  have hDs:s.heap.objs.size≤D:=by
    rw [← hD]
    exact Nat.le_trans hszI (Nat.le_of_lt hIlt)
  have hIo:I∉c.own:=(st.inv.fresh hszI).2
  have hDo:D∉c.own:=(st.inv.fresh hDs).2
  have hCs:s.heap.objs.size≤C:=by rw [hC];exact Nat.le_succ_of_le hDs
  have hCo:C∉c.own:=(st.inv.fresh hCs).2
  have hCD:C≠D:=by rw [hC];exact Nat.ne_of_gt (Nat.lt_succ_self _)
  have hKC:K≠C:=by rw [← hK];exact Nat.ne_of_gt (Nat.lt_succ_self _)
  have hKD:K≠D:=by rw [← hK,hC];exact Nat.ne_of_gt (Nat.lt_succ_of_lt (Nat.lt_succ_self _))
  have hKs:s.heap.objs.size≤K:=by rw [← hK];exact Nat.le_succ_of_le hCs
  have hKo:K∉c.own:=(st.inv.fresh hKs).2
  have hID:I≠D:=by rw [← hD];exact Nat.ne_of_lt hIlt
  have hIC:I≠C:=by rw [hC];rw [hD] at hIlt;exact Nat.ne_of_lt (Nat.lt_succ_of_lt hIlt)
  have hIK:I≠K:=by rw [← hK,hC];rw [hD] at hIlt;exact Nat.ne_of_lt (Nat.lt_succ_of_lt (Nat.lt_succ_of_lt hIlt))
  have old:∀ b o,h₂.get? b=some o→h₁.get? b=some o:=fun b o e=>hex₁ b o (hH2 ▸ Heap.get?_push_of_some _ e)
  have oldS:∀ b o,s.heap.get? b=some o→h₁.get? b=some o:=fun b o e=>old b o (hk b o e)
  have hacc₁:h₁.get? D=some (lstO [] 0):=hex₁ _ _ (hH2 ▸ hD ▸ Heap.get?_push_size _ rfl)
  have hS₁:Sx 0 h₁:=W.frame _ _ _ hS fun b _ o e=>old b o e
  -- the comprehension's own context
  generalize hE':compEnvC scope ((x,K)::cl) C c.env=env'
  have he1:env'.scope=relab scope c.sc:=by rw [← hE',← hscR];rfl
  have he2:env'.locals=C:=by rw [← hE'];rfl
  have he3:env'.cells=(x,K)::cl:=by rw [← hE'];rfl
  have he6:∀ n a,env'.cells.lookup n=some a→(n=x∧a=K)∨(n≠x∧cl.lookup n=some a):=fun n a h=>by
    rw [he3,List.lookup_cons] at h
    cases hn:n==x with
    | true=>rw [hn] at h;exact .inl ⟨by simpa using hn,(Option.some.inj h).symm⟩
    | false=>rw [hn] at h;exact .inr ⟨by simpa using hn,h⟩
  have he4:env'.globals=mainGlobals:=by rw [← hE'];exact st.fr.glob
  have he5:env'.builtins=builtinsNs:=by rw [← hE'];exact st.fr.blt
  show codeAny g.M c.A (.compStart (.ListComp elt [⟨.Name x px,iter,t.toList,0⟩] scope pos) 0 (.ref I) (.ref D) (compEnvC scope ((x,K)::cl) C c.env)) (RR (.ref D) C) _
  rw [hE']
  let c':Cx g:=⟨c.A,env',C::D::I::K::c.own,D::I::c.own,notedBy g.M c.A env' fun e s'=>RR (.ref D) C (.error e) s',relab scope c.sc,false⟩
  have hF₁:(c.F σ s).le (fz h₁ c'.own σ):=fun b o e=>by
    obtain ⟨e1,e2,e3⟩:=fz_eq.mp e
    have hb:=Heap.lt_size e3
    refine fz_eq.mpr ⟨e1,fun hm=>?_,oldS b o e3⟩
    rcases List.mem_cons.mp hm with q | hm
    · exact absurd hb (q ▸ Nat.not_lt.mpr hCs)
    rcases List.mem_cons.mp hm with q | hm
    · exact absurd hb (q ▸ Nat.not_lt.mpr hDs)
    rcases List.mem_cons.mp hm with q | hm
    · exact absurd hb (q ▸ Nat.not_lt.mpr hszI)
    rcases List.mem_cons.mp hm with q | hm
    · exact absurd hb (q ▸ Nat.not_lt.mpr hKs)
    · exact e2 hm
  have inv₁:c'.Inv σ { s with heap:=h₁,toks:=tk₂ }:=by
    refine ⟨fun b o e=>hF₁ b o (st.inv.keep b o e),fun a z e=>(st.inv.objs a z e).mono hF₁ fun o e=>oldS a o e,fun a ha=>?_,fun a ha=>?_,fun a ha=>(st.inv.ns a ha).keep fun o e=>oldS a o e,fun a ha=>List.mem_cons_of_mem _ (List.mem_cons_of_mem _ (List.mem_cons_of_mem _ (List.mem_cons_of_mem _ (st.inv.nsub a ha))))⟩
    · rcases List.mem_cons.mp ha with q | ha
      · rw [q];exact (st.inv.fresh hCs).1
      rcases List.mem_cons.mp ha with q | ha
      · rw [q];exact (st.inv.fresh hDs).1
      rcases List.mem_cons.mp ha with q | ha
      · rw [q];exact (st.inv.fresh hszI).1
      rcases List.mem_cons.mp ha with q | ha
      · rw [q];exact (st.inv.fresh hKs).1
      · exact st.inv.off a ha
    · rcases List.mem_cons.mp ha with q | ha
      · rw [q];obtain ⟨o,_,_,ho,_⟩:=hns₁;exact ⟨o,ho⟩
      rcases List.mem_cons.mp ha with q | ha
      · rw [q];exact ⟨_,hacc₁⟩
      rcases List.mem_cons.mp ha with q | ha
      · rw [q];exact hlv 0 _ hS₁
      rcases List.mem_cons.mp ha with q | ha
      · rw [q];obtain ⟨o,ho,_⟩:=hcl₁;exact ⟨o,ho⟩
      · obtain ⟨o,ho⟩:=st.inv.live a ha;exact ⟨o,oldS a o ho⟩
  have hidS:∀ a∈c'.hid,a∈c'.own:=fun a ha=>by
    simp only [c',List.mem_cons] at ha ⊢
    rcases ha with ha | ha | ha
    · exact .inr (.inl ha)
    · exact .inr (.inr (.inl ha))
    · exact .inr (.inr (.inr (.inr ha)))
  have fr':Frame c' (((x,(Option.none:Option AV))::fr).map (·.1)):=by
    refine ⟨he1,(fun h=>by cases h),?_,he4,he5,?_,?_,fun a ha=>hidS a ha,fun n a ha=>?_,(fun h=>by cases h),fun n hn=>?_,?_⟩
    · show env'.scope.kind=_;rw [he1];exact hkind
    · show env'.locals∈_;rw [he2];exact List.mem_cons_self
    · show env'.locals∉_
      rw [he2]
      simp only [List.mem_cons,not_or,c']
      exact ⟨hCD,Ne.symm hIC,hCo⟩
    · rcases he6 n a ha with ⟨_,rfl⟩ | ⟨_,ha'⟩
      · exact ⟨List.mem_cons_of_mem _ (List.mem_cons_of_mem _ (List.mem_cons_of_mem _ List.mem_cons_self)),by show a≠env'.locals;rw [he2];exact hKC⟩
      have:=(st.fr.cells n a (hclget n a ha')).1
      refine ⟨List.mem_cons_of_mem _ (List.mem_cons_of_mem _ (List.mem_cons_of_mem _ (List.mem_cons_of_mem _ this))),?_⟩
      show a≠env'.locals
      rw [he2]
      exact fun q=>hCo (q ▸ this)
    · rcases List.mem_cons.mp hn with q | hn
      · rw [q];refine ⟨hdbg,.inr ⟨relabN_keep hx,K,?_⟩⟩
        show env'.cells.lookup _=some K
        rw [he3,List.lookup_cons,beq_self_eq_true]
      · obtain ⟨p,hp,rfl⟩:=List.mem_map.mp hn
        have hk1:=hfrk p.1 hn
        refine ⟨(st.fr.kinds p.1 (hfr p hp).1).1,.inr ⟨hk1,?_⟩⟩
        show ∃ a,env'.cells.lookup p.1=some a
        rw [he3,List.lookup_cons,beq_eq_false_iff_ne.mpr (hxf _ hn)]
        exact hclhas p.1 ((relabN_cell' hcell hk1).resolve_left (hxf _ hn)).1
    · exact hnd
  -- the state at a turn
  have mkSt:∀ {σ':Sto} {s':Shared} {m:Str→Option Value} {u:Value} {z:AV},c'.Inv σ' s'→s'.heap.Ns C m→s'.heap.IsCell K (some u)→Rep g.w (c'.F σ' s') u z→(c.F σ s).le (c'.F σ' s')→(∀ a∈c.own,Kpt s.heap s'.heap a) →
      St c' ((x,some z)::fr) σ' s':=by
    intro σ' s' m u z hi hn hm hz hle hown
    refine ⟨hi,fr',⟨m,by show s'.heap.Ns env'.locals m;rw [he2];exact hn,fun n w' hw hkn=>?_⟩,fun n a hkn ha=>?_⟩
    · have hkn':(relab scope c.sc).names.lookup n=some .local:=hkn
      rcases List.mem_cons.mp hw with e | hw
      · injection e with e1 e2
        subst e1
        have:=relabN_keep (sc:=c.sc) hx
        rw [show (relab scope c.sc).names.lookup n=some .cell from this] at hkn';cases hkn'
      · have:=hfrk n (List.mem_map.mpr ⟨_,hw,rfl⟩)
        rw [this] at hkn';cases hkn'
    · have hkn':(relab scope c.sc).names.lookup n=some .cell:=hkn
      rcases he6 n a ha with ⟨rfl,rfl⟩ | ⟨hnx,ha'⟩
      · refine ⟨some u,hm,fun w' hw=>?_⟩
        rcases List.mem_cons.mp hw with e | hw
        · injection e with e1 e2
          injection e2 with e2
          subst e2
          exact ⟨u,rfl,hz⟩
        · exact absurd rfl (hxf n (List.mem_map.mpr ⟨_,hw,rfl⟩))
      have hcn:=hclget n a ha'
      obtain ⟨vo,hcl0,hv⟩:=st.cl n a ((relabN_cell' hcell hkn').resolve_left hnx).2 hcn
      refine ⟨vo,(hown a (st.fr.cells n a hcn).1).cell hcl0,fun w' hw=>?_⟩
      rcases List.mem_cons.mp hw with e | hw
      · injection e with e1 e2
        exact absurd e1 hnx
      · obtain ⟨u',e1,e2⟩:=hv w' ((hfr _ hw).2 w' rfl)
        exact ⟨u',e1,e2.mono hle⟩
  have loop:codeAny g.M c.A (.compLoop (.ListComp elt [⟨.Name x px,iter,t.toList,0⟩] scope pos) 0 (.ref I) (.ref D) env') (RR (.ref D) C) { s with heap:=h₁,toks:=tk₂ }:=by
   refine comp_loopG (elt:=elt) (iter:=iter) (tgt := .Name x px) (pos:=pos) (t:=t) (scope:=scope) (sc':=relab scope c.sc) (R:=RR (.ref D) C) (hid':=D::I::c.own) (Slot:=fun h=>(∃ m,h.Ns C m)∧∃ vo,h.IsCell K vo) (tk₁:=tk₂) (fun z=>[(x,some z)]) (fun _=>True) J W hlv0 hfp hP (List.mem_cons_of_mem _ (List.mem_cons_of_mem _ List.mem_cons_self)) (List.mem_cons_of_mem _ List.mem_cons_self) (own':=C::D::I::K::c.own) (Z:=K) (List.mem_cons_of_mem _ (List.mem_cons_of_mem _ (List.mem_cons_of_mem _ List.mem_cons_self))) (fun a ha=>List.mem_cons_of_mem _ (List.mem_cons_of_mem _ (List.mem_cons_of_mem _ (List.mem_cons_of_mem _ ha)))) hDo hKo hIo (st.inv.freshN hDs) (st.inv.freshN hszI) hID hIK hKD hKs hsz
    (fun q hk=>⟨q.1.imp fun m hn=>(hk C List.mem_cons_self hCD (Ne.symm hIC)).ns hn,q.2.imp fun vo hc=>(hk K (List.mem_cons_of_mem _ (List.mem_cons_of_mem _ (List.mem_cons_of_mem _ List.mem_cons_self))) hKD (Ne.symm hIK)).cell hc⟩)
    (fun {σ' s' u z Q E} hi ⟨⟨m,hn⟩,vo,hc⟩ hz _ hle hown hq=>by
      refine wpAny_assign_Name (wpAny_storeName_cell (by rw [he1];exact hkind) (by unfold Env.kindOf;rw [he1];exact relabN_keep hx) (by rw [he3,List.lookup_cons,beq_self_eq_true]) hc fun h₄ hc₄ hs₄=>?_)
      have hk₄:∀ b o,b≠K→s'.heap.get? b=some o→h₄.get? b=some o:=fun b o hb e=>(hs₄.2 b hb).trans e
      have hn₄:h₄.Ns C m:=hn.at' fun o e=>hk₄ C o (Ne.symm hKC) e
      obtain ⟨inv₄,le34⟩:=hi.slot (tk:=_) (List.mem_cons_of_mem _ (List.mem_cons_of_mem _ (List.mem_cons_of_mem _ List.mem_cons_self))) hk₄ (by obtain ⟨o,ho,_⟩:=hc₄;exact ⟨o,ho⟩) (fun h=>absurd h (st.inv.freshN hKs))
      exact hq h₄ _ inv₄ ⟨⟨m,hn₄⟩,_,hc₄⟩ (mkSt inv₄ hn₄ hc₄ (hz.mono le34) (hle.trans le34) fun a ha=>(hown a ha).trans (.of fun o e=>hk₄ a o (fun q=>hKo (q ▸ ha)) e)) le34 hk₄)
    (fun _ _ _ _ _=>trivial) (fun y rest acc σ₁ hJ=>turn c' rfl rfl y rest acc σ₁ hJ) hS₁ hacc₁ inv₁ ⟨⟨_,hns₁⟩,_,hcl₁⟩ hF₁ (fun a _ => .of fun o e=>oldS a o e) hJ ?_
   intro acc σ' h' h₃ tk tk₃ vs n hJj hDj hi ⟨⟨m,hn⟩,_⟩ hvs hle hown hlen hk₃'
   have le₃:(fz h' c'.own σ').le (fz h₃ (C::D::c.own) σ'):=fun b o e=>by
     obtain ⟨e1,e2,e3⟩:=fz_eq.mp e
     simp only [c',List.mem_cons,not_or] at e2
     refine fz_eq.mpr ⟨e1,?_,hk₃' b o e2.2.2.1 e3⟩
     simp only [List.mem_cons,not_or]
     exact ⟨e2.1,e2.2.1,e2.2.2.2.2⟩
   have sub:∀ a∈C::D::c.own,a∈c'.own∧a≠I:=fun a ha=>by
     rcases List.mem_cons.mp ha with q | ha
     · rw [q];exact ⟨List.mem_cons_self,Ne.symm hIC⟩
     rcases List.mem_cons.mp ha with q | ha
     · rw [q];exact ⟨List.mem_cons_of_mem _ List.mem_cons_self,Ne.symm hID⟩
     · exact ⟨List.mem_cons_of_mem _ (List.mem_cons_of_mem _ (List.mem_cons_of_mem _ (List.mem_cons_of_mem _ ha))),fun q=>hIo (q ▸ ha)⟩
   have hIin:I∈c'.own:=List.mem_cons_of_mem _ (List.mem_cons_of_mem _ List.mem_cons_self)
   refine hRR D C acc σ' h₃ tk₃ m vs n (by simpa using hJj) hDo hCo hCD hDs hCs (hk₃' D _ (Ne.symm hID) hDj) (hvs.mono le₃) (hn.at' fun o e=>hk₃' _ o (Ne.symm hIC) e) (hle.trans le₃)
     (fun a ha=>(hown a ha).trans (.of fun o e=>hk₃' a o (fun q=>hIo (q ▸ ha)) e)) ⟨fun b o e=>le₃ b o (hi.keep b o e),fun a z e=>(hi.objs a z e).mono le₃ fun o e'=>hk₃' a o (fun q=>by rw [q,hi.off _ hIin] at e;cases e) e',fun a ha=>hi.off a (sub a ha).1,fun a ha=>?_,fun a ha=>(hi.ns a ha).keep fun o e=>hk₃' a o (by rintro rfl;exact st.inv.freshN hszI ha) e,fun a ha=>List.mem_cons_of_mem _ (List.mem_cons_of_mem _ (st.inv.nsub a ha))⟩ hlen
   obtain ⟨o,ho⟩:=hi.live a (sub a ha).1
   exact ⟨o,hk₃' a o (sub a ha).2 ho⟩
  exact codeAny_compStart_list loop (W.self 0 _ _ _ hS₁ loop)
theorem ev_mapC {sc:Scope} {elt iter:Expr} {x:Str} {px pos:Pos} {scope:Scope} {Q:AV→Sto→Prop} (fr:Rho) (J:List AV→List AV→Sto→Prop) (hsc:c.sc=sc) (hok:compOkC x (fr.map (·.1)) scope sc=true) (hfr:FrI fr ρ)
  (h:ev c ρ iter σ fun y σ₁=>∃ l,Iter c y l∧l.length≤sizeLine∧J l [] σ₁)
  (turn:∀ c':Cx g,c'.A=c.A→c'.sc=relab scope sc→∀ y rest acc σ₁,J (y::rest) acc σ₁→ev c' ((x,some y)::fr) elt σ₁ fun z σ₃=>J rest (acc++[z]) σ₃)
  (done:∀ acc σ₁,J [] acc σ₁→Q (.list acc) σ₁)
  (hs:∀ x,foldedSetIterable iter c.env x=pure x:=by intro _;rfl):ev c ρ (.ListComp elt [⟨.Name x px,iter,[],0⟩] scope pos) σ Q:=fun s st=>by
 subst hsc
 have hfr':=hfr.frIn
 obtain ⟨hkind,hone,hcell,hfree,hnames,hx,hdbg,hnd,hfrk⟩:=compOkC_facts hok
 have hxf:∀ n∈fr.map (·.1),n≠x:=fun n hn=>by rintro rfl;exact (List.nodup_cons.mp hnd).1 hn
 have hfreeC:=free_cells hfree (fun n hn=>((relabN_cell' hcell (hfrk n hn)).resolve_left (hxf n hn)).2) hfr' st
 show wpAny _ _ (eval _ _) _ _ _
 rw [eval_ListComp]
 refine wpAny_comprehension_free (use:=none) rfl hs (closureFor_eq hfreeC) hkind hnames (pg.use (h s st) (fun v s₁ y σ₁ i₁ e₁ r₁ qq=>?_))
 obtain ⟨l,hit,hsz,hJ⟩:=qq
 have st₁:=st.ev i₁ e₁
 refine comp_coreC (t:=none) (RR:=fun acc C=>compPost g.M c.A c.E none (PgP c (Rep g.w) σ s Q) acc C) J hok hfr' st₁ r₁ hit hJ hsz (fun c' hA hS y rest acc σ₁ hJ=>turn c' hA hS y rest acc σ₁ hJ) ?_
 intro D C l' σ' h' tk m vs n hJ' hDo hCo hCD hDs hCs hDg hvs hn hle hown hi hlen
 refine ⟨m,hn,fun h'' hs''=>?_⟩
 obtain ⟨i₂,e₂,r₂,d₂,o₂⟩:=comp_end (s:=s₁) (tk:=tk) hDo hCo i₁.nsub hCD hDg hvs hle hown hi hs''
 refine ⟨.list l',σ',i₂,e₁.trans e₂,.list (fz_eq.mpr ⟨o₂,hDo,d₂⟩) r₂,done l' σ' hJ'⟩
end Mine
end
section
namespace Mine
open PySem
section
variable {prog:Program} {w:World} {A:Around} {E:Value→Shared→Prop} {R:Result→Shared→Prop} {I:Addr} {fp:List Addr} {n:Nat} {P:Nat→Value→Prop} {Sx:Nat→Heap→Prop}
noncomputable def catTo (ws:Nat→List Value) (i:Nat):List Value:=(List.range i).flatMap ws
theorem catTo_succ (ws:Nat→List Value) (i:Nat):catTo ws (i+1)=catTo ws i++ws i:=by
 unfold catTo;rw [List.range_succ,List.flatMap_append];simp
theorem sub_list_ty {T:String} (h:isSubtype (.type "list") (.type T)=pure false) {s:Shared} {a:Addr} {l:List Value} {n:Nat} {Q:Bool→Shared→Prop} (ha:s.heap.get? a=some (lstO l n)) (hq:Q false s):wpAny (model prog w) A (isInstance (.ref a) (.type T)) Q E s :=
 wpAny_isInstance (T := "list") (b:=false) ⟨_,ha,rfl⟩ h hq
theorem sum_loop (W:Walks prog w A.in1 I fp [I] n P Sx) (ws:Nat→List Value) (S:Addr) (hSf:S∉fp) (H:Heap) (hI:∀ o,H.get? I=some o→False) (hS0:∀ o,H.get? S=some o→False) (hlv:∀ j h,Sx j h→∃ o,h.get? I=some o) (hit:∀ j v,j < n→P j v→∃ a m,v = .ref a∧H.get? a=some (lstO (ws j) m)) (t0:Addr)
  (hz:∀ j,j≤n→(catTo ws j).length≤sizeLine) :
  ∀ (k i:Nat) (s:Shared) (tot:Addr) (c m:Nat),n - i=k→i≤n→Sx i s.heap→(∀ b o,H.get? b=some o→s.heap.get? b=some o)→s.heap.get? S=some (lstO [.ref tot] c)→s.heap.get? tot=some (lstO (catTo ws i) m)→tot≠S→tot≠I→(tot=t0∨H.get? tot=none) →
  (∀ h' tk tot m,(∀ b o,H.get? b=some o→h'.get? b=some o)→h'.get? tot=some (lstO (catTo ws n) m)→(tot=t0∨H.get? tot=none)→R (.ok (.ret (.ref tot))) { s with heap:=h',toks:=tk }) →
  codeAny (model prog w) A (.builtin "sum.loop" ⟨[.ref I,.ref S,rawInt 2,rawInt 0],[]⟩) R s:=by
 have hSI:S≠I:=fun h=>hSf (W.sub _ (by rw [h];exact List.mem_singleton_self _))
 intro k
 induction k with
 | zero =>
  intro i s tot c m hk hi hst hH hS htot h1 h2 h3 hR
  have hin:i=n:=by omega
  subst hin
  refine codeAny_builtin F.entry_sum_loop ?_
  rw [Around.under_plainId F.plain_sum_loop _]
  show wpAny _ A.in1 (seqItems? (.ref S) >>= _) _ _ s
  refine wpAny_bind (wpAny_seqItems hS rfl ?_)
  show wpAny _ A.in1 (tryCatch (pyNext (.ref I)) _ >>= _) _ _ s
  refine wpAny_bind (wpAny_tryCatch (W.done s _ _ hst fun h' tk hk'=>?_))
  have hk2:∀ b o,b≠I→s.heap.get? b=some o→h'.get? b=some o:=fun b o hb e=>hk' b o (by simpa using hb) e
  exact wpAny_pure (hR h' tk tot m (fun b o e=>hk2 b o (fun q=>hI _ (q ▸ e)) (hH b o e)) (hk2 tot _ h2 htot) h3)
 | succ k ih =>
  intro i s tot c m hk hi hst hH hS htot h1 h2 h3 hR
  have hlt:i < n:=by omega
  refine codeAny_builtin F.entry_sum_loop ?_
  rw [Around.under_plainId F.plain_sum_loop _]
  show wpAny _ A.in1 (seqItems? (.ref S) >>= _) _ _ s
  refine wpAny_bind (wpAny_seqItems hS rfl ?_)
  show wpAny _ A.in1 (tryCatch (pyNext (.ref I)) _ >>= _) _ _ s
  refine wpAny_bind (wpAny_tryCatch (W.item i s _ _ hlt hst fun v h' tk hP hst' hk'=>?_))
  have hk2:∀ b o,b≠I→s.heap.get? b=some o→h'.get? b=some o:=fun b o hb e=>hk' b o (by simpa using hb) e
  have hmono:s.heap.objs.size≤h'.objs.size∨True := .inr trivial
  obtain ⟨a,m',rfl,ha⟩:=hit i v hlt hP
  have hS':=hk2 S _ hSI hS
  have ht':=hk2 tot _ h2 htot
  have ha':=hk2 a _ (fun q=>hI _ (q ▸ ha)) (hH a _ ha)
  have haS:a≠S:=by rintro rfl;exact hS0 _ ha
  show wpAny _ A.in1 ((holding [Value.ref a] (binaryOp .Add (.ref tot) (.ref a))).attempt >>= _) _ _ _
  have hsz:=hz (i+1) hlt
  rw [catTo_succ,List.length_append] at hsz
  refine wpAny_bind (wpAny_attempt (wpAny_holding (PySem.P.add_list (items:=(catTo ws i).toArray) (items2:=(ws i).toArray) ht' ha' ?_ (by rw [List.size_toArray,List.size_toArray];exact hsz))))
  have eN:(catTo ws i).toArray++(ws i).toArray=(catTo ws (i+1)).toArray:=by rw [catTo_succ];simp
  rw [eN]
  generalize hHn:h'.push { cls := .type "list", data := .seq (catTo ws (i+1)).toArray }=hn
  have hN:hn.get? h'.objs.size=some (lstO (catTo ws (i+1)) 0):=by rw [← hHn];exact Heap.get?_push_size _ rfl
  have hkn:∀ b o,h'.get? b=some o→hn.get? b=some o:=fun b o e=>by rw [← hHn];exact Heap.get?_push_of_some _ e
  have hS'':=hkn S _ hS'
  have hNS:h'.objs.size≠S:=fun e=>Nat.lt_irrefl _ (e ▸ Heap.lt_size hS')
  show wpAny _ A.in1 (updateSeq S (fun _ => #[.ref h'.objs.size]) >>= _) _ _ _
  refine wpAny_bind ?_
  refine wpAny_updateSeq hS'' rfl ?_
  have hS2:=Heap.get?_update_self (Obj.mapSeq fun _ => #[Value.ref h'.objs.size]) hS'' rfl
  refine wpAny_bind (wpAny_letGo ?_)
  refine wpAny_bind ?_
  have oth:∀ b o,b≠S→hn.get? b=some o→((hn.update S (Obj.mapSeq fun _ => #[Value.ref h'.objs.size])).update S (Obj.mapSeq fun _ => #[Value.ref h'.objs.size])).get? b=some o :=
   fun b o hb e=>(Heap.get?_update_other _ _ (Ne.symm hb)).trans ((Heap.get?_update_other _ _ (Ne.symm hb)).trans e)
  refine wpAny_updateSeq hS2 rfl (wpAny_pure ⟨plainId_quiet F.plain_sum_loop _,ih (i+1) _ h'.objs.size _ 0 (by omega) hlt (W.frame _ _ _ hst' fun b hb o e=>?_) (fun b o e=>?_) (Heap.get?_update_self _ hS2 rfl) ?_ hNS ?_ ?_ fun h'' tk'' tot'' m'' hk'' ht'' h4=>?_⟩)
  ·exact oth b o (fun h=>hSf (by rw [← h];exact hb)) (hkn b o e)
  ·exact oth b o (fun q=>hS0 _ (q ▸ e)) (hkn b o (hk2 b o (fun q=>hI _ (q ▸ e)) (hH b o e)))
  ·exact oth _ _ hNS hN
  ·intro e
   obtain ⟨o,ho⟩:=hlv _ _ hst'
   exact Nat.lt_irrefl _ (e ▸ Heap.lt_size ho)
  ·refine .inr ?_
   cases hq:H.get? h'.objs.size with
   | none=>rfl
   | some o=>exact absurd (Heap.lt_size (hk2 _ _ (fun q=>hI _ (q ▸ hq)) (hH _ _ hq))) (Nat.lt_irrefl _)
  ·exact hR h'' tk'' tot'' m'' hk'' ht'' h4
theorem args_sum2 (a b:Value):argsOk "sum" ⟨[a,b],[]⟩:=by unfold argsOk;kernel_rfl
theorem call_sum_lists {s:Shared} {x st:Addr} {vs:List Value} {nx ns:Nat} {ws:Nat→List Value} {Q:Value→Shared→Prop} (hh:A.handled=none) (hx:s.heap.get? x=some (lstO vs nx)) (hst:s.heap.get? st=some (lstO [] ns))
  (hit:∀ j v,vs[j]?=some v→∃ a m,v = .ref a∧s.heap.get? a=some (lstO (ws j) m)) (hz:∀ j,j≤vs.length→(catTo ws j).length≤sizeLine)
  (hQ:∀ h' tk tot m,(∀ b o,s.heap.get? b=some o→h'.get? b=some o)→h'.get? tot=some (lstO (catTo ws vs.length) m)→(tot=st∨s.heap.get? tot=none)→Q (.ref tot) { s with heap:=h',toks:=tk }) :
  wpAny (model prog w) A (call (.builtin "sum") [.ref x,.ref st]) Q E s:=by
 refine call_function_tree F.kind_sum F.plain_sum F.entry_sum (args_sum2 _ _) ?_
 unfold Builtin.«sum»
 simp only [List.length_cons,List.length_nil]
 rw [if_neg (by decide)]
 refine wpAny_bind (wpAny_of_eq (show Builtin.Builtins.bindParams "sum" ["start"] 0 { pos:=[.ref st] }=pure [some (.ref st)] from rfl) ?_)
 have hl:s.heap.IsList x vs.toArray:=⟨_,hx,rfl,nx,rfl⟩
 have hxlt:=Heap.lt_size hx
 refine wpAny_bind (wpAny_pyIter_list hl ?_)
 refine wpAny_bind (wpAny_pure ?_)
 generalize hI:s.heap.objs.size=I
 generalize hh₂:s.heap.push _=h₂
 have hk:∀ b o,s.heap.get? b=some o→h₂.get? b=some o:=fun b o e=>by rw [← hh₂];exact Heap.get?_push_of_some _ e
 have hst2:=hk _ _ hst
 simp only [List.forIn_cons,List.forIn_nil]
 refine wpAny_bind (wpAny_bind (wpAny_bind (sub_list_ty PySem.F.sub_list_str hst2 ?_)))
 simp only [Bool.false_eq_true,if_false]
 refine wpAny_pure (wpAny_bind (wpAny_bind (sub_list_ty PySem.F.sub_list_bytes hst2 ?_)))
 simp only [Bool.false_eq_true,if_false]
 refine wpAny_pure (wpAny_bind (wpAny_bind (sub_list_ty PySem.F.sub_list_bytearray hst2 ?_)))
 simp only [Bool.false_eq_true,if_false]
 refine wpAny_pure (wpAny_pure ?_)
 refine wpAny_bind (wpAny_newObj_type ?_)
 have hS2:h₂.objs.size=I+1:=by rw [← hh₂,Heap.size_push,hI]
 have W:Walks prog w A.in1 I [I,x] [I] vs.toArray.size (fun i v=>vs.toArray[i]?=some v) _:=Walks.list (A:=A.in1) hh I x (by rw [← hI];exact Nat.ne_of_lt hxlt) vs.toArray
 have hSf:h₂.objs.size∉[I,x]:=by
  simp only [List.mem_cons,List.not_mem_nil,or_false,not_or]
  rw [hS2]
  exact ⟨Nat.ne_of_gt (Nat.lt_succ_self _),by rw [← hI];exact Nat.ne_of_gt (Nat.lt_succ_of_lt hxlt)⟩
 refine wpAny_pure ⟨plainId_quiet F.plain_sum_loop _,sum_loop (t0:=st) W ws h₂.objs.size hSf s.heap (fun o e=>?_) (fun o e=>?_) (fun j h hx=>let ⟨⟨o,ho,_⟩,_⟩:=hx;⟨o,ho⟩) (fun j v hj hv=>hit j v (by simpa using hv)) (fun j hj=>hz j (by simpa using hj)) vs.toArray.size 0 _ st 0 ns rfl (Nat.zero_le _) ?_ (fun b o e=>Heap.get?_push_of_some _ (hk b o e)) (Heap.get?_push_size _ rfl) (Heap.get?_push_of_some _ hst2) ?_ ?_ (.inl rfl) fun h' tk tot m h1 h2 h3=>hQ h' tk tot m h1 (by simpa using h2) h3⟩
 ·exact absurd (Heap.lt_size e) (by rw [hI];exact Nat.lt_irrefl _)
 ·exact absurd (Heap.lt_size e) (by rw [hI,hS2];exact Nat.not_lt.mpr (Nat.le_succ _))
 ·refine ⟨⟨_,Heap.get?_push_of_some _ (by rw [← hh₂,← hI];exact Heap.get?_push_size _ rfl),rfl,rfl⟩,⟨_,Heap.get?_push_of_some _ (hk _ _ hx),rfl,nx,rfl⟩⟩
 ·rw [hS2];exact Nat.ne_of_lt (Nat.lt_succ_of_lt (hI ▸ Heap.lt_size hst))
 ·rw [← hI];exact Nat.ne_of_lt (Heap.lt_size hst)
end
variable {g:Gx} {c:Cx g} {ρ:Rho} {σ:Sto} {Q:AV→Sto→Prop}
theorem repL_lists {w:World} {F:Fz} {ll:List (List AV)}:∀ {vs:List Value},RepL w F vs (ll.map .list)→∃ ws:Nat→List Value,(∀ j v,vs[j]?=some v→∃ a m,v = .ref a∧F a=some (lstO (ws j) m))∧(∀ j,j≤vs.length→RepL w F (catTo ws j) (ll.take j).flatten):=by
 induction ll with
 | nil =>
  intro vs h
  rw [show vs=[] from h.invNil]
  exact ⟨fun _=>[],fun j v h=>by simp at h,fun j _=>by
   have:catTo (fun _=>([]:List Value)) j=[]:=by unfold catTo;simp
   rw [this];simp;exact .nil⟩
 | cons l ll ih =>
   intro vs h
   obtain ⟨v,vs',e,h1,h2⟩:=h.invCons
   obtain ⟨a,us,m,e',hF,hr⟩:=h1.invList
   obtain ⟨ws,i1,i2⟩:=ih h2
   rw [e,e']
   refine ⟨fun j=>if j=0 then us else ws (j - 1),fun j v' hv=>?_,fun j hj=>?_⟩
   ·cases j with
    | zero=>simp at hv;subst hv;exact ⟨a,m,rfl,hF⟩
    | succ j=>simpa using i1 j v' (by simpa using hv)
   ·cases j with
    | zero=>exact .nil
    | succ j =>
     have e:catTo (fun j=>if j=0 then us else ws (j - 1)) (j+1)=us++catTo ws j:=by
      unfold catTo
      rw [List.range_succ_eq_map,List.flatMap_cons,List.flatMap_map]
      simp
     rw [e,List.take_succ_cons,List.flatten_cons]
     exact hr.append (i2 j (by simpa using hj))
theorem cal_sumL {ll:List (List AV)} (hh:c.A.handled=none) (hz:ll.flatten.length≤sizeLine) (q:Q (.list ll.flatten) σ):cal c (.builtin "sum") [.list (ll.map .list),.list []] σ Q:=fun s vs i r=>by
 obtain ⟨_,_,rfl,r1,r2⟩:=r.two
 obtain ⟨x,us,nx,rfl,h1,hv⟩:=r1.invList
 obtain ⟨y,ys,ny,rfl,h2,hv2⟩:=r2.invList
 cases hv2
 obtain ⟨ws,w1,w2⟩:=repL_lists hv
 have hlen:us.length=ll.length:=by simpa using hv.length
 refine call_sum_lists (ws:=ws) hh (fz_sub _ _ h1) (fz_sub _ _ h2) (fun j v e=>?_) (fun j hj=>?_) fun h' tk tot m hk ht ho=>?_
 ·obtain ⟨a,m,e1,e2⟩:=w1 j v e;exact ⟨a,m,e1,fz_sub _ _ e2⟩
 ·rw [(w2 j hj).length]
  refine Nat.le_trans ?_ hz
  rw [← List.take_append_drop j ll,List.flatten_append,List.length_append,List.take_append_drop]
  exact Nat.le_add_right _ _
 ·have hr:=w2 us.length (Nat.le_refl _)
  rw [hlen,List.take_length] at hr
  rw [hlen] at ht
  refine ⟨.list ll.flatten,σ,i.keeps hk,.keeps hk,.list (n:=m) (fz_eq.mpr ⟨?_,?_,ht⟩) (hr.mono (keep_fz hk)),q⟩
  ·rcases ho with rfl | ho
   ·exact (fz_eq.mp h2).1
   ·cases hq:σ tot with
    | none=>rfl
    | some x=>obtain ⟨o,e⟩:=(i.objs tot x hq).live;rw [ho] at e;cases e
  ·rcases ho with rfl | ho
   ·exact (fz_eq.mp h2).2.1
   ·intro hm;obtain ⟨o,e⟩:=i.live tot hm;rw [ho] at e;cases e
end Mine
end
section
namespace Mine
open PySem
open scoped Classical
variable {g:Gx} {c:Cx g} {ρ:Rho} {σ:Sto} {Q:AV→Sto→Prop}
theorem assign2 {a b:Str} {pa pb pos:Pos} {k:Nat} {x y:AV} {v:Value} {ρ₁ ρ₂:Rho} {s:Shared} {Q:Unit→Shared→Prop} {E:Value→Shared→Prop} (hs:St c ρ σ s) (hh:c.A.handled=none) (hc:c.isFn=true) (u1:Upd a x ρ ρ₁) (u2:Upd b y ρ₁ ρ₂) (r:Rep g.w (c.F σ s) v (.tup [x,y]))
  (q:∀ s',St c ρ₂ σ s'→EvS c σ s σ s'→Q () s'):wpAny g.M c.A (assign (.Tuple [.Name a pa,.Name b pb] k pos) c.env v) Q E s:=by
 obtain ⟨t,vs,n,rfl,hF,hr⟩:=r.invTup
 obtain ⟨v1,v2,rfl,r1,r2⟩:=hr.two
 refine wpAny_assign_Tuple (items := #[v1,v2]) hh ⟨_,fz_sub _ _ hF,rfl,n,rfl⟩ rfl rfl fun h' he=>?_
 have hk:∀ b o,s.heap.get? b=some o→h'.get? b=some o:=fun b o e=>he b o (Nat.ne_of_lt (Heap.lt_size e)) e
 have hs1:St c ρ σ { s with heap:=h',toks:=s.toks }:=hs.ev (hs.inv.keeps hk) (.keeps hk)
 have e1:c.Ev σ s σ { s with heap:=h',toks:=s.toks } := .keeps hk
 show wpAny _ _ (assignInOrder [assign (.Name a pa) c.env,assign (.Name b pb) c.env] [v1,v2]) _ _ _
 refine wpAny_bind (wpAny_holding (wpAny_assign_Name (store_sound hs1 u1 hc (r1.mono e1.grow) fun s2 hs2 e2=>?_)))
 refine wpAny_bind (wpAny_holding (wpAny_assign_Name (store_sound hs2 u2 hc (r2.mono (e1.grow.trans e2.grow)) fun s3 hs3 e3=>?_)))
 exact wpAny_pure (q s3 hs3 (((e1.toS hs.fr.sub).trans e2).trans e3))
theorem es_unpack {a b:Str} {pa pb tpos:Pos} {k:Nat} {value:Expr} {pos:Pos} {Q:AFl→Rho→Sto→Prop} (hh:c.A.handled=none) (h:ev c ρ value σ fun z σ'=>∃ x y ρ₁ ρ₂,z = .tup [x,y]∧Upd a x ρ ρ₁∧Upd b y ρ₁ ρ₂∧Q .next ρ₂ σ') (hc:c.isFn=true)
  (hs:swapsWithSole [.Tuple [.Name a pa,.Name b pb] k tpos] value pos.line c.env=pure false:=by rfl) (hw:swappedStores [.Tuple [.Name a pa,.Name b pb] k tpos] value c.env=pure none:=by rfl):es c ρ (exec (.Assign [.Tuple [.Name a pa,.Name b pb] k tpos] value pos) c.env) σ Q:=fun s st=>by
 refine wpAny_Assign_stores (pg.use (h s st) (fun v s₁ z σ₁ i₁ e₁ r₁ qq=>?_)) hs hw
 obtain ⟨x,y,ρ₁,ρ₂,hz,u1,u2,q₁⟩:=qq
 subst hz
 exact assign2 (k:=k) (st.ev i₁ e₁) hh hc u1 u2 r₁ fun s' hs' e'=>⟨_,ρ₂,σ₁,hs',(e₁.toS st.fr.sub).trans e',.next,q₁⟩
theorem same_pairs {id:String} {x y:AV} {l:List (AV×AV)} {s:Shared} {u v:Value} {A:Around} {E:Value→Shared→Prop} {Q:Bool→Shared→Prop} (hx:Dct σ x l) (hy:Dct σ y l) (tl:tkeys l) (pl:∀ p∈l,plain p.2=true∧deep p.2≤4) (hu:A.units+6 < cLine) (i:c.Inv σ s) (r1:Rep g.w (c.F σ s) u x) (r2:Rep g.w (c.F σ s) v y) :
  ∃ a b,u = .ref a∧v = .ref b∧s.TypeIs u "dict" ∧ s.TypeIs v "dict" ∧ (Q true s→wpAny g.M A (Builtin.Dict.samePairs id a b) Q E s):=by
 obtain ⟨a,ea,na,rfl,ha,ra,oka⟩:=hx.heap i r1
 obtain ⟨b,eb,nb,rfl,hb,rb,okb⟩:=hy.heap i r2
 refine ⟨a,b,rfl,rfl,⟨_,ha,rfl⟩,⟨_,hb,rfl⟩,fun q=>?_⟩
 have l1:=ra.length
 have l2:=rb.length
 unfold Builtin.Dict.samePairs Builtin.Dict.showsAll
 rw [if_neg (by rw [oka.2];exact Bool.false_ne_true),if_neg (by rw [okb.2];exact Bool.false_ne_true)]
 refine wpAny_bind (wpAny_pure (wpAny_bind (wpAny_pure ?_)))
 refine wpAny_bind (wpAny_dictEntries ha rfl ?_)
 dsimp only
 refine wpAny_bind (wpAny_dictEntries hb rfl ?_)
 rw [if_neg (by simp [l1,l2])]
 refine wpAny_bind (wpAny_dictEpoch ha rfl ?_)
 refine wpAny_bind ?_
 rw [Std.Legacy.Range.forIn_eq_forIn_range']
 simp only [Std.Legacy.Range.size,Nat.sub_zero,Nat.add_sub_cancel,Nat.div_one]
 refine wpAny_forIn_list _ (fun rest r s'=>r.1=none∧s'=s∧∀ j∈rest,j < l.length) _ ?_ ?_ _ _ ⟨rfl,rfl,fun j hj=>by simpa [l1,List.mem_range'] using hj⟩
 ·rintro j rest r s' ⟨hr,rfl,hall⟩
  have hj:=hall j List.mem_cons_self
  refine wpAny_bind (wpAny_dictEntries ha rfl ?_)
  have hjx:j < ea.length:=by exact o34 l1 l2 hj
  have hej:ea[j]?=some ea[j]:=List.getElem?_eq_getElem hjx
  rw [List.getElem?_toArray,hej]
  obtain ⟨k,z,hz,hh,rk,rz⟩:=ra.at hej
  refine wpAny_bind (wpAny_holding ?_)
  show wpAny _ _ (dictFind b ea[j].key ea[j].hash >>= _) _ _ _
  rw [hh]
  refine wpAny_bind (find_at (k:=k) (by exact o35 hu hjx) fz_sub hb rb tl okb.1 (tl _ (List.mem_of_getElem? hz)) rk (fun hno=>absurd hz (hno j z)) fun j' z' hz'=>?_)
  ·have ej:=key_once oka.1 hz hz'
   subst ej
   rw [hz] at hz';injection hz' with hz';injection hz' with _ hz';subst hz'
   refine wpAny_bind (wpAny_dictEntries hb rfl ?_)
   obtain ⟨e',he'⟩:=rb.to hz
   obtain ⟨k',z',hz',_,_,rz'⟩:=rb.at he'
   rw [hz] at hz';injection hz' with hz';injection hz' with _ hz';subst hz'
   rw [List.getElem?_toArray,he']
   obtain ⟨pz,dz⟩:=pl (k,z) (List.mem_of_getElem? hz)
   refine wpAny_holding (eqAt 4 dz rz rz' pz pz fz_sub (by exact o36 hu hjx) _ _ _ _ ?_)
   rw [eqA_refl pz]
   simp only [Bool.not_true,Bool.false_eq_true,if_false]
   refine wpAny_bind (wpAny_dictEpoch ha rfl ?_)
   rw [if_neg (by simp)]
   exact wpAny_pure ⟨rfl,rfl,fun u hu=>hall u (List.mem_cons_of_mem _ hu)⟩
 ·rintro ⟨r1,r2⟩ s' ⟨hr,rfl,_⟩
  simp only at hr
  subst hr
  exact wpAny_pure q
theorem cmp_ned {x y:AV} {l:List (AV×AV)} (hx:Dct σ x l) (hy:Dct σ y l) (tl:tkeys l) (pl:∀ p∈l,plain p.2=true∧deep p.2≤4) (hu:c.A.units+8 < cLine) (q:Q (.bool false) σ):op2 c (compareOp .NotEq) x y σ Q:=fun s u v i r1 r2=>by
 obtain ⟨a,b,rfl,rfl,h1,h2,h3⟩:=same_pairs (id := "dict.__ne__") (A:=c.A.in1) (E:=c.E) (Q:=fun r s'=>wpAny g.M c.A.in1 (ret (.bool (r==false))) (fun fin s'=>∃ v,fin = .done (.ret v)∧v ≠ .notImplemented∧PgP c (Rep g.w) σ s Q v s') c.E s') hx hy tl pl (by show c.A.units+1+6 < cLine;exact o37 hu) i r1 r2
 refine wpAny_richCompare_same_room (op := .NotEq) h1 h2 F.slot_dict_ne (wpAny_call_entry F.slot_dict_ne h1 F.entry_dict_ne ?_ (F.args_dict_ne_2 _ _)) (by exact o17 hu)
 show wpAny _ _ (Builtin.Dict.dictSlotArgs "__ne__" ⟨[.ref a,.ref b],[]⟩ >>= _) _ _ s
 unfold Builtin.Dict.dictSlotArgs
 refine wpAny_bind (wpAny_bind (wpAny_notOrdered_dict h1 ?_))
 show wpAny _ _ (pure (Value.ref a,Value.ref b)) _ _ s
 refine wpAny_pure ?_
 show wpAny _ _ (isInstance (.ref b) (.type "dict") >>= _) _ _ s
 refine wpAny_bind (wpAny_isInstance h2 isSubtype_dict_dict ?_)
 simp only [Bool.not_true,Bool.false_eq_true,if_false]
 show wpAny _ _ (Builtin.Dict.samePairs "dict.__ne__" a b >>= _) _ _ s
 refine wpAny_bind (h3 ?_)
 exact wpAny_pure ⟨_,rfl,(fun e=>nomatch e),_,σ,i,.refl ..,.bool _,q⟩
end Mine
end
section
namespace Mine
open PySem
variable {g:Gx} {c:Cx g} {ρ:Rho} {σ:Sto} {Q:AV→Sto→Prop}
theorem ev_filtP {α:Type} {sc:Scope} {elt iter test:Expr} {x:Str} {px pos:Pos} {scope:Scope} (fr:Rho) (inj:α→AV) (l:List α) (p:α→Bool) (f:α→AV) (hsc:c.sc=sc) (hok:compOk x (fr.map (·.1)) scope sc=true) (hfr:FrI fr ρ) (hz:l.length≤sizeLine)
  (h:ev c ρ iter σ fun y σ₁=>σ₁=σ∧Iter c y (l.map inj))
  (turn:∀ c':Cx g,c'.A=c.A→c'.sc=relab scope sc→∀ a∈l,evb c' ((x,some (inj a))::fr) test σ (fun b σ₂=>b=p a∧σ₂=σ)∧(p a=true→ev c' ((x,some (inj a))::fr) elt σ fun z σ₃=>z=f a∧σ₃=σ))
  (q:Q (.list ((l.filter p).map f)) σ)
  (hs:∀ x,foldedSetIterable iter c.env x=pure x:=by intro _;rfl):ev c ρ (.ListComp elt [⟨.Name x px,iter,[test],0⟩] scope pos) σ Q:=by
 refine ev_filt fr (fun l' acc σ₁=>σ₁=σ∧∃ d r,l=d++r∧l'=r.map inj∧acc=(d.filter p).map f) hsc hok hfr (gv.mono h fun y σ₁ q=>⟨_,q.2,by simpa using hz,q.1,[],l,rfl,rfl,rfl⟩) ?_ ?_ hs
 ·rintro c' hA hS y rest acc σ₁ ⟨rfl,d,r,hl,hr,rfl⟩
  cases r with
  | nil=>cases hr
  | cons a r =>
   rw [List.map_cons] at hr
   injection hr with h1 h2
   subst h1;subst h2
   obtain ⟨t1,t2⟩:=turn c' hA hS a (by rw [hl];simp)
   refine gv.mono t1 fun b σ₂ q_=>?_
   obtain ⟨hb,hs2⟩:=q_
   subst hb;subst hs2
   refine ⟨fun hp=>gv.mono (t2 hp) fun z σ₃ ⟨hz,hs3⟩=>?_,fun hp=>?_⟩
   ·subst hz;subst hs3
    exact ⟨rfl,d++[a],r,by rw [hl];simp,rfl,by rw [List.filter_append,List.filter_cons_of_pos hp];simp⟩
   ·exact ⟨rfl,d++[a],r,by rw [hl];simp,rfl,by rw [List.filter_append,List.filter_cons_of_neg (by rw [hp];simp)];simp⟩
 ·rintro acc σ₁ ⟨rfl,d,r,hl,hr,rfl⟩
  have:r=[]:=by cases r with | nil=>rfl | cons _ _=>cases hr
  subst this
  rw [List.append_nil] at hl
  rw [← hl];exact q
theorem ev_mapP {α:Type} {sc:Scope} {elt iter:Expr} {x:Str} {px pos:Pos} {scope:Scope} (fr:Rho) (inj:α→AV) (l:List α) (f:α→AV) (hsc:c.sc=sc) (hok:compOk x (fr.map (·.1)) scope sc=true) (hfr:FrI fr ρ) (hz:l.length≤sizeLine)
  (h:ev c ρ iter σ fun y σ₁=>σ₁=σ∧Iter c y (l.map inj))
  (turn:∀ c':Cx g,c'.A=c.A→c'.sc=relab scope sc→∀ a∈l,ev c' ((x,some (inj a))::fr) elt σ fun z σ₃=>z=f a∧σ₃=σ)
  (q:Q (.list (l.map f)) σ)
  (hs:∀ x,foldedSetIterable iter c.env x=pure x:=by intro _;rfl):ev c ρ (.ListComp elt [⟨.Name x px,iter,[],0⟩] scope pos) σ Q:=by
 refine ev_map fr (fun l' acc σ₁=>σ₁=σ∧∃ d r,l=d++r∧l'=r.map inj∧acc=d.map f) hsc hok hfr (gv.mono h fun y σ₁ q=>⟨_,q.2,by simpa using hz,q.1,[],l,rfl,rfl,rfl⟩) ?_ ?_ hs
 ·rintro c' hA hS y rest acc σ₁ ⟨rfl,d,r,hl,hr,rfl⟩
  cases r with
  | nil=>cases hr
  | cons a r =>
   rw [List.map_cons] at hr
   injection hr with h1 h2
   subst h1;subst h2
   refine gv.mono (turn c' hA hS a (by rw [hl];simp)) fun z σ₃ q_=>?_
   obtain ⟨hz,hs3⟩:=q_
   subst hz;subst hs3
   exact ⟨rfl,d++[a],r,by rw [hl];simp,rfl,by simp⟩
 ·rintro acc σ₁ ⟨rfl,d,r,hl,hr,rfl⟩
  have:r=[]:=by cases r with | nil=>rfl | cons _ _=>cases hr
  subst this
  rw [List.append_nil] at hl
  rw [← hl];exact q
theorem ev_mapCP {α:Type} {sc:Scope} {elt iter:Expr} {x:Str} {px pos:Pos} {scope:Scope} (fr:Rho) (inj:α→AV) (l:List α) (f:α→AV) (hsc:c.sc=sc) (hok:compOkC x (fr.map (·.1)) scope sc=true) (hfr:FrI fr ρ) (hz:l.length≤sizeLine)
  (h:ev c ρ iter σ fun y σ₁=>σ₁=σ∧Iter c y (l.map inj))
  (turn:∀ c':Cx g,c'.A=c.A→c'.sc=relab scope sc→∀ a∈l,ev c' ((x,some (inj a))::fr) elt σ fun z σ₃=>z=f a∧σ₃=σ)
  (q:Q (.list (l.map f)) σ)
  (hs:∀ x,foldedSetIterable iter c.env x=pure x:=by intro _;rfl):ev c ρ (.ListComp elt [⟨.Name x px,iter,[],0⟩] scope pos) σ Q:=by
 refine ev_mapC fr (fun l' acc σ₁=>σ₁=σ∧∃ d r,l=d++r∧l'=r.map inj∧acc=d.map f) hsc hok hfr (gv.mono h fun y σ₁ q=>⟨_,q.2,by simpa using hz,q.1,[],l,rfl,rfl,rfl⟩) ?_ ?_ hs
 ·rintro c' hA hS y rest acc σ₁ ⟨rfl,d,r,hl,hr,rfl⟩
  cases r with
  | nil=>cases hr
  | cons a r =>
   rw [List.map_cons] at hr
   injection hr with h1 h2
   subst h1;subst h2
   refine gv.mono (turn c' hA hS a (by rw [hl];simp)) fun z σ₃ q_=>?_
   obtain ⟨hz,hs3⟩:=q_
   subst hz;subst hs3
   exact ⟨rfl,d++[a],r,by rw [hl];simp,rfl,by simp⟩
 ·rintro acc σ₁ ⟨rfl,d,r,hl,hr,rfl⟩
  have:r=[]:=by cases r with | nil=>rfl | cons _ _=>cases hr
  subst this
  rw [List.append_nil] at hl
  rw [← hl];exact q
section
variable {a b:Int}
theorem cmp_ne (q:Q (.bool (a != b)) σ):op2 c (compareOp .NotEq) (.int a) (.int b) σ Q:=fun s x y i r1 r2=>by
 obtain ⟨_,rfl⟩:=r1.invInt;obtain ⟨_,rfl⟩:=r2.invInt;exact PySem.P.ne_int ⟨_,σ,i,.refl ..,.bool _,q⟩
theorem cmp_le (q:Q (.bool (decide (a≤b))) σ):op2 c (compareOp .LtE) (.int a) (.int b) σ Q:=fun s x y i r1 r2=>by
 obtain ⟨_,rfl⟩:=r1.invInt;obtain ⟨_,rfl⟩:=r2.invInt;exact PySem.P.le_int ⟨_,σ,i,.refl ..,.bool _,q⟩
end
noncomputable def pth (p:List Int):AV := .tup (p.map .int)
theorem ints_plain (p:List Int):plainL (p.map .int)=true:=by
 induction p with
 | nil=>rfl
 | cons a r ih=>rw [List.map_cons];unfold plainL;rw [ih];rfl
theorem ints_keys (p:List Int):areKeys (p.map .int)=true:=by
 induction p with
 | nil=>rfl
 | cons a r ih=>rw [List.map_cons];unfold areKeys;rw [ih];rfl
theorem ints_deep (p:List Int):deepL (p.map .int)=0:=by
 induction p with
 | nil=>rfl
 | cons a r ih=>rw [List.map_cons];unfold deepL;rw [ih];rfl
theorem pth_tkey (p:List Int):tkey (pth p)=true:=by
 show (areKeys (p.map .int) && decide (deepL (p.map .int)≤1))=true
 rw [ints_keys,ints_deep];rfl
theorem ints_any (p:List Int) (x:Int):(p.map AV.int).any (eqA · (.int x))=p.contains x:=by
 induction p with
 | nil=>rfl
 | cons a r ih=>rw [List.map_cons,List.any_cons,ih,List.contains_cons];show ((a==x) || _)=_;rw [Bool.beq_comm]
theorem pth_inj {p q:List Int} (h:pth p=pth q):p=q:=by
 unfold pth at h
 injection h with h
 induction p generalizing q with
 | nil=>cases q with | nil=>rfl | cons _ _=>cases h
 | cons a r ih =>
  cases q with
  | nil=>cases h
  | cons b t =>
   rw [List.map_cons,List.map_cons] at h
   injection h with h1 h2
   injection h1 with h1
   rw [h1,ih h2]
noncomputable def hears (h:Int) (p:List Int):List Int:=(rngL 0 h).filter fun x => !p.contains x
theorem rngL_len (a b:Int):(rngL a b).length=(b - a).toNat:=by simp [rngL]
theorem mem_rngL {a b x:Int}:x∈rngL a b↔a≤x∧x < b:=by
 simp only [rngL,List.mem_map,List.mem_range]
 constructor
 ·rintro ⟨i,hi,rfl⟩;omega
 ·intro h;exact ⟨(x - a).toNat,by exact o38 h,by exact o39 h⟩
end Mine
end
section
namespace Mine
open PySem
variable {g:Gx} {c:Cx g} {ρ:Rho} {σ:Sto}
theorem es_filtP {α:Type} {sc:Scope} {elt iter test:Expr} {x y:Str} {px py pos spos:Pos} {scope:Scope} {Q:AFl→Rho→Sto→Prop} (fr:Rho) (inj:α→AV) (l:List α) (p:α→Bool) (f:α→AV) (hfn:c.isFn=true) (hsc:c.sc=sc) (hsw:swOk y py pos scope sc=true) (hok:compOk x (fr.map (·.1)) scope sc=true) (hfr:FrI fr ρ) (hz:l.length≤sizeLine)
  (h:ev c ρ iter σ fun y σ₁=>σ₁=σ∧Iter c y (l.map inj))
  (turn:∀ c':Cx g,c'.A=c.A→c'.sc=relab scope sc→∀ a∈l,evb c' ((x,some (inj a))::fr) test σ (fun b σ₂=>b=p a∧σ₂=σ)∧(p a=true→ev c' ((x,some (inj a))::fr) elt σ fun z σ₃=>z=f a∧σ₃=σ))
  (q:Made (fun z σ₂=>∃ ρ',Upd y z ρ ρ'∧Q .next ρ' σ₂) ((l.filter p).map f) σ)
  (hs:∀ x,foldedSetIterable iter c.env x=pure x:=by intro _;rfl):es c ρ (exec (.Assign [.Name y py] (.ListComp elt [⟨.Name x px,iter,[test],0⟩] scope pos) spos) c.env) σ Q:=by
 refine es_filt fr (fun l' acc σ₁=>σ₁=σ∧∃ d r,l=d++r∧l'=r.map inj∧acc=(d.filter p).map f) hfn hsc hsw hok hfr (gv.mono h fun y σ₁ q=>⟨_,q.2,by simpa using hz,q.1,[],l,rfl,rfl,rfl⟩) ?_ ?_ hs
 ·rintro c' hA hS y rest acc σ₁ ⟨rfl,d,r,hl,hr,rfl⟩
  cases r with
  | nil=>cases hr
  | cons a r =>
   rw [List.map_cons] at hr
   injection hr with h1 h2
   subst h1;subst h2
   obtain ⟨t1,t2⟩:=turn c' hA hS a (by rw [hl];simp)
   refine gv.mono t1 fun b σ₂ q_=>?_
   obtain ⟨hb,hs2⟩:=q_
   subst hb;subst hs2
   refine ⟨fun hp=>gv.mono (t2 hp) fun z σ₃ ⟨hz,hs3⟩=>?_,fun hp=>?_⟩
   ·subst hz;subst hs3
    exact ⟨rfl,d++[a],r,by rw [hl];simp,rfl,by rw [List.filter_append,List.filter_cons_of_pos hp];simp⟩
   ·exact ⟨rfl,d++[a],r,by rw [hl];simp,rfl,by rw [List.filter_append,List.filter_cons_of_neg (by rw [hp];simp)];simp⟩
 ·rintro acc σ₁ ⟨rfl,d,r,hl,hr,rfl⟩
  have:r=[]:=by cases r with | nil=>rfl | cons _ _=>cases hr
  subst this
  rw [List.append_nil] at hl
  rw [← hl];exact q
theorem es_mapP {α:Type} {sc:Scope} {elt iter:Expr} {x y:Str} {px py pos spos:Pos} {scope:Scope} {Q:AFl→Rho→Sto→Prop} (fr:Rho) (inj:α→AV) (l:List α) (f:α→AV) (hfn:c.isFn=true) (hsc:c.sc=sc) (hsw:swOk y py pos scope sc=true) (hok:compOk x (fr.map (·.1)) scope sc=true) (hfr:FrI fr ρ) (hz:l.length≤sizeLine)
  (h:ev c ρ iter σ fun y σ₁=>σ₁=σ∧Iter c y (l.map inj))
  (turn:∀ c':Cx g,c'.A=c.A→c'.sc=relab scope sc→∀ a∈l,ev c' ((x,some (inj a))::fr) elt σ fun z σ₃=>z=f a∧σ₃=σ)
  (q:Made (fun z σ₂=>∃ ρ',Upd y z ρ ρ'∧Q .next ρ' σ₂) (l.map f) σ)
  (hs:∀ x,foldedSetIterable iter c.env x=pure x:=by intro _;rfl):es c ρ (exec (.Assign [.Name y py] (.ListComp elt [⟨.Name x px,iter,[],0⟩] scope pos) spos) c.env) σ Q:=by
 refine es_map fr (fun l' acc σ₁=>σ₁=σ∧∃ d r,l=d++r∧l'=r.map inj∧acc=d.map f) hfn hsc hsw hok hfr (gv.mono h fun y σ₁ q=>⟨_,q.2,by simpa using hz,q.1,[],l,rfl,rfl,rfl⟩) ?_ ?_ hs
 ·rintro c' hA hS y rest acc σ₁ ⟨rfl,d,r,hl,hr,rfl⟩
  cases r with
  | nil=>cases hr
  | cons a r =>
   rw [List.map_cons] at hr
   injection hr with h1 h2
   subst h1;subst h2
   refine gv.mono (turn c' hA hS a (by rw [hl];simp)) fun z σ₃ q_=>?_
   obtain ⟨hz,hs3⟩:=q_
   subst hz;subst hs3
   exact ⟨rfl,d++[a],r,by rw [hl];simp,rfl,by simp⟩
 ·rintro acc σ₁ ⟨rfl,d,r,hl,hr,rfl⟩
  have:r=[]:=by cases r with | nil=>rfl | cons _ _=>cases hr
  subst this
  rw [List.append_nil] at hl
  rw [← hl];exact q
theorem br_nt {p q:Prop} (h:q):br (!true) p q:=br_false h
theorem br_nf {p q:Prop} (h:p):br (!false) p q:=br_true h
theorem Dct.set {x:AV} {l:List (AV×AV)} {a:Addr} {y:AObj} (h:Dct σ x l) (ha:σ a=none):Dct (σ.set a y) x l:=by
 rcases h with rfl | ⟨b,rfl,hb⟩
 ·exact .dict
 ·refine .obj ?_
  rw [Sto.set_ne (by rintro rfl;rw [ha] at hb;cases hb)];exact hb
end Mine
end
section
namespace Mine
open PySem PySem.W
variable {g:Gx} {c:Cx g} {ρ:Rho} {σ:Sto}
noncomputable def atts (m:List (Str×AV)):List (AV×AV):=m.map fun p=>(.str p.1,p.2)
noncomputable def mset:List (Str×AV)→Str→AV→List (Str×AV)
 | [],x,y=>[(x,y)]
 | (k,v)::r,x,y=>if k==x then (k,y)::r else (k,v)::mset r x y
inductive AttE (w:World) (F:Fz) (es:List DictEntry) (k:Str) (v:AV) (m:List (Str×AV)):Prop
 | mk (t:Tok) (u:Value) (us:List DictEntry) (e:es=⟨hashStr w k,.str k t,u⟩::us) (h:Rep w F u v) (r:RepE w F us (atts m)):AttE w F es k v m
theorem att_cons {w:World} {F:Fz} {es:List DictEntry} {p:Str×AV} {m:List (Str×AV)} (r:RepE w F es (atts (p::m))):AttE w F es p.1 p.2 m:=by
 obtain ⟨k,v,us,e,_,h,h',r'⟩:=RepE.invCons (p:=(AV.str p.1,p.2)) r
 obtain ⟨t,rfl⟩:=h.invStr
 exact ⟨t,v,us,e,h',r'⟩
theorem att_refs {w:World} {F:Fz} {es:List DictEntry} {m:List (Str×AV)} (r:RepE w F es (atts m)):es.any (·.refKey)=false:=by
 induction m generalizing es with
 | nil=>obtain rfl:=RepE.invNil r;rfl
 | cons p m ih=>obtain ⟨t,u,us,rfl,_,r'⟩:=att_cons r;rw [List.any_cons,ih r'];rfl
theorem att_some {w:World} {F:Fz} {x:Str} {y:AV} {es:List DictEntry} {m:List (Str×AV)} (r:RepE w F es (atts m)) (h:m.lookup x=some y):∃ e,es.find? (·.key.isStr x)=some e∧Rep w F e.val y:=by
 induction m generalizing es with
 | nil=>cases h
 | cons p m ih =>
  obtain ⟨k,v⟩:=p
  obtain ⟨t,u,us,rfl,hv,r'⟩:=att_cons r
  by_cases e:k=x
  ·subst e
   rw [List.lookup_cons,beq_self_eq_true] at h
   injection h with h;subst h
   exact ⟨_,List.find?_cons_of_pos (by simp [Value.isStr]),hv⟩
  ·rw [List.lookup_cons,beq_eq_false_iff_ne.mpr (Ne.symm e)] at h
   obtain ⟨e',h1,h2⟩:=ih r' h
   exact ⟨e',by rw [List.find?_cons_of_neg (by simp [Value.isStr,e]),h1],h2⟩
theorem att_none {w:World} {F:Fz} {x:Str} {es:List DictEntry} {m:List (Str×AV)} (r:RepE w F es (atts m)) (h:m.lookup x=none):es.find? (·.key.isStr x)=none:=by
 induction m generalizing es with
 | nil=>obtain rfl:=RepE.invNil r;rfl
 | cons p m ih =>
  obtain ⟨k,v⟩:=p
  obtain ⟨t,u,us,rfl,hv,r'⟩:=att_cons r
  by_cases e:k=x
  ·subst e
   rw [List.lookup_cons,beq_self_eq_true] at h
   cases h
  ·rw [List.lookup_cons,beq_eq_false_iff_ne.mpr (Ne.symm e)] at h
   rw [List.find?_cons_of_neg (by simp [Value.isStr,e]),ih r' h]
theorem att_put {w:World} {F:Fz} {x:Str} {t:Tok} {v:Value} {y:AV} (hv:Rep w F v y) {es:List DictEntry} {m:List (Str×AV)} (r:RepE w F es (atts m)):RepE w F (putL x (hashStr w x) (.str x t) v es) (atts (mset m x y)):=by
 induction m generalizing es with
 | nil=>obtain rfl:=RepE.invNil r;exact .cons (x := .str x) rfl (.str x t) hv .nil
 | cons p m ih =>
  obtain ⟨k,z⟩:=p
  obtain ⟨t',u,us,rfl,hz,r'⟩:=att_cons r
  unfold putL mset
  by_cases e:k=x
  ·subst e
   rw [if_pos (by simp [Value.isStr]),if_pos (by simp)]
   exact .cons (x := .str k) rfl (.str _ _) hv r'
  ·rw [if_neg (by simp [Value.isStr,e]),if_neg (by simpa using e)]
   exact .cons (x := .str k) rfl (.str _ _) hz (ih r')
theorem mset_names {m:List (Str×AV)} {x:Str} {y:AV}:((mset m x y).map (·.1))=if x∈m.map (·.1) then m.map (·.1) else m.map (·.1)++[x]:=by
 induction m with
 | nil=>rfl
 | cons p r ih =>
  obtain ⟨k,v⟩:=p
  unfold mset
  by_cases e:k=x
  ·subst e;simp
  ·rw [if_neg (by simpa using e),List.map_cons,ih]
   by_cases h:x∈r.map (·.1)
   ·simp [h]
   ·have:¬ x∈((k,v)::r).map (·.1):=by simp only [List.map_cons,List.mem_cons,not_or];exact ⟨Ne.symm e,h⟩
    rw [if_neg h,if_neg this];rfl
theorem atts_nodup {m:List (Str×AV)} (h:((atts m).map (·.1)).Nodup) {x:Str} {y:AV}:((atts (mset m x y)).map (·.1)).Nodup:=by
 have e:∀ m:List (Str×AV),(atts m).map (·.1)=(m.map (·.1)).map AV.str:=fun m=>by simp [atts]
 rw [e] at h ⊢
 have h':(m.map (·.1)).Nodup:=(List.pairwise_map.mp h).imp fun hab e=>hab (by rw [e])
 have h2:((mset m x y).map (·.1)).Nodup:=by
  rw [mset_names]
  split
  ·exact h'
  ·rename_i hx
   rw [List.nodup_append]
   exact ⟨h',by simp,fun a ha b hb e=>hx (by rw [List.mem_singleton.mp hb] at e;exact e ▸ ha)⟩
 exact List.Pairwise.map _ (fun a b hab e=>hab (by injection e)) h2
noncomputable def noRaw:AV→Bool
 | .raw _=>false
 | _=>true
theorem handed_of {w:World} {F:Fz} {v:Value} {y:AV} (r:Rep w F v y) (h:noRaw y=true):handedIn v=true:=by
 refine Rep.casesOn (motive_1:=fun v y _=>noRaw y=true→handedIn v=true) r ?_ ?_ ?_ ?_ ?_ ?_ ?_ ?_ ?_ (fun _ h=>absurd h Bool.false_ne_true) ?_ h <;> intros <;> rfl
noncomputable def attrOk (K:Frag) (C:Addr) (x:Str):Bool:=findIn K (.ref C) "__getattribute__" == some (some (.builtin "object.__getattribute__")) && hasDictIn K C && (match findIn K (.ref C) x with | some a=>noGet K a | none=>false)
noncomputable def putOk (K:Frag) (C:Addr) (x:Str):Bool:=findIn K (.ref C) "__setattr__" == some (some (.builtin "object.__setattr__")) && plainOver K C && takerIn K C x==some none && hasDictIn K C
noncomputable def methOk (K:Frag) (C:Addr) (x:Str) (f:Addr):Bool:=findIn K (.ref C) "__getattribute__" == some (some (.builtin "object.__getattribute__")) && findIn K (.ref C) "__getattr__" == some none && findIn K (.ref C) x==some (some (.ref f)) && typeIn K (.ref f)==some (.type "function")
theorem inst_at {s:Shared} {a C d:Addr} {es:List DictEntry} {n:Nat} (i:c.Inv σ s) (ha:σ a=some (.inst C d)) (hd:s.heap.get? d=some (dctO es n)):InstAt s.heap a { cls := .ref C,dict:=some d,data := .plain } C (some (dctO es n)) :=
 ⟨i.objs a _ ha,rfl,rfl,hd⟩
theorem X_of {K:Frag} {s:Shared} (X:K.In g.H₀) (i:c.Inv σ s):K.In s.heap:=X.keeps fun b o e=>(fz_eq.mp (i.keep b o e)).2.2
theorem ev_attr {K:Frag} {o:Expr} {x:Str} {pos:Pos} {Q:AV→Sto→Prop} (X:K.In g.H₀)
  (h:ev c ρ o σ fun y σ₁=>∃ a C d m z,y = .obj a∧σ₁ a=some (.inst C d)∧σ₁ d=some (.dct (atts m))∧attrOk K C x=true∧m.lookup x=some z∧noRaw z=true∧Q z σ₁)
  (he:eval (.Attribute o x pos) c.env=(do
   let v ← eval o c.env
   standAt pos.atName
   let r ← holding [v] (getAttr v x true)
   letTemporaryGo o v r
   pure r):=by with_unfolding_all rfl):ev c ρ (.Attribute o x pos) σ Q:=fun s st=>by
 refine PyProof.Rows.Attribute_any_ (pg.use (h s st) (fun v s₁ y σ₁ i₁ e₁ r₁ qq=>?_)) he
 obtain ⟨a,C,d,m,z,hy,ha,hd,hk,hm,hz,q⟩:=qq
 subst hy
 obtain rfl:=r₁.invObj
 obtain ⟨es,n,hdo,hes,_⟩:=i₁.objs d _ hd
 obtain ⟨en,hf,hr⟩:=att_some hes hm
 unfold attrOk at hk
 simp only [Bool.and_eq_true,beq_iff_eq] at hk
 obtain ⟨⟨k1,k2⟩,k3⟩:=hk
 split at k3
 ·rename_i at' hat
  refine get_value (X_of X i₁) (inst_at i₁ ha hdo) k1 (findObj_own k2 hat k3 ?_) (handed_of hr hz) ⟨z,σ₁,i₁.toks _,e₁.trans (.toks ..),hr,q⟩
  show getL x es=_
  unfold getL
  rw [hf]
 ·cases k3
theorem methI_gen {K:Frag} {o e:Expr} {rest:List Expr} {x:Str} {apos pos:Pos} {f:Addr} {KK:AV→List AV→Sto→Prop} {P:Value→Shared→Prop} (X:K.In g.H₀) (ok:fnOk K f=true) {s:Shared} (st:St c ρ σ s)
  (h:ev c ρ o σ fun y σ₁=>∃ a C d m,y = .obj a∧σ₁ a=some (.inst C d)∧σ₁ d=some (.dct (atts m))∧methOk K C x f=true∧m.lookup x=none∧evl c ρ (e::rest) σ₁ (KK y))
  (kk:∀ s₁ vs y xs σ₁,c.Inv σ₁ s₁→c.Ev σ s σ₁ s₁→RepL g.w (c.F σ₁ s₁) vs (y::xs)→KK y xs σ₁→wpAny g.M c.A (call (.ref f) vs []) P c.E s₁)
  (hbase:attributeBase o x c.env (eval o c.env)=eval o c.env) (hline:(apos.endLine==pos.line)=true) (hp:(e::rest).all noStar=true) (hfew:decide ((e::rest).length < 30)=true) :
  wpAny g.M c.A (eval (.Call (.Attribute o x apos) (e::rest) [] pos) c.env) P c.E s:=by
 rw [arm_eval_Call,hbase]
 refine wpAny_bind (pg.use (h s st) (fun v s₁ y σ₁ i₁ e₁ r₁ qq=>?_))
 obtain ⟨a,C,d,m,hy,ha,hd,hk,hm,q⟩:=qq
 subst hy
 have r0:=r₁
 obtain rfl:=r₁.invObj
 obtain ⟨es,n,hdo,hes,_⟩:=i₁.objs d _ hd
 unfold methOk at hk
 simp only [Bool.and_eq_true,beq_iff_eq] at hk
 obtain ⟨⟨⟨k1,k2⟩,k3⟩,k4⟩:=hk
 refine wpAny_bind (wpAny_standAt ?_)
 have hform:methodCallForm ((e::rest).length+([]:List Keyword).length) (backTo pos (starEach (e::rest) c.env)) (backToKw pos (keywordEach [] c.env))=true:=by
  rw [starEach_plain hp]
  unfold methodCallForm
  simp only [Bool.and_eq_true]
  refine ⟨⟨?_,rfl⟩,?_⟩
  ·rw [List.all_map];simp
  ·rw [show backToKw pos (keywordEach [] c.env)=[] from rfl];simpa using hfew
 have hpos:methodCallPos true o c.env apos pos=pure pos:=by unfold methodCallPos;simp [hline]
 unfold methodCall
 rw [hform]
 refine wpAny_bind (wpAny_holding (method_fn (X_of X i₁) (inst_at i₁ ha hdo) k1 k2 k3 k4 ?_ ?_))
 ·show (lookIn x (dctO es n)).map _=_
  have:lookIn x (dctO es n)=some none:=by
   show getL x es=_
   unfold getL
   rw [att_none hes hm,att_refs hes];rfl
  rw [this];rfl
 ·refine wpAny_bind (wpAny_of_eq hpos ?_)
  exact callWith_gen (fx:=[.obj a]) (callee_K X ok) hp (st.ev i₁ e₁) (.cons r0 .nil) q fun s₂ vs xs σ₂ i₂ e₂ r₂ q₂=>kk s₂ vs (.obj a) xs σ₂ i₂ (e₁.trans e₂) r₂ q₂
theorem ev_methI {K:Frag} {o e:Expr} {rest:List Expr} {x:Str} {apos pos:Pos} {f:Addr} {Q:AV→Sto→Prop} (X:K.In g.H₀) (ok:fnOk K f=true)
  (h:ev c ρ o σ fun y σ₁=>∃ a C d m,y = .obj a∧σ₁ a=some (.inst C d)∧σ₁ d=some (.dct (atts m))∧methOk K C x f=true∧m.lookup x=none∧evl c ρ (e::rest) σ₁ fun xs σ₂=>cal c (.ref f) (y::xs) σ₂ Q)
  (hbase:attributeBase o x c.env (eval o c.env)=eval o c.env:=by rfl) (hline:(apos.endLine==pos.line)=true:=by rfl) (hp:(e::rest).all noStar=true:=by rfl) (hfew:decide ((e::rest).length < 30)=true:=by rfl) :
  ev c ρ (.Call (.Attribute o x apos) (e::rest) [] pos) σ Q:=fun s st =>
 methI_gen (KK:=fun y xs σ₂=>cal c (.ref f) (y::xs) σ₂ Q) X ok st h (fun s₁ vs y xs σ₁ i₁ e₁ r₁ q₁=>pg.use (q₁ s₁ _ i₁ r₁) (fun v s₃ z σ₃ i₃ e₃ r₃ q₃=>⟨z,σ₃,i₃,e₁.trans e₃,r₃,q₃⟩)) hbase hline hp hfew
theorem put_attr {prog:Program} {w:World} {A:Around} {E:Value→Shared→Prop} {s:Shared} {K:Frag} {a C d:Addr} {es:List DictEntry} {n:Nat} {x:Str} {v:Value} {Q:Unit→Shared→Prop} (X:K.In s.heap) (ha:s.heap.get? a=some { cls := .ref C,dict:=some d,data := .plain })
  (hd:s.heap.get? d=some (dctO es n)) (hk:putOk K C x=true) (hr:es.any (·.refKey)=false) (hz:(putL x (PyData.keyHash w.params x) (.str x (s.toks+1)) v es).length≤1000)
  (h:∀ h' n',h'.get? d=some (dctO (putL x (PyData.keyHash w.params x) (.str x (s.toks+1)) v es) n')→Heap.SameBut d s.heap h'→Q () { s with heap:=h',toks:=s.toks+2 }):wpAny (model prog w) A (setAttr (.ref a) x v) Q E s:=by
 unfold putOk at hk
 simp only [Bool.and_eq_true,beq_iff_eq] at hk
 obtain ⟨⟨⟨k1,k2⟩,k3⟩,k4⟩:=hk
 have I:InstAt s.heap a { cls := .ref C,dict:=some d,data := .plain } C (some (dctO es n)):=⟨ha,rfl,rfl,hd⟩
 obtain ⟨cd,hc,hdict⟩:=any_some k4
 refine set_plain X I k1 (osa_open (s:={ s with toks:=s.toks+1 }) X I k2 k3 fun b=>?_)
 refine wpAny_bind (wpAny_pure (wpAny_bind (wpAny_bind (wpAny_loadPart ha (wpAny_bind (Looks.here (s:={ s with toks:=s.toks+1 }) (looks_clsIn X hc) ?_))))))
 rw [hdict]
 refine wpAny_pure (a:=some d) (wpAny_bind (wpAny_pure (wpAny_bind ?_)))
 unfold nsSet
 refine wpAny_bind (wpAny_bind (wpAny_askSetting (wpAny_pure (wpAny_bind (wpAny_mkText (wpAny_bind (wpAny_loadPart hd ?_)))))))
 dsimp only
 have cc:(!es.toArray.any (·.key.isStr x) && es.toArray.any (·.refKey))=false:=by
  rw [← Array.any_toList,← Array.any_toList,hr,Bool.and_false]
 rw [aRefKeyMayBeTheName_at,cc]
 have D':=Heap.get?_update_self (Obj.putName x (PyData.keyHash w.params x) (.str x (s.toks+1)) v) hd (by rw [putName_dict];rfl)
 rw [putName_dict] at D'
 refine wpAny_updatePart hd ?_
 refine wpAny_bind (wpAny_lookBehind D' (pastItsLine_dict (by rw [List.size_toArray,sizeLine_eq];exact o40 hz)) ?_)
 exact wpAny_pure (h _ _ D' ⟨Heap.size_update ..,fun b hb=>Heap.get?_update_ne _ _ _ _ hb⟩)
theorem putL_len (x:Str) (h:Int) (k v:Value):∀ es:List DictEntry,(putL x h k v es).length≤es.length+1
 | []=>Nat.le_refl _
 | e::r=>by
  unfold putL
  split
  ·exact Nat.le_succ _
  ·exact Nat.succ_le_succ (putL_len x h k v r)
theorem es_setattr {K:Frag} {o value:Expr} {x:Str} {pos' pos:Pos} {Q:AFl→Rho→Sto→Prop} (X:K.In g.H₀)
  (h:ev c ρ value σ fun z σ₁=>ev c ρ o σ₁ fun y σ₂=>∃ a C d m,y = .obj a∧σ₂ a=some (.inst C d)∧σ₂ d=some (.dct (atts m))∧putOk K C x=true∧m.length≤99∧Q .next ρ (σ₂.set d (.dct (atts (mset m x z)))))
  (hw:swapsWith value (some (.Attribute o x pos')) pos.line c.env=pure false:=by rfl):es c ρ (exec (.Assign [.Attribute o x pos'] value pos) c.env) σ Q:=fun s hs=>by
 refine plainObj_wpAny_Assign_Attribute (pg.use (h s hs) (fun vz s₁ z σ₁ i₁ e₁ r₁ q₁=>?_)) hw
 refine pg.use (q₁ s₁ (hs.ev i₁ e₁)) (fun vy s₂ y σ₂ i₂ e₂ r₂ qq=>?_)
 obtain ⟨a,C,d,m,hy,ha,hd,hk,hz,q⟩:=qq
 subst hy
 obtain rfl:=r₂.invObj
 obtain ⟨es,n,hdo,hes,hok⟩:=i₂.objs d _ hd
 have hl:es.length≤99:=by have:=hes.length;unfold atts at this;rw [List.length_map] at this;exact o41 hz this
 refine put_attr (X_of X i₂) (i₂.objs a _ ha) hdo hk (att_refs hes) (Nat.le_trans (putL_len ..) (by exact o42 hl)) fun h' n' hd' hs'=>?_
 obtain ⟨j1,j2⟩:=store_upd (tk:=s₂.toks+2) (y := .dct (atts (mset m x z))) i₂ hd hs' ⟨_,n',hd',att_put (r₁.mono e₂.grow) hes,⟨atts_nodup hok.1,hok.2⟩⟩
 have e:=(e₁.trans e₂).trans j2
 exact ⟨_,ρ,_,hs.ev j1 e,e.toS hs.fr.sub,.next,q⟩
noncomputable def makeOk (K:Frag) (C f:Addr):Bool:=makesIn K C && findIn K (.ref C) "__init__" == some (some (.ref f)) && typeIn K (.ref f)==some (.type "function")
theorem make_gen {K:Frag} {C f:Addr} {xs:List AV} {P:Value→Shared→Prop} (X:K.In g.H₀) (ok:makeOk K C f=true) (hS:∃ f o,sysModules≤f∧g.H₀.get? f=some o) {s:Shared} {vs:List Value} (i:c.Inv σ s) (r:RepL g.w (c.F σ s) vs xs)
  (h:∀ a d,σ a=none→σ d=none→a≠d→∀ A',A'.depth=c.A.depth+1→A'.handled=c.A.handled→A'.units=c.A.units+1→A'.frames=c.A.frames→∀ s₂ vs',({ c with A:=A' }:Cx g).Inv ((σ.set d (.dct (atts []))).set a (.inst C d)) s₂→c.Ev σ s ((σ.set d (.dct (atts []))).set a (.inst C d)) s₂ →
   RepL g.w (c.F ((σ.set d (.dct (atts []))).set a (.inst C d)) s₂) vs' (.obj a::xs)→codeAny g.M A' (.call (.ref f) ⟨vs',[]⟩) (fun r s'=>match r with | .ok (.ret v)=>v = .none∧P (.ref a) s' | .ok _=>False | .error e=>c.E e s') s₂):wpAny g.M c.A (call (.ref C) vs []) P c.E s:=by
 unfold makeOk at ok
 simp only [Bool.and_eq_true,beq_iff_eq] at ok
 obtain ⟨⟨k1,k2⟩,k3⟩:=ok
 have X':=X_of X i
 obtain ⟨hh,gg,dd,t,os⟩:=s
 have Y:=makes_of (M:=g.M) X' k1
 refine wpAny_call (make_core Y (looks_findIn X' k2) (fun self=>bind_fn X' self k3) (.inl rfl) ?_)
 have hk:∀ b o,hh.get? b=some o→((hh.push emptyDict).push (instObj C hh.objs.size)).get? b=some o:=fun b o e=>push_keeps _ _ _ _ (push_keeps _ _ _ _ e)
 have hd1:((hh.push emptyDict).push (instObj C hh.objs.size)).get? hh.objs.size=some emptyDict:=push_keeps _ _ _ _ (Heap.get?_push_size _ rfl)
 have ha1:((hh.push emptyDict).push (instObj C hh.objs.size)).get? (hh.objs.size+1)=some (instObj C hh.objs.size):=by
  have:=Heap.get?_push_size (hh.push emptyDict) (o:=instObj C hh.objs.size) rfl
  rw [Heap.size_push] at this;exact this
 have f1:=i.fresh (a:=hh.objs.size) (Nat.le_refl _)
 have f2:=i.fresh (a:=hh.objs.size+1) (Nat.le_succ _)
 have hne:hh.objs.size+1≠hh.objs.size:=Nat.succ_ne_self _
 obtain ⟨j1,j2,j3⟩:c.Inv ((σ.set hh.objs.size (.dct (atts []))).set (hh.objs.size+1) (.inst C hh.objs.size)) ⟨(hh.push emptyDict).push (instObj C hh.objs.size),gg,dd,t,os⟩ ∧
   c.Ev σ ⟨hh,gg,dd,t,os⟩ ((σ.set hh.objs.size (.dct (atts []))).set (hh.objs.size+1) (.inst C hh.objs.size)) ⟨(hh.push emptyDict).push (instObj C hh.objs.size),gg,dd,t,os⟩∧True:=by
  have p1:=store_new (c:=c) (σ:=σ) (tk:=t) (D:=hh.objs.size) (x := .dct (atts [])) (h':=hh.push emptyDict) i (push_keeps _ _) (Nat.le_refl _) (fun F _=>⟨[],0,Heap.get?_push_size _ rfl,.nil,new_ok i hS List.nodup_nil⟩)
  have p2:=store_new (c:=c) (tk:=t) (D:=hh.objs.size+1) (x := .inst C hh.objs.size) (h':=(hh.push emptyDict).push (instObj C hh.objs.size)) p1.1 (push_keeps _ _) (by show (hh.push emptyDict).objs.size≤_;rw [Heap.size_push];exact Nat.le_refl _) (fun F _=>ha1)
  exact ⟨p2.1,p1.2.trans p2.2,trivial⟩
 have:=h (hh.objs.size+1) hh.objs.size f2.1 f1.1 hne (c.A.under (.builtin "type.__call__" ⟨.ref C::vs,[]⟩)) rfl rfl rfl rfl ⟨(hh.push emptyDict).push (instObj C hh.objs.size),gg,dd,t,os⟩ (.ref (hh.objs.size+1)::vs) j1 j2 (.cons (.obj _) (r.mono j2.grow))
 refine codeAny_mono this fun res s' z=>?_
 rcases res with e | (v | _ | _ | _)
 ·exact z
 ·exact z.elim
 ·exact z.elim
 ·exact z.elim
 ·exact z
theorem cal_make {K:Frag} {C f:Addr} {xs:List AV} {Q:AV→Sto→Prop} (X:K.In g.H₀) (ok:makeOk K C f=true) (hS:∃ f o,sysModules≤f∧g.H₀.get? f=some o)
  (h:∀ a d,σ a=none→σ d=none→a≠d→∀ c':Cx g,c'.A.depth=c.A.depth+1→c'.A.handled=c.A.handled→c'.A.units=c.A.units+1→calC c' (.ref f) (.obj a::xs) ((σ.set d (.dct (atts []))).set a (.inst C d)) fun z σ'=>z = .none∧Q (.obj a) σ'):cal c (.ref C) xs σ Q:=fun s vs i r =>
 make_gen X ok hS i r fun a d h1 h2 h3 A' k1 k2 k3 k4 s₂ vs' i₂ e₂ r₂=>codeAny_mono (h a d h1 h2 h3 { c with A:=A' } k1 k2 k3 s₂ vs' i₂ r₂) fun res s' z=>by
  rcases res with e | (v | _ | _ | _)
  ·exact z
  ·exact z.elim
  ·exact z.elim
  ·exact z.elim
  ·obtain ⟨y,σ',i',e',r',hy,q⟩:=z
   subst hy
   exact ⟨r'.invNone,.obj a,σ',⟨i'.keep,i'.objs,i'.off,i'.live,fun b hb=>i'.ns b (by show b∈nsOf A';unfold nsOf;rw [k4];exact hb),fun b hb=>i.nsub b hb⟩,e₂.trans e',.obj _,q⟩
end Mine
end
section
namespace Mine
open PySem PySem.W
variable {g:Gx} {c:Cx g} {ρ:Rho} {σ:Sto} {Q:AV→Sto→Prop}
theorem ev_globR {x pos v y} (hg:Glob g.H₀ x v) (hx:c.sc.names.lookup x=some .globalImplicit) (hr:∀ F:Fz,Rep g.w F v y) (q:Q y σ):ev c ρ (.Name x pos) σ Q:=fun s hs =>
 wpAny_mono (ev_glob (Q:=fun y' σ'=>y' = .raw v∧σ'=σ) hg hx ⟨rfl,rfl⟩ s hs) (fun u s' ⟨z,σ',i,e,r,hz,hs'⟩=>by
  subst hz;subst hs'
  obtain rfl:=r.invRaw
  exact ⟨y,σ',i,e,hr _,q⟩) fun _ _ e=>e
theorem ev_globI {K:Frag} {sc:Scope} {x:Str} {pos:Pos} {i:Int} {t:Tok} (T:TopG g K) (hsc:c.sc=sc) (hn:nsIn K mainGlobals x=some (some (.int i t))) (hx:sc.names.lookup x=some .globalImplicit) (q:Q (.int i) σ) (hd:(x==("__debug__":Str))=false:=by rfl):ev c ρ (.Name x pos) σ Q :=
 ev_globR (T.glob hn hd) (by rw [hsc];exact hx) (fun F => .int i t) q
theorem ev_globS {K:Frag} {sc:Scope} {x y:Str} {pos:Pos} {t:Tok} (T:TopG g K) (hsc:c.sc=sc) (hn:nsIn K mainGlobals x=some (some (.str y t))) (hx:sc.names.lookup x=some .globalImplicit) (q:Q (.str y) σ) (hd:(x==("__debug__":Str))=false:=by rfl):ev c ρ (.Name x pos) σ Q :=
 ev_globR (T.glob hn hd) (by rw [hsc];exact hx) (fun F => .str y t) q
theorem ev_bltN {K:Frag} {sc:Scope} {x:Str} {pos:Pos} {v:Value} (hv:PySem.bootBuiltins x=some v) (T:TopG g K) (hsc:c.sc=sc) (hn:nsIn K mainGlobals x=some none) (hx:sc.names.lookup x=some .globalImplicit) (q:Q (.raw v) σ) (hn':x ≠ "__name__" := by decide) (hd:(x==("__debug__":Str))=false:=by rfl):ev c ρ (.Name x pos) σ Q :=
 ev_glob (T.blt hn hv hn' hd) (by rw [hsc];exact hx) q
theorem ev_attrN {K:Frag} {a C d:Addr} {m:List (Str×AV)} {o x:Str} {po pos:Pos} {z:AV} (X:K.In g.H₀) (ho:MemR o (.obj a) ρ) (ha:σ a=some (.inst C d)) (hd:σ d=some (.dct (atts m))) (hk:attrOk K C x=true) (hm:m.lookup x=some z) (hz:noRaw z=true) (q:Q z σ)
  (he:eval (.Attribute (.Name o po) x pos) c.env=(do
   let v ← eval (.Name o po) c.env
   standAt pos.atName
   let r ← holding [v] (getAttr v x true)
   letTemporaryGo (.Name o po) v r
   pure r):=by with_unfolding_all rfl):ev c ρ (.Attribute (.Name o po) x pos) σ Q :=
 ev_attr X (ev_nm ho ⟨a,C,d,m,z,rfl,ha,hd,hk,hm,hz,q⟩) he
theorem ev_callC {K:Frag} {sc:Scope} {id:Str} {p pos:Pos} {e:Expr} {rest:List Expr} {f:Addr} (T:TopG g K) (hsc:c.sc=sc) (hn:nsIn K mainGlobals id=some (some (.ref f))) (hx:sc.names.lookup id=some .globalImplicit) (ok:keepIn K (.ref f)=true)
  (h:evl c ρ (e::rest) σ fun xs σ₁=>cal c (.ref f) xs σ₁ Q) (hd:(id==("__debug__":Str))=false:=by rfl) (hp:(e::rest).all noStar=true:=by rfl):ev c ρ (.Call (.Name id p) (e::rest) [] pos) σ Q :=
 ev_call (T.glob hn hd) (by rw [hsc];exact hx) (.keeps fun h hk=>keeps_K ok h (T.X.keeps hk)) h hp
theorem ev_Cmp2 {l m r o1 o2 pos} (h:ev c ρ l σ fun x σ₁=>ev c ρ m σ₁ fun y σ₂=>op2 c (compareOp o1) x y σ₂ fun z σ₃=>opb c truthy z σ₃ fun b σ₄=>br b (ev c ρ r σ₄ fun w σ₅=>op2 c (compareOp o2) y w σ₅ Q) (Q z σ₄))
  (hm:lastMarks [o1,o2] [m,r]=false:=by with_unfolding_all rfl):ev c ρ (.Compare l [o1,o2] [m,r] pos) σ Q:=fun s hs=>by
 refine PyProof.Rows.Compare_chain (pg.use (h s hs) (fun a s₁ x σ₁ i₁ e₁ r₁ q₁=>?_)) hm
 refine PyProof.Rows.chain_link (pg.use (q₁ s₁ (hs.ev i₁ e₁)) (fun b s₂ y σ₂ i₂ e₂ r₂ q₂=>?_))
 refine pg.use (q₂ s₂ a b i₂ (r₁.mono e₂.grow) r₂) (fun v s₃ z σ₃ i₃ e₃ r₃ q₃=>?_)
 refine pg.use (q₃ s₃ v i₃ r₃) (fun t s₄ bb σ₄ i₄ e₄ r₄ q₄=>?_)
 subst r₄
 have e04:=((e₁.trans e₂).trans e₃).trans e₄
 cases t
 ·exact ⟨z,σ₄,i₄,e04,r₃.mono e₄.grow,q₄.2 rfl⟩
 ·refine PyProof.Rows.chain_last (pg.use (q₄.1 rfl s₄ (hs.ev i₄ e04)) (fun w' s₅ w σ₅ i₅ e₅ r₅ q₅=>?_))
  exact pg.use (q₅ s₅ b w' i₅ (r₂.mono ((e₃.trans e₄).trans e₅).grow) r₅) (fun v s₆ z' σ₆ i₆ e₆ r₆ q₆=>⟨z',σ₆,i₆,(e04.trans e₅).trans e₆,r₆,q₆⟩)
theorem evb_Cmp2 {l m r o1 o2 pos} {Q:Bool→Sto→Prop} (h:ev c ρ l σ fun x σ₁=>ev c ρ m σ₁ fun y σ₂=>op2 c (compareOp o1) x y σ₂ fun z σ₃=>opb c truthy z σ₃ fun b σ₄=>br b (ev c ρ r σ₄ fun w σ₅=>op2 c (compareOp o2) y w σ₅ fun z' σ₆=>opb c truthy z' σ₆ Q) (Q false σ₄))
  (hm:lastMarks [o1,o2] [m,r]=false:=by with_unfolding_all rfl):evb c ρ (.Compare l [o1,o2] [m,r] pos) σ Q:=fun s hs=>by
 refine PyProof.Rows.isTrue_chain (pg.use (h s hs) (fun a s₁ x σ₁ i₁ e₁ r₁ q₁=>?_)) hm
 refine PyProof.Rows.test_link (pg.use (q₁ s₁ (hs.ev i₁ e₁)) (fun b s₂ y σ₂ i₂ e₂ r₂ q₂=>?_))
 refine pg.use (q₂ s₂ a b i₂ (r₁.mono e₂.grow) r₂) (fun v s₃ z σ₃ i₃ e₃ r₃ q₃=>?_)
 refine pg.use (q₃ s₃ v i₃ r₃) (fun t s₄ bb σ₄ i₄ e₄ r₄ q₄=>?_)
 subst r₄
 have e04:=((e₁.trans e₂).trans e₃).trans e₄
 cases t
 ·exact ⟨false,σ₄,i₄,e04,rfl,q₄.2 rfl⟩
 ·refine PyProof.Rows.test_last (pg.use (q₄.1 rfl s₄ (hs.ev i₄ e04)) (fun w' s₅ w σ₅ i₅ e₅ r₅ q₅=>?_))
  refine pg.use (q₅ s₅ b w' i₅ (r₂.mono ((e₃.trans e₄).trans e₅).grow) r₅) (fun v s₆ z' σ₆ i₆ e₆ r₆ q₆=>?_)
  exact pg.use (q₆ s₆ v i₆ r₆) (fun v s₇ z' σ₇ i₇ e₇ r₇ q₇=>⟨z',σ₇,i₇,((e04.trans e₅).trans e₆).trans e₇,r₇,q₇⟩)
theorem ev_neg {e:Expr} {pos:Pos} (h:ev c ρ e σ fun x σ₁=>∃ i,x = .int i∧Q (.int (-i)) σ₁):ev c ρ (.UnaryOp .USub e pos) σ Q:=fun s hs=>by
 refine wpAny_UnaryOp (pg.use (h s hs) (fun v s₁ x σ₁ i₁ e₁ r₁ qq=>?_))
 obtain ⟨i,hx,q₁⟩:=qq
 subst hx
 obtain ⟨_,rfl⟩:=r₁.invInt
 exact PyProof.Rows.neg_int ⟨_,σ₁,i₁.toks _,e₁.trans (.toks ..),.int _ _,q₁⟩
theorem cal_isInt {i:Int} (q:Q (.bool true) σ):cal c (.builtin "isinstance") [.int i,.raw (.type "int")] σ Q:=fun s vs iv r=>by
 obtain ⟨_,_,rfl,r1,r2⟩:=r.two;obtain ⟨_,rfl⟩:=r1.invInt;obtain rfl:=r2.invRaw
 exact PyProof.Rows.call_isinstance_yes (Tx := "int") (typeIs_int s i _) (by kernel_rfl) (by rw [isSubtype_type];kernel_rfl) ⟨_,σ,iv,.refl ..,.bool _,q⟩
theorem cal_isBool {i:Int} (q:Q (.bool false) σ):cal c (.builtin "isinstance") [.int i,.raw (.type "bool")] σ Q:=fun s vs iv r=>by
 obtain ⟨_,_,rfl,r1,r2⟩:=r.two;obtain ⟨_,rfl⟩:=r1.invInt;obtain rfl:=r2.invRaw
 exact call_isinstance (isinstance_false_int (T := "bool") (by decide) (by kernel_rfl) (by rw [isSubtype_type];kernel_rfl)) ⟨_,σ,iv.toks _,.toks ..,.bool _,q⟩
theorem cal_isTup {l:List AV} (q:Q (.bool true) σ):cal c (.builtin "isinstance") [.tup l,.raw (.type "tuple")] σ Q:=fun s vs iv r=>by
 obtain ⟨_,_,rfl,r1,r2⟩:=r.two;obtain rfl:=r2.invRaw
 obtain ⟨_,_,_,rfl,h,_⟩:=r1.invTup
 exact PyProof.Rows.call_isinstance_yes (Tx := "tuple") ⟨_,(fz_eq.mp h).2.2,rfl⟩ (by kernel_rfl) (by rw [isSubtype_type];kernel_rfl) ⟨_,σ,iv,.refl ..,.bool _,q⟩
theorem iter_str (hh:c.A.handled=none) {x:Str} (ha:x.cps.all (· < 128)=true):Iter c (.str x) (x.cps.toList.map fun d => .str ⟨#[d]⟩):=fun σ s v i r E=>by
 obtain ⟨_,rfl⟩:=r.invStr
 have hlen:(x.cps.toList.map fun d=>AV.str ⟨#[d]⟩).length=x.cps.size:=by simp
 refine wpAny_pyIter_ascii ha ⟨s.heap.objs.size,[s.heap.objs.size],SignAt x,_,rfl,hlen ▸ Walks.strAscii hh _ x _,⟨_,Heap.get?_push_size _ rfl,rfl,rfl⟩,⟨_,s.toks,rfl⟩,push_keeps _ _,Nat.le_refl _,(fun _ _ hx=>let ⟨o,ho,hc,hd⟩:=hx;⟨o,ho,itOk_of hc rfl hd⟩),?_,?_⟩
 ·intro b hb;exact .inl (List.mem_singleton.mp hb)
 ·rintro i u hi ⟨d,t,hd,rfl⟩
  exact ⟨.str ⟨#[d]⟩,by simpa using hd,.str _ _⟩
theorem cmp_ins {x y:Str} (q:Q (.bool (!(Builtin.Str.occurrences x y 0 x.length 1).isEmpty)) σ):op2 c (compareOp .In) (.str y) (.str x) σ Q:=fun s u v i r1 r2=>by
 obtain ⟨_,rfl⟩:=r1.invStr;obtain ⟨_,rfl⟩:=r2.invStr
 exact PyProof.Rows.in_str ⟨_,σ,i,.refl ..,.bool _,q⟩
theorem cal_all (hh:c.A.handled=none) {bs:List Bool} (q:Q (.bool (bs.all id)) σ):cal c (.builtin "all") [.list (bs.map .bool)] σ Q:=fun s vs i r=>by
 obtain ⟨_,rfl,r1⟩:=r.one
 obtain ⟨a,us,n,rfl,hF,hr⟩:=r1.invList
 obtain ⟨_,_,ho⟩:=fz_eq.mp hF
 have hl:s.heap.IsList a us.toArray:=⟨_,ho,rfl,n,rfl⟩
 have hlen:us.toArray.size=bs.length:=by rw [List.size_toArray];simpa using hr.length
 refine call_all_walk (wpAny_pyIter_list hl ⟨s.heap.objs.size,[s.heap.objs.size,a],[s.heap.objs.size],us.toArray.size,fun i v=>us.toArray[i]?=some v,_,fun j=>(bs[j]?).getD true,rfl,Walks.list (A:=c.A.in1) hh s.heap.objs.size a (Nat.ne_of_lt (Heap.lt_size ho)) us.toArray,?_,?_,?_⟩)
 ·exact ⟨⟨_,Heap.get?_push_size _ rfl,rfl,rfl⟩,⟨_,push_keeps _ _ _ _ ho,rfl,n,rfl⟩⟩
 ·intro j v s' Q' E' hv hq
  obtain ⟨z,h1,h2⟩:=hr.get' (i:=j) (v:=v) (by simpa using hv)
  rw [List.getElem?_map] at h1
  obtain ⟨b,hb,rfl⟩:=Option.map_eq_some_iff.mp h1
  rw [h2.invBool]
  have hq':Q' ((bs[j]?).getD true) s':=hq
  rw [hb] at hq'
  exact wpAny_truthy_bool hq'
 ·intro h' tk hk
  have hk':∀ b o,s.heap.get? b=some o→h'.get? b=some o:=fun b o e=>hk b o (by
   intro hm
   rw [List.mem_singleton] at hm
   exact absurd (Heap.lt_size e) (by rw [hm];exact Nat.lt_irrefl _)) (push_keeps _ _ _ _ e)
  have e:(List.range us.toArray.size).all (fun j=>(bs[j]?).getD true)=bs.all id:=by
   rw [hlen]
   clear q hr hlen r1 r
   induction bs with
   | nil=>rfl
   | cons b bs ih =>
    rw [List.length_cons,List.range_succ_eq_map,List.all_cons,List.all_map,List.all_cons,← ih]
    rfl
  rw [e]
  exact ⟨_,σ,i.keeps (t:=tk) hk',.keeps (t:=tk) hk',.bool _,q⟩
theorem cal_extend {a:Addr} {l m:List AV} {y:AV} (ha:σ a=some (.lst l)) (hy:Seq σ y m) (hne:y ≠ .obj a) (hz:l.length+m.length≤sizeLine) (q:Q .none (σ.set a (.lst (l++m)))):cal c (.builtin "list.extend") [.obj a,y] σ Q:=fun s vs i r=>by
 obtain ⟨_,_,rfl,r1,r2⟩:=r.two;obtain rfl:=r1.invObj
 obtain ⟨us,n,e,hr⟩:=i.objs a _ ha
 obtain ⟨b,ws,k,rfl,hg,hw⟩:=hy.heap i r2
 refine call_meets F.slot_list_extend ⟨_,e,rfl⟩ F.entry_list_extend (F.args_list_extend_2 _ _) (AutoSeq1.list_extend_list_list_0 a us.toArray n b ws.toArray k ?_ ?_ ?_) ⟨e,hg,?_⟩
 ·exact PyProof.Rows.extend_door (by rw [List.size_toArray,List.size_toArray,hr.length,hw.length];exact hz)
 ·rw [List.size_toArray,hr.length];exact Nat.le_trans (Nat.le_add_right _ _) hz
 ·rw [List.size_toArray,List.size_toArray,hr.length,hw.length];exact Nat.le_succ_of_le hz
 ·have hs:Heap.SameBut a s.heap (s.heap.update a (Obj.mapSeq fun x=>x++ws.toArray)):=⟨Heap.size_update ..,fun b hb=>Heap.get?_update_ne _ _ _ _ hb⟩
  have hn:=Heap.get?_update_self (Obj.mapSeq fun x=>x++ws.toArray) e rfl
  obtain ⟨h1,h2⟩:=store_upd (tk:=s.toks) (y := .lst (l++m)) i ha hs ⟨us++ws,if ws=[] then n else n+1,by rw [hn];simp [Obj.mapSeq],hr.append hw⟩
  exact ⟨.none,_,h1,h2,.none,q⟩
theorem sub_tup {value slice:Expr} {l:List AV} {k:Int} {j:Nat} {y:AV} (hlo : -(2 ^ 63)≤k) (hhi:k < 2 ^ 63) (hj:seqIndex? k l.length=some j) (hy:l[j]?=some y) (q:Q y σ) (hn:noSlice slice=true:=by rfl):subT c value slice (.tup l) (.int k) σ Q:=fun s a b i r1 r2=>by
 obtain ⟨_,rfl⟩:=r2.invInt
 obtain ⟨t,vs,n,rfl,hF,hr⟩:=r1.invTup
 obtain ⟨u,h1,h2⟩:=hr.get hy
 exact PyProof.Rows.item_tupleT ⟨_,fz_sub _ _ hF,rfl,n,rfl⟩ hlo hhi (by rw [hr.length];exact hj) h1 ⟨y,σ,i,.refl ..,h2,q⟩ (subscripted_plain hn _ _)
theorem adjust_init (n:Nat) (hn:1≤n):Builtin.Slice.sliceAdjust none (some (-1)) 1 (n:Int)=(0,((n - 1:Nat):Int)):=by
 unfold Builtin.Slice.sliceAdjust
 simp only [show ¬ ((1:Int) < 0) by exact o43,show ((-1:Int) < 0) by exact o44,if_false,if_true]
 congr 1
 omega
theorem places_init (n:Nat):Builtin.Slice.slicePlaces 0 ((n - 1:Nat):Int) 1=n - 1:=by
 unfold Builtin.Slice.slicePlaces
 simp only [show (1:Int) > 0 by exact o45,if_true,Int.ediv_one]
 split <;> omega
theorem pick_init (xs:List Value) (m:Nat):((List.range m).filterMap fun (k:Nat)=>xs.toArray[((0:Int)+(k:Int) * 1).toNat]?).toArray=(xs.take m).toArray:=by
 congr 1
 induction m with
 | zero=>simp
 | succ m ih =>
  rw [List.range_succ,List.filterMap_append,ih,List.take_succ]
  congr 1
  have:((0:Int)+(m:Int) * 1).toNat=m:=by omega
  simp only [List.filterMap_cons,List.filterMap_nil,this,List.getElem?_toArray]
  cases xs[m]? <;> rfl
section
variable {prog:Program} {w:World} {A:Around} {E:Value→Shared→Prop} {s:Shared}
theorem getItem_tuple_init {t sl:Addr} {xs:List Value} {u:Tok} {Q:Value→Shared→Prop} (ht:PyProof.Rows.IsTup s.heap t xs.toArray) (hs:s.heap.IsSliceOf sl .none (.int (-1) u) .none) (h1:1≤xs.length) (hsz:xs.length≤sizeLine)
  (h:Q (.ref s.heap.objs.size) { s with heap:=s.heap.push (tupO (xs.take (xs.length - 1)) 0) }):wpAny (model prog w) A (getItem (.ref t) (.ref sl)) Q E s:=by
 obtain ⟨os,hos,hcs,hds⟩:=id hs
 have hTs:s.TypeIs (.ref sl) "slice" := ⟨os,hos,hcs⟩
 have hok:sizeOk (.seq (xs.take (xs.length - 1)).toArray):=by
  show (xs.take (xs.length - 1)).toArray.size≤sizeLine
  rw [List.size_toArray,List.length_take];omega
 unfold getItem
 refine wpAny_holding ?_
 refine wpAny_bind (wpAny_sequenceKey ht.typeIs (by decide) ?_)
 refine wpAny_bind (wpAny_callSpecial?_slot (name:=Str.ofString "__getitem__") ht.typeIs PyProof.Rows.slot_tuple_getitem (wpAny_call_entry PyProof.Rows.slot_tuple_getitem ht.typeIs PyProof.Rows.entry_tuple_getitem ?_ (PyProof.Rows.args_tuple_getitem _ _)))
 show wpAny _ _ (Builtin.Tuple.tupleItemsOf (.ref t) >>= _) _ _ s
 refine wpAny_bind (PyProof.Rows.tupleItemsOf_ ht ?_)
 refine wpAny_bind (wpAny_typeOf hTs ?_)
 rw [if_pos (by decide)]
 refine wpAny_bind ?_
 unfold Builtin.Slice.sliceApplied Builtin.Slice.sliceFields
 refine wpAny_bind (wpAny_bind (wpAny_field hos hds (x := .none) rfl (wpAny_bind (wpAny_field hos hds (x := .int (-1) u) rfl (wpAny_bind (wpAny_field hos hds (x := .none) rfl (wpAny_pure ?_)))))))
 refine wpAny_bind (PyProof.Rows.slicePart_none ?_)
 show wpAny _ _ (if ((1:Int)==0)=true then _ else _) _ _ s
 rw [if_neg (by decide)]
 refine wpAny_bind (PyProof.Rows.slicePart_none (wpAny_bind (PyProof.Rows.slicePart_int (wpAny_bind (wpAny_pure ?_)))))
 show wpAny _ _ (match Builtin.Slice.sliceAdjust none (some (-1)) 1 ((xs.toArray.size:Nat):Int) with | (lo,hi)=>pure (lo,(1:Int),Builtin.Slice.slicePlaces lo hi 1)) _ _ s
 rw [List.size_toArray,adjust_init _ h1]
 show wpAny _ _ (pure ((0:Int),(1:Int),Builtin.Slice.slicePlaces 0 ((xs.length - 1:Nat):Int) 1)) _ _ s
 rw [places_init]
 refine wpAny_pure ?_
 have hno:¬ (((0:Int)==0 && (1:Int)==1 && (xs.length - 1)==xs.toArray.size)=true):=by
  rw [List.size_toArray]
  simp only [beq_self_eq_true,Bool.true_and,beq_iff_eq];omega
 show wpAny _ _ (if ((0:Int)==0 && (1:Int)==1 && (xs.length - 1)==xs.toArray.size)=true then _ else _) _ _ s
 rw [if_neg hno,pick_init]
 first
  | exact wpAny_bind (m:=Builtin.Tuple.tupleExact _) (wpAny_newObj_type (wpAny_pure ⟨_,rfl,wpAny_pure h⟩) hok)
  | exact wpAny_bind (wpAny_bind (m:=Builtin.Tuple.tupleExact _) (wpAny_newObj_type (wpAny_pure (wpAny_pure ⟨_,rfl,wpAny_pure h⟩)) hok))
  | exact wpAny_bind (wpAny_bind (m:=Builtin.Tuple.tupleExact _) (wpAny_newObj_type (wpAny_pure ⟨_,rfl,wpAny_pure h⟩) hok))
end
theorem ev_init {value upper:Expr} {p pos:Pos} (h:ev c ρ value σ fun x σ₁=>ev c ρ upper σ₁ fun y σ₂=>∃ l,x = .tup l∧y = .int (-1)∧1≤l.length∧l.length≤1000∧Q (.tup (l.take (l.length - 1))) σ₂)
  (ht:∀ o r,letTemporaryGo value o r=pure ():=by intro _ _;rfl):ev c ρ (.Subscript value (.Slice none (some upper) none p) pos) σ Q:=fun s hs=>by
 refine wpAny_Subscript_Slice (T := "tuple") PyProof.Rows.slot_tuple_getitem.lookup (pg.use (h s hs) (fun vx s₁ x σ₁ i₁ e₁ r₁ q₁=>wpAny_Slice ?_)) ht
 rw [evalPart_none]
 refine wpAny_pure ?_
 show wpAny _ _ (evalPart (some upper) c.env) _ _ _
 refine pg.use (q₁ s₁ (hs.ev i₁ e₁)) (fun vy s₂ y σ₂ i₂ e₂ r₂ qq=>?_)
 obtain ⟨l,hx,hy,hl,hz,q₂⟩:=qq
 refine wpAny_pure ?_
 subst hx;subst hy
 obtain ⟨u,rfl⟩:=r₂.invInt
 obtain ⟨t,vs,n,rfl,hF,hr⟩:=(r₁.mono e₂.grow).invTup
 ·skip
  have hT:PyProof.Rows.IsTup s₂.heap t vs.toArray:=⟨_,fz_sub _ _ hF,rfl,n,rfl⟩
  have hT':=hT.keeps (h':=s₂.heap.push { cls := .type "slice", data := .fields #[.none,.int (-1) u,.none] }) fun _ _ e=>Heap.get?_push_of_some _ e
  have hlen:=hr.length
  refine ⟨hT'.typeIs,getItem_tuple_init hT' (Heap.IsSliceOf.new ..) (by exact o46 hl hz hlen) (by rw [sizeLine_eq];exact o47 hl hz hlen) ?_⟩
  have hk:∀ b o,s₂.heap.get? b=some o→((s₂.heap.push { cls := .type "slice", data := .fields #[.none,.int (-1) u,.none] }).push (tupO (vs.take (vs.length - 1)) 0)).get? b=some o:=fun b o e=>push_keeps _ _ _ _ (push_keeps _ _ _ _ e)
  have hn:=i₂.fresh (a:=s₂.heap.objs.size+1) (Nat.le_succ _)
  refine ⟨.tup (l.take (l.length - 1)),σ₂,i₂.keeps (t:=s₂.toks) hk,(e₁.trans e₂).trans (.keeps (t:=s₂.toks) hk),?_,q₂⟩
  rw [Heap.size_push]
  refine .tup (n:=0) (vs:=vs.take (vs.length - 1)) (fz_eq.mpr ⟨hn.1,hn.2,?_⟩) ?_
  ·have:=Heap.get?_push_size (s₂.heap.push { cls := .type "slice", data := .fields #[.none,.int (-1) u,.none] }) (o:=tupO (vs.take (vs.length - 1)) 0) rfl
   rw [Heap.size_push] at this;exact this
  ·have:=(hr.take (vs.length - 1)).mono (keep_fz (own:=c.own) (σ:=σ₂) hk)
   rw [show l.length - 1=vs.length - 1 by rw [hlen]]
   exact this
theorem es_for2 {a b:Str} {pa pb tpos:Pos} {k:Nat} {iter:Expr} {body:List Stmt} {pos:Pos} {Q:AFl→Rho→Sto→Prop} (J:List AV→Rho→Sto→Prop) (hfn:c.isFn=true) (hh:c.A.handled=none)
  (h:ev c ρ iter σ fun y σ₁=>∃ l,Iter c y l∧J l ρ σ₁)
  (turn:∀ c':Cx g,c'.A=c.A→c'.sc=c.sc→c'.isFn=true→∀ y rest ρ₁ σ₁,J (y::rest) ρ₁ σ₁→∃ u v ρ₂ ρ₃,y = .tup [u,v]∧Upd a u ρ₁ ρ₂∧Upd b v ρ₂ ρ₃∧es c' ρ₃ (execs body c'.env) σ₁ (trn Q (J rest)))
  (done:∀ ρ₁ σ₁,J [] ρ₁ σ₁→Q .next ρ₁ σ₁)
  (hs:∀ x,foldedSetIterable iter c.env x=pure x:=by intro _;rfl):es c ρ (exec (.For (.Tuple [.Name a pa,.Name b pb] k tpos) iter body [] pos) c.env) σ Q :=
 es_forG (fun y ρ₁ ρ₃=>∃ u v ρ₂,y = .tup [u,v]∧Upd a u ρ₁ ρ₂∧Upd b v ρ₂ ρ₃) J (fun c' hs' _ _ _ _ _ _ _ _ st ⟨u,v,ρ₂,hy,u1,u2⟩ r q=>by
   subst hy
   exact assign2 st (by rw [hs'.A];exact hh) (hs'.fn.trans hfn) u1 u2 r q) h
  (fun c' hs' y rest ρ₁ σ₁ hJ=>by
   obtain ⟨u,v,ρ₂,ρ₃,hy,u1,u2,hb⟩:=turn c' hs'.A hs'.sc (hs'.fn.trans hfn) y rest ρ₁ σ₁ hJ
   exact ⟨ρ₃,⟨u,v,ρ₂,hy,u1,u2⟩,hb⟩) done hs
theorem es_while {test:Expr} {body:List Stmt} {pos:Pos} {Q:AFl→Rho→Sto→Prop} (J:Nat→Rho→Sto→Prop) (n₀:Nat) (hJ:J n₀ ρ σ)
  (turn:∀ c':Cx g,c'.A=c.A→c'.sc=c.sc→c'.isFn=c.isFn→∀ n ρ₁ σ₁,J n ρ₁ σ₁→evb c' ρ₁ test σ₁ fun b σ₂=>br b (es c' ρ₁ (execs body c'.env) σ₂ fun fl ρ' σ'=>fl = .next∧∃ m ρ'',m < n∧Wk ρ'' ρ'∧J m ρ'' σ') (Q .next ρ₁ σ₂)) :
  es c ρ (exec (.While test body [] pos) c.env) σ Q:=fun s st=>by
 refine wpAny_While (codeAny_whileLoop (fun n s'=>∃ ρ' σ',St c ρ' σ' s'∧EvS c σ s σ' s'∧J n ρ' σ') ?_ n₀ ⟨ρ,σ,st,.refl ..,hJ⟩)
 rintro n s' ⟨ρ₁,σ₁,st₁,ev₁,hJ₁⟩
 generalize hE:(notedBy g.M c.A c.env fun e s'=>cameBackBy g.M c.A c.env c.E e s')=E'
 let c':Cx g:={ c with E:=E' }
 have st':St c' ρ₁ σ₁ s':=⟨st₁.inv,⟨st₁.fr.sc,st₁.fr.wr,st₁.fr.kind,st₁.fr.glob,st₁.fr.blt,st₁.fr.loc,st₁.fr.loc',st₁.fr.sub,st₁.fr.cells,st₁.fr.apart,st₁.fr.kinds,st₁.fr.nodup⟩,st₁.ns,st₁.cl⟩
 refine pg.use (turn c' rfl rfl rfl n ρ₁ σ₁ hJ₁ s' st') (fun b s₂ b' σ₂ i₂ e₂ r₂ q₂=>?_)
 subst r₂
 have st₂:=st₁.ev i₂ e₂
 have ev₂:EvS c σ s σ₂ s₂:=ev₁.trans (Ev.toS (show c.Ev σ₁ s' σ₂ s₂ from e₂) st₁.fr.sub)
 cases b
 ·rw [if_neg (by decide)]
  exact wpAny_execs_nil ⟨_,ρ₁,σ₂,st₂,ev₂,.next,q₂.2 rfl⟩
 ·rw [if_pos rfl]
  refine wpAny_mono (q₂.1 rfl s₂ (st'.ev i₂ e₂)) (fun f s₃ q_=>?_) fun _ _ e=>e
  obtain ⟨fl,ρ₃,σ₃,st₃,ev₃,rf,hfl,m,ρ'',hm,hw,hJ'⟩:=q_
  subst hfl
  cases rf
  have st₃':St c ρ₃ σ₃ s₃:=⟨st₃.inv,⟨st₃.fr.sc,st₃.fr.wr,st₃.fr.kind,st₃.fr.glob,st₃.fr.blt,st₃.fr.loc,st₃.fr.loc',st₃.fr.sub,st₃.fr.cells,st₃.fr.apart,st₃.fr.kinds,st₃.fr.nodup⟩,st₃.ns,st₃.cl⟩
  exact ⟨m,hm,ρ'',σ₃,st₃'.wk hw,ev₂.trans ⟨ev₃.same,ev₃.grow,ev₃.hid⟩,hJ'⟩
end Mine
end
section
open PySem PySem.W Mine
namespace Mine
variable {g:Gx} {c:Cx g} {ρ:Rho} {σ:Sto}
inductive FrzA (a:Addr) (y:AV):List AV→List AV→Prop
 | nil:FrzA a y [] []
 | hit {r r':List AV}:FrzA a y r r'→FrzA a y (.obj a::r) (y::r')
 | skip {p:AV} {r r':List AV}:FrzA a y r r'→FrzA a y (p::r) (p::r')
noncomputable abbrev Cx.lent (c:Cx g) (own':List Addr):Cx g:=⟨c.A,c.env,own',c.hid,c.E,c.sc,c.isFn⟩
section
variable {Q:AV→Sto→Prop}
theorem RepL.of {w:World} {F:Fz}:∀ {vs:List Value} {l:List AV},vs.length=l.length→(∀ (j:Nat) v x,vs[j]?=some v→l[j]?=some x→Rep w F v x)→RepL w F vs l
 | [],[],_,_ => .nil
 | v::vs,x::l,h,f => .cons (f 0 v x rfl rfl) (RepL.of (by simpa using h) fun j v x h1 h2=>f (j+1) v x (by simpa using h1) (by simpa using h2))
theorem cal_listT {l:List AV} (hz:l.length≤sizeLine) (q:Made Q l σ):cal c (.type "list") [.tup l] σ Q:=fun s vs i r=>by
 obtain ⟨_,rfl,r1⟩:=r.one
 obtain ⟨a,us,n,rfl,hF,hv⟩:=r1.invTup
 refine call_list_seq a (T := "tuple") (.inr rfl) (fz_eq.mp hF).2.2 rfl rfl (fun h' c' hk hn=>?_) (by rw [List.size_toArray,hv.length];exact hz)
 exact made_list (tk:=s.toks) i hk (Nat.le_refl _) hn hv q
theorem cal_isDict {l:List (AV×AV)} (q:Q (.bool true) σ):cal c (.builtin "isinstance") [.dict l,.raw (.type "dict")] σ Q:=fun s vs iv r=>by
 obtain ⟨_,_,rfl,r1,r2⟩:=r.two;obtain rfl:=r2.invRaw
 obtain ⟨_,_,_,rfl,hF,_,_⟩:=r1.invDict
 exact PyProof.Rows.call_isinstance_yes (Tx := "dict") ⟨_,(fz_eq.mp hF).2.2,rfl⟩ (by kernel_rfl) (by rw [isSubtype_type];kernel_rfl) ⟨_,σ,iv,.refl ..,.bool _,q⟩
end
end Mine
end
section
open PySem PySem.W Mine
namespace Mine
variable {g:Gx} {c:Cx g} {ρ:Rho} {σ:Sto}
theorem Inv.drop {w:World} {H₀:Heap} {N own:List Addr} {σ':Sto} {s:Shared} (i:Inv w H₀ N own σ s) (h:∀ b,σ' b=none∨σ' b=σ b):Inv w H₀ N own σ' s∧(fz s.heap own σ).le (fz s.heap own σ'):=by
 have le:(fz s.heap own σ).le (fz s.heap own σ'):=fun b o e=>by
  obtain ⟨e1,e2,e3⟩:=fz_eq.mp e
  exact fz_eq.mpr ⟨(h b).elim id fun q=>q.trans e1,e2,e3⟩
 refine ⟨⟨fun b o e=>le b o (i.keep b o e),fun a x e=>?_,fun a ha=>(h a).elim id fun q=>q.trans (i.off a ha),i.live,i.ns,i.nsub⟩,le⟩
 rcases h a with q | q
 ·rw [q] at e;cases e
 ·exact (i.objs a x (q ▸ e)).mono le fun _ e=>e
theorem es_ret_freezeE {e pos} {Q:AFl→Rho→Sto→Prop} (h:ev c ρ e σ fun x σ'=>∃ (E:List Addr) (f:Addr→List (AV×AV)) (σ'':Sto),x = .list (E.map .obj)∧(∀ e∈E,σ' e=some (.dct (f e))∧σ'' e=none)∧(∀ b,σ'' b=none∨σ'' b=σ' b)∧Q (.ret (.list (E.map fun e => .dict (f e)))) ρ σ''):es c ρ (exec (.Return (some e) pos) c.env) σ Q:=fun s hs=>by
 refine wpAny_Return_some (wpAny_mono (h s hs) (fun v s₁ hq=>?_) fun _ _ e=>e)
 obtain ⟨x,σ₁,i₁,e₁,r₁,E,f,σ₂,rfl,hE,hd,q⟩:=hq
 have st₁:=hs.ev i₁ e₁
 obtain ⟨i₂,le⟩:=i₁.drop hd
 have st₂:St c ρ σ₂ s₁:=by
  refine ⟨i₂,hs.fr,?_,fun z b hk hb=>?_⟩
  ·obtain ⟨m,hn,hm⟩:=st₁.ns
   exact ⟨m,hn,fun z v hz hk=>(hm z v hz hk).imp fun _ q=>⟨q.1,q.2.mono le⟩⟩
  ·obtain ⟨vo,h1,h2⟩:=st₁.cl z b hk hb
   exact ⟨vo,h1,fun v hz=>(h2 v hz).imp fun _ q=>⟨q.1,q.2.mono le⟩⟩
 have e₂:=e₁.toS hs.fr.sub
 obtain ⟨a,vs,n,rfl,hF,hr⟩:=r₁.invList
 refine ⟨_,ρ,σ₂,st₂,⟨e₂.same,e₂.grow.trans le,e₂.hid⟩,.ret (.list (le _ _ hF) ?_),q⟩
 refine RepL.of (by rw [hr.length,List.length_map,List.length_map]) fun j v x hv hx=>?_
 obtain ⟨y,hy,ry⟩:=hr.get' hv
 rw [List.getElem?_map,Option.map_eq_some_iff] at hx hy
 obtain ⟨e1,h1,rfl⟩:=hx
 obtain ⟨e2,h2,rfl⟩:=hy
 rw [h1] at h2
 injection h2 with h2
 subst h2
 obtain rfl:=ry.invObj
 obtain ⟨f1,f2⟩:=hE e1 (List.mem_of_getElem? h1)
 obtain ⟨es,n,g1,g2,g3⟩:=i₁.objs _ _ f1
 have hno:e1∉c.own:=fun hm=>by rw [i₁.off _ hm] at f1;cases f1
 exact .dict (fz_eq.mpr ⟨f2,hno,g1⟩) (g2.mono le) g3
end Mine
end
section
namespace Mine
open PySem
noncomputable def wo (h:Heap) (J:List Addr):Heap:=⟨h.objs.mapIdx fun i o=>if i∈J then { o with data := .freed } else o,h.life⟩
theorem wo_none {h:Heap} {J:List Addr} {a:Addr} (hj:a∈J):(wo h J).get? a=none:=by
 unfold wo Heap.get?
 simp only [Array.getElem?_mapIdx]
 cases h.objs[a]? with
 | none=>rfl
 | some o=>simp [hj]
theorem wo_get {h:Heap} {J:List Addr} {a:Addr} (hj:a∉J):(wo h J).get? a=h.get? a:=by
 unfold wo Heap.get?
 simp only [Array.getElem?_mapIdx]
 cases h.objs[a]? with
 | none=>rfl
 | some o=>simp [hj]
inductive Md where
 | new | fly
 | held (L:Addr)
noncomputable def Form (base:Heap) (e C:Addr) (h:Heap):Md→Prop
 | .new=>∃ oe vs a0,h.get? e=some oe∧oe.cls = .ref C∧oe.data = .fields vs∧vs[0]?=some a0∧vs[1]?=some .none
 | .fly=>∃ a0,h.TracedW base e (.ref C) a0
 | .held L=>∃ a0,h.TracedAtW base e (.ref C) a0 (rawInt L)
structure Air (O J:List Addr) (base:Heap) (e:Addr) (s₁ s':Shared):Prop where
 same:SameS s₁ s'
 jd:∀ b∈J,b∈O∧DAt s₁.heap b
 cov:∀ b o,s₁.heap.get? b=some o→b∉J→base.get? b=some o
 nsl:∀ b∈J,Kpt s₁.heap s'.heap b
 stay:base.StaysIn s'.heap
 new:base.get? e=none
theorem kpt_slots {h h':Heap} {a:Addr} {o:Obj} {es:Array DictEntry} {n:Nat} {sl:Array (Option Value)} (ho:h.get? a=some o) (hd:o.data = .dict es n) (h1:h'.get? a=some { o with slots:=sl }):Kpt h h' a:=fun p hp=>by
 have e:nrm { o with slots:=sl }=nrm o:=by unfold nrm;simp only [hd]
 rw [hg_of ho] at hp
 rw [hg_of h1,e];exact hp
theorem Air.step {O J:List Addr} {base:Heap} {e:Addr} {s₁ s':Shared} {h:Heap} (a:Air O J base e s₁ s') (st:base.StaysIn h) (up:∀ b o,s'.heap.get? b=some o→(∀ vs,o.data ≠ .fields vs)→∃ sl,h.get? b=some { o with slots:=sl }):Air O J base e s₁ { s' with heap:=h }:=by
 refine ⟨?_,a.jd,a.cov,fun b hb=>(a.nsl b hb).trans ?_,st,a.new⟩
 ·exact a.same.set
 ·obtain ⟨o,es,n,ho,hd⟩:=(a.jd b hb).2.kpt (a.nsl b hb)
  obtain ⟨sl,hs⟩:=up b o ho (fun vs e=>by rw [hd] at e;cases e)
  exact kpt_slots ho hd hs
section
variable {M:Model} {A:Around} {E:Value→Shared→Prop} {s s₁:Shared} {O J:List Addr} {base:Heap} {e C L:Addr} {env:Env} {outer:List Env} {m:Md} {Q:Unit→Shared→Prop}
theorem land_air {l:List Env} (a:Air O J base e s₁ s) (fl:s.heap.FunFrames base l) {v a0:Value} (ht:s.heap.TracedAtW base e (.ref C) a0 v)
  (q:∀ s',Air O J base e s₁ s'→Form base e C s'.heap .fly→s'.heap.FunFrames base l→Q () s'):wpAny M A (setFlight (.ref e) none) Q E s :=
 wpAny_setFlight_noneW a.stay fl ht fun h' k1 k2 k3 k4=>q _ (a.step k1 fun b o hb hn=>⟨o.slots,k4 b o hb hn⟩) ⟨a0,k3⟩ k2
theorem leave_air (hfr:A.frames=some (env::outer)) (hf:env.frame=some L) (a:Air O J base e s₁ s) (fm:Form base e C s.heap m) (hm:m = .new∨m = .fly∨m = .held L) (fl:s.heap.FunFrames base (env::outer))
  (q:∀ s',Air O J base e s₁ s'→Form base e C s'.heap .fly→s'.heap.FunFrames base outer→Q () s'):wpAny M A (leaving env (.ref e)) Q E s:=by
 rcases hm with rfl | rfl | rfl
 ·obtain ⟨oe,vs,a0,he,hc,hd,h0,h1⟩:=fm
  refine wpAny_leaving_firstW hfr fl hf he a.stay a.new hd h1 h0 fun h' hL=>?_
  obtain ⟨k1,k2,k3,k4⟩:=hL
  rw [hc] at k3
  exact q _ (a.step k1 k4) ⟨a0,k3⟩ k2.2.2
 ·obtain ⟨a0,ht⟩:=fm
  refine wpAny_leaving_nextW hfr fl hf ht a.stay a.new fun h' hL=>?_
  obtain ⟨k1,k2,k3,k4⟩:=hL
  exact q _ (a.step k1 k4) ⟨a0,k3⟩ k2.2.2
 ·obtain ⟨a0,ht⟩:=fm
  unfold leaving
  refine wpAny_bind (wpAny_noteFrame_againW hf ht ?_)
  exact land_air a fl ht fun s' a' f' fl'=>q s' a' f' fl'.2.2
theorem note_air (hfr:A.frames=some (env::outer)) (hf:env.frame=some L) (a:Air O J base e s₁ s) (fm:Form base e C s.heap m) (hm:m = .new∨m = .fly∨m = .held L) (fl:s.heap.FunFrames base (env::outer))
  (q:∀ s',Air O J base e s₁ s'→Form base e C s'.heap (.held L)→s'.heap.FunFrames base (env::outer)→Q () s'):wpAny M A (noteFrame (.ref e) env) Q E s:=by
 rcases hm with rfl | rfl | rfl
 ·obtain ⟨oe,vs,a0,he,hc,hd,h0,h1⟩:=fm
  unfold noteFrame
  simp only [hf]
  refine wpAny_bind (wpAny_field he hd h1 ?_)
  rw [if_neg (by decide)]
  refine wpAny_entryW hfr fl hf he a.stay a.new hd (Array.getElem?_eq_some_iff.mp h1).1 h0 fun h' hL=>?_
  obtain ⟨k1,k2,k3,k4⟩:=hL
  rw [hc] at k3
  exact q _ (a.step k1 k4) ⟨a0,k3⟩ k2
 ·obtain ⟨a0,ht⟩:=fm
  refine wpAny_noteFrame_onW hfr fl hf ht a.stay a.new fun h' hL=>?_
  obtain ⟨k1,k2,k3,k4⟩:=hL
  exact q _ (a.step k1 k4) ⟨a0,k3⟩ k2
 ·obtain ⟨a0,ht⟩:=fm
  exact wpAny_noteFrame_againW hf ht (q s a ⟨a0,ht⟩ fl)
theorem came_air {l:List Env} (hf:env.frame=some L) (a:Air O J base e s₁ s) (fm:Form base e C s.heap m) (hm:m = .fly∨m = .held L) (fl:s.heap.FunFrames base l)
  (q:∀ s',Air O J base e s₁ s'→Form base e C s'.heap (.held L)→s'.heap.FunFrames base l→E (.ref e) s'):cameBackBy M A env E (.ref e) s:=by
 have fm:∃ a0 v,s.heap.TracedAtW base e (.ref C) a0 v:=by
  rcases hm with rfl | rfl
  ·obtain ⟨a0,h⟩:=fm;exact ⟨a0,_,h⟩
  ·obtain ⟨a0,h⟩:=fm;exact ⟨a0,_,h⟩
 obtain ⟨a0,v,oe,vs,T,oT,ts,he,hcls,hd,h1,hnT,hTe,hT,hdT,h3⟩:=fm
 have hsz3:3 < ts.size:=(Array.getElem?_eq_some_iff.mp h3).1
 have other:∀ b,b≠T→(s.heap.update T (Obj.mapFields (·.setIfInBounds 3 (rawInt L)))).get? b=s.heap.get? b:=fun b hb=>Heap.get?_update_other _ _ (Ne.symm hb)
 have noRecord:∀ b o,s.heap.get? b=some o→(∀ vs,o.data ≠ .fields vs)→b≠T:=fun b o hb hnf q=>by
  rw [q,hT] at hb;injection hb with hb;subst hb;exact hnf ts hdT
 unfold cameBackBy
 refine wpAny_bind (wpAny_field he hd h1 ?_)
 rw [if_neg (show ¬ ((Value.ref T==Value.none)=true) from by simp)]
 unfold setFlight
 rw [hf]
 refine wpAny_bind (wpAny_field he hd h1 ?_)
 rw [if_pos (show (Value.ref T != Value.none)=true from by simp)]
 refine wpAny_setField hT hdT hsz3 (q _ (a.step (fun b o hbo=>(other b fun q=>by rw [q,hnT] at hbo;cases hbo).trans (a.stay b o hbo)) fun b o hb hn=>⟨o.slots,(other b (noRecord b o hb hn)).trans hb⟩) ⟨a0,oe,vs,T,_,_,(other e (Ne.symm hTe)).trans he,hcls,hd,h1,hnT,hTe,Heap.get?_update_self _ hT (Obj.isFreed_of_fields (Obj.data_mapFields hdT _)),Obj.data_mapFields hdT _,by simp [hsz3]⟩ (fl.of_keeps fun b o hb hnf=>⟨o,(other b (noRecord b o hb hnf)).trans hb,rfl⟩))
end
end Mine
end
section
namespace Mine
open PySem PySem.W
variable {g:Gx} {c:Cx g} {ρ:Rho} {σ:Sto}
noncomputable def FrA (A:Around) (l:List Env):Prop:=A.frames=some l∧∀ env∈l,env.scope.kind ≠ .module∧∃ L,env.frame=some L
theorem FrA.deeper {A:Around} {l:List Env} {env:Env} {L:Addr} (h:FrA A l) (hk:env.scope.kind = .function) (hf:env.frame=some L):FrA (A.deeper env) (env::l):=by
 refine ⟨by unfold Around.deeper;simp only [h.1];rfl,fun e he=>?_⟩
 rcases List.mem_cons.mp he with rfl | he
 ·exact ⟨by rw [hk];decide,L,hf⟩
 ·exact h.2 e he
theorem FrA.ns {A:Around} {l:List Env} (h:FrA A l):nsOf A=l.filterMap (·.frame):=by unfold nsOf;rw [h.1];rfl
theorem funFrames_of {h base:Heap}:∀ {l:List Env},(∀ env∈l,env.scope.kind ≠ .module∧∃ L,env.frame=some L)→(∀ L∈l.filterMap (·.frame),base.get? L=none∧DAt h L)→h.FunFrames base l:=by
 intro l
 induction l with
 | nil=>intro _ _;trivial
 | cons env l ih =>
  intro h1 h2
  obtain ⟨hk,L,hL⟩:=h1 env List.mem_cons_self
  rw [List.filterMap_cons,hL] at h2
  obtain ⟨hb,o,es,n,ho,hd⟩:=h2 L List.mem_cons_self
  exact ⟨hk,⟨L,o,hL,hb,ho,fun vs e=>by rw [hd] at e;cases e⟩,ih (fun e he=>h1 e (List.mem_cons_of_mem _ he)) fun a ha=>h2 a (List.mem_cons_of_mem _ ha)⟩
section
variable {O J:List Addr} {base:Heap} {e:Addr} {s₁ s':Shared}
theorem Air.get (a:Air O J base e s₁ s') {b:Addr} {o:Obj} (hb:b∉J) (h:s₁.heap.get? b=some o):s'.heap.get? b=some o:=a.stay b o (a.cov b o h hb)
theorem Air.kpt (a:Air O J base e s₁ s') (b:Addr):Kpt s₁.heap s'.heap b:=by
 by_cases hb:b∈J
 ·exact a.nsl b hb
 ·exact .of fun o h=>a.get hb h
end
inductive Fly (c:Cx g) (H:List Addr) (C:Addr) (σ:Sto) (s:Shared) (e:Addr) (s':Shared) (σ':Sto) (m:Md) (l:List Env):Prop
 | mk (O J:List Addr) (base:Heap) (s₁:Shared) (hO:∀ a∈c.own,a∈O) (i:Mine.Inv g.w g.H₀ (nsOf c.A) O σ' s₁) (le:(c.F σ s).le (fz s₁.heap O σ')) (hH:∀ a∈H,Kpt s.heap s₁.heap a) (hs:SameS s s₁) (a:Air O J base e s₁ s') (fm:Form base e C s'.heap m) (fl:s'.heap.FunFrames base l):Fly c H C σ s e s' σ' m l
theorem Fly.ends {H:List Addr} {C e:Addr} {s s':Shared} {σ':Sto} {m:Md} {l:List Env} (f:Fly c H C σ s e s' σ' m l) (hN:∀ a∈nsOf c.A,a∈c.own) :
  c.Inv σ' s'∧(c.F σ s).le (c.F σ' s')∧(∀ a∈H,Kpt s.heap s'.heap a)∧SameS s s':=by
 obtain ⟨O,J,base,s₁,hO,i,le,hH,hs,a,_,_⟩:=f
 have nj:∀ b,b∉O→b∉J:=fun b hb hj=>hb (a.jd b hj).1
 have le':(fz s₁.heap O σ').le (c.F σ' s'):=fun b o h=>by
  obtain ⟨e1,e2,e3⟩:=fz_eq.mp h
  exact fz_eq.mpr ⟨e1,fun hm=>e2 (hO b hm),a.get (nj b e2) e3⟩
 refine ⟨⟨fun b o h=>le' b o (i.keep b o h),fun b x h=>(i.objs b x h).mono le' fun o ho=>a.get (nj b fun hm=>by rw [i.off b hm] at h;cases h) ho,fun b hb=>i.off b (hO b hb),fun b hb=>?_,fun b hb=>(i.ns b hb).kpt (a.kpt b),hN⟩,le.trans le',fun b hb=>(hH b hb).trans (a.kpt b),?_⟩
 ·obtain ⟨o,ho⟩:=i.live b (hO b hb)
  obtain ⟨p,hp,_⟩:=(a.kpt b).data ho
  exact ⟨p,hp⟩
 ·exact hs.tr a.same
inductive XP (c:Cx g) (H:List Addr) (C:Addr) (P:Sto→Prop) (ok:Md→Prop) (l:List Env) (σ:Sto) (s:Shared) (v:Value) (s':Shared):Prop
 | mk (e:Addr) (σ':Sto) (m:Md) (hv:v = .ref e) (hp:P σ') (hm:ok m) (f:Fly c H C σ s e s' σ' m l):XP c H C P ok l σ s v s'
noncomputable def okF (c:Cx g):Md→Prop:=fun m=>m = .new∨m = .fly∨∃ L,c.env.frame=some L∧m = .held L
noncomputable def okC:Md→Prop:=fun m=>m = .fly
section
variable {l:List Env} {C:Addr} {P:Sto→Prop}
theorem XP.trans {H:List Addr} {ok:Md→Prop} {σ₁:Sto} {s s₁ s':Shared} {v:Value} (x:XP c H C P ok l σ₁ s₁ v s') (hl:(c.F σ s).le (c.F σ₁ s₁)) (hH:∀ a∈H,Kpt s.heap s₁.heap a) (hs:SameS s s₁):XP c H C P ok l σ s v s':=by
 obtain ⟨e,σ',m,hv,hp,hm,O,J,base,s₂,hO,i,le,h2,hs2,a,fm,fl⟩:=x
 refine ⟨e,σ',m,hv,hp,hm,O,J,base,s₂,hO,i,hl.trans le,fun a ha=>(hH a ha).trans (h2 a ha),?_,a,fm,fl⟩
 exact hs.tr hs2
theorem XP.sub {H H':List Addr} {ok ok':Md→Prop} {s s':Shared} {v:Value} (x:XP c H C P ok l σ s v s') (hH:∀ a∈H',a∈H) (hk:∀ m,ok m→ok' m):XP c H' C P ok' l σ s v s':=by
 obtain ⟨e,σ',m,hv,hp,hm,O,J,base,s₂,hO,i,le,h2,hs2,a,fm,fl⟩:=x
 exact ⟨e,σ',m,hv,hp,hk m hm,O,J,base,s₂,hO,i,le,fun a ha=>h2 a (hH a ha),hs2,a,fm,fl⟩
noncomputable def calX (c:Cx g) (l:List Env) (f:Value) (xs:List AV) (σ:Sto) (C:Addr) (P:Sto→Prop):Prop:=∀ s vs,c.Inv σ s→RepL g.w (c.F σ s) vs xs→wpAny g.M c.A (call f vs []) (fun _ _=>False) (XP c c.own C P okC l σ s) s
noncomputable def evX (c:Cx g) (l:List Env) (ρ:Rho) (e:Expr) (σ:Sto) (C:Addr) (P:Sto→Prop):Prop:=∀ s,St c ρ σ s→wpAny g.M c.A (eval e c.env) (fun _ _=>False) (XP c c.own C P okC l σ s) s
noncomputable def esX (c:Cx g) (l:List Env) (ρ:Rho) (t:Sem Flow) (σ:Sto) (C:Addr) (P:Sto→Prop):Prop:=∀ s,St c ρ σ s→wpAny g.M c.A t (fun _ _=>False) (XP c c.hid C P (okF c) l σ s) s
noncomputable abbrev Cx.re (c:Cx g) (E:Value→Shared→Prop):Cx g:=⟨c.A,c.env,c.own,c.hid,E,c.sc,c.isFn⟩
theorem St.re {s:Shared} {E:Value→Shared→Prop} (h:St c ρ σ s):St (c.re E) ρ σ s:=⟨h.inv,⟨h.fr.sc,h.fr.wr,h.fr.kind,h.fr.glob,h.fr.blt,h.fr.loc,h.fr.loc',h.fr.sub,h.fr.cells,h.fr.apart,h.fr.kinds,h.fr.nodup⟩,h.ns,h.cl⟩
theorem St.er {s:Shared} {E:Value→Shared→Prop} (h:St (c.re E) ρ σ s):St c ρ σ s:=⟨h.inv,⟨h.fr.sc,h.fr.wr,h.fr.kind,h.fr.glob,h.fr.blt,h.fr.loc,h.fr.loc',h.fr.sub,h.fr.cells,h.fr.apart,h.fr.kinds,h.fr.nodup⟩,h.ns,h.cl⟩
theorem esX_seq {st:Stmt} {rest:List Stmt} (h:∀ E,es (c.re E) ρ (exec st c.env) σ fun fl ρ' σ'=>fl = .next∧esX c l ρ' (execs rest c.env) σ' C P):esX c l ρ (execs (st::rest) c.env) σ C P:=fun s hs=>by
 refine wpAny_execs_cons (es.use (h (XP c c.hid C P (okF c) l σ s) s hs.re) (fun f s₁ fl ρ₁ σ₁ i₁ e₁ r₁ q₁=>?_))
 obtain ⟨rfl,q⟩:=q₁
 cases r₁
 exact wpAny_mono (q s₁ i₁.er) (fun _ _ h=>h.elim) fun v s' x=>x.trans e₁.grow e₁.hid e₁.same
theorem esX_head {st:Stmt} {rest:List Stmt} (h:esX c l ρ (exec st c.env) σ C P):esX c l ρ (execs (st::rest) c.env) σ C P:=fun s hs =>
 wpAny_execs_cons (wpAny_mono (h s hs) (fun _ _ h=>h.elim) fun _ _ x=>x)
theorem esX_if {test:Expr} {body orelse:List Stmt} {pos:Pos} (h:∀ E,evb (c.re E) ρ test σ fun b σ'=>br b (esX c l ρ (execs body c.env) σ' C P) (esX c l ρ (execs orelse c.env) σ' C P)):esX c l ρ (exec (.If test body orelse pos) c.env) σ C P:=fun s hs=>by
 refine wpAny_If (pg.use (h (XP c c.hid C P (okF c) l σ s) s hs.re) (fun b s₁ b' σ₁ i₁ e₁ hb q=>?_))
 subst hb
 have st₁:St c ρ σ₁ s₁:=hs.ev i₁ e₁
 have fin:∀ {t:Sem Flow},esX c l ρ t σ₁ C P→wpAny g.M c.A t (fun _ _=>False) (XP c c.hid C P (okF c) l σ s) s₁:=fun q =>
  wpAny_mono (q s₁ st₁) (fun _ _ h=>h) fun v s' x=>x.trans e₁.grow (fun a ha=>e₁.own a (hs.fr.sub a ha)) e₁.same
 cases b with
 | true=>exact fin (q.1 rfl)
 | false=>exact fin (q.2 rfl)
theorem esX_expr {e:Expr} {pos:Pos} (h:evX c l ρ e σ C P) (hw:swapsWith e none pos.line c.env=pure false):esX c l ρ (exec (.Expr e pos) c.env) σ C P:=fun s hs=>by
 have hi:interactive c.env=false:=by
  unfold interactive
  rw [hs.fr.kind];rfl
 exact wpAny_Expr (wpAny_mono (h s hs) (fun _ _ h=>h.elim) fun v s' x=>x.sub hs.fr.sub fun m hm => .inr (.inl hm)) hi hw
theorem evX_call {id:Str} {p pos:Pos} {e:Expr} {rest:List Expr} {v:Value} (hg:Glob g.H₀ id v) (hx:c.sc.names.lookup id=some .globalImplicit) (hc:Callee g v)
  (h:∀ E,evl (c.re E) ρ (e::rest) σ fun xs σ₁=>calX c l v xs σ₁ C P) (hp:(e::rest).all noStar=true):evX c l ρ (.Call (.Name id p) (e::rest) [] pos) σ C P:=fun s hs =>
 call_gen (c:=c.re (XP c c.own C P okC l σ s)) hg hx hc hs.re (h _) (fun s₁ vs xs σ₁ i₁ e₁ r₁ q₁=>wpAny_mono (q₁ s₁ vs i₁ r₁) (fun _ _ h=>h) fun v s' x=>x.trans e₁.grow e₁.own e₁.same) hp
theorem evX_methI {K:Frag} {o e:Expr} {rest:List Expr} {x:Str} {apos pos:Pos} {f:Addr} (X:K.In g.H₀) (ok:fnOk K f=true)
  (h:∀ E,ev (c.re E) ρ o σ fun y σ₁=>∃ a D d m,y = .obj a∧σ₁ a=some (.inst D d)∧σ₁ d=some (.dct (atts m))∧methOk K D x f=true∧m.lookup x=none∧evl (c.re E) ρ (e::rest) σ₁ fun xs σ₂=>calX c l (.ref f) (y::xs) σ₂ C P)
  (hbase:attributeBase o x c.env (eval o c.env)=eval o c.env) (hline:(apos.endLine==pos.line)=true) (hp:(e::rest).all noStar=true) (hfew:decide ((e::rest).length < 30)=true):evX c l ρ (.Call (.Attribute o x apos) (e::rest) [] pos) σ C P:=fun s hs =>
 methI_gen (c:=c.re (XP c c.own C P okC l σ s)) (KK:=fun y xs σ₂=>calX c l (.ref f) (y::xs) σ₂ C P) X ok hs.re (h _) (fun s₁ vs y xs σ₁ i₁ e₁ r₁ q₁=>wpAny_mono (q₁ s₁ vs i₁ r₁) (fun _ _ h=>h) fun v s' x=>x.trans e₁.grow e₁.own e₁.same) hbase hline hp hfew
theorem codeX_fn {f:Addr} {ps rest:List Str} {body:List Stmt} {sc:Scope} {xs:List AV} (fn:FnAt g f ps body sc) (ok:scOk ps rest sc=true) (hroom:c.A.depth < recursionLimit) (hlen:xs.length=ps.length) (fr:FrA c.A l)
  (h:∀ c':Cx g,c'.sc=sc→c'.isFn=true→c'.A=c.A.deeper c'.env→FrA c'.A (c'.env::l)→esX c' (c'.env::l) (rho0 ps rest xs) (execs body c'.env) σ C P) {s:Shared} {vs:List Value} (i:c.Inv σ s) (r:RepL g.w (c.F σ s) vs xs) :
  codeAny g.M c.A (.call (.ref f) ⟨vs,[]⟩) (fun r s'=>match r with | .ok _=>False | .error e=>XP c c.own C P okC l σ s e s') s:=by
 refine codeAny_mono (fn_gen (c:=c.re (XP c c.own C P okC l σ s)) (Q:=fun _ _=>False) fn ok hroom hlen i r fun c' s₁ h1 h2 h3 h4 h5 h6 h7 hE st hs hk hF=>?_) fun res s' z=>?_
 ·have fr':FrA c'.A (c'.env::l):=by rw [h3];exact fr.deeper h5 h4
  refine wpAny_mono (h c' h1 h2 h3 fr' s₁ st) (fun _ _ h=>h.elim) fun v s' x=>?_
  obtain ⟨e,σ',m,rfl,hp,hm,O,J,base,s₂,hO,i₂,le,hH,hs2,a,fm,fl⟩:=x
  refine hE _ _ (leave_air fr'.1 h4 a fm (hm.imp id (Or.imp id fun ⟨L,q1,q2⟩=>by rw [h4] at q1;injection q1 with q1;rw [q2,q1])) fl fun s'' a' fm' fl'=>⟨e,σ',.fly,rfl,hp,rfl,O,J,base,s₂,fun b hb=>hO b (h7 b hb),⟨i₂.keep,i₂.objs,i₂.off,i₂.live,fun b hb=>i₂.ns b (by rw [h3];exact nsOf_sub hb),fun b hb=>i₂.nsub b (by rw [h3];exact nsOf_sub hb)⟩,hF.trans le,fun b hb=>(Kpt.of fun o e=>hk b o e).trans (hH b (by rw [h6];exact hb)),?_,a',fm',fl'⟩)
  obtain ⟨h8,t8,e8⟩:=hs
  obtain ⟨h9,t9,e9⟩:=hs2
  subst e8;subst e9
  exact ⟨h9,t9,rfl⟩
 ·rcases res with e | (v | _ | _ | _)
  ·exact z
  ·exact z
  ·exact z
  ·exact z
  ·obtain ⟨_,_,_,_,_,q⟩:=z;exact q
theorem calX_fn {f:Addr} {ps rest:List Str} {body:List Stmt} {sc:Scope} {xs:List AV} (fn:FnAt g f ps body sc) (ok:scOk ps rest sc=true) (hroom:c.A.depth < recursionLimit) (hlen:xs.length=ps.length) (fr:FrA c.A l)
  (h:∀ c':Cx g,c'.sc=sc→c'.isFn=true→c'.A=c.A.deeper c'.env→FrA c'.A (c'.env::l)→esX c' (c'.env::l) (rho0 ps rest xs) (execs body c'.env) σ C P):calX c l (.ref f) xs σ C P:=fun s vs i r =>
 wpAny_call (codeAny_mono (codeX_fn fn ok hroom hlen fr h i r) fun res s' z=>by
  rcases res with e | (v | _ | _ | _)
  ·exact z
  ·exact z.elim
  ·exact z.elim
  ·exact z.elim
  ·exact z.elim)
end
end Mine
end
section
namespace Mine
open PySem PySem.W
variable {g:Gx} {c:Cx g} {ρ:Rho} {σ:Sto}
noncomputable abbrev veb:List Value:=[.type "ValueError", .type "Exception", .type "BaseException", .type "object"]
inductive BaseAt (h:Heap) (T:Addr):Prop
 | mk (nm q:Str) (N:Addr) (bs:List Value) (hdct:Bool) (sn:List Str) (sub:List Value) (ab:Bool) (col:Option Bool) (dd:Option Addr) (k0 k1 k2 k3 k5:Option Value) (e:h.get? T=some (excClassObj nm q T N bs veb hdct sn sub ab col dd k0 k1 k2 k3 k5 "ValueError.__new__")):BaseAt h T
inductive ExcAt (h:Heap) (C T:Addr):Prop
 | mk (nm q:Str) (N:Addr) (bs:List Value) (hdct:Bool) (sn:List Str) (sub:List Value) (ab:Bool) (col:Option Bool) (dd:Option Addr) (k0 k1 k2 k3 k5:Option Value) (mN:Str→Option Value) (e:h.get? C=some (excClassObj nm q C N bs (.ref T::veb) hdct sn sub ab col dd k0 k1 k2 k3 k5 "ValueError.__new__")) (n:h.Ns N mN) (i:mN "__init__" = none) (t:OwnTail h veb (.ref T::veb)):ExcAt h C T
theorem ExcAt.keeps {h h':Heap} {C T:Addr} (x:ExcAt h C T) (hk:∀ b o,h.get? b=some o→h'.get? b=some o):ExcAt h' C T:=by
 obtain ⟨nm,q,N,bs,hdct,sn,sub,ab,col,dd,k0,k1,k2,k3,k5,mN,h1,h2,h3,h4⟩:=x
 exact ⟨nm,q,N,bs,hdct,sn,sub,ab,col,dd,k0,k1,k2,k3,k5,mN,hk _ _ h1,h2.keeps hk,h3,h4.keeps hk⟩
section
variable {l:List Env} {C T:Addr} {P:Sto→Prop}
theorem fly_new {s:Shared} {e:Addr} {h':Heap} {args:List Value} (st:St c ρ σ s) (fr:FrA c.A l) (hm:Heap.MadeExcOf s.heap h' e (.ref C) args) (hp:P σ):XP c c.hid C P (okF c) l σ s (.ref e) { s with heap:=h' }:=by
 have i:=st.inv
 refine ⟨e,σ,.new,rfl,hp,.inl rfl,c.own,nsOf c.A,wo s.heap (nsOf c.A),s,fun _ h=>h,i,.refl _,fun _ _ _ h=>h,⟨s.heap,s.toks,rfl⟩,⟨⟨h',s.toks,rfl⟩,fun b hb=>⟨i.nsub b hb,i.ns b hb⟩,fun b o h hj=>(wo_get hj).trans h,fun b _ => .of fun o h=>hm.keeps b o h,fun b o h=>?_,?_⟩,?_,funFrames_of fr.2 fun L hL=>?_⟩
 ·by_cases hb:b∈nsOf c.A
  ·rw [wo_none hb] at h;cases h
  ·rw [wo_get hb] at h;exact hm.keeps b o h
 ·by_cases hb:e∈nsOf c.A
  ·exact wo_none hb
  ·exact (wo_get hb).trans hm.new
 ·obtain ⟨t,h1,_,_⟩:=hm.there
  exact ⟨_,_,_,h1,rfl,rfl,rfl,rfl⟩
 ·have hL':L∈nsOf c.A:=by rw [fr.ns];exact hL
  exact ⟨wo_none hL',(i.ns L hL').keep fun o h=>hm.keeps L o h⟩
theorem esX_raise {x:Str} {np cpos pos:Pos} {m:Str} {k:Nat} {mp:Pos} (hh:c.A.handled=none) (fr:FrA c.A l) (hg:Glob g.H₀ x (.ref C)) (hx:c.sc.names.lookup x=some .globalImplicit) (ec:ExcAt g.H₀ C T) (hp:P σ) :
  esX c l ρ (exec (.Raise (some (.Call (.Name x np) [.Constant (.str m) k mp] [] cpos)) none pos) c.env) σ C P:=fun s hs=>by
 have hp1:backTo cpos (starEach [.Constant (.str m) k mp] c.env)=[(false,eval (.Constant (.str m) k mp) c.env)]:=starEach_plain (l:=[.Constant (.str m) k mp]) rfl
 obtain ⟨nm,q,N,bs,hdct,sn,sub,ab,col,dd,k0,k1,k2,k3,k5,mN,e1,e2,e3,e4⟩:=ec
 refine wpAny_Raise_call_subT (C:=C) (nm:=nm) (q:=q) (N:=N) (bs:=bs) (bm := .ref T::veb) (hdct:=hdct) (sn:=sn) (sub:=sub) (ab:=ab) (col:=col) (dd:=dd) (k0:=k0) (k1:=k1) (k2:=k2) (k3:=k3) (k5:=k5) F.excBase_ValueError (mN:=mN) rfl hh (by rw [hp1];rfl) e3 ?_
 have hs':St (c.re (XP c c.hid C P (okF c) l σ s)) ρ σ s:=hs.re
 refine pg.use (ev_glob (c:=c.re (XP c c.hid C P (okF c) l σ s)) (Q:=fun x σ'=>x = .raw (.ref C)∧σ'=σ) (pos:=np) hg hx ⟨rfl,rfl⟩ s hs') (fun f s₁ y σ₁ i₁ ev₁ r₁ qq=>?_)
 obtain ⟨rfl,rfl⟩:=qq
 obtain rfl:=r₁.invRaw
 refine ⟨rfl,?_⟩
 rw [hp1]
 refine Calls.evalArgs_plain (pg.use (evl_sound (c:=c.re (XP c c.hid C P (okF c) l σ₁ s)) (l:=[.Constant (.str m) k mp]) (Q:=fun xs σ'=>xs.length=1∧σ'=σ₁) (evl_cons (ev_str (evl_nil ⟨rfl,rfl⟩))) s₁ (hs'.ev i₁ ev₁)) (fun vs s₂ xs σ₂ i₂ ev₂ r₂ qq=>?_))
 obtain ⟨hlen1,rfl⟩:=qq
 have hk:∀ b o,g.H₀.get? b=some o→s₂.heap.get? b=some o:=fun b o h=>(fz_eq.mp (i₂.keep b o h)).2.2
 refine ⟨rfl,?_,hk _ _ e1,e2.keeps hk,e4.keeps hk,fun h' e hm=>?_⟩
 ·show vs.length≤_;rw [r₂.length,hlen1];decide
 ·have ev:=ev₁.trans ev₂
  exact (fly_new (hs.ev i₂ ev) fr hm hp).trans ev.grow (fun a ha=>ev.own a (hs.fr.sub a ha)) ev.same
end
end Mine
end
section
namespace Mine
open PySem PySem.W
variable {g:Gx} {c:Cx g} {ρ:Rho} {σ:Sto}
section
variable {l:List Env} {C:Addr} {P:Sto→Prop}
theorem XP.at {c':Cx g} {H:List Addr} {ok:Md→Prop} {s s':Shared} {v:Value} (x:XP c' H C P ok l σ s v s') (ho:∀ a∈c.own,a∈c'.own) (hn:nsOf c.A=nsOf c'.A) {σ₀:Sto} {s₀:Shared} (hl:(c.F σ₀ s₀).le (c'.F σ s)) {H':List Addr} (hH:∀ a∈H',Kpt s₀.heap s.heap a∧a∈H) (hs:SameS s₀ s):XP c H' C P ok l σ₀ s₀ v s':=by
 obtain ⟨e,σ',m,hv,hp,hm,O,J,base,s₂,hO,i,le,h2,hs2,a,fm,fl⟩:=x
 refine ⟨e,σ',m,hv,hp,hm,O,J,base,s₂,fun a ha=>hO a (ho a ha),by rw [hn];exact i,hl.trans le,fun a ha=>(hH a ha).1.trans (h2 a (hH a ha).2),?_,a,fm,fl⟩
 exact hs.tr hs2
theorem calX_make {K:Frag} {D f:Addr} {xs:List AV} (X:K.In g.H₀) (ok:makeOk K D f=true) (hS:∃ f o,sysModules≤f∧g.H₀.get? f=some o) (fr:FrA c.A l)
  (h:∀ a d,σ a=none→σ d=none→a≠d→∀ c':Cx g,c'.A.depth=c.A.depth+1→c'.A.handled=c.A.handled→c'.A.units=c.A.units+1→FrA c'.A l→∀ s vs,c'.Inv ((σ.set d (.dct (atts []))).set a (.inst D d)) s→RepL g.w (c'.F ((σ.set d (.dct (atts []))).set a (.inst D d)) s) vs (.obj a::xs) →
   codeAny g.M c'.A (.call (.ref f) ⟨vs,[]⟩) (fun r s'=>match r with | .ok _=>False | .error e=>XP c' c'.own C P okC l ((σ.set d (.dct (atts []))).set a (.inst D d)) s e s') s):calX c l (.ref D) xs σ C P:=fun s vs i r =>
 make_gen (c:=c.re (XP c c.own C P okC l σ s)) X ok hS i r fun a d h1 h2 h3 A' k1 k2 k3 k4 s₂ vs' i₂ e₂ r₂=>codeAny_mono (h a d h1 h2 h3 ⟨A',c.env,c.own,c.hid,c.E,c.sc,c.isFn⟩ k1 k2 k3 ⟨k4.trans fr.1,fr.2⟩ s₂ vs' i₂ r₂) fun res s' z=>by
  rcases res with e | (v | _ | _ | _)
  ·exact XP.at (c:=c) z (fun _ h=>h) (by show nsOf c.A=nsOf A';unfold nsOf;rw [k4]) e₂.grow (fun a ha=>⟨e₂.own a ha,ha⟩) e₂.same
  ·exact z.elim
  ·exact z.elim
  ·exact z.elim
  ·exact z.elim
theorem esX_for {outer:List Env} {L:Addr} {x:Str} {px:Pos} {iter:Expr} {body:List Stmt} {pos:Pos} (J:List AV→Rho→Sto→Prop) (hfn:c.isFn=true) (fr:FrA c.A (c.env::outer)) (hL:c.env.frame=some L)
  (h:∀ E,ev (c.re E) ρ iter σ fun y σ₁=>∃ l,Iter (c.re E) y l∧J l ρ σ₁)
  (turn:∀ c':Cx g,Same c c'→∀ y rest ρ₁ σ₁,J (y::rest) ρ₁ σ₁→∃ ρ₂,Upd x y ρ₁ ρ₂∧((es c' ρ₂ (execs body c'.env) σ₁ fun fl ρ' σ'=>fl = .next∧∃ ρ'',Wk ρ'' ρ'∧J rest ρ'' σ')∨esX c' (c.env::outer) ρ₂ (execs body c'.env) σ₁ C P))
  (done:∀ ρ₁ σ₁,J [] ρ₁ σ₁→False)
  (hs:∀ x,foldedSetIterable iter c.env x=pure x):esX c (c.env::outer) ρ (exec (.For (.Name x px) iter body [] pos) c.env) σ C P:=fun s st=>by
 refine wpAny_mono (es_forB (c:=c.re (XP c c.hid C P (okF c) (c.env::outer) σ s)) (Q:=fun _ _ _=>False) (Upd x) J (fun c' hs' _ _ _ _ _ _ _ _ st hu r q=>wpAny_assign_Name (store_sound st hu (hs'.fn.trans hfn) r q)) st.re (h _ s st.re) (fun c' same hown hhid hE y rest ρ₁ σ₁ hJ=>?_) (fun ρ₁ σ₁ hJ=>done ρ₁ σ₁ hJ) hs) (fun _ _ ⟨_,_,_,_,_,_,q⟩=>q) fun _ _ e=>e
 have same':Same c c':=⟨same.A,same.env,same.sc,same.fn⟩
 obtain ⟨ρ₂,hu,hb⟩:=turn c' same' y rest ρ₁ σ₁ hJ
 refine ⟨ρ₂,hu,fun s₂ st₂ ev gr=>?_⟩
 rcases hb with hb | hb
 ·refine es.use (hb s₂ st₂) (fun f s₃ fl ρ₃ σ₃ i₃ e₃ r₃ q₃=>?_)
  obtain ⟨rfl,q⟩:=q₃
  exact ⟨_,ρ₃,σ₃,i₃,e₃,r₃,q⟩
 ·refine wpAny_mono (hb s₂ st₂) (fun _ _ h=>h.elim) fun v s' z=>hE v s' ?_
  have z':XP c c.hid C P (okF c') (c.env::outer) σ s v s':=XP.at (c:=c) z hown (by rw [same'.A]) gr (fun a ha=>⟨ev.hid a ha,hhid a ha⟩) ev.same
  obtain ⟨e,σ',m,rfl,hp,hm,O,J,base,s₃,hO,i,le,h2,hs2,a,fm,fl⟩:=z'
  refine note_air fr.1 hL a fm (hm.imp id (Or.imp id fun ⟨L',q1,q2⟩=>by rw [same'.env,hL] at q1;injection q1 with q1;rw [q2,q1])) fl fun s₄ a₄ f₄ fl₄=>?_
  exact came_air hL a₄ f₄ (.inr rfl) fl₄ fun s₅ a₅ f₅ fl₅=>⟨e,σ',.held L,rfl,hp,.inr (.inr ⟨L,hL,rfl⟩),O,J,base,s₃,hO,i,le,h2,hs2,a₅,f₅,fl₅⟩
end
end Mine
end
section
namespace Mine
open PySem PySem.W
variable {g:Gx} {c:Cx g} {ρ:Rho} {σ:Sto}
section
variable {l:List Env} {C T:Addr} {P:Sto→Prop}
noncomputable def esO (c:Cx g) (l:List Env) (ρ:Rho) (t:Sem Flow) (σ:Sto) (C:Addr) (P:Sto→Prop):Prop:=∀ s,St c ρ σ s→wpAny g.M c.A t (fun _ _=>False) (XP c c.own C P (okF c) l σ s) s
theorem esO_head {st:Stmt} {rest:List Stmt} (h:esO c l ρ (exec st c.env) σ C P):esO c l ρ (execs (st::rest) c.env) σ C P:=fun s hs =>
 wpAny_execs_cons (wpAny_mono (h s hs) (fun _ _ h=>h.elim) fun _ _ x=>x)
theorem esO_expr {e:Expr} {pos:Pos} (h:evX c l ρ e σ C P) (hw:swapsWith e none pos.line c.env=pure false):esO c l ρ (exec (.Expr e pos) c.env) σ C P:=fun s hs=>by
 have hi:interactive c.env=false:=by
  unfold interactive
  rw [hs.fr.kind];rfl
 exact wpAny_Expr (wpAny_mono (h s hs) (fun _ _ h=>h.elim) fun v s' x=>x.sub (fun _ h=>h) fun m hm => .inr (.inl hm)) hi hw
theorem esO_if {test:Expr} {body orelse:List Stmt} {pos:Pos} (h:∀ E,evb (c.re E) ρ test σ fun b σ'=>br b (esO c l ρ (execs body c.env) σ' C P) (esO c l ρ (execs orelse c.env) σ' C P)):esO c l ρ (exec (.If test body orelse pos) c.env) σ C P:=fun s hs=>by
 refine wpAny_If (pg.use (h (XP c c.own C P (okF c) l σ s) s hs.re) (fun b s₁ b' σ₁ i₁ e₁ hb q=>?_))
 subst hb
 have fin:∀ {t:Sem Flow},esO c l ρ t σ₁ C P→wpAny g.M c.A t (fun _ _=>False) (XP c c.own C P (okF c) l σ s) s₁:=fun q =>
  wpAny_mono (q s₁ (hs.ev i₁ e₁)) (fun _ _ h=>h) fun v s' x=>x.trans e₁.grow e₁.own e₁.same
 cases b with
 | true=>exact fin (q.1 rfl)
 | false=>exact fin (q.2 rfl)
end
section
variable {M:Model} {A:Around} {E:Value→Shared→Prop}
theorem matches_base {h:Heap} {gg:Array GenState} {d:Drawn} {t:Nat} {os:OsState} {e C T:Addr} {oe:Obj} {Q:Bool→Shared→Prop} (ec:ExcAt h C T) (eb:BaseAt h T) (he:h.get? e=some oe) (hcls:oe.cls = .ref C)
  (hq:Q true ⟨h,gg,d,t,os⟩):wpAny M A (excMatches (.ref e) (.ref T)) Q E ⟨h,gg,d,t,os⟩:=by
 obtain ⟨nm,q,N,bs,hdct,sn,sub,ab,col,dd,k0,k1,k2,k3,k5,mN,hC,_,_,_⟩:=ec
 obtain ⟨nm',q',N',bs',hdct',sn',sub',ab',col',dd',k0',k1',k2',k3',k5',hT⟩:=eb
 have hcB:(Value.ref T::veb).contains (.type "BaseException")=true:=by rw [List.contains_cons];rfl
 have hcT:(Value.ref C :: .ref T::veb).contains (.ref T)=true:=by simp
 have f:=tc_notTuple
 unfold excMatches
 repeat (first | (with_reducible refine wpAny_loadPart_at he ?_;rw [hcls]) | with_reducible refine wpAny_loadPart_at hT ?_ | (with_reducible refine wpAny_isSubtype_exc hC ?_;rw [hcT]) | (with_reducible refine wpAny_isSubtype_exc hT ?_;rw [hcB]) | wp_step)
 exact hq
end
noncomputable def fgt (ρ:Rho):Rho:=ρ.map fun p=>(p.1,none)
theorem fgt_names {ρ:Rho}:(fgt ρ).map (·.1)=ρ.map (·.1):=by unfold fgt;rw [List.map_map];rfl
theorem fgt_none {ρ:Rho} {x:Str} {v:AV}:(x,some v)∉fgt ρ:=fun h=>by
 obtain ⟨p,_,e⟩:=List.mem_map.mp h;injection e with _ e;cases e
inductive TrI (base h:Heap) (e C:Addr):Prop
 | mk (oe:Obj) (vs:Array Value) (tb:Addr) (oT:Obj) (ts:Array Value) (he:h.get? e=some oe) (hc:oe.cls = .ref C) (hd:oe.data = .fields vs) (hv:vs[1]?=some (.ref tb)) (hb:base.get? tb=none) (ht:h.get? tb=some oT) (hf:oT.data = .fields ts) (hts:ts[3]?=some .none):TrI base h e C
theorem trI {base h:Heap} {e C:Addr} (f:Form base e C h .fly):TrI base h e C:=by
 obtain ⟨_,oe,vs,tb,oT,ts,h1,h2,h3,h4,h5,_,h6,h7,h8⟩:=f
 exact .mk oe vs tb oT ts h1 h2.1 h3 h4 h5 h6 h7 h8
theorem es_tryX {outer:List Env} {L C T:Addr} {P:Sto→Prop} {body:List Stmt} {tid n:Str} {tp hpos pos:Pos} {b₀:Stmt} {suite:List Stmt} {Q:AFl→Rho→Sto→Prop} (fr:FrA c.A (c.env::outer)) (hL:c.env.frame=some L) (hfn:c.isFn=true)
  (hg:Glob g.H₀ tid (.ref T)) (hx:c.sc.names.lookup tid=some .globalImplicit) (ec:ExcAt g.H₀ C T) (eb:BaseAt g.H₀ T) (hn:c.sc.names.lookup n=some .local)
  (h:esO c (c.env::outer) ρ (execs body c.env) σ C P)
  (hd:∀ σ',P σ'→∃ ρ₁,Upd n (.exc C) ρ ρ₁∧∀ c':Cx g,c'.A.depth=c.A.depth→c'.A.units=c.A.units→c'.sc=c.sc→c'.isFn=true→c'.env=c.env→es c' ρ₁ (execs (b₀::suite) c'.env) σ' fun fl ρ' σ''=>Q fl (fgt ρ') σ'') :
  es c ρ (exec (.Try body [.ExceptHandler (some (.Name tid tp)) (some n) (b₀::suite) hpos] [] [] pos) c.env) σ Q:=fun s st=>by
 refine wpAny_Try_except (wpAny_mono (h s st) (fun _ _ h=>h.elim) fun v s₁ x=>?_)
 obtain ⟨e,σ',m,rfl,hp,hm,O,J,base,s₀,hO,i,le,hH,hs0,a,fm,fl⟩:=x
 refine note_air fr.1 hL a fm (hm.imp id (Or.imp id fun ⟨L',q1,q2⟩=>by rw [hL] at q1;injection q1 with q1;rw [q2,q1])) fl fun s₂ a₂ f₂ fl₂=>?_
 obtain ⟨a0,ht₂⟩:=f₂
 refine land_air a₂ fl₂ ht₂ fun s₃ a₃ f₃ fl₃=>?_
 have fly₃:Fly c c.own C σ s e s₃ σ' .fly (c.env::outer):=⟨O,J,base,s₀,hO,i,le,hH,hs0,a₃,f₃,fl₃⟩
 obtain ⟨i₃,le₃,own₃,same₃⟩:=fly₃.ends st.inv.nsub
 have ev₃:c.Ev σ s σ' s₃:=⟨same₃,le₃,own₃⟩
 have st₃:St c ρ σ' s₃:=st.ev i₃ ev₃
 refine wpAny_handleBy_cons (codeAny_handlers_test ?_) (by intro q;cases q)
 let cm:(Value→Shared→Prop)→Cx g:=fun E=>⟨c.A.mark (some (.ref e)),c.env,c.own,c.hid,E,c.sc,c.isFn⟩
 have stm:∀ {E ρ σ s},St c ρ σ s→St (cm E) ρ σ s:=fun h=>⟨h.inv,⟨h.fr.sc,h.fr.wr,h.fr.kind,h.fr.glob,h.fr.blt,h.fr.loc,h.fr.loc',h.fr.sub,h.fr.cells,h.fr.apart,h.fr.kinds,h.fr.nodup⟩,h.ns,h.cl⟩
 have mts:∀ {E ρ σ s},St (cm E) ρ σ s→St c ρ σ s:=fun h=>⟨h.inv,⟨h.fr.sc,h.fr.wr,h.fr.kind,h.fr.glob,h.fr.blt,h.fr.loc,h.fr.loc',h.fr.sub,h.fr.cells,h.fr.apart,h.fr.kinds,h.fr.nodup⟩,h.ns,h.cl⟩
 refine pg.use (ev_glob (c:=cm _) (Q:=fun x τ=>x = .raw (.ref T)∧σ'=τ) (pos:=tp) hg hx ⟨rfl,rfl⟩ s₃ (stm st₃)) (fun f s₄ y σ₄ i₄ ev₄ r₄ qq=>?_)
 obtain ⟨rfl,rfl⟩:=qq
 obtain rfl:=r₄.invRaw
 obtain ⟨oe,vs,tb,oT,ts,he₃,hcl,hde,hv1,hbT,hT₃,hdT,hts⟩:=trI f₃
 have nTO:∀ b,base.get? b=none→(∃ o k,s₃.heap.get? b=some o∧o.data = .fields k)→b∉O∧σ' b=none:=fun b hb hf=>by
  refine ⟨fun hbO=>?_,?_⟩
  ·obtain ⟨o,ho⟩:=i.live b hbO
   by_cases hj:b∈J
   ·obtain ⟨o1,k,h1,h2⟩:=hf
    obtain ⟨o2,es,k2,ho2,hd2⟩:=(a₃.jd b hj).2.kpt (a₃.nsl b hj)
    rw [h1] at ho2;injection ho2 with ho2;subst ho2;rw [h2] at hd2;cases hd2
   ·rw [a₃.cov b o ho hj] at hb;cases hb
  ·cases hq:σ' b with
   | none=>rfl
   | some y =>
    obtain ⟨o,ho⟩:=(i.objs b y hq).live
    rw [a₃.cov b o ho (fun hj=>by rw [i.off b (a₃.jd b hj).1] at hq;cases hq)] at hb;cases hb
 have fe:=nTO e a₃.new ⟨oe,vs,he₃,hde⟩
 have fT:=nTO tb hbT ⟨oT,ts,hT₃,hdT⟩
 have inF:∀ {b o},b∉O→σ' b=none→s₃.heap.get? b=some o→c.F σ' s₃ b=some o:=fun hb hs h=>fz_eq.mpr ⟨hs,fun hm=>hb (hO _ hm),h⟩
 have he₄:s₄.heap.get? e=some oe:=(fz_eq.mp (ev₄.grow e oe (inF fe.1 fe.2 he₃))).2.2
 have hT₄:s₄.heap.get? tb=some oT:=(fz_eq.mp (ev₄.grow tb oT (inF fT.1 fT.2 hT₃))).2.2
 have hk₄:∀ b o,g.H₀.get? b=some o→s₄.heap.get? b=some o:=fun b o h=>(fz_eq.mp (i₄.keep b o h)).2.2
 have es₄:s₄=⟨s₄.heap,s₄.gens,s₄.drawn,s₄.toks,s₄.os⟩:=rfl
 rw [es₄]
 refine matches_base (ec.keeps hk₄) (by obtain ⟨nm,q,N,bs,hdct,sn,sub,ab,col,dd,k0,k1,k2,k3,k5,h1⟩:=eb;exact ⟨nm,q,N,bs,hdct,sn,sub,ab,col,dd,k0,k1,k2,k3,k5,hk₄ _ _ h1⟩) he₄ hcl ?_
 refine codeAny_handlers_suite_as ?_
 refine wpAny_setFlight_none he₄ hde hv1 hT₄ hdT (Array.getElem?_eq_some_iff.mp hts).1 ?_
 have hsame:∀ b,(s₄.heap.update tb (Obj.mapFields (·.setIfInBounds 3 Value.none))).get? b=s₄.heap.get? b:=fun b=>by
  by_cases hb:b=tb
  ·subst hb
   rw [Heap.get?_update_self _ hT₄ (Obj.isFreed_of_fields (Obj.data_mapFields hdT _)),hT₄]
   obtain ⟨oc,od,odt,osl⟩:=oT
   cases hdT
   have:ts.setIfInBounds 3 Value.none=ts:=by
    apply Array.ext_getElem?
    intro k
    rw [Array.getElem?_setIfInBounds]
    split
    ·rename_i hk;subst hk;rw [hts];simp [(Array.getElem?_eq_some_iff.mp hts).1]
    ·rfl
   show some (Obj.mk oc od (.fields (ts.setIfInBounds 3 Value.none)) osl)=_
   rw [this]
  ·exact Heap.get?_update_other _ _ (Ne.symm hb)
 generalize hh5:s₄.heap.update tb (Obj.mapFields (·.setIfInBounds 3 Value.none))=h₅ at hsame
 have kp₅:∀ b o,s₄.heap.get? b=some o→h₅.get? b=some o:=fun b o h=>(hsame b).trans h
 have st₄:St c ρ σ' s₄:=st₃.ev i₄ ev₄
 have st₅:St c ρ σ' { s₄ with heap:=h₅,toks:=s₄.toks }:=st₄.ev (i₄.keeps kp₅) (.keeps kp₅)
 have ev₅:c.Ev σ s σ' { s₄ with heap:=h₅,toks:=s₄.toks }:=(ev₃.trans ev₄).trans (.keeps kp₅)
 have rv:Rep g.w (c.F σ' { s₄ with heap:=h₅,toks:=s₄.toks }) (.ref e) (.exc C) := .exc (fz_eq.mpr ⟨fe.2,fun hm=>fe.1 (hO _ hm),kp₅ _ _ he₄⟩) hcl
 obtain ⟨ρ₁,hu,hes⟩:=hd σ' hp
 refine store_sound (c:=cm c.E) (s:={ s₄ with heap:=h₅,toks:=s₄.toks }) (stm st₅) hu hfn rv fun s₆ st₆ ev₆=>?_
 refine es.use (hes (cm _) rfl rfl rfl hfn rfl s₆ (stm (mts st₆))) (fun f s₇ flw ρ₇ σ₇ st₇ ev₇ rf₇ q₇=>?_)
 have st₇':St c ρ₇ σ₇ s₇:=mts st₇
 obtain ⟨m₇,hn₇,_⟩:=st₇'.ns
 refine wpAny_nameGoes ((st₇'.fr.kindOf n).trans hn) hn₇ (by rw [st₇'.fr.kind];rfl) fun h₈ m₈ hn₈ hs₈=>?_
 have hF₈:fz h₈ c.own σ₇=fz s₇.heap c.own σ₇:=fz_sameBut st₇'.fr.loc hs₈
 refine ⟨flw,fgt ρ₇,σ₇,⟨st₇'.inv.sameBut st₇'.fr.loc hs₈ (by obtain ⟨o,_,_,ho,_⟩:=hn₈;exact ⟨o,ho⟩) (fun _ => .of_ns hn₈),by rw [fgt_names];exact st₇'.fr,⟨m₈,hn₈,fun z u hz=>absurd hz fgt_none⟩,fun z b hkz hbz=>?_⟩,⟨?_,?_,fun b hb=>?_⟩,?_,q₇⟩
 ·obtain ⟨vo,h1,_⟩:=st₇'.cl z b hkz hbz
  exact ⟨vo,h1.sameBut hs₈ (st₇'.fr.cells z b hbz).2,fun u hz=>absurd hz fgt_none⟩
 ·exact ((ev₅.same.tr ev₆.same).tr ev₇.same).set
 ·show (c.F σ s).le (fz h₈ c.own σ₇)
  rw [hF₈]
  exact ev₅.grow.trans (ev₆.grow.trans ev₇.grow)
 ·exact ((ev₅.own b (st.fr.sub b hb)).trans ((ev₆.hid b hb).trans (ev₇.hid b hb))).trans (.same hs₈ (fun q=>st₇'.fr.loc' (q ▸ hb)))
 ·show RepF g.w (fz h₈ c.own σ₇) f flw
  rw [hF₈];exact rf₇
theorem es_tryN {body:List Stmt} {h₀:ExceptHandler} {hs:List ExceptHandler} {pos:Pos} {Q:AFl→Rho→Sto→Prop} (h:∀ E,es (c.re E) ρ (execs body c.env) σ Q):es c ρ (exec (.Try body (h₀::hs) [] [] pos) c.env) σ Q:=fun s st=>by
 have key:∀ E',wpAny g.M c.A (execs body c.env) (EsP (c.re E') σ s Q) E' s:=fun E'=>h E' s (St.re (E:=E') st)
 refine wpAny_Try_except (wpAny_mono (key _) (fun f s₁ H=>?_) fun _ _ e=>e)
 obtain ⟨fl,ρ₁,σ₁,i₁,e₁,r₁,q₁⟩:=H
 have e₁':EvS c σ s σ₁ s₁:=⟨e₁.same,e₁.grow,e₁.hid⟩
 cases r₁ with
 | next=>exact wpAny_execs_nil ⟨_,ρ₁,σ₁,i₁.er,e₁',.next,q₁⟩
 | brk=>exact ⟨_,ρ₁,σ₁,i₁.er,e₁',.brk,q₁⟩
 | cont=>exact ⟨_,ρ₁,σ₁,i₁.er,e₁',.cont,q₁⟩
 | ret hr=>exact ⟨_,ρ₁,σ₁,i₁.er,e₁',.ret hr,q₁⟩
end Mine
end
section
namespace Mine
open PySem PySem.W
noncomputable def classOk (K:Frag) (C:Addr):Bool:=findIn K (.ref C) "__getattribute__" == some (some (.builtin "BaseException.__getattribute__")) && findIn K (.ref C) "__getattr__" == some none && findIn K (.ref C) "__class__" == some (some (.builtin "object.__class__"))
section
variable {prog:Program} {w:World} {A:Around} {E:Value→Shared→Prop} {h:Heap} {g:Array GenState} {d:Drawn} {t:Nat} {os:OsState} {a:Addr} {o:Obj} {vs:Array Value} {C T:Addr} {K:Frag}
theorem class_get_exc {R:Result→Shared→Prop} (ec:ExcAt h C T) (hx:h.get? a=some o) (hc:o.cls = .ref C) (hq:R (.ok (.ret (.ref C))) ⟨h,g,d,t,os⟩) :
  codeAny (model prog w) A (.call (.builtin "getset_descriptor.__get__") ⟨[.builtin "object.__class__", .ref a,.ref C],[]⟩) R ⟨h,g,d,t,os⟩:=by
 obtain ⟨nm,q,N,bs,hdct,sn,sub,ab,col,dd,k0,k1,k2,k3,k5,mN,hC,_,_,_⟩:=ec
 have hT5:(⟨h,g,d,t,os⟩:Shared).TypeIs (.builtin "object.__class__") "getset_descriptor" := F.typeOf_object_class
 have hcB:(Value.ref C :: .ref T::veb).contains (.type (".".intercalate ("object.__class__".cutAt '.').dropLast))=true:=by rw [F.owner_object_class];simp
 refine codeAny_call_builtin F.slot_gs_get.plain F.entry_gs_get (F.slot_gs_get.check _ _ _ _ _ _ _ _ hT5 (F.args_gs_get _ _ _) ?_)
 repeat (any_goals (first | assumption | (with_reducible refine wpAny_loadPart_at hx ?_;rw [hc]) | (with_reducible refine wpAny_isSubtype_exc hC ?_;rw [hcB]) | wp_step))
 refine ⟨Code.quiet_builtin _ (by decide +kernel),codeAny_builtin F.entry_object_class ?_⟩
 repeat (any_goals (first | assumption | (with_reducible refine wpAny_loadPart_at hx ?_;rw [hc]) | wp_step))
theorem class_entry_exc {tk:Tok} {Q:Fin→Shared→Prop} (X:K.In h) (ok:classOk K C=true) (ec:ExcAt h C T) (hx:h.get? a=some o) (hc:o.cls = .ref C) (hq:Q (.done (.ret (.ref C))) ⟨h,g,d,t,os⟩) :
  wpAny (model prog w) A (Builtin.«object.__getattribute__» ⟨[.ref a,.str "__class__" tk],[]⟩) Q E ⟨h,g,d,t,os⟩:=by
 have hT5:(⟨h,g,d,t,os⟩:Shared).TypeIs (.builtin "object.__class__") "getset_descriptor" := F.typeOf_object_class
 have f5:=F.typeOf_object_class
 have f6:=F.slot_gs_get.lookup
 have f7:=F.slot_gs_set.lookup
 unfold classOk at ok
 simp only [Bool.and_eq_true,beq_iff_eq] at ok
 repeat (any_goals (first | assumption | (with_reducible refine wpAny_loadPart_at hx ?_;rw [hc]) | with_reducible refine Looks.at (looks_findIn X ok.2) ?_ | wp_step))
 refine class_get_exc ec hx hc ?_
 repeat (any_goals (first | assumption | wp_step))
theorem check_ga_exc {M:Model} {nameV:Value} {Q:Unit→Shared→Prop} (ec:ExcAt h C T) (hx:h.get? a=some o) (hc:o.cls = .ref C) (hq:Q () ⟨h,g,d,t,os⟩):wpAny M A (checkBuiltinCall "BaseException.__getattribute__" ⟨[.ref a,nameV],[]⟩) Q E ⟨h,g,d,t,os⟩:=by
 obtain ⟨nm,q,N,bs,hdct,sn,sub,ab,col,dd,k0,k1,k2,k3,k5,mN,hC,_,_,_⟩:=ec
 have hk:builtinKind "BaseException.__getattribute__" = some .slot:=by decide +kernel
 have hsplit:splitId "BaseException.__getattribute__" = some ("BaseException", "__getattribute__"):=by decide +kernel
 have hcB:(Value.ref C :: .ref T::veb).contains (.type "BaseException")=true:=by simp
 have ha:=F.args_bexc_ga (.ref a) nameV
 simp only [checkBuiltinCall,hk,hsplit]
 refine wpAny_bind ?_
 ·unfold isInstance
  repeat (first | (with_reducible refine wpAny_loadPart_at hx ?_;rw [hc]) | (with_reducible refine wpAny_isSubtype_exc hC ?_;rw [hcB]) | wp_step)
  exact hq
theorem class_call_exc {tk:Tok} {R:Result→Shared→Prop} (X:K.In h) (ok:classOk K C=true) (ec:ExcAt h C T) (hx:h.get? a=some o) (hc:o.cls = .ref C) (hq:R (.ok (.ret (.ref C))) ⟨h,g,d,t,os⟩) :
  codeAny (model prog w) A (.call (.builtin "BaseException.__getattribute__") ⟨[.ref a,.str "__class__" tk],[]⟩) R ⟨h,g,d,t,os⟩ :=
 codeAny_call_builtin F.attr_ValueError.ga.plain F.entry_bexc_ga (check_ga_exc ec hx hc (class_entry_exc X ok ec hx hc hq))
theorem class_by_exc {tk:Tok} {fill expr:Bool} {Q:Value→Shared→Prop} (X:K.In h) (ok:classOk K C=true) (ec:ExcAt h C T) (hx:h.get? a=some o) (hc:o.cls = .ref C) (hq:Q (.ref C) ⟨h,g,d,t,os⟩) :
  wpAny (model prog w) A (getAttrBy (.ref a) (.str "__class__" tk) fill expr) Q E ⟨h,g,d,t,os⟩:=by
 have f3:=F.attr_ValueError.ga.bind (.ref a)
 have hx0:(expr && onTheHeap (Value.builtin "BaseException.__getattribute__"))=false:=by cases expr <;> rfl
 have hx2:(Value.builtin "BaseException.__getattribute__" == Value.builtin "object.__getattribute__")=false:=by decide +kernel
 have hx1:(onTheHeap (Value.ref C) && Value.builtin "BaseException.__getattribute__" == Value.builtin "object.__getattribute__")=false:=by rw [hx2];rfl
 have ok':=ok
 unfold classOk at ok'
 simp only [Bool.and_eq_true,beq_iff_eq] at ok'
 repeat (any_goals (first | assumption | (with_reducible refine wpAny_loadPart_at hx ?_;rw [hc]) | with_reducible refine Looks.at (looks_findIn X ok'.1.1) ?_ | with_reducible refine Looks.at (looks_findIn X ok'.1.2) ?_ | wp_step))
 refine class_call_exc X ok ec hx hc ?_
 repeat (any_goals (first | assumption | wp_step))
theorem class_attr_exc {Q:Option Value→Shared→Prop} (X:K.In h) (ok:classOk K C=true) (ec:ExcAt h C T) (hx:h.get? a=some o) (hc:o.cls = .ref C) (hq:Q (some (.ref C)) ⟨h,g,d,t+1,os⟩) :
  wpAny (model prog w) A (getAttr? (.ref a) "__class__") Q E ⟨h,g,d,t,os⟩:=by
 unfold getAttr? getAttrBy?
 repeat (any_goals (first | assumption | with_reducible apply class_by_exc X ok ec hx hc | wp_step))
theorem isinst_exc_no {D:Addr} {dep:Int} {tk:Tok} {Q:Fin→Shared→Prop} (X:K.In h) (ok:classOk K C=true) (ec:ExcAt h C T) (ed:ExcAt h D T) (hne:C≠D) (hnT:T≠D) (hx:h.get? a=some o) (hc:o.cls = .ref C) (hq:Q (.done (.ret (.bool false))) ⟨h,g,d,t+1,os⟩) :
  wpAny (model prog w) A (Builtin.«isinstance.nested» ⟨[.ref a,.ref D,.int dep tk],[]⟩) Q E ⟨h,g,d,t,os⟩:=by
 obtain ⟨nm,q,N,bs,hdct,sn,sub,ab,col,dd,k0,k1,k2,k3,k5,mN,hC,_,_,_⟩:=id ec
 obtain ⟨nm',q',N',bs',hdct',sn',sub',ab',col',dd',k0',k1',k2',k3',k5',mN',hD,_,_,_⟩:=ed
 have hn1:(Value.ref C==Value.ref D)=false:=by simpa using hne
 have hcD:(Value.ref C :: .ref T::veb).contains (.ref D)=false:=by simp [hne.symm,hnT.symm]
 repeat (any_goals (first | assumption | (with_reducible refine wpAny_loadPart_at hx ?_;rw [hc]) | with_reducible refine wpAny_loadPart_at hC ?_ | with_reducible refine wpAny_loadPart_at hD ?_ | (with_reducible refine wpAny_isSubtype_exc hC ?_;rw [hcD]) | with_reducible apply class_attr_exc X ok ec hx hc | wp_step))
theorem isinst_exc_yes {dep:Int} {tk:Tok} {Q:Fin→Shared→Prop} (hx:h.get? a=some o) (hc:o.cls = .ref C) (hq:Q (.done (.ret (.bool true))) ⟨h,g,d,t,os⟩) :
  wpAny (model prog w) A (Builtin.«isinstance.nested» ⟨[.ref a,.ref C,.int dep tk],[]⟩) Q E ⟨h,g,d,t,os⟩:=by
 have hn1:(Value.ref C==Value.ref C)=true:=by simp
 repeat (any_goals (first | assumption | (with_reducible refine wpAny_loadPart_at hx ?_;rw [hc]) | wp_step))
theorem isinst_exc_val {dep:Int} {tk:Tok} {Q:Fin→Shared→Prop} (ec:ExcAt h C T) (hx:h.get? a=some o) (hc:o.cls = .ref C) (hq:Q (.done (.ret (.bool true))) ⟨h,g,d,t,os⟩) :
  wpAny (model prog w) A (Builtin.«isinstance.nested» ⟨[.ref a,.type "ValueError", .int dep tk],[]⟩) Q E ⟨h,g,d,t,os⟩:=by
 obtain ⟨nm,q,N,bs,hdct,sn,sub,ab,col,dd,k0,k1,k2,k3,k5,mN,hC,_,_,_⟩:=id ec
 have hcD:(Value.ref C :: .ref T::veb).contains (.type "ValueError")=true:=by simp
 have hty:typeOf (.type "ValueError")=pure (.type "type"):=by kernel_rfl
 repeat (any_goals (first | assumption | (with_reducible refine wpAny_loadPart_at hx ?_;rw [hc]) | (with_reducible refine wpAny_isSubtype_exc hC ?_;rw [hcD]) | wp_step))
end
section
variable {g:Gx} {c:Cx g} {σ:Sto} {C D T:Addr} {K:Frag} {Q:AV→Sto→Prop}
theorem keeps_of {s:Shared} (i:c.Inv σ s):∀ b o,g.H₀.get? b=some o→s.heap.get? b=some o:=fun b o e=>(fz_eq.mp (i.keep b o e)).2.2
theorem cal_isExcNo (X:K.In g.H₀) (ok:classOk K C=true) (ec:ExcAt g.H₀ C T) (ed:ExcAt g.H₀ D T) (hne:C≠D) (hnT:T≠D) (q:Q (.bool false) σ):cal c (.builtin "isinstance") [.exc C,.raw (.ref D)] σ Q:=fun s vs i r=>by
 obtain ⟨_,_,rfl,r1,r2⟩:=r.two
 obtain ⟨a,o,rfl,hF,hc⟩:=r1.invExc
 obtain rfl:=r2.invRaw
 refine call_isinstance (S:=fun _ R s=>(K.In s.heap∧ExcAt s.heap C T∧ExcAt s.heap D T∧s.heap.get? a=some o)∧R (.ok (.ret (.bool false))) { s with toks:=s.toks+1 }) (fun _ _ _ _ s hs=>?_) ⟨⟨X_of X i,ec.keeps (keeps_of i),ed.keeps (keeps_of i),(fz_eq.mp hF).2.2⟩,⟨_,σ,i.toks _,.toks ..,.bool _,q⟩⟩
 obtain ⟨h,g,d,t,os⟩:=s
 exact isinstance_outer (isinst_exc_no hs.1.1 ok hs.1.2.1 hs.1.2.2.1 hne hnT hs.1.2.2.2 hc hs.2) (by intro e;cases e)
theorem cal_isExcYes (q:Q (.bool true) σ):cal c (.builtin "isinstance") [.exc C,.raw (.ref C)] σ Q:=fun s vs i r=>by
 obtain ⟨_,_,rfl,r1,r2⟩:=r.two
 obtain ⟨a,o,rfl,hF,hc⟩:=r1.invExc
 obtain rfl:=r2.invRaw
 refine call_isinstance (S:=fun _ R s=>s.heap.get? a=some o∧R (.ok (.ret (.bool true))) s) (fun _ _ _ _ s hs=>?_) ⟨(fz_eq.mp hF).2.2,⟨_,σ,i,.refl ..,.bool _,q⟩⟩
 obtain ⟨h,g,d,t,os⟩:=s
 exact isinstance_outer (isinst_exc_yes hs.1 hc hs.2) (by intro e;cases e)
theorem cal_isExcVal (ec:ExcAt g.H₀ C T) (q:Q (.bool true) σ):cal c (.builtin "isinstance") [.exc C,.raw (.type "ValueError")] σ Q:=fun s vs i r=>by
 obtain ⟨_,_,rfl,r1,r2⟩:=r.two
 obtain ⟨a,o,rfl,hF,hc⟩:=r1.invExc
 obtain rfl:=r2.invRaw
 refine call_isinstance (S:=fun _ R s=>(ExcAt s.heap C T∧s.heap.get? a=some o)∧R (.ok (.ret (.bool true))) s) (fun _ _ _ _ s hs=>?_) ⟨⟨ec.keeps (keeps_of i),(fz_eq.mp hF).2.2⟩,⟨_,σ,i,.refl ..,.bool _,q⟩⟩
 obtain ⟨h,g,d,t,os⟩:=s
 exact isinstance_outer (isinst_exc_val hs.1.1 hs.1.2 hc hs.2) (by intro e;cases e)
end
noncomputable def keyStr (e:DictEntry):Bool:=match e.key with | .str _ _=>true | _=>false
theorem ns_of {h:Heap} {K:Frag} (X:K.In h) {N:Addr} {c1:Value} {d1:Option Addr} {es:Array DictEntry} {n:Nat} {sl:Array (Option Value)} (hN:K.lookup N=some ⟨c1,d1,.dict es n,sl⟩) (hs:es.all keyStr=true):h.Ns N (nsFind es):=by
 refine ⟨_,es,n,X N _ hN,rfl,fun e he=>?_,fun _=>rfl⟩
 have:=(Array.all_eq_true_iff_forall_mem.mp hs) e he
 unfold keyStr at this
 cases hk:e.key <;> rw [hk] at this <;> first | exact ⟨_,_,rfl⟩ | cases this
theorem excAt_of {h:Heap} {K:Frag} {C T N:Addr} {nm q:Str} {bs:List Value} {hdct:Bool} {sn:List Str} {sub:List Value} {ab:Bool} {col:Option Bool} {dd d1 d2 dd':Option Addr} {k0 k1 k2 k3 k5:Option Value} {c0 c1 c2:Value} {es es':Array DictEntry} {n n':Nat} {sl sl2 sl':Array (Option Value)} {cd:ClassData} (X:K.In h)
  (hC:K.lookup C=some (excClassObj nm q C N bs (.ref T::veb) hdct sn sub ab col dd k0 k1 k2 k3 k5 "ValueError.__new__")) (hN:K.lookup N=some ⟨c1,d1,.dict es n,sl⟩) (hs:es.all keyStr=true) (hi:nsFind es "__init__" = none)
  (hT:K.lookup T=some { cls:=c0,dict:=dd',data := .cls cd,slots:=sl' }) (hNT:K.lookup cd.ns=some ⟨c2,d2,.dict es' n',sl2⟩) (hs':es'.all keyStr=true) (hi':nsFind es' "__init__" = none):ExcAt h C T :=
 ⟨_,_,_,_,_,_,_,_,_,_,_,_,_,_,_,_,X C _ hC,ns_of X hN hs,hi,.own (X T _ hT) (ns_of X hNT hs') hi' .base⟩
end Mine
end
section
namespace Mine
open PySem PySem.W
variable {g:Gx} {c:Cx g} {σ:Sto} {Q:AV→Sto→Prop}
theorem cal_isNoStr {x:Str} {N:String} (h1:(Value.type "str" == Value.type N)=false) (h2:typeOf (.type N)=pure (.type "type")) (h3:isSubtype (.type "str") (.type N)=pure false) (q:Q (.bool false) σ):cal c (.builtin "isinstance") [.str x,.raw (.type N)] σ Q:=fun s vs iv r=>by
 obtain ⟨_,_,rfl,r1,r2⟩:=r.two
 obtain ⟨_,rfl⟩:=r1.invStr
 obtain rfl:=r2.invRaw
 exact call_isinstance (isinstance_false_str h1 h2 h3) ⟨_,σ,iv.toks _,.toks ..,.bool _,q⟩
theorem cal_isNoInt {x:Int} {N:String} (h1:(Value.type "int" == Value.type N)=false) (h2:typeOf (.type N)=pure (.type "type")) (h3:isSubtype (.type "int") (.type N)=pure false) (q:Q (.bool false) σ):cal c (.builtin "isinstance") [.int x,.raw (.type N)] σ Q:=fun s vs iv r=>by
 obtain ⟨_,_,rfl,r1,r2⟩:=r.two
 obtain ⟨_,rfl⟩:=r1.invInt
 obtain rfl:=r2.invRaw
 exact call_isinstance (isinstance_false_int h1 h2 h3) ⟨_,σ,iv.toks _,.toks ..,.bool _,q⟩
theorem cal_isNoBool {x:Bool} {N:String} (h1:(Value.type "bool" == Value.type N)=false) (h2:typeOf (.type N)=pure (.type "type")) (h3:isSubtype (.type "bool") (.type N)=pure false) (q:Q (.bool false) σ):cal c (.builtin "isinstance") [.bool x,.raw (.type N)] σ Q:=fun s vs iv r=>by
 obtain ⟨_,_,rfl,r1,r2⟩:=r.two
 obtain rfl:=r1.invBool
 obtain rfl:=r2.invRaw
 exact call_isinstance (isinstance_false_bool h1 h2 h3) ⟨_,σ,iv.toks _,.toks ..,.bool _,q⟩
theorem cal_isNoTup {l:List AV} {N:String} (h1:(Value.type "tuple" == Value.type N)=false) (h2:typeOf (.type N)=pure (.type "type")) (h3:isSubtype (.type "tuple") (.type N)=pure false) (q:Q (.bool false) σ):cal c (.builtin "isinstance") [.tup l,.raw (.type N)] σ Q:=fun s vs iv r=>by
 obtain ⟨_,_,rfl,r1,r2⟩:=r.two
 obtain ⟨a,us,n,rfl,hF,_⟩:=r1.invTup
 obtain rfl:=r2.invRaw
 exact call_isinstance (isinstance_false_tuple h1 h2 h3) ⟨⟨_,(fz_eq.mp hF).2.2,rfl⟩,⟨_,σ,iv.toks _,.toks ..,.bool _,q⟩⟩
theorem cal_isNoList {l:List AV} {N:String} (h1:(Value.type "list" == Value.type N)=false) (h2:typeOf (.type N)=pure (.type "type")) (h3:isSubtype (.type "list") (.type N)=pure false) (q:Q (.bool false) σ):cal c (.builtin "isinstance") [.list l,.raw (.type N)] σ Q:=fun s vs iv r=>by
 obtain ⟨_,_,rfl,r1,r2⟩:=r.two
 obtain ⟨a,us,n,rfl,hF,_⟩:=r1.invList
 obtain rfl:=r2.invRaw
 exact call_isinstance (isinstance_false_list h1 h2 h3) ⟨⟨_,(fz_eq.mp hF).2.2,rfl⟩,⟨_,σ,iv.toks _,.toks ..,.bool _,q⟩⟩
theorem cal_isNoNone {N:String} (h:∀ {s:Shared} {P:Value→Shared→Prop},P (.bool false) { s with toks:=s.toks+1 }→wpAny g.M c.A (call (.builtin "isinstance") [.none,.type N]) P c.E s) (q:Q (.bool false) σ):cal c (.builtin "isinstance") [.none,.raw (.type N)] σ Q:=fun s vs iv r=>by
 obtain ⟨_,_,rfl,r1,r2⟩:=r.two
 obtain rfl:=r1.invNone
 obtain rfl:=r2.invRaw
 exact h ⟨_,σ,iv.toks _,.toks ..,.bool _,q⟩
theorem cal_boolInt {b:Bool} (q:Q (.bool true) σ):cal c (.builtin "isinstance") [.bool b,.raw (.type "int")] σ Q:=fun s vs iv r=>by
 obtain ⟨_,_,rfl,r1,r2⟩:=r.two
 obtain rfl:=r1.invBool
 obtain rfl:=r2.invRaw
 exact call_isinstance (isinstance_true (Tx := "bool") (by kernel_rfl) (by rw [isSubtype_type];kernel_rfl)) ⟨rfl,⟨_,σ,iv,.refl ..,.bool _,q⟩⟩
theorem cal_boolBool {b:Bool} (q:Q (.bool true) σ):cal c (.builtin "isinstance") [.bool b,.raw (.type "bool")] σ Q:=fun s vs iv r=>by
 obtain ⟨_,_,rfl,r1,r2⟩:=r.two
 obtain rfl:=r1.invBool
 obtain rfl:=r2.invRaw
 exact call_isinstance (isinstance_true (Tx := "bool") (by kernel_rfl) (by rw [isSubtype_type];kernel_rfl)) ⟨rfl,⟨_,σ,iv,.refl ..,.bool _,q⟩⟩
end Mine
end
section
namespace Mine
open PySem PySem.W
open scoped Classical
variable {g:Gx} {c:Cx g} {ρ:Rho} {σ:Sto} {Q:AV→Sto→Prop}
section
variable {l:List Env} {C:Addr} {P:Sto→Prop} {K:Frag} {sc:Scope} {id:Str} {p pos:Pos} {e:Expr} {rest:List Expr} {f:Addr}
theorem evX_callF (T:TopG g K) (hsc:c.sc=sc) (hn:nsIn K mainGlobals id=some (some (.ref f))) (hx:sc.names.lookup id=some .globalImplicit) (ok:fnOk K f=true)
  (h:∀ E,evl (c.re E) ρ (e::rest) σ fun xs σ₁=>calX c l (.ref f) xs σ₁ C P) (hd:(id==("__debug__":Str))=false:=by rfl) (hp:(e::rest).all noStar=true:=by rfl):evX c l ρ (.Call (.Name id p) (e::rest) [] pos) σ C P :=
 evX_call (T.glob hn hd) (by rw [hsc];exact hx) (callee_K T.X ok) h hp
theorem evX_callC (T:TopG g K) (hsc:c.sc=sc) (hn:nsIn K mainGlobals id=some (some (.ref f))) (hx:sc.names.lookup id=some .globalImplicit) (ok:keepIn K (.ref f)=true)
  (h:∀ E,evl (c.re E) ρ (e::rest) σ fun xs σ₁=>calX c l (.ref f) xs σ₁ C P) (hd:(id==("__debug__":Str))=false:=by rfl) (hp:(e::rest).all noStar=true:=by rfl):evX c l ρ (.Call (.Name id p) (e::rest) [] pos) σ C P :=
 evX_call (T.glob hn hd) (by rw [hsc];exact hx) (.keeps fun h hk=>keeps_K ok h (T.X.keeps hk)) h hp
end
theorem sz {n:Nat} (h:Nat.ble n 1000=true:=by rfl):n≤sizeLine:=Nat.le_trans (Nat.le_of_ble_eq_true h) (by rw [sizeLine_eq];decide)
theorem cal_fnF {l:List Env} {f:Addr} {ps rest:List Str} {body:List Stmt} {sc:Scope} {xs:List AV} (fn:FnAt g f ps body sc) (ok:scOk ps rest sc=true) (hroom:c.A.depth < recursionLimit) (hlen:xs.length=ps.length) (fr:FrA c.A l)
  (h:∀ c':Cx g,c'.sc=sc→c'.isFn=true→c'.A=c.A.deeper c'.env→FrA c'.A (c'.env::l)→es c' (rho0 ps rest xs) (execs body c'.env) σ (fnPost Q)):cal c (.ref f) xs σ Q:=fun s vs i r =>
 wpAny_call (fn_gen fn ok hroom hlen i r fun c' s₁ h1 h2 h3 h4 h5 _ _ _ st _ _ _=>h c' h1 h2 h3 (by rw [h3];exact fr.deeper h5 h4) s₁ st)
theorem cal_intB {b:Bool} (q:Q (.int (if b then 1 else 0)) σ):cal c (.type "int") [.bool b] σ Q:=fun s vs i r=>by
 obtain ⟨_,rfl,r1⟩:=r.one
 obtain rfl:=r1.invBool
 exact call_int_bool ⟨_,σ,i.toks _,.toks ..,.int _ _,q⟩
theorem op_pow12 (q:Q (.int 1000000000000) σ):op2 c (binaryOp .Pow) (.int 10) (.int 12) σ Q:=fun s x y i r1 r2=>by
 obtain ⟨_,rfl⟩:=r1.invInt;obtain ⟨_,rfl⟩:=r2.invInt
 exact AutoIntOps.pow_4 (by decide) (by decide) (by decide) (by decide) (by decide) ⟨_,σ,i.toks _,.toks ..,.int _ _,q⟩
theorem cmp_nes {x y:Str} (q:Q (.bool (!(x==y))) σ):op2 c (compareOp .NotEq) (.str x) (.str y) σ Q:=fun s u v i r1 r2=>by
 obtain ⟨_,rfl⟩:=r1.invStr;obtain ⟨_,rfl⟩:=r2.invStr
 exact SeqAt.RcNeAt.str_str _ _ _ _ g.prog g.w c.E _ ⟨_,σ,i,.refl ..,.bool _,q⟩
theorem cal_indexT {x:AV} {bs:List Bool} {j:Nat} (hx:Seq σ x (bs.map .bool)) (hj:bs[j]?=some true) (hz:bs.length≤100) (hno:∀ m,m < j→bs[m]?=some false) (q:Q (.int j) σ):cal c (.builtin "list.index") [x,.bool true] σ Q:=fun s vs i r=>by
 obtain ⟨_,_,rfl,r1,r2⟩:=r.two
 obtain ⟨a,us,n,rfl,hg,hv⟩:=hx.heap i r1
 obtain rfl:=r2.invBool
 have hlen:us.length=bs.length:=by simpa using hv.length
 have at_:∀ m b,bs[m]?=some b→us[m]?=some (Value.bool b):=fun m b h=>by
  obtain ⟨v,h1,h2⟩:=hv.get (i:=m) (x := .bool b) (by rw [List.getElem?_map,h];rfl)
  rw [h1,h2.invBool]
 obtain ⟨hjl,hje⟩:=List.getElem?_eq_some_iff.mp (at_ j true hj)
 refine call_meets F.slot_list_index ⟨_,hg,rfl⟩ F.entry_list_index (F.args_list_index_2 _ _) (SeqAt.list_indexAt a us.toArray n none #[] (.bool true) (fun v=>v == .bool true) j (by simpa using hjl) (by exact o48 hz hlen hjl) (by simp [hje]) fun m hm h=>?_) ⟨hg,fun y hy=>?_,_,σ,i.toks _,.toks ..,.int _ _,q⟩
 ·obtain ⟨hml,hme⟩:=List.getElem?_eq_some_iff.mp (at_ m false (hno m h))
  simp [hme]
 ·obtain ⟨m,hm⟩:=List.mem_iff_getElem?.mp (Array.mem_toList_iff.mpr hy)
  obtain ⟨x,h1,h2⟩:=hv.get' (i:=m) (v:=y) (by simpa using hm)
  rw [List.getElem?_map,Option.map_eq_some_iff] at h1
  obtain ⟨b,_,rfl⟩:=h1
  obtain rfl:=h2.invBool
  have:=SeqAt.EqAt.bool_bool (A:=c.A.in1) (s:=s) b true
  cases b <;> exact this
theorem cmp_nek {x y:AV} (tx:tkey x=true) (ty:tkey y=true) (hu:c.A.units+8 < cLine) (q:Q (.bool (!decide (x=y))) σ):op2 c (compareOp .NotEq) x y σ Q:=fun s u v i r1 r2=>by
 have fin:∀ b,b=(!decide (x=y))→SeqAt.RcNeAt c.A s u v b→wpAny g.M c.A (compareOp .NotEq u v) (PgP c (Rep g.w) σ s Q) c.E s:=fun b hb h=>by
  subst hb;exact h g.prog g.w c.E _ ⟨_,σ,i,.refl ..,.bool _,q⟩
 have hu':c.A.units < cLine:=by exact o17 hu
 cases x with
 | none =>
  obtain rfl:=r1.invNone
  cases y with
  | none=>obtain rfl:=r2.invNone;exact fin _ (by simp) SeqAt.RcNeAt.none_none
  | int=>obtain ⟨_,rfl⟩:=r2.invInt;exact fin _ (by simp) (SeqAt.RcNeAt.none_int _ _)
  | tup=>obtain ⟨a,vs,n,rfl,h,_⟩:=r2.invTup;exact fin _ (by simp) (SeqAt.RcNeAt.none_tuple (items:=vs.toArray) ⟨_,fz_sub _ _ h,rfl,n,rfl⟩ hu')
  | _=>cases ty
 | int =>
  obtain ⟨_,rfl⟩:=r1.invInt
  cases y with
  | none=>obtain rfl:=r2.invNone;exact fin _ (by simp) (SeqAt.RcNeAt.int_none _ _)
  | int=>obtain ⟨_,rfl⟩:=r2.invInt;exact fin _ (by rw [← eqA_key rfl rfl];rfl) (SeqAt.RcNeAt.int_int _ _ _ _)
  | tup=>obtain ⟨a,vs,n,rfl,h,_⟩:=r2.invTup;exact fin _ (by simp) (SeqAt.RcNeAt.int_tuple (items:=vs.toArray) _ _ ⟨_,fz_sub _ _ h,rfl,n,rfl⟩ hu')
  | _=>cases ty
 | tup l =>
  obtain ⟨a,vs,n,rfl,h,hl⟩:=r1.invTup
  have ht:s.heap.IsTuple a vs.toArray:=⟨_,fz_sub _ _ h,rfl,n,rfl⟩
  cases y with
  | none=>obtain rfl:=r2.invNone;exact fin _ (by simp) (SeqAt.RcNeAt.tuple_none ht hu')
  | int=>obtain ⟨_,rfl⟩:=r2.invInt;exact fin _ (by simp) (SeqAt.RcNeAt.tuple_int _ _ ht hu')
  | tup l' =>
   obtain ⟨b,us,k,rfl,h',hl'⟩:=r2.invTup
   have ht':s.heap.IsTuple b us.toArray:=⟨_,fz_sub _ _ h',rfl,k,rfl⟩
   have p1:plainL l=true:=tkey_plain tx
   have p2:plainL l'=true:=tkey_plain ty
   have hd:deepL l≤2:=by have:=tkey_deep tx;unfold deep at this;exact o49 this
   refine fin (!((List.range (min vs.toArray.size us.toArray.size)).all (fun j=>eqA (l.getD j .none) (l'.getD j .none)) && vs.toArray.size==us.toArray.size)) ?_ (SeqAt.RcNeAt.tuples ht ht' hu' fun j h1 h2=>?_)
   ·rw [← eqA_key (tkey_isKey tx) (tkey_isKey ty),show eqA (.tup l) (.tup l')=eqL l l' from rfl,eqL_all,List.size_toArray,List.size_toArray,hl.length,hl'.length]
   ·rw [List.size_toArray] at h1 h2
    obtain ⟨x1,e1,q1⟩:=hl.get' (i:=j) (v:=vs[j]) (List.getElem?_eq_getElem h1)
    obtain ⟨x2,e2,q2⟩:=hl'.get' (i:=j) (v:=us[j]) (List.getElem?_eq_getElem h2)
    have g1:l.getD j .none=x1:=by rw [List.getD_eq_getElem?_getD,e1];rfl
    have g2:l'.getD j .none=x2:=by rw [List.getD_eq_getElem?_getD,e2];rfl
    rw [g1,g2]
    have:=eqAt (A:=c.A.in1) (s:=s) 2 (Nat.le_trans (deepL_get e1) hd) q1 q2 (plainL_get p1 e1) (plainL_get p2 e2) fz_sub (by show c.A.units+1+2 < cLine;exact o50 hu)
    simpa using this
  | _=>cases ty
 | _=>cases tx
section
variable {prog:Program} {w:World} {A:Around} {E:Value→Shared→Prop} {R:Result→Shared→Prop} {I:Addr} {fp:List Addr} {n:Nat} {P:Nat→Value→Prop} {Sx:Nat→Heap→Prop}
theorem keys_none {s:Shared} {a:Addr} {vs:List Value} {n:Nat} {Q:Option Value→Shared→Prop} (hh:A.handled=none) (hx:s.heap.get? a=some (lstO vs n)) (h:∀ h' tk,(∀ b o,s.heap.get? b=some o→h'.get? b=some o)→Q none { s with heap:=h',toks:=tk }) :
  wpAny (model prog w) A (getAttr? (.ref a) "keys") Q E s:=by
 obtain ⟨hp,g,d,tk,os⟩:=s
 have hT:∀ tk',(⟨hp,g,d,tk',os⟩:Shared).TypeIs (.ref a) "list" := fun _=>⟨_,hx,rfl⟩
 have f1:=sub_AttributeError
 have f3:=F.slot_list_getattribute.lookup
 have f4:=F.slot_list_getattribute.bind (.ref a)
 have f5:=am_list_getattr_none
 have hmiss:typeLookup (.type "list") "keys" = pure none:=am_miss_of_fast (by kernel_rfl)
 unfold getAttr? getAttrBy? getAttrBy
 repeat (any_goals (first | assumption | exact hT _ | ((with_reducible show wpAny _ _ (call (Value.builtin "list.__getattribute__") _ _) _ _ _);refine call_meets F.slot_list_getattribute (hT _) am_entry_list_getattribute (F.args_list_getattribute_2 _ _) (meets_getattribute_miss_list a vs.toArray n #[] "keys" _ hmiss (by decide)) ⟨hx,hh,fun h' tk' e hx'=>?_⟩) | wp_step))
 obtain ⟨t',u',he⟩:=hx'.there
 show wpAny _ _ (getattributeRaised _ _ _ _ _ _ _) _ _ _
 unfold getattributeRaised
 repeat (any_goals (first | assumption | wp_step))
 exact h _ _ hx'.keeps
theorem entry_upd_loop:entryFor table "dict.update.loop" = some Builtin.«dict.update.loop» := entryFor_of_tree (by kernel_rfl)
theorem plain_upd_loop:plainId "dict.update.loop" = true:=by decide +kernel
theorem dset_new {l:List (AV×AV)} {k v:AV} (h:k∉l.map (·.1)):dset l k v=l++[(k,v)]:=by
 unfold dset
 rw [dget_none fun j y e=>h (List.mem_map.mpr ⟨_,List.mem_of_getElem? e,rfl⟩)];rfl
theorem upd_loop (W:Walks prog w A.in1 I fp [I] n P Sx) (d:Addr) (hd:d∉fp) (G:Fz) (H:Heap) (l:List (AV×AV)) (hl:l.length=n) (hFH:G.le H.get?) (hI:H.get? I=none) (hdH:H.get? d=none)
  (hit:∀ j v,j < n→P j v→∃ x y,l[j]?=some (x,y)∧Rep w G v (.tup [x,y])) (tl:tkeys l) (hn:(l.map (·.1)).Nodup) (hz:n≤sizeLine) (hu:A.units+4 < cLine) :
  ∀ (k i:Nat) (s:Shared) (es:List DictEntry) (ep:Nat),n - i=k→i≤n→Sx i s.heap→(∀ b o,H.get? b=some o→s.heap.get? b=some o)→s.heap.get? d=some (dctO es ep)→RepE w G es (l.take i) →
  (∀ h' tk es' ep',(∀ b o,H.get? b=some o→h'.get? b=some o)→h'.get? d=some (dctO es' ep')→RepE w G es' l→R (.ok (.ret .none)) { s with heap:=h',toks:=tk }) →
  codeAny (model prog w) A (.builtin "dict.update.loop" ⟨[.ref d,.ref I,rawInt i,.none],[]⟩) R s:=by
 have hdI:d≠I:=fun h=>hd (W.sub _ (by rw [h];exact List.mem_singleton_self _))
 intro k
 induction k with
 | zero =>
  intro i s es ep hk hi hst hH hdd hr hR
  have hin:i=n:=by omega
  subst hin
  refine codeAny_builtin entry_upd_loop ?_
  rw [Around.under_plainId plain_upd_loop _]
  show wpAny _ A.in1 (pyNext (.ref I) >>= _) _ _ s
  refine wpAny_bind (W.done s _ _ hst fun h' tk hk'=>?_)
  have hk2:∀ b o,b≠I→s.heap.get? b=some o→h'.get? b=some o:=fun b o hb e=>hk' b o (by simpa using hb) e
  rw [← hl,List.take_length] at hr
  exact wpAny_bind (wpAny_pure (wpAny_pure (hR h' tk es ep (fun b o e=>hk2 b o (by rintro rfl;rw [hI] at e;cases e) (hH b o e)) (hk2 d _ hdI hdd) hr)))
 | succ k ih =>
  intro i s es ep hk hi hst hH hdd hr hR
  have hlt:i < n:=by omega
  refine codeAny_builtin entry_upd_loop ?_
  rw [Around.under_plainId plain_upd_loop _]
  show wpAny _ A.in1 (pyNext (.ref I) >>= _) _ _ s
  refine wpAny_bind (W.item i s _ _ hlt hst fun v h' tk hP hst' hk'=>?_)
  have hk2:∀ b o,b≠I→s.heap.get? b=some o→h'.get? b=some o:=fun b o hb e=>hk' b o (by simpa using hb) e
  have hH':∀ b o,H.get? b=some o→h'.get? b=some o:=fun b o e=>hk2 b o (by rintro rfl;rw [hI] at e;cases e) (hH b o e)
  have hF':G.le h'.get?:=fun b o e=>hH' b o (hFH b o e)
  obtain ⟨x,y,hxy,rv⟩:=hit i v hlt hP
  obtain ⟨a,us,m,rfl,ha,hus⟩:=rv.invTup
  obtain ⟨kv,yv,rfl,rx,ry⟩:=hus.two
  have ha':=hF' _ _ ha
  have hT:({ s with heap:=h',toks:=tk }:Shared).TypeIs (.ref a) "tuple" := ⟨_,ha',rfl⟩
  refine wpAny_bind (wpAny_holding ?_)
  refine wpAny_bind (wpAny_tryCatch ?_)
  unfold Builtin.Dict.pairItems
  refine wpAny_bind (wpAny_typeOf hT ?_)
  rw [if_pos (by decide)]
  refine wpAny_bind (wpAny_seqItems (s:={ s with heap:=h',toks:=tk }) ha' rfl (wpAny_pure ?_))
  have hxn:x∉(l.take i).map (·.1):=fun hm=>by
   obtain ⟨p,hp,e⟩:=List.mem_map.mp hm
   obtain ⟨j,hj⟩:=List.mem_iff_getElem?.mp hp
   have hji:j < i:=by
    have:=(List.getElem?_eq_some_iff.mp hj).1
    rw [List.length_take] at this;omega
   rw [List.getElem?_take_of_lt hji] at hj
   have:=key_once (k:=x) (y:=p.2) hn (by rw [hj,← e]) hxy
   exact o51 hji this
  have ht:l.take i++[(x,y)]=l.take (i+1):=by rw [List.take_succ,hxy];rfl
  have hsub:∀ p∈l.take i,p∈l:=fun p hp=>List.mem_of_mem_take hp
  refine wpAny_holding (raw_set (s:={ s with heap:=h',toks:=tk }) (l:=l.take i) (k:=x) (z:=y) (by show A.units+1+2 < cLine;exact o52 hu) hF' (hk2 d _ hdI hdd) hr (fun p hp=>tl p (hsub p hp)) (hn.sublist ((List.take_sublist i l).map _)) (tl _ (List.mem_of_getElem? hxy)) rx ry (by rw [List.length_take];omega) fun h'' es' ep' h1 h2 hs=>?_)
  rw [dset_new hxn,ht] at h2
  refine wpAny_pure ⟨plainId_quiet plain_upd_loop _,?_⟩
  have:=ih (i+1) { s with heap:=h'',toks:=tk+dr x } es' ep' (by omega) hlt (W.frame _ _ _ hst' fun b hb o e=>(hs.2 b (fun h=>hd (h ▸ hb))).trans e) (fun b o e=>(hs.2 b (by rintro rfl;rw [hdH] at e;cases e)).trans (hH' b o e)) h1 h2 fun h3 tk3 es3 ep3 a1 a2 a3=>hR h3 tk3 es3 ep3 a1 a2 a3
  exact this
theorem raw_dict_of {s:Shared} {x:Addr} {G:Fz} {vs:List Value} {nx:Nat} {l:List (AV×AV)} {Q:Value→Shared→Prop} (hh:A.handled=none) (hx:s.heap.get? x=some (lstO vs nx)) (hF:G.le s.heap.get?) (hr:RepL w G vs (l.map fun p => .tup [p.1,p.2])) (tl:tkeys l) (hn:(l.map (·.1)).Nodup) (hz:l.length≤sizeLine) (hu:A.units+8 < cLine)
  (hQ:∀ h' tk es' ep',(∀ b o,s.heap.get? b=some o→h'.get? b=some o)→h'.get? s.heap.objs.size=some (dctO es' ep')→RepE w G es' l→Q (.ref s.heap.objs.size) { s with heap:=h',toks:=tk }) :
  wpAny (model prog w) A (call (.type "dict") [.ref x]) Q E s:=by
 refine callType_codes (Q₁:=fun obj s₁=>obj = .ref s.heap.objs.size∧s₁={ s with heap:=s.heap.push { cls := .type "dict", data := .dict #[] } }) F.kt_called_dict (F.kt_typeCall_dict_1 _) F.entry_dict_init (kt_code_dict_new _ ⟨rfl,rfl⟩) ?_
 rintro obj s₁ ⟨rfl,rfl⟩
 generalize hD:s.heap.objs.size=D at hQ ⊢
 generalize hh₁:s.heap.push { cls := .type "dict", data := .dict #[] }=h₁
 have hnew:h₁.get? D=some (dctO [] 0):=by rw [← hh₁,← hD];exact Heap.get?_push_size _ rfl
 have hk₁:∀ b o,s.heap.get? b=some o→h₁.get? b=some o:=fun b o e=>by rw [← hh₁];exact Heap.get?_push_of_some _ e
 have hTn:({ s with heap:=h₁ }:Shared).TypeIs (.ref D) "dict" := ⟨_,hnew,rfl⟩
 have hTo:({ s with heap:=h₁ }:Shared).TypeIs (.ref x) "list" := ⟨_,hk₁ _ _ hx,rfl⟩
 refine ⟨hTn,F.args_dict_init_2 _ _,?_⟩
 unfold Builtin.«dict.__init__»
 refine wpAny_bind ?_
 unfold Builtin.Dict.selfAndRest
 refine wpAny_bind (wpAny_notOrdered_dict hTn ?_)
 show wpAny _ _ (pure (D,[Value.ref x])) _ _ _
 refine wpAny_pure ?_
 show wpAny _ _ (Builtin.Dict.updateFrom "dict.__init__" D (.ref x) [] .none) _ _ _
 unfold Builtin.Dict.updateFrom
 refine wpAny_bind (wpAny_typeOf hTo ?_)
 rw [if_pos (by decide)]
 refine wpAny_bind (keys_none (s:={ s with heap:=h₁ }) (by exact hh) (hk₁ _ _ hx) fun h₂ tk hk₂=>?_)
 rw [if_pos (by rfl)]
 refine wpAny_bind (wpAny_rule ?_)
 have hx₂:=hk₂ _ _ (hk₁ _ _ hx)
 have hl₂:h₂.IsList x vs.toArray:=⟨_,hx₂,rfl,nx,rfl⟩
 have hlen:vs.length=l.length:=by simpa using hr.length
 have hxlt:=Heap.lt_size hx₂
 refine wpAny_bind (wpAny_pyIter_list (s:={ s with heap:=h₂,toks:=tk }) hl₂ ?_)
 generalize hI:h₂.objs.size=I
 generalize hh₃:h₂.push _=h₃
 have hk₃:∀ b o,h₂.get? b=some o→h₃.get? b=some o:=fun b o e=>by rw [← hh₃];exact Heap.get?_push_of_some _ e
 have hDI:D < I:=by rw [← hI];exact Heap.lt_size (hk₂ _ _ hnew)
 have W:Walks prog w A.in1.in1 I [I,x] [I] vs.toArray.size (fun i v=>vs.toArray[i]?=some v) _:=Walks.list (A:=A.in1.in1) hh I x (by rw [← hI];exact Nat.ne_of_lt hxlt) vs.toArray
 refine wpAny_pure ⟨plainId_quiet plain_upd_loop _,upd_loop (A:=A.in1) W D ?_ G s.heap l (by simp [hlen]) hF (Heap.get?_none_of_le (by rw [hD];exact Nat.le_of_lt hDI)) (Heap.get?_none_of_le (by rw [hD];exact Nat.le_refl _)) (fun j v hj hv=>?_) tl hn (by simp [hlen];exact hz) (by show A.units+1+4 < cLine;exact o15 hu) vs.toArray.size 0 _ [] 0 rfl (Nat.zero_le _) ?_ (fun b o e=>hk₃ b o (hk₂ b o (hk₁ b o e))) (hk₃ _ _ (hk₂ _ _ hnew)) .nil fun h' tk es' ep' a1 a2 a3=>⟨rfl,hQ h' tk es' ep' a1 a2 a3⟩⟩
 ·simp only [List.mem_cons,List.not_mem_nil,or_false,not_or]
  exact ⟨Nat.ne_of_lt hDI,by rw [← hD];exact Nat.ne_of_gt (Heap.lt_size hx)⟩
 ·obtain ⟨y,h1,h2⟩:=hr.get' (i:=j) (v:=v) (by simpa using hv)
  rw [List.getElem?_map,Option.map_eq_some_iff] at h1
  obtain ⟨p,h1,rfl⟩:=h1
  exact ⟨p.1,p.2,h1,h2⟩
 ·exact ⟨⟨_,by rw [← hh₃,← hI];exact Heap.get?_push_size _ rfl,rfl,rfl⟩,⟨_,hk₃ _ _ hx₂,rfl,nx,rfl⟩⟩
end
theorem cal_dictP {x:AV} {l:List (AV×AV)} (hS:∃ f o,sysModules≤f∧g.H₀.get? f=some o) (hh:c.A.handled=none) (hx:Seq σ x (l.map fun p => .tup [p.1,p.2])) (tl:tkeys l) (hn:(l.map (·.1)).Nodup) (hz:l.length≤sizeLine) (hu:c.A.units+8 < cLine) (q:Q (.dict l) σ):cal c (.type "dict") [x] σ Q:=fun s vs i r=>by
 obtain ⟨_,rfl,r1⟩:=r.one
 obtain ⟨a,us,n,rfl,hg,hv⟩:=hx.heap i r1
 refine raw_dict_of hh hg fz_sub hv tl hn hz hu fun h' tk es' ep' h1 h2 h3=>?_
 exact made_dict (tk:=tk) i h1 (Nat.le_refl _) h2 h3 (new_ok i hS hn) (.inl q)
theorem ev_dict55 {k1 k2:Nat} {p1 p2 pos:Pos} {a b:Int} (q:∀ v,Q (.raw v) σ):ev c ρ (.Dict [some (.Constant (.int a) k1 p1)] [.Constant (.int b) k2 p2] pos) σ Q:=fun s st=>by
 refine wpAny_Dict_pairs (knd:=intKind g.prog g.w) (pairs:=[(eval (.Constant (.int a) k1 p1) c.env,do let x ← eval (.Constant (.int b) k2 p2) c.env;standAt pos;pure x)]) rfl (by simp) (by simp) ?_
 refine evalPairs_cons (wpAny_Constant_int ?_)
 refine wpAny_bind (wpAny_Constant_int (wpAny_bind (wpAny_standAt (wpAny_pure ?_))))
 refine evalPairs_nil ⟨[(a,_)],⟨intKind_is ..,rfl,trivial⟩,Heap.DictOf.new _,fun h' _ hs=>?_⟩
 have hk:∀ d o,s.heap.get? d=some o→h'.get? d=some o:=fun d o e=>(hs.2 d (Nat.ne_of_lt (Heap.lt_size e))).trans (Heap.get?_push_of_some _ e)
 exact ⟨.raw _,σ,st.inv.keeps hk,.keeps hk,.raw _,q _⟩
end Mine
end
section
open PySem PySem.W PyProof.Rows
namespace Mine.H
noncomputable abbrev lf (o:Obj):BT:=.node o .nil .nil
noncomputable abbrev ke (P:Params)(x:Str)(t:Nat)(v:Value):DictEntry:=⟨PyData.keyHash P x,.str x t,v⟩
noncomputable abbrev tu (l:List Value):Obj:=Obj.mk (.type "tuple") none (.seq ⟨l⟩ 0) ⟨[]⟩
noncomputable abbrev fo (n q:Str)(a:Arguments)(b:List Stmt)(s:Scope)(m k:Value)(j:Nat):Obj:=Obj.mk (.type "function") none (.func (FuncData.mk n q a (.stmts b) s 3 [] .none .none .none m none k .none j)) ⟨[]⟩
noncomputable abbrev f0 (n q:Str)(a:Arguments)(b:List Stmt)(s:Scope):Obj:=Obj.mk .none none (.func (FuncData.mk n q a (.stmts b) s 0 [] .none .none .none .none none .none .none 0)) ⟨[]⟩
noncomputable def bodyS:Stmt→List Stmt
 | .FunctionDef _ _ b _ _ _ _ _ _ _=>b
 | .ClassDef _ _ _ b _ _ _ _ _ _ _=>b
 | _=>[]
noncomputable def argsS:Stmt→Arguments
 | .FunctionDef _ a _ _ _ _ _ _ _ _=>a
 | _=>⟨[],[],none,[],[],none,[]⟩
noncomputable def scopeS:Stmt→Scope
 | .FunctionDef _ _ _ _ _ _ s _ _ _=>s
 | .ClassDef _ _ _ _ _ _ s _ _ _ _=>s
 | _=>⟨.function,[],false,false,[]⟩
noncomputable def nthS (l:List Stmt) (n:Nat):Stmt:=l.getD n (.Pass ⟨0,0,0,0⟩)
noncomputable abbrev pg:Program:=PySem.Challenge.pw_uf060015_05
noncomputable def s0:Stmt:=nthS pg.main.body 0
noncomputable def s1:Stmt:=nthS pg.main.body 1
noncomputable def s2:Stmt:=nthS pg.main.body 2
noncomputable def s3:Stmt:=nthS pg.main.body 3
noncomputable def s4:Stmt:=nthS pg.main.body 4
noncomputable def s5:Stmt:=nthS pg.main.body 5
noncomputable def s6:Stmt:=nthS pg.main.body 6
noncomputable def s7:Stmt:=nthS pg.main.body 7
noncomputable def s8:Stmt:=nthS pg.main.body 8
noncomputable def s9:Stmt:=nthS pg.main.body 9
noncomputable def s10:Stmt:=nthS pg.main.body 10
noncomputable def s11:Stmt:=nthS pg.main.body 11
noncomputable def s12:Stmt:=nthS pg.main.body 12
noncomputable def s13:Stmt:=nthS pg.main.body 13
noncomputable def s14:Stmt:=nthS pg.main.body 14
noncomputable def pa_is_within:Arguments:=argsS s14
noncomputable def sc_is_within:Scope:=scopeS s14
noncomputable def bd_is_within:List Stmt:=bodyS s14
noncomputable def s15:Stmt:=nthS pg.main.body 15
noncomputable def pa_is_sign:Arguments:=argsS s15
noncomputable def sc_is_sign:Scope:=scopeS s15
noncomputable def bd_is_sign:List Stmt:=bodyS s15
noncomputable def s16:Stmt:=nthS pg.main.body 16
noncomputable def pa_need_table:Arguments:=argsS s16
noncomputable def sc_need_table:Scope:=scopeS s16
noncomputable def bd_need_table:List Stmt:=bodyS s16
noncomputable def s17:Stmt:=nthS pg.main.body 17
noncomputable def pa_need_sign:Arguments:=argsS s17
noncomputable def sc_need_sign:Scope:=scopeS s17
noncomputable def bd_need_sign:List Stmt:=bodyS s17
noncomputable def s18:Stmt:=nthS pg.main.body 18
noncomputable def pa_need_hand:Arguments:=argsS s18
noncomputable def sc_need_hand:Scope:=scopeS s18
noncomputable def bd_need_hand:List Stmt:=bodyS s18
noncomputable def s19:Stmt:=nthS pg.main.body 19
noncomputable def pa_need_liars:Arguments:=argsS s19
noncomputable def sc_need_liars:Scope:=scopeS s19
noncomputable def bd_need_liars:List Stmt:=bodyS s19
noncomputable def s20:Stmt:=nthS pg.main.body 20
noncomputable def s21:Stmt:=nthS pg.main.body 21
noncomputable def pa_hearers:Arguments:=argsS s21
noncomputable def sc_hearers:Scope:=scopeS s21
noncomputable def bd_hearers:List Stmt:=bodyS s21
noncomputable def s22:Stmt:=nthS pg.main.body 22
noncomputable def pa_longer_paths:Arguments:=argsS s22
noncomputable def sc_longer_paths:Scope:=scopeS s22
noncomputable def bd_longer_paths:List Stmt:=bodyS s22
noncomputable def s23:Stmt:=nthS pg.main.body 23
noncomputable def pa_paths:Arguments:=argsS s23
noncomputable def sc_paths:Scope:=scopeS s23
noncomputable def bd_paths:List Stmt:=bodyS s23
noncomputable def s24:Stmt:=nthS pg.main.body 24
noncomputable def pa_paths_of:Arguments:=argsS s24
noncomputable def sc_paths_of:Scope:=scopeS s24
noncomputable def bd_paths_of:List Stmt:=bodyS s24
noncomputable def s25:Stmt:=nthS pg.main.body 25
noncomputable def s26:Stmt:=nthS pg.main.body 26
noncomputable def pa_is_saying:Arguments:=argsS s26
noncomputable def sc_is_saying:Scope:=scopeS s26
noncomputable def bd_is_saying:List Stmt:=bodyS s26
noncomputable def s27:Stmt:=nthS pg.main.body 27
noncomputable def pa_need_lies:Arguments:=argsS s27
noncomputable def sc_need_lies:Scope:=scopeS s27
noncomputable def bd_need_lies:List Stmt:=bodyS s27
noncomputable def s28:Stmt:=nthS pg.main.body 28
noncomputable def s29:Stmt:=nthS pg.main.body 29
noncomputable def pa_vote:Arguments:=argsS s29
noncomputable def sc_vote:Scope:=scopeS s29
noncomputable def bd_vote:List Stmt:=bodyS s29
noncomputable def s30:Stmt:=nthS pg.main.body 30
noncomputable def pa_settled:Arguments:=argsS s30
noncomputable def sc_settled:Scope:=scopeS s30
noncomputable def bd_settled:List Stmt:=bodyS s30
noncomputable def s31:Stmt:=nthS pg.main.body 31
noncomputable def s32:Stmt:=nthS pg.main.body 32
noncomputable def pa_Table___init__:Arguments:=argsS (nthS (bodyS s32) 0)
noncomputable def sc_Table___init__:Scope:=scopeS (nthS (bodyS s32) 0)
noncomputable def bd_Table___init__:List Stmt:=bodyS (nthS (bodyS s32) 0)
noncomputable def pa_Table_honest:Arguments:=argsS (nthS (bodyS s32) 1)
noncomputable def sc_Table_honest:Scope:=scopeS (nthS (bodyS s32) 1)
noncomputable def bd_Table_honest:List Stmt:=bodyS (nthS (bodyS s32) 1)
noncomputable def pa_Table_play:Arguments:=argsS (nthS (bodyS s32) 2)
noncomputable def sc_Table_play:Scope:=scopeS (nthS (bodyS s32) 2)
noncomputable def bd_Table_play:List Stmt:=bodyS (nthS (bodyS s32) 2)
noncomputable def pa_Table_told:Arguments:=argsS (nthS (bodyS s32) 3)
noncomputable def sc_Table_told:Scope:=scopeS (nthS (bodyS s32) 3)
noncomputable def bd_Table_told:List Stmt:=bodyS (nthS (bodyS s32) 3)
noncomputable def pa_Table_says:Arguments:=argsS (nthS (bodyS s32) 4)
noncomputable def sc_Table_says:Scope:=scopeS (nthS (bodyS s32) 4)
noncomputable def bd_Table_says:List Stmt:=bodyS (nthS (bodyS s32) 4)
noncomputable def s33:Stmt:=nthS pg.main.body 33
noncomputable def s34:Stmt:=nthS pg.main.body 34
noncomputable def pa__law_cell_at:Arguments:=argsS s34
noncomputable def sc__law_cell_at:Scope:=scopeS s34
noncomputable def bd__law_cell_at:List Stmt:=bodyS s34
noncomputable def s35:Stmt:=nthS pg.main.body 35
noncomputable def pa__law_whole:Arguments:=argsS s35
noncomputable def sc__law_whole:Scope:=scopeS s35
noncomputable def bd__law_whole:List Stmt:=bodyS s35
noncomputable def s36:Stmt:=nthS pg.main.body 36
noncomputable def pa__law_signs:Arguments:=argsS s36
noncomputable def sc__law_signs:Scope:=scopeS s36
noncomputable def bd__law_signs:List Stmt:=bodyS s36
noncomputable def s37:Stmt:=nthS pg.main.body 37
noncomputable def pa__law_table:Arguments:=argsS s37
noncomputable def sc__law_table:Scope:=scopeS s37
noncomputable def bd__law_table:List Stmt:=bodyS s37
noncomputable def s38:Stmt:=nthS pg.main.body 38
noncomputable def pa__law_paths:Arguments:=argsS s38
noncomputable def sc__law_paths:Scope:=scopeS s38
noncomputable def bd__law_paths:List Stmt:=bodyS s38
noncomputable def s39:Stmt:=nthS pg.main.body 39
noncomputable def pa__law_liars:Arguments:=argsS s39
noncomputable def sc__law_liars:Scope:=scopeS s39
noncomputable def bd__law_liars:List Stmt:=bodyS s39
noncomputable def s40:Stmt:=nthS pg.main.body 40
noncomputable def pa__law_mixed:Arguments:=argsS s40
noncomputable def sc__law_mixed:Scope:=scopeS s40
noncomputable def bd__law_mixed:List Stmt:=bodyS s40
noncomputable def s41:Stmt:=nthS pg.main.body 41
noncomputable def pa__law_lie:Arguments:=argsS s41
noncomputable def sc__law_lie:Scope:=scopeS s41
noncomputable def bd__law_lie:List Stmt:=bodyS s41
noncomputable def s42:Stmt:=nthS pg.main.body 42
noncomputable def pa__law_lies:Arguments:=argsS s42
noncomputable def sc__law_lies:Scope:=scopeS s42
noncomputable def bd__law_lies:List Stmt:=bodyS s42
noncomputable def s43:Stmt:=nthS pg.main.body 43
noncomputable def pa__law_play:Arguments:=argsS s43
noncomputable def sc__law_play:Scope:=scopeS s43
noncomputable def bd__law_play:List Stmt:=bodyS s43
noncomputable def s44:Stmt:=nthS pg.main.body 44
noncomputable def pa__law_of:Arguments:=argsS s44
noncomputable def sc__law_of:Scope:=scopeS s44
noncomputable def bd__law_of:List Stmt:=bodyS s44
noncomputable def s45:Stmt:=nthS pg.main.body 45
noncomputable def pa__law_same:Arguments:=argsS s45
noncomputable def sc__law_same:Scope:=scopeS s45
noncomputable def bd__law_same:List Stmt:=bodyS s45
noncomputable def s46:Stmt:=nthS pg.main.body 46
noncomputable def pa__law_told:Arguments:=argsS s46
noncomputable def sc__law_told:Scope:=scopeS s46
noncomputable def bd__law_told:List Stmt:=bodyS s46
noncomputable def s47:Stmt:=nthS pg.main.body 47
noncomputable def pa__law_word:Arguments:=argsS s47
noncomputable def sc__law_word:Scope:=scopeS s47
noncomputable def bd__law_word:List Stmt:=bodyS s47
noncomputable def s48:Stmt:=nthS pg.main.body 48
noncomputable def pa__law_asked:Arguments:=argsS s48
noncomputable def sc__law_asked:Scope:=scopeS s48
noncomputable def bd__law_asked:List Stmt:=bodyS s48
noncomputable def s49:Stmt:=nthS pg.main.body 49
noncomputable def pa__law_heard:Arguments:=argsS s49
noncomputable def sc__law_heard:Scope:=scopeS s49
noncomputable def bd__law_heard:List Stmt:=bodyS s49
noncomputable def s50:Stmt:=nthS pg.main.body 50
noncomputable def pa__law_wrong_pair:Arguments:=argsS s50
noncomputable def sc__law_wrong_pair:Scope:=scopeS s50
noncomputable def bd__law_wrong_pair:List Stmt:=bodyS s50
noncomputable def s51:Stmt:=nthS pg.main.body 51
noncomputable def pa__law_spoilt:Arguments:=argsS s51
noncomputable def sc__law_spoilt:Scope:=scopeS s51
noncomputable def bd__law_spoilt:List Stmt:=bodyS s51
noncomputable def s52:Stmt:=nthS pg.main.body 52
noncomputable def pa__law_made:Arguments:=argsS s52
noncomputable def sc__law_made:Scope:=scopeS s52
noncomputable def bd__law_made:List Stmt:=bodyS s52
noncomputable def s53:Stmt:=nthS pg.main.body 53
noncomputable def pa__law_hands:Arguments:=argsS s53
noncomputable def sc__law_hands:Scope:=scopeS s53
noncomputable def bd__law_hands:List Stmt:=bodyS s53
noncomputable def s54:Stmt:=nthS pg.main.body 54
noncomputable def pa_law:Arguments:=argsS s54
noncomputable def sc_law:Scope:=scopeS s54
noncomputable def bd_law:List Stmt:=bodyS s54
noncomputable def en:Env:={ scope:=pg.main.scope,locals:=mainNs,globals:=mainNs,cells:=[],code:=(.ref 13),frame:=some 14 }
noncomputable abbrev bE:List Stmt:=behindTheImports pg
noncomputable abbrev cE:Code:=Code.body bE en
noncomputable def qE:Pos:=(Pos.mk 0 0 0 0)
noncomputable abbrev m0:Nat:=11
noncomputable abbrev ann:Option Value:=(.some (.ref 6))
noncomputable def o0 (P:Params):=tu []
noncomputable def o1 (P:Params):=Obj.mk .none none (.fields ⟨[]⟩) ⟨[]⟩
noncomputable def o2 (P:Params):=Obj.mk (.type "code") none (.fields ⟨[(.str "<module>" 182),(.str "<module>" 183),(.str "/claim/cut.py" 184),(.int 1 0),(.int 0 0),(.int 0 0),(.int 0 0),(.int 0 0),(.ref 11),(.bool false),(.int 181 0),(.ref 12),.none,.none,.none,.none,(.int 185 0),(.int 1 0),(.str "/claim/cut.py" 186)]⟩) ⟨[]⟩
noncomputable def o3 (P:Params):=Obj.mk (.type "frame") none .plain ⟨[(.some (.ref 13)),(.some (.ref 3)),(.some (.ref 3)),none,(.some (.str "__main__" 164)),none,(.some (.ref 0))]⟩
noncomputable def hA (P:Params):Heap:=Heap.mk ⟨[boot_o_0 P,boot_o_1 P,boot_o_2 P,boot_o_3 P,boot_o_4 P,boot_o_5 P,boot_o_6 P,boot_o_7 P,boot_o_8 P,boot_o_9 P,boot_o_10 P,o0 P,o1 P,o2 P,o3 P]⟩ (Life.mk [] [] [] 0 [] [] false ⟨[]⟩ [] 0 false false false 0 [2000,10,10] false 0 true [] [] 0 false)
noncomputable def S0 (w:World) (os:OsState):Shared:=Shared.mk (boot_heap w.params) (Array.mk []) boot_drawn boot_toks os
noncomputable def SA (w:World) (os:OsState):Shared:=Shared.mk (hA w.params) ⟨[]⟩ (Drawn.mk 0 0 0 0) 187 os
theorem pc_pre:∀ w:World,(fun os=>topGo treeTable pg w m0 ann 12 (S0 w os) (topStub pg))=fun os=>some (SA w os,Thread.mk (denote treeTable cE) cE (Pos.mk 0 0 0 0) [topFrame qE]):=fun w=>by rewrite [PySem.W.Fast.te15667345088766844465,PySem.W.Fast.te11892475500146522536,PySem.W.Fast.te14364793385576792824];kernel_rfl
noncomputable def tB (P:Params):BT:=(.node (boot_o_0 P) (.node (boot_o_1 P) (.node (boot_o_3 P) (lf (boot_o_7 P)) (lf (o0 P))) (.node (boot_o_5 P) (lf (boot_o_9 P)) (lf (o2 P)))) (.node (boot_o_2 P) (.node (boot_o_4 P) (lf (boot_o_8 P)) (lf (o1 P))) (.node (boot_o_6 P) (lf (boot_o_10 P)) (lf (o3 P)))))
noncomputable def TB (w:World) (os:OsState):SharedT:=SharedT.mk (tB w.params) 15 (Life.mk [] [] [] 0 [] [] false ⟨[]⟩ [] 0 false false false 0 [2000,10,10] false 0 true [] [] 0 false) ⟨[]⟩ (Drawn.mk 0 0 0 0) 187 os
theorem pc_block:∀ w:World,(fun os=>segRun treeTable pg w m0 ann 1 1 (SA w os) (blockOf bE en cE (Pos.mk 0 0 0 0) [topFrame qE]))=fun os=>some (Flow.next,(TB w os).abs,cE,(Pos.mk 0 0 0 0)):=fun w=>by rewrite [PySem.W.Fast.te14374325043358763698,PySem.W.Fast.te14364793385576792824];kernel_rfl
noncomputable def o4 (P:Params):=Obj.mk (.type "dict") none (.dict ⟨[(ke P "__name__" 165 (.str "lietable.errors" 187)),(ke P "__doc__" 166 .none),(ke P "__package__" 167 .none),(ke P "__loader__" 168 (.builtin "__main__.__loader__#opaque")),(ke P "__spec__" 169 .none),(ke P "__annotations__" 170 (.ref 6)),(ke P "__builtins__" 171 (.ref 4)),(ke P "__file__" 173 (.str "/claim/cut.py" 172)),(ke P "__cached__" 174 .none),(ke P "TableError" 206 (.ref 24))]⟩ 10) ⟨[]⟩
noncomputable def o5 (P:Params):=Obj.mk .none none (.fields ⟨[(.int 2 0),(.int 0 0),(.ref 20)]⟩) ⟨[]⟩
noncomputable def o6 (P:Params):=tu [(.type "ValueError")]
noncomputable def o7 (P:Params):=Obj.mk (.type "builtin_function_or_method") none (.fields ⟨[(.builtin "type.__prepare__"),(.type "type")]⟩) ⟨[]⟩
noncomputable def o8 (P:Params):=Obj.mk (.type "dict") none (.dict ⟨[(ke P "__module__" 196 (.str "lietable.errors" 187)),(ke P "__qualname__" 198 (.str "TableError" 197)),(ke P "__firstlineno__" 200 (.int 2 199)),(ke P "__static_attributes__" 201 (.ref 22))]⟩ 4) ⟨[]⟩
noncomputable def o11 (P:Params):=Obj.mk (.type "code") none (.fields ⟨[(.str "TableError" 191),(.str "TableError" 192),(.str "/claim/cut.py" 193),(.int 2 0),(.int 0 0),(.int 0 0),(.int 0 0),(.int 0 0),(.ref 18),(.bool false),(.int 181 0),(.ref 19),.none,.none,.none,.none,(.int 194 0),(.int 2 0),(.str "/claim/cut.py" 195)]⟩) ⟨[]⟩
noncomputable def o12 (P:Params):=Obj.mk (.type "frame") none .plain ⟨[(.some (.ref 20)),(.some (.ref 3)),(.some (.ref 17)),none,(.some (.str "lietable.errors" 187)),none,(.some (.ref 0))]⟩
noncomputable def o14 (P:Params):=Obj.mk (.type "dict") none (.dict ⟨[(ke P "__module__" 196 (.str "lietable.errors" 187)),(ke P "__firstlineno__" 200 (.int 2 199)),(ke P "__static_attributes__" 201 (.ref 22)),(ke P "__weakref__" 203 (.ref 25)),(ke P "__doc__" 204 .none)]⟩ 3) ⟨[]⟩
noncomputable def o15 (P:Params):=Obj.mk (.type "type") none (.cls (ClassData.mk "TableError" [(.type "ValueError")] [(.ref 24),(.type "ValueError"),(.type "Exception"),(.type "BaseException"),(.type "object")] 23 "TableError" true [] [] false none false)) ⟨[(.some (.ref 15)),none,(.some (.str "TableError" 189)),(.some (.str "TableError" 197)),(.some (.builtin "ValueError.__new__")),(.some (.bool true))]⟩
noncomputable def o16 (P:Params):=Obj.mk (.type "getset_descriptor") none (.fields ⟨[(.str "__weakref__" 202),(.ref 24),(.builtin "ExceptionGroup.__weakref__"),.none]⟩) ⟨[]⟩
noncomputable def o17 (P:Params):=Obj.mk (.type "super") none (.fields ⟨[(.ref 24),(.ref 24),(.ref 24)]⟩) ⟨[]⟩
noncomputable def o18 (P:Params):=Obj.mk (.type "builtin_function_or_method") none (.fields ⟨[(.builtin "object.__init_subclass__"),(.ref 24)]⟩) ⟨[]⟩
noncomputable def t0 (P:Params):BT:=(.node (boot_o_0 P) (.node (boot_o_1 P) (.node (o4 P) (.node (boot_o_7 P) (lf (o6 P)) (lf (o14 P))) (.node (o0 P) (lf (o1 P)) (lf (o18 P)))) (.node (boot_o_5 P) (.node (boot_o_9 P) (lf (o8 P)) (lf (o16 P))) (.node (o2 P) (lf (o12 P)) .nil))) (.node (boot_o_2 P) (.node (boot_o_4 P) (.node (boot_o_8 P) (lf (o7 P)) (lf (o15 P))) (.node (o5 P) (lf (o11 P)) .nil)) (.node (boot_o_6 P) (.node (boot_o_10 P) (lf (o0 P)) (lf (o17 P))) (.node (o3 P) (lf (o0 P)) .nil))))
noncomputable def T0 (w:World) (os:OsState):SharedT:=SharedT.mk (t0 w.params) 28 (Life.mk [] [] [] 0 [] [] false ⟨[]⟩ [] 0 false false false 0 [2000,10,10] false 0 true [] [] 0 false) ⟨[]⟩ (Drawn.mk 0 0 0 0) 207 os
noncomputable def sts0:List Stmt:=[s0,s1]
theorem pc0:∀ w:World,(fun os=>segRunT treeTable pg w m0 ann 1 196 (TB w os) (piecesOf sts0 en cE (Pos.mk 0 0 0 0) [topFrame qE]))=fun os=>some (Flow.next,T0 w os,cE,(Pos.mk 2 0 3 8)):=fun w=>by rewrite [PySem.W.Fast.te10110043849684766642,PySem.W.Fast.te14364793385576792824];kernel_rfl
noncomputable def o19 (P:Params):=Obj.mk (.type "dict") none (.dict ⟨[(ke P "__name__" 165 (.str "lietable.errors" 187)),(ke P "__doc__" 166 .none),(ke P "__package__" 167 .none),(ke P "__loader__" 168 (.builtin "__main__.__loader__#opaque")),(ke P "__spec__" 169 .none),(ke P "__annotations__" 170 (.ref 6)),(ke P "__builtins__" 171 (.ref 4)),(ke P "__file__" 173 (.str "/claim/cut.py" 172)),(ke P "__cached__" 174 .none),(ke P "TableError" 206 (.ref 24)),(ke P "NoTable" 222 (.ref 37))]⟩ 11) ⟨[]⟩
noncomputable def o20 (P:Params):=Obj.mk .none none (.fields ⟨[(.int 2 0),(.int 0 0),(.ref 20),(.int 4 0),(.int 0 0),(.ref 33)]⟩) ⟨[]⟩
noncomputable def o21 (P:Params):=Obj.mk (.type "type") none (.cls (ClassData.mk "TableError" [(.type "ValueError")] [(.ref 24),(.type "ValueError"),(.type "Exception"),(.type "BaseException"),(.type "object")] 23 "TableError" true [] [(.ref 37)] false none false)) ⟨[(.some (.ref 15)),none,(.some (.str "TableError" 189)),(.some (.str "TableError" 197)),(.some (.builtin "ValueError.__new__")),(.some (.bool true))]⟩
noncomputable def o22 (P:Params):=tu [(.ref 24)]
noncomputable def o24 (P:Params):=Obj.mk (.type "dict") none (.dict ⟨[(ke P "__module__" 214 (.str "lietable.errors" 187)),(ke P "__qualname__" 216 (.str "NoTable" 215)),(ke P "__firstlineno__" 218 (.int 4 217)),(ke P "__static_attributes__" 219 (.ref 35))]⟩ 4) ⟨[]⟩
noncomputable def o27 (P:Params):=Obj.mk (.type "code") none (.fields ⟨[(.str "NoTable" 209),(.str "NoTable" 210),(.str "/claim/cut.py" 211),(.int 4 0),(.int 0 0),(.int 0 0),(.int 0 0),(.int 0 0),(.ref 31),(.bool false),(.int 181 0),(.ref 32),.none,.none,.none,.none,(.int 212 0),(.int 4 0),(.str "/claim/cut.py" 213)]⟩) ⟨[]⟩
noncomputable def o28 (P:Params):=Obj.mk (.type "frame") none .plain ⟨[(.some (.ref 33)),(.some (.ref 3)),(.some (.ref 30)),none,(.some (.str "lietable.errors" 187)),none,(.some (.ref 0))]⟩
noncomputable def o30 (P:Params):=Obj.mk (.type "dict") none (.dict ⟨[(ke P "__module__" 214 (.str "lietable.errors" 187)),(ke P "__firstlineno__" 218 (.int 4 217)),(ke P "__static_attributes__" 219 (.ref 35)),(ke P "__doc__" 220 .none)]⟩ 2) ⟨[]⟩
noncomputable def o31 (P:Params):=Obj.mk (.type "type") none (.cls (ClassData.mk "NoTable" [(.ref 24)] [(.ref 37),(.ref 24),(.type "ValueError"),(.type "Exception"),(.type "BaseException"),(.type "object")] 36 "NoTable" true [] [] false none false)) ⟨[(.some (.ref 28)),none,(.some (.str "NoTable" 207)),(.some (.str "NoTable" 215)),(.some (.builtin "ValueError.__new__")),(.some (.bool true))]⟩
noncomputable def o32 (P:Params):=Obj.mk (.type "super") none (.fields ⟨[(.ref 37),(.ref 37),(.ref 37)]⟩) ⟨[]⟩
noncomputable def o33 (P:Params):=Obj.mk (.type "builtin_function_or_method") none (.fields ⟨[(.builtin "object.__init_subclass__"),(.ref 37)]⟩) ⟨[]⟩
noncomputable def t1 (P:Params):BT:=(.node (boot_o_0 P) (.node (boot_o_1 P) (.node (o19 P) (.node (boot_o_7 P) (.node (o6 P) (lf (o0 P)) .nil) (.node (o14 P) (lf (o33 P)) .nil)) (.node (o0 P) (.node (o1 P) (lf (o0 P)) .nil) (lf (o18 P)))) (.node (boot_o_5 P) (.node (boot_o_9 P) (.node (o8 P) (lf (o27 P)) .nil) (lf (o16 P))) (.node (o2 P) (.node (o12 P) (lf (o31 P)) .nil) (lf (o7 P))))) (.node (boot_o_2 P) (.node (boot_o_4 P) (.node (boot_o_8 P) (.node (o7 P) (lf (o1 P)) .nil) (lf (o21 P))) (.node (o20 P) (.node (o11 P) (lf (o30 P)) .nil) (lf (o22 P)))) (.node (boot_o_6 P) (.node (boot_o_10 P) (.node (o0 P) (lf (o28 P)) .nil) (lf (o17 P))) (.node (o3 P) (.node (o0 P) (lf (o32 P)) .nil) (lf (o24 P))))))
noncomputable def T1 (w:World) (os:OsState):SharedT:=SharedT.mk (t1 w.params) 40 (Life.mk [] [] [] 0 [] [] false ⟨[]⟩ [] 0 false false false 0 [2000,10,10] false 0 true [] [] 0 false) ⟨[]⟩ (Drawn.mk 0 0 0 0) 223 os
noncomputable def sts1:List Stmt:=[s2]
theorem pc1:∀ w:World,(fun os=>segRunT treeTable pg w m0 ann 1 214 (T0 w os) (piecesOf sts1 en cE (Pos.mk 2 0 3 8) [topFrame qE]))=fun os=>some (Flow.next,T1 w os,cE,(Pos.mk 4 0 5 8)):=fun w=>by rewrite [PySem.W.Fast.te10110043849684766642,PySem.W.Fast.te14364793385576792824];kernel_rfl
noncomputable def o34 (P:Params):=Obj.mk (.type "dict") none (.dict ⟨[(ke P "__name__" 165 (.str "lietable.errors" 187)),(ke P "__doc__" 166 .none),(ke P "__package__" 167 .none),(ke P "__loader__" 168 (.builtin "__main__.__loader__#opaque")),(ke P "__spec__" 169 .none),(ke P "__annotations__" 170 (.ref 6)),(ke P "__builtins__" 171 (.ref 4)),(ke P "__file__" 173 (.str "/claim/cut.py" 172)),(ke P "__cached__" 174 .none),(ke P "TableError" 206 (.ref 24)),(ke P "NoTable" 222 (.ref 37)),(ke P "NoSign" 238 (.ref 49))]⟩ 12) ⟨[]⟩
noncomputable def o35 (P:Params):=Obj.mk .none none (.fields ⟨[(.int 2 0),(.int 0 0),(.ref 20),(.int 4 0),(.int 0 0),(.ref 33),(.int 6 0),(.int 0 0),(.ref 45)]⟩) ⟨[]⟩
noncomputable def o36 (P:Params):=Obj.mk (.type "type") none (.cls (ClassData.mk "TableError" [(.type "ValueError")] [(.ref 24),(.type "ValueError"),(.type "Exception"),(.type "BaseException"),(.type "object")] 23 "TableError" true [] [(.ref 37),(.ref 49)] false none false)) ⟨[(.some (.ref 15)),none,(.some (.str "TableError" 189)),(.some (.str "TableError" 197)),(.some (.builtin "ValueError.__new__")),(.some (.bool true))]⟩
noncomputable def o39 (P:Params):=Obj.mk (.type "dict") none (.dict ⟨[(ke P "__module__" 230 (.str "lietable.errors" 187)),(ke P "__qualname__" 232 (.str "NoSign" 231)),(ke P "__firstlineno__" 234 (.int 6 233)),(ke P "__static_attributes__" 235 (.ref 47))]⟩ 4) ⟨[]⟩
noncomputable def o42 (P:Params):=Obj.mk (.type "code") none (.fields ⟨[(.str "NoSign" 225),(.str "NoSign" 226),(.str "/claim/cut.py" 227),(.int 6 0),(.int 0 0),(.int 0 0),(.int 0 0),(.int 0 0),(.ref 43),(.bool false),(.int 181 0),(.ref 44),.none,.none,.none,.none,(.int 228 0),(.int 6 0),(.str "/claim/cut.py" 229)]⟩) ⟨[]⟩
noncomputable def o43 (P:Params):=Obj.mk (.type "frame") none .plain ⟨[(.some (.ref 45)),(.some (.ref 3)),(.some (.ref 42)),none,(.some (.str "lietable.errors" 187)),none,(.some (.ref 0))]⟩
noncomputable def o45 (P:Params):=Obj.mk (.type "dict") none (.dict ⟨[(ke P "__module__" 230 (.str "lietable.errors" 187)),(ke P "__firstlineno__" 234 (.int 6 233)),(ke P "__static_attributes__" 235 (.ref 47)),(ke P "__doc__" 236 .none)]⟩ 2) ⟨[]⟩
noncomputable def o46 (P:Params):=Obj.mk (.type "type") none (.cls (ClassData.mk "NoSign" [(.ref 24)] [(.ref 49),(.ref 24),(.type "ValueError"),(.type "Exception"),(.type "BaseException"),(.type "object")] 48 "NoSign" true [] [] false none false)) ⟨[(.some (.ref 40)),none,(.some (.str "NoSign" 223)),(.some (.str "NoSign" 231)),(.some (.builtin "ValueError.__new__")),(.some (.bool true))]⟩
noncomputable def o47 (P:Params):=Obj.mk (.type "super") none (.fields ⟨[(.ref 49),(.ref 49),(.ref 49)]⟩) ⟨[]⟩
noncomputable def o48 (P:Params):=Obj.mk (.type "builtin_function_or_method") none (.fields ⟨[(.builtin "object.__init_subclass__"),(.ref 49)]⟩) ⟨[]⟩
noncomputable def t2 (P:Params):BT:=(.node (boot_o_0 P) (.node (boot_o_1 P) (.node (o34 P) (.node (boot_o_7 P) (.node (o6 P) (lf (o0 P)) (lf (o0 P))) (.node (o14 P) (lf (o33 P)) .nil)) (.node (o0 P) (.node (o1 P) (lf (o0 P)) (lf (o48 P))) (.node (o18 P) (lf (o0 P)) .nil))) (.node (boot_o_5 P) (.node (boot_o_9 P) (.node (o8 P) (lf (o27 P)) (lf (o46 P))) (.node (o16 P) (lf (o7 P)) .nil)) (.node (o2 P) (.node (o12 P) (lf (o31 P)) .nil) (.node (o7 P) (lf (o42 P)) .nil)))) (.node (boot_o_2 P) (.node (boot_o_4 P) (.node (boot_o_8 P) (.node (o7 P) (lf (o1 P)) (lf (o45 P))) (.node (o36 P) (lf (o22 P)) .nil)) (.node (o35 P) (.node (o11 P) (lf (o30 P)) .nil) (.node (o22 P) (lf (o1 P)) .nil))) (.node (boot_o_6 P) (.node (boot_o_10 P) (.node (o0 P) (lf (o28 P)) (lf (o47 P))) (.node (o17 P) (lf (o39 P)) .nil)) (.node (o3 P) (.node (o0 P) (lf (o32 P)) .nil) (.node (o24 P) (lf (o43 P)) .nil)))))
noncomputable def T2 (w:World) (os:OsState):SharedT:=SharedT.mk (t2 w.params) 52 (Life.mk [] [] [] 0 [] [] false ⟨[]⟩ [] 0 false false false 0 [2000,10,10] false 0 true [] [] 0 false) ⟨[]⟩ (Drawn.mk 0 0 0 0) 239 os
noncomputable def sts2:List Stmt:=[s3]
theorem pc2:∀ w:World,(fun os=>segRunT treeTable pg w m0 ann 1 214 (T1 w os) (piecesOf sts2 en cE (Pos.mk 4 0 5 8) [topFrame qE]))=fun os=>some (Flow.next,T2 w os,cE,(Pos.mk 6 0 7 8)):=fun w=>by rewrite [PySem.W.Fast.te10110043849684766642,PySem.W.Fast.te14364793385576792824];kernel_rfl
noncomputable def o49 (P:Params):=Obj.mk (.type "dict") none (.dict ⟨[(ke P "__name__" 165 (.str "lietable.errors" 187)),(ke P "__doc__" 166 .none),(ke P "__package__" 167 .none),(ke P "__loader__" 168 (.builtin "__main__.__loader__#opaque")),(ke P "__spec__" 169 .none),(ke P "__annotations__" 170 (.ref 6)),(ke P "__builtins__" 171 (.ref 4)),(ke P "__file__" 173 (.str "/claim/cut.py" 172)),(ke P "__cached__" 174 .none),(ke P "TableError" 206 (.ref 24)),(ke P "NoTable" 222 (.ref 37)),(ke P "NoSign" 238 (.ref 49)),(ke P "NoHand" 254 (.ref 61))]⟩ 13) ⟨[]⟩
noncomputable def o50 (P:Params):=Obj.mk .none none (.fields ⟨[(.int 2 0),(.int 0 0),(.ref 20),(.int 4 0),(.int 0 0),(.ref 33),(.int 6 0),(.int 0 0),(.ref 45),(.int 8 0),(.int 0 0),(.ref 57)]⟩) ⟨[]⟩
noncomputable def o51 (P:Params):=Obj.mk (.type "type") none (.cls (ClassData.mk "TableError" [(.type "ValueError")] [(.ref 24),(.type "ValueError"),(.type "Exception"),(.type "BaseException"),(.type "object")] 23 "TableError" true [] [(.ref 37),(.ref 49),(.ref 61)] false none false)) ⟨[(.some (.ref 15)),none,(.some (.str "TableError" 189)),(.some (.str "TableError" 197)),(.some (.builtin "ValueError.__new__")),(.some (.bool true))]⟩
noncomputable def o54 (P:Params):=Obj.mk (.type "dict") none (.dict ⟨[(ke P "__module__" 246 (.str "lietable.errors" 187)),(ke P "__qualname__" 248 (.str "NoHand" 247)),(ke P "__firstlineno__" 250 (.int 8 249)),(ke P "__static_attributes__" 251 (.ref 59))]⟩ 4) ⟨[]⟩
noncomputable def o57 (P:Params):=Obj.mk (.type "code") none (.fields ⟨[(.str "NoHand" 241),(.str "NoHand" 242),(.str "/claim/cut.py" 243),(.int 8 0),(.int 0 0),(.int 0 0),(.int 0 0),(.int 0 0),(.ref 55),(.bool false),(.int 181 0),(.ref 56),.none,.none,.none,.none,(.int 244 0),(.int 8 0),(.str "/claim/cut.py" 245)]⟩) ⟨[]⟩
noncomputable def o58 (P:Params):=Obj.mk (.type "frame") none .plain ⟨[(.some (.ref 57)),(.some (.ref 3)),(.some (.ref 54)),none,(.some (.str "lietable.errors" 187)),none,(.some (.ref 0))]⟩
noncomputable def o60 (P:Params):=Obj.mk (.type "dict") none (.dict ⟨[(ke P "__module__" 246 (.str "lietable.errors" 187)),(ke P "__firstlineno__" 250 (.int 8 249)),(ke P "__static_attributes__" 251 (.ref 59)),(ke P "__doc__" 252 .none)]⟩ 2) ⟨[]⟩
noncomputable def o61 (P:Params):=Obj.mk (.type "type") none (.cls (ClassData.mk "NoHand" [(.ref 24)] [(.ref 61),(.ref 24),(.type "ValueError"),(.type "Exception"),(.type "BaseException"),(.type "object")] 60 "NoHand" true [] [] false none false)) ⟨[(.some (.ref 52)),none,(.some (.str "NoHand" 239)),(.some (.str "NoHand" 247)),(.some (.builtin "ValueError.__new__")),(.some (.bool true))]⟩
noncomputable def o62 (P:Params):=Obj.mk (.type "super") none (.fields ⟨[(.ref 61),(.ref 61),(.ref 61)]⟩) ⟨[]⟩
noncomputable def o63 (P:Params):=Obj.mk (.type "builtin_function_or_method") none (.fields ⟨[(.builtin "object.__init_subclass__"),(.ref 61)]⟩) ⟨[]⟩
noncomputable def t3 (P:Params):BT:=(.node (boot_o_0 P) (.node (boot_o_1 P) (.node (o49 P) (.node (boot_o_7 P) (.node (o6 P) (.node (o0 P) (lf (o63 P)) .nil) (lf (o0 P))) (.node (o14 P) (lf (o33 P)) (lf (o0 P)))) (.node (o0 P) (.node (o1 P) (lf (o0 P)) (lf (o48 P))) (.node (o18 P) (lf (o0 P)) (lf (o0 P))))) (.node (boot_o_5 P) (.node (boot_o_9 P) (.node (o8 P) (lf (o27 P)) (lf (o46 P))) (.node (o16 P) (lf (o7 P)) (lf (o57 P)))) (.node (o2 P) (.node (o12 P) (lf (o31 P)) (lf (o7 P))) (.node (o7 P) (lf (o42 P)) (lf (o61 P)))))) (.node (boot_o_2 P) (.node (boot_o_4 P) (.node (boot_o_8 P) (.node (o7 P) (lf (o1 P)) (lf (o45 P))) (.node (o51 P) (lf (o22 P)) (lf (o1 P)))) (.node (o50 P) (.node (o11 P) (lf (o30 P)) (lf (o22 P))) (.node (o22 P) (lf (o1 P)) (lf (o60 P))))) (.node (boot_o_6 P) (.node (boot_o_10 P) (.node (o0 P) (lf (o28 P)) (lf (o47 P))) (.node (o17 P) (lf (o39 P)) (lf (o58 P)))) (.node (o3 P) (.node (o0 P) (lf (o32 P)) (lf (o54 P))) (.node (o24 P) (lf (o43 P)) (lf (o62 P)))))))
noncomputable def T3 (w:World) (os:OsState):SharedT:=SharedT.mk (t3 w.params) 64 (Life.mk [] [] [] 0 [] [] false ⟨[]⟩ [] 0 false false false 0 [2000,10,10] false 0 true [] [] 0 false) ⟨[]⟩ (Drawn.mk 0 0 0 0) 255 os
noncomputable def sts3:List Stmt:=[s4]
theorem pc3:∀ w:World,(fun os=>segRunT treeTable pg w m0 ann 1 214 (T2 w os) (piecesOf sts3 en cE (Pos.mk 6 0 7 8) [topFrame qE]))=fun os=>some (Flow.next,T3 w os,cE,(Pos.mk 8 0 9 8)):=fun w=>by rewrite [PySem.W.Fast.te10110043849684766642,PySem.W.Fast.te14364793385576792824];kernel_rfl
noncomputable def o64 (P:Params):=Obj.mk (.type "dict") none (.dict ⟨[(ke P "__name__" 165 (.str "lietable.errors" 187)),(ke P "__doc__" 166 .none),(ke P "__package__" 167 .none),(ke P "__loader__" 168 (.builtin "__main__.__loader__#opaque")),(ke P "__spec__" 169 .none),(ke P "__annotations__" 170 (.ref 6)),(ke P "__builtins__" 171 (.ref 4)),(ke P "__file__" 173 (.str "/claim/cut.py" 172)),(ke P "__cached__" 174 .none),(ke P "TableError" 206 (.ref 24)),(ke P "NoTable" 222 (.ref 37)),(ke P "NoSign" 238 (.ref 49)),(ke P "NoHand" 254 (.ref 61)),(ke P "NoSaying" 270 (.ref 73))]⟩ 14) ⟨[]⟩
noncomputable def o65 (P:Params):=Obj.mk .none none (.fields ⟨[(.int 2 0),(.int 0 0),(.ref 20),(.int 4 0),(.int 0 0),(.ref 33),(.int 6 0),(.int 0 0),(.ref 45),(.int 8 0),(.int 0 0),(.ref 57),(.int 10 0),(.int 0 0),(.ref 69)]⟩) ⟨[]⟩
noncomputable def o66 (P:Params):=Obj.mk (.type "type") none (.cls (ClassData.mk "TableError" [(.type "ValueError")] [(.ref 24),(.type "ValueError"),(.type "Exception"),(.type "BaseException"),(.type "object")] 23 "TableError" true [] [(.ref 37),(.ref 49),(.ref 61),(.ref 73)] false none false)) ⟨[(.some (.ref 15)),none,(.some (.str "TableError" 189)),(.some (.str "TableError" 197)),(.some (.builtin "ValueError.__new__")),(.some (.bool true))]⟩
noncomputable def o69 (P:Params):=Obj.mk (.type "dict") none (.dict ⟨[(ke P "__module__" 262 (.str "lietable.errors" 187)),(ke P "__qualname__" 264 (.str "NoSaying" 263)),(ke P "__firstlineno__" 266 (.int 10 265)),(ke P "__static_attributes__" 267 (.ref 71))]⟩ 4) ⟨[]⟩
noncomputable def o72 (P:Params):=Obj.mk (.type "code") none (.fields ⟨[(.str "NoSaying" 257),(.str "NoSaying" 258),(.str "/claim/cut.py" 259),(.int 10 0),(.int 0 0),(.int 0 0),(.int 0 0),(.int 0 0),(.ref 67),(.bool false),(.int 181 0),(.ref 68),.none,.none,.none,.none,(.int 260 0),(.int 10 0),(.str "/claim/cut.py" 261)]⟩) ⟨[]⟩
noncomputable def o73 (P:Params):=Obj.mk (.type "frame") none .plain ⟨[(.some (.ref 69)),(.some (.ref 3)),(.some (.ref 66)),none,(.some (.str "lietable.errors" 187)),none,(.some (.ref 0))]⟩
noncomputable def o75 (P:Params):=Obj.mk (.type "dict") none (.dict ⟨[(ke P "__module__" 262 (.str "lietable.errors" 187)),(ke P "__firstlineno__" 266 (.int 10 265)),(ke P "__static_attributes__" 267 (.ref 71)),(ke P "__doc__" 268 .none)]⟩ 2) ⟨[]⟩
noncomputable def o76 (P:Params):=Obj.mk (.type "type") none (.cls (ClassData.mk "NoSaying" [(.ref 24)] [(.ref 73),(.ref 24),(.type "ValueError"),(.type "Exception"),(.type "BaseException"),(.type "object")] 72 "NoSaying" true [] [] false none false)) ⟨[(.some (.ref 64)),none,(.some (.str "NoSaying" 255)),(.some (.str "NoSaying" 263)),(.some (.builtin "ValueError.__new__")),(.some (.bool true))]⟩
noncomputable def o77 (P:Params):=Obj.mk (.type "super") none (.fields ⟨[(.ref 73),(.ref 73),(.ref 73)]⟩) ⟨[]⟩
noncomputable def o78 (P:Params):=Obj.mk (.type "builtin_function_or_method") none (.fields ⟨[(.builtin "object.__init_subclass__"),(.ref 73)]⟩) ⟨[]⟩
noncomputable def t4 (P:Params):BT:=(.node (boot_o_0 P) (.node (boot_o_1 P) (.node (o64 P) (.node (boot_o_7 P) (.node (o6 P) (.node (o0 P) (lf (o63 P)) .nil) (lf (o0 P))) (.node (o14 P) (.node (o33 P) (lf (o0 P)) .nil) (lf (o0 P)))) (.node (o0 P) (.node (o1 P) (.node (o0 P) (lf (o0 P)) .nil) (lf (o48 P))) (.node (o18 P) (.node (o0 P) (lf (o78 P)) .nil) (lf (o0 P))))) (.node (boot_o_5 P) (.node (boot_o_9 P) (.node (o8 P) (.node (o27 P) (lf (o7 P)) .nil) (lf (o46 P))) (.node (o16 P) (.node (o7 P) (lf (o76 P)) .nil) (lf (o57 P)))) (.node (o2 P) (.node (o12 P) (.node (o31 P) (lf (o72 P)) .nil) (lf (o7 P))) (.node (o7 P) (lf (o42 P)) (lf (o61 P)))))) (.node (boot_o_2 P) (.node (boot_o_4 P) (.node (boot_o_8 P) (.node (o7 P) (.node (o1 P) (lf (o22 P)) .nil) (lf (o45 P))) (.node (o66 P) (.node (o22 P) (lf (o75 P)) .nil) (lf (o1 P)))) (.node (o65 P) (.node (o11 P) (.node (o30 P) (lf (o1 P)) .nil) (lf (o22 P))) (.node (o22 P) (lf (o1 P)) (lf (o60 P))))) (.node (boot_o_6 P) (.node (boot_o_10 P) (.node (o0 P) (.node (o28 P) (lf (o69 P)) .nil) (lf (o47 P))) (.node (o17 P) (.node (o39 P) (lf (o77 P)) .nil) (lf (o58 P)))) (.node (o3 P) (.node (o0 P) (.node (o32 P) (lf (o73 P)) .nil) (lf (o54 P))) (.node (o24 P) (lf (o43 P)) (lf (o62 P)))))))
noncomputable def T4 (w:World) (os:OsState):SharedT:=SharedT.mk (t4 w.params) 76 (Life.mk [] [] [] 0 [] [] false ⟨[]⟩ [] 0 false false false 0 [2000,10,10] false 0 true [] [] 0 false) ⟨[]⟩ (Drawn.mk 0 0 0 0) 271 os
noncomputable def sts4:List Stmt:=[s5]
theorem pc4:∀ w:World,(fun os=>segRunT treeTable pg w m0 ann 1 214 (T3 w os) (piecesOf sts4 en cE (Pos.mk 8 0 9 8) [topFrame qE]))=fun os=>some (Flow.next,T4 w os,cE,(Pos.mk 10 0 11 8)):=fun w=>by rewrite [PySem.W.Fast.te10110043849684766642,PySem.W.Fast.te14364793385576792824];kernel_rfl
noncomputable def o79 (P:Params):=Obj.mk (.type "dict") none (.dict ⟨[(ke P "__name__" 165 (.str "lietable.errors" 187)),(ke P "__doc__" 166 .none),(ke P "__package__" 167 .none),(ke P "__loader__" 168 (.builtin "__main__.__loader__#opaque")),(ke P "__spec__" 169 .none),(ke P "__annotations__" 170 (.ref 6)),(ke P "__builtins__" 171 (.ref 4)),(ke P "__file__" 173 (.str "/claim/cut.py" 172)),(ke P "__cached__" 174 .none),(ke P "TableError" 206 (.ref 24)),(ke P "NoTable" 222 (.ref 37)),(ke P "NoSign" 238 (.ref 49)),(ke P "NoHand" 254 (.ref 61)),(ke P "NoSaying" 270 (.ref 73)),(ke P "Over" 286 (.ref 85))]⟩ 15) ⟨[]⟩
noncomputable def o80 (P:Params):=Obj.mk .none none (.fields ⟨[(.int 2 0),(.int 0 0),(.ref 20),(.int 4 0),(.int 0 0),(.ref 33),(.int 6 0),(.int 0 0),(.ref 45),(.int 8 0),(.int 0 0),(.ref 57),(.int 10 0),(.int 0 0),(.ref 69),(.int 12 0),(.int 0 0),(.ref 81)]⟩) ⟨[]⟩
noncomputable def o81 (P:Params):=Obj.mk (.type "type") none (.cls (ClassData.mk "TableError" [(.type "ValueError")] [(.ref 24),(.type "ValueError"),(.type "Exception"),(.type "BaseException"),(.type "object")] 23 "TableError" true [] [(.ref 37),(.ref 49),(.ref 61),(.ref 73),(.ref 85)] false none false)) ⟨[(.some (.ref 15)),none,(.some (.str "TableError" 189)),(.some (.str "TableError" 197)),(.some (.builtin "ValueError.__new__")),(.some (.bool true))]⟩
noncomputable def o84 (P:Params):=Obj.mk (.type "dict") none (.dict ⟨[(ke P "__module__" 278 (.str "lietable.errors" 187)),(ke P "__qualname__" 280 (.str "Over" 279)),(ke P "__firstlineno__" 282 (.int 12 281)),(ke P "__static_attributes__" 283 (.ref 83))]⟩ 4) ⟨[]⟩
noncomputable def o87 (P:Params):=Obj.mk (.type "code") none (.fields ⟨[(.str "Over" 273),(.str "Over" 274),(.str "/claim/cut.py" 275),(.int 12 0),(.int 0 0),(.int 0 0),(.int 0 0),(.int 0 0),(.ref 79),(.bool false),(.int 181 0),(.ref 80),.none,.none,.none,.none,(.int 276 0),(.int 12 0),(.str "/claim/cut.py" 277)]⟩) ⟨[]⟩
noncomputable def o88 (P:Params):=Obj.mk (.type "frame") none .plain ⟨[(.some (.ref 81)),(.some (.ref 3)),(.some (.ref 78)),none,(.some (.str "lietable.errors" 187)),none,(.some (.ref 0))]⟩
noncomputable def o90 (P:Params):=Obj.mk (.type "dict") none (.dict ⟨[(ke P "__module__" 278 (.str "lietable.errors" 187)),(ke P "__firstlineno__" 282 (.int 12 281)),(ke P "__static_attributes__" 283 (.ref 83)),(ke P "__doc__" 284 .none)]⟩ 2) ⟨[]⟩
noncomputable def o91 (P:Params):=Obj.mk (.type "type") none (.cls (ClassData.mk "Over" [(.ref 24)] [(.ref 85),(.ref 24),(.type "ValueError"),(.type "Exception"),(.type "BaseException"),(.type "object")] 84 "Over" true [] [] false none false)) ⟨[(.some (.ref 76)),none,(.some (.str "Over" 271)),(.some (.str "Over" 279)),(.some (.builtin "ValueError.__new__")),(.some (.bool true))]⟩
noncomputable def o92 (P:Params):=Obj.mk (.type "super") none (.fields ⟨[(.ref 85),(.ref 85),(.ref 85)]⟩) ⟨[]⟩
noncomputable def o93 (P:Params):=Obj.mk (.type "builtin_function_or_method") none (.fields ⟨[(.builtin "object.__init_subclass__"),(.ref 85)]⟩) ⟨[]⟩
noncomputable def t5 (P:Params):BT:=(.node (boot_o_0 P) (.node (boot_o_1 P) (.node (o79 P) (.node (boot_o_7 P) (.node (o6 P) (.node (o0 P) (lf (o63 P)) .nil) (.node (o0 P) (lf (o0 P)) .nil)) (.node (o14 P) (.node (o33 P) (lf (o0 P)) .nil) (.node (o0 P) (lf (o93 P)) .nil))) (.node (o0 P) (.node (o1 P) (.node (o0 P) (lf (o0 P)) .nil) (.node (o48 P) (lf (o0 P)) .nil)) (.node (o18 P) (.node (o0 P) (lf (o78 P)) .nil) (lf (o0 P))))) (.node (boot_o_5 P) (.node (boot_o_9 P) (.node (o8 P) (.node (o27 P) (lf (o7 P)) .nil) (.node (o46 P) (lf (o87 P)) .nil)) (.node (o16 P) (.node (o7 P) (lf (o76 P)) .nil) (lf (o57 P)))) (.node (o2 P) (.node (o12 P) (.node (o31 P) (lf (o72 P)) .nil) (.node (o7 P) (lf (o91 P)) .nil)) (.node (o7 P) (.node (o42 P) (lf (o7 P)) .nil) (lf (o61 P)))))) (.node (boot_o_2 P) (.node (boot_o_4 P) (.node (boot_o_8 P) (.node (o7 P) (.node (o1 P) (lf (o22 P)) .nil) (.node (o45 P) (lf (o1 P)) .nil)) (.node (o81 P) (.node (o22 P) (lf (o75 P)) .nil) (lf (o1 P)))) (.node (o80 P) (.node (o11 P) (.node (o30 P) (lf (o1 P)) .nil) (.node (o22 P) (lf (o90 P)) .nil)) (.node (o22 P) (.node (o1 P) (lf (o22 P)) .nil) (lf (o60 P))))) (.node (boot_o_6 P) (.node (boot_o_10 P) (.node (o0 P) (.node (o28 P) (lf (o69 P)) .nil) (.node (o47 P) (lf (o88 P)) .nil)) (.node (o17 P) (.node (o39 P) (lf (o77 P)) .nil) (lf (o58 P)))) (.node (o3 P) (.node (o0 P) (.node (o32 P) (lf (o73 P)) .nil) (.node (o54 P) (lf (o92 P)) .nil)) (.node (o24 P) (.node (o43 P) (lf (o84 P)) .nil) (lf (o62 P)))))))
noncomputable def T5 (w:World) (os:OsState):SharedT:=SharedT.mk (t5 w.params) 88 (Life.mk [] [] [] 0 [] [] false ⟨[]⟩ [] 0 false false false 0 [2000,10,10] false 0 true [] [] 0 false) ⟨[]⟩ (Drawn.mk 0 0 0 0) 287 os
noncomputable def sts5:List Stmt:=[s6]
theorem pc5:∀ w:World,(fun os=>segRunT treeTable pg w m0 ann 1 214 (T4 w os) (piecesOf sts5 en cE (Pos.mk 10 0 11 8) [topFrame qE]))=fun os=>some (Flow.next,T5 w os,cE,(Pos.mk 12 0 13 8)):=fun w=>by rewrite [PySem.W.Fast.te10110043849684766642,PySem.W.Fast.te14364793385576792824];kernel_rfl
noncomputable def o94 (P:Params):=Obj.mk (.type "dict") none (.dict ⟨[(ke P "__name__" 165 (.str "lietable.checks" 303)),(ke P "__doc__" 166 .none),(ke P "__package__" 167 .none),(ke P "__loader__" 168 (.builtin "__main__.__loader__#opaque")),(ke P "__spec__" 169 .none),(ke P "__annotations__" 170 (.ref 6)),(ke P "__builtins__" 171 (.ref 4)),(ke P "__file__" 173 (.str "/claim/cut.py" 172)),(ke P "__cached__" 174 .none),(ke P "TableError" 206 (.ref 24)),(ke P "NoTable" 222 (.ref 37)),(ke P "NoSign" 238 (.ref 49)),(ke P "NoHand" 254 (.ref 61)),(ke P "NoSaying" 270 (.ref 73)),(ke P "Over" 286 (.ref 85)),(ke P "NotOver" 302 (.ref 97)),(ke P "LEAST_HANDS" 306 (.int 2 305)),(ke P "MOST_HANDS" 308 (.int 10 307)),(ke P "MOST_LIARS" 310 (.int 2 309)),(ke P "MOST_LETTERS" 312 (.int 8 311)),(ke P "LETTERS" 314 (.str "abcdefghijklmnopqrstuvwxyz" 313)),(ke P "is_within" 323 (.ref 106)),(ke P "is_sign" 329 (.ref 111)),(ke P "need_table" 337 (.ref 118)),(ke P "need_sign" 344 (.ref 125))]⟩ 25) ⟨[]⟩
noncomputable def o95 (P:Params):=Obj.mk .none none (.fields ⟨[(.int 2 0),(.int 0 0),(.ref 20),(.int 4 0),(.int 0 0),(.ref 33),(.int 6 0),(.int 0 0),(.ref 45),(.int 8 0),(.int 0 0),(.ref 57),(.int 10 0),(.int 0 0),(.ref 69),(.int 12 0),(.int 0 0),(.ref 81),(.int 14 0),(.int 0 0),(.ref 93),(.int 22 0),(.int 0 0),(.ref 105),(.int 24 0),(.int 0 0),(.ref 110),(.int 28 0),(.int 0 0),(.ref 117),(.int 31 0),(.int 0 0),(.ref 124)]⟩) ⟨[]⟩
noncomputable def o96 (P:Params):=Obj.mk (.type "type") none (.cls (ClassData.mk "TableError" [(.type "ValueError")] [(.ref 24),(.type "ValueError"),(.type "Exception"),(.type "BaseException"),(.type "object")] 23 "TableError" true [] [(.ref 37),(.ref 49),(.ref 61),(.ref 73),(.ref 85),(.ref 97)] false none false)) ⟨[(.some (.ref 15)),none,(.some (.str "TableError" 189)),(.some (.str "TableError" 197)),(.some (.builtin "ValueError.__new__")),(.some (.bool true))]⟩
noncomputable def o99 (P:Params):=Obj.mk (.type "dict") none (.dict ⟨[(ke P "__module__" 294 (.str "lietable.errors" 187)),(ke P "__qualname__" 296 (.str "NotOver" 295)),(ke P "__firstlineno__" 298 (.int 14 297)),(ke P "__static_attributes__" 299 (.ref 95))]⟩ 4) ⟨[]⟩
noncomputable def o102 (P:Params):=Obj.mk (.type "code") none (.fields ⟨[(.str "NotOver" 289),(.str "NotOver" 290),(.str "/claim/cut.py" 291),(.int 14 0),(.int 0 0),(.int 0 0),(.int 0 0),(.int 0 0),(.ref 91),(.bool false),(.int 181 0),(.ref 92),.none,.none,.none,.none,(.int 292 0),(.int 14 0),(.str "/claim/cut.py" 293)]⟩) ⟨[]⟩
noncomputable def o103 (P:Params):=Obj.mk (.type "frame") none .plain ⟨[(.some (.ref 93)),(.some (.ref 3)),(.some (.ref 90)),none,(.some (.str "lietable.errors" 187)),none,(.some (.ref 0))]⟩
noncomputable def o105 (P:Params):=Obj.mk (.type "dict") none (.dict ⟨[(ke P "__module__" 294 (.str "lietable.errors" 187)),(ke P "__firstlineno__" 298 (.int 14 297)),(ke P "__static_attributes__" 299 (.ref 95)),(ke P "__doc__" 300 .none)]⟩ 2) ⟨[]⟩
noncomputable def o106 (P:Params):=Obj.mk (.type "type") none (.cls (ClassData.mk "NotOver" [(.ref 24)] [(.ref 97),(.ref 24),(.type "ValueError"),(.type "Exception"),(.type "BaseException"),(.type "object")] 96 "NotOver" true [] [] false none false)) ⟨[(.some (.ref 88)),none,(.some (.str "NotOver" 287)),(.some (.str "NotOver" 295)),(.some (.builtin "ValueError.__new__")),(.some (.bool true))]⟩
noncomputable def o107 (P:Params):=Obj.mk (.type "super") none (.fields ⟨[(.ref 97),(.ref 97),(.ref 97)]⟩) ⟨[]⟩
noncomputable def o108 (P:Params):=Obj.mk (.type "builtin_function_or_method") none (.fields ⟨[(.builtin "object.__init_subclass__"),(.ref 97)]⟩) ⟨[]⟩
noncomputable def o111 (P:Params):=tu [(.str "thing" 318),(.str "least" 319),(.str "most" 320)]
noncomputable def o113 (P:Params):=f0 "is_within" "is_within" pa_is_within bd_is_within sc_is_within
noncomputable def o114 (P:Params):=Obj.mk (.type "code") none (.fields ⟨[(.str "is_within" 315),(.str "is_within" 316),(.str "/claim/cut.py" 317),(.int 22 0),(.int 3 0),(.int 0 0),(.int 0 0),(.int 3 0),(.ref 100),(.bool true),(.int 181 0),(.ref 101),.none,(.ref 102),(.ref 103),(.ref 104),(.int 321 0),(.int 22 0),(.str "/claim/cut.py" 322)]⟩) ⟨[]⟩
noncomputable def o115 (P:Params):=fo "is_within" "is_within" pa_is_within bd_is_within sc_is_within (.str "lietable.checks" 303) (.ref 105) 0
noncomputable def o118 (P:Params):=f0 "is_sign" "is_sign" pa_is_sign bd_is_sign sc_is_sign
noncomputable def o119 (P:Params):=Obj.mk (.type "code") none (.fields ⟨[(.str "is_sign" 324),(.str "is_sign" 325),(.str "/claim/cut.py" 326),(.int 24 0),(.int 1 0),(.int 0 0),(.int 0 0),(.int 3 0),(.ref 107),(.bool true),(.int 181 0),(.ref 108),.none,.none,.none,(.ref 109),(.int 327 0),(.int 24 0),(.str "/claim/cut.py" 328)]⟩) ⟨[]⟩
noncomputable def o120 (P:Params):=fo "is_sign" "is_sign" pa_is_sign bd_is_sign sc_is_sign (.str "lietable.checks" 303) (.ref 110) 0
noncomputable def o123 (P:Params):=tu [(.str "hands" 333),(.str "most" 334)]
noncomputable def o125 (P:Params):=f0 "need_table" "need_table" pa_need_table bd_need_table sc_need_table
noncomputable def o126 (P:Params):=Obj.mk (.type "code") none (.fields ⟨[(.str "need_table" 330),(.str "need_table" 331),(.str "/claim/cut.py" 332),(.int 28 0),(.int 2 0),(.int 0 0),(.int 0 0),(.int 3 0),(.ref 112),(.bool true),(.int 181 0),(.ref 113),.none,(.ref 114),(.ref 115),(.ref 116),(.int 335 0),(.int 28 0),(.str "/claim/cut.py" 336)]⟩) ⟨[]⟩
noncomputable def o127 (P:Params):=fo "need_table" "need_table" pa_need_table bd_need_table sc_need_table (.str "lietable.checks" 303) (.ref 117) 0
noncomputable def o130 (P:Params):=tu [(.str "thing" 341)]
noncomputable def o132 (P:Params):=f0 "need_sign" "need_sign" pa_need_sign bd_need_sign sc_need_sign
noncomputable def o133 (P:Params):=Obj.mk (.type "code") none (.fields ⟨[(.str "need_sign" 338),(.str "need_sign" 339),(.str "/claim/cut.py" 340),(.int 31 0),(.int 1 0),(.int 0 0),(.int 0 0),(.int 3 0),(.ref 119),(.bool true),(.int 181 0),(.ref 120),.none,(.ref 121),(.ref 122),(.ref 123),(.int 342 0),(.int 31 0),(.str "/claim/cut.py" 343)]⟩) ⟨[]⟩
noncomputable def o134 (P:Params):=fo "need_sign" "need_sign" pa_need_sign bd_need_sign sc_need_sign (.str "lietable.checks" 303) (.ref 124) 0
noncomputable def t6 (P:Params):BT:=(.node (boot_o_0 P) (.node (boot_o_1 P) (.node (o94 P) (.node (boot_o_7 P) (.node (o6 P) (.node (o0 P) (lf (o63 P)) (lf (o0 P))) (.node (o0 P) (lf (o0 P)) (lf (o120 P)))) (.node (o14 P) (.node (o33 P) (lf (o0 P)) (lf (o0 P))) (.node (o0 P) (lf (o93 P)) (lf (o0 P))))) (.node (o0 P) (.node (o1 P) (.node (o0 P) (lf (o0 P)) (lf (o108 P))) (.node (o48 P) (lf (o0 P)) (lf (o0 P)))) (.node (o18 P) (.node (o0 P) (lf (o78 P)) (lf (o0 P))) (.node (o0 P) (lf (o0 P)) (lf (o132 P)))))) (.node (boot_o_5 P) (.node (boot_o_9 P) (.node (o8 P) (.node (o27 P) (lf (o7 P)) (lf (o106 P))) (.node (o46 P) (lf (o87 P)) (lf (o1 P)))) (.node (o16 P) (.node (o7 P) (lf (o76 P)) (lf (o114 P))) (.node (o57 P) (lf (o7 P)) (lf (o130 P))))) (.node (o2 P) (.node (o12 P) (.node (o31 P) (lf (o72 P)) (lf (o1 P))) (.node (o7 P) (lf (o91 P)) (lf (o126 P)))) (.node (o7 P) (.node (o42 P) (lf (o7 P)) (lf (o118 P))) (.node (o61 P) (lf (o102 P)) (lf (o134 P))))))) (.node (boot_o_2 P) (.node (boot_o_4 P) (.node (boot_o_8 P) (.node (o7 P) (.node (o1 P) (lf (o22 P)) (lf (o105 P))) (.node (o45 P) (lf (o1 P)) (lf (o0 P)))) (.node (o96 P) (.node (o22 P) (lf (o75 P)) (lf (o113 P))) (.node (o1 P) (lf (o22 P)) (lf (o1 P))))) (.node (o95 P) (.node (o11 P) (.node (o30 P) (lf (o1 P)) (lf (o0 P))) (.node (o22 P) (lf (o90 P)) (lf (o125 P)))) (.node (o22 P) (.node (o1 P) (lf (o22 P)) (lf (o1 P))) (.node (o60 P) (lf (o1 P)) (lf (o133 P)))))) (.node (boot_o_6 P) (.node (boot_o_10 P) (.node (o0 P) (.node (o28 P) (lf (o69 P)) (lf (o107 P))) (.node (o47 P) (lf (o88 P)) (lf (o123 P)))) (.node (o17 P) (.node (o39 P) (lf (o77 P)) (lf (o115 P))) (.node (o58 P) (lf (o99 P)) (lf (o0 P))))) (.node (o3 P) (.node (o0 P) (.node (o32 P) (lf (o73 P)) (lf (o111 P))) (.node (o54 P) (lf (o92 P)) (lf (o127 P)))) (.node (o24 P) (.node (o43 P) (lf (o84 P)) (lf (o119 P))) (.node (o62 P) (lf (o103 P)) .nil))))))
noncomputable def T6 (w:World) (os:OsState):SharedT:=SharedT.mk (t6 w.params) 126 (Life.mk [] [] [] 0 [] [] false ⟨[]⟩ [] 0 false false false 0 [2000,10,10] false 0 true [] [] 0 false) ⟨[]⟩ (Drawn.mk 0 0 0 0) 345 os
noncomputable def sts6:List Stmt:=[s7,s8,s9,s10,s11,s12,s13,s14,s15,s16,s17]
theorem pc6:∀ w:World,(fun os=>segRunT treeTable pg w m0 ann 1 384 (T5 w os) (piecesOf sts6 en cE (Pos.mk 12 0 13 8) [topFrame qE]))=fun os=>some (Flow.next,T6 w os,cE,(Pos.mk 31 0 33 31)):=fun w=>by rewrite [PySem.W.Fast.te10110043849684766642,PySem.W.Fast.te14364793385576792824];kernel_rfl
noncomputable def o135 (P:Params):=Obj.mk (.type "dict") none (.dict ⟨[(ke P "__name__" 165 (.str "lietable.tables" 436)),(ke P "__doc__" 166 .none),(ke P "__package__" 167 .none),(ke P "__loader__" 168 (.builtin "__main__.__loader__#opaque")),(ke P "__spec__" 169 .none),(ke P "__annotations__" 170 (.ref 6)),(ke P "__builtins__" 171 (.ref 4)),(ke P "__file__" 173 (.str "/claim/cut.py" 172)),(ke P "__cached__" 174 .none),(ke P "TableError" 206 (.ref 24)),(ke P "NoTable" 222 (.ref 37)),(ke P "NoSign" 238 (.ref 49)),(ke P "NoHand" 254 (.ref 61)),(ke P "NoSaying" 270 (.ref 73)),(ke P "Over" 286 (.ref 85)),(ke P "NotOver" 302 (.ref 97)),(ke P "LEAST_HANDS" 306 (.int 2 305)),(ke P "MOST_HANDS" 308 (.int 10 307)),(ke P "MOST_LIARS" 310 (.int 2 309)),(ke P "MOST_LETTERS" 312 (.int 8 311)),(ke P "LETTERS" 314 (.str "abcdefghijklmnopqrstuvwxyz" 313)),(ke P "is_within" 323 (.ref 106)),(ke P "is_sign" 329 (.ref 111)),(ke P "need_table" 337 (.ref 118)),(ke P "need_sign" 344 (.ref 125)),(ke P "need_hand" 352 (.ref 132)),(ke P "need_liars" 362 (.ref 139)),(ke P "hearers" 370 (.ref 144)),(ke P "longer_paths" 381 (.ref 151)),(ke P "paths" 387 (.ref 156)),(ke P "paths_of" 393 (.ref 161)),(ke P "is_saying" 401 (.ref 166)),(ke P "need_lies" 412 (.ref 173)),(ke P "vote" 422 (.ref 180)),(ke P "settled" 435 (.ref 187))]⟩ 35) ⟨[]⟩
noncomputable def o136 (P:Params):=Obj.mk .none none (.fields ⟨[(.int 2 0),(.int 0 0),(.ref 20),(.int 4 0),(.int 0 0),(.ref 33),(.int 6 0),(.int 0 0),(.ref 45),(.int 8 0),(.int 0 0),(.ref 57),(.int 10 0),(.int 0 0),(.ref 69),(.int 12 0),(.int 0 0),(.ref 81),(.int 14 0),(.int 0 0),(.ref 93),(.int 22 0),(.int 0 0),(.ref 105),(.int 24 0),(.int 0 0),(.ref 110),(.int 28 0),(.int 0 0),(.ref 117),(.int 31 0),(.int 0 0),(.ref 124),(.int 34 0),(.int 0 0),(.ref 131),(.int 37 0),(.int 0 0),(.ref 138),(.int 45 0),(.int 0 0),(.ref 143),(.int 47 0),(.int 0 0),(.ref 150),(.int 53 0),(.int 0 0),(.ref 155),(.int 62 0),(.int 0 0),(.ref 160),(.int 65 0),(.int 0 0),(.ref 165),(.int 71 0),(.int 0 0),(.ref 172),(.int 78 0),(.int 0 0),(.ref 179),(.int 83 0),(.int 0 0),(.ref 186)]⟩) ⟨[]⟩
noncomputable def o139 (P:Params):=tu [(.str "hands" 348),(.str "thing" 349)]
noncomputable def o141 (P:Params):=f0 "need_hand" "need_hand" pa_need_hand bd_need_hand sc_need_hand
noncomputable def o142 (P:Params):=Obj.mk (.type "code") none (.fields ⟨[(.str "need_hand" 345),(.str "need_hand" 346),(.str "/claim/cut.py" 347),(.int 34 0),(.int 2 0),(.int 0 0),(.int 0 0),(.int 3 0),(.ref 126),(.bool true),(.int 181 0),(.ref 127),.none,(.ref 128),(.ref 129),(.ref 130),(.int 350 0),(.int 34 0),(.str "/claim/cut.py" 351)]⟩) ⟨[]⟩
noncomputable def o143 (P:Params):=fo "need_hand" "need_hand" pa_need_hand bd_need_hand sc_need_hand (.str "lietable.checks" 303) (.ref 131) 0
noncomputable def o146 (P:Params):=tu [(.str "hands" 356),(.str "liars" 357),(.str "found" 358),(.str "hand" 359)]
noncomputable def o148 (P:Params):=f0 "need_liars" "need_liars" pa_need_liars bd_need_liars sc_need_liars
noncomputable def o149 (P:Params):=Obj.mk (.type "code") none (.fields ⟨[(.str "need_liars" 353),(.str "need_liars" 354),(.str "/claim/cut.py" 355),(.int 37 0),(.int 2 0),(.int 0 0),(.int 0 0),(.int 3 0),(.ref 133),(.bool true),(.int 181 0),(.ref 134),.none,(.ref 135),(.ref 136),(.ref 137),(.int 360 0),(.int 37 0),(.str "/claim/cut.py" 361)]⟩) ⟨[]⟩
noncomputable def o150 (P:Params):=fo "need_liars" "need_liars" pa_need_liars bd_need_liars sc_need_liars (.str "lietable.checks" 303) (.ref 138) 0
noncomputable def o153 (P:Params):=f0 "hearers" "hearers" pa_hearers bd_hearers sc_hearers
noncomputable def o154 (P:Params):=Obj.mk (.type "code") none (.fields ⟨[(.str "hearers" 365),(.str "hearers" 366),(.str "/claim/cut.py" 367),(.int 45 0),(.int 2 0),(.int 0 0),(.int 0 0),(.int 3 0),(.ref 140),(.bool true),(.int 181 0),(.ref 141),.none,.none,.none,(.ref 142),(.int 368 0),(.int 45 0),(.str "/claim/cut.py" 369)]⟩) ⟨[]⟩
noncomputable def o155 (P:Params):=fo "hearers" "hearers" pa_hearers bd_hearers sc_hearers (.str "lietable.paths" 363) (.ref 143) 0
noncomputable def o158 (P:Params):=tu [(.str "hands" 374),(.str "row" 375),(.str "found" 376),(.str "path" 377),(.str "hand" 378)]
noncomputable def o160 (P:Params):=f0 "longer_paths" "longer_paths" pa_longer_paths bd_longer_paths sc_longer_paths
noncomputable def o161 (P:Params):=Obj.mk (.type "code") none (.fields ⟨[(.str "longer_paths" 371),(.str "longer_paths" 372),(.str "/claim/cut.py" 373),(.int 47 0),(.int 2 0),(.int 0 0),(.int 0 0),(.int 3 0),(.ref 145),(.bool true),(.int 181 0),(.ref 146),.none,(.ref 147),(.ref 148),(.ref 149),(.int 379 0),(.int 47 0),(.str "/claim/cut.py" 380)]⟩) ⟨[]⟩
noncomputable def o162 (P:Params):=fo "longer_paths" "longer_paths" pa_longer_paths bd_longer_paths sc_longer_paths (.str "lietable.paths" 363) (.ref 150) 0
noncomputable def o165 (P:Params):=f0 "paths" "paths" pa_paths bd_paths sc_paths
noncomputable def o166 (P:Params):=Obj.mk (.type "code") none (.fields ⟨[(.str "paths" 382),(.str "paths" 383),(.str "/claim/cut.py" 384),(.int 53 0),(.int 2 0),(.int 0 0),(.int 0 0),(.int 3 0),(.ref 152),(.bool true),(.int 181 0),(.ref 153),.none,.none,.none,(.ref 154),(.int 385 0),(.int 53 0),(.str "/claim/cut.py" 386)]⟩) ⟨[]⟩
noncomputable def o167 (P:Params):=fo "paths" "paths" pa_paths bd_paths sc_paths (.str "lietable.paths" 363) (.ref 155) 0
noncomputable def o170 (P:Params):=f0 "paths_of" "paths_of" pa_paths_of bd_paths_of sc_paths_of
noncomputable def o171 (P:Params):=Obj.mk (.type "code") none (.fields ⟨[(.str "paths_of" 388),(.str "paths_of" 389),(.str "/claim/cut.py" 390),(.int 62 0),(.int 3 0),(.int 0 0),(.int 0 0),(.int 3 0),(.ref 157),(.bool true),(.int 181 0),(.ref 158),.none,.none,.none,(.ref 159),(.int 391 0),(.int 62 0),(.str "/claim/cut.py" 392)]⟩) ⟨[]⟩
noncomputable def o172 (P:Params):=fo "paths_of" "paths_of" pa_paths_of bd_paths_of sc_paths_of (.str "lietable.paths" 363) (.ref 160) 0
noncomputable def o175 (P:Params):=f0 "is_saying" "is_saying" pa_is_saying bd_is_saying sc_is_saying
noncomputable def o176 (P:Params):=Obj.mk (.type "code") none (.fields ⟨[(.str "is_saying" 396),(.str "is_saying" 397),(.str "/claim/cut.py" 398),(.int 65 0),(.int 4 0),(.int 0 0),(.int 0 0),(.int 3 0),(.ref 162),(.bool true),(.int 181 0),(.ref 163),.none,.none,.none,(.ref 164),(.int 399 0),(.int 65 0),(.str "/claim/cut.py" 400)]⟩) ⟨[]⟩
noncomputable def o177 (P:Params):=fo "is_saying" "is_saying" pa_is_saying bd_is_saying sc_is_saying (.str "lietable.sayings" 394) (.ref 165) 0
noncomputable def o180 (P:Params):=tu [(.str "hands" 405),(.str "liars" 406),(.str "rows" 407),(.str "lies" 408),(.str "pair" 409)]
noncomputable def o182 (P:Params):=f0 "need_lies" "need_lies" pa_need_lies bd_need_lies sc_need_lies
noncomputable def o183 (P:Params):=Obj.mk (.type "code") none (.fields ⟨[(.str "need_lies" 402),(.str "need_lies" 403),(.str "/claim/cut.py" 404),(.int 71 0),(.int 4 0),(.int 0 0),(.int 0 0),(.int 3 0),(.ref 167),(.bool true),(.int 181 0),(.ref 168),.none,(.ref 169),(.ref 170),(.ref 171),(.int 410 0),(.int 71 0),(.str "/claim/cut.py" 411)]⟩) ⟨[]⟩
noncomputable def o184 (P:Params):=fo "need_lies" "need_lies" pa_need_lies bd_need_lies sc_need_lies (.str "lietable.sayings" 394) (.ref 172) 0
noncomputable def o187 (P:Params):=tu [(.str "signs" 418),(.str "sign" 419)]
noncomputable def o189 (P:Params):=f0 "vote" "vote" pa_vote bd_vote sc_vote
noncomputable def o190 (P:Params):=Obj.mk (.type "code") none (.fields ⟨[(.str "vote" 415),(.str "vote" 416),(.str "/claim/cut.py" 417),(.int 78 0),(.int 1 0),(.int 0 0),(.int 0 0),(.int 3 0),(.ref 174),(.bool true),(.int 181 0),(.ref 175),.none,(.ref 176),(.ref 177),(.ref 178),(.int 420 0),(.int 78 0),(.str "/claim/cut.py" 421)]⟩) ⟨[]⟩
noncomputable def o191 (P:Params):=fo "vote" "vote" pa_vote bd_vote sc_vote (.str "lietable.votes" 413) (.ref 179) 0
noncomputable def o194 (P:Params):=tu [(.str "hands" 426),(.str "most" 427),(.str "told" 428),(.str "hand" 429),(.str "path" 430),(.str "signs" 431),(.str "other" 432)]
noncomputable def o196 (P:Params):=f0 "settled" "settled" pa_settled bd_settled sc_settled
noncomputable def o197 (P:Params):=Obj.mk (.type "code") none (.fields ⟨[(.str "settled" 423),(.str "settled" 424),(.str "/claim/cut.py" 425),(.int 83 0),(.int 5 0),(.int 0 0),(.int 0 0),(.int 3 0),(.ref 181),(.bool true),(.int 181 0),(.ref 182),.none,(.ref 183),(.ref 184),(.ref 185),(.int 433 0),(.int 83 0),(.str "/claim/cut.py" 434)]⟩) ⟨[]⟩
noncomputable def o198 (P:Params):=fo "settled" "settled" pa_settled bd_settled sc_settled (.str "lietable.votes" 413) (.ref 186) 0
noncomputable def t7 (P:Params):BT:=(.node (boot_o_0 P) (.node (boot_o_1 P) (.node (o135 P) (.node (boot_o_7 P) (.node (o6 P) (.node (o0 P) (.node (o63 P) (lf (o1 P)) .nil) (.node (o0 P) (lf (o170 P)) .nil)) (.node (o0 P) (.node (o0 P) (lf (o154 P)) .nil) (.node (o120 P) (lf (o1 P)) .nil))) (.node (o14 P) (.node (o33 P) (.node (o0 P) (lf (o146 P)) .nil) (.node (o0 P) (lf (o0 P)) .nil)) (.node (o0 P) (.node (o93 P) (lf (o162 P)) .nil) (.node (o0 P) (lf (o194 P)) .nil)))) (.node (o0 P) (.node (o1 P) (.node (o0 P) (.node (o0 P) (lf (o142 P)) .nil) (.node (o108 P) (lf (o1 P)) .nil)) (.node (o48 P) (.node (o0 P) (lf (o158 P)) .nil) (.node (o0 P) (lf (o190 P)) .nil))) (.node (o18 P) (.node (o0 P) (.node (o78 P) (lf (o150 P)) .nil) (.node (o0 P) (lf (o182 P)) .nil)) (.node (o0 P) (.node (o0 P) (lf (o166 P)) .nil) (.node (o132 P) (lf (o198 P)) .nil))))) (.node (boot_o_5 P) (.node (boot_o_9 P) (.node (o8 P) (.node (o27 P) (.node (o7 P) (lf (o0 P)) .nil) (.node (o106 P) (lf (o172 P)) .nil)) (.node (o46 P) (.node (o87 P) (lf (o0 P)) .nil) (.node (o1 P) (lf (o0 P)) .nil))) (.node (o16 P) (.node (o7 P) (.node (o76 P) (lf (o148 P)) .nil) (.node (o114 P) (lf (o180 P)) .nil)) (.node (o57 P) (.node (o7 P) (lf (o1 P)) .nil) (.node (o130 P) (lf (o196 P)) .nil)))) (.node (o2 P) (.node (o12 P) (.node (o31 P) (.node (o72 P) (lf (o0 P)) .nil) (.node (o1 P) (lf (o176 P)) .nil)) (.node (o7 P) (.node (o91 P) (lf (o160 P)) .nil) (.node (o126 P) (lf (o0 P)) .nil))) (.node (o7 P) (.node (o42 P) (.node (o7 P) (lf (o1 P)) .nil) (.node (o118 P) (lf (o184 P)) .nil)) (.node (o61 P) (.node (o102 P) (lf (o0 P)) .nil) (lf (o134 P))))))) (.node (boot_o_2 P) (.node (boot_o_4 P) (.node (boot_o_8 P) (.node (o7 P) (.node (o1 P) (.node (o22 P) (lf (o139 P)) .nil) (.node (o105 P) (lf (o171 P)) .nil)) (.node (o45 P) (.node (o1 P) (lf (o155 P)) .nil) (.node (o0 P) (lf (o187 P)) .nil))) (.node (o96 P) (.node (o22 P) (.node (o75 P) (lf (o0 P)) .nil) (.node (o113 P) (lf (o1 P)) .nil)) (.node (o1 P) (.node (o22 P) (lf (o0 P)) .nil) (.node (o1 P) (lf (o0 P)) .nil)))) (.node (o136 P) (.node (o11 P) (.node (o30 P) (.node (o1 P) (lf (o143 P)) .nil) (.node (o0 P) (lf (o175 P)) .nil)) (.node (o22 P) (.node (o90 P) (lf (o0 P)) .nil) (.node (o125 P) (lf (o191 P)) .nil))) (.node (o22 P) (.node (o1 P) (.node (o22 P) (lf (o0 P)) .nil) (.node (o1 P) (lf (o183 P)) .nil)) (.node (o60 P) (.node (o1 P) (lf (o167 P)) .nil) (lf (o133 P)))))) (.node (boot_o_6 P) (.node (boot_o_10 P) (.node (o0 P) (.node (o28 P) (.node (o69 P) (lf (o141 P)) .nil) (.node (o107 P) (lf (o0 P)) .nil)) (.node (o47 P) (.node (o88 P) (lf (o1 P)) .nil) (.node (o123 P) (lf (o189 P)) .nil))) (.node (o17 P) (.node (o39 P) (.node (o77 P) (lf (o149 P)) .nil) (.node (o115 P) (lf (o0 P)) .nil)) (.node (o58 P) (.node (o99 P) (lf (o165 P)) .nil) (.node (o0 P) (lf (o197 P)) .nil)))) (.node (o3 P) (.node (o0 P) (.node (o32 P) (.node (o73 P) (lf (o1 P)) .nil) (.node (o111 P) (lf (o177 P)) .nil)) (.node (o54 P) (.node (o92 P) (lf (o161 P)) .nil) (.node (o127 P) (lf (o1 P)) .nil))) (.node (o24 P) (.node (o43 P) (.node (o84 P) (lf (o153 P)) .nil) (.node (o119 P) (lf (o0 P)) .nil)) (.node (o62 P) (.node (o103 P) (lf (o1 P)) .nil) (lf (o0 P))))))))
noncomputable def T7 (w:World) (os:OsState):SharedT:=SharedT.mk (t7 w.params) 188 (Life.mk [] [] [] 0 [] [] false ⟨[]⟩ [] 0 false false false 0 [2000,10,10] false 0 true [] [] 0 false) ⟨[]⟩ (Drawn.mk 0 0 0 0) 438 os
noncomputable def sts7:List Stmt:=[s18,s19,s20,s21,s22,s23,s24,s25,s26,s27,s28,s29,s30,s31]
theorem pc7:∀ w:World,(fun os=>segRunT treeTable pg w m0 ann 1 334 (T6 w os) (piecesOf sts7 en cE (Pos.mk 31 0 33 31) [topFrame qE]))=fun os=>some (Flow.next,T7 w os,cE,(Pos.mk 91 0 91 8)):=fun w=>by rewrite [PySem.W.Fast.te10110043849684766642,PySem.W.Fast.te14364793385576792824];kernel_rfl
noncomputable def o199 (P:Params):=Obj.mk (.type "dict") none (.dict ⟨[(ke P "__name__" 165 (.str "law_uf060015_05" 500)),(ke P "__doc__" 166 .none),(ke P "__package__" 167 .none),(ke P "__loader__" 168 (.builtin "__main__.__loader__#opaque")),(ke P "__spec__" 169 .none),(ke P "__annotations__" 170 (.ref 6)),(ke P "__builtins__" 171 (.ref 4)),(ke P "__file__" 173 (.str "/claim/cut.py" 172)),(ke P "__cached__" 174 .none),(ke P "TableError" 206 (.ref 24)),(ke P "NoTable" 222 (.ref 37)),(ke P "NoSign" 238 (.ref 49)),(ke P "NoHand" 254 (.ref 61)),(ke P "NoSaying" 270 (.ref 73)),(ke P "Over" 286 (.ref 85)),(ke P "NotOver" 302 (.ref 97)),(ke P "LEAST_HANDS" 306 (.int 2 305)),(ke P "MOST_HANDS" 308 (.int 10 307)),(ke P "MOST_LIARS" 310 (.int 2 309)),(ke P "MOST_LETTERS" 312 (.int 8 311)),(ke P "LETTERS" 314 (.str "abcdefghijklmnopqrstuvwxyz" 313)),(ke P "is_within" 323 (.ref 106)),(ke P "is_sign" 329 (.ref 111)),(ke P "need_table" 337 (.ref 118)),(ke P "need_sign" 344 (.ref 125)),(ke P "need_hand" 352 (.ref 132)),(ke P "need_liars" 362 (.ref 139)),(ke P "hearers" 370 (.ref 144)),(ke P "longer_paths" 381 (.ref 151)),(ke P "paths" 387 (.ref 156)),(ke P "paths_of" 393 (.ref 161)),(ke P "is_saying" 401 (.ref 166)),(ke P "need_lies" 412 (.ref 173)),(ke P "vote" 422 (.ref 180)),(ke P "settled" 435 (.ref 187)),(ke P "Table" 499 (.ref 228)),(ke P "_law_cell_at" 509 (.ref 239))]⟩ 37) ⟨[]⟩
noncomputable def o200 (P:Params):=Obj.mk .none none (.fields ⟨[(.int 2 0),(.int 0 0),(.ref 20),(.int 4 0),(.int 0 0),(.ref 33),(.int 6 0),(.int 0 0),(.ref 45),(.int 8 0),(.int 0 0),(.ref 57),(.int 10 0),(.int 0 0),(.ref 69),(.int 12 0),(.int 0 0),(.ref 81),(.int 14 0),(.int 0 0),(.ref 93),(.int 22 0),(.int 0 0),(.ref 105),(.int 24 0),(.int 0 0),(.ref 110),(.int 28 0),(.int 0 0),(.ref 117),(.int 31 0),(.int 0 0),(.ref 124),(.int 34 0),(.int 0 0),(.ref 131),(.int 37 0),(.int 0 0),(.ref 138),(.int 45 0),(.int 0 0),(.ref 143),(.int 47 0),(.int 0 0),(.ref 150),(.int 53 0),(.int 0 0),(.ref 155),(.int 62 0),(.int 0 0),(.ref 160),(.int 65 0),(.int 0 0),(.ref 165),(.int 71 0),(.int 0 0),(.ref 172),(.int 78 0),(.int 0 0),(.ref 179),(.int 83 0),(.int 0 0),(.ref 186),(.int 92 0),(.int 0 0),(.ref 193),(.int 133 0),(.int 0 0),(.ref 238)]⟩) ⟨[]⟩
noncomputable def o203 (P:Params):=Obj.mk (.type "dict") none (.dict ⟨[(ke P "__module__" 445 (.str "lietable.tables" 436)),(ke P "__qualname__" 447 (.str "Table" 446)),(ke P "__firstlineno__" 449 (.int 92 448)),(ke P "__init__" 455 (.ref 199)),(ke P "honest" 463 (.ref 206)),(ke P "play" 469 (.ref 211)),(ke P "told" 477 (.ref 218)),(ke P "says" 485 (.ref 225)),(ke P "__static_attributes__" 492 (.ref 226))]⟩ 9) ⟨[]⟩
noncomputable def o205 (P:Params):=Obj.mk .none none (.fields ⟨[(.int 94 0),(.int 4 0),(.ref 198),(.int 105 0),(.int 4 0),(.ref 205),(.int 110 0),(.int 4 0),(.ref 210),(.int 121 0),(.int 4 0),(.ref 217),(.int 125 0),(.int 4 0),(.ref 224)]⟩) ⟨[]⟩
noncomputable def o206 (P:Params):=Obj.mk (.type "code") none (.fields ⟨[(.str "Table" 440),(.str "Table" 441),(.str "/claim/cut.py" 442),(.int 92 0),(.int 0 0),(.int 0 0),(.int 0 0),(.int 0 0),(.ref 191),(.bool false),(.int 181 0),(.ref 192),.none,.none,.none,.none,(.int 443 0),(.int 92 0),(.str "/claim/cut.py" 444)]⟩) ⟨[]⟩
noncomputable def o207 (P:Params):=Obj.mk (.type "frame") none .plain ⟨[(.some (.ref 193)),(.some (.ref 3)),(.some (.ref 190)),none,(.some (.str "lietable.tables" 436)),none,(.some (.ref 0))]⟩
noncomputable def o210 (P:Params):=f0 "__init__" "Table.__init__" pa_Table___init__ bd_Table___init__ sc_Table___init__
noncomputable def o211 (P:Params):=Obj.mk (.type "code") none (.fields ⟨[(.str "__init__" 450),(.str "Table.__init__" 451),(.str "/claim/cut.py" 452),(.int 94 0),(.int 5 0),(.int 0 0),(.int 0 0),(.int 3 0),(.ref 195),(.bool true),(.int 181 0),(.ref 196),.none,.none,.none,(.ref 197),(.int 453 0),(.int 94 0),(.str "/claim/cut.py" 454)]⟩) ⟨[]⟩
noncomputable def o212 (P:Params):=fo "__init__" "Table.__init__" pa_Table___init__ bd_Table___init__ sc_Table___init__ (.str "lietable.tables" 436) (.ref 198) 0
noncomputable def o215 (P:Params):=tu [(.str "self" 459),(.str "path" 460)]
noncomputable def o217 (P:Params):=f0 "honest" "Table.honest" pa_Table_honest bd_Table_honest sc_Table_honest
noncomputable def o218 (P:Params):=Obj.mk (.type "code") none (.fields ⟨[(.str "honest" 456),(.str "Table.honest" 457),(.str "/claim/cut.py" 458),(.int 105 0),(.int 2 0),(.int 0 0),(.int 0 0),(.int 3 0),(.ref 200),(.bool true),(.int 181 0),(.ref 201),.none,(.ref 202),(.ref 203),(.ref 204),(.int 461 0),(.int 105 0),(.str "/claim/cut.py" 462)]⟩) ⟨[]⟩
noncomputable def o219 (P:Params):=fo "honest" "Table.honest" pa_Table_honest bd_Table_honest sc_Table_honest (.str "lietable.tables" 436) (.ref 205) 0
noncomputable def o222 (P:Params):=f0 "play" "Table.play" pa_Table_play bd_Table_play sc_Table_play
noncomputable def o223 (P:Params):=Obj.mk (.type "code") none (.fields ⟨[(.str "play" 464),(.str "Table.play" 465),(.str "/claim/cut.py" 466),(.int 110 0),(.int 2 0),(.int 0 0),(.int 0 0),(.int 3 0),(.ref 207),(.bool true),(.int 181 0),(.ref 208),.none,.none,.none,(.ref 209),(.int 467 0),(.int 110 0),(.str "/claim/cut.py" 468)]⟩) ⟨[]⟩
noncomputable def o224 (P:Params):=fo "play" "Table.play" pa_Table_play bd_Table_play sc_Table_play (.str "lietable.tables" 436) (.ref 210) 0
noncomputable def o227 (P:Params):=tu [(.str "self" 473),(.str "hand" 474)]
noncomputable def o229 (P:Params):=f0 "told" "Table.told" pa_Table_told bd_Table_told sc_Table_told
noncomputable def o230 (P:Params):=Obj.mk (.type "code") none (.fields ⟨[(.str "told" 470),(.str "Table.told" 471),(.str "/claim/cut.py" 472),(.int 121 0),(.int 2 0),(.int 0 0),(.int 0 0),(.int 3 0),(.ref 212),(.bool true),(.int 181 0),(.ref 213),.none,(.ref 214),(.ref 215),(.ref 216),(.int 475 0),(.int 121 0),(.str "/claim/cut.py" 476)]⟩) ⟨[]⟩
noncomputable def o231 (P:Params):=fo "told" "Table.told" pa_Table_told bd_Table_told sc_Table_told (.str "lietable.tables" 436) (.ref 217) 0
noncomputable def o234 (P:Params):=tu [(.str "self" 481),(.str "hand" 482)]
noncomputable def o236 (P:Params):=f0 "says" "Table.says" pa_Table_says bd_Table_says sc_Table_says
noncomputable def o237 (P:Params):=Obj.mk (.type "code") none (.fields ⟨[(.str "says" 478),(.str "Table.says" 479),(.str "/claim/cut.py" 480),(.int 125 0),(.int 2 0),(.int 0 0),(.int 0 0),(.int 3 0),(.ref 219),(.bool true),(.int 181 0),(.ref 220),.none,(.ref 221),(.ref 222),(.ref 223),(.int 483 0),(.int 125 0),(.str "/claim/cut.py" 484)]⟩) ⟨[]⟩
noncomputable def o238 (P:Params):=fo "says" "Table.says" pa_Table_says bd_Table_says sc_Table_says (.str "lietable.tables" 436) (.ref 224) 0
noncomputable def o239 (P:Params):=tu [(.str "hands" 486),(.str "heard" 487),(.str "liars" 488),(.str "most" 489),(.str "round" 490),(.str "sign" 491)]
noncomputable def o240 (P:Params):=Obj.mk (.type "dict") none (.dict ⟨[(ke P "__module__" 445 (.str "lietable.tables" 436)),(ke P "__firstlineno__" 449 (.int 92 448)),(ke P "__init__" 455 (.ref 199)),(ke P "honest" 463 (.ref 206)),(ke P "play" 469 (.ref 211)),(ke P "told" 477 (.ref 218)),(ke P "says" 485 (.ref 225)),(ke P "__static_attributes__" 492 (.ref 226)),(ke P "__dict__" 494 (.ref 229)),(ke P "__weakref__" 496 (.ref 230)),(ke P "__doc__" 497 .none)]⟩ 4) ⟨[]⟩
noncomputable def o241 (P:Params):=Obj.mk (.type "type") none (.cls (ClassData.mk "Table" [(.type "object")] [(.ref 228),(.type "object")] 227 "Table" true [] [] false none false)) ⟨[none,none,(.some (.str "Table" 438)),(.some (.str "Table" 446)),(.some (.builtin "object.__new__")),(.some (.bool true))]⟩
noncomputable def o242 (P:Params):=Obj.mk (.type "getset_descriptor") none (.fields ⟨[(.str "__dict__" 493),(.ref 228),(.builtin "function.__dict__"),(.builtin "function.__dict__#set")]⟩) ⟨[]⟩
noncomputable def o243 (P:Params):=Obj.mk (.type "getset_descriptor") none (.fields ⟨[(.str "__weakref__" 495),(.ref 228),(.builtin "ExceptionGroup.__weakref__"),.none]⟩) ⟨[]⟩
noncomputable def o244 (P:Params):=Obj.mk (.type "super") none (.fields ⟨[(.ref 228),(.ref 228),(.ref 228)]⟩) ⟨[]⟩
noncomputable def o245 (P:Params):=Obj.mk (.type "builtin_function_or_method") none (.fields ⟨[(.builtin "object.__init_subclass__"),(.ref 228)]⟩) ⟨[]⟩
noncomputable def o248 (P:Params):=tu [(.str "_law_script" 505),(.str "_law_k" 506)]
noncomputable def o250 (P:Params):=f0 "_law_cell_at" "_law_cell_at" pa__law_cell_at bd__law_cell_at sc__law_cell_at
noncomputable def o251 (P:Params):=Obj.mk (.type "code") none (.fields ⟨[(.str "_law_cell_at" 502),(.str "_law_cell_at" 503),(.str "/claim/cut.py" 504),(.int 133 0),(.int 2 0),(.int 0 0),(.int 0 0),(.int 3 0),(.ref 233),(.bool true),(.int 181 0),(.ref 234),.none,(.ref 235),(.ref 236),(.ref 237),(.int 507 0),(.int 133 0),(.str "/claim/cut.py" 508)]⟩) ⟨[]⟩
noncomputable def o252 (P:Params):=fo "_law_cell_at" "_law_cell_at" pa__law_cell_at bd__law_cell_at sc__law_cell_at (.str "law_uf060015_05" 500) (.ref 238) 0
noncomputable def t8 (P:Params):BT:=(.node (boot_o_0 P) (.node (boot_o_1 P) (.node (o199 P) (.node (boot_o_7 P) (.node (o6 P) (.node (o0 P) (.node (o63 P) (lf (o1 P)) (lf (o0 P))) (.node (o0 P) (lf (o170 P)) (lf (o236 P)))) (.node (o0 P) (.node (o0 P) (lf (o154 P)) (lf (o0 P))) (.node (o120 P) (lf (o1 P)) (lf (o252 P))))) (.node (o14 P) (.node (o33 P) (.node (o0 P) (lf (o146 P)) (lf (o212 P))) (.node (o0 P) (lf (o0 P)) (lf (o244 P)))) (.node (o0 P) (.node (o93 P) (lf (o162 P)) (lf (o0 P))) (.node (o0 P) (lf (o194 P)) .nil)))) (.node (o0 P) (.node (o1 P) (.node (o0 P) (.node (o0 P) (lf (o142 P)) (lf (o0 P))) (.node (o108 P) (lf (o1 P)) (lf (o240 P)))) (.node (o48 P) (.node (o0 P) (lf (o158 P)) (lf (o224 P))) (.node (o0 P) (lf (o190 P)) .nil))) (.node (o18 P) (.node (o0 P) (.node (o78 P) (lf (o150 P)) (lf (o0 P))) (.node (o0 P) (lf (o182 P)) (lf (o248 P)))) (.node (o0 P) (.node (o0 P) (lf (o166 P)) (lf (o0 P))) (.node (o132 P) (lf (o198 P)) .nil))))) (.node (boot_o_5 P) (.node (boot_o_9 P) (.node (o8 P) (.node (o27 P) (.node (o7 P) (lf (o0 P)) (lf (o206 P))) (.node (o106 P) (lf (o172 P)) (lf (o238 P)))) (.node (o46 P) (.node (o87 P) (lf (o0 P)) (lf (o222 P))) (.node (o1 P) (lf (o0 P)) .nil))) (.node (o16 P) (.node (o7 P) (.node (o76 P) (lf (o148 P)) (lf (o1 P))) (.node (o114 P) (lf (o180 P)) (lf (o0 P)))) (.node (o57 P) (.node (o7 P) (lf (o1 P)) (lf (o230 P))) (.node (o130 P) (lf (o196 P)) .nil)))) (.node (o2 P) (.node (o12 P) (.node (o31 P) (.node (o72 P) (lf (o0 P)) (lf (o210 P))) (.node (o1 P) (lf (o176 P)) (lf (o242 P)))) (.node (o7 P) (.node (o91 P) (lf (o160 P)) (lf (o1 P))) (.node (o126 P) (lf (o0 P)) .nil))) (.node (o7 P) (.node (o42 P) (.node (o7 P) (lf (o1 P)) (lf (o218 P))) (.node (o118 P) (lf (o184 P)) (lf (o250 P)))) (.node (o61 P) (.node (o102 P) (lf (o0 P)) (lf (o234 P))) (.node (o134 P) (lf (o7 P)) .nil)))))) (.node (boot_o_2 P) (.node (boot_o_4 P) (.node (boot_o_8 P) (.node (o7 P) (.node (o1 P) (.node (o22 P) (lf (o139 P)) (lf (o205 P))) (.node (o105 P) (lf (o171 P)) (lf (o237 P)))) (.node (o45 P) (.node (o1 P) (lf (o155 P)) (lf (o1 P))) (.node (o0 P) (lf (o187 P)) .nil))) (.node (o96 P) (.node (o22 P) (.node (o75 P) (lf (o0 P)) (lf (o0 P))) (.node (o113 P) (lf (o1 P)) (lf (o245 P)))) (.node (o1 P) (.node (o22 P) (lf (o0 P)) (lf (o229 P))) (.node (o1 P) (lf (o0 P)) .nil)))) (.node (o200 P) (.node (o11 P) (.node (o30 P) (.node (o1 P) (lf (o143 P)) (lf (o1 P))) (.node (o0 P) (lf (o175 P)) (lf (o241 P)))) (.node (o22 P) (.node (o90 P) (lf (o0 P)) (lf (o0 P))) (.node (o125 P) (lf (o191 P)) .nil))) (.node (o22 P) (.node (o1 P) (.node (o22 P) (lf (o0 P)) (lf (o217 P))) (.node (o1 P) (lf (o183 P)) (lf (o0 P)))) (.node (o60 P) (.node (o1 P) (lf (o167 P)) (lf (o1 P))) (.node (o133 P) (lf (o0 P)) .nil))))) (.node (boot_o_6 P) (.node (boot_o_10 P) (.node (o0 P) (.node (o28 P) (.node (o69 P) (lf (o141 P)) (lf (o207 P))) (.node (o107 P) (lf (o0 P)) (lf (o239 P)))) (.node (o47 P) (.node (o88 P) (lf (o1 P)) (lf (o223 P))) (.node (o123 P) (lf (o189 P)) .nil))) (.node (o17 P) (.node (o39 P) (.node (o77 P) (lf (o149 P)) (lf (o215 P))) (.node (o115 P) (lf (o0 P)) (lf (o1 P)))) (.node (o58 P) (.node (o99 P) (lf (o165 P)) (lf (o231 P))) (.node (o0 P) (lf (o197 P)) .nil)))) (.node (o3 P) (.node (o0 P) (.node (o32 P) (.node (o73 P) (lf (o1 P)) (lf (o211 P))) (.node (o111 P) (lf (o177 P)) (lf (o243 P)))) (.node (o54 P) (.node (o92 P) (lf (o161 P)) (lf (o227 P))) (.node (o127 P) (lf (o1 P)) .nil))) (.node (o24 P) (.node (o43 P) (.node (o84 P) (lf (o153 P)) (lf (o219 P))) (.node (o119 P) (lf (o0 P)) (lf (o251 P)))) (.node (o62 P) (.node (o103 P) (lf (o1 P)) (lf (o0 P))) (.node (o0 P) (lf (o203 P)) .nil)))))))
noncomputable def T8 (w:World) (os:OsState):SharedT:=SharedT.mk (t8 w.params) 240 (Life.mk [] [] [] 0 [] [] false ⟨[]⟩ [] 0 false false false 0 [2000,10,10] false 0 true [] [] 0 false) ⟨[]⟩ (Drawn.mk 0 0 0 0) 510 os
noncomputable def sts8:List Stmt:=[s32,s33,s34]
theorem pc8:∀ w:World,(fun os=>segRunT treeTable pg w m0 ann 1 387 (T7 w os) (piecesOf sts8 en cE (Pos.mk 91 0 91 8) [topFrame qE]))=fun os=>some (Flow.next,T8 w os,cE,(Pos.mk 133 0 136 12)):=fun w=>by rewrite [PySem.W.Fast.te10110043849684766642,PySem.W.Fast.te14364793385576792824];kernel_rfl
noncomputable def o253 (P:Params):=Obj.mk (.type "dict") none (.dict ⟨[(ke P "__name__" 165 (.str "law_uf060015_05" 500)),(ke P "__doc__" 166 .none),(ke P "__package__" 167 .none),(ke P "__loader__" 168 (.builtin "__main__.__loader__#opaque")),(ke P "__spec__" 169 .none),(ke P "__annotations__" 170 (.ref 6)),(ke P "__builtins__" 171 (.ref 4)),(ke P "__file__" 173 (.str "/claim/cut.py" 172)),(ke P "__cached__" 174 .none),(ke P "TableError" 206 (.ref 24)),(ke P "NoTable" 222 (.ref 37)),(ke P "NoSign" 238 (.ref 49)),(ke P "NoHand" 254 (.ref 61)),(ke P "NoSaying" 270 (.ref 73)),(ke P "Over" 286 (.ref 85)),(ke P "NotOver" 302 (.ref 97)),(ke P "LEAST_HANDS" 306 (.int 2 305)),(ke P "MOST_HANDS" 308 (.int 10 307)),(ke P "MOST_LIARS" 310 (.int 2 309)),(ke P "MOST_LETTERS" 312 (.int 8 311)),(ke P "LETTERS" 314 (.str "abcdefghijklmnopqrstuvwxyz" 313)),(ke P "is_within" 323 (.ref 106)),(ke P "is_sign" 329 (.ref 111)),(ke P "need_table" 337 (.ref 118)),(ke P "need_sign" 344 (.ref 125)),(ke P "need_hand" 352 (.ref 132)),(ke P "need_liars" 362 (.ref 139)),(ke P "hearers" 370 (.ref 144)),(ke P "longer_paths" 381 (.ref 151)),(ke P "paths" 387 (.ref 156)),(ke P "paths_of" 393 (.ref 161)),(ke P "is_saying" 401 (.ref 166)),(ke P "need_lies" 412 (.ref 173)),(ke P "vote" 422 (.ref 180)),(ke P "settled" 435 (.ref 187)),(ke P "Table" 499 (.ref 228)),(ke P "_law_cell_at" 509 (.ref 239)),(ke P "_law_whole" 516 (.ref 246)),(ke P "_law_signs" 531 (.ref 253)),(ke P "_law_table" 539 (.ref 260)),(ke P "_law_paths" 545 (.ref 265)),(ke P "_law_liars" 557 (.ref 272)),(ke P "_law_mixed" 567 (.ref 279)),(ke P "_law_lie" 579 (.ref 286)),(ke P "_law_lies" 585 (.ref 291)),(ke P "_law_play" 591 (.ref 296)),(ke P "_law_of" 602 (.ref 303)),(ke P "_law_same" 610 (.ref 310)),(ke P "_law_told" 616 (.ref 315)),(ke P "_law_word" 625 (.ref 322))]⟩ 50) ⟨[]⟩
noncomputable def o254 (P:Params):=Obj.mk .none none (.fields ⟨[(.int 2 0),(.int 0 0),(.ref 20),(.int 4 0),(.int 0 0),(.ref 33),(.int 6 0),(.int 0 0),(.ref 45),(.int 8 0),(.int 0 0),(.ref 57),(.int 10 0),(.int 0 0),(.ref 69),(.int 12 0),(.int 0 0),(.ref 81),(.int 14 0),(.int 0 0),(.ref 93),(.int 22 0),(.int 0 0),(.ref 105),(.int 24 0),(.int 0 0),(.ref 110),(.int 28 0),(.int 0 0),(.ref 117),(.int 31 0),(.int 0 0),(.ref 124),(.int 34 0),(.int 0 0),(.ref 131),(.int 37 0),(.int 0 0),(.ref 138),(.int 45 0),(.int 0 0),(.ref 143),(.int 47 0),(.int 0 0),(.ref 150),(.int 53 0),(.int 0 0),(.ref 155),(.int 62 0),(.int 0 0),(.ref 160),(.int 65 0),(.int 0 0),(.ref 165),(.int 71 0),(.int 0 0),(.ref 172),(.int 78 0),(.int 0 0),(.ref 179),(.int 83 0),(.int 0 0),(.ref 186),(.int 92 0),(.int 0 0),(.ref 193),(.int 133 0),(.int 0 0),(.ref 238),(.int 137 0),(.int 0 0),(.ref 245),(.int 139 0),(.int 0 0),(.ref 252),(.int 153 0),(.int 0 0),(.ref 259),(.int 156 0),(.int 0 0),(.ref 264),(.int 161 0),(.int 0 0),(.ref 271),(.int 169 0),(.int 0 0),(.ref 278),(.int 173 0),(.int 0 0),(.ref 285),(.int 182 0),(.int 0 0),(.ref 290),(.int 193 0),(.int 0 0),(.ref 295),(.int 203 0),(.int 0 0),(.ref 302),(.int 209 0),(.int 0 0),(.ref 309),(.int 213 0),(.int 0 0),(.ref 314),(.int 217 0),(.int 0 0),(.ref 321)]⟩) ⟨[]⟩
noncomputable def o257 (P:Params):=tu [(.str "_law_found" 513)]
noncomputable def o259 (P:Params):=f0 "_law_whole" "_law_whole" pa__law_whole bd__law_whole sc__law_whole
noncomputable def o260 (P:Params):=Obj.mk (.type "code") none (.fields ⟨[(.str "_law_whole" 510),(.str "_law_whole" 511),(.str "/claim/cut.py" 512),(.int 137 0),(.int 1 0),(.int 0 0),(.int 0 0),(.int 3 0),(.ref 240),(.bool true),(.int 181 0),(.ref 241),.none,(.ref 242),(.ref 243),(.ref 244),(.int 514 0),(.int 137 0),(.str "/claim/cut.py" 515)]⟩) ⟨[]⟩
noncomputable def o261 (P:Params):=fo "_law_whole" "_law_whole" pa__law_whole bd__law_whole sc__law_whole (.str "law_uf060015_05" 500) (.ref 245) 0
noncomputable def o264 (P:Params):=tu [(.str "_law_cell" 520),(.str "_law_letters" 521),(.str "_law_size" 522),(.str "_law_found" 523),(.str "_law_k" 524),(.str "_law_sign" 525),(.str "_law_place" 526),(.str "_law_ahead" 527),(.str "_law_behind" 528)]
noncomputable def o266 (P:Params):=f0 "_law_signs" "_law_signs" pa__law_signs bd__law_signs sc__law_signs
noncomputable def o267 (P:Params):=Obj.mk (.type "code") none (.fields ⟨[(.str "_law_signs" 517),(.str "_law_signs" 518),(.str "/claim/cut.py" 519),(.int 139 0),(.int 1 0),(.int 0 0),(.int 0 0),(.int 3 0),(.ref 247),(.bool true),(.int 181 0),(.ref 248),.none,(.ref 249),(.ref 250),(.ref 251),(.int 529 0),(.int 139 0),(.str "/claim/cut.py" 530)]⟩) ⟨[]⟩
noncomputable def o268 (P:Params):=fo "_law_signs" "_law_signs" pa__law_signs bd__law_signs sc__law_signs (.str "law_uf060015_05" 500) (.ref 252) 0
noncomputable def o271 (P:Params):=tu [(.str "_law_cell" 535),(.str "_law_most" 536)]
noncomputable def o273 (P:Params):=f0 "_law_table" "_law_table" pa__law_table bd__law_table sc__law_table
noncomputable def o274 (P:Params):=Obj.mk (.type "code") none (.fields ⟨[(.str "_law_table" 532),(.str "_law_table" 533),(.str "/claim/cut.py" 534),(.int 153 0),(.int 1 0),(.int 0 0),(.int 0 0),(.int 3 0),(.ref 254),(.bool true),(.int 181 0),(.ref 255),.none,(.ref 256),(.ref 257),(.ref 258),(.int 537 0),(.int 153 0),(.str "/claim/cut.py" 538)]⟩) ⟨[]⟩
noncomputable def o275 (P:Params):=fo "_law_table" "_law_table" pa__law_table bd__law_table sc__law_table (.str "law_uf060015_05" 500) (.ref 259) 0
noncomputable def o278 (P:Params):=f0 "_law_paths" "_law_paths" pa__law_paths bd__law_paths sc__law_paths
noncomputable def o279 (P:Params):=Obj.mk (.type "code") none (.fields ⟨[(.str "_law_paths" 540),(.str "_law_paths" 541),(.str "/claim/cut.py" 542),(.int 156 0),(.int 2 0),(.int 0 0),(.int 0 0),(.int 3 0),(.ref 261),(.bool true),(.int 181 0),(.ref 262),.none,.none,.none,(.ref 263),(.int 543 0),(.int 156 0),(.str "/claim/cut.py" 544)]⟩) ⟨[]⟩
noncomputable def o280 (P:Params):=fo "_law_paths" "_law_paths" pa__law_paths bd__law_paths sc__law_paths (.str "law_uf060015_05" 500) (.ref 264) 0
noncomputable def o283 (P:Params):=tu [(.str "_law_cell" 549),(.str "_law_hands_here" 550),(.str "_law_many" 551),(.str "_law_found" 552),(.str "_law_k" 553),(.str "_law_hand" 554)]
noncomputable def o285 (P:Params):=f0 "_law_liars" "_law_liars" pa__law_liars bd__law_liars sc__law_liars
noncomputable def o286 (P:Params):=Obj.mk (.type "code") none (.fields ⟨[(.str "_law_liars" 546),(.str "_law_liars" 547),(.str "/claim/cut.py" 548),(.int 161 0),(.int 3 0),(.int 0 0),(.int 0 0),(.int 3 0),(.ref 266),(.bool true),(.int 181 0),(.ref 267),.none,(.ref 268),(.ref 269),(.ref 270),(.int 555 0),(.int 161 0),(.str "/claim/cut.py" 556)]⟩) ⟨[]⟩
noncomputable def o287 (P:Params):=fo "_law_liars" "_law_liars" pa__law_liars bd__law_liars sc__law_liars (.str "law_uf060015_05" 500) (.ref 271) 0
noncomputable def o290 (P:Params):=tu [(.str "_law_script" 561),(.str "_law_k" 562),(.str "_law_cell" 563),(.str "_law_mixed_here" 564)]
noncomputable def o292 (P:Params):=f0 "_law_mixed" "_law_mixed" pa__law_mixed bd__law_mixed sc__law_mixed
noncomputable def o293 (P:Params):=Obj.mk (.type "code") none (.fields ⟨[(.str "_law_mixed" 558),(.str "_law_mixed" 559),(.str "/claim/cut.py" 560),(.int 169 0),(.int 2 0),(.int 0 0),(.int 0 0),(.int 3 0),(.ref 273),(.bool true),(.int 181 0),(.ref 274),.none,(.ref 275),(.ref 276),(.ref 277),(.int 565 0),(.int 169 0),(.str "/claim/cut.py" 566)]⟩) ⟨[]⟩
noncomputable def o294 (P:Params):=fo "_law_mixed" "_law_mixed" pa__law_mixed bd__law_mixed sc__law_mixed (.str "law_uf060015_05" 500) (.ref 278) 0
noncomputable def o297 (P:Params):=tu [(.str "_law_script" 571),(.str "_law_signs_here" 572),(.str "_law_path" 573),(.str "_law_hearer" 574),(.str "_law_k" 575),(.str "_law_way" 576)]
noncomputable def o299 (P:Params):=f0 "_law_lie" "_law_lie" pa__law_lie bd__law_lie sc__law_lie
noncomputable def o300 (P:Params):=Obj.mk (.type "code") none (.fields ⟨[(.str "_law_lie" 568),(.str "_law_lie" 569),(.str "/claim/cut.py" 570),(.int 173 0),(.int 5 0),(.int 0 0),(.int 0 0),(.int 3 0),(.ref 280),(.bool true),(.int 181 0),(.ref 281),.none,(.ref 282),(.ref 283),(.ref 284),(.int 577 0),(.int 173 0),(.str "/claim/cut.py" 578)]⟩) ⟨[]⟩
noncomputable def o301 (P:Params):=fo "_law_lie" "_law_lie" pa__law_lie bd__law_lie sc__law_lie (.str "law_uf060015_05" 500) (.ref 285) 0
noncomputable def o304 (P:Params):=f0 "_law_lies" "_law_lies" pa__law_lies bd__law_lies sc__law_lies
noncomputable def o305 (P:Params):=Obj.mk (.type "code") none (.fields ⟨[(.str "_law_lies" 580),(.str "_law_lies" 581),(.str "/claim/cut.py" 582),(.int 182 0),(.int 5 0),(.int 0 0),(.int 0 0),(.int 3 0),(.ref 287),(.bool true),(.int 181 0),(.ref 288),.none,.none,.none,(.ref 289),(.int 583 0),(.int 182 0),(.str "/claim/cut.py" 584)]⟩) ⟨[]⟩
noncomputable def o306 (P:Params):=fo "_law_lies" "_law_lies" pa__law_lies bd__law_lies sc__law_lies (.str "law_uf060015_05" 500) (.ref 290) 0
noncomputable def o309 (P:Params):=f0 "_law_play" "_law_play" pa__law_play bd__law_play sc__law_play
noncomputable def o310 (P:Params):=Obj.mk (.type "code") none (.fields ⟨[(.str "_law_play" 586),(.str "_law_play" 587),(.str "/claim/cut.py" 588),(.int 193 0),(.int 4 0),(.int 0 0),(.int 0 0),(.int 3 0),(.ref 292),(.bool true),(.int 181 0),(.ref 293),.none,.none,.none,(.ref 294),(.int 589 0),(.int 193 0),(.str "/claim/cut.py" 590)]⟩) ⟨[]⟩
noncomputable def o311 (P:Params):=fo "_law_play" "_law_play" pa__law_play bd__law_play sc__law_play (.str "law_uf060015_05" 500) (.ref 295) 0
noncomputable def o314 (P:Params):=tu [(.str "_law_lies_here" 595),(.str "_law_size" 596),(.str "_law_found" 597),(.str "_law_path" 598),(.str "_law_hearer" 599)]
noncomputable def o316 (P:Params):=f0 "_law_of" "_law_of" pa__law_of bd__law_of sc__law_of
noncomputable def o317 (P:Params):=Obj.mk (.type "code") none (.fields ⟨[(.str "_law_of" 592),(.str "_law_of" 593),(.str "/claim/cut.py" 594),(.int 203 0),(.int 2 0),(.int 0 0),(.int 0 0),(.int 3 0),(.ref 297),(.bool true),(.int 181 0),(.ref 298),.none,(.ref 299),(.ref 300),(.ref 301),(.int 600 0),(.int 203 0),(.str "/claim/cut.py" 601)]⟩) ⟨[]⟩
noncomputable def o318 (P:Params):=fo "_law_of" "_law_of" pa__law_of bd__law_of sc__law_of (.str "law_uf060015_05" 500) (.ref 302) 0
noncomputable def o321 (P:Params):=tu [(.str "_law_found" 606),(.str "_law_due" 607)]
noncomputable def o323 (P:Params):=f0 "_law_same" "_law_same" pa__law_same bd__law_same sc__law_same
noncomputable def o324 (P:Params):=Obj.mk (.type "code") none (.fields ⟨[(.str "_law_same" 603),(.str "_law_same" 604),(.str "/claim/cut.py" 605),(.int 209 0),(.int 2 0),(.int 0 0),(.int 0 0),(.int 3 0),(.ref 304),(.bool true),(.int 181 0),(.ref 305),.none,(.ref 306),(.ref 307),(.ref 308),(.int 608 0),(.int 209 0),(.str "/claim/cut.py" 609)]⟩) ⟨[]⟩
noncomputable def o325 (P:Params):=fo "_law_same" "_law_same" pa__law_same bd__law_same sc__law_same (.str "law_uf060015_05" 500) (.ref 309) 0
noncomputable def o328 (P:Params):=f0 "_law_told" "_law_told" pa__law_told bd__law_told sc__law_told
noncomputable def o329 (P:Params):=Obj.mk (.type "code") none (.fields ⟨[(.str "_law_told" 611),(.str "_law_told" 612),(.str "/claim/cut.py" 613),(.int 213 0),(.int 2 0),(.int 0 0),(.int 0 0),(.int 3 0),(.ref 311),(.bool true),(.int 181 0),(.ref 312),.none,.none,.none,(.ref 313),(.int 614 0),(.int 213 0),(.str "/claim/cut.py" 615)]⟩) ⟨[]⟩
noncomputable def o330 (P:Params):=fo "_law_told" "_law_told" pa__law_told bd__law_told sc__law_told (.str "law_uf060015_05" 500) (.ref 314) 0
noncomputable def o333 (P:Params):=tu [(.str "_law_e" 620),(.str "_law_words" 621),(.str "_law_marks" 622)]
noncomputable def o335 (P:Params):=f0 "_law_word" "_law_word" pa__law_word bd__law_word sc__law_word
noncomputable def o336 (P:Params):=Obj.mk (.type "code") none (.fields ⟨[(.str "_law_word" 617),(.str "_law_word" 618),(.str "/claim/cut.py" 619),(.int 217 0),(.int 1 0),(.int 0 0),(.int 0 0),(.int 3 0),(.ref 316),(.bool true),(.int 181 0),(.ref 317),.none,(.ref 318),(.ref 319),(.ref 320),(.int 623 0),(.int 217 0),(.str "/claim/cut.py" 624)]⟩) ⟨[]⟩
noncomputable def o337 (P:Params):=fo "_law_word" "_law_word" pa__law_word bd__law_word sc__law_word (.str "law_uf060015_05" 500) (.ref 321) 0
noncomputable def t9 (P:Params):BT:=(.node (boot_o_0 P) (.node (boot_o_1 P) (.node (o253 P) (.node (boot_o_7 P) (.node (o6 P) (.node (o0 P) (.node (o63 P) (.node (o1 P) (lf (o1 P)) .nil) (.node (o0 P) (lf (o0 P)) .nil)) (.node (o0 P) (.node (o170 P) (lf (o0 P)) .nil) (lf (o236 P)))) (.node (o0 P) (.node (o0 P) (.node (o154 P) (lf (o286 P)) .nil) (lf (o0 P))) (.node (o120 P) (.node (o1 P) (lf (o318 P)) .nil) (lf (o252 P))))) (.node (o14 P) (.node (o33 P) (.node (o0 P) (.node (o146 P) (lf (o278 P)) .nil) (lf (o212 P))) (.node (o0 P) (.node (o0 P) (lf (o310 P)) .nil) (lf (o244 P)))) (.node (o0 P) (.node (o93 P) (.node (o162 P) (lf (o294 P)) .nil) (lf (o0 P))) (.node (o0 P) (.node (o194 P) (lf (o0 P)) .nil) (lf (o0 P)))))) (.node (o0 P) (.node (o1 P) (.node (o0 P) (.node (o0 P) (.node (o142 P) (lf (o274 P)) .nil) (lf (o0 P))) (.node (o108 P) (.node (o1 P) (lf (o306 P)) .nil) (lf (o240 P)))) (.node (o48 P) (.node (o0 P) (.node (o158 P) (lf (o290 P)) .nil) (lf (o224 P))) (.node (o0 P) (.node (o190 P) (lf (o0 P)) .nil) (lf (o0 P))))) (.node (o18 P) (.node (o0 P) (.node (o78 P) (.node (o150 P) (lf (o1 P)) .nil) (lf (o0 P))) (.node (o0 P) (.node (o182 P) (lf (o314 P)) .nil) (lf (o248 P)))) (.node (o0 P) (.node (o0 P) (.node (o166 P) (lf (o0 P)) .nil) (lf (o0 P))) (.node (o132 P) (.node (o198 P) (lf (o330 P)) .nil) (lf (o266 P))))))) (.node (boot_o_5 P) (.node (boot_o_9 P) (.node (o8 P) (.node (o27 P) (.node (o7 P) (.node (o0 P) (lf (o0 P)) .nil) (.node (o206 P) (lf (o336 P)) .nil)) (.node (o106 P) (.node (o172 P) (lf (o304 P)) .nil) (lf (o238 P)))) (.node (o46 P) (.node (o87 P) (.node (o0 P) (lf (o0 P)) .nil) (lf (o222 P))) (.node (o1 P) (.node (o0 P) (lf (o1 P)) .nil) (lf (o1 P))))) (.node (o16 P) (.node (o7 P) (.node (o76 P) (.node (o148 P) (lf (o280 P)) .nil) (lf (o1 P))) (.node (o114 P) (.node (o180 P) (lf (o0 P)) .nil) (lf (o0 P)))) (.node (o57 P) (.node (o7 P) (.node (o1 P) (lf (o1 P)) .nil) (lf (o230 P))) (.node (o130 P) (.node (o196 P) (lf (o328 P)) .nil) (lf (o264 P)))))) (.node (o2 P) (.node (o12 P) (.node (o31 P) (.node (o72 P) (.node (o0 P) (lf (o0 P)) .nil) (lf (o210 P))) (.node (o1 P) (.node (o176 P) (lf (o1 P)) .nil) (lf (o242 P)))) (.node (o7 P) (.node (o91 P) (.node (o160 P) (lf (o292 P)) .nil) (lf (o1 P))) (.node (o126 P) (.node (o0 P) (lf (o324 P)) .nil) (lf (o260 P))))) (.node (o7 P) (.node (o42 P) (.node (o7 P) (.node (o1 P) (lf (o0 P)) .nil) (lf (o218 P))) (.node (o118 P) (.node (o184 P) (lf (o316 P)) .nil) (lf (o250 P)))) (.node (o61 P) (.node (o102 P) (.node (o0 P) (lf (o300 P)) .nil) (lf (o234 P))) (.node (o134 P) (.node (o7 P) (lf (o1 P)) .nil) (lf (o268 P)))))))) (.node (boot_o_2 P) (.node (boot_o_4 P) (.node (boot_o_8 P) (.node (o7 P) (.node (o1 P) (.node (o22 P) (.node (o139 P) (lf (o271 P)) .nil) (.node (o205 P) (lf (o335 P)) .nil)) (.node (o105 P) (.node (o171 P) (lf (o1 P)) .nil) (lf (o237 P)))) (.node (o45 P) (.node (o1 P) (.node (o155 P) (lf (o287 P)) .nil) (lf (o1 P))) (.node (o0 P) (.node (o187 P) (lf (o0 P)) .nil) (lf (o0 P))))) (.node (o96 P) (.node (o22 P) (.node (o75 P) (.node (o0 P) (lf (o279 P)) .nil) (lf (o0 P))) (.node (o113 P) (.node (o1 P) (lf (o311 P)) .nil) (lf (o245 P)))) (.node (o1 P) (.node (o22 P) (.node (o0 P) (lf (o0 P)) .nil) (lf (o229 P))) (.node (o1 P) (.node (o0 P) (lf (o1 P)) .nil) (lf (o1 P)))))) (.node (o254 P) (.node (o11 P) (.node (o30 P) (.node (o1 P) (.node (o143 P) (lf (o275 P)) .nil) (lf (o1 P))) (.node (o0 P) (.node (o175 P) (lf (o0 P)) .nil) (lf (o241 P)))) (.node (o22 P) (.node (o90 P) (.node (o0 P) (lf (o0 P)) .nil) (lf (o0 P))) (.node (o125 P) (.node (o191 P) (lf (o323 P)) .nil) (lf (o259 P))))) (.node (o22 P) (.node (o1 P) (.node (o22 P) (.node (o0 P) (lf (o283 P)) .nil) (lf (o217 P))) (.node (o1 P) (.node (o183 P) (lf (o0 P)) .nil) (lf (o0 P)))) (.node (o60 P) (.node (o1 P) (.node (o167 P) (lf (o299 P)) .nil) (lf (o1 P))) (.node (o133 P) (.node (o0 P) (lf (o0 P)) .nil) (lf (o267 P))))))) (.node (boot_o_6 P) (.node (boot_o_10 P) (.node (o0 P) (.node (o28 P) (.node (o69 P) (.node (o141 P) (lf (o273 P)) .nil) (.node (o207 P) (lf (o337 P)) .nil)) (.node (o107 P) (.node (o0 P) (lf (o305 P)) .nil) (lf (o239 P)))) (.node (o47 P) (.node (o88 P) (.node (o1 P) (lf (o1 P)) .nil) (lf (o223 P))) (.node (o123 P) (.node (o189 P) (lf (o321 P)) .nil) (lf (o257 P))))) (.node (o17 P) (.node (o39 P) (.node (o77 P) (.node (o149 P) (lf (o0 P)) .nil) (lf (o215 P))) (.node (o115 P) (.node (o0 P) (lf (o1 P)) .nil) (lf (o1 P)))) (.node (o58 P) (.node (o99 P) (.node (o165 P) (lf (o297 P)) .nil) (lf (o231 P))) (.node (o0 P) (.node (o197 P) (lf (o329 P)) .nil) (lf (o0 P)))))) (.node (o3 P) (.node (o0 P) (.node (o32 P) (.node (o73 P) (.node (o1 P) (lf (o1 P)) .nil) (lf (o211 P))) (.node (o111 P) (.node (o177 P) (lf (o309 P)) .nil) (lf (o243 P)))) (.node (o54 P) (.node (o92 P) (.node (o161 P) (lf (o293 P)) .nil) (lf (o227 P))) (.node (o127 P) (.node (o1 P) (lf (o325 P)) .nil) (lf (o261 P))))) (.node (o24 P) (.node (o43 P) (.node (o84 P) (.node (o153 P) (lf (o285 P)) .nil) (lf (o219 P))) (.node (o119 P) (.node (o0 P) (lf (o317 P)) .nil) (lf (o251 P)))) (.node (o62 P) (.node (o103 P) (.node (o1 P) (lf (o301 P)) .nil) (lf (o0 P))) (.node (o0 P) (.node (o203 P) (lf (o333 P)) .nil) (lf (o0 P)))))))))
noncomputable def T9 (w:World) (os:OsState):SharedT:=SharedT.mk (t9 w.params) 323 (Life.mk [] [] [] 0 [] [] false ⟨[]⟩ [] 0 false false false 0 [2000,10,10] false 0 true [] [] 0 false) ⟨[]⟩ (Drawn.mk 0 0 0 0) 626 os
noncomputable def sts9:List Stmt:=[s35,s36,s37,s38,s39,s40,s41,s42,s43,s44,s45,s46,s47]
theorem pc9:∀ w:World,(fun os=>segRunT treeTable pg w m0 ann 1 395 (T8 w os) (piecesOf sts9 en cE (Pos.mk 133 0 136 12) [topFrame qE]))=fun os=>some (Flow.next,T9 w os,cE,(Pos.mk 217 0 223 45)):=fun w=>by rewrite [PySem.W.Fast.te10110043849684766642,PySem.W.Fast.te14364793385576792824];kernel_rfl
noncomputable def o338 (P:Params):=Obj.mk (.type "dict") none (.dict ⟨[(ke P "__name__" 165 (.str "law_uf060015_05" 500)),(ke P "__doc__" 166 .none),(ke P "__package__" 167 .none),(ke P "__loader__" 168 (.builtin "__main__.__loader__#opaque")),(ke P "__spec__" 169 .none),(ke P "__annotations__" 170 (.ref 6)),(ke P "__builtins__" 171 (.ref 4)),(ke P "__file__" 173 (.str "/claim/cut.py" 172)),(ke P "__cached__" 174 .none),(ke P "TableError" 206 (.ref 24)),(ke P "NoTable" 222 (.ref 37)),(ke P "NoSign" 238 (.ref 49)),(ke P "NoHand" 254 (.ref 61)),(ke P "NoSaying" 270 (.ref 73)),(ke P "Over" 286 (.ref 85)),(ke P "NotOver" 302 (.ref 97)),(ke P "LEAST_HANDS" 306 (.int 2 305)),(ke P "MOST_HANDS" 308 (.int 10 307)),(ke P "MOST_LIARS" 310 (.int 2 309)),(ke P "MOST_LETTERS" 312 (.int 8 311)),(ke P "LETTERS" 314 (.str "abcdefghijklmnopqrstuvwxyz" 313)),(ke P "is_within" 323 (.ref 106)),(ke P "is_sign" 329 (.ref 111)),(ke P "need_table" 337 (.ref 118)),(ke P "need_sign" 344 (.ref 125)),(ke P "need_hand" 352 (.ref 132)),(ke P "need_liars" 362 (.ref 139)),(ke P "hearers" 370 (.ref 144)),(ke P "longer_paths" 381 (.ref 151)),(ke P "paths" 387 (.ref 156)),(ke P "paths_of" 393 (.ref 161)),(ke P "is_saying" 401 (.ref 166)),(ke P "need_lies" 412 (.ref 173)),(ke P "vote" 422 (.ref 180)),(ke P "settled" 435 (.ref 187)),(ke P "Table" 499 (.ref 228)),(ke P "_law_cell_at" 509 (.ref 239)),(ke P "_law_whole" 516 (.ref 246)),(ke P "_law_signs" 531 (.ref 253)),(ke P "_law_table" 539 (.ref 260)),(ke P "_law_paths" 545 (.ref 265)),(ke P "_law_liars" 557 (.ref 272)),(ke P "_law_mixed" 567 (.ref 279)),(ke P "_law_lie" 579 (.ref 286)),(ke P "_law_lies" 585 (.ref 291)),(ke P "_law_play" 591 (.ref 296)),(ke P "_law_of" 602 (.ref 303)),(ke P "_law_same" 610 (.ref 310)),(ke P "_law_told" 616 (.ref 315)),(ke P "_law_word" 625 (.ref 322)),(ke P "_law_asked" 635 (.ref 329)),(ke P "_law_heard" 641 (.ref 334)),(ke P "_law_wrong_pair" 647 (.ref 339)),(ke P "_law_spoilt" 653 (.ref 344)),(ke P "_law_made" 665 (.ref 351)),(ke P "_law_hands" 678 (.ref 358)),(ke P "law" 684 (.ref 363))]⟩ 57) ⟨[]⟩
noncomputable def o339 (P:Params):=Obj.mk .none none (.fields ⟨[(.int 2 0),(.int 0 0),(.ref 20),(.int 4 0),(.int 0 0),(.ref 33),(.int 6 0),(.int 0 0),(.ref 45),(.int 8 0),(.int 0 0),(.ref 57),(.int 10 0),(.int 0 0),(.ref 69),(.int 12 0),(.int 0 0),(.ref 81),(.int 14 0),(.int 0 0),(.ref 93),(.int 22 0),(.int 0 0),(.ref 105),(.int 24 0),(.int 0 0),(.ref 110),(.int 28 0),(.int 0 0),(.ref 117),(.int 31 0),(.int 0 0),(.ref 124),(.int 34 0),(.int 0 0),(.ref 131),(.int 37 0),(.int 0 0),(.ref 138),(.int 45 0),(.int 0 0),(.ref 143),(.int 47 0),(.int 0 0),(.ref 150),(.int 53 0),(.int 0 0),(.ref 155),(.int 62 0),(.int 0 0),(.ref 160),(.int 65 0),(.int 0 0),(.ref 165),(.int 71 0),(.int 0 0),(.ref 172),(.int 78 0),(.int 0 0),(.ref 179),(.int 83 0),(.int 0 0),(.ref 186),(.int 92 0),(.int 0 0),(.ref 193),(.int 133 0),(.int 0 0),(.ref 238),(.int 137 0),(.int 0 0),(.ref 245),(.int 139 0),(.int 0 0),(.ref 252),(.int 153 0),(.int 0 0),(.ref 259),(.int 156 0),(.int 0 0),(.ref 264),(.int 161 0),(.int 0 0),(.ref 271),(.int 169 0),(.int 0 0),(.ref 278),(.int 173 0),(.int 0 0),(.ref 285),(.int 182 0),(.int 0 0),(.ref 290),(.int 193 0),(.int 0 0),(.ref 295),(.int 203 0),(.int 0 0),(.ref 302),(.int 209 0),(.int 0 0),(.ref 309),(.int 213 0),(.int 0 0),(.ref 314),(.int 217 0),(.int 0 0),(.ref 321),(.int 224 0),(.int 0 0),(.ref 328),(.int 237 0),(.int 0 0),(.ref 333),(.int 240 0),(.int 0 0),(.ref 338),(.int 255 0),(.int 0 0),(.ref 343),(.int 269 0),(.int 0 0),(.ref 350),(.int 279 0),(.int 0 0),(.ref 357),(.int 288 0),(.int 0 0),(.ref 362)]⟩) ⟨[]⟩
noncomputable def o342 (P:Params):=tu [(.str "_law_way" 629),(.str "_law_table_here" 630),(.str "_law_thing" 631),(.str "_law_e" 632)]
noncomputable def o344 (P:Params):=f0 "_law_asked" "_law_asked" pa__law_asked bd__law_asked sc__law_asked
noncomputable def o345 (P:Params):=Obj.mk (.type "code") none (.fields ⟨[(.str "_law_asked" 626),(.str "_law_asked" 627),(.str "/claim/cut.py" 628),(.int 224 0),(.int 3 0),(.int 0 0),(.int 0 0),(.int 3 0),(.ref 323),(.bool true),(.int 181 0),(.ref 324),.none,(.ref 325),(.ref 326),(.ref 327),(.int 633 0),(.int 224 0),(.str "/claim/cut.py" 634)]⟩) ⟨[]⟩
noncomputable def o346 (P:Params):=fo "_law_asked" "_law_asked" pa__law_asked bd__law_asked sc__law_asked (.str "law_uf060015_05" 500) (.ref 328) 0
noncomputable def o349 (P:Params):=f0 "_law_heard" "_law_heard" pa__law_heard bd__law_heard sc__law_heard
noncomputable def o350 (P:Params):=Obj.mk (.type "code") none (.fields ⟨[(.str "_law_heard" 636),(.str "_law_heard" 637),(.str "/claim/cut.py" 638),(.int 237 0),(.int 3 0),(.int 0 0),(.int 0 0),(.int 3 0),(.ref 330),(.bool true),(.int 181 0),(.ref 331),.none,.none,.none,(.ref 332),(.int 639 0),(.int 237 0),(.str "/claim/cut.py" 640)]⟩) ⟨[]⟩
noncomputable def o351 (P:Params):=fo "_law_heard" "_law_heard" pa__law_heard bd__law_heard sc__law_heard (.str "law_uf060015_05" 500) (.ref 333) 0
noncomputable def o354 (P:Params):=f0 "_law_wrong_pair" "_law_wrong_pair" pa__law_wrong_pair bd__law_wrong_pair sc__law_wrong_pair
noncomputable def o355 (P:Params):=Obj.mk (.type "code") none (.fields ⟨[(.str "_law_wrong_pair" 642),(.str "_law_wrong_pair" 643),(.str "/claim/cut.py" 644),(.int 240 0),(.int 4 0),(.int 0 0),(.int 0 0),(.int 3 0),(.ref 335),(.bool true),(.int 181 0),(.ref 336),.none,.none,.none,(.ref 337),(.int 645 0),(.int 240 0),(.str "/claim/cut.py" 646)]⟩) ⟨[]⟩
noncomputable def o356 (P:Params):=fo "_law_wrong_pair" "_law_wrong_pair" pa__law_wrong_pair bd__law_wrong_pair sc__law_wrong_pair (.str "law_uf060015_05" 500) (.ref 338) 0
noncomputable def o359 (P:Params):=f0 "_law_spoilt" "_law_spoilt" pa__law_spoilt bd__law_spoilt sc__law_spoilt
noncomputable def o360 (P:Params):=Obj.mk (.type "code") none (.fields ⟨[(.str "_law_spoilt" 648),(.str "_law_spoilt" 649),(.str "/claim/cut.py" 650),(.int 255 0),(.int 3 0),(.int 0 0),(.int 0 0),(.int 3 0),(.ref 340),(.bool true),(.int 181 0),(.ref 341),.none,.none,.none,(.ref 342),(.int 651 0),(.int 255 0),(.str "/claim/cut.py" 652)]⟩) ⟨[]⟩
noncomputable def o361 (P:Params):=fo "_law_spoilt" "_law_spoilt" pa__law_spoilt bd__law_spoilt sc__law_spoilt (.str "law_uf060015_05" 500) (.ref 343) 0
noncomputable def o364 (P:Params):=tu [(.str "_law_cell" 657),(.str "_law_hands_here" 658),(.str "_law_most" 659),(.str "_law_sign" 660),(.str "_law_strange" 661),(.str "_law_hand" 662)]
noncomputable def o366 (P:Params):=f0 "_law_made" "_law_made" pa__law_made bd__law_made sc__law_made
noncomputable def o367 (P:Params):=Obj.mk (.type "code") none (.fields ⟨[(.str "_law_made" 654),(.str "_law_made" 655),(.str "/claim/cut.py" 656),(.int 269 0),(.int 4 0),(.int 0 0),(.int 0 0),(.int 3 0),(.ref 345),(.bool true),(.int 181 0),(.ref 346),.none,(.ref 347),(.ref 348),(.ref 349),(.int 663 0),(.int 269 0),(.str "/claim/cut.py" 664)]⟩) ⟨[]⟩
noncomputable def o368 (P:Params):=fo "_law_made" "_law_made" pa__law_made bd__law_made sc__law_made (.str "law_uf060015_05" 500) (.ref 350) 0
noncomputable def o371 (P:Params):=tu [(.str "_law_table_here" 669),(.str "_law_hands_here" 670),(.str "_law_cell" 671),(.str "_law_is_over" 672),(.str "_law_wrong" 673),(.str "_law_due" 674),(.str "_law_way" 675)]
noncomputable def o373 (P:Params):=f0 "_law_hands" "_law_hands" pa__law_hands bd__law_hands sc__law_hands
noncomputable def o374 (P:Params):=Obj.mk (.type "code") none (.fields ⟨[(.str "_law_hands" 666),(.str "_law_hands" 667),(.str "/claim/cut.py" 668),(.int 279 0),(.int 4 0),(.int 0 0),(.int 0 0),(.int 3 0),(.ref 352),(.bool true),(.int 181 0),(.ref 353),.none,(.ref 354),(.ref 355),(.ref 356),(.int 676 0),(.int 279 0),(.str "/claim/cut.py" 677)]⟩) ⟨[]⟩
noncomputable def o375 (P:Params):=fo "_law_hands" "_law_hands" pa__law_hands bd__law_hands sc__law_hands (.str "law_uf060015_05" 500) (.ref 357) 0
noncomputable def o378 (P:Params):=f0 "law" "law" pa_law bd_law sc_law
noncomputable def o379 (P:Params):=Obj.mk (.type "code") none (.fields ⟨[(.str "law" 679),(.str "law" 680),(.str "/claim/cut.py" 681),(.int 288 0),(.int 1 0),(.int 0 0),(.int 0 0),(.int 3 0),(.ref 359),(.bool true),(.int 181 0),(.ref 360),.none,.none,.none,(.ref 361),(.int 682 0),(.int 288 0),(.str "/claim/cut.py" 683)]⟩) ⟨[]⟩
noncomputable def o380 (P:Params):=fo "law" "law" pa_law bd_law sc_law (.str "law_uf060015_05" 500) (.ref 362) 0
noncomputable def t10 (P:Params):BT:=(.node (boot_o_0 P) (.node (boot_o_1 P) (.node (o338 P) (.node (boot_o_7 P) (.node (o6 P) (.node (o0 P) (.node (o63 P) (.node (o1 P) (lf (o1 P)) .nil) (.node (o0 P) (lf (o0 P)) .nil)) (.node (o0 P) (.node (o170 P) (lf (o0 P)) .nil) (.node (o236 P) (lf (o368 P)) .nil))) (.node (o0 P) (.node (o0 P) (.node (o154 P) (lf (o286 P)) .nil) (.node (o0 P) (lf (o0 P)) .nil)) (.node (o120 P) (.node (o1 P) (lf (o318 P)) .nil) (lf (o252 P))))) (.node (o14 P) (.node (o33 P) (.node (o0 P) (.node (o146 P) (lf (o278 P)) .nil) (.node (o212 P) (lf (o344 P)) .nil)) (.node (o0 P) (.node (o0 P) (lf (o310 P)) .nil) (.node (o244 P) (lf (o0 P)) .nil))) (.node (o0 P) (.node (o93 P) (.node (o162 P) (lf (o294 P)) .nil) (.node (o0 P) (lf (o360 P)) .nil)) (.node (o0 P) (.node (o194 P) (lf (o0 P)) .nil) (lf (o0 P)))))) (.node (o0 P) (.node (o1 P) (.node (o0 P) (.node (o0 P) (.node (o142 P) (lf (o274 P)) .nil) (.node (o0 P) (lf (o0 P)) .nil)) (.node (o108 P) (.node (o1 P) (lf (o306 P)) .nil) (.node (o240 P) (lf (o0 P)) .nil))) (.node (o48 P) (.node (o0 P) (.node (o158 P) (lf (o290 P)) .nil) (.node (o224 P) (lf (o356 P)) .nil)) (.node (o0 P) (.node (o190 P) (lf (o0 P)) .nil) (lf (o0 P))))) (.node (o18 P) (.node (o0 P) (.node (o78 P) (.node (o150 P) (lf (o1 P)) .nil) (.node (o0 P) (lf (o1 P)) .nil)) (.node (o0 P) (.node (o182 P) (lf (o314 P)) .nil) (.node (o248 P) (lf (o380 P)) .nil))) (.node (o0 P) (.node (o0 P) (.node (o166 P) (lf (o0 P)) .nil) (.node (o0 P) (lf (o364 P)) .nil)) (.node (o132 P) (.node (o198 P) (lf (o330 P)) .nil) (lf (o266 P))))))) (.node (boot_o_5 P) (.node (boot_o_9 P) (.node (o8 P) (.node (o27 P) (.node (o7 P) (.node (o0 P) (lf (o0 P)) .nil) (.node (o206 P) (lf (o336 P)) .nil)) (.node (o106 P) (.node (o172 P) (lf (o304 P)) .nil) (.node (o238 P) (lf (o1 P)) .nil))) (.node (o46 P) (.node (o87 P) (.node (o0 P) (lf (o0 P)) .nil) (.node (o222 P) (lf (o354 P)) .nil)) (.node (o1 P) (.node (o0 P) (lf (o1 P)) .nil) (lf (o1 P))))) (.node (o16 P) (.node (o7 P) (.node (o76 P) (.node (o148 P) (lf (o280 P)) .nil) (.node (o1 P) (lf (o346 P)) .nil)) (.node (o114 P) (.node (o180 P) (lf (o0 P)) .nil) (.node (o0 P) (lf (o378 P)) .nil))) (.node (o57 P) (.node (o7 P) (.node (o1 P) (lf (o1 P)) .nil) (.node (o230 P) (lf (o0 P)) .nil)) (.node (o130 P) (.node (o196 P) (lf (o328 P)) .nil) (lf (o264 P)))))) (.node (o2 P) (.node (o12 P) (.node (o31 P) (.node (o72 P) (.node (o0 P) (lf (o0 P)) .nil) (.node (o210 P) (lf (o342 P)) .nil)) (.node (o1 P) (.node (o176 P) (lf (o1 P)) .nil) (.node (o242 P) (lf (o374 P)) .nil))) (.node (o7 P) (.node (o91 P) (.node (o160 P) (lf (o292 P)) .nil) (.node (o1 P) (lf (o1 P)) .nil)) (.node (o126 P) (.node (o0 P) (lf (o324 P)) .nil) (lf (o260 P))))) (.node (o7 P) (.node (o42 P) (.node (o7 P) (.node (o1 P) (lf (o0 P)) .nil) (.node (o218 P) (lf (o350 P)) .nil)) (.node (o118 P) (.node (o184 P) (lf (o316 P)) .nil) (lf (o250 P)))) (.node (o61 P) (.node (o102 P) (.node (o0 P) (lf (o300 P)) .nil) (.node (o234 P) (lf (o366 P)) .nil)) (.node (o134 P) (.node (o7 P) (lf (o1 P)) .nil) (lf (o268 P)))))))) (.node (boot_o_2 P) (.node (boot_o_4 P) (.node (boot_o_8 P) (.node (o7 P) (.node (o1 P) (.node (o22 P) (.node (o139 P) (lf (o271 P)) .nil) (.node (o205 P) (lf (o335 P)) .nil)) (.node (o105 P) (.node (o171 P) (lf (o1 P)) .nil) (.node (o237 P) (lf (o0 P)) .nil))) (.node (o45 P) (.node (o1 P) (.node (o155 P) (lf (o287 P)) .nil) (.node (o1 P) (lf (o1 P)) .nil)) (.node (o0 P) (.node (o187 P) (lf (o0 P)) .nil) (lf (o0 P))))) (.node (o96 P) (.node (o22 P) (.node (o75 P) (.node (o0 P) (lf (o279 P)) .nil) (.node (o0 P) (lf (o345 P)) .nil)) (.node (o113 P) (.node (o1 P) (lf (o311 P)) .nil) (.node (o245 P) (lf (o1 P)) .nil))) (.node (o1 P) (.node (o22 P) (.node (o0 P) (lf (o0 P)) .nil) (.node (o229 P) (lf (o361 P)) .nil)) (.node (o1 P) (.node (o0 P) (lf (o1 P)) .nil) (lf (o1 P)))))) (.node (o339 P) (.node (o11 P) (.node (o30 P) (.node (o1 P) (.node (o143 P) (lf (o275 P)) .nil) (.node (o1 P) (lf (o1 P)) .nil)) (.node (o0 P) (.node (o175 P) (lf (o0 P)) .nil) (.node (o241 P) (lf (o373 P)) .nil))) (.node (o22 P) (.node (o90 P) (.node (o0 P) (lf (o0 P)) .nil) (.node (o0 P) (lf (o0 P)) .nil)) (.node (o125 P) (.node (o191 P) (lf (o323 P)) .nil) (lf (o259 P))))) (.node (o22 P) (.node (o1 P) (.node (o22 P) (.node (o0 P) (lf (o283 P)) .nil) (.node (o217 P) (lf (o349 P)) .nil)) (.node (o1 P) (.node (o183 P) (lf (o0 P)) .nil) (lf (o0 P)))) (.node (o60 P) (.node (o1 P) (.node (o167 P) (lf (o299 P)) .nil) (.node (o1 P) (lf (o0 P)) .nil)) (.node (o133 P) (.node (o0 P) (lf (o0 P)) .nil) (lf (o267 P))))))) (.node (boot_o_6 P) (.node (boot_o_10 P) (.node (o0 P) (.node (o28 P) (.node (o69 P) (.node (o141 P) (lf (o273 P)) .nil) (.node (o207 P) (lf (o337 P)) .nil)) (.node (o107 P) (.node (o0 P) (lf (o305 P)) .nil) (.node (o239 P) (lf (o371 P)) .nil))) (.node (o47 P) (.node (o88 P) (.node (o1 P) (lf (o1 P)) .nil) (.node (o223 P) (lf (o355 P)) .nil)) (.node (o123 P) (.node (o189 P) (lf (o321 P)) .nil) (lf (o257 P))))) (.node (o17 P) (.node (o39 P) (.node (o77 P) (.node (o149 P) (lf (o0 P)) .nil) (.node (o215 P) (lf (o0 P)) .nil)) (.node (o115 P) (.node (o0 P) (lf (o1 P)) .nil) (.node (o1 P) (lf (o379 P)) .nil))) (.node (o58 P) (.node (o99 P) (.node (o165 P) (lf (o297 P)) .nil) (.node (o231 P) (lf (o1 P)) .nil)) (.node (o0 P) (.node (o197 P) (lf (o329 P)) .nil) (lf (o0 P)))))) (.node (o3 P) (.node (o0 P) (.node (o32 P) (.node (o73 P) (.node (o1 P) (lf (o1 P)) .nil) (.node (o211 P) (lf (o0 P)) .nil)) (.node (o111 P) (.node (o177 P) (lf (o309 P)) .nil) (.node (o243 P) (lf (o375 P)) .nil))) (.node (o54 P) (.node (o92 P) (.node (o161 P) (lf (o293 P)) .nil) (.node (o227 P) (lf (o359 P)) .nil)) (.node (o127 P) (.node (o1 P) (lf (o325 P)) .nil) (lf (o261 P))))) (.node (o24 P) (.node (o43 P) (.node (o84 P) (.node (o153 P) (lf (o285 P)) .nil) (.node (o219 P) (lf (o351 P)) .nil)) (.node (o119 P) (.node (o0 P) (lf (o317 P)) .nil) (lf (o251 P)))) (.node (o62 P) (.node (o103 P) (.node (o1 P) (lf (o301 P)) .nil) (.node (o0 P) (lf (o367 P)) .nil)) (.node (o0 P) (.node (o203 P) (lf (o333 P)) .nil) (lf (o0 P)))))))))
noncomputable def T10 (w:World) (os:OsState):SharedT:=SharedT.mk (t10 w.params) 364 (Life.mk [] [] [] 0 [] [] false ⟨[]⟩ [] 0 false false false 0 [2000,10,10] false 0 true [] [] 0 false) ⟨[]⟩ (Drawn.mk 0 0 0 0) 685 os
noncomputable def sts10:List Stmt:=[s48,s49,s50,s51,s52,s53,s54]
theorem pc10:∀ w:World,(fun os=>segRunT treeTable pg w m0 ann 1 206 (T9 w os) (piecesOf sts10 en cE (Pos.mk 217 0 223 45) [topFrame qE]))=fun os=>some (Flow.next,T10 w os,cE,(Pos.mk 288 0 315 134)):=fun w=>by rewrite [PySem.W.Fast.te10110043849684766642,PySem.W.Fast.te14364793385576792824];kernel_rfl
noncomputable def hF (P:Params):Heap:=Heap.mk ⟨[boot_o_0 P,boot_o_1 P,boot_o_2 P,o338 P,boot_o_4 P,boot_o_5 P,boot_o_6 P,boot_o_7 P,boot_o_8 P,boot_o_9 P,boot_o_10 P,o0 P,o339 P,o2 P,o3 P,o6 P,o7 P,o8 P,o0 P,o1 P,o11 P,o12 P,o0 P,o14 P,o96 P,o16 P,o17 P,o18 P,o22 P,o7 P,o24 P,o0 P,o1 P,o27 P,o28 P,o0 P,o30 P,o31 P,o32 P,o33 P,o22 P,o7 P,o39 P,o0 P,o1 P,o42 P,o43 P,o0 P,o45 P,o46 P,o47 P,o48 P,o22 P,o7 P,o54 P,o0 P,o1 P,o57 P,o58 P,o0 P,o60 P,o61 P,o62 P,o63 P,o22 P,o7 P,o69 P,o0 P,o1 P,o72 P,o73 P,o0 P,o75 P,o76 P,o77 P,o78 P,o22 P,o7 P,o84 P,o0 P,o1 P,o87 P,o88 P,o0 P,o90 P,o91 P,o92 P,o93 P,o22 P,o7 P,o99 P,o0 P,o1 P,o102 P,o103 P,o0 P,o105 P,o106 P,o107 P,o108 P,o0 P,o1 P,o111 P,o0 P,o113 P,o114 P,o115 P,o0 P,o1 P,o118 P,o119 P,o120 P,o0 P,o1 P,o123 P,o0 P,o125 P,o126 P,o127 P,o0 P,o1 P,o130 P,o0 P,o132 P,o133 P,o134 P,o0 P,o1 P,o139 P,o0 P,o141 P,o142 P,o143 P,o0 P,o1 P,o146 P,o0 P,o148 P,o149 P,o150 P,o0 P,o1 P,o153 P,o154 P,o155 P,o0 P,o1 P,o158 P,o0 P,o160 P,o161 P,o162 P,o0 P,o1 P,o165 P,o166 P,o167 P,o0 P,o1 P,o170 P,o171 P,o172 P,o0 P,o1 P,o175 P,o176 P,o177 P,o0 P,o1 P,o180 P,o0 P,o182 P,o183 P,o184 P,o0 P,o1 P,o187 P,o0 P,o189 P,o190 P,o191 P,o0 P,o1 P,o194 P,o0 P,o196 P,o197 P,o198 P,o0 P,o7 P,o203 P,o0 P,o205 P,o206 P,o207 P,o0 P,o1 P,o210 P,o211 P,o212 P,o0 P,o1 P,o215 P,o0 P,o217 P,o218 P,o219 P,o0 P,o1 P,o222 P,o223 P,o224 P,o0 P,o1 P,o227 P,o0 P,o229 P,o230 P,o231 P,o0 P,o1 P,o234 P,o0 P,o236 P,o237 P,o238 P,o239 P,o240 P,o241 P,o242 P,o243 P,o244 P,o245 P,o0 P,o1 P,o248 P,o0 P,o250 P,o251 P,o252 P,o0 P,o1 P,o257 P,o0 P,o259 P,o260 P,o261 P,o0 P,o1 P,o264 P,o0 P,o266 P,o267 P,o268 P,o0 P,o1 P,o271 P,o0 P,o273 P,o274 P,o275 P,o0 P,o1 P,o278 P,o279 P,o280 P,o0 P,o1 P,o283 P,o0 P,o285 P,o286 P,o287 P,o0 P,o1 P,o290 P,o0 P,o292 P,o293 P,o294 P,o0 P,o1 P,o297 P,o0 P,o299 P,o300 P,o301 P,o0 P,o1 P,o304 P,o305 P,o306 P,o0 P,o1 P,o309 P,o310 P,o311 P,o0 P,o1 P,o314 P,o0 P,o316 P,o317 P,o318 P,o0 P,o1 P,o321 P,o0 P,o323 P,o324 P,o325 P,o0 P,o1 P,o328 P,o329 P,o330 P,o0 P,o1 P,o333 P,o0 P,o335 P,o336 P,o337 P,o0 P,o1 P,o342 P,o0 P,o344 P,o345 P,o346 P,o0 P,o1 P,o349 P,o350 P,o351 P,o0 P,o1 P,o354 P,o355 P,o356 P,o0 P,o1 P,o359 P,o360 P,o361 P,o0 P,o1 P,o364 P,o0 P,o366 P,o367 P,o368 P,o0 P,o1 P,o371 P,o0 P,o373 P,o374 P,o375 P,o0 P,o1 P,o378 P,o379 P,o380 P]⟩ (Life.mk [] [] [] 0 [] [] false ⟨[]⟩ [] 0 false false false 0 [2000,10,10] false 0 true [] [] 0 false)
noncomputable def SF (w:World) (os:OsState):Shared:=Shared.mk (hF w.params) ⟨[]⟩ (Drawn.mk 0 0 0 0) 685 os
theorem pc_fin:∀ w:World,(fun os=>topRun treeTable pg w m0 ann 2 ((T10 w os).abs) (Thread.mk (doneF Flow.next) cE (Pos.mk 288 0 315 134) [topFrame qE]))=fun os=>some (SF w os):=fun w=>by rewrite [PySem.W.Fast.te14082659384304107361,PySem.W.Fast.te14364793385576792824];kernel_rfl
theorem b_eq:bE=(sts0++(sts1++(sts2++(sts3++(sts4++(sts5++(sts6++(sts7++(sts8++(sts9++(sts10++[]))))))))))):=by kernel_rfl
theorem rest_run (w:World) (os:OsState):topRun treeTable pg w m0 ann (196+(214+(214+(214+(214+(214+(384+(334+(387+(395+(206+2))))))))))) ((TB w os).abs) (restOf (sts0++(sts1++(sts2++(sts3++(sts4++(sts5++(sts6++(sts7++(sts8++(sts9++(sts10++[]))))))))))) en cE (Pos.mk 0 0 0 0) [topFrame qE])=some (SF w os):=(piece_app (segRun_of (congrFun (pc0 w) os)) (piece_app (segRun_of (congrFun (pc1 w) os)) (piece_app (segRun_of (congrFun (pc2 w) os)) (piece_app (segRun_of (congrFun (pc3 w) os)) (piece_app (segRun_of (congrFun (pc4 w) os)) (piece_app (segRun_of (congrFun (pc5 w) os)) (piece_app (segRun_of (congrFun (pc6 w) os)) (piece_app (segRun_of (congrFun (pc7 w) os)) (piece_app (segRun_of (congrFun (pc8 w) os)) (piece_app (segRun_of (congrFun (pc9 w) os)) (piece_app (segRun_of (congrFun (pc10 w) os)) (congrFun (pc_fin w) os))))))))))))
theorem run_eq (w:World) (os:OsState):topRun treeTable pg w m0 ann (12+(1+(196+(214+(214+(214+(214+(214+(384+(334+(387+(395+(206+2))))))))))))) (S0 w os) (topStub pg)=some (SF w os):=go_top (congrFun (pc_pre w) os) (piece_block (congrFun (pc_block w) os) (b_eq ▸ rest_run w os))
noncomputable abbrev NN:Nat:=6048
noncomputable abbrev MM:Nat:=(12+(1+(196+(214+(214+(214+(214+(214+(384+(334+(387+(395+(206+2)))))))))))))
noncomputable def K (P:Params):Frag:=[(2,boot_o_2 P),(3,o338 P),(15,o6 P),(22,o0 P),(23,o14 P),(24,o96 P),(25,o16 P),(28,o22 P),(35,o0 P),(36,o30 P),(37,o31 P),(40,o22 P),(47,o0 P),(48,o45 P),(49,o46 P),(52,o22 P),(59,o0 P),(60,o60 P),(61,o61 P),(64,o22 P),(71,o0 P),(72,o75 P),(73,o76 P),(76,o22 P),(83,o0 P),(84,o90 P),(85,o91 P),(88,o22 P),(95,o0 P),(96,o105 P),(97,o106 P),(100,o0 P),(102,o111 P),(103,o0 P),(105,o114 P),(106,o115 P),(107,o0 P),(110,o119 P),(111,o120 P),(112,o0 P),(114,o123 P),(115,o0 P),(117,o126 P),(118,o127 P),(119,o0 P),(121,o130 P),(122,o0 P),(124,o133 P),(125,o134 P),(126,o0 P),(128,o139 P),(129,o0 P),(131,o142 P),(132,o143 P),(133,o0 P),(135,o146 P),(136,o0 P),(138,o149 P),(139,o150 P),(140,o0 P),(143,o154 P),(144,o155 P),(145,o0 P),(147,o158 P),(148,o0 P),(150,o161 P),(151,o162 P),(152,o0 P),(155,o166 P),(156,o167 P),(157,o0 P),(160,o171 P),(161,o172 P),(162,o0 P),(165,o176 P),(166,o177 P),(167,o0 P),(169,o180 P),(170,o0 P),(172,o183 P),(173,o184 P),(174,o0 P),(176,o187 P),(177,o0 P),(179,o190 P),(180,o191 P),(181,o0 P),(183,o194 P),(184,o0 P),(186,o197 P),(187,o198 P),(195,o0 P),(198,o211 P),(199,o212 P),(200,o0 P),(202,o215 P),(203,o0 P),(205,o218 P),(206,o219 P),(207,o0 P),(210,o223 P),(211,o224 P),(212,o0 P),(214,o227 P),(215,o0 P),(217,o230 P),(218,o231 P),(219,o0 P),(221,o234 P),(222,o0 P),(224,o237 P),(225,o238 P),(226,o239 P),(227,o240 P),(228,o241 P),(229,o242 P),(230,o243 P),(233,o0 P),(235,o248 P),(236,o0 P),(238,o251 P),(239,o252 P),(247,o0 P),(249,o264 P),(250,o0 P),(252,o267 P),(253,o268 P),(254,o0 P),(256,o271 P),(257,o0 P),(259,o274 P),(260,o275 P),(261,o0 P),(264,o279 P),(265,o280 P),(266,o0 P),(268,o283 P),(269,o0 P),(271,o286 P),(272,o287 P),(273,o0 P),(275,o290 P),(276,o0 P),(278,o293 P),(279,o294 P),(280,o0 P),(282,o297 P),(283,o0 P),(285,o300 P),(286,o301 P),(287,o0 P),(290,o305 P),(291,o306 P),(292,o0 P),(295,o310 P),(296,o311 P),(297,o0 P),(299,o314 P),(300,o0 P),(302,o317 P),(303,o318 P),(304,o0 P),(306,o321 P),(307,o0 P),(309,o324 P),(310,o325 P),(311,o0 P),(314,o329 P),(315,o330 P),(316,o0 P),(318,o333 P),(319,o0 P),(321,o336 P),(322,o337 P),(323,o0 P),(325,o342 P),(326,o0 P),(328,o345 P),(329,o346 P),(330,o0 P),(333,o350 P),(334,o351 P),(335,o0 P),(338,o355 P),(339,o356 P),(340,o0 P),(343,o360 P),(344,o361 P),(345,o0 P),(347,o364 P),(348,o0 P),(350,o367 P),(351,o368 P),(352,o0 P),(354,o371 P),(355,o0 P),(357,o374 P),(358,o375 P),(359,o0 P),(362,o379 P),(363,o380 P)]
noncomputable def adrs:List Addr:=[2,3,15,22,23,24,25,28,35,36,37,40,47,48,49,52,59,60,61,64,71,72,73,76,83,84,85,88,95,96,97,100,102,103,105,106,107,110,111,112,114,115,117,118,119,121,122,124,125,126,128,129,131,132,133,135,136,138,139,140,143,144,145,147,148,150,151,152,155,156,157,160,161,162,165,166,167,169,170,172,173,174,176,177,179,180,181,183,184,186,187,195,198,199,200,202,203,205,206,207,210,211,212,214,215,217,218,219,221,222,224,225,226,227,228,229,230,233,235,236,238,239,247,249,250,252,253,254,256,257,259,260,261,264,265,266,268,269,271,272,273,275,276,278,279,280,282,283,285,286,287,290,291,292,295,296,297,299,300,302,303,304,306,307,309,310,311,314,315,316,318,319,321,322,323,325,326,328,329,330,333,334,335,338,339,340,343,344,345,347,348,350,351,352,354,355,357,358,359,362,363]
noncomputable abbrev gF:Array GenState:=⟨[]⟩
noncomputable abbrev dF:Drawn:=(Drawn.mk 0 0 0 0)
noncomputable abbrev kF:Nat:=685
noncomputable def qv:Program:={ pg with main:={ pg.main with body:=[s54] } }
noncomputable def loose:List Str:=[Str.ofString "TableError", Str.ofString "NoTable", Str.ofString "NoSign", Str.ofString "NoHand", Str.ofString "NoSaying", Str.ofString "Over", Str.ofString "NotOver", Str.ofString "LEAST_HANDS", Str.ofString "MOST_HANDS", Str.ofString "MOST_LIARS", Str.ofString "MOST_LETTERS", Str.ofString "LETTERS", Str.ofString "is_within", Str.ofString "is_sign", Str.ofString "need_table", Str.ofString "need_sign", Str.ofString "need_hand", Str.ofString "need_liars", Str.ofString "hearers", Str.ofString "longer_paths", Str.ofString "paths", Str.ofString "paths_of", Str.ofString "is_saying", Str.ofString "need_lies", Str.ofString "vote", Str.ofString "settled", Str.ofString "Table", Str.ofString "_law_cell_at", Str.ofString "_law_whole", Str.ofString "_law_signs", Str.ofString "_law_table", Str.ofString "_law_paths", Str.ofString "_law_liars", Str.ofString "_law_mixed", Str.ofString "_law_lie", Str.ofString "_law_lies", Str.ofString "_law_play", Str.ofString "_law_of", Str.ofString "_law_same", Str.ofString "_law_told", Str.ofString "_law_word", Str.ofString "_law_asked", Str.ofString "_law_heard", Str.ofString "_law_wrong_pair", Str.ofString "_law_spoilt", Str.ofString "_law_made", Str.ofString "_law_hands"]
noncomputable abbrev lw:OpenLaw:=PySem.Challenge.rw_uf060015_05
theorem open_eq:∀ w:World,(fencedOpening treeTable pg w NN).map (fun s=>(s.heap,s.gens,s.drawn,s.toks))=some (boot_heap w.params,Array.mk [],boot_drawn,boot_toks) :=
 boot_open (by kernel_rfl) (by decide) (fun s=>by rewrite [PySem.W.Fast.te14289696077712309145];kernel_rfl)
theorem size_eq:∀ w:World,((boot_heap w.params).isNs mainGlobals && (Array.mk []:Array GenState).size==0,(boot_heap w.params).objs.size,(boot_heap w.params).nsMap mainGlobals "__annotations__")=(true,m0,ann):=fun w=>by
 rewrite [PySem.W.Fast.te8920871248978507458];kernel_rfl
noncomputable def HK:Hook:=kHook K adrs (fun P=>by kernel_rfl)
noncomputable abbrev Xt:Shared→Bool:=fun s=>xlAt qv [] s && recOk (RowW.records (OpenRow.toRowW lw.row)) s
theorem look1 (w:World) (os:OsState):(staticsOk (importedModules pg.main.body) (boot_heap w.params) (hF w.params) && namesBound pg (hF w.params) && gensDone ⟨hF w.params,gF,dF,kF,os⟩ && laidKept (boot_heap w.params) (hF w.params))=true:=by
 rewrite [PySem.W.Fast.te5923862056798008813];kernel_rfl
theorem look2 (w:World) (os:OsState):openSeen qv loose (importedModules pg.main.body) Xt true ⟨hF w.params,gF,dF,kF,os⟩=openGood qv loose:=by
 rewrite [PySem.W.Fast.te4187177175401517315,PySem.W.Fast.te5923862056798008813];kernel_rfl
theorem look3 (w:World) (os:OsState):Hook.obs HK ⟨hF w.params,gF,dF,kF,os⟩=Hook.val HK w:=by kernel_rfl
theorem left_eq:LeftO lw.row.prog qv loose Xt (Hook.obs HK) (Hook.val HK) NN :=
 LeftO.of_pieces (H₀:=boot_heap) (H₁:=hF) (gs₀:=Array.mk []) (gs₁:=gF) (d₀:=boot_drawn) (d₁:=dF) (k₀:=boot_toks) (k₁:=kF) (m₀:=m0) (ann:=ann) (M:=MM) open_eq size_eq (fun w os=>run_eq w os) (by decide) (fun w=>funext fun os=>looks_pair (look1 w os) (looks_pair (look2 w os) (look3 w os)))
noncomputable def dr0:DefRec:=((defOf qv lw.row.name).get (by kernel_rfl)).1
theorem def_eq:defOf qv lw.row.name=some (dr0,[]):=by kernel_rfl
theorem the_eq:lw.row.prog.theDef lw.row.name=some (dr0.params,dr0.body,dr0.scope):=by rewrite [PySem.W.Fast.te10235530238920679567];kernel_rfl
theorem kw_eq:kwWritten? dr0.params.kwonlyargs dr0.params.kw_defaults=some []:=by kernel_rfl
theorem head (walk:WalkO qv loose (XL qv []) (Hook.says HK) lw.row.toRowW dr0 [] fun f vs=>PySem.call f vs):PySem.Challenge.rw_uf060015_05.Holds:=by
 show lw.Holds
 refine holds_law (by decide +kernel) fun said=>?_
 refine holds_open (r:=lw.row) (q:=qv) (loose:=loose) (Xt:=Xt) (XP:=XL qv []) (Yf:=Hook.obs HK) (Ya:=Hook.val HK) (YP:=Hook.says HK) (N:=NN) left_eq (Hook.of HK) (Hook.keeps HK) (fun s e=>xl_of s (Bool.and_eq_true_iff.mp e).1) XL.keeps def_eq the_eq kw_eq (fun s e=>recFacts_of (Bool.and_eq_true_iff.mp e).2) (by rfl) (by first | assumption | decide +kernel) (by decide +kernel) ⟨rfl,rfl,rfl,rfl,rfl,by decide +kernel⟩ ?hw walk
 case hw=>exact ⟨[.list []],by decide +kernel,by decide +kernel⟩
end Mine.H
end
section
open PySem PySem.W Mine
namespace Mine
variable {g:Gx} {c:Cx g} {σ:Sto}
noncomputable abbrev KK (g:Gx):Frag:=H.K g.w.params
theorem rm {a n b k:Nat} (h:a+n < b) (e:Nat.ble k n=true):a+k < b:=Nat.lt_of_le_of_lt (Nat.add_le_add_left (Nat.le_of_ble_eq_true e) a) h
theorem rm0 {a n b:Nat} (h:a+n < b):a < b:=Nat.lt_of_le_of_lt (Nat.le_add_right a n) h
theorem rm3 {a n b m k:Nat} (h:a+n < b) (e:Nat.ble (m+k) n=true):a+m+k < b:=by rw [Nat.add_assoc];exact rm h e
theorem nle {x a b:Nat} (h:x≤a) (e:a≤b):x≤b:=Nat.le_trans h e
theorem nlt {x a b:Nat} (h:x≤a) (e:a < b):x < b:=Nat.lt_of_le_of_lt h e
theorem nltt {x a b:Nat} (h:x < a) (e:a≤b):x < b:=Nat.lt_of_lt_of_le h e
theorem nal {x y a b:Nat} (h:x+y≤a) (e:a≤b):x≤b:=nle (Nat.le_trans (Nat.le_add_right x y) h) e
theorem nae {x y a b:Nat} (h:x+y=a) (e:a≤b):x≤b:=nal (Nat.le_of_eq h) e
theorem nsw {a b d:Nat} (h:a+(b+1)≤d):a+1+b≤d:=by rw [Nat.add_right_comm];exact h
theorem nse {a b d:Nat} (h:a+(b+1)=d):a+1+b=d:=by rw [Nat.add_right_comm];exact h
theorem hit {a b x:Int} (h:x≤a) (e:a < b):x < b:=Int.lt_of_le_of_lt h e
theorem htt {a b x:Int} (h:x < a) (e:a≤b):x < b:=Int.lt_of_lt_of_le h e
theorem lot {a b x:Int} (h:a≤x) (e:b < a):b < x:=Int.lt_of_lt_of_le e h
theorem loa {a b x k:Int} (h:a≤x) (e:b≤a+k):b≤x+k:=Int.le_trans e (Int.add_le_add_right h k)
theorem lob {a b x k:Int} (h:a≤x) (e:b < a+k):b < x+k:=Int.lt_of_lt_of_le e (Int.add_le_add_right h k)
theorem hia {a b x k:Int} (h:x≤a) (e:a+k≤b):x+k≤b:=Int.le_trans (Int.add_le_add_right h k) e
theorem hib {a b x k:Int} (h:x≤a) (e:a+k < b):x+k < b:=Int.lt_of_le_of_lt (Int.add_le_add_right h k) e
theorem hic {a b x y k:Int} (h:x≤y+k) (g:y≤a) (e:a+k≤b):x≤b:=Int.le_trans h (hia g e)
theorem hie {a b x y:Int} (h:x < y) (g:y≤a) (e:a≤b):x < b:=Int.lt_of_lt_of_le h (Int.le_trans g e)
theorem tno {a x:Int} {b:Nat} (h:x≤a) (e:a.toNat≤b):x.toNat≤b:=nle (Int.toNat_le_toNat h) e
theorem tnz {a x:Int} {b:Nat} (h:x≤a) (e:a.toNat≤b):(x - 0).toNat≤b:=by rw [Int.sub_zero];exact tno h e
theorem sub0 {x:Int}:(x - 0).toNat=x.toNat:=by rw [Int.sub_zero]
theorem ale {a b:Int} (h:a < b):a+1≤b:=Int.add_one_le_of_lt h
theorem nn {n:Nat}:(0:Int)≤n:=Int.natCast_nonneg n
theorem lo {a b x:Int} (h:a≤x) (e:b≤a):b≤x:=Int.le_trans e h
theorem hi {a b x:Int} (h:x≤a) (e:a≤b):x≤b:=Int.le_trans h e
theorem nb_len:nsIn (KK g) mainGlobals "len" = some none:=by kernel_rfl
theorem cb_len {sc:Scope} {ρ:Rho} {p pos:Pos} {e:Expr} {rest:List Expr} {Q:AV→Sto→Prop} (T:TopG g (KK g)) (hsc:c.sc=sc) (hx:sc.names.lookup ("len":Str)=some .globalImplicit) (h:evl c ρ (e::rest) σ fun xs σ₁=>cal c (.builtin "len") xs σ₁ Q) (hp:(e::rest).all noStar=true:=by rfl):ev c ρ (.Call (.Name "len" p) (e::rest) [] pos) σ Q:=ev_callB boot_len (.builtin _) T hsc nb_len hx h (hp:=hp)
theorem nb_range:nsIn (KK g) mainGlobals "range" = some none:=by kernel_rfl
theorem cb_range {sc:Scope} {ρ:Rho} {p pos:Pos} {e:Expr} {rest:List Expr} {Q:AV→Sto→Prop} (T:TopG g (KK g)) (hsc:c.sc=sc) (hx:sc.names.lookup ("range":Str)=some .globalImplicit) (h:evl c ρ (e::rest) σ fun xs σ₁=>cal c (.type "range") xs σ₁ Q) (hp:(e::rest).all noStar=true:=by rfl):ev c ρ (.Call (.Name "range" p) (e::rest) [] pos) σ Q:=ev_callB PyProof.Rows.boot_range (.type _) T hsc nb_range hx h (hp:=hp)
theorem nb_min:nsIn (KK g) mainGlobals "min" = some none:=by kernel_rfl
theorem cb_min {sc:Scope} {ρ:Rho} {p pos:Pos} {e:Expr} {rest:List Expr} {Q:AV→Sto→Prop} (T:TopG g (KK g)) (hsc:c.sc=sc) (hx:sc.names.lookup ("min":Str)=some .globalImplicit) (h:evl c ρ (e::rest) σ fun xs σ₁=>cal c (.builtin "min") xs σ₁ Q) (hp:(e::rest).all noStar=true:=by rfl):ev c ρ (.Call (.Name "min" p) (e::rest) [] pos) σ Q:=ev_callB PyProof.Rows.boot_min (.builtin _) T hsc nb_min hx h (hp:=hp)
theorem nb_sum:nsIn (KK g) mainGlobals "sum" = some none:=by kernel_rfl
theorem cb_sum {sc:Scope} {ρ:Rho} {p pos:Pos} {e:Expr} {rest:List Expr} {Q:AV→Sto→Prop} (T:TopG g (KK g)) (hsc:c.sc=sc) (hx:sc.names.lookup ("sum":Str)=some .globalImplicit) (h:evl c ρ (e::rest) σ fun xs σ₁=>cal c (.builtin "sum") xs σ₁ Q) (hp:(e::rest).all noStar=true:=by rfl):ev c ρ (.Call (.Name "sum" p) (e::rest) [] pos) σ Q:=ev_callB PyProof.Rows.boot_sum (.builtin _) T hsc nb_sum hx h (hp:=hp)
theorem nb_list:nsIn (KK g) mainGlobals "list" = some none:=by kernel_rfl
theorem cb_list {sc:Scope} {ρ:Rho} {p pos:Pos} {e:Expr} {rest:List Expr} {Q:AV→Sto→Prop} (T:TopG g (KK g)) (hsc:c.sc=sc) (hx:sc.names.lookup ("list":Str)=some .globalImplicit) (h:evl c ρ (e::rest) σ fun xs σ₁=>cal c (.type "list") xs σ₁ Q) (hp:(e::rest).all noStar=true:=by rfl):ev c ρ (.Call (.Name "list" p) (e::rest) [] pos) σ Q:=ev_callB PyProof.Rows.boot_list (.type _) T hsc nb_list hx h (hp:=hp)
theorem nb_dict:nsIn (KK g) mainGlobals "dict" = some none:=by kernel_rfl
theorem cb_dict {sc:Scope} {ρ:Rho} {p pos:Pos} {e:Expr} {rest:List Expr} {Q:AV→Sto→Prop} (T:TopG g (KK g)) (hsc:c.sc=sc) (hx:sc.names.lookup ("dict":Str)=some .globalImplicit) (h:evl c ρ (e::rest) σ fun xs σ₁=>cal c (.type "dict") xs σ₁ Q) (hp:(e::rest).all noStar=true:=by rfl):ev c ρ (.Call (.Name "dict" p) (e::rest) [] pos) σ Q:=ev_callB PyProof.Rows.boot_dict (.type _) T hsc nb_dict hx h (hp:=hp)
theorem nb_isinstance:nsIn (KK g) mainGlobals "isinstance" = some none:=by kernel_rfl
theorem cb_isinstance {sc:Scope} {ρ:Rho} {p pos:Pos} {e:Expr} {rest:List Expr} {Q:AV→Sto→Prop} (T:TopG g (KK g)) (hsc:c.sc=sc) (hx:sc.names.lookup ("isinstance":Str)=some .globalImplicit) (h:evl c ρ (e::rest) σ fun xs σ₁=>cal c (.builtin "isinstance") xs σ₁ Q) (hp:(e::rest).all noStar=true:=by rfl):ev c ρ (.Call (.Name "isinstance" p) (e::rest) [] pos) σ Q:=ev_callB PyProof.Rows.boot_isinstance (.builtin _) T hsc nb_isinstance hx h (hp:=hp)
theorem nb_all:nsIn (KK g) mainGlobals "all" = some none:=by kernel_rfl
theorem cb_all {sc:Scope} {ρ:Rho} {p pos:Pos} {e:Expr} {rest:List Expr} {Q:AV→Sto→Prop} (T:TopG g (KK g)) (hsc:c.sc=sc) (hx:sc.names.lookup ("all":Str)=some .globalImplicit) (h:evl c ρ (e::rest) σ fun xs σ₁=>cal c (.builtin "all") xs σ₁ Q) (hp:(e::rest).all noStar=true:=by rfl):ev c ρ (.Call (.Name "all" p) (e::rest) [] pos) σ Q:=ev_callB PyProof.Rows.boot_all (.builtin _) T hsc nb_all hx h (hp:=hp)
theorem nb_tuple:nsIn (KK g) mainGlobals "tuple" = some none:=by kernel_rfl
theorem nb_str:nsIn (KK g) mainGlobals "str" = some none:=by kernel_rfl
theorem nb_int:nsIn (KK g) mainGlobals "int" = some none:=by kernel_rfl
theorem cb_int {sc:Scope} {ρ:Rho} {p pos:Pos} {e:Expr} {rest:List Expr} {Q:AV→Sto→Prop} (T:TopG g (KK g)) (hsc:c.sc=sc) (hx:sc.names.lookup ("int":Str)=some .globalImplicit) (h:evl c ρ (e::rest) σ fun xs σ₁=>cal c (.type "int") xs σ₁ Q) (hp:(e::rest).all noStar=true:=by rfl):ev c ρ (.Call (.Name "int" p) (e::rest) [] pos) σ Q:=ev_callB PyProof.Rows.boot_int (.type _) T hsc nb_int hx h (hp:=hp)
theorem nb_bool:nsIn (KK g) mainGlobals "bool" = some none:=by kernel_rfl
theorem nb_ValueError:nsIn (KK g) mainGlobals "ValueError" = some none:=by kernel_rfl
theorem g_LEAST_HANDS:nsIn (KK g) mainGlobals "LEAST_HANDS" = some (some (.int 2 305)):=by kernel_rfl
theorem g_MOST_HANDS:nsIn (KK g) mainGlobals "MOST_HANDS" = some (some (.int 10 307)):=by kernel_rfl
theorem g_MOST_LIARS:nsIn (KK g) mainGlobals "MOST_LIARS" = some (some (.int 2 309)):=by kernel_rfl
theorem g_MOST_LETTERS:nsIn (KK g) mainGlobals "MOST_LETTERS" = some (some (.int 8 311)):=by kernel_rfl
theorem g_LETTERS:nsIn (KK g) mainGlobals "LETTERS" = some (some (.str "abcdefghijklmnopqrstuvwxyz" 313)):=by kernel_rfl
theorem n_Table:nsIn (KK g) mainGlobals "Table" = some (some (.ref 228)):=by kernel_rfl
theorem kc_Table:keepIn (KK g) (.ref 228)=true:=by kernel_rfl
theorem km_Table:makeOk (KK g) 228 199=true:=by kernel_rfl
theorem n_TableError:nsIn (KK g) mainGlobals "TableError" = some (some (.ref 24)):=by kernel_rfl
theorem eb_TableError (T:TopG g (KK g)):BaseAt g.H₀ 24:=⟨_,_,_,_,_,_,_,_,_,_,_,_,_,_,_,T.X 24 _ rfl⟩
theorem n_NoTable:nsIn (KK g) mainGlobals "NoTable" = some (some (.ref 37)):=by kernel_rfl
theorem cx_NoTable:classOk (KK g) 37=true:=by kernel_rfl
theorem ex_NoTable (T:TopG g (KK g)):ExcAt g.H₀ 37 24:=excAt_of T.X rfl rfl (by kernel_rfl) (by kernel_rfl) rfl rfl (by kernel_rfl) (by kernel_rfl)
theorem n_NoSign:nsIn (KK g) mainGlobals "NoSign" = some (some (.ref 49)):=by kernel_rfl
theorem cx_NoSign:classOk (KK g) 49=true:=by kernel_rfl
theorem ex_NoSign (T:TopG g (KK g)):ExcAt g.H₀ 49 24:=excAt_of T.X rfl rfl (by kernel_rfl) (by kernel_rfl) rfl rfl (by kernel_rfl) (by kernel_rfl)
theorem n_NoHand:nsIn (KK g) mainGlobals "NoHand" = some (some (.ref 61)):=by kernel_rfl
theorem cx_NoHand:classOk (KK g) 61=true:=by kernel_rfl
theorem ex_NoHand (T:TopG g (KK g)):ExcAt g.H₀ 61 24:=excAt_of T.X rfl rfl (by kernel_rfl) (by kernel_rfl) rfl rfl (by kernel_rfl) (by kernel_rfl)
theorem n_NoSaying:nsIn (KK g) mainGlobals "NoSaying" = some (some (.ref 73)):=by kernel_rfl
theorem cx_NoSaying:classOk (KK g) 73=true:=by kernel_rfl
theorem ex_NoSaying (T:TopG g (KK g)):ExcAt g.H₀ 73 24:=excAt_of T.X rfl rfl (by kernel_rfl) (by kernel_rfl) rfl rfl (by kernel_rfl) (by kernel_rfl)
theorem n_Over:nsIn (KK g) mainGlobals "Over" = some (some (.ref 85)):=by kernel_rfl
theorem cx_Over:classOk (KK g) 85=true:=by kernel_rfl
theorem ex_Over (T:TopG g (KK g)):ExcAt g.H₀ 85 24:=excAt_of T.X rfl rfl (by kernel_rfl) (by kernel_rfl) rfl rfl (by kernel_rfl) (by kernel_rfl)
theorem n_NotOver:nsIn (KK g) mainGlobals "NotOver" = some (some (.ref 97)):=by kernel_rfl
theorem cx_NotOver:classOk (KK g) 97=true:=by kernel_rfl
theorem ex_NotOver (T:TopG g (KK g)):ExcAt g.H₀ 97 24:=excAt_of T.X rfl rfl (by kernel_rfl) (by kernel_rfl) rfl rfl (by kernel_rfl) (by kernel_rfl)
theorem n_is_within:nsIn (KK g) mainGlobals "is_within" = some (some (.ref 106)):=by kernel_rfl
theorem k_is_within:fnOk (KK g) 106=true:=by kernel_rfl
theorem fn_is_within (T:TopG g (KK g)):FnAt g 106 ["thing", "least", "most"] H.bd_is_within H.sc_is_within:=fnAt_mk T.X T.nl k_is_within (by kernel_rfl) (by kernel_rfl) (fa3 fun _ _ _=>by kernel_rfl)
theorem n_is_sign:nsIn (KK g) mainGlobals "is_sign" = some (some (.ref 111)):=by kernel_rfl
theorem k_is_sign:fnOk (KK g) 111=true:=by kernel_rfl
theorem fn_is_sign (T:TopG g (KK g)):FnAt g 111 ["thing"] H.bd_is_sign H.sc_is_sign:=fnAt_mk T.X T.nl k_is_sign (by kernel_rfl) (by kernel_rfl) (fa1 fun _=>by kernel_rfl)
theorem n_need_table:nsIn (KK g) mainGlobals "need_table" = some (some (.ref 118)):=by kernel_rfl
theorem k_need_table:fnOk (KK g) 118=true:=by kernel_rfl
theorem fn_need_table (T:TopG g (KK g)):FnAt g 118 ["hands", "most"] H.bd_need_table H.sc_need_table:=fnAt_mk T.X T.nl k_need_table (by kernel_rfl) (by kernel_rfl) (fa2 fun _ _=>by kernel_rfl)
theorem n_need_sign:nsIn (KK g) mainGlobals "need_sign" = some (some (.ref 125)):=by kernel_rfl
theorem k_need_sign:fnOk (KK g) 125=true:=by kernel_rfl
theorem fn_need_sign (T:TopG g (KK g)):FnAt g 125 ["thing"] H.bd_need_sign H.sc_need_sign:=fnAt_mk T.X T.nl k_need_sign (by kernel_rfl) (by kernel_rfl) (fa1 fun _=>by kernel_rfl)
theorem n_need_hand:nsIn (KK g) mainGlobals "need_hand" = some (some (.ref 132)):=by kernel_rfl
theorem k_need_hand:fnOk (KK g) 132=true:=by kernel_rfl
theorem fn_need_hand (T:TopG g (KK g)):FnAt g 132 ["hands", "thing"] H.bd_need_hand H.sc_need_hand:=fnAt_mk T.X T.nl k_need_hand (by kernel_rfl) (by kernel_rfl) (fa2 fun _ _=>by kernel_rfl)
theorem n_need_liars:nsIn (KK g) mainGlobals "need_liars" = some (some (.ref 139)):=by kernel_rfl
theorem k_need_liars:fnOk (KK g) 139=true:=by kernel_rfl
theorem fn_need_liars (T:TopG g (KK g)):FnAt g 139 ["hands", "liars"] H.bd_need_liars H.sc_need_liars:=fnAt_mk T.X T.nl k_need_liars (by kernel_rfl) (by kernel_rfl) (fa2 fun _ _=>by kernel_rfl)
theorem n_hearers:nsIn (KK g) mainGlobals "hearers" = some (some (.ref 144)):=by kernel_rfl
theorem k_hearers:fnOk (KK g) 144=true:=by kernel_rfl
theorem fn_hearers (T:TopG g (KK g)):FnAt g 144 ["hands", "path"] H.bd_hearers H.sc_hearers:=fnAt_mk T.X T.nl k_hearers (by kernel_rfl) (by kernel_rfl) (fa2 fun _ _=>by kernel_rfl)
theorem n_longer_paths:nsIn (KK g) mainGlobals "longer_paths" = some (some (.ref 151)):=by kernel_rfl
theorem k_longer_paths:fnOk (KK g) 151=true:=by kernel_rfl
theorem fn_longer_paths (T:TopG g (KK g)):FnAt g 151 ["hands", "row"] H.bd_longer_paths H.sc_longer_paths:=fnAt_mk T.X T.nl k_longer_paths (by kernel_rfl) (by kernel_rfl) (fa2 fun _ _=>by kernel_rfl)
theorem n_paths:nsIn (KK g) mainGlobals "paths" = some (some (.ref 156)):=by kernel_rfl
theorem k_paths:fnOk (KK g) 156=true:=by kernel_rfl
theorem fn_paths (T:TopG g (KK g)):FnAt g 156 ["hands", "most"] H.bd_paths H.sc_paths:=fnAt_mk T.X T.nl k_paths (by kernel_rfl) (by kernel_rfl) (fa2 fun _ _=>by kernel_rfl)
theorem n_paths_of:nsIn (KK g) mainGlobals "paths_of" = some (some (.ref 161)):=by kernel_rfl
theorem k_paths_of:fnOk (KK g) 161=true:=by kernel_rfl
theorem fn_paths_of (T:TopG g (KK g)):FnAt g 161 ["hands", "most", "size"] H.bd_paths_of H.sc_paths_of:=fnAt_mk T.X T.nl k_paths_of (by kernel_rfl) (by kernel_rfl) (fa3 fun _ _ _=>by kernel_rfl)
theorem n_is_saying:nsIn (KK g) mainGlobals "is_saying" = some (some (.ref 166)):=by kernel_rfl
theorem k_is_saying:fnOk (KK g) 166=true:=by kernel_rfl
theorem fn_is_saying (T:TopG g (KK g)):FnAt g 166 ["hands", "liars", "rows", "thing"] H.bd_is_saying H.sc_is_saying:=fnAt_mk T.X T.nl k_is_saying (by kernel_rfl) (by kernel_rfl) (fa4 fun _ _ _ _=>by kernel_rfl)
theorem n_need_lies:nsIn (KK g) mainGlobals "need_lies" = some (some (.ref 173)):=by kernel_rfl
theorem k_need_lies:fnOk (KK g) 173=true:=by kernel_rfl
theorem fn_need_lies (T:TopG g (KK g)):FnAt g 173 ["hands", "liars", "rows", "lies"] H.bd_need_lies H.sc_need_lies:=fnAt_mk T.X T.nl k_need_lies (by kernel_rfl) (by kernel_rfl) (fa4 fun _ _ _ _=>by kernel_rfl)
theorem n_vote:nsIn (KK g) mainGlobals "vote" = some (some (.ref 180)):=by kernel_rfl
theorem k_vote:fnOk (KK g) 180=true:=by kernel_rfl
theorem fn_vote (T:TopG g (KK g)):FnAt g 180 ["signs"] H.bd_vote H.sc_vote:=fnAt_mk T.X T.nl k_vote (by kernel_rfl) (by kernel_rfl) (fa1 fun _=>by kernel_rfl)
theorem n_settled:nsIn (KK g) mainGlobals "settled" = some (some (.ref 187)):=by kernel_rfl
theorem k_settled:fnOk (KK g) 187=true:=by kernel_rfl
theorem fn_settled (T:TopG g (KK g)):FnAt g 187 ["hands", "most", "told", "hand", "path"] H.bd_settled H.sc_settled:=fnAt_mk T.X T.nl k_settled (by kernel_rfl) (by kernel_rfl) (fa5 fun _ _ _ _ _=>by kernel_rfl)
theorem n__law_cell_at:nsIn (KK g) mainGlobals "_law_cell_at" = some (some (.ref 239)):=by kernel_rfl
theorem k__law_cell_at:fnOk (KK g) 239=true:=by kernel_rfl
theorem fn__law_cell_at (T:TopG g (KK g)):FnAt g 239 ["_law_script", "_law_k"] H.bd__law_cell_at H.sc__law_cell_at:=fnAt_mk T.X T.nl k__law_cell_at (by kernel_rfl) (by kernel_rfl) (fa2 fun _ _=>by kernel_rfl)
theorem n__law_signs:nsIn (KK g) mainGlobals "_law_signs" = some (some (.ref 253)):=by kernel_rfl
theorem k__law_signs:fnOk (KK g) 253=true:=by kernel_rfl
theorem fn__law_signs (T:TopG g (KK g)):FnAt g 253 ["_law_cell"] H.bd__law_signs H.sc__law_signs:=fnAt_mk T.X T.nl k__law_signs (by kernel_rfl) (by kernel_rfl) (fa1 fun _=>by kernel_rfl)
theorem n__law_table:nsIn (KK g) mainGlobals "_law_table" = some (some (.ref 260)):=by kernel_rfl
theorem k__law_table:fnOk (KK g) 260=true:=by kernel_rfl
theorem fn__law_table (T:TopG g (KK g)):FnAt g 260 ["_law_cell"] H.bd__law_table H.sc__law_table:=fnAt_mk T.X T.nl k__law_table (by kernel_rfl) (by kernel_rfl) (fa1 fun _=>by kernel_rfl)
theorem n__law_paths:nsIn (KK g) mainGlobals "_law_paths" = some (some (.ref 265)):=by kernel_rfl
theorem k__law_paths:fnOk (KK g) 265=true:=by kernel_rfl
theorem fn__law_paths (T:TopG g (KK g)):FnAt g 265 ["_law_hands_here", "_law_size"] H.bd__law_paths H.sc__law_paths:=fnAt_mk T.X T.nl k__law_paths (by kernel_rfl) (by kernel_rfl) (fa2 fun _ _=>by kernel_rfl)
theorem n__law_liars:nsIn (KK g) mainGlobals "_law_liars" = some (some (.ref 272)):=by kernel_rfl
theorem k__law_liars:fnOk (KK g) 272=true:=by kernel_rfl
theorem fn__law_liars (T:TopG g (KK g)):FnAt g 272 ["_law_cell", "_law_hands_here", "_law_many"] H.bd__law_liars H.sc__law_liars:=fnAt_mk T.X T.nl k__law_liars (by kernel_rfl) (by kernel_rfl) (fa3 fun _ _ _=>by kernel_rfl)
theorem n__law_mixed:nsIn (KK g) mainGlobals "_law_mixed" = some (some (.ref 279)):=by kernel_rfl
theorem k__law_mixed:fnOk (KK g) 279=true:=by kernel_rfl
theorem fn__law_mixed (T:TopG g (KK g)):FnAt g 279 ["_law_script", "_law_k"] H.bd__law_mixed H.sc__law_mixed:=fnAt_mk T.X T.nl k__law_mixed (by kernel_rfl) (by kernel_rfl) (fa2 fun _ _=>by kernel_rfl)
theorem n__law_lie:nsIn (KK g) mainGlobals "_law_lie" = some (some (.ref 286)):=by kernel_rfl
theorem k__law_lie:fnOk (KK g) 286=true:=by kernel_rfl
theorem fn__law_lie (T:TopG g (KK g)):FnAt g 286 ["_law_script", "_law_signs_here", "_law_path", "_law_hearer", "_law_k"] H.bd__law_lie H.sc__law_lie:=fnAt_mk T.X T.nl k__law_lie (by kernel_rfl) (by kernel_rfl) (fa5 fun _ _ _ _ _=>by kernel_rfl)
theorem n__law_lies:nsIn (KK g) mainGlobals "_law_lies" = some (some (.ref 291)):=by kernel_rfl
theorem k__law_lies:fnOk (KK g) 291=true:=by kernel_rfl
theorem fn__law_lies (T:TopG g (KK g)):FnAt g 291 ["_law_script", "_law_hands_here", "_law_most", "_law_signs_here", "_law_liars_here"] H.bd__law_lies H.sc__law_lies:=fnAt_mk T.X T.nl k__law_lies (by kernel_rfl) (by kernel_rfl) (fa5 fun _ _ _ _ _=>by kernel_rfl)
theorem n__law_play:nsIn (KK g) mainGlobals "_law_play" = some (some (.ref 296)):=by kernel_rfl
theorem k__law_play:fnOk (KK g) 296=true:=by kernel_rfl
theorem fn__law_play (T:TopG g (KK g)):FnAt g 296 ["_law_hands_here", "_law_most", "_law_sign", "_law_lies_here"] H.bd__law_play H.sc__law_play:=fnAt_mk T.X T.nl k__law_play (by kernel_rfl) (by kernel_rfl) (fa4 fun _ _ _ _=>by kernel_rfl)
theorem n__law_of:nsIn (KK g) mainGlobals "_law_of" = some (some (.ref 303)):=by kernel_rfl
theorem k__law_of:fnOk (KK g) 303=true:=by kernel_rfl
theorem fn__law_of (T:TopG g (KK g)):FnAt g 303 ["_law_lies_here", "_law_size"] H.bd__law_of H.sc__law_of:=fnAt_mk T.X T.nl k__law_of (by kernel_rfl) (by kernel_rfl) (fa2 fun _ _=>by kernel_rfl)
theorem n__law_same:nsIn (KK g) mainGlobals "_law_same" = some (some (.ref 310)):=by kernel_rfl
theorem k__law_same:fnOk (KK g) 310=true:=by kernel_rfl
theorem fn__law_same (T:TopG g (KK g)):FnAt g 310 ["_law_found", "_law_due"] H.bd__law_same H.sc__law_same:=fnAt_mk T.X T.nl k__law_same (by kernel_rfl) (by kernel_rfl) (fa2 fun _ _=>by kernel_rfl)
theorem n__law_told:nsIn (KK g) mainGlobals "_law_told" = some (some (.ref 315)):=by kernel_rfl
theorem k__law_told:fnOk (KK g) 315=true:=by kernel_rfl
theorem fn__law_told (T:TopG g (KK g)):FnAt g 315 ["_law_found", "_law_due"] H.bd__law_told H.sc__law_told:=fnAt_mk T.X T.nl k__law_told (by kernel_rfl) (by kernel_rfl) (fa2 fun _ _=>by kernel_rfl)
theorem n__law_word:nsIn (KK g) mainGlobals "_law_word" = some (some (.ref 322)):=by kernel_rfl
theorem k__law_word:fnOk (KK g) 322=true:=by kernel_rfl
theorem fn__law_word (T:TopG g (KK g)):FnAt g 322 ["_law_e"] H.bd__law_word H.sc__law_word:=fnAt_mk T.X T.nl k__law_word (by kernel_rfl) (by kernel_rfl) (fa1 fun _=>by kernel_rfl)
theorem n__law_asked:nsIn (KK g) mainGlobals "_law_asked" = some (some (.ref 329)):=by kernel_rfl
theorem k__law_asked:fnOk (KK g) 329=true:=by kernel_rfl
theorem fn__law_asked (T:TopG g (KK g)):FnAt g 329 ["_law_way", "_law_table_here", "_law_thing"] H.bd__law_asked H.sc__law_asked:=fnAt_mk T.X T.nl k__law_asked (by kernel_rfl) (by kernel_rfl) (fa3 fun _ _ _=>by kernel_rfl)
theorem n__law_heard:nsIn (KK g) mainGlobals "_law_heard" = some (some (.ref 334)):=by kernel_rfl
theorem k__law_heard:fnOk (KK g) 334=true:=by kernel_rfl
theorem fn__law_heard (T:TopG g (KK g)):FnAt g 334 ["_law_path", "_law_hands_here", "_law_cell"] H.bd__law_heard H.sc__law_heard:=fnAt_mk T.X T.nl k__law_heard (by kernel_rfl) (by kernel_rfl) (fa3 fun _ _ _=>by kernel_rfl)
theorem n__law_wrong_pair:nsIn (KK g) mainGlobals "_law_wrong_pair" = some (some (.ref 339)):=by kernel_rfl
theorem k__law_wrong_pair:fnOk (KK g) 339=true:=by kernel_rfl
theorem fn__law_wrong_pair (T:TopG g (KK g)):FnAt g 339 ["_law_cell", "_law_hands_here", "_law_size", "_law_liars_here"] H.bd__law_wrong_pair H.sc__law_wrong_pair:=fnAt_mk T.X T.nl k__law_wrong_pair (by kernel_rfl) (by kernel_rfl) (fa4 fun _ _ _ _=>by kernel_rfl)
theorem n__law_spoilt:nsIn (KK g) mainGlobals "_law_spoilt" = some (some (.ref 344)):=by kernel_rfl
theorem k__law_spoilt:fnOk (KK g) 344=true:=by kernel_rfl
theorem fn__law_spoilt (T:TopG g (KK g)):FnAt g 344 ["_law_lies_here", "_law_cell", "_law_wrong"] H.bd__law_spoilt H.sc__law_spoilt:=fnAt_mk T.X T.nl k__law_spoilt (by kernel_rfl) (by kernel_rfl) (fa3 fun _ _ _=>by kernel_rfl)
theorem n__law_made:nsIn (KK g) mainGlobals "_law_made" = some (some (.ref 351)):=by kernel_rfl
theorem k__law_made:fnOk (KK g) 351=true:=by kernel_rfl
theorem fn__law_made (T:TopG g (KK g)):FnAt g 351 ["_law_cell", "_law_hands_here", "_law_most", "_law_sign"] H.bd__law_made H.sc__law_made:=fnAt_mk T.X T.nl k__law_made (by kernel_rfl) (by kernel_rfl) (fa4 fun _ _ _ _=>by kernel_rfl)
theorem n__law_hands:nsIn (KK g) mainGlobals "_law_hands" = some (some (.ref 358)):=by kernel_rfl
theorem k__law_hands:fnOk (KK g) 358=true:=by kernel_rfl
theorem fn__law_hands (T:TopG g (KK g)):FnAt g 358 ["_law_table_here", "_law_hands_here", "_law_cell", "_law_is_over"] H.bd__law_hands H.sc__law_hands:=fnAt_mk T.X T.nl k__law_hands (by kernel_rfl) (by kernel_rfl) (fa4 fun _ _ _ _=>by kernel_rfl)
theorem n_law:nsIn (KK g) mainGlobals "law" = some (some (.ref 363)):=by kernel_rfl
theorem k_law:fnOk (KK g) 363=true:=by kernel_rfl
theorem fn_law (T:TopG g (KK g)):FnAt g 363 ["_law_script"] H.bd_law H.sc_law:=fnAt_mk T.X T.nl k_law (by kernel_rfl) (by kernel_rfl) (fa1 fun _=>by kernel_rfl)
theorem k_Table___init__:fnOk (KK g) 199=true:=by kernel_rfl
theorem fn_Table___init__ (T:TopG g (KK g)):FnAt g 199 ["self", "hands", "most", "sign", "liars"] H.bd_Table___init__ H.sc_Table___init__:=fnAt_mk T.X T.nl k_Table___init__ (by kernel_rfl) (by kernel_rfl) (fa5 fun _ _ _ _ _=>by kernel_rfl)
theorem k_Table_honest:fnOk (KK g) 206=true:=by kernel_rfl
theorem fn_Table_honest (T:TopG g (KK g)):FnAt g 206 ["self", "path"] H.bd_Table_honest H.sc_Table_honest:=fnAt_mk T.X T.nl k_Table_honest (by kernel_rfl) (by kernel_rfl) (fa2 fun _ _=>by kernel_rfl)
theorem k_Table_play:fnOk (KK g) 211=true:=by kernel_rfl
theorem fn_Table_play (T:TopG g (KK g)):FnAt g 211 ["self", "lies"] H.bd_Table_play H.sc_Table_play:=fnAt_mk T.X T.nl k_Table_play (by kernel_rfl) (by kernel_rfl) (fa2 fun _ _=>by kernel_rfl)
theorem k_Table_told:fnOk (KK g) 218=true:=by kernel_rfl
theorem fn_Table_told (T:TopG g (KK g)):FnAt g 218 ["self", "hand"] H.bd_Table_told H.sc_Table_told:=fnAt_mk T.X T.nl k_Table_told (by kernel_rfl) (by kernel_rfl) (fa2 fun _ _=>by kernel_rfl)
theorem k_Table_says:fnOk (KK g) 225=true:=by kernel_rfl
theorem fn_Table_says (T:TopG g (KK g)):FnAt g 225 ["self", "hand"] H.bd_Table_says H.sc_Table_says:=fnAt_mk T.X T.nl k_Table_says (by kernel_rfl) (by kernel_rfl) (fa2 fun _ _=>by kernel_rfl)
set_option hygiene false
set_option compiler.extract_closed false
set_option compiler.reuse false
local macro_rules | `(tactic| walk_at $s:str)=>do
 let t:=s.getString
 if t == "ctor" then `(tactic| ((repeat (with_reducible constructor));done)) else
 if t == "go" then `(tactic| repeat' (walk_at "go1")) else
 if t == "gos" then `(tactic| repeat' (walk_at "go0")) else
 let b:=t == "rm"
 if !b && t != "go0" && t != "go1" then Lean.Macro.throwUnsupported else
 let a ← `(by assumption)
 let d ← `(by decide)
 let c ← `(by walk_at "ctor")
 let q ← `(?_)
 let g ← `(fun _=>?_)
 let u ← `(by with_unfolding_all rfl)
 let m ← `(by first | (left;constructor <;> omega) | (right;constructor <;> omega) | fail)
 let l ← (((if b then "rm.ad rm0.a rm3.ad lo.ad hi.ad hit.ad htt.ad lot.ad loa.ad lob.ad hia.ad hib.ad nle.ad nlt.ad nltt.ad nal.ad nae.ad tno.ad tnz.ad hic.aad hie.aad nsw.a nse.a ltp.a tn1.a tn2.a ale.a sub0. nn." else "ev_at.cq evl_at.cq evl_cons.q es_seq.q thn_next.q opb_bool.q es_nil.q thn_ret.q upd_ex.cq post_ret.q es_return.q es_assign.qau br_true.q br_false.q br_nt.q br_nf.q br_intro.gg op_fmod.dq ev_slice.q sub_at.ccq sub_r.cq ev_sub.q bin_at.ccq bin_r.cq ev_BinOp.q cmpb_at.ccq cmpb_r.cq evb_Cmp.q es_expr.qu evb_not.q evOr_cons.q op_fdiv.ddq cmp_eq.q evb_bool.q op_add.q int_ex.q cmp_gt.q op_mul.qm ev_neg.q evVal_and.q cmp_ne.q evOr_nil.q post_next.q ev_boolop.q cmp_le.q evAnd_cons.q cmp_at.ccq ev_Cmp.q evVal_one.q es_setitem.qu cmp_isNot.q evO_some.q evO_none.q evAnd_nil.q ev_not.q cmp_is.q cmp_lt.q ev_Cmp2.q op_sub.q trn_ret.q evb_Cmp2.q cmp_ge.q evVal_or.q evb_value.qu" ++ if t == "go1" then " es_ifc.q" else "").splitOn " ").toArray).mapM fun w =>
   let p:=w.splitOn "."
   `(tacticSeq| refine $(Lean.Syntax.mkApp (Lean.mkIdent (`Mine++p.head!.toName)) (p.getLast!.toList.map fun k=>if k == 'a' then a else if k == 'd' then d else if k == 'c' then c else if k == 'u' then u else if k == 'm' then m else if k == 'g' then g else q).toArray))
 let l ← `(tactic| first $[| $l]*)
 if b then `(tactic| first | (with_reducible first | assumption | $l:tactic | decide) | omega)
 else `(tactic| with_reducible $l:tactic)
set_option compiler.reuse true
set_option compiler.extract_closed true
set_option hygiene true
noncomputable def sg:Option Str→AV
 | some x => .str x
 | none => .none
noncomputable def voteF (xs:List (Option Str)):Option Str:=(xs.find? fun x=>x.isSome && decide (xs.length < 2 * xs.count x)).getD none
theorem sg_inj {a b:Option Str}:eqA (sg a) (sg b)=(a==b):=by
 cases a <;> cases b <;> rfl
theorem sg_plain (a:Option Str):plain (sg a)=true:=by cases a <;> rfl
theorem sgs_plain (l:List (Option Str)):plainL (l.map sg)=true:=by
 induction l with
 | nil=>rfl
 | cons a l ih=>rw [List.map_cons];unfold plainL;rw [sg_plain,ih];rfl
theorem sg_deep (a:Option Str):deep (sg a)=0:=by cases a <;> rfl
theorem sgs_deep (l:List (Option Str)):deepL (l.map sg)=0:=by
 induction l with
 | nil=>rfl
 | cons a l ih=>rw [List.map_cons];unfold deepL;rw [sg_deep,ih];rfl
theorem sgs_count (l:List (Option Str)) (a:Option Str):(l.map sg).countP (eqA · (sg a))=l.count a:=by
 rw [List.countP_map,List.count]
 congr 1
 funext b
 exact sg_inj
theorem sg_none (a:Option Str):isNoneA (sg a)=a.isNone:=by cases a <;> rfl
theorem vote_spec {Q:AV→Sto→Prop} (T:TopG g (KK g)) (hd:c.A.depth < recursionLimit) (hh:c.A.handled=none) (hu:c.A.units+20 < cLine) {xs:List (Option Str)} (hz:xs.length < 2 ^ 20) (q:Q (sg (voteF xs)) σ) :
  cal c (.ref 180) [.list (xs.map sg)] σ Q:=by
 refine cal_fn (rest:=["sign"]) (fn_vote T) (by kernel_rfl) hd rfl fun c' hsc hfn hA=>?_
 have hh':c'.A.handled=none:=by rw [hA];exact hh
 have hu':c'.A.units+8 < cLine:=by rw [hA];show c.A.units+3+8 < cLine;walk_at "rm"
 show es c' [(("signs":Str),some _),(("sign":Str),none)] (execs (_::_) c'.env) σ _
 refine es_seq (es_loop (fun l ρ' σ'=>σ'=σ∧ρ'=[(("signs":Str),some (AV.list (xs.map sg))),(("sign":Str),none)]∧∃ r:List (Option Str),l=r.map sg∧(r.find? fun x=>x.isSome && decide (xs.length < 2 * xs.count x)).getD none=voteF xs) hfn ?_ ?_ ?_)
 ·refine ev_nm (by walk_at "ctor") ?_
  exact ⟨_,iter_list hh' _,rfl,rfl,xs,rfl,rfl⟩
 ·rintro c₂ hA₂ hsc₂ hfn₂ y rest ρ₁ σ₁ ⟨rfl,rfl,r,hr,hv⟩
  rw [← hA₂] at hh' hu'
  rw [hsc] at hsc₂
  cases r with
  | nil=>cases hr
  | cons a r =>
   rw [List.map_cons] at hr
   injection hr with h1 h2
   subst h1;subst h2
   refine upd_ex (by walk_at "ctor") ?_
   have hcnt:xs.count a < 2 ^ 20:=Nat.lt_of_le_of_lt List.count_le_length hz
   walk_at "go"
   ·refine ev_meth F.plainAttrs_list F.slot_list_count F.type_list_count ?_
    walk_at "go"
    refine ⟨.list,?_⟩
    walk_at "go"
    refine cal_count .list (sgs_plain _) (by rw [sgs_deep];exact Nat.zero_le _) (sg_plain _) hu' ?_
    rw [sgs_count]
    walk_at "go"
    (refine cb_len T (by assumption) (by rfl) ?_;walk_at "go")
    refine cal_len_list .list (by simp;walk_at "rm") ?_
    walk_at "go"
    ·rename_i h1 h2
     rw [sg_none] at h1
     simp only [decide_eq_true_eq,List.length_map] at h2
     have e:voteF xs=a:=by
      rw [← hv,List.find?_cons_of_pos]
      ·rfl
      ·cases a with
       | none=>cases h1
       | some x=>simp;exact o53 h2
     rw [e] at q;exact q
    ·rename_i h1 h2
     simp only [decide_eq_false_iff_not,List.length_map] at h2
     refine trn_next (by walk_at "ctor") ⟨rfl,rfl,r,rfl,?_⟩
     rw [← hv,List.find?_cons_of_neg]
     simp
     intro _
     exact o54 h2
   ·rename_i h1
    rw [sg_none] at h1
    refine trn_next (by walk_at "ctor") ⟨rfl,rfl,r,rfl,?_⟩
    rw [← hv,List.find?_cons_of_neg]
    cases a with
    | none=>simp
    | some x=>cases h1
 ·rintro ρ₁ σ₁ ⟨rfl,rfl,r,hr,hv⟩
  walk_at "go"
  cases r with
  | nil=>rw [← hv] at q;exact q
  | cons _ _=>cases hr
theorem blt_isi:bootBuiltins "isinstance" = some (.builtin "isinstance"):=by decide +kernel
theorem blt_str:bootBuiltins "str" = some (.type "str"):=by decide +kernel
theorem same_spec {Q:AV→Sto→Prop} (T:TopG g (KK g)) (hd:c.A.depth < recursionLimit) {x:Option Str} (q:Q (.bool true) σ) :
  cal c (.ref 310) [sg x,sg x] σ Q:=by
 refine cal_fn (rest:=[]) (fn__law_same T) (by kernel_rfl) hd rfl fun c' hsc hfn hA=>?_
 show es c' [(("_law_found":Str),some _),(("_law_due":Str),some _)] (execs (_::_) c'.env) σ _
 walk_at "go"
 ·rename_i h
  rw [h];exact q
 ·refine ev_call (T.blt (by rfl) blt_isi) (by rw [hsc];rfl) (.builtin _) ?_
  walk_at "go"
  refine ev_glob (T.blt (by rfl) blt_str) (by rw [hsc];rfl) ?_
  walk_at "go"
  cases x with
  | none=>rename_i h;cases h
  | some x =>
   refine cal_isStr ?_
   walk_at "go"
   refine cmp_eqs ?_
   walk_at "go"
   simpa using q
theorem cell_spec {Q:AV→Sto→Prop} (T:TopG g (KK g)) (hd:c.A.depth < recursionLimit) {ns:List Int} (hz:ns.length < 2 ^ 20) {k:Int} (h0:0≤k) (h1:k < 2 ^ 20) (q:Q (.int (ns.getD k.toNat 0)) σ) :
  cal c (.ref 239) [.list (ns.map .int),.int k] σ Q:=by
 refine cal_fn (rest:=[]) (fn__law_cell_at T) (by kernel_rfl) hd rfl fun c' hsc hfn hA=>?_
 show es c' [(("_law_script":Str),some _),(("_law_k":Str),some _)] (execs (_::_) c'.env) σ _
 walk_at "go"
 (refine cb_len T (by assumption) (by rfl) ?_;walk_at "go")
 refine cal_len_list .list (by simp;walk_at "rm") ?_
 walk_at "go"
 ·rename_i h
  simp only [decide_eq_true_eq,List.length_map] at h
  have hlt:k.toNat < ns.length:=by exact o55 h0 h1 h
  refine sub_list .list h0 (by exact o56 h0 h1) (y := .int ns[k.toNat]) (by simp [hlt]) ?_
  rw [List.getD_eq_getElem?_getD,List.getElem?_eq_getElem hlt] at q
  walk_at "go"
  exact q
 ·rename_i h
  simp only [decide_eq_false_iff_not,List.length_map] at h
  rw [List.getD_eq_getElem?_getD,List.getElem?_eq_none (by exact o57 h0 h1 h)] at q
  exact q
theorem fm_lo (a:Int) {n:Int} (h:0 < n):0≤Int.fmod a n:=by
 rw [Int.fmod_eq_emod_of_nonneg a (by exact o58 h)];exact Int.emod_nonneg a (by exact o59 h)
theorem fm_hi (a:Int) {n:Int} (h:0 < n):Int.fmod a n < n:=by
 rw [Int.fmod_eq_emod_of_nonneg a (by exact o58 h)];exact Int.emod_lt_of_pos a h
theorem letters26:∀ i,i < 26→(Str.ofString "abcdefghijklmnopqrstuvwxyz").cps[i]?=some (97+i):=by decide +kernel
theorem letter_at {i:Int} (h0:0≤i) (h1:i < 26):∃ d,(Str.ofString "abcdefghijklmnopqrstuvwxyz").cps[i.toNat]?=some d∧97≤d∧d≤122 :=
 ⟨97+i.toNat,letters26 _ (by exact o60 h0 h1),by exact o61 h0 h1,by exact o62 h0 h1⟩
noncomputable def okS (x:Str):Prop:=1≤x.length∧x.length≤8∧∀ d∈x.cps.toList,97≤d∧d≤122
theorem foldl_mem {d:Nat} (x:Array Nat):∀ (n:Nat) (acc:Array Nat),d∈(List.replicate n x).foldl (· ++ ·) acc→d∈acc∨d∈x
 | 0,acc,h => .inl h
 | n+1,acc,h=>by
  rw [List.replicate_succ,List.foldl_cons] at h
  rcases foldl_mem x n _ h with h | h
  ·exact Array.mem_append.mp h
  ·exact .inr h
theorem mul_mem {e d:Nat} {n:Int} (h:d∈(Txt.mul ⟨#[e]⟩ n).cps.toList):d=e:=by
 unfold Txt.mul at h
 split at h
 ·simp [Str.empty] at h
 ·split at h
  ·simpa using h
  ·have:=foldl_mem (d:=d) #[e] n.toNat #[] (by simpa using h)
   simpa using this
theorem mul_pos {e:Nat} {n:Int} (h:1≤n):1≤(Txt.mul ⟨#[e]⟩ n).length:=by
 unfold Txt.mul
 rw [if_neg (by exact o63 h)]
 split
 ·exact Nat.le_refl _
 ·show 1≤((List.replicate n.toNat #[e]).foldl (· ++ ·) #[]).size
  rw [foldl_cps]
  simp;exact o64 h
theorem app_ok {fl:List Str} {y:Str} (h:∀ x∈fl,okS x) (hy:okS y):∀ x∈fl++[y],okS x:=fun x hx=>by
 rcases List.mem_append.mp hx with hx | hx
 ·exact h x hx
 ·rw [List.mem_singleton.mp hx];exact hy
theorem Sto.set_set {σ:Sto} {a:Addr} {x y:AObj}:(σ.set a x).set a y=σ.set a y:=by
 funext b;unfold Sto.set;by_cases h:b=a <;> simp [h]
theorem Sto.set_del {σ:Sto} {a:Addr} {x:AObj} (h:σ a=Option.none):(σ.set a x).del a=σ:=by
 funext b;unfold Sto.set Sto.del;by_cases hb:b=a
 ·subst hb;simp [h]
 ·simp [hb]
theorem signs_spec {Q:AV→Sto→Prop} (T:TopG g (KK g)) (hd:c.A.depth < recursionLimit) (hh:c.A.handled=none) {n:Int} (q:∀ l:List Str,l.length=4→(∀ x∈l,okS x)→Q (.list (l.map .str)) σ) :
  cal c (.ref 253) [.int n] σ Q:=by
 refine cal_fn (rest:=["_law_letters", "_law_size", "_law_found", "_law_k", "_law_sign", "_law_place", "_law_ahead", "_law_behind"]) (fn__law_signs T) (by kernel_rfl) hd rfl fun c' hsc hfn hA=>?_
 have hh':c'.A.handled=none:=by rw [hA];exact hh
 show es c' [(("_law_cell":Str),some (.int n)),(("_law_letters":Str),none),(("_law_size":Str),none),(("_law_found":Str),none),(("_law_k":Str),none),(("_law_sign":Str),none),(("_law_place":Str),none),(("_law_ahead":Str),none),(("_law_behind":Str),none)] (execs (_::_) c'.env) σ _
 walk_at "go"
 have hs0:=fm_lo (n.fdiv 3) (n:=8) (by decide)
 have hs1:=fm_hi (n.fdiv 3) (n:=8) (by decide)
 generalize hsz:1+(n.fdiv 3).fmod 8=sz
 have hz0:1≤sz:=by exact o65 hs0 hs1 hsz
 have hz1:sz≤8:=by exact o66 hs0 hs1 hsz
 refine ev_list (evl_nil ⟨by decide,.inr fun a ha=>?_⟩)
 walk_at "go"
 refine es_loop (fun l ρ' σ'=>∃ fl:List Str,∃ r:List Int,(∀ x∈fl,okS x)∧l=r.map AV.int∧(∀ k∈r,0≤k∧k < 4)∧fl.length+r.length=4∧σ'=σ.set a (.lst (fl.map .str))∧ρ'=[(("_law_cell":Str),some (AV.int n)),(("_law_letters":Str),some (AV.str "abcdefghijklmnopqrstuvwxyz")),(("_law_size":Str),some (AV.int sz)),(("_law_found":Str),some (AV.obj a)),(("_law_k":Str),none),(("_law_sign":Str),none),(("_law_place":Str),none),(("_law_ahead":Str),none),(("_law_behind":Str),none)]) hfn ?_ ?_ ?_
 ·(refine cb_range T (by assumption) (by rfl) ?_;walk_at "go")
  refine cal_range1 ⟨_,iter_rng hh' (by decide) (by decide) (by decide) (by decide),[],rngL 0 4,(fun _ h=>by cases h),rfl,?_,by decide,rfl,rfl⟩
  decide
 ·rintro c₂ hA₂ hsc₂ hfn₂ y rest ρ₁ σ₁ ⟨fl,r,hok,hr,hrg,hlen,rfl,rfl⟩
  rw [hsc] at hsc₂
  cases r with
  | nil=>cases hr
  | cons k r =>
   rw [List.map_cons] at hr
   injection hr with h1 h2
   subst h1;subst h2
   obtain ⟨hk0,hk1⟩:=hrg k List.mem_cons_self
   walk_at "go"
   obtain ⟨d,hd1,l1,l2⟩:=letter_at (fm_lo (n.fdiv 24+7 * k) (n:=26) (by decide)) (fm_hi _ (by decide))
   refine sub_str (fm_lo _ (by decide)) (Int.lt_trans (fm_hi _ (by decide)) (by decide)) hd1 ?_
   walk_at "go"
   ·refine ev_meth F.plainAttrs_list F.slot_list_append F.type_list_append ?_
    walk_at "go"
    refine ⟨.objL Sto.set_self,?_⟩
    walk_at "go"
    obtain ⟨d2,hd2,l3,l4⟩:=letter_at (fm_lo (n.fdiv 24) (n:=26) (by decide)) (fm_hi _ (by decide))
    refine sub_str (fm_lo _ (by decide)) (Int.lt_trans (fm_hi _ (by decide)) (by decide)) hd2 ?_
    walk_at "go"
    refine op_muls (Nat.le_of_ble_eq_true rfl) (by exact o67 hk0 hk1) (by exact o68 hk0 hk1) ?_
    walk_at "go"
    refine cal_append Sto.set_self (by simp only [List.length_map,sizeLine_eq];walk_at "rm") ?_
    walk_at "go"
    refine trn_next (by walk_at "ctor") ⟨fl++[Txt.mul ⟨#[d2]⟩ (1+2 * k)],r,app_ok hok ⟨mul_pos (by exact o69 hk0 hk1),?_,fun x hx=>by rw [mul_mem hx];exact ⟨l3,l4⟩⟩,rfl,fun k hk=>hrg k (List.mem_cons_of_mem _ hk),?_,?_,rfl⟩
    ·have:=mul_len (x:=⟨#[d2]⟩) (n:=1+2 * k)
     have e1:(Str.mk #[d2]).length=1:=rfl
     rw [e1] at this;exact o70 hk0 hk1 this
    ·simp only [List.length_append,List.length_cons,List.length_nil] at hlen ⊢;walk_at "rm"
    ·rw [Sto.set_set,List.map_append];rfl
   ·refine op_fmod (by exact o71 hs0 hs1 hsz) ?_
    have hp0:=fm_lo (n.fdiv 5) (n:=sz) (by walk_at "rm")
    have hp1:=fm_hi (n.fdiv 5) (n:=sz) (by walk_at "rm")
    generalize (n.fdiv 5).fmod sz=pl at hp0 hp1 ⊢
    have hc0:=fm_lo n (n:=3) (by decide)
    have hc1:=fm_hi n (n:=3) (by decide)
    walk_at "go"
    obtain ⟨d2,hd2,l3,l4⟩:=letter_at (i:=sz) (by walk_at "rm") (by walk_at "rm")
    refine sub_str (by walk_at "rm") (by walk_at "rm") hd2 ?_
    walk_at "go"
    refine op_muls (Nat.le_of_ble_eq_true rfl) (by walk_at "rm") (by exact o72 hs0 hs1 hsz hp1) ?_
    have hm1:=mul_len (x:=⟨#[d2]⟩) (n:=pl)
    walk_at "go"
    obtain ⟨d3,hd3,l5,l6⟩:=letter_at (i:=sz+n.fmod 3) (by exact o73 hp0 hp1 hc0 hc1) (by exact o74 hs0 hs1 hsz hc0 hc1)
    refine sub_str (by exact o73 hp0 hp1 hc0 hc1) (by exact o75 hs0 hs1 hsz hc0 hc1) hd3 ?_
    walk_at "go"
    refine op_muls (Nat.le_of_ble_eq_true rfl) (by exact o76 hp1) (by exact o77 hs0 hs1 hsz hp0) ?_
    have hm2:=mul_len (x:=⟨#[d3]⟩) (n:=sz - 1 - pl)
    have hl1:(Str.mk #[d2]).length=1:=rfl
    have hl2:(Str.mk #[d3]).length=1:=rfl
    have hl3:(Str.mk #[d]).length=1:=rfl
    rw [hl1] at hm1
    rw [hl2] at hm2
    walk_at "go"
    refine ev_meth F.plainAttrs_list F.slot_list_append F.type_list_append ?_
    walk_at "go"
    refine ⟨.objL Sto.set_self,?_⟩
    walk_at "go"
    refine op_adds (by rw [sizeLine_eq,hl3];walk_at "rm") ?_
    walk_at "go"
    refine op_adds (by rw [sizeLine_eq,Str.length_append,hl3];exact o78 hs0 hs1 hsz hp0 hp1 hm1 hm2) ?_
    walk_at "go"
    refine cal_append Sto.set_self (by simp only [List.length_map,sizeLine_eq];walk_at "rm") ?_
    walk_at "go"
    refine trn_next (by walk_at "ctor") ⟨fl++[Txt.mul ⟨#[d2]⟩ pl++⟨#[d]⟩++Txt.mul ⟨#[d3]⟩ (sz - 1 - pl)],r,app_ok hok ⟨?_,?_,?_⟩,rfl,fun k hk=>hrg k (List.mem_cons_of_mem _ hk),?_,?_,rfl⟩
    ·rw [Str.length_append,Str.length_append,hl3];exact o79
    ·rw [Str.length_append,Str.length_append,hl3];exact o80 hs0 hs1 hsz hp0 hp1 hm1 hm2
    ·intro x hx
     have hx':x∈(Txt.mul ⟨#[d2]⟩ pl).cps.toList∨x=d∨x∈(Txt.mul ⟨#[d3]⟩ (sz - 1 - pl)).cps.toList:=by
      have e:(Txt.mul ⟨#[d2]⟩ pl++(⟨#[d]⟩:Str)++Txt.mul ⟨#[d3]⟩ (sz - 1 - pl)).cps=(Txt.mul ⟨#[d2]⟩ pl).cps ++ #[d]++(Txt.mul ⟨#[d3]⟩ (sz - 1 - pl)).cps:=rfl
      rw [e] at hx
      simpa [or_assoc] using hx
     rcases hx' with h | rfl | h
     ·rw [mul_mem h];exact ⟨l3,l4⟩
     ·exact ⟨l1,l2⟩
     ·rw [mul_mem h];exact ⟨l5,l6⟩
    ·simp only [List.length_append,List.length_cons,List.length_nil] at hlen ⊢;walk_at "rm"
    ·rw [Sto.set_set,List.map_append];rfl
 ·rintro ρ₁ σ₁ ⟨fl,r,hok,hr,hrg,hlen,rfl,rfl⟩
  cases r with
  | cons _ _=>cases hr
  | nil =>
   refine thn_next (es_one (es_ret_freeze ?_))
   walk_at "go"
   refine ⟨a,_,_,rfl,Sto.set_self,.lst _,?_⟩
   rw [Sto.set_del ha]
   exact q fl (by simpa using hlen) hok
theorem hearers_spec {Q:AV→Sto→Prop} (T:TopG g (KK g)) (hd:c.A.depth < recursionLimit) (hh:c.A.handled=none) (hu:c.A.units+20 < cLine) {h:Int} {p:List Int} (h0:0≤h) (h1:h≤64) (q:Q (.list ((hears h p).map .int)) σ) :
  cal c (.ref 144) [.int h,pth p] σ Q:=by
 refine cal_fn (rest:=[]) (fn_hearers T) (by kernel_rfl) hd rfl fun c' hsc hfn hA=>?_
 have hh':c'.A.handled=none:=by rw [hA];exact hh
 have hu':c'.A.units+10 < cLine:=by rw [hA];show c.A.units+3+10 < cLine;walk_at "rm"
 show es c' [(("hands":Str),some _),(("path":Str),some _)] (execs (_::_) c'.env) σ _
 walk_at "go"
 refine ev_filtP [(("path":Str),some (pth p))] AV.int (rngL 0 h) (fun x => !p.contains x) AV.int hsc (by rfl) (by walk_at "ctor") (by rw [rngL_len,sizeLine_eq];walk_at "rm") ?_ ?_ ?_
 ·(refine cb_range T (by assumption) (by rfl) ?_;walk_at "go")
  exact cal_range1 ⟨rfl,iter_rng hh' (by decide) (by decide) (by walk_at "rm") (by walk_at "rm")⟩
 ·intro c₂ hA₂ hsc₂ a ha
  rw [← hA₂] at hu'
  refine ⟨?_,fun _=>?_⟩
  ·walk_at "go"
   refine cmp_notin_tup (ints_plain p) (by rw [ints_deep];exact Nat.zero_le _) rfl (by walk_at "rm") ?_
   walk_at "go"
   rw [ints_any]
   exact ⟨rfl,rfl⟩
  ·walk_at "go"
   exact ⟨rfl,rfl⟩
 ·walk_at "go"
  exact q
theorem table_spec {Q:AV→Sto→Prop} (T:TopG g (KK g)) (hd:c.A.depth < recursionLimit) {n:Int} (q:∀ H M:Int,2≤H→H≤10→0≤M→M≤2→(M=2→H≤8)→Q (.tup [.int H,.int M]) σ) :
  cal c (.ref 260) [.int n] σ Q:=by
 refine cal_fn (rest:=["_law_most"]) (fn__law_table T) (by kernel_rfl) hd rfl fun c' hsc hfn hA=>?_
 show es c' [(("_law_cell":Str),some _),(("_law_most":Str),none)] (execs (_::_) c'.env) σ _
 walk_at "go"
 refine ev_list ?_
 walk_at "go"
 refine ⟨by decide,.inl ?_⟩
 walk_at "go"
 have hr0:=fm_lo n (n:=6) (by decide)
 have hr1:=fm_hi n (n:=6) (by decide)
 obtain ⟨m,hm,hmem⟩:∃ m:Int,([AV.int 1,.int 2,.int 0,.int 1,.int 2,.int 2]:List AV)[(n.fmod 6).toNat]?=some (.int m)∧(m=0∨m=1∨m=2):=by
  generalize n.fmod 6=r at hr0 hr1
  have:r=0∨r=1∨r=2∨r=3∨r=4∨r=5:=by walk_at "rm"
  rcases this with rfl | rfl | rfl | rfl | rfl | rfl
  ·exact ⟨1,rfl,by decide⟩
  ·exact ⟨2,rfl,by decide⟩
  ·exact ⟨0,rfl,by decide⟩
  ·exact ⟨1,rfl,by decide⟩
  ·exact ⟨2,rfl,by decide⟩
  ·exact ⟨2,rfl,by decide⟩
 refine sub_list (y := .int m) .list hr0 (by walk_at "rm") hm ?_
 walk_at "go"
 refine ev_tuple ?_
 walk_at "go"
 refine ev_list ?_
 walk_at "go"
 refine ⟨by decide,.inl ?_⟩
 walk_at "go"
 obtain ⟨d,hdm,hd1,hd2,hd3⟩:∃ d:Int,([AV.int 9,.int 9,.int 7]:List AV)[m.toNat]?=some (.int d)∧0 < d∧d≤9∧(m=2→d=7):=by
  rcases hmem with rfl | rfl | rfl
  ·exact ⟨9,rfl,by decide,by decide,by decide⟩
  ·exact ⟨9,rfl,by decide,by decide,by decide⟩
  ·exact ⟨7,rfl,by decide,by decide,by decide⟩
 refine sub_list (y := .int d) .list (by walk_at "rm") (by walk_at "rm") hdm ?_
 refine op_fmod (by exact o81 hd1 hd2) ?_
 have hx0:=fm_lo (n.fdiv 6) (n:=d) (by walk_at "rm")
 have hx1:=fm_hi (n.fdiv 6) (n:=d) (by walk_at "rm")
 walk_at "go"
 refine ⟨sz,?_⟩
 walk_at "go"
 exact q _ _ (by exact o82 hx0) (by exact o83 hd1 hd2 hx1) (by walk_at "rm") (by walk_at "rm") (fun e=>by have:=hd3 e;exact o84 hx0 hx1 this)
noncomputable def nexts (h:Int) (P:List (List Int)):List (List Int):=P.flatMap fun p=>(hears h p).map fun x=>p++[x]
noncomputable def pathsN (h:Int):Nat→List (List Int)
 | 0=>[[0]]
 | n+1=>nexts h (pathsN h n)
theorem hears_len (h:Int) (p:List Int):(hears h p).length≤h.toNat:=by
 have:=List.length_filter_le (fun x => !p.contains x) (rngL 0 h)
 rw [rngL_len] at this
 simpa [hears] using this
theorem nexts_len {h:Int} (hh:h≤10) (P:List (List Int)):(nexts h P).length≤10 * P.length:=by
 induction P with
 | nil=>simp [nexts]
 | cons p r ih =>
  have e:nexts h (p::r)=((hears h p).map fun x=>p++[x])++nexts h r:=by simp [nexts]
  rw [e,List.length_append,List.length_map,List.length_cons]
  have:=hears_len h p
  walk_at "rm"
theorem pathsN_len {h:Int} (hh:h≤10):∀ n,(pathsN h n).length≤10 ^ n
 | 0=>by simp [pathsN]
 | n+1=>by
  have:=nexts_len hh (pathsN h n)
  have:=pathsN_len hh n
  show (nexts h (pathsN h n)).length≤_
  walk_at "rm"
theorem pathsN_size {h:Int}:∀ n,∀ p∈pathsN h n,p.length=n+1
 | 0,p,hp=>by simp [pathsN] at hp;subst hp;rfl
 | n+1,p,hp=>by
  simp only [pathsN,nexts,List.mem_flatMap,List.mem_map] at hp
  obtain ⟨r,hr,x,_,rfl⟩:=hp
  rw [List.length_append,pathsN_size n r hr];rfl
theorem nexts_flat (h:Int) (P:List (List Int)):(P.map fun p=>(hears h p).map fun x=>pth (p++[x])).flatten=(nexts h P).map pth:=by
 induction P with
 | nil=>rfl
 | cons p r ih =>
  have e:nexts h (p::r)=((hears h p).map fun x=>p++[x])++nexts h r:=by simp [nexts]
  rw [List.map_cons,List.flatten_cons,ih,e,List.map_append,List.map_map]
  rfl
noncomputable def lpaths (h:Int) (n:Int):List (List Int):=(pathsN h (min n (h - 1) - 1).toNat).filter fun p=>((p.length:Int)==n)
theorem paths_spec {Q:AV→Sto→Prop} (T:TopG g (KK g)) (hd:c.A.depth < recursionLimit) (hh:c.A.handled=none) (hu:c.A.units+20 < cLine) {h n:Int} (h0:0≤h) (h1:h≤10) (n0:0≤n) (n1:n≤3) (q:Q (.list ((lpaths h n).map pth)) σ) :
  cal c (.ref 265) [.int h,.int n] σ Q:=by
 refine cal_fn (rest:=["_law_found", "_law_turn"]) (fn__law_paths T) (by kernel_rfl) hd rfl fun c' hsc hfn hA=>?_
 have hh':c'.A.handled=none:=by rw [hA];exact hh
 have hu':c'.A.units+10 < cLine:=by rw [hA];show c.A.units+3+10 < cLine;walk_at "rm"
 show es c' [(("_law_hands_here":Str),some _),(("_law_size":Str),some _),(("_law_found":Str),none),(("_law_turn":Str),none)] (execs (_::_) c'.env) σ _
 walk_at "go"
 refine ev_list (evl_cons (ev_tuple ?_))
 walk_at "go"
 refine ⟨by decide,?_⟩
 walk_at "go"
 refine ⟨by decide,.inl ?_⟩
 walk_at "go"
 have hN:(min n (h - 1) - 1).toNat≤2:=by walk_at "rm"
 generalize hNe:min n (h - 1) - 1=N at hN
 refine es_loop (fun l ρ' σ'=>σ'=σ∧∃ j:Nat,∃ r:List Int,l=r.map AV.int∧j+r.length=N.toNat∧ρ'=[(("_law_hands_here":Str),some (AV.int h)),(("_law_size":Str),some (AV.int n)),(("_law_found":Str),some (AV.list ((pathsN h j).map pth))),(("_law_turn":Str),none)]) hfn ?_ ?_ ?_
 ·(refine cb_range T (by assumption) (by rfl) ?_;walk_at "go")
  (refine cb_min T (by assumption) (by rfl) ?_;walk_at "go")
  refine cal_min hh' ?_
  walk_at "go"
  rw [hNe]
  exact cal_range1 ⟨_,iter_rng hh' (by decide) (by decide) (by walk_at "rm") (by exact o85 hN),rfl,0,rngL 0 N,rfl,by rw [rngL_len];walk_at "rm", rfl⟩
 ·rintro c₂ hA₂ hsc₂ hfn₂ y rest ρ₁ σ₂ ⟨rfl,j,r,hr,hj,rfl⟩
  rw [hsc] at hsc₂
  rw [← hA₂] at hh' hu'
  cases r with
  | nil=>cases hr
  | cons k r =>
   rw [List.map_cons] at hr
   injection hr with e1 e2
   subst e1;subst e2
   have hjl:=pathsN_len h1 j
   have hj2:10 ^ j≤10 ^ 2:=Nat.pow_le_pow_right (by decide) (by simp at hj;exact o86 hN hj)
   have hjl':=pathsN_len h1 (j+1)
   have hj3:10 ^ (j+1)≤10 ^ 2:=Nat.pow_le_pow_right (by decide) (by simp at hj;exact o87 hN hj)
   walk_at "go"
   (refine cb_sum T (by assumption) (by rfl) ?_;walk_at "go")
   refine ev_mapCP [(("_law_hands_here":Str),some (AV.int h))] pth (pathsN h j) (fun p=>AV.list ((hears h p).map fun x=>pth (p++[x]))) hsc₂ (by rfl) (by walk_at "ctor") (by rw [sizeLine_eq];walk_at "rm") ?_ ?_ ?_
   ·walk_at "go"
    exact ⟨rfl,iter_list hh' _⟩
   ·intro c₃ hA₃ hsc₃ p hp
    rw [← hA₃] at hh' hu'
    refine ev_filtP [(("_law_path":Str),some (pth p))] AV.int (rngL 0 h) (fun x => !p.contains x) (fun x=>pth (p++[x])) hsc₃ (by rfl) (by walk_at "ctor") (by rw [rngL_len,sizeLine_eq];walk_at "rm") ?_ ?_ ?_
    ·(refine cb_range T (by assumption) (by rfl) ?_;walk_at "go")
     exact cal_range1 ⟨rfl,iter_rng hh' (by decide) (by decide) (by walk_at "rm") (by walk_at "rm")⟩
    ·intro c₄ hA₄ hsc₄ a ha
     rw [← hA₄] at hu'
     have hps:=pathsN_size j p hp
     refine ⟨?_,fun _=>?_⟩
     ·walk_at "go"
      refine cmp_notin_tup (ints_plain p) (by rw [ints_deep];exact Nat.zero_le _) rfl (by walk_at "rm") ?_
      walk_at "go"
      rw [ints_any]
      exact ⟨rfl,rfl⟩
     ·walk_at "go"
      refine ev_tuple ?_
      walk_at "go"
      refine ⟨sz,?_⟩
      refine op_addt ?_ (by simp) (by simp [sizeLine_eq];simp at hj;exact o88 hN hj hps) ?_
      ·intro e
       have:=congrArg List.length e
       simp at this
       subst this
       cases hps
      ·refine ⟨?_,rfl⟩
       show AV.tup _=AV.tup _
       rw [List.map_append];rfl
    ·exact ⟨rfl,rfl⟩
   ·walk_at "go"
    refine ev_list ?_
    walk_at "go"
    refine ⟨by decide,.inl ?_⟩
    walk_at "go"
    have e:=nexts_flat h (pathsN h j)
    have em:(pathsN h j).map (fun p=>AV.list ((hears h p).map fun x=>pth (p++[x])))=((pathsN h j).map fun p=>(hears h p).map fun x=>pth (p++[x])).map AV.list:=by rw [List.map_map];rfl
    rw [em]
    refine cal_sumL hh' (by rw [e,List.length_map,sizeLine_eq];show (pathsN h (j+1)).length≤_;walk_at "rm") ?_
    rw [e,show nexts h (pathsN h j)=pathsN h (j+1) from rfl]
    walk_at "go"
    exact trn_next (by walk_at "ctor") ⟨rfl,j+1,r,rfl,by simp at hj;walk_at "rm", rfl⟩
 ·rintro ρ₁ σ₂ ⟨rfl,j,r,hr,hj,rfl⟩
  have hr0:r=[]:=by cases r with | nil=>rfl | cons _ _=>cases hr
  subst hr0
  have hjN:j=N.toNat:=by simpa using hj
  subst hjN
  have hjl:=pathsN_len h1 N.toNat
  have hj2:10 ^ N.toNat≤10 ^ 2:=Nat.pow_le_pow_right (by decide) hN
  walk_at "go"
  refine ev_filtP [(("_law_size":Str),some (AV.int n))] pth (pathsN h N.toNat) (fun p=>(p.length:Int)==n) pth hsc (by rfl) (by walk_at "ctor") (by rw [sizeLine_eq];walk_at "rm") ?_ ?_ ?_
  ·walk_at "go"
   exact ⟨rfl,iter_list hh' _⟩
  ·intro c₃ hA₃ hsc₃ p hp
   have hps:=pathsN_size _ p hp
   refine ⟨?_,fun _=>?_⟩
   ·walk_at "go"
    (refine cb_len T (by assumption) (by rfl) ?_;walk_at "go")
    refine cal_len_tup (by simp;exact o89 hN hps) ?_
    walk_at "go"
    rw [List.length_map]
    exact ⟨rfl,rfl⟩
   ·walk_at "go"
    exact ⟨rfl,rfl⟩
  ·walk_at "go"
   subst hNe
   exact q
theorem sub_len:∀ {l m:List Int},l.Nodup→(∀ x∈l,x∈m)→l.length≤m.length
 | [],_,_,_=>Nat.zero_le _
 | a::l,m,hn,hs=>by
  obtain ⟨h1,h2⟩:=List.nodup_cons.mp hn
  have ha:=hs a List.mem_cons_self
  have:=sub_len (l:=l) (m:=m.erase a) h2 fun x hx=>(List.mem_erase_of_ne (by rintro rfl;exact h1 hx)).mpr (hs x (List.mem_cons_of_mem _ hx))
  rw [List.length_erase_of_mem ha] at this
  have hp:=List.length_pos_of_mem ha
  rw [List.length_cons];walk_at "rm"
theorem mem_hears {h:Int} {p:List Int} {x:Int}:x∈hears h p↔(0≤x∧x < h)∧x∉p:=by
 unfold hears
 rw [List.mem_filter,mem_rngL]
 simp
theorem mem_nexts {h:Int} {P:List (List Int)} {q:List Int}:q∈nexts h P↔∃ p∈P,∃ x∈hears h p,q=p++[x]:=by
 simp only [nexts,List.mem_flatMap,List.mem_map]
 constructor
 ·rintro ⟨p,hp,x,hx,rfl⟩;exact ⟨p,hp,x,hx,rfl⟩
 ·rintro ⟨p,hp,x,hx,rfl⟩;exact ⟨p,hp,x,hx,rfl⟩
theorem pathsN_ok {h:Int} (h0:0 < h):∀ n,∀ p∈pathsN h n,p.Nodup∧(∀ x∈p,0≤x∧x < h)∧p.head?=some 0
 | 0,p,hp=>by simp [pathsN] at hp;subst hp;exact ⟨by simp,by simp;walk_at "rm", rfl⟩
 | n+1,p,hp=>by
  obtain ⟨r,hr,x,hx,rfl⟩:=mem_nexts.mp hp
  obtain ⟨h1,h2,h3⟩:=pathsN_ok h0 n r hr
  obtain ⟨hx1,hx2⟩:=mem_hears.mp hx
  refine ⟨?_,?_,?_⟩
  ·rw [List.nodup_append]
   refine ⟨h1,by simp,fun a ha b hb=>?_⟩
   rw [List.mem_singleton.mp hb]
   rintro rfl;exact hx2 ha
  ·intro y hy
   rcases List.mem_append.mp hy with hy | hy
   ·exact h2 y hy
   ·rw [List.mem_singleton.mp hy];exact hx1
  ·cases r with
   | nil=>cases h3
   | cons a t=>exact h3
theorem rngL_nodup (a b:Int):(rngL a b).Nodup:=by
 unfold rngL
 refine List.Pairwise.map _ (fun x y h=>?_) (List.nodup_range (n:=(b - a).toNat))
 show (a+(x:Int))≠a+(y:Int)
 walk_at "rm"
theorem hears_nodup (h:Int) (p:List Int):(hears h p).Nodup:=List.Pairwise.filter _ (rngL_nodup 0 h)
theorem nexts_nodup {h:Int} {P:List (List Int)} (hP:P.Nodup):(nexts h P).Nodup:=by
 unfold nexts
 refine List.pairwise_flatMap.mpr ⟨fun p _=>?_,hP.imp fun {p q} hpq x hx y hy=>?_⟩
 ·refine List.Pairwise.map _ (fun x y hxy=>?_) (hears_nodup h p)
  intro e
  exact hxy (by simpa using e)
 ·obtain ⟨a,_,rfl⟩:=List.mem_map.mp hx
  obtain ⟨b,_,rfl⟩:=List.mem_map.mp hy
  intro e
  exact hpq (List.append_inj' e rfl).1
theorem pathsN_nodup (h:Int):∀ n,(pathsN h n).Nodup
 | 0=>by simp [pathsN]
 | n+1=>nexts_nodup (pathsN_nodup h n)
theorem mem_lpaths {h n:Int} (h2:2≤h) (n1:1≤n) {p:List Int}:p∈lpaths h n↔n≤h - 1∧p∈pathsN h (n - 1).toNat:=by
 unfold lpaths
 rw [List.mem_filter]
 constructor
 ·rintro ⟨hp,hl⟩
  have hs:=pathsN_size _ p hp
  have hl':(p.length:Int)=n:=by simpa using hl
  have:n≤h - 1:=by walk_at "rm"
  rw [show min n (h - 1)=n by walk_at "rm"] at hp
  exact ⟨this,hp⟩
 ·rintro ⟨hn,hp⟩
  rw [show min n (h - 1)=n by walk_at "rm"]
  have hs:=pathsN_size _ p hp
  refine ⟨hp,?_⟩
  simp only [beq_iff_eq]
  exact o90 n1 hs
noncomputable def dom (h most hand:Int) (ss:List Int):List (List Int):=(ss.flatMap (lpaths h)).filter fun p => !p.contains hand
theorem lpaths_size {h n:Int} {p:List Int} (hp:p∈lpaths h n):(p.length:Int)=n:=by
 unfold lpaths at hp
 have:=(List.mem_filter.mp hp).2
 simpa using this
theorem lpaths_len {h n:Int} (h1:h≤10) (n1:n≤3):(lpaths h n).length≤100:=by
 unfold lpaths
 have:=List.length_filter_le (fun p:List Int=>((p.length:Int)==n)) (pathsN h (min n (h - 1) - 1).toNat)
 have h2:=pathsN_len h1 (min n (h - 1) - 1).toNat
 have h3:10 ^ (min n (h - 1) - 1).toNat≤10 ^ 2:=Nat.pow_le_pow_right (by decide) (by walk_at "rm")
 walk_at "rm"
theorem dom_nodup {h most hand:Int} {ss:List Int} (hs:ss.Nodup):(dom h most hand ss).Nodup:=by
 refine List.Pairwise.filter _ (List.pairwise_flatMap.mpr ⟨fun n _=>List.Pairwise.filter _ (pathsN_nodup _ _),hs.imp fun {a b} hab x hx y hy e=>?_⟩)
 subst e
 exact hab ((lpaths_size hx).symm.trans (lpaths_size hy))
theorem mem_dom {h most hand:Int} {p:List Int} (h2:2≤h):p∈dom h most hand (rngL 1 (most+2))↔∃ n:Int,1≤n∧n≤most+1∧n≤h - 1∧p∈pathsN h (n - 1).toNat∧hand∉p:=by
 unfold dom
 rw [List.mem_filter,List.mem_flatMap]
 constructor
 ·rintro ⟨⟨n,hn,hp⟩,hh⟩
  rw [mem_rngL] at hn
  obtain ⟨a,b⟩:=(mem_lpaths h2 hn.1).mp hp
  exact ⟨n,hn.1,by exact o91 hn,a,b,by simpa using hh⟩
 ·rintro ⟨n,h1,h2',h3,h4,h5⟩
  exact ⟨⟨n,mem_rngL.mpr ⟨h1,by exact o92 h2'⟩,(mem_lpaths h2 h1).mpr ⟨h3,h4⟩⟩,by simpa using h5⟩
theorem dom_next {h most hand:Int} {p:List Int} (h2:2≤h) (hh0:0≤hand) (hh1:hand < h) (hp:p∈dom h most hand (rngL 1 (most+2))) (hl:(p.length:Int)≤most) {x:Int} (hx:x∈hears h p) (hxh:x≠hand):p++[x]∈dom h most hand (rngL 1 (most+2)):=by
 obtain ⟨n,n1,n2,n3,hp',hnh⟩:=(mem_dom h2).mp hp
 have hsz:=pathsN_size _ p hp'
 have hq:p++[x]∈pathsN h ((n - 1).toNat+1):=mem_nexts.mpr ⟨p,hp',x,hx,rfl⟩
 obtain ⟨q1,q2,_⟩:=pathsN_ok (by walk_at "rm") _ _ hq
 have hnq:hand∉p++[x]:=by
  intro hm
  rcases List.mem_append.mp hm with hm | hm
  ·exact hnh hm
  ·exact hxh (List.mem_singleton.mp hm).symm
 have hlen:=sub_len (l:=hand::(p++[x])) (m:=rngL 0 h) (List.nodup_cons.mpr ⟨hnq,q1⟩) fun y hy=>by
  rcases List.mem_cons.mp hy with rfl | hy
  ·exact mem_rngL.mpr ⟨hh0,hh1⟩
  ·exact mem_rngL.mpr (q2 y hy)
 rw [List.length_cons,List.length_append,List.length_singleton,rngL_len] at hlen
 refine (mem_dom h2).mpr ⟨n+1,by walk_at "rm", by exact o93 h2 hl n1 n2 hsz,by exact o94 h2 n3 hsz hlen,?_,hnq⟩
 rw [show (n+1 - 1).toNat=(n - 1).toNat+1 by exact o95 h2 n1]
 exact hq
theorem dom_zero {h most hand:Int} (h2:2≤h) (hm:0≤most) (hh:0 < hand):[0]∈dom h most hand (rngL 1 (most+2)) :=
 (mem_dom h2).mpr ⟨1,by walk_at "rm", by walk_at "rm", by exact o96 h2,by simp [pathsN],by simp;exact o59 hh⟩
theorem dom_ne {h most hand:Int} {p:List Int} (h2:2≤h) (hp:p∈dom h most hand (rngL 1 (most+2))):p≠[]:=by
 obtain ⟨n,_,_,_,hp',_⟩:=(mem_dom h2).mp hp
 have:=pathsN_size _ p hp'
 rintro rfl;cases this
theorem part_len {α:Type} (f:α→Bool):∀ l:List α,(l.filter f).length+(l.filter fun x => !f x).length=l.length
 | []=>rfl
 | a::l=>by
  have ih:=part_len f l
  cases h:f a <;> simp [h] <;> omega
theorem hears_cnt {h:Int} {p:List Int} (hn:p.Nodup) (hs:∀ x∈p,0≤x∧x < h):(hears h p).length+p.length=h.toNat:=by
 have h1:=part_len (fun x => !p.contains x) (rngL 0 h)
 rw [rngL_len,Int.sub_zero] at h1
 have h2:((rngL 0 h).filter fun x => !(!p.contains x)).length=p.length:=by
  refine Nat.le_antisymm (sub_len (List.Pairwise.filter _ (rngL_nodup 0 h)) fun x hx=>?_) (sub_len hn fun x hx=>?_)
  ·simpa using (List.mem_filter.mp hx).2
  ·exact List.mem_filter.mpr ⟨mem_rngL.mpr (hs x hx),by simpa using hx⟩
 rw [← h1,h2];rfl
noncomputable def rnd (h:Int) (k:Nat):List (List Int):=(pathsN h k).filter fun p=>decide (0 < (hears h p).length)
theorem rnd_eq {h n:Int} (h2:2≤h) (n1:1≤n):rnd h (n - 1).toNat=lpaths h n:=by
 unfold rnd lpaths
 by_cases hn:n≤h - 1
 ·rw [show min n (h - 1)=n by walk_at "rm"]
  rw [List.filter_eq_self.mpr,List.filter_eq_self.mpr]
  ·intro p hp
   have:=pathsN_size _ p hp
   simp only [beq_iff_eq];exact o90 n1 this
  ·intro p hp
   obtain ⟨a,b,_⟩:=pathsN_ok (by walk_at "rm") _ p hp
   have h1:=hears_cnt a b
   have h2:=pathsN_size _ p hp
   simp only [decide_eq_true_eq];walk_at "rm"
 ·rw [List.filter_eq_nil_iff.mpr,List.filter_eq_nil_iff.mpr]
  ·intro p hp
   have:=pathsN_size _ p hp
   simp only [beq_iff_eq];walk_at "rm"
  ·intro p hp
   obtain ⟨a,b,_⟩:=pathsN_ok (by walk_at "rm") _ p hp
   have h1:=hears_cnt a b
   have h2:=pathsN_size _ p hp
   simp only [decide_eq_true_eq];exact o97 (by assumption) n1 hn h1 h2
theorem nexts_rnd (h:Int) (P:List (List Int)):nexts h (P.filter fun p=>decide (0 < (hears h p).length))=nexts h P:=by
 induction P with
 | nil=>rfl
 | cons p r ih =>
  have e:∀ r',nexts h (p::r')=((hears h p).map fun x=>p++[x])++nexts h r':=fun r'=>by simp [nexts]
  cases hp:decide (0 < (hears h p).length) with
  | true=>rw [List.filter_cons_of_pos (by simpa using hp),e,e,ih]
  | false =>
   rw [List.filter_cons_of_neg (by simpa using hp),e,ih]
   have:hears h p=[]:=by
    simp only [decide_eq_false_iff_not] at hp
    exact List.length_eq_zero_iff.mp (by exact o98 hp)
   rw [this];rfl
noncomputable def rnds (h:Int) (m:Nat):List (List Int):=(List.range m).flatMap (rnd h)
theorem rnds_succ (h:Int) (m:Nat):rnds h (m+1)=rnds h m++rnd h m:=by
 unfold rnds;rw [List.range_succ,List.flatMap_append];simp
theorem rnds_of {h:Int}:∀ {m:Nat} {n:Int},1≤n→((rnds h m).filter fun p=>((p.length:Int)==n))=if n≤m then rnd h (n - 1).toNat else []
 | 0,n,n1=>by rw [if_neg (by exact o99 n1)];rfl
 | m+1,n,n1=>by
  rw [rnds_succ,List.filter_append,rnds_of n1]
  by_cases e:n=m+1
  ·rw [if_neg (by exact o100 e),if_pos (by exact o101 e),List.nil_append,show (n - 1).toNat=m by exact o102 n1 e,List.filter_eq_self.mpr]
   intro p hp
   have:=pathsN_size _ p (List.mem_filter.mp hp).1
   simp only [beq_iff_eq];exact o103 e this
  ·have e2:(rnd h m).filter (fun p=>((p.length:Int)==n))=[]:=by
    rw [List.filter_eq_nil_iff]
    intro p hp
    have:=pathsN_size _ p (List.mem_filter.mp hp).1
    simp only [beq_iff_eq];walk_at "rm"
   rw [e2,List.append_nil]
   by_cases h1:n≤m
   ·rw [if_pos h1,if_pos (by exact o104 h1)]
   ·rw [if_neg h1,if_neg (by walk_at "rm")]
noncomputable def ph (p:List Int):Int:=reduceHash (Builtin.Tuple.tupleHashOf (p.map hashInt))
theorem hKs_ints (w:World) (p:List Int):hKs w (p.map .int)=p.map hashInt:=by
 induction p with
 | nil=>rfl
 | cons a r ih=>rw [List.map_cons,List.map_cons];unfold hKs;rw [ih];rfl
theorem hK_pth (w:World) (p:List Int):hK w (pth p)=ph p:=by
 show reduceHash (Builtin.Tuple.tupleHashOf (hKs w (p.map .int)))=_
 rw [hKs_ints];rfl
noncomputable def ten:List Int:=(List.range 10).map Int.ofNat
noncomputable def allP:List (List Int):=[0]::(ten.map fun a=>[0,a])++ten.flatMap fun a=>ten.map fun b=>[0,a,b]
noncomputable def allH:List Int:=allP.map ph
theorem mem_ten {x:Int} (h0:0≤x) (h1:x < 10):x∈ten:=List.mem_map.mpr ⟨x.toNat,List.mem_range.mpr ((Int.toNat_lt h0).mpr h1),Int.toNat_of_nonneg h0⟩
theorem dom_allP {h most hand:Int} {p:List Int} (h2:2≤h) (h3:h≤10) (hm:most≤2) (hp:p∈dom h most hand (rngL 1 (most+2))):p∈allP:=by
 obtain ⟨n,n1,n2,n3,hp',_⟩:=(mem_dom h2).mp hp
 have hsz:=pathsN_size _ p hp'
 obtain ⟨_,q2,q3⟩:=pathsN_ok (by walk_at "rm") _ p hp'
 have hlen:p.length≤3:=by walk_at "rm"
 cases p with
 | nil=>cases q3
 | cons a p =>
  injection q3 with q3;subst q3
  cases p with
  | nil=>exact List.mem_append_left _ List.mem_cons_self
  | cons b p =>
   have hb:=q2 b (by simp)
   have hb:=mem_ten hb.1 (Int.lt_of_lt_of_le hb.2 h3)
   cases p with
   | nil=>exact List.mem_append_left _ (List.mem_cons_of_mem _ (List.mem_map.mpr ⟨b,hb,rfl⟩))
   | cons d p =>
    have hd:=q2 d (by simp)
    have hd:=mem_ten hd.1 (Int.lt_of_lt_of_le hd.2 h3)
    cases p with
    | nil=>exact List.mem_append_right _ (List.mem_flatMap.mpr ⟨b,hb,List.mem_map.mpr ⟨d,hd,rfl⟩⟩)
    | cons _ _=>simp at hlen
theorem inj_of_nodup {α β:Type} {f:α→β}:∀ {l:List α},(l.map f).Nodup→∀ x∈l,∀ y∈l,f x=f y→x=y
 | [],_,x,hx,_,_,_=>by cases hx
 | a::l,hn,x,hx,y,hy,e=>by
  rw [List.map_cons,List.nodup_cons] at hn
  by_cases hxa:x=a
  ·by_cases hya:y=a
   ·rw [hxa,hya]
   ·have hy':=(List.mem_cons.mp hy).resolve_left hya
    exact absurd (List.mem_map.mpr ⟨y,hy',by rw [← e,hxa]⟩) hn.1
  ·have hx':=(List.mem_cons.mp hx).resolve_left hxa
   by_cases hya:y=a
   ·exact absurd (List.mem_map.mpr ⟨x,hx',by rw [e,hya]⟩) hn.1
   ·exact inj_of_nodup hn.2 x hx' y ((List.mem_cons.mp hy).resolve_left hya) e
theorem allH_nodup:allH.Nodup:=by decide +kernel
theorem dom_hashes {h most hand:Int} (w:World) (h2:2≤h) (h3:h≤10) (hm:most≤2):((dom h most hand (rngL 1 (most+2))).map fun p=>hK w (pth p)).Nodup:=by
 have e:(dom h most hand (rngL 1 (most+2))).map (fun p=>hK w (pth p))=(dom h most hand (rngL 1 (most+2))).map ph:=List.map_congr_left fun p _=>hK_pth w p
 rw [e]
 refine List.pairwise_map.mpr (List.Pairwise.imp_of_mem (fun {a b} ha hb hab e=>?_) (dom_nodup (most:=most) (rngL_nodup 1 (most+2))))
 exact hab (inj_of_nodup allH_nodup a (dom_allP h2 h3 hm ha) b (dom_allP h2 h3 hm hb) e)
theorem pth_add (p:List Int) (x:Int):AV.tup (p.map AV.int++[AV.int x])=pth (p++[x]):=by unfold pth;rw [List.map_append];rfl
theorem pth_ne {p:List Int} (h:p≠[]):p.map AV.int≠[]:=by simpa using h
theorem sgs_append (S:List (Option Str)) (x:Option Str):S.map sg++[sg x]=(S++[x]).map sg:=by simp
theorem settled_spec (T:TopG g (KK g)) {h hand most:Int} {told:AV} {l:List (AV×AV)} (h0:0≤h) (h1:h≤10) (hm:most≤2) (tl:tkeys l) (D:List Int→Prop) (hD:∀ p,D p→∃ y,dget l (pth p)=some (sg y))
  (hN:∀ p,D p→(p.length:Int)≤most→∀ x∈hears h p,x≠hand→D (p++[x])) (hne:∀ p,D p→p≠[]) :
  ∀ (k:Nat) {c:Cx g} {σ:Sto} {Q:AV→Sto→Prop} {p:List Int},c.A.depth+k+2 < recursionLimit→c.A.handled=none→c.A.units+10 * k+60 < cLine→(p.length:Int)+k=most+1→D p→Dct σ told l→(∀ y,Q (sg y) σ) →
   cal c (.ref 187) [.int h,.int most,told,.int hand,pth p] σ Q:=by
 intro k
 induction k with
 | zero =>
  intro c σ Q p hd hh hu hk hp hx q
  refine cal_fn (rest:=["signs", "other"]) (fn_settled T) (by kernel_rfl) (by exact o105 hd) rfl fun c' hsc hfn hA=>?_
  have hu':c'.A.units+20 < cLine:=by rw [hA];show c.A.units+3+20 < cLine;exact o106 hu
  show es c' [(("hands":Str),some _),(("most":Str),some _),(("told":Str),some _),(("hand":Str),some _),(("path":Str),some _),(("signs":Str),none),(("other":Str),none)] (execs (_::_) c'.env) σ _
  walk_at "go"
  (refine cb_len T (by assumption) (by rfl) ?_;walk_at "go")
  refine cal_len_tup (by simp;exact o107 hm hk) ?_
  rw [List.length_map]
  walk_at "go"
  ·obtain ⟨y,hy⟩:=hD p hp
   refine sub_dict hx tl (pth_tkey p) hy (by walk_at "rm") ?_
   walk_at "go"
   exact q y
  ·rename_i hbad
   simp at hbad
   exact (o108 hk hbad).elim
 | succ k ih =>
  intro c σ Q p hd hh hu hk hp hx q
  refine cal_fn (rest:=["signs", "other"]) (fn_settled T) (by kernel_rfl) (by exact o109 hd) rfl fun c' hsc hfn hA=>?_
  have hu':c'.A.units+10 * k+60 < cLine:=by rw [hA];show c.A.units+3+10 * k+60 < cLine;exact o110 hu
  have hd':c'.A.depth+k+2 < recursionLimit:=by rw [hA];show c.A.depth+1+k+2 < _;exact o111 hd
  have hh':c'.A.handled=none:=by rw [hA];exact hh
  show es c' [(("hands":Str),some _),(("most":Str),some _),(("told":Str),some _),(("hand":Str),some _),(("path":Str),some _),(("signs":Str),none),(("other":Str),none)] (execs (_::_) c'.env) σ _
  walk_at "go"
  (refine cb_len T (by assumption) (by rfl) ?_;walk_at "go")
  refine cal_len_tup (by simp;exact o112 hm hk) ?_
  rw [List.length_map]
  walk_at "go"
  ·rename_i hbad
   simp at hbad
   exact (o113 hk hbad).elim
  refine ev_list ?_
  walk_at "go"
  obtain ⟨y0,hy0⟩:=hD p hp
  refine sub_dict hx tl (pth_tkey p) hy0 (by exact o114 hu') ?_
  walk_at "go"
  refine ⟨sz,.inr fun a ha=>?_⟩
  walk_at "go"
  have hlen:=hears_len h p
  refine es_loop (fun l ρ' σ'=>∃ (d r:List Int) (S:List (Option Str)),hears h p=d++r∧l=r.map AV.int∧S.length≤d.length+1∧σ'=σ.set a (.lst (S.map sg))∧ρ'=[(("hands":Str),some (AV.int h)),(("most":Str),some (AV.int most)),(("told":Str),some told),(("hand":Str),some (AV.int hand)),(("path":Str),some (pth p)),(("signs":Str),some (AV.obj a)),(("other":Str),none)]) hfn ?_ ?_ ?_
  ·(refine ev_callF T (by assumption) n_hearers (by rfl) k_hearers ?_;walk_at "go")
   refine hearers_spec T (by exact o115 hd') hh' (by exact o116 hu') h0 (by walk_at "rm") ?_
   exact ⟨_,iter_list hh' _,[],hears h p,[y0],rfl,rfl,Nat.le_refl _,rfl,rfl⟩
  ·rintro c₂ hA₂ hsc₂ hfn₂ y rest ρ₁ σ₂ ⟨d,r,S,hdr,hr,hS,rfl,rfl⟩
   rw [hsc] at hsc₂
   rw [← hA₂] at hh' hu' hd'
   cases r with
   | nil=>cases hr
   | cons x r =>
    rw [List.map_cons] at hr
    injection hr with e1 e2
    subst e1;subst e2
    have hxm:x∈hears h p:=by rw [hdr];simp
    have hds:d.length≤10:=by
     have:=congrArg List.length hdr
     rw [List.length_append] at this
     exact o117 h0 h1 hlen this
    walk_at "go"
    ·rename_i hxh
     (refine ev_meth F.plainAttrs_list F.slot_list_append F.type_list_append ?_;walk_at "go")
     refine ⟨.objL Sto.set_self,?_⟩
     walk_at "go"
     (refine ev_callF T (by assumption) n_settled (by rfl) k_settled ?_;walk_at "go")
     refine ev_tuple ?_
     walk_at "go"
     refine ⟨sz,?_⟩
     refine op_addt (pth_ne (hne p hp)) (by simp) (by simp [sizeLine_eq];exact o118 hm hk) ?_
     rw [pth_add]
     walk_at "go"
     refine ih hd' hh' hu' (by rw [List.length_append,List.length_singleton];exact o119 hk) (hN p hp (by exact o120 hk) x hxm (by simpa using hxh)) (hx.set ha) fun z=>?_
     walk_at "go"
     refine cal_append Sto.set_self (by rw [List.length_map,sizeLine_eq];exact o121 hS hds) ?_
     walk_at "go"
     refine trn_next (by walk_at "ctor") ⟨d++[x],r,S++[z],by rw [hdr];simp,rfl,by rw [List.length_append,List.length_append,List.length_singleton,List.length_singleton];exact o122 hS,?_,rfl⟩
     rw [Sto.set_set,sgs_append]
    ·rename_i hxh
     exact trn_next (by walk_at "ctor") ⟨d++[x],r,S,by rw [hdr];simp,rfl,by rw [List.length_append];exact o123 hS,rfl,rfl⟩
  ·rintro ρ₁ σ₂ ⟨d,r,S,hdr,hr,hS,rfl,rfl⟩
   have hr0:r=[]:=by cases r with | nil=>rfl | cons _ _=>cases hr
   subst hr0
   rw [List.append_nil] at hdr
   subst hdr
   refine thn_next ?_
   refine es_freeze Sto.set_self (.lst _) (by walk_at "ctor") ?_
   rw [Sto.set_del ha]
   walk_at "go"
   (refine ev_callF T (by assumption) n_vote (by rfl) k_vote ?_;walk_at "go")
   refine vote_spec T (by exact o115 hd') hh' (by exact o116 hu') (by exact o124 h0 h1 hlen hS) ?_
   walk_at "go"
   exact q _
theorem within_spec {Q:AV→Sto→Prop} (T:TopG g (KK g)) (hd:c.A.depth < recursionLimit) {t a b:Int} (q:Q (.bool (decide (a≤t) && decide (t≤b))) σ):cal c (.ref 106) [.int t,.int a,.int b] σ Q:=by
 refine cal_fn (rest:=[]) (fn_is_within T) (by kernel_rfl) hd rfl fun c' hsc hfn hA=>?_
 show es c' [(("thing":Str),some _),(("least":Str),some _),(("most":Str),some _)] (execs (_::_) c'.env) σ _
 walk_at "go"
 (refine cb_isinstance T (by assumption) (by rfl) ?_;walk_at "go")
 (refine ev_bltN PyProof.Rows.boot_int T (by assumption) nb_int (by rfl) ?_;walk_at "go")
 refine cal_isInt ?_
 walk_at "go"
 (refine cb_isinstance T (by assumption) (by rfl) ?_;walk_at "go")
 (refine ev_bltN PyProof.Rows.boot_bool T (by assumption) nb_bool (by rfl) ?_;walk_at "go")
 refine cal_isBool ?_
 walk_at "go"
 all_goals
  rename_i h
  simp only [h,Bool.true_and,Bool.false_and] at q ⊢
  exact q
inductive Odd:AV→Prop
 | none:Odd .none
 | str (x:Str):Odd (.str x)
 | tup (l:List AV):Odd (.tup l)
theorem within_odd {Q:AV→Sto→Prop} (T:TopG g (KK g)) (hd:c.A.depth < recursionLimit) {x:AV} (ho:Odd x) {a b:Int} (q:Q (.bool false) σ):cal c (.ref 106) [x,.int a,.int b] σ Q:=by
 refine cal_fn (rest:=[]) (fn_is_within T) (by kernel_rfl) hd rfl fun c' hsc hfn hA=>?_
 show es c' [(("thing":Str),some _),(("least":Str),some _),(("most":Str),some _)] (execs (_::_) c'.env) σ _
 walk_at "go"
 (refine cb_isinstance T (by assumption) (by rfl) ?_;walk_at "go")
 (refine ev_bltN PyProof.Rows.boot_int T (by assumption) nb_int (by rfl) ?_;walk_at "go")
 cases ho with
 | none =>
  refine cal_isNoNone (fun h=>PySem.IsiPair.NoneType_int h) ?_
  walk_at "go"
  exact q
 | str x =>
  refine cal_isNoStr (by decide) (by kernel_rfl) (by rw [isSubtype_type];kernel_rfl) ?_
  walk_at "go"
  exact q
 | tup l =>
  refine cal_isNoTup (by decide) (by kernel_rfl) (by rw [isSubtype_type];kernel_rfl) ?_
  walk_at "go"
  exact q
theorem within_bool {Q:AV→Sto→Prop} (T:TopG g (KK g)) (hd:c.A.depth < recursionLimit) {x:Bool} {a b:Int} (q:Q (.bool false) σ):cal c (.ref 106) [.bool x,.int a,.int b] σ Q:=by
 refine cal_fn (rest:=[]) (fn_is_within T) (by kernel_rfl) hd rfl fun c' hsc hfn hA=>?_
 show es c' [(("thing":Str),some _),(("least":Str),some _),(("most":Str),some _)] (execs (_::_) c'.env) σ _
 walk_at "go"
 (refine cb_isinstance T (by assumption) (by rfl) ?_;walk_at "go")
 (refine ev_bltN PyProof.Rows.boot_int T (by assumption) nb_int (by rfl) ?_;walk_at "go")
 refine cal_boolInt ?_
 walk_at "go"
 (refine cb_isinstance T (by assumption) (by rfl) ?_;walk_at "go")
 (refine ev_bltN PyProof.Rows.boot_bool T (by assumption) nb_bool (by rfl) ?_;walk_at "go")
 refine cal_boolBool ?_
 walk_at "go"
 exact q
theorem okS_ascii {x:Str} (h:okS x):x.cps.all (· < 128)=true:=by
 rw [← Array.all_toList,List.all_eq_true]
 intro d hd
 have:=h.2.2 d hd
 simp only [decide_eq_true_eq];exact o125 this
noncomputable def isL (d:Nat):Bool := !(Builtin.Str.occurrences (Str.ofString "abcdefghijklmnopqrstuvwxyz") ⟨#[d]⟩ 0 (Str.ofString "abcdefghijklmnopqrstuvwxyz").length 1).isEmpty
theorem letters_all:∀ d,d < 26→isL (97+d)=true:=by decide +kernel
noncomputable def isS (x:Str):Bool:=(decide (1≤x.length) && decide (x.length≤8)) && x.cps.toList.all isL
theorem okS_isS {x:Str} (h:okS x):isS x=true:=by
 unfold isS
 rw [decide_eq_true h.1,decide_eq_true h.2.1,Bool.and_self,Bool.true_and,List.all_eq_true]
 intro d hd
 obtain ⟨d1,d2⟩:=h.2.2 d hd
 have:=letters_all (d - 97) (by walk_at "rm")
 rwa [show 97+(d - 97)=d by walk_at "rm"] at this
theorem sign_str {Q:AV→Sto→Prop} (T:TopG g (KK g)) (hd:c.A.depth < recursionLimit) (hh:c.A.handled=none) {x:Str} (ha:x.cps.all (· < 128)=true) (hz:x.length≤100) (q:Q (.bool (isS x)) σ):cal c (.ref 111) [.str x] σ Q:=by
 refine cal_fn (rest:=[]) (fn_is_sign T) (by kernel_rfl) hd rfl fun c' hsc hfn hA=>?_
 have hh':c'.A.handled=none:=by rw [hA];exact hh
 show es c' [(("thing":Str),some _)] (execs (_::_) c'.env) σ _
 unfold isS at q
 walk_at "go"
 (refine cb_isinstance T (by assumption) (by rfl) ?_;walk_at "go")
 (refine ev_bltN PyProof.Rows.boot_str T (by assumption) nb_str (by rfl) ?_;walk_at "go")
 refine cal_isStr ?_
 walk_at "go"
 (refine cb_len T (by assumption) (by rfl) ?_;walk_at "go")
 refine cal_len_str (by walk_at "rm") ?_
 walk_at "go"
 ·rename_i e1
  replace e1:1≤x.length:=by have:=of_decide_eq_true e1;exact o126 hz this
  rw [decide_eq_true e1,Bool.true_and] at q
  (refine ev_globI T (by assumption) g_MOST_LETTERS (by rfl) ?_;walk_at "go")
  ·rename_i e
   rw [Bool.not_eq_true'] at e
   rw [decide_eq_false (by have:=of_decide_eq_false e;exact o127 hz e1 this)] at q
   exact q
  ·rename_i e
   rw [Bool.not_eq_false'] at e
   rw [decide_eq_true (by have:=of_decide_eq_true e;exact o128 hz e1 this),Bool.true_and] at q
   (refine cb_all T (by assumption) (by rfl) ?_;walk_at "go")
   refine ev_mapP [] (fun d:Nat=>AV.str ⟨#[d]⟩) x.cps.toList (fun d=>AV.bool (isL d)) hsc (by rfl) (by walk_at "ctor") ?_ ?_ ?_ ?_
   ·rw [sizeLine_eq,Array.length_toList]
    have:x.cps.size=x.length:=rfl
    exact o129 hz e1 this
   ·walk_at "go"
    exact ⟨rfl,iter_str hh' ha⟩
   ·intro c₂ hA₂ hsc₂ d hdm
    walk_at "go"
    (refine ev_globS T (by assumption) g_LETTERS (by rfl) ?_;walk_at "go")
    exact cmp_ins ⟨rfl,rfl⟩
   ·walk_at "go"
    rw [show x.cps.toList.map (fun d=>AV.bool (isL d))=(x.cps.toList.map isL).map AV.bool by rw [List.map_map];rfl]
    refine cal_all hh' ?_
    walk_at "go"
    rw [List.all_map]
    exact q
 ·rename_i e1
  rw [decide_eq_false (by have:=of_decide_eq_false e1;exact o130 hz this)] at q
  exact q
inductive NoStr:AV→Prop
 | none:NoStr .none
 | int (i:Int):NoStr (.int i)
 | bool (b:Bool):NoStr (.bool b)
 | list (l:List AV):NoStr (.list l)
theorem sign_odd {Q:AV→Sto→Prop} (T:TopG g (KK g)) (hd:c.A.depth < recursionLimit) {x:AV} (ho:NoStr x) (q:Q (.bool false) σ):cal c (.ref 111) [x] σ Q:=by
 refine cal_fn (rest:=[]) (fn_is_sign T) (by kernel_rfl) hd rfl fun c' hsc hfn hA=>?_
 show es c' [(("thing":Str),some _)] (execs (_::_) c'.env) σ _
 walk_at "go"
 (refine cb_isinstance T (by assumption) (by rfl) ?_;walk_at "go")
 (refine ev_bltN PyProof.Rows.boot_str T (by assumption) nb_str (by rfl) ?_;walk_at "go")
 cases ho with
 | none=>refine cal_isNoNone (fun h=>PySem.IsiPair.NoneType_str h) ?_;walk_at "go"; exact q
 | int i=>refine cal_isNoInt (by decide) (by kernel_rfl) (by rw [isSubtype_type];kernel_rfl) ?_;walk_at "go"; exact q
 | bool b=>refine cal_isNoBool (by decide) (by kernel_rfl) (by rw [isSubtype_type];kernel_rfl) ?_;walk_at "go"; exact q
 | list l=>refine cal_isNoList (by decide) (by kernel_rfl) (by rw [isSubtype_type];kernel_rfl) ?_;walk_at "go"; exact q
inductive BadS:AV→Prop
 | odd {x:AV}:NoStr x→BadS x
 | str {x:Str}:x.cps.all (· < 128)=true→x.length≤100→isS x=false→BadS (.str x)
theorem sign_bad {Q:AV→Sto→Prop} (T:TopG g (KK g)) (hd:c.A.depth < recursionLimit) (hh:c.A.handled=none) {x:AV} (ho:BadS x) (q:Q (.bool false) σ):cal c (.ref 111) [x] σ Q:=by
 cases ho with
 | odd ho=>exact sign_odd T hd ho q
 | str h1 h2 h3=>exact sign_str T hd hh h1 h2 (h3 ▸ q)
inductive BadH (h:Int):AV→Prop
 | odd {x:AV}:Odd x→BadH h x
 | bool (b:Bool):BadH h (.bool b)
 | int {i:Int}:¬ (0≤i∧i < h)→BadH h (.int i)
theorem within_bad {Q:AV→Sto→Prop} (T:TopG g (KK g)) (hd:c.A.depth < recursionLimit) {h:Int} {x:AV} (ho:BadH h x) (q:Q (.bool false) σ):cal c (.ref 106) [x,.int 0,.int (h - 1)] σ Q:=by
 cases ho with
 | odd ho=>exact within_odd T hd ho q
 | bool b=>exact within_bool T hd q
 | int hi =>
  refine within_spec T hd ?_
  rename_i i
  by_cases h0:0≤i
  ·rw [decide_eq_true h0,decide_eq_false (show ¬ i≤h - 1 by walk_at "rm")];exact q
  ·rw [decide_eq_false h0];exact q
theorem needTable_spec {Q:AV→Sto→Prop} (T:TopG g (KK g)) (hd:c.A.depth+1 < recursionLimit) {h m:Int} (h0:2≤h) (h1:h≤10) (m0:0≤m) (m1:m≤2) (q:Q .none σ):cal c (.ref 118) [.int h,.int m] σ Q:=by
 refine cal_fn (rest:=[]) (fn_need_table T) (by kernel_rfl) (by walk_at "rm") rfl fun c' hsc hfn hA=>?_
 have hd':c'.A.depth < recursionLimit:=by rw [hA];exact hd
 show es c' [(("hands":Str),some _),(("most":Str),some _)] (execs (_::_) c'.env) σ _
 walk_at "go"
 (refine ev_callF T (by assumption) n_is_within (by rfl) k_is_within ?_;walk_at "go")
 (refine ev_globI T (by assumption) g_LEAST_HANDS (by rfl) ?_;walk_at "go")
 (refine ev_globI T (by assumption) g_MOST_HANDS (by rfl) ?_;walk_at "go")
 refine within_spec T hd' ?_
 rw [decide_eq_true h0,decide_eq_true h1,Bool.and_self]
 walk_at "go"
 (refine ev_callF T (by assumption) n_is_within (by rfl) k_is_within ?_;walk_at "go")
 (refine ev_globI T (by assumption) g_MOST_LIARS (by rfl) ?_;walk_at "go")
 refine within_spec T hd' ?_
 rw [decide_eq_true m0,decide_eq_true m1,Bool.and_self]
 walk_at "go"
 exact q
theorem needSign_spec {Q:AV→Sto→Prop} (T:TopG g (KK g)) (hd:c.A.depth+1 < recursionLimit) (hh:c.A.handled=none) {x:Str} (hx:okS x) (q:Q .none σ):cal c (.ref 125) [.str x] σ Q:=by
 refine cal_fn (rest:=[]) (fn_need_sign T) (by kernel_rfl) (by walk_at "rm") rfl fun c' hsc hfn hA=>?_
 have hd':c'.A.depth < recursionLimit:=by rw [hA];exact hd
 have hh':c'.A.handled=none:=by rw [hA];exact hh
 show es c' [(("thing":Str),some _)] (execs (_::_) c'.env) σ _
 walk_at "go"
 (refine ev_callF T (by assumption) n_is_sign (by rfl) k_is_sign ?_;walk_at "go")
 refine sign_str T hd' hh' (okS_ascii hx) (by have:=hx.2.1;walk_at "rm") ?_
 rw [okS_isS hx]
 walk_at "go"
 exact q
theorem needHand_spec {Q:AV→Sto→Prop} (T:TopG g (KK g)) (hd:c.A.depth+1 < recursionLimit) {h x:Int} (h0:0≤x) (h1:x < h) (q:Q .none σ):cal c (.ref 132) [.int h,.int x] σ Q:=by
 refine cal_fn (rest:=[]) (fn_need_hand T) (by kernel_rfl) (by walk_at "rm") rfl fun c' hsc hfn hA=>?_
 have hd':c'.A.depth < recursionLimit:=by rw [hA];exact hd
 show es c' [(("hands":Str),some _),(("thing":Str),some _)] (execs (_::_) c'.env) σ _
 walk_at "go"
 (refine ev_callF T (by assumption) n_is_within (by rfl) k_is_within ?_;walk_at "go")
 refine within_spec T hd' ?_
 rw [decide_eq_true h0,decide_eq_true (show x≤h - 1 by exact o131 h1),Bool.and_self]
 walk_at "go"
 exact q
noncomputable def LV (v:AV) (l:List AV):Prop:=v = .list l∨v = .tup l
theorem LV.iter {v:AV} {l:List AV} (h:LV v l) (hh:c.A.handled=none):Iter c v l:=by
 rcases h with rfl | rfl
 ·exact iter_list hh _
 ·exact iter_tup hh _
theorem cal_listV {Q:AV→Sto→Prop} {v:AV} {l:List AV} (h:LV v l) (hz:l.length≤100) (q:Made Q l σ):cal c (.type "list") [v] σ Q:=by
 have hz':l.length≤sizeLine:=by rw [sizeLine_eq];walk_at "rm"
 rcases h with rfl | rfl
 ·exact cal_list .list hz' q
 ·exact cal_listT hz' q
theorem ints_anyF {p:List Int} {x:Int} (h:x∉p):(p.map AV.int).any (eqA · (.int x))=false:=by rw [ints_any];simpa using h
theorem needLiars_spec {Q:AV→Sto→Prop} (T:TopG g (KK g)) (hd:c.A.depth+2 < recursionLimit) (hh:c.A.handled=none) (hu:c.A.units+20 < cLine) {h:Int} {L:List Int} (hn:L.Nodup) (hL:∀ x∈L,0≤x∧x < h) (hz:L.length≤100) {v:AV} (hv:LV v (L.map .int)) (q:Q .none σ) :
  cal c (.ref 139) [.int h,v] σ Q:=by
 refine cal_fn (rest:=["found", "hand"]) (fn_need_liars T) (by kernel_rfl) (by walk_at "rm") rfl fun c' hsc hfn hA=>?_
 have hd':c'.A.depth+1 < recursionLimit:=by rw [hA];exact hd
 have hh':c'.A.handled=none:=by rw [hA];exact hh
 have hu':c'.A.units+10 < cLine:=by rw [hA];show c.A.units+3+10 < cLine;walk_at "rm"
 show es c' [(("hands":Str),some _),(("liars":Str),some _),(("found":Str),none),(("hand":Str),none)] (execs (_::_) c'.env) σ _
 walk_at "go"
 refine ev_list (evl_nil ⟨by decide,.inr fun a ha=>?_⟩)
 walk_at "go"
 refine es_loop (fun l ρ' σ'=>∃ d r:List Int,L=d++r∧l=r.map AV.int∧σ'=σ.set a (.lst (d.map .int))∧ρ'=[(("hands":Str),some (AV.int h)),(("liars":Str),some v),(("found":Str),some (AV.obj a)),(("hand":Str),none)]) hfn ?_ ?_ ?_
 ·walk_at "go"
  exact ⟨_,hv.iter hh',[],L,rfl,rfl,rfl,rfl⟩
 ·rintro c₂ hA₂ hsc₂ hfn₂ y rest ρ₁ σ₁ ⟨d,r,hdr,hr,rfl,rfl⟩
  rw [hsc] at hsc₂
  rw [← hA₂] at hd' hh' hu'
  cases r with
  | nil=>cases hr
  | cons x r =>
   rw [List.map_cons] at hr
   injection hr with e1 e2
   subst e1;subst e2
   obtain ⟨x0,x1⟩:=hL x (by rw [hdr];simp)
   have hnx:x∉d:=by
    rw [hdr] at hn
    exact fun hm=>(List.nodup_append.mp hn).2.2 x hm x (List.mem_cons_self) rfl
   have hdl:d.length≤100:=by rw [hdr,List.length_append] at hz;walk_at "rm"
   walk_at "go"
   (refine ev_callF T (by assumption) n_need_hand (by rfl) k_need_hand ?_;walk_at "go")
   refine needHand_spec T hd' x0 x1 ?_
   walk_at "go"
   refine cmp_in_list (.obj Sto.set_self) (ints_plain d) (by rw [ints_deep];exact Nat.zero_le _) rfl (by walk_at "rm") ?_
   rw [ints_anyF hnx]
   walk_at "go"
   (refine ev_meth F.plainAttrs_list F.slot_list_append F.type_list_append ?_;walk_at "go")
   refine ⟨.objL Sto.set_self,?_⟩
   walk_at "go"
   refine cal_append Sto.set_self (by rw [List.length_map,sizeLine_eq];walk_at "rm") ?_
   walk_at "go"
   refine trn_next (by walk_at "ctor") ⟨d++[x],r,by rw [hdr];simp,rfl,?_,rfl⟩
   rw [Sto.set_set,List.map_append];rfl
 ·rintro ρ₁ σ₁ ⟨d,r,hdr,hr,rfl,rfl⟩
  have hr0:r=[]:=by cases r with | nil=>rfl | cons _ _=>cases hr
  subst hr0
  refine thn_next ?_
  refine es_freeze Sto.set_self (.lst _) (by walk_at "ctor") ?_
  rw [Sto.set_del ha]
  walk_at "go"
  exact q
theorem needHand_x {P:Sto→Prop} {l:List Env} (T:TopG g (KK g)) (fr:FrA c.A l) (hd:c.A.depth+1 < recursionLimit) (hh:c.A.handled=none) {h:Int} {x:AV} (hx:BadH h x) (hp:P σ) :
  calX c l (.ref 132) [.int h,x] σ 61 P:=by
 refine calX_fn (rest:=[]) (fn_need_hand T) (by kernel_rfl) (by walk_at "rm") rfl fr fun c' hsc hfn hA fr'=>?_
 have hd':c'.A.depth < recursionLimit:=by rw [hA];exact hd
 show esX c' _ [(("hands":Str),some _),(("thing":Str),some _)] (execs (_::_) c'.env) σ _ _
 refine esX_head (esX_if fun E=>?_)
 walk_at "go"
 (refine ev_callF T (by assumption) n_is_within (by rfl) k_is_within ?_;walk_at "go")
 refine within_bad (c:=c'.re E) T hd' hx ?_
 walk_at "go"
 exact esX_head (esX_raise (by rw [hA];exact hh) fr' (T.glob n_NoHand (by decide)) (by rw [hsc];rfl) (ex_NoHand T) hp)
theorem needSign_x {P:Sto→Prop} {l:List Env} (T:TopG g (KK g)) (fr:FrA c.A l) (hd:c.A.depth+1 < recursionLimit) (hh:c.A.handled=none) {x:AV} (hx:BadS x) (hp:P σ) :
  calX c l (.ref 125) [x] σ 49 P:=by
 refine calX_fn (rest:=[]) (fn_need_sign T) (by kernel_rfl) (by walk_at "rm") rfl fr fun c' hsc hfn hA fr'=>?_
 show esX c' _ [(("thing":Str),some _)] (execs (_::_) c'.env) σ _ _
 refine esX_head (esX_if fun E=>?_)
 walk_at "go"
 (refine ev_callF T (by assumption) n_is_sign (by rfl) k_is_sign ?_;walk_at "go")
 refine sign_bad T (by show c'.A.depth < _;rw [hA];exact hd) (by show c'.A.handled=_;rw [hA];exact hh) hx ?_
 walk_at "go"
 exact esX_head (esX_raise (by rw [hA];exact hh) fr' (T.glob n_NoSign (by decide)) (by rw [hsc];rfl) (ex_NoSign T) hp)
theorem ints_anyT {p:List Int} {x:Int} (h:x∈p):(p.map AV.int).any (eqA · (.int x))=true:=by rw [ints_any];simpa using h
theorem needLiars_x {P:Sto→Prop} {l:List Env} (T:TopG g (KK g)) (fr:FrA c.A l) (hd:c.A.depth+2 < recursionLimit) (hh:c.A.handled=none) (hu:c.A.units+20 < cLine) {h:Int} {L:List Int} (hn:L.Nodup) (hL:∀ x∈L,0≤x∧x < h) (hz:L.length≤100) {x:AV} {xs:List AV} (hx:BadH h x∨∃ i∈L,x = .int i) {v:AV} (hv:LV v (L.map .int++x::xs)) (hp:∀ a,σ a=none→P (σ.set a (.lst (L.map .int)))) :
  calX c l (.ref 139) [.int h,v] σ 61 P:=by
 refine calX_fn (rest:=["found", "hand"]) (fn_need_liars T) (by kernel_rfl) (by walk_at "rm") rfl fr fun c' hsc hfn hA fr'=>?_
 have hd':c'.A.depth+1 < recursionLimit:=by rw [hA];exact hd
 have hh':c'.A.handled=none:=by rw [hA];exact hh
 have hu':c'.A.units+10 < cLine:=by rw [hA];show c.A.units+3+10 < cLine;walk_at "rm"
 obtain ⟨_,L',hL'⟩:=fr'.2 c'.env List.mem_cons_self
 show esX c' _ [(("hands":Str),some _),(("liars":Str),some _),(("found":Str),none),(("hand":Str),none)] (execs (_::_) c'.env) σ _ _
 refine esX_seq fun E=>?_
 walk_at "go"
 refine ev_list (evl_nil ⟨by decide,.inr fun a ha=>?_⟩)
 walk_at "go"
 refine ⟨rfl,esX_head (esX_for (fun l ρ' σ'=>∃ d r:List Int,L=d++r∧l=r.map AV.int++x::xs∧σ'=σ.set a (.lst (d.map .int))∧ρ'=[(("hands":Str),some (AV.int h)),(("liars":Str),some v),(("found":Str),some (AV.obj a)),(("hand":Str),none)]) hfn fr' hL' ?_ ?_ ?_ (by intro _;rfl))⟩
 ·intro E
  walk_at "go"
  exact ⟨_,hv.iter hh',[],L,rfl,rfl,rfl,rfl⟩
 ·rintro c₂ same y rest ρ₁ σ₁ ⟨d,r,hdr,hr,rfl,rfl⟩
  have hsc₂:=same.sc.trans hsc
  have hfn₂:=same.fn.trans hfn
  rw [← same.A] at hd' hh' hu' fr'
  refine upd_ex (by walk_at "ctor") ?_
  cases r with
  | nil =>
   injection hr with e1 e2
   subst e1;subst e2
   rw [List.append_nil] at hdr
   subst hdr
   right
   rcases hx with hx | ⟨i,hi,rfl⟩
   ·refine esX_head (esX_expr (evX_callF T hsc₂ (by rfl) (by rfl) (by rfl) fun E=>?_) (by with_unfolding_all rfl))
    walk_at "go"
    exact needHand_x T fr' hd' hh' hx (hp a ha)
   ·obtain ⟨x0,x1⟩:=hL i hi
    refine esX_seq fun E=>?_
    walk_at "go"
    (refine ev_callF T (by assumption) n_need_hand (by rfl) k_need_hand ?_;walk_at "go")
    refine needHand_spec (c:=c₂.re E) T hd' x0 x1 ⟨rfl,?_⟩
    refine esX_head (esX_if fun E=>?_)
    walk_at "go"
    refine cmp_in_list (.obj Sto.set_self) (ints_plain L) (by rw [ints_deep];exact Nat.zero_le _) rfl (by walk_at "rm") ?_
    rw [ints_anyT hi]
    walk_at "go"
    exact esX_head (esX_raise hh' fr' (T.glob n_NoHand (by decide)) (by rw [hsc₂];rfl) (ex_NoHand T) (hp a ha))
  | cons z r =>
   rw [List.map_cons] at hr
   injection hr with e1 e2
   subst e1;subst e2
   obtain ⟨x0,x1⟩:=hL z (by rw [hdr];simp)
   have hnx:z∉d:=by
    rw [hdr] at hn
    exact fun hm=>(List.nodup_append.mp hn).2.2 z hm z (List.mem_cons_self) rfl
   have hdl:d.length≤100:=by rw [hdr,List.length_append] at hz;walk_at "rm"
   left
   walk_at "go"
   (refine ev_callF T (by assumption) n_need_hand (by rfl) k_need_hand ?_;walk_at "go")
   refine needHand_spec T hd' x0 x1 ?_
   walk_at "go"
   refine cmp_in_list (.obj Sto.set_self) (ints_plain d) (by rw [ints_deep];exact Nat.zero_le _) rfl (by walk_at "rm") ?_
   rw [ints_anyF hnx]
   walk_at "go"
   (refine ev_meth F.plainAttrs_list F.slot_list_append F.type_list_append ?_;walk_at "go")
   refine ⟨.objL Sto.set_self,?_⟩
   walk_at "go"
   refine cal_append Sto.set_self (by rw [List.length_map,sizeLine_eq];walk_at "rm") ?_
   walk_at "go"
   refine ⟨rfl,_,by walk_at "ctor", d++[z],r,by rw [hdr];simp,rfl,?_,rfl⟩
   rw [Sto.set_set,List.map_append];rfl
 ·rintro ρ₁ σ₁ ⟨d,r,hdr,hr,_⟩
  cases r <;> cases hr
theorem rnd_len {h:Int} (h1:h≤10) (k:Nat):(rnd h k).length≤10 ^ k:=Nat.le_trans (List.length_filter_le _ _) (pathsN_len h1 k)
theorem rnds_len {h:Int} (h1:h≤10):∀ m,m≤3→(rnds h m).length≤200
 | 0,_=>by simp [rnds]
 | 1,_=>by have:=rnd_len h1 0;simp [rnds];walk_at "rm"
 | 2,_=>by have a:=rnd_len h1 0;have b:=rnd_len h1 1;rw [rnds_succ,rnds_succ];simp [rnds];exact o132 a b
 | 3,_=>by have a:=rnd_len h1 0;have b:=rnd_len h1 1;have d:=rnd_len h1 2;rw [rnds_succ,rnds_succ,rnds_succ];simp [rnds];exact o133 a b d
theorem pths_append (P:List (List Int)) (p:List Int):P.map pth++[pth p]=(P++[p]).map pth:=by simp
theorem longer_spec {Q:AV→Sto→Prop} (T:TopG g (KK g)) (hd:c.A.depth+1 < recursionLimit) (hh:c.A.handled=none) (hu:c.A.units+40 < cLine) {h:Int} (h0:0≤h) (h1:h≤10) {P:List (List Int)} (hP:P.length≤100) (hne:∀ p∈P,p≠[]∧p.length≤10) (q:Q (.list ((nexts h P).map pth)) σ) :
  cal c (.ref 151) [.int h,.list (P.map pth)] σ Q:=by
 refine cal_fn (rest:=["found", "path", "hand"]) (fn_longer_paths T) (by kernel_rfl) (by walk_at "rm") rfl fun c' hsc hfn hA=>?_
 have hh':c'.A.handled=none:=by rw [hA];exact hh
 have hu':c'.A.units+30 < cLine:=by rw [hA];show c.A.units+3+30 < cLine;walk_at "rm"
 have hd':c'.A.depth < recursionLimit:=by rw [hA];exact hd
 show es c' [(("hands":Str),some _),(("row":Str),some _),(("found":Str),none),(("path":Str),none),(("hand":Str),none)] (execs (_::_) c'.env) σ _
 walk_at "go"
 refine ev_list (evl_nil ⟨by decide,.inr fun a ha=>?_⟩)
 walk_at "go"
 refine es_loop (fun l ρ' σ'=>∃ d r:List (List Int),P=d++r∧l=r.map pth∧σ'=σ.set a (.lst ((nexts h d).map pth))∧ρ'=[(("hands":Str),some (AV.int h)),(("row":Str),some (AV.list (P.map pth))),(("found":Str),some (AV.obj a)),(("path":Str),none),(("hand":Str),none)]) hfn ?_ ?_ ?_
 ·walk_at "go"
  exact ⟨_,iter_list hh' _,[],P,rfl,rfl,rfl,rfl⟩
 ·rintro c₂ hA₂ hsc₂ hfn₂ y rest ρ₁ σ₁ ⟨d,r,hdr,hr,rfl,rfl⟩
  rw [hsc] at hsc₂
  rw [← hA₂] at hd' hh' hu'
  cases r with
  | nil=>cases hr
  | cons p r =>
   rw [List.map_cons] at hr
   injection hr with e1 e2
   subst e1;subst e2
   obtain ⟨hp,hp10⟩:=hne p (by rw [hdr];simp)
   have hnd:(nexts h d).length≤1000:=by
    have h2:=nexts_len h1 d
    have h3:d.length≤100:=by rw [hdr,List.length_append] at hP;walk_at "rm"
    exact o134 h2 h3
   refine upd_ex (by walk_at "ctor") ?_
   walk_at "go"
   refine es_loop (fun l ρ' σ'=>∃ d' r':List Int,hears h p=d'++r'∧l=r'.map AV.int∧σ'=σ.set a (.lst ((nexts h d++d'.map fun x=>p++[x]).map pth))∧ρ'=[(("hands":Str),some (AV.int h)),(("row":Str),some (AV.list (P.map pth))),(("found":Str),some (AV.obj a)),(("path":Str),some (pth p)),(("hand":Str),none)]) hfn₂ ?_ ?_ ?_
   ·(refine ev_callF T (by assumption) n_hearers (by rfl) k_hearers ?_;walk_at "go")
    refine hearers_spec T hd' hh' (by walk_at "rm") h0 (by walk_at "rm") ?_
    exact ⟨_,iter_list hh' _,[],hears h p,rfl,rfl,by simp,rfl⟩
   ·rintro c₃ hA₃ hsc₃ hfn₃ y rest ρ₁ σ₁ ⟨d',r',hdr',hr',rfl,rfl⟩
    rw [← hA₃] at hh' hu'
    cases r' with
    | nil=>cases hr'
    | cons x r' =>
     rw [List.map_cons] at hr'
     injection hr' with e1 e2
     subst e1;subst e2
     have hlen:=hears_len h p
     have hd'l:d'.length≤10:=by rw [hdr',List.length_append] at hlen;exact o135 h0 h1 hlen
     walk_at "go"
     (refine ev_meth F.plainAttrs_list F.slot_list_append F.type_list_append ?_;walk_at "go")
     refine ⟨.objL Sto.set_self,?_⟩
     walk_at "go"
     refine ev_tuple ?_
     walk_at "go"
     refine ⟨sz,?_⟩
     refine op_addt (pth_ne hp) (by simp) (by simp [sizeLine_eq];walk_at "rm") ?_
     rw [pth_add]
     walk_at "go"
     refine cal_append Sto.set_self (by simp only [List.length_map,List.length_append,sizeLine_eq];exact o136 hnd hd'l) ?_
     walk_at "go"
     refine trn_next (by walk_at "ctor") ⟨d'++[x],r',by rw [hdr'];simp,rfl,?_,rfl⟩
     rw [Sto.set_set,pths_append];simp
   ·rintro ρ₁ σ₁ ⟨d',r',hdr',hr',rfl,rfl⟩
    have hr0:r'=[]:=by cases r' with | nil=>rfl | cons _ _=>cases hr'
    subst hr0
    rw [List.append_nil] at hdr'
    walk_at "go"
    refine trn_next (by walk_at "ctor") ⟨d++[p],r,by rw [hdr];simp,rfl,?_,rfl⟩
    rw [← hdr']
    simp [nexts]
 ·rintro ρ₁ σ₁ ⟨d,r,hdr,hr,rfl,rfl⟩
  have hr0:r=[]:=by cases r with | nil=>rfl | cons _ _=>cases hr
  subst hr0
  rw [List.append_nil] at hdr
  refine thn_next (es_one (es_ret_freeze ?_))
  walk_at "go"
  refine ⟨a,_,_,rfl,Sto.set_self,.lst _,?_⟩
  rw [Sto.set_del ha,← hdr]
  exact q
theorem tpaths_spec {Q:AV→Sto→Prop} (T:TopG g (KK g)) (hd:c.A.depth+3 < recursionLimit) (hh:c.A.handled=none) (hu:c.A.units+60 < cLine) {h m:Int} (h0:2≤h) (h1:h≤10) (m0:0≤m) (m1:m≤2) (q:Q (.list ((rnds h (m+1).toNat).map pth)) σ) :
  cal c (.ref 156) [.int h,.int m] σ Q:=by
 refine cal_fn (rest:=["found", "row", "turn"]) (fn_paths T) (by kernel_rfl) (by walk_at "rm") rfl fun c' hsc hfn hA=>?_
 have hh':c'.A.handled=none:=by rw [hA];exact hh
 have hu':c'.A.units+50 < cLine:=by rw [hA];show c.A.units+3+50 < cLine;walk_at "rm"
 have hd':c'.A.depth+2 < recursionLimit:=by rw [hA];show c.A.depth+1+2 < _;walk_at "rm"
 show es c' [(("hands":Str),some _),(("most":Str),some _),(("found":Str),none),(("row":Str),none),(("turn":Str),none)] (execs (_::_) c'.env) σ _
 walk_at "go"
 (refine ev_callF T (by assumption) n_need_table (by rfl) k_need_table ?_;walk_at "go")
 refine needTable_spec T (by walk_at "rm") h0 h1 m0 m1 ?_
 walk_at "go"
 refine ev_list (evl_nil ⟨by decide,.inr fun a ha=>?_⟩)
 walk_at "go"
 refine ev_list (evl_cons (ev_tuple ?_))
 walk_at "go"
 refine ⟨by decide,?_⟩
 walk_at "go"
 refine ⟨by decide,.inl ?_⟩
 walk_at "go"
 refine es_loop (fun l ρ' σ'=>∃ j:Nat,∃ r:List Int,l=r.map AV.int∧j+r.length=(m+1).toNat∧σ'=σ.set a (.lst ((rnds h j).map pth))∧ρ'=[(("hands":Str),some (AV.int h)),(("most":Str),some (AV.int m)),(("found":Str),some (AV.obj a)),(("row":Str),some (AV.list ((pathsN h j).map pth))),(("turn":Str),none)]) hfn ?_ ?_ ?_
 ·(refine cb_range T (by assumption) (by rfl) ?_;walk_at "go")
  exact cal_range1 ⟨_,iter_rng hh' (by decide) (by decide) (by walk_at "rm") (by walk_at "rm"),0,rngL 0 (m+1),rfl,by rw [rngL_len];exact o137 m0 m1,rfl,rfl⟩
 ·rintro c₂ hA₂ hsc₂ hfn₂ y rest ρ₁ σ₁ ⟨j,r,hr,hj,rfl,rfl⟩
  rw [hsc] at hsc₂
  rw [← hA₂] at hd' hh' hu'
  cases r with
  | nil=>cases hr
  | cons k r =>
   rw [List.map_cons] at hr
   injection hr with e1 e2
   subst e1;subst e2
   have hj2:j≤2:=by rw [List.length_cons] at hj;exact o138 m0 m1 hj
   have hjl:=pathsN_len h1 j
   have hrl:=rnd_len h1 j
   have hj3:10 ^ j≤10 ^ 2:=Nat.pow_le_pow_right (by decide) hj2
   have hrs:=rnds_len h1 j (by walk_at "rm")
   walk_at "go"
   refine es_filtP [(("hands":Str),some (AV.int h))] pth (pathsN h j) (fun p=>decide (0 < (hears h p).length)) pth hfn₂ hsc₂ (by rfl) (by rfl) (by walk_at "ctor") (by rw [sizeLine_eq];walk_at "rm") ?_ ?_ ?_
   ·walk_at "go"
    exact ⟨rfl,iter_list hh' _⟩
   ·intro c₃ hA₃ hsc₃ p hp
    rw [← hA₃] at hh' hu' hd'
    refine ⟨?_,fun _=>?_⟩
    ·walk_at "go"
     (refine cb_len T (by assumption) (by rfl) ?_;walk_at "go")
     (refine ev_callF T (by assumption) n_hearers (by rfl) k_hearers ?_;walk_at "go")
     refine hearers_spec T (by walk_at "rm") hh' (by walk_at "rm") (by walk_at "rm") (by walk_at "rm") ?_
     have hlen:=hears_len h p
     walk_at "go"
     refine cal_len_list .list (by rw [List.length_map];exact o139 h0 h1 hlen) ?_
     walk_at "go"
     rw [List.length_map]
     exact ⟨by simp,rfl⟩
    ·walk_at "go"
     exact ⟨rfl,rfl⟩
   ·refine made_frz (upd_ex (by walk_at "ctor") ?_)
    walk_at "go"
    (refine ev_meth F.plainAttrs_list F.slot_list_extend F.type_list_extend ?_;walk_at "go")
    refine ⟨.objL Sto.set_self,?_⟩
    walk_at "go"
    refine cal_extend Sto.set_self .list (by intro e;cases e) (by rw [List.length_map,List.length_map,sizeLine_eq];unfold rnd at hrl;walk_at "rm") ?_
    walk_at "go"
    (refine ev_callF T (by assumption) n_longer_paths (by rfl) k_longer_paths ?_;walk_at "go")
    refine longer_spec T (by walk_at "rm") hh' (by walk_at "rm") (by walk_at "rm") h1 (by unfold rnd at hrl;walk_at "rm") (fun p hp=>?_) ?_
    ·have:=pathsN_size j p (List.mem_filter.mp hp).1
     exact ⟨(by rintro rfl;cases this),by exact o140 hj hj2 this⟩
    rw [nexts_rnd,show nexts h (pathsN h j)=pathsN h (j+1) from rfl]
    walk_at "go"
    refine trn_next (by walk_at "ctor") ⟨j+1,r,rfl,by rw [List.length_cons] at hj;walk_at "rm", ?_,rfl⟩
    rw [Sto.set_set,rnds_succ,List.map_append];rfl
 ·rintro ρ₁ σ₁ ⟨j,r,hr,hj,rfl,rfl⟩
  have hr0:r=[]:=by cases r with | nil=>rfl | cons _ _=>cases hr
  subst hr0
  refine thn_next (es_one (es_ret_freeze ?_))
  walk_at "go"
  refine ⟨a,_,_,rfl,Sto.set_self,.lst _,?_⟩
  rw [Sto.set_del ha,show j=(m+1).toNat by simpa using hj]
  exact q
theorem pathsOf_spec {Q:AV→Sto→Prop} (T:TopG g (KK g)) (hd:c.A.depth+4 < recursionLimit) (hh:c.A.handled=none) (hu:c.A.units+70 < cLine) {h m n:Int} (h0:2≤h) (h1:h≤10) (m0:0≤m) (m1:m≤2) (n0:1≤n) (n1:n≤m+1) (q:Q (.list ((lpaths h n).map pth)) σ) :
  cal c (.ref 161) [.int h,.int m,.int n] σ Q:=by
 refine cal_fn (rest:=[]) (fn_paths_of T) (by kernel_rfl) (by walk_at "rm") rfl fun c' hsc hfn hA=>?_
 have hh':c'.A.handled=none:=by rw [hA];exact hh
 have hu':c'.A.units+60 < cLine:=by rw [hA];show c.A.units+3+60 < cLine;walk_at "rm"
 have hd':c'.A.depth+3 < recursionLimit:=by rw [hA];show c.A.depth+1+3 < _;walk_at "rm"
 show es c' [(("hands":Str),some _),(("most":Str),some _),(("size":Str),some _)] (execs (_::_) c'.env) σ _
 have hrs:=rnds_len h1 (m+1).toNat (by exact o141 m0 m1)
 walk_at "go"
 refine ev_filtP [(("size":Str),some (AV.int n))] pth (rnds h (m+1).toNat) (fun p=>((p.length:Int)==n)) pth hsc (by rfl) (by walk_at "ctor") (by rw [sizeLine_eq];walk_at "rm") ?_ ?_ ?_
 ·(refine ev_callF T (by assumption) n_paths (by rfl) k_paths ?_;walk_at "go")
  refine tpaths_spec T (by walk_at "rm") hh' (by walk_at "rm") h0 h1 m0 m1 ?_
  exact ⟨rfl,iter_list hh' _⟩
 ·intro c₂ hA₂ hsc₂ p hp
  have hps:p.length≤3:=by
   obtain ⟨k,hk,hp⟩:=List.mem_flatMap.mp hp
   have:=pathsN_size k p (List.mem_filter.mp hp).1
   rw [List.mem_range] at hk
   exact o142 m0 m1 hk this
  refine ⟨?_,fun _=>?_⟩
  ·walk_at "go"
   (refine cb_len T (by assumption) (by rfl) ?_;walk_at "go")
   refine cal_len_tup (by rw [List.length_map];walk_at "rm") ?_
   rw [List.length_map]
   walk_at "go"
   exact ⟨rfl,rfl⟩
  ·walk_at "go"
   exact ⟨rfl,rfl⟩
 ·walk_at "go"
  rw [rnds_of n0,if_pos (by exact o143 m0 m1 n1),rnd_eq h0 n0]
  exact q
noncomputable abbrev Lies:=List ((List Int×Int)×Option Str)
noncomputable def lkey (k:List Int×Int):AV := .tup [pth k.1,.int k.2]
theorem lkey_tkey (k:List Int×Int):tkey (lkey k)=true:=by
 show (areKeys [pth k.1,.int k.2] && decide (deepL [pth k.1,.int k.2]≤1))=true
 have e1:areKeys [pth k.1,.int k.2]=true:=by
  show (areKeys (k.1.map .int) && _)=true
  rw [ints_keys];rfl
 have e2:deepL [pth k.1,.int k.2]=1:=by
  show max (deepL (k.1.map .int)+1) _=1
  rw [ints_deep];rfl
 rw [e1,e2];rfl
theorem lkey_inj {a b:List Int×Int} (h:lkey a=lkey b):a=b:=by
 unfold lkey at h
 injection h with h
 injection h with h1 h2
 injection h2 with h2 _
 injection h2 with h2
 exact Prod.ext (pth_inj h1) h2
noncomputable def encL (ls:Lies):List (AV×AV):=ls.map fun e=>(lkey e.1,sg e.2)
noncomputable def lget (ls:Lies) (k:List Int×Int):Option (Option Str):=(ls.find? fun e=>decide (e.1=k)).map (·.2)
noncomputable def lset (ls:Lies) (k:List Int×Int) (v:Option Str):Lies:=if (lget ls k).isSome then ls.map (fun e=>if e.1=k then (e.1,v) else e) else ls++[(k,v)]
theorem encL_tkeys (ls:Lies):tkeys (encL ls):=fun p hp=>by
 obtain ⟨e,_,rfl⟩:=List.mem_map.mp hp
 exact lkey_tkey e.1
theorem dget_enc (ls:Lies) (k:List Int×Int):dget (encL ls) (lkey k)=(lget ls k).map sg:=by
 unfold dget lget encL
 rw [List.find?_map,Option.map_map,Option.map_map]
 have e:((fun p:AV×AV=>@decide (p.1=lkey k) (Classical.propDecidable _)) ∘ fun e:(List Int×Int)×Option Str=>(lkey e.1,sg e.2))=fun e=>decide (e.1=k):=by
  funext e
  show @decide (lkey e.1=lkey k) (Classical.propDecidable _)=decide (e.1=k)
  by_cases h:e.1=k
  ·rw [h];simp
  ·have:¬ lkey e.1=lkey k:=fun e'=>h (lkey_inj e')
   simp [h,this]
 rw [e]
 rfl
open scoped Classical in
theorem dset_enc (ls:Lies) (k:List Int×Int) (v:Option Str):dset (encL ls) (lkey k) (sg v)=encL (lset ls k v):=by
 unfold dset lset
 rw [dget_enc]
 cases h:lget ls k with
 | none=>simp [encL]
 | some w =>
  simp only [Option.map_some,Option.isSome_some,if_true]
  unfold encL
  rw [List.map_map,List.map_map]
  apply List.map_congr_left
  intro e _
  show (if lkey e.1=lkey k then (lkey e.1,sg v) else (lkey e.1,sg e.2))=(lkey (if e.1=k then (e.1,v) else e).1,sg (if e.1=k then (e.1,v) else e).2)
  by_cases h:e.1=k
  ·rw [if_pos h,if_pos (by rw [h])]
  ·rw [if_neg h,if_neg (fun e'=>h (lkey_inj e'))]
theorem lget_mem {ls:Lies} {k:List Int×Int} {v:Option Str} (h:lget ls k=some v):(k,v)∈ls:=by
 unfold lget at h
 obtain ⟨e,h1,h2⟩:=Option.map_eq_some_iff.mp h
 have:=List.find?_some h1
 have e1:e.1=k:=by simpa using this
 rw [← e1,← h2]
 exact List.mem_of_find?_eq_some h1
theorem lget_some {ls:Lies} {k:List Int×Int} (h:k∈ls.map (·.1)):∃ v,lget ls k=some v:=by
 unfold lget
 cases e:ls.find? fun e=>decide (e.1=k) with
 | some x=>exact ⟨_,rfl⟩
 | none =>
  obtain ⟨x,hx,rfl⟩:=List.mem_map.mp h
  have:=List.find?_eq_none.mp e x hx
  simp at this
theorem mem_lset {ls:Lies} {k:List Int×Int} {v:Option Str} {e:(List Int×Int)×Option Str} (h:e∈lset ls k v):e=(k,v)∨e∈ls:=by
 unfold lset at h
 split at h
 ·obtain ⟨x,hx,rfl⟩:=List.mem_map.mp h
  by_cases hk:x.1=k
  ·rw [if_pos hk,hk];exact .inl rfl
  ·rw [if_neg hk];exact .inr hx
 ·rcases List.mem_append.mp h with h | h
  ·exact .inr h
  ·exact .inl (List.mem_singleton.mp h)
theorem lset_len (ls:Lies) (k:List Int×Int) (v:Option Str):(lset ls k v).length≤ls.length+1:=by
 unfold lset
 split <;> simp
theorem lget_lset (ls:Lies) (k k':List Int×Int) (v:Option Str):lget (lset ls k v) k'=if k'=k then some v else lget ls k':=by
 unfold lset
 split
 ·rename_i h
  have key:∀ ls:Lies,lget (ls.map fun e=>if e.1=k then (e.1,v) else e) k'=if k'=k then (lget ls k').map (fun _=>v) else lget ls k':=by
   intro ls
   induction ls with
   | nil=>by_cases e:k'=k <;> simp [lget,e]
   | cons e r ih =>
    unfold lget at ih ⊢
    rw [List.map_cons]
    by_cases he:e.1=k
    ·rw [if_pos he]
     by_cases e2:e.1=k'
     ·rw [List.find?_cons_of_pos (by simpa using e2),List.find?_cons_of_pos (by simpa using e2),if_pos (by rw [← e2,he])];rfl
     ·rw [List.find?_cons_of_neg (by simpa using e2),List.find?_cons_of_neg (by simpa using e2),ih]
    ·rw [if_neg he]
     by_cases e2:e.1=k'
     ·rw [List.find?_cons_of_pos (by simpa using e2),List.find?_cons_of_pos (by simpa using e2),if_neg (by rw [← e2];exact he)]
     ·rw [List.find?_cons_of_neg (by simpa using e2),List.find?_cons_of_neg (by simpa using e2),ih]
  rw [key]
  by_cases e:k'=k
  ·subst e
   obtain ⟨w,hw⟩:=Option.isSome_iff_exists.mp h
   rw [if_pos rfl,if_pos rfl,hw];rfl
  ·rw [if_neg e,if_neg e]
 ·rename_i h
  have hn:lget ls k=none:=by simpa using h
  unfold lget at hn ⊢
  rw [List.find?_append]
  by_cases e:k'=k
  ·subst e
   rw [if_pos rfl,Option.map_eq_none_iff.mp hn]
   simp
  ·rw [if_neg e]
   have:¬ k=k':=fun h=>e h.symm
   simp [this]
noncomputable def GoodK (h:Int) (L:List Int) (R:List (List Int)) (k:List Int×Int):Prop:=(∀ y∈k.1,0≤y∧y < h)∧k.1∈R∧(∃ p0 y,k.1=p0++[y]∧y∈L)∧k.2∈hears h k.1
noncomputable def okV:Option Str→Prop
 | some x=>okS x
 | none=>True
theorem pths_plain (R:List (List Int)):plainL (R.map pth)=true:=by
 induction R with
 | nil=>rfl
 | cons p r ih=>rw [List.map_cons];unfold plainL;rw [ih,show plain (pth p)=true from ints_plain p];rfl
theorem pths_deep (R:List (List Int)):deepL (R.map pth)≤1:=by
 induction R with
 | nil=>exact Nat.zero_le _
 | cons p r ih =>
  rw [List.map_cons];unfold deepL
  have:deep (pth p)=1:=by show deepL (p.map .int)+1=1;rw [ints_deep]
  walk_at "rm"
theorem pths_any {R:List (List Int)} {p:List Int} (h:p∈R):(R.map pth).any (eqA · (pth p))=true :=
 List.any_eq_true.mpr ⟨pth p,List.mem_map.mpr ⟨p,h,rfl⟩,eqA_refl (x:=pth p) (ints_plain p)⟩
theorem seq_last (n:Nat):seqIndex? (-1) (n+1)=some n:=by
 unfold seqIndex?
 simp
 exact o144
theorem pths_no {R:List (List Int)} {p:List Int} (h:p∉R):(R.map pth).any (eqA · (pth p))=false:=by
 cases e:(R.map pth).any (eqA · (pth p)) with
 | false=>rfl
 | true =>
  obtain ⟨y,hy,e'⟩:=List.any_eq_true.mp e
  obtain ⟨p',hp',rfl⟩:=List.mem_map.mp hy
  exact absurd (pth_inj (key_eq (tkey_isKey (pth_tkey p')) (tkey_isKey (pth_tkey p)) e') ▸ hp') h
noncomputable def earB (h:Int) (p:List Int):AV→Bool
 | .int x=>(hears h p).contains x
 | _=>false
noncomputable def sayB (h:Int) (L:List Int) (R:List (List Int)) (p:List Int) (t:AV):Bool:=R.contains p && (L.contains (p.getLastD 0) && earB h p t)
theorem saying_pair {Q:AV→Sto→Prop} (T:TopG g (KK g)) (hd:c.A.depth+1 < recursionLimit) (hh:c.A.handled=none) (hu:c.A.units+40 < cLine) {h:Int} (h0:0≤h) (h1:h≤10) {L:List Int} {R:List (List Int)} {p:List Int} {t:AV} (hp:∀ y∈p,0≤y∧y < h) (hz:p.length≤10) (ht:Odd t∨∃ x,t = .int x) (hR:p∈R→p≠[]) (q:Q (.bool (sayB h L R p t)) σ) :
  cal c (.ref 166) [.int h,.list (L.map .int),.list (R.map pth),.tup [pth p,t]] σ Q:=by
 refine cal_fn (rest:=[]) (fn_is_saying T) (by kernel_rfl) (by walk_at "rm") rfl fun c' hsc hfn hA=>?_
 have hh':c'.A.handled=none:=by rw [hA];exact hh
 have hu':c'.A.units+30 < cLine:=by rw [hA];show c.A.units+3+30 < cLine;walk_at "rm"
 have hd':c'.A.depth < recursionLimit:=by rw [hA];exact hd
 unfold sayB at q
 show es c' [(("hands":Str),some _),(("liars":Str),some _),(("rows":Str),some _),(("thing":Str),some (.tup [pth p,t]))] (execs (_::_) c'.env) σ _
 walk_at "go"
 (refine cb_isinstance T (by assumption) (by rfl) ?_;walk_at "go")
 (refine ev_bltN PyProof.Rows.boot_tuple T (by assumption) nb_tuple (by rfl) ?_;walk_at "go")
 refine cal_isTup ?_
 walk_at "go"
 (refine cb_len T (by assumption) (by rfl) ?_;walk_at "go")
 refine cal_len_tup (by show 2 < 2 ^ 62;decide) ?_
 walk_at "go"
 ·rename_i e;cases e
 (refine cb_isinstance T (by assumption) (by rfl) ?_;walk_at "go")
 refine sub_tup (j:=0) (y:=pth p) (by decide) (by decide) rfl rfl ?_
 walk_at "go"
 (refine ev_bltN PyProof.Rows.boot_tuple T (by assumption) nb_tuple (by rfl) ?_;walk_at "go")
 refine cal_isTup ?_
 walk_at "go"
 (refine cb_all T (by assumption) (by rfl) ?_;walk_at "go")
 refine ev_mapP [(("hands":Str),some (AV.int h))] AV.int p (fun _=>AV.bool true) hsc (by rfl) (by walk_at "ctor") (by rw [sizeLine_eq];walk_at "rm") ?_ ?_ ?_
 ·walk_at "go"
  refine sub_tup (j:=0) (y:=pth p) (by decide) (by decide) rfl rfl ?_
  exact ⟨rfl,iter_tup hh' _⟩
 ·intro c₂ hA₂ hsc₂ z hz
  rw [← hA₂] at hd'
  obtain ⟨z0,z1⟩:=hp z hz
  (refine ev_callF T (by assumption) n_is_within (by rfl) k_is_within ?_;walk_at "go")
  refine within_spec T hd' ?_
  rw [decide_eq_true z0,decide_eq_true (show z≤h - 1 by exact o131 z1)]
  exact ⟨rfl,rfl⟩
 walk_at "go"
 rw [show p.map (fun _=>AV.bool true)=(p.map fun _=>true).map AV.bool by rw [List.map_map];rfl]
 refine cal_all hh' ?_
 rw [show (p.map fun _=>true).all id=true by simp]
 walk_at "go"
 refine sub_tup (j:=0) (y:=pth p) (by decide) (by decide) rfl rfl ?_
 walk_at "go"
 refine cmp_notin_list .list (pths_plain R) (Nat.le_trans (pths_deep R) (by decide)) (ints_plain p) (by walk_at "rm") ?_
 by_cases k2:p∈R
 ·obtain ⟨p0,y,k3⟩:∃ p0 y,p=p0++[y]:=⟨p.dropLast,p.getLast (hR k2),(List.dropLast_concat_getLast _).symm⟩
  rw [pths_any k2]
  rw [List.contains_iff_mem.mpr k2,Bool.true_and,show p.getLastD 0=y by rw [k3,List.getLastD_concat]] at q
  walk_at "go"
  refine sub_tup (j:=0) (y:=pth p) (by decide) (by decide) rfl rfl ?_
  walk_at "go"
  refine sub_tup (j:=p0.length) (y := .int y) (by decide) (by decide) (by rw [k3,List.length_map,List.length_append];exact seq_last _) (by rw [k3];simp) ?_
  walk_at "go"
  refine cmp_in_list .list (ints_plain L) (by rw [ints_deep];exact Nat.zero_le _) rfl (by walk_at "rm") ?_
  rw [ints_any]
  cases k4:L.contains y with
  | false=>rw [k4] at q;walk_at "go"; exact q
  | true =>
   rw [k4,Bool.true_and] at q
   walk_at "go"
   (refine ev_callF T (by assumption) n_is_within (by rfl) k_is_within ?_;walk_at "go")
   refine sub_tup (j:=1) (y:=t) (by decide) (by decide) rfl rfl ?_
   walk_at "go"
   rcases ht with ho | ⟨x,rfl⟩
   ·refine within_odd T hd' ho ?_
    walk_at "go"
    cases ho <;> exact q
   ·refine within_spec T hd' ?_
    by_cases hx:0≤x∧x < h
    ·rw [decide_eq_true hx.1,decide_eq_true (show x≤h - 1 by exact o145 hx),Bool.and_self]
     walk_at "go"
     refine sub_tup (j:=1) (y := .int x) (by decide) (by decide) rfl rfl ?_
     (refine ev_callF T (by assumption) n_hearers (by rfl) k_hearers ?_;walk_at "go")
     refine sub_tup (j:=0) (y:=pth p) (by decide) (by decide) rfl rfl ?_
     walk_at "go"
     refine hearers_spec T hd' hh' (by walk_at "rm") h0 (by walk_at "rm") ?_
     refine cmp_in_list .list (ints_plain _) (by rw [ints_deep];exact Nat.zero_le _) rfl (by walk_at "rm") ?_
     rw [ints_any]
     walk_at "go"
     exact q
    ·have e:(decide (0≤x) && decide (x≤h - 1))=false:=by
      rw [Bool.and_eq_false_iff,decide_eq_false_iff_not,decide_eq_false_iff_not];walk_at "rm"
     have e2:earB h p (.int x)=false:=by
      show (hears h p).contains x=false
      rw [← Bool.not_eq_true,List.contains_iff_mem]
      exact fun hm=>hx (mem_hears.mp hm).1
     rw [e2] at q
     rw [e]
     walk_at "go"
     exact q
 ·rw [pths_no k2]
  rw [show R.contains p=false by rw [← Bool.not_eq_true,List.contains_iff_mem];exact k2] at q
  walk_at "go"
  exact q
theorem good_say {h:Int} {L:List Int} {R:List (List Int)} {k:List Int×Int} (hk:GoodK h L R k):sayB h L R k.1 (.int k.2)=true:=by
 obtain ⟨_,k2,⟨p0,y,k3,k4⟩,k5⟩:=hk
 unfold sayB
 rw [List.contains_iff_mem.mpr k2,show k.1.getLastD 0=y by rw [k3,List.getLastD_concat],List.contains_iff_mem.mpr k4,Bool.true_and,Bool.true_and]
 exact List.contains_iff_mem.mpr k5
theorem saying_spec {Q:AV→Sto→Prop} (T:TopG g (KK g)) (hd:c.A.depth+1 < recursionLimit) (hh:c.A.handled=none) (hu:c.A.units+40 < cLine) {h:Int} (h0:0≤h) (h1:h≤10) {L:List Int} {R:List (List Int)} {k:List Int×Int} (hk:GoodK h L R k) (hz:k.1.length≤10) (q:Q (.bool true) σ) :
  cal c (.ref 166) [.int h,.list (L.map .int),.list (R.map pth),lkey k] σ Q :=
 saying_pair T hd hh hu h0 h1 hk.1 hz (.inr ⟨_,rfl⟩) (fun _ e=>by obtain ⟨_,_,⟨p0,y,k3,_⟩,_⟩:=hk;rw [k3] at e;simp at e) (by rw [good_say hk];exact q)
inductive BadK (h:Int) (L:List Int) (R:List (List Int)):AV→Prop
 | none:BadK h L R .none
 | int (i:Int):BadK h L R (.int i)
 | len {l:List AV}:l.length≠2→l.length≤10→BadK h L R (.tup l)
 | str (x:Str) (t:AV):BadK h L R (.tup [.str x,t])
 | pair {p:List Int} {t:AV}:(∀ y∈p,0≤y∧y < h)→p.length≤10→(Odd t∨∃ x,t = .int x)→(p∈R→p≠[])→sayB h L R p t=false→BadK h L R (.tup [pth p,t])
theorem saying_bad {Q:AV→Sto→Prop} (T:TopG g (KK g)) (hd:c.A.depth+1 < recursionLimit) (hh:c.A.handled=none) (hu:c.A.units+40 < cLine) {h:Int} (h0:0≤h) (h1:h≤10) {L:List Int} {R:List (List Int)} {k:AV} (hk:BadK h L R k) (q:Q (.bool false) σ) :
  cal c (.ref 166) [.int h,.list (L.map .int),.list (R.map pth),k] σ Q:=by
 cases hk with
 | pair a1 a2 a3 a4 a5=>exact saying_pair T hd hh hu h0 h1 a1 a2 a3 a4 (by rw [a5];exact q)
 | none =>
  refine cal_fn (rest:=[]) (fn_is_saying T) (by kernel_rfl) (by walk_at "rm") rfl fun c' hsc hfn hA=>?_
  show es c' [(("hands":Str),some _),(("liars":Str),some _),(("rows":Str),some _),(("thing":Str),some _)] (execs (_::_) c'.env) σ _
  walk_at "go"
  (refine cb_isinstance T (by assumption) (by rfl) ?_;walk_at "go")
  (refine ev_bltN PyProof.Rows.boot_tuple T (by assumption) nb_tuple (by rfl) ?_;walk_at "go")
  refine cal_isNoNone (fun h=>PySem.IsiPair.NoneType_tuple h) ?_
  walk_at "go"
  exact q
 | int i =>
  refine cal_fn (rest:=[]) (fn_is_saying T) (by kernel_rfl) (by walk_at "rm") rfl fun c' hsc hfn hA=>?_
  show es c' [(("hands":Str),some _),(("liars":Str),some _),(("rows":Str),some _),(("thing":Str),some _)] (execs (_::_) c'.env) σ _
  walk_at "go"
  (refine cb_isinstance T (by assumption) (by rfl) ?_;walk_at "go")
  (refine ev_bltN PyProof.Rows.boot_tuple T (by assumption) nb_tuple (by rfl) ?_;walk_at "go")
  refine cal_isNoInt (by decide) (by kernel_rfl) (by rw [isSubtype_type];kernel_rfl) ?_
  walk_at "go"
  exact q
 | len l1 l2 =>
  refine cal_fn (rest:=[]) (fn_is_saying T) (by kernel_rfl) (by walk_at "rm") rfl fun c' hsc hfn hA=>?_
  show es c' [(("hands":Str),some _),(("liars":Str),some _),(("rows":Str),some _),(("thing":Str),some _)] (execs (_::_) c'.env) σ _
  walk_at "go"
  (refine cb_isinstance T (by assumption) (by rfl) ?_;walk_at "go")
  (refine ev_bltN PyProof.Rows.boot_tuple T (by assumption) nb_tuple (by rfl) ?_;walk_at "go")
  refine cal_isTup ?_
  walk_at "go"
  (refine cb_len T (by assumption) (by rfl) ?_;walk_at "go")
  refine cal_len_tup (by walk_at "rm") ?_
  walk_at "go"
  ·exact q
  ·rename_i e;simp at e;walk_at "rm"
 | str x t =>
  refine cal_fn (rest:=[]) (fn_is_saying T) (by kernel_rfl) (by walk_at "rm") rfl fun c' hsc hfn hA=>?_
  show es c' [(("hands":Str),some _),(("liars":Str),some _),(("rows":Str),some _),(("thing":Str),some _)] (execs (_::_) c'.env) σ _
  walk_at "go"
  (refine cb_isinstance T (by assumption) (by rfl) ?_;walk_at "go")
  (refine ev_bltN PyProof.Rows.boot_tuple T (by assumption) nb_tuple (by rfl) ?_;walk_at "go")
  refine cal_isTup ?_
  walk_at "go"
  (refine cb_len T (by assumption) (by rfl) ?_;walk_at "go")
  refine cal_len_tup (by show 2 < 2 ^ 62;decide) ?_
  walk_at "go"
  ·rename_i e;cases e
  (refine cb_isinstance T (by assumption) (by rfl) ?_;walk_at "go")
  refine sub_tup (j:=0) (y := .str x) (by decide) (by decide) rfl rfl ?_
  walk_at "go"
  (refine ev_bltN PyProof.Rows.boot_tuple T (by assumption) nb_tuple (by rfl) ?_;walk_at "go")
  refine cal_isNoStr (by decide) (by kernel_rfl) (by rw [isSubtype_type];kernel_rfl) ?_
  walk_at "go"
  exact q
theorem needLies_spec {Q:AV→Sto→Prop} (T:TopG g (KK g)) (hd:c.A.depth+3 < recursionLimit) (hh:c.A.handled=none) (hu:c.A.units+60 < cLine) {h:Int} (h0:0≤h) (h1:h≤10) {L:List Int} {R:List (List Int)} {ls:Lies} (hl:∀ e∈ls,GoodK h L R e.1∧e.1.1.length≤10∧okV e.2) (q:Q .none σ) :
  cal c (.ref 173) [.int h,.list (L.map .int),.list (R.map pth),.dict (encL ls)] σ Q:=by
 refine cal_fn (rest:=["pair"]) (fn_need_lies T) (by kernel_rfl) (by walk_at "rm") rfl fun c' hsc hfn hA=>?_
 have hh':c'.A.handled=none:=by rw [hA];exact hh
 have hu':c'.A.units+50 < cLine:=by rw [hA];show c.A.units+3+50 < cLine;walk_at "rm"
 have hd':c'.A.depth+2 < recursionLimit:=by rw [hA];show c.A.depth+1+2 < _;walk_at "rm"
 show es c' [(("hands":Str),some _),(("liars":Str),some _),(("rows":Str),some _),(("lies":Str),some _),(("pair":Str),none)] (execs (_::_) c'.env) σ _
 walk_at "go"
 refine es_loop (fun l ρ' σ'=>∃ r:List (List Int×Int),(∀ k∈r,k∈ls.map (·.1))∧l=r.map lkey∧σ'=σ∧ρ'=[(("hands":Str),some (AV.int h)),(("liars":Str),some (AV.list (L.map .int))),(("rows":Str),some (AV.list (R.map pth))),(("lies":Str),some (AV.dict (encL ls))),(("pair":Str),none)]) hfn ?_ ?_ ?_
 ·walk_at "go"
  exact ⟨_,iter_dict hh' _,ls.map (·.1),fun _ h=>h,by simp [encL],rfl,rfl⟩
 ·rintro c₂ hA₂ hsc₂ hfn₂ y rest ρ₁ σ₁ ⟨r,hr1,hr,rfl,rfl⟩
  rw [hsc] at hsc₂
  rw [← hA₂] at hd' hh' hu'
  cases r with
  | nil=>cases hr
  | cons k r =>
   rw [List.map_cons] at hr
   injection hr with e1 e2
   subst e1;subst e2
   obtain ⟨v,hv⟩:=lget_some (hr1 k List.mem_cons_self)
   obtain ⟨g1,g2,g3⟩:=hl _ (lget_mem hv)
   have hdg:dget (encL ls) (lkey k)=some (sg v):=by rw [dget_enc,hv];rfl
   refine upd_ex (by walk_at "ctor") ?_
   walk_at "go"
   (refine ev_callF T (by assumption) n_is_saying (by rfl) k_is_saying ?_;walk_at "go")
   refine saying_spec T (by walk_at "rm") hh' (by walk_at "rm") h0 h1 g1 g2 ?_
   walk_at "go"
   refine sub_dict .dict (encL_tkeys ls) (lkey_tkey k) hdg (by walk_at "rm") ?_
   walk_at "go"
   ·rename_i hne
    cases v with
    | none=>cases hne
    | some x =>
     (refine ev_callF T (by assumption) n_need_sign (by rfl) k_need_sign ?_;walk_at "go")
     refine sub_dict .dict (encL_tkeys ls) (lkey_tkey k) hdg (by walk_at "rm") ?_
     walk_at "go"
     refine needSign_spec T (by walk_at "rm") hh' g3 ?_
     walk_at "go"
     exact trn_next (by walk_at "ctor") ⟨r,fun k hk=>hr1 k (List.mem_cons_of_mem _ hk),rfl,rfl,rfl⟩
   ·exact trn_next (by walk_at "ctor") ⟨r,fun k hk=>hr1 k (List.mem_cons_of_mem _ hk),rfl,rfl,rfl⟩
 ·rintro ρ₁ σ₁ ⟨r,hr1,hr,rfl,rfl⟩
  walk_at "go"
  exact q
theorem dget_mem {l:List (AV×AV)} (hn:(l.map (·.1)).Nodup) {k y:AV} (h:(k,y)∈l):dget l k=some y:=by
 obtain ⟨j,hj⟩:=List.mem_iff_getElem?.mp h
 exact dget_some hn hj
theorem needLies_x {P:Sto→Prop} {l:List Env} (T:TopG g (KK g)) (fr:FrA c.A l) (hd:c.A.depth+3 < recursionLimit) (hh:c.A.handled=none) (hu:c.A.units+60 < cLine) {h:Int} (h0:0≤h) (h1:h≤10) {L:List Int} {R:List (List Int)} {gs:Lies} (hl:∀ e∈gs,GoodK h L R e.1∧e.1.1.length≤10∧okV e.2) {k v:AV} {D:List (AV×AV)} {C:Addr}
  (hC:(BadK h L R k∧C=73)∨(∃ k',k=lkey k'∧GoodK h L R k'∧k'.1.length≤10)∧BadS v∧isNoneA v=false∧C=49) (tl:tkeys (encL gs++(k,v)::D)) (hn:((encL gs++(k,v)::D).map (·.1)).Nodup) (hp:P σ) :
  calX c l (.ref 173) [.int h,.list (L.map .int),.list (R.map pth),.dict (encL gs++(k,v)::D)] σ C P:=by
 refine calX_fn (rest:=["pair"]) (fn_need_lies T) (by kernel_rfl) (by walk_at "rm") rfl fr fun c' hsc hfn hA fr'=>?_
 have hh':c'.A.handled=none:=by rw [hA];exact hh
 have hu':c'.A.units+50 < cLine:=by rw [hA];show c.A.units+3+50 < cLine;walk_at "rm"
 have hd':c'.A.depth+2 < recursionLimit:=by rw [hA];show c.A.depth+1+2 < _;walk_at "rm"
 obtain ⟨_,L',hL'⟩:=fr'.2 c'.env List.mem_cons_self
 show esX c' _ [(("hands":Str),some _),(("liars":Str),some _),(("rows":Str),some _),(("lies":Str),some _),(("pair":Str),none)] (execs (_::_) c'.env) σ _ _
 refine esX_head (esX_for (fun l ρ' σ'=>∃ r:Lies,(∀ e∈r,e∈gs)∧l=r.map (fun e=>lkey e.1)++k::D.map (·.1)∧σ'=σ∧ρ'=[(("hands":Str),some (AV.int h)),(("liars":Str),some (AV.list (L.map .int))),(("rows":Str),some (AV.list (R.map pth))),(("lies":Str),some (AV.dict (encL gs++(k,v)::D))),(("pair":Str),none)]) hfn fr' hL' ?_ ?_ ?_ (by intro _;rfl))
 ·intro E
  walk_at "go"
  exact ⟨_,iter_dict (c:=c'.re E) hh' _,gs,fun _ h=>h,by simp [encL],rfl,rfl⟩
 ·rintro c₂ same y rest ρ₁ σ₁ ⟨r,hr1,hr,rfl,rfl⟩
  have hsc₂:=same.sc.trans hsc
  have hfn₂:=same.fn.trans hfn
  rw [← same.A] at hd' hh' hu' fr'
  refine upd_ex (by walk_at "ctor") ?_
  cases r with
  | nil =>
   injection hr with e1 e2
   subst e1;subst e2
   right
   rcases hC with ⟨hk,rfl⟩ | ⟨⟨k',rfl,g1,g2⟩,hv,hvn,rfl⟩
   ·refine esX_head (esX_if fun E=>?_)
    walk_at "go"
    (refine ev_callF T (by assumption) n_is_saying (by rfl) k_is_saying ?_;walk_at "go")
    refine saying_bad (c:=c₂.re E) T (by show c₂.A.depth+1 < _;walk_at "rm") hh' (by show c₂.A.units+40 < _;walk_at "rm") h0 h1 hk ?_
    walk_at "go"
    exact esX_head (esX_raise hh' fr' (T.glob n_NoSaying (by decide)) (by rw [hsc₂];rfl) (ex_NoSaying T) hp)
   ·have hdg:dget (encL gs++(lkey k',v)::D) (lkey k')=some v:=dget_mem hn (by simp)
    refine esX_seq fun E=>?_
    walk_at "go"
    (refine ev_callF T (by assumption) n_is_saying (by rfl) k_is_saying ?_;walk_at "go")
    refine saying_spec (c:=c₂.re E) T (by show c₂.A.depth+1 < _;walk_at "rm") hh' (by show c₂.A.units+40 < _;walk_at "rm") h0 h1 g1 g2 ?_
    walk_at "go"
    refine ⟨rfl,esX_head (esX_if fun E=>?_)⟩
    walk_at "go"
    refine sub_dict .dict tl (lkey_tkey k') hdg (by show c₂.A.units+3 < _;walk_at "rm") ?_
    walk_at "go"
    rotate_left
    ·rename_i e;rw [hvn] at e;cases e
    refine esX_head (esX_expr (evX_callF T hsc₂ (by rfl) (by rfl) (by rfl) fun E=>?_) (by with_unfolding_all rfl))
    walk_at "go"
    refine sub_dict .dict tl (lkey_tkey k') hdg (by show c₂.A.units+3 < _;walk_at "rm") ?_
    walk_at "go"
    exact needSign_x T fr' (by walk_at "rm") hh' hv hp
  | cons e r =>
   rw [List.map_cons] at hr
   injection hr with e1 e2
   subst e1;subst e2
   obtain ⟨k',v'⟩:=e
   obtain ⟨g1,g2,g3⟩:=hl _ (hr1 _ List.mem_cons_self)
   have hdg:dget (encL gs++(k,v)::D) (lkey k')=some (sg v'):=dget_mem hn (List.mem_append_left _ (List.mem_map.mpr ⟨(k',v'),hr1 _ List.mem_cons_self,rfl⟩))
   left
   walk_at "go"
   (refine ev_callF T (by assumption) n_is_saying (by rfl) k_is_saying ?_;walk_at "go")
   refine saying_spec T (by walk_at "rm") hh' (by walk_at "rm") h0 h1 g1 g2 ?_
   walk_at "go"
   refine sub_dict .dict tl (lkey_tkey k') hdg (by walk_at "rm") ?_
   walk_at "go"
   ·rename_i hne
    cases v' with
    | none=>cases hne
    | some x =>
     (refine ev_callF T (by assumption) n_need_sign (by rfl) k_need_sign ?_;walk_at "go")
     refine sub_dict .dict tl (lkey_tkey k') hdg (by walk_at "rm") ?_
     walk_at "go"
     refine needSign_spec T (by walk_at "rm") hh' g3 ?_
     walk_at "go"
     exact ⟨rfl,_,by walk_at "ctor", r,fun e he=>hr1 e (List.mem_cons_of_mem _ he),rfl,rfl,rfl⟩
   ·exact ⟨rfl,_,by walk_at "ctor", r,fun e he=>hr1 e (List.mem_cons_of_mem _ he),rfl,rfl,rfl⟩
 ·rintro ρ₁ σ₁ ⟨r,hr1,hr,_⟩
  cases r <;> cases hr
noncomputable def encP (f:List Int→Option Str) (ps:List (List Int)):List (AV×AV):=ps.map fun p=>(pth p,sg (f p))
theorem encP_tkeys (f:List Int→Option Str) (ps:List (List Int)):tkeys (encP f ps):=fun q hq=>by
 obtain ⟨p,_,rfl⟩:=List.mem_map.mp hq
 exact pth_tkey p
theorem dget_encP {f:List Int→Option Str} {ps:List (List Int)} {p:List Int} (hp:p∈ps):dget (encP f ps) (pth p)=some (sg (f p)):=by
 unfold dget encP
 induction ps with
 | nil=>cases hp
 | cons q ps ih =>
  rw [List.map_cons]
  by_cases e:q=p
  ·subst e;rw [List.find?_cons_of_pos (by simp)];rfl
  ·rw [List.find?_cons_of_neg (by simpa using fun h=>e (pth_inj h))]
   exact ih ((List.mem_cons.mp hp).resolve_left fun h=>e h.symm)
theorem dset_encP {f:List Int→Option Str} {ps:List (List Int)} {p:List Int} (hp:p∉ps):dset (encP f ps) (pth p) (sg (f p))=encP f (ps++[p]):=by
 have:dget (encP f ps) (pth p)=none:=by
  unfold dget encP
  rw [Option.map_eq_none_iff,List.find?_eq_none]
  intro q hq e
  obtain ⟨p',hp',rfl⟩:=List.mem_map.mp hq
  exact hp (pth_inj (by simpa using e) ▸ hp')
 unfold dset
 rw [this]
 simp [encP]
noncomputable def Ears (σ:Sto) (E:List Addr) (h:Int) (D:Int→List (List Int)) (val:List Int→Int→Option Str):Prop :=
 E.Nodup∧E.length=h.toNat∧∀ x,0≤x→x < h→∃ e,E[x.toNat]?=some e∧σ e=some (.dct (encP (fun p=>val p x) (D x)))
theorem Ears.imp {σ:Sto} {E:List Addr} {h:Int} {D D':Int→List (List Int)} {val:List Int→Int→Option Str} (H:Ears σ E h D val) (hD:∀ x,0≤x→x < h→D x=D' x):Ears σ E h D' val :=
 ⟨H.1,H.2.1,fun x x0 x1=>(H.2.2 x x0 x1).imp fun _ q=>⟨q.1,hD x x0 x1 ▸ q.2⟩⟩
theorem Ears.keep {σ σ':Sto} {E:List Addr} {h:Int} {D:Int→List (List Int)} {val:List Int→Int→Option Str} (H:Ears σ E h D val) (hk:∀ e∈E,σ' e=σ e):Ears σ' E h D val :=
 ⟨H.1,H.2.1,fun x x0 x1=>(H.2.2 x x0 x1).imp fun e q=>⟨q.1,(hk e (List.mem_of_getElem? q.1)).trans q.2⟩⟩
theorem Ears.put {σ:Sto} {E:List Addr} {h:Int} {D:Int→List (List Int)} {val:List Int→Int→Option Str} (H:Ears σ E h D val) {x:Int} (x0:0≤x) {e:Addr} (he:E[x.toNat]?=some e) {p:List Int} (hp:p∉D x) :
  Ears (σ.set e (.dct (dset (encP (fun p=>val p x) (D x)) (pth p) (sg (val p x))))) E h (fun y=>if y=x then D x++[p] else D y) val:=by
 refine ⟨H.1,H.2.1,fun y y0 y1=>?_⟩
 obtain ⟨e',a,b⟩:=H.2.2 y y0 y1
 by_cases hy:y=x
 ·subst hy
  rw [he] at a
  injection a with a
  subst a
  refine ⟨_,he,?_⟩
  show _=some (AObj.dct (encP (fun p=>val p y) (if y=y then D y++[p] else D y)))
  rw [Sto.set_self,if_pos rfl,dset_encP (f:=fun p=>val p y) hp]
 ·have hne:e'≠e:=by
   rintro rfl
   obtain ⟨h1,g1⟩:=List.getElem?_eq_some_iff.mp a
   obtain ⟨h2,g2⟩:=List.getElem?_eq_some_iff.mp he
   have:=(List.getElem_inj H.1).mp (g1.trans g2.symm)
   walk_at "rm"
  refine ⟨e',a,?_⟩
  show _=some (AObj.dct (encP (fun p=>val p y) (if y=x then D x++[p] else D y)))
  rw [Sto.set_ne hne,if_neg hy];exact b
noncomputable def Dm (h n x:Int):List (List Int):=dom h 0 x (rngL 1 (n+1))
noncomputable def DD (h n:Int) (dn:List (List Int)) (x:Int):List (List Int):=Dm h n x++dn.filter fun p => !p.contains x
noncomputable def D3 (h n:Int) (dn:List (List Int)) (p:List Int) (d':List Int) (x:Int):List (List Int):=DD h n dn x++if d'.contains x then [p] else []
theorem rngL_snoc {a b:Int} (h:a≤b):rngL a (b+1)=rngL a b++[b]:=by
 unfold rngL
 rw [show (b+1 - a).toNat=(b - a).toNat+1 by exact o146 h,List.range_succ,List.map_append,List.map_singleton]
 congr 2;exact o147 h
theorem DD_all {h n x:Int} (n0:0≤n):DD h n (lpaths h (n+1)) x=Dm h (n+1) x:=by
 unfold DD Dm dom
 rw [rngL_snoc (show (1:Int)≤n+1 by walk_at "rm"),List.flatMap_append,List.filter_append]
 simp
theorem DD_nil (h n x:Int):DD h n [] x=Dm h n x:=by simp [DD]
theorem D3_nil (h n x:Int) (dn:List (List Int)) (p:List Int):D3 h n dn p [] x=DD h n dn x:=by simp [D3]
theorem D3_end {h n x:Int} {dn:List (List Int)} {p:List Int} (x0:0≤x) (x1:x < h):D3 h n dn p (hears h p) x=DD h n (dn++[p]) x:=by
 unfold D3 DD
 rw [List.filter_append,List.append_assoc]
 by_cases hx:x∈p
 ·have:x∉hears h p:=fun hm=>(mem_hears.mp hm).2 hx
  simp [this,hx]
 ·have:x∈hears h p:=mem_hears.mpr ⟨⟨x0,x1⟩,hx⟩
  simp [this,hx]
theorem D3_put {h n x:Int} {dn:List (List Int)} {p:List Int} {d':List Int} (hx:x∉d') (y:Int):(if y=x then D3 h n dn p d' x++[p] else D3 h n dn p d' y)=D3 h n dn p (d'++[x]) y:=by
 unfold D3
 by_cases hy:y=x
 ·subst hy;simp [hx]
 ·simp [hy]
theorem Dm_mem {h n k x:Int} {p:List Int} (k1:1≤k) (kn:k≤n) (hp:p∈lpaths h k) (hx:x∉p):p∈Dm h n x :=
 List.mem_filter.mpr ⟨List.mem_flatMap.mpr ⟨k,mem_rngL.mpr ⟨k1,by exact o148 kn⟩,hp⟩,by simpa using hx⟩
theorem Dm_size {h n x:Int} {p:List Int} (hp:p∈Dm h n x):(p.length:Int)≤n:=by
 obtain ⟨k,hk,hp⟩:=List.mem_flatMap.mp (List.mem_filter.mp hp).1
 have:=mem_rngL.mp hk
 rw [lpaths_size hp];exact o149 this
theorem Dm_len {h:Int} (h1:h≤10) (x:Int) {n:Int} (n0:0≤n) (n1:n≤3):(Dm h n x).length≤300:=by
 have key:∀ k:Nat,k≤3→(Dm h k x).length≤100 * k:=by
  intro k
  induction k with
  | zero=>intro _;exact Nat.le_of_eq rfl
  | succ k ih =>
   intro hk
   have e:=DD_all (h:=h) (x:=x) (n:=k) (by walk_at "rm")
   rw [show ((k+1:Nat):Int)=(k:Int)+1 from rfl,← e]
   unfold DD
   rw [List.length_append]
   have:=List.length_filter_le (fun p:List Int => !p.contains x) (lpaths h ((k:Int)+1))
   have:=lpaths_len (n:=(k:Int)+1) h1 (by exact o150 hk)
   have:=ih (by walk_at "rm")
   exact o151 (by assumption) (by assumption) this
 have:=key n.toNat (by walk_at "rm")
 rw [Int.toNat_of_nonneg n0] at this
 exact o152 n0 n1 this
theorem D3_len {h n x:Int} {dn rs:List (List Int)} {p:List Int} {d':List Int} (h1:h≤10) (n0:0≤n) (n1:n≤2) (hdr:lpaths h (n+1)=dn++rs):(D3 h n dn p d' x).length≤1000:=by
 have:=Dm_len h1 x n0 (show n≤3 by walk_at "rm")
 have h2:=lpaths_len (n:=n+1) h1 (by walk_at "rm")
 rw [hdr,List.length_append] at h2
 have h3:=List.length_filter_le (fun p:List Int => !p.contains x) dn
 unfold D3 DD
 rw [List.length_append,List.length_append]
 split <;> simp only [List.length_singleton,List.length_nil] <;> omega
theorem lpaths_nodup (h n:Int):(lpaths h n).Nodup:=List.Pairwise.filter _ (pathsN_nodup _ _)
theorem D3_not {h n x:Int} {dn rs:List (List Int)} {p:List Int} {d':List Int} (hdr:lpaths h (n+1)=dn++p::rs) (hx:x∉d'):p∉D3 h n dn p d' x:=by
 have hp:p∈lpaths h (n+1):=by rw [hdr];simp
 have hs:=lpaths_size hp
 have hnd:=lpaths_nodup h (n+1)
 rw [hdr] at hnd
 unfold D3 DD
 rw [if_neg (by simpa using hx),List.append_nil]
 intro hm
 rcases List.mem_append.mp hm with hm | hm
 ·have:=Dm_size hm;exact o153 hs this
 ·exact (List.nodup_append.mp hnd).2.2 p (List.mem_filter.mp hm).1 p List.mem_cons_self rfl
noncomputable def Sto.le (σ σ':Sto):Prop:=∀ b x,σ b=some x→σ' b=some x
theorem Sto.le.refl (σ:Sto):σ.le σ:=fun _ _ h=>h
theorem Sto.le.new {σ σ':Sto} (h:σ.le σ') {a:Addr} {y:AObj} (ha:σ' a=none):σ.le (σ'.set a y):=fun b x hb=>by
 rw [Sto.set_ne (by rintro rfl;rw [h b x hb] at ha;cases ha)];exact h b x hb
inductive JE (σ:Sto) (n:Nat) (l acc:List AV) (σ₁:Sto):Prop
 | mk (E:List Addr) (h0:acc=E.map .obj) (h1:E.Nodup) (h2:∀ e∈E,σ₁ e=some (.dct [])∧σ e=none) (h3:∀ b,b∉E→σ₁ b=σ b) (h4:E.length+l.length=n):JE σ n l acc σ₁
theorem JE.start (σ:Sto) (l:List AV):JE σ l.length l [] σ:=⟨[],rfl,List.nodup_nil,(fun _ h=>by cases h),fun _ _=>rfl,by simp⟩
theorem JE.step {σ σ₁:Sto} {n:Nat} {y:AV} {rest acc:List AV} (hS:∃ f o,sysModules≤f∧g.H₀.get? f=some o) {ρ:Rho} {pos:Pos} (H:JE σ n (y::rest) acc σ₁):ev c ρ (.Dict [] [] pos) σ₁ fun z σ₃=>JE σ n rest (acc++[z]) σ₃:=by
 obtain ⟨E,rfl,h2,h3,h4,h5⟩:=H
 refine ev_dict0 hS (.inr fun a ha=>⟨E++[a],by simp,?_,fun e he=>?_,fun b hb=>by rw [Sto.set_ne (by rintro rfl;exact hb (by simp))];exact h4 b fun h=>hb (List.mem_append_left _ h),by rw [List.length_append,List.length_singleton];rw [List.length_cons] at h5;walk_at "rm"⟩)
 ·rw [List.nodup_append]
  refine ⟨h2,by simp,fun e he b hb e2=>?_⟩
  rw [List.mem_singleton.mp hb] at e2
  subst e2
  rw [(h3 e he).1] at ha;cases ha
 ·have haE:a∉E:=fun h=>by rw [(h3 a h).1] at ha;cases ha
  have hσ:σ a=none:=(h4 a haE).symm.trans ha
  by_cases hea:e=a
  ·subst hea;exact ⟨Sto.set_self,hσ⟩
  ·rcases List.mem_append.mp he with he | he
   ·exact ⟨(Sto.set_ne hea).trans (h3 e he).1,(h3 e he).2⟩
   ·exact absurd (List.mem_singleton.mp he) hea
theorem JE.ears {σ σ₁:Sto} {h:Int} {E:List Addr} (h2:E.Nodup) (h3:∀ e∈E,σ₁ e=some (.dct [])) (h5:E.length=h.toNat) {val:List Int→Int→Option Str}:Ears σ₁ E h (Dm h 0) val :=
 ⟨h2,h5,fun x x0 x1=>by
  have hl:x.toNat < E.length:=by exact o154 h5 x0 x1
  exact ⟨E[x.toNat],List.getElem?_eq_getElem hl,h3 _ (List.getElem_mem hl)⟩⟩
noncomputable def hv (s:Str) (ls:Lies):Nat→List Int→Int→Option Str
 | 0,p,x=>(lget ls (p,x)).getD (some s)
 | n+1,p,x=>(lget ls (p,x)).getD (hv s ls n p.dropLast (p.getLastD 0))
noncomputable def HV (s:Str) (ls:Lies) (p:List Int) (x:Int):Option Str:=hv s ls (p.length - 1) p x
noncomputable def tru (s:Str) (ls:Lies) (p:List Int):Option Str:=if p.length=1 then some s else HV s ls p.dropLast (p.getLastD 0)
theorem HV_eq (s:Str) (ls:Lies) {p:List Int} (hp:p≠[]) (x:Int):HV s ls p x=(lget ls (p,x)).getD (tru s ls p):=by
 unfold HV tru
 have hl:=List.length_pos_iff.mpr hp
 by_cases h:p.length=1
 ·rw [if_pos h,h];rfl
 ·obtain ⟨n,hn⟩:∃ n,p.length - 1=n+1:=⟨p.length - 2,by walk_at "rm"⟩
  rw [if_neg h,hn]
  unfold HV
  rw [List.length_dropLast,hn];rfl
noncomputable def tbl (h m:Int) (s:Str) (L:List Int) (r:Int) (E:List Addr):List (Str×AV) :=
 [("hands", .int h),("most", .int m),("sign", .str s),("liars", .list (L.map .int)),("round", .int r),("heard", .list (E.map .obj))]
theorem init_spec {Q:AV→Sto→Prop} (T:TopG g (KK g)) (hS:∃ f o,sysModules≤f∧g.H₀.get? f=some o) (hd:c.A.depth+4 < recursionLimit) (hh:c.A.handled=none) (hu:c.A.units+60 < cLine) {h m:Int} {s:Str} {L:List Int} (h0:2≤h) (h1:h≤10) (m0:0≤m) (m1:m≤2) (hs:okS s) (hn:L.Nodup) (hL:∀ x∈L,0≤x∧x < h) (hz:L.length≤100) {v:AV} (hv:LV v (L.map .int))
  {a d:Addr} (ha:σ a=some (.inst 228 d)) (hd0:σ d=some (.dct (atts [])))
  (q:∀ E σ',σ' a=some (.inst 228 d)→σ' d=some (.dct (atts (tbl h m s L 0 E)))→E.Nodup→(∀ e∈E,σ' e=some (.dct [])∧σ e=none)→(∀ b x,σ b=some x→b≠d→σ' b=some x)→E.length=h.toNat→Q .none σ') :
  calC c (.ref 199) [.obj a,.int h,.int m,.str s,v] σ Q:=by
 refine fn_code (rest:=[]) (fn_Table___init__ T) (by kernel_rfl) (by walk_at "rm") rfl fun c' hsc hfn hA=>?_
 have hh':c'.A.handled=none:=by rw [hA];exact hh
 have hu':c'.A.units+50 < cLine:=by rw [hA];show c.A.units+3+50 < cLine;walk_at "rm"
 have hd':c'.A.depth+3 < recursionLimit:=by rw [hA];show c.A.depth+1+3 < _;walk_at "rm"
 have had:a≠d:=by rintro rfl;rw [ha] at hd0;cases hd0
 show es c' [(("self":Str),some _),(("hands":Str),some _),(("most":Str),some _),(("sign":Str),some _),(("liars":Str),some _)] (execs (_::_) c'.env) σ _
 walk_at "go"
 (refine ev_callF T (by assumption) n_need_table (by rfl) k_need_table ?_;walk_at "go")
 refine needTable_spec T (by walk_at "rm") h0 h1 m0 m1 ?_
 walk_at "go"
 (refine ev_callF T (by assumption) n_need_sign (by rfl) k_need_sign ?_;walk_at "go")
 refine needSign_spec T (by walk_at "rm") hh' hs ?_
 walk_at "go"
 (refine ev_callF T (by assumption) n_need_liars (by rfl) k_need_liars ?_;walk_at "go")
 refine needLiars_spec T (by walk_at "rm") hh' (by walk_at "rm") hn hL hz hv ?_
 walk_at "go"
 refine es_setattr T.X ?_
 walk_at "go"
 refine ⟨a,_,d,[],rfl,ha,hd0,by kernel_rfl,Nat.le_of_ble_eq_true rfl,?_⟩
 walk_at "go"
 refine es_setattr T.X ?_
 walk_at "go"
 refine ⟨a,_,d,[("hands", .int h)],rfl,(Sto.set_ne had).trans ha,Sto.set_self,by kernel_rfl,Nat.le_of_ble_eq_true rfl,?_⟩
 rw [Sto.set_set]
 walk_at "go"
 refine es_setattr T.X ?_
 walk_at "go"
 refine ⟨a,_,d,[("hands", .int h),("most", .int m)],rfl,(Sto.set_ne had).trans ha,Sto.set_self,by kernel_rfl,Nat.le_of_ble_eq_true rfl,?_⟩
 rw [Sto.set_set]
 walk_at "go"
 refine es_setattr T.X ?_
 (refine cb_list T (by assumption) (by rfl) ?_;walk_at "go")
 refine cal_listV hv (by rw [List.length_map];exact hz) (.inl ?_)
 walk_at "go"
 refine ⟨a,_,d,[("hands", .int h),("most", .int m),("sign", .str s)],rfl,(Sto.set_ne had).trans ha,Sto.set_self,by kernel_rfl,Nat.le_of_ble_eq_true rfl,?_⟩
 rw [Sto.set_set]
 walk_at "go"
 refine es_setattr T.X ?_
 walk_at "go"
 refine ⟨a,_,d,[("hands", .int h),("most", .int m),("sign", .str s),("liars", .list (L.map .int))],rfl,(Sto.set_ne had).trans ha,Sto.set_self,by kernel_rfl,Nat.le_of_ble_eq_true rfl,?_⟩
 rw [Sto.set_set]
 walk_at "go"
 refine es_setattr T.X ?_
 have hlen:((rngL 0 h).map AV.int).length=h.toNat:=by rw [List.length_map,rngL_len];walk_at "rm"
 refine ev_map [] (JE (σ.set d (.dct (atts [("hands", .int h),("most", .int m),("sign", .str s),("liars", .list (L.map .int)),("round", .int 0)]))) h.toNat) hsc (by rfl) (by walk_at "ctor") ?_ ?_ ?_
 ·(refine cb_range T (by assumption) (by rfl) ?_;walk_at "go")
  exact cal_range1 ⟨_,iter_rng hh' (by decide) (by decide) (by walk_at "rm") (by walk_at "rm"),by rw [hlen,sizeLine_eq];walk_at "rm", hlen ▸ JE.start _ _⟩
 ·intro c₂ hA₂ hsc₂ y rest acc σ₁ hJ
  exact hJ.step hS
 ·rintro acc σ₁ ⟨E,rfl,e2,e3,e6,e5⟩
  have e4:∀ b x,_=some x→σ₁ b=some x:=fun b x hb=>(e6 b (fun hE=>by rw [(e3 b hE).2] at hb;cases hb)).trans hb
  walk_at "go"
  refine ⟨a,_,d,_,rfl,e4 _ _ ((Sto.set_ne had).trans ha),e4 _ _ Sto.set_self,by kernel_rfl,Nat.le_of_ble_eq_true rfl,?_⟩
  walk_at "go"
  have hEd:∀ e∈E,e≠d∧e≠a∧σ e=none:=fun e he=>by
   have h1:=(e3 e he).2
   have hed:e≠d:=by rintro rfl;rw [Sto.set_self] at h1;cases h1
   rw [Sto.set_ne hed] at h1
   exact ⟨hed,(by rintro rfl;rw [ha] at h1;cases h1),h1⟩
  refine q E _ ((Sto.set_ne had).trans (e4 _ _ ((Sto.set_ne had).trans ha))) Sto.set_self e2 (fun e he=>⟨(Sto.set_ne (hEd e he).1).trans (e3 e he).1,(hEd e he).2.2⟩) (fun b x hb hbd=>?_) (by simpa using e5)
  rw [Sto.set_ne hbd]
  exact e4 _ _ ((Sto.set_ne hbd).trans hb)
noncomputable def Kn (a d:Addr) (E:List Addr):List Addr:=a::d::E
noncomputable def TB (a d:Addr) (E:List Addr) (H M:Int) (s:Str) (L:List Int) (ls:Lies) (n:Int) (σ':Sto):Prop:=σ' a=some (.inst 228 d)∧σ' d=some (.dct (atts (tbl H M s L n E)))∧a∉E∧d∉E∧Ears σ' E H (Dm H n) (HV s ls)
theorem TB.live {a d:Addr} {E:List Addr} {H M:Int} {s:Str} {L:List Int} {ls:Lies} {n:Int} {σ:Sto} (t:TB a d E H M s L ls n σ) {k:Addr} (hk:k∈Kn a d E):∃ x,σ k=some x:=by
 obtain ⟨t1,t2,_,_,t5⟩:=t
 rcases List.mem_cons.mp hk with rfl | hk
 ·exact ⟨_,t1⟩
 rcases List.mem_cons.mp hk with rfl | hk
 ·exact ⟨_,t2⟩
 obtain ⟨i,hi,rfl⟩:=List.getElem_of_mem hk
 have hEl:=t5.2.1
 obtain ⟨e',g1,g2⟩:=t5.2.2 (i:Int) (by walk_at "rm") (by walk_at "rm")
 rw [Int.toNat_natCast,List.getElem?_eq_getElem hi] at g1
 injection g1 with g1
 exact ⟨_,g1 ▸ g2⟩
theorem TB.le {a d:Addr} {E:List Addr} {H M:Int} {s:Str} {L:List Int} {ls:Lies} {n:Int} {σ σ':Sto} (t:TB a d E H M s L ls n σ) (h:∀ k∈Kn a d E,∀ x,σ k=some x→σ' k=some x):TB a d E H M s L ls n σ':=by
 have t0:=t
 obtain ⟨t1,t2,t3,t4,t5⟩:=t
 refine ⟨h _ List.mem_cons_self _ t1,h _ (List.mem_cons_of_mem _ List.mem_cons_self) _ t2,t3,t4,t5.keep fun e he=>?_⟩
 have hm:e∈Kn a d E:=List.mem_cons_of_mem _ (List.mem_cons_of_mem _ he)
 obtain ⟨x,hx⟩:=t0.live hm
 rw [h e hm x hx,hx]
theorem make_spec {Q:AV→Sto→Prop} (T:TopG g (KK g)) (hS:∃ f o,sysModules≤f∧g.H₀.get? f=some o) (hd:c.A.depth+6 < recursionLimit) (hh:c.A.handled=none) (hu:c.A.units+70 < cLine) {h m:Int} {s:Str} {L:List Int} (h0:2≤h) (h1:h≤10) (m0:0≤m) (m1:m≤2) (hs:okS s) (hn:L.Nodup) (hL:∀ x∈L,0≤x∧x < h) (hz:L.length≤100) {v:AV} (hv:LV v (L.map .int))
  (q:∀ a d E σ',(∀ ls,TB a d E h m s L ls 0 σ')→σ.le σ'→Q (.obj a) σ'):cal c (.ref 228) [.int h,.int m,.str s,v] σ Q:=by
 refine cal_make T.X km_Table hS fun a d fa fd had c'' hcd hch hcu=>?_
 refine init_spec T hS (by rw [hcd];walk_at "rm") (hch.trans hh) (by rw [hcu];walk_at "rm") h0 h1 m0 m1 hs hn hL hz hv Sto.set_self ((Sto.set_ne had.symm).trans Sto.set_self) fun E σ₁ b1 b2 b3 b4 b5 b6=>⟨rfl,?_⟩
 have haE:a∉E:=fun h=>by have:=(b4 a h).2;rw [Sto.set_self] at this;cases this
 have hdE:d∉E:=fun h=>by have:=(b4 d h).2;rw [Sto.set_ne had.symm,Sto.set_self] at this;cases this
 refine q a d E σ₁ (fun ls=>⟨b1,b2,haE,hdE,JE.ears (σ:=σ₁) b3 (fun e he=>(b4 e he).1) b6⟩) fun b x hb=>b5 b x ((Sto.set_ne (by rintro rfl;rw [fa] at hb;cases hb)).trans ((Sto.set_ne (by rintro rfl;rw [fd] at hb;cases hb)).trans hb)) (by rintro rfl;rw [fd] at hb;cases hb)
theorem le_two {a d:Addr} {x y:AObj} (ha:σ a=none) (hd:σ d=none) (had:a≠d):σ.le ((σ.set d x).set a y):=(Sto.le.refl σ |>.new hd).new ((Sto.set_ne had).trans ha)
theorem make_xs {P:Sto→Prop} {l:List Env} (T:TopG g (KK g)) (hS:∃ f o,sysModules≤f∧g.H₀.get? f=some o) (fr:FrA c.A l) (hd:c.A.depth+6 < recursionLimit) (hh:c.A.handled=none) {h m:Int} (h0:2≤h) (h1:h≤10) (m0:0≤m) (m1:m≤2) {s v:AV} (hs:BadS s) (hp:∀ σ',σ.le σ'→P σ') :
  calX c l (.ref 228) [.int h,.int m,s,v] σ 49 P:=by
 refine calX_make T.X km_Table hS fr fun a d fa fd had c₁ k1 k2 k3 fr₁ s₁ vs i₁ r₁=>?_
 refine codeX_fn (rest:=[]) (fn_Table___init__ T) (by kernel_rfl) (by exact o155 hd k1) rfl fr₁ (fun c' hsc hfn hA fr'=>?_) i₁ r₁
 have hh':c'.A.handled=none:=by rw [hA];exact k2.trans hh
 have hd':c'.A.depth+3 < recursionLimit:=by rw [hA];show c₁.A.depth+1+3 < _;exact o156 hd k1
 show esX c' _ [(("self":Str),some _),(("hands":Str),some _),(("most":Str),some _),(("sign":Str),some _),(("liars":Str),some _)] (execs (_::_) c'.env) _ _ _
 refine esX_seq fun E=>?_
 walk_at "go"
 (refine ev_callF T (by assumption) n_need_table (by rfl) k_need_table ?_;walk_at "go")
 refine needTable_spec T (by show c'.A.depth+1 < _;walk_at "rm") h0 h1 m0 m1 ⟨rfl,?_⟩
 refine esX_head (esX_expr (evX_callF T hsc (by rfl) (by rfl) (by rfl) fun E=>?_) (by with_unfolding_all rfl))
 walk_at "go"
 exact needSign_x T fr' (by walk_at "rm") hh' hs (hp _ (le_two fa fd had))
theorem make_xh {P:Sto→Prop} {l:List Env} (T:TopG g (KK g)) (hS:∃ f o,sysModules≤f∧g.H₀.get? f=some o) (fr:FrA c.A l) (hd:c.A.depth+6 < recursionLimit) (hh:c.A.handled=none) (hu:c.A.units+70 < cLine) {h m:Int} {s:Str} (h0:2≤h) (h1:h≤10) (m0:0≤m) (m1:m≤2) (hs:okS s) {L:List Int} (hn:L.Nodup) (hL:∀ x∈L,0≤x∧x < h) (hz:L.length≤100) {x:AV} {xs:List AV} (hx:BadH h x∨∃ i∈L,x = .int i) {v:AV} (hv:LV v (L.map .int++x::xs)) (hp:∀ σ',σ.le σ'→P σ') :
  calX c l (.ref 228) [.int h,.int m,.str s,v] σ 61 P:=by
 refine calX_make T.X km_Table hS fr fun a d fa fd had c₁ k1 k2 k3 fr₁ s₁ vs i₁ r₁=>?_
 refine codeX_fn (rest:=[]) (fn_Table___init__ T) (by kernel_rfl) (by exact o155 hd k1) rfl fr₁ (fun c' hsc hfn hA fr'=>?_) i₁ r₁
 have hh':c'.A.handled=none:=by rw [hA];exact k2.trans hh
 have hd':c'.A.depth+3 < recursionLimit:=by rw [hA];show c₁.A.depth+1+3 < _;exact o156 hd k1
 have hu':c'.A.units+50 < cLine:=by rw [hA];show c₁.A.units+3+50 < cLine;exact o157 hu k3
 show esX c' _ [(("self":Str),some _),(("hands":Str),some _),(("most":Str),some _),(("sign":Str),some _),(("liars":Str),some _)] (execs (_::_) c'.env) _ _ _
 refine esX_seq fun E=>?_
 walk_at "go"
 (refine ev_callF T (by assumption) n_need_table (by rfl) k_need_table ?_;walk_at "go")
 refine needTable_spec T (by show c'.A.depth+1 < _;walk_at "rm") h0 h1 m0 m1 ⟨rfl,?_⟩
 refine esX_seq fun E=>?_
 walk_at "go"
 (refine ev_callF T (by assumption) n_need_sign (by rfl) k_need_sign ?_;walk_at "go")
 refine needSign_spec (c:=c'.re E) T (by show c'.A.depth+1 < _;walk_at "rm") hh' hs ⟨rfl,?_⟩
 refine esX_head (esX_expr (evX_callF T hsc (by rfl) (by rfl) (by rfl) fun E=>?_) (by with_unfolding_all rfl))
 walk_at "go"
 exact needLiars_x T fr' (by walk_at "rm") hh' (by walk_at "rm") hn hL hz hx hv fun b hb=>hp _ ((le_two fa fd had).new hb)
theorem lpaths_ok {h n:Int} (h2:2≤h) (n1:1≤n) {p:List Int} (hp:p∈lpaths h n):p≠[]∧(p.length:Int)=n∧(∀ y∈p,0≤y∧y < h):=by
 obtain ⟨_,hp'⟩:=(mem_lpaths h2 n1).mp hp
 have hs:=lpaths_size hp
 exact ⟨(by rintro rfl;simp at hs;exact o158 n1 hs),hs,(pathsN_ok (by walk_at "rm") _ p hp').2.1⟩
theorem lpaths_last {h n:Int} (h2:2≤h) (n1:2≤n) {p:List Int} (hp:p∈lpaths h n):∃ p0 y,p=p0++[y]∧p0∈lpaths h (n - 1)∧y∈hears h p0:=by
 obtain ⟨hn,hp'⟩:=(mem_lpaths h2 (by walk_at "rm")).mp hp
 obtain ⟨j,hj⟩:∃ j,(n - 1).toNat=j+1:=⟨(n - 2).toNat,by exact o159 n1⟩
 rw [hj] at hp'
 obtain ⟨p0,h0,y,hy,rfl⟩:=mem_nexts.mp hp'
 refine ⟨p0,y,rfl,(mem_lpaths h2 (by exact o96 n1)).mpr ⟨by exact o160 hn,?_⟩,hy⟩
 rw [show (n - 1 - 1).toNat=j by exact o161 n1 hj];exact h0
theorem honest_spec {Q:AV→Sto→Prop} (T:TopG g (KK g)) (hd:c.A.depth < recursionLimit) (hu:c.A.units+20 < cLine) {h m r n:Int} {s:Str} {L:List Int} {E:List Addr} {ls:Lies} {a d:Addr} (h0:2≤h) (h1:h≤10) (n0:1≤n) (n1:n≤3) (ha:σ a=some (.inst 228 d)) (hd0:σ d=some (.dct (atts (tbl h m s L r E)))) (hE:Ears σ E h (Dm h (n - 1)) (HV s ls)) {p:List Int} (hp:p∈lpaths h n) (q:Q (sg (tru s ls p)) σ) :
  cal c (.ref 206) [.obj a,pth p] σ Q:=by
 refine cal_fn (rest:=[]) (fn_Table_honest T) (by kernel_rfl) hd rfl fun c' hsc hfn hA=>?_
 have hu':c'.A.units+10 < cLine:=by rw [hA];show c.A.units+3+10 < cLine;walk_at "rm"
 obtain ⟨p1,p2,p3⟩:=lpaths_ok h0 n0 hp
 show es c' [(("self":Str),some _),(("path":Str),some _)] (execs (_::_) c'.env) σ _
 walk_at "go"
 (refine cb_len T (by assumption) (by rfl) ?_;walk_at "go")
 refine cal_len_tup (by rw [List.length_map];exact o162 n0 n1 p2) ?_
 rw [List.length_map]
 walk_at "go"
 ·rename_i e
  have e1:p.length=1:=by simp only [beq_iff_eq] at e;exact o163 e
  (refine ev_attrN T.X (by walk_at "ctor") ha hd0 (by kernel_rfl) (by rfl) (by rfl) ?_;walk_at "go")
  unfold tru at q
  rw [if_pos e1] at q
  exact q
 ·rename_i e
  have e1:p.length≠1:=by
   intro e1;rw [e1] at e;cases e
  obtain ⟨p0,y,rfl,hp0,hy⟩:=lpaths_last h0 (by walk_at "rm") hp
  have hp0':=lpaths_ok h0 (by walk_at "rm") hp0
  obtain ⟨⟨y0,y1⟩,hyp⟩:=mem_hears.mp hy
  obtain ⟨e,f1,f2⟩:=hE.2.2 y y0 y1
  unfold tru at q
  rw [if_neg e1,List.dropLast_concat,List.getLastD_concat] at q
  (refine ev_attrN T.X (by walk_at "ctor") ha hd0 (by kernel_rfl) (by rfl) (by rfl) ?_;walk_at "go")
  refine sub_tup (j:=p0.length) (y := .int y) (by decide) (by decide) (by rw [List.length_map,List.length_append];exact seq_last _) (by simp) ?_
  refine sub_list (y := .obj e) .list y0 (by walk_at "rm") (by rw [List.getElem?_map,f1];rfl) ?_
  refine ev_init ?_
  walk_at "go"
  refine ⟨_,rfl,rfl,by rw [List.length_map,List.length_append];exact Nat.le_add_left _ _,by rw [List.length_map];walk_at "rm", ?_⟩
  have et:AV.tup (((p0++[y]).map AV.int).take (((p0++[y]).map AV.int).length - 1))=pth p0:=by
   unfold pth
   rw [List.map_append,List.length_append,List.take_left' (by simp)]
  rw [et]
  refine sub_dict (.obj f2) (encP_tkeys _ _) (pth_tkey p0) (dget_encP (Dm_mem (by walk_at "rm") (Int.le_refl _) hp0 hyp)) (by walk_at "rm") ?_
  walk_at "go"
  exact q
theorem getD_sg (o:Option (Option Str)) (t:Option Str):(o.map sg).getD (sg t)=sg (o.getD t):=by cases o <;> rfl
theorem play_spec {Q:AV→Sto→Prop} (T:TopG g (KK g)) (hd:c.A.depth+6 < recursionLimit) (hh:c.A.handled=none) (hu:c.A.units+100 < cLine) {h m n:Int} {s:Str} {L:List Int} {E:List Addr} {ls lt:Lies} {a d:Addr} (h0:2≤h) (h1:h≤10) (m1:m≤2) (n0:0≤n) (n1:n≤m) (ha:σ a=some (.inst 228 d)) (hd0:σ d=some (.dct (atts (tbl h m s L n E)))) (haE:a∉E) (hdE:d∉E) (hE:Ears σ E h (Dm h n) (HV s ls))
  (hl:∀ e∈lt,GoodK h L (lpaths h (n+1)) e.1∧e.1.1.length≤10∧okV e.2) (hlt:∀ p x,p∈lpaths h (n+1)→lget lt (p,x)=lget ls (p,x))
  (q:∀ σ',σ' a=some (.inst 228 d)→σ' d=some (.dct (atts (tbl h m s L (n+1) E)))→Ears σ' E h (Dm h (n+1)) (HV s ls)→(∀ b x,σ b=some x→b∉E→b≠d→σ' b=some x)→Q .none σ') :
  cal c (.ref 211) [.obj a,.dict (encL lt)] σ Q:=by
 refine cal_fn (rest:=["rows", "said", "path", "sign", "hearer"]) (fn_Table_play T) (by kernel_rfl) (by walk_at "rm") rfl fun c' hsc hfn hA=>?_
 have hh':c'.A.handled=none:=by rw [hA];exact hh
 have hu':c'.A.units+90 < cLine:=by rw [hA];show c.A.units+3+90 < cLine;walk_at "rm"
 have hd':c'.A.depth+5 < recursionLimit:=by rw [hA];show c.A.depth+1+5 < _;walk_at "rm"
 have had:a≠d:=by rintro rfl;rw [ha] at hd0;cases hd0
 have hll:=lpaths_len (n:=n+1) h1 (by exact o164 m1 n1)
 show es c' [(("self":Str),some _),(("lies":Str),some _),(("rows":Str),none),(("said":Str),none),(("path":Str),none),(("sign":Str),none),(("hearer":Str),none)] (execs (_::_) c'.env) σ _
 walk_at "go"
 (refine ev_attrN T.X (by walk_at "ctor") ha hd0 (by kernel_rfl) (by rfl) (by rfl) ?_;walk_at "go")
 (refine ev_attrN T.X (by walk_at "ctor") ha hd0 (by kernel_rfl) (by rfl) (by rfl) ?_;walk_at "go")
 ·rename_i e;simp at e;exact (o165 n1 e).elim
 (refine ev_callF T (by assumption) n_paths_of (by rfl) k_paths_of ?_;walk_at "go")
 (refine ev_attrN T.X (by walk_at "ctor") ha hd0 (by kernel_rfl) (by rfl) (by rfl) ?_;walk_at "go")
 (refine ev_attrN T.X (by walk_at "ctor") ha hd0 (by kernel_rfl) (by rfl) (by rfl) ?_;walk_at "go")
 (refine ev_attrN T.X (by walk_at "ctor") ha hd0 (by kernel_rfl) (by rfl) (by rfl) ?_;walk_at "go")
 refine pathsOf_spec T (by walk_at "rm") hh' (by walk_at "rm") h0 h1 (by exact o166 n0 n1) m1 (by walk_at "rm") (by exact o167 n1) ?_
 walk_at "go"
 (refine ev_callF T (by assumption) n_need_lies (by rfl) k_need_lies ?_;walk_at "go")
 (refine ev_attrN T.X (by walk_at "ctor") ha hd0 (by kernel_rfl) (by rfl) (by rfl) ?_;walk_at "go")
 (refine ev_attrN T.X (by walk_at "ctor") ha hd0 (by kernel_rfl) (by rfl) (by rfl) ?_;walk_at "go")
 refine needLies_spec T (by walk_at "rm") hh' (by walk_at "rm") (by walk_at "rm") h1 hl ?_
 walk_at "go"
 refine es_mapP [(("self":Str),some (AV.obj a))] pth (lpaths h (n+1)) (fun p=>AV.tup [pth p,sg (tru s ls p)]) hfn hsc (by rfl) (by rfl) (by walk_at "ctor") (by rw [sizeLine_eq];walk_at "rm") ?_ ?_ ?_
 ·walk_at "go"
  exact ⟨rfl,iter_list hh' _⟩
 ·intro c₂ hA₂ hsc₂ p hp
  rw [← hA₂] at hd' hu'
  refine ev_tuple ?_
  walk_at "go"
  (refine ev_methI T.X k_Table_honest ?_;walk_at "go")
  refine ⟨a,_,d,_,rfl,ha,hd0,by kernel_rfl,by rfl,?_⟩
  walk_at "go"
  refine honest_spec T (by walk_at "rm") (by walk_at "rm") h0 h1 (by walk_at "rm") (by exact o164 m1 n1) ha hd0 (by rw [Int.add_sub_cancel];exact hE) hp ?_
  walk_at "go"
  exact ⟨sz,rfl,rfl⟩
 refine made_frz (upd_ex (by walk_at "ctor") ?_)
 walk_at "go"
 refine es_for2 (fun l ρ' σ'=>∃ dn rs:List (List Int),lpaths h (n+1)=dn++rs∧l=rs.map (fun p=>AV.tup [pth p,sg (tru s ls p)])∧(σ' a=some (.inst 228 d)∧σ' d=some (.dct (atts (tbl h m s L n E)))∧Ears σ' E h (DD h n dn) (HV s ls)∧∀ b x,σ b=some x→b∉E→σ' b=some x)∧ρ'=[(("self":Str),some (AV.obj a)),(("lies":Str),some (AV.dict (encL lt))),(("rows":Str),some (AV.list ((lpaths h (n+1)).map pth))),(("said":Str),some (AV.list ((lpaths h (n+1)).map fun p=>AV.tup [pth p,sg (tru s ls p)]))),(("path":Str),none),(("sign":Str),none),(("hearer":Str),none)]) hfn hh' ?_ ?_ ?_
 ·walk_at "go"
  exact ⟨_,iter_list hh' _,[],lpaths h (n+1),rfl,rfl,⟨ha,hd0,hE.imp (fun x _ _=>(DD_nil h n x).symm),fun b x hb _=>hb⟩,rfl⟩
 ·rintro c₂ hA₂ hsc₂ hfn₂ y rest ρ₁ σ₁ ⟨dn,rs,hdr,hr,⟨w1,w2,w3,w4⟩,rfl⟩
  rw [hsc] at hsc₂
  rw [← hA₂] at hd' hh' hu'
  cases rs with
  | nil=>cases hr
  | cons p rs =>
   rw [List.map_cons] at hr
   injection hr with e1 e2
   subst e1;subst e2
   have hpm:p∈lpaths h (n+1):=by rw [hdr];simp
   obtain ⟨pne,psz,_⟩:=lpaths_ok h0 (by walk_at "rm") hpm
   refine ⟨_,_,_,_,rfl,by walk_at "ctor", by walk_at "ctor", ?_⟩
   walk_at "go"
   refine es_loop (fun l ρ' σ'=>∃ d' r':List Int,hears h p=d'++r'∧l=r'.map AV.int∧(σ' a=some (.inst 228 d)∧σ' d=some (.dct (atts (tbl h m s L n E)))∧Ears σ' E h (D3 h n dn p d') (HV s ls)∧∀ b x,σ b=some x→b∉E→σ' b=some x)∧ρ'=[(("self":Str),some (AV.obj a)),(("lies":Str),some (AV.dict (encL lt))),(("rows":Str),some (AV.list ((lpaths h (n+1)).map pth))),(("said":Str),some (AV.list ((lpaths h (n+1)).map fun p=>AV.tup [pth p,sg (tru s ls p)]))),(("path":Str),some (pth p)),(("sign":Str),some (sg (tru s ls p))),(("hearer":Str),none)]) hfn₂ ?_ ?_ ?_
   ·(refine ev_callF T (by assumption) n_hearers (by rfl) k_hearers ?_;walk_at "go")
    (refine ev_attrN T.X (by walk_at "ctor") w1 w2 (by kernel_rfl) (by rfl) (by rfl) ?_;walk_at "go")
    refine hearers_spec T (by walk_at "rm") hh' (by walk_at "rm") (by walk_at "rm") (by walk_at "rm") ?_
    exact ⟨_,iter_list hh' _,[],hears h p,rfl,rfl,⟨w1,w2,w3.imp (fun x _ _=>(D3_nil h n x dn p).symm),w4⟩,rfl⟩
   ·rintro c₃ hA₃ hsc₃ hfn₃ y rest ρ₁ σ₂ ⟨d',r',hdr',hr',⟨v1,v2,v3,v4⟩,rfl⟩
    rw [hsc₂] at hsc₃
    rw [← hA₃] at hd' hh' hu'
    cases r' with
    | nil=>cases hr'
    | cons x r' =>
     rw [List.map_cons] at hr'
     injection hr' with e1 e2
     subst e1;subst e2
     have hx:x∈hears h p:=by rw [hdr'];simp
     obtain ⟨⟨x0,x1⟩,_⟩:=mem_hears.mp hx
     obtain ⟨e,f1,f2⟩:=v3.2.2 x x0 x1
     have hxd:x∉d':=by
      have hnd:=hears_nodup h p
      rw [hdr'] at hnd
      exact fun hm=>(List.nodup_append.mp hnd).2.2 x hm x List.mem_cons_self rfl
     have heE:=List.mem_of_getElem? f1
     walk_at "go"
     refine ev_meth F.plainAttrs_dict F.slot_dict_get F.type_dict_get ?_
     walk_at "go"
     refine ⟨.dict,?_⟩
     walk_at "go"
     refine ev_tuple ?_
     walk_at "go"
     refine ⟨sz,?_⟩
     walk_at "go"
     refine cal_get2 (k:=lkey (p,x)) .dict (encL_tkeys lt) (lkey_tkey _) (by walk_at "rm") ?_
     rw [dget_enc,hlt p x hpm,getD_sg,← HV_eq s ls pne x]
     walk_at "go"
     (refine ev_attrN T.X (by walk_at "ctor") v1 v2 (by kernel_rfl) (by rfl) (by rfl) ?_;walk_at "go")
     refine sub_list (y := .obj e) .list x0 (by walk_at "rm") (by rw [List.getElem?_map,f1];rfl) ?_
     walk_at "go"
     refine set_dict f2 (encP_tkeys _ _) (pth_tkey p) (by unfold encP;rw [List.length_map,sizeLine_eq];exact Nat.le_trans (D3_len h1 n0 (by exact o168 m1 n1 psz) hdr) (by decide)) (by walk_at "rm") ?_
     walk_at "go"
     refine trn_next (by walk_at "ctor") ⟨d'++[x],r',by rw [hdr'];simp,rfl,⟨(Sto.set_ne (by rintro rfl;exact haE heE)).trans v1,(Sto.set_ne (by rintro rfl;exact hdE heE)).trans v2,?_,fun b z hb hbE=>(Sto.set_ne (by rintro rfl;exact hbE heE)).trans (v4 b z hb hbE)⟩,rfl⟩
     exact (v3.put x0 f1 (D3_not hdr hxd)).imp fun y _ _=>D3_put hxd y
   ·rintro ρ₁ σ₂ ⟨d',r',hdr',hr',⟨v1,v2,v3,v4⟩,rfl⟩
    have hr0:r'=[]:=by cases r' with | nil=>rfl | cons _ _=>cases hr'
    subst hr0
    rw [List.append_nil] at hdr'
    walk_at "go"
    exact trn_next (by walk_at "ctor") ⟨dn++[p],rs,by rw [hdr];simp,rfl,⟨v1,v2,v3.imp (fun x x0 x1=>by rw [← hdr'];exact D3_end x0 x1),v4⟩,rfl⟩
 ·rintro ρ₁ σ₁ ⟨dn,rs,hdr,hr,⟨w1,w2,w3,w4⟩,rfl⟩
  have hr0:rs=[]:=by cases rs with | nil=>rfl | cons _ _=>cases hr
  subst hr0
  rw [List.append_nil] at hdr
  refine thn_next ?_
  walk_at "go"
  refine es_setattr T.X ?_
  walk_at "go"
  (refine ev_attrN T.X (by walk_at "ctor") w1 w2 (by kernel_rfl) (by rfl) (by rfl) ?_;walk_at "go")
  refine ⟨a,_,d,_,rfl,w1,w2,by kernel_rfl,Nat.le_of_ble_eq_true rfl,?_⟩
  walk_at "go"
  exact q _ ((Sto.set_ne had).trans w1) Sto.set_self ((w3.imp (fun x _ _=>by rw [← hdr];exact DD_all n0)).keep fun e he=>Sto.set_ne (by rintro rfl;exact hdE he)) (fun b x hb hbE hbd=>(Sto.set_ne hbd).trans (w4 b x hb hbE))
theorem play_x {P:Sto→Prop} {l:List Env} (T:TopG g (KK g)) (fr:FrA c.A l) (hd:c.A.depth+6 < recursionLimit) (hh:c.A.handled=none) (hu:c.A.units+100 < cLine) {h m n:Int} {s:Str} {L:List Int} {E:List Addr} {a d:Addr} (h0:2≤h) (h1:h≤10) (m1:m≤2) (n0:0≤n) (n1:n≤m) (ha:σ a=some (.inst 228 d)) (hd0:σ d=some (.dct (atts (tbl h m s L n E))))
  {gs:Lies} (hl:∀ e∈gs,GoodK h L (lpaths h (n+1)) e.1∧e.1.1.length≤10∧okV e.2) {k v:AV} {D:List (AV×AV)} {C:Addr}
  (hC:(BadK h L (lpaths h (n+1)) k∧C=73)∨(∃ k',k=lkey k'∧GoodK h L (lpaths h (n+1)) k'∧k'.1.length≤10)∧BadS v∧isNoneA v=false∧C=49) (tl:tkeys (encL gs++(k,v)::D)) (hn:((encL gs++(k,v)::D).map (·.1)).Nodup) (hp:P σ) :
  calX c l (.ref 211) [.obj a,.dict (encL gs++(k,v)::D)] σ C P:=by
 refine calX_fn (rest:=["rows", "said", "path", "sign", "hearer"]) (fn_Table_play T) (by kernel_rfl) (by walk_at "rm") rfl fr fun c' hsc hfn hA fr'=>?_
 have hh':c'.A.handled=none:=by rw [hA];exact hh
 have hu':c'.A.units+90 < cLine:=by rw [hA];show c.A.units+3+90 < cLine;walk_at "rm"
 have hd':c'.A.depth+5 < recursionLimit:=by rw [hA];show c.A.depth+1+5 < _;walk_at "rm"
 show esX c' _ [(("self":Str),some _),(("lies":Str),some _),(("rows":Str),none),(("said":Str),none),(("path":Str),none),(("sign":Str),none),(("hearer":Str),none)] (execs (_::_) c'.env) σ _ _
 refine esX_seq fun E=>?_
 walk_at "go"
 (refine ev_attrN T.X (by walk_at "ctor") ha hd0 (by kernel_rfl) (by rfl) (by rfl) ?_;walk_at "go")
 (refine ev_attrN T.X (by walk_at "ctor") ha hd0 (by kernel_rfl) (by rfl) (by rfl) ?_;walk_at "go")
 ·rename_i e;simp at e;exact (o165 n1 e).elim
 refine ⟨rfl,esX_seq fun E=>?_⟩
 walk_at "go"
 (refine ev_callF T (by assumption) n_paths_of (by rfl) k_paths_of ?_;walk_at "go")
 (refine ev_attrN T.X (by walk_at "ctor") ha hd0 (by kernel_rfl) (by rfl) (by rfl) ?_;walk_at "go")
 (refine ev_attrN T.X (by walk_at "ctor") ha hd0 (by kernel_rfl) (by rfl) (by rfl) ?_;walk_at "go")
 (refine ev_attrN T.X (by walk_at "ctor") ha hd0 (by kernel_rfl) (by rfl) (by rfl) ?_;walk_at "go")
 refine pathsOf_spec (c:=c'.re E) T (by show c'.A.depth+4 < _;walk_at "rm") hh' (by show c'.A.units+70 < _;walk_at "rm") h0 h1 (by exact o166 n0 n1) m1 (by walk_at "rm") (by exact o167 n1) ?_
 walk_at "go"
 refine ⟨rfl,esX_head (esX_expr (evX_callF T hsc (by rfl) (by rfl) (by rfl) fun E=>?_) (by with_unfolding_all rfl))⟩
 walk_at "go"
 (refine ev_attrN T.X (by walk_at "ctor") ha hd0 (by kernel_rfl) (by rfl) (by rfl) ?_;walk_at "go")
 (refine ev_attrN T.X (by walk_at "ctor") ha hd0 (by kernel_rfl) (by rfl) (by rfl) ?_;walk_at "go")
 exact needLies_x T fr' (by walk_at "rm") hh' (by walk_at "rm") (by walk_at "rm") h1 hl hC tl hn hp
theorem play_over {P:Sto→Prop} {l:List Env} (T:TopG g (KK g)) (fr:FrA c.A l) (hd:c.A.depth+6 < recursionLimit) (hh:c.A.handled=none) {h m:Int} {s:Str} {L:List Int} {E:List Addr} {a d:Addr} {y:AV} (ha:σ a=some (.inst 228 d)) (hd0:σ d=some (.dct (atts (tbl h m s L (m+1) E)))) (hp:P σ) :
  calX c l (.ref 211) [.obj a,y] σ 85 P:=by
 refine calX_fn (rest:=["rows", "said", "path", "sign", "hearer"]) (fn_Table_play T) (by kernel_rfl) (by walk_at "rm") rfl fr fun c' hsc hfn hA fr'=>?_
 have hh':c'.A.handled=none:=by rw [hA];exact hh
 show esX c' _ [(("self":Str),some _),(("lies":Str),some _),(("rows":Str),none),(("said":Str),none),(("path":Str),none),(("sign":Str),none),(("hearer":Str),none)] (execs (_::_) c'.env) σ _ _
 refine esX_head (esX_if fun E=>?_)
 walk_at "go"
 (refine ev_attrN T.X (by walk_at "ctor") ha hd0 (by kernel_rfl) (by rfl) (by rfl) ?_;walk_at "go")
 (refine ev_attrN T.X (by walk_at "ctor") ha hd0 (by kernel_rfl) (by rfl) (by rfl) ?_;walk_at "go")
 ·exact esX_head (esX_raise hh' fr' (T.glob n_Over (by decide)) (by rw [hsc];rfl) (ex_Over T) hp)
 ·rename_i e;simp at e;exact (o169 e).elim
theorem told_x {P:Sto→Prop} {l:List Env} (T:TopG g (KK g)) (fr:FrA c.A l) (hd:c.A.depth+6 < recursionLimit) (hh:c.A.handled=none) {h m n:Int} {s:Str} {L:List Int} {E:List Addr} {a d:Addr} {y:AV} (ha:σ a=some (.inst 228 d)) (hd0:σ d=some (.dct (atts (tbl h m s L n E)))) (hy:BadH h y) (hp:P σ) :
  calX c l (.ref 218) [.obj a,y] σ 61 P:=by
 refine calX_fn (rest:=[]) (fn_Table_told T) (by kernel_rfl) (by walk_at "rm") rfl fr fun c' hsc hfn hA fr'=>?_
 have hh':c'.A.handled=none:=by rw [hA];exact hh
 have hd':c'.A.depth+5 < recursionLimit:=by rw [hA];show c.A.depth+1+5 < _;walk_at "rm"
 show esX c' _ [(("self":Str),some _),(("hand":Str),some _)] (execs (_::_) c'.env) σ _ _
 refine esX_head (esX_expr (evX_callF T hsc (by rfl) (by rfl) (by rfl) fun E=>?_) (by with_unfolding_all rfl))
 walk_at "go"
 (refine ev_attrN T.X (by walk_at "ctor") ha hd0 (by kernel_rfl) (by rfl) (by rfl) ?_;walk_at "go")
 exact needHand_x T fr' (by walk_at "rm") hh' hy hp
theorem says_x {P:Sto→Prop} {l:List Env} (T:TopG g (KK g)) (fr:FrA c.A l) (hd:c.A.depth+6 < recursionLimit) (hh:c.A.handled=none) {h m n:Int} {s:Str} {L:List Int} {E:List Addr} {a d:Addr} {y:AV} (ha:σ a=some (.inst 228 d)) (hd0:σ d=some (.dct (atts (tbl h m s L n E)))) (hy:BadH h y) (hp:P σ) :
  calX c l (.ref 225) [.obj a,y] σ 61 P:=by
 refine calX_fn (rest:=[]) (fn_Table_says T) (by kernel_rfl) (by walk_at "rm") rfl fr fun c' hsc hfn hA fr'=>?_
 have hh':c'.A.handled=none:=by rw [hA];exact hh
 have hd':c'.A.depth+5 < recursionLimit:=by rw [hA];show c.A.depth+1+5 < _;walk_at "rm"
 show esX c' _ [(("self":Str),some _),(("hand":Str),some _)] (execs (_::_) c'.env) σ _ _
 refine esX_head (esX_expr (evX_callF T hsc (by rfl) (by rfl) (by rfl) fun E=>?_) (by with_unfolding_all rfl))
 walk_at "go"
 (refine ev_attrN T.X (by walk_at "ctor") ha hd0 (by kernel_rfl) (by rfl) (by rfl) ?_;walk_at "go")
 exact needHand_x T fr' (by walk_at "rm") hh' hy hp
theorem says_early {P:Sto→Prop} {l:List Env} (T:TopG g (KK g)) (fr:FrA c.A l) (hd:c.A.depth+6 < recursionLimit) (hh:c.A.handled=none) {h m n x:Int} {s:Str} {L:List Int} {E:List Addr} {a d:Addr} (ha:σ a=some (.inst 228 d)) (hd0:σ d=some (.dct (atts (tbl h m s L n E)))) (n1:n≤m) (x0:0≤x) (x1:x < h) (hp:P σ) :
  calX c l (.ref 225) [.obj a,.int x] σ 97 P:=by
 refine calX_fn (rest:=[]) (fn_Table_says T) (by kernel_rfl) (by walk_at "rm") rfl fr fun c' hsc hfn hA fr'=>?_
 have hh':c'.A.handled=none:=by rw [hA];exact hh
 have hd':c'.A.depth+5 < recursionLimit:=by rw [hA];show c.A.depth+1+5 < _;walk_at "rm"
 show esX c' _ [(("self":Str),some _),(("hand":Str),some _)] (execs (_::_) c'.env) σ _ _
 refine esX_seq fun E=>?_
 walk_at "go"
 (refine ev_callF T (by assumption) n_need_hand (by rfl) k_need_hand ?_;walk_at "go")
 (refine ev_attrN T.X (by walk_at "ctor") ha hd0 (by kernel_rfl) (by rfl) (by rfl) ?_;walk_at "go")
 refine needHand_spec T (by show c'.A.depth+1 < _;walk_at "rm") x0 x1 ⟨rfl,?_⟩
 refine esX_head (esX_if fun E=>?_)
 walk_at "go"
 (refine ev_attrN T.X (by walk_at "ctor") ha hd0 (by kernel_rfl) (by rfl) (by rfl) ?_;walk_at "go")
 (refine ev_attrN T.X (by walk_at "ctor") ha hd0 (by kernel_rfl) (by rfl) (by rfl) ?_;walk_at "go")
 ·exact esX_head (esX_raise hh' fr' (T.glob n_NotOver (by decide)) (by rw [hsc];rfl) (ex_NotOver T) hp)
 ·rename_i e;simp at e;exact (o165 n1 e).elim
theorem abs_small {a:Int} (h0:0≤a) (h1:a < 1073741824):a.natAbs < 1073741824:=by have:=Int.natAbs_of_nonneg h0;exact o170 h0 h1 this
theorem fm_em (a:Int) {n:Int} (h:0 < n):Int.fmod a n=a % n:=Int.fmod_eq_emod_of_nonneg a (by exact o58 h)
theorem free_hand {h:Int} {L:List Int} (hl:(L.length:Int) < h):∃ z,0≤z∧z < h∧z∉L:=by
 refine Classical.byContradiction fun hn=>?_
 have:=sub_len (l:=rngL 0 h) (m:=L) (rngL_nodup 0 h) fun x hx=>by
  refine Classical.byContradiction fun hx'=>hn ⟨x,?_⟩
  exact ⟨(mem_rngL.mp hx).1,(mem_rngL.mp hx).2,hx'⟩
 rw [rngL_len] at this
 exact o171 hl this
theorem liars_spec {Q:AV→Sto→Prop} (T:TopG g (KK g)) (hd:c.A.depth < recursionLimit) (hh:c.A.handled=none) (hu:c.A.units+20 < cLine) {n h m:Int} (h0:2≤h) (h1:h≤10) (m0:0≤m) (m1:m≤h) (q:∀ L:List Int,L.Nodup→(∀ x∈L,0≤x∧x < h)→L.length≤10→Q (.list (L.map .int)) σ) :
  cal c (.ref 272) [.int n,.int h,.int m] σ Q:=by
 refine cal_fn (rest:=["_law_found", "_law_k", "_law_hand"]) (fn__law_liars T) (by kernel_rfl) hd rfl fun c' hsc hfn hA=>?_
 have hh':c'.A.handled=none:=by rw [hA];exact hh
 have hu':c'.A.units+10 < cLine:=by rw [hA];show c.A.units+3+10 < cLine;walk_at "rm"
 show es c' [(("_law_cell":Str),some _),(("_law_hands_here":Str),some _),(("_law_many":Str),some _),(("_law_found":Str),none),(("_law_k":Str),none),(("_law_hand":Str),none)] (execs (_::_) c'.env) σ _
 walk_at "go"
 refine ev_list (evl_nil ⟨by decide,.inr fun a ha=>?_⟩)
 walk_at "go"
 refine es_loop (fun l ρ' σ'=>∃ L r:List Int,L.Nodup∧(∀ x∈L,0≤x∧x < h)∧l=r.map AV.int∧(∀ k∈r,0≤k∧k < m)∧((L.length+r.length:Nat):Int)=m∧σ'=σ.set a (.lst (L.map .int))∧ρ'=[(("_law_cell":Str),some (AV.int n)),(("_law_hands_here":Str),some (AV.int h)),(("_law_many":Str),some (AV.int m)),(("_law_found":Str),some (AV.obj a)),(("_law_k":Str),none),(("_law_hand":Str),none)]) hfn ?_ ?_ ?_
 ·(refine cb_range T (by assumption) (by rfl) ?_;walk_at "go")
  exact cal_range1 ⟨_,iter_rng hh' (by decide) (by decide) (by walk_at "rm") (by exact o172 h0 h1 m1),[],rngL 0 m,List.nodup_nil,(fun _ h=>by cases h),rfl,fun k hk=>mem_rngL.mp hk,by rw [rngL_len];simp;walk_at "rm", rfl,rfl⟩
 ·rintro c₂ hA₂ hsc₂ hfn₂ y rest ρ₁ σ₁ ⟨L,r,l1,l2,hr,l3,l4,rfl,rfl⟩
  rw [hsc] at hsc₂
  rw [← hA₂] at hh' hu'
  cases r with
  | nil=>cases hr
  | cons k r =>
   rw [List.map_cons] at hr
   injection hr with e1 e2
   subst e1;subst e2
   obtain ⟨k0,k1⟩:=l3 k List.mem_cons_self
   rw [List.length_cons] at l4
   refine upd_ex (by walk_at "ctor") ?_
   walk_at "go"
   refine op_fdiv (by walk_at "rm") (abs_small (by exact o173 k0) (by exact o174 h0 h1 m0 m1 l4 k1)) ?_
   walk_at "go"
   refine op_fmod (by exact o175 h0 h1) ?_
   have y0:=fm_lo (n.fdiv (1+3 * k)) (n:=h) (by exact o176 h0 h1)
   have y1:=fm_hi (n.fdiv (1+3 * k)) (n:=h) (by exact o176 h0 h1)
   generalize (n.fdiv (1+3 * k)).fmod h=y at y0 y1 ⊢
   obtain ⟨z,z0,z1,z2⟩:=free_hand (h:=h) (L:=L) (by exact o177 m1 l4)
   walk_at "go"
   refine es_while (fun j ρ' σ'=>∃ y,0≤y∧y < h∧(y+(j:Int)) % h∉L∧σ'=σ.set a (.lst (L.map .int))∧ρ'=[(("_law_cell":Str),some (AV.int n)),(("_law_hands_here":Str),some (AV.int h)),(("_law_many":Str),some (AV.int m)),(("_law_found":Str),some (AV.obj a)),(("_law_k":Str),some (AV.int k)),(("_law_hand":Str),some (AV.int y))]) ((z - y) % h).toNat ⟨y,y0,y1,?_,rfl,rfl⟩ ?_
   ·have e:(y+(((z - y) % h).toNat:Int)) % h=z:=by
     rw [Int.toNat_of_nonneg (Int.emod_nonneg _ (by exact o175 h0 h1)),Int.add_emod_emod,show y+(z - y)=z by exact o178,Int.emod_eq_of_lt z0 z1]
    rw [e];exact z2
   ·rintro c₃ hA₃ hsc₃ hfn₃ j ρ₁ σ₂ ⟨y,y0,y1,hj,rfl,rfl⟩
    rw [← hA₃] at hu'
    walk_at "go"
    refine cmp_in_list (.obj Sto.set_self) (ints_plain L) (by rw [ints_deep];exact Nat.zero_le _) rfl (by walk_at "rm") ?_
    rw [ints_any]
    walk_at "go"
    ·rename_i hin
     have hin:y∈L:=by simpa using hin
     refine es_assign ?_ (hfn₃.trans hfn₂) (by with_unfolding_all rfl)
     walk_at "go"
     refine op_fmod (by exact o175 h0 h1) ?_
     walk_at "go"
     rw [fm_em _ (by exact o176 h0 h1)]
     cases j with
     | zero =>
      exfalso
      apply hj
      rw [show y+((0:Nat):Int)=y by exact o179,Int.emod_eq_of_lt y0 y1]
      exact hin
     | succ j =>
      refine ⟨rfl,j,_,Nat.lt_succ_self _,.refl _,(y+1) % h,Int.emod_nonneg _ (by exact o175 h0 h1),Int.emod_lt_of_pos _ (by exact o176 h0 h1),?_,rfl,rfl⟩
      rw [Int.emod_add_emod,show y+1+(j:Int)=y+((j+1:Nat):Int) by exact o180]
      exact hj
    ·rename_i hin
     have hin:y∉L:=by simpa using hin
     (refine ev_meth F.plainAttrs_list F.slot_list_append F.type_list_append ?_;walk_at "go")
     refine ⟨.objL Sto.set_self,?_⟩
     walk_at "go"
     refine cal_append Sto.set_self (by rw [List.length_map,sizeLine_eq];exact o181 h0 h1 m1 l4) ?_
     walk_at "go"
     refine trn_next (by walk_at "ctor") ⟨L++[y],r,?_,fun x hx=>?_,rfl,fun k hk=>l3 k (List.mem_cons_of_mem _ hk),by rw [List.length_append,List.length_singleton];exact o182 l4,?_,rfl⟩
     ·rw [List.nodup_append]
      exact ⟨l1,by simp,fun x hx b hb e=>hin (by rw [List.mem_singleton.mp hb] at e;exact e ▸ hx)⟩
     ·rcases List.mem_append.mp hx with hx | hx
      ·exact l2 x hx
      ·rw [List.mem_singleton.mp hx];exact ⟨y0,y1⟩
     ·rw [Sto.set_set,List.map_append];rfl
 ·rintro ρ₁ σ₁ ⟨L,r,l1,l2,hr,l3,l4,rfl,rfl⟩
  have hr0:r=[]:=by cases r with | nil=>rfl | cons _ _=>cases hr
  subst hr0
  refine thn_next (es_one (es_ret_freeze ?_))
  walk_at "go"
  refine ⟨a,_,_,rfl,Sto.set_self,.lst _,?_⟩
  rw [Sto.set_del ha]
  exact q L l1 l2 (by rw [List.length_nil] at l4;exact o183 h0 h1 m1 l4)
theorem mixed_spec {Q:AV→Sto→Prop} (T:TopG g (KK g)) (hd:c.A.depth < recursionLimit) {ns:List Int} {k:Int} (n0:0 < ns.length) (n1:ns.length≤63) (k0:0≤k) (k1:k≤1000000) (q:∀ v,Q (.int v) σ):cal c (.ref 279) [.list (ns.map .int),.int k] σ Q:=by
 refine cal_fn (rest:=["_law_cell", "_law_mixed_here"]) (fn__law_mixed T) (by kernel_rfl) hd rfl fun c' hsc hfn hA=>?_
 show es c' [(("_law_script":Str),some _),(("_law_k":Str),some _),(("_law_cell":Str),none),(("_law_mixed_here":Str),none)] (execs (_::_) c'.env) σ _
 walk_at "go"
 (refine cb_len T (by assumption) (by rfl) ?_;walk_at "go")
 refine cal_len_list .list (by rw [List.length_map];walk_at "rm") ?_
 rw [List.length_map]
 refine op_fmod (by exact o184 n0 n1) ?_
 have y0:=fm_lo k (n:=(ns.length:Int)) (by exact o185 n0 n1)
 have y1:=fm_hi k (n:=(ns.length:Int)) (by exact o185 n0 n1)
 have hlt:(k.fmod (ns.length:Int)).toNat < ns.length:=by exact o186 y0 y1
 refine sub_list (y := .int ns[(k.fmod (ns.length:Int)).toNat]) .list y0 (by exact o187 n0 n1 y1) (by rw [List.getElem?_map,List.getElem?_eq_getElem hlt];rfl) ?_
 walk_at "go"
 (refine cb_len T (by assumption) (by rfl) ?_;walk_at "go")
 refine cal_len_list .list (by rw [List.length_map];walk_at "rm") ?_
 rw [List.length_map]
 walk_at "go"
 generalize ns[(k.fmod (ns.length:Int)).toNat]+7919 * k+(ns.length:Int) * k * k=w
 have w0:=fm_lo w (n:=2147483647) (by decide)
 have w1:=fm_hi w (n:=2147483647) (by decide)
 generalize w.fmod 2147483647=v at w0 w1 ⊢
 refine op_mul ?_ (.inl (by constructor <;> omega))
 walk_at "go"
 exact q _
theorem lie_spec {Q:AV→Sto→Prop} (T:TopG g (KK g)) (hd:c.A.depth+1 < recursionLimit) {ns:List Int} {l:List Str} {p:List Int} {x k:Int} (n0:0 < ns.length) (n1:ns.length≤63) (hl:l.length=4) (hok:∀ s∈l,okS s) (hp:∃ p0 y,p=p0++[y]) (hp1:p.length≤10) (k0:0≤k) (k1:k≤1000000) (q:∀ v,okV v→Q (sg v) σ) :
  cal c (.ref 286) [.list (ns.map .int),.list (l.map .str),pth p,.int x,.int k] σ Q:=by
 refine cal_fn (rest:=["_law_way"]) (fn__law_lie T) (by kernel_rfl) (by walk_at "rm") rfl fun c' hsc hfn hA=>?_
 have hd':c'.A.depth < recursionLimit:=by rw [hA];exact hd
 obtain ⟨s0,s1,s2,s3,rfl⟩:∃ a b c d,l=[a,b,c,d]:=by
  match l,hl with
  | [a,b,c,d],_=>exact ⟨a,b,c,d,rfl⟩
 obtain ⟨p0,y,rfl⟩:=hp
 have o0:=hok s0 (by simp)
 have o1:=hok s1 (by simp)
 have o2:=hok s2 (by simp)
 have o3:=hok s3 (by simp)
 show es c' [(("_law_script":Str),some _),(("_law_signs_here":Str),some (.list [.str s0,.str s1,.str s2,.str s3])),(("_law_path":Str),some _),(("_law_hearer":Str),some _),(("_law_k":Str),some _),(("_law_way":Str),none)] (execs (_::_) c'.env) σ _
 walk_at "go"
 (refine ev_callF T (by assumption) n__law_cell_at (by rfl) k__law_cell_at ?_;walk_at "go")
 refine cell_spec T hd' (by walk_at "rm") (by decide) (by decide) ?_
 walk_at "go"
 ·refine ev_list ?_
  walk_at "go"
  refine sub_list (y := .str s1) .list (by decide) (by decide) rfl ?_
  walk_at "go"
  refine sub_list (y := .str s2) .list (by decide) (by decide) rfl ?_
  walk_at "go"
  refine ⟨sz,.inl ?_⟩
  walk_at "go"
  have a0:=fm_lo x (n:=2) (by decide)
  have a1:=fm_hi x (n:=2) (by decide)
  rcases (show x.fmod 2=0∨x.fmod 2=1 by walk_at "rm") with e | e
  ·rw [e]
   refine sub_list (y := .str s1) .list (by decide) (by decide) rfl ?_
   walk_at "go"
   exact q (some s1) o1
  ·rw [e]
   refine sub_list (y := .str s2) .list (by decide) (by decide) rfl ?_
   walk_at "go"
   exact q (some s2) o2
 ·refine ev_list ?_
  walk_at "go"
  refine sub_list (y := .str s1) .list (by decide) (by decide) rfl ?_
  walk_at "go"
  refine sub_list (y := .str s0) .list (by decide) (by decide) rfl ?_
  walk_at "go"
  refine sub_list (y := .str s1) .list (by decide) (by decide) rfl ?_
  walk_at "go"
  refine ⟨sz,.inl ?_⟩
  walk_at "go"
  (refine cb_len T (by assumption) (by rfl) ?_;walk_at "go")
  refine cal_len_tup (by rw [List.length_map];walk_at "rm") ?_
  walk_at "go"
  refine sub_tup (j:=p0.length) (y := .int y) (by decide) (by decide) (by rw [List.length_map,List.length_append];exact seq_last _) (by simp) ?_
  walk_at "go"
  generalize x+(((p0++[y]).map AV.int).length:Int)+y=w
  have a0:=fm_lo w (n:=4) (by decide)
  have a1:=fm_hi w (n:=4) (by decide)
  rcases (show w.fmod 4=0∨w.fmod 4=1∨w.fmod 4=2∨w.fmod 4=3 by walk_at "rm") with e | e | e | e <;> rw [e]
  ·refine sub_list (y := .str s1) .list (by decide) (by decide) rfl ?_
   walk_at "go"
   exact q (some s1) o1
  ·refine sub_list (y := .str s0) .list (by decide) (by decide) rfl ?_
   walk_at "go"
   exact q (some s0) o0
  ·refine sub_list (y := .str s1) .list (by decide) (by decide) rfl ?_
   walk_at "go"
   exact q (some s1) o1
  ·refine sub_list (y := .none) .list (by decide) (by decide) rfl ?_
   walk_at "go"
   exact q none trivial
 ·refine sub_list (y := .str s1) .list (by decide) (by decide) rfl ?_
  walk_at "go"
  exact q (some s1) o1
 ·refine ev_list ?_
  walk_at "go"
  refine ⟨sz,.inl ?_⟩
  refine op_addl .list .list (by show 4+1≤sizeLine;rw [sizeLine_eq];decide) (.inl ?_)
  walk_at "go"
  (refine ev_callF T (by assumption) n__law_mixed (by rfl) k__law_mixed ?_;walk_at "go")
  refine mixed_spec T hd' n0 n1 k0 k1 fun w=>?_
  walk_at "go"
  have a0:=fm_lo w (n:=5) (by decide)
  have a1:=fm_hi w (n:=5) (by decide)
  rcases (show w.fmod 5=0∨w.fmod 5=1∨w.fmod 5=2∨w.fmod 5=3∨w.fmod 5=4 by walk_at "rm") with e | e | e | e | e <;> rw [e]
  ·refine sub_list (y := .str s0) .list (by decide) (by decide) rfl ?_
   walk_at "go"
   exact q (some s0) o0
  ·refine sub_list (y := .str s1) .list (by decide) (by decide) rfl ?_
   walk_at "go"
   exact q (some s1) o1
  ·refine sub_list (y := .str s2) .list (by decide) (by decide) rfl ?_
   walk_at "go"
   exact q (some s2) o2
  ·refine sub_list (y := .str s3) .list (by decide) (by decide) rfl ?_
   walk_at "go"
   exact q (some s3) o3
  ·refine sub_list (y := .none) .list (by decide) (by decide) rfl ?_
   walk_at "go"
   exact q none trivial
noncomputable def LG (h m:Int) (L:List Int) (ls:Lies):Prop:=∀ e∈ls,(∃ n,1≤n∧n≤m+1∧GoodK h L (lpaths h n) e.1)∧okV e.2
theorem LG.put {h m:Int} {L:List Int} {ls:Lies} (H:LG h m L ls) {k:List Int×Int} {v:Option Str} (hk:∃ n,1≤n∧n≤m+1∧GoodK h L (lpaths h n) k) (hv:okV v):LG h m L (lset ls k v):=fun e he=>by
 rcases mem_lset he with rfl | he
 ·exact ⟨hk,hv⟩
 ·exact H e he
noncomputable def LS (σ:Sto) (a:Addr) (h m:Int) (L:List Int) (k:Nat) (ls:Lies) (σ':Sto):Prop:=ls.length≤k∧LG h m L ls∧σ'=σ.set a (.dct (encL ls))
noncomputable abbrev rhoL (ns:List Int) (h m:Int) (l:List Str) (L:List Int) (a:Addr) (k:Nat) (x y z:Option AV):Rho :=
 [(("_law_script":Str),some (.list (ns.map .int))),(("_law_hands_here":Str),some (.int h)),(("_law_most":Str),some (.int m)),(("_law_signs_here":Str),some (.list (l.map .str))),(("_law_liars_here":Str),some (.list (L.map .int))),(("_law_found":Str),some (.obj a)),(("_law_k":Str),some (.int k)),(("_law_size":Str),x),(("_law_path":Str),y),(("_law_hearer":Str),z)]
inductive JL1 (σ:Sto) (ns:List Int) (h m:Int) (l:List Str) (L:List Int) (a:Addr) (li:List AV) (ρ':Rho) (σ':Sto):Prop
 | mk (r:List Int) (k:Nat) (ls:Lies) (h0:li=r.map AV.int) (h1:∀ z∈r,1≤z∧z≤m+1) (h2:k+1000 * r.length≤3000) (h3:LS σ a h m L k ls σ') (h4:ρ'=rhoL ns h m l L a k none none none):JL1 σ ns h m l L a li ρ' σ'
inductive JL2 (σ:Sto) (ns:List Int) (h m:Int) (l:List Str) (L:List Int) (a:Addr) (B:Nat) (n:Int) (li:List AV) (ρ':Rho) (σ':Sto):Prop
 | mk (rs:List (List Int)) (k:Nat) (ls:Lies) (h0:li=rs.map pth) (h1:∀ p∈rs,p∈lpaths h n) (h2:k+10 * rs.length≤B) (h3:LS σ a h m L k ls σ') (h4:ρ'=rhoL ns h m l L a k (some (.int n)) none none):JL2 σ ns h m l L a B n li ρ' σ'
inductive JL3 (σ:Sto) (ns:List Int) (h m:Int) (l:List Str) (L:List Int) (a:Addr) (B:Nat) (n:Int) (p:List Int) (li:List AV) (ρ':Rho) (σ':Sto):Prop
 | mk (r:List Int) (k:Nat) (ls:Lies) (h0:li=r.map AV.int) (h1:∀ x∈r,x∈hears h p) (h2:k+r.length≤B) (h3:LS σ a h m L k ls σ') (h4:ρ'=rhoL ns h m l L a k (some (.int n)) (some (pth p)) none):JL3 σ ns h m l L a B n p li ρ' σ'
theorem lhear {Q:AV→Sto→Prop} (T:TopG g (KK g)) {sc scope:Scope} {ρ:Rho} {px pos p1 p2 p3 p4 p5 p6 p7:Pos} {h:Int} {p:List Int} (hsc:c.sc=sc) (hh:c.A.handled=none) (hu:c.A.units+20 < cLine) (h0:0≤h) (h1:h≤10)
  (hok:compOk ("_law_hand":Str) [("_law_path":Str)] scope sc=true) (hx:sc.names.lookup ("range":Str)=some .globalImplicit) (hp:MemR "_law_path" (pth p) ρ) (hm:MemR "_law_hands_here" (.int h) ρ) (q:Q (.list ((hears h p).map .int)) σ) :
  ev c ρ (.ListComp (.Name "_law_hand" p1) [⟨.Name "_law_hand" px,.Call (.Name "range" p2) [.Name "_law_hands_here" p3] [] p4,[.Compare (.Name "_law_hand" p5) [.NotIn] [.Name "_law_path" p6] p7],0⟩] scope pos) σ Q:=by
 refine ev_filtP [(("_law_path":Str),some (pth p))] AV.int (rngL 0 h) (fun x => !p.contains x) AV.int hsc hok (.cons hp .nil) (by rw [rngL_len,sizeLine_eq];walk_at "rm") ?_ ?_ q
 ·refine ev_callB PyProof.Rows.boot_range (.type _) T hsc nb_range hx (evl_cons (ev_nm hm (evl_nil ?_)))
  exact cal_range1 ⟨rfl,iter_rng hh (by decide) (by decide) (by walk_at "rm") (by walk_at "rm")⟩
 ·intro c₂ hA₂ hsc₂ a ha
  rw [← hA₂] at hu
  refine ⟨?_,fun _=>?_⟩
  ·walk_at "go"
   refine cmp_notin_tup (ints_plain p) (by rw [ints_deep];exact Nat.zero_le _) rfl (by walk_at "rm") ?_
   walk_at "go"
   rw [ints_any]
   exact ⟨rfl,rfl⟩
  ·walk_at "go"
   exact ⟨rfl,rfl⟩
theorem lies_spec {Q:AV→Sto→Prop} (T:TopG g (KK g)) (hS:∃ f o,sysModules≤f∧g.H₀.get? f=some o) (hd:c.A.depth+2 < recursionLimit) (hh:c.A.handled=none) (hu:c.A.units+60 < cLine) {ns:List Int} {h m:Int} {l:List Str} {L:List Int} (n0:0 < ns.length) (n1:ns.length≤63) (h0:2≤h) (h1:h≤10) (m0:0≤m) (m1:m≤2) (hl:l.length=4) (hok:∀ s∈l,okS s)
  (q:∀ ls,LG h m L ls→ls.length≤3000→Q (.dict (encL ls)) σ):cal c (.ref 291) [.list (ns.map .int),.int h,.int m,.list (l.map .str),.list (L.map .int)] σ Q:=by
 refine cal_fn (rest:=["_law_found", "_law_k", "_law_size", "_law_path", "_law_hearer"]) (fn__law_lies T) (by kernel_rfl) (by walk_at "rm") rfl fun c' hsc hfn hA=>?_
 have hh':c'.A.handled=none:=by rw [hA];exact hh
 have hu':c'.A.units+50 < cLine:=by rw [hA];show c.A.units+3+50 < cLine;walk_at "rm"
 have hd':c'.A.depth+1 < recursionLimit:=by rw [hA];exact hd
 show es c' [(("_law_script":Str),some _),(("_law_hands_here":Str),some _),(("_law_most":Str),some _),(("_law_signs_here":Str),some _),(("_law_liars_here":Str),some _),(("_law_found":Str),none),(("_law_k":Str),none),(("_law_size":Str),none),(("_law_path":Str),none),(("_law_hearer":Str),none)] (execs (_::_) c'.env) σ _
 walk_at "go"
 refine ev_dict0 hS (.inr fun a ha=>?_)
 walk_at "go"
 refine es_loop (JL1 σ ns h m l L a) hfn ?_ ?_ ?_
 ·(refine cb_range T (by assumption) (by rfl) ?_;walk_at "go")
  refine cal_range2 ⟨_,iter_rng hh' (by decide) (by decide) (by walk_at "rm") (by walk_at "rm"),rngL 1 (m+2),0,[],rfl,fun z hz=>?_,by rw [rngL_len];exact o188 m0 m1,⟨Nat.le_refl _,(fun _ h=>by cases h),rfl⟩,rfl⟩
  have:=mem_rngL.mp hz;exact o189 this
 ·rintro c₂ hA₂ hsc₂ hfn₂ y rest ρ₁ σ₁ ⟨r,k,ls,hr,hz,hk,hls,rfl⟩
  rw [hsc] at hsc₂
  rw [← hA₂] at hd' hh' hu'
  cases r with
  | nil=>cases hr
  | cons n r =>
   rw [List.map_cons] at hr
   injection hr with e1 e2
   subst e1;subst e2
   obtain ⟨z0,z1⟩:=hz n List.mem_cons_self
   have hll:=lpaths_len (n:=n) h1 (by walk_at "rm")
   rw [List.length_cons] at hk
   refine upd_ex (by walk_at "ctor") ?_
   walk_at "go"
   refine es_loop (JL2 σ ns h m l L a (k+1000) n) hfn₂ ?_ ?_ ?_
   ·(refine ev_callF T (by assumption) n__law_paths (by rfl) k__law_paths ?_;walk_at "go")
    refine paths_spec T (by walk_at "rm") hh' (by walk_at "rm") (by walk_at "rm") h1 (by walk_at "rm") (by walk_at "rm") ?_
    exact ⟨_,iter_list hh' _,lpaths h n,k,ls,rfl,fun _ h=>h,by exact o190 hll,hls,rfl⟩
   ·rintro c₃ hA₃ hsc₃ hfn₃ y rest ρ₁ σ₂ ⟨rs,k',ls',hr',hp',hk',hls',rfl⟩
    rw [hsc₂] at hsc₃
    rw [← hA₃] at hd' hh' hu'
    cases rs with
    | nil=>cases hr'
    | cons p rs =>
     rw [List.map_cons] at hr'
     injection hr' with e1 e2
     subst e1;subst e2
     have hpm:=hp' p List.mem_cons_self
     obtain ⟨pne,psz,prg⟩:=lpaths_ok h0 z0 hpm
     obtain ⟨p0,y,rfl⟩:∃ p0 y,p=p0++[y]:=⟨_,_,(List.dropLast_concat_getLast pne).symm⟩
     rw [List.length_cons] at hk'
     have hhl:=hears_len h (p0++[y])
     refine upd_ex (by walk_at "ctor") ?_
     walk_at "go"
     refine sub_tup (j:=p0.length) (y := .int y) (by decide) (by decide) (by rw [List.length_map,List.length_append];exact seq_last _) (by simp) ?_
     walk_at "go"
     refine cmp_in_list .list (ints_plain L) (by rw [ints_deep];exact Nat.zero_le _) rfl (by walk_at "rm") ?_
     rw [ints_any]
     walk_at "go"
     ·rename_i hin
      have hin:y∈L:=by simpa using hin
      refine es_loop (JL3 σ ns h m l L a (k'+10) n (p0++[y])) hfn₃ ?_ ?_ ?_
      ·refine lhear (p:=p0++[y]) T hsc₃ hh' (by walk_at "rm") (by walk_at "rm") h1 (by rfl) (by rfl) (by walk_at "ctor") (by walk_at "ctor") ?_
       exact ⟨_,iter_list hh' _,hears h (p0++[y]),k',ls',rfl,fun _ h=>h,by exact o191 h0 h1 hhl,hls',rfl⟩
      ·rintro c₄ hA₄ hsc₄ hfn₄ y' rest ρ₁ σ₃ ⟨r4,k4,ls4,hr4,hp4,hk4,hls4,rfl⟩
       rw [hsc₃] at hsc₄
       rw [← hA₄] at hd' hh' hu'
       cases r4 with
       | nil=>cases hr4
       | cons x r4 =>
        rw [List.map_cons] at hr4
        injection hr4 with e1 e2
        subst e1;subst e2
        obtain ⟨s1,s2,rfl⟩:=hls4
        rw [List.length_cons] at hk4
        refine upd_ex (by walk_at "ctor") ?_
        walk_at "go"
        rw [show ((k4:Int)+1)=((k4+1:Nat):Int) from rfl]
        (refine ev_callF T (by assumption) n__law_mixed (by rfl) k__law_mixed ?_;walk_at "go")
        refine mixed_spec T (by walk_at "rm") n0 n1 (by exact o192) (by exact o193 hk hk' hk4) fun v=>?_
        walk_at "go"
        ·(refine ev_callF T (by assumption) n__law_lie (by rfl) k__law_lie ?_;walk_at "go")
         refine lie_spec T (by walk_at "rm") n0 n1 hl hok ⟨p0,y,rfl⟩ (by exact o194 m0 m1 z1 psz) (by exact o195) (by exact o196 hk hk' hk4) fun w hw=>?_
         walk_at "go"
         refine ev_tuple ?_
         walk_at "go"
         refine ⟨sz,?_⟩
         refine set_dict (k:=lkey (p0++[y],x)) Sto.set_self (encL_tkeys ls4) (lkey_tkey _) (by unfold encL;rw [List.length_map,sizeLine_eq];exact o197 hk hk' hk4 s1) (by walk_at "rm") ?_
         rw [Sto.set_set,dset_enc]
         walk_at "go"
         exact trn_next (by walk_at "ctor") ⟨r4,k4+1,lset ls4 (p0++[y],x) w,rfl,fun z hz=>hp4 z (List.mem_cons_of_mem _ hz),by walk_at "rm", ⟨Nat.le_trans (lset_len ..) (by exact o198 s1),s2.put ⟨n,z0,z1,prg,hpm,⟨p0,y,rfl,hin⟩,hp4 x List.mem_cons_self⟩ hw,rfl⟩,rfl⟩
        ·exact trn_next (by walk_at "ctor") ⟨r4,k4+1,ls4,rfl,fun z hz=>hp4 z (List.mem_cons_of_mem _ hz),by walk_at "rm", ⟨by exact o4 s1,s2,rfl⟩,rfl⟩
      ·rintro ρ₁ σ₃ ⟨r4,k4,ls4,hr4,hp4,hk4,hls4,rfl⟩
       walk_at "go"
       exact trn_next (by walk_at "ctor") ⟨rs,k4,ls4,rfl,fun p hp=>hp' p (List.mem_cons_of_mem _ hp),by exact o199 hk' hk4,hls4,rfl⟩
     ·exact trn_next (by walk_at "ctor") ⟨rs,k',ls',rfl,fun p hp=>hp' p (List.mem_cons_of_mem _ hp),by exact o200 hk',hls',rfl⟩
   ·rintro ρ₁ σ₂ ⟨rs,k',ls',hr',hp',hk',hls',rfl⟩
    walk_at "go"
    exact trn_next (by walk_at "ctor") ⟨r,k',ls',rfl,fun z hz'=>hz z (List.mem_cons_of_mem _ hz'),by exact o201 hk hk',hls',rfl⟩
 ·rintro ρ₁ σ₁ ⟨r,k,ls,hr,hz,hk,⟨s1,s2,rfl⟩,rfl⟩
  refine thn_next (es_one (es_ret_freeze ?_))
  walk_at "go"
  refine ⟨a,_,_,rfl,Sto.set_self,.dct _,?_⟩
  rw [Sto.set_del ha]
  exact q ls s2 (by exact o202 hk s1)
theorem encL_nodup {ls:Lies} (h:((encL ls).map (·.1)).Nodup) (k:List Int×Int) (v:Option Str):((encL (lset ls k v)).map (·.1)).Nodup:=by
 rw [← dset_enc];exact dset_nodup h
inductive JO (σ:Sto) (a:Addr) (n:Int) (ls:Lies) (li:List AV) (ρ':Rho) (σ':Sto):Prop
 | mk (dk rk:List (List Int×Int)) (lt:Lies) (h0:ls.map (·.1)=dk++rk) (h1:li=rk.map lkey) (h2:∀ e∈lt,e∈ls∧(e.1.1.length:Int)=n) (h3:∀ k,(k.1.length:Int)=n→k∈dk→lget lt k=lget ls k) (h4:lt.length≤dk.length) (h5:((encL lt).map (·.1)).Nodup) (h6:σ'=σ.set a (.dct (encL lt))) (h7:ρ'=[(("_law_lies_here":Str),some (.dict (encL ls))),(("_law_size":Str),some (.int n)),(("_law_found":Str),some (.obj a)),(("_law_path":Str),none),(("_law_hearer":Str),none)]):JO σ a n ls li ρ' σ'
theorem of_spec {Q:AV→Sto→Prop} (T:TopG g (KK g)) (hS:∃ f o,sysModules≤f∧g.H₀.get? f=some o) (hd:c.A.depth < recursionLimit) (hh:c.A.handled=none) (hu:c.A.units+20 < cLine) {n:Int} {ls:Lies} (hz:ls.length≤3000) (hk:∀ e∈ls,e.1.1.length≤10)
  (q:∀ lt:Lies,(∀ e∈lt,e∈ls∧(e.1.1.length:Int)=n)→(∀ k,(k.1.length:Int)=n→lget lt k=lget ls k)→lt.length≤3000→((encL lt).map (·.1)).Nodup→Q (.dict (encL lt)) σ):cal c (.ref 303) [.dict (encL ls),.int n] σ Q:=by
 refine cal_fn (rest:=["_law_found", "_law_path", "_law_hearer"]) (fn__law_of T) (by kernel_rfl) (by walk_at "rm") rfl fun c' hsc hfn hA=>?_
 have hh':c'.A.handled=none:=by rw [hA];exact hh
 have hu':c'.A.units+10 < cLine:=by rw [hA];show c.A.units+3+10 < cLine;walk_at "rm"
 show es c' [(("_law_lies_here":Str),some _),(("_law_size":Str),some _),(("_law_found":Str),none),(("_law_path":Str),none),(("_law_hearer":Str),none)] (execs (_::_) c'.env) σ _
 walk_at "go"
 refine ev_dict0 hS (.inr fun a ha=>?_)
 walk_at "go"
 refine es_for2 (JO σ a n ls) hfn hh' ?_ ?_ ?_
 ·walk_at "go"
  exact ⟨_,iter_dict hh' _,[],ls.map (·.1),[],rfl,by simp [encL],(fun _ h=>by cases h),(fun _ _ h=>by cases h),Nat.le_refl _,List.nodup_nil,rfl,rfl⟩
 ·rintro c₂ hA₂ hsc₂ hfn₂ y rest ρ₁ σ₁ ⟨dk,rk,lt,h1,hr,h2,h3,h4,h6,rfl,rfl⟩
  rw [hsc] at hsc₂
  rw [← hA₂] at hh' hu'
  cases rk with
  | nil=>cases hr
  | cons k rk =>
   rw [List.map_cons] at hr
   injection hr with e1 e2
   subst e1;subst e2
   have hkm:k∈ls.map (·.1):=by rw [h1];simp
   obtain ⟨v,hv⟩:=lget_some hkm
   have hk10:=hk _ (lget_mem hv)
   have hdl:dk.length≤3000:=by
    have:=congrArg List.length h1
    rw [List.length_map,List.length_append] at this;exact o203 hz this
   obtain ⟨p,x⟩:=k
   refine ⟨_,_,_,_,rfl,by walk_at "ctor", by walk_at "ctor", ?_⟩
   dsimp only at hk10 ⊢
   walk_at "go"
   (refine cb_len T (by assumption) (by rfl) ?_;walk_at "go")
   refine cal_len_tup (by rw [List.length_map];walk_at "rm") ?_
   rw [List.length_map]
   walk_at "go"
   ·rename_i e
    have e:(p.length:Int)=n:=by simpa using e
    refine ev_tuple ?_
    walk_at "go"
    refine ⟨sz,?_⟩
    refine sub_dict (k:=lkey (p,x)) .dict (encL_tkeys ls) (lkey_tkey _) (by rw [dget_enc,hv];rfl) (by walk_at "rm") ?_
    walk_at "go"
    refine ev_tuple ?_
    walk_at "go"
    refine ⟨sz,?_⟩
    refine set_dict (k:=lkey (p,x)) Sto.set_self (encL_tkeys lt) (lkey_tkey _) (by unfold encL;rw [List.length_map,sizeLine_eq];exact o204 h4 hdl) (by walk_at "rm") ?_
    rw [Sto.set_set,dset_enc]
    walk_at "go"
    refine trn_next (by walk_at "ctor") ⟨dk++[(p,x)],rk,lset lt (p,x) v,by rw [h1];simp,rfl,fun e' he=>?_,fun k' hn hk'=>?_,Nat.le_trans (lset_len ..) (by rw [List.length_append,List.length_singleton];exact o198 h4),encL_nodup h6 _ _,rfl,rfl⟩
    ·rcases mem_lset he with rfl | he
     ·exact ⟨lget_mem hv,e⟩
     ·exact h2 e' he
    ·rw [lget_lset]
     by_cases hkk:k'=(p,x)
     ·rw [if_pos hkk,hkk,hv]
     ·rw [if_neg hkk]
      rcases List.mem_append.mp hk' with hk' | hk'
      ·exact h3 k' hn hk'
      ·exact absurd (List.mem_singleton.mp hk') hkk
   ·rename_i e
    have e:(p.length:Int)≠n:=by simpa using e
    refine trn_next (by walk_at "ctor") ⟨dk++[(p,x)],rk,lt,by rw [h1];simp,rfl,h2,fun k' hn hk'=>?_,by rw [List.length_append];exact o205 h4,h6,rfl,rfl⟩
    rcases List.mem_append.mp hk' with hk' | hk'
    ·exact h3 k' hn hk'
    ·rw [List.mem_singleton.mp hk'] at hn;exact absurd hn e
 ·rintro ρ₁ σ₁ ⟨dk,rk,lt,h1,hr,h2,h3,h4,h6,rfl,rfl⟩
  have hr0:rk=[]:=by cases rk with | nil=>rfl | cons _ _=>cases hr
  subst hr0
  rw [List.append_nil] at h1
  refine thn_next ?_
  refine es_seq (es_ret_freeze ?_)
  walk_at "go"
  refine ⟨a,_,_,rfl,Sto.set_self,.dct _,?_⟩
  rw [Sto.set_del ha]
  walk_at "go"
  refine q lt h2 (fun k hn=>?_) (Nat.le_trans h4 (by have:=congrArg List.length h1;rw [List.length_map] at this;exact o206 hz this)) h6
  by_cases hkm:k∈ls.map (·.1)
  ·exact h3 k hn (h1 ▸ hkm)
  ·have e1:lget ls k=none:=by
    cases e:lget ls k with
    | none=>rfl
    | some v=>exact absurd (List.mem_map.mpr ⟨_,lget_mem e,rfl⟩) hkm
   have e2:lget lt k=none:=by
    cases e:lget lt k with
    | none=>rfl
    | some v=>exact absurd (List.mem_map.mpr ⟨_,(h2 _ (lget_mem e)).1,rfl⟩) hkm
   rw [e1,e2]
theorem rngL_cons {a b:Int} (h:a < b):rngL a b=a::rngL (a+1) b:=by
 unfold rngL
 obtain ⟨k,hk⟩:∃ k,(b - a).toNat=k+1:=⟨(b - a).toNat - 1,by walk_at "rm"⟩
 rw [hk,show (b - (a+1)).toNat=k by exact o207 h hk,List.range_succ_eq_map,List.map_cons,List.map_map]
 congr 1
 ·exact o179
 ·apply List.map_congr_left
  intro i _
  show a+((i+1:Nat):Int)=a+1+(i:Int)
  exact o208
noncomputable abbrev rhoP (h m:Int) (s:Str) (ls:Lies) (E:List Addr) (x y t z:Option AV):Rho :=
 [(("_law_hands_here":Str),some (.int h)),(("_law_most":Str),some (.int m)),(("_law_sign":Str),some (.str s)),(("_law_lies_here":Str),some (.dict (encL ls))),(("_law_ears":Str),some (.list (E.map .obj))),(("_law_size":Str),x),(("_law_path":Str),y),(("_law_truth":Str),t),(("_law_hearer":Str),z)]
noncomputable def PW (σ:Sto) (E:List Addr) (h:Int) (s:Str) (ls:Lies) (D:Int→List (List Int)) (σ':Sto):Prop:=Ears σ' E h D (HV s ls)∧∀ b,b∉E→σ' b=σ b
inductive JP1 (σ:Sto) (E:List Addr) (h m:Int) (s:Str) (ls:Lies) (li:List AV) (ρ':Rho) (σ':Sto):Prop
 | mk (n:Int) (h0:0≤n) (h1:n≤m+1) (h2:li=(rngL (n+1) (m+2)).map AV.int) (h3:PW σ E h s ls (Dm h n) σ') (h4:ρ'=rhoP h m s ls E none none none none):JP1 σ E h m s ls li ρ' σ'
inductive JP2 (σ:Sto) (E:List Addr) (h m:Int) (s:Str) (ls:Lies) (n:Int) (li:List AV) (ρ':Rho) (σ':Sto):Prop
 | mk (dn rs:List (List Int)) (h0:lpaths h (n+1)=dn++rs) (h1:li=rs.map pth) (h2:PW σ E h s ls (DD h n dn) σ') (h3:ρ'=rhoP h m s ls E (some (.int (n+1))) none none none):JP2 σ E h m s ls n li ρ' σ'
inductive JP3 (σ:Sto) (E:List Addr) (h m:Int) (s:Str) (ls:Lies) (n:Int) (dn:List (List Int)) (p:List Int) (li:List AV) (ρ':Rho) (σ':Sto):Prop
 | mk (d' r':List Int) (h0:hears h p=d'++r') (h1:li=r'.map AV.int) (h2:PW σ E h s ls (D3 h n dn p d') σ') (h3:ρ'=rhoP h m s ls E (some (.int (n+1))) (some (pth p)) (some (sg (tru s ls p))) none):JP3 σ E h m s ls n dn p li ρ' σ'
noncomputable def dlist:Option AObj→List (AV×AV)
 | some (.dct l)=>l
 | _=>[]
noncomputable def ears (h m:Int) (s:Str) (ls:Lies):List AV:=(rngL 0 h).map fun x => .dict (encP (fun p=>HV s ls p x) (Dm h (m+1) x))
theorem lplay_spec {Q:AV→Sto→Prop} (T:TopG g (KK g)) (hS:∃ f o,sysModules≤f∧g.H₀.get? f=some o) (hd:c.A.depth+2 < recursionLimit) (hh:c.A.handled=none) (hu:c.A.units+60 < cLine) {h m:Int} {s:Str} {ls:Lies} (h0:2≤h) (h1:h≤10) (m0:0≤m) (m1:m≤2)
  (q:Q (.list (ears h m s ls)) σ):cal c (.ref 296) [.int h,.int m,.str s,.dict (encL ls)] σ Q:=by
 refine cal_fn (rest:=["_law_ears", "_law_size", "_law_path", "_law_truth", "_law_hearer"]) (fn__law_play T) (by kernel_rfl) (by walk_at "rm") rfl fun c' hsc hfn hA=>?_
 have hh':c'.A.handled=none:=by rw [hA];exact hh
 have hu':c'.A.units+50 < cLine:=by rw [hA];show c.A.units+3+50 < cLine;walk_at "rm"
 have hd':c'.A.depth+1 < recursionLimit:=by rw [hA];exact hd
 show es c' [(("_law_hands_here":Str),some _),(("_law_most":Str),some _),(("_law_sign":Str),some _),(("_law_lies_here":Str),some _),(("_law_ears":Str),none),(("_law_size":Str),none),(("_law_path":Str),none),(("_law_truth":Str),none),(("_law_hearer":Str),none)] (execs (_::_) c'.env) σ _
 walk_at "go"
 have hlen:((rngL 0 h).map AV.int).length=h.toNat:=by rw [List.length_map,rngL_len];walk_at "rm"
 refine es_map [] (JE σ h.toNat) hfn hsc (by rfl) (by rfl) (by walk_at "ctor") ?_ ?_ ?_
 ·(refine cb_range T (by assumption) (by rfl) ?_;walk_at "go")
  exact cal_range1 ⟨_,iter_rng hh' (by decide) (by decide) (by walk_at "rm") (by walk_at "rm"),by rw [hlen,sizeLine_eq];walk_at "rm", hlen ▸ JE.start _ _⟩
 ·intro c₂ hA₂ hsc₂ y rest acc σ₁ hJ
  exact hJ.step hS
 rintro acc σ₁ ⟨E,rfl,e2,e3,e6,e5⟩
 refine made_frz (upd_ex (by walk_at "ctor") ?_)
 walk_at "go"
 refine es_loop (JP1 σ E h m s ls) hfn ?_ ?_ ?_
 ·(refine cb_range T (by assumption) (by rfl) ?_;walk_at "go")
  exact cal_range2 ⟨_,iter_rng hh' (by decide) (by decide) (by walk_at "rm") (by walk_at "rm"),0,by walk_at "rm", by walk_at "rm", rfl,⟨JE.ears (σ:=σ) e2 (fun e he=>(e3 e he).1) (by simpa using e5),e6⟩,rfl⟩
 ·rintro c₂ hA₂ hsc₂ hfn₂ y rest ρ₁ σ₂ ⟨n,n0,n1,hr,hw,rfl⟩
  rw [hsc] at hsc₂
  rw [← hA₂] at hd' hh' hu'
  by_cases hn:n < m+1
  ·rw [rngL_cons (show n+1 < m+2 by exact o209 hn),List.map_cons] at hr
   injection hr with e1 e2'
   subst e1;subst e2'
   have hll:=lpaths_len (n:=n+1) h1 (by exact o210 m0 m1 hn)
   refine upd_ex (by walk_at "ctor") ?_
   walk_at "go"
   refine es_loop (JP2 σ E h m s ls n) hfn₂ ?_ ?_ ?_
   ·(refine ev_callF T (by assumption) n__law_paths (by rfl) k__law_paths ?_;walk_at "go")
    refine paths_spec T (by walk_at "rm") hh' (by walk_at "rm") (by walk_at "rm") h1 (by walk_at "rm") (by exact o210 m0 m1 hn) ?_
    exact ⟨_,iter_list hh' _,[],lpaths h (n+1),rfl,rfl,⟨hw.1.imp fun x _ _=>(DD_nil h n x).symm,hw.2⟩,rfl⟩
   ·rintro c₃ hA₃ hsc₃ hfn₃ y rest ρ₁ σ₃ ⟨dn,rs,hdr,hr',hw',rfl⟩
    rw [hsc₂] at hsc₃
    rw [← hA₃] at hd' hh' hu'
    cases rs with
    | nil=>cases hr'
    | cons p rs =>
     rw [List.map_cons] at hr'
     injection hr' with e1 e2'
     subst e1;subst e2'
     have hpm:p∈lpaths h (n+1):=by rw [hdr];simp
     obtain ⟨pne,psz,_⟩:=lpaths_ok h0 (by walk_at "rm") hpm
     refine upd_ex (by walk_at "ctor") ?_
     walk_at "gos"
     refine es_join (fun ρ' σ'=>σ'=σ₃∧ρ'=rhoP h m s ls E (some (.int (n+1))) (some (pth p)) (some (sg (tru s ls p))) none) ?_ ?_
     ·walk_at "go"
      ·rename_i hgt
       have hgt:1 < n+1:=by simpa using hgt
       obtain ⟨p0,y,rfl,hp0,hy⟩:=lpaths_last h0 (by exact o211 psz hgt) hpm
       obtain ⟨⟨y0,y1⟩,hyp⟩:=mem_hears.mp hy
       obtain ⟨e,f1,f2⟩:=hw'.1.2.2 y y0 y1
       have et2:tru s ls (p0++[y])=HV s ls p0 y:=by
        unfold tru
        rw [if_neg (by exact o212 hgt psz),List.dropLast_concat,List.getLastD_concat]
       refine sub_tup (j:=p0.length) (y := .int y) (by decide) (by decide) (by rw [List.length_map,List.length_append];exact seq_last _) (by simp) ?_
       refine sub_list (y := .obj e) .list y0 (by walk_at "rm") (by rw [List.getElem?_map,f1];rfl) ?_
       refine ev_init ?_
       walk_at "go"
       refine ⟨_,rfl,rfl,by rw [List.length_map,List.length_append];exact Nat.le_add_left _ _,by rw [List.length_map];exact o213 m0 m1 hn psz,?_⟩
       have et:AV.tup (((p0++[y]).map AV.int).take (((p0++[y]).map AV.int).length - 1))=pth p0:=by
        unfold pth
        rw [List.map_append,List.length_append,List.take_left' (by simp)]
       rw [et]
       refine sub_dict (.obj f2) (encP_tkeys _ _) (pth_tkey p0) (dget_encP (List.mem_append_left _ (Dm_mem (by exact o214 hgt psz) (by exact o215) hp0 hyp))) (by walk_at "rm") ?_
       rw [← et2]
       walk_at "go"
       exact jn_next (by walk_at "ctor") ⟨rfl,rfl⟩
      ·rename_i hgt
       have hgt:¬ 1 < n+1:=by simpa using hgt
       have et:tru s ls p=some s:=by unfold tru;rw [if_pos (by exact o216 n0 psz hgt)]
       rw [et,show sg (some s)=AV.str s from rfl]
       exact jn_next (by walk_at "ctor") ⟨rfl,rfl⟩
     ·rintro ρ' σ' ⟨rfl,rfl⟩
      walk_at "go"
      refine es_loop (JP3 σ E h m s ls n dn p) hfn₃ ?_ ?_ ?_
      ·refine lhear (p:=p) T hsc₃ hh' (by walk_at "rm") (by walk_at "rm") h1 (by rfl) (by rfl) (by walk_at "ctor") (by walk_at "ctor") ?_
       exact ⟨_,iter_list hh' _,[],hears h p,rfl,rfl,⟨hw'.1.imp fun x _ _=>(D3_nil h n x dn p).symm,hw'.2⟩,rfl⟩
      ·rintro c₄ hA₄ hsc₄ hfn₄ y rest ρ₁ σ₄ ⟨d',r',hdr',hr',hw4,rfl⟩
       rw [hsc₃] at hsc₄
       rw [← hA₄] at hd' hh' hu'
       cases r' with
       | nil=>cases hr'
       | cons x r' =>
        rw [List.map_cons] at hr'
        injection hr' with e1 e2'
        subst e1;subst e2'
        have hx:x∈hears h p:=by rw [hdr'];simp
        obtain ⟨⟨x0,x1⟩,_⟩:=mem_hears.mp hx
        obtain ⟨e,f1,f2⟩:=hw4.1.2.2 x x0 x1
        have hxd:x∉d':=by
         have hnd:=hears_nodup h p
         rw [hdr'] at hnd
         exact fun hm=>(List.nodup_append.mp hnd).2.2 x hm x List.mem_cons_self rfl
        have heE:=List.mem_of_getElem? f1
        refine upd_ex (by walk_at "ctor") ?_
        walk_at "go"
        refine ev_meth F.plainAttrs_dict F.slot_dict_get F.type_dict_get ?_
        walk_at "go"
        refine ⟨.dict,?_⟩
        walk_at "go"
        refine ev_tuple ?_
        walk_at "go"
        refine ⟨sz,?_⟩
        walk_at "go"
        refine cal_get2 (k:=lkey (p,x)) .dict (encL_tkeys ls) (lkey_tkey _) (by walk_at "rm") ?_
        rw [dget_enc,getD_sg,← HV_eq s ls pne x]
        walk_at "go"
        refine sub_list (y := .obj e) .list x0 (by walk_at "rm") (by rw [List.getElem?_map,f1];rfl) ?_
        walk_at "go"
        refine set_dict f2 (encP_tkeys _ _) (pth_tkey p) (by unfold encP;rw [List.length_map,sizeLine_eq];exact Nat.le_trans (D3_len h1 n0 (by exact o217 m0 m1 hn psz) hdr) (by decide)) (by walk_at "rm") ?_
        walk_at "go"
        refine trn_next (by walk_at "ctor") ⟨d'++[x],r',by rw [hdr'];simp,rfl,⟨?_,fun b hbE=>(Sto.set_ne (by rintro rfl;exact hbE heE)).trans (hw4.2 b hbE)⟩,rfl⟩
        exact (hw4.1.put x0 f1 (D3_not hdr hxd)).imp fun y _ _=>D3_put hxd y
      ·rintro ρ₁ σ₄ ⟨d',r',hdr',hr',hw4,rfl⟩
       have hr0:r'=[]:=by cases r' with | nil=>rfl | cons _ _=>cases hr'
       subst hr0
       rw [List.append_nil] at hdr'
       walk_at "go"
       exact trn_next (by walk_at "ctor") ⟨dn++[p],rs,by rw [hdr];simp,rfl,⟨hw4.1.imp (fun x x0 x1=>by rw [← hdr'];exact D3_end x0 x1),hw4.2⟩,rfl⟩
   ·rintro ρ₁ σ₃ ⟨dn,rs,hdr,hr',hw',rfl⟩
    have hr0:rs=[]:=by cases rs with | nil=>rfl | cons _ _=>cases hr'
    subst hr0
    rw [List.append_nil] at hdr
    walk_at "go"
    exact trn_next (by walk_at "ctor") ⟨n+1,by walk_at "rm", by walk_at "rm", rfl,⟨hw'.1.imp (fun x _ _=>by rw [← hdr];exact DD_all n0),hw'.2⟩,rfl⟩
  ·rw [show n=m+1 by exact o218 n1 hn,show m+1+1=m+2 by exact o219] at hr
   simp [rngL] at hr
 ·rintro ρ₁ σ₂ ⟨n,n0,n1,hr,hw,rfl⟩
  have hn:n=m+1:=by
   refine Classical.byContradiction fun hne=>?_
   rw [rngL_cons (by walk_at "rm")] at hr
   cases hr
  subst hn
  refine thn_next (es_one (es_ret_freezeE ?_))
  walk_at "go"
  have hEl:E.length=h.toNat:=hw.1.2.1
  have key:∃ f:Addr→List (AV×AV),(∀ e∈E,σ₂ e=some (.dct (f e)))∧E.map (fun e=>AV.dict (f e))=ears h m s ls:=by
   refine ⟨fun e=>dlist (σ₂ e),fun e he=>?_,List.ext_getElem? fun i=>?_⟩
   ·obtain ⟨i,hi,rfl⟩:=List.getElem_of_mem he
    obtain ⟨e',g1,g2⟩:=hw.1.2.2 (i:Int) (by walk_at "rm") (by exact o220 h0 h1 e5 hEl hi)
    rw [Int.toNat_natCast,List.getElem?_eq_getElem hi] at g1
    injection g1 with g1
    show σ₂ E[i]=some (.dct (dlist (σ₂ E[i])))
    rw [g1,g2];rfl
   ·by_cases hi:i < E.length
    ·obtain ⟨e',g1,g2⟩:=hw.1.2.2 (i:Int) (by walk_at "rm") (by exact o220 h0 h1 e5 hEl hi)
     rw [Int.toNat_natCast] at g1
     unfold ears rngL
     rw [List.getElem?_map,g1,List.map_map,List.getElem?_map,List.getElem?_range (by exact o221 h0 h1 e5 hEl hi)]
     show some (AV.dict (dlist (σ₂ e')))=some (AV.dict (encP (fun p=>HV s ls p (0+(i:Int))) (Dm h (m+1) (0+(i:Int)))))
     rw [g2,Int.zero_add];rfl
    ·rw [List.getElem?_eq_none (by rw [List.length_map];exact o222 hi),List.getElem?_eq_none (by unfold ears;rw [List.length_map,rngL_len];exact o223 h0 h1 e5 hEl hi)]
  obtain ⟨f,k1,k2⟩:=key
  refine ⟨E,f,σ,rfl,fun e he=>⟨k1 e he,(e3 e he).2⟩,fun b=>?_,?_⟩
  ·by_cases hb:b∈E
   ·exact .inl (e3 b hb).2
   ·exact .inr (hw.2 b hb).symm
  ·rw [k2];exact q
theorem Dm_hash (w:World) {h n x:Int} (h2:2≤h) (h3:h≤10) (n1:n≤3) (f:List Int→Option Str):((encP f (Dm h n x)).map fun p=>hK w p.1).Nodup:=by
 have:=dom_hashes (h:=h) (most:=n - 1) (hand:=x) w h2 h3 (by exact o224 n1)
 rw [show n - 1+2=n+1 by exact o225] at this
 unfold encP
 rw [List.map_map]
 exact this
theorem mtold_spec {Q:AV→Sto→Prop} (T:TopG g (KK g)) (hS:∃ f o,sysModules≤f∧g.H₀.get? f=some o) (hd:c.A.depth+3 < recursionLimit) {h m n x:Int} {s:Str} {L:List Int} {E:List Addr} {ls:Lies} {a d:Addr} (h0:2≤h) (h1:h≤10) (n0:0≤n) (n1:n≤3) (ha:σ a=some (.inst 228 d)) (hd0:σ d=some (.dct (atts (tbl h m s L n E)))) (hE:Ears σ E h (Dm h n) (HV s ls)) (x0:0≤x) (x1:x < h)
  (q:Q (.dict (encP (fun p=>HV s ls p x) (Dm h n x))) σ):cal c (.ref 218) [.obj a,.int x] σ Q:=by
 refine cal_fn (rest:=[]) (fn_Table_told T) (by kernel_rfl) (by walk_at "rm") rfl fun c' hsc hfn hA=>?_
 have hd':c'.A.depth+2 < recursionLimit:=by rw [hA];show c.A.depth+1+2 < _;walk_at "rm"
 obtain ⟨e,f1,f2⟩:=hE.2.2 x x0 x1
 have hl:=Dm_len h1 x n0 n1
 show es c' [(("self":Str),some _),(("hand":Str),some _)] (execs (_::_) c'.env) σ _
 walk_at "go"
 (refine ev_callF T (by assumption) n_need_hand (by rfl) k_need_hand ?_;walk_at "go")
 (refine ev_attrN T.X (by walk_at "ctor") ha hd0 (by kernel_rfl) (by rfl) (by rfl) ?_;walk_at "go")
 refine needHand_spec T (by walk_at "rm") x0 x1 ?_
 walk_at "go"
 (refine cb_dict T (by assumption) (by rfl) ?_;walk_at "go")
 (refine ev_attrN T.X (by walk_at "ctor") ha hd0 (by kernel_rfl) (by rfl) (by rfl) ?_;walk_at "go")
 refine sub_list (y := .obj e) .list x0 (by walk_at "rm") (by rw [List.getElem?_map,f1];rfl) ?_
 walk_at "go"
 refine cal_dictD hS (.obj f2) (fun p hp=>by obtain ⟨p',_,rfl⟩:=List.mem_map.mp hp;exact ⟨_,rfl⟩) (by unfold encP;rw [List.length_map,sizeLine_eq];walk_at "rm") (Dm_hash _ h0 h1 n1 _) (.inl ?_)
 walk_at "go"
 exact q
theorem told_spec {Q:AV→Sto→Prop} (T:TopG g (KK g)) (hd:c.A.depth+1 < recursionLimit) (hh:c.A.handled=none) (hu:c.A.units+30 < cLine) (f:List Int→Option Str) {ps:List (List Int)} (hz:ps.length≤300) (q:Q (.bool true) σ) :
  cal c (.ref 315) [.dict (encP f ps),.dict (encP f ps)] σ Q:=by
 refine cal_fn (rest:=[]) (fn__law_told T) (by kernel_rfl) (by walk_at "rm") rfl fun c' hsc hfn hA=>?_
 have hd':c'.A.depth < recursionLimit:=by rw [hA];exact hd
 have hh':c'.A.handled=none:=by rw [hA];exact hh
 have hu':c'.A.units+20 < cLine:=by rw [hA];show c.A.units+3+20 < cLine;walk_at "rm"
 have hlen:(encP f ps).length=ps.length:=List.length_map ..
 show es c' [(("_law_found":Str),some _),(("_law_due":Str),some _)] (execs (_::_) c'.env) σ _
 walk_at "go"
 (refine cb_isinstance T (by assumption) (by rfl) ?_;walk_at "go")
 (refine ev_bltN PyProof.Rows.boot_dict T (by assumption) nb_dict (by rfl) ?_;walk_at "go")
 refine cal_isDict ?_
 walk_at "go"
 (refine cb_len T (by assumption) (by rfl) ?_;walk_at "go")
 refine cal_lenD .dict (by exact o226 hz hlen) ?_
 walk_at "go"
 (refine cb_len T (by assumption) (by rfl) ?_;walk_at "go")
 refine cal_lenD .dict (by exact o226 hz hlen) ?_
 walk_at "go"
 ·rename_i e;simp at e
 refine cmp_ned .dict .dict (encP_tkeys f ps) (fun p hp=>?_) (by walk_at "rm") ?_
 ·obtain ⟨p',_,rfl⟩:=List.mem_map.mp hp
  exact ⟨sg_plain _,by rw [sg_deep];exact Nat.zero_le _⟩
 walk_at "go"
 (refine cb_all T (by assumption) (by rfl) ?_;walk_at "go")
 refine ev_mapP [(("_law_found":Str),some (.dict (encP f ps))),(("_law_due":Str),some (.dict (encP f ps)))] pth ps (fun _=>AV.bool true) hsc (by rfl) (by walk_at "ctor") (by rw [sizeLine_eq];walk_at "rm") ?_ ?_ ?_
 ·(refine cb_list T (by assumption) (by rfl) ?_;walk_at "go")
  refine cal_listD hh' .dict (by rw [hlen,sizeLine_eq];walk_at "rm") (.inl ⟨rfl,?_⟩)
  rw [show (encP f ps).map (·.1)=ps.map pth by unfold encP;rw [List.map_map];rfl]
  exact iter_list hh' _
 ·intro c₂ hA₂ hsc₂ p hp
  rw [← hA₂] at hd' hh' hu'
  (refine ev_callF T (by assumption) n__law_same (by rfl) k__law_same ?_;walk_at "go")
  refine sub_dict .dict (encP_tkeys f ps) (pth_tkey p) (dget_encP hp) (by walk_at "rm") ?_
  walk_at "go"
  refine sub_dict .dict (encP_tkeys f ps) (pth_tkey p) (dget_encP hp) (by walk_at "rm") ?_
  walk_at "go"
  exact same_spec T (by walk_at "rm") ⟨rfl,rfl⟩
 ·rw [show ps.map (fun _=>AV.bool true)=(ps.map fun _=>true).map AV.bool by rw [List.map_map];rfl]
  refine cal_all hh' ?_
  walk_at "go"
  rw [show (ps.map fun _=>true).all id=true by simp]
  exact q
theorem ears_at {h m x:Int} {s:Str} {ls:Lies} (x0:0≤x) (x1:x < h):(ears h m s ls)[x.toNat]?=some (.dict (encP (fun p=>HV s ls p x) (Dm h (m+1) x))):=by
 unfold ears rngL
 rw [List.map_map,List.getElem?_map,List.getElem?_range (by exact o227 x0 x1)]
 show some (AV.dict (encP (fun p=>HV s ls p (0+(x.toNat:Int))) (Dm h (m+1) (0+(x.toNat:Int)))))=_
 rw [Int.zero_add,Int.toNat_of_nonneg x0]
theorem Dm_dom (h m x:Int):Dm h (m+1) x=dom h m x (rngL 1 (m+2)):=by unfold Dm;rw [show m+1+1=m+2 by exact o219];rfl
theorem says_spec {Q:AV→Sto→Prop} (T:TopG g (KK g)) (hd:c.A.depth+10 < recursionLimit) (hh:c.A.handled=none) (hu:c.A.units+100 < cLine) {h m:Int} {s:Str} {L:List Int} {E:List Addr} {ls:Lies} {a d:Addr} (h0:2≤h) (h1:h≤10) (m0:0≤m) (m1:m≤2) (ha:σ a=some (.inst 228 d)) (hd0:σ d=some (.dct (atts (tbl h m s L (m+1) E)))) (hE:Ears σ E h (Dm h (m+1)) (HV s ls)) {x:Int} (x0:0≤x) (x1:x < h) (q:∀ y,Q (sg y) σ) :
  cal c (.ref 225) [.obj a,.int x] σ Q:=by
 refine cal_fn (rest:=[]) (fn_Table_says T) (by kernel_rfl) (by walk_at "rm") rfl fun c' hsc hfn hA=>?_
 have hh':c'.A.handled=none:=by rw [hA];exact hh
 have hu':c'.A.units+90 < cLine:=by rw [hA];show c.A.units+3+90 < cLine;walk_at "rm"
 have hd':c'.A.depth+9 < recursionLimit:=by rw [hA];show c.A.depth+1+9 < _;walk_at "rm"
 show es c' [(("self":Str),some _),(("hand":Str),some _)] (execs (_::_) c'.env) σ _
 walk_at "go"
 (refine ev_callF T (by assumption) n_need_hand (by rfl) k_need_hand ?_;walk_at "go")
 (refine ev_attrN T.X (by walk_at "ctor") ha hd0 (by kernel_rfl) (by rfl) (by rfl) ?_;walk_at "go")
 refine needHand_spec T (by walk_at "rm") x0 x1 ?_
 walk_at "go"
 (refine ev_attrN T.X (by walk_at "ctor") ha hd0 (by kernel_rfl) (by rfl) (by rfl) ?_;walk_at "go")
 (refine ev_attrN T.X (by walk_at "ctor") ha hd0 (by kernel_rfl) (by rfl) (by rfl) ?_;walk_at "go")
 ·rename_i e;simp at e;exact (o169 e).elim
 ·rename_i e
  have e1:x=0:=by simpa using e
  (refine ev_attrN T.X (by walk_at "ctor") ha hd0 (by kernel_rfl) (by rfl) (by rfl) ?_;walk_at "go")
  exact q (some s)
 ·rename_i e
  have e1:x≠0:=by simpa using e
  obtain ⟨e,f1,f2⟩:=hE.2.2 x x0 x1
  (refine ev_callF T (by assumption) n_settled (by rfl) k_settled ?_;walk_at "go")
  (refine ev_attrN T.X (by walk_at "ctor") ha hd0 (by kernel_rfl) (by rfl) (by rfl) ?_;walk_at "go")
  (refine ev_attrN T.X (by walk_at "ctor") ha hd0 (by kernel_rfl) (by rfl) (by rfl) ?_;walk_at "go")
  (refine ev_attrN T.X (by walk_at "ctor") ha hd0 (by kernel_rfl) (by rfl) (by rfl) ?_;walk_at "go")
  refine sub_list (y := .obj e) .list x0 (by walk_at "rm") (by rw [List.getElem?_map,f1];rfl) ?_
  walk_at "go"
  refine ev_tuple ?_
  walk_at "go"
  refine ⟨sz,?_⟩
  walk_at "go"
  exact settled_spec T (by walk_at "rm") h1 m1 (encP_tkeys _ _) (fun p=>p∈dom h m x (rngL 1 (m+2))) (fun p hp=>⟨_,dget_encP (by rw [Dm_dom];exact hp)⟩) (fun p hp hpl y hy hyx=>dom_next h0 x0 x1 hp hpl hy hyx) (fun p hp=>dom_ne h0 hp) m.toNat (p:=[0]) (by exact o228 m0 m1 hd') hh' (by exact o229 m0 m1 hu') (by simp;walk_at "rm") (dom_zero h0 m0 (by walk_at "rm")) (.obj f2) q
theorem boot_VE:PySem.bootBuiltins "ValueError" = some (.type "ValueError"):=by decide +kernel
noncomputable def sixC:List Addr:=[37,49,61,73,85,97]
theorem six_ok (T:TopG g (KK g)) {C:Addr} (h:C∈sixC):classOk (KK g) C=true∧ExcAt g.H₀ C 24∧24≠C:=by
 simp only [sixC,List.mem_cons,List.not_mem_nil,or_false] at h
 rcases h with rfl | rfl | rfl | rfl | rfl | rfl
 ·exact ⟨cx_NoTable,ex_NoTable T,by decide⟩
 ·exact ⟨cx_NoSign,ex_NoSign T,by decide⟩
 ·exact ⟨cx_NoHand,ex_NoHand T,by decide⟩
 ·exact ⟨cx_NoSaying,ex_NoSaying T,by decide⟩
 ·exact ⟨cx_Over,ex_Over T,by decide⟩
 ·exact ⟨cx_NotOver,ex_NotOver T,by decide⟩
theorem isExc {Q:AV→Sto→Prop} (T:TopG g (KK g)) {C D:Addr} (hC:C∈sixC) (hD:D∈sixC) (q:Q (.bool (decide (C=D))) σ):cal c (.builtin "isinstance") [.exc C,.raw (.ref D)] σ Q:=by
 by_cases e:C=D
 ·subst e;rw [decide_eq_true rfl] at q;exact cal_isExcYes q
 ·rw [decide_eq_false e] at q
  exact cal_isExcNo T.X (six_ok T hC).1 (six_ok T hC).2.1 (six_ok T hD).2.1 e (six_ok T hD).2.2 q
noncomputable def marks (C:Addr):List Bool:=sixC.map fun D=>decide (C=D)
noncomputable def words:List Str:=["table", "sign", "hand", "saying", "over", "early"]
theorem bools_plain (l:List Bool):plainL (l.map .bool)=true∧deepL (l.map .bool)=0∧(l.map AV.bool).countP (eqA · (.bool true))=l.count true:=by
 induction l with
 | nil=>exact ⟨rfl,rfl,rfl⟩
 | cons b l ih =>
  rw [List.map_cons]
  refine ⟨by unfold plainL;rw [ih.1];rfl,by unfold deepL;rw [ih.2.1];rfl,?_⟩
  rw [List.countP_cons,ih.2.2,List.count_cons]
  rfl
noncomputable def isWord (C:Addr) (j:Nat):Bool:=(marks C).count true==1 && (marks C)[j]?==some true && (List.range j).all fun m=>(marks C)[m]?==some false
theorem word_spec {Q:AV→Sto→Prop} (T:TopG g (KK g)) (hd:c.A.depth < recursionLimit) (hu:c.A.units+20 < cLine) {C:Addr} {j:Nat} {x:Str} (hC:C∈sixC) (hj:isWord C j=true) (hx:words[j]?=some x) (q:Q (.str x) σ) :
  cal c (.ref 322) [.exc C] σ Q:=by
 refine cal_fn (rest:=["_law_words", "_law_marks"]) (fn__law_word T) (by kernel_rfl) hd rfl fun c' hsc hfn hA=>?_
 have hu':c'.A.units+10 < cLine:=by rw [hA];show c.A.units+3+10 < cLine;walk_at "rm"
 unfold isWord at hj
 rw [Bool.and_eq_true,Bool.and_eq_true,beq_iff_eq,beq_iff_eq,List.all_eq_true] at hj
 have hj6:j < 6:=(List.getElem?_eq_some_iff.mp hx).1
 show es c' [(("_law_e":Str),some _),(("_law_words":Str),none),(("_law_marks":Str),none)] (execs (_::_) c'.env) σ _
 walk_at "go"
 refine ev_list ?_
 walk_at "go"
 refine ⟨sz,.inl ?_⟩
 walk_at "go"
 refine ev_list ?_
 walk_at "go"
 (refine cb_isinstance T (by assumption) (by rfl) ?_;walk_at "go")
 (refine ev_globR (T.glob n_NoTable (by decide)) (by rw [hsc];rfl) (fun F => .raw _) ?_;walk_at "go")
 refine isExc T hC (by decide) ?_
 walk_at "go"
 (refine cb_isinstance T (by assumption) (by rfl) ?_;walk_at "go")
 (refine ev_globR (T.glob n_NoSign (by decide)) (by rw [hsc];rfl) (fun F => .raw _) ?_;walk_at "go")
 refine isExc T hC (by decide) ?_
 walk_at "go"
 (refine cb_isinstance T (by assumption) (by rfl) ?_;walk_at "go")
 (refine ev_globR (T.glob n_NoHand (by decide)) (by rw [hsc];rfl) (fun F => .raw _) ?_;walk_at "go")
 refine isExc T hC (by decide) ?_
 walk_at "go"
 (refine cb_isinstance T (by assumption) (by rfl) ?_;walk_at "go")
 (refine ev_globR (T.glob n_NoSaying (by decide)) (by rw [hsc];rfl) (fun F => .raw _) ?_;walk_at "go")
 refine isExc T hC (by decide) ?_
 walk_at "go"
 refine ⟨sz,.inl ?_⟩
 walk_at "go"
 refine ev_list ?_
 walk_at "go"
 (refine cb_isinstance T (by assumption) (by rfl) ?_;walk_at "go")
 (refine ev_globR (T.glob n_Over (by decide)) (by rw [hsc];rfl) (fun F => .raw _) ?_;walk_at "go")
 refine isExc T hC (by decide) ?_
 walk_at "go"
 (refine cb_isinstance T (by assumption) (by rfl) ?_;walk_at "go")
 (refine ev_globR (T.glob n_NotOver (by decide)) (by rw [hsc];rfl) (fun F => .raw _) ?_;walk_at "go")
 refine isExc T hC (by decide) ?_
 walk_at "go"
 refine ⟨sz,.inl ?_⟩
 refine op_addl .list .list sz (.inl ?_)
 rw [show [AV.bool (decide (C=37)),.bool (decide (C=49)),.bool (decide (C=61)),.bool (decide (C=73))]++[.bool (decide (C=85)),.bool (decide (C=97))]=(marks C).map .bool from rfl]
 walk_at "go"
 (refine ev_meth F.plainAttrs_list F.slot_list_count F.type_list_count ?_;walk_at "go")
 refine ⟨.list,?_⟩
 walk_at "go"
 obtain ⟨b1,b2,b3⟩:=bools_plain (marks C)
 refine cal_count .list b1 (by rw [b2];exact Nat.zero_le _) rfl (by walk_at "rm") ?_
 rw [b3,hj.1.1]
 walk_at "go"
 ·rename_i e;cases e
 (refine cb_isinstance T (by assumption) (by rfl) ?_;walk_at "go")
 (refine ev_bltN boot_VE T (by assumption) nb_ValueError (by rfl) ?_;walk_at "go")
 refine cal_isExcVal (six_ok T hC).2.1 ?_
 walk_at "go"
 (refine ev_meth F.plainAttrs_list F.slot_list_index F.type_list_index ?_;walk_at "go")
 refine ⟨.list,?_⟩
 walk_at "go"
 refine cal_indexT .list hj.1.2 (by show 6≤100;decide) (fun m hm=>by simpa using hj.2 m (List.mem_range.mpr hm)) ?_
 walk_at "go"
 refine sub_list (l:=words.map .str) (y := .str x) .list (Int.natCast_nonneg _) (by exact o230 hj6) (by rw [Int.toNat_natCast,List.getElem?_map,hx];rfl) ?_
 walk_at "go"
 exact q
noncomputable def Aw (c c':Cx g):Prop:=c'.A.depth=c.A.depth+1∧c'.A.handled=none∧c'.A.units=c.A.units+3
theorem asked_x {Q:AV→Sto→Prop} {l:List Env} (T:TopG g (KK g)) (fr:FrA c.A l) (hd:c.A.depth+2 < recursionLimit) (hh:c.A.handled=none) (hu:c.A.units+50 < cLine) {w:Int} {t y:AV} {C:Addr} {P:Sto→Prop} {j:Nat} {x:Str} (hC:C∈sixC) (hj:isWord C j=true) (hx:words[j]?=some x)
  (q0:w=0→∃ a b d e,y = .tup [a,b,d,e]∧∀ (c':Cx g) l',Aw c c'→FrA c'.A l'→calX c' l' (.ref 228) [a,b,d,e] σ C P)
  (qt:w≠0→∃ a d m,t = .obj a∧σ a=some (.inst 228 d)∧σ d=some (.dct (atts m))∧m.lookup ("play":Str)=none∧m.lookup ("told":Str)=none∧m.lookup ("says":Str)=none)
  (q1:w=1→∀ (c':Cx g) l',Aw c c'→FrA c'.A l'→calX c' l' (.ref 211) [t,y] σ C P)
  (q2:w=2→∀ (c':Cx g) l',Aw c c'→FrA c'.A l'→calX c' l' (.ref 218) [t,y] σ C P)
  (q3:w≠0→w≠1→w≠2→∀ (c':Cx g) l',Aw c c'→FrA c'.A l'→calX c' l' (.ref 225) [t,y] σ C P)
  (q:∀ σ',P σ'→Q (.str x) σ'):cal c (.ref 329) [.int w,t,y] σ Q:=by
 refine cal_fnF (rest:=["_law_e"]) (fn__law_asked T) (by kernel_rfl) (by walk_at "rm") rfl fr fun c' hsc hfn hA fr'=>?_
 have aw:Aw c c':=⟨by rw [hA];rfl,by rw [hA];exact hh,by rw [hA];rfl⟩
 obtain ⟨_,L',hL'⟩:=fr'.2 c'.env List.mem_cons_self
 show es c' [(("_law_way":Str),some _),(("_law_table_here":Str),some _),(("_law_thing":Str),some _),(("_law_e":Str),none)] (execs (_::_) c'.env) σ _
 refine es_seq (es_tryX (P:=P) fr' hL' hfn (T.glob n_TableError (by decide)) (by rw [hsc];rfl) (six_ok T hC).2.1 (eb_TableError T) (by rw [hsc];rfl) ?_ fun σ' hp=>?_)
 ·refine esO_head (esO_if fun E=>?_)
  walk_at "go"
  ·rename_i e
   obtain ⟨a,b,d,f,rfl,h⟩:=q0 (by simpa using e)
   refine esO_head (esO_expr (evX_callC T hsc n_Table (by rfl) kc_Table fun E=>?_) (by with_unfolding_all rfl))
   walk_at "go"
   refine sub_tup (j:=0) (y:=a) (by decide) (by decide) rfl rfl ?_
   walk_at "go"
   refine sub_tup (j:=1) (y:=b) (by decide) (by decide) rfl rfl ?_
   walk_at "go"
   refine sub_tup (j:=2) (y:=d) (by decide) (by decide) rfl rfl ?_
   walk_at "go"
   refine sub_tup (j:=3) (y:=f) (by decide) (by decide) rfl rfl ?_
   exact h _ _ aw fr'
  ·rename_i e0
   replace e0:w≠0:=by simpa using e0
   obtain ⟨a,d,m,rfl,ha,hd0,k1,k2,k3⟩:=qt e0
   refine esO_head (esO_if fun E=>?_)
   walk_at "go"
   ·rename_i e
    refine esO_head (esO_expr (evX_methI T.X k_Table_play (fun E=>?_) (by with_unfolding_all rfl) (by rfl) (by rfl) (by rfl)) (by with_unfolding_all rfl))
    walk_at "go"
    refine ⟨a,_,d,_,rfl,ha,hd0,by kernel_rfl,k1,?_⟩
    walk_at "go"
    exact q1 (by simpa using e) _ _ aw fr'
   ·rename_i e1
    refine esO_head (esO_if fun E=>?_)
    walk_at "go"
    ·rename_i e
     refine esO_head (esO_expr (evX_methI T.X k_Table_told (fun E=>?_) (by with_unfolding_all rfl) (by rfl) (by rfl) (by rfl)) (by with_unfolding_all rfl))
     walk_at "go"
     refine ⟨a,_,d,_,rfl,ha,hd0,by kernel_rfl,k2,?_⟩
     walk_at "go"
     exact q2 (by simpa using e) _ _ aw fr'
    ·rename_i e2
     refine esO_head (esO_expr (evX_methI T.X k_Table_says (fun E=>?_) (by with_unfolding_all rfl) (by rfl) (by rfl) (by rfl)) (by with_unfolding_all rfl))
     walk_at "go"
     refine ⟨a,_,d,_,rfl,ha,hd0,by kernel_rfl,k3,?_⟩
     walk_at "go"
     exact q3 e0 (by simpa using e1) (by simpa using e2) _ _ aw fr'
 ·refine upd_ex (by walk_at "ctor") fun c₂ d2 u2 s2 f2 v2=>?_
  have hsc₂:c₂.sc=_:=s2.trans hsc
  walk_at "go"
  (refine ev_callF T (by assumption) n__law_word (by rfl) k__law_word ?_;walk_at "go")
  refine word_spec T (by rw [d2,aw.1];walk_at "rm") (by rw [u2,aw.2.2];walk_at "rm") hC hj hx ?_
  walk_at "go"
  exact q σ' hp
theorem asked_n {Q:AV→Sto→Prop} (T:TopG g (KK g)) (hd:c.A.depth+2 < recursionLimit) (hh:c.A.handled=none) {w:Int} {t y:AV} {P:Sto→Prop}
  (q0:w=0→∃ a b d e,y = .tup [a,b,d,e]∧∀ (c':Cx g) (Q':AV→Sto→Prop),Aw c c'→(∀ z σ',P σ'→Q' z σ')→cal c' (.ref 228) [a,b,d,e] σ Q')
  (qt:w≠0→∃ a d m,t = .obj a∧σ a=some (.inst 228 d)∧σ d=some (.dct (atts m))∧m.lookup ("play":Str)=none∧m.lookup ("told":Str)=none∧m.lookup ("says":Str)=none)
  (q1:w=1→∀ (c':Cx g) (Q':AV→Sto→Prop),Aw c c'→(∀ z σ',P σ'→Q' z σ')→cal c' (.ref 211) [t,y] σ Q')
  (q2:w≠2)
  (q3:w≠0→w≠1→∀ (c':Cx g) (Q':AV→Sto→Prop),Aw c c'→(∀ z σ',P σ'→Q' z σ')→cal c' (.ref 225) [t,y] σ Q')
  (q:∀ σ',P σ'→Q (.str "done") σ'):cal c (.ref 329) [.int w,t,y] σ Q:=by
 refine cal_fn (rest:=["_law_e"]) (fn__law_asked T) (by kernel_rfl) (by walk_at "rm") rfl fun c' hsc hfn hA=>?_
 have aw:∀ E,Aw c (c'.re E):=fun E=>⟨by show c'.A.depth=_;rw [hA];rfl,by show c'.A.handled=_;rw [hA];exact hh,by show c'.A.units=_;rw [hA];rfl⟩
 show es c' [(("_law_way":Str),some _),(("_law_table_here":Str),some _),(("_law_thing":Str),some _),(("_law_e":Str),none)] (execs (_::_) c'.env) σ _
 refine es_seq (es_tryN fun E=>?_)
 walk_at "go"
 ·rename_i e
  obtain ⟨a,b,d,f,rfl,h⟩:=q0 (by simpa using e)
  refine ev_callC T hsc n_Table (by rfl) kc_Table ?_
  walk_at "go"
  refine sub_tup (j:=0) (y:=a) (by decide) (by decide) rfl rfl ?_
  walk_at "go"
  refine sub_tup (j:=1) (y:=b) (by decide) (by decide) rfl rfl ?_
  walk_at "go"
  refine sub_tup (j:=2) (y:=d) (by decide) (by decide) rfl rfl ?_
  walk_at "go"
  refine sub_tup (j:=3) (y:=f) (by decide) (by decide) rfl rfl ?_
  refine h _ _ (aw E) fun z σ' hp=>?_
  walk_at "go"
  exact q σ' hp
 ·rename_i e0 e1
  obtain ⟨a,d,m,rfl,ha,hd0,k1,k2,k3⟩:=qt (by simpa using e0)
  (refine ev_methI T.X k_Table_play ?_;walk_at "go")
  refine ⟨a,_,d,_,rfl,ha,hd0,by kernel_rfl,k1,?_⟩
  walk_at "go"
  refine q1 (by simpa using e1) _ _ (aw E) fun z σ' hp=>?_
  walk_at "go"
  exact q σ' hp
 ·rename_i e2
  exact absurd (by simpa using e2) q2
 ·rename_i e0 e1 e2
  obtain ⟨a,d,m,rfl,ha,hd0,k1,k2,k3⟩:=qt (by simpa using e0)
  (refine ev_methI T.X k_Table_says ?_;walk_at "go")
  refine ⟨a,_,d,_,rfl,ha,hd0,by kernel_rfl,k3,?_⟩
  walk_at "go"
  refine q3 (by simpa using e0) (by simpa using e1) _ _ (aw E) fun z σ' hp=>?_
  walk_at "go"
  exact q σ' hp
noncomputable def strangeL:List AV:=[.str "", .str "abcdefghi", .str "aB", .none,.int 5,.str "a1", .list [.str "a"]]
noncomputable def badL:List AV:=[.str "", .str "abcdefghi", .str "aB", .int 5,.bool true,.list [.str "a"],.str "a b"]
noncomputable def handL (h:Int):List AV:=[.int (-1),.int h,.bool true,.none,.str "0", .int (h+1000000000000),.tup [.int 0]]
theorem bs_str (x:Str) (h:(x.cps.all (· < 128) && decide (x.length≤100) && !isS x)=true):BadS (.str x):=by
 rw [Bool.and_eq_true,Bool.and_eq_true,Bool.not_eq_true'] at h
 exact .str h.1.1 (of_decide_eq_true h.1.2) h.2
theorem strange_bad {y:AV} (h:y∈strangeL):BadS y:=by
 simp only [strangeL,List.mem_cons,List.not_mem_nil,or_false] at h
 rcases h with rfl | rfl | rfl | rfl | rfl | rfl | rfl
 ·exact bs_str _ (by decide +kernel)
 ·exact bs_str _ (by decide +kernel)
 ·exact bs_str _ (by decide +kernel)
 ·exact .odd .none
 ·exact .odd (.int _)
 ·exact bs_str _ (by decide +kernel)
 ·exact .odd (.list _)
theorem bad_bad {y:AV} (h:y∈badL):BadS y∧isNoneA y=false:=by
 simp only [badL,List.mem_cons,List.not_mem_nil,or_false] at h
 rcases h with rfl | rfl | rfl | rfl | rfl | rfl | rfl
 ·exact ⟨bs_str _ (by decide +kernel),rfl⟩
 ·exact ⟨bs_str _ (by decide +kernel),rfl⟩
 ·exact ⟨bs_str _ (by decide +kernel),rfl⟩
 ·exact ⟨.odd (.int _),rfl⟩
 ·exact ⟨.odd (.bool _),rfl⟩
 ·exact ⟨.odd (.list _),rfl⟩
 ·exact ⟨bs_str _ (by decide +kernel),rfl⟩
theorem hand_bad {h:Int} (h0:2≤h) {y:AV} (hy:y∈handL h):BadH h y:=by
 simp only [handL,List.mem_cons,List.not_mem_nil,or_false] at hy
 rcases hy with rfl | rfl | rfl | rfl | rfl | rfl | rfl
 ·exact .int (by walk_at "rm")
 ·exact .int (by walk_at "rm")
 ·exact .bool _
 ·exact .odd .none
 ·exact .odd (.str _)
 ·exact .int (by walk_at "rm")
 ·exact .odd (.tup _)
theorem at_some {l:List AV} {k:Int} {n:Nat} (hn:l.length=n) (h0:0≤k) (h1:k < n):∃ y,l[k.toNat]?=some y∧y∈l:=by
 have hl:k.toNat < l.length:=by exact o231 hn h0 h1
 exact ⟨_,List.getElem?_eq_getElem hl,List.getElem_mem hl⟩
theorem cut_map {α β:Type} (f:α→β) (l:List α) (a b:Option Int):cut (l.map f) a b=(cut l a b).map f:=by
 unfold cut;simp
theorem cut_sub {α:Type} (l:List α) (a b:Option Int):(cut l a b).Sublist l:=(List.take_sublist _ _).trans (List.drop_sublist _ _)
theorem ev_handL {Q:AV→Sto→Prop} {ρ:Rho} {h:Int} {k0 k1 k2 k3 k4 k5 k6 k7:Nat} {p0 p1 p2 p3 p4 p5 p6 p7 p8 p9 p10 p11 p12 p13:Pos} (hm:MemR "_law_hands_here" (.int h) ρ) (q:Q (.list (handL h)) σ) :
  ev c ρ (.List [.UnaryOp .USub (.Constant (.int 1) k0 p0) p1,.Name "_law_hands_here" p2,.Constant (.bool true) k1 p3,.Constant .none k2 p4,.Constant (.str "0") k3 p5,.BinOp (.Name "_law_hands_here" p6) .Add (.BinOp (.Constant (.int 10) k4 p7) .Pow (.Constant (.int 12) k5 p8) p9) p10,.Tuple [.Constant (.int 0) k6 p11] k7 p12] p13) σ Q:=by
 refine ev_list ?_
 walk_at "go"
 refine ev_nm hm ?_
 walk_at "go"
 refine ev_nm hm ?_
 walk_at "go"
 refine op_pow12 ?_
 walk_at "go"
 refine ev_tuple ?_
 walk_at "go"
 refine ⟨sz,?_⟩
 walk_at "go"
 exact ⟨sz,.inl q⟩
theorem eqs_self (x:Str):(x==x)=true:=beq_self_eq_true x
theorem made_spec {Q:AV→Sto→Prop} {l:List Env} (T:TopG g (KK g)) (hS:∃ f o,sysModules≤f∧g.H₀.get? f=some o) (fr:FrA c.A l) (hd:c.A.depth+12 < recursionLimit) (hh:c.A.handled=none) (hu:c.A.units+150 < cLine) {n h m:Int} {s:Str} (h0:2≤h) (h1:h≤10) (m0:0≤m) (m1:m≤2) (hs:okS s) (q:∀ σ',σ.le σ'→Q (.bool true) σ') :
  cal c (.ref 351) [.int n,.int h,.int m,.str s] σ Q:=by
 refine cal_fnF (rest:=["_law_strange", "_law_hand"]) (fn__law_made T) (by kernel_rfl) (by walk_at "rm") rfl fr fun c' hsc hfn hA fr'=>?_
 have hh':c'.A.handled=none:=by rw [hA];exact hh
 have hd':c'.A.depth+10 < recursionLimit:=by rw [hA];show c.A.depth+1+10 < _;walk_at "rm"
 have hu':c'.A.units+140 < cLine:=by rw [hA];show c.A.units+3+140 < cLine;walk_at "rm"
 have dd:∀ {c'':Cx g},Aw c' c''→c''.A.depth+6 < recursionLimit:=fun a=>by rw [a.1];walk_at "rm"
 have uu:∀ {c'':Cx g},Aw c' c''→c''.A.units+70 < cLine:=fun a=>by rw [a.2.2];walk_at "rm"
 show es c' [(("_law_cell":Str),some _),(("_law_hands_here":Str),some _),(("_law_most":Str),some _),(("_law_sign":Str),some _),(("_law_strange":Str),none),(("_law_hand":Str),none)] (execs (_::_) c'.env) σ _
 walk_at "go"
 refine ev_list ?_
 walk_at "go"
 refine ev_list ?_
 walk_at "go"
 refine ⟨sz,.inl ?_⟩
 walk_at "go"
 refine ⟨sz,.inl ?_⟩
 walk_at "go"
 obtain ⟨y,hy,ym⟩:=at_some (l:=strangeL) (k:=n.fmod 7) (n:=7) rfl (fm_lo n (n:=7) (by decide)) (fm_hi n (n:=7) (by decide))
 refine sub_list (l:=strangeL) .list (fm_lo n (n:=7) (by decide)) (by have:=fm_hi n (n:=7) (by decide);walk_at "rm") hy ?_
 walk_at "go"
 refine ev_handL (by walk_at "ctor") ?_
 walk_at "go"
 obtain ⟨z,hz,zm⟩:=at_some (l:=handL h) (k:=(n.fdiv 7).fmod 7) (n:=7) rfl (fm_lo _ (n:=7) (by decide)) (fm_hi _ (n:=7) (by decide))
 refine sub_list (l:=handL h) .list (fm_lo _ (n:=7) (by decide)) (by have:=fm_hi (n.fdiv 7) (n:=7) (by decide);walk_at "rm") hz ?_
 walk_at "go"
 (refine ev_callF T (by assumption) n__law_asked (by rfl) k__law_asked ?_;walk_at "go")
 refine ev_tuple ?_
 walk_at "go"
 refine ev_list ?_
 walk_at "go"
 refine ⟨sz,.inl ?_⟩
 walk_at "go"
 refine ⟨sz,?_⟩
 walk_at "go"
 refine asked_x (C:=49) (P:=σ.le) (j:=1) T fr' (by walk_at "rm") hh' (by walk_at "rm") (by decide) (by decide) rfl (fun _=>⟨_,_,_,_,rfl,fun c'' l' a f=>make_xs T hS f (dd a) a.2.1 h0 h1 m0 m1 (strange_bad ym) fun _ h=>h⟩) (fun h=>absurd rfl h) (fun h=>by cases h) (fun h=>by cases h) (fun h=>absurd rfl h) fun σ₁ l₁=>?_
 walk_at "go"
 refine cmp_nes ?_
 rw [eqs_self]
 walk_at "go"
 (refine ev_callF T (by assumption) n__law_asked (by rfl) k__law_asked ?_;walk_at "go")
 refine ev_tuple ?_
 walk_at "go"
 refine ev_list ?_
 walk_at "go"
 refine ⟨sz,.inl ?_⟩
 walk_at "go"
 refine ⟨_,.list,sz,.inl ?_⟩
 rw [show [AV.int 0,AV.int 1]=([0,1]:List Int).map .int from rfl,cut_map]
 have cs:=cut_sub ([0,1]:List Int) none (some (n.fmod 3))
 have cl:=cs.length_le
 have cn:(cut ([0,1]:List Int) none (some (n.fmod 3))).Nodup:=cs.nodup (by decide)
 have cm:∀ x∈cut ([0,1]:List Int) none (some (n.fmod 3)),0≤x∧x < h:=fun x hx=>by
  have:=cs.subset hx
  simp only [List.mem_cons,List.not_mem_nil,or_false] at this
  walk_at "rm"
 generalize cut ([0,1]:List Int) none (some (n.fmod 3))=L at cl cn cm ⊢
 replace cl:L.length≤2:=cl
 walk_at "go"
 refine ev_list ?_
 walk_at "go"
 refine ⟨sz,.inl ?_⟩
 refine op_addl .list .list (by rw [List.length_map,sizeLine_eq];show L.length+1≤_;exact o232 cl) (.inl ?_)
 walk_at "go"
 refine ⟨sz,?_⟩
 walk_at "go"
 refine asked_x (C:=61) (P:=σ₁.le) (j:=2) T fr' (by walk_at "rm") hh' (by walk_at "rm") (by decide) (by decide) rfl (fun _=>⟨_,_,_,_,rfl,fun c'' l' a f=>make_xh T hS f (dd a) a.2.1 (uu a) h0 h1 m0 m1 hs cn cm (by walk_at "rm") (.inl (hand_bad h0 zm)) (.inl rfl) fun _ h=>h⟩) (fun h=>absurd rfl h) (fun h=>by cases h) (fun h=>by cases h) (fun h=>absurd rfl h) fun σ₂ l₂=>?_
 walk_at "go"
 refine cmp_nes ?_
 rw [eqs_self]
 walk_at "go"
 (refine ev_callF T (by assumption) n__law_asked (by rfl) k__law_asked ?_;walk_at "go")
 refine ev_tuple ?_
 walk_at "go"
 refine ev_tuple ?_
 walk_at "go"
 refine ⟨sz,?_⟩
 walk_at "go"
 refine ⟨sz,?_⟩
 walk_at "go"
 have dm:∀ x∈([1,0]:List Int),0≤x∧x < h:=fun x hx=>by
  simp only [List.mem_cons,List.not_mem_nil,or_false] at hx
  walk_at "rm"
 refine asked_x (C:=61) (P:=σ₂.le) (j:=2) T fr' (by walk_at "rm") hh' (by walk_at "rm") (by decide) (by decide) rfl (fun _=>⟨_,_,_,_,rfl,fun c'' l' a f=>make_xh (L:=[1,0]) (x := .int 1) (xs:=[]) T hS f (dd a) a.2.1 (uu a) h0 h1 m0 m1 hs (by decide) dm (by decide) (.inr ⟨1,by decide,rfl⟩) (.inr rfl) fun _ h=>h⟩) (fun h=>absurd rfl h) (fun h=>by cases h) (fun h=>by cases h) (fun h=>absurd rfl h) fun σ₃ l₃=>?_
 walk_at "go"
 refine cmp_nes ?_
 rw [eqs_self]
 walk_at "go"
 (refine ev_callF T (by assumption) n__law_asked (by rfl) k__law_asked ?_;walk_at "go")
 refine ev_tuple ?_
 walk_at "go"
 refine ev_tuple ?_
 walk_at "go"
 refine ⟨sz,?_⟩
 walk_at "go"
 refine ⟨sz,?_⟩
 walk_at "go"
 refine asked_n (P:=σ₃.le) T (by walk_at "rm") hh' (fun _=>⟨_,_,_,_,rfl,fun c'' Q' a k=>make_spec (L:=[1,0]) T hS (dd a) a.2.1 (uu a) h0 h1 m0 m1 hs (by decide) dm (by decide) (.inr rfl) fun a d E σ' _ hl=>k _ _ hl⟩) (fun h=>absurd rfl h) (fun h=>by cases h) (fun h=>by cases h) (fun h=>absurd rfl h) fun σ₄ l₄=>?_
 walk_at "go"
 refine cmp_eqs ?_
 rw [eqs_self]
 walk_at "go"
 exact q σ₄ fun b x hb=>l₄ b x (l₃ b x (l₂ b x (l₁ b x hb)))
noncomputable def dueS (ov:Bool):Str:=if ov then "done" else "early"
theorem TB.qt {a d:Addr} {E:List Addr} {H M:Int} {s:Str} {L:List Int} {ls:Lies} {n:Int} (t:TB a d E H M s L ls n σ):∃ a' d' m,AV.obj a = .obj a'∧σ a'=some (.inst 228 d')∧σ d'=some (.dct (atts m))∧m.lookup ("play":Str)=none∧m.lookup ("told":Str)=none∧m.lookup ("says":Str)=none :=
 ⟨a,d,_,rfl,t.1,t.2.1,rfl,rfl,rfl⟩
theorem TB.up {a d:Addr} {E:List Addr} {H M:Int} {s:Str} {L:List Int} {ls:Lies} {n:Int} {σ':Sto} (t:TB a d E H M s L ls n σ) (h:σ.le σ'):TB a d E H M s L ls n σ':=t.le fun k _ x hx=>h k x hx
theorem asked_says {Q:AV→Sto→Prop} {l:List Env} (T:TopG g (KK g)) (fr:FrA c.A l) (hd:c.A.depth+15 < recursionLimit) (hh:c.A.handled=none) (hu:c.A.units+120 < cLine) (ov:Bool) {h m n x:Int} {s:Str} {L:List Int} {ls:Lies} {a d:Addr} {E:List Addr} (t:TB a d E h m s L ls n σ) (h0:2≤h) (h1:h≤10) (m0:0≤m) (m1:m≤2) (k0:ov=false→n≤m) (k1:ov=true→n=m+1) (x0:0≤x) (x1:x < h) (q:Q (.str (dueS ov)) σ) :
  cal c (.ref 329) [.int 3,.obj a,.int x] σ Q:=by
 cases ov with
 | false=>exact asked_x (C:=97) (P:=(· = σ)) (j:=5) T fr (by walk_at "rm") hh (by walk_at "rm") (by decide) (by decide) rfl (fun h=>by cases h) (fun _=>t.qt) (fun h=>by cases h) (fun h=>by cases h) (fun _ _ _ c' l' a f=>says_early T f (by rw [a.1];walk_at "rm") a.2.1 t.1 t.2.1 (k0 rfl) x0 x1 rfl) fun σ' e=>by subst e;exact q
 | true =>
  have e:=k1 rfl
  subst e
  exact asked_n (P:=(· = σ)) T (by walk_at "rm") hh (fun h=>by cases h) (fun _=>t.qt) (fun h=>by cases h) (by decide) (fun _ _ c' Q' a k=>says_spec T (by rw [a.1];walk_at "rm") a.2.1 (by rw [a.2.2];walk_at "rm") h0 h1 m0 m1 t.1 t.2.1 t.2.2.2.2 x0 x1 fun y=>k _ _ rfl) fun σ' e=>by subst e;exact q
theorem hands_spec {Q:AV→Sto→Prop} {l:List Env} (T:TopG g (KK g)) (fr:FrA c.A l) (hd:c.A.depth+17 < recursionLimit) (hh:c.A.handled=none) (hu:c.A.units+140 < cLine) (ov:Bool) {h m n k:Int} {s:Str} {L:List Int} {ls:Lies} {a d:Addr} {E:List Addr} (t:TB a d E h m s L ls n σ) (h0:2≤h) (h1:h≤10) (m0:0≤m) (m1:m≤2) (k0:ov=false→n≤m) (k1:ov=true→n=m+1) (q:Q (.bool true) σ) :
  cal c (.ref 358) [.obj a,.int h,.int k,.bool ov] σ Q:=by
 refine cal_fnF (rest:=["_law_wrong", "_law_due", "_law_way"]) (fn__law_hands T) (by kernel_rfl) (by walk_at "rm") rfl fr fun c' hsc hfn hA fr'=>?_
 have hh':c'.A.handled=none:=by rw [hA];exact hh
 have hd':c'.A.depth+15 < recursionLimit:=by rw [hA];show c.A.depth+1+15 < _;walk_at "rm"
 have hu':c'.A.units+130 < cLine:=by rw [hA];show c.A.units+3+130 < cLine;walk_at "rm"
 show es c' [(("_law_table_here":Str),some _),(("_law_hands_here":Str),some _),(("_law_cell":Str),some _),(("_law_is_over":Str),some _),(("_law_wrong":Str),none),(("_law_due":Str),none),(("_law_way":Str),none)] (execs (_::_) c'.env) σ _
 walk_at "go"
 refine ev_handL (by walk_at "ctor") ?_
 walk_at "go"
 obtain ⟨z,hz,zm⟩:=at_some (l:=handL h) (k:=k.fmod 7) (n:=7) rfl (fm_lo _ (n:=7) (by decide)) (fm_hi _ (n:=7) (by decide))
 refine sub_list (l:=handL h) .list (fm_lo _ (n:=7) (by decide)) (by have:=fm_hi k (n:=7) (by decide);walk_at "rm") hz ?_
 walk_at "go"
 refine ev_list ?_
 walk_at "go"
 refine ⟨sz,.inl ?_⟩
 walk_at "go"
 (refine cb_int T (by assumption) (by rfl) ?_;walk_at "go")
 refine cal_intB ?_
 refine sub_list (l:=[.str "early", .str "done"]) (y := .str (dueS ov)) .list (by cases ov <;> decide) (by cases ov <;> decide) (by cases ov <;> rfl) ?_
 walk_at "gos"
 refine es_join (fun ρ' σ'=>σ'=σ∧ρ'=[(("_law_table_here":Str),some (.obj a)),(("_law_hands_here":Str),some (.int h)),(("_law_cell":Str),some (.int k)),(("_law_is_over":Str),some (.bool ov)),(("_law_wrong":Str),some z),(("_law_due":Str),some (.str (dueS ov))),(("_law_way":Str),none)]) ?_ ?_
 ·walk_at "go"
  ·(refine ev_callF T (by assumption) n__law_asked (by rfl) k__law_asked ?_;walk_at "go")
   refine op_fmod (by exact o175 h0 h1) ?_
   have x0:=fm_lo (k.fdiv 7) (n:=h) (by walk_at "rm")
   have x1:=fm_hi (k.fdiv 7) (n:=h) (by walk_at "rm")
   generalize (k.fdiv 7).fmod h=x at x0 x1 ⊢
   walk_at "go"
   refine asked_says T fr' (by walk_at "rm") hh' (by walk_at "rm") ov t h0 h1 m0 m1 k0 k1 x0 x1 ?_
   walk_at "go"
   refine cmp_nes ?_
   rw [eqs_self]
   walk_at "go"
   exact jn_next (by walk_at "ctor") ⟨rfl,rfl⟩
  ·exact jn_next (by walk_at "ctor") ⟨rfl,rfl⟩
 rintro ρ' σ' ⟨rfl,rfl⟩
 walk_at "go"
 refine es_loop (fun li ρ' σ₁=>∃ W:List Int,li=W.map .int∧(∀ w∈W,w=2∨w=3)∧σ₁=σ'∧ρ'=[(("_law_table_here":Str),some (.obj a)),(("_law_hands_here":Str),some (.int h)),(("_law_cell":Str),some (.int k)),(("_law_is_over":Str),some (.bool ov)),(("_law_wrong":Str),some z),(("_law_due":Str),some (.str (dueS ov))),(("_law_way":Str),none)]) hfn ?_ ?_ ?_
 ·walk_at "go"
  refine ev_list ?_
  walk_at "go"
  refine ev_list ?_
  walk_at "go"
  refine ⟨sz,.inl ?_⟩
  walk_at "go"
  refine ev_list ?_
  walk_at "go"
  refine ⟨sz,.inl ?_⟩
  walk_at "go"
  refine ⟨sz,.inl ?_⟩
  walk_at "go"
  obtain ⟨y,hy,ym⟩:=at_some (l:=[AV.list [.int 2,.int 3],.list [.int 3,.int 2]]) (k:=(k.fdiv 140).fmod 2) (n:=2) rfl (fm_lo _ (n:=2) (by decide)) (fm_hi _ (n:=2) (by decide))
  refine sub_list .list (fm_lo _ (n:=2) (by decide)) (by have:=fm_hi (k.fdiv 140) (n:=2) (by decide);walk_at "rm") hy ?_
  simp only [List.mem_cons,List.not_mem_nil,or_false] at ym
  rcases ym with rfl | rfl
  ·exact ⟨_,iter_list hh' _,[2,3],rfl,by decide,rfl,rfl⟩
  ·exact ⟨_,iter_list hh' _,[3,2],rfl,by decide,rfl,rfl⟩
 ·rintro c₂ hA₂ hsc₂ hfn₂ y rest ρ₁ σ₁ ⟨W,hW,hw,rfl,rfl⟩
  rw [hsc] at hsc₂
  rw [← hA₂] at hd' hh' hu' fr'
  cases W with
  | nil=>cases hW
  | cons w W =>
   rw [List.map_cons] at hW
   injection hW with e1 e2
   subst e1;subst e2
   have hw0:=hw w List.mem_cons_self
   refine upd_ex (by walk_at "ctor") ?_
   walk_at "go"
   (refine ev_callF T (by assumption) n__law_asked (by rfl) k__law_asked ?_;walk_at "go")
   refine asked_x (C:=61) (P:=(· = σ₁)) (j:=2) T fr' (by walk_at "rm") hh' (by walk_at "rm") (by decide) (by decide) rfl (fun e=>by walk_at "rm") (fun _=>t.qt) (fun e=>by walk_at "rm") (fun _ c'' l' a f=>told_x T f (by rw [a.1];walk_at "rm") a.2.1 t.1 t.2.1 (hand_bad h0 zm) rfl) (fun _ _ _ c'' l' a f=>says_x T f (by rw [a.1];walk_at "rm") a.2.1 t.1 t.2.1 (hand_bad h0 zm) rfl) fun σ₂ e=>?_
   subst e
   walk_at "go"
   refine cmp_nes ?_
   rw [eqs_self]
   walk_at "go"
   exact trn_next (by walk_at "ctor") ⟨W,rfl,fun w hm=>hw w (List.mem_cons_of_mem _ hm),rfl,rfl⟩
 ·rintro ρ₁ σ₁ ⟨W,hW,hw,rfl,rfl⟩
  walk_at "go"
  (refine ev_callF T (by assumption) n__law_asked (by rfl) k__law_asked ?_;walk_at "go")
  refine op_fmod (by exact o175 h0 h1) ?_
  have x0:=fm_lo (k.fdiv 7) (n:=h) (by walk_at "rm")
  have x1:=fm_hi (k.fdiv 7) (n:=h) (by walk_at "rm")
  generalize (k.fdiv 7).fmod h=x at x0 x1 ⊢
  walk_at "go"
  refine asked_says T fr' (by walk_at "rm") hh' (by walk_at "rm") ov t h0 h1 m0 m1 k0 k1 x0 x1 ?_
  walk_at "go"
  refine cmp_eqs ?_
  rw [eqs_self]
  walk_at "go"
  exact q
theorem and2 {ρ:Rho} {e1 e2:Expr} {b1 b2:Bool} {Q:Bool→Sto→Prop} (h1:evb c ρ e1 σ fun b σ'=>b=b1∧σ'=σ) (h2:b1=true→evb c ρ e2 σ fun b σ'=>b=b2∧σ'=σ) (q:Q (b1 && b2) σ):evAll c ρ .And [e1,e2] σ Q:=by
 refine evAnd_cons (gv.mono h1 fun b σ' h=>?_)
 obtain ⟨rfl,rfl⟩:=h
 refine br_intro (fun e=>evAnd_cons (gv.mono (h2 e) fun b' σ'' h=>?_)) fun e=>by rw [e] at q;exact q
 obtain ⟨rfl,rfl⟩:=h
 rw [e,Bool.true_and] at q
 exact br_intro (fun e'=>evAnd_nil (e' ▸ q)) fun e'=>e' ▸ q
theorem hears_pos {h n:Int} (h2:2≤h) (n1:1≤n) {p:List Int} (hp:p∈lpaths h n):0 < (hears h p).length:=by
 obtain ⟨hn,_⟩:=(mem_lpaths h2 n1).mp hp
 have hs:=lpaths_size hp
 obtain ⟨z,z0,z1,z2⟩:=free_hand (h:=h) (L:=p) (by exact o233 hn hs)
 exact List.length_pos_of_mem (mem_hears.mpr ⟨⟨z0,z1⟩,z2⟩)
theorem heard_spec {Q:AV→Sto→Prop} (T:TopG g (KK g)) (hd:c.A.depth < recursionLimit) (hh:c.A.handled=none) (hu:c.A.units+30 < cLine) {h k:Int} {p:List Int} (h0:2≤h) (h1:h≤10) (hp:0 < (hears h p).length) (q:∀ x∈hears h p,Q (.tup [pth p,.int x]) σ) :
  cal c (.ref 334) [pth p,.int h,.int k] σ Q:=by
 refine cal_fn (rest:=["_law_others"]) (fn__law_heard T) (by kernel_rfl) (by walk_at "rm") rfl fun c' hsc hfn hA=>?_
 have hh':c'.A.handled=none:=by rw [hA];exact hh
 have hu':c'.A.units+20 < cLine:=by rw [hA];show c.A.units+3+20 < cLine;walk_at "rm"
 have hl:=hears_len h p
 show es c' [(("_law_path":Str),some _),(("_law_hands_here":Str),some _),(("_law_cell":Str),some _),(("_law_others":Str),none)] (execs (_::_) c'.env) σ _
 walk_at "gos"
 refine es_filtP [(("_law_path":Str),some (pth p))] AV.int (rngL 0 h) (fun x => !p.contains x) AV.int hfn hsc (by rfl) (by rfl) (by walk_at "ctor") (by rw [rngL_len,sizeLine_eq];walk_at "rm") ?_ ?_ ?_
 ·(refine cb_range T (by assumption) (by rfl) ?_;walk_at "go")
  exact cal_range1 ⟨rfl,iter_rng hh' (by decide) (by decide) (by walk_at "rm") (by walk_at "rm")⟩
 ·intro c₂ hA₂ hsc₂ a ha
  rw [← hA₂] at hu'
  refine ⟨?_,fun _=>?_⟩
  ·walk_at "go"
   refine cmp_notin_tup (ints_plain p) (by rw [ints_deep];exact Nat.zero_le _) rfl (by walk_at "rm") ?_
   walk_at "go"
   rw [ints_any]
   exact ⟨rfl,rfl⟩
  ·walk_at "go"
   exact ⟨rfl,rfl⟩
 refine made_frz (upd_ex (by walk_at "ctor") ?_)
 rw [show (rngL 0 h).filter (fun x => !p.contains x)=hears h p from rfl]
 walk_at "go"
 refine ev_tuple ?_
 walk_at "go"
 (refine cb_len T (by assumption) (by rfl) ?_;walk_at "go")
 refine cal_len_list .list (by rw [List.length_map];exact o139 h0 h1 hl) ?_
 rw [List.length_map]
 refine op_fmod (by exact o234 hp) ?_
 have x0:=fm_lo k (n:=((hears h p).length:Int)) (by exact o235 hp)
 have x1:=fm_hi k (n:=((hears h p).length:Int)) (by exact o235 hp)
 generalize k.fmod ((hears h p).length:Int)=i at x0 x1 ⊢
 have hi:i.toNat < (hears h p).length:=by walk_at "rm"
 refine sub_list (y := .int (hears h p)[i.toNat]) .list x0 (by exact o236 h0 h1 hl x1) (by rw [List.getElem?_map,List.getElem?_eq_getElem hi];rfl) ?_
 walk_at "go"
 refine ⟨sz,?_⟩
 walk_at "go"
 exact q _ (List.getElem_mem hi)
theorem pair_tkey (p:List Int) (x:Int):tkey (.tup [pth p,.int x])=true:=lkey_tkey (p,x)
noncomputable def someL (h:Int):List AV:=[.tup [pth [0,0],.int 1],.tup [pth [0],.int 0],.tup [pth [1],.int 0],.tup [.str "0", .int 1],.tup [pth [0],.int h],.tup [pth [0],.str "1"],.int 5,.tup [.int 0],.tup [pth [0],.int 1,.int 2],.tup [],.none]
theorem sayB_row {h:Int} {L:List Int} {R:List (List Int)} {p:List Int} {t:AV} (hp:p∉R):sayB h L R p t=false:=by
 unfold sayB
 rw [show R.contains p=false by rw [← Bool.not_eq_true,List.contains_iff_mem];exact hp];rfl
theorem sayB_ear {h:Int} {L:List Int} {R:List (List Int)} {p:List Int} {x:Int} (hx:x∉hears h p):sayB h L R p (.int x)=false:=by
 unfold sayB
 rw [show earB h p (.int x)=false by show (hears h p).contains x=false;rw [← Bool.not_eq_true,List.contains_iff_mem];exact hx,Bool.and_false,Bool.and_false]
theorem some_bad {h n:Int} {L:List Int} (h0:2≤h) (n0:1≤n) {y:AV} (hy:y∈someL h):BadK h L (lpaths h n) y∧tkey y=true:=by
 have ok0:∀ y∈([0]:List Int),0≤y∧y < h:=fun y hy=>by rw [List.mem_singleton.mp hy];exact o237 h0
 have ne:∀ p:List Int,p∈lpaths h n→p≠[]:=fun p hp=>(lpaths_ok h0 n0 hp).1
 simp only [someL,List.mem_cons,List.not_mem_nil,or_false] at hy
 rcases hy with rfl | rfl | rfl | rfl | rfl | rfl | rfl | rfl | rfl | rfl | rfl
 ·refine ⟨.pair (fun y hy=>?_) (by decide) (.inr ⟨_,rfl⟩) (ne _) (sayB_row fun hp=>?_),pair_tkey _ _⟩
  ·simp only [List.mem_cons,List.not_mem_nil,or_false,or_self] at hy;exact o238 h0 hy
  ·have:=(pathsN_ok (h:=h) (by walk_at "rm") _ _ ((mem_lpaths h0 n0).mp hp).2).1
   exact absurd this (by decide)
 ·exact ⟨.pair ok0 (by decide) (.inr ⟨_,rfl⟩) (ne _) (sayB_ear fun hx=>(mem_hears.mp hx).2 (by decide)),pair_tkey _ _⟩
 ·refine ⟨.pair (fun y hy=>?_) (by decide) (.inr ⟨_,rfl⟩) (ne _) (sayB_row fun hp=>?_),pair_tkey _ _⟩
  ·rw [List.mem_singleton.mp hy];exact o239 h0
  ·have:=(pathsN_ok (h:=h) (by walk_at "rm") _ _ ((mem_lpaths h0 n0).mp hp).2).2.2
   exact absurd this (by decide)
 ·exact ⟨.str _ _,rfl⟩
 ·exact ⟨.pair ok0 (by decide) (.inr ⟨_,rfl⟩) (ne _) (sayB_ear fun hx=>by have:=(mem_hears.mp hx).1;exact o240 this),pair_tkey _ _⟩
 ·refine ⟨.pair ok0 (by decide) (.inl (.str _)) (ne _) ?_,rfl⟩
  unfold sayB
  rw [show earB h [0] (.str "1")=false from rfl,Bool.and_false,Bool.and_false]
 ·exact ⟨.int _,rfl⟩
 ·exact ⟨.len (by decide) (by decide),rfl⟩
 ·exact ⟨.len (by decide) (by decide),rfl⟩
 ·exact ⟨.len (by decide) (by decide),rfl⟩
 ·exact ⟨.none,rfl⟩
theorem last_at {h n:Int} (h0:2≤h) (n0:1≤n) {p:List Int} (hp:p∈lpaths h n):∃ p0 y,p=p0++[y]∧p.getLastD 0=y:=by
 have hne:=(lpaths_ok h0 n0 hp).1
 obtain ⟨p0,y,e⟩:∃ p0 y,p=p0++[y]:=⟨_,_,(List.dropLast_concat_getLast hne).symm⟩
 exact ⟨p0,y,e,by rw [e,List.getLastD_concat]⟩
theorem seq_at {i:Int} {n:Nat} (h0:0≤i) (h1:i < n):seqIndex? i n=some i.toNat:=by
 unfold seqIndex?
 dsimp only
 rw [if_neg (show ¬ i < 0 from Int.not_lt.mpr h0),if_pos (by rw [decide_eq_true h0,decide_eq_true h1];rfl)]
theorem path_pair {h n n':Int} {L:List Int} (h0:2≤h) (n0:1≤n) (n0':1≤n') (n1:n'≤3) {p:List Int} (hp:p∈lpaths h n') {x:Int} (hs:sayB h L (lpaths h n) p (.int x)=false):BadK h L (lpaths h n) (.tup [pth p,.int x]):=by
 obtain ⟨_,p2,p3⟩:=lpaths_ok h0 n0' hp
 exact .pair p3 (by exact o241 n0' n1 p2) (.inr ⟨_,rfl⟩) (fun h=>(lpaths_ok h0 n0 h).1) hs
theorem at_path {l:List (List Int)} {k:Int} (hl:l≠[]):0 < (l.length:Int)∧0≤k.fmod l.length∧k.fmod l.length < l.length∧∃ p∈l,(l.map pth)[(k.fmod l.length).toNat]?=some (pth p):=by
 have h0:0 < (l.length:Int):=by have:=List.length_pos_iff.mpr hl;exact o235 this
 have x0:=fm_lo k h0
 have x1:=fm_hi k h0
 have hi:(k.fmod l.length).toNat < l.length:=by exact o186 x0 x1
 exact ⟨h0,x0,x1,_,List.getElem_mem hi,by rw [List.getElem?_map,List.getElem?_eq_getElem hi];rfl⟩
theorem eqL_nil {l:List (List Int)} (h:(!eqL (l.map pth) [])=true):l≠[]:=by
 rintro rfl;cases h
theorem wrong_spec {Q:AV→Sto→Prop} (T:TopG g (KK g)) (hd:c.A.depth+3 < recursionLimit) (hh:c.A.handled=none) (hu:c.A.units+60 < cLine) {k h n:Int} {L:List Int} (h0:2≤h) (h1:h≤10) (n0:1≤n) (n1:n≤3) (q:∀ y,BadK h L (lpaths h n) y→tkey y=true→Q y σ) :
  cal c (.ref 339) [.int k,.int h,.int n,.list (L.map .int)] σ Q:=by
 refine cal_fn (rest:=["_law_rows", "_law_far", "_law_honest", "_law_lying", "_law_more", "_law_one", "_law_some"]) (fn__law_wrong_pair T) (by kernel_rfl) (by walk_at "rm") rfl fun c' hsc hfn hA=>?_
 have hh':c'.A.handled=none:=by rw [hA];exact hh
 have hd':c'.A.depth+2 < recursionLimit:=by rw [hA];show c.A.depth+1+2 < _;walk_at "rm"
 have hu':c'.A.units+50 < cLine:=by rw [hA];show c.A.units+3+50 < cLine;walk_at "rm"
 have hll:=lpaths_len (n:=n) h1 n1
 show es c' [(("_law_cell":Str),some _),(("_law_hands_here":Str),some _),(("_law_size":Str),some _),(("_law_liars_here":Str),some _),(("_law_rows":Str),none),(("_law_far":Str),none),(("_law_honest":Str),none),(("_law_lying":Str),none),(("_law_more":Str),none),(("_law_one":Str),none),(("_law_some":Str),none)] (execs (_::_) c'.env) σ _
 walk_at "go"
 (refine ev_callF T (by assumption) n__law_paths (by rfl) k__law_paths ?_;walk_at "go")
 refine paths_spec T (by walk_at "rm") hh' (by walk_at "rm") (by walk_at "rm") h1 (by walk_at "rm") n1 ?_
 walk_at "go"
 (refine ev_callF T (by assumption) n__law_paths (by rfl) k__law_paths ?_;walk_at "go")
 refine ev_list ?_
 walk_at "go"
 refine ⟨sz,.inl ?_⟩
 walk_at "go"
 (refine cb_int T (by assumption) (by rfl) ?_;walk_at "go")
 refine cal_intB ?_
 obtain ⟨f,f0,f1,f2,fe⟩:∃ f:Int,1≤f∧f≤2∧f≠n∧[AV.int 2,.int 1][(if decide (1 < n)=true then (1:Int) else 0).toNat]?=some (.int f):=by
  by_cases e:1 < n
  ·rw [decide_eq_true e];exact ⟨1,by decide,by decide,by exact o242 n0 n1 e,rfl⟩
  ·rw [decide_eq_false e];exact ⟨2,by decide,by decide,by exact o243 n0 n1 e,rfl⟩
 refine sub_list .list (by split <;> decide) (by split <;> decide) fe ?_
 walk_at "go"
 refine paths_spec T (by walk_at "rm") hh' (by walk_at "rm") (by walk_at "rm") h1 (by walk_at "rm") (by walk_at "rm") ?_
 have hlf:=lpaths_len (n:=f) h1 (by walk_at "rm")
 walk_at "gos"
 refine es_filtP [(("_law_liars_here":Str),some (.list (L.map .int)))] pth (lpaths h n) (fun p => !L.contains (p.getLastD 0)) pth hfn hsc (by rfl) (by rfl) (by walk_at "ctor") (by rw [sizeLine_eq];walk_at "rm") ?_ ?_ ?_
 ·walk_at "go"
  exact ⟨rfl,iter_list hh' _⟩
 ·intro c₂ hA₂ hsc₂ p hp
  rw [← hA₂] at hu'
  obtain ⟨p0,y,k3,k4⟩:=last_at h0 n0 hp
  refine ⟨?_,fun _=>?_⟩
  ·walk_at "go"
   refine sub_tup (j:=p0.length) (y := .int y) (by decide) (by decide) (by rw [k3,List.length_map,List.length_append];exact seq_last _) (by rw [k3];simp) ?_
   walk_at "go"
   refine cmp_notin_list .list (ints_plain L) (by rw [ints_deep];exact Nat.zero_le _) rfl (by walk_at "rm") ?_
   rw [ints_any]
   walk_at "go"
   rw [k4]
   exact ⟨rfl,rfl⟩
  ·walk_at "go"
   exact ⟨rfl,rfl⟩
 refine made_frz (upd_ex (by walk_at "ctor") ?_)
 walk_at "gos"
 refine es_filtP [(("_law_liars_here":Str),some (.list (L.map .int)))] pth (lpaths h n) (fun p=>L.contains (p.getLastD 0)) pth hfn hsc (by rfl) (by rfl) (by walk_at "ctor") (by rw [sizeLine_eq];walk_at "rm") ?_ ?_ ?_
 ·walk_at "go"
  exact ⟨rfl,iter_list hh' _⟩
 ·intro c₂ hA₂ hsc₂ p hp
  rw [← hA₂] at hu'
  obtain ⟨p0,y,k3,k4⟩:=last_at h0 n0 hp
  refine ⟨?_,fun _=>?_⟩
  ·walk_at "go"
   refine sub_tup (j:=p0.length) (y := .int y) (by decide) (by decide) (by rw [k3,List.length_map,List.length_append];exact seq_last _) (by rw [k3];simp) ?_
   walk_at "go"
   refine cmp_in_list .list (ints_plain L) (by rw [ints_deep];exact Nat.zero_le _) rfl (by walk_at "rm") ?_
   rw [ints_any]
   walk_at "go"
   rw [k4]
   exact ⟨rfl,rfl⟩
  ·walk_at "go"
   exact ⟨rfl,rfl⟩
 refine made_frz (upd_ex (by walk_at "ctor") ?_)
 have hhl:=List.length_filter_le (fun p => !L.contains (p.getLastD 0)) (lpaths h n)
 have hyl:=List.length_filter_le (fun p=>L.contains (p.getLastD 0)) (lpaths h n)
 have hhm:∀ p∈(lpaths h n).filter (fun p => !L.contains (p.getLastD 0)),p∈lpaths h n∧L.contains (p.getLastD 0)=false:=fun p hp=>⟨(List.mem_filter.mp hp).1,by simpa using (List.mem_filter.mp hp).2⟩
 have hym:∀ p∈(lpaths h n).filter (fun p=>L.contains (p.getLastD 0)),p∈lpaths h n:=fun p hp=>(List.mem_filter.mp hp).1
 generalize (lpaths h n).filter (fun p => !L.contains (p.getLastD 0))=HH at hhl hhm ⊢
 generalize (lpaths h n).filter (fun p=>L.contains (p.getLastD 0))=YY at hyl hym ⊢
 walk_at "gos"
 generalize k.fdiv 4=k4
 refine es_ifc (evb_bool (and2 (b1:=k.fmod 4==1) (b2 := !eqL (HH.map pth) []) ?_ (fun _=>?_) ?_))
 ·walk_at "gos"
  exact ⟨rfl,rfl⟩
 ·walk_at "gos"
  refine ev_list (evl_nil ⟨by decide,.inl ?_⟩)
  refine cmp_nel .list .list (pths_plain _) rfl (Nat.le_trans (pths_deep _) (by decide)) (by walk_at "rm") ?_
  walk_at "gos"
  exact ⟨rfl,rfl⟩
 refine br_intro (fun e=>?_) fun _=>?_
 ·rw [Bool.and_eq_true] at e
  obtain ⟨a0,a1,a2,p,pm,pe⟩:=at_path (k:=k4) (eqL_nil e.2)
  obtain ⟨p1,p2⟩:=hhm p pm
  walk_at "go"
  (refine ev_callF T (by assumption) n__law_heard (by rfl) k__law_heard ?_;walk_at "go")
  (refine cb_len T (by assumption) (by rfl) ?_;walk_at "go")
  refine cal_len_list .list (by rw [List.length_map];exact o244 hll hhl) ?_
  rw [List.length_map]
  refine op_fmod (by exact o245 a0) ?_
  refine sub_list .list a1 (by exact o246 hll hhl a2) pe ?_
  walk_at "go"
  refine heard_spec T (by walk_at "rm") hh' (by walk_at "rm") h0 h1 (hears_pos h0 n0 p1) fun x hx=>?_
  walk_at "go"
  exact q _ (path_pair h0 n0 n0 n1 p1 (by unfold sayB;rw [p2,Bool.false_and,Bool.and_false])) (pair_tkey _ _)
 walk_at "gos"
 refine es_ifc (evb_bool (and2 (b1:=k.fmod 4==2) (b2 := !eqL (YY.map pth) []) ?_ (fun _=>?_) ?_))
 ·walk_at "gos"
  exact ⟨rfl,rfl⟩
 ·walk_at "gos"
  refine ev_list (evl_nil ⟨by decide,.inl ?_⟩)
  refine cmp_nel .list .list (pths_plain _) rfl (Nat.le_trans (pths_deep _) (by decide)) (by walk_at "rm") ?_
  walk_at "gos"
  exact ⟨rfl,rfl⟩
 refine br_intro (fun e=>?_) fun _=>?_
 ·rw [Bool.and_eq_true] at e
  obtain ⟨a0,a1,a2,p,pm,pe⟩:=at_path (k:=k4) (eqL_nil e.2)
  have p1:=hym p pm
  obtain ⟨pne,psz,_⟩:=lpaths_ok h0 n0 p1
  walk_at "go"
  (refine cb_len T (by assumption) (by rfl) ?_;walk_at "go")
  refine cal_len_list .list (by rw [List.length_map];exact o244 hll hyl) ?_
  rw [List.length_map]
  refine op_fmod (by exact o245 a0) ?_
  refine sub_list .list a1 (by exact o246 hll hyl a2) pe ?_
  walk_at "go"
  refine ev_tuple ?_
  walk_at "go"
  (refine cb_len T (by assumption) (by rfl) ?_;walk_at "go")
  refine cal_len_tup (by rw [List.length_map];exact o162 n0 n1 psz) ?_
  rw [List.length_map]
  refine op_fmod (by exact o247 n0 n1 psz) ?_
  have i0:=fm_lo (k4.fdiv 97) (n:=(p.length:Int)) (by exact o248 n0 n1 psz)
  have i1:=fm_hi (k4.fdiv 97) (n:=(p.length:Int)) (by exact o248 n0 n1 psz)
  generalize (k4.fdiv 97).fmod (p.length:Int)=i at i0 i1 ⊢
  have hi:i.toNat < p.length:=by exact o186 i0 i1
  refine sub_tup (j:=i.toNat) (y := .int p[i.toNat]) (by walk_at "rm") (by exact o249 n0 n1 psz i1) (by rw [List.length_map];exact seq_at i0 i1) (by rw [List.getElem?_map,List.getElem?_eq_getElem hi];rfl) ?_
  walk_at "go"
  refine ⟨sz,?_⟩
  walk_at "go"
  exact q _ (path_pair h0 n0 n0 n1 p1 (sayB_ear fun hx=>(mem_hears.mp hx).2 (List.getElem_mem hi))) (pair_tkey _ _)
 walk_at "gos"
 refine es_ifc (evb_bool (and2 (b1:=k.fmod 4==3) (b2 := !eqL ((lpaths h f).map pth) []) ?_ (fun _=>?_) ?_))
 ·walk_at "gos"
  exact ⟨rfl,rfl⟩
 ·walk_at "gos"
  refine ev_list (evl_nil ⟨by decide,.inl ?_⟩)
  refine cmp_nel .list .list (pths_plain _) rfl (Nat.le_trans (pths_deep _) (by decide)) (by walk_at "rm") ?_
  walk_at "gos"
  exact ⟨rfl,rfl⟩
 refine br_intro (fun e=>?_) fun _=>?_
 ·rw [Bool.and_eq_true] at e
  obtain ⟨a0,a1,a2,p,p1,pe⟩:=at_path (k:=k4) (eqL_nil e.2)
  walk_at "go"
  (refine ev_callF T (by assumption) n__law_heard (by rfl) k__law_heard ?_;walk_at "go")
  (refine cb_len T (by assumption) (by rfl) ?_;walk_at "go")
  refine cal_len_list .list (by rw [List.length_map];walk_at "rm") ?_
  rw [List.length_map]
  refine op_fmod (by exact o250 hlf a0) ?_
  refine sub_list .list a1 (by exact o251 hlf a0 a2) pe ?_
  walk_at "go"
  refine heard_spec T (by walk_at "rm") hh' (by walk_at "rm") h0 h1 (hears_pos h0 f0 p1) fun x hx=>?_
  walk_at "go"
  refine q _ (path_pair h0 n0 f0 (by walk_at "rm") p1 (sayB_row fun hp=>?_)) (pair_tkey _ _)
  have s1:=lpaths_size p1
  have s2:=lpaths_size hp
  walk_at "rm"
 walk_at "go"
 refine ev_list ?_
 walk_at "go"
 iterate 2
  refine ev_tuple ?_
  walk_at "go"
 refine ⟨sz,?_⟩
 walk_at "go"
 refine ⟨sz,?_⟩
 walk_at "go"
 iterate 2
  refine ev_tuple ?_
  walk_at "go"
  refine ev_tuple ?_
  walk_at "go"
  refine ⟨sz,?_⟩
  walk_at "go"
  refine ⟨sz,?_⟩
  walk_at "go"
 refine ev_tuple ?_
 walk_at "go"
 refine ⟨sz,?_⟩
 walk_at "go"
 iterate 2
  refine ev_tuple ?_
  walk_at "go"
  refine ev_tuple ?_
  walk_at "go"
  refine ⟨sz,?_⟩
  walk_at "go"
  refine ⟨sz,?_⟩
  walk_at "go"
 refine ev_tuple ?_
 walk_at "go"
 refine ⟨sz,?_⟩
 walk_at "go"
 refine ev_tuple ?_
 walk_at "go"
 refine ev_tuple ?_
 walk_at "go"
 refine ⟨sz,?_⟩
 walk_at "go"
 refine ⟨sz,?_⟩
 walk_at "go"
 refine ev_tuple ?_
 walk_at "go"
 refine ⟨Nat.zero_le _,?_⟩
 walk_at "go"
 refine ⟨sz,.inl ?_⟩
 walk_at "go"
 obtain ⟨y,hy,ym⟩:=at_some (l:=someL h) (k:=k4.fmod 11) (n:=11) rfl (fm_lo _ (n:=11) (by decide)) (fm_hi _ (n:=11) (by decide))
 refine sub_list (l:=someL h) .list (fm_lo _ (n:=11) (by decide)) (by have:=fm_hi k4 (n:=11) (by decide);walk_at "rm") hy ?_
 walk_at "go"
 exact q y (some_bad h0 n0 ym).1 (some_bad (L:=L) h0 n0 ym).2
noncomputable def tupP (p:AV×AV):AV := .tup [p.1,p.2]
noncomputable def Refused (h:Int) (L:List Int) (R:List (List Int)) (lt:Lies) (D:List (AV×AV)) (due:Str):Prop :=
 due = "done" ∨ ∃ gs k v D',D=encL gs++(k,v)::D'∧(∀ e∈gs,e∈lt)∧((BadK h L R k∧due = "saying")∨((∃ e∈lt,k=lkey e.1)∧BadS v∧isNoneA v=false∧due = "sign"))
inductive Rows (lt:Lies) (w:AV) (p:Nat):List (AV×AV)→Str→Prop
 | plain:Rows lt w p (encL lt) "done"
 | with (u:AV):Rows lt w p (encL (lt.take p)++(w,u)::encL (lt.drop p)) "saying"
theorem encL_split (lt:Lies) (p:Nat):encL (lt.take p)++encL (lt.drop p)=encL lt:=by
 unfold encL;rw [← List.map_append,List.take_append_drop]
theorem Rows.keys {lt:Lies} {w:AV} {p:Nat} {R1:List (AV×AV)} {due:Str} (r:Rows lt w p R1 due) (hn:((encL lt).map (·.1)).Nodup) (tw:tkey w=true) (hw:∀ e∈lt,lkey e.1≠w):tkeys R1∧(R1.map (·.1)).Nodup∧R1.length≤lt.length+1∧lt.length≤R1.length∧∀ x∈R1,x.1≠w→∃ e∈lt,x.1=lkey e.1:=by
 cases r with
 | plain =>
  refine ⟨encL_tkeys lt,hn,?_,?_,fun x hx _=>?_⟩
  ·unfold encL;rw [List.length_map];exact Nat.le_succ _
  ·unfold encL;rw [List.length_map];exact Nat.le_refl _
  ·obtain ⟨e,he,rfl⟩:=List.mem_map.mp hx;exact ⟨e,he,rfl⟩
 | «with» u =>
  have hm:∀ x∈encL (lt.take p)++(w,u)::encL (lt.drop p),x=(w,u)∨∃ e∈lt,x=(lkey e.1,sg e.2):=fun x hx=>by
   rcases List.mem_append.mp hx with hx | hx
   ·obtain ⟨e,he,rfl⟩:=List.mem_map.mp hx;exact .inr ⟨e,List.mem_of_mem_take he,rfl⟩
   ·rcases List.mem_cons.mp hx with rfl | hx
    ·exact .inl rfl
    ·obtain ⟨e,he,rfl⟩:=List.mem_map.mp hx;exact .inr ⟨e,List.mem_of_mem_drop he,rfl⟩
  refine ⟨fun x hx=>?_,?_,?_,?_,fun x hx hne=>?_⟩
  ·rcases hm x hx with rfl | ⟨e,_,rfl⟩
   ·exact tw
   ·exact lkey_tkey _
  ·rw [List.map_append,List.map_cons]
   refine List.perm_middle.nodup_iff.mpr (List.nodup_cons.mpr ⟨fun hx=>?_,?_⟩)
   ·rw [← List.map_append,encL_split] at hx
    obtain ⟨x,hx,e⟩:=List.mem_map.mp hx
    obtain ⟨y,hy,rfl⟩:=List.mem_map.mp hx
    exact hw y hy e
   ·rw [← List.map_append,encL_split];exact hn
  ·unfold encL;rw [List.length_append,List.length_cons,List.length_map,List.length_map,List.length_take,List.length_drop];walk_at "rm"
  ·unfold encL;rw [List.length_append,List.length_cons,List.length_map,List.length_map,List.length_take,List.length_drop];walk_at "rm"
  ·rcases hm x hx with rfl | ⟨e,he,rfl⟩
   ·exact absurd rfl hne
   ·exact ⟨e,he,rfl⟩
theorem Rows.end {h:Int} {L:List Int} {R:List (List Int)} {lt:Lies} {w:AV} {p:Nat} {R1:List (AV×AV)} {due:Str} (r:Rows lt w p R1 due) (bw:BadK h L R w):Refused h L R lt R1 due:=by
 cases r with
 | plain=>exact .inl rfl
 | «with» u=>exact .inr ⟨_,_,_,_,rfl,fun e he=>List.mem_of_mem_take he,.inl ⟨bw,rfl⟩⟩
theorem Rows.put {h:Int} {L:List Int} {R:List (List Int)} {lt:Lies} {w:AV} {p:Nat} {R1:List (AV×AV)} {due:Str} (r:Rows lt w p R1 due) (bw:BadK h L R w) (hp:p≤lt.length) {i:Nat} {x:AV×AV} (hx:R1[i]?=some x) (hne:x.1≠w) (hk:∃ e∈lt,x.1=lkey e.1) {bad:AV} (hb:BadS bad∧isNoneA bad=false) :
  Refused h L R lt (R1.set i (x.1,bad)) (if (due == "saying" && decide (p < i))=true then due else "sign"):=by
 have hi:i < R1.length:=(List.getElem?_eq_some_iff.mp hx).1
 have early:∀ gs:Lies,(∀ e∈gs,e∈lt)→R1.take i=encL gs→Refused h L R lt (R1.set i (x.1,bad)) "sign" := fun gs h1 h2=>by
  refine .inr ⟨gs,x.1,bad,R1.drop (i+1),?_,h1,.inr ⟨hk,hb.1,hb.2,rfl⟩⟩
  rw [List.set_eq_take_append_cons_drop,if_pos hi,h2]
 cases r with
 | plain =>
  rw [if_neg (by rw [show (("done":Str) == "saying")=false by decide];simp)]
  exact early (lt.take i) (fun e he=>List.mem_of_mem_take he) (by unfold encL;rw [List.map_take])
 | «with» u =>
  have hl:(encL (lt.take p)).length=p:=by unfold encL;rw [List.length_map,List.length_take];walk_at "rm"
  rw [show (("saying":Str) == "saying")=true by decide,Bool.true_and]
  by_cases hpi:p < i
  ·rw [if_pos (decide_eq_true hpi)]
   refine .inr ⟨lt.take p,w,u,(encL (lt.drop p)).set (i - p - 1) (x.1,bad),?_,fun e he=>List.mem_of_mem_take he,.inl ⟨bw,rfl⟩⟩
   rw [List.set_append_right _ _ (by rw [hl];walk_at "rm"),hl,show i - p=i - p - 1+1 by walk_at "rm", List.set_cons_succ]
   rfl
  ·rw [if_neg (by rw [decide_eq_false hpi];simp)]
   have hip:i≠p:=by
    rintro rfl
    rw [List.getElem?_append_right (by rw [hl];exact Nat.le_refl _),hl,Nat.sub_self] at hx
    injection hx with hx
    subst hx
    exact hne rfl
   refine early (lt.take i) (fun e he=>List.mem_of_mem_take he) ?_
   rw [List.take_append_of_le_length (by rw [hl];walk_at "rm")]
   unfold encL
   rw [← List.map_take,List.take_take,Nat.min_eq_left (by walk_at "rm")]
theorem cut_take {α:Type} {l:List α} {k:Int} (h0:0≤k) (h1:k≤l.length):cut l none (some k)=l.take k.toNat:=by
 have:clipAt l.length k=k.toNat:=by unfold clipAt;rw [if_neg (by walk_at "rm")];walk_at "rm"
 unfold cut
 simp [this]
theorem cut_drop {α:Type} {l:List α} {k:Int} (h0:0≤k) (h1:k≤l.length):cut l (some k) none=l.drop k.toNat:=by
 have:clipAt l.length k=k.toNat:=by unfold clipAt;rw [if_neg (by walk_at "rm")];walk_at "rm"
 unfold cut
 simp only [Option.elim,this]
 exact List.take_of_length_le (by rw [List.length_drop];exact Nat.le_refl _)
theorem and2v {ρ:Rho} {e1 e2:Expr} {pos:Pos} {b1 b2:Bool} {Q:AV→Sto→Prop} (h1:ev c ρ e1 σ fun b σ'=>b = .bool b1∧σ'=σ) (h2:b1=true→ev c ρ e2 σ fun b σ'=>b = .bool b2∧σ'=σ) (q:Q (.bool (b1 && b2)) σ):ev c ρ (.BoolOp .And [e1,e2] pos) σ Q:=by
 refine ev_boolop (evVal_and (gv.mono h1 fun b σ' h=>?_))
 obtain ⟨rfl,rfl⟩:=h
 refine opb_bool (br_intro (fun e=>evVal_one (gv.mono (h2 e) fun b' σ'' h=>?_)) fun e=>by subst e;exact q)
 obtain ⟨rfl,rfl⟩:=h
 subst e;exact q
noncomputable abbrev rhoZ (lt:Lies) (k:Int) (w:AV) (rows pl bad due at_:Option AV):Rho:=[(("_law_lies_here":Str),some (.dict (encL lt))),(("_law_cell":Str),some (.int k)),(("_law_wrong":Str),some w),(("_law_rows":Str),rows),(("_law_place":Str),pl),(("_law_bad":Str),bad),(("_law_due":Str),due),(("_law_at":Str),at_)]
theorem spoilt_spec {Q:AV→Sto→Prop} (T:TopG g (KK g)) (hS:∃ f o,sysModules≤f∧g.H₀.get? f=some o) (hd:c.A.depth < recursionLimit) (hh:c.A.handled=none) (hu:c.A.units+40 < cLine) {h k:Int} {L:List Int} {R:List (List Int)} {lt:Lies} {w:AV} (hz:lt.length≤3000) (hn:((encL lt).map (·.1)).Nodup) (tw:tkey w=true) (bw:BadK h L R w) (hw:∀ e∈lt,lkey e.1≠w)
  (q:∀ D due σ',σ.le σ'→Refused h L R lt D due→tkeys D→(D.map (·.1)).Nodup→Q (.tup [.dict D,.str due]) σ'):cal c (.ref 344) [.dict (encL lt),.int k,w] σ Q:=by
 refine cal_fn (rest:=["_law_rows", "_law_place", "_law_bad", "_law_due", "_law_at"]) (fn__law_spoilt T) (by kernel_rfl) (by walk_at "rm") rfl fun c' hsc hfn hA=>?_
 have hh':c'.A.handled=none:=by rw [hA];exact hh
 have hu':c'.A.units+30 < cLine:=by rw [hA];show c.A.units+3+30 < cLine;walk_at "rm"
 have hlen:(encL lt).length=lt.length:=List.length_map ..
 show es c' (rhoZ lt k w none none none none none) (execs (_::_) c'.env) σ _
 walk_at "gos"
 refine es_mapP [(("_law_lies_here":Str),some (.dict (encL lt)))] (fun e=>lkey e.1) lt (fun e=>AV.tup [lkey e.1,sg e.2]) hfn hsc (by rfl) (by rfl) (by walk_at "ctor") (by rw [sizeLine_eq];walk_at "rm") ?_ ?_ ?_
 ·(refine cb_list T (by assumption) (by rfl) ?_;walk_at "go")
  refine cal_listD hh' .dict (by rw [hlen,sizeLine_eq];walk_at "rm") (.inl ⟨rfl,?_⟩)
  rw [show (encL lt).map (·.1)=lt.map (fun e=>lkey e.1) by unfold encL;rw [List.map_map];rfl]
  exact iter_list hh' _
 ·intro c₂ hA₂ hsc₂ e he
  rw [← hA₂] at hu'
  refine ev_tuple ?_
  walk_at "go"
  refine sub_dict .dict (encL_tkeys lt) (lkey_tkey _) (dget_mem hn (List.mem_map.mpr ⟨e,he,rfl⟩)) (by walk_at "rm") ?_
  walk_at "go"
  exact ⟨sz,rfl,rfl⟩
 rw [show lt.map (fun e=>AV.tup [lkey e.1,sg e.2])=(encL lt).map tupP by unfold encL;rw [List.map_map];rfl]
 refine made_obj fun a ha=>upd_ex (by walk_at "ctor") ?_
 walk_at "go"
 (refine cb_len T (by assumption) (by rfl) ?_;walk_at "go")
 refine cal_len_list (.obj Sto.set_self) (by rw [List.length_map,hlen];walk_at "rm") ?_
 rw [List.length_map,hlen]
 walk_at "go"
 refine op_fmod (by walk_at "rm") ?_
 have p0:=fm_lo k (n:=(lt.length:Int)+1) (by walk_at "rm")
 have p1:=fm_hi k (n:=(lt.length:Int)+1) (by walk_at "rm")
 generalize k.fmod ((lt.length:Int)+1)=pl at p0 p1 ⊢
 walk_at "go"
 refine ev_list ?_
 walk_at "go"
 refine ev_list ?_
 walk_at "go"
 refine ⟨sz,.inl ?_⟩
 walk_at "go"
 refine ⟨sz,.inl ?_⟩
 walk_at "go"
 obtain ⟨bad,hb,bm⟩:=at_some (l:=badL) (k:=(k.fdiv 7).fmod 7) (n:=7) rfl (fm_lo _ (n:=7) (by decide)) (fm_hi _ (n:=7) (by decide))
 refine sub_list (l:=badL) .list (fm_lo _ (n:=7) (by decide)) (by have:=fm_hi (k.fdiv 7) (n:=7) (by decide);walk_at "rm") hb ?_
 walk_at "gos"
 refine es_join (fun ρ' σ'=>∃ a R1 due,σ a=none∧σ' a=some (.lst (R1.map tupP))∧σ.le σ'∧Rows lt w pl.toNat R1 due∧ρ'=rhoZ lt k w (some (.obj a)) (some (.int pl)) (some bad) (some (.str due)) none) ?_ ?_
 ·walk_at "go"
  ·refine ⟨_,.obj Sto.set_self,by rw [List.length_map,hlen,sizeLine_eq];walk_at "rm", .inl ?_⟩
   rw [cut_take p0 (by rw [List.length_map,hlen];walk_at "rm")]
   refine ev_list ?_
   walk_at "go"
   refine ev_tuple ?_
   walk_at "go"
   refine ev_list ?_
   walk_at "go"
   refine ⟨sz,.inl ?_⟩
   walk_at "go"
   obtain ⟨u,hu1,_⟩:=at_some (l:=[AV.none,.str "a", bad]) (k:=(k.fdiv 147).fmod 3) (n:=3) rfl (fm_lo _ (n:=3) (by decide)) (fm_hi _ (n:=3) (by decide))
   refine sub_list .list (fm_lo _ (n:=3) (by decide)) (by have:=fm_hi (k.fdiv 147) (n:=3) (by decide);walk_at "rm") hu1 ?_
   walk_at "go"
   refine ⟨sz,?_⟩
   walk_at "go"
   refine ⟨sz,.inl ?_⟩
   refine op_addl .list .list (by rw [List.length_take,List.length_map,hlen,sizeLine_eq];show _+1≤_;walk_at "rm") (.inl ?_)
   walk_at "go"
   refine ⟨_,.obj Sto.set_self,by rw [List.length_map,hlen,sizeLine_eq];walk_at "rm", .inl ?_⟩
   rw [cut_drop p0 (by rw [List.length_map,hlen];walk_at "rm")]
   refine op_addl .list .list (by rw [List.length_append,List.length_take,List.length_drop,List.length_map,hlen,sizeLine_eq];show _+1+_≤_;walk_at "rm") (.inr fun b hb'=>?_)
   walk_at "go"
   refine jn_next (by walk_at "ctor") ⟨b,_,_,?_,?_,(Sto.le.refl σ |>.new ha).new hb',.with u,rfl⟩
   ·by_cases e:b=a
    ·rw [e];exact ha
    ·rw [Sto.set_ne e] at hb';exact hb'
   rw [Sto.set_self]
   unfold encL
   simp [tupP,List.map_take,List.map_drop]
  ·exact jn_next (by walk_at "ctor") ⟨a,_,_,ha,Sto.set_self,Sto.le.refl σ |>.new ha,.plain,rfl⟩
 rintro ρ' σ' ⟨a,R1,due,ha0,ha1,le1,rw1,rfl⟩
 obtain ⟨r1,r2,r3,r4,r5⟩:=rw1.keys hn tw hw
 walk_at "gos"
 refine es_join (fun ρ' σ'=>∃ D due,σ' a=some (.lst (D.map tupP))∧σ.le σ'∧Refused h L R lt D due∧tkeys D∧(D.map (·.1)).Nodup∧D.length≤3001∧ρ'=rhoZ lt k w (some (.obj a)) (some (.int pl)) (some bad) (some (.str due)) none) ?_ ?_
 ·refine es_ifc (evb_bool (and2 (b1:=decide (0 < (k.fdiv 49).fmod 3)) (b2:=decide (0 < (lt.length:Int))) ?_ (fun _=>?_) ?_))
  ·walk_at "gos"
   exact ⟨rfl,rfl⟩
  ·walk_at "gos"
   (refine cb_len T (by assumption) (by rfl) ?_;walk_at "go")
   refine cal_lenD .dict (by rw [hlen];walk_at "rm") ?_
   rw [hlen]
   walk_at "gos"
   exact ⟨rfl,rfl⟩
  refine br_intro (fun e=>?_) fun _=>?_
  ·have hpos:0 < lt.length:=by rw [Bool.and_eq_true] at e;have:=of_decide_eq_true e.2;walk_at "rm"
   walk_at "go"
   (refine cb_len T (by assumption) (by rfl) ?_;walk_at "go")
   refine cal_len_list (.obj ha1) (by rw [List.length_map];walk_at "rm") ?_
   rw [List.length_map]
   refine op_fmod (by walk_at "rm") ?_
   have i0:=fm_lo (k.fdiv 441) (n:=(R1.length:Int)) (by walk_at "rm")
   have i1:=fm_hi (k.fdiv 441) (n:=(R1.length:Int)) (by walk_at "rm")
   generalize (k.fdiv 441).fmod (R1.length:Int)=i at i0 i1 ⊢
   have hi:i.toNat < R1.length:=by walk_at "rm"
   have hx:R1[i.toNat]?=some R1[i.toNat]:=List.getElem?_eq_getElem hi
   have hxm:=List.mem_of_getElem? hx
   generalize R1[i.toNat]=x at hx hxm
   have hx':(R1.map tupP)[i.toNat]?=some (tupP x):=by rw [List.getElem?_map,hx];rfl
   walk_at "gos"
   refine es_ifc ?_
   walk_at "gos"
   refine sub_list (.obj ha1) i0 (by walk_at "rm") hx' ?_
   walk_at "gos"
   refine sub_tup (j:=0) (y:=x.1) (by decide) (by decide) rfl rfl ?_
   walk_at "gos"
   refine cmp_nek (r1 x hxm) tw (by walk_at "rm") ?_
   walk_at "gos"
   ·rename_i hne
    have hne:x.1≠w:=by simpa using hne
    refine ev_list ?_
    walk_at "go"
    refine ⟨sz,.inl ?_⟩
    walk_at "go"
    refine ev_callB PyProof.Rows.boot_int (.type _) T (by assumption) nb_int (by rfl) (evl_cons (and2v (b1:=due == "saying") (b2:=decide (pl < i)) ?_ (fun _=>?_) (evl_nil ?_)))
    ·walk_at "gos"
     refine cmp_eqs ⟨rfl,rfl⟩
    ·walk_at "gos"
     exact ⟨rfl,rfl⟩
    refine cal_intB ?_
    refine sub_list (l:=[.str "sign", .str due]) (y := .str (if (due == "saying" && decide (pl < i))=true then due else "sign")) .list (by split <;> decide) (by split <;> decide) (by split <;> rfl) ?_
    walk_at "go"
    refine ev_tuple ?_
    walk_at "go"
    refine sub_list (.obj ha1) i0 (by walk_at "rm") hx' ?_
    walk_at "go"
    refine sub_tup (j:=0) (y:=x.1) (by decide) (by decide) rfl rfl ?_
    walk_at "go"
    refine ⟨sz,?_⟩
    walk_at "go"
    refine set_list ha1 i0 (by rw [List.length_map];walk_at "rm") (by walk_at "rm") ?_
    walk_at "go"
    have fin:=rw1.put (R:=R) (L:=L) (h:=h) bw (by walk_at "rm") hx hne (r5 x hxm hne) (bad_bad bm)
    rw [show decide (pl.toNat < i.toNat)=decide (pl < i) by rw [decide_eq_decide];walk_at "rm"] at fin
    refine jn_next (by walk_at "ctor") ⟨R1.set i.toNat (x.1,bad),_,?_,fun b y hb'=>?_,fin,fun y hy=>?_,?_,by rw [List.length_set];walk_at "rm", rfl⟩
    ·rw [Sto.set_self,List.map_set];rfl
    ·rw [Sto.set_ne (by rintro rfl;rw [ha0] at hb';cases hb')];exact le1 b y hb'
    ·rcases List.mem_or_eq_of_mem_set hy with hy | rfl
     ·exact r1 y hy
     ·exact r1 x hxm
    ·rw [List.map_set]
     have:(R1.map (·.1)).set i.toNat x.1=R1.map (·.1):=by
      apply List.ext_getElem?
      intro j
      rw [List.getElem?_set]
      split
      ·rename_i e;subst e;rw [List.getElem?_map,hx];simp [hi]
      ·rfl
     rw [this];exact r2
   ·exact jn_next (by walk_at "ctor") ⟨R1,due,ha1,le1,rw1.end bw,r1,r2,by walk_at "rm", rfl⟩
  ·walk_at "go"
   exact jn_next (by walk_at "ctor") ⟨R1,due,ha1,le1,rw1.end bw,r1,r2,by walk_at "rm", rfl⟩
 rintro ρ' σ'' ⟨D,due',hD,leD,d1,d2,d3,d4,rfl⟩
 walk_at "go"
 refine ev_tuple ?_
 walk_at "go"
 (refine cb_dict T (by assumption) (by rfl) ?_;walk_at "go")
 refine cal_dictP hS hh' (.obj hD) d2 d3 (by rw [sizeLine_eq];walk_at "rm") (by walk_at "rm") ?_
 walk_at "go"
 refine ⟨sz,?_⟩
 walk_at "go"
 exact q D due' σ'' leD d1 d2 d3
noncomputable abbrev rhoW (ns:List Int) (H M:Int) (l:List Str) (L:List Int) (ls:Lies) (a:Addr) (sz ce go wr sp du:Option AV):Rho :=
 [(("_law_script":Str),some (.list (ns.map .int))),(("_law_hands_here":Str),some (.int H)),(("_law_most":Str),some (.int M)),(("_law_signs_here":Str),some (.list (l.map .str))),(("_law_liars_here":Str),some (.list (L.map .int))),(("_law_lies_here":Str),some (.dict (encL ls))),(("_law_table_here":Str),some (.obj a)),(("_law_size":Str),sz),(("_law_cell":Str),ce),(("_law_good":Str),go),(("_law_wrong":Str),wr),(("_law_spoilt_here":Str),sp),(("_law_due":Str),du),(("_law_ears":Str),none)]
inductive JY (ns:List Int) (H M:Int) (l:List Str) (L:List Int) (ls:Lies) (s:Str) (a d:Addr) (E:List Addr) (li:List AV) (ρ':Rho) (σ':Sto):Prop
 | mk (n:Int) (h0:0≤n) (h1:n≤M+1) (h2:li=(rngL (n+1) (M+2)).map AV.int) (h3:TB a d E H M s L ls n σ') (h4:ρ'=rhoW ns H M l L ls a none none none none none none):JY ns H M l L ls s a d E li ρ' σ'
theorem bad_ne {h:Int} {L:List Int} {R:List (List Int)} {w:AV} (b:BadK h L R w) {k:List Int×Int} (hk:GoodK h L R k):lkey k≠w:=fun e=>by
 have gs:=good_say hk
 cases b with
 | none=>cases e
 | int i=>cases e
 | len h1 _=>injection e with e;subst e;exact h1 rfl
 | str x t=>injection e with e;injection e with e _;cases e
 | @pair p t _ _ _ _ h5 =>
  injection e with e
  injection e with e1 e2
  injection e2 with e2 _
  rw [← pth_inj e1,← e2,gs] at h5
  cases h5
theorem law_spec {Q:AV→Sto→Prop} {lE:List Env} (T:TopG g (KK g)) (hS:∃ f o,sysModules≤f∧g.H₀.get? f=some o) (fr:FrA c.A lE) (hd:c.A.depth+30 < recursionLimit) (hh:c.A.handled=none) (hu:c.A.units+300 < cLine) {ns:List Int} (hz:ns.length≤63) (q:∀ σ',Q (.bool true) σ') :
  cal c (.ref 363) [.list (ns.map .int)] σ Q:=by
 refine cal_fnF (rest:=["_law_hands_here", "_law_most", "_law_signs_here", "_law_liars_here", "_law_lies_here", "_law_table_here", "_law_size", "_law_cell", "_law_good", "_law_wrong", "_law_spoilt_here", "_law_due", "_law_ears"]) (fn_law T) (by kernel_rfl) (by walk_at "rm") rfl fr fun c' hsc hfn hA fr'=>?_
 have hh':c'.A.handled=none:=by rw [hA];exact hh
 have hd':c'.A.depth+25 < recursionLimit:=by rw [hA];show c.A.depth+1+25 < _;walk_at "rm"
 have hu':c'.A.units+250 < cLine:=by rw [hA];show c.A.units+3+250 < cLine;walk_at "rm"
 show es c' [(("_law_script":Str),some (AV.list (ns.map .int))),(("_law_hands_here":Str),none),(("_law_most":Str),none),(("_law_signs_here":Str),none),(("_law_liars_here":Str),none),(("_law_lies_here":Str),none),(("_law_table_here":Str),none),(("_law_size":Str),none),(("_law_cell":Str),none),(("_law_good":Str),none),(("_law_wrong":Str),none),(("_law_spoilt_here":Str),none),(("_law_due":Str),none),(("_law_ears":Str),none)] (execs (_::_) c'.env) σ _
 walk_at "go"
 (refine cb_len T (by assumption) (by rfl) ?_;walk_at "go")
 refine cal_len_list .list (by rw [List.length_map];walk_at "rm") ?_
 rw [List.length_map]
 walk_at "go"
 ·exact q _
 rename_i hlen0
 have hz0:0 < ns.length:=by simp at hlen0;cases ns with | nil=>exact absurd rfl hlen0 | cons _ _=>simp
 refine es_unpack hh' ?_ hfn
 (refine ev_callF T (by assumption) n__law_table (by rfl) k__law_table ?_;walk_at "go")
 (refine ev_callF T (by assumption) n__law_cell_at (by rfl) k__law_cell_at ?_;walk_at "go"; refine cell_spec T (by walk_at "rm") (by walk_at "rm") (by decide) (by decide) ?_;walk_at "go")
 refine table_spec T (by walk_at "rm") fun H M h0 h1 hM0 hM2 hHM=>?_
 refine ⟨_,_,_,_,rfl,by walk_at "ctor", by walk_at "ctor", ?_⟩
 walk_at "go"
 (refine ev_callF T (by assumption) n__law_signs (by rfl) k__law_signs ?_;walk_at "go")
 (refine ev_callF T (by assumption) n__law_cell_at (by rfl) k__law_cell_at ?_;walk_at "go"; refine cell_spec T (by walk_at "rm") (by walk_at "rm") (by decide) (by decide) ?_;walk_at "go")
 refine signs_spec T (by walk_at "rm") hh' fun l hl hok=>?_
 walk_at "go"
 (refine ev_callF T (by assumption) n__law_liars (by rfl) k__law_liars ?_;walk_at "go")
 (refine ev_callF T (by assumption) n__law_cell_at (by rfl) k__law_cell_at ?_;walk_at "go"; refine cell_spec T (by walk_at "rm") (by walk_at "rm") (by decide) (by decide) ?_;walk_at "go")
 (refine ev_callF T (by assumption) n__law_cell_at (by rfl) k__law_cell_at ?_;walk_at "go"; refine cell_spec T (by walk_at "rm") (by walk_at "rm") (by decide) (by decide) ?_;walk_at "go")
 refine op_fmod (by walk_at "rm") ?_
 generalize ns.getD (Int.toNat 4) 0=c4
 have hm0:=fm_lo c4 (n:=H+1) (by walk_at "rm")
 have hm1:=fm_hi c4 (n:=H+1) (by walk_at "rm")
 walk_at "go"
 refine liars_spec T (by walk_at "rm") hh' (by walk_at "rm") h0 h1 hm0 (by walk_at "rm") fun L l1 l2 l3=>?_
 walk_at "go"
 (refine ev_callF T (by assumption) n__law_lies (by rfl) k__law_lies ?_;walk_at "go")
 refine lies_spec T hS (by walk_at "rm") hh' (by walk_at "rm") hz0 hz h0 h1 hM0 hM2 hl hok fun ls hls hlz=>?_
 walk_at "go"
 obtain ⟨s,s1,s2,s3,rfl⟩:∃ a b c d,l=[a,b,c,d]:=by
  match l,hl with
  | [a,b,c,d],_=>exact ⟨a,b,c,d,rfl⟩
 have os:=hok s (by simp)
 have hk10:∀ e∈ls,e.1.1.length≤10:=fun e he=>by
  obtain ⟨⟨k,k1,k2,_,k4,_⟩,_⟩:=hls e he
  have:=lpaths_size k4;walk_at "rm"
 (refine ev_callF T (by assumption) n__law_made (by rfl) k__law_made ?_;walk_at "go")
 (refine ev_callF T (by assumption) n__law_cell_at (by rfl) k__law_cell_at ?_;walk_at "go"; refine cell_spec T (by walk_at "rm") (by walk_at "rm") (by decide) (by decide) ?_;walk_at "go")
 refine sub_list (y := .str s) .list (by decide) (by decide) rfl ?_
 walk_at "go"
 refine made_spec T hS fr' (by walk_at "rm") hh' (by walk_at "rm") h0 h1 hM0 hM2 os fun σ₁ _=>?_
 walk_at "go"
 refine ev_callC T hsc n_Table (by rfl) kc_Table ?_
 walk_at "go"
 refine sub_list (y := .str s) .list (by decide) (by decide) rfl ?_
 walk_at "go"
 refine make_spec T hS (by walk_at "rm") hh' (by walk_at "rm") h0 h1 hM0 hM2 os l1 l2 (by walk_at "rm") (.inl rfl) fun a d E σ₂ b1 _=>?_
 walk_at "go"
 refine es_loop (JY ns H M [s,s1,s2,s3] L ls s a d E) hfn ?_ ?_ ?_
 ·(refine cb_range T (by assumption) (by rfl) ?_;walk_at "go")
  exact cal_range2 ⟨_,iter_rng hh' (by decide) (by decide) (by walk_at "rm") (by walk_at "rm"),0,by walk_at "rm", by walk_at "rm", rfl,b1 ls,rfl⟩
 ·rintro c₂ hA₂ hsc₂ hfn₂ y rest ρ₁ σ₃ ⟨n,n0,n1,hr,t,rfl⟩
  rw [hsc] at hsc₂
  rw [← hA₂] at hd' hh' hu' fr'
  by_cases hn2:n < M+1
  ·rw [rngL_cons (show n+1 < M+2 by walk_at "rm"),List.map_cons] at hr
   injection hr with e1 e2
   subst e1;subst e2
   refine upd_ex (by walk_at "ctor") ?_
   walk_at "go"
   (refine ev_callF T (by assumption) n__law_cell_at (by rfl) k__law_cell_at ?_;walk_at "go")
   refine cell_spec T (by walk_at "rm") (by walk_at "rm") (by walk_at "rm") (by walk_at "rm") ?_
   generalize ns.getD (5+(n+1)).toNat 0=k
   walk_at "go"
   (refine ev_callF T (by assumption) n__law_hands (by rfl) k__law_hands ?_;walk_at "go")
   refine hands_spec T fr' (by walk_at "rm") hh' (by walk_at "rm") false t h0 h1 hM0 hM2 (fun _=>by walk_at "rm") (fun h=>by cases h) ?_
   walk_at "go"
   (refine ev_callF T (by assumption) n__law_of (by rfl) k__law_of ?_;walk_at "go")
   refine of_spec T hS (by walk_at "rm") hh' (by walk_at "rm") hlz hk10 fun lt q1 q2 q3 q4=>?_
   have hlt:∀ e∈lt,GoodK H L (lpaths H (n+1)) e.1∧e.1.1.length≤10∧okV e.2:=fun e he=>by
    obtain ⟨q4,q5⟩:=q1 e he
    obtain ⟨⟨k,k1,k2,k3,k4,k5⟩,k6⟩:=hls e q4
    have:=lpaths_size k4
    have hk:k=n+1:=by walk_at "rm"
    subst hk
    exact ⟨⟨k3,k4,k5⟩,by walk_at "rm", k6⟩
   walk_at "go"
   (refine ev_callF T (by assumption) n__law_wrong_pair (by rfl) k__law_wrong_pair ?_;walk_at "go")
   refine wrong_spec T (by walk_at "rm") hh' (by walk_at "rm") h0 h1 (by walk_at "rm") (by walk_at "rm") fun w bw tw=>?_
   walk_at "gos"
   refine es_unpack hh' ?_ hfn₂
   (refine ev_callF T (by assumption) n__law_spoilt (by rfl) k__law_spoilt ?_;walk_at "go")
   refine spoilt_spec T hS (by walk_at "rm") hh' (by walk_at "rm") q3 q4 tw bw (fun e he=>bad_ne bw (hlt e he).1) fun D due σ₄ le₄ rf d1 d2=>?_
   refine ⟨_,_,_,_,rfl,by walk_at "ctor", by walk_at "ctor", ?_⟩
   have t:=t.up le₄
   walk_at "gos"
   refine es_join (fun ρ' σ'=>TB a d E H M s L ls n σ'∧ρ'=rhoW ns H M [s,s1,s2,s3] L ls a (some (.int (n+1))) (some (.int k)) (some (.dict (encL lt))) (some w) (some (.dict D)) (some (.str due))) ?_ ?_
   ·refine es_ifc ?_
    walk_at "gos"
    refine cmp_nes ?_
    walk_at "gos"
    ·rename_i hne
     obtain ⟨gs,k',v,D',rfl,g1,hC⟩:=rf.resolve_left (by rintro rfl;rw [eqs_self] at hne;cases hne)
     have hlg:∀ e∈gs,GoodK H L (lpaths H (n+1)) e.1∧e.1.1.length≤10∧okV e.2:=fun e he=>hlt e (g1 e he)
     obtain ⟨C,j,hC6,hj,hw,hC'⟩:∃ C j,C∈sixC∧isWord C j=true∧words[j]?=some due∧((BadK H L (lpaths H (n+1)) k'∧C=73)∨(∃ k,k'=lkey k∧GoodK H L (lpaths H (n+1)) k∧k.1.length≤10)∧BadS v∧isNoneA v=false∧C=49):=by
      rcases hC with ⟨h1,rfl⟩ | ⟨⟨e,he,h1⟩,h2,h3,rfl⟩
      ·exact ⟨_,3,by decide,by decide,rfl,.inl ⟨h1,rfl⟩⟩
      ·exact ⟨_,1,by decide,by decide,rfl,.inr ⟨⟨e.1,h1,(hlt e he).1,(hlt e he).2.1⟩,h2,h3,rfl⟩⟩
     refine es_ifc ?_
     walk_at "gos"
     (refine ev_callF T (by assumption) n__law_asked (by rfl) k__law_asked ?_;walk_at "go")
     refine asked_x (P:=(· = σ₄)) T fr' (by walk_at "rm") hh' (by walk_at "rm") hC6 hj hw (fun h=>by cases h) (fun _=>t.qt) (fun _ c'' l' a f=>play_x T f (by rw [a.1];walk_at "rm") a.2.1 (by rw [a.2.2];walk_at "rm") h0 h1 hM2 n0 (by walk_at "rm") t.1 t.2.1 hlg hC' d1 d2 rfl) (fun h=>by cases h) (fun _ h=>absurd rfl h) fun σ₅ e=>?_
     subst e
     walk_at "go"
     refine cmp_nes ?_
     rw [eqs_self]
     walk_at "go"
     (refine ev_attrN T.X (by walk_at "ctor") t.1 t.2.1 (by kernel_rfl) (by rfl) (by rfl) ?_;walk_at "go")
     ·rename_i e;rw [Int.add_sub_cancel,bne_self_eq_false] at e;cases e
     exact jn_next (by walk_at "ctor") ⟨t,rfl⟩
    ·exact jn_next (by walk_at "ctor") ⟨t,rfl⟩
   clear t
   rintro ρ' σ₅ ⟨t,rfl⟩
   walk_at "go"
   (refine ev_callF T (by assumption) n__law_asked (by rfl) k__law_asked ?_;walk_at "go")
   refine asked_n (P:=TB a d E H M s L ls (n+1)) T (by walk_at "rm") hh' (fun h=>by cases h) (fun _=>t.qt) (fun _ c'' Q' a k=>play_spec (ls:=ls) T (by rw [a.1];walk_at "rm") a.2.1 (by rw [a.2.2];walk_at "rm") h0 h1 hM2 n0 (by walk_at "rm") t.1 t.2.1 t.2.2.1 t.2.2.2.1 t.2.2.2.2 hlt (fun p x hp=>q2 (p,x) (lpaths_size hp)) fun σ' u1 u2 u3 _=>k _ _ ⟨u1,u2,t.2.2.1,t.2.2.2.1,u3⟩) (by decide) (fun _ h=>absurd rfl h) fun σ₆ t₆=>?_
   walk_at "go"
   refine cmp_nes ?_
   rw [eqs_self]
   walk_at "go"
   exact trn_next (by walk_at "ctor") ⟨n+1,by walk_at "rm", by walk_at "rm", rfl,t₆,rfl⟩
  ·have hl:=congrArg List.length hr
   rw [List.length_map,rngL_len,List.length_cons] at hl
   walk_at "rm"
 ·rintro ρ₁ σ₃ ⟨n,n0,n1,hr,t,rfl⟩
  have hn2:n=M+1:=by
   refine Classical.byContradiction fun hne=>?_
   rw [rngL_cons (by walk_at "rm")] at hr
   cases hr
  subst hn2
  refine thn_next ?_
  walk_at "gos"
  refine es_ifc ?_
  walk_at "gos"
  (refine ev_callF T (by assumption) n__law_asked (by rfl) k__law_asked ?_;walk_at "go")
  refine ev_dict0 hS (.inl ?_)
  walk_at "go"
  refine asked_x (C:=85) (j:=4) (P:=(· = σ₃)) T fr' (by walk_at "rm") hh' (by walk_at "rm") (by decide) (by decide) rfl (fun h=>by cases h) (fun _=>t.qt) (fun _ c'' l' a f=>play_over T f (by rw [a.1];walk_at "rm") a.2.1 t.1 t.2.1 rfl) (fun h=>by cases h) (fun _ h=>absurd rfl h) fun σ₅ e=>?_
  subst e
  walk_at "go"
  refine cmp_nes ?_
  rw [eqs_self]
  walk_at "gos"
  (refine ev_callF T (by assumption) n__law_asked (by rfl) k__law_asked ?_;walk_at "go")
  refine ev_dict55 fun v=>?_
  walk_at "go"
  refine asked_x (C:=85) (j:=4) (P:=(· = σ₅)) T fr' (by walk_at "rm") hh' (by walk_at "rm") (by decide) (by decide) rfl (fun h=>by cases h) (fun _=>t.qt) (fun _ c'' l' a f=>play_over T f (by rw [a.1];walk_at "rm") a.2.1 t.1 t.2.1 rfl) (fun h=>by cases h) (fun _ h=>absurd rfl h) fun σ₆ e=>?_
  subst e
  walk_at "go"
  refine cmp_nes ?_
  rw [eqs_self]
  walk_at "go"
  (refine ev_callF T (by assumption) n__law_play (by rfl) k__law_play ?_;walk_at "go")
  refine sub_list (y := .str s) .list (by decide) (by decide) rfl ?_
  walk_at "go"
  refine lplay_spec T hS (by walk_at "rm") hh' (by walk_at "rm") h0 h1 hM0 hM2 ?_
  walk_at "go"
  (refine cb_all T (by assumption) (by rfl) ?_;walk_at "go")
  refine ev_mapP [(("_law_table_here":Str),some (.obj a)),(("_law_ears":Str),some (.list (ears H M s ls)))] AV.int (rngL 0 H) (fun _=>AV.bool true) hsc (by rfl) (by walk_at "ctor") (by rw [rngL_len,sizeLine_eq];walk_at "rm") ?_ ?_ ?_
  ·(refine cb_range T (by assumption) (by rfl) ?_;walk_at "go")
   exact cal_range1 ⟨rfl,iter_rng hh' (by decide) (by decide) (by walk_at "rm") (by walk_at "rm")⟩
  ·intro c₂ hA₂ hsc₂ x hx
   rw [← hA₂] at hd' hh' hu'
   obtain ⟨x0,x1⟩:=mem_rngL.mp hx
   (refine ev_callF T (by assumption) n__law_told (by rfl) k__law_told ?_;walk_at "go")
   (refine ev_methI T.X k_Table_told ?_;walk_at "go")
   refine ⟨a,_,d,_,rfl,t.1,t.2.1,by kernel_rfl,by rfl,?_⟩
   walk_at "go"
   refine mtold_spec T hS (by walk_at "rm") h0 h1 (by walk_at "rm") (by walk_at "rm") t.1 t.2.1 t.2.2.2.2 x0 x1 ?_
   walk_at "go"
   refine sub_list .list x0 (by walk_at "rm") (ears_at x0 x1) ?_
   walk_at "go"
   exact told_spec T (by walk_at "rm") hh' (by walk_at "rm") _ (Dm_len h1 x (by walk_at "rm") (by walk_at "rm")) ⟨rfl,rfl⟩
  rw [show (rngL 0 H).map (fun _=>AV.bool true)=((rngL 0 H).map fun _=>true).map AV.bool by rw [List.map_map];rfl]
  refine cal_all hh' ?_
  rw [show ((rngL 0 H).map fun _=>true).all id=true by simp]
  walk_at "go"
  (refine ev_callF T (by assumption) n__law_hands (by rfl) k__law_hands ?_;walk_at "go")
  (refine ev_callF T (by assumption) n__law_cell_at (by rfl) k__law_cell_at ?_;walk_at "go"; refine cell_spec T (by walk_at "rm") (by walk_at "rm") (by decide) (by decide) ?_;walk_at "go")
  refine hands_spec T fr' (by walk_at "rm") hh' (by walk_at "rm") true t h0 h1 hM0 hM2 (fun h=>by cases h) (fun _=>rfl) ?_
  walk_at "go"
  (refine ev_attrN T.X (by walk_at "ctor") t.1 t.2.1 (by kernel_rfl) (by rfl) (by rfl) ?_;walk_at "go")
  rw [beq_self_eq_true]
  exact q _
end Mine
end
section
open PySem PySem.W PyProof.Rows
theorem PySem.Challenge.cw_uf060015_05_holds : PySem.Challenge.rw_uf060015_05.Holds := by
 refine Mine.H.head ?_
 intro w s₀ s₁ mg mb G Y fa o pm cd doc dV kV ho hd hcd hD hmg hg args vals as hpre hlay hrd hwl hlo
 have KX:=kIn_of Y
 refine Ground.open G ?_
 intro T B D TE TW
 have hfa:fa=363:=by
  have e:=mg_of (n := "law") (v := .ref 363) KX T.g (Mine.n_law (g:=⟨Mine.H.pg,w,s₁.heap⟩))
  have e2:mg "law" = some (.ref fa):=hmg
  rw [e2] at e
  injection e with e;injection e
 clear ho hd hcd hD hmg
 subst hfa
 wrow_args hpre hlay hrd hwl hlo
 rename_i ns _ _ _ _ _ _ _ _ _ _ _ _ w1 _ _ _ hc _
 refine Mine.law_end w1 hg (raisesW_false (by wrow_none_raised)) (by wrow_post) fun c hA=>?_
 exact Mine.law_spec (Mine.topG_of T KX) ⟨363,_,by decide,KX 363 _ rfl⟩ (lE:=[]) ⟨by rw [hA];rfl,fun _ h=>by cases h⟩ (by rw [hA];decide) (by rw [hA];rfl) (by rw [hA];decide) (by omega) fun _=>rfl
end
