import PyProof.Rows.All
import Wide.All
import Wide.FinOn
import KE.KItem
import KE.KRevIter
import Open.Claim
import Open.Head
import Open.Line
import Open.Row
import PySem.Challenge.RW_uf020004_06
set_option autoImplicit false
set_option genInjectivity false
set_option genSizeOf false
set_option bootstrap.genMatcherCode false
set_option Elab.async false
set_option linter.unusedSimpArgs false
set_option linter.unusedVariables false
namespace Mine.Internal
open PySem PyProof.Rows PySem.Calls
abbrev bmVE:List Value:=[.type "ValueError",.type "Exception",.type "BaseException",.type "object"]
noncomputable def qN:List Str:=["__getattribute__","__getattr__","__class__","__init__"]
noncomputable def qOk (h:Heap)(name:Str):Bool :=
 match h.clsAt mainGlobals name with
 | some (_,_,cd)=>qN.all λn=>(h.nsMap cd.ns n).isNone
 | none=>false
noncomputable def refO:Option Value->Option Addr
 | some (.ref a)=>some a
 | _=>none
noncomputable def xOkAll (h:Heap)(x0:Str):List Str->Bool
 | []=>true
 | x::r=>(h.ownExcOk x [x0] bmVE "ValueError.__new__" && qOk h x) && xOkAll h x0 r
noncomputable def xOkB (ns:List Str)(h:Heap):Bool:=match ns with
 | []=>false
 | x0::r=>(h.ownExcOk x0 [] bmVE "ValueError.__new__" && qOk h x0) && (xOkAll h x0 r && decide (ns.map λx=>refO (h.nsMap mainGlobals x)).Nodup)
abbrev oS (s:String):PySem.Str:=PySem.Str.ofString s
noncomputable def xns06:List Str:=[oS "PatternError",oS "Unclosed",oS "Unopened",oS "NothingAhead",oS "EmptyRound",oS "TooDeep"]
end Mine.Internal
section
open PySem PySem.W PyProof.Rows
theorem Mine.Internal.said06 : OpenLaw.wellSaid PySem.Challenge.rw_uf020004_06 = true := by kernel_rfl
theorem Mine.Internal.left06 : LeftO PySem.Challenge.pw_uf020004_06 (view PySem.Challenge.pw_uf020004_06 [1, 2, 3, 4, 5, 6, 8, 10, 11, 12, 13, 14, 15, 16, 17, 19, 20, 21, 22, 23, 25, 27, 28, 29, 30, 31, 33, 34, 36, 37, 38, 39, 40, 41, 42, 43, 44, 45, 46, 47, 48]) [] (fun s => Mine.Internal.xOkB Mine.Internal.xns06 s.heap && recOk [] s) (Hook.obs Hook.none) (Hook.val Hook.none) 4000 := by intro w; kernel_rfl
end
namespace Mine.Internal
theorem x0_3 {P0 P1 P2:Prop}{z:Prop}(h:P0∧P1∧P2)(k:P0->P1->P2->z):z:=let ⟨h0,h1,h2⟩:=h;k  h0 h1 h2
theorem x1_2 {α0:Type}{P0 P1:α0->Prop}{z:Prop}(h:∃ a0,P0 a0∧P1 a0)(k:∀ a0,P0 a0->P1 a0->z):z:=let ⟨a0,h0,h1⟩:=h;k a0 h0 h1
theorem x1_3 {α0:Type}{P0 P1 P2:α0->Prop}{z:Prop}(h:∃ a0,P0 a0∧P1 a0∧P2 a0)(k:∀ a0,P0 a0->P1 a0->P2 a0->z):z:=let ⟨a0,h0,h1,h2⟩:=h;k a0 h0 h1 h2
theorem x2_1 {α0 α1:Type}{P0:α0->α1->Prop}{z:Prop}(h:∃ a0 a1,P0 a0 a1)(k:∀ a0 a1,P0 a0 a1->z):z:=let ⟨a0,a1,h0⟩:=h;k a0 a1 h0
theorem x2_2 {α0 α1:Type}{P0 P1:α0->α1->Prop}{z:Prop}(h:∃ a0 a1,P0 a0 a1∧P1 a0 a1)(k:∀ a0 a1,P0 a0 a1->P1 a0 a1->z):z:=let ⟨a0,a1,h0,h1⟩:=h;k a0 a1 h0 h1
theorem x2_3 {α0 α1:Type}{P0 P1 P2:α0->α1->Prop}{z:Prop}(h:∃ a0 a1,P0 a0 a1∧P1 a0 a1∧P2 a0 a1)(k:∀ a0 a1,P0 a0 a1->P1 a0 a1->P2 a0 a1->z):z:=let ⟨a0,a1,h0,h1,h2⟩:=h;k a0 a1 h0 h1 h2
theorem x2_4 {α0 α1:Type}{P0 P1 P2 P3:α0->α1->Prop}{z:Prop}(h:∃ a0 a1,P0 a0 a1∧P1 a0 a1∧P2 a0 a1∧P3 a0 a1)(k:∀ a0 a1,P0 a0 a1->P1 a0 a1->P2 a0 a1->P3 a0 a1->z):z:=let ⟨a0,a1,h0,h1,h2,h3⟩:=h;k a0 a1 h0 h1 h2 h3
theorem x2_5 {α0 α1:Type}{P0 P1 P2 P3 P4:α0->α1->Prop}{z:Prop}(h:∃ a0 a1,P0 a0 a1∧P1 a0 a1∧P2 a0 a1∧P3 a0 a1∧P4 a0 a1)(k:∀ a0 a1,P0 a0 a1->P1 a0 a1->P2 a0 a1->P3 a0 a1->P4 a0 a1->z):z:=let ⟨a0,a1,h0,h1,h2,h3,h4⟩:=h;k a0 a1 h0 h1 h2 h3 h4
theorem x3_2 {α0 α1 α2:Type}{P0 P1:α0->α1->α2->Prop}{z:Prop}(h:∃ a0 a1 a2,P0 a0 a1 a2∧P1 a0 a1 a2)(k:∀ a0 a1 a2,P0 a0 a1 a2->P1 a0 a1 a2->z):z:=let ⟨a0,a1,a2,h0,h1⟩:=h;k a0 a1 a2 h0 h1
theorem x3_3 {α0 α1 α2:Type}{P0 P1 P2:α0->α1->α2->Prop}{z:Prop}(h:∃ a0 a1 a2,P0 a0 a1 a2∧P1 a0 a1 a2∧P2 a0 a1 a2)(k:∀ a0 a1 a2,P0 a0 a1 a2->P1 a0 a1 a2->P2 a0 a1 a2->z):z:=let ⟨a0,a1,a2,h0,h1,h2⟩:=h;k a0 a1 a2 h0 h1 h2
theorem x3_4 {α0 α1 α2:Type}{P0 P1 P2 P3:α0->α1->α2->Prop}{z:Prop}(h:∃ a0 a1 a2,P0 a0 a1 a2∧P1 a0 a1 a2∧P2 a0 a1 a2∧P3 a0 a1 a2)(k:∀ a0 a1 a2,P0 a0 a1 a2->P1 a0 a1 a2->P2 a0 a1 a2->P3 a0 a1 a2->z):z:=let ⟨a0,a1,a2,h0,h1,h2,h3⟩:=h;k a0 a1 a2 h0 h1 h2 h3
theorem x3_5 {α0 α1 α2:Type}{P0 P1 P2 P3 P4:α0->α1->α2->Prop}{z:Prop}(h:∃ a0 a1 a2,P0 a0 a1 a2∧P1 a0 a1 a2∧P2 a0 a1 a2∧P3 a0 a1 a2∧P4 a0 a1 a2)(k:∀ a0 a1 a2,P0 a0 a1 a2->P1 a0 a1 a2->P2 a0 a1 a2->P3 a0 a1 a2->P4 a0 a1 a2->z):z:=let ⟨a0,a1,a2,h0,h1,h2,h3,h4⟩:=h;k a0 a1 a2 h0 h1 h2 h3 h4
theorem x4_2 {α0 α1 α2 α3:Type}{P0 P1:α0->α1->α2->α3->Prop}{z:Prop}(h:∃ a0 a1 a2 a3,P0 a0 a1 a2 a3∧P1 a0 a1 a2 a3)(k:∀ a0 a1 a2 a3,P0 a0 a1 a2 a3->P1 a0 a1 a2 a3->z):z:=let ⟨a0,a1,a2,a3,h0,h1⟩:=h;k a0 a1 a2 a3 h0 h1
theorem u1 {a b c:Nat}(h:a<b)(h2:Nat.ble b c=true):a<c:=Nat.lt_of_lt_of_le h (Nat.le_of_ble_eq_true h2)
theorem u2 {a b c:Nat}(h:a≤b)(h2:Nat.ble (b+1) c=true):a<c:=Nat.lt_of_le_of_lt h (Nat.le_of_ble_eq_true h2)
theorem u3 {a b c:Nat}(h:a≤b)(h2:Nat.ble b c=true):a≤c:=Nat.le_trans h (Nat.le_of_ble_eq_true h2)
theorem u4 {a b c:Nat}(h:a<b)(h2:Nat.ble b (c+1)=true):a≤c:=Nat.le_of_lt_succ (Nat.lt_of_lt_of_le h (Nat.le_of_ble_eq_true h2))
theorem u5 {i:Nat}:-4611686018427387904<(i:Int):=Int.lt_of_lt_of_le (by decide) (Int.natCast_nonneg _)
theorem u6 {i b:Nat}(h:i<b)(h2:Nat.ble b 4611686018427387904=true):(i:Int)<4611686018427387904:=Int.ofNat_lt.mpr (u1 h h2)
theorem y1 {k:Int}{n:Nat}(hk:1≤k)(h:(n:Int) > 1):0<min k ((n:Int) - 1):=Int.lt_min.mpr ⟨hk,Int.sub_pos_of_lt h⟩
theorem y2 {n:Nat}{q k:Int}(q1:0≤q)(q2:q<min k ((n:Int) - 1)):∃ m:Nat,2+q=(m:Int)∧1≤m∧2≤m∧m≤n :=
 match q,Int.eq_ofNat_of_zero_le q1,q2 with
 | _,⟨r,rfl⟩,q2=>⟨r+2,Int.add_comm _ _,Nat.le_add_left _ _,Nat.le_add_left _ _,Int.ofNat_lt.mp (Int.add_lt_of_lt_sub_right (Int.lt_of_lt_of_le q2 (Int.min_le_right _ _)))⟩
theorem y0 (a b c d:Int):a+b+(c+d)=a+c+(b+d):=by rw [Int.add_assoc,Int.add_assoc,Int.add_left_comm b]
theorem y3 {A B C:Int}{l m n:Nat}(h1:A=B+C)(h2:l=m+n):A+l=B+m+(C+n):=by rw [h1,h2];exact y0 _ _ (m:Int) (n:Int)
theorem y4 {H:Int}{d:Nat}(e:H=(d:Int))(h:H<12):d+1≤12:=Int.ofNat_lt.mp (e ▸ h)
theorem y5 {A B c:Int}{a b:Nat}(h:c≤B+b - 1):A+(c+0)+((a+(0+1):Nat):Int)≤A+a+(B+b)+2:=by
 show A+(c+0)+((a:Int)+1)≤_
 rw [Int.add_zero,y0];exact Int.le_trans (Int.add_le_add_left (Int.add_le_of_le_sub_right h) _) (Int.le_add_of_nonneg_right (by decide))
theorem y6 {S u t N:Int}(h:u≤t+1):S+(u+0)+N≤S+(t+0)+N+2:=by
 rw [Int.add_zero,Int.add_zero,Int.add_right_comm (S+t) N 2,Int.add_assoc S t 2];exact Int.add_le_add_right (Int.add_le_add_left (Int.le_trans h (Int.add_le_add_left (by decide:(1:Int)≤2) _)) _) _
theorem y8 {c:Int}{n:Nat}(h:2≤n)(g:0≤c):0≤c+(n:Int) - 1:=Int.sub_nonneg_of_le (Int.le_trans (Int.ofNat_le.mpr (Nat.le_of_succ_le h)) (Int.le_add_of_nonneg_left g))
theorem y10 {a k x:Nat}:a≤a+k+x:=Nat.le_trans (Nat.le_add_right _ _) (Nat.le_add_right _ _)
theorem z1 {a:Int}{k n:Nat}(e:a=(k:Int))(h:a<(n:Int)):k<n:=Int.ofNat_lt.mp (e ▸ h)
theorem z2 {s j:Nat}(h:s+(j+1)≤1000):s+(0+1)≤16777216:=u3 (Nat.le_trans (Nat.add_le_add_left (Nat.le_add_left 1 j) s) h) (by decide)
theorem z4 {s j c:Nat}(h:s+(j+1)<c):s+(0+1)+j<c:=Nat.lt_of_le_of_lt (Nat.le_of_eq (Nat.add_right_comm s 1 j)) h
theorem z5 {c:Int}{s q:Nat}(hc:0≤c)(hl:(q:Int)=((s+(0+1):Nat):Int)+c):0≤(s:Int)∧(s:Int)<(q:Int):=⟨Int.natCast_nonneg _,hl ▸ Int.le_add_of_nonneg_right (a:=((s+(0+1):Nat):Int)) hc⟩
theorem z6 {c:Int}{s q r l:Nat}(hn:(s:Int)+(c+(l:Int) - 1)≤100000)(l1:(q:Int)=s+c)(l2:r+1=l):q+r<16777216:=by
 subst l2
 rw [Int.natCast_add,← Int.add_assoc,show ((1:Nat):Int)=1 from rfl,Int.add_sub_cancel,← Int.add_assoc,← l1] at hn
 exact u2 (b:=100000) (Int.ofNat_le.mp hn) (by decide)
theorem z8 {S c k q M:Int}(hn:S+(c+k)≤M)(hl:q=S+c):q+k≤M:=by rw [hl,Int.add_assoc];exact hn
theorem z9 {S c k q M:Int}(hn:S+(c+k)≤M)(hl:q=S+k):q+c≤M:=by rw [hl,Int.add_assoc,Int.add_comm k];exact hn
theorem z7 {S c:Int}{q:Nat}(hn:S+(c+1)≤100000)(hl:(q:Int)=S+c):q<16777216:=u1 (b:=100000) (Int.ofNat_lt.mp (z8 hn hl)) (by decide)
theorem z10 {D u d:Nat}(h:2 * (1+D)+1≤d+2)(hu:u≤D):2 * u+1≤d:=by
 rw [Nat.add_comm 1 D] at h;exact Nat.le_trans (Nat.succ_le_succ (Nat.mul_le_mul_left 2 hu)) (Nat.le_of_succ_le_succ (Nat.le_of_succ_le_succ h))
theorem z11 {c:Int}{s l:Nat}(h:2≤l)(hn:(s:Int)+(c+(l:Int) - 1)≤100000):(s:Int)+c≤100000:=Int.le_trans (Int.add_le_add_left (Int.le_sub_one_of_lt (Int.lt_add_of_pos_right c (Int.ofNat_lt.mpr (Nat.lt_of_succ_lt h)))) _) hn
theorem z12 {t u d:Nat}(h:2 * t+1≤d+3)(hd:u<t):2 * u+1≤d+2:=Nat.le_of_succ_le (Nat.le_of_succ_le_succ (Nat.le_trans (Nat.succ_le_succ (Nat.mul_le_mul_left 2 hd)) h))
theorem z13 {c M:Int}{s:Nat}(hn:(s:Int)+(c+1)≤M):((s+(0+1):Nat):Int)+c≤M:=by show (s:Int)+1+c≤M;rw [Int.add_assoc,Int.add_comm 1];exact hn
theorem z14 {c:Int}{s:Nat}(hn:(s:Int)+(c+1)≤100000)(hc:0≤c):s<16777216:=u1 (b:=100000) (Int.ofNat_lt.mp (Int.le_trans (Int.add_le_add_left (Int.le_add_of_nonneg_left hc) _) hn)) (by decide)
theorem y30 {i:Int}{m:Nat}(h1:-((m+1:Nat):Int)<i)(h2:i<((m+1:Nat):Int)):i.natAbs≤m :=
 match i,h1,h2 with
 | .ofNat _,_,h2=>Nat.le_of_lt_succ (Int.ofNat_lt.mp h2)
 | .negSucc n,h1,_=>Nat.le_of_lt_succ (Int.ofNat_lt.mp (Int.lt_of_neg_lt_neg (show -((m+1:Nat):Int) < -((n+1:Nat):Int) from h1)))
theorem y31 {r:Nat}:Int.toNat (-1+((r+1:Nat):Int))=r:=by show Int.toNat (-1+((r:Int)+1))=r;rw [Int.add_comm,Int.add_neg_cancel_right];rfl
theorem y32 {a m:Nat}:a+1+m - a=m+1:=by rw [Nat.add_assoc,Nat.add_sub_cancel_left,Nat.add_comm]
theorem y33 {a m:Nat}:a+1+m+1 - a=m+1+1:=by rw [Nat.add_assoc,Nat.add_assoc,Nat.add_sub_cancel_left];exact Nat.add_comm 1 (m+1)
theorem y34 {A B S c k:Int}(h2:A=S+c)(h1:B=A+k):B=S+(c+k):=by rw [h1,h2,Int.add_assoc]
theorem y35 {A B S c k:Int}(h1:A=S+k)(h2:B=A+c):B=S+(c+k):=by rw [h2,h1,Int.add_assoc,Int.add_comm k]
theorem y36 {c:Int}{s q r l:Nat}(e1:(q:Int)=s+c)(e2:r+1=l):((q+r:Nat):Int)=s+(c+(l:Int) - 1):=by
 subst e2;show (q:Int)+r=s+(c+((r:Int)+1) - 1)
 rw [← Int.add_assoc c,Int.add_sub_cancel,e1,Int.add_assoc]
theorem y39 {L:Nat}{c:Int}(hc:c≤3000)(h:(L:Int)=((0+1:Nat):Int)+c):L≤3001:=Int.ofNat_le.mp (by rw [h];exact Int.add_le_add_left hc 1)
end Mine.Internal
namespace Mine.Internal
set_option genCtorIdx false in
inductive V where
 | undef
 | none
 | bool (b:Bool)
 | int (i:Int)
 | str (s:List Nat)
 | tup (xs:List V)
 | lst (xs:List V)
 | ref (i:Nat)
 | exc (c:Nat)
set_option genInjectivity true in
inductive Cell where
 | lst (xs:List V)
 | dictI (ks:List Int)
 | dictP (ks:List (List Int))
 | dead
abbrev Sg:=List Cell
abbrev Fm:=List V
inductive Res (α:Type) where
 | ok (a:α) (s:Sg)
 | ex (c:Nat) (s:Sg)
 | bad
noncomputable def Res.bind {α β:Type}(r:Res α)(f:α->Sg->Res β)(x:Bool:=false):Res β:=match r with
 | .ok a s=>f a s
 | .ex c s=>match x with | true=>.ex c s | false=>.bad
 | .bad=>.bad
noncomputable def Res.nox {α:Type}(r:Res α):Res α:=match r with
 | .ok a s=>.ok a s
 | _=>.bad
theorem qad {α β:Type}(a:α)(s:Sg)(f:α->Sg->Res β){x:Bool}:(Res.ok a s).bind f x=f a s:=rfl
theorem qsp {α:Type}(a:α)(s:Sg):(Res.ok a s).nox = .ok a s:=rfl
theorem qwa {α β:Type}(c:Nat)(s:Sg)(f:α->Sg->Res β):(Res.ex c s).bind f true = .ex c s:=rfl
theorem qtv {α β:Type}(f:α->Sg->Res β){x:Bool}:(Res.bad:Res α).bind f x = .bad:=rfl
theorem qbm {α β:Type}{r:Res α}{f:α->Sg->Res β}{x:Bool}{b:β}{s':Sg}(h:r.bind f x = .ok b s') :
  ∃ a s,r = .ok a s∧f a s = .ok b s':=by
 cases r with
 | ok a s=>exact ⟨a,s,rfl,h⟩
 | ex c s=>cases x <;> cases h
 | bad=>cases h
theorem qau {α β:Type}{r:Res α}{f:α->Sg->Res β}{x:Bool}{c:Nat}{s':Sg}(h:r.bind f x = .ex c s') :
  (x=true∧r = .ex c s')∨∃ a s,r = .ok a s∧f a s = .ex c s':=by
 cases r with
 | ok a s=>exact .inr ⟨a,s,rfl,h⟩
 | ex d s=>cases x with
  | true=>cases h;exact .inl ⟨rfl,rfl⟩
  | false=>cases h
 | bad=>cases h
theorem qfg {α:Type}{r:Res α}{a:α}{s:Sg}(h:r.nox = .ok a s):r = .ok a s:=by
 cases r with
 | ok a s=>exact h
 | ex c s=>cases h
 | bad=>cases h
theorem qsn {α:Type}{r:Res α}{c:Nat}{s:Sg}(h:r.nox = .ex c s):False:=by
 cases r <;> cases h
noncomputable def Res.of {α:Type}(o:Option α)(s:Sg):Res α:=match o with | some a=>.ok a s | none=>.bad
theorem qam {α:Type}(a:α)(s:Sg):Res.of (some a) s = .ok a s:=rfl
theorem qbw {α:Type}{o:Option α}{s s':Sg}{a:α}(h:Res.of o s = .ok a s'):o=some a∧s=s':=by
 cases o with
 | none=>cases h
 | some b=>cases h;exact ⟨rfl,rfl⟩
theorem qfp {α β:Type}{o:Option α}{s s':Sg}{f:α->Sg->Res β}{b:β}{x:Bool}(h:(Res.of o s).bind f x = .ok b s'):∃ a,o=some a∧f a s = .ok b s':=by
 cases o with
 | none=>cases h
 | some a=>exact ⟨a,rfl,h⟩
theorem bindK {α β:Type}{r:Res α}{f:α->Sg->Res β}{b:β}{s':Sg}{p:Prop}{x:Bool}(h:r.bind f x = .ok b s')(k:∀ a s,r = .ok a s->f a s = .ok b s'->p):p:=let ⟨a,s,h1,h2⟩:=qbm h;k a s h1 h2
theorem bindofK {α β:Type}{o:Option α}{s s':Sg}{f:α->Sg->Res β}{b:β}{p:Prop}{x:Bool}(h:(Res.of o s).bind f x = .ok b s')(k:∀ a,o=some a->f a s = .ok b s'->p):p:=let ⟨a,h1,h2⟩:=qfp h;k a h1 h2
inductive Bop where | add | sub | mul | fdiv | mod
inductive Cop where | eq | ne | lt | le | gt | ge | isin | notin | is | isnot
inductive IK where | val | rng1 | rng2 | rev
inductive Bi where
 | len | isBool | isInt | isStr | isTup | isLst | sum | all | any | max1 | max2 | min2 | tuple | list | int
 | isExc (c:Nat)
set_option genCtorIdx false in
inductive Ex where
 | cNone
 | cBool (b:Bool)
 | cInt (i:Int)
 | cStr (s:List Nat)
 | var (i:Nat)
 | glob (g:Nat)
 | and (a b:Ex)
 | or (a b:Ex)
 | not (a:Ex)
 | neg (a:Ex)
 | bin (op:Bop) (l r:Ex)
 | cmp (op:Cop) (l r:Ex)
 | cmp2 (o1 o2:Cop) (a b c:Ex)
 | ite (c a b:Ex)
 | tup (es:List Ex)
 | lst (m:Bool) (es:List Ex)
 | dict (p:Bool)
 | comp (m:Bool) (elt:Ex) (ik:IK) (a b:Ex) (cond:Option Ex)
 | compL (elt a:Ex)
 | call (f:Nat) (args:List Ex)
 | bi (b:Bi) (args:List Ex)
 | app (o x:Ex)
 | pop (o:Ex)
 | clear (o:Ex)
 | rvs (o:Ex)
 | join (sep l:Ex)
 | idx (e i:Ex)
 | slice (e:Ex) (lo hi:Option Ex)
 | frz (e:Ex)
set_option genCtorIdx false in
inductive St where
 | expr (e:Ex)
 | ret (e:Ex)
 | asg (i:Nat) (e:Ex)
 | sto (o i e:Ex)
 | ite (c:Ex) (a b:List St)
 | while (c:Ex) (b:List St)
 | for (i:Nat) (ik:IK) (a b:Ex) (body:List St)
 | raise (c:Nat)
 | tryC (e:Ex) (hs:List (Nat×List Nat))
 | tryP (e:Ex)
inductive Fl where
 | next
 | ret (v:V)
noncomputable def nIdx (i:Int)(n:Nat):Option Nat :=
 if 0≤i then (if i<(n:Int) then some i.toNat else none)
 else if 0≤i+(n:Int) then some (i+(n:Int)).toNat else none
noncomputable def clamp (i:Int)(n:Nat):Nat:=if i<0 then (i+(n:Int)).toNat else min i.toNat n
noncomputable def loOf (lo:Option Int)(n:Nat):Nat:=match lo with | some i=>clamp i n | none=>0
noncomputable def hiOf (hi:Option Int)(n:Nat):Nat:=match hi with | some i=>clamp i n | none=>n
noncomputable def cut {α:Type}(xs:List α)(lo hi:Option Int):List α:=(xs.take (hiOf hi xs.length)).drop (loOf lo xs.length)
noncomputable def getL (σ:Sg):V->Option (List V)
 | .lst xs=>some xs
 | .ref i=>match σ[i]? with | some (.lst xs)=>some xs | _=>none
 | _=>none
noncomputable def getSeq (σ:Sg):V->Option (List V)
 | .tup xs=>some xs
 | .str s=>some (s.map λc=>.str [c])
 | v=>getL σ v
mutual
noncomputable def veq (a b:V):Bool:=match a with
 | .none=>(match b with | .none=>true | _=>false)
 | .bool x=>(match b with | .bool y=>x == y | .int j=>(if x then 1 else 0) == j | _=>false)
 | .int i=>(match b with | .bool y=>i == (if y then 1 else 0) | .int j=>i == j | _=>false)
 | .str x=>(match b with | .str y=>x == y | _=>false)
 | .lst xs=>(match b with | .lst ys=>veqs xs ys | _=>false)
 | .tup xs=>(match b with | .tup ys=>veqs xs ys | _=>false)
 | _=>false
noncomputable def veqs (a b:List V):Bool:=match a with
 | []=>(match b with | []=>true | _=>false)
 | x::xs=>(match b with | y::ys=>veq x y && veqs xs ys | _=>false)
end
noncomputable def strFine (s:List Nat):Bool:=s.all (λc=>c<1114112)
mutual
noncomputable def plain (n:Nat)(v:V):Bool:=match v with
 | .none=>true
 | .bool _=>true
 | .int _=>true
 | .str s=>strFine s
 | .lst xs=>(match n with | 0=>false | n+1=>plains n xs)
 | .tup xs=>(match n with | 0=>false | n+1=>plains n xs)
 | _=>false
noncomputable def plains (n:Nat)(l:List V):Bool:=match l with
 | []=>true
 | x::xs=>plain n x && plains n xs
end
noncomputable def deref (σ:Sg):V->V
 | .ref i=>match σ[i]? with | some (.lst xs)=>.lst xs | _=>.undef
 | v=>v
noncomputable def vEqG (σ:Sg)(a b:V):Option Bool:=if plain 7 (deref σ a) && plain 7 (deref σ b) then some (veq (deref σ a) (deref σ b)) else none
noncomputable def vEq (σ:Sg)(a b:V):Option Bool:=match a with
 | .none=>(match b with | .none=>some true | b=>vEqG σ .none b)
 | .bool x=>(match b with | .bool y=>some (x == y) | b=>vEqG σ (.bool x) b)
 | .int x=>(match b with | .int y=>some (x == y) | b=>vEqG σ (.int x) b)
 | .str x=>(match b with | .str y=>some (x == y) | b=>vEqG σ (.str x) b)
 | a=>vEqG σ a b
noncomputable def vTrue (σ:Sg):V->Option Bool
 | .none=>some false
 | .bool b=>some b
 | .int i=>some (i != 0)
 | .str s=>some (!s.isEmpty)
 | .lst xs=>some (!xs.isEmpty)
 | .ref i=>match σ[i]? with | some (.lst xs)=>some (!xs.isEmpty) | _=>none
 | _=>none
noncomputable def isNoneV:V->Option Bool
 | .none=>some true
 | .undef=>none
 | .exc _=>none
 | _=>some false
noncomputable def vIs (a b:V):Option Bool:=match b with
 | .none=>isNoneV a
 | .bool b=>(match a with | .none=>some false | .bool a=>some (a == b) | _=>none)
 | _=>none
noncomputable def intsV:List V->Option (List Int)
 | []=>some []
 | .int i::r=>(intsV r).map (i::·)
 | _::_=>none
noncomputable def strsV:List V->Option (List (List Nat))
 | []=>some []
 | .str i::r=>(strsV r).map (i::·)
 | _::_=>none
noncomputable def inG (x:V)(xs:List V):Option Bool:=if plain 5 x && plains 5 xs then some (xs.any λy=>veq y x) else none
noncomputable def inStrs (s:List Nat)(l:List (List Nat)):Option Bool:=if strFine s && l.all strFine then some (l.any λy=>y == s) else none
noncomputable def inSeq (x:V)(xs:List V):Option Bool:=match x with
 | .str s=>(match strsV xs with | some l=>inStrs s l | none=>inG (.str s) xs)
 | x=>inG x xs
noncomputable def inStr (x:V)(b:List Nat):Option Bool:=match x with
 | .str s=>(match s with | [c]=>some (b.contains c) | _=>none)
 | _=>none
noncomputable def inCell (x:V):Option Cell->Option Bool
 | some (.dictI ks)=>(match x with | .int k=>some (decide (k∈ks)) | _=>none)
 | some (.dictP ks)=>(match x with | .tup xs=>(intsV xs).map λl=>decide (l∈ks) | _=>none)
 | some (.lst xs)=>inSeq x xs
 | _=>none
noncomputable def vIn (σ:Sg)(x c:V):Option Bool:=match c with
 | .str b=>inStr x b
 | .ref i=>inCell x σ[i]?
 | .lst xs=>inSeq x xs
 | .tup xs=>inSeq x xs
 | _=>none
noncomputable def ii {α:Type}(f:Int->Int->Option α)(a b:V):Option α:=match a with
 | .int i=>(match b with | .int j=>f i j | _=>none)
 | _=>none
theorem qwm {α:Type}{f:Int->Int->Option α}{a b:V}{x:α}(h:ii f a b=some x):∃ i j,a = .int i∧b = .int j∧f i j=some x:=by
 cases a with
 | int i=>cases b with
  | int j=>exact ⟨i,j,rfl,rfl,h⟩
  | _=>cases h
 | _=>cases h
noncomputable def vCmp (σ:Sg)(op:Cop)(a b:V):Option Bool :=
 match op with
 | .eq=>vEq σ a b
 | .ne=>(vEq σ a b).map not
 | .isin=>vIn σ a b
 | .notin=>(vIn σ a b).map not
 | .is=>vIs a b
 | .isnot=>(vIs a b).map not
 | .lt=>ii (λa b=>some (decide (a<b))) a b
 | .le=>ii (λa b=>some (decide (a≤b))) a b
 | .gt=>ii (λa b=>some (decide (a > b))) a b
 | .ge=>ii (λa b=>some (decide (a ≥ b))) a b
noncomputable def roomy:Nat:=16777216
noncomputable def small (i:Int):Bool:=Nat.ble i.natAbs 4611686018427387903
noncomputable def addL (xs ys:List V):Option V:=if xs.length+ys.length≤roomy then some (.lst (xs++ys)) else none
noncomputable def vAdd (σ:Sg)(a b:V):Option V:=match a with
 | .int i=>(match b with | .int j=>some (.int (i+j)) | _=>none)
 | .str x=>(match b with | .str y=>if x.length+y.length≤roomy then some (.str (x++y)) else none | _=>none)
 | a=>(getL σ a).bind λxs=>(getL σ b).bind λys=>addL xs ys
noncomputable def mulL (xs:List V)(n:Int):Option V:=if xs.length * n.toNat≤roomy && small n then some (.lst (List.replicate n.toNat xs).flatten) else none
noncomputable def vMul (σ:Sg)(a b:V):Option V:=match b with
 | .int n=>(match a with
  | .int i=>if small i || small n then some (.int (i * n)) else none
  | .str x=>if x.length * n.toNat≤roomy && small n then some (.str (List.replicate n.toNat x).flatten) else none
  | a=>(getL σ a).bind λxs=>mulL xs n)
 | _=>none
noncomputable def vBin (σ:Sg)(op:Bop)(a b:V):Option V:=match op with
 | .add=>vAdd σ a b
 | .sub=>ii (λa b=>some (.int (a - b))) a b
 | .mul=>vMul σ a b
 | .fdiv=>ii (λa b=>if small b && b != 0 then some (.int (a.fdiv b)) else none) a b
 | .mod=>ii (λa b=>if b != 0 then some (.int (a.fmod b)) else none) a b
noncomputable def vIdx (σ:Sg)(v i:V):Option V :=
 match i with
 | .int i=>if small i then (getSeq σ v).bind λxs=>(nIdx i xs.length).bind λk=>xs[k]? else none
 | _=>none
noncomputable def smallO:Option Int->Bool
 | none=>true
 | some i=>small i
noncomputable def vCut (σ:Sg)(v:V)(lo hi:Option Int):Option V :=
 if smallO lo && smallO hi then
  match v with
  | .str s=>some (.str (cut s lo hi))
  | .tup xs=>if hi.isNone && decide (1≤lo.getD 0∧lo.getD 0≤(xs.length:Int)) then some (.tup (cut xs lo hi)) else none
  | v=>(getL σ v).map λxs=>.lst (cut xs lo hi)
 else none
noncomputable def stL (σ:Sg)(r:Nat)(x:V)(xs:List V)(i:V):Option Sg:=match i with
 | .int i=>if 0≤i∧i<(xs.length:Int) then some (σ.set r (.lst (xs.set i.toNat x))) else none
 | _=>none
noncomputable def stI (σ:Sg)(r:Nat)(ks:List Int)(i:V):Option Sg:=match i with
 | .int k=>if ks.length<roomy then some (σ.set r (.dictI (if k∈ks then ks else ks++[k]))) else none
 | _=>none
noncomputable def stP (σ:Sg)(r:Nat)(ks:List (List Int))(i:V):Option Sg:=match i with
 | .tup xs=>if ks.length<roomy then (intsV xs).map λk=>σ.set r (.dictP (if k∈ks then ks else ks++[k])) else none
 | _=>none
noncomputable def vStore (σ:Sg)(o i x:V):Option Sg:=match o with
 | .ref r=>(match σ[r]? with | some (.lst xs)=>stL σ r x xs i | some (.dictI ks)=>stI σ r ks i | some (.dictP ks)=>stP σ r ks i | _=>none)
 | _=>none
noncomputable def vLen (σ:Sg):V->Option Nat
 | .str s=>some s.length
 | .tup xs=>some xs.length
 | .lst xs=>some xs.length
 | .ref i=>match σ[i]? with | some (.lst xs)=>some xs.length | some (.dictI ks)=>some ks.length | some (.dictP ks)=>some ks.length | _=>none
 | _=>none
noncomputable def joinS (sep:List Nat):List (List Nat)->List Nat
 | []=>[]
 | [x]=>x
 | x::r=>x++sep++joinS sep r
noncomputable def isaK (n b i s t l:Bool):V->Option Bool
 | .none=>some n
 | .bool _=>some b
 | .int _=>some i
 | .str _=>some s
 | .tup _=>some t
 | .lst _=>some l
 | _=>none
noncomputable def vIsa (b:Bi)(v:V):Option Bool:=match b with
 | .isBool=>none
 | .isInt=>none
 | .isStr=>isaK false false false true false false v
 | .isTup=>isaK false false false false true false v
 | .isLst=>isaK false false false false false true v
 | .isExc c=>(match v with | .exc d=>some (c == d || c == 0) | _=>none)
 | _=>none
noncomputable def isLstC:Option Cell->Option V
 | some (.lst _)=>some (.bool true)
 | _=>none
noncomputable def vBi1 (σ:Sg)(b:Bi)(v:V):Option V :=
 match b with
 | .len=>(vLen σ v).map λ(n:Nat)=>V.int (Int.ofNat n)
 | .sum=>none
 | .all=>none
 | .any=>none
 | .max1=>none
 | .tuple=>(getL σ v).map V.tup
 | .list=>none
 | .int=>none
 | .isLst=>(match v with | .ref i=>isLstC σ[i]? | v=>(vIsa .isLst v).map V.bool)
 | b=>(vIsa b v).map V.bool
noncomputable def vBi2 (b:Bi)(x y:V):Option V:=match b with
 | .max2=>ii (λa b=>some (.int (max a b))) x y
 | .min2=>none
 | _=>none
noncomputable def vBi (σ:Sg)(b:Bi)(args:List V):Option V :=
 match args with
 | [v]=>vBi1 σ b v
 | [x,y]=>vBi2 b x y
 | _=>none
noncomputable def vApp (σ:Sg)(o x:V):Option Sg :=
 match o with
 | .ref r=>match σ[r]? with | some (.lst xs)=>if xs.length<roomy then some (σ.set r (.lst (xs++[x]))) else none | _=>none
 | _=>none
noncomputable def liveL (σ:Sg)(o:V):Option Unit :=
 match o with
 | .ref r=>match σ[r]? with | some (.lst _)=>some () | _=>none
 | _=>none
noncomputable def liveX (σ:Sg)(o:V):Option (Nat×List V) :=
 match o with
 | .ref r=>match σ[r]? with | some (.lst xs)=>some (r,xs) | _=>none
 | _=>none
noncomputable def vPop (σ:Sg)(o:V):Option (V×Sg) :=
 match o with
 | .ref r=>match σ[r]? with
  | some (.lst xs)=>(xs.getLast?).map λx=>(x,σ.set r (.lst xs.dropLast))
  | _=>none
 | _=>none
noncomputable def vClear (σ:Sg)(o:V):Option Sg :=
 match o with
 | .ref r=>match σ[r]? with | some (.lst _)=>some (σ.set r (.lst [])) | _=>none
 | _=>none
noncomputable def vRvs (σ:Sg)(o:V):Option Sg :=
 match o with
 | .ref r=>match σ[r]? with | some (.lst xs)=>some (σ.set r (.lst xs.reverse)) | _=>none
 | _=>none
mutual
noncomputable def freeze (σ:Sg):V->Option (V×Sg)
 | .ref i=>match σ[i]? with | some (.lst xs)=>some (.lst xs,σ.set i .dead) | _=>none
 | .tup xs=>(freezes σ xs).map λp=>(.tup p.1,p.2)
 | v=>some (v,σ)
noncomputable def freezes (σ:Sg):List V->Option (List V×Sg)
 | []=>some ([],σ)
 | x::r=>(freeze σ x).bind λp=>(freezes p.2 r).map λq=>(p.1::q.1,q.2)
end
noncomputable def rangeL (lo hi:Int):List V:=(List.range (hi - lo).toNat).map λ(k:Nat)=>.int (lo+k)
noncomputable def itemsV:V->Option (List V)
 | .tup xs=>some xs
 | .lst xs=>some xs
 | .str s=>some (s.map λc=>.str [c])
 | _=>none
noncomputable def vItems (ik:IK)(a b:V):Option (List V):=match ik with
 | .val=>itemsV a
 | .rng1=>(match a with | .int n=>if small n then some (rangeL 0 n) else none | _=>none)
 | .rng2=>ii (λa b=>if small a && small b then some (rangeL a b) else none) a b
 | .rev=>(match a with | .lst xs=>some xs.reverse | .tup xs=>some xs.reverse | _=>none)
abbrev CF:=Nat->List V->Sg->Res V
noncomputable def compGo (test:Fm->Sg->Res Bool)(elt:Fm->Sg->Res V)(Γ:Fm):List V->List V->Sg->Res (List V)
 | [],acc,σ=>.ok acc σ
 | x::r,acc,σ=>(test (Γ++[x]) σ).bind λb σ =>
   if b then (elt (Γ++[x]) σ).bind λv σ=>compGo test elt Γ r (acc++[v]) σ else compGo test elt Γ r acc σ
noncomputable def putL (m:Bool)(xs:List V)(σ:Sg):Res V :=
 if xs.length≤roomy then (if m then .ok (.ref σ.length) (σ++[.lst xs]) else .ok (.lst xs) σ) else .bad
noncomputable def asInt:V->Option Int
 | .int i=>some i
 | _=>none
noncomputable def Res.st (o:Option Sg):Res V:=match o with | some σ=>.ok .none σ | none=>.bad
noncomputable def Res.vs (o:Option (V×Sg)):Res V:=match o with | some (v,σ)=>.ok v σ | none=>.bad
noncomputable def vJoin (σ:Sg)(s l:V):Option V :=
 match s with
 | .str s=>((getL σ l).bind strsV).bind λl=>if (l.map λx=>x.length+s.length).sum≤roomy then some (.str (joinS s l)) else none
 | _=>none
noncomputable def vNeg:V->Option V
 | .int i=>some (.int (-i))
 | _=>none
noncomputable def getV (Γ:Fm)(i:Nat):Option V:=match Γ[i]? with | some .undef=>none | o=>o
mutual
noncomputable def evE (gl:List V)(cf:CF):Ex->Fm->Sg->Res V
 | .cNone,_,σ=>.ok .none σ
 | .cBool b,_,σ=>.ok (.bool b) σ
 | .cInt i,_,σ=>.ok (.int i) σ
 | .cStr s,_,σ=>.ok (.str s) σ
 | .var i,Γ,σ=>Res.of (getV Γ i) σ
 | .glob g,_,σ=>Res.of gl[g]? σ
 | .and a b,Γ,σ=>(evE gl cf a Γ σ).bind λv σ=>(Res.of (vTrue σ v) σ).bind λt σ=>if t then (evE gl cf b Γ σ).nox else .ok v σ
 | .or a b,Γ,σ=>(evE gl cf a Γ σ).bind λv σ=>(Res.of (vTrue σ v) σ).bind λt σ=>if t then .ok v σ else (evE gl cf b Γ σ).nox
 | .not a,Γ,σ=>(evE gl cf a Γ σ).bind λv σ=>(Res.of (vTrue σ v) σ).bind λt σ=>.ok (.bool (!t)) σ
 | .neg a,Γ,σ=>(evE gl cf a Γ σ).bind λv σ=>Res.of (vNeg v) σ
 | .bin op l r,Γ,σ=>(evE gl cf l Γ σ).bind λa σ=>(evE gl cf r Γ σ).bind λb σ=>Res.of (vBin σ op a b) σ
 | .cmp op l r,Γ,σ=>(evE gl cf l Γ σ).bind λa σ=>(evE gl cf r Γ σ).bind λb σ=>(Res.of (vCmp σ op a b) σ).bind λt σ=>.ok (.bool t) σ
 | .cmp2 o1 o2 a b c,Γ,σ=>(evE gl cf a Γ σ).bind λx σ=>(evE gl cf b Γ σ).bind λy σ=>(Res.of (vCmp σ o1 x y) σ).bind λt σ =>
   if t then (evE gl cf c Γ σ).bind λz σ=>(Res.of (vCmp σ o2 y z) σ).bind λu σ=>.ok (.bool u) σ else .ok (.bool false) σ
 | .ite c a b,Γ,σ=>(evE gl cf c Γ σ).bind (x:=true) λv σ=>(Res.of (vTrue σ v) σ).bind λt σ=>if t then evE gl cf a Γ σ else evE gl cf b Γ σ
 | .tup es,Γ,σ=>(evEs gl cf es Γ σ).bind λvs σ=>if vs.length≤roomy then .ok (.tup vs) σ else .bad
 | .lst m es,Γ,σ=>(evEs gl cf es Γ σ).bind λvs σ=>putL m vs σ
 | .dict p,_,σ=>.ok (.ref σ.length) (σ++[if p then .dictP [] else .dictI []])
 | .comp m elt ik a b cond,Γ,σ=>(evE gl cf a Γ σ).bind λx σ=>(evE gl cf b Γ σ).bind λy σ=>(Res.of (vItems ik x y) σ).bind λitems σ =>
   (compGo (evT gl cf cond) (evE gl cf elt) Γ items [] σ).bind λvs σ=>putL m vs σ
 | .compL elt a,Γ,σ=>(evE gl cf a Γ σ).bind λx σ=>(Res.of (liveX σ x) σ).bind λp σ =>
   (compGo (λ_ σ=>.ok true σ) (evE gl cf elt) Γ p.2 [] (σ.set p.1 .dead)).bind λvs σ=>putL false vs (σ.set p.1 (.lst p.2))
 | .call f args,Γ,σ=>(evEs gl cf args Γ σ).bind (x:=true) λvs σ=>cf f vs σ
 | .bi b args,Γ,σ=>(evEs gl cf args Γ σ).bind (x:=true) λvs σ=>Res.of (vBi σ b vs) σ
 | .app o x,Γ,σ=>(evE gl cf o Γ σ).bind λov σ=>(Res.of (liveL σ ov) σ).bind λ_ σ=>(evE gl cf x Γ σ).bind λxv σ=>Res.st (vApp σ ov xv)
 | .pop o,Γ,σ=>(evE gl cf o Γ σ).bind λov σ=>Res.vs (vPop σ ov)
 | .clear o,Γ,σ=>(evE gl cf o Γ σ).bind λov σ=>Res.st (vClear σ ov)
 | .rvs o,Γ,σ=>(evE gl cf o Γ σ).bind λov σ=>Res.st (vRvs σ ov)
 | .join s l,Γ,σ=>(evE gl cf s Γ σ).bind λsv σ=>(evE gl cf l Γ σ).bind λlv σ=>Res.of (vJoin σ sv lv) σ
 | .idx e i,Γ,σ=>(evE gl cf e Γ σ).bind λv σ=>(evE gl cf i Γ σ).bind λj σ=>Res.of (vIdx σ v j) σ
 | .slice e lo hi,Γ,σ=>(evE gl cf e Γ σ).bind λv σ=>(evO gl cf lo Γ σ).bind λlo σ=>(evO gl cf hi Γ σ).bind λhi σ=>Res.of (vCut σ v lo hi) σ
 | .frz e,Γ,σ=>(evE gl cf e Γ σ).bind λv σ=>Res.vs (freeze σ v)
noncomputable def evEs (gl:List V)(cf:CF):List Ex->Fm->Sg->Res (List V)
 | [],_,σ=>.ok [] σ
 | e::r,Γ,σ=>(evE gl cf e Γ σ).bind (x:=true) λv σ=>(evEs gl cf r Γ σ).bind (x:=true) λvs σ=>.ok (v::vs) σ
noncomputable def evO (gl:List V)(cf:CF):Option Ex->Fm->Sg->Res (Option Int)
 | none,_,σ=>.ok none σ
 | some e,Γ,σ=>(evE gl cf e Γ σ).bind λx σ=>(Res.of (asInt x) σ).bind λi σ=>.ok (some i) σ
noncomputable def evT (gl:List V)(cf:CF):Option Ex->Fm->Sg->Res Bool
 | none,_,σ=>.ok true σ
 | some e,Γ,σ=>(evE gl cf e Γ σ).bind λv σ=>Res.of (vTrue σ v) σ
end
noncomputable def forGo (body:Fm->Sg->Res (Fl×Fm))(i:Nat):List V->Fm->Sg->Res (Fl×Fm)
 | [],Γ,σ=>.ok (.next,Γ) σ
 | x::r,Γ,σ=>(body (Γ.set i x) σ).bind λp σ=>match p.1 with
  | .next=>forGo body i r p.2 σ
  | .ret v=>.ok (.ret v,p.2) σ
noncomputable def loopN (turn:Fm->Sg->Res (Option Fl×Fm)):Nat->Fm->Sg->Res (Fl×Fm)
 | 0,_,_=>.bad
 | n+1,Γ,σ=>(turn Γ σ).bind (x:=true) λp σ=>match p.1 with
  | none=>loopN turn n p.2 σ
  | some f=>.ok (f,p.2) σ
open Classical in
noncomputable def loopW (turn:Fm->Sg->Res (Option Fl×Fm))(Γ:Fm)(σ:Sg):Res (Fl×Fm) :=
 if h:∃ n,loopN turn n Γ σ≠.bad then loopN turn (Classical.choose h) Γ σ else .bad
theorem qd9 {turn:Fm->Sg->Res (Option Fl×Fm)}{n:Nat}{Γ:Fm}{σ:Sg}:loopN turn (n+1) Γ σ=(turn Γ σ).bind (x:=true) λp σ=>match p.1 with | none=>loopN turn n p.2 σ | some f=>.ok (f,p.2) σ:=rfl
theorem qhw {turn:Fm->Sg->Res (Option Fl×Fm)}:∀ {n:Nat} {Γ:Fm} {σ:Sg},loopN turn n Γ σ≠.bad->loopN turn (n+1) Γ σ=loopN turn n Γ σ
 | 0,_,_,h=>(h rfl).elim
 | n+1,Γ,σ,h=>by
  rw [qd9,qd9]
  rw [qd9] at h
  cases hb:turn Γ σ with
  | bad=>rfl
  | ex c s=>rfl
  | ok p s =>
   rw [hb] at h
   simp only [qad] at h ⊢
   cases hp:p.1 with
   | some f=>rfl
   | none=>rw [hp] at h;exact qhw h
theorem qn3 {turn:Fm->Sg->Res (Option Fl×Fm)}{n m:Nat}{Γ:Fm}{σ:Sg}(h:loopN turn n Γ σ≠.bad)(hm:n≤m):loopN turn m Γ σ=loopN turn n Γ σ:=by
 induction hm with
 | refl=>rfl
 | step _ ih=>rw [qhw (ih ▸ h),ih]
theorem qgk {turn:Fm->Sg->Res (Option Fl×Fm)}{n:Nat}{Γ:Fm}{σ:Sg}(h:loopN turn n Γ σ≠.bad):loopW turn Γ σ=loopN turn n Γ σ:=by
 have hx:∃ n,loopN turn n Γ σ≠.bad:=⟨n,h⟩
 rw [loopW,dif_pos hx]
 have hc:=Classical.choose_spec hx
 rcases Nat.le_total n (Classical.choose hx) with hle | hle
 ·exact qn3 h hle
 ·exact (qn3 hc hle).symm
theorem qqe {turn:Fm->Sg->Res (Option Fl×Fm)}{Γ:Fm}{σ:Sg}{p:Fl×Fm}{σ':Sg}(h:loopW turn Γ σ = .ok p σ'):∃ n,loopN turn n Γ σ = .ok p σ':=by
 rw [loopW] at h
 split at h
 ·exact ⟨_,h⟩
 ·cases h
theorem qcf (turn:Fm->Sg->Res (Option Fl×Fm))(Γ:Fm)(σ:Sg) :
  loopW turn Γ σ=(turn Γ σ).bind (x:=true) λp σ=>match p.1 with | none=>loopW turn p.2 σ | some f=>.ok (f,p.2) σ:=by
 cases hb:turn Γ σ with
 | bad =>
  rw [loopW,dif_neg];· rfl
  rintro ⟨n,hn⟩
  cases n with
  | zero=>exact hn rfl
  | succ n=>rw [qd9,hb] at hn;exact hn rfl
 | ex c s =>
  have h:loopN turn 1 Γ σ = .ex c s:=by rw [qd9,hb];rfl
  rw [qgk (n:=1) (by rw [h];intro x;cases x),h];rfl
 | ok p s =>
  rw [qad]
  cases hp:p.1 with
  | some f =>
   have h:loopN turn 1 Γ σ = .ok (f,p.2) s:=by rw [qd9,hb,qad,hp]
   rw [qgk (n:=1) (by rw [h];intro x;cases x),h]
  | none =>
   have step:∀ n,loopN turn (n+1) Γ σ=loopN turn n p.2 s:=λn=>by rw [qd9,hb,qad,hp]
   by_cases hx:∃ n,loopN turn n p.2 s≠.bad
   ·obtain ⟨n,hn⟩:=hx
    rw [qgk (n:=n+1) (by rw [step];exact hn),step,qgk hn]
   ·have hy:¬ ∃ n,loopN turn n Γ σ≠.bad:=by
     rintro ⟨n,hn⟩
     cases n with
     | zero=>exact hn rfl
     | succ n=>rw [step] at hn;exact hx ⟨n,hn⟩
    rw [loopW,loopW,dif_neg hx,dif_neg hy]
noncomputable def storeR (Γ:Fm)(o:Option Sg):Res (Fl×Fm):=match o with | some σ=>.ok (.next,Γ) σ | none=>.bad
mutual
noncomputable def exS (gl:List V)(cf:CF):St->Fm->Sg->Res (Fl×Fm)
 | .expr e,Γ,σ=>(evE gl cf e Γ σ).bind (x:=true) λ_ σ=>.ok (.next,Γ) σ
 | .ret e,Γ,σ=>(evE gl cf e Γ σ).bind (x:=true) λv σ=>.ok (.ret v,Γ) σ
 | .asg i e,Γ,σ=>(evE gl cf e Γ σ).bind (x:=true) λv σ=>.ok (.next,Γ.set i v) σ
 | .sto o i e,Γ,σ=>(evE gl cf e Γ σ).bind λv σ=>(evE gl cf o Γ σ).bind λov σ=>(evE gl cf i Γ σ).bind λiv σ=>storeR Γ (vStore σ ov iv v)
 | .ite c a b,Γ,σ=>(evE gl cf c Γ σ).bind λv σ=>(Res.of (vTrue σ v) σ).bind λt σ=>if t then exB gl cf a Γ σ else exB gl cf b Γ σ
 | .while c b,Γ,σ=>loopW (λΓ σ=>(evE gl cf c Γ σ).bind λv σ=>(Res.of (vTrue σ v) σ).bind λt σ =>
   if t then (exB gl cf b Γ σ).bind (x:=true) λp σ=>match p.1 with | .next=>.ok (none,p.2) σ | .ret v=>.ok (some (.ret v),p.2) σ
   else .ok (some .next,Γ) σ) Γ σ
 | .for i ik a b body,Γ,σ=>(evE gl cf a Γ σ).bind λx σ=>(evE gl cf b Γ σ).bind λy σ=>(Res.of (vItems ik x y) σ).bind λitems σ =>
   forGo (exB gl cf body) i items Γ σ
 | .raise c,_,σ=>.ex c σ
 | .tryC e hs,Γ,σ=>match evE gl cf e Γ σ with
  | .ok v σ=>.ok (.ret v,Γ) σ
  | .bad=>.bad
  | .ex c σ=>match hs.lookup c with | some s=>.ok (.ret (.str s),Γ) σ | none=>.bad
 | .tryP e,Γ,σ=>match evE gl cf e Γ σ with
  | .ok _ σ=>.ok (.next,Γ) σ
  | .bad=>.bad
  | .ex c σ=>if 1≤c∧c≤5 then .ok (.ret (.bool true),List.replicate Γ.length .undef) σ else .bad
noncomputable def exB (gl:List V)(cf:CF):List St->Fm->Sg->Res (Fl×Fm)
 | [],Γ,σ=>.ok (.next,Γ) σ
 | s::r,Γ,σ=>(exS gl cf s Γ σ).bind (x:=true) λp σ=>match p.1 with | .next=>exB gl cf r p.2 σ | .ret v=>.ok (.ret v,p.2) σ
end
structure Def where
 np:Nat
 nl:Nat
 body:List St
noncomputable def flV:Fl->V
 | .next=>.none
 | .ret v=>v
noncomputable def callF (gl:List V)(P:List Def):Nat->CF
 | 0=>λ_ _ _=>.bad
 | d+1=>λf args σ=>match P[f]? with
  | some D=>if args.length=D.np then (exB gl (callF gl P d) D.body (args++List.replicate (D.nl - D.np) .undef) σ).bind (x:=true) λp σ=>.ok (flV p.1) σ else .bad
  | none=>.bad
end Mine.Internal
namespace Mine.Internal
theorem qvd {o:Option Sg}{v:V}{σ':Sg}(h:Res.st o = .ok v σ'):v = .none∧o=some σ':=by
 cases o with
 | none=>cases h
 | some s=>cases h;exact ⟨rfl,rfl⟩
theorem qpu {o:Option (V×Sg)}{v:V}{σ':Sg}(h:Res.vs o = .ok v σ'):o=some (v,σ'):=by
 cases o with
 | none=>cases h
 | some s=>cases h;rfl
theorem qpg {m:Bool}{xs:List V}{σ:Sg}{v:V}{σ':Sg}(h:putL m xs σ = .ok v σ'):xs.length≤roomy:=by
 by_cases hn:xs.length≤roomy
 ·exact hn
 ·rw [putL,if_neg hn] at h;cases h
section
variable {gl:List V} {cf:CF} {Γ:Fm} {σ:Sg}
theorem evE_cNone:evE gl cf .cNone Γ σ = .ok .none σ:=rfl
theorem evE_cBool {b:Bool}:evE gl cf (.cBool b) Γ σ = .ok (.bool b) σ:=rfl
theorem evE_cInt {i:Int}:evE gl cf (.cInt i) Γ σ = .ok (.int i) σ:=rfl
theorem evE_cStr {s:List Nat}:evE gl cf (.cStr s) Γ σ = .ok (.str s) σ:=rfl
theorem qfb {v:V}{i:Nat}(h:getV Γ i=some v):Γ[i]? = some v:=by
 have h:(match Γ[i]? with | some .undef=>none | o=>o)=some v:=h
 cases hq:Γ[i]? with
 | none=>rw [hq] at h;exact h
 | some x=>rw [hq] at h;cases x <;> first | exact h | cases h
theorem qht {i:Nat}(h:Γ[i]? = some .undef):getV Γ i=none:=by
 show (match Γ[i]? with | some .undef=>none | o=>o)=none
 rw [h]
theorem qhs {Γ':Fm}{i j:Nat}(h:Γ[i]? = Γ'[j]?):getV Γ i=getV Γ' j:=by
 show (match Γ[i]? with | some .undef=>none | o=>o)=_
 rw [h];rfl
theorem qhq {i:Nat}:freeze σ (.ref i)=(match σ[i]? with | some (.lst xs)=>some (V.lst xs,σ.set i .dead) | _=>none):=rfl
theorem qf2 {r:Nat}{i x:V}:vStore σ (.ref r) i x=(match σ[r]? with | some (.lst xs)=>stL σ r x xs i | some (.dictI ks)=>stI σ r ks i | some (.dictP ks)=>stP σ r ks i | _=>none):=rfl
theorem qa2 {i:Nat}:evE gl cf (.var i) Γ σ=Res.of (getV Γ i) σ:=rfl
theorem qbf {i:Nat}:evE gl cf (.glob i) Γ σ=Res.of gl[i]? σ:=rfl
theorem evEs_nil:evEs gl cf [] Γ σ = .ok [] σ:=rfl
theorem qbh:evO gl cf none Γ σ = .ok none σ:=rfl
theorem qnr:evT gl cf none Γ σ = .ok true σ:=rfl
theorem exB_nil0:exB gl cf [] Γ σ = .ok (.next,Γ) σ:=rfl
theorem qb7 {a b:Ex}:evE gl cf (.and a b) Γ σ=(evE gl cf a Γ σ).bind λv σ=>(Res.of (vTrue σ v) σ).bind λt σ=>if t then (evE gl cf b Γ σ).nox else .ok v σ:=rfl
theorem qc2 {a b:Ex}:evE gl cf (.or a b) Γ σ=(evE gl cf a Γ σ).bind λv σ=>(Res.of (vTrue σ v) σ).bind λt σ=>if t then .ok v σ else (evE gl cf b Γ σ).nox:=rfl
theorem qb9 {a:Ex}:evE gl cf (.not a) Γ σ=(evE gl cf a Γ σ).bind λv σ=>(Res.of (vTrue σ v) σ).bind λt σ=>.ok (.bool (!t)) σ:=rfl
theorem qb2 {a:Ex}:evE gl cf (.neg a) Γ σ=(evE gl cf a Γ σ).bind λv σ=>Res.of (vNeg v) σ:=rfl
theorem qbn {op:Bop}{l r:Ex}:evE gl cf (.bin op l r) Γ σ=(evE gl cf l Γ σ).bind λa σ=>(evE gl cf r Γ σ).bind λb σ=>Res.of (vBin σ op a b) σ:=rfl
theorem qb1 {op:Cop}{l r:Ex}:evE gl cf (.cmp op l r) Γ σ=(evE gl cf l Γ σ).bind λa σ=>(evE gl cf r Γ σ).bind λb σ=>(Res.of (vCmp σ op a b) σ).bind λt σ=>.ok (.bool t) σ:=rfl
theorem qbv {o1 o2:Cop}{a b c:Ex}:evE gl cf (.cmp2 o1 o2 a b c) Γ σ=(evE gl cf a Γ σ).bind λx σ=>(evE gl cf b Γ σ).bind λy σ=>(Res.of (vCmp σ o1 x y) σ).bind λt σ =>
   if t then (evE gl cf c Γ σ).bind λz σ=>(Res.of (vCmp σ o2 y z) σ).bind λu σ=>.ok (.bool u) σ else .ok (.bool false) σ:=rfl
theorem qbp {c a b:Ex}:evE gl cf (.ite c a b) Γ σ=(evE gl cf c Γ σ).bind (x:=true) λv σ=>(Res.of (vTrue σ v) σ).bind λt σ=>if t then evE gl cf a Γ σ else evE gl cf b Γ σ:=rfl
theorem qca {es:List Ex}:evE gl cf (.tup es) Γ σ=(evEs gl cf es Γ σ).bind λvs σ=>if vs.length≤roomy then .ok (.tup vs) σ else .bad:=rfl
theorem qb8 {m:Bool}{es:List Ex}:evE gl cf (.lst m es) Γ σ=(evEs gl cf es Γ σ).bind λvs σ=>putL m vs σ:=rfl
theorem qgt {m:Bool}{elt:Ex}{ik:IK}{a b:Ex}{cond:Option Ex}:evE gl cf (.comp m elt ik a b cond) Γ σ=(evE gl cf a Γ σ).bind λx σ=>(evE gl cf b Γ σ).bind λy σ=>(Res.of (vItems ik x y) σ).bind λitems σ =>
   (compGo (evT gl cf cond) (evE gl cf elt) Γ items [] σ).bind λvs σ=>putL m vs σ:=rfl
theorem qa3 {f:Nat}{args:List Ex}:evE gl cf (.call f args) Γ σ=(evEs gl cf args Γ σ).bind (x:=true) λvs σ=>cf f vs σ:=rfl
theorem qcl {b:Bi}{args:List Ex}:evE gl cf (.bi b args) Γ σ=(evEs gl cf args Γ σ).bind (x:=true) λvs σ=>Res.of (vBi σ b vs) σ:=rfl
theorem qrq {o x:Ex}:evE gl cf (.app o x) Γ σ=(evE gl cf o Γ σ).bind λov σ=>(Res.of (liveL σ ov) σ).bind λ_ σ=>(evE gl cf x Γ σ).bind λxv σ=>Res.st (vApp σ ov xv):=rfl
theorem qrs {o:Ex}:evE gl cf (.pop o) Γ σ=(evE gl cf o Γ σ).bind λov σ=>Res.vs (vPop σ ov):=rfl
theorem qbg {s l:Ex}:evE gl cf (.join s l) Γ σ=(evE gl cf s Γ σ).bind λsv σ=>(evE gl cf l Γ σ).bind λlv σ=>Res.of (vJoin σ sv lv) σ:=rfl
theorem qba {e i:Ex}:evE gl cf (.idx e i) Γ σ=(evE gl cf e Γ σ).bind λv σ=>(evE gl cf i Γ σ).bind λj σ=>Res.of (vIdx σ v j) σ:=rfl
theorem qa4 {e:Ex}{lo hi:Option Ex}:evE gl cf (.slice e lo hi) Γ σ=(evE gl cf e Γ σ).bind λv σ=>(evO gl cf lo Γ σ).bind λlo σ=>(evO gl cf hi Γ σ).bind λhi σ=>Res.of (vCut σ v lo hi) σ:=rfl
theorem qmg {e:Ex}:evE gl cf (.frz e) Γ σ=(evE gl cf e Γ σ).bind λv σ=>Res.vs (freeze σ v):=rfl
theorem qap {e:Ex}{r:List Ex}:evEs gl cf (e::r) Γ σ=(evE gl cf e Γ σ).bind (x:=true) λv σ=>(evEs gl cf r Γ σ).bind (x:=true) λvs σ=>.ok (v::vs) σ:=rfl
theorem qbj {e:Ex}:evO gl cf (some e) Γ σ=(evE gl cf e Γ σ).bind λx σ=>(Res.of (asInt x) σ).bind λi σ=>.ok (some i) σ:=rfl
theorem qjj {e:Ex}:evT gl cf (some e) Γ σ=(evE gl cf e Γ σ).bind λv σ=>Res.of (vTrue σ v) σ:=rfl
theorem qe7 {e:Ex}:exS gl cf (.expr e) Γ σ=(evE gl cf e Γ σ).bind (x:=true) λ_ σ=>.ok (.next,Γ) σ:=rfl
theorem qdv {e:Ex}:exS gl cf (.ret e) Γ σ=(evE gl cf e Γ σ).bind (x:=true) λv σ=>.ok (.ret v,Γ) σ:=rfl
theorem qdu {i:Nat}{e:Ex}:exS gl cf (.asg i e) Γ σ=(evE gl cf e Γ σ).bind (x:=true) λv σ=>.ok (.next,Γ.set i v) σ:=rfl
theorem qe9 {o i e:Ex}:exS gl cf (.sto o i e) Γ σ=(evE gl cf e Γ σ).bind λv σ=>(evE gl cf o Γ σ).bind λov σ=>(evE gl cf i Γ σ).bind λiv σ=>storeR Γ (vStore σ ov iv v):=rfl
theorem qe8 {c:Ex}{a b:List St}:exS gl cf (.ite c a b) Γ σ=(evE gl cf c Γ σ).bind λv σ=>(Res.of (vTrue σ v) σ).bind λt σ=>if t then exB gl cf a Γ σ else exB gl cf b Γ σ:=rfl
theorem qcr {c:Ex}{b:List St}:exS gl cf (.while c b) Γ σ=loopW (λΓ σ=>(evE gl cf c Γ σ).bind λv σ=>(Res.of (vTrue σ v) σ).bind λt σ =>
   if t then (exB gl cf b Γ σ).bind (x:=true) λp σ=>match p.1 with | .next=>.ok (none,p.2) σ | .ret v=>.ok (some (.ret v),p.2) σ
   else .ok (some .next,Γ) σ) Γ σ:=rfl
theorem qjk {i:Nat}{ik:IK}{a b:Ex}{body:List St}:exS gl cf (.for i ik a b body) Γ σ=(evE gl cf a Γ σ).bind λx σ=>(evE gl cf b Γ σ).bind λy σ=>(Res.of (vItems ik x y) σ).bind λitems σ =>
   forGo (exB gl cf body) i items Γ σ:=rfl
theorem qaz {s:St}{r:List St}:exB gl cf (s::r) Γ σ=(exS gl cf s Γ σ).bind (x:=true) λp σ=>match p.1 with | .next=>exB gl cf r p.2 σ | .ret v=>.ok (.ret v,p.2) σ:=rfl
theorem forGo_nil {body:Fm->Sg->Res (Fl×Fm)}{i:Nat}:forGo body i [] Γ σ = .ok (.next,Γ) σ:=rfl
theorem qc7 {body:Fm->Sg->Res (Fl×Fm)}{i:Nat}{x:V}{r:List V}:forGo body i (x::r) Γ σ=(body (Γ.set i x) σ).bind λp σ=>match p.1 with | .next=>forGo body i r p.2 σ | .ret v=>.ok (.ret v,p.2) σ:=rfl
theorem qfq {P:List Def}{d f:Nat}{args:List V}:callF gl P (d+1) f args σ=match P[f]? with | some D=>if args.length=D.np then (exB gl (callF gl P d) D.body (args++List.replicate (D.nl - D.np) .undef) σ).bind (x:=true) λp σ=>.ok (flV p.1) σ else .bad | none=>.bad:=rfl
theorem qdb {test:Fm->Sg->Res Bool}{elt:Fm->Sg->Res V}{x:V}{r acc:List V}:compGo test elt Γ (x::r) acc σ=(test (Γ++[x]) σ).bind λb σ =>
   if b then (elt (Γ++[x]) σ).bind λv σ=>compGo test elt Γ r (acc++[v]) σ else compGo test elt Γ r acc σ:=rfl
noncomputable def whTurn (gl:List V)(cf:CF)(c:Ex)(b:List St)(Γ:Fm)(σ:Sg):Res (Option Fl×Fm):=(evE gl cf c Γ σ).bind λv σ=>(Res.of (vTrue σ v) σ).bind λt σ =>
   if t then (exB gl cf b Γ σ).bind (x:=true) λp σ=>match p.1 with | .next=>.ok (none,p.2) σ | .ret v=>.ok (some (.ret v),p.2) σ
   else .ok (some .next,Γ) σ
theorem qhp {c:Ex}{b:List St}:exS gl cf (.while c b) Γ σ=loopW (whTurn gl cf c b) Γ σ:=rfl
inductive WhStep (gl:List V) (cf:CF) (c:Ex) (b:List St) (m:Nat) (Γ:Fm) (σ:Sg) (p:Fl×Fm) (σ':Sg):Prop
 | stop (v:V):evE gl cf c Γ σ = .ok v σ'->vTrue σ' v=some false->p=(.next,Γ)->WhStep gl cf c b m Γ σ p σ'
 | go (v:V) (σ₂:Sg) (q:Fm) (σ₃:Sg):evE gl cf c Γ σ = .ok v σ₂->vTrue σ₂ v=some true->exB gl cf b Γ σ₂ = .ok (.next,q) σ₃->loopN (whTurn gl cf c b) m q σ₃ = .ok p σ'->WhStep gl cf c b m Γ σ p σ'
 | ret (v:V) (σ₂:Sg):evE gl cf c Γ σ = .ok v σ₂->vTrue σ₂ v=some true->exB gl cf b Γ σ₂ = .ok p σ'->(∃ u,p.1 = .ret u)->WhStep gl cf c b m Γ σ p σ'
theorem whStep {c:Ex}{b:List St}{m:Nat}{p:Fl×Fm}{σ':Sg}(h:loopN (whTurn gl cf c b) (m+1) Γ σ = .ok p σ'):WhStep gl cf c b m Γ σ p σ':=by
 replace h:((whTurn gl cf c b Γ σ).bind (x:=true) λp σ=>match p.1 with | none=>loopN (whTurn gl cf c b) m p.2 σ | some f=>.ok (f,p.2) σ) = .ok p σ':=h
 obtain ⟨q,σ₁,h1,h⟩:=qbm h
 obtain ⟨v,σ₂,h2,h1⟩:=qbm h1
 obtain ⟨t,h3,h1⟩:=qfp h1
 cases t with
 | false=>cases h1;cases h;exact .stop v h2 h3 rfl
 | true =>
  rw [if_pos rfl] at h1
  obtain ⟨q',σ₃,h4,h1⟩:=qbm h1
  obtain ⟨f,qΓ⟩:=q'
  cases f with
  | next=>cases h1;exact .go v σ₂ qΓ _ h2 h3 h4 h
  | ret u=>cases h1;cases h;exact .ret v σ₂ h2 h3 h4 ⟨u,rfl⟩
end
end Mine.Internal
namespace Mine.Internal
open PySem PyProof.Rows
structure Bs where
 prog:Program
 w:World
 hb:Heap
 xc:Nat->Option Addr
 av:Addr->Prop
 fl:List Env
noncomputable def Bs.fad (B:Bs):List Addr:=B.fl.filterMap (·.frame)
noncomputable def PTup (h:Heap)(a:Addr)(items:Array Value):Prop:=∃ n,h.get? a=some { cls:=.type "tuple",data:=.seq items n }
theorem PTup.isTup {h:Heap}{a:Addr}{items:Array Value}(T:PTup h a items):IsTup h a items:=let ⟨n,e⟩:=T;⟨_,e,rfl,n,rfl⟩
noncomputable def live (σ:Sg)(φ:List Addr)(a:Addr):Prop:=∃ (i:Nat) (c:Cell),σ[i]? = some c∧c≠.dead∧φ[i]? = some a
mutual
noncomputable def VR (B:Bs)(σ:Sg)(φ:List Addr)(h:Heap):V->Value->Prop
 | .undef,_=>False
 | .none,v=>v = .none
 | .bool b,v=>v = .bool b
 | .int i,v=>∃ t,v = .int i t
 | .str s,v=>∃ t,v = .str ⟨s.toArray⟩ t∧s.length≤roomy
 | .tup xs,v=>∃ a vs,v = .ref a∧PTup h a (List.toArray vs)∧VRs B σ φ h xs vs∧xs.length≤roomy
 | .lst xs,v=>∃ a vs,v = .ref a∧h.PlainList a (List.toArray vs)∧(¬ live σ φ a∧¬ B.av a)∧VRs B σ φ h xs vs∧xs.length≤roomy
 | .ref i,v=>∃ a,v = .ref a∧φ[i]? = some a
 | .exc _,_=>False
noncomputable def VRs (B:Bs)(σ:Sg)(φ:List Addr)(h:Heap):List V->List Value->Prop
 | [],vs=>vs=[]
 | x::xs,vs=>∃ v ws,vs=v::ws∧VR B σ φ h x v∧VRs B σ φ h xs ws
end
section
variable {B:Bs} {σ:Sg} {φ:List Addr} {h:Heap}
theorem VR.none:VR B σ φ h .none .none:=rfl
theorem VR.bool (b:Bool):VR B σ φ h (.bool b) (.bool b):=rfl
theorem VR.int (i:Int)(t:Tok):VR B σ φ h (.int i) (.int i t):=⟨t,rfl⟩
theorem VR.str (s:List Nat)(t:Tok)(hs:s.length≤roomy):VR B σ φ h (.str s) (.str ⟨s.toArray⟩ t):=⟨t,rfl,hs⟩
theorem VR.tup {a:Addr}{vs:List Value}{xs:List V}(h1:PTup h a vs.toArray)(h2:VRs B σ φ h xs vs)(h3:xs.length≤roomy):VR B σ φ h (.tup xs) (.ref a):=⟨a,vs,rfl,h1,h2,h3⟩
theorem VR.lst {a:Addr}{vs:List Value}{xs:List V}(h1:h.PlainList a vs.toArray)(h0:¬ live σ φ a∧¬ B.av a)(h2:VRs B σ φ h xs vs)(h3:xs.length≤roomy):VR B σ φ h (.lst xs) (.ref a):=⟨a,vs,rfl,h1,h0,h2,h3⟩
theorem VR.ref {i:Nat}{a:Addr}(e:φ[i]? = some a):VR B σ φ h (.ref i) (.ref a):=⟨a,rfl,e⟩
theorem VRs.nil:VRs B σ φ h [] []:=rfl
theorem VRs.cons {v:Value}{x:V}{vs:List Value}{xs:List V}(h1:VR B σ φ h x v)(h2:VRs B σ φ h xs vs):VRs B σ φ h (x::xs) (v::vs):=⟨v,vs,rfl,h1,h2⟩
section
variable {cv:Value} {z:Value->Prop}
theorem inInt {i:Int}(r:VR B σ φ h (.int i) cv)(k:∀ t,z (.int i t)):z cv:=let ⟨t,e⟩:=r;e ▸ k t
theorem inBool {b:Bool}(r:VR B σ φ h (.bool b) cv)(k:z (.bool b)):z cv:=(show cv = .bool b from r) ▸ k
theorem inNone (r:VR B σ φ h .none cv)(k:z .none):z cv:=(show cv = .none from r) ▸ k
theorem inText {x:List Nat}(r:VR B σ φ h (.str x) cv)(k:∀ t,x.length≤roomy->z (.str ⟨x.toArray⟩ t)):z cv:=let ⟨t,e,hx⟩:=r;e ▸ k t hx
theorem inRef {i:Nat}(r:VR B σ φ h (.ref i) cv)(k:∀ a,φ[i]? = some a->z (.ref a)):z cv:=let ⟨a,e,hx⟩:=r;e ▸ k a hx
theorem inTup {xs:List V}(r:VR B σ φ h (.tup xs) cv)(k:∀ a vs,PTup h a (List.toArray vs)->VRs B σ φ h xs vs->xs.length≤roomy->z (.ref a)):z cv:=let ⟨a,vs,e,h1,h2,h3⟩:=r;e ▸ k a vs h1 h2 h3
theorem inLst {xs:List V}(r:VR B σ φ h (.lst xs) cv)(k:∀ a vs,h.PlainList a (List.toArray vs)->(¬ live σ φ a∧¬ B.av a)->VRs B σ φ h xs vs->xs.length≤roomy->z (.ref a)):z cv:=let ⟨a,vs,e,h1,h0,h2,h3⟩:=r;e ▸ k a vs h1 h0 h2 h3
theorem inNil {vs:List Value}{z:List Value->Prop}(r:VRs B σ φ h [] vs)(k:z []):z vs:=(show vs=[] from r) ▸ k
theorem inCons {x:V}{xs:List V}{vs:List Value}{z:List Value->Prop}(r:VRs B σ φ h (x::xs) vs)(k:∀ v ws,VR B σ φ h x v->VRs B σ φ h xs ws->z (v::ws)):z vs:=let ⟨v,ws,e,h1,h2⟩:=r;e ▸ k v ws h1 h2
theorem qah {α:Type}{a:α}{p:Prop}(h:(Option.none:Option α)=some a):p:=by cases h
end
end
noncomputable def DictI (B:Bs)(h:Heap)(a:Addr)(ks:List Int):Prop:=∃ kvs,h.DictOf (intKind B.prog B.w) a kvs∧kvs.map (·.1)=ks
noncomputable def DictP (B:Bs)(h:Heap)(a:Addr)(ks:List (List Int)):Prop:=∃ kvs,h.DictOfH (tupleKind (intKind B.prog B.w)) a kvs∧kvs.map (·.1)=ks
structure SR (B:Bs) (σ:Sg) (φ:List Addr) (h:Heap):Prop where
 len:φ.length=σ.length
 inj:φ.Nodup
 ex:∀ a∈φ,∃ o,h.get? a=some o
 lst:∀ (i:Nat) xs,σ[i]? = some (.lst xs)->∃ a vs,φ[i]? = some a∧h.PlainList a (List.toArray vs)∧VRs B σ φ h xs vs∧xs.length≤roomy
 dictI:∀ (i:Nat) ks,σ[i]? = some (.dictI ks)->∃ a,φ[i]? = some a∧DictI B h a ks∧ks.length≤roomy
 dictP:∀ (i:Nat) ks,σ[i]? = some (.dictP ks)->∃ a,φ[i]? = some a∧DictP B h a ks∧ks.length≤roomy
 main:∃ o,h.get? mainGlobals=some o
 sys:∀ a∈φ,(a == sysModules)=false
 based:∀ b o,B.hb.get? b=some o->h.get? b=some o
 new:∀ a∈φ,B.hb.get? a=none
 avx:∀ b,B.av b->∃ o,h.get? b=some o
 avn:∀ a,live σ φ a->¬ B.av a
 fo:∀ L∈B.fad,(∃ o es n,h.get? L=some o∧o.data = .dict es n)∧¬ live σ φ L∧B.hb.get? L=none
noncomputable def Up (h:Heap)(b:Addr)(o:Obj):Prop:=h.get? b=some o∨((∃ es n,o.data = .dict es n)∧∃ sl,h.get? b=some { o with slots:=sl })
theorem Up.ex {h:Heap}{b:Addr}{o:Obj}(u:Up h b o):∃ o',h.get? b=some o':=u.elim (λe=>⟨_,e⟩) λ⟨_,_,e⟩=>⟨_,e⟩
theorem Up.at {h:Heap}{b:Addr}{o:Obj}(u:Up h b o)(n:∀ es m,o.data≠.dict es m):h.get? b=some o:=u.elim id λ⟨⟨_,_,e⟩,_⟩=>(n _ _ e).elim
theorem Up.trans {h h':Heap}{b:Addr}{o:Obj}(u:Up h b o)(k:∀ o',h.get? b=some o'->Up h' b o'):Up h' b o :=
 u.elim (k o) λ⟨d,_,e⟩=>(k _ e).elim (λe=>.inr ⟨d,_,e⟩) λ⟨_,_,e⟩=>.inr ⟨d,_,e⟩
theorem Up.ns {h h':Heap}{b:Addr}{m:Str->Option Value}(hn:h.Ns b m)(k:∀ o,h.get? b=some o->Up h' b o):h'.Ns b m :=
 let ⟨o,es,ep,ho,hd,r⟩:=hn
 (k o ho).elim (λe=>⟨o,es,ep,e,hd,r⟩) λ⟨_,_,e⟩=>⟨_,es,ep,e,hd,r⟩
structure Stp (W:Addr->Prop) (σ:Sg) (φ:List Addr) (h:Heap) (σ':Sg) (φ':List Addr) (h':Heap):Prop where
 pre:∀ (i:Nat) (a:Addr),φ[i]? = some a->φ'[i]? = some a
 new:∀ (i:Nat) (a:Addr),φ.length≤i->φ'[i]? = some a->h.get? a=none
 dead:∀ (i:Nat),σ[i]? = some .dead->σ'[i]? = some .dead
 keep:∀ b o,h.get? b=some o->¬ live σ φ b->¬ W b->Up h' b o
 ex:∀ b o,h.get? b=some o->∃ o',h'.get? b=some o'
structure Stq (W:Addr->Prop) (σ:Sg) (φ:List Addr) (h:Heap) (σ':Sg) (φ':List Addr) (h':Heap):Prop where
 pre:∀ (i:Nat) (a:Addr),φ[i]? = some a->φ'[i]? = some a
 new:∀ (i:Nat) (a:Addr),φ.length≤i->φ'[i]? = some a->h.get? a=none
 dead:∀ (i:Nat),σ[i]? = some .dead->σ'[i]? = some .dead
 keep:∀ b o,h.get? b=some o->¬ live σ φ b->¬ W b->Up h' b o
theorem Stp.q {W:Addr->Prop}{σ σ':Sg}{φ φ':List Addr}{h h':Heap}(S:Stp W σ φ h σ' φ' h'):Stq W σ φ h σ' φ' h':=⟨S.pre,S.new,S.dead,S.keep⟩
theorem Stp.refl {W:Addr->Prop}{σ:Sg}{φ:List Addr}{h:Heap}:Stp W σ φ h σ φ h :=
 ⟨λ_ _ e=>e,λi a hi e=>(by rw [List.getElem?_eq_none hi] at e;cases e),λ_ e=>e,λ_ _ e _ _=>.inl e,λ_ o e=>⟨o,e⟩⟩
section
variable {B:Bs} {W W':Addr->Prop} {σ σ₁ σ₂:Sg} {φ φ₁ φ₂:List Addr} {h h₁ h₂:Heap}
theorem Stp.weaken (S:Stp W σ φ h σ₁ φ₁ h₁)(hw:∀ b,W b->W' b):Stp W' σ φ h σ₁ φ₁ h₁ :=
 ⟨S.pre,S.new,S.dead,λb o e hl hW=>S.keep b o e hl λx=>hW (hw b x),S.ex⟩
theorem live.lt {a:Addr}(L:live σ φ a):∃ i:Nat,φ[i]? = some a:=let ⟨i,_,_,_,e⟩:=L;⟨i,e⟩
theorem live.mem {a:Addr}(L:live σ φ a):a∈φ:=let ⟨_,e⟩:=L.lt;List.mem_of_getElem? e
theorem Stq.live (S:Stq W σ φ h σ₁ φ₁ h₁)(hlen:φ.length=σ.length){a:Addr}(L:live σ₁ φ₁ a):Mine.Internal.live σ φ a∨h.get? a=none:=by
 refine x2_3 (L) λi c e1 e2 e3=>?_
 by_cases hi:i<φ.length
 ·left
  have hs:i<σ.length:=hlen ▸ hi
  have e4:=S.pre i φ[i] (List.getElem?_eq_getElem hi)
  rw [e3] at e4
  refine ⟨i,σ[i],List.getElem?_eq_getElem hs,λhd=>e2 ?_,by rw [List.getElem?_eq_getElem hi,Option.some.inj e4]⟩
  have:=S.dead i (by rw [List.getElem?_eq_getElem hs,hd])
  rw [e1] at this;exact Option.some.inj this
 ·exact .inr (S.new i a (Nat.le_of_not_lt hi) e3)
theorem Stp.live (S:Stp W σ φ h σ₁ φ₁ h₁)(hlen:φ.length=σ.length){a:Addr}(L:live σ₁ φ₁ a):Mine.Internal.live σ φ a∨h.get? a=none:=S.q.live hlen L
theorem Stp.trans (S:Stp W σ φ h σ₁ φ₁ h₁)(S':Stp W σ₁ φ₁ h₁ σ₂ φ₂ h₂)(hlen:φ.length=σ.length):Stp W σ φ h σ₂ φ₂ h₂:=by
 refine ⟨λi a e=>S'.pre i a (S.pre i a e),λi a hi e=>?_,λi e=>S'.dead i (S.dead i e),λb o e hl hW=>?_,λb o e=>?_⟩
 ·by_cases h1:i<φ₁.length
  ·have e4:=S'.pre i φ₁[i] (List.getElem?_eq_getElem h1)
   rw [e] at e4
   exact S.new i a hi (by rw [List.getElem?_eq_getElem h1,Option.some.inj e4])
  ·have:=S'.new i a (Nat.le_of_not_lt h1) e
   cases hq:h.get? a with
   | none=>rfl
   | some o=>obtain ⟨o',q⟩:=S.ex a o hq;rw [this] at q;cases q
 ·refine (S.keep b o e hl hW).trans λo' e'=>S'.keep b o' e' (λL=>?_) hW
  rcases S.live hlen L with x | x
  ·exact hl x
  ·rw [e] at x;cases x
 ·obtain ⟨o',e'⟩:=S.ex b o e
  exact S'.ex b o' e'
noncomputable def Apart (B:Bs)(W:Addr->Prop)(h:Heap):Prop:=∀ b,W b->∀ o,h.get? b=some o->(B.av b∧o.cls = .type "list")∨∀ xs n,o.data≠.seq xs n
theorem Apart.none {B:Bs}{h:Heap}:Apart B (λ_=>False) h:=λ_ x=>x.elim
theorem SR.liveObj (R:SR B σ φ h){a:Addr}(L:live σ φ a):∃ o,h.get? a=some o∧((o.cls = .type "list"∧∃ xs n,o.data = .seq xs n)∨(o.cls = .type "dict"∧∃ es n,o.data = .dict es n)):=by
 refine x2_3 (L) λi c e1 e2 e3=>?_
 cases c with
 | lst xs =>
  obtain ⟨a',vs,e4,⟨n,ho⟩,_⟩:=R.lst i xs e1
  rw [e3] at e4;cases e4
  exact ⟨_,ho,.inl ⟨rfl,_,n,rfl⟩⟩
 | dictI ks =>
  obtain ⟨a',e4,⟨_,⟨o,es,n,ho,hc,hd,_⟩,_⟩,_⟩:=R.dictI i ks e1
  rw [e3] at e4;cases e4
  exact ⟨o,ho,.inr ⟨hc.1,_,n,hd⟩⟩
 | dictP ks =>
  obtain ⟨a',e4,⟨_,⟨o,es,n,ho,hc,hd,_⟩,_⟩,_⟩:=R.dictP i ks e1
  rw [e3] at e4;cases e4
  exact ⟨o,ho,.inr ⟨hc.1,_,n,hd⟩⟩
 | dead=>exact (e2 rfl).elim
theorem SR.notlive_tup (R:SR B σ φ h){a:Addr}{items:Array Value}(T:PTup h a items):¬ live σ φ a:=λL=>by
 obtain ⟨n,ho⟩:=T
 refine x1_2 (R.liveObj L) λo' ho' x=>?_
 rw [ho] at ho';cases ho'
 rcases x with ⟨x,_⟩ | ⟨x,_⟩
 ·exact absurd (show Value.type "tuple" = Value.type "list" from x) (by decide)
 ·exact absurd (show Value.type "tuple" = Value.type "dict" from x) (by decide)
theorem quj (R:SR B σ φ h)(S:Stq W σ φ h σ₁ φ₁ h₁)(hw:Apart B W h){a:Addr}{items:Array Value}(T:PTup h a items):PTup h₁ a items:=by
 have nl:=R.notlive_tup T
 obtain ⟨n,ho⟩:=T
 exact ⟨n,(S.keep a _ ho nl λx=>(hw a x _ ho).elim (λy=>absurd (show Value.type "tuple" = Value.type "list" from y.2) (by decide)) λy=>y _ _ rfl).at λ_ _ x=>by cases x⟩
theorem quh (R:SR B σ φ h)(S:Stq W σ φ h σ₁ φ₁ h₁)(hw:Apart B W h){a:Addr}{items:Array Value}(T:h.PlainList a items)(nl:¬ live σ φ a∧¬ B.av a):h₁.PlainList a items∧(¬ live σ₁ φ₁ a∧¬ B.av a):=by
 obtain ⟨n,ho⟩:=T
 refine ⟨⟨n,(S.keep a _ ho nl.1 λx=>(hw a x _ ho).elim (λy=>nl.2 y.1) λy=>y _ _ rfl).at λ_ _ x=>by cases x⟩,λL=>?_,nl.2⟩
 rcases S.live R.len L with x | x
 ·exact nl.1 x
 ·rw [ho] at x;cases x
structure Carry (B B':Bs) (σ σ':Sg) (φ φ':List Addr) (h h':Heap):Prop where
 t:∀ a it,PTup h a it->PTup h' a it
 l:∀ a it,h.PlainList a it->(¬ live σ φ a∧¬ B.av a)->h'.PlainList a it∧(¬ live σ' φ' a∧¬ B'.av a)
 r:∀ (i:Nat) a,φ[i]? = some a->φ'[i]? = some a
mutual
theorem Carry.v {B B':Bs}{σ σ':Sg}{φ φ':List Addr}{h h':Heap}(K:Carry B B' σ σ' φ φ' h h'):∀ (x:V) {v:Value},VR B σ φ h x v->VR B' σ' φ' h' x v
 | .undef,_,r=>r
 | .none,_,r=>r
 | .bool _,_,r=>r
 | .int _,_,r=>r
 | .str _,_,r=>r
 | .tup xs,_,⟨a,vs,e,h1,h2,h3⟩=>⟨a,vs,e,K.t _ _ h1,K.vs xs h2,h3⟩
 | .lst xs,_,⟨a,vs,e,h1,h0,h2,h3⟩=>⟨a,vs,e,(K.l _ _ h1 h0).1,(K.l _ _ h1 h0).2,K.vs xs h2,h3⟩
 | .ref _,_,⟨a,e,h1⟩=>⟨a,e,K.r _ _ h1⟩
 | .exc _,_,r=>r
theorem Carry.vs {B B':Bs}{σ σ':Sg}{φ φ':List Addr}{h h':Heap}(K:Carry B B' σ σ' φ φ' h h'):∀ (xs:List V) {vs:List Value},VRs B σ φ h xs vs->VRs B' σ' φ' h' xs vs
 | [],_,r=>r
 | x::xs,_,⟨v,ws,e,h1,h2⟩=>⟨v,ws,e,K.v x h1,K.vs xs h2⟩
end
theorem Carry.of (R:SR B σ φ h)(S:Stq W σ φ h σ₁ φ₁ h₁)(hw:Apart B W h):Carry B B σ σ₁ φ φ₁ h h₁ :=
 ⟨λ_ _=>quj R S hw,λ_ _=>quh R S hw,S.pre⟩
theorem VR.monoq {x:V}{v:Value}(r:VR B σ φ h x v)(R:SR B σ φ h)(S:Stq W σ φ h σ₁ φ₁ h₁)(hw:Apart B W h):VR B σ₁ φ₁ h₁ x v:=(Carry.of R S hw).v x r
theorem VRs.monoq {xs:List V}{vs:List Value}(r:VRs B σ φ h xs vs)(R:SR B σ φ h)(S:Stq W σ φ h σ₁ φ₁ h₁)(hw:Apart B W h):VRs B σ₁ φ₁ h₁ xs vs:=(Carry.of R S hw).vs xs r
theorem VR.mono (R:SR B σ φ h)(S:Stp W σ φ h σ₁ φ₁ h₁)(hw:Apart B W h){x:V}{v:Value}(r:VR B σ φ h x v):VR B σ₁ φ₁ h₁ x v:=r.monoq R S.q hw
theorem VRs.mono (R:SR B σ φ h)(S:Stp W σ φ h σ₁ φ₁ h₁)(hw:Apart B W h){xs:List V}{vs:List Value}(r:VRs B σ φ h xs vs):VRs B σ₁ φ₁ h₁ xs vs:=r.monoq R S.q hw
theorem SR.notlive_tupC (R:SR B σ φ h){a:Addr}{o:Obj}(ho:h.get? a=some o)(hc:o.cls = .type "tuple"):¬ live σ φ a:=λL=>by
 refine x1_2 (R.liveObj L) λo' ho' x=>?_
 rw [ho] at ho';cases ho'
 rw [hc] at x
 rcases x with ⟨x,_⟩ | ⟨x,_⟩
 ·exact absurd x (by decide)
 ·exact absurd x (by decide)
theorem DictI.mono {a:Addr}{ks:List Int}(D:DictI B h a ks)(he:∀ o,h.get? a=some o->h₁.get? a=some o):DictI B h₁ a ks:=by
 refine x1_2 (D) λkvs D e=>?_
 exact ⟨kvs,D.at he,e⟩
theorem DictP.monoq {a:Addr}{ks:List (List Int)}(R:SR B σ φ h)(S:Stq W σ φ h σ₁ φ₁ h₁)(hw:Apart B W h)(D:DictP B h a ks)(he:∀ o,h.get? a=some o->h₁.get? a=some o):DictP B h₁ a ks:=by
 obtain ⟨kvs,⟨o,es,ep,ho,hx,hd,hes,his,hn⟩,e⟩:=D
 refine ⟨kvs,⟨o,es,ep,he o ho,hx,hd,hes,λx hx=>?_,hn⟩,e⟩
 refine x3_4 (his x hx) λo' items n h1 h2 h3 h4=>?_
 exact ⟨o',items,n,(S.keep _ o' h1 (R.notlive_tupC h1 h2) (λy=>(hw _ y o' h1).elim (λz=>absurd (h2.symm.trans z.2) (by decide)) λz=>z _ _ h3)).at (λ_ _ x=>by rw [h3] at x;cases x),h2,h3,h4⟩
theorem DictP.mono {a:Addr}{ks:List (List Int)}(R:SR B σ φ h)(S:Stp W σ φ h σ₁ φ₁ h₁)(hw:Apart B W h)(D:DictP B h a ks)(he:∀ o,h.get? a=some o->h₁.get? a=some o):DictP B h₁ a ks:=D.monoq R S.q hw he
theorem VRs.length {xs:List V}{vs:List Value}(r:VRs B σ φ h xs vs):vs.length=xs.length:=by
 induction xs generalizing vs with
 | nil=>exact inNil (z:=λvs=>vs.length=0) r rfl
 | cons x xs ih=>exact inCons (z:=λvs=>vs.length=xs.length+1) r λv ws _ r=>congrArg (· + 1) (ih r)
theorem VRs.append {xs ys:List V}{vs ws:List Value}(r:VRs B σ φ h xs vs)(q:VRs B σ φ h ys ws):VRs B σ φ h (xs++ys) (vs++ws):=by
 induction xs generalizing vs with
 | nil=>exact inNil (z:=λvs=>VRs B σ φ h ys (vs++ws)) r q
 | cons x xs ih=>exact inCons (z:=λvs=>VRs B σ φ h (x::(xs++ys)) (vs++ws)) r λv us a r=>.cons a (ih r)
theorem VRs.get {xs:List V}{vs:List Value}(r:VRs B σ φ h xs vs){k:Nat}{x:V}(e:xs[k]? = some x):∃ v,vs[k]? = some v∧VR B σ φ h x v:=by
 induction xs generalizing vs k with
 | nil=>exact qah e
 | cons y xs ih=>exact inCons (z:=λvs=>∃ v,vs[k]? = some v∧VR B σ φ h x v) r λv us a r=>(match k,e with
   | 0,e=>⟨v,rfl,Option.some.inj e ▸ a⟩
   | k+1,e=>ih r e)
theorem VRs.take {xs:List V}{vs:List Value}(r:VRs B σ φ h xs vs)(n:Nat):VRs B σ φ h (xs.take n) (vs.take n):=by
 induction n generalizing xs vs with
 | zero=>exact .nil
 | succ n ih=>cases xs with
  | nil=>exact inNil (z:=λvs=>VRs B σ φ h [] (vs.take (n+1))) r .nil
  | cons x xs=>exact inCons (z:=λvs=>VRs B σ φ h (x::xs.take n) (vs.take (n+1))) r λv us a r=>.cons a (ih r)
theorem VRs.drop {xs:List V}{vs:List Value}(r:VRs B σ φ h xs vs)(n:Nat):VRs B σ φ h (xs.drop n) (vs.drop n):=by
 induction n generalizing xs vs with
 | zero=>exact r
 | succ n ih=>cases xs with
  | nil=>exact inNil (z:=λvs=>VRs B σ φ h [] (vs.drop (n+1))) r .nil
  | cons x xs=>exact inCons (z:=λvs=>VRs B σ φ h (xs.drop n) (vs.drop (n+1))) r λv us a r=>ih r
theorem VRs.reverse {xs:List V}{vs:List Value}(r:VRs B σ φ h xs vs):VRs B σ φ h xs.reverse vs.reverse:=by
 induction xs generalizing vs with
 | nil=>exact inNil (z:=λvs=>VRs B σ φ h [] vs.reverse) r .nil
 | cons x xs ih=>exact inCons (z:=λvs=>VRs B σ φ h (x::xs).reverse vs.reverse) r λv us a r=>(by rw [List.reverse_cons,List.reverse_cons];exact (ih r).append (.cons a .nil))
theorem VRs.set {xs:List V}{vs:List Value}(r:VRs B σ φ h xs vs){x:V}{v:Value}(a:VR B σ φ h x v)(k:Nat):VRs B σ φ h (xs.set k x) (vs.set k v):=by
 induction k generalizing xs vs with
 | zero=>cases xs with
  | nil=>exact inNil (z:=λvs=>VRs B σ φ h [] (vs.set 0 v)) r .nil
  | cons y xs=>exact inCons (z:=λvs=>VRs B σ φ h (x::xs) (vs.set 0 v)) r λ_ us _ r=>.cons a r
 | succ k ih=>cases xs with
  | nil=>exact inNil (z:=λvs=>VRs B σ φ h [] (vs.set (k+1) v)) r .nil
  | cons y xs=>exact inCons (z:=λvs=>VRs B σ φ h (y::xs.set k x) (vs.set (k+1) v)) r λu us b r=>.cons b (ih r)
end
end Mine.Internal
namespace Mine.Internal
open PySem PyProof.Rows
abbrev W0:Addr->Prop:=λ_=>False
section
variable {B:Bs} {W:Addr->Prop} {σ σ₁ σ₂:Sg} {φ φ₁ φ₂:List Addr} {h h₁ h₂:Heap}
theorem Stp.grow (hk:∀ b o,h.get? b=some o->h₁.get? b=some o):Stp W σ φ h σ φ h₁ :=
 ⟨λ_ _ e=>e,λi a hi e=>(by rw [List.getElem?_eq_none hi] at e;cases e),λ_ e=>e,λb o e _ _=>.inl (hk b o e),λb o e=>⟨o,hk b o e⟩⟩
theorem SR.carry (R:SR B σ φ h)(S:Stp W σ φ h σ φ h₁)(hw:Apart B W h)(hl:∀ a o,live σ φ a->h.get? a=some o->h₁.get? a=some o)(hb:∀ b o,B.hb.get? b=some o->h.get? b=some o->h₁.get? b=some o)(hf:∀ L∈B.fad,W L->∃ o es n,h₁.get? L=some o∧o.data = .dict es n):SR B σ φ h₁:=by
 refine ⟨R.len,R.inj,λa ha=>?_,λi xs e=>?_,λi ks e=>?_,λi ks e=>?_,(let ⟨o,ho⟩:=R.main;S.ex _ o ho),R.sys,λb o e=>?_,R.new,(λb hb=>let ⟨o,ho⟩:=R.avx b hb;S.ex b o ho),R.avn,λL hL=>?_⟩
 ·obtain ⟨o,ho⟩:=R.ex a ha;exact S.ex a o ho
 ·obtain ⟨a,vs,e1,⟨n,ho⟩,e3,e4⟩:=R.lst i xs e
  exact ⟨a,vs,e1,⟨n,hl a _ ⟨i,_,e,(by intro x;cases x),e1⟩ ho⟩,e3.mono R S hw,e4⟩
 ·refine x1_3 (R.dictI i ks e) λa e1 D hr=>?_
  exact ⟨a,e1,D.mono λo ho=>hl a o ⟨i,_,e,(by intro x;cases x),e1⟩ ho,hr⟩
 ·refine x1_3 (R.dictP i ks e) λa e1 D hr=>?_
  exact ⟨a,e1,D.mono R S hw λo ho=>hl a o ⟨i,_,e,(by intro x;cases x),e1⟩ ho,hr⟩
 ·exact hb b o e (R.based b o e)
 ·obtain ⟨⟨o,es,n,e,hd⟩,nl,hb⟩:=R.fo L hL
  refine ⟨?_,nl,hb⟩
  by_cases w:W L
  ·exact hf L hL w
  ·rcases S.keep L o e nl w with e' | ⟨_,_,e'⟩
   ·exact ⟨o,es,n,e',hd⟩
   ·exact ⟨_,es,n,e',hd⟩
theorem Stq.one {b0:Addr}(hk:∀ b o,b≠b0->h.get? b=some o->h₁.get? b=some o):Stq (· = b0) σ φ h σ φ h₁ :=
 ⟨λ_ _ e=>e,λi a hi e=>(by rw [List.getElem?_eq_none hi] at e;cases e),λ_ e=>e,λb o e _ hW=>.inl (hk b o hW e)⟩
theorem SR.lose {b0:Addr}(R:SR B σ φ h)(hb0:B.hb.get? b0=none∧b0∉B.fad)(ha:Apart B (· = b0) h)(nl:b0∉φ)(hm:b0≠mainGlobals)(hv:¬ B.av b0)(hk:∀ b o,b≠b0->h.get? b=some o->h₁.get? b=some o):SR B σ φ h₁:=by
 have S:Stq (· = b0) σ φ h σ φ h₁:=Stq.one hk
 have hl:∀ a o,live σ φ a->h.get? a=some o->h₁.get? a=some o:=λa o L e=>hk a o (λq=>nl (q ▸ L.mem)) e
 refine ⟨R.len,R.inj,λa ha=>?_,λi xs e=>?_,λi ks e=>?_,λi ks e=>?_,(let ⟨o,ho⟩:=R.main;⟨o,hk _ o (Ne.symm hm) ho⟩),R.sys,λb o e=>?_,R.new,(λb hb=>let ⟨o,ho⟩:=R.avx b hb;⟨o,hk b o (λq=>hv (q ▸ hb)) ho⟩),R.avn,λL hL=>?_⟩
 ·obtain ⟨o,ho⟩:=R.ex a ha;exact ⟨o,hk a o (λq=>nl (q ▸ ha)) ho⟩
 ·obtain ⟨a,vs,e1,⟨n,ho⟩,e3,e4⟩:=R.lst i xs e
  exact ⟨a,vs,e1,⟨n,hl a _ ⟨i,_,e,(by intro x;cases x),e1⟩ ho⟩,e3.monoq R S ha,e4⟩
 ·refine x1_3 (R.dictI i ks e) λa e1 D hr=>?_
  exact ⟨a,e1,D.mono λo ho=>hl a o ⟨i,_,e,(by intro x;cases x),e1⟩ ho,hr⟩
 ·refine x1_3 (R.dictP i ks e) λa e1 D hr=>?_
  exact ⟨a,e1,D.monoq R S ha λo ho=>hl a o ⟨i,_,e,(by intro x;cases x),e1⟩ ho,hr⟩
 ·exact hk b o (λq=>by rw [q,hb0.1] at e;cases e) (R.based b o e)
 ·obtain ⟨⟨o,es,n,e,hd⟩,r⟩:=R.fo L hL
  exact ⟨⟨o,es,n,hk L o (λq=>hb0.2 (q ▸ hL)) e,hd⟩,r⟩
theorem SR.grow (R:SR B σ φ h)(hk:∀ b o,h.get? b=some o->h₁.get? b=some o):SR B σ φ h₁ :=
 R.carry (W:=W0) (Stp.grow hk) Apart.none (λa o _ e=>hk a o e) (λb o _ e=>hk b o e) λ_ _ x=>x.elim
theorem VR.grow {x:V}{v:Value}(R:SR B σ φ h)(hk:∀ b o,h.get? b=some o->h₁.get? b=some o)(r:VR B σ φ h x v):VR B σ φ h₁ x v:=r.mono (W:=W0) R (Stp.grow hk) Apart.none
theorem VRs.grow {x:List V}{v:List Value}(R:SR B σ φ h)(hk:∀ b o,h.get? b=some o->h₁.get? b=some o)(r:VRs B σ φ h x v):VRs B σ φ h₁ x v:=r.mono (W:=W0) R (Stp.grow hk) Apart.none
theorem getElem?_snoc_lt {α:Type}{xs:List α}{i:Nat}{a y:α}(e:xs[i]? = some a):(xs++[y])[i]? = some a:=by
 have hi:i<xs.length:=(List.getElem?_eq_some_iff.mp e).1
 rw [List.getElem?_append_left hi];exact e
theorem getElem?_snoc {α:Type}{xs:List α}{i:Nat}{a y:α}(e:(xs++[y])[i]? = some a):xs[i]? = some a∨(i=xs.length∧a=y):=by
 rcases Nat.lt_trichotomy i xs.length with hi | hi | hi
 ·rw [List.getElem?_append_left hi] at e;exact .inl e
 ·subst hi;simp at e;exact .inr ⟨rfl,e.symm⟩
 ·rw [List.getElem?_eq_none (by rw [List.length_append,List.length_singleton];lia)] at e;cases e
theorem qd8 {c:Cell}{a b:Addr}(hl:φ.length=σ.length)(L:live (σ++[c]) (φ++[b]) a):live σ φ a∨a=b:=by
 refine x2_3 (L) λi c' e1 e2 e3=>?_
 rcases getElem?_snoc e3 with e3 | ⟨_,e⟩
 ·have hi:i<σ.length:=hl ▸ (List.getElem?_eq_some_iff.mp e3).1
  rw [List.getElem?_append_left hi] at e1
  exact .inl ⟨i,c',e1,e2,e3⟩
 ·exact .inr e
theorem qn2 {i:Nat}{c c':Cell}{a:Addr}(hi:σ[i]? = some c)(hc:c≠.dead)(L:live (σ.set i c') φ a):live σ φ a:=by
 refine x2_3 (L) λj c'' e1 e2 e3=>?_
 by_cases q:i=j
 ·exact ⟨i,c,hi,hc,q ▸ e3⟩
 ·rw [List.getElem?_set_ne q] at e1
  exact ⟨j,c'',e1,e2,e3⟩
theorem Stp.alloc {c:Cell}{a:Addr}(_:φ.length=σ.length)(ha:h.get? a=none)(hk:∀ b o,h.get? b=some o->h₁.get? b=some o):Stp W σ φ h (σ++[c]) (φ++[a]) h₁:=by
 refine ⟨λi b e=>getElem?_snoc_lt e,λi b hi e=>?_,λi e=>getElem?_snoc_lt e,λb o e _ _=>.inl (hk b o e),λb o e=>⟨o,hk b o e⟩⟩
 rcases getElem?_snoc e with x | ⟨_,rfl⟩
 ·rw [List.getElem?_eq_none hi] at x;cases x
 ·exact ha
theorem SR.allocAny {c:Cell}{a:Addr}{o:Obj}(R:SR B σ φ h)(ha:h.get? a=none)(hk:∀ b o,h.get? b=some o->h₁.get? b=some o)(ho:h₁.get? a=some o)
  (hl:∀ xs,c = .lst xs->∃ vs,h₁.PlainList a (List.toArray vs)∧VRs B σ φ h xs vs∧xs.length≤roomy)
  (hdI:∀ ks,c = .dictI ks->DictI B h₁ a ks∧ks.length≤roomy) (hdP:∀ ks,c = .dictP ks->DictP B h₁ a ks∧ks.length≤roomy) (hs:(a == sysModules)=false):SR B (σ++[c]) (φ++[a]) h₁:=by
 have S:Stp W0 σ φ h (σ++[c]) (φ++[a]) h₁:=Stp.alloc R.len ha hk
 refine ⟨?_,?_,λb hb=>?_,λi xs e=>?_,λi ks e=>?_,λi ks e=>?_,(let ⟨o,ho⟩:=R.main;⟨o,hk _ o ho⟩),λb hb=>?_,λb o e=>?_,λb hb=>?_,(λb hb=>let ⟨o,ho⟩:=R.avx b hb;⟨o,hk _ o ho⟩),λb hb hv=>?_,λL hL=>?_⟩
 ·rw [List.length_append,List.length_append,R.len];rfl
 ·refine List.nodup_append.mpr ⟨R.inj,(by simp),λx hx y hy e=>?_⟩
  rw [List.mem_singleton.mp hy] at e
  subst e
  obtain ⟨o',e'⟩:=R.ex x hx;rw [ha] at e';cases e'
 ·rcases List.mem_append.mp hb with hb | hb
  ·obtain ⟨o',e'⟩:=R.ex b hb;exact ⟨o',hk b o' e'⟩
  ·rw [List.mem_singleton.mp hb];exact ⟨o,ho⟩
 ·rcases getElem?_snoc e with e | ⟨rfl,e'⟩
  ·obtain ⟨b,vs,e1,⟨n',e2⟩,e3,e4⟩:=R.lst i xs e
   exact ⟨b,vs,getElem?_snoc_lt e1,⟨n',hk b _ e2⟩,e3.mono R S Apart.none,e4⟩
  ·refine x1_3 (hl xs e'.symm) λvs e1 e2 e3=>?_
   exact ⟨a,vs,(by rw [← R.len];simp),e1,e2.mono R S Apart.none,e3⟩
 ·rcases getElem?_snoc e with e | ⟨rfl,e'⟩
  ·refine x1_3 (R.dictI i ks e) λb e1 D hr=>?_
   exact ⟨b,getElem?_snoc_lt e1,D.mono λo' e'=>hk b o' e',hr⟩
  ·exact ⟨a,(by rw [← R.len];simp),hdI ks e'.symm⟩
 ·rcases getElem?_snoc e with e | ⟨rfl,e'⟩
  ·refine x1_3 (R.dictP i ks e) λb e1 D hr=>?_
   exact ⟨b,getElem?_snoc_lt e1,D.mono R S Apart.none λo' e'=>hk b o' e',hr⟩
  ·exact ⟨a,(by rw [← R.len];simp),hdP ks e'.symm⟩
 ·rcases List.mem_append.mp hb with hb | hb
  ·exact R.sys b hb
  ·rw [List.mem_singleton.mp hb];exact hs
 ·exact hk b o (R.based b o e)
 ·rcases List.mem_append.mp hb with hb | hb
  ·exact R.new b hb
  ·rw [List.mem_singleton.mp hb]
   cases e:B.hb.get? a with
   | none=>rfl
   | some o'=>have:=R.based a o' e;rw [ha] at this;cases this
 ·rcases qd8 R.len hb with hb | hb
  ·exact R.avn b hb hv
  ·rw [hb] at hv
   obtain ⟨o',e'⟩:=R.avx a hv;rw [ha] at e';cases e'
 ·obtain ⟨⟨o',es,n,e,hd⟩,nl,hb⟩:=R.fo L hL
  refine ⟨⟨o',es,n,hk L o' e,hd⟩,λx=>?_,hb⟩
  rcases qd8 R.len x with x | x
  ·exact nl x
  ·rw [x,ha] at e;cases e
theorem SR.allocL {xs:List V}{vs:List Value}{a:Addr}(R:SR B σ φ h)(ha:h.get? a=none)(hk:∀ b o,h.get? b=some o->h₁.get? b=some o)
  (hi:h₁.PlainList a vs.toArray) (r:VRs B σ φ h xs vs) (hx:xs.length≤roomy) (hs:(a == sysModules)=false):SR B (σ++[.lst xs]) (φ++[a]) h₁:=by
 obtain ⟨n,ho⟩:=id hi
 exact R.allocAny ha hk ho (λys e=>by cases e;exact ⟨vs,hi,r,hx⟩) (λks e=>by cases e) (λks e=>by cases e) hs
theorem Stp.upd {i:Nat}{c c':Cell}{a:Addr}(hi:σ[i]? = some c)(hc:c≠.dead)(ha:φ[i]? = some a)
  (hk:∀ b o,b≠a->h.get? b=some o->h₁.get? b=some o) (hx:∃ o,h₁.get? a=some o):Stp W σ φ h (σ.set i c') φ h₁:=by
 refine ⟨λ_ _ e=>e,λj b hj e=>(by rw [List.getElem?_eq_none hj] at e;cases e),λj e=>?_,λb o e hl _=>.inl (hk b o (λq=>hl (q ▸ ⟨i,c,hi,hc,ha⟩)) e),λb o e=>?_⟩
 ·by_cases q:i=j
  ·subst q;rw [hi] at e;exact (hc (Option.some.inj e)).elim
  ·rw [List.getElem?_set_ne q];exact e
 ·by_cases q:b=a
  ·rw [q];exact hx
  ·exact ⟨o,hk b o q e⟩
theorem qfe {α:Type}{xs:List α}(hn:xs.Nodup){i j:Nat}{a:α}(hi:xs[i]? = some a)(hj:xs[j]? = some a):i=j:=by
 have h1:=(List.getElem?_eq_some_iff.mp hi).1
 exact (List.getElem?_inj h1 hn).mp (hi.trans hj.symm)
theorem SR.updAny {i:Nat}{c c':Cell}{a:Addr}{o:Obj}(R:SR B σ φ h)(hi:σ[i]? = some c)(hc:c≠.dead)(ha:φ[i]? = some a)
  (hk:∀ b o,b≠a->h.get? b=some o->h₁.get? b=some o) (ho:h₁.get? a=some o)
  (hl:∀ xs,c' = .lst xs->∃ vs,h₁.PlainList a (List.toArray vs)∧VRs B σ φ h xs vs∧xs.length≤roomy)
  (hdI:∀ ks,c' = .dictI ks->DictI B h₁ a ks∧ks.length≤roomy) (hdP:∀ ks,c' = .dictP ks->DictP B h₁ a ks∧ks.length≤roomy):SR B (σ.set i c') φ h₁:=by
 have S:Stp W0 σ φ h (σ.set i c') φ h₁:=Stp.upd hi hc ha hk ⟨o,ho⟩
 have hlt:i<σ.length:=(List.getElem?_eq_some_iff.mp hi).1
 refine ⟨by rw [List.length_set];exact R.len,R.inj,λb hb=>?_,λj xs e=>?_,λj ks e=>?_,λj ks e=>?_,(let ⟨o,ho⟩:=R.main;S.ex _ o ho),R.sys,λb o' e=>?_,R.new,(λb hb=>let ⟨o,ho⟩:=R.avx b hb;S.ex b o ho),λb L=>R.avn b (qn2 hi hc L),λL hL=>?_⟩
 ·obtain ⟨o',e'⟩:=R.ex b hb;exact S.ex b o' e'
 ·by_cases q:i=j
  ·subst q
   rw [List.getElem?_set_self hlt] at e
   refine x1_3 (hl xs (Option.some.inj e)) λvs e1 e2 e3=>?_
   exact ⟨a,vs,ha,e1,e2.mono R S Apart.none,e3⟩
  ·rw [List.getElem?_set_ne q] at e
   obtain ⟨b,vs,e1,⟨n',e2⟩,e3,e4⟩:=R.lst j xs e
   exact ⟨b,vs,e1,⟨n',hk b _ (λz=>q (qfe R.inj ha (z ▸ e1))) e2⟩,e3.mono R S Apart.none,e4⟩
 ·by_cases q:i=j
  ·subst q
   rw [List.getElem?_set_self hlt] at e
   exact ⟨a,ha,hdI ks (Option.some.inj e)⟩
  ·rw [List.getElem?_set_ne q] at e
   refine x1_3 (R.dictI j ks e) λb e1 D hr=>?_
   exact ⟨b,e1,D.mono λo' e'=>hk b o' (λz=>q (qfe R.inj ha (z ▸ e1))) e',hr⟩
 ·by_cases q:i=j
  ·subst q
   rw [List.getElem?_set_self hlt] at e
   exact ⟨a,ha,hdP ks (Option.some.inj e)⟩
  ·rw [List.getElem?_set_ne q] at e
   refine x1_3 (R.dictP j ks e) λb e1 D hr=>?_
   exact ⟨b,e1,D.mono R S Apart.none λo' e'=>hk b o' (λz=>q (qfe R.inj ha (z ▸ e1))) e',hr⟩
 ·refine hk b o' (λz=>?_) (R.based b o' e)
  have:=R.new a (List.mem_of_getElem? ha);rw [← z,e] at this;cases this
 ·obtain ⟨⟨o',es,n,e,hd⟩,nl,hb⟩:=R.fo L hL
  exact ⟨⟨o',es,n,hk L o' (λq=>nl (q ▸ ⟨i,c,hi,hc,ha⟩)) e,hd⟩,λx=>nl (qn2 hi hc x),hb⟩
theorem SR.updL {i:Nat}{xs:List V}{ys:List V}{vs:List Value}{a:Addr}(R:SR B σ φ h)(hi:σ[i]? = some (.lst xs))(ha:φ[i]? = some a)
  (hk:∀ b o,b≠a->h.get? b=some o->h₁.get? b=some o) (hl:h₁.PlainList a vs.toArray) (r:VRs B σ φ h ys vs) (hx:ys.length≤roomy) :
  SR B (σ.set i (.lst ys)) φ h₁∧Stp W σ φ h (σ.set i (.lst ys)) φ h₁:=by
 obtain ⟨n,ho⟩:=id hl
 exact ⟨R.updAny hi (by intro x;cases x) ha hk ho (λzs e=>by cases e;exact ⟨vs,hl,r,hx⟩) (λks e=>by cases e) (λks e=>by cases e),Stp.upd hi (by intro x;cases x) ha hk ⟨_,ho⟩⟩
theorem SR.freeze {i:Nat}{xs:List V}(R:SR B σ φ h)(hi:σ[i]? = some (.lst xs)) :
  SR B (σ.set i .dead) φ h∧Stp W σ φ h (σ.set i .dead) φ h∧∃ a,φ[i]? = some a∧VR B (σ.set i .dead) φ h (.lst xs) (.ref a):=by
 refine x2_4 (R.lst i xs hi) λa vs ha hl r hx=>?_
 obtain ⟨n,ho⟩:=id hl
 have hlt:i<σ.length:=(List.getElem?_eq_some_iff.mp hi).1
 have S:∀ W,Stp W σ φ h (σ.set i .dead) φ h:=λW=>Stp.upd hi (by intro x;cases x) ha (λ_ _ _ e=>e) ⟨_,ho⟩
 refine ⟨R.updAny hi (by intro x;cases x) ha (λ_ _ _ e=>e) ho (λzs e=>by cases e) (λks e=>by cases e) (λks e=>by cases e),S W,a,ha,.lst hl ⟨?_,R.avn a ⟨i,_,hi,(by intro x;cases x),ha⟩⟩ (r.mono R (S W0) Apart.none) hx⟩
 rintro ⟨j,c,e1,e2,e3⟩
 have q:i=j:=qfe R.inj ha e3
 subst q
 rw [List.getElem?_set_self hlt] at e1
 exact e2 (Option.some.inj e1).symm
end
end Mine.Internal
namespace Mine.Internal
open PySem PyProof.Rows PySem.Calls
noncomputable def Grow (B:Bs)(σ:Sg)(φ:List Addr)(s:Shared)(v:V)(Q:Value->Shared->Prop):Prop :=
 ∀ cv h' tk,(∀ b o,s.heap.get? b=some o->h'.get? b=some o)->VR B σ φ h' v cv->Q cv { s with heap:=h',toks:=tk }
noncomputable def bop:Bop->Operator
 | .add=>.Add | .sub=>.Sub | .mul=>.Mult | .fdiv=>.FloorDiv | .mod=>.Mod
theorem qbk:roomy=sizeLine:=by decide
section
variable {prog:Program} {w:World} {A:Around} {E:Value->Shared->Prop} {s:Shared} {B:Bs} {σ:Sg} {φ:List Addr} {Q:Value->Shared->Prop}
theorem qdm {α β:Type}{o:Option α}{f:α->Option β}{y:β}{z:Prop}(h:o.bind f=some y)(k:∀ x,o=some x->f x=some y->z):z:=by
 cases o with
 | none=>exact qah h
 | some x=>exact k x rfl h
theorem qcz {α β:Type}{o:Option α}{f:α->β}{y:β}{P:β->Prop}(h:o.map f=some y)(k:∀ x,o=some x->P (f x)):P y:=by
 cases o with
 | none=>exact qah h
 | some x=>exact Option.some.inj h ▸ k x rfl
theorem qbt {α:Type}{c:Prop} [Decidable c] {x y:α}{P:α->Prop}(h:(if c then some x else none)=some y)(k:c->P x):P y:=by
 by_cases hc:c
 ·rw [if_pos hc] at h;exact Option.some.inj h ▸ k hc
 ·rw [if_neg hc] at h;exact qah h
theorem qal {α:Type}{x y:α}{P:α->Prop}(h:some x=some y)(k:P x):P y:=Option.some.inj h ▸ k
theorem ii_VR {α:Type}{h:Heap}{f:Int->Int->Option α}{a b:V}{v:α}{ca cb:Value}{P:Value->Value->Prop}(hv:ii f a b=some v)(ra:VR B σ φ h a ca)(rb:VR B σ φ h b cb)(k:∀ i j t u,f i j=some v->P (.int i t) (.int j u)):P ca cb:=by
 cases a with
 | int i=>cases b with
  | int j=>exact inInt (z:=λx=>P x cb) ra λt=>inInt (z:=P (.int i t)) rb λu=>k i j t u hv
  | _=>exact qah hv
 | _=>exact qah hv
theorem qrc {c:Option Cell}{xs:List V}{z:Prop}(e:(match c with | some (.lst xs)=>some xs | _=>none)=some xs)(k:c=some (.lst xs)->z):z:=by
 cases c with
 | none=>exact qah e
 | some c=>cases c with
  | lst ys=>exact k (by rw [Option.some.inj e])
  | _=>exact qah e
theorem qb3 {h:Heap}{i:Nat}{xs:List V}{cv:Value}{z:Value->Prop}(R:SR B σ φ h)(hi:σ[i]? = some (.lst xs))(r:VR B σ φ h (.ref i) cv)(k:∀ a vs,φ[i]? = some a->h.PlainList a (List.toArray vs)->VRs B σ φ h xs vs->xs.length≤roomy->z (.ref a)):z cv :=
 inRef r λa ha=>let ⟨a',vs,e1,e2,e3,e4⟩:=R.lst i xs hi;by
  have:=Option.some.inj (ha.symm.trans e1)
  exact k a vs ha (this ▸ e2) e3 e4
theorem qdd {h:Heap}{v:V}{cv:Value}{xs:List V}{z:Value->Prop}(R:SR B σ φ h)(e:getL σ v=some xs)(r:VR B σ φ h v cv)(k:∀ a vs,h.PlainList a (List.toArray vs)->VRs B σ φ h xs vs->xs.length≤roomy->z (.ref a)):z cv:=by
 cases v with
 | lst ys=>exact inLst r λa vs h1 _ h2 h3=>qal (P:=λxs=>(∀ a vs,h.PlainList a (List.toArray vs)->VRs B σ φ h xs vs->xs.length≤roomy->z (.ref a))->z (.ref a)) e (λk=>k a vs h1 h2 h3) k
 | ref i=>exact qrc e λhi=>qb3 R hi r λa vs _ h1 h2 h3=>k a vs h1 h2 h3
 | _=>exact qah e
theorem qaj (h:Heap)(o:Obj):∀ b o',h.get? b=some o'->(h.push o).get? b=some o':=λ_ _ e=>Heap.get?_push_of_some _ e
theorem qb6 (h:Heap):h.get? h.objs.size=none:=by
 cases e:h.get? h.objs.size with
 | none=>rfl
 | some o=>exact absurd (Heap.lt_size e) (Nat.lt_irrefl _)
theorem VR.newLst {xs:List V}{vs:List Value}(R:SR B σ φ s.heap)(r:VRs B σ φ s.heap xs vs)(hn:xs.length≤roomy)(n:Nat) :
  VR B σ φ (s.heap.push { cls:=.type "list",data:=.seq vs.toArray n }) (.lst xs) (.ref s.heap.objs.size):=by
 refine .lst ⟨n,Heap.get?_push_size _ rfl⟩ ⟨λL=>?_,λhv=>?_⟩ (r.grow R (qaj _ _)) hn
 ·obtain ⟨o,ho⟩:=R.ex _ L.mem
  rw [qb6] at ho;cases ho
 ·obtain ⟨o,ho⟩:=R.avx _ hv
  rw [qb6] at ho;cases ho
theorem VR.newTup {xs:List V}{vs:List Value}(R:SR B σ φ s.heap)(r:VRs B σ φ s.heap xs vs)(hn:xs.length≤roomy)(n:Nat) :
  VR B σ φ (s.heap.push { cls:=.type "tuple",data:=.seq vs.toArray n }) (.tup xs) (.ref s.heap.objs.size) :=
 .tup ⟨n,Heap.get?_push_size _ rfl⟩ (r.grow R (qaj _ _)) hn
theorem VRs.flat {h:Heap}{xs:List V}{vs:List Value}(r:VRs B σ φ h xs vs):∀ n:Nat,VRs B σ φ h (List.replicate n xs).flatten (List.replicate n vs).flatten
 | 0=>.nil
 | n+1=>by rw [List.replicate_succ,List.replicate_succ,List.flatten_cons,List.flatten_cons];exact r.append (VRs.flat r n)
theorem qdx {i:Int}(h:small i=true):-4611686018427387904<i∧i<4611686018427387904:=by
 unfold small at h
 have:=Nat.le_of_ble_eq_true h
 omega
theorem qk4 {α:Type}(l:List (Array α))(acc:Array α):l.foldl (·++·) acc=acc++(l.map (·.toList)).flatten.toArray:=by
 induction l generalizing acc with
 | nil=>simp
 | cons x l ih=>rw [List.foldl_cons,ih,List.map_cons,List.flatten_cons];apply Array.ext';simp
theorem qd5 {α:Type}(n:Nat):(List.replicate n ([]:List α)).flatten=[]:=by
 induction n with
 | zero=>rfl
 | succ n ih=>rw [List.replicate_succ,List.flatten_cons,ih];rfl
theorem qgy {α:Type}(n:Nat)(xs:List α):(List.replicate n xs).flatten.length=n * xs.length:=by
 induction n with
 | zero=>simp
 | succ n ih=>rw [List.replicate_succ,List.flatten_cons,List.length_append,ih,Nat.succ_mul];lia
theorem txtMul (a:List Nat)(n:Int):Txt.mul ⟨a.toArray⟩ n=⟨(List.replicate n.toNat a).flatten.toArray⟩:=by
 unfold Txt.mul
 split
 ·rename_i h
  have:n.toNat=0:=by lia
  rw [this];rfl
 ·split
  ·rename_i h h'
   simp only [Bool.or_eq_true,beq_iff_eq] at h'
   rcases h' with h' | h'
   ·subst h';simp
   ·have ha:a=[]:=by
     have e:a.length=0:=by simpa [Str.length] using h'
     exact List.eq_nil_of_length_eq_zero e
    subst ha
    rw [qd5]
  ·rw [qk4]
   simp
theorem qsk {l:Addr}{items:Array Value}{k:Nat}{x:Int}{u:Tok}
  (hl:s.heap.get? l=some { cls:=.type "list",dict:=none,data:=.seq items k,slots:=#[] })
  (hlo:-(2 ^ 63:Int)≤x) (hhi:x<2 ^ 63) (hsz:items.size * x.toNat≤2 ^ 24)
  (h:Q (.ref s.heap.objs.size) { s with heap:=s.heap.push { cls:=.type "list",data:=.seq (List.foldl (λx1 x2=>x1++x2) #[] (List.replicate (if items.isEmpty=true then 0 else x.toNat) items)) } }) :
  wpAny (model prog w) A (binaryOp .Mult (.ref l) (.int x u)) Q E s :=
 wpAny_binaryOp_repeat_ref (T:="list") (U:="int") (by decide) ⟨_,hl,rfl⟩ (λs'=>typeIs_int s' x u) noFill_list_mul F.fills_int_mul F.slot_int_rmul repeat_list F.slot_int_index.lookup
  (call_meets F.slot_int_rmul (typeIs_int s x u) F.entry_int_rmul (F.args_int_rmul_2 _ _) (int___rmul___int_list x u l items k)
   ⟨hl,rfl,⟨_,hl,rfl⟩,call_meets F.slot_list_mul ⟨_,hl,rfl⟩ F.entry_list_mul (F.args_list_mul_2 _ _)
    (AutoListH.list___mul___list_int_3 l items k x u (by simp [Builtin.List.listFitsIndex];lia) (by lia) (by simp [Builtin.List.listTooLong,sizeLine];lia)) ⟨hl,h⟩⟩)
theorem qat {h:Heap}:∀ b o,h.get? b=some o->h.get? b=some o:=λ_ _ e=>e
noncomputable def WB (prog:Program)(w:World)(A:Around)(E:Value->Shared->Prop)(s:Shared)(Q:Value->Shared->Prop)(op:Bop)(ca cb:Value):Prop:=wpAny (model prog w) A (binaryOp (bop op) ca cb) Q E s
theorem qsv {a b v:V}{ca cb:Value}(hv:((getL σ a).bind λxs=>(getL σ b).bind λys=>addL xs ys)=some v)(R:SR B σ φ s.heap)(ra:VR B σ φ s.heap a ca)(rb:VR B σ φ s.heap b cb)
  (h:Grow B σ φ s v Q):WB prog w A E s Q .add ca cb :=
 qdm hv λxs hx hv=>qdm hv λys hy hv=>qbt (P:=λv=>Grow B σ φ s v Q->WB prog w A E s Q .add ca cb) hv (λhs h =>
  qdd (z:=λca=>WB prog w A E s Q .add ca cb) R hx ra λl vs hl rs hn=>qdd (z:=λcb=>WB prog w A E s Q .add (.ref l) cb) R hy rb λl' ws hl' rs' hn'=>by
   obtain ⟨k,hl⟩:=hl
   obtain ⟨k',hl'⟩:=hl'
   refine P.add_list hl hl' ?_ ?_
   ·have e:vs.toArray++ws.toArray=(vs++ws).toArray:=by simp
    rw [e]
    exact h _ _ _ (qaj _ _) (VR.newLst R (rs.append rs') (by rw [List.length_append];exact hs) 0)
   ·rw [List.size_toArray,List.size_toArray,rs.length,rs'.length,← qbk];exact hs) h
theorem qww {x y:List Nat}{t t':Tok}(hs:x.length+y.length≤roomy)(h:Grow B σ φ s (.str (x++y)) Q):WB prog w A E s Q .add (.str ⟨x.toArray⟩ t) (.str ⟨y.toArray⟩ t'):=by
 refine SB.add (λt' k=>?_) ?_
 ·have e:(⟨x.toArray⟩:Str)++(⟨y.toArray⟩:Str)=⟨(x++y).toArray⟩:=by
   show Str.append _ _=_
   unfold Str.append
   simp
  rw [e]
  exact h _ _ _ qat (.str _ _ (by rw [List.length_append];exact hs))
 ·simpa [Str.length,← qbk] using hs
theorem qvx {a b v:V}{ca cb:Value}(hv:vAdd σ a b=some v)(R:SR B σ φ s.heap)(ra:VR B σ φ s.heap a ca)(rb:VR B σ φ s.heap b cb)
  (h:Grow B σ φ s v Q):WB prog w A E s Q .add ca cb:=by
 cases a with
 | int i=>cases b with
  | int j=>exact qal (P:=λv=>Grow B σ φ s v Q->WB prog w A E s Q .add ca cb) hv (λh=>inInt (z:=λca=>WB prog w A E s Q .add ca cb) ra λt=>inInt (z:=WB prog w A E s Q .add (.int i t)) rb λu=>P.add_int (h _ _ _ qat (.int _ _))) h
  | _=>exact qah hv
 | str x=>cases b with
  | str y=>exact qbt (P:=λv=>Grow B σ φ s v Q->WB prog w A E s Q .add ca cb) hv (λhs h=>inText (z:=λca=>WB prog w A E s Q .add ca cb) ra λt _=>inText (z:=WB prog w A E s Q .add (.str ⟨x.toArray⟩ t)) rb λu _=>qww hs h) h
  | _=>exact qah hv
 | lst xs=>exact qsv (a:=.lst xs) hv R ra rb h
 | ref i=>exact qsv (a:=.ref i) hv R ra rb h
 | _=>exact qah hv
theorem op_sub {a b v:V}{ca cb:Value}(hv:ii (λa b=>some (.int (a - b))) a b=some v)(R:SR B σ φ s.heap)(ra:VR B σ φ s.heap a ca)(rb:VR B σ φ s.heap b cb)
  (h:Grow B σ φ s v Q):WB prog w A E s Q .sub ca cb :=
 ii_VR (P:=WB prog w A E s Q .sub) hv ra rb λi j t u hv=>P.sub_int (h _ _ _ qat (Option.some.inj hv ▸ .int _ _))
theorem qw3 {a b:Int}{t u:Tok}(hs:(small a || small b)=true)(h:Grow B σ φ s (.int (a * b)) Q):wpAny (model prog w) A (binaryOp (bop .mul) (.int a t) (.int b u)) Q E s:=by
 refine P.mul_int (h _ _ _ qat (.int _ _)) ?_
 rw [Bool.or_eq_true] at hs
 rcases hs with hs | hs
 ·have:=qdx hs
  exact IntMulOk.of_left (intBits_le_64 (by lia) (by lia))
 ·have:=qdx hs
  exact IntMulOk.of_right (intBits_le_64 (by lia) (by lia))
theorem qw4 {a:List Nat}{n:Int}{t u:Tok}(hs:(decide (a.length * n.toNat≤roomy) && small n)=true)(h:Grow B σ φ s (.str (List.replicate n.toNat a).flatten) Q):wpAny (model prog w) A (binaryOp (bop .mul) (.str ⟨a.toArray⟩ t) (.int n u)) Q E s:=by
 rw [Bool.and_eq_true,decide_eq_true_eq] at hs
 have hsm:=qdx hs.2
 have hl:(Str.length ⟨a.toArray⟩:Nat)=a.length:=by simp [Str.length]
 refine SB.mul ⟨?_,λh1 h2=>?_,λh1 h2=>?_⟩ λt' k=>?_
 ·rw [Bool.or_eq_false_iff];exact ⟨decide_eq_false (by lia),decide_eq_false (by lia)⟩
 ·intro hgt
  rw [hl] at hgt
  have h3:(a.length:Int) * n≤16777216:=by
   have:a.length * n.toNat≤16777216:=hs.1
   have hn:(n.toNat:Int)=n:=by lia
   calc (a.length:Int) * n=((a.length * n.toNat:Nat):Int):=by rw [Int.natCast_mul,hn]
    _≤16777216:=Int.ofNat_le.mpr this
  have h4:(2 ^ 63 - 1:Int) / n<a.length:=hgt
  have h5:=(Int.ediv_lt_iff_lt_mul (by lia:(0:Int)<n)).mp h4
  lia
 ·rw [hl]
  have:a.length * n.toNat≤16777216:=hs.1
  exact decide_eq_false (by show ¬ _ > sizeLine;rw [← qbk];exact Nat.not_lt.mpr this)
 ·rw [txtMul]
  exact h _ _ _ qat (.str _ _ (by rw [qgy,Nat.mul_comm];exact hs.1))
theorem qs2 {a v:V}{ca:Value}{n:Int}{u:Tok}(hv:((getL σ a).bind λxs=>mulL xs n)=some v)(R:SR B σ φ s.heap)(ra:VR B σ φ s.heap a ca)(h:Grow B σ φ s v Q):WB prog w A E s Q .mul ca (.int n u) :=
 qdm hv λxs hx hv=>qbt (P:=λv=>Grow B σ φ s v Q->WB prog w A E s Q .mul ca (.int n u)) hv (λhs h=>qdd (z:=λca=>WB prog w A E s Q .mul ca (.int n u)) R hx ra λl vs hl rs hn=>by
  obtain ⟨k,hl⟩:=hl
  rw [Bool.and_eq_true,decide_eq_true_eq] at hs
  have hsm:=qdx hs.2
  have hsz:vs.toArray.size * n.toNat≤2 ^ 24:=by rw [List.size_toArray,rs.length];exact hs.1
  refine qsk hl (by clear hsz;lia) (by clear hsz;lia) hsz ?_
  have e:List.foldl (λx1 x2=>x1++x2) #[] (List.replicate (if vs.toArray.isEmpty=true then 0 else n.toNat) vs.toArray)=(List.replicate n.toNat vs).flatten.toArray:=by
   rw [qk4]
   by_cases hv:vs=[]
   ·subst hv;simp
   ·have:vs.toArray.isEmpty=false:=by simpa using hv
    rw [this];simp
  rw [e]
  exact h _ _ _ (qaj _ _) (VR.newLst R (rs.flat _) (by rw [qgy,Nat.mul_comm];exact hs.1) 0)) h
theorem of_if {α:Type}{c:Prop} [Decidable c] {x y:α}(h:(if c then some x else none)=some y):c∧x=y:=by
 by_cases hc:c
 ·rw [if_pos hc] at h;exact ⟨hc,Option.some.inj h⟩
 ·rw [if_neg hc] at h;exact qah h
theorem op_mul {a b v:V}{ca cb:Value}(hv:vMul σ a b=some v)(R:SR B σ φ s.heap)(ra:VR B σ φ s.heap a ca)(rb:VR B σ φ s.heap b cb)
  (h:Grow B σ φ s v Q):WB prog w A E s Q .mul ca cb:=by
 cases b with
 | int n=>exact inInt (z:=WB prog w A E s Q .mul ca) rb λu=>(by
   cases a with
   | int i=>exact qbt (P:=λv=>Grow B σ φ s v Q->WB prog w A E s Q .mul ca (.int n u)) hv (λhs h=>inInt (z:=λca=>WB prog w A E s Q .mul ca (.int n u)) ra λt=>qw3 hs h) h
   | str x=>exact qbt (P:=λv=>Grow B σ φ s v Q->WB prog w A E s Q .mul ca (.int n u)) hv (λhs h=>inText (z:=λca=>WB prog w A E s Q .mul ca (.int n u)) ra λt _=>qw4 hs h) h
   | lst xs=>exact qs2 (a:=.lst xs) hv R ra h
   | ref i=>exact qs2 (a:=.ref i) hv R ra h
   | _=>exact qah hv)
 | _=>exact qah hv
theorem qwx {a b v:V}{ca cb:Value}(hv:ii (λa b=>if small b && b != 0 then some (.int (a.fdiv b)) else none) a b=some v)(R:SR B σ φ s.heap)(ra:VR B σ φ s.heap a ca)(rb:VR B σ φ s.heap b cb)
  (h:Grow B σ φ s v Q):WB prog w A E s Q .fdiv ca cb :=
 ii_VR (P:=WB prog w A E s Q .fdiv) hv ra rb λi j t u hv=>qbt (P:=λv=>Grow B σ φ s v Q->WB prog w A E s Q .fdiv (.int i t) (.int j u)) hv (λhs h=>by
  rw [Bool.and_eq_true,bne_iff_ne] at hs
  have hb:j.natAbs<2 ^ 62:=by have:=Nat.le_of_ble_eq_true hs.1;lia
  refine floordiv_int hs.2 (h _ _ _ qat (.int _ _)) (.inl (PyProof.noPylong_of_log2 ?_))
  exact Nat.lt_of_lt_of_le ((Nat.log2_lt (Int.natAbs_ne_zero.mpr hs.2)).mpr hb) (by decide)) h
theorem op_mod {a b v:V}{ca cb:Value}(hv:ii (λa b=>if b != 0 then some (.int (a.fmod b)) else none) a b=some v)(R:SR B σ φ s.heap)(ra:VR B σ φ s.heap a ca)(rb:VR B σ φ s.heap b cb)
  (h:Grow B σ φ s v Q):WB prog w A E s Q .mod ca cb :=
 ii_VR (P:=WB prog w A E s Q .mod) hv ra rb λi j t u hv=>qbt (P:=λv=>Grow B σ φ s v Q->WB prog w A E s Q .mod (.int i t) (.int j u)) hv (λhs h=>mod_int' (bne_iff_ne.mp hs) (h _ _ _ qat (.int _ _))) h
theorem op_bin {op:Bop}{a b v:V}{ca cb:Value}(hv:vBin σ op a b=some v)(R:SR B σ φ s.heap)(ra:VR B σ φ s.heap a ca)(rb:VR B σ φ s.heap b cb)
  (h:Grow B σ φ s v Q):wpAny (model prog w) A (binaryOp (bop op) ca cb) Q E s:=by
 cases op with
 | add=>exact qvx hv R ra rb h
 | sub=>exact op_sub hv R ra rb h
 | mul=>exact op_mul hv R ra rb h
 | fdiv=>exact qwx hv R ra rb h
 | mod=>exact op_mod hv R ra rb h
end
end Mine.Internal
namespace Mine.Internal
open PySem PyProof.Rows PySem.Calls
mutual
noncomputable def toPy:V->PyData
 | .none=>.none
 | .bool b=>.bool b
 | .int i=>.int i
 | .str s=>.str ⟨s.toArray⟩
 | .tup xs=>.tuple (toPys xs)
 | .lst xs=>.list (toPys xs)
 | _=>.none
noncomputable def toPys:List V->List PyData
 | []=>[]
 | x::r=>toPy x::toPys r
end
section
variable {prog:Program} {w:World} {A:Around} {E:Value->Shared->Prop} {s:Shared} {B:Bs} {σ:Sg} {φ:List Addr} {Q:Value->Shared->Prop} {h:Heap}
theorem qbx {n:Nat}{xs:List V}{z:Prop}(h:(match n with | 0=>false | n+1=>plains n xs)=true)(k:∀ m,n=m+1->plains m xs=true->z):z:=by
 cases n with
 | zero=>exact Bool.noConfusion h
 | succ m=>exact k m rfl h
theorem qd2 {a b:Bool}{z:Prop}(h:(a && b)=true)(k:a=true->b=true->z):z:=k (Bool.and_eq_true_iff.mp h).1 (Bool.and_eq_true_iff.mp h).2
mutual
theorem qj3:∀ (v:V) {n:Nat} {cv:Value},plain n v=true->VR B σ φ h v cv->∃ as,Reads h cv (toPy v) as
 | .none,_,_,_,r=>inNone (z:=λcv=>∃ as,Reads h cv .none as) r ⟨_,.none⟩
 | .bool b,_,_,_,r=>inBool (z:=λcv=>∃ as,Reads h cv (.bool b) as) r ⟨_,.bool b⟩
 | .int i,_,_,_,r=>inInt (z:=λcv=>∃ as,Reads h cv (.int i) as) r λt=>⟨_,.int i t⟩
 | .str s,_,_,_,r=>inText (z:=λcv=>∃ as,Reads h cv (.str ⟨s.toArray⟩) as) r λt _=>⟨_,.str _ t⟩
 | .tup xs,_,_,hp,r=>qbx hp λm _ hp=>inTup (z:=λcv=>∃ as,Reads h cv (.tuple (toPys xs)) as) r λa vs ⟨_,e⟩ rs _=>let ⟨as,q⟩:=qdh xs hp rs;⟨as,.tuple e rfl rfl q⟩
 | .lst xs,_,_,hp,r=>qbx hp λm _ hp=>inLst (z:=λcv=>∃ as,Reads h cv (.list (toPys xs)) as) r λa vs ⟨_,e⟩ _ rs _=>let ⟨_,q⟩:=qdh xs hp rs;⟨_,.list e rfl rfl q⟩
 | .undef,_,_,hp,_=>Bool.noConfusion hp
 | .ref _,_,_,hp,_=>Bool.noConfusion hp
 | .exc _,_,_,hp,_=>Bool.noConfusion hp
theorem qdh:∀ (xs:List V) {n:Nat} {vs:List Value},plains n xs=true->VRs B σ φ h xs vs->∃ as,ReadsAll h vs (toPys xs) as
 | [],_,_,_,r=>inNil (z:=λvs=>∃ as,ReadsAll h vs [] as) r ⟨_,.nil⟩
 | x::xs,_,_,hp,r=>qd2 hp λh1 h2=>inCons (z:=λvs=>∃ as,ReadsAll h vs (toPy x::toPys xs) as) r λv ws a rs=>let ⟨_,q⟩:=qj3 x h1 a;let ⟨_,p⟩:=qdh xs h2 rs;⟨_,.cons q p⟩
end
mutual
theorem qd7:∀ (v:V) {n:Nat},plain n v=true->(toPy v).canLay0=true∧(toPy v).depth≤n
 | .none,_,_=>⟨rfl,Nat.zero_le _⟩
 | .bool _,_,_=>⟨rfl,Nat.zero_le _⟩
 | .int _,_,_=>⟨rfl,Nat.zero_le _⟩
 | .str s,_,hp=>⟨by
   have hp:strFine s=true:=hp
   show PyData.canLay0 (.str ⟨s.toArray⟩)=true
   rw [PyData.canLay0]
   simpa [PyData.strOk,strFine] using hp,Nat.zero_le _⟩
 | .lst xs,n,hp=>qbx hp λm e hp=>let t:=qch xs hp;by
   show PyData.canLay0 (.list (toPys xs))=true∧PyData.depth (.list (toPys xs))≤n
   rw [PyData.canLay0,PyData.depth,e]
   exact ⟨t.1,by have:=t.2;lia⟩
 | .tup xs,n,hp=>qbx hp λm e hp=>let t:=qch xs hp;by
   show PyData.canLay0 (.tuple (toPys xs))=true∧PyData.depth (.tuple (toPys xs))≤n
   rw [PyData.canLay0,PyData.depth,e]
   exact ⟨t.1,by have:=t.2;lia⟩
 | .undef,_,hp=>Bool.noConfusion hp
 | .ref _,_,hp=>Bool.noConfusion hp
 | .exc _,_,hp=>Bool.noConfusion hp
theorem qch:∀ (xs:List V) {n:Nat},plains n xs=true->PyData.canLayAll0 (toPys xs)=true∧PyData.depthAll (toPys xs)≤n
 | [],_,_=>⟨rfl,Nat.zero_le _⟩
 | x::r,n,hp=>qd2 hp λh1 h2=>let a:=qd7 x h1;let b:=qch r h2;by
   show PyData.canLayAll0 (toPy x::toPys r)=true∧PyData.depthAll (toPy x::toPys r)≤n
   rw [PyData.canLayAll0,PyData.depthAll,a.1,b.1]
   exact ⟨rfl,Nat.max_le.mpr ⟨a.2,b.2⟩⟩
end
theorem qj8 (x y:List Nat):((⟨x.toArray⟩:Str) == (⟨y.toArray⟩:Str))=(x == y):=by
 by_cases e:x=y
 ·subst e;simp
 ·have h1:(x == y)=false:=by simpa using e
  rw [h1]
  have:(⟨x.toArray⟩:Str)≠⟨y.toArray⟩:=λq=>e (by simpa using q)
  simpa using this
mutual
theorem qka:∀ (a b:V) {n m:Nat},plain n a=true->plain m b=true->PyData.eqv (toPy a) (toPy b)=veq a b
 | .none,b,_,_,_,hb=>by cases b <;> first | rfl | exact Bool.noConfusion hb
 | .bool _,b,_,_,_,hb=>by cases b <;> first | rfl | exact Bool.noConfusion hb
 | .int _,b,_,_,_,hb=>by cases b <;> first | rfl | exact Bool.noConfusion hb
 | .str x,b,_,_,_,hb=>by
  cases b with
  | str y=>exact qj8 x y
  | _=>first | rfl | exact Bool.noConfusion hb
 | .lst xs,b,_,_,ha,hb=>by
  cases b with
  | lst ys=>exact qbx ha λ_ _ ha=>qbx hb λ_ _ hb=>qkb xs ys ha hb
  | _=>first | rfl | exact Bool.noConfusion hb
 | .tup xs,b,_,_,ha,hb=>by
  cases b with
  | tup ys=>exact qbx ha λ_ _ ha=>qbx hb λ_ _ hb=>qkb xs ys ha hb
  | _=>first | rfl | exact Bool.noConfusion hb
 | .undef,_,_,_,ha,_=>Bool.noConfusion ha
 | .ref _,_,_,_,ha,_=>Bool.noConfusion ha
 | .exc _,_,_,_,ha,_=>Bool.noConfusion ha
theorem qkb:∀ (xs ys:List V) {n m:Nat},plains n xs=true->plains m ys=true->PyData.eqvAll (toPys xs) (toPys ys)=veqs xs ys
 | [],ys,_,_,_,_=>by cases ys <;> rfl
 | x::xs,ys,_,_,ha,hb=>by
  cases ys with
  | nil=>rfl
  | cons y ys =>
   exact qd2 ha λa1 a2=>qd2 hb λb1 b2=>by
    show (PyData.eqv (toPy x) (toPy y) && PyData.eqvAll (toPys xs) (toPys ys))=_
    rw [qka x y a1 b1,qkb xs ys a2 b2];rfl
end
theorem qqs {n:Nat}(x:V){m:Nat}(hx:plain m x=true):∀ ys:List V,plains n ys=true->((toPys ys).any λy=>PyData.eqv y (toPy x))=ys.any λy=>veq y x
 | [],_=>rfl
 | y::ys,hp=>qd2 hp λh1 h2=>by
  rw [show toPys (y::ys)=toPy y::toPys ys from rfl,List.any_cons,List.any_cons,qqs x hx ys h2,qka y x h1 hx]
theorem qnp {v:V}{cv:Value}{n:Nat}(R:SR B σ φ h)(hp:plain n (deref σ v)=true)(r:VR B σ φ h v cv):∃ as,Reads h cv (toPy (deref σ v)) as:=by
 cases v with
 | ref i =>
  replace hp:plain n (match σ[i]? with | some (.lst xs)=>.lst xs | _=>.undef)=true:=hp
  show ∃ as,Reads h cv (toPy (match σ[i]? with | some (.lst xs)=>.lst xs | _=>.undef)) as
  cases hi:σ[i]? with
  | none=>rw [hi] at hp;exact Bool.noConfusion hp
  | some c =>
   rw [hi] at hp
   cases c with
   | lst xs=>exact qbx hp λm _ hp=>qb3 (z:=λcv=>∃ as,Reads h cv (.list (toPys xs)) as) R hi r λa vs _ ⟨k,e2⟩ e3 _=>let ⟨_,q⟩:=qdh xs hp e3;⟨_,.list e2 rfl rfl q⟩
   | _=>exact Bool.noConfusion hp
 | _=>exact qj3 _ hp r
noncomputable def cop:Cop->CmpOp
 | .eq=>.Eq | .ne=>.NotEq | .lt=>.Lt | .le=>.LtE | .gt=>.Gt | .ge=>.GtE | .isin=>.In | .notin=>.NotIn | .is=>.Is | .isnot=>.IsNot
theorem qdn {v:V}(hp:plain 7 v=true):SeqAt.shaped (toPy v)=true:=by
 have:=qd7 v hp
 unfold SeqAt.shaped
 rw [this.1,Bool.true_and]
 exact decide_eq_true (by have:=this.2;lia)
noncomputable def WC (prog:Program)(w:World)(A:Around)(E:Value->Shared->Prop)(s:Shared)(Q:Value->Shared->Prop)(op:CmpOp)(ca cb:Value):Prop:=wpAny (model prog w) A (compareOp op ca cb) Q E s
theorem qlg {a b:V}{ca cb:Value}{t:Bool}(hv:vEqG σ a b=some t)(R:SR B σ φ s.heap)(ra:VR B σ φ s.heap a ca)(rb:VR B σ φ s.heap b cb)(hu:A.units+64<cLine) :
  (Q (.bool t) s->WC prog w A E s Q .Eq ca cb)∧(Q (.bool (!t)) s->WC prog w A E s Q .NotEq ca cb) :=
 qbt (P:=λt=>(Q (.bool t) s->WC prog w A E s Q .Eq ca cb)∧(Q (.bool (!t)) s->WC prog w A E s Q .NotEq ca cb)) hv λhp=>qd2 hp λh1 h2=>by
  obtain ⟨as,q1⟩:=qnp R h1 ra
  obtain ⟨bs,q2⟩:=qnp R h2 rb
  exact ⟨λh=>eq_dataH q1 q2 (qdn h1) (qdn h2) hu (by rw [qka _ _ h1 h2];exact h),λh=>ne_dataH q1 q2 (qdn h1) (qdn h2) hu (by rw [qka _ _ h1 h2];exact h)⟩
theorem op_eq {a b:V}{ca cb:Value}{t:Bool}(hv:vEq σ a b=some t)(R:SR B σ φ s.heap)(ra:VR B σ φ s.heap a ca)(rb:VR B σ φ s.heap b cb)(hu:A.units+64<cLine) :
  (Q (.bool t) s->WC prog w A E s Q .Eq ca cb)∧(Q (.bool (!t)) s->WC prog w A E s Q .NotEq ca cb):=by
 let K:Bool->Value->Value->Prop:=λt ca cb=>(Q (.bool t) s->WC prog w A E s Q .Eq ca cb)∧(Q (.bool (!t)) s->WC prog w A E s Q .NotEq ca cb)
 show K t ca cb
 cases a with
 | none=>cases b with
  | none=>exact qal (P:=λt=>K t ca cb) hv (inNone (z:=λca=>K true ca cb) ra (inNone (z:=K true .none) rb ⟨EqNone.eq_none_none,EqNone.ne_none_none⟩))
  | _=>exact qlg hv R ra rb hu
 | bool x=>cases b with
  | bool y=>exact qal (P:=λt=>K t ca cb) hv (inBool (z:=λca=>K (x == y) ca cb) ra (inBool (z:=K (x == y) (.bool x)) rb ⟨eq_bool,ne_bool⟩))
  | _=>exact qlg hv R ra rb hu
 | int x=>cases b with
  | int y=>exact qal (P:=λt=>K t ca cb) hv (inInt (z:=λca=>K (x == y) ca cb) ra λt=>inInt (z:=K (x == y) (.int x t)) rb λu=>⟨P.eq_int,P.ne_int⟩)
  | _=>exact qlg hv R ra rb hu
 | str x=>cases b with
  | str y=>exact qal (P:=λt=>K t ca cb) hv (inText (z:=λca=>K (x == y) ca cb) ra λt _=>inText (z:=K (x == y) (.str ⟨x.toArray⟩ t)) rb λu _=>⟨λh=>eq_str (by rw [qj8];exact h),λh=>ne_str (by show Q (.bool (!((⟨_⟩:Str) == ⟨_⟩))) s;rw [qj8];exact h)⟩)
  | _=>exact qlg hv R ra rb hu
 | _=>exact qlg hv R ra rb hu
theorem VR.not_none {a:V}{ca:Value}(ha:isNoneV a=some false)(ra:VR B σ φ h a ca):ca≠.none:=by
 cases a with
 | bool b=>exact inBool (z:=λx=>x≠.none) ra (λe=>Value.noConfusion e)
 | int i=>exact inInt (z:=λx=>x≠.none) ra λt e=>Value.noConfusion e
 | str x=>exact inText (z:=λx=>x≠.none) ra λt _ e=>Value.noConfusion e
 | tup x=>exact inTup (z:=λx=>x≠.none) ra λ_ _ _ _ _ e=>Value.noConfusion e
 | lst x=>exact inLst (z:=λx=>x≠.none) ra λ_ _ _ _ _ _ e=>Value.noConfusion e
 | ref x=>exact inRef (z:=λx=>x≠.none) ra λ_ _ e=>Value.noConfusion e
 | _=>cases ha
theorem op_is {a b:V}{ca cb:Value}{t:Bool}(hv:vIs a b=some t)(ra:VR B σ φ s.heap a ca)(rb:VR B σ φ s.heap b cb) :
  (Q (.bool t) s->WC prog w A E s Q .Is ca cb)∧(Q (.bool (!t)) s->WC prog w A E s Q .IsNot ca cb):=by
 let K:Bool->Value->Value->Prop:=λt ca cb=>(Q (.bool t) s->WC prog w A E s Q .Is ca cb)∧(Q (.bool (!t)) s->WC prog w A E s Q .IsNot ca cb)
 show K t ca cb
 cases b with
 | none =>
  refine inNone (z:=K t ca) rb ?_
  cases t with
  | true =>
   cases a with
   | none=>exact inNone (z:=λca=>K true ca .none) ra ⟨is_none_none,isnot_none_none⟩
   | _=>cases hv
  | false=>have hn:=VR.not_none hv ra;exact ⟨is_none_ne hn,isnot_none_ne hn⟩
 | bool y =>
  refine inBool (z:=K t ca) rb ?_
  cases a with
  | none=>exact qal (P:=λt=>K t ca (.bool y)) hv (inNone (z:=λca=>K false ca (.bool y)) ra ⟨wpAny_is_other (by rfl) (by intro x;cases x),wpAny_isNot_other (by rfl) (by intro x;cases x)⟩)
  | bool x=>exact qal (P:=λt=>K t ca (.bool y)) hv (inBool (z:=λca=>K (x == y) ca (.bool y)) ra ⟨PyProof.Rows.is_bool,PyProof.Rows.isnot_bool⟩)
  | _=>exact qah hv
 | _=>exact qah hv
end
end Mine.Internal
namespace Mine.Internal
open PySem PyProof.Rows PySem.Calls
section
variable {prog:Program} {w:World} {A:Around} {E:Value->Shared->Prop} {s:Shared} {B:Bs} {σ:Sg} {φ:List Addr} {Q:Value->Shared->Prop} {h:Heap}
noncomputable def Holds3 (B:Bs)(σ:Sg)(φ:List Addr)(h:Heap)(cc:Value)(ys:List V):Prop:=∃ a vs,cc = .ref a∧VRs B σ φ h ys vs∧(h.PlainList a (List.toArray vs)∨PTup h a (List.toArray vs))
theorem holds3 {c:V}{cc:Value}{ys:List V}(hc:c = .lst ys∨c = .tup ys∨∃ i,c = .ref i∧σ[i]? = some (.lst ys))(R:SR B σ φ h)(rc:VR B σ φ h c cc):Holds3 B σ φ h cc ys:=by
 rcases hc with e | e | ⟨i,e,hi⟩
 ·rw [e] at rc;exact inLst (z:=λcc=>Holds3 B σ φ h cc ys) rc λa vs h1 _ h2 _=>⟨a,vs,rfl,h2,.inl h1⟩
 ·rw [e] at rc;exact inTup (z:=λcc=>Holds3 B σ φ h cc ys) rc λa vs h1 h2 _=>⟨a,vs,rfl,h2,.inr h1⟩
 ·rw [e] at rc;exact qb3 (z:=λcc=>Holds3 B σ φ h cc ys) R hi rc λa vs _ h1 h2 _=>⟨a,vs,rfl,h2,.inl h1⟩
noncomputable def WI (prog:Program)(w:World)(A:Around)(E:Value->Shared->Prop)(s:Shared)(Q:Value->Shared->Prop)(cx cc:Value)(t:Bool):Prop :=
 ((∀ tk,Q (.bool t) { s with toks:=tk })->WC prog w A E s Q .In cx cc)∧((∀ tk,Q (.bool (!t)) { s with toks:=tk })->WC prog w A E s Q .NotIn cx cc)
theorem qr6 {cx cc:Value}{ys:List V}{px:PyData}{pys:List PyData}{as:List Addr}{t:Bool}(H:Holds3 B σ φ s.heap cc ys)(rd:∀ vs,VRs B σ φ s.heap ys vs->∃ bs,ReadsAll s.heap vs pys bs)(qx:Reads s.heap cx px as)
  (l2:PyData.canLayAll0 pys=true) (l1:px.canLay0=true) (hu:A.units+1+min (PyData.depthAll pys) px.depth<cLine) (ht:(pys.any λy=>PyData.eqv y px)=t):WI prog w A E s Q cx cc t:=by
 refine x2_3 (H) λa vs e rs hl=>?_
 obtain ⟨bs,q⟩:=rd vs rs
 rw [e]
 rcases hl with ⟨_,hl⟩ | ⟨_,hl⟩
 ·exact ⟨λhq=>SeqAt.in_list_reads (.list hl rfl rfl q) qx l2 l1 hu (by rw [ht];exact hq s.toks),λhq=>SeqAt.notIn_list_reads (.list hl rfl rfl q) qx l2 l1 hu (by rw [ht];exact hq s.toks)⟩
 ·exact ⟨λhq=>SeqAt.in_tuple_reads (.tuple hl rfl rfl q) qx l2 l1 hu (by rw [ht];exact hq s.toks),λhq=>SeqAt.notIn_tuple_reads (.tuple hl rfl rfl q) qx l2 l1 hu (by rw [ht];exact hq s.toks)⟩
theorem qsy {x:V}{cx cc:Value}{ys:List V}(H:Holds3 B σ φ s.heap cc ys)(hx:plain 5 x=true)(hy:plains 5 ys=true)(rx:VR B σ φ s.heap x cx)(hu:A.units+64<cLine) :
  WI prog w A E s Q cx cc (ys.any λy=>veq y x):=by
 obtain ⟨as,qx⟩:=qj3 x hx rx
 have l1:=qd7 x hx
 refine qr6 H (λvs rs=>qdh ys hy rs) qx (qch ys hy).1 l1.1 ?_ (qqs x hx ys hy)
 have:=Nat.min_le_right (PyData.depthAll (toPys ys)) (toPy x).depth
 have:=l1.2
 lia
theorem qlp {xs:List V}{l:List (List Nat)}{P:List V->List (List Nat)->Prop}(e:strsV xs=some l)(k0:P [] [])(k1:∀ x r l',strsV r=some l'->P (.str x::r) (x::l')):P xs l:=by
 cases xs with
 | nil=>exact qal (P:=P []) e k0
 | cons x r=>cases x with
  | str x=>exact qcz (P:=P (.str x::r)) (f:=(x::·)) e λl' h=>k1 x r l' h
  | _=>exact qah e
theorem qk7 {xs:List V}{l:List Int}{P:List V->List Int->Prop}(e:intsV xs=some l)(k0:P [] [])(k1:∀ x r l',intsV r=some l'->P (.int x::r) (x::l')):P xs l:=by
 cases xs with
 | nil=>exact qal (P:=P []) e k0
 | cons x r=>cases x with
  | int x=>exact qcz (P:=P (.int x::r)) (f:=(x::·)) e λl' h=>k1 x r l' h
  | _=>exact qah e
theorem qpp {xs:List V}{l:List (List Nat)}(e:strsV xs=some l):xs=l.map V.str:=by
 induction l generalizing xs with
 | nil=>exact qlp (P:=λxs l=>l=[]->xs=[]) e (λ_=>rfl) (λ_ _ _ _ e=>(List.cons_ne_nil _ _ e).elim) rfl
 | cons y l ih=>exact qlp (P:=λxs l'=>l'=y::l->xs=(y::l).map V.str) e (λe=>(List.cons_ne_nil _ _ e.symm).elim) (λx r l' h e=>by rw [ih (xs:=r) ((List.cons.inj e).2 ▸ h),(List.cons.inj e).1];rfl) rfl
theorem qg7:∀ {l:List (List Nat)} {vs:List Value},VRs B σ φ h (l.map V.str) vs->∃ as,ReadsAll h vs (l.map λy=>PyData.str ⟨y.toArray⟩) as
 | [],_,r=>inNil (z:=λvs=>∃ as,ReadsAll h vs [] as) r ⟨_,.nil⟩
 | y::l,_,r=>inCons (z:=λvs=>∃ as,ReadsAll h vs ((y::l).map λy=>PyData.str ⟨y.toArray⟩) as) r λv ws a rs=>inText (z:=λv=>∃ as,ReadsAll h (v::ws) ((y::l).map λy=>PyData.str ⟨y.toArray⟩) as) a λt _=>let ⟨_,q⟩:=qg7 rs;⟨_,.cons (.str _ t) q⟩
theorem qqm {xs:List V}{vs:List Value}{l:List (List Nat)}(e:strsV xs=some l)(r:VRs B σ φ h xs vs):∃ as,ReadsAll h vs (l.map λy=>PyData.str ⟨y.toArray⟩) as:=qg7 (qpp e ▸ r)
theorem qpq:∀ {l:List (List Nat)},l.all strFine=true->PyData.canLayAll0 (l.map λy=>PyData.str ⟨y.toArray⟩)=true
 | [],_=>rfl
 | x::r,hl=>by
  rw [List.all_cons,Bool.and_eq_true] at hl
  rw [List.map_cons,PyData.canLayAll0,qpq hl.2,Bool.and_true,PyData.canLay0]
  simpa [PyData.strOk,strFine] using hl.1
theorem qpn {z:List Nat}:∀ (l:List (List Nat)),((l.map λy=>PyData.str ⟨y.toArray⟩).any λy=>PyData.eqv y (.str ⟨z.toArray⟩))=l.any λy=>y == z
 | []=>rfl
 | x::r=>by rw [List.map_cons,List.any_cons,List.any_cons,qpn r,PyData.eqv,qj8]
theorem qqg {z:List Nat}{cx cc:Value}{ys:List V}{l:List (List Nat)}(H:Holds3 B σ φ s.heap cc ys)(hl:strsV ys=some l)(hz:strFine z=true)(hf:l.all strFine=true)
  (rx:VR B σ φ s.heap (.str z) cx) (hu:A.units+64<cLine):WI prog w A E s Q cx cc (l.any λy=>y == z):=by
 have l1:(PyData.str ⟨z.toArray⟩).canLay0=true:=by rw [PyData.canLay0];simpa [PyData.strOk,strFine] using hz
 refine inText (z:=λcx=>WI prog w A E s Q cx cc (l.any λy=>y == z)) rx λt _=>qr6 H (λvs rs=>qqm hl rs) (.str _ t) (qpq hf) l1 ?_ (qpn l)
 have:=Nat.min_le_right (PyData.depthAll (l.map λy=>PyData.str ⟨y.toArray⟩)) (PyData.str ⟨z.toArray⟩).depth
 have:(PyData.str ⟨z.toArray⟩).depth=0:=by rw [PyData.depth]
 lia
theorem room63 {n:Nat}(hn:n≤roomy):((n:Nat):Int)<2 ^ 63:=by unfold roomy at hn;lia
theorem strLen (x:List Nat):(⟨x.toArray⟩:Str).length=x.length:=by simp [Str.length]
theorem qks {α:Type}{f:List V->Option α}{g:List Int->Option α}{k:List (List Int)->Option α}{c:Option Cell}{a:α}{z:Prop}(e:(match c with | some (.lst xs)=>f xs | some (.dictI ks)=>g ks | some (.dictP ks)=>k ks | _=>none)=some a)
  (k1:∀ xs,c=some (.lst xs)->f xs=some a->z) (k2:∀ ks,c=some (.dictI ks)->g ks=some a->z) (k3:∀ ks,c=some (.dictP ks)->k ks=some a->z):z:=by
 cases c with
 | none=>exact qah e
 | some c=>cases c with
  | lst xs=>exact k1 xs rfl e
  | dictI ks=>exact k2 ks rfl e
  | dictP ks=>exact k3 ks rfl e
  | dead=>exact qah e
theorem qej {α:Type}{f:List V->Option α}{c:Option Cell}{a:α}{z:Prop}(e:(match c with | some (.lst xs)=>f xs | _=>none)=some a)(k:∀ xs,c=some (.lst xs)->f xs=some a->z):z:=by
 cases c with
 | none=>exact qah e
 | some c=>cases c with
  | lst xs=>exact k xs rfl e
  | _=>exact qah e
noncomputable def WT (prog:Program)(w:World)(A:Around)(E:Value->Shared->Prop)(s:Shared)(Q:Bool->Shared->Prop)(t:Bool)(cv:Value):Prop:=(∀ tk,Q t { s with toks:=tk })->wpAny (model prog w) A (truthy cv) Q E s
theorem qha {a:Addr}{xs:List V}{vs:List Value}{Q:Bool->Shared->Prop}(hl:s.heap.PlainList a vs.toArray)(rs:VRs B σ φ s.heap xs vs)(hn:xs.length≤roomy):WT prog w A E s Q (!xs.isEmpty) (.ref a):=λhq=>by
 refine wpAny_truthy_list hl.isList (by rw [List.size_toArray,rs.length];exact room63 hn) ?_
 have e2:(!vs.toArray.isEmpty) = !xs.isEmpty:=by
  cases xs with
  | nil=>exact inNil (z:=λvs=>(!vs.toArray.isEmpty)=false) rs rfl
  | cons x xs=>exact inCons (z:=λvs=>(!vs.toArray.isEmpty)=true) rs λ_ _ _ _=>rfl
 rw [e2];exact hq _
theorem qqj {v:V}{cv:Value}{t:Bool}{Q:Bool->Shared->Prop}(hv:vTrue σ v=some t)(R:SR B σ φ s.heap)(r:VR B σ φ s.heap v cv):WT prog w A E s Q t cv:=by
 cases v with
 | none=>exact qal (P:=λt=>WT prog w A E s Q t cv) hv (inNone (z:=WT prog w A E s Q false) r λhq _ _ _=>hq s.toks)
 | bool b=>exact qal (P:=λt=>WT prog w A E s Q t cv) hv (inBool (z:=WT prog w A E s Q b) r λhq=>wpAny_truthy_bool (hq s.toks))
 | int i=>exact qal (P:=λt=>WT prog w A E s Q t cv) hv (inInt (z:=WT prog w A E s Q (i != 0)) r λt hq=>P.truthy_int (hq s.toks))
 | str x=>exact qal (P:=λt=>WT prog w A E s Q t cv) hv (inText (z:=WT prog w A E s Q (!x.isEmpty)) r λt hs hq=>by
   refine P.truthy_str (by rw [strLen];exact Int.not_le.mpr (room63 hs)) ?_
   have e:(((⟨x.toArray⟩:Str).length:Int) != 0)=(!x.isEmpty):=by
    cases x with
    | nil=>rfl
    | cons c r=>rw [strLen];rfl
   rw [e];exact hq _)
 | lst xs=>exact qal (P:=λt=>WT prog w A E s Q t cv) hv (inLst (z:=WT prog w A E s Q (!xs.isEmpty)) r λa vs hl _ rs hn=>qha hl rs hn)
 | ref i=>exact qej hv λxs hx hv=>qal (P:=λt=>WT prog w A E s Q t cv) hv (qb3 (z:=WT prog w A E s Q (!xs.isEmpty)) R hx r λa vs _ hl rs hn=>qha hl rs hn)
 | _=>exact qah hv
theorem qec {v:V}{cv:Value}{t:Bool}{Q:Bool->Shared->Prop}(hv:vTrue σ v=some t)(R:SR B σ φ s.heap)(r:VR B σ φ s.heap v cv)
  (hq:∀ tk,Q t { s with toks:=tk }):wpAny (model prog w) A (truthy cv) Q E s:=qqj hv R r hq
theorem qmn {d:Addr}{o:Obj}{es:Array DictEntry}{ep:Nat}(hd:(d == sysModules)=false)(ho:s.heap.get? d=some o)(hc:o.cls = .type "dict")(hdat:o.data = .dict es ep)(hfit:(es.size:Int)<2 ^ 63)
  (h:Q (.int es.size (s.toks+1)) { s with toks:=s.toks+1+1 }):wpAny (model prog w) A (call (.builtin "len") [.ref d]) Q E s:=by
 have meets:MeetsIn prog w (Builtin.«dict.__len__» ⟨[.ref d],[]⟩) (λ_ R s'=>s'.heap.get? d=some o∧R (.ok (.ret (.int es.size s'.toks))) { s' with toks:=s'.toks+1 }) :=
  .of_wp λA R s' ⟨hm,h'⟩=>by
   show wpAny _ _ (dictSize d >>= _) _ _ s'
   unfold dictSize
   refine wpAny_bind (wpAny_bind (wpAny_dictEntries hm hdat (wpAny_pure ?_)))
   show wpAny _ _ (Builtin.Dict.pendingCount d >>= _) _ _ s'
   refine wpAny_bind (wpAny_pendingCount_other hd (wpAny_ret_mkInt ?_))
   rw [Nat.add_zero];exact h'
 have hT:s.TypeIs (.ref d) "dict":=⟨o,ho,hc⟩
 refine Calls.call_function_entry kind_len plain_len entry_len (args_len1 _) ?_
 unfold Builtin.«len»
 refine wpAny_bind (m:=oneArg "len" _) (wpAny_pure ?_)
 refine wpAny_bind (m:=callSpecial? (.ref d) (oS "__len__")) (wpAny_callSpecial?_slot (name:=oS "__len__") hT F.slot_dict_len
  (call_meetsIn F.slot_dict_len hT F.entry_dict_len (F.args_dict_len_1 _) meets ⟨ho,?_⟩))
 show wpAny _ _ _ _ _ { s with toks:=s.toks+1 }
 refine wpAny_bind (wpAny_holding (wpAny_pure ?_))
 refine wpAny_bind (wpAny_letGo ?_)
 show wpAny _ _ (if ((es.size:Nat):Int)<0 then _ else _) _ _ _
 rw [if_neg (by lia)]
 show wpAny _ _ (if ((es.size:Nat):Int) ≥ 2 ^ 63 then _ else _) _ _ _
 rw [if_neg (by lia)]
 exact wpAny_bind (wpAny_mkInt (wpAny_pure ⟨_,rfl,h⟩))
noncomputable def WN (prog:Program)(w:World)(A:Around)(E:Value->Shared->Prop)(s:Shared)(Q:Value->Shared->Prop)(B:Bs)(σ:Sg)(φ:List Addr)(n:Nat)(cv:Value):Prop:=Grow B σ φ s (.int n) Q->wpAny (model prog w) A (call (.builtin "len") [cv]) Q E s
theorem qnz {a:Addr}{xs:List V}{vs:List Value}(hl:s.heap.PlainList a vs.toArray)(rs:VRs B σ φ s.heap xs vs)(hn:xs.length≤roomy):WN prog w A E s Q B σ φ xs.length (.ref a):=λhq=>by
 refine Calls.call_len_list hl.isList (by rw [List.size_toArray,rs.length];exact room63 hn) ?_
 rw [List.size_toArray,rs.length]
 exact hq _ _ _ qat (.int _ _)
theorem qw1 {v:V}{cv:Value}{n:Nat}(hv:vLen σ v=some n)(hB:prog=B.prog∧w=B.w)(R:SR B σ φ s.heap)(r:VR B σ φ s.heap v cv):WN prog w A E s Q B σ φ n cv:=by
 cases v with
 | str x=>exact qal (P:=λn=>WN prog w A E s Q B σ φ n cv) hv (inText (z:=WN prog w A E s Q B σ φ x.length) r λt hs hq=>P.len_str (by rw [strLen];exact Int.not_le.mpr (room63 hs)) (by rw [strLen];exact hq _ _ _ qat (.int _ _)))
 | tup xs=>exact qal (P:=λn=>WN prog w A E s Q B σ φ n cv) hv (inTup (z:=WN prog w A E s Q B σ φ xs.length) r λa vs ht rs hn hq=>PyProof.Rows.len_tuple ht.isTup (by rw [List.size_toArray,rs.length];exact room63 hn) (by rw [List.size_toArray,rs.length];exact hq _ _ _ qat (.int _ _)))
 | lst xs=>exact qal (P:=λn=>WN prog w A E s Q B σ φ n cv) hv (inLst (z:=WN prog w A E s Q B σ φ xs.length) r λa vs hl _ rs hn=>qnz hl rs hn)
 | ref i =>
  refine qks hv (λxs hx hv=>qal (P:=λn=>WN prog w A E s Q B σ φ n cv) hv (qb3 (z:=WN prog w A E s Q B σ φ xs.length) R hx r λa vs _ hl rs hn=>qnz hl rs hn)) (λks hk hv=>?_) (λks hk hv=>?_)
  ·refine qal (P:=λn=>WN prog w A E s Q B σ φ n cv) hv (inRef (z:=WN prog w A E s Q B σ φ ks.length) r λa ha hq=>?_)
   obtain ⟨a',e1,⟨kvs,D,ek⟩,hr⟩:=R.dictI i ks hk
   rw [← Option.some.inj (ha.symm.trans e1)] at D
   have el:kvs.length=ks.length:=by rw [← ek,List.length_map]
   rw [hB.1,hB.2]
   exact call_len_dict (R.sys _ (List.mem_of_getElem? ha)) D (by rw [el];exact room63 hr) (by rw [el];exact hq _ _ _ qat (.int _ _))
  ·refine qal (P:=λn=>WN prog w A E s Q B σ φ n cv) hv (inRef (z:=WN prog w A E s Q B σ φ ks.length) r λa ha hq=>?_)
   obtain ⟨a',e1,⟨kvs,D,ek⟩,hr⟩:=R.dictP i ks hk
   rw [← Option.some.inj (ha.symm.trans e1)] at D
   refine x3_5 (D) λo es ep ho hc hd hes _=>?_
   have el:es.size=ks.length:=by rw [size_of_entries hes,← ek,List.length_map]
   exact qmn (R.sys _ (List.mem_of_getElem? ha)) ho hc.1 hd (by rw [el];exact room63 hr) (by rw [el];exact hq _ _ _ qat (.int _ _))
 | _=>exact qah hv
theorem qvz {v:V}{cv:Value}{n:Nat}(hv:vLen σ v=some n)(hB:prog=B.prog∧w=B.w)(R:SR B σ φ s.heap)(r:VR B σ φ s.heap v cv)
  (hq:Grow B σ φ s (.int n) Q):wpAny (model prog w) A (call (.builtin "len") [cv]) Q E s:=qw1 hv hB R r hq
theorem qt9 {xs:List V}{l:List Int}(e:intsV xs=some l):xs=l.map V.int:=by
 induction l generalizing xs with
 | nil=>exact qk7 (P:=λxs l=>l=[]->xs=[]) e (λ_=>rfl) (λ_ _ _ _ e=>(List.cons_ne_nil _ _ e).elim) rfl
 | cons y l ih=>exact qk7 (P:=λxs l'=>l'=y::l->xs=(y::l).map V.int) e (λe=>(List.cons_ne_nil _ _ e.symm).elim) (λx r l' h e=>by rw [ih (xs:=r) ((List.cons.inj e).2 ▸ h),(List.cons.inj e).1];rfl) rfl
theorem VRs.getV {xs:List V}{vs:List Value}(r:VRs B σ φ h xs vs){k:Nat}{v:Value}(e:vs[k]? = some v):∃ x,xs[k]? = some x∧VR B σ φ h x v:=by
 have hk:k<vs.length:=(List.getElem?_eq_some_iff.mp e).1
 have hk':k<xs.length:=by rw [← r.length];exact hk
 refine x1_2 (r.get (List.getElem?_eq_getElem hk')) λv' e1 e2=>?_
 exact ⟨_,List.getElem?_eq_getElem hk',Option.some.inj (e.symm.trans e1) ▸ e2⟩
theorem qw2 {a b:Int}{t u:Tok}(hh:A.handled=none)(hq:Grow B σ φ s (.int (max a b)) Q):wpAny (model prog w) A (call (.builtin "max") [.int a t,.int b u]) Q E s:=by
 refine max_two_ints hh λh' tk hk=>?_
 have e:max a b=if b > a then b else a:=by split <;> lia
 rw [e] at hq
 split <;> rename_i hgt <;> simp only [hgt,if_true,if_false] at hq <;> exact hq _ _ _ hk (.int _ _)
theorem quz {v:V}{cv:Value}{xs:List V}(hx:getL σ v=some xs)(R:SR B σ φ s.heap)(r:VR B σ φ s.heap v cv)
  (hq:Grow B σ φ s (.tup xs) Q):wpAny (model prog w) A (call (.type "tuple") [cv]) Q E s :=
 qdd (z:=λcv=>wpAny (model prog w) A (call (.type "tuple") [cv]) Q E s) R hx r λa vs hp rs hn =>
  call_tuple_list hp.isList (λh' hk=>hq _ _ _ (λb o e=>Heap.get?_push_of_some _ (hk b o e)) (.tup ⟨0,Heap.get?_push_size _ rfl⟩ (rs.grow R λb o e=>Heap.get?_push_of_some _ (hk b o e)) hn)) (by rw [List.size_toArray,rs.length,← qbk];exact hn)
noncomputable def isaT:Bi->String
 | .isBool=>"bool" | .isInt=>"int" | .isStr=>"str" | .isTup=>"tuple" | _=>"list"
noncomputable def WY (prog:Program)(w:World)(A:Around)(E:Value->Shared->Prop)(s:Shared)(Q:Value->Shared->Prop)(T:String)(t:Bool)(cv:Value):Prop:=(∀ tk,Q (.bool t) { s with toks:=tk })->wpAny (model prog w) A (call (.builtin "isinstance") [cv,.type T]) Q E s
theorem isa_K {T:String}{n b i x t l:Bool}{v:V}{cv:Value}{u:Bool}(hv:isaK n b i x t l v=some u)(r:VR B σ φ s.heap v cv)(kn:WY prog w A E s Q T n .none)(kb:∀ y,WY prog w A E s Q T b (.bool y))(ki:∀ y t,WY prog w A E s Q T i (.int y t))(ks:∀ y t,WY prog w A E s Q T x (.str y t))
  (kt:∀ (a:Addr) (y:Array Value) n,s.heap.get? a=some { cls:=.type "tuple",data:=.seq y n }->WY prog w A E s Q T t (.ref a)) (kl:∀ (a:Addr) (y:Array Value) n,s.heap.get? a=some { cls:=.type "list",data:=.seq y n }->WY prog w A E s Q T l (.ref a)):WY prog w A E s Q T u cv:=by
 cases v with
 | none=>exact qal (P:=λu=>WY prog w A E s Q T u cv) hv (inNone (z:=WY prog w A E s Q T n) r kn)
 | bool y=>exact qal (P:=λu=>WY prog w A E s Q T u cv) hv (inBool (z:=WY prog w A E s Q T b) r (kb y))
 | int y=>exact qal (P:=λu=>WY prog w A E s Q T u cv) hv (inInt (z:=WY prog w A E s Q T i) r λt=>ki y t)
 | str y=>exact qal (P:=λu=>WY prog w A E s Q T u cv) hv (inText (z:=WY prog w A E s Q T x) r λt _=>ks _ t)
 | tup y=>exact qal (P:=λu=>WY prog w A E s Q T u cv) hv (inTup (z:=WY prog w A E s Q T t) r λa vs ⟨n,h⟩ _ _=>kt a _ n h)
 | lst y=>exact qal (P:=λu=>WY prog w A E s Q T u cv) hv (inLst (z:=WY prog w A E s Q T l) r λa vs ⟨n,h⟩ _ _ _=>kl a _ n h)
 | _=>exact qah hv
theorem qqh {v:V}{cv:Value}{t:Bool}(hv:vIsa .isStr v=some t)(r:VR B σ φ s.heap v cv):WY prog w A E s Q "str" t cv :=
 isa_K hv r (λk=>IsiPair.NoneType_str (k _)) (λ_ k=>IsiPair.bool_str (k _)) (λ_ _ k=>IsiPair.int_str (k _)) (λ_ _ k=>IsiPair.str_str (k _)) (λ_ _ _ e k=>IsiPair.tuple_str e rfl (k _)) (λ_ _ _ e k=>IsiPair.list_str e rfl (k _))
theorem qlh {v:V}{cv:Value}{t:Bool}(hv:vIsa .isTup v=some t)(r:VR B σ φ s.heap v cv):WY prog w A E s Q "tuple" t cv :=
 isa_K hv r (λk=>IsiPair.NoneType_tuple (k _)) (λ_ k=>IsiPair.bool_tuple (k _)) (λ_ _ k=>IsiPair.int_tuple (k _)) (λ_ _ k=>IsiPair.str_tuple (k _)) (λ_ _ _ e k=>IsiPair.tuple_tuple e rfl (k _)) (λ_ _ _ e k=>IsiPair.list_tuple e rfl (k _))
theorem qmx {v:V}{cv:Value}{t:Bool}(hv:vIsa .isLst v=some t)(r:VR B σ φ s.heap v cv):WY prog w A E s Q "list" t cv :=
 isa_K hv r (λk=>IsiPair.NoneType_list (k _)) (λ_ k=>IsiPair.bool_list (k _)) (λ_ _ k=>IsiPair.int_list (k _)) (λ_ _ k=>IsiPair.str_list (k _)) (λ_ _ _ e k=>IsiPair.tuple_list e rfl (k _)) (λ_ _ _ e k=>IsiPair.list_list e rfl (k _))
theorem op_isa {b:Bi}{v:V}{cv:Value}{t:Bool}(hv:vIsa b v=some t)(hb:∀ c,b≠.isExc c)(r:VR B σ φ s.heap v cv)
  (hq:Grow B σ φ s (.bool t) Q):wpAny (model prog w) A (call (.builtin "isinstance") [cv,.type (isaT b)]) Q E s:=by
 have k:∀ tk,Q (.bool t) { s with toks:=tk }:=λtk=>hq _ _ tk qat (.bool _)
 cases b with
 | isBool=>cases hv
 | isInt=>cases hv
 | isStr=>exact qqh hv r k
 | isTup=>exact qlh hv r k
 | isLst=>exact qmx hv r k
 | isExc c=>exact (hb c rfl).elim
 | _=>exact qah hv
theorem qsz {i:Nat}{xs:List V}{cv:Value}(hi:σ[i]? = some (.lst xs))(R:SR B σ φ s.heap)(r:VR B σ φ s.heap (.ref i) cv)
  (hq:Grow B σ φ s (.bool true) Q):wpAny (model prog w) A (call (.builtin "isinstance") [cv,.type "list"]) Q E s :=
 qb3 (z:=λcv=>wpAny (model prog w) A (call (.builtin "isinstance") [cv,.type "list"]) Q E s) R hi r λa vs _ ⟨_,e⟩ _ _=>IsiPair.list_list e rfl (hq _ _ _ qat (.bool _))
end
end Mine.Internal
namespace Mine.Internal
open PySem PyProof.Rows PySem.Calls
section
variable {prog:Program} {w:World} {A:Around} {E:Value->Shared->Prop} {s:Shared} {B:Bs} {σ:Sg} {φ:List Addr} {Q:Value->Shared->Prop} {h:Heap}
theorem qur {i:Int}{n k:Nat}(e:nIdx i n=some k):seqIndex? i n=some k∧k<n∧((0≤i∧k=i.toNat)∨(i<0∧-(n:Int)≤i∧k=(i+(n:Int)).toNat)):=by
 unfold nIdx at e
 unfold seqIndex?
 by_cases h0:0≤i
 ·rw [if_pos h0] at e
  refine qbt (P:=λk=>_∧k<n∧((0≤i∧k=i.toNat)∨_)) e λh1=>⟨?_,(Int.toNat_lt h0).mpr h1,.inl ⟨h0,rfl⟩⟩
  simp only [Int.not_lt.mpr h0,if_false]
  rw [if_pos (by rw [Bool.and_eq_true,decide_eq_true_eq,decide_eq_true_eq];exact ⟨h0,h1⟩),Option.some.inj (e.symm.trans (if_pos h1))]
 ·rw [if_neg h0] at e
  have h0':=Int.not_le.mp h0
  refine qbt (P:=λk=>_∧k<n∧(_∨(i<0∧-(n:Int)≤i∧k=(i+(n:Int)).toNat))) e λh1=>⟨?_,by lia,.inr ⟨h0',by lia,rfl⟩⟩
  simp only [h0',if_true]
  rw [if_pos (by rw [Bool.and_eq_true,decide_eq_true_eq,decide_eq_true_eq];exact ⟨h1,by lia⟩),Option.some.inj (e.symm.trans (if_pos h1))]
noncomputable def WG (prog:Program)(w:World)(A:Around)(E:Value->Shared->Prop)(s:Shared)(Q:Value->Shared->Prop)(ci cv:Value):Prop:=(∃ T id,s.TypeIs cv T∧typeLookup (.type T) "__getitem__" = pure (some (.builtin id)))∧wpAny (model prog w) A (getItem cv ci) Q E s
theorem qk9 {a:Addr}{xs:List V}{vs:List Value}{i:Int}{t:Tok}{k:Nat}{x:V}(hsm:-4611686018427387904<i∧i<4611686018427387904)(h3:(0≤i∧k=i.toNat)∨(i<0∧-(xs.length:Int)≤i∧k=(i+(xs.length:Int)).toNat))(hx:xs[k]? = some x)
  (hl:s.heap.PlainList a vs.toArray) (rs:VRs B σ φ s.heap xs vs) (hq:Grow B σ φ s x Q):WG prog w A E s Q (.int i t) (.ref a):=by
 refine x1_2 (rs.get hx) λu e1 e2=>?_
 have e:=rs.length
 have e1':vs.toArray[k]? = some u:=by simpa using e1
 refine ⟨⟨_,_,hl.isList.typeIs,slot_list_getitem.lookup⟩,?_⟩
 rcases h3 with ⟨h4,h5⟩ | ⟨h4,h5,h6⟩
 ·exact wpAny_getItem_list hl.isList h4 (by lia) (by rw [← h5];exact e1') (hq _ _ _ qat e2)
 ·exact wpAny_getItem_list_neg hl.isList h4 (by rw [List.size_toArray,e];exact h5) (by lia) (by rw [List.size_toArray,e,← h6];exact e1') (hq _ _ _ qat e2)
theorem qwy {v:V}{cv:Value}{i:Int}{t:Tok}{x:V}(hv:vIdx σ v (.int i)=some x)(R:SR B σ φ s.heap)(r:VR B σ φ s.heap v cv)
  (hq:Grow B σ φ s x Q):WG prog w A E s Q (.int i t) cv:=by
 replace hv:(if small i then (getSeq σ v).bind λxs=>(nIdx i xs.length).bind λk=>xs[k]? else none)=some x:=hv
 by_cases hs:small i=true
 case neg=>rw [if_neg hs] at hv;exact qah hv
 rw [if_pos hs] at hv
 have hsm:=qdx hs
 refine qdm hv λxs hx hv1=>qdm hv1 λk hk hg=>?_
 clear hv hv1
 refine x0_3 (qur hk) λh1 h2 h3=>?_
 cases v with
 | tup ys =>
   refine inTup (z:=WG prog w A E s Q (.int i t)) r λa vs ht rs hn=>?_
   rw [← Option.some.inj hx] at h1 hg
   refine x1_2 (rs.get hg) λu e1 e2=>?_
   refine ⟨⟨"tuple",_,(let ⟨_,ho⟩:=ht;⟨_,ho,rfl⟩),PySem.F.slot_tuple_getitem.lookup⟩,?_⟩
   exact PyProof.Rows.getItem_tuple ht.isTup (by lia) (by lia) (by rw [List.size_toArray,rs.length];exact h1) (by simpa using e1) (hq _ _ _ qat e2)
 | str y =>
   refine inText (z:=WG prog w A E s Q (.int i t)) r λt' _=>?_
   rw [← Option.some.inj hx,List.length_map] at h1
   rw [← Option.some.inj hx,List.getElem?_map] at hg
   refine qcz (P:=λx=>Grow B σ φ s x Q->WG prog w A E s Q (.int i t) (.str ⟨y.toArray⟩ t')) hg (λc e1 hq=>⟨⟨"str",_,typeIs_str s _ t',PySem.F.slot_str_getitem.lookup⟩,?_⟩) hq
   refine PyProof.Rows.getItem_str (c:=c) (by rw [Bool.or_eq_false_iff];exact ⟨decide_eq_false (by lia),decide_eq_false (by lia)⟩) ?_ (hq _ _ _ qat (.str [c] _ (by show 1≤roomy;decide)))
   rw [strLen,h1]
   simpa using e1
 | lst ys =>
   refine inLst (z:=WG prog w A E s Q (.int i t)) r λa vs hl _ rs hn=>?_
   rw [← Option.some.inj hx] at h3 hg
   exact qk9 hsm h3 hg hl rs hq
 | ref j=>exact qdd (z:=WG prog w A E s Q (.int i t)) R (show getL σ (.ref j)=some xs from hx) r λa vs hl rs _=>qk9 hsm h3 hg hl rs hq
 | _=>exact qah hx
theorem qll {α:Type}(xs:List α):∀ (m a:Nat),a+m≤xs.length->(List.range' a m).filterMap (xs[·]?)=(xs.drop a).take m
 | 0,_,_=>by simp
 | m+1,a,hb=>by
  have h1:a<xs.length:=by lia
  rw [List.range'_succ,List.filterMap_cons,List.getElem?_eq_getElem h1,qll xs m (a+1) (by lia),List.drop_eq_getElem_cons h1,List.take_succ_cons]
theorem qqk {α:Type}(xs:List α)(a b:Nat)(hb:b≤xs.length):((List.range (b - a)).map (a + ·)).filterMap (xs[·]?)=(xs.take b).drop a:=by
 rw [← List.range'_eq_map_range]
 by_cases hab:a≤b
 ·rw [qll xs (b - a) a (by lia),List.drop_take]
 ·rw [show b - a=0 by lia]
  rw [List.drop_eq_nil_of_le (by rw [List.length_take];lia)];rfl
theorem qjd (i:Int)(n:Nat):max 0 (min (if i<0 then i+(n:Int) else i) (n:Int))=((clamp i n:Nat):Int):=by
 unfold clamp
 by_cases h:i<0
 ·rw [if_pos h,if_pos h,Int.toNat_eq_max,Int.min_eq_left (Int.le_of_lt (by lia)),Int.max_comm]
 ·rw [if_neg h,if_neg h];lia
theorem qhh (lo hi:Option Int)(n:Nat):sliceBounds lo hi none n=((loOf lo n:Int),(hiOf hi n:Int),1):=by
 cases lo with
 | none=>cases hi with
  | none=>rfl
  | some j=>exact congrArg (λx=>((0:Int),x,(1:Int))) (qjd j n)
 | some i=>cases hi with
  | none=>exact congrArg (λx=>(x,(n:Int),(1:Int))) (qjd i n)
  | some j=>exact (congrArg (λx=>(x,max 0 (min (if j<0 then j+(n:Int) else j) (n:Int)),(1:Int))) (qjd i n)).trans (congrArg (λx=>(((clamp i n:Nat):Int),x,(1:Int))) (qjd j n))
theorem qt1 (i:Int)(n:Nat):clamp i n≤n:=by unfold clamp;split <;> lia
theorem qr3 (hi:Option Int)(n:Nat):hiOf hi n≤n:=by
 cases hi with
 | none=>exact Nat.le_refl _
 | some i=>exact qt1 i _
theorem qvp {α:Type}(xs:List α)(lo hi:Option Int) :
  (sliceRange (sliceBounds lo hi none xs.length).1 (sliceBounds lo hi none xs.length).2.1 (sliceBounds lo hi none xs.length).2.2).filterMap (xs[·]?)=cut xs lo hi:=by
 rw [qhh]
 dsimp only
 rw [sliceRange_one,qqk]
 ·rfl
 ·exact qr3 hi _
theorem qu1 (vs:List Value)(lo hi:Option Int):slicePick vs.toArray lo hi none=(cut vs lo hi).toArray:=by
 unfold slicePick
 rw [← qvp vs lo hi]
 simp
theorem qh2 (lo hi:Option Int)(n:Nat):Builtin.Str.strSliceIndices lo hi 1 n=sliceRange (sliceBounds lo hi none n).1 (sliceBounds lo hi none n).2.1 (sliceBounds lo hi none n).2.2:=by
 unfold Builtin.Str.strSliceIndices sliceBounds
 rfl
theorem qhn {α:Type}(xs:List α)(lo hi:Option Int):(cut xs lo hi).length≤xs.length:=by
 unfold cut
 simp only [List.length_drop,List.length_take]
 omega
theorem VRs.cut {xs:List V}{vs:List Value}(r:VRs B σ φ h xs vs)(lo hi:Option Int):VRs B σ φ h (Mine.Internal.cut xs lo hi) (Mine.Internal.cut vs lo hi):=by
 unfold Mine.Internal.cut
 simp only [r.length]
 exact (r.take _).drop _
theorem str_cut (x:List Nat)(lo hi:Option Int):(⟨((Builtin.Str.strSliceIndices lo hi 1 (⟨x.toArray⟩:Str).length).filterMap ((⟨x.toArray⟩:Str).cps[·]?)).toArray⟩:Str)=⟨(cut x lo hi).toArray⟩:=by
 have e:(⟨x.toArray⟩:Str).length=x.length:=by simp [Str.length]
 rw [e,qh2,← qvp x lo hi]
 simp
theorem qrl {α:Type}(x:List α)(lo hi:Option Int)(h:(sliceRange (sliceBounds lo hi none x.length).1 (sliceBounds lo hi none x.length).2.1 (sliceBounds lo hi none x.length).2.2).length=x.length):cut x lo hi=x:=by
 rw [qhh] at h
 dsimp only at h
 rw [sliceRange_one] at h
 simp only [List.length_map,List.length_range] at h
 unfold cut
 have h1:=qr3 hi x.length
 by_cases hx:x=[]
 ·subst hx;simp
 ·have:0<x.length:=List.length_pos_iff.mpr hx
  rw [show loOf lo x.length=0 by lia,show hiOf hi x.length=x.length by lia];simp
theorem qs3 {v:Value}{o:Option Int}(p:IsPart v o):∃ l:Option (Int×Tok),partValue l=v∧l.map (·.1)=o:=by
 cases p with
 | none=>exact ⟨none,rfl,rfl⟩
 | int i t=>exact ⟨some (i,t),rfl,rfl⟩
theorem qwd {x:List Nat}{t:Tok}{lo hi:Option Int}{sl:Addr}{vl vu:Value}(hx:x.length≤roomy)(hs:s.heap.IsSliceOf sl vl vu .none)(pl:IsPart vl lo)(pu:IsPart vu hi)
  (hq:Grow B σ φ s (.str (cut x lo hi)) Q):WG prog w A E s Q (.ref sl) (.str ⟨x.toArray⟩ t):=by
 refine ⟨⟨"str",_,typeIs_str s _ t,PySem.F.slot_str_getitem.lookup⟩,?_⟩
 refine x1_3 (hs) λo ho hc hd=>?_
 refine x1_2 (qs3 pl) λl e1 e3=>?_
 refine x1_2 (qs3 pu) λu e2 e4=>?_
 refine wpAny_getItem_str_slice (l:=l) (u:=u) (st:=none) ⟨o,ho,hc,by rw [hd,e1,e2];rfl⟩ rfl ?_
 unfold sliceMade slicePicked
 rw [e3,e4]
 dsimp only [Option.map_none,Option.getD_none]
 split
 ·rename_i hw
  rw [Bool.and_eq_true,qh2,strLen] at hw
  rw [qrl x lo hi (beq_iff_eq.mp hw.2)] at hq
  exact hq _ _ _ qat (.str _ _ hx)
 ·rw [str_cut]
  have hle:(cut x lo hi).length≤roomy:=Nat.le_trans (qhn _ _ _) hx
  exact ⟨by rw [← qbk,strLen];exact hle,hq _ _ _ qat (.str _ _ hle)⟩
theorem qwe {a:Addr}{xs:List V}{vs:List Value}{lo hi:Option Int}{sl:Addr}{vl vu:Value}(hc:(hi.isNone && decide (1≤lo.getD 0∧lo.getD 0≤(xs.length:Int)))=true)(ht:PTup s.heap a vs.toArray)(rs:VRs B σ φ s.heap xs vs)(hn:xs.length≤roomy)(R:SR B σ φ s.heap)
  (hs:s.heap.IsSliceOf sl vl vu .none) (pl:IsPart vl lo) (pu:IsPart vu hi) (hq:Grow B σ φ s (.tup (cut xs lo hi)) Q):WG prog w A E s Q (.ref sl) (.ref a):=by
 rw [Bool.and_eq_true,decide_eq_true_eq] at hc
 refine ⟨⟨"tuple",_,(let ⟨_,ho⟩:=ht;⟨_,ho,rfl⟩),PySem.F.slot_tuple_getitem.lookup⟩,?_⟩
 have e:=rs.length
 cases pu with
 | int _ _=>exact Bool.noConfusion hc.1
 | none=>cases pl with
  | none=>exact absurd hc.2.1 (by decide)
  | int i t' =>
   have hc2:1≤i∧i≤(xs.length:Int):=hc.2
   have ei:i=((i.toNat:Nat):Int):=by lia
   rw [ei] at hs
   refine getItem_tuple_from ht.isTup hs (by lia) (by rw [List.size_toArray,e];lia) ?_ (by rw [List.size_toArray,e,← qbk];exact hn)
   have ec:cut xs (some i) none=xs.drop i.toNat:=by
    unfold cut loOf hiOf clamp
    dsimp only
    rw [if_neg (by lia),List.take_length,Nat.min_eq_left (by lia)]
   rw [ec] at hq
   exact hq _ _ _ (qaj _ _) (VR.newTup R (rs.drop _) (by rw [List.length_drop];exact Nat.le_trans (Nat.sub_le _ _) hn) 0)
theorem qrj {v:V}{cv:Value}{x:V}{lo hi:Option Int}{sl:Addr}{vl vu:Value}(hv:((getL σ v).map λxs=>V.lst (cut xs lo hi))=some x)(R:SR B σ φ s.heap)(r:VR B σ φ s.heap v cv)
  (hs:s.heap.IsSliceOf sl vl vu .none) (pl:IsPart vl lo) (pu:IsPart vu hi) (hq:Grow B σ φ s x Q):WG prog w A E s Q (.ref sl) cv :=
 qcz (P:=λx=>Grow B σ φ s x Q->WG prog w A E s Q (.ref sl) cv) hv (λxs hx hq=>qdd (z:=WG prog w A E s Q (.ref sl)) R hx r λa vs hl rs hn =>
  ⟨⟨_,_,hl.isList.typeIs,slot_list_getitem.lookup⟩,wpAny_getItem_list_slice hl.isList hs pl pu .none (by simp) (by rw [qu1];exact hq _ _ _ (qaj _ _) (VR.newLst R (rs.cut lo hi) (Nat.le_trans (qhn _ _ _) hn) 0)) (by rw [List.size_toArray,rs.length,← qbk];exact hn)⟩) hq
theorem op_cut {v:V}{cv:Value}{x:V}{lo hi:Option Int}{sl:Addr}{vl vu:Value}(hv:vCut σ v lo hi=some x)(R:SR B σ φ s.heap)(r:VR B σ φ s.heap v cv)
  (hs:s.heap.IsSliceOf sl vl vu .none) (pl:IsPart vl lo) (pu:IsPart vu hi)
  (hq:Grow B σ φ s x Q):WG prog w A E s Q (.ref sl) cv:=by
 unfold vCut at hv
 by_cases hsm:(smallO lo && smallO hi)=true
 case neg=>rw [if_neg hsm] at hv;exact qah hv
 rw [if_pos hsm] at hv
 cases v with
 | str x0=>exact qal (P:=λx=>Grow B σ φ s x Q->WG prog w A E s Q (.ref sl) cv) hv (λhq=>inText (z:=WG prog w A E s Q (.ref sl)) r λt hx=>qwd hx hs pl pu hq) hq
 | tup xs=>exact qbt (P:=λx=>Grow B σ φ s x Q->WG prog w A E s Q (.ref sl) cv) hv (λhc hq=>inTup (z:=WG prog w A E s Q (.ref sl)) r λa vs ht rs hn=>qwe hc ht rs hn R hs pl pu hq) hq
 | lst xs=>exact qrj (v:=.lst xs) hv R r hs pl pu hq
 | ref i=>exact qrj (v:=.ref i) hv R r hs pl pu hq
 | _=>exact qah hv
end
end Mine.Internal
namespace Mine.Internal
open PySem PyProof.Rows PySem.Calls
section
variable {prog:Program} {w:World} {A:Around} {E:Value->Shared->Prop} {s:Shared} {B:Bs} {σ:Sg} {φ:List Addr} {Q:Value->Shared->Prop} {h:Heap}
theorem qtd:∀ {l:List (List Nat)} {vs:List Value},VRs B σ φ h (l.map V.str) vs->∃ ts:List (Str×Tok),strValues ts=vs∧ts.map (·.1)=l.map (λx=>⟨x.toArray⟩)
 | [],_,r=>inNil (z:=λvs=>∃ ts:List (Str×Tok),strValues ts=vs∧ts.map (·.1)=[]) r ⟨[],rfl,rfl⟩
 | x::l,_,r=>inCons (z:=λvs=>∃ ts:List (Str×Tok),strValues ts=vs∧ts.map (·.1)=(x::l).map (λx=>(⟨x.toArray⟩:Str))) r λv ws a rs=>inText (z:=λv=>∃ ts:List (Str×Tok),strValues ts=v::ws∧ts.map (·.1)=(x::l).map (λx=>(⟨x.toArray⟩:Str))) a λt _ =>
   let ⟨ts,h1,h2⟩:=qtd rs;⟨(⟨x.toArray⟩,t)::ts,congrArg (Value.str ⟨x.toArray⟩ t::·) h1,congrArg ((⟨x.toArray⟩:Str)::·) h2⟩
theorem qh3 (a b:List Nat):(⟨a.toArray⟩:Str)++(⟨b.toArray⟩:Str)=⟨(a++b).toArray⟩:=by
 show Str.append _ _=_
 unfold Str.append
 simp
theorem strJoin (sep:List Nat):∀ l:List (List Nat),Str.join ⟨sep.toArray⟩ (l.map λx=>(⟨x.toArray⟩:Str))=⟨(joinS sep l).toArray⟩
 | []=>rfl
 | [x]=>rfl
 | x::y::r=>by
  have ih:=strJoin sep (y::r)
  rw [List.map_cons] at ih
  rw [List.map_cons,List.map_cons,Str.join,ih,qh3,qh3]
  ·rfl
  ·intro e;cases e
theorem txtJoin (sep:List Nat)(l:List (List Nat)):Txt.join ⟨sep.toArray⟩ (l.map λx=>(⟨x.toArray⟩:Str))=⟨(joinS sep l).toArray⟩:=by
 rw [← strJoin]
 cases l with
 | nil=>rfl
 | cons x r=>rw [List.map_cons];exact StrLaws.glued_cons _ _ _
theorem joinLen (sep:List Nat):∀ l:List (List Nat),(joinS sep l).length≤(l.map λx=>x.length+sep.length).sum
 | []=>Nat.zero_le _
 | [x]=>Nat.le_add_right _ _
 | x::y::r=>by
  have:=joinLen sep (y::r)
  show (x++sep++joinS sep (y::r)).length≤_
  simp only [List.length_append,List.map_cons,List.sum_cons] at this ⊢
  lia
theorem qla (sep:List Nat):∀ (l:List (List Nat)) (acc:Nat),(l.map λx=>(⟨x.toArray⟩:Str)).foldl (λa b=>a+b.length+(⟨sep.toArray⟩:Str).length) acc=acc+(l.map λx=>x.length+sep.length).sum
 | [],acc=>rfl
 | x::r,acc=>by rw [List.map_cons,List.foldl_cons,qla sep r,List.map_cons,List.sum_cons,strLen,strLen,Nat.add_assoc acc,Nat.add_assoc acc]
noncomputable def WJ (prog:Program)(w:World)(A:Around)(E:Value->Shared->Prop)(s:Shared)(Q:Value->Shared->Prop)(cs cl:Value):Prop:=∃ x t,cs = .str x t∧wpAny (model prog w) A (call (.builtin "str.join") [cs,cl]) Q E s
theorem qwz {sp l:V}{cs cl:Value}{v:V}(hv:vJoin σ sp l=some v)(R:SR B σ φ s.heap)(rs:VR B σ φ s.heap sp cs)(rl:VR B σ φ s.heap l cl)
  (hq:Grow B σ φ s v Q):WJ prog w A E s Q cs cl:=by
 cases sp with
 | str sep =>
  refine qdm hv λts hts hv=>qdm hts λxs hx hts=>qbt (P:=λv=>Grow B σ φ s v Q->WJ prog w A E s Q cs cl) hv (λhsz hq=>?_) hq
  rw [qpp hts] at hx
  refine inText (z:=λcs=>WJ prog w A E s Q cs cl) rs λt _=>qdd (z:=WJ prog w A E s Q (.str ⟨sep.toArray⟩ t)) R hx rl λa vs hl rvs hn=>⟨_,_,rfl,?_⟩
  refine x1_2 (qtd rvs) λl' h1 h2=>?_
  refine SC.join (l:=l') (texts:=ts.map λx=>⟨x.toArray⟩) (by rw [h1];exact hl.isList) h2 ?_ λt' k=>?_
  ·unfold JoinOk
   rw [Bool.not_eq_true']
   exact decide_eq_false (by rw [List.foldl_toArray,qla,Nat.zero_add];show ¬ _ > sizeLine;rw [← qbk];exact Nat.not_lt.mpr hsz)
  ·rw [txtJoin]
   exact hq _ _ _ qat (.str _ _ (Nat.le_trans (joinLen _ _) hsz))
 | _=>exact qah hv
end
end Mine.Internal
namespace Mine.Internal
open PySem PyProof.Rows PySem.Calls
section
variable {prog:Program} {w:World} {A:Around} {E:Value->Shared->Prop} {s:Shared} {B:Bs} {σ:Sg} {φ:List Addr} {Q:Value->Shared->Prop} {h:Heap}
theorem qhf (kvs:List (Int×Value))(k:Int):(valueAt kvs k).isSome=decide (k∈kvs.map (·.1)):=by
 unfold valueAt
 rw [Option.isSome_map,Bool.eq_iff_iff]
 simp [List.find?_isSome]
theorem qd3 (kvs:List (List Int×Addr×Value))(k:List Int):(atKey kvs k).isSome=decide (k∈kvs.map (·.1)):=by
 unfold atKey
 rw [Option.isSome_map,Bool.eq_iff_iff]
 simp [List.find?_isSome]
theorem intKey (k:Int)(t:Tok):(intKind prog w).is k (.int k t)=true:=by simp [intKind,Value.isInt]
theorem qhv:∀ {l:List Int} {vs:List Value},VRs B σ φ h (l.map V.int) vs->PySem.ItemsAre (intKind prog w) l vs
 | [],_,r=>inNil (z:=PySem.ItemsAre (intKind prog w) []) r .nil
 | i::l,_,r=>inCons (z:=PySem.ItemsAre (intKind prog w) (i::l)) r λv ws a rs=>inInt (z:=λv=>PySem.ItemsAre (intKind prog w) (i::l) (v::ws)) a λt=>.cons (intKey i t) (qhv rs)
theorem tupKey {a:Addr}{vs:List Value}{xs:List V}{l:List Int}(ht:PTup h a vs.toArray)(rs:VRs B σ φ h xs vs)(hl:intsV xs=some l):(tupleKind (intKind prog w)).is h l a:=by
 obtain ⟨n,e⟩:=ht
 exact ⟨_,_,n,e,rfl,rfl,qhv (qt9 hl ▸ rs)⟩
theorem qmv {i:Nat}{ks:List Int}{k:Int}{ck cd:Value}(hi:σ[i]? = some (.dictI ks))(hB:prog=B.prog∧w=B.w)(R:SR B σ φ s.heap)(rk:VR B σ φ s.heap (.int k) ck)(r:VR B σ φ s.heap (.ref i) cd):WI prog w A E s Q ck cd (decide (k∈ks)) :=
 inInt (z:=λck=>WI prog w A E s Q ck cd (decide (k∈ks))) rk λt=>inRef (z:=λcd=>WI prog w A E s Q (.int k t) cd (decide (k∈ks))) r λa ha=>by
  obtain ⟨a',e1,⟨kvs,D,ek⟩,hr⟩:=R.dictI i ks hi
  rw [← Option.some.inj (ha.symm.trans e1)] at D
  have hs:=R.sys _ (List.mem_of_getElem? ha)
  rw [hB.1,hB.2,← ek,← qhf]
  exact ⟨λhq=>wpAny_in_of (intKey k t) hs D.mapOf (hq _),λhq=>wpAny_notIn_of (intKey k t) hs D.mapOf (hq _)⟩
theorem qmw {i:Nat}{ks:List (List Int)}{xs:List V}{l:List Int}{cd ck:Value}(hi:σ[i]? = some (.dictP ks))(hl:intsV xs=some l)(hB:prog=B.prog∧w=B.w)(R:SR B σ φ s.heap)
  (rk:VR B σ φ s.heap (.tup xs) ck) (r:VR B σ φ s.heap (.ref i) cd) (hu:A.units+64<cLine):WI prog w A E s Q ck cd (decide (l∈ks)) :=
 inTup (z:=λck=>WI prog w A E s Q ck cd (decide (l∈ks))) rk λb vs ht rs _=>inRef (z:=λcd=>WI prog w A E s Q (.ref b) cd (decide (l∈ks))) r λa ha=>by
  obtain ⟨a',e1,⟨kvs,D,ek⟩,hr⟩:=R.dictP i ks hi
  rw [← Option.some.inj (ha.symm.trans e1)] at D
  have hs:=R.sys _ (List.mem_of_getElem? ha)
  have hroom:(tupleKind (intKind B.prog B.w)).room A.in1:=tupleKind_room_in1 (by lia)
  rw [hB.1,hB.2,← ek,← qd3]
  exact ⟨λhq=>wpAny_in_heap hroom (tupKey ht rs hl) hs D (hq _),λhq=>wpAny_notIn_heap hroom (tupKey ht rs hl) hs D (hq _)⟩
theorem qvy {a:V}{ca cb:Value}{ys:List V}{u:Bool}(hv:inG a ys=some u)(H:Holds3 B σ φ s.heap cb ys)(ra:VR B σ φ s.heap a ca)(hu:A.units+64<cLine):WI prog w A E s Q ca cb u :=
 qbt (P:=WI prog w A E s Q ca cb) hv λhp=>qd2 hp λh1 h2=>qsy H h1 h2 ra hu
theorem qjy {a:V}{ca cb:Value}{ys:List V}{u:Bool}(hv:inSeq a ys=some u)(H:Holds3 B σ φ s.heap cb ys)(ra:VR B σ φ s.heap a ca)(hu:A.units+64<cLine):WI prog w A E s Q ca cb u:=by
 cases a with
 | str z =>
  replace hv:(match strsV ys with | some l=>inStrs z l | none=>inG (.str z) ys)=some u:=hv
  cases hl:strsV ys with
  | none=>rw [hl] at hv;exact qvy hv H ra hu
  | some l =>
   rw [hl] at hv
   exact qbt (P:=WI prog w A E s Q ca cb) hv λhp=>qd2 hp λh1 h2=>qqg H hl h1 h2 ra hu
 | _=>exact qvy hv H ra hu
theorem qwn {c:Nat}{x:List Nat}{t t':Tok}:WI prog w A E s Q (.str ⟨[c].toArray⟩ t) (.str ⟨x.toArray⟩ t') (x.contains c):=by
 have e:Txt.contains ⟨x.toArray⟩ ⟨[c].toArray⟩=x.contains c:=by
  show (!(Builtin.Str.occurrences ⟨x.toArray⟩ ⟨#[c]⟩ 0 (⟨x.toArray⟩:Str).length 1).isEmpty)=_
  rw [StrLaws.found_one]
  simp
 exact ⟨λhq=>SB.contains (by rw [e];exact hq s.toks),λhq=>SB.notContains (by rw [e];exact hq s.toks)⟩
theorem qux {a:V}{ca cb:Value}{x:List Nat}{u:Bool}(hv:inStr a x=some u)(ra:VR B σ φ s.heap a ca)(rb:VR B σ φ s.heap (.str x) cb):WI prog w A E s Q ca cb u:=by
 cases a with
 | str z =>
  refine inText (z:=λca=>WI prog w A E s Q ca cb u) ra λt _=>inText (z:=λcb=>WI prog w A E s Q (.str ⟨z.toArray⟩ t) cb u) rb λt' _=>?_
  cases z with
  | nil=>exact qah hv
  | cons c r=>cases r with
   | nil=>exact qal (P:=WI prog w A E s Q (.str ⟨[c].toArray⟩ t) (.str ⟨x.toArray⟩ t')) hv qwn
   | cons _ _=>exact qah hv
 | _=>exact qah hv
theorem qsx {a:V}{ca cb:Value}{i:Nat}{u:Bool}(hv:inCell a σ[i]? = some u)(hB:prog=B.prog∧w=B.w)(R:SR B σ φ s.heap)(ra:VR B σ φ s.heap a ca)(rb:VR B σ φ s.heap (.ref i) cb)(hu:A.units+64<cLine):WI prog w A E s Q ca cb u:=by
 cases hi:σ[i]? with
 | none=>rw [hi] at hv;exact qah hv
 | some c =>
  rw [hi] at hv
  cases c with
  | lst xs=>exact qjy hv (holds3 (.inr (.inr ⟨_,rfl,hi⟩)) R rb) ra hu
  | dictI ks=>cases a with
   | int k=>exact qal (P:=WI prog w A E s Q ca cb) hv (qmv hi hB R ra rb)
   | _=>exact qah hv
  | dictP ks=>cases a with
   | tup xs=>exact qcz (P:=WI prog w A E s Q ca cb) hv λl hl=>qmw hi hl hB R ra rb hu
   | _=>exact qah hv
  | dead=>exact qah hv
theorem op_in {a b:V}{ca cb:Value}{u:Bool}(hv:vIn σ a b=some u)(hB:prog=B.prog∧w=B.w)(R:SR B σ φ s.heap)(ra:VR B σ φ s.heap a ca)(rb:VR B σ φ s.heap b cb)(hu:A.units+64<cLine):WI prog w A E s Q ca cb u:=by
 cases b with
 | str x=>exact qux hv ra rb
 | ref i=>exact qsx hv hB R ra rb hu
 | lst xs=>exact qjy hv (holds3 (.inl rfl) R rb) ra hu
 | tup xs=>exact qjy hv (holds3 (.inr (.inl rfl)) R rb) ra hu
 | _=>exact qah hv
theorem qms {o:Option Bool}{t:Bool}{z:Bool->Prop}(h:o.map not=some t)(k:∀ u,o=some u->z (!u)):z t:=qcz h k
theorem qsw {op:Cop}{a b:V}{ca cb:Value}{t:Bool}(hv:vCmp σ op a b=some t)(hB:prog=B.prog∧w=B.w)(R:SR B σ φ s.heap)(ra:VR B σ φ s.heap a ca)(rb:VR B σ φ s.heap b cb)
  (hu:A.units+64<cLine) (hq:∀ tk,Q (.bool t) { s with toks:=tk }):WC prog w A E s Q (cop op) ca cb:=by
 cases op with
 | eq=>exact (op_eq hv R ra rb hu).1 (hq s.toks)
 | ne=>exact qms (z:=λt=>(∀ tk,Q (.bool t) { s with toks:=tk })->WC prog w A E s Q .NotEq ca cb) hv (λu h1 hq=>(op_eq h1 R ra rb hu).2 (hq s.toks)) hq
 | isin=>exact (op_in hv hB R ra rb hu).1 hq
 | notin=>exact qms (z:=λt=>(∀ tk,Q (.bool t) { s with toks:=tk })->WC prog w A E s Q .NotIn ca cb) hv (λu h1 hq=>(op_in h1 hB R ra rb hu).2 hq) hq
 | is=>exact (op_is hv ra rb).1 (hq s.toks)
 | isnot=>exact qms (z:=λt=>(∀ tk,Q (.bool t) { s with toks:=tk })->WC prog w A E s Q .IsNot ca cb) hv (λu h1 hq=>(op_is h1 ra rb).2 (hq s.toks)) hq
 | lt=>exact ii_VR (P:=WC prog w A E s Q .Lt) hv ra rb λi j t u e=>P.lt_int (Option.some.inj e ▸ hq s.toks)
 | le=>exact ii_VR (P:=WC prog w A E s Q .LtE) hv ra rb λi j t u e=>P.le_int (Option.some.inj e ▸ hq s.toks)
 | gt=>exact ii_VR (P:=WC prog w A E s Q .Gt) hv ra rb λi j t u e=>P.gt_int (Option.some.inj e ▸ hq s.toks)
 | ge=>exact ii_VR (P:=WC prog w A E s Q .GtE) hv ra rb λi j t u e=>P.ge_int (Option.some.inj e ▸ hq s.toks)
theorem qs4 {a:Addr}{items:Array Value}(hl:h.PlainList a items)(f:Array Value->Array Value) :
  (h.update a (Obj.mapSeq f)).PlainList a (f items)∧∀ b o,b≠a->h.get? b=some o->(h.update a (Obj.mapSeq f)).get? b=some o:=by
 obtain ⟨n,ho⟩:=hl
 refine ⟨⟨_,(Heap.get?_update_self _ ho rfl).trans rfl⟩,λb o hb e=>?_⟩
 rw [Heap.get?_update_other _ _ (Ne.symm hb)];exact e
theorem qj9 {i:Nat}{xs ys:List V}{a:Addr}{vs ws:List Value}(f:Array Value->Array Value)(R:SR B σ φ h)(hi:σ[i]? = some (.lst xs))(ha:φ[i]? = some a)(hl:h.PlainList a vs.toArray)
  (e:f vs.toArray=ws.toArray) (r:VRs B σ φ h ys ws) (hx:ys.length≤roomy) :
  SR B (σ.set i (.lst ys)) φ (h.update a (Obj.mapSeq f))∧Stp W0 σ φ h (σ.set i (.lst ys)) φ (h.update a (Obj.mapSeq f)):=by
 obtain ⟨h1,h2⟩:=qs4 hl f
 exact R.updL hi ha h2 (e ▸ h1) r hx
noncomputable def Post (B:Bs)(s:Shared)(σ:Sg)(φ:List Addr)(σ':Sg)(v:V)(cv:Value)(s':Shared):Prop :=
 ∃ φ' h' tk,s' = { s with heap:=h',toks:=tk }∧SR B σ' φ' h'∧Stp W0 σ φ s.heap σ' φ' h'∧VR B σ' φ' h' v cv
noncomputable def WM (prog:Program)(w:World)(A:Around)(E:Value->Shared->Prop)(s:Shared)(pos:Pos)(nm:String)(Q:Value->Shared->Prop)(co:Value):Prop:=∃ a,co = .ref a∧wpAny (model prog w) A (callWith pos (.builtin nm) [co] [] []) Q E s
theorem qj4 {α:Type}{f:Nat->Option α}{o:V}{a:α}{z:V->Prop}(e:(match o with | .ref r=>f r | _=>none)=some a)(k:∀ r,f r=some a->z (.ref r)):z o:=by
 cases o with
 | ref r=>exact k r e
 | _=>exact qah e
theorem qw5 (vs:List Value)(h:0<vs.length):vs.toArray.eraseIdxIfInBounds (vs.length - 1)=vs.dropLast.toArray:=by
 unfold Array.eraseIdxIfInBounds
 rw [dif_pos (by rw [List.size_toArray];exact Nat.sub_lt h Nat.zero_lt_one),List.eraseIdx_toArray,List.eraseIdx_eq_take_drop_succ,List.drop_eq_nil_of_le (by lia),List.append_nil,List.dropLast_eq_take]
theorem op_pop {o v:V}{co:Value}{σ':Sg}{pos:Pos}(hv:vPop σ o=some (v,σ'))(R:SR B σ φ s.heap)(ro:VR B σ φ s.heap o co):WM prog w A E s pos "list.pop" (Post B s σ φ σ' v) co :=
 qj4 (z:=λo=>VR B σ φ s.heap o co->WM prog w A E s pos "list.pop" (Post B s σ φ σ' v) co) hv (λr hv ro=>qej hv λxs hx hv=>qb3 (z:=WM prog w A E s pos "list.pop" (Post B s σ φ σ' v)) R hx ro λa vs ha hl rs hn=>by
  refine qcz (P:=λp=>p=(v,σ')->WM prog w A E s pos "list.pop" (Post B s σ φ σ' v) (.ref a)) hv (λx hxl ep=>?_) rfl
  have hlen:=rs.length
  rw [List.getLast?_eq_getElem?,← hlen] at hxl
  refine x1_2 (rs.get hxl) λu e2 e3=>?_
  have hpos:0<vs.length:=Nat.lt_of_le_of_lt (Nat.zero_le _) (List.getElem?_eq_some_iff.mp e2).1
  obtain ⟨h1,h2⟩:=qj9 (λxs=>xs.eraseIdxIfInBounds (vs.length - 1)) R hx ha hl (qw5 vs hpos) (by rw [List.dropLast_eq_take];exact rs.take (vs.length - 1)) (by rw [List.length_take];exact Nat.le_trans (Nat.min_le_right _ _) hn)
  obtain ⟨n,hl⟩:=hl
  rw [hlen,← List.dropLast_eq_take,(Prod.mk.inj ep).2] at h1 h2
  have e4:=(Prod.mk.inj ep).1 ▸ e3.mono R h2 Apart.none
  refine ⟨_,rfl,P.pop_list hl (y:=u) (by rw [List.size_toArray];simpa using e2) ?_ (by rw [List.size_toArray,rs.length,← qbk];exact hn)⟩
  rw [List.size_toArray,hlen]
  exact ⟨φ,_,_,rfl,h1,h2,e4⟩) ro
theorem op_app {o x:V}{co cx:Value}{σ':Sg}(hv:vApp σ o x=some σ')(R:SR B σ φ s.heap)(ro:VR B σ φ s.heap o co)(rx:VR B σ φ s.heap x cx) :
  ∃ (a:Addr) (items:Array Value) (n:Nat),co = .ref a∧items.size≤sizeLine∧IsL s.heap a items n∧Post B s σ φ σ' .none .none { s with heap:=s.heap.update a (Obj.mapSeq λxs=>xs.push cx) } :=
 qj4 (z:=λo=>VR B σ φ s.heap o co->_) hv (λr hv ro=>qej hv λxs hx hv=>qb3 (z:=λco=>∃ (a:Addr) (items:Array Value) (n:Nat),co = .ref a∧items.size≤sizeLine∧IsL s.heap a items n∧Post B s σ φ σ' .none .none { s with heap:=s.heap.update a (Obj.mapSeq λxs=>xs.push cx) }) R hx ro λa vs ha hl rs hn =>
  qbt (P:=λσ'=>∃ (b:Addr) (items:Array Value) (n:Nat),Value.ref a = .ref b∧items.size≤sizeLine∧IsL s.heap b items n∧Post B s σ φ σ' .none .none { s with heap:=s.heap.update b (Obj.mapSeq λxs=>xs.push cx) }) hv λhsz=>by
   obtain ⟨h1,h2⟩:=qj9 (λxs=>xs.push cx) R hx ha hl (by simp) (rs.append (.cons rx .nil)) (by rw [List.length_append,List.length_singleton];exact hsz)
   obtain ⟨n,hl⟩:=hl
   exact ⟨_,_,n,rfl,by rw [List.size_toArray,rs.length,← qbk];exact hn,hl,φ,_,_,rfl,h1,h2,.none⟩) ro
theorem qm5 (kvs:List (Int×Value))(k:Int)(v:Value):(stored kvs k v).map (·.1)=if k∈kvs.map (·.1) then kvs.map (·.1) else kvs.map (·.1)++[k]:=by
 unfold stored
 by_cases hk:k∈kvs.map (·.1)
 ·have:(kvs.any λkv=>decide (kv.1=k))=true:=by
   refine x1_2 (List.mem_map.mp hk) λp hp er2=>?_;subst er2
   exact List.any_eq_true.mpr ⟨p,hp,by simp⟩
  rw [if_pos hk,if_pos this,List.map_map]
  apply List.map_congr_left
  intro p _
  simp only [Function.comp]
  split <;> rfl
 ·have:(kvs.any λkv=>decide (kv.1=k))=false:=by
   rw [List.any_eq_false]
   intro p hp hq
   exact hk (List.mem_map.mpr ⟨p,hp,by simpa using hq⟩)
  rw [if_neg hk,this];simp
theorem qln (kvs:List (List Int×Addr×Value))(k:List Int)(a:Addr)(v:Value):(storedH kvs k a v).map (·.1)=if k∈kvs.map (·.1) then kvs.map (·.1) else kvs.map (·.1)++[k]:=by
 unfold storedH
 by_cases hk:k∈kvs.map (·.1)
 ·have:(atKey kvs k).isSome=true:=by rw [qd3];simpa using hk
  rw [if_pos hk,if_pos this,keys_map_putAt]
 ·have:(atKey kvs k).isSome=false:=by rw [qd3];simpa using hk
  rw [if_neg hk,this];simp
noncomputable def WS (prog:Program)(w:World)(A:Around)(E:Value->Shared->Prop)(s:Shared)(B:Bs)(σ:Sg)(φ:List Addr)(Q:Unit->Shared->Prop)(cx co ci:Value)(σ':Sg):Prop :=
 (∀ h' tk,SR B σ' φ h'->Stp W0 σ φ s.heap σ' φ h'->Q () { s with heap:=h',toks:=tk })->wpAny (model prog w) A (setItem co ci cx) Q E s
theorem qpj {α:Type}{k:α}{ks:List α}{p:Prop} [Decidable p] (h:ks.length<roomy):(if p then ks else ks++[k]).length≤roomy:=by
 split
 ·exact Nat.le_of_lt h
 ·rw [List.length_append,List.length_singleton];exact h
theorem store_L {r:Nat}{xs:List V}{i:Int}{x:V}{co ci cx:Value}{Q:Unit->Shared->Prop}(hx:σ[r]? = some (.lst xs))(hk:0≤i∧i<(xs.length:Int))(R:SR B σ φ s.heap)(ro:VR B σ φ s.heap (.ref r) co)(ri:VR B σ φ s.heap (.int i) ci)(rx:VR B σ φ s.heap x cx) :
  WS prog w A E s B σ φ Q cx co ci (σ.set r (.lst (xs.set i.toNat x))) :=
 qb3 (z:=λco=>WS prog w A E s B σ φ Q cx co ci (σ.set r (.lst (xs.set i.toNat x)))) R hx ro λa vs ha hl rs hn=>inInt (z:=λci=>WS prog w A E s B σ φ Q cx (.ref a) ci (σ.set r (.lst (xs.set i.toNat x)))) ri λt hq=>by
  obtain ⟨h1,h2⟩:=qj9 (λx=>x.setIfInBounds i.toNat cx) R hx ha hl (by simp) (rs.set rx i.toNat) (by rw [List.length_set];exact hn)
  obtain ⟨n,hl⟩:=hl
  have hn':(xs.length:Int)≤16777216:=Int.ofNat_le.mpr hn
  exact W.ki_setAt hl hk.1 (by lia) (by rw [List.size_toArray,rs.length];exact hk.2) (hq _ _ h1 h2)
theorem store_I {r:Nat}{ks:List Int}{k:Int}{co ci cx:Value}{Q:Unit->Shared->Prop}(hx:σ[r]? = some (.dictI ks))(hsz:ks.length<roomy)(hB:prog=B.prog∧w=B.w)(R:SR B σ φ s.heap)(ro:VR B σ φ s.heap (.ref r) co)(ri:VR B σ φ s.heap (.int k) ci) :
  WS prog w A E s B σ φ Q cx co ci (σ.set r (.dictI (if k∈ks then ks else ks++[k]))) :=
 inRef (z:=λco=>WS prog w A E s B σ φ Q cx co ci (σ.set r (.dictI (if k∈ks then ks else ks++[k])))) ro λa ha=>inInt (z:=λci=>WS prog w A E s B σ φ Q cx (.ref a) ci (σ.set r (.dictI (if k∈ks then ks else ks++[k])))) ri λt hq=>by
  obtain ⟨a',e1,⟨kvs,D,ek⟩,hr⟩:=R.dictI r ks hx
  rw [← Option.some.inj (ha.symm.trans e1)] at D
  have el:kvs.length=ks.length:=by rw [← ek,List.length_map]
  rw [hB.1,hB.2]
  refine wpAny_setItem_pairs (intKey k t) D (λh' D' hs=>?_) (by rw [el,← qbk];exact Nat.le_of_lt hsz)
  refine x3_2 (id D') λo' es ep ho _=>?_
  have ex:(stored kvs k cx).map (·.1)=if k∈ks then ks else ks++[k]:=by rw [qm5,ek]
  exact hq _ _ (R.updAny hx (λx=>Cell.noConfusion x) ha (λb o hb e=>hs.extBut b o hb e) ho (λxs e=>Cell.noConfusion e) (λks' e=>by rw [← Cell.dictI.inj e];exact ⟨⟨_,D',ex⟩,qpj hsz⟩) (λks' e=>Cell.noConfusion e)) (Stp.upd hx (λx=>Cell.noConfusion x) ha (λb o hb e=>hs.extBut b o hb e) ⟨_,ho⟩)
theorem store_P' {r:Nat}{ks:List (List Int)}{xs:List V}{k:List Int}{co ci cx:Value}{Q:Unit->Shared->Prop}(hx:σ[r]? = some (.dictP ks))(hsz:ks.length<roomy)(hk:intsV xs=some k)(hB:prog=B.prog∧w=B.w)(R:SR B σ φ s.heap)(ro:VR B σ φ s.heap (.ref r) co)(ri:VR B σ φ s.heap (.tup xs) ci)(hu:A.units+64<cLine) :
  WS prog w A E s B σ φ Q cx co ci (σ.set r (.dictP (if k∈ks then ks else ks++[k]))) :=
 inRef (z:=λco=>WS prog w A E s B σ φ Q cx co ci (σ.set r (.dictP (if k∈ks then ks else ks++[k])))) ro λa ha=>inTup (z:=λci=>WS prog w A E s B σ φ Q cx (.ref a) ci (σ.set r (.dictP (if k∈ks then ks else ks++[k])))) ri λb vs ht rs hn hq=>by
  obtain ⟨a',e1,⟨kvs,D,ek⟩,hr⟩:=R.dictP r ks hx
  rw [← Option.some.inj (ha.symm.trans e1)] at D
  have el:kvs.length=ks.length:=by rw [← ek,List.length_map]
  have hroom:(tupleKind (intKind B.prog B.w)).room A.in1:=tupleKind_room_in1 (by lia)
  rw [hB.1,hB.2]
  refine wpAny_setItem_heap hroom (tupKey ht rs hk) D (λh' D' hs=>?_) (by rw [el,← qbk];exact Nat.le_of_lt hsz)
  refine x3_2 (id D') λo' es ep ho _=>?_
  have ex:∀ a,(storedH kvs k a cx).map (·.1)=if k∈ks then ks else ks++[k]:=λa=>by rw [qln,ek]
  exact hq _ _ (R.updAny hx (λx=>Cell.noConfusion x) ha (λb o hb e=>hs.extBut b o hb e) ho (λxs e=>Cell.noConfusion e) (λks' e=>Cell.noConfusion e) (λks' e=>by rw [← Cell.dictP.inj e];exact ⟨⟨_,D',ex _⟩,qpj hsz⟩)) (Stp.upd hx (λx=>Cell.noConfusion x) ha (λb o hb e=>hs.extBut b o hb e) ⟨_,ho⟩)
theorem quy {o i x:V}{co ci cx:Value}{σ':Sg}{Q:Unit->Shared->Prop}(hv:vStore σ o i x=some σ')(hB:prog=B.prog∧w=B.w)(R:SR B σ φ s.heap)(ro:VR B σ φ s.heap o co)(ri:VR B σ φ s.heap i ci)
  (rx:VR B σ φ s.heap x cx) (hu:A.units+64<cLine):WS prog w A E s B σ φ Q cx co ci σ':=by
 cases o with
 | ref r =>
  refine qks hv (λxs hx hv=>?_) (λks hx hv=>?_) (λks hx hv=>?_)
  ·cases i with
   | int i=>exact qbt (P:=WS prog w A E s B σ φ Q cx co ci) hv λhk=>store_L hx hk R ro ri rx
   | _=>exact qah hv
  ·cases i with
   | int i=>exact qbt (P:=WS prog w A E s B σ φ Q cx co ci) hv λhk=>store_I hx hk hB R ro ri
   | _=>exact qah hv
  ·cases i with
   | tup ys =>
    by_cases hk:ks.length<roomy
    ·exact qcz (P:=WS prog w A E s B σ φ Q cx co ci) ((if_pos hk).symm.trans hv) λk hi=>store_P' hx hk hi hB R ro ri hu
    ·exact qah ((if_neg hk).symm.trans hv)
   | _=>exact qah hv
 | _=>exact qah hv
end
end Mine.Internal
set_option maxRecDepth 100000
namespace Mine.Internal
open PySem PyProof.Rows PySem.Calls
namespace Rev
theorem owner:Manifest.owners.lookup (String.ofList ['d','e','s','r','e','v','e','r'].reverse)=some Manifest.sig_reversed:=by kernel_rfl
theorem slot_next:Slot "reversed" "__next__" "reversed.__next__" :=
 .of (owner:="reversed") (n:="__next__") (by rw [typeLookup_type,builtinLookup_eq_fast];kernel_rfl) (by decide +kernel) (by decide +kernel) (by decide +kernel)
  (by first | exact .inl (by decide +kernel) | exact .inr (by decide +kernel)) (by rw [isSubtype_type];kernel_rfl)
theorem entry_next:entryFor table "reversed.__next__" = some Builtin.«reversed.__next__»:=entryFor_of_tree (by kernel_rfl)
theorem args_next (a:Value):argsOk "reversed.__next__" ⟨[a],[]⟩:=by
 unfold argsOk;rw [signature?_of (id:="reversed.__next__") (n:=['_','_','t','x','e','n','_','_']) (o:=['d','e','s','r','e','v','e','r']) (by kernel_rfl) owner];kernel_rfl
theorem slot_iter:Slot "reversed" "__iter__" "reversed.__iter__" :=
 .of (owner:="reversed") (n:="__iter__") (by rw [typeLookup_type,builtinLookup_eq_fast];kernel_rfl) (by decide +kernel) (by decide +kernel) (by decide +kernel)
  (by first | exact .inl (by decide +kernel) | exact .inr (by decide +kernel)) (by rw [isSubtype_type];kernel_rfl)
theorem args_iter (a:Value):argsOk "reversed.__iter__" ⟨[a],[]⟩:=by
 unfold argsOk;rw [signature?_of (id:="reversed.__iter__") (n:=['_','_','r','e','t','i','_','_']) (o:=['d','e','s','r','e','v','e','r']) (by kernel_rfl) owner];kernel_rfl
theorem entry_iter:entryFor table "reversed.__iter__" = some Builtin.«dict_keyiterator.__iter__» :=
 entryFor_alias (id':="dict_keyiterator.__iter__") (by kernel_rfl) (by first | rfl | decide +kernel | (unfold String.splitOn;simp +decide [String.splitOnAux])) (by decide +kernel) (by kernel_rfl)
theorem no_reversed:typeLookup (.type "tuple") "__reversed__" = pure none:=by rw [typeLookup_type,builtinLookup_eq_fast];kernel_rfl
theorem no_dict:isSubtype (.type "tuple") (.type "dict")=pure false:=by rw [isSubtype_type];kernel_rfl
end Rev
section
variable {prog:Program} {w:World} {A:Around} {E:Value->Shared->Prop} {s:Shared}
noncomputable def trevObj (l:Addr)(i:Int):Obj:={ cls:=.type "reversed",data:=.fields #[.ref l,rawInt i] }
noncomputable def IsTRev (h:Heap)(a l:Addr)(i:Int):Prop:=∃ o,h.get? a=some o∧o.cls = .type "reversed"∧o.data = .fields #[.ref l,rawInt i]
theorem IsTRev.typeIs {a l:Addr}{i:Int}(x:IsTRev s.heap a l i):s.TypeIs (.ref a) "reversed":=let ⟨o,ho,hc,_⟩:=x;⟨o,ho,hc⟩
theorem IsTRev.at {h h':Heap}{a l:Addr}{i:Int}(x:IsTRev h a l i)(e:∀ o,h.get? a=some o->h'.get? a=some o):IsTRev h' a l i:=let ⟨o,ho,r⟩:=x;⟨o,e _ ho,r⟩
theorem qe6 {l:Addr}{items:Array Value}{Q₁:Value->Shared->Prop}(hl:IsTup s.heap l items)(hn:(items.size:Int)<2 ^ 63)
  (h:∀ tk,Q₁ (.ref s.heap.objs.size) { s with heap:=s.heap.push (trevObj l ((items.size:Int) - 1)),toks:=tk }) :
  codeAny (model prog w) A (.call (.builtin "reversed.__new__") ⟨[.type "reversed",.ref l],[]⟩) (wants Q₁ E) s:=by
 refine codeAny_of_tree ?_
 show wpAny _ A.in1 (do checkBuiltinCall "reversed.__new__" ⟨[.type "reversed",.ref l],[]⟩;again (.builtin "reversed.__new__" ⟨[.type "reversed",.ref l],[]⟩)) _ _ s
 refine wpAny_bind (wpAny_of_eq (F.newCall_reversed_1 _) (wpAny_pure ⟨plainId_quiet F.plain_reversed_new _,codeAny_builtin F.entry_reversed_new ?_⟩))
 rw [Around.under_plainId F.plain_reversed_new _]
 unfold Builtin.«reversed.__new__»
 refine wpAny_bind (wpAny_of_eq (newClass_reversed _) ?_)
 try dsimp only
 refine wpAny_bind (wpAny_of_eq (a:=()) (by first | rfl | kernel_rfl) ?_)
 refine wpAny_bind (wpAny_of_eq (a:=()) (by first | rfl | kernel_rfl) ?_)
 try dsimp only
 refine wpAny_bind (wpAny_specialOf hl.typeIs Rev.no_reversed ?_)
 try dsimp only
 refine wpAny_bind (show wpAny _ _ (isInstance (.ref l) (.type "dict") >>= _) _ _ _ from wpAny_bind (wpAny_isInstance hl.typeIs Rev.no_dict ?_))
 show wpAny _ _ (specialOf (.ref l) "__getitem__" >>= _) _ _ s
 refine wpAny_bind (wpAny_specialOf hl.typeIs slot_tuple_getitem.lookup ?_)
 show wpAny _ _ (if ["tuple.__getitem__","str.__getitem__","bytes.__getitem__","bytearray.__getitem__","memoryview.__getitem__","numpy.ndarray.__getitem__","sqlite3.Row.__getitem__"].contains "tuple.__getitem__" = true then pure true else _) _ _ s
 rw [if_pos (by decide +kernel)]
 refine wpAny_pure ?_
 show wpAny _ _ (if (!true)=true then _ else _) _ _ s
 rw [if_neg (by decide)]
 refine wpAny_bind (len_tuple hl hn ?_)
 refine wpAny_bind (m:=asInt? (.int (items.size:Int) _)) (wpAny_pure ?_)
 show wpAny _ _ (Builtin.SmallTypes.newRecord (Value.type "reversed") [Value.ref l,rawInt ((items.size:Int) - 1)] >>= _) _ _ _
 refine wpAny_bind ?_
 show wpAny _ _ (newObj (.type "reversed") (.fields #[Value.ref l,rawInt ((items.size:Int) - 1)])) _ _ _
 refine wpAny_newObj_type ?_ (by size_fits)
 exact wpAny_pure (h _)
namespace Rev
theorem qs9:Slot "reversed" "__init__" "object.__init__" :=
 .of (owner:="object") (n:="__init__") (by rw [typeLookup_type,builtinLookup_eq_fast];kernel_rfl) (by decide +kernel) (by decide +kernel) (by decide +kernel)
  (by first | exact .inl (by decide +kernel) | exact .inr (by decide +kernel)) (by rw [isSubtype_type];kernel_rfl)
theorem called:TypeCalled "reversed" "reversed.__new__" "object.__init__" :=
 ⟨by decide +kernel,F.create_reversed,⟨_,_,F.mro_reversed⟩,F.made_reversed,F.plain_reversed_new,F.sub_reversed_self,qs9⟩
end Rev
theorem qhc {l:Addr}{items:Array Value}{Q:Value->Shared->Prop}(hl:IsTup s.heap l items)(hn:(items.size:Int)<2 ^ 63)
  (h:∀ tk,Q (.ref s.heap.objs.size) { s with heap:=s.heap.push (trevObj l ((items.size:Int) - 1)),toks:=tk }):wpAny (model prog w) A (call (.type "reversed") [.ref l]) Q E s:=by
 refine callType_codes (Q₁:=λobj s₁=>s₁.TypeIs obj "reversed"∧Q obj s₁) Rev.called (F.typeCall_reversed_1 _) F.entry_object_init
  (qe6 hl hn λtk=>⟨⟨_,Heap.get?_push_size _ rfl,rfl⟩,h tk⟩) λobj s₁ h₁=>?_
 exact ⟨h₁.1,F.args_object_init_2 obj _,object_init_meets Rev.called.init.lookup Rev.called.made (by decide) prog w A.in1 _ s₁ ⟨h₁.1,rfl,h₁.2⟩⟩
theorem qhe {it l:Addr}{i:Nat}{items:Array Value}{x:Value}{Q:Option Value->Shared->Prop}(hit:IsTRev s.heap it l (i:Int))(hl:IsTup s.heap l items)(hx:items[i]? = some x)(hn:(items.size:Int)<2 ^ 63)
  (hQ:∀ h' tk,IsTRev h' it l ((i:Int) - 1)->Heap.SameBut it s.heap h'->Q (some x) { s with heap:=h',toks:=tk }):wpAny (model prog w) A (pyNext (.ref it)) Q E s:=by
 refine x1_3 (id hit) λo ho hc hd=>?_
 have hi:i<items.size:=(Array.getElem?_eq_some_iff.mp hx).1
 unfold pyNext
 refine wpAny_bind (wpAny_attempt (wpAny_callSpecial?_slot (name:=oS "__next__") hit.typeIs Rev.slot_next
  (wpAny_call_entry Rev.slot_next hit.typeIs Rev.entry_next ?_ (Rev.args_next _))))
 unfold Builtin.«reversed.__next__»
 refine wpAny_bind (wpAny_of_eq (a:=(Value.ref it,[])) rfl ?_)
 try dsimp only
 refine wpAny_bind (wpAny_field ho hd (x:=.ref l) rfl ?_)
 show wpAny _ _ (field (.ref it) 1 >>= _) _ _ s
 refine wpAny_bind (wpAny_field ho hd (x:=rawInt (i:Int)) rfl ?_)
 show wpAny _ _ (if (i:Int)<0 then _ else _) _ _ s
 rw [if_neg (by lia)]
 show wpAny _ _ (specialOf (.ref l) "__getitem__" >>= _) _ _ s
 refine wpAny_bind (wpAny_specialOf hl.typeIs slot_tuple_getitem.lookup ?_)
 show wpAny _ _ (mkInt (i:Int) >>= _) _ _ s
 refine wpAny_bind (wpAny_mkInt ?_)
 refine wpAny_bind (wpAny_attempt (getItem_tuple hl (by lia) (by lia) (j:=i) ?_ hx ?_))
 ·unfold seqIndex?;simp;lia
 show wpAny _ _ (field (.ref it) 1 >>= _) _ _ _
 refine wpAny_bind (wpAny_field ho hd (x:=rawInt (i:Int)) rfl ?_)
 show wpAny _ _ (setField (.ref it) 1 (rawInt ((i:Int) - 1)) >>= _) _ _ _
 refine wpAny_bind (wpAny_setField ho hd (by simp) ?_)
 refine wpAny_pure ⟨x,rfl,wpAny_pure (hQ _ _ ?_ (Heap.SameBut.update ..))⟩
 exact ⟨_,Heap.get?_update_self _ ho (Obj.isFreed_of_fields (Obj.data_mapFields hd _)),(Obj.cls_mapFields ..).trans hc,by
  rw [Obj.data_mapFields hd];simp⟩
theorem qjw {it l:Addr}{Q:Option Value->Shared->Prop}(hh:A.handled=none)(hit:IsTRev s.heap it l (-1))
  (hQ:∀ h',Heap.ExtBut it s.heap h'->Q none { s with heap:=h' }):wpAny (model prog w) A (pyNext (.ref it)) Q E s:=by
 refine x1_3 (id hit) λo ho hc hd=>?_
 unfold pyNext
 refine wpAny_bind (wpAny_attempt (wpAny_callSpecial?_slot (name:=oS "__next__") hit.typeIs Rev.slot_next
  (wpAny_call_entry Rev.slot_next hit.typeIs Rev.entry_next ?_ (Rev.args_next _))))
 unfold Builtin.«reversed.__next__»
 refine wpAny_bind (wpAny_of_eq (a:=(Value.ref it,[])) rfl ?_)
 try dsimp only
 refine wpAny_bind (wpAny_field ho hd (x:=.ref l) rfl ?_)
 show wpAny _ _ (field (.ref it) 1 >>= _) _ _ s
 refine wpAny_bind (wpAny_field ho hd (x:=rawInt (-1)) rfl ?_)
 show wpAny _ _ (if (-1:Int)<0 then _ else _) _ _ s
 rw [if_pos (by decide)]
 refine wpAny_bind (wpAny_rule ?_)
 refine wpAny_bind (show wpAny _ _ (setField (.ref it) 1 (rawInt (-1)) >>= λ_=>setField (.ref it) 0 .none) _ _ _ from wpAny_bind (wpAny_setField ho hd (by simp) ?_))
 have ho2:=Heap.get?_update_self (h:=s.heap) (a:=it) (λo=>o.mapFields λfs=>fs.set! 1 (rawInt (-1))) ho (Obj.isFreed_of_fields (Obj.data_mapFields hd _))
 refine wpAny_setField ho2 (Obj.data_mapFields hd _) (by simp) ?_
 first
 | show wpAny _ _ (newExc (.type "StopIteration") [] >>= _) _ _ _
 | (refine wpAny_bind ?_;show wpAny _ _ (newExc (.type "StopIteration") [] >>= _) _ _ _)
 refine wpAny_bind ?_
 simp only [newExc,newTuple]
 refine wpAny_bind (wpAny_newObj_type ?_ (by size_fits))
 refine wpAny_bind (m:=firstArgMember _ _) (wpAny_of_eq (a:=Value.none) (by first | rfl | (simp only [firstArgMember];rfl)) ?_)
 refine wpAny_newObj_type ?_ (by size_fits)
 simp only [raiseNew]
 refine wpAny_bind (wpAny_handled ?_)
 first | rw [show A.in1.handled=none from hh] | rw [hh]
 refine wpAny_bind (wpAny_pure (wpAny_throw ?_))
 refine wpAny_bind (wpAny_isInstance (T:="StopIteration") (b:=true) ⟨_,Heap.get?_push_size _ rfl,rfl⟩ isSubtype_stop ?_)
 exact wpAny_pure (hQ _ ((((Heap.ExtBut.refl _ _).trans (Heap.SameBut.update ..).extBut |>.trans (Heap.SameBut.update ..).extBut).push _).push _))
theorem qsa {it l:Addr}{i:Int}{Q:Value->Shared->Prop}(hit:IsTRev s.heap it l i)(h:Q (.ref it) s):wpAny (model prog w) A (pyIter (.ref it)) Q E s:=by
 refine wpAny_pyIter_slot hit.typeIs Rev.slot_iter (wpAny_call_entry Rev.slot_iter hit.typeIs Rev.entry_iter ?_ (Rev.args_iter _))
 show wpAny _ _ (ret (.ref it)) _ _ s
 exact wpAny_pure ⟨_,rfl,"reversed",_,hit.typeIs,Rev.slot_next.lookup,h⟩
end
theorem Walks.tupRev {prog:Program}{w:World}{A:Around}(hh:A.handled=none)(I l:Addr)(hne:l≠I)(items:Array Value)(hn:(items.size:Int)<2 ^ 63) :
  Walks prog w A I [I,l] [I] items.size (λi v=>items[items.size - 1 - i]? = some v) (λi h=>i≤items.size∧IsTRev h I l ((items.size:Int) - 1 - (i:Int))∧IsTup h l items) where
 sub:=λb hb=>by simp at hb;simp [hb]
 frame:=λ_ _ _ x hk=>⟨x.1,x.2.1.at λo e=>hk I (by simp) o e,let ⟨o,e,r⟩:=x.2.2;⟨o,hk l (by simp) o e,r⟩⟩
 item:=λi s Q E hi x hQ=>by
  have e:(items.size:Int) - 1 - (i:Int)=((items.size - 1 - i:Nat):Int):=by lia
  have hit:=x.2.1
  rw [e] at hit
  have hx:items[items.size - 1 - i]? = some (items[items.size - 1 - i]'(by lia)):=Array.getElem?_eq_getElem (by lia)
  refine qhe hit x.2.2 hx hn λh' tk hit' hs'=>?_
  have e2:((items.size - 1 - i:Nat):Int) - 1=(items.size:Int) - 1 - ((i+1:Nat):Int):=by lia
  rw [e2] at hit'
  exact hQ _ h' tk hx ⟨hi,hit',let ⟨o,eo,r⟩:=x.2.2;⟨o,(hs'.2 l hne).trans eo,r⟩⟩ λb o hb eo=>hs'.extBut b o (λh=>hb (by simp [h])) eo
 done:=λs Q E x hQ=>by
  have e:(items.size:Int) - 1 - (items.size:Int) = -1:=by lia
  have hit:=x.2.1
  rw [e] at hit
  exact qjw hh hit λh' he'=>hQ h' s.toks λb o hb eo=>he' b o (λh=>hb (by simp [h])) eo
 self:=λ_ _ _ _ x hQ=>qsa x.2.1 hQ
end Mine.Internal
namespace Mine.Internal
open PySem PyProof.Rows PySem.Calls
noncomputable def Fixed (h:Heap)(b:Addr):Prop:=∃ o,h.get? b=some o∧((∃ xs n,o.data = .seq xs n)∨((∃ fs,o.data = .fields fs)∧∃ T:Value,o.cls=T))
theorem Fixed.nd {h:Heap}{b:Addr}{o:Obj}(F:Fixed h b)(e:h.get? b=some o):∀ es m,o.data≠.dict es m:=by
 obtain ⟨o',e',F⟩:=F
 rw [e] at e';cases e'
 intro es m x
 rcases F with ⟨_,_,y⟩ | ⟨⟨_,y⟩,_⟩ <;> rw [x] at y <;> cases y
structure Iter (B:Bs) (A:Around) (σ:Sg) (φ:List Addr) (h:Heap) (items:List V) (I:Addr) (fp wr:List Addr) (n:Nat) (P:Nat->Value->Prop) (St:Nat->Heap->Prop):Prop where
 walks:Walks B.prog B.w A I fp wr n P St
 len:n=items.length
 st:St 0 h
 wr:∀ b∈wr,b=I
 fix:∀ i h',St i h'->∀ b∈fp,Fixed h' b
 self:∀ i h',St i h'->∃ o,h'.get? I=some o∧(∃ fs,o.data = .fields fs)∧∃ T,o.cls = .type T
 nl:∀ b∈fp,¬ live σ φ b
 nI:I∉φ
 val:∀ i v,P i v->∃ x,items[i]? = some x∧VR B σ φ h x v
noncomputable def IterAt (B:Bs)(A:Around)(h₀:Heap)(σ:Sg)(φ:List Addr)(s:Shared)(items:List V)(it:Value)(s':Shared):Prop :=
 ∃ I h' tk fp wr n P St,it = .ref I∧s' = { s with heap:=h',toks:=tk }∧(∀ b o,s.heap.get? b=some o->h'.get? b=some o)∧h₀.get? I=none∧Iter B A σ φ h' items I fp wr n P St
inductive ItV (B:Bs) (h₀:Heap) (σ:Sg) (φ:List Addr) (h:Heap):List V->Value->Prop
 | val {v:V} {cv:Value} {items:List V}:vItems .val v .none=some items->VR B σ φ h v cv->ItV B h₀ σ φ h items cv
 | rng {lo hi:Int} {r:Addr} {t u v:Tok}:small lo=true->small hi=true->IsRange h r lo hi 1 t u v->ItV B h₀ σ φ h (rangeL lo hi) (.ref r)
 | rev {xs:List V} {vs:List Value} {a I:Addr}:h.PlainList a vs.toArray->¬ live σ φ a->VRs B σ φ h xs vs->h.IsRevIter I a ((vs.length:Int) - 1)->I∉φ->a≠I->h₀.get? I=none->ItV B h₀ σ φ h xs.reverse (.ref I)
 | trev {xs:List V} {vs:List Value} {a I:Addr}:IsTup h a vs.toArray->¬ live σ φ a->VRs B σ φ h xs vs->xs.length≤roomy->IsTRev h I a ((vs.length:Int) - 1)->I∉φ->a≠I->h₀.get? I=none->ItV B h₀ σ φ h xs.reverse (.ref I)
theorem IterAt.of {B:Bs}{A:Around}{h₀:Heap}{σ:Sg}{φ:List Addr}{s:Shared}{items:List V}{I:Addr}{h':Heap}{tk:Nat}{fp wr:List Addr}{n:Nat}{P:Nat->Value->Prop}{St:Nat->Heap->Prop}
  (W:Walks B.prog B.w A I fp wr n P St) (hk:∀ b o,s.heap.get? b=some o->h'.get? b=some o) (hI:h₀.get? I=none) (it:Walks B.prog B.w A I fp wr n P St->Iter B A σ φ h' items I fp wr n P St) :
  IterAt B A h₀ σ φ s items (.ref I) { s with heap:=h',toks:=tk }:=⟨I,h',tk,fp,wr,n,P,St,rfl,rfl,hk,hI,it W⟩
section
variable {A:Around} {E:Value->Shared->Prop} {s:Shared} {B:Bs} {σ:Sg} {φ:List Addr} {h h₀:Heap}
theorem SR.fresh_notmem (R:SR B σ φ s.heap):s.heap.objs.size∉φ:=λL=>by
 obtain ⟨o,ho⟩:=R.ex _ L
 rw [qb6] at ho;cases ho
theorem SR.fresh_notlive (R:SR B σ φ s.heap):¬ live σ φ s.heap.objs.size:=λL=>by
 obtain ⟨o,ho⟩:=R.ex _ L.mem
 rw [qb6] at ho;cases ho
theorem qql (lo hi:Int){i:Nat}(h:i<(hi - lo).toNat):(rangeL lo hi)[i]? = some (.int (lo+i)):=by
 unfold rangeL
 rw [List.getElem?_map,List.getElem?_range h];rfl
theorem qj1 (lo hi:Int):(rangeL lo hi).length=(hi - lo).toNat:=by simp [rangeL]
theorem qj2 (lo hi:Int):Builtin.Range.rangeSize lo hi 1=((hi - lo).toNat:Int):=by
 unfold Builtin.Range.rangeSize
 rw [if_pos (by lia)]
 split
 ·rw [Int.ediv_one];lia
 ·lia
theorem que {a:Addr}{xs:List V}{vs:List Value}(hh:A.handled=none)(R:SR B σ φ s.heap)(fresh:h₀.get? s.heap.objs.size=none)(ht:PTup s.heap a vs.toArray)(rs:VRs B σ φ s.heap xs vs):wpAny (model B.prog B.w) A (pyIter (.ref a)) (IterAt B A h₀ σ φ s xs) E s:=by
 obtain ⟨n,ho⟩:=id ht
 have ha:a<s.heap.objs.size:=Heap.lt_size ho
 have hT:s.heap.IsTuple a vs.toArray:=⟨_,ho,rfl,n,rfl⟩
 refine wpAny_pyIter_tuple hT ⟨_,_,_,[s.heap.objs.size,a],[s.heap.objs.size],vs.toArray.size,(λi v=>vs.toArray[i]? = some v),(λi h=>h.IsTupleIter s.heap.objs.size a i∧h.IsTuple a vs.toArray),rfl,rfl,qaj _ _,fresh,?_⟩
 refine ⟨Walks.tuple hh _ a (Nat.ne_of_lt ha) vs.toArray,by rw [List.size_toArray,rs.length],⟨⟨_,Heap.get?_push_size _ rfl,rfl,rfl⟩,hT.push _⟩,λb hb=>List.mem_singleton.mp hb,λi h' st b hb=>?_,λi h' st=>?_,λb hb=>?_,R.fresh_notmem,λi u hu=>?_⟩
 ·obtain ⟨⟨o,h1,h2,h3⟩,⟨o',h4,h5,n',h6⟩⟩:=st
  rcases List.mem_cons.mp hb with rfl | hb
  ·exact ⟨o,h1,.inr ⟨⟨_,h3⟩,_,h2⟩⟩
  ·rw [List.mem_singleton.mp hb];exact ⟨o',h4,.inl ⟨_,_,h6⟩⟩
 ·obtain ⟨⟨o,h1,h2,h3⟩,_⟩:=st
  exact ⟨o,h1,⟨_,h3⟩,_,h2⟩
 ·rcases List.mem_cons.mp hb with rfl | hb
  ·exact R.fresh_notlive
  ·rw [List.mem_singleton.mp hb];exact R.notlive_tup ht
 ·refine x1_2 (rs.getV (k:=i) (v:=u) (by simpa using hu)) λx e1 e2=>?_
  exact ⟨x,e1,e2.grow R (qaj _ _)⟩
theorem quc {a:Addr}{xs:List V}{vs:List Value}(hh:A.handled=none)(R:SR B σ φ s.heap)(fresh:h₀.get? s.heap.objs.size=none)(hl:s.heap.PlainList a vs.toArray)(nl:¬ live σ φ a)(rs:VRs B σ φ s.heap xs vs):wpAny (model B.prog B.w) A (pyIter (.ref a)) (IterAt B A h₀ σ φ s xs) E s:=by
 obtain ⟨n,ho⟩:=id hl
 have ha:a<s.heap.objs.size:=Heap.lt_size ho
 refine wpAny_pyIter_list hl.isList ⟨_,_,_,[s.heap.objs.size,a],[s.heap.objs.size],vs.toArray.size,(λi v=>vs.toArray[i]? = some v),(λi h=>h.IsListIter s.heap.objs.size a i∧h.IsList a vs.toArray),rfl,rfl,qaj _ _,fresh,?_⟩
 refine ⟨Walks.list hh _ a (Nat.ne_of_lt ha) vs.toArray,by rw [List.size_toArray,rs.length],⟨⟨_,Heap.get?_push_size _ rfl,rfl,rfl⟩,hl.isList.push _⟩,λb hb=>List.mem_singleton.mp hb,λi h' st b hb=>?_,λi h' st=>?_,λb hb=>?_,R.fresh_notmem,λi u hu=>?_⟩
 ·obtain ⟨⟨o,h1,h2,h3⟩,⟨o',h4,h5,n',h6⟩⟩:=st
  rcases List.mem_cons.mp hb with rfl | hb
  ·exact ⟨o,h1,.inr ⟨⟨_,h3⟩,_,h2⟩⟩
  ·rw [List.mem_singleton.mp hb];exact ⟨o',h4,.inl ⟨_,_,h6⟩⟩
 ·obtain ⟨⟨o,h1,h2,h3⟩,_⟩:=st
  exact ⟨o,h1,⟨_,h3⟩,_,h2⟩
 ·rcases List.mem_cons.mp hb with rfl | hb
  ·exact R.fresh_notlive
  ·rw [List.mem_singleton.mp hb];exact nl
 ·refine x1_2 (rs.getV (k:=i) (v:=u) (by simpa using hu)) λx e1 e2=>?_
  exact ⟨x,e1,e2.grow R (qaj _ _)⟩
theorem qud {x:List Nat}{t:Tok}(hh:A.handled=none)(R:SR B σ φ s.heap)(fresh:h₀.get? s.heap.objs.size=none):wpAny (model B.prog B.w) A (pyIter (.str ⟨x.toArray⟩ t)) (IterAt B A h₀ σ φ s (x.map λc=>.str [c])) E s:=by
 have go:∀ T,Walks B.prog B.w A s.heap.objs.size [s.heap.objs.size] [s.heap.objs.size] (⟨x.toArray⟩:Str).cps.size (SignAt ⟨x.toArray⟩) (λi h=>h.IsStrIter s.heap.objs.size T ⟨x.toArray⟩ t i) ->
   IterAt B A h₀ σ φ s (x.map λc=>.str [c]) (.ref s.heap.objs.size) { s with heap:=s.heap.push { cls:=.type T,data:=.fields #[.str ⟨x.toArray⟩ t,.int 0 0] } }:=by
  intro T W
  refine IterAt.of (tk:=s.toks) W (qaj _ _) fresh λW=>?_
  refine ⟨W,by simp,⟨_,Heap.get?_push_size _ rfl,rfl,rfl⟩,λb hb=>List.mem_singleton.mp hb,λi h' st b hb=>?_,λi h' st=>?_,λb hb=>?_,R.fresh_notmem,λi u hu=>?_⟩
  ·refine x1_3 (st) λo h1 h2 h3=>?_
   rw [List.mem_singleton.mp hb];exact ⟨o,h1,.inr ⟨⟨_,h3⟩,_,h2⟩⟩
  ·refine x1_3 (st) λo h1 h2 h3=>?_
   exact ⟨o,h1,⟨_,h3⟩,_,h2⟩
  ·rw [List.mem_singleton.mp hb];exact R.fresh_notlive
  ·refine x2_2 hu ?_;clear hu;intro c u' e1 er3;subst er3
   exact ⟨.str [c],by rw [List.getElem?_map,show x[i]? = some c by simpa using e1];rfl,.str [c] u' (by simp [roomy])⟩
 cases ha:(⟨x.toArray⟩:Str).cps.all (· < 128)
 ·exact wpAny_pyIter_wide ha (go _ (Walks.strWide hh _ _ t))
 ·exact wpAny_pyIter_ascii ha (go _ (Walks.strAscii hh _ _ t))
theorem qs1 {cv:Value}{items:List V}(hv:ItV B h₀ σ φ s.heap items cv)(hh:A.handled=none)(R:SR B σ φ s.heap)(hx:∀ b o,h₀.get? b=some o->∃ o',s.heap.get? b=some o') :
  wpAny (model B.prog B.w) A (pyIter cv) (IterAt B A h₀ σ φ s items) E s:=by
 have fresh:h₀.get? s.heap.objs.size=none:=by
  cases e:h₀.get? s.heap.objs.size with
  | none=>rfl
  | some o=>obtain ⟨o',e'⟩:=hx _ o e;exact qah ((qb6 s.heap).symm.trans e')
 cases hv with
 | val hv r =>
  rename_i v
  cases v with
  | tup xs=>exact qal (P:=λitems=>wpAny (model B.prog B.w) A (pyIter cv) (IterAt B A h₀ σ φ s items) E s) hv (inTup (z:=λcv=>wpAny (model B.prog B.w) A (pyIter cv) (IterAt B A h₀ σ φ s xs) E s) r λa vs ht rs _=>que hh R fresh ht rs)
  | lst xs=>exact qal (P:=λitems=>wpAny (model B.prog B.w) A (pyIter cv) (IterAt B A h₀ σ φ s items) E s) hv (inLst (z:=λcv=>wpAny (model B.prog B.w) A (pyIter cv) (IterAt B A h₀ σ φ s xs) E s) r λa vs hl nl rs _=>quc hh R fresh hl nl.1 rs)
  | str x=>exact qal (P:=λitems=>wpAny (model B.prog B.w) A (pyIter cv) (IterAt B A h₀ σ φ s items) E s) hv (inText (z:=λcv=>wpAny (model B.prog B.w) A (pyIter cv) (IterAt B A h₀ σ φ s (x.map λc=>.str [c])) E s) r λt _=>qud hh R fresh)
  | _=>exact qah hv
 | rng h1 h2 hr =>
  rename_i lo hi r t u v
  have s1:=qdx h1
  have s2:=qdx h2
  have hsz:=qj2 lo hi
  have hsmall:Builtin.Range.small lo hi 1=true:=by
   unfold Builtin.Range.small
   rw [hsz]
   simp only [Builtin.Range.rangeFitsLong,Bool.and_eq_true,Bool.or_eq_true,decide_eq_true_eq,if_true,beq_iff_eq]
   simp
   omega
  refine wpAny_pyIter_range hr hsmall (IterAt.of (tk:=s.toks) (Walks.range hh s.heap.objs.size lo 1 (hi - lo).toNat).bound (qaj _ _) fresh λW=>?_)
  refine ⟨W,by rw [qj1],?_,λb hb=>List.mem_singleton.mp hb,λi h' st b hb=>?_,λi h' st=>?_,λb hb=>?_,R.fresh_notmem,λi u hu=>?_⟩
  ·show IsRangeIter _ _ _ _ _
   rw [hsz]
   simpa using Heap.get?_push_size _ rfl
  ·rw [List.mem_singleton.mp hb];exact ⟨_,st,.inr ⟨⟨_,rfl⟩,_,rfl⟩⟩
  ·exact ⟨_,st,⟨_,rfl⟩,_,rfl⟩
  ·rw [List.mem_singleton.mp hb];exact R.fresh_notlive
  ·obtain ⟨hi',t',rfl⟩:=hu
   exact ⟨.int (lo+i),qql lo hi hi',by rw [Int.mul_one];exact .int _ _⟩
 | rev hl nl rs hr nI hne hI =>
  rename_i xs vs a I
  refine x1_3 (id hr) λo ho hc hd=>?_
  have W:=Walks.listRev (prog:=B.prog) (w:=B.w) hh I a hne vs.toArray
  have st0:(0:Nat)≤vs.toArray.size∧s.heap.IsRevIter I a ((vs.toArray.size:Int) - 1 - ((0:Nat):Int))∧s.heap.IsList a vs.toArray:=⟨Nat.zero_le _,(by simpa using hr),hl.isList⟩
  refine W.self 0 s _ E st0 (IterAt.of (h':=s.heap) (tk:=s.toks) W.bound (λ_ _ e=>e) hI λW=>?_)
  refine ⟨W,by rw [List.size_toArray,List.length_reverse,rs.length],st0,λb hb=>List.mem_singleton.mp hb,λi h' st b hb=>?_,λi h' st=>?_,λb hb=>?_,nI,λi u hu=>?_⟩
  ·obtain ⟨_,⟨o,h1,h2,h3⟩,⟨o',h4,h5,n',h6⟩⟩:=st
   rcases List.mem_cons.mp hb with rfl | hb
   ·exact ⟨o,h1,.inr ⟨⟨_,h3⟩,_,h2⟩⟩
   ·rw [List.mem_singleton.mp hb];exact ⟨o',h4,.inl ⟨_,_,h6⟩⟩
  ·obtain ⟨_,⟨o,h1,h2,h3⟩,_⟩:=st
   exact ⟨o,h1,⟨_,h3⟩,_,h2⟩
  ·rcases List.mem_cons.mp hb with rfl | hb
   ·exact λL=>nI L.mem
   ·rw [List.mem_singleton.mp hb];exact nl
  ·obtain ⟨hlt,hu⟩:=hu
   rw [List.size_toArray] at hlt hu
   have hu':vs.reverse[i]? = some u:=by
    rw [List.getElem?_reverse hlt];simpa using hu
   exact rs.reverse.getV hu'
 | trev hl nl rs hn hr nI hne hI =>
  rename_i xs vs a I
  refine x1_3 (id hr) λo ho hc hd=>?_
  have W:=Walks.tupRev (prog:=B.prog) (w:=B.w) hh I a hne vs.toArray (by rw [List.size_toArray,rs.length];exact room63 hn)
  have st0:(0:Nat)≤vs.toArray.size∧IsTRev s.heap I a ((vs.toArray.size:Int) - 1 - ((0:Nat):Int))∧IsTup s.heap a vs.toArray:=⟨Nat.zero_le _,(by simpa using hr),hl⟩
  refine W.self 0 s _ E st0 (IterAt.of (h':=s.heap) (tk:=s.toks) W.bound (λ_ _ e=>e) hI λW=>?_)
  refine ⟨W,by rw [List.size_toArray,List.length_reverse,rs.length],st0,λb hb=>List.mem_singleton.mp hb,λi h' st b hb=>?_,λi h' st=>?_,λb hb=>?_,nI,λi u hu=>?_⟩
  ·obtain ⟨_,⟨o,h1,h2,h3⟩,⟨o',h4,h5,n',h6⟩⟩:=st
   rcases List.mem_cons.mp hb with rfl | hb
   ·exact ⟨o,h1,.inr ⟨⟨_,h3⟩,_,h2⟩⟩
   ·rw [List.mem_singleton.mp hb];exact ⟨o',h4,.inl ⟨_,_,h6⟩⟩
  ·obtain ⟨_,⟨o,h1,h2,h3⟩,_⟩:=st
   exact ⟨o,h1,⟨_,h3⟩,_,h2⟩
  ·rcases List.mem_cons.mp hb with rfl | hb
   ·exact λL=>nI L.mem
   ·rw [List.mem_singleton.mp hb];exact nl
  ·obtain ⟨hlt,hu⟩:=hu
   rw [List.size_toArray] at hlt hu
   have hu':vs.reverse[i]? = some u:=by
    rw [List.getElem?_reverse hlt];simpa using hu
   exact rs.reverse.getV hu'
end
end Mine.Internal
namespace Mine.Internal
open PySem PyProof.Rows PySem.Calls
noncomputable def own (env:Env)(b:Addr):Prop:=b=env.locals∨∃ x,(x,b)∈env.cells
structure FR (B:Bs) (tbl:List (Str×Nat)) (env:Env) (Γ:Fm) (σ:Sg) (φ:List Addr) (h:Heap):Prop where
 kind:env.scope.kind = .function
 gl:env.globals=mainGlobals
 bi:env.builtins=builtinsNs
 ns:∃ m,h.Ns env.locals m∧∀ x i v,tbl.lookup x=some i->getV Γ i=some v->env.kindOf x=some .local->∃ cv,m x=some cv∧VR B σ φ h v cv
 cell:∀ x i v,tbl.lookup x=some i->getV Γ i=some v->(env.kindOf x=some .cell∨env.kindOf x=some .free)->∃ c cv,env.cells.lookup x=some c∧h.IsCell c (some cv)∧VR B σ φ h v cv
 nl:¬ live σ φ env.locals
 cells:∀ x c,(x,c)∈env.cells->∃ v,h.IsCell c v
 newL:B.hb.get? env.locals=none
 newC:∀ x c,(x,c)∈env.cells->B.hb.get? c=none
 has:∀ x,env.kindOf x=some .cell->(env.cells.lookup x).isSome=true
section
variable {B:Bs} {W:Addr->Prop} {tbl:List (Str×Nat)} {env:Env} {Γ:Fm} {σ σ₁ σ₂:Sg} {φ φ₁ φ₂:List Addr} {h h₁ h₂:Heap}
theorem SR.notlive_cell (R:SR B σ φ h){c:Addr}{v:Option Value}(hc:h.IsCell c v):¬ live σ φ c:=λL=>by
 refine x1_2 (hc) λo ho hd=>?_
 refine x1_2 (R.liveObj L) λo' ho' x=>?_
 rw [ho] at ho';cases ho'
 rcases x with ⟨_,_,_,x⟩ | ⟨_,_,_,x⟩ <;> rw [hd] at x <;> cases x
theorem FR.apart (F:FR B tbl env Γ σ φ h):Apart B (own env) h:=by
 rintro b hb o ho
 rcases hb with rfl | ⟨x,hx⟩
 ·obtain ⟨m,⟨o',es,ep,ho',hd,_⟩,_⟩:=F.ns
  rw [ho] at ho';cases ho'
  exact .inr λxs n e=>(by rw [hd] at e;cases e)
 ·refine x2_2 (F.cells x b hx) λv o' ho' hd=>?_
  rw [ho] at ho';cases ho'
  exact .inr λxs n e=>(by rw [hd] at e;cases e)
theorem FR.fad_loc (F:FR B tbl env Γ σ φ h)(R:SR B σ φ h){L:Addr}(hL:L∈B.fad)(ho:own env L):L=env.locals:=by
 rcases ho with e | ⟨x,hx⟩
 ·exact e
 ·obtain ⟨⟨o,es,n,e,hd⟩,_⟩:=R.fo L hL
  obtain ⟨v,o',e',hd'⟩:=F.cells x L hx
  rw [e] at e';cases e'
  rw [hd] at hd';cases hd'
theorem FR.monoq (F:FR B tbl env Γ σ φ h)(R:SR B σ φ h)(S:Stq W σ φ h σ₁ φ₁ h₁)(hw:Apart B W h)(hL:¬ W env.locals)(hC:∀ x c,(x,c)∈env.cells->¬ W c):FR B tbl env Γ σ₁ φ₁ h₁:=by
 refine x1_2 (F.ns) λm hm hv=>?_
 refine x3_4 (id hm) λo es ep ho hd hk hf=>?_
 have cellK:∀ x c v,(x,c)∈env.cells->h.IsCell c v->h₁.IsCell c v:=by
  rintro x c v hx hc
  have nl:=R.notlive_cell hc
  refine x1_2 (hc) λo ho hd=>?_
  exact ⟨o,(S.keep c o ho nl (hC x c hx)).at (λ_ _ x=>by rw [hd] at x;cases x),hd⟩
 refine ⟨F.kind,F.gl,F.bi,⟨m,Up.ns hm λo ho=>S.keep _ o ho F.nl hL,λx i v e1 e2 e3=>?_⟩,λx i v e1 e2 e3=>?_,λL=>?_,λx c hx=>?_,F.newL,F.newC,F.has⟩
 ·refine x1_2 (hv x i v e1 e2 e3) λcv e4 e5=>?_
  exact ⟨cv,e4,e5.monoq R S hw⟩
 ·refine x2_3 (F.cell x i v e1 e2 e3) λc cv e4 e5 e6=>?_
  exact ⟨c,cv,e4,cellK x c _ (mem_of_lookup e4) e5,e6.monoq R S hw⟩
 ·rcases S.live R.len L with x | x
  ·exact F.nl x
  ·rw [ho] at x;cases x
 ·obtain ⟨v,hv⟩:=F.cells x c hx
  exact ⟨v,cellK x c v hx hv⟩
theorem FR.mono (F:FR B tbl env Γ σ φ h)(R:SR B σ φ h)(S:Stp W σ φ h σ₁ φ₁ h₁)(hw:Apart B W h)(hL:¬ W env.locals)(hC:∀ x c,(x,c)∈env.cells->¬ W c):FR B tbl env Γ σ₁ φ₁ h₁:=F.monoq R S.q hw hL hC
theorem FR.mono0 (F:FR B tbl env Γ σ φ h)(R:SR B σ φ h)(S:Stp W0 σ φ h σ₁ φ₁ h₁):FR B tbl env Γ σ₁ φ₁ h₁:=F.mono R S Apart.none (λx=>x) λ_ _ _ x=>x
theorem qgh {i j:Nat}{v x:V}(e:getV (Γ.set i v) j=some x):(i=j∧x=v)∨(i≠j∧getV Γ j=some x):=by
 by_cases hij:i=j
 ·subst hij
  have g:=qfb e
  by_cases hl:i<Γ.length
  ·rw [List.getElem?_set_self hl] at g
   exact .inl ⟨rfl,(Option.some.inj g).symm⟩
  ·rw [List.set_eq_of_length_le (by lia),List.getElem?_eq_none (by lia)] at g
   cases g
 ·exact .inr ⟨hij,(qhs (List.getElem?_set_ne hij)).symm.trans e⟩
end
section
variable {prog:Program} {w:World} {A:Around} {E:Value->Shared->Prop} {s:Shared} {B:Bs} {tbl:List (Str×Nat)} {env:Env} {Γ:Fm} {σ:Sg} {φ:List Addr}
theorem qup {x:Str}{i:Nat}{v:V}{M:Model}{Q:Value->Shared->Prop}(F:FR B tbl env Γ σ φ s.heap)(hx:tbl.lookup x=some i)(hv:getV Γ i=some v)
  (hk:env.kindOf x=some .local∨env.kindOf x=some .cell∨env.kindOf x=some .free) (hd:x≠("__classdict__":Str)) (hq:∀ cv,VR B σ φ s.heap v cv->Q cv s):wpAny M A (loadName env x) Q E s:=by
 rcases hk with hk | hk | hk
 ·refine x1_2 (F.ns) λm hm hval=>?_
  refine x1_2 (hval x i v hx hv hk) λcv e1 e2=>?_
  exact wpAny_loadName_local F.kind hk hm e1 (hq cv e2)
 ·refine x2_3 (F.cell x i v hx hv (.inl hk)) λc cv e1 e2 e3=>?_
  exact wpAny_loadName_cell F.kind hk e1 e2 (hq cv e3)
 ·refine x2_3 (F.cell x i v hx hv (.inr hk)) λc cv e1 e2 e3=>?_
  exact wpAny_loadName_free F.kind hk e1 e2 (hq cv e3) (by simpa using hd)
noncomputable def TInj (tbl:List (Str×Nat)):Prop:=∀ x y i,tbl.lookup x=some i->tbl.lookup y=some i->x=y
theorem qg8 {x:Str}{i:Nat}{v:V}{cv:Value}{M:Model}{Q:Unit->Shared->Prop}(R:SR B σ φ s.heap)(F:FR B tbl env Γ σ φ s.heap)(T:TInj tbl)(hap:env.cells.Pairwise λx y=>x.2≠y.2)(hx:tbl.lookup x=some i)
  (hk:env.kindOf x=some .local∨(env.kindOf x=some .cell∧(env.cells.lookup x).isSome=true)) (r:VR B σ φ s.heap v cv)
  (hq:∀ h' tk,SR B σ φ h'->FR B tbl env (Γ.set i v) σ φ h'->Stp (own env) σ φ s.heap σ φ h'->Q () { s with heap:=h',toks:=tk }):wpAny M A (storeName env x cv) Q E s:=by
 have liveKeep:∀ c h',(c=env.locals∨∃ y,(y,c)∈env.cells)->Heap.SameBut c s.heap h'->(∀ a o,live σ φ a->s.heap.get? a=some o->h'.get? a=some o):=by
  intro c h' hc hs a o L e
  refine hs.extBut a o (λq=>?_) e
  subst q
  rcases hc with rfl | ⟨y,hy⟩
  ·exact F.nl L
  ·obtain ⟨u,hu⟩:=F.cells y a hy
   exact R.notlive_cell hu L
 have stp:∀ c h',(c=env.locals∨∃ y,(y,c)∈env.cells)->Heap.SameBut c s.heap h'->(∃ o,h'.get? c=some o)->Stp (own env) σ φ s.heap σ φ h':=by
  intro c h' hc hs hx
  refine ⟨λ_ _ e=>e,λj b hj e=>(by rw [List.getElem?_eq_none hj] at e;cases e),λ_ e=>e,λb o e hl hW=>.inl (hs.extBut b o (λq=>hW (q ▸ hc)) e),λb o e=>?_⟩
  by_cases q:b=c
  ·rw [q];exact hx
  ·exact ⟨o,hs.extBut b o q e⟩
 refine x1_2 (F.ns) λm hm hval=>?_
 have cellNe:∀ y c u,(y,c)∈env.cells->s.heap.IsCell c u->c≠env.locals:=by
  rintro y c u hy ⟨o,ho,hd⟩ rfl
  refine x3_3 (hm) λo' es ep ho' hd' _=>?_
  rw [ho] at ho';cases ho'
  rw [hd] at hd';cases hd'
 rcases hk with hk | ⟨hk,hc⟩
 ·refine wpAny_storeName_local hk hm (λh' hn hs=>?_) (by rw [F.kind];rfl)
  have S:=stp env.locals h' (.inl rfl) hs (let ⟨o,_,_,e,_⟩:=hn;⟨o,e⟩)
  have R':=R.carry S F.apart (liveKeep _ h' (.inl rfl) hs) (λb o e g=>hs.extBut b o (λq=>by rw [q,F.newL] at e;cases e) g) λL hL ho=>(by rw [F.fad_loc R hL ho];obtain ⟨o,es,ep,e,hd,_⟩:=hn;exact ⟨o,es,ep,e,hd⟩)
  refine hq h' _ R' ⟨F.kind,F.gl,F.bi,⟨_,hn,λy j u e1 e2 e3=>?_⟩,λy j u e1 e2 e3=>?_,F.nl,λy c hy=>?_,F.newL,F.newC,F.has⟩ S
  ·rcases qgh e2 with ⟨rfl,rfl⟩ | ⟨hij,e2⟩
   ·have:y=x:=T y x i e1 hx
    subst this
    exact ⟨cv,by simp,r.mono R S F.apart⟩
   ·have:y≠x:=λq=>hij (by rw [q,hx] at e1;exact Option.some.inj e1)
    refine x1_2 (hval y j u e1 e2 e3) λcu e4 e5=>?_
    exact ⟨cu,by simp [this,e4],e5.mono R S F.apart⟩
  ·rcases qgh e2 with ⟨rfl,rfl⟩ | ⟨hij,e2⟩
   ·have:y=x:=T y x i e1 hx
    subst this
    rw [hk] at e3
    rcases e3 with e3 | e3 <;> cases e3
   ·refine x2_3 (F.cell y j u e1 e2 e3) λc cu e4 e5 e6=>?_
    exact ⟨c,cu,e4,e5.sameBut hs (cellNe y c _ (mem_of_lookup e4) e5),e6.mono R S F.apart⟩
  ·obtain ⟨u,hu⟩:=F.cells y c hy
   exact ⟨u,hu.sameBut hs (cellNe y c u hy hu)⟩
 ·obtain ⟨c,hc⟩:=Option.isSome_iff_exists.mp hc
  have hmem:=mem_of_lookup hc
  obtain ⟨v₀,hv₀⟩:=F.cells x c hmem
  refine wpAny_storeName_cell F.kind hk hc hv₀ λh' hc' hs=>?_
  have S:=stp c h' (.inr ⟨x,hmem⟩) hs (let ⟨o,e,_⟩:=hc';⟨o,e⟩)
  have hne:=cellNe x c v₀ hmem hv₀
  have R':=R.carry S F.apart (liveKeep _ h' (.inr ⟨x,hmem⟩) hs) (λb o e g=>hs.extBut b o (λq=>by rw [q,F.newC x c hmem] at e;cases e) g) λL hL ho=>(by rw [F.fad_loc R hL ho];obtain ⟨o,es,ep,e,hd,_⟩:=hm;exact ⟨o,es,ep,hs.extBut _ o (Ne.symm hne) e,hd⟩)
  refine hq h' _ R' ⟨F.kind,F.gl,F.bi,⟨m,hm.sameBut hs (Ne.symm hne),λy j u e1 e2 e3=>?_⟩,λy j u e1 e2 e3=>?_,F.nl,λy d hy=>?_,F.newL,F.newC,F.has⟩ S
  ·rcases qgh e2 with ⟨rfl,rfl⟩ | ⟨hij,e2⟩
   ·have:y=x:=T y x i e1 hx
    subst this
    rw [hk] at e3;cases e3
   ·refine x1_2 (hval y j u e1 e2 e3) λcu e4 e5=>?_
    exact ⟨cu,e4,e5.mono R S F.apart⟩
  ·rcases qgh e2 with ⟨rfl,rfl⟩ | ⟨hij,e2⟩
   ·have:y=x:=T y x i e1 hx
    subst this
    exact ⟨c,cv,hc,hc',r.mono R S F.apart⟩
   ·have hyx:y≠x:=λq=>hij (by rw [q,hx] at e1;exact Option.some.inj e1)
    refine x2_3 (F.cell y j u e1 e2 e3) λd cu e4 e5 e6=>?_
    refine ⟨d,cu,e4,e5.sameBut hs λq=>hyx (name_of_addr hap (mem_of_lookup e4) (q ▸ hmem)),e6.mono R S F.apart⟩
  ·by_cases q:d=c
   ·subst q;exact ⟨_,hc'⟩
   ·obtain ⟨u,hu⟩:=F.cells y d hy
    exact ⟨u,hu.sameBut hs q⟩
end
end Mine.Internal
namespace Mine.Internal
open PySem PyProof.Rows PySem.Calls
structure Nm where
 fns:List Str
 gns:List Str
 xns:List Str:=[]
noncomputable def eqS (a b:Str):Bool:=a.cps.toList == b.cps.toList
theorem qax {a b:Str}:eqS a b=true↔a=b:=by
 unfold eqS
 constructor
 ·intro h
  obtain ⟨⟨a⟩⟩:=a
  obtain ⟨⟨b⟩⟩:=b
  have:a=b:=by simpa using h
  rw [this]
 ·rintro rfl;simp
noncomputable def lkS {α:Type}:List (Str×α)->Str->Option α
 | [],_=>none
 | (k,v)::r,x=>if eqS x k then some v else lkS r x
theorem qun {α:Type}{k x:Str}{v:α}{r:List (Str×α)}:lkS ((k,v)::r) x=if eqS x k then some v else lkS r x:=rfl
theorem qdl {α:Type}:∀ (l:List (Str×α)) (x:Str),lkS l x=l.lookup x
 | [],_=>rfl
 | (k,v)::r,x=>by
  rw [qun,List.lookup_cons,qdl r x]
  cases h:eqS x k with
  | true=>rw [qax.mp h];simp
  | false =>
   have:(x == k)=false:=by
    cases hb:x == k with
    | false=>rfl
    | true=>rw [beq_iff_eq.mp hb,qax.mpr rfl] at h;cases h
   rw [this];rfl
noncomputable def isVar:Option NameKind->Bool
 | some .local=>true
 | some .cell=>true
 | some .free=>true
 | _=>false
noncomputable def isGlob:Option NameKind->Bool
 | some .globalImplicit=>true
 | _=>false
noncomputable def isLoc:Option NameKind->Bool
 | some .local=>true
 | _=>false
noncomputable def isCel:Option NameKind->Bool
 | some .cell=>true
 | _=>false
noncomputable def isFree:NameKind->Bool
 | .free=>true
 | _=>false
noncomputable def okId (id:Str):Bool:=!(eqS id (oS "__debug__")) && !(eqS id (oS "__classdict__"))
noncomputable def opIs (o:Bop)(c:Operator):Bool:=decide (c=bop o)
theorem qsu {o:Bop}{c:Operator}(h:opIs o c=true):c=bop o:=of_decide_eq_true h
noncomputable def copIs (o:Cop)(c:CmpOp):Bool:=decide (c=cop o)
theorem qnm {o:Cop}{c:CmpOp}(h:copIs o c=true):c=cop o:=of_decide_eq_true h
noncomputable def biOf:Bi->Option (Str×Value)
 | .len=>some (oS "len",.builtin "len")
 | .sum=>some (oS "sum",.builtin "sum")
 | .all=>some (oS "all",.builtin "all")
 | .any=>some (oS "any",.builtin "any")
 | .max1=>some (oS "max",.builtin "max")
 | .max2=>some (oS "max",.builtin "max")
 | .min2=>some (oS "min",.builtin "min")
 | .tuple=>some (oS "tuple",.type "tuple")
 | .list=>some (oS "list",.type "list")
 | .int=>some (oS "int",.type "int")
 | _=>none
noncomputable def isaOf:Bi->Option (Str×String)
 | .isBool=>some (oS "bool","bool")
 | .isInt=>some (oS "int","int")
 | .isStr=>some (oS "str","str")
 | .isTup=>some (oS "tuple","tuple")
 | .isLst=>some (oS "list","list")
 | _=>none
noncomputable def sInst:Str:=oS "isinstance"
noncomputable def sRange:Str:=oS "range"
noncomputable def sRev:Str:=oS "reversed"
noncomputable def baseOk:Expr->Bool
 | .Name ..=>true
 | .Subscript ..=>true
 | .Constant ..=>true
 | _=>false
noncomputable def setOk:Expr->Bool
 | .Set ..=>false
 | _=>true
noncomputable def plainTest:Expr->Bool
 | .UnaryOp ..=>false
 | .BoolOp ..=>false
 | .IfExp ..=>false
 | .Compare ..=>false
 | _=>true
noncomputable def relab (csc:List (Str×NameKind)):List (Str×NameKind):=csc.map λy=>if isFree y.2 then (y.1,.cell) else y
noncomputable def scopeOk (sc:List (Str×NameKind))(tbl:List (Str×Nat))(nl:Nat)(csc:List (Str×NameKind))(x:Str):Bool :=
 isLoc (lkS csc x) && tbl.all (λy=>y.2<nl) && csc.all (λy=>match y.2 with
  | .cell=>false
  | .local=>isLoc (lkS csc y.1) && (eqS y.1 x || (lkS tbl y.1).isNone)
  | .free=>isCel (lkS sc y.1)
  | _=>true)
structure Hn where
 name:Str->Bool
 const:Const->Bool
 boolOp:BoolOp->List Expr->Bool
 unary:UnaryOp->Expr->Bool
 bin:Expr->Operator->Expr->Bool
 cmp:Expr->List CmpOp->List Expr->Bool
 ifx:Expr->Expr->Expr->Bool
 tup:List Expr->Bool
 lst:List Expr->Bool
 comp:Expr->List Comprehension->Scope->Bool
 call:Expr->List Expr->List Keyword->Pos->Bool
 attr:Expr->Str->Pos->Bool
 sub:Expr->Expr->Bool
 slc:Option Expr->Option Expr->Option Expr->Bool
noncomputable def hn0:Hn:=⟨λ_=>false,λ_=>false,λ_ _=>false,λ_ _=>false,λ_ _ _=>false,λ_ _ _=>false,λ_ _ _=>false,λ_=>false,λ_=>false,λ_ _ _=>false,λ_ _ _ _=>false,λ_ _ _=>false,λ_ _=>false,λ_ _ _=>false⟩
noncomputable def runE (h:Hn)(e:Expr):Bool:=match e with
 | .Name id _=>h.name id
 | .Constant c _ _=>h.const c
 | .BoolOp o l _=>h.boolOp o l
 | .UnaryOp o x _=>h.unary o x
 | .BinOp l o r _=>h.bin l o r
 | .Compare l o r _=>h.cmp l o r
 | .IfExp t u v _=>h.ifx t u v
 | .Tuple es _ _=>h.tup es
 | .List es _=>h.lst es
 | .ListComp x g s _=>h.comp x g s
 | .Call f es kw p=>h.call f es kw p
 | .Attribute o n p=>h.attr o n p
 | .Subscript v i _=>h.sub v i
 | .Slice a b c _=>h.slc a b c
 | _=>false
noncomputable def onName (e:Expr)(B:Str->Bool):Bool:=runE ⟨B,hn0.const,hn0.boolOp,hn0.unary,hn0.bin,hn0.cmp,hn0.ifx,hn0.tup,hn0.lst,hn0.comp,hn0.call,hn0.attr,hn0.sub,hn0.slc⟩ e
noncomputable def onConst (e:Expr)(B:Const->Bool):Bool:=runE ⟨hn0.name,B,hn0.boolOp,hn0.unary,hn0.bin,hn0.cmp,hn0.ifx,hn0.tup,hn0.lst,hn0.comp,hn0.call,hn0.attr,hn0.sub,hn0.slc⟩ e
noncomputable def onBoolOp (e:Expr)(B:BoolOp->List Expr->Bool):Bool:=runE ⟨hn0.name,hn0.const,B,hn0.unary,hn0.bin,hn0.cmp,hn0.ifx,hn0.tup,hn0.lst,hn0.comp,hn0.call,hn0.attr,hn0.sub,hn0.slc⟩ e
noncomputable def onUnary (e:Expr)(B:UnaryOp->Expr->Bool):Bool:=runE ⟨hn0.name,hn0.const,hn0.boolOp,B,hn0.bin,hn0.cmp,hn0.ifx,hn0.tup,hn0.lst,hn0.comp,hn0.call,hn0.attr,hn0.sub,hn0.slc⟩ e
noncomputable def onBin (e:Expr)(B:Expr->Operator->Expr->Bool):Bool:=runE ⟨hn0.name,hn0.const,hn0.boolOp,hn0.unary,B,hn0.cmp,hn0.ifx,hn0.tup,hn0.lst,hn0.comp,hn0.call,hn0.attr,hn0.sub,hn0.slc⟩ e
noncomputable def onCompare (e:Expr)(B:Expr->List CmpOp->List Expr->Bool):Bool:=runE ⟨hn0.name,hn0.const,hn0.boolOp,hn0.unary,hn0.bin,B,hn0.ifx,hn0.tup,hn0.lst,hn0.comp,hn0.call,hn0.attr,hn0.sub,hn0.slc⟩ e
noncomputable def onIfExp (e:Expr)(B:Expr->Expr->Expr->Bool):Bool:=runE ⟨hn0.name,hn0.const,hn0.boolOp,hn0.unary,hn0.bin,hn0.cmp,B,hn0.tup,hn0.lst,hn0.comp,hn0.call,hn0.attr,hn0.sub,hn0.slc⟩ e
noncomputable def onTuple (e:Expr)(B:List Expr->Bool):Bool:=runE ⟨hn0.name,hn0.const,hn0.boolOp,hn0.unary,hn0.bin,hn0.cmp,hn0.ifx,B,hn0.lst,hn0.comp,hn0.call,hn0.attr,hn0.sub,hn0.slc⟩ e
noncomputable def onList (e:Expr)(B:List Expr->Bool):Bool:=runE ⟨hn0.name,hn0.const,hn0.boolOp,hn0.unary,hn0.bin,hn0.cmp,hn0.ifx,hn0.tup,B,hn0.comp,hn0.call,hn0.attr,hn0.sub,hn0.slc⟩ e
noncomputable def onComp (e:Expr)(B:Expr->List Comprehension->Scope->Bool):Bool:=runE ⟨hn0.name,hn0.const,hn0.boolOp,hn0.unary,hn0.bin,hn0.cmp,hn0.ifx,hn0.tup,hn0.lst,B,hn0.call,hn0.attr,hn0.sub,hn0.slc⟩ e
noncomputable def onCall (e:Expr)(B:Expr->List Expr->List Keyword->Pos->Bool):Bool:=runE ⟨hn0.name,hn0.const,hn0.boolOp,hn0.unary,hn0.bin,hn0.cmp,hn0.ifx,hn0.tup,hn0.lst,hn0.comp,B,hn0.attr,hn0.sub,hn0.slc⟩ e
noncomputable def onAttr (e:Expr)(B:Expr->Str->Pos->Bool):Bool:=runE ⟨hn0.name,hn0.const,hn0.boolOp,hn0.unary,hn0.bin,hn0.cmp,hn0.ifx,hn0.tup,hn0.lst,hn0.comp,hn0.call,B,hn0.sub,hn0.slc⟩ e
noncomputable def onSub (e:Expr)(B:Expr->Expr->Bool):Bool:=runE ⟨hn0.name,hn0.const,hn0.boolOp,hn0.unary,hn0.bin,hn0.cmp,hn0.ifx,hn0.tup,hn0.lst,hn0.comp,hn0.call,hn0.attr,B,hn0.slc⟩ e
noncomputable def onSlice (e:Expr)(B:Option Expr->Option Expr->Option Expr->Bool):Bool:=runE ⟨hn0.name,hn0.const,hn0.boolOp,hn0.unary,hn0.bin,hn0.cmp,hn0.ifx,hn0.tup,hn0.lst,hn0.comp,hn0.call,hn0.attr,hn0.sub,B⟩ e
noncomputable def onDict (e:Expr)(B:Bool->Bool):Bool:=match e with | .Dict ks vs _=>B (ks.isEmpty && vs.isEmpty) | _=>false
noncomputable def notStar:Expr->Bool
 | .Starred ..=>false
 | _=>true
noncomputable def notSlice:Expr->Bool
 | .Slice ..=>false
 | _=>true
noncomputable def nilL {α:Type}:List α->Bool
 | []=>true
 | _=>false
noncomputable def on1 {α:Type}(l:List α)(B:α->Bool):Bool:=match l with | [x]=>B x | _=>false
noncomputable def on2 {α:Type}(l:List α)(B:α->α->Bool):Bool:=match l with | [x,y]=>B x y | _=>false
noncomputable def onTwo {α:Type}(l:List α)(B:α->α->List α->Bool):Bool:=match l with | x::y::r=>B x y r | _=>false
noncomputable def onO {α:Type}(o:Option α)(B:α->Bool):Bool:=match o with | some x=>B x | none=>false
theorem qaa {p:Prop}(h:false=true):p:=(Bool.false_ne_true h).elim
theorem qa8 {h:Hn}{e:Expr}{P:Expr->Prop}(r:runE h e=true)(k0:∀ id p,h.name id=true->P (.Name id p))(k1:∀ c k p,h.const c=true->P (.Constant c k p))(k2:∀ o l p,h.boolOp o l=true->P (.BoolOp o l p))(k3:∀ o x p,h.unary o x=true->P (.UnaryOp o x p))(k4:∀ l o r p,h.bin l o r=true->P (.BinOp l o r p))(k5:∀ l o r p,h.cmp l o r=true->P (.Compare l o r p))(k6:∀ t u v p,h.ifx t u v=true->P (.IfExp t u v p))(k7:∀ es o p,h.tup es=true->P (.Tuple es o p))(k8:∀ es p,h.lst es=true->P (.List es p))(k9:∀ x g s p,h.comp x g s=true->P (.ListComp x g s p))(k10:∀ f es kw p,h.call f es kw p=true->P (.Call f es kw p))(k11:∀ o n p,h.attr o n p=true->P (.Attribute o n p))(k12:∀ v i p,h.sub v i=true->P (.Subscript v i p))(k13:∀ a b c p,h.slc a b c=true->P (.Slice a b c p)):P e:=by
 cases e with
 | Name id p=>exact k0 _ _ r
 | Constant c k p=>exact k1 _ _ _ r
 | BoolOp o l p=>exact k2 _ _ _ r
 | UnaryOp o x p=>exact k3 _ _ _ r
 | BinOp l o r p=>exact k4 _ _ _ _ r
 | Compare l o r p=>exact k5 _ _ _ _ r
 | IfExp t u v p=>exact k6 _ _ _ _ r
 | Tuple es o p=>exact k7 _ _ _ r
 | List es p=>exact k8 _ _ r
 | ListComp x g s p=>exact k9 _ _ _ _ r
 | Call f es kw p=>exact k10 _ _ _ _ r
 | Attribute o n p=>exact k11 _ _ _ r
 | Subscript v i p=>exact k12 _ _ _ r
 | Slice a b c p=>exact k13 _ _ _ _ r
 | _=>exact qaa r
theorem qbq {e:Expr}{B:Str->Bool}(h:onName e B=true):∃ id p,e = .Name id p∧B id=true:=qa8 (h:=⟨B,hn0.const,hn0.boolOp,hn0.unary,hn0.bin,hn0.cmp,hn0.ifx,hn0.tup,hn0.lst,hn0.comp,hn0.call,hn0.attr,hn0.sub,hn0.slc⟩) (P:=λe=>∃ id p,e = .Name id p∧B id=true) h (λid p hb0=>⟨id,p,rfl,hb0⟩) (λ_ _ _ f=>qaa f) (λ_ _ _ f=>qaa f) (λ_ _ _ f=>qaa f) (λ_ _ _ _ f=>qaa f) (λ_ _ _ _ f=>qaa f) (λ_ _ _ _ f=>qaa f) (λ_ _ _ f=>qaa f) (λ_ _ f=>qaa f) (λ_ _ _ _ f=>qaa f) (λ_ _ _ _ f=>qaa f) (λ_ _ _ f=>qaa f) (λ_ _ _ f=>qaa f) (λ_ _ _ _ f=>qaa f)
theorem qfh {e:Expr}{B:Const->Bool}(h:onConst e B=true):∃ c k p,e = .Constant c k p∧B c=true:=qa8 (h:=⟨hn0.name,B,hn0.boolOp,hn0.unary,hn0.bin,hn0.cmp,hn0.ifx,hn0.tup,hn0.lst,hn0.comp,hn0.call,hn0.attr,hn0.sub,hn0.slc⟩) (P:=λe=>∃ c k p,e = .Constant c k p∧B c=true) h (λ_ _ f=>qaa f) (λc k p hb0=>⟨c,k,p,rfl,hb0⟩) (λ_ _ _ f=>qaa f) (λ_ _ _ f=>qaa f) (λ_ _ _ _ f=>qaa f) (λ_ _ _ _ f=>qaa f) (λ_ _ _ _ f=>qaa f) (λ_ _ _ f=>qaa f) (λ_ _ f=>qaa f) (λ_ _ _ _ f=>qaa f) (λ_ _ _ _ f=>qaa f) (λ_ _ _ f=>qaa f) (λ_ _ _ f=>qaa f) (λ_ _ _ _ f=>qaa f)
theorem qg3 {e:Expr}{B:BoolOp->List Expr->Bool}(h:onBoolOp e B=true):∃ o l p,e = .BoolOp o l p∧B o l=true:=qa8 (h:=⟨hn0.name,hn0.const,B,hn0.unary,hn0.bin,hn0.cmp,hn0.ifx,hn0.tup,hn0.lst,hn0.comp,hn0.call,hn0.attr,hn0.sub,hn0.slc⟩) (P:=λe=>∃ o l p,e = .BoolOp o l p∧B o l=true) h (λ_ _ f=>qaa f) (λ_ _ _ f=>qaa f) (λo l p hb0=>⟨o,l,p,rfl,hb0⟩) (λ_ _ _ f=>qaa f) (λ_ _ _ _ f=>qaa f) (λ_ _ _ _ f=>qaa f) (λ_ _ _ _ f=>qaa f) (λ_ _ _ f=>qaa f) (λ_ _ f=>qaa f) (λ_ _ _ _ f=>qaa f) (λ_ _ _ _ f=>qaa f) (λ_ _ _ f=>qaa f) (λ_ _ _ f=>qaa f) (λ_ _ _ _ f=>qaa f)
theorem qpb {e:Expr}{B:UnaryOp->Expr->Bool}(h:onUnary e B=true):∃ o x p,e = .UnaryOp o x p∧B o x=true:=qa8 (h:=⟨hn0.name,hn0.const,hn0.boolOp,B,hn0.bin,hn0.cmp,hn0.ifx,hn0.tup,hn0.lst,hn0.comp,hn0.call,hn0.attr,hn0.sub,hn0.slc⟩) (P:=λe=>∃ o x p,e = .UnaryOp o x p∧B o x=true) h (λ_ _ f=>qaa f) (λ_ _ _ f=>qaa f) (λ_ _ _ f=>qaa f) (λo x p hb0=>⟨o,x,p,rfl,hb0⟩) (λ_ _ _ _ f=>qaa f) (λ_ _ _ _ f=>qaa f) (λ_ _ _ _ f=>qaa f) (λ_ _ _ f=>qaa f) (λ_ _ f=>qaa f) (λ_ _ _ _ f=>qaa f) (λ_ _ _ _ f=>qaa f) (λ_ _ _ f=>qaa f) (λ_ _ _ f=>qaa f) (λ_ _ _ _ f=>qaa f)
theorem qvv {e:Expr}{B:Expr->Operator->Expr->Bool}(h:onBin e B=true):∃ l o r p,e = .BinOp l o r p∧B l o r=true:=qa8 (h:=⟨hn0.name,hn0.const,hn0.boolOp,hn0.unary,B,hn0.cmp,hn0.ifx,hn0.tup,hn0.lst,hn0.comp,hn0.call,hn0.attr,hn0.sub,hn0.slc⟩) (P:=λe=>∃ l o r p,e = .BinOp l o r p∧B l o r=true) h (λ_ _ f=>qaa f) (λ_ _ _ f=>qaa f) (λ_ _ _ f=>qaa f) (λ_ _ _ f=>qaa f) (λl o r p hb0=>⟨l,o,r,p,rfl,hb0⟩) (λ_ _ _ _ f=>qaa f) (λ_ _ _ _ f=>qaa f) (λ_ _ _ f=>qaa f) (λ_ _ f=>qaa f) (λ_ _ _ _ f=>qaa f) (λ_ _ _ _ f=>qaa f) (λ_ _ _ f=>qaa f) (λ_ _ _ f=>qaa f) (λ_ _ _ _ f=>qaa f)
theorem qhx {e:Expr}{B:Expr->List CmpOp->List Expr->Bool}(h:onCompare e B=true):∃ l o r p,e = .Compare l o r p∧B l o r=true:=qa8 (h:=⟨hn0.name,hn0.const,hn0.boolOp,hn0.unary,hn0.bin,B,hn0.ifx,hn0.tup,hn0.lst,hn0.comp,hn0.call,hn0.attr,hn0.sub,hn0.slc⟩) (P:=λe=>∃ l o r p,e = .Compare l o r p∧B l o r=true) h (λ_ _ f=>qaa f) (λ_ _ _ f=>qaa f) (λ_ _ _ f=>qaa f) (λ_ _ _ f=>qaa f) (λ_ _ _ _ f=>qaa f) (λl o r p hb0=>⟨l,o,r,p,rfl,hb0⟩) (λ_ _ _ _ f=>qaa f) (λ_ _ _ f=>qaa f) (λ_ _ f=>qaa f) (λ_ _ _ _ f=>qaa f) (λ_ _ _ _ f=>qaa f) (λ_ _ _ f=>qaa f) (λ_ _ _ f=>qaa f) (λ_ _ _ _ f=>qaa f)
theorem qpa {e:Expr}{B:Expr->Expr->Expr->Bool}(h:onIfExp e B=true):∃ t u v p,e = .IfExp t u v p∧B t u v=true:=qa8 (h:=⟨hn0.name,hn0.const,hn0.boolOp,hn0.unary,hn0.bin,hn0.cmp,B,hn0.tup,hn0.lst,hn0.comp,hn0.call,hn0.attr,hn0.sub,hn0.slc⟩) (P:=λe=>∃ t u v p,e = .IfExp t u v p∧B t u v=true) h (λ_ _ f=>qaa f) (λ_ _ _ f=>qaa f) (λ_ _ _ f=>qaa f) (λ_ _ _ f=>qaa f) (λ_ _ _ _ f=>qaa f) (λ_ _ _ _ f=>qaa f) (λt u v p hb0=>⟨t,u,v,p,rfl,hb0⟩) (λ_ _ _ f=>qaa f) (λ_ _ f=>qaa f) (λ_ _ _ _ f=>qaa f) (λ_ _ _ _ f=>qaa f) (λ_ _ _ f=>qaa f) (λ_ _ _ f=>qaa f) (λ_ _ _ _ f=>qaa f)
theorem quv {e:Expr}{B:List Expr->Bool}(h:onTuple e B=true):∃ es o p,e = .Tuple es o p∧B es=true:=qa8 (h:=⟨hn0.name,hn0.const,hn0.boolOp,hn0.unary,hn0.bin,hn0.cmp,hn0.ifx,B,hn0.lst,hn0.comp,hn0.call,hn0.attr,hn0.sub,hn0.slc⟩) (P:=λe=>∃ es o p,e = .Tuple es o p∧B es=true) h (λ_ _ f=>qaa f) (λ_ _ _ f=>qaa f) (λ_ _ _ f=>qaa f) (λ_ _ _ f=>qaa f) (λ_ _ _ _ f=>qaa f) (λ_ _ _ _ f=>qaa f) (λ_ _ _ _ f=>qaa f) (λes o p hb0=>⟨es,o,p,rfl,hb0⟩) (λ_ _ f=>qaa f) (λ_ _ _ _ f=>qaa f) (λ_ _ _ _ f=>qaa f) (λ_ _ _ f=>qaa f) (λ_ _ _ f=>qaa f) (λ_ _ _ _ f=>qaa f)
theorem qmt {e:Expr}{B:List Expr->Bool}(h:onList e B=true):∃ es p,e = .List es p∧B es=true:=qa8 (h:=⟨hn0.name,hn0.const,hn0.boolOp,hn0.unary,hn0.bin,hn0.cmp,hn0.ifx,hn0.tup,B,hn0.comp,hn0.call,hn0.attr,hn0.sub,hn0.slc⟩) (P:=λe=>∃ es p,e = .List es p∧B es=true) h (λ_ _ f=>qaa f) (λ_ _ _ f=>qaa f) (λ_ _ _ f=>qaa f) (λ_ _ _ f=>qaa f) (λ_ _ _ _ f=>qaa f) (λ_ _ _ _ f=>qaa f) (λ_ _ _ _ f=>qaa f) (λ_ _ _ f=>qaa f) (λes p hb0=>⟨es,p,rfl,hb0⟩) (λ_ _ _ _ f=>qaa f) (λ_ _ _ _ f=>qaa f) (λ_ _ _ f=>qaa f) (λ_ _ _ f=>qaa f) (λ_ _ _ _ f=>qaa f)
theorem qwu {e:Expr}{B:Expr->List Comprehension->Scope->Bool}(h:onComp e B=true):∃ x g s p,e = .ListComp x g s p∧B x g s=true:=qa8 (h:=⟨hn0.name,hn0.const,hn0.boolOp,hn0.unary,hn0.bin,hn0.cmp,hn0.ifx,hn0.tup,hn0.lst,B,hn0.call,hn0.attr,hn0.sub,hn0.slc⟩) (P:=λe=>∃ x g s p,e = .ListComp x g s p∧B x g s=true) h (λ_ _ f=>qaa f) (λ_ _ _ f=>qaa f) (λ_ _ _ f=>qaa f) (λ_ _ _ f=>qaa f) (λ_ _ _ _ f=>qaa f) (λ_ _ _ _ f=>qaa f) (λ_ _ _ _ f=>qaa f) (λ_ _ _ f=>qaa f) (λ_ _ f=>qaa f) (λx g s p hb0=>⟨x,g,s,p,rfl,hb0⟩) (λ_ _ _ _ f=>qaa f) (λ_ _ _ f=>qaa f) (λ_ _ _ f=>qaa f) (λ_ _ _ _ f=>qaa f)
theorem qss {e:Expr}{B:Expr->List Expr->List Keyword->Pos->Bool}(h:onCall e B=true):∃ f es kw p,e = .Call f es kw p∧B f es kw p=true:=qa8 (h:=⟨hn0.name,hn0.const,hn0.boolOp,hn0.unary,hn0.bin,hn0.cmp,hn0.ifx,hn0.tup,hn0.lst,hn0.comp,B,hn0.attr,hn0.sub,hn0.slc⟩) (P:=λe=>∃ f es kw p,e = .Call f es kw p∧B f es kw p=true) h (λ_ _ f=>qaa f) (λ_ _ _ f=>qaa f) (λ_ _ _ f=>qaa f) (λ_ _ _ f=>qaa f) (λ_ _ _ _ f=>qaa f) (λ_ _ _ _ f=>qaa f) (λ_ _ _ _ f=>qaa f) (λ_ _ _ f=>qaa f) (λ_ _ f=>qaa f) (λ_ _ _ _ f=>qaa f) (λf es kw p hb0=>⟨f,es,kw,p,rfl,hb0⟩) (λ_ _ _ f=>qaa f) (λ_ _ _ f=>qaa f) (λ_ _ _ _ f=>qaa f)
theorem qwt {e:Expr}{B:Expr->Str->Pos->Bool}(h:onAttr e B=true):∃ o n p,e = .Attribute o n p∧B o n p=true:=qa8 (h:=⟨hn0.name,hn0.const,hn0.boolOp,hn0.unary,hn0.bin,hn0.cmp,hn0.ifx,hn0.tup,hn0.lst,hn0.comp,hn0.call,B,hn0.sub,hn0.slc⟩) (P:=λe=>∃ o n p,e = .Attribute o n p∧B o n p=true) h (λ_ _ f=>qaa f) (λ_ _ _ f=>qaa f) (λ_ _ _ f=>qaa f) (λ_ _ _ f=>qaa f) (λ_ _ _ _ f=>qaa f) (λ_ _ _ _ f=>qaa f) (λ_ _ _ _ f=>qaa f) (λ_ _ _ f=>qaa f) (λ_ _ f=>qaa f) (λ_ _ _ _ f=>qaa f) (λ_ _ _ _ f=>qaa f) (λo n p hb0=>⟨o,n,p,rfl,hb0⟩) (λ_ _ _ f=>qaa f) (λ_ _ _ _ f=>qaa f)
theorem qst {e:Expr}{B:Expr->Expr->Bool}(h:onSub e B=true):∃ v i p,e = .Subscript v i p∧B v i=true:=qa8 (h:=⟨hn0.name,hn0.const,hn0.boolOp,hn0.unary,hn0.bin,hn0.cmp,hn0.ifx,hn0.tup,hn0.lst,hn0.comp,hn0.call,hn0.attr,B,hn0.slc⟩) (P:=λe=>∃ v i p,e = .Subscript v i p∧B v i=true) h (λ_ _ f=>qaa f) (λ_ _ _ f=>qaa f) (λ_ _ _ f=>qaa f) (λ_ _ _ f=>qaa f) (λ_ _ _ _ f=>qaa f) (λ_ _ _ _ f=>qaa f) (λ_ _ _ _ f=>qaa f) (λ_ _ _ f=>qaa f) (λ_ _ f=>qaa f) (λ_ _ _ _ f=>qaa f) (λ_ _ _ _ f=>qaa f) (λ_ _ _ f=>qaa f) (λv i p hb0=>⟨v,i,p,rfl,hb0⟩) (λ_ _ _ _ f=>qaa f)
theorem quu {e:Expr}{B:Option Expr->Option Expr->Option Expr->Bool}(h:onSlice e B=true):∃ a b c p,e = .Slice a b c p∧B a b c=true:=qa8 (h:=⟨hn0.name,hn0.const,hn0.boolOp,hn0.unary,hn0.bin,hn0.cmp,hn0.ifx,hn0.tup,hn0.lst,hn0.comp,hn0.call,hn0.attr,hn0.sub,B⟩) (P:=λe=>∃ a b c p,e = .Slice a b c p∧B a b c=true) h (λ_ _ f=>qaa f) (λ_ _ _ f=>qaa f) (λ_ _ _ f=>qaa f) (λ_ _ _ f=>qaa f) (λ_ _ _ _ f=>qaa f) (λ_ _ _ _ f=>qaa f) (λ_ _ _ _ f=>qaa f) (λ_ _ _ f=>qaa f) (λ_ _ f=>qaa f) (λ_ _ _ _ f=>qaa f) (λ_ _ _ _ f=>qaa f) (λ_ _ _ f=>qaa f) (λ_ _ _ f=>qaa f) (λa b c p hb0=>⟨a,b,c,p,rfl,hb0⟩)
theorem qwv {e:Expr}(h:onDict e (λb=>b)=true):∃ p,e = .Dict [] [] p:=by
 cases e with
 | Dict ks vs p=>cases ks with
  | cons _ _=>exact qaa h
  | nil=>cases vs with
   | cons _ _=>exact qaa h
   | nil=>exact ⟨p,rfl⟩
 | _=>exact qaa h
theorem qcs {α:Type}{l:List α}(h:nilL l=true):l=[]:=by cases l with | nil=>rfl | cons _ _=>exact qaa h
theorem on_1 {α:Type}{l:List α}{B:α->Bool}(h:on1 l B=true):∃ x,l=[x]∧B x=true:=by
 match l,h with
 | [x],h=>exact ⟨x,rfl,h⟩
theorem on_2 {α:Type}{l:List α}{B:α->α->Bool}(h:on2 l B=true):∃ x y,l=[x,y]∧B x y=true:=by
 match l,h with
 | [x,y],h=>exact ⟨x,y,rfl,h⟩
theorem qvw {α:Type}{l:List α}{B:α->α->List α->Bool}(h:onTwo l B=true):∃ x y r,l=x::y::r∧B x y r=true:=by
 match l,h with
 | x::y::r,h=>exact ⟨x,y,r,rfl,h⟩
theorem on_o {α:Type}{o:Option α}{B:α->Bool}(h:onO o B=true):∃ x,o=some x∧B x=true:=by
 cases o with
 | none=>exact qaa h
 | some x=>exact ⟨x,rfl,h⟩
theorem both {a b:Bool}(h:(a && b)=true):a=true∧b=true:=(Bool.and_eq_true _ _).mp h
noncomputable def onCallN (e:Expr)(B:Str->List Expr->Bool):Bool:=onCall e λf es kw _=>nilL kw && onName f λid=>B id es
theorem qbs {e:Expr}{B:Str->List Expr->Bool}(h:onCallN e B=true):∃ id p es q,e = .Call (.Name id p) es [] q∧B id es=true:=by
 obtain ⟨f,es,kw,q,rfl,h⟩:=qss h
 obtain ⟨h1,h2⟩:=both h
 obtain ⟨id,p,rfl,h3⟩:=qbq h2
 rw [qcs h1]
 exact ⟨id,p,es,q,rfl,h3⟩
noncomputable def onMeth (e:Expr)(B:Expr->Str->List Expr->Bool):Bool:=onCall e λf es kw pos=>nilL kw && onAttr f λo n ap=>baseOk o && ap.endLine == pos.line && B o n es
theorem qmu {e:Expr}{B:Expr->Str->List Expr->Bool}(h:onMeth e B=true):∃ o n ap es q,e = .Call (.Attribute o n ap) es [] q∧baseOk o=true∧(ap.endLine == q.line)=true∧B o n es=true:=by
 obtain ⟨f,es,kw,q,rfl,h⟩:=qss h
 obtain ⟨h1,h2⟩:=both h
 obtain ⟨o,n,ap,rfl,h3⟩:=qwt h2
 obtain ⟨h4,h5⟩:=both h3
 obtain ⟨h6,h7⟩:=both h4
 rw [qcs h1]
 exact ⟨o,n,ap,es,q,rfl,h6,h7,h5⟩
noncomputable def isNoneX:Ex->Bool
 | .cNone=>true
 | _=>false
theorem qfu {x:Ex}(h:isNoneX x=true):x = .cNone:=by cases x <;> first | rfl | exact qaa h
noncomputable def isConstN:Const->Bool
 | .none=>true
 | _=>false
noncomputable def isConstB (b:Bool):Const->Bool
 | .bool c=>b == c
 | _=>false
noncomputable def isConstI (i:Int):Const->Bool
 | .int j=>i == j
 | _=>false
noncomputable def isConstS (s:List Nat):Const->Bool
 | .str t=>t.cps.toList == s && s.length≤1000
 | _=>false
noncomputable def isAnd:BoolOp->Bool
 | .And=>true
 | _=>false
noncomputable def isNot:UnaryOp->Bool
 | .Not=>true
 | _=>false
noncomputable def isUSub:UnaryOp->Bool
 | .USub=>true
 | _=>false
noncomputable def isFn:ScopeKind->Bool
 | .function=>true
 | _=>false
theorem qr8 {k:ScopeKind}(h:isFn k=true):k = .function:=by cases k <;> first | rfl | exact qaa h
noncomputable def nameAt (l:List Str)(f:Nat)(id:Str):Bool:=onO l[f]? λy=>eqS y id
theorem qdg {l:List Str}{f:Nat}{id:Str}(h:nameAt l f id=true):l[f]? = some id:=by
 obtain ⟨y,h1,h2⟩:=on_o h
 rw [h1,qax.mp h2]
noncomputable def globOk (sc:List (Str×NameKind))(id:Str):Bool:=isGlob (lkS sc id) && okId id
noncomputable def exTest:Ex->Bool
 | .not _ | .neg _ | .and _ _ | .or _ _ | .ite _ _ _ | .cmp _ _ _ | .cmp2 _ _ _ _ _=>false
 | _=>true
noncomputable def tstOk (e:Expr)(x:Ex):Bool:=!exTest x || plainTest e
mutual
noncomputable def chkE (N:Nm):Nat->List (Str×NameKind)->List (Str×Nat)->Nat->Expr->Ex->Bool
 | 0,_,_,_,_,_=>false
 | n+1,sc,tbl,nl,e,x=>match x with
  | .frz x=>plainTest e && chkE N n sc tbl nl e x
  | .cNone=>onConst e isConstN
  | .cBool b=>onConst e (isConstB b)
  | .cInt i=>onConst e (isConstI i)
  | .cStr s=>onConst e (isConstS s)
  | .var i=>onName e λid=>lkS tbl id == some i && isVar (lkS sc id) && okId id
  | .glob g=>onName e λid=>nameAt N.gns g id && globOk sc id
  | .and a b=>onBoolOp e λo l=>isAnd o && onTwo l λv w r=>tstOk v a && (chkE N n sc tbl nl v a && chkL N n sc tbl nl true w r b)
  | .or a b=>onBoolOp e λo l=>!isAnd o && onTwo l λv w r=>tstOk v a && (chkE N n sc tbl nl v a && chkL N n sc tbl nl false w r b)
  | .not a=>onUnary e λo x=>isNot o && (tstOk x a && chkE N n sc tbl nl x a)
  | .neg a=>onUnary e λo x=>isUSub o && chkE N n sc tbl nl x a
  | .bin o a b=>onBin e λl op r=>opIs o op && (chkE N n sc tbl nl l a && chkE N n sc tbl nl r b)
  | .cmp o a b=>onCompare e λl ops rs=>on1 ops λop=>on1 rs λr=>copIs o op && (setOk r && (chkE N n sc tbl nl l a && chkE N n sc tbl nl r b))
  | .cmp2 _ _ _ _ _=>false
  | .ite c a b=>onIfExp e λt u v=>tstOk t c && (tstOk u a && (tstOk v b && (chkE N n sc tbl nl t c && (chkE N n sc tbl nl u a && chkE N n sc tbl nl v b))))
  | .tup xs=>onTuple e λes=>chkEs N n sc tbl nl es xs
  | .lst _ xs=>onList e λes=>chkEs N n sc tbl nl es xs
  | .dict _=>onDict e λb=>b
  | .comp _ elt ik a b cond=>onComp e λee gs csc=>on1 gs λg=>onName g.target λcx =>
    g.is_async == 0 && (isFn csc.kind && (scopeOk sc tbl nl csc.names cx && (chkI N n sc tbl nl g.iter ik a b &&
     (chkE N n (relab csc.names) ((cx,nl)::tbl) (nl+1) ee elt && chkIf N n (relab csc.names) ((cx,nl)::tbl) (nl+1) g.ifs cond))))
  | .compL _ _=>false
  | .call f xs=>onCallN e λid es=>nameAt N.fns f id && (globOk sc id && (!es.isEmpty && (es.length≤20 && chkEs N n sc tbl nl es xs)))
  | .bi b xs=>(match isaOf b with
   | some y=>onCallN e λid es=>on2 es λe ty=>on1 xs λx=>onName ty λty=>eqS id sInst && (eqS ty y.1 && (globOk sc id && (globOk sc ty && (notStar e && chkE N n sc tbl nl e x))))
   | none=>onO (biOf b) λy=>onCallN e λid es=>eqS id y.1 && (globOk sc id && (!es.isEmpty && (es.length≤20 && chkEs N n sc tbl nl es xs))))
  | .slice x lo hi=>onSub e λv i=>onSlice i λlo' hi' st=>st.isNone && (chkE N n sc tbl nl v x && (chkO N n sc tbl nl lo' lo && chkO N n sc tbl nl hi' hi))
  | .idx x i=>onSub e λv j=>notSlice j && (chkE N n sc tbl nl v x && chkE N n sc tbl nl j i)
  | .app ox ax=>onMeth e λo name es=>on1 es λe=>eqS name (oS "append") && (notStar e && (chkE N n sc tbl nl o ox && chkE N n sc tbl nl e ax))
  | .join ox ax=>onMeth e λo name es=>on1 es λe=>eqS name (oS "join") && (notStar e && (chkE N n sc tbl nl o ox && chkE N n sc tbl nl e ax))
  | .pop ox=>onMeth e λo name es=>nilL es && (eqS name (oS "pop") && chkE N n sc tbl nl o ox)
  | .clear _=>false
  | .rvs _=>false
termination_by structural n=>n
noncomputable def chkEs (N:Nm):Nat->List (Str×NameKind)->List (Str×Nat)->Nat->List Expr->List Ex->Bool
 | 0,_,_,_,_,_=>false
 | _+1,_,_,_,[],[]=>true
 | n+1,sc,tbl,nl,e::es,x::xs=>notStar e && (chkE N n sc tbl nl e x && chkEs N n sc tbl nl es xs)
 | _+1,_,_,_,_,_=>false
termination_by structural n=>n
noncomputable def chkL (N:Nm):Nat->List (Str×NameKind)->List (Str×Nat)->Nat->Bool->Expr->List Expr->Ex->Bool
 | 0,_,_,_,_,_,_,_=>false
 | n+1,sc,tbl,nl,o,v,r,x=>match r with
  | []=>tstOk v x && chkE N n sc tbl nl v x
  | w::r=>(match x with
   | .and a b=>o && (tstOk v a && (chkE N n sc tbl nl v a && chkL N n sc tbl nl o w r b))
   | .or a b=>!o && (tstOk v a && (chkE N n sc tbl nl v a && chkL N n sc tbl nl o w r b))
   | _=>false)
termination_by structural n=>n
noncomputable def chkIf (N:Nm):Nat->List (Str×NameKind)->List (Str×Nat)->Nat->List Expr->Option Ex->Bool
 | 0,_,_,_,_,_=>false
 | n+1,sc,tbl,nl,l,x=>match x with
  | none=>nilL l
  | some x=>on1 l λe=>tstOk e x && chkE N n sc tbl nl e x
termination_by structural n=>n
noncomputable def chkO (N:Nm):Nat->List (Str×NameKind)->List (Str×Nat)->Nat->Option Expr->Option Ex->Bool
 | 0,_,_,_,_,_=>false
 | n+1,sc,tbl,nl,o,x=>match x with
  | none=>o.isNone
  | some x=>onO o λe=>chkE N n sc tbl nl e x
termination_by structural n=>n
noncomputable def chkI (N:Nm):Nat->List (Str×NameKind)->List (Str×Nat)->Nat->Expr->IK->Ex->Ex->Bool
 | 0,_,_,_,_,_,_,_=>false
 | n+1,sc,tbl,nl,e,ik,a,b=>setOk e && (match ik with
  | .val=>isNoneX b && chkE N n sc tbl nl e a
  | .rng1=>onCallN e λid es=>on1 es λe=>isNoneX b && (eqS id sRange && (globOk sc id && (notStar e && chkE N n sc tbl nl e a)))
  | .rng2=>onCallN e λid es=>on2 es λe f=>eqS id sRange && (globOk sc id && (notStar e && (notStar f && (chkE N n sc tbl nl e a && chkE N n sc tbl nl f b))))
  | .rev=>onCallN e λid es=>on1 es λe=>isNoneX b && (eqS id sRev && (globOk sc id && (notStar e && chkE N n sc tbl nl e a))))
termination_by structural n=>n
end
noncomputable def stoOk (sc:List (Str×NameKind))(tbl:List (Str×Nat))(id:Str)(i:Nat):Bool:=lkS tbl id == some i && (isLoc (lkS sc id) || isCel (lkS sc id)) && okId id
noncomputable def isComp:Ex->Bool
 | .comp ..=>true
 | _=>false
noncomputable def compOf:Expr->Bool
 | .ListComp ..=>true
 | .SetComp ..=>true
 | .DictComp ..=>true
 | _=>false
structure Hs where
 exprS:Expr->Bool
 ret:Option Expr->Bool
 asg:List Expr->Expr->Bool
 ifs:Expr->List Stmt->List Stmt->Bool
 whl:Expr->List Stmt->List Stmt->Bool
 fr:Expr->Expr->List Stmt->List Stmt->Bool
noncomputable def hs0:Hs:=⟨λ_=>false,λ_=>false,λ_ _=>false,λ_ _ _=>false,λ_ _ _=>false,λ_ _ _ _=>false⟩
noncomputable def runS (h:Hs)(s:Stmt):Bool:=match s with
 | .Expr e _=>h.exprS e
 | .Return e _=>h.ret e
 | .Assign t e _=>h.asg t e
 | .If t a b _=>h.ifs t a b
 | .While t a b _=>h.whl t a b
 | .For t e a b _=>h.fr t e a b
 | _=>false
noncomputable def onExprS (s:Stmt)(B:Expr->Bool):Bool:=runS ⟨B,hs0.ret,hs0.asg,hs0.ifs,hs0.whl,hs0.fr⟩ s
noncomputable def onReturn (s:Stmt)(B:Option Expr->Bool):Bool:=runS ⟨hs0.exprS,B,hs0.asg,hs0.ifs,hs0.whl,hs0.fr⟩ s
noncomputable def onAssign (s:Stmt)(B:List Expr->Expr->Bool):Bool:=runS ⟨hs0.exprS,hs0.ret,B,hs0.ifs,hs0.whl,hs0.fr⟩ s
noncomputable def onIf (s:Stmt)(B:Expr->List Stmt->List Stmt->Bool):Bool:=runS ⟨hs0.exprS,hs0.ret,hs0.asg,B,hs0.whl,hs0.fr⟩ s
noncomputable def onWhile (s:Stmt)(B:Expr->List Stmt->List Stmt->Bool):Bool:=runS ⟨hs0.exprS,hs0.ret,hs0.asg,hs0.ifs,B,hs0.fr⟩ s
noncomputable def onFor (s:Stmt)(B:Expr->Expr->List Stmt->List Stmt->Bool):Bool:=runS ⟨hs0.exprS,hs0.ret,hs0.asg,hs0.ifs,hs0.whl,B⟩ s
noncomputable def noneO' {α:Type}:Option α->Bool
 | none=>true
 | some _=>false
noncomputable def isConstT:Const->Bool
 | .str _=>true
 | _=>false
noncomputable def onRaise (s:Stmt)(B:Expr->Bool):Bool:=match s with
 | .Raise e c _=>noneO' c && onO e B
 | _=>false
noncomputable def onTry (s:Stmt)(B:List Stmt->List ExceptHandler->Bool):Bool:=match s with
 | .Try b h o f _=>nilL o && (nilL f && B b h)
 | _=>false
noncomputable def onHnd (h:ExceptHandler)(B:Expr->List Stmt->Bool):Bool:=match h with
 | .ExceptHandler t m b _=>noneO' m && onO t λt=>B t b
noncomputable def hndOk (N:Nm)(sc:List (Str×NameKind)):List ExceptHandler->List (Nat×List Nat)->Bool
 | [],[]=>true
 | h::r,c::q=>onHnd h (λt b=>onName t λid=>nameAt N.xns c.1 id && ((c.1 != 0 && globOk sc id) && on1 b λst=>onReturn st λo=>onO o λe=>onConst e λk=>isConstS c.2 k)) && hndOk N sc r q
 | _,_=>false
noncomputable def on3 {α:Type}(l:List α)(B:α->α->α->Bool):Bool:=match l with | [x,y,z]=>B x y z | _=>false
theorem on_3 {α:Type}{l:List α}{B:α->α->α->Bool}(h:on3 l B=true):∃ x y z,l=[x,y,z]∧B x y z=true:=by
 match l,h with
 | [x,y,z],h=>exact ⟨x,y,z,rfl,h⟩
noncomputable def onHndA (h:ExceptHandler)(B:Expr->Str->List Stmt->Bool):Bool:=match h with
 | .ExceptHandler t m b _=>onO m λm=>onO t λt=>B t m b
noncomputable def isiP (N:Nm)(sc:List (Str×NameKind))(en:Str)(c:Nat)(e:Expr):Bool:=onCallN e λid es=>on2 es λa b=>onName a λa=>onName b λb=>eqS id sInst && (globOk sc id && (eqS a en && (nameAt N.xns c b && globOk sc b)))
noncomputable def isiV (sc:List (Str×NameKind))(en:Str)(e:Expr):Bool:=onCallN e λid es=>on2 es λa b=>onName a λa=>onName b λb=>eqS id sInst && (globOk sc id && (eqS a en && (eqS b (oS "ValueError") && globOk sc b)))
noncomputable def oneX:Ex:=.cmp .eq (.bi .len [.comp false (.var 1) .val (.var 0) .cNone (some (.var 1))]) (.cInt 1)
noncomputable def hndP (N:Nm)(sc:List (Str×NameKind))(h:List ExceptHandler):Bool:=on1 h λh=>onHndA h λt en b=>onName t λt=>(nameAt N.xns 0 t && globOk sc t) && ((isLoc (lkS sc en) && okId en) && on3 b λs1 s2 s3 =>
 onAssign s1 λt1 e1=>on1 t1 λt1=>onName t1 λtold=>(isLoc (lkS sc told) && okId told) && (!eqS told en && ((onList e1 λes=>on3 es λa b c=>isiP N sc en 1 a && (isiP N sc en 2 b && isiP N sc en 3 c)) &&
 ((onAssign s2 λt2 e2=>on1 t2 λt2=>onName t2 λtd=>eqS td told && onBin e2 λl op r=>onName l λl=>eqS l told && (opIs .add op && onList r λes=>on2 es λa b=>isiP N sc en 4 a && isiP N sc en 5 b)) &&
 (onReturn s3 λo=>onO o λe=>onBoolOp e λo l=>isAnd o && on2 l λv w=>isiV sc en v && chkE N 9 sc [(told,0)] 1 w oneX)))))
mutual
noncomputable def chkS (N:Nm):Nat->List (Str×NameKind)->List (Str×Nat)->Nat->Stmt->St->Bool
 | 0,_,_,_,_,_=>false
 | n+1,sc,tbl,nl,s,x=>match x with
  | .expr x=>onExprS s λe=>!compOf e && chkE N n sc tbl nl e x
  | .ret x=>onReturn s λo=>onO o λe=>chkE N n sc tbl nl e x
  | .asg i x=>onAssign s λt e=>on1 t λt=>onName t λid=>stoOk sc tbl id i && ((!compOf e || isComp x) && chkE N n sc tbl nl e x)
  | .sto xo xi xe=>onAssign s λt e=>on1 t λt=>onSub t λo i=>!compOf e && (chkE N n sc tbl nl e xe && (chkE N n sc tbl nl o xo && chkE N n sc tbl nl i xi))
  | .ite c x y=>onIf s λt a b=>tstOk t c && (chkE N n sc tbl nl t c && (chkB N n sc tbl nl a x && chkB N n sc tbl nl b y))
  | .while c x=>onWhile s λt a b=>nilL b && (tstOk t c && (chkE N n sc tbl nl t c && chkB N n sc tbl nl a x))
  | .for i ik x y bd=>onFor s λt e a b=>nilL b && onName t λid=>stoOk sc tbl id i && (chkI N n sc tbl nl e ik x y && chkB N n sc tbl nl a bd)
  | .raise c=>onRaise s λe=>onCallN e λid es=>nameAt N.xns c id && (globOk sc id && on1 es λa=>onConst a isConstT)
  | .tryC x hs=>onTry s λb h=>on1 b λst=>onReturn st λo=>onO o λe=>!hs.isEmpty && (chkE N n sc tbl nl e x && hndOk N sc h hs)
  | .tryP x=>onTry s λb h=>on1 b λst=>onExprS st λe=>!compOf e && (chkE N n sc tbl nl e x && hndP N sc h)
termination_by structural n=>n
noncomputable def chkB (N:Nm):Nat->List (Str×NameKind)->List (Str×Nat)->Nat->List Stmt->List St->Bool
 | 0,_,_,_,_,_=>false
 | _+1,_,_,_,[],[]=>true
 | n+1,sc,tbl,nl,s::r,x::y=>chkS N n sc tbl nl s x && chkB N n sc tbl nl r y
 | _+1,_,_,_,_,_=>false
termination_by structural n=>n
end
theorem qdr {h:Hs}{s:Stmt}{P:Stmt->Prop}(r:runS h s=true)(k0:∀ e p,h.exprS e=true->P (.Expr e p))(k1:∀ e p,h.ret e=true->P (.Return e p))(k2:∀ t e p,h.asg t e=true->P (.Assign t e p))(k3:∀ t a b p,h.ifs t a b=true->P (.If t a b p))(k4:∀ t a b p,h.whl t a b=true->P (.While t a b p))(k5:∀ t e a b p,h.fr t e a b=true->P (.For t e a b p)):P s:=by
 cases s with
 | Expr e p=>exact k0 _ _ r
 | Return e p=>exact k1 _ _ r
 | Assign t e p=>exact k2 _ _ _ r
 | If t a b p=>exact k3 _ _ _ _ r
 | While t a b p=>exact k4 _ _ _ _ r
 | For t e a b p=>exact k5 _ _ _ _ _ r
 | _=>exact qaa r
theorem qjx {s:Stmt}{B:Expr->Bool}(h:onExprS s B=true):∃ e p,s = .Expr e p∧B e=true:=qdr (h:=⟨B,hs0.ret,hs0.asg,hs0.ifs,hs0.whl,hs0.fr⟩) (P:=λs=>∃ e p,s = .Expr e p∧B e=true) h (λe p hb0=>⟨e,p,rfl,hb0⟩) (λ_ _ f=>qaa f) (λ_ _ _ f=>qaa f) (λ_ _ _ _ f=>qaa f) (λ_ _ _ _ f=>qaa f) (λ_ _ _ _ _ f=>qaa f)
theorem qeb {s:Stmt}{B:Option Expr->Bool}(h:onReturn s B=true):∃ e p,s = .Return e p∧B e=true:=qdr (h:=⟨hs0.exprS,B,hs0.asg,hs0.ifs,hs0.whl,hs0.fr⟩) (P:=λs=>∃ e p,s = .Return e p∧B e=true) h (λ_ _ f=>qaa f) (λe p hb0=>⟨e,p,rfl,hb0⟩) (λ_ _ _ f=>qaa f) (λ_ _ _ _ f=>qaa f) (λ_ _ _ _ f=>qaa f) (λ_ _ _ _ _ f=>qaa f)
theorem qea {s:Stmt}{B:List Expr->Expr->Bool}(h:onAssign s B=true):∃ t e p,s = .Assign t e p∧B t e=true:=qdr (h:=⟨hs0.exprS,hs0.ret,B,hs0.ifs,hs0.whl,hs0.fr⟩) (P:=λs=>∃ t e p,s = .Assign t e p∧B t e=true) h (λ_ _ f=>qaa f) (λ_ _ f=>qaa f) (λt e p hb0=>⟨t,e,p,rfl,hb0⟩) (λ_ _ _ _ f=>qaa f) (λ_ _ _ _ f=>qaa f) (λ_ _ _ _ _ f=>qaa f)
theorem on_if {s:Stmt}{B:Expr->List Stmt->List Stmt->Bool}(h:onIf s B=true):∃ t a b p,s = .If t a b p∧B t a b=true:=qdr (h:=⟨hs0.exprS,hs0.ret,hs0.asg,B,hs0.whl,hs0.fr⟩) (P:=λs=>∃ t a b p,s = .If t a b p∧B t a b=true) h (λ_ _ f=>qaa f) (λ_ _ f=>qaa f) (λ_ _ _ f=>qaa f) (λt a b p hb0=>⟨t,a,b,p,rfl,hb0⟩) (λ_ _ _ _ f=>qaa f) (λ_ _ _ _ _ f=>qaa f)
theorem qpc {s:Stmt}{B:Expr->List Stmt->List Stmt->Bool}(h:onWhile s B=true):∃ t a b p,s = .While t a b p∧B t a b=true:=qdr (h:=⟨hs0.exprS,hs0.ret,hs0.asg,hs0.ifs,B,hs0.fr⟩) (P:=λs=>∃ t a b p,s = .While t a b p∧B t a b=true) h (λ_ _ f=>qaa f) (λ_ _ f=>qaa f) (λ_ _ _ f=>qaa f) (λ_ _ _ _ f=>qaa f) (λt a b p hb0=>⟨t,a,b,p,rfl,hb0⟩) (λ_ _ _ _ _ f=>qaa f)
theorem on_for {s:Stmt}{B:Expr->Expr->List Stmt->List Stmt->Bool}(h:onFor s B=true):∃ t e a b p,s = .For t e a b p∧B t e a b=true:=qdr (h:=⟨hs0.exprS,hs0.ret,hs0.asg,hs0.ifs,hs0.whl,B⟩) (P:=λs=>∃ t e a b p,s = .For t e a b p∧B t e a b=true) h (λ_ _ f=>qaa f) (λ_ _ f=>qaa f) (λ_ _ _ f=>qaa f) (λ_ _ _ _ f=>qaa f) (λ_ _ _ _ f=>qaa f) (λt e a b p hb0=>⟨t,e,a,b,p,rfl,hb0⟩)
end Mine.Internal
namespace Mine.Internal
open PySem PyProof.Rows PySem.Calls
structure Cx where
 B:Bs
 mg:Str->Option Value
 mb:Str->Option Value
 N:Nm
 P:List Def
 gl:List V
abbrev Cx.M (C:Cx):Model:=model C.B.prog C.B.w
theorem hide3 {α β γ:Type}{G:α->β->γ->Prop}{a:α}{b:β}{c:γ}(h:∀ P:α->β->γ->Prop,(∀ a b c,G a b c->P a b c)->P a b c):G a b c:=h G λ_ _ _ x=>x
structure Room (fl:List Env) (d:Nat) (A:Around):Prop where
 hh:A.handled=none
 dep:A.depth+d≤recursionLimit
 un:A.units+3 * d+100≤cLine
 fr:A.frames=some fl
 fk:∀ env∈fl,env.scope.kind≠.module∧∃ L,env.frame=some L
theorem Room.u64 {fl:List Env}{d:Nat}{A:Around}(R:Room fl d A):A.units+64<cLine:=by have:=R.un;lia
noncomputable def bnames:List (Str×Value):=[
 (oS "len",.builtin "len"),(oS "sum",.builtin "sum"),(oS "all",.builtin "all"),(oS "any",.builtin "any"),
 (oS "max",.builtin "max"),(oS "min",.builtin "min"),(oS "tuple",.type "tuple"),(oS "list",.type "list"),
 (oS "int",.type "int"),(oS "isinstance",.builtin "isinstance"),(oS "range",.type "range"),(oS "reversed",.type "reversed"),
 (oS "bool",.type "bool"),(oS "str",.type "str"),(oS "ValueError",.type "ValueError")]
structure Cx.Ok (C:Cx):Prop where
 g:C.B.hb.Ns mainGlobals C.mg
 b:C.B.hb.Ns builtinsNs C.mb
 nolimit:C.B.hb.NoLimit
 bins:∀ p∈bnames,C.mg p.1=none∧C.mb p.1=some p.2
 glob:∀ (g:Nat) (v:V),C.gl[g]? = some v->∃ y cv,C.N.gns[g]? = some y∧C.mg y=some cv∧∀ B σ φ h,VR B σ φ h v cv
 fn:∀ (f:Nat) (y:Str),C.N.fns[f]? = some y->∃ a o fd,C.mg y=some (.ref a)∧C.B.hb.get? a=some o∧o.data = .func fd
noncomputable def CallSim (C:Cx)(d:Nat):Prop:=∀ (f:Nat) (y:Str) (a:Addr) (vs:List V) (σ:Sg) (v:V) (σ':Sg),callF C.gl C.P d f vs σ = .ok v σ'->C.N.fns[f]? = some y->C.mg y=some (.ref a) ->
 ∀ (A:Around) (s:Shared) (φ:List Addr) (cvs:List Value) (E:Value->Shared->Prop),Room C.B.fl d A->SR C.B σ φ s.heap->VRs C.B σ φ s.heap vs cvs->wpAny C.M A (call (.ref a) cvs) (Post C.B s σ φ σ' v) E s
noncomputable def PostU (B:Bs)(s:Shared)(σ:Sg)(φ:List Addr)(σ':Sg)(s':Shared):Prop :=
 ∃ φ' h' tk,s' = { s with heap:=h',toks:=tk }∧SR B σ' φ' h'∧Stp W0 σ φ s.heap σ' φ' h'
noncomputable def PostL (B:Bs)(s:Shared)(σ:Sg)(φ:List Addr)(σ':Sg)(vs:List V)(cvs:List Value)(s':Shared):Prop :=
 ∃ φ' h' tk,s' = { s with heap:=h',toks:=tk }∧SR B σ' φ' h'∧Stp W0 σ φ s.heap σ' φ' h'∧VRs B σ' φ' h' vs cvs
noncomputable def PostI (B:Bs)(s:Shared)(σ:Sg)(φ:List Addr)(σ':Sg)(items:List V)(cv:Value)(s':Shared):Prop :=
 ∃ φ' h' tk,s' = { s with heap:=h',toks:=tk }∧SR B σ' φ' h'∧Stp W0 σ φ s.heap σ' φ' h'∧ItV B s.heap σ' φ' h' items cv
noncomputable def PostO (B:Bs)(s:Shared)(σ:Sg)(φ:List Addr)(σ':Sg)(i:Option Int)(cv:Value)(s':Shared):Prop :=
 ∃ φ' h' tk,s' = { s with heap:=h',toks:=tk }∧SR B σ' φ' h'∧Stp W0 σ φ s.heap σ' φ' h'∧IsPart cv i
section
variable {M:Model} {B:Bs} {A:Around} {E:Value->Shared->Prop} {s:Shared} {σ σ₁ σ₂:Sg} {φ φ₁:List Addr} {h₁:Heap} {tk:Nat}
theorem qag {t:Sem Value}{v:V}{Q:Value->Shared->Prop}(h:wpAny M A t (Post B s σ φ σ₁ v) E s)
  (k:∀ cv φ₁ h₁ tk,SR B σ₁ φ₁ h₁->Stp W0 σ φ s.heap σ₁ φ₁ h₁->VR B σ₁ φ₁ h₁ v cv->Q cv { s with heap:=h₁,toks:=tk }):wpAny M A t Q E s :=
 wpAny_mono h (λcv s' ⟨φ',h',tk,e,R,S,r⟩=>by subst e;exact k cv φ' h' tk R S r) λ_ _ e=>e
theorem Post.trans {v:V}{cv:Value}{s':Shared}(hl:φ.length=σ.length)(S:Stp W0 σ φ s.heap σ₁ φ₁ h₁)(P:Post B { s with heap:=h₁,toks:=tk } σ₁ φ₁ σ₂ v cv s'):Post B s σ φ σ₂ v cv s':=by
 refine x3_4 (P) λφ' h' tk' e R S' r=>?_
 exact ⟨φ',h',tk',e,R,S.trans S' hl,r⟩
theorem PostU.trans {s':Shared}(hl:φ.length=σ.length)(S:Stp W0 σ φ s.heap σ₁ φ₁ h₁)(P:PostU B { s with heap:=h₁,toks:=tk } σ₁ φ₁ σ₂ s'):PostU B s σ φ σ₂ s':=by
 refine x3_3 (P) λφ' h' tk' e R S'=>?_
 exact ⟨φ',h',tk',e,R,S.trans S' hl⟩
theorem qde {v:V}{Q:Value->Shared->Prop}(R:SR B σ φ s.heap)(k:∀ cv s',Post B s σ φ σ v cv s'->Q cv s'):Grow B σ φ s v Q :=
 λcv h' tk hk r=>k cv _ ⟨φ,h',tk,rfl,R.grow hk,Stp.grow hk,r⟩
theorem qft {v:V}(R:SR B σ φ s.heap):Grow B σ φ s v (Post B s σ φ σ v):=qde R λ_ _ p=>p
noncomputable def FzV (B:Bs)(φ:List Addr)(h:Heap)(σ:Sg)(cv:Value)(p:V×Sg):Prop:=SR B p.2 φ h∧Stp W0 σ φ h p.2 φ h∧VR B p.2 φ h p.1 cv
noncomputable def FzVs (B:Bs)(φ:List Addr)(h:Heap)(σ:Sg)(n:Nat)(vs:List Value)(p:List V×Sg):Prop:=SR B p.2 φ h∧Stp W0 σ φ h p.2 φ h∧VRs B p.2 φ h p.1 vs∧p.1.length=n
mutual
theorem qk5 {h:Heap}:∀ (v:V) {σ:Sg} {p:V×Sg} {cv:Value},freeze σ v=some p->SR B σ φ h->VR B σ φ h v cv->FzV B φ h σ cv p
 | .ref i,σ,_,cv,e,R,r=>qej e λxs hx e=>qal (P:=FzV B φ h σ cv) e (inRef (z:=λcv=>FzV B φ h σ cv (.lst xs,σ.set i .dead)) r λa ha=>let ⟨h1,h2,_,h3,h4⟩:=R.freeze (W:=W0) hx;⟨h1,h2,Option.some.inj (ha.symm.trans h3) ▸ h4⟩)
 | .tup xs,σ,_,cv,e,R,r=>qcz (P:=FzV B φ h σ cv) e λp e=>inTup (z:=λcv=>FzV B φ h σ cv (.tup p.1,p.2)) r λa vs ht rs hn=>let ⟨h1,h2,h3,h4⟩:=qhr xs e R rs;⟨h1,h2,.tup ht h3 (h4 ▸ hn)⟩
 | .undef,_,_,_,_,_,r=>r.elim
 | .none,_,_,_,e,R,r=>qal e ⟨R,.refl,r⟩
 | .bool _,_,_,_,e,R,r=>qal e ⟨R,.refl,r⟩
 | .int _,_,_,_,e,R,r=>qal e ⟨R,.refl,r⟩
 | .str _,_,_,_,e,R,r=>qal e ⟨R,.refl,r⟩
 | .lst _,_,_,_,e,R,r=>qal e ⟨R,.refl,r⟩
 | .exc _,_,_,_,e,R,r=>qal e ⟨R,.refl,r⟩
theorem qhr {h:Heap}:∀ (xs:List V) {σ:Sg} {p:List V×Sg} {vs:List Value},freezes σ xs=some p->SR B σ φ h->VRs B σ φ h xs vs->FzVs B φ h σ xs.length vs p
 | [],_,_,_,e,R,r=>qal e ⟨R,.refl,r,rfl⟩
 | x::xs,σ,_,vs,e,R,r=>qdm e λq e1 e2=>qcz (P:=FzVs B φ h σ (xs.length+1) vs) e2 λq' e3=>inCons (z:=λvs=>FzVs B φ h σ (xs.length+1) vs (q.1::q'.1,q'.2)) r λv ws a rs =>
   let ⟨h1,h2,h3⟩:=qk5 x e1 R a;let ⟨k1,k2,k3,k4⟩:=qhr xs e3 h1 (rs.mono R h2 Apart.none);⟨k1,h2.trans k2 R.len,.cons (h3.mono h1 k2 Apart.none) k3,congrArg (· + 1) k4⟩
end
theorem qrv {h:Heap}(v:V){σ σ₁:Sg}{v':V}{cv:Value}(e:freeze σ v=some (v',σ₁))(R:SR B σ φ h)(r:VR B σ φ h v cv):SR B σ₁ φ h∧Stp W0 σ φ h σ₁ φ h∧VR B σ₁ φ h v' cv:=qk5 v e R r
end
section
variable {C:Cx} {A:Around} {E:Value->Shared->Prop} {s:Shared} {tbl:List (Str×Nat)} {env:Env} {Γ:Fm} {σ:Sg} {φ:List Addr}
theorem SR.ns {B:Bs}{h:Heap}{a:Addr}{m:Str->Option Value}(R:SR B σ φ h)(hn:B.hb.Ns a m):h.Ns a m:=hn.keeps R.based
theorem qk8 {k:Option NameKind}(h:isGlob k=true):k=some .globalImplicit:=by
 cases k with
 | none=>cases h
 | some k=>cases k <;> first | rfl | cases h
theorem qub {k:Option NameKind}(h:isVar k=true):k=some .local∨k=some .cell∨k=some .free:=by
 cases k with
 | none=>cases h
 | some k=>cases k <;> first | exact .inl rfl | exact .inr (.inl rfl) | exact .inr (.inr rfl) | cases h
theorem qep {k:Option NameKind}(h:isLoc k=true):k=some .local:=by
 cases k with
 | none=>cases h
 | some k=>cases k <;> first | rfl | cases h
theorem qjq {k:Option NameKind}(h:isCel k=true):k=some .cell:=by
 cases k with
 | none=>cases h
 | some k=>cases k <;> first | rfl | cases h
theorem qg2 {id:Str}(h:okId id=true):(id == ("__debug__":Str))=false∧id≠("__classdict__":Str):=by
 unfold okId at h
 rw [Bool.and_eq_true,Bool.not_eq_true',Bool.not_eq_true'] at h
 refine ⟨?_,λe=>?_⟩
 ·cases hb:id == ("__debug__":Str) with
  | false=>rfl
  | true=>rw [beq_iff_eq.mp hb,qax.mpr rfl] at h;cases h.1
 ·rw [e,qax.mpr rfl] at h;cases h.2
theorem qdc {id:Str}{p:Pos}{cv:Value}{Q:Value->Shared->Prop}(R:SR C.B σ φ s.heap)(F:FR C.B tbl env Γ σ φ s.heap)(ok:C.Ok)(hk:isGlob (lkS env.scope.names id)=true)(hid:okId id=true)
  (hv:C.mg id=some cv) (hq:Q cv s):wpAny C.M A (eval (.Name id p) env) Q E s:=by
 rw [qdl] at hk
 exact Name_function_global F.kind (qk8 hk) (loadGlobal_global (mg:=C.mg) (by rw [F.gl];exact R.ns ok.g) hv hq) (qg2 hid).1
theorem qb5 {id:Str}{p:Pos}{cv:Value}{Q:Value->Shared->Prop}(R:SR C.B σ φ s.heap)(F:FR C.B tbl env Γ σ φ s.heap)(ok:C.Ok)(hk:isGlob (lkS env.scope.names id)=true)(hid:okId id=true)
  (hm:(id,cv)∈bnames) (hq:Q cv s):wpAny C.M A (eval (.Name id p) env) Q E s:=by
 rw [qdl] at hk
 obtain ⟨h1,h2⟩:=ok.bins _ hm
 exact Name_function_global F.kind (qk8 hk) (loadGlobal_builtin (mg:=C.mg) (mb:=C.mb) (by rw [F.gl];exact R.ns ok.g) h1 (by rw [F.bi];exact R.ns ok.b) h2 hq) (qg2 hid).1
end
end Mine.Internal
namespace Mine.Internal
open PySem PyProof.Rows PySem.Calls
section
variable {env:Env}
theorem qar {e:Expr}(h:notStar e=true)(rest:List Expr):starEach (e::rest) env=(false,eval e env)::starEach rest env:=by
 cases e with
 | Starred v p=>exact qaa h
 | _=>rfl
theorem sub_of {e:Expr}(h:notSlice e=true)(o i:Value):subscripted e false o i=operate [o,i] (getItem o i):=by
 cases e with
 | Slice a b c p=>exact qaa h
 | _=>rfl
theorem qk3 {e:Expr}(h:setOk e=true)(x:Value):foldedSetIterable e env x=pure x:=by
 cases e with
 | Set a b c=>exact qaa h
 | _=>rfl
theorem qjv {e:Expr}(h:setOk e=true)(op:CmpOp):behindInMarks op e=false:=by
 cases e with
 | Set a b c=>exact qaa h
 | _=>rfl
theorem ql3 {o:Expr}(h:baseOk o=true)(name:Str)(t:Sem Value):attributeBase o name env t=t:=by
 cases o with
 | Name a b=>rfl
 | Subscript a b c=>rfl
 | Constant a b c=>rfl
 | _=>exact qaa h
theorem qm6 {e:Expr}(h:plainTest e=true)(t:Sem Value):isTrue e env t=(do let v ← t;standAt e.pos;holding [v] (truthy v)):=by
 cases e with
 | UnaryOp a b c=>exact qaa h
 | BoolOp a b c=>exact qaa h
 | IfExp a b c d=>exact qaa h
 | Compare a b c d=>exact qaa h
 | _=>rfl
end
end Mine.Internal
namespace Mine.Internal
open PySem PyProof.Rows PySem.Calls
section
variable {M:Model} {A:Around} {E:Value->Shared->Prop} {s:Shared}
theorem qas {pos:Pos}{f:Value}{first:List Value}{args:List (Bool×Sem Value)}{Q:Value->Shared->Prop}(hf:(∃ id,f = .builtin id)∨∃ T,f = .type T)(hs:args.any (·.1)=false)
  (h:wpAny M A (evalArgs f true args []) (λx s₁=>wpAny M A (call f (first++x.pos) x.kw) Q E s₁) E s):wpAny M A (callWith pos f first args []) Q E s:=by
 have tail:∀ {t:Sem Value} {s₁:Shared},wpAny M A t Q E s₁->wpAny M A (t >>= λr=>holding [r] point >>= λ_=>pure r) Q E s₁ :=
  λht=>wpAny_bind (wpAny_mono ht (λr s₂ hr=>wpAny_bind (wpAny_holding (wpAny_point (wpAny_pure hr)))) λ_ _ x=>x)
 unfold callWith
 refine wpAny_bind (wpAny_holding (wpAny_mono h (λx s₁ h₁=>wpAny_bind (wpAny_standAt ?_)) λ_ _ x=>x))
 rw [hs]
 rcases hf with ⟨id,rfl⟩ | ⟨T,rfl⟩
 ·exact wpAny_bind (m:=keeperOf (.builtin id)) (wpAny_pure (tail h₁))
 ·exact wpAny_bind (m:=keeperOf (.type T)) (wpAny_pure (tail h₁))
theorem qaw {f:Value}{e:Expr}{rest:List Expr}{env:Env}{pos:Pos}{Q:Args->Shared->Prop}(he:starEach (e::rest) env=(false,eval e env)::starEach rest env)
  (h:wpAny M A (spliced (backTo pos (starEach (e::rest) env))) (λvs s'=>Q ⟨vs,[]⟩ s') E s):wpAny M A (evalArgs f true (backTo pos (starEach (e::rest) env)) []) Q E s:=by
 rw [he] at h ⊢
 exact evalArgs_plain h
end
theorem qgb {env:Env}{pos:Pos}{N:Nm}{sc:List (Str×NameKind)}{tbl:List (Str×Nat)}{nl:Nat}:∀ {n:Nat} {es:List Expr} {xs:List Ex},chkEs N n sc tbl nl es xs=true->(backTo pos (starEach es env)).any (·.1)=false
 | 0,_,_,h=>qaa h
 | n+1,[],_,_=>rfl
 | n+1,e::es,[],h=>qaa h
 | n+1,e::es,x::xs,h=>by
  have h:(notStar e && (chkE N n sc tbl nl e x && chkEs N n sc tbl nl es xs))=true:=h
  rw [qar (both h).1]
  have:=qgb (env:=env) (pos:=pos) (both (both h).2).2
  simp only [backTo,List.map_cons,List.any_cons,Bool.false_or] at this ⊢
  exact this
theorem qe5 {N:Nm}{sc:List (Str×NameKind)}{tbl:List (Str×Nat)}{nl:Nat}{n:Nat}{e:Expr}{es:List Expr}{xs:List Ex}(h:chkEs N n sc tbl nl (e::es) xs=true):notStar e=true:=by
 cases n with
 | zero=>exact qaa h
 | succ n=>cases xs with
  | nil=>exact qaa h
  | cons x xs=>exact (both (show (notStar e && (chkE N n sc tbl nl e x && chkEs N n sc tbl nl es xs))=true from h)).1
end Mine.Internal
namespace Mine.Internal
open PySem PyProof.Rows PySem.Calls
noncomputable def SE (C:Cx)(d n:Nat):Prop:=∀ (e:Expr) (x:Ex) (env:Env) (tbl:List (Str×Nat)) (Γ:Fm) (σ:Sg) (v:V) (σ':Sg) (A:Around) (s:Shared) (φ:List Addr) (E:Value->Shared->Prop),
 chkE C.N n env.scope.names tbl Γ.length e x=true->evE C.gl (callF C.gl C.P d) x Γ σ = .ok v σ'->Room C.B.fl d A->SR C.B σ φ s.heap->FR C.B tbl env Γ σ φ s.heap ->
 wpAny C.M A (eval e env) (Post C.B s σ φ σ' v) E s
noncomputable def ST (C:Cx)(d n:Nat):Prop:=∀ (e:Expr) (x:Ex) (env:Env) (tbl:List (Str×Nat)) (Γ:Fm) (σ:Sg) (v:V) (t:Bool) (σ':Sg) (A:Around) (s:Shared) (φ:List Addr) (E:Value->Shared->Prop),
 tstOk e x=true->chkE C.N n env.scope.names tbl Γ.length e x=true->evE C.gl (callF C.gl C.P d) x Γ σ = .ok v σ'->vTrue σ' v=some t->Room C.B.fl d A->SR C.B σ φ s.heap->FR C.B tbl env Γ σ φ s.heap ->
 wpAny C.M A (isTrue e env (eval e env)) (λb s'=>b=t∧PostU C.B s σ φ σ' s') E s
noncomputable def SEs (C:Cx)(d n:Nat):Prop:=∀ (es:List Expr) (xs:List Ex) (env:Env) (tbl:List (Str×Nat)) (Γ:Fm) (σ:Sg) (vs:List V) (σ':Sg) (A:Around) (s:Shared) (φ:List Addr) (E:Value->Shared->Prop) (pos:Pos),
 chkEs C.N n env.scope.names tbl Γ.length es xs=true->evEs C.gl (callF C.gl C.P d) xs Γ σ = .ok vs σ'->Room C.B.fl d A->SR C.B σ φ s.heap->FR C.B tbl env Γ σ φ s.heap ->
 wpAny C.M A (spliced (backTo pos (starEach es env))) (PostL C.B s σ φ σ' vs) E s
noncomputable def SL (C:Cx)(d n:Nat):Prop:=∀ (op:BoolOp) (w:Expr) (r:List Expr) (x:Ex) (env:Env) (tbl:List (Str×Nat)) (Γ:Fm) (σ:Sg) (v:V) (σ':Sg) (A:Around) (s:Shared) (φ:List Addr) (E:Value->Shared->Prop) (pos:Pos),
 chkL C.N n env.scope.names tbl Γ.length (isAnd op) w r x=true->evE C.gl (callF C.gl C.P d) x Γ σ = .ok v σ'->Room C.B.fl d A->SR C.B σ φ s.heap->FR C.B tbl env Γ σ φ s.heap ->
 wpAny C.M A (boolOp pos op (evalEach (w::r) env)) (Post C.B s σ φ σ' v) E s ∧
 ∀ t,vTrue σ' v=some t->wpAny C.M A (allTrue op (w::r) env) (λb s'=>b=t∧PostU C.B s σ φ σ' s') E s
noncomputable def SO (C:Cx)(d n:Nat):Prop:=∀ (e:Option Expr) (x:Option Ex) (env:Env) (tbl:List (Str×Nat)) (Γ:Fm) (σ:Sg) (i:Option Int) (σ':Sg) (A:Around) (s:Shared) (φ:List Addr) (E:Value->Shared->Prop),
 chkO C.N n env.scope.names tbl Γ.length e x=true->evO C.gl (callF C.gl C.P d) x Γ σ = .ok i σ'->Room C.B.fl d A->SR C.B σ φ s.heap->FR C.B tbl env Γ σ φ s.heap ->
 wpAny C.M A (evalPart e env) (PostO C.B s σ φ σ' i) E s
noncomputable def SI (C:Cx)(d n:Nat):Prop:=∀ (e:Expr) (ik:IK) (x y:Ex) (env:Env) (tbl:List (Str×Nat)) (Γ:Fm) (σ:Sg) (a:V) (σ₁:Sg) (b:V) (σ₂:Sg) (items:List V) (A:Around) (s:Shared) (φ:List Addr) (E:Value->Shared->Prop),
 chkI C.N n env.scope.names tbl Γ.length e ik x y=true->evE C.gl (callF C.gl C.P d) x Γ σ = .ok a σ₁->evE C.gl (callF C.gl C.P d) y Γ σ₁ = .ok b σ₂->vItems ik a b=some items->Room C.B.fl d A->SR C.B σ φ s.heap->FR C.B tbl env Γ σ φ s.heap ->
 wpAny C.M A (eval e env) (PostI C.B s σ φ σ₂ items) E s
section
variable {C:Cx} {d n:Nat} {env:Env} {tbl:List (Str×Nat)} {Γ:Fm} {σ σ':Sg} {v:V} {A:Around} {s:Shared} {φ:List Addr} {E:Value->Shared->Prop}
theorem qu9 (hE:SE C d n)(hEs:SEs C d n):SEs C d (n+1):=by
 intro es xs env tbl Γ σ vs σ' A s φ E pos hc he hr R F
 cases es with
 | nil =>
  cases xs with
  | nil=>cases he;exact spliced_nil ⟨φ,s.heap,s.toks,rfl,R,.refl,.nil⟩
  | cons x xs=>exact qaa hc
 | cons e es =>
  cases xs with
  | nil=>exact qaa hc
  | cons x xs =>
   have hc:(notStar e && (chkE C.N n env.scope.names tbl Γ.length e x && chkEs C.N n env.scope.names tbl Γ.length es xs))=true:=hc
   have hst:=(both hc).1
   replace hc:=(both hc).2
   have hc:=both hc
   rw [qap] at he
   refine bindK he λv σ₁ h1 he=>?_
   refine bindK he λws σ₂ h2 he=>?_
   cases he
   rw [qar hst]
   show wpAny C.M A (spliced ((false,eval e env)::backTo pos (starEach es env))) _ E s
   refine spliced_cons (qag (hE e x env tbl Γ σ v σ₁ A s φ E hc.1 h1 hr R F) λcv φ₁ h₁ tk R₁ S₁ r₁=>?_)
   refine wpAny_mono (hEs es xs env tbl Γ σ₁ ws σ' A _ φ₁ E pos hc.2 h2 hr R₁ (F.mono0 R S₁)) (λcvs s₂ P=>?_) λ_ _ e=>e
   refine x3_4 P ?_;clear P;intro φ₂ h₂ tk₂ er3 R₂ S₂ r₂;subst er3
   exact ⟨φ₂,h₂,tk₂,rfl,R₂,S₁.trans S₂ R.len,.cons (r₁.mono R₁ S₂ Apart.none) r₂⟩
theorem sO_succ (hE:SE C d n):SO C d (n+1):=by
 intro e x env tbl Γ σ i σ' A s φ E hc he hr R F
 cases x with
 | none =>
  have hc:e.isNone=true:=hc
  cases e with
  | some e=>exact qaa hc
  | none=>cases he;rw [evalPart_none];exact wpAny_pure ⟨φ,s.heap,s.toks,rfl,R,.refl,.none⟩
 | some x =>
  refine x1_2 (on_o (show onO e (λe=>chkE C.N n env.scope.names tbl Γ.length e x)=true from hc)) λe er1 hc=>?_;subst er1
  rw [qbj] at he
  refine bindK he λv σ₁ h1 he=>?_
  refine bindofK he λj h2 he=>?_
  cases he
  show wpAny C.M A (eval e env) _ E s
  refine qag (hE e x env tbl Γ σ v σ' A s φ E hc h1 hr R F) λcv φ₁ h₁ tk R₁ S₁ r₁=>⟨φ₁,h₁,tk,rfl,R₁,S₁,?_⟩
  cases v with
  | int i=>exact inInt (z:=λcv=>IsPart cv (some j)) r₁ λt=>Option.some.inj h2 ▸ .int _ _
  | _=>exact qah h2
theorem qm2 (hE:SE C d n)(hT:ST C d n)(hL:SL C d n):SL C d (n+1):=by
 intro op w r x env tbl Γ σ v σ' A s φ E pos hc he hr R F
 cases r with
 | nil =>
  obtain ⟨hts,hc⟩:=both (show (tstOk w x && chkE C.N n env.scope.names tbl Γ.length w x)=true from hc)
  refine ⟨hE w x env tbl Γ σ v σ' A s φ E hc he hr R F,λt ht=>?_⟩
  show wpAny C.M A (isTrue w env (eval w env) >>= _) _ E s
  refine wpAny_bind (wpAny_mono (hT w x env tbl Γ σ v t σ' A s φ E hts hc he ht hr R F) (λb s' hb=>?_) λ_ _ e=>e)
  obtain ⟨rfl,P⟩:=hb
  cases op <;> cases b <;> exact wpAny_pure ⟨rfl,P⟩
 | cons w' r =>
  cases op with
  | And =>
   cases x with
   | and a b =>
    obtain ⟨_,hc⟩:=both (show (true && (tstOk w a && (chkE C.N n env.scope.names tbl Γ.length w a && chkL C.N n env.scope.names tbl Γ.length (isAnd .And) w' r b)))=true from hc)
    have hts:=(both hc).1
    replace hc:=(both hc).2
    have hc:=both hc
    rw [qb7] at he
    refine bindK he λu σ₁ h1 he=>?_
    refine bindofK he λt h2 he=>?_
    constructor
    ·show wpAny C.M A (eval w env >>= _) _ E s
     refine wpAny_bind (qag (hE w a env tbl Γ σ u σ₁ A s φ E hc.1 h1 hr R F) λcv φ₁ h₁ tk R₁ S₁ r₁=>?_)
     refine wpAny_bind (wpAny_standAt (wpAny_bind (wpAny_holding (qec h2 R₁ r₁ λtk'=>?_))))
     cases t with
     | false=>cases he;exact wpAny_pure ⟨φ₁,h₁,tk',rfl,R₁,S₁,r₁⟩
     | true =>
      exact wpAny_mono (hL .And w' r b env tbl Γ σ₁ v σ' A _ φ₁ E pos hc.2 (qfg he) hr R₁ (F.mono0 R S₁)).1 (λcv s₂ P=>P.trans R.len S₁) λ_ _ e=>e
    ·intro t' ht'
     show wpAny C.M A (isTrue w env (eval w env) >>= _) _ E s
     refine wpAny_bind (wpAny_mono (hT w a env tbl Γ σ u t σ₁ A s φ E hts hc.1 h1 h2 hr R F) (λb' s' hb=>?_) λ_ _ e=>e)
     obtain ⟨rfl,P⟩:=hb
     cases b' with
     | false=>cases he;rw [h2] at ht';cases ht';exact wpAny_pure ⟨rfl,P⟩
     | true =>
      refine x3_3 P ?_;clear P;intro φ₁ h₁ tk er3 R₁ S₁;subst er3
      exact wpAny_mono ((hL .And w' r b env tbl Γ σ₁ v σ' A _ φ₁ E pos hc.2 (qfg he) hr R₁ (F.mono0 R S₁)).2 t' ht') (λb s₂ P=>⟨P.1,P.2.trans R.len S₁⟩) λ_ _ e=>e
   | _=>exact qaa hc
  | Or =>
   cases x with
   | or a b =>
    obtain ⟨_,hc⟩:=both (show (!false && (tstOk w a && (chkE C.N n env.scope.names tbl Γ.length w a && chkL C.N n env.scope.names tbl Γ.length (isAnd .Or) w' r b)))=true from hc)
    have hts:=(both hc).1
    replace hc:=(both hc).2
    have hc:=both hc
    rw [qc2] at he
    refine bindK he λu σ₁ h1 he=>?_
    refine bindofK he λt h2 he=>?_
    constructor
    ·show wpAny C.M A (eval w env >>= _) _ E s
     refine wpAny_bind (qag (hE w a env tbl Γ σ u σ₁ A s φ E hc.1 h1 hr R F) λcv φ₁ h₁ tk R₁ S₁ r₁=>?_)
     refine wpAny_bind (wpAny_standAt (wpAny_bind (wpAny_holding (qec h2 R₁ r₁ λtk'=>?_))))
     cases t with
     | true=>cases he;exact wpAny_pure ⟨φ₁,h₁,tk',rfl,R₁,S₁,r₁⟩
     | false =>
      exact wpAny_mono (hL .Or w' r b env tbl Γ σ₁ v σ' A _ φ₁ E pos hc.2 (qfg he) hr R₁ (F.mono0 R S₁)).1 (λcv s₂ P=>P.trans R.len S₁) λ_ _ e=>e
    ·intro t' ht'
     show wpAny C.M A (isTrue w env (eval w env) >>= _) _ E s
     refine wpAny_bind (wpAny_mono (hT w a env tbl Γ σ u t σ₁ A s φ E hts hc.1 h1 h2 hr R F) (λb' s' hb=>?_) λ_ _ e=>e)
     obtain ⟨rfl,P⟩:=hb
     cases b' with
     | true=>cases he;rw [h2] at ht';cases ht';exact wpAny_pure ⟨rfl,P⟩
     | false =>
      refine x3_3 P ?_;clear P;intro φ₁ h₁ tk er3 R₁ S₁;subst er3
      exact wpAny_mono ((hL .Or w' r b env tbl Γ σ₁ v σ' A _ φ₁ E pos hc.2 (qfg he) hr R₁ (F.mono0 R S₁)).2 t' ht') (λb s₂ P=>⟨P.1,P.2.trans R.len S₁⟩) λ_ _ e=>e
   | _=>exact qaa hc
end
end Mine.Internal
namespace Mine.Internal
open PySem PyProof.Rows PySem.Calls
section
variable {C:Cx} {d n:Nat}
theorem qdq {B:Bs}{s:Shared}{σ:Sg}{φ:List Addr}{v:V}{cv:Value}(R:SR B σ φ s.heap)(tk:Nat)(r:VR B σ φ s.heap v cv):Post B s σ φ σ v cv { s with toks:=tk } :=
 ⟨φ,s.heap,tk,rfl,R,.refl,r⟩
theorem SR.sysOk {B:Bs}{s:Shared}{σ:Sg}{φ:List Addr}(R:SR B σ φ s.heap):(s.heap.objs.size == sysModules)=false:=by
 obtain ⟨o,ho⟩:=R.main
 have h:(3:Nat)<s.heap.objs.size:=Heap.lt_size ho
 have hne:¬ s.heap.objs.size=(1:Nat):=by lia
 exact beq_eq_false_iff_ne.mpr hne
theorem qw9 {m:Bool}{xs:List V}{vs:List Value}{B:Bs}{s:Shared}{σ σ':Sg}{φ:List Addr}{v:V}(h:putL m xs σ = .ok v σ')(R:SR B σ φ s.heap)(r:VRs B σ φ s.heap xs vs)(tk:Nat) :
  Post B s σ φ σ' v (.ref s.heap.objs.size) { s with heap:=s.heap.push { cls:=.type "list",data:=.seq vs.toArray },toks:=tk }:=by
 unfold putL at h
 split at h
 ·rename_i hn
  cases m with
  | true =>
   cases h
   have hk:=qaj s.heap { cls:=.type "list",data:=.seq vs.toArray }
   refine ⟨φ++[s.heap.objs.size],_,tk,rfl,R.allocL (qb6 _) hk ⟨_,Heap.get?_push_size _ rfl⟩ r hn R.sysOk,Stp.alloc R.len (qb6 _) hk,.ref ?_⟩
   rw [← R.len];simp
  | false =>
   cases h
   exact ⟨φ,_,tk,rfl,R.grow (qaj _ _),Stp.grow (qaj _ _),VR.newLst R r hn 0⟩
 ·cases h
theorem qes {e:Expr}{x:Ex}{env:Env}{tbl:List (Str×Nat)}{Γ:Fm}{σ:Sg}{v:V}{σ':Sg}{A:Around}{s:Shared}{φ:List Addr}{E:Value->Shared->Prop}
  (hx:x = .cNone∨(∃ b,x = .cBool b)∨(∃ i,x = .cInt i)∨∃ l,x = .cStr l)
  (hc:chkE C.N (n+1) env.scope.names tbl Γ.length e x=true) (he:evE C.gl (callF C.gl C.P d) x Γ σ = .ok v σ') (R:SR C.B σ φ s.heap) :
  wpAny C.M A (eval e env) (Post C.B s σ φ σ' v) E s:=by
 rcases hx with rfl | ⟨b,rfl⟩ | ⟨i,rfl⟩ | ⟨l,rfl⟩
 ·replace hc:=qfh (show onConst e isConstN=true from hc)
  refine x3_2 hc ?_;clear hc;intro c k p er3 hc;subst er3
  cases c with
  | none=>cases he;exact wpAny_pure (qdq R s.toks .none)
  | _=>exact qaa hc
 ·replace hc:=qfh (show onConst e (isConstB b)=true from hc)
  refine x3_2 hc ?_;clear hc;intro c k p er3 hc;subst er3
  cases c with
  | bool b'=>cases he;rw [← beq_iff_eq.mp (show (b == b')=true from hc)];exact wpAny_pure (qdq R s.toks (.bool b))
  | _=>exact qaa hc
 ·replace hc:=qfh (show onConst e (isConstI i)=true from hc)
  refine x3_2 hc ?_;clear hc;intro c k p er3 hc;subst er3
  cases c with
  | int i'=>cases he;rw [← beq_iff_eq.mp (show (i == i')=true from hc)];exact wpAny_Constant_int (qdq R _ (.int i _))
  | _=>exact qaa hc
 ·replace hc:=qfh (show onConst e (isConstS l)=true from hc)
  refine x3_2 hc ?_;clear hc;intro c k p er3 hc;subst er3
  cases c with
  | str s' =>
   cases he
   replace hc:=both (show (s'.cps.toList == l && decide (l.length≤1000))=true from hc)
   obtain ⟨hc1,hc2⟩:=hc
   refine wpAny_mkText ?_
   have e:s'=⟨l.toArray⟩:=by
    obtain ⟨⟨a⟩⟩:=s'
    have:=beq_iff_eq.mp hc1
    simp at this
    rw [this]
   rw [e]
   exact qdq R _ (.str l _ (by have:=of_decide_eq_true hc2;unfold roomy;lia))
  | _=>exact qaa hc
theorem qfj (ok:C.Ok){e:Expr}{x:Ex}{env:Env}{tbl:List (Str×Nat)}{Γ:Fm}{σ:Sg}{v:V}{σ':Sg}{A:Around}{s:Shared}{φ:List Addr}{E:Value->Shared->Prop}
  (hx:(∃ i,x = .var i)∨∃ g,x = .glob g)
  (hc:chkE C.N (n+1) env.scope.names tbl Γ.length e x=true) (he:evE C.gl (callF C.gl C.P d) x Γ σ = .ok v σ') (R:SR C.B σ φ s.heap) (F:FR C.B tbl env Γ σ φ s.heap) :
  wpAny C.M A (eval e env) (Post C.B s σ φ σ' v) E s:=by
 rcases hx with ⟨i,rfl⟩ | ⟨g,rfl⟩
 ·replace hc:=qbq (show onName e (λid=>lkS tbl id == some i && isVar (lkS env.scope.names id) && okId id)=true from hc)
  refine x2_2 hc ?_;clear hc;intro id p er2 hc;subst er2
  rw [Bool.and_eq_true,Bool.and_eq_true,beq_iff_eq,qdl,qdl] at hc
  obtain ⟨h1,e1⟩:=qbw he
  subst e1
  obtain ⟨k1,k2⟩:=qg2 hc.2
  exact wpAny_Name (qup F hc.1.1 h1 (qub hc.1.2) k2 λcv r=>qdq R s.toks r) k1
 ·replace hc:=qbq (show onName e (λid=>nameAt C.N.gns g id && globOk env.scope.names id)=true from hc)
  refine x2_2 hc ?_;clear hc;intro id p er2 hc;subst er2
  have hc1:=(both hc).1
  have hc2:=(both hc).2
  obtain ⟨hc2,hc3⟩:=both hc2
  obtain ⟨h1,e1⟩:=qbw he
  subst e1
  refine x2_3 (ok.glob g v h1) λy cv k1 k2 k3=>?_
  rw [qdg hc1] at k1
  cases k1
  exact qdc R F ok hc2 hc3 k2 (qdq R s.toks (k3 _ _ _ _))
theorem qgl (hE:SE C d n)(hT:ST C d n)(hL:SL C d n){e:Expr}{x:Ex}{env:Env}{tbl:List (Str×Nat)}{Γ:Fm}{σ:Sg}{v:V}{σ':Sg}{A:Around}{s:Shared}{φ:List Addr}{E:Value->Shared->Prop}
  (hx:(∃ a b,x = .and a b)∨∃ a b,x = .or a b)
  (hc:chkE C.N (n+1) env.scope.names tbl Γ.length e x=true) (he:evE C.gl (callF C.gl C.P d) x Γ σ = .ok v σ') (hr:Room C.B.fl d A) (R:SR C.B σ φ s.heap) (F:FR C.B tbl env Γ σ φ s.heap) :
  wpAny C.M A (eval e env) (Post C.B s σ φ σ' v) E s∧∀ t,vTrue σ' v=some t->wpAny C.M A (isTrue e env (eval e env)) (λb s'=>b=t∧PostU C.B s σ φ σ' s') E s:=by
 rcases hx with ⟨a,b,rfl⟩ | ⟨a,b,rfl⟩
 ·replace hc:=qg3 (show onBoolOp e (λo l=>isAnd o && onTwo l λv w r=>tstOk v a && (chkE C.N n env.scope.names tbl Γ.length v a && chkL C.N n env.scope.names tbl Γ.length true w r b))=true from hc)
  refine x3_2 hc ?_;clear hc;intro o l p er3 hc;subst er3
  have h1:=(both hc).1
  replace hc:=(both hc).2
  replace hc:=qvw hc
  refine x3_2 hc ?_;clear hc;intro u w r er3 hc;subst er3
  cases o with
  | Or=>exact qaa h1
  | And=>exact qm2 hE hT hL .And u (w::r) (.and a b) env tbl Γ σ v σ' A s φ E p hc he hr R F
 ·replace hc:=qg3 (show onBoolOp e (λo l=>!isAnd o && onTwo l λv w r=>tstOk v a && (chkE C.N n env.scope.names tbl Γ.length v a && chkL C.N n env.scope.names tbl Γ.length false w r b))=true from hc)
  refine x3_2 hc ?_;clear hc;intro o l p er3 hc;subst er3
  have h1:=(both hc).1
  replace hc:=(both hc).2
  replace hc:=qvw hc
  refine x3_2 hc ?_;clear hc;intro u w r er3 hc;subst er3
  cases o with
  | And=>exact qaa h1
  | Or=>exact qm2 hE hT hL .Or u (w::r) (.or a b) env tbl Γ σ v σ' A s φ E p hc he hr R F
theorem qv4 (hE:SE C d n)(hT:ST C d n){e:Expr}{a:Ex}{env:Env}{tbl:List (Str×Nat)}{Γ:Fm}{σ:Sg}{v:V}{σ':Sg}{A:Around}{s:Shared}{φ:List Addr}{E:Value->Shared->Prop}
  (hc:chkE C.N (n+1) env.scope.names tbl Γ.length e (.not a)=true) (he:evE C.gl (callF C.gl C.P d) (.not a) Γ σ = .ok v σ') (hr:Room C.B.fl d A) (R:SR C.B σ φ s.heap) (F:FR C.B tbl env Γ σ φ s.heap) :
  wpAny C.M A (eval e env) (Post C.B s σ φ σ' v) E s∧∀ t,vTrue σ' v=some t->wpAny C.M A (isTrue e env (eval e env)) (λb s'=>b=t∧PostU C.B s σ φ σ' s') E s:=by
 replace hc:=qpb (show onUnary e (λo x=>isNot o && (tstOk x a && chkE C.N n env.scope.names tbl Γ.length x a))=true from hc)
 refine x3_2 hc ?_;clear hc;intro o e p er3 hc;subst er3
 have h0:=(both hc).1
 replace hc:=(both hc).2
 have hts:=(both hc).1
 replace hc:=(both hc).2
 cases o with
 | Not =>
  rw [qb9] at he
  refine bindK he λu σ₁ h1 he=>?_
  refine bindofK he λt h2 he=>?_
  cases he
  constructor
  ·show wpAny C.M A (eval e env >>= _) _ E s
   refine wpAny_bind (qag (hE e a env tbl Γ σ u _ A s φ E hc h1 hr R F) λcv φ₁ h₁ tk R₁ S₁ r₁=>?_)
   refine wpAny_bind (wpAny_standAt (wpAny_holding (not_value (qec h2 R₁ r₁ λtk'=>?_))))
   exact ⟨φ₁,h₁,tk',rfl,R₁,S₁,.bool _⟩
  ·intro t' ht'
   cases ht'
   refine PyProof.Rows.isTrue_not (wpAny_mono (hT e a env tbl Γ σ u t _ A s φ E hts hc h1 h2 hr R F) (λb s' hb=>?_) λ_ _ e=>e)
   exact ⟨by rw [hb.1],hb.2⟩
 | _=>exact qaa h0
theorem qv3 (hE:SE C d n){e:Expr}{a:Ex}{env:Env}{tbl:List (Str×Nat)}{Γ:Fm}{σ:Sg}{v:V}{σ':Sg}{A:Around}{s:Shared}{φ:List Addr}{E:Value->Shared->Prop}
  (hc:chkE C.N (n+1) env.scope.names tbl Γ.length e (.neg a)=true) (he:evE C.gl (callF C.gl C.P d) (.neg a) Γ σ = .ok v σ') (hr:Room C.B.fl d A) (R:SR C.B σ φ s.heap) (F:FR C.B tbl env Γ σ φ s.heap) :
  wpAny C.M A (eval e env) (Post C.B s σ φ σ' v) E s∧∃ x p,e = .UnaryOp .USub x p:=by
 replace hc:=qpb (show onUnary e (λo x=>isUSub o && chkE C.N n env.scope.names tbl Γ.length x a)=true from hc)
 refine x3_2 hc ?_;clear hc;intro o e p er3 hc;subst er3
 have h0:=(both hc).1
 replace hc:=(both hc).2
 cases o with
 | USub =>
  rw [qb2] at he
  refine bindK he λu σ₁ h1 he=>?_
  obtain ⟨h2,e2⟩:=qbw he
  subst e2
  refine ⟨?_,_,_,rfl⟩
  show wpAny C.M A (eval e env >>= _) _ E s
  refine wpAny_bind (qag (hE e a env tbl Γ σ u _ A s φ E hc h1 hr R F) λcv φ₁ h₁ tk R₁ S₁ r₁=>?_)
  refine wpAny_bind (wpAny_standAt (wpAny_holding ?_))
  cases u with
  | int i=>exact inInt (z:=λcv=>wpAny C.M A (unaryOp .USub cv) (Post C.B s σ φ σ₁ v) E { s with heap:=h₁,toks:=tk }) r₁ λt=>P.neg_int ⟨φ₁,h₁,_,rfl,R₁,S₁,Option.some.inj h2 ▸ .int _ _⟩
  | _=>exact qah h2
 | _=>exact qaa h0
theorem sE_bin (hE:SE C d n){e:Expr}{o:Bop}{a b:Ex}{env:Env}{tbl:List (Str×Nat)}{Γ:Fm}{σ:Sg}{v:V}{σ':Sg}{A:Around}{s:Shared}{φ:List Addr}{E:Value->Shared->Prop}
  (hc:chkE C.N (n+1) env.scope.names tbl Γ.length e (.bin o a b)=true) (he:evE C.gl (callF C.gl C.P d) (.bin o a b) Γ σ = .ok v σ') (hr:Room C.B.fl d A) (R:SR C.B σ φ s.heap) (F:FR C.B tbl env Γ σ φ s.heap) :
  wpAny C.M A (eval e env) (Post C.B s σ φ σ' v) E s:=by
 replace hc:=qvv (show onBin e (λl op r=>opIs o op && (chkE C.N n env.scope.names tbl Γ.length l a && chkE C.N n env.scope.names tbl Γ.length r b))=true from hc)
 refine x4_2 hc ?_;clear hc;intro l op r p er4 hc;subst er4
 have h0:=(both hc).1
 replace hc:=(both hc).2
 have hc:=both hc
 have:=qsu h0
 subst this
 ·rw [qbn] at he
  refine bindK he λu σ₁ h1 he=>?_
  refine bindK he λw σ₂ h2 he=>?_
  obtain ⟨h3,e3⟩:=qbw he
  subst e3
  refine wpAny_BinOp (qag (hE l a env tbl Γ σ u σ₁ A s φ E hc.1 h1 hr R F) λcv φ₁ h₁ tk R₁ S₁ r₁=>?_)
  refine qag (hE r b env tbl Γ σ₁ w σ₂ A _ φ₁ E hc.2 h2 hr R₁ (F.mono0 R S₁)) λcw φ₂ h₂ tk₂ R₂ S₂ r₂=>?_
  exact op_bin h3 R₂ (r₁.mono R₁ S₂ Apart.none) r₂ (qde R₂ λcv s' P=>P.trans R.len (S₁.trans S₂ R.len))
theorem qv1 (hE:SE C d n){e:Expr}{o:Cop}{a b:Ex}{env:Env}{tbl:List (Str×Nat)}{Γ:Fm}{σ:Sg}{v:V}{σ':Sg}{A:Around}{s:Shared}{φ:List Addr}{E:Value->Shared->Prop}
  (hc:chkE C.N (n+1) env.scope.names tbl Γ.length e (.cmp o a b)=true) (he:evE C.gl (callF C.gl C.P d) (.cmp o a b) Γ σ = .ok v σ') (hr:Room C.B.fl d A) (R:SR C.B σ φ s.heap) (F:FR C.B tbl env Γ σ φ s.heap) :
  wpAny C.M A (eval e env) (Post C.B s σ φ σ' v) E s∧∀ t,vTrue σ' v=some t->wpAny C.M A (isTrue e env (eval e env)) (λb s'=>b=t∧PostU C.B s σ φ σ' s') E s:=by
 replace hc:=qhx (show onCompare e (λl ops rs=>on1 ops λop=>on1 rs λr=>copIs o op && (setOk r && (chkE C.N n env.scope.names tbl Γ.length l a && chkE C.N n env.scope.names tbl Γ.length r b)))=true from hc)
 refine x4_2 hc ?_;clear hc;intro l ops rs p er4 hc;subst er4
 replace hc:=on_1 hc
 refine x1_2 hc ?_;clear hc;intro op er1 hc;subst er1
 replace hc:=on_1 hc
 refine x1_2 hc ?_;clear hc;intro r er1 hc;subst er1
 have h0:=(both hc).1
 replace hc:=(both hc).2
 have hs:=(both hc).1
 replace hc:=(both hc).2
 have hc:=both hc
 have:=qnm h0
 subst this
 ·rw [qb1] at he
  refine bindK he λu σ₁ h1 he=>?_
  refine bindK he λw σ₂ h2 he=>?_
  refine bindofK he λt h3 he=>?_
  cases he
  constructor
  ·refine wpAny_Compare1 (qag (hE l a env tbl Γ σ u σ₁ A s φ E hc.1 h1 hr R F) λcv φ₁ h₁ tk R₁ S₁ r₁=>?_) (qjv hs _)
   refine qag (hE r b env tbl Γ σ₁ w _ A _ φ₁ E hc.2 h2 hr R₁ (F.mono0 R S₁)) λcw φ₂ h₂ tk₂ R₂ S₂ r₂=>?_
   exact qsw h3 ⟨rfl,rfl⟩ R₂ (r₁.mono R₁ S₂ Apart.none) r₂ hr.u64 λtk=>⟨φ₂,h₂,tk,rfl,R₂,S₁.trans S₂ R.len,.bool _⟩
  ·intro t' ht'
   cases ht'
   refine wpAny_isTrue_Compare1 (qag (hE l a env tbl Γ σ u σ₁ A s φ E hc.1 h1 hr R F) λcv φ₁ h₁ tk R₁ S₁ r₁=>?_) (qjv hs _)
   refine qag (hE r b env tbl Γ σ₁ w _ A _ φ₁ E hc.2 h2 hr R₁ (F.mono0 R S₁)) λcw φ₂ h₂ tk₂ R₂ S₂ r₂=>?_
   exact qsw h3 ⟨rfl,rfl⟩ R₂ (r₁.mono R₁ S₂ Apart.none) r₂ hr.u64 λtk=>wpAny_truthy_bool ⟨rfl,φ₂,h₂,tk,rfl,R₂,S₁.trans S₂ R.len⟩
end
end Mine.Internal
namespace Mine.Internal
open PySem PyProof.Rows PySem.Calls
section
variable {C:Cx} {d n:Nat}
theorem qv2 (hE:SE C d n)(hT:ST C d n){e:Expr}{c a b:Ex}{env:Env}{tbl:List (Str×Nat)}{Γ:Fm}{σ:Sg}{v:V}{σ':Sg}{A:Around}{s:Shared}{φ:List Addr}{E:Value->Shared->Prop}
  (hc:chkE C.N (n+1) env.scope.names tbl Γ.length e (.ite c a b)=true) (he:evE C.gl (callF C.gl C.P d) (.ite c a b) Γ σ = .ok v σ') (hr:Room C.B.fl d A) (R:SR C.B σ φ s.heap) (F:FR C.B tbl env Γ σ φ s.heap) :
  wpAny C.M A (eval e env) (Post C.B s σ φ σ' v) E s∧∀ t,vTrue σ' v=some t->wpAny C.M A (isTrue e env (eval e env)) (λb s'=>b=t∧PostU C.B s σ φ σ' s') E s:=by
 replace hc:=qpa (show onIfExp e (λt u v=>tstOk t c && (tstOk u a && (tstOk v b && (chkE C.N n env.scope.names tbl Γ.length t c && (chkE C.N n env.scope.names tbl Γ.length u a && chkE C.N n env.scope.names tbl Γ.length v b)))))=true from hc)
 refine x4_2 hc ?_;clear hc;intro te u w p er4 hc;subst er4
 have t1:=(both hc).1
 replace hc:=(both hc).2
 have t2:=(both hc).1
 replace hc:=(both hc).2
 have t3:=(both hc).1
 replace hc:=(both hc).2
 have q1:=(both hc).1
 replace hc:=(both hc).2
 have q2:=(both hc).1
 have q3:=(both hc).2
 ·rw [qbp] at he
  refine bindK he λx σ₁ h1 he=>?_
  refine bindofK he λt h2 he=>?_
  constructor
  ·refine wpAny_IfExp (wpAny_mono (hT te c env tbl Γ σ x t σ₁ A s φ E t1 q1 h1 h2 hr R F) (λb' s' hb=>?_) λ_ _ e=>e)
   obtain ⟨rfl,φ₁,h₁,tk,rfl,R₁,S₁⟩:=hb
   cases b' with
   | true=>exact wpAny_mono (hE u a env tbl Γ σ₁ v σ' A _ φ₁ E q2 he hr R₁ (F.mono0 R S₁)) (λcv s₂ P=>P.trans R.len S₁) λ_ _ e=>e
   | false=>exact wpAny_mono (hE w b env tbl Γ σ₁ v σ' A _ φ₁ E q3 he hr R₁ (F.mono0 R S₁)) (λcv s₂ P=>P.trans R.len S₁) λ_ _ e=>e
  ·intro t' ht'
   refine PyProof.Rows.isTrue_IfExp (wpAny_mono (hT te c env tbl Γ σ x t σ₁ A s φ E t1 q1 h1 h2 hr R F) (λb' s' hb=>?_) λ_ _ e=>e)
   obtain ⟨rfl,φ₁,h₁,tk,rfl,R₁,S₁⟩:=hb
   cases b' with
   | true=>exact wpAny_mono (hT u a env tbl Γ σ₁ v t' σ' A _ φ₁ E t2 q2 he ht' hr R₁ (F.mono0 R S₁)) (λb s₂ P=>⟨P.1,P.2.trans R.len S₁⟩) λ_ _ e=>e
   | false=>exact wpAny_mono (hT w b env tbl Γ σ₁ v t' σ' A _ φ₁ E t3 q3 he ht' hr R₁ (F.mono0 R S₁)) (λb s₂ P=>⟨P.1,P.2.trans R.len S₁⟩) λ_ _ e=>e
theorem sE_tup (hEs:SEs C d n){e:Expr}{xs:List Ex}{env:Env}{tbl:List (Str×Nat)}{Γ:Fm}{σ:Sg}{v:V}{σ':Sg}{A:Around}{s:Shared}{φ:List Addr}{E:Value->Shared->Prop}
  (hc:chkE C.N (n+1) env.scope.names tbl Γ.length e (.tup xs)=true) (he:evE C.gl (callF C.gl C.P d) (.tup xs) Γ σ = .ok v σ') (hr:Room C.B.fl d A) (R:SR C.B σ φ s.heap) (F:FR C.B tbl env Γ σ φ s.heap) :
  wpAny C.M A (eval e env) (Post C.B s σ φ σ' v) E s:=by
 replace hc:=quv (show onTuple e (λes=>chkEs C.N n env.scope.names tbl Γ.length es xs)=true from hc)
 refine x3_2 hc ?_;clear hc;intro es k p er3 hc;subst er3
 ·rw [qca] at he
  refine bindK he λvs σ₁ h1 he=>?_
  split at he
  ·rename_i hn
   cases he
   refine Tuple_ (wpAny_mono (hEs es xs env tbl Γ σ vs _ A s φ E p hc h1 hr R F) (λcvs s₁ P=>?_) λ_ _ e=>e)
   refine x3_4 P ?_;clear P;intro φ₁ h₁ tk er3 R₁ S₁ r₁;subst er3
   refine wpAny_newObj_type ?_ (by show cvs.toArray.size≤sizeLine;rw [List.size_toArray,r₁.length,← qbk];exact hn)
   exact ⟨φ₁,_,tk,rfl,R₁.grow (qaj _ _),S₁.trans (Stp.grow (qaj _ _)) R.len,VR.newTup (s:={ s with heap:=h₁,toks:=tk }) R₁ r₁ hn 0⟩
  ·cases he
theorem sE_lst (hEs:SEs C d n){e:Expr}{m:Bool}{xs:List Ex}{env:Env}{tbl:List (Str×Nat)}{Γ:Fm}{σ:Sg}{v:V}{σ':Sg}{A:Around}{s:Shared}{φ:List Addr}{E:Value->Shared->Prop}
  (hc:chkE C.N (n+1) env.scope.names tbl Γ.length e (.lst m xs)=true) (he:evE C.gl (callF C.gl C.P d) (.lst m xs) Γ σ = .ok v σ') (hr:Room C.B.fl d A) (R:SR C.B σ φ s.heap) (F:FR C.B tbl env Γ σ φ s.heap) :
  wpAny C.M A (eval e env) (Post C.B s σ φ σ' v) E s:=by
 replace hc:=qmt (show onList e (λes=>chkEs C.N n env.scope.names tbl Γ.length es xs)=true from hc)
 refine x2_2 hc ?_;clear hc;intro es p er2 hc;subst er2
 ·rw [qb8] at he
  refine bindK he λvs σ₁ h1 he=>?_
  have hn:vs.length≤roomy:=qpg he
  refine List_ (wpAny_mono (hEs es xs env tbl Γ σ vs _ A s φ E p hc h1 hr R F) (λcvs s₁ P=>?_) λ_ _ e=>e)
  refine x3_4 P ?_;clear P;intro φ₁ h₁ tk er3 R₁ S₁ r₁;subst er3
  refine wpAny_newObj_type ?_ (by show cvs.toArray.size≤sizeLine;rw [List.size_toArray,r₁.length,← qbk];exact hn)
  exact (qw9 (s:={ s with heap:=h₁,toks:=tk }) he R₁ r₁ tk).trans R.len S₁
theorem sE_dict (hEs:SEs C d n){e:Expr}{p:Bool}{env:Env}{tbl:List (Str×Nat)}{Γ:Fm}{σ:Sg}{v:V}{σ':Sg}{A:Around}{s:Shared}{φ:List Addr}{E:Value->Shared->Prop}
  (hc:chkE C.N (n+1) env.scope.names tbl Γ.length e (.dict p)=true) (he:evE C.gl (callF C.gl C.P d) (.dict p) Γ σ = .ok v σ') (hr:Room C.B.fl d A) (R:SR C.B σ φ s.heap) (F:FR C.B tbl env Γ σ φ s.heap) :
  wpAny C.M A (eval e env) (Post C.B s σ φ σ' v) E s:=by
 replace hc:=qwv (show onDict e (λb=>b)=true from hc)
 obtain ⟨q,rfl⟩:=hc
 ·cases he
  refine wpAny_Dict_empty ?_
  have hk:=qaj s.heap { cls:=.type "dict",data:=.dict #[] }
  refine ⟨φ++[s.heap.objs.size],_,s.toks,rfl,R.allocAny (qb6 _) hk (Heap.get?_push_size _ rfl) (λxs e=>?_) (λks e=>?_) (λks e=>?_) R.sysOk,Stp.alloc R.len (qb6 _) hk,.ref (by rw [← R.len];simp)⟩
  ·cases p <;> cases e
  ·cases p
   ·cases e;exact ⟨⟨[],Heap.DictOf.new _,rfl⟩,by simp [roomy]⟩
   ·cases e
  ·cases p
   ·cases e
   ·cases e;exact ⟨⟨[],Heap.DictOfH.new _,rfl⟩,by simp [roomy]⟩
theorem sE_frz (hE:SE C d n){e:Expr}{a:Ex}{env:Env}{tbl:List (Str×Nat)}{Γ:Fm}{σ:Sg}{v:V}{σ':Sg}{A:Around}{s:Shared}{φ:List Addr}{E:Value->Shared->Prop}
  (hc:chkE C.N (n+1) env.scope.names tbl Γ.length e (.frz a)=true) (he:evE C.gl (callF C.gl C.P d) (.frz a) Γ σ = .ok v σ') (hr:Room C.B.fl d A) (R:SR C.B σ φ s.heap) (F:FR C.B tbl env Γ σ φ s.heap) :
  wpAny C.M A (eval e env) (Post C.B s σ φ σ' v) E s:=by
 have hc:=both (show (plainTest e && chkE C.N n env.scope.names tbl Γ.length e a)=true from hc)
 rw [qmg] at he
 refine bindK he λu σ₁ h1 he=>?_
 have h2:=qpu he
 refine qag (hE e a env tbl Γ σ u σ₁ A s φ E hc.2 h1 hr R F) λcv φ₁ h₁ tk R₁ S₁ r₁=>?_
 refine x0_3 (qrv u h2 R₁ r₁) λk1 k2 k3=>?_
 exact ⟨φ₁,h₁,tk,rfl,k1,S₁.trans k2 R.len,k3⟩
theorem sE_idx (hE:SE C d n){e:Expr}{a b:Ex}{env:Env}{tbl:List (Str×Nat)}{Γ:Fm}{σ:Sg}{v:V}{σ':Sg}{A:Around}{s:Shared}{φ:List Addr}{E:Value->Shared->Prop}
  (hc:chkE C.N (n+1) env.scope.names tbl Γ.length e (.idx a b)=true) (he:evE C.gl (callF C.gl C.P d) (.idx a b) Γ σ = .ok v σ') (hr:Room C.B.fl d A) (R:SR C.B σ φ s.heap) (F:FR C.B tbl env Γ σ φ s.heap) :
  wpAny C.M A (eval e env) (Post C.B s σ φ σ' v) E s:=by
 replace hc:=qst (show onSub e (λv j=>notSlice j && (chkE C.N n env.scope.names tbl Γ.length v a && chkE C.N n env.scope.names tbl Γ.length j b))=true from hc)
 refine x3_2 hc ?_;clear hc;intro l r p er3 hc;subst er3
 have q0:=(both hc).1
 replace hc:=(both hc).2
 have hc:=both hc
 ·rw [qba] at he
  refine bindK he λu σ₁ h1 he=>?_
  refine bindK he λw σ₂ h2 he=>?_
  obtain ⟨h3,e3⟩:=qbw he
  subst e3
  refine Subscript_ (qag (hE l a env tbl Γ σ u σ₁ A s φ E hc.1 h1 hr R F) λcv φ₁ h₁ tk R₁ S₁ r₁=>?_)
  refine qag (hE r b env tbl Γ σ₁ w σ₂ A _ φ₁ E hc.2 h2 hr R₁ (F.mono0 R S₁)) λcw φ₂ h₂ tk₂ R₂ S₂ r₂=>?_
  cases w with
  | int i =>
   obtain ⟨t,rfl⟩:=r₂
   obtain ⟨⟨T,id,hT,hl⟩,hg⟩:=qwy (prog:=C.B.prog) (w:=C.B.w) (A:=A) (E:=E) (s:={ s with heap:=h₂,toks:=tk₂ }) (t:=t) h3 R₂ (r₁.mono R₁ S₂ Apart.none) (qde R₂ λcv s' P=>P.trans R.len (S₁.trans S₂ R.len))
   exact tail_any hT hl hg (sub_of q0 _ _)
  | _=>exact qah h3
theorem qu8 (hE:SE C d n)(hO:SO C d n){e:Expr}{a:Ex}{lo hi:Option Ex}{env:Env}{tbl:List (Str×Nat)}{Γ:Fm}{σ:Sg}{v:V}{σ':Sg}{A:Around}{s:Shared}{φ:List Addr}{E:Value->Shared->Prop}
  (hc:chkE C.N (n+1) env.scope.names tbl Γ.length e (.slice a lo hi)=true) (he:evE C.gl (callF C.gl C.P d) (.slice a lo hi) Γ σ = .ok v σ') (hr:Room C.B.fl d A) (R:SR C.B σ φ s.heap) (F:FR C.B tbl env Γ σ φ s.heap) :
  wpAny C.M A (eval e env) (Post C.B s σ φ σ' v) E s:=by
 replace hc:=qst (show onSub e (λv i=>onSlice i λlo' hi' st=>st.isNone && (chkE C.N n env.scope.names tbl Γ.length v a && (chkO C.N n env.scope.names tbl Γ.length lo' lo && chkO C.N n env.scope.names tbl Γ.length hi' hi)))=true from hc)
 refine x3_2 hc ?_;clear hc;intro l sl p er3 hc;subst er3
 replace hc:=quu hc
 refine x4_2 hc ?_;clear hc;intro lo' hi' st p' er4 hc;subst er4
 have q0:=(both hc).1
 replace hc:=(both hc).2
 cases st with
 | some _=>exact qaa q0
 | none =>
  have q1:=(both hc).1
  replace hc:=(both hc).2
  have hc:=both hc
  rw [qa4] at he
  refine bindK he λu σ₁ h1 he=>?_
  refine bindK he λi σ₂ h2 he=>?_
  refine bindK he λj σ₃ h3 he=>?_
  obtain ⟨h4,e4⟩:=qbw he
  subst e4
  refine Subscript_ (qag (hE l a env tbl Γ σ u σ₁ A s φ E q1 h1 hr R F) λcv φ₁ h₁ tk R₁ S₁ r₁=>?_)
  refine wpAny_Slice (wpAny_mono (hO lo' lo env tbl Γ σ₁ i σ₂ A _ φ₁ E hc.1 h2 hr R₁ (F.mono0 R S₁)) (λci s₂ P=>?_) λ_ _ e=>e)
  refine x3_4 P ?_;clear P;intro φ₂ h₂ tk₂ er3 R₂ S₂ pi;subst er3
  have S12:=S₁.trans S₂ R.len
  refine wpAny_mono (hO hi' hi env tbl Γ σ₂ j σ₃ A _ φ₂ E hc.2 h3 hr R₂ (F.mono0 R S12)) (λcj s₃ P=>?_) λ_ _ e=>e
  refine x3_4 P ?_;clear P;intro φ₃ h₃ tk₃ er3 R₃ S₃ pj;subst er3
  have S13:=S12.trans S₃ R.len
  rw [evalPart_none]
  refine wpAny_pure ?_
  have hk:=qaj h₃ { cls:=.type "slice",data:=.fields #[ci,cj,.none] }
  have R₄:SR C.B σ₃ φ₃ (h₃.push { cls:=.type "slice",data:=.fields #[ci,cj,.none] }):=R₃.grow hk
  have S14:=S13.trans (Stp.grow hk) R.len
  obtain ⟨⟨T,id,hT,hl⟩,hg⟩:=op_cut (prog:=C.B.prog) (w:=C.B.w) (A:=A) (E:=E) (s:={ s with heap:=h₃.push { cls:=.type "slice",data:=.fields #[ci,cj,.none] },toks:=tk₃ }) h4 R₄ (((r₁.mono R₁ S₂ Apart.none).mono R₂ S₃ Apart.none).grow R₃ hk) (Heap.IsSliceOf.new ..) pi pj (qde R₄ λcv s' P=>P.trans R.len S14)
  exact tail_any hT hl hg rfl
end
end Mine.Internal
namespace Mine.Internal
open PySem PyProof.Rows PySem.Calls
section
variable {C:Cx} {d n:Nat}
theorem qxg (ok:C.Ok)(hcs:CallSim C d)(hEs:SEs C d n){e:Expr}{f:Nat}{xs:List Ex}{env:Env}{tbl:List (Str×Nat)}{Γ:Fm}{σ:Sg}{v:V}{σ':Sg}{A:Around}{s:Shared}{φ:List Addr}{E:Value->Shared->Prop}
  (hc:chkE C.N (n+1) env.scope.names tbl Γ.length e (.call f xs)=true) (he:evE C.gl (callF C.gl C.P d) (.call f xs) Γ σ = .ok v σ') (hr:Room C.B.fl d A) (R:SR C.B σ φ s.heap) (F:FR C.B tbl env Γ σ φ s.heap) :
  wpAny C.M A (eval e env) (Post C.B s σ φ σ' v) E s:=by
 replace hc:=qbs (show onCallN e (λid es=>nameAt C.N.fns f id && (globOk env.scope.names id && (!es.isEmpty && (es.length≤20 && chkEs C.N n env.scope.names tbl Γ.length es xs))))=true from hc)
 refine x4_2 hc ?_;clear hc;intro y p es p' er4 hc;subst er4
 have q1:=(both hc).1
 replace hc:=(both hc).2
 have q2:=(both hc).1
 replace hc:=(both hc).2
 have q4:=(both hc).1
 replace hc:=(both hc).2
 have q5:=(both hc).1
 have q6:=(both hc).2
 obtain ⟨q2,q3⟩:=both q2
 ··have hy:=qdg q1
   obtain ⟨a,o,fd,k1,k2,k3⟩:=ok.fn f y hy
   rw [qa3] at he
   refine bindK he λvs σ₁ h1 he=>?_
   refine wpAny_Call_NameR (qdc R F ok q2 q3 k1 (callWith_function (o:=o) (fd:=fd) ?_))
   cases es with
   | nil=>cases q4
   | cons e0 es =>
    have he0:=qar (env:=env) (qe5 q6) es
    refine qaw he0 (wpAny_mono (hEs (e0::es) xs env tbl Γ σ vs σ₁ A s φ E p' q6 h1 hr R F) (λcvs s₁ P=>?_) λ_ _ e=>e)
    refine x3_4 P ?_;clear P;intro φ₁ h₁ tk er3 R₁ S₁ r₁;subst er3
    refine ⟨⟨R₁.based _ _ k2,k3⟩,?_⟩
    rw [List.nil_append]
    exact wpAny_mono (hcs f y a vs σ₁ v σ' he hy k1 A _ φ₁ cvs E hr R₁ r₁) (λcv s₂ P=>P.trans R.len S₁) λ_ _ e=>e
noncomputable def WF (C:Cx)(A:Around)(E:Value->Shared->Prop)(s:Shared)(σ:Sg)(φ:List Addr)(v:V)(cv:Value)(cvs:List Value):Prop:=wpAny C.M A (call cv cvs) (Post C.B s σ φ σ v) E s
section
variable {A:Around} {E:Value->Shared->Prop} {s:Shared} {σ:Sg} {φ:List Addr}
theorem qqw {b:Bi}{y:Str}{cv cx:Value}{x v:V}(hb:biOf b=some (y,cv))(hv:vBi1 σ b x=some v)(hr:Room C.B.fl d A)(R:SR C.B σ φ s.heap)(a:VR C.B σ φ s.heap x cx):WF C A E s σ φ v cv [cx]:=by
    cases b with
    | len=>exact qal (P:=λp:Str×Value=>WF C A E s σ φ v p.2 [cx]) hb (qcz (P:=λv=>WF C A E s σ φ v (.builtin "len") [cx]) hv λk h1=>qvz h1 ⟨rfl,rfl⟩ R a (qft R))
    | sum=>cases hv
    | all=>cases hv
    | any=>cases hv
    | max1=>cases hv
    | tuple=>exact qal (P:=λp:Str×Value=>WF C A E s σ φ v p.2 [cx]) hb (qcz (P:=λv=>WF C A E s σ φ v (.type "tuple") [cx]) hv λxs h1=>quz h1 R a (qft R))
    | list=>cases hv
    | int=>cases hv
    | max2=>exact qah hv
    | min2=>exact qah hv
    | _=>exact qah hb
theorem qqx {b:Bi}{y:Str}{cv ca cb:Value}{x z v:V}(hb:biOf b=some (y,cv))(hv:vBi2 b x z=some v)(hr:Room C.B.fl d A)(R:SR C.B σ φ s.heap)(a:VR C.B σ φ s.heap x ca)(a':VR C.B σ φ s.heap z cb):WF C A E s σ φ v cv [ca,cb]:=by
    cases b with
    | max2=>exact qal (P:=λp:Str×Value=>WF C A E s σ φ v p.2 [ca,cb]) hb (ii_VR (P:=λca cb=>WF C A E s σ φ v (.builtin "max") [ca,cb]) hv a a' λi j t u e=>qal (P:=λv=>WF C A E s σ φ v (.builtin "max") [.int i t,.int j u]) e (qw2 hr.hh (qft R)))
    | min2=>cases hv
    | _=>exact qah hv
theorem qtt {b:Bi}{y:Str}{cv:Value}{vs:List V}{cvs:List Value}{v:V}(hb:biOf b=some (y,cv))(hv:vBi σ b vs=some v)(hr:Room C.B.fl d A)(R:SR C.B σ φ s.heap)(r:VRs C.B σ φ s.heap vs cvs):WF C A E s σ φ v cv cvs:=by
 cases vs with
 | nil=>exact qah hv
 | cons x vs =>
  refine inCons (z:=WF C A E s σ φ v cv) r λcx cvs a r=>?_
  cases vs with
  | nil=>exact inNil (z:=λcvs=>WF C A E s σ φ v cv (cx::cvs)) r (qqw hb hv hr R a)
  | cons z vs =>
   refine inCons (z:=λcvs=>WF C A E s σ φ v cv (cx::cvs)) r λcz cvs a' r=>?_
   cases vs with
   | nil=>exact inNil (z:=λcvs=>WF C A E s σ φ v cv (cx::cz::cvs)) r (qqx hb hv hr R a a')
   | cons _ _=>exact qah hv
end
theorem qnb {b:Bi}{y:Str}{cv:Value}(h:biOf b=some (y,cv)):(y,cv)∈bnames∧((∃ id,cv = .builtin id)∨∃ T,cv = .type T):=by
 cases b <;> cases h <;> exact ⟨by first | exact List.mem_of_getElem? (i:=0) rfl | exact List.mem_of_getElem? (i:=1) rfl | exact List.mem_of_getElem? (i:=2) rfl | exact List.mem_of_getElem? (i:=3) rfl | exact List.mem_of_getElem? (i:=4) rfl | exact List.mem_of_getElem? (i:=5) rfl | exact List.mem_of_getElem? (i:=6) rfl | exact List.mem_of_getElem? (i:=7) rfl | exact List.mem_of_getElem? (i:=8) rfl | exact List.mem_of_getElem? (i:=9) rfl | exact List.mem_of_getElem? (i:=10) rfl | exact List.mem_of_getElem? (i:=11) rfl | exact List.mem_of_getElem? (i:=12) rfl | exact List.mem_of_getElem? (i:=13) rfl,by first | exact .inl ⟨_,rfl⟩ | exact .inr ⟨_,rfl⟩⟩
theorem qr9 {b:Bi}{y:Str}{T:String}(h:isaOf b=some (y,T)):(y,Value.type T)∈bnames∧T=isaT b∧∀ c,b≠.isExc c:=by
 cases b <;> cases h <;> exact ⟨by first | exact List.mem_of_getElem? (i:=0) rfl | exact List.mem_of_getElem? (i:=1) rfl | exact List.mem_of_getElem? (i:=2) rfl | exact List.mem_of_getElem? (i:=3) rfl | exact List.mem_of_getElem? (i:=4) rfl | exact List.mem_of_getElem? (i:=5) rfl | exact List.mem_of_getElem? (i:=6) rfl | exact List.mem_of_getElem? (i:=7) rfl | exact List.mem_of_getElem? (i:=8) rfl | exact List.mem_of_getElem? (i:=9) rfl | exact List.mem_of_getElem? (i:=10) rfl | exact List.mem_of_getElem? (i:=11) rfl | exact List.mem_of_getElem? (i:=12) rfl | exact List.mem_of_getElem? (i:=13) rfl,rfl,by intro c h;cases h⟩
theorem isa_or {σ:Sg}{b:Bi}{y:Str×String}{u v:V}(hy:isaOf b=some y)(h:vBi1 σ b u=some v) :
  (∃ t,vIsa b u=some t∧v = .bool t)∨∃ i xs,b = .isLst∧u = .ref i∧σ[i]? = some (.lst xs)∧v = .bool true:=by
 have gen:∀ {o:Option Bool},o.map V.bool=some v->∃ t,o=some t∧v = .bool t:=λ{o} h=>by
  cases o with
  | none=>cases h
  | some t=>cases h;exact ⟨t,rfl,rfl⟩
 cases b with
 | isLst =>
  cases u with
  | ref i =>
   replace h:isLstC σ[i]? = some v:=h
   cases hi:σ[i]? with
   | none=>rw [hi] at h;cases h
   | some c =>
    rw [hi] at h
    cases c with
    | lst xs=>cases h;exact .inr ⟨i,xs,rfl,rfl,hi,rfl⟩
    | _=>cases h
  | _=>exact .inl (gen h)
 | isBool=>exact .inl (gen h)
 | isInt=>exact .inl (gen h)
 | isStr=>exact .inl (gen h)
 | isTup=>exact .inl (gen h)
 | _=>cases hy
theorem sE_bi (ok:C.Ok)(hE:SE C d n)(hEs:SEs C d n){e:Expr}{b:Bi}{xs:List Ex}{env:Env}{tbl:List (Str×Nat)}{Γ:Fm}{σ:Sg}{v:V}{σ':Sg}{A:Around}{s:Shared}{φ:List Addr}{E:Value->Shared->Prop}
  (hc:chkE C.N (n+1) env.scope.names tbl Γ.length e (.bi b xs)=true) (he:evE C.gl (callF C.gl C.P d) (.bi b xs) Γ σ = .ok v σ') (hr:Room C.B.fl d A) (R:SR C.B σ φ s.heap) (F:FR C.B tbl env Γ σ φ s.heap) :
  wpAny C.M A (eval e env) (Post C.B s σ φ σ' v) E s:=by
 rw [qcl] at he
 refine bindK he λvs σ₁ h1 he=>?_
 obtain ⟨h2,e2⟩:=qbw he
 subst e2
 replace hc:(match isaOf b with
   | some y=>onCallN e λid es=>on2 es λe ty=>on1 xs λx=>onName ty λty=>eqS id sInst && (eqS ty y.1 && (globOk env.scope.names id && (globOk env.scope.names ty && (notStar e && chkE C.N n env.scope.names tbl Γ.length e x))))
   | none=>onO (biOf b) λy=>onCallN e λid es=>eqS id y.1 && (globOk env.scope.names id && (!es.isEmpty && (es.length≤20 && chkEs C.N n env.scope.names tbl Γ.length es xs))))=true:=hc
 cases hy:isaOf b with
 | some y =>
  rw [hy] at hc
  obtain ⟨y,T⟩:=y
  obtain ⟨k1,k2,k3⟩:=qr9 hy
  replace hc:=qbs hc
  refine x4_2 hc ?_;clear hc;intro id p es p3 er4 hc;subst er4
  replace hc:=on_2 hc
  refine x2_2 hc ?_;clear hc;intro e0 ty0 er2 hc;subst er2
  replace hc:=on_1 hc
  refine x1_2 hc ?_;clear hc;intro x er1 hc;subst er1
  replace hc:=qbq hc
  refine x2_2 hc ?_;clear hc;intro ty p2 er2 hc;subst er2
  have q1:=(both hc).1
  replace hc:=(both hc).2
  have q2:=(both hc).1
  replace hc:=(both hc).2
  have q3:=(both hc).1
  replace hc:=(both hc).2
  have q4:=(both hc).1
  replace hc:=(both hc).2
  have qs:=(both hc).1
  have q7:=(both hc).2
  obtain ⟨q3,q5⟩:=both q3
  obtain ⟨q4,q6⟩:=both q4
  have e1:=qax.mp q1
  have e2:=qax.mp q2
  subst e2
  rw [qap] at h1
  refine bindK h1 λu σ₂ h3 h1=>?_
  cases h1
  refine wpAny_Call_NameR (qb5 (cv:=.builtin "isinstance") R F ok q3 q5 (by rw [e1];simp [bnames,sInst]) (qas (.inl ⟨_,rfl⟩) ?_ ?_))
  ·rw [qar qs];rfl
  ·refine qaw (qar qs _) ?_
   rw [qar qs]
   show wpAny C.M A (spliced ((false,eval e0 env)::(false,eval (.Name ty p2) env)::[])) _ E s
   refine spliced_cons (qag (hE e0 x env tbl Γ σ u _ A s φ E q7 h3 hr R F) λcv φ₁ h₁ tk R₁ S₁ r₁=>?_)
   refine spliced_cons (qb5 (cv:=.type T) R₁ (F.mono0 R S₁) ok q4 q6 k1 (spliced_nil ?_))
   show wpAny C.M A (call (.builtin "isinstance") [cv,.type T]) _ E _
   replace h2:vBi1 σ₁ b u=some v:=h2
   have fin:∀ cv s',Post C.B { s with heap:=h₁,toks:=tk } σ₁ φ₁ σ₁ v cv s'->Post C.B s σ φ σ₁ v cv s':=λcv s' P=>P.trans R.len S₁
   rw [k2]
   rcases isa_or hy h2 with ⟨t,ht,rfl⟩ | ⟨i,xs,rfl,rfl,hi,rfl⟩
   ·exact op_isa ht k3 r₁ (qde R₁ fin)
   ·exact qsz hi R₁ r₁ (qde R₁ fin)
 | none =>
  rw [hy] at hc
  replace hc:=on_o hc
  obtain ⟨y,hb,hc⟩:=hc
  obtain ⟨y,cv⟩:=y
  obtain ⟨k1,k2⟩:=qnb hb
  replace hc:=qbs hc
  refine x4_2 hc ?_;clear hc;intro id p es p' er4 hc;subst er4
  have q1:=(both hc).1
  replace hc:=(both hc).2
  have q2:=(both hc).1
  replace hc:=(both hc).2
  have q4:=(both hc).1
  replace hc:=(both hc).2
  have q5:=(both hc).1
  have q6:=(both hc).2
  obtain ⟨q2,q3⟩:=both q2
  have:=qax.mp q1
  subst this
  cases es with
  | nil=>cases q4
  | cons e0 es =>
   have he0:=qar (env:=env) (qe5 q6) es
   refine wpAny_Call_NameR (qb5 R F ok q2 q3 k1 (qas k2 (qgb q6) ?_))
   refine qaw he0 (wpAny_mono (hEs (e0::es) xs env tbl Γ σ vs σ₁ A s φ E p' q6 h1 hr R F) (λcvs s₁ P=>?_) λ_ _ e=>e)
   refine x3_4 P ?_;clear P;intro φ₁ h₁ tk er3 R₁ S₁ r₁;subst er3
   rw [List.nil_append]
   exact wpAny_mono (qtt (d:=d) hb h2 hr R₁ r₁) (λcv s₂ P=>P.trans R.len S₁) λ_ _ e=>e
end
end Mine.Internal
namespace Mine.Internal
open PySem PyProof.Rows PySem.Calls
section
variable {C:Cx} {d n:Nat}
theorem qle {σ:Sg}{φ:List Addr}{s:Shared}{i:Nat}{xs:List V}{cv:Value}(hi:σ[i]? = some (.lst xs))(R:SR C.B σ φ s.heap)(r:VR C.B σ φ s.heap (.ref i) cv) :
  s.TypeIs cv "list"∧∀ a,cv = .ref a->∃ ob,s.heap.get? a=some ob∧ob.dict=none :=
 qb3 (z:=λcv=>s.TypeIs cv "list"∧∀ a,cv = .ref a->∃ ob,s.heap.get? a=some ob∧ob.dict=none) R hi r λa vs _ ⟨_,e2⟩ _ _=>⟨⟨_,e2,rfl⟩,λb e=>⟨_,Value.ref.inj e ▸ e2,rfl⟩⟩
theorem qws {σ:Sg}{u:V}{k:Unit}(h:liveL σ u=some k):∃ i xs,u = .ref i∧σ[i]? = some (.lst xs) :=
 qj4 (z:=λu=>∃ i xs,u = .ref i∧σ[i]? = some (.lst xs)) h λi h=>qej h λxs hx _=>⟨i,xs,rfl,hx⟩
theorem qwr {α:Type}{σ:Sg}{i:Nat}{f:List V->Option α}{a:α}(h:(match σ[i]? with | some (.lst xs)=>f xs | _=>none)=some a):∃ xs,σ[i]? = some (.lst xs):=qej h λxs hx _=>⟨xs,hx⟩
theorem sE_app (hE:SE C d n){e:Expr}{a b:Ex}{env:Env}{tbl:List (Str×Nat)}{Γ:Fm}{σ:Sg}{v:V}{σ':Sg}{A:Around}{s:Shared}{φ:List Addr}{E:Value->Shared->Prop}
  (hc:chkE C.N (n+1) env.scope.names tbl Γ.length e (.app a b)=true) (he:evE C.gl (callF C.gl C.P d) (.app a b) Γ σ = .ok v σ') (hr:Room C.B.fl d A) (R:SR C.B σ φ s.heap) (F:FR C.B tbl env Γ σ φ s.heap) :
  wpAny C.M A (eval e env) (Post C.B s σ φ σ' v) E s:=by
 replace hc:=qmu (show onMeth e (λo name es=>on1 es λe=>eqS name (oS "append") && (notStar e && (chkE C.N n env.scope.names tbl Γ.length o a && chkE C.N n env.scope.names tbl Γ.length e b)))=true from hc)
 obtain ⟨o,name,apos,es,pos,rfl,q2,q3,hc⟩:=hc
 replace hc:=on_1 hc
 refine x1_2 hc ?_;clear hc;intro e1 er1 hc;subst er1
 have q1:=(both hc).1
 replace hc:=(both hc).2
 have q0:=(both hc).1
 replace hc:=(both hc).2
 have q4:=(both hc).1
 have q5:=(both hc).2
 have:=qax.mp q1
 subst this
 have hst:starEach [e1] env=[(false,eval e1 env)]:=qar q0 []
 rw [qrq] at he
 refine bindK he λu σ₁ h1 he=>?_
 refine bindofK he λ_ h2 he=>?_
 refine bindK he λw σ₂ h3 he=>?_
 obtain ⟨rfl,h4⟩:=qvd he
 refine x2_2 (qws h2) λr xs er2 hx=>?_;subst er2
 refine wpAny_Call_method (T:="list") (id:="list.append") (ql3 q2 _ _) (by rw [hst];rfl) q3 PySem.F.plainAttrs_list PySem.F.slot_list_append PySem.F.type_list_append
  (qag (hE o a env tbl Γ σ _ σ₁ A s φ E q4 h1 hr R F) λcv φ₁ h₁ tk R₁ S₁ r₁=>?_)
 obtain ⟨t1,t2⟩:=qle (s:={ s with heap:=h₁,toks:=tk }) hx R₁ r₁
 refine ⟨t1,t2,?_⟩
 rw [hst]
 refine x1_2 r₁ ?_;clear r₁;intro ad er1 ha;subst er1
 show wpAny C.M A (callWith pos (.builtin "list.append") _ [(false,eval e1 env)] []) _ E _
 refine P.append_list (qag (hE e1 b env tbl Γ σ₁ w σ₂ A _ φ₁ E q5 h3 hr R₁ (F.mono0 R S₁)) λcw φ₂ h₂ tk₂ R₂ S₂ r₂=>?_)
 refine x3_4 (op_app (s:={ s with heap:=h₂,toks:=tk₂ }) h4 R₂ (VR.mono (W:=W0) R₁ S₂ Apart.none (.ref ha)) r₂) λl items k e0 z1 z2 P=>?_
 cases e0
 exact ⟨items,k,z1,z2,P.trans R.len (S₁.trans S₂ R.len)⟩
theorem sE_join (hE:SE C d n){e:Expr}{a b:Ex}{env:Env}{tbl:List (Str×Nat)}{Γ:Fm}{σ:Sg}{v:V}{σ':Sg}{A:Around}{s:Shared}{φ:List Addr}{E:Value->Shared->Prop}
  (hc:chkE C.N (n+1) env.scope.names tbl Γ.length e (.join a b)=true) (he:evE C.gl (callF C.gl C.P d) (.join a b) Γ σ = .ok v σ') (hr:Room C.B.fl d A) (R:SR C.B σ φ s.heap) (F:FR C.B tbl env Γ σ φ s.heap) :
  wpAny C.M A (eval e env) (Post C.B s σ φ σ' v) E s:=by
 replace hc:=qmu (show onMeth e (λo name es=>on1 es λe=>eqS name (oS "join") && (notStar e && (chkE C.N n env.scope.names tbl Γ.length o a && chkE C.N n env.scope.names tbl Γ.length e b)))=true from hc)
 obtain ⟨o,name,apos,es,pos,rfl,q2,q3,hc⟩:=hc
 replace hc:=on_1 hc
 refine x1_2 hc ?_;clear hc;intro e1 er1 hc;subst er1
 have q1:=(both hc).1
 replace hc:=(both hc).2
 have q0:=(both hc).1
 replace hc:=(both hc).2
 have q4:=(both hc).1
 have q5:=(both hc).2
 have:=qax.mp q1
 subst this
 have hst:starEach [e1] env=[(false,eval e1 env)]:=qar q0 []
 rw [qbg] at he
 refine bindK he λu σ₁ h1 he=>?_
 refine bindK he λw σ₂ h3 he=>?_
 obtain ⟨h4,e4⟩:=qbw he
 subst e4
 refine wpAny_Call_method (T:="str") (id:="str.join") (ql3 q2 _ _) (by rw [hst];rfl) q3 PySem.F.plainAttrs_str PySem.F.slot_str_join PySem.F.type_str_join
  (qag (hE o a env tbl Γ σ _ σ₁ A s φ E q4 h1 hr R F) λcv φ₁ h₁ tk R₁ S₁ r₁=>?_)
 cases u with
 | str x =>
  refine x1_2 r₁ ?_;clear r₁;intro t er1 hs;subst er1
  refine ⟨typeIs_str _ _ _,(λa e=>by cases e),?_⟩
  rw [hst]
  show wpAny C.M A (callWith pos (.builtin "str.join") _ [(false,eval e1 env)] []) _ E _
  refine qas (.inl ⟨_,rfl⟩) rfl (evalArgs_plain (spliced_cons (qag (hE e1 b env tbl Γ σ₁ w σ₂ A _ φ₁ E q5 h3 hr R₁ (F.mono0 R S₁)) λcw φ₂ h₂ tk₂ R₂ S₂ r₂=>spliced_nil ?_)))
  refine x2_2 (qwz (prog:=C.B.prog) (w:=C.B.w) (A:=A) (E:=E) (s:={ s with heap:=h₂,toks:=tk₂ }) h4 R₂ (.str x t hs) r₂ (qde R₂ λcv s' P=>P.trans R.len (S₁.trans S₂ R.len))) λ_ _ _ hw=>?_
  exact hw
 | _=>exact qah h4
theorem qut {e:Expr}{nm:Str}{g:Expr->Bool}(hc:onMeth e (λo name es=>nilL es && (eqS name nm && g o))=true):∃ o ap q,e = .Call (.Attribute o nm ap) [] [] q∧baseOk o=true∧(ap.endLine == q.line)=true∧g o=true:=by
 replace hc:=qmu hc
 obtain ⟨o,name,apos,es,pos,rfl,q2,q3,hc⟩:=hc
 have q0:=(both hc).1
 replace hc:=(both hc).2
 have q1:=(both hc).1
 have q4:=(both hc).2
 rw [qcs q0,qax.mp q1]
 exact ⟨o,apos,pos,rfl,q2,q3,q4⟩
theorem sE_pop (hE:SE C d n){e:Expr}{a:Ex}{env:Env}{tbl:List (Str×Nat)}{Γ:Fm}{σ:Sg}{v:V}{σ':Sg}{A:Around}{s:Shared}{φ:List Addr}{E:Value->Shared->Prop}
  (hc:chkE C.N (n+1) env.scope.names tbl Γ.length e (.pop a)=true) (he:evE C.gl (callF C.gl C.P d) (.pop a) Γ σ = .ok v σ') (hr:Room C.B.fl d A) (R:SR C.B σ φ s.heap) (F:FR C.B tbl env Γ σ φ s.heap) :
  wpAny C.M A (eval e env) (Post C.B s σ φ σ' v) E s:=by
 replace hc:=qut (show onMeth e (λo name es=>nilL es && (eqS name (oS "pop") && chkE C.N n env.scope.names tbl Γ.length o a))=true from hc)
 refine x3_4 hc ?_;clear hc;intro o apos pos er3 q2 q3 q4;subst er3
 rw [qrs] at he
 refine bindK he λu σ₁ h1 he=>?_
 have h4:=qpu he
 cases u with
 | ref i =>
  obtain ⟨xs,hi⟩:=qwr h4
  refine wpAny_Call_method (T:="list") (id:="list.pop") (ql3 q2 _ _) rfl q3 PySem.F.plainAttrs_list PySem.F.slot_list_pop PySem.F.type_list_pop
   (qag (hE o a env tbl Γ σ _ σ₁ A s φ E q4 h1 hr R F) λcv φ₁ h₁ tk R₁ S₁ r₁=>?_)
  obtain ⟨t1,t2⟩:=qle (s:={ s with heap:=h₁,toks:=tk }) hi R₁ r₁
  refine ⟨t1,t2,?_⟩
  refine x1_2 (op_pop (prog:=C.B.prog) (w:=C.B.w) (A:=A) (E:=E) (s:={ s with heap:=h₁,toks:=tk }) (pos:=pos) h4 R₁ r₁) λl e0 hw=>?_
  exact wpAny_mono hw (λcv s₂ P=>P.trans R.len S₁) λ_ _ e=>e
 | _=>cases h4
end
end Mine.Internal
namespace Mine.Internal
open PySem PyProof.Rows PySem.Calls
section
variable {C:Cx} {d n:Nat}
theorem sI_succ (ok:C.Ok)(hE:SE C d n):SI C d (n+1):=by
 intro e ik x y env tbl Γ σ a σ₁ b σ₂ items A s φ E hc h1 h2 hv hr R F
 refine hide3 (G:=λe items σ₂=>wpAny C.M A (eval e env) (PostI C.B s σ φ σ₂ items) E s) λP hP=>?_
 cases ik with
 | val =>
  replace hc:=both (show (setOk e && (isNoneX y && chkE C.N n env.scope.names tbl Γ.length e x))=true from hc)
  obtain ⟨q0,hc⟩:=hc
  have q1:=(both hc).1
  replace hc:=(both hc).2
  rw [qfu q1] at h2
  cases h2
  exact hP _ _ _ (qag (hE _ _ env _ Γ σ a _ A s φ E hc h1 hr R F) λcv φ₁ h₁ tk R₁ S₁ r₁=>⟨φ₁,h₁,tk,rfl,R₁,S₁,.val hv r₁⟩)
 | rng1 =>
  replace hc:=qbs (both (show (setOk e && (onCallN e λid es=>on1 es λe=>isNoneX y && (eqS id sRange && (globOk env.scope.names id && (notStar e && chkE C.N n env.scope.names tbl Γ.length e x)))))=true from hc)).2
  refine x4_2 hc ?_;clear hc;intro id p es p' er4 hc;subst er4
  replace hc:=on_1 hc
  refine x1_2 hc ?_;clear hc;intro e1 er1 hc;subst er1
  have qn:=(both hc).1
  replace hc:=(both hc).2
  have q1:=(both hc).1
  replace hc:=(both hc).2
  have q2:=(both hc).1
  replace hc:=(both hc).2
  have q0:=(both hc).1
  have q4:=(both hc).2
  obtain ⟨q2,q3⟩:=both q2
  have e1':=qax.mp q1
  subst e1'
  rw [qfu qn] at h2
  cases h2
  cases a with
  | int k =>
   replace hv:(if small k=true then some (rangeL 0 k) else none)=some items:=hv
   by_cases hs:small k=true
   ·rw [if_pos hs] at hv
    cases hv
    have hst:starEach [e1] env=[(false,eval e1 env)]:=qar q0 []
    refine hP _ _ _ (wpAny_Call_NameR (qb5 (cv:=.type "range") R F ok q2 q3 (by simp [bnames,sRange]) ?_))
    rw [hst]
    refine qas (.inr ⟨_,rfl⟩) rfl (evalArgs_plain (spliced_cons (qag (hE _ _ env _ Γ σ _ _ A s φ E q4 h1 hr R F) λcv φ₁ h₁ tk R₁ S₁ r₁=>spliced_nil ?_)))
    obtain ⟨t,rfl⟩:=r₁
    refine call_range_1 ?_
    exact ⟨φ₁,_,_,rfl,R₁.grow (qaj _ _),S₁.trans (Stp.grow (qaj _ _)) R.len,.rng (by decide) hs (Heap.get?_push_size _ rfl)⟩
   ·rw [if_neg hs] at hv;cases hv
  | _=>cases hv
 | rng2 =>
  replace hc:=qbs (both (show (setOk e && (onCallN e λid es=>on2 es λe f=>eqS id sRange && (globOk env.scope.names id && (notStar e && (notStar f && (chkE C.N n env.scope.names tbl Γ.length e x && chkE C.N n env.scope.names tbl Γ.length f y))))))=true from hc)).2
  refine x4_2 hc ?_;clear hc;intro id p es p' er4 hc;subst er4
  replace hc:=on_2 hc
  refine x2_2 hc ?_;clear hc;intro e1 e2 er2 hc;subst er2
  have q1:=(both hc).1
  replace hc:=(both hc).2
  have q2:=(both hc).1
  replace hc:=(both hc).2
  have q0:=(both hc).1
  replace hc:=(both hc).2
  replace hc:=both hc
  obtain ⟨q0',hc⟩:=hc
  have q4:=(both hc).1
  have q5:=(both hc).2
  obtain ⟨q2,q3⟩:=both q2
  have e1':=qax.mp q1
  subst e1'
  refine x2_3 (qwm hv) λi k er2 er3 hv=>?_;subst er2;subst er3
  obtain ⟨hs,rfl⟩:=of_if hv
  rw [Bool.and_eq_true] at hs
  have hst:starEach [e1,e2] env=[(false,eval e1 env),(false,eval e2 env)]:=by rw [qar q0,qar q0'];rfl
  refine hP _ _ _ (wpAny_Call_NameR (qb5 (cv:=.type "range") R F ok q2 q3 (by simp [bnames,sRange]) ?_))
  rw [hst]
  refine qas (.inr ⟨_,rfl⟩) rfl (evalArgs_plain (spliced_cons (qag (hE _ _ env _ Γ σ _ _ A s φ E q4 h1 hr R F) λcv φ₁ h₁ tk R₁ S₁ r₁=>?_)))
  refine spliced_cons (qag (hE _ _ env _ Γ σ₁ _ _ A _ φ₁ E q5 h2 hr R₁ (F.mono0 R S₁)) λcw φ₂ h₂ tk₂ R₂ S₂ r₂=>spliced_nil ?_)
  obtain ⟨t,rfl⟩:=r₁
  obtain ⟨t',rfl⟩:=r₂
  refine call_range_2 ?_
  exact ⟨φ₂,_,_,rfl,R₂.grow (qaj _ _),(S₁.trans S₂ R.len).trans (Stp.grow (qaj _ _)) R.len,.rng hs.1 hs.2 (Heap.get?_push_size _ rfl)⟩
 | rev =>
  replace hc:=qbs (both (show (setOk e && (onCallN e λid es=>on1 es λe=>isNoneX y && (eqS id sRev && (globOk env.scope.names id && (notStar e && chkE C.N n env.scope.names tbl Γ.length e x)))))=true from hc)).2
  refine x4_2 hc ?_;clear hc;intro id p es p' er4 hc;subst er4
  replace hc:=on_1 hc
  refine x1_2 hc ?_;clear hc;intro e1 er1 hc;subst er1
  have qn:=(both hc).1
  replace hc:=(both hc).2
  have q1:=(both hc).1
  replace hc:=(both hc).2
  have q2:=(both hc).1
  replace hc:=(both hc).2
  have q0:=(both hc).1
  have q4:=(both hc).2
  obtain ⟨q2,q3⟩:=both q2
  have e1':=qax.mp q1
  subst e1'
  rw [qfu qn] at h2
  cases h2
  have hst:starEach [e1] env=[(false,eval e1 env)]:=qar q0 []
  refine hP _ _ _ (wpAny_Call_NameR (qb5 (cv:=.type "reversed") R F ok q2 q3 (by simp [bnames,sRev]) ?_))
  rw [hst]
  refine qas (.inr ⟨_,rfl⟩) rfl (evalArgs_plain (spliced_cons (qag (hE _ _ env _ Γ σ _ _ A s φ E q4 h1 hr R F) λcv φ₁ h₁ tk R₁ S₁ r₁=>spliced_nil ?_)))
  have fresh:s.heap.get? h₁.objs.size=none:=by
   cases e:s.heap.get? h₁.objs.size with
   | none=>rfl
   | some o=>obtain ⟨o',e'⟩:=S₁.ex _ o e;rw [qb6] at e';cases e'
  cases a with
  | lst xs =>
   refine x2_5 r₁ ?_;clear r₁;intro ad vs er2 hl nl rs hn;subst er2
   cases hv
   obtain ⟨k,ho⟩:=id hl
   have ha:ad<h₁.objs.size:=Heap.lt_size ho
   refine call_reversed_list hl.isList ?_
   have hk:=qaj h₁ (revObj ad ((vs.toArray.size:Int) - 1))
   exact ⟨φ₁,_,_,rfl,R₁.grow hk,S₁.trans (Stp.grow hk) R.len,.rev (h:=h₁.push (revObj ad ((vs.toArray.size:Int) - 1))) ⟨k,hk _ _ ho⟩ nl.1 (rs.grow R₁ hk) ⟨_,Heap.get?_push_size _ rfl,rfl,by simp [revObj]⟩ (R₁.fresh_notmem (s:={ s with heap:=h₁,toks:=tk })) (Nat.ne_of_lt ha) fresh⟩
  | tup xs =>
   refine x2_4 r₁ ?_;clear r₁;intro ad vs er2 ht rs hn;subst er2
   cases hv
   obtain ⟨k,ho⟩:=id ht
   have ha:ad<h₁.objs.size:=Heap.lt_size ho
   refine qhc ht.isTup (by rw [List.size_toArray,rs.length];exact room63 hn) λtk'=>?_
   have hk:=qaj h₁ (trevObj ad ((vs.toArray.size:Int) - 1))
   exact ⟨φ₁,_,_,rfl,R₁.grow hk,S₁.trans (Stp.grow hk) R.len,.trev (h:=h₁.push (trevObj ad ((vs.toArray.size:Int) - 1))) ⟨_,hk _ _ ho,rfl,k,rfl⟩ (R₁.notlive_tup ht) (rs.grow R₁ hk) hn ⟨_,Heap.get?_push_size _ rfl,rfl,by simp [trevObj]⟩ (R₁.fresh_notmem (s:={ s with heap:=h₁,toks:=tk })) (Nat.ne_of_lt ha) fresh⟩
  | _=>exact qah hv
end
end Mine.Internal
namespace Mine.Internal
open PySem PyProof.Rows PySem.Calls
noncomputable def Bs.wav (B:Bs)(D:Addr):Bs:={ B with av:=λb=>B.av b∨b=D }
noncomputable def Cx.wav (C:Cx)(D:Addr):Cx:={ C with B:=C.B.wav D }
theorem Cx.Ok.wav {C:Cx}(ok:C.Ok)(D:Addr):(C.wav D).Ok:=⟨ok.g,ok.b,ok.nolimit,ok.bins,ok.glob,ok.fn⟩
section
variable {B:Bs} {σ:Sg} {φ:List Addr} {h h':Heap} {D:Addr}
theorem qng (hD:h.get? D=none)(hk:∀ b o,h.get? b=some o->h'.get? b=some o):Carry B (B.wav D) σ σ φ φ h h' :=
 ⟨λ_ _ ⟨n,e⟩=>⟨n,hk _ _ e⟩,λ_ _ ⟨n,e⟩ nl=>⟨⟨n,hk _ _ e⟩,nl.1,λx=>x.elim nl.2 λq=>qah (hD.symm.trans (q ▸ e))⟩,λ_ _ e=>e⟩
theorem VRs.to (hD:h.get? D=none)(hk:∀ b o,h.get? b=some o->h'.get? b=some o){xs:List V}{vs:List Value}(r:VRs B σ φ h xs vs):VRs (B.wav D) σ φ h' xs vs:=(qng hD hk).vs xs r
theorem VR.to (hD:h.get? D=Option.none)(hk:∀ b o,h.get? b=some o->h'.get? b=some o){x:V}{v:Value}(r:VR B σ φ h x v):VR (B.wav D) σ φ h' x v:=(qng hD hk).v x r
theorem qrb:Carry (B.wav D) B σ σ φ φ h h:=⟨λ_ _ e=>e,λ_ _ e nl=>⟨e,nl.1,λx=>nl.2 (.inl x)⟩,λ_ _ e=>e⟩
theorem VRs.fro {xs:List V}{vs:List Value}(r:VRs (B.wav D) σ φ h xs vs):VRs B σ φ h xs vs:=qrb.vs xs r
theorem qmb {c:Cell}(hl:φ.length=σ.length):Carry (B.wav D) B σ (σ++[c]) φ (φ++[D]) h h :=
 ⟨λ_ _ e=>e,λ_ _ e nl=>⟨e,λL=>(qd8 hl L).elim nl.1 λq=>nl.2 (.inr q),λx=>nl.2 (.inl x)⟩,λ_ _ e=>getElem?_snoc_lt e⟩
theorem VRs.adopt {c:Cell}(hl:φ.length=σ.length){xs:List V}{vs:List Value}(r:VRs (B.wav D) σ φ h xs vs):VRs B (σ++[c]) (φ++[D]) h xs vs:=(qmb hl).vs xs r
theorem DictP.at' {a:Addr}{ks:List (List Int)}(d:DictP B h a ks)(hk:∀ b o,h.get? b=some o->h'.get? b=some o):DictP B h' a ks:=by
 obtain ⟨kvs,⟨o,es,ep,ho,hx,hd,hes,his,hn⟩,e⟩:=d
 refine ⟨kvs,⟨o,es,ep,hk _ o ho,hx,hd,hes,λx hx=>?_,hn⟩,e⟩
 refine x3_4 (his x hx) λo' items n h1 h2 h3 h4=>?_
 exact ⟨o',items,n,hk _ o' h1,h2,h3,h4⟩
theorem SR.to (R:SR B σ φ h)(hD:h.get? D=none)(hk:∀ b o,h.get? b=some o->h'.get? b=some o)(hx:∃ o,h'.get? D=some o):SR (B.wav D) σ φ h':=by
 refine ⟨R.len,R.inj,λa ha=>(let ⟨o,e⟩:=R.ex a ha;⟨o,hk _ _ e⟩),λi xs e=>?_,λi ks e=>?_,λi ks e=>?_,(let ⟨o,e⟩:=R.main;⟨o,hk _ _ e⟩),R.sys,λb o e=>hk _ _ (R.based b o e),R.new,λb hb=>?_,λa ha hv=>?_,λL hL=>let ⟨⟨o,es,n,e,hd⟩,r⟩:=R.fo L hL;⟨⟨o,es,n,hk _ _ e,hd⟩,r⟩⟩
 ·obtain ⟨a,vs,e1,⟨n,e2⟩,e3,e4⟩:=R.lst i xs e
  exact ⟨a,vs,e1,⟨n,hk _ _ e2⟩,e3.to hD hk,e4⟩
 ·refine x1_3 (R.dictI i ks e) λa e1 d e2=>?_
  exact ⟨a,e1,d.mono λo e=>hk _ o e,e2⟩
 ·refine x1_3 (R.dictP i ks e) λa e1 d e2=>?_
  exact ⟨a,e1,d.at' hk,e2⟩
 ·rcases hb with hb | rfl
  ·obtain ⟨o,e⟩:=R.avx b hb;exact ⟨o,hk _ _ e⟩
  ·exact hx
 ·rcases hv with hv | rfl
  ·exact R.avn a ha hv
  ·obtain ⟨o,e⟩:=R.ex _ ha.mem;rw [hD] at e;cases e
theorem SR.fro (R:SR (B.wav D) σ φ h):SR B σ φ h:=by
 refine ⟨R.len,R.inj,R.ex,λi xs e=>?_,R.dictI,R.dictP,R.main,R.sys,R.based,R.new,λb hb=>R.avx b (.inl hb),λa ha hv=>R.avn a ha (.inl hv),R.fo⟩
 refine x2_4 (R.lst i xs e) λa vs e1 e2 e3 e4=>?_
 exact ⟨a,vs,e1,e2,e3.fro,e4⟩
theorem SR.adopt {xs:List V}{vs:List Value}(R:SR (B.wav D) σ φ h)(hp:h.PlainList D vs.toArray)(r:VRs (B.wav D) σ φ h xs vs)(hn:xs.length≤roomy)(hs:(D == sysModules)=false)(hb:B.hb.get? D=none)(hv:¬ B.av D)(hmem:D∉φ) :
  SR B (σ++[.lst xs]) (φ++[D]) h:=by
 obtain ⟨k,ho⟩:=id hp
 refine ⟨by rw [List.length_append,List.length_append,R.len];rfl,?_,λb hb=>?_,λi ys e=>?_,λi ks e=>?_,λi ks e=>?_,R.main,λb hb=>?_,R.based,λb hb=>?_,λb hb=>R.avx b (.inl hb),λb hb hv'=>?_,λL hL=>?_⟩
 ·refine List.nodup_append.mpr ⟨R.inj,(by simp),λx hx y hy e=>?_⟩
  rw [List.mem_singleton.mp hy] at e
  exact hmem (e ▸ hx)
 ·rcases List.mem_append.mp hb with hb | hb
  ·exact R.ex b hb
  ·rw [List.mem_singleton.mp hb];exact ⟨_,ho⟩
 ·rcases getElem?_snoc e with e | ⟨rfl,e'⟩
  ·refine x2_4 (R.lst i ys e) λa ws e1 e2 e3 e4=>?_
   exact ⟨a,ws,getElem?_snoc_lt e1,e2,e3.adopt R.len,e4⟩
  ·cases e'
   exact ⟨D,vs,(by rw [← R.len];simp),hp,r.adopt R.len,hn⟩
 ·rcases getElem?_snoc e with e | ⟨rfl,e'⟩
  ·refine x1_3 (R.dictI i ks e) λa e1 d e2=>?_
   exact ⟨a,getElem?_snoc_lt e1,d,e2⟩
  ·cases e'
 ·rcases getElem?_snoc e with e | ⟨rfl,e'⟩
  ·refine x1_3 (R.dictP i ks e) λa e1 d e2=>?_
   exact ⟨a,getElem?_snoc_lt e1,d,e2⟩
  ·cases e'
 ·rcases List.mem_append.mp hb with hb | hb
  ·exact R.sys b hb
  ·rw [List.mem_singleton.mp hb];exact hs
 ·rename_i hb'
  rcases List.mem_append.mp hb with hb | hb
  ·exact R.new b hb
  ·rw [List.mem_singleton.mp hb];exact hb'
 ·rcases qd8 R.len hb with hb | hb
  ·exact R.avn b hb (.inl hv')
  ·rw [hb] at hv';exact hv hv'
 ·obtain ⟨⟨o,es,n,e,hd⟩,nl,hb⟩:=R.fo L hL
  refine ⟨⟨o,es,n,e,hd⟩,λx=>?_,hb⟩
  rcases qd8 R.len x with x | x
  ·exact nl x
  ·rw [x,ho] at e;cases e;cases hd
theorem FR.to {tbl:List (Str×Nat)}{env:Env}{Γ:Fm}(F:FR B tbl env Γ σ φ h)(hD:h.get? D=none)(hk:∀ b o,h.get? b=some o->h'.get? b=some o):FR (B.wav D) tbl env Γ σ φ h':=by
 obtain ⟨m,⟨o,es,ep,ho,hd,hk',hf⟩,hv⟩:=F.ns
 refine ⟨F.kind,F.gl,F.bi,⟨m,⟨o,es,ep,hk _ _ ho,hd,hk',hf⟩,λx i v e1 e2 e3=>?_⟩,λx i v e1 e2 e3=>?_,F.nl,λx c hx=>?_,F.newL,F.newC,F.has⟩
 ·refine x1_2 (hv x i v e1 e2 e3) λcv e4 e5=>?_
  exact ⟨cv,e4,e5.to hD hk⟩
 ·obtain ⟨c,cv,e4,⟨o,e5,e6⟩,e7⟩:=F.cell x i v e1 e2 e3
  exact ⟨c,cv,e4,⟨o,hk _ _ e5,e6⟩,e7.to hD hk⟩
 ·refine x2_2 (F.cells x c hx) λv o e1 e2=>?_
  exact ⟨v,o,hk _ _ e1,e2⟩
theorem SR.one {b0:Addr}(R:SR B σ φ h)(hb0:B.hb.get? b0=none∧b0∉B.fad)(ha:Apart B (· = b0) h)(nl:¬ live σ φ b0)(hk:∀ b o,b≠b0->h.get? b=some o->h'.get? b=some o)(hx:∃ o,h'.get? b0=some o) :
  SR B σ φ h'∧Stp (· = b0) σ φ h σ φ h':=by
 have S:Stp (· = b0) σ φ h σ φ h':=⟨λ_ _ e=>e,λi a hi e=>(by rw [List.getElem?_eq_none hi] at e;cases e),λ_ e=>e,λb o e _ hW=>.inl (hk b o hW e),λb o e=>by
  by_cases q:b=b0
  ·rw [q];exact hx
  ·exact ⟨o,hk b o q e⟩⟩
 exact ⟨R.carry S ha (λa o L e=>hk a o (λq=>nl (q ▸ L)) e) (λb o e g=>hk b o (λq=>by rw [q,hb0.1] at e;cases e) g) λL hL q=>(hb0.2 (show b0∈B.fad from (show L=b0 from q) ▸ hL)).elim,S⟩
theorem Stp.drop {W:Addr->Prop}{σ₁:Sg}{φ₁:List Addr}{h₁:Heap}(S:Stp W σ φ h σ₁ φ₁ h₁)(hw:∀ b,W b->h.get? b=none):Stp W0 σ φ h σ₁ φ₁ h₁ :=
 ⟨S.pre,S.new,S.dead,λb o e hl _=>S.keep b o e hl λx=>(by rw [hw b x] at e;cases e),S.ex⟩
theorem Apart.ns {K:Addr}{m:Str->Option Value}(hn:h.Ns K m):Apart B (· = K) h:=by
 rintro b rfl o ho
 refine x3_3 (hn) λo' es ep ho' hd _=>?_
 rw [ho] at ho';cases ho'
 exact .inr λxs n e=>(by rw [hd] at e;cases e)
end
noncomputable def clos (cells:List (Str×Addr)):List (Str×NameKind)->List (Str×Addr)->List (Str×Addr)
 | [],cs=>cs
 | (y,k)::r,cs=>clos cells r (if k == .free then (y,(cells.lookup y).getD 0)::cs else cs)
theorem qgq {cells cs:List (Str×Addr)}{y:Str}{k:NameKind}{r:List (Str×NameKind)}:clos cells ((y,k)::r) cs=clos cells r (if k == .free then (y,(cells.lookup y).getD 0)::cs else cs):=rfl
theorem qwc {env:Env}{scope:Scope}(h:∀ x∈scope.names,x.2 = .free->(env.cells.lookup x.1).isSome=true):closureFor scope env=pure (clos env.cells scope.names []):=by
 simp only [closureFor]
 have go:∀ (l:List (Str×NameKind)) (cs:List (Str×Addr)),(∀ x∈l,x.2 = .free->(env.cells.lookup x.1).isSome=true) ->
   (forIn l cs λx cs=>if (x.2 == NameKind.free)=true then do let a ← cellOf env x.1;pure (ForInStep.yield ((x.1,a)::cs)) else pure (ForInStep.yield cs):Sem (List (Str×Addr)))=pure (clos env.cells l cs):=by
  intro l
  induction l with
  | nil=>intro cs _;rfl
  | cons x l ih =>
   intro cs hl
   obtain ⟨y,k⟩:=x
   rw [List.forIn_cons,qgq]
   cases hk:k == NameKind.free with
   | false=>simp only [Bool.false_eq_true,if_false,pure_bind];exact ih _ λz hz=>hl z (List.mem_cons_of_mem _ hz)
   | true =>
    obtain ⟨c,hc⟩:=Option.isSome_iff_exists.mp (hl (y,k) List.mem_cons_self (by simpa using hk))
    have e:cellOf env y=pure c:=by unfold cellOf;rw [hc]
    simp only [if_true,e,pure_bind,hc,Option.getD_some]
    exact ih _ λz hz=>hl z (List.mem_cons_of_mem _ hz)
 have:=go scope.names [] h
 first
  | exact this
  | (rw [← this];rfl)
  | simpa using this
theorem qn6 {cells:List (Str×Addr)}{y:Str}{c:Addr}:∀ {l:List (Str×NameKind)} {cs:List (Str×Addr)},(∀ x∈l,x.2 = .free->(cells.lookup x.1).isSome=true)->(y,c)∈clos cells l cs->(y,c)∈cs∨cells.lookup y=some c
 | [],cs,_,h=>.inl h
 | (z,k)::r,cs,hl,h=>by
  rw [qgq] at h
  rcases qn6 (λx hx=>hl x (List.mem_cons_of_mem _ hx)) h with h | h
  ·cases hk:k == NameKind.free with
   | false=>rw [hk] at h;exact .inl h
   | true =>
    rw [hk] at h
    simp only [if_true] at h
    rcases List.mem_cons.mp h with h | h
    ·cases h
     obtain ⟨c,hc⟩:=Option.isSome_iff_exists.mp (hl (y,k) List.mem_cons_self (by simpa using hk))
     rw [hc];exact .inr rfl
    ·exact .inl h
  ·exact .inr h
theorem qnw {cells:List (Str×Addr)}{y:Str}:∀ {l:List (Str×NameKind)} {cs:List (Str×Addr)},((y,NameKind.free)∈l∨∃ c,(y,c)∈cs)->∃ c,(y,c)∈clos cells l cs
 | [],cs,h=>by
  rcases h with h | h
  ·cases h
  ·exact h
 | (z,k)::r,cs,h=>by
  rw [qgq]
  refine qnw ?_
  rcases h with h | ⟨c,h⟩
  ·rcases List.mem_cons.mp h with h | h
   ·cases h;exact .inr ⟨_,List.mem_cons_self⟩
   ·exact .inl h
  ·right
   cases k == NameKind.free with
   | false=>exact ⟨c,h⟩
   | true=>exact ⟨c,List.mem_cons_of_mem _ h⟩
theorem qfx {α:Type}{y:Str}{c:α}:∀ {l:List (Str×α)},(y,c)∈l->∃ c',l.lookup y=some c'
 | [],h=>by cases h
 | (z,k)::r,h=>by
  rw [List.lookup_cons]
  cases hz:y == z with
  | true=>exact ⟨_,rfl⟩
  | false =>
   rcases List.mem_cons.mp h with h | h
   ·cases h;simp at hz
   ·exact qfx h
end Mine.Internal
namespace Mine.Internal
open PySem PyProof.Rows PySem.Calls
theorem qfn {α:Type}{p:α->Bool}{l:List α}(h:l.all p=true){x:α}(hx:x∈l):p x=true:=List.all_eq_true.mp h x hx
structure ScOk (sc:List (Str×NameKind)) (tbl:List (Str×Nat)) (nl:Nat) (csc:List (Str×NameKind)) (cx:Str):Prop where
 loc:csc.lookup cx=some .local
 low:∀ y i,tbl.lookup y=some i->i<nl
 nocell:∀ y∈csc,y.2≠.cell
 locs:∀ y∈csc,y.2 = .local->csc.lookup y.1=some .local∧(y.1=cx∨tbl.lookup y.1=none)
 free:∀ y∈csc,y.2 = .free->sc.lookup y.1=some .cell
theorem ScOk.of {sc:List (Str×NameKind)}{tbl:List (Str×Nat)}{nl:Nat}{csc:List (Str×NameKind)}{cx:Str}(h:scopeOk sc tbl nl csc cx=true):ScOk sc tbl nl csc cx:=by
 unfold scopeOk at h
 rw [Bool.and_eq_true,Bool.and_eq_true,qdl] at h
 obtain ⟨⟨h1,h2⟩,h3⟩:=h
 refine ⟨qep h1,λy i e=>by simpa using qfn h2 (mem_of_lookup e),λy hy hk=>?_,λy hy hk=>?_,λy hy hk=>?_⟩
 ·have:=qfn h3 hy
  rw [hk] at this;cases this
 ·have:=qfn h3 hy
  rw [hk] at this
  simp only [Bool.and_eq_true,Bool.or_eq_true,qdl] at this
  exact ⟨qep this.1,this.2.elim (λq=>.inl (qax.mp q)) λq=>.inr (by simpa using q)⟩
 ·have:=qfn h3 hy
  rw [hk] at this
  simp only [qdl] at this
  exact qjq this
theorem qhz {env:Env}{scope:Scope}(hk:env.scope.kind = .function)(hf:∀ y∈scope.names,y.2 = .free->env.scope.names.lookup y.1=some .cell):(relabel scope env).names=relab scope.names:=by
 unfold relabel relab
 refine List.map_congr_left λy hy=>?_
 obtain ⟨n,k⟩:=y
 cases k <;> try rfl
 have e:env.kindOf n=some .cell:=hf _ hy rfl
 simp [hk,e,isFree]
theorem qsj {csc:List (Str×NameKind)}{y:Str}{k:NameKind}(h:(y,k)∈relab csc):(k = .cell∧(y,NameKind.free)∈csc)∨((y,k)∈csc∧k≠.free):=by
 unfold relab at h
 refine x1_2 (List.mem_map.mp h) λz hz e=>?_
 obtain ⟨n,k'⟩:=z
 cases k' <;> simp [isFree] at e <;> obtain ⟨rfl,rfl⟩:=e
 all_goals first
  | exact .inl ⟨rfl,hz⟩
  | exact .inr ⟨hz,by intro x;cases x⟩
theorem qry {Γ:Fm}{x v:V}(h:getV (Γ++[x]) Γ.length=some v):v=x:=by
 have g:=qfb h
 rw [List.getElem?_concat_length] at g
 exact (Option.some.inj g).symm
theorem qk6 {Γ:Fm}{x v:V}{i:Nat}(hi:i<Γ.length)(h:getV (Γ++[x]) i=some v):getV Γ i=some v:=by
 exact (qhs (List.getElem?_append_left hi)).symm.trans h
section
variable {B:Bs} {σ:Sg} {φ:List Addr} {h:Heap} {tbl:List (Str×Nat)} {env:Env} {Γ:Fm} {scope:Scope} {K:Addr} {m:Str->Option Value} {cx:Str} {x:V} {cv:Value}
theorem FR.comp (F:FR B tbl env Γ σ φ h)(O:ScOk env.scope.names tbl Γ.length scope.names cx)(hk:scope.kind = .function)(hn:h.Ns K m)(hm:m cx=some cv)(r:VR B σ φ h x cv)(nl:¬ live σ φ K)(hb:B.hb.get? K=none) :
  FR B ((cx,Γ.length)::tbl) (compEnvC scope (clos env.cells scope.names []) K env) (Γ++[x]) σ φ h:=by
 have hfree:∀ y∈scope.names,y.2 = .free->(env.cells.lookup y.1).isSome=true:=λy hy e=>F.has y.1 (O.free y hy e)
 have hnm:(relabel scope env).names=relab scope.names:=qhz F.kind O.free
 have hcl:∀ y c,(y,c)∈clos env.cells scope.names []->env.cells.lookup y=some c:=λy c hc=>(qn6 hfree hc).elim (λx=>by cases x) id
 have hlk:∀ y,(y,NameKind.free)∈scope.names->(clos env.cells scope.names []).lookup y=env.cells.lookup y:=λy hy=>by
  obtain ⟨c,hc⟩:=qnw (cells:=env.cells) (l:=scope.names) (cs:=[]) (.inl hy)
  obtain ⟨c',hc'⟩:=qfx hc
  rw [hc',hcl y c' (mem_of_lookup hc')]
 have kind:∀ y k,(compEnvC scope (clos env.cells scope.names []) K env).kindOf y=some k->(k = .cell∧(y,NameKind.free)∈scope.names)∨((y,k)∈scope.names∧k≠.free):=by
  intro y k e
  have e:(relabel scope env).names.lookup y=some k:=e
  rw [hnm] at e
  exact qsj (mem_of_lookup e)
 have cellF:∀ y,(compEnvC scope (clos env.cells scope.names []) K env).kindOf y=some .cell->(y,NameKind.free)∈scope.names:=λy e=>by
  rcases kind y _ e with ⟨_,h⟩ | ⟨h,_⟩
  ·exact h
  ·exact (O.nocell _ h rfl).elim
 have tl:∀ y i,y≠cx->((cx,Γ.length)::tbl).lookup y=some i->tbl.lookup y=some i:=λy i hy e=>by
  rw [List.lookup_cons] at e
  have:(y == cx)=false:=by simpa using hy
  rw [this] at e;exact e
 refine ⟨hk,F.gl,F.bi,⟨m,hn,λy i v e1 e2 e3=>?_⟩,λy i v e1 e2 e3=>?_,nl,λy c hc=>?_,hb,λy c hc=>?_,λy e=>?_⟩
 ·by_cases hy:y=cx
  ·subst hy
   rw [List.lookup_cons] at e1
   simp at e1
   subst e1
   rw [qry e2]
   exact ⟨cv,hm,r⟩
  ·rcases kind y _ e3 with ⟨h,_⟩ | ⟨h,_⟩
   ·cases h
   ·rcases (O.locs _ h rfl).2 with q | q
    ·exact (hy q).elim
    ·rw [tl y i hy e1] at q;cases q
 ·have hfr:(y,NameKind.free)∈scope.names:=by
   rcases e3 with e3 | e3
   ·exact cellF y e3
   ·rcases kind y _ e3 with ⟨h,_⟩ | ⟨_,h⟩
    ·cases h
    ·exact (h rfl).elim
  have hy:y≠cx:=λq=>by
   subst q
   have h1:=F.kind
   rcases e3 with e3 | e3 <;> (have e3:(relabel scope env).names.lookup y=some _:=e3) <;> (have:=lookup_relabel_local (env:=env) O.loc) <;> (rw [show (relabel scope env).names.lookup y=some .local from this] at e3) <;> cases e3
  have e1':=tl y i hy e1
  refine x2_3 (F.cell y i v e1' (qk6 (O.low y i e1') e2) (.inl (O.free _ hfr rfl))) λc cu k1 k2 k3=>?_
  exact ⟨c,cu,(hlk y hfr).trans k1,k2,k3⟩
 ·exact F.cells y c (mem_of_lookup (hcl y c hc))
 ·exact F.newC y c (mem_of_lookup (hcl y c hc))
 ·show ((clos env.cells scope.names []).lookup y).isSome=true
  rw [hlk y (cellF y e)]
  exact F.has y (O.free _ (cellF y e) rfl)
end
noncomputable def SF (C:Cx)(d n:Nat):Prop:=∀ (ifs:List Expr) (x:Option Ex) (env:Env) (tbl:List (Str×Nat)) (Γ:Fm) (σ:Sg) (t:Bool) (σ':Sg) (A:Around) (s:Shared) (φ:List Addr) (E:Value->Shared->Prop),
 chkIf C.N n env.scope.names tbl Γ.length ifs x=true->evT C.gl (callF C.gl C.P d) x Γ σ = .ok t σ'->Room C.B.fl d A->SR C.B σ φ s.heap->FR C.B tbl env Γ σ φ s.heap ->
 wpAny C.M A (forIn ifs true λc r=>if r=true then do let ok ← isTrue c env (eval c env);pure (ForInStep.yield ok) else pure (ForInStep.yield r)) (λb s'=>b=t∧PostU C.B s σ φ σ' s') E s
theorem sF_succ {C:Cx}{d n:Nat}(hT:ST C d n):SF C d (n+1):=by
 intro ifs x env tbl Γ σ t σ' A s φ E hc he hr R F
 cases x with
 | none =>
  rw [qcs (show nilL ifs=true from hc)]
  cases he
  exact wpAny_pure ⟨rfl,φ,s.heap,s.toks,rfl,R,.refl⟩
 | some x =>
  replace hc:=on_1 (show on1 ifs (λe=>tstOk e x && chkE C.N n env.scope.names tbl Γ.length e x)=true from hc)
  refine x1_2 hc ?_;clear hc;intro e er1 hc;subst er1
  have hts:=(both hc).1
  replace hc:=(both hc).2
  rw [qjj] at he
  refine bindK he λv σ₁ h1 he=>?_
  obtain ⟨h2,e2⟩:=qbw he
  subst e2
  rw [List.forIn_cons]
  simp only [if_true]
  refine wpAny_bind (wpAny_bind (wpAny_mono (hT e x env tbl Γ σ v t _ A s φ E hts hc h1 h2 hr R F) (λb s' hb=>wpAny_pure (wpAny_pure hb)) λ_ _ e=>e))
theorem qfs {test:Fm->Sg->Res Bool}{elt:Fm->Sg->Res V}{Γ:Fm}:∀ {items acc:List V} {σ:Sg} {vs:List V} {σ':Sg},compGo test elt Γ items acc σ = .ok vs σ'->acc.length≤vs.length
 | [],acc,σ,vs,σ',h=>by cases h;exact Nat.le_refl _
 | x::r,acc,σ,vs,σ',h=>by
  rw [qdb] at h
  refine bindK h λb σ₁ h1 h=>?_
  cases b with
  | false=>exact qfs h
  | true =>
   rw [if_pos rfl] at h
   refine bindK h λv σ₂ h2 h=>?_
   have:=qfs h
   rw [List.length_append] at this
   exact Nat.le_trans (Nat.le_add_right _ _) this
end Mine.Internal
namespace Mine.Internal
open PySem PyProof.Rows PySem.Calls
section
variable {C:Cx} {d n:Nat} {A:Around} {tbl:List (Str×Nat)} {env:Env} {Γ:Fm} {scope:Scope} {cx:Str}
inductive CoInv (C:Cx) (d:Nat) (elt:Ex) (cond:Option Ex) (Γ:Fm) (items:List V) (I K D:Addr) (N:Nat) (St:Nat->Heap->Prop) (s:Shared) (σ₁:Sg) (φ₁:List Addr) (vs:List V) (σ':Sg) (k:Nat):Shared->Prop
 | mk (H:Heap) (tk:Nat) (σk:Sg) (φk:List Addr) (acc:List V) (ys:List Value) (m':Str->Option Value) (j:Nat):SR C.B σk φk H->Stp (λb=>b=I∨b=K∨b=D) σ₁ φ₁ s.heap σk φk H->St j H->H.PlainList D (List.toArray ys)->H.Ns K m' ->
  VRs C.B σk φk H acc ys->compGo (evT C.gl (callF C.gl C.P d) cond) (evE C.gl (callF C.gl C.P d) elt) Γ (items.drop j) acc σk = .ok vs σ'->j≤N->k=N+1 - j->CoInv C d elt cond Γ items I K D N St s σ₁ φ₁ vs σ' k { s with heap:=H,toks:=tk }
noncomputable def SEx (C:Cx)(d n:Nat)(A:Around)(e:Expr)(x:Ex):Prop:=∀ (env:Env) (tbl:List (Str×Nat)) (Γ:Fm) (σ:Sg) (v:V) (σ':Sg) (s:Shared) (φ:List Addr) (E:Value->Shared->Prop),
 chkE C.N n env.scope.names tbl Γ.length e x=true->evE C.gl (callF C.gl C.P d) x Γ σ = .ok v σ'->SR C.B σ φ s.heap->FR C.B tbl env Γ σ φ s.heap->wpAny C.M A (eval e env) (Post C.B s σ φ σ' v) E s
noncomputable def SFx (C:Cx)(d n:Nat)(A:Around)(ifs:List Expr)(x:Option Ex):Prop:=∀ (env:Env) (tbl:List (Str×Nat)) (Γ:Fm) (σ:Sg) (t:Bool) (σ':Sg) (s:Shared) (φ:List Addr) (E:Value->Shared->Prop),
 chkIf C.N n env.scope.names tbl Γ.length ifs x=true->evT C.gl (callF C.gl C.P d) x Γ σ = .ok t σ'->SR C.B σ φ s.heap->FR C.B tbl env Γ σ φ s.heap ->
 wpAny C.M A (forIn ifs true λc r=>if r=true then do let ok ← isTrue c env (eval c env);pure (ForInStep.yield ok) else pure (ForInStep.yield r)) (λb s'=>b=t∧PostU C.B s σ φ σ' s') E s
theorem SE.x {e:Expr}{x:Ex}(h:SE C d n)(hr:Room C.B.fl d A):SEx C d n A e x:=λenv tbl Γ σ v σ' s φ E hc he R F=>h e x env tbl Γ σ v σ' A s φ E hc he hr R F
theorem SF.x {e:List Expr}{x:Option Ex}(h:SF C d n)(hr:Room C.B.fl d A):SFx C d n A e x:=λenv tbl Γ σ v σ' s φ E hc he R F=>h e x env tbl Γ σ v σ' A s φ E hc he hr R F
theorem qrg {ee iter:Expr}{ifs:List Expr}{elt:Ex}{cond:Option Ex}(hE:SEx C d n A ee elt)(hF:SFx C d n A ifs cond){px pos:Pos}{RR:Result->Shared->Prop}{s:Shared}{σ₁:Sg}{φ₁:List Addr}
  {items:List V} {I K D:Addr} {fp wr:List Addr} {N:Nat} {P:Nat->Value->Prop} {St:Nat->Heap->Prop} {vs:List V} {σ':Sg} {m:Str->Option Value}
  (O:ScOk env.scope.names tbl Γ.length scope.names cx) (hk:scope.kind = .function) (F:FR C.B tbl env Γ σ₁ φ₁ s.heap) (R:SR C.B σ₁ φ₁ s.heap) (It:Iter C.B A σ₁ φ₁ s.heap items I fp wr N P St)
  (c1:chkE C.N n (relab scope.names) ((cx,Γ.length)::tbl) (Γ.length+1) ee elt=true) (c2:chkIf C.N n (relab scope.names) ((cx,Γ.length)::tbl) (Γ.length+1) ifs cond=true)
  (hgo:compGo (evT C.gl (callF C.gl C.P d) cond) (evE C.gl (callF C.gl C.P d) elt) Γ items [] σ₁ = .ok vs σ') (hlen:vs.length≤roomy)
  (hav:C.B.av D) (hD:s.heap.PlainList D #[]) (hK:s.heap.Ns K m) (hbI:C.B.hb.get? I=none∧I∉C.B.fad) (hbK:C.B.hb.get? K=none∧K∉C.B.fad) (hbD:C.B.hb.get? D=none∧D∉C.B.fad)
  (hDK:D≠K) (hDf:D∉fp) (hKf:K∉fp) (hDI:D≠I) (hKI:K≠I) (hown:∀ b,own env b->b≠I∧b≠K∧b≠D) (hIm:I≠mainGlobals) (hIv:¬ C.B.av I) {hB:Heap} {σB:Sg} {φB:List Addr} (hlB:φB.length=σB.length) (SB:Stp W0 σB φB hB σ₁ φ₁ s.heap) (hBn:∀ b,(b=I∨b=K∨b=D)->hB.get? b=none) (nK:K∉φ₁) (nD:D∉φ₁)
  (hRR:∀ H tk φ' ys m',SR C.B σ' φ' H->Stp W0 σB φB hB σ' φ' H->K∉φ'->D∉φ'->H.PlainList D (List.toArray ys)->H.Ns K m'->VRs C.B σ' φ' H vs ys->RR (.ok .next) { s with heap:=H,toks:=tk }) :
  codeAny C.M A (.compLoop (.ListComp ee [⟨.Name cx px,iter,ifs,0⟩] scope pos) 0 (.ref I) (.ref D) (compEnvC scope (clos env.cells scope.names []) K env)) RR s:=by
 have hnm:(compEnvC scope (clos env.cells scope.names []) K env).scope.names=relab scope.names:=qhz F.kind O.free
 obtain ⟨W,eN,st0,hwr,hfix,hself,hnlf,hnI,hval⟩:=It
 have nlI:¬ live σ₁ φ₁ I:=λL=>hnI L.mem
 have nlK:¬ live σ₁ φ₁ K:=λL=>nK L.mem
 have nlD:¬ live σ₁ φ₁ D:=λL=>nD L.mem
 refine codeAny_compLoop_tests (CoInv C d elt cond Γ items I K D N St s σ₁ φ₁ vs σ') ?_ (N+1) (.mk s.heap s.toks σ₁ φ₁ [] [] m 0 R .refl st0 hD hK .nil hgo (Nat.zero_le _) rfl)
 intro k s' J
 cases J with
 | mk H tk σk φk acc ys m' j Rk Sk stk hDk hKk rk hgk hj hkj =>
 subst hkj
 have apart0:Apart C.B (λb=>b=I∨b=K∨b=D) s.heap:=by
  rintro b (rfl | rfl | rfl) o ho
  ·obtain ⟨o',e1,⟨fs,e2⟩,T,e3⟩:=hself 0 _ st0
   rw [ho] at e1;cases e1
   exact .inr λxs n e=>(by rw [e2] at e;cases e)
  ·exact Apart.ns hK b rfl o ho
  ·obtain ⟨k,e⟩:=hD
   rw [ho] at e;cases e
   exact .inl ⟨hav,rfl⟩
 have notlive:∀ {σx:Sg} {φx:List Addr} {hx:Heap},Stp (λb=>b=I∨b=K∨b=D) σ₁ φ₁ s.heap σx φx hx->∀ b o,s.heap.get? b=some o->¬ live σ₁ φ₁ b->¬ live σx φx b:=by
  intro σx φx hx S b o e nl L
  rcases S.live R.len L with x | x
  ·exact nl x
  ·rw [e] at x;cases x
 have exK:∃ o,s.heap.get? K=some o:=by obtain ⟨o,_,_,e,_⟩:=hK;exact ⟨o,e⟩
 have exD:∃ o,s.heap.get? D=some o:=by obtain ⟨k,e⟩:=hD;exact ⟨_,e⟩
 have exI:∃ o,s.heap.get? I=some o:=by obtain ⟨o,e,_⟩:=hself 0 _ st0;exact ⟨_,e⟩
 have stI:∀ {h₁:Heap} {tk₁:Nat},(∀ b o,b∉wr->H.get? b=some o->h₁.get? b=some o)->(∃ o,h₁.get? I=some o)->SR C.B σk φk h₁∧Stp (· = I) σk φk H σk φk h₁:=by
  intro h₁ tk₁ hk₁ hx
  refine Rk.one hbI ?_ (let ⟨o,e⟩:=exI;notlive Sk I o e nlI) (λb o hb e=>hk₁ b o (λhw=>hb (hwr b hw)) e) hx
  rintro b rfl o ho
  obtain ⟨o',e1,⟨fs,e2⟩,T,e3⟩:=hself j _ stk
  rw [ho] at e1;cases e1
  exact .inr λxs n e=>(by rw [e2] at e;cases e)
 have apI:Apart C.B (· = I) H:=by
  rintro b rfl o ho
  obtain ⟨o',e1,⟨fs,e2⟩,T,e3⟩:=hself j _ stk
  rw [ho] at e1;cases e1
  exact .inr λxs n e=>(by rw [e2] at e;cases e)
 have hKw:K∉wr:=λh=>hKI (hwr K h)
 have hDw:D∉wr:=λh=>hDI (hwr D h)
 by_cases hlt:j<N
 ·refine W.item j _ _ _ hlt stk λv h₁ tk₁ hPv hst₁ hk₁=>?_
  refine x1_2 (hval j v hPv) λx ex rx=>?_
  obtain ⟨R₁,S₁⟩:=stI (tk₁:=tk₁) hk₁ (let ⟨o,e,_⟩:=hself (j+1) _ hst₁;⟨o,e⟩)
  have hK₁:h₁.Ns K m':=hKk.at' λo e=>hk₁ _ o hKw e
  refine wpAny_assign_Name (wpAny_storeName_local (lookup_relabel_local O.loc) hK₁ (λh₂ hn₂ hs₂=>?_) (by simp [compEnvC,relabel,hk]))
  have hn₂:h₂.Ns K _:=hn₂
  have hs₂:Heap.SameBut K h₁ h₂:=hs₂
  have nlKk:¬ live σk φk K:=let ⟨o,e⟩:=exK;notlive Sk K o e nlK
  have nlDk:¬ live σk φk D:=let ⟨o,e⟩:=exD;notlive Sk D o e nlD
  obtain ⟨R₂,S₂⟩:=R₁.one hbK (Apart.ns hK₁) nlKk (λb o hb e=>hs₂.extBut b o hb e) (let ⟨o,_,_,e,_⟩:=hn₂;⟨o,e⟩)
  have T₁:Stp (λb=>b=I∨b=K∨b=D) σ₁ φ₁ s.heap σk φk h₁:=Sk.trans (S₁.weaken λb hb=>.inl hb) R.len
  have T₂:Stp (λb=>b=I∨b=K∨b=D) σ₁ φ₁ s.heap σk φk h₂:=T₁.trans (S₂.weaken λb hb=>.inr (.inl hb)) R.len
  have F₂:FR C.B tbl env Γ σk φk h₂:=F.mono R T₂ apart0 (λhb=>by
   refine x0_3 (hown env.locals (.inl rfl)) λa b c=>?_
   rcases hb with hb | hb | hb
   ·exact a hb
   ·exact b hb
   ·exact c hb) λy c hc hb=>by
   refine x0_3 (hown c (.inr ⟨y,hc⟩)) λa b c=>?_
   rcases hb with hb | hb | hb
   ·exact a hb
   ·exact b hb
   ·exact c hb
  have rx₂:VR C.B σk φk h₂ x v:=rx.mono R T₂ apart0
  have FC₂:=F₂.comp O hk hn₂ (by simp) rx₂ nlKk hbK.1
  have st₂:St (j+1) h₂:=W.frame _ _ _ hst₁ λb hb o e=>hs₂.extBut b o (λq=>hKf (q ▸ hb)) e
  have rk₁:=rk.mono Rk S₁ apI
  have rk₂:=rk₁.mono R₁ S₂ (Apart.ns hK₁)
  have hdrop:items.drop j=x::items.drop (j+1):=by
   have hjl:j<items.length:=by rw [← eN];exact hlt
   rw [List.drop_eq_getElem_cons hjl]
   rw [List.getElem?_eq_getElem hjl] at ex
   rw [Option.some.inj ex]
  rw [hdrop] at hgk
  rw [qdb] at hgk
  refine bindK hgk λt σ₃ g1 hgk=>?_
  refine wpAny_mono (hF _ _ (Γ++[x]) σk t σ₃ _ φk _ (by rw [hnm,List.length_append];exact c2) g1 R₂ FC₂) (λok s₃ h₃=>?_) λ_ _ e=>e
  obtain ⟨rfl,φ₃,h₃,tk₃,rfl,R₃,S₃⟩:=h₃
  have T₃:Stp (λb=>b=I∨b=K∨b=D) σ₁ φ₁ s.heap σ₃ φ₃ h₃:=T₂.trans (S₃.weaken λ_ hb=>hb.elim) R.len
  have st₃:St (j+1) h₃:=W.frame _ _ _ st₂ λb hb o e=>(S₃.keep b o e (let ⟨o',e',_⟩:=hfix 0 _ st0 b hb;notlive T₂ b o' e' (hnlf b hb)) λx=>x).at ((hfix _ _ st₂ b hb).nd e)
  have hD₂:h₂.PlainList D ys.toArray:=by
   obtain ⟨k,e⟩:=hDk
   exact ⟨k,hs₂.extBut _ _ hDK (hk₁ _ _ hDw e)⟩
  have hD₃:h₃.PlainList D ys.toArray:=by
   obtain ⟨k,e⟩:=hD₂
   exact ⟨k,(S₃.keep _ _ e nlDk λx=>x).at λ_ _ x=>by cases x⟩
  have hK₃:h₃.Ns K (λy=>if y=cx then some v else m' y):=Up.ns hn₂ λo e=>S₃.keep _ _ e nlKk λx=>x
  have rk₃:=rk₂.mono R₂ S₃ Apart.none
  cases ok with
  | false =>
   simp only [Bool.false_eq_true,if_false]
   exact ⟨N+1 - (j+1),Nat.sub_lt_sub_left (Nat.lt_succ_of_lt hlt) (Nat.lt_succ_self j),.mk h₃ tk₃ σ₃ φ₃ acc ys _ (j+1) R₃ T₃ st₃ hD₃ hK₃ rk₃ hgk hlt rfl⟩
  | true =>
   simp only [if_true]
   rw [if_pos rfl] at hgk
   refine bindK hgk λu σ₄ g2 hgk=>?_
   have nlK₃:¬ live σ₃ φ₃ K:=let ⟨o,e⟩:=exK;notlive T₃ K o e nlK
   have nlD₃:¬ live σ₃ φ₃ D:=let ⟨o,e⟩:=exD;notlive T₃ D o e nlD
   have FC₃:=FC₂.mono0 R₂ S₃
   refine qag (s:={ s with heap:=h₃,toks:=tk₃ }) (hE _ _ (Γ++[x]) σ₃ u σ₄ _ φ₃ _ (by rw [hnm,List.length_append];exact c1) g2 R₃ FC₃) λcv φ₄ h₄ tk₄ R₄ S₄ r₄=>?_
   have T₄:Stp (λb=>b=I∨b=K∨b=D) σ₁ φ₁ s.heap σ₄ φ₄ h₄:=T₃.trans (S₄.weaken λ_ hb=>hb.elim) R.len
   have st₄:St (j+1) h₄:=W.frame _ _ _ st₃ λb hb o e=>(S₄.keep b o e (let ⟨o',e',_⟩:=hfix 0 _ st0 b hb;notlive T₃ b o' e' (hnlf b hb)) λx=>x).at ((hfix _ _ st₃ b hb).nd e)
   have hD₄:h₄.PlainList D ys.toArray:=by
    obtain ⟨k,e⟩:=hD₃
    exact ⟨k,(S₄.keep _ _ e nlD₃ λx=>x).at λ_ _ x=>by cases x⟩
   have hK₄:h₄.Ns K (λy=>if y=cx then some v else m' y):=Up.ns hK₃ λo e=>S₄.keep _ _ e nlK₃ λx=>x
   have rk₄:=rk₃.mono R₃ S₄ Apart.none
   have nlD₄:¬ live σ₄ φ₄ D:=let ⟨o,e⟩:=exD;notlive T₄ D o e nlD
   refine wpAny_list_append_plain (s:={ s with heap:=h₄,toks:=tk₄ }) hD₄ (λh₅ hl₅ hs₅=>?_) ?_
   ·have hs₅:Heap.SameBut D h₄ h₅:=hs₅
    have ap₄:Apart C.B (· = D) h₄:=by
     rintro b rfl o ho
     obtain ⟨k,e⟩:=hD₄
     rw [ho] at e;cases e
     exact .inl ⟨hav,rfl⟩
    obtain ⟨R₅,S₅⟩:=R₄.one hbD ap₄ nlD₄ (λb o hb e=>hs₅.extBut b o hb e) (let ⟨k,e⟩:=hl₅;⟨_,e⟩)
    have e5:(ys.toArray.push cv)=(ys++[cv]).toArray:=by simp
    rw [e5] at hl₅
    refine ⟨N+1 - (j+1),Nat.sub_lt_sub_left (Nat.lt_succ_of_lt hlt) (Nat.lt_succ_self j),.mk h₅ tk₄ σ₄ φ₄ (acc++[u]) (ys++[cv]) _ (j+1) R₅ (T₄.trans (S₅.weaken λb hb=>.inr (.inr hb)) R.len) ?_ hl₅ (hK₄.sameBut hs₅ (Ne.symm hDK)) ((rk₄.append (.cons r₄ .nil)).mono R₄ S₅ ap₄) hgk hlt rfl⟩
    exact W.frame _ _ _ st₄ λb hb o e=>hs₅.extBut b o (λq=>hDf (q ▸ hb)) e
   ·have:=qfs hgk
    rw [List.length_append,List.length_singleton] at this
    have e:=rk.length
    rw [List.size_toArray,e,← qbk]
    lia
 ·have hjn:j=N:=Nat.le_antisymm hj (Nat.le_of_not_lt hlt)
  subst hjn
  have hd:items.drop j=[]:=List.drop_eq_nil_of_le (Nat.le_of_eq eN.symm)
  rw [hd] at hgk
  cases hgk
  refine W.done _ _ _ stk λh₁ tk₁ hk₁=>?_
  have hk₁':∀ b o,b≠I->H.get? b=some o->h₁.get? b=some o:=λb o hb e=>hk₁ b o (λhw=>hb (hwr b hw)) e
  have S0:Stp W0 σB φB hB σ' φk H:=(Stp.trans (W:=λb=>b=I∨b=K∨b=D) (SB.weaken λ_ x=>x.elim) Sk hlB).drop hBn
  have nBI:∀ b o,hB.get? b=some o->b≠I:=λb o e q=>by rw [hBn b (.inl q)] at e;cases e
  have notin:∀ b o,b∉φ₁->s.heap.get? b=some o->b∉φk:=λb o hb e hm=>by
   obtain ⟨i,hi⟩:=List.getElem?_of_mem hm
   by_cases hlt:i<φ₁.length
   ·have e4:=Sk.pre i φ₁[i] (List.getElem?_eq_getElem hlt)
    rw [hi] at e4
    exact hb (Option.some.inj e4 ▸ List.getElem_mem hlt)
   ·have:=Sk.new i b (Nat.le_of_not_lt hlt) hi
    rw [e] at this;cases this
  have hnk:I∉φk:=let ⟨o,e⟩:=exI;notin I o hnI e
  refine hRR h₁ tk₁ φk ys m' (Rk.lose hbI apI hnk hIm hIv hk₁') ⟨S0.pre,S0.new,S0.dead,λb o e hl hw=>(S0.keep b o e hl hw).trans λo' e'=>.inl (hk₁' b o' (nBI b o e) e'),λb o e=>?_⟩ (let ⟨o,e⟩:=exK;notin K o nK e) (let ⟨o,e⟩:=exD;notin D o nD e) ?_ (hKk.at' λo e=>hk₁ _ o hKw e) (rk.monoq Rk (Stq.one hk₁') apI)
  ·obtain ⟨o',e'⟩:=S0.ex b o e
   exact ⟨o',hk₁' b o' (nBI b o e) e'⟩
  ·obtain ⟨k,e⟩:=hDk
   exact ⟨k,hk₁ _ _ hDw e⟩
end
end Mine.Internal
namespace Mine.Internal
open PySem PyProof.Rows PySem.Calls
theorem Stp.lose {σ σ':Sg}{φ φ':List Addr}{h h' h'':Heap}{K:Addr}{W:Addr->Prop}(S:Stp W σ φ h σ' φ' h')(hK:h.get? K=none)(hk:∀ b o,b≠K->h'.get? b=some o->h''.get? b=some o):Stp W σ φ h σ' φ' h'':=by
 have nK:∀ b o,h.get? b=some o->b≠K:=λb o e q=>by rw [q,hK] at e;cases e
 exact ⟨S.pre,S.new,S.dead,λb o e hl hw=>(S.keep b o e hl hw).trans λo' e'=>.inl (hk b o' (nK b o e) e'),λb o e=>let ⟨o',e'⟩:=S.ex b o e;⟨o',hk b o' (nK b o e) e'⟩⟩
theorem SR.newK {B:Bs}{σ:Sg}{φ:List Addr}{h:Heap}{K:Addr}(R:SR B σ φ h)(sK:h.get? K=none):(B.hb.get? K=none∧K∉B.fad)∧K≠mainGlobals∧¬ B.av K:=by
 refine ⟨⟨?_,λq=>(let ⟨⟨o,_,_,e,_⟩,_⟩:=R.fo K q;qah (sK.symm.trans e))⟩,λq=>?_,λq=>?_⟩
 ·cases e':B.hb.get? K with
  | none=>rfl
  | some o=>rw [R.based K o e'] at sK;cases sK
 ·obtain ⟨o,e⟩:=R.main;rw [q,e] at sK;cases sK
 ·obtain ⟨o,e⟩:=R.avx K q;rw [e] at sK;cases sK
theorem qja {N:Nm}{n:Nat}{sc:List (Str×NameKind)}{tbl:List (Str×Nat)}{nl:Nat}{e:Expr}{ik:IK}{a b:Ex}(h:chkI N n sc tbl nl e ik a b=true):setOk e=true:=by
 cases n with
 | zero=>exact qaa h
 | succ n=>cases ik <;> exact (both (show (setOk e && _)=true from h)).1
theorem qrd {I:Expr->Bool}{N:Nm}{n:Nat}{sc:List (Str×NameKind)}{tbl:List (Str×Nat)}{nl:Nat}{e:Expr}{elt:Ex}{cond:Option Ex}
  (hc:onComp e (λee gs csc=>on1 gs λg=>onName g.target λcx =>
    g.is_async == 0 && (isFn csc.kind && (scopeOk sc tbl nl csc.names cx && (I g.iter &&
     (chkE N n (relab csc.names) ((cx,nl)::tbl) (nl+1) ee elt && chkIf N n (relab csc.names) ((cx,nl)::tbl) (nl+1) g.ifs cond)))))=true) :
  ∃ ee cx px iter ifs csc pos,e = .ListComp ee [⟨.Name cx px,iter,ifs,0⟩] csc pos∧csc.kind = .function∧scopeOk sc tbl nl csc.names cx=true∧I iter=true ∧
   chkE N n (relab csc.names) ((cx,nl)::tbl) (nl+1) ee elt=true∧chkIf N n (relab csc.names) ((cx,nl)::tbl) (nl+1) ifs cond=true:=by
 replace hc:=qwu hc
 refine x4_2 hc ?_;clear hc;intro ee gs csc pos er4 hc;subst er4
 replace hc:=on_1 hc
 refine x1_2 hc ?_;clear hc;intro g er1 hc;subst er1
 obtain ⟨tg,iter,ifs,asy⟩:=g
 replace hc:=qbq hc
 refine x2_2 (hc) λcx px e1 hc=>?_
 replace e1:tg = .Name cx px:=e1
 subst e1
 have q1:=(both hc).1
 replace hc:=(both hc).2
 have q2:=(both hc).1
 replace hc:=(both hc).2
 have q3:=(both hc).1
 replace hc:=(both hc).2
 have q4:=(both hc).1
 replace hc:=(both hc).2
 have q5:=(both hc).1
 have q6:=(both hc).2
 have e1:asy=0:=beq_iff_eq.mp q1
 subst e1
 exact ⟨ee,cx,px,iter,ifs,csc,pos,rfl,qr8 q2,q3,q4,q5,q6⟩
theorem qjb {N:Nm}{n:Nat}{sc:List (Str×NameKind)}{tbl:List (Str×Nat)}{nl:Nat}{e:Expr}{m:Bool}{elt:Ex}{ik:IK}{a b:Ex}{cond:Option Ex}(hc:chkE N (n+1) sc tbl nl e (.comp m elt ik a b cond)=true) :
  ∃ ee cx px iter ifs csc pos,e = .ListComp ee [⟨.Name cx px,iter,ifs,0⟩] csc pos∧csc.kind = .function∧scopeOk sc tbl nl csc.names cx=true∧chkI N n sc tbl nl iter ik a b=true ∧
   chkE N n (relab csc.names) ((cx,nl)::tbl) (nl+1) ee elt=true∧chkIf N n (relab csc.names) ((cx,nl)::tbl) (nl+1) ifs cond=true :=
 qrd (I:=λx=>chkI N n sc tbl nl x ik a b) hc
section
variable {C:Cx} {d n:Nat} {A:Around} {E:Value->Shared->Prop} {tbl:List (Str×Nat)} {env:Env} {Γ:Fm} {scope:Scope} {cx:Str} {s s':Shared} {σ σ':Sg} {φ:List Addr} {v:V}
theorem qrh {ee iter:Expr}{ifs:List Expr}{elt:Ex}{cond:Option Ex}(hE:∀ D,SEx (C.wav D) d n A ee elt)(hF:∀ D,SFx (C.wav D) d n A ifs cond){px pos:Pos}
  {use:Option (Value->Sem Unit)} {Q:Value->Shared->Prop} {σ₂ σ₃:Sg} {φ₁:List Addr} {h₁:Heap} {tk₁:Nat} {items vs:List V} {cv:Value}
  (q2:scope.kind = .function) (O:ScOk env.scope.names tbl Γ.length scope.names cx)
  (c1:chkE C.N n (relab scope.names) ((cx,Γ.length)::tbl) (Γ.length+1) ee elt=true) (c2:chkIf C.N n (relab scope.names) ((cx,Γ.length)::tbl) (Γ.length+1) ifs cond=true)
  (R:SR C.B σ φ s.heap) (F:FR C.B tbl env Γ σ φ s.heap) (R₁:SR C.B σ₂ φ₁ h₁) (S₁:Stp W0 σ φ s.heap σ₂ φ₁ h₁) (iv:IterAt C.B A s.heap σ₂ φ₁ { s with heap:=h₁,toks:=tk₁ } items cv s')
  (h4:compGo (evT C.gl (callF C.gl C.P d) cond) (evE C.gl (callF C.gl C.P d) elt) Γ items [] σ₂ = .ok vs σ₃) (hv4:vs.length≤roomy)
  (hfin:∀ D K φ' h' tk m' ys,SR (C.B.wav D) σ₃ φ' h'->Stp W0 σ φ s.heap σ₃ φ' h'->h'.PlainList D (List.toArray ys)->VRs (C.B.wav D) σ₃ φ' h' vs ys->¬ C.B.av D->D∉φ'->s.heap.get? D=none->D≠K->(D == sysModules)=false->h'.Ns K m'->K∉φ'->s.heap.get? K=none->compPost C.M A E use Q (.ref D) K (.ok .next) { s with heap:=h',toks:=tk }) :
  wpAny C.M A (newList []) (λacc s₃=>wpAny C.M A (newFunctionEnv scope env.globals (clos env.cells scope.names []) [] env.qual none .none (some env)) (λcenv s₄ =>
    codeAny C.M A (.compStart (.ListComp ee [⟨.Name cx px,iter,ifs,0⟩] scope pos) 0 cv acc { cenv with scope:=relabel scope env }) (compPost C.M A E use Q acc cenv.locals) s₄) E s₃) E s':=by
 obtain ⟨I,h₂,tk₂,fp,wr,N,P,St,rfl,rfl,hk₂,hI0,It⟩:=iv
 refine wpAny_newObj_type (wpAny_newFunctionEnv O.nocell (by intro y hy;simp at hy) (λh₃ hns₃ hsb₃=>?_) q2)
 have hk₂:∀ b o,h₁.get? b=some o->h₂.get? b=some o:=hk₂
 dsimp only at hns₃ hsb₃ ⊢
 generalize hH2:h₂.push { cls:=.type "list",dict:=none,data:=.seq ([]:List Value).toArray } = H2 at hns₃ hsb₃ ⊢
 have hC:H2.objs.size=h₂.objs.size+1:=by rw [← hH2,Heap.size_push]
 have hDK:h₂.objs.size≠H2.objs.size:=by rw [hC];exact Nat.ne_of_lt (Nat.lt_succ_self _)
 have below:∀ b,b<h₂.objs.size->b≠H2.objs.size∧b≠h₂.objs.size:=λb hb=>⟨by rw [hC];exact Nat.ne_of_lt (Nat.lt_succ_of_lt hb),Nat.ne_of_lt hb⟩
 have old:∀ b o,h₂.get? b=some o->h₃.get? b=some o:=λb o e=>hsb₃.extBut b o (below b (Heap.lt_size e)).1 (Heap.get?_push_of_some _ (hH2 ▸ Heap.get?_push_of_some _ e))
 have hacc:h₃.PlainList h₂.objs.size #[]:=⟨_,hsb₃.extBut _ _ hDK (Heap.get?_push_of_some _ (hH2 ▸ Heap.get?_push_size _ rfl))⟩
 have hns₃:h₃.Ns H2.objs.size _:=hns₃
 have gone:∀ {hx:Heap} {b:Addr},(∀ c o,hx.get? c=some o->∃ o',h₂.get? c=some o')->h₂.objs.size≤b->hx.get? b=none:=λ{hx b} hh hb=>by
  cases e:hx.get? b with
  | none=>rfl
  | some o=>obtain ⟨o',e'⟩:=hh b o e;exact absurd (Heap.lt_size e') (Nat.not_lt.mpr hb)
 have sub2:∀ c o,s.heap.get? c=some o->∃ o',h₂.get? c=some o':=λc o e=>let ⟨o',e'⟩:=S₁.ex c o e;⟨o',hk₂ _ _ e'⟩
 have hKge:h₂.objs.size≤H2.objs.size:=by rw [hC];exact Nat.le_succ _
 have D2:h₂.get? h₂.objs.size=none:=qb6 _
 have R₂:SR C.B σ₂ φ₁ h₂:=R₁.grow hk₂
 have F₂:FR C.B tbl env Γ σ₂ φ₁ h₂:=(F.mono0 R S₁).mono0 R₁ (Stp.grow hk₂)
 have R₃:SR (C.B.wav h₂.objs.size) σ₂ φ₁ h₃:=R₂.to D2 old (let ⟨k,e⟩:=hacc;⟨_,e⟩)
 have F₃:FR (C.B.wav h₂.objs.size) tbl env Γ σ₂ φ₁ h₃:=F₂.to D2 old
 have hbs:∀ b,s.heap.get? b=none->C.B.hb.get? b=none∧b∉C.B.fad:=λb e=>(R.newK e).1
 have sD:s.heap.get? h₂.objs.size=none:=gone sub2 (Nat.le_refl _)
 have sK:s.heap.get? H2.objs.size=none:=gone sub2 hKge
 obtain ⟨W,eN,st0,hwr,hfix,hself,hnlf,hnI,hval⟩:=It
 have st0:St 0 h₂:=st0
 have st3:St 0 h₃:=W.frame _ _ _ st0 λb _ o e=>old b o e
 have fplt:∀ b∈fp,b<h₂.objs.size:=λb hb=>let ⟨o,e,_⟩:=hfix 0 h₂ st0 b hb;Heap.lt_size e
 have Ilt:I<h₂.objs.size:=let ⟨o,e,_⟩:=hself 0 h₂ st0;Heap.lt_size e
 have It₃:Iter (C.wav h₂.objs.size).B A σ₂ φ₁ h₃ items I fp wr N P St:=⟨W,eN,st3,hwr,hfix,hself,hnlf,hnI,λi u hu=>let ⟨x,e,r⟩:=hval i u hu;⟨x,e,r.to D2 old⟩⟩
 have nm:∀ b,h₂.objs.size≤b->b∉φ₁:=λb hb L=>by
  obtain ⟨o,e⟩:=R₂.ex b L
  exact absurd (Heap.lt_size e) (Nat.not_lt.mpr hb)
 have loop:∀ tk,codeAny C.M A (.compLoop (.ListComp ee [⟨.Name cx px,iter,ifs,0⟩] scope pos) 0 (.ref I) (.ref h₂.objs.size) (compEnvC scope (clos env.cells scope.names []) H2.objs.size env)) (compPost C.M A E use Q (.ref h₂.objs.size) H2.objs.size) { s with heap:=h₃,toks:=tk }:=by
  intro tk
  refine qrg (C:=C.wav h₂.objs.size) (s:={ s with heap:=h₃,toks:=tk }) (hE _) (hF _) O q2 F₃ R₃ It₃ c1 c2 h4 hv4 (.inr rfl) hacc hns₃ (hbs I hI0) (hbs _ sK) (hbs _ sD) hDK (λhm=>Nat.lt_irrefl _ (fplt _ hm))
   (λhm=>Nat.not_lt.mpr hKge (fplt _ hm)) (Nat.ne_of_gt Ilt) (Nat.ne_of_gt (Nat.lt_of_lt_of_le Ilt hKge)) ?_ (λq=>?_) ?_ (hB:=s.heap) R.len ((S₁.trans (Stp.grow hk₂) R.len).trans (Stp.grow old) R.len) ?_ (nm _ hKge) (nm _ (Nat.le_refl _)) ?_
  ·intro b hb
   have ⟨o,e⟩:∃ o,s.heap.get? b=some o:=by
    rcases hb with rfl | ⟨y,hy⟩
    ·obtain ⟨m,⟨o,_,_,e,_⟩,_⟩:=F.ns;exact ⟨o,e⟩
    ·obtain ⟨u,o,e,_⟩:=F.cells y b hy;exact ⟨o,e⟩
   exact ⟨λq=>(by rw [q,hI0] at e;cases e),λq=>(by rw [q,sK] at e;cases e),λq=>(by rw [q,sD] at e;cases e)⟩
  ·obtain ⟨o,e⟩:=R.main
   rw [← q,hI0] at e;cases e
  ·rintro (hv | q)
   ·obtain ⟨o,e⟩:=R.avx I hv
    rw [hI0] at e;cases e
   ·exact Nat.ne_of_lt Ilt q
  ·rintro b (rfl | rfl | rfl)
   ·exact hI0
   ·exact sK
   ·exact sD
  ·intro H tk' φ' ys m' R' S' nlK' nD' hp hn r
   have hnv:¬ C.B.av h₂.objs.size:=λhv=>by obtain ⟨o,e⟩:=R₂.avx _ hv;rw [D2] at e;cases e
   exact hfin h₂.objs.size H2.objs.size φ' H tk' m' ys R' S' hp r hnv nD' sD hDK (R₂.sysOk (s:={ s with heap:=h₂,toks:=tk₂ })) hn nlK' sK
 exact codeAny_compStart_list (loop _) (W.self 0 _ _ _ st3 (loop _))
theorem qnl {ee iter:Expr}{ifs:List Expr}{elt:Ex}{mm:Bool}{cond:Option Ex}{px pos p2:Pos}(hE:∀ D,SEx (C.wav D) d n A ee elt)(hF:∀ D,SFx (C.wav D) d n A ifs cond)
  {use:Option (Value->Sem Unit)} {Q:Value->Shared->Prop} {σ₂ σ₃:Sg} {items vs:List V}
  (q2:scope.kind = .function) (O:ScOk env.scope.names tbl Γ.length scope.names cx) (c0:setOk iter=true)
  (c1:chkE C.N n (relab scope.names) ((cx,Γ.length)::tbl) (Γ.length+1) ee elt=true) (c2:chkIf C.N n (relab scope.names) ((cx,Γ.length)::tbl) (Γ.length+1) ifs cond=true)
  (h4:compGo (evT C.gl (callF C.gl C.P d) cond) (evE C.gl (callF C.gl C.P d) elt) Γ items [] σ₂ = .ok vs σ₃) (he:putL mm vs σ₃ = .ok v σ') (R:SR C.B σ φ s.heap) (F:FR C.B tbl env Γ σ φ s.heap)
  (hit:wpAny C.M A (eval iter env) (λcv s₁=>wpAny C.M A (pyIter cv) (λit s₂=>∃ φ₁ h₁ tk₁,SR C.B σ₂ φ₁ h₁∧Stp W0 σ φ s.heap σ₂ φ₁ h₁∧IterAt C.B A s.heap σ₂ φ₁ { s with heap:=h₁,toks:=tk₁ } items it s₂) E s₁) E s)
  (hfin:∀ D K φ' h' tk m',SR C.B σ' φ' h'->Stp W0 σ φ s.heap σ' φ' h'->VR C.B σ' φ' h' v (.ref D)->h'.Ns K m'->K∉φ'->s.heap.get? K=none->compPost C.M A E use Q (.ref D) K (.ok .next) { s with heap:=h',toks:=tk }) :
  wpAny C.M A (comprehension (.ListComp ee [⟨.Name cx px,iter,ifs,0⟩] scope pos) scope env p2 (newList []) false (eval iter env) use) Q E s:=by
 have hfree:∀ y∈scope.names,y.2 = .free->(env.cells.lookup y.1).isSome=true:=λy hy e=>F.has y.1 (O.free y hy e)
 refine wpAny_comprehension_free (use:=use) rfl (λx=>qk3 c0 x) (qwc hfree) q2 (λy hy e=>(O.locs y hy e).1) ?_
 refine wpAny_mono hit (λcv s₁ Pi=>wpAny_mono Pi (λit s₂ P₂=>?_) λ_ _ e=>e) λ_ _ e=>e
 obtain ⟨φ₁,h₁,tk₁,R₁,S₁,P₂⟩:=P₂
 have hv4:vs.length≤roomy:=qpg he
 refine qrh hE hF q2 O c1 c2 R F R₁ S₁ P₂ h4 hv4 λD K φ' h' tk m' ys R' S' hp r hnv nD sD hDK hsys hn nK sK=>?_
 unfold putL at he
 rw [if_pos hv4] at he
 cases mm with
 | true =>
  cases he
  refine hfin D K (φ'++[D]) h' tk m' (R'.adopt hp r hv4 hsys (R.newK sD).1.1 hnv nD) ⟨λi c e=>getElem?_snoc_lt (S'.pre i c e),λi c hi e=>?_,λi e=>getElem?_snoc_lt (S'.dead i e),S'.keep,S'.ex⟩ (.ref (by rw [← R'.len];simp)) hn (λL=>?_) sK
  ·rcases getElem?_snoc e with e | ⟨_,rfl⟩
   ·exact S'.new i c hi e
   ·exact sD
  ·rcases List.mem_append.mp L with L | q
   ·exact nK L
   ·exact hDK (List.mem_singleton.mp q).symm
 | false =>
  cases he
  exact hfin D K φ' h' tk m' R'.fro S' (.lst hp ⟨λL=>nD L.mem,hnv⟩ r.fro hv4) hn nK sK
theorem qkw (hI:SI C d n)(hE:∀ D,SE (C.wav D) d n)(hF:∀ D,SF (C.wav D) d n)(hr:Room C.B.fl d A){ee iter:Expr}{ifs:List Expr}{elt a b:Ex}{ik:IK}{mm:Bool}{cond:Option Ex}{px pos p2:Pos}
  {use:Option (Value->Sem Unit)} {Q:Value->Shared->Prop}
  (q2:scope.kind = .function) (O:ScOk env.scope.names tbl Γ.length scope.names cx) (c0:chkI C.N n env.scope.names tbl Γ.length iter ik a b=true)
  (c1:chkE C.N n (relab scope.names) ((cx,Γ.length)::tbl) (Γ.length+1) ee elt=true) (c2:chkIf C.N n (relab scope.names) ((cx,Γ.length)::tbl) (Γ.length+1) ifs cond=true)
  (he:evE C.gl (callF C.gl C.P d) (.comp mm elt ik a b cond) Γ σ = .ok v σ') (R:SR C.B σ φ s.heap) (F:FR C.B tbl env Γ σ φ s.heap)
  (hfin:∀ D K φ' h' tk m',SR C.B σ' φ' h'->Stp W0 σ φ s.heap σ' φ' h'->VR C.B σ' φ' h' v (.ref D)->h'.Ns K m'->K∉φ'->s.heap.get? K=none->compPost C.M A E use Q (.ref D) K (.ok .next) { s with heap:=h',toks:=tk }) :
  wpAny C.M A (comprehension (.ListComp ee [⟨.Name cx px,iter,ifs,0⟩] scope pos) scope env p2 (newList []) false (eval iter env) use) Q E s:=by
 rw [qgt] at he
 refine bindK he λxv σ₁ h1 he=>?_
 refine bindK he λyv σ₂ h2 he=>?_
 refine bindofK he λitems h3 he=>?_
 refine bindK he λvs σ₃ h4 he=>?_
 refine qnl (λD=>(hE D).x hr) (λD=>(hF D).x hr) q2 O (qja c0) c1 c2 h4 he R F ?_ hfin
 refine wpAny_mono (hI iter ik a b env tbl Γ σ xv σ₁ yv σ₂ items A s φ E c0 h1 h2 h3 hr R F) (λcv s₁ Pi=>?_) λ_ _ e=>e
 refine x3_4 Pi ?_;clear Pi;intro φ₁ h₁ tk₁ er3 R₁ S₁ iv;subst er3
 exact wpAny_mono (qs1 (h₀:=s.heap) iv hr.hh R₁ S₁.ex) (λit s₂ P₂=>⟨φ₁,h₁,tk₁,R₁,S₁,P₂⟩) λ_ _ e=>e
theorem qnk {D K:Addr}{φ':List Addr}{h':Heap}{tk:Nat}{m':Str->Option Value}(R:SR C.B σ φ s.heap)(R':SR C.B σ' φ' h')(S':Stp W0 σ φ s.heap σ' φ' h')(r':VR C.B σ' φ' h' v (.ref D))(hn:h'.Ns K m')(nl:K∉φ')(sK:s.heap.get? K=none) :
  compPost C.M A E none (Post C.B s σ φ σ' v) (.ref D) K (.ok .next) { s with heap:=h',toks:=tk }:=by
 refine ⟨m',hn,λh'' hs=>?_⟩
 have hs:Heap.SameBut K h' h'':=hs
 have hk:∀ b o,b≠K->h'.get? b=some o->h''.get? b=some o:=λb o hb e=>hs.extBut b o hb e
 refine x0_3 (R.newK sK) λg1 g2 g3=>?_
 exact ⟨φ',h'',tk,rfl,R'.lose g1 (Apart.ns hn) nl g2 g3 hk,S'.lose sK hk,r'.monoq R' (Stq.one hk) (Apart.ns hn)⟩
theorem sE_comp (hI:SI C d n)(hE:∀ D,SE (C.wav D) d n)(hF:∀ D,SF (C.wav D) d n){e:Expr}{elt a b:Ex}{ik:IK}{mm:Bool}{cond:Option Ex}
  (hc:chkE C.N (n+1) env.scope.names tbl Γ.length e (.comp mm elt ik a b cond)=true) (he:evE C.gl (callF C.gl C.P d) (.comp mm elt ik a b cond) Γ σ = .ok v σ') (hr:Room C.B.fl d A) (R:SR C.B σ φ s.heap) (F:FR C.B tbl env Γ σ φ s.heap) :
  wpAny C.M A (eval e env) (Post C.B s σ φ σ' v) E s:=by
 obtain ⟨ee,cx,px,iter,ifs,csc,pos,rfl,q2,q3,q4,q5,q6⟩:=qjb hc
 rw [eval_ListComp]
 exact qkw (use:=none) hI hE hF hr q2 (ScOk.of q3) q4 q5 q6 he R F λD K φ' h' tk m' R' S' r' hn nl sK=>qnk R R' S' r' hn nl sK
end
end Mine.Internal
namespace Mine.Internal
open PySem PyProof.Rows PySem.Calls
section
variable {B:Bs} {σ:Sg} {φ:List Addr} {h:Heap} {i:Nat} {xs:List V} {vs:List Value} {a:Addr}
end
section
variable {C:Cx} {d n:Nat} {A:Around} {E:Value->Shared->Prop} {tbl:List (Str×Nat)} {env:Env} {Γ:Fm} {s:Shared} {σ σ':Sg} {φ:List Addr} {v:V}
end
end Mine.Internal
namespace Mine.Internal
open PySem PyProof.Rows PySem.Calls
noncomputable def CallSims (C:Cx)(d:Nat):Prop:=∀ (av:Addr->Prop) (fl:List Env),CallSim { C with B:={ C.B with av:=av,fl:=fl } } d
structure Sims (C:Cx) (d n:Nat):Prop where
 E:SE C d n
 T:ST C d n
 Es:SEs C d n
 L:SL C d n
 O:SO C d n
 I:SI C d n
 F:SF C d n
theorem sE_succ {C:Cx}{d n:Nat}(ok:C.Ok)(hcs:CallSim C d)(H:Sims C d n)(hw:∀ D,Sims (C.wav D) d n)(hw2:∀ a D,Sims ((C.wav a).wav D) d n):SE C d (n+1):=by
 intro e x env tbl Γ σ v σ' A s φ E hc he hr R F
 cases x with
 | cNone=>exact qes (.inl rfl) hc he R
 | cBool b=>exact qes (.inr (.inl ⟨b,rfl⟩)) hc he R
 | cInt i=>exact qes (.inr (.inr (.inl ⟨i,rfl⟩))) hc he R
 | cStr i=>exact qes (.inr (.inr (.inr ⟨i,rfl⟩))) hc he R
 | var i=>exact qfj ok (.inl ⟨i,rfl⟩) hc he R F
 | glob i=>exact qfj ok (.inr ⟨i,rfl⟩) hc he R F
 | and a b=>exact (qgl H.E H.T H.L (.inl ⟨a,b,rfl⟩) hc he hr R F).1
 | or a b=>exact (qgl H.E H.T H.L (.inr ⟨a,b,rfl⟩) hc he hr R F).1
 | not a=>exact (qv4 H.E H.T hc he hr R F).1
 | neg a=>exact (qv3 H.E hc he hr R F).1
 | bin o a b=>exact sE_bin H.E hc he hr R F
 | cmp o a b=>exact (qv1 H.E hc he hr R F).1
 | cmp2 o p a b c=>exact qaa hc
 | ite c a b=>exact (qv2 H.E H.T hc he hr R F).1
 | tup xs=>exact sE_tup H.Es hc he hr R F
 | lst m xs=>exact sE_lst H.Es hc he hr R F
 | dict p=>exact sE_dict H.Es hc he hr R F
 | comp m elt ik a b cond=>exact sE_comp H.I (λD=>(hw D).E) (λD=>(hw D).F) hc he hr R F
 | compL elt a=>exact qaa hc
 | call f xs=>exact qxg ok hcs H.Es hc he hr R F
 | bi b xs=>exact sE_bi ok H.E H.Es hc he hr R F
 | app o x=>exact sE_app H.E hc he hr R F
 | pop o=>exact sE_pop H.E hc he hr R F
 | clear o=>exact qaa hc
 | rvs o=>exact qaa hc
 | join s l=>exact sE_join H.E hc he hr R F
 | idx a b=>exact sE_idx H.E hc he hr R F
 | slice a lo hi=>exact qu8 H.E H.O hc he hr R F
 | frz a=>exact sE_frz H.E hc he hr R F
theorem qpl {C:Cx}{d n:Nat}(hE:SE C d (n+1)){e:Expr}{x:Ex}{env:Env}{tbl:List (Str×Nat)}{Γ:Fm}{σ:Sg}{v:V}{t:Bool}{σ':Sg}{A:Around}{s:Shared}{φ:List Addr}{E:Value->Shared->Prop}
  (hp:isTrue e env (eval e env)=(do let v ← eval e env;standAt e.pos;holding [v] (truthy v)))
  (hc:chkE C.N (n+1) env.scope.names tbl Γ.length e x=true) (he:evE C.gl (callF C.gl C.P d) x Γ σ = .ok v σ') (ht:vTrue σ' v=some t) (hr:Room C.B.fl d A) (R:SR C.B σ φ s.heap) (F:FR C.B tbl env Γ σ φ s.heap) :
  wpAny C.M A (isTrue e env (eval e env)) (λb s'=>b=t∧PostU C.B s σ φ σ' s') E s:=by
 rw [hp]
 refine wpAny_bind (qag (hE e x env tbl Γ σ v σ' A s φ E hc he hr R F) λcv φ₁ h₁ tk R₁ S₁ r₁=>?_)
 refine wpAny_bind (wpAny_standAt (wpAny_holding (qec (s:={ s with heap:=h₁,toks:=tk }) ht R₁ r₁ λtk'=>?_)))
 exact ⟨rfl,φ₁,h₁,tk',rfl,R₁,S₁⟩
theorem sT_succ {C:Cx}{d n:Nat}(H:Sims C d n)(hE:SE C d (n+1)):ST C d (n+1):=by
 intro e x env tbl Γ σ v t σ' A s φ E hts hc he ht hr R F
 cases x with
 | and a b=>exact (qgl H.E H.T H.L (.inl ⟨a,b,rfl⟩) hc he hr R F).2 t ht
 | or a b=>exact (qgl H.E H.T H.L (.inr ⟨a,b,rfl⟩) hc he hr R F).2 t ht
 | not a=>exact (qv4 H.E H.T hc he hr R F).2 t ht
 | cmp o a b=>exact (qv1 H.E hc he hr R F).2 t ht
 | cmp2 o p a b c=>exact qaa hc
 | ite c a b=>exact (qv2 H.E H.T hc he hr R F).2 t ht
 | neg a =>
  obtain ⟨_,y,p,rfl⟩:=qv3 (E:=E) H.E hc he hr R F
  exact qpl hE rfl hc he ht hr R F
 | _=>exact qpl hE (qm6 hts _) hc he ht hr R F
theorem qs8 {C:Cx}{d:Nat}:Sims C d 0:=by
 refine ⟨?_,?_,?_,?_,?_,?_,?_⟩
 ·intro e x env tbl Γ σ v σ' A s φ E hc;exact qaa hc
 ·intro e x env tbl Γ σ v t σ' A s φ E _ hc;exact qaa hc
 ·intro e x env tbl Γ σ v σ' A s φ E pos hc;exact qaa hc
 ·intro op w r x env tbl Γ σ v σ' A s φ E pos hc;exact qaa hc
 ·intro e x env tbl Γ σ v σ' A s φ E hc;exact qaa hc
 ·intro e ik x y env tbl Γ σ a σ₁ b σ₂ items A s φ E hc;exact qaa hc
 ·intro e x env tbl Γ σ v σ' A s φ E hc;exact qaa hc
theorem sims (d:Nat):∀ (n:Nat) (C:Cx),C.Ok->CallSims C d->Sims C d n
 | 0,_,_,_=>qs8
 | n+1,C,ok,hcs=>by
  have H:=sims d n C ok hcs
  have hw:∀ D,Sims (C.wav D) d n:=λD=>sims d n (C.wav D) (ok.wav D) λav fl=>hcs av fl
  have hw2:∀ a D,Sims ((C.wav a).wav D) d n:=λa D=>sims d n ((C.wav a).wav D) ((ok.wav a).wav D) λav fl=>hcs av fl
  have hE:=sE_succ ok (hcs C.B.av C.B.fl) H hw hw2
  exact ⟨hE,sT_succ H hE,qu9 H.E H.Es,qm2 H.E H.T H.L,sO_succ H.E,sI_succ ok H.E,sF_succ H.T⟩
end Mine.Internal
namespace Mine.Internal
open PySem PyProof.Rows PySem.Calls
inductive FlR (B:Bs) (σ:Sg) (φ:List Addr) (h:Heap):Fl->Flow->Prop
 | next:FlR B σ φ h .next .next
 | ret {v:V} {cv:Value}:VR B σ φ h v cv->FlR B σ φ h (.ret v) (.ret cv)
noncomputable def PostS (B:Bs)(tbl:List (Str×Nat))(env:Env)(nl:Nat)(s:Shared)(σ:Sg)(φ:List Addr)(σ':Sg)(p:Fl×Fm)(fl:Flow)(s':Shared):Prop :=
 ∃ φ' h' tk,s' = { s with heap:=h',toks:=tk }∧SR B σ' φ' h'∧Stp (own env) σ φ s.heap σ' φ' h'∧FR B tbl env p.2 σ' φ' h'∧p.2.length=nl∧FlR B σ' φ' h' p.1 fl
structure EnvOk (fl:List Env) (tbl:List (Str×Nat)) (env:Env):Prop where
 inj:TInj tbl
 cells:env.cells.Pairwise λx y=>x.2≠y.2
 inter:interactive env=false
 fx:∃ outer,fl=env::outer∧env.frame=some env.locals∧env.scope.kind≠.module∧∀ L∈outer.filterMap (·.frame),¬ own env L
noncomputable def SS (C:Cx)(d n:Nat):Prop:=∀ (st:Stmt) (x:St) (env:Env) (tbl:List (Str×Nat)) (Γ:Fm) (σ:Sg) (p:Fl×Fm) (σ':Sg) (A:Around) (s:Shared) (φ:List Addr) (E:Value->Shared->Prop),
 EnvOk C.B.fl tbl env->chkS C.N n env.scope.names tbl Γ.length st x=true->exS C.gl (callF C.gl C.P d) x Γ σ = .ok p σ'->Room C.B.fl d A->SR C.B σ φ s.heap->FR C.B tbl env Γ σ φ s.heap ->
 wpAny C.M A (exec st env) (PostS C.B tbl env Γ.length s σ φ σ' p) E s
noncomputable def SB (C:Cx)(d n:Nat):Prop:=∀ (st:List Stmt) (x:List St) (env:Env) (tbl:List (Str×Nat)) (Γ:Fm) (σ:Sg) (p:Fl×Fm) (σ':Sg) (A:Around) (s:Shared) (φ:List Addr) (E:Value->Shared->Prop),
 EnvOk C.B.fl tbl env->chkB C.N n env.scope.names tbl Γ.length st x=true->exB C.gl (callF C.gl C.P d) x Γ σ = .ok p σ'->Room C.B.fl d A->SR C.B σ φ s.heap->FR C.B tbl env Γ σ φ s.heap ->
 wpAny C.M A (execs st env) (PostS C.B tbl env Γ.length s σ φ σ' p) E s
section
variable {C:Cx} {d n:Nat} {env:Env} {tbl:List (Str×Nat)} {Γ:Fm} {σ σ₁ σ':Sg} {p:Fl×Fm} {A:Around} {s:Shared} {φ φ₁:List Addr} {h₁:Heap} {tk:Nat} {E:Value->Shared->Prop}
theorem PostS.trans {B:Bs}{nl:Nat}{fl:Flow}{s':Shared}(hl:φ.length=σ.length)(S:Stp (own env) σ φ s.heap σ₁ φ₁ h₁)(P:PostS B tbl env nl { s with heap:=h₁,toks:=tk } σ₁ φ₁ σ' p fl s'):PostS B tbl env nl s σ φ σ' p fl s':=by
 obtain ⟨φ',h',tk',e,R,S',F,hn,f⟩:=P
 exact ⟨φ',h',tk',e,R,S.trans S' hl,F,hn,f⟩
theorem qxf (hS:SS C d n)(hB:SB C d n):SB C d (n+1):=by
 intro st x env tbl Γ σ p σ' A s φ E ho hc he hr R F
 cases st with
 | nil =>
  cases x with
  | nil=>cases he;exact wpAny_execs_nil ⟨φ,s.heap,s.toks,rfl,R,.refl,F,rfl,.next⟩
  | cons y x=>exact qaa hc
 | cons t st =>
  cases x with
  | nil=>exact qaa hc
  | cons y x =>
   replace hc:=both (show (chkS C.N n env.scope.names tbl Γ.length t y && chkB C.N n env.scope.names tbl Γ.length st x)=true from hc)
   rw [qaz] at he
   obtain ⟨⟨f,Γ₁⟩,σ₁,h1,he⟩:=qbm he
   refine wpAny_execs_cons (wpAny_mono (hS t y env tbl Γ σ _ σ₁ A s φ E ho hc.1 h1 hr R F) (λfl s₁ P=>?_) λ_ _ e=>e)
   obtain ⟨φ₁,h₁,tk,rfl,R₁,S₁,F₁,hn₁,f₁⟩:=P
   cases f₁ with
   | next =>
    have hn₁:Γ₁.length=Γ.length:=hn₁
    refine wpAny_mono (hB st x env tbl Γ₁ σ₁ p σ' A _ φ₁ E ho (by rw [hn₁];exact hc.2) he hr R₁ F₁) (λfl s₂ P=>?_) λ_ _ e=>e
    rw [hn₁] at P
    exact P.trans R.len S₁
   | ret r=>cases he;exact ⟨φ₁,h₁,tk,rfl,R₁,S₁,F₁,hn₁,.ret r⟩
theorem nosw {e:Expr}(h:compOf e=false)(t:Option Expr)(l:Nat):swapsWith e t l env=pure false:=by
 cases e <;> first | rfl | cases h
theorem qj7 {sc:List (Str×NameKind)}{id:Str}{i:Nat}(h:stoOk sc tbl id i=true):tbl.lookup id=some i∧(sc.lookup id=some .local∨sc.lookup id=some .cell):=by
 unfold stoOk at h
 rw [Bool.and_eq_true,Bool.and_eq_true,Bool.or_eq_true,beq_iff_eq,qdl,qdl] at h
 exact ⟨h.1.1,h.1.2.elim (λq=>.inl (qep q)) λq=>.inr (qjq q)⟩
theorem qf1 {id:Str}{B:Bs}{h:Heap}(F:FR B tbl env Γ σ φ h)(k:env.scope.names.lookup id=some .local∨env.scope.names.lookup id=some .cell) :
  env.kindOf id=some .local∨(env.kindOf id=some .cell∧(env.cells.lookup id).isSome=true):=k.elim .inl λq=>.inr ⟨q,F.has id q⟩
theorem Stp.w0 {W:Addr->Prop}{h:Heap}(S:Stp W0 σ φ h σ₁ φ₁ h₁):Stp W σ φ h σ₁ φ₁ h₁:=S.weaken λ_ x=>x.elim
theorem sS_expr (H:Sims C d n){e:Expr}{x:Ex}{pos:Pos}(ho:EnvOk C.B.fl tbl env)(hc:compOf e=false)(hc':chkE C.N n env.scope.names tbl Γ.length e x=true)(he:exS C.gl (callF C.gl C.P d) (.expr x) Γ σ = .ok p σ')(hr:Room C.B.fl d A)(R:SR C.B σ φ s.heap)(F:FR C.B tbl env Γ σ φ s.heap) :
  wpAny C.M A (exec (.Expr e pos) env) (PostS C.B tbl env Γ.length s σ φ σ' p) E s:=by
 rw [qe7] at he
 refine bindK he λv σ₁ h1 he=>?_
 cases he
 refine wpAny_Expr_any (qag (H.E e x env tbl Γ σ v σ' A s φ E hc' h1 hr R F) λcv φ₁ h₁ tk R₁ S₁ r₁=>?_) ho.inter (nosw hc _ _)
 exact ⟨φ₁,h₁,tk,rfl,R₁,S₁.w0,F.mono0 R S₁,rfl,.next⟩
theorem sS_ret (H:Sims C d n){e:Expr}{x:Ex}{pos:Pos}(hc':chkE C.N n env.scope.names tbl Γ.length e x=true)(he:exS C.gl (callF C.gl C.P d) (.ret x) Γ σ = .ok p σ')(hr:Room C.B.fl d A)(R:SR C.B σ φ s.heap)(F:FR C.B tbl env Γ σ φ s.heap) :
  wpAny C.M A (exec (.Return (some e) pos) env) (PostS C.B tbl env Γ.length s σ φ σ' p) E s:=by
 rw [qdv] at he
 refine bindK he λv σ₁ h1 he=>?_
 cases he
 refine wpAny_Return_some (qag (H.E e x env tbl Γ σ v σ' A s φ E hc' h1 hr R F) λcv φ₁ h₁ tk R₁ S₁ r₁=>?_)
 exact ⟨φ₁,h₁,tk,rfl,R₁,S₁.w0,F.mono0 R S₁,rfl,.ret r₁⟩
theorem qtb {o:Option Sg}(h:storeR Γ o = .ok p σ'):∃ σ₄,o=some σ₄∧(Res.ok (.next,Γ) σ₄:Res (Fl×Fm)) = .ok p σ':=by
 cases o with
 | none=>cases h
 | some σ₄=>exact ⟨σ₄,rfl,h⟩
theorem sS_sto (H:Sims C d n){e o i:Expr}{xe xo xi:Ex}{pos pos':Pos}(hc:compOf e=false)(c1:chkE C.N n env.scope.names tbl Γ.length e xe=true)(c2:chkE C.N n env.scope.names tbl Γ.length o xo=true)(c3:chkE C.N n env.scope.names tbl Γ.length i xi=true)
  (he:exS C.gl (callF C.gl C.P d) (.sto xo xi xe) Γ σ = .ok p σ') (hr:Room C.B.fl d A) (R:SR C.B σ φ s.heap) (F:FR C.B tbl env Γ σ φ s.heap) :
  wpAny C.M A (exec (.Assign [.Subscript o i pos'] e pos) env) (PostS C.B tbl env Γ.length s σ φ σ' p) E s:=by
 rw [qe9] at he
 refine bindK he λv σ₁ h1 he=>?_
 refine bindK he λov σ₂ h2 he=>?_
 refine bindK he λiv σ₃ h3 he=>?_
 refine x1_2 (qtb he) λσ₄ h4 he=>?_
 ·cases he
  refine wpAny_Assign_Subscript (qag (H.E e xe env tbl Γ σ v σ₁ A s φ E c1 h1 hr R F) λcv φ₁ h₁ tk R₁ S₁ r₁=>?_) (nosw hc _ _)
  refine qag (H.E o xo env tbl Γ σ₁ ov σ₂ A _ φ₁ E c2 h2 hr R₁ (F.mono0 R S₁)) λco φ₂ h₂ tk₂ R₂ S₂ r₂=>?_
  refine qag (H.E i xi env tbl Γ σ₂ iv σ₃ A _ φ₂ E c3 h3 hr R₂ ((F.mono0 R S₁).mono0 R₁ S₂)) λci φ₃ h₃ tk₃ R₃ S₃ r₃=>?_
  have T₃:=(S₁.trans S₂ R.len).trans S₃ R.len
  refine quy (s:={ s with heap:=h₃,toks:=tk₃ }) h4 ⟨rfl,rfl⟩ R₃ (r₂.mono R₂ S₃ Apart.none) r₃ ((r₁.mono R₁ S₂ Apart.none).mono R₂ S₃ Apart.none) hr.u64 λh₄ tk₄ R₄ S₄=>?_
  exact ⟨φ₃,h₄,tk₄,rfl,R₄,(T₃.trans S₄ R.len).w0,F.mono0 R (T₃.trans S₄ R.len),rfl,.next⟩
theorem sS_ite (H:Sims C d n)(hB:SB C d n){t:Expr}{a b:List Stmt}{c:Ex}{x y:List St}{pos:Pos}(ho:EnvOk C.B.fl tbl env)(c0:tstOk t c=true)(c1:chkE C.N n env.scope.names tbl Γ.length t c=true)(c2:chkB C.N n env.scope.names tbl Γ.length a x=true)(c3:chkB C.N n env.scope.names tbl Γ.length b y=true)
  (he:exS C.gl (callF C.gl C.P d) (.ite c x y) Γ σ = .ok p σ') (hr:Room C.B.fl d A) (R:SR C.B σ φ s.heap) (F:FR C.B tbl env Γ σ φ s.heap) :
  wpAny C.M A (exec (.If t a b pos) env) (PostS C.B tbl env Γ.length s σ φ σ' p) E s:=by
 rw [qe8] at he
 refine bindK he λv σ₁ h1 he=>?_
 refine bindofK he λtt h2 he=>?_
 refine wpAny_If (wpAny_mono (H.T t c env tbl Γ σ v tt σ₁ A s φ E c0 c1 h1 h2 hr R F) (λbb s₁ P=>?_) λ_ _ e=>e)
 obtain ⟨rfl,φ₁,h₁,tk,rfl,R₁,S₁⟩:=P
 cases bb with
 | true=>exact wpAny_mono (hB a x env tbl Γ σ₁ p σ' A _ φ₁ E ho c2 he hr R₁ (F.mono0 R S₁)) (λfl s₂ P=>P.trans R.len S₁.w0) λ_ _ e=>e
 | false=>exact wpAny_mono (hB b y env tbl Γ σ₁ p σ' A _ φ₁ E ho c3 he hr R₁ (F.mono0 R S₁)) (λfl s₂ P=>P.trans R.len S₁.w0) λ_ _ e=>e
inductive WhInv (C:Cx) (d:Nat) (c:Ex) (x:List St) (tbl:List (Str×Nat)) (env:Env) (nl:Nat) (s:Shared) (σ:Sg) (φ:List Addr) (σ':Sg) (p:Fl×Fm) (m:Nat):Shared->Prop
 | mk (φk:List Addr) (hk:Heap) (tkk:Nat) (σk:Sg) (Γk:Fm):SR C.B σk φk hk->Stp (own env) σ φ s.heap σk φk hk->FR C.B tbl env Γk σk φk hk->Γk.length=nl->loopN (whTurn C.gl (callF C.gl C.P d) c x) m Γk σk = .ok p σ' ->
  WhInv C d c x tbl env nl s σ φ σ' p m { s with heap:=hk,toks:=tkk }
theorem qva (H:Sims C d n)(hB:SB C d n){t:Expr}{a:List Stmt}{c:Ex}{x:List St}{pos:Pos}(ho:EnvOk C.B.fl tbl env)(c0:tstOk t c=true)(c1:chkE C.N n env.scope.names tbl Γ.length t c=true)(c2:chkB C.N n env.scope.names tbl Γ.length a x=true)
  (he:exS C.gl (callF C.gl C.P d) (.while c x) Γ σ = .ok p σ') (hr:Room C.B.fl d A) (R:SR C.B σ φ s.heap) (F:FR C.B tbl env Γ σ φ s.heap) :
  wpAny C.M A (exec (.While t a [] pos) env) (PostS C.B tbl env Γ.length s σ φ σ' p) E s:=by
 rw [qhp] at he
 obtain ⟨N,hN⟩:=qqe he
 clear he
 refine wpAny_While (codeAny_whileLoop (WhInv C d c x tbl env Γ.length s σ φ σ' p) ?_ N (.mk φ s.heap s.toks σ Γ R .refl F rfl hN))
 intro m s' I
 cases I with
 | mk φk hk tkk σk Γk Rk Sk Fk ek hgo =>
 cases m with
 | zero=>cases hgo
 | succ m =>
  have run:∀ {v:V} {tt:Bool} {σ₂:Sg} {Q:Bool->Shared->Prop} {E':Value->Shared->Prop},evE C.gl (callF C.gl C.P d) c Γk σk = .ok v σ₂->vTrue σ₂ v=some tt->(∀ φ₁ h₁ tk,SR C.B σ₂ φ₁ h₁->Stp W0 σk φk hk σ₂ φ₁ h₁->Q tt { s with heap:=h₁,toks:=tk })->wpAny C.M A (isTrue t env (eval t env)) Q E' { s with heap:=hk,toks:=tkk }:=λh2 h3 hQ =>
   wpAny_mono (H.T t c env tbl Γk σk _ _ _ A _ φk _ c0 (by rw [ek];exact c1) h2 h3 hr Rk Fk) (λbb s₁ P=>by
    obtain ⟨rfl,φ₁,h₁,tk,rfl,R₁,S₁⟩:=P
    exact hQ φ₁ h₁ tk R₁ S₁) λ_ _ e=>e
  cases whStep hgo with
  | stop v h2 h3 hp=>subst hp;exact run h2 h3 λφ₁ h₁ tk R₁ S₁=>wpAny_execs_nil ⟨φ₁,h₁,tk,rfl,R₁,Sk.trans S₁.w0 R.len,Fk.mono0 Rk S₁,ek,.next⟩
  | go v σ₂ q σ₃ h2 h3 h4 hgo =>
   refine run h2 h3 λφ₁ h₁ tk R₁ S₁=>wpAny_mono (hB a x env tbl Γk σ₂ _ σ₃ A _ φ₁ _ ho (by rw [ek];exact c2) h4 hr R₁ (Fk.mono0 Rk S₁)) (λfl s₂ P=>?_) λ_ _ e=>e
   obtain ⟨φ₂,h₂,tk₂,rfl,R₂,S₂,F₂,hn₂,f₂⟩:=P
   cases f₂
   exact ⟨m,Nat.lt_succ_self m,.mk φ₂ h₂ tk₂ _ _ R₂ ((Sk.trans S₁.w0 R.len).trans S₂ R.len) F₂ (Eq.trans hn₂ ek) hgo⟩
  | ret v σ₂ h2 h3 h4 hu =>
   refine run h2 h3 λφ₁ h₁ tk R₁ S₁=>wpAny_mono (hB a x env tbl Γk σ₂ _ _ A _ φ₁ _ ho (by rw [ek];exact c2) h4 hr R₁ (Fk.mono0 Rk S₁)) (λfl s₂ P=>?_) λ_ _ e=>e
   obtain ⟨φ₂,h₂,tk₂,rfl,R₂,S₂,F₂,hn₂,f₂⟩:=P
   obtain ⟨u,hu⟩:=hu
   obtain ⟨pf,pΓ⟩:=p
   replace hu:pf = .ret u:=hu
   subst hu
   cases f₂ with
   | ret r=>exact ⟨φ₂,h₂,tk₂,rfl,R₂,(Sk.trans S₁.w0 R.len).trans S₂ R.len,F₂,Eq.trans hn₂ ek,.ret r⟩
end
end Mine.Internal
namespace Mine.Internal
open PySem PyProof.Rows PySem.Calls
noncomputable def Xf (h0 h:Heap)(a C:Addr)(fl:Option Value):Prop:=∃ oe vs,h.get? a=some oe∧oe.cls = .ref C∧oe.data = .fields vs∧vs[2]? = some .none ∧
 match fl with
 | none=>vs[1]? = some .none
 | some f=>∃ T oT ts,vs[1]? = some (.ref T)∧h0.get? T=none∧T≠a∧h.get? T=some oT∧oT.data = .fields ts∧ts[3]? = some f
structure Mv (X:Addr->Prop) (fr:List Addr) (h h':Heap):Prop where
 keep:∀ b o,h.get? b=some o->¬ X b->b∉fr->h'.get? b=some o
 slot:∀ b o,h.get? b=some o->¬ X b->b∈fr->∃ sl,h'.get? b=some { o with slots:=sl }
 ex:∀ b o,h.get? b=some o->∃ o',h'.get? b=some o'
theorem Mv.of_slots {X:Addr->Prop}{fr:List Addr}{h h':Heap}(S:Heap.SlotsOnly fr h h'):Mv X fr h h' :=
 ⟨λb o e _ hb=>(S.2.1 b hb).trans e,λb o e _ _=>S.2.2 b o e,λb o e=>let ⟨_,e⟩:=S.2.2 b o e;⟨_,e⟩⟩
theorem Mv.trans {X:Addr->Prop}{fr:List Addr}{h h₁ h₂:Heap}(a:Mv X fr h h₁)(b:Mv X fr h₁ h₂):Mv X fr h h₂ :=
 ⟨λc o e hx hf=>b.keep c o (a.keep c o e hx hf) hx hf,λc o e hx hf=>let ⟨_,e1⟩:=a.slot c o e hx hf;let ⟨sl,e2⟩:=b.slot c _ e1 hx hf;⟨sl,e2⟩,λc o e=>let ⟨o1,e1⟩:=a.ex c o e;b.ex c o1 e1⟩
theorem Mv.push {X:Addr->Prop}{fr:List Addr}{h:Heap}{o:Obj}:Mv X fr h (h.push o) :=
 ⟨λ_ _ e _ _=>Heap.get?_push_of_some _ e,λ_ o e _ _=>⟨o.slots,Heap.get?_push_of_some _ e⟩,λ_ o e=>⟨o,Heap.get?_push_of_some _ e⟩⟩
theorem Mv.fields {X:Addr->Prop}{fr:List Addr}{h:Heap}{c:Addr}{oc:Obj}{ws:Array Value}{f:Array Value->Array Value}(hX:X c)(ho:h.get? c=some oc)(hd:oc.data = .fields ws):Mv X fr h (h.update c (Obj.mapFields f)):=by
 have k:∀ b o,h.get? b=some o->¬ X b->(h.update c (Obj.mapFields f)).get? b=some o:=λb o e hx=>(Heap.get?_update_other _ _ λ(q:c=b)=>hx (q ▸ hX)).trans e
 refine ⟨λb o e hx _=>k b o e hx,λb o e hx _=>⟨o.slots,k b o e hx⟩,λb o e=>?_⟩
 by_cases q:c=b
 ·subst q;exact ⟨_,Heap.get?_update_self _ ho (Obj.isFreed_of_fields (Obj.data_mapFields hd f))⟩
 ·exact ⟨o,(Heap.get?_update_other _ _ q).trans e⟩
noncomputable def Fos (B:Bs)(W:Addr->Prop)(σ:Sg)(φ:List Addr)(h:Heap)(l:List Env):Prop:=∀ env∈l,env.scope.kind≠.module∧∃ L,env.frame=some L∧(W L∨((∃ o es n,h.get? L=some o∧o.data = .dict es n)∧¬ live σ φ L∧B.hb.get? L=none))
noncomputable def Wok (B:Bs)(W:Addr->Prop)(σ:Sg)(φ:List Addr)(h:Heap):Prop:=∀ b,W b->¬ live σ φ b∧B.hb.get? b=none∧∃ o,h.get? b=some o∧(∀ fs,o.data≠.fields fs)∧∀ xs n,o.data≠.seq xs n
inductive XP (B:Bs) (W:Addr->Prop) (s:Shared) (σ:Sg) (φ:List Addr) (σ':Sg) (c:Nat) (fls:Option Value->Prop):Value->Shared->Prop
 | mk (φ':List Addr) (h':Heap) (tk:Nat) (a C:Addr) (fl:Option Value) (R:SR B σ' φ' h') (S:Stp W σ φ s.heap σ' φ' h') (K:Wok B W σ' φ' h') (hx:B.xc c=some C) (hn:s.heap.get? a=none) (hf:fls fl) (X:Xf s.heap h' a C fl):XP B W s σ φ σ' c fls (.ref a) { s with heap:=h',toks:=tk }
section
variable {B:Bs} {W:Addr->Prop} {s:Shared} {σ σ':Sg} {φ φ':List Addr} {h h':Heap} {l:List Env} {A:Around} {M:Model} {E:Value->Shared->Prop}
theorem Fos.fr (F:Fos B W σ φ h l){L:Addr}(hL:L∈l.filterMap (·.frame)):W L∨((∃ o es n,h.get? L=some o∧o.data = .dict es n)∧¬ live σ φ L∧B.hb.get? L=none):=by
 obtain ⟨env,he,hf⟩:=List.mem_filterMap.mp hL
 obtain ⟨_,L',e1,e2⟩:=F env he
 rw [hf] at e1;cases e1;exact e2
theorem Fos.at (F:Fos B W σ φ s.heap l)(hl:φ.length=σ.length)(S:Stp W σ φ s.heap σ' φ' h')(K:Wok B W σ' φ' h'){L:Addr}(hL:L∈l.filterMap (·.frame)):¬ live σ' φ' L∧B.hb.get? L=none∧∃ o,h'.get? L=some o∧(∀ fs,o.data≠.fields fs)∧∀ xs n,o.data≠.seq xs n:=by
 by_cases w:W L
 ·exact K L w
 ·rcases F.fr hL with x | ⟨⟨o,es,n,e,hd⟩,nl,hb⟩
  ·exact (w x).elim
  ·refine ⟨λx=>?_,hb,?_⟩
   ·rcases S.live hl x with y | y
    ·exact nl y
    ·rw [e] at y;cases y
   ·rcases S.keep L o e nl w with e' | ⟨_,_,e'⟩
    ·exact ⟨o,e',λfs x=>(by rw [hd] at x;cases x),λ_ _ x=>(by rw [hd] at x;cases x)⟩
    ·exact ⟨_,e',λfs x=>(by rw [show ({ o with slots:=_ }:Obj).data=o.data from rfl,hd] at x;cases x),λ_ _ x=>(by rw [show ({ o with slots:=_ }:Obj).data=o.data from rfl,hd] at x;cases x)⟩
theorem Fos.fun (F:Fos B W σ φ s.heap l)(hl:φ.length=σ.length)(S:Stp W σ φ s.heap σ' φ' h')(K:Wok B W σ' φ' h'):h'.FunFrames B.hb l:=by
 have:∀ l',(∀ env∈l',env∈l)->h'.FunFrames B.hb l':=by
  intro l'
  induction l' with
  | nil=>intro _;trivial
  | cons env r ih =>
   intro hm
   obtain ⟨hk,L,e1,_⟩:=F env (hm _ List.mem_cons_self)
   obtain ⟨_,hb,o,e2,hd,_⟩:=F.at hl S K (List.mem_filterMap.mpr ⟨env,hm _ List.mem_cons_self,e1⟩)
   exact ⟨hk,⟨L,o,e1,hb,e2,hd⟩,ih λx hx=>hm x (List.mem_cons_of_mem _ hx)⟩
 exact this l λ_ h=>h
theorem qn7 {X:Addr->Prop}{h₁:Heap}(F:Fos B W σ φ s.heap l)(hl:φ.length=σ.length)(R:SR B σ' φ' h')(S:Stp W σ φ s.heap σ' φ' h')(K:Wok B W σ' φ' h')(m:Mv X (l.filterMap (·.frame)) h' h₁)
  (hX:∀ b,X b->(∃ o fs,h'.get? b=some o∧o.data = .fields fs)∧s.heap.get? b=none∧B.hb.get? b=none):SR B σ' φ' h₁∧Stp W σ φ s.heap σ' φ' h₁∧Wok B W σ' φ' h₁:=by
 have nlX:∀ b,X b->¬ live σ' φ' b:=λb hb L=>by
  obtain ⟨⟨o,fs,e,hd⟩,_⟩:=hX b hb
  obtain ⟨o',e',x⟩:=R.liveObj L
  rw [e] at e';cases e'
  rcases x with ⟨_,_,_,x⟩ | ⟨_,_,_,x⟩ <;> rw [hd] at x <;> cases x
 have upd:∀ b o,h'.get? b=some o->¬ X b->(b∈l.filterMap (·.frame)->∃ es n,o.data = .dict es n)->Up h₁ b o:=λb o e hx hd=>by
  by_cases hf:b∈l.filterMap (·.frame)
  ·exact .inr ⟨hd hf,m.slot b o e hx hf⟩
  ·exact .inl (m.keep b o e hx hf)
 have S1:Stp (λb=>X b∨W b) σ' φ' h' σ' φ' h₁:=by
  refine ⟨λ_ _ e=>e,λi a hi e=>(by rw [List.getElem?_eq_none hi] at e;cases e),λ_ e=>e,λb o e nl hw=>?_,m.ex⟩
  refine upd b o e (λx=>hw (.inl x)) λhf=>?_
  rcases F.fr hf with x | ⟨⟨o₀,es,n,e0,hd⟩,nl0,_⟩
  ·exact (hw (.inr x)).elim
  ·rcases S.keep b o₀ e0 nl0 λx=>hw (.inr x) with e' | ⟨_,_,e'⟩
   ·rw [e] at e';cases e';exact ⟨es,n,hd⟩
   ·rw [e] at e';cases e';exact ⟨es,n,hd⟩
 have ap:Apart B (λb=>X b∨W b) h':=λb hb o e=>.inr λxs n hd=>by
  rcases hb with hb | hb
  ·obtain ⟨⟨o',fs,e',hd'⟩,_⟩:=hX b hb
   rw [e] at e';cases e';rw [hd] at hd';cases hd'
  ·obtain ⟨_,_,o',e',_,hs⟩:=K b hb
   rw [e] at e';cases e';exact hs xs n hd
 have fd:∀ L∈B.fad,X L∨W L->∃ o es n,h₁.get? L=some o∧o.data = .dict es n:=λL hL _=>by
  obtain ⟨⟨o,es,n,e,hd⟩,_⟩:=R.fo L hL
  have hx:¬ X L:=λx=>by
   obtain ⟨⟨o',fs,e',hd'⟩,_⟩:=hX L x
   rw [e] at e';cases e';rw [hd] at hd';cases hd'
  by_cases hf:L∈l.filterMap (·.frame)
  ·obtain ⟨sl,e1⟩:=m.slot L o e hx hf
   exact ⟨_,es,n,e1,hd⟩
  ·exact ⟨o,es,n,m.keep L o e hx hf,hd⟩
 have nX:∀ b o,s.heap.get? b=some o->¬ X b:=λb o e x=>by rw [(hX b x).2.1] at e;cases e
 refine ⟨R.carry S1 ap (λa o L e=>m.keep a o e (λx=>nlX a x L) λhf=>(F.at hl S K hf).1 L) (λb o e g=>m.keep b o g (λx=>by rw [(hX b x).2.2] at e;cases e) λhf=>(by rw [(F.at hl S K hf).2.1] at e;cases e)) fd,
  ⟨S.pre,S.new,S.dead,λb o e nl hw=>(S.keep b o e nl hw).trans λo' e'=>S1.keep b o' e' (λL=>?_) λx=>x.elim (nX b o e) hw,λb o e=>let ⟨o',e'⟩:=S.ex b o e;m.ex b o' e'⟩,λb hb=>?_⟩
 ·rcases S.live hl L with x | x
  ·exact nl x
  ·rw [e] at x;cases x
 ·obtain ⟨k1,k2,o,e,k3,k4⟩:=K b hb
  have hx:¬ X b:=λx=>by
   obtain ⟨⟨o',fs,e',hd⟩,_⟩:=hX b x
   rw [e] at e';cases e';exact k3 fs hd
  by_cases hf:b∈l.filterMap (·.frame)
  ·obtain ⟨sl,e1⟩:=m.slot b o e hx hf
   exact ⟨k1,k2,_,e1,k3,k4⟩
  ·exact ⟨k1,k2,o,m.keep b o e hx hf,k3,k4⟩
noncomputable def Fan (L:Addr)(fl:Option Value):Prop:=fl=none∨fl=some .none∨fl=some (rawInt L)
theorem qrp {env:Env}{outer:List Env}{L a C:Addr}{head:Value}{hn:Bool}{tk:Nat}{Q:Unit->Shared->Prop}(hfr:A.frames=some (env::outer))(hf:env.frame=some L)(F:Fos B W σ φ s.heap (env::outer))(R0:SR B σ φ s.heap)
  (R:SR B σ' φ' h') (S:Stp W σ φ s.heap σ' φ' h') (K:Wok B W σ' φ' h') (ha:s.heap.get? a=none) {oe:Obj} {vs:Array Value} (he:h'.get? a=some oe) (hc:oe.cls = .ref C) (hd:oe.data = .fields vs) (h2:vs[2]? = some .none)
  (hQ:∀ h₁,SR B σ' φ' h₁->Stp W σ φ s.heap σ' φ' h₁->Wok B W σ' φ' h₁->Xf s.heap h₁ a C (some (rawInt L))->Q () { s with heap:=h₁,toks:=tk }) :
  wpAny M A (do let fo ← frameOf env;let pl ← entryPlaceOf L hn;let b ← EntryCells.newEntry head fo .none (rawInt L) .none pl;setField (.ref a) 1 b) Q E { s with heap:=h',toks:=tk }:=by
 have hab:B.hb.get? a=none:=by
  cases e:B.hb.get? a with
  | none=>rfl
  | some o=>rw [R0.based a o e] at ha;cases ha
 refine wpAny_bind (wpAny_frameOf_fun (s:={ s with heap:=h',toks:=tk }) hfr (F.fun R0.len S K) hf λh₁ hs₁=>?_)
 refine wpAny_bind (wpAny_entryPlaceOf λpl hpl=>?_)
 unfold EntryCells.newEntry newFields
 refine wpAny_bind (wpAny_newObj_type ?_ (hpl.sizeOk5 _ _ _ _ _))
 obtain ⟨sl,he₁⟩:=hs₁.2.2 a oe he
 have hsz:2<vs.size:=(Array.getElem?_eq_some_iff.mp h2).1
 have hd':({ oe with slots:=sl }:Obj).data = .fields vs:=hd
 have he₂:=Heap.get?_push_of_some { cls:=.type "traceback",dict:=none,data:=.fields ([head,.ref L,.none,rawInt L,.none]++(if pl.isEmpty then List.replicate 6 Value.none else pl)).toArray } he₁
 refine wpAny_setField (o:={ oe with slots:=sl }) he₂ hd' (Nat.lt_of_succ_lt hsz) ?_
 have hne:h₁.objs.size≠a:=Nat.ne_of_gt (Heap.lt_size he₁)
 have m:Mv (· = a) ((env::outer).filterMap (·.frame)) h' _:=((Mv.of_slots hs₁).trans Mv.push).trans (Mv.fields (f:=(·.setIfInBounds 1 (Value.ref h₁.objs.size))) (c:=a) rfl he₂ hd')
 obtain ⟨R',S',K'⟩:=qn7 F R0.len R S K m λb hb=>by subst hb;exact ⟨⟨oe,vs,he,hd⟩,ha,hab⟩
 refine hQ _ R' S' K' ⟨_,_,Heap.get?_update_self _ he₂ (Obj.isFreed_of_fields (Obj.data_mapFields hd' _)),(Obj.cls_mapFields ..).trans hc,Obj.data_mapFields hd' _,?_,h₁.objs.size,_,_,?_,?_,hne,(Heap.get?_update_other _ _ (Ne.symm hne)).trans (Heap.get?_push_size h₁ rfl),rfl,?_⟩
 ·rw [Array.getElem?_setIfInBounds_ne (by decide)];exact h2
 ·simp [Nat.lt_of_succ_lt hsz]
 ·cases e:s.heap.get? h₁.objs.size with
  | none=>rfl
  | some o =>
   obtain ⟨o',e'⟩:=S.ex _ o e
   have:=Heap.lt_size e'
   rw [hs₁.1] at this
   exact absurd this (Nat.lt_irrefl _)
 ·rcases hpl with rfl | ⟨_,_,_,_,_,_,_,rfl⟩ <;> simp
theorem qt4 (R0:SR B σ φ s.heap){a:Addr}(ha:s.heap.get? a=none):B.hb.get? a=none:=by
 cases e:B.hb.get? a with
 | none=>rfl
 | some o=>rw [R0.based a o e] at ha;cases ha
theorem qvu {outer:List Env}{a C T:Addr}{f g:Value}{tk:Nat}{Q:Unit->Shared->Prop}(F:Fos B W σ φ s.heap outer)(R0:SR B σ φ s.heap)
  (R:SR B σ' φ' h') (S:Stp W σ φ s.heap σ' φ' h') (K:Wok B W σ' φ' h') {oe:Obj} {vs:Array Value} (he:h'.get? a=some oe) (hc:oe.cls = .ref C) (hd:oe.data = .fields vs) (h2:vs[2]? = some .none)
  {oT:Obj} {ts:Array Value} (h1:vs[1]? = some (.ref T)) (hT:s.heap.get? T=none) (hne:T≠a) (ht:h'.get? T=some oT) (hdt:oT.data = .fields ts) (h3:ts[3]? = some f)
  (hQ:∀ h₁ oe₁ oT₁ ts₁,SR B σ' φ' h₁->Stp W σ φ s.heap σ' φ' h₁->Wok B W σ' φ' h₁->h₁.get? a=some oe₁->oe₁.cls = .ref C->oe₁.data = .fields vs->h₁.get? T=some oT₁->oT₁.data = .fields ts₁->ts₁[3]? = some g->Q () { s with heap:=h₁,toks:=tk }) :
  wpAny M A (setField (.ref T) 3 g) Q E { s with heap:=h',toks:=tk }:=by
 have h3':=(Array.getElem?_eq_some_iff.mp h3).1
 refine wpAny_setField ht hdt h3' ?_
 have m:Mv (· = T) (outer.filterMap (·.frame)) h' _:=Mv.fields (f:=(·.setIfInBounds 3 g)) (c:=T) rfl ht hdt
 obtain ⟨R',S',K'⟩:=qn7 F R0.len R S K m λb hb=>by subst hb;exact ⟨⟨oT,ts,ht,hdt⟩,hT,qt4 R0 hT⟩
 exact hQ _ oe _ _ R' S' K' ((Heap.get?_update_other _ _ hne).trans he) hc hd (Heap.get?_update_self _ ht (Obj.isFreed_of_fields (Obj.data_mapFields hdt _))) (Obj.data_mapFields hdt _) (by simp [h3'])
theorem qfa {outer:List Env}{c:Nat}{f:Option Value->Prop}{fr:Option Addr}{v:Value}{s':Shared}(F:Fos B W σ φ s.heap outer)(R0:SR B σ φ s.heap)(hf:¬ f none)(x:XP B W s σ φ σ' c f v s') :
  wpAny M A (setFlight v fr) (λ_ s''=>XP B W s σ φ σ' c (· = some (fr.elim .none λb=>rawInt b)) v s'') E s':=by
 obtain ⟨φ',h',tk,a,C,fl,R,S,K,hx,ha,hfl,oe,vs,he,hc,hd,h2,hX⟩:=x
 cases fl with
 | none=>exact (hf hfl).elim
 | some g =>
  obtain ⟨T,oT,ts,h1,hT,hne,ht,hdt,h3⟩:=hX
  unfold setFlight
  refine wpAny_bind (wpAny_field he hd h1 ?_)
  rw [if_pos (show (Value.ref T != Value.none)=true from by simp)]
  exact qvu F R0 R S K he hc hd h2 h1 hT hne ht hdt h3 λh₁ oe₁ oT₁ ts₁ R₁ S₁ K₁ k1 k2 k3 k4 k5 k6=>⟨φ',h₁,tk,a,C,_,R₁,S₁,K₁,hx,ha,rfl,oe₁,vs,k1,k2,k3,h2,T,oT₁,ts₁,h1,hT,hne,k4,k5,k6⟩
theorem qn9 {env:Env}{outer:List Env}{L:Addr}{c:Nat}{v:Value}{s':Shared}(hfr:A.frames=some (env::outer))(hf:env.frame=some L)(F:Fos B W σ φ s.heap (env::outer))(R0:SR B σ φ s.heap)(x:XP B W s σ φ σ' c (Fan L) v s') :
  wpAny M A (noteFrame v env) (λ_ s''=>XP B W s σ φ σ' c (· = some (rawInt L)) v s'') E s':=by
 obtain ⟨φ',h',tk,a,C,fl,R,S,K,hx,ha,hfl,oe,vs,he,hc,hd,h2,hX⟩:=x
 unfold noteFrame
 simp only [hf]
 rcases hfl with rfl | rfl | rfl
 ·refine wpAny_bind (wpAny_field he hd hX ?_)
  rw [if_neg (by decide)]
  exact qrp hfr hf F R0 R S K ha he hc hd h2 λh₁ R₁ S₁ K₁ X₁=>⟨φ',h₁,tk,a,C,_,R₁,S₁,K₁,hx,ha,rfl,X₁⟩
 ·obtain ⟨T,oT,ts,h1,hT,hne,ht,hdt,h3⟩:=hX
  refine wpAny_bind (wpAny_field he hd h1 ?_)
  rw [if_pos (show (Value.ref T != Value.none)=true from by simp)]
  refine wpAny_bind (wpAny_field ht hdt h3 ?_)
  rw [if_neg (show ¬ ((Value.none == rawInt L)=true) from by simp [rawInt])]
  refine wpAny_bind (qvu F R0 R S K he hc hd h2 h1 hT hne ht hdt h3 λh₁ oe₁ oT₁ ts₁ R₁ S₁ K₁ k1 k2 k3 k4 k5 k6=>?_)
  exact qrp hfr hf F R0 R₁ S₁ K₁ ha k1 k2 k3 h2 λh₁ R₁ S₁ K₁ X₁=>⟨φ',h₁,tk,a,C,_,R₁,S₁,K₁,hx,ha,rfl,X₁⟩
 ·obtain ⟨T,oT,ts,h1,hT,hne,ht,hdt,h3⟩:=hX
  refine wpAny_bind (wpAny_field he hd h1 ?_)
  rw [if_pos (show (Value.ref T != Value.none)=true from by simp)]
  refine wpAny_bind (wpAny_field ht hdt h3 ?_)
  rw [if_pos (show (rawInt L == rawInt L)=true from by simp)]
  exact wpAny_pure ⟨φ',h',tk,a,C,_,R,S,K,hx,ha,rfl,oe,vs,he,hc,hd,h2,T,oT,ts,h1,hT,hne,ht,hdt,h3⟩
theorem qwq {env:Env}{outer:List Env}{L:Addr}{c:Nat}{v:Value}{s':Shared}(hfr:A.frames=some (env::outer))(hf:env.frame=some L)(F:Fos B W σ φ s.heap (env::outer))(R0:SR B σ φ s.heap)(x:XP B W s σ φ σ' c (Fan L) v s') :
  wpAny M A (leaving env v) (λ_ s''=>XP B W s σ φ σ' c (· = some .none) v s'') E s':=by
 unfold leaving
 exact wpAny_bind (wpAny_mono (qn9 hfr hf F R0 x) (λ_ _ x=>qfa (fr:=none) F R0 (λe=>by cases e) x) λ_ _ e=>e)
end
end Mine.Internal
namespace Mine.Internal
open PySem PyProof.Rows PySem.Calls
theorem qcu {α β:Type}{r:Res α}{f:α->Sg->Res β}{c:Nat}{s':Sg}{p:Prop}(h:r.bind f = .ex c s')(k:∀ a s,r = .ok a s->f a s = .ex c s'->p):p:=by
 rcases qau h with ⟨x,_⟩ | ⟨a,s,h1,h2⟩
 ·cases x
 ·exact k a s h1 h2
theorem of_ex {α:Type}{o:Option α}{s s':Sg}{c:Nat}{p:Prop}(h:Res.of o s = .ex c s'):p:=by cases o <;> cases h
theorem st_ex {o:Option Sg}{s':Sg}{c:Nat}{p:Prop}(h:Res.st o = .ex c s'):p:=by cases o <;> cases h
theorem vs_ex {o:Option (V×Sg)}{s':Sg}{c:Nat}{p:Prop}(h:Res.vs o = .ex c s'):p:=by cases o with | none=>cases h | some x=>cases h
theorem qw8 {m:Bool}{xs:List V}{s s':Sg}{c:Nat}{p:Prop}(h:putL m xs s = .ex c s'):p:=by
 unfold putL at h
 split at h
 ·split at h <;> cases h
 ·cases h
noncomputable def Nx {α:Type}(r:Res α):Prop:=∀ c s,r = .ex c s->False
section
variable {α β:Type}
theorem qan {r:Res α}{f:α->Sg->Res β}(k:∀ a s,Nx (f a s)):Nx (r.bind f):=λc s' h=>qcu h λa s _ h=>k a s c s' h
theorem nx_of {o:Option α}{s:Sg}:Nx (Res.of o s):=λ_ _ h=>of_ex h
theorem nx_ok {a:α}{s:Sg}:Nx (.ok a s):=λ_ _ h=>nomatch h
theorem nx_bad:Nx (.bad:Res α):=λ_ _ h=>nomatch h
theorem nx_nox {r:Res α}:Nx r.nox:=λ_ _ h=>qsn h
theorem nx_st {o:Option Sg}:Nx (Res.st o):=λ_ _ h=>st_ex h
theorem nx_vs {o:Option (V×Sg)}:Nx (Res.vs o):=λ_ _ h=>vs_ex h
theorem nx_put {m:Bool}{xs:List V}{s:Sg}:Nx (putL m xs s):=λ_ _ h=>qw8 h
theorem nx_if {t:Prop} [Decidable t] {x y:Res α}(a:Nx x)(b:Nx y):Nx (if t then x else y):=by
 by_cases h:t
 ·rw [if_pos h];exact a
 ·rw [if_neg h];exact b
end
theorem no_ex {gl:List V}{cf:CF}{x:Ex}{Γ:Fm}{σ σ':Sg}{c:Nat}(h:evE gl cf x Γ σ = .ex c σ'):(∃ f as,x = .call f as)∨(∃ b as,x = .bi b as)∨∃ a b d,x = .ite a b d:=by
 cases x with
 | call f as=>exact .inl ⟨f,as,rfl⟩
 | bi b as=>exact .inr (.inl ⟨b,as,rfl⟩)
 | ite a b d=>exact .inr (.inr ⟨a,b,d,rfl⟩)
 | cNone=>cases h
 | cBool b=>cases h
 | cInt i=>cases h
 | cStr s=>cases h
 | dict p=>cases h
 | var i=>exact of_ex h
 | glob g=>exact of_ex h
 | and a b=>exact (qan (λ_ _=>qan λ_ _=>nx_if nx_nox nx_ok) c σ' h).elim
 | or a b=>exact (qan (λ_ _=>qan λ_ _=>nx_if nx_ok nx_nox) c σ' h).elim
 | not a=>exact (qan (λ_ _=>qan λ_ _=>nx_ok) c σ' h).elim
 | neg a=>exact (qan (λ_ _=>nx_of) c σ' h).elim
 | bin o a b=>exact (qan (λ_ _=>qan λ_ _=>nx_of) c σ' h).elim
 | cmp o a b=>exact (qan (λ_ _=>qan λ_ _=>qan λ_ _=>nx_ok) c σ' h).elim
 | cmp2 o p a b d=>exact (qan (λ_ _=>qan λ_ _=>qan λ_ _=>nx_if (qan λ_ _=>qan λ_ _=>nx_ok) nx_ok) c σ' h).elim
 | tup es=>exact (qan (λ_ _=>nx_if nx_ok nx_bad) c σ' h).elim
 | lst m es=>exact (qan (λ_ _=>nx_put) c σ' h).elim
 | comp m elt ik a b cond=>exact (qan (λ_ _=>qan λ_ _=>qan λ_ _=>qan λ_ _=>nx_put) c σ' h).elim
 | compL elt a=>exact (qan (λ_ _=>qan λ_ _=>qan λ_ _=>nx_put) c σ' h).elim
 | app o x=>exact (qan (λ_ _=>qan λ_ _=>qan λ_ _=>nx_st) c σ' h).elim
 | pop o=>exact (qan (λ_ _=>nx_vs) c σ' h).elim
 | clear o=>exact (qan (λ_ _=>nx_st) c σ' h).elim
 | rvs o=>exact (qan (λ_ _=>nx_st) c σ' h).elim
 | join a b=>exact (qan (λ_ _=>qan λ_ _=>nx_of) c σ' h).elim
 | idx a b=>exact (qan (λ_ _=>qan λ_ _=>nx_of) c σ' h).elim
 | slice a b d=>exact (qan (λ_ _=>qan λ_ _=>qan λ_ _=>nx_of) c σ' h).elim
 | frz a=>exact (qan (λ_ _=>nx_vs) c σ' h).elim
structure Fx (B:Bs) (A:Around) (env:Env) (outer:List Env) (σ:Sg) (φ:List Addr) (h:Heap):Prop where
 fr:A.frames=some (env::outer)
 loc:env.frame=some env.locals
 km:env.scope.kind≠.module
 out:Fos B W0 σ φ h outer
 sep:∀ L∈outer.filterMap (·.frame),¬ own env L
section
variable {B:Bs} {W:Addr->Prop} {s:Shared} {σ σ₁ σ':Sg} {φ φ₁:List Addr} {h h₁:Heap} {l outer:List Env} {A:Around} {env:Env} {tbl:List (Str×Nat)} {Γ:Fm} {tk:Nat}
theorem Fos.step (F:Fos B W0 σ φ h l)(hl:φ.length=σ.length)(S:Stp W σ φ h σ₁ φ₁ h₁)(hw:∀ L∈l.filterMap (·.frame),¬ W L):Fos B W0 σ₁ φ₁ h₁ l:=λenv he=>by
 obtain ⟨hk,L,e1,x⟩:=F env he
 rcases x with x | ⟨⟨o,es,n,e,hd⟩,nl,hb⟩
 ·exact x.elim
 ·refine ⟨hk,L,e1,.inr ⟨?_,λx=>?_,hb⟩⟩
  ·rcases S.keep L o e nl (hw L (List.mem_filterMap.mpr ⟨env,he,e1⟩)) with e' | ⟨_,_,e'⟩
   ·exact ⟨o,es,n,e',hd⟩
   ·exact ⟨_,es,n,e',hd⟩
  ·rcases S.live hl x with y | y
   ·exact nl y
   ·rw [e] at y;cases y
theorem Fx.step (F:Fx B A env outer σ φ h)(hl:φ.length=σ.length)(S:Stp W0 σ φ h σ₁ φ₁ h₁):Fx B A env outer σ₁ φ₁ h₁:=⟨F.fr,F.loc,F.km,F.out.step hl S λ_ _ x=>x,F.sep⟩
theorem Fx.stepO (F:Fx B A env outer σ φ h)(hl:φ.length=σ.length)(S:Stp (own env) σ φ h σ₁ φ₁ h₁):Fx B A env outer σ₁ φ₁ h₁:=⟨F.fr,F.loc,F.km,F.out.step hl S F.sep,F.sep⟩
theorem Fx.all (F:Fx B A env outer σ φ h)(G:FR B tbl env Γ σ φ h):Fos B W0 σ φ h (env::outer):=λe he=>by
 rcases List.mem_cons.mp he with rfl | he
 ·obtain ⟨m,⟨o,es,ep,ho,hd,_⟩,_⟩:=G.ns
  exact ⟨F.km,_,F.loc,.inr ⟨⟨o,es,ep,ho,hd⟩,G.nl,G.newL⟩⟩
 ·exact F.out e he
theorem Fx.own (F:Fx B A env outer σ φ h):Fos B (own env) σ φ h (env::outer):=λe he=>by
 rcases List.mem_cons.mp he with rfl | he
 ·exact ⟨F.km,_,F.loc,.inl (.inl rfl)⟩
 ·obtain ⟨k,L,e1,x⟩:=F.out e he
  exact ⟨k,L,e1,.inr (x.elim (λy=>y.elim) id)⟩
theorem FR.wok (R:SR B σ φ h)(G:FR B tbl env Γ σ φ h):Wok B (Mine.Internal.own env) σ φ h:=by
 rintro b (rfl | ⟨x,hx⟩)
 ·obtain ⟨m,⟨o,es,ep,ho,hd,_⟩,_⟩:=G.ns
  exact ⟨G.nl,G.newL,o,ho,λfs e=>(by rw [hd] at e;cases e),λxs n e=>(by rw [hd] at e;cases e)⟩
 ·obtain ⟨v,o,ho,hd⟩:=G.cells x b hx
  exact ⟨R.notlive_cell ⟨o,ho,hd⟩,G.newC x b hx,o,ho,λfs e=>(by rw [hd] at e;cases e),λxs n e=>(by rw [hd] at e;cases e)⟩
theorem XP.trans {c:Nat}{f:Option Value->Prop}{v:Value}{s':Shared}(hl:φ.length=σ.length)(S:Stp W σ φ s.heap σ₁ φ₁ h₁)(x:XP B W { s with heap:=h₁,toks:=tk } σ₁ φ₁ σ' c f v s'):XP B W s σ φ σ' c f v s':=by
 obtain ⟨φ',h',tk',a,C,fl,R,S',K,hx,ha,hfl,oe,vs,he,hc,hd,h2,hX⟩:=x
 have new:∀ b,h₁.get? b=none->s.heap.get? b=none:=λb hb=>by
  cases e:s.heap.get? b with
  | none=>rfl
  | some o=>obtain ⟨o',e'⟩:=S.ex b o e;rw [hb] at e';cases e'
 refine ⟨φ',h',tk',a,C,fl,R,S.trans S' hl,K,hx,new a ha,hfl,oe,vs,he,hc,hd,h2,?_⟩
 cases fl with
 | none=>exact hX
 | some g =>
  obtain ⟨T,oT,ts,h1,hT,r⟩:=hX
  exact ⟨T,oT,ts,h1,new T hT,r⟩
theorem XP.own {c:Nat}{f g:Option Value->Prop}{v:Value}{s':Shared}(R:SR B σ φ s.heap)(G:FR B tbl env Γ σ φ s.heap)(x:XP B W0 s σ φ σ' c f v s')(k:∀ fl,f fl->g fl):XP B (Mine.Internal.own env) s σ φ σ' c g v s':=by
 obtain ⟨φ',h',tk',a,C,fl,R',S',K,hx,ha,hfl,r⟩:=x
 exact ⟨φ',h',tk',a,C,fl,R',S'.w0,(G.mono0 R S').wok R',hx,ha,k fl hfl,r⟩
end
theorem fx_of {C:Cx}{d:Nat}{A:Around}{env:Env}{tbl:List (Str×Nat)}{σ:Sg}{φ:List Addr}{h:Heap}(hr:Room C.B.fl d A)(ho:EnvOk C.B.fl tbl env)(R:SR C.B σ φ h):∃ outer,Fx C.B A env outer σ φ h:=by
 obtain ⟨outer,e,hl,hk,sep⟩:=ho.fx
 refine ⟨outer,e ▸ hr.fr,hl,hk,λx hx=>?_,sep⟩
 have hx':x∈C.B.fl:=e ▸ List.mem_cons_of_mem _ hx
 obtain ⟨k,L,hL⟩:=hr.fk x hx'
 exact ⟨k,L,hL,.inr (R.fo L (List.mem_filterMap.mpr ⟨x,hx',hL⟩))⟩
noncomputable def CallX (C:Cx)(d:Nat):Prop:=∀ (f:Nat) (y:Str) (a:Addr) (vs:List V) (σ:Sg) (c:Nat) (σ':Sg),callF C.gl C.P d f vs σ = .ex c σ'->C.N.fns[f]? = some y->C.mg y=some (.ref a) ->
 ∀ (A:Around) (s:Shared) (φ:List Addr) (cvs:List Value) (Q:Value->Shared->Prop),Room C.B.fl d A->SR C.B σ φ s.heap->VRs C.B σ φ s.heap vs cvs->wpAny C.M A (call (.ref a) cvs) Q (XP C.B W0 s σ φ σ' c (· = some .none)) s
noncomputable def XE (C:Cx)(d n:Nat):Prop:=∀ (e:Expr) (x:Ex) (env:Env) (tbl:List (Str×Nat)) (Γ:Fm) (σ:Sg) (c:Nat) (σ':Sg) (A:Around) (s:Shared) (φ:List Addr) (outer:List Env) (Q:Value->Shared->Prop),
 chkE C.N n env.scope.names tbl Γ.length e x=true->evE C.gl (callF C.gl C.P d) x Γ σ = .ex c σ'->Room C.B.fl d A->Fx C.B A env outer σ φ s.heap->SR C.B σ φ s.heap->FR C.B tbl env Γ σ φ s.heap ->
 wpAny C.M A (eval e env) Q (XP C.B W0 s σ φ σ' c (· = some .none)) s
noncomputable def XT (C:Cx)(d n:Nat):Prop:=∀ (e:Expr) (x:Ex) (env:Env) (tbl:List (Str×Nat)) (Γ:Fm) (σ:Sg) (c:Nat) (σ':Sg) (A:Around) (s:Shared) (φ:List Addr) (outer:List Env) (Q:Bool->Shared->Prop),
 tstOk e x=true->chkE C.N n env.scope.names tbl Γ.length e x=true->evE C.gl (callF C.gl C.P d) x Γ σ = .ex c σ'->Room C.B.fl d A->Fx C.B A env outer σ φ s.heap->SR C.B σ φ s.heap->FR C.B tbl env Γ σ φ s.heap ->
 wpAny C.M A (isTrue e env (eval e env)) Q (XP C.B W0 s σ φ σ' c (· = some .none)) s
noncomputable def XEs (C:Cx)(d n:Nat):Prop:=∀ (es:List Expr) (xs:List Ex) (env:Env) (tbl:List (Str×Nat)) (Γ:Fm) (σ:Sg) (c:Nat) (σ':Sg) (A:Around) (s:Shared) (φ:List Addr) (outer:List Env) (pos:Pos) (Q:List Value->Shared->Prop),
 chkEs C.N n env.scope.names tbl Γ.length es xs=true->evEs C.gl (callF C.gl C.P d) xs Γ σ = .ex c σ'->Room C.B.fl d A->Fx C.B A env outer σ φ s.heap->SR C.B σ φ s.heap->FR C.B tbl env Γ σ φ s.heap ->
 wpAny C.M A (spliced (backTo pos (starEach es env))) Q (XP C.B W0 s σ φ σ' c (· = some .none)) s
section
variable {C:Cx} {d n:Nat}
theorem qvj (hE:SE C d n)(hX:XE C d n)(hXs:XEs C d n):XEs C d (n+1):=by
 intro es xs env tbl Γ σ c σ' A s φ outer pos Q hc he hr G R F
 cases es with
 | nil =>
  cases xs with
  | nil=>cases he
  | cons x xs=>exact qaa hc
 | cons e es =>
  cases xs with
  | nil=>exact qaa hc
  | cons x xs =>
   have hc:(notStar e && (chkE C.N n env.scope.names tbl Γ.length e x && chkEs C.N n env.scope.names tbl Γ.length es xs))=true:=hc
   have hst:=(both hc).1
   replace hc:=(both hc).2
   have hc:=both hc
   rw [qap] at he
   rw [qar hst]
   show wpAny C.M A (spliced ((false,eval e env)::backTo pos (starEach es env))) _ _ s
   rcases qau he with ⟨_,h1⟩ | ⟨v,σ₁,h1,he⟩
   ·exact spliced_cons (hX e x env tbl Γ σ c σ' A s φ outer _ hc.1 h1 hr G R F)
   ·rcases qau he with ⟨_,h2⟩ | ⟨ws,σ₂,h2,he⟩
    ·refine spliced_cons (qag (hE e x env tbl Γ σ v σ₁ A s φ _ hc.1 h1 hr R F) λcv φ₁ h₁ tk R₁ S₁ r₁=>?_)
     exact wpAny_mono (hXs es xs env tbl Γ σ₁ c σ' A _ φ₁ outer pos _ hc.2 h2 hr (G.step R.len S₁) R₁ (F.mono0 R S₁)) (λ_ _ q=>q) λv s' x=>x.trans R.len S₁
    ·cases he
theorem xE_call (ok:C.Ok)(hcx:CallX C d)(hEs:SEs C d n)(hXs:XEs C d n){e:Expr}{f:Nat}{xs:List Ex}{env:Env}{tbl:List (Str×Nat)}{Γ:Fm}{σ:Sg}{c:Nat}{σ':Sg}{A:Around}{s:Shared}{φ:List Addr}{outer:List Env}{Q:Value->Shared->Prop}
  (hc:chkE C.N (n+1) env.scope.names tbl Γ.length e (.call f xs)=true) (he:evE C.gl (callF C.gl C.P d) (.call f xs) Γ σ = .ex c σ') (hr:Room C.B.fl d A) (G:Fx C.B A env outer σ φ s.heap) (R:SR C.B σ φ s.heap) (F:FR C.B tbl env Γ σ φ s.heap) :
  wpAny C.M A (eval e env) Q (XP C.B W0 s σ φ σ' c (· = some .none)) s:=by
 replace hc:=qbs (show onCallN e (λid es=>nameAt C.N.fns f id && (globOk env.scope.names id && (!es.isEmpty && (es.length≤20 && chkEs C.N n env.scope.names tbl Γ.length es xs))))=true from hc)
 refine x4_2 hc ?_;clear hc;intro y p es p' er4 hc;subst er4
 have q1:=(both hc).1
 replace hc:=(both hc).2
 have q2:=(both hc).1
 replace hc:=(both hc).2
 have q4:=(both hc).1
 replace hc:=(both hc).2
 have q6:=(both hc).2
 obtain ⟨q2,q3⟩:=both q2
 have hy:=qdg q1
 obtain ⟨a,o,fd,k1,k2,k3⟩:=ok.fn f y hy
 rw [qa3] at he
 refine wpAny_Call_NameR (qdc R F ok q2 q3 k1 (callWith_function (o:=o) (fd:=fd) ?_))
 cases es with
 | nil=>cases q4
 | cons e0 es =>
  have he0:=qar (env:=env) (qe5 q6) es
  rcases qau he with ⟨_,h1⟩ | ⟨vs,σ₁,h1,he⟩
  ·exact qaw he0 (hXs (e0::es) xs env tbl Γ σ c σ' A s φ outer p' _ q6 h1 hr G R F)
  ·refine qaw he0 (wpAny_mono (hEs (e0::es) xs env tbl Γ σ vs σ₁ A s φ _ p' q6 h1 hr R F) (λcvs s₁ P=>?_) λ_ _ e=>e)
   refine x3_4 P ?_;clear P;intro φ₁ h₁ tk er3 R₁ S₁ r₁;subst er3
   refine ⟨⟨R₁.based _ _ k2,k3⟩,?_⟩
   rw [List.nil_append]
   exact wpAny_mono (hcx f y a vs σ₁ c σ' he hy k1 A _ φ₁ cvs _ hr R₁ r₁) (λ_ _ q=>q) λv s' x=>x.trans R.len S₁
end
end Mine.Internal
namespace Mine.Internal
open PySem PyProof.Rows PySem.Calls
section
variable {C:Cx} {d n:Nat}
theorem xE_bi (ok:C.Ok)(hX:XE C d n)(hXs:XEs C d n){e:Expr}{b:Bi}{xs:List Ex}{env:Env}{tbl:List (Str×Nat)}{Γ:Fm}{σ:Sg}{c:Nat}{σ':Sg}{A:Around}{s:Shared}{φ:List Addr}{outer:List Env}{Q:Value->Shared->Prop}
  (hc:chkE C.N (n+1) env.scope.names tbl Γ.length e (.bi b xs)=true) (he:evE C.gl (callF C.gl C.P d) (.bi b xs) Γ σ = .ex c σ') (hr:Room C.B.fl d A) (G:Fx C.B A env outer σ φ s.heap) (R:SR C.B σ φ s.heap) (F:FR C.B tbl env Γ σ φ s.heap) :
  wpAny C.M A (eval e env) Q (XP C.B W0 s σ φ σ' c (· = some .none)) s:=by
 rw [qcl] at he
 rcases qau he with ⟨_,h1⟩ | ⟨vs,σ₁,h1,he⟩
 case inr=>exact of_ex he
 replace hc:(match isaOf b with
   | some y=>onCallN e λid es=>on2 es λe ty=>on1 xs λx=>onName ty λty=>eqS id sInst && (eqS ty y.1 && (globOk env.scope.names id && (globOk env.scope.names ty && (notStar e && chkE C.N n env.scope.names tbl Γ.length e x))))
   | none=>onO (biOf b) λy=>onCallN e λid es=>eqS id y.1 && (globOk env.scope.names id && (!es.isEmpty && (es.length≤20 && chkEs C.N n env.scope.names tbl Γ.length es xs))))=true:=hc
 cases hy:isaOf b with
 | some y =>
  rw [hy] at hc
  obtain ⟨y,T⟩:=y
  replace hc:=qbs hc
  refine x4_2 hc ?_;clear hc;intro id p es p3 er4 hc;subst er4
  replace hc:=on_2 hc
  refine x2_2 hc ?_;clear hc;intro e0 ty0 er2 hc;subst er2
  replace hc:=on_1 hc
  refine x1_2 hc ?_;clear hc;intro x er1 hc;subst er1
  replace hc:=qbq hc
  refine x2_2 hc ?_;clear hc;intro ty p2 er2 hc;subst er2
  have q1:=(both hc).1
  replace hc:=(both hc).2
  replace hc:=(both hc).2
  have q3:=(both hc).1
  replace hc:=(both hc).2
  replace hc:=(both hc).2
  have qs:=(both hc).1
  have q7:=(both hc).2
  obtain ⟨q3,q5⟩:=both q3
  have e1:=qax.mp q1
  rw [qap] at h1
  rcases qau h1 with ⟨_,h3⟩ | ⟨u,σ₂,h3,h1⟩
  case inr=>cases h1
  refine wpAny_Call_NameR (qb5 (cv:=.builtin "isinstance") R F ok q3 q5 (by rw [e1];simp [bnames,sInst]) (qas (.inl ⟨_,rfl⟩) ?_ ?_))
  ·rw [qar qs];rfl
  ·refine qaw (qar qs _) ?_
   rw [qar qs]
   show wpAny C.M A (spliced ((false,eval e0 env)::(false,eval (.Name ty p2) env)::[])) _ _ s
   exact spliced_cons (hX e0 x env tbl Γ σ c σ' A s φ outer _ q7 h3 hr G R F)
 | none =>
  rw [hy] at hc
  replace hc:=on_o hc
  obtain ⟨y,hb,hc⟩:=hc
  obtain ⟨y,cv⟩:=y
  obtain ⟨k1,k2⟩:=qnb hb
  replace hc:=qbs hc
  refine x4_2 hc ?_;clear hc;intro id p es p' er4 hc;subst er4
  have q1:=(both hc).1
  replace hc:=(both hc).2
  have q2:=(both hc).1
  replace hc:=(both hc).2
  have q4:=(both hc).1
  replace hc:=(both hc).2
  have q6:=(both hc).2
  obtain ⟨q2,q3⟩:=both q2
  have:=qax.mp q1
  subst this
  cases es with
  | nil=>cases q4
  | cons e0 es =>
   have he0:=qar (env:=env) (qe5 q6) es
   refine wpAny_Call_NameR (qb5 R F ok q2 q3 k1 (qas k2 (qgb q6) ?_))
   exact qaw he0 (hXs (e0::es) xs env tbl Γ σ c σ' A s φ outer p' _ q6 h1 hr G R F)
theorem qv6 (hX:XE C d n)(hXT:XT C d n)(hT:ST C d n){e:Expr}{k a b:Ex}{env:Env}{tbl:List (Str×Nat)}{Γ:Fm}{σ:Sg}{c:Nat}{σ':Sg}{A:Around}{s:Shared}{φ:List Addr}{outer:List Env}
  (hc:chkE C.N (n+1) env.scope.names tbl Γ.length e (.ite k a b)=true) (he:evE C.gl (callF C.gl C.P d) (.ite k a b) Γ σ = .ex c σ') (hr:Room C.B.fl d A) (G:Fx C.B A env outer σ φ s.heap) (R:SR C.B σ φ s.heap) (F:FR C.B tbl env Γ σ φ s.heap) :
  (∀ Q,wpAny C.M A (eval e env) Q (XP C.B W0 s σ φ σ' c (· = some .none)) s)∧∀ Q,wpAny C.M A (isTrue e env (eval e env)) Q (XP C.B W0 s σ φ σ' c (· = some .none)) s:=by
 replace hc:=qpa (show onIfExp e (λt u v=>tstOk t k && (tstOk u a && (tstOk v b && (chkE C.N n env.scope.names tbl Γ.length t k && (chkE C.N n env.scope.names tbl Γ.length u a && chkE C.N n env.scope.names tbl Γ.length v b)))))=true from hc)
 refine x4_2 hc ?_;clear hc;intro te u w p er4 hc;subst er4
 have t1:=(both hc).1
 replace hc:=(both hc).2
 have t2:=(both hc).1
 replace hc:=(both hc).2
 have t3:=(both hc).1
 replace hc:=(both hc).2
 have q1:=(both hc).1
 replace hc:=(both hc).2
 have q2:=(both hc).1
 have q3:=(both hc).2
 rw [qbp] at he
 rcases qau he with ⟨_,h1⟩ | ⟨x,σ₁,h1,he⟩
 ·exact ⟨λQ=>wpAny_IfExp (hXT te k env tbl Γ σ c σ' A s φ outer _ t1 q1 h1 hr G R F),λQ=>PyProof.Rows.isTrue_IfExp (hXT te k env tbl Γ σ c σ' A s φ outer _ t1 q1 h1 hr G R F)⟩
 ·rcases qau he with ⟨x,_⟩ | ⟨t,σ₂,h2,he⟩
  ·cases x
  ·obtain ⟨h2',e2⟩:=qbw h2
   subst e2
   replace h2:=h2'
   constructor
   ·intro Q
    refine wpAny_IfExp (wpAny_mono (hT te k env tbl Γ σ x t σ₁ A s φ _ t1 q1 h1 h2 hr R F) (λb' s' hb=>?_) λ_ _ e=>e)
    obtain ⟨rfl,φ₁,h₁,tk,rfl,R₁,S₁⟩:=hb
    cases b' with
    | true=>exact wpAny_mono (hX u a env tbl Γ σ₁ c σ' A _ φ₁ outer _ q2 he hr (G.step R.len S₁) R₁ (F.mono0 R S₁)) (λ_ _ q=>q) λv s' x=>x.trans R.len S₁
    | false=>exact wpAny_mono (hX w b env tbl Γ σ₁ c σ' A _ φ₁ outer _ q3 he hr (G.step R.len S₁) R₁ (F.mono0 R S₁)) (λ_ _ q=>q) λv s' x=>x.trans R.len S₁
   ·intro Q
    refine PyProof.Rows.isTrue_IfExp (wpAny_mono (hT te k env tbl Γ σ x t σ₁ A s φ _ t1 q1 h1 h2 hr R F) (λb' s' hb=>?_) λ_ _ e=>e)
    obtain ⟨rfl,φ₁,h₁,tk,rfl,R₁,S₁⟩:=hb
    cases b' with
    | true=>exact wpAny_mono (hXT u a env tbl Γ σ₁ c σ' A _ φ₁ outer _ t2 q2 he hr (G.step R.len S₁) R₁ (F.mono0 R S₁)) (λ_ _ q=>q) λv s' x=>x.trans R.len S₁
    | false=>exact wpAny_mono (hXT w b env tbl Γ σ₁ c σ' A _ φ₁ outer _ t3 q3 he hr (G.step R.len S₁) R₁ (F.mono0 R S₁)) (λ_ _ q=>q) λv s' x=>x.trans R.len S₁
noncomputable def CallXs (C:Cx)(d:Nat):Prop:=∀ (av:Addr->Prop) (fl:List Env),CallX { C with B:={ C.B with av:=av,fl:=fl } } d
structure Xims (C:Cx) (d n:Nat):Prop where
 E:XE C d n
 T:XT C d n
 Es:XEs C d n
theorem xims (d:Nat):∀ (n:Nat) (C:Cx),C.Ok->CallSims C d->CallX C d->Xims C d n
 | 0,_,_,_,_=>⟨λ_ _ _ _ _ _ _ _ _ _ _ _ _ hc=>qaa hc,λ_ _ _ _ _ _ _ _ _ _ _ _ _ _ hc=>qaa hc,λ_ _ _ _ _ _ _ _ _ _ _ _ _ _ hc=>qaa hc⟩
 | n+1,C,ok,hcs,hcx=>by
  have H:=sims d n C ok hcs
  have X:=xims d n C ok hcs hcx
  have hE:XE C d (n+1):=by
   intro e x env tbl Γ σ c σ' A s φ outer Q hc he hr G R F
   rcases no_ex he with ⟨f,as,rfl⟩ | ⟨b,as,rfl⟩ | ⟨a,b,k,rfl⟩
   ·exact xE_call ok hcx H.Es X.Es hc he hr G R F
   ·exact xE_bi ok X.E X.Es hc he hr G R F
   ·exact (qv6 X.E X.T H.T hc he hr G R F).1 Q
  refine ⟨hE,?_,qvj H.E X.E X.Es⟩
  intro e x env tbl Γ σ c σ' A s φ outer Q ht hc he hr G R F
  have pl:plainTest e=true->wpAny C.M A (isTrue e env (eval e env)) Q (XP C.B W0 s σ φ σ' c (· = some .none)) s:=λhp=>by
   rw [qm6 hp]
   exact wpAny_bind (hE e x env tbl Γ σ c σ' A s φ outer _ hc he hr G R F)
  rcases no_ex he with ⟨f,as,rfl⟩ | ⟨b,as,rfl⟩ | ⟨a,b,k,rfl⟩
  ·exact pl ht
  ·exact pl ht
  ·exact (qv6 X.E X.T H.T hc he hr G R F).2 Q
end
end Mine.Internal
set_option maxRecDepth 100000
namespace Mine.Internal
open PySem PyProof.Rows PySem.Calls
inductive QC (h:Heap) (Ca:Addr) (tl:List Value):Prop
 | mk (nm q:Str) (N:Addr) (bs:List Value) (hdct:Bool) (sn:List Str) (sub:List Value) (ab:Bool) (col:Option Bool) (dd:Option Addr) (k0 k1 k2 k3 k5:Option Value) (mN:Str->Option Value)
  (hC:h.get? Ca=some (excClassObj nm q Ca N bs (tl++bmVE) hdct sn sub ab col dd k0 k1 k2 k3 k5 "ValueError.__new__")) (hN:h.Ns N mN) (hm:∀ n∈qN,mN n=none):QC h Ca tl
noncomputable def QT (h:Heap)(tl:List Value):Prop:=tl=[]∨∃ C0,tl=[.ref C0]∧QC h C0 []
theorem QC.keeps {h h':Heap}{Ca:Addr}{tl:List Value}(k:∀ b o,h.get? b=some o->h'.get? b=some o)(x:QC h Ca tl):QC h' Ca tl:=by
 cases x with
 | mk nm q N bs hdct sn sub ab col dd k0 k1 k2 k3 k5 mN a b c=>exact .mk nm q N bs hdct sn sub ab col dd k0 k1 k2 k3 k5 mN (k _ _ a) (b.keeps k) c
section
variable {M:Model} {A:Around} {E:Value->Shared->Prop} {h:Heap} {g:Array GenState} {d:Drawn} {t:Nat} {os:OsState}
theorem qjz {Ca:Addr}{tl:List Value}{n:Str}{y:Option Value}{Q:Option Value->Shared->Prop}(hn:n∈qN)(X:QC h Ca tl)(T:QT h tl)(hB:typeLookup (.type "ValueError") n=pure y)(hq:Q y ⟨h,g,d,t,os⟩) :
  wpAny M A (typeLookup (.ref Ca) n) Q E ⟨h,g,d,t,os⟩:=by
 obtain ⟨nm,q,N,bs,hdct,sn,sub,ab,col,dd,k0,k1,k2,k3,k5,mN,hC,hN,hm⟩:=X
 have hrest:lookupAlong bmVE n=pure y:=by rw [typeLookup_eq,PySem.F.attrBase_ValueError.mro] at hB;exact hB
 rw [typeLookup_eq]
 refine wpAny_bind (wpAny_mroOf_exc hC ?_)
 rw [lookupAlong_cons]
 refine wpAny_bind (wpAny_classOwn_exc hC hN ?_)
 rw [hm n hn]
 rcases T with rfl | ⟨C0,rfl,nm',q',N',bs',hdct',sn',sub',ab',col',dd',j0,j1,j2,j3,j5,mN',hC',hN',hm'⟩
 ·show wpAny M A (lookupAlong bmVE n) _ _ _
  rw [hrest];exact wpAny_pure hq
 ·show wpAny M A (lookupAlong (.ref C0::bmVE) n) _ _ _
  rw [lookupAlong_cons]
  refine wpAny_bind (wpAny_classOwn_exc hC' hN' ?_)
  rw [hm' n hn]
  show wpAny M A (lookupAlong bmVE n) _ _ _
  rw [hrest];exact wpAny_pure hq
theorem QT.hasB {tl:List Value}{T:String}(hT:bmVE.contains (.type T)=true):(tl++bmVE).contains (.type T)=true:=by
 rw [List.contains_iff_mem] at hT ⊢
 exact List.mem_append_right _ hT
end
theorem qmq:typeLookup (.type "ValueError") "__class__" = pure (some (.builtin "object.__class__")):=by rw [typeLookup_type,builtinLookup_eq_fast];kernel_rfl
section
variable {prog:Program} {w:World} {A:Around} {E:Value->Shared->Prop} {h:Heap} {g:Array GenState} {d:Drawn} {t:Nat} {os:OsState} {a:Addr} {o:Obj} {Ca:Addr} {tl:List Value}
theorem qjc {R:Result->Shared->Prop}(X:QC h Ca tl)(hx:h.get? a=some o)(hc:o.cls = .ref Ca)(hq:R (.ok (.ret (.ref Ca))) ⟨h,g,d,t,os⟩) :
  codeAny (model prog w) A (.call (.builtin "getset_descriptor.__get__") ⟨[.builtin "object.__class__",.ref a,.ref Ca],[]⟩) R ⟨h,g,d,t,os⟩:=by
 obtain ⟨nm,q,N,bs,hdct,sn,sub,ab,col,dd,k0,k1,k2,k3,k5,mN,hC,hN,hm⟩:=X
 have hT5:(⟨h,g,d,t,os⟩:Shared).TypeIs (.builtin "object.__class__") "getset_descriptor":=PySem.F.typeOf_object_class
 have hcB:(Value.ref Ca::(tl++bmVE)).contains (.type (".".intercalate ("object.__class__".cutAt '.').dropLast))=true:=by
  rw [PySem.F.owner_object_class,List.contains_cons,QT.hasB (by decide)];rfl
 refine codeAny_call_builtin PySem.F.slot_gs_get.plain PySem.F.entry_gs_get (PySem.F.slot_gs_get.check _ _ _ _ _ _ _ _ hT5 (PySem.F.args_gs_get _ _ _) ?_)
 repeat (any_goals (first | assumption | (with_reducible refine wpAny_loadPart_at hx ?_;rw [hc]) | (with_reducible refine wpAny_isSubtype_exc hC ?_;rw [hcB]) | wp_step))
 refine ⟨Code.quiet_builtin _ (by decide +kernel),codeAny_builtin PySem.F.entry_object_class ?_⟩
 repeat (any_goals (first | assumption | (with_reducible refine wpAny_loadPart_at hx ?_;rw [hc]) | wp_step))
theorem qgp {tk:Tok}{Q:Fin->Shared->Prop}(X:QC h Ca tl)(T:QT h tl)(hx:h.get? a=some o)(hc:o.cls = .ref Ca)(hq:Q (.done (.ret (.ref Ca))) ⟨h,g,d,t,os⟩) :
  wpAny (model prog w) A (Builtin.«object.__getattribute__» ⟨[.ref a,.str "__class__" tk],[]⟩) Q E ⟨h,g,d,t,os⟩:=by
 have hT5:(⟨h,g,d,t,os⟩:Shared).TypeIs (.builtin "object.__class__") "getset_descriptor":=PySem.F.typeOf_object_class
 have f5:=PySem.F.typeOf_object_class
 have f6:=PySem.F.slot_gs_get.lookup
 have f7:=PySem.F.slot_gs_set.lookup
 have hm:("__class__":Str)∈qN:=.tail _ (.tail _ (.head _))
 repeat (any_goals (first | assumption | (with_reducible refine wpAny_loadPart_at hx ?_;rw [hc]) | with_reducible refine qjz hm X T qmq ?_ | wp_step))
 refine qjc X hx hc ?_
 repeat (any_goals (first | assumption | wp_step))
theorem qku {M:Model}{nameV:Value}{Q:Unit->Shared->Prop}(X:QC h Ca tl)(hx:h.get? a=some o)(hc:o.cls = .ref Ca)(hq:Q () ⟨h,g,d,t,os⟩):wpAny M A (checkBuiltinCall "BaseException.__getattribute__" ⟨[.ref a,nameV],[]⟩) Q E ⟨h,g,d,t,os⟩:=by
 obtain ⟨nm,q,N,bs,hdct,sn,sub,ab,col,dd,k0,k1,k2,k3,k5,mN,hC,hN,hm⟩:=X
 have hk:builtinKind "BaseException.__getattribute__" = some .slot:=by decide +kernel
 have hsplit:splitId "BaseException.__getattribute__" = some ("BaseException","__getattribute__"):=by decide +kernel
 have hcB:(Value.ref Ca::(tl++bmVE)).contains (.type "BaseException")=true:=by rw [List.contains_cons,QT.hasB (by decide)];rfl
 have ha:=PySem.F.args_bexc_ga (.ref a) nameV
 simp only [checkBuiltinCall,hk,hsplit]
 refine wpAny_bind ?_
 ·unfold isInstance
  repeat (first | (with_reducible refine wpAny_loadPart_at hx ?_;rw [hc]) | (with_reducible refine wpAny_isSubtype_exc hC ?_;rw [hcB]) | wp_step)
  exact hq
theorem qkv {tk:Tok}{Q:Value->Shared->Prop}(X:QC h Ca tl)(T:QT h tl)(hx:h.get? a=some o)(hc:o.cls = .ref Ca)(hq:Q (.ref Ca) ⟨h,g,d,t,os⟩) :
  wpAny (model prog w) A (getAttrBy (.ref a) (.str "__class__" tk) false) Q E ⟨h,g,d,t,os⟩:=by
 have FB:=PySem.F.attrBase_ValueError
 have f3:=FB.ga.bind (.ref a)
 have hx2:(Value.builtin "BaseException.__getattribute__" == Value.builtin "object.__getattribute__")=false:=by decide +kernel
 have hx1:(onTheHeap (Value.ref Ca) && Value.builtin "BaseException.__getattribute__" == Value.builtin "object.__getattribute__")=false:=by rw [hx2];rfl
 have hm1:("__getattribute__":Str)∈qN:=.head _
 have hm2:("__getattr__":Str)∈qN:=.tail _ (.head _)
 repeat (any_goals (first | assumption | (with_reducible refine wpAny_loadPart_at hx ?_;rw [hc]) | with_reducible refine qjz hm1 X T FB.ga.lookup ?_ | with_reducible refine qjz hm2 X T FB.noGetattr ?_ | wp_step))
 refine codeAny_call_builtin FB.ga.plain PySem.F.entry_bexc_ga (qku X hx hc (qgp X T hx hc ?_))
 repeat (any_goals (first | assumption | wp_step))
theorem qhd {Q:Option Value->Shared->Prop}(X:QC h Ca tl)(T:QT h tl)(hx:h.get? a=some o)(hc:o.cls = .ref Ca)(hq:Q (some (.ref Ca)) ⟨h,g,d,t+1,os⟩):wpAny (model prog w) A (getAttr? (.ref a) "__class__") Q E ⟨h,g,d,t,os⟩:=by
 unfold getAttr? getAttrBy?
 repeat (any_goals (first | assumption | with_reducible apply qkv X T hx hc | wp_step))
theorem qsm {Cb:Addr}{tl':List Value}{dep:Int}{tk:Tok}{Q:Fin->Shared->Prop}(X:QC h Ca tl)(T:QT h tl)(Y:QC h Cb tl')(hx:h.get? a=some o)(hc:o.cls = .ref Ca)(hb:(Value.ref Ca::(tl++bmVE)).contains (.ref Cb)=false)
  (hq:Q (.done (.ret (.bool false))) ⟨h,g,d,t+1,os⟩):wpAny (model prog w) A (Builtin.«isinstance.nested» ⟨[.ref a,.ref Cb,.int dep tk],[]⟩) Q E ⟨h,g,d,t,os⟩:=by
 have X':=X
 obtain ⟨nm,q,N,bs,hdct,sn,sub,ab,col,dd,k0,k1,k2,k3,k5,mN,hC,hN,hm⟩:=X'
 obtain ⟨nm',q',N',bs',hdct',sn',sub',ab',col',dd',j0,j1,j2,j3,j5,mN',hD,hN',hm'⟩:=Y
 have hne:(Value.ref Ca == Value.ref Cb)=false:=by
  rw [List.contains_cons,Bool.or_eq_false_iff] at hb
  rw [Bool.beq_comm];exact hb.1
 repeat (any_goals (first | assumption | with_reducible apply qhd X T hx hc | (with_reducible refine wpAny_loadPart_at hx ?_;rw [hc]) | with_reducible refine wpAny_loadPart_at hD ?_ | with_reducible refine wpAny_loadPart_at hC ?_ | (with_reducible refine wpAny_isSubtype_exc hC ?_;rw [hb]) | wp_step))
theorem qqf {dep:Int}{tk:Tok}{Q:Fin->Shared->Prop}(hx:h.get? a=some o)(hc:o.cls = .ref Ca)(hq:Q (.done (.ret (.bool true))) ⟨h,g,d,t,os⟩):wpAny (model prog w) A (Builtin.«isinstance.nested» ⟨[.ref a,.ref Ca,.int dep tk],[]⟩) Q E ⟨h,g,d,t,os⟩:=by
 have hne:(Value.ref Ca == Value.ref Ca)=true:=beq_iff_eq.mpr rfl
 repeat (any_goals (first | assumption | (with_reducible refine wpAny_loadPart_at hx ?_;rw [hc]) | wp_step))
theorem qsl {dep:Int}{tk:Tok}{Q:Fin->Shared->Prop}(X:QC h Ca tl)(hx:h.get? a=some o)(hc:o.cls = .ref Ca)(hq:Q (.done (.ret (.bool true))) ⟨h,g,d,t,os⟩):wpAny (model prog w) A (Builtin.«isinstance.nested» ⟨[.ref a,.type "ValueError",.int dep tk],[]⟩) Q E ⟨h,g,d,t,os⟩:=by
 obtain ⟨nm,q,N,bs,hdct,sn,sub,ab,col,dd,k0,k1,k2,k3,k5,mN,hC,hN,hm⟩:=X
 have hne:(Value.ref Ca == Value.type "ValueError")=false:=rfl
 have hty:typeOf (.type "ValueError")=pure (.type "type"):=by kernel_rfl
 have hb:(Value.ref Ca::(tl++bmVE)).contains (.type "ValueError")=true:=by rw [List.contains_cons,QT.hasB (by decide)];rfl
 repeat (any_goals (first | assumption | (with_reducible refine wpAny_loadPart_at hx ?_;rw [hc]) | with_reducible refine wpAny_loadPart_at hC ?_ | (with_reducible refine wpAny_isSubtype_exc hC ?_;rw [hb]) | wp_step))
end
section
variable {prog:Program} {w:World} {A:Around} {E:Value->Shared->Prop} {s:Shared} {a:Addr} {o:Obj} {Ca Cb:Addr} {tl tl':List Value} {Q:Value->Shared->Prop}
theorem isi_no (X:QC s.heap Ca tl)(T:QT s.heap tl)(Y:QC s.heap Cb tl')(hx:s.heap.get? a=some o)(hc:o.cls = .ref Ca)(hb:(Value.ref Ca::(tl++bmVE)).contains (.ref Cb)=false)
  (h:Q (.bool false) { s with toks:=s.toks+1 }):wpAny (model prog w) A (call (.builtin "isinstance") [.ref a,.ref Cb]) Q E s :=
 call_isinstance (S:=λ_ R s=>(QC s.heap Ca tl∧QT s.heap tl∧QC s.heap Cb tl'∧s.heap.get? a=some o)∧R (.ok (.ret (.bool false))) { s with toks:=s.toks+1 })
  (λ_ _ _ _ _ hs=>isinstance_outer (qsm hs.1.1 hs.1.2.1 hs.1.2.2.1 hs.1.2.2.2 hc hb hs.2) (by intro q;cases q)) ⟨⟨X,T,Y,hx⟩,h⟩
theorem qwp (hx:s.heap.get? a=some o)(hc:o.cls = .ref Ca)(h:Q (.bool true) s):wpAny (model prog w) A (call (.builtin "isinstance") [.ref a,.ref Ca]) Q E s :=
 call_isinstance (S:=λ_ R s=>s.heap.get? a=some o∧R (.ok (.ret (.bool true))) s)
  (λ_ _ _ _ _ hs=>isinstance_outer (qqf hs.1 hc hs.2) (by intro q;cases q)) ⟨hx,h⟩
theorem isi_VE (X:QC s.heap Ca tl)(hx:s.heap.get? a=some o)(hc:o.cls = .ref Ca)(h:Q (.bool true) s):wpAny (model prog w) A (call (.builtin "isinstance") [.ref a,.type "ValueError"]) Q E s :=
 call_isinstance (S:=λ_ R s=>(QC s.heap Ca tl∧s.heap.get? a=some o)∧R (.ok (.ret (.bool true))) s)
  (λ_ _ _ _ _ hs=>isinstance_outer (qsl hs.1.1 hs.1.2 hc hs.2) (by intro q;cases q)) ⟨⟨X,hx⟩,h⟩
end
end Mine.Internal
set_option maxRecDepth 100000
namespace Mine.Internal
open PySem PyProof.Rows PySem.Calls
theorem qjh:entryFor table "proto.unchain" = some Builtin.«proto.unchain»:=entryFor_of_tree (by kernel_rfl)
noncomputable def Nc (h:Heap)(e:Addr):Prop:=∃ oe vs,h.get? e=some oe∧oe.data = .fields vs∧vs[2]? = some .none
section
variable {prog:Program} {w:World} {A:Around} {E:Value->Shared->Prop} {s:Shared}
theorem qqd {e it l:Addr}{i:Nat}{items:Array Value}{Q:Option Value->Shared->Prop}(hh:A.handled=some (.ref e))(hne:e≠it)(hn:Nc s.heap e)
  (hit:s.heap.IsListIter it l i) (hl:s.heap.IsList l items) (hx:items[i]? = none)
  (hQ:∀ h',Heap.ExtBut it s.heap h'->Q none { s with heap:=h' }):wpAny (model prog w) A (pyNext (.ref it)) Q E s:=by
 obtain ⟨o,ho,hc,hd⟩:=id hit
 obtain ⟨ol,hol,_,nl,hdl⟩:=hl
 obtain ⟨oe,vs,he,hde,h2⟩:=hn
 unfold pyNext
 refine wpAny_bind (wpAny_attempt (wpAny_callSpecial?_slot (name:=oS "__next__") hit.typeIs slot_listiter_next
  (wpAny_call_entry slot_listiter_next hit.typeIs entry_listiter_next ?_ (args_listiter_next _))))
 show wpAny _ _ (field (.ref it) 0 >>= _) _ _ s
 refine wpAny_bind (wpAny_field ho hd (x:=.ref l) rfl ?_)
 show wpAny _ _ (if (Value.ref l == Value.none)=true then _ else _) _ _ s
 rw [if_neg (show ¬ ((Value.ref l == Value.none)=true) from Bool.false_ne_true)]
 show wpAny _ _ (field (.ref it) 1 >>= _) _ _ s
 refine wpAny_bind (wpAny_field ho hd (x:=.int i 0) rfl ?_)
 show wpAny _ _ (seqItems? (.ref l) >>= _) _ _ s
 refine wpAny_bind (wpAny_seqItems hol hdl ?_)
 simp only [Int.toNat_natCast,hx]
 refine wpAny_bind (wpAny_rule (wpAny_bind (wpAny_setField ho hd (by simp) ?_)))
 show wpAny _ _ (newExc (.type "StopIteration") [] >>= _) _ _ _
 refine wpAny_bind ?_
 simp only [newExc,newTuple]
 refine wpAny_bind (wpAny_newObj_type ?_ (by size_fits))
 refine wpAny_bind (m:=firstArgMember _ _) (wpAny_of_eq (a:=Value.none) (by first | rfl | (simp only [firstArgMember];rfl)) ?_)
 refine wpAny_newObj_type ?_ (by size_fits)
 simp only [raiseNew]
 refine wpAny_bind (wpAny_handled ?_)
 rw [show A.in1.handled=some (.ref e) from hh]
 have he1:(s.heap.update it (Obj.mapFields λx=>x.setIfInBounds 0 Value.none)).get? e=some oe:=(Heap.get?_update_other _ _ (Ne.symm hne)).trans he
 generalize hH:(s.heap.update it (Obj.mapFields λx=>x.setIfInBounds 0 Value.none))=H1 at he1 ⊢
 have hk:Heap.ExtBut it s.heap H1:=hH ▸ (Heap.SameBut.update ..).extBut
 have he2:=Heap.get?_push_of_some { cls:=Value.type "tuple",data:=Data.seq #[] } he1
 generalize hH2:H1.push { cls:=Value.type "tuple",data:=Data.seq #[] } = H2 at he2 ⊢
 have hk2:Heap.ExtBut it s.heap H2:=hH2 ▸ hk.push _
 have hlt:e<H2.objs.size:=Heap.lt_size he2
 dsimp only
 rw [if_pos (show (Value.ref e != Value.ref H2.objs.size)=true from bne_iff_ne.mpr λq=>Nat.ne_of_lt hlt (Value.ref.inj q))]
 refine wpAny_bind (wpAny_holding (wpAny_runValue (codeAny_builtin qjh ?_)))
 show wpAny _ _ (field (.ref e) 2 >>= _) _ _ _
 refine wpAny_bind (wpAny_field (Heap.get?_push_of_some _ he2) hde h2 ?_)
 show wpAny _ _ (if (Value.none == Value.none)=true then _ else _) _ _ _
 rw [if_pos (beq_iff_eq.mpr rfl)]
 refine wpAny_pure ?_
 have hself:∀ {o:Obj},o.isFreed=false->(H2.push o).get? H2.objs.size=some o:=λhf=>Heap.get?_push_size _ hf
 unfold updateField
 refine wpAny_bind (wpAny_bind (wpAny_load (hself rfl) ?_))
 dsimp only
 refine wpAny_bind (wpAny_update (hself rfl) (wpAny_pure (wpAny_throw ?_)))
 refine wpAny_bind (wpAny_isInstance (T:="StopIteration") (b:=true) ⟨_,Heap.get?_update_self _ (hself rfl) rfl,rfl⟩ isSubtype_stop ?_)
 refine wpAny_pure (hQ _ λb o hb ho=>?_)
 have hb2:=hk2 b o hb ho
 exact (Heap.get?_update_other _ _ (Nat.ne_of_gt (Heap.lt_size hb2))).trans (Heap.get?_push_of_some _ hb2)
theorem qm8 {e:Addr}(hh:A.handled=some (.ref e))(I ax:Addr)(hne:ax≠I)(hei:e≠I)(items:Array Value) :
  Walks prog w A I [I,ax,e] [I] items.size (λi v=>items[i]? = some v) (λi h=>h.IsListIter I ax i∧h.IsList ax items∧Nc h e) where
 sub:=λb hb=>by simp at hb;simp [hb]
 frame:=λ_ _ _ st hk=>⟨st.1.at λo e=>hk I (by simp) o e,st.2.1.at λo e=>hk ax (by simp) o e,let ⟨oe,vs,a,b⟩:=st.2.2;⟨oe,vs,hk e (by simp) _ a,b⟩⟩
 item:=λi s Q E hi st hQ=>by
  refine wpAny_pyNext_list_item st.1 st.2.1 (x:=items[i]) (by simp [hi]) λh' hit' hs'=>?_
  exact hQ _ h' s.toks (by simp [hi]) ⟨hit',st.2.1.extBut hs'.extBut hne,let ⟨oe,vs,a,b⟩:=st.2.2;⟨oe,vs,hs'.extBut _ _ hei a,b⟩⟩ λb o hb e=>hs'.extBut b o (λh=>hb (by simp [h])) e
 done:=λs Q E st hQ=>qqd hh hei st.2.2 st.1 st.2.1 (by simp) λh' he'=>hQ h' s.toks λb o hb e=>he' b o (λh=>hb (by simp [h])) e
 self:=λ_ _ _ _ st hQ=>wpAny_pyIter_listiter st.1 hQ
end
end Mine.Internal
set_option maxRecDepth 100000
namespace Mine.Internal
open PySem PyProof.Rows PySem.Calls
structure XQ (C:Cx):Prop where
 cls:∃ C0,C.B.xc 0=some C0∧∀ c Ca,C.B.xc c=some Ca->QC C.B.hb Ca (if c=0 then [] else [.ref C0])
 inj:∀ c c' Ca,C.B.xc c=some Ca->C.B.xc c'=some Ca->c=c'
noncomputable def XNm (C:Cx):Prop:=∀ (c:Nat) (x:Str),C.N.xns[c]? = some x->∃ Ca,C.B.xc c=some Ca∧C.mg x=some (.ref Ca)
structure PB (C:Cx) (env:Env) (en:Str) (a:Addr) (oe:Obj) (σ:Sg) (φ:List Addr) (h₀ h:Heap) (m:Str->Option Value):Prop where
 R:SR C.B σ φ h
 S:Stp (own env) σ φ h₀ σ φ h
 F:FR C.B [] env [] σ φ h
 n:h.Ns env.locals m
 e:m en=some (.ref a)
 x:h.get? a=some oe
section
variable {C:Cx} {env:Env} {en:Str} {a:Addr} {oe:Obj} {σ:Sg} {φ:List Addr} {h₀ h:Heap} {m:Str->Option Value} {A:Around} {E:Value->Shared->Prop} {s:Shared}
theorem FR.nul {B:Bs}{tbl:List (Str×Nat)}{Γ:Fm}(F:FR B tbl env Γ σ φ h):FR B [] env [] σ φ h :=
 ⟨F.kind,F.gl,F.bi,let ⟨m,hm,_⟩:=F.ns;⟨m,hm,λ_ _ _ e=>by cases e⟩,λ_ _ _ e=>(by cases e),F.nl,F.cells,F.newL,F.newC,F.has⟩
theorem qlq {n i:Nat}{v:V}(h:getV (List.replicate n .undef) i=some v):False:=by
 have:=qfb h
 rw [List.getElem?_replicate] at this
 split at this
 ·rename_i hlt
  have e:getV (List.replicate n V.undef) i=none:=qht (by rw [List.getElem?_replicate,if_pos hlt])
  rw [e] at h;cases h
 ·cases this
theorem FR.all {B:Bs}{tbl:List (Str×Nat)}{n:Nat}(F:FR B [] env [] σ φ h):FR B tbl env (List.replicate n .undef) σ φ h :=
 ⟨F.kind,F.gl,F.bi,let ⟨m,hm,_⟩:=F.ns;⟨m,hm,λ_ _ _ _ e=>(qlq e).elim⟩,λ_ _ _ _ e=>(qlq e).elim,F.nl,F.cells,F.newL,F.newC,F.has⟩
theorem PB.grow {h':Heap}(P:PB C env en a oe σ φ h₀ h m)(hk:∀ b o,h.get? b=some o->h'.get? b=some o):PB C env en a oe σ φ h₀ h' m :=
 ⟨P.R.grow hk,P.S.trans (Stp.grow hk) P.R.len,P.F.mono0 P.R (Stp.grow hk),P.n.keeps hk,P.e,hk _ _ P.x⟩
theorem qfd {B:Bs}{h':Heap}{m':Str->Option Value}(R:SR B σ φ h)(F:FR B [] env [] σ φ h)(hn:h'.Ns env.locals m')(hs:Heap.SameBut env.locals h h'):SR B σ φ h'∧Stp (own env) σ φ h σ φ h'∧FR B [] env [] σ φ h':=by
 obtain ⟨m,hm,_⟩:=F.ns
 have S:Stp (own env) σ φ h σ φ h':=by
  refine ⟨λ_ _ e=>e,λj b hj e=>(by rw [List.getElem?_eq_none hj] at e;cases e),λ_ e=>e,λb o e hl hW=>.inl (hs.extBut b o (λq=>hW (q ▸ .inl rfl)) e),λb o e=>?_⟩
  by_cases q:b=env.locals
  ·rw [q];obtain ⟨o,_,_,e,_⟩:=hn;exact ⟨o,e⟩
  ·exact ⟨o,hs.extBut b o q e⟩
 have R':=R.carry S F.apart (λb o L e=>hs.extBut b o (λq=>F.nl (q ▸ L)) e) (λb o e g=>hs.extBut b o (λq=>by rw [q,F.newL] at e;cases e) g) λL hL ho=>(by rw [F.fad_loc R hL ho];obtain ⟨o,es,ep,e,hd,_⟩:=hn;exact ⟨o,es,ep,e,hd⟩)
 have cellNe:∀ y c u,(y,c)∈env.cells->h.IsCell c u->c≠env.locals:=by
  rintro y c u hy ⟨o,ho,hd⟩ rfl
  refine x3_3 (hm) λo' es ep ho' hd' _=>?_
  rw [ho] at ho';cases ho'
  rw [hd] at hd';cases hd'
 exact ⟨R',S,F.kind,F.gl,F.bi,⟨m',hn,λ_ _ _ e=>by cases e⟩,λ_ _ _ e=>(by cases e),F.nl,λy c hy=>(let ⟨u,hu⟩:=F.cells y c hy;⟨u,hu.sameBut hs (cellNe y c u hy hu)⟩),F.newL,F.newC,F.has⟩
theorem PB.ne (P:PB C env en a oe σ φ h₀ h m){vs:Array Value}(hd:oe.data = .fields vs):a≠env.locals:=λq=>by
 obtain ⟨o,_,_,e,d,_⟩:=P.n
 have:=P.x
 rw [q,e] at this;cases this
 rw [d] at hd;cases hd
theorem PB.store {M:Model}{y:Str}{cv:Value}{Q:Unit->Shared->Prop}{vs:Array Value}(P:PB C env en a oe σ φ h₀ s.heap m)(hd:oe.data = .fields vs)(hk:env.kindOf y=some .local)(hy:y≠en)
  (q:∀ h' tk,PB C env en a oe σ φ h₀ h' (λz=>if z=y then some cv else m z)->Heap.SameBut env.locals s.heap h'->Q () { s with heap:=h',toks:=tk }):wpAny M A (storeName env y cv) Q E s:=by
 refine wpAny_storeName_local hk P.n (λh' hn hs=>?_) (by rw [P.F.kind];rfl)
 obtain ⟨R',S',F'⟩:=qfd P.R P.F hn hs
 refine q h' _ ⟨R',P.S.trans S' P.R.len,F',hn,?_,hs.extBut _ _ (P.ne hd) P.x⟩ hs
 show (if en=y then some cv else m en)=_
 rw [if_neg (Ne.symm hy)];exact P.e
theorem ev_en {M:Model}{p:Pos}{Q:Value->Shared->Prop}(P:PB C env en a oe σ φ h₀ s.heap m)(hk:env.kindOf en=some .local)(hid:okId en=true)(q:Q (.ref a) s):wpAny M A (eval (.Name en p) env) Q E s :=
 wpAny_Name (wpAny_loadName_local P.F.kind hk P.n P.e q) (qg2 hid).1
theorem isi_P (ok:C.Ok)(XN:XNm C)(X:XQ C){c c':Nat}{Ca:Addr}{e:Expr}{Q:Value->Shared->Prop}(P:PB C env en a oe σ φ h₀ s.heap m)(hk:env.kindOf en=some .local)(hid:okId en=true)
  (hx:C.B.xc c=some Ca) (hcls:oe.cls = .ref Ca) (h0:c'≠0) (hc:isiP C.N env.scope.names en c' e=true) (q:∀ tk,Q (.bool (c' == c)) { s with toks:=tk }):wpAny C.M A (eval e env) Q E s:=by
 replace hc:=qbs hc
 refine x4_2 hc ?_;clear hc;intro id p es p3 er4 hc;subst er4
 replace hc:=on_2 hc
 refine x2_2 hc ?_;clear hc;intro e0 ty0 er2 hc;subst er2
 replace hc:=qbq hc
 refine x2_2 hc ?_;clear hc;intro n1 p1 er1 hc;subst er1
 replace hc:=qbq hc
 refine x2_2 hc ?_;clear hc;intro ty p2 er2 hc;subst er2
 obtain ⟨q1,hc⟩:=both hc
 obtain ⟨q2,hc⟩:=both hc
 obtain ⟨q3,hc⟩:=both hc
 obtain ⟨q4,q5⟩:=both hc
 obtain ⟨q2,q2'⟩:=both q2
 obtain ⟨q5,q5'⟩:=both q5
 have e1:=qax.mp q1
 have e2:=qax.mp q3
 subst e2
 obtain ⟨Cb,y1,y2⟩:=XN c' ty (qdg q4)
 obtain ⟨C0,z0,z⟩:=X.cls
 have qa:QC s.heap Ca _:=(z c Ca hx).keeps P.R.based
 have qb:QC s.heap Cb _:=(z c' Cb y1).keeps P.R.based
 have q0:QC s.heap C0 _:=(z 0 C0 z0).keeps P.R.based
 refine wpAny_Call_NameR (qb5 (cv:=.builtin "isinstance") P.R P.F ok q2 q2' (by rw [e1];simp [bnames,sInst]) (qas (.inl ⟨_,rfl⟩) ?_ ?_))
 ·rw [qar rfl];rfl
 ·refine qaw (qar rfl _) ?_
  rw [qar rfl]
  show wpAny C.M A (spliced ((false,eval (.Name n1 p1) env)::(false,eval (.Name ty p2) env)::[])) _ E s
  refine spliced_cons (ev_en P hk hid ?_)
  refine spliced_cons (qdc P.R P.F ok q5 q5' y2 (spliced_nil ?_))
  show wpAny C.M A (call (.builtin "isinstance") [.ref a,.ref Cb]) _ E _
  by_cases hcc:c'=c
  ·subst hcc
   rw [y1] at hx;cases hx
   refine qwp P.x hcls ?_
   have:=q s.toks
   rw [beq_self_eq_true] at this;exact this
  ·have hne:Cb≠Ca:=λe=>hcc (X.inj c' c Ca (e ▸ y1) hx)
   have hne0:Cb≠C0:=λe=>h0 (X.inj c' 0 C0 (e ▸ y1) z0)
   refine isi_no qa ?_ qb P.x hcls ?_ ?_
   ·by_cases hc0:c=0
    ·rw [if_pos hc0];exact .inl rfl
    ·rw [if_neg hc0];exact .inr ⟨C0,rfl,q0⟩
   ·have n1:(Value.ref Cb == Value.ref Ca)=false:=beq_eq_false_iff_ne.mpr λq=>hne (Value.ref.inj q)
    have n2:(Value.ref Cb == Value.ref C0)=false:=beq_eq_false_iff_ne.mpr λq=>hne0 (Value.ref.inj q)
    rw [List.contains_cons,n1]
    split
    ·rfl
    ·show (Value.ref C0::bmVE).contains (.ref Cb)=false
     rw [List.contains_cons,n2];rfl
   ·have:=q (s.toks+1)
    rw [beq_eq_false_iff_ne.mpr hcc] at this;exact this
theorem isi_V (ok:C.Ok)(X:XQ C){c:Nat}{Ca:Addr}{e:Expr}{Q:Value->Shared->Prop}(P:PB C env en a oe σ φ h₀ s.heap m)(hk:env.kindOf en=some .local)(hid:okId en=true)
  (hx:C.B.xc c=some Ca) (hcls:oe.cls = .ref Ca) (hc:isiV env.scope.names en e=true) (q:Q (.bool true) s):wpAny C.M A (eval e env) Q E s:=by
 replace hc:=qbs hc
 refine x4_2 hc ?_;clear hc;intro id p es p3 er4 hc;subst er4
 replace hc:=on_2 hc
 refine x2_2 hc ?_;clear hc;intro e0 ty0 er2 hc;subst er2
 replace hc:=qbq hc
 refine x2_2 hc ?_;clear hc;intro n1 p1 er1 hc;subst er1
 replace hc:=qbq hc
 refine x2_2 hc ?_;clear hc;intro ty p2 er2 hc;subst er2
 obtain ⟨q1,hc⟩:=both hc
 obtain ⟨q2,hc⟩:=both hc
 obtain ⟨q3,hc⟩:=both hc
 obtain ⟨q4,q5⟩:=both hc
 obtain ⟨q2,q2'⟩:=both q2
 obtain ⟨q5,q5'⟩:=both q5
 have e1:=qax.mp q1
 have e2:=qax.mp q3
 have e3:=qax.mp q4
 subst e2
 obtain ⟨C0,z0,z⟩:=X.cls
 have qa:QC s.heap Ca _:=(z c Ca hx).keeps P.R.based
 refine wpAny_Call_NameR (qb5 (cv:=.builtin "isinstance") P.R P.F ok q2 q2' (by rw [e1];simp [bnames,sInst]) (qas (.inl ⟨_,rfl⟩) ?_ ?_))
 ·rw [qar rfl];rfl
 ·refine qaw (qar rfl _) ?_
  rw [qar rfl]
  show wpAny C.M A (spliced ((false,eval (.Name n1 p1) env)::(false,eval (.Name ty p2) env)::[])) _ E s
  refine spliced_cons (ev_en P hk hid ?_)
  refine spliced_cons (qb5 (cv:=.type "ValueError") P.R P.F ok q5 q5' (by rw [e3];simp [bnames]) (spliced_nil ?_))
  show wpAny C.M A (call (.builtin "isinstance") [.ref a,.type "ValueError"]) _ E _
  exact isi_VE qa P.x hcls q
end
end Mine.Internal
set_option maxRecDepth 100000
namespace Mine.Internal
open PySem PyProof.Rows PySem.Calls
section
variable {C:Cx} {env:Env} {tbl:List (Str×Nat)} {Γ:Fm} {en:Str} {a:Addr} {oe:Obj} {σ:Sg} {φ:List Addr} {h₀ h:Heap} {m:Str->Option Value} {A:Around} {E:Value->Shared->Prop} {s:Shared}
theorem qqc {B:Bs}{l:Addr}{xs:List V}{vs:List Value}(hh:A.handled=some (.ref a))(hn:Nc s.heap a)(ha:¬ live σ φ a)(R:SR B σ φ s.heap)(fresh:h₀.get? s.heap.objs.size=none)(hl:s.heap.PlainList l vs.toArray)(nl:¬ live σ φ l)(rs:VRs B σ φ s.heap xs vs) :
  wpAny (model B.prog B.w) A (pyIter (.ref l)) (IterAt B A h₀ σ φ s xs) E s:=by
 obtain ⟨n,ho⟩:=id hl
 obtain ⟨oe,ws,he,hd,h2⟩:=hn
 have hlt:l<s.heap.objs.size:=Heap.lt_size ho
 have hat:a<s.heap.objs.size:=Heap.lt_size he
 refine wpAny_pyIter_list hl.isList ⟨_,_,_,[s.heap.objs.size,l,a],[s.heap.objs.size],vs.toArray.size,(λi v=>vs.toArray[i]? = some v),(λi h=>h.IsListIter s.heap.objs.size l i∧h.IsList l vs.toArray∧Nc h a),rfl,rfl,qaj _ _,fresh,?_⟩
 refine ⟨qm8 hh _ l (Nat.ne_of_lt hlt) (Nat.ne_of_lt hat) vs.toArray,by rw [List.size_toArray,rs.length],⟨⟨_,Heap.get?_push_size _ rfl,rfl,rfl⟩,hl.isList.push _,oe,ws,Heap.get?_push_of_some _ he,hd,h2⟩,λb hb=>List.mem_singleton.mp hb,λi h' st b hb=>?_,λi h' st=>?_,λb hb=>?_,R.fresh_notmem,λi u hu=>?_⟩
 ·obtain ⟨⟨o,h1,h2,h3⟩,⟨o',h4,h5,n',h6⟩,o'',ws',h7,h8,_⟩:=st
  rcases List.mem_cons.mp hb with rfl | hb
  ·exact ⟨o,h1,.inr ⟨⟨_,h3⟩,_,h2⟩⟩
  ·rcases List.mem_cons.mp hb with rfl | hb
   ·exact ⟨o',h4,.inl ⟨_,_,h6⟩⟩
   ·rw [List.mem_singleton.mp hb];exact ⟨o'',h7,.inr ⟨⟨_,h8⟩,_,rfl⟩⟩
 ·obtain ⟨⟨o,h1,h2,h3⟩,_⟩:=st
  exact ⟨o,h1,⟨_,h3⟩,_,h2⟩
 ·rcases List.mem_cons.mp hb with rfl | hb
  ·exact R.fresh_notlive
  ·rcases List.mem_cons.mp hb with rfl | hb
   ·exact nl
   ·rw [List.mem_singleton.mp hb];exact ha
 ·refine x1_2 (rs.getV (k:=i) (v:=u) (by simpa using hu)) λx e1 e2=>?_
  exact ⟨x,e1,e2.grow R (qaj _ _)⟩
theorem var_x (ok:C.Ok){d n i:Nat}{e:Expr}:SEx C d (n+1) A e (.var i):=λenv tbl Γ σ v σ' s φ E hc he R F=>qfj ok (.inl ⟨i,rfl⟩) hc he R F
theorem var_f (ok:C.Ok){d n i:Nat}{l:List Expr}:SFx C d (n+2) A l (some (.var i)):=by
 intro env tbl Γ σ t σ' s φ E hc he R F
 replace hc:=on_1 (show on1 l (λe=>tstOk e (.var i) && chkE C.N (n+1) env.scope.names tbl Γ.length e (.var i))=true from hc)
 refine x1_2 hc ?_;clear hc;intro e er1 hc;subst er1
 obtain ⟨hts,hc⟩:=both hc
 rw [qjj] at he
 refine bindK he λv σ₁ h1 he=>?_
 obtain ⟨h2,e2⟩:=qbw he
 subst e2
 rw [List.forIn_cons]
 simp only [if_true]
 refine wpAny_bind (wpAny_bind ?_)
 rw [qm6 (show plainTest e=true from by
  unfold tstOk at hts
  simpa [exTest] using hts)]
 refine wpAny_bind (qag (qfj ok (.inl ⟨i,rfl⟩) hc h1 R F) λcv φ₁ h₁ tk R₁ S₁ r₁=>?_)
 refine wpAny_bind (wpAny_standAt (wpAny_holding (qec h2 R₁ r₁ λtk'=>wpAny_pure (wpAny_pure ?_))))
 exact ⟨rfl,φ₁,h₁,tk',rfl,R₁,S₁⟩
theorem qjn {gl:List V}{cf:CF}{x:V}:∀ (bs:List Bool) (acc:List V),compGo (evT gl cf (some (.var 1))) (evE gl cf (.var 1)) [x] (bs.map V.bool) acc σ = .ok (acc++(bs.filter id).map V.bool) σ
 | [],acc=>by show Res.ok acc σ=_;simp
 | b::bs,acc=>by
  rw [List.map_cons,qdb]
  have e1:evE gl cf (.var 1) ([x]++[V.bool b]) σ = .ok (.bool b) σ:=rfl
  rw [qjj,e1]
  show (if b=true then (evE gl cf (.var 1) ([x]++[V.bool b]) σ).bind (λv σ=>compGo _ _ [x] (bs.map V.bool) (acc++[v]) σ) else compGo _ _ [x] (bs.map V.bool) acc σ)=_
  rw [e1]
  cases b with
  | true =>
   show compGo _ _ [x] (bs.map V.bool) (acc++[V.bool true]) σ=_
   rw [qjn bs];simp
  | false =>
   show compGo _ _ [x] (bs.map V.bool) acc σ=_
   rw [qjn bs];simp
theorem one_ok (ok:C.Ok){told:Str}{bs:List Bool}{w:Expr}(hh:A.handled=some (.ref a))(hu:A.units+64<cLine)(hn:Nc s.heap a)(R:SR C.B σ φ s.heap)(F:FR C.B [(told,0)] env [.lst (bs.map V.bool)] σ φ s.heap)
  (hl:bs.length≤5) (h1:(bs.filter id).length=1) (hc:chkE C.N 9 env.scope.names [(told,0)] 1 w oneX=true):wpAny C.M A (eval w env) (Post C.B s σ φ σ (.bool true)) E s:=by
 have ha:¬ live σ φ a:=λL=>by
  obtain ⟨oe,ws,he,hd,_⟩:=hn
  obtain ⟨o',e',x⟩:=R.liveObj L
  rw [he] at e';cases e'
  rcases x with ⟨_,_,_,x⟩ | ⟨_,_,_,x⟩ <;> rw [hd] at x <;> cases x
 replace hc:=qhx (show onCompare w (λl ops rs=>on1 ops λop=>on1 rs λr=>copIs .eq op && (setOk r && (chkE C.N (8) env.scope.names [(told,0)] 1 l _ && chkE C.N (8) env.scope.names [(told,0)] 1 r (.cInt 1))))=true from hc)
 refine x4_2 hc ?_;clear hc;intro l ops rs p er4 hc;subst er4
 replace hc:=on_1 hc
 refine x1_2 hc ?_;clear hc;intro op er1 hc;subst er1
 replace hc:=on_1 hc
 refine x1_2 hc ?_;clear hc;intro r er1 hc;subst er1
 obtain ⟨g0,hc⟩:=both hc
 obtain ⟨hs,hc⟩:=both hc
 obtain ⟨hcl,hcr⟩:=both hc
 have:=qnm g0
 subst this
 replace hcl:=qbs (show onCallN l (λid es=>eqS id (oS "len") && (globOk env.scope.names id && (!es.isEmpty && (es.length≤20 && chkEs C.N (7) env.scope.names [(told,0)] 1 es [.comp false (.var 1) .val (.var 0) .cNone (some (.var 1))]))))=true from hcl)
 refine x4_2 hcl ?_;clear hcl;intro id p' es p3 er4 hcl;subst er4
 obtain ⟨q1,hcl⟩:=both hcl
 obtain ⟨q2,hcl⟩:=both hcl
 obtain ⟨q4,hcl⟩:=both hcl
 obtain ⟨q5,q6⟩:=both hcl
 obtain ⟨q2,q3⟩:=both q2
 have:=qax.mp q1
 subst this
 match es,q4,q6 with
 | e0::es,_,q6 =>
 have he0:=qar (env:=env) (qe5 q6) es
 have q6':(notStar e0 && (chkE C.N (6) env.scope.names [(told,0)] 1 e0 (.comp false (.var 1) .val (.var 0) .cNone (some (.var 1))) && chkEs C.N (6) env.scope.names [(told,0)] 1 es []))=true:=q6
 obtain ⟨qc,qn⟩:=both (both q6').2
 match es,qn with
 | [],_ =>
 obtain ⟨ee,cx,px,iter,ifs,csc,posc,rfl,k2,k3,k4,k5,k6⟩:=qjb qc
 have hlen:(bs.map V.bool).length≤roomy:=by rw [List.length_map];unfold roomy;lia
 refine wpAny_Compare1 ?_ (qjv hs _)
 refine wpAny_Call_NameR (qb5 (cv:=.builtin "len") R F ok q2 q3 (by simp [bnames]) (qas (.inl ⟨_,rfl⟩) (qgb q6) ?_))
 refine qaw he0 ?_
 rw [he0]
 show wpAny C.M A (spliced ((false,eval (.ListComp ee [⟨.Name cx px,iter,ifs,0⟩] csc posc) env)::[])) _ E s
 refine spliced_cons ?_
 rw [eval_ListComp]
 refine wpAny_mono (qnl (C:=C) (d:=0) (n:=5) (tbl:=[(told,0)]) (Γ:=[.lst (bs.map V.bool)]) (σ:=σ) (σ':=σ) (σ₂:=σ) (σ₃:=σ) (mm:=false) (φ:=φ) (v:=.lst ((bs.filter id).map V.bool)) (vs:=(bs.filter id).map V.bool) (items:=bs.map V.bool) (use:=none) (Q:=Post C.B s σ φ σ (.lst ((bs.filter id).map V.bool)))
  (λD=>var_x (ok.wav D)) (λD=>?_) k2 (ScOk.of k3) (qja k4) k5 k6 (qjn bs []) ?_ R F ?_ λD K φ' h' tk m' R' S' r' hn nl sK=>qnk R R' S' r' hn nl sK) (λcv s₁ P=>?_) λ_ _ e=>e
 ·exact var_f (n:=3) (ok.wav D)
 ·show putL false ((bs.filter id).map V.bool) σ=_
  unfold putL
  rw [if_pos (by rw [List.length_map,h1];decide)];rfl
 ·obtain ⟨ks,k4⟩:=both (show (setOk iter && (isNoneX .cNone && chkE C.N 4 env.scope.names [(told,0)] 1 iter (.var 0)))=true from k4)
  obtain ⟨_,k4⟩:=both k4
  refine qag (qfj (d:=0) (n:=3) ok (.inl ⟨0,rfl⟩) k4 rfl R F) λcv φ₁ h₁ tk R₁ S₁ r₁=>?_
  refine inLst (z:=λcv=>wpAny C.M A (pyIter cv) _ E _) r₁ λl vs hl nl rs hn'=>?_
  have ha1:¬ live σ φ₁ a:=λL=>by
   rcases S₁.live R.len L with x | x
   ·exact ha x
   ·obtain ⟨_,_,e,_⟩:=hn;rw [e] at x;cases x
  have hn1:Nc h₁ a:=by
   obtain ⟨oe,ws,he,hd,h2⟩:=hn
   exact ⟨oe,ws,(S₁.keep a oe he ha λx=>x).at (λ_ _ x=>by rw [hd] at x;cases x),hd,h2⟩
  have fresh:s.heap.get? h₁.objs.size=none:=by
   cases e:s.heap.get? h₁.objs.size with
   | none=>rfl
   | some o=>obtain ⟨o',e'⟩:=S₁.ex _ o e;exact qah ((qb6 h₁).symm.trans e')
  exact wpAny_mono (qqc (B:=C.B) (s:={ s with heap:=h₁,toks:=tk }) (h₀:=s.heap) hh hn1 ha1 R₁ fresh hl nl.1 rs) (λit s₂ P₂=>⟨φ₁,h₁,tk,R₁,S₁,P₂⟩) λ_ _ e=>e
 ·refine x3_4 P ?_;clear P;intro φ₁ h₁ tk er3 R₁ S₁ r₁;subst er3
  refine spliced_nil ?_
  show wpAny C.M A (call (.builtin "len") [cv]) _ E _
  refine qvz (B:=C.B) (σ:=σ) (φ:=φ₁) (n:=1) (v:=.lst ((bs.filter id).map V.bool)) (by show some ((bs.filter id).map V.bool).length=_;rw [List.length_map,h1]) ⟨rfl,rfl⟩ R₁ r₁ λcv h' tk' hk r=>?_
  refine qag (s:={ s with heap:=h',toks:=tk' }) (qes (C:=C) (d:=0) (n:=7) (tbl:=[(told,0)]) (Γ:=[.lst (bs.map V.bool)]) (σ:=σ) (x:=.cInt 1) (.inr (.inr (.inl ⟨_,rfl⟩))) hcr rfl (R₁.grow hk)) λcw φ₂ h₂ tk₂ R₂ S₂ r₂=>?_
  refine qsw (B:=C.B) (σ:=σ) (φ:=φ₂) (op:=.eq) (a:=.int ((1:Nat):Int)) (b:=.int 1) (t:=true) rfl ⟨rfl,rfl⟩ R₂ (r.mono (R₁.grow hk) S₂ Apart.none) r₂ hu λtk₃=>?_
  exact ⟨φ₂,h₂,tk₃,rfl,R₂,(S₁.trans (Stp.grow hk) R.len).trans S₂ R.len,rfl⟩
end
end Mine.Internal
namespace Mine.Internal
open PySem PyProof.Rows PySem.Calls
noncomputable def XFacts (C:Cx):Prop:=∀ (c:Nat) (x:Str),C.N.xns[c]? = some x->∃ Ca,C.B.xc c=some Ca∧C.mg x=some (.ref Ca)
inductive XC1 (C:Cx) (c:Nat) (Ca:Addr):Prop
 | mk (bm:List Value) (N:Addr) (nm q:Str) (bs:List Value) (hdct:Bool) (sn:List Str) (sub:List Value) (ab:Bool) (col:Option Bool) (dd:Option Addr) (k0 k1 k2 k3 k5:Option Value)
  (hC:C.B.hb.get? Ca=some (excClassObj nm q Ca N bs bm hdct sn sub ab col dd k0 k1 k2 k3 k5 "ValueError.__new__")) (hB:bm.contains (.type "BaseException")=true)
  (hm:∀ c' Cb,C.B.xc c'=some Cb->(Value.ref Ca::bm).contains (.ref Cb)=(c' == c || c' == 0)):XC1 C c Ca
noncomputable def XCls (C:Cx):Prop:=∀ (c:Nat) (Ca:Addr),C.B.xc c=some Ca->XC1 C c Ca
section
variable {gl:List V} {cf:CF} {e:Ex} {hs:List (Nat×List Nat)} {Γ:Fm} {σ σ':Sg} {p:Fl×Fm} {c:Nat}
theorem tryC_el {z:Prop}(h:exS gl cf (.tryC e hs) Γ σ = .ok p σ')(k1:∀ v,evE gl cf e Γ σ = .ok v σ'->p=(.ret v,Γ)->z)(k2:∀ c t,evE gl cf e Γ σ = .ex c σ'->hs.lookup c=some t->p=(.ret (.str t),Γ)->z):z:=by
 replace h:(match evE gl cf e Γ σ with
  | .ok v σ=>.ok (.ret v,Γ) σ
  | .bad=>.bad
  | .ex c σ=>match hs.lookup c with | some s=>.ok (.ret (.str s),Γ) σ | none=>.bad)=Res.ok p σ':=h
 generalize hv:evE gl cf e Γ σ=r at h
 cases r with
 | ok v s=>cases h;exact k1 v hv rfl
 | bad=>cases h
 | ex c s =>
  replace h:(match hs.lookup c with | some t=>Res.ok (Fl.ret (.str t),Γ) s | none=>.bad)=Res.ok p σ':=h
  generalize hl:hs.lookup c=o at h
  cases o with
  | none=>cases h
  | some t=>cases h;exact k2 c t hv hl rfl
theorem tryC_nx (h:exS gl cf (.tryC e hs) Γ σ = .ex c σ'):False:=by
 replace h:(match evE gl cf e Γ σ with
  | .ok v σ=>.ok (.ret v,Γ) σ
  | .bad=>.bad
  | .ex c σ=>match hs.lookup c with | some s=>.ok (.ret (.str s),Γ) σ | none=>.bad)=(Res.ex c σ':Res (Fl×Fm)):=h
 generalize evE gl cf e Γ σ=r at h
 cases r with
 | ok v s=>cases h
 | bad=>cases h
 | ex d s =>
  replace h:(match hs.lookup d with | some t=>Res.ok (Fl.ret (.str t),Γ) s | none=>.bad)=(Res.ex c σ':Res (Fl×Fm)):=h
  generalize hs.lookup d=o at h
  cases o <;> cases h
theorem tryP_el {z:Prop}(h:exS gl cf (.tryP e) Γ σ = .ok p σ')(k1:∀ v,evE gl cf e Γ σ = .ok v σ'->p=(.next,Γ)->z)(k2:∀ c,evE gl cf e Γ σ = .ex c σ'->1≤c∧c≤5->p=(.ret (.bool true),List.replicate Γ.length .undef)->z):z:=by
 replace h:(match evE gl cf e Γ σ with
  | .ok _ σ=>.ok (.next,Γ) σ
  | .bad=>.bad
  | .ex c σ=>if 1≤c∧c≤5 then .ok (.ret (.bool true),List.replicate Γ.length .undef) σ else .bad)=Res.ok p σ':=h
 generalize hv:evE gl cf e Γ σ=r at h
 cases r with
 | ok v s=>cases h;exact k1 v hv rfl
 | bad=>cases h
 | ex c s =>
  by_cases hc:1≤c∧c≤5
  ·replace h:=(if_pos hc).symm.trans h;cases h;exact k2 c hv hc rfl
  ·replace h:=(if_neg hc).symm.trans h;cases h
theorem tryP_nx (h:exS gl cf (.tryP e) Γ σ = .ex c σ'):False:=by
 replace h:(match evE gl cf e Γ σ with
  | .ok _ σ=>.ok (.next,Γ) σ
  | .bad=>.bad
  | .ex c σ=>if 1≤c∧c≤5 then .ok (.ret (.bool true),List.replicate Γ.length .undef) σ else .bad)=(Res.ex c σ':Res (Fl×Fm)):=h
 generalize evE gl cf e Γ σ=r at h
 cases r with
 | ok v s=>cases h
 | bad=>cases h
 | ex d s =>
  by_cases hc:1≤d∧d≤5
  ·replace h:=(if_pos hc).symm.trans h;cases h
  ·replace h:=(if_neg hc).symm.trans h;cases h
end
theorem XP.fan1 {B:Bs}{W:Addr->Prop}{s:Shared}{σ σ':Sg}{φ:List Addr}{c:Nat}{L:Addr}{v:Value}{s':Shared}(x:XP B W s σ φ σ' c (· = some .none) v s'):XP B W s σ φ σ' c (Fan L) v s' :=
 by cases x with | mk φ' h' tk a Ca fl R' S' K hx hn hfl r=>exact .mk φ' h' tk a Ca fl R' S' K hx hn (.inr (.inl hfl)) r
theorem qsg {M:Model}{A:Around}{E:Value->Shared->Prop}{s:Shared}{e Ca Cb:Addr}{oe:Obj}{b:Bool}{Q:Bool->Shared->Prop}
  {bm:List Value} {N:Addr} {nm q:Str} {bs:List Value} {hdct:Bool} {sn:List Str} {sub:List Value} {ab:Bool} {col:Option Bool} {dd:Option Addr} {k0 k1 k2 k3 k5:Option Value} {n1:String}
  {bm':List Value} {N':Addr} {nm' q':Str} {bs':List Value} {hdct':Bool} {sn':List Str} {sub':List Value} {ab':Bool} {col':Option Bool} {dd':Option Addr} {j0 j1 j2 j3 j5:Option Value} {n2:String}
  (hC:s.heap.get? Ca=some (excClassObj nm q Ca N bs bm hdct sn sub ab col dd k0 k1 k2 k3 k5 n1)) (hD:s.heap.get? Cb=some (excClassObj nm' q' Cb N' bs' bm' hdct' sn' sub' ab' col' dd' j0 j1 j2 j3 j5 n2))
  (he:s.heap.get? e=some oe) (hcls:oe.cls = .ref Ca) (hbase:bm'.contains (.type "BaseException")=true) (hb:(Value.ref Ca::bm).contains (.ref Cb)=b) (hq:Q b s) :
  wpAny M A (excMatches (.ref e) (.ref Cb)) Q E s:=by
 obtain ⟨hp,g,d,t,os⟩:=s
 have hcB:(Value.ref Cb::bm').contains (.type "BaseException")=true:=by rw [List.contains_cons,hbase,Bool.or_true]
 have f:=tc_notTuple
 unfold excMatches
 repeat (first | (with_reducible refine wpAny_loadPart_at he ?_;rw [hcls]) | with_reducible refine wpAny_loadPart_at hD ?_ | (with_reducible refine wpAny_isSubtype_exc hD ?_;rw [hcB]) | (with_reducible refine wpAny_isSubtype_exc hC ?_;rw [hb]) | wp_step)
 cases b <;> (wp_walk;exact hq)
section
variable {C:Cx} {d n:Nat} {env:Env} {tbl:List (Str×Nat)} {Γ:Fm} {σ σ':Sg} {c:Nat} {A:Around} {s:Shared} {φ:List Addr} {outer:List Env} {E:Value->Shared->Prop}
theorem XP.none_mark {B:Bs}{W:Addr->Prop}{M:Model}{A':Around}{v:Value}{s':Shared}{Q:Unit->Shared->Prop}(F:Fos B W σ φ s.heap outer)(R0:SR B σ φ s.heap)(x:XP B W s σ φ σ' c (· = some .none) v s')
  (k:∀ s'',XP B W s σ φ σ' c (· = some .none) v s''->Q () s''):wpAny M A' (setFlight v none) Q E s' :=
 wpAny_mono (qfa (fr:=none) F R0 (λe=>by cases e) x) (λ_ s'' y=>k s'' y) λ_ _ e=>e
theorem XP.mtch {W:Addr->Prop}{M:Model}{k:Nat}{Cb:Addr}{f:Option Value->Prop}{v:Value}{s':Shared}{Q:Bool->Shared->Prop}(XC:XCls C)(y:C.B.xc k=some Cb)(x:XP C.B W s σ φ σ' c f v s')(q:Q (k == c || k == 0) s'):wpAny M A (excMatches v (.ref Cb)) Q E s':=by
 obtain ⟨φ',h',tk,a,Ca,fl,R',S',K,hx,hn,hfl,oe,vs,e1,e2,_⟩:=x
 obtain ⟨bm',N',nm',qq',bs',hdct',sn',sub',ab',col',dd',j0,j1,j2,j3,j5,z1,z2,_⟩:=XC k Cb y
 obtain ⟨bm,N,nm,qq,bs,hdct,sn,sub,ab,col,dd,i0,i1,i2,i3,i5,w1,w2,w3⟩:=XC c Ca hx
 exact qsg (s:={ s with heap:=h',toks:=tk }) (R'.based _ _ w1) (R'.based _ _ z1) e1 e2 z2 (w3 k Cb y) q
theorem XP.isref {W:Addr->Prop}{f:Option Value->Prop}{v:Value}{s':Shared}(x:XP C.B W s σ φ σ' c f v s'):∃ a,v = .ref a:=by cases x with | mk _ _ _ a=>exact ⟨a,rfl⟩
theorem XP.rf {f:Option Value->Prop}{v:Value}{s':Shared}(R:SR C.B σ φ s.heap)(F:FR C.B tbl env Γ σ φ s.heap)(x:XP C.B W0 s σ φ σ' c f v s'):∃ φ',SR C.B σ' φ' s'.heap∧FR C.B tbl env Γ σ' φ' s'.heap :=
 by cases x with | mk φ' _ _ _ _ _ R' S'=>exact ⟨φ',R',F.mono0 R S'⟩
theorem hnd_x (ok:C.Ok)(XF:XFacts C)(XC:XCls C)(hf:Fos C.B W0 σ φ s.heap outer)(R:SR C.B σ φ s.heap)(F:FR C.B tbl env Γ σ φ s.heap){v:Value}{t:List Nat} :
  ∀ (H:List ExceptHandler) (hs:List (Nat×List Nat)) (s':Shared),hndOk C.N env.scope.names H hs=true->hs.lookup c=some t->XP C.B W0 s σ φ σ' c (· = some .none) v s' ->
   wpAny C.M A (handleBy v env H) (PostS C.B tbl env Γ.length s σ φ σ' (.ret (.str t),Γ)) E s'
 | [],[],_,_,hl,_=>by cases hl
 | [],_::_,_,hc,_,_=>qaa hc
 | _::_,[],_,hc,_,_=>qaa hc
 | h::r,(k,u)::q,s',hc0,hl,x=>by
  obtain ⟨hc1,hr⟩:=both (show (onHnd h _ && hndOk C.N env.scope.names r q)=true from hc0)
  clear hc0
  obtain ⟨ty,nm,b,pos⟩:=h
  obtain ⟨c1,hc⟩:=both (show (noneO' nm && onO ty _)=true from hc1)
  clear hc1
  cases nm with
  | some m=>exact qaa c1
  | none =>
  replace hc:=on_o hc
  refine x1_2 hc ?_;clear hc;intro ty er1 hc;subst er1
  replace hc:=qbq hc
  refine x2_2 hc ?_;clear hc;intro id p er2 hc;subst er2
  have q1:=(both hc).1
  replace hc:=(both hc).2
  have q0:=(both hc).1
  replace hc:=(both hc).2
  obtain ⟨k0,q23⟩:=both q0
  obtain ⟨q2,q3⟩:=both q23
  replace hc:=on_1 hc
  refine x1_2 hc ?_;clear hc;intro st er1 hc;subst er1
  replace hc:=qeb hc
  refine x2_2 hc ?_;clear hc;intro o pr er2 hc;subst er2
  replace hc:=on_o hc
  refine x1_2 hc ?_;clear hc;intro e er1 hc;subst er1
  obtain ⟨Cb,y1,y2⟩:=XF k id (qdg q1)
  refine x1_2 (x.rf R F) λφ' R' F'=>?_
  refine wpAny_handleBy_cons (codeAny_handlers_test (qdc R' F' ok q2 q3 y2 (x.mtch XC y1 ?_))) (by intro z;obtain ⟨a,e⟩:=x.isref;rw [e] at z;cases z)
  have k0':(k == 0)=false:=by rw [bne_iff_ne] at k0;exact beq_false_of_ne k0
  rw [k0',Bool.or_false]
  cases hk:k == c with
  | true =>
   have hk:=beq_iff_eq.mp hk
   subst hk
   have hl:(some u:Option (List Nat))=some t:=by rw [← hl,List.lookup_cons];simp
   cases hl
   refine codeAny_handlers_suite (x.none_mark hf R λs'' x''=>?_)
   obtain ⟨φ₂,h₂,tk₂,a₂,C₂,fl₂,R₂,S₂,K₂,_⟩:=x''
   refine wpAny_execs_cons (wpAny_Return_some ?_)
   refine wpAny_mono (qes (C:=C) (d:=0) (n:=0) (tbl:=tbl) (Γ:=Γ) (σ:=σ') (x:=.cStr t) (.inr (.inr (.inr ⟨_,rfl⟩))) hc rfl R₂) (λcv s₃ P=>?_) λ_ _ e=>e
   obtain ⟨φ₃,h₃,tk₃,rfl,R₃,S₃,r₃⟩:=P
   exact ⟨φ₃,h₃,tk₃,rfl,R₃,(S₂.trans S₃ R.len).w0,F.mono0 R (S₂.trans S₃ R.len),rfl,.ret r₃⟩
  | false =>
   have hl:q.lookup c=some t:=by
    rw [List.lookup_cons] at hl
    have:(c == k)=false:=by rw [← hk];exact Bool.beq_comm
    rw [this] at hl;exact hl
   exact hnd_x ok XF XC hf R F r q _ hr hl x
theorem sS_tryC (ok:C.Ok)(XF:XFacts C)(XC:XCls C)(H:SE C d n)(X:XE C d n){e:Expr}{x:Ex}{H₀:List ExceptHandler}{hs:List (Nat×List Nat)}{pos pr:Pos}{p:Fl×Fm}(hc:chkE C.N n env.scope.names tbl Γ.length e x=true)(hh:hndOk C.N env.scope.names H₀ hs=true)(hne:hs≠[])
  (he:exS C.gl (callF C.gl C.P d) (.tryC x hs) Γ σ = .ok p σ') (hr:Room C.B.fl d A) (G:Fx C.B A env outer σ φ s.heap) (R:SR C.B σ φ s.heap) (F:FR C.B tbl env Γ σ φ s.heap) :
  wpAny C.M A (exec (.Try [.Return (some e) pr] H₀ [] [] pos) env) (PostS C.B tbl env Γ.length s σ φ σ' p) E s:=by
 cases H₀ with
 | nil=>cases hs with
  | nil=>exact (hne rfl).elim
  | cons _ _=>exact qaa hh
 | cons h₀ H₀ =>
  refine wpAny_Try_except ?_
  refine tryC_el he (λv hv e=>?_) λc t hv hl e=>?_
  ·subst e
   refine wpAny_execs_cons (wpAny_Return_some (qag (H _ x env tbl Γ σ v σ' A s φ _ hc hv hr R F) λcv φ₁ h₁ tk R₁ S₁ r₁=>?_))
   exact ⟨φ₁,h₁,tk,rfl,R₁,S₁.w0,F.mono0 R S₁,rfl,.ret r₁⟩
  ·subst e
   refine wpAny_execs_cons (wpAny_Return_some (wpAny_mono (X _ x env tbl Γ σ c σ' A s φ outer _ hc hv hr G R F) (λ_ _ q=>q) λv s₁ y=>?_))
   refine wpAny_mono (qn9 G.fr G.loc (G.all F) R y.fan1) (λ_ s₂ z=>?_) λ_ _ e=>e
   refine wpAny_mono (qfa (fr:=none) (G.all F) R (λe=>by cases e) z) (λ_ s₃ z=>?_) λ_ _ e=>e
   exact hnd_x ok XF XC (G.all F) R F (h₀::H₀) hs s₃ hh hl z
end
end Mine.Internal
set_option maxRecDepth 100000
namespace Mine.Internal
open PySem PyProof.Rows PySem.Calls
theorem XQ.cls' {C:Cx}(X:XQ C):XCls C:=by
 intro c Ca hx
 obtain ⟨C0,z0,z⟩:=X.cls
 obtain ⟨nm,q,N,bs,hdct,sn,sub,ab,col,dd,k0,k1,k2,k3,k5,mN,hC,hN,hm⟩:=z c Ca hx
 refine ⟨_,N,nm,q,bs,hdct,sn,sub,ab,col,dd,k0,k1,k2,k3,k5,hC,QT.hasB (by decide),λc' Cb hb=>?_⟩
 have eq:∀ {c c':Nat} {Ca Cb:Addr},C.B.xc c=some Ca->C.B.xc c'=some Cb->(Value.ref Cb == Value.ref Ca)=(c' == c):=λ{c c' Ca Cb} h1 h2=>by
  by_cases e:c'=c
  ·subst e;rw [h1] at h2;cases h2;simp
  ·rw [beq_eq_false_iff_ne.mpr e]
   exact beq_eq_false_iff_ne.mpr λq=>e (X.inj c' c Ca (Value.ref.inj q ▸ h2) h1)
 rw [List.contains_cons,eq hx hb]
 by_cases h0:c=0
 ·subst h0
  rw [if_pos rfl]
  cases c' == 0 <;> rfl
 ·rw [if_neg h0]
  show (c' == c || (Value.ref C0::bmVE).contains (.ref Cb))=_
  rw [List.contains_cons,eq z0 hb]
  cases c' == c <;> cases c' == 0 <;> rfl
section
variable {C:Cx} {env:Env} {tbl:List (Str×Nat)} {Γ:Fm} {en:Str} {a:Addr} {oe:Obj} {σ:Sg} {φ:List Addr} {h₀ h:Heap} {m:Str->Option Value} {A:Around} {E:Value->Shared->Prop} {s:Shared}
theorem qnc {B:Bs}:∀ (bs:List Bool),VRs B σ φ h (bs.map V.bool) (bs.map Value.bool)
 | []=>.nil
 | b::bs=>.cons (.bool b) (qnc bs)
theorem qlf {bs:List Bool}{tk:Nat}{Q:Value->Shared->Prop}(P:PB C env en a oe σ φ h₀ s.heap m)(hl:bs.length≤5)
  (q:∀ l h',PB C env en a oe σ φ h₀ h' m->(∀ b o,s.heap.get? b=some o->h'.get? b=some o)->VR C.B σ φ h' (.lst (bs.map V.bool)) (.ref l)->Q (.ref l) { s with heap:=h',toks:=tk }):wpAny C.M A (newList (bs.map Value.bool)) Q E { s with toks:=tk }:=by
 refine wpAny_newObj_type ?_ (by show (bs.map Value.bool).toArray.size≤sizeLine;rw [List.size_toArray,List.length_map];exact Nat.le_trans hl (by decide))
 exact q _ _ (P.grow (qaj _ _)) (qaj _ _) (VR.newLst (s:=s) P.R (qnc bs) (by rw [List.length_map];unfold roomy;lia) 0)
theorem quw {c:Nat}(h1:1≤c)(h2:c≤5):(([1 == c,2 == c,3 == c,4 == c,5 == c]:List Bool).filter id).length=1:=by
 have:∀ a,a<6->1≤a->(([1 == a,2 == a,3 == a,4 == a,5 == a]:List Bool).filter id).length=1:=by decide
 exact this c (Nat.lt_succ_of_le h2) h1
theorem FR.told {B:Bs}{told:Str}{v:V}{cv:Value}(F:FR B [] env [] σ φ h)(hn:h.Ns env.locals m)(kt:env.kindOf told=some .local)(hm:m told=some cv)(r:VR B σ φ h v cv):FR B [(told,0)] env [v] σ φ h:=by
 refine ⟨F.kind,F.gl,F.bi,⟨m,hn,λx i u e1 e2 e3=>?_⟩,λx i u e1 e2 e3=>?_,F.nl,F.cells,F.newL,F.newC,F.has⟩
 ·rw [List.lookup_cons] at e1
  split at e1
  ·rename_i hxt
   cases e1
   have:=qfb e2
   cases this
   exact ⟨cv,beq_iff_eq.mp hxt ▸ hm,r⟩
  ·cases e1
 ·rw [List.lookup_cons] at e1
  split at e1
  ·rename_i hxt
   rw [beq_iff_eq.mp hxt,kt] at e3
   rcases e3 with e3 | e3 <;> cases e3
  ·cases e1
noncomputable def Fin1 (C:Cx)(env:Env)(s:Shared)(σ:Sg)(φ:List Addr)(h₀:Heap)(f:Flow)(s':Shared):Prop:=f = .ret (.bool true)∧∃ φ' h' tk,s' = { s with heap:=h',toks:=tk }∧SR C.B σ φ' h'∧Stp (own env) σ φ h₀ σ φ' h'∧FR C.B [] env [] σ φ' h'
theorem body_P (ok:C.Ok)(XN:XNm C)(X:XQ C){c:Nat}{Ca:Addr}{vs:Array Value}(hc1:1≤c∧c≤5)(hx:C.B.xc c=some Ca)(hcls:oe.cls = .ref Ca)(hd:oe.data = .fields vs)(hv2:vs[2]? = some .none)(hh:A.handled=some (.ref a))(hu:A.units+64<cLine)
  (P:PB C env en a oe σ φ h₀ s.heap m) (hk:env.kindOf en=some .local) (hid:okId en=true) {told:Str} {p1 p2 p3 p4 p5 p6 p7 p8 p9 p10:Pos} {e1 e2 e3 e4 e5 e6 w:Expr} (kt:env.kindOf told=some .local) (it:okId told=true) (ht:told≠en)
  (c1:isiP C.N env.scope.names en 1 e1=true) (c2:isiP C.N env.scope.names en 2 e2=true) (c3:isiP C.N env.scope.names en 3 e3=true) (c4:isiP C.N env.scope.names en 4 e4=true) (c5:isiP C.N env.scope.names en 5 e5=true)
  (c6:isiV env.scope.names en e6=true) (c7:chkE C.N 9 env.scope.names [(told,0)] 1 w oneX=true) :
  wpAny C.M A (execs [.Assign [.Name told p1] (.List [e1,e2,e3] p2) p3,.Assign [.Name told p4] (.BinOp (.Name told p5) .Add (.List [e4,e5] p6) p7) p8,.Return (some (.BoolOp .And [e6,w] p9)) p10] env) (Fin1 C env s σ φ h₀) E s:=by
 have ns:∀ {i:Nat} {e:Expr},isiP C.N env.scope.names en i e=true->notStar e=true:=λ{i e} h=>by
  obtain ⟨_,_,_,_,rfl,_⟩:=qbs h;rfl
 refine wpAny_execs_cons (wpAny_Assign_Name (List_ ?_) (nosw rfl _ _))
 rw [qar (ns c1),qar (ns c2),qar (ns c3)]
 show wpAny C.M A (spliced ((false,eval e1 env)::(false,eval e2 env)::(false,eval e3 env)::[])) _ E s
 refine spliced_cons (isi_P ok XN X P hk hid hx hcls (by decide) c1 λt1=>?_)
 refine spliced_cons (isi_P (s:={ s with toks:=t1 }) ok XN X P hk hid hx hcls (by decide) c2 λt2=>?_)
 refine spliced_cons (isi_P (s:={ s with toks:=t2 }) ok XN X P hk hid hx hcls (by decide) c3 λt3=>spliced_nil ?_)
 refine qlf (bs:=[1 == c,2 == c,3 == c]) P (by show 3≤5;decide) λl1 h1 P1 k1 r1=>?_
 refine PB.store (s:={ s with heap:=h1,toks:=t3 }) P1 hd kt ht λh2 t4 P2 s2=>?_
 have r2:VR C.B σ φ h2 (.lst ([1 == c,2 == c,3 == c].map V.bool)) (.ref l1):=r1.mono P1.R (qfd P1.R P1.F P2.n s2).2.1 P1.F.apart
 refine wpAny_execs_cons (wpAny_Assign_Name (wpAny_BinOp ?_) (nosw rfl _ _))
 refine wpAny_Name (wpAny_loadName_local P2.F.kind kt P2.n (if_pos rfl) ?_) (qg2 it).1
 refine List_ ?_
 rw [qar (ns c4),qar (ns c5)]
 show wpAny C.M A (spliced ((false,eval e4 env)::(false,eval e5 env)::[])) _ E _
 refine spliced_cons (isi_P (s:={ s with heap:=h2,toks:=t4 }) ok XN X P2 hk hid hx hcls (by decide) c4 λt5=>?_)
 refine spliced_cons (isi_P (s:={ s with heap:=h2,toks:=t5 }) ok XN X P2 hk hid hx hcls (by decide) c5 λt6=>spliced_nil ?_)
 refine qlf (s:={ s with heap:=h2,toks:=t5 }) (bs:=[4 == c,5 == c]) P2 (by show 2≤5;decide) λl3 h3 P3 k3 r3=>?_
 refine qvx (B:=C.B) (σ:=σ) (φ:=φ) (s:={ s with heap:=h3,toks:=t6 }) (v:=.lst ([1 == c,2 == c,3 == c,4 == c,5 == c].map V.bool)) rfl P3.R (r2.grow P2.R k3) r3 λcv h4 t7 k4 r4=>?_
 have P4:=P3.grow k4
 refine PB.store (s:={ s with heap:=h4,toks:=t7 }) P4 hd kt ht λh5 t8 P5 s5=>?_
 have r5:VR C.B σ φ h5 (.lst ([1 == c,2 == c,3 == c,4 == c,5 == c].map V.bool)) cv:=r4.mono P4.R (qfd P4.R P4.F P5.n s5).2.1 P4.F.apart
 refine wpAny_execs_cons (wpAny_Return_some ?_)
 show wpAny C.M A (eval e6 env >>= _) _ E _
 refine wpAny_bind (isi_V (s:={ s with heap:=h5,toks:=t8 }) ok X P5 hk hid hx hcls c6 ?_)
 refine wpAny_bind (wpAny_standAt (wpAny_bind (wpAny_holding (wpAny_truthy_bool ?_))))
 show wpAny C.M A (eval w env) _ E _
 refine qag (one_ok (s:={ s with heap:=h5,toks:=t8 }) ok hh hu ⟨oe,vs,P5.x,hd,hv2⟩ P5.R (P5.F.told P5.n kt (if_pos rfl) r5) (by show 5≤5;decide) (quw hc1.1 hc1.2) c7) λcw φ₆ h₆ t9 R₆ S₆ r₆=>?_
 refine inBool (z:=λcw=>Fin1 C env s σ φ h₀ (.ret cw) _) r₆ ⟨rfl,φ₆,h₆,t9,rfl,R₆,P5.S.trans S₆.w0 P5.R.len,P5.F.mono0 P5.R S₆⟩
end
end Mine.Internal
set_option maxRecDepth 100000
namespace Mine.Internal
open PySem PyProof.Rows PySem.Calls
inductive HPd (N:Nm) (sc:List (Str×NameKind)):List ExceptHandler->Prop
 | mk (t0 en tl:Str) (pt p1 p2 p3 p4 p5 p6 p7 p8 p9 p10 ph:Pos) (x1 x2 x3 x4 x5 x6 w:Expr) (q0:nameAt N.xns 0 t0=true) (g0:globOk sc t0=true) (q1:isLoc (lkS sc en)=true) (hid:okId en=true) (q2:isLoc (lkS sc tl)=true) (it:okId tl=true) (q3:(!eqS tl en)=true)
  (c1:isiP N sc en 1 x1=true) (c2:isiP N sc en 2 x2=true) (c3:isiP N sc en 3 x3=true) (c4:isiP N sc en 4 x4=true) (c5:isiP N sc en 5 x5=true) (c6:isiV sc en x6=true) (c7:chkE N 9 sc [(tl,0)] 1 w oneX=true) :
  HPd N sc [⟨some (.Name t0 pt),some en,[.Assign [.Name tl p1] (.List [x1,x2,x3] p2) p3,.Assign [.Name tl p4] (.BinOp (.Name tl p5) .Add (.List [x4,x5] p6) p7) p8,.Return (some (.BoolOp .And [x6,w] p9)) p10],ph⟩]
theorem qt7 {N:Nm}{sc:List (Str×NameKind)}{H:List ExceptHandler}(hc:hndP N sc H=true):HPd N sc H:=by
 replace hc:=on_1 hc
 refine x1_2 hc ?_;clear hc;intro hd er1 hc;subst er1
 obtain ⟨ty,nm,b,ph⟩:=hd
 replace hc:=on_o (show onO nm (λm=>onO ty λt=>_)=true from hc)
 refine x1_2 hc ?_;clear hc;intro en er1 hc;subst er1
 replace hc:=on_o hc
 refine x1_2 hc ?_;clear hc;intro ty er1 hc;subst er1
 replace hc:=qbq hc
 refine x2_2 hc ?_;clear hc;intro t0 pt er2 hc;subst er2
 have q0:=(both hc).1
 replace hc:=(both hc).2
 have q0':=(both q0).2
 replace q0:=(both q0).1
 have q1:=(both hc).1
 replace hc:=(both hc).2
 have hid:=(both q1).2
 replace q1:=(both q1).1
 replace hc:=on_3 hc
 refine x3_2 hc ?_;clear hc;intro s1 s2 s3 er hc;subst er
 replace hc:=qea hc
 refine x3_2 hc ?_;clear hc;intro t1 e1 p3 er hc;subst er
 replace hc:=on_1 hc
 refine x1_2 hc ?_;clear hc;intro t1 er1 hc;subst er1
 replace hc:=qbq hc
 refine x2_2 hc ?_;clear hc;intro told p1 er2 hc;subst er2
 have q2:=(both hc).1
 replace hc:=(both hc).2
 have it:=(both q2).2
 replace q2:=(both q2).1
 have q3:=(both hc).1
 replace hc:=(both hc).2
 have q4:=(both hc).1
 replace hc:=(both hc).2
 have q5:=(both hc).1
 have q6:=(both hc).2
 clear hc
 replace q4:=qmt q4
 refine x2_2 q4 ?_;clear q4;intro es p2 er q4;subst er
 replace q4:=on_3 q4
 refine x3_2 q4 ?_;clear q4;intro x1 x2 x3 er q4;subst er
 have c1:=(both q4).1
 replace q4:=(both q4).2
 have c2:=(both q4).1
 have c3:=(both q4).2
 clear q4
 replace q5:=qea q5
 refine x3_2 q5 ?_;clear q5;intro t2 e2 p8 er q5;subst er
 replace q5:=on_1 q5
 refine x1_2 q5 ?_;clear q5;intro t2 er1 q5;subst er1
 replace q5:=qbq q5
 refine x2_2 q5 ?_;clear q5;intro td p4 er2 q5;subst er2
 have k1:=(both q5).1
 replace q5:=(both q5).2
 replace q5:=qvv q5
 refine x4_2 q5 ?_;clear q5;intro l op r p7 er q5;subst er
 replace q5:=qbq q5
 refine x2_2 q5 ?_;clear q5;intro tl p5 er2 q5;subst er2
 have k2:=(both q5).1
 replace q5:=(both q5).2
 have k3:=(both q5).1
 replace q5:=(both q5).2
 replace q5:=qmt q5
 refine x2_2 q5 ?_;clear q5;intro es p6 er q5;subst er
 replace q5:=on_2 q5
 refine x2_2 q5 ?_;clear q5;intro x4 x5 er q5;subst er
 have c4:=(both q5).1
 have c5:=(both q5).2
 clear q5
 replace q6:=qeb q6
 refine x2_2 q6 ?_;clear q6;intro o p10 er q6;subst er
 replace q6:=on_o q6
 refine x1_2 q6 ?_;clear q6;intro e er1 q6;subst er1
 replace q6:=qg3 q6
 refine x3_2 q6 ?_;clear q6;intro bo l p9 er q6;subst er
 have k4:=(both q6).1
 replace q6:=(both q6).2
 replace q6:=on_2 q6
 refine x2_2 q6 ?_;clear q6;intro x6 w er q6;subst er
 have c6:=(both q6).1
 have c7:=(both q6).2
 clear q6
 have:=qax.mp k1
 subst this
 have:=qax.mp k2
 subst this
 have:=qsu k3
 subst this
 match bo,k4 with
 | .And,_ =>
 exact .mk t0 en tl pt p1 p2 p3 p4 p5 p6 p7 p8 p9 p10 ph x1 x2 x3 x4 x5 x6 w q0 q0' q1 hid q2 it q3 c1 c2 c3 c4 c5 c6 c7
section
variable {C:Cx} {d n:Nat} {env:Env} {tbl:List (Str×Nat)} {Γ:Fm} {σ σ':Sg} {c:Nat} {A:Around} {s:Shared} {φ:List Addr} {outer:List Env} {E:Value->Shared->Prop}
theorem hnd_P (ok:C.Ok)(XF:XFacts C)(X:XQ C)(hu:A.units+64<cLine)(hf:Fos C.B W0 σ φ s.heap outer)(R:SR C.B σ φ s.heap)(F:FR C.B tbl env Γ σ φ s.heap)(hc1:1≤c∧c≤5){v:Value}{H:List ExceptHandler}{s':Shared}
  (hc:hndP C.N env.scope.names H=true) (x:XP C.B W0 s σ φ σ' c (· = some .none) v s') :
  wpAny C.M A (handleBy v env H) (PostS C.B tbl env Γ.length s σ φ σ' (.ret (.bool true),List.replicate Γ.length .undef)) E s':=by
 cases qt7 hc with
 | mk t0 en tl pt p1 p2 p3 p4 p5 p6 p7 p8 p9 p10 ph x1 x2 x3 x4 x5 x6 w q0 g0 q1 hid q2 it q3 c1 c2 c3 c4 c5 c6 c7 =>
 have hne:tl≠en:=λe=>by rw [e,qax.mpr rfl] at q3;cases q3
 have kt:env.kindOf tl=some .local:=by rw [qdl] at q2;exact qep q2
 have ke:env.kindOf en=some .local:=by rw [qdl] at q1;exact qep q1
 obtain ⟨C0,y1,y2⟩:=XF 0 t0 (qdg q0)
 refine x1_2 (x.rf R F) λφ' R' F'=>?_
 refine wpAny_handleBy_cons (codeAny_handlers_test (qdc R' F' ok (both g0).1 (both g0).2 y2 (x.mtch X.cls' y1 ?_))) (by intro z;obtain ⟨a,e⟩:=x.isref;rw [e] at z;cases z)
 rw [show ((0:Nat) == 0)=true from rfl,Bool.or_true]
 refine codeAny_handlers_suite_as (x.none_mark hf R λs'' x''=>?_)
 obtain ⟨φ₂,h₂,tk₂,a,C₂,fl₂,R₂,S₂,K₂,hx₂,hn₂,_,oe₂,vs₂,k1,k2,k3,k4,_⟩:=x''
 have F₂:=(F.mono0 R S₂).nul
 obtain ⟨m₂,hm₂,_⟩:=F₂.ns
 refine wpAny_storeName_local (s:={ s with heap:=h₂,toks:=tk₂ }) ke hm₂ (λh₃ hn₃ hs₃=>?_) (by rw [F₂.kind];rfl)
 obtain ⟨R₃,S₃,F₃⟩:=qfd R₂ F₂ hn₃ hs₃
 have ane:a≠env.locals:=λq=>by
  obtain ⟨o,_,_,e,dd,_⟩:=hm₂
  rw [q,e] at k1;cases k1
  rw [dd] at k3;cases k3
 have P₃:PB C env en a oe₂ σ' φ₂ h₃ h₃ (λz=>if z=en then some (.ref a) else m₂ z):=⟨R₃,.refl,F₃,hn₃,if_pos rfl,hs₃.extBut _ _ ane k1⟩
 refine wpAny_mono (body_P (A:=A.mark (some (.ref a))) (s:={ s with heap:=h₃,toks:=_ }) ok XF X hc1 hx₂ k2 k3 k4 rfl hu P₃ ke hid kt it hne c1 c2 c3 c4 c5 c6 c7) (λf s₄ y=>?_) λ_ _ z=>z
 ·obtain ⟨rfl,φ₄,h₄,tk₄,rfl,R₄,S₄,F₄⟩:=y
  obtain ⟨m₄,hm₄,_⟩:=F₄.ns
  refine wpAny_nameGoes ke hm₄ (by rw [F₄.kind];rfl) λh₅ m₅ hn₅ hs₅=>?_
  obtain ⟨R₅,S₅,F₅⟩:=qfd R₄ F₄ hn₅ hs₅
  exact ⟨φ₄,h₅,_,rfl,R₅,((S₂.w0.trans S₃ R.len).trans S₄ R.len).trans S₅ R.len,F₅.all,List.length_replicate,.ret rfl⟩
theorem sS_tryP (ok:C.Ok)(XF:XFacts C)(X:XQ C)(H:SE C d n)(Xe:XE C d n){e:Expr}{x:Ex}{H₀:List ExceptHandler}{pos pr:Pos}{p:Fl×Fm}(ho:EnvOk C.B.fl tbl env)(hce:compOf e=false)(hc:chkE C.N n env.scope.names tbl Γ.length e x=true)(hh:hndP C.N env.scope.names H₀=true)
  (he:exS C.gl (callF C.gl C.P d) (.tryP x) Γ σ = .ok p σ') (hr:Room C.B.fl d A) (G:Fx C.B A env outer σ φ s.heap) (R:SR C.B σ φ s.heap) (F:FR C.B tbl env Γ σ φ s.heap) :
  wpAny C.M A (exec (.Try [.Expr e pr] H₀ [] [] pos) env) (PostS C.B tbl env Γ.length s σ φ σ' p) E s:=by
 cases H₀ with
 | nil=>exact qaa hh
 | cons h₀ H₀ =>
  refine wpAny_Try_except ?_
  refine tryP_el he (λv hv e=>?_) λc hv hc1 e=>?_
  ·subst e
   refine wpAny_execs_cons (wpAny_Expr_any (qag (H _ x env tbl Γ σ v σ' A s φ _ hc hv hr R F) λcv φ₁ h₁ tk R₁ S₁ r₁=>?_) ho.inter (nosw hce _ _))
   refine wpAny_execs_nil (wpAny_execs_nil ?_)
   exact ⟨φ₁,h₁,tk,rfl,R₁,S₁.w0,F.mono0 R S₁,rfl,.next⟩
  ·subst e
   refine wpAny_execs_cons (wpAny_Expr_any (wpAny_mono (Xe _ x env tbl Γ σ c σ' A s φ outer _ hc hv hr G R F) (λ_ _ q=>q) λv s₁ y=>?_) ho.inter (nosw hce _ _))
   refine wpAny_mono (qn9 G.fr G.loc (G.all F) R y.fan1) (λ_ s₂ z=>?_) λ_ _ e=>e
   refine wpAny_mono (qfa (fr:=none) (G.all F) R (λe=>by cases e) z) (λ_ s₃ z=>?_) λ_ _ e=>e
   exact hnd_P ok XF X hr.u64 (G.all F) R F hc1 hh z
end
end Mine.Internal
namespace Mine.Internal
open PySem PyProof.Rows PySem.Calls
section
variable {C:Cx} {d n:Nat} {env:Env} {tbl:List (Str×Nat)} {Γ:Fm} {σ σ₁ σ':Sg} {p:Fl×Fm} {A:Around} {s:Shared} {φ φ₁:List Addr} {h₁:Heap} {tk:Nat} {E:Value->Shared->Prop}
theorem FR.own_ex {B:Bs}{h:Heap}(F:FR B tbl env Γ σ φ h){b:Addr}(hb:own env b):∃ o,h.get? b=some o:=by
 rcases hb with rfl | ⟨y,hy⟩
 ·obtain ⟨m,⟨o,_,_,e,_⟩,_⟩:=F.ns;exact ⟨o,e⟩
 ·obtain ⟨u,o,e,_⟩:=F.cells y b hy;exact ⟨o,e⟩
theorem qga (H:SE C d n){e:Expr}{x:Ex}{id:Str}{i:Nat}{pos pos':Pos}(ho:EnvOk C.B.fl tbl env)(hsw:swapsWith e (some (.Name id pos')) pos.line env=pure false)(c0:stoOk env.scope.names tbl id i=true)(c1:chkE C.N n env.scope.names tbl Γ.length e x=true)
  (he:exS C.gl (callF C.gl C.P d) (.asg i x) Γ σ = .ok p σ') (hr:Room C.B.fl d A) (R:SR C.B σ φ s.heap) (F:FR C.B tbl env Γ σ φ s.heap) :
  wpAny C.M A (exec (.Assign [.Name id pos'] e pos) env) (PostS C.B tbl env Γ.length s σ φ σ' p) E s:=by
 rw [qdu] at he
 refine bindK he λv σ₁ h1 he=>?_
 cases he
 obtain ⟨k1,k2⟩:=qj7 c0
 refine wpAny_Assign_Name (qag (H e x env tbl Γ σ v σ' A s φ E c1 h1 hr R F) λcv φ₁ h₁ tk R₁ S₁ r₁=>?_) hsw
 have F₁:=F.mono0 R S₁
 refine qg8 (s:={ s with heap:=h₁,toks:=tk }) R₁ F₁ ho.inj ho.cells k1 (qf1 F₁ k2) r₁ λh₂ tk₂ R₂ F₂ S₂=>?_
 exact ⟨φ₁,h₂,tk₂,rfl,R₂,S₁.w0.trans S₂ R.len,F₂,by simp,.next⟩
theorem sS_asg (ok:C.Ok)(hcs:CallSims C d){e:Expr}{x:Ex}{id:Str}{i:Nat}{pos pos':Pos}(ho:EnvOk C.B.fl tbl env)(c0:stoOk env.scope.names tbl id i=true)(cc:(!compOf e || isComp x)=true)(c1:chkE C.N n env.scope.names tbl Γ.length e x=true)
  (he:exS C.gl (callF C.gl C.P d) (.asg i x) Γ σ = .ok p σ') (hr:Room C.B.fl d A) (R:SR C.B σ φ s.heap) (F:FR C.B tbl env Γ σ φ s.heap) :
  wpAny C.M A (exec (.Assign [.Name id pos'] e pos) env) (PostS C.B tbl env Γ.length s σ φ σ' p) E s:=by
 cases hce:compOf e with
 | false=>exact qga (sims d n C ok hcs).E ho (nosw hce _ _) c0 c1 he hr R F
 | true =>
  rw [hce] at cc
  cases x with
  | comp mm elt ik a b cond =>
   cases n with
   | zero=>exact qaa c1
   | succ n =>
   obtain ⟨ee,cx,px,iter,ifs,csc,posc,rfl,q2,q3,q4,q5,q6⟩:=qjb c1
   ·obtain ⟨bsw,hb⟩:∃ b,swapsWith (.ListComp ee [⟨.Name cx px,iter,ifs,0⟩] csc posc) (some (.Name id pos')) pos.line env=pure b:=⟨_,rfl⟩
    cases bsw with
    | false=>exact qga (sims d (n+1) C ok hcs).E ho hb c0 c1 he hr R F
    | true =>
     rw [qdu] at he
     refine bindK he λv σ₁ h1 he=>?_
     cases he
     obtain ⟨k1,k2⟩:=qj7 c0
     have hw:∀ D,Sims (C.wav D) d n:=λD=>sims d n (C.wav D) (ok.wav D) λav fl=>hcs av fl
     rw [exec_Assign_Name_used _ _ _ _ hb]
     refine wpAny_bind (wpAny_standAt (wpAny_bind ?_))
     show wpAny _ A (do let _ ← comprehension (.ListComp ee [⟨.Name cx px,iter,ifs,0⟩] csc posc) csc env _ (newList []) false (eval iter env) (some (assign (.Name id pos') env))) _ _ s
     refine wpAny_bind (wpAny_mono (qkw (use:=some (assign (.Name id pos') env)) (Q:=λ_ s'=>PostS C.B tbl env Γ.length s σ φ σ' (.next,Γ.set i v) .next s') (sims d n C ok hcs).I (λD=>(hw D).E) (λD=>(hw D).F) hr q2 (ScOk.of q3) q4 q5 q6 h1 R F
      λD K φ' h' tk m' R' S' r' hn nl sK=>?_) (λ_ s' hq=>wpAny_pure (wpAny_pure hq)) λ_ _ e=>e)
     have F':=F.mono0 R S'
     show wpAny _ A (assign (.Name id pos') env (.ref D)) _ _ _
     refine wpAny_assign_Name (qg8 (s:={ s with heap:=h',toks:=tk }) R' F' ho.inj ho.cells k1 (qf1 F' k2) r' λh₂ tk₂ R₂ F₂ S₂=>?_)
     have ownK:¬ own env K:=λhk=>by obtain ⟨o,e⟩:=F.own_ex hk;rw [sK] at e;cases e
     have hn₂:h₂.Ns K m':=Up.ns hn λo e=>S₂.keep K o e (λL=>nl L.mem) ownK
     refine ⟨m',hn₂,λh₃ hs=>?_⟩
     have hs:Heap.SameBut K h₂ h₃:=hs
     have hk:∀ b o,b≠K->h₂.get? b=some o->h₃.get? b=some o:=λb o hb e=>hs.extBut b o hb e
     refine x0_3 (R.newK sK) λg1 g2 g3=>?_
     refine ⟨φ',h₃,tk₂,rfl,R₂.lose g1 (Apart.ns hn₂) nl g2 g3 hk,(Stp.trans S'.w0 S₂ R.len).lose sK hk,F₂.monoq R₂ (Stq.one hk) (Apart.ns hn₂) (λq=>ownK (q ▸ .inl rfl)) (λy c hc q=>ownK (by rw [← show c=K from q];exact .inr ⟨y,hc⟩)),by simp,.next⟩
  | _=>cases cc
theorem Stp.dropTo {W W':Addr->Prop}{h:Heap}(S:Stp W σ φ h σ₁ φ₁ h₁)(hw:∀ b,W b->W' b∨h.get? b=none):Stp W' σ φ h σ₁ φ₁ h₁ :=
 ⟨S.pre,S.new,S.dead,λb o e hl hn=>S.keep b o e hl λx=>(hw b x).elim hn λq=>(by rw [q] at e;cases e),S.ex⟩
inductive FoInv (C:Cx) (d:Nat) (tbl:List (Str×Nat)) (env:Env) (nl:Nat) (b:List St) (i:Nat) (items:List V) (I:Addr) (N:Nat) (St:Nat->Heap->Prop) (s:Shared) (σ₂:Sg) (φ₁:List Addr) (h₂:Heap) (p:Fl×Fm) (σ':Sg) (m:Nat):Shared->Prop
 | mk (φk:List Addr) (hk:Heap) (tkk:Nat) (σk:Sg) (Γk:Fm) (j:Nat):SR C.B σk φk hk->Stp (λb=>own env b∨b=I) σ₂ φ₁ h₂ σk φk hk->St j hk->FR C.B tbl env Γk σk φk hk->Γk.length=nl ->
  forGo (exB C.gl (callF C.gl C.P d) b) i (items.drop j) Γk σk = .ok p σ'->j≤N->m=N+1 - j->FoInv C d tbl env nl b i items I N St s σ₂ φ₁ h₂ p σ' m { s with heap:=hk,toks:=tkk }
theorem sS_for (H:Sims C d n)(hB:SB C d n){e:Expr}{a:List Stmt}{x y:Ex}{ik:IK}{b:List St}{id:Str}{i:Nat}{pos pos':Pos}(ho:EnvOk C.B.fl tbl env)(c0:stoOk env.scope.names tbl id i=true)(c1:chkI C.N n env.scope.names tbl Γ.length e ik x y=true)
  (c2:chkB C.N n env.scope.names tbl Γ.length a b=true)
  (he:exS C.gl (callF C.gl C.P d) (.for i ik x y b) Γ σ = .ok p σ') (hr:Room C.B.fl d A) (R:SR C.B σ φ s.heap) (F:FR C.B tbl env Γ σ φ s.heap) :
  wpAny C.M A (exec (.For (.Name id pos') e a [] pos) env) (PostS C.B tbl env Γ.length s σ φ σ' p) E s:=by
 rw [qjk] at he
 refine bindK he λxv σ₁ h1 he=>?_
 refine bindK he λyv σ₂ h2 he=>?_
 refine bindofK he λitems h3 hgo=>?_
 obtain ⟨k1,k2⟩:=qj7 c0
 refine wpAny_For ?_ (λz=>qk3 (qja c1) z)
 refine wpAny_mono (H.I e ik x y env tbl Γ σ xv σ₁ yv σ₂ items A s φ E c1 h1 h2 h3 hr R F) (λcv s₁ Pi=>?_) λ_ _ e=>e
 refine x3_4 Pi ?_;clear Pi;intro φ₁ h₁ tk₁ er3 R₁ S₁ iv;subst er3
 refine wpAny_mono (qs1 (h₀:=s.heap) iv hr.hh R₁ S₁.ex) (λit s₂ P₂=>?_) λ_ _ e=>e
 obtain ⟨I,h₂,tk₂,fp,wr,N,P,St,rfl,rfl,hk₂,hI0,It⟩:=P₂
 have hk₂:∀ b o,h₁.get? b=some o->h₂.get? b=some o:=hk₂
 have R₂:SR C.B σ₂ φ₁ h₂:=R₁.grow hk₂
 have T₂:Stp W0 σ φ s.heap σ₂ φ₁ h₂:=S₁.trans (Stp.grow hk₂) R.len
 have F₂:FR C.B tbl env Γ σ₂ φ₁ h₂:=F.mono0 R T₂
 obtain ⟨W,eN,st0,hwr,hfix,hself,hnlf,hnI,hval⟩:=It
 have st0:St 0 h₂:=st0
 refine x0_3 (R.newK hI0) λg1 g2 g3=>?_
 have ownI:∀ b,own env b->b≠I:=λb hb q=>by obtain ⟨o,e⟩:=F.own_ex hb;rw [q,hI0] at e;cases e
 have apI:∀ j hh,St j hh->Apart C.B (· = I) hh:=by
  rintro j hh st b rfl o ho
  obtain ⟨o',e1,⟨fs,e2⟩,T,e3⟩:=hself j _ st
  rw [ho] at e1;cases e1
  exact .inr λxs n e=>(by rw [e2] at e;cases e)
 have ap₂:Apart C.B (λb=>own env b∨b=I) h₂:=by
  rintro b (hb | hb) o ho
  ·exact F₂.apart b hb o ho
  ·exact apI 0 h₂ st0 b hb o ho
 have exI:∃ o,h₂.get? I=some o:=let ⟨o,e,_⟩:=hself 0 h₂ st0;⟨o,e⟩
 have fin:∀ {σk φk hk},Stp (λb=>own env b∨b=I) σ₂ φ₁ h₂ σk φk hk->Stp (own env) σ φ s.heap σk φk hk:=λSk =>
  (Stp.trans T₂.w0 Sk R.len).dropTo λb hb=>hb.elim .inl λq=>.inr (by rw [q];exact hI0)
 refine codeAny_forLoop (FoInv C d tbl env Γ.length b i items I N St s σ₂ φ₁ h₂ p σ') ?_ (N+1) (.mk φ₁ h₂ tk₂ σ₂ Γ 0 R₂ .refl st0 F₂ rfl hgo (Nat.zero_le _) rfl)
 intro m s' J
 cases J with
 | mk φk hk tkk σk Γk j Rk Sk stk Fk ek hgk hj hmj =>
 subst hmj
 have hnk:∀ {σx:Sg} {φx:List Addr} {hx:Heap},Stp (λb=>own env b∨b=I) σ₂ φ₁ h₂ σx φx hx->I∉φx:=λ{σx φx hx} Sx hm=>by
  obtain ⟨q,hq⟩:=List.getElem?_of_mem hm
  by_cases hlt:q<φ₁.length
  ·have e4:=Sx.pre q φ₁[q] (List.getElem?_eq_getElem hlt)
   rw [hq] at e4
   exact hnI (Option.some.inj e4 ▸ List.getElem_mem hlt)
  ·obtain ⟨o,e⟩:=exI
   have:=Sx.new q I (Nat.le_of_not_lt hlt) hq
   rw [e] at this;cases this
 by_cases hlt:j<N
 ·refine W.item j _ _ _ hlt stk λv h₃ tk₃ hPv hst₃ hk₃=>?_
  refine x1_2 (hval j v hPv) λu eu ru=>?_
  have hk₃':∀ b o,b≠I->hk.get? b=some o->h₃.get? b=some o:=λb o hb e=>hk₃ b o (λhw=>hb (hwr b hw)) e
  obtain ⟨R₃,S₃⟩:=Rk.one g1 (apI j hk stk) (λL=>hnk Sk L.mem) hk₃' (let ⟨o,e,_⟩:=hself (j+1) _ hst₃;⟨o,e⟩)
  have F₃:FR C.B tbl env Γk σk φk h₃:=Fk.mono Rk S₃ (apI j hk stk) (λq=>ownI _ (.inl rfl) q) λy c hc q=>ownI c (.inr ⟨y,hc⟩) q
  have T₃:Stp (λb=>own env b∨b=I) σ₂ φ₁ h₂ σk φk h₃:=Sk.trans (S₃.weaken λb hb=>.inr hb) R₂.len
  have ru₃:VR C.B σk φk h₃ u v:=VR.mono R₂ T₃ ap₂ ru
  refine wpAny_assign_Name (qg8 (s:={ s with heap:=h₃,toks:=tk₃ }) R₃ F₃ ho.inj ho.cells k1 (qf1 F₃ k2) ru₃ λh₄ tk₄ R₄ F₄ S₄=>?_)
  have T₄:Stp (λb=>own env b∨b=I) σ₂ φ₁ h₂ σk φk h₄:=T₃.trans (S₄.weaken λb hb=>.inl hb) R₂.len
  have frm:∀ {σx σy:Sg} {φx φy:List Addr} {hx hy:Heap} {q:Nat},Stp (λb=>own env b∨b=I) σ₂ φ₁ h₂ σx φx hx->Stp (own env) σx φx hx σy φy hy->St q hx->St q hy:=λ{σx σy φx φy hx hy q} Sx S stx=>by
   refine W.frame _ _ _ stx λb hb o e=>(S.keep b o e (λL=>?_) λhw=>?_).at ((hfix _ _ stx b hb).nd e)
   ·refine x1_2 (hfix 0 h₂ st0 b hb) λo' e' _=>?_
    rcases Sx.live R₂.len L with z | z
    ·exact hnlf b hb z
    ·rw [e'] at z;cases z
   ·refine x1_2 (hfix 0 h₂ st0 b hb) λo' e' hf=>?_
    have hb2:(∃ es n,o'.data = .dict es n)∨∃ w,o'.data = .cell w:=by
     rcases hw with rfl | ⟨z,hz⟩
     ·obtain ⟨mm,⟨o'',es,ep,ho',hd,_⟩,_⟩:=F₂.ns
      rw [e'] at ho';cases ho'
      exact .inl ⟨_,_,hd⟩
     ·refine x2_2 (F₂.cells z b hz) λw o'' ho' hd=>?_
      rw [e'] at ho';cases ho'
      exact .inr ⟨_,hd⟩
    rcases hf with ⟨xs,n,hf⟩ | ⟨⟨fs,hf⟩,_⟩ <;> rcases hb2 with ⟨_,_,hb2⟩ | ⟨_,hb2⟩ <;> rw [hf] at hb2 <;> cases hb2
  have st₄:St (j+1) h₄:=frm T₃ S₄ hst₃
  have hdrop:items.drop j=u::items.drop (j+1):=by
   have hjl:j<items.length:=by rw [← eN];exact hlt
   rw [List.drop_eq_getElem_cons hjl]
   rw [List.getElem?_eq_getElem hjl] at eu
   rw [Option.some.inj eu]
  rw [hdrop] at hgk
  rw [qc7] at hgk
  obtain ⟨⟨qf,qΓ⟩,σ₅,h5,hgk⟩:=qbm hgk
  refine wpAny_mono (hB a b env tbl (Γk.set i u) σk _ σ₅ A _ φk _ ho (by rw [List.length_set,ek];exact c2) h5 hr R₄ F₄) (λfl s₅ P₅=>?_) λ_ _ e=>e
  obtain ⟨φ₅,h₅,tk₅,rfl,R₅,S₅,F₅,hn₅,f₅⟩:=P₅
  have hn₅':qΓ.length=(Γk.set i u).length:=hn₅
  rw [List.length_set,ek] at hn₅'
  have T₅:Stp (λb=>own env b∨b=I) σ₂ φ₁ h₂ σ₅ φ₅ h₅:=T₄.trans (S₅.weaken λb hb=>.inl hb) R₂.len
  cases f₅ with
  | next=>exact ⟨N+1 - (j+1),Nat.sub_lt_sub_left (Nat.lt_succ_of_lt hlt) (Nat.lt_succ_self j),.mk φ₅ h₅ tk₅ σ₅ qΓ (j+1) R₅ T₅ (frm T₄ S₅ st₄) F₅ hn₅' hgk hlt rfl⟩
  | ret r =>
   cases hgk
   exact ⟨φ₅,h₅,tk₅,rfl,R₅,fin T₅,F₅,hn₅',.ret r⟩
 ·have hjn:j=N:=Nat.le_antisymm hj (Nat.le_of_not_lt hlt)
  subst hjn
  have hd:items.drop j=[]:=List.drop_eq_nil_of_le (Nat.le_of_eq eN.symm)
  rw [hd] at hgk
  cases hgk
  refine W.done _ _ _ stk λh₃ tk₃ hk₃=>?_
  have hk₃':∀ b o,b≠I->hk.get? b=some o->h₃.get? b=some o:=λb o hb e=>hk₃ b o (λhw=>hb (hwr b hw)) e
  refine wpAny_execs_nil ⟨φk,h₃,tk₃,rfl,Rk.lose g1 (apI j hk stk) (hnk Sk) g2 g3 hk₃',(fin Sk).lose hI0 hk₃',Fk.monoq Rk (Stq.one hk₃') (apI j hk stk) (λq=>ownI _ (.inl rfl) q) (λy c hc q=>ownI c (.inr ⟨y,hc⟩) q),ek,.next⟩
theorem simS (ok:C.Ok)(hcs:CallSims C d)(hcx:CallX C d)(XF:XFacts C)(XC:XQ C):∀ n,SS C d n∧SB C d n
 | 0=>by
  refine ⟨?_,?_⟩
  ·intro st x env tbl Γ σ p σ' A s φ E ho hc;exact qaa hc
  ·intro st x env tbl Γ σ p σ' A s φ E ho hc;exact qaa hc
 | n+1=>by
  obtain ⟨hS,hB⟩:=simS ok hcs hcx XF XC n
  have H:=sims d n C ok hcs
  refine ⟨?_,qxf hS hB⟩
  intro st x env tbl Γ σ p σ' A s φ E ho hc he hr R F
  cases x with
  | expr x =>
   replace hc:=qjx (show onExprS st (λe=>!compOf e && chkE C.N n env.scope.names tbl Γ.length e x)=true from hc)
   refine x2_2 hc ?_;clear hc;intro e q er2 hc;subst er2
   have hc:=both hc
   exact sS_expr H ho (Bool.not_eq_true' _ ▸ hc.1) hc.2 he hr R F
  | ret x =>
   replace hc:=qeb (show onReturn st (λo=>onO o λe=>chkE C.N n env.scope.names tbl Γ.length e x)=true from hc)
   refine x2_2 hc ?_;clear hc;intro o q er2 hc;subst er2
   replace hc:=on_o hc
   refine x1_2 hc ?_;clear hc;intro e er1 hc;subst er1
   exact sS_ret H hc he hr R F
  | asg i x =>
   replace hc:=qea (show onAssign st (λt e=>on1 t λt=>onName t λid=>stoOk env.scope.names tbl id i && ((!compOf e || isComp x) && chkE C.N n env.scope.names tbl Γ.length e x))=true from hc)
   refine x3_2 hc ?_;clear hc;intro ts e q er3 hc;subst er3
   replace hc:=on_1 hc
   refine x1_2 hc ?_;clear hc;intro t er1 hc;subst er1
   replace hc:=qbq hc
   refine x2_2 hc ?_;clear hc;intro id q' er2 hc;subst er2
   have hc:=both hc
   exact sS_asg ok hcs ho hc.1 (both hc.2).1 (both hc.2).2 he hr R F
  | sto xo xi xe =>
   replace hc:=qea (show onAssign st (λt e=>on1 t λt=>onSub t λo i=>!compOf e && (chkE C.N n env.scope.names tbl Γ.length e xe && (chkE C.N n env.scope.names tbl Γ.length o xo && chkE C.N n env.scope.names tbl Γ.length i xi)))=true from hc)
   refine x3_2 hc ?_;clear hc;intro ts e q er3 hc;subst er3
   replace hc:=on_1 hc
   refine x1_2 hc ?_;clear hc;intro t er1 hc;subst er1
   replace hc:=qst hc
   refine x3_2 hc ?_;clear hc;intro o i q' er3 hc;subst er3
   have hc:=both hc
   have hd:=both (both hc.2).2
   exact sS_sto H (Bool.not_eq_true' _ ▸ hc.1) (both hc.2).1 hd.1 hd.2 he hr R F
  | ite c x y =>
   replace hc:=on_if (show onIf st (λt a b=>tstOk t c && (chkE C.N n env.scope.names tbl Γ.length t c && (chkB C.N n env.scope.names tbl Γ.length a x && chkB C.N n env.scope.names tbl Γ.length b y)))=true from hc)
   refine x4_2 hc ?_;clear hc;intro t a b q er4 hc;subst er4
   have hc:=both hc
   have hd:=both (both hc.2).2
   exact sS_ite H hB ho hc.1 (both hc.2).1 hd.1 hd.2 he hr R F
  | «while» c x =>
   replace hc:=qpc (show onWhile st (λt a b=>nilL b && (tstOk t c && (chkE C.N n env.scope.names tbl Γ.length t c && chkB C.N n env.scope.names tbl Γ.length a x)))=true from hc)
   refine x4_2 hc ?_;clear hc;intro t a b q er4 hc;subst er4
   have hc:=both hc
   rw [qcs hc.1]
   have hd:=both (both hc.2).2
   exact qva H hB ho (both hc.2).1 hd.1 hd.2 he hr R F
  | «for» i ik x y bd =>
   replace hc:=on_for (show onFor st (λt e a b=>nilL b && onName t λid=>stoOk env.scope.names tbl id i && (chkI C.N n env.scope.names tbl Γ.length e ik x y && chkB C.N n env.scope.names tbl Γ.length a bd))=true from hc)
   obtain ⟨t,e,a,b,q,rfl,hc⟩:=hc
   have hb:=(both hc).1
   replace hc:=(both hc).2
   rw [qcs hb]
   replace hc:=qbq hc
   refine x2_2 hc ?_;clear hc;intro id q' er2 hc;subst er2
   have hc:=both hc
   exact sS_for H hB ho hc.1 (both hc.2).1 (both hc.2).2 he hr R F
  | raise c=>cases he
  | tryC x hs =>
   replace hc:onTry st (λb h=>on1 b λst=>onReturn st λo=>onO o λe=>!hs.isEmpty && (chkE C.N n env.scope.names tbl Γ.length e x && hndOk C.N env.scope.names h hs))=true:=hc
   cases st with
   | Try b h o f pos =>
    replace hc:=both (show (nilL o && (nilL f && on1 b _))=true from hc)
    rw [qcs hc.1]
    replace hc:=both hc.2
    rw [qcs hc.1]
    replace hc:=on_1 hc.2
    refine x1_2 hc ?_;clear hc;intro st er1 hc;subst er1
    replace hc:=qeb hc
    refine x2_2 hc ?_;clear hc;intro o pr er2 hc;subst er2
    replace hc:=on_o hc
    refine x1_2 hc ?_;clear hc;intro e er1 hc;subst er1
    have h0:=(both hc).1
    replace hc:=both (both hc).2
    obtain ⟨outer,G⟩:=fx_of hr ho R
    exact sS_tryC ok XF XC.cls' H.E (xims d n C ok hcs hcx).E hc.1 hc.2 (λe=>by subst e;cases h0) he hr G R F
   | _=>exact qaa hc
  | tryP x =>
   replace hc:onTry st (λb h=>on1 b λst=>onExprS st λe=>!compOf e && (chkE C.N n env.scope.names tbl Γ.length e x && hndP C.N env.scope.names h))=true:=hc
   cases st with
   | Try b h o f pos =>
    replace hc:=both (show (nilL o && (nilL f && on1 b _))=true from hc)
    rw [qcs hc.1]
    replace hc:=both hc.2
    rw [qcs hc.1]
    replace hc:=on_1 hc.2
    refine x1_2 hc ?_;clear hc;intro st er1 hc;subst er1
    replace hc:=qjx hc
    refine x2_2 hc ?_;clear hc;intro e pr er2 hc;subst er2
    have h0:=(both hc).1
    replace hc:=both (both hc).2
    obtain ⟨outer,G⟩:=fx_of hr ho R
    exact sS_tryP ok XF XC H.E (xims d n C ok hcs hcx).E ho (by simpa using h0) hc.1 hc.2 he hr G R F
   | _=>exact qaa hc
end
end Mine.Internal
namespace Mine.Internal
open PySem PyProof.Rows PySem.Calls
noncomputable def XS (C:Cx)(d n:Nat):Prop:=∀ (st:Stmt) (x:St) (env:Env) (tbl:List (Str×Nat)) (Γ:Fm) (σ:Sg) (c:Nat) (σ':Sg) (A:Around) (s:Shared) (φ:List Addr) (outer:List Env) (Q:Flow->Shared->Prop),
 EnvOk C.B.fl tbl env->chkS C.N n env.scope.names tbl Γ.length st x=true->exS C.gl (callF C.gl C.P d) x Γ σ = .ex c σ'->Room C.B.fl d A->Fx C.B A env outer σ φ s.heap->SR C.B σ φ s.heap->FR C.B tbl env Γ σ φ s.heap ->
 wpAny C.M A (exec st env) Q (XP C.B (own env) s σ φ σ' c (Fan env.locals)) s
noncomputable def XB (C:Cx)(d n:Nat):Prop:=∀ (st:List Stmt) (x:List St) (env:Env) (tbl:List (Str×Nat)) (Γ:Fm) (σ:Sg) (c:Nat) (σ':Sg) (A:Around) (s:Shared) (φ:List Addr) (outer:List Env) (Q:Flow->Shared->Prop),
 EnvOk C.B.fl tbl env->chkB C.N n env.scope.names tbl Γ.length st x=true->exB C.gl (callF C.gl C.P d) x Γ σ = .ex c σ'->Room C.B.fl d A->Fx C.B A env outer σ φ s.heap->SR C.B σ φ s.heap->FR C.B tbl env Γ σ φ s.heap ->
 wpAny C.M A (execs st env) Q (XP C.B (own env) s σ φ σ' c (Fan env.locals)) s
noncomputable def RaiseOk (C:Cx):Prop:=∀ (c:Nat) (x:Str),C.N.xns[c]? = some x->∀ (env:Env) (tbl:List (Str×Nat)) (Γ:Fm) (σ:Sg) (A:Around) (s:Shared) (φ:List Addr) (a:Expr) (p1 p2 pos:Pos) (Q:Flow->Shared->Prop) (E:Value->Shared->Prop),
 A.handled=none->isGlob (lkS env.scope.names x)=true->okId x=true->onConst a isConstT=true->SR C.B σ φ s.heap->FR C.B tbl env Γ σ φ s.heap ->
 (∀ h' tk e Ca,C.B.xc c=some Ca->(∀ b o,s.heap.get? b=some o->h'.get? b=some o)->s.heap.get? e=none->Xf s.heap h' e Ca none->E (.ref e) { s with heap:=h',toks:=tk }) ->
 wpAny C.M A (exec (.Raise (some (.Call (.Name x p1) [a] [] p2)) none pos) env) Q E s
section
variable {C:Cx} {d n:Nat} {env:Env} {tbl:List (Str×Nat)} {Γ:Fm} {σ σ':Sg} {c:Nat} {A:Around} {s:Shared} {φ:List Addr} {outer:List Env}
theorem fan0 {L:Addr}:∀ fl:Option Value,fl=some .none->Fan L fl:=λ_ e=>.inr (.inl e)
theorem xB_succ (hS:SS C d n)(hX:XS C d n)(hB:XB C d n):XB C d (n+1):=by
 intro st x env tbl Γ σ c σ' A s φ outer Q ho hc he hr G R F
 cases st with
 | nil =>
  cases x with
  | nil=>cases he
  | cons y x=>exact qaa hc
 | cons t st =>
  cases x with
  | nil=>exact qaa hc
  | cons y x =>
   replace hc:=both (show (chkS C.N n env.scope.names tbl Γ.length t y && chkB C.N n env.scope.names tbl Γ.length st x)=true from hc)
   rw [qaz] at he
   rcases qau he with ⟨_,h1⟩ | ⟨⟨f,Γ₁⟩,σ₁,h1,he⟩
   ·exact wpAny_execs_cons (hX t y env tbl Γ σ c σ' A s φ outer _ ho hc.1 h1 hr G R F)
   ·refine wpAny_execs_cons (wpAny_mono (hS t y env tbl Γ σ _ σ₁ A s φ _ ho hc.1 h1 hr R F) (λfl s₁ P=>?_) λ_ _ e=>e)
    obtain ⟨φ₁,h₁,tk,rfl,R₁,S₁,F₁,hn₁,f₁⟩:=P
    cases f₁ with
    | next =>
     have hn₁:Γ₁.length=Γ.length:=hn₁
     exact wpAny_mono (hB st x env tbl Γ₁ σ₁ c σ' A _ φ₁ outer _ ho (by rw [hn₁];exact hc.2) he hr (G.stepO R.len S₁) R₁ F₁) (λ_ _ q=>q) λv s₂ x=>x.trans R.len S₁
    | ret r=>cases he
inductive WhX (gl:List V) (cf:CF) (k:Ex) (b:List St) (m:Nat) (Γ:Fm) (σ:Sg) (c:Nat) (σ':Sg):Prop
 | go (v:V) (σ₂:Sg) (q:Fm) (σ₃:Sg):evE gl cf k Γ σ = .ok v σ₂->vTrue σ₂ v=some true->exB gl cf b Γ σ₂ = .ok (.next,q) σ₃->loopN (whTurn gl cf k b) m q σ₃ = .ex c σ'->WhX gl cf k b m Γ σ c σ'
 | fly (v:V) (σ₂:Sg):evE gl cf k Γ σ = .ok v σ₂->vTrue σ₂ v=some true->exB gl cf b Γ σ₂ = .ex c σ'->WhX gl cf k b m Γ σ c σ'
theorem whX {gl:List V}{cf:CF}{k:Ex}{b:List St}{m:Nat}{Γ:Fm}{σ σ':Sg}{c:Nat}(h:loopN (whTurn gl cf k b) (m+1) Γ σ = .ex c σ'):WhX gl cf k b m Γ σ c σ':=by
 rw [qd9] at h
 have turn:∀ {r:Res (Option Fl×Fm)},whTurn gl cf k b Γ σ=r->(∃ σ₁,r = .ex c σ₁)∨(∃ q σ₁,r = .ok q σ₁)->∃ v σ₂ t,evE gl cf k Γ σ = .ok v σ₂∧vTrue σ₂ v=some t∧(if t then (exB gl cf b Γ σ₂).bind (x:=true) λp σ=>match p.1 with | .next=>.ok (none,p.2) σ | .ret v=>.ok (some (.ret v),p.2) σ else .ok (some .next,Γ) σ₂)=r:=by
  intro r hr hx
  unfold whTurn at hr
  rcases hx with ⟨σ₁,rfl⟩ | ⟨q,σ₁,rfl⟩
  ·rcases qau hr with ⟨x,_⟩ | ⟨v,σ₂,h1,hr⟩
   ·cases x
   ·rcases qau hr with ⟨x,_⟩ | ⟨t,σ₃,h2,hr⟩
    ·cases x
    ·obtain ⟨h3,e⟩:=qbw h2
     subst e
     exact ⟨v,_,t,h1,h3,hr⟩
  ·obtain ⟨v,σ₂,h1,hr⟩:=qbm hr
   obtain ⟨t,h2,hr⟩:=qfp hr
   exact ⟨v,σ₂,t,h1,h2,hr⟩
 rcases qau h with ⟨_,h1⟩ | ⟨q,σ₁,h1,h⟩
 ·obtain ⟨v,σ₂,t,k1,k2,k3⟩:=turn h1 (.inl ⟨_,rfl⟩)
  cases t with
  | false=>cases k3
  | true =>
   rw [if_pos rfl] at k3
   rcases qau k3 with ⟨_,k3⟩ | ⟨⟨f,q⟩,σ₃,_,k3⟩
   ·exact .fly v σ₂ k1 k2 k3
   ·cases f <;> cases k3
 ·obtain ⟨v,σ₂,t,k1,k2,k3⟩:=turn h1 (.inr ⟨q,σ₁,rfl⟩)
  cases t with
  | false=>cases k3;cases h
  | true =>
   rw [if_pos rfl] at k3
   obtain ⟨⟨f,q'⟩,σ₃,k4,k3⟩:=qbm k3
   cases f with
   | next=>cases k3;exact .go v σ₂ q' _ k1 k2 k4 h
   | ret u=>cases k3;cases h
inductive WhInvX (C:Cx) (d:Nat) (k:Ex) (x:List St) (tbl:List (Str×Nat)) (env:Env) (nl:Nat) (s:Shared) (σ:Sg) (φ:List Addr) (σ':Sg) (c:Nat) (m:Nat):Shared->Prop
 | mk (φk:List Addr) (hk:Heap) (tkk:Nat) (σk:Sg) (Γk:Fm):SR C.B σk φk hk->Stp (own env) σ φ s.heap σk φk hk->FR C.B tbl env Γk σk φk hk->Γk.length=nl->loopN (whTurn C.gl (callF C.gl C.P d) k x) m Γk σk = .ex c σ' ->
  WhInvX C d k x tbl env nl s σ φ σ' c m { s with heap:=hk,toks:=tkk }
theorem quq {turn:Fm->Sg->Res (Option Fl×Fm)}{Γ:Fm}{σ σ':Sg}{c:Nat}(h:loopW turn Γ σ = .ex c σ'):∃ n,loopN turn n Γ σ = .ex c σ':=by
 rw [loopW] at h
 split at h
 ·exact ⟨_,h⟩
 ·cases h
theorem XP.fan {B:Bs}{W:Addr->Prop}{L:Addr}{v:Value}{s':Shared}(x:XP B W s σ φ σ' c (· = some (rawInt L)) v s'):XP B W s σ φ σ' c (Fan L) v s':=by
 obtain ⟨φ',h',tk,a,Ca,fl,R,S,K,hx,ha,hfl,r⟩:=x
 exact ⟨φ',h',tk,a,Ca,fl,R,S,K,hx,ha,.inr (.inr hfl),r⟩
theorem came_x {B:Bs}{W:Addr->Prop}{L:Addr}{v:Value}{s':Shared}{M:Model}{E:Value->Shared->Prop}(hf:env.frame=some L)(F:Fos B W σ φ s.heap outer)(R0:SR B σ φ s.heap)(x:XP B W s σ φ σ' c (· = some (rawInt L)) v s')(k:∀ s'',XP B W s σ φ σ' c (· = some (rawInt L)) v s''->E v s''):cameBackBy M A env E v s':=by
 unfold cameBackBy
 obtain ⟨φ',h',tk,a,Ca,fl,R,S,K,hx,ha,hfl,oe,vs,he,hc,hd,h2,hX⟩:=id x
 subst hfl
 obtain ⟨T,oT,ts,h1,r⟩:=hX
 refine wpAny_bind (wpAny_field he hd h1 ?_)
 rw [if_neg (show ¬ ((Value.ref T == Value.none)=true) from Bool.false_ne_true)]
 rw [hf]
 exact wpAny_mono (qfa (fr:=some L) F R0 (λe=>by cases e) x) (λ_ s'' y=>k s'' y) λ_ _ e=>e
theorem qvk (H:Sims C d n)(hB:SB C d n)(hX:XB C d n){t:Expr}{a:List Stmt}{k:Ex}{x:List St}{pos:Pos}{Q:Flow->Shared->Prop}(ho:EnvOk C.B.fl tbl env)(c0:tstOk t k=true)(c1:chkE C.N n env.scope.names tbl Γ.length t k=true)(c2:chkB C.N n env.scope.names tbl Γ.length a x=true)
  (he:exS C.gl (callF C.gl C.P d) (.while k x) Γ σ = .ex c σ') (hr:Room C.B.fl d A) (G:Fx C.B A env outer σ φ s.heap) (R:SR C.B σ φ s.heap) (F:FR C.B tbl env Γ σ φ s.heap) :
  wpAny C.M A (exec (.While t a [] pos) env) Q (XP C.B (own env) s σ φ σ' c (Fan env.locals)) s:=by
 rw [qhp] at he
 obtain ⟨N,hN⟩:=quq he
 clear he
 refine wpAny_While (codeAny_whileLoop (WhInvX C d k x tbl env Γ.length s σ φ σ' c) ?_ N (.mk φ s.heap s.toks σ Γ R .refl F rfl hN))
 intro m s' I
 cases I with
 | mk φk hk tkk σk Γk Rk Sk Fk ek hgo =>
 cases m with
 | zero=>cases hgo
 | succ m =>
  have run:∀ {v:V} {tt:Bool} {σ₂:Sg} {Q:Bool->Shared->Prop} {E':Value->Shared->Prop},evE C.gl (callF C.gl C.P d) k Γk σk = .ok v σ₂->vTrue σ₂ v=some tt->(∀ φ₁ h₁ tk,SR C.B σ₂ φ₁ h₁->Stp W0 σk φk hk σ₂ φ₁ h₁->Q tt { s with heap:=h₁,toks:=tk })->wpAny C.M A (isTrue t env (eval t env)) Q E' { s with heap:=hk,toks:=tkk }:=λh2 h3 hQ =>
   wpAny_mono (H.T t k env tbl Γk σk _ _ _ A _ φk _ c0 (by rw [ek];exact c1) h2 h3 hr Rk Fk) (λbb s₁ P=>by
    obtain ⟨rfl,φ₁,h₁,tk,rfl,R₁,S₁⟩:=P
    exact hQ φ₁ h₁ tk R₁ S₁) λ_ _ e=>e
  cases whX hgo with
  | go v σ₂ q σ₃ h2 h3 h4 hgo =>
   refine run h2 h3 λφ₁ h₁ tk R₁ S₁=>wpAny_mono (hB a x env tbl Γk σ₂ _ σ₃ A _ φ₁ _ ho (by rw [ek];exact c2) h4 hr R₁ (Fk.mono0 Rk S₁)) (λfl s₂ P=>?_) λ_ _ e=>e
   obtain ⟨φ₂,h₂,tk₂,rfl,R₂,S₂,F₂,hn₂,f₂⟩:=P
   cases f₂
   exact ⟨m,Nat.lt_succ_self m,.mk φ₂ h₂ tk₂ _ _ R₂ ((Sk.trans S₁.w0 R.len).trans S₂ R.len) F₂ (Eq.trans hn₂ ek) hgo⟩
  | fly v σ₂ h2 h3 h4 =>
   refine run h2 h3 λφ₁ h₁ tk R₁ S₁=>?_
   have T₁:=Sk.trans S₁.w0 R.len
   refine wpAny_mono (hX a x env tbl Γk σ₂ c σ' A _ φ₁ outer _ ho (by rw [ek];exact c2) h4 hr ((G.stepO R.len Sk).step Rk.len S₁) R₁ (Fk.mono0 Rk S₁)) (λ_ _ q=>q) λv s₂ y=>?_
   have y:=y.trans (tk:=tk) R.len T₁
   exact wpAny_mono (qn9 (E:=λe s'=>cameBackBy C.M A env (XP C.B (own env) s σ φ σ' c (Fan env.locals)) e s') G.fr G.loc G.own R y) (λ_ s₃ z=>came_x G.loc G.own R z λs₄ w=>w.fan) λ_ _ e=>e
end
end Mine.Internal
namespace Mine.Internal
open PySem PyProof.Rows PySem.Calls
theorem qnt {body:Fm->Sg->Res (Fl×Fm)}{i:Nat}:∀ {items:List V} {Γ:Fm} {σ σ':Sg} {c:Nat},forGo body i items Γ σ = .ex c σ'->False
 | [],_,_,_,_,h=>by cases h
 | x::r,Γ,σ,σ',c,h=>by
  rw [qc7] at h
  refine qcu h λp s _ h=>?_
  obtain ⟨f,q⟩:=p
  cases f with
  | next=>exact qnt h
  | ret v=>cases h
section
variable {C:Cx} {d:Nat}
theorem simX (ok:C.Ok)(hcs:CallSims C d)(hcx:CallX C d)(XF:XFacts C)(XC:XQ C)(hra:RaiseOk C):∀ n,XS C d n∧XB C d n
 | 0=>by
  refine ⟨?_,?_⟩
  ·intro st x env tbl Γ σ c σ' A s φ outer Q ho hc;exact qaa hc
  ·intro st x env tbl Γ σ c σ' A s φ outer Q ho hc;exact qaa hc
 | n+1=>by
  obtain ⟨hX,hXB⟩:=simX ok hcs hcx XF XC hra n
  obtain ⟨hS,hB⟩:=simS ok hcs hcx XF XC n
  have H:=sims d n C ok hcs
  have X:=xims d n C ok hcs hcx
  refine ⟨?_,xB_succ hS hX hXB⟩
  intro st x env tbl Γ σ c σ' A s φ outer Q ho hc he hr G R F
  have up:∀ {e:Expr} {x:Ex} {Q:Value->Shared->Prop},chkE C.N n env.scope.names tbl Γ.length e x=true->evE C.gl (callF C.gl C.P d) x Γ σ = .ex c σ'->wpAny C.M A (eval e env) Q (XP C.B (own env) s σ φ σ' c (Fan env.locals)) s:=λ{e x Q} h1 h2 =>
   wpAny_mono (X.E e x env tbl Γ σ c σ' A s φ outer Q h1 h2 hr G R F) (λ_ _ q=>q) λv s' x=>x.own R F fan0
  cases x with
  | expr x =>
   replace hc:=qjx (show onExprS st (λe=>!compOf e && chkE C.N n env.scope.names tbl Γ.length e x)=true from hc)
   refine x2_2 hc ?_;clear hc;intro e q er2 hc;subst er2
   have hc:=both hc
   rw [qe7] at he
   rcases qau he with ⟨_,h1⟩ | ⟨v,σ₁,h1,he⟩
   ·exact wpAny_Expr_any (up hc.2 h1) ho.inter (nosw (Bool.not_eq_true' _ ▸ hc.1) _ _)
   ·cases he
  | ret x =>
   replace hc:=qeb (show onReturn st (λo=>onO o λe=>chkE C.N n env.scope.names tbl Γ.length e x)=true from hc)
   refine x2_2 hc ?_;clear hc;intro o q er2 hc;subst er2
   replace hc:=on_o hc
   refine x1_2 hc ?_;clear hc;intro e er1 hc;subst er1
   rw [qdv] at he
   rcases qau he with ⟨_,h1⟩ | ⟨v,σ₁,h1,he⟩
   ·exact wpAny_Return_some (up hc h1)
   ·cases he
  | asg i x =>
   replace hc:=qea (show onAssign st (λt e=>on1 t λt=>onName t λid=>stoOk env.scope.names tbl id i && ((!compOf e || isComp x) && chkE C.N n env.scope.names tbl Γ.length e x))=true from hc)
   refine x3_2 hc ?_;clear hc;intro ts e q er3 hc;subst er3
   replace hc:=on_1 hc
   refine x1_2 hc ?_;clear hc;intro t er1 hc;subst er1
   replace hc:=qbq hc
   refine x2_2 hc ?_;clear hc;intro id q' er2 hc;subst er2
   have hc:=both (both hc).2
   rw [qdu] at he
   rcases qau he with ⟨_,h1⟩ | ⟨v,σ₁,h1,he⟩
   ·have nc:isComp x=false:=by rcases no_ex h1 with ⟨_,_,rfl⟩ | ⟨_,_,rfl⟩ | ⟨_,_,_,rfl⟩ <;> rfl
    have hcomp:compOf e=false:=by have:=hc.1;rw [nc,Bool.or_false,Bool.not_eq_true'] at this;exact this
    exact wpAny_Assign_Name (up hc.2 h1) (nosw hcomp _ _)
   ·cases he
  | sto xo xi xe =>
   rw [qe9] at he
   refine qcu he λ_ s _ he=>qcu he λ_ s _ he=>qcu he λ_ s _ he=>?_
   unfold storeR at he
   split at he <;> cases he
  | ite k x y =>
   replace hc:=on_if (show onIf st (λt a b=>tstOk t k && (chkE C.N n env.scope.names tbl Γ.length t k && (chkB C.N n env.scope.names tbl Γ.length a x && chkB C.N n env.scope.names tbl Γ.length b y)))=true from hc)
   refine x4_2 hc ?_;clear hc;intro t a b q er4 hc;subst er4
   have hc:=both hc
   have hd:=both (both hc.2).2
   rw [qe8] at he
   refine qcu he λv σ₁ h1 he=>?_
   refine qcu he λtt σ₂ h2 he=>?_
   obtain ⟨h3,e2⟩:=qbw h2
   subst e2
   refine wpAny_If (wpAny_mono (H.T t k env tbl Γ σ v tt σ₁ A s φ _ hc.1 (both hc.2).1 h1 h3 hr R F) (λbb s₁ P=>?_) λ_ _ e=>e)
   obtain ⟨rfl,φ₁,h₁,tk,rfl,R₁,S₁⟩:=P
   cases bb with
   | true=>exact wpAny_mono (hXB a x env tbl Γ σ₁ c σ' A _ φ₁ outer _ ho hd.1 he hr (G.step R.len S₁) R₁ (F.mono0 R S₁)) (λ_ _ q=>q) λv s₂ x=>x.trans R.len S₁.w0
   | false=>exact wpAny_mono (hXB b y env tbl Γ σ₁ c σ' A _ φ₁ outer _ ho hd.2 he hr (G.step R.len S₁) R₁ (F.mono0 R S₁)) (λ_ _ q=>q) λv s₂ x=>x.trans R.len S₁.w0
  | «while» k x =>
   replace hc:=qpc (show onWhile st (λt a b=>nilL b && (tstOk t k && (chkE C.N n env.scope.names tbl Γ.length t k && chkB C.N n env.scope.names tbl Γ.length a x)))=true from hc)
   refine x4_2 hc ?_;clear hc;intro t a b q er4 hc;subst er4
   have hc:=both hc
   rw [qcs hc.1]
   have hd:=both (both hc.2).2
   exact qvk H hB hXB ho (both hc.2).1 hd.1 hd.2 he hr G R F
  | «for» i ik x y bd =>
   rw [qjk] at he
   exact (qcu he λ_ s _ he=>qcu he λ_ s _ he=>qcu he λ_ s _ he=>qnt he).elim
  | raise k =>
   cases he
   replace hc:onRaise st (λe=>onCallN e λid es=>nameAt C.N.xns c id && (globOk env.scope.names id && on1 es λa=>onConst a isConstT))=true:=hc
   cases st with
   | Raise e q pos =>
    replace hc:=both (show (noneO' q && onO e _)=true from hc)
    cases q with
    | some q=>exact qaa hc.1
    | none =>
    replace hc:=on_o hc.2
    refine x1_2 hc ?_;clear hc;intro e er1 hc;subst er1
    replace hc:=qbs hc
    refine x4_2 hc ?_;clear hc;intro y p es p' er4 hc;subst er4
    have q1:=(both hc).1
    replace hc:=both (both hc).2
    obtain ⟨q2,q3⟩:=both hc.1
    replace hc:=on_1 hc.2
    refine x1_2 hc ?_;clear hc;intro a er1 hc;subst er1
    exact hra c y (qdg q1) env tbl Γ σ A s φ a p p' pos Q _ hr.hh q2 q3 hc R F λh' tk e Ca hx hk hn Xe =>
     ⟨φ,h',tk,e,Ca,none,R.grow hk,Stp.grow hk,(F.mono0 R (Stp.grow hk)).wok (R.grow hk),hx,hn,.inl rfl,Xe⟩
   | _=>exact qaa hc
  | tryC x hs=>exact (tryC_nx he).elim
  | tryP x=>exact (tryP_nx he).elim
end
end Mine.Internal
namespace Mine.Internal
open PySem PyProof.Rows PySem.Calls
theorem qu2 {C:Cx}(ok:C.Ok)(XF:XFacts C)(X:XQ C):RaiseOk C:=by
 intro c x hx env tbl Γ σ A s φ a p1 p2 pos Q E hh hg hid ha R F k
 obtain ⟨Ca,hxc,hb⟩:=XF c x hx
 obtain ⟨C0,z0,z⟩:=X.cls
 obtain ⟨nm,q,N,bs,hdct,sn,sub,ab,col,dd,k0,k1,k2,k3,k5,mN,hC,hN,hm⟩:=z c Ca hxc
 have hni:mN "__init__" = none:=hm _ (.tail _ (.tail _ (.tail _ (.head _))))
 have T:OwnTail C.B.hb bmVE ((if c=0 then [] else [.ref C0])++bmVE):=by
  split
  ·exact .base
  ·obtain ⟨nm',q',N',bs',hdct',sn',sub',ab',col',dd',j0,j1,j2,j3,j5,mN',hC',hN',hm'⟩:=z 0 C0 z0
   exact .own hC' hN' (hm' _ (.tail _ (.tail _ (.tail _ (.head _))))) .base
 obtain ⟨kc,u,pc,rfl,hk⟩:=qfh ha
 cases kc with
 | str t =>
  refine wpAny_Raise_call_subT (C:=Ca) (nm:=nm) (q:=q) (N:=N) (bs:=bs) (bm:=_) (hdct:=hdct) (sn:=sn) (sub:=sub) (ab:=ab) (col:=col) (dd:=dd) (k0:=k0) (k1:=k1) (k2:=k2) (k3:=k3) (k5:=k5)
   PySem.F.excBase_ValueError (mN:=mN) (T.hasType PySem.F.excBase_ValueError.hasBase) hh rfl hni (qdc R F ok hg hid hb ⟨rfl,?_⟩)
  refine qaw (qar rfl _) ?_
  rw [qar rfl]
  show wpAny C.M A (spliced ((false,eval (.Constant (.str t) u pc) env)::[])) _ _ s
  refine spliced_cons (wpAny_Constant_str ?_)
  refine spliced_nil ⟨rfl,by show 1≤sizeLine;decide,R.based _ _ hC,hN.keeps R.based,T.keeps R.based,λh' e hm=>?_⟩
  obtain ⟨tt,he,htn,ht⟩:=hm.there
  exact k h' _ e Ca hxc hm.keeps hm.new ⟨_,_,he,rfl,rfl,rfl,rfl⟩
 | _=>exact qaa hk
end Mine.Internal
namespace Mine.Internal
open PySem PyProof.Rows PySem.Calls
section
variable {B:Bs} {σ:Sg} {φ:List Addr} {h:Heap} {l:List Env} {tbl:List (Str×Nat)} {env:Env} {Γ:Fm}
noncomputable def Bs.wfl (B:Bs)(l:List Env):Bs:={ B with fl:=l }
noncomputable def Cx.wfl (C:Cx)(l:List Env):Cx:={ C with B:=C.B.wfl l }
theorem qh9 (l:List Env):Carry B (B.wfl l) σ σ φ φ h h:=⟨λ_ _ e=>e,λ_ _ e nl=>⟨e,nl⟩,λ_ _ e=>e⟩
theorem qnf (l:List Env):Carry (B.wfl l) B σ σ φ φ h h:=⟨λ_ _ e=>e,λ_ _ e nl=>⟨e,nl⟩,λ_ _ e=>e⟩
theorem SR.fl (R:SR B σ φ h)(l:List Env)(hf:∀ L∈l.filterMap (·.frame),(∃ o es n,h.get? L=some o∧o.data = .dict es n)∧¬ live σ φ L∧B.hb.get? L=none):SR (B.wfl l) σ φ h :=
 ⟨R.len,R.inj,R.ex,λi xs e=>let ⟨a,vs,e1,e2,e3,e4⟩:=R.lst i xs e;⟨a,vs,e1,e2,(qh9 l).vs xs e3,e4⟩,R.dictI,R.dictP,R.main,R.sys,R.based,R.new,R.avx,R.avn,hf⟩
theorem SR.lf (R:SR (B.wfl l) σ φ h)(hf:∀ L∈B.fad,L∈l.filterMap (·.frame)):SR B σ φ h :=
 ⟨R.len,R.inj,R.ex,λi xs e=>let ⟨a,vs,e1,e2,e3,e4⟩:=R.lst i xs e;⟨a,vs,e1,e2,(qnf l).vs xs e3,e4⟩,R.dictI,R.dictP,R.main,R.sys,R.based,R.new,R.avx,R.avn,λL hL=>R.fo L (hf L hL)⟩
theorem FR.fl (F:FR B tbl env Γ σ φ h)(l:List Env):FR (B.wfl l) tbl env Γ σ φ h:=by
 refine x1_2 (F.ns) λm hm hv=>?_
 refine ⟨F.kind,F.gl,F.bi,⟨m,hm,λx j v e1 e2 e3=>?_⟩,λx j v e1 e2 e3=>?_,F.nl,F.cells,F.newL,F.newC,F.has⟩
 ·refine x1_2 (hv x j v e1 e2 e3) λcv e4 e5=>?_
  exact ⟨cv,e4,(qh9 l).v v e5⟩
 ·refine x2_3 (F.cell x j v e1 e2 e3) λc cv e4 e5 e6=>?_
  exact ⟨c,cv,e4,e5,(qh9 l).v v e6⟩
theorem Cx.Ok.wfl {C:Cx}(ok:C.Ok)(l:List Env):(C.wfl l).Ok:=⟨ok.g,ok.b,ok.nolimit,ok.bins,ok.glob,ok.fn⟩
end
end Mine.Internal
namespace Mine.Internal
open PySem PyProof.Rows PySem.Calls
theorem qfy {α:Type}:∀ {ps:List Str} {vals:List α},ps.Nodup->vals.length=ps.length->∀ {i:Nat} {x:Str},ps[i]? = some x->(ps.zip vals).lookup x=vals[i]?
 | [],_,_,_,i,x,h=>by simp at h
 | p::ps,[],_,hl,_,_,_=>by simp at hl
 | p::ps,v::vals,hn,hl,i,x,h=>by
  rw [List.zip_cons_cons,List.lookup_cons]
  cases i with
  | zero =>
   simp at h;subst h;simp
  | succ i =>
   have hx:ps[i]? = some x:=by simpa using h
   have hne:(x == p)=false:=by
    cases hb:x == p with
    | false=>rfl
    | true =>
     rw [beq_iff_eq.mp hb] at hx
     exact ((List.nodup_cons.mp hn).1 (List.mem_of_getElem? hx)).elim
   rw [hne]
   show (ps.zip vals).lookup x=vals[i]?
   exact qfy (List.nodup_cons.mp hn).2 (by simpa using hl) hx
theorem qjl {α:Type}{ps:List Str}{vals:List α}(hn:ps.Nodup)(hl:vals.length=ps.length):(ps.filterMap λn=>((ps.zip vals).lookup n).map (n,·))=ps.zip vals:=by
 have key:∀ (qs:List Str) (ws:List α),qs.length=ws.length->(∀ (i:Nat) (x:Str),qs[i]? = some x->(ps.zip vals).lookup x=ws[i]?)->(qs.filterMap λn=>((ps.zip vals).lookup n).map (n,·))=qs.zip ws:=by
  intro qs
  induction qs with
  | nil=>intro ws _ _;rfl
  | cons q qs ih =>
   intro ws hw hh
   cases ws with
   | nil=>simp at hw
   | cons w ws =>
    have h0:=hh 0 q rfl
    rw [List.filterMap_cons,h0]
    simp only [List.getElem?_cons_zero,Option.map_some,List.zip_cons_cons]
    rw [ih ws (by simpa using hw) λi x e=>by simpa using hh (i+1) x (by simpa using e)]
 exact key ps vals hl.symm λi x e=>qfy hn hl e
theorem ql4 {fd:FuncData}{vals:List Value}(h1:fd.params.posonlyargs=[])(h2:fd.params.kwonlyargs=[])(h3:fd.params.vararg=none)(h4:fd.params.kwarg=none)(h5:fd.defaults = .none)
  (hn:(fd.params.args.map (·.arg)).Nodup) (hl:vals.length=(fd.params.args.map (·.arg)).length):bindArgs fd ⟨vals,[]⟩=pure ((fd.params.args.map (·.arg)).zip vals):=by
 obtain ⟨nm,qn,⟨po,ar,va,ko,kd,kw,df⟩,bo,sc,gb,cl,dfl,r1,r2,r3,r4,r5,r6,r7⟩:=fd
 dsimp only at h1 h2 h3 h4 h5 hn hl ⊢
 subst h1 h2 h3 h4 h5
 have hf:=qjl hn hl
 have hmiss:(List.filter (λn=>(List.lookup n ((ar.map (·.arg)).zip vals)).isNone) ((ar.map (·.arg)).take ((ar.map (·.arg)).length - (List.drop (0 - (ar.map (·.arg)).length) ([]:List Value)).length)))=[]:=by
  rw [List.drop_nil,List.length_nil,Nat.sub_zero,List.take_length,List.filter_eq_nil_iff]
  intro x hx
  obtain ⟨i,hi⟩:=List.getElem?_of_mem hx
  rw [qfy hn hl hi,List.getElem?_eq_getElem (by rw [hl];exact (List.getElem?_eq_some_iff.mp hi).1)]
  simp
 have hg:¬ (decide (vals.length > (ar.map (·.arg)).length) && true)=true:=by
  rw [Bool.and_true,decide_eq_true_iff];lia
 have hm2:¬ (!(List.filter (λn=>(List.lookup n ((ar.map (·.arg)).zip vals)).isNone) ((ar.map (·.arg)).take ((ar.map (·.arg)).length - (List.drop (0 - (ar.map (·.arg)).length) ([]:List Value)).length))).isEmpty)=true:=by rw [hmiss];simp
 have hz:((ar.map (·.arg)).drop ((ar.map (·.arg)).length - (List.drop (0 - (ar.map (·.arg)).length) ([]:List Value)).length)).zip (List.drop (0 - (ar.map (·.arg)).length) ([]:List Value))=[]:=by rw [List.drop_nil,List.zip_nil_right]
 refine Eq.trans (if_neg hg) (Eq.trans (if_neg hm2) ?_)
 have st:∀ {α β:Type} {L:List α} {s0:β} {g:α->β->Sem (ForInStep β)} {k:β->Sem (List (Str×Value))} {r:Sem (List (Str×Value))},L=[]->k s0=r->(forIn L s0 g >>= k)=r:=λh1 h2=>by rw [h1];exact h2
 have hf':∀ L:List Str,L=ar.map (·.arg)->L.filterMap (λn=>(((ar.map (·.arg)).zip vals).lookup n).map (n,·))=(ar.map (·.arg)).zip vals:=λL e=>by rw [e];exact hf
 refine st hz (st rfl (Eq.trans (if_neg (λh:(!([]:List Str).isEmpty)=true=>Bool.noConfusion h)) ?_))
 exact congrArg (pure:List (Str×Value)->Sem (List (Str×Value))) (hf' _ (List.append_nil _))
theorem qrx {args:List V}{k i:Nat}{v:V}(h:getV (args++List.replicate k .undef) i=some v):args[i]? = some v:=by
 have g:=qfb h
 by_cases hi:i<args.length
 ·rw [List.getElem?_append_left hi] at g;exact g
 ·rw [List.getElem?_append_right (Nat.le_of_not_lt hi)] at g
  by_cases hk:i - args.length<k
  ·rw [List.getElem?_replicate_of_lt hk] at g
   have e:(args++List.replicate k V.undef)[i]? = some .undef:=by rw [List.getElem?_append_right (Nat.le_of_not_lt hi)];exact List.getElem?_replicate_of_lt hk
   rw [qht e] at h;cases h
  ·rw [List.getElem?_eq_none (by rw [List.length_replicate];lia)] at g;cases g
theorem qkl {kindOf:Str->Option NameKind}{α:Type}:∀ {ps:List Str} {vals:List Value} {m:Str->Option Value},ps.Nodup->vals.length=ps.length->∀ {i:Nat} {x:Str},ps[i]? = some x->kindOf x=some .local->bindL kindOf (ps.zip vals) m x=vals[i]?
 | [],_,_,_,_,i,x,h,_=>by simp at h
 | p::ps,[],_,_,hl,_,_,_,_=>by simp at hl
 | p::ps,v::vals,m,hn,hl,i,x,h,hk=>by
  rw [List.zip_cons_cons,bindL]
  cases i with
  | zero =>
   simp at h;subst h
   have keep:∀ (ps:List Str) (vals:List Value) (m:Str->Option Value),p∉ps->m p=some v->bindL kindOf (ps.zip vals) m p=some v:=by
    intro ps
    induction ps with
    | nil=>intro vals m _ hm;simpa [bindL] using hm
    | cons q ps ih =>
     intro vals m hq hm
     cases vals with
     | nil=>simpa [bindL] using hm
     | cons w vals =>
      rw [List.zip_cons_cons,bindL]
      refine ih vals _ (λh=>hq (List.mem_cons_of_mem _ h)) ?_
      split
      ·have:p≠q:=λe=>hq (e ▸ List.mem_cons_self)
       simp [this,hm]
      ·exact hm
   rw [if_pos hk]
   simpa using keep ps vals _ (List.nodup_cons.mp hn).1 (by simp)
  | succ i=>exact qkl (α:=α) (List.nodup_cons.mp hn).2 (by simpa using hl) (by simpa using h) hk
theorem qkk {kindOf:Str->Option NameKind}:∀ {ps:List Str} {vals:List Value} {m:Str->Option Value},ps.Nodup->vals.length=ps.length->∀ {i:Nat} {x:Str},ps[i]? = some x->kindOf x≠some .local->bindC kindOf (ps.zip vals) m x=vals[i]?
 | [],_,_,_,_,i,x,h,_=>by simp at h
 | p::ps,[],_,_,hl,_,_,_,_=>by simp at hl
 | p::ps,v::vals,m,hn,hl,i,x,h,hk=>by
  rw [List.zip_cons_cons,bindC]
  cases i with
  | zero =>
   simp at h;subst h
   have keep:∀ (ps:List Str) (vals:List Value) (m:Str->Option Value),p∉ps->m p=some v->bindC kindOf (ps.zip vals) m p=some v:=by
    intro ps
    induction ps with
    | nil=>intro vals m _ hm;simpa [bindC] using hm
    | cons q ps ih =>
     intro vals m hq hm
     cases vals with
     | nil=>simpa [bindC] using hm
     | cons w vals =>
      rw [List.zip_cons_cons,bindC]
      refine ih vals _ (λh=>hq (List.mem_cons_of_mem _ h)) ?_
      split
      ·exact hm
      ·have:p≠q:=λe=>hq (e ▸ List.mem_cons_self)
       simp [this,hm]
   rw [if_neg hk]
   simpa using keep ps vals _ (List.nodup_cons.mp hn).1 (by simp)
  | succ i=>exact qkk (List.nodup_cons.mp hn).2 (by simpa using hl) (by simpa using h) hk
theorem qfv:∀ {n:Nat} {names:List (Str×NameKind)} {acc:List (Str×Addr)},(names.map (·.1)).Nodup->(acc.map (·.1)).Nodup->(∀ x∈names.map (·.1),x∉acc.map (·.1))->((cellsFrom n names acc).map (·.1)).Nodup
 | _,[],acc,_,h,_=>h
 | n,(y,k)::r,acc,hn,ha,hd=>by
  unfold cellsFrom
  have hn':y∉r.map (·.1)∧(r.map (·.1)).Nodup:=List.nodup_cons.mp hn
  split
  ·refine qfv hn'.2 (List.nodup_cons.mpr ⟨hd y (by simp),ha⟩) λx hx hm=>?_
   rcases List.mem_cons.mp hm with q | q
   ·exact hn'.1 ((show x=y from q) ▸ hx)
   ·exact hd x (List.mem_cons_of_mem _ hx) q
  ·exact qfv hn'.2 ha λx hx=>hd x (List.mem_cons_of_mem _ hx)
theorem qc4 {α:Type}:∀ {l:List (Str×α)} {x:Str} {c:α},(l.map (·.1)).Nodup->(x,c)∈l->l.lookup x=some c
 | (k,v)::r,x,c,hn,h=>by
  have hn':k∉r.map (·.1)∧(r.map (·.1)).Nodup:=List.nodup_cons.mp hn
  rw [List.lookup_cons]
  rcases List.mem_cons.mp h with q | q
  ·cases q;simp
  ·have:(x == k)=false:=by
    cases hb:x == k with
    | false=>rfl
    | true=>rw [beq_iff_eq.mp hb] at q;exact (hn'.1 (List.mem_map.mpr ⟨_,q,rfl⟩)).elim
   rw [this];exact qc4 hn'.2 q
theorem qd6:∀ {n:Nat} {names:List (Str×NameKind)} {acc:List (Str×Addr)} {y:Str},((y,NameKind.cell)∈names∨∃ c,(y,c)∈acc)->∃ c,(y,c)∈cellsFrom n names acc
 | _,[],acc,y,h=>by
  rcases h with h | h
  ·cases h
  ·exact h
 | n,(z,k)::r,acc,y,h=>by
  unfold cellsFrom
  split
  ·refine qd6 ?_
   rcases h with h | ⟨c,h⟩
   ·rcases List.mem_cons.mp h with q | q
    ·cases q;exact .inr ⟨_,List.mem_cons_self⟩
    ·exact .inl q
   ·exact .inr ⟨c,List.mem_cons_of_mem _ h⟩
  ·rename_i hk
   refine qd6 ?_
   rcases h with h | ⟨c,h⟩
   ·rcases List.mem_cons.mp h with q | q
    ·cases q;exact (hk rfl).elim
    ·exact .inl q
   ·exact .inr ⟨c,h⟩
end Mine.Internal
namespace Mine.Internal
open PySem PyProof.Rows PySem.Calls
noncomputable def memS (x:Str):List Str->Bool
 | []=>false
 | y::r=>eqS x y || memS x r
noncomputable def nodupS:List Str->Bool
 | []=>true
 | x::r=>!memS x r && nodupS r
theorem qmr {x:Str}:∀ {l:List Str},x∈l->memS x l=true
 | y::r,h=>by
  rcases List.mem_cons.mp h with q | q
  ·show (eqS x y || memS x r)=true
   rw [q,qax.mpr rfl];rfl
  ·show (eqS x y || memS x r)=true
   rw [qmr q,Bool.or_true]
theorem qgz:∀ {l:List Str},nodupS l=true->l.Nodup
 | [],_=>List.nodup_nil
 | x::r,h=>by
  replace h:=both h
  rw [Bool.not_eq_true'] at h
  exact List.nodup_cons.mpr ⟨λhm=>(by rw [qmr hm] at h;cases h.1),qgz h.2⟩
noncomputable def noneO {α:Type}:Option α->Bool
 | none=>true
 | _=>false
noncomputable def firsts (tbl:List (Str×Nat)):Nat->List Str->Bool
 | _,[]=>true
 | i,p::r=>(match lkS tbl p with | some j=>i == j | none=>false) && firsts tbl (i+1) r
noncomputable def asc:Nat->List (Str×Nat)->Bool
 | _,[]=>true
 | i,(_,j)::r=>i == j && asc (i+1) r
noncomputable def chkDef (N:Nm)(fuel:Nat)(params:Arguments)(body:List Stmt)(scope:Scope)(D:Def)(tbl:List (Str×Nat)):Bool :=
 nilL params.posonlyargs && nilL params.kwonlyargs && noneO params.vararg && noneO params.kwarg && isFn scope.kind && !scope.isCoroutine && !scope.isGenerator &&
 nodupS (params.args.map (·.arg)) && nodupS (scope.names.map (·.1)) && nodupS (tbl.map (·.1)) && asc 0 tbl && (params.args.map (·.arg)).length == D.np && decide (D.np≤D.nl) && firsts tbl 0 (params.args.map (·.arg)) &&
 (params.args.map (·.arg)).all (λp=>isLoc (lkS scope.names p) || isCel (lkS scope.names p)) && chkB N fuel scope.names tbl D.nl body D.body
structure DefFacts (N:Nm) (params:Arguments) (body:List Stmt) (scope:Scope) (D:Def) (tbl:List (Str×Nat)):Prop where
 p1:params.posonlyargs=[]
 p2:params.kwonlyargs=[]
 p3:params.vararg=none
 p4:params.kwarg=none
 fn:scope.kind = .function
 co:scope.isCoroutine=false
 ge:scope.isGenerator=false
 np:(params.args.map (·.arg)).Nodup
 ns:(scope.names.map (·.1)).Nodup
 inj:TInj tbl
 len:(params.args.map (·.arg)).length=D.np
 le:D.np≤D.nl
 first:∀ (i:Nat) (x:Str),(params.args.map (·.arg))[i]? = some x->tbl.lookup x=some i
 kinds:∀ x∈params.args.map (·.arg),scope.names.lookup x=some .local∨scope.names.lookup x=some .cell
 body:∃ fuel,chkB N fuel scope.names tbl D.nl body D.body=true
theorem qn8 {α:Type}{l:Option α}(h:noneO l=true):l=none:=by cases l with | none=>rfl | some _=>cases h
theorem qk2 {tbl:List (Str×Nat)}:∀ {ps:List Str} {i:Nat},firsts tbl i ps=true->∀ (j:Nat) (x:Str),ps[j]? = some x->tbl.lookup x=some (i+j)
 | [],_,_,j,x,h=>by simp at h
 | p::r,i,hf,j,x,h=>by
  replace hf:=both hf
  cases j with
  | zero =>
   simp at h;subst h
   have:=hf.1
   rw [← qdl]
   cases hl:lkS tbl p with
   | none=>rw [hl] at this;cases this
   | some j=>rw [hl] at this;simp at this;rw [this];rfl
  | succ j =>
   have:=qk2 hf.2 j x (by simpa using h)
   rw [this];congr 1;lia
theorem qqt:∀ {tbl:List (Str×Nat)} {i:Nat},asc i tbl=true->∀ (k:Nat) (p:Str×Nat),tbl[k]? = some p->p.2=i+k
 | [],_,_,k,p,h=>by simp at h
 | (x,j)::r,i,ha,k,p,h=>by
  replace ha:=both ha
  rw [beq_iff_eq] at ha
  cases k with
  | zero=>simp at h;subst h;exact ha.1.symm
  | succ k =>
   have:=qqt ha.2 k p (by simpa using h)
   lia
theorem TInj.of {tbl:List (Str×Nat)}(h:asc 0 tbl=true):TInj tbl:=by
 intro x y i hx hy
 obtain ⟨k,hk⟩:=List.getElem?_of_mem (mem_of_lookup hx)
 obtain ⟨l,hl⟩:=List.getElem?_of_mem (mem_of_lookup hy)
 have e1:=qqt h k _ hk
 have e2:=qqt h l _ hl
 have:k=l:=by
  simp only at e1 e2
  lia
 subst this
 rw [hk] at hl
 cases hl
 rfl
theorem DefFacts.of {N:Nm}{fuel:Nat}{params:Arguments}{body:List Stmt}{scope:Scope}{D:Def}{tbl:List (Str×Nat)}(h:chkDef N fuel params body scope D tbl=true):DefFacts N params body scope D tbl:=by
 unfold chkDef at h
 simp only [Bool.and_eq_true,Bool.not_eq_true',decide_eq_true_eq,beq_iff_eq] at h
 obtain ⟨⟨⟨⟨⟨⟨⟨⟨⟨⟨⟨⟨⟨⟨⟨h1,h2⟩,h3⟩,h4⟩,h5⟩,h6⟩,h7⟩,h8⟩,h9⟩,h10⟩,h11⟩,h12⟩,h13⟩,h14⟩,h15⟩,h16⟩:=h
 refine ⟨qcs h1,qcs h2,qn8 h3,qn8 h4,qr8 h5,h6,h7,qgz h8,qgz h9,TInj.of h11,h12,h13,λi x e=>by simpa using qk2 h14 i x e,λx hx=>?_,⟨fuel,h16⟩⟩
 have:=qfn h15 hx
 rw [Bool.or_eq_true,qdl] at this
 exact this.elim (λq=>.inl (qep q)) λq=>.inr (qjq q)
noncomputable def DefsOk (C:Cx):Prop:=∀ (f:Nat) (D:Def),C.P[f]? = some D->∃ y a o params body scope pm code doc tbl,C.N.fns[f]? = some y∧C.mg y=some (.ref a)∧C.B.hb.get? a=some o ∧
 o.data = .func (docDef y params body scope pm code doc)∧C.B.hb.CodeRec code y∧DefFacts C.N params body scope D tbl
section
variable {C:Cx} {d:Nat}
theorem qhj (ok:C.Ok)(dk:DefsOk C){f:Nat}{y:Str}{a:Addr}{vs:List V}{D:Def}{σ:Sg}{A:Around}{s:Shared}{φ:List Addr}{cvs:List Value}{Q E:Value->Shared->Prop}(hD:C.P[f]? = some D)(hlen:vs.length=D.np)(hy:C.N.fns[f]? = some y)(ha:C.mg y=some (.ref a))(hr:Room C.B.fl (d+1) A)(R:SR C.B σ φ s.heap)(rs:VRs C.B σ φ s.heap vs cvs)
  (k:∀ (env:Env) (tbl:List (Str×Nat)) (body:List Stmt) (fuel:Nat) (h₁:Heap) (tk:Nat),EnvOk (env::C.B.fl) tbl env->chkB C.N fuel env.scope.names tbl (vs++List.replicate (D.nl - D.np) V.undef).length body D.body=true->Room (env::C.B.fl) d (A.deeper env)->SR (C.B.wfl (env::C.B.fl)) σ φ h₁->FR (C.B.wfl (env::C.B.fl)) tbl env (vs++List.replicate (D.nl - D.np) V.undef) σ φ h₁ ->
   (∀ b o,s.heap.get? b=some o->h₁.get? b=some o)->(∀ b,own env b->s.heap.get? b=none) ->
   wpAny C.M (A.deeper env) (execs body env) (λfl s'=>Q (match fl with | .ret v=>v | _=>.none) s') (λe s'=>wpAny C.M (A.deeper env) (leaving env e) (λ_ s''=>E e s'') (λe' s''=>E e' s'') s') { s with heap:=h₁,toks:=tk }):wpAny C.M A (call (.ref a) cvs) Q E s:=by
 obtain ⟨y',a',o,params,body,scope,pm,code,doc,tbl,e1,e2,e3,e4,e5,X⟩:=dk f D hD
 rw [hy] at e1;cases e1
 rw [ha] at e2;cases e2
 obtain ⟨fuel,hb⟩:=X.body
 have hvl:cvs.length=(params.args.map (·.arg)).length:=by rw [rs.length,hlen,X.len]
 have hroom:A.depth<recursionLimit:=by have:=hr.dep;lia
 have R':=R
 refine wpAny_call (call_cells (R:=λr s'=>match r with | .ok (.ret v')=>Q v' s' | .ok _=>False | .error e=>E e s') hroom (R.based _ _ e3) e4 (ok.nolimit.keeps R.based) (e5.keeps R.based)
  (ql4 (fd:=docDef y params body scope pm code doc) X.p1 X.p2 X.p3 X.p4 rfl X.np hvl) (λx hx=>?_) (λh₁ tk Fr₁ Cl₁=>?_) X.co X.ge X.fn)
 ·have hx1:x.1∈params.args.map (·.arg):=(List.of_mem_zip (a:=x.1) (b:=x.2) hx).1
  rcases X.kinds x.1 hx1 with q | q
  ·exact .inl q
  ·refine .inr ⟨q,?_⟩
   obtain ⟨c,hc⟩:=qd6 (n:=s.heap.objs.size+1) (acc:=[]) (.inl (mem_of_lookup q))
   obtain ⟨c',hc'⟩:=qfx hc
   rw [hc'];rfl
 ·have R₁:SR C.B σ φ h₁:=R.grow Fr₁.keep
  have rs₁:VRs C.B σ φ h₁ vs cvs:=rs.grow R Fr₁.keep
  have hNd:((cellsFrom (s.heap.objs.size+1) scope.names []).map (·.1)).Nodup:=qfv X.ns List.nodup_nil (λ_ _ hx=>by cases hx)
  have gone:∀ b,s.heap.objs.size≤b->s.heap.get? b=none:=λb hb=>by
   cases e:s.heap.get? b with
   | none=>rfl
   | some o=>exact absurd (Heap.lt_size e) (Nat.not_lt.mpr hb)
  have goneB:∀ b,s.heap.objs.size≤b->C.B.hb.get? b=none:=λb hb=>by
   cases e:C.B.hb.get? b with
   | none=>rfl
   | some o=>have:=R.based b o e;rw [gone b hb] at this;cases this
  have arg:∀ x i u,tbl.lookup x=some i->getV (vs++List.replicate (D.nl - D.np) V.undef) i=some u->(params.args.map (·.arg))[i]? = some x∧∃ cu,cvs[i]? = some cu∧VR C.B σ φ h₁ u cu:=by
   intro x i u e6 e7
   have e8:=qrx e7
   refine x1_2 (rs₁.get e8) λcu e9 e10=>?_
   have hi:i<(params.args.map (·.arg)).length:=by rw [← hvl];exact (List.getElem?_eq_some_iff.mp e9).1
   have e11:=X.first i _ (List.getElem?_eq_getElem hi)
   have:(params.args.map (·.arg))[i]=x:=X.inj _ _ i e11 e6
   exact ⟨by rw [List.getElem?_eq_getElem hi,this],cu,e9,e10⟩
  have F₁:FR C.B tbl (envOfC y scope s.heap.objs.size a code) (vs++List.replicate (D.nl - D.np) V.undef) σ φ h₁:=by
   refine ⟨X.fn,rfl,rfl,⟨_,Fr₁.ns,λx i u e6 e7 e8=>?_⟩,λx i u e6 e7 e8=>?_,λL=>?_,λx c hc=>?_,goneB _ (Nat.le_refl _),λx c hc=>goneB _ (Nat.le_of_lt (Cl₁.above x c hc)),λx e6=>?_⟩
   ·obtain ⟨e9,cu,e10,e11⟩:=arg x i u e6 e7
    exact ⟨cu,(qkl (α:=Unit) X.np hvl e9 e8).trans e10,e11⟩
   ·obtain ⟨e9,cu,e10,e11⟩:=arg x i u e6 e7
    have e12:scope.names.lookup x=some .cell:=by
     rcases e8 with e8 | e8
     ·exact e8
     ·rcases X.kinds x (List.mem_of_getElem? e9) with q | q
      ·have e8:scope.names.lookup x=some .free:=e8
       rw [q] at e8;cases e8
      ·exact q
    obtain ⟨c,hc⟩:=qd6 (n:=s.heap.objs.size+1) (acc:=[]) (.inl (mem_of_lookup e12))
    have hc':=qc4 hNd hc
    refine ⟨c,cu,hc',?_,e11⟩
    have:=Cl₁.cell x c hc'
    rw [show (docDef y params body scope pm code doc).params=params from rfl] at this
    rw [qkk X.np hvl e9 (by show scope.names.lookup x≠_;rw [e12];intro q;cases q),e10] at this
    exact this
   ·obtain ⟨o,e⟩:=R.ex _ L.mem
    have e:s.heap.get? s.heap.objs.size=some o:=e
    rw [gone _ (Nat.le_refl _)] at e;cases e
   ·exact ⟨_,Cl₁.cell x c (qc4 hNd hc)⟩
   ·obtain ⟨c,hc⟩:=qd6 (n:=s.heap.objs.size+1) (acc:=[]) (.inl (mem_of_lookup e6))
    show ((cellsFrom (s.heap.objs.size+1) scope.names []).lookup x).isSome=true
    rw [qc4 hNd hc];rfl
  have hΓ:(vs++List.replicate (D.nl - D.np) V.undef).length=D.nl:=by
   rw [List.length_append,List.length_replicate,hlen]
   have:=X.le;lia
  have own0:∀ b,own (envOfC y scope s.heap.objs.size a code) b->s.heap.get? b=none:=by
   rintro b (rfl | ⟨x,hx⟩)
   ·exact gone _ (Nat.le_refl _)
   ·exact gone _ (Nat.le_of_lt (Cl₁.above x b hx))
  have km:(envOfC y scope s.heap.objs.size a code).scope.kind≠.module:=by show scope.kind≠_;rw [X.fn];intro q;cases q
  have hr':Room (envOfC y scope s.heap.objs.size a code::C.B.fl) d (A.deeper (envOfC y scope s.heap.objs.size a code)):=⟨hr.hh,by have:=hr.dep;show A.depth+1+d≤_;lia,by have:=hr.un;rw [Around.deeper_units];lia,Around.frames_deeper hr.fr,λe he=>(List.mem_cons.mp he).elim (λq=>by rw [q];exact ⟨km,_,rfl⟩) (hr.fk e)⟩
  have R₂:SR (C.B.wfl (envOfC y scope s.heap.objs.size a code::C.B.fl)) σ φ h₁:=R₁.fl _ λL hL=>by
   rw [List.filterMap_cons] at hL
   rcases List.mem_cons.mp (show L∈s.heap.objs.size::C.B.fl.filterMap (·.frame) from hL) with rfl | hL
   ·obtain ⟨m,⟨o,es,ep,ho,hd,_⟩,_⟩:=F₁.ns
    exact ⟨⟨o,es,ep,ho,hd⟩,F₁.nl,F₁.newL⟩
   ·exact R₁.fo L hL
  refine k (envOfC y scope s.heap.objs.size a code) tbl body fuel h₁ tk ⟨X.inj,Cl₁.apart,?_,C.B.fl,rfl,rfl,km,λL hL ho=>?_⟩ (by rw [hΓ];exact hb) hr' R₂ (F₁.fl _) Fr₁.keep own0
  ·show (scope.kind == .module && _)=false
   rw [X.fn];rfl
  ·obtain ⟨⟨o,_,_,e,_⟩,_⟩:=R.fo L hL
   rw [own0 L ho] at e;cases e
theorem qtn {B:Bs}{env:Env}:∀ L∈B.fad,L∈(env::B.fl).filterMap (·.frame):=λL hL=>by
 rw [List.filterMap_cons]
 split
 ·exact hL
 ·exact List.mem_cons_of_mem _ hL
theorem qqy {gl:List V}{P:List Def}{d f:Nat}{vs:List V}{σ σ':Sg}{c:Nat}(h:callF gl P (d+1) f vs σ = .ex c σ'):∃ D,P[f]? = some D∧vs.length=D.np∧exB gl (callF gl P d) D.body (vs++List.replicate (D.nl - D.np) .undef) σ = .ex c σ':=by
 rw [qfq] at h
 cases hD:P[f]? with
 | none=>rw [hD] at h;cases h
 | some D =>
  rw [hD] at h
  by_cases hl:vs.length=D.np
  ·replace h:=(if_pos hl).symm.trans h
   rcases qau h with ⟨_,h⟩ | ⟨p,s,h1,h⟩
   ·exact ⟨D,rfl,hl,h⟩
   ·cases h
  ·replace h:=(if_neg hl).symm.trans h;cases h
theorem qqz {gl:List V}{P:List Def}{d f:Nat}{vs:List V}{σ σ':Sg}{v:V}(h:callF gl P (d+1) f vs σ = .ok v σ'):∃ D,P[f]? = some D∧vs.length=D.np∧∃ p,exB gl (callF gl P d) D.body (vs++List.replicate (D.nl - D.np) .undef) σ = .ok p σ'∧flV p.1=v:=by
 rw [qfq] at h
 cases hD:P[f]? with
 | none=>rw [hD] at h;cases h
 | some D =>
  rw [hD] at h
  by_cases hl:vs.length=D.np
  ·replace h:=(if_pos hl).symm.trans h
   obtain ⟨p,s,h1,h⟩:=qbm h
   cases h
   exact ⟨D,rfl,hl,p,h1,rfl⟩
  ·replace h:=(if_neg hl).symm.trans h;cases h
theorem qkm (ok:C.Ok)(dk:DefsOk C)(XF:XFacts C)(XC:XQ C)(hcs:CallSims C d)(hcx:CallXs C d):CallSim C (d+1):=by
 intro f y a vs σ v σ' he hy ha A s φ cvs E hr R rs
 obtain ⟨D,hD,hlen,p,h1,ev⟩:=qqz he
 subst ev
 refine qhj ok dk hD hlen hy ha hr R rs λenv tbl body fuel h₁ tk ho hb hr' R₁ F₁ hk own0=>?_
 refine wpAny_mono ((simS (C:=C.wfl (env::C.B.fl)) (ok.wfl _) (λav fl=>hcs av fl) (hcx C.B.av _) XF ⟨XC.cls,XC.inj⟩ fuel).2 body D.body env tbl _ σ p σ' _ { s with heap:=h₁,toks:=tk } φ _ ho hb h1 hr' R₁ F₁) (λfl s₂ P=>?_) λ_ _ e=>e
 obtain ⟨φ₂,h₂,tk₂,rfl,R₂,S₂,F₂,hn₂,f₂⟩:=P
 have S:Stp W0 σ φ s.heap σ' φ₂ h₂:=(Stp.trans (Stp.grow hk) S₂ R.len).drop own0
 have R₂:SR C.B σ' φ₂ h₂:=SR.lf (l:=env::C.B.fl) R₂ qtn
 obtain ⟨pf,pΓ⟩:=p
 cases f₂ with
 | next=>exact ⟨φ₂,h₂,tk₂,rfl,R₂,S,.none⟩
 | ret r=>exact ⟨φ₂,h₂,tk₂,rfl,R₂,S,(qnf (env::C.B.fl)).v _ r⟩
theorem qpw (ok:C.Ok)(dk:DefsOk C)(XF:XFacts C)(XC:XQ C)(hcs:CallSims C d)(hcx:CallXs C d):CallX C (d+1):=by
 intro f y a vs σ c σ' he hy ha A s φ cvs Q hr R rs
 obtain ⟨D,hD,hlen,h1⟩:=qqy he
 refine qhj ok dk hD hlen hy ha hr R rs λenv tbl body fuel h₁ tk ho hb hr' R₁ F₁ hk own0=>?_
 have S0:Stp W0 σ φ s.heap σ φ h₁:=Stp.grow hk
 obtain ⟨l,Gx⟩:=fx_of (C:=C.wfl (env::C.B.fl)) hr' ho R₁
 refine wpAny_mono ((simX (C:=C.wfl (env::C.B.fl)) (ok.wfl _) (λav fl=>hcs av fl) (hcx C.B.av _) XF ⟨XC.cls,XC.inj⟩ (qu2 (ok.wfl _) XF ⟨XC.cls,XC.inj⟩) fuel).2 body D.body env tbl _ σ c σ' _ { s with heap:=h₁,toks:=tk } φ l _ ho hb h1 hr' Gx R₁ F₁) (λ_ _ q=>q) λv s₂ x=>?_
 refine wpAny_mono (qwq (s:={ s with heap:=h₁,toks:=tk }) (E:=λe s'=>XP C.B W0 s σ φ σ' c (· = some .none) e s') Gx.fr Gx.loc Gx.own R₁ x) (λ_ s₃ y=>?_) λ_ _ e=>e
 obtain ⟨φ',h',tk',b,Ca,fl,R',S',K,hx,hn,hfl,r⟩:=y
 have new:∀ b,h₁.get? b=none->s.heap.get? b=none:=λb hb=>by
  cases e:s.heap.get? b with
  | none=>rfl
  | some o=>rw [hk b o e] at hb;cases hb
 refine ⟨φ',h',tk',b,Ca,fl,SR.lf (l:=env::C.B.fl) R' qtn,(Stp.trans S0.w0 S' R.len).drop own0,λ_ x=>x.elim,hx,new b hn,hfl,?_⟩
 obtain ⟨oe,ws,r1,r2,r3,r4,r5⟩:=r
 refine ⟨oe,ws,r1,r2,r3,r4,?_⟩
 subst hfl
 obtain ⟨T,oT,ts,k1,k2,k3⟩:=r5
 exact ⟨T,oT,ts,k1,new T k2,k3⟩
end
theorem callBoth:∀ (d:Nat) (C:Cx),C.Ok->DefsOk C->XFacts C->XQ C->CallSims C d∧CallXs C d
 | 0,_,_,_,_,_=>⟨λav fl f y a vs σ v σ' he=>(by unfold callF at he;cases he),λav fl f y a vs σ c σ' he=>(by unfold callF at he;cases he)⟩
 | d+1,C,ok,dk,XF,XC=>by
  obtain ⟨h1,h2⟩:=callBoth d C ok dk XF XC
  exact ⟨λav fl=>qkm (C:={ C with B:={ C.B with av:=av,fl:=fl } }) ⟨ok.g,ok.b,ok.nolimit,ok.bins,ok.glob,ok.fn⟩ dk XF ⟨XC.cls,XC.inj⟩ (λav' fl'=>h1 av' fl') λav' fl'=>h2 av' fl',
   λav fl=>qpw (C:={ C with B:={ C.B with av:=av,fl:=fl } }) ⟨ok.g,ok.b,ok.nolimit,ok.bins,ok.glob,ok.fn⟩ dk XF ⟨XC.cls,XC.inj⟩ (λav' fl'=>h1 av' fl') λav' fl'=>h2 av' fl'⟩
end Mine.Internal
namespace Mine.Internal
open PySem PyProof.Rows PySem.Calls
noncomputable def chkProg (N:Nm)(fuel:Nat)(recs:List DefRec):List Str->List Def->List (List (Str×Nat))->Bool
 | [],[],[]=>true
 | y::ys,D::Ds,t::ts=>recs.any (λr=>eqS r.name y && chkDef N fuel r.params r.body r.scope D t) && chkProg N fuel recs ys Ds ts
 | _,_,_=>false
theorem qhl {N:Nm}{fuel:Nat}{recs:List DefRec}:∀ {ys:List Str} {Ds:List Def} {ts:List (List (Str×Nat))},chkProg N fuel recs ys Ds ts=true->∀ (f:Nat) (D:Def),Ds[f]? = some D ->
  ∃ y t,ys[f]? = some y∧∃ r∈recs,r.name=y∧chkDef N fuel r.params r.body r.scope D t=true
 | [],[],_,_,f,D,h=>by simp at h
 | [],_::_,_,hc,_,_,_=>qaa hc
 | _::_,[],_,_,_,_,h=>by simp at h
 | _::_,_::_,[],hc,_,_,_=>qaa hc
 | y::ys,E::Ds,t::ts,hc,f,D,h=>by
  replace hc:=both hc
  cases f with
  | zero =>
   simp at h;subst h
   refine x1_2 (List.any_eq_true.mp hc.1) λr hr h2=>?_
   rw [Bool.and_eq_true] at h2
   exact ⟨y,t,rfl,r,hr,qax.mp h2.1,h2.2⟩
  | succ f =>
   refine x2_2 (qhl hc.2 f D (by simpa using h)) λy' t' h1 h2=>?_
   exact ⟨y',t',by simpa using h1,h2⟩
noncomputable def freeNames (p:Program)(loose:List Str):Bool :=
 bnames.all λb=>!memS b.1 startupNames && !memS b.1 loose && !memS b.1 ((recsOf p).map (·.name)) && !memS b.1 ((litsOf p).map (·.1)) && !memS b.1 ((clssOf p loose).map (·.name))
theorem qff {x:Str}{l:List Str}(h:(!memS x l)=true):x∉l:=λhm=>by rw [qmr hm] at h;cases h
theorem ql5:∀ b∈bnames,bootBuiltins b.1=some b.2∧b.1≠oS "__name__":=by
 intro b hb
 simp only [bnames,List.mem_cons,List.not_mem_nil,or_false] at hb
 rcases hb with rfl | rfl | rfl | rfl | rfl | rfl | rfl | rfl | rfl | rfl | rfl | rfl | rfl | rfl | rfl <;> refine ⟨by decide +kernel,by decide +kernel⟩
noncomputable def isLit:V->PyData->Bool
 | .int i,.int j=>i == j
 | .bool a,.bool b=>a == b
 | .str s,.str t=>t.cps.toList == s && s.length≤1000
 | _,_=>false
noncomputable def chkGl (p:Program):List Str->List V->Bool
 | [],[]=>true
 | y::ys,v::vs=>(match valOf p y with | some d=>isLit v d | none=>false) && chkGl p ys vs
 | _,_=>false
theorem qqa {v:V}{d:PyData}{P:V->PyData->Prop}(h:isLit v d=true)(hb:∀ a,P (.bool a) (.bool a))(hi:∀ i,P (.int i) (.int i))(hs:∀ s,s.length≤1000->P (.str s) (.str ⟨s.toArray⟩)):P v d:=by
 cases v with
 | bool a=>cases d with
  | bool b=>rw [beq_iff_eq.mp h];exact hb _
  | _=>exact qaa h
 | int a=>cases d with
  | int b=>rw [beq_iff_eq.mp h];exact hi _
  | _=>exact qaa h
 | str s=>cases d with
  | str x =>
   have h:=both h
   rw [beq_iff_eq,decide_eq_true_eq] at h
   have e:x=⟨s.toArray⟩:=by
    obtain ⟨⟨a⟩⟩:=x
    have:=h.1
    simp at this
    rw [this]
   rw [e];exact hs s h.2
  | _=>exact qaa h
 | _=>exact qaa h
theorem qua {v:V}{d:PyData}{cv:Value}(h:isLit v d=true)(hr:∀ h':Heap,Reads h' cv d []):∀ B σ φ h,VR B σ φ h v cv:=by
 refine qqa (P:=λv d=>(∀ h':Heap,Reads h' cv d [])->∀ B σ φ h,VR B σ φ h v cv) h (λa hr B σ φ hh=>?_) (λi hr B σ φ hh=>?_) (λs hl hr B σ φ hh=>?_) hr
 ·cases hr hh;exact .bool _
 ·cases hr hh;exact .int _ _
 ·cases hr hh;exact .str s _ (by unfold roomy;lia)
theorem qnh {p:Program}:∀ {ys:List Str} {vs:List V},chkGl p ys vs=true->∀ (g:Nat) (v:V),vs[g]? = some v->∃ y d,ys[g]? = some y∧valOf p y=some d∧isLit v d=true
 | [],[],_,g,v,h=>by simp at h
 | [],_::_,hc,_,_,_=>qaa hc
 | _::_,[],_,_,_,h=>by simp at h
 | y::ys,u::vs,hc,g,v,h=>by
  replace hc:=both hc
  cases g with
  | zero =>
   simp at h;subst h
   have:=hc.1
   cases hd:valOf p y with
   | none=>rw [hd] at this;cases this
   | some d=>rw [hd] at this;exact ⟨y,d,rfl,hd,this⟩
  | succ g =>
   refine x2_2 (qnh hc.2 g v (by simpa using h)) λy' d h1 h2=>?_
   exact ⟨y',d,by simpa using h1,h2⟩
structure XOk (ns:List Str) (mg:Str->Option Value) (h:Heap):Prop where
 cls:∀ (c:Nat) (x:Str),ns[c]? = some x->∃ Ca,mg x=some (.ref Ca)∧QC h Ca (if c=0 then [] else [(mg (ns.headD "")).getD .none])
 inj:∀ (c c':Nat) (x x':Str) (Ca:Addr),ns[c]? = some x->ns[c']? = some x'->mg x=some (.ref Ca)->mg x'=some (.ref Ca)->c=c'
theorem XOk.keeps {ns:List Str}(mg:Str->Option Value)(h h':Heap)(X:XOk ns mg h)(hk:∀ b o,h.get? b=some o->h'.get? b=some o):XOk ns mg h' :=
 ⟨λc x e=>let ⟨Ca,a,b⟩:=X.cls c x e;⟨Ca,a,b.keeps hk⟩,X.inj⟩
theorem qc_of {h:Heap}{name:Str}{chain:List Str}(x:h.ownExcOk name chain bmVE "ValueError.__new__" = true)(y:qOk h name=true) :
  ∃ C,h.nsMap mainGlobals name=some (.ref C)∧QC h C (chain.map λn=>(h.nsMap mainGlobals n).getD .none):=by
 obtain ⟨C,N,nm,q,bs,hdct,sn,sub,ab,col,dd,k0,k1,k2,k3,k5,hb,hC,hN,_⟩:=Heap.ownExc_of_ok x
 refine ⟨C,hb,nm,q,N,bs,hdct,sn,sub,ab,col,dd,k0,k1,k2,k3,k5,_,hC,hN,λn hn=>?_⟩
 unfold qOk at y
 cases hf:h.clsAt mainGlobals name with
 | none=>rw [hf] at y;cases y
 | some z =>
  obtain ⟨C',o',cd'⟩:=z
  rw [hf] at y
  obtain ⟨hn',ho',hd'⟩:=Heap.clsAt_spec hf
  rw [hb] at hn'
  obtain rfl:C=C':=by injection hn' with q1;injection q1
  rw [hC] at ho'
  obtain rfl:=Option.some.inj ho'
  obtain rfl:_=cd':=by injection hd'
  exact Option.isNone_iff_eq_none.mp (List.all_eq_true.mp y n hn)
theorem qtq {h:Heap}{x0:Str}:∀ {l:List Str},xOkAll h x0 l=true->∀ (c:Nat) (x:Str),l[c]? = some x->h.ownExcOk x [x0] bmVE "ValueError.__new__" = true∧qOk h x=true
 | [],_,_,_,e=>by cases e
 | y::r,hc,0,x,e=>by cases e;exact both (both hc).1
 | y::r,hc,c+1,x,e=>qtq (both hc).2 c x e
theorem XOk.of {ns:List Str}{h:Heap}(x:xOkB ns h=true):XOk ns (h.nsMap mainGlobals) h:=by
 match ns,x with
 | x0::r,x =>
  obtain ⟨h1,h2⟩:=both x
  obtain ⟨h2,h3⟩:=both h2
  have h3:=of_decide_eq_true h3
  refine ⟨λc x e=>?_,λc c' x x' Ca e e' a a'=>?_⟩
  ·cases c with
   | zero=>cases e;exact qc_of (both h1).1 (both h1).2
   | succ c =>
    obtain ⟨k1,k2⟩:=qtq h2 c x e
    exact qc_of k1 k2
  ·have l1:((x0::r).map λx=>refO (h.nsMap mainGlobals x))[c]? = some (some Ca):=by rw [List.getElem?_map,e];show some (refO (h.nsMap mainGlobals x))=_;rw [a];rfl
   have l2:((x0::r).map λx=>refO (h.nsMap mainGlobals x))[c']? = some (some Ca):=by rw [List.getElem?_map,e'];show some (refO (h.nsMap mainGlobals x'))=_;rw [a'];rfl
   have hlt:c<((x0::r).map λx=>refO (h.nsMap mainGlobals x)).length:=(List.getElem?_eq_some_iff.mp l1).1
   exact (List.getElem?_inj hlt h3).mp (l1.trans l2.symm)
section
variable {prog:Program} {w:World} {s:Shared} {p:Program} {loose:List Str} {mean:ExcName->Option Value} {mg mb:Str->Option Value}
noncomputable def mkC (prog:Program)(w:World)(h:Heap)(mg mb:Str->Option Value)(N:Nm)(P:List Def)(gl:List V):Cx:=⟨⟨prog,w,h,λc=>(N.xns[c]?).bind λx=>refO (mg x),λ_=>False,[]⟩,mg,mb,N,P,gl⟩
theorem mkC_ok {N:Nm}{P:List Def}{gl:List V}{tbls:List (List (Str×Nat))}{fuel:Nat}(T:Top p loose mean mg mb s.heap)(hf:freeNames p loose=true)(hp:chkProg N fuel (recsOf p) N.fns P tbls=true)(hl:N.fns.length=P.length)
  (hg:chkGl p N.gns gl=true):(mkC prog w s.heap mg mb N P gl).Ok∧DefsOk (mkC prog w s.heap mg mb N P gl):=by
 have dk:DefsOk (mkC prog w s.heap mg mb N P gl):=by
  intro f D hD
  obtain ⟨y,t,h1,r,hr,rfl,h2⟩:=qhl hp f D hD
  obtain ⟨a,o,pm,code,doc,k1,k2,k3,k4⟩:=T.fn r hr
  exact ⟨r.name,a,o,r.params,r.body,r.scope,pm,code,doc,t,h1,k1,k2,k3,k4,DefFacts.of h2⟩
 refine ⟨⟨T.g,T.b,T.nolimit,λb hb=>?_,λg v hv=>?_,λf y hy=>?_⟩,dk⟩
 ·have:=qfn hf hb
  simp only [Bool.and_eq_true] at this
  obtain ⟨⟨⟨⟨h1,h2⟩,h3⟩,h4⟩,h5⟩:=this
  obtain ⟨h6,h7⟩:=ql5 b hb
  exact ⟨T.free b.1 (qff h1) (qff h2) (qff h3) (qff h4) (qff h5),(T.builtins b.1 h7).trans h6⟩
 ·refine x2_3 (qnh hg g v hv) λy d h1 h2 h3=>?_
  refine x1_2 (T.const y d h2) λcv h4 h5=>?_
  exact ⟨y,cv,h1,h4,qua h3 h5⟩
 ·have hlt:f<P.length:=by rw [← hl];exact (List.getElem?_eq_some_iff.mp hy).1
  obtain ⟨y',a,o,params,body,scope,pm,code,doc,t,h1,k1,k2,k3,_⟩:=dk f P[f] (List.getElem?_eq_getElem hlt)
  rw [h1] at hy
  cases hy
  exact ⟨a,o,_,k1,k2,k3⟩
theorem qxe {o:Option Value}{a:Addr}(h:refO o=some a):o=some (.ref a):=by
 cases o with
 | none=>cases h
 | some v=>cases v <;> first | (cases h;rfl) | cases h
theorem mkC_x {N:Nm}{P:List Def}{gl:List V}{h:Heap}(X:XOk N.xns mg h)(h0:(N.xns[0]?).isSome=true):XFacts (mkC prog w h mg mb N P gl)∧XQ (mkC prog w h mg mb N P gl):=by
 have xf:XFacts (mkC prog w h mg mb N P gl):=λc x e=>by
  obtain ⟨Ca,a,_⟩:=X.cls c x e
  refine ⟨Ca,?_,a⟩
  show (N.xns[c]?).bind (λx=>refO (mg x))=some Ca
  have e:N.xns[c]? = some x:=e
  rw [e];show refO (mg x)=_;rw [a];rfl
 have inv:∀ c Ca,(mkC prog w h mg mb N P gl).B.xc c=some Ca->∃ x,N.xns[c]? = some x∧mg x=some (.ref Ca):=λc Ca e=>by
  replace e:(N.xns[c]?).bind (λx=>refO (mg x))=some Ca:=e
  cases hx:N.xns[c]? with
  | none=>rw [hx] at e;cases e
  | some x=>rw [hx] at e;exact ⟨x,rfl,qxe e⟩
 refine ⟨xf,?_,λc c' Ca e e'=>?_⟩
 ·obtain ⟨x0,e0⟩:=Option.isSome_iff_exists.mp h0
  obtain ⟨C0,z0,m0⟩:=xf 0 x0 e0
  refine ⟨C0,z0,λc Ca e=>?_⟩
  obtain ⟨x,ex,mx⟩:=inv c Ca e
  obtain ⟨Ca',a,q⟩:=X.cls c x ex
  rw [mx] at a;cases a
  have eh:N.xns.headD "" = x0:=by rw [List.headD_eq_head?_getD,List.head?_eq_getElem?,e0];rfl
  have m0:mg x0=some (.ref C0):=m0
  rw [eh,m0] at q
  exact q
 ·obtain ⟨x,ex,mx⟩:=inv c Ca e
  obtain ⟨x',ex',mx'⟩:=inv c' Ca e'
  exact X.inj c c' x x' Ca ex ex' mx mx'
theorem qt8 {B:Bs}{σ:Sg}{φ:List Addr}{h:Heap}{vs:List Value}{xs:List Int}(hi:IntsAre vs xs):VRs B σ φ h (xs.map V.int) vs:=by
 induction hi with
 | nil=>exact .nil
 | cons n t _ ih=>exact .cons (.int n t) ih
open PySem.W in
theorem qlr {Q:Params}{h:Heap}:∀ {vs:List Value} {xs:List Int},WellAll Q h vs (ofPys (xs.map PyData.int))->IntsAre vs xs
 | _,[],w=>by
  cases w;exact .nil
 | _,x::xs,w=>by
  cases w with
  | cons a r=>cases a with | int i t=>exact .cons _ _ (qlr r)
open PySem.W in
theorem well_script {Q:Params}{h:Heap}{a:Addr}{xs:List Int}(w:Well Q h (.ref a) (ofPy (.list (xs.map PyData.int)))):∃ vs:List Value,h.get? a=some { cls:=.type "list",data:=.seq vs.toArray }∧IntsAre vs xs:=by
 have w':Well Q h (.ref a) (.list (ofPys (xs.map PyData.int))):=w
 cases w' with
 | list e r=>exact ⟨_,e,qlr r⟩
open PySem.W in
theorem good_true {c:ClaimW}{cl:Str->Option Addr}{mean:ExcName->Option Value}{args:List WData}{s₁ s':Shared}{v:Value}(hn:∀ cls,c.raises args cls=false)(hp:c.post args (.bool true) args=true)(hg:s₁.gens = #[])
  (h:v = .bool true∧∃ h' tk,s' = { s₁ with heap:=h',toks:=tk }∧∀ b o,s₁.heap.get? b=some o->h'.get? b=some o):GoodWG c cl mean args s₁ (.ok (.ret v)) s':=by
 obtain ⟨rfl,h',tk,rfl,hk⟩:=h
 exact ⟨.inl ⟨_,_,[],rfl,hn,.bool true,hp,λ_=>⟨List.nodup_nil,λa ha=>by cases ha⟩⟩,.of_keep hk,rfl,.of_eq hg⟩
theorem law_run {N:Nm}{P:List Def}{gl:List V}{tbls:List (List (Str×Nat))}{fuel d f:Nat}{σ':Sg}{fa a:Addr}{vs:List Value}{xs:List Int}{E:Value->Shared->Prop}(T:Top p loose mean mg mb s.heap)(XX:XOk N.xns mg s.heap)(hx0:(N.xns[0]?).isSome=true)(hf:freeNames p loose=true)
  (hp:chkProg N fuel (recsOf p) N.fns P tbls=true) (hl:N.fns.length=P.length) (hg:chkGl p N.gns gl=true) (hn:N.fns[f]? = some (oS "law")) (hmg:mg (oS "law")=some (.ref fa)) (hd:d≤600)
  (hli:s.heap.get? a=some { cls:=.type "list",data:=.seq vs.toArray }) (hi:IntsAre vs xs) (hx:xs.length≤63) (he:callF gl P d f [.lst (xs.map V.int)] [] = .ok (.bool true) σ') :
  wpAny (model prog w) callerA (call (.ref fa) [.ref a]) (λv s'=>v = .bool true∧∃ h' tk,s' = { s with heap:=h',toks:=tk }∧∀ b o,s.heap.get? b=some o->h'.get? b=some o) E s:=by
 obtain ⟨ok,dk⟩:=mkC_ok (prog:=prog) (w:=w) T hf hp hl hg
 obtain ⟨xf,xq⟩:=mkC_x (prog:=prog) (w:=w) (mb:=mb) (P:=P) (gl:=gl) XX hx0
 have hcs:=(callBoth d _ ok dk xf xq).1 (λ_=>False) []
 have R:SR (mkC prog w s.heap mg mb N P gl).B [] [] s.heap:=by
  refine ⟨rfl,List.nodup_nil,λa ha=>(by cases ha),λi xs e=>(by simp at e),λi xs e=>(by simp at e),λi xs e=>(by simp at e),(let ⟨o,_,_,e,_⟩:=T.g;⟨o,e⟩),λa ha=>(by cases ha),λb o e=>e,λa ha=>(by cases ha),λb hb=>hb.elim,λ_ _ hb=>hb,λL hL=>(by cases hL)⟩
 refine wpAny_mono (hcs f (oS "law") fa [.lst (xs.map V.int)] [] (.bool true) σ' he hn hmg callerA s [] [.ref a] E ⟨rfl,?_,?_,rfl,λ_ h=>by cases h⟩ R (.cons (.lst (vs:=vs) ⟨0,hli⟩ ⟨?_,λx=>x⟩ (qt8 hi) ?_) .nil)) (λv s' P=>?_) λ_ _ e=>e
 ·show 1+300+d≤1000;lia
 ·show 4+3 * d+100≤9900;lia
 ·rintro ⟨i,c,e,_⟩;simp at e
 ·rw [List.length_map];unfold roomy;lia
 ·refine x3_4 P ?_;clear P;intro φ' h' tk er3 R' S' r;subst er3
  cases r
  exact ⟨rfl,h',tk,rfl,λb o e=>R'.based b o e⟩
end
end Mine.Internal
namespace Mine.Internal
noncomputable def d_takes:Def:=⟨3,3, [.ite (.var 0) [.ret (.cmp .isin (.var 2) (.var 1))] [], .ret (.cmp .notin (.var 2) (.var 1))]⟩
noncomputable def d_l_cell_at:Def:=⟨2,2, [.ite (.cmp .lt (.var 1) (.bi .len [(.var 0)])) [.ret (.idx (.var 0) (.var 1))] [], .ret (.cInt 0)]⟩
noncomputable def d_l_sign_by:Def:=⟨1,2, [.asg 1 (.cStr [32,33,34,35,36,38,39,40,41,42,43,44,45,46,47,48,49,50,51,52,53,54,55,56,57,58,59,60,61,62,63,64,65,66,67,68,69,70,71,72,73,74,75,76,77,78,79,80,81,82,83,84,85,86,87,88,89,90,91,92,93,94,95,96]), .asg 1 (.bin .add (.var 1) (.cStr [97,98,99,100,101,102,103,104,105,106,107,108,109,110,111,112,113,114,115,116,117,118,119,120,121,122,123,124,125,126,10,9])), .ret (.idx (.var 1) (.bin .mod (.var 0) (.cInt 96)))]⟩
noncomputable def d_l_three_by:Def:=⟨1,1, [.ret (.bin .add (.bin .add (.call 1 [(.var 0)]) (.call 1 [(.bin .add (.var 0) (.cInt 31))])) (.call 1 [(.bin .add (.var 0) (.cInt 62))]))]⟩
noncomputable def d_bare:Def:=⟨1,2, [.ite (.cmp .eq (.idx (.var 0) (.cInt 0)) (.cStr [116,97,107,101])) [.ret (.cBool false)] [], .ite (.cmp .eq (.idx (.var 0) (.cInt 0)) (.cStr [114,111,119])) [.for 1 .val (.idx (.var 0) (.cInt 1)) .cNone [.ite (.not (.call 10 [(.var 1)])) [.ret (.cBool false)] []], .ret (.cBool true)] [], .ite (.cmp .eq (.idx (.var 0) (.cInt 0)) (.cStr [112,105,99,107])) [.for 1 .val (.idx (.var 0) (.cInt 1)) .cNone [.ite (.call 10 [(.var 1)]) [.ret (.cBool true)] []], .ret (.cBool false)] [], .ret (.cBool true)]⟩
noncomputable def d_row_tree:Def:=⟨1,1, [.ite (.cmp .eq (.bi .len [(.var 0)]) (.cInt 1)) [.ret (.idx (.var 0) (.cInt 0))] [], .ret (.tup [(.cStr [114,111,119]),(.bi .tuple [(.var 0)])])]⟩
noncomputable def d_group_tree:Def:=⟨1,2, [.asg 1 (.bin .add (.idx (.var 0) (.cInt 0)) (.lst false [(.call 14 [(.idx (.var 0) (.cInt 1))])])), .ite (.cmp .eq (.bi .len [(.var 1)]) (.cInt 1)) [.ret (.idx (.var 1) (.cInt 0))] [], .ret (.tup [(.cStr [112,105,99,107]),(.bi .tuple [(.var 1)])])]⟩
noncomputable def d_set_at:Def:=⟨2,4, [.asg 2 (.cBool true), .ite (.cmp .eq (.slice (.var 0) (some (.var 1)) (some (.bin .add (.var 1) (.cInt 1)))) (.cStr [33])) [.asg 2 (.cBool false), .asg 1 (.bin .add (.var 1) (.cInt 1))] [], .asg 3 (.lst true []), .while (.cmp .lt (.var 1) (.bi .len [(.var 0)])) [.ite (.cmp .eq (.idx (.var 0) (.var 1)) (.cStr [93])) [.ret (.tup [(.tup [(.cStr [116,97,107,101]),(.var 2),(.join (.cStr []) (.var 3))]),(.bin .add (.var 1) (.cInt 1))])] [], .ite (.cmp .eq (.idx (.var 0) (.var 1)) (.cStr [126])) [.asg 1 (.bin .add (.var 1) (.cInt 1)), .ite (.cmp .eq (.var 1) (.bi .len [(.var 0)])) [.raise 1] []] [], .expr (.app (.var 3) (.idx (.var 0) (.var 1))), .asg 1 (.bin .add (.var 1) (.cInt 1))], .raise 1]⟩
noncomputable def d_take_at:Def:=⟨2,3, [.asg 2 (.idx (.var 0) (.var 1)), .ite (.cmp .eq (.var 2) (.cStr [91])) [.ret (.call 16 [(.var 0),(.bin .add (.var 1) (.cInt 1))])] [], .ite (.cmp .eq (.var 2) (.cStr [46])) [.ret (.tup [(.tup [(.cStr [116,97,107,101]),(.cBool false),(.cStr [])]),(.bin .add (.var 1) (.cInt 1))])] [], .ite (.cmp .eq (.var 2) (.cStr [126])) [.ite (.cmp .eq (.bin .add (.var 1) (.cInt 1)) (.bi .len [(.var 0)])) [.raise 1] [], .ret (.tup [(.tup [(.cStr [116,97,107,101]),(.cBool true),(.idx (.var 0) (.bin .add (.var 1) (.cInt 1)))]),(.bin .add (.var 1) (.cInt 2))])] [], .ret (.tup [(.tup [(.cStr [116,97,107,101]),(.cBool true),(.var 2)]),(.bin .add (.var 1) (.cInt 1))])]⟩
noncomputable def d_repeated:Def:=⟨3,5, [.asg 3 (.cmp .ne (.slice (.var 1) (some (.bin .add (.var 2) (.cInt 1))) (some (.bin .add (.var 2) (.cInt 2)))) (.cStr [33])), .ite (.and (.cmp .eq (.idx (.var 1) (.var 2)) (.cStr [42])) (.call 10 [(.idx (.var 0) (.neg (.cInt 1)))])) [.raise 4] [], .asg 4 (.pop (.var 0)), .ite (.cmp .eq (.idx (.var 1) (.var 2)) (.cStr [42])) [.expr (.app (.var 0) (.tup [(.cStr [109,97,110,121]),(.var 4),(.var 3)]))] [.expr (.app (.var 0) (.tup [(.cStr [109,97,121,98,101]),(.var 4),(.var 3)]))], .ite (.var 3) [.ret (.bin .add (.var 2) (.cInt 1))] [], .ret (.bin .add (.var 2) (.cInt 2))]⟩
noncomputable def d_closed:Def:=⟨1,2, [.ite (.cmp .eq (.bi .len [(.var 0)]) (.cInt 1)) [.raise 2] [], .asg 1 (.call 15 [(.pop (.var 0))]), .expr (.app (.idx (.idx (.var 0) (.neg (.cInt 1))) (.cInt 1)) (.var 1))]⟩
noncomputable def d_read:Def:=⟨1,6, [.asg 1 (.lst true [(.lst true [(.lst true []),(.lst true [])])]), .asg 2 (.cBool false), .asg 3 (.cInt 0), .while (.cmp .lt (.var 3) (.bi .len [(.var 0)])) [.asg 4 (.idx (.var 0) (.var 3)), .ite (.or (.cmp .eq (.var 4) (.cStr [42])) (.cmp .eq (.var 4) (.cStr [63]))) [.ite (.not (.var 2)) [.raise 3] [], .asg 3 (.call 18 [(.idx (.idx (.var 1) (.neg (.cInt 1))) (.cInt 1)),(.var 0),(.var 3)]), .asg 2 (.cBool false)] [.ite (.cmp .eq (.var 4) (.cStr [40])) [.ite (.cmp .gt (.bi .len [(.var 1)]) (.glob 0)) [.raise 5] [], .expr (.app (.var 1) (.lst true [(.lst true []),(.lst true [])])), .asg 2 (.cBool false), .asg 3 (.bin .add (.var 3) (.cInt 1))] [.ite (.cmp .eq (.var 4) (.cStr [41])) [.expr (.call 19 [(.var 1)]), .asg 2 (.cBool true), .asg 3 (.bin .add (.var 3) (.cInt 1))] [.ite (.cmp .eq (.var 4) (.cStr [124])) [.expr (.app (.idx (.idx (.var 1) (.neg (.cInt 1))) (.cInt 0)) (.call 14 [(.idx (.idx (.var 1) (.neg (.cInt 1))) (.cInt 1))])), .sto (.idx (.var 1) (.neg (.cInt 1))) (.cInt 1) (.lst true []), .asg 2 (.cBool false), .asg 3 (.bin .add (.var 3) (.cInt 1))] [.ite (.cmp .eq (.var 4) (.cStr [93])) [.raise 2] [.asg 5 (.call 17 [(.var 0),(.var 3)]), .expr (.app (.idx (.idx (.var 1) (.neg (.cInt 1))) (.cInt 1)) (.idx (.var 5) (.cInt 0))), .asg 2 (.cBool true), .asg 3 (.idx (.var 5) (.cInt 1))]]]]]], .ite (.cmp .gt (.bi .len [(.var 1)]) (.cInt 1)) [.raise 1] [], .ret (.call 15 [(.idx (.var 1) (.cInt 0))])]⟩
noncomputable def d_put:Def:=⟨2,2, [.expr (.app (.var 0) (.var 1)), .ret (.bin .sub (.bi .len [(.var 0)]) (.cInt 1))]⟩
noncomputable def d_led:Def:=⟨3,6, [.ite (.cmp .eq (.idx (.var 1) (.cInt 0)) (.cStr [116,97,107,101])) [.ret (.call 38 [(.var 0),(.tup [(.cStr [116,97,107,101]),(.idx (.var 1) (.cInt 1)),(.idx (.var 1) (.cInt 2)),(.var 2)])])] [], .ite (.cmp .eq (.idx (.var 1) (.cInt 0)) (.cStr [114,111,119])) [.for 3 .rev (.idx (.var 1) (.cInt 1)) .cNone [.asg 2 (.call 39 [(.var 0),(.var 3),(.var 2)])], .ret (.var 2)] [], .ite (.cmp .eq (.idx (.var 1) (.cInt 0)) (.cStr [112,105,99,107])) [.ret (.call 40 [(.var 0),(.idx (.var 1) (.cInt 1)),(.var 2)])] [], .ite (.cmp .eq (.idx (.var 1) (.cInt 0)) (.cStr [109,97,110,121])) [.asg 4 (.call 38 [(.var 0),(.tup [(.cStr [101,110,100])])]), .asg 5 (.call 39 [(.var 0),(.idx (.var 1) (.cInt 1)),(.var 4)]), .sto (.var 0) (.var 4) (.call 41 [(.var 5),(.var 2),(.idx (.var 1) (.cInt 2))]), .ret (.var 4)] [], .ret (.call 38 [(.var 0),(.call 41 [(.call 39 [(.var 0),(.idx (.var 1) (.cInt 1)),(.var 2)]),(.var 2),(.idx (.var 1) (.cInt 2))])])]⟩
noncomputable def d_picked:Def:=⟨3,6, [.asg 3 (.comp false (.call 39 [(.var 0),(.var 6),(.var 2)]) .val (.var 1) .cNone none), .asg 4 (.idx (.var 3) (.neg (.cInt 1))), .for 5 .rev (.slice (.var 3) none (some (.neg (.cInt 1)))) .cNone [.asg 4 (.call 38 [(.var 0),(.tup [(.cStr [112,97,114,116]),(.var 5),(.var 4)])])], .ret (.var 4)]⟩
noncomputable def d_parted:Def:=⟨3,3, [.ite (.var 2) [.ret (.tup [(.cStr [112,97,114,116]),(.var 0),(.var 1)])] [], .ret (.tup [(.cStr [112,97,114,116]),(.var 1),(.var 0)])]⟩
noncomputable def d_net_of:Def:=⟨1,3, [.asg 1 (.lst true [(.tup [(.cStr [101,110,100])])]), .asg 2 (.call 39 [(.var 1),(.var 0),(.cInt 0)]), .ret (.frz (.tup [(.var 2),(.var 1)]))]⟩
noncomputable def d_gone_back:Def:=⟨3,3, [.while (.and (.cmp .gt (.bi .len [(.var 0)]) (.cInt 0)) (.or (.cmp .eq (.bi .len [(.var 1)]) (.cInt 0)) (.cmp .ne (.idx (.var 1) (.neg (.cInt 1))) (.bi .len [(.var 0)])))) [.sto (.var 2) (.pop (.var 0)) (.cBool true)], .ite (.cmp .eq (.bi .len [(.var 0)]) (.cInt 0)) [.ret (.cBool false)] [], .expr (.pop (.var 1)), .ret (.cBool true)]⟩
noncomputable def d_taken:Def:=⟨3,3, [.ret (.and (.cmp .lt (.var 2) (.bi .len [(.var 1)])) (.call 4 [(.idx (.var 0) (.cInt 1)),(.idx (.var 0) (.cInt 2)),(.idx (.var 1) (.var 2))]))]⟩
noncomputable def d_gone:Def:=⟨4,11, [.asg 4 (.idx (.var 0) (.cInt 1)), .asg 5 (.lst true []), .asg 6 (.lst true []), .asg 7 (.idx (.var 0) (.cInt 0)), .asg 8 (.var 2), .while (.cBool true) [.asg 9 (.cmp .isin (.tup [(.var 7),(.var 8)]) (.var 3)), .ite (.not (.var 9)) [.expr (.app (.var 5) (.tup [(.var 7),(.var 8)])), .asg 10 (.idx (.var 4) (.var 7)), .ite (.cmp .eq (.idx (.var 10) (.cInt 0)) (.cStr [101,110,100])) [.ret (.var 5)] [], .ite (.cmp .eq (.idx (.var 10) (.cInt 0)) (.cStr [112,97,114,116])) [.expr (.app (.var 6) (.bi .len [(.var 5)])), .asg 7 (.idx (.var 10) (.cInt 1))] [.ite (.call 44 [(.var 10),(.var 1),(.var 8)]) [.asg 7 (.idx (.var 10) (.cInt 3)), .asg 8 (.bin .add (.var 8) (.cInt 1))] [.asg 9 (.cBool true)]]] [], .ite (.var 9) [.ite (.not (.call 43 [(.var 5),(.var 6),(.var 3)])) [.ret .cNone] [], .asg 8 (.idx (.idx (.var 5) (.neg (.cInt 1))) (.cInt 1)), .asg 7 (.idx (.idx (.var 4) (.idx (.idx (.var 5) (.neg (.cInt 1))) (.cInt 0))) (.cInt 2))] []]]⟩
noncomputable def d_tried_from:Def:=⟨4,6, [.for 4 .rng2 (.var 2) (.bin .add (.bi .len [(.var 1)]) (.cInt 1)) [.asg 5 (.call 45 [(.var 0),(.var 1),(.var 4),(.var 3)]), .ite (.cmp .isnot (.var 5) .cNone) [.ret (.tup [(.var 4),(.bin .sub (.idx (.idx (.var 5) (.neg (.cInt 1))) (.cInt 1)) (.var 4))])] []], .ret .cNone]⟩
noncomputable def d_tried:Def:=⟨2,2, [.ret (.call 46 [(.var 0),(.var 1),(.cInt 0),(.dict true)])]⟩
noncomputable def d_first:Def:=⟨2,2, [.ret (.call 47 [(.call 42 [(.call 20 [(.var 0)])]),(.var 1)])]⟩
noncomputable def d_all_found:Def:=⟨2,7, [.asg 2 (.call 42 [(.call 20 [(.var 0)])]), .asg 3 (.dict true), .asg 4 (.lst true []), .asg 5 (.call 46 [(.var 2),(.var 1),(.cInt 0),(.var 3)]), .while (.cmp .isnot (.var 5) .cNone) [.expr (.app (.var 4) (.var 5)), .asg 6 (.bin .add (.idx (.var 5) (.cInt 0)) (.bi .max2 [(.idx (.var 5) (.cInt 1)),(.cInt 1)])), .asg 5 .cNone, .ite (.cmp .le (.var 6) (.bi .len [(.var 1)])) [.asg 5 (.call 46 [(.var 2),(.var 1),(.var 6),(.var 3)])] []], .ret (.frz (.var 4))]⟩
noncomputable def d_l_set_end:Def:=⟨2,2, [.while (.and (.cmp .lt (.var 1) (.bi .len [(.var 0)])) (.cmp .ne (.idx (.var 0) (.var 1)) (.cStr [93]))) [.ite (.cmp .eq (.idx (.var 0) (.var 1)) (.cStr [126])) [.asg 1 (.bin .add (.var 1) (.cInt 1))] [], .asg 1 (.bin .add (.var 1) (.cInt 1))], .ret (.var 1)]⟩
noncomputable def d_l_closed:Def:=⟨1,4, [.asg 1 (.idx (.var 0) (.neg (.cInt 1))), .asg 2 (.idx (.var 0) (.neg (.cInt 2))), .asg 3 (.or (.idx (.var 1) (.cInt 0)) (.and (.idx (.var 1) (.cInt 1)) (.idx (.var 1) (.cInt 2)))), .ret (.bin .add (.slice (.var 0) none (some (.neg (.cInt 2)))) (.lst false [(.tup [(.idx (.var 2) (.cInt 0)),(.and (.idx (.var 2) (.cInt 1)) (.idx (.var 2) (.cInt 2))),(.var 3)])]))]⟩
noncomputable def d_l_grouped:Def:=⟨2,3, [.asg 2 (.idx (.var 0) (.neg (.cInt 1))), .ite (.and (.cmp .eq (.var 1) (.cStr [40])) (.cmp .gt (.bi .len [(.var 0)]) (.cInt 30))) [.ret (.cStr [100,101,101,112])] [], .ite (.cmp .eq (.var 1) (.cStr [40])) [.ret (.bin .add (.var 0) (.lst false [(.tup [(.cBool false),(.cBool true),(.cBool true)])]))] [], .ite (.cmp .eq (.var 1) (.cStr [124])) [.ret (.bin .add (.slice (.var 0) none (some (.neg (.cInt 1)))) (.lst false [(.tup [(.or (.idx (.var 2) (.cInt 0)) (.and (.idx (.var 2) (.cInt 1)) (.idx (.var 2) (.cInt 2)))),(.cBool true),(.cBool true)])]))] [], .ite (.cmp .eq (.bi .len [(.var 0)]) (.cInt 1)) [.ret (.cStr [117,110,111,112,101,110,101,100])] [], .ret (.call 51 [(.var 0)])]⟩
noncomputable def d_l_wrong_repeat:Def:=⟨3,3, [.ite (.not (.var 1)) [.ret (.cStr [110,111,116,104,105,110,103])] [], .ite (.and (.cmp .eq (.var 0) (.cStr [42])) (.idx (.var 2) (.cInt 2))) [.ret (.cStr [114,111,117,110,100])] [], .ret (.cStr [])]⟩
noncomputable def d_l_due_v06:Def:=⟨1,7, [.asg 1 (.lst false [(.tup [(.cBool false),(.cBool true),(.cBool true)])]), .asg 2 (.cBool false), .asg 3 (.cInt 0), .while (.cmp .lt (.var 3) (.bi .len [(.var 0)])) [.asg 4 (.idx (.var 0) (.var 3)), .asg 5 (.idx (.var 1) (.neg (.cInt 1))), .ite (.cmp .isin (.var 4) (.cStr [40,124,41])) [.asg 1 (.call 52 [(.var 1),(.var 4)]), .ite (.bi .isStr [(.var 1)]) [.ret (.var 1)] []] [.ite (.cmp .isin (.var 4) (.cStr [42,63])) [.asg 6 (.call 53 [(.var 4),(.var 2),(.var 5)]), .ite (.cmp .ne (.var 6) (.cStr [])) [.ret (.var 6)] [], .asg 1 (.bin .add (.slice (.var 1) none (some (.neg (.cInt 1)))) (.lst false [(.tup [(.idx (.var 5) (.cInt 0)),(.idx (.var 5) (.cInt 1)),(.cBool true)])])), .ite (.cmp .eq (.slice (.var 0) (some (.bin .add (.var 3) (.cInt 1))) (some (.bin .add (.var 3) (.cInt 2)))) (.cStr [33])) [.asg 3 (.bin .add (.var 3) (.cInt 1))] []] [.ite (.cmp .eq (.var 4) (.cStr [93])) [.ret (.cStr [117,110,111,112,101,110,101,100])] [], .ite (.cmp .eq (.var 4) (.cStr [91])) [.asg 3 (.call 50 [(.var 0),(.bin .add (.var 3) (.cInt 1))])] [], .ite (.cmp .eq (.var 4) (.cStr [126])) [.asg 3 (.bin .add (.var 3) (.cInt 1))] [], .ite (.cmp .ge (.var 3) (.bi .len [(.var 0)])) [.ret (.cStr [117,110,99,108,111,115,101,100])] [], .asg 1 (.bin .add (.slice (.var 1) none (some (.neg (.cInt 1)))) (.lst false [(.tup [(.idx (.var 5) (.cInt 0)),(.and (.idx (.var 5) (.cInt 1)) (.idx (.var 5) (.cInt 2))),(.cBool false)])]))]], .asg 2 (.cmp .notin (.var 4) (.cStr [40,124,42,63])), .asg 3 (.bin .add (.var 3) (.cInt 1))], .ret (.ite (.cmp .gt (.bi .len [(.var 1)]) (.cInt 1)) (.cStr [117,110,99,108,111,115,101,100]) (.cStr []))]⟩
noncomputable def d_l_asked:Def:=⟨2,3, [.ite (.cmp .eq (.var 1) (.cInt 0)) [.ret (.bi .isTup [(.call 20 [(.var 0)])])] [], .ite (.cmp .eq (.var 1) (.cInt 1)) [.asg 2 (.call 48 [(.var 0),(.cStr [97,32,98])]), .ret (.or (.cmp .is (.var 2) .cNone) (.bi .isTup [(.var 2)]))] [], .ret (.bi .isLst [(.call 49 [(.var 0),(.cStr [])])])]⟩
noncomputable def d_l_refusal:Def:=⟨2,2, [.tryC (.ite (.call 55 [(.var 0),(.var 1)]) (.cStr []) (.cStr [110,111,32,97,110,115,119,101,114])) [(1,[117,110,99,108,111,115,101,100]),(2,[117,110,111,112,101,110,101,100]),(3,[110,111,116,104,105,110,103]),(4,[114,111,117,110,100]),(5,[100,101,101,112])]]⟩
noncomputable def d_l_one_class:Def:=⟨1,3, [.tryP (.call 20 [(.var 0)]), .ret (.cBool false)]⟩
noncomputable def d_l_piece_by_v06:Def:=⟨2,5, [.asg 2 (.lst false [(.cStr [40,97,41]),(.cStr [40,97,98,124,99,41]),(.cStr [91,97,98,93]),(.cStr [91,33,93]),(.cStr [40,97,63,41]),(.cStr [40,41]),(.cStr [40,124,97,41]),(.cStr [97,42]),(.cStr [126,41])]), .asg 3 (.bin .mod (.var 0) (.cInt 5)), .asg 4 (.bin .fdiv (.var 0) (.cInt 5)), .ite (.cmp .eq (.var 3) (.cInt 0)) [.ret (.call 1 [(.var 4)])] [], .ite (.cmp .eq (.var 3) (.cInt 1)) [.ret (.idx (.var 1) (.bin .mod (.var 4) (.cInt 3)))] [], .ite (.cmp .eq (.var 3) (.cInt 2)) [.ret (.idx (.cStr [40,41,124,42,63,46,91,93,126,33]) (.bin .mod (.var 4) (.cInt 10)))] [], .ite (.cmp .eq (.var 3) (.cInt 3)) [.ret (.idx (.var 2) (.bin .mod (.var 4) (.cInt 9)))] [], .ret (.idx (.cStr [40,124,41,42,63,33]) (.bin .mod (.var 4) (.cInt 6)))]⟩
noncomputable def d_law_v06:Def:=⟨1,7, [.asg 1 (.call 2 [(.call 0 [(.var 0),(.cInt 0)])]), .asg 2 (.join (.cStr []) (.comp false (.call 24 [(.var 7),(.var 1)]) .val (.slice (.var 0) (some (.cInt 3)) (some (.cInt 150))) .cNone none)), .ite (.cmp .eq (.bin .mod (.call 0 [(.var 0),(.cInt 1)]) (.cInt 4)) (.cInt 1)) [.asg 3 (.bin .add (.cInt 25) (.bin .mod (.call 0 [(.var 0),(.cInt 2)]) (.cInt 11))), .asg 4 (.bin .sub (.bin .mod (.bin .fdiv (.call 0 [(.var 0),(.cInt 1)]) (.cInt 4)) (.cInt 4)) (.cInt 1)), .asg 2 (.bin .add (.bin .add (.bin .mul (.cStr [40]) (.var 3)) (.var 2)) (.bin .mul (.cStr [41]) (.bin .sub (.var 3) (.var 4))))] [], .asg 5 (.call 54 [(.var 2)]), .for 6 .rng1 (.cInt 3) .cNone [.ite (.cmp .ne (.call 56 [(.var 2),(.var 6)]) (.var 5)) [.ret (.cBool false)] []], .ret (.or (.cmp .eq (.var 5) (.cStr [])) (.call 57 [(.var 2)]))]⟩
noncomputable def P06:List Def:=[d_l_cell_at,d_l_sign_by,d_l_three_by,d_law_v06,d_takes,d_l_cell_at,d_l_cell_at,d_l_cell_at,d_l_cell_at,d_l_cell_at,d_bare,d_l_cell_at,d_l_cell_at,d_l_cell_at,d_row_tree,d_group_tree,d_set_at,d_take_at,d_repeated,d_closed,d_read,d_l_cell_at,d_l_cell_at,d_l_cell_at,d_l_piece_by_v06,d_l_cell_at,d_l_cell_at,d_l_cell_at,d_l_cell_at,d_l_cell_at,d_l_cell_at,d_l_cell_at,d_l_cell_at,d_l_cell_at,d_l_cell_at,d_l_cell_at,d_l_cell_at,d_l_cell_at,d_put,d_led,d_picked,d_parted,d_net_of,d_gone_back,d_taken,d_gone,d_tried_from,d_tried,d_first,d_all_found,d_l_set_end,d_l_closed,d_l_grouped,d_l_wrong_repeat,d_l_due_v06,d_l_asked,d_l_refusal,d_l_one_class]
noncomputable def GL06:List V:=[(.int 30)]
end Mine.Internal
namespace Mine.Internal
open PySem
noncomputable def t_takes:List (Str×Nat):=[(oS "inside",0),(oS "signs",1),(oS "sign",2)]
noncomputable def t_l_cell_at:List (Str×Nat):=[(oS "_law_script",0),(oS "_law_k",1)]
noncomputable def t_l_sign_by:List (Str×Nat):=[(oS "_law_cell",0),(oS "_law_some",1)]
noncomputable def t_l_three_by:List (Str×Nat):=[(oS "_law_cell",0)]
noncomputable def t_bare:List (Str×Nat):=[(oS "tree",0),(oS "part",1)]
noncomputable def t_row_tree:List (Str×Nat):=[(oS "pieces",0)]
noncomputable def t_group_tree:List (Str×Nat):=[(oS "group",0),(oS "trees",1)]
noncomputable def t_set_at:List (Str×Nat):=[(oS "pattern",0),(oS "at",1),(oS "inside",2),(oS "signs",3)]
noncomputable def t_take_at:List (Str×Nat):=[(oS "pattern",0),(oS "at",1),(oS "sign",2)]
noncomputable def t_repeated:List (Str×Nat):=[(oS "pieces",0),(oS "pattern",1),(oS "at",2),(oS "eager",3),(oS "part",4)]
noncomputable def t_closed:List (Str×Nat):=[(oS "groups",0),(oS "tree",1)]
noncomputable def t_read:List (Str×Nat):=[(oS "pattern",0),(oS "groups",1),(oS "ready",2),(oS "at",3),(oS "sign",4),(oS "found",5)]
noncomputable def t_put:List (Str×Nat):=[(oS "steps",0),(oS "step",1)]
noncomputable def t_led:List (Str×Nat):=[(oS "steps",0),(oS "tree",1),(oS "then",2),(oS "part",3),(oS "number",4),(oS "inner",5)]
noncomputable def t_picked:List (Str×Nat):=[(oS "steps",0),(oS "parts",1),(oS "then",2),(oS "firsts",3),(oS "found",4),(oS "first",5)]
noncomputable def t_parted:List (Str×Nat):=[(oS "inner",0),(oS "then",1),(oS "eager",2)]
noncomputable def t_net_of:List (Str×Nat):=[(oS "tree",0),(oS "steps",1),(oS "first",2)]
noncomputable def t_gone_back:List (Str×Nat):=[(oS "way",0),(oS "choices",1),(oS "dead",2)]
noncomputable def t_taken:List (Str×Nat):=[(oS "step",0),(oS "text",1),(oS "at",2)]
noncomputable def t_gone:List (Str×Nat):=[(oS "net",0),(oS "text",1),(oS "place",2),(oS "dead",3),(oS "steps",4),(oS "way",5),(oS "choices",6),(oS "number",7),(oS "at",8),(oS "stuck",9),(oS "step",10)]
noncomputable def t_tried_from:List (Str×Nat):=[(oS "net",0),(oS "text",1),(oS "begin",2),(oS "dead",3),(oS "place",4),(oS "way",5)]
noncomputable def t_tried:List (Str×Nat):=[(oS "net",0),(oS "text",1)]
noncomputable def t_first:List (Str×Nat):=[(oS "pattern",0),(oS "text",1)]
noncomputable def t_all_found:List (Str×Nat):=[(oS "pattern",0),(oS "text",1),(oS "net",2),(oS "dead",3),(oS "matches",4),(oS "found",5),(oS "begin",6)]
noncomputable def t_l_set_end:List (Str×Nat):=[(oS "_law_pattern",0),(oS "_law_at",1)]
noncomputable def t_l_closed:List (Str×Nat):=[(oS "_law_frames",0),(oS "_law_last",1),(oS "_law_above",2),(oS "_law_is_bare",3)]
noncomputable def t_l_grouped:List (Str×Nat):=[(oS "_law_frames",0),(oS "_law_sign",1),(oS "_law_last",2)]
noncomputable def t_l_wrong_repeat:List (Str×Nat):=[(oS "_law_sign",0),(oS "_law_ready",1),(oS "_law_last",2)]
noncomputable def t_l_due_v06:List (Str×Nat):=[(oS "_law_pattern",0),(oS "_law_frames",1),(oS "_law_ready",2),(oS "_law_at",3),(oS "_law_sign",4),(oS "_law_last",5),(oS "_law_wrong",6)]
noncomputable def t_l_asked:List (Str×Nat):=[(oS "_law_pattern",0),(oS "_law_way",1),(oS "_law_found",2)]
noncomputable def t_l_refusal:List (Str×Nat):=[(oS "_law_pattern",0),(oS "_law_way",1)]
noncomputable def t_l_one_class:List (Str×Nat):=[(oS "_law_pattern",0),(oS "e",1),(oS "_law_told",2)]
noncomputable def t_l_piece_by_v06:List (Str×Nat):=[(oS "_law_cell",0),(oS "_law_three",1),(oS "_law_some",2),(oS "_law_way",3),(oS "_law_rest",4)]
noncomputable def t_law_v06:List (Str×Nat):=[(oS "_law_script",0),(oS "_law_three",1),(oS "_law_pattern",2),(oS "_law_deep",3),(oS "_law_less",4),(oS "_law_due_here",5),(oS "_law_way",6)]
noncomputable def TB06:List (List (Str×Nat)):=[t_l_cell_at,t_l_sign_by,t_l_three_by,t_law_v06,t_takes,t_l_cell_at,t_l_cell_at,t_l_cell_at,t_l_cell_at,t_l_cell_at,t_bare,t_l_cell_at,t_l_cell_at,t_l_cell_at,t_row_tree,t_group_tree,t_set_at,t_take_at,t_repeated,t_closed,t_read,t_l_cell_at,t_l_cell_at,t_l_cell_at,t_l_piece_by_v06,t_l_cell_at,t_l_cell_at,t_l_cell_at,t_l_cell_at,t_l_cell_at,t_l_cell_at,t_l_cell_at,t_l_cell_at,t_l_cell_at,t_l_cell_at,t_l_cell_at,t_l_cell_at,t_l_cell_at,t_put,t_led,t_picked,t_parted,t_net_of,t_gone_back,t_taken,t_gone,t_tried_from,t_tried,t_first,t_all_found,t_l_set_end,t_l_closed,t_l_grouped,t_l_wrong_repeat,t_l_due_v06,t_l_asked,t_l_refusal,t_l_one_class]
noncomputable def NM06:Nm:=⟨[oS "_law_cell_at",oS "_law_sign_by",oS "_law_three_by",oS "law",oS "takes",oS "_law_cell_at",oS "_law_cell_at",oS "_law_cell_at",oS "_law_cell_at",oS "_law_cell_at",oS "bare",oS "_law_cell_at",oS "_law_cell_at",oS "_law_cell_at",oS "row_tree",oS "group_tree",oS "set_at",oS "take_at",oS "repeated",oS "closed",oS "read",oS "_law_cell_at",oS "_law_cell_at",oS "_law_cell_at",oS "_law_piece_by",oS "_law_cell_at",oS "_law_cell_at",oS "_law_cell_at",oS "_law_cell_at",oS "_law_cell_at",oS "_law_cell_at",oS "_law_cell_at",oS "_law_cell_at",oS "_law_cell_at",oS "_law_cell_at",oS "_law_cell_at",oS "_law_cell_at",oS "_law_cell_at",oS "put",oS "led",oS "picked",oS "parted",oS "net_of",oS "gone_back",oS "taken",oS "gone",oS "tried_from",oS "tried",oS "first",oS "all_found",oS "_law_set_end",oS "_law_closed",oS "_law_grouped",oS "_law_wrong_repeat",oS "_law_due",oS "_law_asked",oS "_law_refusal",oS "_law_one_class"],[oS "MOST_GROUPS"],[oS "PatternError",oS "Unclosed",oS "Unopened",oS "NothingAhead",oS "EmptyRound",oS "TooDeep"]⟩
end Mine.Internal
namespace Mine.Internal
theorem qdk {gl:List V}{P:List Def}{f:Nat}{D:Def}(hD:P[f]? = some D){args:List V}(hl:args.length=D.np)(d:Nat)(σ:Sg) :
  callF gl P (d+1) f args σ=(exB gl (callF gl P d) D.body (args++List.replicate (D.nl - D.np) .undef) σ).bind (x:=true) λp σ=>.ok (flV p.1) σ:=by
 rw [qfq,hD]
 exact if_pos hl
theorem qdy {i:Int}(h1:-4611686018427387904<i)(h2:i<4611686018427387904):small i=true:=by
 unfold small;exact Nat.ble_eq_true_of_le (y30 (m:=4611686018427387903) h1 h2)
theorem qfm {σ:Sg}{v:V}{xs:List V}{i:Int}{k:Nat}{x:V}(hs:getSeq σ v=some xs)(hi:i=(k:Int))(hk:xs[k]? = some x)(hl:xs.length<4611686018427387904):vIdx σ v (.int i)=some x:=by
 subst hi
 have hlt:k<xs.length:=(List.getElem?_eq_some_iff.mp hk).1
 unfold vIdx
 have hsm:small (k:Int)=true:=qdy u5 (Int.ofNat_lt.mpr (Nat.lt_trans hlt hl))
 have hn:nIdx (k:Int) xs.length=some k:=by
  unfold nIdx
  rw [if_pos (Int.natCast_nonneg k),if_pos (Int.ofNat_lt.mpr hlt)]
  simp
 simp [hsm,hs,hn,hk]
theorem qdj {σ:Sg}{v:V}{xs:List V}{i:Int}{x:V}(hs:getSeq σ v=some xs)(hi:i = -1)(hk:xs.getLast? = some x):vIdx σ v (.int i)=some x:=by
 subst hi
 cases xs with
 | nil=>simp at hk
 | cons a r =>
  unfold vIdx
  have hsm:small (-1)=true:=by decide
  have hn:nIdx (-1) (a::r).length=some r.length:=by
   unfold nIdx
   rw [if_neg (by lia),if_pos (by simp only [List.length_cons];lia)]
   congr 1
   exact y31
  have hg:(a::r)[r.length]? = some x:=by
   rw [List.getLast?_eq_getElem?] at hk
   simpa using hk
  simp only [hsm,hs,if_true,Option.bind_some,hn]
  exact hg
theorem qvg {σ:Sg}{a b:Int}(h0:b≠0):vBin σ .mod (.int a) (.int b)=some (.int (a.fmod b)):=by
 show (if b != 0 then some (V.int (a.fmod b)) else none)=_
 rw [bne_iff_ne.mpr h0];rfl
theorem qps {σ:Sg}{a b:Int}:vBin σ .add (.int a) (.int b)=some (.int (a+b)):=rfl
theorem qee {σ:Sg}{a b:List Nat}(h:a.length+b.length≤roomy):vBin σ .add (.str a) (.str b)=some (.str (a++b)):=by
 show (if a.length+b.length≤roomy then some (V.str (a++b)) else none)=_
 rw [if_pos h]
theorem qtl {σ:Sg}{a b:List V}(h:a.length+b.length≤roomy):vBin σ .add (.lst a) (.lst b)=some (.lst (a++b)):=by
 show addL a b=_
 rw [addL,if_pos h]
section
variable {σ:Sg}
theorem bi_len_l {xs:List V}:vBi σ .len [.lst xs]=some (.int (xs.length:Int)):=rfl
theorem lt_ii {a b:Int}:vCmp σ .lt (.int a) (.int b)=some (decide (a<b)):=rfl
theorem qed {b:Bool}:vTrue σ (.bool b)=some b:=rfl
end
theorem qwb {σ:Sg}{xs:List Int}{k:Nat}(hk:k<xs.length)(hx:xs.length≤63):vIdx σ (.lst (xs.map V.int)) (.int (k:Int))=some (.int (xs.getD k 0)):=by
 refine qfm (xs:=xs.map V.int) rfl rfl ?_ (by rw [List.length_map];exact u2 hx (by decide))
 rw [List.getElem?_map,List.getElem?_eq_getElem hk,List.getD_eq_getElem?_getD,List.getElem?_eq_getElem hk]
 rfl
noncomputable def signs:List Nat:=[32,33,34,35,36,38,39,40,41,42,43,44,45,46,47,48,49,50,51,52,53,54,55,56,57,58,59,60,61,62,63,64,65,66,67,68,69,70,71,72,73,74,75,76,77,78,79,80,81,82,83,84,85,86,87,88,89,90,91,92,93,94,95,96,
 97,98,99,100,101,102,103,104,105,106,107,108,109,110,111,112,113,114,115,116,117,118,119,120,121,122,123,124,125,126,10,9]
noncomputable def sign (c:Int):Nat:=signs.getD (c.fmod 96).toNat 0
theorem qen (a:Int){b:Int}(hb:0<b):0≤a.fmod b∧a.fmod b<b:=⟨Int.fmod_nonneg_of_pos a hb,Int.fmod_lt_of_pos a hb⟩
theorem qvc {σ:Sg}(c:Int):vIdx σ (.str signs) (.int (c.fmod 96))=some (.str [sign c]):=by
 obtain ⟨h1,h2⟩:=qen c (b:=96) (by decide)
 have hlt:(c.fmod 96).toNat<signs.length:=(Int.toNat_lt h1).mpr h2
 refine qfm (k:=(c.fmod 96).toNat) (xs:=signs.map λc=>V.str [c]) rfl (Int.toNat_of_nonneg h1).symm ?_ (by decide)
 rw [List.getElem?_map,List.getElem?_eq_getElem hlt]
 unfold sign
 rw [List.getD_eq_getElem?_getD,List.getElem?_eq_getElem hlt]
 rfl
end Mine.Internal
namespace Mine.Internal
structure HS (P:List Def):Prop where
 c:P[0]? = some d_l_cell_at
 s:P[1]? = some d_l_sign_by
 t:P[2]? = some d_l_three_by
section
variable {gl:List V} {P:List Def} {d:Nat} {σ:Sg}
theorem qkt {cf:CF}{ys:List V}{k:Int}:evE gl cf (.cmp .lt (.var 1) (.bi .len [(.var 0)])) [.lst ys,.int k] σ = .ok (.bool (decide (k<ys.length))) σ:=by
 simp only [qb1,qa2,qcl,qap,evEs_nil,getV,List.getElem?_cons_zero,List.getElem?_cons_succ,qam,qad,bi_len_l,lt_ii]
theorem qpy (H:HS P){ys:List V}{k:Int}(hk:¬ k<ys.length):callF gl P (d+1) 0 [.lst ys,.int k] σ = .ok (.int 0) σ:=by
 rw [qdk H.c rfl]
 show (exB gl (callF gl P d) d_l_cell_at.body [.lst ys,.int k] σ).bind (x:=true) _=_
 unfold d_l_cell_at
 rw [qaz,qe8,qkt,qad,qed,qam,qad,decide_eq_false hk,if_neg Bool.false_ne_true]
 rfl
theorem qpz (H:HS P){ys:List V}{k:Int}{v:V}(hk:k<ys.length)(h1:vIdx σ (.lst ys) (.int k)=some v):callF gl P (d+1) 0 [.lst ys,.int k] σ = .ok v σ:=by
 rw [qdk H.c rfl]
 show (exB gl (callF gl P d) d_l_cell_at.body [.lst ys,.int k] σ).bind (x:=true) _=_
 unfold d_l_cell_at
 have h2:evE gl (callF gl P d) (.idx (.var 0) (.var 1)) [.lst ys,.int k] σ = .ok v σ:=by
  simp only [qba,qa2,getV,List.getElem?_cons_zero,List.getElem?_cons_succ,qam,qad,h1]
 rw [qaz,qe8,qkt,qad,qed,qam,qad,decide_eq_true hk,if_pos rfl,qaz,qdv,h2]
 rfl
theorem qq2 (H:HS P){xs:List Int}(hx:xs.length≤63){i:Int}(k:Nat)(hi:i=(k:Int)):callF gl P (d+1) 0 [.lst (xs.map V.int),.int i] σ = .ok (.int (xs.getD k 0)) σ:=by
 subst hi
 by_cases hk:k<xs.length
 ·exact qpz H (by rw [List.length_map];lia) (qwb hk hx)
 ·have h3:xs.getD k 0=0:=by rw [List.getD_eq_getElem?_getD,List.getElem?_eq_none (Nat.le_of_not_lt hk)];rfl
  rw [h3]
  exact qpy H (by rw [List.length_map];lia)
theorem qs7 {cf:CF}{a b:List Nat}{c:Int}(h:a++b=signs)(hl:a.length+b.length≤roomy):exB gl cf [.asg 1 (.cStr a),.asg 1 (.bin .add (.var 1) (.cStr b)),.ret (.idx (.var 1) (.bin .mod (.var 0) (.cInt 96)))] [.int c,.undef] σ = .ok (.ret (.str [sign c]),[.int c,.str signs]) σ:=by
 have h1:evE gl cf (.bin .add (.var 1) (.cStr b)) [.int c,.str a] σ = .ok (.str signs) σ:=by
  simp only [qbn,evE_cStr,qa2,getV,List.getElem?_cons_zero,List.getElem?_cons_succ,qam,qad,qee hl,h]
 have h2:evE gl cf (.idx (.var 1) (.bin .mod (.var 0) (.cInt 96))) [.int c,.str signs] σ = .ok (.str [sign c]) σ:=by
  simp only [qba,qbn,evE_cInt,qa2,getV,List.getElem?_cons_zero,List.getElem?_cons_succ,qam,qad,qvg (a:=c) (b:=96) (σ:=σ) (by decide),qvc]
 rw [qaz,qdu,evE_cStr,qad,qad]
 show exB gl cf _ [.int c,.str a] σ=_
 rw [qaz,qdu,h1,qad,qad]
 show exB gl cf _ [.int c,.str signs] σ=_
 rw [qaz,qdv,h2,qad,qad]
theorem qkr (H:HS P)(c:Int):callF gl P (d+1) 1 [.int c] σ = .ok (.str [sign c]) σ:=by
 rw [qdk H.s rfl]
 have h:exB gl (callF gl P d) d_l_sign_by.body [.int c,.undef] σ = .ok (.ret (.str [sign c]),[.int c,.str signs]) σ:=by
  refine qs7 ?_ ?_
  ·rfl
  ·decide
 exact congrArg (λr=>Res.bind r (x:=true) λp σ=>Res.ok (flV p.1) σ) h
theorem qp9 (H:HS P)(c:Int):callF gl P (d+2) 2 [.int c] σ = .ok (.str [sign c,sign (c+31),sign (c+62)]) σ:=by
 rw [qdk H.t rfl]
 show (exB gl (callF gl P (d+1)) d_l_three_by.body [.int c] σ).bind (x:=true) _=_
 have h2:evE gl (callF gl P (d+1)) (.bin .add (.bin .add (.call 1 [(.var 0)]) (.call 1 [(.bin .add (.var 0) (.cInt 31))])) (.call 1 [(.bin .add (.var 0) (.cInt 62))])) [.int c] σ = .ok (.str [sign c,sign (c+31),sign (c+62)]) σ:=by
  simp only [qa3,qap,evEs_nil,qbn,evE_cInt,qa2,getV,List.getElem?_cons_zero,List.getElem?_cons_succ,qam,qad,qps,qkr H,qee (a:=[sign c]) (b:=[sign (c+31)]) (σ:=σ) (by simp [roomy]),qee (a:=[sign c]++[sign (c+31)]) (b:=[sign (c+62)]) (σ:=σ) (by simp [roomy])]
  rfl
 unfold d_l_three_by
 rw [qaz,qdv,h2]
 rfl
end
end Mine.Internal
namespace Mine.Internal
section
variable {gl:List V} {cf:CF} {σ σ':Sg} {Γ Γ':Fm} {s:St} {r:List St} {e e':Ex} {v u w:V} {f:Fl} {i:Nat}
theorem qay (h:exS gl cf s Γ σ = .ok (.next,Γ') σ'):exB gl cf (s::r) Γ σ=exB gl cf r Γ' σ':=by rw [qaz,h,qad]
theorem qcx (h:exS gl cf s Γ σ = .ok (.ret v,Γ') σ'):exB gl cf (s::r) Γ σ = .ok (.ret v,Γ') σ':=by rw [qaz,h,qad]
theorem qwf (h:evE gl cf e Γ σ = .ok v σ'):exS gl cf (.asg i e) Γ σ = .ok (.next,Γ.set i v) σ':=by rw [qdu,h,qad]
theorem qwg (h:evE gl cf e Γ σ = .ok v σ'):exS gl cf (.ret e) Γ σ = .ok (.ret v,Γ) σ':=by rw [qdv,h,qad]
theorem qt3 (h:evE gl cf e Γ σ = .ok v σ'):exS gl cf (.expr e) Γ σ = .ok (.next,Γ) σ':=by rw [qe7,h,qad]
theorem qru {a b:List St}{t:Bool}(h:evE gl cf e Γ σ = .ok v σ')(ht:vTrue σ' v=some t):exS gl cf (.ite e a b) Γ σ=if t then exB gl cf a Γ σ' else exB gl cf b Γ σ':=by rw [qe8,h,qad,ht,qam,qad]
theorem qe1 {ik:IK}{a b:Ex}{body:List St}{σ₁ σ₂:Sg}{x y:V}{items:List V}(h1:evE gl cf a Γ σ = .ok x σ₁)(h2:evE gl cf b Γ σ₁ = .ok y σ₂)(h3:vItems ik x y=some items) :
  exS gl cf (.for i ik a b body) Γ σ=forGo (exB gl cf body) i items Γ σ₂:=by rw [qjk,h1,qad,h2,qad,h3,qam,qad]
theorem qaf {P:List Def}{f:Nat}{D:Def}{args:List V}{d:Nat}(hD:P[f]? = some D)(hl:args.length=D.np)(h:exB gl (callF gl P d) D.body (args++List.replicate (D.nl - D.np) .undef) σ = .ok (.ret v,Γ') σ'):callF gl P (d+1) f args σ = .ok v σ':=by
 rw [qdk hD hl,h,qad];rfl
theorem qgx:∀ (l:List (List Nat)),joinS [] l=l.flatten
 | []=>rfl
 | [x]=>(List.append_nil x).symm
 | x::y::r=>by
  have h:joinS [] (x::y::r)=x++[]++joinS [] (y::r):=rfl
  rw [h,qgx (y::r)];simp
theorem qg9 {α:Type}(g:α->List Nat):∀ (l:List α),strsV (l.map λx=>V.str (g x))=some (l.map g)
 | []=>rfl
 | x::r=>by
  show (strsV (r.map λx=>V.str (g x))).map (g x::·)=_
  rw [qg9 g r];rfl
theorem qm7 {α:Type}{g:α->Nat}{l:List α}(hn:l.length≤roomy):vJoin σ (.str []) (.lst (l.map λx=>V.str [g x]))=some (.str (l.map g)):=by
 unfold vJoin
 have h1:strsV (l.map λx=>V.str [g x])=some (l.map λx=>[g x]):=qg9 (λx=>[g x]) l
 have h2:((l.map λx=>[g x]).map λx=>x.length+([]:List Nat).length).sum=l.length:=by
  clear hn h1
  induction l with
  | nil=>rfl
  | cons x l ih =>
   rw [List.map_cons,List.map_cons,List.sum_cons,ih]
   simp only [List.length_cons,List.length_nil];lia
 have h3:joinS [] (l.map λx=>[g x])=l.map g:=by
  rw [qgx]
  clear hn h1 h2
  induction l with
  | nil=>rfl
  | cons x l ih=>simp [ih]
 simp only [getL,Option.bind_some,h1,h2,hn,if_true,h3]
end
end Mine.Internal
namespace Mine.Internal
section
variable {gl:List V} {cf:CF} {σ σ₁ σ₂:Sg} {Γ:Fm} {a b e:Ex} {as:List Ex} {v x y z:V} {vs:List V}
theorem kVar {i:Nat}(h:getV Γ i=some v):evE gl cf (.var i) Γ σ = .ok v σ:=by rw [qa2,h];rfl
theorem kCall {f:Nat}{r:Res V}(h:evEs gl cf as Γ σ = .ok vs σ₁)(h2:cf f vs σ₁=r):evE gl cf (.call f as) Γ σ=r:=by rw [qa3,h];exact h2
theorem kCons (h:evE gl cf e Γ σ = .ok v σ₁)(h2:evEs gl cf as Γ σ₁ = .ok vs σ₂):evEs gl cf (e::as) Γ σ = .ok (v::vs) σ₂:=by rw [qap,h,qad,h2];rfl
theorem kBin {o:Bop}(h:evE gl cf a Γ σ = .ok x σ₁)(h2:evE gl cf b Γ σ₁ = .ok y σ₂)(h3:vBin σ₂ o x y=some z):evE gl cf (.bin o a b) Γ σ = .ok z σ₂:=by rw [qbn,h,qad,h2,qad,h3];rfl
theorem kCmp {o:Cop}{t:Bool}(h:evE gl cf a Γ σ = .ok x σ₁)(h2:evE gl cf b Γ σ₁ = .ok y σ₂)(h3:vCmp σ₂ o x y=some t):evE gl cf (.cmp o a b) Γ σ = .ok (.bool t) σ₂:=by rw [qb1,h,qad,h2,qad,h3];rfl
theorem kIdx (h:evE gl cf a Γ σ = .ok x σ₁)(h2:evE gl cf b Γ σ₁ = .ok y σ₂)(h3:vIdx σ₂ x y=some z):evE gl cf (.idx a b) Γ σ = .ok z σ₂:=by rw [qba,h,qad,h2,qad,h3];rfl
theorem kJoin (h:evE gl cf a Γ σ = .ok x σ₁)(h2:evE gl cf b Γ σ₁ = .ok y σ₂)(h3:vJoin σ₂ x y=some z):evE gl cf (.join a b) Γ σ = .ok z σ₂:=by rw [qbg,h,qad,h2,qad,h3];rfl
theorem kTup (h:evEs gl cf as Γ σ = .ok vs σ₁)(h2:vs.length≤roomy):evE gl cf (.tup as) Γ σ = .ok (.tup vs) σ₁:=by rw [qca,h,qad,if_pos h2]
theorem kLst {m:Bool}{r:Res V}(h:evEs gl cf as Γ σ = .ok vs σ₁)(h2:putL m vs σ₁=r):evE gl cf (.lst m as) Γ σ=r:=by rw [qb8,h];exact h2
theorem kBi {o:Bi}(h:evEs gl cf as Γ σ = .ok vs σ₁)(h2:vBi σ₁ o vs=some v):evE gl cf (.bi o as) Γ σ = .ok v σ₁:=by rw [qcl,h,qad,h2];rfl
theorem kNot {t:Bool}(h:evE gl cf a Γ σ = .ok v σ₁)(h2:vTrue σ₁ v=some t):evE gl cf (.not a) Γ σ = .ok (.bool !t) σ₁:=by rw [qb9,h,qad,h2];rfl
theorem kNeg (h:evE gl cf a Γ σ = .ok x σ₁)(h2:vNeg x=some v):evE gl cf (.neg a) Γ σ = .ok v σ₁:=by rw [qb2,h,qad,h2];rfl
theorem kIteT (h:evE gl cf e Γ σ = .ok v σ₁)(h2:vTrue σ₁ v=some true){r:Res V}(h3:evE gl cf a Γ σ₁=r):evE gl cf (.ite e a b) Γ σ=r:=by rw [qbp,h,qad,h2];exact h3
theorem kIteF (h:evE gl cf e Γ σ = .ok v σ₁)(h2:vTrue σ₁ v=some false){r:Res V}(h3:evE gl cf b Γ σ₁=r):evE gl cf (.ite e a b) Γ σ=r:=by rw [qbp,h,qad,h2];exact h3
theorem kSome {i:Int}(h:evE gl cf e Γ σ = .ok x σ₁)(h2:asInt x=some i):evO gl cf (some e) Γ σ = .ok (some i) σ₁:=by rw [qbj,h,qad,h2];rfl
theorem kSlice {lo hi:Option Ex}{l u:Option Int}{σ₃:Sg}(h:evE gl cf e Γ σ = .ok x σ₁)(h2:evO gl cf lo Γ σ₁ = .ok l σ₂)(h3:evO gl cf hi Γ σ₂ = .ok u σ₃)(h4:vCut σ₃ x l u=some v):evE gl cf (.slice e lo hi) Γ σ = .ok v σ₃:=by rw [qa4,h,qad,h2,qad,h3,qad,h4];rfl
theorem roomy2 {x y:V}:[x,y].length≤roomy:=Nat.le_of_ble_eq_true rfl
theorem roomy3 {x y z:V}:[x,y,z].length≤roomy:=Nat.le_of_ble_eq_true rfl
theorem roomy4 {x y z v:V}:[x,y,z,v].length≤roomy:=Nat.le_of_ble_eq_true rfl
end
end Mine.Internal
namespace Mine.Internal
section
variable {gl:List V} {cf:CF} {σ σ':Sg} {Γ Γ':Fm}
theorem qem {e:Ex}{a b:List St}{v:V}(h:evE gl cf e Γ σ = .ok v σ')(ht:vTrue σ' v=some true):exS gl cf (.ite e a b) Γ σ=exB gl cf a Γ σ':=(qru h ht).trans (if_pos rfl)
theorem qc3 {e:Ex}{a b:List St}{v:V}(h:evE gl cf e Γ σ = .ok v σ')(ht:vTrue σ' v=some false):exS gl cf (.ite e a b) Γ σ=exB gl cf b Γ σ':=(qru h ht).trans (if_neg Bool.false_ne_true)
theorem qac {e:Ex}{a r:List St}{v:V}(h:evE gl cf e Γ σ = .ok v σ')(ht:vTrue σ' v=some false):exB gl cf (.ite e a []::r) Γ σ=exB gl cf r Γ σ':=qay ((qc3 h ht).trans exB_nil0)
theorem qak {e:Ex}{a b r:List St}{v w:V}{σ₂:Sg}(h:evE gl cf e Γ σ = .ok v σ')(ht:vTrue σ' v=some true)(hr:exB gl cf a Γ σ' = .ok (.ret w,Γ') σ₂):exB gl cf (.ite e a b::r) Γ σ = .ok (.ret w,Γ') σ₂:=qcx ((qem h ht).trans hr)
theorem qa6 {e:Ex}{a b r:List St}{v:V}{σ₂:Sg}(h:evE gl cf e Γ σ = .ok v σ')(ht:vTrue σ' v=some true)(hr:exB gl cf a Γ σ' = .ok (.next,Γ') σ₂):exB gl cf (.ite e a b::r) Γ σ=exB gl cf r Γ' σ₂:=qay ((qem h ht).trans hr)
theorem qab {i:Nat}{e:Ex}{r:List St}{v:V}(h:evE gl cf e Γ σ = .ok v σ'):exB gl cf (.asg i e::r) Γ σ=exB gl cf r (Γ.set i v) σ':=qay (qwf h)
theorem qae {e:Ex}{r:List St}{v:V}(h:evE gl cf e Γ σ = .ok v σ'):exB gl cf (.ret e::r) Γ σ = .ok (.ret v,Γ) σ':=qcx (qwg h)
theorem qce {body:Fm->Sg->Res (Fl×Fm)}{i:Nat}{x:V}{r:List V}(h:body (Γ.set i x) σ = .ok (.next,Γ') σ'):forGo body i (x::r) Γ σ=forGo body i r Γ' σ':=by rw [qc7,h,qad]
theorem qgv {body:Fm->Sg->Res (Fl×Fm)}{i:Nat}{x v:V}{r:List V}(h:body (Γ.set i x) σ = .ok (.ret v,Γ') σ'):forGo body i (x::r) Γ σ = .ok (.ret v,Γ') σ':=by rw [qc7,h,qad]
theorem tup2 {a b:V}{x:V}:(if [a,b].length≤roomy then (Res.ok x σ:Res V) else .bad) = .ok x σ:=if_pos (by simp [roomy])
theorem qpf {xs:List V}(h:xs.length≤roomy):putL false xs σ = .ok (.lst xs) σ:=by rw [putL,if_pos h];rfl
theorem putL_1 {x:V}:putL false [x] σ = .ok (.lst [x]) σ:=qpf (by simp [roomy])
theorem qnj {α:Type}{elt:Fm->Sg->Res V}{h k:α->V}:∀ {l:List α} {acc:List V},(∀ z∈l,elt (Γ++[h z]) σ = .ok (k z) σ)->compGo (evT gl cf none) elt Γ (l.map h) acc σ = .ok (acc++l.map k) σ
 | [],acc,_=>by rw [List.map_nil,List.map_nil,List.append_nil];rfl
 | z::r,acc,H=>by
  rw [List.map_cons,qdb,qnr,qad,if_pos rfl,H z List.mem_cons_self,qad,qnj λy hy=>H y (List.mem_cons_of_mem _ hy)]
  simp
theorem qrr {α:Type}{l:List α}{h k:α->V}{elt:Ex}{ik:IK}{a b:Ex}{σ₁ σ₂:Sg}{x y:V}(h1:evE gl cf a Γ σ = .ok x σ₁)(h2:evE gl cf b Γ σ₁ = .ok y σ₂)(h3:vItems ik x y=some (l.map h))
  (he:∀ z∈l,evE gl cf elt (Γ++[h z]) σ₂ = .ok (k z) σ₂) (hn:l.length≤roomy):evE gl cf (.comp false elt ik a b none) Γ σ = .ok (.lst (l.map k)) σ₂:=by
 rw [qgt,h1,qad,h2,qad,h3,qam,qad,qnj he,qad,List.nil_append,qpf (by rw [List.length_map];exact hn)]
theorem qtu {xs:List Nat}:vBi σ .len [.str xs]=some (.int (xs.length:Int)):=rfl
theorem bi_tuple {xs:List V}:vBi σ .tuple [.lst xs]=some (.tup xs):=rfl
theorem eq_ii {a b:Int}:vCmp σ .eq (.int a) (.int b)=some (a == b):=rfl
theorem eq_ss {a b:List Nat}:vCmp σ .eq (.str a) (.str b)=some (a == b):=rfl
theorem ne_ss {a b:List Nat}:vCmp σ .ne (.str a) (.str b)=some (!(a == b)):=rfl
theorem le_ii {a b:Int}:vCmp σ .le (.int a) (.int b)=some (decide (a≤b)):=rfl
theorem gt_ii {a b:Int}:vCmp σ .gt (.int a) (.int b)=some (decide (a > b)):=rfl
theorem ge_ii {a b:Int}:vCmp σ .ge (.int a) (.int b)=some (decide (a ≥ b)):=rfl
theorem neg_i {a:Int}:vNeg (.int a)=some (.int (-a)):=rfl
theorem qv8 {a:Int}:asInt (.int a)=some a:=rfl
theorem qgg {i:Nat}{x:Int}(h:Γ[i]? = some (.int x)):getV Γ i=some (.int x):=by rw [getV,h]
theorem qck {v:V}{xs:List V}{x:V}(k:Nat)(hk:k<1000000)(hs:getSeq σ v=some xs)(h:xs[k]? = some x):vIdx σ v (.int (k:Int))=some x:=by
 have hlt:k<xs.length:=(List.getElem?_eq_some_iff.mp h).1
 have hn:nIdx (k:Int) xs.length=some k:=by
  unfold nIdx
  rw [if_pos (Int.natCast_nonneg k),if_pos (Int.ofNat_lt.mpr (by assumption))];simp
 have hsm:small (k:Int)=true:=qdy u5 (u6 hk (by decide))
 simp only [vIdx,hsm,hs,hn,if_true,Option.bind_some,h]
theorem idx_t0 {a:V}{r:List V}:vIdx σ (.tup (a::r)) (.int 0)=some a:=qck 0 (by decide) rfl rfl
theorem idx_t1 {a b:V}{r:List V}:vIdx σ (.tup (a::b::r)) (.int 1)=some b:=qck 1 (by decide) rfl rfl
theorem idx_t2 {a b c:V}{r:List V}:vIdx σ (.tup (a::b::c::r)) (.int 2)=some c:=qck 2 (by decide) rfl rfl
theorem qre {k n:Nat}:clamp (k:Int) n=min k n:=by
 unfold clamp;rw [if_neg (Int.not_lt.mpr (Int.natCast_nonneg k)),Int.toNat_natCast]
theorem qrk {α:Type}{xs:List α}(a b:Nat)(h:a≤b):cut xs (some (a:Int)) (some (b:Int))=(xs.take b).drop a:=by
 show (xs.take (clamp (b:Int) xs.length)).drop (clamp (a:Int) xs.length)=_
 rw [qre,qre]
 by_cases hb:b≤xs.length
 ·rw [Nat.min_eq_left hb,Nat.min_eq_left (Nat.le_trans h hb)]
 ·rw [Nat.min_eq_right (Nat.le_of_not_le hb),List.take_length,List.take_of_length_le (Nat.le_of_not_le hb)]
  by_cases ha:a≤xs.length
  ·rw [Nat.min_eq_left ha]
  ·rw [Nat.min_eq_right (Nat.le_of_not_le ha),List.drop_of_length_le (Nat.le_refl _),List.drop_of_length_le (Nat.le_of_not_le ha)]
theorem qvq {α:Type}{xs:List α}{i:Int}(hi:i = -1):cut xs none (some i)=xs.dropLast:=by
 subst hi
 show (xs.take (clamp (-1) xs.length)).drop 0=_
 rw [List.drop_zero,List.dropLast_eq_take]
 congr 1
 unfold clamp
 rw [if_pos (by decide),Int.add_comm];exact Int.toNat_sub _ 1
theorem qpt {xs:List V}{lo hi:Option Int}(h1:smallO lo=true)(h2:smallO hi=true):vCut σ (.lst xs) lo hi=some (.lst (cut xs lo hi)):=by
 unfold vCut;rw [h1,h2];rfl
theorem vCut_s {xs:List Nat}{lo hi:Option Int}(h1:smallO lo=true)(h2:smallO hi=true):vCut σ (.str xs) lo hi=some (.str (cut xs lo hi)):=by
 unfold vCut;rw [h1,h2];rfl
end
end Mine.Internal
namespace Mine.Internal
inductive Tree where
 | take (b:Bool) (s:List Nat)
 | row (ts:List Tree)
 | pick (ts:List Tree)
 | maybe (t:Tree) (e:Bool)
 | many (t:Tree) (e:Bool)
mutual
noncomputable def Tree.v:Tree->V
 | .take b s=>.tup [.str [116,97,107,101],.bool b,.str s]
 | .row ts=>.tup [.str [114,111,119],.tup (Tree.vs ts)]
 | .pick ts=>.tup [.str [112,105,99,107],.tup (Tree.vs ts)]
 | .maybe t e=>.tup [.str [109,97,121,98,101],t.v,.bool e]
 | .many t e=>.tup [.str [109,97,110,121],t.v,.bool e]
noncomputable def Tree.vs:List Tree->List V
 | []=>[]
 | t::r=>t.v::Tree.vs r
end
theorem qpv:∀ (t:Tree) (r:List Tree),Tree.vs (t::r)=Tree.v t::Tree.vs r:=by intros;rfl
theorem Tree.vs_map:∀ (ts:List Tree),Tree.vs ts=ts.map Tree.v
 | []=>rfl
 | t::r=>by rw [qpv,Tree.vs_map r];rfl
theorem v_take {b:Bool}{s:List Nat}:(Tree.take b s).v = .tup [.str [116,97,107,101],.bool b,.str s]:=rfl
theorem v_row {ts:List Tree}:(Tree.row ts).v = .tup [.str [114,111,119],.tup (ts.map Tree.v)]:=by rw [← Tree.vs_map];rfl
theorem qtm {ts:List Tree}:(Tree.pick ts).v = .tup [.str [112,105,99,107],.tup (ts.map Tree.v)]:=by rw [← Tree.vs_map];rfl
theorem v_maybe {t:Tree}{e:Bool}:(Tree.maybe t e).v = .tup [.str [109,97,121,98,101],t.v,.bool e]:=rfl
theorem v_many {t:Tree}{e:Bool}:(Tree.many t e).v = .tup [.str [109,97,110,121],t.v,.bool e]:=rfl
theorem v_tup (t:Tree):∃ xs,t.v = .tup xs:=by cases t <;> exact ⟨_,rfl⟩
theorem qgw {Γ:Fm}{i:Nat}{t:Tree}(h:Γ[i]? = some t.v):getV Γ i=some t.v:=by
 obtain ⟨xs,e⟩:=v_tup t
 rw [getV,h,e]
mutual
noncomputable def Tree.bare:Tree->Bool
 | .take _ _=>false
 | .row ts=>Tree.allB ts
 | .pick ts=>Tree.anyB ts
 | .maybe _ _=>true
 | .many _ _=>true
noncomputable def Tree.allB:List Tree->Bool
 | []=>true
 | t::r=>t.bare && Tree.allB r
noncomputable def Tree.anyB:List Tree->Bool
 | []=>false
 | t::r=>t.bare || Tree.anyB r
end
theorem qf5:∀ (ts:List Tree),Tree.bare (Tree.row ts)=Tree.allB ts:=by intros;rfl
theorem qf6:∀ (ts:List Tree),Tree.bare (Tree.pick ts)=Tree.anyB ts:=by intros;rfl
theorem qkd:∀ (t:Tree) (e:Bool),Tree.bare (Tree.maybe t e)=true:=by intros;rfl
theorem qke:∀ (t:Tree) (e:Bool),Tree.bare (Tree.many t e)=true:=by intros;rfl
theorem qkc:Tree.allB []=true:=by intros;rfl
theorem qf3:∀ (t:Tree) (r:List Tree),Tree.allB (t::r)=(Tree.bare t && Tree.allB r):=by intros;rfl
theorem qf4:∀ (t:Tree) (r:List Tree),Tree.anyB (t::r)=(Tree.bare t || Tree.anyB r):=by intros;rfl
theorem qqq:∀ (ts:List Tree),Tree.allB ts=ts.all Tree.bare
 | []=>rfl
 | t::r=>by rw [qf3,qqq r,List.all_cons]
theorem qqr:∀ (ts:List Tree),Tree.anyB ts=ts.any Tree.bare
 | []=>rfl
 | t::r=>by rw [qf4,qqr r,List.any_cons]
theorem qna {ts:List Tree}:(Tree.row ts).bare=ts.all Tree.bare:=by rw [← qqq,qf5]
theorem qkj {ts:List Tree}:(Tree.pick ts).bare=ts.any Tree.bare:=by rw [← qqr,qf6]
mutual
noncomputable def Tree.cnt:Tree->Int
 | .take _ _=>1
 | .row ts=>Tree.cnts ts
 | .pick ts=>Tree.cnts ts+ts.length - 1
 | .maybe t _=>t.cnt+1
 | .many t _=>t.cnt+1
noncomputable def Tree.cnts:List Tree->Int
 | []=>0
 | t::r=>t.cnt+Tree.cnts r
end
theorem qeu:∀ (b:Bool) (s:List Nat),Tree.cnt (Tree.take b s)=1:=by intros;rfl
theorem qev:∀ (ts:List Tree),Tree.cnt (Tree.row ts)=Tree.cnts ts:=by intros;rfl
theorem qdt:∀ (ts:List Tree),Tree.cnt (Tree.pick ts)=Tree.cnts ts + ↑(List.length ts) - 1:=by intros;rfl
theorem qew:∀ (t:Tree) (e:Bool),Tree.cnt (Tree.maybe t e)=Tree.cnt t+1:=by intros;rfl
theorem qex:∀ (t:Tree) (e:Bool),Tree.cnt (Tree.many t e)=Tree.cnt t+1:=by intros;rfl
theorem qbd:Tree.cnts []=0:=by intros;rfl
theorem qbe:∀ (t:Tree) (r:List Tree),Tree.cnts (t::r)=Tree.cnt t+Tree.cnts r:=by intros;rfl
mutual
noncomputable def Tree.dep:Tree->Nat
 | .take _ _=>1
 | .row ts=>1+Tree.deps ts
 | .pick ts=>1+Tree.deps ts
 | .maybe t _=>t.dep+1
 | .many t _=>t.dep+1
noncomputable def Tree.deps:List Tree->Nat
 | []=>0
 | t::r=>max t.dep (Tree.deps r)
end
theorem qlv:∀ (b:Bool) (s:List Nat),Tree.dep (Tree.take b s)=1:=by intros;rfl
theorem qlw:∀ (ts:List Tree),Tree.dep (Tree.row ts)=1+Tree.deps ts:=by intros;rfl
theorem qlx:∀ (ts:List Tree),Tree.dep (Tree.pick ts)=1+Tree.deps ts:=by intros;rfl
theorem qly:∀ (t:Tree) (e:Bool),Tree.dep (Tree.maybe t e)=Tree.dep t+1:=by intros;rfl
theorem qlz:∀ (t:Tree) (e:Bool),Tree.dep (Tree.many t e)=Tree.dep t+1:=by intros;rfl
theorem qkf:Tree.deps []=0:=by intros;rfl
theorem qf7:∀ (t:Tree) (r:List Tree),Tree.deps (t::r)=max (Tree.dep t) (Tree.deps r):=by intros;rfl
theorem qjf {ts:List Tree}:(Tree.row ts).dep=1+Tree.deps ts:=by rw [qlw]
theorem qje {ts:List Tree}:(Tree.pick ts).dep=1+Tree.deps ts:=by rw [qlx]
theorem qky {t:Tree}{e:Bool}:(Tree.maybe t e).dep=t.dep+1:=by rw [qly]
theorem qnn {t:Tree}{e:Bool}:(Tree.many t e).dep=t.dep+1:=by rw [qlz]
theorem qt2 {b:Bool}{s:List Nat}:(Tree.take b s).dep=1:=by rw [qlv]
theorem qgs:∀ {ts:List Tree} {t:Tree},t∈ts->t.dep≤Tree.deps ts
 | x::r,t,h=>by
  rw [qf7]
  rcases List.mem_cons.mp h with e | e
  ·rw [e];exact Nat.le_max_left _ _
  ·exact Nat.le_trans (qgs e) (Nat.le_max_right _ _)
theorem qmd {n:Nat}:∀ {ts:List Tree},(∀ t∈ts,t.dep≤n)->Tree.deps ts≤n
 | [],_=>Nat.zero_le _
 | x::r,h=>by rw [qf7];exact Nat.max_le.mpr ⟨h x List.mem_cons_self,qmd λt ht=>h t (List.mem_cons_of_mem _ ht)⟩
theorem qmc (t:Tree):1≤t.dep:=by
 cases t <;> rw [Tree.dep] <;> lia
mutual
noncomputable def Tree.Ok:Tree->Prop
 | .take _ _=>True
 | .row ts=>(ts.length≠1∧ts.length≤2000)∧Tree.Oks ts
 | .pick ts=>(2≤ts.length∧ts.length≤2000)∧Tree.Oks ts
 | .maybe t _=>t.Ok
 | .many t _=>t.Ok∧t.bare=false
noncomputable def Tree.Oks:List Tree->Prop
 | []=>True
 | t::r=>t.Ok∧Tree.Oks r
end
theorem qc5:∀ (ts:List Tree),Tree.Ok (Tree.row ts)=((List.length ts≠1∧List.length ts≤2000)∧Tree.Oks ts):=by intros;rfl
theorem qc6:∀ (ts:List Tree),Tree.Ok (Tree.pick ts)=((2≤List.length ts∧List.length ts≤2000)∧Tree.Oks ts):=by intros;rfl
theorem qef:∀ (t:Tree) (e:Bool),Tree.Ok (Tree.maybe t e)=Tree.Ok t:=by intros;rfl
theorem qeg:∀ (t:Tree) (e:Bool),Tree.Ok (Tree.many t e)=(Tree.Ok t∧Tree.bare t=false):=by intros;rfl
theorem qlu:Tree.Oks []=True:=by intros;rfl
theorem qa9:∀ (t:Tree) (r:List Tree),Tree.Oks (t::r)=(Tree.Ok t∧Tree.Oks r):=by intros;rfl
theorem qlt:∀ {ts:List Tree},Tree.Oks ts↔∀ t∈ts,t.Ok
 | []=>by rw [qlu];simp
 | t::r=>by rw [qa9,qlt];simp
theorem qsr {ts:List Tree}:(Tree.row ts).Ok↔(ts.length≠1∧ts.length≤2000)∧∀ t∈ts,t.Ok:=by rw [qc5,qlt]
theorem qsq {ts:List Tree}:(Tree.pick ts).Ok↔(2≤ts.length∧ts.length≤2000)∧∀ t∈ts,t.Ok:=by rw [qc6,qlt]
mutual
noncomputable def Tree.nod:Tree->Nat
 | .take _ _=>1
 | .row ts=>1+Tree.nods ts
 | .pick ts=>1+Tree.nods ts
 | .maybe t _=>t.nod+1
 | .many t _=>t.nod+1
noncomputable def Tree.nods:List Tree->Nat
 | []=>0
 | t::r=>t.nod+Tree.nods r
end
theorem qkg:Tree.nods []=0:=by intros;rfl
theorem qf8:∀ (t:Tree) (r:List Tree),Tree.nods (t::r)=Tree.nod t+Tree.nods r:=by intros;rfl
theorem qus:∀ (a b:List Tree),Tree.nods (a++b)=Tree.nods a+Tree.nods b
 | [],b=>by rw [List.nil_append,qkg];lia
 | t::r,b=>by rw [List.cons_append,qf8,qf8,qus r b];lia
noncomputable def item (t:Tree):V:=.tup [t.v,.bool t.bare,.int t.cnt,.int (t.dep:Int)]
section
variable {gl:List V} {cf:CF} {σ:Sg} {P:List Def}
theorem qn4 {a:V}:∀ {ts:List Tree} {y:V},(∀ t∈ts,cf 10 [t.v] σ = .ok (.bool t.bare) σ)->∃ y',forGo (exB gl cf [.ite (.not (.call 10 [.var 1])) [.ret (.cBool false)] []]) 1 (ts.map Tree.v) [a,y] σ
   = .ok (if ts.all Tree.bare then .next else .ret (.bool false),[a,y']) σ
 | [],y,_=>⟨y,rfl⟩
 | t::r,y,h=>by
  obtain ⟨y',ih⟩:=qn4 (a:=a) (y:=t.v) λu hu=>h u (List.mem_cons_of_mem _ hu)
  have h2:evE gl cf (.not (.call 10 [.var 1])) [a,t.v] σ = .ok (.bool (!t.bare)) σ:=by
   exact (kNot (kCall (kCons (kVar (qgw (Γ:=[a,t.v]) (i:=1) rfl ..)) evEs_nil) (h t List.mem_cons_self ..)) rfl)
  cases hb:t.bare with
  | true =>
   refine ⟨y',?_⟩
   rw [List.map_cons,qce (Γ':=[a,t.v]) ((qac h2 (by rw [hb];rfl)).trans exB_nil0),ih,List.all_cons,hb,Bool.true_and]
  | false =>
   refine ⟨t.v,?_⟩
   rw [List.map_cons,qgv (v:=.bool false) (Γ':=[a,t.v]) (qak h2 (by rw [hb];rfl) (qae evE_cBool)),List.all_cons,hb]
   rfl
theorem qn5 {a:V}:∀ {ts:List Tree} {y:V},(∀ t∈ts,cf 10 [t.v] σ = .ok (.bool t.bare) σ)->∃ y',forGo (exB gl cf [.ite (.call 10 [.var 1]) [.ret (.cBool true)] []]) 1 (ts.map Tree.v) [a,y] σ
   = .ok (if ts.any Tree.bare then .ret (.bool true) else .next,[a,y']) σ
 | [],y,_=>⟨y,rfl⟩
 | t::r,y,h=>by
  obtain ⟨y',ih⟩:=qn5 (a:=a) (y:=t.v) λu hu=>h u (List.mem_cons_of_mem _ hu)
  have h2:evE gl cf (.call 10 [.var 1]) [a,t.v] σ = .ok (.bool (t.bare)) σ:=by
   exact (kCall (kCons (kVar (qgw (Γ:=[a,t.v]) (i:=1) rfl ..)) evEs_nil) (h t List.mem_cons_self ..))
  cases hb:t.bare with
  | false =>
   refine ⟨y',?_⟩
   rw [List.map_cons,qce (Γ':=[a,t.v]) ((qac h2 (by rw [hb];rfl)).trans exB_nil0),ih,List.any_cons,hb,Bool.false_or]
  | true =>
   refine ⟨t.v,?_⟩
   rw [List.map_cons,qgv (v:=.bool true) (Γ':=[a,t.v]) (qak h2 (by rw [hb];rfl) (qae evE_cBool)),List.any_cons,hb]
   rfl
end
end Mine.Internal
namespace Mine.Internal
section
variable {gl:List V} {cf:CF} {σ:Sg} {Γ:Fm} {P:List Def}
theorem qd1 {i:Nat}{s w:List Nat}{r:List V}(h:Γ[i]? = some (.tup (.str s::r))):evE gl cf (.cmp .eq (.idx (.var i) (.cInt 0)) (.cStr w)) Γ σ = .ok (.bool (s == w)) σ:=by
 exact kCmp (kIdx (kVar (v:=.tup (.str s::r)) (by rw [getV,h])) evE_cInt idx_t0) evE_cStr rfl
theorem tag_1 {i:Nat}{a b:V}{r:List V}(h:Γ[i]? = some (.tup (a::b::r))):evE gl cf (.idx (.var i) (.cInt 1)) Γ σ = .ok b σ:=by
 exact kIdx (kVar (v:=.tup (a::b::r)) (by rw [getV,h])) evE_cInt idx_t1
theorem qqv (t:Tree)(hcf:∀ u:Tree,u.dep<t.dep->cf 10 [u.v] σ = .ok (.bool u.bare) σ):∃ Γ,exB gl cf d_bare.body [t.v,.undef] σ = .ok (.ret (.bool t.bare),Γ) σ:=by
 cases t with
 | take b s=>exact ⟨_,qak (qd1 rfl) rfl (qae evE_cBool)⟩
 | maybe t e =>
  refine ⟨[(Tree.maybe t e).v,.undef],?_⟩
  rw [v_maybe]
  exact (qac (qd1 rfl) rfl).trans ((qac (qd1 rfl) rfl).trans ((qac (qd1 rfl) rfl).trans (qae evE_cBool)))
 | many t e =>
  refine ⟨[(Tree.many t e).v,.undef],?_⟩
  rw [v_many]
  exact (qac (qd1 rfl) rfl).trans ((qac (qd1 rfl) rfl).trans ((qac (qd1 rfl) rfl).trans (qae evE_cBool)))
 | row ts =>
  obtain ⟨y,hl⟩:=qn4 (gl:=gl) (cf:=cf) (σ:=σ) (a:=(Tree.row ts).v) (ts:=ts) (y:=.undef) λu hu=>hcf u (by rw [qjf];have:=qgs hu;lia)
  refine ⟨[(Tree.row ts).v,y],?_⟩
  rw [v_row] at hl ⊢
  refine (qac (qd1 rfl) rfl).trans (qak (qd1 rfl) rfl ?_)
  have hf:=(qe1 (i:=1) (ik:=.val) (b:=.cNone) (body:=[.ite (.not (.call 10 [.var 1])) [.ret (.cBool false)] []]) (tag_1 (gl:=gl) (cf:=cf) (σ:=σ) (Γ:=[.tup [.str [114,111,119],.tup (ts.map Tree.v)],.undef]) (i:=0) rfl) evE_cNone rfl).trans hl
  rw [qna]
  cases hb:ts.all Tree.bare with
  | true=>rw [hb] at hf;exact (qay hf).trans (qae evE_cBool)
  | false=>rw [hb] at hf;exact qcx hf
 | pick ts =>
  obtain ⟨y,hl⟩:=qn5 (gl:=gl) (cf:=cf) (σ:=σ) (a:=(Tree.pick ts).v) (ts:=ts) (y:=.undef) λu hu=>hcf u (by rw [qje];have:=qgs hu;lia)
  refine ⟨[(Tree.pick ts).v,y],?_⟩
  rw [qtm] at hl ⊢
  refine (qac (qd1 rfl) rfl).trans ((qac (qd1 rfl) rfl).trans (qak (qd1 rfl) rfl ?_))
  have hf:=(qe1 (i:=1) (ik:=.val) (b:=.cNone) (body:=[.ite (.call 10 [.var 1]) [.ret (.cBool true)] []]) (tag_1 (gl:=gl) (cf:=cf) (σ:=σ) (Γ:=[.tup [.str [112,105,99,107],.tup (ts.map Tree.v)],.undef]) (i:=0) rfl) evE_cNone rfl).trans hl
  rw [qkj]
  cases hb:ts.any Tree.bare with
  | false=>rw [hb] at hf;exact (qay hf).trans (qae evE_cBool)
  | true=>rw [hb] at hf;exact qcx hf
theorem qgn (H:P[10]? = some d_bare):∀ (d:Nat) (t:Tree),t.dep≤d->callF gl P d 10 [t.v] σ = .ok (.bool t.bare) σ
 | 0,t,h=>by have:=qmc t;lia
 | d+1,t,h=>by
  obtain ⟨Γ,hb⟩:=qqv (gl:=gl) (cf:=callF gl P d) (σ:=σ) t λu hu=>qgn H d u (Nat.le_of_lt_succ (Nat.lt_of_lt_of_le hu h))
  exact qaf (D:=d_bare) H rfl hb
end
end Mine.Internal
namespace Mine.Internal
section
variable {gl:List V} {cf:CF} {σ:Sg} {Γ:Fm} {P:List Def}
theorem qda {a b:Ex}{p q:Bool}(h1:evE gl cf a Γ σ = .ok (.bool p) σ)(h2:p=true->evE gl cf b Γ σ = .ok (.bool q) σ):evE gl cf (.and a b) Γ σ = .ok (.bool (p && q)) σ:=by
 rw [qb7,h1,qad,qed,qam,qad]
 cases p with
 | true=>rw [if_pos rfl,h2 rfl,qsp,Bool.true_and]
 | false=>rw [if_neg Bool.false_ne_true,Bool.false_and]
theorem or_bb {a b:Ex}{p q:Bool}(h1:evE gl cf a Γ σ = .ok (.bool p) σ)(h2:p=false->evE gl cf b Γ σ = .ok (.bool q) σ):evE gl cf (.or a b) Γ σ = .ok (.bool (p || q)) σ:=by
 rw [qc2,h1,qad,qed,qam,qad]
 cases p with
 | true=>rw [if_pos rfl,Bool.true_or]
 | false=>rw [if_neg Bool.false_ne_true,h2 rfl,qsp,Bool.false_or]
end
end Mine.Internal
namespace Mine.Internal
mutual
theorem qhm:∀ (t:Tree),t.Ok->0≤t.cnt
 | .take _ _,_=>by rw [qeu];lia
 | .row ts,h=>by rw [qev];rw [qc5] at h;exact qgr ts h.2
 | .pick ts,h=>by
  rw [qdt];rw [qc6] at h
  have:=qgr ts h.2
  exact y8 h.1.1 this
 | .maybe t _,h=>by rw [qew];rw [qef] at h;have:=qhm t h;lia
 | .many t _,h=>by rw [qex];rw [qeg] at h;have:=qhm t h.1;lia
theorem qgr:∀ (ts:List Tree),Tree.Oks ts->0≤Tree.cnts ts
 | [],_=>by rw [qbd];lia
 | t::r,h=>by rw [qbe];rw [qa9] at h;have:=qhm t h.1;have:=qgr r h.2;lia
end
section
variable {gl:List V} {cf:CF} {σ:Sg} {Γ:Fm} {P:List Def}
end
end Mine.Internal
namespace Mine.Internal
section
variable {gl:List V} {cf:CF} {σ:Sg} {Γ:Fm} {P:List Def} {k:Int} {d:Nat}
end
end Mine.Internal
namespace Mine.Internal
section
variable {gl:List V} {cf:CF} {σ σ':Sg} {Γ Γ':Fm} {P:List Def}
theorem qa7 {c:Ex}{b:List St}(h1:evE gl cf c Γ σ = .ok (.bool true) σ)(h2:exB gl cf b Γ σ = .ok (.next,Γ') σ'):exS gl cf (.while c b) Γ σ=exS gl cf (.while c b) Γ' σ':=by
 rw [qcr,qcr,qcf,h1,qad,qed,qam,qad,if_pos rfl,h2,qad]
 rfl
theorem qb4 {c:Ex}{b:List St}(h1:evE gl cf c Γ σ = .ok (.bool false) σ):exS gl cf (.while c b) Γ σ = .ok (.next,Γ) σ:=by
 rw [qcr,qcf,h1,qad,qed,qam,qad,if_neg Bool.false_ne_true]
 rfl
theorem qhb {c:Ex}{b:List St}{v:V}(h1:evE gl cf c Γ σ = .ok (.bool true) σ)(h2:exB gl cf b Γ σ = .ok (.ret v,Γ') σ'):exS gl cf (.while c b) Γ σ = .ok (.ret v,Γ') σ':=by
 rw [qcr,qcf,h1,qad,qed,qam,qad,if_pos rfl,h2,qad]
 rfl
theorem qaq {e:Ex}{a b r:List St}{v:V}{σ₂:Sg}(h:evE gl cf e Γ σ = .ok v σ')(ht:vTrue σ' v=some false)(hr:exB gl cf b Γ σ' = .ok (.next,Γ') σ₂):exB gl cf (.ite e a b::r) Γ σ=exB gl cf r Γ' σ₂:=qay ((qc3 h ht).trans hr)
theorem qf9 {e:Ex}{a b:List St}{v:V}{z:Res (Fl×Fm)}(h:evE gl cf e Γ σ = .ok v σ')(ht:vTrue σ' v=some true)(hr:exB gl cf a Γ σ'=z):exB gl cf [.ite e a b] Γ σ=z:=by
 rw [qaz,qem h ht,hr]
 cases z with
 | ok p s=>obtain ⟨f,Γ⟩:=p;cases f <;> rfl
 | ex c s=>rfl
 | bad=>rfl
theorem qd4 {e:Ex}{a b:List St}{v:V}{z:Res (Fl×Fm)}(h:evE gl cf e Γ σ = .ok v σ')(ht:vTrue σ' v=some false)(hr:exB gl cf b Γ σ'=z):exB gl cf [.ite e a b] Γ σ=z:=by
 rw [qaz,qc3 h ht,hr]
 cases z with
 | ok p s=>obtain ⟨f,Γ⟩:=p;cases f <;> rfl
 | ex c s=>rfl
 | bad=>rfl
theorem qbb {e:Ex}{r:List St}{v:V}(h:evE gl cf e Γ σ = .ok v σ'):exB gl cf (.expr e::r) Γ σ=exB gl cf r Γ σ':=qay (qt3 h)
theorem qjm {i:Nat}{xs:List V}(h:σ[i]? = some (.lst xs)):getL σ (.ref i)=some xs:=by
 show (match σ[i]? with | some (.lst xs)=>some xs | _=>none)=_
 rw [h]
theorem qc1 {i:Nat}{xs:List V}(h:σ[i]? = some (.lst xs)):getSeq σ (.ref i)=some xs:=(show getL σ (.ref i)=some xs from qjm h)
theorem qdp {i:Nat}{xs:List V}(h:σ[i]? = some (.lst xs)):vBi σ .len [.ref i]=some (.int (xs.length:Int)):=by
 show (match σ[i]? with | some (.lst xs)=>some xs.length | some (.dictI ks)=>some ks.length | some (.dictP ks)=>some ks.length | _=>none).map _=_
 rw [h];rfl
theorem qtj {i:Nat}{xs:List V}(h:σ[i]? = some (.lst xs)):vBi σ .tuple [.ref i]=some (.tup xs):=by
 show (getL σ (.ref i)).map V.tup=_
 rw [qjm h];rfl
theorem qv7 {i:Nat}{xs:List V}{v:V}(h:σ[i]? = some (.lst xs))(hn:xs.length<roomy):vApp σ (.ref i) v=some (σ.set i (.lst (xs++[v]))):=by
 show (match σ[i]? with | some (.lst xs)=>if xs.length<roomy then some (σ.set i (.lst (xs++[v]))) else none | _=>none)=_
 rw [h];exact if_pos hn
theorem qum {i:Nat}{xs:List V}(h:σ[i]? = some (.lst xs)):liveL σ (.ref i)=some ():=by
 show (match σ[i]? with | some (.lst _)=>some () | _=>none)=_
 rw [h]
theorem qw6 {i:Nat}{xs:List V}{v:V}(h:σ[i]? = some (.lst (xs++[v]))):vPop σ (.ref i)=some (v,σ.set i (.lst xs)):=by
 show (match σ[i]? with | some (.lst xs)=>xs.getLast?.map λx=>(x,σ.set i (.lst xs.dropLast)) | _=>none)=_
 rw [h];simp
theorem qbu {o x:Ex}{i:Nat}{xs ys:List V}{v:V}{σ₁:Sg}(h1:evE gl cf o Γ σ = .ok (.ref i) σ)(h2:σ[i]? = some (.lst xs))(h3:evE gl cf x Γ σ = .ok v σ₁)(h4:σ₁[i]? = some (.lst ys))(hn:ys.length<roomy) :
  evE gl cf (.app o x) Γ σ = .ok .none (σ₁.set i (.lst (ys++[v]))):=by
 rw [qrq,h1,qad,qum h2,qam,qad,h3,qad,qv7 h4 hn];rfl
theorem qgd {o:Ex}{i:Nat}{xs:List V}{v:V}(h1:evE gl cf o Γ σ = .ok (.ref i) σ)(h2:σ[i]? = some (.lst (xs++[v]))):evE gl cf (.pop o) Γ σ = .ok v (σ.set i (.lst xs)):=by
 rw [qrs,h1,qad,qw6 h2];rfl
theorem qhy {xs:List V}(h:xs.length≤roomy):putL true xs σ = .ok (.ref σ.length) (σ++[.lst xs]):=by rw [putL,if_pos h];rfl
abbrev Ad:=Nat×Nat×Nat
noncomputable def Grp (σ:Sg)(a:Ad)(x:List Tree×List Tree):Prop:=σ[a.1]? = some (.lst [.ref a.2.1,.ref a.2.2])∧σ[a.2.1]? = some (.lst (x.1.map Tree.v))∧σ[a.2.2]? = some (.lst (x.2.map Tree.v))
noncomputable def All2 (σ:Sg):List Ad->List (List Tree×List Tree)->Prop
 | [],[]=>True
 | a::As,x::X=>Grp σ a x∧All2 σ As X
 | _,_=>False
noncomputable def adrs:List Ad->List Nat
 | []=>[]
 | a::r=>a.1::a.2.1::a.2.2::adrs r
theorem qey:adrs []=[]:=by intros;rfl
theorem qez:∀ (a:Ad) (r:List Ad),adrs (a::r)=Prod.fst a::Prod.fst (Prod.snd a)::Prod.snd (Prod.snd a)::adrs r:=by intros;rfl
structure GS (σ:Sg) (g:Nat) (As:List Ad) (X:List (List Tree×List Tree)):Prop where
 top:σ[g]? = some (.lst (As.map λa=>V.ref a.1).reverse)
 all:All2 σ As X
 nd:(g::adrs As).Nodup
theorem Grp.frame {a:Ad}{x:List Tree×List Tree}(h:Grp σ a x)(h1:σ'[a.1]? = σ[a.1]?)(h2:σ'[a.2.1]? = σ[a.2.1]?)(h3:σ'[a.2.2]? = σ[a.2.2]?):Grp σ' a x:=⟨h1.trans h.1,h2.trans h.2.1,h3.trans h.2.2⟩
theorem All2.frame:∀ {As:List Ad} {X:List (List Tree×List Tree)},All2 σ As X->(∀ i∈adrs As,σ'[i]? = σ[i]?)->All2 σ' As X
 | [],[],_,_=>trivial
 | a::As,x::X,h,hi=>⟨h.1.frame (hi _ (by simp [qey,qez])) (hi _ (by simp [qey,qez])) (hi _ (by simp [qey,qez])),h.2.frame λi hm=>hi i (by simp [qey,qez,hm])⟩
theorem All2.lt:∀ {As:List Ad} {X:List (List Tree×List Tree)},All2 σ As X->∀ i∈adrs As,i<σ.length
 | a::As,x::X,h,i,hi=>by
  simp only [qey,qez,List.mem_cons] at hi
  rcases hi with rfl | rfl | rfl | hi
  ·exact (List.getElem?_eq_some_iff.mp h.1.1).1
  ·exact (List.getElem?_eq_some_iff.mp h.1.2.1).1
  ·exact (List.getElem?_eq_some_iff.mp h.1.2.2).1
  ·exact h.2.lt i hi
theorem GS.lt {g:Nat}{As:List Ad}{X:List (List Tree×List Tree)}(h:GS σ g As X):g<σ.length:=(List.getElem?_eq_some_iff.mp h.top).1
theorem GS.ext {g:Nat}{As:List Ad}{X:List (List Tree×List Tree)}(h:GS σ g As X)(e:List Cell):GS (σ++e) g As X :=
 ⟨by rw [List.getElem?_append_left h.lt];exact h.top,h.all.frame λi hi=>List.getElem?_append_left (h.all.lt i hi),h.nd⟩
theorem qcg {i j:Nat}{c:Cell}(h:i≠j):(σ.set i c)[j]? = σ[j]?:=List.getElem?_set_ne h
theorem qh1 {i:Nat}{c:Cell}(h:i<σ.length):(σ.set i c)[i]? = some c:=by rw [List.getElem?_set_self' ];simp [h]
structure Apt (g:Nat) (a:Ad) (As:List Ad):Prop where
 g1:g≠a.1
 g2:g≠a.2.1
 g3:g≠a.2.2
 d12:a.1≠a.2.1
 d13:a.1≠a.2.2
 d23:a.2.1≠a.2.2
 r:∀ i∈adrs As,i≠g∧i≠a.1∧i≠a.2.1∧i≠a.2.2
 nd:(g::adrs As).Nodup
theorem apt {g:Nat}{a:Ad}{As:List Ad}(h:(g::adrs (a::As)).Nodup):Apt g a As:=by
 simp only [qey,qez,List.nodup_cons,List.mem_cons,not_or] at h
 obtain ⟨⟨h1,h2,h3,h4⟩,⟨h5,h6,h7⟩,⟨h8,h9⟩,h10,h11⟩:=h
 exact ⟨h1,h2,h3,h5,h6,h8,λi hi=>⟨λe=>h4 (e ▸ hi),λe=>h7 (e ▸ hi),λe=>h9 (e ▸ hi),λe=>h10 (e ▸ hi)⟩,List.nodup_cons.mpr ⟨h4,h11⟩⟩
variable {g:Nat} {a:Ad} {As:List Ad} {x:List Tree×List Tree} {X:List (List Tree×List Tree)}
theorem GS.push (h:GS σ g (a::As) (x::X))(ts:List Tree):GS (σ.set a.2.2 (.lst (ts.map Tree.v))) g (a::As) ((x.1,ts)::X):=by
 have A:=apt h.nd
 refine ⟨by rw [qcg A.g3.symm];exact h.top,⟨⟨by rw [qcg A.d13.symm];exact h.all.1.1,by rw [qcg A.d23.symm];exact h.all.1.2.1,?_⟩,h.all.2.frame λi hi=>qcg (A.r i hi).2.2.2.symm⟩,h.nd⟩
 exact qh1 (List.getElem?_eq_some_iff.mp h.all.1.2.2).1
theorem GS.alt (h:GS σ g (a::As) (x::X))(ts:List Tree):GS (σ.set a.2.1 (.lst (ts.map Tree.v))) g (a::As) ((ts,x.2)::X):=by
 have A:=apt h.nd
 refine ⟨by rw [qcg A.g2.symm];exact h.top,⟨⟨by rw [qcg A.d12.symm];exact h.all.1.1,?_,by rw [qcg A.d23];exact h.all.1.2.2⟩,h.all.2.frame λi hi=>qcg (A.r i hi).2.2.1.symm⟩,h.nd⟩
 exact qh1 (List.getElem?_eq_some_iff.mp h.all.1.2.1).1
theorem GS.fresh (h:GS σ g (a::As) (x::X)):GS ((σ++[Cell.lst []]).set a.1 (.lst [.ref a.2.1,.ref σ.length])) g ((a.1,a.2.1,σ.length)::As) ((x.1,[])::X):=by
 have A:=apt h.nd
 have hE:=h.ext [.lst []]
 have l1:=(List.getElem?_eq_some_iff.mp h.all.1.1).1
 have l2:=(List.getElem?_eq_some_iff.mp h.all.1.2.1).1
 have hg:=h.lt
 refine ⟨by rw [qcg A.g1.symm,hE.top];rfl,⟨⟨?_,?_,?_⟩,hE.all.2.frame λi hi=>qcg (A.r i hi).2.1.symm⟩,?_⟩
 ·exact qh1 (by rw [List.length_append];simp only [List.length_cons,List.length_nil];lia)
 ·rw [qcg A.d12];exact hE.all.1.2.1
 ·show ((σ++[Cell.lst []]).set a.1 _)[σ.length]? = _
  rw [qcg (by lia),List.getElem?_concat_length];rfl
 ·show (g::a.1::a.2.1::σ.length::adrs As).Nodup
  have hr:∀ i∈adrs As,i<σ.length:=h.all.2.lt
  have n1:=A.nd
  simp only [List.nodup_cons] at n1 ⊢
  simp only [List.mem_cons,not_or]
  refine ⟨⟨A.g1,A.g2,by lia,n1.1⟩,⟨A.d12,by lia,λhm=>(A.r _ hm).2.1 rfl⟩,⟨by lia,λhm=>(A.r _ hm).2.2.1 rfl⟩,λhm=>?_,n1.2⟩
  have:=hr _ hm;lia
theorem GS.opened (h:GS σ g As X):GS ((σ++[Cell.lst []]++[Cell.lst []]++[Cell.lst [.ref σ.length,.ref (σ.length+1)]]).set g (.lst ((As.map λa=>V.ref a.1).reverse++[.ref (σ.length+2)]))) g ((σ.length+2,σ.length,σ.length+1)::As) (([],[])::X):=by
 have hE:=((h.ext [.lst []]).ext [.lst []]).ext [.lst [.ref σ.length,.ref (σ.length+1)]]
 have hg:=h.lt
 have hr:∀ i∈adrs As,i<σ.length:=h.all.lt
 have n1:=h.nd
 simp only [List.nodup_cons] at n1
 have ln:(σ++[Cell.lst []]++[Cell.lst []]++[Cell.lst [.ref σ.length,.ref (σ.length+1)]]).length=σ.length+3:=by simp
 refine ⟨?_,⟨⟨?_,?_,?_⟩,hE.all.frame λi hi=>qcg λe=>n1.1 (e ▸ hi)⟩,?_⟩
 ·rw [qh1 (by rw [ln];lia)];simp
 ·show ((σ++_++_++_).set g _)[σ.length+2]? = _
  rw [qcg (by lia)];simp
 ·show ((σ++_++_++_).set g _)[σ.length]? = _
  rw [qcg (by lia)];simp
 ·show ((σ++_++_++_).set g _)[σ.length+1]? = _
  rw [qcg (by lia)];simp
 ·show (g::(σ.length+2)::σ.length::(σ.length+1)::adrs As).Nodup
  simp only [List.nodup_cons,List.mem_cons,not_or]
  refine ⟨⟨by lia,by lia,by lia,n1.1⟩,⟨by lia,by lia,λhm=>?_⟩,⟨by lia,λhm=>?_⟩,λhm=>?_,n1.2⟩ <;> (have:=hr _ hm;lia)
theorem GS.popped (h:GS σ g (a::As) (x::X)):GS (σ.set g (.lst (As.map λa=>V.ref a.1).reverse)) g As X∧Grp (σ.set g (.lst (As.map λa=>V.ref a.1).reverse)) a x:=by
 have A:=apt h.nd
 exact ⟨⟨qh1 h.lt,h.all.2.frame λi hi=>qcg (A.r i hi).1.symm,A.nd⟩,h.all.1.frame (qcg A.g1) (qcg A.g2) (qcg A.g3)⟩
end
end Mine.Internal
namespace Mine.Internal
noncomputable def rt (Q:List Tree):Tree:=match Q with | [t]=>t | _=>.row Q
noncomputable def gt (x:List Tree×List Tree):Tree:=match x.1 with | []=>rt x.2 | _=>.pick (x.1++[rt x.2])
structure HR (P:List Def):Prop where
 ba:P[10]? = some d_bare
 rw:P[14]? = some d_row_tree
 gr:P[15]? = some d_group_tree
 se:P[16]? = some d_set_at
 ta:P[17]? = some d_take_at
 re:P[18]? = some d_repeated
 cl:P[19]? = some d_closed
 rd:P[20]? = some d_read
section
variable {gl:List V} {cf:CF} {σ σ':Sg} {Γ Γ':Fm} {P:List Def} {d:Nat} {g:Nat} {a b:Ad} {As:List Ad} {x y:List Tree×List Tree} {X:List (List Tree×List Tree)}
theorem qsf {i:Nat}{Q:List Tree}(h:σ[i]? = some (.lst (Q.map Tree.v))):vBi σ .len [.ref i]=some (.int (Q.length:Int)):=by rw [qdp h,List.length_map]
theorem qu7 {Q:List Tree}(h:Q.length≠1):rt Q = .row Q:=by
 match Q,h with
 | [],_=>rfl
 | [_],h=>exact (h rfl).elim
 | _::_::_,_=>rfl
theorem qq6 {f:Nat}(H:P[f]? = some d_row_tree){q:Nat}{Q:List Tree}(h:σ[q]? = some (.lst (Q.map Tree.v))):callF gl P (d+1) f [.ref q] σ = .ok (rt Q).v σ:=by
 refine qaf (D:=d_row_tree) (Γ':=[.ref q]) H rfl ?_
 have t1:evE gl (callF gl P d) (.cmp .eq (.bi .len [(.var 0)]) (.cInt 1)) [.ref q] σ = .ok (.bool ((Q.length:Int) == 1)) σ:=by
  exact (kCmp (kBi (kCons (kVar rfl) evEs_nil) (qsf h ..)) evE_cInt rfl)
 by_cases h1:Q.length=1
 ·obtain ⟨t,rfl⟩:=List.length_eq_one_iff.mp h1
  refine qak t1 rfl (qae (σ':=σ) ?_)
  show evE gl _ _ [.ref q] σ=_
  exact kIdx (kVar rfl) evE_cInt (qck (x:=t.v) 0 (by decide) (qc1 h) rfl)
 ·have e1:((Q.length:Int) == 1)=false:=by rw [beq_eq_false_iff_ne];lia
  rw [e1] at t1
  refine (qac t1 rfl).trans (qae (σ':=σ) ?_)
  show evE gl _ _ [.ref q] σ=_
  rw [qu7 h1,v_row]
  exact (kTup (kCons evE_cStr (kCons (kBi (kCons (kVar rfl) evEs_nil) (qtj h ..)) evEs_nil)) roomy2)
theorem qne (H:HR P){q:Nat}{Q:List Tree}(h:σ[q]? = some (.lst (Q.map Tree.v))):callF gl P (d+1) 14 [.ref q] σ = .ok (rt Q).v σ:=qq6 H.rw h
theorem qts {i:Nat}{xs ys:List V}(h:σ[i]? = some (.lst xs))(hn:xs.length+ys.length≤roomy):vBin σ .add (.ref i) (.lst ys)=some (.lst (xs++ys)):=by
 show ((getL σ (.ref i)).bind λxs=>(getL σ (.lst ys)).bind λys=>addL xs ys)=_
 rw [qjm h]
 show addL xs ys=_
 rw [addL,if_pos hn]
theorem qhk (H:HR P)(h:Grp σ a x)(hn:x.1.length<roomy):callF gl P (d+2) 15 [.ref a.1] σ = .ok (gt x).v σ:=by
 refine x0_3 (h) λh1 h2 h3=>?_
 have hr:=qne (gl:=gl) (d:=d) H h3
 have i0:vIdx σ (.ref a.1) (.int 0)=some (.ref a.2.1):=qck 0 (by decide) (qc1 h1) rfl
 have i1:vIdx σ (.ref a.1) (.int 1)=some (.ref a.2.2):=qck 1 (by decide) (qc1 h1) rfl
 have ha:vBin σ .add (.ref a.2.1) (.lst [(rt x.2).v])=some (.lst ((x.1++[rt x.2]).map Tree.v)):=by
  rw [qts h2 (by rw [List.length_map];simp only [List.length_cons,List.length_nil];lia),List.map_append];rfl
 have s1:evE gl (callF gl P (d+1)) (.bin .add (.idx (.var 0) (.cInt 0)) (.lst false [(.call 14 [(.idx (.var 0) (.cInt 1))])])) [.ref a.1,.undef] σ = .ok (.lst ((x.1++[rt x.2]).map Tree.v)) σ:=by
  exact (kBin (kIdx (kVar rfl) evE_cInt (i0 ..)) (kLst (kCons (kCall (kCons (kIdx (kVar rfl) evE_cInt (i1 ..)) evEs_nil) (hr ..)) evEs_nil) rfl) (ha ..))
 have t1:evE gl (callF gl P (d+1)) (.cmp .eq (.bi .len [(.var 1)]) (.cInt 1)) [.ref a.1,.lst ((x.1++[rt x.2]).map Tree.v)] σ = .ok (.bool (((x.1.length:Int)+1) == 1)) σ:=by
  exact kCmp (kBi (kCons (kVar rfl) evEs_nil) bi_len_l) evE_cInt (by rw [eq_ii,List.length_map,List.length_append];rfl)
 refine qaf (D:=d_group_tree) (Γ':=[.ref a.1,.lst ((x.1++[rt x.2]).map Tree.v)]) H.gr rfl ((qab s1).trans ?_)
 obtain ⟨x1,x2⟩:=x
 cases x1 with
 | nil =>
  refine qak t1 rfl (qae (σ':=σ) ?_)
  show evE gl _ _ [.ref a.1,.lst (([]++[rt x2]).map Tree.v)] σ=_
  exact (kIdx (kVar rfl) evE_cInt rfl)
 | cons z r =>
  have e1:((((z::r).length:Int)+1) == 1)=false:=by rw [beq_eq_false_iff_ne,List.length_cons];lia
  dsimp only at t1
  rw [e1] at t1
  refine (qac t1 rfl).trans (qae (σ':=σ) ?_)
  show evE gl _ _ [.ref a.1,.lst (((z::r)++[rt x2]).map Tree.v)] σ=_
  show _=Res.ok (Tree.pick ((z::r)++[rt x2])).v σ
  rw [qtm];exact kTup (kCons evE_cStr (kCons (kBi (kCons (kVar rfl) evEs_nil) bi_tuple) evEs_nil)) roomy2
theorem qgm (h:GS σ g (a::As) X):vIdx σ (.ref g) (.int (-1))=some (.ref a.1):=qdj (qc1 h.top) rfl (by simp)
theorem ql7 (H:HR P)(h:GS σ g (a::b::As) (x::y::X))(hn:x.1.length<roomy)(hm:y.2.length<roomy) :
  ∃ σ',callF gl P (d+3) 19 [.ref g] σ = .ok .none σ'∧GS σ' g (b::As) ((y.1,y.2++[gt x])::X):=by
 obtain ⟨h1,h2⟩:=h.popped
 refine ⟨_,?_,h1.push (y.2++[gt x])⟩
 have hlen:vBi σ .len [.ref g]=some (.int ((As.length:Int)+2)):=by rw [qdp h.top];simp
 have t1:evE gl (callF gl P (d+2)) (.cmp .eq (.bi .len [(.var 0)]) (.cInt 1)) [.ref g,.undef] σ = .ok (.bool false) σ:=by
  exact kCmp (kBi (kCons (kVar rfl) evEs_nil) hlen) evE_cInt (by rw [eq_ii,beq_eq_false_iff_ne.mpr (by lia)])
 have htop:=h.top
 rw [List.map_cons,List.reverse_cons] at htop
 have hp:evE gl (callF gl P (d+2)) (.pop (.var 0)) [.ref g,.undef] σ = .ok (.ref a.1) (σ.set g (.lst ((b::As).map λa=>V.ref a.1).reverse)):=qgd rfl htop
 generalize hσ:σ.set g (.lst ((b::As).map λa=>V.ref a.1).reverse)=σ₁ at h1 h2 hp ⊢
 have hg:=qhk (gl:=gl) (d:=d) H h2 hn
 have s1:evE gl (callF gl P (d+2)) (.call 15 [(.pop (.var 0))]) [.ref g,.undef] σ = .ok (gt x).v σ₁:=by
  exact (kCall (kCons (hp ..) evEs_nil) (hg ..))
 have i1:vIdx σ₁ (.ref b.1) (.int 1)=some (.ref b.2.2):=qck 1 (by decide) (qc1 h1.all.1.1) rfl
 have ob:evE gl (callF gl P (d+2)) (.idx (.idx (.var 0) (.neg (.cInt 1))) (.cInt 1)) [.ref g,(gt x).v] σ₁ = .ok (.ref b.2.2) σ₁:=by
  exact (kIdx (kIdx (kVar rfl) (kNeg evE_cInt rfl) (qgm h1 ..)) evE_cInt (i1 ..))
 have hv:=qgw (Γ:=[.ref g,(gt x).v]) (i:=1) (t:=gt x) rfl
 rw [qdk H.cl rfl]
 show (exB gl _ d_closed.body [.ref g,.undef] σ).bind (x:=true) _=_
 have e1:exB gl (callF gl P (d+2)) d_closed.body [.ref g,.undef] σ = .ok (.next,[.ref g,(gt x).v]) (σ₁.set b.2.2 (.lst ((y.2++[gt x]).map Tree.v))):=by
  refine (qac t1 rfl).trans ((qab s1).trans ((qbb (qbu ob h1.all.1.2.2 (v:=(gt x).v) (σ₁:=σ₁) ?_ h1.all.1.2.2 (by rw [List.length_map];exact hm))).trans ?_))
  ·rw [qa2,hv,qam]
  ·rw [List.map_append];rfl
 rw [e1,qad];rfl
theorem qvm {w:List Nat}{k:Nat}{c:Nat}(h:w[k]? = some c)(hk:k<1000000):vIdx σ (.str w) (.int (k:Int))=some (.str [c]) :=
 qck k hk rfl (by rw [List.getElem?_map,h];rfl)
theorem qkx {w:List Nat}{k:Nat}(hk:k<1000000):vCut σ (.str w) (some (k:Int)) (some ((k:Int)+1))=some (.str ((w[k]?).toList)):=by
 rw [vCut_s (lo:=some (k:Int)) (hi:=some ((k:Int)+1)) (qdy (by lia) (by lia)) (qdy (by lia) (by lia)),show ((k:Int)+1)=((k+1:Nat):Int) by lia,qrk k (k+1) (by lia)]
 congr 2
 by_cases h:k<w.length
 ·rw [List.getElem?_eq_getElem h,List.take_succ,List.getElem?_eq_getElem h,List.drop_append,List.drop_of_length_le (by rw [List.length_take];exact Nat.min_le_left ..),List.length_take,Nat.min_eq_left (by lia)]
  simp
 ·rw [List.getElem?_eq_none (by lia),List.drop_of_length_le (by rw [List.length_take];exact Nat.le_trans (Nat.min_le_right ..) (Nat.le_of_not_lt h))];rfl
theorem qlj {o:Option Nat}{c:Nat}:(o.toList == [c])=(o == some c):=by
 cases o with
 | none=>rfl
 | some x=>simp
theorem len_str {w:List Nat}:vBi σ .len [.str w]=some (.int (w.length:Int)):=qtu
end
end Mine.Internal
namespace Mine.Internal
noncomputable def setText:List (Bool×Nat)->List Nat
 | []=>[]
 | (true,c)::r=>126::c::setText r
 | (false,c)::r=>c::setText r
theorem qfz:setText []=[]:=by intros;rfl
theorem qds:∀ (c:Nat) (r:List (Bool×Nat)),setText ((true,c)::r)=126::c::setText r:=by intros;rfl
theorem qct:∀ (c:Nat) (r:List (Bool×Nat)),setText ((false,c)::r)=c::setText r:=by intros;rfl
noncomputable def setFine (es:List (Bool×Nat)):Prop:=∀ p∈es,p.1=false->p.2≠93∧p.2≠126
section
variable {gl:List V} {cf:CF} {σ σ':Sg} {Γ Γ':Fm} {P:List Def} {d:Nat} {g:Nat} {a b:Ad} {As:List Ad} {x y:List Tree×List Tree} {X:List (List Tree×List Tree)} {w:List Nat} {k:Nat}
theorem qav {c:Nat}{r:List Nat}(h:w.drop k=c::r):w[k]? = some c∧w.drop (k+1)=r∧k<w.length:=by
 have hlt:k<w.length:=by
  by_cases hh:k<w.length
  ·exact hh
  ·rw [List.drop_of_length_le (by lia)] at h;cases h
 rw [List.drop_eq_getElem_cons hlt] at h
 injection h with h1 h2
 exact ⟨by rw [List.getElem?_eq_getElem hlt,h1],h2,hlt⟩
theorem qdz {i j:Nat}{c:Nat}(h0:Γ[i]? = some (.str w))(h1:Γ[j]? = some (.int (k:Int)))(h:w[k]? = some c)(hk:k<1000000):evE gl cf (.idx (.var i) (.var j)) Γ σ = .ok (.str [c]) σ:=by
 exact kIdx (kVar (v:=.str w) (by rw [getV,h0])) (kVar (qgg h1)) (qvm h hk)
theorem qbc {i j:Nat}{c:Nat}{t:List Nat}(h0:Γ[i]? = some (.str w))(h1:Γ[j]? = some (.int (k:Int)))(h:w[k]? = some c)(hk:k<1000000):evE gl cf (.cmp .eq (.idx (.var i) (.var j)) (.cStr t)) Γ σ = .ok (.bool ([c] == t)) σ:=by
 exact kCmp (qdz h0 h1 h hk) evE_cStr rfl
theorem qbz {i j:Nat}(h0:Γ[i]? = some (.str w))(h1:Γ[j]? = some (.int (k:Int))):evE gl cf (.cmp .lt (.var j) (.bi .len [(.var i)])) Γ σ = .ok (.bool (decide (k<w.length))) σ:=by
 exact kCmp (kVar (qgg h1)) (kBi (kCons (kVar (v:=.str w) (by rw [getV,h0])) evEs_nil) len_str) (by rw [lt_ii,show decide ((k:Int)<(w.length:Int))=decide (k<w.length) from decide_eq_decide.mpr Int.ofNat_lt])
theorem qnq {i j:Nat}(h0:Γ[i]? = some (.str w))(h1:Γ[j]? = some (.int (k:Int)))(h:k<w.length):evE gl cf (.cmp .eq (.var j) (.bi .len [(.var i)])) Γ σ = .ok (.bool false) σ:=by
 exact kCmp (kVar (qgg h1)) (kBi (kCons (kVar (v:=.str w) (by rw [getV,h0])) evEs_nil) len_str) (by rw [eq_ii,beq_eq_false_iff_ne.mpr (Int.ne_of_lt (Int.ofNat_lt.mpr h))])
theorem qbr {j:Nat}{n:Nat}(h1:Γ[j]? = some (.int (k:Int))):evE gl cf (.bin .add (.var j) (.cInt (n:Int))) Γ σ = .ok (.int ((k+n:Nat):Int)) σ:=by
 exact (kBin (kVar (qgg h1)) evE_cInt rfl)
theorem ne1 {c t:Nat}(h:c≠t):([c] == [t])=false:=by simp [h]
theorem qug {s:List Nat}{i:Nat}{xs:List V}(h:σ[i]? = some (.lst xs)):vJoin σ (.str s) (.ref i)=vJoin σ (.str s) (.lst xs):=by
 show ((getL σ (.ref i)).bind strsV).bind _=((getL σ (.lst xs)).bind strsV).bind _
 rw [qjm h];rfl
noncomputable def setW:St:=.while (.cmp .lt (.var 1) (.bi .len [(.var 0)]))
  [.ite (.cmp .eq (.idx (.var 0) (.var 1)) (.cStr [93]))
    [.ret (.tup [(.tup [(.cStr [116,97,107,101]),(.var 2),(.join (.cStr []) (.var 3))]),(.bin .add (.var 1) (.cInt 1))])]
    [],
   .ite (.cmp .eq (.idx (.var 0) (.var 1)) (.cStr [126]))
    [.asg 1 (.bin .add (.var 1) (.cInt 1)),
    .ite (.cmp .eq (.var 1) (.bi .len [(.var 0)]))
     [.raise 1]
     []]
    [],
   .expr (.app (.var 3) (.idx (.var 0) (.var 1))),
   .asg 1 (.bin .add (.var 1) (.cInt 1))]
theorem qj6 (hw:w.length<1000000){ins:Bool}{post:List Nat}:∀ (es:List (Bool×Nat)) (cs:List Nat) (k:Nat),setFine es->w.drop k=setText es++93::post->cs.length+es.length<100000 ->
  ∃ Γ,exS gl cf setW [.str w,.int (k:Int),.bool ins,.ref σ.length] (σ++[.lst (cs.map λc=>.str [c])]) = .ok (.ret (.tup [(Tree.take ins (cs++es.map (·.2))).v,.int ((k+(setText es).length+1:Nat):Int)]),Γ) (σ++[.lst ((cs++es.map (·.2)).map λc=>.str [c])])
 | [],cs,k,_,hd,hl=>by
  refine x0_3 (qav (show w.drop k=93::post from hd)) λh1 h2 h3=>?_
  have hr:(σ++[Cell.lst (cs.map λc=>.str [c])])[σ.length]? = some (.lst (cs.map λc=>V.str [c])):=List.getElem?_concat_length
  refine ⟨[.str w,.int (k:Int),.bool ins,.ref σ.length],(qhb (v:=.tup [(Tree.take ins cs).v,.int ((k+1:Nat):Int)]) (Γ':=[.str w,.int (k:Int),.bool ins,.ref σ.length]) ((qbz rfl rfl).trans (by rw [decide_eq_true h3])) (qak (qbc rfl rfl h1 (by lia)) rfl (qae (σ':=σ++[.lst (cs.map λc=>.str [c])]) ?_))).trans ?_⟩
  ·have hj:=qm7 (σ:=σ++[.lst (cs.map λc=>.str [c])]) (g:=λc:Nat=>c) (l:=cs) (by simp only [List.length_nil] at hl;unfold roomy;lia)
   exact kTup (kCons (kTup (kCons evE_cStr (kCons (kVar rfl) (kCons (kJoin evE_cStr (kVar rfl) (by rw [qug hr,hj,List.map_id'])) evEs_nil))) roomy3) (kCons (kBin (kVar rfl) evE_cInt rfl) evEs_nil)) roomy2
  ·simp only [List.map_nil,List.append_nil,qfz,qds,qct,List.length_nil,Nat.add_zero]
 | (true,c)::es,cs,k,hf,hd,hl=>by
  refine x0_3 (qav (show w.drop k=126::(c::(setText es++93::post)) from hd)) λh1 h2 h3=>?_
  refine x0_3 (qav h2) λh4 h5 h6=>?_
  rw [List.length_cons] at hl
  obtain ⟨Γ,ih⟩:=qj6 hw (ins:=ins) es (cs++[c]) (k+2) (λp hp=>hf p (List.mem_cons_of_mem _ hp)) h5 (by rw [List.length_append];exact z4 hl)
  refine ⟨Γ,?_⟩
  have hr:(σ++[Cell.lst (cs.map λc=>.str [c])])[σ.length]? = some (.lst (cs.map λc=>V.str [c])):=List.getElem?_concat_length
  have hb:exB gl cf [.ite (.cmp .eq (.idx (.var 0) (.var 1)) (.cStr [93]))
    [.ret (.tup [(.tup [(.cStr [116,97,107,101]),(.var 2),(.join (.cStr []) (.var 3))]),(.bin .add (.var 1) (.cInt 1))])]
    [],
   .ite (.cmp .eq (.idx (.var 0) (.var 1)) (.cStr [126]))
    [.asg 1 (.bin .add (.var 1) (.cInt 1)),
    .ite (.cmp .eq (.var 1) (.bi .len [(.var 0)]))
     [.raise 1]
     []]
    [],
   .expr (.app (.var 3) (.idx (.var 0) (.var 1))),
   .asg 1 (.bin .add (.var 1) (.cInt 1))] [.str w,.int (k:Int),.bool ins,.ref σ.length] (σ++[.lst (cs.map λc=>.str [c])]) = .ok (.next,[.str w,.int ((k+2:Nat):Int),.bool ins,.ref σ.length]) (σ++[.lst ((cs++[c]).map λc=>.str [c])]):=by
   refine (qac (qbc rfl rfl h1 (by lia)) rfl).trans ((qa6 (Γ':=[.str w,.int ((k+1:Nat):Int),.bool ins,.ref σ.length]) (qbc rfl rfl h1 (by lia)) rfl ((qab (qbr (n:=1) rfl)).trans ((qac (qnq rfl rfl h6) rfl).trans exB_nil0))).trans ((qbb (qbu rfl hr (qdz rfl rfl h4 (Nat.lt_trans h6 hw)) hr (by rw [List.length_map];exact u1 (Nat.lt_of_le_of_lt (Nat.le_add_right ..) hl) (by decide)))).trans ((qab (qbr (n:=1) (k:=k+1) rfl)).trans (exB_nil0.trans ?_))))
   rw [List.map_append,show k+1+1=k+2 from rfl];simp
  refine (qa7 ((qbz rfl rfl).trans (by rw [decide_eq_true h3])) hb).trans (ih.trans ?_)
  simp only [List.map_cons,List.append_assoc,List.singleton_append,qfz,qds,qct,List.length_cons]
  rw [show k+2+(setText es).length+1=k+((setText es).length+1+1)+1 by lia]
 | (false,c)::es,cs,k,hf,hd,hl=>by
  refine x0_3 (qav (show w.drop k=c::(setText es++93::post) from hd)) λh1 h2 h3=>?_
  obtain ⟨n1,n2⟩:=hf (false,c) List.mem_cons_self rfl
  rw [List.length_cons] at hl
  obtain ⟨Γ,ih⟩:=qj6 hw (ins:=ins) es (cs++[c]) (k+1) (λp hp=>hf p (List.mem_cons_of_mem _ hp)) h2 (by rw [List.length_append];exact z4 hl)
  refine ⟨Γ,?_⟩
  have hr:(σ++[Cell.lst (cs.map λc=>.str [c])])[σ.length]? = some (.lst (cs.map λc=>V.str [c])):=List.getElem?_concat_length
  have hb:exB gl cf [.ite (.cmp .eq (.idx (.var 0) (.var 1)) (.cStr [93]))
    [.ret (.tup [(.tup [(.cStr [116,97,107,101]),(.var 2),(.join (.cStr []) (.var 3))]),(.bin .add (.var 1) (.cInt 1))])]
    [],
   .ite (.cmp .eq (.idx (.var 0) (.var 1)) (.cStr [126]))
    [.asg 1 (.bin .add (.var 1) (.cInt 1)),
    .ite (.cmp .eq (.var 1) (.bi .len [(.var 0)]))
     [.raise 1]
     []]
    [],
   .expr (.app (.var 3) (.idx (.var 0) (.var 1))),
   .asg 1 (.bin .add (.var 1) (.cInt 1))] [.str w,.int (k:Int),.bool ins,.ref σ.length] (σ++[.lst (cs.map λc=>.str [c])]) = .ok (.next,[.str w,.int ((k+1:Nat):Int),.bool ins,.ref σ.length]) (σ++[.lst ((cs++[c]).map λc=>.str [c])]):=by
   refine (qac (qbc rfl rfl h1 (by lia)) (by rw [ne1 n1];rfl)).trans ((qac (qbc rfl rfl h1 (by lia)) (by rw [ne1 n2];rfl)).trans ((qbb (qbu rfl hr (qdz rfl rfl h1 (by lia)) hr (by rw [List.length_map];exact u1 (Nat.lt_of_le_of_lt (Nat.le_add_right ..) hl) (by decide)))).trans ((qab (qbr (n:=1) rfl)).trans (exB_nil0.trans ?_))))
   rw [List.map_append];simp
  refine (qa7 ((qbz rfl rfl).trans (by rw [decide_eq_true h3])) hb).trans (ih.trans ?_)
  simp only [List.map_cons,List.append_assoc,List.singleton_append,qfz,qds,qct,List.length_cons]
  rw [show k+1+(setText es).length+1=k+((setText es).length+1)+1 by lia]
noncomputable def setAll (ins:Bool)(es:List (Bool×Nat)):List Nat:=(if ins then [] else [33])++(setText es++[93])
theorem qtz (H:HR P)(hw:w.length<1000000){ins:Bool}{es:List (Bool×Nat)}{post:List Nat}(hf:setFine es)(hl:es.length<100000)(h33:ins=true->(setText es++[93]).head?≠some 33)(hd:w.drop k=setAll ins es++post) :
  ∃ e,callF gl P (d+1) 16 [.str w,.int (k:Int)] σ = .ok (.tup [(Tree.take ins (es.map (·.2))).v,.int ((k+(setAll ins es).length:Nat):Int)]) (σ++e):=by
 have hk:k<w.length:=by
  by_cases hh:k<w.length
  ·exact hh
  ·rw [List.drop_of_length_le (by lia)] at hd
   have:=congrArg List.length hd
   unfold setAll at this
   simp only [List.length_append,List.length_nil,List.length_cons] at this
   lia
 have hc:evE gl (callF gl P d) (.cmp .eq (.slice (.var 0) (some (.var 1)) (some (.bin .add (.var 1) (.cInt 1)))) (.cStr [33])) [.str w,.int (k:Int),.bool true,.undef] σ = .ok (.bool (w[k]? == some 33)) σ:=by
  exact kCmp (kSlice (kVar rfl) (kSome (kVar rfl) rfl) (kSome (kBin (kVar rfl) evE_cInt rfl) rfl) (qkx (k:=k) (w:=w) (by lia))) evE_cStr (by rw [eq_ss,qlj])
 have h0:w[k]? = (w.drop k).head?:=by rw [List.head?_drop]
 have tail:∀ {q:Nat},w.drop q=setText es++93::post->∃ Γ,exB gl (callF gl P d) (d_set_at.body.drop 2) [.str w,.int (q:Int),.bool ins,.undef] σ = .ok (.ret (.tup [(Tree.take ins (es.map (·.2))).v,.int ((q+(setText es).length+1:Nat):Int)]),Γ) (σ++[.lst ((es.map (·.2)).map λc=>.str [c])]):=λ{q} hq=>by
  obtain ⟨Γ,hs⟩:=qj6 (gl:=gl) (cf:=callF gl P d) (σ:=σ) hw (ins:=ins) es [] q hf hq (Nat.lt_of_le_of_lt (Nat.le_of_eq (Nat.zero_add _)) hl)
  rw [List.nil_append,List.map_nil] at hs
  refine ⟨Γ,(qab (v:=.ref σ.length) (σ':=σ++[Cell.lst []]) ?_).trans (qcx hs)⟩
  exact (kLst evEs_nil rfl)
 cases ins with
 | true =>
  have hd':w.drop k=setText es++93::post:=by rw [hd];unfold setAll;simp
  obtain ⟨Γ,ht⟩:=tail hd'
  have hne:(w[k]? == some 33)=false:=by
   rw [h0,hd',beq_eq_false_iff_ne]
   intro e
   refine h33 rfl ?_
   cases hs:setText es with
   | nil=>rw [hs] at e;cases e
   | cons z r=>rw [hs] at e;exact e
  refine ⟨[.lst ((es.map (·.2)).map λc=>.str [c])],qaf (D:=d_set_at) (Γ':=Γ) H.se rfl ((qab evE_cBool).trans ((qac hc (by rw [hne];rfl)).trans (ht.trans ?_)))⟩
  simp only [setAll,if_true,List.nil_append,List.length_append,List.length_cons,List.length_nil]
  rw [show k+(setText es).length+1=k+((setText es).length+(0+1)) by lia]
 | false =>
  have hd':w.drop k=33::(setText es++93::post):=by rw [hd];unfold setAll;simp
  refine x0_3 (qav hd') λg1 g2 _=>?_
  obtain ⟨Γ,ht⟩:=tail g2
  have hne:(w[k]? == some 33)=true:=by rw [g1];rfl
  refine ⟨[.lst ((es.map (·.2)).map λc=>.str [c])],qaf (D:=d_set_at) (Γ':=Γ) H.se rfl ((qab evE_cBool).trans ((qa6 (Γ':=[.str w,.int ((k+1:Nat):Int),.bool false,.undef]) hc (by rw [hne];rfl) ((qab evE_cBool).trans ((qab (qbr (n:=1) rfl)).trans exB_nil0))).trans (ht.trans ?_)))⟩
  simp only [setAll,List.length_append,List.length_cons,List.length_nil]
  rw [show k+1+(setText es).length+1=k+((if false=true then [] else [33]:List Nat).length+((setText es).length+(0+1))) by simp;lia]
inductive TakeT:List Nat->Tree->Prop
 | dot:TakeT [46] (.take false [])
 | wave (c:Nat):TakeT [126,c] (.take true [c])
 | sign (c:Nat) (h:c∉[40,41,124,42,63,46,91,93,126]):TakeT [c] (.take true [c])
 | set (ins:Bool) (es:List (Bool×Nat)) (hf:setFine es) (hl:es.length<100000) (h33:ins=true->(setText es++[93]).head?≠some 33):TakeT (91::setAll ins es) (.take ins (es.map (·.2)))
theorem qma (H:HR P)(hw:w.length<1000000){u post:List Nat}{t:Tree}(ht:TakeT u t)(hd:w.drop k=u++post):∃ e,callF gl P (d+2) 17 [.str w,.int (k:Int)] σ = .ok (.tup [t.v,.int ((k+u.length:Nat):Int)]) (σ++e):=by
 have hs:∀ {c:Nat},w[k]? = some c->k<w.length->evE gl (callF gl P (d+1)) (.idx (.var 0) (.var 1)) [.str w,.int (k:Int),.undef] σ = .ok (.str [c]) σ:=λh hk=>qdz rfl rfl h (Nat.lt_trans hk hw)
 have tst:∀ {c:Nat} {t:List Nat},evE gl (callF gl P (d+1)) (.cmp .eq (.var 2) (.cStr t)) [.str w,.int (k:Int),.str [c]] σ = .ok (.bool ([c] == t)) σ:=by
  intros
  exact (kCmp (kVar rfl) evE_cStr rfl)
 cases ht with
 | dot =>
  refine x0_3 (qav hd) λh1 h2 h3=>?_
  refine ⟨[],qaf (D:=d_take_at) H.ta rfl ((qab (hs h1 h3)).trans ((qac tst rfl).trans (qak tst rfl (qae ?_))))⟩
  rw [List.append_nil]
  exact (kTup (kCons (kTup (kCons evE_cStr (kCons evE_cBool (kCons evE_cStr evEs_nil))) roomy3) (kCons (kBin (kVar rfl) evE_cInt rfl) evEs_nil)) roomy2)
 | wave c =>
  refine x0_3 (qav (show w.drop k=126::(c::post) from hd)) λh1 h2 h3=>?_
  refine x0_3 (qav h2) λh4 h5 h6=>?_
  have te:evE gl (callF gl P (d+1)) (.cmp .eq (.bin .add (.var 1) (.cInt 1)) (.bi .len [(.var 0)])) [.str w,.int (k:Int),.str [126]] σ = .ok (.bool false) σ:=by
   exact kCmp (kBin (kVar rfl) evE_cInt rfl) (kBi (kCons (kVar rfl) evEs_nil) len_str) (by rw [eq_ii,beq_eq_false_iff_ne.mpr (show (k:Int)+1≠(w.length:Int) from Int.ne_of_lt (Int.ofNat_lt.mpr h6))])
  have hi:vIdx σ (.str w) (.int ((k:Int)+1))=some (.str [c]):=qvm (k:=k+1) h4 (Nat.lt_trans h6 hw)
  refine ⟨[],qaf (D:=d_take_at) H.ta rfl ((qab (hs h1 h3)).trans ((qac tst rfl).trans ((qac tst rfl).trans (qak tst rfl ((qac te rfl).trans (qae ?_))))))⟩
  rw [List.append_nil]
  exact (kTup (kCons (kTup (kCons evE_cStr (kCons evE_cBool (kCons (kIdx (kVar rfl) (kBin (kVar rfl) evE_cInt rfl) (hi ..)) evEs_nil))) roomy3) (kCons (kBin (kVar rfl) evE_cInt rfl) evEs_nil)) roomy2)
 | sign c hc =>
  refine x0_3 (qav hd) λh1 h2 h3=>?_
  simp only [List.mem_cons,List.not_mem_nil,or_false,not_or] at hc
  obtain ⟨_,_,_,_,_,n6,n7,_,n9⟩:=hc
  refine ⟨[],qaf (D:=d_take_at) H.ta rfl ((qab (hs h1 h3)).trans ((qac tst (by rw [ne1 n7];rfl)).trans ((qac tst (by rw [ne1 n6];rfl)).trans ((qac tst (by rw [ne1 n9];rfl)).trans (qae ?_)))))⟩
  rw [List.append_nil]
  exact (kTup (kCons (kTup (kCons evE_cStr (kCons evE_cBool (kCons (kVar rfl) evEs_nil))) roomy3) (kCons (kBin (kVar rfl) evE_cInt rfl) evEs_nil)) roomy2)
 | set ins es hf hl h33 =>
  refine x0_3 (qav (show w.drop k=91::(setAll ins es++post) from hd)) λh1 h2 h3=>?_
  obtain ⟨e,he⟩:=qtz (gl:=gl) (d:=d) (σ:=σ) H hw hf hl h33 h2
  refine ⟨e,qaf (D:=d_take_at) H.ta rfl ((qab (hs h1 h3)).trans (qak tst rfl (qae ?_)))⟩
  have he':callF gl P (d+1) 16 [.str w,.int ((k:Int)+1)] σ=_:=he
  simp only [List.set_cons_succ,List.set_cons_zero,evE_cNone,evE_cBool,evE_cInt,evE_cStr,qa2,qbf,qb7,qc2,qb9,qb2,qbn,qb1,qbv,qbp,qca,qb8,qa3,qcl,qbg,qba,qa4,evEs_nil,qap,qbh,qbj,getV,List.getElem?_cons_zero,List.getElem?_cons_succ,qam,qad,qps,he',List.length_cons]
  rw [show k+1+(setAll ins es).length=k+((setAll ins es).length+1) by lia]
end
end Mine.Internal
namespace Mine.Internal
noncomputable def rdB:List St:=[.asg 4 (.idx (.var 0) (.var 3)),
   .ite (.or (.cmp .eq (.var 4) (.cStr [42])) (.cmp .eq (.var 4) (.cStr [63])))
    [.ite (.not (.var 2))
     [.raise 3]
     [],
    .asg 3 (.call 18 [(.idx (.idx (.var 1) (.neg (.cInt 1))) (.cInt 1)),(.var 0),(.var 3)]),
    .asg 2 (.cBool false)]
    [.ite (.cmp .eq (.var 4) (.cStr [40]))
     [.ite (.cmp .gt (.bi .len [(.var 1)]) (.glob 0))
       [.raise 5]
       [],
      .expr (.app (.var 1) (.lst true [(.lst true []),(.lst true [])])),
      .asg 2 (.cBool false),
      .asg 3 (.bin .add (.var 3) (.cInt 1))]
     [.ite (.cmp .eq (.var 4) (.cStr [41]))
       [.expr (.call 19 [(.var 1)]),
       .asg 2 (.cBool true),
       .asg 3 (.bin .add (.var 3) (.cInt 1))]
       [.ite (.cmp .eq (.var 4) (.cStr [124]))
        [.expr (.app (.idx (.idx (.var 1) (.neg (.cInt 1))) (.cInt 0)) (.call 14 [(.idx (.idx (.var 1) (.neg (.cInt 1))) (.cInt 1))])),
         .sto (.idx (.var 1) (.neg (.cInt 1))) (.cInt 1) (.lst true []),
         .asg 2 (.cBool false),
         .asg 3 (.bin .add (.var 3) (.cInt 1))]
        [.ite (.cmp .eq (.var 4) (.cStr [93]))
          [.raise 2]
          [.asg 5 (.call 17 [(.var 0),(.var 3)]),
          .expr (.app (.idx (.idx (.var 1) (.neg (.cInt 1))) (.cInt 1)) (.idx (.var 5) (.cInt 0))),
          .asg 2 (.cBool true),
          .asg 3 (.idx (.var 5) (.cInt 1))]]]]]]
noncomputable def rdW:St:=.while (.cmp .lt (.var 3) (.bi .len [(.var 0)])) rdB
noncomputable def rep (c:Nat)(t:Tree)(e:Bool):Tree:=if c=42 then .many t e else .maybe t e
section
variable {gl:List V} {cf:CF} {σ σ':Sg} {Γ Γ':Fm} {P:List Def} {d:Nat} {g:Nat} {a b:Ad} {As:List Ad} {x y:List Tree×List Tree} {X:List (List Tree×List Tree)} {w:List Nat} {k:Nat}
theorem qh8 (H:HR P){Q:List Tree}{t:Tree}{c:Nat}{q:Nat}(hq:σ[q]? = some (.lst ((Q++[t]).map Tree.v)))(hd:t.dep≤d)(hw:w.length<1000000)(hk:w[k]? = some c)(hc:c=42∨c=63)(hb:c=42->t.bare=false)(hn:Q.length<1000000) :
  callF gl P (d+1) 18 [.ref q,.str w,.int (k:Int)] σ = .ok (.int ((k+(if w[k+1]? = some 33 then 2 else 1):Nat):Int)) (σ.set q (.lst ((Q++[rep c t (!(w[k+1]? == some 33))]).map Tree.v))):=by
 have hlt:k<w.length:=(List.getElem?_eq_some_iff.mp hk).1
 have hql:q<σ.length:=(List.getElem?_eq_some_iff.mp hq).1
 rw [List.map_append] at hq
 replace hq:σ[q]? = some (.lst (Q.map Tree.v++[t.v])):=hq
 generalize hee:(!(w[k+1]? == some 33))=ee
 have e2:(2:Int)=1+1:=rfl
 have s3:evE gl (callF gl P d) (.cmp .ne (.slice (.var 1) (some (.bin .add (.var 2) (.cInt 1))) (some (.bin .add (.var 2) (.cInt 2)))) (.cStr [33])) [.ref q,.str w,.int (k:Int),.undef,.undef] σ = .ok (.bool ee) σ:=by
  have hcut:vCut σ (.str w) (some ((k:Int)+1)) (some ((k:Int)+2))=some (.str ((w[k+1]?).toList)):=by
   have:=qkx (σ:=σ) (w:=w) (k:=k+1) (by lia)
   rw [show (((k+1:Nat):Int)+1)=(k:Int)+2 by lia] at this
   exact this
  exact kCmp (kSlice (kVar rfl) (kSome (kBin (kVar rfl) evE_cInt rfl) rfl) (kSome (kBin (kVar rfl) evE_cInt rfl) rfl) hcut) evE_cStr (by rw [ne_ss,qlj,hee])
 have t42:∀ {y3 y4:V} {σ:Sg},evE gl (callF gl P d) (.cmp .eq (.idx (.var 1) (.var 2)) (.cStr [42])) [.ref q,.str w,.int (k:Int),y3,y4] σ = .ok (.bool ([c] == [42])) σ:=qbc rfl rfl hk (by lia)
 have hl:vIdx σ (.ref q) (.int (-1))=some t.v:=qdj (qc1 hq) rfl (by simp)
 have tb:evE gl (callF gl P d) (.and (.cmp .eq (.idx (.var 1) (.var 2)) (.cStr [42])) (.call 10 [(.idx (.var 0) (.neg (.cInt 1)))])) [.ref q,.str w,.int (k:Int),.bool ee,.undef] σ = .ok (.bool ([c] == [42] && t.bare)) σ:=by
  refine qda t42 λ_=>?_
  exact (kCall (kCons (kIdx (kVar rfl) (kNeg evE_cInt rfl) (hl ..)) evEs_nil) (qgn H.ba d t hd ..))
 have tb0:([c] == [42] && t.bare)=false:=by
  rcases hc with rfl | rfl
  ·rw [hb rfl];rfl
  ·rfl
 rw [tb0] at tb
 have sp:evE gl (callF gl P d) (.pop (.var 0)) [.ref q,.str w,.int (k:Int),.bool ee,.undef] σ = .ok t.v (σ.set q (.lst (Q.map Tree.v))):=qgd rfl hq
 have hq1:(σ.set q (.lst (Q.map Tree.v)))[q]? = some (.lst (Q.map Tree.v)):=qh1 hql
 have hv4:=qgw (Γ:=[.ref q,.str w,.int (k:Int),.bool ee,t.v]) (i:=4) (t:=t) rfl
 have ap:∀ (nm:List Nat) (u:Tree),u.v = .tup [.str nm,t.v,.bool ee]->evE gl (callF gl P d) (.app (.var 0) (.tup [(.cStr nm),(.var 4),(.var 3)])) [.ref q,.str w,.int (k:Int),.bool ee,t.v] (σ.set q (.lst (Q.map Tree.v))) = .ok .none (σ.set q (.lst ((Q++[u]).map Tree.v))):=λnm u hu=>by
  have:=qbu (gl:=gl) (cf:=callF gl P d) (Γ:=[.ref q,.str w,.int (k:Int),.bool ee,t.v]) (o:=.var 0) (x:=.tup [(.cStr nm),(.var 4),(.var 3)]) (v:=u.v) (σ₁:=σ.set q (.lst (Q.map Tree.v))) rfl hq1 (by
   rw [hu];exact kTup (kCons evE_cStr (kCons (kVar hv4) (kCons (kVar rfl) evEs_nil))) roomy3) hq1 (by rw [List.length_map];unfold roomy;lia)
  rw [this,List.set_set,List.map_append];rfl
 have fin:exB gl (callF gl P d) (d_repeated.body.drop 4) [.ref q,.str w,.int (k:Int),.bool ee,t.v] (σ.set q (.lst ((Q++[rep c t ee]).map Tree.v))) = .ok (.ret (.int ((k+(if w[k+1]? = some 33 then 2 else 1):Nat):Int)),[.ref q,.str w,.int (k:Int),.bool ee,t.v]) (σ.set q (.lst ((Q++[rep c t ee]).map Tree.v))):=by
  cases ee with
  | true =>
   have h33:¬ w[k+1]? = some 33:=λe=>by rw [e] at hee;cases hee
   rw [if_neg h33]
   exact qak (v:=.bool true) rfl rfl (qae (qbr (n:=1) rfl))
  | false =>
   have h33:w[k+1]? = some 33:=by
    cases ho:w[k+1]? with
    | none=>rw [ho] at hee;cases hee
    | some z=>rw [ho] at hee;simp at hee;rw [hee]
   rw [if_pos h33]
   exact (qac (v:=.bool false) rfl rfl).trans (qae (qbr (n:=2) rfl))
 refine qaf (D:=d_repeated) H.re rfl ((qab s3).trans ((qac tb rfl).trans ((qab sp).trans (Eq.trans ?_ fin))))
 rcases hc with rfl | rfl
 ·exact qa6 (v:=.bool true) t42 rfl ((qbb (ap [109,97,110,121] (.many t ee) v_many)).trans exB_nil0)
 ·exact qaq (v:=.bool false) t42 rfl ((qbb (ap [109,97,121,98,101] (.maybe t ee) v_maybe)).trans exB_nil0)
noncomputable def Rd (gl:List V)(cf:CF)(w:List Nat)(k:Nat)(r:Bool)(X:List (List Tree×List Tree))(k':Nat)(r':Bool)(X':List (List Tree×List Tree)):Prop :=
 ∀ σ g As y4 y5,GS σ g As X->∃ σ' As' y4' y5',exS gl cf rdW [.str w,.ref g,.bool r,.int (k:Int),y4,y5] σ=exS gl cf rdW [.str w,.ref g,.bool r',.int (k':Int),y4',y5'] σ'∧GS σ' g As' X'
theorem Rd.refl {r:Bool}:Rd gl cf w k r X k r X:=λσ _ As y4 y5 h=>⟨σ,As,y4,y5,rfl,h⟩
theorem Rd.trans {k1 k2:Nat}{r r1 r2:Bool}{X1 X2:List (List Tree×List Tree)}(h1:Rd gl cf w k r X k1 r1 X1)(h2:Rd gl cf w k1 r1 X1 k2 r2 X2):Rd gl cf w k r X k2 r2 X2:=λσ g As y4 y5 h=>by
 refine x4_2 (h1 σ g As y4 y5 h) λσ1 As1 z4 z5 e1 g1=>?_
 refine x4_2 (h2 σ1 g As1 z4 z5 g1) λσ2 As2 u4 u5 e2 g2=>?_
 exact ⟨σ2,As2,u4,u5,e1.trans e2,g2⟩
theorem qa5 {r:Bool}{c:Nat}{t:List Nat}{k:V}{y5:V}:evE gl cf (.cmp .eq (.var 4) (.cStr t)) [.str w,.ref g,.bool r,k,.str [c],y5] σ = .ok (.bool ([c] == t)) σ:=by
 exact (kCmp (kVar rfl) evE_cStr rfl)
theorem qg6 {r r':Bool}{c:Nat}{X':List (List Tree×List Tree)}{k':Nat}(hw:w.length<1000000)(hk:w[k]? = some c)
  (h:∀ σ g As y5,GS σ g As X->∃ σ' As' y4' y5',exB gl cf (rdB.drop 1) [.str w,.ref g,.bool r,.int (k:Int),.str [c],y5] σ = .ok (.next,[.str w,.ref g,.bool r',.int (k':Int),y4',y5']) σ'∧GS σ' g As' X'):Rd gl cf w k r X k' r' X':=by
 intro σ g As y4 y5 hg
 have hlt:k<w.length:=(List.getElem?_eq_some_iff.mp hk).1
 refine x4_2 (h σ g As y5 hg) λσ' As' z4 z5 e hg'=>?_
 exact ⟨σ',As',z4,z5,qa7 ((qbz rfl rfl).trans (by rw [decide_eq_true hlt])) ((qab (qdz rfl rfl hk (by lia))).trans e),hg'⟩
section
variable {r:Bool} {y4 y5:V} {c:Nat}
theorem qcj:evE gl cf (.or (.cmp .eq (.var 4) (.cStr [42])) (.cmp .eq (.var 4) (.cStr [63]))) [.str w,.ref g,.bool r,.int (k:Int),.str [c],y5] σ = .ok (.bool (([c] == [42]) || ([c] == [63]))) σ:=or_bb qa5 λ_=>qa5
theorem All2.len:∀ {As:List Ad} {X:List (List Tree×List Tree)},All2 σ As X->As.length=X.length
 | [],[],_=>rfl
 | _::_,_::_,h=>congrArg (· + 1) (All2.len h.2)
theorem qxa (hgl:gl[0]? = some (.int 30))(hw:w.length<1000000)(hk:w[k]? = some 40)(hX:X.length≤30):Rd gl cf w k r X (k+1) false (([],[])::X):=by
 refine qg6 hw hk λσ g As y5 h=>⟨_,_,.str [40],y5,?_,h.opened⟩
 have hlen:vBi σ .len [.ref g]=some (.int (X.length:Int)):=by rw [qdp h.top,List.length_reverse,List.length_map,h.all.len]
 have t30:evE gl cf (.cmp .gt (.bi .len [(.var 1)]) (.glob 0)) [.str w,.ref g,.bool r,.int (k:Int),.str [40],y5] σ = .ok (.bool false) σ:=by
  exact kCmp (y:=.int 30) (σ₂:=σ) (kBi (kCons (kVar rfl) evEs_nil) hlen) (by rw [qbf,hgl];rfl) (by rw [gt_ii,decide_eq_false (show ¬ (X.length:Int) > 30 by lia)])
 have E1:=(h.ext [.lst []]).ext [.lst []]
 have E2:=E1.ext [.lst [.ref σ.length,.ref (σ.length+1)]]
 have hx:evE gl cf (.lst true [(.lst true []),(.lst true [])]) [.str w,.ref g,.bool r,.int (k:Int),.str [40],y5] σ = .ok (.ref (σ.length+2)) (σ++[.lst []]++[.lst []]++[.lst [.ref σ.length,.ref (σ.length+1)]]):=by
  have p0:∀ {σ:Sg},putL true [] σ = .ok (.ref σ.length) (σ++[.lst []]):=qhy (by simp [roomy])
  have p2:∀ {σ:Sg} {u v:V},putL true [u,v] σ = .ok (.ref σ.length) (σ++[.lst [u,v]]):=qhy (by simp [roomy])
  simp only [evE_cNone,evE_cBool,evE_cInt,evE_cStr,qa2,qbf,qb7,qc2,qb9,qb2,qbn,qb1,qbv,qbp,qca,qb8,qa3,qcl,qbg,qba,qa4,evEs_nil,qap,qbh,qbj,qad,p0,p2,List.length_append,List.length_cons,List.length_nil]
 refine qaq qcj rfl (qa6 qa5 rfl ((qac t30 rfl).trans ((qbb (qbu rfl h.top hx E2.top ?_)).trans ((qab evE_cBool).trans ((qab (qbr (n:=1) rfl)).trans exB_nil0)))))
 rw [List.length_reverse,List.length_map,h.all.len];unfold roomy;lia
end
end
end Mine.Internal
namespace Mine.Internal
theorem TakeT.head {u:List Nat}{t:Tree}(h:TakeT u t):∃ c r,u=c::r∧c≠42∧c≠63∧c≠40∧c≠41∧c≠124∧c≠93:=by
 cases h with
 | dot=>exact ⟨46,[],rfl,by decide,by decide,by decide,by decide,by decide,by decide⟩
 | wave c=>exact ⟨126,[c],rfl,by decide,by decide,by decide,by decide,by decide,by decide⟩
 | sign c hc =>
  simp only [List.mem_cons,List.not_mem_nil,or_false,not_or] at hc
  exact ⟨c,[],rfl,hc.2.2.2.1,hc.2.2.2.2.1,hc.1,hc.2.1,hc.2.2.1,hc.2.2.2.2.2.2.2.1⟩
 | set ins es hf hl h33=>exact ⟨91,_,rfl,by decide,by decide,by decide,by decide,by decide,by decide⟩
theorem TakeT.take {u:List Nat}{t:Tree}(h:TakeT u t):t.bare=false∧t.dep=1:=by
 cases h <;> exact ⟨rfl,qt2⟩
section
variable {gl:List V} {σ σ':Sg} {Γ Γ':Fm} {P:List Def} {d:Nat} {g:Nat} {a b:Ad} {As:List Ad} {x y:List Tree×List Tree} {X:List (List Tree×List Tree)} {w:List Nat} {k:Nat} {r:Bool} {c:Nat}
theorem qhu (h:GS σ g As (x::X)):∃ a As',As=a::As':=by
 cases As with
 | nil=>exact h.all.elim
 | cons a As'=>exact ⟨a,As',rfl⟩
theorem qet {cf:CF}{y5:V}{r:Bool}(h:GS σ g (a::As) (x::X)):evE gl cf (.idx (.idx (.var 1) (.neg (.cInt 1))) (.cInt 1)) [.str w,.ref g,.bool r,.int (k:Int),.str [c],y5] σ = .ok (.ref a.2.2) σ:=by
 have i1:vIdx σ (.ref a.1) (.int 1)=some (.ref a.2.2):=qck 1 (by decide) (qc1 h.all.1.1) rfl
 exact (kIdx (kIdx (kVar rfl) (kNeg evE_cInt rfl) (qgm h ..)) evE_cInt (i1 ..))
theorem qvf {cf:CF}{y5:V}{r:Bool}(h:GS σ g (a::As) (x::X)):evE gl cf (.idx (.idx (.var 1) (.neg (.cInt 1))) (.cInt 0)) [.str w,.ref g,.bool r,.int (k:Int),.str [c],y5] σ = .ok (.ref a.2.1) σ:=by
 have i1:vIdx σ (.ref a.1) (.int 0)=some (.ref a.2.1):=qck 0 (by decide) (qc1 h.all.1.1) rfl
 exact (kIdx (kIdx (kVar rfl) (kNeg evE_cInt rfl) (qgm h ..)) evE_cInt (i1 ..))
theorem qxb (H:HR P)(hw:w.length<1000000){u post:List Nat}{t:Tree}(ht:TakeT u t)(hd:w.drop k=u++post)(hx:x.2.length<1000000):Rd gl (callF gl P (d+3)) w k r (x::X) (k+u.length) true ((x.1,x.2++[t])::X):=by
 obtain ⟨c,ur,hu,n1,n2,n3,n4,n5,n6⟩:=ht.head
 refine x0_3 (qav (show w.drop k=c::(ur++post) by rw [hd,hu];rfl)) λhk _ hlt=>?_
 refine qg6 hw hk λσ g As y5 h=>?_
 refine x2_1 (qhu h) λa As' er2=>?_;subst er2
 obtain ⟨e,he⟩:=qma (gl:=gl) (d:=d+1) (σ:=σ) H hw ht hd
 have h1:=h.ext e
 refine ⟨_,_,.str [c],.tup [t.v,.int ((k+u.length:Nat):Int)],?_,h1.push (x.2++[t])⟩
 have s5:evE gl (callF gl P (d+3)) (.call 17 [(.var 0),(.var 3)]) [.str w,.ref g,.bool r,.int (k:Int),.str [c],y5] σ = .ok (.tup [t.v,.int ((k+u.length:Nat):Int)]) (σ++e):=by
  exact (kCall (kCons (kVar rfl) (kCons (kVar rfl) evEs_nil)) (he ..))
 have i0:evE gl (callF gl P (d+3)) (.idx (.var 5) (.cInt 0)) [.str w,.ref g,.bool r,.int (k:Int),.str [c],.tup [t.v,.int ((k+u.length:Nat):Int)]] (σ++e) = .ok t.v (σ++e):=by
  exact (kIdx (kVar rfl) evE_cInt rfl)
 refine qaq qcj (by rw [ne1 n1,ne1 n2];rfl) (qaq qa5 (by rw [ne1 n3];rfl) (qaq qa5 (by rw [ne1 n4];rfl) (qaq qa5 (by rw [ne1 n5];rfl) (qaq qa5 (by rw [ne1 n6];rfl)
  ((qab s5).trans ((qbb (qbu (qet h1) h1.all.1.2.2 i0 h1.all.1.2.2 (by rw [List.length_map];unfold roomy;lia))).trans ((qab evE_cBool).trans ((qab (v:=.int ((k+u.length:Nat):Int)) (tag_1 rfl)).trans ?_))))))))
 rw [List.map_append];rfl
theorem qu3 (H:HR P)(hw:w.length<1000000)(hk:w[k]? = some 41)(hx:x.1.length<1000000)(hy:y.2.length<1000000):Rd gl (callF gl P (d+3)) w k r (x::y::X) (k+1) true ((y.1,y.2++[gt x])::X):=by
 refine qg6 hw hk λσ g As y5 h=>?_
 refine x2_1 (qhu h) λa As' er2=>?_;subst er2
 obtain ⟨b,As'',rfl⟩:∃ b As'',As'=b::As'':=by
  cases As' with
  | nil=>exact h.all.2.elim
  | cons b r=>exact ⟨b,r,rfl⟩
 refine x1_2 (ql7 (gl:=gl) (d:=d) H h (by unfold roomy;lia) (by unfold roomy;lia)) λσ' he hg=>?_
 refine ⟨σ',_,.str [41],y5,?_,hg⟩
 have s1:evE gl (callF gl P (d+3)) (.call 19 [(.var 1)]) [.str w,.ref g,.bool r,.int (k:Int),.str [41],y5] σ = .ok .none σ':=by
  exact (kCall (kCons (kVar rfl) evEs_nil) (he ..))
 exact qaq qcj rfl (qaq qa5 rfl (qa6 qa5 rfl ((qbb s1).trans ((qab evE_cBool).trans ((qab (qbr (n:=1) rfl)).trans exB_nil0)))))
theorem rd_bar (H:HR P)(hw:w.length<1000000)(hk:w[k]? = some 124)(hx:x.1.length<1000000):Rd gl (callF gl P (d+3)) w k r (x::X) (k+1) false ((x.1++[rt x.2],[])::X):=by
 refine qg6 hw hk λσ g As y5 h=>?_
 refine x2_1 (qhu h) λa As' er2=>?_;subst er2
 have hr:=qne (gl:=gl) (d:=d+2) H h.all.1.2.2
 have h1:=h.alt (x.1++[rt x.2])
 refine ⟨_,_,.str [124],y5,?_,h1.fresh⟩
 have s1:evE gl (callF gl P (d+3)) (.call 14 [(.idx (.idx (.var 1) (.neg (.cInt 1))) (.cInt 1))]) [.str w,.ref g,.bool r,.int (k:Int),.str [124],y5] σ = .ok (rt x.2).v σ:=by
  exact (kCall (kCons (qet h ..) evEs_nil) (hr ..))
 have s2:=qbu (gl:=gl) (cf:=callF gl P (d+3)) (qvf (w:=w) (k:=k) (c:=124) (y5:=y5) (r:=r) h) h.all.1.2.1 s1 h.all.1.2.1 (by rw [List.length_map];unfold roomy;lia)
 rw [show (x.1.map Tree.v++[(rt x.2).v])=(x.1++[rt x.2]).map Tree.v by rw [List.map_append];rfl] at s2
 generalize hσ:σ.set a.2.1 (.lst ((x.1++[rt x.2]).map Tree.v))=σ₁ at h1 s2 ⊢
 have E:=h1.ext [.lst []]
 have s3:exS gl (callF gl P (d+3)) (.sto (.idx (.var 1) (.neg (.cInt 1))) (.cInt 1) (.lst true [])) [.str w,.ref g,.bool r,.int (k:Int),.str [124],y5] σ₁ = .ok (.next,[.str w,.ref g,.bool r,.int (k:Int),.str [124],y5]) ((σ₁++[Cell.lst []]).set a.1 (.lst [.ref a.2.1,.ref σ₁.length])):=by
  have p0:putL true [] σ₁ = .ok (.ref σ₁.length) (σ₁++[Cell.lst []]):=qhy (by simp [roomy])
  have hst:vStore (σ₁++[Cell.lst []]) (.ref a.1) (.int 1) (.ref σ₁.length)=some ((σ₁++[Cell.lst []]).set a.1 (.lst [.ref a.2.1,.ref σ₁.length])):=by
   rw [qf2,E.all.1.1];rfl
  rw [qe9]
  simp only [evE_cNone,evE_cBool,evE_cInt,evE_cStr,qa2,qbf,qb7,qc2,qb9,qb2,qbn,qb1,qbv,qbp,qca,qb8,qa3,qcl,qbg,qba,qa4,evEs_nil,qap,qbh,qbj,p0,getV,List.getElem?_cons_zero,List.getElem?_cons_succ,qam,qad,neg_i,qgm E,hst]
  rfl
 exact qaq qcj rfl (qaq qa5 rfl (qaq qa5 rfl (qa6 qa5 rfl ((qbb s2).trans ((qay s3).trans ((qab evE_cBool).trans ((qab (qbr (n:=1) rfl)).trans exB_nil0)))))))
theorem rd_rep (H:HR P)(hw:w.length<1000000){Q:List Tree}{t:Tree}(hk:w[k]? = some c)(hc:c=42∨c=63)(hb:c=42->t.bare=false)(hd:t.dep≤d+2)(hQ:Q.length<1000000) :
  Rd gl (callF gl P (d+3)) w k true ((x.1,Q++[t])::X) (k+(if w[k+1]? = some 33 then 2 else 1)) false ((x.1,Q++[rep c t (!(w[k+1]? == some 33))])::X):=by
 refine qg6 hw hk λσ g As y5 h=>?_
 refine x2_1 (qhu h) λa As' er2=>?_;subst er2
 have hr:=qh8 (gl:=gl) (d:=d+2) H h.all.1.2.2 hd hw hk hc hb hQ
 refine ⟨_,_,.str [c],y5,?_,h.push (Q++[rep c t (!(w[k+1]? == some 33))])⟩
 have s1:evE gl (callF gl P (d+3)) (.call 18 [(.idx (.idx (.var 1) (.neg (.cInt 1))) (.cInt 1)),(.var 0),(.var 3)]) [.str w,.ref g,.bool true,.int (k:Int),.str [c],y5] σ = .ok (.int ((k+(if w[k+1]? = some 33 then 2 else 1):Nat):Int)) (σ.set a.2.2 (.lst ((Q++[rep c t (!(w[k+1]? == some 33))]).map Tree.v))):=by
  exact kCall (kCons (qet h) (kCons (kVar rfl) (kCons (kVar rfl) evEs_nil))) hr
 have t1:vTrue σ (.bool (([c] == [42]) || ([c] == [63])))=some true:=by rcases hc with rfl | rfl <;> rfl
 have nt:evE gl (callF gl P (d+3)) (.not (.var 2)) [.str w,.ref g,.bool true,.int (k:Int),.str [c],y5] σ = .ok (.bool false) σ:=rfl
 exact qa6 qcj t1 ((qac nt rfl).trans ((qab s1).trans ((qab evE_cBool).trans exB_nil0)))
theorem read_s1 {cf:CF}:evE gl (cf) (.lst true [(.lst true [(.lst true []),(.lst true [])])]) [.str w,.undef,.undef,.undef,.undef,.undef] σ = .ok (.ref (σ.length+3)) (σ++[.lst []]++[.lst []]++[.lst [.ref σ.length,.ref (σ.length+1)]]++[.lst [.ref (σ.length+2)]]):=by
 have p0:∀ {σ:Sg},putL true [] σ = .ok (.ref σ.length) (σ++[.lst []]):=qhy (by simp [roomy])
 have p2:∀ {σ:Sg} {u v:V},putL true [u,v] σ = .ok (.ref σ.length) (σ++[.lst [u,v]]):=qhy (by simp [roomy])
 have p1:∀ {σ:Sg} {u:V},putL true [u] σ = .ok (.ref σ.length) (σ++[.lst [u]]):=qhy (by simp [roomy])
 simp only [evE_cNone,evE_cBool,evE_cInt,evE_cStr,qa2,qbf,qb7,qc2,qb9,qb2,qbn,qb1,qbv,qbp,qca,qb8,qa3,qcl,qbg,qba,qa4,evEs_nil,qap,qbh,qbj,qad,p0,p1,p2,List.length_append,List.length_cons,List.length_nil]
theorem qm1:GS (σ++[Cell.lst []]++[Cell.lst []]++[Cell.lst [.ref σ.length,.ref (σ.length+1)]]++[Cell.lst [.ref (σ.length+2)]]) (σ.length+3) [(σ.length+2,σ.length,σ.length+1)] [([],[])]:=by
 refine ⟨by simp,⟨⟨by simp,by simp,by simp⟩,trivial⟩,?_⟩
 simp only [qey,qez,List.nodup_cons,List.mem_cons,List.not_mem_nil,or_false,not_or]
 exact ⟨⟨by lia,by lia,by lia⟩,⟨by lia,by lia⟩,by lia,not_false,List.nodup_nil⟩
theorem qq5 (H:HR P)(hw:w.length<1000000){r':Bool}(h:Rd gl (callF gl P (d+3)) w 0 false [([],[])] w.length r' [x])(hx:x.1.length<1000000):∃ σ',callF gl P (d+4) 20 [.str w] σ = .ok (gt x).v σ':=by
 refine x4_2 (h _ _ _ .undef .undef (qm1 (σ:=σ))) λσ' As' y4 y5 he hg'=>?_
 refine x2_1 (qhu hg') λa As'' er2=>?_;subst er2
 have hAs:As''=[]:=by
  cases As'' with
  | nil=>rfl
  | cons _ _=>exact hg'.all.2.elim
 subst hAs
 have hend:exS gl (callF gl P (d+3)) rdW [.str w,.ref (σ.length+3),.bool r',.int (w.length:Int),y4,y5] σ' = .ok (.next,[.str w,.ref (σ.length+3),.bool r',.int (w.length:Int),y4,y5]) σ' :=
  qb4 ((qbz rfl rfl).trans (by rw [decide_eq_false (Nat.lt_irrefl _)]))
 have hlen:vBi σ' .len [.ref (σ.length+3)]=some (.int 1):=by rw [qdp hg'.top];rfl
 have i0:vIdx σ' (.ref (σ.length+3)) (.int 0)=some (.ref a.1):=qck 0 (by decide) (qc1 hg'.top) rfl
 have hgr:=qhk (gl:=gl) (d:=d+1) H hg'.all.1 (by unfold roomy;lia)
 refine ⟨σ',qaf (D:=d_read) H.rd rfl ((qab read_s1).trans ((qab evE_cBool).trans ((qab evE_cInt).trans ((qay (he.trans hend)).trans ((qac (v:=.bool false) (σ':=σ') ?_ rfl).trans (qae (σ':=σ') ?_))))))⟩
 ·exact (kCmp (kBi (kCons (kVar rfl) evEs_nil) (hlen ..)) evE_cInt rfl)
 ·exact (kCall (kCons (kIdx (kVar rfl) evE_cInt (i0 ..)) evEs_nil) (hgr ..))
end
end Mine.Internal
namespace Mine.Internal
inductive Sp where
 | fin
 | take (b:Bool) (s:List Nat) (n:Nat)
 | part (x y:Nat)
noncomputable def Sp.v:Sp->V
 | .fin=>.tup [.str [101,110,100]]
 | .take b s n=>.tup [.str [116,97,107,101],.bool b,.str s,.int (n:Int)]
 | .part x y=>.tup [.str [112,97,114,116],.int (x:Int),.int (y:Int)]
theorem qwl {Γ:Fm}{i:Nat}{x:Sp}(h:Γ[i]? = some x.v):getV Γ i=some x.v:=by
 rw [getV,h];cases x <;> rfl
noncomputable def partE (e:Bool)(i n:Nat):Sp:=if e then .part i n else .part n i
noncomputable def pk:Nat->List Nat->List Sp->List Sp×Nat
 | a,[],S=>(S,a)
 | a,b::r,S=>((pk b r S).1++[.part a (pk b r S).2],(pk b r S).1.length)
theorem pk_e2:∀ (x:Nat) (x_1:List Sp) (b:Nat) (r:List Nat),pk x (b::r) x_1=(Prod.fst (pk b r x_1)++[Sp.part x (Prod.snd (pk b r x_1))],List.length (Prod.fst (pk b r x_1))):=by intros;rfl
noncomputable def pkL (n:Nat):List Sp×List Nat->List Sp×Nat
 | (S,[])=>(S,n)
 | (S,a::r)=>pk a r S
mutual
noncomputable def Tree.led:Tree->List Sp->Nat->List Sp×Nat
 | .take b s,S,n=>(S++[.take b s n],S.length)
 | .row ts,S,n=>Tree.ledR ts S n
 | .pick ts,S,n=>pkL n (Tree.ledP ts S n)
 | .maybe t e,S,n=>((t.led S n).1++[partE e (t.led S n).2 n],(t.led S n).1.length)
 | .many t e,S,n=>((t.led (S++[.fin]) S.length).1.set S.length (partE e (t.led (S++[.fin]) S.length).2 n),S.length)
noncomputable def Tree.ledR:List Tree->List Sp->Nat->List Sp×Nat
 | [],S,n=>(S,n)
 | t::r,S,n=>t.led (Tree.ledR r S n).1 (Tree.ledR r S n).2
noncomputable def Tree.ledP:List Tree->List Sp->Nat->List Sp×List Nat
 | [],S,_=>(S,[])
 | t::r,S,n=>((Tree.ledP r (t.led S n).1 n).1,(t.led S n).2::(Tree.ledP r (t.led S n).1 n).2)
end
theorem qcm:∀ (x:List Sp) (x_1:Nat) (b:Bool) (s:List Nat),Tree.led (Tree.take b s) x x_1=(x++[Sp.take b s x_1],List.length x):=by intros;rfl
theorem qcn:∀ (x:List Sp) (x_1:Nat) (ts:List Tree),Tree.led (Tree.row ts) x x_1=Tree.ledR ts x x_1:=by intros;rfl
theorem qcp:∀ (x:List Sp) (x_1:Nat) (ts:List Tree),Tree.led (Tree.pick ts) x x_1=pkL x_1 (Tree.ledP ts x x_1):=by intros;rfl
theorem qc8:∀ (x:List Sp) (x_1:Nat) (t:Tree) (e:Bool),Tree.led (Tree.maybe t e) x x_1=(Prod.fst (Tree.led t x x_1)++[partE e (Prod.snd (Tree.led t x x_1)) x_1],List.length (Prod.fst (Tree.led t x x_1))):=by intros;rfl
theorem qc9:∀ (x:List Sp) (x_1:Nat) (t:Tree) (e:Bool),Tree.led (Tree.many t e) x x_1=(List.set (Prod.fst (Tree.led t (x++[Sp.fin]) (List.length x))) (List.length x) (partE e (Prod.snd (Tree.led t (x++[Sp.fin]) (List.length x))) x_1),List.length x):=by intros;rfl
theorem qcw:∀ (x:List Sp) (x_1:Nat),Tree.ledR [] x x_1=(x,x_1):=by intros;rfl
theorem qcd:∀ (x:List Sp) (x_1:Nat) (t:Tree) (r:List Tree),Tree.ledR (t::r) x x_1=Tree.led t (Prod.fst (Tree.ledR r x x_1)) (Prod.snd (Tree.ledR r x x_1)):=by intros;rfl
theorem qcb:∀ (x:List Sp) (x_1:Nat),Tree.ledP [] x x_1=(x,[]):=by intros;rfl
theorem qcc:∀ (x:List Sp) (x_1:Nat) (t:Tree) (r:List Tree),Tree.ledP (t::r) x x_1=(Prod.fst (Tree.ledP r (Prod.fst (Tree.led t x x_1)) x_1),Prod.snd (Tree.led t x x_1)::Prod.snd (Tree.ledP r (Prod.fst (Tree.led t x x_1)) x_1)):=by intros;rfl
theorem qpd:∀ (a:Nat) (r:List Nat) (S:List Sp),(pk a r S).1.length=S.length+r.length
 | a,[],S=>rfl
 | a,b::r,S=>by rw [pk_e2,List.length_append,qpd b r S];simp only [List.length_cons,List.length_nil];lia
mutual
theorem qdw:∀ (t:Tree) (S:List Sp) (n:Nat),t.Ok->((t.led S n).1.length:Int)=S.length+t.cnt
 | .take b s,S,n,_=>by rw [qcm,qeu,List.length_append];rfl
 | .row ts,S,n,h=>by rw [qcn,qev];rw [qc5] at h;exact qjt ts S n h.2
 | .pick ts,S,n,h=>by
  rw [qcp,qdt];rw [qc6] at h
  obtain ⟨e1,e2⟩:=qfc ts S n h.2
  generalize Tree.ledP ts S n=p at e1 e2 ⊢
  obtain ⟨S',fs⟩:=p
  cases fs with
  | nil=>have:=h.1.1;rw [← e2] at this;simp at this
  | cons a r=>rw [pkL,qpd];exact y36 e1 e2
 | .maybe t e,S,n,h=>by rw [qc8,qew,List.length_append];rw [qef] at h;have:=qdw t S n h;show ((t.led S n).1.length:Int)+1=_;rw [this,Int.add_assoc]
 | .many t e,S,n,h=>by
  rw [qc9,qex,List.length_set];rw [qeg] at h
  have:=qdw t (S++[.fin]) S.length h.1
  rw [List.length_append] at this
  simp only [List.length_cons,List.length_nil] at this;lia
theorem qjt:∀ (ts:List Tree) (S:List Sp) (n:Nat),Tree.Oks ts->((Tree.ledR ts S n).1.length:Int)=S.length+Tree.cnts ts
 | [],S,n,_=>by rw [qcw,qbd];show (S.length:Int)=_;lia
 | t::r,S,n,h=>by
  rw [qcd,qbe];rw [qa9] at h
  have h1:=qjt r S n h.2
  have h2:=qdw t (Tree.ledR r S n).1 (Tree.ledR r S n).2 h.1
  exact y35 h1 h2
theorem qfc:∀ (ts:List Tree) (S:List Sp) (n:Nat),Tree.Oks ts->((Tree.ledP ts S n).1.length:Int)=S.length+Tree.cnts ts∧(Tree.ledP ts S n).2.length=ts.length
 | [],S,n,_=>by rw [qcb,qbd];exact ⟨by show (S.length:Int)=_;lia,rfl⟩
 | t::r,S,n,h=>by
  rw [qcc,qbe];rw [qa9] at h
  have h2:=qdw t S n h.1
  obtain ⟨h1,h3⟩:=qfc r (t.led S n).1 n h.2
  exact ⟨by show (((Tree.ledP r (t.led S n).1 n).1.length:Nat):Int)=_;exact y34 h2 h1,by rw [List.length_cons,h3,List.length_cons]⟩
end
noncomputable def Sp.below (k:Nat):Sp->Prop
 | .fin=>True
 | .take _ _ n=>n<k
 | .part x y=>x<k∧y<k
noncomputable def Wf (S:List Sp):Prop:=∀ x∈S,x.below S.length
theorem Sp.below_le {k m:Nat}(h:k≤m){x:Sp}(hx:x.below k):x.below m:=by
 cases x with
 | fin=>trivial
 | take b s n=>exact Nat.lt_of_lt_of_le hx h
 | part x y=>exact ⟨Nat.lt_of_lt_of_le hx.1 h,Nat.lt_of_lt_of_le hx.2 h⟩
theorem Wf.snoc {S:List Sp}{x:Sp}(h:Wf S)(hx:x.below (S.length+1)):Wf (S++[x]):=by
 intro y hy
 rw [List.length_append]
 rcases List.mem_append.mp hy with q | q
 ·exact Sp.below_le (Nat.le_add_right _ _) (h y q)
 ·rw [List.mem_singleton.mp q];exact hx
theorem Wf.put {S:List Sp}{x:Sp}{k:Nat}(h:Wf S)(hx:x.below S.length):Wf (S.set k x):=by
 intro y hy
 rw [List.length_set]
 rcases List.mem_or_eq_of_mem_set hy with q | q
 ·exact h y q
 ·rw [q];exact hx
theorem qg5 {e:Bool}{i n k:Nat}(h1:i<k)(h2:n<k):(partE e i n).below k:=by cases e <;> exact ⟨by assumption,by assumption⟩
theorem pk_wf:∀ (a:Nat) (r:List Nat) {S:List Sp},Wf S->(∀ x∈a::r,x<S.length)->Wf (pk a r S).1∧(pk a r S).2<(pk a r S).1.length∧S.length≤(pk a r S).1.length
 | a,[],S,h,ha=>⟨h,ha a List.mem_cons_self,Nat.le_refl _⟩
 | a,b::r,S,h,ha=>by
  refine x0_3 (pk_wf b r h λx hx=>ha x (List.mem_cons_of_mem _ hx)) λh1 h2 h3=>?_
  rw [pk_e2]
  have:=ha a List.mem_cons_self
  rw [List.length_append]
  exact ⟨h1.snoc ⟨Nat.lt_succ_of_lt (Nat.lt_of_lt_of_le this h3),Nat.lt_succ_of_lt h2⟩,Nat.lt_succ_self _,Nat.le_succ_of_le h3⟩
mutual
theorem qld:∀ (t:Tree) {S:List Sp} {n:Nat},Wf S->n<S.length->Wf (t.led S n).1∧(t.led S n).2<(t.led S n).1.length∧S.length≤(t.led S n).1.length
 | .take b s,S,n,h,hn=>by
  rw [qcm,List.length_append]
  exact ⟨h.snoc (Nat.lt_succ_of_lt hn),Nat.lt_succ_self _,Nat.le_succ _⟩
 | .row ts,S,n,h,hn=>by rw [qcn];exact qse ts h hn
 | .pick ts,S,n,h,hn=>by
  rw [qcp]
  refine x0_3 (qsd ts h hn) λh1 h2 h3=>?_
  generalize Tree.ledP ts S n=p at h1 h2 h3 ⊢
  obtain ⟨S',fs⟩:=p
  cases fs with
  | nil=>exact ⟨h1,Nat.lt_of_lt_of_le hn h3,h3⟩
  | cons a r =>
   refine x0_3 (pk_wf a r h1 h2) λg1 g2 g3=>?_
   exact ⟨g1,g2,Nat.le_trans h3 g3⟩
 | .maybe t e,S,n,h,hn=>by
  rw [qc8,List.length_append]
  refine x0_3 (qld t h hn) λh1 h2 h3=>?_
  exact ⟨h1.snoc (qg5 (Nat.lt_succ_of_lt h2) (Nat.lt_succ_of_lt (Nat.lt_of_lt_of_le hn h3))),Nat.lt_succ_self _,Nat.le_succ_of_le h3⟩
 | .many t e,S,n,h,hn=>by
  rw [qc9,List.length_set]
  refine x0_3 (qld t (S:=S++[.fin]) (n:=S.length) (h.snoc (x:=.fin) trivial) (by simp)) λh1 h2 h3=>?_
  rw [List.length_append] at h3
  have h4:S.length<(t.led (S++[.fin]) S.length).1.length:=h3
  exact ⟨h1.put (qg5 h2 (Nat.lt_trans hn h4)),h4,Nat.le_of_lt h4⟩
theorem qse:∀ (ts:List Tree) {S:List Sp} {n:Nat},Wf S->n<S.length->Wf (Tree.ledR ts S n).1∧(Tree.ledR ts S n).2<(Tree.ledR ts S n).1.length∧S.length≤(Tree.ledR ts S n).1.length
 | [],S,n,h,hn=>by rw [qcw];exact ⟨h,hn,Nat.le_refl _⟩
 | t::r,S,n,h,hn=>by
  rw [qcd]
  refine x0_3 (qse r h hn) λh1 h2 h3=>?_
  refine x0_3 (qld t h1 h2) λg1 g2 g3=>?_
  exact ⟨g1,g2,Nat.le_trans h3 g3⟩
theorem qsd:∀ (ts:List Tree) {S:List Sp} {n:Nat},Wf S->n<S.length->Wf (Tree.ledP ts S n).1∧(∀ x∈(Tree.ledP ts S n).2,x<(Tree.ledP ts S n).1.length)∧S.length≤(Tree.ledP ts S n).1.length
 | [],S,n,h,hn=>by rw [qcb];exact ⟨h,λx hx=>(List.not_mem_nil hx).elim,Nat.le_refl _⟩
 | t::r,S,n,h,hn=>by
  rw [qcc]
  refine x0_3 (qld t h hn) λg1 g2 g3=>?_
  refine x0_3 (qsd r g1 (Nat.lt_of_lt_of_le hn g3)) λh1 h2 h3=>?_
  refine ⟨h1,λx hx=>?_,Nat.le_trans g3 h3⟩
  rcases List.mem_cons.mp hx with q | q
  ·rw [q];exact Nat.lt_of_lt_of_le g2 h3
  ·exact h2 x q
end
end Mine.Internal
namespace Mine.Internal
theorem at_get {α:Type}{A B:List α}{c:α}:(A++c::B)[A.length]? = some c:=by simp
theorem qhg {α:Type}{A B:List α}{c c':α}:(A++c::B).set A.length c'=A++c'::B:=by simp
noncomputable def cel (S:List Sp):Cell:=.lst (S.map Sp.v)
structure HN0 (P:List Def):Prop where
 pt:P[38]? = some d_put
 ld:P[39]? = some d_led
 pc:P[40]? = some d_picked
 pd:P[41]? = some d_parted
structure HN (P:List Def):Prop where
 no:P[42]? = some d_net_of
 n:HN0 P
section
variable {gl:List V} {cf:CF} {σ σ':Sg} {Γ Γ':Fm} {P:List Def} {d:Nat} {A B:Sg}
theorem qkp (H:HN0 P){S:List Sp}{x:Sp}(hS:S.length<roomy):callF gl P (d+1) 38 [.ref A.length,x.v] (A++cel S::B) = .ok (.int (S.length:Int)) (A++cel (S++[x])::B):=by
 have e1:evE gl (callF gl P d) (.app (.var 0) (.var 1)) [.ref A.length,x.v] (A++cel S::B) = .ok .none (A++cel (S++[x])::B):=by
  have h:=qbu (gl:=gl) (cf:=callF gl P d) (o:=.var 0) (x:=.var 1) (Γ:=[.ref A.length,x.v]) (σ:=A++cel S::B) (σ₁:=A++cel S::B) (i:=A.length) (xs:=S.map Sp.v) (ys:=S.map Sp.v) (v:=x.v) rfl at_get (by rw [qa2,qwl (Γ:=[.ref A.length,x.v]) (i:=1) rfl];rfl) at_get (by rw [List.length_map];exact hS)
  rw [qhg] at h
  rw [h,cel,List.map_append];rfl
 refine qaf (D:=d_put) (Γ':=[.ref A.length,x.v]) H.pt rfl ((qbb e1).trans (qae (σ':=A++cel (S++[x])::B) ?_))
 have hl:=qdp (σ:=A++cel (S++[x])::B) (i:=A.length) at_get
 refine (kBin (kBi (kCons (kVar rfl) evEs_nil) hl) evE_cInt rfl).trans ?_
 rw [List.length_map,List.length_append]
 simp
theorem ql9 (H:HN0 P){i n:Nat}{e:Bool}:callF gl P (d+1) 41 [.int (i:Int),.int (n:Int),.bool e] σ = .ok (partE e i n).v σ:=by
 cases e with
 | true=>exact qaf (D:=d_parted) (Γ':=[.int (i:Int),.int (n:Int),.bool true]) H.pd rfl (qak (v:=.bool true) (σ':=σ) rfl rfl (qae (σ':=σ) (by
   exact (kTup (kCons evE_cStr (kCons (kVar rfl) (kCons (kVar rfl) evEs_nil))) roomy3))))
 | false=>exact qaf (D:=d_parted) (Γ':=[.int (i:Int),.int (n:Int),.bool false]) H.pd rfl ((qac (v:=.bool false) (σ':=σ) rfl rfl).trans (qae (σ':=σ) (by
   exact (kTup (kCons evE_cStr (kCons (kVar rfl) (kCons (kVar rfl) evEs_nil))) roomy3))))
theorem qgu {body:Fm->Sg->Res (Fl×Fm)}{i:Nat}{Y:List V}:∀ {X:List V} {Γ:Fm} {σ:Sg},forGo body i X Γ σ = .ok (.next,Γ') σ'->forGo body i (X++Y) Γ σ=forGo body i Y Γ' σ'
 | [],Γ,σ,h=>by rw [forGo_nil] at h;cases h;rfl
 | x::r,Γ,σ,h=>by
  rw [List.cons_append,qc7]
  rw [qc7] at h
  refine x2_2 (qbm h) λp σ₁ h1 h=>?_
  rw [h1,qad]
  obtain ⟨f,Γ₁⟩:=p
  cases f with
  | next=>exact qgu (X:=r) h
  | ret v=>cases h
noncomputable def LedAt (gl:List V)(cf:CF)(t:Tree):Prop:=∀ (A B:Sg) (S:List Sp) (n:Nat),(S.length:Int)+t.cnt≤100000->cf 39 [.ref A.length,t.v,.int (n:Int)] (A++cel S::B) = .ok (.int ((t.led S n).2:Int)) (A++cel (t.led S n).1::B)
theorem qpk {a1 y4 y5:V}:∀ (ts:List Tree) (S:List Sp) (n:Nat) (y3:V),Tree.Oks ts->(∀ t∈ts,LedAt gl cf t)->(S.length:Int)+Tree.cnts ts≤100000 ->
  ∃ y3',forGo (exB gl cf [.asg 2 (.call 39 [(.var 0),(.var 3),(.var 2)])]) 3 (ts.map Tree.v).reverse [.ref A.length,a1,.int (n:Int),y3,y4,y5] (A++cel S::B)
   = .ok (.next,[.ref A.length,a1,.int ((Tree.ledR ts S n).2:Int),y3',y4,y5]) (A++cel (Tree.ledR ts S n).1::B)
 | [],S,n,y3,_,_,_=>⟨y3,by rw [qcw];rfl⟩
 | t::r,S,n,y3,ok,h,hn=>by
  rw [qa9] at ok
  rw [qbe] at hn
  have hc:=qhm t ok.1
  have hl:=qjt r S n ok.2
  obtain ⟨y,ih⟩:=qpk r S n y3 ok.2 (λu hu=>h u (List.mem_cons_of_mem _ hu)) (by lia)
  refine ⟨t.v,?_⟩
  rw [List.map_cons,List.reverse_cons,qgu ih,qcd]
  generalize Tree.ledR r S n=q at hl ⊢
  rw [qce (Γ':=[.ref A.length,a1,.int ((t.led q.1 q.2).2:Int),t.v,y4,y5]) (σ':=A++cel (t.led q.1 q.2).1::B) ((qab (v:=.int ((t.led q.1 q.2).2:Int)) ?_).trans exB_nil0),forGo_nil]
  have hv:=qgw (Γ:=[.ref A.length,a1,.int (q.2:Int),t.v,y4,y5]) (i:=3) (t:=t) rfl
  simp only [List.set_cons_succ,List.set_cons_zero,evE_cNone,evE_cBool,evE_cInt,evE_cStr,qa2,qbf,qb7,qc2,qb9,qb2,qbn,qb1,qbv,qbp,qca,qb8,qa3,qcl,qbg,qba,qa4,evEs_nil,qap,qbh,qbj,hv,qam,qad]
  simp only [getV,List.getElem?_cons_zero,List.getElem?_cons_succ,qam,qad,h t List.mem_cons_self A B q.1 q.2 (z9 hn hl)]
theorem qlk {a1 y3 y4 y5:V}{n:Nat}:∀ (ts:List Tree) (S:List Sp) (acc:List V),Tree.Oks ts->(∀ t∈ts,LedAt gl cf t)->(S.length:Int)+Tree.cnts ts≤100000 ->
  compGo (evT gl cf none) (evE gl cf (.call 39 [(.var 0),(.var 6),(.var 2)])) [.ref A.length,a1,.int (n:Int),y3,y4,y5] (ts.map Tree.v) acc (A++cel S::B) = .ok (acc++(Tree.ledP ts S n).2.map λ(k:Nat)=>V.int (k:Int)) (A++cel (Tree.ledP ts S n).1::B)
 | [],S,acc,_,_,_=>by rw [qcb,List.map_nil,List.map_nil,List.append_nil];rfl
 | t::r,S,acc,ok,h,hn=>by
  rw [qa9] at ok
  rw [qbe] at hn
  have hc:=qhm t ok.1
  have hc':=qgr r ok.2
  have hl:=qdw t S n ok.1
  rw [List.map_cons,qdb,qnr,qad,if_pos rfl,qcc]
  have hv:=qgw (Γ:=[.ref A.length,a1,.int (n:Int),y3,y4,y5]++[t.v]) (i:=6) (t:=t) rfl
  have he:evE gl cf (.call 39 [(.var 0),(.var 6),(.var 2)]) ([.ref A.length,a1,.int (n:Int),y3,y4,y5]++[t.v]) (A++cel S::B) = .ok (.int ((t.led S n).2:Int)) (A++cel (t.led S n).1::B):=by
   exact kCall (kCons (kVar rfl) (kCons (kVar hv) (kCons (kVar rfl) evEs_nil))) (h t List.mem_cons_self A B S n (by lia))
  rw [he,qad,qlk r (t.led S n).1 _ ok.2 (λu hu=>h u (List.mem_cons_of_mem _ hu)) (z8 hn hl)]
  simp
theorem qlm (hp:∀ (A B:Sg) (S:List Sp) (x:Sp),S.length<roomy->cf 38 [.ref A.length,x.v] (A++cel S::B) = .ok (.int (S.length:Int)) (A++cel (S++[x])::B)){a1 a2 a3:V}{S:List Sp} :
  ∀ (a:Nat) (r:List Nat) (l y5:V),((a::r).map λ(k:Nat)=>V.int (k:Int)).getLast? = some l->S.length+r.length<roomy->∃ y5',forGo (exB gl cf [.asg 4 (.call 38 [(.var 0),(.tup [(.cStr [112,97,114,116]),(.var 5),(.var 4)])])]) 5 (((a::r).map λ(k:Nat)=>V.int (k:Int)).dropLast).reverse [.ref A.length,a1,a2,a3,l,y5] (A++cel S::B)
   = .ok (.next,[.ref A.length,a1,a2,a3,.int ((pk a r S).2:Int),y5']) (A++cel (pk a r S).1::B)
 | a,[],l,y5,hl,_=>by
  refine ⟨y5,?_⟩
  cases hl
  rfl
 | a,b::r,l,y5,hl,hn=>by
  rw [List.length_cons] at hn
  obtain ⟨y,ih⟩:=qlm hp (S:=S) (a1:=a1) (a2:=a2) (a3:=a3) b r l y5 (by rw [List.map_cons,List.map_cons,List.getLast?_cons_cons] at hl;exact hl) (Nat.lt_of_succ_lt hn)
  refine ⟨.int (a:Int),?_⟩
  have hk:=qpd b r S
  rw [show ((a::b::r).map λ(k:Nat)=>V.int (k:Int)).dropLast = .int (a:Int)::((b::r).map λ(k:Nat)=>V.int (k:Int)).dropLast from rfl,List.reverse_cons,qgu ih,pk_e2]
  generalize pk b r S=q at hk ⊢
  rw [qce (Γ':=[.ref A.length,a1,a2,a3,.int (q.1.length:Int),.int (a:Int)]) (σ':=A++cel (q.1++[.part a q.2])::B) ((qab (v:=.int (q.1.length:Int)) ?_).trans exB_nil0),forGo_nil]
  exact (kCall (kCons (kVar rfl) (kCons (kTup (kCons evE_cStr (kCons (kVar rfl) (kCons (kVar rfl) evEs_nil))) roomy3) evEs_nil)) (hp A B q.1 (.part a q.2) (by rw [hk];exact Nat.lt_of_succ_lt hn) ..))
theorem qmh {f:Nat->V}(a:Nat)(r:List Nat):∃ l,((a::r).map f).getLast? = some (f l):=by
 refine ⟨(a::r).getLast (by simp),?_⟩
 rw [List.getLast?_map,List.getLast?_eq_some_getLast (by simp)];rfl
theorem qmy (hp:∀ (A B:Sg) (S:List Sp) (x:Sp),S.length<roomy->cf 38 [.ref A.length,x.v] (A++cel S::B) = .ok (.int (S.length:Int)) (A++cel (S++[x])::B))
  (ts:List Tree) (S:List Sp) (n:Nat) (ok:(Tree.pick ts).Ok) (h:∀ t∈ts,LedAt gl cf t) (hn:(S.length:Int)+(Tree.pick ts).cnt≤100000) :
  ∃ Γ,exB gl cf d_picked.body [.ref A.length,.tup (ts.map Tree.v),.int (n:Int),.undef,.undef,.undef] (A++cel S::B) = .ok (.ret (.int (((Tree.pick ts).led S n).2:Int)),Γ) (A++cel ((Tree.pick ts).led S n).1::B):=by
 rw [qdt] at hn
 rw [qc6] at ok
 have hnn:=qgr ts ok.2
 obtain ⟨l1,l2⟩:=qfc ts S n ok.2
 have hc:=qlk (gl:=gl) (cf:=cf) (A:=A) (B:=B) (a1:=.tup (ts.map Tree.v)) (y3:=.undef) (y4:=.undef) (y5:=.undef) (n:=n) ts S [] ok.2 h (z11 ok.1.1 hn)
 rw [qcp]
 generalize Tree.ledP ts S n=q at l1 l2 hc ⊢
 obtain ⟨S',fs⟩:=q
 cases fs with
 | nil=>have:=ok.1.1;rw [← l2] at this;simp at this
 | cons a r =>
 rw [pkL]
 dsimp only at l1 l2 hc
 rw [List.length_cons] at l2
 obtain ⟨l,hl⟩:=qmh (f:=λ(k:Nat)=>V.int (k:Int)) a r
 obtain ⟨y5,hlp⟩:=qlm (gl:=gl) (A:=A) (B:=B) hp (a1:=.tup (ts.map Tree.v)) (a2:=.int (n:Int)) (a3:=.lst ((a::r).map λ(k:Nat)=>V.int (k:Int))) (S:=S') a r (.int (l:Int)) .undef hl (z6 hn l1 l2)
 refine ⟨_,(qab (v:=.lst ((a::r).map λ(k:Nat)=>V.int (k:Int))) (σ':=A++cel S'::B) ?_).trans ((qab (v:=.int (l:Int)) (σ':=A++cel S'::B) ?_).trans ((qay ((qe1 (x:=.lst ((a::r).map λ(k:Nat)=>V.int (k:Int)).dropLast) (y:=.none) (σ₁:=A++cel S'::B) (σ₂:=A++cel S'::B) ?_ evE_cNone rfl).trans hlp)).trans (qae rfl)))⟩
 ·rw [qgt,qa2,show getV [.ref A.length,.tup (ts.map Tree.v),.int (n:Int),.undef,.undef,.undef] 1=some (.tup (ts.map Tree.v)) from rfl,qam,qad,evE_cNone,qad,show vItems .val (.tup (ts.map Tree.v)) .none=some (ts.map Tree.v) from rfl,qam,qad,hc,qad,List.nil_append,qpf (by rw [List.length_map,List.length_cons];exact u3 (Nat.le_trans (Nat.le_of_eq l2) ok.1.2) (by decide))]
 ·have hg:=qdj (σ:=A++cel S'::B) (v:=.lst ((a::r).map λ(k:Nat)=>V.int (k:Int))) (i:=-1) rfl rfl hl
  exact (kIdx (kVar rfl) (kNeg evE_cInt rfl) (hg ..))
 ·have hg:=qpt (σ:=A++cel S'::B) (xs:=(a::r).map λ(k:Nat)=>V.int (k:Int)) (lo:=none) (hi:=some (-1)) rfl rfl
  simp only [List.set_cons_succ,List.set_cons_zero,evE_cNone,evE_cBool,evE_cInt,evE_cStr,qa2,qbf,qb7,qc2,qb9,qb2,qbn,qb1,qbv,qbp,qca,qb8,qa3,qcl,qbg,qba,qa4,evEs_nil,qap,qbh,qbj,getV,List.getElem?_cons_zero,List.getElem?_cons_succ,qam,qad,neg_i,qv8,hg,qvq]
theorem tagc {s w:List Nat}{r:List V}{i:Nat}(h:Γ[i]? = some (.tup (.str s::r))):evE gl cf (.cmp .eq (.idx (.var i) (.cInt 0)) (.cStr w)) Γ σ = .ok (.bool (s == w)) σ:=by
 have hv:getV Γ i=some (.tup (.str s::r)):=by
  show (match Γ[i]? with | some .undef=>none | o=>o)=_
  rw [h]
 exact (kCmp (kIdx (kVar (hv ..)) evE_cInt (idx_t0 ..)) evE_cStr rfl)
theorem qul (H:∀ {A B:Sg} {S:List Sp} {x:Sp},S.length<roomy->cf 38 [.ref A.length,x.v] (A++cel S::B) = .ok (.int (S.length:Int)) (A++cel (S++[x])::B))
  (hpd:∀ {i n:Nat} {e:Bool} {σ:Sg},cf 41 [.int (i:Int),.int (n:Int),.bool e] σ = .ok (partE e i n).v σ)
  (t:Tree) (S:List Sp) (n:Nat) (ok:t.Ok) (hk:∀ u:Tree,u.Ok->u.dep<t.dep->LedAt gl cf u)
  (hpk:∀ ts:List Tree,(Tree.pick ts)=t->cf 40 [.ref A.length,.tup (ts.map Tree.v),.int (n:Int)] (A++cel S::B) = .ok (.int (((Tree.pick ts).led S n).2:Int)) (A++cel ((Tree.pick ts).led S n).1::B))
  (hn:(S.length:Int)+t.cnt≤100000) :
  ∃ Γ,exB gl cf d_led.body [.ref A.length,t.v,.int (n:Int),.undef,.undef,.undef] (A++cel S::B) = .ok (.ret (.int ((t.led S n).2:Int)),Γ) (A++cel (t.led S n).1::B):=by
 cases t with
 | take b s =>
  rw [qeu] at hn
  refine ⟨_,qak (tagc rfl) rfl (qae ?_)⟩
  rw [qcm,v_take]
  exact (kCall (kCons (kVar rfl) (kCons (kTup (kCons evE_cStr (kCons (kIdx (kVar rfl) evE_cInt rfl) (kCons (kIdx (kVar rfl) evE_cInt rfl) (kCons (kVar rfl) evEs_nil)))) roomy4) evEs_nil)) (H (x:=.take b s n) (by unfold roomy;lia) ..))
 | row ts =>
  rw [qev] at hn
  obtain ⟨y3,hlp⟩:=qpk (gl:=gl) (cf:=cf) (A:=A) (B:=B) (a1:=.tup [.str [114,111,119],.tup (ts.map Tree.v)]) (y4:=.undef) (y5:=.undef) ts S n .undef (by rw [qc5] at ok;exact ok.2) (λu hu=>hk u ((qsr.mp ok).2 u hu) (by rw [qjf];have:=qgs hu;lia)) hn
  rw [v_row,qcn]
  refine ⟨_,(qac (tagc rfl) rfl).trans (qak (tagc rfl) rfl ((qay ((qe1 (x:=.tup (ts.map Tree.v)) (y:=.none) (σ₁:=A++cel S::B) (σ₂:=A++cel S::B) ?_ evE_cNone rfl).trans hlp)).trans (qae rfl)))⟩
  exact (kIdx (kVar rfl) evE_cInt rfl)
 | pick ts =>
  rw [qtm]
  refine ⟨_,(qac (tagc rfl) rfl).trans ((qac (tagc rfl) rfl).trans (qak (tagc rfl) rfl (qae ?_)))⟩
  exact (kCall (kCons (kVar rfl) (kCons (kIdx (kVar rfl) evE_cInt rfl) (kCons (kVar rfl) evEs_nil))) (hpk ts rfl ..))
 | maybe t e =>
  have hv:∀ {j:Int} {x:V},vIdx (A++cel S::B) (.tup [.str [109,97,121,98,101],t.v,.bool e]) (.int j)=some x->evE gl cf (.idx (.var 1) (.cInt j)) [.ref A.length,.tup [.str [109,97,121,98,101],t.v,.bool e],.int (n:Int),.undef,.undef,.undef] (A++cel S::B) = .ok x (A++cel S::B):=λh=>by
   exact (kIdx (kVar rfl) evE_cInt (h ..))
  rw [qew] at hn
  rw [qef] at ok
  have hl:=qdw t S n ok
  have h1:=hk t ok (by rw [qky];lia) A B S n (by lia)
  rw [v_maybe,qc8]
  generalize t.led S n=q at hl h1 ⊢
  refine ⟨_,(qac (tagc rfl) rfl).trans ((qac (tagc rfl) rfl).trans ((qac (tagc rfl) rfl).trans ((qac (tagc rfl) rfl).trans (qae ?_))))⟩
  exact (kCall (kCons (kVar rfl) (kCons (kCall (kCons (kCall (kCons (kVar rfl) (kCons (kIdx (kVar rfl) evE_cInt rfl) (kCons (kVar rfl) evEs_nil))) (h1 ..)) (kCons (kVar rfl) (kCons (kIdx (kVar rfl) evE_cInt rfl) evEs_nil))) (hpd ..)) evEs_nil)) (H (z7 hn hl) ..))
 | many t e =>
  rw [qex] at hn
  rw [qeg] at ok
  have hl:=qdw t (S++[.fin]) S.length ok.1
  rw [List.length_append] at hl
  simp only [List.length_cons,List.length_nil] at hl
  have hnn:=qhm t ok.1
  have h1:=hk t ok.1 (by rw [qnn];lia) A B (S++[.fin]) S.length (by rw [List.length_append];exact z13 hn)
  rw [v_many,qc9]
  generalize t.led (S++[.fin]) S.length=q at hl h1 ⊢
  have hst:vStore (A++cel q.1::B) (.ref A.length) (.int (S.length:Int)) (partE e q.2 n).v=some (A++cel (q.1.set S.length (partE e q.2 n))::B):=by
   rw [qf2,at_get]
   show (if _ then _ else _)=_
   rw [if_pos (by rw [List.length_map];exact z5 hnn hl),qhg,Int.toNat_natCast,cel,List.map_set]
  refine ⟨_,(qac (tagc rfl) rfl).trans ((qac (tagc rfl) rfl).trans ((qac (tagc rfl) rfl).trans (qak (tagc rfl) rfl ((qab (v:=.int (S.length:Int)) (σ':=A++cel (S++[.fin])::B) ?_).trans ((qab (v:=.int (q.2:Int)) (σ':=A++cel q.1::B) ?_).trans ((qay (Γ':=[.ref A.length,.tup [.str [109,97,110,121],t.v,.bool e],.int (n:Int),.undef,.int (S.length:Int),.int (q.2:Int)]) (σ':=A++cel (q.1.set S.length (partE e q.2 n))::B) ?_).trans (qae rfl)))))))⟩
  ·simp only [evE_cNone,evE_cBool,evE_cInt,evE_cStr,qa2,qbf,qb7,qc2,qb9,qb2,qbn,qb1,qbv,qbp,qca,qb8,qa3,qcl,qbg,qba,qa4,evEs_nil,qap,qbh,qbj,getV,List.getElem?_cons_zero,List.getElem?_cons_succ,qam,qad,List.length_cons,List.length_nil]
   rw [if_pos (by unfold roomy;lia),qad]
   exact H (x:=.fin) (z14 hn hnn)
  ·exact (kCall (kCons (kVar rfl) (kCons (kIdx (kVar rfl) evE_cInt rfl) (kCons (kVar rfl) evEs_nil))) (h1 ..))
  ·rw [qe9]
   simp only [List.set_cons_succ,List.set_cons_zero,evE_cNone,evE_cBool,evE_cInt,evE_cStr,qa2,qbf,qb7,qc2,qb9,qb2,qbn,qb1,qbv,qbp,qca,qb8,qa3,qcl,qbg,qba,qa4,evEs_nil,qap,qbh,qbj,getV,List.getElem?_cons_zero,List.getElem?_cons_succ,qam,qad,idx_t2,hpd,hst,storeR]
theorem qh6 (H:HN0 P):∀ (d:Nat) (t:Tree),t.Ok->2 * t.dep+1≤d->LedAt gl (callF gl P d) t
 | 0,t,_,h=>by lia
 | 1,t,_,h=>by have:=qmc t;lia
 | 2,t,_,h=>by have:=qmc t;lia
 | d+3,t,ok,h=>by
  intro A B S n hn
  obtain ⟨Γ,hb⟩:=qul (gl:=gl) (cf:=callF gl P (d+2)) (A:=A) (B:=B) (λh=>qkp H h) (ql9 H) t S n ok (λu hu hd=>qh6 H (d+2) u hu (z12 h hd)) (λts e=>by
   subst e
   obtain ⟨Γ,hb⟩:=qmy (gl:=gl) (cf:=callF gl P (d+1)) (A:=A) (B:=B) (λA B S x h=>qkp H h) ts S n ok (λu hu=>qh6 H (d+1) u ((qsq.mp ok).2 u hu) (by rw [qje] at h;exact z10 h (qgs hu))) hn
   exact qaf (D:=d_picked) H.pc rfl hb) hn
  exact qaf (D:=d_led) H.ld rfl hb
theorem frz_ir {i:Int}{r:Nat}{xs:List V}(h:σ[r]? = some (.lst xs)):freeze σ (.tup [.int i,.ref r])=some (.tup [.int i,.lst xs],σ.set r .dead):=by
 have hs:freezes σ [.ref r]=some ([.lst xs],σ.set r .dead):=by
  show ((freeze σ (.ref r)).bind λp=>(freezes p.2 []).map λq=>(p.1::q.1,q.2))=_
  rw [qhq,h];rfl
 show ((freezes σ [.ref r]).map λq=>(V.int i::q.1,q.2)).map (λp=>(V.tup p.1,p.2))=_
 rw [hs];rfl
noncomputable def Net (T:Tree):List Sp×Nat:=T.led [.fin] 0
noncomputable def netV (N:List Sp×Nat):V:=.tup [.int (N.2:Int),.lst (N.1.map Sp.v)]
theorem qnd (H:HN P){T:Tree}(ok:T.Ok)(hd:2 * T.dep+1≤d)(hn:T.cnt≤50000):∃ G,callF gl P (d+1) 42 [T.v] σ = .ok (netV (Net T)) (σ++G):=by
 have h1:=qh6 H.n (gl:=gl) d T ok hd σ [] [.fin] 0 (by simp only [List.length_cons,List.length_nil];lia)
 have h2:=qdw T [.fin] 0 ok
 refine ⟨[.dead],qaf (D:=d_net_of) (Γ':=[T.v,.ref σ.length,.int ((Net T).2:Int)]) H.no rfl ((qab (v:=.ref σ.length) (σ':=σ++[cel [.fin]]) ?_).trans ((qab (v:=.int ((Net T).2:Int)) (σ':=σ++[cel (Net T).1]) ?_).trans (qae ?_)))⟩
 ·rfl
 ·have hv:=qgw (Γ:=[T.v,.ref σ.length,.undef]) (i:=0) (t:=T) rfl
  simp only [List.cons_append,List.nil_append,List.set_cons_succ,List.set_cons_zero,evE_cNone,evE_cBool,evE_cInt,evE_cStr,qa2,qbf,qb7,qc2,qb9,qb2,qbn,qb1,qbv,qbp,qca,qb8,qa3,qcl,qbg,qba,qa4,evEs_nil,qap,qbh,qbj]
  rw [show List.replicate (d_net_of.nl - d_net_of.np) V.undef=[.undef,.undef] from rfl]
  simp only [List.set_cons_succ,List.set_cons_zero,hv,qam,qad]
  simp only [getV,List.getElem?_cons_zero,List.getElem?_cons_succ,qam,qad]
  exact h1
 ·rw [qmg]
  have hf:freeze (σ++[cel (Net T).1]) (.tup [.int ((Net T).2:Int),.ref σ.length])=some (netV (Net T),σ++[.dead]):=by
   rw [frz_ir (xs:=(Net T).1.map Sp.v) (σ:=σ++[cel (Net T).1]) at_get,qhg];rfl
  simp only [List.cons_append,List.nil_append,List.set_cons_succ,List.set_cons_zero,evE_cNone,evE_cBool,evE_cInt,evE_cStr,qa2,qbf,qb7,qc2,qb9,qb2,qbn,qb1,qbv,qbp,qca,qb8,qa3,qcl,qbg,qba,qa4,evEs_nil,qap,qbh,qbj]
  rw [show List.replicate (d_net_of.nl - d_net_of.np) V.undef=[.undef,.undef] from rfl]
  simp only [List.set_cons_succ,List.set_cons_zero,getV,List.getElem?_cons_zero,List.getElem?_cons_succ,qam,qad,tup2,hf]
  rfl
end
end Mine.Internal
namespace Mine.Internal
inductive Ends (F:List Sp):Nat->Prop
 | fin {n:Nat}:F[n]? = some .fin->Ends F n
 | take {n m:Nat} {b:Bool} {s:List Nat}:F[n]? = some (.take b s m)->Ends F n
 | part {n x y:Nat}:F[n]? = some (.part x y)->Ends F x->Ends F y->Ends F n
theorem Ends.partE {F:List Sp}{n x y:Nat}{e:Bool}(h:F[n]? = some (Mine.Internal.partE e x y))(hx:Ends F x)(hy:Ends F y):Ends F n:=by
 cases e with
 | true=>exact .part h hx hy
 | false=>exact .part h hy hx
noncomputable def Agree (F S:List Sp)(k:Nat):Prop:=∀ m,k≤m->m<S.length->F[m]? = S[m]?
theorem Agree.pre {F S X:List Sp}{k:Nat}(h:Agree F (S++X) k):Agree F S k:=λm h1 h2=>by
 rw [h m h1 (by rw [List.length_append];exact Nat.lt_add_right _ h2),List.getElem?_append_left h2]
theorem Agree.suf {F S:List Sp}{k l:Nat}(h:Agree F S k)(hl:k≤l):Agree F S l:=λm h1 h2=>h m (Nat.le_trans hl h1) h2
theorem qpe:∀ (a:Nat) (r:List Nat) (S:List Sp),∃ X,(pk a r S).1=S++X
 | a,[],S=>⟨[],(List.append_nil S).symm⟩
 | a,b::r,S=>by
  obtain ⟨X,h⟩:=qpe b r S
  exact ⟨X++[.part a (pk b r S).2],by rw [pk_e2,h,List.append_assoc]⟩
mutual
theorem qdf:∀ (t:Tree) (S:List Sp) (n:Nat),∃ X,(t.led S n).1=S++X
 | .take b s,S,n=>⟨_,by rw [qcm]⟩
 | .row ts,S,n=>by rw [qcn];exact qgj ts S n
 | .pick ts,S,n=>by
  rw [qcp]
  obtain ⟨X,h⟩:=qeq ts S n
  generalize Tree.ledP ts S n=p at h
  obtain ⟨S',fs⟩:=p
  cases fs with
  | nil=>exact ⟨X,h⟩
  | cons a r =>
   obtain ⟨Y,h'⟩:=qpe a r S'
   exact ⟨X++Y,by rw [pkL,h',show S'=S++X from h,List.append_assoc]⟩
 | .maybe t e,S,n=>by
  obtain ⟨X,h⟩:=qdf t S n
  exact ⟨X++[partE e (t.led S n).2 n],by rw [qc8,h,List.append_assoc]⟩
 | .many t e,S,n=>by
  obtain ⟨X,h⟩:=qdf t (S++[.fin]) S.length
  refine ⟨partE e (t.led (S++[.fin]) S.length).2 n::X,?_⟩
  rw [qc9,h,List.append_assoc]
  exact qhg
theorem qgj:∀ (ts:List Tree) (S:List Sp) (n:Nat),∃ X,(Tree.ledR ts S n).1=S++X
 | [],S,n=>⟨[],by rw [qcw,List.append_nil]⟩
 | t::r,S,n=>by
  obtain ⟨X,h⟩:=qgj r S n
  obtain ⟨Y,h'⟩:=qdf t (Tree.ledR r S n).1 (Tree.ledR r S n).2
  exact ⟨X++Y,by rw [qcd,h',h,List.append_assoc]⟩
theorem qeq:∀ (ts:List Tree) (S:List Sp) (n:Nat),∃ X,(Tree.ledP ts S n).1=S++X
 | [],S,n=>⟨[],by rw [qcb,List.append_nil]⟩
 | t::r,S,n=>by
  obtain ⟨X,h⟩:=qdf t S n
  obtain ⟨Y,h'⟩:=qeq r (t.led S n).1 n
  exact ⟨X++Y,by rw [qcc,h',h,List.append_assoc]⟩
end
noncomputable def Led (F:List Sp)(S:List Sp)(p:List Sp×Nat)(n:Nat):Prop:=Ends F n->Ends F p.2∧∀ m,S.length≤m->m<p.1.length->Ends F m
theorem qmz {F:List Sp}:∀ (a:Nat) (r:List Nat) (S:List Sp),Agree F (pk a r S).1 S.length->(∀ x∈a::r,Ends F x)->Ends F (pk a r S).2∧∀ m,S.length≤m->m<(pk a r S).1.length->Ends F m
 | a,[],S,_,h=>⟨h a List.mem_cons_self,λm h1 h2=>absurd h1 (Nat.not_le_of_lt h2)⟩
 | a,b::r,S,hA,h=>by
  rw [pk_e2] at hA ⊢
  obtain ⟨h1,h2⟩:=qmz b r S hA.pre λx hx=>h x (List.mem_cons_of_mem _ hx)
  have hl:S.length≤(pk b r S).1.length:=by rw [qpd];exact Nat.le_add_right _ _
  have hp:Ends F (pk b r S).1.length:=.part ((hA _ hl (by simp)).trans at_get) (h a List.mem_cons_self) h1
  refine ⟨hp,λm m1 m2=>?_⟩
  rw [List.length_append] at m2
  rcases Nat.lt_or_eq_of_le (Nat.le_of_lt_succ m2) with q | q
  ·exact h2 m m1 q
  ·rw [q];exact hp
mutual
theorem qju {F:List Sp}:∀ (t:Tree) (S:List Sp) (n:Nat),t.Ok->t.bare=false->Agree F (t.led S n).1 S.length->Ends F (t.led S n).2
 | .take b s,S,n,_,_,hA=>by rw [qcm] at hA ⊢;exact .take ((hA _ (Nat.le_refl _) (by simp)).trans at_get)
 | .row ts,S,n,ok,hb,hA=>by rw [qcn] at hA ⊢;rw [qc5] at ok;rw [qf5] at hb;exact qlc ts S n ok.2 hb hA
 | .pick ts,S,n,ok,hb,hA=>by
  rw [qcp] at hA ⊢
  rw [qc6] at ok
  rw [qf6] at hb
  have h0:ts≠[]:=λe=>by rw [e] at ok;exact absurd ok.1.1 (by decide)
  have h1:=qlb (F:=F) ts S n ok.2 hb
  have h2:=qfc ts S n ok.2
  obtain ⟨X,hX⟩:=qeq ts S n
  generalize Tree.ledP ts S n=p at hA h1 h2 hX
  obtain ⟨S',fs⟩:=p
  cases fs with
  | nil=>exact absurd (List.length_eq_zero_iff.mp h2.2.symm) h0
  | cons a r =>
   obtain ⟨Y,hY⟩:=qpe a r S'
   rw [pkL] at hA ⊢
   refine (qmz a r S' (hA.suf ?_) (h1 ?_)).1
   ·rw [show S'=S++X from hX,List.length_append];exact Nat.le_add_right _ _
   ·rw [hY] at hA;exact hA.pre
 | .maybe t e,S,n,_,hb,_=>by rw [qkd] at hb;cases hb
 | .many t e,S,n,_,hb,_=>by rw [qke] at hb;cases hb
theorem qlc {F:List Sp}:∀ (ts:List Tree) (S:List Sp) (n:Nat),Tree.Oks ts->Tree.allB ts=false->Agree F (Tree.ledR ts S n).1 S.length->Ends F (Tree.ledR ts S n).2
 | [],S,n,_,hb,_=>by rw [qkc] at hb;cases hb
 | t::r,S,n,ok,hb,hA=>by
  rw [qcd] at hA ⊢
  rw [qa9] at ok
  rw [qf3] at hb
  obtain ⟨X,hX⟩:=qgj r S n
  obtain ⟨Y,hY⟩:=qdf t (Tree.ledR r S n).1 (Tree.ledR r S n).2
  have hA':=hA.suf (l:=(Tree.ledR r S n).1.length) (by rw [hX,List.length_append];exact Nat.le_add_right _ _)
  cases hb':t.bare with
  | false=>exact qju t _ _ ok.1 hb' hA'
  | true =>
   rw [hb',Bool.true_and] at hb
   rw [hY] at hA
   exact (qfw t _ _ ok.1 hA' (qlc r S n ok.2 hb hA.pre)).1
theorem qlb {F:List Sp}:∀ (ts:List Tree) (S:List Sp) (n:Nat),Tree.Oks ts->Tree.anyB ts=false->Agree F (Tree.ledP ts S n).1 S.length->∀ x∈(Tree.ledP ts S n).2,Ends F x
 | [],S,n,_,hb,_=>by rw [qcb];exact λx hx=>(List.not_mem_nil hx).elim
 | t::r,S,n,ok,hb,hA=>by
  rw [qcc] at hA ⊢
  rw [qa9] at ok
  rw [qf4,Bool.or_eq_false_iff] at hb
  obtain ⟨X,hX⟩:=qdf t S n
  obtain ⟨Y,hY⟩:=qeq r (t.led S n).1 n
  intro x hx
  rcases List.mem_cons.mp hx with q | q
  ·rw [q];exact qju t S n ok.1 hb.1 (Agree.pre (X:=Y) (by rw [← hY];exact hA))
  ·exact qlb r (t.led S n).1 n ok.2 hb.2 (hA.suf (by rw [hX,List.length_append];exact Nat.le_add_right _ _)) x q
theorem qfw {F:List Sp}:∀ (t:Tree) (S:List Sp) (n:Nat),t.Ok->Agree F (t.led S n).1 S.length->Led F S (t.led S n) n
 | .take b s,S,n,_,hA=>λ_=>by
  rw [qcm] at hA ⊢
  have h:Ends F S.length:=.take ((hA _ (Nat.le_refl _) (by simp)).trans at_get)
  refine ⟨h,λm m1 m2=>?_⟩
  rw [List.length_append] at m2
  rw [Nat.le_antisymm (Nat.le_of_lt_succ m2) m1];exact h
 | .row ts,S,n,ok,hA=>by rw [qcn] at hA ⊢;rw [qc5] at ok;exact qny ts S n ok.2 hA
 | .pick ts,S,n,ok,hA=>λhn=>by
  rw [qcp] at hA ⊢
  rw [qc6] at ok
  have h0:ts≠[]:=λe=>by rw [e] at ok;exact absurd ok.1.1 (by decide)
  have h1:=qnx (F:=F) ts S n ok.2
  have h2:=qfc ts S n ok.2
  obtain ⟨X,hX⟩:=qeq ts S n
  generalize Tree.ledP ts S n=p at hA h1 h2 hX
  obtain ⟨S',fs⟩:=p
  cases fs with
  | nil=>exact absurd (List.length_eq_zero_iff.mp h2.2.symm) h0
  | cons a r =>
   obtain ⟨Y,hY⟩:=qpe a r S'
   rw [pkL] at hA ⊢
   have hS:S.length≤S'.length:=by rw [show S'=S++X from hX,List.length_append];exact Nat.le_add_right _ _
   obtain ⟨g1,g2⟩:=h1 (by rw [hY] at hA;exact hA.pre) hn
   obtain ⟨g3,g4⟩:=qmz a r S' (hA.suf hS) g1
   refine ⟨g3,λm m1 m2=>?_⟩
   rcases Nat.lt_or_ge m S'.length with q | q
   ·exact g2 m m1 q
   ·exact g4 m q m2
 | .maybe t e,S,n,ok,hA=>λhn=>by
  rw [qc8] at hA ⊢
  rw [qef] at ok
  obtain ⟨h1,h2⟩:=qfw t S n ok hA.pre hn
  obtain ⟨X,hX⟩:=qdf t S n
  have hl:S.length≤(t.led S n).1.length:=by rw [hX,List.length_append];exact Nat.le_add_right _ _
  have hp:Ends F (t.led S n).1.length:=Ends.partE ((hA _ hl (by simp)).trans at_get) h1 hn
  refine ⟨hp,λm m1 m2=>?_⟩
  rw [List.length_append] at m2
  rcases Nat.lt_or_eq_of_le (Nat.le_of_lt_succ m2) with q | q
  ·exact h2 m m1 q
  ·rw [q];exact hp
 | .many t e,S,n,ok,hA=>λhn=>by
  rw [qc9] at hA ⊢
  rw [qeg] at ok
  obtain ⟨X,hX⟩:=qdf t (S++[.fin]) S.length
  have hl:S.length<(t.led (S++[.fin]) S.length).1.length:=by rw [hX];simp
  have hA':Agree F (t.led (S++[.fin]) S.length).1 (S++[Sp.fin]).length:=λm m1 m2=>by
   rw [List.length_append] at m1
   rw [hA m (Nat.le_of_succ_le m1) (by rw [List.length_set];exact m2),List.getElem?_set_ne (Nat.ne_of_lt m1)]
  have h1:=qju t _ _ ok.1 ok.2 hA'
  have hp:Ends F S.length:=Ends.partE ((hA _ (Nat.le_refl _) (by rw [List.length_set];exact hl)).trans (List.getElem?_set_self hl)) h1 hn
  obtain ⟨_,h2⟩:=qfw t _ _ ok.1 hA' hp
  refine ⟨hp,λm m1 m2=>?_⟩
  rw [List.length_set] at m2
  rcases Nat.lt_or_eq_of_le m1 with q | q
  ·exact h2 m (by rw [List.length_append];exact q) m2
  ·rw [← q];exact hp
theorem qny {F:List Sp}:∀ (ts:List Tree) (S:List Sp) (n:Nat),Tree.Oks ts->Agree F (Tree.ledR ts S n).1 S.length->Led F S (Tree.ledR ts S n) n
 | [],S,n,_,hA=>λhn=>by rw [qcw];exact ⟨hn,λm m1 m2=>absurd m1 (Nat.not_le_of_lt m2)⟩
 | t::r,S,n,ok,hA=>λhn=>by
  rw [qcd] at hA ⊢
  rw [qa9] at ok
  obtain ⟨X,hX⟩:=qgj r S n
  obtain ⟨Y,hY⟩:=qdf t (Tree.ledR r S n).1 (Tree.ledR r S n).2
  have hA':=hA.suf (l:=(Tree.ledR r S n).1.length) (by rw [hX,List.length_append];exact Nat.le_add_right _ _)
  obtain ⟨g1,g2⟩:=qny r S n ok.2 (Agree.pre (X:=Y) (by rw [← hY];exact hA)) hn
  obtain ⟨g3,g4⟩:=qfw t _ _ ok.1 hA' g1
  refine ⟨g3,λm m1 m2=>?_⟩
  rcases Nat.lt_or_ge m (Tree.ledR r S n).1.length with q | q
  ·exact g2 m m1 q
  ·exact g4 m q m2
theorem qnx {F:List Sp}:∀ (ts:List Tree) (S:List Sp) (n:Nat),Tree.Oks ts->Agree F (Tree.ledP ts S n).1 S.length->Ends F n->(∀ x∈(Tree.ledP ts S n).2,Ends F x)∧∀ m,S.length≤m->m<(Tree.ledP ts S n).1.length->Ends F m
 | [],S,n,_,_,_=>by rw [qcb];exact ⟨λx hx=>(List.not_mem_nil hx).elim,λm m1 m2=>absurd m1 (Nat.not_le_of_lt m2)⟩
 | t::r,S,n,ok,hA,hn=>by
  rw [qcc] at hA ⊢
  rw [qa9] at ok
  obtain ⟨X,hX⟩:=qdf t S n
  obtain ⟨Y,hY⟩:=qeq r (t.led S n).1 n
  have hA':Agree F (t.led S n).1 S.length:=Agree.pre (X:=Y) (by rw [← hY];exact hA)
  obtain ⟨g1,g2⟩:=qfw t S n ok.1 hA' hn
  obtain ⟨g3,g4⟩:=qnx r (t.led S n).1 n ok.2 (hA.suf (by rw [hX,List.length_append];exact Nat.le_add_right _ _)) hn
  refine ⟨λx hx=>?_,λm m1 m2=>?_⟩
  ·rcases List.mem_cons.mp hx with q | q
   ·rw [q];exact g1
   ·exact g3 x q
  ·rcases Nat.lt_or_ge m (t.led S n).1.length with q | q
   ·exact g2 m m1 q
   ·exact g4 m q m2
end
end Mine.Internal
namespace Mine.Internal
structure Good (N:List Sp×Nat):Prop where
 wf:Wf N.1
 ends:∀ m,m<N.1.length->Ends N.1 m
 st:N.2<N.1.length
theorem wf_fin:Wf [Sp.fin]:=λx hx=>by rw [List.mem_singleton.mp hx];trivial
theorem qt6 {T:Tree}(ok:T.Ok):Good (Net T):=by
 refine x0_3 (qld T (S:=[.fin]) (n:=0) wf_fin (Nat.zero_lt_one)) λh1 h2 h3=>?_
 obtain ⟨X,hX⟩:=qdf T [.fin] 0
 have h0:Ends (Net T).1 0:=.fin (by rw [Net,hX];rfl)
 obtain ⟨g1,g2⟩:=qfw (F:=(Net T).1) T [.fin] 0 ok (λ_ _ _=>rfl) h0
 refine ⟨h1,λm hm=>?_,h2⟩
 cases m with
 | zero=>exact h0
 | succ m=>exact g2 _ (Nat.succ_le_succ (Nat.zero_le m)) hm
theorem qe4 {F:List Sp}(h:Wf F){n:Nat}{x:Sp}(hx:F[n]? = some x):x.below F.length:=h x (List.mem_of_getElem? hx)
noncomputable def hit (w:List Nat)(b:Bool)(s:List Nat)(a:Nat):Bool:=match w[a]? with | some c=>s.contains c == b | none=>false
theorem qr4 {w:List Nat}{b:Bool}{s:List Nat}{a:Nat}(h:hit w b s a=true):a<w.length:=by
 rcases Nat.lt_or_ge a w.length with q | q
 ·exact q
 ·rw [hit,List.getElem?_eq_none q] at h;cases h
inductive No (F:List Sp) (w:List Nat):Nat->Nat->Prop
 | stuck {n m a:Nat} {b:Bool} {s:List Nat}:F[n]? = some (.take b s m)->hit w b s a=false->No F w n a
 | take {n m a:Nat} {b:Bool} {s:List Nat}:F[n]? = some (.take b s m)->hit w b s a=true->No F w m (a+1)->No F w n a
 | part {n x y a:Nat}:F[n]? = some (.part x y)->No F w x a->No F w y a->No F w n a
inductive Yes (F:List Sp) (w:List Nat):Nat->Nat->List (Nat×Nat)->Prop
 | fin {n a:Nat}:F[n]? = some .fin->Yes F w n a [(n,a)]
 | take {n m a:Nat} {b:Bool} {s:List Nat} {p:List (Nat×Nat)}:F[n]? = some (.take b s m)->hit w b s a=true->Yes F w m (a+1) p->Yes F w n a ((n,a)::p)
 | left {n x y a:Nat} {p:List (Nat×Nat)}:F[n]? = some (.part x y)->Yes F w x a p->Yes F w n a ((n,a)::p)
 | right {n x y a:Nat} {p:List (Nat×Nat)}:F[n]? = some (.part x y)->No F w x a->Yes F w y a p->Yes F w n a ((n,a)::p)
section
variable {F:List Sp} {w:List Nat} {n a:Nat} {p q:List (Nat×Nat)}
theorem No.not (h:No F w n a):∀ {p:List (Nat×Nat)},¬ Yes F w n a p:=by
 induction h with
 | stuck e hh=>intro p y;cases y with
  | take e' hh' _=>rw [e] at e';cases e';rw [hh] at hh';cases hh'
  | fin e' | left e' _ | right e' _ _=>rw [e] at e';cases e'
 | take e hh _ ih=>intro p y;cases y with
  | take e' _ y=>rw [e] at e';cases e';exact ih y
  | fin e' | left e' _ | right e' _ _=>rw [e] at e';cases e'
 | part e _ _ ih1 ih2=>intro p y;cases y with
  | left e' y=>rw [e] at e';cases e';exact ih1 y
  | right e' _ y=>rw [e] at e';cases e';exact ih2 y
  | fin e' | take e' _ _=>rw [e] at e';cases e'
theorem qtr {a:Nat}(ht:∀ {n m:Nat} {b:Bool} {s:List Nat},F[n]? = some (.take b s m)->hit w b s a=true->(∃ p,Yes F w m (a+1) p)∨No F w m (a+1)){n:Nat}(h:Ends F n):(∃ p,Yes F w n a p)∨No F w n a:=by
 induction h with
 | fin e=>exact .inl ⟨_,.fin e⟩
 | take e =>
  rename_i b s
  cases hh:hit w b s a with
  | false=>exact .inr (.stuck e hh)
  | true=>exact (ht e hh).imp (λ⟨p,h⟩=>⟨_,.take e hh h⟩) (.take e hh)
 | part e _ _ ih1 ih2 =>
  rcases ih1 with ⟨p,h⟩ | h
  ·exact .inl ⟨_,.left e h⟩
  ·exact ih2.imp (λ⟨p,h'⟩=>⟨_,.right e h h'⟩) (.part e h)
theorem qls (wf:Wf F)(he:∀ m,m<F.length->Ends F m):∀ (j:Nat) {a n:Nat},w.length<a+j->n<F.length->(∃ p,Yes F w n a p)∨No F w n a
 | 0,a,n,hj,hn=>qtr (λ_ hh=>absurd (Nat.lt_trans hj (qr4 hh)) (Nat.lt_irrefl _)) (he n hn)
 | j+1,a,n,hj,hn=>qtr (λe hh=>qls wf he j (by rw [Nat.add_right_comm];exact hj) (qe4 wf e)) (he n hn)
theorem Good.total {N:List Sp×Nat}(G:Good N)(w:List Nat)(a:Nat){n:Nat}(hn:n<N.1.length):(∃ p,Yes N.1 w n a p)∨No N.1 w n a :=
 qls G.wf G.ends (w.length+1) (Nat.lt_of_lt_of_le (Nat.lt_succ_self _) (Nat.le_add_left _ _)) hn
end
theorem qg1:∀ (N:Nat) (l:List Nat),l.Nodup->(∀ x∈l,x<N)->l.length≤N
 | 0,l,_,h=>by
  cases l with
  | nil=>exact Nat.le_refl _
  | cons x r=>exact absurd (h x List.mem_cons_self) (Nat.not_lt_zero _)
 | N+1,l,hn,h=>by
  have h1:=qg1 N (l.erase N) (hn.erase N) λx hx=>by
   have:=(hn.mem_erase_iff).mp hx
   exact Nat.lt_of_le_of_ne (Nat.le_of_lt_succ (h x this.2)) this.1
  rw [List.length_erase] at h1
  split at h1
  ·exact Nat.le_add_of_sub_le h1
  ·exact Nat.le_succ_of_le h1
theorem qg4 {N M:Nat}{l:List (Nat×Nat)}(hn:l.Nodup)(h:∀ x∈l,x.1<N∧x.2<M):l.length≤N * M:=by
 have hM:∀ x∈l,0<M:=λx hx=>Nat.lt_of_le_of_lt (Nat.zero_le _) (h x hx).2
 rw [← List.length_map (f:=λx:Nat×Nat=>x.1 * M+x.2)]
 refine qg1 _ _ (List.pairwise_map.mpr (List.Pairwise.imp_of_mem ?_ hn)) ?_
 ·intro x y hx hy hxy e
  refine hxy ?_
  have e1:x.2=y.2:=by
   have:=congrArg (· % M) e
   simpa [Nat.mul_comm,Nat.mod_eq_of_lt (h x hx).2,Nat.mod_eq_of_lt (h y hy).2] using this
  have e2:x.1=y.1:=by
   rw [e1] at e
   exact Nat.eq_of_mul_eq_mul_right (hM x hx) (Nat.add_right_cancel e)
  exact Prod.ext e2 e1
 ·intro z hz
  refine x1_2 (List.mem_map.mp hz) λx hx e=>?_
  rw [← e]
  have h1:=h x hx
  calc x.1 * M+x.2<x.1 * M+M:=Nat.add_lt_add_left h1.2 _
   _=(x.1+1) * M:=(Nat.succ_mul _ _).symm
   _≤N * M:=Nat.mul_le_mul_right _ h1.1
end Mine.Internal
namespace Mine.Internal
noncomputable def pv (x:Nat×Nat):V:=.tup [.int (x.1:Int),.int (x.2:Int)]
noncomputable def iv (k:Nat):V:=.int (k:Int)
noncomputable def kv (x:Nat×Nat):List Int:=[(x.1:Int),(x.2:Int)]
noncomputable def ins (D:List (Nat×Nat))(x:Nat×Nat):List (Nat×Nat):=if x∈D then D else D++[x]
theorem kv_inj {x y:Nat×Nat}(h:kv x=kv y):x=y:=by
 injection h with h1 h2
 injection h2 with h2 _
 exact Prod.ext (Int.ofNat.inj h1) (Int.ofNat.inj h2)
theorem qsh {D:List (Nat×Nat)}{x:Nat×Nat}:kv x∈D.map kv↔x∈D :=
 ⟨λh=>let ⟨_,h1,h2⟩:=List.mem_map.mp h;kv_inj h2 ▸ h1,λh=>List.mem_map.mpr ⟨x,h,rfl⟩⟩
theorem ins_kv {D:List (Nat×Nat)}{x:Nat×Nat}:(ins D x).map kv=if kv x∈D.map kv then D.map kv else D.map kv++[kv x]:=by
 rw [ins]
 by_cases h:x∈D
 ·rw [if_pos h,if_pos (qsh.mpr h)]
 ·rw [if_neg h,if_neg (λq=>h (qsh.mp q)),List.map_append];rfl
theorem qw7 {α:Type}(l:List α):decide ((l.length:Int) > 0) = !l.isEmpty:=by
 cases l with
 | nil=>rfl
 | cons a r=>exact decide_eq_true (Int.natCast_pos.mpr (Nat.succ_pos _))
noncomputable def gS (A M:Sg)(D W:List (Nat×Nat))(C:List Nat):Sg:=A++.dictP (D.map kv)::(M++[.lst (W.map pv),.lst (C.map iv)])
section
variable {gl:List V} {cf:CF} {σ σ':Sg} {Γ Γ':Fm} {P:List Def} {d:Nat} {A M:Sg} {D W:List (Nat×Nat)} {C:List Nat} {x:Nat×Nat}
theorem gS_d:(gS A M D W C)[A.length]? = some (.dictP (D.map kv)):=at_get
theorem gS_w:(gS A M D W C)[A.length+1+M.length]? = some (.lst (W.map pv)):=by
 rw [gS,List.getElem?_append_right y10,y32,List.getElem?_cons_succ];exact at_get
theorem gS_c:(gS A M D W C)[A.length+1+M.length+1]? = some (.lst (C.map iv)):=by
 rw [gS,List.getElem?_append_right (Nat.le_succ_of_le y10),y33,List.getElem?_cons_succ,List.getElem?_append_right (Nat.le_add_right _ _),Nat.add_sub_cancel_left];rfl
theorem gS_sd {D':List (Nat×Nat)}:(gS A M D W C).set A.length (.dictP (D'.map kv))=gS A M D' W C:=qhg
theorem gS_sw {W':List (Nat×Nat)}:(gS A M D W C).set (A.length+1+M.length) (.lst (W'.map pv))=gS A M D W' C:=by
 rw [gS,List.set_append_right (h:=y10),y32,List.set_cons_succ,qhg];rfl
theorem gS_sc {C':List Nat}:(gS A M D W C).set (A.length+1+M.length+1) (.lst (C'.map iv))=gS A M D W C':=by
 rw [gS,List.set_append_right (h:=Nat.le_succ_of_le y10),y33,List.set_cons_succ,List.set_append_right (h:=Nat.le_add_right _ _),Nat.add_sub_cancel_left];rfl
theorem len_w:vBi (gS A M D W C) .len [.ref (A.length+1+M.length)]=some (.int (W.length:Int)):=by rw [qdp gS_w,List.length_map]
theorem len_c:vBi (gS A M D W C) .len [.ref (A.length+1+M.length+1)]=some (.int (C.length:Int)):=by rw [qdp gS_c,List.length_map]
theorem qsb:vIdx (gS A M D (W++[x]) C) (.ref (A.length+1+M.length)) (.int (-1))=some (pv x):=qdj (qc1 gS_w) rfl (by rw [List.map_append];simp)
theorem last_c {k:Nat}:vIdx (gS A M D W (C++[k])) (.ref (A.length+1+M.length+1)) (.int (-1))=some (.int (k:Int)):=qdj (qc1 gS_c) rfl (by rw [List.map_append];simp [iv])
noncomputable def gbC:Ex:=.and (.cmp .gt (.bi .len [(.var 0)]) (.cInt 0)) (.or (.cmp .eq (.bi .len [(.var 1)]) (.cInt 0)) (.cmp .ne (.idx (.var 1) (.neg (.cInt 1))) (.bi .len [(.var 0)])))
noncomputable def gbΓ (A M:Sg):Fm:=[.ref (A.length+1+M.length),.ref (A.length+1+M.length+1),.ref A.length]
theorem gb_0:getV (gbΓ A M) 0=some (.ref (A.length+1+M.length)):=rfl
theorem gb_1:getV (gbΓ A M) 1=some (.ref (A.length+1+M.length+1)):=rfl
theorem gb_2:getV (gbΓ A M) 2=some (.ref A.length):=rfl
theorem gb_c1:evE gl cf (.cmp .gt (.bi .len [(.var 0)]) (.cInt 0)) (gbΓ A M) (gS A M D W C) = .ok (.bool (!W.isEmpty)) (gS A M D W C):=by
 simp only [evE_cNone,evE_cBool,evE_cInt,evE_cStr,qa2,qbf,qb7,qc2,qb9,qb2,qbn,qb1,qbv,qbp,qca,qb8,qa3,qcl,qbg,qba,qa4,evEs_nil,qap,qbh,qbj,gb_0,qam,qad,len_w,gt_ii,qw7]
theorem gb_c2:evE gl cf (.cmp .eq (.bi .len [(.var 1)]) (.cInt 0)) (gbΓ A M) (gS A M D W C) = .ok (.bool C.isEmpty) (gS A M D W C):=by
 simp only [evE_cNone,evE_cBool,evE_cInt,evE_cStr,qa2,qbf,qb7,qc2,qb9,qb2,qbn,qb1,qbv,qbp,qca,qb8,qa3,qcl,qbg,qba,qa4,evEs_nil,qap,qbh,qbj,gb_1,qam,qad,len_c,eq_ii]
 cases C <;> rfl
theorem gb_c3 {k:Nat}:evE gl cf (.cmp .ne (.idx (.var 1) (.neg (.cInt 1))) (.bi .len [(.var 0)])) (gbΓ A M) (gS A M D W (C++[k])) = .ok (.bool (!((k:Int) == (W.length:Int)))) (gS A M D W (C++[k])):=by
 exact (kCmp (kIdx (kVar rfl) (kNeg evE_cInt rfl) (last_c ..)) (kBi (kCons (kVar rfl) evEs_nil) (len_w ..)) rfl)
theorem gb_or (h:C.getLast?≠some W.length):evE gl cf (.or (.cmp .eq (.bi .len [(.var 1)]) (.cInt 0)) (.cmp .ne (.idx (.var 1) (.neg (.cInt 1))) (.bi .len [(.var 0)]))) (gbΓ A M) (gS A M D W C) = .ok (.bool true) (gS A M D W C):=by
 rcases List.eq_nil_or_concat C with rfl | ⟨C',k,rfl⟩
 ·exact or_bb (q:=true) gb_c2 λh=>by cases h
 ·rw [List.concat_eq_append] at h ⊢
  refine (or_bb gb_c2 λ_=>gb_c3).trans ?_
  have:((k:Int) == (W.length:Int))=false:=by
   rw [beq_eq_false_iff_ne];intro e
   exact h (by rw [List.getLast?_append];simp;lia)
  rw [this];cases C' <;> rfl
theorem gb_T (h:C.getLast?≠some (W.length+1)):evE gl cf gbC (gbΓ A M) (gS A M D (W++[x]) C) = .ok (.bool true) (gS A M D (W++[x]) C):=by
 refine (qda gb_c1 λ_=>gb_or (by rw [List.length_append];exact h)).trans ?_
 cases W <;> rfl
theorem gb_F0:evE gl cf gbC (gbΓ A M) (gS A M D [] C) = .ok (.bool false) (gS A M D [] C):=(qda (q:=true) gb_c1 λh=>by cases h).trans rfl
theorem gb_F1:evE gl cf gbC (gbΓ A M) (gS A M D (W++[x]) (C++[W.length+1])) = .ok (.bool false) (gS A M D (W++[x]) (C++[W.length+1])):=by
 refine (qda gb_c1 λ_=>or_bb gb_c2 λ_=>gb_c3).trans ?_
 have:(((W.length+1:Nat):Int) == ((W++[x]).length:Int))=true:=by rw [List.length_append];simp
 rw [this];cases C <;> simp
theorem store_P {r:Nat}{ks:List (List Int)}{k:List Int}{xs:List V}(h:σ[r]? = some (.dictP ks))(hk:intsV xs=some k)(hn:ks.length<roomy):vStore σ (.ref r) (.tup xs) (.bool true)=some (σ.set r (.dictP (if k∈ks then ks else ks++[k]))):=by
 rw [qf2,h]
 show (if ks.length<roomy then (intsV xs).map _ else _)=_
 rw [if_pos hn,hk];rfl
theorem qwk (h:C.getLast?≠some (W.length+1))(hD:D.length<roomy) :
  exS gl cf (.while gbC [.sto (.var 2) (.pop (.var 0)) (.cBool true)]) (gbΓ A M) (gS A M D (W++[x]) C)=exS gl cf (.while gbC [.sto (.var 2) (.pop (.var 0)) (.cBool true)]) (gbΓ A M) (gS A M (ins D x) W C):=by
 refine qa7 (gb_T h) (qay (s:=.sto (.var 2) (.pop (.var 0)) (.cBool true)) ?_)
 have h1:=qgd (gl:=gl) (cf:=cf) (Γ:=gbΓ A M) (σ:=gS A M D (W++[x]) C) (o:=.var 0) (i:=A.length+1+M.length) (xs:=W.map pv) (v:=pv x) rfl (by rw [gS_w,List.map_append];rfl)
 rw [gS_sw] at h1
 have h2:vStore (gS A M D W C) (.ref A.length) (pv x) (.bool true)=some (gS A M (ins D x) W C):=by
  have:=store_P (σ:=gS A M D W C) (xs:=[.int (x.1:Int),.int (x.2:Int)]) (k:=kv x) gS_d rfl (by rw [List.length_map];exact hD)
  rw [← ins_kv,gS_sd] at this;exact this
 rw [qe9,evE_cBool,qad,qa2,gb_2,qam,qad,h1,qad,h2];rfl
theorem qh5 (H:P[43]? = some d_gone_back)(σ:Sg):callF gl P (d+1) 43 (gbΓ A M) σ=((exS gl (callF gl P d) (.while gbC [.sto (.var 2) (.pop (.var 0)) (.cBool true)]) (gbΓ A M) σ).bind (x:=true) λp σ=>match p.1 with
  | .next=>exB gl (callF gl P d) [.ite (.cmp .eq (.bi .len [(.var 0)]) (.cInt 0)) [.ret (.cBool false)] [],.expr (.pop (.var 1)),.ret (.cBool true)] p.2 σ
  | .ret v=>.ok (.ret v,p.2) σ).bind (x:=true) λp σ=>.ok (flV p.1) σ:=by
 rw [qdk H rfl];rfl
theorem gb_pop (H:P[43]? = some d_gone_back)(h:C.getLast?≠some (W.length+1))(hD:D.length<roomy) :
  callF gl P (d+1) 43 (gbΓ A M) (gS A M D (W++[x]) C)=callF gl P (d+1) 43 (gbΓ A M) (gS A M (ins D x) W C):=by
 rw [qh5 H,qh5 H,qwk h hD]
theorem qwh (H:P[43]? = some d_gone_back):callF gl P (d+1) 43 (gbΓ A M) (gS A M D [] C) = .ok (.bool false) (gS A M D [] C):=by
 rw [qh5 H,qb4 gb_F0,qad]
 have h:evE gl (callF gl P d) (.cmp .eq (.bi .len [(.var 0)]) (.cInt 0)) (gbΓ A M) (gS A M D [] C) = .ok (.bool true) (gS A M D [] C):=by
  exact (kCmp (kBi (kCons (kVar rfl) evEs_nil) (len_w ..)) evE_cInt rfl)
 show Res.bind (exB _ _ _ _ _) _ true=_
 rw [qak h rfl (qae evE_cBool)];rfl
theorem qwj (H:P[43]? = some d_gone_back):callF gl P (d+1) 43 (gbΓ A M) (gS A M D (W++[x]) (C++[W.length+1])) = .ok (.bool true) (gS A M D (W++[x]) C):=by
 rw [qh5 H,qb4 gb_F1,qad]
 have h:evE gl (callF gl P d) (.cmp .eq (.bi .len [(.var 0)]) (.cInt 0)) (gbΓ A M) (gS A M D (W++[x]) (C++[W.length+1])) = .ok (.bool false) (gS A M D (W++[x]) (C++[W.length+1])):=by
  simp only [evE_cNone,evE_cBool,evE_cInt,evE_cStr,qa2,qbf,qb7,qc2,qb9,qb2,qbn,qb1,qbv,qbp,qca,qb8,qa3,qcl,qbg,qba,qa4,evEs_nil,qap,qbh,qbj,gb_0,qam,qad,len_w,eq_ii]
  rw [List.length_append,beq_eq_false_iff_ne.mpr (by simp;lia)]
 have h1:=qgd (gl:=gl) (cf:=callF gl P d) (Γ:=gbΓ A M) (σ:=gS A M D (W++[x]) (C++[W.length+1])) (o:=.var 1) (i:=A.length+1+M.length+1) (xs:=C.map iv) (v:=iv (W.length+1)) rfl (by rw [gS_c,List.map_append];rfl)
 rw [gS_sc] at h1
 show Res.bind (exB _ _ _ _ _) _ true=_
 rw [qac h rfl,qbb h1,qae evE_cBool];rfl
end
end Mine.Internal
namespace Mine.Internal
inductive Edge (F:List Sp) (w:List Nat):Nat×Nat->Nat×Nat->Prop
 | take {n m a:Nat} {b:Bool} {s:List Nat}:F[n]? = some (.take b s m)->hit w b s a=true->Edge F w (n,a) (m,a+1)
 | left {n x y a:Nat}:F[n]? = some (.part x y)->Edge F w (n,a) (x,a)
 | right {n x y a:Nat}:F[n]? = some (.part x y)->Edge F w (n,a) (y,a)
inductive Reach (F:List Sp) (w:List Nat):Nat×Nat->Nat×Nat->Prop
 | refl {x:Nat×Nat}:Reach F w x x
 | step {x y z:Nat×Nat}:Edge F w x y->Reach F w y z->Reach F w x z
section
variable {F:List Sp} {w:List Nat}
theorem Reach.snoc {x y z:Nat×Nat}(h:Reach F w x y)(e:Edge F w y z):Reach F w x z:=by
 induction h with
 | refl=>exact .step e .refl
 | step e' _ ih=>exact .step e' (ih e)
noncomputable def Acy (F:List Sp)(w:List Nat)(x:Nat×Nat):Prop:=∀ y,Edge F w x y->¬ Reach F w y x
theorem qqp {x:Nat×Nat}(h:∀ y,Edge F w x y->Acy F w y):Acy F w x:=λy e r=>by
 cases r with
 | refl=>exact h _ e _ e .refl
 | step e' r'=>exact h y e _ e' (r'.snoc e)
theorem qm9 {a:Nat}(ht:∀ {n m:Nat} {b:Bool} {s:List Nat},F[n]? = some (.take b s m)->hit w b s a=true->Acy F w (m,a+1)){n:Nat}(h:Ends F n):Acy F w (n,a):=by
 induction h with
 | fin e=>exact qqp λy d=>by cases d with | take e' _ | left e' | right e'=>rw [e] at e';cases e'
 | take e=>exact qqp λy d=>by cases d with
  | take e' hh=>exact ht e' hh
  | left e' | right e'=>rw [e] at e';cases e'
 | part e _ _ ih1 ih2=>exact qqp λy d=>by cases d with
  | take e' _=>rw [e] at e';cases e'
  | left e'=>rw [e] at e';cases e';exact ih1
  | right e'=>rw [e] at e';cases e';exact ih2
theorem acy (wf:Wf F)(he:∀ m,m<F.length->Ends F m):∀ (j:Nat) {a n:Nat},w.length<a+j->n<F.length->Acy F w (n,a)
 | 0,a,n,hj,hn=>qm9 (λ_ hh=>absurd (Nat.lt_trans hj (qr4 hh)) (Nat.lt_irrefl _)) (he n hn)
 | j+1,a,n,hj,hn=>qm9 (λe hh=>acy wf he j (by rw [Nat.add_right_comm];exact hj) (qe4 wf e)) (he n hn)
end
structure Seek (F:List Sp) (w:List Nat):Prop where
 wf:Wf F
 ac:∀ n a,n<F.length->Acy F w (n,a)
 room:F.length * (w.length+1)<roomy
 len:w.length<1000000
theorem Good.seek {N:List Sp×Nat}(G:Good N){w:List Nat}(h:N.1.length * (w.length+1)<roomy)(hl:w.length<1000000):Seek N.1 w :=
 ⟨G.wf,λ_ _ hn=>acy G.wf G.ends (w.length+1) (Nat.lt_of_lt_of_le (Nat.lt_succ_self _) (Nat.le_add_left _ _)) hn,h,hl⟩
structure WayOk (F:List Sp) (w:List Nat) (W:List (Nat×Nat)) (x:Nat×Nat):Prop where
 nd:W.Nodup
 bd:∀ y∈W,y.1<F.length∧y.2<w.length+1
 fr:∀ y∈W,¬ Reach F w x y
 hx:x.1<F.length∧x.2<w.length+1
structure DeadOk (F:List Sp) (w:List Nat) (D:List (Nat×Nat)):Prop where
 nd:D.Nodup
 bd:∀ y∈D,y.1<F.length∧y.2<w.length+1
 no:∀ y∈D,No F w y.1 y.2
section
variable {F:List Sp} {w:List Nat} {D W:List (Nat×Nat)} {x y:Nat×Nat}
theorem WayOk.len (h:WayOk F w W x)(K:Seek F w):W.length<roomy:=Nat.lt_of_le_of_lt (qg4 h.nd h.bd) K.room
theorem DeadOk.len (h:DeadOk F w D)(K:Seek F w):D.length<roomy:=Nat.lt_of_le_of_lt (qg4 h.nd h.bd) K.room
theorem Edge.bd (K:Seek F w)(e:Edge F w x y)(h:x.2<w.length+1):y.1<F.length∧y.2<w.length+1:=by
 cases e with
 | take e hh=>exact ⟨qe4 K.wf e,Nat.succ_lt_succ (qr4 hh)⟩
 | left e=>exact ⟨(qe4 K.wf e).1,h⟩
 | right e=>exact ⟨(qe4 K.wf e).2,h⟩
theorem WayOk.step (K:Seek F w)(h:WayOk F w W x)(e:Edge F w x y):WayOk F w (W++[x]) y:=by
 refine ⟨?_,λz hz=>?_,λz hz r=>?_,e.bd K h.hx.2⟩
 ·refine List.nodup_append.mpr ⟨h.nd,List.nodup_cons.mpr ⟨List.not_mem_nil,List.nodup_nil⟩,λa ha b hb q=>?_⟩
  rw [List.mem_singleton.mp hb] at q
  exact h.fr a ha (q ▸ .refl)
 ·rcases List.mem_append.mp hz with q | q
  ·exact h.bd z q
  ·rw [List.mem_singleton.mp q];exact h.hx
 ·rcases List.mem_append.mp hz with q | q
  ·exact h.fr z q (.step e r)
  ·rw [List.mem_singleton.mp q] at r;exact K.ac x.1 x.2 h.hx.1 y e r
theorem DeadOk.ins (h:DeadOk F w D)(hx:x.1<F.length∧x.2<w.length+1)(hn:No F w x.1 x.2):DeadOk F w (Mine.Internal.ins D x):=by
 rw [Mine.Internal.ins]
 split
 ·exact h
 ·rename_i hm
  refine ⟨List.nodup_append.mpr ⟨h.nd,List.nodup_cons.mpr ⟨List.not_mem_nil,List.nodup_nil⟩,λa ha b hb q=>?_⟩,λy hy=>?_,λy hy=>?_⟩
  ·rw [List.mem_singleton.mp hb] at q;exact hm (q ▸ ha)
  ·rcases List.mem_append.mp hy with q | q
   ·exact h.bd y q
   ·rw [List.mem_singleton.mp q];exact hx
  ·rcases List.mem_append.mp hy with q | q
   ·exact h.no y q
   ·rw [List.mem_singleton.mp q];exact hn
end
noncomputable def goN:List St:=[.expr (.app (.var 5) (.tup [(.var 7),(.var 8)])),
    .asg 10 (.idx (.var 4) (.var 7)),
    .ite (.cmp .eq (.idx (.var 10) (.cInt 0)) (.cStr [101,110,100]))
     [.ret (.var 5)]
     [],
    .ite (.cmp .eq (.idx (.var 10) (.cInt 0)) (.cStr [112,97,114,116]))
     [.expr (.app (.var 6) (.bi .len [(.var 5)])),
      .asg 7 (.idx (.var 10) (.cInt 1))]
     [.ite (.call 44 [(.var 10),(.var 1),(.var 8)])
       [.asg 7 (.idx (.var 10) (.cInt 3)),
       .asg 8 (.bin .add (.var 8) (.cInt 1))]
       [.asg 9 (.cBool true)]]]
noncomputable def goS:St:=.ite (.var 9)
    [.ite (.not (.call 43 [(.var 5),(.var 6),(.var 3)]))
     [.ret .cNone]
     [],
    .asg 8 (.idx (.idx (.var 5) (.neg (.cInt 1))) (.cInt 1)),
    .asg 7 (.idx (.idx (.var 4) (.idx (.idx (.var 5) (.neg (.cInt 1))) (.cInt 0))) (.cInt 2))]
    []
noncomputable def goB:List St:=[.asg 9 (.cmp .isin (.tup [(.var 7),(.var 8)]) (.var 3)),.ite (.not (.var 9)) goN [],goS]
structure HG (P:List Def):Prop where
 tk:P[4]? = some d_takes
 gb:P[43]? = some d_gone_back
 tn:P[44]? = some d_taken
 go:P[45]? = some d_gone
section
variable {gl:List V} {cf:CF} {σ σ':Sg} {Γ Γ':Fm} {P:List Def} {d:Nat} {A M:Sg} {D W:List (Nat×Nat)} {C:List Nat} {F:List Sp} {w:List Nat} {n a:Nat} {nv pl x9 x10:V}
theorem in_ref {x:V}{i:Nat}:vCmp σ .isin x (.ref i)=inCell x σ[i]?:=rfl
theorem qp8 (H:P[4]? = some d_takes){b:Bool}{s:List Nat}{c:Nat}:callF gl P (d+1) 4 [.bool b,.str s,.str [c]] σ = .ok (.bool (s.contains c == b)) σ:=by
 cases b with
 | true=>exact qaf (D:=d_takes) (Γ':=[.bool true,.str s,.str [c]]) H rfl (qak (v:=.bool true) (σ':=σ) rfl rfl (qae (σ':=σ) (by rw [beq_true];rfl)))
 | false=>exact qaf (D:=d_takes) (Γ':=[.bool false,.str s,.str [c]]) H rfl ((qac (v:=.bool false) (σ':=σ) rfl rfl).trans (qae (σ':=σ) (by rw [beq_false];rfl)))
theorem str_at {a:Nat}{c:Nat}(hl:w.length<1000000)(h:w[a]? = some c):vIdx σ (.str w) (.int (a:Int))=some (.str [c]) :=
 qfm (k:=a) (xs:=w.map λc=>V.str [c]) rfl rfl (by rw [List.getElem?_map,h];rfl) (by rw [List.length_map];lia)
theorem qp7 (H:HG P)(hl:w.length<1000000){b:Bool}{s:List Nat}{m:Nat}:callF gl P (d+2) 44 [(Sp.take b s m).v,.str w,.int (a:Int)] σ = .ok (.bool (hit w b s a)) σ:=by
 refine qaf (D:=d_taken) (Γ':=[(Sp.take b s m).v,.str w,.int (a:Int)]) H.tn rfl (qae ?_)
 have h1:evE gl (callF gl P (d+1)) (.cmp .lt (.var 2) (.bi .len [(.var 1)])) [(Sp.take b s m).v,.str w,.int (a:Int)] σ = .ok (.bool (decide ((a:Int)<(w.length:Int)))) σ:=rfl
 rw [hit]
 cases hc:w[a]? with
 | none =>
  have:decide ((a:Int)<(w.length:Int))=false:=decide_eq_false (λh=>by rw [List.getElem?_eq_none_iff] at hc;lia)
  rw [this] at h1
  exact qda (q:=true) h1 λh=>by cases h
 | some c =>
  have:decide ((a:Int)<(w.length:Int))=true:=decide_eq_true (by have:=(List.getElem?_eq_some_iff.mp hc).1;lia)
  rw [this] at h1
  refine qda h1 λ_=>?_
  have h2:evE gl (callF gl P (d+1)) (.idx (.var 1) (.var 2)) [(Sp.take b s m).v,.str w,.int (a:Int)] σ = .ok (.str [c]) σ:=by
   show Res.of (vIdx σ (.str w) (.int (a:Int))) σ=_
   rw [str_at hl hc];rfl
  rw [qa3,qap,show evE gl (callF gl P (d+1)) (.idx (.var 0) (.cInt 1)) [(Sp.take b s m).v,.str w,.int (a:Int)] σ = .ok (.bool b) σ from rfl,qad,qap,show evE gl (callF gl P (d+1)) (.idx (.var 0) (.cInt 2)) [(Sp.take b s m).v,.str w,.int (a:Int)] σ = .ok (.str s) σ from rfl,qad,qap,h2]
  exact qp8 H.tk
noncomputable def gΓ (nv:V)(w:List Nat)(pl:V)(A M:Sg)(F:List Sp)(n a:Nat)(x9 x10:V):Fm :=
 [nv,.str w,pl,.ref A.length,.lst (F.map Sp.v),.ref (A.length+1+M.length),.ref (A.length+1+M.length+1),.int (n:Int),.int (a:Int),x9,x10]
theorem qr7:evE gl cf (.cmp .isin (.tup [(.var 7),(.var 8)]) (.var 3)) (gΓ nv w pl A M F n a x9 x10) (gS A M D W C) = .ok (.bool (decide ((n,a)∈D))) (gS A M D W C):=by
 have h:vCmp (gS A M D W C) .isin (.tup [.int (n:Int),.int (a:Int)]) (.ref A.length)=some (decide ((n,a)∈D)):=by
  rw [in_ref,gS_d]
  show some (decide (kv (n,a)∈D.map kv))=_
  rw [decide_eq_decide.mpr qsh]
 show (Res.of (vCmp (gS A M D W C) .isin (.tup [.int (n:Int),.int (a:Int)]) (.ref A.length)) (gS A M D W C)).bind _=_
 rw [h];rfl
theorem qmj (h:(n,a)∈D):exB gl cf goB (gΓ nv w pl A M F n a x9 x10) (gS A M D W C)=exB gl cf [goS] (gΓ nv w pl A M F n a (.bool true) x10) (gS A M D W C):=by
 refine (qab (qr7.trans (by rw [decide_eq_true h]))).trans ?_
 exact qac (v:=.bool false) rfl rfl
theorem qnv {f:Fl}(h:(n,a)∉D)(hb:exB gl cf goN (gΓ nv w pl A M F n a (.bool false) x10) (gS A M D W C) = .ok (f,Γ') σ'):exB gl cf goB (gΓ nv w pl A M F n a x9 x10) (gS A M D W C)=match f with | .next=>exB gl cf [goS] Γ' σ' | .ret v=>.ok (.ret v,Γ') σ':=by
 refine (qab (qr7.trans (by rw [decide_eq_false h]))).trans ?_
 cases f with
 | next=>exact qa6 (v:=.bool true) rfl rfl hb
 | ret v=>exact qak (v:=.bool true) rfl rfl hb
theorem qta {k:Nat}{S:Sp}(hF:F.length<roomy)(hn:F[n]? = some S):vIdx σ (.lst (F.map Sp.v)) (.int (n:Int))=some S.v :=
 qfm (k:=n) (xs:=F.map Sp.v) rfl rfl (by rw [List.getElem?_map,hn];rfl) (by rw [List.length_map];unfold roomy at hF;lia)
theorem go_app (hW:W.length<roomy):evE gl cf (.app (.var 5) (.tup [(.var 7),(.var 8)])) (gΓ nv w pl A M F n a x9 x10) (gS A M D W C) = .ok .none (gS A M D (W++[(n,a)]) C):=by
 have h:=qbu (gl:=gl) (cf:=cf) (o:=.var 5) (x:=.tup [(.var 7),(.var 8)]) (Γ:=gΓ nv w pl A M F n a x9 x10) (σ:=gS A M D W C) (σ₁:=gS A M D W C) (i:=A.length+1+M.length) (v:=pv (n,a)) rfl gS_w rfl gS_w (by rw [List.length_map];exact hW)
 rw [h,show W.map pv++[pv (n,a)]=(W++[(n,a)]).map pv by rw [List.map_append];rfl,gS_sw]
theorem qjp {S:Sp}(hF:F.length<roomy)(hW:W.length<roomy)(hn:F[n]? = some S):exB gl cf goN (gΓ nv w pl A M F n a x9 x10) (gS A M D W C)=exB gl cf (goN.drop 2) (gΓ nv w pl A M F n a x9 S.v) (gS A M D (W++[(n,a)]) C):=by
 refine (qbb (go_app hW)).trans (qab (v:=S.v) (σ':=gS A M D (W++[(n,a)]) C) ?_)
 show Res.of (vIdx _ (.lst (F.map Sp.v)) (.int (n:Int))) _=_
 rw [qta (k:=n) hF hn];rfl
theorem go_fin (hF:F.length<roomy)(hW:W.length<roomy)(hD:(n,a)∉D)(hn:F[n]? = some .fin) :
  exB gl cf goB (gΓ nv w pl A M F n a x9 x10) (gS A M D W C) = .ok (.ret (.ref (A.length+1+M.length)),gΓ nv w pl A M F n a (.bool false) (Sp.v .fin)) (gS A M D (W++[(n,a)]) C) :=
 qnv (f:=.ret (.ref (A.length+1+M.length))) hD ((qjp hF hW hn).trans (qak (v:=.bool true) rfl rfl (qae rfl)))
theorem qmk {x y:Nat}(hF:F.length<roomy)(hW:W.length<roomy)(hC:C.length<roomy)(hD:(n,a)∉D)(hn:F[n]? = some (.part x y)) :
  exB gl cf goB (gΓ nv w pl A M F n a x9 x10) (gS A M D W C) = .ok (.next,gΓ nv w pl A M F x a (.bool false) (Sp.part x y).v) (gS A M D (W++[(n,a)]) (C++[W.length+1])):=by
 refine (qnv (f:=.next) (Γ':=gΓ nv w pl A M F x a (.bool false) (Sp.part x y).v) (σ':=gS A M D (W++[(n,a)]) (C++[W.length+1])) hD ((qjp hF hW hn).trans ((qac (v:=.bool false) rfl rfl).trans ((qa6 (v:=.bool true) (σ':=gS A M D (W++[(n,a)]) C) (σ₂:=gS A M D (W++[(n,a)]) (C++[W.length+1])) rfl rfl ((qbb (v:=.none) (σ':=gS A M D (W++[(n,a)]) (C++[W.length+1])) ?_).trans ((qab (v:=.int (x:Int)) rfl).trans exB_nil0))).trans exB_nil0)))).trans (qac (v:=.bool false) rfl rfl)
 have h:=qbu (gl:=gl) (cf:=cf) (o:=.var 6) (x:=.bi .len [(.var 5)]) (Γ:=gΓ nv w pl A M F n a (.bool false) (Sp.part x y).v) (σ:=gS A M D (W++[(n,a)]) C) (σ₁:=gS A M D (W++[(n,a)]) C) (i:=A.length+1+M.length+1) (v:=iv (W.length+1)) rfl gS_c (by
  show Res.of (vBi _ .len [.ref (A.length+1+M.length)]) _=_
  rw [len_w,List.length_append];rfl) gS_c (by rw [List.length_map];exact hC)
 rw [h,show C.map iv++[iv (W.length+1)]=(C++[W.length+1]).map iv by rw [List.map_append];rfl,gS_sc]
theorem qr1 (H:HG P)(hl:w.length<1000000){b:Bool}{s:List Nat}{m:Nat}{t:Bool}(hh:hit w b s a=t):evE gl (callF gl P (d+2)) (.call 44 [(.var 10),(.var 1),(.var 8)]) (gΓ nv w pl A M F n a x9 (Sp.take b s m).v) σ = .ok (.bool t) σ:=by
 rw [← hh];exact qp7 H hl
theorem qvt (H:HG P)(hl:w.length<1000000){b:Bool}{s:List Nat}{m:Nat}(hF:F.length<roomy)(hW:W.length<roomy)(hD:(n,a)∉D)(hn:F[n]? = some (.take b s m))(hh:hit w b s a=true) :
  exB gl (callF gl P (d+2)) goB (gΓ nv w pl A M F n a x9 x10) (gS A M D W C) = .ok (.next,gΓ nv w pl A M F m (a+1) (.bool false) (Sp.take b s m).v) (gS A M D (W++[(n,a)]) C) :=
 (qnv (f:=.next) (Γ':=gΓ nv w pl A M F m (a+1) (.bool false) (Sp.take b s m).v) (σ':=gS A M D (W++[(n,a)]) C) hD ((qjp hF hW hn).trans ((qac (v:=.bool false) rfl rfl).trans ((qaq (v:=.bool false) (σ':=gS A M D (W++[(n,a)]) C) rfl rfl
  ((qa6 (v:=.bool true) (σ':=gS A M D (W++[(n,a)]) C) (qr1 H hl hh) rfl ((qab (v:=.int (m:Int)) rfl).trans ((qab (v:=.int ((a+1:Nat):Int)) rfl).trans exB_nil0))).trans exB_nil0)).trans exB_nil0)))).trans (qac (v:=.bool false) rfl rfl)
theorem qt5 (H:HG P)(hl:w.length<1000000){b:Bool}{s:List Nat}{m:Nat}(hF:F.length<roomy)(hW:W.length<roomy)(hD:(n,a)∉D)(hn:F[n]? = some (.take b s m))(hh:hit w b s a=false) :
  exB gl (callF gl P (d+2)) goB (gΓ nv w pl A M F n a x9 x10) (gS A M D W C)=exB gl (callF gl P (d+2)) [goS] (gΓ nv w pl A M F n a (.bool true) (Sp.take b s m).v) (gS A M D (W++[(n,a)]) C) :=
 qnv (f:=.next) (Γ':=gΓ nv w pl A M F n a (.bool true) (Sp.take b s m).v) (σ':=gS A M D (W++[(n,a)]) C) hD ((qjp hF hW hn).trans ((qac (v:=.bool false) rfl rfl).trans ((qaq (v:=.bool false) (σ':=gS A M D (W++[(n,a)]) C) rfl rfl
  ((qaq (v:=.bool false) (σ':=gS A M D (W++[(n,a)]) C) (qr1 H hl hh) rfl ((qab (v:=.bool true) rfl).trans exB_nil0)).trans exB_nil0)).trans exB_nil0)))
end
end Mine.Internal
namespace Mine.Internal
section
variable {gl:List V} {cf:CF} {σ σ':Sg} {Γ Γ':Fm} {P:List Def} {d:Nat} {A M:Sg} {D W:List (Nat×Nat)} {C:List Nat} {F:List Sp} {w:List Nat} {n a:Nat} {nv pl x9 x10:V}
theorem qvh {b:List St}:exS gl cf (.while (.cBool true) b) Γ σ=(exB gl cf b Γ σ).bind (x:=true) λp σ=>match p.1 with | .next=>exS gl cf (.while (.cBool true) b) p.2 σ | .ret v=>.ok (.ret v,p.2) σ:=by
 cases hb:exB gl cf b Γ σ with
 | bad=>rw [qcr,qcf];simp only [evE_cBool,qad,qed,qam,if_true,hb,qtv]
 | ex c s=>rw [qcr,qcf];simp only [evE_cBool,qad,qed,qam,if_true,hb,qwa]
 | ok p s =>
  obtain ⟨f,Γ'⟩:=p
  cases f with
  | next=>exact qa7 evE_cBool hb
  | ret v=>exact qhb evE_cBool hb
noncomputable def gL (gl:List V)(cf:CF)(Γ:Fm)(σ:Sg):Res (Fl×Fm):=exS gl cf (.while (.cBool true) goB) Γ σ
noncomputable def gK (gl:List V)(cf:CF)(r:Res (Fl×Fm)):Res (Fl×Fm):=r.bind (x:=true) λp σ=>match p.1 with | .next=>gL gl cf p.2 σ | .ret v=>.ok (.ret v,p.2) σ
theorem gL_eq:gL gl cf Γ σ=gK gl cf (exB gl cf goB Γ σ):=qvh
theorem qe3:gK gl cf (.ok (.next,Γ) σ)=gL gl cf Γ σ:=rfl
noncomputable def goG (gl:List V)(cf:CF)(Γ:Fm)(r:Res V):Res (Fl×Fm) :=
 ((((r.bind λv σ=>(Res.of (vTrue σ v) σ).bind λt σ=>.ok (.bool (!t)) σ).bind λv σ=>(Res.of (vTrue σ v) σ).bind λt σ=>if t then exB gl cf [.ret .cNone] Γ σ else exB gl cf [] Γ σ).bind (x:=true) λp σ=>match p.1 with
  | .next=>exB gl cf [.asg 8 (.idx (.idx (.var 5) (.neg (.cInt 1))) (.cInt 1)),.asg 7 (.idx (.idx (.var 4) (.idx (.idx (.var 5) (.neg (.cInt 1))) (.cInt 0))) (.cInt 2))] p.2 σ
  | .ret v=>.ok (.ret v,p.2) σ).bind (x:=true) λp σ=>match p.1 with | .next=>exB gl cf [] p.2 σ | .ret v=>.ok (.ret v,p.2) σ)
theorem qnu:exB gl cf [goS] (gΓ nv w pl A M F n a (.bool true) x10) σ=goG gl cf (gΓ nv w pl A M F n a (.bool true) x10) (cf 43 (gbΓ A M) σ):=rfl
theorem qm4 {x:Nat×Nat}(H:P[43]? = some d_gone_back)(h:C.getLast?≠some (W.length+1))(hD:D.length<roomy) :
  exB gl (callF gl P (d+1)) [goS] (gΓ nv w pl A M F n a (.bool true) x10) (gS A M D (W++[x]) C)=exB gl (callF gl P (d+1)) [goS] (gΓ nv w pl A M F n a (.bool true) x10) (gS A M (ins D x) W C):=by
 rw [qnu,qnu,gb_pop H h hD]
theorem qve (H:P[43]? = some d_gone_back):exB gl (callF gl P (d+1)) [goS] (gΓ nv w pl A M F n a (.bool true) x10) (gS A M D [] C) = .ok (.ret .none,gΓ nv w pl A M F n a (.bool true) x10) (gS A M D [] C):=by
 rw [qnu,qwh H];rfl
theorem qpm {n' a' x y:Nat}(H:P[43]? = some d_gone_back)(hF:F.length<roomy)(hn:F[n']? = some (.part x y)) :
  exB gl (callF gl P (d+1)) [goS] (gΓ nv w pl A M F n a (.bool true) x10) (gS A M D (W++[(n',a')]) (C++[W.length+1])) = .ok (.next,gΓ nv w pl A M F y a' (.bool true) x10) (gS A M D (W++[(n',a')]) C):=by
 rw [qnu,qwj H]
 have e1:evE gl (callF gl P (d+1)) (.idx (.idx (.var 5) (.neg (.cInt 1))) (.cInt 1)) (gΓ nv w pl A M F n a (.bool true) x10) (gS A M D (W++[(n',a')]) C) = .ok (.int (a':Int)) (gS A M D (W++[(n',a')]) C):=by
  exact (kIdx (kIdx (kVar rfl) (kNeg evE_cInt rfl) (qsb ..)) rfl rfl)
 have e2:evE gl (callF gl P (d+1)) (.idx (.idx (.var 4) (.idx (.idx (.var 5) (.neg (.cInt 1))) (.cInt 0))) (.cInt 2)) (gΓ nv w pl A M F n a' (.bool true) x10) (gS A M D (W++[(n',a')]) C) = .ok (.int (y:Int)) (gS A M D (W++[(n',a')]) C):=by
  rw [qba,qba,qa2,show getV (gΓ nv w pl A M F n a' (.bool true) x10) 4=some (.lst (F.map Sp.v)) from rfl,qam,qad,qba,qba,qa2,show getV (gΓ nv w pl A M F n a' (.bool true) x10) 5=some (.ref (A.length+1+M.length)) from rfl,qam,qad,qb2,evE_cInt,qad,neg_i,qam,qad,qsb,qam,qad,evE_cInt,qad]
  show ((Res.of (vIdx _ (.lst (F.map Sp.v)) (.int (n':Int))) _).bind _)=_
  rw [qta (k:=n') hF hn];rfl
 show (exB gl (callF gl P (d+1)) [.asg 8 (.idx (.idx (.var 5) (.neg (.cInt 1))) (.cInt 1)),.asg 7 (.idx (.idx (.var 4) (.idx (.idx (.var 5) (.neg (.cInt 1))) (.cInt 0))) (.cInt 2))] (gΓ nv w pl A M F n a (.bool true) x10) (gS A M D (W++[(n',a')]) C)).bind (x:=true) _=_
 rw [qab e1,show (gΓ nv w pl A M F n a (.bool true) x10).set 8 (.int (a':Int))=gΓ nv w pl A M F n a' (.bool true) x10 from rfl,qab e2];rfl
theorem qmm {W:List (Nat×Nat)}(h:∀ k,C.getLast? = some k->k≤W.length):C.getLast?≠some (W.length+1):=λe=>absurd (h _ e) (Nat.not_succ_le_self _)
theorem qjs {x:Nat×Nat}(h:∀ k,C.getLast? = some k->k≤W.length):∀ k,C.getLast? = some k->k≤(W++[x]).length:=λk e=>by
 rw [List.length_append];exact Nat.le_succ_of_le (h k e)
theorem qjr {x:Nat×Nat}:∀ k,(C++[W.length+1]).getLast? = some k->k≤(W++[x]).length:=λk e=>by
 rw [List.getLast?_append] at e;cases e;rw [List.length_append];exact Nat.le_refl _
theorem qn1 {x:Nat×Nat}(h:C.length≤W.length):C.length≤(W++[x]).length:=by rw [List.length_append];exact Nat.le_succ_of_le h
theorem qmp {k:Nat}{x:Nat×Nat}(h:C.length≤W.length):(C++[k]).length≤(W++[x]).length:=by rw [List.length_append,List.length_append];exact Nat.succ_le_succ h
theorem Seek.hF (K:Seek F w):F.length<roomy:=Nat.lt_of_le_of_lt (Nat.le_mul_of_pos_right _ (Nat.succ_pos _)) K.room
theorem no_go (H:HG P)(K:Seek F w)(h:No F w n a):∀ {D W:List (Nat×Nat)} {C:List Nat} {x9 x10:V},WayOk F w W (n,a)->DeadOk F w D->(∀ k,C.getLast? = some k->k≤W.length)->C.length≤W.length ->
  ∃ D' n' a' x',(DeadOk F w D'∧True)∧gL gl (callF gl P (d+2)) (gΓ nv w pl A M F n a x9 x10) (gS A M D W C)=gK gl (callF gl P (d+2)) (exB gl (callF gl P (d+2)) [goS] (gΓ nv w pl A M F n' a' (.bool true) x') (gS A M D' W C)):=by
 induction h with
 | stuck e hh =>
  rename_i n m a b s
  intro D W C x9 x10 hW hD hC hl
  by_cases hd:(n,a)∈D
  ·exact ⟨D,n,a,x10,⟨hD,trivial⟩,by rw [gL_eq,qmj hd]⟩
  ·exact ⟨ins D (n,a),n,a,_,⟨hD.ins hW.hx (.stuck e hh),trivial⟩,by rw [gL_eq,qt5 H K.len K.hF (hW.len K) hd e hh,qm4 H.gb (qmm hC) (hD.len K)]⟩
 | take e hh hn ih =>
  rename_i n m a b s
  intro D W C x9 x10 hW hD hC hl
  by_cases hd:(n,a)∈D
  ·exact ⟨D,n,a,x10,⟨hD,trivial⟩,by rw [gL_eq,qmj hd]⟩
  ·obtain ⟨D',n',a',x',⟨hD',hf⟩,h⟩:=ih (W:=W++[(n,a)]) (C:=C) (x9:=.bool false) (x10:=(Sp.take b s m).v) (hW.step K (.take e hh)) hD (qjs hC) (qn1 hl)
   exact ⟨ins D' (n,a),n',a',x',⟨hD'.ins hW.hx (.take e hh hn),trivial⟩,by rw [gL_eq,qvt H K.len K.hF (hW.len K) hd e hh,qe3,h,qm4 H.gb (qmm hC) (hD'.len K)]⟩
 | part e hx hy ih1 ih2 =>
  rename_i n x y a
  intro D W C x9 x10 hW hD hC hl
  by_cases hd:(n,a)∈D
  ·exact ⟨D,n,a,x10,⟨hD,trivial⟩,by rw [gL_eq,qmj hd]⟩
  ·obtain ⟨D',n',a',x',⟨hD',hf⟩,h⟩:=ih1 (W:=W++[(n,a)]) (C:=C++[W.length+1]) (x9:=.bool false) (x10:=(Sp.part x y).v) (hW.step K (.left e)) hD qjr (qmp hl)
   obtain ⟨D'',n'',a'',x'',⟨hD'',hf'⟩,h'⟩:=ih2 (W:=W++[(n,a)]) (C:=C) (x9:=.bool true) (x10:=x') (hW.step K (.right e)) hD' (qjs hC) (qn1 hl)
   exact ⟨ins D'' (n,a),n'',a'',x'',⟨hD''.ins hW.hx (.part e hx hy),trivial⟩,by rw [gL_eq,qmk K.hF (hW.len K) (Nat.lt_of_le_of_lt hl (hW.len K)) hd e,qe3,h,qpm H.gb K.hF e,qe3,h',qm4 H.gb (qmm hC) (hD''.len K)]⟩
theorem DeadOk.fresh {x:Nat×Nat}{p:List (Nat×Nat)}(h:DeadOk F w D)(y:Yes F w x.1 x.2 p):x∉D:=λhx=>(h.no x hx).not y
theorem yes_go (H:HG P)(K:Seek F w){p:List (Nat×Nat)}(h:Yes F w n a p):∀ {D W:List (Nat×Nat)} {C:List Nat} {x9 x10:V},WayOk F w W (n,a)->DeadOk F w D->(∀ k,C.getLast? = some k->k≤W.length)->C.length≤W.length ->
  ∃ D' C' Γ',(DeadOk F w D'∧True)∧gL gl (callF gl P (d+2)) (gΓ nv w pl A M F n a x9 x10) (gS A M D W C) = .ok (.ret (.ref (A.length+1+M.length)),Γ') (gS A M D' (W++p) C'):=by
 induction h with
 | fin e =>
  rename_i n a
  intro D W C x9 x10 hW hD hC hl
  exact ⟨D,C,_,⟨hD,trivial⟩,by rw [gL_eq,go_fin K.hF (hW.len K) (hD.fresh (x:=(n,a)) (.fin e)) e];rfl⟩
 | take e hh y ih =>
  rename_i n m a b s p
  intro D W C x9 x10 hW hD hC hl
  obtain ⟨D',C',Γ',⟨hD',hs⟩,h⟩:=ih (W:=W++[(n,a)]) (C:=C) (x9:=.bool false) (x10:=(Sp.take b s m).v) (hW.step K (.take e hh)) hD (qjs hC) (qn1 hl)
  exact ⟨D',C',Γ',⟨hD',trivial⟩,by rw [gL_eq,qvt H K.len K.hF (hW.len K) (hD.fresh (x:=(n,a)) (.take e hh y)) e hh,qe3,h,List.append_assoc];rfl⟩
 | left e y ih =>
  rename_i n x y' a p
  intro D W C x9 x10 hW hD hC hl
  obtain ⟨D',C',Γ',⟨hD',hs⟩,h⟩:=ih (W:=W++[(n,a)]) (C:=C++[W.length+1]) (x9:=.bool false) (x10:=(Sp.part x y').v) (hW.step K (.left e)) hD qjr (qmp hl)
  exact ⟨D',C',Γ',⟨hD',trivial⟩,by rw [gL_eq,qmk K.hF (hW.len K) (Nat.lt_of_le_of_lt hl (hW.len K)) (hD.fresh (x:=(n,a)) (.left e y)) e,qe3,h,List.append_assoc];rfl⟩
 | right e hn y ih =>
  rename_i n x y' a p
  intro D W C x9 x10 hW hD hC hl
  obtain ⟨D₁,n',a',x',⟨hD₁,hf⟩,h₁⟩:=no_go (nv:=nv) (pl:=pl) (A:=A) (M:=M) (gl:=gl) (d:=d) H K hn (W:=W++[(n,a)]) (C:=C++[W.length+1]) (x9:=.bool false) (x10:=(Sp.part x y').v) (hW.step K (.left e)) hD qjr (qmp hl)
  obtain ⟨D',C',Γ',⟨hD',hs⟩,h⟩:=ih (W:=W++[(n,a)]) (C:=C) (x9:=.bool true) (x10:=x') (hW.step K (.right e)) hD₁ (qjs hC) (qn1 hl)
  exact ⟨D',C',Γ',⟨hD',trivial⟩,by rw [gL_eq,qmk K.hF (hW.len K) (Nat.lt_of_le_of_lt hl (hW.len K)) (hD.fresh (x:=(n,a)) (.right e hn y)) e,qe3,h₁,qpm H.gb K.hF e,qe3,h,List.append_assoc];rfl⟩
theorem gS_0:(A++.dictP (D.map kv)::M)++[.lst []]++[.lst []]=gS A M D [] []:=by rw [gS,List.append_assoc,List.append_assoc];rfl
theorem gS_n:(A++.dictP (D.map kv)::M).length=A.length+1+M.length:=by rw [List.length_append,List.length_cons];lia
theorem qr2 {N:List Sp×Nat}{pl:Nat}(H:HG P){r:V}(h:∃ Γ',gL gl (callF gl P d) (gΓ (netV N) w (.int (pl:Int)) A M N.1 N.2 pl .undef .undef) (gS A M D [] []) = .ok (.ret r,Γ') σ') :
  callF gl P (d+1) 45 [netV N,.str w,.int (pl:Int),.ref A.length] (A++.dictP (D.map kv)::M) = .ok r σ':=by
 obtain ⟨Γ',h⟩:=h
 refine qaf (D:=d_gone) (Γ':=Γ') H.go rfl ?_
 refine (qab (v:=.lst (N.1.map Sp.v)) (σ':=A++.dictP (D.map kv)::M) rfl).trans ((qab (v:=.ref (A.length+1+M.length)) (σ':=(A++.dictP (D.map kv)::M)++[.lst []]) ?_).trans ((qab (v:=.ref (A.length+1+M.length+1)) (σ':=gS A M D [] []) ?_).trans ((qab (v:=.int (N.2:Int)) rfl).trans ((qab (v:=.int (pl:Int)) rfl).trans (qcx h)))))
 ·rw [← gS_n (D:=D)];rfl
 ·rw [← gS_0,← gS_n (D:=D)]
  show Res.ok (V.ref (A++Cell.dictP (D.map kv)::M++[Cell.lst []]).length) _=_
  rw [List.length_append];rfl
theorem WayOk.nil {x:Nat×Nat}(h:x.1<F.length∧x.2<w.length+1):WayOk F w [] x:=⟨List.nodup_nil,λy hy=>(List.not_mem_nil hy).elim,λy hy=>(List.not_mem_nil hy).elim,h⟩
theorem DeadOk.nil:DeadOk F w []:=⟨List.nodup_nil,λy hy=>(List.not_mem_nil hy).elim,λy hy=>(List.not_mem_nil hy).elim⟩
theorem qq3 {N:List Sp×Nat}{pl:Nat}(H:HG P)(G:Good N)(K:Seek N.1 w)(hp:pl<w.length+1)(hD:DeadOk N.1 w D) :
  (∃ p D' C',Yes N.1 w N.2 pl p∧(DeadOk N.1 w D'∧True)∧callF gl P (d+3) 45 [netV N,.str w,.int (pl:Int),.ref A.length] (A++.dictP (D.map kv)::M) = .ok (.ref (A.length+1+M.length)) (gS A M D' p C')) ∨
  (∃ D' C',No N.1 w N.2 pl∧(DeadOk N.1 w D'∧True)∧callF gl P (d+3) 45 [netV N,.str w,.int (pl:Int),.ref A.length] (A++.dictP (D.map kv)::M) = .ok .none (gS A M D' [] C')):=by
 have hw:=WayOk.nil (F:=N.1) (w:=w) (x:=(N.2,pl)) ⟨G.st,hp⟩
 rcases G.total w pl G.st with ⟨p,y⟩ | y
 ·refine x3_2 (yes_go (gl:=gl) (d:=d) (nv:=netV N) (pl:=.int (pl:Int)) (A:=A) (M:=M) H K y (C:=[]) (x9:=.undef) (x10:=.undef) hw hD (λk e=>by cases e) (Nat.le_refl _)) λD' C' Γ' hD' h=>?_
  exact .inl ⟨p,D',C',y,hD',qr2 H ⟨Γ',h⟩⟩
 ·refine x4_2 (no_go (gl:=gl) (d:=d) (nv:=netV N) (pl:=.int (pl:Int)) (A:=A) (M:=M) H K y (C:=[]) (x9:=.undef) (x10:=.undef) hw hD (λk e=>by cases e) (Nat.le_refl _)) λD' n' a' x' hD' h=>?_
  rw [qve H.gb] at h
  exact .inr ⟨D',[],y,hD',qr2 H ⟨_,h⟩⟩
end
end Mine.Internal
namespace Mine.Internal
section
variable {gl:List V} {cf:CF} {σ σ' σ₂:Sg} {Γ Γ':Fm} {P:List Def} {d n:Nat} {s:St} {r a b:List St} {e:Ex} {v:V} {i:Nat}
theorem exB_x (h:exS gl cf s Γ σ = .ex n σ'):exB gl cf (s::r) Γ σ = .ex n σ':=by rw [qaz,h];rfl
theorem exB_raise:exB gl cf (.raise n::r) Γ σ = .ex n σ:=exB_x rfl
theorem qa1 (h:evE gl cf e Γ σ = .ok v σ')(ht:vTrue σ' v=some true)(hr:exB gl cf a Γ σ' = .ex n σ₂):exB gl cf (.ite e a b::r) Γ σ = .ex n σ₂:=exB_x ((qem h ht).trans hr)
theorem qbl (h:evE gl cf e Γ σ = .ok v σ')(ht:vTrue σ' v=some false)(hr:exB gl cf b Γ σ' = .ex n σ₂):exB gl cf (.ite e a b::r) Γ σ = .ex n σ₂:=exB_x ((qc3 h ht).trans hr)
theorem qge (h:evE gl cf e Γ σ = .ex n σ'):exB gl cf (.asg i e::r) Γ σ = .ex n σ':=exB_x (by rw [qdu,h];rfl)
theorem qrt (h:evE gl cf e Γ σ = .ex n σ'):exB gl cf (.expr e::r) Γ σ = .ex n σ':=exB_x (by rw [qe7,h];rfl)
theorem qgf (h:evE gl cf e Γ σ = .ex n σ'):exB gl cf (.ret e::r) Γ σ = .ex n σ':=exB_x (by rw [qdv,h];rfl)
theorem qtp {c:Ex}(h1:evE gl cf c Γ σ = .ok (.bool true) σ)(h2:exB gl cf b Γ σ = .ex n σ'):exS gl cf (.while c b) Γ σ = .ex n σ':=by
 rw [qcr,qcf,h1,qad,qed,qam,qad,if_pos rfl,h2]
 rfl
theorem qcq {f:Nat}{D:Def}{args:List V}(hD:P[f]? = some D)(hl:args.length=D.np)(h:exB gl (callF gl P d) D.body (args++List.replicate (D.nl - D.np) .undef) σ = .ex n σ'):callF gl P (d+1) f args σ = .ex n σ':=by
 rw [qdk hD hl,h];rfl
theorem qk1 {as:List Ex}(h:evE gl cf e Γ σ = .ex n σ'):evEs gl cf (e::as) Γ σ = .ex n σ':=by rw [qap,h];rfl
theorem qra {f:Nat}{as:List Ex}(h:evEs gl cf as Γ σ = .ex n σ'):evE gl cf (.call f as) Γ σ = .ex n σ':=by rw [qa3,h];rfl
theorem bi_x {f:Bi}{as:List Ex}(h:evEs gl cf as Γ σ = .ex n σ'):evE gl cf (.bi f as) Γ σ = .ex n σ':=by rw [qcl,h];rfl
theorem ite_x {a b:Ex}(h:evE gl cf e Γ σ = .ex n σ'):evE gl cf (.ite e a b) Γ σ = .ex n σ':=by rw [qbp,h];rfl
end
inductive NC:List Nat->Prop
 | nil:NC []
 | wave:NC [126]
 | wv (c:Nat) (l:List Nat) (h:NC l):NC (126::c::l)
 | sg (c:Nat) (l:List Nat) (h1:c≠93) (h2:c≠126) (h:NC l):NC (c::l)
theorem scan:∀ (n:Nat) (l:List Nat),l.length≤n->(∃ es post,setFine es∧l=setText es++93::post)∨NC l
 | _,[],_=>.inr .nil
 | 0,_::_,h=>absurd h (Nat.not_succ_le_zero _)
 | n+1,c::l,h=>by
  by_cases h1:c=93
  ·subst h1;exact .inl ⟨[],l,λ_ hp=>absurd hp List.not_mem_nil,rfl⟩
  by_cases h2:c=126
  ·subst h2
   cases l with
   | nil=>exact .inr .wave
   | cons z l =>
    rcases scan n l (Nat.le_of_lt (Nat.le_of_succ_le_succ h)) with ⟨es,post,hf,he⟩ | hn
    ·refine .inl ⟨(true,z)::es,post,λp hp=>?_,by rw [he];rfl⟩
     rcases List.mem_cons.mp hp with rfl | hp
     ·exact λe=>Bool.noConfusion e
     ·exact hf p hp
    ·exact .inr (.wv z l hn)
  ·rcases scan n l (Nat.le_of_succ_le_succ h) with ⟨es,post,hf,he⟩ | hn
   ·refine .inl ⟨(false,c)::es,post,λp hp=>?_,by rw [he];rfl⟩
    rcases List.mem_cons.mp hp with rfl | hp
    ·exact λ_=>⟨h1,h2⟩
    ·exact hf p hp
   ·exact .inr (.sg c l h1 h2 hn)
section
variable {gl:List V} {cf:CF} {σ σ':Sg} {P:List Def} {d:Nat} {w:List Nat} {k:Nat}
theorem drop_nil (h:w.drop k=[]):w.length≤k:=by
 have:=congrArg List.length h
 rw [List.length_drop,List.length_nil] at this
 lia
theorem qs6 (hw:w.length<1000000){ins:Bool}{l:List Nat}(h:NC l):∀ (cs:List Nat) (k:Nat),w.drop k=l->cs.length+l.length<1000000 ->
  ∃ σ',exB gl cf [setW,.raise 1] [.str w,.int (k:Int),.bool ins,.ref σ.length] (σ++[.lst (cs.map λc=>.str [c])]) = .ex 1 σ':=by
 induction h with
 | nil =>
  intro cs k hd _
  exact ⟨_,(qay (qb4 ((qbz rfl rfl).trans (by rw [decide_eq_false (Nat.not_lt.mpr (drop_nil hd))])))).trans exB_raise⟩
 | wave =>
  intro cs k hd _
  refine x0_3 (qav hd) λh1 h2 h3=>?_
  have he:w.length=k+1:=by
   have:=drop_nil h2
   lia
  refine ⟨σ++[.lst (cs.map λc=>.str [c])],exB_x (qtp ((qbz rfl rfl).trans (by rw [decide_eq_true h3])) ((qac (qbc rfl rfl h1 (by lia)) rfl).trans (qa1 (qbc rfl rfl h1 (by lia)) rfl ((qab (qbr (n:=1) rfl)).trans (qa1 (v:=.bool true) ?_ rfl exB_raise)))))⟩
  exact kCmp (kVar rfl) (kBi (kCons (kVar rfl) evEs_nil) len_str) (by rw [eq_ii,he];exact congrArg some (beq_self_eq_true _))
 | wv c l hn ih =>
  intro cs k hd hl
  refine x0_3 (qav hd) λh1 h2 h3=>?_
  refine x0_3 (qav h2) λh4 h5 h6=>?_
  rw [List.length_cons,List.length_cons] at hl
  obtain ⟨σ',ih⟩:=ih (cs++[c]) (k+2) h5 (by rw [List.length_append,List.length_singleton];lia)
  refine ⟨σ',Eq.trans ?_ ih⟩
  have hr:(σ++[Cell.lst (cs.map λc=>.str [c])])[σ.length]? = some (.lst (cs.map λc=>V.str [c])):=List.getElem?_concat_length
  rw [qaz,qaz]
  congr 1
  refine qa7 ((qbz rfl rfl).trans (by rw [decide_eq_true h3])) ((qac (qbc rfl rfl h1 (by lia)) rfl).trans ((qa6 (Γ':=[.str w,.int ((k+1:Nat):Int),.bool ins,.ref σ.length]) (qbc rfl rfl h1 (by lia)) rfl ((qab (qbr (n:=1) rfl)).trans ((qac (qnq rfl rfl h6) rfl).trans exB_nil0))).trans ((qbb (qbu rfl hr (qdz rfl rfl h4 (Nat.lt_trans h6 hw)) hr (by rw [List.length_map];unfold roomy;lia))).trans ((qab (qbr (n:=1) (k:=k+1) rfl)).trans (exB_nil0.trans ?_)))))
  rw [List.map_append,show k+1+1=k+2 from rfl];simp
 | sg c l n1 n2 hn ih =>
  intro cs k hd hl
  refine x0_3 (qav hd) λh1 h2 h3=>?_
  rw [List.length_cons] at hl
  obtain ⟨σ',ih⟩:=ih (cs++[c]) (k+1) h2 (by rw [List.length_append,List.length_singleton];lia)
  refine ⟨σ',Eq.trans ?_ ih⟩
  have hr:(σ++[Cell.lst (cs.map λc=>.str [c])])[σ.length]? = some (.lst (cs.map λc=>V.str [c])):=List.getElem?_concat_length
  rw [qaz,qaz]
  congr 1
  refine qa7 ((qbz rfl rfl).trans (by rw [decide_eq_true h3])) ((qac (qbc rfl rfl h1 (by lia)) (by rw [ne1 n1];rfl)).trans ((qac (qbc rfl rfl h1 (by lia)) (by rw [ne1 n2];rfl)).trans ((qbb (qbu rfl hr (qdz rfl rfl h1 (by lia)) hr (by rw [List.length_map];unfold roomy;lia))).trans ((qab (qbr (n:=1) rfl)).trans (exB_nil0.trans ?_)))))
  rw [List.map_append];simp
theorem NC.tail {l:List Nat}(h:NC (33::l)):NC l:=by
 cases h with
 | sg _ _ _ _ h=>exact h
theorem qq8 (H:HR P)(hw:w.length<1000000)(hn:NC (w.drop k))(hk:k≤w.length):∃ σ',callF gl P (d+1) 16 [.str w,.int (k:Int)] σ = .ex 1 σ':=by
 have hc:evE gl (callF gl P d) (.cmp .eq (.slice (.var 0) (some (.var 1)) (some (.bin .add (.var 1) (.cInt 1)))) (.cStr [33])) [.str w,.int (k:Int),.bool true,.undef] σ = .ok (.bool (w[k]? == some 33)) σ:=by
  exact kCmp (kSlice (kVar rfl) (kSome (kVar rfl) rfl) (kSome (kBin (kVar rfl) evE_cInt rfl) rfl) (qkx (k:=k) (w:=w) (by lia))) evE_cStr (by rw [eq_ss,qlj])
 have tail:∀ {q:Nat} {ins:Bool},NC (w.drop q)->∃ σ',exB gl (callF gl P d) (d_set_at.body.drop 2) [.str w,.int (q:Int),.bool ins,.undef] σ = .ex 1 σ':=λ{q ins} hq=>by
  obtain ⟨σ',hs⟩:=qs6 (gl:=gl) (cf:=callF gl P d) (σ:=σ) hw (ins:=ins) hq [] q rfl (by rw [List.length_nil,List.length_drop];lia)
  refine ⟨σ',(qab (v:=.ref σ.length) (σ':=σ++[Cell.lst []]) ?_).trans hs⟩
  exact (kLst evEs_nil rfl)
 cases hb:(w[k]? == some 33) with
 | false =>
  rw [hb] at hc
  obtain ⟨σ',ht⟩:=tail (ins:=true) hn
  exact ⟨σ',qcq (D:=d_set_at) H.se rfl ((qab evE_cBool).trans ((qac hc rfl).trans ht))⟩
 | true =>
  rw [hb] at hc
  have h33:w[k]? = some 33:=beq_iff_eq.mp hb
  have hlt:k<w.length:=(List.getElem?_eq_some_iff.mp h33).1
  have hd:w.drop k=33::w.drop (k+1):=by
   rw [List.drop_eq_getElem_cons hlt]
   rw [List.getElem?_eq_getElem hlt] at h33
   rw [Option.some.inj h33]
  obtain ⟨σ',ht⟩:=tail (ins:=false) (NC.tail (hd ▸ hn))
  exact ⟨σ',qcq (D:=d_set_at) H.se rfl ((qab evE_cBool).trans ((qa6 (Γ':=[.str w,.int ((k+1:Nat):Int),.bool false,.undef]) hc rfl ((qab evE_cBool).trans ((qab (qbr (n:=1) rfl)).trans exB_nil0))).trans ht))⟩
theorem qp6 (H:HR P)(hw:w.length<1000000){c:Nat}(hk:w[k]? = some c)(hc:(c=91∧NC (w.drop (k+1)))∨(c=126∧w.length=k+1)):∃ σ',callF gl P (d+2) 17 [.str w,.int (k:Int)] σ = .ex 1 σ':=by
 have hlt:k<w.length:=(List.getElem?_eq_some_iff.mp hk).1
 have hs:evE gl (callF gl P (d+1)) (.idx (.var 0) (.var 1)) [.str w,.int (k:Int),.undef] σ = .ok (.str [c]) σ:=qdz rfl rfl hk (Nat.lt_trans hlt hw)
 have tst:∀ {c:Nat} {t:List Nat},evE gl (callF gl P (d+1)) (.cmp .eq (.var 2) (.cStr t)) [.str w,.int (k:Int),.str [c]] σ = .ok (.bool ([c] == t)) σ:=by
  intros
  exact (kCmp (kVar rfl) evE_cStr rfl)
 rcases hc with ⟨rfl,hn⟩ | ⟨rfl,hl⟩
 ·obtain ⟨σ',he⟩:=qq8 (gl:=gl) (d:=d) (σ:=σ) H hw hn hlt
  exact ⟨σ',qcq (D:=d_take_at) H.ta rfl ((qab hs).trans (qa1 tst rfl (qgf (kCall (kCons (kVar rfl) (kCons (qbr (n:=1) rfl) evEs_nil)) he))))⟩
 ·refine ⟨σ,qcq (D:=d_take_at) H.ta rfl ((qab hs).trans ((qac tst rfl).trans ((qac tst rfl).trans (qa1 tst rfl (qa1 (v:=.bool true) ?_ rfl exB_raise)))))⟩
  exact kCmp (kBin (kVar rfl) evE_cInt rfl) (kBi (kCons (kVar rfl) evEs_nil) len_str) (by rw [eq_ii,hl];exact congrArg some (beq_self_eq_true _))
end
end Mine.Internal
namespace Mine.Internal
section
variable {gl:List V} {cf:CF} {σ σ':Sg} {P:List Def} {d n g c:Nat} {a:Ad} {As:List Ad} {x y:List Tree×List Tree} {X:List (List Tree×List Tree)} {w:List Nat} {k:Nat} {r:Bool}
noncomputable def RdX (gl:List V)(cf:CF)(w:List Nat)(k:Nat)(r:Bool)(X:List (List Tree×List Tree))(n:Nat):Prop :=
 ∀ σ g As y4 y5,GS σ g As X->∃ σ',exS gl cf rdW [.str w,.ref g,.bool r,.int (k:Int),y4,y5] σ = .ex n σ'
theorem Rd.thenX {k1:Nat}{r1:Bool}{X1:List (List Tree×List Tree)}(h1:Rd gl cf w k r X k1 r1 X1)(h2:RdX gl cf w k1 r1 X1 n):RdX gl cf w k r X n:=λσ g As y4 y5 h=>by
 refine x4_2 (h1 σ g As y4 y5 h) λσ1 As1 z4 z5 e1 g1=>?_
 obtain ⟨σ',e⟩:=h2 σ1 g As1 z4 z5 g1
 exact ⟨σ',e1.trans e⟩
theorem qer (hw:w.length<1000000)(hk:w[k]? = some c)
  (h:∀ σ g As y5,GS σ g As X->∃ σ',exB gl cf (rdB.drop 1) [.str w,.ref g,.bool r,.int (k:Int),.str [c],y5] σ = .ex n σ'):RdX gl cf w k r X n:=by
 intro σ g As y4 y5 hg
 have hlt:k<w.length:=(List.getElem?_eq_some_iff.mp hk).1
 obtain ⟨σ',e⟩:=h σ g As y5 hg
 exact ⟨σ',qtp ((qbz rfl rfl).trans (by rw [decide_eq_true hlt])) ((qab (qdz rfl rfl hk (by lia))).trans e)⟩
theorem qxd (hw:w.length<1000000)(hk:w[k]? = some c)(hc:c=42∨c=63):RdX gl cf w k false X 3:=by
 refine qer hw hk λσ g As y5 _=>⟨σ,?_⟩
 have t1:vTrue σ (.bool (([c] == [42]) || ([c] == [63])))=some true:=by rcases hc with rfl | rfl <;> rfl
 exact qa1 qcj t1 (qa1 (v:=.bool true) rfl rfl exB_raise)
theorem qxc (hw:w.length<1000000)(hk:w[k]? = some 93):RdX gl cf w k r X 2:=by
 refine qer hw hk λσ g As y5 _=>⟨σ,?_⟩
 exact qbl qcj rfl (qbl qa5 rfl (qbl qa5 rfl (qbl qa5 rfl (qa1 qa5 rfl exB_raise))))
theorem qu5 (hgl:gl[0]? = some (.int 30))(hw:w.length<1000000)(hk:w[k]? = some 40)(hX:30<X.length):RdX gl cf w k r X 5:=by
 refine qer hw hk λσ g As y5 h=>⟨σ,?_⟩
 have hlen:vBi σ .len [.ref g]=some (.int (X.length:Int)):=by rw [qdp h.top,List.length_reverse,List.length_map,h.all.len]
 have t30:evE gl cf (.cmp .gt (.bi .len [(.var 1)]) (.glob 0)) [.str w,.ref g,.bool r,.int (k:Int),.str [40],y5] σ = .ok (.bool true) σ:=by
  exact kCmp (y:=.int 30) (σ₂:=σ) (kBi (kCons (kVar rfl) evEs_nil) hlen) (by rw [qbf,hgl];rfl) (by rw [gt_ii,decide_eq_true (show (X.length:Int) > 30 by lia)])
 exact qbl qcj rfl (qa1 qa5 rfl (qa1 t30 rfl exB_raise))
theorem qu6 (H:HR P)(hw:w.length<1000000)(hk:w[k]? = some 41):RdX gl (callF gl P (d+3)) w k r [x] 2:=by
 refine qer hw hk λσ g As y5 h=>⟨σ,?_⟩
 have hlen:vBi σ .len [.ref g]=some (.int 1):=by rw [qdp h.top,List.length_reverse,List.length_map,h.all.len];rfl
 have hc:callF gl P (d+3) 19 [.ref g] σ = .ex 2 σ:=qcq (D:=d_closed) H.cl rfl (qa1 (v:=.bool true) (kCmp (kBi (kCons (kVar rfl) evEs_nil) hlen) evE_cInt rfl) rfl exB_raise)
 exact qbl qcj rfl (qbl qa5 rfl (qa1 qa5 rfl (qrt (kCall (kCons (kVar rfl) evEs_nil) hc))))
theorem qph (H:HR P)(hw:w.length<1000000)(hk:w[k]? = some c)(hc:(c=91∧NC (w.drop (k+1)))∨(c=126∧w.length=k+1)):RdX gl (callF gl P (d+3)) w k r X 1:=by
 refine qer hw hk λσ g As y5 h=>?_
 obtain ⟨σ',he⟩:=qp6 (gl:=gl) (d:=d+1) (σ:=σ) H hw hk hc
 refine ⟨σ',?_⟩
 have f1:(([c] == [42]) || ([c] == [63]))=false:=by rcases hc with ⟨rfl,_⟩ | ⟨rfl,_⟩ <;> rfl
 have f2:([c] == [40])=false:=by rcases hc with ⟨rfl,_⟩ | ⟨rfl,_⟩ <;> rfl
 have f3:([c] == [41])=false:=by rcases hc with ⟨rfl,_⟩ | ⟨rfl,_⟩ <;> rfl
 have f4:([c] == [124])=false:=by rcases hc with ⟨rfl,_⟩ | ⟨rfl,_⟩ <;> rfl
 have f5:([c] == [93])=false:=by rcases hc with ⟨rfl,_⟩ | ⟨rfl,_⟩ <;> rfl
 exact qbl qcj (by rw [f1];rfl) (qbl qa5 (by rw [f2];rfl) (qbl qa5 (by rw [f3];rfl) (qbl qa5 (by rw [f4];rfl) (qbl qa5 (by rw [f5];rfl)
  (qge (kCall (kCons (kVar rfl) (kCons (kVar rfl) evEs_nil)) he))))))
theorem qu4 (H:HR P)(hw:w.length<1000000){Q:List Tree}{t:Tree}(hk:w[k]? = some 42)(hb:t.bare=true)(hd:t.dep≤d+2):RdX gl (callF gl P (d+3)) w k true ((x.1,Q++[t])::X) 4:=by
 refine qer hw hk λσ g As y5 h=>?_
 refine x2_1 (qhu h) λa As' er2=>?_;subst er2
 have hlt:k<w.length:=(List.getElem?_eq_some_iff.mp hk).1
 have hq:σ[a.2.2]? = some (.lst ((Q++[t]).map Tree.v)):=h.all.1.2.2
 rw [List.map_append] at hq
 replace hq:σ[a.2.2]? = some (.lst (Q.map Tree.v++[t.v])):=hq
 have s3:evE gl (callF gl P (d+2)) (.cmp .ne (.slice (.var 1) (some (.bin .add (.var 2) (.cInt 1))) (some (.bin .add (.var 2) (.cInt 2)))) (.cStr [33])) [.ref a.2.2,.str w,.int (k:Int),.undef,.undef] σ = .ok (.bool (!(w[k+1]? == some 33))) σ:=by
  have hcut:vCut σ (.str w) (some ((k:Int)+1)) (some ((k:Int)+2))=some (.str ((w[k+1]?).toList)):=by
   have:=qkx (σ:=σ) (w:=w) (k:=k+1) (by lia)
   rw [show (((k+1:Nat):Int)+1)=(k:Int)+2 by lia] at this
   exact this
  exact kCmp (kSlice (kVar rfl) (kSome (kBin (kVar rfl) evE_cInt rfl) rfl) (kSome (kBin (kVar rfl) evE_cInt rfl) rfl) hcut) evE_cStr (by rw [ne_ss,qlj])
 have hl:vIdx σ (.ref a.2.2) (.int (-1))=some t.v:=qdj (qc1 hq) rfl (by simp)
 have tb:evE gl (callF gl P (d+2)) (.and (.cmp .eq (.idx (.var 1) (.var 2)) (.cStr [42])) (.call 10 [(.idx (.var 0) (.neg (.cInt 1)))])) [.ref a.2.2,.str w,.int (k:Int),.bool (!(w[k+1]? == some 33)),.undef] σ = .ok (.bool ([42] == [42] && t.bare)) σ:=by
  refine qda (qbc rfl rfl hk (by lia)) λ_=>?_
  exact (kCall (kCons (kIdx (kVar rfl) (kNeg evE_cInt rfl) (hl ..)) evEs_nil) (qgn H.ba (d+2) t hd ..))
 have hc:callF gl P (d+3) 18 [.ref a.2.2,.str w,.int (k:Int)] σ = .ex 4 σ:=qcq (D:=d_repeated) H.re rfl ((qab s3).trans (qa1 tb (by rw [hb];rfl) exB_raise))
 exact ⟨σ,qa1 qcj rfl ((qac (v:=.bool false) rfl rfl).trans (qge (kCall (kCons (qet h) (kCons (kVar rfl) (kCons (kVar rfl) evEs_nil))) hc)))⟩
theorem qp3 (H:HR P)(h:RdX gl (callF gl P (d+3)) w 0 false [([],[])] n):∃ σ',callF gl P (d+4) 20 [.str w] σ = .ex n σ':=by
 obtain ⟨σ',he⟩:=h _ _ _ .undef .undef (qm1 (σ:=σ))
 exact ⟨σ',qcq (D:=d_read) H.rd rfl ((qab read_s1).trans ((qab evE_cBool).trans ((qab evE_cInt).trans (exB_x he))))⟩
theorem qp2 (H:HR P){r':Bool}(h:Rd gl (callF gl P (d+3)) w 0 false [([],[])] w.length r' (x::y::X)):∃ σ',callF gl P (d+4) 20 [.str w] σ = .ex 1 σ':=by
 refine x4_2 (h _ _ _ .undef .undef (qm1 (σ:=σ))) λσ' As' y4 y5 he hg'=>?_
 have hend:exS gl (callF gl P (d+3)) rdW [.str w,.ref (σ.length+3),.bool r',.int (w.length:Int),y4,y5] σ' = .ok (.next,[.str w,.ref (σ.length+3),.bool r',.int (w.length:Int),y4,y5]) σ' :=
  qb4 ((qbz rfl rfl).trans (by rw [decide_eq_false (Nat.lt_irrefl _)]))
 have hlen:vBi σ' .len [.ref (σ.length+3)]=some (.int ((X.length:Int)+2)):=by rw [qdp hg'.top,List.length_reverse,List.length_map,hg'.all.len];rfl
 refine ⟨σ',qcq (D:=d_read) H.rd rfl ((qab read_s1).trans ((qab evE_cBool).trans ((qab evE_cInt).trans ((qay (he.trans hend)).trans (qa1 (v:=.bool true) (σ':=σ') ?_ rfl exB_raise)))))⟩
 exact kCmp (kBi (kCons (kVar rfl) evEs_nil) hlen) evE_cInt (by rw [gt_ii,decide_eq_true (show (X.length:Int)+2 > 1 by lia)])
end
end Mine.Internal
namespace Mine.Internal
abbrev Fr:=Bool×Bool×Bool
noncomputable def fv (f:Fr):V:=.tup [.bool f.1,.bool f.2.1,.bool f.2.2]
noncomputable def lastB (Q:List Tree):Bool:=match Q.getLast? with | none=>true | some t=>t.bare
noncomputable def absG (x:List Tree×List Tree):Fr:=(x.1.any Tree.bare,x.2.dropLast.all Tree.bare,lastB x.2)
noncomputable def frs (X:List (List Tree×List Tree)):List V:=(X.map λx=>fv (absG x)).reverse
theorem qeh {R Q:List Tree}{t:Tree}:absG (R,Q++[t])=(R.any Tree.bare,Q.all Tree.bare,t.bare):=by
 unfold absG lastB;simp
theorem qqn {R:List Tree}:absG (R,[])=(R.any Tree.bare,true,true):=rfl
theorem qh4 {x:List Tree×List Tree}:((absG x).2.1 && (absG x).2.2)=x.2.all Tree.bare:=by
 obtain ⟨R,Q⟩:=x
 rcases List.eq_nil_or_concat Q with rfl | ⟨Q,t,rfl⟩
 ·rfl
 ·rw [List.concat_eq_append,qeh];simp
theorem ql2 {Q:List Tree}:(rt Q).bare=Q.all Tree.bare:=by
 match Q with
 | []=>rfl
 | [t]=>simp [rt]
 | a::b::r=>exact qna
theorem qv9 {x:List Tree×List Tree}:(gt x).bare=(x.1.any Tree.bare || x.2.all Tree.bare):=by
 obtain ⟨R,Q⟩:=x
 cases R with
 | nil=>exact ql2
 | cons a r =>
  show (Tree.pick ((a::r)++[rt Q])).bare=_
  rw [qkj,List.any_append,← ql2];simp
section
variable {gl:List V} {cf:CF} {σ σ':Sg} {Γ:Fm} {P:List Def} {d c i:Nat} {w:List Nat} {k:Nat} {f f':Fr} {G F:List V}
theorem qrz (h:Γ[i]? = some (fv f)):getV Γ i=some (fv f):=by rw [getV,h];rfl
theorem fr0 (h:Γ[i]? = some (fv f)):evE gl cf (.idx (.var i) (.cInt 0)) Γ σ = .ok (.bool f.1) σ:=kIdx (kVar (qrz h)) evE_cInt rfl
theorem fr1 (h:Γ[i]? = some (fv f)):evE gl cf (.idx (.var i) (.cInt 1)) Γ σ = .ok (.bool f.2.1) σ:=kIdx (kVar (qrz h)) evE_cInt rfl
theorem fr2 (h:Γ[i]? = some (fv f)):evE gl cf (.idx (.var i) (.cInt 2)) Γ σ = .ok (.bool f.2.2) σ:=kIdx (kVar (qrz h)) evE_cInt rfl
theorem fr12 (h:Γ[i]? = some (fv f)):evE gl cf (.and (.idx (.var i) (.cInt 1)) (.idx (.var i) (.cInt 2))) Γ σ = .ok (.bool (f.2.1 && f.2.2)) σ:=qda (fr1 h) λ_=>fr2 h
theorem fr012 (h:Γ[i]? = some (fv f)):evE gl cf (.or (.idx (.var i) (.cInt 0)) (.and (.idx (.var i) (.cInt 1)) (.idx (.var i) (.cInt 2)))) Γ σ = .ok (.bool (f.1 || (f.2.1 && f.2.2))) σ:=or_bb (fr0 h) λ_=>fr12 h
theorem idx_m1 {a:V}:vIdx σ (.lst (G++[a])) (.int (-1))=some a:=qdj rfl rfl (by simp)
theorem idx_m2 {a b:V}:vIdx σ (.lst (G++[a]++[b])) (.int (-2))=some a:=by
 have hl:(G++[a]++[b]).length=G.length+2:=by simp
 have hn:nIdx (-2) (G++[a]++[b]).length=some G.length:=by
  rw [hl];unfold nIdx
  rw [if_neg (by decide),if_pos (by lia)]
  congr 1;lia
 have hs:small (-2)=true:=by decide
 unfold vIdx
 show (if small (-2)=true then (some (G++[a]++[b])).bind λxs=>(nIdx (-2) xs.length).bind λk=>xs[k]? else none)=_
 rw [if_pos hs]
 rw [Option.bind_some,hn,Option.bind_some]
 simp
theorem cut_m2 {a b:V}:cut (G++[a]++[b]) none (some (-2))=G:=by
 have hl:(G++[a]++[b]).length=G.length+2:=by simp
 show ((G++[a]++[b]).take (clamp (-2) (G++[a]++[b]).length)).drop 0=_
 have hc:clamp (-2) (G++[a]++[b]).length=G.length:=by
  rw [hl];unfold clamp
  rw [if_pos (by decide)];lia
 rw [hc,List.drop_zero,List.append_assoc,List.take_left]
theorem sl_m1 {a:V}(h:Γ[i]? = some (.lst (G++[a]))):evE gl cf (.slice (.var i) none (some (.neg (.cInt 1)))) Γ σ = .ok (.lst G) σ :=
 kSlice (kVar (v:=.lst (G++[a])) (by rw [getV,h])) qbh (kSome (kNeg evE_cInt rfl) rfl) (by rw [qpt rfl (by decide),qvq rfl,List.dropLast_concat])
theorem sl_m2 {a b:V}(h:Γ[i]? = some (.lst (G++[a]++[b]))):evE gl cf (.slice (.var i) none (some (.neg (.cInt 2)))) Γ σ = .ok (.lst G) σ :=
 kSlice (kVar (v:=.lst (G++[a]++[b])) (by rw [getV,h])) qbh (kSome (kNeg evE_cInt rfl) rfl) (by rw [qpt rfl (by decide)];exact congrArg (λz=>some (V.lst z)) cut_m2)
theorem qkh {A a b c:Ex}{p q r:Bool}(hA:evE gl cf A Γ σ = .ok (.lst G) σ)(ha:evE gl cf a Γ σ = .ok (.bool p) σ)(hb:evE gl cf b Γ σ = .ok (.bool q) σ)(hc:evE gl cf c Γ σ = .ok (.bool r) σ)(hn:G.length<1000) :
  evE gl cf (.bin .add A (.lst false [(.tup [a,b,c])])) Γ σ = .ok (.lst (G++[fv (p,q,r)])) σ :=
 kBin hA (kLst (kCons (kTup (kCons ha (kCons hb (kCons hc evEs_nil))) roomy3) evEs_nil) putL_1) (qtl (by simp only [List.length_cons,List.length_nil];unfold roomy;lia))
structure HD (P:List Def):Prop where
 se:P[50]? = some d_l_set_end
 cl:P[51]? = some d_l_closed
 gr:P[52]? = some d_l_grouped
 wr:P[53]? = some d_l_wrong_repeat
 du:P[54]? = some d_l_due_v06
theorem qkn (H:HD P)(hn:G.length<1000):callF gl P (d+1) 51 [.lst (G++[fv f']++[fv f])] σ = .ok (.lst (G++[fv (f'.1,f'.2.1 && f'.2.2,f.1 || (f.2.1 && f.2.2))])) σ:=by
 refine qaf (D:=d_l_closed) H.cl rfl ((qab (v:=fv f) (kIdx (kVar rfl) (kNeg evE_cInt rfl) idx_m1)).trans ((qab (v:=fv f') (kIdx (kVar rfl) (kNeg evE_cInt rfl) idx_m2)).trans ((qab (fr012 (f:=f) rfl)).trans (qae (qkh (sl_m2 rfl) (fr0 (f:=f') rfl) (fr12 (f:=f') rfl) (kVar rfl) hn)))))
theorem qby {j:Nat}{t:List Nat}(h:Γ[j]? = some (.str [c])):evE gl cf (.cmp .eq (.var j) (.cStr t)) Γ σ = .ok (.bool ([c] == t)) σ:=kCmp (kVar (v:=.str [c]) (by rw [getV,h])) evE_cStr rfl
theorem qq4 (H:HD P)(hF:F=G++[fv f])(hn:F.length<1000):callF gl P (d+2) 52 [.lst F,.str [40]] σ = .ok (if 30<F.length then .str [100,101,101,112] else .lst (F++[fv (false,true,true)])) σ:=by
 have h0:vIdx σ (.lst F) (.int (-1))=some (fv f):=by rw [hF];exact idx_m1
 have t1:evE gl (callF gl P (d+1)) (.and (.cmp .eq (.var 1) (.cStr [40])) (.cmp .gt (.bi .len [(.var 0)]) (.cInt 30))) [.lst F,.str [40],fv f] σ = .ok (.bool ([40] == [40] && decide (30<F.length))) σ :=
  qda (qby rfl) λ_=>kCmp (kBi (kCons (kVar rfl) evEs_nil) bi_len_l) evE_cInt (by rw [gt_ii,decide_eq_decide.mpr (show (F.length:Int) > 30↔30<F.length by lia)])
 by_cases h:30<F.length
 ·rw [if_pos h]
  exact qaf (D:=d_l_grouped) H.gr rfl ((qab (kIdx (kVar rfl) (kNeg evE_cInt rfl) h0)).trans (qak t1 (by rw [decide_eq_true h];rfl) (qae evE_cStr)))
 ·rw [if_neg h]
  exact qaf (D:=d_l_grouped) H.gr rfl ((qab (kIdx (kVar rfl) (kNeg evE_cInt rfl) h0)).trans ((qac t1 (by rw [decide_eq_false h];rfl)).trans (qak (qby rfl) rfl (qae (qkh (kVar rfl) evE_cBool evE_cBool evE_cBool hn)))))
theorem qtx (H:HD P)(hn:G.length<1000):callF gl P (d+2) 52 [.lst (G++[fv f]),.str [124]] σ = .ok (.lst (G++[fv (f.1 || (f.2.1 && f.2.2),true,true)])) σ:=by
 have t1:evE gl (callF gl P (d+1)) (.and (.cmp .eq (.var 1) (.cStr [40])) (.cmp .gt (.bi .len [(.var 0)]) (.cInt 30))) [.lst (G++[fv f]),.str [124],fv f] σ = .ok (.bool (([124] == [40]) && false)) σ :=
  qda (qby rfl) λh=>absurd h (by decide)
 exact qaf (D:=d_l_grouped) H.gr rfl ((qab (v:=fv f) (kIdx (kVar rfl) (kNeg evE_cInt rfl) idx_m1)).trans ((qac t1 rfl).trans ((qac (qby rfl) rfl).trans (qak (qby rfl) rfl (qae (qkh (sl_m1 rfl) (fr012 (f:=f) rfl) evE_cBool evE_cBool hn))))))
theorem qp4 (H:HD P):callF gl P (d+2) 52 [.lst [fv f],.str [41]] σ = .ok (.str [117,110,111,112,101,110,101,100]) σ:=by
 have t1:evE gl (callF gl P (d+1)) (.and (.cmp .eq (.var 1) (.cStr [40])) (.cmp .gt (.bi .len [(.var 0)]) (.cInt 30))) [.lst [fv f],.str [41],fv f] σ = .ok (.bool (([41] == [40]) && false)) σ :=
  qda (qby rfl) λh=>absurd h (by decide)
 exact qaf (D:=d_l_grouped) H.gr rfl ((qab (v:=fv f) (kIdx (kVar rfl) (kNeg evE_cInt rfl) (idx_m1 (G:=[])))).trans ((qac t1 rfl).trans ((qac (qby rfl) rfl).trans ((qac (qby rfl) rfl).trans (qak (v:=.bool true) (kCmp (kBi (kCons (kVar rfl) evEs_nil) bi_len_l) evE_cInt rfl) rfl (qae evE_cStr))))))
theorem qp5 (H:HD P)(hn:G.length<1000):callF gl P (d+2) 52 [.lst (G++[fv f']++[fv f]),.str [41]] σ = .ok (.lst (G++[fv (f'.1,f'.2.1 && f'.2.2,f.1 || (f.2.1 && f.2.2))])) σ:=by
 have t1:evE gl (callF gl P (d+1)) (.and (.cmp .eq (.var 1) (.cStr [40])) (.cmp .gt (.bi .len [(.var 0)]) (.cInt 30))) [.lst (G++[fv f']++[fv f]),.str [41],fv f] σ = .ok (.bool (([41] == [40]) && false)) σ :=
  qda (qby rfl) λh=>absurd h (by decide)
 have t2:evE gl (callF gl P (d+1)) (.cmp .eq (.bi .len [(.var 0)]) (.cInt 1)) [.lst (G++[fv f']++[fv f]),.str [41],fv f] σ = .ok (.bool false) σ :=
  kCmp (kBi (kCons (kVar rfl) evEs_nil) bi_len_l) evE_cInt (by rw [eq_ii,beq_eq_false_iff_ne.mpr];simp only [List.length_append,List.length_cons,List.length_nil];lia)
 exact qaf (D:=d_l_grouped) H.gr rfl ((qab (v:=fv f) (kIdx (kVar rfl) (kNeg evE_cInt rfl) idx_m1)).trans ((qac t1 rfl).trans ((qac (qby rfl) rfl).trans ((qac (qby rfl) rfl).trans ((qac t2 rfl).trans (qae (kCall (kCons (kVar rfl) evEs_nil) (qkn H hn))))))))
theorem qfr (H:HD P){r:Bool}:callF gl P (d+1) 53 [.str [c],.bool r,fv f] σ = .ok (.str (if r then (if [c] == [42] && f.2.2 then [114,111,117,110,100] else []) else [110,111,116,104,105,110,103])) σ:=by
 cases r with
 | false=>exact qaf (D:=d_l_wrong_repeat) H.wr rfl (qak (v:=.bool true) rfl rfl (qae evE_cStr))
 | true =>
  have t1:evE gl (callF gl P d) (.and (.cmp .eq (.var 0) (.cStr [42])) (.idx (.var 2) (.cInt 2))) [.str [c],.bool true,fv f] σ = .ok (.bool ([c] == [42] && f.2.2)) σ:=qda (qby rfl) λ_=>fr2 rfl
  rw [if_pos rfl]
  cases hb:([c] == [42] && f.2.2) with
  | true=>rw [hb] at t1;exact qaf (D:=d_l_wrong_repeat) H.wr rfl ((qac (v:=.bool false) rfl rfl).trans (qak t1 rfl (qae evE_cStr)))
  | false=>rw [hb] at t1;exact qaf (D:=d_l_wrong_repeat) H.wr rfl ((qac (v:=.bool false) rfl rfl).trans ((qac t1 rfl).trans (qae evE_cStr)))
end
end Mine.Internal
namespace Mine.Internal
noncomputable def seW:St:=.while (.and (.cmp .lt (.var 1) (.bi .len [(.var 0)])) (.cmp .ne (.idx (.var 0) (.var 1)) (.cStr [93])))
  [.ite (.cmp .eq (.idx (.var 0) (.var 1)) (.cStr [126]))
    [.asg 1 (.bin .add (.var 1) (.cInt 1))]
    [],
   .asg 1 (.bin .add (.var 1) (.cInt 1))]
noncomputable def duT:List St:=[.ite (.cmp .eq (.var 4) (.cStr [93]))
       [.ret (.cStr [117,110,111,112,101,110,101,100])]
       [],
      .ite (.cmp .eq (.var 4) (.cStr [91]))
       [.asg 3 (.call 50 [(.var 0),(.bin .add (.var 3) (.cInt 1))])]
       [],
      .ite (.cmp .eq (.var 4) (.cStr [126]))
       [.asg 3 (.bin .add (.var 3) (.cInt 1))]
       [],
      .ite (.cmp .ge (.var 3) (.bi .len [(.var 0)]))
       [.ret (.cStr [117,110,99,108,111,115,101,100])]
       [],
      .asg 1 (.bin .add (.slice (.var 1) none (some (.neg (.cInt 1)))) (.lst false [(.tup [(.idx (.var 5) (.cInt 0)),(.and (.idx (.var 5) (.cInt 1)) (.idx (.var 5) (.cInt 2))),(.cBool false)])]))]
noncomputable def duR:List St:=[.asg 6 (.call 53 [(.var 4),(.var 2),(.var 5)]),
      .ite (.cmp .ne (.var 6) (.cStr []))
       [.ret (.var 6)]
       [],
      .asg 1 (.bin .add (.slice (.var 1) none (some (.neg (.cInt 1)))) (.lst false [(.tup [(.idx (.var 5) (.cInt 0)),(.idx (.var 5) (.cInt 1)),(.cBool true)])])),
      .ite (.cmp .eq (.slice (.var 0) (some (.bin .add (.var 3) (.cInt 1))) (some (.bin .add (.var 3) (.cInt 2)))) (.cStr [33]))
       [.asg 3 (.bin .add (.var 3) (.cInt 1))]
       []]
noncomputable def duI:St:=.ite (.cmp .isin (.var 4) (.cStr [40,124,41]))
    [.asg 1 (.call 52 [(.var 1),(.var 4)]),
    .ite (.bi .isStr [(.var 1)])
     [.ret (.var 1)]
     []]
    [.ite (.cmp .isin (.var 4) (.cStr [42,63])) duR duT]
noncomputable def duB:List St:=[.asg 4 (.idx (.var 0) (.var 3)),
   .asg 5 (.idx (.var 1) (.neg (.cInt 1))),duI,
   .asg 2 (.cmp .notin (.var 4) (.cStr [40,124,42,63])),
   .asg 3 (.bin .add (.var 3) (.cInt 1))]
noncomputable def duW:St:=.while (.cmp .lt (.var 3) (.bi .len [(.var 0)])) duB
section
variable {gl:List V} {cf:CF} {σ σ':Sg} {Γ:Fm} {P:List Def} {d c i:Nat} {w:List Nat} {k:Nat} {f f':Fr} {G F F':List V} {r:Bool}
theorem qj5 (h:w[k]? = some c)(hw:w.length<1000000):evE gl cf (.and (.cmp .lt (.var 1) (.bi .len [(.var 0)])) (.cmp .ne (.idx (.var 0) (.var 1)) (.cStr [93]))) [.str w,.int (k:Int)] σ = .ok (.bool (true && !([c] == [93]))) σ:=by
 have hlt:k<w.length:=(List.getElem?_eq_some_iff.mp h).1
 exact qda ((qbz rfl rfl).trans (by rw [decide_eq_true hlt])) λ_=>kCmp (qdz rfl rfl h (by lia)) evE_cStr rfl
theorem se_wv {c':Nat}(hw:w.length<1000000){l:List Nat}(hd:w.drop k=126::c'::l):exS gl cf seW [.str w,.int (k:Int)] σ=exS gl cf seW [.str w,.int ((k+2:Nat):Int)] σ:=by
 refine x0_3 (qav hd) λh1 h2 h3=>?_
 exact qa7 (qj5 h1 hw) ((qa6 (Γ':=[.str w,.int ((k+1:Nat):Int)]) (qbc rfl rfl h1 (by lia)) rfl ((qab (qbr (n:=1) rfl)).trans exB_nil0)).trans ((qab (qbr (n:=1) (k:=k+1) rfl)).trans exB_nil0))
theorem se_sg (hw:w.length<1000000){l:List Nat}(hd:w.drop k=c::l)(n1:c≠93)(n2:c≠126):exS gl cf seW [.str w,.int (k:Int)] σ=exS gl cf seW [.str w,.int ((k+1:Nat):Int)] σ:=by
 refine x0_3 (qav hd) λh1 h2 h3=>?_
 exact qa7 ((qj5 h1 hw).trans (by rw [ne1 n1];rfl)) ((qac (qbc rfl rfl h1 (by lia)) (by rw [ne1 n2];rfl)).trans ((qab (qbr (n:=1) rfl)).trans exB_nil0))
theorem qm3 (hw:w.length<1000000){post:List Nat}:∀ (es:List (Bool×Nat)) (k:Nat),setFine es->w.drop k=setText es++93::post->exS gl cf seW [.str w,.int (k:Int)] σ = .ok (.next,[.str w,.int ((k+(setText es).length:Nat):Int)]) σ
 | [],k,_,hd=>by
  refine x0_3 (qav (show w.drop k=93::post from hd)) λh1 h2 h3=>?_
  exact qb4 (qj5 h1 hw)
 | (true,c)::es,k,hf,hd=>by
  have hd':w.drop k=126::c::(setText es++93::post):=hd
  refine (se_wv hw hd').trans ((qm3 hw es (k+2) (λp hp=>hf p (List.mem_cons_of_mem _ hp)) (by rw [← List.drop_drop,hd'];rfl)).trans ?_)
  rw [qds,List.length_cons,List.length_cons,show k+2+(setText es).length=k+((setText es).length+1+1) by lia]
 | (false,c)::es,k,hf,hd=>by
  have hd':w.drop k=c::(setText es++93::post):=hd
  obtain ⟨n1,n2⟩:=hf (false,c) List.mem_cons_self rfl
  refine (se_sg hw hd' n1 n2).trans ((qm3 hw es (k+1) (λp hp=>hf p (List.mem_cons_of_mem _ hp)) (by rw [← List.drop_drop,hd'];rfl)).trans ?_)
  rw [qct,List.length_cons,show k+1+(setText es).length=k+((setText es).length+1) by lia]
theorem qv5 (h:w.length≤k):exS gl cf seW [.str w,.int (k:Int)] σ = .ok (.next,[.str w,.int (k:Int)]) σ :=
 qb4 (qda (p:=false) (q:=false) ((qbz rfl rfl).trans (by rw [decide_eq_false (Nat.not_lt.mpr h)])) λh=>nomatch h)
theorem qvb (hw:w.length<1000000){l:List Nat}(h:NC l):∀ (k:Nat),w.drop k=l->∃ j:Nat,w.length≤j∧∀ σ,exS gl cf seW [.str w,.int (k:Int)] σ = .ok (.next,[.str w,.int (j:Int)]) σ:=by
 induction h with
 | nil=>exact λk hd=>⟨k,drop_nil hd,λ_=>qv5 (drop_nil hd)⟩
 | wave =>
  intro k hd
  refine x0_3 (qav hd) λh1 h2 h3=>?_
  have hl:=drop_nil h2
  refine ⟨k+2,by lia,λσ=>Eq.trans ?_ (qv5 (gl:=gl) (cf:=cf) (k:=k+2) (by lia))⟩
  exact qa7 (qj5 h1 hw) ((qa6 (Γ':=[.str w,.int ((k+1:Nat):Int)]) (qbc rfl rfl h1 (by lia)) rfl ((qab (qbr (n:=1) rfl)).trans exB_nil0)).trans ((qab (qbr (n:=1) (k:=k+1) rfl)).trans exB_nil0))
 | wv c l hn ih =>
  intro k hd
  obtain ⟨j,h1,h2⟩:=ih (k+2) (by rw [← List.drop_drop,hd];rfl)
  exact ⟨j,h1,λσ=>(se_wv hw hd).trans (h2 σ)⟩
 | sg c l n1 n2 hn ih =>
  intro k hd
  obtain ⟨j,h1,h2⟩:=ih (k+1) (by rw [← List.drop_drop,hd];rfl)
  exact ⟨j,h1,λσ=>(se_sg hw hd n1 n2).trans (h2 σ)⟩
theorem qq7 {j:Nat}(H:HD P)(h:exS gl (callF gl P d) seW [.str w,.int (k:Int)] σ = .ok (.next,[.str w,.int (j:Int)]) σ):callF gl P (d+1) 50 [.str w,.int (k:Int)] σ = .ok (.int (j:Int)) σ :=
 qaf (D:=d_l_set_end) H.se rfl ((qay h).trans (qae (kVar rfl)))
noncomputable def Du (gl:List V)(cf:CF)(w:List Nat)(k:Nat)(r:Bool)(F:List V)(k':Nat)(r':Bool)(F':List V):Prop :=
 ∀ σ y4 y5 y6,∃ y4' y5' y6',exS gl cf duW [.str w,.lst F,.bool r,.int (k:Int),y4,y5,y6] σ=exS gl cf duW [.str w,.lst F',.bool r',.int (k':Int),y4',y5',y6'] σ
noncomputable def DuX (gl:List V)(cf:CF)(w:List Nat)(k:Nat)(r:Bool)(F:List V)(s:List Nat):Prop :=
 ∀ σ y4 y5 y6,∃ Γ,exS gl cf duW [.str w,.lst F,.bool r,.int (k:Int),y4,y5,y6] σ = .ok (.ret (.str s),Γ) σ
theorem Du.refl:Du gl cf w k r F k r F:=λ_ y4 y5 y6=>⟨y4,y5,y6,rfl⟩
theorem Du.trans {k1 k2:Nat}{r1 r2:Bool}{F1 F2:List V}(h1:Du gl cf w k r F k1 r1 F1)(h2:Du gl cf w k1 r1 F1 k2 r2 F2):Du gl cf w k r F k2 r2 F2:=λσ y4 y5 y6=>by
 obtain ⟨a,b,c,e⟩:=h1 σ y4 y5 y6
 obtain ⟨a',b',c',e'⟩:=h2 σ a b c
 exact ⟨a',b',c',e.trans e'⟩
theorem Du.thenX {k1:Nat}{r1:Bool}{F1:List V}{s:List Nat}(h1:Du gl cf w k r F k1 r1 F1)(h2:DuX gl cf w k1 r1 F1 s):DuX gl cf w k r F s:=λσ y4 y5 y6=>by
 obtain ⟨a,b,c,e⟩:=h1 σ y4 y5 y6
 obtain ⟨Γ,e'⟩:=h2 σ a b c
 exact ⟨Γ,e.trans e'⟩
theorem qmf {j:Nat}(hw:w.length<1000000)(hk:w[k]? = some c)(hF:F=G++[fv f])
  (h:∀ σ y6,∃ y6',exS gl cf duI [.str w,.lst F,.bool r,.int (k:Int),.str [c],fv f,y6] σ = .ok (.next,[.str w,.lst F',.bool r,.int (j:Int),.str [c],fv f,y6']) σ):Du gl cf w k r F (j+1) (!([40,124,42,63].contains c)) F':=by
 intro σ y4 y5 y6
 have hlt:k<w.length:=(List.getElem?_eq_some_iff.mp hk).1
 obtain ⟨y6',e⟩:=h σ y6
 have h0:vIdx σ (.lst F) (.int (-1))=some (fv f):=by rw [hF];exact idx_m1
 exact ⟨_,_,_,qa7 ((qbz rfl rfl).trans (by rw [decide_eq_true hlt])) ((qab (qdz rfl rfl hk (by lia))).trans ((qab (v:=fv f) (kIdx (kVar rfl) (kNeg evE_cInt rfl) h0)).trans ((qay e).trans ((qab (kCmp (kVar rfl) evE_cStr rfl)).trans ((qab (qbr (n:=1) rfl)).trans exB_nil0)))))⟩
theorem qgc {s:List Nat}(hw:w.length<1000000)(hk:w[k]? = some c)(hF:F=G++[fv f])
  (h:∀ σ y6,∃ Γ,exS gl cf duI [.str w,.lst F,.bool r,.int (k:Int),.str [c],fv f,y6] σ = .ok (.ret (.str s),Γ) σ):DuX gl cf w k r F s:=by
 intro σ y4 y5 y6
 have hlt:k<w.length:=(List.getElem?_eq_some_iff.mp hk).1
 obtain ⟨Γ,e⟩:=h σ y6
 have h0:vIdx σ (.lst F) (.int (-1))=some (fv f):=by rw [hF];exact idx_m1
 exact ⟨_,qhb ((qbz rfl rfl).trans (by rw [decide_eq_true hlt])) ((qab (qdz rfl rfl hk (by lia))).trans ((qab (v:=fv f) (kIdx (kVar rfl) (kNeg evE_cInt rfl) h0)).trans (qcx e)))⟩
theorem qcy {b:List Nat}{y1 y2 y3 y5 y6:V}:evE gl cf (.cmp .isin (.var 4) (.cStr b)) [.str w,y1,y2,y3,.str [c],y5,y6] σ = .ok (.bool (b.contains c)) σ:=kCmp (kVar rfl) evE_cStr rfl
theorem qjg (hw:w.length<1000000)(hk:w[k]? = some c)(hF:F=G++[fv f])(hc:[40,124,41].contains c=true)(h:∀ σ,cf 52 [.lst F,.str [c]] σ = .ok (.lst F') σ):Du gl cf w k r F (k+1) (!([40,124,42,63].contains c)) F' :=
 qmf hw hk hF λσ y6=>⟨y6,(qem qcy (by rw [hc];rfl)).trans ((qab (kCall (kCons (kVar rfl) (kCons (kVar rfl) evEs_nil)) (h σ))).trans ((qac (v:=.bool false) (kBi (kCons (kVar rfl) evEs_nil) rfl) rfl).trans exB_nil0))⟩
theorem qkz {s:List Nat}(hw:w.length<1000000)(hk:w[k]? = some c)(hF:F=G++[fv f])(hc:[40,124,41].contains c=true)(h:∀ σ,cf 52 [.lst F,.str [c]] σ = .ok (.str s) σ):DuX gl cf w k r F s :=
 qgc hw hk hF λσ y6=>⟨_,(qem qcy (by rw [hc];rfl)).trans ((qab (kCall (kCons (kVar rfl) (kCons (kVar rfl) evEs_nil)) (h σ))).trans (qak (v:=.bool true) (kBi (kCons (kVar rfl) evEs_nil) rfl) rfl (qae (kVar rfl))))⟩
theorem qrn {s:List Nat}(hw:w.length<1000000)(hk:w[k]? = some c)(hF:F=G++[fv f])(hc:c=42∨c=63)(hs:s≠[])(h:∀ σ,cf 53 [.str [c],.bool r,fv f] σ = .ok (.str s) σ):DuX gl cf w k r F s:=by
 have c1:[40,124,41].contains c=false:=by rcases hc with rfl | rfl <;> rfl
 have c2:[42,63].contains c=true:=by rcases hc with rfl | rfl <;> rfl
 have hb:(s == [])=false:=beq_eq_false_iff_ne.mpr hs
 exact qgc hw hk hF λσ y6=>⟨_,(qc3 qcy (by rw [c1];rfl)).trans (qf9 qcy (by rw [c2];rfl) ((qab (kCall (kCons (kVar rfl) (kCons (kVar rfl) (kCons (kVar rfl) evEs_nil))) (h σ))).trans (qak (v:=.bool true) (kCmp (kVar rfl) evE_cStr (by rw [ne_ss,hb];rfl)) rfl (qae (kVar rfl)))))⟩
theorem du_rep (hw:w.length<1000000)(hk:w[k]? = some c)(hc:c=42∨c=63)(hn:G.length<1000)(h:∀ σ,cf 53 [.str [c],.bool r,fv f] σ = .ok (.str []) σ):Du gl cf w k r (G++[fv f]) (k+(if w[k+1]? = some 33 then 2 else 1)) false (G++[fv (f.1,f.2.1,true)]):=by
 have c1:[40,124,41].contains c=false:=by rcases hc with rfl | rfl <;> rfl
 have c2:[42,63].contains c=true:=by rcases hc with rfl | rfl <;> rfl
 have c3:(!([40,124,42,63].contains c))=false:=by rcases hc with rfl | rfl <;> rfl
 have hlt:k<w.length:=(List.getElem?_eq_some_iff.mp hk).1
 rw [← c3,show (k+(if w[k+1]? = some 33 then 2 else 1))=(k+(if w[k+1]? = some 33 then 1 else 0))+1 by split <;> rfl]
 refine qmf hw hk rfl λσ y6=>⟨.str [],?_⟩
 have hcut:vCut σ (.str w) (some ((k:Int)+1)) (some ((k:Int)+2))=some (.str ((w[k+1]?).toList)):=by
  have:=qkx (σ:=σ) (w:=w) (k:=k+1) (by lia)
  rw [show (((k+1:Nat):Int)+1)=(k:Int)+2 by lia] at this
  exact this
 have t33:∀ {y1 y2 y4 y5 y6:V},evE gl cf (.cmp .eq (.slice (.var 0) (some (.bin .add (.var 3) (.cInt 1))) (some (.bin .add (.var 3) (.cInt 2)))) (.cStr [33])) [.str w,y1,y2,.int (k:Int),y4,y5,y6] σ = .ok (.bool (w[k+1]? == some 33)) σ:=λ{y1 y2 y4 y5 y6} =>
  kCmp (kSlice (kVar rfl) (kSome (kBin (kVar rfl) evE_cInt rfl) rfl) (kSome (kBin (kVar rfl) evE_cInt rfl) rfl) hcut) evE_cStr (by rw [eq_ss,qlj])
 refine (qc3 qcy (by rw [c1];rfl)).trans (qf9 qcy (by rw [c2];rfl) ((qab (kCall (kCons (kVar rfl) (kCons (kVar rfl) (kCons (kVar rfl) evEs_nil))) (h σ))).trans ((qac (v:=.bool false) (kCmp (kVar rfl) evE_cStr rfl) rfl).trans ((qab (qkh (sl_m1 rfl) (fr0 (f:=f) rfl) (fr1 (f:=f) rfl) evE_cBool hn)).trans ?_))))
 by_cases h33:w[k+1]? = some 33
 ·rw [if_pos h33]
  exact (qa6 t33 (by rw [h33];rfl) ((qab (qbr (n:=1) rfl)).trans exB_nil0)).trans exB_nil0
 ·rw [if_neg h33]
  exact (qac t33 (by rw [beq_eq_false_iff_ne.mpr h33];rfl)).trans exB_nil0
structure Pl (c:Nat):Prop where
 c1:[40,124,41].contains c=false
 c2:[42,63].contains c=false
theorem du_brk (hw:w.length<1000000)(hk:w[k]? = some 93)(hF:F=G++[fv f]):DuX gl cf w k r F [117,110,111,112,101,110,101,100] :=
 qgc hw hk hF λσ y6=>⟨_,(qc3 qcy rfl).trans (qd4 qcy rfl (qak (qby rfl) rfl (qae evE_cStr)))⟩
theorem qrw {j:Nat}{y1 y2 y4 y5 y6:V}:evE gl cf (.cmp .ge (.var 3) (.bi .len [(.var 0)])) [.str w,y1,y2,.int (j:Int),y4,y5,y6] σ = .ok (.bool (decide (w.length≤j))) σ :=
 kCmp (kVar rfl) (kBi (kCons (kVar rfl) evEs_nil) len_str) (by rw [ge_ii,decide_eq_decide.mpr (show (j:Int) ≥ (w.length:Int)↔w.length≤j by lia)])
noncomputable def TkAt (gl:List V)(cf:CF)(w:List Nat)(k c j:Nat):Prop:=∀ (σ:Sg) (r:Bool) (F:List V) (f:Fr) (y6:V),exB gl cf duT [.str w,.lst F,.bool r,.int (k:Int),.str [c],fv f,y6] σ=exB gl cf (duT.drop 3) [.str w,.lst F,.bool r,.int (j:Int),.str [c],fv f,y6] σ
theorem du_tk {j:Nat}(hw:w.length<1000000)(hk:w[k]? = some c)(hp:Pl c)(ht:TkAt gl cf w k c j)(hj:j<w.length)(hn:G.length<1000):Du gl cf w k r (G++[fv f]) (j+1) true (G++[fv (f.1,f.2.1 && f.2.2,false)]):=by
 have c3:(!([40,124,42,63].contains c))=true:=by
  have h1:=hp.c1
  have h2:=hp.c2
  simp only [List.contains_cons,List.contains_nil,Bool.or_false,Bool.or_eq_false_iff] at h1 h2
  simp only [List.contains_cons,List.contains_nil,Bool.or_false,h1.1,h1.2.1,h2.1,h2.2];rfl
 rw [← c3]
 refine qmf hw hk rfl λσ y6=>⟨y6,(qc3 qcy (by rw [hp.c1];rfl)).trans (qd4 qcy (by rw [hp.c2];rfl) ((ht σ r _ f y6).trans ((qac qrw (by rw [decide_eq_false (Nat.not_le.mpr hj)];rfl)).trans ((qab (qkh (sl_m1 rfl) (fr0 (f:=f) rfl) (fr12 (f:=f) rfl) evE_cBool hn)).trans exB_nil0))))⟩
theorem qvr {j:Nat}(hw:w.length<1000000)(hk:w[k]? = some c)(hF:F=G++[fv f])(hp:Pl c)(ht:TkAt gl cf w k c j)(hj:w.length≤j):DuX gl cf w k r F [117,110,99,108,111,115,101,100] :=
 qgc hw hk hF λσ y6=>⟨_,(qc3 qcy (by rw [hp.c1];rfl)).trans (qd4 qcy (by rw [hp.c2];rfl) ((ht σ r _ f y6).trans (qak qrw (by rw [decide_eq_true hj];rfl) (qae evE_cStr))))⟩
theorem qtg (n1:c≠93)(n2:c≠91)(n3:c≠126):TkAt gl cf w k c k:=λσ r F f y6 =>
 (qac (qby rfl) (by rw [ne1 n1];rfl)).trans ((qac (qby rfl) (by rw [ne1 n2];rfl)).trans (qac (qby rfl) (by rw [ne1 n3];rfl)))
theorem qth:TkAt gl cf w k 126 (k+1):=λσ r F f y6 =>
 (qac (qby rfl) rfl).trans ((qac (qby rfl) rfl).trans (qa6 (qby rfl) rfl ((qab (qbr (n:=1) rfl)).trans exB_nil0)))
theorem qtf {j:Nat}(h:∀ σ,cf 50 [.str w,.int ((k+1:Nat):Int)] σ = .ok (.int (j:Int)) σ):TkAt gl cf w k 91 j:=λσ r F f y6 =>
 (qac (qby rfl) rfl).trans ((qa6 (qby rfl) rfl ((qab (kCall (kCons (kVar rfl) (kCons (qbr (n:=1) rfl) evEs_nil)) (h σ))).trans exB_nil0)).trans (qac (qby rfl) rfl))
end
end Mine.Internal
namespace Mine.Internal
abbrev Gr:=List Tree×List Tree
theorem qme {Q:List Tree}{m:Nat}(h:∀ t∈Q,t.dep≤m):(rt Q).dep≤m+1:=by
 match Q with
 | []=>rw [show rt [] = .row [] from rfl,qjf,qkf];lia
 | [t]=>exact Nat.le_trans (h t (List.mem_singleton.mpr rfl)) (Nat.le_succ _)
 | a::b::r=>rw [show rt (a::b::r) = .row (a::b::r) from rfl,qjf];have:=qmd h;lia
theorem qrm {x:Gr}{m:Nat}(h1:∀ t∈x.1,t.dep≤m+1)(h2:∀ t∈x.2,t.dep≤m):(gt x).dep≤m+2:=by
 obtain ⟨R,Q⟩:=x
 cases R with
 | nil=>exact Nat.le_trans (qme h2) (Nat.le_succ _)
 | cons a r =>
  rw [show gt (a::r,Q) = .pick (a::r++[rt Q]) from rfl,qje]
  have:Tree.deps (a::r++[rt Q])≤m+1:=qmd λt ht=>by
   rcases List.mem_append.mp ht with ht | ht
   ·exact h1 t ht
   ·rw [List.mem_singleton.mp ht];exact qme h2
  lia
theorem ok_rt {Q:List Tree}(h:∀ t∈Q,t.Ok)(hn:Q.length≤2000):(rt Q).Ok:=by
 match Q with
 | []=>exact qsr.mpr ⟨⟨by simp,hn⟩,h⟩
 | [t]=>exact h t (List.mem_singleton.mpr rfl)
 | a::b::r=>exact qsr.mpr ⟨⟨by simp,hn⟩,h⟩
theorem ok_gt {x:Gr}(h1:∀ t∈x.1,t.Ok)(h2:∀ t∈x.2,t.Ok)(n1:x.1.length<2000)(n2:x.2.length<2000):(gt x).Ok:=by
 obtain ⟨R,Q⟩:=x
 cases R with
 | nil=>exact ok_rt h2 (Nat.le_of_lt n2)
 | cons a r =>
  refine qsq.mpr ⟨⟨by simp,?_⟩,λt ht=>?_⟩
  ·show (a::r++[rt Q]).length≤2000
   rw [List.length_append];exact n1
  ·rcases List.mem_append.mp ht with ht | ht
   ·exact h1 t ht
   ·rw [List.mem_singleton.mp ht];exact ok_rt h2 (Nat.le_of_lt n2)
theorem qek:∀ (a b:List Tree),Tree.cnts (a++b)=Tree.cnts a+Tree.cnts b
 | [],b=>by rw [List.nil_append,qbd];lia
 | t::r,b=>by rw [List.cons_append,qbe,qbe,qek r b];lia
theorem qel {t:Tree}:Tree.cnts [t]=t.cnt:=by rw [qbe,qbd];lia
theorem qrf {Q:List Tree}:(rt Q).cnt=Tree.cnts Q:=by
 match Q with
 | []=>rfl
 | [t]=>exact qel.symm
 | a::b::r=>rfl
noncomputable def gcnt (x:Gr):Int:=Tree.cnts x.1+x.1.length+Tree.cnts x.2
theorem qvn {x:Gr}:(gt x).cnt=gcnt x:=by
 obtain ⟨R,Q⟩:=x
 unfold gcnt
 cases R with
 | nil=>rw [show gt ([],Q)=rt Q from rfl,qrf];show _=Tree.cnts []+0+Tree.cnts Q;rw [qbd];lia
 | cons a r =>
  rw [show gt (a::r,Q) = .pick (a::r++[rt Q]) from rfl,qdt,qek,qel,qrf,List.length_append]
  show _=Tree.cnts (a::r)+((a::r).length:Int)+Tree.cnts Q
  simp only [List.length_singleton];lia
structure GOk (k n:Nat) (x:Gr):Prop where
 r:∀ t∈x.1,t.Ok∧t.dep+3 * n≤96
 p:∀ t∈x.2,t.Ok∧t.dep+3 * n≤95
 n1:x.1.length≤k
 n2:x.2.length≤k
noncomputable def GOks (k:Nat):List Gr->Prop
 | []=>True
 | x::X=>GOk k (X.length+1) x∧GOks k X
noncomputable def tot:List Gr->Int
 | []=>0
 | x::X=>gcnt x+tot X
theorem GOk.le {k k' n:Nat}{x:Gr}(h:GOk k n x)(hk:k≤k'):GOk k' n x:=⟨h.r,h.p,Nat.le_trans h.n1 hk,Nat.le_trans h.n2 hk⟩
theorem GOks.le {k k':Nat}(hk:k≤k'):∀ {X:List Gr},GOks k X->GOks k' X
 | [],_=>trivial
 | _::_,h=>⟨h.1.le hk,h.2.le hk⟩
structure Inv (k:Nat) (r:Bool) (X:List Gr):Prop where
 ok:GOks k X
 pos:X≠[]
 top:X.length≤31
 rdy:r=true->∃ R Q t X0,X=(R,Q++[t])::X0∧t.dep+3 * (X0.length+1)≤94
 cnt:tot X≤(k:Int)
theorem Inv.push {k k':Nat}{R Q:List Tree}{X:List Gr}{t:Tree}(h:GOk k (X.length+1) (R,Q))(hX:GOks k X)(ht:t.Ok)(hd:t.dep+3 * (X.length+1)≤94)(hk:k<k')(hl:X.length≤30)(hc:tot ((R,Q)::X)+t.cnt≤(k':Int)):Inv k' true ((R,Q++[t])::X):=by
 refine ⟨⟨⟨h.r,λu hu=>?_,Nat.le_trans h.n1 (Nat.le_of_lt hk),?_⟩,hX.le (Nat.le_of_lt hk)⟩,List.cons_ne_nil _ _,Nat.succ_le_succ hl,λ_=>⟨R,Q,t,X,rfl,hd⟩,?_⟩
 ·rcases List.mem_append.mp hu with hu | hu
  ·exact h.p u hu
  ·rw [List.mem_singleton.mp hu];exact ⟨ht,by lia⟩
 ·show (Q++[t]).length≤k'
  rw [List.length_append];exact Nat.le_trans (Nat.succ_le_succ h.n2) hk
 ·have e:tot ((R,Q++[t])::X)=tot ((R,Q)::X)+t.cnt:=by
   show gcnt (R,Q++[t])+tot X=gcnt (R,Q)+tot X+t.cnt
   unfold gcnt
   show Tree.cnts R+R.length+Tree.cnts (Q++[t])+tot X=Tree.cnts R+R.length+Tree.cnts Q+tot X+t.cnt
   rw [qek,qel];lia
  rw [e];exact hc
theorem Inv.rep {k k' c:Nat}{R Q:List Tree}{X:List Gr}{t:Tree}{e:Bool}(h:GOk k (X.length+1) (R,Q++[t]))(hX:GOks k X)(hd:t.dep+3 * (X.length+1)≤94)(hb:c=42->t.bare=false)(hk:k<k')(hl:X.length≤30)(hc:tot ((R,Q++[t])::X)≤(k:Int)):Inv k' false ((R,Q++[rep c t e])::X):=by
 have hm:t∈Q++[t]:=List.mem_append.mpr (.inr (List.mem_singleton.mpr rfl))
 have r1:(Mine.Internal.rep c t e).Ok:=by
  unfold Mine.Internal.rep
  by_cases h42:c=42
  ·rw [if_pos h42];exact ⟨(h.p t hm).1,hb h42⟩
  ·rw [if_neg h42];exact (h.p t hm).1
 have r2:(Mine.Internal.rep c t e).dep=t.dep+1:=by
  unfold Mine.Internal.rep;split
  ·exact qnn
  ·exact qky
 have r3:(Mine.Internal.rep c t e).cnt=t.cnt+1:=by unfold Mine.Internal.rep;split <;> rfl
 refine ⟨⟨⟨h.r,λu hu=>?_,Nat.le_trans h.n1 (Nat.le_of_lt hk),?_⟩,hX.le (Nat.le_of_lt hk)⟩,List.cons_ne_nil _ _,Nat.succ_le_succ hl,λh=>Bool.noConfusion h,?_⟩
 ·rcases List.mem_append.mp hu with hu | hu
  ·exact h.p u (List.mem_append.mpr (.inl hu))
  ·rw [List.mem_singleton.mp hu];exact ⟨r1,by rw [r2];lia⟩
 ·show (Q++[_]).length≤k'
  have:=h.n2
  rw [show (R,Q++[t]).2=Q++[t] from rfl,List.length_append] at this
  rw [List.length_append];exact Nat.le_trans this (Nat.le_of_lt hk)
 ·have e:tot ((R,Q++[Mine.Internal.rep c t e])::X)=tot ((R,Q++[t])::X)+1:=by
   show gcnt (R,Q++[_])+tot X=gcnt (R,Q++[t])+tot X+1
   unfold gcnt
   show Tree.cnts R+R.length+Tree.cnts (Q++[_])+tot X=Tree.cnts R+R.length+Tree.cnts (Q++[t])+tot X+1
   rw [qek,qel,qek,qel,r3];lia
  rw [e];lia
theorem Inv.opn {k k':Nat}{r:Bool}{X:List Gr}(h:Inv k r X)(hX:X.length≤30)(hk:k<k'):Inv k' false (([],[])::X):=by
 refine ⟨⟨⟨λt ht=>absurd ht List.not_mem_nil,λt ht=>absurd ht List.not_mem_nil,Nat.zero_le _,Nat.zero_le _⟩,h.ok.le (Nat.le_of_lt hk)⟩,List.cons_ne_nil _ _,Nat.succ_le_succ hX,λh=>Bool.noConfusion h,?_⟩
 have e:tot (([],[])::X)=tot X:=by
  show Tree.cnts []+0+Tree.cnts []+tot X=tot X
  rw [qbd];lia
 rw [e];have:=h.cnt;lia
theorem Inv.bar {k k':Nat}{r:Bool}{x:Gr}{X:List Gr}(h:Inv k r (x::X))(h2:x.2.length≤2000)(hk:k<k'):Inv k' false ((x.1++[rt x.2],[])::X):=by
 have hg:=h.ok.1
 have ht:=h.top
 rw [List.length_cons] at ht
 refine ⟨⟨⟨λt ht=>?_,λt ht=>absurd ht List.not_mem_nil,?_,Nat.zero_le _⟩,h.ok.2.le (Nat.le_of_lt hk)⟩,List.cons_ne_nil _ _,h.top,λh=>Bool.noConfusion h,?_⟩
 ·rcases List.mem_append.mp ht with ht | ht
  ·exact hg.r t ht
  ·rw [List.mem_singleton.mp ht]
   refine ⟨ok_rt (λu hu=>(hg.p u hu).1) h2,?_⟩
   have:=qme (Q:=x.2) (m:=95 - 3 * (X.length+1)) λu hu=>by have:=(hg.p u hu).2;lia
   lia
 ·show (x.1++[_]).length≤k'
  rw [List.length_append];exact Nat.le_trans (Nat.succ_le_succ hg.n1) hk
 ·have e:tot ((x.1++[rt x.2],[])::X)=tot (x::X)+1:=by
   show Tree.cnts (x.1++[rt x.2])+((x.1++[rt x.2]).length:Int)+Tree.cnts []+tot X=Tree.cnts x.1+x.1.length+Tree.cnts x.2+tot X+1
   rw [qek,qel,qrf,qbd,List.length_append,List.length_singleton];lia
  rw [e];have:=h.cnt;lia
theorem Inv.cls {k k':Nat}{r:Bool}{x y:Gr}{X:List Gr}(h:Inv k r (x::y::X))(hw:k<2000)(hk:k<k'):Inv k' true ((y.1,y.2++[gt x])::X):=by
 have hg:=h.ok.1
 have ht:=h.top
 rw [List.length_cons,List.length_cons] at ht
 rw [List.length_cons] at hg
 refine Inv.push (k:=k) h.ok.2.1 h.ok.2.2 (ok_gt (λu hu=>(hg.r u hu).1) (λu hu=>(hg.p u hu).1) (Nat.lt_of_le_of_lt hg.n1 hw) (Nat.lt_of_le_of_lt hg.n2 hw)) ?_ hk (by lia) ?_
 ·have:=qrm (x:=x) (m:=95 - 3 * (X.length+1+1)) (λu hu=>by have:=(hg.r u hu).2;lia) λu hu=>by have:=(hg.p u hu).2;lia
  lia
 ·rw [qvn]
  have:=h.cnt
  have e:tot (x::y::X)=gcnt x+tot (y::X):=rfl
  rw [e] at this
  have e2:tot ((y.1,y.2)::X)=tot (y::X):=rfl
  rw [e2];lia
end Mine.Internal
namespace Mine.Internal
noncomputable def txt:Nat->List Nat
 | 1=>[117,110,99,108,111,115,101,100]
 | 2=>[117,110,111,112,101,110,101,100]
 | 3=>[110,111,116,104,105,110,103]
 | 4=>[114,111,117,110,100]
 | _=>[100,101,101,112]
theorem frs_cons {x:Gr}{X:List Gr}:frs (x::X)=frs X++[fv (absG x)]:=by unfold frs;rw [List.map_cons,List.reverse_cons]
theorem qe2 {X:List Gr}:(frs X).length=X.length:=by unfold frs;rw [List.length_reverse,List.length_map]
section
variable {gl:List V} {P:List Def} {d e:Nat} {w:List Nat} {k c:Nat} {r:Bool} {x:Gr} {X:List Gr}
inductive Stp1 (gl:List V) (cf cg:CF) (w:List Nat) (k:Nat) (r:Bool) (X:List Gr):Prop
 | x (n:Nat) (h1:1≤n) (h5:n≤5) (hr:RdX gl cf w k r X n) (hd:DuX gl cg w k r (frs X) (txt n))
 | go (k':Nat) (r':Bool) (X':List Gr) (hk:k<k') (hw:k'≤w.length) (hr:Rd gl cf w k r X k' r' X') (hd:Du gl cg w k r (frs X) k' r' (frs X')) (I:Inv k' r' X')
theorem stp_rep (H:HR P)(HD':HD P)(hw:w.length<2000)(hd:100≤d)(hk:w[k]? = some c)(hc:c=42∨c=63)(I:Inv k r X):Stp1 gl (callF gl P (d+3)) (callF gl P (e+2)) w k r X:=by
 have hw':w.length<1000000:=by lia
 have hlt:k<w.length:=(List.getElem?_eq_some_iff.mp hk).1
 cases r with
 | false =>
  cases X with
  | nil=>exact absurd rfl I.pos
  | cons x X=>exact .x 3 (by decide) (by decide) (qxd hw' hk hc) (qrn hw' hk frs_cons hc (by decide) λσ=>qfr HD')
 | true =>
  obtain ⟨R,Q,t,X0,rfl,hdep⟩:=I.rdy rfl
  have ht:=I.top
  rw [List.length_cons] at ht
  by_cases hb:c=42∧t.bare=true
  ·obtain ⟨rfl,hb⟩:=hb
   refine .x 4 (by decide) (by decide) (qu4 (x:=(R,Q)) H hw' hk hb (by lia)) (qrn hw' hk frs_cons hc (by decide) λσ=>(qfr HD').trans ?_)
   rw [qeh,hb];rfl
  ·have hb':c=42->t.bare=false:=λh=>by
    cases hq:t.bare with
    | false=>rfl
    | true=>exact absurd ⟨h,hq⟩ hb
   have hb2:([c] == [42] && t.bare)=false:=by
    rcases hc with rfl | rfl
    ·rw [hb' rfl];rfl
    ·rfl
   have hkk:k<k+(if w[k+1]? = some 33 then 2 else 1):=by split <;> lia
   refine .go _ false _ hkk ?_ (rd_rep (x:=(R,Q)) H hw' hk hc hb' (by lia) ?_) ?_ (Inv.rep (c:=c) I.ok.1 I.ok.2 hdep hb' hkk (by lia) I.cnt)
   ·by_cases h33:w[k+1]? = some 33
    ·rw [if_pos h33];exact (List.getElem?_eq_some_iff.mp h33).1
    ·rw [if_neg h33];exact hlt
   ·have:=I.ok.1.n2
    rw [show (R,Q++[t]).2=Q++[t] from rfl,List.length_append] at this
    lia
   ·rw [frs_cons,frs_cons,qeh,qeh]
    have hrb:(rep c t (!(w[k+1]? == some 33))).bare=true:=by unfold rep;split <;> rfl
    rw [hrb]
    refine du_rep hw' hk hc (by rw [qe2];lia) λσ=>(qfr HD').trans ?_
    rw [if_pos rfl,hb2];rfl
theorem qfl {u post:List Nat}{t:Tree}{j:Nat}(H:HR P)(hw:w.length<2000)(hk:w[k]? = some c)(I:Inv k r X)(ht:TakeT u t)(hd:w.drop k=u++post)(hp:Pl c)(htk:TkAt gl (callF gl P (e+2)) w k c j)(hj:j+1=k+u.length) :
  Stp1 gl (callF gl P (d+3)) (callF gl P (e+2)) w k r X:=by
 have hw':w.length<1000000:=by lia
 have hlt:k<w.length:=(List.getElem?_eq_some_iff.mp hk).1
 cases X with
 | nil=>exact absurd rfl I.pos
 | cons x X =>
  have htop:=I.top
  rw [List.length_cons] at htop
  have hl:k+u.length≤w.length:=by
   have:=congrArg List.length hd
   rw [List.length_drop,List.length_append] at this
   lia
  have hu:0<u.length:=by
   obtain ⟨_,_,h,_⟩:=ht.head
   rw [h];exact Nat.succ_pos _
  obtain ⟨tb,td⟩:=ht.take
  have to:t.Ok∧t.cnt=1:=by cases ht <;> exact ⟨trivial,rfl⟩
  have hn2:=I.ok.1.n2
  refine .go (k+u.length) true _ (by lia) hl (qxb H hw' ht hd (by lia)) ?_ (Inv.push (k:=k) I.ok.1 I.ok.2 to.1 (by rw [td];lia) (by lia) (by lia) ?_)
  ·rw [frs_cons,frs_cons,qeh,tb,← qh4,← hj]
   exact du_tk hw' hk hp htk (by lia) (by rw [qe2];lia)
  ·rw [to.2]
   have:=I.cnt
   have e2:tot ((x.1,x.2)::X)=tot (x::X):=rfl
   rw [e2];lia
theorem qtc (H:HR P)(HD':HD P)(hw:w.length<2000)(hk:w[k]? = some c)(I:Inv k r X)(n1:c≠42)(n2:c≠63)(n3:c≠40)(n4:c≠41)(n5:c≠124)(n6:c≠93) :
  Stp1 gl (callF gl P (d+3)) (callF gl P (e+2)) w k r X:=by
 have hw':w.length<1000000:=by lia
 have hlt:k<w.length:=(List.getElem?_eq_some_iff.mp hk).1
 have hp:Pl c:=⟨by simp [n3,n4,n5],by simp [n1,n2]⟩
 have hF:∃ f G,frs X=G++[fv f]:=by
  cases X with
  | nil=>exact absurd rfl I.pos
  | cons x X=>exact ⟨_,_,frs_cons⟩
 obtain ⟨f,G,hF⟩:=hF
 have hd:w.drop k=c::w.drop (k+1):=by
  rw [List.drop_eq_getElem_cons hlt]
  rw [List.getElem?_eq_getElem hlt] at hk
  rw [Option.some.inj hk]
 by_cases n7:c=126
 ·subst n7
  by_cases hl:w.length=k+1
  ·exact .x 1 (by decide) (by decide) (qph H hw' hk (.inr ⟨rfl,hl⟩)) (qvr hw' hk hF hp qth (Nat.le_of_eq hl))
  ·have hlt2:k+1<w.length:=by lia
   exact qfl (u:=[126,w[k+1]]) (post:=w.drop (k+2)) H hw hk I (.wave _) (by rw [hd,List.drop_eq_getElem_cons hlt2];rfl) hp qth rfl
 by_cases n8:c=91
 ·subst n8
  rcases scan _ (w.drop (k+1)) (Nat.le_refl _) with ⟨es,post,hf,hes⟩ | hn
  ·have hse:∀ σ,callF gl P (e+2) 50 [.str w,.int ((k+1:Nat):Int)] σ = .ok (.int ((k+1+(setText es).length:Nat):Int)) σ:=λσ=>qq7 HD' (qm3 hw' es (k+1) hf hes)
   have hlen:es.length<100000:=by
    have h1:=congrArg List.length hes
    rw [List.length_drop,List.length_append] at h1
    have:es.length≤(setText es).length:=by
     clear hse hf hes h1
     induction es with
     | nil=>exact Nat.le_refl _
     | cons p es ih =>
      obtain ⟨b,z⟩:=p
      cases b with
      | true=>rw [qds];simp only [List.length_cons];lia
      | false=>rw [qct];simp only [List.length_cons];lia
    lia
   by_cases h33:∃ es',es=(false,33)::es'
   ·obtain ⟨es',rfl⟩:=h33
    refine qfl (u:=91::setAll false es') (post:=post) H hw hk I (.set false es' (λp hp=>hf p (List.mem_cons_of_mem _ hp)) (by rw [List.length_cons] at hlen;lia) λh=>Bool.noConfusion h) ?_ hp (qtf hse) ?_
    ·rw [hd,hes,qct];unfold setAll;simp
    ·unfold setAll;rw [qct];simp only [List.length_cons,List.length_append,List.length_nil,if_neg Bool.false_ne_true];lia
   ·refine qfl (u:=91::setAll true es) (post:=post) H hw hk I (.set true es hf hlen λ_=>?_) ?_ hp (qtf hse) ?_
    ·intro hh
     match es,hh with
     | [],hh=>cases hh
     | (true,z)::es,hh=>cases hh
     | (false,z)::es,hh=>exact h33 ⟨es,by rw [show z=33 from Option.some.inj hh]⟩
    ·rw [hd,hes];unfold setAll;simp
    ·unfold setAll;simp only [List.length_cons,List.length_append,List.length_nil,if_true];lia
  ·obtain ⟨j,hj,hs⟩:=qvb (gl:=gl) (cf:=callF gl P (e+1)) hw' hn (k+1) rfl
   exact .x 1 (by decide) (by decide) (qph H hw' hk (.inl ⟨rfl,hn⟩)) (qvr hw' hk hF hp (qtf λσ=>qq7 HD' (hs σ)) hj)
 by_cases n9:c=46
 ·subst n9
  exact qfl (u:=[46]) H hw hk I .dot hd hp (qtg (by decide) (by decide) (by decide)) rfl
 ·exact qfl (u:=[c]) H hw hk I (.sign c (by simp [n1,n2,n3,n4,n5,n6,n7,n8,n9])) hd hp (qtg n6 n8 n7) rfl
theorem stp (H:HR P)(HD':HD P)(hgl:gl[0]? = some (.int 30))(hw:w.length<2000)(hd:100≤d)(hlt:k<w.length)(I:Inv k r X):Stp1 gl (callF gl P (d+3)) (callF gl P (e+2)) w k r X:=by
 have hw':w.length<1000000:=by lia
 obtain ⟨c,hk⟩:∃ c,w[k]? = some c:=⟨_,List.getElem?_eq_getElem hlt⟩
 by_cases hc:c=42∨c=63
 ·exact stp_rep H HD' hw hd hk hc I
 cases X with
 | nil=>exact absurd rfl I.pos
 | cons x X =>
 have htop:=I.top
 rw [List.length_cons] at htop
 have n1:=I.ok.1.n1
 have n2:=I.ok.1.n2
 by_cases h40:c=40
 ·subst h40
  have hop:=λσ=>qq4 (gl:=gl) (d:=e) (σ:=σ) HD' (F:=frs (x::X)) frs_cons (by rw [qe2,List.length_cons];lia)
  rw [qe2] at hop
  by_cases hl:30<(x::X).length
  ·exact .x 5 (by decide) (by decide) (qu5 hgl hw' hk hl) (qkz hw' hk frs_cons rfl λσ=>(hop σ).trans (by rw [if_pos hl];rfl))
  ·refine .go (k+1) false _ (by lia) hlt (qxa hgl hw' hk (Nat.le_of_not_lt hl)) ?_ (I.opn (Nat.le_of_not_lt hl) (by lia))
   rw [frs_cons (x:=([],[])),qqn]
   exact qjg hw' hk frs_cons rfl λσ=>(hop σ).trans (by rw [if_neg hl];rfl)
 by_cases h41:c=41
 ·subst h41
  cases X with
  | nil=>exact .x 2 (by decide) (by decide) (qu6 H hw' hk) (qkz (G:=[]) (f:=absG x) hw' hk rfl rfl λσ=>qp4 HD')
  | cons y X =>
   have m2:=I.ok.2.1.n2
   rw [List.length_cons] at htop
   refine .go (k+1) true _ (by lia) hlt (qu3 H hw' hk (by lia) (by lia)) ?_ (I.cls (by lia) (by lia))
   rw [frs_cons (X:=X),qeh,qv9,← qh4,← qh4,frs_cons,frs_cons]
   exact qjg (f:=absG x) hw' hk rfl rfl λσ=>qp5 HD' (by rw [qe2];lia)
 by_cases h124:c=124
 ·subst h124
  refine .go (k+1) false _ (by lia) hlt (rd_bar H hw' hk (by lia)) ?_ (I.bar (by lia) (by lia))
  rw [frs_cons,frs_cons,qqn,List.any_append,List.any_cons,List.any_nil,Bool.or_false,ql2,← qh4]
  exact qjg (f:=absG x) hw' hk rfl rfl λσ=>qtx HD' (by rw [qe2];lia)
 by_cases h93:c=93
 ·subst h93
  exact .x 2 (by decide) (by decide) (qxc hw' hk) (du_brk hw' hk frs_cons)
 exact qtc H HD' hw hk I (λh=>hc (.inl h)) (λh=>hc (.inr h)) h40 h41 h124 h93
inductive Run1 (gl:List V) (cf cg:CF) (w:List Nat) (k:Nat) (r:Bool) (X:List Gr):Prop
 | x (n:Nat) (h1:1≤n) (h5:n≤5) (hr:RdX gl cf w k r X n) (hd:DuX gl cg w k r (frs X) (txt n))
 | go (r':Bool) (X':List Gr) (hr:Rd gl cf w k r X w.length r' X') (hd:Du gl cg w k r (frs X) w.length r' (frs X')) (I:Inv w.length r' X')
theorem run1 (H:HR P)(HD':HD P)(hgl:gl[0]? = some (.int 30))(hw:w.length<2000)(hd:100≤d):∀ (m k:Nat) (r:Bool) (X:List Gr),w.length - k≤m->k≤w.length->Inv k r X->Run1 gl (callF gl P (d+3)) (callF gl P (e+2)) w k r X:=by
 intro m
 induction m with
 | zero =>
  intro k r X hm hk I
  have:k=w.length:=by lia
  subst this
  exact .go r X Rd.refl Du.refl I
 | succ m ih =>
  intro k r X hm hk I
  by_cases hlt:k<w.length
  ·cases stp (e:=e) H HD' hgl hw hd hlt I with
   | x n h1 h5 hr hd=>exact .x n h1 h5 hr hd
   | go k' r' X' hk' hw' hr hd I' =>
    cases ih k' r' X' (by lia) hw' I' with
    | x n h1 h5 hr2 hd2=>exact .x n h1 h5 (hr.thenX hr2) (hd.thenX hd2)
    | go r2 X2 hr2 hd2 I2=>exact .go r2 X2 (hr.trans hr2) (hd.trans hd2) I2
  ·have:k=w.length:=by lia
   subst this
   exact .go r X Rd.refl Du.refl I
theorem inv0:Inv 0 false [([],[])] :=
 ⟨⟨⟨λt ht=>absurd ht List.not_mem_nil,λt ht=>absurd ht List.not_mem_nil,Nat.le_refl _,Nat.le_refl _⟩,trivial⟩,List.cons_ne_nil _ _,by decide,λh=>Bool.noConfusion h,by decide⟩
inductive Told (gl:List V) (P:List Def) (d e:Nat) (w:List Nat):Prop
 | x (n:Nat) (h1:1≤n) (h5:n≤5) (hr:∀ σ,∃ σ',callF gl P (d+4) 20 [.str w] σ = .ex n σ') (hd:∀ σ,callF gl P (e+3) 54 [.str w] σ = .ok (.str (txt n)) σ)
 | ok (T:Tree) (ok:T.Ok) (dp:T.dep≤96) (ct:T.cnt≤(w.length:Int)) (hr:∀ σ,∃ σ',callF gl P (d+4) 20 [.str w] σ = .ok T.v σ') (hd:∀ σ,callF gl P (e+3) 54 [.str w] σ = .ok (.str []) σ)
theorem due_x {s:List Nat}{σ:Sg}(HD':HD P)(h:DuX gl (callF gl P (e+2)) w 0 false (frs [([],[])]) s):callF gl P (e+3) 54 [.str w] σ = .ok (.str s) σ:=by
 obtain ⟨Γ,h⟩:=h σ .undef .undef .undef
 exact qaf (D:=d_l_due_v06) HD'.du rfl ((qab (kLst (kCons (kTup (kCons evE_cBool (kCons evE_cBool (kCons evE_cBool evEs_nil))) roomy3) evEs_nil) putL_1)).trans ((qab evE_cBool).trans ((qab evE_cInt).trans (qcx h))))
theorem qvs {r':Bool}{X':List Gr}{σ:Sg}(HD':HD P)(h:Du gl (callF gl P (e+2)) w 0 false (frs [([],[])]) w.length r' (frs X')):callF gl P (e+3) 54 [.str w] σ = .ok (.str (if 1<X'.length then txt 1 else [])) σ:=by
 obtain ⟨y4,y5,y6,h⟩:=h σ .undef .undef .undef
 refine qaf (D:=d_l_due_v06) HD'.du rfl ((qab (kLst (kCons (kTup (kCons evE_cBool (kCons evE_cBool (kCons evE_cBool evEs_nil))) roomy3) evEs_nil) putL_1)).trans ((qab evE_cBool).trans ((qab evE_cInt).trans ((qay (h.trans (qb4 ((qbz rfl rfl).trans (by rw [decide_eq_false (Nat.lt_irrefl _)]))))).trans (qae (σ':=σ) ?_)))))
 have t1:evE gl (callF gl P (e+2)) (.cmp .gt (.bi .len [(.var 1)]) (.cInt 1)) [.str w,.lst (frs X'),.bool r',.int (w.length:Int),y4,y5,y6] σ = .ok (.bool (decide (1<X'.length))) σ :=
  kCmp (kBi (kCons (kVar rfl) evEs_nil) bi_len_l) evE_cInt (by rw [gt_ii,qe2,decide_eq_decide.mpr (show (X'.length:Int) > 1↔1<X'.length by lia)])
 by_cases hl:1<X'.length
 ·rw [if_pos hl];exact kIteT t1 (by rw [decide_eq_true hl];rfl) evE_cStr
 ·rw [if_neg hl];exact kIteF t1 (by rw [decide_eq_false hl];rfl) evE_cStr
theorem told (H:HR P)(HD':HD P)(hgl:gl[0]? = some (.int 30))(hw:w.length<2000)(hd:100≤d):Told gl P d e w:=by
 cases run1 (e:=e) H HD' hgl hw hd w.length 0 false [([],[])] (Nat.le_refl _) (Nat.zero_le _) inv0 with
 | x n h1 h5 hr hd=>exact .x n h1 h5 (λσ=>qp3 H hr) λσ=>due_x HD' hd
 | go r' X' hr hd I =>
  match X',hr,hd,I with
  | [],_,_,I=>exact absurd rfl I.pos
  | [x],hr,hd,I =>
   have g:=I.ok.1
   have hc:=I.cnt
   have ec:tot [x]=gcnt x+0:=rfl
   rw [ec] at hc
   refine .ok (gt x) (ok_gt (λt ht=>(g.r t ht).1) (λt ht=>(g.p t ht).1) (Nat.lt_of_le_of_lt g.n1 hw) (Nat.lt_of_le_of_lt g.n2 hw)) ?_ (by rw [qvn];lia) (λσ=>qq5 H (by lia) hr (by have:=g.n1;lia)) λσ=>qvs HD' hd
   exact Nat.le_trans (qrm (m:=92) (λt ht=>by have:=(g.r t ht).2;simp only [List.length_nil] at this;lia) λt ht=>by have:=(g.p t ht).2;simp only [List.length_nil] at this;lia) (by decide)
  | x::y::X,hr,hd,I=>exact .x 1 (by decide) (by decide) (λσ=>qp2 H hr) λσ=>(qvs HD' hd).trans (by rw [if_pos (by simp)])
end
end Mine.Internal
namespace Mine.Internal
noncomputable def mv (x:Nat×Nat):V:=.tup [.int (x.1:Int),.int ((x.2:Int) - (x.1:Int))]
noncomputable def tfB:List St:=[.asg 5 (.call 45 [(.var 0),(.var 1),(.var 4),(.var 3)]),
   .ite (.cmp .isnot (.var 5) .cNone)
    [.ret (.tup [(.var 4),(.bin .sub (.idx (.idx (.var 5) (.neg (.cInt 1))) (.cInt 1)) (.var 4))])]
    []]
theorem qvl {F:List Sp}{w:List Nat}{n a:Nat}{p:List (Nat×Nat)}(h:Yes F w n a p):∃ p0 x,p=p0++[x]:=by
 rcases List.eq_nil_or_concat p with e | ⟨p0,x,e⟩
 ·subst e;cases h
 ·exact ⟨p0,x,e.trans (List.concat_eq_append)⟩
theorem qs5 {T:Tree}(ok:T.Ok){w:List Nat}(hc:T.cnt≤3000)(hw:w.length<1100)(G:Good (Net T)):Seek (Net T).1 w:=by
 have h:=qdw T [.fin] 0 ok
 simp only [List.length_cons,List.length_nil] at h
 refine G.seek ?_ (by lia)
 have h2:(Net T).1.length≤3001:=by rw [Net];exact y39 hc h
 have:=Nat.mul_le_mul h2 (show w.length+1≤1100 from hw)
 exact u2 this (by decide)
section
variable {gl:List V} {cf:CF} {σ σ':Sg} {P:List Def} {d n:Nat} {A M:Sg} {N:List Sp×Nat} {w u:List Nat}
inductive Tr (r:Res (Fl×Fm)) (A M:Sg) (F:List Sp) (w:List Nat):Prop
 | no (Γ:Fm) (D:List (Nat×Nat)) (X:Sg) (hD:DeadOk F w D) (h:r = .ok (.next,Γ) (A++.dictP (D.map kv)::(M++X)))
 | yes (Γ:Fm) (x:Nat×Nat) (D:List (Nat×Nat)) (X:Sg) (hD:DeadOk F w D) (h:r = .ok (.ret (mv x),Γ) (A++.dictP (D.map kv)::(M++X)))
theorem tf_go (H:HG P)(G:Good N)(Q:Seek N.1 w){v2:V}:∀ (ps:List Nat) {D:List (Nat×Nat)} {M:Sg} {y4 y5:V},(∀ a∈ps,a≤w.length)->DeadOk N.1 w D ->
  Tr (forGo (exB gl (callF gl P (d+3)) tfB) 4 (ps.map iv) [netV N,.str w,v2,.ref A.length,y4,y5] (A++.dictP (D.map kv)::M)) A M N.1 w:=by
 have c45:∀ {v:V} {σ σ':Sg} {y5:V} {p:Nat},callF gl P (d+3) 45 [netV N,.str w,.int (p:Int),.ref A.length] σ = .ok v σ'->evE gl (callF gl P (d+3)) (.call 45 [(.var 0),(.var 1),(.var 4),(.var 3)]) [netV N,.str w,v2,.ref A.length,.int (p:Int),y5] σ = .ok v σ':=λh=>h
 intro ps
 induction ps with
 | nil=>exact λ{D M y4 y5} _ hD=>.no _ D [] hD (by rw [List.append_nil];rfl)
 | cons a ps ih =>
  intro D M y4 y5 ha hD
  rw [List.map_cons]
  rcases qq3 (gl:=gl) (d:=d) (A:=A) (M:=M) (D:=D) H G Q (Nat.lt_succ_of_le (ha a List.mem_cons_self)) hD with ⟨p,D',C',y,⟨hD',_⟩,h⟩ | ⟨D',C',_,⟨hD',_⟩,h⟩
  ·obtain ⟨p0,x,rfl⟩:=qvl y
   refine .yes [netV N,.str w,v2,.ref A.length,.int (a:Int),.ref (A.length+1+M.length)] (a,x.2) D' [.lst ((p0++[x]).map pv),.lst (C'.map iv)] hD' ?_
   refine qgv ((qab (c45 h)).trans (qak (v:=.bool true) rfl rfl (qae ?_)))
   show evE gl (callF gl P (d+3)) (.tup [(.var 4),(.bin .sub (.idx (.idx (.var 5) (.neg (.cInt 1))) (.cInt 1)) (.var 4))]) [netV N,.str w,v2,.ref A.length,.int (a:Int),.ref (A.length+1+M.length)] (gS A M D' (p0++[x]) C') = .ok (mv (a,x.2)) (gS A M D' (p0++[x]) C')
   have hv:evE gl (callF gl P (d+3)) (.idx (.idx (.var 5) (.neg (.cInt 1))) (.cInt 1)) [netV N,.str w,v2,.ref A.length,.int (a:Int),.ref (A.length+1+M.length)] (gS A M D' (p0++[x]) C') = .ok (.int (x.2:Int)) (gS A M D' (p0++[x]) C'):=by
    exact (kIdx (kIdx (kVar rfl) (kNeg evE_cInt rfl) (qsb ..)) rfl rfl)
   exact (kTup (kCons (kVar rfl) (kCons (kBin (hv ..) rfl rfl) rfl)) roomy2)
  ·have st:∀ {l:List V},forGo (exB gl (callF gl P (d+3)) tfB) 4 (iv a::l) [netV N,.str w,v2,.ref A.length,y4,y5] (A++.dictP (D.map kv)::M)=forGo (exB gl (callF gl P (d+3)) tfB) 4 l [netV N,.str w,v2,.ref A.length,.int (a:Int),.none] (A++.dictP (D'.map kv)::(M++[.lst [],.lst (C'.map iv)])):=λ{l} =>
    qce ((qab (c45 h)).trans ((qac (v:=.bool false) rfl rfl).trans exB_nil0))
   rw [st]
   cases ih (D:=D') (M:=M++[.lst [],.lst (C'.map iv)]) (y4:=.int (a:Int)) (y5:=.none) (λb hb=>ha b (List.mem_cons_of_mem _ hb)) hD' with
   | no Γ D'' X hD'' h=>exact .no Γ D'' ([.lst [],.lst (C'.map iv)]++X) hD'' (by rw [h,List.append_assoc])
   | yes Γ x D'' X hD'' h=>exact .yes Γ x D'' ([.lst [],.lst (C'.map iv)]++X) hD'' (by rw [h,List.append_assoc])
theorem qqb {b n:Nat}(hb:b<2000000)(hn:n<2000000):vItems .rng2 (.int (b:Int)) (.int (n:Int))=some ((List.range' b (n - b)).map iv):=by
 show (if small (b:Int) && small (n:Int) then some (rangeL b n) else none)=_
 rw [qdy u5 (u6 hb (by decide)),qdy u5 (u6 hn (by decide))]
 show some (rangeL b n)=_
 unfold rangeL
 rw [List.range'_eq_map_range,List.map_map,Int.toNat_sub n b]
 rfl
inductive Fd (r:Res V) (A M:Sg):Prop
 | no (D:List (List Int)) (X:Sg) (h:r = .ok .none (A++.dictP D::(M++X)))
 | yes (x:Nat×Nat) (D:List (List Int)) (X:Sg) (h:r = .ok (mv x) (A++.dictP D::(M++X)))
theorem qq9 (H:HG P)(h46:P[46]? = some d_tried_from)(G:Good N)(Q:Seek N.1 w):Fd (callF gl P (d+4) 46 [netV N,.str w,iv 0,.ref A.length] (A++.dictP []::M)) A M:=by
 have hw:=Q.len
 have hi:=qqb (b:=0) (n:=w.length+1) (by decide) (u2 hw (by decide))
 cases tf_go (gl:=gl) (d:=d) (A:=A) (M:=M) (D:=[]) (v2:=iv 0) (y4:=.undef) (y5:=.undef) H G Q (List.range' 0 (w.length+1 - 0)) (λa ha=>by rw [List.mem_range'_1] at ha;lia) .nil with
 | no Γ D X _ e=>exact .no _ X (qaf (D:=d_tried_from) h46 rfl ((qay ((qe1 (x:=iv 0) (y:=.int ((w.length+1:Nat):Int)) rfl rfl hi).trans e)).trans (qae evE_cNone)))
 | yes Γ x D X _ e=>exact .yes x _ X (qaf (D:=d_tried_from) h46 rfl (qcx ((qe1 (x:=iv 0) (y:=.int ((w.length+1:Nat):Int)) rfl rfl hi).trans e)))
structure H6 (P:List Def):Prop where
 r:HR P
 du:HD P
 n:HN P
 g:HG P
 tf:P[46]? = some d_tried_from
 td:P[47]? = some d_tried
 fi:P[48]? = some d_first
 af:P[49]? = some d_all_found
 ak:P[55]? = some d_l_asked
 rf:P[56]? = some d_l_refusal
 oc:P[57]? = some d_l_one_class
theorem qp1 (H:H6 P)(G:Good N)(Q:Seek N.1 w){tv:V}(hr:callF gl P (d+5) 20 [.str u] σ = .ok tv σ')(hn:callF gl P (d+5) 42 [tv] σ' = .ok (netV N) A):∃ v σ2,callF gl P (d+6) 48 [.str u,.str w] σ = .ok v σ2∧(v = .none∨∃ x,v=mv x):=by
 have fin:∀ {v:V} {σ2:Sg},callF gl P (d+4) 46 [netV N,.str w,iv 0,.ref A.length] (A++.dictP []::[]) = .ok v σ2->callF gl P (d+6) 48 [.str u,.str w] σ = .ok v σ2:=λh =>
  qaf (D:=d_first) H.fi rfl (qae (kCall (kCons (kCall (kCons (kCall (kCons (kVar rfl) evEs_nil) hr) evEs_nil) hn) (kCons (kVar rfl) evEs_nil)) (qaf (D:=d_tried) H.td rfl (qae h))))
 cases qq9 (gl:=gl) (d:=d) (A:=A) (M:=[]) H.g H.tf G Q with
 | no D X h=>exact ⟨_,_,fin h,.inl rfl⟩
 | yes x D X h=>exact ⟨_,_,fin h,.inr ⟨x,rfl⟩⟩
theorem ql8 (H:H6 P)(hr:callF gl P (d+5) 20 [.str u] σ = .ex n σ'):callF gl P (d+6) 48 [.str u,.str w] σ = .ex n σ' :=
 qcq (D:=d_first) H.fi rfl (qgf (qra (qk1 (qra (qk1 (kCall (kCons (kVar rfl) evEs_nil) hr))))))
theorem ql1 {c c2:Cell}:(A++c::c2::M)[A.length+1]? = some c2:=by
 rw [List.getElem?_append_right (Nat.le_succ _),show A.length.succ - A.length=1 from Nat.add_sub_cancel_left A.length 1];rfl
theorem qqu {c c2 c3:Cell}:(A++c::c2::M).set (A.length+1) c3=A++c::c3::M:=by
 rw [List.set_append_right _ _ (Nat.le_succ _),show A.length.succ - A.length=1 from Nat.add_sub_cancel_left A.length 1];rfl
noncomputable def afB:List St:=[.expr (.app (.var 4) (.var 5)),
   .asg 6 (.bin .add (.idx (.var 5) (.cInt 0)) (.bi .max2 [(.idx (.var 5) (.cInt 1)),(.cInt 1)])),
   .asg 5 .cNone,
   .ite (.cmp .le (.var 6) (.bi .len [(.var 1)]))
    [.asg 5 (.call 46 [(.var 2),(.var 1),(.var 6),(.var 3)])]
    []]
theorem af_one {v0 v2:V}{x:Nat×Nat}{c:Cell}:∃ Γ5 Γ6 σ',exS gl cf (.while (.cmp .isnot (.var 5) .cNone) afB) [v0,.str [],v2,.ref A.length,.ref (A.length+1),mv x,.undef] (A++c::.lst []::M) = .ok (.next,[v0,.str [],v2,.ref A.length,.ref (A.length+1),Γ5,Γ6]) σ'∧σ'=A++c::.lst [mv x]::M:=by
 refine ⟨.none,.int ((x.1:Int)+max ((x.2:Int) - (x.1:Int)) 1),_,?_,rfl⟩
 have e1:evE gl cf (.app (.var 4) (.var 5)) [v0,.str [],v2,.ref A.length,.ref (A.length+1),mv x,.undef] (A++c::.lst []::M) = .ok .none (A++c::.lst [mv x]::M) :=
  (qbu (i:=A.length+1) (xs:=[]) (ys:=[]) (v:=mv x) rfl ql1 rfl ql1 (by decide)).trans (by rw [qqu];rfl)
 have e4:evE gl cf (.cmp .le (.var 6) (.bi .len [(.var 1)])) [v0,.str [],v2,.ref A.length,.ref (A.length+1),.none,.int ((x.1:Int)+max ((x.2:Int) - (x.1:Int)) 1)] (A++c::.lst [mv x]::M) = .ok (.bool false) (A++c::.lst [mv x]::M) :=
  kCmp (kVar rfl) (kBi (kCons (kVar rfl) evEs_nil) len_str) (by rw [le_ii,decide_eq_false (by simp only [List.length_nil];lia)])
 refine (qa7 rfl ((qbb e1).trans ((qab (v:=.int ((x.1:Int)+max ((x.2:Int) - (x.1:Int)) 1)) (σ':=A++c::.lst [mv x]::M) rfl).trans ((qab (v:=.none) evE_cNone).trans ((qac e4 rfl).trans exB_nil0))))).trans (qb4 rfl)
theorem qtw (H:H6 P)(G:Good N)(Q:Seek N.1 []){tv:V}(hr:callF gl P (d+4) 20 [.str u] σ = .ok tv σ')(hn:callF gl P (d+4) 42 [tv] σ' = .ok (netV N) A):∃ L σ2,callF gl P (d+5) 49 [.str u,.str []] σ = .ok (.lst L) σ2:=by
 have e3:evE gl (callF gl P (d+4)) (.lst true []) [.str u,.str [],netV N,.ref A.length,.undef,.undef,.undef] (A++[Cell.dictP []]) = .ok (.ref (A.length+1)) (A++.dictP []::[Cell.lst []]):=by
  show Res.ok (V.ref (A++[Cell.dictP []]).length) (A++[Cell.dictP []]++[Cell.lst []])=_
  rw [List.length_append,List.append_assoc];rfl
 have fin:∀ {v z5 z6:V} {σ1:Sg} {D:List (List Int)} {L:List V} {X:Sg},callF gl P (d+4) 46 [netV N,.str [],iv 0,.ref A.length] (A++.dictP []::[.lst []]) = .ok v σ1 ->
   exS gl (callF gl P (d+4)) (.while (.cmp .isnot (.var 5) .cNone) afB) [.str u,.str [],netV N,.ref A.length,.ref (A.length+1),v,.undef] σ1 = .ok (.next,[.str u,.str [],netV N,.ref A.length,.ref (A.length+1),z5,z6]) (A++.dictP D::.lst L::X) ->
   callF gl P (d+5) 49 [.str u,.str []] σ = .ok (.lst L) (A++.dictP D::.dead::X):=λ{v z5 z6 σ1 D L X} h e=>by
  refine qaf (D:=d_all_found) H.af rfl ((qab (v:=netV N) (σ':=A) (kCall (kCons (kCall (kCons (kVar rfl) evEs_nil) hr) evEs_nil) hn)).trans ((qab (v:=.ref A.length) (σ':=A++[.dictP []]) rfl).trans ((qab e3).trans ((qab (show evE gl (callF gl P (d+4)) (.call 46 [(.var 2),(.var 1),(.cInt 0),(.var 3)]) [.str u,.str [],netV N,.ref A.length,.ref (A.length+1),.undef,.undef] (A++.dictP []::[.lst []])=_ from h)).trans ((qay e).trans (qae ?_))))))
  rw [qmg]
  show (Res.vs (freeze (A++.dictP D::.lst L::X) (.ref (A.length+1)))) = .ok (.lst L) (A++.dictP D::.dead::X)
  rw [qhq,ql1]
  show Res.ok (V.lst L) _=_
  rw [qqu]
 cases qq9 (gl:=gl) (d:=d) (A:=A) (M:=[.lst []]) H.g H.tf G Q with
 | no D X h=>exact ⟨_,_,fin h (qb4 rfl)⟩
 | yes x D X h =>
  obtain ⟨_,_,_,e,rfl⟩:=af_one (gl:=gl) (cf:=callF gl P (d+4)) (A:=A) (M:=X) (v0:=.str u) (v2:=netV N) (x:=x) (c:=.dictP D)
  exact ⟨_,_,fin h e⟩
theorem qq1 (H:H6 P)(hr:callF gl P (d+4) 20 [.str u] σ = .ex n σ'):callF gl P (d+5) 49 [.str u,.str w] σ = .ex n σ' :=
 qcq (D:=d_all_found) H.af rfl (qge (qra (qk1 (kCall (kCons (kVar rfl) evEs_nil) hr))))
end
end Mine.Internal
namespace Mine.Internal
section
variable {gl:List V} {cf:CF} {σ σ':Sg} {P:List Def} {d n:Nat} {w:List Nat}
theorem qcv {j i:Int}{y2:V}:evE gl cf (.cmp .eq (.var 1) (.cInt i)) [.str w,.int j,y2] σ = .ok (.bool (j == i)) σ:=kCmp (kVar rfl) evE_cInt rfl
theorem ql6 (H:H6 P)(h0:∀ σ,∃ σ',callF gl P (d+7) 20 [.str w] σ = .ex n σ')(h1:∀ σ,∃ σ',callF gl P (d+6) 20 [.str w] σ = .ex n σ'){j:Int}(hj:j=0∨j=1∨j=2)(σ:Sg):∃ σ',callF gl P (d+8) 55 [.str w,.int j] σ = .ex n σ':=by
 rcases hj with rfl | rfl | rfl
 ·obtain ⟨σ',h⟩:=h0 σ
  exact ⟨σ',qcq (D:=d_l_asked) H.ak rfl (qa1 qcv rfl (qgf (bi_x (qk1 (kCall (kCons (kVar rfl) evEs_nil) h)))))⟩
 ·obtain ⟨σ',h⟩:=h1 σ
  exact ⟨σ',qcq (D:=d_l_asked) H.ak rfl ((qac qcv rfl).trans (qa1 qcv rfl (qge (kCall (kCons (kVar rfl) (kCons evE_cStr evEs_nil)) (ql8 (d:=d+1) H h)))))⟩
 ·obtain ⟨σ',h⟩:=h1 σ
  exact ⟨σ',qcq (D:=d_l_asked) H.ak rfl ((qac qcv rfl).trans ((qac qcv rfl).trans (qgf (bi_x (qk1 (kCall (kCons (kVar rfl) (kCons evE_cStr evEs_nil)) (qq1 (d:=d+2) H h)))))))⟩
theorem qpx (H:H6 P){T T0:Tree}(ok:T.Ok)(hdp:2 * T.dep+1≤d+5)(hc:T.cnt≤3000)(h0:∀ σ,∃ σ',callF gl P (d+7) 20 [.str w] σ = .ok T0.v σ')(h1:∀ σ,∃ σ',callF gl P (d+6) 20 [.str w] σ = .ok T.v σ'){j:Int}(hj:j=0∨j=1∨j=2)(σ:Sg):∃ σ',callF gl P (d+8) 55 [.str w,.int j] σ = .ok (.bool true) σ':=by
 have G:=qt6 ok
 rcases hj with rfl | rfl | rfl
 ·obtain ⟨σ',h⟩:=h0 σ
  obtain ⟨xs,e⟩:=v_tup T0
  rw [e] at h
  exact ⟨σ',qaf (D:=d_l_asked) H.ak rfl (qak qcv rfl (qae (kBi (kCons (kCall (kCons (kVar rfl) evEs_nil) h) evEs_nil) rfl)))⟩
 ·obtain ⟨σ1,h⟩:=h1 σ
  obtain ⟨X,e2⟩:=qnd (gl:=gl) (d:=d+5) (σ:=σ1) H.n ok hdp (by lia)
  obtain ⟨v,σ2,h2,hv⟩:=qp1 (d:=d+1) (w:=[97,32,98]) H G (qs5 ok hc (by decide) G) h e2
  refine ⟨σ2,qaf (D:=d_l_asked) H.ak rfl ((qac qcv rfl).trans (qak qcv rfl ((qab (kCall (kCons (kVar rfl) (kCons evE_cStr evEs_nil)) h2)).trans (qae ?_))))⟩
  rcases hv with rfl | ⟨x,rfl⟩
  ·exact or_bb (p:=true) (q:=true) (kCmp (kVar rfl) evE_cNone rfl) λh=>Bool.noConfusion h
  ·exact or_bb (p:=false) (q:=true) (kCmp (kVar rfl) evE_cNone rfl) λh=>kBi (kCons (kVar rfl) evEs_nil) rfl
 ·obtain ⟨σ1,h⟩:=h1 σ
  obtain ⟨X,e2⟩:=qnd (gl:=gl) (d:=d+5) (σ:=σ1) H.n ok hdp (by lia)
  obtain ⟨L,σ2,h2⟩:=qtw (d:=d+2) H G (qs5 ok hc (by decide) G) h e2
  exact ⟨σ2,qaf (D:=d_l_asked) H.ak rfl ((qac qcv rfl).trans ((qac qcv rfl).trans (qae (kBi (kCons (kCall (kCons (kVar rfl) (kCons evE_cStr evEs_nil)) h2) evEs_nil) rfl))))⟩
theorem tryC_ok {Γ:Fm}{e:Ex}{hs:List (Nat×List Nat)}{v:V}(h:evE gl cf e Γ σ = .ok v σ'):exS gl cf (.tryC e hs) Γ σ = .ok (.ret v,Γ) σ':=by
 have q:exS gl cf (.tryC e hs) Γ σ=match evE gl cf e Γ σ with
  | .ok v σ=>.ok (.ret v,Γ) σ
  | .bad=>.bad
  | .ex c σ=>match hs.lookup c with | some s=>.ok (.ret (.str s),Γ) σ | none=>.bad:=rfl
 rw [q,h]
theorem tryC_ex {Γ:Fm}{e:Ex}{hs:List (Nat×List Nat)}{s:List Nat}(h:evE gl cf e Γ σ = .ex n σ')(hl:hs.lookup n=some s):exS gl cf (.tryC e hs) Γ σ = .ok (.ret (.str s),Γ) σ':=by
 have q:exS gl cf (.tryC e hs) Γ σ=match evE gl cf e Γ σ with
  | .ok v σ=>.ok (.ret v,Γ) σ
  | .bad=>.bad
  | .ex c σ=>match hs.lookup c with | some s=>.ok (.ret (.str s),Γ) σ | none=>.bad:=rfl
 rw [q,h]
 show (match hs.lookup n with | some s=>Res.ok (Fl.ret (.str s),Γ) σ' | none=>.bad)=_
 rw [hl]
theorem tryP_ex {Γ:Fm}{e:Ex}(h:evE gl cf e Γ σ = .ex n σ')(h1:1≤n)(h5:n≤5):exS gl cf (.tryP e) Γ σ = .ok (.ret (.bool true),List.replicate Γ.length .undef) σ':=by
 have q:exS gl cf (.tryP e) Γ σ=match evE gl cf e Γ σ with
  | .ok _ σ=>.ok (.next,Γ) σ
  | .bad=>.bad
  | .ex c σ=>if 1≤c∧c≤5 then .ok (.ret (.bool true),List.replicate Γ.length .undef) σ else .bad:=rfl
 rw [q,h]
 exact if_pos ⟨h1,h5⟩
theorem qkq (H:H6 P){j:Int}(h:callF gl P d 55 [.str w,.int j] σ = .ok (.bool true) σ'):callF gl P (d+1) 56 [.str w,.int j] σ = .ok (.str []) σ' :=
 qaf (D:=d_l_refusal) H.rf rfl (qcx (tryC_ok (kIteT (kCall (kCons (kVar rfl) (kCons (kVar rfl) evEs_nil)) h) rfl evE_cStr)))
theorem qh7 (H:H6 P){j:Int}(h1:1≤n)(h5:n≤5)(h:callF gl P d 55 [.str w,.int j] σ = .ex n σ'):callF gl P (d+1) 56 [.str w,.int j] σ = .ok (.str (txt n)) σ':=by
 refine qaf (D:=d_l_refusal) H.rf rfl (qcx (tryC_ex (ite_x (kCall (kCons (kVar rfl) (kCons (kVar rfl) evEs_nil)) h)) ?_))
 have:∀ a,a<6->1≤a->[(1,[117,110,99,108,111,115,101,100]),(2,[117,110,111,112,101,110,101,100]),(3,[110,111,116,104,105,110,103]),(4,[114,111,117,110,100]),(5,[100,101,101,112])].lookup a=some (txt a):=by decide
 exact this n (Nat.lt_succ_of_le h5) h1
theorem qty (H:H6 P)(h1:1≤n)(h5:n≤5)(h:callF gl P d 20 [.str w] σ = .ex n σ'):callF gl P (d+1) 57 [.str w] σ = .ok (.bool true) σ' :=
 qaf (D:=d_l_one_class) H.oc rfl (qcx (tryP_ex (kCall (kCons (kVar rfl) evEs_nil) h) h1 h5))
noncomputable def lawT:List St:=[.asg 5 (.call 54 [(.var 2)]),
 .for 6 .rng1 (.cInt 3) .cNone
  [.ite (.cmp .ne (.call 56 [(.var 2),(.var 6)]) (.var 5))
    [.ret (.cBool false)]
    []],
 .ret (.or (.cmp .eq (.var 5) (.cStr [])) (.call 57 [(.var 2)]))]
theorem qsc {a0 a1 a3 a4 y:V}{s:List Nat}(h:∀ (j:Int),(j=0∨j=1∨j=2)->∀ σ,∃ σ',cf 56 [.str w,.int j] σ = .ok (.str s) σ')(σ:Sg):∃ y' σ',exS gl cf (.for 6 .rng1 (.cInt 3) .cNone
  [.ite (.cmp .ne (.call 56 [(.var 2),(.var 6)]) (.var 5))
    [.ret (.cBool false)]
    []]) [a0,a1,.str w,a3,a4,.str s,y] σ = .ok (.next,[a0,a1,.str w,a3,a4,.str s,y']) σ':=by
 have st:∀ {j:Int} {y:V} {σ σ':Sg},cf 56 [.str w,.int j] σ = .ok (.str s) σ'->exB gl cf [.ite (.cmp .ne (.call 56 [(.var 2),(.var 6)]) (.var 5)) [.ret (.cBool false)] []] ([a0,a1,.str w,a3,a4,.str s,y].set 6 (.int j)) σ = .ok (.next,[a0,a1,.str w,a3,a4,.str s,.int j]) σ':=λ{j y σ σ'} h =>
  (qac (v:=.bool false) (σ':=σ') (kCmp (kCall (kCons (kVar rfl) (kCons (kVar rfl) evEs_nil)) h) (kVar rfl) (by rw [ne_ss,beq_self_eq_true];rfl)) rfl).trans exB_nil0
 obtain ⟨σ1,h1⟩:=h 0 (.inl rfl) σ
 obtain ⟨σ2,h2⟩:=h 1 (.inr (.inl rfl)) σ1
 obtain ⟨σ3,h3⟩:=h 2 (.inr (.inr rfl)) σ2
 exact ⟨.int 2,σ3,(qe1 (items:=[.int 0,.int 1,.int 2]) evE_cInt evE_cNone rfl).trans ((qce (st h1)).trans ((qce (st h2)).trans ((qce (st h3)).trans forGo_nil)))⟩
theorem qtk {m:Nat}(h1:1≤n)(h5:n≤5)(g1:1≤m)(g5:m≤5)(h:txt n=txt m):n=m:=by
 have:∀ a,a<6->∀ b,b<6->1≤a->1≤b->txt a=txt b->a=b:=by decide
 exact this n (Nat.lt_succ_of_le h5) m (Nat.lt_succ_of_le g5) h1 g1 h
theorem qpr (h5:n≤5):txt n≠[]:=by
 have:∀ a,a<6->txt a≠[]:=by decide
 exact this n (Nat.lt_succ_of_le h5)
theorem qfk {f:Sg->Res V}{a b:List Nat}(h:∀ σ,f σ = .ok (.str a) σ)(g:∀ σ,f σ = .ok (.str b) σ):a=b:=by
 have:=(h []).symm.trans (g [])
 injection this with h1
 injection h1
theorem quk (H:H6 P)(hgl:gl[0]? = some (.int 30))(hw:w.length<2000)(hd:200≤d){a0 a1 a3 a4 a5 a6:V}(σ:Sg):∃ Γ σ',exB gl (callF gl P (d+9)) lawT [a0,a1,.str w,a3,a4,a5,a6] σ = .ok (.ret (.bool true),Γ) σ':=by
 have t0:=told (gl:=gl) (d:=d+3) (e:=d+6) H.r H.du hgl hw (by lia)
 have t1:=told (gl:=gl) (d:=d+2) (e:=d+6) H.r H.du hgl hw (by lia)
 have t2:=told (gl:=gl) (d:=d+4) (e:=d+6) H.r H.du hgl hw (by lia)
 cases t0 with
 | x n h1 h5 hr hdu =>
  have r1:∀ σ,∃ σ',callF gl P (d+6) 20 [.str w] σ = .ex n σ':=by
   cases t1 with
   | x m g1 g5 hr' hdu' =>
    have:=qtk h1 h5 g1 g5 (qfk hdu hdu')
    subst this
    exact hr'
   | ok T _ _ _ _ hdu'=>exact absurd (qfk hdu hdu') (qpr h5)
  have r2:∀ σ,∃ σ',callF gl P (d+8) 20 [.str w] σ = .ex n σ':=by
   cases t2 with
   | x m g1 g5 hr' hdu' =>
    have:=qtk h1 h5 g1 g5 (qfk hdu hdu')
    subst this
    exact hr'
   | ok T _ _ _ _ hdu'=>exact absurd (qfk hdu hdu') (qpr h5)
  obtain ⟨y',σ1,e⟩:=qsc (gl:=gl) (cf:=callF gl P (d+9)) (w:=w) (a0:=a0) (a1:=a1) (a3:=a3) (a4:=a4) (y:=a6) (s:=txt n) (λj hj σ=>by
   obtain ⟨σ',h⟩:=ql6 (gl:=gl) (d:=d) H hr r1 hj σ
   exact ⟨σ',qh7 H h1 h5 h⟩) σ
  obtain ⟨σ2,h2⟩:=r2 σ1
  refine ⟨_,σ2,(qab (kCall (kCons (kVar rfl) evEs_nil) (hdu σ))).trans ((qay e).trans (qae ?_))⟩
  have hne:(txt n == [])=false:=beq_eq_false_iff_ne.mpr (qpr h5)
  have l1:∀ {y6:V},evE gl (callF gl P (d+9)) (.cmp .eq (.var 5) (.cStr [])) [a0,a1,.str w,a3,a4,.str (txt n),y6] σ1 = .ok (.bool false) σ1:=λ{y6}=>kCmp (kVar rfl) evE_cStr (by rw [eq_ss,hne])
  have l2:∀ {y6:V},evE gl (callF gl P (d+9)) (.call 57 [(.var 2)]) [a0,a1,.str w,a3,a4,.str (txt n),y6] σ1 = .ok (.bool true) σ2:=λ{y6}=>kCall (kCons (kVar rfl) evEs_nil) (qty H h1 h5 h2)
  rw [qc2,l1,qad,qed,qam,qad,if_neg Bool.false_ne_true,l2,qsp]
 | ok T0 _ _ _ hr hdu =>
  cases t1 with
  | x m g1 g5 hr' hdu'=>exact absurd (qfk hdu' hdu) (qpr g5)
  | ok T ok dp ct hr' hdu' =>
   obtain ⟨y',σ1,e⟩:=qsc (gl:=gl) (cf:=callF gl P (d+9)) (w:=w) (a0:=a0) (a1:=a1) (a3:=a3) (a4:=a4) (y:=a6) (s:=[]) (λj hj σ=>by
    obtain ⟨σ',h⟩:=qpx (gl:=gl) (d:=d) H ok (by lia) (by lia) hr hr' hj σ
    exact ⟨σ',qkq H h⟩) σ
   exact ⟨_,σ1,(qab (kCall (kCons (kVar rfl) evEs_nil) (hdu σ))).trans ((qay e).trans (qae (or_bb (p:=true) (q:=true) (kCmp (kVar rfl) evE_cStr rfl) λh=>Bool.noConfusion h)))⟩
end
end Mine.Internal
namespace Mine.Internal
noncomputable def some9:List (List Nat):=[[40,97,41],[40,97,98,124,99,41],[91,97,98,93],[91,33,93],[40,97,63,41],[40,41],[40,124,97,41],[97,42],[126,41]]
section
variable {gl:List V} {cf:CF} {σ σ':Sg} {Γ:Fm} {P:List Def} {d n:Nat} {w:List Nat}
theorem qr5 {v:V}{L:List V}{i b:Int}(hs:getSeq σ v=some L)(hb:0<b)(hl:(L.length:Int)=b)(hL:L.length<100):∃ x,x∈L∧vIdx σ v (.int (i.fmod b))=some x:=by
 obtain ⟨h1,h2⟩:=qen i hb
 have hlt:(i.fmod b).toNat<L.length:=by lia
 exact ⟨L[(i.fmod b).toNat],List.getElem_mem hlt,qfm (k:=(i.fmod b).toNat) hs (Int.toNat_of_nonneg h1).symm (List.getElem?_eq_getElem hlt) (by lia)⟩
theorem qml {s:List Nat}{i b:Int}(hb:0<b)(hl:(s.length:Int)=b)(hL:s.length<100):∃ t:List Nat,t.length≤6∧∀ σ,vIdx σ (.str s) (.int (i.fmod b))=some (.str t):=by
 obtain ⟨x,hx,h⟩:=qr5 (σ:=[]) (v:=.str s) (L:=s.map λc=>V.str [c]) (i:=i) rfl hb (by rw [List.length_map];exact hl) (by rw [List.length_map];exact hL)
 obtain ⟨c,_,rfl⟩:=List.mem_map.mp hx
 exact ⟨[c],by simp,λσ=>h⟩
theorem v3 {b:Int}{c:Int}{y0 y1 y2 y4:V}:evE gl cf (.cmp .eq (.var 3) (.cInt b)) [y0,y1,y2,.int c,y4] σ = .ok (.bool (c == b)) σ:=kCmp (kVar rfl) evE_cInt rfl
theorem lst9 {es:List Ex}{L:List (List Nat)}(h:es=L.map Ex.cStr):evEs gl cf es Γ σ = .ok (L.map V.str) σ:=by
 subst h
 induction L with
 | nil=>rfl
 | cons a r ih=>exact kCons evE_cStr ih
theorem piece {x1 x2 x3:Nat}(H:HS P)(h24:P[24]? = some d_l_piece_by_v06)(c:Int):∃ s:List Nat,s.length≤6∧∀ σ,callF gl P (d+2) 24 [.int c,.str [x1,x2,x3]] σ = .ok (.str s) σ:=by
 have hL:∀ σ,evE gl (callF gl P (d+1)) (.lst false [(.cStr [40,97,41]),(.cStr [40,97,98,124,99,41]),(.cStr [91,97,98,93]),(.cStr [91,33,93]),(.cStr [40,97,63,41]),(.cStr [40,41]),(.cStr [40,124,97,41]),(.cStr [97,42]),(.cStr [126,41])]) [.int c,.str [x1,x2,x3],.undef,.undef,.undef] σ = .ok (.lst (some9.map V.str)) σ:=λσ=>kLst (lst9 (L:=some9) rfl) (qpf (by decide))
 have st:∀ {s:List Nat},(∀ σ,exB gl (callF gl P (d+1)) (d_l_piece_by_v06.body.drop 3) [.int c,.str [x1,x2,x3],.lst (some9.map V.str),.int (c.fmod 5),.int (c.fdiv 5)] σ = .ok (.ret (.str s),[.int c,.str [x1,x2,x3],.lst (some9.map V.str),.int (c.fmod 5),.int (c.fdiv 5)]) σ)->∀ σ,callF gl P (d+2) 24 [.int c,.str [x1,x2,x3]] σ = .ok (.str s) σ:=λh σ =>
  qaf (D:=d_l_piece_by_v06) h24 rfl ((qab (hL σ)).trans ((qab (v:=.int (c.fmod 5)) (σ':=σ) (kBin (kVar rfl) evE_cInt rfl)).trans ((qab (v:=.int (c.fdiv 5)) (σ':=σ) (kBin (kVar rfl) evE_cInt rfl)).trans (h σ))))
 by_cases w0:c.fmod 5=0
 ·refine ⟨[sign (c.fdiv 5)],by simp,st λσ=>qak v3 (by rw [w0];rfl) (qae (kCall (kCons (kVar rfl) evEs_nil) (qkr H _)))⟩
 have s0:∀ {r:List St} {σ:Sg},exB gl (callF gl P (d+1)) (.ite (.cmp .eq (.var 3) (.cInt 0)) [.ret (.call 1 [(.var 4)])] []::r) [.int c,.str [x1,x2,x3],.lst (some9.map V.str),.int (c.fmod 5),.int (c.fdiv 5)] σ=exB gl (callF gl P (d+1)) r [.int c,.str [x1,x2,x3],.lst (some9.map V.str),.int (c.fmod 5),.int (c.fdiv 5)] σ:=qac v3 (by rw [beq_eq_false_iff_ne.mpr w0];rfl)
 by_cases w1:c.fmod 5=1
 ·obtain ⟨t,ht,h⟩:=qml (s:=[x1,x2,x3]) (i:=c.fdiv 5) (b:=3) (by decide) rfl (by simp)
  exact ⟨t,ht,st λσ=>s0.trans (qak v3 (by rw [w1];rfl) (qae (kIdx (kVar rfl) (kBin (kVar rfl) evE_cInt rfl) (h σ))))⟩
 have s1:∀ {r a:List St} {σ:Sg},exB gl (callF gl P (d+1)) (.ite (.cmp .eq (.var 3) (.cInt 1)) a []::r) [.int c,.str [x1,x2,x3],.lst (some9.map V.str),.int (c.fmod 5),.int (c.fdiv 5)] σ=exB gl (callF gl P (d+1)) r [.int c,.str [x1,x2,x3],.lst (some9.map V.str),.int (c.fmod 5),.int (c.fdiv 5)] σ:=qac v3 (by rw [beq_eq_false_iff_ne.mpr w1];rfl)
 by_cases w2:c.fmod 5=2
 ·obtain ⟨t,ht,h⟩:=qml (s:=[40,41,124,42,63,46,91,93,126,33]) (i:=c.fdiv 5) (b:=10) (by decide) rfl (by decide)
  exact ⟨t,ht,st λσ=>s0.trans (s1.trans (qak v3 (by rw [w2];rfl) (qae (kIdx evE_cStr (kBin (kVar rfl) evE_cInt rfl) (h σ)))))⟩
 have s2:∀ {r a:List St} {σ:Sg},exB gl (callF gl P (d+1)) (.ite (.cmp .eq (.var 3) (.cInt 2)) a []::r) [.int c,.str [x1,x2,x3],.lst (some9.map V.str),.int (c.fmod 5),.int (c.fdiv 5)] σ=exB gl (callF gl P (d+1)) r [.int c,.str [x1,x2,x3],.lst (some9.map V.str),.int (c.fmod 5),.int (c.fdiv 5)] σ:=qac v3 (by rw [beq_eq_false_iff_ne.mpr w2];rfl)
 by_cases w3:c.fmod 5=3
 ·obtain ⟨x,hx,h⟩:=qr5 (σ:=[]) (v:=.lst (some9.map V.str)) (L:=some9.map V.str) (i:=c.fdiv 5) (b:=9) rfl (by decide) rfl (by decide)
  obtain ⟨t,ht,rfl⟩:=List.mem_map.mp hx
  have hall:∀ t∈some9,t.length≤6:=by decide
  exact ⟨t,hall t ht,st λσ=>s0.trans (s1.trans (s2.trans (qak v3 (by rw [w3];rfl) (qae (kIdx (kVar rfl) (kBin (kVar rfl) evE_cInt rfl) h)))))⟩
 have s3:∀ {r a:List St} {σ:Sg},exB gl (callF gl P (d+1)) (.ite (.cmp .eq (.var 3) (.cInt 3)) a []::r) [.int c,.str [x1,x2,x3],.lst (some9.map V.str),.int (c.fmod 5),.int (c.fdiv 5)] σ=exB gl (callF gl P (d+1)) r [.int c,.str [x1,x2,x3],.lst (some9.map V.str),.int (c.fmod 5),.int (c.fdiv 5)] σ:=qac v3 (by rw [beq_eq_false_iff_ne.mpr w3];rfl)
 obtain ⟨t,ht,h⟩:=qml (s:=[40,124,41,42,63,33]) (i:=c.fdiv 5) (b:=6) (by decide) rfl (by decide)
 exact ⟨t,ht,st λσ=>s0.trans (s1.trans (s2.trans (s3.trans (qae (kIdx evE_cStr (kBin (kVar rfl) evE_cInt rfl) (h σ))))))⟩
theorem qns {α:Type}{f:α->List Nat}(h:∀ z,(f z).length≤6):∀ l:List α,(l.map f).flatten.length≤6 * l.length
 | []=>Nat.le_refl _
 | a::r=>by
  rw [List.map_cons,List.flatten_cons,List.length_append,List.length_cons]
  have:=qns h r
  have:=h a
  lia
theorem qte {α:Type}{f:α->List Nat}:∀ l:List α,((l.map f).map λx=>x.length+([]:List Nat).length).sum=(l.map f).flatten.length
 | []=>rfl
 | a::r=>by
  rw [List.map_cons,List.map_cons,List.sum_cons,qte r,List.flatten_cons,List.length_append];rfl
theorem quf {α:Type}{f:α->List Nat}{l:List α}(h:(l.map f).flatten.length≤roomy):vJoin σ (.str []) (.lst (l.map λx=>V.str (f x)))=some (.str (l.map f).flatten):=by
 show ((strsV (l.map λx=>V.str (f x))).bind λl=>if (l.map λx=>x.length+([]:List Nat).length).sum≤roomy then some (V.str (joinS [] l)) else none)=_
 rw [qg9,Option.bind_some,qte,if_pos h,qgx]
theorem mul_s {c:Nat}{n:Int}(h:n≤100)(h0:0≤n):∃ s:List Nat,s.length≤100∧∀ σ,vBin σ .mul (.str [c]) (.int n)=some (.str s):=by
 refine ⟨(List.replicate n.toNat [c]).flatten,by simp;lia,λσ=>?_⟩
 show (if ([c].length * n.toNat≤roomy && small n) then some (V.str (List.replicate n.toNat [c]).flatten) else none)=_
 rw [qdy (by lia) (by lia),decide_eq_true (by unfold roomy;simp only [List.length_cons,List.length_nil];lia)];rfl
theorem body06 {xs:List Int}{x1 x2 x3:Nat}{c1 c2:Int}(hx:xs.length≤63)(e1:∀ σ,evE gl cf (.call 2 [(.call 0 [(.var 0),(.cInt 0)])]) [.lst (xs.map V.int),.undef,.undef,.undef,.undef,.undef,.undef] σ = .ok (.str [x1,x2,x3]) σ)
  (h1:∀ σ,cf 0 [.lst (xs.map V.int),.int 1] σ = .ok (.int c1) σ) (h2:∀ σ,cf 0 [.lst (xs.map V.int),.int 2] σ = .ok (.int c2) σ)
  (hp:∀ c:Int,∃ s:List Nat,s.length≤6∧∀ σ,cf 24 [.int c,.str [x1,x2,x3]] σ = .ok (.str s) σ)
  (ht:∀ (w:List Nat) (a0 a1 a3 a4 a5 a6:V) (σ:Sg),w.length<2000->∃ Γ σ',exB gl cf lawT [a0,a1,.str w,a3,a4,a5,a6] σ = .ok (.ret (.bool true),Γ) σ') (σ:Sg) :
  ∃ Γ σ',exB gl cf d_law_v06.body [.lst (xs.map V.int),.undef,.undef,.undef,.undef,.undef,.undef] σ = .ok (.ret (.bool true),Γ) σ':=by
 obtain ⟨f,hf⟩:=Classical.axiomOfChoice hp
 have hl:((xs.take 150).drop 3).length≤60:=by rw [List.length_drop,List.length_take];lia
 have hfl:=qns (λz=>(hf z).1) ((xs.take 150).drop 3)
 have e2:evE gl cf (.join (.cStr []) (.comp false (.call 24 [(.var 7),(.var 1)]) .val (.slice (.var 0) (some (.cInt 3)) (some (.cInt 150))) .cNone none)) [.lst (xs.map V.int),.str [x1,x2,x3],.undef,.undef,.undef,.undef,.undef] σ = .ok (.str (((xs.take 150).drop 3).map f).flatten) σ:=by
  refine kJoin evE_cStr (qrr (l:=(xs.take 150).drop 3) (h:=V.int) (k:=λz=>V.str (f z)) (σ₁:=σ) (σ₂:=σ) (x:=.lst (((xs.take 150).drop 3).map V.int)) (y:=.none) ?_ evE_cNone rfl (λz _=>kCall (kCons (kVar rfl) (kCons (kVar rfl) evEs_nil)) ((hf z).2 σ)) (by unfold roomy;lia)) (quf (by unfold roomy;lia))
  refine kSlice (kVar rfl) (kSome evE_cInt rfl) (kSome evE_cInt rfl) ?_
  rw [qpt (by decide) (by decide)]
  show some (V.lst (cut (xs.map V.int) (some ((3:Nat):Int)) (some ((150:Nat):Int))))=_
  rw [qrk 3 150 (by decide),List.map_drop,List.map_take]
 generalize hW:(((xs.take 150).drop 3).map f).flatten=W at hfl e2
 have hWl:W.length≤360:=by lia
 have t1:evE gl cf (.cmp .eq (.bin .mod (.call 0 [(.var 0),(.cInt 1)]) (.cInt 4)) (.cInt 1)) [.lst (xs.map V.int),.str [x1,x2,x3],.str W,.undef,.undef,.undef,.undef] σ = .ok (.bool (c1.fmod 4 == 1)) σ :=
  kCmp (kBin (kCall (kCons (kVar rfl) (kCons evE_cInt evEs_nil)) (h1 σ)) evE_cInt rfl) evE_cInt rfl
 have go:∀ {r:Res (Fl×Fm)},exB gl cf (d_law_v06.body.drop 2) [.lst (xs.map V.int),.str [x1,x2,x3],.str W,.undef,.undef,.undef,.undef] σ=r->exB gl cf d_law_v06.body [.lst (xs.map V.int),.undef,.undef,.undef,.undef,.undef,.undef] σ=r:=λh=>(qab (e1 σ)).trans ((qab e2).trans h)
 by_cases hc:c1.fmod 4=1
 ·obtain ⟨p1,p2⟩:=qen c2 (b:=11) (by decide)
  obtain ⟨q1,q2⟩:=qen (c1.fdiv 4) (b:=4) (by decide)
  obtain ⟨s1,l1,m1⟩:=mul_s (c:=40) (n:=25+c2.fmod 11) (by lia) (by lia)
  obtain ⟨s2,l2,m2⟩:=mul_s (c:=41) (n:=25+c2.fmod 11 - ((c1.fdiv 4).fmod 4 - 1)) (by lia) (by lia)
  obtain ⟨Γ,σ',h⟩:=ht (s1++W++s2) (.lst (xs.map V.int)) (.str [x1,x2,x3]) (.int (25+c2.fmod 11)) (.int ((c1.fdiv 4).fmod 4 - 1)) .undef .undef σ (by rw [List.length_append,List.length_append];lia)
  refine ⟨Γ,σ',go ((qa6 t1 (by rw [hc];rfl) ((qab (v:=.int (25+c2.fmod 11)) (kBin evE_cInt (kBin (kCall (kCons (kVar rfl) (kCons evE_cInt evEs_nil)) (h2 σ)) evE_cInt rfl) rfl)).trans ((qab (v:=.int ((c1.fdiv 4).fmod 4 - 1)) (kBin (kBin (kBin (kCall (kCons (kVar rfl) (kCons evE_cInt evEs_nil)) (h1 σ)) evE_cInt rfl) evE_cInt rfl) evE_cInt rfl)).trans ((qab (v:=.str (s1++W++s2)) (σ':=σ) ?_).trans exB_nil0)))).trans h)⟩
  exact kBin (kBin (kBin evE_cStr (kVar rfl) (m1 σ)) (kVar rfl) (qee (by unfold roomy;lia))) (kBin evE_cStr (kBin (kVar rfl) (kVar rfl) rfl) (m2 σ)) (qee (by rw [List.length_append];unfold roomy;lia))
 ·obtain ⟨Γ,σ',h⟩:=ht W (.lst (xs.map V.int)) (.str [x1,x2,x3]) .undef .undef .undef .undef σ (by lia)
  exact ⟨Γ,σ',go ((qac t1 (by rw [beq_eq_false_iff_ne.mpr hc];rfl)).trans h)⟩
end
theorem law_true06 (xs:List Int)(hx:xs.length≤63):∃ σ',callF GL06 P06 500 3 [.lst (xs.map V.int)] [] = .ok (.bool true) σ':=by
 have H:HS P06:=⟨rfl,rfl,rfl⟩
 have H':H6 P06:=⟨⟨rfl,rfl,rfl,rfl,rfl,rfl,rfl,rfl⟩,⟨rfl,rfl,rfl,rfl,rfl⟩,⟨rfl,⟨rfl,rfl,rfl,rfl⟩⟩,⟨rfl,rfl,rfl,rfl⟩,rfl,rfl,rfl,rfl,rfl,rfl,rfl⟩
 have hc:∀ (k:Nat) (i:Int),i=(k:Int)->∀ σ,callF GL06 P06 499 0 [.lst (xs.map V.int),.int i] σ = .ok (.int (xs.getD k 0)) σ:=λk i hi σ=>qq2 (d:=498) H hx k hi
 obtain ⟨Γ,σ',h⟩:=body06 (gl:=GL06) (cf:=callF GL06 P06 499) hx (x1:=sign (xs.getD 0 0)) (x2:=sign (xs.getD 0 0+31)) (x3:=sign (xs.getD 0 0+62)) (c1:=xs.getD 1 0) (c2:=xs.getD 2 0)
  (λσ=>kCall (kCons (kCall (kCons (kVar rfl) (kCons evE_cInt evEs_nil)) (hc 0 0 rfl σ)) evEs_nil) (qp9 (d:=497) H _)) (hc 1 1 rfl) (hc 2 2 rfl)
  (λc=>piece (d:=497) H rfl c) (λw a0 a1 a3 a4 a5 a6 σ hw=>quk (d:=490) H' rfl hw (by decide) σ) []
 exact ⟨σ',qaf (D:=d_law_v06) rfl rfl h⟩
end Mine.Internal
open PySem PySem.W PyProof.Rows
set_option maxRecDepth 100000 in
set_option maxHeartbeats 8000000 in
theorem PySem.Challenge.cw_uf020004_06_holds : PySem.Challenge.rw_uf020004_06.Holds := by
  w_on
  refine holds_law Mine.Internal.said06 fun said => ?_
  refine holds_open (q := (view PySem.Challenge.pw_uf020004_06 [1, 2, 3, 4, 5, 6, 8, 10, 11, 12, 13, 14, 15, 16, 17, 19, 20, 21, 22, 23, 25, 27, 28, 29, 30, 31, 33, 34, 36, 37, 38, 39, 40, 41, 42, 43, 44, 45, 46, 47, 48])) (loose := []) (Xt := fun s => Mine.Internal.xOkB Mine.Internal.xns06 s.heap && recOk [] s) (XP := Mine.Internal.XOk Mine.Internal.NM06.xns) (Yf := Hook.obs Hook.none) (Ya := Hook.val Hook.none) (YP := Hook.says Hook.none) (N := 4000) Mine.Internal.left06 (Hook.of Hook.none) (Hook.keeps Hook.none) (fun s e => Mine.Internal.XOk.of (Bool.and_eq_true_iff.mp e).1) Mine.Internal.XOk.keeps (by rfl) (by rfl) (by rfl) (fun s e => recFacts_of (Bool.and_eq_true_iff.mp e).2) (by rfl) (by first | assumption | decide +kernel) (by decide +kernel) ⟨rfl, rfl, rfl, rfl, rfl, by decide +kernel⟩ ?hw ?hc
  case hw => w_witness2
  intro w s₀ s₁ mg mb G Y fa o pm cd doc dV kV ho hd hcd hD hmg hg args vals as hpre hlay hrd hwl hlo
  have XX := G.X
  refine Ground.open G ?_
  intro T B D TE TW
  wrow_args hpre hlay hrd hwl hlo
  rename_i xs _ _ _ _ _ _ _ ad vs _ _ _ w1 _ hI _ hlen _
  have hx : xs.length ≤ 63 := by omega
  obtain ⟨σ', he⟩ := Mine.Internal.law_true06 xs hx
  obtain ⟨us, hli, hi⟩ := Mine.Internal.well_script w1
  refine wpAny_mono (Mine.Internal.law_run (fuel := 200) (N := Mine.Internal.NM06) (tbls := Mine.Internal.TB06) T XX rfl (by decide +kernel) (by decide +kernel) rfl (by decide +kernel) rfl hmg (by decide) hli hi hx he) (fun v s' hP => Mine.Internal.good_true (raisesW_false (by wrow_none_raised)) (by wrow_post) hg hP) fun _ _ e => e

