/- Part 11. -/
import Derived.Test.YtlbooedblpdmaaaGreatDoorEI
import Derived.Test.YtlbooedblpdmaaaGreatDoorEG
import Derived.Test.YtlbooedblpdmaaaGreatDoorEH
import Derived.Test.YtlbooedblpdmaaaGreatDoorEJ
import Derived.Lay
set_option linter.defProp false
set_option linter.unusedSimpArgs false
set_option linter.unusedVariables false
set_option linter.unusedSectionVars false
namespace Go.AM
def Bz4:=@Go.Proofs.Tryz.underlying28
def BB5:=@Go.Claim7.holds_tied_plain_at
def BD1:=@Go.OpenSpec.preRow_of_cond
def BD3:=@Go.OpenClaim.holds_of_cond
def BD5:=@Go.OpenClaim.pre_eq_preRow
def BH1:=@Go.Proofs.Tryz.params9
section
variable (P:Program)
end
section
variable {P:Program}
variable {S:U3}{F:K6}{g:Cfg}{pr:Prop}
end
section
variable {S:U3}{P:Program}{F:K6}{g:Cfg}{pr:Prop}
section
variable {sc:SC}{k:Env->D8->Prop}
theorem AL6:∀{env:Env}{i d:Nat}{b:AV},AA9 ((i,b)::env)=true->get env d ≠ .top->d<i
 |[],_,_,_,_,h=>Pm rfl h
 |(j,c)::r,i,d,b,hd,h=>by
  simp only[AA9,Bm8,Pp]at hd;by_cases e:j=d
  .subst e;exact hd.1
  simp only[get,e,Po]at h;exact Nat.lt_trans (AL6 hd.2 h) hd.1
theorem Re:∀{env:Env}{d:Nat}{a:AV},AA9 env=true->get env d=a->a ≠ .top->ins d a env=env
 |[],_,_,_,h,hn=>Pm h.symm hn
 |(i,b)::r,d,a,hd,h,hn=>by
  by_cases e:i=d
  .subst e;simp only[get,Pn]at h;subst h;simp[ins]
  simp only[get,e,Po]at h;have c:=AL6 hd (by rw[h];exact hn);have f:AA9 r=true:=by
   cases r with
   |nil=>rfl
   |cons p r=>simp only[AA9,Bm8]at hd;exact hd.2
  simp only[ins,show ¬i<d by omega,e,Po,Re f h hn]
def Mr (v:Bool)(sc:SC):SC:=match sc.rest with
 |o::_=>match o.guard with
  |some (j,_)=>match Bc5 sc.all j with
   |some d=>mkO (ins d (.p (.bb v)) sc.env) sc.regs fun env regs=>⟨sc.all,sc.cls,sc.rest,env,regs,j::sc.kn⟩
   |none=>sc
  |none=>sc
 |[]=>sc
theorem AQ2 (hc:pr){b:Bool}(ht:b=true->SG S P (Mr true (Dh P sc)) k)(f:b=false->SG S P (Mr false (Dh P sc)) k)(hp:pr=E5 (Wb P sc))(hb:Rf (Dh P sc)=some b):SG S P sc k:=by
 refine AQ3 hc ?_ hp;generalize Dh P sc=s at hb ht f;obtain⟨all,cls,rest,env,regs,kn⟩:=s;cases rest with
 |nil=>simp[Rf]at hb
 |cons o rest=>
  simp only[Rf]at hb;split at hb
  .rename_i j w g;split at hb
   .rename_i d i;split at hb
    .rename_i b' a;split at hb
     .rename_i c;simp only[Bm4]at hb;subst hb;simp only[Mr,g,i,EB]at ht f;cases b' with
      |true=>have:=ht rfl;rwa [Re c a (by simp)]at this
      |false=>have:=f rfl;rwa [Re c a (by simp)]at this
     cases hb
    cases hb
   cases hb
  cases hb
end
end
section
variable {S:U3}{P:Program}{F:K6}{g:Cfg}{pr:Prop}
section
variable {sc:SC}{k:Env->D8->Prop}
theorem Ms (hc:pr){b:Bool}(ht:b=true->DG S P (Mr true (Dh P sc)) k)(a:b=false->DG S P (Mr false (Dh P sc)) k)(hp:pr=E5 (Wb P sc):=by kernel_rfl)(hb:Rf (Dh P sc)=some b:=by kernel_rfl):DG S P sc k:=
 ⟨AQ2 hc (fun h=>(ht h).out) (fun h=>(a h).out) hp hb⟩
end
end
end Go.AM
namespace Go.AM
open Go.Proofs
abbrev Ay:Nat:=9
abbrev To:Nat:=18
abbrev Mt:Nat:=22
abbrev HI:Nat:=34
abbrev PF:Nat:=36
abbrev IP:Nat:=51
abbrev IQ:Nat:=52
abbrev Mu:Nat:=57
abbrev La:Nat:=58
abbrev Mv:Nat:=59
abbrev PG:Nat:=60
abbrev Mw:Nat:=61
abbrev Mx:Nat:=62
abbrev Lb:Nat:=84
abbrev PH:Nat:=85
abbrev My:Nat:=89
abbrev Mz:Nat:=90
abbrev Hf:Nat:=91
abbrev HJ:Nat:=92
abbrev Lc:Nat:=93
abbrev MA:Nat:=94
abbrev MB:Nat:=114
abbrev PI:Nat:=115
abbrev PJ:Nat:=117
abbrev MC:Nat:=118
abbrev MD:Nat:=119
abbrev PK:Nat:=120
abbrev ME:Nat:=136
abbrev PL:Nat:=137
abbrev MF:Nat:=138
abbrev PM:Nat:=139
abbrev Hg:Nat:=141
abbrev MG:Nat:=154
abbrev PN:Nat:=155
abbrev MH:Nat:=163
abbrev Ts:Nat:=164
abbrev MI:Nat:=165
abbrev PO:Nat:=166
abbrev Tt:Nat:=171
abbrev Tu:Nat:=172
abbrev IR:Nat:=173
abbrev Gm:Nat:=180
abbrev Ld:Nat:=181
abbrev PP:Nat:=182
abbrev Lf:Nat:=183
abbrev PQ:Nat:=184
abbrev Tx:Nat:=192
abbrev PS:Nat:=193
abbrev Fj:Nat:=194
abbrev Ty:Nat:=195
abbrev IS:Nat:=203
abbrev Gn:Nat:=204
abbrev PT:Nat:=205
abbrev Lg:Nat:=206
abbrev PU:Nat:=207
abbrev ML:Nat:=208
abbrev F5:Nat:=225
end Go.AM
namespace Go.AM
open Go.Proofs.Tryz
variable {N:Nat}
open IntKind (wrap)
open Go.Proofs
set_option maxRecDepth 10000
set_option maxHeartbeats 2000000
variable {S:U3}(Z:H2 S Tryz.prog) (Y:Ij S)
include Z Y
theorem U7 {b:Sm}{y:Bool}(h:J1 N b=some y) :FunO S MD [.p (.agg (A0 b))] [] (pB y) ([]) []:=by
 unfold J1 at h;refine A3 Z func119 ?_;refine H0 Z Pq h (fun x1=>⟨[(3,pN x1),(1,.reg 2000 0)],[(2000,.cells [pU b.Plus,pU b.Minus])]⟩) (ids:=[(2000,2000)]) (fun _ _ _ _ _ c x1 d h=>?_);apply kI Z h<;>intro h
 .obtain⟨c7,h⟩:=D6 h;refine kB Z (A5 Z) c7 Pq 12 (.o (.n (.a ((F4 .and .u32 (shI .shr .u32 b.Plus x1) 1)==1)) (.a ((F4 .and .u32 (shI .shr .u32 b.Minus x1) 1)==1))) (.n (.o (.a ((F4 .and .u32 (shI .shr .u32 b.Plus x1) 1)==1)) (.a ((F4 .and .u32 (shI .shr .u32 b.Minus x1) 1)==1))) (.a (decide (24<=x1))))) ?_;apply kI Z h<;>intro h
  .cases h;exact kR Z
  exact d _ [(2000,2000)] _ (wrap .i64 (x1+1)) Pq h
 cases h;exact kR Z
theorem Rk {b:Int}{y:Bool}(h:CT N b=some y) :FunO S IS [pN b] [] (pB y) ([]) []:=by unfold CT at h;refine A3 Z func203 ?_;refine kB Z (A5 Z) Pq Pq 3 (.n (.a (decide (0<=b))) (.a (decide (b<24)))) ?_;cases h;exact kR Z
theorem Di {a:Sm}{c:Int}{y:Int}(h:Y0 N a c=some y) :FunO S Tx [.p (.agg (A0 a)),pN c] [] (pN y) ([]) []:=by
 unfold Y0 at h;refine A3 Z func192 ?_;refine kC Z h (U7 Z Y) (fun y1 h=>?_);refine EC Z Pq (A5 Z) h 0 (fun z1=>⟨[(12,pB z1),(2,.reg 3000 0),(1,pN c)],[(3000,.cells [pU a.Plus,pU a.Minus])]⟩) (fun M1 k1 d h=>?_) (fun z1 h=>?_)
 .refine kG Z h (fun h=>?_) (fun h=>?_)
  .exact d _ [(3000,3000)] _ true Pq h
  refine kC Z h (Rk Z Y) (fun y3 h=>?_);exact d _ [(3000,3000)] _ (!y3) Pq h
 apply kI Z h<;>intro h
 .cases h;exact kR Z
 obtain⟨c5,h⟩:=D6 h;refine D4 Z c5 (b:=(F4 .and .u32 (shI .shr .u32 a.Plus c) 1)==1) (fun c6=>?_) (fun c6=>?_)
 .replace h:=itT c6 h;cases h;exact kR Z
 replace h:=itF c6 h;obtain⟨c7,h⟩:=D6 h;refine D4 Z c7 (b:=(F4 .and .u32 (shI .shr .u32 a.Minus c) 1)==1) (fun c8=>?_) (fun c8=>?_)
 .replace h:=itT c8 h;cases h;exact kR Z
 replace h:=itF c8 h;cases h;exact kR Z
theorem IT {c:Sm}{d:Int}{a:Int}{y:Sm}(h:Cu N c d a=some y) :FunO S Ty [.p (.agg (A0 c)),pN d,pN a] [] (.p (.agg (A0 y))) ([]) []:=by
 unfold Cu at h;refine A3 Z func195 ?_;obtain⟨c1,h⟩:=D6 h;refine D4 Z c1 (b:=a==1) (fun c2=>?_) (fun c2=>?_)
 .replace h:=itT c2 h;apply kI Z h<;>intro h
  .cases h;exact kR Z
  cases h;exact kR Z
 replace h:=itF c2 h;apply kI Z h<;>intro h
 .cases h;exact kR Z
 cases h;exact kR Z
theorem MM {b:Sm}{a:Sm}{y:Bool}(h:P8 N b a=some y) :FunO S Gm [.p (.agg (A0 b)),.p (.agg (A0 a))] [] (pB y) ([]) []:=by
 unfold P8 at h;refine A3 Z func180 ?_;refine kC Z h (U7 Z Y) (fun y1 h=>?_);refine EC Z Pq (A5 Z) h 0 (fun z1=>⟨[(14,pB z1),(3,.reg 4000 0),(2,.reg 3000 0)],[(4000,.cells [pU a.Plus,pU a.Minus]),(3000,.cells [pU b.Plus,pU b.Minus])]⟩) (fun M1 k1 c h=>?_) (fun z1 h=>?_)
 .refine kG Z h (fun h=>?_) (fun h=>?_)
  .exact c _ [(3000,3000),(4000,4000)] _ true Pq h
  refine kC Z h (U7 Z Y) (fun y3 h=>?_);exact c _ [(3000,3000),(4000,4000)] _ (!y3) Pq h
 apply kI Z h<;>intro h
 .cases h;exact kR Z
 refine H0 Z Pq h (fun x3=>⟨[(5,pN x3),(3,.reg 4000 0),(2,.reg 3000 0)],[(4000,.cells [pU a.Plus,pU a.Minus]),(3000,.cells [pU b.Plus,pU b.Minus])]⟩) (ids:=[(3000,3000),(4000,4000)]) (fun _ _ _ _ _ f x3 g h=>?_);apply kI Z h<;>intro h
 .refine kC Z h (Di Z Y) (fun i h=>?_);refine EC Z Pq (A5 Z) h 0 (fun z4=>⟨[(30,pB z4),(5,pN x3),(3,.reg 4000 0),(2,.reg 3000 0)],[(4000,.cells [pU a.Plus,pU a.Minus]),(3000,.cells [pU b.Plus,pU b.Minus])]⟩) (fun M4 k4 d h=>?_) (fun z4 h=>?_)
  .refine kG Z h (fun h=>?_) (fun h=>?_)
   .refine kC Z h (Di Z Y) (fun j h=>?_);exact d _ [(3000,3000),(4000,4000)] _ (j != i) Pq h
   exact d _ [(3000,3000),(4000,4000)] _ false Pq h
  apply kI Z h<;>intro h
  .cases h;exact kR Z
  exact g _ [(3000,3000),(4000,4000)] _ (wrap .i64 (x3+1)) Pq h
 cases h;exact kR Z
theorem TA {f:Sm}{c:Int}{d:Sm}{y:Sm×Int}(h:R5 N f c d=some y) :FunO S Lf [.p (.agg (A0 f)),pU c,.p (.agg (A0 d))] [] (.tup [.p (.agg (A0 y.1)),pN y.2]) ([]) []:=by
 unfold R5 at h;refine A3 Z func183 ?_;refine G4 Z Pq 5 4000 [pI .u32 f.Plus,pI .u32 f.Minus] ?_;refine G4 Z Pq 6 6000 [pI .u32 d.Plus,pI .u32 d.Minus] ?_;obtain⟨y1,e1,h⟩:=B9 h;refine C6 Z [] Q6 (U7 Z Y e1) ?_;refine EC Z Pq (A5 Z) h 0 (fun z1=>⟨[(17,pB z1),(6,.reg 7000 0),(5,.p (.ptr [pI .u32 d.Plus,pI .u32 d.Minus])),(3,.p (.ptr [pI .u32 f.Plus,pI .u32 f.Minus])),(1,pU c)],[(7000,.cells [pU 0,pU 0])]⟩) (fun M1 k1 i h=>?_) (fun z1 h=>?_)
 .refine kG Z h (fun h=>?_) (fun h=>?_)
  .exact i _ [(7000,7000)] _ true Pq h
  obtain⟨y3,e3,h⟩:=B9 h;refine C6 Z [] Q6 (U7 Z Y e3) ?_;exact i _ [(7000,7000)] _ (!y3) Pq h
 apply kI Z h<;>intro h
 .cases h;exact kR Z
 refine kB Z (A5 Z) Pq Pq 9 (.o (.a (decide (16777215<c))) (.a ((F4 .and .u32 c (F4 .or .u32 d.Plus d.Minus)) != 0))) ?_;apply kI Z h<;>intro h
 .cases h;exact kR Z
 refine IU Z Q6 h (fun x2 x3 x4=>⟨[(9,pN x4),(8,.reg 9000 0),(6,.reg 7000 0),(5,.p (.ptr [pI .u32 d.Plus,pI .u32 d.Minus])),(1,pU c)],[(9000,.cells [pU x2,pU x3]),(7000,.cells [pU 0,pU 0])]⟩) (ids:=[(7000,7000),(9000,9000)]) (fun _ _ _ _ _ n x2 x3 x4 g h=>?_);apply kI Z h<;>intro h
 .obtain⟨c16,h⟩:=D6 h;refine D4 Z c16 (b:=(F4 .and .u32 (shI .shr .u32 c x4) 1)==1) (fun c17=>?_) (fun c17=>?_)
  .replace h:=itT c17 h;refine kC Z h (IT Z Y) (fun j h=>?_);obtain⟨q,e19,h⟩:=B9 h;refine C6 Z [] Q6 (Di Z Y e19) ?_;apply kI Z h<;>intro h
   .refine E3 Z Pq [2,4,5] ?_;obtain⟨r,e20,h⟩:=B9 h;refine K7 Q6 (Di Z Y e20) ?_;obtain⟨l,e21,h⟩:=B9 h;refine K7 Pq (IT Z Y e21) ?_;refine H3 Pq ?_;exact g _ [(7000,7000),(9000,9000)] _ l.Plus l.Minus (wrap .i64 (x4+1)) Pq h
   exact g _ [(7000,7000),(9000,9000)] _ j.Plus j.Minus (wrap .i64 (x4+1)) Pq h
  replace h:=itF c17 h;obtain⟨s,e22,h⟩:=B9 h;refine C6 Z [] Q6 (Di Z Y e22) ?_;apply kI Z h<;>intro h
  .refine E3 Z Pq [2,4,5] ?_;obtain⟨t,e23,h⟩:=B9 h;refine K7 Q6 (Di Z Y e23) ?_;obtain⟨m,e24,h⟩:=B9 h;refine K7 Pq (IT Z Y e24) ?_;refine H3 Pq ?_;exact g _ [(7000,7000),(9000,9000)] _ m.Plus m.Minus (wrap .i64 (x4+1)) Pq h
  exact g _ [(7000,7000),(9000,9000)] _ x2 x3 (wrap .i64 (x4+1)) Pq h
 cases h;exact kR Z
theorem Ac7 {d:Sm}{a:Sm}{c:Int}{y:Sm×Int}(h:Ad N d a c=some y) :FunO S PQ [.p (.agg (A0 d)),.p (.agg (A0 a)),pU c] [] (.tup [.p (.agg (A0 y.1)),pN y.2]) ([]) []:=by
 unfold Ad at h;refine A3 Z func184 ?_;refine G4 Z Pq 4 4000 [pI .u32 d.Plus,pI .u32 d.Minus] ?_;refine G4 Z Pq 6 5000 [pI .u32 a.Plus,pI .u32 a.Minus] ?_;obtain⟨y1,e1,h⟩:=B9 h;refine C6 Z [] Q6 (U7 Z Y e1) ?_;refine EC Z Pq (A5 Z) h 0 (fun z1=>⟨[(17,pB z1),(6,.reg 7000 0),(4,.p (.ptr [pI .u32 a.Plus,pI .u32 a.Minus])),(3,.p (.ptr [pI .u32 d.Plus,pI .u32 d.Minus])),(2,pU c)],[(7000,.cells [pU 0,pU 0])]⟩) (fun M1 k1 f h=>?_) (fun z1 h=>?_)
 .refine kG Z h (fun h=>?_) (fun h=>?_)
  .exact f _ [(7000,7000)] _ true Pq h
  obtain⟨y3,e3,h⟩:=B9 h;refine C6 Z [] Q6 (U7 Z Y e3) ?_;exact f _ [(7000,7000)] _ (!y3) Pq h
 apply kI Z h<;>intro h
 .cases h;exact kR Z
 apply kI Z h<;>intro h
 .cases h;exact kR Z
 refine IU Z Q6 h (fun x2 x3 x4=>⟨[(9,pN x4),(8,.reg 9000 0),(6,.reg 7000 0),(4,.p (.ptr [pI .u32 a.Plus,pI .u32 a.Minus])),(2,pU c)],[(9000,.cells [pU x2,pU x3]),(7000,.cells [pU 0,pU 0])]⟩) (ids:=[(7000,7000),(9000,9000)]) (fun _ _ _ _ _ i x2 x3 x4 g h=>?_);apply kI Z h<;>intro h
 .obtain⟨c12,h⟩:=D6 h;refine D4 Z c12 (b:=(F4 .and .u32 (shI .shr .u32 c x4) 1)==1) (fun c13=>?_) (fun c13=>?_)
  .replace h:=itT c13 h;refine E3 Z Pq [2,4,5] ?_;obtain⟨y8,e8,h⟩:=B9 h;refine K7 Q6 (Di Z Y e8) ?_;obtain⟨y9,e9,h⟩:=B9 h;refine K7 Pq (IT Z Y e9) ?_;refine H3 Pq ?_;exact g _ [(7000,7000),(9000,9000)] _ y9.Plus y9.Minus (wrap .i64 (x4+1)) Pq h
  replace h:=itF c13 h;exact g _ [(7000,7000),(9000,9000)] _ x2 x3 (wrap .i64 (x4+1)) Pq h
 cases h;exact kR Z
theorem MN {b:Sm}{y:Bool}(h:S7 N b=some y) :FunO S MA [.p (.agg (A0 b))] [] (pB y) ([]) []:=by unfold S7 at h;refine A3 Z func94 ?_;refine kB Z (A5 Z) Pq Pq 9 (.n (.n (.a ((F4 .and .u32 b.Plus b.Minus)==0)) (.a (decide (b.Plus<16777216)))) (.a (decide (b.Minus<16777216)))) ?_;cases h;exact kR Z
theorem Fk {a:Sl Sm}{y:Int}(h:Y1 N a=some y) :FunO S Mx [.p (vSl 2 A0 a)] [] (pN y) ([]) []:=by
 unfold Y1 at h;refine A3 Z func62 ?_;apply kI Z h<;>intro h
 .cases h;exact kR Z
 refine H0 Z Pq h (fun x1=>⟨[(3,pN x1),(0,.p (vSl 2 A0 a))],[]⟩) (ids:=[]) (fun _ _ _ _ _ b x1 c h=>?_);apply kI Z h<;>intro h
 .obtain⟨c9,h⟩:=D6 h;obtain⟨y3,e3,h⟩:=B9 h;refine C6 Z [] (And.intro c9 Q6) (MN Z Y e3) ?_;apply kI Z h<;>intro h
  .cases h;exact kR Z
  exact c _ [] _ (wrap .i64 (x1+1)) Pq h
 cases h;exact kR Z
theorem Ac8 {a:Sl Sm}{y:Sl Sm}(h:CY N a=some y) :FunO S PL [.p (vSl 2 A0 a)] [] (.vec 0) ([.vec B8 2 y.n (fun i=>A0 (y.g i)) true]) []:=by
 unfold CY at h;refine A3 Z func137 ?_;refine G9 Z Pq h (fun x1 x2=>⟨[(4,pN x2),(3,.vec 4500),(0,.p (vSl 2 A0 a))],[(4500,.vec B8 2 x1.n (fun i=>A0 (x1.g i)) false)]⟩) (ids:=[]) (fun _ _ _ _ _ b x1 x2 d h=>?_);apply kI Z h<;>intro h
 .obtain⟨c4,h⟩:=D6 h;exact d _ [(4500,18000)] _ (x1.push (a.g x2.toNat)) (wrap .i64 (x2+1)) (And.intro (And.intro (And.intro c4.1 Q6) Rp) c4.2) h (hle:=klR [(2,.fn (x1.n+1) (x1.push (a.g x2.toNat)).n (T2 x1.n (fun i=>A0 (x1.g i)) (D3 [pI .u32 0,pI .u32 0] [(0,A0 (a.g x2.toNat))])) (fun i=>A0 ((x1.push (a.g x2.toNat)).g i)))] (al1 ⟨rfl,EA (c:=A0) (v:=x1) (x:=a.g x2.toNat) (z:=[(pI .u32 0),pI .u32 0]) same rfl rfl⟩ al0))
 obtain rfl:=C4 h;exact A9 Z Pq ⟨[(2,.vec 4500)],[(4500,.vec B8 2 x1.n (fun i=>A0 (x1.g i)) true)]⟩ [4500] (ids:=[(4500,4500)]) ⟨rfl,rfl,rfl⟩
theorem Ac9 {c:Pat}{y:Int}(h:ED N c=some y) :FunO S PN [.p (.agg (D2 c))] [] (pN y) ([]) []:=by
 unfold ED at h;refine A3 Z func155 ?_;refine kB Z (A5 Z) Pq Pq 4 (.o (.a (decide (c.Kind<0))) (.a (decide (6<c.Kind)))) ?_;apply kI Z h<;>intro h
 .cases h;exact kR Z
 obtain⟨t1,f⟩:∃x:Bool,x=((c.Kind != 1)&&((((c.Is.Plus==0)&&(c.Is.Minus==0)) != true)||c.Not)):=⟨_,rfl⟩;refine Wx Z Pq (A5 Z) 0 ⟨[(23,pB t1),(1,.reg 2000 0)],[(2000,.cells ((D2 c).map .p))]⟩ (fun M1 l=>?_) ?_
 .refine Ek Z Pq (b:=c.Kind != 1) (fun c4=>?_) (fun c4=>?_)
  .refine Ek Z (by decide +kernel:Ad0 Tryz.prog B8=true) (b:=((c.Is.Plus==0)&&(c.Is.Minus==0)) != true) (fun c5=>?_) (fun c5=>?_)
   .exact l _ [(2000,2000)] _ Pq (hle:=klR [(0,.eq (.bb true) (.bb t1))] (al1 (by simp only[f,c4,c5,Leaf.ok,pm,Pn,Po]) al0))
   exact l _ [(2000,2000)] _ Pq (hle:=klR [(0,.eq (.bb c.Not) (.bb t1))] (al1 (by simp only[f,c4,c5,Leaf.ok,pm,Pn,Po]) al0))
  exact l _ [(2000,2000)] _ Pq (hle:=klR [(0,.eq (.bb false) (.bb t1))] (al1 (by simp only[f,c4,Leaf.ok,pm,Pn,Po]) al0))
 subst f;apply kI Z h<;>intro h
 .cases h;exact kR Z
 refine EC Z Pq (A5 Z) h 0 (fun z1=>⟨[(42,pB z1),(1,.reg 2000 0)],[(2000,.cells ((D2 c).map .p))]⟩) (fun M2 k1 j h=>?_) (fun z1 h=>?_)
 .refine kG Z h (fun h=>?_) (fun h=>?_)
  .refine kG Z h (fun h=>?_) (fun h=>?_)
   .refine kG Z h (fun h=>?_) (fun h=>?_)
    .refine P0 Z Pq 40 ⟨[(39,.p (vSl 7 D2 c.L)),(37,.p (.v (.bool true))),(1,.reg 2000 0)],[(2000,.cells ((D2 c).map .p))]⟩ (ids:=[(2000,2000)]) ?_ (hle:=klR [(0,.fn c.L.n c.L.n (Bt c) (fun i=>D2 (c.L.g i)))] (al1 ⟨rfl,R6 c⟩ al0));exact j _ [(2000,2000)] _ (decide (0<(c.L.n:Int))) Pq h
    exact j _ [(2000,2000)] _ false Pq h
   exact j _ [(2000,2000)] _ false Pq h
  exact j _ [(2000,2000)] _ false Pq h
 apply kI Z h<;>intro h
 .cases h;exact kR Z
 refine kB Z (A5 Z) Pq Pq 9 (.n (.a (c.Kind != 5)) (.o (.a (c.Min != 0)) (.a (c.Max != 0)))) ?_;apply kI Z h<;>intro h
 .cases h;exact kR Z
 refine EC Z Pq (A5 Z) h 0 (fun z2=>⟨[(91,pB z2),(1,.reg 2000 0)],[(2000,.cells ((D2 c).map .p))]⟩) (fun M3 k2 d h=>?_) (fun z2 h=>?_)
 .refine kG Z h (fun h=>?_) (fun h=>?_)
  .refine P0 Z Pq 62 ⟨[(61,.p (vSl 7 D2 c.L)),(59,.p (.v (.bool true))),(1,.reg 2000 0)],[(2000,.cells ((D2 c).map .p))]⟩ (ids:=[(2000,2000)]) ?_ (hle:=klR [(0,.fn c.L.n c.L.n (Bt c) (fun i=>D2 (c.L.g i)))] (al1 ⟨rfl,R6 c⟩ al0));refine kG Z h (fun h=>?_) (fun h=>?_)
   .exact d _ [(2000,2000)] _ true Pq h
   refine kG Z h (fun h=>?_) (fun h=>?_)
   .exact d _ [(2000,2000)] _ true Pq h
   refine kG Z h (fun h=>?_) (fun h=>?_)
   .exact d _ [(2000,2000)] _ true Pq h
   refine kG Z h (fun h=>?_) (fun h=>?_)
   .refine kG Z h (fun h=>?_) (fun h=>?_)
    .exact d _ [(2000,2000)] _ true Pq h
    exact d _ [(2000,2000)] _ (decide (32<c.Max)) Pq h
   exact d _ [(2000,2000)] _ false Pq h
  exact d _ [(2000,2000)] _ false Pq h
 apply kI Z h<;>intro h
 .cases h;exact kR Z
 refine kC Z h (MN Z Y) (fun y1 h=>?_);apply kI Z h<;>intro h
 .cases h;exact kR Z
 cases h;exact kR Z
theorem MO {c:Sm}{b:Sm}{y:Bool}(h:Dj N c b=some y) :FunO S Gn [.p (.agg (A0 c)),.p (.agg (A0 b))] [] (pB y) ([]) []:=by unfold Dj at h;refine A3 Z func204 ?_;refine kB Z (A5 Z) Pq Pq 9 (.n (.a ((F4 .and .u32 c.Plus b.Plus)==b.Plus)) (.a ((F4 .and .u32 c.Minus b.Minus)==b.Minus))) ?_;cases h;exact kR Z
theorem PW {a:Int}{y:Sl Int}(h:CZ N a=some y) :FunO S PT [pN a] [] (.vec 0) ([.vec F5 1 y.n (fun i=>cI .u64 (y.g i)) true]) []:=by
 unfold CZ at h;refine A3 Z func205 ?_;obtain⟨c1,h⟩:=D6 h;refine G9 Z c1 h (fun x1 x2=>⟨[(4,pN x2),(3,.vec 8000),(0,pN a)],[(8000,.vec F5 1 x1.n (fun i=>cI .u64 (x1.g i)) false)]⟩) (ids:=[(8000,8000)]) (fun _ _ _ _ _ b x1 x2 d h=>?_);apply kI Z h<;>intro h
 .obtain⟨c5,h⟩:=D6 h;exact d _ [(8000,8000)] _ (x1.upd x2.toNat (shI .shl .u64 1 x2)) (wrap .i64 (x2+1)) (And.intro (And.intro c5.1.1 c5.1.2) (And.intro (rfl:(1:Nat)=1) (And.intro c5.2 Ps))) h (hle:=klR [(2,.fn x1.n (x1.upd x2.toNat (shI .shl .u64 1 x2)).n (fun l=>if l=x2.toNat then splice ((fun i=>cI .u64 (x1.g i)) l) 0 [pI .u64 (shI .shl .u64 1 x2)]else (fun i=>cI .u64 (x1.g i)) l) (fun i=>cI .u64 ((x1.upd x2.toNat (shI .shl .u64 1 x2)).g i)))] (al1 ⟨rfl,Ak9 (c:=cI .u64) (v:=x1) (x:=shI .shl .u64 1 x2) same (fun _=>by first|rfl|(dsimp only;split<;>rfl))⟩ al0))
 obtain rfl:=C4 h;exact A9 Z Pq ⟨[(2,.vec 8000)],[(8000,.vec F5 1 x1.n (fun i=>cI .u64 (x1.g i)) true)]⟩ [8000] (ids:=[(8000,8000)]) ⟨rfl,rfl,rfl⟩
theorem Gp {p_x:Sl Int}{a:Sl Int}{y:Sl Int}(h:Y2 N p_x a=some y) :FunO S Lg [.p (vSl 1 (cI .u64) p_x),.p (vSl 1 (cI .u64) a)] [] (.vec 0) ([.vec F5 1 y.n (fun i=>cI .u64 (y.g i)) true]) []:=by
 unfold Y2 at h;refine A3 Z func206 ?_;obtain⟨c1,h⟩:=D6 h;refine G9 Z c1 h (fun x3 x4=>⟨[(6,pN x4),(5,.vec 11000),(1,.p (vSl 1 (cI .u64) a)),(0,.p (vSl 1 (cI .u64) p_x))],[(11000,.vec F5 1 x3.n (fun i=>cI .u64 (x3.g i)) false)]⟩) (ids:=[(11000,11000)]) (fun _ _ _ _ _ f x3 x4 j h=>?_);apply kI Z h<;>intro h
 .refine G9 Z Pq h (fun x7 x8=>⟨[(7,pN x8),(6,pN x4),(5,.vec 11000),(1,.p (vSl 1 (cI .u64) a)),(0,.p (vSl 1 (cI .u64) p_x))],[(11000,.vec F5 1 x7.n (fun i=>cI .u64 (x7.g i)) false)]⟩) (ids:=[(11000,11000)]) (fun _ _ _ _ _ m x7 x8 d h=>?_);apply kI Z h<;>intro h
  .obtain⟨c38,h⟩:=D6 h;refine D4 Z c38 (b:=(F4 .and .u64 (shI .shr .u64 (p_x.g x4.toNat) x8) 1)==1) (fun c39=>?_) (fun c39=>?_)
   .replace h:=itT c39 h;refine E3 Z Pq [8,9] ?_;obtain⟨c40,h⟩:=D6 h;refine H3 (And.intro (And.intro (And.intro (And.intro c40.1.1.1.1 c40.1.1.1.2) c40.1.1.2) c40.1.2) (And.intro (rfl:(1:Nat)=1) (And.intro c40.2 Ps))) ?_;exact d _ [(11000,11000)] _ (x7.upd x4.toNat (F4 .or .u64 (x7.g x4.toNat) (a.g x8.toNat))) (wrap .i64 (x8+1)) Pq h (hle:=klR [(4,.fn x7.n (x7.upd x4.toNat (F4 .or .u64 (x7.g x4.toNat) (a.g x8.toNat))).n (fun l=>if l=x4.toNat then splice ((fun i=>cI .u64 (x7.g i)) l) 0 [pI .u64 (F4 .or .u64 (x7.g x4.toNat) (a.g x8.toNat))]else (fun i=>cI .u64 (x7.g i)) l) (fun i=>cI .u64 ((x7.upd x4.toNat (F4 .or .u64 (x7.g x4.toNat) (a.g x8.toNat))).g i)))] (al1 ⟨rfl,Ak9 (c:=cI .u64) (v:=x7) (x:=F4 .or .u64 (x7.g x4.toNat) (a.g x8.toNat)) same (fun _=>by first|rfl|(dsimp only;split<;>rfl))⟩ al0))
   replace h:=itF c39 h;exact d _ [(11000,11000)] _ x7 (wrap .i64 (x8+1)) Pq h
  exact j _ [(11000,11000)] _ x7 (wrap .i64 (x4+1)) Pq h
 obtain rfl:=C4 h;exact A9 Z Pq ⟨[(4,.vec 11000)],[(11000,.vec F5 1 x3.n (fun i=>cI .u64 (x3.g i)) true)]⟩ [11000] (ids:=[(11000,11000)]) ⟨rfl,rfl,rfl⟩
theorem PX {p_x:Sl Int}{a:Sl Int}{y:Sl Int}(h:Da N p_x a=some y) :FunO S PU [.p (vSl 1 (cI .u64) p_x),.p (vSl 1 (cI .u64) a)] [] (.vec 0) ([.vec F5 1 y.n (fun i=>cI .u64 (y.g i)) true]) []:=by
 unfold Da at h;refine A3 Z func207 ?_;obtain⟨c1,h⟩:=D6 h;refine G9 Z c1 h (fun x1 x2=>⟨[(6,pN x2),(5,.vec 10000),(1,.p (vSl 1 (cI .u64) a)),(0,.p (vSl 1 (cI .u64) p_x))],[(10000,.vec F5 1 x1.n (fun i=>cI .u64 (x1.g i)) false)]⟩) (ids:=[(10000,10000)]) (fun _ _ _ _ _ b x1 x2 d h=>?_);apply kI Z h<;>intro h
 .refine E3 Z Pq [4,5,8,9] ?_;obtain⟨c7,h⟩:=D6 h;refine H3 (And.intro (And.intro (And.intro c7.1.1.1 c7.1.1.2) c7.1.2) (And.intro (rfl:(1:Nat)=1) (And.intro c7.2 Ps))) ?_;exact d _ [(10000,10000)] _ (x1.upd x2.toNat (F4 .or .u64 (p_x.g x2.toNat) (a.g x2.toNat))) (wrap .i64 (x2+1)) Pq h (hle:=klR [(3,.fn x1.n (x1.upd x2.toNat (F4 .or .u64 (p_x.g x2.toNat) (a.g x2.toNat))).n (fun l=>if l=x2.toNat then splice ((fun i=>cI .u64 (x1.g i)) l) 0 [pI .u64 (F4 .or .u64 (p_x.g x2.toNat) (a.g x2.toNat))]else (fun i=>cI .u64 (x1.g i)) l) (fun i=>cI .u64 ((x1.upd x2.toNat (F4 .or .u64 (p_x.g x2.toNat) (a.g x2.toNat))).g i)))] (al1 ⟨rfl,Ak9 (c:=cI .u64) (v:=x1) (x:=F4 .or .u64 (p_x.g x2.toNat) (a.g x2.toNat)) same (fun _=>by first|rfl|(dsimp only;split<;>rfl))⟩ al0))
 obtain rfl:=C4 h;exact A9 Z Pq ⟨[(4,.vec 10000)],[(10000,.vec F5 1 x1.n (fun i=>cI .u64 (x1.g i)) true)]⟩ [10000] (ids:=[(10000,10000)]) ⟨rfl,rfl,rfl⟩
theorem Wy {p_x:Sl Int}{a:Sl Int}{y:Bool}(h:Dk N p_x a=some y) :FunO S ML [.p (vSl 1 (cI .u64) p_x),.p (vSl 1 (cI .u64) a)] [] (pB y) ([]) []:=by
 unfold Dk at h;refine A3 Z func208 ?_;refine H0 Z Pq h (fun x1=>⟨[(5,pN x1),(1,.p (vSl 1 (cI .u64) a)),(0,.p (vSl 1 (cI .u64) p_x))],[]⟩) (ids:=[]) (fun _ _ _ _ _ b x1 c h=>?_);apply kI Z h<;>intro h
 .refine E3 Z Pq [2,3,6,7] ?_;obtain⟨c8,h⟩:=D6 h;refine H3 c8 ?_;apply kI Z h<;>intro h
  .cases h;exact kR Z
  exact c _ [] _ (wrap .i64 (x1+1)) Pq h
 cases h;exact kR Z
end Go.AM
namespace Go.AM
open Go.Proofs.Tryz
variable {N:Nat}
open IntKind (wrap)
open Go.Proofs
set_option maxRecDepth 10000
set_option maxHeartbeats 2000000
variable {S:U3}(Z:H2 S Tryz.prog) (Y:Ij S)
include Z Y
theorem Wz {rec:Pat->Int->Option (Int×Int)}(c:∀{a:Pat}{b:Int}{y:Int×Int},rec a b=some y->FunO S Hg [.p (.agg (D2 a)),pN b] [] (.tup [pN y.1,pN y.2]) ([]) []){a:Pat}{b:Int}{y:Int×Int}(h:Y3 rec N a b=some y) :FunO S Hg [.p (.agg (D2 a)),pN b] [] (.tup [pN y.1,pN y.2]) ([]) []:=by
 unfold Y3 at h;refine A3 Z func141 ?_;apply kI Z h<;>intro h
 .cases h;exact kR Z
 refine kC Z h (Ac9 Z Y) (fun y1 h=>?_);apply kI Z h<;>intro h
 .cases h;exact kR Z
 refine G9 Z Pq h (fun x1 x2=>⟨[(8,pN x2),(7,pN x1),(2,.reg 3000 0)],[(3000,.cells ((D2 a).map .p))]⟩) (ids:=[(3000,3000)]) (fun _ _ _ _ _ d x1 x2 f h=>?_);refine P0 Z Pq 23 ⟨[(22,.p (vSl 7 D2 a.L)),(20,pN x2),(8,pN x2),(7,pN x1),(2,.reg 3000 0)],[(3000,.cells ((D2 a).map .p))]⟩ (ids:=[(3000,3000)]) ?_ (hle:=klR [(0,.fn a.L.n a.L.n (Bt a) (fun i=>D2 (a.L.g i)))] (al1 ⟨rfl,R6 a⟩ al0));apply kI Z h<;>intro h
 .refine P0 Z Pq 31 ⟨[(30,pN x2),(29,.p (vSl 7 D2 a.L)),(8,pN x2),(7,pN x1),(2,.reg 3000 0)],[(3000,.cells ((D2 a).map .p))]⟩ (ids:=[(3000,3000)]) ?_ (hle:=klR [(1,.fn a.L.n a.L.n (Bt a) (fun i=>D2 (a.L.g i)))] (al1 ⟨rfl,R6 a⟩ al0));obtain⟨c10,h⟩:=D6 h;obtain⟨y4,e4,h⟩:=B9 h;refine C6 Z [] (And.intro c10 Ri) (c e4) ?_;apply kI Z h<;>intro h
  .cases h;exact kR Z
  exact f _ [(3000,3000)] _ y4.1 (wrap .i64 (x2+1)) Pq h
 cases h;exact kR Z
theorem Ad1 {b:Pat}{a:Int}{y:Int×Int}(h:Db N b a=some y) :FunO S Hg [.p (.agg (D2 b)),pN a] [] (.tup [pN y.1,pN y.2]) ([]) []:=by
 induction N generalizing b a y with
 |zero=>cases (show (none:Option (Int×Int))=some y from h)
 |succ N ih=>exact Wz Z Y (fun e=>ih e) h
theorem Ik {a:Pat}{y:Int}(h:Bh N a=some y) :FunO S MC [.p (.agg (D2 a))] [] (pN y) ([]) []:=by unfold Bh at h;refine A3 Z func118 ?_;refine kC Z h (Ad1 Z Y) (fun y1 h=>?_);cases h;exact kR Z
theorem Ad2 {b:Str}{y:Bool}(h:BW N b=some y) :FunO S PJ [.p (.str b)] [] (pB y) ([]) []:=by
 unfold BW at h;refine A3 Z func117 ?_;refine H0 Z Pq h (fun x1=>⟨[(3,pN x1),(0,.p (.str b))],[]⟩) (ids:=[]) (fun _ _ _ _ _ c x1 d h=>?_);apply kI Z h<;>intro h
 .obtain⟨c8,h⟩:=D6 h;refine kB Z (A5 Z) c8 Pq 23 (.o (.o (.o (.n (.a (decide (97<=(Aw b x1)))) (.a (decide ((Aw b x1)<=122)))) (.n (.a (decide (65<=(Aw b x1)))) (.a (decide ((Aw b x1)<=90))))) (.n (.a (decide (48<=(Aw b x1)))) (.a (decide ((Aw b x1)<=57))))) (.a ((Aw b x1)==45))) ?_;apply kI Z h<;>intro h
  .cases h;exact kR Z
  exact d _ [] _ (wrap .i64 (x1+1)) Pq h
 refine kB Z (A5 Z) Pq Pq 4 (.n (.a (decide (1<=(b.length:Int)))) (.a (decide ((b.length:Int)<=24)))) ?_;cases h;exact kR Z
theorem Ad3 {p_x:FS}{c:Int}{y:Bool}(h:EE N p_x c=some y) :FunO S PK [.p (.agg (Ax p_x)),pN c] [] (pB y) ([]) []:=by
 unfold EE at h;refine A3 Z func120 ?_;refine EC Z Pq (A5 Z) h 0 (fun z1=>⟨[(32,pB z1),(2,.reg 3000 0),(1,pN c)],[(3000,.cells ((Ax p_x).map .p))]⟩) (fun M1 k1 b h=>?_) (fun z1 h=>?_)
 .refine kG Z h (fun h=>?_) (fun h=>?_)
  .exact b _ [(3000,3000)] _ true Pq h
  refine kG Z h (fun h=>?_) (fun h=>?_)
  .exact b _ [(3000,3000)] _ true Pq h
  refine kC Z h (U7 Z Y) (fun y2 h=>?_);refine kG Z h (fun h=>?_) (fun h=>?_)
  .exact b _ [(3000,3000)] _ true Pq h
  refine kG Z h (fun h=>?_) (fun h=>?_)
  .exact b _ [(3000,3000)] _ true Pq h
  exact b _ [(3000,3000)] _ ((F4 .andNot .u32 p_x.Take 16777215) != 0) Pq h
 apply kI Z h<;>intro h
 .cases h;exact kR Z
 refine kB Z (A5 Z) Pq Pq 14 (.o (.o (.a ((F4 .and .u32 p_x.Clear (F4 .or .u32 p_x.Set.Plus p_x.Set.Minus)) != 0)) (.a ((F4 .and .u32 p_x.Take (F4 .or .u32 p_x.Set.Plus p_x.Set.Minus)) != 0))) (.a ((F4 .and .u32 p_x.Take p_x.Clear) != 0))) ?_;apply kI Z h<;>intro h
 .cases h;exact kR Z
 apply kI Z h<;>intro h
 .cases h;exact kR Z
 refine kB Z (A5 Z) Pq Pq 5 (.n (.a (decide (0<=p_x.Of))) (.a (decide (p_x.Of<c)))) ?_;cases h;exact kR Z
theorem Il {b:Law}{y:Int}(h:Y4 N b=some y) :FunO S Mz [.p (.agg (B5 b))] [] (pN y) ([]) []:=by
 unfold Y4 at h;refine A3 Z func90 ?_;refine G4 Z Pq 2 2000 (B5 b) ?_;refine kC Z h (Ad2 Z Y) (fun y1 h=>?_);refine EC Z Pq (A5 Z) h 0 (fun z1=>⟨[(20,pB z1),(1,.p (.ptr (B5 b)))],[]⟩) (fun M1 k1 c h=>?_) (fun z1 h=>?_)
 .refine kG Z h (fun h=>?_) (fun h=>?_)
  .exact c _ [] _ true Pq h
  obtain⟨y4,e4,h⟩:=B9 h;refine C6 Z [] (by decide:(7:Nat)<=17) (Ik Z Y e4) ?_;refine kG Z h (fun h=>?_) (fun h=>?_)
  .exact c _ [] _ true Pq h
  obtain⟨y5,e5,h⟩:=B9 h;refine C6 Z [] (by decide:(7:Nat)<=10) (Ik Z Y e5) ?_;exact c _ [] _ (y5 != 0) Pq h
 apply kI Z h<;>intro h
 .cases h;exact kR Z
 refine kB Z (A5 Z) Pq Pq 25 (.o (.o (.o (.o (.a (decide (4<(b.If.n:Int)))) (.a (decide (6<(b.Out.n:Int))))) (.a ((wrap .i64 ((b.If.n:Int)+(b.Out.n:Int)))==0))) (.a (decide (b.Mode<1)))) (.a (decide (3<b.Mode)))) ?_;apply kI Z h<;>intro h
 .cases h;exact kR Z
 refine H0 Z Pq h (fun x2=>⟨[(3,pN x2),(1,.p (.ptr (B5 b)))],[]⟩) (ids:=[]) (fun _ _ _ _ _ d x2 f h=>?_);apply kI Z h<;>intro h
 .obtain⟨c15,h⟩:=D6 h;obtain⟨y8,e8,h⟩:=B9 h;refine C6 Z [] (And.intro c15 Q6) (U7 Z Y e8) ?_;apply kI Z h<;>intro h
  .cases h;exact kR Z
  exact f _ [] _ (wrap .i64 (x2+1)) Pq h
 refine H0 Z Pq h (fun x3=>⟨[(4,pN x3),(1,.p (.ptr (B5 b)))],[]⟩) (ids:=[]) (fun _ _ _ _ _ g x3 i h=>?_);apply kI Z h<;>intro h
 .refine E3 Z Pq [1,3,4,6,8] ?_;obtain⟨c24,h⟩:=D6 h;obtain⟨j,e11,h⟩:=B9 h;refine K7 (And.intro c24 (by decide:(6:Nat)<=6)) (Ad3 Z Y e11) ?_;refine H3 Pq ?_;apply kI Z h<;>intro h
  .cases h;exact kR Z
  exact i _ [] _ (wrap .i64 (x3+1)) Pq h
 cases h;exact kR Z
theorem WA {a:Sl Law}{y:Int}(h:BX N a=some y) :FunO S ME [.p (vSl 18 B5 a)] [] (pN y) ([]) []:=by
 unfold BX at h;refine A3 Z func136 ?_;apply kI Z h<;>intro h
 .cases h;exact kR Z
 refine H0 Z Pq h (fun x1=>⟨[(3,pN x1),(0,.p (vSl 18 B5 a))],[]⟩) (ids:=[]) (fun _ _ _ _ _ b x1 c h=>?_);apply kI Z h<;>intro h
 .obtain⟨c9,h⟩:=D6 h;obtain⟨y3,e3,h⟩:=B9 h;refine C6 Z [] (And.intro c9 Rj) (Il Z Y e3) ?_;apply kI Z h<;>intro h
  .cases h;exact kR Z
  exact c _ [] _ (wrap .i64 (x1+1)) Pq h
 cases h;exact kR Z
theorem WB {a:Law}{b:Sl Sm}{y:Int}(h:Fl N a b=some y) :FunO S MH [.p (.agg (B5 a)),.p (vSl 2 A0 b)] [] (pN y) ([]) []:=by
 unfold Fl at h;refine A3 Z func163 ?_;refine kC Z h (Il Z Y) (fun y1 h=>?_);apply kI Z h<;>intro h
 .cases h;exact kR Z
 refine kC Z h (Fk Z Y) (fun y2 h=>?_);cases h;exact kR Z
theorem PY {a:Pat}{b:Sl Sm}{y:Int}(h:Dc N a b=some y) :FunO S PS [.p (.agg (D2 a)),.p (vSl 2 A0 b)] [] (pN y) ([]) []:=by
 unfold Dc at h;refine A3 Z func193 ?_;refine kC Z h (Ik Z Y) (fun y1 h=>?_);apply kI Z h<;>intro h
 .refine kC Z h (Fk Z Y) (fun y2 h=>?_);cases h;exact kR Z
 cases h;exact kR Z
theorem TB {rec:Pat->(Sl Sm)->Option (Sl Int)}(j:∀{a:Pat}{d:Sl Sm}{y:Sl Int},rec a d=some y->FunO S Fj [.p (.agg (D2 a)),.p (vSl 2 A0 d)] [] (.vec 0) ([.vec F5 1 y.n (fun i=>cI .u64 (y.g i)) true]) []){a:Pat}{d:Sl Sm}{y:Sl Int}(h:Bu rec N a d=some y) :FunO S Fj [.p (.agg (D2 a)),.p (vSl 2 A0 d)] [] (.vec 0) ([.vec F5 1 y.n (fun i=>cI .u64 (y.g i)) true]) []:=by
 unfold Bu at h;refine A3 Z func194 ?_;refine G4 Z Pq 4 3000 (D2 a) ?_;obtain⟨c1,h⟩:=D6 h;refine G9 Z c1 h (fun x1 x2=>⟨[(7,pN x2),(6,.vec 19000),(5,pN (d.n:Int)),(2,.p (.ptr (D2 a))),(1,.p (vSl 2 A0 d))],[(19000,.vec F5 1 x1.n (fun i=>cI .u64 (x1.g i)) false)]⟩) (ids:=[(19000,19000)]) (fun _ _ _ _ _ t x1 x2 f h=>?_);apply kI Z h<;>intro h
 .apply kI Z h<;>intro h
  .obtain⟨c24,h⟩:=D6 h;exact f _ [(19000,19000)] _ (x1.upd x2.toNat (shI .shl .u64 1 x2)) (wrap .i64 (x2+1)) (And.intro (And.intro c24.1.1 c24.1.2) (And.intro (rfl:(1:Nat)=1) (And.intro c24.2 Ps))) h (hle:=klR [(4,.fn x1.n (x1.upd x2.toNat (shI .shl .u64 1 x2)).n (fun l=>if l=x2.toNat then splice ((fun i=>cI .u64 (x1.g i)) l) 0 [pI .u64 (shI .shl .u64 1 x2)]else (fun i=>cI .u64 (x1.g i)) l) (fun i=>cI .u64 ((x1.upd x2.toNat (shI .shl .u64 1 x2)).g i)))] (al1 ⟨rfl,Ak9 (c:=cI .u64) (v:=x1) (x:=shI .shl .u64 1 x2) same (fun _=>by first|rfl|(dsimp only;split<;>rfl))⟩ al0))
  apply kI Z h<;>intro h
  .refine E3 Z Pq [6,7,9,10,12] ?_;refine Ms Pq (b:=decide (x2<(d.n:Int))) (fun c26=>?_) (fun c26=>?_)
   .replace h:=itT c26 h;obtain⟨c27,h⟩:=D6 h;obtain⟨y3,e3,h⟩:=B9 h;refine K7 (And.intro (And.intro c27 Q6) (by decide:(2:Nat)<=6)) (MO Z Y e3) ?_;refine H3 Pq ?_;apply kI Z h<;>intro h
    .obtain⟨c29,h⟩:=D6 h;exact f _ [(19000,19000)] _ (x1.upd x2.toNat (shI .shl .u64 1 (wrap .i64 (x2+1)))) (wrap .i64 (x2+1)) (And.intro (And.intro c29.1.1 c29.1.2) (And.intro (rfl:(1:Nat)=1) (And.intro c29.2 Ps))) h (hle:=klR [(4,.fn x1.n (x1.upd x2.toNat (shI .shl .u64 1 (wrap .i64 (x2+1)))).n (fun l=>if l=x2.toNat then splice ((fun i=>cI .u64 (x1.g i)) l) 0 [pI .u64 (shI .shl .u64 1 (wrap .i64 (x2+1)))]else (fun i=>cI .u64 (x1.g i)) l) (fun i=>cI .u64 ((x1.upd x2.toNat (shI .shl .u64 1 (wrap .i64 (x2+1)))).g i)))] (al1 ⟨rfl,Ak9 (c:=cI .u64) (v:=x1) (x:=shI .shl .u64 1 (wrap .i64 (x2+1))) same (fun _=>by first|rfl|(dsimp only;split<;>rfl))⟩ al0))
    exact f _ [(19000,19000)] _ x1 (wrap .i64 (x2+1)) Pq h
   replace h:=itF c26 h;refine H3 Pq ?_;exact f _ [(19000,19000)] _ x1 (wrap .i64 (x2+1)) Pq h
  apply kI Z h<;>intro h
  .apply kI Z h<;>intro h
   .obtain⟨c32,h⟩:=D6 h;exact f _ [(19000,19000)] _ (x1.upd x2.toNat 1) (wrap .i64 (x2+1)) (And.intro c32.1 (And.intro (rfl:(1:Nat)=1) (And.intro c32.2 Ps))) h (hle:=klR [(4,.fn x1.n (x1.upd x2.toNat 1).n (fun l=>if l=x2.toNat then splice ((fun i=>cI .u64 (x1.g i)) l) 0 [pI .u64 1]else (fun i=>cI .u64 (x1.g i)) l) (fun i=>cI .u64 ((x1.upd x2.toNat 1).g i)))] (al1 ⟨rfl,Ak9 (c:=cI .u64) (v:=x1) (x:=1) same (fun _=>by first|rfl|(dsimp only;split<;>rfl))⟩ al0))
   exact f _ [(19000,19000)] _ x1 (wrap .i64 (x2+1)) Pq h
  apply kI Z h<;>intro h
  .apply kI Z h<;>intro h
   .obtain⟨c35,h⟩:=D6 h;exact f _ [(19000,19000)] _ (x1.upd x2.toNat (shI .shl .u64 1 x2)) (wrap .i64 (x2+1)) (And.intro (And.intro c35.1.1 c35.1.2) (And.intro (rfl:(1:Nat)=1) (And.intro c35.2 Ps))) h (hle:=klR [(4,.fn x1.n (x1.upd x2.toNat (shI .shl .u64 1 x2)).n (fun l=>if l=x2.toNat then splice ((fun i=>cI .u64 (x1.g i)) l) 0 [pI .u64 (shI .shl .u64 1 x2)]else (fun i=>cI .u64 (x1.g i)) l) (fun i=>cI .u64 ((x1.upd x2.toNat (shI .shl .u64 1 x2)).g i)))] (al1 ⟨rfl,Ak9 (c:=cI .u64) (v:=x1) (x:=shI .shl .u64 1 x2) same (fun _=>by first|rfl|(dsimp only;split<;>rfl))⟩ al0))
   exact f _ [(19000,19000)] _ x1 (wrap .i64 (x2+1)) Pq h
  exact f _ [(19000,19000)] _ x1 (wrap .i64 (x2+1)) Pq h
 apply kI Z h<;>intro h
 .refine kC Z h (PW Z Y) (fun y4 h=>?_);refine G9 Z Pq h (fun x3 x4=>⟨[(8,pN x4),(6,.vec 7500),(2,.p (.ptr (D2 a))),(1,.p (vSl 2 A0 d))],[(7500,.vec F5 1 x3.n (fun i=>cI .u64 (x3.g i)) true)]⟩) (ids:=[(7500,79000)]) (fun _ _ _ _ _ u x3 x4 w h=>?_);refine P0 Z Pq 82 ⟨[(81,.p (vSl 7 D2 a.L)),(79,pN x4),(8,pN x4),(6,.vec 7500),(2,.p (.ptr (D2 a))),(1,.p (vSl 2 A0 d))],[(7500,.vec F5 1 x3.n (fun i=>cI .u64 (x3.g i)) true)]⟩ (ids:=[(7500,7500)]) ?_ (hle:=klR [(0,.fn a.L.n a.L.n (Bt a) (fun i=>D2 (a.L.g i)))] (al1 ⟨rfl,R6 a⟩ al0));apply kI Z h<;>intro h
  .refine P0 Z Pq 90 ⟨[(89,pN x4),(88,.p (vSl 7 D2 a.L)),(86,.vec 7500),(8,pN x4),(2,.p (.ptr (D2 a))),(1,.p (vSl 2 A0 d))],[(7500,.vec F5 1 x3.n (fun i=>cI .u64 (x3.g i)) true)]⟩ (ids:=[(7500,7500)]) ?_ (hle:=klR [(1,.fn a.L.n a.L.n (Bt a) (fun i=>D2 (a.L.g i)))] (al1 ⟨rfl,R6 a⟩ al0));obtain⟨c42,h⟩:=D6 h;obtain⟨y9,e9,h⟩:=B9 h;refine C6 Z [] (And.intro c42 Ri) (j e9) ?_;refine kC Z h (Gp Z Y) (fun z h=>?_);exact w _ [(7500,95000)] _ z (wrap .i64 (x4+1)) Pq h
  obtain rfl:=C4 h;exact A9 Z Pq ⟨[(4,.vec 7500)],[(7500,.vec F5 1 x3.n (fun i=>cI .u64 (x3.g i)) true)]⟩ [7500] (ids:=[(7500,7500)]) ⟨rfl,rfl,rfl⟩
 apply kI Z h<;>intro h
 .refine G9 Z Pq h (fun x5 x6=>⟨[(9,pN x6),(6,.vec 7500),(2,.p (.ptr (D2 a))),(1,.p (vSl 2 A0 d))],[(7500,.vec F5 1 x5.n (fun i=>cI .u64 (x5.g i)) true)]⟩) (ids:=[(7500,19000)]) (fun _ _ _ _ _ a0 x5 x6 a1 h=>?_);refine P0 Z Pq 100 ⟨[(99,.p (vSl 7 D2 a.L)),(97,pN x6),(9,pN x6),(6,.vec 7500),(2,.p (.ptr (D2 a))),(1,.p (vSl 2 A0 d))],[(7500,.vec F5 1 x5.n (fun i=>cI .u64 (x5.g i)) true)]⟩ (ids:=[(7500,7500)]) ?_ (hle:=klR [(0,.fn a.L.n a.L.n (Bt a) (fun i=>D2 (a.L.g i)))] (al1 ⟨rfl,R6 a⟩ al0));apply kI Z h<;>intro h
  .refine P0 Z Pq 108 ⟨[(107,pN x6),(106,.p (vSl 7 D2 a.L)),(104,.vec 7500),(9,pN x6),(2,.p (.ptr (D2 a))),(1,.p (vSl 2 A0 d))],[(7500,.vec F5 1 x5.n (fun i=>cI .u64 (x5.g i)) true)]⟩ (ids:=[(7500,7500)]) ?_ (hle:=klR [(1,.fn a.L.n a.L.n (Bt a) (fun i=>D2 (a.L.g i)))] (al1 ⟨rfl,R6 a⟩ al0));obtain⟨c49,h⟩:=D6 h;obtain⟨a7,e15,h⟩:=B9 h;refine C6 Z [] (And.intro c49 Ri) (j e15) ?_;refine kC Z h (PX Z Y) (fun a2 h=>?_);exact a1 _ [(7500,113000)] _ a2 (wrap .i64 (x6+1)) Pq h
  obtain rfl:=C4 h;exact A9 Z Pq ⟨[(4,.vec 7500)],[(7500,.vec F5 1 x5.n (fun i=>cI .u64 (x5.g i)) true)]⟩ [7500] (ids:=[(7500,7500)]) ⟨rfl,rfl,rfl⟩
 apply kI Z h<;>intro h
 .refine P0 Z Pq 117 ⟨[(116,.p (vSl 7 D2 a.L)),(6,.vec 19000),(5,pN (d.n:Int)),(2,.p (.ptr (D2 a))),(1,.p (vSl 2 A0 d))],[(19000,.vec F5 1 x1.n (fun i=>cI .u64 (x1.g i)) false)]⟩ (ids:=[(19000,19000)]) ?_ (hle:=klR [(0,.fn a.L.n a.L.n (Bt a) (fun i=>D2 (a.L.g i)))] (al1 ⟨rfl,R6 a⟩ al0));obtain⟨c51,h⟩:=D6 h;obtain⟨q,e17,h⟩:=B9 h;refine C6 Z [] (And.intro c51 Ri) (j e17) ?_;refine kC Z h (PW Z Y) (fun a8 h=>?_);refine IU Z Pq h (fun x8 x9 m=>⟨[(12,pN m),(11,.vec 12500),(10,.vec 121000),(6,.vec 7500),(2,.p (.ptr (D2 a)))],[(121000,.vec F5 1 q.n (fun i=>cI .u64 (q.g i)) true),(12500,.vec F5 1 x9.n (fun i=>cI .u64 (x9.g i)) true),(7500,.vec F5 1 x8.n (fun i=>cI .u64 (x8.g i)) true)]⟩) (ids:=[(7500,19000),(12500,123000),(121000,121000)]) (fun _ _ _ _ _ a3 x8 x9 m s h=>?_);apply kI Z h<;>intro h
  .refine kC Z h (PX Z Y) (fun o h=>?_);refine EC Z Pq (A5 Z) h 0 (fun z3=>⟨[(147,pB z3),(12,pN m),(11,.vec 12500),(10,.vec 121000),(6,.vec 133000),(2,.p (.ptr (D2 a)))],[(133000,.vec F5 1 o.n (fun i=>cI .u64 (o.g i)) true),(121000,.vec F5 1 q.n (fun i=>cI .u64 (q.g i)) true),(12500,.vec F5 1 x9.n (fun i=>cI .u64 (x9.g i)) true)]⟩) (fun M3 k3 r h=>?_) (fun z3 h=>?_)
   .refine kG Z h (fun h=>?_) (fun h=>?_)
    .exact r _ [(12500,12500),(121000,121000),(133000,133000)] _ true Pq h
    refine kG Z h (fun h=>?_) (fun h=>?_)
    .refine kC Z h (Wy Z Y) (fun a4 h=>?_);exact r _ [(12500,12500),(121000,121000),(133000,133000)] _ a4 Pq h
    exact r _ [(12500,12500),(121000,121000),(133000,133000)] _ false Pq h
   apply kI Z h<;>intro h
   .obtain rfl:=C4 h;exact A9 Z Pq ⟨[(4,.vec 133000)],[(133000,.vec F5 1 o.n (fun i=>cI .u64 (o.g i)) true)]⟩ [133000] (ids:=[(133000,133000)]) ⟨rfl,rfl,rfl⟩
   refine kC Z h (Gp Z Y) (fun a5 h=>?_);exact s _ [(7500,133000),(12500,152000),(121000,121000)] _ o a5 (wrap .i64 (m+1)) Pq h
  refine kC Z h (Gp Z Y) (fun a6 h=>?_);exact s _ [(7500,7500),(12500,152000),(121000,121000)] _ x8 a6 (wrap .i64 (m+1)) Pq h
 obtain rfl:=C4 h;exact A9 Z Pq ⟨[(4,.vec 19000)],[(19000,.vec F5 1 x1.n (fun i=>cI .u64 (x1.g i)) true)]⟩ [19000] (ids:=[(19000,19000)]) ⟨rfl,rfl,rfl⟩
theorem MP {a:Pat}{b:Sl Sm}{y:Sl Int}(h:BY N a b=some y) :FunO S Fj [.p (.agg (D2 a)),.p (vSl 2 A0 b)] [] (.vec 0) ([.vec F5 1 y.n (fun i=>cI .u64 (y.g i)) true]) []:=by
 induction N generalizing a b y with
 |zero=>cases (show (none:Option (Sl Int))=some y from h)
 |succ N ih=>exact TB Z Y (fun e=>ih e) h
theorem TC {j:Pat}{f:Sl Sm}{d:Int}{y:(Sl Int)×Int}(h:Cv N j f d=some y) :FunO S Ld [.p (.agg (D2 j)),.p (vSl 2 A0 f),pN d] [] (.tup [.vec 0,pN y.2]) ([.vec C7 1 y.1.n (fun i=>cI .i64 (y.1.g i)) true]) []:=by
 unfold Cv at h;refine A3 Z func181 ?_;refine kC Z h (PY Z Y) (fun y1 h=>?_);apply kI Z h<;>intro h
 .obtain rfl:=C4 h;exact A9 Z Pq ⟨[(7,pN y1),(6,.vec 7700)],[(7700,.vec C7 1 Sh.n (fun i=>cI .i64 (Sh.g i)) true)]⟩ [7700] (ids:=[]) ⟨rfl,rfl,rfl⟩
 refine kB Z (A5 Z) Pq Pq 5 (.o (.a (decide (d<0))) (.a (decide ((f.n:Int)<d)))) ?_;apply kI Z h<;>intro h
 .obtain rfl:=C4 h;exact A9 Z Pq ⟨[(7,pN 3),(6,.vec 7700)],[(7700,.vec C7 1 Sh.n (fun i=>cI .i64 (Sh.g i)) true)]⟩ [7700] (ids:=[]) ⟨rfl,rfl,rfl⟩
 refine kC Z h (MP Z Y) (fun y2 h=>?_);refine G9 Z Pq h (fun x1 x2=>⟨[(11,pN x2),(10,.vec 11500),(9,.vec 29000),(2,pN d),(1,.p (vSl 2 A0 f))],[(29000,.vec F5 1 y2.n (fun i=>cI .u64 (y2.g i)) true),(11500,.vec C7 1 x1.n (fun i=>cI .i64 (x1.g i)) false)]⟩) (ids:=[(29000,29000)]) (fun _ _ _ _ _ m x1 x2 l h=>?_);apply kI Z h<;>intro h
 .obtain⟨c10,h⟩:=D6 h;refine D4 Z c10 (b:=(F4 .and .u64 (shI .shr .u64 (y2.g x2.toNat) d) 1)==1) (fun c11=>?_) (fun c11=>?_)
  .replace h:=itT c11 h;obtain⟨c12,h⟩:=D6 h;exact l _ [(11500,47000),(29000,29000)] _ (x1.push x2) (wrap .i64 (x2+1)) (And.intro Rp c12) h (hle:=klR [(4,.fn (x1.n+1) (x1.push x2).n (T2 x1.n (fun i=>cI .i64 (x1.g i)) (D3 [pI .i64 0] [(0,cI .i64 x2)])) (fun i=>cI .i64 ((x1.push x2).g i)))] (al1 ⟨rfl,EA (c:=cI .i64) (v:=x1) (x:=x2) (z:=[(pI .i64 0)]) same rfl rfl⟩ al0))
  replace h:=itF c11 h;exact l _ [(11500,11500),(29000,29000)] _ x1 (wrap .i64 (x2+1)) Pq h
 obtain rfl:=C4 h;exact A9 Z Pq ⟨[(7,pN 0),(6,.vec 11500)],[(11500,.vec C7 1 x1.n (fun i=>cI .i64 (x1.g i)) true)]⟩ [11500] (ids:=[(11500,11500)]) ⟨rfl,rfl,rfl⟩
theorem Ad4 {j:Pat}{f:Sl Sm}{d:Int}{y:(Sl Int)×Int}(h:EF N j f d=some y) :FunO S PP [.p (.agg (D2 j)),.p (vSl 2 A0 f),pN d] [] (.tup [.vec 0,pN y.2]) ([.vec C7 1 y.1.n (fun i=>cI .i64 (y.1.g i)) true]) []:=by
 unfold EF at h;refine A3 Z func182 ?_;refine kC Z h (PY Z Y) (fun y1 h=>?_);apply kI Z h<;>intro h
 .obtain rfl:=C4 h;exact A9 Z Pq ⟨[(7,pN y1),(6,.vec 7700)],[(7700,.vec C7 1 Sh.n (fun i=>cI .i64 (Sh.g i)) true)]⟩ [7700] (ids:=[]) ⟨rfl,rfl,rfl⟩
 refine kB Z (A5 Z) Pq Pq 5 (.o (.a (decide (d<0))) (.a (decide ((f.n:Int)<d)))) ?_;apply kI Z h<;>intro h
 .obtain rfl:=C4 h;exact A9 Z Pq ⟨[(7,pN 3),(6,.vec 7700)],[(7700,.vec C7 1 Sh.n (fun i=>cI .i64 (Sh.g i)) true)]⟩ [7700] (ids:=[]) ⟨rfl,rfl,rfl⟩
 refine kC Z h (MP Z Y) (fun y2 h=>?_);refine G9 Z Pq h (fun x1 x2=>⟨[(11,pN x2),(10,.vec 11500),(9,.vec 29000),(2,pN d),(1,.p (vSl 2 A0 f))],[(29000,.vec F5 1 y2.n (fun i=>cI .u64 (y2.g i)) true),(11500,.vec C7 1 x1.n (fun i=>cI .i64 (x1.g i)) false)]⟩) (ids:=[(29000,29000)]) (fun _ _ _ _ _ m x1 x2 l h=>?_);apply kI Z h<;>intro h
 .obtain⟨c10,h⟩:=D6 h;refine D4 Z c10 (b:=(F4 .and .u64 (shI .shr .u64 (y2.g d.toNat) x2) 1)==1) (fun c11=>?_) (fun c11=>?_)
  .replace h:=itT c11 h;obtain⟨c12,h⟩:=D6 h;exact l _ [(11500,47000),(29000,29000)] _ (x1.push x2) (wrap .i64 (x2+1)) (And.intro Rp c12) h (hle:=klR [(4,.fn (x1.n+1) (x1.push x2).n (T2 x1.n (fun i=>cI .i64 (x1.g i)) (D3 [pI .i64 0] [(0,cI .i64 x2)])) (fun i=>cI .i64 ((x1.push x2).g i)))] (al1 ⟨rfl,EA (c:=cI .i64) (v:=x1) (x:=x2) (z:=[(pI .i64 0)]) same rfl rfl⟩ al0))
  replace h:=itF c11 h;exact l _ [(11500,11500),(29000,29000)] _ x1 (wrap .i64 (x2+1)) Pq h
 obtain rfl:=C4 h;exact A9 Z Pq ⟨[(7,pN 0),(6,.vec 11500)],[(11500,.vec C7 1 x1.n (fun i=>cI .i64 (x1.g i)) true)]⟩ [11500] (ids:=[(11500,11500)]) ⟨rfl,rfl,rfl⟩
theorem MQ {b:Law}{d:Sl Sm}{c:Int}{y:Bool}(h:AK N b d c=some y) :FunO S Tt [.p (.agg (B5 b)),.p (vSl 2 A0 d),pN c] [] (pB y) ([]) []:=by
 unfold AK at h;refine A3 Z func171 ?_;refine G4 Z Pq 6 4000 (B5 b) ?_;refine kB Z (A5 Z) Pq Pq 7 (.o (.a (decide (c<0))) (.a (decide ((d.n:Int)<(wrap .i64 (c+(b.If.n:Int))))))) ?_;apply kI Z h<;>intro h
 .cases h;exact kR Z
 refine H0 Z Pq h (fun x1=>⟨[(8,pN x1),(7,pN (b.If.n:Int)),(3,.p (.ptr (B5 b))),(2,pN c),(1,.p (vSl 2 A0 d))],[]⟩) (ids:=[]) (fun _ _ _ _ _ f x1 g h=>?_);apply kI Z h<;>intro h
 .refine E3 Z Pq [4,5,7,9,10,11] ?_;obtain⟨c9,h⟩:=D6 h;obtain⟨y3,e3,h⟩:=B9 h;refine K7 (And.intro (And.intro (And.intro c9.1 Q6) c9.2) Q6) (MM Z Y e3) ?_;refine H3 Pq ?_;apply kI Z h<;>intro h
  .cases h;exact kR Z
  exact g _ [] _ (wrap .i64 (x1+1)) Pq h
 obtain⟨y4,e4,h⟩:=B9 h;refine C6 Z [] (by decide:(7:Nat)<=17) (TC Z Y e4) ?_;obtain⟨y5,e5,h⟩:=B9 h;refine C6 Z [] (by decide:(7:Nat)<=10) (Ad4 Z Y e5) ?_;refine kB Z (A5 Z) Pq Pq 4 (.n (.a (decide (0<(y4.1.n:Int)))) (.a (decide (0<(y5.1.n:Int))))) ?_;cases h;exact kR Z
theorem TD {d:Law}{a:Sl Sm}{y:Sl Sm}(h:Bv N d a=some y) :FunO S Tu [.p (.agg (B5 d)),.p (vSl 2 A0 a)] [] (.vec 0) ([.vec B8 2 y.n (fun i=>A0 (y.g i)) true]) []:=by
 unfold Bv at h;refine A3 Z func172 ?_;refine G4 Z Pq 4 3000 (B5 d) ?_;refine G9 Z Pq h (fun x1 x2=>⟨[(6,pN x2),(5,.vec 6500),(2,.p (.ptr (B5 d))),(1,.p (vSl 2 A0 a))],[(6500,.vec B8 2 x1.n (fun i=>A0 (x1.g i)) false)]⟩) (ids:=[]) (fun _ _ _ _ _ o x1 x2 l h=>?_);apply kI Z h<;>intro h
 .obtain⟨c16,h⟩:=D6 h;refine G4 Z (And.intro c16 (by decide:(6:Nat)<=6)) 21 8000 (Ax (d.Out.g x2.toNat)) ?_;obtain⟨c18,h⟩:=D6 h;obtain⟨t5,f⟩:∃x:Int,x=(if (decide (0<=(d.Out.g x2.toNat).From)) then (a.g (d.Out.g x2.toNat).From.toNat).Plus else 0):=⟨_,rfl⟩;obtain⟨t6,j⟩:∃x:Int,x=(if (decide (0<=(d.Out.g x2.toNat).From)) then (a.g (d.Out.g x2.toNat).From.toNat).Minus else 0):=⟨_,rfl⟩;refine Wx Z Pq (A5 Z) 0 ⟨[(8,.reg 9000 0),(7,.p (.ptr (Ax (d.Out.g x2.toNat)))),(6,pN x2),(5,.vec 6500),(2,.p (.ptr (B5 d))),(1,.p (vSl 2 A0 a))],[(9000,.cells [pU t5,pU t6]),(6500,.vec B8 2 x1.n (fun i=>A0 (x1.g i)) false)]⟩ (fun M3 m=>?_) ?_
  .refine D4 Z Pq (b:=decide (0<=(d.Out.g x2.toNat).From)) (fun c19=>?_) (fun c19=>?_)
   .exact m _ [(6500,6500),(9000,9000)] _ (And.intro (c18 c19) Q6) (hle:=klR [(4,.eq (pI .u32 (a.g (d.Out.g x2.toNat).From.toNat).Plus) (pI .u32 t5)),(5,.eq (pI .u32 (a.g (d.Out.g x2.toNat).From.toNat).Minus) (pI .u32 t6))] (al1 (by simp only[f,j,c19,Leaf.ok,pm,Pn,Po]) (al1 (by simp only[f,j,c19,Leaf.ok,pm,Pn,Po]) al0)))
   exact m _ [(6500,6500),(9000,9000)] _ Pq (hle:=klR [(4,.eq (pI .u32 0) (pI .u32 t5)),(5,.eq (pI .u32 0) (pI .u32 t6))] (al1 (by simp only[f,j,c19,Leaf.ok,pm,Pn,Po]) (al1 (by simp only[f,j,c19,Leaf.ok,pm,Pn,Po]) al0)))
  subst j;subst f;obtain⟨y5,e5,h⟩:=B9 h;refine C6 Z [] (by decide:(2:Nat)<=4) (TA Z Y e5) ?_;apply kI Z h<;>intro h
  .refine E3 Z Pq [3,4,5,7,8] ?_;obtain⟨c21,h⟩:=D6 h;obtain⟨y6,e6,h⟩:=B9 h;refine K7 (And.intro c21 Q6) (Ac7 Z Y e6) ?_;refine H3 Pq ?_;obtain⟨c22,h⟩:=D6 h;exact l _ [(6500,58000)] _ (x1.push y6.1) (wrap .i64 (x2+1)) (And.intro Rp c22) h (hle:=klR [(3,.fn (x1.n+1) (x1.push y6.1).n (T2 x1.n (fun i=>A0 (x1.g i)) (D3 [pI .u32 0,pI .u32 0] [(0,A0 y6.1)])) (fun i=>A0 ((x1.push y6.1).g i)))] (al1 ⟨rfl,EA (c:=A0) (v:=x1) (x:=y6.1) (z:=[(pI .u32 0),pI .u32 0]) same rfl rfl⟩ al0))
  obtain⟨c23,h⟩:=D6 h;exact l _ [(6500,58000)] _ (x1.push y5.1) (wrap .i64 (x2+1)) (And.intro Rp c23) h (hle:=klR [(3,.fn (x1.n+1) (x1.push y5.1).n (T2 x1.n (fun i=>A0 (x1.g i)) (D3 [pI .u32 0,pI .u32 0] [(0,A0 y5.1)])) (fun i=>A0 ((x1.push y5.1).g i)))] (al1 ⟨rfl,EA (c:=A0) (v:=x1) (x:=y5.1) (z:=[(pI .u32 0),pI .u32 0]) same rfl rfl⟩ al0))
 obtain rfl:=C4 h;exact A9 Z Pq ⟨[(4,.vec 6500)],[(6500,.vec B8 2 x1.n (fun i=>A0 (x1.g i)) true)]⟩ [6500] (ids:=[(6500,6500)]) ⟨rfl,rfl,rfl⟩
theorem IV {d:Law}{a:Sl Sm}{b:Int}{y:Sl Sm}(h:R7 N d a b=some y) :FunO S IR [.p (.agg (B5 d)),.p (vSl 2 A0 a),pN b] [] (.vec 0) ([.vec B8 2 y.n (fun i=>A0 (y.g i)) true]) []:=by unfold R7 at h;refine A3 Z func173 ?_;refine G4 Z Pq 6 4000 (B5 d) ?_;obtain⟨c1,h⟩:=D6 h;refine E3 Z (And.intro (And.intro Rp c1.1) c1.2) [1] ?_;obtain⟨c2,h⟩:=D6 h;obtain⟨y1,e1,h⟩:=B9 h;refine Gq [] (And.intro Rj c2) (TD Z Y e1) ?_;obtain⟨c3,h⟩:=D6 h;refine H3 c3 ?_;obtain⟨c4,h⟩:=D6 h;obtain rfl:=C4 h;exact A9 Z c4 ⟨[(6,.vec 34000)],[(34000,.vec B8 2 (((Sj.app (a.take b.toNat)).app y1).app (a.drop (wrap .i64 (b+(d.If.n:Int))).toNat)).n (fun i=>A0 ((((Sj.app (a.take b.toNat)).app y1).app (a.drop (wrap .i64 (b+(d.If.n:Int))).toNat)).g i)) true)]⟩ [34000] (ids:=[(34000,34000)]) ⟨rfl,rfl,rfl⟩ (hle:=klR [(0,.fn (((0+(a.take b.toNat).n)+y1.n)+(a.drop (wrap .i64 (b+(d.If.n:Int))).toNat).n) (((Sj.app (a.take b.toNat)).app y1).app (a.drop (wrap .i64 (b+(d.If.n:Int))).toNat)).n (T2 ((0+(a.take b.toNat).n)+y1.n) (T2 (0+(a.take b.toNat).n) (T2 0 (D3 [pI .u32 0,pI .u32 0] []) (fun i=>A0 ((a.take b.toNat).g i))) (fun i=>A0 (y1.g i))) (fun i=>A0 ((a.drop (wrap .i64 (b+(d.If.n:Int))).toNat).g i))) (fun i=>A0 ((((Sj.app (a.take b.toNat)).app y1).app (a.drop (wrap .i64 (b+(d.If.n:Int))).toNat)).g i)))] (al1 ⟨rfl,WC (c:=A0) (v:=(Sj.app (a.take b.toNat)).app y1) (w:=a.drop (wrap .i64 (b+(d.If.n:Int))).toNat) (WC (c:=A0) (v:=Sj.app (a.take b.toNat)) (w:=y1) (WC (c:=A0) (v:=Sj) (w:=a.take b.toNat) (fun i f=>Pm f (by omega)) rfl same rfl) rfl same rfl) rfl same rfl⟩ al0))
theorem Am3 {a:Law}{d:Sl Sm}{y:(Sl Int)×(Sl (Sl Sm))×Int}(h:Gr N a d=some y) :FunO S Ts [.p (.agg (B5 a)),.p (vSl 2 A0 d)] [] (.tup [.vec 0,.vec 1,pN y.2.2]) ([.vec C7 1 y.1.n (fun i=>cI .i64 (y.1.g i)) true,.vec B4 1 y.2.1.n (fun i=>cL 2 A0 (y.2.1.g i)) true]) []:=by
 unfold Gr at h;refine A3 Z func164 ?_;refine G4 Z Pq 4 3000 (B5 a) ?_;refine YE Z Pq h (fun x2 x3 x4 x5=>⟨[(10,pN x5),(9,.vec 10501),(8,.vec 9500),(7,.vec 8500),(2,.p (.ptr (B5 a))),(1,.p (vSl 2 A0 d))],[(10501,.vec B8 2 x4.n (fun i=>A0 (x4.g i)) false),(9500,.vec B4 1 x3.n (fun i=>cL 2 A0 (x3.g i)) false),(8500,.vec C7 1 x2.n (fun i=>cI .i64 (x2.g i)) false)]⟩) (ids:=[]) (fun _ _ _ _ _ l x2 x3 x4 x5 f h=>?_);apply kI Z h<;>intro h
 .obtain⟨y5,e5,h⟩:=B9 h;refine C6 Z [] Rj (MQ Z Y e5) ?_;apply kI Z h<;>intro h
  .refine EC Z Pq (A5 Z) h 0 (fun z3=>⟨[(10,pN x5),(9,.vec 10500),(8,.vec 9500),(7,.vec 8500),(2,.p (.ptr (B5 a))),(1,.p (vSl 2 A0 d))],[(10500,.vec B8 2 z3.n (fun i=>A0 (z3.g i)) false),(9500,.vec B4 1 x3.n (fun i=>cL 2 A0 (x3.g i)) false),(8500,.vec C7 1 x2.n (fun i=>cI .i64 (x2.g i)) false)]⟩) (fun M6 k3 j h=>?_) (fun z3 h=>?_)
   .apply kI Z h<;>intro h
    .obtain⟨c40,h⟩:=D6 h;exact j _ [(8500,8500),(9500,9500),(10500,33000)] _ (x4.push (d.g x5.toNat)) (And.intro (And.intro (And.intro c40.1 Q6) Rp) c40.2) h (hle:=klR [(3,.fn (x4.n+1) (x4.push (d.g x5.toNat)).n (T2 x4.n (fun i=>A0 (x4.g i)) (D3 [pI .u32 0,pI .u32 0] [(0,A0 (d.g x5.toNat))])) (fun i=>A0 ((x4.push (d.g x5.toNat)).g i)))] (al1 ⟨rfl,EA (c:=A0) (v:=x4) (x:=d.g x5.toNat) (z:=[(pI .u32 0),pI .u32 0]) same rfl rfl⟩ al0))
    exact j _ [(8500,8500),(9500,9500),(10500,10501)] _ x4 Pq h
   exact f _ [(8500,8500),(9500,9500),(10501,10500)] _ x2 x3 z3 (wrap .i64 (x5+1)) Pq h
  refine E3 Z Pq [1] ?_;obtain⟨c41,h⟩:=D6 h;obtain⟨y6,e6,h⟩:=B9 h;refine Gq [] (And.intro Rj c41) (TD Z Y e6) ?_;obtain⟨c42,h⟩:=D6 h;refine H3 c42 ?_;obtain⟨c43,h⟩:=D6 h;refine E3 Z (And.intro Rp c43) [1000] ?_;obtain⟨c44,h⟩:=D6 h;refine H3 (And.intro (And.intro (And.intro Rp c44.1.1) c44.1.2) c44.2) ?_;apply kI Z h<;>intro h
  .obtain rfl:=C4 h;exact A9 Z Pq ⟨[(6,pN 11),(5,.vec 6701),(4,.vec 5700)],[(6701,.vec B4 1 Sk.n (fun i=>cL 2 A0 (Sk.g i)) true),(5700,.vec C7 1 Sh.n (fun i=>cI .i64 (Sh.g i)) true)]⟩ [5700,6701] (ids:=[]) ⟨rfl,rfl,rfl⟩
  refine P0 Z Pq 66 ⟨[(65,.vec 61000),(64,.vec 9500),(11,pN (a.If.n:Int)),(10,pN x5),(9,.vec 48000),(7,.vec 52000),(2,.p (.ptr (B5 a))),(1,.p (vSl 2 A0 d))],[(61000,.vec B8 2 ((Sj.app (x4.app y6)).app (d.drop (wrap .i64 (x5+(a.If.n:Int))).toNat)).n (fun i=>A0 (((Sj.app (x4.app y6)).app (d.drop (wrap .i64 (x5+(a.If.n:Int))).toNat)).g i)) true),(52000,.vec C7 1 (x2.push x5).n (fun i=>cI .i64 ((x2.push x5).g i)) false),(48000,.vec B8 2 (x4.app y6).n (fun i=>A0 ((x4.app y6).g i)) false),(9500,.vec B4 1 x3.n (fun i=>cL 2 A0 (x3.g i)) false)]⟩ (ids:=[(9500,9500),(48000,48000),(52000,52000),(61000,61000)]) ?_ (hle:=klR [(4,.fn ((0+(x4.n+y6.n))+(d.drop (wrap .i64 (x5+(a.If.n:Int))).toNat).n) ((Sj.app (x4.app y6)).app (d.drop (wrap .i64 (x5+(a.If.n:Int))).toNat)).n (T2 (0+(x4.n+y6.n)) (T2 0 (D3 [pI .u32 0,pI .u32 0] []) (T2 x4.n (fun i=>A0 (x4.g i)) (fun i=>A0 (y6.g i)))) (fun i=>A0 ((d.drop (wrap .i64 (x5+(a.If.n:Int))).toNat).g i))) (fun i=>A0 (((Sj.app (x4.app y6)).app (d.drop (wrap .i64 (x5+(a.If.n:Int))).toNat)).g i))),(5,.fn (x2.n+1) (x2.push x5).n (T2 x2.n (fun i=>cI .i64 (x2.g i)) (D3 [pI .i64 0] [(0,cI .i64 x5)])) (fun i=>cI .i64 ((x2.push x5).g i))),(6,.fn (x4.n+y6.n) (x4.app y6).n (T2 x4.n (fun i=>A0 (x4.g i)) (fun i=>A0 (y6.g i))) (fun i=>A0 ((x4.app y6).g i)))] (al1 ⟨rfl,WC (c:=A0) (v:=Sj.app (x4.app y6)) (w:=d.drop (wrap .i64 (x5+(a.If.n:Int))).toNat) (WC (c:=A0) (v:=Sj) (w:=x4.app y6) (fun i m=>Pm m (by omega)) rfl (WC (c:=A0) (v:=x4) (w:=y6) same rfl same rfl) rfl) rfl same rfl⟩ (al1 ⟨rfl,EA (c:=cI .i64) (v:=x2) (x:=x5) (z:=[(pI .i64 0)]) same rfl rfl⟩ (al1 ⟨rfl,WC (c:=A0) (v:=x4) (w:=y6) same rfl same rfl⟩ al0))));obtain⟨c46,h⟩:=D6 h;refine D4 Z (And.intro Rp c46) (b:=(a.If.n:Int)==0) (fun c47=>?_) (fun c47=>?_)
  .replace h:=itT c47 h;apply kI Z h<;>intro h
   .obtain⟨c49,h⟩:=D6 h;exact f _ [(8500,52000),(9500,68000),(10501,84000)] _ (x2.push x5) (x3.push ((Sj.app (x4.app y6)).app (d.drop (wrap .i64 (x5+(a.If.n:Int))).toNat))) ((x4.app y6).push (d.g (wrap .i64 (x5+(a.If.n:Int))).toNat)) (wrap .i64 ((wrap .i64 (x5+(a.If.n:Int)))+1)) (And.intro (And.intro (And.intro c49.1 Q6) Rp) c49.2) h (hle:=klR [(3,.fn ((x4.app y6).n+1) ((x4.app y6).push (d.g (wrap .i64 (x5+(a.If.n:Int))).toNat)).n (T2 (x4.app y6).n (fun i=>A0 ((x4.app y6).g i)) (D3 [pI .u32 0,pI .u32 0] [(0,A0 (d.g (wrap .i64 (x5+(a.If.n:Int))).toNat))])) (fun i=>A0 (((x4.app y6).push (d.g (wrap .i64 (x5+(a.If.n:Int))).toNat)).g i))),(4,.fn (x3.n+1) (x3.push ((Sj.app (x4.app y6)).app (d.drop (wrap .i64 (x5+(a.If.n:Int))).toNat))).n (T2 x3.n (fun i=>cL 2 A0 (x3.g i)) (D3 [M8] [(0,cL 2 A0 ((Sj.app (x4.app y6)).app (d.drop (wrap .i64 (x5+(a.If.n:Int))).toNat)))])) (fun i=>cL 2 A0 ((x3.push ((Sj.app (x4.app y6)).app (d.drop (wrap .i64 (x5+(a.If.n:Int))).toNat))).g i)))] (al1 ⟨rfl,EA (c:=A0) (v:=x4.app y6) (x:=d.g (wrap .i64 (x5+(a.If.n:Int))).toNat) (z:=[(pI .u32 0),pI .u32 0]) same rfl rfl⟩ (al1 ⟨rfl,EA (c:=cL 2 A0) (v:=x3) (x:=(Sj.app (x4.app y6)).app (d.drop (wrap .i64 (x5+(a.If.n:Int))).toNat)) (z:=[M8]) same rfl rfl⟩ al0)))
   exact f _ [(8500,52000),(9500,68000),(10501,48000)] _ (x2.push x5) (x3.push ((Sj.app (x4.app y6)).app (d.drop (wrap .i64 (x5+(a.If.n:Int))).toNat))) (x4.app y6) (wrap .i64 ((wrap .i64 (x5+(a.If.n:Int)))+1)) Pq h (hle:=klR [(4,.fn (x3.n+1) (x3.push ((Sj.app (x4.app y6)).app (d.drop (wrap .i64 (x5+(a.If.n:Int))).toNat))).n (T2 x3.n (fun i=>cL 2 A0 (x3.g i)) (D3 [M8] [(0,cL 2 A0 ((Sj.app (x4.app y6)).app (d.drop (wrap .i64 (x5+(a.If.n:Int))).toNat)))])) (fun i=>cL 2 A0 ((x3.push ((Sj.app (x4.app y6)).app (d.drop (wrap .i64 (x5+(a.If.n:Int))).toNat))).g i)))] (al1 ⟨rfl,EA (c:=cL 2 A0) (v:=x3) (x:=(Sj.app (x4.app y6)).app (d.drop (wrap .i64 (x5+(a.If.n:Int))).toNat)) (z:=[M8]) same rfl rfl⟩ al0))
  replace h:=itF c47 h;exact f _ [(8500,52000),(9500,68000),(10501,48000)] _ (x2.push x5) (x3.push ((Sj.app (x4.app y6)).app (d.drop (wrap .i64 (x5+(a.If.n:Int))).toNat))) (x4.app y6) (wrap .i64 (x5+(a.If.n:Int))) Pq h (hle:=klR [(4,.fn (x3.n+1) (x3.push ((Sj.app (x4.app y6)).app (d.drop (wrap .i64 (x5+(a.If.n:Int))).toNat))).n (T2 x3.n (fun i=>cL 2 A0 (x3.g i)) (D3 [M8] [(0,cL 2 A0 ((Sj.app (x4.app y6)).app (d.drop (wrap .i64 (x5+(a.If.n:Int))).toNat)))])) (fun i=>cL 2 A0 ((x3.push ((Sj.app (x4.app y6)).app (d.drop (wrap .i64 (x5+(a.If.n:Int))).toNat))).g i)))] (al1 ⟨rfl,EA (c:=cL 2 A0) (v:=x3) (x:=(Sj.app (x4.app y6)).app (d.drop (wrap .i64 (x5+(a.If.n:Int))).toNat)) (z:=[M8]) same rfl rfl⟩ al0))
 obtain rfl:=C4 h;exact A9 Z Pq ⟨[(6,pN 0),(5,.vec 9500),(4,.vec 8500)],[(9500,.vec B4 1 x3.n (fun i=>cL 2 A0 (x3.g i)) true),(8500,.vec C7 1 x2.n (fun i=>cI .i64 (x2.g i)) true)]⟩ [8500,9500] (ids:=[(8500,8500),(9500,9500)]) ⟨rfl,rfl,rfl⟩
theorem WD {a:Law}{f:Sl Sm}{y:(Sl Int)×(Sl (Sl Sm))×Int}(h:Dl N a f=some y) :FunO S MI [.p (.agg (B5 a)),.p (vSl 2 A0 f)] [] (.tup [.vec 0,.vec 1,pN y.2.2]) ([.vec C7 1 y.1.n (fun i=>cI .i64 (y.1.g i)) true,.vec B4 1 y.2.1.n (fun i=>cL 2 A0 (y.2.1.g i)) true]) []:=by
 unfold Dl at h;refine A3 Z func165 ?_;refine YE Z Pq h (fun x1 x2 x3 x4=>⟨[(10,pN x4),(9,pN (a.If.n:Int)),(8,.vec 9500),(7,.vec 8500),(2,.reg 3000 0),(1,.p (vSl 2 A0 x1))],[(9500,.vec B4 1 x3.n (fun i=>cL 2 A0 (x3.g i)) false),(8500,.vec C7 1 x2.n (fun i=>cI .i64 (x2.g i)) false),(3000,.cells ((B5 a).map .p))]⟩) (ids:=[(3000,3000)]) (fun _ _ _ _ _ j x1 x2 x3 x4 d h=>?_);apply kI Z h<;>intro h
 .refine kC Z h (MQ Z Y) (fun y5 h=>?_);apply kI Z h<;>intro h
  .exact d _ [(3000,3000),(8500,8500),(9500,9500)] _ x1 x2 x3 (wrap .i64 (x4+1)) Pq h
  refine kC Z h (IV Z Y) (fun y6 h=>?_);apply kI Z h<;>intro h
  .obtain rfl:=C4 h;exact A9 Z Pq ⟨[(6,pN 11),(5,.vec 6701),(4,.vec 5700)],[(6701,.vec B4 1 Sk.n (fun i=>cL 2 A0 (Sk.g i)) true),(5700,.vec C7 1 Sh.n (fun i=>cI .i64 (Sh.g i)) true)]⟩ [5700,6701] (ids:=[]) ⟨rfl,rfl,rfl⟩
  obtain⟨c14,h⟩:=D6 h;refine D4 Z (And.intro (And.intro (And.intro Rp c14.1) Rp) c14.2) (b:=(a.If.n:Int)==0) (fun c15=>?_) (fun c15=>?_)
  .replace h:=itT c15 h;exact d _ [(3000,3000),(8500,38000),(9500,42000)] _ y6 (x2.push x4) (x3.push y6) (wrap .i64 ((wrap .i64 (x4+(a.Out.n:Int)))+1)) Pq h (hle:=klR [(3,.fn (x3.n+1) (x3.push y6).n (T2 x3.n (fun i=>cL 2 A0 (x3.g i)) (D3 [M8] [(0,cL 2 A0 y6)])) (fun i=>cL 2 A0 ((x3.push y6).g i))),(4,.fn (x2.n+1) (x2.push x4).n (T2 x2.n (fun i=>cI .i64 (x2.g i)) (D3 [pI .i64 0] [(0,cI .i64 x4)])) (fun i=>cI .i64 ((x2.push x4).g i)))] (al1 ⟨rfl,EA (c:=cL 2 A0) (v:=x3) (x:=y6) (z:=[M8]) same rfl rfl⟩ (al1 ⟨rfl,EA (c:=cI .i64) (v:=x2) (x:=x4) (z:=[(pI .i64 0)]) same rfl rfl⟩ al0)))
  replace h:=itF c15 h;exact d _ [(3000,3000),(8500,38000),(9500,42000)] _ y6 (x2.push x4) (x3.push y6) (wrap .i64 (x4+(a.Out.n:Int))) Pq h (hle:=klR [(3,.fn (x3.n+1) (x3.push y6).n (T2 x3.n (fun i=>cL 2 A0 (x3.g i)) (D3 [M8] [(0,cL 2 A0 y6)])) (fun i=>cL 2 A0 ((x3.push y6).g i))),(4,.fn (x2.n+1) (x2.push x4).n (T2 x2.n (fun i=>cI .i64 (x2.g i)) (D3 [pI .i64 0] [(0,cI .i64 x4)])) (fun i=>cI .i64 ((x2.push x4).g i)))] (al1 ⟨rfl,EA (c:=cL 2 A0) (v:=x3) (x:=y6) (z:=[M8]) same rfl rfl⟩ (al1 ⟨rfl,EA (c:=cI .i64) (v:=x2) (x:=x4) (z:=[(pI .i64 0)]) same rfl rfl⟩ al0)))
 obtain rfl:=C4 h;exact A9 Z Pq ⟨[(6,pN 0),(5,.vec 9500),(4,.vec 8500)],[(9500,.vec B4 1 x3.n (fun i=>cL 2 A0 (x3.g i)) true),(8500,.vec C7 1 x2.n (fun i=>cI .i64 (x2.g i)) true)]⟩ [8500,9500] (ids:=[(8500,8500),(9500,9500)]) ⟨rfl,rfl,rfl⟩
theorem Ad5 {a:Law}{f:Sl Sm}{y:(Sl Int)×(Sl (Sl Sm))×Int}(h:Dd N a f=some y) :FunO S PO [.p (.agg (B5 a)),.p (vSl 2 A0 f)] [] (.tup [.vec 0,.vec 1,pN y.2.2]) ([.vec C7 1 y.1.n (fun i=>cI .i64 (y.1.g i)) true,.vec B4 1 y.2.1.n (fun i=>cL 2 A0 (y.2.1.g i)) true]) []:=by
 unfold Dd at h;refine A3 Z func166 ?_;refine YE Z Pq h (fun x1 x2 x3 x4=>⟨[(10,pN x4),(9,pN (a.If.n:Int)),(8,.vec 9500),(7,.vec 8500),(2,.reg 3000 0),(1,.p (vSl 2 A0 x1))],[(9500,.vec B4 1 x3.n (fun i=>cL 2 A0 (x3.g i)) false),(8500,.vec C7 1 x2.n (fun i=>cI .i64 (x2.g i)) false),(3000,.cells ((B5 a).map .p))]⟩) (ids:=[(3000,3000)]) (fun _ _ _ _ _ j x1 x2 x3 x4 d h=>?_);apply kI Z h<;>intro h
 .refine kC Z h (MQ Z Y) (fun y5 h=>?_);apply kI Z h<;>intro h
  .exact d _ [(3000,3000),(8500,8500),(9500,9500)] _ x1 x2 x3 (wrap .i64 (x4-1)) Pq h
  refine kC Z h (IV Z Y) (fun y6 h=>?_);apply kI Z h<;>intro h
  .obtain rfl:=C4 h;exact A9 Z Pq ⟨[(6,pN 11),(5,.vec 6701),(4,.vec 5700)],[(6701,.vec B4 1 Sk.n (fun i=>cL 2 A0 (Sk.g i)) true),(5700,.vec C7 1 Sh.n (fun i=>cI .i64 (Sh.g i)) true)]⟩ [5700,6701] (ids:=[]) ⟨rfl,rfl,rfl⟩
  obtain⟨c14,h⟩:=D6 h;refine D4 Z (And.intro (And.intro (And.intro Rp c14.1) Rp) c14.2) (b:=(a.If.n:Int)==0) (fun c15=>?_) (fun c15=>?_)
  .replace h:=itT c15 h;exact d _ [(3000,3000),(8500,38000),(9500,42000)] _ y6 (x2.push x4) (x3.push y6) (wrap .i64 ((wrap .i64 (x4-(a.If.n:Int)))-1)) Pq h (hle:=klR [(3,.fn (x3.n+1) (x3.push y6).n (T2 x3.n (fun i=>cL 2 A0 (x3.g i)) (D3 [M8] [(0,cL 2 A0 y6)])) (fun i=>cL 2 A0 ((x3.push y6).g i))),(4,.fn (x2.n+1) (x2.push x4).n (T2 x2.n (fun i=>cI .i64 (x2.g i)) (D3 [pI .i64 0] [(0,cI .i64 x4)])) (fun i=>cI .i64 ((x2.push x4).g i)))] (al1 ⟨rfl,EA (c:=cL 2 A0) (v:=x3) (x:=y6) (z:=[M8]) same rfl rfl⟩ (al1 ⟨rfl,EA (c:=cI .i64) (v:=x2) (x:=x4) (z:=[(pI .i64 0)]) same rfl rfl⟩ al0)))
  replace h:=itF c15 h;exact d _ [(3000,3000),(8500,38000),(9500,42000)] _ y6 (x2.push x4) (x3.push y6) (wrap .i64 (x4-(a.If.n:Int))) Pq h (hle:=klR [(3,.fn (x3.n+1) (x3.push y6).n (T2 x3.n (fun i=>cL 2 A0 (x3.g i)) (D3 [M8] [(0,cL 2 A0 y6)])) (fun i=>cL 2 A0 ((x3.push y6).g i))),(4,.fn (x2.n+1) (x2.push x4).n (T2 x2.n (fun i=>cI .i64 (x2.g i)) (D3 [pI .i64 0] [(0,cI .i64 x4)])) (fun i=>cI .i64 ((x2.push x4).g i)))] (al1 ⟨rfl,EA (c:=cL 2 A0) (v:=x3) (x:=y6) (z:=[M8]) same rfl rfl⟩ (al1 ⟨rfl,EA (c:=cI .i64) (v:=x2) (x:=x4) (z:=[(pI .i64 0)]) same rfl rfl⟩ al0)))
 obtain rfl:=C4 h;exact A9 Z Pq ⟨[(6,pN 0),(5,.vec 9500),(4,.vec 8500)],[(9500,.vec B4 1 x3.n (fun i=>cL 2 A0 (x3.g i)) true),(8500,.vec C7 1 x2.n (fun i=>cI .i64 (x2.g i)) true)]⟩ [8500,9500] (ids:=[(8500,8500),(9500,9500)]) ⟨rfl,rfl,rfl⟩
theorem WE {a:Law}{b:Sl Sm}{y:(Sl Int)×(Sl (Sl Sm))×Int}(h:Dm N a b=some y) :FunO S MG [.p (.agg (B5 a)),.p (vSl 2 A0 b)] [] (.tup [.vec 0,.vec 1,pN y.2.2]) ([.vec C7 1 y.1.n (fun i=>cI .i64 (y.1.g i)) true,.vec B4 1 y.2.1.n (fun i=>cL 2 A0 (y.2.1.g i)) true]) []:=by
 unfold Dm at h;refine A3 Z func154 ?_;refine kC Z h (WB Z Y) (fun y1 h=>?_);apply kI Z h<;>intro h
 .obtain rfl:=C4 h;exact A9 Z Pq ⟨[(6,pN y1),(5,.vec 6701),(4,.vec 5700)],[(6701,.vec B4 1 Sk.n (fun i=>cL 2 A0 (Sk.g i)) true),(5700,.vec C7 1 Sh.n (fun i=>cI .i64 (Sh.g i)) true)]⟩ [5700,6701] (ids:=[]) ⟨rfl,rfl,rfl⟩
 apply kI Z h<;>intro h
 .refine kC Z h (Am3 Z Y) (fun y2 h=>?_);obtain rfl:=C4 h;exact A9 Z Pq ⟨[(6,pN y2.2.2),(5,.vec 21001),(4,.vec 21000)],[(21001,.vec B4 1 y2.2.1.n (fun i=>cL 2 A0 (y2.2.1.g i)) true),(21000,.vec C7 1 y2.1.n (fun i=>cI .i64 (y2.1.g i)) true)]⟩ [21000,21001] (ids:=[(21000,21000),(21001,21001)]) ⟨rfl,rfl,rfl⟩
 apply kI Z h<;>intro h
 .refine kC Z h (WD Z Y) (fun y3 h=>?_);obtain rfl:=C4 h;exact A9 Z Pq ⟨[(6,pN y3.2.2),(5,.vec 29001),(4,.vec 29000)],[(29001,.vec B4 1 y3.2.1.n (fun i=>cL 2 A0 (y3.2.1.g i)) true),(29000,.vec C7 1 y3.1.n (fun i=>cI .i64 (y3.1.g i)) true)]⟩ [29000,29001] (ids:=[(29000,29000),(29001,29001)]) ⟨rfl,rfl,rfl⟩
 refine kC Z h (Ad5 Z Y) (fun y4 h=>?_);obtain rfl:=C4 h;exact A9 Z Pq ⟨[(6,pN y4.2.2),(5,.vec 35001),(4,.vec 35000)],[(35001,.vec B4 1 y4.2.1.n (fun i=>cL 2 A0 (y4.2.1.g i)) true),(35000,.vec C7 1 y4.1.n (fun i=>cI .i64 (y4.1.g i)) true)]⟩ [35000,35001] (ids:=[(35000,35000),(35001,35001)]) ⟨rfl,rfl,rfl⟩
theorem WF {b:Law}{a:Sl Sm}{y:(Sl Sm)×Int}(h:BZ N b a=some y) :FunO S MF [.p (.agg (B5 b)),.p (vSl 2 A0 a)] [] (.tup [.vec 0,pN y.2]) ([.vec B8 2 y.1.n (fun i=>A0 (y.1.g i)) true]) []:=by
 unfold BZ at h;refine A3 Z func138 ?_;refine kC Z h (WE Z Y) (fun y1 h=>?_);apply kI Z h<;>intro h
 .obtain rfl:=C4 h;exact A9 Z Pq ⟨[(5,pN y1.2.2),(4,.vec 5700)],[(5700,.vec B8 2 Si.n (fun i=>A0 (Si.g i)) true)]⟩ [5700] (ids:=[]) ⟨rfl,rfl,rfl⟩
 apply kI Z h<;>intro h
 .obtain⟨c3,h⟩:=D6 h;obtain rfl:=C4 h;exact A9 Z (And.intro Rp c3) ⟨[(5,pN 0),(4,.vec 25000)],[(25000,.vec B8 2 (Sj.app a).n (fun i=>A0 ((Sj.app a).g i)) true)]⟩ [25000] (ids:=[(25000,25000)]) ⟨rfl,rfl,rfl⟩ (hle:=klR [(1,.fn (0+a.n) (Sj.app a).n (T2 0 (D3 [pI .u32 0,pI .u32 0] []) (fun i=>A0 (a.g i))) (fun i=>A0 ((Sj.app a).g i)))] (al1 ⟨rfl,WC (c:=A0) (v:=Sj) (w:=a) (fun i d=>Pm d (by omega)) rfl same rfl⟩ al0))
 obtain⟨c4,h⟩:=D6 h;obtain rfl:=C4 h;exact A9 Z (And.intro (And.intro (And.intro Rp c4.1.1) c4.1.2) c4.2) ⟨[(5,pN 0),(4,.vec 33000)],[(33000,.vec B8 2 (Sj.app (y1.2.1.g (wrap .i64 ((y1.2.1.n:Int)-1)).toNat)).n (fun i=>A0 ((Sj.app (y1.2.1.g (wrap .i64 ((y1.2.1.n:Int)-1)).toNat)).g i)) true)]⟩ [33000] (ids:=[(33000,33000)]) ⟨rfl,rfl,rfl⟩ (hle:=klR [(1,.fn (0+(y1.2.1.g (wrap .i64 ((y1.2.1.n:Int)-1)).toNat).n) (Sj.app (y1.2.1.g (wrap .i64 ((y1.2.1.n:Int)-1)).toNat)).n (T2 0 (D3 [pI .u32 0,pI .u32 0] []) (fun i=>A0 ((y1.2.1.g (wrap .i64 ((y1.2.1.n:Int)-1)).toNat).g i))) (fun i=>A0 ((Sj.app (y1.2.1.g (wrap .i64 ((y1.2.1.n:Int)-1)).toNat)).g i)))] (al1 ⟨rfl,WC (c:=A0) (v:=Sj) (w:=y1.2.1.g (wrap .i64 ((y1.2.1.n:Int)-1)).toNat) (fun i d=>Pm d (by omega)) rfl same rfl⟩ al0))
theorem WG {a:Sl Law}{b:Sl Sm}{y:(Sl (Sl Sm))×Int}(h:Fm N a b=some y) :FunO S MB [.p (vSl 18 B5 a),.p (vSl 2 A0 b)] [] (.tup [.vec 0,pN y.2]) ([.vec B4 1 y.1.n (fun i=>cL 2 A0 (y.1.g i)) true]) []:=by
 unfold Fm at h;refine A3 Z func114 ?_;refine kC Z h (WA Z Y) (fun y1 h=>?_);refine EC Z Pq (A5 Z) h 0 (fun z1=>⟨[(6,pN z1),(1,.p (vSl 2 A0 b)),(0,.p (vSl 18 B5 a))],[]⟩) (fun M1 k1 d h=>?_) (fun z1 h=>?_)
 .apply kI Z h<;>intro h
  .refine kC Z h (Fk Z Y) (fun y3 h=>?_);exact d _ [] _ y3 Pq h
  exact d _ [] _ y1 Pq h
 apply kI Z h<;>intro h
 .obtain rfl:=C4 h;exact A9 Z Pq ⟨[(5,pN z1),(4,.vec 5700)],[(5700,.vec B4 1 Sk.n (fun i=>cL 2 A0 (Sk.g i)) true)]⟩ [5700] (ids:=[]) ⟨rfl,rfl,rfl⟩
 refine kC Z h (Ac8 Z Y) (fun y4 h=>?_);refine G9 Z Rp h (fun x2 x3=>⟨[(8,pN x3),(7,.vec 8500),(0,.p (vSl 18 B5 a))],[(8500,.vec B4 1 x2.n (fun i=>cL 2 A0 (x2.g i)) false)]⟩) (ids:=[(8500,23000)]) (fun _ _ _ _ _ f x2 x3 j h=>?_) (hle:=klR [(2,.fn 1 (Sl.of [y4]:Sl (Sl Sm)).n (D3 [M8] [(0,cL 2 A0 y4)]) (fun i=>cL 2 A0 ((Sl.of [y4]:Sl (Sl Sm)).g i)))] (al1 ⟨rfl,(fun i l=>match i,l with|0,_=>rfl|_+1,l=>Pm l (by omega))⟩ al0));apply kI Z h<;>intro h
 .refine E3 Z Pq [2,3] ?_;obtain⟨c12,h⟩:=D6 h;obtain⟨y7,e7,h⟩:=B9 h;refine Gq [] (And.intro (And.intro (And.intro c12.1.1 Rj) c12.1.2) c12.2) (WF Z Y e7) ?_;refine H3 Pq ?_;apply kI Z h<;>intro h
  .obtain rfl:=C4 h;exact A9 Z Pq ⟨[(5,pN y7.2),(4,.vec 5700)],[(5700,.vec B4 1 Sk.n (fun i=>cL 2 A0 (Sk.g i)) true)]⟩ [5700] (ids:=[]) ⟨rfl,rfl,rfl⟩
  obtain⟨c14,h⟩:=D6 h;exact j _ [(8500,48000)] _ (x2.push y7.1) (wrap .i64 (x3+1)) (And.intro Rp c14) h (hle:=klR [(2,.fn (x2.n+1) (x2.push y7.1).n (T2 x2.n (fun i=>cL 2 A0 (x2.g i)) (D3 [M8] [(0,cL 2 A0 y7.1)])) (fun i=>cL 2 A0 ((x2.push y7.1).g i)))] (al1 ⟨rfl,EA (c:=cL 2 A0) (v:=x2) (x:=y7.1) (z:=[M8]) same rfl rfl⟩ al0))
 obtain rfl:=C4 h;exact A9 Z Pq ⟨[(5,pN 0),(4,.vec 8500)],[(8500,.vec B4 1 x2.n (fun i=>cL 2 A0 (x2.g i)) true)]⟩ [8500] (ids:=[(8500,8500)]) ⟨rfl,rfl,rfl⟩
theorem TE {a:Sl Law}{b:Sl Sm}{y:(Sl Sm)×Int}(h:Bl N a b=some y) :FunO S Lb [.p (vSl 18 B5 a),.p (vSl 2 A0 b)] [] (.tup [.p (vSl 2 A0 y.1),pN y.2]) ([]) []:=by
 unfold Bl at h;refine A3 Z func84 ?_;refine kC Z h (WG Z Y) (fun y1 h=>?_);apply kI Z h<;>intro h
 .obtain rfl:=C4 h;exact A9 Z Pq ⟨[(5,pN y1.2),(4,.p (vSl 2 A0 Si))],[]⟩ [] (ids:=[]) ⟨rfl,rfl,rfl⟩
 obtain⟨c2,h⟩:=D6 h;obtain rfl:=C4 h;exact Am4 Z c2 [] ⟨rfl,rfl,rfl⟩
end Go.AM
namespace Go.AM
open Go.Proofs.Tryz
variable {N:Nat}
open IntKind (wrap)
open Go.Proofs
set_option maxRecDepth 10000
set_option maxHeartbeats 2000000
variable {S:U3}(Z:H2 S Tryz.prog) (Y:Ij S)
include Z Y
theorem TF {b:Int}{y:Bool}(h:Gs N b=some y) :FunO S Lc [.p (pI .u8 b)] [] (pB y) ([]) []:=by unfold Gs at h;refine A3 Z func93 ?_;refine kB Z (A5 Z) Pq Pq 23 (.o (.o (.o (.n (.a (decide (97<=b))) (.a (decide (b<=122)))) (.n (.a (decide (65<=b))) (.a (decide (b<=90))))) (.n (.a (decide (48<=b))) (.a (decide (b<=57))))) (.a (b==45))) ?_;cases h;exact kR Z
theorem Km {b:Str}{y:Bool}(h:Ca N b=some y) :FunO S PG [.p (.str b)] [] (pB y) ([]) []:=by
 unfold Ca at h;refine A3 Z func60 ?_;refine H0 Z Pq h (fun x1=>⟨[(3,pN x1),(0,.p (.str b))],[]⟩) (ids:=[]) (fun _ _ _ _ _ c x1 d h=>?_);apply kI Z h<;>intro h
 .obtain⟨c8,h⟩:=D6 h;obtain⟨y3,e3,h⟩:=B9 h;refine C6 Z [] c8 (TF Z Y e3) ?_;apply kI Z h<;>intro h
  .cases h;exact kR Z
  exact d _ [] _ (wrap .i64 (x1+1)) Pq h
 refine kB Z (A5 Z) Pq Pq 4 (.n (.a (decide (1<=(b.length:Int)))) (.a (decide ((b.length:Int)<=24)))) ?_;cases h;exact kR Z
theorem Im {c:Sl J4}{y:Int}(h:Y5 N c=some y) :FunO S My [.p (vSl 2 G5 c)] [] (pN y) ([]) []:=by
 unfold Y5 at h;refine A3 Z func89 ?_;obtain⟨c1,h⟩:=D6 h;refine kB Z (A5 Z) Pq c1 11 (.o (.o (.a (decide ((c.n:Int)<1))) (.a (decide (63<(c.n:Int))))) (.a ((c.g 0).Parent != (-1)))) ?_;apply kI Z h<;>intro h
 .cases h;exact kR Z
 refine H0 Z Pq h (fun x3=>⟨[(3,pN x3),(0,.p (vSl 2 G5 c))],[]⟩) (ids:=[]) (fun _ _ _ _ _ f x3 i h=>?_);apply kI Z h<;>intro h
 .refine EC Z Pq (A5 Z) h 0 (fun z3=>⟨[(53,pB z3),(3,pN x3),(0,.p (vSl 2 G5 c))],[]⟩) (fun M3 k3 d h=>?_) (fun z3 h=>?_)
  .refine kG Z h (fun h=>?_) (fun h=>?_)
   .obtain⟨c71,h⟩:=D6 h;refine Ek Z c71 (b:=decide ((c.g x3.toNat).Parent<0)) (fun c72=>?_) (fun c72=>?_)
    .replace h:=itT c72 h;exact d _ [] _ true Pq h
    replace h:=itF c72 h;obtain⟨c73,h⟩:=D6 h;refine Ek Z c73 (b:=decide (x3<=(c.g x3.toNat).Parent)) (fun c74=>?_) (fun c74=>?_)
    .replace h:=itT c74 h;exact d _ [] _ true Pq h
    replace h:=itF c74 h;obtain⟨c75,h⟩:=D6 h;obtain⟨j,e11,h⟩:=B9 h;refine C6 Z [] c75 (Km Z Y e11) ?_;exact d _ [] _ (!j) Pq h
   obtain⟨c76,h⟩:=D6 h;obtain⟨l,e12,h⟩:=B9 h;refine C6 Z [] c76 (Km Z Y e12) ?_;exact d _ [] _ (!l) Pq h
  apply kI Z h<;>intro h
  .cases h;exact kR Z
  refine H0 Z Pq h (fun x7=>⟨[(4,pN x7),(3,pN x3),(0,.p (vSl 2 G5 c))],[]⟩) (ids:=[]) (fun _ _ _ _ _ m x7 q h=>?_);apply kI Z h<;>intro h
  .refine E3 Z Pq [2,4,7,9] ?_;obtain⟨c85,h⟩:=D6 h;refine H3 c85 ?_;apply kI Z h<;>intro h
   .cases h;exact kR Z
   exact q _ [] _ (wrap .i64 (x7+1)) Pq h
  exact i _ [] _ (wrap .i64 (x3+1)) Pq h
 cases h;exact kR Z
theorem WH {rec:A6->Int->Option (Sl Int)}(d:∀{a:A6}{b:Int}{y:Sl Int},rec a b=some y->FunO S Hf [.p (.agg (A7 a)),pN b] [] (.vec 0) ([.vec C7 1 y.n (fun i=>cI .i64 (y.g i)) true]) []){a:A6}{b:Int}{y:Sl Int}(h:Y6 rec N a b=some y) :FunO S Hf [.p (.agg (A7 a)),pN b] [] (.vec 0) ([.vec C7 1 y.n (fun i=>cI .i64 (y.g i)) true]) []:=by
 unfold Y6 at h;refine A3 Z func91 ?_;refine G4 Z Pq 4 3000 (A7 a) ?_;apply kI Z h<;>intro h
 .obtain rfl:=C4 h;exact A9 Z Pq ⟨[(4,.vec 5700)],[(5700,.vec C7 1 Sh.n (fun i=>cI .i64 (Sh.g i)) true)]⟩ [5700] (ids:=[]) ⟨rfl,rfl,rfl⟩
 refine E3 Z Pq [0,2,4,6,9,11,12] ?_;obtain⟨c2,h⟩:=D6 h;obtain⟨y1,e1,h⟩:=B9 h;refine Gq [] (And.intro Rg c2) (d e1) ?_;obtain⟨c3,h⟩:=D6 h;refine H3 c3 ?_;obtain rfl:=C4 h;exact A9 Z Pq ⟨[(4,.vec 21000)],[(21000,.vec C7 1 (y1.app (a.On.g b.toNat)).n (fun i=>cI .i64 ((y1.app (a.On.g b.toNat)).g i)) true)]⟩ [21000] (ids:=[(21000,21000)]) ⟨rfl,rfl,rfl⟩ (hle:=klR [(0,.fn (y1.n+(a.On.g b.toNat).n) (y1.app (a.On.g b.toNat)).n (T2 y1.n (fun i=>cI .i64 (y1.g i)) (fun i=>cI .i64 ((a.On.g b.toNat).g i))) (fun i=>cI .i64 ((y1.app (a.On.g b.toNat)).g i)))] (al1 ⟨rfl,WC (c:=cI .i64) (v:=y1) (w:=a.On.g b.toNat) same rfl same rfl⟩ al0))
theorem Ad6 {a:A6}{b:Int}{y:Sl Int}(h:Cb N a b=some y) :FunO S Hf [.p (.agg (A7 a)),pN b] [] (.vec 0) ([.vec C7 1 y.n (fun i=>cI .i64 (y.g i)) true]) []:=by
 induction N generalizing a b y with
 |zero=>cases (show (none:Option (Sl Int))=some y from h)
 |succ N ih=>exact WH Z Y (fun e=>ih e) h
theorem WI {a:A6}{y:Int}(h:Cc N a=some y) :FunO S Mu [.p (.agg (A7 a))] [] (pN y) ([]) []:=by
 unfold Cc at h;refine A3 Z func57 ?_;refine G4 Z Pq 2 2000 (A7 a) ?_;refine kC Z h (Im Z Y) (fun y1 h=>?_);apply kI Z h<;>intro h
 .cases h;exact kR Z
 apply kI Z h<;>intro h
 .cases h;exact kR Z
 refine H0 Z Pq h (fun x1=>⟨[(3,pN x1),(1,.p (.ptr (A7 a)))],[]⟩) (ids:=[]) (fun _ _ _ _ _ i x1 j h=>?_);apply kI Z h<;>intro h
 .obtain⟨c10,h⟩:=D6 h;obtain⟨y4,e4,h⟩:=B9 h;refine C6 Z [] (And.intro c10 Rj) (Il Z Y e4) ?_;apply kI Z h<;>intro h
  .cases h;exact kR Z
  exact j _ [] _ (wrap .i64 (x1+1)) Pq h
 refine H0 Z Pq h (fun x3=>⟨[(4,pN x3),(1,.p (.ptr (A7 a)))],[]⟩) (ids:=[]) (fun _ _ _ _ _ l x3 m h=>?_);apply kI Z h<;>intro h
 .refine H0 Z Pq h (fun x5=>⟨[(5,pN x5),(4,pN x3),(1,.p (.ptr (A7 a)))],[]⟩) (ids:=[]) (fun _ _ _ _ _ o x5 q h=>?_);apply kI Z h<;>intro h
  .refine E3 Z Pq [1,3,5,7,9,11] ?_;obtain⟨c40,h⟩:=D6 h;refine H3 c40 ?_;apply kI Z h<;>intro h
   .cases h;exact kR Z
   exact q _ [] _ (wrap .i64 (x5+1)) Pq h
  exact m _ [] _ (wrap .i64 (x3+1)) Pq h
 apply kI Z h<;>intro h
 .cases h;exact kR Z
 refine H0 Z Pq h (fun x6=>⟨[(6,pN x6),(1,.p (.ptr (A7 a)))],[]⟩) (ids:=[]) (fun _ _ _ _ _ r x6 s h=>?_);apply kI Z h<;>intro h
 .obtain⟨y7,e7,h⟩:=B9 h;refine C6 Z [] Rg (Ad6 Z Y e7) ?_;apply kI Z h<;>intro h
  .cases h;exact kR Z
  exact s _ [] _ (wrap .i64 (x6+1)) Pq h
 refine H0 Z Pq h (fun x8=>⟨[(7,pN x8),(1,.p (.ptr (A7 a)))],[]⟩) (ids:=[]) (fun _ _ _ _ _ t x8 u h=>?_);apply kI Z h<;>intro h
 .refine H0 Z Pq h (fun c=>⟨[(8,pN c),(7,pN x8),(1,.p (.ptr (A7 a)))],[]⟩) (ids:=[]) (fun _ _ _ _ _ f c d h=>?_);obtain⟨c100,h⟩:=D6 h;refine D4 Z c100 (b:=decide (c<((a.On.g x8.toNat).n:Int))) (fun c101=>?_) (fun c101=>?_)
  .replace h:=itT c101 h;refine E3 Z Pq [1,3,4,6,7,11,13,14,16,17,19] ?_;obtain⟨c102,h⟩:=D6 h;refine Ms c102 (b:=decide (((a.On.g x8.toNat).g c.toNat)<0)) (fun c103=>?_) (fun c103=>?_)
   .replace h:=itT c103 h;refine H3 Pq ?_;cases h;exact kR Z
   replace h:=itF c103 h;obtain⟨c104,h⟩:=D6 h;refine H3 c104 ?_;apply kI Z h<;>intro h
   .cases h;exact kR Z
   exact d _ [] _ (wrap .i64 (c+1)) Pq h
  replace h:=itF c101 h;exact u _ [] _ (wrap .i64 (x8+1)) Pq h
 cases h;exact kR Z
end Go.AM
namespace Go.AM
open IntKind (wrap)
open Go.Proofs
set_option maxRecDepth 10000
set_option maxHeartbeats 2000000
variable {S:U3}(Z:H2 S Tryz.prog) (Y:Ij S)
include Z Y
theorem OT {N:Nat}{a:Sl J4}{d:Int}{y:Sl Int}(h:AL N a d=some y) :FunO S HJ [.p (vSl 2 G5 a),pN d] [] (.vec 0) ([.vec C7 1 y.n (fun i=>cI .i64 (y.g i)) true]) []:=by
 unfold AL at h;refine A3 Z Tryz.func92 ?_;refine G9 Z Pq h (fun x1 x2=>⟨[(6,pN x2),(5,.vec 6500),(1,pN d),(0,.p (vSl 2 G5 a))],[(6500,.vec C7 1 x1.n (fun i=>cI .i64 (x1.g i)) false)]⟩) (ids:=[]) (fun _ _ _ _ _ j x1 x2 f h=>?_);apply kI Z h<;>intro h
 .obtain⟨c8,h⟩:=D6 h;refine D4 Z c8 (b:=(a.g x2.toNat).Parent==d) (fun c9=>?_) (fun c9=>?_)
  .replace h:=itT c9 h;obtain⟨c10,h⟩:=D6 h;exact f _ [(6500,24000)] _ (x1.push x2) (wrap .i64 (x2+1)) (And.intro Rp c10) h (hle:=klR [(3,.fn (x1.n+1) (x1.push x2).n (T2 x1.n (fun i=>cI .i64 (x1.g i)) (D3 [pI .i64 0] [(0,cI .i64 x2)])) (fun i=>cI .i64 ((x1.push x2).g i)))] (al1 ⟨rfl,EA (c:=cI .i64) (v:=x1) (x:=x2) (z:=[(pI .i64 0)]) same rfl rfl⟩ al0))
  replace h:=itF c9 h;exact f _ [(6500,6500)] _ x1 (wrap .i64 (x2+1)) Pq h
 obtain rfl:=C4 h;exact A9 Z Pq ⟨[(4,.vec 6500)],[(6500,.vec C7 1 x1.n (fun i=>cI .i64 (x1.g i)) true)]⟩ [6500] (ids:=[(6500,6500)]) ⟨rfl,rfl,rfl⟩
theorem DR {N:Nat}{a:Sl J4}{y:(Sl Int)×Int}(h:R8 N a=some y) :FunO S La [.p (vSl 2 G5 a)] [] (.tup [.vec 0,pN y.2]) ([.vec C7 1 y.1.n (fun i=>cI .i64 (y.1.g i)) true]) []:=by
 unfold R8 at h;refine A3 Z Tryz.func58 ?_;refine kC Z h (Im Z Y) (fun y1 h=>?_);apply kI Z h<;>intro h
 .obtain rfl:=C4 h;exact A9 Z Pq ⟨[(3,pN y1),(2,.vec 3700)],[(3700,.vec C7 1 Sh.n (fun i=>cI .i64 (Sh.g i)) true)]⟩ [3700] (ids:=[]) ⟨rfl,rfl,rfl⟩
 refine G9 Z Pq h (fun x1 x2=>⟨[(6,pN x2),(5,.vec 6500),(0,.p (vSl 2 G5 a))],[(6500,.vec C7 1 x1.n (fun i=>cI .i64 (x1.g i)) false)]⟩) (ids:=[]) (fun _ _ _ _ _ d x1 x2 b h=>?_);apply kI Z h<;>intro h
 .refine kC Z h (OT Z Y) (fun y4 h=>?_);apply kI Z h<;>intro h
  .obtain⟨c8,h⟩:=D6 h;exact b _ [(6500,27000)] _ (x1.push x2) (wrap .i64 (x2+1)) (And.intro Rp c8) h (hle:=klR [(2,.fn (x1.n+1) (x1.push x2).n (T2 x1.n (fun i=>cI .i64 (x1.g i)) (D3 [pI .i64 0] [(0,cI .i64 x2)])) (fun i=>cI .i64 ((x1.push x2).g i)))] (al1 ⟨rfl,EA (c:=cI .i64) (v:=x1) (x:=x2) (z:=[(pI .i64 0)]) same rfl rfl⟩ al0))
  exact b _ [(6500,6500)] _ x1 (wrap .i64 (x2+1)) Pq h
 obtain rfl:=C4 h;exact A9 Z Pq ⟨[(3,pN 0),(2,.vec 6500)],[(6500,.vec C7 1 x1.n (fun i=>cI .i64 (x1.g i)) true)]⟩ [6500] (ids:=[(6500,6500)]) ⟨rfl,rfl,rfl⟩
end Go.AM
namespace Go.AM
open Go.Proofs.Tryz
variable {N:Nat}
open IntKind (wrap)
open Go.Proofs
set_option maxRecDepth 10000
set_option maxHeartbeats 2000000
variable {S:U3}(Z:H2 S Tryz.prog) (Y:Ij S)
include Z Y
theorem Ad7 {c:Sl J4}{b:Int}{y:Int}(h:Hh N c b=some y) :FunO S PM [.p (vSl 2 G5 c),pN b] [] (pN y) ([]) []:=by
 unfold Hh at h;refine A3 Z func139 ?_;refine kC Z h (Im Z Y) (fun y1 h=>?_);refine kB Z (A5 Z) Pq Pq 9 (.n (.a (y1==0)) (.o (.a (decide (b<0))) (.a (decide ((c.n:Int)<=b))))) ?_;apply kI Z h<;>intro h
 .cases h;exact kR Z
 cases h;exact kR Z
theorem Ad8 {a:Sl J4}{b:Int}{y:Sl Int}(h:EG N a b=some y) :FunO S Hi [.p (vSl 2 G5 a),pN b] [] (.vec 0) ([.vec C7 1 y.n (fun i=>cI .i64 (y.g i)) true]) []:=by
 induction N generalizing a b y with
 |zero=>cases (show (none:Option (Sl Int))=some y from h)
 |succ N ih=>exact WJ Z Y (fun e=>ih e) h
theorem Ad9 {a:Sl J4}{b:Int}{y:(Sl Int)×Int}(h:EH N a b=some y) :FunO S PI [.p (vSl 2 G5 a),pN b] [] (.tup [.vec 0,pN y.2]) ([.vec C7 1 y.1.n (fun i=>cI .i64 (y.1.g i)) true]) []:=by
 unfold EH at h;refine A3 Z func115 ?_;refine kC Z h (Ad7 Z Y) (fun y1 h=>?_);apply kI Z h<;>intro h
 .obtain rfl:=C4 h;exact A9 Z Pq ⟨[(5,pN y1),(4,.vec 5700)],[(5700,.vec C7 1 Sh.n (fun i=>cI .i64 (Sh.g i)) true)]⟩ [5700] (ids:=[]) ⟨rfl,rfl,rfl⟩
 refine kC Z h (Ad8 Z Y) (fun y2 h=>?_);obtain rfl:=C4 h;exact A9 Z Pq ⟨[(5,pN 0),(4,.vec 16000)],[(16000,.vec C7 1 y2.n (fun i=>cI .i64 (y2.g i)) true)]⟩ [16000] (ids:=[(16000,16000)]) ⟨rfl,rfl,rfl⟩
theorem MR {b:Sl F0}{y:Bool}(h:Bi N b=some y) :FunO S Mv [.p (vSl 2 C0 b)] [] (pB y) ([]) []:=by
 unfold Bi at h;refine A3 Z func59 ?_;refine H0 Z Pq h (fun x1=>⟨[(3,pN x1),(0,.p (vSl 2 C0 b))],[]⟩) (ids:=[]) (fun _ _ _ _ _ c x1 d h=>?_);apply kI Z h<;>intro h
 .obtain⟨c10,h⟩:=D6 h;obtain⟨c11,h⟩:=D6 h;refine kB Z (A5 Z) c10 c11 8 (.n (.a (!(b.g x1.toNat).Has)) (.a (decide (0<((b.g x1.toNat).W.n:Int))))) ?_;apply kI Z h<;>intro h
  .cases h;exact kR Z
  exact d _ [] _ (wrap .i64 (x1+1)) Pq h
 cases h;exact kR Z
theorem MS {a:Sl F0}{y:Int}(h:Y7 N a=some y) :FunO S Mw [.p (vSl 2 C0 a)] [] (pN y) ([]) []:=by
 unfold Y7 at h;refine A3 Z func61 ?_;refine H0 Z Pq h (fun x1=>⟨[(3,pN x1),(0,.p (vSl 2 C0 a))],[]⟩) (ids:=[]) (fun _ _ _ _ _ b x1 c h=>?_);apply kI Z h<;>intro h
 .obtain⟨c8,h⟩:=D6 h;obtain⟨y3,e3,h⟩:=B9 h;refine C6 Z [] c8 (Fk Z Y e3) ?_;apply kI Z h<;>intro h
  .cases h;exact kR Z
  exact c _ [] _ (wrap .i64 (x1+1)) Pq h
 cases h;exact kR Z
theorem WK {d:A6}{b:Sl F0}{c:Sl Entry}{y:Int}(h:Dn N d b c=some y) :FunO S Mt [.p (.agg (A7 d)),.p (vSl 2 C0 b),.p (vSl 2 B2 c)] [] (pN y) ([]) []:=by
 unfold Dn at h;refine A3 Z func22 ?_;refine kC Z h (WI Z Y) (fun y1 h=>?_);apply kI Z h<;>intro h
 .cases h;exact kR Z
 apply kI Z h<;>intro h
 .cases h;exact kR Z
 refine kC Z h (DR Z Y) (fun y2 h=>?_);refine EC Z Pq (A5 Z) h 0 (fun z1=>⟨[(36,pB z1),(8,.vec 25000),(2,.p (vSl 2 B2 c)),(1,.p (vSl 2 C0 b))],[(25000,.vec C7 1 y2.1.n (fun i=>cI .i64 (y2.1.g i)) true)]⟩) (fun M1 k1 f h=>?_) (fun z1 h=>?_)
 .refine kG Z h (fun h=>?_) (fun h=>?_)
  .exact f _ [(25000,25000)] _ true Pq h
  refine kC Z h (MR Z Y) (fun y4 h=>?_);exact f _ [(25000,25000)] _ (!y4) Pq h
 apply kI Z h<;>intro h
 .cases h;exact kR Z
 refine H0 Z Pq h (fun x3=>⟨[(10,pN x3),(8,.vec 25000),(2,.p (vSl 2 B2 c)),(1,.p (vSl 2 C0 b))],[(25000,.vec C7 1 y2.1.n (fun i=>cI .i64 (y2.1.g i)) true)]⟩) (ids:=[(25000,25000)]) (fun _ _ _ _ _ l x3 m h=>?_);apply kI Z h<;>intro h
 .obtain⟨c24,h⟩:=D6 h;refine EC Z c24 (A5 Z) h 0 (fun z4=>⟨[(60,pB z4),(10,pN x3),(8,.vec 25000),(2,.p (vSl 2 B2 c)),(1,.p (vSl 2 C0 b))],[(25000,.vec C7 1 y2.1.n (fun i=>cI .i64 (y2.1.g i)) true)]⟩) (fun M4 k4 j h=>?_) (fun z4 h=>?_)
  .refine kG Z h (fun h=>?_) (fun h=>?_)
   .exact j _ [(25000,25000)] _ true Pq h
   obtain⟨c29,h⟩:=D6 h;obtain⟨o,e10,h⟩:=B9 h;refine C6 Z [] c29 (MR Z Y e10) ?_;exact j _ [(25000,25000)] _ (!o) Pq h
  apply kI Z h<;>intro h
  .cases h;exact kR Z
  exact m _ [(25000,25000)] _ (wrap .i64 (x3+1)) Pq h
 refine H0 Z Pq h (fun x6=>⟨[(11,pN x6),(2,.p (vSl 2 B2 c)),(1,.p (vSl 2 C0 b))],[]⟩) (ids:=[]) (fun _ _ _ _ _ q x6 r h=>?_);apply kI Z h<;>intro h
 .obtain⟨c38,h⟩:=D6 h;obtain⟨v,e13,h⟩:=B9 h;refine C6 Z [] c38 (Km Z Y e13) ?_;apply kI Z h<;>intro h
  .cases h;exact kR Z
  exact r _ [] _ (wrap .i64 (x6+1)) Pq h
 refine kC Z h (MS Z Y) (fun w h=>?_);refine G9 Z Pq h (fun x7 x8=>⟨[(12,pN x8),(7,pN x7),(2,.p (vSl 2 B2 c))],[]⟩) (ids:=[]) (fun _ _ _ _ _ s x7 x8 t h=>?_);refine kB Z (A5 Z) Pq Pq 3 (.n (.a (decide (x8<(c.n:Int)))) (.a (x7==0))) ?_;apply kI Z h<;>intro h
 .obtain⟨c45,h⟩:=D6 h;obtain⟨u,e17,h⟩:=B9 h;refine C6 Z [] c45 (MS Z Y e17) ?_;exact t _ [] _ u (wrap .i64 (x8+1)) Pq h
 cases h;exact kR Z
theorem Ae0 {d:A6}{f:Int}{a:Int}{y:Sl Law}(h:EI N d f a=some y) :FunO S PH [.p (.agg (A7 d)),pN f,pN a] [] (.vec 0) ([.vec K8 18 y.n (fun i=>B5 (y.g i)) true]) []:=by
 unfold EI at h;refine A3 Z func85 ?_;refine G4 Z Pq 6 4000 (A7 d) ?_;refine kC Z h (Ad9 Z Y) (fun y1 h=>?_);refine G9 Z Pq h (fun x3 x4=>⟨[(10,pN x4),(9,.vec 10501),(7,.vec 18000),(3,.p (.ptr (A7 d))),(2,pN a)],[(18000,.vec C7 1 y1.1.n (fun i=>cI .i64 (y1.1.g i)) true),(10501,.vec K8 18 x3.n (fun i=>B5 (x3.g i)) false)]⟩) (ids:=[(18000,18000)]) (fun _ _ _ _ _ l x3 x4 m h=>?_);apply kI Z h<;>intro h
 .refine E3 Z Pq [1,6,7] ?_;obtain⟨c36,h⟩:=D6 h;refine H3 c36 ?_;refine G9 Z Pq h (fun x7 x8=>⟨[(12,pN x8),(11,.p (vSl 1 (cI .i64) (d.On.g (y1.1.g x4.toNat).toNat))),(10,pN x4),(9,.vec 10502),(7,.vec 18000),(3,.p (.ptr (A7 d))),(2,pN a)],[(18000,.vec C7 1 y1.1.n (fun i=>cI .i64 (y1.1.g i)) true),(10502,.vec K8 18 x7.n (fun i=>B5 (x7.g i)) false)]⟩) (ids:=[(10502,10501),(18000,18000)]) (fun _ _ _ _ _ o x7 x8 j h=>?_);apply kI Z h<;>intro h
  .obtain⟨c48,h⟩:=D6 h;refine D4 Z c48 (b:=((d.On.g (y1.1.g x4.toNat).toNat).g x8.toNat) != a) (fun c49=>?_) (fun c49=>?_)
   .replace h:=itT c49 h;refine E3 Z Pq [2,5,6,7,8] ?_;obtain⟨c50,h⟩:=D6 h;refine Y8 (And.intro (And.intro c50.1 c50.2) Rj) (x:=.sl true 18 1 (D3 [.str [],pI .i64 0,pI .u32 0,pI .u32 0,.v (.bool false),pI .i64 0,pI .i64 0,M8,pI .i64 0,pI .u32 0,pI .u32 0,.v (.bool false),pI .i64 0,pI .i64 0,M8,M8,M8,pI .i64 0] [(0,B5 (d.Laws.g ((d.On.g (y1.1.g x4.toNat).toNat).g x8.toNat).toNat))])) ?_;obtain⟨c51,h⟩:=D6 h;refine H3 c51 ?_;exact j _ [(10502,57000),(18000,18000)] _ (x7.push (d.Laws.g ((d.On.g (y1.1.g x4.toNat).toNat).g x8.toNat).toNat)) (wrap .i64 (x8+1)) Pq h (hle:=klR [(6,.fn (x7.n+1) (x7.push (d.Laws.g ((d.On.g (y1.1.g x4.toNat).toNat).g x8.toNat).toNat)).n (T2 x7.n (fun i=>B5 (x7.g i)) (D3 [.str [],pI .i64 0,pI .u32 0,pI .u32 0,.v (.bool false),pI .i64 0,pI .i64 0,M8,pI .i64 0,pI .u32 0,pI .u32 0,.v (.bool false),pI .i64 0,pI .i64 0,M8,M8,M8,pI .i64 0] [(0,B5 (d.Laws.g ((d.On.g (y1.1.g x4.toNat).toNat).g x8.toNat).toNat))])) (fun i=>B5 ((x7.push (d.Laws.g ((d.On.g (y1.1.g x4.toNat).toNat).g x8.toNat).toNat)).g i)))] (al1 ⟨rfl,EA (c:=B5) (v:=x7) (x:=d.Laws.g ((d.On.g (y1.1.g x4.toNat).toNat).g x8.toNat).toNat) (z:=[(.str []),pI .i64 0,pI .u32 0,pI .u32 0,.v (.bool false),pI .i64 0,pI .i64 0,M8,pI .i64 0,pI .u32 0,pI .u32 0,.v (.bool false),pI .i64 0,pI .i64 0,M8,M8,M8,pI .i64 0]) same rfl rfl⟩ al0))
   replace h:=itF c49 h;exact j _ [(10502,10502),(18000,18000)] _ x7 (wrap .i64 (x8+1)) Pq h
  exact m _ [(10501,10502),(18000,18000)] _ x7 (wrap .i64 (x4+1)) Pq h
 obtain rfl:=C4 h;exact A9 Z Pq ⟨[(6,.vec 10501)],[(10501,.vec K8 18 x3.n (fun i=>B5 (x3.g i)) true)]⟩ [10501] (ids:=[(10501,10501)]) ⟨rfl,rfl,rfl⟩
theorem IW {d:A6}{a:F0}{c:Int}{b:Int}{y:F0}(h:Ae N d a c b=some y) :FunO S IQ [.p (.agg (A7 d)),.p (.agg (C0 a)),pN c,pN b] [] (.p (.agg (C0 y))) ([]) []:=by
 unfold Ae at h;refine A3 Z func52 ?_;refine G4 Z Pq 5 5000 (A7 d) ?_;refine G4 Z Pq 8 6000 [.bb a.Has,vSl 2 A0 a.W] ?_;apply kI Z h<;>intro h
 .obtain rfl:=C4 h;exact A9 Z Pq ⟨[(8,.reg 9000 0)],[(9000,.cells [pB false,.p (vSl 2 A0 Si)])]⟩ [] (ids:=[(9000,9000)]) ⟨rfl,rfl,rfl⟩
 refine kC Z h (DR Z Y) (fun y1 h=>?_);refine E3 Z Pq [0,8] ?_;obtain⟨c2,h⟩:=D6 h;obtain⟨y2,e2,h⟩:=B9 h;refine Gq [] (And.intro (And.intro Rg c2.1) c2.2) (Ae0 Z Y e2) ?_;obtain⟨y3,e3,h⟩:=B9 h;refine Gq [] Pq (TE Z Y e3) ?_;refine H3 Pq ?_;apply kI Z h<;>intro h
 .obtain rfl:=C4 h;exact A9 Z Pq ⟨[(8,.reg 9000 0)],[(9000,.cells [pB false,.p (vSl 2 A0 Si)])]⟩ [] (ids:=[(9000,9000)]) ⟨rfl,rfl,rfl⟩
 cases h;exact kR Z
theorem Rl {d:A6}{b:F0}{c:Int}{f:F0}{a:Int}{y:Bool}(h:Bw N d b c f a=some y) :FunO S IP [.p (.agg (A7 d)),.p (.agg (C0 b)),pN c,.p (.agg (C0 f)),pN a] [] (pB y) ([]) []:=by
 unfold Bw at h;refine A3 Z func51 ?_;refine kC Z h (IW Z Y) (fun y1 h=>?_);refine EC Z Pq (A5 Z) h 0 (fun z1=>⟨[(10,pB z1)],[]⟩) (fun M1 k1 g h=>?_) (fun z1 h=>?_)
 .refine kG Z h (fun h=>?_) (fun h=>?_)
  .refine kC Z h (WL Z Y) (fun y3 h=>?_);exact g _ [] _ y3 Pq h
  exact g _ [] _ false Pq h
 cases h;exact kR Z
theorem TG {l:A6}{f:Sl F0}{j:Sl Entry}{d:Int}{y:(Sl A1)×Int}(h:AN N l f j d=some y) :FunO S To [.p (.agg (A7 l)),.p (vSl 2 C0 f),.p (vSl 2 B2 j),pN d] [] (.tup [.vec 0,pN y.2]) ([.vec B1 4 y.1.n (fun i=>A4 (y.1.g i)) true]) []:=by
 unfold AN at h;refine A3 Z func18 ?_;refine G4 Z Pq 8 5000 (A7 l) ?_;obtain⟨y1,e1,h⟩:=B9 h;refine C6 Z [] Rg (WK Z Y e1) ?_;apply kI Z h<;>intro h
 .obtain rfl:=C4 h;exact A9 Z Pq ⟨[(9,pN y1),(8,.vec 9700)],[(9700,.vec B1 4 (Sl.nil:Sl A1).n (fun i=>A4 ((Sl.nil:Sl A1).g i)) true)]⟩ [9700] (ids:=[]) ⟨rfl,rfl,rfl⟩
 refine kB Z (A5 Z) Pq Pq 3 (.o (.a (decide (d<0))) (.a (decide (1073741824<d)))) ?_;apply kI Z h<;>intro h
 .obtain rfl:=C4 h;exact A9 Z Pq ⟨[(9,pN 2),(8,.vec 9700)],[(9700,.vec B1 4 (Sl.nil:Sl A1).n (fun i=>A4 ((Sl.nil:Sl A1).g i)) true)]⟩ [9700] (ids:=[]) ⟨rfl,rfl,rfl⟩
 refine G9 Z Pq h (fun x3 x4=>⟨[(12,pN x4),(11,.vec 12501),(4,.p (.ptr (A7 l))),(3,pN d),(2,.p (vSl 2 B2 j)),(1,.p (vSl 2 C0 f))],[(12501,.vec B1 4 x3.n (fun i=>A4 (x3.g i)) false)]⟩) (ids:=[]) (fun _ _ _ _ _ q x3 x4 r h=>?_);apply kI Z h<;>intro h
 .refine G9 Z Pq h (fun x7 x8=>⟨[(13,pN x8),(12,pN x4),(11,.vec 12502),(4,.p (.ptr (A7 l))),(3,pN d),(2,.p (vSl 2 B2 j)),(1,.p (vSl 2 C0 f))],[(12502,.vec B1 4 x7.n (fun i=>A4 (x7.g i)) false)]⟩) (ids:=[(12502,12501)]) (fun _ _ _ _ _ s x7 x8 m h=>?_);obtain⟨c74,h⟩:=D6 h;refine D4 Z c74 (b:=decide (x8<((j.g x4.toNat).Forms.n:Int))) (fun c75=>?_) (fun c75=>?_)
  .replace h:=itT c75 h;obtain⟨c76,h⟩:=D6 h;refine AB0 Z (And.intro (And.intro c76.1 c76.2) Q6) 15000 [.bb ((j.g x4.toNat).Forms.g x8.toNat).Has,vSl 2 A0 ((j.g x4.toNat).Forms.g x8.toNat).W] ?_;refine E3 Z Pq [1,4,7,8,10,11] ?_;refine Ms Pq (b:=!((j.g x4.toNat).Forms.g x8.toNat).Has) (fun c77=>?_) (fun c77=>?_)
   .replace h:=itT c77 h;refine H3 Pq ?_;exact m _ [(12502,12502)] _ x7 (wrap .i64 (x8+1)) Pq h
   replace h:=itF c77 h;obtain⟨c78,h⟩:=D6 h;obtain⟨t,e18,h⟩:=B9 h;refine K7 (And.intro (And.intro (And.intro Rg c78) Q6) Q6) (Rl Z Y e18) ?_;refine H3 Pq ?_;apply kI Z h<;>intro h
   .exact m _ [(12502,12502)] _ x7 (wrap .i64 (x8+1)) Pq h
   refine E3 Z Pq [0,3,4,6] ?_;obtain⟨c80,h⟩:=D6 h;obtain⟨u,e19,h⟩:=B9 h;refine K7 (And.intro (And.intro Rg c80) Q6) (IW Z Y e19) ?_;refine H3 Pq ?_;apply kI Z h<;>intro h
   .obtain⟨c82,h⟩:=D6 h;exact m _ [(12502,83000)] _ (x7.push (⟨x4,x8,2,d⟩:A1)) (wrap .i64 (x8+1)) (And.intro Rp c82) h (hle:=klR [(6,.fn (x7.n+1) (x7.push (⟨x4,x8,2,d⟩:A1)).n (T2 x7.n (fun i=>A4 (x7.g i)) (D3 [pI .i64 0,pI .i64 0,pI .i64 0,pI .i64 0] [(0,A4 (⟨x4,x8,2,d⟩:A1))])) (fun i=>A4 ((x7.push (⟨x4,x8,2,d⟩:A1)).g i)))] (al1 ⟨rfl,EA (c:=A4) (v:=x7) (x:=(⟨x4,x8,2,d⟩:A1)) (z:=[(pI .i64 0),pI .i64 0,pI .i64 0,pI .i64 0]) same rfl rfl⟩ al0))
   obtain⟨c83,h⟩:=D6 h;exact m _ [(12502,83000)] _ (x7.push (⟨x4,x8,1,d⟩:A1)) (wrap .i64 (x8+1)) (And.intro Rp c83) h (hle:=klR [(6,.fn (x7.n+1) (x7.push (⟨x4,x8,1,d⟩:A1)).n (T2 x7.n (fun i=>A4 (x7.g i)) (D3 [pI .i64 0,pI .i64 0,pI .i64 0,pI .i64 0] [(0,A4 (⟨x4,x8,1,d⟩:A1))])) (fun i=>A4 ((x7.push (⟨x4,x8,1,d⟩:A1)).g i)))] (al1 ⟨rfl,EA (c:=A4) (v:=x7) (x:=(⟨x4,x8,1,d⟩:A1)) (z:=[(pI .i64 0),pI .i64 0,pI .i64 0,pI .i64 0]) same rfl rfl⟩ al0))
  replace h:=itF c75 h;exact r _ [(12501,12502)] _ x7 (wrap .i64 (x4+1)) Pq h
 obtain rfl:=C4 h;exact A9 Z Pq ⟨[(9,pN 0),(8,.vec 12501)],[(12501,.vec B1 4 x3.n (fun i=>A4 (x3.g i)) true)]⟩ [12501] (ids:=[(12501,12501)]) ⟨rfl,rfl,rfl⟩
theorem OU {j:A6}{d:Sl F0}{f:Sl Entry}{c:Sl A1}{y:Bool×Int}(h:S8 N j d f c=some y) :FunO S HI [.p (.agg (A7 j)),.p (vSl 2 C0 d),.p (vSl 2 B2 f),.p (vSl 4 A4 c)] [] (.tup [pB y.1,pN y.2]) ([]) []:=by
 unfold S8 at h;refine A3 Z func34 ?_;refine G4 Z Pq 8 5000 (A7 j) ?_;obtain⟨y1,e1,h⟩:=B9 h;refine C6 Z [] Rg (TG Z Y e1) ?_;apply kI Z h<;>intro h
 .cases h;exact kR Z
 refine kC Z h (DR Z Y) (fun y2 h=>?_);refine H0 Z Pq h (fun x1=>⟨[(14,pN x1),(12,.vec 32000),(10,.vec 23000),(3,.p (vSl 4 A4 c)),(2,.p (vSl 2 B2 f))],[(32000,.vec C7 1 y2.1.n (fun i=>cI .i64 (y2.1.g i)) true),(23000,.vec B1 4 y1.1.n (fun i=>A4 (y1.1.g i)) true)]⟩) (ids:=[(23000,23000),(32000,32000)]) (fun _ _ _ _ _ m x1 q h=>?_);apply kI Z h<;>intro h
 .obtain⟨c11,h⟩:=D6 h;obtain⟨c12,h⟩:=D6 h;refine kB Z (A5 Z) c11 c12 27 (.o (.o (.o (.a (decide ((c.g x1.toNat).Entry<0))) (.a (decide ((f.n:Int)<=(c.g x1.toNat).Entry)))) (.a (decide ((c.g x1.toNat).Leaf<0)))) (.a (decide ((y2.1.n:Int)<=(c.g x1.toNat).Leaf)))) ?_;apply kI Z h<;>intro h
  .cases h;exact kR Z
  exact q _ [(23000,23000),(32000,32000)] _ (wrap .i64 (x1+1)) Pq h
 refine H0 Z Pq h (fun x4=>⟨[(15,pN x4),(10,.vec 23000),(3,.p (vSl 4 A4 c))],[(23000,.vec B1 4 y1.1.n (fun i=>A4 (y1.1.g i)) true)]⟩) (ids:=[(23000,23000)]) (fun _ _ _ _ _ r x4 s h=>?_);apply kI Z h<;>intro h
 .refine G9 Z Pq h (fun x7 x8=>⟨[(17,pN x8),(16,pB x7),(15,pN x4),(10,.vec 23000),(3,.p (vSl 4 A4 c))],[(23000,.vec B1 4 y1.1.n (fun i=>A4 (y1.1.g i)) true)]⟩) (ids:=[(23000,23000)]) (fun _ _ _ _ _ t x7 x8 l h=>?_);apply kI Z h<;>intro h
  .refine E3 Z Pq [4,6,16,18] ?_;refine Ms Pq (b:=x7) (fun c57=>?_) (fun c57=>?_)
   .replace h:=itT c57 h;refine H3 Pq ?_;exact l _ [(23000,23000)] _ true (wrap .i64 (x8+1)) Pq h
   replace h:=itF c57 h;obtain⟨c58,h⟩:=D6 h;refine Ms c58 (b:=(c.g x8.toNat).Entry==(y1.1.g x4.toNat).Entry) (fun c59=>?_) (fun c59=>?_)
   .replace h:=itT c59 h;obtain⟨c60,h⟩:=D6 h;refine H3 c60 ?_;exact l _ [(23000,23000)] _ ((c.g x8.toNat).Leaf==(y1.1.g x4.toNat).Leaf) (wrap .i64 (x8+1)) Pq h
   replace h:=itF c59 h;refine H3 Pq ?_;exact l _ [(23000,23000)] _ false (wrap .i64 (x8+1)) Pq h
  apply kI Z h<;>intro h
  .cases h;exact kR Z
  exact s _ [(23000,23000)] _ (wrap .i64 (x4+1)) Pq h
 cases h;exact kR Z
theorem Ae1 {j:A6}{f:Sl F0}{l:Sl Entry}{d:Int}{y:(Sl Int)×Int}(h:Bm N j f l d=some y) :FunO S PF [.p (.agg (A7 j)),.p (vSl 2 C0 f),.p (vSl 2 B2 l),pN d] [] (.tup [.vec 0,pN y.2]) ([.vec C7 1 y.1.n (fun i=>cI .i64 (y.1.g i)) true]) []:=by
 unfold Bm at h;refine A3 Z func36 ?_;refine kC Z h (TG Z Y) (fun y1 h=>?_);apply kI Z h<;>intro h
 .obtain rfl:=C4 h;exact A9 Z Pq ⟨[(9,pN y1.2),(8,.vec 9700)],[(9700,.vec C7 1 Sh.n (fun i=>cI .i64 (Sh.g i)) true)]⟩ [9700] (ids:=[]) ⟨rfl,rfl,rfl⟩
 refine kC Z h (DR Z Y) (fun y2 h=>?_);refine kB Z (A5 Z) Pq Pq 5 (.o (.a (decide (d<0))) (.a (decide ((y2.1.n:Int)<=d)))) ?_;apply kI Z h<;>intro h
 .obtain rfl:=C4 h;exact A9 Z Pq ⟨[(9,pN 3),(8,.vec 9700)],[(9700,.vec C7 1 Sh.n (fun i=>cI .i64 (Sh.g i)) true)]⟩ [9700] (ids:=[]) ⟨rfl,rfl,rfl⟩
 refine G9 Z Pq h (fun x1 x2=>⟨[(15,pN x2),(14,.vec 15500),(10,.vec 21000),(3,pN d)],[(21000,.vec B1 4 y1.1.n (fun i=>A4 (y1.1.g i)) true),(15500,.vec C7 1 x1.n (fun i=>cI .i64 (x1.g i)) false)]⟩) (ids:=[(21000,21000)]) (fun _ _ _ _ _ q x1 x2 m h=>?_);apply kI Z h<;>intro h
 .obtain⟨c10,h⟩:=D6 h;refine D4 Z c10 (b:=(y1.1.g x2.toNat).Leaf==d) (fun c11=>?_) (fun c11=>?_)
  .replace h:=itT c11 h;obtain⟨c12,h⟩:=D6 h;exact m _ [(15500,61000),(21000,21000)] _ (x1.push (y1.1.g x2.toNat).Entry) (wrap .i64 (x2+1)) (And.intro (And.intro (And.intro c12.1.1 c12.1.2) Rp) c12.2) h (hle:=klR [(3,.fn (x1.n+1) (x1.push (y1.1.g x2.toNat).Entry).n (T2 x1.n (fun i=>cI .i64 (x1.g i)) (D3 [pI .i64 0] [(0,cI .i64 (y1.1.g x2.toNat).Entry)])) (fun i=>cI .i64 ((x1.push (y1.1.g x2.toNat).Entry).g i)))] (al1 ⟨rfl,EA (c:=cI .i64) (v:=x1) (x:=(y1.1.g x2.toNat).Entry) (z:=[(pI .i64 0)]) same rfl rfl⟩ al0))
  replace h:=itF c11 h;exact m _ [(15500,15500),(21000,21000)] _ x1 (wrap .i64 (x2+1)) Pq h
 obtain rfl:=C4 h;exact A9 Z Pq ⟨[(9,pN 0),(8,.vec 15500)],[(15500,.vec C7 1 x1.n (fun i=>cI .i64 (x1.g i)) true)]⟩ [15500] (ids:=[(15500,15500)]) ⟨rfl,rfl,rfl⟩
end Go.AM
namespace Go.AM
open Go.Proofs
set_option maxRecDepth 10000
set_option maxHeartbeats 2000000
variable {S:U3}(Z:H2 S Tryz.prog) (Y:Ij S)
include Z Y
def T3 (N:Nat)(d:A6)(a:Sl F0)(f:Sl Entry)(b:Sl A1)(c:Int):Option Bool:= (Cd N d).bind fun y1=>lt (fun (z1:Bool)=>if z1 then (P9 N ).bind fun y4=>some y4 else (G7 N d a f b).bind fun y5=>(S8 N d a f b).bind fun y6=>(N4 N d a f c).bind fun y7=>(Bm N d a f c).bind fun y8=>lt (fun (z2:Bool)=>some z2) fun k2=>if ((y5.1==y6.1) != false) then if (y5.2==y6.2) then if (y7.2==y8.2) then (U8 N y7.1 y8.1).bind fun g=>if g then (P9 N ).bind fun i=>k2 i else k2 false else k2 false else k2 false else k2 false) fun k1=>if (!y1) then k1 true else (Ce N a f).bind fun y3=>if (!y3) then k1 true else k1 (decide (300<(b.n:Int)))
theorem HB {N:Nat}{f:A6}{a:Sl F0}{g:Sl Entry}{b:Sl A1}{c:Int}{y:Bool}(h:T3 N f a g b c=some y) :FunO S Ay [.p (.agg (A7 f)),.p (vSl 2 C0 a),.p (vSl 2 B2 g),.p (vSl 4 A4 b),pN c] [] (pB y) ([]) []:=by
 unfold T3 at h;refine A3 Z Tryz.func9 ?_;refine kC Z h (MT Z Y) (fun y1 h=>?_);refine EC Z Pq (A5 Z) h 0 (fun z1=>⟨[(32,pB z1),(5,.reg 6000 0),(4,pN c),(3,.p (vSl 4 A4 b)),(2,.p (vSl 2 B2 g)),(1,.p (vSl 2 C0 a))],[(6000,.cells ((A7 f).map .p))]⟩) (fun M1 k1 i h=>?_) (fun z1 h=>?_)
 .refine kG Z h (fun h=>?_) (fun h=>?_)
  .exact i _ [(6000,6000)] _ true Pq h
  refine kC Z h (MU Z Y) (fun y3 h=>?_);refine kG Z h (fun h=>?_) (fun h=>?_)
  .exact i _ [(6000,6000)] _ true Pq h
  exact i _ [(6000,6000)] _ (decide (300<(b.n:Int))) Pq h
 apply kI Z h<;>intro h
 .refine kC Z h (Dp Z Y) (fun y4 h=>?_);cases h;exact kR Z
 refine kC Z h (Af Z Y) (fun y5 h=>?_);refine kC Z h (OU Z Y) (fun y6 h=>?_);refine kC Z h (Fn Z Y) (fun y7 h=>?_);refine kC Z h (Ae1 Z Y) (fun y8 h=>?_);refine EC Z Pq (A5 Z) h 0 (fun z2=>⟨[(10,pB z2)],[]⟩) (fun M2 k2 d h=>?_) (fun z2 h=>?_)
 .refine kG Z h (fun h=>?_) (fun h=>?_)
  .refine kG Z h (fun h=>?_) (fun h=>?_)
   .refine kG Z h (fun h=>?_) (fun h=>?_)
    .refine kC Z h (Fo Z Y) (fun l h=>?_);refine kG Z h (fun h=>?_) (fun h=>?_)
     .refine kC Z h (Dp Z Y) (fun j h=>?_);exact d _ [] _ j Pq h
     exact d _ [] _ false Pq h
    exact d _ [] _ false Pq h
   exact d _ [] _ false Pq h
  exact d _ [] _ false Pq h
 cases h;exact kR Z
end Go.AM
namespace Go.AM
open Go.Proofs
def IX {N:Nat}(a:3000000<=N)(hw:P9 N=some true){h:A6}(f:U4 h){p:Sl F0}{l:Sl Entry}(hp:Bx p)(hl:EJ l)(bad:Sl A1)(x:Int):T3 N h p l bad x=some true:=by
 refine eqR ?_;unfold T3;obtain⟨b,b1,_⟩:=TH a h;obtain⟨c,c1,_⟩:=TI a p l;refine B3 b1 (ltX ?_);have d:∀{K:Option Bool},∃r,(if true then (P9 N ).bind fun y4=>some y4 else K)=some r/\r=true:=ifT rfl (B3 hw ⟨_,rfl,rfl⟩);by_cases g1:(!b)=true
 .exact ifT g1 d
 refine ifF g1 (B3 c1 ?_);by_cases g2:(!c)=true
 .exact ifT g2 d
 refine ifF g2 ?_;by_cases g3:300<bad.n
 .rw[show decide (300<(bad.n:Int))=true from by simp;omega];exact d
 rw[show decide (300<(bad.n:Int))=false from by simp;omega];refine P6 ?_;obtain⟨r,r',r1,r1',r2,r3,_⟩:=DS a f hp hl (bad:=bad) (by omega);obtain⟨s,s',s1,s1',s2,s3,s4,_⟩:=Rm a f hp hl x;exact B3 r1 (B3 r1' (B3 s1 (B3 s1' (ltX (ifT (by simp[r2]) (ifT (by simp[r3]) (ifT (by simp[s2]) (B3 (MV (by omega) (by omega) s3) (ifT rfl (B3 hw ⟨_,rfl,rfl⟩))))))))))
end Go.AM
namespace Go.AM
open Go.RowKit Go.ChangeShapes Go.WideShapes Go.ChangeAt Go.Deep Go.Proofs Go.Proofs.YtlbooedblpdmaaaGreatDoor
set_option maxRecDepth 100000
def TJ (x:A1):Prop:=((Lit.int .i64 x.Entry).wf=true)/\((Lit.int .i64 x.Leaf).wf=true)/\((Lit.int .i64 x.Kind).wf=true)/\((Lit.int .i64 x.Cost).wf=true)
def Gt (x:A1):Nat:=1+1+1+1+1
def MW:IY Tryz.prog B1 A4 TJ Gt:=by intro m pvs h;obtain⟨m0,h,a⟩:=R9 Tryz.underlying56 h;obtain⟨a0,b0,p0,q0,rfl,b,h,c⟩:=D0 h;obtain⟨x0,l0,w0,s0⟩:=K9 Bq4 _ _ b;have s0:1<=a0:=s0;obtain⟨a1,b1,p1,q1,rfl,h1,h,d⟩:=D0 h;obtain⟨x1,l1,w1,s1⟩:=K9 Bq4 _ _ h1;have s1:1<=a1:=s1;obtain⟨a2,b2,p2,q2,rfl,f,h,g⟩:=D0 h;obtain⟨x2,l2,w2,s2⟩:=K9 Bq4 _ _ f;have s2:1<=a2:=s2;obtain⟨a3,b3,p3,q3,rfl,i,h,j⟩:=D0 h;obtain⟨x3,l3,w3,s3⟩:=K9 Tryz.underlying2 _ _ i;have s3:1<=a3:=s3;obtain rfl:=Ag h;exact⟨⟨x0,x1,x2,x3⟩,LeDs.append l0 (LeDs.append l1 (LeDs.append l2 (LeDs.append l3 LeDs.nil))),⟨w0,w1,w2,w3⟩,by simp only[Gt];omega⟩
end Go.AM
namespace Go.AM
open Go.RowKit Go.ChangeShapes Go.WideShapes Go.ChangeAt Go.Deep Go.Proofs Go.Proofs.YtlbooedblpdmaaaGreatDoor
namespace AtExplains
set_option maxRecDepth 100000
def contract (H:Type)(enc:TypeId×Value->H)(W:World)(base:Nat)(args:Array Value)(ds gs:List (DataW H))(before:List MemPlace)
 (a:∀(j:Nat) t v,Tryz.f9.params[j]? = some t->args[j]? = some v->Value.okWide Tryz.prog W .any base t v)
 (x:DataW.Whole enc Tryz.prog Tryz.f9.params.toList Rows.attestExplainsSpec.vars false W args.toList ds gs before) (hk:Rows.uptoSmall H (ds++gs)=true) (Y:laidMetH Tryz.prog Rows.attestExplainsUptoRow.laid W) :
 Calls Tryz.prog 9 args W fun e W'=>∃v,e=.returned v/\Rows.attestExplainsSpec.post enc Tryz.prog Tryz.f9 false true false false W args v W':=by
 have f:=x;obtain⟨p,q,l,z,rfl,a0,a4⟩:=x;have y:DataW.TrodAll enc Tryz.prog W 0 (fun _=>true) true Tryz.f9.params.toList args.toList ds p:=l;rw[BH1]at y a;obtain⟨v0,vs0,d0,ds0,p0,q0,m,rfl,rfl,h0,r0⟩:=trodAll_cons y;obtain⟨v1,vs1,d1,ds1,p1,q1,rfl,rfl,rfl,h1,r1⟩:=trodAll_cons r0;obtain⟨v2,vs2,d2,ds2,p2,q2,rfl,rfl,rfl,h2,r2⟩:=trodAll_cons r1;obtain⟨v3,vs3,d3,ds3,p3,q3,rfl,rfl,rfl,h3,r3⟩:=trodAll_cons r2;obtain⟨v4,vs4,d4,ds4,p4,q4,rfl,rfl,rfl,h4,r4⟩:=trodAll_cons r3;obtain⟨rfl,rfl,rfl⟩:=trodAll_nil r4;obtain rfl:args = #[v0,v1,v2,v3,v4]:=by cases args;simp_all
 obtain⟨rfl,rfl⟩:=trodVars_none z;have hb:=of_decide_eq_true hk;simp only[Br5,Rows.uptoBulkAll]at hb;obtain⟨cs0,c,_⟩:=okWide_struct BC3 (a 0 26 v0 rfl rfl);obtain⟨a1,len1,cap1,o⟩:=okWide_slice Bx5 (a 1 27 v1 rfl rfl);obtain⟨a2,len2,cap2,r⟩:=okWide_slice Bz4 (a 2 28 v2 rfl rfl);obtain⟨a3,len3,cap3,s⟩:=okWide_slice Tryz.underlying32 (a 3 32 v3 rfl rfl);obtain⟨_,u⟩:=okWide_int Bq4 (a 4 3 v4 rfl rfl);obtain⟨fu0,g0⟩:=h0;obtain⟨fu1,g1⟩:=h1;obtain⟨fu2,g2⟩:=h2;obtain⟨fu3,g3⟩:=h3;obtain⟨fu4,g4⟩:=h4;have d:Am5 Tryz.prog [26,22,112,3,9,23,90,87,72,70,4,85,51,88,142,24,43,27,68,28,49,32,56,2]=true:=by kernel_rfl
 have b:∀t∈([26,22,112,3,9,23,90,87,72,70,4,85,51,88,142,24,43,27,68,28,49,32,56,2]:List Nat),t<Tryz.prog.types.size:=by decide +kernel
 obtain⟨pv0,c0,sh0⟩:=Ah Rn Ro d b fu0 26 _ _ (by simp) g0;obtain⟨x0,l0,w0,s0⟩:=IZ _ _ sh0;have s0:De x0<=Rows.uptoBulk d0:=s0;have e0:=c0.leD l0;rw[c]at e0;have e0:=Am6 e0;rw[<- c]at e0;obtain⟨pv1,c1,sh1⟩:=Ah Rn Ro d b fu1 27 _ _ (by simp) g1;obtain⟨x1,l1,w1,s1⟩:=M9 Bx5 (by kernel_rfl) Kn _ _ sh1;have s1:(DT (fun i=>Io (x1.g i)) x1.n+1)<=Rows.uptoBulk d1:=s1;have e1:=Ip (by rw[o];rfl) (c1.leD l1);obtain⟨pv2,c2,sh2⟩:=Ah Rn Ro d b fu2 28 _ _ (by simp) g2;obtain⟨x2,l2,w2,s2⟩:=M9 Bz4 (by kernel_rfl) MX _ _ sh2;have s2:(DT (fun i=>CU (x2.g i)) x2.n+1)<=Rows.uptoBulk d2:=s2;have e2:=Ip (by rw[r];rfl) (c2.leD l2);obtain⟨pv3,c3,sh3⟩:=Ah Rn Ro d b fu3 32 _ _ (by simp) g3;obtain⟨x3,l3,w3,s3⟩:=M9 Tryz.underlying32 (by kernel_rfl) MW _ _ sh3;have s3:(DT (fun i=>Gt (x3.g i)) x3.n+1)<=Rows.uptoBulk d3:=s3;have e3:=Ip (by rw[s];rfl) (c3.leD l3);obtain⟨pv4,c4,sh4⟩:=Ah Rn Ro d b fu4 3 _ _ (by simp) g4;obtain⟨x4,l4,w4,s4⟩:=K9 Bq4 _ _ sh4;have s4:1<=Rows.uptoBulk d4:=s4;have e4:=Ip (by rw[u];rfl) (c4.leD l4);have hP:FunO (HC Tryz.prog) Ay [.p (.agg (A7 x0)),.p (vSl 2 C0 x1),.p (vSl 2 B2 x2),.p (vSl 4 A4 x3),.p (pI .i64 x4)] [] (.p (.bb true)) [] []:=
  HB (Bl0 _) libC (IX (N:=4194304) (by omega) PZ (TL w0 (by omega)) (Ko w1) (TM w2 (by omega)) x3 x4)
 have hc:=Ja (args:=[.agg (A7 x0),vSl 2 C0 x1,vSl 2 B2 x2,vSl 4 A4 x3,pI .i64 x4]) (enters_of Tryz.func9 (by decide +kernel) rfl) hP (W:=W) (vs:=#[v0,v1,v2,v3,v4]) (Am7 Y) rfl (fun i hi=>by
  match i,hi with
  |0,_=>exact e0
  |1,_=>exact e1
  |2,_=>exact e2
  |3,_=>exact e3
  |4,_=>exact e4
  )
 refine hc.mono fun e W' ⟨he,w⟩=>?_;subst he;exact⟨_,rfl,YF rfl (by kernel_rfl) Bv2 (by kernel_rfl) (by rw[BH1];decide +kernel) f rfl w⟩
def own:ownKnob Tryz.prog.godebug=none:=by kernel_rfl
def reads (os:Os){H:Type}(enc:TypeId×Value->H):∃places,DataW.whole enc Tryz.prog ((World.laidAll Tryz.prog os Rows.attestExplainsUptoRow.laid).forCall (fun _ _=>0) ⟨#[],#[.agg #[.slice none 0 0,.slice none 0 0,.slice none 0 0],.slice none 0 0,.slice none 0 0,.slice none 0 0,.int .i64 0],[]⟩).memory Tryz.f9.params.toList Rows.attestExplainsSpec.vars false (#[.agg #[.slice none 0 0,.slice none 0 0,.slice none 0 0],.slice none 0 0,.slice none 0 0,.slice none 0 0,.int .i64 0]:Array Value).toList 16=some ([.agg [.nil,.nil,.nil],.nil,.nil,.nil,.lit (.int .i64 0)],[],places):=
 ⟨[],by kernel_rfl⟩
def laid_met (os:Os):laidMet Tryz.prog Rows.attestExplainsUptoRow.laid ((World.laidAll Tryz.prog os Rows.attestExplainsUptoRow.laid).forCall (fun _ _=>0) ⟨#[],#[.agg #[.slice none 0 0,.slice none 0 0,.slice none 0 0],.slice none 0 0,.slice none 0 0,.slice none 0 0,.int .i64 0],[]⟩).memory:=
 laidMet_laidAll _ (by kernel_rfl) (by kernel_rfl)
def liftedUpto (os:Os)(started:os.Started)(H:Type)(enc:TypeId×Value->H)(F:Stop.Interp) :ReturnsInHanded {} Tryz.checked os 9 .any ((Rows.OpenSpec.upto Rows.attestExplainsSpec).preRow enc Tryz.prog Tryz.f9 Rows.attestExplainsUptoRow.domain false Rows.attestExplainsUptoRow.laid) (((Rows.OpenSpec.upto Rows.attestExplainsSpec).at F).post enc Tryz.prog Tryz.f9 false true false false):=by
 obtain⟨places,hx⟩:=reads os enc;refine returnsInHanded_of_row (C:=Tryz.checked) (s:=Rows.OpenSpec.upto Rows.attestExplainsSpec) own started (by kernel_rfl) Tryz.func9
  (witness_row_at (enc:=enc) (C:=Tryz.checked) false (World.laidAll Tryz.prog os Rows.attestExplainsUptoRow.laid) #[.agg #[.slice none 0 0,.slice none 0 0,.slice none 0 0],.slice none 0 0,.slice none 0 0,.slice none 0 0,.int .i64 0] (World.laidAll_os _ _ _) (by kernel_rfl) (by kernel_rfl) (by kernel_rfl)
   (BD1 16 hx (by kernel_rfl) (fun k hk=>by cases hk;kernel_rfl) (by kernel_rfl) (laid_met os))) ?_
 intro W base args ds gs before b c _ a _ Y _ _;exact contract H enc W base args ds gs before b c (a _ rfl) Y
def gA:jA_ Tryz.pinned.checked.prog 9 Tryz.f9 (Rows.OpenSpec.upto Rows.attestExplainsSpec).bare Rows.attestExplainsUptoRow=true:=by kernel_rfl
def gB:jB_ Tryz.pinned.checked.prog 9 Tryz.f9 (Rows.OpenSpec.upto Rows.attestExplainsSpec).bare Rows.attestExplainsUptoRow=true:=by kernel_rfl
def gC:jC_ Tryz.pinned.checked.prog 9 Tryz.f9 (Rows.OpenSpec.upto Rows.attestExplainsSpec).bare Rows.attestExplainsUptoRow=true:=by kernel_rfl
def gD:jD_ Tryz.pinned.checked.prog 9 Tryz.f9 (Rows.OpenSpec.upto Rows.attestExplainsSpec).bare Rows.attestExplainsUptoRow=true:=by kernel_rfl
def gE:jE_ Tryz.pinned.checked.prog 9 Tryz.f9 (Rows.OpenSpec.upto Rows.attestExplainsSpec).bare Rows.attestExplainsUptoRow=true:=by kernel_rfl
def gF:jF_ Tryz.pinned.checked.prog 9 Tryz.f9 (Rows.OpenSpec.upto Rows.attestExplainsSpec).bare Rows.attestExplainsUptoRow=true:=by kernel_rfl
def saidUpto:Rows.AttestExplainsUptoSaid:=
 BD3 9 Tryz.f9 rfl rfl rfl rfl rfl rfl rfl ⟨rfl,rfl,rfl,rfl,rfl⟩ rfl rfl rfl rfl rfl (by kernel_rfl) Tryz.func9 (TN gA gB gC gD gE gF)
  (of_decide_eq_true (by kernel_rfl)) (by unfold Func.isWrapper;first|(rw[Pk (by decide +kernel)];kernel_rfl)|(rw[Pl (by decide +kernel)];exact⟨rfl,rfl⟩))
  (fun os started H enc _ F=>by rw[BD5];exact liftedUpto os started H enc F)
def plain (f:FuncId)(fn:Func)(b:Tryz.pinned.checked.prog.funcNamed "ablaut/ablautlaw26.AttestExplains" = some f)(a:Tryz.pinned.checked.prog.funcs[f]? = some fn) :true=Tryz.pinned.checked.prog.looks []/\∀(j:Nat) t,fn.params[j]? = some t->Tryz.pinned.checked.prog.wantsStandIn t=false:=by
 obtain rfl:f=9:=Bn8 ((show Tryz.prog.funcNamed "ablaut/ablautlaw26.AttestExplains" = some 9 by kernel_rfl).symm.trans b) |>.symm;obtain rfl:fn=Tryz.f9:=(Bn8 (Tryz.func9.symm.trans a)).symm;refine⟨by kernel_rfl,fun j t ht=>?_⟩;rw[BH1]at ht;have hm:=Bz8 ht;simp only[List.mem_toArray,Bp9,List.not_mem_nil,or_false]at hm;rcases hm with rfl|rfl|rfl|rfl|rfl
 .exact (show Tryz.prog.wantsStandIn 26=false by kernel_rfl)
 .exact (show Tryz.prog.wantsStandIn 27=false by kernel_rfl)
 .exact (show Tryz.prog.wantsStandIn 28=false by kernel_rfl)
 .exact (show Tryz.prog.wantsStandIn 32=false by kernel_rfl)
 exact (show Tryz.prog.wantsStandIn 3=false by kernel_rfl)
def cardUpto:Rows.AttestExplainsUptoCardSaid:=
 BB5 .later [] _ _ _ _ saidUpto (fun _ h=>by cases h) (by kernel_rfl) (fun _ h=>by cases h) attestExplainsUpto_row_tie rfl ⟨rfl,rfl⟩ (by kernel_rfl) rfl plain (by kernel_rfl)
end AtExplains
end Go.AM
