/- Part 12. -/
import Derived.Test.YtnpknmmlpjnpeaaDoorKK
import Derived.Test.YtnpknmmlpjnpeaaDoorKE
import Derived.Test.YtnpknmmlpjnpeaaDoorKI
import Derived.Test.YtnpknmmlpjnpeaaDoorKD
set_option linter.defProp false
set_option linter.unusedSimpArgs false
set_option linter.unusedVariables false
set_option linter.unusedSectionVars false
namespace Go.AM
def Cc:(1:Nat)<=1:=by decide
theorem Bg{c:Prop}{i:Decidable c}{α:Sort _}{a b:α}(h:¬c:=by simp):(if c then a else b)=b:=Bv h
open Go.Proofs
section
variable (s:Sl C8) (t:Str)
end
end Go.AM
namespace Go.AM
open Go.Proofs
def okS (s:Cf):Prop:=s=sOf (BitVec.ofInt 32 s.Plus) (BitVec.ofInt 32 s.Minus)
def Nu {s:Cf}(h:∃p m:BitVec 32,s=sOf p m):okS s:=by obtain⟨p,m,rfl⟩:=h;simp only[okS,sOf,Aw]
def Oa (n:Nat)(l:Sl C8)(z:Str)(s:Cf):Int:=NZ n l z (BitVec.ofInt 32 s.Plus) (BitVec.ofInt 32 s.Minus)
def QK {N:Nat}{v:A2}(h:IOk v)(z:Str){s:Cf}(hs:okS s)(b:z.length<N)(a:z.length<1000000000) :C9 N v z s=some (Oa v.feats.n v.sounds z s,if Oa v.feats.n v.sounds z s=0 then PB v z s else v):=by
 have:=PC h z (BitVec.ofInt 32 s.Plus) (BitVec.ofInt 32 s.Minus) b a
 rw[<- hs]at this;exact this
def No {v:A2}(h:IOk v){z:Str}{s:Cf}(hs:okS s)(a:Oa v.feats.n v.sounds z s=0):IOk (PB v z s):=by
 have:=PD h a
 rw[<- hs]at this;exact this
def grV (l:Sl Jj):Nat->A2
 |0=>invN 24
 |i+1=>if Oa (grV l i).feats.n (grV l i).sounds (l.g i).Symbol (l.g i).S=0 then PB (grV l i) (l.g i).Symbol (l.g i).S else grV l i
def LM (l:Sl Jj)(hw:∀i,i<l.n->okS (l.g i).S):∀i,i<=l.n->IOk (grV l i)
 |0,_=>PF (by omega)
 |i+1,hi=>by
  have:=LM l hw i (by omega)
  simp only[grV];split
  .exact No this (hw i (by omega)) ‹_›
  exact this
def Np (l:Sl Jj):∀i,(grV l i).sounds.n<=i/\(grV l i).feats=ER 24
 |0=>⟨Nat.le_refl _,rfl⟩
 |i+1=>by
  have:=Np l i
  simp only[grV];split
  .exact⟨Nat.succ_le_succ this.1,this.2⟩
  exact⟨by omega,this.2⟩
def Nq {N:Nat}(l:Sl Jj)(hw:∀i,i<l.n->okS (l.g i).S)(hl:∀i,i<l.n->(l.g i).Symbol.length<2000000)(d:2000000<=N) :H7 N l=some (some (grV l (min l.n 300)),(grV l (min l.n 300)).sounds):=by
 unfold H7;rw[show (24:Int)=((24:Nat):Int) from rfl,Ip 24 (by omega) (by omega)];simp only[Option.bind_some,G6];have c:(if 300<((l.n:Nat):Int)then (300:Int)else ((l.n:Nat):Int))=((min l.n 300:Nat):Int):=by split<;>omega
 rw[c,show ((min l.n 300:Nat):Int).toNat=min l.n 300 from rfl,Ai];unfold OT;refine Bq (fun i:Nat=>(grV l i,(grV l i).sounds,(i:Int))) (min l.n 300) _ (by omega) fun b i f=>?_;dsimp only;by_cases h:i<min l.n 300
 .have j:=hl i (by omega);have hn:=(Np l i).1;rw[Bh (by simp only[Bz];omega),Ai,Bh h,show (i:Int).toNat=i from rfl,Af,QK (LM l hw i (by omega)) _ (hw i (by omega)) (by omega) (by omega)];simp only[Option.bind_some,grV];by_cases a:Oa (grV l i).feats.n (grV l i).sounds (l.g i).Symbol (l.g i).S=0
  .rw[Bh (by simpa using a),Bh a,Bh (by simp only[List.length_cons,List.length_nil];omega)];rfl
  rw[Bv (by simpa using a),Bv a]
 rw[Bv (by simp only[Bz];omega),Bv h]
 have:i=min l.n 300:=by omega
 rw[this]
end Go.AM
namespace Go.AM
open Go.Proofs
end Go.AM
namespace Go.AM
open Go.Proofs
def Dist (s:Sl C8):Prop:=∀i j,i<s.n->j<s.n->((s.g i).Symbol=(s.g j).Symbol \/ (s.g i).S=(s.g j).S)->i=j
def LN {n:Nat}{l:Sl C8}{z:Str}{s:Cf}(hs:okS s)(h:Oa n l z s=0):∀i,i<l.n->z≠(l.g i).Symbol/\s≠(l.g i).S:=by
 intro i a;unfold Oa NZ at h;split at h
 .split at h
  .split at h
   .cases h
   rename_i h1;have hn:fnd l.n (fun i=>z==(l.g i).Symbol||decide (sOf (BitVec.ofInt 32 s.Plus) (BitVec.ofInt 32 s.Minus)=(l.g i).S))=none:=by
    cases e:fnd l.n (fun i=>z==(l.g i).Symbol||decide (sOf (BitVec.ofInt 32 s.Plus) (BitVec.ofInt 32 s.Minus)=(l.g i).S))with
    |none=>rfl
    |some j=>rw[e]at h1;exact Bw rfl h1
   have:=Gm hn a
   rw[<- hs]at this;simpa using this
  cases h
 cases h
def Jn (l:Sl Jj)(hw:∀i,i<l.n->okS (l.g i).S):∀i,i<=l.n->Dist (grV l i).sounds
 |0,_=>fun i j b=>by have:i<0:=b;omega
 |k+1,hk=>by
  have ih:=Jn l hw k (by omega);simp only[grV];split
  .rename_i d;have hn:=LN (hw k (by omega)) d;intro i j b c h;have b:i<(grV l k).sounds.n+1:=b;have c:j<(grV l k).sounds.n+1:=c;have h:((if i<(grV l k).sounds.n then (grV l k).sounds.g i else (⟨(l.g k).Symbol,(l.g k).S⟩:C8)).Symbol=(if j<(grV l k).sounds.n then (grV l k).sounds.g j else (⟨(l.g k).Symbol,(l.g k).S⟩:C8)).Symbol) \/
    ((if i<(grV l k).sounds.n then (grV l k).sounds.g i else (⟨(l.g k).Symbol,(l.g k).S⟩:C8)).S=(if j<(grV l k).sounds.n then (grV l k).sounds.g j else (⟨(l.g k).Symbol,(l.g k).S⟩:C8)).S):=h
   by_cases h1:i<(grV l k).sounds.n
   .by_cases a:j<(grV l k).sounds.n
    .rw[Bh h1,Bh a]at h;exact ih i j h1 a h
    rw[Bh h1,Bv a]at h
    have:=hn i h1
    rcases h with h|h
    .exact Bw h.symm this.1
    exact Bw h.symm this.2
   by_cases a:j<(grV l k).sounds.n
   .rw[Bv h1,Bh a]at h
    have:=hn j a
    rcases h with h|h
    .exact Bw h this.1
    exact Bw h this.2
   omega
  exact ih
end Go.AM
namespace Go.AM
open Go.Proofs
set_option maxRecDepth 10000
set_option maxHeartbeats 2000000
variable {S:T3}(Z:H4 S Tryd.prog) (Y:Kb S)
include Z Y
end Go.AM
namespace Go.AM
open Go.Proofs
end Go.AM
namespace Go.AM
open IntKind (wrap)
open Go.Proofs
set_option maxRecDepth 10000
set_option maxHeartbeats 4000000
theorem Cm {κ ν : Type}(kP : κ -> PV)(vP : ν -> PV):∀l:List (κ × ν),(A8 kP vP l).length=l.length
 |[]=>rfl
 |_::l=>congrArg (· + 1) (Cm kP vP l)
variable {S:T3}(Z:H4 S Tryd.prog) (Y:Kb S)
include Z Y
def H2 (N:Nat)(a:A2):Option (Option A2):= (B0 N a).bind fun y1=>if (!y1) then some none else (B7 N a.feats).bind fun y2=>(D2 N a.sounds).bind fun y3=>MM N (fun b (x1:List (Str×Int)) (x2:Int)=>if (decide (x2<(y2.n:Int))) then if (((0:Int)<=x2/\x2<(y2.n:Int))/\x2.toNat<y2.n)then b (DR eqS (y2.g x2.toNat) x2 x1) (wrap .i64 (x2+1)) else none else OT N (fun c (x3:List (Str×Int)) (x4:List (Cf×Int)) (x5:Int)=>if (decide (x5<(y3.n:Int))) then if (((0:Int)<=x5/\x5<(y3.n:Int))/\x5.toNat<y3.n)then c (DR eqS (y3.g x5.toNat).Symbol x5 x3) (DR D9 (y3.g x5.toNat).S x5 x4) (wrap .i64 (x5+1)) else none else some (some (⟨y2,x1,y3,x3,x4⟩:A2))) [] [] 0) [] 0
theorem U5 {N:Nat}{c:A2}{y:Option A2}(h:H2 N c=some y) :N5 S U1 [.reg 0 0] [.cells [.p (vSl 1 cS c.feats),.mref 1,.vec 2,.mref 3,.mref 4],.map (A8 PV.str (pI .i64) c.number),.vec A0 3 c.sounds.n (fun i=>A3 (c.sounds.g i)) true,.map (A8 PV.str (pI .i64) c.symbols),.map (A8 (fun x=>.agg (A5 x)) (pI .i64) c.values)] (Cq y (.p Gd) fun _=>.reg 5 0) ([.cells [.p (vSl 1 cS c.feats),.mref 1,.vec 2,.mref 3,.mref 4],.map (A8 PV.str (pI .i64) c.number),.vec A0 3 c.sounds.n (fun i=>A3 (c.sounds.g i)) true,.map (A8 PV.str (pI .i64) c.symbols),.map (A8 (fun x=>.agg (A5 x)) (pI .i64) c.values)]++(Cq y [] fun o=>[(.cells [.p (vSl 1 cS o.feats),.mref 6,.vec 7,.mref 8,.mref 9]),.map (A8 PV.str (pI .i64) o.number),.vec A0 3 o.sounds.n (fun i=>A3 (o.sounds.g i)) true,.map (A8 PV.str (pI .i64) o.symbols),.map (A8 (fun x=>.agg (A5 x)) (pI .i64) o.values)])) [true,true,true,true,true]:=by
 unfold H2 at h;refine D8 Z Tryd.func37 ?_;obtain⟨y1,e1,h⟩:=D7 h;refine B2 Z [0,1,2,3,4] Cb (E2 Z Y e1) ?_;refine A9 Z Cb (b:=!y1) (fun c1=>?_) (fun c1=>?_)
 .replace h:=itT c1 h;obtain rfl:=B5 h;exact B6 Z Cb ⟨[(2,.p Gd)],[(4,.map (A8 (fun x=>.agg (A5 x)) (pI .i64) c.values)),(3,.map (A8 PV.str (pI .i64) c.symbols)),(2,.vec A0 3 c.sounds.n (fun i=>A3 (c.sounds.g i)) true),(1,.map (A8 PV.str (pI .i64) c.number)),(0,.cells [.p (vSl 1 cS c.feats),.mref 1,.vec 2,.mref 3,.mref 4])]⟩ [0,1,2,3,4] (ids:=[(0,0),(1,1),(2,2),(3,3),(4,4)]) ⟨rfl,rfl,rfl⟩
 replace h:=itF c1 h;refine Nd Z Cb [(3,.l [0]),(4,.a [16000]),(8,.l [0]),(9,.a [2,21000]),(10,.a [22000]),(11,.a [23000]),(12,.a [24000])] ?_;obtain⟨y2,e2,h⟩:=D7 h;refine NM [] Cb (J0 Z Y e2) ?_;obtain⟨y3,e3,h⟩:=D7 h;refine NM [] Cb (M8 Z Y e3) ?_;refine Bu Cb ?_;refine Hm Z Cb h (fun x1 x2=>⟨[(31,pN x2),(30,pN (y2.n:Int)),(29,.vec 16000),(3,.reg 26000 0)],[(26000,.cells [.vec 16000,.mref 22000,.vec 21000,.mref 23000,.mref 24000]),(24000,.map (A8 (fun x=>.agg (A5 x)) (pI .i64) [])),(23000,.map (A8 PV.str (pI .i64) [])),(22000,.map (A8 PV.str (pI .i64) x1)),(21000,.vec A0 3 y3.n (fun i=>A3 (y3.g i)) true),(16000,.vec B1 1 y2.n (fun i=>cS (y2.g i)) true),(4,.map (A8 (fun x=>.agg (A5 x)) (pI .i64) c.values)),(3,.map (A8 PV.str (pI .i64) c.symbols)),(2,.vec A0 3 c.sounds.n (fun i=>A3 (c.sounds.g i)) true),(1,.map (A8 PV.str (pI .i64) c.number)),(0,.cells [.p (vSl 1 cS c.feats),.mref 1,.vec 2,.mref 3,.mref 4])]⟩) (ids:=[(0,0),(1,1),(2,2),(3,3),(4,4),(16000,16000),(21000,21000),(22000,22000),(23000,23000),(24000,24000),(26000,26000)]) (fun _ _ _ _ _ d x1 x2 f h=>?_);refine A9 Z Cb (b:=decide (x2<(y2.n:Int))) (fun c6=>?_) (fun c6=>?_)
 .replace h:=itT c6 h;obtain⟨c7,h⟩:=V4 h;refine Gg Z c7 (kt:=B1) (key:=PV.str (y2.g x2.toNat)) (y:=pI .i64 x2) (es:=A8 PV.str (pI .i64) x1) (Bo (kP:=PV.str) (vP:=pI .i64) (eq:=eqS) (fun _ _=>by kernel_rfl) (y2.g x2.toNat) x2 x1) Cb ?_;exact f _ [(0,0),(1,1),(2,2),(3,3),(4,4),(16000,16000),(21000,21000),(22000,22000),(23000,23000),(24000,24000),(26000,26000)] _ (DR eqS (y2.g x2.toNat) x2 x1) (wrap .i64 (x2+1)) Cb h
 replace h:=itF c6 h;refine Jb Z Cb h (fun x3 x4 x5=>⟨[(48,pN x5),(47,pN (y3.n:Int)),(46,.vec 21000),(3,.reg 26000 0)],[(26000,.cells [.vec 16000,.mref 22000,.vec 21000,.mref 23000,.mref 24000]),(24000,.map (A8 (fun x=>.agg (A5 x)) (pI .i64) x4)),(23000,.map (A8 PV.str (pI .i64) x3)),(22000,.map (A8 PV.str (pI .i64) x1)),(21000,.vec A0 3 y3.n (fun i=>A3 (y3.g i)) true),(16000,.vec B1 1 y2.n (fun i=>cS (y2.g i)) true),(4,.map (A8 (fun x=>.agg (A5 x)) (pI .i64) c.values)),(3,.map (A8 PV.str (pI .i64) c.symbols)),(2,.vec A0 3 c.sounds.n (fun i=>A3 (c.sounds.g i)) true),(1,.map (A8 PV.str (pI .i64) c.number)),(0,.cells [.p (vSl 1 cS c.feats),.mref 1,.vec 2,.mref 3,.mref 4])]⟩) (ids:=[(0,0),(1,1),(2,2),(3,3),(4,4),(16000,16000),(21000,21000),(22000,22000),(23000,23000),(24000,24000),(26000,26000)]) (fun _ _ _ _ _ j x3 x4 x5 m h=>?_);refine A9 Z Cb (b:=decide (x5<(y3.n:Int))) (fun c12=>?_) (fun c12=>?_)
 .replace h:=itT c12 h;obtain⟨c13,h⟩:=V4 h;refine K_frz Z (QY (QY c13.1 Cd) c13.2) 8000 (A3 (y3.g x5.toNat)) ?_;refine Nc Z Cb [5,11] ?_;refine LC (by decide:(2:Nat)<=2) (kt:=B1) (key:=PV.str (y3.g x5.toNat).Symbol) (z:=pI .i64 0) (y:=pI .i64 (Cr eqS (y3.g x5.toNat).Symbol (0:Int) x3).2.1) (es:=A8 PV.str (pI .i64) x3) (es':=A8 PV.str (pI .i64) (Cr eqS (y3.g x5.toNat).Symbol (0:Int) x3).2.2) (i:=(Cr eqS (y3.g x5.toNat).Symbol (0:Int) x3).1) (Gk (kP:=PV.str) (vP:=pI .i64) (eq:=eqS) (fun _ _=>by kernel_rfl) (y3.g x5.toNat).Symbol 0 x3) Cb ?_;refine Ji Cb (i:=(Cr eqS (y3.g x5.toNat).Symbol (0:Int) x3).1) (y:=pI .i64 x5) (es:=A8 PV.str (pI .i64) (Cr eqS (y3.g x5.toNat).Symbol (0:Int) x3).2.2) (es':=A8 PV.str (pI .i64) (DR eqS (y3.g x5.toNat).Symbol x5 x3)) (by rw[Cm];exact Ey eqS (y3.g x5.toNat).Symbol 0 x3) ((Ez (Cr eqS (y3.g x5.toNat).Symbol (0:Int) x3).2.2 (Cr eqS (y3.g x5.toNat).Symbol (0:Int) x3).1 x5 (Ey eqS (y3.g x5.toNat).Symbol 0 x3)).trans (congrArg (A8 PV.str (pI .i64)) (EA eqS (y3.g x5.toNat).Symbol 0 x5 x3))) ?_;refine LC Cb (kt:=F3) (key:=(fun x=>.agg (A5 x)) (y3.g x5.toNat).S) (z:=pI .i64 0) (y:=pI .i64 (Cr D9 (y3.g x5.toNat).S (0:Int) x4).2.1) (es:=A8 (fun x=>.agg (A5 x)) (pI .i64) x4) (es':=A8 (fun x=>.agg (A5 x)) (pI .i64) (Cr D9 (y3.g x5.toNat).S (0:Int) x4).2.2) (i:=(Cr D9 (y3.g x5.toNat).S (0:Int) x4).1) (Gk (kP:=fun x=>.agg (A5 x)) (vP:=pI .i64) (eq:=D9) (fun _ _=>by kernel_rfl) (y3.g x5.toNat).S 0 x4) (by decide +kernel:Kr Tryd.prog F3=true) ?_;refine Ji Cb (i:=(Cr D9 (y3.g x5.toNat).S (0:Int) x4).1) (y:=pI .i64 x5) (es:=A8 (fun x=>.agg (A5 x)) (pI .i64) (Cr D9 (y3.g x5.toNat).S (0:Int) x4).2.2) (es':=A8 (fun x=>.agg (A5 x)) (pI .i64) (DR D9 (y3.g x5.toNat).S x5 x4)) (by rw[Cm];exact Ey D9 (y3.g x5.toNat).S 0 x4) ((Ez (Cr D9 (y3.g x5.toNat).S (0:Int) x4).2.2 (Cr D9 (y3.g x5.toNat).S (0:Int) x4).1 x5 (Ey D9 (y3.g x5.toNat).S 0 x4)).trans (congrArg (A8 (fun x=>.agg (A5 x)) (pI .i64)) (EA D9 (y3.g x5.toNat).S 0 x5 x4))) ?_;refine Bu Cb ?_;exact m _ [(0,0),(1,1),(2,2),(3,3),(4,4),(16000,16000),(21000,21000),(22000,22000),(23000,23000),(24000,24000),(26000,26000)] _ (DR eqS (y3.g x5.toNat).Symbol x5 x3) (DR D9 (y3.g x5.toNat).S x5 x4) (wrap .i64 (x5+1)) Cb h
 replace h:=itF c12 h;obtain rfl:=B5 h;exact B6 Z Cb ⟨[(2,.reg 26000 0)],[(26000,.cells [.p (vSl 1 cS y2),.mref 22000,.vec 21000,.mref 23000,.mref 24000]),(24000,.map (A8 (fun x=>.agg (A5 x)) (pI .i64) x4)),(23000,.map (A8 PV.str (pI .i64) x3)),(22000,.map (A8 PV.str (pI .i64) x1)),(21000,.vec A0 3 y3.n (fun i=>A3 (y3.g i)) true),(4,.map (A8 (fun x=>.agg (A5 x)) (pI .i64) c.values)),(3,.map (A8 PV.str (pI .i64) c.symbols)),(2,.vec A0 3 c.sounds.n (fun i=>A3 (c.sounds.g i)) true),(1,.map (A8 PV.str (pI .i64) c.number)),(0,.cells [.p (vSl 1 cS c.feats),.mref 1,.vec 2,.mref 3,.mref 4])]⟩ [0,1,2,3,4,26000,22000,21000,23000,24000] (ids:=[(0,0),(1,1),(2,2),(3,3),(4,4),(21000,21000),(22000,22000),(23000,23000),(24000,24000),(26000,26000)]) ⟨rfl,rfl,rfl⟩
end Go.AM
namespace Go.AM
variable {N:Nat}
open IntKind (wrap)
open Go.Proofs
set_option maxRecDepth 10000
set_option maxHeartbeats 4000000
variable {S:T3}(Z:H4 S Tryd.prog) (Y:Kb S)
include Z Y
def D1 (N:Nat)(s:Sl Str):Option (Sl Str):=if (0+s.n)*16<=140737488355328/\0+s.n<=140737488355328 then some s else none
theorem I3 {s y:Sl Str}(h:D1 N s=some y):N5 S E6 [.p (vSl 1 cS s)] [] (.vec 0) [.vec B1 1 y.n (fun i=>cS (y.g i)) false] []:=by
 unfold D1 at h;obtain⟨c1,h⟩:=V4 h;obtain rfl:=B5 h;refine D8 Z Tryd.func30 ?_;refine Pq Z Cb 3 (k:=1) (n:=s.n) (f:=fun i=>cS (s.g i)) (fun a=>?_) ?_
 .obtain⟨n,g⟩:=s;obtain rfl:n=0:=a;exact B6 Z Cb ⟨[(2,.vec 3700)],[(3700,.vec B1 1 0 (fun i=>cS (g i)) false)]⟩ [3700] (ids:=[]) ⟨rfl,rfl,rfl⟩
 exact B6 Z (QY Ce c1) ⟨[(2,.vec 8000)],[(8000,.vec B1 1 s.n (fun i=>cS (s.g i)) false)]⟩ [8000] (ids:=[(8000,8000)]) ⟨rfl,rfl,rfl⟩
  (hle:=klR [(0,.fn (0+s.n) s.n (AS 0 (S7 [.str []] []) (fun i=>cS (s.g i))) (fun i=>cS (s.g i)))] (al1 ⟨Nat.zero_add _,fun i _=>by simp[AS]⟩ al0))
def D0 (N:Nat)(s:Sl C8):Option (Sl C8):=if (0+s.n)*24<=140737488355328/\0+s.n<=140737488355328 then some s else none
theorem L4 {s y:Sl C8}(h:D0 N s=some y):N5 S E8 [.p (vSl 3 A3 s)] [] (.vec 0) [.vec A0 3 y.n (fun i=>A3 (y.g i)) false] []:=by
 unfold D0 at h;obtain⟨c1,h⟩:=V4 h;obtain rfl:=B5 h;refine D8 Z Tryd.func63 ?_;refine Pq Z Cb 3 (k:=3) (n:=s.n) (f:=fun i=>A3 (s.g i)) (fun a=>?_) ?_
 .obtain⟨n,g⟩:=s;obtain rfl:n=0:=a;exact B6 Z Cb ⟨[(2,.vec 3700)],[(3700,.vec A0 3 0 (fun i=>A3 (g i)) false)]⟩ [3700] (ids:=[]) ⟨rfl,rfl,rfl⟩
 exact B6 Z (QY Ce c1) ⟨[(2,.vec 8000)],[(8000,.vec A0 3 s.n (fun i=>A3 (s.g i)) false)]⟩ [8000] (ids:=[(8000,8000)]) ⟨rfl,rfl,rfl⟩
  (hle:=klR [(0,.fn (0+s.n) s.n (AS 0 (S7 [.str [],pI .u32 0,pI .u32 0] []) (fun i=>A3 (s.g i))) (fun i=>A3 (s.g i)))] (al1 ⟨Nat.zero_add _,fun i _=>by simp[AS]⟩ al0))
def C7 (N:Nat)(a:A2):Option (Sl Str):= (B0 N a).bind fun y1=>if (!y1) then some (Sl.nil:Sl Str) else (D1 N a.feats).bind fun y2=>some y2
theorem H3 {a:A2}{y:Sl Str}(h:C7 N a=some y) :N5 S K7 [.reg 0 0] [.cells [.p (vSl 1 cS a.feats),.mref 1,.vec 2,.mref 3,.mref 4],.map (A8 PV.str (pI .i64) a.number),.vec A0 3 a.sounds.n (fun i=>A3 (a.sounds.g i)) true,.map (A8 PV.str (pI .i64) a.symbols),.map (A8 (fun x=>.agg (A5 x)) (pI .i64) a.values)] (.vec 5) ([.cells [.p (vSl 1 cS a.feats),.mref 1,.vec 2,.mref 3,.mref 4],.map (A8 PV.str (pI .i64) a.number),.vec A0 3 a.sounds.n (fun i=>A3 (a.sounds.g i)) true,.map (A8 PV.str (pI .i64) a.symbols),.map (A8 (fun x=>.agg (A5 x)) (pI .i64) a.values),.vec B1 1 y.n (fun i=>cS (y.g i)) false]) [true,true,true,true,true]:=by
 unfold C7 at h;refine D8 Z Tryd.func34 ?_;obtain⟨y1,e1,h⟩:=D7 h;refine B2 Z [0,1,2,3,4] Cb (E2 Z Y e1) ?_;refine A9 Z Cb (b:=!y1) (fun c1=>?_) (fun c1=>?_)
 .replace h:=itT c1 h;obtain rfl:=B5 h;exact B6 Z Cb ⟨[(2,.vec 3700)],[(3700,.vec B1 1 (Sl.nil:Sl Str).n (fun i=>cS ((Sl.nil:Sl Str).g i)) false),(4,.map (A8 (fun x=>.agg (A5 x)) (pI .i64) a.values)),(3,.map (A8 PV.str (pI .i64) a.symbols)),(2,.vec A0 3 a.sounds.n (fun i=>A3 (a.sounds.g i)) true),(1,.map (A8 PV.str (pI .i64) a.number)),(0,.cells [.p (vSl 1 cS a.feats),.mref 1,.vec 2,.mref 3,.mref 4])]⟩ [0,1,2,3,4,3700] (ids:=[(0,0),(1,1),(2,2),(3,3),(4,4)]) ⟨rfl,rfl,rfl⟩
 replace h:=itF c1 h;obtain⟨y2,e2,h⟩:=D7 h;refine B2 Z [] Cb (I3 Z Y e2) ?_;obtain rfl:=B5 h;exact B6 Z Cb ⟨[(2,.vec 11000)],[(11000,.vec B1 1 y2.n (fun i=>cS (y2.g i)) false),(4,.map (A8 (fun x=>.agg (A5 x)) (pI .i64) a.values)),(3,.map (A8 PV.str (pI .i64) a.symbols)),(2,.vec A0 3 a.sounds.n (fun i=>A3 (a.sounds.g i)) true),(1,.map (A8 PV.str (pI .i64) a.number)),(0,.cells [.p (vSl 1 cS a.feats),.mref 1,.vec 2,.mref 3,.mref 4])]⟩ [0,1,2,3,4,11000] (ids:=[(0,0),(1,1),(2,2),(3,3),(4,4),(11000,11000)]) ⟨rfl,rfl,rfl⟩
def A7 (N:Nat)(a:A2):Option (Sl C8):= (B0 N a).bind fun y1=>if (!y1) then some (Sl.nil:Sl C8) else (D0 N a.sounds).bind fun y2=>some y2
theorem D5 {a:A2}{y:Sl C8}(h:A7 N a=some y) :N5 S Q9 [.reg 0 0] [.cells [.p (vSl 1 cS a.feats),.mref 1,.vec 2,.mref 3,.mref 4],.map (A8 PV.str (pI .i64) a.number),.vec A0 3 a.sounds.n (fun i=>A3 (a.sounds.g i)) true,.map (A8 PV.str (pI .i64) a.symbols),.map (A8 (fun x=>.agg (A5 x)) (pI .i64) a.values)] (.vec 5) ([.cells [.p (vSl 1 cS a.feats),.mref 1,.vec 2,.mref 3,.mref 4],.map (A8 PV.str (pI .i64) a.number),.vec A0 3 a.sounds.n (fun i=>A3 (a.sounds.g i)) true,.map (A8 PV.str (pI .i64) a.symbols),.map (A8 (fun x=>.agg (A5 x)) (pI .i64) a.values),.vec A0 3 y.n (fun i=>A3 (y.g i)) false]) [true,true,true,true,true]:=by
 unfold A7 at h;refine D8 Z Tryd.func39 ?_;obtain⟨y1,e1,h⟩:=D7 h;refine B2 Z [0,1,2,3,4] Cb (E2 Z Y e1) ?_;refine A9 Z Cb (b:=!y1) (fun c1=>?_) (fun c1=>?_)
 .replace h:=itT c1 h;obtain rfl:=B5 h;exact B6 Z Cb ⟨[(2,.vec 3700)],[(3700,.vec A0 3 (Sl.nil:Sl C8).n (fun i=>A3 ((Sl.nil:Sl C8).g i)) false),(4,.map (A8 (fun x=>.agg (A5 x)) (pI .i64) a.values)),(3,.map (A8 PV.str (pI .i64) a.symbols)),(2,.vec A0 3 a.sounds.n (fun i=>A3 (a.sounds.g i)) true),(1,.map (A8 PV.str (pI .i64) a.number)),(0,.cells [.p (vSl 1 cS a.feats),.mref 1,.vec 2,.mref 3,.mref 4])]⟩ [0,1,2,3,4,3700] (ids:=[(0,0),(1,1),(2,2),(3,3),(4,4)]) ⟨rfl,rfl,rfl⟩
 replace h:=itF c1 h;obtain⟨y2,e2,h⟩:=D7 h;refine B2 Z [] Cb (L4 Z Y e2) ?_;obtain rfl:=B5 h;exact B6 Z Cb ⟨[(2,.vec 11000)],[(11000,.vec A0 3 y2.n (fun i=>A3 (y2.g i)) false),(4,.map (A8 (fun x=>.agg (A5 x)) (pI .i64) a.values)),(3,.map (A8 PV.str (pI .i64) a.symbols)),(2,.vec A0 3 a.sounds.n (fun i=>A3 (a.sounds.g i)) true),(1,.map (A8 PV.str (pI .i64) a.number)),(0,.cells [.p (vSl 1 cS a.feats),.mref 1,.vec 2,.mref 3,.mref 4])]⟩ [0,1,2,3,4,11000] (ids:=[(0,0),(1,1),(2,2),(3,3),(4,4),(11000,11000)]) ⟨rfl,rfl,rfl⟩
def L7 (N:Nat)(a:Sl Str):Option ((Option A2)×Int×(Sl Str)):= if (decide (24<(a.n:Int))) then some (none,12,a) else BW N (fun b (x1:Int)=>if (decide (x1<(a.n:Int))) then if (((0:Int)<=x1/\x1<(a.n:Int))/\x1.toNat<a.n)then (D4 N (a.g x1.toNat) 16 (fun (u3:Int)=>G3 N u3)).bind fun y3=>if ((!y3)=false->((0:Int)<=0/\0<((a.g x1.toNat).length:Int)))then if ((!y3)||(decide ((D6 (a.g x1.toNat) 0)<=57))) then some (none,15,a) else b (wrap .i64 (x1+1)) else none else none else MM N (fun c (x2:List (Str×Int)) (x3:Int)=>if (decide (x3<(a.n:Int))) then if (((0:Int)<=x3/\x3<(a.n:Int))/\x3.toNat<a.n)then Cq (Q4 eqS (a.g x3.toNat) x2) (c (DR eqS (a.g x3.toNat) x3 x2) (wrap .i64 (x3+1))) fun v3=>some (none,6,a) else none else (D1 N a).bind fun y4=>some (some (⟨y4,x2,(Sl.nil:Sl C8),[],[]⟩:A2),0,a)) [] 0) 0
theorem Am {c:Sl Str}{y:(Option A2)×Int×(Sl Str)}(h:L7 N c=some y) :N5 S W9 [.vec 0] [.vec B1 1 c.n (fun i=>cS (c.g i)) false] (.tup [Cq y.1 (.p Gd) fun _=>.reg 1 0,pN y.2.1]) ([.vec B1 1 y.2.2.n (fun i=>cS (y.2.2.g i)) false]++(Cq y.1 [] fun o=>[(.cells [.p (vSl 1 cS o.feats),.mref 2,.vec 3,.mref 4,.mref 5]),.map (A8 PV.str (pI .i64) o.number),.vec A0 3 o.sounds.n (fun i=>A3 (o.sounds.g i)) true,.map (A8 PV.str (pI .i64) o.symbols),.map (A8 (fun x=>.agg (A5 x)) (pI .i64) o.values)])) [true]:=by
 unfold L7 at h;refine D8 Z Tryd.func36 ?_;refine A9 Z Cb (b:=decide (24<(c.n:Int))) (fun c1=>?_) (fun c1=>?_)
 .replace h:=itT c1 h;obtain rfl:=B5 h;exact B6 Z Cb ⟨[(3,pN 12),(2,.p Gd)],[(0,.vec B1 1 c.n (fun i=>cS (c.g i)) false)]⟩ [0] (ids:=[(0,0)]) ⟨rfl,rfl,rfl⟩
 replace h:=itF c1 h;refine Be Z Cb h (fun x1=>⟨[(21,pN x1),(20,pN (c.n:Int)),(19,.vec 0),(4,.reg 19000 0),(0,.vec 0)],[(19000,.cells [.p LT,.mref 15000,.p LT,.mref 16000,.mref 17000]),(17000,.map (A8 (fun x=>.agg (A5 x)) (pI .i64) [])),(16000,.map (A8 PV.str (pI .i64) [])),(15000,.map (A8 PV.str (pI .i64) [])),(0,.vec B1 1 c.n (fun i=>cS (c.g i)) false)]⟩) (ids:=[(0,0),(15000,15000),(16000,16000),(17000,17000),(19000,19000)]) (fun _ _ _ _ _ d x1 f h=>?_);refine A9 Z Cb (b:=decide (x1<(c.n:Int))) (fun c10=>?_) (fun c10=>?_)
 .replace h:=itT c10 h;obtain⟨c11,h⟩:=V4 h;obtain⟨y3,e3,h⟩:=D7 h;refine B2 Z [] c11 (N0 Z Y (fun e=>S3 Z Y e) e3) ?_;obtain⟨c12,h⟩:=V4 h;refine kB Z (F6 Z) Cb c12 4 (.o (.a (!y3)) (.a (decide ((D6 (c.g x1.toNat) 0)<=57)))) ?_;refine A9 Z Cb (b:=(!y3)||(decide ((D6 (c.g x1.toNat) 0)<=57))) (fun c13=>?_) (fun c13=>?_)
  .replace h:=itT c13 h;obtain rfl:=B5 h;exact B6 Z Cb ⟨[(3,pN 15),(2,.p Gd)],[(0,.vec B1 1 c.n (fun i=>cS (c.g i)) false)]⟩ [0] (ids:=[(0,0)]) ⟨rfl,rfl,rfl⟩
  replace h:=itF c13 h;exact f _ [(0,0),(15000,15000),(16000,16000),(17000,17000),(19000,19000)] _ (wrap .i64 (x1+1)) Cb h
 replace h:=itF c10 h;refine Hm Z Cb h (fun x2 x3=>⟨[(36,pN x3),(35,pN (c.n:Int)),(34,.vec 0),(4,.reg 19000 0),(0,.vec 0)],[(19000,.cells [.p LT,.mref 15000,.p LT,.mref 16000,.mref 17000]),(17000,.map (A8 (fun x=>.agg (A5 x)) (pI .i64) [])),(16000,.map (A8 PV.str (pI .i64) [])),(15000,.map (A8 PV.str (pI .i64) x2)),(0,.vec B1 1 c.n (fun i=>cS (c.g i)) false)]⟩) (ids:=[(0,0),(15000,15000),(16000,16000),(17000,17000),(19000,19000)]) (fun _ _ _ _ _ j x2 x3 m h=>?_);refine A9 Z Cb (b:=decide (x3<(c.n:Int))) (fun c22=>?_) (fun c22=>?_)
 .replace h:=itT c22 h;obtain⟨c23,h⟩:=V4 h;rcases o3:Q4 eqS (c.g x3.toNat) x2 with _|v3
  .replace h:=JV o3 h;refine Y5 Z c23 (kt:=B1) (e:=CP) (key:=PV.str (c.g x3.toNat)) (es:=A8 PV.str (pI .i64) x2) (x:=pI .i64 0) (b:=false) (fd:=none) ((H5 (kP:=PV.str) (vP:=pI .i64) (eq:=eqS) (fun _ _=>by kernel_rfl) (c.g x3.toNat) x2).trans (by rw[o3];rfl)) Cb ?_;refine A9 Z Cb (b:=false) (fun c24=>?_) (fun c24=>?_)
   .exact Bool.noConfusion ((rfl:false=false).symm.trans c24)
   refine Gg Z Cb (kt:=B1) (key:=PV.str (c.g x3.toNat)) (y:=pI .i64 x3) (es:=A8 PV.str (pI .i64) x2) (Bo (kP:=PV.str) (vP:=pI .i64) (eq:=eqS) (fun _ _=>by kernel_rfl) (c.g x3.toNat) x3 x2) Cb ?_;exact m _ [(0,0),(15000,15000),(16000,16000),(17000,17000),(19000,19000)] _ (DR eqS (c.g x3.toNat) x3 x2) (wrap .i64 (x3+1)) Cb h
  replace h:=JW o3 h;refine Y5 Z c23 (kt:=B1) (e:=CP) (key:=PV.str (c.g x3.toNat)) (es:=A8 PV.str (pI .i64) x2) (x:=pI .i64 v3) (b:=true) (fd:=some (pI .i64 v3)) ((H5 (kP:=PV.str) (vP:=pI .i64) (eq:=eqS) (fun _ _=>by kernel_rfl) (c.g x3.toNat) x2).trans (by rw[o3];rfl)) Cb ?_;refine A9 Z Cb (b:=true) (fun c25=>?_) (fun c25=>?_)
  .obtain rfl:=B5 h;exact B6 Z Cb ⟨[(3,pN 6),(2,.p Gd)],[(0,.vec B1 1 c.n (fun i=>cS (c.g i)) false)]⟩ [0] (ids:=[(0,0)]) ⟨rfl,rfl,rfl⟩
  exact Bool.noConfusion (Ce.symm.trans c25)
 replace h:=itF c22 h;obtain⟨y4,e4,h⟩:=D7 h;refine Pv Z Cb Cb (I3 Z Y e4) (fun i l _ hl=>match l,hl with|0,_=>rfl|_+1,hl=>Bw hl (by omega)) ?_;obtain rfl:=B5 h;exact B6 Z Cb ⟨[(3,pN 0),(2,.reg 19000 0)],[(19000,.cells [.p (vSl 1 cS y4),.mref 15000,.vec 3802,.mref 16000,.mref 17000]),(17000,.map (A8 (fun x=>.agg (A5 x)) (pI .i64) [])),(16000,.map (A8 PV.str (pI .i64) [])),(15000,.map (A8 PV.str (pI .i64) x2)),(3802,.vec A0 3 (Sl.nil:Sl C8).n (fun i=>A3 ((Sl.nil:Sl C8).g i)) true),(0,.vec B1 1 c.n (fun i=>cS (c.g i)) false)]⟩ [0,19000,15000,3802,16000,17000] (ids:=[(0,0),(15000,15000),(16000,16000),(17000,17000),(19000,19000)]) ⟨rfl,rfl,rfl⟩
def F2 (N:Nat)(f:Sl Jj)(a:Str)(b:Cf):Option Bool:= (L7 N (Sl.of [[111,110,101],[116,119,111],[116,104,114,101,101]]:Sl Str)).bind fun y1=>Cq y1.1 (if (y1.2.1 != 0) then some false else if (((0:Int)<=1/\1<(y1.2.2.n:Int))/\1<y1.2.2.n)then (I2 N ).bind fun y2=>if ((y2.n:Int) != 3) then some false else none else none) fun z1=>if (y1.2.1 != 0) then some false else if (((0:Int)<=1/\1<(y1.2.2.n:Int))/\1<y1.2.2.n)then (C7 N z1).bind fun y3=>if ((y3.n:Int) != 3) then some false else if (((0:Int)<=0/\0<(y3.n:Int))/\0<y3.n)then (C7 N z1).bind fun y4=>(B8 N y4 (Sl.of [[111,110,101],[116,119,111],[116,104,114,101,101]]:Sl Str)).bind fun y5=>if (!y5) then some false else (H7 N f).bind fun y6=>Cq y6.1 (some false) fun z2=>(H2 N z2).bind fun y7=>Cq y7 (some false) fun z3=>(A7 N z3).bind fun y8=>(A6 N y8 y6.2).bind fun y9=>lt (fun (z4:Bool)=>if z4 then some false else (C9 N z3 a b).bind fun c=>lt (fun (z6:A2×(Sl C8))=>(A7 N z6.1).bind fun x=>(A7 N z6.1).bind fun g=>(A6 N g z6.2).bind fun i=>if (!i) then some false else (A7 N c.2).bind fun y=>(A7 N c.2).bind fun j=>(A6 N j z6.2).bind fun l=>if (!l) then some false else (F4 N ).bind fun m=>some m) fun k3=>if (c.1==0) then (G4 N c.2).bind fun o=>lt (fun (z7:A2×Bool)=>if z7.2 then some false else if ((y6.2.n+(Sl.of [(⟨a,b⟩:C8)]:Sl C8).n)*24<=140737488355328/\y6.2.n+(Sl.of [(⟨a,b⟩:C8)]:Sl C8).n<=140737488355328)then k3 (z7.1,y6.2.push (⟨a,b⟩:C8)) else none) fun k4=>if (o != (wrap .i64 ((y6.2.n:Int)+1))) then k4 (z2,true) else (G4 N z2).bind fun q=>if (q != (y6.2.n:Int)) then k4 (z2,true) else (C9 N z2 a b).bind fun d=>if (d.1 != 0) then k4 (d.2,true) else (A7 N d.2).bind fun r=>(A7 N c.2).bind fun s=>(A6 N r s).bind fun t=>k4 (d.2,!t) else k3 (z2,y6.2)) fun k1=>if (!y9) then k1 true else (C7 N z3).bind fun u=>(C7 N z2).bind fun v=>(B8 N u v).bind fun w=>k1 (!w) else none else none
theorem T4 {m:Sl Jj}{a:Str}{f:Cf}{y:Bool}(h:F2 N m a f=some y) :N5 S G8 [.p (vSl 3 Dn m),.p (.str a),.p (.agg (A5 f))] [] (pB y) ([]) []:=by
 unfold F2 at h;refine D8 Z Tryd.func9 ?_;refine Lw Z Ce ⟨[(19,.vec 18000),(7,.vec 18000),(5,.reg 6000 0),(1,.p (.str a)),(0,.p (vSl 3 Dn m))],[(18000,.vec B1 1 (Sl.of [[111,110,101],[116,119,111],[116,104,114,101,101]]:Sl Str).n (fun i=>cS ((Sl.of [[111,110,101],[116,119,111],[116,104,114,101,101]]:Sl Str).g i)) false),(6000,.cells [pU f.Plus,pU f.Minus])]⟩ (ids:=[(6000,6000),(18000,18000)]) ?_ (hle:=klR [(2,.fn 3 (Sl.of [[111,110,101],[116,119,111],[116,104,114,101,101]]:Sl Str).n (S7 [.str []] [(0,cS [111,110,101]),(1,cS [116,119,111]),(2,cS [116,104,114,101,101])]) (fun i=>cS ((Sl.of [[111,110,101],[116,119,111],[116,104,114,101,101]]:Sl Str).g i)))] (al1 ⟨rfl,(fun i o=>match i,o with|0,_=>rfl|1,_=>rfl|2,_=>rfl|_+3,o=>Bw o (by omega))⟩ al0));obtain⟨y1,e1,h⟩:=D7 h;rcases o1:y1.1 with _|z1
 .replace h:=JV o1 h;have w1:=(Am Z Y e1);simp only[o1,H9,G6,List.append_nil,List.cons_append,List.nil_append]at w1;refine LB Z [18000] Cb w1 ?_;refine A9 Z Cb (b:=y1.2.1 != 0) (fun c1=>?_) (fun c1=>?_)
  .replace h:=itT c1 h;obtain rfl:=B5 h;exact I1 Z Cb [] ⟨rfl,rfl,rfl⟩
  replace h:=itF c1 h;obtain⟨c2,h⟩:=V4 h;obtain⟨y2,e2,h⟩:=D7 h;refine B2 Z [] (QY c2.1 (QY (rfl:(1:Nat)=1) (QY c2.2 Cc))) (Z5 Z Y e2) ?_;refine A9 Z Cb (b:=(y2.n:Int) != 3) (fun c3=>?_) (fun c3=>?_)
  .replace h:=itT c3 h;obtain rfl:=B5 h;exact I1 Z Cb [] ⟨rfl,rfl,rfl⟩
  replace h:=itF c3 h;cases h
 replace h:=JW o1 h;have w2:=(Am Z Y e1);simp only[o1,H9,G6,List.append_nil,List.cons_append,List.nil_append]at w2;refine LB Z [18000] Cb w2 ?_;refine A9 Z Cb (b:=y1.2.1 != 0) (fun c4=>?_) (fun c4=>?_)
 .replace h:=itT c4 h;obtain rfl:=B5 h;exact I1 Z Cb [] ⟨rfl,rfl,rfl⟩
 replace h:=itF c4 h;obtain⟨c5,h⟩:=V4 h;obtain⟨y3,e3,h⟩:=D7 h;refine B2 Z [21001,21002,21003,21004,21005] (QY c5.1 (QY (rfl:(1:Nat)=1) (QY c5.2 Cc))) (H3 Z Y e3) ?_;refine A9 Z Cb (b:=(y3.n:Int) != 3) (fun c6=>?_) (fun c6=>?_)
 .replace h:=itT c6 h;obtain rfl:=B5 h;exact I1 Z Cb [] ⟨rfl,rfl,rfl⟩
 replace h:=itF c6 h;obtain⟨c7,h⟩:=V4 h;obtain⟨y4,e4,h⟩:=D7 h;refine B2 Z [21001,21002,21003,21004,21005] (QY c7.1 (QY (rfl:(1:Nat)=1) (QY c7.2 Cc))) (H3 Z Y e4) ?_;refine Lw Z Ce ⟨[(36,.vec 37000),(35,.vec 36005),(5,.reg 6000 0),(1,.p (.str a)),(0,.p (vSl 3 Dn m))],[(37000,.vec B1 1 (Sl.of [[111,110,101],[116,119,111],[116,104,114,101,101]]:Sl Str).n (fun i=>cS ((Sl.of [[111,110,101],[116,119,111],[116,104,114,101,101]]:Sl Str).g i)) false),(36005,.vec B1 1 y4.n (fun i=>cS (y4.g i)) false),(6000,.cells [pU f.Plus,pU f.Minus])]⟩ (ids:=[(6000,6000),(36005,36005),(37000,37000)]) ?_ (hle:=klR [(2,.fn 3 (Sl.of [[111,110,101],[116,119,111],[116,104,114,101,101]]:Sl Str).n (S7 [.str []] [(0,cS [111,110,101]),(1,cS [116,119,111]),(2,cS [116,104,114,101,101])]) (fun i=>cS ((Sl.of [[111,110,101],[116,119,111],[116,104,114,101,101]]:Sl Str).g i)))] (al1 ⟨rfl,(fun i o=>match i,o with|0,_=>rfl|1,_=>rfl|2,_=>rfl|_+3,o=>Bw o (by omega))⟩ al0));obtain⟨y5,e5,h⟩:=D7 h;refine B2 Z [] Cb (J1 Z Y e5) ?_;refine A9 Z Cb (b:=!y5) (fun c8=>?_) (fun c8=>?_)
 .replace h:=itT c8 h;obtain rfl:=B5 h;exact I1 Z Cb [] ⟨rfl,rfl,rfl⟩
 replace h:=itF c8 h;obtain⟨y6,e6,h⟩:=D7 h;rcases o2:y6.1 with _|z2
 .replace h:=JV o2 h;have w3:=(Y0 Z Y e6);simp only[o2,H9,G6,List.append_nil,List.cons_append,List.nil_append]at w3;refine B2 Z [] Cb w3 ?_;obtain rfl:=B5 h;exact I1 Z Cb [] ⟨rfl,rfl,rfl⟩
 replace h:=JW o2 h;have w4:=(Y0 Z Y e6);simp only[o2,H9,G6,List.append_nil,List.cons_append,List.nil_append]at w4;refine B2 Z [] Cb w4 ?_;obtain⟨y7,e7,h⟩:=D7 h;rcases o3:y7 with _|z3
 .replace h:=JV o3 h;have w5:=(U5 Z Y e7);simp only[o3,H9,G6,List.append_nil,List.cons_append,List.nil_append]at w5;refine B2 Z [42001,42002,42003,42004,42005] Cb w5 ?_;obtain rfl:=B5 h;exact I1 Z Cb [] ⟨rfl,rfl,rfl⟩
 replace h:=JW o3 h;have w6:=(U5 Z Y e7);simp only[o3,H9,G6,List.append_nil,List.cons_append,List.nil_append]at w6;refine B2 Z [42001,42002,42003,42004,42005] Cb w6 ?_;obtain⟨y8,e8,h⟩:=D7 h;refine B2 Z [48005,48006,48007,48008,48009] Cb (D5 Z Y e8) ?_;obtain⟨y9,e9,h⟩:=D7 h;refine B2 Z [] Cb (D3 Z Y e9) ?_;refine Pm Z Cb (F6 Z) h 0 (fun z4=>⟨[(64,pB z4),(13,.reg 48005 0),(12,.vec 42000),(11,.reg 42001 0),(5,.reg 6000 0),(1,.p (.str a))],[(48009,.map (A8 (fun x=>.agg (A5 x)) (pI .i64) z3.values)),(48008,.map (A8 PV.str (pI .i64) z3.symbols)),(48007,.vec A0 3 z3.sounds.n (fun i=>A3 (z3.sounds.g i)) true),(48006,.map (A8 PV.str (pI .i64) z3.number)),(48005,.cells [.p (vSl 1 cS z3.feats),.mref 48006,.vec 48007,.mref 48008,.mref 48009]),(42005,.map (A8 (fun x=>.agg (A5 x)) (pI .i64) z2.values)),(42004,.map (A8 PV.str (pI .i64) z2.symbols)),(42003,.vec A0 3 z2.sounds.n (fun i=>A3 (z2.sounds.g i)) true),(42002,.map (A8 PV.str (pI .i64) z2.number)),(42001,.cells [.p (vSl 1 cS z2.feats),.mref 42002,.vec 42003,.mref 42004,.mref 42005]),(42000,.vec A0 3 y6.2.n (fun i=>A3 (y6.2.g i)) true),(6000,.cells [pU f.Plus,pU f.Minus])]⟩) (fun M1 k1 w h=>?_) (fun z4 h=>?_)
 .refine C4 Z Cb (b:=!y9) (fun c11=>?_) (fun c11=>?_)
  .replace h:=itT c11 h;exact w _ [(6000,6000),(42000,42000),(42001,42001),(42002,42002),(42003,42003),(42004,42004),(42005,42005),(48005,48005),(48006,48006),(48007,48007),(48008,48008),(48009,48009)] _ true Cb h
  replace h:=itF c11 h;obtain⟨a9,e13,h⟩:=D7 h;refine B2 Z [48005,48006,48007,48008,48009] Cb (H3 Z Y e13) ?_;obtain⟨b0,e14,h⟩:=D7 h;refine B2 Z [42001,42002,42003,42004,42005] Cb (H3 Z Y e14) ?_;obtain⟨a4,e15,h⟩:=D7 h;refine B2 Z [] Cb (J1 Z Y e15) ?_;exact w _ [(6000,6000),(42000,42000),(42001,42001),(42002,42002),(42003,42003),(42004,42004),(42005,42005),(48005,48005),(48006,48006),(48007,48007),(48008,48008),(48009,48009)] _ (!a4) Cb h
 refine A9 Z Cb (b:=z4) (fun c12=>?_) (fun c12=>?_)
 .replace h:=itT c12 h;obtain rfl:=B5 h;exact I1 Z Cb [] ⟨rfl,rfl,rfl⟩
 replace h:=itF c12 h;obtain⟨d,e16,h⟩:=D7 h;refine B2 Z [48005,48006,48007,48008,48009] Cb (H6 Z Y e16) ?_;refine Pm Z Cb (F6 Z) h 0 (fun z6=>⟨[(13,.reg 48005 0),(12,.vec 13500),(11,.reg 42001 0)],[(69002,.vec A0 3 d.2.sounds.n (fun i=>A3 (d.2.sounds.g i)) true),(48009,.map (A8 (fun x=>.agg (A5 x)) (pI .i64) d.2.values)),(48008,.map (A8 PV.str (pI .i64) d.2.symbols)),(48006,.map (A8 PV.str (pI .i64) d.2.number)),(48005,.cells [.p (vSl 1 cS d.2.feats),.mref 48006,.vec 69002,.mref 48008,.mref 48009]),(42005,.map (A8 (fun x=>.agg (A5 x)) (pI .i64) z6.1.values)),(42004,.map (A8 PV.str (pI .i64) z6.1.symbols)),(42002,.map (A8 PV.str (pI .i64) z6.1.number)),(42001,.cells [.p (vSl 1 cS z6.1.feats),.mref 42002,.vec 12501,.mref 42004,.mref 42005]),(13500,.vec A0 3 z6.2.n (fun i=>A3 (z6.2.g i)) true),(12501,.vec A0 3 z6.1.sounds.n (fun i=>A3 (z6.1.sounds.g i)) true)]⟩) (fun M3 k3 a0 h=>?_) (fun z6 h=>?_)
 .refine A9 Z Cb (b:=d.1==0) (fun c23=>?_) (fun c23=>?_)
  .replace h:=itT c23 h;obtain⟨a5,e28,h⟩:=D7 h;refine B2 Z [48005,48006,69002,48008,48009] Cb (X8 Z Y e28) ?_;refine Pm Z Cb (F6 Z) h 0 (fun z7=>⟨[(97,pB z7.2),(13,.reg 48005 0),(12,.vec 42000),(11,.reg 42001 0),(5,.reg 6000 0),(1,.p (.str a))],[(69002,.vec A0 3 d.2.sounds.n (fun i=>A3 (d.2.sounds.g i)) true),(48009,.map (A8 (fun x=>.agg (A5 x)) (pI .i64) d.2.values)),(48008,.map (A8 PV.str (pI .i64) d.2.symbols)),(48006,.map (A8 PV.str (pI .i64) d.2.number)),(48005,.cells [.p (vSl 1 cS d.2.feats),.mref 48006,.vec 69002,.mref 48008,.mref 48009]),(42005,.map (A8 (fun x=>.agg (A5 x)) (pI .i64) z7.1.values)),(42004,.map (A8 PV.str (pI .i64) z7.1.symbols)),(42002,.map (A8 PV.str (pI .i64) z7.1.number)),(42001,.cells [.p (vSl 1 cS z7.1.feats),.mref 42002,.vec 12500,.mref 42004,.mref 42005]),(42000,.vec A0 3 y6.2.n (fun i=>A3 (y6.2.g i)) true),(12500,.vec A0 3 z7.1.sounds.n (fun i=>A3 (z7.1.sounds.g i)) true),(6000,.cells [pU f.Plus,pU f.Minus])]⟩) (fun M4 k4 q h=>?_) (fun z7 h=>?_)
   .refine C4 Z Cb (b:=a5 != (wrap .i64 ((y6.2.n:Int)+1))) (fun c28=>?_) (fun c28=>?_)
    .replace h:=itT c28 h;exact q _ [(6000,6000),(12500,42003),(42000,42000),(42001,42001),(42002,42002),(42004,42004),(42005,42005),(48005,48005),(48006,48006),(48008,48008),(48009,48009),(69002,69002)] _ (z2,true) Cb h
    replace h:=itF c28 h;obtain⟨a6,e34,h⟩:=D7 h;refine B2 Z [42001,42002,42003,42004,42005] Cb (X8 Z Y e34) ?_;refine C4 Z Cb (b:=a6 != (y6.2.n:Int)) (fun c29=>?_) (fun c29=>?_)
    .replace h:=itT c29 h;exact q _ [(6000,6000),(12500,42003),(42000,42000),(42001,42001),(42002,42002),(42004,42004),(42005,42005),(48005,48005),(48006,48006),(48008,48008),(48009,48009),(69002,69002)] _ (z2,true) Cb h
    replace h:=itF c29 h;obtain⟨s,e35,h⟩:=D7 h;refine B2 Z [42001,42002,42003,42004,42005] Cb (H6 Z Y e35) ?_;refine C4 Z Cb (b:=s.1 != 0) (fun c30=>?_) (fun c30=>?_)
    .replace h:=itT c30 h;exact q _ [(6000,6000),(12500,88002),(42000,42000),(42001,42001),(42002,42002),(42004,42004),(42005,42005),(48005,48005),(48006,48006),(48008,48008),(48009,48009),(69002,69002)] _ (s.2,true) Cb h
    replace h:=itF c30 h;obtain⟨b1,e36,h⟩:=D7 h;refine B2 Z [42001,42002,88002,42004,42005] Cb (D5 Z Y e36) ?_;obtain⟨b2,e37,h⟩:=D7 h;refine B2 Z [48005,48006,69002,48008,48009] Cb (D5 Z Y e37) ?_;obtain⟨a7,e38,h⟩:=D7 h;refine B2 Z [] Cb (D3 Z Y e38) ?_;exact q _ [(6000,6000),(12500,88002),(42000,42000),(42001,42001),(42002,42002),(42004,42004),(42005,42005),(48005,48005),(48006,48006),(48008,48008),(48009,48009),(69002,69002)] _ (s.2,!a7) Cb h
   refine A9 Z Cb (b:=z7.2) (fun c31=>?_) (fun c31=>?_)
   .replace h:=itT c31 h;obtain rfl:=B5 h;exact I1 Z Cb [] ⟨rfl,rfl,rfl⟩
   replace h:=itF c31 h;obtain⟨c32,h⟩:=V4 h;exact a0 _ [(12501,12500),(13500,104000),(42001,42001),(42002,42002),(42004,42004),(42005,42005),(48005,48005),(48006,48006),(48008,48008),(48009,48009),(69002,69002)] _ (z7.1,y6.2.push (⟨a,f⟩:C8)) (QY Ce c32) h (by kernel_rfl) (by kernel_rfl) (klR [(9,.fn (y6.2.n+1) (y6.2.push (⟨a,f⟩:C8)).n (AS y6.2.n (fun i=>A3 (y6.2.g i)) (S7 [.str [],pI .u32 0,pI .u32 0] [(0,A3 (⟨a,f⟩:C8))])) (fun i=>A3 ((y6.2.push (⟨a,f⟩:C8)).g i)))] (al1 ⟨rfl,OV (c:=A3) (v:=y6.2) (x:=(⟨a,f⟩:C8)) (z:=[(.str []),pI .u32 0,pI .u32 0]) same rfl rfl⟩ al0))
  replace h:=itF c23 h;exact a0 _ [(12501,42003),(13500,42000),(42001,42001),(42002,42002),(42004,42004),(42005,42005),(48005,48005),(48006,48006),(48008,48008),(48009,48009),(69002,69002)] _ (z2,y6.2) Cb h
 refine Ng Z Cb 2 (unrT [fun t=>t=⟨[(108,pN 0),(107,pN 2),(106,.rsl 107000 2),(12,.vec 13500)],[(107000,.cells [.reg 42001 0,.reg 48005 0]),(69002,.vec A0 3 d.2.sounds.n (fun i=>A3 (d.2.sounds.g i)) true),(48009,.map (A8 (fun x=>.agg (A5 x)) (pI .i64) d.2.values)),(48008,.map (A8 PV.str (pI .i64) d.2.symbols)),(48006,.map (A8 PV.str (pI .i64) d.2.number)),(48005,.cells [.p (vSl 1 cS d.2.feats),.mref 48006,.vec 69002,.mref 48008,.mref 48009]),(42005,.map (A8 (fun x=>.agg (A5 x)) (pI .i64) z6.1.values)),(42004,.map (A8 PV.str (pI .i64) z6.1.symbols)),(42002,.map (A8 PV.str (pI .i64) z6.1.number)),(42001,.cells [.p (vSl 1 cS z6.1.feats),.mref 42002,.vec 12501,.mref 42004,.mref 42005]),(13500,.vec A0 3 z6.2.n (fun i=>A3 (z6.2.g i)) true),(12501,.vec A0 3 z6.1.sounds.n (fun i=>A3 (z6.1.sounds.g i)) true)]⟩/\(
  (A7 N z6.1).bind fun a8=>
  (A7 N z6.1).bind fun a1=>
  (A6 N a1 z6.2).bind fun u=>
  if (!u) then
   some false
  else
   (A7 N d.2).bind fun a2=>
   (A7 N d.2).bind fun r=>
   (A6 N r z6.2).bind fun l=>
   if (!l) then
    some false
   else
    (F4 N ).bind fun j=>
    some j
  )=some y,fun t=>t=⟨[(108,pN 1),(107,pN 2),(106,.rsl 107000 2),(12,.vec 13500)],[(107000,.cells [.reg 42001 0,.reg 48005 0]),(69002,.vec A0 3 d.2.sounds.n (fun i=>A3 (d.2.sounds.g i)) true),(48009,.map (A8 (fun x=>.agg (A5 x)) (pI .i64) d.2.values)),(48008,.map (A8 PV.str (pI .i64) d.2.symbols)),(48006,.map (A8 PV.str (pI .i64) d.2.number)),(48005,.cells [.p (vSl 1 cS d.2.feats),.mref 48006,.vec 69002,.mref 48008,.mref 48009]),(42005,.map (A8 (fun x=>.agg (A5 x)) (pI .i64) z6.1.values)),(42004,.map (A8 PV.str (pI .i64) z6.1.symbols)),(42002,.map (A8 PV.str (pI .i64) z6.1.number)),(42001,.cells [.p (vSl 1 cS z6.1.feats),.mref 42002,.vec 12501,.mref 42004,.mref 42005]),(13500,.vec A0 3 z6.2.n (fun i=>A3 (z6.2.g i)) true),(12501,.vec A0 3 z6.1.sounds.n (fun i=>A3 (z6.1.sounds.g i)) true)]⟩/\(
   (A7 N d.2).bind fun a2=>
   (A7 N d.2).bind fun r=>
   (A6 N r z6.2).bind fun l=>
   if (!l) then
    some false
   else
    (F4 N ).bind fun j=>
    some j
  )=some y,fun t=>t=⟨[(108,pN 2),(107,pN 2),(106,.rsl 107000 2),(12,.vec 13500)],[(107000,.cells [.reg 42001 0,.reg 48005 0]),(69002,.vec A0 3 d.2.sounds.n (fun i=>A3 (d.2.sounds.g i)) true),(48009,.map (A8 (fun x=>.agg (A5 x)) (pI .i64) d.2.values)),(48008,.map (A8 PV.str (pI .i64) d.2.symbols)),(48006,.map (A8 PV.str (pI .i64) d.2.number)),(48005,.cells [.p (vSl 1 cS d.2.feats),.mref 48006,.vec 69002,.mref 48008,.mref 48009]),(42005,.map (A8 (fun x=>.agg (A5 x)) (pI .i64) z6.1.values)),(42004,.map (A8 PV.str (pI .i64) z6.1.symbols)),(42002,.map (A8 PV.str (pI .i64) z6.1.number)),(42001,.cells [.p (vSl 1 cS z6.1.feats),.mref 42002,.vec 12501,.mref 42004,.mref 42005]),(13500,.vec A0 3 z6.2.n (fun i=>A3 (z6.2.g i)) true),(12501,.vec A0 3 z6.1.sounds.n (fun i=>A3 (z6.1.sounds.g i)) true)]⟩/\(
   (F4 N ).bind fun j=>
   some j
  )=some y]) ⟨[(108,pN 0),(107,pN 2),(106,.rsl 107000 2),(12,.vec 13500)],[(107000,.cells [.reg 42001 0,.reg 48005 0]),(69002,.vec A0 3 d.2.sounds.n (fun i=>A3 (d.2.sounds.g i)) true),(48009,.map (A8 (fun x=>.agg (A5 x)) (pI .i64) d.2.values)),(48008,.map (A8 PV.str (pI .i64) d.2.symbols)),(48006,.map (A8 PV.str (pI .i64) d.2.number)),(48005,.cells [.p (vSl 1 cS d.2.feats),.mref 48006,.vec 69002,.mref 48008,.mref 48009]),(42005,.map (A8 (fun x=>.agg (A5 x)) (pI .i64) z6.1.values)),(42004,.map (A8 PV.str (pI .i64) z6.1.symbols)),(42002,.map (A8 PV.str (pI .i64) z6.1.number)),(42001,.cells [.p (vSl 1 cS z6.1.feats),.mref 42002,.vec 12501,.mref 42004,.mref 42005]),(13500,.vec A0 3 z6.2.n (fun i=>A3 (z6.2.g i)) true),(12501,.vec A0 3 z6.1.sounds.n (fun i=>A3 (z6.1.sounds.g i)) true)]⟩ (ids:=[(12501,12501),(13500,13500),(42001,42001),(42002,42002),(42004,42004),(42005,42005),(48005,48005),(48006,48006),(48008,48008),(48009,48009),(69002,69002),(107000,107000)]) ⟨rfl,h⟩ (fun _ _ _ _ i _ t o ht a3=>?_)
 rcases i with _|_|_|i
 .obtain⟨rfl,h⟩:=ht;refine A9 Z Cb (b:=decide ((0:Int)<2)) (fun c41=>?_) (fun c41=>?_)
  .obtain⟨a8,e49,h⟩:=D7 h;refine B2 Z [42001,42002,12501,42004,42005] (by decide:(0:Int)<=0/\(0:Int)<((2:Nat):Int)) (D5 Z Y e49) ?_;obtain⟨a1,e50,h⟩:=D7 h;refine B2 Z [42001,42002,12501,42004,42005] Cb (D5 Z Y e50) ?_;obtain⟨u,e51,h⟩:=D7 h;refine B2 Z [] Cb (D3 Z Y e51) ?_;refine A9 Z Cb (b:=!u) (fun c42=>?_) (fun c42=>?_)
   .replace h:=itT c42 h;obtain rfl:=B5 h;exact I1 Z Cb [] ⟨rfl,rfl,rfl⟩
   replace h:=itF c42 h;exact a3 _ [(12501,12501),(13500,13500),(42001,42001),(42002,42002),(42004,42004),(42005,42005),(48005,48005),(48006,48006),(48008,48008),(48009,48009),(69002,69002),(107000,107000)] _ _ Cb rfl ⟨rfl,h⟩
  exact Bool.noConfusion ((by decide:decide ((0:Int)<2)=true).symm.trans c41)
 .obtain⟨rfl,h⟩:=ht;refine A9 Z Cb (b:=decide ((1:Int)<2)) (fun c39=>?_) (fun c39=>?_)
  .obtain⟨a2,e46,h⟩:=D7 h;refine B2 Z [48005,48006,69002,48008,48009] (by decide:(0:Int)<=1/\(1:Int)<((2:Nat):Int)) (D5 Z Y e46) ?_;obtain⟨r,e47,h⟩:=D7 h;refine B2 Z [48005,48006,69002,48008,48009] Cb (D5 Z Y e47) ?_;obtain⟨l,e48,h⟩:=D7 h;refine B2 Z [] Cb (D3 Z Y e48) ?_;refine A9 Z Cb (b:=!l) (fun c40=>?_) (fun c40=>?_)
   .replace h:=itT c40 h;obtain rfl:=B5 h;exact I1 Z Cb [] ⟨rfl,rfl,rfl⟩
   replace h:=itF c40 h;exact a3 _ [(12501,12501),(13500,13500),(42001,42001),(42002,42002),(42004,42004),(42005,42005),(48005,48005),(48006,48006),(48008,48008),(48009,48009),(69002,69002),(107000,107000)] _ _ Cb rfl ⟨rfl,h⟩
  exact Bool.noConfusion ((by decide:decide ((1:Int)<2)=true).symm.trans c39)
 .obtain⟨rfl,h⟩:=ht;refine A9 Z Cb (b:=decide ((2:Int)<2)) (fun c38=>?_) (fun c38=>?_)
  .exact Bool.noConfusion ((by decide:decide ((2:Int)<2)=false).symm.trans c38)
  obtain⟨j,e45,h⟩:=D7 h;refine B2 Z [] Cb (Cl Z Y e45) ?_;obtain rfl:=B5 h;exact I1 Z Cb [] ⟨rfl,rfl,rfl⟩
 exact Bw o (by omega)
end Go.AM
namespace Go.AM
variable {N:Nat}
open Go.Proofs
def FB (v:A2)(h:v.feats.n<=1000000):C7 N v=some v.feats:=by simp only[C7,B0,D1,Option.bind_some];rw[Bg,Ai];rfl
def Cn (v:A2)(h:v.sounds.n<=1000000):A7 N v=some v.sounds:=by simp only[A7,B0,D0,Option.bind_some];rw[Bg,Ai];rfl
def LO (s:Sl C8)(k:Nat):Kk s (k+1)=Kk s k++[((s.g k).Symbol,(k:Int))]:=by simp[Kk,List.range_succ]
def LP (s:Sl C8)(k:Nat):Kl s (k+1)=Kl s k++[((s.g k).S,(k:Int))]:=by simp[Kl,List.range_succ]
def PG {v:A2}(h:IOk v)(c:Dist v.sounds)(f:∀i j,i<v.feats.n->j<v.feats.n->v.feats.g i=v.feats.g j->i=j)(m:1000<=N) :H2 N v=some (some v):=by
 have h1:=h.feats;have o:=h.sounds;unfold H2;simp only[B0,B7,D2,Option.bind_some];rw[Bg,Ai,Ai];simp only[Option.bind_some];unfold MM OT;refine Bq (fun i:Nat=>(Gs v.feats i,(i:Int))) v.feats.n _ (by omega) fun b i l=>?_;dsimp only;by_cases hl:i<v.feats.n
 .rw[Bh (by simp only[Bz];omega),Ai,Bh hl,show (i:Int).toNat=i from rfl,Af,Hs];rw[X9 fun p hp=>?_];simp only[Gs,List.mem_map,List.mem_range]at hp;obtain⟨j,d,rfl⟩:=hp;rw[<- Bool.not_eq_true];intro a
  have:=f i j hl (by omega) (by simpa[eqS]using a)
  omega
 rw[Bv (by simp only[Bz];omega),Bv hl];obtain rfl:i=v.feats.n:=by omega
 refine Bq (fun i:Nat=>(Kk v.sounds i,Kl v.sounds i,(i:Int))) v.sounds.n _ (by omega) fun b i l=>?_;dsimp only;by_cases hl:i<v.sounds.n
 .rw[Bh (by simp only[Bz];omega),Ai,Bh hl,show (i:Int).toNat=i from rfl,Af,LO,LP];rw[X9 fun p hp=>?_,X9 fun p hp=>?_]
  .simp only[Kl,List.mem_map,List.mem_range]at hp;obtain⟨j,d,rfl⟩:=hp;rw[<- Bool.not_eq_true];intro a;rw[Py,Bz]at a
   have:=c i j hl (by omega) (.inr a)
   omega
  simp only[Kk,List.mem_map,List.mem_range]at hp;obtain⟨j,d,rfl⟩:=hp;rw[<- Bool.not_eq_true];intro a
  have:=c i j hl (by omega) (.inl (by simpa[eqS]using a))
  omega
 rw[Bv (by simp only[Bz];omega),Bv hl];obtain rfl:i=v.sounds.n:=by omega
 rw[<- h.number,<- h.symbols,<- h.values]
def Nr {i j:Nat}(a:i<24)(b:j<24)(h:(ER 24).g i=(ER 24).g j):i=j:=by rw[Jl 24 i a,Jl 24 j b]at h;have h1:=Jm 24 i (by omega) a;have c:=Jm 24 j (by omega) b;rw[h,c]at h1;exact (Option.some.inj h1).symm
def names3:Sl Str:=Sl.of [[111,110,101],[116,119,111],[116,104,114,101,101]]
def inv3:A2:=⟨names3,Gs names3 3,Sl.nil,[],[]⟩
def New3:L7 NN (Sl.of [[111,110,101],[116,119,111],[116,104,114,101,101]]:Sl Str)=some (some inv3,0,names3):=by kernel_rfl
def Kn (l:Sl Jj)(z:Str)(s:Cf)(hw:∀i,i<l.n->okS (l.g i).S)(hs:okS s)(hl:∀i,i<l.n->(l.g i).Symbol.length<2000000)(hn:l.n<2000000)(x:z.length<2000000) :F2 NN l z s=some true:=by
 have u:Inhabited A2:=⟨default⟩;have w:NN=4194304:=rfl;have e3:names3.n=3:=rfl;have f3:inv3.feats=names3:=rfl;unfold F2;rw[New3];simp only[Option.bind_some,G6];rw[Bg,Ai,FB _ (by rw[f3];omega),f3];simp only[Option.bind_some];rw[Bv (by simp[e3]),Ai];rw[show (Sl.of [[111,110,101],[116,119,111],[116,104,114,101,101]]:Sl Str)=names3 from rfl,EE names3 (by omega) (by omega)];simp only[Option.bind_some];rw[Bg,Nq l hw hl (by omega)];simp only[Option.bind_some,G6];have a:=LM l hw (min l.n 300) (by omega);have t:=Jn l hw (min l.n 300) (by omega);have f:=(Np l (min l.n 300)).1;have b:=(Np l (min l.n 300)).2;generalize grV l (min l.n 300)=v at a t f b;have h1:=a.feats;have y:=a.sounds;rw[PG a t (fun i j m o c=>by rw[b]at m o c;rw[DF]at m o;exact Nr m o c) (by omega)]
 simp only[Option.bind_some,G6];rw[Cn v (by omega),FB v (by omega)];simp only[Option.bind_some];rw[Bj v.sounds (by omega) (by omega),EE v.feats (by omega) (by omega)];simp only[Option.bind_some,lt];rw[Bg,Bg,QK a z hs (by omega) (by omega)];simp only[Option.bind_some];by_cases d:Oa v.feats.n v.sounds z s=0
 .have hp:(PB v z s).sounds=v.sounds.push ⟨z,s⟩:=rfl;have r:(v.sounds.push (⟨z,s⟩:C8)).n=v.sounds.n+1:=rfl;have q:=Bj (N:=NN) (v.sounds.push (⟨z,s⟩:C8)) (by omega) (by omega);rw[Bh d,Bh (by simp[d]),LJ,LJ,hp,r];simp only[Option.bind_some];rw[Af,Bg,Bg]
  try simp only[Option.bind_some]
  rw[Bv (by simp[d]),Cn _ (by rw[hp];omega),hp];simp only[Option.bind_some,q];rw[Bg,Bh (by simp only[Sl.of,List.length_cons,List.length_nil];omega)];simp[LD]
 rw[Bv d,Bv (by simp[d]),Cn v (by omega)];simp only[Option.bind_some,Bj v.sounds (show v.sounds.n<NN by omega) (by omega),LD];simp
end Go.AM
