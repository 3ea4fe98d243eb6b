/- Part 7. -/
import Derived.Test.YtodhnkfgkgkngaaGreatDoorXF
import Derived.Test.YtodhnkfgkgkngaaGreatDoorXD
import Derived.Test.YtodhnkfgkgkngaaGreatDoorXE
set_option linter.defProp false
set_option linter.unusedSimpArgs false
set_option linter.unusedVariables false
set_option linter.unusedSectionVars false
namespace Go.AM
open Go.Proofs.Tryz
abbrev Nc:Sl (Sl Nd):=Sl.nil
abbrev Nb:Sl Nd:=Sl.nil
def Kx:(3:Nat)<=3:=by decide
def Kv:(1:Nat)<=1:=by decide
variable {N:Nat}
open IntKind (wrap)
open Go.Proofs
set_option maxRecDepth 10000
set_option maxHeartbeats 2000000
variable {S:Q8}(W:F5 S Tryz.prog) (V:Ip S)
include W V
def XV (c:Int):Option PV:=if c=0 then none else some (.iface 149 (pI .i64 c))
def AQ (N:Nat)(c:Int)(q0:Sl Nd)(q1:Sl Law):Option (List (Int×(Sl Nd))):= (A8 N q0).bind fun y1=>HV (0,y1) (BQ N (fun a (x1:Sl Nd) (x2:Int)=>if (decide (x2<(q1.n:Int))) then if ((0:Int)<=x2/\x2<(q1.n:Int))then (FI N (q1.g x2.toNat) x1).bind fun y4=>if (y4.2 != 0) then if y4.2=c then some []else none else HV (wrap .i64 (x2+1),y4.1) (a y4.1 (wrap .i64 (x2+1))) else none else if c=0 then some []else none) y1 0)
theorem DP {q0:Sl Nd}{q1:Sl Law}{c:Int}{L:List (Int×(Sl Nd))}(h:AQ N c q0 q1=some L) :Jd S N2 [] [.reg 0 0,.reg 1 0] [.cells [.p (vSl 2 A0 q0)],.cells [.p (vSl 18 A7 q1)]] (L.map (fun (x:Int×(Sl Nd))=>[pI .i64 x.1,vSl 2 A0 x.2])) (XV c):=by
 unfold AQ at h;refine VA W func144 ?_;refine kC W h (F8 W V) (fun y1 h=>?_);obtain⟨L1,rfl,d⟩:=MP h;replace h:=d;refine Dh W Jy (ys:=(fun (x:Int×(Sl Nd))=>[pI .i64 x.1,vSl 2 A0 x.2]) (0,y1)) (rest:=L1.map (fun (x:Int×(Sl Nd))=>[pI .i64 x.1,vSl 2 A0 x.2])) ?_ ?_
 .refine E1 W Jy (b:=false) (fun c1=>?_) (fun c1=>?_)
  .exact Bool.noConfusion ((rfl:false=false).symm.trans c1)
  refine MQ W Jy h (fun x1 x2 L2=>⟨[(17,pN x2),(16,pN (q1.n:Int)),(15,.p (vSl 18 A7 q1)),(4,.p (vSl 2 A0 x1)),(0,.yf 2)],[(2,.yld (L2.map (fun (x:Int×(Sl Nd))=>[pI .i64 x.1,vSl 2 A0 x.2])) true),(1,.cells [.p (vSl 18 A7 q1)]),(0,.cells [.p (vSl 2 A0 q0)])]⟩) (ids:=[(0,0),(1,1),(2,2)]) (fun _ _ _ _ _ g x1 x2 L2 i h=>?_);apply kI W h<;>intro h
  .obtain⟨c13,h⟩:=E2 h;obtain⟨y4,e4,h⟩:=B7 h;refine B9 W [] (And.intro c13 Kz) (Re W V e4) ?_;refine E1 W Jy (b:=y4.2 != 0) (fun c14=>?_) (fun c14=>?_)
   .replace h:=itT c14 h;obtain⟨c0,h⟩:=E2 h;obtain rfl:=C6 h;have j:XV c=some (.iface 149 (pI .i64 y4.2)):=by
     have:¬y4.2=0:=by simpa using c14
     rw[<- c0];simp[XV,this]
    refine ZS W Jy (x:=.iface 149 (pI .i64 y4.2)) ?_;exact YJ W Jy (x:=.iface 149 (pI .i64 y4.2)) (objs:=[(.cells [.p (vSl 2 A0 q0)]),.cells [.p (vSl 18 A7 q1)],.yld [] true]) [0,1,2] ⟨true,rfl,rfl,fun _=>by rw[j];rfl,fun e=>nomatch e⟩
   replace h:=itF c14 h;obtain⟨L5,rfl,f⟩:=MP h;replace h:=f;refine Dh W Jy (ys:=(fun (x:Int×(Sl Nd))=>[pI .i64 x.1,vSl 2 A0 x.2]) (wrap .i64 (x2+1),y4.1)) (rest:=L5.map (fun (x:Int×(Sl Nd))=>[pI .i64 x.1,vSl 2 A0 x.2])) ?_ ?_
   .refine E1 W Jy (b:=false) (fun c15=>?_) (fun c15=>?_)
    .exact Bool.noConfusion ((rfl:false=false).symm.trans c15)
    exact i _ [(0,0),(1,1),(2,2)] _ y4.1 (wrap .i64 (x2+1)) L5 Jy h
   refine E1 W Jy (b:=true) (fun c16=>?_) (fun c16=>?_)
   .exact A9 W Jy (a:=.tup []) (objs:=[(.cells [.p (vSl 2 A0 q0)]),.cells [.p (vSl 18 A7 q1)],.yld [] false]) ⟨[],[(2,.yld [] false),(1,.cells [.p (vSl 18 A7 q1)]),(0,.cells [.p (vSl 2 A0 q0)])]⟩ [0,1,2] (ids:=[(0,0),(1,1),(2,2)]) ⟨false,rfl,rfl,fun e=>(nomatch e),fun _=>⟨_,rfl⟩⟩
   exact Bool.noConfusion (L7.symm.trans c16)
  obtain⟨c0,h⟩:=E2 h;obtain rfl:=C6 h;exact A9 W Jy (a:=.tup []) (objs:=[(.cells [.p (vSl 2 A0 q0)]),.cells [.p (vSl 18 A7 q1)],.yld [] true]) ⟨[],[(2,.yld [] true),(1,.cells [.p (vSl 18 A7 q1)]),(0,.cells [.p (vSl 2 A0 q0)])]⟩ [0,1,2] (ids:=[(0,0),(1,1),(2,2)]) ⟨true,rfl,rfl,fun _=>by subst c0;exact⟨_,rfl⟩,fun e=>(nomatch e)⟩
 refine E1 W Jy (b:=true) (fun c17=>?_) (fun c17=>?_)
 .exact A9 W Jy (a:=.tup []) (objs:=[(.cells [.p (vSl 2 A0 q0)]),.cells [.p (vSl 18 A7 q1)],.yld [] false]) ⟨[],[(2,.yld [] false),(1,.cells [.p (vSl 18 A7 q1)]),(0,.cells [.p (vSl 2 A0 q0)])]⟩ [0,1,2] (ids:=[(0,0),(1,1),(2,2)]) ⟨false,rfl,rfl,fun e=>(nomatch e),fun _=>⟨_,rfl⟩⟩
 exact Bool.noConfusion (L7.symm.trans c17)
def Ct (N:Nat)(a:Sl Law)(b:Sl Nd):Option ((Sl Nd)×(Sl Law)):= some (b,a)
theorem Fh {a:Sl Law}{b:Sl Nd}{y:(Sl Nd)×(Sl Law)}(h:Ct N a b=some y) :FunO S Fe [.p (vSl 18 A7 a),.p (vSl 2 A0 b)] [] (.clo N2 [] [.reg 0 0,.reg 1 0]) ([.cells [.p (vSl 2 A0 y.1)],.cells [.p (vSl 18 A7 y.2)]]) []:=by unfold Ct at h;refine A4 W func128 ?_;obtain rfl:=C6 h;exact A9 W Jy ⟨[(4,.clo N2 [] [.reg 4000 0,.reg 3000 0])],[(4000,.cells [.p (vSl 2 A0 b)]),(3000,.cells [.p (vSl 18 A7 a)])]⟩ [4000,3000] (ids:=[(3000,3000),(4000,4000)]) ⟨rfl,rfl,rfl⟩
def J6 (N:Nat)(c:Int)(a:Sl Law)(d:Sl Nd):Option (Sl Nd):= (Ct N a d).bind fun y1=>(AQ N c y1.1 y1.2).bind fun L1=>AB L1 (fun b (x1:Int×(Sl Nd)) (z1:Sl Nd)=>b x1.2) (fun (z1:Sl Nd)=>some z1) Nb
theorem Hk {a:Sl Law}{b:Sl Nd}{y:Sl Nd}(h:J6 N 0 a b=some y) :FunO S G8 [.p (vSl 18 A7 a),.p (vSl 2 A0 b)] [] (.p (vSl 2 A0 y)) ([]) []:=by
 unfold J6 at h;refine A4 W func111 ?_;refine kC W h (Fh W V) (fun y1 h=>?_);obtain⟨L1,e2,h⟩:=B7 h;have f:Jd S N2 [] [.reg 0 0,.reg 1 0] [.cells [.p (vSl 2 A0 y1.1)],.cells [.p (vSl 18 A7 y1.2)]] (L1.map (fun (x:Int×(Sl Nd))=>[pI .i64 x.1,vSl 2 A0 x.2])) none:=DP W V e2;refine Sm W Jy [8000,8001] [4] 901 (fun z1=>⟨[(4,.reg 5000 0)],[(5000,.cells [.p (vSl 2 A0 z1)])]⟩) (idl:=[(5000,5000)]) h f (fun _=>by kernel_rfl) (fun _=>by kernel_rfl) (fun _=>by kernel_rfl) (fun _=>by kernel_rfl) (fun x1 _ c z1 d h=>?_) (fun z1 h=>?_)
 .refine Jc W Jy ?_;exact d _ [(901,901),(5000,5000)] _ x1.2 Jy h
 cases h;exact kR W
theorem Hl {c:Int}{a:Sl Law}{b:Sl Nd}{y:Sl Nd}(hc:c≠0)(h:J6 N c a b=some y) :S.F G8 [.p (vSl 18 A7 a),.p (vSl 2 A0 b)] [] fun res o k=>res=.panic (.iface 149 (pI .i64 c))/\o=[]/\k=[]:=by
 unfold J6 at h;refine XR W func111 ?_;refine kC W h (Fh W V) (fun y1 h=>?_);obtain⟨L1,e2,h⟩:=B7 h;have g:Jd S N2 [] [.reg 0 0,.reg 1 0] [.cells [.p (vSl 2 A0 y1.1)],.cells [.p (vSl 18 A7 y1.2)]] (L1.map (fun (x:Int×(Sl Nd))=>[pI .i64 x.1,vSl 2 A0 x.2])) (some (.iface 149 (pI .i64 c))):=by
  have:=DP W V e2
  simpa[XV,hc]using this
 refine Sm W Jy [8000,8001] [4] 901 (fun z1=>⟨[(4,.reg 5000 0)],[(5000,.cells [.p (vSl 2 A0 z1)])]⟩) (idl:=[(5000,5000)]) h g (fun _=>by kernel_rfl) (fun _=>by kernel_rfl) (fun _=>by kernel_rfl) (fun _=>by kernel_rfl) (fun x1 _ d z1 f h=>?_) (fun z1 h=>?_)
 .refine Jc W Jy ?_;exact f _ [(901,901),(5000,5000)] _ x1.2 Jy h
 exact YJ W Jy (x:=.iface 149 (pI .i64 c)) (objs:=[]) [] ⟨rfl,rfl,rfl⟩
def AR (N:Nat)(a:Sl Law)(b:Sl Nd):Option ((Sl Nd)×Bool):=
 match J6 N 0 a b with
 |some y=>some (y,true)
 |none=>(J6 N 11 a b).bind fun _=>some (Nb,false)
theorem Id {b:Sl Law}{c:Sl Nd}{y:(Sl Nd)×Bool}(h:AR N b c=some y) :FunO S DL [.p (vSl 18 A7 b),.p (vSl 2 A0 c)] [] (.tup [.p (vSl 2 A0 y.1),pB y.2]) ([]) []:=by
 unfold AR at h;refine A4 W func82 ?_;rcases e:J6 N 0 b c with _|z
 .rw[e]at h;obtain⟨z,e1,h⟩:=B7 h;obtain rfl:=C6 h;refine B9 W [7000,3000,4000,5000] Jy (V.attP (Hl W V (by decide) e1)) ?_;refine G7 W Jy [(0,.l [5000]),(1,.l [7000]),(3,.a [5000])] ?_;refine H9 Jy ?_;exact A9 W Jy ⟨[(5,pB false),(4,.reg 5000 0)],[(5000,.cells [.p (vSl 2 A0 Sl.nil)])]⟩ [] (ids:=[(5000,5000)]) ⟨rfl,rfl,rfl⟩
 rw[e]at h;obtain rfl:=C6 h;refine B9 W [7000,3000,4000,5000] Jy (V.attR (Hk W V e)) ?_;refine G7 W Jy [(0,.l [5000]),(1,.l [7000]),(3,.a [5000])] ?_;refine H9 Jy ?_;exact A9 W Jy ⟨[(5,pB true),(4,.reg 5000 0)],[(5000,.cells [.p (vSl 2 A0 z)])]⟩ [] (ids:=[(5000,5000)]) ⟨rfl,rfl,rfl⟩
end Go.AM
namespace Go.AM
open Go.Proofs
set_option maxRecDepth 10000
set_option maxHeartbeats 2000000
variable {S:Q8}(W:F5 S Tryz.prog) (V:Ip S)
include W V
def Z2 (N:Nat)(a:Sl Law)(b:Sl Nd):Option ((Sl Nd)×Int):= (Cs N a (Sl.of [b]:Sl (Sl Nd))).bind fun y1=>if (y1 != 0) then some (Nb,y1) else (AR N a b).bind fun y2=>if (!y2.2) then some (Nb,11) else some (y2.1,0)
theorem Eu {N:Nat}{a:Sl Law}{b:Sl Nd}{y:(Sl Nd)×Int}(h:Z2 N a b=some y) :FunO S Ef [.p (vSl 18 A7 a),.p (vSl 2 A0 b)] [] (.tup [.p (vSl 2 A0 y.1),pN y.2]) ([]) []:=by
 unfold Z2 at h;refine A4 W Tryz.func32 ?_;refine BR W L7 ⟨[(11,.vec 12000),(9,.p (vSl 18 A7 a)),(1,.p (vSl 2 A0 b)),(0,.p (vSl 18 A7 a))],[(12000,.vec B4 1 (Sl.of [b]:Sl (Sl Nd)).n (fun i=>cL 2 A0 ((Sl.of [b]:Sl (Sl Nd)).g i)) false)]⟩ (ids:=[(12000,12000)]) ?_ (hle:=klR [(3,.fn 1 (Sl.of [b]:Sl (Sl Nd)).n (E5 [E3] [(0,cL 2 A0 b)]) (fun i=>cL 2 A0 ((Sl.of [b]:Sl (Sl Nd)).g i)))] (al1 ⟨rfl,(fun i c=>match i,c with|0,_=>rfl|_+1,c=>Jo c (by omega))⟩ al0));refine kC W h (KS W V) (fun y1 h=>?_);apply kI W h<;>intro h
 .obtain rfl:=C6 h;exact A9 W Jy ⟨[(5,pN y1),(4,.p (vSl 2 A0 Nb))],[]⟩ [] (ids:=[]) ⟨rfl,rfl,rfl⟩
 refine kC W h (Id W V) (fun y2 h=>?_);apply kI W h<;>intro h
 .obtain rfl:=C6 h;exact A9 W Jy ⟨[(5,pN 11),(4,.p (vSl 2 A0 Nb))],[]⟩ [] (ids:=[]) ⟨rfl,rfl,rfl⟩
 cases h;exact kR W
end Go.AM
namespace Go.AM
open Go.Proofs.Tryz
variable {N:Nat}
open IntKind (wrap)
open Go.Proofs
set_option maxRecDepth 10000
set_option maxHeartbeats 2000000
variable {S:Q8}(W:F5 S Tryz.prog) (V:Ip S)
include W V
def Ev (N:Nat)(a:Int):Option Bool:= some (((((decide (97<=a))&&(decide (a<=122)))||((decide (65<=a))&&(decide (a<=90))))||((decide (48<=a))&&(decide (a<=57))))||(a==45))
theorem Pr {b:Int}{y:Bool}(h:Ev N b=some y) :FunO S HL [.p (pI .u8 b)] [] (pB y) ([]) []:=by unfold Ev at h;refine A4 W func129 ?_;refine kB W (A6 W) Jy Jy 23 (.o (.o (.o (.n (.a (decide (97<=b))) (.a (decide (b<=122)))) (.n (.a (decide (65<=b))) (.a (decide (b<=90))))) (.n (.a (decide (48<=b))) (.a (decide (b<=57))))) (.a (b==45))) ?_;cases h;exact kR W
def Bo (N:Nat)(a:Str):Option Bool:= R4 N (fun b (x1:Int)=>if (decide (x1<(a.length:Int))) then if ((0:Int)<=x1/\x1<(a.length:Int))then (Ev N (U2 a x1)).bind fun y3=>if (!y3) then some false else b (wrap .i64 (x1+1)) else none else some ((decide (1<=(a.length:Int)))&&(decide ((a.length:Int)<=24)))) 0
theorem Mb {b:Str}{y:Bool}(h:Bo N b=some y) :FunO S LU [.p (.str b)] [] (pB y) ([]) []:=by
 unfold Bo at h;refine A4 W func113 ?_;refine I0 W Jy h (fun x1=>⟨[(3,pN x1),(0,.p (.str b))],[]⟩) (ids:=[]) (fun _ _ _ _ _ c x1 d h=>?_);apply kI W h<;>intro h
 .obtain⟨c8,h⟩:=E2 h;obtain⟨y3,e3,h⟩:=B7 h;refine B9 W [] c8 (Pr W V e3) ?_;apply kI W h<;>intro h
  .cases h;exact kR W
  exact d _ [] _ (wrap .i64 (x1+1)) Jy h
 refine kB W (A6 W) Jy Jy 4 (.n (.a (decide (1<=(b.length:Int)))) (.a (decide ((b.length:Int)<=24)))) ?_;cases h;exact kR W
def Am (N:Nat)(a:Sl G2):Option Int:= if ((decide ((a.n:Int)<1))=false->((decide (63<(a.n:Int)))=false->((0:Int)<=0/\0<(a.n:Int))))then if (((decide ((a.n:Int)<1))||(decide (63<(a.n:Int))))||((a.g 0).Parent != (-1))) then some 16 else R4 N (fun b (x3:Int)=>if (decide (x3<(a.n:Int))) then lt (fun (z3:Bool)=>if z3 then some 16 else R4 N (fun c (x7:Int)=>if (decide (x7<x3)) then if (((0:Int)<=x7/\x7<(a.n:Int))/\((0:Int)<=x3/\x3<(a.n:Int)))then if (((a.g x7.toNat).Name==(a.g x3.toNat).Name) != false) then some 16 else c (wrap .i64 (x7+1)) else none else b (wrap .i64 (x3+1))) 0) fun k3=>if (decide (0<x3)) then if ((0:Int)<=x3/\x3<(a.n:Int))then if (decide ((a.g x3.toNat).Parent<0)) then k3 true else if ((0:Int)<=x3/\x3<(a.n:Int))then if (decide (x3<=(a.g x3.toNat).Parent)) then k3 true else if ((0:Int)<=x3/\x3<(a.n:Int))then (Bo N (a.g x3.toNat).Name).bind fun d=>k3 (!d) else none else none else none else if ((0:Int)<=x3/\x3<(a.n:Int))then (Bo N (a.g x3.toNat).Name).bind fun f=>k3 (!f) else none else some 0) 0 else none
theorem Rf {c:Sl G2}{y:Int}(h:Am N c=some y) :FunO S Jt [.p (vSl 2 B0 c)] [] (pN y) ([]) []:=by
 unfold Am at h;refine A4 W func85 ?_;obtain⟨c1,h⟩:=E2 h;refine kB W (A6 W) Jy c1 11 (.o (.o (.a (decide ((c.n:Int)<1))) (.a (decide (63<(c.n:Int))))) (.a ((c.g 0).Parent != (-1)))) ?_;apply kI W h<;>intro h
 .cases h;exact kR W
 refine I0 W Jy h (fun x3=>⟨[(3,pN x3),(0,.p (vSl 2 B0 c))],[]⟩) (ids:=[]) (fun _ _ _ _ _ f x3 i h=>?_);apply kI W h<;>intro h
 .refine Hd W Jy (A6 W) h 0 (fun z3=>⟨[(53,pB z3),(3,pN x3),(0,.p (vSl 2 B0 c))],[]⟩) (fun M3 k3 d h=>?_) (fun z3 h=>?_)
  .refine kG W h (fun h=>?_) (fun h=>?_)
   .obtain⟨c71,h⟩:=E2 h;refine Df W c71 (b:=decide ((c.g x3.toNat).Parent<0)) (fun c72=>?_) (fun c72=>?_)
    .replace h:=itT c72 h;exact d _ [] _ true Jy h
    replace h:=itF c72 h;obtain⟨c73,h⟩:=E2 h;refine Df W c73 (b:=decide (x3<=(c.g x3.toNat).Parent)) (fun c74=>?_) (fun c74=>?_)
    .replace h:=itT c74 h;exact d _ [] _ true Jy h
    replace h:=itF c74 h;obtain⟨c75,h⟩:=E2 h;obtain⟨j,e11,h⟩:=B7 h;refine B9 W [] c75 (Mb W V e11) ?_;exact d _ [] _ (!j) Jy h
   obtain⟨c76,h⟩:=E2 h;obtain⟨l,e12,h⟩:=B7 h;refine B9 W [] c76 (Mb W V e12) ?_;exact d _ [] _ (!l) Jy h
  apply kI W h<;>intro h
  .cases h;exact kR W
  refine I0 W Jy h (fun x7=>⟨[(4,pN x7),(3,pN x3),(0,.p (vSl 2 B0 c))],[]⟩) (ids:=[]) (fun _ _ _ _ _ m x7 q h=>?_);apply kI W h<;>intro h
  .refine E9 W Jy [2,4,7,9] ?_;obtain⟨c85,h⟩:=E2 h;refine H9 c85 ?_;apply kI W h<;>intro h
   .cases h;exact kR W
   exact q _ [] _ (wrap .i64 (x7+1)) Jy h
  exact i _ [] _ (wrap .i64 (x3+1)) Jy h
 cases h;exact kR W
def S5 (rec:A5->Int->Option (Sl Int))(N:Nat)(b:A5)(a:Int):Option (Sl Int):= if (decide (a<0)) then some Na else if ((0:Int)<=a/\a<(b.Tree.n:Int))then (rec b (b.Tree.g a.toNat).Parent).bind fun y1=>if (((0:Int)<=a/\a<(b.On.n:Int))/\((y1.n+(b.On.g a.toNat).n)*8<=140737488355328/\y1.n+(b.On.g a.toNat).n<=140737488355328))then some (y1.app (b.On.g a.toNat)) else none else none
def An:Nat->A5->Int->Option (Sl Int)
 |0=>fun _ _=>none
 |N+1=>S5 (An N) N
theorem Rg {rec:A5->Int->Option (Sl Int)}(d:∀{a:A5}{b:Int}{y:Sl Int},rec a b=some y->FunO S EJ [.p (.agg (A2 a)),pN b] [] (.vec 0) ([.vec B2 1 y.n (fun i=>cI .i64 (y.g i)) true]) []){a:A5}{b:Int}{y:Sl Int}(h:S5 rec N a b=some y) :FunO S EJ [.p (.agg (A2 a)),pN b] [] (.vec 0) ([.vec B2 1 y.n (fun i=>cI .i64 (y.g i)) true]) []:=by
 unfold S5 at h;refine A4 W func84 ?_;refine I1 W Jy 4 3000 (A2 a) ?_;apply kI W h<;>intro h
 .obtain rfl:=C6 h;exact A9 W Jy ⟨[(4,.vec 5700)],[(5700,.vec B2 1 Na.n (fun i=>cI .i64 (Na.g i)) true)]⟩ [5700] (ids:=[]) ⟨rfl,rfl,rfl⟩
 refine E9 W Jy [0,2,4,6,9,11,12] ?_;obtain⟨c2,h⟩:=E2 h;obtain⟨y1,e1,h⟩:=B7 h;refine Ja [] (And.intro Kx c2) (d e1) ?_;obtain⟨c3,h⟩:=E2 h;refine H9 c3 ?_;obtain rfl:=C6 h;exact A9 W Jy ⟨[(4,.vec 21000)],[(21000,.vec B2 1 (y1.app (a.On.g b.toNat)).n (fun i=>cI .i64 ((y1.app (a.On.g b.toNat)).g i)) true)]⟩ [21000] (ids:=[(21000,21000)]) ⟨rfl,rfl,rfl⟩ (hle:=klR [(0,.fn (y1.n+(a.On.g b.toNat).n) (y1.app (a.On.g b.toNat)).n (U3 y1.n (fun i=>cI .i64 (y1.g i)) (fun i=>cI .i64 ((a.On.g b.toNat).g i))) (fun i=>cI .i64 ((y1.app (a.On.g b.toNat)).g i)))] (al1 ⟨rfl,appL (c:=cI .i64) (v:=y1) (w:=a.On.g b.toNat) same rfl same rfl⟩ al0))
theorem TW {a:A5}{b:Int}{y:Sl Int}(h:An N a b=some y) :FunO S EJ [.p (.agg (A2 a)),pN b] [] (.vec 0) ([.vec B2 1 y.n (fun i=>cI .i64 (y.g i)) true]) []:=by
 induction N generalizing a b y with
 |zero=>cases (show (none:Option (Sl Int))=some y from h)
 |succ N ih=>exact Rg W V (fun e=>ih e) h
def Ao (N:Nat)(a:A5):Option Int:= (Am N a.Tree).bind fun y1=>if (y1 != 0) then some 16 else if (decide (64<(a.Laws.n:Int))) then some 12 else R4 N (fun d (x1:Int)=>if (decide (x1<(a.Laws.n:Int))) then if ((0:Int)<=x1/\x1<(a.Laws.n:Int))then (Ak N (a.Laws.g x1.toNat)).bind fun y4=>if (y4 != 0) then some 17 else d (wrap .i64 (x1+1)) else none else R4 N (fun f (x3:Int)=>if (decide (x3<(a.Laws.n:Int))) then R4 N (fun i (x5:Int)=>if (decide (x5<x3)) then if (((0:Int)<=x3/\x3<(a.Laws.n:Int))/\((0:Int)<=x5/\x5<(a.Laws.n:Int)))then if (((a.Laws.g x3.toNat).Name==(a.Laws.g x5.toNat).Name) != false) then some 6 else i (wrap .i64 (x5+1)) else none else f (wrap .i64 (x3+1))) 0 else if ((a.On.n:Int) != (a.Tree.n:Int)) then some 2 else R4 N (fun j (x6:Int)=>if (decide (x6<(a.On.n:Int))) then (An N a x6).bind fun y7=>if (decide (64<(y7.n:Int))) then some 2 else j (wrap .i64 (x6+1)) else R4 N (fun l (x8:Int)=>if (decide (x8<(a.On.n:Int))) then R4 N (fun c (b:Int)=>if ((0:Int)<=x8/\x8<(a.On.n:Int))then if (decide (b<((a.On.g x8.toNat).n:Int))) then if (((0:Int)<=x8/\x8<(a.On.n:Int))/\((0:Int)<=b/\b<((a.On.g x8.toNat).n:Int)))then if (decide (((a.On.g x8.toNat).g b.toNat)<0)) then some 3 else if (((0:Int)<=x8/\x8<(a.On.n:Int))/\((0:Int)<=b/\b<((a.On.g x8.toNat).n:Int)))then if (decide ((a.Laws.n:Int)<=((a.On.g x8.toNat).g b.toNat))) then some 3 else c (wrap .i64 (b+1)) else none else none else l (wrap .i64 (x8+1)) else none) 0 else some 0) 0) 0) 0) 0
theorem Rh {a:A5}{y:Int}(h:Ao N a=some y) :FunO S Jp [.p (.agg (A2 a))] [] (pN y) ([]) []:=by
 unfold Ao at h;refine A4 W func54 ?_;refine I1 W Jy 2 2000 (A2 a) ?_;refine kC W h (Rf W V) (fun y1 h=>?_);apply kI W h<;>intro h
 .cases h;exact kR W
 apply kI W h<;>intro h
 .cases h;exact kR W
 refine I0 W Jy h (fun x1=>⟨[(3,pN x1),(1,.p (.ptr (A2 a)))],[]⟩) (ids:=[]) (fun _ _ _ _ _ i x1 j h=>?_);apply kI W h<;>intro h
 .obtain⟨c10,h⟩:=E2 h;obtain⟨y4,e4,h⟩:=B7 h;refine B9 W [] (And.intro c10 Kz) (QY W V e4) ?_;apply kI W h<;>intro h
  .cases h;exact kR W
  exact j _ [] _ (wrap .i64 (x1+1)) Jy h
 refine I0 W Jy h (fun x3=>⟨[(4,pN x3),(1,.p (.ptr (A2 a)))],[]⟩) (ids:=[]) (fun _ _ _ _ _ l x3 m h=>?_);apply kI W h<;>intro h
 .refine I0 W Jy h (fun x5=>⟨[(5,pN x5),(4,pN x3),(1,.p (.ptr (A2 a)))],[]⟩) (ids:=[]) (fun _ _ _ _ _ o x5 q h=>?_);apply kI W h<;>intro h
  .refine E9 W Jy [1,3,5,7,9,11] ?_;obtain⟨c40,h⟩:=E2 h;refine H9 c40 ?_;apply kI W h<;>intro h
   .cases h;exact kR W
   exact q _ [] _ (wrap .i64 (x5+1)) Jy h
  exact m _ [] _ (wrap .i64 (x3+1)) Jy h
 apply kI W h<;>intro h
 .cases h;exact kR W
 refine I0 W Jy h (fun x6=>⟨[(6,pN x6),(1,.p (.ptr (A2 a)))],[]⟩) (ids:=[]) (fun _ _ _ _ _ r x6 s h=>?_);apply kI W h<;>intro h
 .obtain⟨y7,e7,h⟩:=B7 h;refine B9 W [] Kx (TW W V e7) ?_;apply kI W h<;>intro h
  .cases h;exact kR W
  exact s _ [] _ (wrap .i64 (x6+1)) Jy h
 refine I0 W Jy h (fun x8=>⟨[(7,pN x8),(1,.p (.ptr (A2 a)))],[]⟩) (ids:=[]) (fun _ _ _ _ _ t x8 u h=>?_);apply kI W h<;>intro h
 .refine I0 W Jy h (fun c=>⟨[(8,pN c),(7,pN x8),(1,.p (.ptr (A2 a)))],[]⟩) (ids:=[]) (fun _ _ _ _ _ f c d h=>?_);obtain⟨c100,h⟩:=E2 h;refine E1 W c100 (b:=decide (c<((a.On.g x8.toNat).n:Int))) (fun c101=>?_) (fun c101=>?_)
  .replace h:=itT c101 h;refine E9 W Jy [1,3,4,6,7,11,13,14,16,17,19] ?_;obtain⟨c102,h⟩:=E2 h;refine ZM c102 (b:=decide (((a.On.g x8.toNat).g c.toNat)<0)) (fun c103=>?_) (fun c103=>?_)
   .replace h:=itT c103 h;refine H9 Jy ?_;cases h;exact kR W
   replace h:=itF c103 h;obtain⟨c104,h⟩:=E2 h;refine H9 c104 ?_;apply kI W h<;>intro h
   .cases h;exact kR W
   exact d _ [] _ (wrap .i64 (c+1)) Jy h
  replace h:=itF c101 h;exact u _ [] _ (wrap .i64 (x8+1)) Jy h
 cases h;exact kR W
def Bp (N:Nat)(b:A5)(a:Int):Option Bool:= some ((decide (0<=a))&&(decide (a<(b.Tree.n:Int))))
theorem TX {c:A5}{b:Int}{y:Bool}(h:Bp N c b=some y) :FunO S LQ [.p (.agg (A2 c)),pN b] [] (pB y) ([]) []:=by unfold Bp at h;refine A4 W func63 ?_;refine kB W (A6 W) Jy Jy 6 (.n (.a (decide (0<=b))) (.a (decide (b<(c.Tree.n:Int))))) ?_;cases h;exact kR W
def Dx (N:Nat)(a:Int):Option Bool:= some (((((decide (97<=a))&&(decide (a<=122)))||((decide (65<=a))&&(decide (a<=90))))||((decide (48<=a))&&(decide (a<=57))))||(a==45))
theorem Nw {b:Int}{y:Bool}(h:Dx N b=some y) :FunO S GA [.p (pI .u8 b)] [] (pB y) ([]) []:=by unfold Dx at h;refine A4 W func125 ?_;refine kB W (A6 W) Jy Jy 23 (.o (.o (.o (.n (.a (decide (97<=b))) (.a (decide (b<=122)))) (.n (.a (decide (65<=b))) (.a (decide (b<=90))))) (.n (.a (decide (48<=b))) (.a (decide (b<=57))))) (.a (b==45))) ?_;cases h;exact kR W
def AG (N:Nat)(a:Str):Option Bool:= R4 N (fun b (x1:Int)=>if (decide (x1<(a.length:Int))) then if ((0:Int)<=x1/\x1<(a.length:Int))then (Dx N (U2 a x1)).bind fun y3=>if (!y3) then some false else b (wrap .i64 (x1+1)) else none else some ((decide (0<(a.length:Int)))&&(decide ((a.length:Int)<=24)))) 0
theorem Ps {b:Str}{y:Bool}(h:AG N b=some y) :FunO S HK [.p (.str b)] [] (pB y) ([]) []:=by
 unfold AG at h;refine A4 W func106 ?_;refine I0 W Jy h (fun x1=>⟨[(6,pN x1),(5,pN (b.length:Int)),(0,.p (.str b))],[]⟩) (ids:=[]) (fun _ _ _ _ _ c x1 d h=>?_);apply kI W h<;>intro h
 .obtain⟨c8,h⟩:=E2 h;obtain⟨y3,e3,h⟩:=B7 h;refine B9 W [] c8 (Nw W V e3) ?_;apply kI W h<;>intro h
  .cases h;exact kR W
  exact d _ [] _ (wrap .i64 (x1+1)) Jy h
 refine kB W (A6 W) Jy Jy 4 (.n (.a (decide (0<(b.length:Int)))) (.a (decide ((b.length:Int)<=24)))) ?_;cases h;exact kR W
def S6 (N:Nat)(a:Sl G2):Option Int:= if (((a.n:Int)==0)||(decide (63<(a.n:Int)))) then some 16 else BQ N (fun b (x2:List (Str×Bool)) (x3:Int)=>if (decide (x3<(a.n:Int))) then if ((0:Int)<=x3/\x3<(a.n:Int))then lt (fun (z3:Bool)=>if z3 then some 16 else b (MI eqS (a.g x3.toNat).Name true x2) (wrap .i64 (x3+1))) fun k3=>if (decide (x3<=(a.g x3.toNat).Parent)) then k3 true else if (decide ((a.g x3.toNat).Parent<(if 0<(wrap .i64 (x3-1))then 0 else (wrap .i64 (x3-1))))) then k3 true else (AG N (a.g x3.toNat).Name).bind fun y6=>if (!y6) then k3 true else Ab3 (By eqS (a.g x3.toNat).Name x2) (k3 false) fun v6=>k3 v6 else none else some 0) [] 0
theorem HQ {c:Sl G2}{y:Int}(h:S6 N c=some y) :FunO S HH [.p (vSl 2 B0 c)] [] (pN y) ([]) []:=by
 unfold S6 at h;refine A4 W func78 ?_;refine kB W (A6 W) Jy Jy 4 (.o (.a ((c.n:Int)==0)) (.a (decide (63<(c.n:Int))))) ?_;apply kI W h<;>intro h
 .cases h;exact kR W
 refine H4 W Jy h (fun x2 x3=>⟨[(17,pN x3),(16,pN (c.n:Int)),(15,.p (vSl 2 B0 c)),(3,.mref 15000)],[(15000,.map (LD PV.str PV.bb x2))]⟩) (ids:=[(15000,15000)]) (fun _ _ _ _ _ f x2 x3 i h=>?_);apply kI W h<;>intro h
 .obtain⟨c25,h⟩:=E2 h;refine Hd W (And.intro c25 Kw) (A6 W) h 0 (fun z3=>⟨[(45,pB z3),(17,pN x3),(16,pN (c.n:Int)),(15,.p (vSl 2 B0 c)),(5,.reg 6000 0),(3,.mref 15000)],[(15000,.map (LD PV.str PV.bb x2)),(6000,.cells [pN (c.g x3.toNat).Parent,.p (.str (c.g x3.toNat).Name)])]⟩) (fun M3 k3 d h=>?_) (fun z3 h=>?_)
  .refine kG W h (fun h=>?_) (fun h=>?_)
   .exact d _ [(6000,6000),(15000,15000)] _ true Jy h
   refine kG W h (fun h=>?_) (fun h=>?_)
   .exact d _ [(6000,6000),(15000,15000)] _ true Jy h
   refine kC W h (Ps W V) (fun y6 h=>?_);refine kG W h (fun h=>?_) (fun h=>?_)
   .exact d _ [(6000,6000),(15000,15000)] _ true Jy h
   rcases o6:By eqS (c.g x3.toNat).Name x2 with _|v6
   .replace h:=optN o6 h;refine Il W Jy (kt:=Dq) (e:=YL) (key:=PV.str (c.g x3.toNat).Name) (es:=LD PV.str PV.bb x2) (x:=.v (.bool false)) (b:=false) (fd:=none) ((Ea (kP:=PV.str) (vP:=PV.bb) (eq:=eqS) (fun _ _=>by kernel_rfl) (c.g x3.toNat).Name x2).trans (by rw[o6];rfl)) Jy ?_;exact d _ [(6000,6000),(15000,15000)] _ false Jy h
   replace h:=optS o6 h;refine Il W Jy (kt:=Dq) (e:=YL) (key:=PV.str (c.g x3.toNat).Name) (es:=LD PV.str PV.bb x2) (x:=PV.bb v6) (b:=true) (fd:=some (PV.bb v6)) ((Ea (kP:=PV.str) (vP:=PV.bb) (eq:=eqS) (fun _ _=>by kernel_rfl) (c.g x3.toNat).Name x2).trans (by rw[o6];rfl)) Jy ?_;exact d _ [(6000,6000),(15000,15000)] _ v6 Jy h
  apply kI W h<;>intro h
  .cases h;exact kR W
  refine MN W Jy (kt:=Dq) (key:=PV.str (c.g x3.toNat).Name) (y:=PV.bb true) (es:=LD PV.str PV.bb x2) (Ik (kP:=PV.str) (vP:=PV.bb) (eq:=eqS) (fun _ _=>by kernel_rfl) (c.g x3.toNat).Name true x2) Jy ?_;exact i _ [(15000,15000)] _ (MI eqS (c.g x3.toNat).Name true x2) (wrap .i64 (x3+1)) Jy h
 cases h;exact kR W
def S7 (N:Nat)(a:A5):Option Int:= if ((0:Int)<=(a.On.n:Int)/\(a.On.n:Int)<=(a.On.n:Int)/\(a.On.n:Int)*8<=140737488355328/\(a.On.n:Int)<=140737488355328)then Ai7 N (fun c (x4:Sl Int) (x5:Bool) (x6:Int)=>if (decide (x6<(a.On.n:Int))) then if ((((0:Int)<=x6/\x6<(a.On.n:Int))/\((0:Int)<=x6/\x6<(x4.n:Int)))/\x6.toNat<x4.n)then if ((0:Int)<=x6/\x6<(a.Tree.n:Int))then lt (fun (z3:Sl Int)=>if (((0:Int)<=x6/\x6<(z3.n:Int))/\x6.toNat<z3.n)then if (decide (64<(z3.g x6.toNat))) then some 2 else BQ N (fun d (f:Bool) (b:Int)=>if (decide (b<((a.On.g x6.toNat).n:Int))) then if ((0:Int)<=b/\b<((a.On.g x6.toNat).n:Int))then d ((f||(decide (((a.On.g x6.toNat).g b.toNat)<0)))||(decide ((a.Laws.n:Int)<=((a.On.g x6.toNat).g b.toNat)))) (wrap .i64 (b+1)) else none else c z3 f (wrap .i64 (x6+1))) x5 0 else none) fun k3=>if (decide (0<=(a.Tree.g x6.toNat).Parent)) then if (((((((0:Int)<=x6/\x6<((x4.upd x6.toNat ((a.On.g x6.toNat).n:Int)).n:Int))/\x6.toNat<(x4.upd x6.toNat ((a.On.g x6.toNat).n:Int)).n)/\((0:Int)<=(a.Tree.g x6.toNat).Parent/\(a.Tree.g x6.toNat).Parent<((x4.upd x6.toNat ((a.On.g x6.toNat).n:Int)).n:Int)))/\(a.Tree.g x6.toNat).Parent.toNat<(x4.upd x6.toNat ((a.On.g x6.toNat).n:Int)).n)/\((0:Int)<=x6/\x6<((x4.upd x6.toNat ((a.On.g x6.toNat).n:Int)).n:Int)))/\x6.toNat<(x4.upd x6.toNat ((a.On.g x6.toNat).n:Int)).n)then k3 ((x4.upd x6.toNat ((a.On.g x6.toNat).n:Int)).upd x6.toNat (wrap .i64 (((x4.upd x6.toNat ((a.On.g x6.toNat).n:Int)).g x6.toNat)+((x4.upd x6.toNat ((a.On.g x6.toNat).n:Int)).g (a.Tree.g x6.toNat).Parent.toNat)))) else none else k3 (x4.upd x6.toNat ((a.On.g x6.toNat).n:Int)) else none else none else if x5 then some 3 else some 0) (Sl.rep (a.On.n:Int).toNat 0:Sl Int) false 0 else none
theorem JT {d:A5}{y:Int}(h:S7 N d=some y) :FunO S Ei [.p (.agg (A2 d))] [] (pN y) ([]) []:=by
 unfold S7 at h;refine A4 W func79 ?_;refine I1 W Jy 2 2000 (A2 d) ?_;obtain⟨c1,h⟩:=E2 h;refine YH W c1 h (fun x4 x5 x6=>⟨[(17,pN x6),(16,pN (d.On.n:Int)),(15,.p (vSl 1 (cL 1 (cI .i64)) d.On)),(4,pB x5),(3,.vec 14000),(1,.p (.ptr (A2 d)))],[(14000,.vec B2 1 x4.n (fun i=>cI .i64 (x4.g i)) false)]⟩) (ids:=[(14000,14000)]) (fun _ _ _ _ _ q x4 x5 x6 r h=>?_);apply kI W h<;>intro h
 .obtain⟨c35,h⟩:=E2 h;refine F6 W (And.intro (And.intro c35.1.1 c35.1.2) (And.intro (rfl:(1:Nat)=1) (And.intro c35.2 Kv))) 27 ⟨[(17,pN x6),(16,pN (d.On.n:Int)),(15,.p (vSl 1 (cL 1 (cI .i64)) d.On)),(6,.p (vSl 1 (cI .i64) (d.On.g x6.toNat))),(5,pN x6),(4,pB x5),(3,.vec 14000),(1,.p (.ptr (A2 d)))],[(14000,.vec B2 1 (x4.upd x6.toNat ((d.On.g x6.toNat).n:Int)).n (fun i=>cI .i64 ((x4.upd x6.toNat ((d.On.g x6.toNat).n:Int)).g i)) false)]⟩ (ids:=[(14000,14000)]) ?_ (hle:=klR [(7,.fn x4.n (x4.upd x6.toNat ((d.On.g x6.toNat).n:Int)).n (fun l=>if l=x6.toNat then splice ((fun i=>cI .i64 (x4.g i)) l) 0 [pI .i64 ((d.On.g x6.toNat).n:Int)]else (fun i=>cI .i64 (x4.g i)) l) (fun i=>cI .i64 ((x4.upd x6.toNat ((d.On.g x6.toNat).n:Int)).g i)))] (al1 ⟨rfl,Tq (c:=cI .i64) (v:=x4) (x:=((d.On.g x6.toNat).n:Int)) same (fun _=>by first|rfl|(dsimp only;split<;>rfl))⟩ al0));obtain⟨c36,h⟩:=E2 h;refine Hd W c36 (A6 W) h 0 (fun z3=>⟨[(17,pN x6),(16,pN (d.On.n:Int)),(15,.p (vSl 1 (cL 1 (cI .i64)) d.On)),(6,.p (vSl 1 (cI .i64) (d.On.g x6.toNat))),(5,pN x6),(4,pB x5),(3,.vec 14000),(1,.p (.ptr (A2 d)))],[(14000,.vec B2 1 z3.n (fun i=>cI .i64 (z3.g i)) false)]⟩) (fun M3 k3 m h=>?_) (fun z3 h=>?_)
  .apply kI W h<;>intro h
   .refine MO W Jy ?_;obtain⟨c41,h⟩:=E2 h;refine H9 (And.intro (And.intro (And.intro (And.intro (And.intro c41.1.1.1.1.1 c41.1.1.1.1.2) c41.1.1.1.2) c41.1.1.2) c41.1.2) (And.intro (rfl:(1:Nat)=1) (And.intro c41.2 Kv))) ?_;exact m _ [(14000,14000)] _ ((x4.upd x6.toNat ((d.On.g x6.toNat).n:Int)).upd x6.toNat (wrap .i64 (((x4.upd x6.toNat ((d.On.g x6.toNat).n:Int)).g x6.toNat)+((x4.upd x6.toNat ((d.On.g x6.toNat).n:Int)).g (d.Tree.g x6.toNat).Parent.toNat)))) Jy h (hle:=klR [(7,.fn (x4.upd x6.toNat ((d.On.g x6.toNat).n:Int)).n ((x4.upd x6.toNat ((d.On.g x6.toNat).n:Int)).upd x6.toNat (wrap .i64 (((x4.upd x6.toNat ((d.On.g x6.toNat).n:Int)).g x6.toNat)+((x4.upd x6.toNat ((d.On.g x6.toNat).n:Int)).g (d.Tree.g x6.toNat).Parent.toNat)))).n (fun l=>if l=x6.toNat then splice ((fun i=>cI .i64 ((x4.upd x6.toNat ((d.On.g x6.toNat).n:Int)).g i)) l) 0 [pI .i64 (wrap .i64 (((x4.upd x6.toNat ((d.On.g x6.toNat).n:Int)).g x6.toNat)+((x4.upd x6.toNat ((d.On.g x6.toNat).n:Int)).g (d.Tree.g x6.toNat).Parent.toNat)))]else (fun i=>cI .i64 ((x4.upd x6.toNat ((d.On.g x6.toNat).n:Int)).g i)) l) (fun i=>cI .i64 (((x4.upd x6.toNat ((d.On.g x6.toNat).n:Int)).upd x6.toNat (wrap .i64 (((x4.upd x6.toNat ((d.On.g x6.toNat).n:Int)).g x6.toNat)+((x4.upd x6.toNat ((d.On.g x6.toNat).n:Int)).g (d.Tree.g x6.toNat).Parent.toNat)))).g i)))] (al1 ⟨rfl,Tq (c:=cI .i64) (v:=x4.upd x6.toNat ((d.On.g x6.toNat).n:Int)) (x:=wrap .i64 (((x4.upd x6.toNat ((d.On.g x6.toNat).n:Int)).g x6.toNat)+((x4.upd x6.toNat ((d.On.g x6.toNat).n:Int)).g (d.Tree.g x6.toNat).Parent.toNat))) same (fun _=>by first|rfl|(dsimp only;split<;>rfl))⟩ al0))
   exact m _ [(14000,14000)] _ (x4.upd x6.toNat ((d.On.g x6.toNat).n:Int)) Jy h
  obtain⟨c42,h⟩:=E2 h;refine E1 W c42 (b:=decide (64<(z3.g x6.toNat))) (fun c43=>?_) (fun c43=>?_)
  .replace h:=itT c43 h;cases h;exact kR W
  replace h:=itF c43 h;refine H4 W Jy h (fun j f=>⟨[(52,pN f),(51,pN ((d.On.g x6.toNat).n:Int)),(50,.p (vSl 1 (cI .i64) (d.On.g x6.toNat))),(17,pN x6),(16,pN (d.On.n:Int)),(15,.p (vSl 1 (cL 1 (cI .i64)) d.On)),(4,pB j),(3,.vec 14000),(1,.p (.ptr (A2 d)))],[(14000,.vec B2 1 z3.n (fun i=>cI .i64 (z3.g i)) false)]⟩) (ids:=[(14000,14000)]) (fun _ _ _ _ _ s j f t h=>?_);apply kI W h<;>intro h
  .obtain⟨c49,h⟩:=E2 h;refine kB W (A6 W) c49 Jy 10 (.o (.o (.a j) (.a (decide (((d.On.g x6.toNat).g f.toNat)<0)))) (.a (decide ((d.Laws.n:Int)<=((d.On.g x6.toNat).g f.toNat))))) ?_;exact t _ [(14000,14000)] _ ((j||(decide (((d.On.g x6.toNat).g f.toNat)<0)))||(decide ((d.Laws.n:Int)<=((d.On.g x6.toNat).g f.toNat)))) (wrap .i64 (f+1)) Jy h
  exact r _ [(14000,14000)] _ z3 j (wrap .i64 (x6+1)) Jy h
 apply kI W h<;>intro h
 .cases h;exact kR W
 cases h;exact kR W
def D4 (N:Nat)(a:A5):Option Int:= (S6 N a.Tree).bind fun y1=>if (y1 != 0) then some 16 else if (decide (64<(a.Laws.n:Int))) then some 12 else BQ N (fun b (x1:List (Str×Int)) (x2:Int)=>if (decide (x2<(a.Laws.n:Int))) then if ((0:Int)<=x2/\x2<(a.Laws.n:Int))then (S4 N (a.Laws.g x2.toNat)).bind fun y4=>if (y4 != 0) then some 17 else Ab3 (By eqS (a.Laws.g x2.toNat).Name x1) (b (MI eqS (a.Laws.g x2.toNat).Name (wrap .i64 (0+1)) x1) (wrap .i64 (x2+1))) fun v3=>b (MI eqS (a.Laws.g x2.toNat).Name (wrap .i64 (v3+1)) x1) (wrap .i64 (x2+1)) else none else if (decide (((LD PV.str (pI .i64) x1).length:Int)<(a.Laws.n:Int))) then some 6 else if ((a.On.n:Int) != (a.Tree.n:Int)) then some 2 else (S7 N a).bind fun y5=>some y5) [] 0
theorem M8 {a:A5}{y:Int}(h:D4 N a=some y) :FunO S Ee [.p (.agg (A2 a))] [] (pN y) ([]) []:=by
 unfold D4 at h;refine A4 W func30 ?_;refine kC W h (HQ W V) (fun y1 h=>?_);apply kI W h<;>intro h
 .cases h;exact kR W
 apply kI W h<;>intro h
 .cases h;exact kR W
 refine H4 W Jy h (fun x1 x2=>⟨[(18,pN x2),(17,pN (a.Laws.n:Int)),(16,.p (vSl 18 A7 a.Laws)),(3,.mref 15000),(1,.reg 2000 0)],[(15000,.map (LD PV.str (pI .i64) x1)),(2000,.cells ((A2 a).map .p))]⟩) (ids:=[(2000,2000),(15000,15000)]) (fun _ _ _ _ _ d x1 x2 c h=>?_);apply kI W h<;>intro h
 .obtain⟨c10,h⟩:=E2 h;obtain⟨y4,e4,h⟩:=B7 h;refine B9 W [] (And.intro c10 Kz) (FE W V e4) ?_;apply kI W h<;>intro h
  .cases h;exact kR W
  rcases o3:By eqS (a.Laws.g x2.toNat).Name x1 with _|v3
  .replace h:=optN o3 h;refine Il W Jy (kt:=Dq) (e:=B2) (key:=PV.str (a.Laws.g x2.toNat).Name) (es:=LD PV.str (pI .i64) x1) (x:=pI .i64 0) (b:=false) (fd:=none) ((Ea (kP:=PV.str) (vP:=pI .i64) (eq:=eqS) (fun _ _=>by kernel_rfl) (a.Laws.g x2.toNat).Name x1).trans (by rw[o3];rfl)) Jy ?_;refine MN W Jy (kt:=Dq) (key:=PV.str (a.Laws.g x2.toNat).Name) (y:=pI .i64 (wrap .i64 (0+1))) (es:=LD PV.str (pI .i64) x1) (Ik (kP:=PV.str) (vP:=pI .i64) (eq:=eqS) (fun _ _=>by kernel_rfl) (a.Laws.g x2.toNat).Name (wrap .i64 (0+1)) x1) Jy ?_;exact c _ [(2000,2000),(15000,15000)] _ (MI eqS (a.Laws.g x2.toNat).Name (wrap .i64 (0+1)) x1) (wrap .i64 (x2+1)) Jy h
  replace h:=optS o3 h;refine Il W Jy (kt:=Dq) (e:=B2) (key:=PV.str (a.Laws.g x2.toNat).Name) (es:=LD PV.str (pI .i64) x1) (x:=pI .i64 v3) (b:=true) (fd:=some (pI .i64 v3)) ((Ea (kP:=PV.str) (vP:=pI .i64) (eq:=eqS) (fun _ _=>by kernel_rfl) (a.Laws.g x2.toNat).Name x1).trans (by rw[o3];rfl)) Jy ?_;refine MN W Jy (kt:=Dq) (key:=PV.str (a.Laws.g x2.toNat).Name) (y:=pI .i64 (wrap .i64 (v3+1))) (es:=LD PV.str (pI .i64) x1) (Ik (kP:=PV.str) (vP:=pI .i64) (eq:=eqS) (fun _ _=>by kernel_rfl) (a.Laws.g x2.toNat).Name (wrap .i64 (v3+1)) x1) Jy ?_;exact c _ [(2000,2000),(15000,15000)] _ (MI eqS (a.Laws.g x2.toNat).Name (wrap .i64 (v3+1)) x1) (wrap .i64 (x2+1)) Jy h
 apply kI W h<;>intro h
 .cases h;exact kR W
 apply kI W h<;>intro h
 .cases h;exact kR W
 refine kC W h (JT W V) (fun y5 h=>?_);cases h;exact kR W
def P3 (N:Nat)(b:A5)(a:Int):Option Bool:= some ((decide (0<=a))&&(decide (a<(b.Tree.n:Int))))
theorem Aw {c:A5}{b:Int}{y:Bool}(h:P3 N c b=some y) :FunO S EZ [.p (.agg (A2 c)),pN b] [] (pB y) ([]) []:=by unfold P3 at h;refine A4 W func59 ?_;refine kB W (A6 W) Jy Jy 6 (.n (.a (decide (0<=b))) (.a (decide (b<(c.Tree.n:Int))))) ?_;cases h;exact kR W
def Z3 (N:Nat)(q0:Int)(q1:Sl G2):Option (List (Int)):= BQ N (fun a (x1:Int) (x2:Sl Int)=>if (decide (0<=x1)) then if (((x2.n+(Sl.of [x1]:Sl Int).n)*8<=140737488355328/\x2.n+(Sl.of [x1]:Sl Int).n<=140737488355328)/\((0:Int)<=x1/\x1<(q1.n:Int)))then a (q1.g x1.toNat).Parent (x2.push x1) else none else R4 N (fun b (x3:Int)=>if (decide (0<=x3)) then if (((0:Int)<=x3/\x3<(x2.n:Int))/\x3.toNat<x2.n)then HV (x2.g x3.toNat) (b (wrap .i64 (x3-1))) else none else some []) (wrap .i64 ((x2.n:Int)-1))) q0 Na
theorem Ew {q0:Int}{q1:Sl G2}{L:List (Int)}(h:Z3 N q0 q1=some L) :Fv S Y9 [] [.reg 0 0,.reg 1 0] [.cells [pN q0],.cells [.p (vSl 2 B0 q1)]] (L.map (fun (x:Int)=>[pI .i64 x])):=by
 unfold Z3 at h;refine Gq W func90 ?_;refine MQ W Jy h (fun x1 x2 L1=>⟨[(4,.vec 5500),(2,.reg 1 0),(1,.reg 0 0),(0,.yf 2)],[(5500,.vec B2 1 x2.n (fun i=>cI .i64 (x2.g i)) false),(2,.yld (L1.map (fun (x:Int)=>[pI .i64 x])) true),(1,.cells [.p (vSl 2 B0 q1)]),(0,.cells [pN x1])]⟩) (ids:=[(0,0),(1,1),(2,2)]) (fun _ _ _ _ _ f x1 x2 L1 j h=>?_);apply kI W h<;>intro h
 .obtain⟨c4,h⟩:=E2 h;exact j _ [(0,0),(1,1),(2,2),(5500,17000)] _ (q1.g x1.toNat).Parent (x2.push x1) L1 (And.intro (And.intro L7 c4.1) c4.2) h (hle:=klR [(0,.fn (x2.n+1) (x2.push x1).n (U3 x2.n (fun i=>cI .i64 (x2.g i)) (E5 [pI .i64 0] [(0,cI .i64 x1)])) (fun i=>cI .i64 ((x2.push x1).g i)))] (al1 ⟨rfl,OE (c:=cI .i64) (v:=x2) (x:=x1) (z:=[(pI .i64 0)]) same rfl rfl⟩ al0))
 refine He W Jy h (fun x3 L2=>⟨[(5,pN x3),(4,.vec 5500),(0,.yf 2)],[(5500,.vec B2 1 x2.n (fun i=>cI .i64 (x2.g i)) false),(2,.yld (L2.map (fun (x:Int)=>[pI .i64 x])) true),(1,.cells [.p (vSl 2 B0 q1)]),(0,.cells [pN x1])]⟩) (ids:=[(0,0),(1,1),(2,2),(5500,5500)]) (fun _ _ _ _ _ l x3 L2 m h=>?_);apply kI W h<;>intro h
 .obtain⟨c14,h⟩:=E2 h;obtain⟨L5,rfl,d⟩:=MP h;replace h:=d;refine Dh W c14 (ys:=(fun (x:Int)=>[pI .i64 x]) (x2.g x3.toNat)) (rest:=L5.map (fun (x:Int)=>[pI .i64 x])) ?_ ?_
  .refine E1 W Jy (b:=false) (fun c15=>?_) (fun c15=>?_)
   .exact Bool.noConfusion ((rfl:false=false).symm.trans c15)
   exact m _ [(0,0),(1,1),(2,2),(5500,5500)] _ (wrap .i64 (x3-1)) L5 Jy h
  refine E1 W Jy (b:=true) (fun c16=>?_) (fun c16=>?_)
  .exact A9 W Jy (a:=.tup []) (objs:=[(.cells [pN x1]),.cells [.p (vSl 2 B0 q1)],.yld [] false]) ⟨[],[(2,.yld [] false),(1,.cells [.p (vSl 2 B0 q1)]),(0,.cells [pN x1])]⟩ [0,1,2] (ids:=[(0,0),(1,1),(2,2)]) ⟨false,rfl,rfl,_,rfl⟩
  exact Bool.noConfusion (L7.symm.trans c16)
 obtain rfl:=C6 h;exact A9 W Jy (a:=.tup []) (objs:=[(.cells [pN x1]),.cells [.p (vSl 2 B0 q1)],.yld [] true]) ⟨[],[(2,.yld [] true),(1,.cells [.p (vSl 2 B0 q1)]),(0,.cells [pN x1])]⟩ [0,1,2] (ids:=[(0,0),(1,1),(2,2)]) ⟨true,rfl,rfl,_,rfl⟩
def Bi (N:Nat)(a:Sl G2)(b:Int):Option (Int×(Sl G2)):= some (b,a)
theorem GL {a:Sl G2}{b:Int}{y:Int×(Sl G2)}(h:Bi N a b=some y) :FunO S Gu [.p (vSl 2 B0 a),pN b] [] (.clo Y9 [] [.reg 0 0,.reg 1 0]) ([.cells [pN y.1],.cells [.p (vSl 2 B0 y.2)]]) []:=by unfold Bi at h;refine A4 W func60 ?_;obtain rfl:=C6 h;exact A9 W Jy ⟨[(4,.clo Y9 [] [.reg 4000 0,.reg 3000 0])],[(4000,.cells [pN b]),(3000,.cells [.p (vSl 2 B0 a)])]⟩ [4000,3000] (ids:=[(3000,3000),(4000,4000)]) ⟨rfl,rfl,rfl⟩
def Cu (N:Nat)(a:A5)(c:Int):Option ((Sl Int)×Int):= (D4 N a).bind fun y1=>if (y1 != 0) then some (Na,y1) else (P3 N a c).bind fun y2=>if (!y2) then some (Na,3) else (Bi N a.Tree c).bind fun y3=>(Z3 N y3.1 y3.2).bind fun L1=>AB L1 (fun b (x1:Int) (z1:Sl Int)=>if (((0:Int)<=x1/\x1<(a.On.n:Int))/\((z1.n+(a.On.g x1.toNat).n)*8<=140737488355328/\z1.n+(a.On.g x1.toNat).n<=140737488355328))then b (z1.app (a.On.g x1.toNat)) else none) (fun (z1:Sl Int)=>some (z1,0)) Na
theorem KT {a:A5}{b:Int}{y:(Sl Int)×Int}(h:Cu N a b=some y) :FunO S EY [.p (.agg (A2 a)),pN b] [] (.tup [.vec 0,pN y.2]) ([.vec B2 1 y.1.n (fun i=>cI .i64 (y.1.g i)) true]) []:=by
 unfold Cu at h;refine A4 W func33 ?_;refine I1 W Jy 4 3000 (A2 a) ?_;obtain⟨y1,e1,h⟩:=B7 h;refine B9 W [] Kx (M8 W V e1) ?_;apply kI W h<;>intro h
 .obtain rfl:=C6 h;exact A9 W Jy ⟨[(5,pN y1),(4,.vec 5700)],[(5700,.vec B2 1 Na.n (fun i=>cI .i64 (Na.g i)) true)]⟩ [5700] (ids:=[]) ⟨rfl,rfl,rfl⟩
 obtain⟨y2,e2,h⟩:=B7 h;refine B9 W [] Kx (Aw W V e2) ?_;apply kI W h<;>intro h
 .obtain rfl:=C6 h;exact A9 W Jy ⟨[(5,pN 3),(4,.vec 5700)],[(5700,.vec B2 1 Na.n (fun i=>cI .i64 (Na.g i)) true)]⟩ [5700] (ids:=[]) ⟨rfl,rfl,rfl⟩
 refine kC W h (GL W V) (fun y3 h=>?_);obtain⟨L1,e4,h⟩:=B7 h;refine FB W Jy [22000,22001] [7,2] 901 (fun z1=>⟨[(7,.reg 8000 0),(2,.p (.ptr (A2 a)))],[(8500,.vec B2 1 z1.n (fun i=>cI .i64 (z1.g i)) false),(8000,.cells [.vec 8500])]⟩) (idl:=[(8000,8000)]) h (Ew W V e4) (fun _=>by kernel_rfl) (fun _=>by kernel_rfl) (fun _=>by kernel_rfl) (fun _=>by kernel_rfl) (fun x1 _ d z1 f h=>?_) (fun z1 h=>?_)
 .refine Jc W Jy ?_;refine E9 W Jy [2,4,5] ?_;obtain⟨c5,h⟩:=E2 h;refine H9 c5 ?_;exact f _ [(901,901),(8000,8000),(8500,30000)] _ (z1.app (a.On.g x1.toNat)) Jy h (hle:=klR [(0,.fn (z1.n+(a.On.g x1.toNat).n) (z1.app (a.On.g x1.toNat)).n (U3 z1.n (fun i=>cI .i64 (z1.g i)) (fun i=>cI .i64 ((a.On.g x1.toNat).g i))) (fun i=>cI .i64 ((z1.app (a.On.g x1.toNat)).g i)))] (al1 ⟨rfl,appL (c:=cI .i64) (v:=z1) (w:=a.On.g x1.toNat) same rfl same rfl⟩ al0))
 obtain rfl:=C6 h;exact A9 W Jy ⟨[(5,pN 0),(4,.vec 8500)],[(8500,.vec B2 1 z1.n (fun i=>cI .i64 (z1.g i)) true)]⟩ [8500] (ids:=[(8500,8500)]) ⟨rfl,rfl,rfl⟩
def N0 (rec:Pat->Option Pat)(N:Nat)(a:Pat):Option Pat:= BQ N (fun b (x1:Sl Pat) (x2:Int)=>if (decide (x2<(a.L.n:Int))) then if ((0:Int)<=x2/\x2<(a.L.n:Int))then (rec (a.L.g x2.toNat)).bind fun y3=>if ((x1.n+(Sl.of [y3]:Sl Pat).n)*64<=140737488355328/\x1.n+(Sl.of [y3]:Sl Pat).n<=140737488355328)then b (x1.push y3) (wrap .i64 (x2+1)) else none else none else some (Pat.mk a.Kind a.Is a.Not a.Min a.Max x1.n x1.g)) (Sl.nil:Sl Pat) 0
def K9:Nat->Pat->Option Pat
 |0=>fun _=>none
 |N+1=>N0 (K9 N) N
theorem GM {rec:Pat->Option Pat}(b:∀{a:Pat}{y:Pat},rec a=some y->FunO S T3 [.p (.agg (B1 a))] [] (.p (.agg (B1 y))) ([]) []){a:Pat}{y:Pat}(h:N0 rec N a=some y) :FunO S T3 [.p (.agg (B1 a))] [] (.p (.agg (B1 y))) ([]) []:=by
 unfold N0 at h;refine A4 W func96 ?_;refine F6 W Jy 8 ⟨[(7,.p (vSl 7 B1 a.L)),(3,.p E3),(2,.reg 3000 0),(1,.reg 2000 0)],[(3000,.cells [pN 0,pU 0,pU 0,.p (.v (.bool false)),pN 0,pN 0,.p E3]),(2000,.cells ((B1 a).map .p))]⟩ (ids:=[(2000,2000),(3000,3000)]) ?_ (hle:=klR [(0,.fn a.L.n a.L.n (Z6 a) (fun i=>B1 (a.L.g i)))] (al1 ⟨rfl,N1 a⟩ al0));refine H4 W Jy h (fun x1 x2=>⟨[(9,pN x2),(8,pN (a.L.n:Int)),(7,.p (vSl 7 B1 a.L)),(3,.vec 4500),(2,.reg 3000 0),(1,.reg 2000 0)],[(4500,.vec CM 7 x1.n (fun i=>B1 (x1.g i)) false),(3000,.cells [pN 0,pU 0,pU 0,.p (.v (.bool false)),pN 0,pN 0,.p E3]),(2000,.cells ((B1 a).map .p))]⟩) (ids:=[(2000,2000),(3000,3000)]) (fun _ _ _ _ _ d x1 x2 f h=>?_);apply kI W h<;>intro h
 .obtain⟨c6,h⟩:=E2 h;obtain⟨y3,e3,h⟩:=B7 h;refine B9 W [] (And.intro c6 Ky) (b e3) ?_;obtain⟨c7,h⟩:=E2 h;exact f _ [(2000,2000),(3000,3000),(4500,18000)] _ (x1.push y3) (wrap .i64 (x2+1)) (And.intro L7 c7) h (hle:=klR [(3,.fn (x1.n+1) (x1.push y3).n (U3 x1.n (fun i=>B1 (x1.g i)) (E5 [pI .i64 0,pI .u32 0,pI .u32 0,.v (.bool false),pI .i64 0,pI .i64 0,E3] [(0,B1 y3)])) (fun i=>B1 ((x1.push y3).g i)))] (al1 ⟨rfl,OE (c:=B1) (v:=x1) (x:=y3) (z:=[(pI .i64 0),pI .u32 0,pI .u32 0,.v (.bool false),pI .i64 0,pI .i64 0,E3]) same rfl rfl⟩ al0))
 obtain rfl:=C6 h;exact A9 W Jy ⟨[(2,.reg 3000 0)],[(3000,.cells [pN a.Kind,pU a.Is.Plus,pU a.Is.Minus,pB a.Not,pN a.Min,pN a.Max,.p (.sl false 7 x1.n (Z6 (Pat.mk a.Kind a.Is a.Not a.Min a.Max x1.n x1.g)))])]⟩ [] (ids:=[(3000,3000)]) ⟨rfl,rfl,rfl⟩
theorem CP {a:Pat}{y:Pat}(h:K9 N a=some y) :FunO S T3 [.p (.agg (B1 a))] [] (.p (.agg (B1 y))) ([]) []:=by
 induction N generalizing a y with
 |zero=>cases (show (none:Option Pat)=some y from h)
 |succ N ih=>exact GM W V (fun e=>ih e) h
def N3 (N:Nat)(a:Law):Option Law:= (K9 N a.Left).bind fun y1=>(K9 N a.Right).bind fun y2=>(A8 N a.If).bind fun y3=>(E7 N a.Out).bind fun y4=>some (⟨a.Name,y1,y2,y3,y4,a.Mode⟩:Law)
theorem AS {a:Law}{y:Law}(h:N3 N a=some y) :FunO S DK [.p (.agg (A7 a))] [] (.p (.agg (A7 y))) ([]) []:=by unfold N3 at h;refine A4 W func73 ?_;refine E9 W Jy [2,5] ?_;obtain⟨y1,e1,h⟩:=B7 h;refine V7 Jy (CP W V e1) ?_;obtain⟨y2,e2,h⟩:=B7 h;refine V7 Jy (CP W V e2) ?_;refine H9 Jy ?_;refine E9 W Jy [2,5] ?_;obtain⟨y3,e3,h⟩:=B7 h;refine V7 Jy (T6 W V e3) ?_;obtain⟨y4,e4,h⟩:=B7 h;refine V7 Jy (Y2 W V e4) ?_;refine H9 Jy ?_;cases h;exact kR W
def Ax (N:Nat)(c:A5)(a:Sl Int):Option (Sl Law):= BQ N (fun b (x1:Sl Law) (x2:Int)=>if (decide (x2<(a.n:Int))) then if (((0:Int)<=x2/\x2<(a.n:Int))/\((0:Int)<=(a.g x2.toNat)/\(a.g x2.toNat)<(c.Laws.n:Int)))then (N3 N (c.Laws.g (a.g x2.toNat).toNat)).bind fun y3=>if ((x1.n+(Sl.of [y3]:Sl Law).n)*200<=140737488355328/\x1.n+(Sl.of [y3]:Sl Law).n<=140737488355328)then b (x1.push y3) (wrap .i64 (x2+1)) else none else none else some x1) (Sl.nil:Sl Law) 0
theorem Fi {b:A5}{a:Sl Int}{y:Sl Law}(h:Ax N b a=some y) :FunO S Fa [.p (.agg (A2 b)),.p (vSl 1 (cI .i64) a)] [] (.p (vSl 18 A7 y)) ([]) []:=by
 unfold Ax at h;refine A4 W func61 ?_;refine H4 W Jy h (fun x1 x2=>⟨[(10,pN x2),(9,pN (a.n:Int)),(8,.p (vSl 1 (cI .i64) a)),(5,.vec 6500),(2,.reg 3000 0)],[(6500,.vec D9 18 x1.n (fun i=>A7 (x1.g i)) false),(3000,.cells ((A2 b).map .p))]⟩) (ids:=[(3000,3000)]) (fun _ _ _ _ _ d x1 x2 f h=>?_);apply kI W h<;>intro h
 .obtain⟨c6,h⟩:=E2 h;obtain⟨y3,e3,h⟩:=B7 h;refine B9 W [] (And.intro (And.intro c6.1 c6.2) Kz) (AS W V e3) ?_;obtain⟨c7,h⟩:=E2 h;exact f _ [(3000,3000),(6500,23000)] _ (x1.push y3) (wrap .i64 (x2+1)) (And.intro L7 c7) h (hle:=klR [(3,.fn (x1.n+1) (x1.push y3).n (U3 x1.n (fun i=>A7 (x1.g i)) (E5 [.str [],pI .i64 0,pI .u32 0,pI .u32 0,.v (.bool false),pI .i64 0,pI .i64 0,E3,pI .i64 0,pI .u32 0,pI .u32 0,.v (.bool false),pI .i64 0,pI .i64 0,E3,E3,E3,pI .i64 0] [(0,A7 y3)])) (fun i=>A7 ((x1.push y3).g i)))] (al1 ⟨rfl,OE (c:=A7) (v:=x1) (x:=y3) (z:=[(.str []),pI .i64 0,pI .u32 0,pI .u32 0,.v (.bool false),pI .i64 0,pI .i64 0,E3,pI .i64 0,pI .u32 0,pI .u32 0,.v (.bool false),pI .i64 0,pI .i64 0,E3,E3,E3,pI .i64 0]) same rfl rfl⟩ al0))
 obtain rfl:=C6 h;exact A9 W Jy ⟨[(4,.p (vSl 18 A7 x1))],[]⟩ [] (ids:=[]) ⟨rfl,rfl,rfl⟩
def Z4 (N:Nat)(a:A5)(b:Sl Nd):Option Int:= (D4 N a).bind fun y1=>if (y1 != 0) then some y1 else (N8 N b).bind fun y2=>some y2
theorem Ex {a:A5}{b:Sl Nd}{y:Int}(h:Z4 N a b=some y) :FunO S Eh [.p (.agg (A2 a)),.p (vSl 2 A0 b)] [] (pN y) ([]) []:=by
 unfold Z4 at h;refine A4 W func58 ?_;refine kC W h (M8 W V) (fun y1 h=>?_);apply kI W h<;>intro h
 .cases h;exact kR W
 refine kC W h (BW W V) (fun y2 h=>?_);cases h;exact kR W
def Ca (N:Nat)(a:A5)(c:Sl Nd)(d:Int):Option ((Sl Nd)×Int):= (Z4 N a c).bind fun y1=>if (y1 != 0) then some (Nb,y1) else (P3 N a d).bind fun y2=>if (!y2) then some (Nb,3) else (Bi N a.Tree d).bind fun y3=>(Z3 N y3.1 y3.2).bind fun L1=>AB L1 (fun b (x1:Int) (z1:Sl Nd)=>if ((0:Int)<=x1/\x1<(a.On.n:Int))then (Ax N a (a.On.g x1.toNat)).bind fun y8=>(Z2 N y8 z1).bind fun y9=>if (y9.2 != 0) then some (Nb,y9.2) else b y9.1 else none) (fun (z1:Sl Nd)=>some (z1,0)) c
theorem HR {a:A5}{b:Sl Nd}{c:Int}{y:(Sl Nd)×Int}(h:Ca N a b c=some y) :FunO S HE [.p (.agg (A2 a)),.p (vSl 2 A0 b),pN c] [] (.tup [.p (vSl 2 A0 y.1),pN y.2]) ([]) []:=by
 unfold Ca at h;refine A4 W func14 ?_;refine I1 W Jy 4 4000 (A2 a) ?_;obtain⟨y1,e1,h⟩:=B7 h;refine B9 W [] Kx (Ex W V e1) ?_;apply kI W h<;>intro h
 .obtain rfl:=C6 h;exact A9 W Jy ⟨[(7,.reg 8000 0),(6,.reg 7000 0)],[(8000,.cells [pN y1]),(7000,.cells [.p (vSl 2 A0 Nb)])]⟩ [] (ids:=[(7000,7000),(8000,8000)]) ⟨rfl,rfl,rfl⟩
 obtain⟨y2,e2,h⟩:=B7 h;refine B9 W [] Kx (Aw W V e2) ?_;apply kI W h<;>intro h
 .obtain rfl:=C6 h;exact A9 W Jy ⟨[(7,.reg 8000 0),(6,.reg 7000 0)],[(8000,.cells [pN 3]),(7000,.cells [.p (vSl 2 A0 Nb)])]⟩ [] (ids:=[(7000,7000),(8000,8000)]) ⟨rfl,rfl,rfl⟩
 refine kC W h (GL W V) (fun y3 h=>?_);obtain⟨L1,e4,h⟩:=B7 h;refine FB W Jy [25000,25001] [7,6,4,3] 901 (fun z1=>⟨[(7,.reg 8000 0),(6,.reg 7000 0),(4,.reg 5000 0),(3,.p (.ptr (A2 a)))],[(8000,.cells [pN 0]),(7000,.cells [.p E3]),(5000,.cells [.p (vSl 2 A0 z1)])]⟩) (idl:=[(5000,5000),(7000,7000),(8000,8000)]) h (Ew W V e4) (fun _=>by kernel_rfl) (fun _=>by kernel_rfl) (fun _=>by kernel_rfl) (fun _=>by kernel_rfl) (fun x1 _ d z1 f h=>?_) (fun z1 h=>?_)
 .refine Jc W Jy ?_;refine E9 W Jy [0,2,4,5,6,8] ?_;obtain⟨c7,h⟩:=E2 h;obtain⟨y8,e9,h⟩:=B7 h;refine V7 (And.intro Kx c7) (Fi W V e9) ?_;obtain⟨y9,e10,h⟩:=B7 h;refine V7 Jy (Eu W V e10) ?_;refine H9 Jy ?_;apply kI W h<;>intro h
  .refine Im W Jy ⟨[(7,.reg 8000 0),(6,.reg 7000 0),(4,.reg 5000 0),(3,.p (.ptr (A2 a)))],[(8000,.cells [pN y9.2]),(7000,.cells [.p E3]),(5000,.cells [.p (vSl 2 A0 y9.1)])]⟩ (ids:=[(901,901),(5000,5000),(7000,7000),(8000,8000)]) ?_;obtain rfl:=C6 h;exact A9 W Jy ⟨[(7,.reg 8000 0),(6,.reg 7000 0)],[(8000,.cells [pN y9.2]),(7000,.cells [.p (vSl 2 A0 Nb)])]⟩ [] (ids:=[(7000,7000),(8000,8000)]) ⟨rfl,rfl,rfl⟩
  exact f _ [(901,901),(5000,5000),(7000,7000),(8000,8000)] _ y9.1 Jy h
 cases h;exact kR W
end Go.AM
namespace Go.AM
open IntKind (wrap)
open Go.Proofs
set_option maxRecDepth 10000
set_option maxHeartbeats 2000000
variable {S:Q8}(W:F5 S Tryz.prog) (V:Ip S)
abbrev N4 {T:Type}(e:TypeId)(k:Nat)(c:T->List PV)(x:Sl T):Obj:=.vec e k x.n (fun q=>c (x.g q)) false
theorem obPut {T:Type}{e:TypeId}{k n i:Nat}{c:T->List PV}{X:Sl (Sl T)}{z:Sl T}:∀q,q<n->(fun q=>if q=i then N4 e k c z else if q=i then Obj.dead else N4 e k c (X.g q)) q=(fun q=>N4 e k c ((X.upd i z).g q)) q:=fun q _=>by by_cases h:q=i<;>simp[h]
include W V
def BH (N:Nat)(a:Sl G2):Option (Sl (Sl Int)):= if ((0:Int)<=(a.n:Int)/\(a.n:Int)<=(a.n:Int)/\(a.n:Int)*24<=140737488355328/\(a.n:Int)<=140737488355328)then BQ N (fun b (x:Int) (X:Sl (Sl Int))=>if (decide (x<(a.n:Int))) then if ((0:Int)<=x/\x<(a.n:Int))then if (a.g x.toNat).Parent.toNat<X.n then lt (fun (z:Sl Int)=>b (wrap .i64 (x+1)) (X.upd (a.g x.toNat).Parent.toNat z)) fun k=>if (decide (0<x)) then if (((0:Int)<=(a.g x.toNat).Parent/\(a.g x.toNat).Parent<(X.n:Int))/\(((X.g (a.g x.toNat).Parent.toNat).n+1)*8<=140737488355328/\(X.g (a.g x.toNat).Parent.toNat).n+1<=140737488355328))then k ((X.g (a.g x.toNat).Parent.toNat).push x) else none else k (X.g (a.g x.toNat).Parent.toNat) else none else none else some X) 0 ⟨a.n,fun _=>Sl.nil⟩ else none
theorem JU {N:Nat}{b:Sl G2}{y:Sl (Sl Int)}(h:BH N b=some y) :FunO S Ej [.p (vSl 2 B0 b)] [] (.p (vSl 1 (cL 1 (cI .i64)) y)) [] []:=by
 unfold BH at h;refine A4 W Tryz.func107 ?_;obtain⟨c1,h⟩:=E2 h;refine O8 W c1 9 (.fam 9000 9901 fun i=>N4 B2 1 (cI .i64) ((⟨b.n,fun _=>Sl.nil⟩:Sl (Sl Int)).g i)) (⟨by decide,fun i _=>rfl⟩:1000<=9901/\∀i,i<b.n->Gc [E3] (N4 B2 1 (cI .i64) ((⟨b.n,fun _=>Sl.nil⟩:Sl (Sl Int)).g i))) ?_;refine H4 W Jy h (fun x X=>⟨[(11,pN x),(10,pN (b.n:Int)),(9,.p (vSl 2 B0 b)),(3,.vec 9000)],[(9901,.rows X.n fun i=>N4 B2 1 (cI .i64) (X.g i)),(9000,.fam F2 X.n 9901 none)]⟩) (ids:=[(9901,9901),(9000,9000)]) (fun _ _ _ _ _ j x X f h=>?_);apply kI W h<;>intro h
 .obtain⟨c2,h⟩:=E2 h;obtain⟨c3,h⟩:=E2 h;refine O8 W (And.intro c2 Kw) 17 (.take 9000 (b.g x.toNat).Parent.toNat 9801) (⟨⟨by decide,rfl⟩,c3⟩:(1000<=9801/\X.n=X.n)/\(b.g x.toNat).Parent.toNat<X.n) ?_;refine Hd W Jy (A6 W) h 0 (fun z=>⟨[(11,pN x),(10,pN (b.n:Int)),(9,.p (vSl 2 B0 b)),(3,.vec 9000)],
   [(9901,(.rows X.n fun l=>if l=(b.g x.toNat).Parent.toNat then .dead else N4 B2 1 (cI .i64) (X.g l))),(9801,N4 B2 1 (cI .i64) z),(9000,.fam F2 X.n 9901 (some ((b.g x.toNat).Parent.toNat,.vec 9801)))]⟩) (fun M k d h=>?_) (fun z h=>?_)
  .apply kI W h<;>intro h
   .obtain⟨c4,h⟩:=E2 h;refine G7 W Jy [(0,.n),(1,.n),(2,.l [6000]),(3,.n),(4,.n),(5,.l [6000]),(6,.l [9000]),(7,.l [9000]),(8,.n),(10,.a [29000,9801]),(11,.l [9000]),(12,.a [9000])] ?_;refine Dg (And.intro c4.1 (And.intro c3 (rfl:(b.g x.toNat).Parent.toNat=(b.g x.toNat).Parent.toNat))) (x:=.sl true 1 1 (E5 [pI .i64 0] [(0,cI .i64 x)])) ?_;refine H9 (And.intro (And.intro c4.2 c4.1) (And.intro c3 (rfl:(b.g x.toNat).Parent.toNat=(b.g x.toNat).Parent.toNat))) ?_;exact d _ [(9901,9901),(9801,29000),(9000,9000)] _ ((X.g (b.g x.toNat).Parent.toNat).push x) Jy h (hle:=klR [(5,.fn ((X.g (b.g x.toNat).Parent.toNat).n+1) ((X.g (b.g x.toNat).Parent.toNat).push x).n (U3 (X.g (b.g x.toNat).Parent.toNat).n (fun i=>cI .i64 ((X.g (b.g x.toNat).Parent.toNat).g i)) (E5 [pI .i64 0] [(0,cI .i64 x)])) (fun i=>cI .i64 (((X.g (b.g x.toNat).Parent.toNat).push x).g i)))] (al1 ⟨rfl,OE (c:=cI .i64) (v:=X.g (b.g x.toNat).Parent.toNat) (x:=x) (z:=[(pI .i64 0)]) same rfl rfl⟩ al0))
   exact d _ [(9901,9901),(9801,9801),(9000,9000)] _ (X.g (b.g x.toNat).Parent.toNat) Jy h
  refine O8 W Jy 30 (.put 9000 9902) (⟨⟨by decide,rfl⟩,c3⟩:(1000<=9902/\X.n=X.n)/\(b.g x.toNat).Parent.toNat<X.n) ?_;exact f _ [(9901,9902),(9000,9000)] _ (wrap .i64 (x+1)) (X.upd (b.g x.toNat).Parent.toNat z) Jy h (hle:=klR [(4,.ob X.n (fun q=>if q=(b.g x.toNat).Parent.toNat then N4 B2 1 (cI .i64) z else if q=(b.g x.toNat).Parent.toNat then .dead else N4 B2 1 (cI .i64) (X.g q)) fun i=>N4 B2 1 (cI .i64) ((X.upd (b.g x.toNat).Parent.toNat z).g i))] (al1 obPut al0))
 refine O8 W Jy 31 (.pub 9000) (⟨rfl,fun i _=>rfl⟩:X.n=X.n/\∀i,i<X.n->(Iz (N4 B2 1 (cI .i64) (X.g i))).isSome=true) ?_;obtain rfl:=C6 h;exact A9 W Jy ⟨[(2,.p (vSl 1 (cL 1 (cI .i64)) X))],[]⟩ [] (ids:=[]) ⟨rfl,rfl,rfl⟩ (hle:=klR [(0,.fn X.n X.n (fun i=>[(Iz (N4 B2 1 (cI .i64) (X.g i))).getD default]) (fun i=>cL 1 (cI .i64) (X.g i)))] (al1 ⟨rfl,fun _ _=>rfl⟩ al0))
end Go.AM
namespace Go.AM
open IntKind (wrap)
open Go.Proofs
set_option maxRecDepth 10000
set_option maxHeartbeats 2000000
variable {S:Q8}(W:F5 S Tryz.prog) (V:Ip S)
include W V
def Dy (N:Nat)(b:Sl G2):Option (Sl Int):= (BH N b).bind fun y1=>BQ N (fun a (x1:Sl Int) (x2:Int)=>if (decide (x2<(y1.n:Int))) then if ((0:Int)<=x2/\x2<(y1.n:Int))then if (((y1.g x2.toNat).n:Int)==0) then if ((x1.n+(Sl.of [x2]:Sl Int).n)*8<=140737488355328/\x1.n+(Sl.of [x2]:Sl Int).n<=140737488355328)then a (x1.push x2) (wrap .i64 (x2+1)) else none else a x1 (wrap .i64 (x2+1)) else none else some x1) Na 0
theorem Nx {N:Nat}{a:Sl G2}{y:Sl Int}(h:Dy N a=some y) :FunO S Gw [.p (vSl 2 B0 a)] [] (.vec 0) ([.vec B2 1 y.n (fun i=>cI .i64 (y.g i)) true]) []:=by
 unfold Dy at h;refine A4 W Tryz.func80 ?_;refine kC W h (JU W V) (fun y1 h=>?_);refine H4 W Jy h (fun x1 x2=>⟨[(9,pN x2),(8,pN (y1.n:Int)),(7,.p (vSl 1 (cL 1 (cI .i64)) y1)),(3,.vec 4500)],[(4500,.vec B2 1 x1.n (fun i=>cI .i64 (x1.g i)) false)]⟩) (ids:=[]) (fun _ _ _ _ _ f x1 x2 d h=>?_);apply kI W h<;>intro h
 .obtain⟨c8,h⟩:=E2 h;refine E1 W c8 (b:=((y1.g x2.toNat).n:Int)==0) (fun c9=>?_) (fun c9=>?_)
  .replace h:=itT c9 h;obtain⟨c10,h⟩:=E2 h;exact d _ [(4500,21000)] _ (x1.push x2) (wrap .i64 (x2+1)) (And.intro L7 c10) h (hle:=klR [(3,.fn (x1.n+1) (x1.push x2).n (U3 x1.n (fun i=>cI .i64 (x1.g i)) (E5 [pI .i64 0] [(0,cI .i64 x2)])) (fun i=>cI .i64 ((x1.push x2).g i)))] (al1 ⟨rfl,OE (c:=cI .i64) (v:=x1) (x:=x2) (z:=[(pI .i64 0)]) same rfl rfl⟩ al0))
  replace h:=itF c9 h;exact d _ [(4500,4500)] _ x1 (wrap .i64 (x2+1)) Jy h
 obtain rfl:=C6 h;exact A9 W Jy ⟨[(2,.vec 4500)],[(4500,.vec B2 1 x1.n (fun i=>cI .i64 (x1.g i)) true)]⟩ [4500] (ids:=[(4500,4500)]) ⟨rfl,rfl,rfl⟩
def H6 (N:Nat)(a:Sl G2):Option ((Sl Int)×Int):= (S6 N a).bind fun y1=>if (y1 != 0) then some (Na,y1) else (Dy N a).bind fun y2=>some (y2,0)
theorem Dz {N:Nat}{a:Sl G2}{y:(Sl Int)×Int}(h:H6 N a=some y) :FunO S Gs [.p (vSl 2 B0 a)] [] (.tup [.vec 0,pN y.2]) ([.vec B2 1 y.1.n (fun i=>cI .i64 (y.1.g i)) true]) []:=by
 unfold H6 at h;refine A4 W Tryz.func31 ?_;refine kC W h (HQ W V) (fun y1 h=>?_);apply kI W h<;>intro h
 .obtain rfl:=C6 h;exact A9 W Jy ⟨[(3,pN y1),(2,.vec 3700)],[(3700,.vec B2 1 Na.n (fun i=>cI .i64 (Na.g i)) true)]⟩ [3700] (ids:=[]) ⟨rfl,rfl,rfl⟩
 refine kC W h (Nx W V) (fun y2 h=>?_);obtain rfl:=C6 h;exact A9 W Jy ⟨[(3,pN 0),(2,.vec 12000)],[(12000,.vec B2 1 y2.n (fun i=>cI .i64 (y2.g i)) true)]⟩ [12000] (ids:=[(12000,12000)]) ⟨rfl,rfl,rfl⟩
end Go.AM
namespace Go.AM
open Go.Proofs.Tryz
variable {N:Nat}
open IntKind (wrap)
open Go.Proofs
set_option maxRecDepth 10000
set_option maxHeartbeats 2000000
variable {S:Q8}(W:F5 S Tryz.prog) (V:Ip S)
include W V
def X2 (N:Nat)(a:Sl Int)(b:Sl Int):Option Bool:= if ((a.n:Int) != (b.n:Int)) then some false else R4 N (fun c (x1:Int)=>if (decide (x1<(a.n:Int))) then if (((0:Int)<=x1/\x1<(a.n:Int))/\((0:Int)<=x1/\x1<(b.n:Int)))then if ((a.g x1.toNat) != (b.g x1.toNat)) then some false else c (wrap .i64 (x1+1)) else none else some true) 0
theorem FJ {a:Sl Int}{b:Sl Int}{y:Bool}(h:X2 N a b=some y) :FunO S Jn [.p (vSl 1 (cI .i64) a),.p (vSl 1 (cI .i64) b)] [] (pB y) ([]) []:=by
 unfold X2 at h;refine A4 W func34 ?_;apply kI W h<;>intro h
 .cases h;exact kR W
 refine I0 W Jy h (fun x1=>⟨[(5,pN x1),(1,.p (vSl 1 (cI .i64) b)),(0,.p (vSl 1 (cI .i64) a))],[]⟩) (ids:=[]) (fun _ _ _ _ _ c x1 d h=>?_);apply kI W h<;>intro h
 .refine E9 W Jy [2,3,6,7] ?_;obtain⟨c9,h⟩:=E2 h;refine H9 c9 ?_;apply kI W h<;>intro h
  .cases h;exact kR W
  exact d _ [] _ (wrap .i64 (x1+1)) Jy h
 cases h;exact kR W
def Cv (N:Nat)  : Option Nd:= some (⟨5,2⟩:Nd)
theorem Ey    {y:Nd}(h:Cv N  = some y) :FunO S VC [] [] (.p (.agg (A0 y))) ([]) []:=by unfold Cv at h;refine A4 W func35 ?_;cases h;exact kR W
def Ny (N:Nat)  : Option Nd:= some (⟨2,5⟩:Nd)
theorem VM    {y:Nd}(h:Ny N  = some y) :FunO S VD [] [] (.p (.agg (A0 y))) ([]) []:=by unfold Ny at h;refine A4 W func36 ?_;cases h;exact kR W
def Hm (N:Nat)  : Option Nd:= some (⟨3,4⟩:Nd)
theorem Nz    {y:Nd}(h:Hm N  = some y) :FunO S VE [] [] (.p (.agg (A0 y))) ([]) []:=by unfold Hm at h;refine A4 W func49 ?_;cases h;exact kR W
def DA (N:Nat)  : Option A5:= some (⟨(Sl.of [(⟨-1,[112,114,111,116,111]⟩:G2),(⟨0,[119,101,115,116]⟩:G2),(⟨0,[101,97,115,116]⟩:G2),(⟨1,[110,111,114,116,104]⟩:G2),(⟨1,[115,111,117,116,104]⟩:G2)]:Sl G2),(Sl.of [(⟨[118,111,105,99,105,110,103],Pat.mk 1 (⟨4,0⟩:Nd) false 0 0 (Sl.nil:Sl Pat).n (Sl.nil:Sl Pat).g,Pat.mk 1 (⟨4,0⟩:Nd) false 0 0 (Sl.nil:Sl Pat).n (Sl.nil:Sl Pat).g,(Sl.of [(⟨2,0⟩:Nd)]:Sl Nd),(Sl.of [(⟨0,0,(⟨1,0⟩:Nd),0,0⟩:Z7)]:Sl Z7),1⟩:Law),(⟨[97,112,111,99,111,112,101],Pat.mk 0 (⟨0,0⟩:Nd) false 0 0 (Sl.nil:Sl Pat).n (Sl.nil:Sl Pat).g,Pat.mk 6 (⟨0,0⟩:Nd) false 0 0 (Sl.nil:Sl Pat).n (Sl.nil:Sl Pat).g,(Sl.of [(⟨4,0⟩:Nd)]:Sl Nd),(Sl.nil:Sl Z7),1⟩:Law)]:Sl Law),(Sl.of [Na,(Sl.of [0]:Sl Int),(Sl.of [1,0]:Sl Int),(Sl.of [1]:Sl Int),Na]:Sl (Sl Int))⟩:A5)
theorem NA    {y:A5}(h:DA N  = some y) :FunO S Gt [] [] (.p (.agg (A2 y))) ([]) []:=by unfold DA at h;refine A4 W func47 ?_;refine F6 W L7 10 ⟨[(9,.vec 10000),(1,.reg 2000 0),(0,.reg 1000 0)],[(10000,.vec B6 2 (Sl.of [(⟨-1,[112,114,111,116,111]⟩:G2),(⟨0,[119,101,115,116]⟩:G2),(⟨0,[101,97,115,116]⟩:G2),(⟨1,[110,111,114,116,104]⟩:G2),(⟨1,[115,111,117,116,104]⟩:G2)]:Sl G2).n (fun i=>B0 ((Sl.of [(⟨-1,[112,114,111,116,111]⟩:G2),(⟨0,[119,101,115,116]⟩:G2),(⟨0,[101,97,115,116]⟩:G2),(⟨1,[110,111,114,116,104]⟩:G2),(⟨1,[115,111,117,116,104]⟩:G2)]:Sl G2).g i)) false),(2000,.cells [pN 1,pU 4,pU 0,pB false,pN 0,pN 0,.p (vSl 7 B1 (Sl.nil:Sl Pat))]),(1000,.cells [.p E3,.p E3,.p E3])]⟩ (ids:=[(1000,1000),(2000,2000),(10000,10000)]) ?_ (hle:=klR [(0,.fn 5 (Sl.of [(⟨-1,[112,114,111,116,111]⟩:G2),(⟨0,[119,101,115,116]⟩:G2),(⟨0,[101,97,115,116]⟩:G2),(⟨1,[110,111,114,116,104]⟩:G2),(⟨1,[115,111,117,116,104]⟩:G2)]:Sl G2).n (E5 [pI .i64 0,.str []] [(0,B0 (⟨-1,[112,114,111,116,111]⟩:G2)),(1,B0 (⟨0,[119,101,115,116]⟩:G2)),(2,B0 (⟨0,[101,97,115,116]⟩:G2)),(3,B0 (⟨1,[110,111,114,116,104]⟩:G2)),(4,B0 (⟨1,[115,111,117,116,104]⟩:G2))]) (fun i=>B0 ((Sl.of [(⟨-1,[112,114,111,116,111]⟩:G2),(⟨0,[119,101,115,116]⟩:G2),(⟨0,[101,97,115,116]⟩:G2),(⟨1,[110,111,114,116,104]⟩:G2),(⟨1,[115,111,117,116,104]⟩:G2)]:Sl G2).g i)))] (al1 ⟨rfl,(fun i a=>match i,a with|0,_=>rfl|1,_=>rfl|2,_=>rfl|3,_=>rfl|4,_=>rfl|_+5,a=>Jo a (by omega))⟩ al0));refine F6 W (And.intro L7 L7) 17 ⟨[(16,.p (vSl 6 O2 (Sl.of [(⟨0,0,(⟨1,0⟩:Nd),0,0⟩:Z7)]:Sl Z7))),(13,.p (vSl 2 A0 (Sl.of [(⟨2,0⟩:Nd)]:Sl Nd))),(11,.p (.agg [pI .i64 1,pI .u32 4,pI .u32 0,.bb false,pI .i64 0,pI .i64 0,vSl 7 B1 (Sl.nil:Sl Pat)])),(10,.p (.agg [pI .i64 1,pI .u32 4,pI .u32 0,.bb false,pI .i64 0,pI .i64 0,vSl 7 B1 (Sl.nil:Sl Pat)])),(9,.vec 10000),(0,.reg 1000 0)],[(10000,.vec B6 2 (Sl.of [(⟨-1,[112,114,111,116,111]⟩:G2),(⟨0,[119,101,115,116]⟩:G2),(⟨0,[101,97,115,116]⟩:G2),(⟨1,[110,111,114,116,104]⟩:G2),(⟨1,[115,111,117,116,104]⟩:G2)]:Sl G2).n (fun i=>B0 ((Sl.of [(⟨-1,[112,114,111,116,111]⟩:G2),(⟨0,[119,101,115,116]⟩:G2),(⟨0,[101,97,115,116]⟩:G2),(⟨1,[110,111,114,116,104]⟩:G2),(⟨1,[115,111,117,116,104]⟩:G2)]:Sl G2).g i)) false),(1000,.cells [.p E3,.p E3,.p E3])]⟩ (ids:=[(1000,1000),(10000,10000)]) ?_ (hle:=klR [(0,.fn 1 (Sl.of [(⟨0,0,(⟨1,0⟩:Nd),0,0⟩:Z7)]:Sl Z7).n (E5 [pI .i64 0,pI .u32 0,pI .u32 0,pI .u32 0,pI .u32 0,pI .i64 0] [(0,O2 (⟨0,0,(⟨1,0⟩:Nd),0,0⟩:Z7))]) (fun i=>O2 ((Sl.of [(⟨0,0,(⟨1,0⟩:Nd),0,0⟩:Z7)]:Sl Z7).g i))),(1,.fn 1 (Sl.of [(⟨2,0⟩:Nd)]:Sl Nd).n (E5 [pI .u32 0,pI .u32 0] [(0,A0 (⟨2,0⟩:Nd))]) (fun i=>A0 ((Sl.of [(⟨2,0⟩:Nd)]:Sl Nd).g i)))] (al1 ⟨rfl,(fun i a=>match i,a with|0,_=>rfl|_+1,a=>Jo a (by omega))⟩ (al1 ⟨rfl,(fun i a=>match i,a with|0,_=>rfl|_+1,a=>Jo a (by omega))⟩ al0)));refine F6 W L7 21 ⟨[(20,.p (vSl 2 A0 (Sl.of [(⟨4,0⟩:Nd)]:Sl Nd))),(18,.p (.agg [pI .i64 6,pI .u32 0,pI .u32 0,.v (.bool false),pI .i64 0,pI .i64 0,E3])),(17,.p (.agg [.str [118,111,105,99,105,110,103],pI .i64 1,pI .u32 4,pI .u32 0,.bb false,pI .i64 0,pI .i64 0,vSl 7 B1 (Sl.nil:Sl Pat),pI .i64 1,pI .u32 4,pI .u32 0,.bb false,pI .i64 0,pI .i64 0,vSl 7 B1 (Sl.nil:Sl Pat),vSl 2 A0 (Sl.of [(⟨2,0⟩:Nd)]:Sl Nd),vSl 6 O2 (Sl.of [(⟨0,0,(⟨1,0⟩:Nd),0,0⟩:Z7)]:Sl Z7),pI .i64 1])),(9,.vec 10000),(0,.reg 1000 0)],[(10000,.vec B6 2 (Sl.of [(⟨-1,[112,114,111,116,111]⟩:G2),(⟨0,[119,101,115,116]⟩:G2),(⟨0,[101,97,115,116]⟩:G2),(⟨1,[110,111,114,116,104]⟩:G2),(⟨1,[115,111,117,116,104]⟩:G2)]:Sl G2).n (fun i=>B0 ((Sl.of [(⟨-1,[112,114,111,116,111]⟩:G2),(⟨0,[119,101,115,116]⟩:G2),(⟨0,[101,97,115,116]⟩:G2),(⟨1,[110,111,114,116,104]⟩:G2),(⟨1,[115,111,117,116,104]⟩:G2)]:Sl G2).g i)) false),(1000,.cells [.p E3,.p E3,.p E3])]⟩ (ids:=[(1000,1000),(10000,10000)]) ?_ (hle:=klR [(0,.fn 1 (Sl.of [(⟨4,0⟩:Nd)]:Sl Nd).n (E5 [pI .u32 0,pI .u32 0] [(0,A0 (⟨4,0⟩:Nd))]) (fun i=>A0 ((Sl.of [(⟨4,0⟩:Nd)]:Sl Nd).g i)))] (al1 ⟨rfl,(fun i a=>match i,a with|0,_=>rfl|_+1,a=>Jo a (by omega))⟩ al0));refine Qu W L7 23 23000 (k:=18) (n:=2) (e:=D9) (vw:=false) (E5 [.str [],pI .i64 0,pI .u32 0,pI .u32 0,.v (.bool false),pI .i64 0,pI .i64 0,E3,pI .i64 0,pI .u32 0,pI .u32 0,.v (.bool false),pI .i64 0,pI .i64 0,E3,E3,E3,pI .i64 0] [(0,[.str [118,111,105,99,105,110,103],pI .i64 1,pI .u32 4,pI .u32 0,.bb false,pI .i64 0,pI .i64 0,vSl 7 B1 (Sl.nil:Sl Pat),pI .i64 1,pI .u32 4,pI .u32 0,.bb false,pI .i64 0,pI .i64 0,vSl 7 B1 (Sl.nil:Sl Pat),vSl 2 A0 (Sl.of [(⟨2,0⟩:Nd)]:Sl Nd),vSl 6 O2 (Sl.of [(⟨0,0,(⟨1,0⟩:Nd),0,0⟩:Z7)]:Sl Z7),pI .i64 1]),(1,[.str [97,112,111,99,111,112,101],pI .i64 0,pI .u32 0,pI .u32 0,.v (.bool false),pI .i64 0,pI .i64 0,E3,pI .i64 6,pI .u32 0,pI .u32 0,.v (.bool false),pI .i64 0,pI .i64 0,E3,vSl 2 A0 (Sl.of [(⟨4,0⟩:Nd)]:Sl Nd),E3,pI .i64 1])]) (fun i=>A7 ((Sl.of [(⟨[118,111,105,99,105,110,103],Pat.mk 1 (⟨4,0⟩:Nd) false 0 0 (Sl.nil:Sl Pat).n (Sl.nil:Sl Pat).g,Pat.mk 1 (⟨4,0⟩:Nd) false 0 0 (Sl.nil:Sl Pat).n (Sl.nil:Sl Pat).g,(Sl.of [(⟨2,0⟩:Nd)]:Sl Nd),(Sl.of [(⟨0,0,(⟨1,0⟩:Nd),0,0⟩:Z7)]:Sl Z7),1⟩:Law),(⟨[97,112,111,99,111,112,101],Pat.mk 0 (⟨0,0⟩:Nd) false 0 0 (Sl.nil:Sl Pat).n (Sl.nil:Sl Pat).g,Pat.mk 6 (⟨0,0⟩:Nd) false 0 0 (Sl.nil:Sl Pat).n (Sl.nil:Sl Pat).g,(Sl.of [(⟨4,0⟩:Nd)]:Sl Nd),(Sl.nil:Sl Z7),1⟩:Law)]:Sl Law).g i)) (fun i a=>match i,a with|0,_=>(CX (.inl rfl) (CX (.inl rfl) (CX (.inl rfl) (CX (.inl rfl) (CX (.inl rfl) (CX (.inl rfl) (CX (.inl rfl) (CX (.inl rfl) (CX (.inl rfl) (CX (.inl rfl) (CX (.inl rfl) (CX (.inl rfl) (CX (.inl rfl) (CX (.inl rfl) (CX (.inl rfl) (CX (.inl rfl) (CX (.inl rfl) (CX (.inl rfl) Ai2))))))))))))))))))|1,_=>(CX (.inl rfl) (CX (.inl rfl) (CX (.inl rfl) (CX (.inl rfl) (CX lePT (CX (.inl rfl) (CX (.inl rfl) (CX Ab9 (CX (.inl rfl) (CX (.inl rfl) (CX (.inl rfl) (CX lePT (CX (.inl rfl) (CX (.inl rfl) (CX Ab9 (CX (.inl rfl) (CX Ab9 (CX (.inl rfl) Ai2))))))))))))))))))|_+2,a=>Jo a (by omega)) ?_;refine F6 W (And.intro (And.intro L7 L7) L7) 26 ⟨[(25,.vec 26000),(24,.vec 25000),(23,.vec 24000),(22,.vec 23000),(9,.vec 10000),(0,.reg 1000 0)],[(26000,.vec B2 1 (Sl.of [1]:Sl Int).n (fun i=>cI .i64 ((Sl.of [1]:Sl Int).g i)) true),(25000,.vec B2 1 (Sl.of [1,0]:Sl Int).n (fun i=>cI .i64 ((Sl.of [1,0]:Sl Int).g i)) true),(24000,.vec B2 1 (Sl.of [0]:Sl Int).n (fun i=>cI .i64 ((Sl.of [0]:Sl Int).g i)) true),(23000,.vec D9 18 (Sl.of [(⟨[118,111,105,99,105,110,103],Pat.mk 1 (⟨4,0⟩:Nd) false 0 0 (Sl.nil:Sl Pat).n (Sl.nil:Sl Pat).g,Pat.mk 1 (⟨4,0⟩:Nd) false 0 0 (Sl.nil:Sl Pat).n (Sl.nil:Sl Pat).g,(Sl.of [(⟨2,0⟩:Nd)]:Sl Nd),(Sl.of [(⟨0,0,(⟨1,0⟩:Nd),0,0⟩:Z7)]:Sl Z7),1⟩:Law),(⟨[97,112,111,99,111,112,101],Pat.mk 0 (⟨0,0⟩:Nd) false 0 0 (Sl.nil:Sl Pat).n (Sl.nil:Sl Pat).g,Pat.mk 6 (⟨0,0⟩:Nd) false 0 0 (Sl.nil:Sl Pat).n (Sl.nil:Sl Pat).g,(Sl.of [(⟨4,0⟩:Nd)]:Sl Nd),(Sl.nil:Sl Z7),1⟩:Law)]:Sl Law).n (fun i=>A7 ((Sl.of [(⟨[118,111,105,99,105,110,103],Pat.mk 1 (⟨4,0⟩:Nd) false 0 0 (Sl.nil:Sl Pat).n (Sl.nil:Sl Pat).g,Pat.mk 1 (⟨4,0⟩:Nd) false 0 0 (Sl.nil:Sl Pat).n (Sl.nil:Sl Pat).g,(Sl.of [(⟨2,0⟩:Nd)]:Sl Nd),(Sl.of [(⟨0,0,(⟨1,0⟩:Nd),0,0⟩:Z7)]:Sl Z7),1⟩:Law),(⟨[97,112,111,99,111,112,101],Pat.mk 0 (⟨0,0⟩:Nd) false 0 0 (Sl.nil:Sl Pat).n (Sl.nil:Sl Pat).g,Pat.mk 6 (⟨0,0⟩:Nd) false 0 0 (Sl.nil:Sl Pat).n (Sl.nil:Sl Pat).g,(Sl.of [(⟨4,0⟩:Nd)]:Sl Nd),(Sl.nil:Sl Z7),1⟩:Law)]:Sl Law).g i)) false),(10000,.vec B6 2 (Sl.of [(⟨-1,[112,114,111,116,111]⟩:G2),(⟨0,[119,101,115,116]⟩:G2),(⟨0,[101,97,115,116]⟩:G2),(⟨1,[110,111,114,116,104]⟩:G2),(⟨1,[115,111,117,116,104]⟩:G2)]:Sl G2).n (fun i=>B0 ((Sl.of [(⟨-1,[112,114,111,116,111]⟩:G2),(⟨0,[119,101,115,116]⟩:G2),(⟨0,[101,97,115,116]⟩:G2),(⟨1,[110,111,114,116,104]⟩:G2),(⟨1,[115,111,117,116,104]⟩:G2)]:Sl G2).g i)) false),(1000,.cells [.p E3,.p E3,.p E3])]⟩ (ids:=[(1000,1000),(10000,10000),(23000,23000),(24000,24000),(25000,25000),(26000,26000)]) ?_ (hle:=klR [(0,.fn 1 (Sl.of [1]:Sl Int).n (E5 [pI .i64 0] [(0,cI .i64 1)]) (fun i=>cI .i64 ((Sl.of [1]:Sl Int).g i))),(1,.fn 2 (Sl.of [1,0]:Sl Int).n (E5 [pI .i64 0] [(0,cI .i64 1),(1,cI .i64 0)]) (fun i=>cI .i64 ((Sl.of [1,0]:Sl Int).g i))),(2,.fn 1 (Sl.of [0]:Sl Int).n (E5 [pI .i64 0] [(0,cI .i64 0)]) (fun i=>cI .i64 ((Sl.of [0]:Sl Int).g i)))] (al1 ⟨rfl,(fun i a=>match i,a with|0,_=>rfl|_+1,a=>Jo a (by omega))⟩ (al1 ⟨rfl,(fun i a=>match i,a with|0,_=>rfl|1,_=>rfl|_+2,a=>Jo a (by omega))⟩ (al1 ⟨rfl,(fun i a=>match i,a with|0,_=>rfl|_+1,a=>Jo a (by omega))⟩ al0))));refine Qu W L7 27 27000 (k:=1) (n:=5) (e:=F2) (vw:=false) (E5 [E3] [(0,[E3]),(1,cL 1 (cI .i64) (Sl.of [0]:Sl Int)),(2,cL 1 (cI .i64) (Sl.of [1,0]:Sl Int)),(3,cL 1 (cI .i64) (Sl.of [1]:Sl Int)),(4,[E3])]) (fun i=>cL 1 (cI .i64) ((Sl.of [Na,(Sl.of [0]:Sl Int),(Sl.of [1,0]:Sl Int),(Sl.of [1]:Sl Int),Na]:Sl (Sl Int)).g i)) (fun i a=>match i,a with|0,_=>leCn|1,_=>leCr _|2,_=>leCr _|3,_=>leCr _|4,_=>leCn|_+5,a=>Jo a (by omega)) ?_;refine F6 W Jy 27 ⟨[(26,.p (vSl 1 (cL 1 (cI .i64)) (Sl.of [Na,(Sl.of [0]:Sl Int),(Sl.of [1,0]:Sl Int),(Sl.of [1]:Sl Int),Na]:Sl (Sl Int)))),(22,.p (vSl 18 A7 (Sl.of [(⟨[118,111,105,99,105,110,103],Pat.mk 1 (⟨4,0⟩:Nd) false 0 0 (Sl.nil:Sl Pat).n (Sl.nil:Sl Pat).g,Pat.mk 1 (⟨4,0⟩:Nd) false 0 0 (Sl.nil:Sl Pat).n (Sl.nil:Sl Pat).g,(Sl.of [(⟨2,0⟩:Nd)]:Sl Nd),(Sl.of [(⟨0,0,(⟨1,0⟩:Nd),0,0⟩:Z7)]:Sl Z7),1⟩:Law),(⟨[97,112,111,99,111,112,101],Pat.mk 0 (⟨0,0⟩:Nd) false 0 0 (Sl.nil:Sl Pat).n (Sl.nil:Sl Pat).g,Pat.mk 6 (⟨0,0⟩:Nd) false 0 0 (Sl.nil:Sl Pat).n (Sl.nil:Sl Pat).g,(Sl.of [(⟨4,0⟩:Nd)]:Sl Nd),(Sl.nil:Sl Z7),1⟩:Law)]:Sl Law))),(9,.p (vSl 2 B0 (Sl.of [(⟨-1,[112,114,111,116,111]⟩:G2),(⟨0,[119,101,115,116]⟩:G2),(⟨0,[101,97,115,116]⟩:G2),(⟨1,[110,111,114,116,104]⟩:G2),(⟨1,[115,111,117,116,104]⟩:G2)]:Sl G2))),(0,.reg 1000 0)],[(1000,.cells [.p E3,.p E3,.p E3])]⟩ (ids:=[(1000,1000)]) ?_;cases h;exact kR W
def FK (N:Nat)(a:Sl (Sl Nd))(b:Sl (Sl Nd)):Option Bool:= if ((a.n:Int) != (b.n:Int)) then some false else R4 N (fun c (x1:Int)=>if (decide (x1<(a.n:Int))) then if (((0:Int)<=x1/\x1<(a.n:Int))/\((0:Int)<=x1/\x1<(b.n:Int)))then (BC N (a.g x1.toNat) (b.g x1.toNat)).bind fun y3=>if (!y3) then some false else c (wrap .i64 (x1+1)) else none else some true) 0
theorem Ri {a:Sl (Sl Nd)}{b:Sl (Sl Nd)}{y:Bool}(h:FK N a b=some y) :FunO S Jk [.p (vSl 1 (cL 2 A0) a),.p (vSl 1 (cL 2 A0) b)] [] (pB y) ([]) []:=by
 unfold FK at h;refine A4 W func21 ?_;apply kI W h<;>intro h
 .cases h;exact kR W
 refine I0 W Jy h (fun x1=>⟨[(5,pN x1),(1,.p (vSl 1 (cL 2 A0) b)),(0,.p (vSl 1 (cL 2 A0) a))],[]⟩) (ids:=[]) (fun _ _ _ _ _ c x1 d h=>?_);apply kI W h<;>intro h
 .refine E9 W Jy [2,3,6,7,8] ?_;obtain⟨c9,h⟩:=E2 h;obtain⟨y3,e3,h⟩:=B7 h;refine V7 c9 (FC W V e3) ?_;refine H9 Jy ?_;apply kI W h<;>intro h
  .cases h;exact kR W
  exact d _ [] _ (wrap .i64 (x1+1)) Jy h
 cases h;exact kR W
def BI (N:Nat)(a:A5):Option Bool:= if (((decide (70<(a.Tree.n:Int)))||(decide (70<(a.Laws.n:Int))))||(decide (70<(a.On.n:Int)))) then some false else R4 N (fun b (x1:Int)=>if (decide (x1<(a.On.n:Int))) then if ((0:Int)<=x1/\x1<(a.On.n:Int))then if (decide (70<((a.On.g x1.toNat).n:Int))) then some false else b (wrap .i64 (x1+1)) else none else R4 N (fun c (x3:Int)=>if (decide (x3<(a.Laws.n:Int))) then if (((0:Int)<=x3/\x3<(a.Laws.n:Int))/\((0:Int)<=x3/\x3<=(wrap .i64 (x3+1))/\(wrap .i64 (x3+1))<=(a.Laws.n:Int)))then (Bm N (a.Laws.sub x3.toNat (wrap .i64 (x3+1)).toNat)).bind fun d=>lt (fun (z3:Bool)=>if z3 then some false else c (wrap .i64 (x3+1))) fun k3=>if (decide (4<d)) then k3 true else if (decide (20<((a.Laws.g x3.toNat).If.n:Int))) then k3 true else if (decide (20<((a.Laws.g x3.toNat).Out.n:Int))) then k3 true else (Ah N (a.Laws.g x3.toNat).Left).bind fun f=>if (decide (41<f)) then k3 true else (Ah N (a.Laws.g x3.toNat).Right).bind fun i=>k3 (decide (41<i)) else none else some true) 0) 0
theorem Rj {c:A5}{y:Bool}(h:BI N c=some y) :FunO S Jg [.p (.agg (A2 c))] [] (pB y) ([]) []:=by
 unfold BI at h;refine A4 W func12 ?_;refine kB W (A6 W) Jy Jy 11 (.o (.o (.a (decide (70<(c.Tree.n:Int)))) (.a (decide (70<(c.Laws.n:Int))))) (.a (decide (70<(c.On.n:Int))))) ?_;apply kI W h<;>intro h
 .cases h;exact kR W
 refine I0 W Jy h (fun x1=>⟨[(3,pN x1),(1,.reg 2000 0)],[(2000,.cells ((A2 c).map .p))]⟩) (ids:=[(2000,2000)]) (fun _ _ _ _ _ f x1 i h=>?_);apply kI W h<;>intro h
 .obtain⟨c9,h⟩:=E2 h;refine E1 W c9 (b:=decide (70<((c.On.g x1.toNat).n:Int))) (fun c10=>?_) (fun c10=>?_)
  .replace h:=itT c10 h;cases h;exact kR W
  replace h:=itF c10 h;exact i _ [(2000,2000)] _ (wrap .i64 (x1+1)) Jy h
 refine I0 W Jy h (fun x3=>⟨[(4,pN x3),(1,.reg 2000 0)],[(2000,.cells ((A2 c).map .p))]⟩) (ids:=[(2000,2000)]) (fun _ _ _ _ _ j x3 l h=>?_);apply kI W h<;>intro h
 .obtain⟨c40,h⟩:=E2 h;obtain⟨q,e11,h⟩:=B7 h;refine B9 W [] (And.intro (And.intro c40.1 Kz) c40.2) (TQ W V e11) ?_;refine Hd W Jy (A6 W) h 0 (fun z3=>⟨[(79,pB z3),(4,pN x3),(1,.reg 2000 0)],[(2000,.cells ((A2 c).map .p))]⟩) (fun M3 k3 d h=>?_) (fun z3 h=>?_)
  .refine kG W h (fun h=>?_) (fun h=>?_)
   .exact d _ [(2000,2000)] _ true Jy h
   refine kG W h (fun h=>?_) (fun h=>?_)
   .exact d _ [(2000,2000)] _ true Jy h
   refine kG W h (fun h=>?_) (fun h=>?_)
   .exact d _ [(2000,2000)] _ true Jy h
   refine kC W h (Hj W V) (fun r h=>?_);refine kG W h (fun h=>?_) (fun h=>?_)
   .exact d _ [(2000,2000)] _ true Jy h
   refine kC W h (Hj W V) (fun m h=>?_);exact d _ [(2000,2000)] _ (decide (41<m)) Jy h
  apply kI W h<;>intro h
  .cases h;exact kR W
  exact l _ [(2000,2000)] _ (wrap .i64 (x3+1)) Jy h
 cases h;exact kR W
def O0 (N:Nat)(a:Sl Int)(c:Int):Option Int:= R4 N (fun b (x1:Int)=>if (decide (x1<(a.n:Int))) then if ((0:Int)<=x1/\x1<(a.n:Int))then if (c==(a.g x1.toNat)) then some x1 else b (wrap .i64 (x1+1)) else none else some (-1)) 0
theorem Cw {a:Sl Int}{c:Int}{y:Int}(h:O0 N a c=some y) :FunO S V9 [.p (vSl 1 (cI .i64) a),pN c] [] (pN y) ([]) []:=by
 unfold O0 at h;refine A4 W func112 ?_;refine I0 W Jy h (fun x1=>⟨[(8,pN x1),(7,pN (a.n:Int)),(1,pN c),(0,.p (vSl 1 (cI .i64) a))],[]⟩) (ids:=[]) (fun _ _ _ _ _ d x1 f h=>?_);apply kI W h<;>intro h
 .obtain⟨c8,h⟩:=E2 h;refine E1 W c8 (b:=c==(a.g x1.toNat)) (fun c9=>?_) (fun c9=>?_)
  .replace h:=itT c9 h;cases h;exact kR W
  replace h:=itF c9 h;exact f _ [] _ (wrap .i64 (x1+1)) Jy h
 cases h;exact kR W
def H1 (N:Nat)(a:Sl Int)(b:Int):Option Bool:= (O0 N a b).bind fun y1=>some (decide (0<=y1))
theorem Q1 {a:Sl Int}{b:Int}{y:Bool}(h:H1 N a b=some y) :FunO S P9 [.p (vSl 1 (cI .i64) a),pN b] [] (pB y) ([]) []:=by unfold H1 at h;refine A4 W func83 ?_;refine kC W h (Cw W V) (fun y1 h=>?_);cases h;exact kR W
def BJ (N:Nat)(a:A5)(b:Int):Option ((Sl Int)×Int):= (D4 N a).bind fun y1=>if (y1 != 0) then some (Na,y1) else if ((decide (b<0))||(decide ((a.Laws.n:Int)<=b))) then some (Na,3) else BQ N (fun c (x5:Sl Int) (x6:Int)=>if (decide (x6<(a.Tree.n:Int))) then if (((0:Int)<=x6/\x6<(a.Tree.n:Int))/\((0:Int)<=x6/\x6<(a.On.n:Int)))then (H1 N (a.On.g x6.toNat) b).bind fun d=>lt (fun (z4:Bool)=>if z4 then if ((x5.n+(Sl.of [x6]:Sl Int).n)*8<=140737488355328/\x5.n+(Sl.of [x6]:Sl Int).n<=140737488355328)then c (x5.push x6) (wrap .i64 (x6+1)) else none else c x5 (wrap .i64 (x6+1))) fun k4=>if d then k4 true else (H1 N x5 (a.Tree.g x6.toNat).Parent).bind fun f=>k4 f else none else some (x5,0)) Na 0
theorem JV {d:A5}{b:Int}{y:(Sl Int)×Int}(h:BJ N d b=some y) :FunO S Eg [.p (.agg (A2 d)),pN b] [] (.tup [.vec 0,pN y.2]) ([.vec B2 1 y.1.n (fun i=>cI .i64 (y.1.g i)) true]) []:=by
 unfold BJ at h;refine A4 W func48 ?_;refine kC W h (M8 W V) (fun y1 h=>?_);apply kI W h<;>intro h
 .obtain rfl:=C6 h;exact A9 W Jy ⟨[(5,pN y1),(4,.vec 5700)],[(5700,.vec B2 1 Na.n (fun i=>cI .i64 (Na.g i)) true)]⟩ [5700] (ids:=[]) ⟨rfl,rfl,rfl⟩
 refine kB W (A6 W) Jy Jy 6 (.o (.a (decide (b<0))) (.a (decide ((d.Laws.n:Int)<=b)))) ?_;apply kI W h<;>intro h
 .obtain rfl:=C6 h;exact A9 W Jy ⟨[(5,pN 3),(4,.vec 5700)],[(5700,.vec B2 1 Na.n (fun i=>cI .i64 (Na.g i)) true)]⟩ [5700] (ids:=[]) ⟨rfl,rfl,rfl⟩
 refine H4 W Jy h (fun x5 x6=>⟨[(27,pN x6),(26,pN (d.Tree.n:Int)),(25,.p (vSl 2 B0 d.Tree)),(7,.vec 8501),(2,.reg 3000 0),(1,pN b)],[(8501,.vec B2 1 x5.n (fun i=>cI .i64 (x5.g i)) true),(3000,.cells ((A2 d).map .p))]⟩) (ids:=[(3000,3000)]) (fun _ _ _ _ _ l x5 x6 f h=>?_);apply kI W h<;>intro h
 .obtain⟨c22,h⟩:=E2 h;obtain⟨q,e11,h⟩:=B7 h;refine B9 W [] (And.intro (And.intro c22.1 Kw) c22.2) (Q1 W V e11) ?_;refine Hd W Jy (A6 W) h 0 (fun z4=>⟨[(44,pB z4),(27,pN x6),(26,pN (d.Tree.n:Int)),(25,.p (vSl 2 B0 d.Tree)),(8,pN x6),(7,.vec 8501),(2,.reg 3000 0),(1,pN b)],[(8501,.vec B2 1 x5.n (fun i=>cI .i64 (x5.g i)) true),(3000,.cells ((A2 d).map .p))]⟩) (fun M4 k4 j h=>?_) (fun z4 h=>?_)
  .refine kG W h (fun h=>?_) (fun h=>?_)
   .exact j _ [(3000,3000),(8501,8501)] _ true Jy h
   refine kC W h (Q1 W V) (fun m h=>?_);exact j _ [(3000,3000),(8501,8501)] _ m Jy h
  apply kI W h<;>intro h
  .obtain⟨c27,h⟩:=E2 h;exact f _ [(3000,3000),(8501,49000)] _ (x5.push x6) (wrap .i64 (x6+1)) (And.intro L7 c27) h (hle:=klR [(4,.fn (x5.n+1) (x5.push x6).n (U3 x5.n (fun i=>cI .i64 (x5.g i)) (E5 [pI .i64 0] [(0,cI .i64 x6)])) (fun i=>cI .i64 ((x5.push x6).g i)))] (al1 ⟨rfl,OE (c:=cI .i64) (v:=x5) (x:=x6) (z:=[(pI .i64 0)]) same rfl rfl⟩ al0))
  exact f _ [(3000,3000),(8501,8501)] _ x5 (wrap .i64 (x6+1)) Jy h
 obtain rfl:=C6 h;exact A9 W Jy ⟨[(5,pN 0),(4,.vec 8501)],[(8501,.vec B2 1 x5.n (fun i=>cI .i64 (x5.g i)) true)]⟩ [8501] (ids:=[(8501,8501)]) ⟨rfl,rfl,rfl⟩
def H7 (N:Nat)(a:A5)(c:Sl Nd):Option (Sl P6):= if ((0:Int)<=(a.Tree.n:Int)/\(a.Tree.n:Int)<=(a.Tree.n:Int)/\(a.Tree.n:Int)*32<=140737488355328/\(a.Tree.n:Int)<=140737488355328)then BQ N (fun b (x1:Sl P6) (x2:Int)=>if (decide (x2<(a.Tree.n:Int))) then if ((0:Int)<=x2/\x2<(a.Tree.n:Int))then if ((decide (0<=(a.Tree.g x2.toNat).Parent))=true->(((0:Int)<=(a.Tree.g x2.toNat).Parent/\(a.Tree.g x2.toNat).Parent<(x1.n:Int))/\(a.Tree.g x2.toNat).Parent.toNat<x1.n))then if ((if (decide (0<=(a.Tree.g x2.toNat).Parent)) then (x1.g (a.Tree.g x2.toNat).Parent.toNat).e else 0)==0) then if ((0:Int)<=x2/\x2<(a.On.n:Int))then (Ax N a (a.On.g x2.toNat)).bind fun y5=>(Z2 N y5 (if (decide (0<=(a.Tree.g x2.toNat).Parent)) then (x1.g (a.Tree.g x2.toNat).Parent.toNat).w else c)).bind fun y6=>if (((0:Int)<=x2/\x2<(x1.n:Int))/\x2.toNat<x1.n)then b (x1.upd x2.toNat (⟨y6.1,y6.2⟩:P6)) (wrap .i64 (x2+1)) else none else none else if (((0:Int)<=x2/\x2<(x1.n:Int))/\x2.toNat<x1.n)then b (x1.upd x2.toNat (⟨(if (decide (0<=(a.Tree.g x2.toNat).Parent)) then (x1.g (a.Tree.g x2.toNat).Parent.toNat).w else c),(if (decide (0<=(a.Tree.g x2.toNat).Parent)) then (x1.g (a.Tree.g x2.toNat).Parent.toNat).e else 0)⟩:P6)) (wrap .i64 (x2+1)) else none else none else none else some x1) (Sl.rep (a.Tree.n:Int).toNat (⟨Nb,0⟩:P6):Sl P6) 0 else none
theorem DB {a:A5}{d:Sl Nd}{y:Sl P6}(h:H7 N a d=some y) :FunO S Gv [.p (.agg (A2 a)),.p (vSl 2 A0 d)] [] (.vec 0) ([.vec E6 2 y.n (fun i=>I2 (y.g i)) true]) []:=by
 unfold H7 at h;refine A4 W func65 ?_;refine I1 W Jy 4 3000 (A2 a) ?_;obtain⟨c1,h⟩:=E2 h;refine Qu W c1 5 13000 (k:=2) (n:=(a.Tree.n:Int).toNat) (e:=E6) (vw:=false) (fun _=>[E3,pI .i64 0]) (fun i=>I2 ((Sl.rep (a.Tree.n:Int).toNat (⟨Nb,0⟩:P6):Sl P6).g i)) (fun i r=>CX Ab9 (CX (.inl rfl) Ai2)) ?_;refine H4 W Jy h (fun x1 x2=>⟨[(16,pN x2),(15,pN (a.Tree.n:Int)),(14,.p (vSl 2 B0 a.Tree)),(5,.vec 13000),(2,.p (.ptr (A2 a))),(1,.p (vSl 2 A0 d))],[(13000,.vec E6 2 x1.n (fun i=>I2 (x1.g i)) false)]⟩) (ids:=[(13000,13000)]) (fun _ _ _ _ _ q x1 x2 m h=>?_);apply kI W h<;>intro h
 .obtain⟨c17,h⟩:=E2 h;refine I1 W (And.intro c17 Kw) 21 8000 [pI .i64 (a.Tree.g x2.toNat).Parent,.str (a.Tree.g x2.toNat).Name] ?_;obtain⟨c19,h⟩:=E2 h;obtain⟨t5,f⟩:∃x:Sl Nd,x=(if (decide (0<=(a.Tree.g x2.toNat).Parent)) then (x1.g (a.Tree.g x2.toNat).Parent.toNat).w else d):=⟨_,rfl⟩;obtain⟨t6,j⟩:∃x:Int,x=(if (decide (0<=(a.Tree.g x2.toNat).Parent)) then (x1.g (a.Tree.g x2.toNat).Parent.toNat).e else 0):=⟨_,rfl⟩;refine OI W Jy (A6 W) 0 ⟨[(16,pN x2),(15,pN (a.Tree.n:Int)),(14,.p (vSl 2 B0 a.Tree)),(8,.reg 9000 0),(6,pN x2),(5,.vec 13000),(2,.p (.ptr (A2 a))),(1,.p (vSl 2 A0 d))],[(13000,.vec E6 2 x1.n (fun i=>I2 (x1.g i)) false),(9000,.cells [.p (vSl 2 A0 t5),pN t6])]⟩ (fun M3 o=>?_) ?_
  .refine E1 W Jy (b:=decide (0<=(a.Tree.g x2.toNat).Parent)) (fun c20=>?_) (fun c20=>?_)
   .exact o _ [(9000,9000),(13000,13000)] _ (And.intro (And.intro (c19 c20).1 Kw) (c19 c20).2) (hle:=klR [(7,.fn (x1.g (a.Tree.g x2.toNat).Parent.toNat).w.n t5.n (fun i=>A0 ((x1.g (a.Tree.g x2.toNat).Parent.toNat).w.g i)) (fun i=>A0 (t5.g i))),(8,.eq (pI .i64 (x1.g (a.Tree.g x2.toNat).Parent.toNat).e) (pI .i64 t6))] (al1 (by have e:=f;simp only[c20,pm,Jq,Js]at e;subst e;exact⟨rfl,fun _ _=>rfl⟩) (al1 (by simp only[f,j,c20,Leaf.ok,pm,Jq,Js]) al0)))
   exact o _ [(9000,9000),(13000,13000)] _ Jy (hle:=klR [(7,.fn d.n t5.n (fun i=>A0 (d.g i)) (fun i=>A0 (t5.g i))),(8,.eq (pI .i64 0) (pI .i64 t6))] (al1 (by have e:=f;simp only[c20,pm,Jq,Js]at e;subst e;exact⟨rfl,fun _ _=>rfl⟩) (al1 (by simp only[f,j,c20,Leaf.ok,pm,Jq,Js]) al0)))
  subst j;subst f;apply kI W h<;>intro h
  .refine E9 W Jy [0,2,4,5,6,9] ?_;obtain⟨c22,h⟩:=E2 h;obtain⟨y5,e5,h⟩:=B7 h;refine V7 (And.intro Kx c22) (Fi W V e5) ?_;obtain⟨y6,e6,h⟩:=B7 h;refine V7 Jy (Eu W V e6) ?_;refine H9 Jy ?_;obtain⟨c23,h⟩:=E2 h;exact m _ [(13000,13000)] _ (x1.upd x2.toNat (⟨y6.1,y6.2⟩:P6)) (wrap .i64 (x2+1)) (And.intro c23.1 (And.intro (rfl:(2:Nat)=2) (And.intro c23.2 Kw))) h (hle:=klR [(5,.fn x1.n (x1.upd x2.toNat (⟨y6.1,y6.2⟩:P6)).n (fun l=>if l=x2.toNat then splice ((fun i=>I2 (x1.g i)) l) 0 [vSl 2 A0 y6.1,pI .i64 y6.2]else (fun i=>I2 (x1.g i)) l) (fun i=>I2 ((x1.upd x2.toNat (⟨y6.1,y6.2⟩:P6)).g i)))] (al1 ⟨rfl,Tq (c:=I2) (v:=x1) (x:=(⟨y6.1,y6.2⟩:P6)) same (fun _=>by first|rfl|(dsimp only;split<;>rfl))⟩ al0))
  obtain⟨c24,h⟩:=E2 h;exact m _ [(13000,13000)] _ (x1.upd x2.toNat (⟨(if (decide (0<=(a.Tree.g x2.toNat).Parent)) then (x1.g (a.Tree.g x2.toNat).Parent.toNat).w else d),(if (decide (0<=(a.Tree.g x2.toNat).Parent)) then (x1.g (a.Tree.g x2.toNat).Parent.toNat).e else 0)⟩:P6)) (wrap .i64 (x2+1)) (And.intro c24.1 (And.intro (rfl:(2:Nat)=2) (And.intro c24.2 Kw))) h (hle:=klR [(5,.fn x1.n (x1.upd x2.toNat (⟨(if (decide (0<=(a.Tree.g x2.toNat).Parent)) then (x1.g (a.Tree.g x2.toNat).Parent.toNat).w else d),(if (decide (0<=(a.Tree.g x2.toNat).Parent)) then (x1.g (a.Tree.g x2.toNat).Parent.toNat).e else 0)⟩:P6)).n (fun l=>if l=x2.toNat then splice ((fun i=>I2 (x1.g i)) l) 0 [vSl 2 A0 (if (decide (0<=(a.Tree.g x2.toNat).Parent)) then (x1.g (a.Tree.g x2.toNat).Parent.toNat).w else d),pI .i64 (if (decide (0<=(a.Tree.g x2.toNat).Parent)) then (x1.g (a.Tree.g x2.toNat).Parent.toNat).e else 0)]else (fun i=>I2 (x1.g i)) l) (fun i=>I2 ((x1.upd x2.toNat (⟨(if (decide (0<=(a.Tree.g x2.toNat).Parent)) then (x1.g (a.Tree.g x2.toNat).Parent.toNat).w else d),(if (decide (0<=(a.Tree.g x2.toNat).Parent)) then (x1.g (a.Tree.g x2.toNat).Parent.toNat).e else 0)⟩:P6)).g i)))] (al1 ⟨rfl,Tq (c:=I2) (v:=x1) (x:=(⟨(if (decide (0<=(a.Tree.g x2.toNat).Parent)) then (x1.g (a.Tree.g x2.toNat).Parent.toNat).w else d),(if (decide (0<=(a.Tree.g x2.toNat).Parent)) then (x1.g (a.Tree.g x2.toNat).Parent.toNat).e else 0)⟩:P6)) same (fun _=>by first|rfl|(dsimp only;split<;>rfl))⟩ al0))
 obtain rfl:=C6 h;exact A9 W Jy ⟨[(4,.vec 13000)],[(13000,.vec E6 2 x1.n (fun i=>I2 (x1.g i)) true)]⟩ [13000] (ids:=[(13000,13000)]) ⟨rfl,rfl,rfl⟩
def BK (N:Nat)(b:A5)(c:Sl Nd):Option ((Sl (Sl Nd))×Int):= (Z4 N b c).bind fun y1=>if (y1 != 0) then some (Nc,y1) else (H7 N b c).bind fun y2=>BQ N (fun a (x1:Sl (Sl Nd)) (x2:Int)=>if (decide (x2<(y2.n:Int))) then if (((0:Int)<=x2/\x2<(y2.n:Int))/\x2.toNat<y2.n)then if ((y2.g x2.toNat).e != 0) then some (Nc,(y2.g x2.toNat).e) else (A8 N (y2.g x2.toNat).w).bind fun y5=>if ((x1.n+(Sl.of [y5]:Sl (Sl Nd)).n)*24<=140737488355328/\x1.n+(Sl.of [y5]:Sl (Sl Nd)).n<=140737488355328)then a (x1.push y5) (wrap .i64 (x2+1)) else none else none else some (x1,0)) Nc 0
theorem JW {a:A5}{b:Sl Nd}{y:(Sl (Sl Nd))×Int}(h:BK N a b=some y) :FunO S Ed [.p (.agg (A2 a)),.p (vSl 2 A0 b)] [] (.tup [.vec 0,pN y.2]) ([.vec B4 1 y.1.n (fun i=>cL 2 A0 (y.1.g i)) true]) []:=by
 unfold BK at h;refine A4 W func16 ?_;refine I1 W Jy 4 3000 (A2 a) ?_;obtain⟨y1,e1,h⟩:=B7 h;refine B9 W [] Kx (Ex W V e1) ?_;apply kI W h<;>intro h
 .obtain rfl:=C6 h;exact A9 W Jy ⟨[(5,pN y1),(4,.vec 5700)],[(5700,.vec B4 1 Nc.n (fun i=>cL 2 A0 (Nc.g i)) true)]⟩ [5700] (ids:=[]) ⟨rfl,rfl,rfl⟩
 obtain⟨y2,e2,h⟩:=B7 h;refine B9 W [] Kx (DB W V e2) ?_;refine H4 W Jy h (fun x1 x2=>⟨[(20,pN x2),(19,pN (y2.n:Int)),(18,.vec 19000),(7,.vec 8500)],[(19000,.vec E6 2 y2.n (fun i=>I2 (y2.g i)) true),(8500,.vec B4 1 x1.n (fun i=>cL 2 A0 (x1.g i)) false)]⟩) (ids:=[(19000,19000)]) (fun _ _ _ _ _ d x1 x2 f h=>?_);apply kI W h<;>intro h
 .obtain⟨c9,h⟩:=E2 h;refine I1 W (And.intro (And.intro c9.1 Kw) c9.2) 24 10000 [vSl 2 A0 (y2.g x2.toNat).w,pI .i64 (y2.g x2.toNat).e] ?_;apply kI W h<;>intro h
  .refine E9 W Jy [1] ?_;refine H9 Jy ?_;obtain rfl:=C6 h;exact A9 W Jy ⟨[(5,pN (y2.g x2.toNat).e),(4,.vec 5700)],[(5700,.vec B4 1 Nc.n (fun i=>cL 2 A0 (Nc.g i)) true)]⟩ [5700] (ids:=[]) ⟨rfl,rfl,rfl⟩
  refine kC W h (F8 W V) (fun y5 h=>?_);obtain⟨c11,h⟩:=E2 h;exact f _ [(8500,35000),(19000,19000)] _ (x1.push y5) (wrap .i64 (x2+1)) (And.intro L7 c11) h (hle:=klR [(3,.fn (x1.n+1) (x1.push y5).n (U3 x1.n (fun i=>cL 2 A0 (x1.g i)) (E5 [E3] [(0,cL 2 A0 y5)])) (fun i=>cL 2 A0 ((x1.push y5).g i)))] (al1 ⟨rfl,OE (c:=cL 2 A0) (v:=x1) (x:=y5) (z:=[E3]) same rfl rfl⟩ al0))
 obtain rfl:=C6 h;exact A9 W Jy ⟨[(5,pN 0),(4,.vec 8500)],[(8500,.vec B4 1 x1.n (fun i=>cL 2 A0 (x1.g i)) true)]⟩ [8500] (ids:=[(8500,8500)]) ⟨rfl,rfl,rfl⟩
def AT (N:Nat)(b:A5)(c:Sl Nd):Option ((Sl (Sl Nd))×Int):= (BK N b c).bind fun y1=>if (y1.2 != 0) then some (Nc,y1.2) else (H6 N b.Tree).bind fun y2=>BQ N (fun a (x1:Sl (Sl Nd)) (x2:Int)=>if (decide (x2<(y2.1.n:Int))) then if ((((((0:Int)<=x2/\x2<(y2.1.n:Int))/\x2.toNat<y2.1.n)/\((0:Int)<=(y2.1.g x2.toNat)/\(y2.1.g x2.toNat)<(y1.1.n:Int)))/\(y2.1.g x2.toNat).toNat<y1.1.n)/\((x1.n+(Sl.of [y1.1.g (y2.1.g x2.toNat).toNat]:Sl (Sl Nd)).n)*24<=140737488355328/\x1.n+(Sl.of [y1.1.g (y2.1.g x2.toNat).toNat]:Sl (Sl Nd)).n<=140737488355328))then a (x1.push (y1.1.g (y2.1.g x2.toNat).toNat)) (wrap .i64 (x2+1)) else none else some (x1,y2.2)) Nc 0
theorem Ie {a:A5}{b:Sl Nd}{y:(Sl (Sl Nd))×Int}(h:AT N a b=some y) :FunO S DJ [.p (.agg (A2 a)),.p (vSl 2 A0 b)] [] (.tup [.vec 0,pN y.2]) ([.vec B4 1 y.1.n (fun i=>cL 2 A0 (y.1.g i)) true]) []:=by
 unfold AT at h;refine A4 W func18 ?_;refine kC W h (JW W V) (fun y1 h=>?_);apply kI W h<;>intro h
 .obtain rfl:=C6 h;exact A9 W Jy ⟨[(5,pN y1.2),(4,.vec 5700)],[(5700,.vec B4 1 Nc.n (fun i=>cL 2 A0 (Nc.g i)) true)]⟩ [5700] (ids:=[]) ⟨rfl,rfl,rfl⟩
 refine kC W h (Dz W V) (fun y2 h=>?_);refine H4 W Jy h (fun x1 x2=>⟨[(29,pN x2),(28,pN (y2.1.n:Int)),(27,.vec 25000),(9,.vec 10500),(7,pN y2.2),(6,.vec 16000)],[(25000,.vec B2 1 y2.1.n (fun i=>cI .i64 (y2.1.g i)) true),(16000,.vec B4 1 y1.1.n (fun i=>cL 2 A0 (y1.1.g i)) true),(10500,.vec B4 1 x1.n (fun i=>cL 2 A0 (x1.g i)) false)]⟩) (ids:=[(16000,16000),(25000,25000)]) (fun _ _ _ _ _ d x1 x2 f h=>?_);apply kI W h<;>intro h
 .obtain⟨c5,h⟩:=E2 h;exact f _ [(10500,40000),(16000,16000),(25000,25000)] _ (x1.push (y1.1.g (y2.1.g x2.toNat).toNat)) (wrap .i64 (x2+1)) (And.intro (And.intro (And.intro (And.intro (And.intro c5.1.1.1.1 c5.1.1.1.2) c5.1.1.2) c5.1.2) L7) c5.2) h (hle:=klR [(5,.fn (x1.n+1) (x1.push (y1.1.g (y2.1.g x2.toNat).toNat)).n (U3 x1.n (fun i=>cL 2 A0 (x1.g i)) (E5 [E3] [(0,cL 2 A0 (y1.1.g (y2.1.g x2.toNat).toNat))])) (fun i=>cL 2 A0 ((x1.push (y1.1.g (y2.1.g x2.toNat).toNat)).g i)))] (al1 ⟨rfl,OE (c:=cL 2 A0) (v:=x1) (x:=y1.1.g (y2.1.g x2.toNat).toNat) (z:=[E3]) same rfl rfl⟩ al0))
 obtain rfl:=C6 h;exact A9 W Jy ⟨[(5,pN y2.2),(4,.vec 10500)],[(10500,.vec B4 1 x1.n (fun i=>cL 2 A0 (x1.g i)) true)]⟩ [10500] (ids:=[(10500,10500)]) ⟨rfl,rfl,rfl⟩
def Cx (N:Nat)(f:A5)(i:A5)(b:Sl (Sl Nd)):Option (Bool×Int):= (D4 N f).bind fun o=>if (o != 0) then some (false,o) else (D4 N i).bind fun q=>if (q != 0) then some (false,q) else if (decide (256<(b.n:Int))) then some (false,12) else R4 N (fun j (x1:Int)=>if (decide (x1<(b.n:Int))) then if ((0:Int)<=x1/\x1<(b.n:Int))then (N8 N (b.g x1.toNat)).bind fun y5=>if (y5 != 0) then some (false,y5) else j (wrap .i64 (x1+1)) else none else (H6 N f.Tree).bind fun y6=>(H6 N i.Tree).bind fun y7=>if ((y6.1.n:Int) != (y7.1.n:Int)) then some (false,2) else R4 N (fun l (x6:Int)=>if (decide (x6<(b.n:Int))) then if ((0:Int)<=x6/\x6<(b.n:Int))then (H7 N f (b.g x6.toNat)).bind fun c=>(H7 N i (b.g x6.toNat)).bind fun d=>R4 N (fun m (a:Int)=>if (decide (a<(y6.1.n:Int))) then if (((((((((0:Int)<=a/\a<(y6.1.n:Int))/\a.toNat<y6.1.n)/\((0:Int)<=(y6.1.g a.toNat)/\(y6.1.g a.toNat)<(c.n:Int)))/\(y6.1.g a.toNat).toNat<c.n)/\((0:Int)<=a/\a<(y7.1.n:Int)))/\a.toNat<y7.1.n)/\((0:Int)<=(y7.1.g a.toNat)/\(y7.1.g a.toNat)<(d.n:Int)))/\(y7.1.g a.toNat).toNat<d.n)then lt (fun (z9:Bool)=>if z9 then some (false,0) else m (wrap .i64 (a+1))) fun k9=>if ((c.g (y6.1.g a.toNat).toNat).e != (d.g (y7.1.g a.toNat).toNat).e) then k9 true else (X9 N (c.g (y6.1.g a.toNat).toNat).w (d.g (y7.1.g a.toNat).toNat).w).bind fun r=>k9 (!r) else none else l (wrap .i64 (x6+1))) 0 else none else some (true,0)) 0) 0
theorem KU {j:A5}{f:A5}{d:Sl (Sl Nd)}{y:Bool×Int}(h:Cx N j f d=some y) :FunO S EW [.p (.agg (A2 j)),.p (.agg (A2 f)),.p (vSl 1 (cL 2 A0) d)] [] (.tup [pB y.1,pN y.2]) ([]) []:=by
 unfold Cx at h;refine A4 W func23 ?_;refine I1 W Jy 4 4000 (A2 j) ?_;refine I1 W Jy 6 5000 (A2 f) ?_;refine XJ W (And.intro Kx Kx) 2 (unrT [fun t=>t=⟨[(28,pN 0),(27,.p (.agg [vSl 2 B0 j.Tree,vSl 18 A7 j.Laws,vSl 1 (cL 1 (cI .i64)) j.On,vSl 2 B0 f.Tree,vSl 18 A7 f.Laws,vSl 1 (cL 1 (cI .i64)) f.On])),(4,.p (.ptr (A2 f))),(3,.p (.ptr (A2 j))),(2,.p (vSl 1 (cL 2 A0) d))],[]⟩/\(
  (D4 N j).bind fun z=>
  if (z != 0) then
   some (false,z)
  else
   (D4 N f).bind fun v=>
   if (v != 0) then
    some (false,v)
   else
    if (decide (256<(d.n:Int))) then
     some (false,12)
    else
     R4 N (fun q (x1:Int)=>
      if (decide (x1<(d.n:Int))) then
       if ((0:Int)<=x1/\x1<(d.n:Int))then
        (N8 N (d.g x1.toNat)).bind fun y5=>
        if (y5 != 0) then
         some (false,y5)
        else
         q (wrap .i64 (x1+1))
       else none
      else
       (H6 N j.Tree).bind fun y6=>
       (H6 N f.Tree).bind fun y7=>
       if ((y6.1.n:Int) != (y7.1.n:Int)) then
        some (false,2)
       else
        R4 N (fun r (x6:Int)=>
         if (decide (x6<(d.n:Int))) then
          if ((0:Int)<=x6/\x6<(d.n:Int))then
           (H7 N j (d.g x6.toNat)).bind fun m=>
           (H7 N f (d.g x6.toNat)).bind fun o=>
           R4 N (fun s (c:Int)=>
            if (decide (c<(y6.1.n:Int))) then
             if (((((((((0:Int)<=c/\c<(y6.1.n:Int))/\c.toNat<y6.1.n)/\((0:Int)<=(y6.1.g c.toNat)/\(y6.1.g c.toNat)<(m.n:Int)))/\(y6.1.g c.toNat).toNat<m.n)/\((0:Int)<=c/\c<(y7.1.n:Int)))/\c.toNat<y7.1.n)/\((0:Int)<=(y7.1.g c.toNat)/\(y7.1.g c.toNat)<(o.n:Int)))/\(y7.1.g c.toNat).toNat<o.n)then
              lt (fun (z9:Bool)=>
               if z9 then
                some (false,0)
               else
                s (wrap .i64 (c+1))
               ) fun k9=>
               if ((m.g (y6.1.g c.toNat).toNat).e != (o.g (y7.1.g c.toNat).toNat).e) then
                k9 true
               else
                (X9 N (m.g (y6.1.g c.toNat).toNat).w (o.g (y7.1.g c.toNat).toNat).w).bind fun u=>
                k9 (!u)
             else none
            else
             r (wrap .i64 (x6+1))
            ) 0
          else none
         else
          some (true,0)
         ) 0
      ) 0
  )=some y,fun t=>t=⟨[(28,pN 1),(27,.p (.agg [vSl 2 B0 j.Tree,vSl 18 A7 j.Laws,vSl 1 (cL 1 (cI .i64)) j.On,vSl 2 B0 f.Tree,vSl 18 A7 f.Laws,vSl 1 (cL 1 (cI .i64)) f.On])),(4,.p (.ptr (A2 f))),(3,.p (.ptr (A2 j))),(2,.p (vSl 1 (cL 2 A0) d))],[]⟩/\(
   (D4 N f).bind fun v=>
   if (v != 0) then
    some (false,v)
   else
    if (decide (256<(d.n:Int))) then
     some (false,12)
    else
     R4 N (fun q (x1:Int)=>
      if (decide (x1<(d.n:Int))) then
       if ((0:Int)<=x1/\x1<(d.n:Int))then
        (N8 N (d.g x1.toNat)).bind fun y5=>
        if (y5 != 0) then
         some (false,y5)
        else
         q (wrap .i64 (x1+1))
       else none
      else
       (H6 N j.Tree).bind fun y6=>
       (H6 N f.Tree).bind fun y7=>
       if ((y6.1.n:Int) != (y7.1.n:Int)) then
        some (false,2)
       else
        R4 N (fun r (x6:Int)=>
         if (decide (x6<(d.n:Int))) then
          if ((0:Int)<=x6/\x6<(d.n:Int))then
           (H7 N j (d.g x6.toNat)).bind fun m=>
           (H7 N f (d.g x6.toNat)).bind fun o=>
           R4 N (fun s (c:Int)=>
            if (decide (c<(y6.1.n:Int))) then
             if (((((((((0:Int)<=c/\c<(y6.1.n:Int))/\c.toNat<y6.1.n)/\((0:Int)<=(y6.1.g c.toNat)/\(y6.1.g c.toNat)<(m.n:Int)))/\(y6.1.g c.toNat).toNat<m.n)/\((0:Int)<=c/\c<(y7.1.n:Int)))/\c.toNat<y7.1.n)/\((0:Int)<=(y7.1.g c.toNat)/\(y7.1.g c.toNat)<(o.n:Int)))/\(y7.1.g c.toNat).toNat<o.n)then
              lt (fun (z9:Bool)=>
               if z9 then
                some (false,0)
               else
                s (wrap .i64 (c+1))
               ) fun k9=>
               if ((m.g (y6.1.g c.toNat).toNat).e != (o.g (y7.1.g c.toNat).toNat).e) then
                k9 true
               else
                (X9 N (m.g (y6.1.g c.toNat).toNat).w (o.g (y7.1.g c.toNat).toNat).w).bind fun u=>
                k9 (!u)
             else none
            else
             r (wrap .i64 (x6+1))
            ) 0
          else none
         else
          some (true,0)
         ) 0
      ) 0
  )=some y,fun t=>t=⟨[(28,pN 2),(27,.p (.agg [vSl 2 B0 j.Tree,vSl 18 A7 j.Laws,vSl 1 (cL 1 (cI .i64)) j.On,vSl 2 B0 f.Tree,vSl 18 A7 f.Laws,vSl 1 (cL 1 (cI .i64)) f.On])),(4,.p (.ptr (A2 f))),(3,.p (.ptr (A2 j))),(2,.p (vSl 1 (cL 2 A0) d))],[]⟩/\(
   if (decide (256<(d.n:Int))) then
    some (false,12)
   else
    R4 N (fun q (x1:Int)=>
     if (decide (x1<(d.n:Int))) then
      if ((0:Int)<=x1/\x1<(d.n:Int))then
       (N8 N (d.g x1.toNat)).bind fun y5=>
       if (y5 != 0) then
        some (false,y5)
       else
        q (wrap .i64 (x1+1))
      else none
     else
      (H6 N j.Tree).bind fun y6=>
      (H6 N f.Tree).bind fun y7=>
      if ((y6.1.n:Int) != (y7.1.n:Int)) then
       some (false,2)
      else
       R4 N (fun r (x6:Int)=>
        if (decide (x6<(d.n:Int))) then
         if ((0:Int)<=x6/\x6<(d.n:Int))then
          (H7 N j (d.g x6.toNat)).bind fun m=>
          (H7 N f (d.g x6.toNat)).bind fun o=>
          R4 N (fun s (c:Int)=>
           if (decide (c<(y6.1.n:Int))) then
            if (((((((((0:Int)<=c/\c<(y6.1.n:Int))/\c.toNat<y6.1.n)/\((0:Int)<=(y6.1.g c.toNat)/\(y6.1.g c.toNat)<(m.n:Int)))/\(y6.1.g c.toNat).toNat<m.n)/\((0:Int)<=c/\c<(y7.1.n:Int)))/\c.toNat<y7.1.n)/\((0:Int)<=(y7.1.g c.toNat)/\(y7.1.g c.toNat)<(o.n:Int)))/\(y7.1.g c.toNat).toNat<o.n)then
             lt (fun (z9:Bool)=>
              if z9 then
               some (false,0)
              else
               s (wrap .i64 (c+1))
              ) fun k9=>
              if ((m.g (y6.1.g c.toNat).toNat).e != (o.g (y7.1.g c.toNat).toNat).e) then
               k9 true
              else
               (X9 N (m.g (y6.1.g c.toNat).toNat).w (o.g (y7.1.g c.toNat).toNat).w).bind fun u=>
               k9 (!u)
            else none
           else
            r (wrap .i64 (x6+1))
           ) 0
         else none
        else
         some (true,0)
        ) 0
     ) 0
  )=some y]) ⟨[(28,pN 0),(27,.p (.agg [vSl 2 B0 j.Tree,vSl 18 A7 j.Laws,vSl 1 (cL 1 (cI .i64)) j.On,vSl 2 B0 f.Tree,vSl 18 A7 f.Laws,vSl 1 (cL 1 (cI .i64)) f.On])),(4,.p (.ptr (A2 f))),(3,.p (.ptr (A2 j))),(2,.p (vSl 1 (cL 2 A0) d))],[]⟩ (ids:=[]) ⟨rfl,h⟩ (fun _ _ _ _ i _ t hi ht a0=>?_)
 rcases i with _|_|_|i
 .obtain⟨rfl,h⟩:=ht;refine E1 W Jy (b:=decide ((0:Int)<2)) (fun c80=>?_) (fun c80=>?_)
  .refine I1 W (And.intro (by decide:(3:Nat)<=6) (by decide:(0:Int)<=0/\(0:Int)<2)) 31 10000 (A2 j) ?_;obtain⟨z,e33,h⟩:=B7 h;refine B9 W [] Kx (M8 W V e33) ?_;apply kI W h<;>intro h
   .cases h;exact kR W
   exact a0 _ [] _ _ Jy rfl ⟨rfl,h⟩
  exact Bool.noConfusion ((by decide:decide ((0:Int)<2)=true).symm.trans c80)
 .obtain⟨rfl,h⟩:=ht;refine E1 W Jy (b:=decide ((1:Int)<2)) (fun c78=>?_) (fun c78=>?_)
  .refine I1 W (And.intro Kx (by decide:(0:Int)<=1/\(1:Int)<2)) 31 10000 (A2 f) ?_;obtain⟨v,e32,h⟩:=B7 h;refine B9 W [] Kx (M8 W V e32) ?_;apply kI W h<;>intro h
   .cases h;exact kR W
   exact a0 _ [] _ _ Jy rfl ⟨rfl,h⟩
  exact Bool.noConfusion ((by decide:decide ((1:Int)<2)=true).symm.trans c78)
 .obtain⟨rfl,h⟩:=ht;refine E1 W Jy (b:=decide ((2:Int)<2)) (fun c6=>?_) (fun c6=>?_)
  .exact Bool.noConfusion ((by decide:decide ((2:Int)<2)=false).symm.trans c6)
  apply kI W h<;>intro h
  .cases h;exact kR W
  refine I0 W Jy h (fun x1=>⟨[(42,pN x1),(41,pN (d.n:Int)),(40,.p (vSl 1 (cL 2 A0) d)),(4,.p (.ptr (A2 f))),(3,.p (.ptr (A2 j))),(2,.p (vSl 1 (cL 2 A0) d))],[]⟩) (ids:=[]) (fun _ _ _ _ _ q x1 a3 h=>?_);apply kI W h<;>intro h
  .obtain⟨c15,h⟩:=E2 h;obtain⟨y5,e5,h⟩:=B7 h;refine B9 W [] c15 (BW W V e5) ?_;apply kI W h<;>intro h
   .cases h;exact kR W
   exact a3 _ [] _ (wrap .i64 (x1+1)) Jy h
  refine kC W h (Dz W V) (fun y6 h=>?_);refine kC W h (Dz W V) (fun y7 h=>?_);apply kI W h<;>intro h
  .cases h;exact kR W
  refine I0 W Jy h (fun x6=>⟨[(71,pN x6),(70,pN (d.n:Int)),(69,.p (vSl 1 (cL 2 A0) d)),(16,.vec 62000),(14,.vec 56000),(4,.p (.ptr (A2 f))),(3,.p (.ptr (A2 j)))],[(62000,.vec B2 1 y7.1.n (fun i=>cI .i64 (y7.1.g i)) true),(56000,.vec B2 1 y6.1.n (fun i=>cI .i64 (y6.1.g i)) true)]⟩) (ids:=[(56000,56000),(62000,62000)]) (fun _ _ _ _ _ r x6 a1 h=>?_);apply kI W h<;>intro h
  .obtain⟨c59,h⟩:=E2 h;refine G7 W c59 [(0,.n),(3,.n)] ?_;obtain⟨m,e24,h⟩:=B7 h;refine Ja [] Kx (DB W V e24) ?_;obtain⟨o,e25,h⟩:=B7 h;refine Ja [] Kx (DB W V e25) ?_;refine H9 Jy ?_;refine I0 W Jy h (fun c=>⟨[(83,pN c),(82,pN (y6.1.n:Int)),(71,pN x6),(70,pN (d.n:Int)),(69,.p (vSl 1 (cL 2 A0) d)),(21,.vec 81000),(20,.vec 78000),(16,.vec 62000),(14,.vec 56000),(4,.p (.ptr (A2 f))),(3,.p (.ptr (A2 j)))],[(81000,.vec E6 2 o.n (fun i=>I2 (o.g i)) true),(78000,.vec E6 2 m.n (fun i=>I2 (m.g i)) true),(62000,.vec B2 1 y7.1.n (fun i=>cI .i64 (y7.1.g i)) true),(56000,.vec B2 1 y6.1.n (fun i=>cI .i64 (y6.1.g i)) true)]⟩) (ids:=[(56000,56000),(62000,62000),(78000,78000),(81000,81000)]) (fun _ _ _ _ _ s c a2 h=>?_);apply kI W h<;>intro h
   .refine G7 W Jy [(3,.l [56000]),(4,.l [56000]),(5,.l [78000]),(6,.l [78000]),(10,.l [62000]),(11,.l [62000]),(12,.l [81000]),(13,.l [81000]),(14,.a [24000]),(15,.a [25000]),(16,.a [24000]),(17,.a [25000])] ?_;obtain⟨c73,h⟩:=E2 h;refine H9 (And.intro (And.intro (And.intro (And.intro (And.intro (And.intro (And.intro (And.intro (And.intro c73.1.1.1.1.1.1.1 c73.1.1.1.1.1.1.2) c73.1.1.1.1.1.2) Kw) c73.1.1.1.1.2) c73.1.1.1.2) c73.1.1.2) c73.1.2) Kw) c73.2) ?_;refine I1 W Jy 100 24000 [vSl 2 A0 (m.g (y6.1.g c.toNat).toNat).w,pI .i64 (m.g (y6.1.g c.toNat).toNat).e] ?_;refine I1 W Jy 100 25000 [vSl 2 A0 (o.g (y7.1.g c.toNat).toNat).w,pI .i64 (o.g (y7.1.g c.toNat).toNat).e] ?_;refine Hd W Jy (A6 W) h 0 (fun z9=>⟨[(112,pB z9),(83,pN c),(82,pN (y6.1.n:Int)),(71,pN x6),(70,pN (d.n:Int)),(69,.p (vSl 1 (cL 2 A0) d)),(21,.vec 81000),(20,.vec 78000),(16,.vec 62000),(14,.vec 56000),(4,.p (.ptr (A2 f))),(3,.p (.ptr (A2 j)))],[(81000,.vec E6 2 o.n (fun i=>I2 (o.g i)) true),(78000,.vec E6 2 m.n (fun i=>I2 (m.g i)) true),(62000,.vec B2 1 y7.1.n (fun i=>cI .i64 (y7.1.g i)) true),(56000,.vec B2 1 y6.1.n (fun i=>cI .i64 (y6.1.g i)) true)]⟩) (fun M9 k9 x h=>?_) (fun z9 h=>?_)
    .refine kG W h (fun h=>?_) (fun h=>?_)
     .exact x _ [(56000,56000),(62000,62000),(78000,78000),(81000,81000)] _ true Jy h
     refine kC W h (Pm W V) (fun u h=>?_);exact x _ [(56000,56000),(62000,62000),(78000,78000),(81000,81000)] _ (!u) Jy h
    apply kI W h<;>intro h
    .cases h;exact kR W
    exact a2 _ [(56000,56000),(62000,62000),(78000,78000),(81000,81000)] _ (wrap .i64 (c+1)) Jy h
   exact a1 _ [(56000,56000),(62000,62000)] _ (wrap .i64 (x6+1)) Jy h
  cases h;exact kR W
 exact Jo hi (by omega)
def S8 (rec:Pat->Pat->Option Bool)(N:Nat)(a:Pat)(b:Pat):Option Bool:= if (a.Kind != b.Kind) then some false else if (((a.Is.Plus==b.Is.Plus)&&(a.Is.Minus==b.Is.Minus)) != true) then some false else if ((a.Not==b.Not) != true) then some false else if (a.Min != b.Min) then some false else if (a.Max != b.Max) then some false else if ((a.L.n:Int) != (b.L.n:Int)) then some false else R4 N (fun c (x1:Int)=>if (decide (x1<(a.L.n:Int))) then if (((0:Int)<=x1/\x1<(a.L.n:Int))/\((0:Int)<=x1/\x1<(b.L.n:Int)))then (rec (a.L.g x1.toNat) (b.L.g x1.toNat)).bind fun y3=>if (!y3) then some false else c (wrap .i64 (x1+1)) else none else some true) 0
def U1:Nat->Pat->Pat->Option Bool
 |0=>fun _ _=>none
 |N+1=>S8 (U1 N) N
theorem KV {rec:Pat->Pat->Option Bool}(d:∀{a:Pat}{c:Pat}{y:Bool},rec a c=some y->FunO S Be [.p (.agg (B1 a)),.p (.agg (B1 c))] [] (pB y) ([]) []){a:Pat}{c:Pat}{y:Bool}(h:S8 rec N a c=some y) :FunO S Be [.p (.agg (B1 a)),.p (.agg (B1 c))] [] (pB y) ([]) []:=by
 unfold S8 at h;refine A4 W func118 ?_;refine kG W h (fun h=>?_) (fun h=>?_)
 .cases h;exact kR W
 refine Df W (by decide +kernel:Up Tryz.prog B5=true) (b:=((a.Is.Plus==c.Is.Plus)&&(a.Is.Minus==c.Is.Minus)) != true) (fun c12=>?_) (fun c12=>?_)
 .replace h:=itT c12 h;cases h;exact kR W
 replace h:=itF c12 h;refine kG W h (fun h=>?_) (fun h=>?_)
 .cases h;exact kR W
 refine kG W h (fun h=>?_) (fun h=>?_)
 .cases h;exact kR W
 refine kG W h (fun h=>?_) (fun h=>?_)
 .cases h;exact kR W
 refine F6 W Jy 42 ⟨[(41,.p (vSl 7 B1 a.L)),(39,.p (.v (.bool false))),(3,.reg 4000 0),(2,.reg 3000 0)],[(4000,.cells [pN c.Kind,pU c.Is.Plus,pU c.Is.Minus,pB c.Not,pN c.Min,pN c.Max,.p (vSl 7 B1 c.L)]),(3000,.cells [pN a.Kind,pU a.Is.Plus,pU a.Is.Minus,pB a.Not,pN a.Min,pN a.Max,.p (vSl 7 B1 a.L)])]⟩ (ids:=[(3000,3000),(4000,4000)]) ?_ (hle:=klR [(0,.fn a.L.n a.L.n (Z6 a) (fun i=>B1 (a.L.g i))),(8,.fn c.L.n c.L.n (Z6 c) (fun i=>B1 (c.L.g i))),(15,.fn a.L.n a.L.n (Z6 a) (fun i=>B1 (a.L.g i)))] (al1 ⟨rfl,N1 a⟩ (al1 ⟨rfl,N1 c⟩ (al1 ⟨rfl,N1 a⟩ al0))));apply kI W h<;>intro h
 .cases h;exact kR W
 refine I0 W Jy h (fun x1=>⟨[(5,pN x1),(3,.reg 4000 0),(2,.reg 3000 0)],[(4000,.cells [pN c.Kind,pU c.Is.Plus,pU c.Is.Minus,pB c.Not,pN c.Min,pN c.Max,.p (vSl 7 B1 c.L)]),(3000,.cells [pN a.Kind,pU a.Is.Plus,pU a.Is.Minus,pB a.Not,pN a.Min,pN a.Max,.p (vSl 7 B1 a.L)])]⟩) (ids:=[(3000,3000),(4000,4000)]) (fun _ _ _ _ _ f x1 j h=>?_);apply kI W h<;>intro h
 .refine G7 W Jy [(1,.l [3000]),(3,.n),(4,.n),(6,.l [4000]),(8,.n),(9,.n),(10,.n)] ?_;obtain⟨c24,h⟩:=E2 h;obtain⟨y3,e3,h⟩:=B7 h;refine V7 (And.intro (And.intro (And.intro c24.1 Ky) c24.2) Ky) (d e3) ?_;refine H9 Jy ?_;apply kI W h<;>intro h
  .cases h;exact kR W
  exact j _ [(3000,3000),(4000,4000)] _ (wrap .i64 (x1+1)) Jy h
 cases h;exact kR W
theorem GN {a:Pat}{b:Pat}{y:Bool}(h:U1 N a b=some y) :FunO S Be [.p (.agg (B1 a)),.p (.agg (B1 b))] [] (pB y) ([]) []:=by
 induction N generalizing a b y with
 |zero=>cases (show (none:Option Bool)=some y from h)
 |succ N ih=>exact KV W V (fun e=>ih e) h
def CQ (N:Nat)(a:Law)(b:Law):Option Bool:= lt (fun (z1:Bool)=>if z1 then some false else R4 N (fun c (x2:Int)=>if (decide (x2<(a.If.n:Int))) then if (((0:Int)<=x2/\x2<(a.If.n:Int))/\((0:Int)<=x2/\x2<(b.If.n:Int)))then if ((((a.If.g x2.toNat).Plus==(b.If.g x2.toNat).Plus)&&((a.If.g x2.toNat).Minus==(b.If.g x2.toNat).Minus)) != true) then some false else c (wrap .i64 (x2+1)) else none else R4 N (fun d (x3:Int)=>if (decide (x3<(a.Out.n:Int))) then if (((0:Int)<=x3/\x3<(a.Out.n:Int))/\((0:Int)<=x3/\x3<(b.Out.n:Int)))then if ((((a.Out.g x3.toNat).From==(b.Out.g x3.toNat).From)&&(((a.Out.g x3.toNat).Clear==(b.Out.g x3.toNat).Clear)&&(((a.Out.g x3.toNat).Set.Plus==(b.Out.g x3.toNat).Set.Plus)&&(((a.Out.g x3.toNat).Set.Minus==(b.Out.g x3.toNat).Set.Minus)&&(((a.Out.g x3.toNat).Take==(b.Out.g x3.toNat).Take)&&((a.Out.g x3.toNat).Of==(b.Out.g x3.toNat).Of)))))) != true) then some false else d (wrap .i64 (x3+1)) else none else some true) 0) 0) fun k1=>if ((a.Name==b.Name) != true) then k1 true else if (a.Mode != b.Mode) then k1 true else if ((a.If.n:Int) != (b.If.n:Int)) then k1 true else if ((a.Out.n:Int) != (b.Out.n:Int)) then k1 true else (U1 N a.Left b.Left).bind fun y3=>if (!y3) then k1 true else (U1 N a.Right b.Right).bind fun y4=>k1 (!y4)
theorem TY {a:Law}{b:Law}{y:Bool}(h:CQ N a b=some y) :FunO S LR [.p (.agg (A7 a)),.p (.agg (A7 b))] [] (pB y) ([]) []:=by
 unfold CQ at h;refine A4 W func87 ?_;refine I1 W Jy 3 3000 (A7 a) ?_;refine I1 W Jy 4 4000 (A7 b) ?_;refine Hd W Jy (A6 W) h 0 (fun z1=>⟨[(52,pB z1),(3,.p (.ptr (A7 b))),(2,.p (.ptr (A7 a)))],[]⟩) (fun M1 k1 c h=>?_) (fun z1 h=>?_)
 .refine kG W h (fun h=>?_) (fun h=>?_)
  .exact c _ [] _ true Jy h
  refine kG W h (fun h=>?_) (fun h=>?_)
  .exact c _ [] _ true Jy h
  refine kG W h (fun h=>?_) (fun h=>?_)
  .exact c _ [] _ true Jy h
  refine kG W h (fun h=>?_) (fun h=>?_)
  .exact c _ [] _ true Jy h
  obtain⟨y3,e3,h⟩:=B7 h;refine B9 W [] (And.intro (by decide:(7:Nat)<=17) (by decide:(7:Nat)<=17)) (GN W V e3) ?_;refine kG W h (fun h=>?_) (fun h=>?_)
  .exact c _ [] _ true Jy h
  obtain⟨y4,e4,h⟩:=B7 h;refine B9 W [] (And.intro (by decide:(7:Nat)<=10) (by decide:(7:Nat)<=10)) (GN W V e4) ?_;exact c _ [] _ (!y4) Jy h
 apply kI W h<;>intro h
 .cases h;exact kR W
 refine I0 W Jy h (fun x2=>⟨[(5,pN x2),(3,.p (.ptr (A7 b))),(2,.p (.ptr (A7 a)))],[]⟩) (ids:=[]) (fun _ _ _ _ _ d x2 f h=>?_);apply kI W h<;>intro h
 .refine E9 W Jy [1,3,4,6,8,9] ?_;obtain⟨c23,h⟩:=E2 h;refine H9 (And.intro (And.intro (And.intro (And.intro c23.1 Kw) c23.2) Kw) (by decide +kernel:Up Tryz.prog B5=true)) ?_;apply kI W h<;>intro h
  .cases h;exact kR W
  exact f _ [] _ (wrap .i64 (x2+1)) Jy h
 refine I0 W Jy h (fun x3=>⟨[(6,pN x3),(3,.p (.ptr (A7 b))),(2,.p (.ptr (A7 a)))],[]⟩) (ids:=[]) (fun _ _ _ _ _ g x3 i h=>?_);apply kI W h<;>intro h
 .refine E9 W Jy [1,3,4,6,8,9] ?_;obtain⟨c32,h⟩:=E2 h;refine H9 (And.intro (And.intro (And.intro (And.intro c32.1 (by decide:(6:Nat)<=6)) c32.2) (by decide:(6:Nat)<=6)) (by decide +kernel:Up Tryz.prog Pj=true)) ?_;apply kI W h<;>intro h
  .cases h;exact kR W
  exact i _ [] _ (wrap .i64 (x3+1)) Jy h
 cases h;exact kR W
def CR (N:Nat)(a:Sl Law)(b:Sl Law):Option Bool:= if ((a.n:Int) != (b.n:Int)) then some false else R4 N (fun c (x1:Int)=>if (decide (x1<(a.n:Int))) then if (((0:Int)<=x1/\x1<(a.n:Int))/\((0:Int)<=x1/\x1<(b.n:Int)))then (CQ N (a.g x1.toNat) (b.g x1.toNat)).bind fun y3=>if (!y3) then some false else c (wrap .i64 (x1+1)) else none else some true) 0
theorem TZ {a:Sl Law}{b:Sl Law}{y:Bool}(h:CR N a b=some y) :FunO S LN [.p (vSl 18 A7 a),.p (vSl 18 A7 b)] [] (pB y) ([]) []:=by
 unfold CR at h;refine A4 W func55 ?_;apply kI W h<;>intro h
 .cases h;exact kR W
 refine I0 W Jy h (fun x1=>⟨[(5,pN x1),(1,.p (vSl 18 A7 b)),(0,.p (vSl 18 A7 a))],[]⟩) (ids:=[]) (fun _ _ _ _ _ c x1 d h=>?_);apply kI W h<;>intro h
 .refine E9 W Jy [2,3,6,7,8] ?_;obtain⟨c9,h⟩:=E2 h;obtain⟨y3,e3,h⟩:=B7 h;refine V7 (And.intro (And.intro (And.intro c9.1 Kz) c9.2) Kz) (TY W V e3) ?_;refine H9 Jy ?_;apply kI W h<;>intro h
  .cases h;exact kR W
  exact d _ [] _ (wrap .i64 (x1+1)) Jy h
 cases h;exact kR W
def P4 (N:Nat)(a:A5)(b:A5):Option Bool:= lt (fun (z1:Bool)=>if z1 then some false else R4 N (fun c (x2:Int)=>if (decide (x2<(a.Tree.n:Int))) then if (((0:Int)<=x2/\x2<(a.Tree.n:Int))/\((0:Int)<=x2/\x2<(b.Tree.n:Int)))then if ((((a.Tree.g x2.toNat).Parent==(b.Tree.g x2.toNat).Parent)&&((a.Tree.g x2.toNat).Name==(b.Tree.g x2.toNat).Name)) != true) then some false else c (wrap .i64 (x2+1)) else none else R4 N (fun d (x3:Int)=>if (decide (x3<(a.On.n:Int))) then if (((0:Int)<=x3/\x3<(a.On.n:Int))/\((0:Int)<=x3/\x3<(b.On.n:Int)))then (X2 N (a.On.g x3.toNat) (b.On.g x3.toNat)).bind fun y5=>if (!y5) then some false else d (wrap .i64 (x3+1)) else none else some true) 0) 0) fun k1=>if ((a.Tree.n:Int) != (b.Tree.n:Int)) then k1 true else if ((a.On.n:Int) != (b.On.n:Int)) then k1 true else (CR N a.Laws b.Laws).bind fun y2=>k1 (!y2)
theorem Hn {a:A5}{b:A5}{y:Bool}(h:P4 N a b=some y) :FunO S LM [.p (.agg (A2 a)),.p (.agg (A2 b))] [] (pB y) ([]) []:=by
 unfold P4 at h;refine A4 W func28 ?_;refine I1 W Jy 3 3000 (A2 a) ?_;refine I1 W Jy 4 4000 (A2 b) ?_;refine Hd W Jy (A6 W) h 0 (fun z1=>⟨[(30,pB z1),(3,.p (.ptr (A2 b))),(2,.p (.ptr (A2 a)))],[]⟩) (fun M1 k1 c h=>?_) (fun z1 h=>?_)
 .refine kG W h (fun h=>?_) (fun h=>?_)
  .exact c _ [] _ true Jy h
  refine kG W h (fun h=>?_) (fun h=>?_)
  .exact c _ [] _ true Jy h
  refine kC W h (TZ W V) (fun y2 h=>?_);exact c _ [] _ (!y2) Jy h
 apply kI W h<;>intro h
 .cases h;exact kR W
 refine I0 W Jy h (fun x2=>⟨[(5,pN x2),(3,.p (.ptr (A2 b))),(2,.p (.ptr (A2 a)))],[]⟩) (ids:=[]) (fun _ _ _ _ _ d x2 f h=>?_);apply kI W h<;>intro h
 .refine E9 W Jy [1,3,4,6,8,9] ?_;obtain⟨c15,h⟩:=E2 h;refine H9 (And.intro (And.intro (And.intro (And.intro c15.1 Kw) c15.2) Kw) (by decide +kernel:Up Tryz.prog B6=true)) ?_;apply kI W h<;>intro h
  .cases h;exact kR W
  exact f _ [] _ (wrap .i64 (x2+1)) Jy h
 refine I0 W Jy h (fun x3=>⟨[(6,pN x3),(3,.p (.ptr (A2 b))),(2,.p (.ptr (A2 a)))],[]⟩) (ids:=[]) (fun _ _ _ _ _ g x3 i h=>?_);apply kI W h<;>intro h
 .refine E9 W Jy [1,3,4,6,8,9,10] ?_;obtain⟨c24,h⟩:=E2 h;obtain⟨y5,e5,h⟩:=B7 h;refine V7 c24 (FJ W V e5) ?_;refine H9 Jy ?_;apply kI W h<;>intro h
  .cases h;exact kR W
  exact i _ [] _ (wrap .i64 (x3+1)) Jy h
 cases h;exact kR W
end Go.AM
namespace Go.AM
open Go.Proofs.Tryz
variable {N:Nat}
open IntKind (wrap)
open Go.Proofs
set_option maxRecDepth 10000
set_option maxHeartbeats 2000000
variable {S:Q8}(W:F5 S Tryz.prog) (V:Ip S)
theorem VN {T:Type}{e:TypeId}{k:Nat}{c:T->List PV}{X:Sl (Sl T)}{z:Sl T}:∀q,q<X.n+1->(fun q=>if q=X.n then N4 e k c z else N4 e k c (X.g q)) q=(fun q=>N4 e k c ((X.push z).g q)) q:=fun q a=>by
 show (if q=X.n then N4 e k c z else N4 e k c (X.g q))=N4 e k c (if q<X.n then X.g q else z);by_cases h:q=X.n
 .rw[Jl h,Jm (by omega)]
 rw[Jm h,Jl (by omega)]
theorem VO {T:Type}{e:TypeId}{k n i:Nat}{c:T->List PV}{X:Sl (Sl T)}{z:Sl T}:∀q,q<n->(Iz (if q=i then N4 e k c z else if q=i then Obj.dead else N4 e k c (X.g q))).isSome=true:=fun q _=>by
 by_cases h:q=i
 .rw[Jl h];rfl
 rw[Jm h,Jm h];rfl
theorem YM {T:Type}{e:TypeId}{k n i:Nat}{c:T->List PV}{X:Sl (Sl T)}{z:Sl T}:∀q,q<n->[(Iz (if q=i then N4 e k c z else if q=i then Obj.dead else N4 e k c (X.g q))).getD default]=cL k c ((X.upd i z).g q):=fun q _=>by
 show _=cL k c (if q=i then z else X.g q);by_cases h:q=i
 .rw[Jl h,Jl h];rfl
 rw[Jm h,Jm h,Jm h];rfl
include W V
def D0 (N:Nat)(s:Sl G2):Option (Sl G2):=if (0+s.n)*24<=140737488355328/\0+s.n<=140737488355328 then some s else none
theorem X3 {s y:Sl G2}(h:D0 N s=some y):FunO S G9 [.p (vSl 2 B0 s)] [] (.vec 0) [.vec B6 2 y.n (fun i=>B0 (y.g i)) true] []:=by
 unfold D0 at h;obtain⟨c1,h⟩:=E2 h;obtain rfl:=C6 h;refine A4 W func72 ?_;refine Tt W Jy 3 (k:=2) (n:=s.n) (f:=fun i=>B0 (s.g i)) (fun a=>?_) ?_
 .obtain⟨n,g⟩:=s;obtain rfl:n=0:=a;exact A9 W Jy ⟨[(2,.vec 3700)],[(3700,.vec B6 2 0 (fun i=>B0 (g i)) true)]⟩ [3700] (ids:=[]) ⟨rfl,rfl,rfl⟩
 exact A9 W (And.intro L7 c1) ⟨[(2,.vec 8000)],[(8000,.vec B6 2 s.n (fun i=>B0 (s.g i)) true)]⟩ [8000] (ids:=[(8000,8000)]) ⟨rfl,rfl,rfl⟩
  (hle:=klR [(0,.fn (0+s.n) s.n (U3 0 (E5 [pI .i64 0,.str []] []) (fun i=>B0 (s.g i))) (fun i=>B0 (s.g i)))] (al1 ⟨Nat.zero_add _,fun i _=>by simp[U3]⟩ al0))
def O1 (N:Nat)(s:Sl Int):Option (Sl Int):=if (0+s.n)*8<=140737488355328/\0+s.n<=140737488355328 then some s else none
theorem W6 {s y:Sl Int}(h:O1 N s=some y):FunO S V8 [.p (vSl 1 (cI .i64) s)] [] (.vec 0) [.vec B2 1 y.n (fun i=>cI .i64 (y.g i)) false] []:=by
 unfold O1 at h;obtain⟨c1,h⟩:=E2 h;obtain rfl:=C6 h;refine A4 W func74 ?_;refine Tt W Jy 3 (k:=1) (n:=s.n) (f:=fun i=>cI .i64 (s.g i)) (fun a=>?_) ?_
 .obtain⟨n,g⟩:=s;obtain rfl:n=0:=a;exact A9 W Jy ⟨[(2,.vec 3700)],[(3700,.vec B2 1 0 (fun i=>cI .i64 (g i)) false)]⟩ [3700] (ids:=[]) ⟨rfl,rfl,rfl⟩
 exact A9 W (And.intro L7 c1) ⟨[(2,.vec 8000)],[(8000,.vec B2 1 s.n (fun i=>cI .i64 (s.g i)) false)]⟩ [8000] (ids:=[(8000,8000)]) ⟨rfl,rfl,rfl⟩
  (hle:=klR [(0,.fn (0+s.n) s.n (U3 0 (E5 [pI .i64 0] []) (fun i=>cI .i64 (s.g i))) (fun i=>cI .i64 (s.g i)))] (al1 ⟨Nat.zero_add _,fun i _=>by simp[U3]⟩ al0))
def F0 (N:Nat)(c:A5)(b:Int)(a:Int):Option (A5×Int):= (D4 N c).bind fun y1=>if (y1 != 0) then some ((⟨(Sl.nil:Sl G2),(Sl.nil:Sl Law),(Sl.nil:Sl (Sl Int))⟩:A5),y1) else (P3 N c b).bind fun y2=>if ((!y2)=false->((decide (a<0))=false->((0:Int)<=b/\b<(c.On.n:Int))))then if (((!y2)||(decide (a<0)))||(decide ((wrap .i64 (((c.On.g b.toNat).n:Int)-1))<=a))) then some ((⟨(Sl.nil:Sl G2),(Sl.nil:Sl Law),(Sl.nil:Sl (Sl Int))⟩:A5),3) else (D0 N c.Tree).bind fun y3=>BQ N (fun d (x1:Sl Law) (x2:Int)=>if (decide (x2<(c.Laws.n:Int))) then if ((0:Int)<=x2/\x2<(c.Laws.n:Int))then (N3 N (c.Laws.g x2.toNat)).bind fun y6=>if ((x1.n+(Sl.of [y6]:Sl Law).n)*200<=140737488355328/\x1.n+(Sl.of [y6]:Sl Law).n<=140737488355328)then d (x1.push y6) (wrap .i64 (x2+1)) else none else none else BQ N (fun f (x3:Sl (Sl Int)) (x4:Int)=>if (decide (x4<(c.On.n:Int))) then if ((0:Int)<=x4/\x4<(c.On.n:Int))then (O1 N (c.On.g x4.toNat)).bind fun y9=>if ((x3.n+(Sl.of [y9]:Sl (Sl Int)).n)*24<=140737488355328/\x3.n+(Sl.of [y9]:Sl (Sl Int)).n<=140737488355328)then f (x3.push y9) (wrap .i64 (x4+1)) else none else none else if b.toNat<x3.n then if (((0:Int)<=b/\b<(x3.n:Int))/\((0:Int)<=a/\a<((x3.g b.toNat).n:Int))/\((0:Int)<=(wrap .i64 (a+1))/\(wrap .i64 (a+1))<((x3.g b.toNat).n:Int)))then some ((⟨y3,x1,x3.upd b.toNat (((x3.g b.toNat).upd a.toNat ((x3.g b.toNat).g (wrap .i64 (a+1)).toNat)).upd (wrap .i64 (a+1)).toNat ((x3.g b.toNat).g a.toNat))⟩:A5),0) else none else none) (Sl.nil:Sl (Sl Int)) 0) (Sl.nil:Sl Law) 0 else none
theorem KW {j:A5}{f:Int}{d:Int}{y:A5×Int}(h:F0 N j f d=some y) :FunO S Cg [.p (.agg (A2 j)),pN f,pN d] [] (.tup [.p (.agg (A2 y.1)),pN y.2]) ([]) []:=by
 unfold F0 at h;refine A4 W func27 ?_;refine I1 W Jy 6 4000 (A2 j) ?_;obtain⟨y1,e1,h⟩:=B7 h;refine B9 W [] Kx (M8 W V e1) ?_;apply kI W h<;>intro h
 .obtain rfl:=C6 h;exact A9 W Jy ⟨[(7,pN y1),(6,.reg 7000 0)],[(7000,.cells [.p (vSl 2 B0 (Sl.nil:Sl G2)),.p (vSl 18 A7 (Sl.nil:Sl Law)),.p (vSl 1 (cL 1 (cI .i64)) (Sl.nil:Sl (Sl Int)))])]⟩ [] (ids:=[(7000,7000)]) ⟨rfl,rfl,rfl⟩
 obtain⟨y2,e2,h⟩:=B7 h;refine B9 W [] Kx (Aw W V e2) ?_;obtain⟨c2,h⟩:=E2 h;refine kB W (A6 W) Jy c2 14 (.o (.o (.a (!y2)) (.a (decide (d<0)))) (.a (decide ((wrap .i64 (((j.On.g f.toNat).n:Int)-1))<=d)))) ?_;apply kI W h<;>intro h
 .obtain rfl:=C6 h;exact A9 W Jy ⟨[(7,pN 3),(6,.reg 7000 0)],[(7000,.cells [.p (vSl 2 B0 (Sl.nil:Sl G2)),.p (vSl 18 A7 (Sl.nil:Sl Law)),.p (vSl 1 (cL 1 (cI .i64)) (Sl.nil:Sl (Sl Int)))])]⟩ [] (ids:=[(7000,7000)]) ⟨rfl,rfl,rfl⟩
 refine kC W h (X3 W V) (fun y3 h=>?_);refine H4 W Jy h (fun x1 x2=>⟨[(48,pN x2),(47,pN (j.Laws.n:Int)),(46,.p (vSl 18 A7 j.Laws)),(9,.reg 10000 0),(6,.reg 7000 0),(3,.p (.ptr (A2 j))),(2,pN d),(1,pN f)],[(44000,.vec B6 2 y3.n (fun i=>B0 (y3.g i)) true),(10500,.vec D9 18 x1.n (fun i=>A7 (x1.g i)) false),(10000,.cells [.vec 44000,.vec 10500,.p E3]),(7000,.cells [.p E3,.p E3,.p E3])]⟩) (ids:=[(7000,7000),(10000,10000),(44000,44000)]) (fun _ _ _ _ _ m x1 x2 r h=>?_);apply kI W h<;>intro h
 .obtain⟨c11,h⟩:=E2 h;refine XH W (And.intro c11 Kz) 12000 (A7 (j.Laws.g x2.toNat)) ?_;refine E9 W Jy [2,3] ?_;obtain⟨y6,e6,h⟩:=B7 h;refine V7 Kz (AS W V e6) ?_;refine Dg Jy (x:=.sl true 18 1 (E5 [.str [],pI .i64 0,pI .u32 0,pI .u32 0,.v (.bool false),pI .i64 0,pI .i64 0,E3,pI .i64 0,pI .u32 0,pI .u32 0,.v (.bool false),pI .i64 0,pI .i64 0,E3,E3,E3,pI .i64 0] [(0,A7 y6)])) ?_;obtain⟨c12,h⟩:=E2 h;refine H9 c12 ?_;exact r _ [(7000,7000),(10000,10000),(10500,58000),(44000,44000)] _ (x1.push y6) (wrap .i64 (x2+1)) Jy h (hle:=klR [(7,.fn (x1.n+1) (x1.push y6).n (U3 x1.n (fun i=>A7 (x1.g i)) (E5 [.str [],pI .i64 0,pI .u32 0,pI .u32 0,.v (.bool false),pI .i64 0,pI .i64 0,E3,pI .i64 0,pI .u32 0,pI .u32 0,.v (.bool false),pI .i64 0,pI .i64 0,E3,E3,E3,pI .i64 0] [(0,A7 y6)])) (fun i=>A7 ((x1.push y6).g i)))] (al1 ⟨rfl,OE (c:=A7) (v:=x1) (x:=y6) (z:=[(.str []),pI .i64 0,pI .u32 0,pI .u32 0,.v (.bool false),pI .i64 0,pI .i64 0,E3,pI .i64 0,pI .u32 0,pI .u32 0,.v (.bool false),pI .i64 0,pI .i64 0,E3,E3,E3,pI .i64 0]) same rfl rfl⟩ al0))
 refine F6 W Jy 60 ⟨[(9,.reg 10000 0),(6,.reg 7000 0),(3,.p (.ptr (A2 j))),(2,pN d),(1,pN f)],[(44000,.vec B6 2 y3.n (fun i=>B0 (y3.g i)) true),(10501,.vec F2 1 0 (fun _=>[]) false),(10500,.vec D9 18 x1.n (fun i=>A7 (x1.g i)) false),(10000,.cells [.vec 44000,.vec 10500,.vec 10501]),(7000,.cells [.p E3,.p E3,.p E3])]⟩ (ids:=[(7000,7000),(10000,10000),(10500,10500),(44000,44000)]) ?_;refine O8 W Jy 60 (.fam 10501 10901 fun i=>N4 B2 1 (cI .i64) ((Sl.nil:Sl (Sl Int)).g i)) (⟨by decide,fun i u=>Jo u (Nat.not_lt_zero i)⟩:1000<=10901/\∀i,i<0->Gc ((fun _=>[]) i) (N4 B2 1 (cI .i64) ((Sl.nil:Sl (Sl Int)).g i))) ?_;refine H4 W Jy h (fun x3 x4=>⟨[(63,pN x4),(62,pN (j.On.n:Int)),(61,.p (vSl 1 (cL 1 (cI .i64)) j.On)),(9,.reg 10000 0),(6,.reg 7000 0),(2,pN d),(1,pN f)],[(44000,.vec B6 2 y3.n (fun i=>B0 (y3.g i)) true),(10901,.rows x3.n fun i=>N4 B2 1 (cI .i64) (x3.g i)),(10501,.fam F2 x3.n 10901 none),(10500,.vec D9 18 x1.n (fun i=>A7 (x1.g i)) false),(10000,.cells [.vec 44000,.vec 10500,.vec 10501]),(7000,.cells [.p E3,.p E3,.p E3])]⟩) (ids:=[(7000,7000),(10000,10000),(10500,10500),(10501,10501),(10901,10901),(44000,44000)]) (fun _ _ _ _ _ s x3 x4 t h=>?_);apply kI W h<;>intro h
 .obtain⟨c20,h⟩:=E2 h;refine G7 W c20 [(1,.l [10000]),(3,.b [71000]),(4,.b [72000,71000])] ?_;obtain⟨y9,e9,h⟩:=B7 h;refine Ja [] Jy (W6 W V e9) ?_;obtain⟨c21,h⟩:=E2 h;refine H9 c21 ?_;refine O8 W Jy 74 (.psh 73000 10902) (⟨by decide,rfl,rfl⟩:1000<=10902/\x3.n+1=x3.n+1/\x3.n=x3.n) ?_;exact t _ [(7000,7000),(10000,10000),(10500,10500),(10501,73000),(10901,10902),(44000,44000)] _ (x3.push y9) (wrap .i64 (x4+1)) Jy h (hle:=klR [(7,.ob (x3.n+1) (fun q=>if q=x3.n then N4 B2 1 (cI .i64) y9 else N4 B2 1 (cI .i64) (x3.g q)) (fun i=>N4 B2 1 (cI .i64) ((x3.push y9).g i)))] (al1 VN al0))
 obtain⟨cT,h⟩:=E2 h;obtain⟨⟨c30,c31,c32⟩,h⟩:=E2 h;refine O8 W Jy 75 (.take 10501 f.toNat 10801) (⟨⟨by decide,rfl⟩,cT⟩:(1000<=10801/\x3.n=x3.n)/\f.toNat<x3.n) ?_;refine G7 W (And.intro c30 (And.intro cT (rfl:f.toNat=f.toNat))) [(8,.l [10801]),(9,.l [10801]),(12,.l [10801]),(13,.l [10801]),(14,.l [10801]),(15,.a [10801]),(16,.l [10801]),(17,.a [10801])] ?_;have l1:(wrap .i64 (d+1)).toNat<(x3.g f.toNat).n:=by omega
 have l2:d.toNat<(x3.g f.toNat).n:=by omega
 refine H9 (And.intro (And.intro (And.intro (And.intro (And.intro (And.intro (And.intro c32 l1) c31) l2) c31) (And.intro (rfl:(1:Nat)=1) (And.intro l2 Kv))) c32) (And.intro (rfl:(1:Nat)=1) (And.intro l1 Kv))) ?_;refine F6 W Jy 96 ⟨[(9,.reg 10000 0),(6,.reg 7000 0)],[(44000,.vec B6 2 y3.n (fun i=>B0 (y3.g i)) true),(10901,(.rows x3.n fun l=>if l=f.toNat then .dead else N4 B2 1 (cI .i64) (x3.g l))),(10801,N4 B2 1 (cI .i64) (((x3.g f.toNat).upd d.toNat ((x3.g f.toNat).g (wrap .i64 (d+1)).toNat)).upd (wrap .i64 (d+1)).toNat ((x3.g f.toNat).g d.toNat))),(10501,.fam F2 x3.n 10901 (some (f.toNat,.vec 10801))),(10500,.vec D9 18 x1.n (fun i=>A7 (x1.g i)) false),(10000,.cells [.vec 44000,.vec 10500,.vec 10501]),(7000,.cells [.p E3,.p E3,.p E3])]⟩ (ids:=[(7000,7000),(10000,10000),(10500,10500),(10501,10501),(10801,10801),(10901,10901),(44000,44000)]) ?_ (hle:=klR [(3,.fn (x3.g f.toNat).n (((x3.g f.toNat).upd d.toNat ((x3.g f.toNat).g (wrap .i64 (d+1)).toNat)).upd (wrap .i64 (d+1)).toNat ((x3.g f.toNat).g d.toNat)).n (fun l=>if l=(wrap .i64 (d+1)).toNat then splice ((fun l=>if l=d.toNat then splice ((fun i=>cI .i64 ((x3.g f.toNat).g i)) l) 0 [pI .i64 ((x3.g f.toNat).g (wrap .i64 (d+1)).toNat)]else (fun i=>cI .i64 ((x3.g f.toNat).g i)) l) l) 0 [pI .i64 ((x3.g f.toNat).g d.toNat)]else (fun l=>if l=d.toNat then splice ((fun i=>cI .i64 ((x3.g f.toNat).g i)) l) 0 [pI .i64 ((x3.g f.toNat).g (wrap .i64 (d+1)).toNat)]else (fun i=>cI .i64 ((x3.g f.toNat).g i)) l) l) (fun i=>cI .i64 ((((x3.g f.toNat).upd d.toNat ((x3.g f.toNat).g (wrap .i64 (d+1)).toNat)).upd (wrap .i64 (d+1)).toNat ((x3.g f.toNat).g d.toNat)).g i)))] (al1 ⟨rfl,Tq (c:=cI .i64) (v:=(x3.g f.toNat).upd d.toNat ((x3.g f.toNat).g (wrap .i64 (d+1)).toNat)) (x:=(x3.g f.toNat).g d.toNat) (Tq (c:=cI .i64) (v:=x3.g f.toNat) (x:=(x3.g f.toNat).g (wrap .i64 (d+1)).toNat) same (fun _=>by first|rfl|(dsimp only;split<;>rfl))) (fun _=>by first|rfl|(dsimp only;split<;>rfl))⟩ al0));refine O8 W Jy 96 (.put 10501 10902) (⟨⟨by decide,rfl⟩,cT⟩:(1000<=10902/\x3.n=x3.n)/\f.toNat<x3.n) ?_;refine O8 W Jy 96 (.pub 10501) (⟨rfl,VO⟩:x3.n=x3.n/\∀q,q<x3.n->(Iz (if q=f.toNat then N4 B2 1 (cI .i64) (((x3.g f.toNat).upd d.toNat ((x3.g f.toNat).g (wrap .i64 (d+1)).toNat)).upd (wrap .i64 (d+1)).toNat ((x3.g f.toNat).g d.toNat))else if q=f.toNat then Obj.dead else N4 B2 1 (cI .i64) (x3.g q))).isSome=true) ?_;obtain rfl:=C6 h;exact A9 W Jy ⟨[(7,pN 0),(6,.reg 7000 0)],[(7000,.cells [.p (vSl 2 B0 y3),.p (vSl 18 A7 x1),.p (vSl 1 (cL 1 (cI .i64)) (x3.upd f.toNat (((x3.g f.toNat).upd d.toNat ((x3.g f.toNat).g (wrap .i64 (d+1)).toNat)).upd (wrap .i64 (d+1)).toNat ((x3.g f.toNat).g d.toNat))))])]⟩ [] (ids:=[(7000,7000)]) ⟨rfl,rfl,rfl⟩ (hle:=klR [(3,.fn x3.n (x3.upd f.toNat (((x3.g f.toNat).upd d.toNat ((x3.g f.toNat).g (wrap .i64 (d+1)).toNat)).upd (wrap .i64 (d+1)).toNat ((x3.g f.toNat).g d.toNat))).n (fun q=>[(Iz (if q=f.toNat then N4 B2 1 (cI .i64) (((x3.g f.toNat).upd d.toNat ((x3.g f.toNat).g (wrap .i64 (d+1)).toNat)).upd (wrap .i64 (d+1)).toNat ((x3.g f.toNat).g d.toNat))else if q=f.toNat then Obj.dead else N4 B2 1 (cI .i64) (x3.g q))).getD default]) (fun i=>cL 1 (cI .i64) ((x3.upd f.toNat (((x3.g f.toNat).upd d.toNat ((x3.g f.toNat).g (wrap .i64 (d+1)).toNat)).upd (wrap .i64 (d+1)).toNat ((x3.g f.toNat).g d.toNat))).g i)))] (al1 ⟨rfl,YM⟩ al0))
end Go.AM
namespace Go.AM
open Go.Proofs.Tryz
variable {N:Nat}
open IntKind (wrap)
open Go.Proofs
set_option maxRecDepth 10000
set_option maxHeartbeats 2000000
variable {S:Q8}(W:F5 S Tryz.prog) (V:Ip S)
theorem Pt {z:Nat->List PV}{f:Nat->List PV}:U3 0 z f=f:=by funext i;show (if i<0 then z i else f (i-0))=f i;rw[Jm (Nat.not_lt_zero i),Nat.sub_zero]
theorem VP {T:Type}{e:TypeId}{k:Nat}{c:T->List PV}{X:Sl (Sl T)}{z:Sl T}{z0:Nat->List PV}:∀q,q<X.n+1->(fun q=>if q=X.n then .vec e k (0+z.n) (U3 0 z0 (fun i=>c (z.g i))) false else N4 e k c (X.g q)) q=(fun q=>N4 e k c ((X.push z).g q)) q:=fun q a=>by
 have:=VN (e:=e) (k:=k) (c:=c) (X:=X) (z:=z) q a
 rw[<- this];simp only[Pt,Nat.zero_add]
include W V
def Y0 (N:Nat)(a:A5):Option A5:= if (0+a.Tree.n)*24<=140737488355328/\0+a.Tree.n<=140737488355328 then if (0+a.Laws.n)*200<=140737488355328/\0+a.Laws.n<=140737488355328 then BQ N (fun b (x:Int) (X:Sl (Sl Int))=>if (decide (x<(a.On.n:Int))) then if (0:Int)<=x/\x<(a.On.n:Int)then if (0+(a.On.g x.toNat).n)*8<=140737488355328/\0+(a.On.g x.toNat).n<=140737488355328 then if (X.n+1)*24<=140737488355328/\X.n+1<=140737488355328 then b (wrap .i64 (x+1)) (X.push (a.On.g x.toNat)) else none else none else none else some (⟨a.Tree,a.Laws,X⟩:A5)) 0 (Sl.nil:Sl (Sl Int)) else none else none
theorem Rk {c:A5}{y:A5}(h:Y0 N c=some y) :FunO S Hf [.p (.agg (A2 c))] [] (.agr [.p (vSl 2 B0 y.Tree),.p (vSl 18 A7 y.Laws),.vec 0]) [.fam F2 y.On.n 1 none,.rows y.On.n fun i=>N4 B2 1 (cI .i64) (y.On.g i)] []:=by
 unfold Y0 at h;refine A4 W func25 ?_;refine I1 W Jy 2 2000 (A2 c) ?_;obtain⟨c1,h⟩:=E2 h;obtain⟨c2,h⟩:=E2 h;refine G7 W Jy [(0,.a [6000]),(2,.n),(3,.a [6000,9000]),(4,.a [10000]),(6,.n),(7,.a [10000,13000]),(8,.n),(9,.a [4000]),(10,.a [4000])] ?_;refine H9 (And.intro (And.intro (And.intro L7 c1) L7) c2) ?_;refine F6 W Jy 4 ⟨[(3,.reg 4000 0),(2,.reg 3000 0),(1,.p (.ptr (A2 c)))],[(13000,.vec D9 18 c.Laws.n (fun i=>A7 (c.Laws.g i)) false),(9000,.vec B6 2 c.Tree.n (fun i=>B0 (c.Tree.g i)) false),(4501,.vec F2 1 0 (fun _=>[]) false),(4000,.cells [.vec 9000,.vec 13000,.vec 4501]),(3000,.cells [.p E3,.p E3,.p E3])]⟩ (ids:=[(3000,3000),(4000,4000),(9000,9000),(13000,13000)]) ?_ (hle:=klR [(1,.fn (0+c.Laws.n) c.Laws.n (U3 0 (E5 [.str [],pI .i64 0,pI .u32 0,pI .u32 0,.v (.bool false),pI .i64 0,pI .i64 0,E3,pI .i64 0,pI .u32 0,pI .u32 0,.v (.bool false),pI .i64 0,pI .i64 0,E3,E3,E3,pI .i64 0] []) (fun i=>A7 (c.Laws.g i))) (fun i=>A7 (c.Laws.g i))),(2,.fn (0+c.Tree.n) c.Tree.n (U3 0 (E5 [pI .i64 0,.str []] []) (fun i=>B0 (c.Tree.g i))) (fun i=>B0 (c.Tree.g i)))] (al1 ⟨Nat.zero_add _,fun i _=>by rw[Pt]⟩ (al1 ⟨Nat.zero_add _,fun i _=>by rw[Pt]⟩ al0)));refine O8 W Jy 4 (.fam 4501 4901 fun i=>N4 B2 1 (cI .i64) ((Sl.nil:Sl (Sl Int)).g i)) (⟨by decide,fun i j=>Jo j (Nat.not_lt_zero i)⟩:1000<=4901/\∀i,i<0->Gc ((fun _=>[]) i) (N4 B2 1 (cI .i64) ((Sl.nil:Sl (Sl Int)).g i))) ?_;refine H4 W Jy h (fun x X=>⟨[(4,pN x),(3,.reg 4000 0),(2,.reg 3000 0),(1,.p (.ptr (A2 c)))],[(13000,.vec D9 18 c.Laws.n (fun i=>A7 (c.Laws.g i)) false),(9000,.vec B6 2 c.Tree.n (fun i=>B0 (c.Tree.g i)) false),(4901,.rows X.n fun i=>N4 B2 1 (cI .i64) (X.g i)),(4501,.fam F2 X.n 4901 none),(4000,.cells [.vec 9000,.vec 13000,.vec 4501]),(3000,.cells [.p E3,.p E3,.p E3])]⟩) (ids:=[(3000,3000),(4000,4000),(4501,4501),(4901,4901),(9000,9000),(13000,13000)]) (fun _ _ _ _ _ f x X d h=>?_);apply kI W h<;>intro h
 .obtain⟨c3,h⟩:=E2 h;obtain⟨c4,h⟩:=E2 h;obtain⟨c5,h⟩:=E2 h;refine G7 W Jy [(1,.l [4000]),(2,.a [24000]),(4,.n),(6,.n),(7,.n),(8,.a [24000,30000]),(9,.b [31000,30000])] ?_;refine H9 (And.intro (And.intro (And.intro L7 c3) c4) c5) ?_;refine O8 W Jy 19 (.psh 32000 4902) (⟨by decide,rfl,rfl⟩:1000<=4902/\X.n+1=X.n+1/\X.n=X.n) ?_;exact d _ [(3000,3000),(4000,4000),(4501,32000),(4901,4902),(9000,9000),(13000,13000)] _ (wrap .i64 (x+1)) (X.push (c.On.g x.toNat)) Jy h (hle:=klR [(5,.ob (X.n+1) (fun q=>if q=X.n then .vec B2 1 (0+(c.On.g x.toNat).n) (U3 0 (E5 [pI .i64 0] []) (fun i=>cI .i64 ((c.On.g x.toNat).g i))) false else N4 B2 1 (cI .i64) (X.g q)) (fun i=>N4 B2 1 (cI .i64) ((X.push (c.On.g x.toNat)).g i)))] (al1 VP al0))
 obtain rfl:=C6 h;exact A9 W Jy ⟨[(2,.reg 3000 0)],[(4901,.rows X.n fun i=>N4 B2 1 (cI .i64) (X.g i)),(4501,.fam F2 X.n 4901 none),(3000,.cells [.p (vSl 2 B0 c.Tree),.p (vSl 18 A7 c.Laws),.vec 4501])]⟩ [4501,4901] (ids:=[(3000,3000),(4501,4501),(4901,4901)]) ⟨rfl,rfl,rfl⟩
theorem Ua {c:A5}{y:A5}(h:Y0 N c=some y) :FunO S Hf [.p (.agg (A2 c))] [] (.p (.agg (A2 y))) [] []:=by
 unfold Y0 at h;refine A4 W func25 ?_;refine I1 W Jy 2 2000 (A2 c) ?_;obtain⟨c1,h⟩:=E2 h;obtain⟨c2,h⟩:=E2 h;refine G7 W Jy [(0,.a [6000]),(2,.n),(3,.a [6000,9000]),(4,.a [10000]),(6,.n),(7,.a [10000,13000]),(8,.n),(9,.a [4000]),(10,.a [4000])] ?_;refine H9 (And.intro (And.intro (And.intro L7 c1) L7) c2) ?_;refine F6 W Jy 4 ⟨[(3,.reg 4000 0),(2,.reg 3000 0),(1,.p (.ptr (A2 c)))],[(13000,.vec D9 18 c.Laws.n (fun i=>A7 (c.Laws.g i)) false),(9000,.vec B6 2 c.Tree.n (fun i=>B0 (c.Tree.g i)) false),(4501,.vec F2 1 0 (fun _=>[]) false),(4000,.cells [.vec 9000,.vec 13000,.vec 4501]),(3000,.cells [.p E3,.p E3,.p E3])]⟩ (ids:=[(3000,3000),(4000,4000),(9000,9000),(13000,13000)]) ?_ (hle:=klR [(1,.fn (0+c.Laws.n) c.Laws.n (U3 0 (E5 [.str [],pI .i64 0,pI .u32 0,pI .u32 0,.v (.bool false),pI .i64 0,pI .i64 0,E3,pI .i64 0,pI .u32 0,pI .u32 0,.v (.bool false),pI .i64 0,pI .i64 0,E3,E3,E3,pI .i64 0] []) (fun i=>A7 (c.Laws.g i))) (fun i=>A7 (c.Laws.g i))),(2,.fn (0+c.Tree.n) c.Tree.n (U3 0 (E5 [pI .i64 0,.str []] []) (fun i=>B0 (c.Tree.g i))) (fun i=>B0 (c.Tree.g i)))] (al1 ⟨Nat.zero_add _,fun i _=>by rw[Pt]⟩ (al1 ⟨Nat.zero_add _,fun i _=>by rw[Pt]⟩ al0)));refine O8 W Jy 4 (.fam 4501 4901 fun i=>N4 B2 1 (cI .i64) ((Sl.nil:Sl (Sl Int)).g i)) (⟨by decide,fun i j=>Jo j (Nat.not_lt_zero i)⟩:1000<=4901/\∀i,i<0->Gc ((fun _=>[]) i) (N4 B2 1 (cI .i64) ((Sl.nil:Sl (Sl Int)).g i))) ?_;refine H4 W Jy h (fun x X=>⟨[(4,pN x),(3,.reg 4000 0),(2,.reg 3000 0),(1,.p (.ptr (A2 c)))],[(13000,.vec D9 18 c.Laws.n (fun i=>A7 (c.Laws.g i)) false),(9000,.vec B6 2 c.Tree.n (fun i=>B0 (c.Tree.g i)) false),(4901,.rows X.n fun i=>N4 B2 1 (cI .i64) (X.g i)),(4501,.fam F2 X.n 4901 none),(4000,.cells [.vec 9000,.vec 13000,.vec 4501]),(3000,.cells [.p E3,.p E3,.p E3])]⟩) (ids:=[(3000,3000),(4000,4000),(4501,4501),(4901,4901),(9000,9000),(13000,13000)]) (fun _ _ _ _ _ f x X d h=>?_);apply kI W h<;>intro h
 .obtain⟨c3,h⟩:=E2 h;obtain⟨c4,h⟩:=E2 h;obtain⟨c5,h⟩:=E2 h;refine G7 W Jy [(1,.l [4000]),(2,.a [24000]),(4,.n),(6,.n),(7,.n),(8,.a [24000,30000]),(9,.b [31000,30000])] ?_;refine H9 (And.intro (And.intro (And.intro L7 c3) c4) c5) ?_;refine O8 W Jy 19 (.psh 32000 4902) (⟨by decide,rfl,rfl⟩:1000<=4902/\X.n+1=X.n+1/\X.n=X.n) ?_;exact d _ [(3000,3000),(4000,4000),(4501,32000),(4901,4902),(9000,9000),(13000,13000)] _ (wrap .i64 (x+1)) (X.push (c.On.g x.toNat)) Jy h (hle:=klR [(5,.ob (X.n+1) (fun q=>if q=X.n then .vec B2 1 (0+(c.On.g x.toNat).n) (U3 0 (E5 [pI .i64 0] []) (fun i=>cI .i64 ((c.On.g x.toNat).g i))) false else N4 B2 1 (cI .i64) (X.g q)) (fun i=>N4 B2 1 (cI .i64) ((X.push (c.On.g x.toNat)).g i)))] (al1 VP al0))
 obtain rfl:=C6 h;refine O8 W Jy 33 (.pub 4501) (⟨rfl,fun i _=>rfl⟩:X.n=X.n/\∀i,i<X.n->(Iz (N4 B2 1 (cI .i64) (X.g i))).isSome=true) ?_;exact A9 W Jy ⟨[(2,.reg 3000 0)],[(3000,.cells [.p (vSl 2 B0 c.Tree),.p (vSl 18 A7 c.Laws),.p (vSl 1 (cL 1 (cI .i64)) X)])]⟩ [] (ids:=[(3000,3000)]) ⟨rfl,rfl,rfl⟩ (hle:=klR [(2,.fn X.n X.n (fun i=>[(Iz (N4 B2 1 (cI .i64) (X.g i))).getD default]) (fun i=>cL 1 (cI .i64) (X.g i)))] (al1 ⟨rfl,fun _ _=>rfl⟩ al0))
def Y1 (N:Nat)(c:A5)(b:Int)(a:Int):Option (A5×Int):= (Ao N c).bind fun y1=>if (y1 != 0) then some ((⟨(Sl.nil:Sl G2),(Sl.nil:Sl Law),(Sl.nil:Sl (Sl Int))⟩:A5),y1) else (Bp N c b).bind fun y2=>if ((!y2)=false->((decide (a<0))=false->((0:Int)<=b/\b<(c.On.n:Int))))then if (((!y2)||(decide (a<0)))||(decide ((wrap .i64 (((c.On.g b.toNat).n:Int)-1))<=a))) then some ((⟨(Sl.nil:Sl G2),(Sl.nil:Sl Law),(Sl.nil:Sl (Sl Int))⟩:A5),3) else (Y0 N c).bind fun y3=>if b.toNat<y3.On.n then if (((0:Int)<=b/\b<(y3.On.n:Int))/\((0:Int)<=a/\a<((y3.On.g b.toNat).n:Int))/\((0:Int)<=(wrap .i64 (a+1))/\(wrap .i64 (a+1))<((y3.On.g b.toNat).n:Int)))then some ((⟨y3.Tree,y3.Laws,y3.On.upd b.toNat (((y3.On.g b.toNat).upd a.toNat ((y3.On.g b.toNat).g (wrap .i64 (a+1)).toNat)).upd (wrap .i64 (a+1)).toNat ((y3.On.g b.toNat).g a.toNat))⟩:A5),0) else none else none else none
theorem Ub {f:A5}{d:Int}{b:Int}{y:A5×Int}(h:Y1 N f d b=some y) :FunO S LL [.p (.agg (A2 f)),pN d,pN b] [] (.tup [.p (.agg (A2 y.1)),pN y.2]) ([]) []:=by
 unfold Y1 at h;refine A4 W func26 ?_;refine I1 W Jy 6 4000 (A2 f) ?_;obtain⟨y1,e1,h⟩:=B7 h;refine B9 W [] Kx (Rh W V e1) ?_;apply kI W h<;>intro h
 .obtain rfl:=C6 h;exact A9 W Jy ⟨[(7,pN y1),(6,.reg 7000 0)],[(7000,.cells [.p (vSl 2 B0 (Sl.nil:Sl G2)),.p (vSl 18 A7 (Sl.nil:Sl Law)),.p (vSl 1 (cL 1 (cI .i64)) (Sl.nil:Sl (Sl Int)))])]⟩ [] (ids:=[(7000,7000)]) ⟨rfl,rfl,rfl⟩
 obtain⟨y2,e2,h⟩:=B7 h;refine B9 W [] Kx (TX W V e2) ?_;obtain⟨c2,h⟩:=E2 h;refine kB W (A6 W) Jy c2 14 (.o (.o (.a (!y2)) (.a (decide (b<0)))) (.a (decide ((wrap .i64 (((f.On.g d.toNat).n:Int)-1))<=b)))) ?_;apply kI W h<;>intro h
 .obtain rfl:=C6 h;exact A9 W Jy ⟨[(7,pN 3),(6,.reg 7000 0)],[(7000,.cells [.p (vSl 2 B0 (Sl.nil:Sl G2)),.p (vSl 18 A7 (Sl.nil:Sl Law)),.p (vSl 1 (cL 1 (cI .i64)) (Sl.nil:Sl (Sl Int)))])]⟩ [] (ids:=[(7000,7000)]) ⟨rfl,rfl,rfl⟩
 obtain⟨y3,e3,h⟩:=B7 h;refine B9 W [] Kx (Rk W V e3) ?_;obtain⟨cT,h⟩:=E2 h;obtain⟨⟨c30,c31,c32⟩,h⟩:=E2 h;refine O8 W Jy 9 (.take 38000 d.toNat 10801) (⟨⟨by decide,rfl⟩,cT⟩:(1000<=10801/\y3.On.n=y3.On.n)/\d.toNat<y3.On.n) ?_;have l1:(wrap .i64 (b+1)).toNat<(y3.On.g d.toNat).n:=by omega
 have l2:b.toNat<(y3.On.g d.toNat).n:=by omega
 refine G7 W Jy [(1,.l [10000]),(3,.l [38000]),(4,.l [38000]),(7,.l [10000]),(9,.l [38000]),(10,.l [38000]),(14,.l [10000]),(16,.l [38000]),(17,.l [38000]),(20,.l [10801]),(21,.l [10801]),(23,.l [10000]),(25,.l [38000]),(26,.l [38000]),(28,.l [10801]),(29,.l [10801]),(30,.l [10801]),(31,.a [10801]),(32,.l [10801]),(33,.a [10801])] ?_;refine H9 (And.intro (And.intro (And.intro (And.intro (And.intro (And.intro (And.intro (And.intro (And.intro (And.intro (And.intro (And.intro (And.intro (And.intro (And.intro c30 (And.intro cT (rfl:d.toNat=d.toNat))) c30) (And.intro cT (rfl:d.toNat=d.toNat))) c30) (And.intro cT (rfl:d.toNat=d.toNat))) c32) l1) c30) (And.intro cT (rfl:d.toNat=d.toNat))) c31) l2) c31) (And.intro (rfl:(1:Nat)=1) (And.intro l2 Kv))) c32) (And.intro (rfl:(1:Nat)=1) (And.intro l1 Kv))) ?_;refine F6 W Jy 70 ⟨[(9,.reg 10000 0),(6,.reg 7000 0)],[(38001,(.rows y3.On.n fun l=>if l=d.toNat then .dead else N4 B2 1 (cI .i64) (y3.On.g l))),(38000,.fam F2 y3.On.n 38001 (some (d.toNat,.vec 10801))),(10801,N4 B2 1 (cI .i64) (((y3.On.g d.toNat).upd b.toNat ((y3.On.g d.toNat).g (wrap .i64 (b+1)).toNat)).upd (wrap .i64 (b+1)).toNat ((y3.On.g d.toNat).g b.toNat))),(10000,.cells [.p (vSl 2 B0 y3.Tree),.p (vSl 18 A7 y3.Laws),.vec 38000]),(7000,.cells [.p E3,.p E3,.p E3])]⟩ (ids:=[(7000,7000),(10000,10000),(10801,10801),(38000,38000),(38001,38001)]) ?_ (hle:=klR [(4,.fn (y3.On.g d.toNat).n (((y3.On.g d.toNat).upd b.toNat ((y3.On.g d.toNat).g (wrap .i64 (b+1)).toNat)).upd (wrap .i64 (b+1)).toNat ((y3.On.g d.toNat).g b.toNat)).n (fun l=>if l=(wrap .i64 (b+1)).toNat then splice ((fun l=>if l=b.toNat then splice ((fun i=>cI .i64 ((y3.On.g d.toNat).g i)) l) 0 [pI .i64 ((y3.On.g d.toNat).g (wrap .i64 (b+1)).toNat)]else (fun i=>cI .i64 ((y3.On.g d.toNat).g i)) l) l) 0 [pI .i64 ((y3.On.g d.toNat).g b.toNat)]else (fun l=>if l=b.toNat then splice ((fun i=>cI .i64 ((y3.On.g d.toNat).g i)) l) 0 [pI .i64 ((y3.On.g d.toNat).g (wrap .i64 (b+1)).toNat)]else (fun i=>cI .i64 ((y3.On.g d.toNat).g i)) l) l) (fun i=>cI .i64 ((((y3.On.g d.toNat).upd b.toNat ((y3.On.g d.toNat).g (wrap .i64 (b+1)).toNat)).upd (wrap .i64 (b+1)).toNat ((y3.On.g d.toNat).g b.toNat)).g i)))] (al1 ⟨rfl,Tq (c:=cI .i64) (v:=(y3.On.g d.toNat).upd b.toNat ((y3.On.g d.toNat).g (wrap .i64 (b+1)).toNat)) (x:=(y3.On.g d.toNat).g b.toNat) (Tq (c:=cI .i64) (v:=y3.On.g d.toNat) (x:=(y3.On.g d.toNat).g (wrap .i64 (b+1)).toNat) same (fun _=>by first|rfl|(dsimp only;split<;>rfl))) (fun _=>by first|rfl|(dsimp only;split<;>rfl))⟩ al0));refine O8 W Jy 70 (.put 38000 38002) (⟨⟨by decide,rfl⟩,cT⟩:(1000<=38002/\y3.On.n=y3.On.n)/\d.toNat<y3.On.n) ?_;refine O8 W Jy 70 (.pub 38000) (⟨rfl,VO⟩:y3.On.n=y3.On.n/\∀q,q<y3.On.n->(Iz (if q=d.toNat then N4 B2 1 (cI .i64) (((y3.On.g d.toNat).upd b.toNat ((y3.On.g d.toNat).g (wrap .i64 (b+1)).toNat)).upd (wrap .i64 (b+1)).toNat ((y3.On.g d.toNat).g b.toNat))else if q=d.toNat then Obj.dead else N4 B2 1 (cI .i64) (y3.On.g q))).isSome=true) ?_;obtain rfl:=C6 h;exact A9 W Jy ⟨[(7,pN 0),(6,.reg 7000 0)],[(7000,.cells [.p (vSl 2 B0 y3.Tree),.p (vSl 18 A7 y3.Laws),.p (vSl 1 (cL 1 (cI .i64)) (y3.On.upd d.toNat (((y3.On.g d.toNat).upd b.toNat ((y3.On.g d.toNat).g (wrap .i64 (b+1)).toNat)).upd (wrap .i64 (b+1)).toNat ((y3.On.g d.toNat).g b.toNat))))])]⟩ [] (ids:=[(7000,7000)]) ⟨rfl,rfl,rfl⟩ (hle:=klR [(3,.fn y3.On.n (y3.On.upd d.toNat (((y3.On.g d.toNat).upd b.toNat ((y3.On.g d.toNat).g (wrap .i64 (b+1)).toNat)).upd (wrap .i64 (b+1)).toNat ((y3.On.g d.toNat).g b.toNat))).n (fun q=>[(Iz (if q=d.toNat then N4 B2 1 (cI .i64) (((y3.On.g d.toNat).upd b.toNat ((y3.On.g d.toNat).g (wrap .i64 (b+1)).toNat)).upd (wrap .i64 (b+1)).toNat ((y3.On.g d.toNat).g b.toNat))else if q=d.toNat then Obj.dead else N4 B2 1 (cI .i64) (y3.On.g q))).getD default]) (fun i=>cL 1 (cI .i64) ((y3.On.upd d.toNat (((y3.On.g d.toNat).upd b.toNat ((y3.On.g d.toNat).g (wrap .i64 (b+1)).toNat)).upd (wrap .i64 (b+1)).toNat ((y3.On.g d.toNat).g b.toNat))).g i)))] (al1 ⟨rfl,YM⟩ al0))
end Go.AM
namespace Go.AM
open IntKind (wrap)
open Go.Proofs
set_option maxRecDepth 10000
set_option maxHeartbeats 2000000
theorem YN {T:Type}{e:TypeId}{k n i:Nat}{c:T->List PV}{X:Sl (Sl T)}{z:Sl T}:∀q,q<n->(if q=i then N4 e k c z else if q=i then Obj.dead else N4 e k c (X.g q))=N4 e k c ((X.upd i z).g q):=fun q _=>by
 show _=N4 e k c (if q=i then z else X.g q);by_cases h:q=i
 .rw[Jl h,Jl h]
 rw[Jm h,Jm h,Jm h]
variable {S:Q8}(W:F5 S Tryz.prog) (V:Ip S)
include W V
theorem W7 {N:Nat}{s y:Sl G2}(h:D0 N s=some y):FunO S G9 [.p (vSl 2 B0 s)] [] (.vec 0) [.vec B6 2 y.n (fun i=>B0 (y.g i)) false] []:=by
 unfold D0 at h;obtain⟨c1,h⟩:=E2 h;obtain rfl:=C6 h;refine A4 W Tryz.func72 ?_;refine Tt W Jy 3 (k:=2) (n:=s.n) (f:=fun i=>B0 (s.g i)) (fun a=>?_) ?_
 .obtain⟨n,g⟩:=s;obtain rfl:n=0:=a;exact A9 W Jy ⟨[(2,.vec 3700)],[(3700,.vec B6 2 0 (fun i=>B0 (g i)) false)]⟩ [3700] (ids:=[]) ⟨rfl,rfl,rfl⟩
 exact A9 W (And.intro L7 c1) ⟨[(2,.vec 8000)],[(8000,.vec B6 2 s.n (fun i=>B0 (s.g i)) false)]⟩ [8000] (ids:=[(8000,8000)]) ⟨rfl,rfl,rfl⟩
  (hle:=klR [(0,.fn (0+s.n) s.n (U3 0 (E5 [pI .i64 0,.str []] []) (fun i=>B0 (s.g i))) (fun i=>B0 (s.g i)))] (al1 ⟨Nat.zero_add _,fun i _=>by simp[U3]⟩ al0))
theorem JX {N:Nat}{j:A5}{f:Int}{d:Int}{y:A5×Int}(h:F0 N j f d=some y) :FunO S Cg [.p (.agg (A2 j)),pN f,pN d] [] (.tup [.agr [.vec 0,.vec 1,.vec 2],pN y.2]) [.vec B6 2 y.1.Tree.n (fun i=>B0 (y.1.Tree.g i)) false,.vec D9 18 y.1.Laws.n (fun i=>A7 (y.1.Laws.g i)) false,.fam F2 y.1.On.n 3 none,.rows y.1.On.n fun i=>N4 B2 1 (cI .i64) (y.1.On.g i)] []:=by
 unfold F0 at h;refine A4 W Tryz.func27 ?_;refine I1 W Jy 6 4000 (A2 j) ?_;obtain⟨y1,e1,h⟩:=B7 h;refine B9 W [] Kx (M8 W V e1) ?_;apply kI W h<;>intro h
 .obtain rfl:=C6 h;refine F6 W Jy 7 ⟨[(20,pN y1),(6,.reg 7000 0)],[(7502,.vec F2 1 0 (fun _=>[]) false),(7501,.vec D9 18 (Sl.nil:Sl Law).n (fun i=>A7 ((Sl.nil:Sl Law).g i)) false),(7500,.vec B6 2 (Sl.nil:Sl G2).n (fun i=>B0 ((Sl.nil:Sl G2).g i)) false),(7000,.cells [.vec 7500,.vec 7501,.vec 7502])]⟩ (ids:=[(7000,7000)]) ?_;refine O8 W Jy 7 (.fam 7502 7902 fun i=>N4 B2 1 (cI .i64) ((Sl.nil:Sl (Sl Int)).g i)) (⟨by decide,fun i m=>Jo m (Nat.not_lt_zero i)⟩:1000<=7902/\∀i,i<0->Gc ((fun _=>[]) i) (N4 B2 1 (cI .i64) ((Sl.nil:Sl (Sl Int)).g i))) ?_;exact A9 W Jy ⟨[(7,pN y1),(6,.reg 7000 0)],[(7902,.rows (Sl.nil:Sl (Sl Int)).n fun i=>N4 B2 1 (cI .i64) ((Sl.nil:Sl (Sl Int)).g i)),(7502,.fam F2 (Sl.nil:Sl (Sl Int)).n 7902 none),(7501,.vec D9 18 (Sl.nil:Sl Law).n (fun i=>A7 ((Sl.nil:Sl Law).g i)) false),(7500,.vec B6 2 (Sl.nil:Sl G2).n (fun i=>B0 ((Sl.nil:Sl G2).g i)) false),(7000,.cells [.vec 7500,.vec 7501,.vec 7502])]⟩ [7500,7501,7502,7902] (ids:=[(7000,7000),(7500,7500),(7501,7501),(7502,7502),(7902,7902)]) ⟨rfl,rfl,rfl⟩
 obtain⟨y2,e2,h⟩:=B7 h;refine B9 W [] Kx (Aw W V e2) ?_;obtain⟨c2,h⟩:=E2 h;refine kB W (A6 W) Jy c2 14 (.o (.o (.a (!y2)) (.a (decide (d<0)))) (.a (decide ((wrap .i64 (((j.On.g f.toNat).n:Int)-1))<=d)))) ?_;apply kI W h<;>intro h
 .obtain rfl:=C6 h;refine F6 W Jy 7 ⟨[(6,.reg 7000 0)],[(7502,.vec F2 1 0 (fun _=>[]) false),(7501,.vec D9 18 (Sl.nil:Sl Law).n (fun i=>A7 ((Sl.nil:Sl Law).g i)) false),(7500,.vec B6 2 (Sl.nil:Sl G2).n (fun i=>B0 ((Sl.nil:Sl G2).g i)) false),(7000,.cells [.vec 7500,.vec 7501,.vec 7502])]⟩ (ids:=[(7000,7000)]) ?_;refine O8 W Jy 7 (.fam 7502 7902 fun i=>N4 B2 1 (cI .i64) ((Sl.nil:Sl (Sl Int)).g i)) (⟨by decide,fun i m=>Jo m (Nat.not_lt_zero i)⟩:1000<=7902/\∀i,i<0->Gc ((fun _=>[]) i) (N4 B2 1 (cI .i64) ((Sl.nil:Sl (Sl Int)).g i))) ?_;exact A9 W Jy ⟨[(7,pN 3),(6,.reg 7000 0)],[(7902,.rows (Sl.nil:Sl (Sl Int)).n fun i=>N4 B2 1 (cI .i64) ((Sl.nil:Sl (Sl Int)).g i)),(7502,.fam F2 (Sl.nil:Sl (Sl Int)).n 7902 none),(7501,.vec D9 18 (Sl.nil:Sl Law).n (fun i=>A7 ((Sl.nil:Sl Law).g i)) false),(7500,.vec B6 2 (Sl.nil:Sl G2).n (fun i=>B0 ((Sl.nil:Sl G2).g i)) false),(7000,.cells [.vec 7500,.vec 7501,.vec 7502])]⟩ [7500,7501,7502,7902] (ids:=[(7000,7000),(7500,7500),(7501,7501),(7502,7502),(7902,7902)]) ⟨rfl,rfl,rfl⟩
 refine kC W h (W7 W V) (fun y3 h=>?_);refine H4 W Jy h (fun x1 x2=>⟨[(48,pN x2),(47,pN (j.Laws.n:Int)),(46,.p (vSl 18 A7 j.Laws)),(9,.reg 10000 0),(6,.reg 7000 0),(3,.p (.ptr (A2 j))),(2,pN d),(1,pN f)],[(44000,.vec B6 2 y3.n (fun i=>B0 (y3.g i)) false),(10500,.vec D9 18 x1.n (fun i=>A7 (x1.g i)) false),(10000,.cells [.vec 44000,.vec 10500,.p E3]),(7000,.cells [.p E3,.p E3,.p E3])]⟩) (ids:=[(7000,7000),(10000,10000),(44000,44000)]) (fun _ _ _ _ _ r x1 x2 s h=>?_);apply kI W h<;>intro h
 .obtain⟨c11,h⟩:=E2 h;refine XH W (And.intro c11 Kz) 12000 (A7 (j.Laws.g x2.toNat)) ?_;refine E9 W Jy [2,3] ?_;obtain⟨y6,e6,h⟩:=B7 h;refine V7 Kz (AS W V e6) ?_;refine Dg Jy (x:=.sl true 18 1 (E5 [.str [],pI .i64 0,pI .u32 0,pI .u32 0,.v (.bool false),pI .i64 0,pI .i64 0,E3,pI .i64 0,pI .u32 0,pI .u32 0,.v (.bool false),pI .i64 0,pI .i64 0,E3,E3,E3,pI .i64 0] [(0,A7 y6)])) ?_;obtain⟨c12,h⟩:=E2 h;refine H9 c12 ?_;exact s _ [(7000,7000),(10000,10000),(10500,58000),(44000,44000)] _ (x1.push y6) (wrap .i64 (x2+1)) Jy h (hle:=klR [(7,.fn (x1.n+1) (x1.push y6).n (U3 x1.n (fun i=>A7 (x1.g i)) (E5 [.str [],pI .i64 0,pI .u32 0,pI .u32 0,.v (.bool false),pI .i64 0,pI .i64 0,E3,pI .i64 0,pI .u32 0,pI .u32 0,.v (.bool false),pI .i64 0,pI .i64 0,E3,E3,E3,pI .i64 0] [(0,A7 y6)])) (fun i=>A7 ((x1.push y6).g i)))] (al1 ⟨rfl,OE (c:=A7) (v:=x1) (x:=y6) (z:=[(.str []),pI .i64 0,pI .u32 0,pI .u32 0,.v (.bool false),pI .i64 0,pI .i64 0,E3,pI .i64 0,pI .u32 0,pI .u32 0,.v (.bool false),pI .i64 0,pI .i64 0,E3,E3,E3,pI .i64 0]) same rfl rfl⟩ al0))
 refine F6 W Jy 60 ⟨[(9,.reg 10000 0),(6,.reg 7000 0),(3,.p (.ptr (A2 j))),(2,pN d),(1,pN f)],[(44000,.vec B6 2 y3.n (fun i=>B0 (y3.g i)) false),(10501,.vec F2 1 0 (fun _=>[]) false),(10500,.vec D9 18 x1.n (fun i=>A7 (x1.g i)) false),(10000,.cells [.vec 44000,.vec 10500,.vec 10501]),(7000,.cells [.p E3,.p E3,.p E3])]⟩ (ids:=[(7000,7000),(10000,10000),(10500,10500),(44000,44000)]) ?_;refine O8 W Jy 60 (.fam 10501 10901 fun i=>N4 B2 1 (cI .i64) ((Sl.nil:Sl (Sl Int)).g i)) (⟨by decide,fun i m=>Jo m (Nat.not_lt_zero i)⟩:1000<=10901/\∀i,i<0->Gc ((fun _=>[]) i) (N4 B2 1 (cI .i64) ((Sl.nil:Sl (Sl Int)).g i))) ?_;refine H4 W Jy h (fun x3 x4=>⟨[(63,pN x4),(62,pN (j.On.n:Int)),(61,.p (vSl 1 (cL 1 (cI .i64)) j.On)),(9,.reg 10000 0),(6,.reg 7000 0),(2,pN d),(1,pN f)],[(44000,.vec B6 2 y3.n (fun i=>B0 (y3.g i)) false),(10901,.rows x3.n fun i=>N4 B2 1 (cI .i64) (x3.g i)),(10501,.fam F2 x3.n 10901 none),(10500,.vec D9 18 x1.n (fun i=>A7 (x1.g i)) false),(10000,.cells [.vec 44000,.vec 10500,.vec 10501]),(7000,.cells [.p E3,.p E3,.p E3])]⟩) (ids:=[(7000,7000),(10000,10000),(10500,10500),(10501,10501),(10901,10901),(44000,44000)]) (fun _ _ _ _ _ t x3 x4 u h=>?_);apply kI W h<;>intro h
 .obtain⟨c20,h⟩:=E2 h;refine G7 W c20 [(1,.l [10000]),(3,.b [71000]),(4,.b [72000,71000])] ?_;obtain⟨y9,e9,h⟩:=B7 h;refine Ja [] Jy (W6 W V e9) ?_;obtain⟨c21,h⟩:=E2 h;refine H9 c21 ?_;refine O8 W Jy 74 (.psh 73000 10902) (⟨by decide,rfl,rfl⟩:1000<=10902/\x3.n+1=x3.n+1/\x3.n=x3.n) ?_;exact u _ [(7000,7000),(10000,10000),(10500,10500),(10501,73000),(10901,10902),(44000,44000)] _ (x3.push y9) (wrap .i64 (x4+1)) Jy h (hle:=klR [(7,.ob (x3.n+1) (fun q=>if q=x3.n then N4 B2 1 (cI .i64) y9 else N4 B2 1 (cI .i64) (x3.g q)) (fun i=>N4 B2 1 (cI .i64) ((x3.push y9).g i)))] (al1 VN al0))
 obtain⟨cT,h⟩:=E2 h;obtain⟨⟨c30,c31,c32⟩,h⟩:=E2 h;refine O8 W Jy 75 (.take 10501 f.toNat 10801) (⟨⟨by decide,rfl⟩,cT⟩:(1000<=10801/\x3.n=x3.n)/\f.toNat<x3.n) ?_;refine G7 W (And.intro c30 (And.intro cT (rfl:f.toNat=f.toNat))) [(8,.l [10801]),(9,.l [10801]),(12,.l [10801]),(13,.l [10801]),(14,.l [10801]),(15,.a [10801]),(16,.l [10801]),(17,.a [10801])] ?_;have l1:(wrap .i64 (d+1)).toNat<(x3.g f.toNat).n:=by omega
 have l2:d.toNat<(x3.g f.toNat).n:=by omega
 refine H9 (And.intro (And.intro (And.intro (And.intro (And.intro (And.intro (And.intro c32 l1) c31) l2) c31) (And.intro (rfl:(1:Nat)=1) (And.intro l2 Kv))) c32) (And.intro (rfl:(1:Nat)=1) (And.intro l1 Kv))) ?_;refine F6 W Jy 96 ⟨[(9,.reg 10000 0),(6,.reg 7000 0)],[(44000,.vec B6 2 y3.n (fun i=>B0 (y3.g i)) false),(10901,(.rows x3.n fun l=>if l=f.toNat then .dead else N4 B2 1 (cI .i64) (x3.g l))),(10801,N4 B2 1 (cI .i64) (((x3.g f.toNat).upd d.toNat ((x3.g f.toNat).g (wrap .i64 (d+1)).toNat)).upd (wrap .i64 (d+1)).toNat ((x3.g f.toNat).g d.toNat))),(10501,.fam F2 x3.n 10901 (some (f.toNat,.vec 10801))),(10500,.vec D9 18 x1.n (fun i=>A7 (x1.g i)) false),(10000,.cells [.vec 44000,.vec 10500,.vec 10501]),(7000,.cells [.p E3,.p E3,.p E3])]⟩ (ids:=[(7000,7000),(10000,10000),(10500,10500),(10501,10501),(10801,10801),(10901,10901),(44000,44000)]) ?_ (hle:=klR [(3,.fn (x3.g f.toNat).n (((x3.g f.toNat).upd d.toNat ((x3.g f.toNat).g (wrap .i64 (d+1)).toNat)).upd (wrap .i64 (d+1)).toNat ((x3.g f.toNat).g d.toNat)).n (fun l=>if l=(wrap .i64 (d+1)).toNat then splice ((fun l=>if l=d.toNat then splice ((fun i=>cI .i64 ((x3.g f.toNat).g i)) l) 0 [pI .i64 ((x3.g f.toNat).g (wrap .i64 (d+1)).toNat)]else (fun i=>cI .i64 ((x3.g f.toNat).g i)) l) l) 0 [pI .i64 ((x3.g f.toNat).g d.toNat)]else (fun l=>if l=d.toNat then splice ((fun i=>cI .i64 ((x3.g f.toNat).g i)) l) 0 [pI .i64 ((x3.g f.toNat).g (wrap .i64 (d+1)).toNat)]else (fun i=>cI .i64 ((x3.g f.toNat).g i)) l) l) (fun i=>cI .i64 ((((x3.g f.toNat).upd d.toNat ((x3.g f.toNat).g (wrap .i64 (d+1)).toNat)).upd (wrap .i64 (d+1)).toNat ((x3.g f.toNat).g d.toNat)).g i)))] (al1 ⟨rfl,Tq (c:=cI .i64) (v:=(x3.g f.toNat).upd d.toNat ((x3.g f.toNat).g (wrap .i64 (d+1)).toNat)) (x:=(x3.g f.toNat).g d.toNat) (Tq (c:=cI .i64) (v:=x3.g f.toNat) (x:=(x3.g f.toNat).g (wrap .i64 (d+1)).toNat) same (fun _=>by first|rfl|(dsimp only;split<;>rfl))) (fun _=>by first|rfl|(dsimp only;split<;>rfl))⟩ al0));refine O8 W Jy 96 (.put 10501 10902) (⟨⟨by decide,rfl⟩,cT⟩:(1000<=10902/\x3.n=x3.n)/\f.toNat<x3.n) ?_;obtain rfl:=C6 h;exact A9 W Jy ⟨[(7,pN 0),(6,.reg 7000 0)],[(44000,.vec B6 2 y3.n (fun i=>B0 (y3.g i)) false),(10902,.rows (x3.upd f.toNat (((x3.g f.toNat).upd d.toNat ((x3.g f.toNat).g (wrap .i64 (d+1)).toNat)).upd (wrap .i64 (d+1)).toNat ((x3.g f.toNat).g d.toNat))).n fun i=>N4 B2 1 (cI .i64) ((x3.upd f.toNat (((x3.g f.toNat).upd d.toNat ((x3.g f.toNat).g (wrap .i64 (d+1)).toNat)).upd (wrap .i64 (d+1)).toNat ((x3.g f.toNat).g d.toNat))).g i)),(10501,.fam F2 (x3.upd f.toNat (((x3.g f.toNat).upd d.toNat ((x3.g f.toNat).g (wrap .i64 (d+1)).toNat)).upd (wrap .i64 (d+1)).toNat ((x3.g f.toNat).g d.toNat))).n 10902 none),(10500,.vec D9 18 x1.n (fun i=>A7 (x1.g i)) false),(7000,.cells [.vec 44000,.vec 10500,.vec 10501])]⟩ [44000,10500,10501,10902] (ids:=[(7000,7000),(10500,10500),(10501,10501),(10902,10902),(44000,44000)]) ⟨rfl,rfl,rfl⟩ (hle:=klR [(3,.ob x3.n (fun q=>if q=f.toNat then N4 B2 1 (cI .i64) (((x3.g f.toNat).upd d.toNat ((x3.g f.toNat).g (wrap .i64 (d+1)).toNat)).upd (wrap .i64 (d+1)).toNat ((x3.g f.toNat).g d.toNat))else if q=f.toNat then Obj.dead else N4 B2 1 (cI .i64) (x3.g q)) (fun i=>N4 B2 1 (cI .i64) ((x3.upd f.toNat (((x3.g f.toNat).upd d.toNat ((x3.g f.toNat).g (wrap .i64 (d+1)).toNat)).upd (wrap .i64 (d+1)).toNat ((x3.g f.toNat).g d.toNat))).g i)))] (al1 YN al0))
end Go.AM
namespace Go.AM
open Go.Proofs
set_option maxRecDepth 10000
set_option maxHeartbeats 2000000
variable {S:Q8}(W:F5 S Tryz.prog) (V:Ip S)
include W V
def Ap (N:Nat)  : Option Bool:= (DA N ).bind fun y1=>(Cv N ).bind fun y2=>(Ny N ).bind fun y3=>(Cv N ).bind fun y4=>(Cu N y1 3).bind fun y5=>(Ca N y1 (Sl.of [y2,y3,y4]:Sl Nd) 3).bind fun y6=>(AT N y1 (Sl.of [y2,y3,y4]:Sl Nd)).bind fun y7=>(BJ N y1 1).bind fun y8=>(F0 N y1 2 0).bind fun y9=>(Ca N y9.1 (Sl.of [y2,y3,y4]:Sl Nd) 2).bind fun a=>(Cx N y1 y9.1 (Sl.of [(Sl.of [y2,y3,y4]:Sl Nd)]:Sl (Sl Nd))).bind fun b=>lt (fun (z1:Bool)=>some z1) fun k1=>if (y5.2==0) then if (y6.2==0) then if (y7.2==0) then if (y8.2==0) then if (y9.2==0) then if (a.2==0) then if (b.2==0) then (X2 N y5.1 (Sl.of [0,1]:Sl Int)).bind fun c=>if c then (Cv N ).bind fun d=>(Hm N ).bind fun f=>(BC N y6.1 (Sl.of [d,f]:Sl Nd)).bind fun g=>if g then (Cv N ).bind fun i=>(Ny N ).bind fun j=>(Cv N ).bind fun l=>(Hm N ).bind fun m=>(Cv N ).bind fun n=>(Hm N ).bind fun o=>(Cv N ).bind fun q=>(FK N y7.1 (Sl.of [(Sl.of [i,j]:Sl Nd),(Sl.of [l,m]:Sl Nd),(Sl.of [n,o,q]:Sl Nd)]:Sl (Sl Nd))).bind fun r=>if r then (X2 N y8.1 (Sl.of [2,3]:Sl Int)).bind fun s=>if s then (Cv N ).bind fun t=>(Hm N ).bind fun u=>(BC N a.1 (Sl.of [t,u]:Sl Nd)).bind fun v=>if v then k1 (!b.1) else k1 false else k1 false else k1 false else k1 false else k1 false else k1 false else k1 false else k1 false else k1 false else k1 false else k1 false else k1 false
theorem JY {N:Nat}    {y:Bool}(h:Ap N  = some y) :FunO S Jh [] [] (pB y) ([]) []:=by
 unfold Ap at h;refine A4 W Tryz.func13 ?_;refine kC W h (NA W V) (fun y1 h=>?_);refine kC W h (Ey W V) (fun y2 h=>?_);refine kC W h (VM W V) (fun y3 h=>?_);refine kC W h (Ey W V) (fun y4 h=>?_);obtain⟨y5,e5,h⟩:=B7 h;refine B9 W [] L7 (KT W V e5) ?_;refine BR W Jy ⟨[(29,.vec 22000),(28,.p (.agg (A2 y1))),(4,pN y5.2),(3,.vec 25000),(2,.vec 22000),(1,.reg 2000 0)],[(25000,.vec B2 1 y5.1.n (fun i=>cI .i64 (y5.1.g i)) true),(22000,.vec B5 2 (Sl.of [y2,y3,y4]:Sl Nd).n (fun i=>A0 ((Sl.of [y2,y3,y4]:Sl Nd).g i)) false),(2000,.cells ((A2 y1).map .p))]⟩ (ids:=[(2000,2000),(22000,22000),(25000,25000)]) ?_ (hle:=klR [(3,.fn 3 (Sl.of [y2,y3,y4]:Sl Nd).n (E5 [pI .u32 0,pI .u32 0] [(0,A0 y2),(1,A0 y3),(2,A0 y4)]) (fun i=>A0 ((Sl.of [y2,y3,y4]:Sl Nd).g i)))] (al1 ⟨rfl,(fun i a=>match i,a with|0,_=>rfl|1,_=>rfl|2,_=>rfl|_+3,a=>Jo a (by omega))⟩ al0));refine kC W h (HR W V) (fun y6 h=>?_);refine kC W h (Ie W V) (fun y7 h=>?_);refine kC W h (JV W V) (fun y8 h=>?_);refine kC W h (KW W V) (fun y9 h=>?_);refine kC W h (HR W V) (fun q h=>?_);refine BR W L7 ⟨[(59,.vec 60000),(57,.p (.agg (A2 y9.1))),(56,.p (.agg (A2 y1))),(14,pN q.2),(13,.p (vSl 2 A0 q.1)),(12,pN y9.2),(10,pN y8.2),(9,.vec 42000),(8,pN y7.2),(7,.vec 37000),(6,pN y6.2),(5,.p (vSl 2 A0 y6.1)),(4,pN y5.2),(3,.vec 25000)],[(60000,.vec B4 1 (Sl.of [(Sl.of [y2,y3,y4]:Sl Nd)]:Sl (Sl Nd)).n (fun i=>cL 2 A0 ((Sl.of [(Sl.of [y2,y3,y4]:Sl Nd)]:Sl (Sl Nd)).g i)) false),(42000,.vec B2 1 y8.1.n (fun i=>cI .i64 (y8.1.g i)) true),(37000,.vec B4 1 y7.1.n (fun i=>cL 2 A0 (y7.1.g i)) true),(25000,.vec B2 1 y5.1.n (fun i=>cI .i64 (y5.1.g i)) true)]⟩ (ids:=[(25000,25000),(37000,37000),(42000,42000),(60000,60000)]) ?_ (hle:=klR [(10,.fn 1 (Sl.of [(Sl.of [y2,y3,y4]:Sl Nd)]:Sl (Sl Nd)).n (E5 [E3] [(0,cL 2 A0 (Sl.of [y2,y3,y4]:Sl Nd))]) (fun i=>cL 2 A0 ((Sl.of [(Sl.of [y2,y3,y4]:Sl Nd)]:Sl (Sl Nd)).g i)))] (al1 ⟨rfl,(fun i a=>match i,a with|0,_=>rfl|_+1,a=>Jo a (by omega))⟩ al0));refine kC W h (KU W V) (fun r h=>?_);refine Hd W Jy (A6 W) h 0 (fun z1=>⟨[(0,pB z1)],[]⟩) (fun M1 k1 b h=>?_) (fun z1 h=>?_)
 .refine kG W h (fun h=>?_) (fun h=>?_)
  .refine kG W h (fun h=>?_) (fun h=>?_)
   .refine kG W h (fun h=>?_) (fun h=>?_)
    .refine kG W h (fun h=>?_) (fun h=>?_)
     .refine kG W h (fun h=>?_) (fun h=>?_)
      .refine kG W h (fun h=>?_) (fun h=>?_)
       .refine kG W h (fun h=>?_) (fun h=>?_)
        .refine BR W L7 ⟨[(91,.vec 92000),(90,.vec 25000),(89,.p (.v (.bool true))),(15,pB r.1),(13,.p (vSl 2 A0 q.1)),(9,.vec 42000),(7,.vec 37000),(5,.p (vSl 2 A0 y6.1))],[(92000,.vec B2 1 (Sl.of [0,1]:Sl Int).n (fun i=>cI .i64 ((Sl.of [0,1]:Sl Int).g i)) false),(42000,.vec B2 1 y8.1.n (fun i=>cI .i64 (y8.1.g i)) true),(37000,.vec B4 1 y7.1.n (fun i=>cL 2 A0 (y7.1.g i)) true),(25000,.vec B2 1 y5.1.n (fun i=>cI .i64 (y5.1.g i)) true)]⟩ (ids:=[(25000,25000),(37000,37000),(42000,42000),(92000,92000)]) ?_ (hle:=klR [(4,.fn 2 (Sl.of [0,1]:Sl Int).n (E5 [pI .i64 0] [(0,cI .i64 0),(1,cI .i64 1)]) (fun i=>cI .i64 ((Sl.of [0,1]:Sl Int).g i)))] (al1 ⟨rfl,(fun i a=>match i,a with|0,_=>rfl|1,_=>rfl|_+2,a=>Jo a (by omega))⟩ al0));refine kC W h (FJ W V) (fun x h=>?_);refine kG W h (fun h=>?_) (fun h=>?_)
         .refine kC W h (Ey W V) (fun s h=>?_);refine kC W h (Nz W V) (fun t h=>?_);refine BR W L7 ⟨[(98,.vec 99000),(95,.p (vSl 2 A0 y6.1)),(94,.p (.v (.bool true))),(15,pB r.1),(13,.p (vSl 2 A0 q.1)),(9,.vec 42000),(7,.vec 37000)],[(99000,.vec B5 2 (Sl.of [s,t]:Sl Nd).n (fun i=>A0 ((Sl.of [s,t]:Sl Nd).g i)) false),(42000,.vec B2 1 y8.1.n (fun i=>cI .i64 (y8.1.g i)) true),(37000,.vec B4 1 y7.1.n (fun i=>cL 2 A0 (y7.1.g i)) true)]⟩ (ids:=[(37000,37000),(42000,42000),(99000,99000)]) ?_ (hle:=klR [(4,.fn 2 (Sl.of [s,t]:Sl Nd).n (E5 [pI .u32 0,pI .u32 0] [(0,A0 s),(1,A0 t)]) (fun i=>A0 ((Sl.of [s,t]:Sl Nd).g i)))] (al1 ⟨rfl,(fun i a=>match i,a with|0,_=>rfl|1,_=>rfl|_+2,a=>Jo a (by omega))⟩ al0));refine kC W h (FC W V) (fun z h=>?_);refine kG W h (fun h=>?_) (fun h=>?_)
          .refine kC W h (Ey W V) (fun c h=>?_);refine kC W h (VM W V) (fun d h=>?_);obtain⟨f,e34,h⟩:=B7 h;refine B9 W [] L7 (Ey W V e34) ?_;refine kC W h (Nz W V) (fun j h=>?_);obtain⟨l,e36,h⟩:=B7 h;refine B9 W [] L7 (Ey W V e36) ?_;refine kC W h (Nz W V) (fun m h=>?_);refine kC W h (Ey W V) (fun o h=>?_);refine F6 W L7 113 ⟨[(112,.vec 113000),(108,.vec 109000),(105,.vec 106000),(102,.vec 37000),(101,.p (.v (.bool true))),(15,pB r.1),(13,.p (vSl 2 A0 q.1)),(9,.vec 42000)],[(113000,.vec B5 2 (Sl.of [l,m,o]:Sl Nd).n (fun i=>A0 ((Sl.of [l,m,o]:Sl Nd).g i)) true),(109000,.vec B5 2 (Sl.of [f,j]:Sl Nd).n (fun i=>A0 ((Sl.of [f,j]:Sl Nd).g i)) true),(106000,.vec B5 2 (Sl.of [c,d]:Sl Nd).n (fun i=>A0 ((Sl.of [c,d]:Sl Nd).g i)) true),(42000,.vec B2 1 y8.1.n (fun i=>cI .i64 (y8.1.g i)) true),(37000,.vec B4 1 y7.1.n (fun i=>cL 2 A0 (y7.1.g i)) true)]⟩ (ids:=[(37000,37000),(42000,42000),(106000,106000),(109000,109000),(113000,113000)]) ?_ (hle:=klR [(3,.fn 3 (Sl.of [l,m,o]:Sl Nd).n (E5 [pI .u32 0,pI .u32 0] [(0,A0 l),(1,A0 m),(2,A0 o)]) (fun i=>A0 ((Sl.of [l,m,o]:Sl Nd).g i))),(4,.fn 2 (Sl.of [f,j]:Sl Nd).n (E5 [pI .u32 0,pI .u32 0] [(0,A0 f),(1,A0 j)]) (fun i=>A0 ((Sl.of [f,j]:Sl Nd).g i))),(5,.fn 2 (Sl.of [c,d]:Sl Nd).n (E5 [pI .u32 0,pI .u32 0] [(0,A0 c),(1,A0 d)]) (fun i=>A0 ((Sl.of [c,d]:Sl Nd).g i)))] (al1 ⟨rfl,(fun i a=>match i,a with|0,_=>rfl|1,_=>rfl|2,_=>rfl|_+3,a=>Jo a (by omega))⟩ (al1 ⟨rfl,(fun i a=>match i,a with|0,_=>rfl|1,_=>rfl|_+2,a=>Jo a (by omega))⟩ (al1 ⟨rfl,(fun i a=>match i,a with|0,_=>rfl|1,_=>rfl|_+2,a=>Jo a (by omega))⟩ al0))));refine BR W L7 ⟨[(113,.vec 114000),(102,.vec 37000),(101,.p (.v (.bool true))),(15,pB r.1),(13,.p (vSl 2 A0 q.1)),(9,.vec 42000)],[(114000,.vec B4 1 (Sl.of [(Sl.of [c,d]:Sl Nd),(Sl.of [f,j]:Sl Nd),(Sl.of [l,m,o]:Sl Nd)]:Sl (Sl Nd)).n (fun i=>cL 2 A0 ((Sl.of [(Sl.of [c,d]:Sl Nd),(Sl.of [f,j]:Sl Nd),(Sl.of [l,m,o]:Sl Nd)]:Sl (Sl Nd)).g i)) false),(42000,.vec B2 1 y8.1.n (fun i=>cI .i64 (y8.1.g i)) true),(37000,.vec B4 1 y7.1.n (fun i=>cL 2 A0 (y7.1.g i)) true)]⟩ (ids:=[(37000,37000),(42000,42000),(114000,114000)]) ?_ (hle:=klR [(3,.fn 3 (Sl.of [(Sl.of [c,d]:Sl Nd),(Sl.of [f,j]:Sl Nd),(Sl.of [l,m,o]:Sl Nd)]:Sl (Sl Nd)).n (E5 [E3] [(0,cL 2 A0 (Sl.of [c,d]:Sl Nd)),(1,cL 2 A0 (Sl.of [f,j]:Sl Nd)),(2,cL 2 A0 (Sl.of [l,m,o]:Sl Nd))]) (fun i=>cL 2 A0 ((Sl.of [(Sl.of [c,d]:Sl Nd),(Sl.of [f,j]:Sl Nd),(Sl.of [l,m,o]:Sl Nd)]:Sl (Sl Nd)).g i)))] (al1 ⟨rfl,(fun i a=>match i,a with|0,_=>rfl|1,_=>rfl|2,_=>rfl|_+3,a=>Jo a (by omega))⟩ al0));refine kC W h (Ri W V) (fun a0 h=>?_);refine kG W h (fun h=>?_) (fun h=>?_)
           .refine BR W L7 ⟨[(118,.vec 119000),(117,.vec 42000),(116,.p (.v (.bool true))),(15,pB r.1),(13,.p (vSl 2 A0 q.1))],[(119000,.vec B2 1 (Sl.of [2,3]:Sl Int).n (fun i=>cI .i64 ((Sl.of [2,3]:Sl Int).g i)) false),(42000,.vec B2 1 y8.1.n (fun i=>cI .i64 (y8.1.g i)) true)]⟩ (ids:=[(42000,42000),(119000,119000)]) ?_ (hle:=klR [(3,.fn 2 (Sl.of [2,3]:Sl Int).n (E5 [pI .i64 0] [(0,cI .i64 2),(1,cI .i64 3)]) (fun i=>cI .i64 ((Sl.of [2,3]:Sl Int).g i)))] (al1 ⟨rfl,(fun i a=>match i,a with|0,_=>rfl|1,_=>rfl|_+2,a=>Jo a (by omega))⟩ al0));refine kC W h (FJ W V) (fun a1 h=>?_);refine kG W h (fun h=>?_) (fun h=>?_)
            .refine kC W h (Ey W V) (fun u h=>?_);refine kC W h (Nz W V) (fun w h=>?_);refine BR W L7 ⟨[(125,.vec 126000),(122,.p (vSl 2 A0 q.1)),(121,.p (.v (.bool true))),(15,pB r.1)],[(126000,.vec B5 2 (Sl.of [u,w]:Sl Nd).n (fun i=>A0 ((Sl.of [u,w]:Sl Nd).g i)) false)]⟩ (ids:=[(126000,126000)]) ?_ (hle:=klR [(3,.fn 2 (Sl.of [u,w]:Sl Nd).n (E5 [pI .u32 0,pI .u32 0] [(0,A0 u),(1,A0 w)]) (fun i=>A0 ((Sl.of [u,w]:Sl Nd).g i)))] (al1 ⟨rfl,(fun i a=>match i,a with|0,_=>rfl|1,_=>rfl|_+2,a=>Jo a (by omega))⟩ al0));refine kC W h (FC W V) (fun a2 h=>?_);refine kG W h (fun h=>?_) (fun h=>?_)
             .exact b _ [] _ (!r.1) Jy h
             exact b _ [] _ false Jy h
            exact b _ [] _ false Jy h
           exact b _ [] _ false Jy h
          exact b _ [] _ false Jy h
         exact b _ [] _ false Jy h
        exact b _ [] _ false Jy h
       exact b _ [] _ false Jy h
      exact b _ [] _ false Jy h
     exact b _ [] _ false Jy h
    exact b _ [] _ false Jy h
   exact b _ [] _ false Jy h
  exact b _ [] _ false Jy h
 cases h;exact kR W
end Go.AM
namespace Go.AM
open Go.Proofs
set_option maxRecDepth 10000
set_option maxHeartbeats 2000000
variable {S:Q8}(W:F5 S Tryz.prog) (V:Ip S)
include W V
end Go.AM
namespace Go.AM
open Go.Proofs
set_option maxRecDepth 10000
set_option maxHeartbeats 2000000
variable {S:Q8}(W:F5 S Tryz.prog) (V:Ip S)
include W V
end Go.AM
namespace Go.AM
open IntKind (wrap)
open Go.Proofs
set_option maxRecDepth 10000
set_option maxHeartbeats 2000000
variable {S:Q8}(W:F5 S Tryz.prog) (V:Ip S)
include W V
def Q2 (N:Nat)(b:A5)(l:Int)(a:Int):Option Bool:= (BI N b).bind fun y1=>if (!y1) then (Ap N).bind fun y2=>some y2 else (Y0 N b).bind fun y3=>(Y1 N b l a).bind fun y4=>R4 N (fun c (x1:Int)=>if (decide (x1<2)) then (F0 N y3 l a).bind fun y5=>lt (fun (z1:Bool)=>if z1 then some false else BQ N (fun d (x2:Int) (X:Sl G2)=>if (decide (x2<(X.n:Int))) then if (((0:Int)<=x2/\x2<(X.n:Int))/\x2.toNat<X.n)then d (wrap .i64 (x2+1)) (X.upd x2.toNat (⟨7777,(X.g x2.toNat).Name⟩:G2)) else none else BQ N (fun f (x3:Int) (Y:Sl Law)=>if (decide (x3<(Y.n:Int))) then if (((0:Int)<=x3/\x3<(Y.n:Int))/\x3.toNat<Y.n)then f (wrap .i64 (x3+1)) (Y.upd x3.toNat ({ (Y.g x3.toNat)with Name:=[63] }:Law)) else none else BQ N (fun i (x4:Int) (Z:Sl (Sl Int))=>if (decide (x4<(Z.n:Int))) then if (((0:Int)<=x4/\x4<(Z.n:Int))/\x4.toNat<Z.n)then BQ N (fun j (x5:Int) (U:Sl Int)=>if (decide (x5<(U.n:Int))) then if (((0:Int)<=x5/\x5<(U.n:Int))/\x5.toNat<U.n)then j (wrap .i64 (x5+1)) (U.upd x5.toNat (-7)) else none else i (wrap .i64 (x4+1)) (Z.upd x4.toNat U)) 0 (Z.g x4.toNat) else none else c (wrap .i64 (x1+1))) 0 y5.1.On) 0 y5.1.Laws) 0 y5.1.Tree) fun k1=>if (y5.2 != y4.2) then k1 true else (P4 N y5.1 y4.1).bind fun y6=>if (!y6) then k1 true else (P4 N y3 b).bind fun y7=>k1 (!y7) else (P4 N y3 b).bind fun y8=>lt (fun (z9:Bool)=>some z9) fun k9=>if y8 then (Ap N).bind fun m=>k9 m else k9 false) 0
theorem FT {N:Nat}{d:A5}{f:Int}{a:Int}{y:Bool}(h:Q2 N d f a=some y) :FunO S Y3 [.p (.agg (A2 d)),pN f,pN a] [] (pB y) ([]) []:=by
 unfold Q2 at h;refine A4 W Tryz.func5 ?_;refine kC W h (Rj W V) (fun y1 h=>?_);apply kI W h<;>intro h
 .refine kC W h (JY W V) (fun y2 h=>?_);cases h;exact kR W
 refine kC W h (Ua W V) (fun y3 h=>?_);refine kC W h (Ub W V) (fun y4 h=>?_);refine I0 W Jy h (fun x1=>⟨[(29,pN x1),(9,pN y4.2),(8,.reg 9000 0),(7,.reg 8000 0),(3,.reg 4000 0),(2,pN a),(1,pN f)],[(9000,.cells ((A2 y4.1).map .p)),(8000,.cells ((A2 y3).map .p)),(4000,.cells ((A2 d).map .p))]⟩) (ids:=[(4000,4000),(8000,8000),(9000,9000)]) (fun _ _ _ _ _ o x1 r h=>?_);apply kI W h<;>intro h
 .refine kC W h (JX W V) (fun y5 h=>?_);refine Hd W Jy (A6 W) h 0 (fun z1=>⟨[(52,pB z1),(29,pN x1),(10,.reg 11000 0),(9,pN y4.2),(8,.reg 9000 0),(7,.reg 8000 0),(3,.reg 4000 0),(2,pN a),(1,pN f)],[(36003,.rows y5.1.On.n fun i=>N4 B2 1 (cI .i64) (y5.1.On.g i)),(36002,.fam F2 y5.1.On.n 36003 none),(36001,.vec D9 18 y5.1.Laws.n (fun i=>A7 (y5.1.Laws.g i)) false),(36000,.vec B6 2 y5.1.Tree.n (fun i=>B0 (y5.1.Tree.g i)) false),(11000,.cells [.vec 36000,.vec 36001,.vec 36002]),(9000,.cells ((A2 y4.1).map .p)),(8000,.cells ((A2 y3).map .p)),(4000,.cells ((A2 d).map .p))]⟩) (fun M1 k1 j h=>?_) (fun z1 h=>?_)
  .refine kG W h (fun h=>?_) (fun h=>?_)
   .exact j _ [(4000,4000),(8000,8000),(9000,9000),(11000,11000),(36000,36000),(36001,36001),(36002,36002),(36003,36003)] _ true Jy h
   obtain⟨y6,e6,h⟩:=B7 h;refine Ag5 W Jy (show y5.1.On.n=y5.1.On.n/\∀i,i<y5.1.On.n->(Iz (N4 B2 1 (cI .i64) (y5.1.On.g i))).isSome=true from⟨rfl,fun _ _=>rfl⟩) (Hn W V e6) ?_;refine kG W h (fun h=>?_) (fun h=>?_)
   .exact j _ [(4000,4000),(8000,8000),(9000,9000),(11000,11000),(36000,36000),(36001,36001),(36002,36002),(36003,36003)] _ true Jy h
   refine kC W h (Hn W V) (fun y7 h=>?_);exact j _ [(4000,4000),(8000,8000),(9000,9000),(11000,11000),(36000,36000),(36001,36001),(36002,36002),(36003,36003)] _ (!y7) Jy h
  apply kI W h<;>intro h
  .cases h;exact kR W
  refine H4 W Jy h (fun x2 X=>⟨[(29,pN x1),(12,pN x2),(10,.reg 11000 0),(9,pN y4.2),(8,.reg 9000 0),(7,.reg 8000 0),(3,.reg 4000 0),(2,pN a),(1,pN f)],[(36003,.rows y5.1.On.n fun i=>N4 B2 1 (cI .i64) (y5.1.On.g i)),(36002,.fam F2 y5.1.On.n 36003 none),(36001,.vec D9 18 y5.1.Laws.n (fun i=>A7 (y5.1.Laws.g i)) false),(36000,.vec B6 2 X.n (fun i=>B0 (X.g i)) false),(11000,.cells [.vec 36000,.vec 36001,.vec 36002]),(9000,.cells ((A2 y4.1).map .p)),(8000,.cells ((A2 y3).map .p)),(4000,.cells ((A2 d).map .p))]⟩) (ids:=[(4000,4000),(8000,8000),(9000,9000),(11000,11000),(36000,36000),(36001,36001),(36002,36002),(36003,36003)]) (fun _ _ _ _ _ s x2 X t h=>?_);apply kI W h<;>intro h
  .obtain⟨⟨c1,c2⟩,h⟩:=E2 h;exact t _ [(4000,4000),(8000,8000),(9000,9000),(11000,11000),(36000,36000),(36001,36001),(36002,36002),(36003,36003)] _ (wrap .i64 (x2+1)) (X.upd x2.toNat (⟨7777,(X.g x2.toNat).Name⟩:G2)) (And.intro c1 (And.intro (rfl:(1:Nat)=1) (And.intro c2 (by decide:(1:Nat)<=2)))) h (hle:=klR [(9,.fn X.n (X.upd x2.toNat (⟨7777,(X.g x2.toNat).Name⟩:G2)).n (fun l=>if l=x2.toNat then splice ((fun i=>B0 (X.g i)) l) 0 [pI .i64 7777]else (fun i=>B0 (X.g i)) l) (fun i=>B0 ((X.upd x2.toNat (⟨7777,(X.g x2.toNat).Name⟩:G2)).g i)))] (al1 ⟨rfl,Tq (c:=B0) (v:=X) (x:=(⟨7777,(X.g x2.toNat).Name⟩:G2)) same (fun _=>by first|rfl|(dsimp only;split<;>rfl))⟩ al0))
  refine H4 W Jy h (fun x3 Y=>⟨[(29,pN x1),(13,pN x3),(10,.reg 11000 0),(9,pN y4.2),(8,.reg 9000 0),(7,.reg 8000 0),(3,.reg 4000 0),(2,pN a),(1,pN f)],[(36003,.rows y5.1.On.n fun i=>N4 B2 1 (cI .i64) (y5.1.On.g i)),(36002,.fam F2 y5.1.On.n 36003 none),(36001,.vec D9 18 Y.n (fun i=>A7 (Y.g i)) false),(36000,.vec B6 2 X.n (fun i=>B0 (X.g i)) false),(11000,.cells [.vec 36000,.vec 36001,.vec 36002]),(9000,.cells ((A2 y4.1).map .p)),(8000,.cells ((A2 y3).map .p)),(4000,.cells ((A2 d).map .p))]⟩) (ids:=[(4000,4000),(8000,8000),(9000,9000),(11000,11000),(36000,36000),(36001,36001),(36002,36002),(36003,36003)]) (fun _ _ _ _ _ u x3 Y w h=>?_);apply kI W h<;>intro h
  .obtain⟨⟨c1,c2⟩,h⟩:=E2 h;exact w _ [(4000,4000),(8000,8000),(9000,9000),(11000,11000),(36000,36000),(36001,36001),(36002,36002),(36003,36003)] _ (wrap .i64 (x3+1)) (Y.upd x3.toNat ({ (Y.g x3.toNat)with Name:=[63] }:Law)) (And.intro c1 (And.intro (rfl:(1:Nat)=1) (And.intro c2 (by decide:(1:Nat)<=18)))) h (hle:=klR [(8,.fn Y.n (Y.upd x3.toNat ({ (Y.g x3.toNat)with Name:=[63] }:Law)).n (fun l=>if l=x3.toNat then splice ((fun i=>A7 (Y.g i)) l) 0 [.str [63]]else (fun i=>A7 (Y.g i)) l) (fun i=>A7 ((Y.upd x3.toNat ({ (Y.g x3.toNat)with Name:=[63] }:Law)).g i)))] (al1 ⟨rfl,Tq (c:=A7) (v:=Y) (x:=({ (Y.g x3.toNat)with Name:=[63] }:Law)) same (fun _=>by first|rfl|(dsimp only;split<;>rfl))⟩ al0))
  refine H4 W Jy h (fun x4 Z=>⟨[(29,pN x1),(14,pN x4),(10,.reg 11000 0),(9,pN y4.2),(8,.reg 9000 0),(7,.reg 8000 0),(3,.reg 4000 0),(2,pN a),(1,pN f)],[(36003,.rows Z.n fun i=>N4 B2 1 (cI .i64) (Z.g i)),(36002,.fam F2 Z.n 36003 none),(36001,.vec D9 18 Y.n (fun i=>A7 (Y.g i)) false),(36000,.vec B6 2 X.n (fun i=>B0 (X.g i)) false),(11000,.cells [.vec 36000,.vec 36001,.vec 36002]),(9000,.cells ((A2 y4.1).map .p)),(8000,.cells ((A2 y3).map .p)),(4000,.cells ((A2 d).map .p))]⟩) (ids:=[(4000,4000),(8000,8000),(9000,9000),(11000,11000),(36000,36000),(36001,36001),(36002,36002),(36003,36003)]) (fun _ _ _ _ _ z x4 Z a0 h=>?_);apply kI W h<;>intro h
  .obtain⟨⟨c4,cT⟩,h⟩:=E2 h;refine O8 W Jy 15 (.take 36002 x4.toNat 36801) (⟨⟨by decide,rfl⟩,cT⟩:(1000<=36801/\Z.n=Z.n)/\x4.toNat<Z.n) ?_;refine H4 W Jy h (fun x5 U=>⟨[(29,pN x1),(15,pN x5),(14,pN x4),(10,.reg 11000 0),(9,pN y4.2),(8,.reg 9000 0),(7,.reg 8000 0),(3,.reg 4000 0),(2,pN a),(1,pN f)],[(36801,N4 B2 1 (cI .i64) U),(36003,(.rows Z.n fun l=>if l=x4.toNat then .dead else N4 B2 1 (cI .i64) (Z.g l))),(36002,.fam F2 Z.n 36003 (some (x4.toNat,.vec 36801))),(36001,.vec D9 18 Y.n (fun i=>A7 (Y.g i)) false),(36000,.vec B6 2 X.n (fun i=>B0 (X.g i)) false),(11000,.cells [.vec 36000,.vec 36001,.vec 36002]),(9000,.cells ((A2 y4.1).map .p)),(8000,.cells ((A2 y3).map .p)),(4000,.cells ((A2 d).map .p))]⟩) (ids:=[(4000,4000),(8000,8000),(9000,9000),(11000,11000),(36000,36000),(36001,36001),(36002,36002),(36003,36003),(36801,36801)]) (fun _ _ _ _ _ a1 x5 U a2 h=>?_);refine E1 W (And.intro c4 (And.intro cT (rfl:x4.toNat=x4.toNat))) (b:=decide (x5<(U.n:Int))) (fun c9=>?_) (fun c9=>?_)
   .replace h:=itT c9 h;obtain⟨⟨c5,c6⟩,h⟩:=E2 h;exact a2 _ [(4000,4000),(8000,8000),(9000,9000),(11000,11000),(36000,36000),(36001,36001),(36002,36002),(36003,36003),(36801,36801)] _ (wrap .i64 (x5+1)) (U.upd x5.toNat (-7)) (And.intro (And.intro (And.intro c4 (And.intro cT (rfl:x4.toNat=x4.toNat))) c5) (And.intro (rfl:(1:Nat)=1) (And.intro c6 Kv))) h (hle:=klR [(6,.fn U.n (U.upd x5.toNat (-7)).n (fun l=>if l=x5.toNat then splice ((fun i=>cI .i64 (U.g i)) l) 0 [pI .i64 (-7)]else (fun i=>cI .i64 (U.g i)) l) (fun i=>cI .i64 ((U.upd x5.toNat (-7)).g i)))] (al1 ⟨rfl,Tq (c:=cI .i64) (v:=U) (x:=-7) same (fun _=>by first|rfl|(dsimp only;split<;>rfl))⟩ al0))
   replace h:=itF c9 h;refine O8 W Jy 82 (.put 36002 36803) (⟨⟨by decide,rfl⟩,cT⟩:(1000<=36803/\Z.n=Z.n)/\x4.toNat<Z.n) ?_;exact a0 _ [(4000,4000),(8000,8000),(9000,9000),(11000,11000),(36000,36000),(36001,36001),(36002,36002),(36003,36803)] _ (wrap .i64 (x4+1)) (Z.upd x4.toNat U) Jy h (hle:=klR [(6,.ob Z.n (fun q=>if q=x4.toNat then N4 B2 1 (cI .i64) U else if q=x4.toNat then Obj.dead else N4 B2 1 (cI .i64) (Z.g q)) (fun i=>N4 B2 1 (cI .i64) ((Z.upd x4.toNat U).g i)))] (al1 YN al0))
  exact r _ [(4000,4000),(8000,8000),(9000,9000)] _ (wrap .i64 (x1+1)) Jy h
 refine kC W h (Hn W V) (fun y8 h=>?_);refine Hd W Jy (A6 W) h 0 (fun z9=>⟨[(6,pB z9)],[]⟩) (fun M9 k9 m h=>?_) (fun z9 h=>?_)
 .refine kG W h (fun h=>?_) (fun h=>?_)
  .refine kC W h (JY W V) (fun a3 h=>?_);exact m _ [] _ a3 Jy h
  exact m _ [] _ false Jy h
 cases h;exact kR W
end Go.AM
namespace Go.AM
open Go.Proofs
set_option maxRecDepth 10000
set_option maxHeartbeats 2000000
variable {S:Q8}(W:F5 S Tryz.prog) (V:Ip S)
include W V
end Go.AM
namespace Go.AM
set_option maxRecDepth 1000000
def SK:Ap 4194304=some true:=by decide +kernel
end Go.AM
namespace Go.AM
open IntKind (wrap)
open Go.Proofs
def XW {A R:Type}{body:(A->Option R)->A->Option R}(I:Nat->A->Prop)(n:Nat)(I4:R->Prop)
 (b:∀self i a,i<=n->I i a->(i<n->∀a',I (i+1) a' -> ∃r,self a' = some r/\I4 r)->∃r,body self a=some r/\I4 r) :
 ∀(N i:Nat) (a:A),i<=n->I i a->n-i<N->∃r,R4 N body a=some r/\I4 r
 |0,_,_,_,_,h=>by omega
 |N+1,i,a,hi,hI,h=>by rw[OD];exact b _ i a hi hI fun c a' d=>XW I n I4 b N (i+1) a' c d (by omega)
def Aq {A R:Type}{body:(A->Option R)->A->Option R}(I:Nat->A->Prop)(n:Nat)(I4:R->Prop){N:Nat}(c:n<N){a:A}(d:I 0 a)
 (b:∀self i a,i<=n->I i a->(i<n->∀a',I (i+1) a' -> ∃r,self a' = some r/\I4 r)->∃r,body self a=some r/\I4 r):∃r,R4 N body a=some r/\I4 r:=
 XW I n I4 b N 0 a (Nat.zero_le _) d c
def Ez {A B R:Type}{body:(A->B->Option R)->A->B->Option R}(I:Nat->A->B->Prop)(n:Nat)(I4:R->Prop){N:Nat}(g:n<N){a:A}{b:B}(j:I 0 a b)
 (d:∀c i a b,i<=n->I i a b->(i<n->∀a' b',I (i+1) a' b' -> ∃r,c a' b' = some r/\I4 r)->∃r,body c a b=some r/\I4 r):∃r,BQ N body a b=some r/\I4 r:=
 XW (fun i x=>I i x.1 x.2) n I4 (fun c i x l m h=>d (fun a b=>c (a,b)) i x.1 x.2 l m fun hl a' b' f=>h hl (a',b') f) N 0 (a,b) (Nat.zero_le _) j g
def loop3 {A B C R:Type}{body:(A->B->C->Option R)->A->B->C->Option R}(I:Nat->A->B->C->Prop)(n:Nat)(I4:R->Prop){N:Nat}(j:n<N){a:A}{b:B}{c:C}(l:I 0 a b c)
 (f:∀d i a b c,i<=n->I i a b c->(i<n->∀a' b' c',I (i+1) a' b' c' -> ∃r,d a' b' c' = some r/\I4 r)->∃r,body d a b c=some r/\I4 r):∃r,Ai7 N body a b c=some r/\I4 r:=
 XW (fun i x=>I i x.1 x.2.1 x.2.2) n I4 (fun d i x m o h=>f (fun a b c=>d (a,b,c)) i x.1 x.2.1 x.2.2 m o fun hl a' b' c' g=>h hl (a',b',c') g) N 0 (a,b,c) (Nat.zero_le _) l j
def H0 {X R:Type}{Q:R->Prop}{o:Option X}{f:X->Option R}{x:X}(h:o=some x)(a:∃r,f x=some r/\Q r):∃r,o.bind f=some r/\Q r:=by subst h;exact a
def ltX {R A:Type}{Q:R->Prop}{k:A->Option R}{f:(A->Option R)->Option R}(h:∃r,f k=some r/\Q r):∃r,lt k f=some r/\Q r:=h
def ifT {R:Type}{Q:R->Prop}{p:Prop}[Decidable p]{a b:Option R}(h:p)(c:∃r,a=some r/\Q r):∃r,(if p then a else b)=some r/\Q r:=by rw[Jl h];exact c
def Ci{R:Type}{Q:R->Prop}{p:Prop}[Decidable p]{a b:Option R}(h2:∃ r,a=some r/\Q r)(h:p:=by decide):∃ r,(if p then a else b)=some r/\Q r:=ifT h h2
def Ch{R:Type}{Q:R->Prop}{p:Prop}[Decidable p]{a b:Option R}(h2:∃ r,a=some r/\Q r)(h:p:=by simp):∃ r,(if p then a else b)=some r/\Q r:=ifT h h2
def Bz{R:Type}{Q:R->Prop}{p:Prop}[Decidable p]{a b:Option R}(h2:∃ r,a=some r/\Q r)(h:p:=by simp;omega):∃ r,(if p then a else b)=some r/\Q r:=ifT h h2
def Bc{R:Type}{Q:R->Prop}{p:Prop}[Decidable p]{a b:Option R}(h2:∃ r,a=some r/\Q r)(h:p:=by omega):∃ r,(if p then a else b)=some r/\Q r:=ifT h h2
def ifF {R:Type}{Q:R->Prop}{p:Prop}[Decidable p]{a b:Option R}(h:¬p)(c:∃r,b=some r/\Q r):∃r,(if p then a else b)=some r/\Q r:=by rw[Jm h];exact c
def Hh{R:Type}{Q:R->Prop}{p:Prop}[Decidable p]{a b:Option R}(h2:∃ r,b=some r/\Q r)(h:¬p:=by decide):∃ r,(if p then a else b)=some r/\Q r:=ifF h h2
def Hg{R:Type}{Q:R->Prop}{p:Prop}[Decidable p]{a b:Option R}(h2:∃ r,b=some r/\Q r)(h:¬p:=by simp):∃ r,(if p then a else b)=some r/\Q r:=ifF h h2
def Em{R:Type}{Q:R->Prop}{p:Prop}[Decidable p]{a b:Option R}(h2:∃ r,b=some r/\Q r)(h:¬p:=by simp;omega):∃ r,(if p then a else b)=some r/\Q r:=ifF h h2
def Ek{R:Type}{Q:R->Prop}{p:Prop}[Decidable p]{a b:Option R}(h2:∃ r,b=some r/\Q r)(h:¬p:=by omega):∃ r,(if p then a else b)=some r/\Q r:=ifF h h2
def W8 {n:Int}(h : -9223372036854775808<=n)(h' : n<=9223372036854775807):IntKind.i64.wrap n=n:=by
 by_cases a:0<=n
 .have h1:n % (2 ^ 64:Int)=n:=Int.emod_eq_of_lt a (by omega);unfold wrap;simp only[IntKind.bits,IntKind.signed,h1];rw[Jm];simp;omega
 have h1:n % (2 ^ 64:Int)=n+2 ^ 64:=by rw[<- Int.add_emod_right];exact Int.emod_eq_of_lt (by omega) (by omega)
 unfold wrap;simp only[IntKind.bits,IntKind.signed,h1];rw[Jl]
 .omega
 simp;omega
def J7 {i:Nat}(h:i<1000000000000000000):IntKind.i64.wrap ((i:Int)+1)=((i+1:Nat):Int):=by rw[W8 (by omega) (by omega)];rfl
def Ia{i:Nat}(h:i<1000000000000000000:=by omega):IntKind.i64.wrap ((i:Int)+1)=((i+1:Nat):Int):=J7 h
def wrapP {i:Nat}(a:1<=i)(h:i<1000000000000000000):IntKind.i64.wrap ((i:Int)-1)=((i-1:Nat):Int):=by rw[W8 (by omega) (by omega)];omega
def Ah0 {i j:Nat}(h:i+j<1000000000000000000):IntKind.i64.wrap ((i:Int)+(j:Int))=((i+j:Nat):Int):=by rw[W8 (by omega) (by omega)];rfl
end Go.AM
namespace Go.AM
open Go.Proofs
def okP:Nat->Pat->Prop
 |0,_=>False
 |d+1,p=>p.L.n<=40/\(p.Kind=5->p.L.n=1/\0<=p.Min/\p.Min<=32/\(p.Max = -1 \/ (p.Min<=p.Max/\p.Max<=32)))/\∀i,i<p.L.n->okP d (p.L.g i)
end Go.AM
