/- Part 8. -/
import Derived.Test.YtnpnbnncocgaeaaGreatDoorZG
set_option linter.defProp false
set_option linter.unusedSimpArgs false
set_option linter.unusedVariables false
set_option linter.unusedSectionVars false
namespace Go.AM
abbrev Qa:Sl (Sl Qb):=Sl.nil
abbrev Oz:Sl Qb:=Sl.of []
abbrev Oy:Sl Qb:=Sl.nil
variable {N:Nat}
open IntKind (wrap)
open Go.Proofs
set_option maxRecDepth 10000
set_option maxHeartbeats 4000000
def bu:Str->Nat
 |[]=>0
 |_::_=>1
def AP2:Str->Nat->List PV
 |[]=>λ_=>[]
 |a::s=>PM (a::s)
def Bn5 (s:Str)(i:Nat)(h:i<s.length):AP2 s i=[.v (.int .u8 (s.getD i 0).toNat)]:=by
 cases s with
 |nil=>exact Hc h (Cf9 _)
 |cons a s=>rfl
def AK7 (s t:Str):DF s.length (PM s) (PM t)=PM (s++t):=by
 funext i;unfold DF PM;split
 .rename_i h;rw[BT0,BT0,BZ3 h]
 rename_i h;rw[BT0,BT0,Cg9 (by omega)]
def Bn6 (s j:Str):AP2 (s++(j++[10]))=DF s.length (AP2 s) (PM (j++[10])):=by
 cases s with
 |nil=>
  show AP2 (j++[10])=_;cases j with
  |nil=>funext i;simp[DF,AP2]
  |cons a j=>funext i;simp[DF,AP2]
 |cons a s=>exact (AK7 (a::s) (j++[10])).symm
def BO9 (s j:Str):bu (s++(j++[10]))=1:=by
 cases s with
 |cons a s=>rfl
 |nil=>cases j<;>rfl
def Z6 (N:Nat)(n b:Int):Option Str:=if (-9223372036854775808<=n/\n<=9223372036854775807)/\b=10 then some (Lib.itoa n)else none
variable {S:W9}(Z:H6 S Tryz.prog) (Y:KY S)
include Z Y
theorem Gn {n b:Int}{y:Str}(h:Z6 N n b=some y):YF S Z2 [.p (pI .i64 n),.p (pI .i64 b)] (.p (.str y)):=by unfold Z6 at h;obtain⟨c,h⟩:=B9 h;obtain rfl:=A6 h;obtain⟨⟨c1,c2⟩,rfl⟩:=c;exact Y.fmtInt n c1 c2
theorem AX8 {ws:Sl Str}{j s:Str}(a:W5 N ws [32]=some j)(hc:(s++(j++[10])).length<=140737488355328) :Qi S BR [.p (vSl 1 cS ws),.reg 0 0] [.blk [0,109,bu s] 1,.vec H8 1 s.length (AP2 s) false] (.tup []) [.blk [0,109,bu (s++(j++[10]))] 1,.vec H8 1 (s++(j++[10])).length (AP2 (s++(j++[10]))) false] [true,false]:=by rw[BO9,Bn6,BW7];rw[BW7]at hc;exact Bn3 Z Y a ⟨by omega,hc⟩
def Kf (N:Nat)(b:B4)(a:Nh):Option (Str×Int):= (Y9 N b).bind λy1=>if (y1 != 0) then some ([],y1) else O7 N (λd (x1:Int)=>if (decide (x1<(a.Bad.n:Int))) then if ((0:Int)<=x1/\x1<(a.Bad.n:Int))then Jo (O1 eqI (a.Bad.g x1.toNat).Kind ([(1,0),(2,1)]:List (Int×Int))) (some ([],2)) λv3=>d (wrap .i64 (x1+1)) else none else (S9 N b.Sv.Tree).bind λy2=>Y4 N (λc (x2:Str) (x3:Int)=>if (decide (x3<(a.Bad.n:Int))) then if ((0:Int)<=x3/\x3<(a.Bad.n:Int))then (Iq N b (a.Bad.g x3.toNat).Ub (a.Bad.g x3.toNat).Sd).bind λo=>if (!o) then some ([],3) else Jo (O1 eqI (a.Bad.g x3.toNat).Kind ([(1,0),(2,1)]:List (Int×Int))) (if (((((0:Int)<=(a.Bad.g x3.toNat).Ub/\(a.Bad.g x3.toNat).Ub<(b.Sz.n:Int))/\((0:Int)<=(a.Bad.g x3.toNat).Sd/\(a.Bad.g x3.toNat).Sd<(y2.1.n:Int)))/\(a.Bad.g x3.toNat).Sd.toNat<y2.1.n)/\((0:Int)<=(y2.1.g (a.Bad.g x3.toNat).Sd.toNat)/\(y2.1.g (a.Bad.g x3.toNat).Sd.toNat)<(b.Sv.Tree.n:Int)))then (Z6 N (a.Bad.g x3.toNat).Cost 10).bind λq=>(W5 N (Sl.of [[98,97,100],(b.Sz.g (a.Bad.g x3.toNat).Ub.toNat).Gloss,(b.Sv.Tree.g (y2.1.g (a.Bad.g x3.toNat).Sd.toNat).toNat).Name,[111,116,104,101,114],q]:Sl Str) [32]).bind λi=>if (x2++(i++[10])).length<=140737488355328 then c (x2++(i++[10])) (wrap .i64 (x3+1)) else none else none) λv6=>if ((0:Int)<=v6/\v6<2)then if (((((0:Int)<=(a.Bad.g x3.toNat).Ub/\(a.Bad.g x3.toNat).Ub<(b.Sz.n:Int))/\((0:Int)<=(a.Bad.g x3.toNat).Sd/\(a.Bad.g x3.toNat).Sd<(y2.1.n:Int)))/\(a.Bad.g x3.toNat).Sd.toNat<y2.1.n)/\((0:Int)<=(y2.1.g (a.Bad.g x3.toNat).Sd.toNat)/\(y2.1.g (a.Bad.g x3.toNat).Sd.toNat)<(b.Sv.Tree.n:Int)))then (Z6 N (a.Bad.g x3.toNat).Cost 10).bind λr=>(W5 N (Sl.of [[98,97,100],(b.Sz.g (a.Bad.g x3.toNat).Ub.toNat).Gloss,(b.Sv.Tree.g (y2.1.g (a.Bad.g x3.toNat).Sd.toNat).toNat).Name,[([111,116,104,101,114]:Str),([110,111,110,101]:Str)].getD v6.toNat [],r]:Sl Str) [32]).bind λj=>if (x2++(j++[10])).length<=140737488355328 then c (x2++(j++[10])) (wrap .i64 (x3+1)) else none else none else none else none else Y4 N (λf (x4:Str) (x5:Int)=>if (decide (x5<(a.Sw.n:Int))) then if ((0:Int)<=x5/\x5<(a.Sw.n:Int))then (Dy N b (a.Sw.g x5.toNat)).bind λl=>if (l.2 != 0) then some ([],l.2) else if ((0:Int)<=(a.Sw.g x5.toNat).Node/\(a.Sw.g x5.toNat).Node<(b.Sv.On.n:Int))then if ((((((((((0:Int)<=(a.Sw.g x5.toNat).Node/\(a.Sw.g x5.toNat).Node<(b.Sv.Tree.n:Int))/\((0:Int)<=(a.Sw.g x5.toNat).Place/\(a.Sw.g x5.toNat).Place<((b.Sv.On.g (a.Sw.g x5.toNat).Node.toNat).n:Int)))/\((0:Int)<=((b.Sv.On.g (a.Sw.g x5.toNat).Node.toNat).g (a.Sw.g x5.toNat).Place.toNat)/\((b.Sv.On.g (a.Sw.g x5.toNat).Node.toNat).g (a.Sw.g x5.toNat).Place.toNat)<(b.Sv.Laws.n:Int)))/\((0:Int)<=(wrap .i64 ((a.Sw.g x5.toNat).Place+1))/\(wrap .i64 ((a.Sw.g x5.toNat).Place+1))<((b.Sv.On.g (a.Sw.g x5.toNat).Node.toNat).n:Int)))/\((0:Int)<=((b.Sv.On.g (a.Sw.g x5.toNat).Node.toNat).g (wrap .i64 ((a.Sw.g x5.toNat).Place+1)).toNat)/\((b.Sv.On.g (a.Sw.g x5.toNat).Node.toNat).g (wrap .i64 ((a.Sw.g x5.toNat).Place+1)).toNat)<(b.Sv.Laws.n:Int)))/\((0:Int)<=(a.Sw.g x5.toNat).Ub/\(a.Sw.g x5.toNat).Ub<(b.Sz.n:Int)))/\((0:Int)<=(a.Sw.g x5.toNat).Sd/\(a.Sw.g x5.toNat).Sd<(y2.1.n:Int)))/\(a.Sw.g x5.toNat).Sd.toNat<y2.1.n)/\((0:Int)<=(y2.1.g (a.Sw.g x5.toNat).Sd.toNat)/\(y2.1.g (a.Sw.g x5.toNat).Sd.toNat)<(b.Sv.Tree.n:Int)))then (W5 N (Sl.of [[115,119,97,112],(b.Sv.Tree.g (a.Sw.g x5.toNat).Node.toNat).Name,(b.Sv.Laws.g ((b.Sv.On.g (a.Sw.g x5.toNat).Node.toNat).g (a.Sw.g x5.toNat).Place.toNat).toNat).Name,(b.Sv.Laws.g ((b.Sv.On.g (a.Sw.g x5.toNat).Node.toNat).g (wrap .i64 ((a.Sw.g x5.toNat).Place+1)).toNat).toNat).Name,(b.Sz.g (a.Sw.g x5.toNat).Ub.toNat).Gloss,(b.Sv.Tree.g (y2.1.g (a.Sw.g x5.toNat).Sd.toNat).toNat).Name]:Sl Str) [32]).bind λm=>if (x4++(m++[10])).length<=140737488355328 then f (x4++(m++[10])) (wrap .i64 (x5+1)) else none else none else none else none else if (decide (65536<(x4.length:Int))) then some ([],11) else some (x4,0)) x2 0) [] 0) 0
theorem Ae0 {d:B4}{c:Nh}{y:Str×Int}(h:Kf N d c=some y) :Qi S Pj [.p (.agg (A9 d)),.p (.agg (Rr c))] [] (.tup [.p (.str y.1),pN y.2]) ([]) []:=by
 unfold Kf at h;refine A1 Z Tryz.func16 ?_;refine D9 Z Jy 3 3000 (A9 d) ?_;refine D9 Z Jy 4 4000 [vSl 4 D1 c.Bad,vSl 4 Z9 c.Sw] ?_;obtain⟨y1,e1,h⟩:=A7 h;refine A8 Z [] (by decide:(8:Nat)<=8) (GW Z Y e1) ?_;refine Ug Z h fun h=>?_;refine F1 Z Jy h (λx1=>⟨[(35,pN x1),(34,pN (c.Bad.n:Int)),(33,.p (vSl 4 D1 c.Bad)),(7,.Sc 31000),(3,.p (.ptr [vSl 4 D1 c.Bad,vSl 4 Z9 c.Sw])),(2,.p (.ptr (A9 d)))],[(31000,oM (pI .i64) (pI .i64) ([(1,0),(2,1)]:List (Int×Int)))]⟩) (ids:=[(31000,31000)]) (λ_ _ _ _ _ q x1 r h=>?_);apply kI Z h<;>intro h
 .obtain⟨c11,h⟩:=B9 h;refine D9 Z (Qe c11 Mq) 40 10000 (D1 (c.Bad.g x1.toNat)) ?_;rcases o3:O1 eqI (c.Bad.g x1.toNat).Kind ([(1,0),(2,1)]:List (Int×Int))with _|v3
  .replace h:=Ai4 o3 h;refine Am5 Z Jy D2 D2 (pI .i64) (pI .i64) eqI o3 (pI .i64 0) Jy ?_;refine C6 Z Jy (b:=true) (λc12=>?_) (λc12=>?_)
   .cases h;exact kR Z
   exact Bool.noConfusion (Ow.symm.trans c12)
  replace h:=Zq o3 h;refine Am4 Z Jy D2 D2 (pI .i64) (pI .i64) eqI o3 Jy ?_;refine C6 Z Jy (b:=false) (λc13=>?_) (λc13=>?_)
  .exact Bool.noConfusion ((rfl:false=false).symm.trans c13)
  exact r _ [(31000,31000)] _ _ Jy h
 refine kC Z h (Fp Z Y) (λy2 h=>?_);refine K_bld Z Jy 14 ?_;refine G2 Z Jy h (λx2 x3=>⟨[(60,pN x3),(59,pN (c.Bad.n:Int)),(58,.p (vSl 4 D1 c.Bad)),(15,.clo BR [] [.reg 15000 0]),(14,.reg 15000 0),(12,.vec 54000),(7,.Sc 31000),(3,.p (.ptr [vSl 4 D1 c.Bad,vSl 4 Z9 c.Sw])),(2,.p (.ptr (A9 d)))],[(54000,oV D2 1 (cI .i64) y2.1 true),(31000,oM (pI .i64) (pI .i64) ([(1,0),(2,1)]:List (Int×Int))),(15001,.vec H8 1 x2.length (AP2 x2) false),(15000,.blk [0,109,bu x2] 15001)]⟩) (ids:=(Qc [15000,15001,31000,54000])) (λ_ _ _ _ _ s x2 x3 l h=>?_);apply kI Z h<;>intro h
 .obtain⟨c27,h⟩:=B9 h;refine D9 Z (Qe c27 Mq) 64 18000 (D1 (c.Bad.g x3.toNat)) ?_;obtain⟨z,e13,h⟩:=A7 h;refine A8 Z [] (by decide:(8:Nat)<=8) (SQ Z Y e13) ?_;refine Ug Z h fun h=>?_;rcases o6:O1 eqI (c.Bad.g x3.toNat).Kind ([(1,0),(2,1)]:List (Int×Int))with _|v6
  .replace h:=Ai4 o6 h;refine Am5 Z Jy D2 D2 (pI .i64) (pI .i64) eqI o6 (pI .i64 0) Jy ?_;refine I0 Z (by decide:(0:Int)<=0/\(0:Int)<2) [(2,.n),(4,.n),(5,.n),(7,.n),(10,.n),(13,.n),(16,.n),(18,.n),(21,.n),(22,.n),(24,.a [15000,15001,102000,102001])] ?_;obtain⟨c29,h⟩:=B9 h;obtain⟨m,e14,h⟩:=A7 h;refine F7 c29 (Gn Z Y e14) ?_;refine O8 Jy (x:=.sl true 1 5 (H2 [.str []] [(0,cS [98,97,100]),(1,cS (d.Sz.g (c.Bad.g x3.toNat).Ub.toNat).Gloss),(2,cS (d.Sv.Tree.g (y2.1.g (c.Bad.g x3.toNat).Sd.toNat).toNat).Name),(3,cS [111,116,104,101,114]),(4,cS m)])) ?_;obtain⟨a0,e15,h⟩:=A7 h;obtain⟨c30,h⟩:=B9 h;refine WX [15000,15001] Jy (Qi.le Z (args:=[.p (.sl true 1 5 (H2 [.str []] [(0,cS [98,97,100]),(1,cS (d.Sz.g (c.Bad.g x3.toNat).Ub.toNat).Gloss),(2,cS (d.Sv.Tree.g (y2.1.g (c.Bad.g x3.toNat).Sd.toNat).toNat).Name),(3,cS [111,116,104,101,114]),(4,cS m)])),.reg 0 0]) (by exact⟨ML rfl (λi j=>match i,j with|0,_=>rfl|1,_=>rfl|2,_=>rfl|3,_=>rfl|4,_=>rfl|_+5,j=>Hc j (by omega)),⟨.inl rfl,trivial⟩⟩) (AX8 Z Y e15 c30)) ?_;refine C7 Jy ?_;exact l _ [(15000,15000),(15001,102001),(31000,31000),(54000,54000)] _ _ _ Jy h
  replace h:=Zq o6 h;refine Am4 Z Jy D2 D2 (pI .i64) (pI .i64) eqI o6 Jy ?_;obtain⟨c31,h⟩:=B9 h;refine I0 Z c31 [(2,.n),(4,.n),(5,.n),(7,.n),(10,.n),(13,.n),(16,.n),(18,.n),(21,.n),(22,.n),(24,.a [15000,15001,102000,102001])] ?_;obtain⟨c32,h⟩:=B9 h;obtain⟨o,e16,h⟩:=A7 h;refine F7 c32 (Gn Z Y e16) ?_;refine O8 Jy (x:=.sl true 1 5 (H2 [.str []] [(0,cS [98,97,100]),(1,cS (d.Sz.g (c.Bad.g x3.toNat).Ub.toNat).Gloss),(2,cS (d.Sv.Tree.g (y2.1.g (c.Bad.g x3.toNat).Sd.toNat).toNat).Name),(3,cS ([([111,116,104,101,114]:Str),([110,111,110,101]:Str)].getD v6.toNat [])),(4,cS o)])) ?_;obtain⟨a1,e17,h⟩:=A7 h;obtain⟨c33,h⟩:=B9 h;refine WX [15000,15001] Jy (Qi.le Z (args:=[.p (.sl true 1 5 (H2 [.str []] [(0,cS [98,97,100]),(1,cS (d.Sz.g (c.Bad.g x3.toNat).Ub.toNat).Gloss),(2,cS (d.Sv.Tree.g (y2.1.g (c.Bad.g x3.toNat).Sd.toNat).toNat).Name),(3,cS ([([111,116,104,101,114]:Str),([110,111,110,101]:Str)].getD v6.toNat [])),(4,cS o)])),.reg 0 0]) (by exact⟨ML rfl (λi j=>match i,j with|0,_=>rfl|1,_=>rfl|2,_=>rfl|3,_=>rfl|4,_=>rfl|_+5,j=>Hc j (by omega)),⟨.inl rfl,trivial⟩⟩) (AX8 Z Y e17 c33)) ?_;refine C7 Jy ?_;exact l _ [(15000,15000),(15001,102001),(31000,31000),(54000,54000)] _ _ _ Jy h
 refine G2 Z Jy h (λx4 x5=>⟨[(106,pN x5),(105,pN (c.Sw.n:Int)),(104,.p (vSl 4 Z9 c.Sw)),(15,.clo BR [] [.reg 15000 0]),(14,.reg 15000 0),(12,.vec 54000),(2,.p (.ptr (A9 d)))],[(54000,oV D2 1 (cI .i64) y2.1 true),(15001,.vec H8 1 x4.length (AP2 x4) false),(15000,.blk [0,109,bu x4] 15001)]⟩) (ids:=(Qc [15000,15001,54000])) (λ_ _ _ _ _ t x4 x5 v h=>?_);apply kI Z h<;>intro h
 .obtain⟨c45,h⟩:=B9 h;refine D9 Z (Qe c45 Mq) 111 21000 (Z9 (c.Sw.g x5.toNat)) ?_;obtain⟨w,e22,h⟩:=A7 h;refine A8 Z [] (Qe (by decide:(8:Nat)<=8) Mq) (Kc Z Y e22) ?_;refine D9 Z Jy 22 22000 (B0 w.1) ?_;refine Ug Z h fun h=>?_;refine B5 Z Jy [2,4,5,6,9] ?_;obtain⟨c47,h⟩:=B9 h;refine C7 c47 ?_;refine I0 Z Jy [(3,.n),(5,.n),(6,.n),(8,.n),(12,.n),(13,.n),(14,.n),(15,.n),(17,.n),(21,.n),(23,.n),(24,.n),(25,.n),(27,.n),(29,.n),(31,.n),(32,.n),(34,.n),(37,.n),(40,.n),(43,.n),(45,.n),(47,.a [15000,15001,177000,177001])] ?_;obtain⟨c48,h⟩:=B9 h;refine O8 c48 (x:=.sl true 1 6 (H2 [.str []] [(0,cS [115,119,97,112]),(1,cS (d.Sv.Tree.g (c.Sw.g x5.toNat).Node.toNat).Name),(2,cS (d.Sv.Laws.g ((d.Sv.On.g (c.Sw.g x5.toNat).Node.toNat).g (c.Sw.g x5.toNat).Place.toNat).toNat).Name),(3,cS (d.Sv.Laws.g ((d.Sv.On.g (c.Sw.g x5.toNat).Node.toNat).g (wrap .i64 ((c.Sw.g x5.toNat).Place+1)).toNat).toNat).Name),(4,cS (d.Sz.g (c.Sw.g x5.toNat).Ub.toNat).Gloss),(5,cS (d.Sv.Tree.g (y2.1.g (c.Sw.g x5.toNat).Sd.toNat).toNat).Name)])) ?_;obtain⟨a2,e23,h⟩:=A7 h;obtain⟨c49,h⟩:=B9 h;refine WX [15000,15001] Jy (Qi.le Z (args:=[.p (.sl true 1 6 (H2 [.str []] [(0,cS [115,119,97,112]),(1,cS (d.Sv.Tree.g (c.Sw.g x5.toNat).Node.toNat).Name),(2,cS (d.Sv.Laws.g ((d.Sv.On.g (c.Sw.g x5.toNat).Node.toNat).g (c.Sw.g x5.toNat).Place.toNat).toNat).Name),(3,cS (d.Sv.Laws.g ((d.Sv.On.g (c.Sw.g x5.toNat).Node.toNat).g (wrap .i64 ((c.Sw.g x5.toNat).Place+1)).toNat).toNat).Name),(4,cS (d.Sz.g (c.Sw.g x5.toNat).Ub.toNat).Gloss),(5,cS (d.Sv.Tree.g (y2.1.g (c.Sw.g x5.toNat).Sd.toNat).toNat).Name)])),.reg 0 0]) (by exact⟨ML rfl (λi j=>match i,j with|0,_=>rfl|1,_=>rfl|2,_=>rfl|3,_=>rfl|4,_=>rfl|5,_=>rfl|_+6,j=>Hc j (by omega)),⟨.inl rfl,trivial⟩⟩) (AX8 Z Y e23 c49)) ?_;refine C7 Jy ?_;exact v _ [(15000,15000),(15001,177001),(54000,54000)] _ _ _ Jy h
 refine A8 Z [15000,15001] Jy (w_Len Z Y (u:=bu x4) (n:=x4.length) (f:=AP2 x4)) ?_;refine Ug Z h fun h=>?_;refine A8 Z [15000,15001] Jy (Y.bstr 109 (bu x4) x4.length (AP2 x4) x4 rfl rfl (Bn5 x4)) ?_;cases h;exact kR Z
end Go.AM
namespace Go.AM
open Go.Proofs.Tryz
variable {N:Nat}
open IntKind (wrap)
open Go.Proofs
set_option maxRecDepth 10000
set_option maxHeartbeats 2000000
variable {S:W9}(Z:H6 S Tryz.prog) (Y:KY S)
include Z Y
def Bu (N:Nat)(b:Str):Option (Sl Qb):= Y4 N (λa (x1:Sl Qb) (x2:Int)=>if (decide (x2<(b.length:Int))) then if ((0:Int)<=x2/\x2<(b.length:Int))then if ((F0 b x2)==112) then if (Qd 8 (x1.n+(Sl.of [(⟨2,5⟩:Qb)]:Sl Qb).n))then a (x1.push (⟨2,5⟩:Qb)) (wrap .i64 (x2+1)) else none else if ((F0 b x2)==98) then if (Qd 8 (x1.n+(Sl.of [(⟨3,4⟩:Qb)]:Sl Qb).n))then a (x1.push (⟨3,4⟩:Qb)) (wrap .i64 (x2+1)) else none else if (Qd 8 (x1.n+(Sl.of [(⟨5,2⟩:Qb)]:Sl Qb).n))then a (x1.push (⟨5,2⟩:Qb)) (wrap .i64 (x2+1)) else none else none else some x1) Oy 0
theorem DZ {a:Str}{y:Sl Qb}(h:Bu N a=some y) :Qi S Vn [.p (.str a)] [] (.p (vSl 2 A0 y)) ([]) []:=by
 unfold Bu at h;refine A1 Z func19 ?_;refine G2 Z Jy h (λx1 x2=>⟨[(4,pN x2),(3,.vec 4500),(0,.p (.str a))],[(4500,oV B1 2 A0 x1 false)]⟩) (ids:=[]) (λ_ _ _ _ _ d x1 x2 c h=>?_);apply kI Z h<;>intro h
 .obtain⟨c10,h⟩:=B9 h;refine C6 Z c10 (b:=(F0 a x2)==112) (λc11=>?_) (λc11=>?_)
  .replace h:=itT c11 h;obtain⟨c12,h⟩:=B9 h;exact c _ [(4500,24000)] _ (x1.push (⟨2,5⟩:Qb)) (wrap .i64 (x2+1)) (Qe Ow c12) h (hle:=kl1 2 (R7 A0 x1 (⟨2,5⟩:Qb) [pI .u32 0,pI .u32 0]))
  replace h:=itF c11 h;apply kI Z h<;>intro h
  .obtain⟨c14,h⟩:=B9 h;exact c _ [(4500,30000)] _ (x1.push (⟨3,4⟩:Qb)) (wrap .i64 (x2+1)) (Qe Ow c14) h (hle:=kl1 2 (R7 A0 x1 (⟨3,4⟩:Qb) [pI .u32 0,pI .u32 0]))
  obtain⟨c15,h⟩:=B9 h;exact c _ [(4500,18000)] _ (x1.push (⟨5,2⟩:Qb)) (wrap .i64 (x2+1)) (Qe Ow c15) h (hle:=kl1 2 (R7 A0 x1 (⟨5,2⟩:Qb) [pI .u32 0,pI .u32 0]))
 obtain rfl:=A6 h;exact kO Z Jy []
def Fx (N:Nat)(a:Str):Option K0:= if ((a==[63]) != false) then some (⟨false,Oy⟩:K0) else (Bu N a).bind λy1=>some (⟨true,y1⟩:K0)
theorem KK {a:Str}{y:K0}(h:Fx N a=some y) :Qi S Vq [.p (.str a)] [] (.p (.agg (F2 y))) ([]) []:=by
 unfold Fx at h;refine A1 Z func33 ?_;apply kI Z h<;>intro h
 .obtain rfl:=A6 h;exact P3 Z Jy ⟨[(2,.reg 3000 0)],[(3000,.cells [pB false,.p (vSl 2 A0 Oy)])]⟩ [] (ids:=[(3000,3000)]) ⟨rfl,rfl,rfl⟩
 refine kC Z h (DZ Z Y) (λy1 h=>?_);cases h;exact kR Z
def Gp (N:Nat)(a:Str)(b:Sl Str):Option Ub:= Y4 N (λc (x1:Sl K0) (x2:Int)=>if (decide (x2<(b.n:Int))) then if ((0:Int)<=x2/\x2<(b.n:Int))then (Fx N (b.g x2.toNat)).bind λy3=>if (Qd 32 (x1.n+(Sl.of [y3]:Sl K0).n))then c (x1.push y3) (wrap .i64 (x2+1)) else none else none else some (⟨a,x1⟩:Ub)) (Sl.nil:Sl K0) 0
theorem My {a:Str}{b:Sl Str}{y:Ub}(h:Gp N a b=some y) :Qi S RG [.p (.str a),.p (vSl 1 cS b)] [] (.p (.agg (H0 y))) ([]) []:=by
 unfold Gp at h;refine A1 Z func34 ?_;refine G2 Z Jy h (λx1 x2=>⟨[(12,pN x2),(11,pN (b.n:Int)),(10,.p (vSl 1 cS b)),(5,.reg 6000 0),(4,.reg 5000 0)],[(6500,oV Fv 2 F2 x1 false),(6000,.cells [.p (.str a),.vec 6500]),(5000,.cells [.p (.str []),.p I3])]⟩) (ids:=(Qc [5000,6000])) (λ_ _ _ _ _ c x1 x2 d h=>?_);apply kI Z h<;>intro h
 .obtain⟨c8,h⟩:=B9 h;refine B5 Z c8 [3] ?_;obtain⟨y3,e3,h⟩:=A7 h;refine F7 Jy (KK Z Y e3) ?_;refine O8 Jy (x:=.sl true 2 1 (H2 [.v (.bool false),I3] [(0,F2 y3)])) ?_;obtain⟨c9,h⟩:=B9 h;refine C7 c9 ?_;exact d _ [(5000,5000),(6000,6000),(6500,22000)] _ _ _ Jy h (hle:=kl1 3 (R7 F2 x1 y3 [.v (.bool false),I3]))
 obtain rfl:=A6 h;exact P3 Z Jy ⟨[(4,.reg 5000 0)],[(5000,.cells [.p (.str a),.p (vSl 2 F2 x1)])]⟩ [] (ids:=[(5000,5000)]) ⟨rfl,rfl,rfl⟩
def Ix (N:Nat)  : Option Sv:= some (⟨(Sl.of [(⟨-1,[112,114,111,116,111]⟩:Node),(⟨0,[119,101,115,116]⟩:Node),(⟨0,[101,97,115,116]⟩:Node),(⟨1,[110,111,114,116,104]⟩:Node),(⟨1,[115,111,117,116,104]⟩:Node)]:Sl Node),(Sl.of [(⟨[118,111,105,99,105,110,103],Pat.mk 1 (⟨4,0⟩:Qb) false 0 0 (Sl.nil:Sl Pat).n (Sl.nil:Sl Pat).g,Pat.mk 1 (⟨4,0⟩:Qb) false 0 0 (Sl.nil:Sl Pat).n (Sl.nil:Sl Pat).g,(Sl.of [(⟨2,0⟩:Qb)]:Sl Qb),(Sl.of [(⟨0,0,(⟨1,0⟩:Qb),0,0⟩:Ex)]:Sl Ex),1⟩:Law),(⟨[97,112,111,99,111,112,101],Pat.mk 0 (⟨0,0⟩:Qb) false 0 0 (Sl.nil:Sl Pat).n (Sl.nil:Sl Pat).g,Pat.mk 6 (⟨0,0⟩:Qb) false 0 0 (Sl.nil:Sl Pat).n (Sl.nil:Sl Pat).g,(Sl.of [(⟨4,0⟩:Qb)]:Sl Qb),(Sl.nil:Sl Ex),1⟩:Law)]:Sl Law),(Sl.of [Ox,(Sl.of [0]:Sl Int),(Sl.of [1,0]:Sl Int),(Sl.of [1]:Sl Int),Ox]:Sl (Sl Int))⟩:Sv)
theorem XT    {y:Sv}(h:Ix N  = some y) :Qi S Nn [] [] (.p (.agg (B0 y))) ([]) []:=by unfold Ix at h;refine A1 Z func32 ?_;refine I7 Z Ow 10 ⟨[(9,.vec 10000),(1,.reg 2000 0),(0,.reg 1000 0)],[(10000,.vec X8 2 (Sl.of [(⟨-1,[112,114,111,116,111]⟩:Node),(⟨0,[119,101,115,116]⟩:Node),(⟨0,[101,97,115,116]⟩:Node),(⟨1,[110,111,114,116,104]⟩:Node),(⟨1,[115,111,117,116,104]⟩:Node)]:Sl Node).n (λi=>F4 ((Sl.of [(⟨-1,[112,114,111,116,111]⟩:Node),(⟨0,[119,101,115,116]⟩:Node),(⟨0,[101,97,115,116]⟩:Node),(⟨1,[110,111,114,116,104]⟩:Node),(⟨1,[115,111,117,116,104]⟩:Node)]:Sl Node).g i)) false),(2000,.cells [pN 1,pU 4,pU 0,pB false,pN 0,pN 0,.p (vSl 7 B7 (Sl.nil:Sl Pat))]),(1000,.cells [.p I3,.p I3,.p I3])]⟩ (ids:=(Qc [1000,2000,10000])) ?_ (hle:=kl1 0 (AP0 F4 ([(⟨-1,[112,114,111,116,111]⟩:Node),(⟨0,[119,101,115,116]⟩:Node),(⟨0,[101,97,115,116]⟩:Node),(⟨1,[110,111,114,116,104]⟩:Node),(⟨1,[115,111,117,116,104]⟩:Node)]:List Node) [pI .i64 0,.str []]));refine I7 Z (Qe Ow Ow) 17 ⟨[(16,.p (vSl 6 Y7 (Sl.of [(⟨0,0,(⟨1,0⟩:Qb),0,0⟩:Ex)]:Sl Ex))),(13,.p (vSl 2 A0 (Sl.of [(⟨2,0⟩:Qb)]:Sl Qb))),(11,.p (.agg [pI .i64 1,pI .u32 4,pI .u32 0,.bb false,pI .i64 0,pI .i64 0,vSl 7 B7 (Sl.nil:Sl Pat)])),(10,.p (.agg [pI .i64 1,pI .u32 4,pI .u32 0,.bb false,pI .i64 0,pI .i64 0,vSl 7 B7 (Sl.nil:Sl Pat)])),(9,.vec 10000),(0,.reg 1000 0)],[(10000,.vec X8 2 (Sl.of [(⟨-1,[112,114,111,116,111]⟩:Node),(⟨0,[119,101,115,116]⟩:Node),(⟨0,[101,97,115,116]⟩:Node),(⟨1,[110,111,114,116,104]⟩:Node),(⟨1,[115,111,117,116,104]⟩:Node)]:Sl Node).n (λi=>F4 ((Sl.of [(⟨-1,[112,114,111,116,111]⟩:Node),(⟨0,[119,101,115,116]⟩:Node),(⟨0,[101,97,115,116]⟩:Node),(⟨1,[110,111,114,116,104]⟩:Node),(⟨1,[115,111,117,116,104]⟩:Node)]:Sl Node).g i)) false),(1000,.cells [.p I3,.p I3,.p I3])]⟩ (ids:=(Qc [1000,10000])) ?_ (hle:=kl2 0 1 (AP0 Y7 ([(⟨0,0,(⟨1,0⟩:Qb),0,0⟩:Ex)]:List Ex) [pI .i64 0,pI .u32 0,pI .u32 0,pI .u32 0,pI .u32 0,pI .i64 0]) (AP0 A0 ([(⟨2,0⟩:Qb)]:List Qb) [pI .u32 0,pI .u32 0]));refine I7 Z Ow 21 ⟨[(20,.p (vSl 2 A0 (Sl.of [(⟨4,0⟩:Qb)]:Sl Qb))),(18,.p (.agg [pI .i64 6,pI .u32 0,pI .u32 0,.v (.bool false),pI .i64 0,pI .i64 0,I3])),(17,.p (.agg [.str [118,111,105,99,105,110,103],pI .i64 1,pI .u32 4,pI .u32 0,.bb false,pI .i64 0,pI .i64 0,vSl 7 B7 (Sl.nil:Sl Pat),pI .i64 1,pI .u32 4,pI .u32 0,.bb false,pI .i64 0,pI .i64 0,vSl 7 B7 (Sl.nil:Sl Pat),vSl 2 A0 (Sl.of [(⟨2,0⟩:Qb)]:Sl Qb),vSl 6 Y7 (Sl.of [(⟨0,0,(⟨1,0⟩:Qb),0,0⟩:Ex)]:Sl Ex),pI .i64 1])),(9,.vec 10000),(0,.reg 1000 0)],[(10000,.vec X8 2 (Sl.of [(⟨-1,[112,114,111,116,111]⟩:Node),(⟨0,[119,101,115,116]⟩:Node),(⟨0,[101,97,115,116]⟩:Node),(⟨1,[110,111,114,116,104]⟩:Node),(⟨1,[115,111,117,116,104]⟩:Node)]:Sl Node).n (λi=>F4 ((Sl.of [(⟨-1,[112,114,111,116,111]⟩:Node),(⟨0,[119,101,115,116]⟩:Node),(⟨0,[101,97,115,116]⟩:Node),(⟨1,[110,111,114,116,104]⟩:Node),(⟨1,[115,111,117,116,104]⟩:Node)]:Sl Node).g i)) false),(1000,.cells [.p I3,.p I3,.p I3])]⟩ (ids:=(Qc [1000,10000])) ?_ (hle:=kl1 0 (AP0 A0 ([(⟨4,0⟩:Qb)]:List Qb) [pI .u32 0,pI .u32 0]));refine AV0 Z Ow 23 23000 (k:=18) (n:=2) (e:=I9) (vw:=false) (H2 [.str [],pI .i64 0,pI .u32 0,pI .u32 0,.v (.bool false),pI .i64 0,pI .i64 0,I3,pI .i64 0,pI .u32 0,pI .u32 0,.v (.bool false),pI .i64 0,pI .i64 0,I3,I3,I3,pI .i64 0] [(0,[.str [118,111,105,99,105,110,103],pI .i64 1,pI .u32 4,pI .u32 0,.bb false,pI .i64 0,pI .i64 0,vSl 7 B7 (Sl.nil:Sl Pat),pI .i64 1,pI .u32 4,pI .u32 0,.bb false,pI .i64 0,pI .i64 0,vSl 7 B7 (Sl.nil:Sl Pat),vSl 2 A0 (Sl.of [(⟨2,0⟩:Qb)]:Sl Qb),vSl 6 Y7 (Sl.of [(⟨0,0,(⟨1,0⟩:Qb),0,0⟩:Ex)]:Sl Ex),pI .i64 1]),(1,[.str [97,112,111,99,111,112,101],pI .i64 0,pI .u32 0,pI .u32 0,.v (.bool false),pI .i64 0,pI .i64 0,I3,pI .i64 6,pI .u32 0,pI .u32 0,.v (.bool false),pI .i64 0,pI .i64 0,I3,vSl 2 A0 (Sl.of [(⟨4,0⟩:Qb)]:Sl Qb),I3,pI .i64 1])]) (λi=>B3 ((Sl.of [(⟨[118,111,105,99,105,110,103],Pat.mk 1 (⟨4,0⟩:Qb) false 0 0 (Sl.nil:Sl Pat).n (Sl.nil:Sl Pat).g,Pat.mk 1 (⟨4,0⟩:Qb) false 0 0 (Sl.nil:Sl Pat).n (Sl.nil:Sl Pat).g,(Sl.of [(⟨2,0⟩:Qb)]:Sl Qb),(Sl.of [(⟨0,0,(⟨1,0⟩:Qb),0,0⟩:Ex)]:Sl Ex),1⟩:Law),(⟨[97,112,111,99,111,112,101],Pat.mk 0 (⟨0,0⟩:Qb) false 0 0 (Sl.nil:Sl Pat).n (Sl.nil:Sl Pat).g,Pat.mk 6 (⟨0,0⟩:Qb) false 0 0 (Sl.nil:Sl Pat).n (Sl.nil:Sl Pat).g,(Sl.of [(⟨4,0⟩:Qb)]:Sl Qb),(Sl.nil:Sl Ex),1⟩:Law)]:Sl Law).g i)) (λi a=>match i,a with|0,_=>(Jd (.inl rfl) (Jd (.inl rfl) (Jd (.inl rfl) (Jd (.inl rfl) (Jd (.inl rfl) (Jd (.inl rfl) (Jd (.inl rfl) (Jd (.inl rfl) (Jd (.inl rfl) (Jd (.inl rfl) (Jd (.inl rfl) (Jd (.inl rfl) (Jd (.inl rfl) (Jd (.inl rfl) (Jd (.inl rfl) (Jd (.inl rfl) (Jd (.inl rfl) (Jd (.inl rfl) leC0))))))))))))))))))|1,_=>(Jd (.inl rfl) (Jd (.inl rfl) (Jd (.inl rfl) (Jd (.inl rfl) (Jd lePT (Jd (.inl rfl) (Jd (.inl rfl) (Jd BR4 (Jd (.inl rfl) (Jd (.inl rfl) (Jd (.inl rfl) (Jd lePT (Jd (.inl rfl) (Jd (.inl rfl) (Jd BR4 (Jd (.inl rfl) (Jd BR4 (Jd (.inl rfl) leC0))))))))))))))))))|_+2,a=>Hc a (by omega)) ?_;refine I7 Z (Qe (Qe Ow Ow) Ow) 26 ⟨[(25,.vec 26000),(24,.vec 25000),(23,.vec 24000),(22,.vec 23000),(9,.vec 10000),(0,.reg 1000 0)],[(26000,oV D2 1 (cI .i64) (Sl.of [1]:Sl Int) true),(25000,oV D2 1 (cI .i64) (Sl.of [1,0]:Sl Int) true),(24000,oV D2 1 (cI .i64) (Sl.of [0]:Sl Int) true),(23000,.vec I9 18 (Sl.of [(⟨[118,111,105,99,105,110,103],Pat.mk 1 (⟨4,0⟩:Qb) false 0 0 (Sl.nil:Sl Pat).n (Sl.nil:Sl Pat).g,Pat.mk 1 (⟨4,0⟩:Qb) false 0 0 (Sl.nil:Sl Pat).n (Sl.nil:Sl Pat).g,(Sl.of [(⟨2,0⟩:Qb)]:Sl Qb),(Sl.of [(⟨0,0,(⟨1,0⟩:Qb),0,0⟩:Ex)]:Sl Ex),1⟩:Law),(⟨[97,112,111,99,111,112,101],Pat.mk 0 (⟨0,0⟩:Qb) false 0 0 (Sl.nil:Sl Pat).n (Sl.nil:Sl Pat).g,Pat.mk 6 (⟨0,0⟩:Qb) false 0 0 (Sl.nil:Sl Pat).n (Sl.nil:Sl Pat).g,(Sl.of [(⟨4,0⟩:Qb)]:Sl Qb),(Sl.nil:Sl Ex),1⟩:Law)]:Sl Law).n (λi=>B3 ((Sl.of [(⟨[118,111,105,99,105,110,103],Pat.mk 1 (⟨4,0⟩:Qb) false 0 0 (Sl.nil:Sl Pat).n (Sl.nil:Sl Pat).g,Pat.mk 1 (⟨4,0⟩:Qb) false 0 0 (Sl.nil:Sl Pat).n (Sl.nil:Sl Pat).g,(Sl.of [(⟨2,0⟩:Qb)]:Sl Qb),(Sl.of [(⟨0,0,(⟨1,0⟩:Qb),0,0⟩:Ex)]:Sl Ex),1⟩:Law),(⟨[97,112,111,99,111,112,101],Pat.mk 0 (⟨0,0⟩:Qb) false 0 0 (Sl.nil:Sl Pat).n (Sl.nil:Sl Pat).g,Pat.mk 6 (⟨0,0⟩:Qb) false 0 0 (Sl.nil:Sl Pat).n (Sl.nil:Sl Pat).g,(Sl.of [(⟨4,0⟩:Qb)]:Sl Qb),(Sl.nil:Sl Ex),1⟩:Law)]:Sl Law).g i)) false),(10000,.vec X8 2 (Sl.of [(⟨-1,[112,114,111,116,111]⟩:Node),(⟨0,[119,101,115,116]⟩:Node),(⟨0,[101,97,115,116]⟩:Node),(⟨1,[110,111,114,116,104]⟩:Node),(⟨1,[115,111,117,116,104]⟩:Node)]:Sl Node).n (λi=>F4 ((Sl.of [(⟨-1,[112,114,111,116,111]⟩:Node),(⟨0,[119,101,115,116]⟩:Node),(⟨0,[101,97,115,116]⟩:Node),(⟨1,[110,111,114,116,104]⟩:Node),(⟨1,[115,111,117,116,104]⟩:Node)]:Sl Node).g i)) false),(1000,.cells [.p I3,.p I3,.p I3])]⟩ (ids:=(Qc [1000,10000,23000,24000,25000,26000])) ?_ (hle:=klR [(0,.fn 1 (Sl.of [1]:Sl Int).n (H2 [pI .i64 0] [(0,cI .i64 1)]) (λi=>cI .i64 ((Sl.of [1]:Sl Int).g i))),(1,.fn 2 (Sl.of [1,0]:Sl Int).n (H2 [pI .i64 0] [(0,cI .i64 1),(1,cI .i64 0)]) (λi=>cI .i64 ((Sl.of [1,0]:Sl Int).g i))),(2,.fn 1 (Sl.of [0]:Sl Int).n (H2 [pI .i64 0] [(0,cI .i64 0)]) (λi=>cI .i64 ((Sl.of [0]:Sl Int).g i)))] (al1 ⟨rfl,(λi a=>match i,a with|0,_=>rfl|_+1,a=>Hc a (by omega))⟩ (al1 ⟨rfl,(λi a=>match i,a with|0,_=>rfl|1,_=>rfl|_+2,a=>Hc a (by omega))⟩ (al1 ⟨rfl,(λi a=>match i,a with|0,_=>rfl|_+1,a=>Hc a (by omega))⟩ al0))));refine AV0 Z Ow 27 27000 (k:=1) (n:=5) (e:=KI) (vw:=false) (H2 [I3] [(0,[I3]),(1,cL 1 (cI .i64) (Sl.of [0]:Sl Int)),(2,cL 1 (cI .i64) (Sl.of [1,0]:Sl Int)),(3,cL 1 (cI .i64) (Sl.of [1]:Sl Int)),(4,[I3])]) (λi=>cL 1 (cI .i64) ((Sl.of [Ox,(Sl.of [0]:Sl Int),(Sl.of [1,0]:Sl Int),(Sl.of [1]:Sl Int),Ox]:Sl (Sl Int)).g i)) (λi a=>match i,a with|0,_=>leCn|1,_=>leCr _|2,_=>leCr _|3,_=>leCr _|4,_=>leCn|_+5,a=>Hc a (by omega)) ?_;refine I7 Z Jy 27 ⟨[(26,.p (vSl 1 (cL 1 (cI .i64)) (Sl.of [Ox,(Sl.of [0]:Sl Int),(Sl.of [1,0]:Sl Int),(Sl.of [1]:Sl Int),Ox]:Sl (Sl Int)))),(22,.p (vSl 18 B3 (Sl.of [(⟨[118,111,105,99,105,110,103],Pat.mk 1 (⟨4,0⟩:Qb) false 0 0 (Sl.nil:Sl Pat).n (Sl.nil:Sl Pat).g,Pat.mk 1 (⟨4,0⟩:Qb) false 0 0 (Sl.nil:Sl Pat).n (Sl.nil:Sl Pat).g,(Sl.of [(⟨2,0⟩:Qb)]:Sl Qb),(Sl.of [(⟨0,0,(⟨1,0⟩:Qb),0,0⟩:Ex)]:Sl Ex),1⟩:Law),(⟨[97,112,111,99,111,112,101],Pat.mk 0 (⟨0,0⟩:Qb) false 0 0 (Sl.nil:Sl Pat).n (Sl.nil:Sl Pat).g,Pat.mk 6 (⟨0,0⟩:Qb) false 0 0 (Sl.nil:Sl Pat).n (Sl.nil:Sl Pat).g,(Sl.of [(⟨4,0⟩:Qb)]:Sl Qb),(Sl.nil:Sl Ex),1⟩:Law)]:Sl Law))),(9,.p (vSl 2 F4 (Sl.of [(⟨-1,[112,114,111,116,111]⟩:Node),(⟨0,[119,101,115,116]⟩:Node),(⟨0,[101,97,115,116]⟩:Node),(⟨1,[110,111,114,116,104]⟩:Node),(⟨1,[115,111,117,116,104]⟩:Node)]:Sl Node))),(0,.reg 1000 0)],[(1000,.cells [.p I3,.p I3,.p I3])]⟩ (ids:=[(1000,1000)]) ?_;cases h;exact kR Z
def Iy (N:Nat)  : Option B4:= (Bu N [112]).bind λy1=>if ((0:Int)<=0/\0<(y1.n:Int))then (Bu N [98]).bind λy2=>if ((0:Int)<=0/\0<(y2.n:Int))then (Bu N [97]).bind λy3=>if ((0:Int)<=0/\0<(y3.n:Int))then (Ix N ).bind λy4=>(Fx N [97,112,97]).bind λy5=>(Fx N [112,97]).bind λy6=>(Fx N [63]).bind λy7=>(Gp N [111,110,101] (Sl.of [[97,112],[97,98],[97,98,97]]:Sl Str)).bind λy8=>(Gp N [116,119,111] (Sl.of [[112],[112,97],[63]]:Sl Str)).bind λy9=>(Gp N [116,104,114,101,101] (Sl.of [[63],[63],[98]]:Sl Str)).bind λa=>some (⟨(Sl.of [[118,111,105,99,101],[115,116,111,112],[118,111,119,101,108]]:Sl Str),(Sl.of [(⟨[112],y1.g 0⟩:G0),(⟨[98],y2.g 0⟩:G0),(⟨[97],y3.g 0⟩:G0)]:Sl G0),(Sl.nil:Sl GI),y4,(Sl.of [y5,y6,y7]:Sl K0),(Sl.of [y8,y9,a]:Sl Ub)⟩:B4) else none else none else none
theorem XU    {y:B4}(h:Iy N  = some y) :Qi S Nj [] [] (.p (.agg (A9 y))) ([]) []:=by unfold Iy at h;refine A1 Z func12 ?_;refine B5 Z Jy [1,2,3,5,6,7,9,10,11,14,15,16,17,20,22,24] ?_;refine O8 Jy (x:=.sl true 1 3 (H2 [.str []] [(0,cS [118,111,105,99,101]),(1,cS [115,116,111,112]),(2,cS [118,111,119,101,108])])) ?_;obtain⟨y1,e1,h⟩:=A7 h;refine F7 Jy (DZ Z Y e1) ?_;obtain⟨c1,h⟩:=B9 h;obtain⟨y2,e2,h⟩:=A7 h;refine F7 (Qe c1 Mn) (DZ Z Y e2) ?_;obtain⟨c2,h⟩:=B9 h;obtain⟨y3,e3,h⟩:=A7 h;refine F7 (Qe c2 Mn) (DZ Z Y e3) ?_;obtain⟨c3,h⟩:=B9 h;refine O8 (Qe c3 Mn) (x:=.sl true 3 3 (H2 [.str [],pI .u32 0,pI .u32 0] [(0,D3 (⟨[112],y1.g 0⟩:G0)),(1,D3 (⟨[98],y2.g 0⟩:G0)),(2,D3 (⟨[97],y3.g 0⟩:G0))])) ?_;obtain⟨y4,e4,h⟩:=A7 h;refine F7 Jy (XT Z Y e4) ?_;obtain⟨y5,e5,h⟩:=A7 h;refine F7 Jy (KK Z Y e5) ?_;obtain⟨y6,e6,h⟩:=A7 h;refine F7 Jy (KK Z Y e6) ?_;obtain⟨y7,e7,h⟩:=A7 h;refine F7 Jy (KK Z Y e7) ?_;refine O8 Jy (x:=.sl true 2 3 (H2 [.v (.bool false),I3] [(0,F2 y5),(1,F2 y6),(2,F2 y7)])) ?_;refine O8 Jy (x:=.sl true 1 3 (H2 [.str []] [(0,cS [97,112]),(1,cS [97,98]),(2,cS [97,98,97])])) ?_;obtain⟨y8,e8,h⟩:=A7 h;refine F7 Jy (Qi.le Z (args:=[(.p (.str [111,110,101])),.p (.sl true 1 3 (H2 [.str []] [(0,cS [97,112]),(1,cS [97,98]),(2,cS [97,98,97])]))]) (by exact⟨.inl rfl,⟨ML rfl (λi a=>match i,a with|0,_=>rfl|1,_=>rfl|2,_=>rfl|_+3,a=>Hc a (by omega)),trivial⟩⟩) (My Z Y e8)) ?_;refine O8 Jy (x:=.sl true 1 3 (H2 [.str []] [(0,cS [112]),(1,cS [112,97]),(2,cS [63])])) ?_;obtain⟨y9,e9,h⟩:=A7 h;refine F7 Jy (Qi.le Z (args:=[(.p (.str [116,119,111])),.p (.sl true 1 3 (H2 [.str []] [(0,cS [112]),(1,cS [112,97]),(2,cS [63])]))]) (by exact⟨.inl rfl,⟨ML rfl (λi a=>match i,a with|0,_=>rfl|1,_=>rfl|2,_=>rfl|_+3,a=>Hc a (by omega)),trivial⟩⟩) (My Z Y e9)) ?_;refine O8 Jy (x:=.sl true 1 3 (H2 [.str []] [(0,cS [63]),(1,cS [63]),(2,cS [98])])) ?_;obtain⟨b,e10,h⟩:=A7 h;refine F7 Jy (Qi.le Z (args:=[(.p (.str [116,104,114,101,101])),.p (.sl true 1 3 (H2 [.str []] [(0,cS [63]),(1,cS [63]),(2,cS [98])]))]) (by exact⟨.inl rfl,⟨ML rfl (λi a=>match i,a with|0,_=>rfl|1,_=>rfl|2,_=>rfl|_+3,a=>Hc a (by omega)),trivial⟩⟩) (My Z Y e10)) ?_;refine O8 Jy (x:=.sl true 2 3 (H2 [.str [],I3] [(0,H0 y8),(1,H0 y9),(2,H0 b)])) ?_;refine C7 Jy ?_;obtain rfl:=A6 h;exact P3 Z Jy ⟨[(0,.reg 1000 0)],[(1000,.cells [.p (vSl 1 cS (Sl.of [[118,111,105,99,101],[115,116,111,112],[118,111,119,101,108]]:Sl Str)),.p (vSl 3 D3 (Sl.of [(⟨[112],y1.g 0⟩:G0),(⟨[98],y2.g 0⟩:G0),(⟨[97],y3.g 0⟩:G0)]:Sl G0)),.p (vSl 4 R8 (Sl.nil:Sl GI)),.p (vSl 2 F4 y4.Tree),.p (vSl 18 B3 y4.Laws),.p (vSl 1 (cL 1 (cI .i64)) y4.On),.p (vSl 2 F2 (Sl.of [y5,y6,y7]:Sl K0)),.p (vSl 2 H0 (Sl.of [y8,y9,b]:Sl Ub))])]⟩ [] (ids:=[(1000,1000)]) ⟨rfl,rfl,rfl⟩ (hle:=klR [(0,.fn 3 (Sl.of [[118,111,105,99,101],[115,116,111,112],[118,111,119,101,108]]:Sl Str).n (H2 [.str []] [(0,cS [118,111,105,99,101]),(1,cS [115,116,111,112]),(2,cS [118,111,119,101,108])]) (λi=>cS ((Sl.of [[118,111,105,99,101],[115,116,111,112],[118,111,119,101,108]]:Sl Str).g i))),(1,.fn 3 (Sl.of [(⟨[112],y1.g 0⟩:G0),(⟨[98],y2.g 0⟩:G0),(⟨[97],y3.g 0⟩:G0)]:Sl G0).n (H2 [.str [],pI .u32 0,pI .u32 0] [(0,D3 (⟨[112],y1.g 0⟩:G0)),(1,D3 (⟨[98],y2.g 0⟩:G0)),(2,D3 (⟨[97],y3.g 0⟩:G0))]) (λi=>D3 ((Sl.of [(⟨[112],y1.g 0⟩:G0),(⟨[98],y2.g 0⟩:G0),(⟨[97],y3.g 0⟩:G0)]:Sl G0).g i))),(6,.fn 3 (Sl.of [y5,y6,y7]:Sl K0).n (H2 [.v (.bool false),I3] [(0,F2 y5),(1,F2 y6),(2,F2 y7)]) (λi=>F2 ((Sl.of [y5,y6,y7]:Sl K0).g i))),(7,.fn 3 (Sl.of [y8,y9,b]:Sl Ub).n (H2 [.str [],I3] [(0,H0 y8),(1,H0 y9),(2,H0 b)]) (λi=>H0 ((Sl.of [y8,y9,b]:Sl Ub).g i)))] (al1 ⟨rfl,(λi a=>match i,a with|0,_=>rfl|1,_=>rfl|2,_=>rfl|_+3,a=>Hc a (by omega))⟩ (al1 ⟨rfl,(λi a=>match i,a with|0,_=>rfl|1,_=>rfl|2,_=>rfl|_+3,a=>Hc a (by omega))⟩ (al1 ⟨rfl,(λi a=>match i,a with|0,_=>rfl|1,_=>rfl|2,_=>rfl|_+3,a=>Hc a (by omega))⟩ (al1 ⟨rfl,(λi a=>match i,a with|0,_=>rfl|1,_=>rfl|2,_=>rfl|_+3,a=>Hc a (by omega))⟩ al0)))))
def Bv (N:Nat)  : Option Nh:= some (⟨(Sl.of [(⟨1,1,1,5⟩:C9),(⟨2,2,2,5⟩:C9)]:Sl C9),(Sl.of [(⟨2,0,0,0⟩:Lm)]:Sl Lm)⟩:Nh)
theorem Ea    {y:Nh}(h:Bv N  = some y) :Qi S Vm [] [] (.p (.agg (Rr y))) ([]) []:=by unfold Bv at h;refine A1 Z func15 ?_;obtain rfl:=A6 h;exact P3 Z (Qe Ow Ow) ⟨[(0,.reg 1000 0)],[(1000,.cells [.p (vSl 4 D1 (Sl.of [(⟨1,1,1,5⟩:C9),(⟨2,2,2,5⟩:C9)]:Sl C9)),.p (vSl 4 Z9 (Sl.of [(⟨2,0,0,0⟩:Lm)]:Sl Lm))])]⟩ [] (ids:=[(1000,1000)]) ⟨rfl,rfl,rfl⟩ (hle:=kl2 0 1 (AP0 D1 ([(⟨1,1,1,5⟩:C9),(⟨2,2,2,5⟩:C9)]:List C9) [pI .i64 0,pI .i64 0,pI .i64 0,pI .i64 0]) (AP0 Z9 ([(⟨2,0,0,0⟩:Lm)]:List Lm) [pI .i64 0,pI .i64 0,pI .i64 0,pI .i64 0]))
def Ba (N:Nat)  : Option Bool:= (Iy N ).bind λy1=>(EH N y1 5).bind λy2=>(Bv N ).bind λy3=>(Eo N y1 5 y3).bind λy4=>(Bv N ).bind λy5=>(Eo N y1 4 y5).bind λy6=>(Bv N ).bind λy7=>(Kf N y1 y7).bind λy8=>(Kd N y1 (⟨2,0,1,0⟩:Lm)).bind λy9=>(Bv N ).bind λi=>(Iw N y1 i).bind λd=>(Bu N [97,112,97]).bind λj=>(Bu N [112,97]).bind λl=>(Bu N [112,97,97]).bind λm=>(Bt N y1 (Sl.of [j,l,m]:Sl (Sl Qb)) 1 5).bind λf=>if (y2.2==0) then if (y4.2==0) then if (y6.2==0) then if (y8.2==0) then if (y9.2==0) then if (d.2==0) then if (f.2==0) then if ((y2.1.Bad.n:Int)==2) then if ((y2.1.Sw.n:Int)==1) then if ((0:Int)<=0/\0<(y2.1.Bad.n:Int))then (Bv N ).bind λa=>if ((0:Int)<=0/\0<(a.Bad.n:Int))then if ((((y2.1.Bad.g 0).Ub==(a.Bad.g 0).Ub)&&(((y2.1.Bad.g 0).Sd==(a.Bad.g 0).Sd)&&(((y2.1.Bad.g 0).Kind==(a.Bad.g 0).Kind)&&((y2.1.Bad.g 0).Cost==(a.Bad.g 0).Cost)))) != false) then if ((0:Int)<=1/\1<(y2.1.Bad.n:Int))then (Bv N ).bind λb=>if ((0:Int)<=1/\1<(b.Bad.n:Int))then if ((((y2.1.Bad.g 1).Ub==(b.Bad.g 1).Ub)&&(((y2.1.Bad.g 1).Sd==(b.Bad.g 1).Sd)&&(((y2.1.Bad.g 1).Kind==(b.Bad.g 1).Kind)&&((y2.1.Bad.g 1).Cost==(b.Bad.g 1).Cost)))) != false) then if ((0:Int)<=0/\0<(y2.1.Sw.n:Int))then (Bv N ).bind λc=>if ((0:Int)<=0/\0<(c.Sw.n:Int))then if ((((y2.1.Sw.g 0).Node==(c.Sw.g 0).Node)&&(((y2.1.Sw.g 0).Place==(c.Sw.g 0).Place)&&(((y2.1.Sw.g 0).Ub==(c.Sw.g 0).Ub)&&((y2.1.Sw.g 0).Sd==(c.Sw.g 0).Sd)))) != false) then if y4.1 then if (!y6.1) then if ((y8.1==[98,97,100,32,116,119,111,32,110,111,114,116,104,32,111,116,104,101,114,32,53,10,98,97,100,32,116,104,114,101,101,32,115,111,117,116,104,32,110,111,110,101,32,53,10,115,119,97,112,32,101,97,115,116,32,97,112,111,99,111,112,101,32,118,111,105,99,105,110,103,32,111,110,101,32,101,97,115,116,10]) != false) then if (!y9.1) then if d.1 then some (f.1==1) else some false else some false else some false else some false else some false else some false else none else none else some false else none else none else some false else none else none else some false else some false else some false else some false else some false else some false else some false else some false else some false
theorem Mz    {y:Bool}(h:Ba N  = some y) :Qi S Ru [] [] (pB y) ([]) []:=by
 unfold Ba at h;refine A1 Z func5 ?_;refine kC Z h (XU Z Y) (λy1 h=>?_);refine D9 Z Jy 18 2000 (A9 y1) ?_;obtain⟨y2,e2,h⟩:=A7 h;refine A8 Z [] (by decide:(8:Nat)<=8) (Ke Z Y e2) ?_;refine D9 Z Jy 3 3000 [vSl 4 D1 y2.1.Bad,vSl 4 Z9 y2.1.Sw] ?_;refine B5 Z Jy [0,1,2] ?_;obtain⟨y3,e3,h⟩:=A7 h;refine F7 (by decide:(8:Nat)<=8) (Ea Z Y e3) ?_;obtain⟨y4,e4,h⟩:=A7 h;refine F7 Jy (LU Z Y e4) ?_;refine C7 Jy ?_;refine B5 Z Jy [0,1,2] ?_;obtain⟨y5,e5,h⟩:=A7 h;refine F7 (by decide:(8:Nat)<=8) (Ea Z Y e5) ?_;obtain⟨y6,e6,h⟩:=A7 h;refine F7 Jy (LU Z Y e6) ?_;refine C7 Jy ?_;refine B5 Z Jy [0,1,2] ?_;obtain⟨y7,e7,h⟩:=A7 h;refine F7 (by decide:(8:Nat)<=8) (Ea Z Y e7) ?_;obtain⟨y8,e8,h⟩:=A7 h;refine F7 Jy (Ae0 Z Y e8) ?_;refine C7 Jy ?_;obtain⟨y9,e9,h⟩:=A7 h;refine A8 Z [] (by decide:(8:Nat)<=8) (Ad9 Z Y e9) ?_;refine B5 Z Jy [0,1,2] ?_;obtain⟨r,e10,h⟩:=A7 h;refine F7 (by decide:(8:Nat)<=8) (Ea Z Y e10) ?_;obtain⟨f,e11,h⟩:=A7 h;refine F7 Jy (XS Z Y e11) ?_;refine C7 Jy ?_;refine B5 Z Jy [0,1,2,3,5] ?_;obtain⟨j,e12,h⟩:=A7 h;refine F7 (by decide:(8:Nat)<=8) (DZ Z Y e12) ?_;obtain⟨l,e13,h⟩:=A7 h;refine F7 Jy (DZ Z Y e13) ?_;obtain⟨m,e14,h⟩:=A7 h;refine F7 Jy (DZ Z Y e14) ?_;refine O8 Jy (x:=.sl true 1 3 (H2 [I3] [(0,cL 2 A0 j),(1,cL 2 A0 l),(2,cL 2 A0 m)])) ?_;obtain⟨o,e15,h⟩:=A7 h;refine F7 Jy (Qi.le Z (args:=[(.p (.agg (A9 y1))),.p (.sl true 1 3 (H2 [I3] [(0,cL 2 A0 j),(1,cL 2 A0 l),(2,cL 2 A0 m)])),pN 1,pN 5]) (by exact⟨.inl rfl,⟨ML rfl (λi q=>match i,q with|0,_=>rfl|1,_=>rfl|2,_=>rfl|_+3,q=>Hc q (by omega)),⟨.inl rfl,⟨.inl rfl,trivial⟩⟩⟩⟩) (NQ Z Y e15)) ?_;refine C7 Jy ?_;refine B5 Z Jy [28,34,40,41,42,43,45,46,51,52,53,54,56,57,62,63,64,65,67,68] ?_;refine S7 Jy (b:=y2.2==0) (λc1=>?_) (λc1=>?_)
 .replace h:=itT c1 h;refine S7 Jy (b:=y4.2==0) (λc2=>?_) (λc2=>?_)
  .replace h:=itT c2 h;refine S7 Jy (b:=y6.2==0) (λc3=>?_) (λc3=>?_)
   .replace h:=itT c3 h;refine S7 Jy (b:=y8.2==0) (λc4=>?_) (λc4=>?_)
    .replace h:=itT c4 h;refine S7 Jy (b:=y9.2==0) (λc5=>?_) (λc5=>?_)
     .replace h:=itT c5 h;refine S7 Jy (b:=f.2==0) (λc6=>?_) (λc6=>?_)
      .replace h:=itT c6 h;refine S7 Jy (b:=o.2==0) (λc7=>?_) (λc7=>?_)
       .replace h:=itT c7 h;refine S7 Jy (b:=(y2.1.Bad.n:Int)==2) (λc8=>?_) (λc8=>?_)
        .replace h:=itT c8 h;refine S7 Jy (b:=(y2.1.Sw.n:Int)==1) (λc9=>?_) (λc9=>?_)
         .replace h:=itT c9 h;obtain⟨c10,h⟩:=B9 h;obtain⟨a,e16,h⟩:=A7 h;refine F7 (Qe c10 Mq) (Ea Z Y e16) ?_;obtain⟨c11,h⟩:=B9 h;refine S7 (Qe (Qe c11 Mq) (by decide +kernel:QK Tryz.prog AJ=true)) (b:=(((y2.1.Bad.g 0).Ub==(a.Bad.g 0).Ub)&&(((y2.1.Bad.g 0).Sd==(a.Bad.g 0).Sd)&&(((y2.1.Bad.g 0).Kind==(a.Bad.g 0).Kind)&&((y2.1.Bad.g 0).Cost==(a.Bad.g 0).Cost)))) != false) (λc12=>?_) (λc12=>?_)
          .replace h:=itT c12 h;obtain⟨c13,h⟩:=B9 h;obtain⟨c,e17,h⟩:=A7 h;refine F7 (Qe c13 Mq) (Ea Z Y e17) ?_;obtain⟨c14,h⟩:=B9 h;refine S7 (Qe (Qe c14 Mq) (by decide +kernel:QK Tryz.prog AJ=true)) (b:=(((y2.1.Bad.g 1).Ub==(c.Bad.g 1).Ub)&&(((y2.1.Bad.g 1).Sd==(c.Bad.g 1).Sd)&&(((y2.1.Bad.g 1).Kind==(c.Bad.g 1).Kind)&&((y2.1.Bad.g 1).Cost==(c.Bad.g 1).Cost)))) != false) (λc15=>?_) (λc15=>?_)
           .replace h:=itT c15 h;obtain⟨c16,h⟩:=B9 h;obtain⟨d,e18,h⟩:=A7 h;refine F7 (Qe c16 Mq) (Ea Z Y e18) ?_;obtain⟨c17,h⟩:=B9 h;refine S7 (Qe (Qe c17 Mq) (by decide +kernel:QK Tryz.prog HA=true)) (b:=(((y2.1.Sw.g 0).Node==(d.Sw.g 0).Node)&&(((y2.1.Sw.g 0).Place==(d.Sw.g 0).Place)&&(((y2.1.Sw.g 0).Ub==(d.Sw.g 0).Ub)&&((y2.1.Sw.g 0).Sd==(d.Sw.g 0).Sd)))) != false) (λc18=>?_) (λc18=>?_)
            .replace h:=itT c18 h;refine S7 Jy (b:=y4.1) (λc19=>?_) (λc19=>?_)
             .replace h:=itT c19 h;refine S7 Jy (b:=!y6.1) (λc20=>?_) (λc20=>?_)
              .replace h:=itT c20 h;refine S7 Jy (b:=(y8.1==[98,97,100,32,116,119,111,32,110,111,114,116,104,32,111,116,104,101,114,32,53,10,98,97,100,32,116,104,114,101,101,32,115,111,117,116,104,32,110,111,110,101,32,53,10,115,119,97,112,32,101,97,115,116,32,97,112,111,99,111,112,101,32,118,111,105,99,105,110,103,32,111,110,101,32,101,97,115,116,10]) != false) (λc21=>?_) (λc21=>?_)
               .replace h:=itT c21 h;refine S7 Jy (b:=!y9.1) (λc22=>?_) (λc22=>?_)
                .replace h:=itT c22 h;refine S7 Jy (b:=f.1) (λc23=>?_) (λc23=>?_)
                 .replace h:=itT c23 h;refine C7 Jy ?_;cases h;exact kR Z
                 replace h:=itF c23 h;refine C7 Jy ?_;cases h;exact kR Z
                replace h:=itF c22 h;refine C7 Jy ?_;cases h;exact kR Z
               replace h:=itF c21 h;refine C7 Jy ?_;cases h;exact kR Z
              replace h:=itF c20 h;refine C7 Jy ?_;cases h;exact kR Z
             replace h:=itF c19 h;refine C7 Jy ?_;cases h;exact kR Z
            replace h:=itF c18 h;refine C7 Jy ?_;cases h;exact kR Z
           replace h:=itF c15 h;refine C7 Jy ?_;cases h;exact kR Z
          replace h:=itF c12 h;refine C7 Jy ?_;cases h;exact kR Z
         replace h:=itF c9 h;refine C7 Jy ?_;cases h;exact kR Z
        replace h:=itF c8 h;refine C7 Jy ?_;cases h;exact kR Z
       replace h:=itF c7 h;refine C7 Jy ?_;cases h;exact kR Z
      replace h:=itF c6 h;refine C7 Jy ?_;cases h;exact kR Z
     replace h:=itF c5 h;refine C7 Jy ?_;cases h;exact kR Z
    replace h:=itF c4 h;refine C7 Jy ?_;cases h;exact kR Z
   replace h:=itF c3 h;refine C7 Jy ?_;cases h;exact kR Z
  replace h:=itF c2 h;refine C7 Jy ?_;cases h;exact kR Z
 replace h:=itF c1 h;refine C7 Jy ?_;cases h;exact kR Z
def G9 (N:Nat)(a:Qb):Option Bool:= O7 N (λb (x1:Int)=>if (decide (x1<32)) then if ((0:Int)<=x1/\(0:Int)<=x1)then if ((((E6 .and .u32 (shI .shr .u32 a.Plus x1) 1)==1)&&((E6 .and .u32 (shI .shr .u32 a.Minus x1) 1)==1))||((((E6 .and .u32 (shI .shr .u32 a.Plus x1) 1)==1)||((E6 .and .u32 (shI .shr .u32 a.Minus x1) 1)==1))&&(decide (24<=x1)))) then some false else b (wrap .i64 (x1+1)) else none else some true) 0
theorem U9 {b:Qb}{y:Bool}(h:G9 N b=some y) :Qi S RO [.p (.agg (A0 b))] [] (pB y) ([]) []:=by
 unfold G9 at h;refine A1 Z func61 ?_;refine F1 Z Jy h (λx1=>⟨[(3,pN x1),(1,.reg 2000 0)],[(2000,.cells [pU b.Plus,pU b.Minus])]⟩) (ids:=[(2000,2000)]) (λ_ _ _ _ _ c x1 d h=>?_);apply kI Z h<;>intro h
 .obtain⟨c7,h⟩:=B9 h;refine kB Z (A3 Z) c7 Jy 12 (.o (.n (.a ((E6 .and .u32 (shI .shr .u32 b.Plus x1) 1)==1)) (.a ((E6 .and .u32 (shI .shr .u32 b.Minus x1) 1)==1))) (.n (.o (.a ((E6 .and .u32 (shI .shr .u32 b.Plus x1) 1)==1)) (.a ((E6 .and .u32 (shI .shr .u32 b.Minus x1) 1)==1))) (.a (decide (24<=x1))))) ?_;refine Ug Z h fun h=>?_;exact d _ [(2000,2000)] _ _ Jy h
 cases h;exact kR Z
def Dz (N:Nat)(a:Int):Option Bool:= some ((decide (0<=a))&&(decide (a<24)))
theorem XV {b:Int}{y:Bool}(h:Dz N b=some y) :Qi S NA [pN b] [] (pB y) ([]) []:=by unfold Dz at h;refine A1 Z func229 ?_;refine kB Z (A3 Z) Jy Jy 3 (.n (.a (decide (0<=b))) (.a (decide (b<24)))) ?_;cases h;exact kR Z
def W2 (N:Nat)(b:Qb)(a:Int):Option Int:= (G9 N b).bind λy1=>lt (λ(z1:Bool)=>if z1 then some 0 else if (0:Int)<=a then if ((E6 .and .u32 (shI .shr .u32 b.Plus a) 1)==1) then some 1 else if (0:Int)<=a then if ((E6 .and .u32 (shI .shr .u32 b.Minus a) 1)==1) then some (-1) else some 0 else none else none) λk1=>if (!y1) then k1 true else (Dz N a).bind λy3=>k1 (!y3)
theorem EI {a:Qb}{c:Int}{y:Int}(h:W2 N a c=some y) :Qi S Aa8 [.p (.agg (A0 a)),pN c] [] (pN y) ([]) []:=by
 unfold W2 at h;refine A1 Z func217 ?_;refine kC Z h (U9 Z Y) (λy1 h=>?_);refine GN Z Jy (A3 Z) h 0 (λz1=>⟨[(12,pB z1),(2,.reg 3000 0),(1,pN c)],[(3000,.cells [pU a.Plus,pU a.Minus])]⟩) (λM1 k1 d h=>?_) (λz1 h=>?_)
 .refine kG Z h (λh=>?_) (λh=>?_)
  .exact d _ [(3000,3000)] _ _ Jy h
  refine kC Z h (XV Z Y) (λy3 h=>?_);exact d _ [(3000,3000)] _ _ Jy h
 refine Ug Z h fun h=>?_;obtain⟨c5,h⟩:=B9 h;refine C6 Z c5 (b:=(E6 .and .u32 (shI .shr .u32 a.Plus c) 1)==1) (λc6=>?_) (λc6=>?_)
 .replace h:=itT c6 h;cases h;exact kR Z
 replace h:=itF c6 h;obtain⟨c7,h⟩:=B9 h;refine C6 Z c7 (b:=(E6 .and .u32 (shI .shr .u32 a.Minus c) 1)==1) (λc8=>?_) (λc8=>?_)
 .replace h:=itT c8 h;cases h;exact kR Z
 replace h:=itF c8 h;cases h;exact kR Z
def W7 (N:Nat)(a:Qb):Option Bool:= some ((((E6 .and .u32 a.Plus a.Minus)==0)&&(decide (a.Plus<16777216)))&&(decide (a.Minus<16777216)))
theorem ST {b:Qb}{y:Bool}(h:W7 N b=some y) :Qi S RM [.p (.agg (A0 b))] [] (pB y) ([]) []:=by unfold W7 at h;refine A1 Z func54 ?_;refine kB Z (A3 Z) Jy Jy 9 (.n (.n (.a ((E6 .and .u32 b.Plus b.Minus)==0)) (.a (decide (b.Plus<16777216)))) (.a (decide (b.Minus<16777216)))) ?_;cases h;exact kR Z
def W8 (N:Nat)(a:Sl Qb):Option Int:= if (decide (32<(a.n:Int))) then some 11 else O7 N (λb (x1:Int)=>if (decide (x1<(a.n:Int))) then if ((0:Int)<=x1/\x1<(a.n:Int))then (W7 N (a.g x1.toNat)).bind λy3=>if (!y3) then some 14 else b (wrap .i64 (x1+1)) else none else some 0) 0
theorem Eb {a:Sl Qb}{y:Int}(h:W8 N a=some y) :Qi S RC [.p (vSl 2 A0 a)] [] (pN y) ([]) []:=by
 unfold W8 at h;refine A1 Z func25 ?_;refine Ug Z h fun h=>?_;refine F1 Z Jy h (λx1=>⟨[(3,pN x1),(0,.p (vSl 2 A0 a))],[]⟩) (ids:=[]) (λ_ _ _ _ _ b x1 c h=>?_);apply kI Z h<;>intro h
 .obtain⟨c9,h⟩:=B9 h;obtain⟨y3,e3,h⟩:=A7 h;refine A8 Z [] (Qe c9 Mn) (ST Z Y e3) ?_;refine Ug Z h fun h=>?_;exact c _ [] _ _ Jy h
 cases h;exact kR Z
def HF (N:Nat)(a:Pat):Option Int:= if ((decide (a.Kind<0))||(decide (6<a.Kind))) then some 2 else if ((a.Kind != 1)&&((((a.Is.Plus==0)&&(a.Is.Minus==0)) != true)||a.Not)) then some 2 else lt (λ(z1:Bool)=>if z1 then some 2 else if ((a.Kind != 5)&&((a.Min != 0)||(a.Max != 0))) then some 2 else lt (λ(z2:Bool)=>if z2 then some 2 else (W7 N a.Is).bind λy1=>if (!y1) then some 14 else some 0) λk2=>if (a.Kind==5) then if ((a.L.n:Int) != 1) then k2 true else if (decide (a.Min<0)) then k2 true else if (decide (32<a.Min)) then k2 true else if (a.Max != (-1)) then if (decide (a.Max<a.Min)) then k2 true else k2 (decide (32<a.Max)) else k2 false else k2 false) λk1=>if (a.Kind != 3) then if (a.Kind != 4) then if (a.Kind != 5) then k1 (decide (0<(a.L.n:Int))) else k1 false else k1 false else k1 false
theorem AK8 {c:Pat}{y:Int}(h:HF N c=some y) :Qi S Vw [.p (.agg (B7 c))] [] (pN y) ([]) []:=by
 unfold HF at h;refine A1 Z func126 ?_;refine kB Z (A3 Z) Jy Jy 4 (.o (.a (decide (c.Kind<0))) (.a (decide (6<c.Kind)))) ?_;refine Ug Z h fun h=>?_;obtain⟨t1,f⟩:∃x:Bool,x=((c.Kind != 1)&&((((c.Is.Plus==0)&&(c.Is.Minus==0)) != true)||c.Not)):=⟨_,rfl⟩;refine Zu Z Jy (A3 Z) 0 ⟨[(23,pB t1),(1,.reg 2000 0)],[(2000,.cells ((B7 c).map .p))]⟩ (λM1 l=>?_) ?_
 .refine FS Z Jy (b:=c.Kind != 1) (λc4=>?_) (λc4=>?_)
  .refine FS Z (by decide +kernel:QK Tryz.prog B1=true) (b:=((c.Is.Plus==0)&&(c.Is.Minus==0)) != true) (λc5=>?_) (λc5=>?_)
   .exact l _ [(2000,2000)] _ Jy (hle:=klR [(0,.eq (.bb true) (.bb t1))] (al1 (by simp only[f,c4,c5,Sd.ok,pm,Hu,Ih]) al0))
   exact l _ [(2000,2000)] _ Jy (hle:=klR [(0,.eq (.bb c.Not) (.bb t1))] (al1 (by simp only[f,c4,c5,Sd.ok,pm,Hu,Ih]) al0))
  exact l _ [(2000,2000)] _ Jy (hle:=klR [(0,.eq (.bb false) (.bb t1))] (al1 (by simp only[f,c4,Sd.ok,pm,Hu,Ih]) al0))
 subst f;refine Ug Z h fun h=>?_;refine GN Z Jy (A3 Z) h 0 (λz1=>⟨[(42,pB z1),(1,.reg 2000 0)],[(2000,.cells ((B7 c).map .p))]⟩) (λM2 k1 j h=>?_) (λz1 h=>?_)
 .refine kG Z h (λh=>?_) (λh=>?_)
  .refine kG Z h (λh=>?_) (λh=>?_)
   .refine kG Z h (λh=>?_) (λh=>?_)
    .refine I7 Z Jy 40 ⟨[(39,.p (vSl 7 B7 c.L)),(37,.p (.v (.bool true))),(1,.reg 2000 0)],[(2000,.cells ((B7 c).map .p))]⟩ (ids:=[(2000,2000)]) ?_ (hle:=klR [(0,.fn c.L.n c.L.n (CA c) (λi=>B7 (c.L.g i)))] (al1 ⟨rfl,P7 c⟩ al0));exact j _ [(2000,2000)] _ _ Jy h
    exact j _ [(2000,2000)] _ _ Jy h
   exact j _ [(2000,2000)] _ _ Jy h
  exact j _ [(2000,2000)] _ _ Jy h
 refine Ug Z h fun h=>?_;refine kB Z (A3 Z) Jy Jy 9 (.n (.a (c.Kind != 5)) (.o (.a (c.Min != 0)) (.a (c.Max != 0)))) ?_;refine Ug Z h fun h=>?_;refine GN Z Jy (A3 Z) h 0 (λz2=>⟨[(91,pB z2),(1,.reg 2000 0)],[(2000,.cells ((B7 c).map .p))]⟩) (λM3 k2 d h=>?_) (λz2 h=>?_)
 .refine kG Z h (λh=>?_) (λh=>?_)
  .refine I7 Z Jy 62 ⟨[(61,.p (vSl 7 B7 c.L)),(59,.p (.v (.bool true))),(1,.reg 2000 0)],[(2000,.cells ((B7 c).map .p))]⟩ (ids:=[(2000,2000)]) ?_ (hle:=klR [(0,.fn c.L.n c.L.n (CA c) (λi=>B7 (c.L.g i)))] (al1 ⟨rfl,P7 c⟩ al0));refine kG Z h (λh=>?_) (λh=>?_)
   .exact d _ [(2000,2000)] _ _ Jy h
   refine kG Z h (λh=>?_) (λh=>?_)
   .exact d _ [(2000,2000)] _ _ Jy h
   refine kG Z h (λh=>?_) (λh=>?_)
   .exact d _ [(2000,2000)] _ _ Jy h
   refine kG Z h (λh=>?_) (λh=>?_)
   .refine kG Z h (λh=>?_) (λh=>?_)
    .exact d _ [(2000,2000)] _ _ Jy h
    exact d _ [(2000,2000)] _ _ Jy h
   exact d _ [(2000,2000)] _ _ Jy h
  exact d _ [(2000,2000)] _ _ Jy h
 refine Ug Z h fun h=>?_;refine kC Z h (ST Z Y) (λy1 h=>?_);refine Ug Z h fun h=>?_;cases h;exact kR Z
def Bb (rec:Pat->Int->Option (Int×Int))(N:Nat)(b:Pat)(a:Int):Option (Int×Int):= if (a==40) then some (a,12) else (HF N b).bind λy1=>if (y1 != 0) then some (a,y1) else Y4 N (λc (x1:Int) (x2:Int)=>if (decide (x2<(b.L.n:Int))) then if ((0:Int)<=x2/\x2<(b.L.n:Int))then (rec (b.L.g x2.toNat) x1).bind λy4=>if (y4.2 != 0) then some (y4.1,y4.2) else c y4.1 (wrap .i64 (x2+1)) else none else some (x1,0)) (wrap .i64 (a+1)) 0
def Fy:Nat->Pat->Int->Option (Int×Int)
 |0=>λ_ _=>none
 |N+1=>Bb (Fy N) N
theorem As0 {rec:Pat->Int->Option (Int×Int)}(c:∀{a:Pat}{b:Int}{y:Int×Int},rec a b=some y->Qi S KH [.p (.agg (B7 a)),pN b] [] (.tup [pN y.1,pN y.2]) ([]) []){a:Pat}{b:Int}{y:Int×Int}(h:Bb rec N a b=some y) :Qi S KH [.p (.agg (B7 a)),pN b] [] (.tup [pN y.1,pN y.2]) ([]) []:=by
 unfold Bb at h;refine A1 Z func87 ?_;refine Ug Z h fun h=>?_;refine kC Z h (AK8 Z Y) (λy1 h=>?_);refine Ug Z h fun h=>?_;refine G2 Z Jy h (λx1 x2=>⟨[(8,pN x2),(7,pN x1),(2,.reg 3000 0)],[(3000,.cells ((B7 a).map .p))]⟩) (ids:=[(3000,3000)]) (λ_ _ _ _ _ d x1 x2 f h=>?_);refine I7 Z Jy 23 ⟨[(22,.p (vSl 7 B7 a.L)),(20,pN x2),(8,pN x2),(7,pN x1),(2,.reg 3000 0)],[(3000,.cells ((B7 a).map .p))]⟩ (ids:=[(3000,3000)]) ?_ (hle:=klR [(0,.fn a.L.n a.L.n (CA a) (λi=>B7 (a.L.g i)))] (al1 ⟨rfl,P7 a⟩ al0));apply kI Z h<;>intro h
 .refine I7 Z Jy 31 ⟨[(30,pN x2),(29,.p (vSl 7 B7 a.L)),(8,pN x2),(7,pN x1),(2,.reg 3000 0)],[(3000,.cells ((B7 a).map .p))]⟩ (ids:=[(3000,3000)]) ?_ (hle:=klR [(1,.fn a.L.n a.L.n (CA a) (λi=>B7 (a.L.g i)))] (al1 ⟨rfl,P7 a⟩ al0));obtain⟨c10,h⟩:=B9 h;obtain⟨y4,e4,h⟩:=A7 h;refine A8 Z [] (Qe c10 Nt) (c e4) ?_;refine Ug Z h fun h=>?_;exact f _ [(3000,3000)] _ _ _ Jy h
 cases h;exact kR Z
theorem AK9 {b:Pat}{a:Int}{y:Int×Int}(h:Fy N b a=some y) :Qi S KH [.p (.agg (B7 b)),pN a] [] (.tup [pN y.1,pN y.2]) ([]) []:=by
 induction N generalizing b a y with
 |zero=>cases (show (none:Option (Int×Int))=some y from h)
 |succ N ih=>exact As0 Z Y (λe=>ih e) h
def CQ (N:Nat)(a:Pat):Option Int:= (Fy N a 0).bind λy1=>some y1.2
theorem MA {a:Pat}{y:Int}(h:CQ N a=some y) :Qi S RN [.p (.agg (B7 a))] [] (pN y) ([]) []:=by unfold CQ at h;refine A1 Z func60 ?_;refine kC Z h (AK9 Z Y) (λy1 h=>?_);cases h;exact kR Z
def Ec (N:Nat)(a:Str):Option Bool:= O7 N (λb (x1:Int)=>if (decide (x1<(a.length:Int))) then if ((0:Int)<=x1/\x1<(a.length:Int))then if (!(((((decide (97<=(F0 a x1)))&&(decide ((F0 a x1)<=122)))||((decide (65<=(F0 a x1)))&&(decide ((F0 a x1)<=90))))||((decide (48<=(F0 a x1)))&&(decide ((F0 a x1)<=57))))||((F0 a x1)==45))) then some false else b (wrap .i64 (x1+1)) else none else some ((decide (1<=(a.length:Int)))&&(decide ((a.length:Int)<=24)))) 0
theorem AL0 {b:Str}{y:Bool}(h:Ec N b=some y) :Qi S Vs [.p (.str b)] [] (pB y) ([]) []:=by
 unfold Ec at h;refine A1 Z func59 ?_;refine F1 Z Jy h (λx1=>⟨[(3,pN x1),(0,.p (.str b))],[]⟩) (ids:=[]) (λ_ _ _ _ _ c x1 d h=>?_);apply kI Z h<;>intro h
 .obtain⟨c8,h⟩:=B9 h;refine kB Z (A3 Z) c8 Jy 23 (.o (.o (.o (.n (.a (decide (97<=(F0 b x1)))) (.a (decide ((F0 b x1)<=122)))) (.n (.a (decide (65<=(F0 b x1)))) (.a (decide ((F0 b x1)<=90))))) (.n (.a (decide (48<=(F0 b x1)))) (.a (decide ((F0 b x1)<=57))))) (.a ((F0 b x1)==45))) ?_;refine Ug Z h fun h=>?_;exact d _ [] _ _ Jy h
 refine kB Z (A3 Z) Jy Jy 4 (.n (.a (decide (1<=(b.length:Int)))) (.a (decide ((b.length:Int)<=24)))) ?_;cases h;exact kR Z
def HG (N:Nat)(p_x:Ex)(a:Int):Option Bool:= lt (λ(z1:Bool)=>if z1 then some false else if ((((E6 .and .u32 p_x.Clear (E6 .or .u32 p_x.Set.Plus p_x.Set.Minus)) != 0)||((E6 .and .u32 p_x.Take (E6 .or .u32 p_x.Set.Plus p_x.Set.Minus)) != 0))||((E6 .and .u32 p_x.Take p_x.Clear) != 0)) then some false else if (p_x.Take==0) then some (p_x.Of==0) else some ((decide (0<=p_x.Of))&&(decide (p_x.Of<a)))) λk1=>if (decide (p_x.From<(-1))) then k1 true else if (decide (a<=p_x.From)) then k1 true else (G9 N p_x.Set).bind λy2=>if (!y2) then k1 true else if ((E6 .andNot .u32 p_x.Clear 16777215) != 0) then k1 true else k1 ((E6 .andNot .u32 p_x.Take 16777215) != 0)
theorem AL1 {p_x:Ex}{c:Int}{y:Bool}(h:HG N p_x c=some y) :Qi S Vt [.p (.agg (Y7 p_x)),pN c] [] (pB y) ([]) []:=by
 unfold HG at h;refine A1 Z func62 ?_;refine GN Z Jy (A3 Z) h 0 (λz1=>⟨[(32,pB z1),(2,.reg 3000 0),(1,pN c)],[(3000,.cells ((Y7 p_x).map .p))]⟩) (λM1 k1 b h=>?_) (λz1 h=>?_)
 .refine kG Z h (λh=>?_) (λh=>?_)
  .exact b _ [(3000,3000)] _ _ Jy h
  refine kG Z h (λh=>?_) (λh=>?_)
  .exact b _ [(3000,3000)] _ _ Jy h
  refine kC Z h (U9 Z Y) (λy2 h=>?_);refine kG Z h (λh=>?_) (λh=>?_)
  .exact b _ [(3000,3000)] _ _ Jy h
  refine kG Z h (λh=>?_) (λh=>?_)
  .exact b _ [(3000,3000)] _ _ Jy h
  exact b _ [(3000,3000)] _ _ Jy h
 refine Ug Z h fun h=>?_;refine kB Z (A3 Z) Jy Jy 14 (.o (.o (.a ((E6 .and .u32 p_x.Clear (E6 .or .u32 p_x.Set.Plus p_x.Set.Minus)) != 0)) (.a ((E6 .and .u32 p_x.Take (E6 .or .u32 p_x.Set.Plus p_x.Set.Minus)) != 0))) (.a ((E6 .and .u32 p_x.Take p_x.Clear) != 0))) ?_;refine Ug Z h fun h=>?_;refine Ug Z h fun h=>?_;refine kB Z (A3 Z) Jy Jy 5 (.n (.a (decide (0<=p_x.Of))) (.a (decide (p_x.Of<c)))) ?_;cases h;exact kR Z
def Z7 (N:Nat)(a:Law):Option Int:= (Ec N a.Name).bind λy1=>lt (λ(z1:Bool)=>if z1 then some 17 else if (((((decide (4<(a.If.n:Int)))||(decide (6<(a.Out.n:Int))))||((wrap .i64 ((a.If.n:Int)+(a.Out.n:Int)))==0))||(decide (a.Mode<1)))||(decide (3<a.Mode))) then some 17 else O7 N (λb (x2:Int)=>if (decide (x2<(a.If.n:Int))) then if ((0:Int)<=x2/\x2<(a.If.n:Int))then (G9 N (a.If.g x2.toNat)).bind λy8=>if (!y8) then some 17 else b (wrap .i64 (x2+1)) else none else O7 N (λc (x3:Int)=>if (decide (x3<(a.Out.n:Int))) then if ((0:Int)<=x3/\x3<(a.Out.n:Int))then (HG N (a.Out.g x3.toNat) (a.If.n:Int)).bind λd=>if (!d) then some 17 else c (wrap .i64 (x3+1)) else none else some 0) 0) 0) λk1=>if (!y1) then k1 true else (CQ N a.Left).bind λy4=>if (y4 != 0) then k1 true else (CQ N a.Right).bind λy5=>k1 (y5 != 0)
theorem MB {b:Law}{y:Int}(h:Z7 N b=some y) :Qi S RF [.p (.agg (B3 b))] [] (pN y) ([]) []:=by
 unfold Z7 at h;refine A1 Z func30 ?_;refine D9 Z Jy 2 2000 (B3 b) ?_;refine kC Z h (AL0 Z Y) (λy1 h=>?_);refine GN Z Jy (A3 Z) h 0 (λz1=>⟨[(20,pB z1),(1,.p (.ptr (B3 b)))],[]⟩) (λM1 k1 c h=>?_) (λz1 h=>?_)
 .refine kG Z h (λh=>?_) (λh=>?_)
  .exact c _ [] _ _ Jy h
  obtain⟨y4,e4,h⟩:=A7 h;refine A8 Z [] (by decide:(7:Nat)<=17) (MA Z Y e4) ?_;refine kG Z h (λh=>?_) (λh=>?_)
  .exact c _ [] _ _ Jy h
  obtain⟨y5,e5,h⟩:=A7 h;refine A8 Z [] (by decide:(7:Nat)<=10) (MA Z Y e5) ?_;exact c _ [] _ _ Jy h
 refine Ug Z h fun h=>?_;refine kB Z (A3 Z) Jy Jy 25 (.o (.o (.o (.o (.a (decide (4<(b.If.n:Int)))) (.a (decide (6<(b.Out.n:Int))))) (.a ((wrap .i64 ((b.If.n:Int)+(b.Out.n:Int)))==0))) (.a (decide (b.Mode<1)))) (.a (decide (3<b.Mode)))) ?_;refine Ug Z h fun h=>?_;refine F1 Z Jy h (λx2=>⟨[(3,pN x2),(1,.p (.ptr (B3 b)))],[]⟩) (ids:=[]) (λ_ _ _ _ _ d x2 f h=>?_);apply kI Z h<;>intro h
 .obtain⟨c15,h⟩:=B9 h;obtain⟨y8,e8,h⟩:=A7 h;refine A8 Z [] (Qe c15 Mn) (U9 Z Y e8) ?_;refine Ug Z h fun h=>?_;exact f _ [] _ _ Jy h
 refine F1 Z Jy h (λx3=>⟨[(4,pN x3),(1,.p (.ptr (B3 b)))],[]⟩) (ids:=[]) (λ_ _ _ _ _ g x3 i h=>?_);apply kI Z h<;>intro h
 .refine B5 Z Jy [1,3,4,6,8] ?_;obtain⟨c24,h⟩:=B9 h;obtain⟨j,e11,h⟩:=A7 h;refine F7 (Qe c24 (by decide:(6:Nat)<=6)) (AL1 Z Y e11) ?_;refine C7 Jy ?_;refine Ug Z h fun h=>?_;exact i _ [] _ _ Jy h
 cases h;exact kR Z
def CZ (rec:Sv->Int->Option (Sl Int))(N:Nat)(b:Sv)(a:Int):Option (Sl Int):= if (decide (a<0)) then some Ox else if ((0:Int)<=a/\a<(b.Tree.n:Int))then (rec b (b.Tree.g a.toNat).Sx).bind λy1=>if (((0:Int)<=a/\a<(b.On.n:Int))/\(Qd 8 (y1.n+(b.On.g a.toNat).n)))then some (y1.app (b.On.g a.toNat)) else none else none
def Da:Nat->Sv->Int->Option (Sl Int)
 |0=>λ_ _=>none
 |N+1=>CZ (Da N) N
theorem As1 {rec:Sv->Int->Option (Sl Int)}(c:∀{a:Sv}{b:Int}{y:Sl Int},rec a b=some y->Qi S KF [.p (.agg (B0 a)),pN b] [] (.vec 0) ([oV D2 1 (cI .i64) y true]) []){a:Sv}{b:Int}{y:Sl Int}(h:CZ rec N a b=some y) :Qi S KF [.p (.agg (B0 a)),pN b] [] (.vec 0) ([oV D2 1 (cI .i64) y true]) []:=by
 unfold CZ at h;refine A1 Z func31 ?_;refine D9 Z Jy 4 3000 (B0 a) ?_;apply kI Z h<;>intro h
 .obtain rfl:=A6 h;exact kO Z Jy [5700]
 refine B5 Z Jy [0,2,4,6,9,11,12] ?_;obtain⟨c2,h⟩:=B9 h;obtain⟨y1,e1,h⟩:=A7 h;refine IM [] (Qe Mo c2) (c e1) ?_;obtain⟨c3,h⟩:=B9 h;refine C7 c3 ?_;obtain rfl:=A6 h;exact kO Z Jy [21000] (hle:=kl1 0 (appS (cI .i64) y1 (a.On.g b.toNat)))
theorem VN {a:Sv}{b:Int}{y:Sl Int}(h:Da N a b=some y) :Qi S KF [.p (.agg (B0 a)),pN b] [] (.vec 0) ([oV D2 1 (cI .i64) y true]) []:=by
 induction N generalizing a b y with
 |zero=>cases (show (none:Option (Sl Int))=some y from h)
 |succ N ih=>exact As1 Z Y (λe=>ih e) h
def Z8 (N:Nat)(a:Sv):Option Int:= (CJ N a.Tree).bind λy1=>if (y1 != 0) then some 16 else if (decide (64<(a.Laws.n:Int))) then some 12 else O7 N (λd (x1:Int)=>if (decide (x1<(a.Laws.n:Int))) then if ((0:Int)<=x1/\x1<(a.Laws.n:Int))then (Z7 N (a.Laws.g x1.toNat)).bind λy4=>if (y4 != 0) then some 17 else d (wrap .i64 (x1+1)) else none else O7 N (λf (x3:Int)=>if (decide (x3<(a.Laws.n:Int))) then O7 N (λi (x5:Int)=>if (decide (x5<x3)) then if (((0:Int)<=x3/\x3<(a.Laws.n:Int))/\((0:Int)<=x5/\x5<(a.Laws.n:Int)))then if (((a.Laws.g x3.toNat).Name==(a.Laws.g x5.toNat).Name) != false) then some 6 else i (wrap .i64 (x5+1)) else none else f (wrap .i64 (x3+1))) 0 else if ((a.On.n:Int) != (a.Tree.n:Int)) then some 2 else O7 N (λj (x6:Int)=>if (decide (x6<(a.On.n:Int))) then (Da N a x6).bind λy7=>if (decide (64<(y7.n:Int))) then some 2 else j (wrap .i64 (x6+1)) else O7 N (λl (x8:Int)=>if (decide (x8<(a.On.n:Int))) then O7 N (λc (b:Int)=>if ((0:Int)<=x8/\x8<(a.On.n:Int))then if (decide (b<((a.On.g x8.toNat).n:Int))) then if (((0:Int)<=x8/\x8<(a.On.n:Int))/\((0:Int)<=b/\b<((a.On.g x8.toNat).n:Int)))then if (decide (((a.On.g x8.toNat).g b.toNat)<0)) then some 3 else if (((0:Int)<=x8/\x8<(a.On.n:Int))/\((0:Int)<=b/\b<((a.On.g x8.toNat).n:Int)))then if (decide ((a.Laws.n:Int)<=((a.On.g x8.toNat).g b.toNat))) then some 3 else c (wrap .i64 (b+1)) else none else none else l (wrap .i64 (x8+1)) else none) 0 else some 0) 0) 0) 0) 0
theorem Iz {a:Sv}{y:Int}(h:Z8 N a=some y) :Qi S Rx [.p (.agg (B0 a))] [] (pN y) ([]) []:=by
 unfold Z8 at h;refine A1 Z func11 ?_;refine D9 Z Jy 2 2000 (B0 a) ?_;refine kC Z h (SL Z Y) (λy1 h=>?_);refine Ug Z h fun h=>?_;refine Ug Z h fun h=>?_;refine F1 Z Jy h (λx1=>⟨[(3,pN x1),(1,.p (.ptr (B0 a)))],[]⟩) (ids:=[]) (λ_ _ _ _ _ i x1 j h=>?_);apply kI Z h<;>intro h
 .obtain⟨c10,h⟩:=B9 h;obtain⟨y4,e4,h⟩:=A7 h;refine A8 Z [] (Qe c10 Ov) (MB Z Y e4) ?_;refine Ug Z h fun h=>?_;exact j _ [] _ _ Jy h
 refine F1 Z Jy h (λx3=>⟨[(4,pN x3),(1,.p (.ptr (B0 a)))],[]⟩) (ids:=[]) (λ_ _ _ _ _ l x3 m h=>?_);apply kI Z h<;>intro h
 .refine F1 Z Jy h (λx5=>⟨[(5,pN x5),(4,pN x3),(1,.p (.ptr (B0 a)))],[]⟩) (ids:=[]) (λ_ _ _ _ _ o x5 q h=>?_);apply kI Z h<;>intro h
  .refine B5 Z Jy [1,3,5,7,9,11] ?_;obtain⟨c40,h⟩:=B9 h;refine C7 c40 ?_;refine Ug Z h fun h=>?_;exact q _ [] _ _ Jy h
  exact m _ [] _ _ Jy h
 refine Ug Z h fun h=>?_;refine F1 Z Jy h (λx6=>⟨[(6,pN x6),(1,.p (.ptr (B0 a)))],[]⟩) (ids:=[]) (λ_ _ _ _ _ r x6 s h=>?_);apply kI Z h<;>intro h
 .obtain⟨y7,e7,h⟩:=A7 h;refine A8 Z [] Mo (VN Z Y e7) ?_;refine Ug Z h fun h=>?_;exact s _ [] _ _ Jy h
 refine F1 Z Jy h (λx8=>⟨[(7,pN x8),(1,.p (.ptr (B0 a)))],[]⟩) (ids:=[]) (λ_ _ _ _ _ t x8 u h=>?_);apply kI Z h<;>intro h
 .refine F1 Z Jy h (λc=>⟨[(8,pN c),(7,pN x8),(1,.p (.ptr (B0 a)))],[]⟩) (ids:=[]) (λ_ _ _ _ _ f c d h=>?_);obtain⟨c100,h⟩:=B9 h;refine C6 Z c100 (b:=decide (c<((a.On.g x8.toNat).n:Int))) (λc101=>?_) (λc101=>?_)
  .replace h:=itT c101 h;refine B5 Z Jy [1,3,4,6,7,11,13,14,16,17,19] ?_;obtain⟨c102,h⟩:=B9 h;refine S7 c102 (b:=decide (((a.On.g x8.toNat).g c.toNat)<0)) (λc103=>?_) (λc103=>?_)
   .replace h:=itT c103 h;refine C7 Jy ?_;cases h;exact kR Z
   replace h:=itF c103 h;obtain⟨c104,h⟩:=B9 h;refine C7 c104 ?_;refine Ug Z h fun h=>?_;exact d _ [] _ _ Jy h
  replace h:=itF c101 h;exact u _ [] _ _ Jy h
 cases h;exact kR Z
def Fz (N:Nat)(b:Sv)(a:Int):Option Bool:= some ((decide (0<=a))&&(decide (a<(b.Tree.n:Int))))
theorem VO {c:Sv}{b:Int}{y:Bool}(h:Fz N c b=some y) :Qi S Vv [.p (.agg (B0 c)),pN b] [] (pB y) ([]) []:=by unfold Fz at h;refine A1 Z func124 ?_;refine kB Z (A3 Z) Jy Jy 6 (.n (.a (decide (0<=b))) (.a (decide (b<(c.Tree.n:Int))))) ?_;cases h;exact kR Z
def CR (N:Nat)(a:Sl K0):Option Bool:= O7 N (λb (x1:Int)=>if (decide (x1<(a.n:Int))) then if ((0:Int)<=x1/\x1<(a.n:Int))then if ((!(a.g x1.toNat).Has)=true->((0:Int)<=x1/\x1<(a.n:Int)))then if ((!(a.g x1.toNat).Has)&&(decide (0<((a.g x1.toNat).W.n:Int)))) then some false else b (wrap .i64 (x1+1)) else none else none else some true) 0
theorem SU {b:Sl K0}{y:Bool}(h:CR N b=some y) :Qi S RY [.p (vSl 2 F2 b)] [] (pB y) ([]) []:=by
 unfold CR at h;refine A1 Z func120 ?_;refine F1 Z Jy h (λx1=>⟨[(3,pN x1),(0,.p (vSl 2 F2 b))],[]⟩) (ids:=[]) (λ_ _ _ _ _ c x1 d h=>?_);apply kI Z h<;>intro h
 .obtain⟨c10,h⟩:=B9 h;obtain⟨c11,h⟩:=B9 h;refine kB Z (A3 Z) c10 c11 8 (.n (.a (!(b.g x1.toNat).Has)) (.a (decide (0<((b.g x1.toNat).W.n:Int))))) ?_;refine Ug Z h fun h=>?_;exact d _ [] _ _ Jy h
 cases h;exact kR Z
def Bc (N:Nat)(a:Sl K0):Option Int:= O7 N (λb (x1:Int)=>if (decide (x1<(a.n:Int))) then if ((0:Int)<=x1/\x1<(a.n:Int))then (W8 N (a.g x1.toNat).W).bind λy3=>if (y3 != 0) then some y3 else b (wrap .i64 (x1+1)) else none else some 0) 0
theorem SV {a:Sl K0}{y:Int}(h:Bc N a=some y) :Qi S RZ [.p (vSl 2 F2 a)] [] (pN y) ([]) []:=by
 unfold Bc at h;refine A1 Z func121 ?_;refine F1 Z Jy h (λx1=>⟨[(3,pN x1),(0,.p (vSl 2 F2 a))],[]⟩) (ids:=[]) (λ_ _ _ _ _ b x1 c h=>?_);apply kI Z h<;>intro h
 .obtain⟨c8,h⟩:=B9 h;obtain⟨y3,e3,h⟩:=A7 h;refine A8 Z [] c8 (Eb Z Y e3) ?_;refine Ug Z h fun h=>?_;exact c _ [] _ _ Jy h
 cases h;exact kR Z
def Gq (N:Nat)(i:Sv)(a:Sl K0)(b:Sl Ub):Option Int:= (Z8 N i).bind λy1=>if (y1 != 0) then some y1 else if (decide (256<(b.n:Int))) then some 12 else (AT N i.Tree).bind λy2=>lt (λ(z1:Bool)=>if z1 then some 2 else O7 N (λc (x3:Int)=>if (decide (x3<(b.n:Int))) then if ((0:Int)<=x3/\x3<(b.n:Int))then lt (λ(z4:Bool)=>if z4 then some 2 else c (wrap .i64 (x3+1))) λk4=>if (((b.g x3.toNat).Ua.n:Int) != (y2.1.n:Int)) then k4 true else if ((0:Int)<=x3/\x3<(b.n:Int))then (CR N (b.g x3.toNat).Ua).bind λj=>k4 (!j) else none else none else O7 N (λd (x6:Int)=>if (decide (x6<(b.n:Int))) then if ((0:Int)<=x6/\x6<(b.n:Int))then (DW N (b.g x6.toNat).Gloss).bind λl=>if (!l) then some 15 else d (wrap .i64 (x6+1)) else none else (Bc N a).bind λm=>Y4 N (λf (x7:Int) (x8:Int)=>if ((decide (x8<(b.n:Int)))&&(x7==0)) then if ((0:Int)<=x8/\x8<(b.n:Int))then (Bc N (b.g x8.toNat).Ua).bind λo=>f o (wrap .i64 (x8+1)) else none else some x7) m 0) 0) 0) λk1=>if ((a.n:Int) != (b.n:Int)) then k1 true else (CR N a).bind λy4=>k1 (!y4)
theorem As2 {d:Sv}{b:Sl K0}{c:Sl Ub}{y:Int}(h:Gq N d b c=some y) :Qi S RQ [.p (.agg (B0 d)),.p (vSl 2 F2 b),.p (vSl 2 H0 c)] [] (pN y) ([]) []:=by
 unfold Gq at h;refine A1 Z func82 ?_;refine kC Z h (Iz Z Y) (λy1 h=>?_);refine Ug Z h fun h=>?_;refine Ug Z h fun h=>?_;refine kC Z h (PK Z Y) (λy2 h=>?_);refine GN Z Jy (A3 Z) h 0 (λz1=>⟨[(36,pB z1),(8,.vec 25000),(2,.p (vSl 2 H0 c)),(1,.p (vSl 2 F2 b))],[(25000,oV D2 1 (cI .i64) y2.1 true)]⟩) (λM1 k1 f h=>?_) (λz1 h=>?_)
 .refine kG Z h (λh=>?_) (λh=>?_)
  .exact f _ [(25000,25000)] _ _ Jy h
  refine kC Z h (SU Z Y) (λy4 h=>?_);exact f _ [(25000,25000)] _ _ Jy h
 refine Ug Z h fun h=>?_;refine F1 Z Jy h (λx3=>⟨[(10,pN x3),(8,.vec 25000),(2,.p (vSl 2 H0 c)),(1,.p (vSl 2 F2 b))],[(25000,oV D2 1 (cI .i64) y2.1 true)]⟩) (ids:=[(25000,25000)]) (λ_ _ _ _ _ i x3 j h=>?_);apply kI Z h<;>intro h
 .obtain⟨c24,h⟩:=B9 h;refine GN Z c24 (A3 Z) h 0 (λz4=>⟨[(60,pB z4),(10,pN x3),(8,.vec 25000),(2,.p (vSl 2 H0 c)),(1,.p (vSl 2 F2 b))],[(25000,oV D2 1 (cI .i64) y2.1 true)]⟩) (λM4 k4 g h=>?_) (λz4 h=>?_)
  .refine kG Z h (λh=>?_) (λh=>?_)
   .exact g _ [(25000,25000)] _ _ Jy h
   obtain⟨c29,h⟩:=B9 h;obtain⟨s,e10,h⟩:=A7 h;refine A8 Z [] c29 (SU Z Y e10) ?_;exact g _ [(25000,25000)] _ _ Jy h
  refine Ug Z h fun h=>?_;exact j _ [(25000,25000)] _ _ Jy h
 refine F1 Z Jy h (λx6=>⟨[(11,pN x6),(2,.p (vSl 2 H0 c)),(1,.p (vSl 2 F2 b))],[]⟩) (ids:=[]) (λ_ _ _ _ _ l x6 m h=>?_);apply kI Z h<;>intro h
 .obtain⟨c38,h⟩:=B9 h;obtain⟨t,e13,h⟩:=A7 h;refine A8 Z [] c38 (OF Z Y e13) ?_;refine Ug Z h fun h=>?_;exact m _ [] _ _ Jy h
 refine kC Z h (SV Z Y) (λu h=>?_);refine G2 Z Jy h (λx7 x8=>⟨[(12,pN x8),(7,pN x7),(2,.p (vSl 2 H0 c))],[]⟩) (ids:=[]) (λ_ _ _ _ _ o x7 x8 q h=>?_);refine kB Z (A3 Z) Jy Jy 3 (.n (.a (decide (x8<(c.n:Int)))) (.a (x7==0))) ?_;apply kI Z h<;>intro h
 .obtain⟨c45,h⟩:=B9 h;obtain⟨r,e17,h⟩:=A7 h;refine A8 Z [] c45 (SV Z Y e17) ?_;exact q _ [] _ r _ Jy h
 cases h;exact kR Z
def Gr (N:Nat)(a:Sv):Option Bool:= if (((decide (70<(a.Tree.n:Int)))||(decide (70<(a.Laws.n:Int))))||(decide (70<(a.On.n:Int)))) then some false else O7 N (λb (x1:Int)=>if (decide (x1<(a.On.n:Int))) then if ((0:Int)<=x1/\x1<(a.On.n:Int))then if (decide (70<((a.On.g x1.toNat).n:Int))) then some false else b (wrap .i64 (x1+1)) else none else O7 N (λc (x3:Int)=>if (decide (x3<(a.Laws.n:Int))) then if (((0:Int)<=x3/\x3<(a.Laws.n:Int))/\((0:Int)<=x3/\x3<=(wrap .i64 (x3+1))/\(wrap .i64 (x3+1))<=(a.Laws.n:Int)))then (Fw N (a.Laws.sub x3.toNat (wrap .i64 (x3+1)).toNat)).bind λd=>lt (λ(z3:Bool)=>if z3 then some false else c (wrap .i64 (x3+1))) λk3=>if (decide (4<d)) then k3 true else if (decide (20<((a.Laws.g x3.toNat).If.n:Int))) then k3 true else if (decide (20<((a.Laws.g x3.toNat).Out.n:Int))) then k3 true else (DT N (a.Laws.g x3.toNat).Left).bind λf=>if (decide (41<f)) then k3 true else (DT N (a.Laws.g x3.toNat).Right).bind λi=>k3 (decide (41<i)) else none else some true) 0) 0
theorem As3 {c:Sv}{y:Bool}(h:Gr N c=some y) :Qi S Rw [.p (.agg (B0 c))] [] (pB y) ([]) []:=by
 unfold Gr at h;refine A1 Z func8 ?_;refine kB Z (A3 Z) Jy Jy 11 (.o (.o (.a (decide (70<(c.Tree.n:Int)))) (.a (decide (70<(c.Laws.n:Int))))) (.a (decide (70<(c.On.n:Int))))) ?_;refine Ug Z h fun h=>?_;refine F1 Z Jy h (λx1=>⟨[(3,pN x1),(1,.reg 2000 0)],[(2000,.cells ((B0 c).map .p))]⟩) (ids:=[(2000,2000)]) (λ_ _ _ _ _ f x1 i h=>?_);apply kI Z h<;>intro h
 .obtain⟨c9,h⟩:=B9 h;refine C6 Z c9 (b:=decide (70<((c.On.g x1.toNat).n:Int))) (λc10=>?_) (λc10=>?_)
  .replace h:=itT c10 h;cases h;exact kR Z
  replace h:=itF c10 h;exact i _ [(2000,2000)] _ _ Jy h
 refine F1 Z Jy h (λx3=>⟨[(4,pN x3),(1,.reg 2000 0)],[(2000,.cells ((B0 c).map .p))]⟩) (ids:=[(2000,2000)]) (λ_ _ _ _ _ j x3 l h=>?_);apply kI Z h<;>intro h
 .obtain⟨c40,h⟩:=B9 h;obtain⟨m,e11,h⟩:=A7 h;refine A8 Z [] (Qe (Qe c40.1 Ov) c40.2) (AK5 Z Y e11) ?_;refine GN Z Jy (A3 Z) h 0 (λz3=>⟨[(79,pB z3),(4,pN x3),(1,.reg 2000 0)],[(2000,.cells ((B0 c).map .p))]⟩) (λM3 k3 d h=>?_) (λz3 h=>?_)
  .refine kG Z h (λh=>?_) (λh=>?_)
   .exact d _ [(2000,2000)] _ _ Jy h
   refine kG Z h (λh=>?_) (λh=>?_)
   .exact d _ [(2000,2000)] _ _ Jy h
   refine kG Z h (λh=>?_) (λh=>?_)
   .exact d _ [(2000,2000)] _ _ Jy h
   refine kC Z h (OC Z Y) (λq h=>?_);refine kG Z h (λh=>?_) (λh=>?_)
   .exact d _ [(2000,2000)] _ _ Jy h
   refine kC Z h (OC Z Y) (λr h=>?_);exact d _ [(2000,2000)] _ _ Jy h
  refine Ug Z h fun h=>?_;exact l _ [(2000,2000)] _ _ Jy h
 cases h;exact kR Z
def HH (N:Nat)(a:Sl K0):Option Bool:= O7 N (λb (x1:Int)=>if (decide (x1<(a.n:Int))) then if ((0:Int)<=x1/\x1<(a.n:Int))then if (decide (40<((a.g x1.toNat).W.n:Int))) then some false else b (wrap .i64 (x1+1)) else none else some (decide ((a.n:Int)<=70))) 0
theorem Ae1 {a:Sl K0}{y:Bool}(h:HH N a=some y) :Qi S ZJ [.p (vSl 2 F2 a)] [] (pB y) ([]) []:=by
 unfold HH at h;refine A1 Z func9 ?_;refine F1 Z Jy h (λx1=>⟨[(3,pN x1),(0,.p (vSl 2 F2 a))],[]⟩) (ids:=[]) (λ_ _ _ _ _ c x1 d h=>?_);apply kI Z h<;>intro h
 .obtain⟨c8,h⟩:=B9 h;refine C6 Z c8 (b:=decide (40<((a.g x1.toNat).W.n:Int))) (λc9=>?_) (λc9=>?_)
  .replace h:=itT c9 h;cases h;exact kR Z
  replace h:=itF c9 h;exact d _ [] _ _ Jy h
 cases h;exact kR Z
def EJ (N:Nat)(a:Sv):Option Int:= Y4 N (λb (x1:Int) (x2:Int)=>if (decide (x2<(a.On.n:Int))) then if ((0:Int)<=x2/\x2<(a.On.n:Int))then b (wrap .i64 (x1+((a.On.g x2.toNat).n:Int))) (wrap .i64 (x2+1)) else none else some x1) 0 0
theorem Ae2 {a:Sv}{y:Int}(h:EJ N a=some y) :Qi S Pg [.p (.agg (B0 a))] [] (pN y) ([]) []:=by
 unfold EJ at h;refine A1 Z func10 ?_;refine G2 Z Jy h (λx1 x2=>⟨[(4,pN x2),(3,pN x1),(1,.reg 2000 0)],[(2000,.cells ((B0 a).map .p))]⟩) (ids:=[(2000,2000)]) (λ_ _ _ _ _ b x1 x2 c h=>?_);apply kI Z h<;>intro h
 .obtain⟨c4,h⟩:=B9 h;exact c _ [(2000,2000)] _ (wrap .i64 (x1+((a.On.g x2.toNat).n:Int))) (wrap .i64 (x2+1)) c4 h
 cases h;exact kR Z
def Gs (N:Nat)(a:B4):Option Bool:= (Gr N a.Sv).bind λy1=>if (((((((!y1)||((decide (12<(a.Sv.Tree.n:Int)))&&(decide ((a.Sv.Tree.n:Int)<=63))))||(decide (5<(a.Sz.n:Int))))||(decide (5<(a.Sg.n:Int))))||(decide (300<(a.Sounds.n:Int))))||(decide (40<(a.Feats.n:Int))))||(decide (40<(a.Marks.n:Int)))) then some false else (HH N a.Sg).bind λy2=>lt (λ(z1:Bool)=>if z1 then some false else O7 N (λb (x2:Int)=>if (decide (x2<(a.Sz.n:Int))) then if ((0:Int)<=x2/\x2<(a.Sz.n:Int))then (HH N (a.Sz.g x2.toNat).Ua).bind λy9=>if (!y9) then some false else b (wrap .i64 (x2+1)) else none else some true) 0) λk1=>if (!y2) then k1 true else (EJ N a.Sv).bind λy5=>if (decide (24<y5)) then (Z8 N a.Sv).bind λy6=>k1 (y6==0) else k1 false
theorem As4 {b:B4}{y:Bool}(h:Gs N b=some y) :Qi S Rt [.p (.agg (A9 b))] [] (pB y) ([]) []:=by
 unfold Gs at h;refine A1 Z func4 ?_;refine kC Z h (As3 Z Y) (λy1 h=>?_);refine kB Z (A3 Z) Jy Jy 43 (.o (.o (.o (.o (.o (.o (.a (!y1)) (.n (.a (decide (12<(b.Sv.Tree.n:Int)))) (.a (decide ((b.Sv.Tree.n:Int)<=63))))) (.a (decide (5<(b.Sz.n:Int))))) (.a (decide (5<(b.Sg.n:Int))))) (.a (decide (300<(b.Sounds.n:Int))))) (.a (decide (40<(b.Feats.n:Int))))) (.a (decide (40<(b.Marks.n:Int))))) ?_;refine Ug Z h fun h=>?_;refine kC Z h (Ae1 Z Y) (λy2 h=>?_);refine GN Z Jy (A3 Z) h 0 (λz1=>⟨[(67,pB z1),(1,.reg 2000 0)],[(2000,.cells ((A9 b).map .p))]⟩) (λM1 k1 c h=>?_) (λz1 h=>?_)
 .refine kG Z h (λh=>?_) (λh=>?_)
  .exact c _ [(2000,2000)] _ _ Jy h
  refine kC Z h (Ae2 Z Y) (λy5 h=>?_);refine kG Z h (λh=>?_) (λh=>?_)
  .refine kC Z h (Iz Z Y) (λy6 h=>?_);exact c _ [(2000,2000)] _ _ Jy h
  exact c _ [(2000,2000)] _ _ Jy h
 refine Ug Z h fun h=>?_;refine F1 Z Jy h (λx2=>⟨[(3,pN x2),(1,.reg 2000 0)],[(2000,.cells ((A9 b).map .p))]⟩) (ids:=[(2000,2000)]) (λ_ _ _ _ _ d x2 f h=>?_);apply kI Z h<;>intro h
 .obtain⟨c15,h⟩:=B9 h;obtain⟨y9,e9,h⟩:=A7 h;refine A8 Z [] c15 (Ae1 Z Y e9) ?_;refine Ug Z h fun h=>?_;exact f _ [(2000,2000)] _ _ Jy h
 cases h;exact kR Z
def Db (N:Nat)(a:Int):Option Bool:= some (((decide (97<=a))&&(decide (a<=122)))||((decide (48<=a))&&(decide (a<=57))))
theorem PN {b:Int}{y:Bool}(h:Db N b=some y) :Qi S PB [.p (pI .u8 b)] [] (pB y) ([]) []:=by unfold Db at h;refine A1 Z func215 ?_;refine kB Z (A3 Z) Jy Jy 11 (.o (.n (.a (decide (97<=b))) (.a (decide (b<=122)))) (.n (.a (decide (48<=b))) (.a (decide (b<=57))))) ?_;cases h;exact kR Z
def Kg (N:Nat)(a:Int):Option Bool:= some (((((((((decide (65<=a))&&(decide (a<=90)))||(a==64))||(a==63))||(a==33))||(a==38))||(a==42))||(a==36))||(a==37))
theorem AX9 {b:Int}{y:Bool}(h:Kg N b=some y) :Qi S Aa7 [.p (pI .u8 b)] [] (pB y) ([]) []:=by unfold Kg at h;refine A1 Z func216 ?_;refine kB Z (A3 Z) Jy Jy 31 (.o (.o (.o (.o (.o (.o (.o (.n (.a (decide (65<=b))) (.a (decide (b<=90)))) (.a (b==64))) (.a (b==63))) (.a (b==33))) (.a (b==38))) (.a (b==42))) (.a (b==36))) (.a (b==37))) ?_;cases h;exact kR Z
def EK (N:Nat)(a:Str):Option Bool:= if (((decide ((a.length:Int)<1))=false->((decide (16<(a.length:Int)))=false->((0:Int)<=0/\0<(a.length:Int))))/\((decide ((a.length:Int)<1))=false->((decide (16<(a.length:Int)))=false->((decide ((F0 a 0)<97))=false->((0:Int)<=0/\0<(a.length:Int))))))then if ((((decide ((a.length:Int)<1))||(decide (16<(a.length:Int))))||(decide ((F0 a 0)<97)))||(decide (122<(F0 a 0)))) then some false else O7 N (λb (x1:Int)=>if (decide (x1<(a.length:Int))) then if ((0:Int)<=x1/\x1<(a.length:Int))then (Db N (F0 a x1)).bind λy3=>if (!y3) then some false else b (wrap .i64 (x1+1)) else none else some true) 0 else none
theorem Ae3 {b:Str}{y:Bool}(h:EK N b=some y) :Qi S PA [.p (.str b)] [] (pB y) ([]) []:=by
 unfold EK at h;refine A1 Z func197 ?_;obtain⟨c1,h⟩:=B9 h;refine kB Z (A3 Z) Jy c1 14 (.o (.o (.o (.a (decide ((b.length:Int)<1))) (.a (decide (16<(b.length:Int))))) (.a (decide ((F0 b 0)<97)))) (.a (decide (122<(F0 b 0))))) ?_;refine Ug Z h fun h=>?_;refine F1 Z Jy h (λx1=>⟨[(3,pN x1),(0,.p (.str b))],[]⟩) (ids:=[]) (λ_ _ _ _ _ c x1 d h=>?_);apply kI Z h<;>intro h
 .obtain⟨c10,h⟩:=B9 h;obtain⟨y3,e3,h⟩:=A7 h;refine A8 Z [] c10 (PN Z Y e3) ?_;refine Ug Z h fun h=>?_;exact d _ [] _ _ Jy h
 cases h;exact kR Z
def Cn (N:Nat)(a:Str):Option Bool:= if ((decide ((a.length:Int)<1))||(decide (4<(a.length:Int)))) then some false else O7 N (λb (x2:Int)=>if (decide (x2<(a.length:Int))) then if ((0:Int)<=x2/\x2<(a.length:Int))then (Db N (F0 a x2)).bind λy7=>lt (λ(z3:Bool)=>if z3 then some false else b (wrap .i64 (x2+1))) λk3=>if (!y7) then if ((0:Int)<=x2/\x2<(a.length:Int))then (Kg N (F0 a x2)).bind λy9=>k3 (!y9) else none else k3 false else none else some true) 0
theorem Uy {b:Str}{y:Bool}(h:Cn N b=some y) :Qi S LI [.p (.str b)] [] (pB y) ([]) []:=by
 unfold Cn at h;refine A1 Z func199 ?_;refine kB Z (A3 Z) Jy Jy 4 (.o (.a (decide ((b.length:Int)<1))) (.a (decide (4<(b.length:Int))))) ?_;refine Ug Z h fun h=>?_;refine F1 Z Jy h (λx2=>⟨[(3,pN x2),(0,.p (.str b))],[]⟩) (ids:=[]) (λ_ _ _ _ _ d x2 f h=>?_);apply kI Z h<;>intro h
 .obtain⟨c19,h⟩:=B9 h;obtain⟨y7,e7,h⟩:=A7 h;refine A8 Z [] c19 (PN Z Y e7) ?_;refine GN Z Jy (A3 Z) h 0 (λz3=>⟨[(29,pB z3),(3,pN x2),(0,.p (.str b))],[]⟩) (λM3 k3 c h=>?_) (λz3 h=>?_)
  .refine kG Z h (λh=>?_) (λh=>?_)
   .obtain⟨c24,h⟩:=B9 h;obtain⟨y9,e9,h⟩:=A7 h;refine A8 Z [] c24 (AX9 Z Y e9) ?_;exact c _ [] _ _ Jy h
   exact c _ [] _ _ Jy h
  refine Ug Z h fun h=>?_;exact f _ [] _ _ Jy h
 cases h;exact kR Z
abbrev rO (v:E1)(a:Nat):List Obj:=[(.cells [pB v.Made,.p (vSl 1 cS v.F),.vec a]),oV D4 3 D3 v.S true]
def N8 (N:Nat)(a:E1):Option Bool:= some a.Made
theorem Ep {a:E1}{y:Bool}(h:N8 N a=some y) :Qi S LH [.reg 0 0] (rO a 1) (pB y) (rO a 1) [true,true]:=by unfold N8 at h;refine A1 Z func198 ?_;obtain rfl:=A6 h;exact kO Z Jy [0,1]
def Y2 (N:Nat)(c:E1)(b:Qb):Option Bool:= (G9 N b).bind λy1=>if (!y1) then some false else O7 N (λa (x1:Int)=>if (decide (x1<24)) then (W2 N b x1).bind λy4=>if (y4 != 0) then some false else a (wrap .i64 (x1+1)) else some true) (c.F.n:Int)
theorem OI {a:E1}{b:Qb}{y:Bool}(h:Y2 N a b=some y) :Qi S Hy [.reg 0 0,.p (.agg (A0 b))] (rO a 1) (pB y) (rO a 1) [true,true]:=by
 unfold Y2 at h;refine A1 Z func200 ?_;refine kC Z h (U9 Z Y) (λy1 h=>?_);apply kI Z h<;>intro h
 .obtain rfl:=A6 h;exact kO Z Jy [0,1]
 refine F1 Z Jy h (λx1=>⟨[(5,pN x1),(3,.reg 4000 0)],[(4000,.cells [pU b.Plus,pU b.Minus]),(1,oV D4 3 D3 a.S true),(0,.cells [pB a.Made,.p (vSl 1 cS a.F),.vec 1])]⟩) (ids:=(Qc [0,1,4000])) (λ_ _ _ _ _ c x1 d h=>?_);apply kI Z h<;>intro h
 .refine kC Z h (EI Z Y) (λy4 h=>?_);apply kI Z h<;>intro h
  .obtain rfl:=A6 h;exact kO Z Jy [0,1]
  exact d _ (Qc [0,1,4000]) _ _ Jy h
 obtain rfl:=A6 h;exact kO Z Jy [0,1]
def Y3 (N:Nat)(a:E1):Option (Sl Str):= (N8 N a).bind λy1=>if (!y1) then some (Sl.nil:Sl Str) else if (Qd 16 ((Sl.of []:Sl Str).n+a.F.n))then some ((Sl.of []:Sl Str).app a.F) else none
theorem Kh {a:E1}{y:Sl Str}(h:Y3 N a=some y) :Qi S JI [.reg 0 0] (rO a 1) (.vec 2) ([.cells [pB a.Made,.p (vSl 1 cS a.F),.vec 1],oV D4 3 D3 a.S true,oV J6 1 cS y true]) [true,true]:=by
 unfold Y3 at h;refine A1 Z func161 ?_;obtain⟨y1,e1,h⟩:=A7 h;refine A8 Z [0,1] Jy (Ep Z Y e1) ?_;apply kI Z h<;>intro h
 .obtain rfl:=A6 h;exact kO Z Jy [0,1,3700]
 obtain⟨c2,h⟩:=B9 h;obtain rfl:=A6 h;exact kO Z (Qe Ow c2) [0,1,12000] (hle:=klR [(0,.fn (0+a.F.n) ((Sl.of []:Sl Str).app a.F).n (DF 0 (H2 [.str []] []) (λi=>cS (a.F.g i))) (λi=>cS (((Sl.of []:Sl Str).app a.F).g i)))] (al1 ⟨rfl,Zo (c:=cS) (v:=(Sl.of []:Sl Str)) (w:=a.F) (λi b=>Hc b (by omega)) rfl same rfl⟩ al0))
def Al (N:Nat)(a:E1):Option (Sl G0):= (N8 N a).bind λy1=>if (!y1) then some (Sl.nil:Sl G0) else if (Qd 24 ((Sl.of []:Sl G0).n+a.S.n))then some ((Sl.of []:Sl G0).app a.S) else none
theorem Qr {a:E1}{y:Sl G0}(h:Al N a=some y) :Qi S IW [.reg 0 0] (rO a 1) (.vec 2) ([.cells [pB a.Made,.p (vSl 1 cS a.F),.vec 1],oV D4 3 D3 a.S true,oV D4 3 D3 y true]) [true,true]:=by
 unfold Al at h;refine A1 Z func202 ?_;obtain⟨y1,e1,h⟩:=A7 h;refine A8 Z [0,1] Jy (Ep Z Y e1) ?_;apply kI Z h<;>intro h
 .obtain rfl:=A6 h;exact kO Z Jy [0,1,3700]
 obtain⟨c2,h⟩:=B9 h;obtain rfl:=A6 h;exact kO Z (Qe Ow c2) [0,1,12000] (hle:=klR [(0,.fn (0+a.S.n) ((Sl.of []:Sl G0).app a.S).n (DF 0 (H2 [.str [],pI .u32 0,pI .u32 0] []) (λi=>D3 (a.S.g i))) (λi=>D3 (((Sl.of []:Sl G0).app a.S).g i)))] (al1 ⟨rfl,Zo (c:=D3) (v:=(Sl.of []:Sl G0)) (w:=a.S) (λi b=>Hc b (by omega)) rfl same rfl⟩ al0))
def DA (N:Nat)(a:E1)(b:Str)(c:Qb):Option (Int×E1):= (N8 N a).bind λy1=>if (!y1) then some (1,a) else (Cn N b).bind λy2=>if (!y2) then some (15,a) else (Y2 N a c).bind λy3=>if (!y3) then some (14,a) else O7 N (λd (x1:Int)=>if (decide (x1<(a.S.n:Int))) then if (((0:Int)<=x1/\x1<(a.S.n:Int))/\x1.toNat<a.S.n)then if (((a.S.g x1.toNat).Uc==b) != false) then some (6,a) else if (((0:Int)<=x1/\x1<(a.S.n:Int))/\x1.toNat<a.S.n)then if ((((a.S.g x1.toNat).S.Plus==c.Plus)&&((a.S.g x1.toNat).S.Minus==c.Minus)) != false) then some (6,a) else d (wrap .i64 (x1+1)) else none else none else if (decide (256<=(a.S.n:Int))) then some (4,a) else if (Qd 24 (a.S.n+(Sl.of [(⟨b,c⟩:G0)]:Sl G0).n))then some (0,(⟨a.Made,a.F,a.S.push (⟨b,c⟩:G0)⟩:E1)) else none) 0
theorem XW {d:E1}{a:Str}{c:Qb}{y:Int×E1}(h:DA N d a c=some y) :Qi S Nx [.reg 0 0,.p (.str a),.p (.agg (A0 c))] (rO d 1) (pN y.1) ([.cells [pB y.2.Made,.p (vSl 1 cS y.2.F),.vec 1],oV D4 3 D3 y.2.S true]) [true,false]:=by
 unfold DA at h;refine A1 Z func160 ?_;refine D9 Z Jy 6 6000 [pI .u32 c.Plus,pI .u32 c.Minus] ?_;obtain⟨y1,e1,h⟩:=A7 h;refine A8 Z [0,1] Jy (Ep Z Y e1) ?_;apply kI Z h<;>intro h
 .obtain rfl:=A6 h;exact kOi Z Jy [(0,0),(990001,1)] [0,990001]
 refine kC Z h (Uy Z Y) (λy2 h=>?_);apply kI Z h<;>intro h
 .obtain rfl:=A6 h;exact kOi Z Jy [(0,0),(990001,1)] [0,990001]
 obtain⟨y3,e3,h⟩:=A7 h;refine A8 Z [0,1] Mn (OI Z Y e3) ?_;apply kI Z h<;>intro h
 .obtain rfl:=A6 h;exact kOi Z Jy [(0,0),(990001,1)] [0,990001]
 refine F1 Z Jy h (λx1=>⟨[(7,pN x1),(5,.p (.ptr [pI .u32 c.Plus,pI .u32 c.Minus])),(1,.p (.str a)),(0,.reg 0 0)],[(1,oV D4 3 D3 d.S true),(0,.cells [pB d.Made,.p (vSl 1 cS d.F),.vec 1])]⟩) (ids:=(Qc [0,1])) (λ_ _ _ _ _ f x1 i h=>?_);apply kI Z h<;>intro h
 .refine B5 Z Jy [19] ?_;obtain⟨c15,h⟩:=B9 h;refine S7 c15 (b:=((d.S.g x1.toNat).Uc==a) != false) (λc16=>?_) (λc16=>?_)
  .replace h:=itT c16 h;refine C7 Jy ?_;obtain rfl:=A6 h;exact kOi Z Jy [(0,0),(990001,1)] [0,990001]
  replace h:=itF c16 h;obtain⟨c17,h⟩:=B9 h;refine C7 (Qe (Qe (Qe (Qe c17.1 Mn) c17.2) Mn) (by decide +kernel:QK Tryz.prog B1=true)) ?_;apply kI Z h<;>intro h
  .obtain rfl:=A6 h;exact kOi Z Jy [(0,0),(990001,1)] [0,990001]
  exact i _ (Qc [0,1]) _ _ Jy h
 apply kI Z h<;>intro h
 .obtain rfl:=A6 h;exact kOi Z Jy [(0,0),(990001,1)] [0,990001]
 refine B5 Z Jy [6] ?_;refine O8 Mn (x:=.sl true 3 1 (H2 [.str [],pI .u32 0,pI .u32 0] [(0,D3 (⟨a,c⟩:G0))])) ?_;obtain⟨c20,h⟩:=B9 h;refine C7 c20 ?_;obtain rfl:=A6 h;exact kO Z Jy [0,65000] (hle:=kl1 1 (R7 D3 d.S (⟨a,c⟩:G0) [.str [],pI .u32 0,pI .u32 0]))
def Ki (N:Nat)(a:Sl Str):Option ((Option E1)×Int):= if (decide (24<(a.n:Int))) then some (none,12) else O7 N (λb (x1:Int)=>if (decide (x1<(a.n:Int))) then if ((0:Int)<=x1/\x1<(a.n:Int))then (EK N (a.g x1.toNat)).bind λy3=>if (!y3) then some (none,15) else b (wrap .i64 (x1+1)) else none else O7 N (λc (x3:Int)=>if (decide (x3<(a.n:Int))) then O7 N (λd (x5:Int)=>if (decide (x5<x3)) then if (((0:Int)<=x3/\x3<(a.n:Int))/\((0:Int)<=x5/\x5<(a.n:Int)))then if (((a.g x3.toNat)==(a.g x5.toNat)) != false) then some (none,6) else d (wrap .i64 (x5+1)) else none else c (wrap .i64 (x3+1))) 0 else if (Qd 16 ((Sl.of []:Sl Str).n+a.n))then some (some (⟨true,(Sl.of []:Sl Str).app a,(Sl.nil:Sl G0)⟩:E1),0) else none) 0) 0
theorem Ae4 {a:Sl Str}{y:(Option E1)×Int}(h:Ki N a=some y) :Qi S Aa2 [.p (vSl 1 cS a)] [] (.tup [Jo y.1 (.p BH2) λ_=>.reg 0 0,pN y.2]) (Jo y.1 [] λo=>rO o 1) []:=by
 unfold Ki at h;refine A1 Z func159 ?_;apply kI Z h<;>intro h
 .obtain rfl:=A6 h;exact kO Z Jy []
 refine F1 Z Jy h (λx1=>⟨[(4,pN x1),(0,.p (vSl 1 cS a))],[]⟩) (ids:=[]) (λ_ _ _ _ _ b x1 d h=>?_);apply kI Z h<;>intro h
 .obtain⟨c9,h⟩:=B9 h;obtain⟨y3,e3,h⟩:=A7 h;refine A8 Z [] c9 (Ae3 Z Y e3) ?_;apply kI Z h<;>intro h
  .obtain rfl:=A6 h;exact kO Z Jy []
  exact d _ [] _ _ Jy h
 refine F1 Z Jy h (λx3=>⟨[(5,pN x3),(0,.p (vSl 1 cS a))],[]⟩) (ids:=[]) (λ_ _ _ _ _ f x3 j h=>?_);apply kI Z h<;>intro h
 .refine F1 Z Jy h (λx5=>⟨[(6,pN x5),(5,pN x3),(0,.p (vSl 1 cS a))],[]⟩) (ids:=[]) (λ_ _ _ _ _ l x5 m h=>?_);apply kI Z h<;>intro h
  .refine B5 Z Jy [2,3,6,7] ?_;obtain⟨c39,h⟩:=B9 h;refine C7 c39 ?_;apply kI Z h<;>intro h
   .obtain rfl:=A6 h;exact kO Z Jy []
   exact m _ [] _ _ Jy h
  exact j _ [] _ _ Jy h
 obtain⟨c41,h⟩:=B9 h;obtain rfl:=A6 h;exact kO Z (Qe Ow c41) [47000,3801] (hle:=klR [(2,.fn (0+a.n) ((Sl.of []:Sl Str).app a).n (DF 0 (H2 [.str []] []) (λi=>cS (a.g i))) (λi=>cS (((Sl.of []:Sl Str).app a).g i)))] (al1 ⟨rfl,Zo (c:=cS) (v:=(Sl.of []:Sl Str)) (w:=a) (λi q=>Hc q (by omega)) rfl same rfl⟩ al0))
def Eq (N:Nat)(a:E1):Option (Option E1):= (N8 N a).bind λy1=>if (!y1) then some none else (Y3 N a).bind λy2=>(Al N a).bind λy3=>some (some (⟨true,y2,y3⟩:E1))
theorem LW {a:E1}{y:Option E1}(h:Eq N a=some y) :Qi S LG [.reg 0 0] (rO a 1) (Jo y (.p BH2) λ_=>.reg 2 0) ((rO a 1)++(Jo y [] λo=>rO o 3)) [true,true]:=by
 unfold Eq at h;refine A1 Z func163 ?_;obtain⟨y1,e1,h⟩:=A7 h;refine A8 Z [0,1] Jy (Ep Z Y e1) ?_;apply kI Z h<;>intro h
 .obtain rfl:=A6 h;exact kO Z Jy [0,1]
 obtain⟨y2,e2,h⟩:=A7 h;refine A8 Z [0,1] Jy (Kh Z Y e2) ?_;obtain⟨y3,e3,h⟩:=A7 h;refine A8 Z [0,1] Jy (Qr Z Y e3) ?_;obtain rfl:=A6 h;exact kO Z Jy [0,1,12000,10002]
def HI (N:Nat)(a:Int):Option Bool:= some ((((((((a==58)||(a==39))||(a==34))||(a==126))||(a==94))||(a==95))||(a==61))||(a==96))
theorem AL2 {b:Int}{y:Bool}(h:HI N b=some y) :Qi S Vz [.p (pI .u8 b)] [] (pB y) ([]) []:=by unfold HI at h;refine A1 Z func201 ?_;refine kB Z (A3 Z) Jy Jy 27 (.o (.o (.o (.o (.o (.o (.o (.a (b==58)) (.a (b==39))) (.a (b==34))) (.a (b==126))) (.a (b==94))) (.a (b==95))) (.a (b==61))) (.a (b==96))) ?_;cases h;exact kR Z
def Co (N:Nat)(a:Str):Option Bool:= O7 N (λb (x1:Int)=>if (decide (x1<(a.length:Int))) then if ((0:Int)<=x1/\x1<(a.length:Int))then (HI N (F0 a x1)).bind λy3=>if (!y3) then some false else b (wrap .i64 (x1+1)) else none else some ((decide (1<=(a.length:Int)))&&(decide ((a.length:Int)<=3)))) 0
theorem Uz {b:Str}{y:Bool}(h:Co N b=some y) :Qi S LF [.p (.str b)] [] (pB y) ([]) []:=by
 unfold Co at h;refine A1 Z func162 ?_;refine F1 Z Jy h (λx1=>⟨[(3,pN x1),(0,.p (.str b))],[]⟩) (ids:=[]) (λ_ _ _ _ _ c x1 d h=>?_);apply kI Z h<;>intro h
 .obtain⟨c8,h⟩:=B9 h;obtain⟨y3,e3,h⟩:=A7 h;refine A8 Z [] c8 (AL2 Z Y e3) ?_;refine Ug Z h fun h=>?_;exact d _ [] _ _ Jy h
 refine kB Z (A3 Z) Jy Jy 4 (.n (.a (decide (1<=(b.length:Int)))) (.a (decide ((b.length:Int)<=3)))) ?_;cases h;exact kR Z
def Kj (N:Nat)(b:E1)(a:Sl GI):Option Int:= if (!b.Made) then some 1 else if (decide (32<(a.n:Int))) then some 12 else (Y3 N b).bind λy1=>if (0:Int)<=(y1.n:Int)then O7 N (λc (x3:Int)=>if (decide (x3<(a.n:Int))) then if ((0:Int)<=x3/\x3<(a.n:Int))then (Co N (a.g x3.toNat).Text).bind λy8=>if (!y8) then some 15 else lt (λ(z3:Bool)=>if z3 then some 2 else O7 N (λd (x7:Int)=>if (decide (x7<x3)) then if ((0:Int)<=x7/\x7<(a.n:Int))then if (((a.g x7.toNat).Text==(a.g x3.toNat).Text) != false) then some 6 else d (wrap .i64 (x7+1)) else none else c (wrap .i64 (x3+1))) 0) λk3=>if ((E6 .andNot .u32 (a.g x3.toNat).Clear (wrap .u32 ((shI .shl .u32 1 (y1.n:Int))-1))) != 0) then k3 true else (G9 N (a.g x3.toNat).Set).bind λf=>if (!f) then k3 true else if ((E6 .andNot .u32 (E6 .or .u32 (a.g x3.toNat).Set.Plus (a.g x3.toNat).Set.Minus) (wrap .u32 ((shI .shl .u32 1 (y1.n:Int))-1))) != 0) then k3 true else k3 ((E6 .and .u32 (a.g x3.toNat).Clear (E6 .or .u32 (a.g x3.toNat).Set.Plus (a.g x3.toNat).Set.Minus)) != 0) else none else (Eq N b).bind λi=>Jo i (if (Qd 32 ((Sl.of []:Sl GI).n+a.n))then some 0 else none) λz4=>if (Qd 32 ((Sl.of []:Sl GI).n+a.n))then some 0 else none) 0 else none
theorem AY0 {b:E1}{a:Sl GI}{y:Int}(h:Kj N b a=some y) :Qi S ZZ [.reg 0 0,.p (vSl 4 R8 a)] (rO b 1) (.tup [.top,pN y]) (rO b 1) [true,true]:=by
 unfold Kj at h;refine A1 Z func119 ?_;apply kI Z h<;>intro h
 .obtain rfl:=A6 h;exact kO Z Jy [0,1]
 apply kI Z h<;>intro h
 .obtain rfl:=A6 h;exact kO Z Jy [0,1]
 obtain⟨y1,e1,h⟩:=A7 h;refine A8 Z [0,1] Jy (Kh Z Y e1) ?_;obtain⟨c3,h⟩:=B9 h;refine F1 Z c3 h (λx3=>⟨[(7,pN x3),(6,pU (wrap .u32 ((shI .shl .u32 1 (y1.n:Int))-1))),(1,.p (vSl 4 R8 a)),(0,.reg 0 0)],[(1,oV D4 3 D3 b.S true),(0,.cells [pB b.Made,.p (vSl 1 cS b.F),.vec 1])]⟩) (ids:=(Qc [0,1])) (λ_ _ _ _ _ d x3 f h=>?_);apply kI Z h<;>intro h
 .obtain⟨c45,h⟩:=B9 h;refine D9 Z (Qe c45 Mq) 38 9000 (R8 (a.g x3.toNat)) ?_;refine kC Z h (Uz Z Y) (λy8 h=>?_);apply kI Z h<;>intro h
  .obtain rfl:=A6 h;exact kO Z Jy [0,1]
  refine GN Z Jy (A3 Z) h 0 (λz3=>⟨[(72,pB z3),(8,.p (.ptr (R8 (a.g x3.toNat)))),(7,pN x3),(6,pU (wrap .u32 ((shI .shl .u32 1 (y1.n:Int))-1))),(1,.p (vSl 4 R8 a)),(0,.reg 0 0)],[(1,oV D4 3 D3 b.S true),(0,.cells [pB b.Made,.p (vSl 1 cS b.F),.vec 1])]⟩) (λM3 k3 c h=>?_) (λz3 h=>?_)
  .refine kG Z h (λh=>?_) (λh=>?_)
   .exact c _ (Qc [0,1]) _ _ Jy h
   obtain⟨m,e10,h⟩:=A7 h;refine A8 Z [] Mn (U9 Z Y e10) ?_;refine kG Z h (λh=>?_) (λh=>?_)
   .exact c _ (Qc [0,1]) _ _ Jy h
   refine kG Z h (λh=>?_) (λh=>?_)
   .exact c _ (Qc [0,1]) _ _ Jy h
   exact c _ (Qc [0,1]) _ _ Jy h
  apply kI Z h<;>intro h
  .obtain rfl:=A6 h;exact kO Z Jy [0,1]
  refine F1 Z Jy h (λx7=>⟨[(10,pN x7),(8,.p (.ptr (R8 (a.g x3.toNat)))),(7,pN x3),(6,pU (wrap .u32 ((shI .shl .u32 1 (y1.n:Int))-1))),(1,.p (vSl 4 R8 a)),(0,.reg 0 0)],[(1,oV D4 3 D3 b.S true),(0,.cells [pB b.Made,.p (vSl 1 cS b.F),.vec 1])]⟩) (ids:=(Qc [0,1])) (λ_ _ _ _ _ i x7 j h=>?_);apply kI Z h<;>intro h
  .refine B5 Z Jy [2,4,6] ?_;obtain⟨c62,h⟩:=B9 h;refine C7 c62 ?_;apply kI Z h<;>intro h
   .obtain rfl:=A6 h;exact kO Z Jy [0,1]
   exact j _ (Qc [0,1]) _ _ Jy h
  exact f _ (Qc [0,1]) _ _ Jy h
 obtain⟨l,e11,h⟩:=A7 h;rcases o1:l with _|z4
 .replace h:=Ai4 o1 h;have w1:=(LW Z Y e11);simp only[o1,M9,N0,BV8,BU1,BY6]at w1;refine A8 Z [0,1] Jy w1 ?_;obtain⟨c64,h⟩:=B9 h;obtain rfl:=A6 h;exact kO Z (Qe Ow c64) [0,1]
 replace h:=Zq o1 h;have w2:=(LW Z Y e11);simp only[o1,M9,N0,BV8,BU1,BY6]at w2;refine A8 Z [0,1] Jy w2 ?_;obtain⟨c65,h⟩:=B9 h;obtain rfl:=A6 h;exact kO Z (Qe Ow c65) [0,1]
def Bd (N:Nat)(a:B4):Option ((Option E1)×Int):= (Ki N a.Feats).bind λy1=>Jo y1.1 (if (y1.2 != 0) then some (none,y1.2) else none) λz1=>if (y1.2 != 0) then some (none,y1.2) else AO8 N (λb (x2:Bool) (x3:Sl Str) (x4:Sl G0) (x5:Int)=>if (decide (x5<(a.Sounds.n:Int))) then if (((0:Int)<=x5/\x5<(a.Sounds.n:Int))/\((0:Int)<=x5/\x5<(a.Sounds.n:Int)))then (DA N (⟨x2,x3,x4⟩:E1) (a.Sounds.g x5.toNat).Uc (a.Sounds.g x5.toNat).S).bind λy7=>if (y7.1 != 0) then some (none,y7.1) else b y7.2.Made y7.2.F y7.2.S (wrap .i64 (x5+1)) else none else some (some (⟨x2,x3,x4⟩:E1),0)) z1.Made z1.F z1.S 0
theorem Kk {a:B4}{y:(Option E1)×Int}(h:Bd N a=some y) :Qi S JE [.p (.agg (A9 a))] [] (.tup [Jo y.1 (.p BH2) λ_=>.reg 0 0,pN y.2]) (Jo y.1 [] λo=>rO o 1) []:=by
 unfold Bd at h;refine A1 Z func118 ?_;refine D9 Z Jy 2 2000 (A9 a) ?_;obtain⟨y1,e1,h⟩:=A7 h;rcases o1:y1.1 with _|z1
 .replace h:=Ai4 o1 h;have w1:=(Ae4 Z Y e1);simp only[o1,M9,N0,BV8,BU1,BY6]at w1;refine A8 Z [] Jy w1 ?_;apply kI Z h<;>intro h
  .obtain rfl:=A6 h;exact kO Z Jy []
  cases h
 replace h:=Zq o1 h;have w2:=(Ae4 Z Y e1);simp only[o1,M9,N0,BV8,BU1,BY6]at w2;refine A8 Z [] Jy w2 ?_;apply kI Z h<;>intro h
 .obtain rfl:=A6 h;exact kO Z Jy []
 refine AA4 Z Jy h (λx2 x3 x4 x5=>⟨[(6,pN x5),(4,.reg 11000 0),(1,.p (.ptr (A9 a)))],[(11000,.cells [pB x2,.p (vSl 1 cS x3),.vec 5500]),(5500,oV D4 3 D3 x4 true)]⟩) (ids:=[(5500,11001),(11000,11000)]) (λ_ _ _ _ _ b x2 x3 x4 x5 c h=>?_);apply kI Z h<;>intro h
 .refine B5 Z Jy [2,4,6,8,10,12] ?_;obtain⟨c19,h⟩:=B9 h;obtain⟨y7,e7,h⟩:=A7 h;refine IM [11000,5500] (Qe (Qe c19.1 c19.2) Mn) (XW Z Y e7) ?_;refine C7 Jy ?_;apply kI Z h<;>intro h
  .obtain rfl:=A6 h;exact kO Z Jy []
  exact c _ [(5500,37001),(11000,11000)] _ _ _ _ _ Jy h
 obtain rfl:=A6 h;exact kO Z Jy [11000,5500]
def Er (N:Nat)(a:B4):Option Int:= (Bd N a).bind λy1=>Jo y1.1 (if (y1.2 != 0) then some y1.2 else none) λz1=>if (y1.2 != 0) then some y1.2 else (Kj N z1 a.Marks).bind λy3=>some y3
theorem UA {a:B4}{y:Int}(h:Er N a=some y) :Qi S Lw [.p (.agg (A9 a))] [] (.tup [.top,pN y]) ([]) []:=by
 unfold Er at h;refine A1 Z func81 ?_;obtain⟨y1,e1,h⟩:=A7 h;rcases o1:y1.1 with _|z1
 .replace h:=Ai4 o1 h;have w1:=(Kk Z Y e1);simp only[o1,M9,N0,BV8,BU1,BY6]at w1;refine A8 Z [] Jy w1 ?_;apply kI Z h<;>intro h
  .obtain rfl:=A6 h;exact kO Z Jy []
  cases h
 replace h:=Zq o1 h;have w2:=(Kk Z Y e1);simp only[o1,M9,N0,BV8,BU1,BY6]at w2;refine A8 Z [] Jy w2 ?_;apply kI Z h<;>intro h
 .obtain rfl:=A6 h;exact kO Z Jy []
 obtain⟨y3,e3,h⟩:=A7 h;refine A8 Z [9000,9001] Jy (AY0 Z Y e3) ?_;obtain rfl:=A6 h;exact kO Z Jy []
def Gt (N:Nat)(a:B4):Option Int:= (Er N a).bind λy1=>if (y1 != 0) then some y1 else (Gq N a.Sv a.Sg a.Sz).bind λy2=>some y2
theorem As5 {a:B4}{y:Int}(h:Gt N a=some y) :Qi S RK [.p (.agg (A9 a))] [] (pN y) ([]) []:=by
 unfold Gt at h;refine A1 Z func53 ?_;refine kC Z h (UA Z Y) (λy1 h=>?_);refine Ug Z h fun h=>?_;refine kC Z h (As2 Z Y) (λy2 h=>?_);cases h;exact kR Z
def V2 (N:Nat)(c:Qb)(a:Qb):Option Bool:= (G9 N c).bind λy1=>lt (λ(z1:Bool)=>if z1 then some false else O7 N (λb (x3:Int)=>if (decide (x3<24)) then (W2 N a x3).bind λd=>lt (λ(z4:Bool)=>if z4 then some false else b (wrap .i64 (x3+1))) λk4=>if (d != 0) then (W2 N c x3).bind λf=>k4 (f != d) else k4 false else some true) 0) λk1=>if (!y1) then k1 true else (G9 N a).bind λy3=>k1 (!y3)
theorem SW {b:Qb}{a:Qb}{y:Bool}(h:V2 N b a=some y) :Qi S JL [.p (.agg (A0 b)),.p (.agg (A0 a))] [] (pB y) ([]) []:=by
 unfold V2 at h;refine A1 Z func258 ?_;refine kC Z h (U9 Z Y) (λy1 h=>?_);refine GN Z Jy (A3 Z) h 0 (λz1=>⟨[(14,pB z1),(3,.reg 4000 0),(2,.reg 3000 0)],[(4000,.cells [pU a.Plus,pU a.Minus]),(3000,.cells [pU b.Plus,pU b.Minus])]⟩) (λM1 k1 c h=>?_) (λz1 h=>?_)
 .refine kG Z h (λh=>?_) (λh=>?_)
  .exact c _ (Qc [3000,4000]) _ _ Jy h
  refine kC Z h (U9 Z Y) (λy3 h=>?_);exact c _ (Qc [3000,4000]) _ _ Jy h
 refine Ug Z h fun h=>?_;refine F1 Z Jy h (λx3=>⟨[(5,pN x3),(3,.reg 4000 0),(2,.reg 3000 0)],[(4000,.cells [pU a.Plus,pU a.Minus]),(3000,.cells [pU b.Plus,pU b.Minus])]⟩) (ids:=(Qc [3000,4000])) (λ_ _ _ _ _ f x3 g h=>?_);apply kI Z h<;>intro h
 .refine kC Z h (EI Z Y) (λi h=>?_);refine GN Z Jy (A3 Z) h 0 (λz4=>⟨[(30,pB z4),(5,pN x3),(3,.reg 4000 0),(2,.reg 3000 0)],[(4000,.cells [pU a.Plus,pU a.Minus]),(3000,.cells [pU b.Plus,pU b.Minus])]⟩) (λM4 k4 d h=>?_) (λz4 h=>?_)
  .refine kG Z h (λh=>?_) (λh=>?_)
   .refine kC Z h (EI Z Y) (λj h=>?_);exact d _ (Qc [3000,4000]) _ _ Jy h
   exact d _ (Qc [3000,4000]) _ _ Jy h
  refine Ug Z h fun h=>?_;exact g _ (Qc [3000,4000]) _ _ Jy h
 cases h;exact kR Z
def EL (N:Nat)(b:Qb)(a:Int)(c:Int):Option Qb:= if (0:Int)<=a then if (c==1) then if (c==(-1)) then some (⟨E6 .or .u32 (E6 .andNot .u32 b.Plus (shI .shl .u32 1 a)) (shI .shl .u32 1 a),E6 .or .u32 (E6 .andNot .u32 b.Minus (shI .shl .u32 1 a)) (shI .shl .u32 1 a)⟩:Qb) else some (⟨E6 .or .u32 (E6 .andNot .u32 b.Plus (shI .shl .u32 1 a)) (shI .shl .u32 1 a),E6 .andNot .u32 b.Minus (shI .shl .u32 1 a)⟩:Qb) else if (c==(-1)) then some (⟨E6 .andNot .u32 b.Plus (shI .shl .u32 1 a),E6 .or .u32 (E6 .andNot .u32 b.Minus (shI .shl .u32 1 a)) (shI .shl .u32 1 a)⟩:Qb) else some (⟨E6 .andNot .u32 b.Plus (shI .shl .u32 1 a),E6 .andNot .u32 b.Minus (shI .shl .u32 1 a)⟩:Qb) else none
theorem NR {c:Qb}{d:Int}{a:Int}{y:Qb}(h:EL N c d a=some y) :Qi S Ac1 [.p (.agg (A0 c)),pN d,pN a] [] (.p (.agg (A0 y))) ([]) []:=by
 unfold EL at h;refine A1 Z func268 ?_;obtain⟨c1,h⟩:=B9 h;refine C6 Z c1 (b:=a==1) (λc2=>?_) (λc2=>?_)
 .replace h:=itT c2 h;refine Ug Z h fun h=>?_;cases h;exact kR Z
 replace h:=itF c2 h;refine Ug Z h fun h=>?_;cases h;exact kR Z
def W3 (N:Nat)(d:Qb)(b:Int)(a:Qb):Option (Qb×Int):= (G9 N d).bind λy1=>lt (λ(z1:Bool)=>if z1 then some ((⟨0,0⟩:Qb),14) else if ((decide (16777215<b))||((E6 .and .u32 b (E6 .or .u32 a.Plus a.Minus)) != 0)) then some ((⟨0,0⟩:Qb),2) else AT6 N (λc (x2:Int) (x3:Int) (x4:Int)=>if (decide (x4<24)) then if (0:Int)<=x4 then if ((E6 .and .u32 (shI .shr .u32 b x4) 1)==1) then (EL N (⟨x2,x3⟩:Qb) x4 0).bind λf=>(W2 N a x4).bind λj=>if (j != 0) then (W2 N a x4).bind λl=>(EL N f x4 l).bind λg=>c g.Plus g.Minus (wrap .i64 (x4+1)) else c f.Plus f.Minus (wrap .i64 (x4+1)) else (W2 N a x4).bind λm=>if (m != 0) then (W2 N a x4).bind λn=>(EL N (⟨x2,x3⟩:Qb) x4 n).bind λi=>c i.Plus i.Minus (wrap .i64 (x4+1)) else c x2 x3 (wrap .i64 (x4+1)) else none else some ((⟨x2,x3⟩:Qb),0)) d.Plus d.Minus 0) λk1=>if (!y1) then k1 true else (G9 N a).bind λy3=>k1 (!y3)
theorem Ae5 {f:Qb}{c:Int}{d:Qb}{y:Qb×Int}(h:W3 N f c d=some y) :Qi S PG [.p (.agg (A0 f)),pU c,.p (.agg (A0 d))] [] (.tup [.p (.agg (A0 y.1)),pN y.2]) ([]) []:=by
 unfold W3 at h;refine A1 Z func261 ?_;refine D9 Z Jy 5 4000 [pI .u32 f.Plus,pI .u32 f.Minus] ?_;refine D9 Z Jy 6 6000 [pI .u32 d.Plus,pI .u32 d.Minus] ?_;obtain⟨y1,e1,h⟩:=A7 h;refine A8 Z [] Mn (U9 Z Y e1) ?_;refine GN Z Jy (A3 Z) h 0 (λz1=>⟨[(17,pB z1),(6,.reg 7000 0),(5,.p (.ptr [pI .u32 d.Plus,pI .u32 d.Minus])),(3,.p (.ptr [pI .u32 f.Plus,pI .u32 f.Minus])),(1,pU c)],[(7000,.cells [pU 0,pU 0])]⟩) (λM1 k1 i h=>?_) (λz1 h=>?_)
 .refine kG Z h (λh=>?_) (λh=>?_)
  .exact i _ [(7000,7000)] _ _ Jy h
  obtain⟨y3,e3,h⟩:=A7 h;refine A8 Z [] Mn (U9 Z Y e3) ?_;exact i _ [(7000,7000)] _ _ Jy h
 refine Ug Z h fun h=>?_;refine kB Z (A3 Z) Jy Jy 9 (.o (.a (decide (16777215<c))) (.a ((E6 .and .u32 c (E6 .or .u32 d.Plus d.Minus)) != 0))) ?_;refine Ug Z h fun h=>?_;refine Nb Z Mn h (λx2 x3 x4=>⟨[(9,pN x4),(8,.reg 9000 0),(6,.reg 7000 0),(5,.p (.ptr [pI .u32 d.Plus,pI .u32 d.Minus])),(1,pU c)],[(9000,.cells [pU x2,pU x3]),(7000,.cells [pU 0,pU 0])]⟩) (ids:=(Qc [7000,9000])) (λ_ _ _ _ _ j x2 x3 x4 g h=>?_);apply kI Z h<;>intro h
 .obtain⟨c16,h⟩:=B9 h;refine C6 Z c16 (b:=(E6 .and .u32 (shI .shr .u32 c x4) 1)==1) (λc17=>?_) (λc17=>?_)
  .replace h:=itT c17 h;refine kC Z h (NR Z Y) (λl h=>?_);obtain⟨m,e19,h⟩:=A7 h;refine A8 Z [] Mn (EI Z Y e19) ?_;apply kI Z h<;>intro h
   .refine B5 Z Jy [2,4,5] ?_;obtain⟨n,e20,h⟩:=A7 h;refine F7 Mn (EI Z Y e20) ?_;obtain⟨q,e21,h⟩:=A7 h;refine F7 Jy (NR Z Y e21) ?_;refine C7 Jy ?_;exact g _ (Qc [7000,9000]) _ _ _ _ Jy h
   exact g _ (Qc [7000,9000]) _ _ _ _ Jy h
  replace h:=itF c17 h;obtain⟨r,e22,h⟩:=A7 h;refine A8 Z [] Mn (EI Z Y e22) ?_;apply kI Z h<;>intro h
  .refine B5 Z Jy [2,4,5] ?_;obtain⟨s,e23,h⟩:=A7 h;refine F7 Mn (EI Z Y e23) ?_;obtain⟨t,e24,h⟩:=A7 h;refine F7 Jy (NR Z Y e24) ?_;refine C7 Jy ?_;exact g _ (Qc [7000,9000]) _ _ _ _ Jy h
  exact g _ (Qc [7000,9000]) _ x2 x3 _ Jy h
 cases h;exact kR Z
def Bw (N:Nat)(d:Qb)(a:Qb)(b:Int):Option (Qb×Int):= (G9 N d).bind λy1=>lt (λ(z1:Bool)=>if z1 then some ((⟨0,0⟩:Qb),14) else if (decide (16777215<b)) then some ((⟨0,0⟩:Qb),2) else AT6 N (λc (x2:Int) (x3:Int) (x4:Int)=>if (decide (x4<24)) then if (0:Int)<=x4 then if ((E6 .and .u32 (shI .shr .u32 b x4) 1)==1) then (W2 N a x4).bind λy8=>(EL N (⟨x2,x3⟩:Qb) x4 y8).bind λy9=>c y9.Plus y9.Minus (wrap .i64 (x4+1)) else c x2 x3 (wrap .i64 (x4+1)) else none else some ((⟨x2,x3⟩:Qb),0)) d.Plus d.Minus 0) λk1=>if (!y1) then k1 true else (G9 N a).bind λy3=>k1 (!y3)
theorem AL3 {d:Qb}{a:Qb}{c:Int}{y:Qb×Int}(h:Bw N d a c=some y) :Qi S VF [.p (.agg (A0 d)),.p (.agg (A0 a)),pU c] [] (.tup [.p (.agg (A0 y.1)),pN y.2]) ([]) []:=by
 unfold Bw at h;refine A1 Z func262 ?_;refine D9 Z Jy 4 4000 [pI .u32 d.Plus,pI .u32 d.Minus] ?_;refine D9 Z Jy 6 5000 [pI .u32 a.Plus,pI .u32 a.Minus] ?_;obtain⟨y1,e1,h⟩:=A7 h;refine A8 Z [] Mn (U9 Z Y e1) ?_;refine GN Z Jy (A3 Z) h 0 (λz1=>⟨[(17,pB z1),(6,.reg 7000 0),(4,.p (.ptr [pI .u32 a.Plus,pI .u32 a.Minus])),(3,.p (.ptr [pI .u32 d.Plus,pI .u32 d.Minus])),(2,pU c)],[(7000,.cells [pU 0,pU 0])]⟩) (λM1 k1 f h=>?_) (λz1 h=>?_)
 .refine kG Z h (λh=>?_) (λh=>?_)
  .exact f _ [(7000,7000)] _ _ Jy h
  obtain⟨y3,e3,h⟩:=A7 h;refine A8 Z [] Mn (U9 Z Y e3) ?_;exact f _ [(7000,7000)] _ _ Jy h
 refine Ug Z h fun h=>?_;refine Ug Z h fun h=>?_;refine Nb Z Mn h (λx2 x3 x4=>⟨[(9,pN x4),(8,.reg 9000 0),(6,.reg 7000 0),(4,.p (.ptr [pI .u32 a.Plus,pI .u32 a.Minus])),(2,pU c)],[(9000,.cells [pU x2,pU x3]),(7000,.cells [pU 0,pU 0])]⟩) (ids:=(Qc [7000,9000])) (λ_ _ _ _ _ i x2 x3 x4 g h=>?_);apply kI Z h<;>intro h
 .obtain⟨c12,h⟩:=B9 h;refine C6 Z c12 (b:=(E6 .and .u32 (shI .shr .u32 c x4) 1)==1) (λc13=>?_) (λc13=>?_)
  .replace h:=itT c13 h;refine B5 Z Jy [2,4,5] ?_;obtain⟨y8,e8,h⟩:=A7 h;refine F7 Mn (EI Z Y e8) ?_;obtain⟨y9,e9,h⟩:=A7 h;refine F7 Jy (NR Z Y e9) ?_;refine C7 Jy ?_;exact g _ (Qc [7000,9000]) _ _ _ _ Jy h
  replace h:=itF c13 h;exact g _ (Qc [7000,9000]) _ x2 x3 _ Jy h
 cases h;exact kR Z
def FA (N:Nat)(a:Sl Qb):Option (Sl Qb):= Y4 N (λb (x1:Sl Qb) (x2:Int)=>if (decide (x2<(a.n:Int))) then if (((0:Int)<=x2/\x2<(a.n:Int))/\(Qd 8 (x1.n+(Sl.of [a.g x2.toNat]:Sl Qb).n)))then b (x1.push (a.g x2.toNat)) (wrap .i64 (x2+1)) else none else some x1) Oy 0
theorem AL4 {a:Sl Qb}{y:Sl Qb}(h:FA N a=some y) :Qi S VB [.p (vSl 2 A0 a)] [] (.vec 0) ([oV B1 2 A0 y true]) []:=by
 unfold FA at h;refine A1 Z func219 ?_;refine G2 Z Jy h (λx1 x2=>⟨[(4,pN x2),(3,.vec 4500),(0,.p (vSl 2 A0 a))],[(4500,oV B1 2 A0 x1 false)]⟩) (ids:=[]) (λ_ _ _ _ _ b x1 x2 c h=>?_);apply kI Z h<;>intro h
 .obtain⟨c4,h⟩:=B9 h;exact c _ [(4500,18000)] _ (x1.push (a.g x2.toNat)) (wrap .i64 (x2+1)) (Qe (Qe (Qe c4.1 Mn) Ow) c4.2) h (hle:=kl1 2 (R7 A0 x1 (a.g x2.toNat) [pI .u32 0,pI .u32 0]))
 obtain rfl:=A6 h;exact kO Z Jy [4500]
def Gu (N:Nat)(a:Sl Qb)(b:Sl Qb):Option Bool:= if ((a.n:Int) != (b.n:Int)) then some false else O7 N (λc (x1:Int)=>if (decide (x1<(a.n:Int))) then if (((0:Int)<=x1/\x1<(a.n:Int))/\((0:Int)<=x1/\x1<(b.n:Int)))then if ((((a.g x1.toNat).Plus==(b.g x1.toNat).Plus)&&((a.g x1.toNat).Minus==(b.g x1.toNat).Minus)) != true) then some false else c (wrap .i64 (x1+1)) else none else some true) 0
theorem As6 {a:Sl Qb}{b:Sl Qb}{y:Bool}(h:Gu N a b=some y) :Qi S RR [.p (vSl 2 A0 a),.p (vSl 2 A0 b)] [] (pB y) ([]) []:=by
 unfold Gu at h;refine A1 Z func85 ?_;refine Ug Z h fun h=>?_;refine F1 Z Jy h (λx1=>⟨[(5,pN x1),(1,.p (vSl 2 A0 b)),(0,.p (vSl 2 A0 a))],[]⟩) (ids:=[]) (λ_ _ _ _ _ c x1 d h=>?_);apply kI Z h<;>intro h
 .refine B5 Z Jy [2,3,6,7] ?_;obtain⟨c9,h⟩:=B9 h;refine C7 (Qe (Qe (Qe (Qe c9.1 Mn) c9.2) Mn) (by decide +kernel:QK Tryz.prog B1=true)) ?_;refine Ug Z h fun h=>?_;exact d _ [] _ _ Jy h
 cases h;exact kR Z
def Gv (N:Nat)(b:Qb)(a:Qb):Option Bool:= some (((E6 .and .u32 b.Plus a.Plus)==a.Plus)&&((E6 .and .u32 b.Minus a.Minus)==a.Minus))
theorem SX {c:Qb}{b:Qb}{y:Bool}(h:Gv N c b=some y) :Qi S JN [.p (.agg (A0 c)),.p (.agg (A0 b))] [] (pB y) ([]) []:=by unfold Gv at h;refine A1 Z func272 ?_;refine kB Z (A3 Z) Jy Jy 9 (.n (.a ((E6 .and .u32 c.Plus b.Plus)==b.Plus)) (.a ((E6 .and .u32 c.Minus b.Minus)==b.Minus))) ?_;cases h;exact kR Z
def FB (N:Nat)(a:Int):Option (Sl Int):= if ((0:Int)<=(wrap .i64 (a+1))/\(wrap .i64 (a+1))<=(wrap .i64 (a+1))/\(wrap .i64 (a+1))*8<=140737488355328/\(wrap .i64 (a+1))<=140737488355328)then Y4 N (λb (x1:Sl Int) (x2:Int)=>if (decide (x2<=a)) then if (((0:Int)<=x2/\((0:Int)<=x2/\x2<(x1.n:Int)))/\x2.toNat<x1.n)then b (x1.upd x2.toNat (shI .shl .u64 1 x2)) (wrap .i64 (x2+1)) else none else some x1) (Sl.rep (wrap .i64 (a+1)).toNat 0:Sl Int) 0 else none
theorem VP {a:Int}{y:Sl Int}(h:FB N a=some y) :Qi S VH [pN a] [] (.vec 0) ([oV J7 1 (cI .u64) y true]) []:=by
 unfold FB at h;refine A1 Z func273 ?_;obtain⟨c1,h⟩:=B9 h;refine G2 Z c1 h (λx1 x2=>⟨[(4,pN x2),(3,.vec 8000),(0,pN a)],[(8000,oV J7 1 (cI .u64) x1 false)]⟩) (ids:=[(8000,8000)]) (λ_ _ _ _ _ b x1 x2 d h=>?_);apply kI Z h<;>intro h
 .obtain⟨c5,h⟩:=B9 h;exact d _ [(8000,8000)] _ (x1.upd x2.toNat (shI .shl .u64 1 x2)) (wrap .i64 (x2+1)) (Qe (Qe c5.1.1 c5.1.2) (Qe (rfl:(1:Nat)=1) (Qe c5.2 Mm))) h (hle:=klR [(2,.fn x1.n (x1.upd x2.toNat (shI .shl .u64 1 x2)).n (λl=>if l=x2.toNat then splice ((λi=>cI .u64 (x1.g i)) l) 0 [pI .u64 (shI .shl .u64 1 x2)]else (λi=>cI .u64 (x1.g i)) l) (λi=>cI .u64 ((x1.upd x2.toNat (shI .shl .u64 1 x2)).g i)))] (al1 ⟨rfl,Az6 (c:=cI .u64) (v:=x1) (x:=shI .shl .u64 1 x2) same (λ_=>by first|rfl|(dsimp only;split<;>rfl))⟩ al0))
 obtain rfl:=A6 h;exact kO Z Jy [8000]
def Be (N:Nat)(p_x:Sl Int)(b:Sl Int):Option (Sl Int):= if ((0:Int)<=(p_x.n:Int)/\(p_x.n:Int)<=(p_x.n:Int)/\(p_x.n:Int)*8<=140737488355328/\(p_x.n:Int)<=140737488355328)then Y4 N (λc (x3:Sl Int) (x4:Int)=>if (decide (x4<(p_x.n:Int))) then Y4 N (λa (x7:Sl Int) (x8:Int)=>if (decide (x8<(b.n:Int))) then if (((0:Int)<=x4/\x4<(p_x.n:Int))/\(0:Int)<=x8)then if ((E6 .and .u64 (shI .shr .u64 (p_x.g x4.toNat) x8) 1)==1) then if ((((((0:Int)<=x4/\x4<(x7.n:Int))/\x4.toNat<x7.n)/\((0:Int)<=x8/\x8<(b.n:Int)))/\((0:Int)<=x4/\x4<(x7.n:Int)))/\x4.toNat<x7.n)then a (x7.upd x4.toNat (E6 .or .u64 (x7.g x4.toNat) (b.g x8.toNat))) (wrap .i64 (x8+1)) else none else a x7 (wrap .i64 (x8+1)) else none else c x7 (wrap .i64 (x4+1))) x3 0 else some x3) (Sl.rep (p_x.n:Int).toNat 0:Sl Int) 0 else none
theorem Kl {p_x:Sl Int}{a:Sl Int}{y:Sl Int}(h:Be N p_x a=some y) :Qi S PH [.p (vSl 1 (cI .u64) p_x),.p (vSl 1 (cI .u64) a)] [] (.vec 0) ([oV J7 1 (cI .u64) y true]) []:=by
 unfold Be at h;refine A1 Z func274 ?_;obtain⟨c1,h⟩:=B9 h;refine G2 Z c1 h (λx3 x4=>⟨[(6,pN x4),(5,.vec 11000),(1,.p (vSl 1 (cI .u64) a)),(0,.p (vSl 1 (cI .u64) p_x))],[(11000,oV J7 1 (cI .u64) x3 false)]⟩) (ids:=[(11000,11000)]) (λ_ _ _ _ _ f x3 x4 j h=>?_);apply kI Z h<;>intro h
 .refine G2 Z Jy h (λx7 x8=>⟨[(7,pN x8),(6,pN x4),(5,.vec 11000),(1,.p (vSl 1 (cI .u64) a)),(0,.p (vSl 1 (cI .u64) p_x))],[(11000,oV J7 1 (cI .u64) x7 false)]⟩) (ids:=[(11000,11000)]) (λ_ _ _ _ _ m x7 x8 d h=>?_);apply kI Z h<;>intro h
  .obtain⟨c38,h⟩:=B9 h;refine C6 Z c38 (b:=(E6 .and .u64 (shI .shr .u64 (p_x.g x4.toNat) x8) 1)==1) (λc39=>?_) (λc39=>?_)
   .replace h:=itT c39 h;refine B5 Z Jy [8,9] ?_;obtain⟨c40,h⟩:=B9 h;refine C7 (Qe (Qe (Qe (Qe c40.1.1.1.1 c40.1.1.1.2) c40.1.1.2) c40.1.2) (Qe (rfl:(1:Nat)=1) (Qe c40.2 Mm))) ?_;exact d _ [(11000,11000)] _ _ _ Jy h (hle:=klR [(4,.fn x7.n (x7.upd x4.toNat (E6 .or .u64 (x7.g x4.toNat) (a.g x8.toNat))).n (λl=>if l=x4.toNat then splice ((λi=>cI .u64 (x7.g i)) l) 0 [pI .u64 (E6 .or .u64 (x7.g x4.toNat) (a.g x8.toNat))]else (λi=>cI .u64 (x7.g i)) l) (λi=>cI .u64 ((x7.upd x4.toNat (E6 .or .u64 (x7.g x4.toNat) (a.g x8.toNat))).g i)))] (al1 ⟨rfl,Az6 (c:=cI .u64) (v:=x7) (x:=E6 .or .u64 (x7.g x4.toNat) (a.g x8.toNat)) same (λ_=>by first|rfl|(dsimp only;split<;>rfl))⟩ al0))
   replace h:=itF c39 h;exact d _ [(11000,11000)] _ x7 _ Jy h
  exact j _ [(11000,11000)] _ x7 _ Jy h
 obtain rfl:=A6 h;exact kO Z Jy [11000]
def FC (N:Nat)(p_x:Sl Int)(b:Sl Int):Option (Sl Int):= if ((0:Int)<=(p_x.n:Int)/\(p_x.n:Int)<=(p_x.n:Int)/\(p_x.n:Int)*8<=140737488355328/\(p_x.n:Int)<=140737488355328)then Y4 N (λa (x1:Sl Int) (x2:Int)=>if (decide (x2<(p_x.n:Int))) then if (((((0:Int)<=x2/\x2<(p_x.n:Int))/\((0:Int)<=x2/\x2<(b.n:Int)))/\((0:Int)<=x2/\x2<(x1.n:Int)))/\x2.toNat<x1.n)then a (x1.upd x2.toNat (E6 .or .u64 (p_x.g x2.toNat) (b.g x2.toNat))) (wrap .i64 (x2+1)) else none else some x1) (Sl.rep (p_x.n:Int).toNat 0:Sl Int) 0 else none
theorem VQ {p_x:Sl Int}{a:Sl Int}{y:Sl Int}(h:FC N p_x a=some y) :Qi S VJ [.p (vSl 1 (cI .u64) p_x),.p (vSl 1 (cI .u64) a)] [] (.vec 0) ([oV J7 1 (cI .u64) y true]) []:=by
 unfold FC at h;refine A1 Z func275 ?_;obtain⟨c1,h⟩:=B9 h;refine G2 Z c1 h (λx1 x2=>⟨[(6,pN x2),(5,.vec 10000),(1,.p (vSl 1 (cI .u64) a)),(0,.p (vSl 1 (cI .u64) p_x))],[(10000,oV J7 1 (cI .u64) x1 false)]⟩) (ids:=[(10000,10000)]) (λ_ _ _ _ _ b x1 x2 d h=>?_);apply kI Z h<;>intro h
 .refine B5 Z Jy [4,5,8,9] ?_;obtain⟨c7,h⟩:=B9 h;refine C7 (Qe (Qe (Qe c7.1.1.1 c7.1.1.2) c7.1.2) (Qe (rfl:(1:Nat)=1) (Qe c7.2 Mm))) ?_;exact d _ [(10000,10000)] _ _ _ Jy h (hle:=klR [(3,.fn x1.n (x1.upd x2.toNat (E6 .or .u64 (p_x.g x2.toNat) (a.g x2.toNat))).n (λl=>if l=x2.toNat then splice ((λi=>cI .u64 (x1.g i)) l) 0 [pI .u64 (E6 .or .u64 (p_x.g x2.toNat) (a.g x2.toNat))]else (λi=>cI .u64 (x1.g i)) l) (λi=>cI .u64 ((x1.upd x2.toNat (E6 .or .u64 (p_x.g x2.toNat) (a.g x2.toNat))).g i)))] (al1 ⟨rfl,Az6 (c:=cI .u64) (v:=x1) (x:=E6 .or .u64 (p_x.g x2.toNat) (a.g x2.toNat)) same (λ_=>by first|rfl|(dsimp only;split<;>rfl))⟩ al0))
 obtain rfl:=A6 h;exact kO Z Jy [10000]
def Gw (N:Nat)(p_x:Sl Int)(b:Sl Int):Option Bool:= O7 N (λa (x1:Int)=>if (decide (x1<(p_x.n:Int))) then if (((0:Int)<=x1/\x1<(p_x.n:Int))/\((0:Int)<=x1/\x1<(b.n:Int)))then if ((p_x.g x1.toNat) != (b.g x1.toNat)) then some false else a (wrap .i64 (x1+1)) else none else some true) 0
theorem As7 {p_x:Sl Int}{a:Sl Int}{y:Bool}(h:Gw N p_x a=some y) :Qi S Sy [.p (vSl 1 (cI .u64) p_x),.p (vSl 1 (cI .u64) a)] [] (pB y) ([]) []:=by
 unfold Gw at h;refine A1 Z func276 ?_;refine F1 Z Jy h (λx1=>⟨[(5,pN x1),(1,.p (vSl 1 (cI .u64) a)),(0,.p (vSl 1 (cI .u64) p_x))],[]⟩) (ids:=[]) (λ_ _ _ _ _ b x1 c h=>?_);apply kI Z h<;>intro h
 .refine B5 Z Jy [2,3,6,7] ?_;obtain⟨c8,h⟩:=B9 h;refine C7 c8 ?_;refine Ug Z h fun h=>?_;exact c _ [] _ _ Jy h
 cases h;exact kR Z
def DB (rec:Pat->(Sl Qb)->Option (Sl Int))(N:Nat)(a:Pat)(c:Sl Qb):Option (Sl Int):= if ((0:Int)<=(wrap .i64 ((c.n:Int)+1))/\(wrap .i64 ((c.n:Int)+1))<=(wrap .i64 ((c.n:Int)+1))/\(wrap .i64 ((c.n:Int)+1))*8<=140737488355328/\(wrap .i64 ((c.n:Int)+1))<=140737488355328)then Y4 N (λb (x1:Sl Int) (x2:Int)=>if (decide (x2<=(c.n:Int))) then if (a.Kind==0) then if (((0:Int)<=x2/\((0:Int)<=x2/\x2<(x1.n:Int)))/\x2.toNat<x1.n)then b (x1.upd x2.toNat (shI .shl .u64 1 x2)) (wrap .i64 (x2+1)) else none else if (a.Kind==1) then if (decide (x2<(c.n:Int))) then if ((0:Int)<=x2/\x2<(c.n:Int))then (Gv N (c.g x2.toNat) a.Is).bind λy3=>if ((y3==a.Not) != true) then if (((0:Int)<=(wrap .i64 (x2+1))/\((0:Int)<=x2/\x2<(x1.n:Int)))/\x2.toNat<x1.n)then b (x1.upd x2.toNat (shI .shl .u64 1 (wrap .i64 (x2+1)))) (wrap .i64 (x2+1)) else none else b x1 (wrap .i64 (x2+1)) else none else b x1 (wrap .i64 (x2+1)) else if (a.Kind==2) then if (x2==0) then if (((0:Int)<=x2/\x2<(x1.n:Int))/\x2.toNat<x1.n)then b (x1.upd x2.toNat 1) (wrap .i64 (x2+1)) else none else b x1 (wrap .i64 (x2+1)) else if (a.Kind==6) then if (x2==(c.n:Int)) then if (((0:Int)<=x2/\((0:Int)<=x2/\x2<(x1.n:Int)))/\x2.toNat<x1.n)then b (x1.upd x2.toNat (shI .shl .u64 1 x2)) (wrap .i64 (x2+1)) else none else b x1 (wrap .i64 (x2+1)) else b x1 (wrap .i64 (x2+1)) else if (a.Kind==3) then (FB N (c.n:Int)).bind λy4=>Y4 N (λi (x3:Sl Int) (x4:Int)=>if (decide (x4<(a.L.n:Int))) then if ((0:Int)<=x4/\x4<(a.L.n:Int))then (rec (a.L.g x4.toNat) c).bind λy9=>(Be N x3 y9).bind λo=>i o (wrap .i64 (x4+1)) else none else some x3) y4 0 else if (a.Kind==4) then Y4 N (λj (x5:Sl Int) (x6:Int)=>if (decide (x6<(a.L.n:Int))) then if ((0:Int)<=x6/\x6<(a.L.n:Int))then (rec (a.L.g x6.toNat) c).bind λq=>(FC N x5 q).bind λr=>j r (wrap .i64 (x6+1)) else none else some x5) x1 0 else if (a.Kind==5) then if ((0:Int)<=0/\0<(a.L.n:Int))then (rec (a.L.g 0) c).bind λm=>(FB N (c.n:Int)).bind λs=>AT6 N (λd (x8:Sl Int) (x9:Sl Int) (f:Int)=>if (decide (a.Min<=f)) then (FC N x8 x9).bind λl=>lt (λ(z3:Bool)=>if z3 then some l else (Be N x9 m).bind λt=>d l t (wrap .i64 (f+1))) λk3=>if (f==a.Max) then k3 true else if (decide (a.Min<f)) then (Gw N x8 l).bind λu=>k3 u else k3 false else (Be N x9 m).bind λv=>d x8 v (wrap .i64 (f+1))) x1 s 0 else none else some x1) (Sl.rep (wrap .i64 ((c.n:Int)+1)).toNat 0:Sl Int) 0 else none
def Ed:Nat->Pat->(Sl Qb)->Option (Sl Int)
 |0=>λ_ _=>none
 |N+1=>DB (Ed N) N
theorem Ae6 {rec:Pat->(Sl Qb)->Option (Sl Int)}(j:∀{a:Pat}{d:Sl Qb}{y:Sl Int},rec a d=some y->Qi S Ii [.p (.agg (B7 a)),.p (vSl 2 A0 d)] [] (.vec 0) ([oV J7 1 (cI .u64) y true]) []){a:Pat}{d:Sl Qb}{y:Sl Int}(h:DB rec N a d=some y) :Qi S Ii [.p (.agg (B7 a)),.p (vSl 2 A0 d)] [] (.vec 0) ([oV J7 1 (cI .u64) y true]) []:=by
 unfold DB at h;refine A1 Z func267 ?_;refine D9 Z Jy 4 3000 (B7 a) ?_;obtain⟨c1,h⟩:=B9 h;refine G2 Z c1 h (λx1 x2=>⟨[(7,pN x2),(6,.vec 19000),(5,pN (d.n:Int)),(2,.p (.ptr (B7 a))),(1,.p (vSl 2 A0 d))],[(19000,oV J7 1 (cI .u64) x1 false)]⟩) (ids:=[(19000,19000)]) (λ_ _ _ _ _ t x1 x2 f h=>?_);apply kI Z h<;>intro h
 .apply kI Z h<;>intro h
  .obtain⟨c24,h⟩:=B9 h;exact f _ [(19000,19000)] _ (x1.upd x2.toNat (shI .shl .u64 1 x2)) (wrap .i64 (x2+1)) (Qe (Qe c24.1.1 c24.1.2) (Qe (rfl:(1:Nat)=1) (Qe c24.2 Mm))) h (hle:=klR [(4,.fn x1.n (x1.upd x2.toNat (shI .shl .u64 1 x2)).n (λl=>if l=x2.toNat then splice ((λi=>cI .u64 (x1.g i)) l) 0 [pI .u64 (shI .shl .u64 1 x2)]else (λi=>cI .u64 (x1.g i)) l) (λi=>cI .u64 ((x1.upd x2.toNat (shI .shl .u64 1 x2)).g i)))] (al1 ⟨rfl,Az6 (c:=cI .u64) (v:=x1) (x:=shI .shl .u64 1 x2) same (λ_=>by first|rfl|(dsimp only;split<;>rfl))⟩ al0))
  apply kI Z h<;>intro h
  .refine B5 Z Jy [6,7,9,10,12] ?_;refine S7 Jy (b:=decide (x2<(d.n:Int))) (λc26=>?_) (λc26=>?_)
   .replace h:=itT c26 h;obtain⟨c27,h⟩:=B9 h;obtain⟨y3,e3,h⟩:=A7 h;refine F7 (Qe (Qe c27 Mn) (by decide:(2:Nat)<=6)) (SX Z Y e3) ?_;refine C7 Jy ?_;apply kI Z h<;>intro h
    .obtain⟨c29,h⟩:=B9 h;exact f _ [(19000,19000)] _ (x1.upd x2.toNat (shI .shl .u64 1 (wrap .i64 (x2+1)))) (wrap .i64 (x2+1)) (Qe (Qe c29.1.1 c29.1.2) (Qe (rfl:(1:Nat)=1) (Qe c29.2 Mm))) h (hle:=klR [(4,.fn x1.n (x1.upd x2.toNat (shI .shl .u64 1 (wrap .i64 (x2+1)))).n (λl=>if l=x2.toNat then splice ((λi=>cI .u64 (x1.g i)) l) 0 [pI .u64 (shI .shl .u64 1 (wrap .i64 (x2+1)))]else (λi=>cI .u64 (x1.g i)) l) (λi=>cI .u64 ((x1.upd x2.toNat (shI .shl .u64 1 (wrap .i64 (x2+1)))).g i)))] (al1 ⟨rfl,Az6 (c:=cI .u64) (v:=x1) (x:=shI .shl .u64 1 (wrap .i64 (x2+1))) same (λ_=>by first|rfl|(dsimp only;split<;>rfl))⟩ al0))
    exact f _ [(19000,19000)] _ x1 _ Jy h
   replace h:=itF c26 h;refine C7 Jy ?_;exact f _ [(19000,19000)] _ x1 _ Jy h
  apply kI Z h<;>intro h
  .apply kI Z h<;>intro h
   .obtain⟨c32,h⟩:=B9 h;exact f _ [(19000,19000)] _ (x1.upd x2.toNat 1) (wrap .i64 (x2+1)) (Qe c32.1 (Qe (rfl:(1:Nat)=1) (Qe c32.2 Mm))) h (hle:=klR [(4,.fn x1.n (x1.upd x2.toNat 1).n (λl=>if l=x2.toNat then splice ((λi=>cI .u64 (x1.g i)) l) 0 [pI .u64 1]else (λi=>cI .u64 (x1.g i)) l) (λi=>cI .u64 ((x1.upd x2.toNat 1).g i)))] (al1 ⟨rfl,Az6 (c:=cI .u64) (v:=x1) (x:=1) same (λ_=>by first|rfl|(dsimp only;split<;>rfl))⟩ al0))
   exact f _ [(19000,19000)] _ x1 _ Jy h
  apply kI Z h<;>intro h
  .apply kI Z h<;>intro h
   .obtain⟨c35,h⟩:=B9 h;exact f _ [(19000,19000)] _ (x1.upd x2.toNat (shI .shl .u64 1 x2)) (wrap .i64 (x2+1)) (Qe (Qe c35.1.1 c35.1.2) (Qe (rfl:(1:Nat)=1) (Qe c35.2 Mm))) h (hle:=klR [(4,.fn x1.n (x1.upd x2.toNat (shI .shl .u64 1 x2)).n (λl=>if l=x2.toNat then splice ((λi=>cI .u64 (x1.g i)) l) 0 [pI .u64 (shI .shl .u64 1 x2)]else (λi=>cI .u64 (x1.g i)) l) (λi=>cI .u64 ((x1.upd x2.toNat (shI .shl .u64 1 x2)).g i)))] (al1 ⟨rfl,Az6 (c:=cI .u64) (v:=x1) (x:=shI .shl .u64 1 x2) same (λ_=>by first|rfl|(dsimp only;split<;>rfl))⟩ al0))
   exact f _ [(19000,19000)] _ x1 _ Jy h
  exact f _ [(19000,19000)] _ x1 _ Jy h
 apply kI Z h<;>intro h
 .refine kC Z h (VP Z Y) (λy4 h=>?_);refine G2 Z Jy h (λx3 x4=>⟨[(8,pN x4),(6,.vec 7500),(2,.p (.ptr (B7 a))),(1,.p (vSl 2 A0 d))],[(7500,oV J7 1 (cI .u64) x3 true)]⟩) (ids:=[(7500,79000)]) (λ_ _ _ _ _ u x3 x4 w h=>?_);refine I7 Z Jy 82 ⟨[(81,.p (vSl 7 B7 a.L)),(79,pN x4),(8,pN x4),(6,.vec 7500),(2,.p (.ptr (B7 a))),(1,.p (vSl 2 A0 d))],[(7500,oV J7 1 (cI .u64) x3 true)]⟩ (ids:=[(7500,7500)]) ?_ (hle:=klR [(0,.fn a.L.n a.L.n (CA a) (λi=>B7 (a.L.g i)))] (al1 ⟨rfl,P7 a⟩ al0));apply kI Z h<;>intro h
  .refine I7 Z Jy 90 ⟨[(89,pN x4),(88,.p (vSl 7 B7 a.L)),(86,.vec 7500),(8,pN x4),(2,.p (.ptr (B7 a))),(1,.p (vSl 2 A0 d))],[(7500,oV J7 1 (cI .u64) x3 true)]⟩ (ids:=[(7500,7500)]) ?_ (hle:=klR [(1,.fn a.L.n a.L.n (CA a) (λi=>B7 (a.L.g i)))] (al1 ⟨rfl,P7 a⟩ al0));obtain⟨c42,h⟩:=B9 h;obtain⟨y9,e9,h⟩:=A7 h;refine A8 Z [] (Qe c42 Nt) (j e9) ?_;refine kC Z h (Kl Z Y) (λz h=>?_);exact w _ [(7500,95000)] _ z _ Jy h
  obtain rfl:=A6 h;exact kO Z Jy [7500]
 apply kI Z h<;>intro h
 .refine G2 Z Jy h (λx5 x6=>⟨[(9,pN x6),(6,.vec 7500),(2,.p (.ptr (B7 a))),(1,.p (vSl 2 A0 d))],[(7500,oV J7 1 (cI .u64) x5 true)]⟩) (ids:=[(7500,19000)]) (λ_ _ _ _ _ a0 x5 x6 a1 h=>?_);refine I7 Z Jy 100 ⟨[(99,.p (vSl 7 B7 a.L)),(97,pN x6),(9,pN x6),(6,.vec 7500),(2,.p (.ptr (B7 a))),(1,.p (vSl 2 A0 d))],[(7500,oV J7 1 (cI .u64) x5 true)]⟩ (ids:=[(7500,7500)]) ?_ (hle:=klR [(0,.fn a.L.n a.L.n (CA a) (λi=>B7 (a.L.g i)))] (al1 ⟨rfl,P7 a⟩ al0));apply kI Z h<;>intro h
  .refine I7 Z Jy 108 ⟨[(107,pN x6),(106,.p (vSl 7 B7 a.L)),(104,.vec 7500),(9,pN x6),(2,.p (.ptr (B7 a))),(1,.p (vSl 2 A0 d))],[(7500,oV J7 1 (cI .u64) x5 true)]⟩ (ids:=[(7500,7500)]) ?_ (hle:=klR [(1,.fn a.L.n a.L.n (CA a) (λi=>B7 (a.L.g i)))] (al1 ⟨rfl,P7 a⟩ al0));obtain⟨c49,h⟩:=B9 h;obtain⟨a7,e15,h⟩:=A7 h;refine A8 Z [] (Qe c49 Nt) (j e15) ?_;refine kC Z h (VQ Z Y) (λa2 h=>?_);exact a1 _ [(7500,113000)] _ a2 _ Jy h
  obtain rfl:=A6 h;exact kO Z Jy [7500]
 apply kI Z h<;>intro h
 .refine I7 Z Jy 117 ⟨[(116,.p (vSl 7 B7 a.L)),(6,.vec 19000),(5,pN (d.n:Int)),(2,.p (.ptr (B7 a))),(1,.p (vSl 2 A0 d))],[(19000,oV J7 1 (cI .u64) x1 false)]⟩ (ids:=[(19000,19000)]) ?_ (hle:=klR [(0,.fn a.L.n a.L.n (CA a) (λi=>B7 (a.L.g i)))] (al1 ⟨rfl,P7 a⟩ al0));obtain⟨c51,h⟩:=B9 h;obtain⟨q,e17,h⟩:=A7 h;refine A8 Z [] (Qe c51 Nt) (j e17) ?_;refine kC Z h (VP Z Y) (λa8 h=>?_);refine Nb Z Jy h (λx8 x9 m=>⟨[(12,pN m),(11,.vec 12500),(10,.vec 121000),(6,.vec 7500),(2,.p (.ptr (B7 a)))],[(121000,oV J7 1 (cI .u64) q true),(12500,oV J7 1 (cI .u64) x9 true),(7500,oV J7 1 (cI .u64) x8 true)]⟩) (ids:=[(7500,19000),(12500,123000),(121000,121000)]) (λ_ _ _ _ _ a3 x8 x9 m r h=>?_);apply kI Z h<;>intro h
  .refine kC Z h (VQ Z Y) (λs h=>?_);refine GN Z Jy (A3 Z) h 0 (λz3=>⟨[(147,pB z3),(12,pN m),(11,.vec 12500),(10,.vec 121000),(6,.vec 133000),(2,.p (.ptr (B7 a)))],[(133000,oV J7 1 (cI .u64) s true),(121000,oV J7 1 (cI .u64) q true),(12500,oV J7 1 (cI .u64) x9 true)]⟩) (λM3 k3 o h=>?_) (λz3 h=>?_)
   .refine kG Z h (λh=>?_) (λh=>?_)
    .exact o _ (Qc [12500,121000,133000]) _ _ Jy h
    refine kG Z h (λh=>?_) (λh=>?_)
    .refine kC Z h (As7 Z Y) (λa4 h=>?_);exact o _ (Qc [12500,121000,133000]) _ a4 Jy h
    exact o _ (Qc [12500,121000,133000]) _ _ Jy h
   apply kI Z h<;>intro h
   .obtain rfl:=A6 h;exact kO Z Jy [133000]
   refine kC Z h (Kl Z Y) (λa5 h=>?_);exact r _ [(7500,133000),(12500,152000),(121000,121000)] _ s a5 _ Jy h
  refine kC Z h (Kl Z Y) (λa6 h=>?_);exact r _ [(7500,7500),(12500,152000),(121000,121000)] _ x8 a6 _ Jy h
 obtain rfl:=A6 h;exact kO Z Jy [19000]
theorem SY {a:Pat}{b:Sl Qb}{y:Sl Int}(h:Ed N a b=some y) :Qi S Ii [.p (.agg (B7 a)),.p (vSl 2 A0 b)] [] (.vec 0) ([oV J7 1 (cI .u64) y true]) []:=by
 induction N generalizing a b y with
 |zero=>cases (show (none:Option (Sl Int))=some y from h)
 |succ N ih=>exact Ae6 Z Y (λe=>ih e) h
def FD (N:Nat)(a:Pat)(b:Sl Qb):Option Int:= (CQ N a).bind λy1=>if (y1==0) then (W8 N b).bind λy2=>some y2 else some y1
theorem VR {a:Pat}{b:Sl Qb}{y:Int}(h:FD N a b=some y) :Qi S VG [.p (.agg (B7 a)),.p (vSl 2 A0 b)] [] (pN y) ([]) []:=by
 unfold FD at h;refine A1 Z func266 ?_;refine kC Z h (MA Z Y) (λy1 h=>?_);apply kI Z h<;>intro h
 .refine kC Z h (Eb Z Y) (λy2 h=>?_);cases h;exact kR Z
 cases h;exact kR Z
def HJ (N:Nat)(d:Pat)(c:Sl Qb)(a:Int):Option ((Sl Int)×Int):= (FD N d c).bind λy1=>if (y1 != 0) then some (Ox,y1) else if ((decide (a<0))||(decide ((c.n:Int)<a))) then some (Ox,3) else (Ed N d c).bind λy2=>Y4 N (λb (x1:Sl Int) (x2:Int)=>if (decide (x2<=(c.n:Int))) then if ((((0:Int)<=a/\a<(y2.n:Int))/\a.toNat<y2.n)/\(0:Int)<=x2)then if ((E6 .and .u64 (shI .shr .u64 (y2.g a.toNat) x2) 1)==1) then if (Qd 8 (x1.n+(Sl.of [x2]:Sl Int).n))then b (x1.push x2) (wrap .i64 (x2+1)) else none else b x1 (wrap .i64 (x2+1)) else none else some (x1,0)) Ox 0
theorem AL5 {f:Pat}{d:Sl Qb}{c:Int}{y:(Sl Int)×Int}(h:HJ N f d c=some y) :Qi S VE [.p (.agg (B7 f)),.p (vSl 2 A0 d),pN c] [] (.tup [.vec 0,pN y.2]) ([oV D2 1 (cI .i64) y.1 true]) []:=by
 unfold HJ at h;refine A1 Z func260 ?_;refine kC Z h (VR Z Y) (λy1 h=>?_);apply kI Z h<;>intro h
 .obtain rfl:=A6 h;exact kO Z Jy [7700]
 refine kB Z (A3 Z) Jy Jy 5 (.o (.a (decide (c<0))) (.a (decide ((d.n:Int)<c)))) ?_;apply kI Z h<;>intro h
 .obtain rfl:=A6 h;exact kO Z Jy [7700]
 refine kC Z h (SY Z Y) (λy2 h=>?_);refine G2 Z Jy h (λx1 x2=>⟨[(11,pN x2),(10,.vec 11500),(9,.vec 29000),(2,pN c),(1,.p (vSl 2 A0 d))],[(29000,oV J7 1 (cI .u64) y2 true),(11500,oV D2 1 (cI .i64) x1 false)]⟩) (ids:=[(29000,29000)]) (λ_ _ _ _ _ j x1 x2 i h=>?_);apply kI Z h<;>intro h
 .obtain⟨c10,h⟩:=B9 h;refine C6 Z c10 (b:=(E6 .and .u64 (shI .shr .u64 (y2.g c.toNat) x2) 1)==1) (λc11=>?_) (λc11=>?_)
  .replace h:=itT c11 h;obtain⟨c12,h⟩:=B9 h;exact i _ [(11500,47000),(29000,29000)] _ (x1.push x2) (wrap .i64 (x2+1)) (Qe Ow c12) h (hle:=kl1 4 (R7 (cI .i64) x1 x2 [pI .i64 0]))
  replace h:=itF c11 h;exact i _ (Qc [11500,29000]) _ x1 _ Jy h
 obtain rfl:=A6 h;exact kO Z Jy [11500]
def EM (N:Nat)(d:Pat)(c:Sl Qb)(a:Int):Option ((Sl Int)×Int):= (FD N d c).bind λy1=>if (y1 != 0) then some (Ox,y1) else if ((decide (a<0))||(decide ((c.n:Int)<a))) then some (Ox,3) else (Ed N d c).bind λy2=>Y4 N (λb (x1:Sl Int) (x2:Int)=>if (decide (x2<=(c.n:Int))) then if ((((0:Int)<=x2/\x2<(y2.n:Int))/\x2.toNat<y2.n)/\(0:Int)<=a)then if ((E6 .and .u64 (shI .shr .u64 (y2.g x2.toNat) a) 1)==1) then if (Qd 8 (x1.n+(Sl.of [x2]:Sl Int).n))then b (x1.push x2) (wrap .i64 (x2+1)) else none else b x1 (wrap .i64 (x2+1)) else none else some (x1,0)) Ox 0
theorem Ae7 {f:Pat}{d:Sl Qb}{c:Int}{y:(Sl Int)×Int}(h:EM N f d c=some y) :Qi S PF [.p (.agg (B7 f)),.p (vSl 2 A0 d),pN c] [] (.tup [.vec 0,pN y.2]) ([oV D2 1 (cI .i64) y.1 true]) []:=by
 unfold EM at h;refine A1 Z func259 ?_;refine kC Z h (VR Z Y) (λy1 h=>?_);apply kI Z h<;>intro h
 .obtain rfl:=A6 h;exact kO Z Jy [7700]
 refine kB Z (A3 Z) Jy Jy 5 (.o (.a (decide (c<0))) (.a (decide ((d.n:Int)<c)))) ?_;apply kI Z h<;>intro h
 .obtain rfl:=A6 h;exact kO Z Jy [7700]
 refine kC Z h (SY Z Y) (λy2 h=>?_);refine G2 Z Jy h (λx1 x2=>⟨[(11,pN x2),(10,.vec 11500),(9,.vec 29000),(2,pN c),(1,.p (vSl 2 A0 d))],[(29000,oV J7 1 (cI .u64) y2 true),(11500,oV D2 1 (cI .i64) x1 false)]⟩) (ids:=[(29000,29000)]) (λ_ _ _ _ _ j x1 x2 i h=>?_);apply kI Z h<;>intro h
 .obtain⟨c10,h⟩:=B9 h;refine C6 Z c10 (b:=(E6 .and .u64 (shI .shr .u64 (y2.g x2.toNat) c) 1)==1) (λc11=>?_) (λc11=>?_)
  .replace h:=itT c11 h;obtain⟨c12,h⟩:=B9 h;exact i _ [(11500,47000),(29000,29000)] _ (x1.push x2) (wrap .i64 (x2+1)) (Qe Ow c12) h (hle:=kl1 4 (R7 (cI .i64) x1 x2 [pI .i64 0]))
  replace h:=itF c11 h;exact i _ (Qc [11500,29000]) _ x1 _ Jy h
 obtain rfl:=A6 h;exact kO Z Jy [11500]
def IA (N:Nat)(a:Law)(b:Sl Qb):Option Int:= (Z7 N a).bind λy1=>if (y1 != 0) then some y1 else (W8 N b).bind λy2=>some y2
theorem As8 {a:Law}{b:Sl Qb}{y:Int}(h:IA N a b=some y) :Qi S Sp [.p (.agg (B3 a)),.p (vSl 2 A0 b)] [] (pN y) ([]) []:=by
 unfold IA at h;refine A1 Z func240 ?_;refine kC Z h (MB Z Y) (λy1 h=>?_);refine Ug Z h fun h=>?_;refine kC Z h (Eb Z Y) (λy2 h=>?_);cases h;exact kR Z
def Gx (N:Nat)(a:Law)(c:Sl Qb)(b:Int):Option Bool:= if ((decide (b<0))||(decide ((c.n:Int)<(wrap .i64 (b+(a.If.n:Int)))))) then some false else O7 N (λd (x1:Int)=>if (decide (x1<(a.If.n:Int))) then if (((0:Int)<=(wrap .i64 (b+x1))/\(wrap .i64 (b+x1))<(c.n:Int))/\((0:Int)<=x1/\x1<(a.If.n:Int)))then (V2 N (c.g (wrap .i64 (b+x1)).toNat) (a.If.g x1.toNat)).bind λy3=>if (!y3) then some false else d (wrap .i64 (x1+1)) else none else (EM N a.Left c b).bind λy4=>(HJ N a.Right c (wrap .i64 (b+(a.If.n:Int)))).bind λy5=>some ((decide (0<(y4.1.n:Int)))&&(decide (0<(y5.1.n:Int))))) 0
theorem SZ {b:Law}{d:Sl Qb}{c:Int}{y:Bool}(h:Gx N b d c=some y) :Qi S Ab7 [.p (.agg (B3 b)),.p (vSl 2 A0 d),pN c] [] (pB y) ([]) []:=by
 unfold Gx at h;refine A1 Z func250 ?_;refine D9 Z Jy 6 4000 (B3 b) ?_;refine kB Z (A3 Z) Jy Jy 7 (.o (.a (decide (c<0))) (.a (decide ((d.n:Int)<(wrap .i64 (c+(b.If.n:Int))))))) ?_;refine Ug Z h fun h=>?_;refine F1 Z Jy h (λx1=>⟨[(8,pN x1),(7,pN (b.If.n:Int)),(3,.p (.ptr (B3 b))),(2,pN c),(1,.p (vSl 2 A0 d))],[]⟩) (ids:=[]) (λ_ _ _ _ _ f x1 g h=>?_);apply kI Z h<;>intro h
 .refine B5 Z Jy [4,5,7,9,10,11] ?_;obtain⟨c9,h⟩:=B9 h;obtain⟨y3,e3,h⟩:=A7 h;refine F7 (Qe (Qe (Qe c9.1 Mn) c9.2) Mn) (SW Z Y e3) ?_;refine C7 Jy ?_;refine Ug Z h fun h=>?_;exact g _ [] _ _ Jy h
 obtain⟨y4,e4,h⟩:=A7 h;refine A8 Z [] (by decide:(7:Nat)<=17) (Ae7 Z Y e4) ?_;obtain⟨y5,e5,h⟩:=A7 h;refine A8 Z [] (by decide:(7:Nat)<=10) (AL5 Z Y e5) ?_;refine kB Z (A3 Z) Jy Jy 4 (.n (.a (decide (0<(y4.1.n:Int)))) (.a (decide (0<(y5.1.n:Int))))) ?_;cases h;exact kR Z
def EN (N:Nat)(a:Law)(b:Sl Qb):Option (Sl Qb):= Y4 N (λc (x1:Sl Qb) (x2:Int)=>if (decide (x2<(a.Out.n:Int))) then if ((0:Int)<=x2/\x2<(a.Out.n:Int))then if ((decide (0<=(a.Out.g x2.toNat).From))=true->((0:Int)<=(a.Out.g x2.toNat).From/\(a.Out.g x2.toNat).From<(b.n:Int)))then (W3 N (⟨(if (decide (0<=(a.Out.g x2.toNat).From)) then (b.g (a.Out.g x2.toNat).From.toNat).Plus else 0),(if (decide (0<=(a.Out.g x2.toNat).From)) then (b.g (a.Out.g x2.toNat).From.toNat).Minus else 0)⟩:Qb) (a.Out.g x2.toNat).Clear (a.Out.g x2.toNat).Set).bind λy5=>if ((a.Out.g x2.toNat).Take != 0) then if ((0:Int)<=(a.Out.g x2.toNat).Of/\(a.Out.g x2.toNat).Of<(b.n:Int))then (Bw N y5.1 (b.g (a.Out.g x2.toNat).Of.toNat) (a.Out.g x2.toNat).Take).bind λy6=>if (Qd 8 (x1.n+(Sl.of [y6.1]:Sl Qb).n))then c (x1.push y6.1) (wrap .i64 (x2+1)) else none else none else if (Qd 8 (x1.n+(Sl.of [y5.1]:Sl Qb).n))then c (x1.push y5.1) (wrap .i64 (x2+1)) else none else none else none else some x1) Oy 0
theorem Ae8 {c:Law}{a:Sl Qb}{y:Sl Qb}(h:EN N c a=some y) :Qi S Ab8 [.p (.agg (B3 c)),.p (vSl 2 A0 a)] [] (.vec 0) ([oV B1 2 A0 y true]) []:=by
 unfold EN at h;refine A1 Z func251 ?_;refine D9 Z Jy 4 3000 (B3 c) ?_;refine G2 Z Jy h (λx1 x2=>⟨[(6,pN x2),(5,.vec 6500),(2,.p (.ptr (B3 c))),(1,.p (vSl 2 A0 a))],[(6500,oV B1 2 A0 x1 false)]⟩) (ids:=[]) (λ_ _ _ _ _ l x1 x2 i h=>?_);apply kI Z h<;>intro h
 .obtain⟨c16,h⟩:=B9 h;refine D9 Z (Qe c16 (by decide:(6:Nat)<=6)) 21 8000 (Y7 (c.Out.g x2.toNat)) ?_;obtain⟨c18,h⟩:=B9 h;obtain⟨t5,d⟩:∃x:Int,x=(if (decide (0<=(c.Out.g x2.toNat).From)) then (a.g (c.Out.g x2.toNat).From.toNat).Plus else 0):=⟨_,rfl⟩;obtain⟨t6,f⟩:∃x:Int,x=(if (decide (0<=(c.Out.g x2.toNat).From)) then (a.g (c.Out.g x2.toNat).From.toNat).Minus else 0):=⟨_,rfl⟩;refine Zu Z Jy (A3 Z) 0 ⟨[(8,.reg 9000 0),(7,.p (.ptr (Y7 (c.Out.g x2.toNat)))),(6,pN x2),(5,.vec 6500),(2,.p (.ptr (B3 c))),(1,.p (vSl 2 A0 a))],[(9000,.cells [pU t5,pU t6]),(6500,oV B1 2 A0 x1 false)]⟩ (λM3 j=>?_) ?_
  .refine C6 Z Jy (b:=decide (0<=(c.Out.g x2.toNat).From)) (λc19=>?_) (λc19=>?_)
   .exact j _ (Qc [6500,9000]) _ (Qe (c18 c19) Mn) (hle:=klR [(4,.eq (pI .u32 (a.g (c.Out.g x2.toNat).From.toNat).Plus) (pI .u32 t5)),(5,.eq (pI .u32 (a.g (c.Out.g x2.toNat).From.toNat).Minus) (pI .u32 t6))] (al1 (by simp only[d,f,c19,Sd.ok,pm,Hu,Ih]) (al1 (by simp only[d,f,c19,Sd.ok,pm,Hu,Ih]) al0)))
   exact j _ (Qc [6500,9000]) _ Jy (hle:=klR [(4,.eq (pI .u32 0) (pI .u32 t5)),(5,.eq (pI .u32 0) (pI .u32 t6))] (al1 (by simp only[d,f,c19,Sd.ok,pm,Hu,Ih]) (al1 (by simp only[d,f,c19,Sd.ok,pm,Hu,Ih]) al0)))
  subst f;subst d;obtain⟨y5,e5,h⟩:=A7 h;refine A8 Z [] (by decide:(2:Nat)<=4) (Ae5 Z Y e5) ?_;apply kI Z h<;>intro h
  .refine B5 Z Jy [3,4,5,7,8] ?_;obtain⟨c21,h⟩:=B9 h;obtain⟨y6,e6,h⟩:=A7 h;refine F7 (Qe c21 Mn) (AL3 Z Y e6) ?_;refine C7 Jy ?_;obtain⟨c22,h⟩:=B9 h;exact i _ [(6500,58000)] _ (x1.push y6.1) (wrap .i64 (x2+1)) (Qe Ow c22) h (hle:=kl1 3 (R7 A0 x1 y6.1 [pI .u32 0,pI .u32 0]))
  obtain⟨c23,h⟩:=B9 h;exact i _ [(6500,58000)] _ (x1.push y5.1) (wrap .i64 (x2+1)) (Qe Ow c23) h (hle:=kl1 3 (R7 A0 x1 y5.1 [pI .u32 0,pI .u32 0]))
 obtain rfl:=A6 h;exact kO Z Jy [6500]
def Bx (N:Nat)(c:Law)(b:Sl Qb)(a:Int):Option (Sl Qb):= if (((0:Int)<=a/\a<=(b.n:Int))/\(Qd 8 (Oz.n+(b.take a.toNat).n)))then if ((0:Int)<=a/\a<=(wrap .i64 (a+(c.If.n:Int)))/\(wrap .i64 (a+(c.If.n:Int)))<=(b.n:Int))then (EN N c (b.sub a.toNat (wrap .i64 (a+(c.If.n:Int))).toNat)).bind λy1=>if (Qd 8 ((Oz.app (b.take a.toNat)).n+y1.n))then if (((0:Int)<=(wrap .i64 (a+(c.If.n:Int)))/\(wrap .i64 (a+(c.If.n:Int)))<=(b.n:Int))/\(Qd 8 (((Oz.app (b.take a.toNat)).app y1).n+(b.drop (wrap .i64 (a+(c.If.n:Int))).toNat).n)))then some (((Oz.app (b.take a.toNat)).app y1).app (b.drop (wrap .i64 (a+(c.If.n:Int))).toNat)) else none else none else none else none
theorem NS {d:Law}{a:Sl Qb}{b:Int}{y:Sl Qb}(h:Bx N d a b=some y) :Qi S NC [.p (.agg (B3 d)),.p (vSl 2 A0 a),pN b] [] (.vec 0) ([oV B1 2 A0 y true]) []:=by unfold Bx at h;refine A1 Z func252 ?_;refine D9 Z Jy 6 4000 (B3 d) ?_;obtain⟨c1,h⟩:=B9 h;refine B5 Z (Qe (Qe Ow c1.1) c1.2) [1] ?_;obtain⟨c2,h⟩:=B9 h;obtain⟨y1,e1,h⟩:=A7 h;refine IM [] (Qe Ov c2) (Ae8 Z Y e1) ?_;obtain⟨c3,h⟩:=B9 h;refine C7 c3 ?_;obtain⟨c4,h⟩:=B9 h;obtain rfl:=A6 h;exact kO Z c4 [34000] (hle:=klR [(0,.fn (((0+(a.take b.toNat).n)+y1.n)+(a.drop (wrap .i64 (b+(d.If.n:Int))).toNat).n) (((Oz.app (a.take b.toNat)).app y1).app (a.drop (wrap .i64 (b+(d.If.n:Int))).toNat)).n (DF ((0+(a.take b.toNat).n)+y1.n) (DF (0+(a.take b.toNat).n) (DF 0 (H2 [pI .u32 0,pI .u32 0] []) (λi=>A0 ((a.take b.toNat).g i))) (λi=>A0 (y1.g i))) (λi=>A0 ((a.drop (wrap .i64 (b+(d.If.n:Int))).toNat).g i))) (λi=>A0 ((((Oz.app (a.take b.toNat)).app y1).app (a.drop (wrap .i64 (b+(d.If.n:Int))).toNat)).g i)))] (al1 ⟨rfl,Zo (c:=A0) (v:=(Oz.app (a.take b.toNat)).app y1) (w:=a.drop (wrap .i64 (b+(d.If.n:Int))).toNat) (Zo (c:=A0) (v:=Oz.app (a.take b.toNat)) (w:=y1) (Zo (c:=A0) (v:=Oz) (w:=a.take b.toNat) (λi f=>Hc f (by omega)) rfl same rfl) rfl same rfl) rfl same rfl⟩ al0))
abbrev Bu6:=(Sl Int)×(Sl (Sl Qb))×Int
def BC3 (N:Nat)(a:Law)(b:Sl Qb)(c:Sl Int->Sl (Sl Qb)->Sl Qb->Int->Option Bu6)(x2:Sl Int)(x3:Sl (Sl Qb))(x4:Sl Qb)(x5:Int):Option Bu6:= if (decide (x5<=(b.n:Int))) then (Gx N a b x5).bind λy5=>if (!y5) then lt (λ(z3:Sl Qb)=>c x2 x3 z3 (wrap .i64 (x5+1))) λk3=>if (decide (x5<(b.n:Int))) then if (((0:Int)<=x5/\x5<(b.n:Int))/\(Qd 8 (x4.n+(Sl.of [b.g x5.toNat]:Sl Qb).n)))then k3 (x4.push (b.g x5.toNat)) else none else k3 x4 else if ((0:Int)<=x5/\x5<=(wrap .i64 (x5+(a.If.n:Int)))/\(wrap .i64 (x5+(a.If.n:Int)))<=(b.n:Int))then (EN N a (b.sub x5.toNat (wrap .i64 (x5+(a.If.n:Int))).toNat)).bind λy6=>if (Qd 8 (x4.n+y6.n))then if (Qd 8 (x2.n+(Sl.of [x5]:Sl Int).n))then if (((Qd 8 (Oz.n+(x4.app y6).n))/\((0:Int)<=(wrap .i64 (x5+(a.If.n:Int)))/\(wrap .i64 (x5+(a.If.n:Int)))<=(b.n:Int)))/\(Qd 8 ((Oz.app (x4.app y6)).n+(b.drop (wrap .i64 (x5+(a.If.n:Int))).toNat).n)))then if (decide (32<(((Oz.app (x4.app y6)).app (b.drop (wrap .i64 (x5+(a.If.n:Int))).toNat)).n:Int))) then some (Ox,Qa,11) else if (Qd 24 (x3.n+(Sl.of [(Oz.app (x4.app y6)).app (b.drop (wrap .i64 (x5+(a.If.n:Int))).toNat)]:Sl (Sl Qb)).n))then if ((a.If.n:Int)==0) then if (decide ((wrap .i64 (x5+(a.If.n:Int)))<(b.n:Int))) then if (((0:Int)<=(wrap .i64 (x5+(a.If.n:Int)))/\(wrap .i64 (x5+(a.If.n:Int)))<(b.n:Int))/\(Qd 8 ((x4.app y6).n+(Sl.of [b.g (wrap .i64 (x5+(a.If.n:Int))).toNat]:Sl Qb).n)))then c (x2.push x5) (x3.push ((Oz.app (x4.app y6)).app (b.drop (wrap .i64 (x5+(a.If.n:Int))).toNat))) ((x4.app y6).push (b.g (wrap .i64 (x5+(a.If.n:Int))).toNat)) (wrap .i64 ((wrap .i64 (x5+(a.If.n:Int)))+1)) else none else c (x2.push x5) (x3.push ((Oz.app (x4.app y6)).app (b.drop (wrap .i64 (x5+(a.If.n:Int))).toNat))) (x4.app y6) (wrap .i64 ((wrap .i64 (x5+(a.If.n:Int)))+1)) else c (x2.push x5) (x3.push ((Oz.app (x4.app y6)).app (b.drop (wrap .i64 (x5+(a.If.n:Int))).toNat))) (x4.app y6) (wrap .i64 (x5+(a.If.n:Int))) else none else none else none else none else none else some (x2,x3,0)
def Km (N:Nat)(a:Law)(b:Sl Qb):Option ((Sl Int)×(Sl (Sl Qb))×Int):= AO8 N (BC3 N a b) Ox Qa Oy 0
theorem AY1 {a:Law}{d:Sl Qb}{y:(Sl Int)×(Sl (Sl Qb))×Int}(h:Km N a d=some y) :Qi S Ab3 [.p (.agg (B3 a)),.p (vSl 2 A0 d)] [] (.tup [.vec 0,.vec 1,pN y.2.2]) ([oV D2 1 (cI .i64) y.1 true,oV E8 1 (cL 2 A0) y.2.1 true]) []:=by
 unfold Km at h;refine A1 Z func241 ?_;refine D9 Z Jy 4 3000 (B3 a) ?_;refine AA4 Z Jy h (λx2 x3 x4 x5=>⟨[(10,pN x5),(9,.vec 10501),(8,.vec 9500),(7,.vec 8500),(2,.p (.ptr (B3 a))),(1,.p (vSl 2 A0 d))],[(10501,oV B1 2 A0 x4 false),(9500,oV E8 1 (cL 2 A0) x3 false),(8500,oV D2 1 (cI .i64) x2 false)]⟩) (ids:=[]) (λ_ _ _ _ _ l x2 x3 x4 x5 f h=>?_);apply kI Z h<;>intro h
 .obtain⟨y5,e5,h⟩:=A7 h;refine A8 Z [] Ov (SZ Z Y e5) ?_;apply kI Z h<;>intro h
  .refine GN Z Jy (A3 Z) h 0 (λz3=>⟨[(10,pN x5),(9,.vec 10500),(8,.vec 9500),(7,.vec 8500),(2,.p (.ptr (B3 a))),(1,.p (vSl 2 A0 d))],[(10500,oV B1 2 A0 z3 false),(9500,oV E8 1 (cL 2 A0) x3 false),(8500,oV D2 1 (cI .i64) x2 false)]⟩) (λM6 k3 j h=>?_) (λz3 h=>?_)
   .apply kI Z h<;>intro h
    .obtain⟨c40,h⟩:=B9 h;exact j _ [(8500,8500),(9500,9500),(10500,33000)] _ (x4.push (d.g x5.toNat)) (Qe (Qe (Qe c40.1 Mn) Ow) c40.2) h (hle:=kl1 3 (R7 A0 x4 (d.g x5.toNat) [pI .u32 0,pI .u32 0]))
    exact j _ [(8500,8500),(9500,9500),(10500,10501)] _ x4 Jy h
   exact f _ [(8500,8500),(9500,9500),(10501,10500)] _ x2 x3 z3 _ Jy h
  refine B5 Z Jy [1] ?_;obtain⟨c41,h⟩:=B9 h;obtain⟨y6,e6,h⟩:=A7 h;refine IM [] (Qe Ov c41) (Ae8 Z Y e6) ?_;obtain⟨c42,h⟩:=B9 h;refine C7 c42 ?_;obtain⟨c43,h⟩:=B9 h;refine B5 Z (Qe Ow c43) [1000] ?_;obtain⟨c44,h⟩:=B9 h;refine C7 (Qe (Qe (Qe Ow c44.1.1) c44.1.2) c44.2) ?_;apply kI Z h<;>intro h
  .obtain rfl:=A6 h;exact kO Z Jy [5700,6701]
  refine I7 Z Jy 66 ⟨[(65,.vec 61000),(64,.vec 9500),(11,pN (a.If.n:Int)),(10,pN x5),(9,.vec 48000),(7,.vec 52000),(2,.p (.ptr (B3 a))),(1,.p (vSl 2 A0 d))],[(61000,.vec B1 2 ((Oz.app (x4.app y6)).app (d.drop (wrap .i64 (x5+(a.If.n:Int))).toNat)).n (λi=>A0 (((Oz.app (x4.app y6)).app (d.drop (wrap .i64 (x5+(a.If.n:Int))).toNat)).g i)) true),(52000,oV D2 1 (cI .i64) (x2.push x5) false),(48000,oV B1 2 A0 (x4.app y6) false),(9500,oV E8 1 (cL 2 A0) x3 false)]⟩ (ids:=(Qc [9500,48000,52000,61000])) ?_ (hle:=klR [(4,.fn ((0+(x4.n+y6.n))+(d.drop (wrap .i64 (x5+(a.If.n:Int))).toNat).n) ((Oz.app (x4.app y6)).app (d.drop (wrap .i64 (x5+(a.If.n:Int))).toNat)).n (DF (0+(x4.n+y6.n)) (DF 0 (H2 [pI .u32 0,pI .u32 0] []) (DF x4.n (λi=>A0 (x4.g i)) (λi=>A0 (y6.g i)))) (λi=>A0 ((d.drop (wrap .i64 (x5+(a.If.n:Int))).toNat).g i))) (λi=>A0 (((Oz.app (x4.app y6)).app (d.drop (wrap .i64 (x5+(a.If.n:Int))).toNat)).g i))),(5,.fn (x2.n+1) (x2.push x5).n (DF x2.n (λi=>cI .i64 (x2.g i)) (H2 [pI .i64 0] [(0,cI .i64 x5)])) (λi=>cI .i64 ((x2.push x5).g i))),(6,.fn (x4.n+y6.n) (x4.app y6).n (DF x4.n (λi=>A0 (x4.g i)) (λi=>A0 (y6.g i))) (λi=>A0 ((x4.app y6).g i)))] (al1 ⟨rfl,Zo (c:=A0) (v:=Oz.app (x4.app y6)) (w:=d.drop (wrap .i64 (x5+(a.If.n:Int))).toNat) (Zo (c:=A0) (v:=Oz) (w:=x4.app y6) (λi m=>Hc m (by omega)) rfl (Zo (c:=A0) (v:=x4) (w:=y6) same rfl same rfl) rfl) rfl same rfl⟩ (al1 ⟨rfl,app1 (c:=cI .i64) (v:=x2) (x:=x5) (z:=[(pI .i64 0)]) same rfl rfl⟩ (al1 ⟨rfl,Zo (c:=A0) (v:=x4) (w:=y6) same rfl same rfl⟩ al0))));obtain⟨c46,h⟩:=B9 h;refine C6 Z (Qe Ow c46) (b:=(a.If.n:Int)==0) (λc47=>?_) (λc47=>?_)
  .replace h:=itT c47 h;apply kI Z h<;>intro h
   .obtain⟨c49,h⟩:=B9 h;exact f _ [(8500,52000),(9500,68000),(10501,84000)] _ (x2.push x5) (x3.push ((Oz.app (x4.app y6)).app (d.drop (wrap .i64 (x5+(a.If.n:Int))).toNat))) ((x4.app y6).push (d.g (wrap .i64 (x5+(a.If.n:Int))).toNat)) (wrap .i64 ((wrap .i64 (x5+(a.If.n:Int)))+1)) (Qe (Qe (Qe c49.1 Mn) Ow) c49.2) h (hle:=kl2 3 4 (R7 A0 (x4.app y6) (d.g (wrap .i64 (x5+(a.If.n:Int))).toNat) [pI .u32 0,pI .u32 0]) (R7 (cL 2 A0) x3 ((Oz.app (x4.app y6)).app (d.drop (wrap .i64 (x5+(a.If.n:Int))).toNat)) [I3]))
   exact f _ [(8500,52000),(9500,68000),(10501,48000)] _ _ _ _ _ Jy h (hle:=kl1 4 (R7 (cL 2 A0) x3 ((Oz.app (x4.app y6)).app (d.drop (wrap .i64 (x5+(a.If.n:Int))).toNat)) [I3]))
  replace h:=itF c47 h;exact f _ [(8500,52000),(9500,68000),(10501,48000)] _ _ _ _ _ Jy h (hle:=kl1 4 (R7 (cL 2 A0) x3 ((Oz.app (x4.app y6)).app (d.drop (wrap .i64 (x5+(a.If.n:Int))).toNat)) [I3]))
 obtain rfl:=A6 h;exact kO Z Jy [8500,9500]
def VT (N:Nat)(l:Law)(a:Sl Qb->Sl Int->Sl (Sl Qb)->Int->Option Bu6)(x1:Sl Qb)(x2:Sl Int)(x3:Sl (Sl Qb))(x4:Int):Option Bu6:= if (decide ((wrap .i64 (x4+(l.If.n:Int)))<=(x1.n:Int))) then (Gx N l x1 x4).bind λy5=>if (!y5) then a x1 x2 x3 (wrap .i64 (x4+1)) else (Bx N l x1 x4).bind λy6=>if (decide (32<(y6.n:Int))) then some (Ox,Qa,11) else if ((Qd 8 (x2.n+(Sl.of [x4]:Sl Int).n))/\(Qd 24 (x3.n+(Sl.of [y6]:Sl (Sl Qb)).n)))then if ((l.If.n:Int)==0) then a y6 (x2.push x4) (x3.push y6) (wrap .i64 ((wrap .i64 (x4+(l.Out.n:Int)))+1)) else a y6 (x2.push x4) (x3.push y6) (wrap .i64 (x4+(l.Out.n:Int))) else none else some (x2,x3,0)
def Gy (N:Nat)(a:Law)(b:Sl Qb):Option ((Sl Int)×(Sl (Sl Qb))×Int):= AO8 N (VT N a) b Ox Qa 0
theorem As9 {a:Law}{d:Sl Qb}{y:(Sl Int)×(Sl (Sl Qb))×Int}(h:Gy N a d=some y) :Qi S Sq [.p (.agg (B3 a)),.p (vSl 2 A0 d)] [] (.tup [.vec 0,.vec 1,pN y.2.2]) ([oV D2 1 (cI .i64) y.1 true,oV E8 1 (cL 2 A0) y.2.1 true]) []:=by
 unfold Gy at h;refine A1 Z func242 ?_;refine AA4 Z Jy h (λx1 x2 x3 x4=>⟨[(10,pN x4),(9,pN (a.If.n:Int)),(8,.vec 9500),(7,.vec 8500),(2,.reg 3000 0),(1,.p (vSl 2 A0 x1))],[(9500,oV E8 1 (cL 2 A0) x3 false),(8500,oV D2 1 (cI .i64) x2 false),(3000,.cells ((B3 a).map .p))]⟩) (ids:=[(3000,3000)]) (λ_ _ _ _ _ f x1 x2 x3 x4 c h=>?_);apply kI Z h<;>intro h
 .refine kC Z h (SZ Z Y) (λy5 h=>?_);apply kI Z h<;>intro h
  .exact c _ (Qc [3000,8500,9500]) _ x1 x2 x3 _ Jy h
  refine kC Z h (NS Z Y) (λy6 h=>?_);apply kI Z h<;>intro h
  .obtain rfl:=A6 h;exact kO Z Jy [5700,6701]
  obtain⟨c14,h⟩:=B9 h;refine C6 Z (Qe (Qe (Qe Ow c14.1) Ow) c14.2) (b:=(a.If.n:Int)==0) (λc15=>?_) (λc15=>?_)
  .replace h:=itT c15 h;exact c _ [(3000,3000),(8500,38000),(9500,42000)] _ y6 _ _ _ Jy h (hle:=kl2 3 4 (R7 (cL 2 A0) x3 y6 [I3]) (R7 (cI .i64) x2 x4 [pI .i64 0]))
  replace h:=itF c15 h;exact c _ [(3000,3000),(8500,38000),(9500,42000)] _ y6 _ _ _ Jy h (hle:=kl2 3 4 (R7 (cL 2 A0) x3 y6 [I3]) (R7 (cI .i64) x2 x4 [pI .i64 0]))
 obtain rfl:=A6 h;exact kO Z Jy [8500,9500]
def AY2 (N:Nat)(l:Law)(a:Sl Qb->Sl Int->Sl (Sl Qb)->Int->Option Bu6)(x1:Sl Qb)(x2:Sl Int)(x3:Sl (Sl Qb))(x4:Int):Option Bu6:= if (decide (0<=x4)) then (Gx N l x1 x4).bind λy5=>if (!y5) then a x1 x2 x3 (wrap .i64 (x4-1)) else (Bx N l x1 x4).bind λy6=>if (decide (32<(y6.n:Int))) then some (Ox,Qa,11) else if ((Qd 8 (x2.n+(Sl.of [x4]:Sl Int).n))/\(Qd 24 (x3.n+(Sl.of [y6]:Sl (Sl Qb)).n)))then if ((l.If.n:Int)==0) then a y6 (x2.push x4) (x3.push y6) (wrap .i64 ((wrap .i64 (x4-(l.If.n:Int)))-1)) else a y6 (x2.push x4) (x3.push y6) (wrap .i64 (x4-(l.If.n:Int))) else none else some (x2,x3,0)
def FE (N:Nat)(a:Law)(b:Sl Qb):Option ((Sl Int)×(Sl (Sl Qb))×Int):= AO8 N (AY2 N a) b Ox Qa (wrap .i64 ((b.n:Int)-(a.If.n:Int)))
theorem AL6 {a:Law}{d:Sl Qb}{y:(Sl Int)×(Sl (Sl Qb))×Int}(h:FE N a d=some y) :Qi S VD [.p (.agg (B3 a)),.p (vSl 2 A0 d)] [] (.tup [.vec 0,.vec 1,pN y.2.2]) ([oV D2 1 (cI .i64) y.1 true,oV E8 1 (cL 2 A0) y.2.1 true]) []:=by
 unfold FE at h;refine A1 Z func243 ?_;refine AA4 Z Jy h (λx1 x2 x3 x4=>⟨[(10,pN x4),(9,pN (a.If.n:Int)),(8,.vec 9500),(7,.vec 8500),(2,.reg 3000 0),(1,.p (vSl 2 A0 x1))],[(9500,oV E8 1 (cL 2 A0) x3 false),(8500,oV D2 1 (cI .i64) x2 false),(3000,.cells ((B3 a).map .p))]⟩) (ids:=[(3000,3000)]) (λ_ _ _ _ _ f x1 x2 x3 x4 c h=>?_);apply kI Z h<;>intro h
 .refine kC Z h (SZ Z Y) (λy5 h=>?_);apply kI Z h<;>intro h
  .exact c _ (Qc [3000,8500,9500]) _ x1 x2 x3 _ Jy h
  refine kC Z h (NS Z Y) (λy6 h=>?_);apply kI Z h<;>intro h
  .obtain rfl:=A6 h;exact kO Z Jy [5700,6701]
  obtain⟨c14,h⟩:=B9 h;refine C6 Z (Qe (Qe (Qe Ow c14.1) Ow) c14.2) (b:=(a.If.n:Int)==0) (λc15=>?_) (λc15=>?_)
  .replace h:=itT c15 h;exact c _ [(3000,3000),(8500,38000),(9500,42000)] _ y6 _ _ _ Jy h (hle:=kl2 3 4 (R7 (cL 2 A0) x3 y6 [I3]) (R7 (cI .i64) x2 x4 [pI .i64 0]))
  replace h:=itF c15 h;exact c _ [(3000,3000),(8500,38000),(9500,42000)] _ y6 _ _ _ Jy h (hle:=kl2 3 4 (R7 (cL 2 A0) x3 y6 [I3]) (R7 (cI .i64) x2 x4 [pI .i64 0]))
 obtain rfl:=A6 h;exact kO Z Jy [8500,9500]
def Gz (N:Nat)(a:Law)(b:Sl Qb):Option ((Sl Int)×(Sl (Sl Qb))×Int):= (IA N a b).bind λy1=>if (y1 != 0) then some (Ox,Qa,y1) else if (a.Mode==1) then (Km N a b).bind λy2=>some (y2.1,y2.2.1,y2.2.2) else if (a.Mode==2) then (Gy N a b).bind λy3=>some (y3.1,y3.2.1,y3.2.2) else (FE N a b).bind λy4=>some (y4.1,y4.2.1,y4.2.2)
theorem At0 {a:Law}{b:Sl Qb}{y:(Sl Int)×(Sl (Sl Qb))×Int}(h:Gz N a b=some y) :Qi S So [.p (.agg (B3 a)),.p (vSl 2 A0 b)] [] (.tup [.vec 0,.vec 1,pN y.2.2]) ([oV D2 1 (cI .i64) y.1 true,oV E8 1 (cL 2 A0) y.2.1 true]) []:=by
 unfold Gz at h;refine A1 Z func230 ?_;refine kC Z h (As8 Z Y) (λy1 h=>?_);apply kI Z h<;>intro h
 .obtain rfl:=A6 h;exact kO Z Jy [5700,6701]
 apply kI Z h<;>intro h
 .refine kC Z h (AY1 Z Y) (λy2 h=>?_);obtain rfl:=A6 h;exact kO Z Jy [21000,21001]
 apply kI Z h<;>intro h
 .refine kC Z h (As9 Z Y) (λy3 h=>?_);obtain rfl:=A6 h;exact kO Z Jy [29000,29001]
 refine kC Z h (AL6 Z Y) (λy4 h=>?_);obtain rfl:=A6 h;exact kO Z Jy [35000,35001]
def GA (N:Nat)(b:Law)(a:Sl Qb):Option ((Sl Qb)×Int):= (Gz N b a).bind λy1=>if (y1.2.2 != 0) then some (Oy,y1.2.2) else if ((y1.2.1.n:Int)==0) then if (Qd 8 (Oz.n+a.n))then some (Oz.app a,0) else none else if ((((0:Int)<=(wrap .i64 ((y1.2.1.n:Int)-1))/\(wrap .i64 ((y1.2.1.n:Int)-1))<(y1.2.1.n:Int))/\(wrap .i64 ((y1.2.1.n:Int)-1)).toNat<y1.2.1.n)/\(Qd 8 (Oz.n+(y1.2.1.g (wrap .i64 ((y1.2.1.n:Int)-1)).toNat).n)))then some (Oz.app (y1.2.1.g (wrap .i64 ((y1.2.1.n:Int)-1)).toNat),0) else none
theorem At1 {b:Law}{a:Sl Qb}{y:(Sl Qb)×Int}(h:GA N b a=some y) :Qi S Sm [.p (.agg (B3 b)),.p (vSl 2 A0 a)] [] (.tup [.vec 0,pN y.2]) ([oV B1 2 A0 y.1 true]) []:=by
 unfold GA at h;refine A1 Z func220 ?_;refine kC Z h (At0 Z Y) (λy1 h=>?_);apply kI Z h<;>intro h
 .obtain rfl:=A6 h;exact kO Z Jy [5700]
 apply kI Z h<;>intro h
 .obtain⟨c3,h⟩:=B9 h;obtain rfl:=A6 h;exact kO Z (Qe Ow c3) [25000] (hle:=klR [(1,.fn (0+a.n) (Oz.app a).n (DF 0 (H2 [pI .u32 0,pI .u32 0] []) (λi=>A0 (a.g i))) (λi=>A0 ((Oz.app a).g i)))] (al1 ⟨rfl,Zo (c:=A0) (v:=Oz) (w:=a) (λi d=>Hc d (by omega)) rfl same rfl⟩ al0))
 obtain⟨c4,h⟩:=B9 h;obtain rfl:=A6 h;exact kO Z (Qe (Qe (Qe Ow c4.1.1) c4.1.2) c4.2) [33000] (hle:=klR [(1,.fn (0+(y1.2.1.g (wrap .i64 ((y1.2.1.n:Int)-1)).toNat).n) (Oz.app (y1.2.1.g (wrap .i64 ((y1.2.1.n:Int)-1)).toNat)).n (DF 0 (H2 [pI .u32 0,pI .u32 0] []) (λi=>A0 ((y1.2.1.g (wrap .i64 ((y1.2.1.n:Int)-1)).toNat).g i))) (λi=>A0 ((Oz.app (y1.2.1.g (wrap .i64 ((y1.2.1.n:Int)-1)).toNat)).g i)))] (al1 ⟨rfl,Zo (c:=A0) (v:=Oz) (w:=y1.2.1.g (wrap .i64 ((y1.2.1.n:Int)-1)).toNat) (λi d=>Hc d (by omega)) rfl same rfl⟩ al0))
def Ee (N:Nat)(a:Sl Law):Option Int:= if (decide (64<(a.n:Int))) then some 12 else O7 N (λb (x1:Int)=>if (decide (x1<(a.n:Int))) then if ((0:Int)<=x1/\x1<(a.n:Int))then (Z7 N (a.g x1.toNat)).bind λy3=>if (y3 != 0) then some 17 else b (wrap .i64 (x1+1)) else none else some 0) 0
theorem At2 {a:Sl Law}{y:Int}(h:Ee N a=some y) :Qi S Sk [.p (vSl 18 B3 a)] [] (pN y) ([]) []:=by
 unfold Ee at h;refine A1 Z func218 ?_;refine Ug Z h fun h=>?_;refine F1 Z Jy h (λx1=>⟨[(3,pN x1),(0,.p (vSl 18 B3 a))],[]⟩) (ids:=[]) (λ_ _ _ _ _ b x1 c h=>?_);apply kI Z h<;>intro h
 .obtain⟨c9,h⟩:=B9 h;obtain⟨y3,e3,h⟩:=A7 h;refine A8 Z [] (Qe c9 Ov) (MB Z Y e3) ?_;refine Ug Z h fun h=>?_;exact c _ [] _ _ Jy h
 cases h;exact kR Z
abbrev BP0:=(Sl (Sl Qb))×Int
def NT (N:Nat)(a:Sl Law)(b:Sl (Sl Qb)->Int->Option BP0)(x2:Sl (Sl Qb))(x3:Int):Option BP0:= if (decide (x3<(a.n:Int))) then if ((((0:Int)<=x3/\x3<(a.n:Int))/\((0:Int)<=x3/\x3<(x2.n:Int)))/\x3.toNat<x2.n)then (GA N (a.g x3.toNat) (x2.g x3.toNat)).bind λy7=>if (y7.2 != 0) then some (Qa,y7.2) else if (Qd 24 (x2.n+(Sl.of [y7.1]:Sl (Sl Qb)).n))then b (x2.push y7.1) (wrap .i64 (x3+1)) else none else none else some (x2,0)
def IB (N:Nat)(a:Sl Law)(b:Sl Qb):Option ((Sl (Sl Qb))×Int):= (Ee N a).bind λy1=>lt (λ(z1:Int)=>if (z1 != 0) then some (Qa,z1) else (FA N b).bind λy4=>Y4 N (NT N a) (Sl.of [y4]:Sl (Sl Qb)) 0) λk1=>if (y1==0) then (W8 N b).bind λy3=>k1 y3 else k1 y1
theorem At3 {a:Sl Law}{b:Sl Qb}{y:(Sl (Sl Qb))×Int}(h:IB N a b=some y) :Qi S Si [.p (vSl 18 B3 a),.p (vSl 2 A0 b)] [] (.tup [.vec 0,pN y.2]) ([oV E8 1 (cL 2 A0) y.1 true]) []:=by
 unfold IB at h;refine A1 Z func204 ?_;refine kC Z h (At2 Z Y) (λy1 h=>?_);refine GN Z Jy (A3 Z) h 0 (λz1=>⟨[(6,pN z1),(1,.p (vSl 2 A0 b)),(0,.p (vSl 18 B3 a))],[]⟩) (λM1 k1 c h=>?_) (λz1 h=>?_)
 .apply kI Z h<;>intro h
  .refine kC Z h (Eb Z Y) (λy3 h=>?_);exact c _ [] _ y3 Jy h
  exact c _ [] _ y1 Jy h
 apply kI Z h<;>intro h
 .obtain rfl:=A6 h;exact kO Z Jy [5700]
 refine kC Z h (AL4 Z Y) (λy4 h=>?_);refine G2 Z Ow h (λx2 x3=>⟨[(8,pN x3),(7,.vec 8500),(0,.p (vSl 18 B3 a))],[(8500,oV E8 1 (cL 2 A0) x2 false)]⟩) (ids:=[(8500,23000)]) (λ_ _ _ _ _ d x2 x3 f h=>?_) (hle:=kl1 2 (AP0 (cL 2 A0) ([y4]:List (Sl Qb)) [I3]));apply kI Z h<;>intro h
 .refine B5 Z Jy [2,3] ?_;obtain⟨c12,h⟩:=B9 h;obtain⟨y7,e7,h⟩:=A7 h;refine IM [] (Qe (Qe (Qe c12.1.1 Ov) c12.1.2) c12.2) (At1 Z Y e7) ?_;refine C7 Jy ?_;apply kI Z h<;>intro h
  .obtain rfl:=A6 h;exact kO Z Jy [5700]
  obtain⟨c14,h⟩:=B9 h;exact f _ [(8500,48000)] _ (x2.push y7.1) (wrap .i64 (x3+1)) (Qe Ow c14) h (hle:=kl1 2 (R7 (cL 2 A0) x2 y7.1 [I3]))
 obtain rfl:=A6 h;exact kO Z Jy [8500]
def EO (N:Nat)(a:Sl Law)(b:Sl Qb):Option ((Sl Qb)×Int):= (IB N a b).bind λy1=>if (y1.2 != 0) then some (Oy,y1.2) else if (((0:Int)<=(wrap .i64 ((y1.1.n:Int)-1))/\(wrap .i64 ((y1.1.n:Int)-1))<(y1.1.n:Int))/\(wrap .i64 ((y1.1.n:Int)-1)).toNat<y1.1.n)then some (y1.1.g (wrap .i64 ((y1.1.n:Int)-1)).toNat,0) else none
theorem Ae9 {a:Sl Law}{b:Sl Qb}{y:(Sl Qb)×Int}(h:EO N a b=some y) :Qi S Py [.p (vSl 18 B3 a),.p (vSl 2 A0 b)] [] (.tup [.p (vSl 2 A0 y.1),pN y.2]) ([]) []:=by
 unfold EO at h;refine A1 Z func165 ?_;refine kC Z h (At3 Z Y) (λy1 h=>?_);apply kI Z h<;>intro h
 .obtain rfl:=A6 h;exact kO Z Jy []
 obtain⟨c2,h⟩:=B9 h;obtain rfl:=A6 h;exact AU6 Z c2 [] ⟨rfl,rfl,rfl⟩
def HK (N:Nat)(a:Sv)(b:Int):Option ((Sl Int)×Int):= (Z8 N a).bind λy1=>if (y1 != 0) then some (Ox,y1) else (Fz N a b).bind λy2=>if (!y2) then some (Ox,3) else (Da N a b).bind λy3=>some (y3,0)
theorem AL7 {a:Sv}{b:Int}{y:(Sl Int)×Int}(h:HK N a b=some y) :Qi S VA [.p (.agg (B0 a)),pN b] [] (.tup [.vec 0,pN y.2]) ([oV D2 1 (cI .i64) y.1 true]) []:=by
 unfold HK at h;refine A1 Z func203 ?_;refine kC Z h (Iz Z Y) (λy1 h=>?_);apply kI Z h<;>intro h
 .obtain rfl:=A6 h;exact kO Z Jy [5700]
 refine kC Z h (VO Z Y) (λy2 h=>?_);apply kI Z h<;>intro h
 .obtain rfl:=A6 h;exact kO Z Jy [5700]
 refine kC Z h (VN Z Y) (λy3 h=>?_);obtain rfl:=A6 h;exact kO Z Jy [19000]
def HL (N:Nat)(a:Sv)(c:Int):Option ((Sl Law)×Int):= (HK N a c).bind λy1=>Y4 N (λb (x1:Sl Law) (x2:Int)=>if (decide (x2<(y1.1.n:Int))) then if ((((0:Int)<=x2/\x2<(y1.1.n:Int))/\x2.toNat<y1.1.n)/\((0:Int)<=(y1.1.g x2.toNat)/\(y1.1.g x2.toNat)<(a.Laws.n:Int)))then if (Qd 200 (x1.n+(Sl.of [a.Laws.g (y1.1.g x2.toNat).toNat]:Sl Law).n))then b (x1.push (a.Laws.g (y1.1.g x2.toNat).toNat)) (wrap .i64 (x2+1)) else none else none else some (x1,y1.2)) (Sl.nil:Sl Law) 0
theorem AL8 {a:Sv}{b:Int}{y:(Sl Law)×Int}(h:HL N a b=some y) :Qi S Vx [.p (.agg (B0 a)),pN b] [] (.tup [.vec 0,pN y.2]) ([oV I9 18 B3 y.1 true]) []:=by
 unfold HL at h;refine A1 Z func164 ?_;refine D9 Z Jy 4 3000 (B0 a) ?_;obtain⟨y1,e1,h⟩:=A7 h;refine A8 Z [] Mo (AL7 Z Y e1) ?_;refine G2 Z Jy h (λx1 x2=>⟨[(9,pN x2),(8,.vec 9500),(7,pN y1.2),(6,.vec 14000),(2,.p (.ptr (B0 a)))],[(14000,oV D2 1 (cI .i64) y1.1 true),(9500,oV I9 18 B3 x1 false)]⟩) (ids:=[(14000,14000)]) (λ_ _ _ _ _ c x1 x2 d h=>?_);apply kI Z h<;>intro h
 .refine B5 Z Jy [2,7,8] ?_;obtain⟨c8,h⟩:=B9 h;refine O8 (Qe (Qe (Qe c8.1.1 c8.1.2) c8.2) Ov) (x:=.sl true 18 1 (H2 [.str [],pI .i64 0,pI .u32 0,pI .u32 0,.v (.bool false),pI .i64 0,pI .i64 0,I3,pI .i64 0,pI .u32 0,pI .u32 0,.v (.bool false),pI .i64 0,pI .i64 0,I3,I3,I3,pI .i64 0] [(0,B3 (a.Laws.g (y1.1.g x2.toNat).toNat))])) ?_;obtain⟨c9,h⟩:=B9 h;refine C7 c9 ?_;exact d _ [(9500,33000),(14000,14000)] _ _ _ Jy h (hle:=kl1 4 (R7 B3 x1 (a.Laws.g (y1.1.g x2.toNat).toNat) [.str [],pI .i64 0,pI .u32 0,pI .u32 0,.v (.bool false),pI .i64 0,pI .i64 0,I3,pI .i64 0,pI .u32 0,pI .u32 0,.v (.bool false),pI .i64 0,pI .i64 0,I3,I3,I3,pI .i64 0]))
 obtain rfl:=A6 h;exact kO Z Jy [9500]
def QF (N:Nat)(a:Sv)(b:Sl Qb)(c:Int):Option ((Sl Qb)×Int):= (HL N a c).bind λy1=>(EO N y1.1 b).bind λy2=>some (y2.1,y2.2)
theorem Bn7 {a:Sv}{b:Sl Qb}{c:Int}{y:(Sl Qb)×Int}(h:QF N a b c=some y) :Qi S AB4 [.p (.agg (B0 a)),.p (vSl 2 A0 b),pN c] [] (.tup [.p (vSl 2 A0 y.1),pN y.2]) ([]) []:=by unfold QF at h;refine A1 Z func125 ?_;refine kC Z h (AL8 Z Y) (λy1 h=>?_);refine kC Z h (Ae9 Z Y) (λy2 h=>?_);cases h;exact kR Z
def HM (N:Nat)(a:Sv)(b:Sl Qb):Option Int:= (Z8 N a).bind λy1=>if (y1 != 0) then some y1 else (W8 N b).bind λy2=>some y2
theorem AL9 {a:Sv}{b:Sl Qb}{y:Int}(h:HM N a b=some y) :Qi S Vu [.p (.agg (B0 a)),.p (vSl 2 A0 b)] [] (pN y) ([]) []:=by
 unfold HM at h;refine A1 Z func123 ?_;refine kC Z h (Iz Z Y) (λy1 h=>?_);refine Ug Z h fun h=>?_;refine kC Z h (Eb Z Y) (λy2 h=>?_);cases h;exact kR Z
def KL (N:Nat)(a:Sv)(b:Sl Qb)(c:Int):Option ((Sl Qb)×Int):= (HM N a b).bind λy1=>if (y1 != 0) then some (Oy,y1) else (Fz N a c).bind λy2=>if (!y2) then some (Oy,3) else (QF N a b c).bind λy3=>some (y3.1,y3.2)
theorem Bn8 {a:Sv}{b:Sl Qb}{c:Int}{y:(Sl Qb)×Int}(h:KL N a b c=some y) :Qi S AB3 [.p (.agg (B0 a)),.p (vSl 2 A0 b),pN c] [] (.tup [.p (vSl 2 A0 y.1),pN y.2]) ([]) []:=by
 unfold KL at h;refine A1 Z func84 ?_;refine kC Z h (AL9 Z Y) (λy1 h=>?_);apply kI Z h<;>intro h
 .obtain rfl:=A6 h;exact kO Z Jy []
 refine kC Z h (VO Z Y) (λy2 h=>?_);apply kI Z h<;>intro h
 .obtain rfl:=A6 h;exact kO Z Jy []
 refine kC Z h (Bn7 Z Y) (λy3 h=>?_);cases h;exact kR Z
end Go.AM
