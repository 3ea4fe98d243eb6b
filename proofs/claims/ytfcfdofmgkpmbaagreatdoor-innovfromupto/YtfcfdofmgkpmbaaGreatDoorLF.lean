/- What a law's walk and its plain proof need, part 6: no condition of its own. -/
import Derived.Test.YtfcfdofmgkpmbaaGreatDoorLE
import Derived.Test.YtfcfdofmgkpmbaaGreatDoorLD
set_option linter.unusedSimpArgs false
set_option linter.unusedVariables false
set_option linter.unusedSectionVars false
namespace Go.AM
open IntKind (wrap)
open Go.Proofs
set_option maxRecDepth 10000
set_option maxHeartbeats 2000000
variable {S:X1}(hS:F4 S Tryz.prog) (hL:MF S)
include hS hL
def Yc (c:Int):Option PV:=if c=0 then none else some (.iface 210 (pI .i64 c))
def Bs (N:Nat)(c:Int)(q0:Sl Sound)(q1:Sl Law):Option (List (Int×(Sl Sound))):=
 (B1 N q0).bind fun y1=>
 Fv (0,y1) (
  Bj N (fun self1 (x1:Sl Sound) (x2:Int)=>
   if (decide (x2<(q1.n:Int))) then
    if ((0:Int)<=x2/\x2<(q1.n:Int))then
     (Gn N (q1.g x2.toNat) x1).bind fun y4=>
     if (y4.2 != 0) then
      if y4.2=c then some []else none
     else
      Fv (wrap .i64 (x2+1),y4.1) (
       self1 y4.1 (wrap .i64 (x2+1))
       )
    else none
   else
    if c=0 then some []else none
   ) y1 0
  )
theorem En {N:Nat}{q0:Sl Sound}{q1:Sl Law}{c:Int}{L:List (Int×(Sl Sound))}(h:Bs N c q0 q1=some L) :JI S N2 [] [.reg 0 0,.reg 1 0] [.cells [.p (vSl 2 A0 q0)],.cells [.p (vSl 18 B3 q1)]] (L.map (fun (x:Int×(Sl Sound))=>[pI .i64 x.1,vSl 2 A0 x.2])) (Yc c):=by
 unfold Bs at h;refine We hS IM ?_;refine kC hS h (J9 hS hL) (fun y1 h=>?_);obtain⟨L1,rfl,hcL1⟩:=JG h;replace h:=hcL1;refine Cd hS trivial (ys:=(fun (x:Int×(Sl Sound))=>[pI .i64 x.1,vSl 2 A0 x.2]) (0,y1)) (rest:=L1.map (fun (x:Int×(Sl Sound))=>[pI .i64 x.1,vSl 2 A0 x.2])) ?_ ?_
 ·refine D3 hS trivial (b:=false) (fun c1=>?_) (fun c1=>?_)
  ·exact Bool.noConfusion ((rfl:false=false).symm.trans c1)
  ·refine Np hS trivial h (fun x1 x2 L2=>⟨[(17,pN x2),(16,pN (q1.n:Int)),(15,.p (vSl 18 B3 q1)),(4,.p (vSl 2 A0 x1)),(0,.yf 2)],[(2,.yld (L2.map (fun (x:Int×(Sl Sound))=>[pI .i64 x.1,vSl 2 A0 x.2])) true),(1,.cells [.p (vSl 18 B3 q1)]),(0,.cells [.p (vSl 2 A0 q0)])]⟩) (ids:=[(0,0),(1,1),(2,2)]) (fun _ _ _ _ _ self1 x1 x2 L2 hb1 h=>?_);refine kI hS h (fun h=>?_) (fun h=>?_)
   ·obtain⟨c13,h⟩:=E2 h;obtain⟨y4,e4,h⟩:=B5 h;refine B4 hS [] (And.intro c13 (by decide:(18:Nat)<=18)) (RJ hS hL e4) ?_;refine D3 hS trivial (b:=y4.2 != 0) (fun c14=>?_) (fun c14=>?_)
    ·replace h:=itT c14 h;obtain⟨c0,h⟩:=E2 h;obtain rfl:=B6 h;have hc0:Yc c=some (.iface 210 (pI .i64 y4.2)):=by
      have:¬y4.2=0:=by simpa using c14
      rw[<- c0];simp[Yc,this]
     refine Aa0 hS trivial (x:=.iface 210 (pI .i64 y4.2)) ?_;exact YR hS trivial (x:=.iface 210 (pI .i64 y4.2)) (objs:=[(.cells [.p (vSl 2 A0 q0)]),.cells [.p (vSl 18 B3 q1)],.yld [] true]) [0,1,2] ⟨true,rfl,rfl,fun _=>by rw[hc0];rfl,fun e=>nomatch e⟩
    ·replace h:=itF c14 h;obtain⟨L5,rfl,hcL5⟩:=JG h;replace h:=hcL5;refine Cd hS trivial (ys:=(fun (x:Int×(Sl Sound))=>[pI .i64 x.1,vSl 2 A0 x.2]) (wrap .i64 (x2+1),y4.1)) (rest:=L5.map (fun (x:Int×(Sl Sound))=>[pI .i64 x.1,vSl 2 A0 x.2])) ?_ ?_
     ·refine D3 hS trivial (b:=false) (fun c15=>?_) (fun c15=>?_)
      ·exact Bool.noConfusion ((rfl:false=false).symm.trans c15)
      ·exact hb1 _ [(0,0),(1,1),(2,2)] _ y4.1 (wrap .i64 (x2+1)) L5 trivial h
     ·refine D3 hS trivial (b:=true) (fun c16=>?_) (fun c16=>?_)
      ·exact A6 hS trivial (a:=.tup []) (objs:=[(.cells [.p (vSl 2 A0 q0)]),.cells [.p (vSl 18 B3 q1)],.yld [] false]) ⟨[],[(2,.yld [] false),(1,.cells [.p (vSl 18 B3 q1)]),(0,.cells [.p (vSl 2 A0 q0)])]⟩ [0,1,2] (ids:=[(0,0),(1,1),(2,2)]) ⟨false,rfl,rfl,fun e=>(nomatch e),fun _=>⟨_,rfl⟩⟩
      ·exact Bool.noConfusion ((rfl:true=true).symm.trans c16)
   ·obtain⟨c0,h⟩:=E2 h;obtain rfl:=B6 h;exact A6 hS trivial (a:=.tup []) (objs:=[(.cells [.p (vSl 2 A0 q0)]),.cells [.p (vSl 18 B3 q1)],.yld [] true]) ⟨[],[(2,.yld [] true),(1,.cells [.p (vSl 18 B3 q1)]),(0,.cells [.p (vSl 2 A0 q0)])]⟩ [0,1,2] (ids:=[(0,0),(1,1),(2,2)]) ⟨true,rfl,rfl,fun _=>by subst c0;exact⟨_,rfl⟩,fun e=>(nomatch e)⟩
 ·refine D3 hS trivial (b:=true) (fun c17=>?_) (fun c17=>?_)
  ·exact A6 hS trivial (a:=.tup []) (objs:=[(.cells [.p (vSl 2 A0 q0)]),.cells [.p (vSl 18 B3 q1)],.yld [] false]) ⟨[],[(2,.yld [] false),(1,.cells [.p (vSl 18 B3 q1)]),(0,.cells [.p (vSl 2 A0 q0)])]⟩ [0,1,2] (ids:=[(0,0),(1,1),(2,2)]) ⟨false,rfl,rfl,fun e=>(nomatch e),fun _=>⟨_,rfl⟩⟩
  ·exact Bool.noConfusion ((rfl:true=true).symm.trans c17)
def CV (N:Nat)(p_laws:Sl Law)(p_w:Sl Sound):Option ((Sl Sound)×(Sl Law)):=
 some (p_w,p_laws)
theorem FS {N:Nat}{p_laws:Sl Law}{p_w:Sl Sound}{y:(Sl Sound)×(Sl Law)}(h:CV N p_laws p_w=some y) :FunO S FP [.p (vSl 18 B3 p_laws),.p (vSl 2 A0 p_w)] [] (.clo N2 [] [.reg 0 0,.reg 1 0]) ([.cells [.p (vSl 2 A0 y.1)],.cells [.p (vSl 18 B3 y.2)]]) []:=by unfold CV at h;refine A2 hS Lq ?_;obtain rfl:=B6 h;exact A6 hS trivial ⟨[(4,.clo N2 [] [.reg 4000 0,.reg 3000 0])],[(4000,.cells [.p (vSl 2 A0 p_w)]),(3000,.cells [.p (vSl 18 B3 p_laws)])]⟩ [4000,3000] (ids:=[(3000,3000),(4000,4000)]) ⟨rfl,rfl,rfl⟩
def J3 (N:Nat)(c:Int)(p_laws:Sl Law)(p_w:Sl Sound):Option (Sl Sound):=
 (CV N p_laws p_w).bind fun y1=>
 (Bs N c y1.1 y1.2).bind fun L1=>
 Y9 L1 (fun self1 (x1:Int×(Sl Sound)) (z1:Sl Sound)=>
  self1 x1.2
  ) (fun (z1:Sl Sound)=>
   some z1
  ) (Sl.nil:Sl Sound)
theorem HP {N:Nat}{p_laws:Sl Law}{p_w:Sl Sound}{y:Sl Sound}(h:J3 N 0 p_laws p_w=some y) :FunO S F8 [.p (vSl 18 B3 p_laws),.p (vSl 2 A0 p_w)] [] (.p (vSl 2 A0 y)) ([]) []:=by
 unfold J3 at h;refine A2 hS Ek ?_;refine kC hS h (FS hS hL) (fun y1 h=>?_);obtain⟨L1,e2,h⟩:=B5 h;have hf:JI S N2 [] [.reg 0 0,.reg 1 0] [.cells [.p (vSl 2 A0 y1.1)],.cells [.p (vSl 18 B3 y1.2)]] (L1.map (fun (x:Int×(Sl Sound))=>[pI .i64 x.1,vSl 2 A0 x.2])) none:=En hS hL e2;refine SS hS trivial [8000,8001] [4] 901 (fun z1=>⟨[(4,.reg 5000 0)],[(5000,.cells [.p (vSl 2 A0 z1)])]⟩) (idl:=[(5000,5000)]) h hf (fun _=>by kernel_rfl) (fun _=>by kernel_rfl) (fun _=>by kernel_rfl) (fun _=>by kernel_rfl) (fun x1 _ self1 z1 hb1 h=>?_) (fun z1 h=>?_)
 ·refine GP hS trivial ?_;exact hb1 _ [(901,901),(5000,5000)] _ x1.2 trivial h
 ·cases h;exact kR hS
theorem HQ {N:Nat}{c:Int}{p_laws:Sl Law}{p_w:Sl Sound}{y:Sl Sound}(hc:c≠0)(h:J3 N c p_laws p_w=some y) :S.F F8 [.p (vSl 18 B3 p_laws),.p (vSl 2 A0 p_w)] [] fun res o k=>res=.panic (.iface 210 (pI .i64 c))/\o=[]/\k=[]:=by
 unfold J3 at h;refine XY hS Ek ?_;refine kC hS h (FS hS hL) (fun y1 h=>?_);obtain⟨L1,e2,h⟩:=B5 h;have hf:JI S N2 [] [.reg 0 0,.reg 1 0] [.cells [.p (vSl 2 A0 y1.1)],.cells [.p (vSl 18 B3 y1.2)]] (L1.map (fun (x:Int×(Sl Sound))=>[pI .i64 x.1,vSl 2 A0 x.2])) (some (.iface 210 (pI .i64 c))):=by
  have:=En hS hL e2
  simpa[Yc,hc]using this
 refine SS hS trivial [8000,8001] [4] 901 (fun z1=>⟨[(4,.reg 5000 0)],[(5000,.cells [.p (vSl 2 A0 z1)])]⟩) (idl:=[(5000,5000)]) h hf (fun _=>by kernel_rfl) (fun _=>by kernel_rfl) (fun _=>by kernel_rfl) (fun _=>by kernel_rfl) (fun x1 _ self1 z1 hb1 h=>?_) (fun z1 h=>?_)
 ·refine GP hS trivial ?_;exact hb1 _ [(901,901),(5000,5000)] _ x1.2 trivial h
 ·exact YR hS trivial (x:=.iface 210 (pI .i64 c)) (objs:=[]) [] ⟨rfl,rfl,rfl⟩
def Bt (N:Nat)(p_laws:Sl Law)(p_w:Sl Sound):Option ((Sl Sound)×Bool):=
 match J3 N 0 p_laws p_w with
 |some y=>some (y,true)
 |none=>(J3 N 11 p_laws p_w).bind fun _=>some ((Sl.nil:Sl Sound),false)
theorem IP {N:Nat}{p_laws:Sl Law}{p_w:Sl Sound}{y:(Sl Sound)×Bool}(h:Bt N p_laws p_w=some y) :FunO S Ei [.p (vSl 18 B3 p_laws),.p (vSl 2 A0 p_w)] [] (.tup [.p (vSl 2 A0 y.1),pB y.2]) ([]) []:=by
 unfold Bt at h;refine A2 hS IJ ?_;rcases e:J3 N 0 p_laws p_w with _|z
 ·rw[e]at h;obtain⟨z,e1,h⟩:=B5 h;obtain rfl:=B6 h;refine B4 hS [7000,3000,4000,5000] trivial (hL.attP (HQ hS hL (by decide) e1)) ?_;refine U1 hS trivial [(0,.l [5000]),(1,.l [7000]),(3,.a [5000])] ?_;refine O0 trivial ?_;exact A6 hS trivial ⟨[(5,pB false),(4,.reg 5000 0)],[(5000,.cells [.p (vSl 2 A0 Sl.nil)])]⟩ [] (ids:=[(5000,5000)]) ⟨rfl,rfl,rfl⟩
 ·rw[e]at h;obtain rfl:=B6 h;refine B4 hS [7000,3000,4000,5000] trivial (hL.attR (HP hS hL e)) ?_;refine U1 hS trivial [(0,.l [5000]),(1,.l [7000]),(3,.a [5000])] ?_;refine O0 trivial ?_;exact A6 hS trivial ⟨[(5,pB true),(4,.reg 5000 0)],[(5000,.cells [.p (vSl 2 A0 z)])]⟩ [] (ids:=[(5000,5000)]) ⟨rfl,rfl,rfl⟩
end Go.AM
namespace Go.AM
open Go.Proofs
set_option maxRecDepth 10000
set_option maxHeartbeats 2000000
variable {S:X1}(hS:F4 S Tryz.prog) (hL:MF S)
include hS hL
def Cm (N:Nat)(p_laws:Sl Law)(p_w:Sl Sound):Option ((Sl Sound)×Int):=
 (CU N p_laws (Sl.of [p_w]:Sl (Sl Sound))).bind fun y1=>
 if (y1 != 0) then
  some ((Sl.nil:Sl Sound),y1)
 else
  (Bt N p_laws p_w).bind fun y2=>
  if (!y2.2) then
   some ((Sl.nil:Sl Sound),11)
  else
   some (y2.1,0)
theorem KB {N:Nat}{p_laws:Sl Law}{p_w:Sl Sound}{y:(Sl Sound)×Int}(h:Cm N p_laws p_w=some y) :FunO S EO [.p (vSl 18 B3 p_laws),.p (vSl 2 A0 p_w)] [] (.tup [.p (vSl 2 A0 y.1),pN y.2]) ([]) []:=by
 unfold Cm at h;refine A2 hS JU ?_;refine Cw hS (rfl:true=true) ⟨[(11,.vec 12000),(9,.p (vSl 18 B3 p_laws)),(1,.p (vSl 2 A0 p_w)),(0,.p (vSl 18 B3 p_laws))],[(12000,.vec O1 1 (Sl.of [p_w]:Sl (Sl Sound)).n (fun i=>cL 2 A0 ((Sl.of [p_w]:Sl (Sl Sound)).g i)) false)]⟩ (ids:=[(12000,12000)]) ?_ (hle:=klR [(3,.fn 1 (Sl.of [p_w]:Sl (Sl Sound)).n (E4 [H7] [(0,cL 2 A0 p_w)]) (fun i=>cL 2 A0 ((Sl.of [p_w]:Sl (Sl Sound)).g i)))] (al1 ⟨rfl,(fun i hi=>match i,hi with|0,_=>rfl|_+1,hi=>absurd hi (by omega))⟩ al0));refine kC hS h (LF hS hL) (fun y1 h=>?_);refine kI hS h (fun h=>?_) (fun h=>?_)
 ·obtain rfl:=B6 h;exact A6 hS trivial ⟨[(5,pN y1),(4,.p (vSl 2 A0 (Sl.nil:Sl Sound)))],[]⟩ [] (ids:=[]) ⟨rfl,rfl,rfl⟩
 ·refine kC hS h (IP hS hL) (fun y2 h=>?_);refine kI hS h (fun h=>?_) (fun h=>?_)
  ·obtain rfl:=B6 h;exact A6 hS trivial ⟨[(5,pN 11),(4,.p (vSl 2 A0 (Sl.nil:Sl Sound)))],[]⟩ [] (ids:=[]) ⟨rfl,rfl,rfl⟩
  ·cases h;exact kR hS
end Go.AM
namespace Go.AM
open IntKind (wrap)
open Go.Proofs
set_option maxRecDepth 10000
set_option maxHeartbeats 2000000
variable {S:X1}(hS:F4 S Tryz.prog) (hL:MF S)
include hS hL
def Fd (N:Nat)(p_c:Int):Option Bool:=
 some (((((decide (97<=p_c))&&(decide (p_c<=122)))||((decide (65<=p_c))&&(decide (p_c<=90))))||((decide (48<=p_c))&&(decide (p_c<=57))))||(p_c==45))
theorem PU {N:Nat}{p_c:Int}{y:Bool}(h:Fd N p_c=some y) :FunO S Iw [.p (pI .u8 p_c)] [] (pB y) ([]) []:=by unfold Fd at h;refine A2 hS PE ?_;refine kB hS (A5 hS) trivial trivial 23 (.o (.o (.o (.n (.a (decide (97<=p_c))) (.a (decide (p_c<=122)))) (.n (.a (decide (65<=p_c))) (.a (decide (p_c<=90))))) (.n (.a (decide (48<=p_c))) (.a (decide (p_c<=57))))) (.a (p_c==45))) ?_;cases h;exact kR hS
def BS (N:Nat)(p_s:Str):Option Bool:=
 Az N (fun self1 (x1:Int)=>
  if (decide (x1<(p_s.length:Int))) then
   if ((0:Int)<=x1/\x1<(p_s.length:Int))then
    (Fd N (V8 p_s x1)).bind fun y3=>
    if (!y3) then
     some false
    else
     self1 (wrap .i64 (x1+1))
   else none
  else
   some ((decide (1<=(p_s.length:Int)))&&(decide ((p_s.length:Int)<=24)))
  ) 0
theorem MH {N:Nat}{p_s:Str}{y:Bool}(h:BS N p_s=some y) :FunO S MA [.p (.str p_s)] [] (pB y) ([]) []:=by
 unfold BS at h;refine A2 hS Uh ?_;refine N0 hS trivial h (fun x1=>⟨[(3,pN x1),(0,.p (.str p_s))],[]⟩) (ids:=[]) (fun _ _ _ _ _ self1 x1 hb1 h=>?_);refine kI hS h (fun h=>?_) (fun h=>?_)
 ·obtain⟨c8,h⟩:=E2 h;obtain⟨y3,e3,h⟩:=B5 h;refine B4 hS [] c8 (PU hS hL e3) ?_;refine kI hS h (fun h=>?_) (fun h=>?_)
  ·cases h;exact kR hS
  ·exact hb1 _ [] _ (wrap .i64 (x1+1)) trivial h
 ·refine kB hS (A5 hS) trivial trivial 4 (.n (.a (decide (1<=(p_s.length:Int)))) (.a (decide ((p_s.length:Int)<=24)))) ?_;cases h;exact kR hS
def Z4 (N:Nat)(p_t:Sl J1):Option Int:=
 if ((decide ((p_t.n:Int)<1))=false->((decide (63<(p_t.n:Int)))=false->((0:Int)<=0/\0<(p_t.n:Int))))then
  if (((decide ((p_t.n:Int)<1))||(decide (63<(p_t.n:Int))))||((p_t.g 0).Parent != (-1))) then
   some 16
  else
   Az N (fun self3 (x3:Int)=>
    if (decide (x3<(p_t.n:Int))) then
     lt (fun (z3:Bool)=>
      if z3 then
       some 16
      else
       Az N (fun self4 (x7:Int)=>
        if (decide (x7<x3)) then
         if (((0:Int)<=x7/\x7<(p_t.n:Int))/\((0:Int)<=x3/\x3<(p_t.n:Int)))then
          if (((p_t.g x7.toNat).Name==(p_t.g x3.toNat).Name) != false) then
           some 16
          else
           self4 (wrap .i64 (x7+1))
         else none
        else
         self3 (wrap .i64 (x3+1))
        ) 0
      ) fun k3=>
      if (decide (0<x3)) then
       if ((0:Int)<=x3/\x3<(p_t.n:Int))then
        if (decide ((p_t.g x3.toNat).Parent<0)) then
         k3 true
        else
         if ((0:Int)<=x3/\x3<(p_t.n:Int))then
          if (decide (x3<=(p_t.g x3.toNat).Parent)) then
           k3 true
          else
           if ((0:Int)<=x3/\x3<(p_t.n:Int))then
            (BS N (p_t.g x3.toNat).Name).bind fun y11=>
            k3 (!y11)
           else none
         else none
       else none
      else
       if ((0:Int)<=x3/\x3<(p_t.n:Int))then
        (BS N (p_t.g x3.toNat).Name).bind fun y12=>
        k3 (!y12)
       else none
    else
     some 0
    ) 0
 else none
theorem KC {N:Nat}{p_t:Sl J1}{y:Int}(h:Z4 N p_t=some y) :FunO S JX [.p (vSl 2 H0 p_t)] [] (pN y) ([]) []:=by
 unfold Z4 at h;refine A2 hS Ri ?_;obtain⟨c1,h⟩:=E2 h;refine kB hS (A5 hS) trivial c1 11 (.o (.o (.a (decide ((p_t.n:Int)<1))) (.a (decide (63<(p_t.n:Int))))) (.a ((p_t.g 0).Parent != (-1)))) ?_;refine kI hS h (fun h=>?_) (fun h=>?_)
 ·cases h;exact kR hS
 ·refine N0 hS trivial h (fun x3=>⟨[(3,pN x3),(0,.p (vSl 2 H0 p_t))],[]⟩) (ids:=[]) (fun _ _ _ _ _ self3 x3 hb5 h=>?_);refine kI hS h (fun h=>?_) (fun h=>?_)
  ·refine IW hS trivial (A5 hS) h 0 (fun z3=>⟨[(53,pB z3),(3,pN x3),(0,.p (vSl 2 H0 p_t))],[]⟩) (fun M3 k3 hb6 h=>?_) (fun z3 h=>?_)
   ·refine kG hS h (fun h=>?_) (fun h=>?_)
    ·obtain⟨c71,h⟩:=E2 h;refine EH hS c71 (b:=decide ((p_t.g x3.toNat).Parent<0)) (fun c72=>?_) (fun c72=>?_)
     ·replace h:=itT c72 h;exact hb6 _ [] _ true trivial h
     ·replace h:=itF c72 h;obtain⟨c73,h⟩:=E2 h;refine EH hS c73 (b:=decide (x3<=(p_t.g x3.toNat).Parent)) (fun c74=>?_) (fun c74=>?_)
      ·replace h:=itT c74 h;exact hb6 _ [] _ true trivial h
      ·replace h:=itF c74 h;obtain⟨c75,h⟩:=E2 h;obtain⟨y11,e11,h⟩:=B5 h;refine B4 hS [] c75 (MH hS hL e11) ?_;exact hb6 _ [] _ (!y11) trivial h
    ·obtain⟨c76,h⟩:=E2 h;obtain⟨y12,e12,h⟩:=B5 h;refine B4 hS [] c76 (MH hS hL e12) ?_;exact hb6 _ [] _ (!y12) trivial h
   ·refine kI hS h (fun h=>?_) (fun h=>?_)
    ·cases h;exact kR hS
    ·refine N0 hS trivial h (fun x7=>⟨[(4,pN x7),(3,pN x3),(0,.p (vSl 2 H0 p_t))],[]⟩) (ids:=[]) (fun _ _ _ _ _ self4 x7 hb7 h=>?_);refine kI hS h (fun h=>?_) (fun h=>?_)
     ·refine G8 hS trivial [2,4,7,9] ?_;obtain⟨c85,h⟩:=E2 h;refine O0 c85 ?_;refine kI hS h (fun h=>?_) (fun h=>?_)
      ·cases h;exact kR hS
      ·exact hb7 _ [] _ (wrap .i64 (x7+1)) trivial h
     ·exact hb5 _ [] _ (wrap .i64 (x3+1)) trivial h
  ·cases h;exact kR hS
def T1 (rec:A8->Int->Option (Sl Int))(N:Nat)(p_h:A8)(p_v:Int):Option (Sl Int):=
 if (decide (p_v<0)) then
  some (Sl.nil:Sl Int)
 else
  if ((0:Int)<=p_v/\p_v<(p_h.Tree.n:Int))then
   (rec p_h (p_h.Tree.g p_v.toNat).Parent).bind fun y1=>
   if (((0:Int)<=p_v/\p_v<(p_h.On.n:Int))/\((y1.n+(p_h.On.g p_v.toNat).n)*8<=140737488355328/\y1.n+(p_h.On.g p_v.toNat).n<=140737488355328))then
    some (y1.app (p_h.On.g p_v.toNat))
   else none
  else none
def Ae:Nat->A8->Int->Option (Sl Int)
 |0=>fun _ _=>none
 |N+1=>T1 (Ae N) N
theorem RK {N:Nat}{rec:A8->Int->Option (Sl Int)}(hrec:∀{p_h:A8}{p_v:Int}{y:Sl Int},rec p_h p_v=some y->FunO S Fo [.p (.agg (A7 p_h)),pN p_v] [] (.vec 0) ([.vec D2 1 y.n (fun i=>cI .i64 (y.g i)) true]) []){p_h:A8}{p_v:Int}{y:Sl Int}(h:T1 rec N p_h p_v=some y) :FunO S Fo [.p (.agg (A7 p_h)),pN p_v] [] (.vec 0) ([.vec D2 1 y.n (fun i=>cI .i64 (y.g i)) true]) []:=by
 unfold T1 at h;refine A2 hS Ue ?_;refine H9 hS trivial 4 3000 (A7 p_h) ?_;refine kI hS h (fun h=>?_) (fun h=>?_)
 ·obtain rfl:=B6 h;exact A6 hS trivial ⟨[(4,.vec 5700)],[(5700,.vec D2 1 (Sl.nil:Sl Int).n (fun i=>cI .i64 ((Sl.nil:Sl Int).g i)) true)]⟩ [5700] (ids:=[]) ⟨rfl,rfl,rfl⟩
 ·refine G8 hS trivial [0,2,4,6,9,11,12] ?_;obtain⟨c2,h⟩:=E2 h;obtain⟨y1,e1,h⟩:=B5 h;refine SM [] (And.intro (by decide:(3:Nat)<=3) c2) (hrec e1) ?_;obtain⟨c3,h⟩:=E2 h;refine O0 c3 ?_;obtain rfl:=B6 h;exact A6 hS trivial ⟨[(4,.vec 21000)],[(21000,.vec D2 1 (y1.app (p_h.On.g p_v.toNat)).n (fun i=>cI .i64 ((y1.app (p_h.On.g p_v.toNat)).g i)) true)]⟩ [21000] (ids:=[(21000,21000)]) ⟨rfl,rfl,rfl⟩ (hle:=klR [(0,.fn (y1.n+(p_h.On.g p_v.toNat).n) (y1.app (p_h.On.g p_v.toNat)).n (AW y1.n (fun i=>cI .i64 (y1.g i)) (fun i=>cI .i64 ((p_h.On.g p_v.toNat).g i))) (fun i=>cI .i64 ((y1.app (p_h.On.g p_v.toNat)).g i)))] (al1 ⟨rfl,Ak1 (c:=cI .i64) (v:=y1) (w:=p_h.On.g p_v.toNat) same rfl same rfl⟩ al0))
theorem MI {N:Nat}{p_h:A8}{p_v:Int}{y:Sl Int}(h:Ae N p_h p_v=some y) :FunO S Fo [.p (.agg (A7 p_h)),pN p_v] [] (.vec 0) ([.vec D2 1 y.n (fun i=>cI .i64 (y.g i)) true]) []:=by
 induction N generalizing p_h p_v y with
 |zero=>cases (show (none:Option (Sl Int))=some y from h)
 |succ N ih=>exact RK hS hL (fun e=>ih e) h
def T2 (N:Nat)(p_h:A8):Option Int:=
 (Z4 N p_h.Tree).bind fun y1=>
 if (y1 != 0) then
  some 16
 else
  if (decide (64<(p_h.Laws.n:Int))) then
   some 12
  else
   Az N (fun self1 (x1:Int)=>
    if (decide (x1<(p_h.Laws.n:Int))) then
     if ((0:Int)<=x1/\x1<(p_h.Laws.n:Int))then
      (AK N (p_h.Laws.g x1.toNat)).bind fun y4=>
      if (y4 != 0) then
       some 17
      else
       self1 (wrap .i64 (x1+1))
     else none
    else
     Az N (fun self4 (x3:Int)=>
      if (decide (x3<(p_h.Laws.n:Int))) then
       Az N (fun self5 (x5:Int)=>
        if (decide (x5<x3)) then
         if (((0:Int)<=x3/\x3<(p_h.Laws.n:Int))/\((0:Int)<=x5/\x5<(p_h.Laws.n:Int)))then
          if (((p_h.Laws.g x3.toNat).Name==(p_h.Laws.g x5.toNat).Name) != false) then
           some 6
          else
           self5 (wrap .i64 (x5+1))
         else none
        else
         self4 (wrap .i64 (x3+1))
        ) 0
      else
       if ((p_h.On.n:Int) != (p_h.Tree.n:Int)) then
        some 2
       else
        Az N (fun self6 (x6:Int)=>
         if (decide (x6<(p_h.On.n:Int))) then
          (Ae N p_h x6).bind fun y7=>
          if (decide (64<(y7.n:Int))) then
           some 2
          else
           self6 (wrap .i64 (x6+1))
         else
          Az N (fun self9 (x8:Int)=>
           if (decide (x8<(p_h.On.n:Int))) then
            Az N (fun self10 (x10:Int)=>
             if ((0:Int)<=x8/\x8<(p_h.On.n:Int))then
              if (decide (x10<((p_h.On.g x8.toNat).n:Int))) then
               if (((0:Int)<=x8/\x8<(p_h.On.n:Int))/\((0:Int)<=x10/\x10<((p_h.On.g x8.toNat).n:Int)))then
                if (decide (((p_h.On.g x8.toNat).g x10.toNat)<0)) then
                 some 3
                else
                 if (((0:Int)<=x8/\x8<(p_h.On.n:Int))/\((0:Int)<=x10/\x10<((p_h.On.g x8.toNat).n:Int)))then
                  if (decide ((p_h.Laws.n:Int)<=((p_h.On.g x8.toNat).g x10.toNat))) then
                   some 3
                  else
                   self10 (wrap .i64 (x10+1))
                 else none
               else none
              else
               self9 (wrap .i64 (x8+1))
             else none
             ) 0
           else
            some 0
           ) 0
         ) 0
      ) 0
    ) 0
theorem Gp {N:Nat}{p_h:A8}{y:Int}(h:T2 N p_h=some y) :FunO S JS [.p (.agg (A7 p_h))] [] (pN y) ([]) []:=by
 unfold T2 at h;refine A2 hS Rf ?_;refine H9 hS trivial 2 2000 (A7 p_h) ?_;refine kC hS h (KC hS hL) (fun y1 h=>?_);refine kI hS h (fun h=>?_) (fun h=>?_)
 ·cases h;exact kR hS
 ·refine kI hS h (fun h=>?_) (fun h=>?_)
  ·cases h;exact kR hS
  ·refine N0 hS trivial h (fun x1=>⟨[(3,pN x1),(1,.p (.ptr (A7 p_h)))],[]⟩) (ids:=[]) (fun _ _ _ _ _ self1 x1 hb1 h=>?_);refine kI hS h (fun h=>?_) (fun h=>?_)
   ·obtain⟨c10,h⟩:=E2 h;obtain⟨y4,e4,h⟩:=B5 h;refine B4 hS [] (And.intro c10 (by decide:(18:Nat)<=18)) (RD hS hL e4) ?_;refine kI hS h (fun h=>?_) (fun h=>?_)
    ·cases h;exact kR hS
    ·exact hb1 _ [] _ (wrap .i64 (x1+1)) trivial h
   ·refine N0 hS trivial h (fun x3=>⟨[(4,pN x3),(1,.p (.ptr (A7 p_h)))],[]⟩) (ids:=[]) (fun _ _ _ _ _ self4 x3 hb4 h=>?_);refine kI hS h (fun h=>?_) (fun h=>?_)
    ·refine N0 hS trivial h (fun x5=>⟨[(5,pN x5),(4,pN x3),(1,.p (.ptr (A7 p_h)))],[]⟩) (ids:=[]) (fun _ _ _ _ _ self5 x5 hb5 h=>?_);refine kI hS h (fun h=>?_) (fun h=>?_)
     ·refine G8 hS trivial [1,3,5,7,9,11] ?_;obtain⟨c40,h⟩:=E2 h;refine O0 c40 ?_;refine kI hS h (fun h=>?_) (fun h=>?_)
      ·cases h;exact kR hS
      ·exact hb5 _ [] _ (wrap .i64 (x5+1)) trivial h
     ·exact hb4 _ [] _ (wrap .i64 (x3+1)) trivial h
    ·refine kI hS h (fun h=>?_) (fun h=>?_)
     ·cases h;exact kR hS
     ·refine N0 hS trivial h (fun x6=>⟨[(6,pN x6),(1,.p (.ptr (A7 p_h)))],[]⟩) (ids:=[]) (fun _ _ _ _ _ self6 x6 hb6 h=>?_);refine kI hS h (fun h=>?_) (fun h=>?_)
      ·obtain⟨y7,e7,h⟩:=B5 h;refine B4 hS [] (by decide:(3:Nat)<=3) (MI hS hL e7) ?_;refine kI hS h (fun h=>?_) (fun h=>?_)
       ·cases h;exact kR hS
       ·exact hb6 _ [] _ (wrap .i64 (x6+1)) trivial h
      ·refine N0 hS trivial h (fun x8=>⟨[(7,pN x8),(1,.p (.ptr (A7 p_h)))],[]⟩) (ids:=[]) (fun _ _ _ _ _ self9 x8 hb9 h=>?_);refine kI hS h (fun h=>?_) (fun h=>?_)
       ·refine N0 hS trivial h (fun x10=>⟨[(8,pN x10),(7,pN x8),(1,.p (.ptr (A7 p_h)))],[]⟩) (ids:=[]) (fun _ _ _ _ _ self10 x10 hb10 h=>?_);obtain⟨c100,h⟩:=E2 h;refine D3 hS c100 (b:=decide (x10<((p_h.On.g x8.toNat).n:Int))) (fun c101=>?_) (fun c101=>?_)
        ·replace h:=itT c101 h;refine G8 hS trivial [1,3,4,6,7,11,13,14,16,17,19] ?_;obtain⟨c102,h⟩:=E2 h;refine ZT c102 (b:=decide (((p_h.On.g x8.toNat).g x10.toNat)<0)) (fun c103=>?_) (fun c103=>?_)
         ·replace h:=itT c103 h;refine O0 trivial ?_;cases h;exact kR hS
         ·replace h:=itF c103 h;obtain⟨c104,h⟩:=E2 h;refine O0 c104 ?_;refine kI hS h (fun h=>?_) (fun h=>?_)
          ·cases h;exact kR hS
          ·exact hb10 _ [] _ (wrap .i64 (x10+1)) trivial h
        ·replace h:=itF c101 h;exact hb9 _ [] _ (wrap .i64 (x8+1)) trivial h
       ·cases h;exact kR hS
def Fr (N:Nat)(p_h:A8)(p_v:Int):Option Bool:=
 some ((decide (0<=p_v))&&(decide (p_v<(p_h.Tree.n:Int))))
theorem Uw {N:Nat}{p_h:A8}{p_v:Int}{y:Bool}(h:Fr N p_h p_v=some y) :FunO S My [.p (.agg (A7 p_h)),pN p_v] [] (pB y) ([]) []:=by unfold Fr at h;refine A2 hS Uf ?_;refine kB hS (A5 hS) trivial trivial 6 (.n (.a (decide (0<=p_v))) (.a (decide (p_v<(p_h.Tree.n:Int))))) ?_;cases h;exact kR hS
def BU (N:Nat)(p_h:A8)(p_v:Int):Option ((Sl Int)×Int):=
 (T2 N p_h).bind fun y1=>
 if (y1 != 0) then
  some ((Sl.nil:Sl Int),y1)
 else
  (Fr N p_h p_v).bind fun y2=>
  if (!y2) then
   some ((Sl.nil:Sl Int),3)
  else
   (Ae N p_h p_v).bind fun y3=>
   some (y3,0)
theorem Ux {N:Nat}{p_h:A8}{p_v:Int}{y:(Sl Int)×Int}(h:BU N p_h p_v=some y) :FunO S Mw [.p (.agg (A7 p_h)),pN p_v] [] (.tup [.vec 0,pN y.2]) ([.vec D2 1 y.1.n (fun i=>cI .i64 (y.1.g i)) true]) []:=by
 unfold BU at h;refine A2 hS Uc ?_;refine kC hS h (Gp hS hL) (fun y1 h=>?_);refine kI hS h (fun h=>?_) (fun h=>?_)
 ·obtain rfl:=B6 h;exact A6 hS trivial ⟨[(5,pN y1),(4,.vec 5700)],[(5700,.vec D2 1 (Sl.nil:Sl Int).n (fun i=>cI .i64 ((Sl.nil:Sl Int).g i)) true)]⟩ [5700] (ids:=[]) ⟨rfl,rfl,rfl⟩
 ·refine kC hS h (Uw hS hL) (fun y2 h=>?_);refine kI hS h (fun h=>?_) (fun h=>?_)
  ·obtain rfl:=B6 h;exact A6 hS trivial ⟨[(5,pN 3),(4,.vec 5700)],[(5700,.vec D2 1 (Sl.nil:Sl Int).n (fun i=>cI .i64 ((Sl.nil:Sl Int).g i)) true)]⟩ [5700] (ids:=[]) ⟨rfl,rfl,rfl⟩
  ·refine kC hS h (MI hS hL) (fun y3 h=>?_);obtain rfl:=B6 h;exact A6 hS trivial ⟨[(5,pN 0),(4,.vec 19000)],[(19000,.vec D2 1 y3.n (fun i=>cI .i64 (y3.g i)) true)]⟩ [19000] (ids:=[(19000,19000)]) ⟨rfl,rfl,rfl⟩
def Eb (N:Nat)(p_c:Int):Option Bool:=
 some (((((decide (97<=p_c))&&(decide (p_c<=122)))||((decide (65<=p_c))&&(decide (p_c<=90))))||((decide (48<=p_c))&&(decide (p_c<=57))))||(p_c==45))
theorem Oa {N:Nat}{p_c:Int}{y:Bool}(h:Eb N p_c=some y) :FunO S Ha [.p (pI .u8 p_c)] [] (pB y) ([]) []:=by unfold Eb at h;refine A2 hS NH ?_;refine kB hS (A5 hS) trivial trivial 23 (.o (.o (.o (.n (.a (decide (97<=p_c))) (.a (decide (p_c<=122)))) (.n (.a (decide (65<=p_c))) (.a (decide (p_c<=90))))) (.n (.a (decide (48<=p_c))) (.a (decide (p_c<=57))))) (.a (p_c==45))) ?_;cases h;exact kR hS
def Bf (N:Nat)(p_s:Str):Option Bool:=
 Az N (fun self1 (x1:Int)=>
  if (decide (x1<(p_s.length:Int))) then
   if ((0:Int)<=x1/\x1<(p_s.length:Int))then
    (Eb N (V8 p_s x1)).bind fun y3=>
    if (!y3) then
     some false
    else
     self1 (wrap .i64 (x1+1))
   else none
  else
   some ((decide (0<(p_s.length:Int)))&&(decide ((p_s.length:Int)<=24)))
  ) 0
theorem PW {N:Nat}{p_s:Str}{y:Bool}(h:Bf N p_s=some y) :FunO S Iv [.p (.str p_s)] [] (pB y) ([]) []:=by
 unfold Bf at h;refine A2 hS PD ?_;refine N0 hS trivial h (fun x1=>⟨[(6,pN x1),(5,pN (p_s.length:Int)),(0,.p (.str p_s))],[]⟩) (ids:=[]) (fun _ _ _ _ _ self1 x1 hb1 h=>?_);refine kI hS h (fun h=>?_) (fun h=>?_)
 ·obtain⟨c8,h⟩:=E2 h;obtain⟨y3,e3,h⟩:=B5 h;refine B4 hS [] c8 (Oa hS hL e3) ?_;refine kI hS h (fun h=>?_) (fun h=>?_)
  ·cases h;exact kR hS
  ·exact hb1 _ [] _ (wrap .i64 (x1+1)) trivial h
 ·refine kB hS (A5 hS) trivial trivial 4 (.n (.a (decide (0<(p_s.length:Int)))) (.a (decide ((p_s.length:Int)<=24)))) ?_;cases h;exact kR hS
def T3 (N:Nat)(p_t:Sl J1):Option Int:=
 if (((p_t.n:Int)==0)||(decide (63<(p_t.n:Int)))) then
  some 16
 else
  Bj N (fun self1 (x2:List (Str×Bool)) (x3:Int)=>
   if (decide (x3<(p_t.n:Int))) then
    if ((0:Int)<=x3/\x3<(p_t.n:Int))then
     lt (fun (z3:Bool)=>
      if z3 then
       some 16
      else
       self1 (KV eqS (p_t.g x3.toNat).Name true x2) (wrap .i64 (x3+1))
      ) fun k3=>
      if (decide (x3<=(p_t.g x3.toNat).Parent)) then
       k3 true
      else
       if (decide ((p_t.g x3.toNat).Parent<(if 0<(wrap .i64 (x3-1))then 0 else (wrap .i64 (x3-1))))) then
        k3 true
       else
        (Bf N (p_t.g x3.toNat).Name).bind fun y6=>
        if (!y6) then
         k3 true
        else
         ZG (Bk eqS (p_t.g x3.toNat).Name x2) (
          k3 false
          ) fun v6=>
          k3 v6
    else none
   else
    some 0
   ) [] 0
theorem IB {N:Nat}{p_t:Sl J1}{y:Int}(h:T3 N p_t=some y) :FunO S Iq [.p (vSl 2 H0 p_t)] [] (pN y) ([]) []:=by
 unfold T3 at h;refine A2 hS PA ?_;refine kB hS (A5 hS) trivial trivial 4 (.o (.a ((p_t.n:Int)==0)) (.a (decide (63<(p_t.n:Int))))) ?_;refine kI hS h (fun h=>?_) (fun h=>?_)
 ·cases h;exact kR hS
 ·refine G0 hS trivial h (fun x2 x3=>⟨[(17,pN x3),(16,pN (p_t.n:Int)),(15,.p (vSl 2 H0 p_t)),(3,.mref 15000)],[(15000,.map (IG PV.str PV.bb x2))]⟩) (ids:=[(15000,15000)]) (fun _ _ _ _ _ self1 x2 x3 hb3 h=>?_);refine kI hS h (fun h=>?_) (fun h=>?_)
  ·obtain⟨c25,h⟩:=E2 h;refine IW hS (And.intro c25 (by decide:(2:Nat)<=2)) (A5 hS) h 0 (fun z3=>⟨[(45,pB z3),(17,pN x3),(16,pN (p_t.n:Int)),(15,.p (vSl 2 H0 p_t)),(5,.reg 6000 0),(3,.mref 15000)],[(15000,.map (IG PV.str PV.bb x2)),(6000,.cells [pN (p_t.g x3.toNat).Parent,.p (.str (p_t.g x3.toNat).Name)])]⟩) (fun M3 k3 hb4 h=>?_) (fun z3 h=>?_)
   ·refine kG hS h (fun h=>?_) (fun h=>?_)
    ·exact hb4 _ [(6000,6000),(15000,15000)] _ true trivial h
    ·refine kG hS h (fun h=>?_) (fun h=>?_)
     ·exact hb4 _ [(6000,6000),(15000,15000)] _ true trivial h
     ·refine kC hS h (PW hS hL) (fun y6 h=>?_);refine kG hS h (fun h=>?_) (fun h=>?_)
      ·exact hb4 _ [(6000,6000),(15000,15000)] _ true trivial h
      ·rcases o6:Bk eqS (p_t.g x3.toNat).Name x2 with _|v6
       ·replace h:=optN o6 h;refine Fm hS trivial (kt:=AU) (e:=YT) (key:=PV.str (p_t.g x3.toNat).Name) (es:=IG PV.str PV.bb x2) (x:=.v (.bool false)) (b:=false) (fd:=none) ((Cc (kP:=PV.str) (vP:=PV.bb) (eq:=eqS) (fun _ _=>by kernel_rfl) (p_t.g x3.toNat).Name x2).trans (by rw[o6];rfl)) trivial ?_;exact hb4 _ [(6000,6000),(15000,15000)] _ false trivial h
       ·replace h:=optS o6 h;refine Fm hS trivial (kt:=AU) (e:=YT) (key:=PV.str (p_t.g x3.toNat).Name) (es:=IG PV.str PV.bb x2) (x:=PV.bb v6) (b:=true) (fd:=some (PV.bb v6)) ((Cc (kP:=PV.str) (vP:=PV.bb) (eq:=eqS) (fun _ _=>by kernel_rfl) (p_t.g x3.toNat).Name x2).trans (by rw[o6];rfl)) trivial ?_;exact hb4 _ [(6000,6000),(15000,15000)] _ v6 trivial h
   ·refine kI hS h (fun h=>?_) (fun h=>?_)
    ·cases h;exact kR hS
    ·refine IV hS trivial (kt:=AU) (key:=PV.str (p_t.g x3.toNat).Name) (y:=PV.bb true) (es:=IG PV.str PV.bb x2) (GM (kP:=PV.str) (vP:=PV.bb) (eq:=eqS) (fun _ _=>by kernel_rfl) (p_t.g x3.toNat).Name true x2) trivial ?_;exact hb3 _ [(15000,15000)] _ (KV eqS (p_t.g x3.toNat).Name true x2) (wrap .i64 (x3+1)) trivial h
  ·cases h;exact kR hS
def T4 (N:Nat)(p_h:A8):Option Int:=
 if ((0:Int)<=(p_h.On.n:Int)/\(p_h.On.n:Int)<=(p_h.On.n:Int)/\(p_h.On.n:Int)*8<=140737488355328/\(p_h.On.n:Int)<=140737488355328)then
  Ac5 N (fun self3 (x4:Sl Int) (x5:Bool) (x6:Int)=>
   if (decide (x6<(p_h.On.n:Int))) then
    if ((((0:Int)<=x6/\x6<(p_h.On.n:Int))/\((0:Int)<=x6/\x6<(x4.n:Int)))/\x6.toNat<x4.n)then
     if ((0:Int)<=x6/\x6<(p_h.Tree.n:Int))then
      lt (fun (z3:Sl Int)=>
       if (((0:Int)<=x6/\x6<(z3.n:Int))/\x6.toNat<z3.n)then
        if (decide (64<(z3.g x6.toNat))) then
         some 2
        else
         Bj N (fun self4 (x11:Bool) (x12:Int)=>
          if (decide (x12<((p_h.On.g x6.toNat).n:Int))) then
           if ((0:Int)<=x12/\x12<((p_h.On.g x6.toNat).n:Int))then
            self4 ((x11||(decide (((p_h.On.g x6.toNat).g x12.toNat)<0)))||(decide ((p_h.Laws.n:Int)<=((p_h.On.g x6.toNat).g x12.toNat)))) (wrap .i64 (x12+1))
           else none
          else
           self3 z3 x11 (wrap .i64 (x6+1))
          ) x5 0
       else none
       ) fun k3=>
       if (decide (0<=(p_h.Tree.g x6.toNat).Parent)) then
        if (((((((0:Int)<=x6/\x6<((x4.upd x6.toNat ((p_h.On.g x6.toNat).n:Int)).n:Int))/\x6.toNat<(x4.upd x6.toNat ((p_h.On.g x6.toNat).n:Int)).n)/\((0:Int)<=(p_h.Tree.g x6.toNat).Parent/\(p_h.Tree.g x6.toNat).Parent<((x4.upd x6.toNat ((p_h.On.g x6.toNat).n:Int)).n:Int)))/\(p_h.Tree.g x6.toNat).Parent.toNat<(x4.upd x6.toNat ((p_h.On.g x6.toNat).n:Int)).n)/\((0:Int)<=x6/\x6<((x4.upd x6.toNat ((p_h.On.g x6.toNat).n:Int)).n:Int)))/\x6.toNat<(x4.upd x6.toNat ((p_h.On.g x6.toNat).n:Int)).n)then
         k3 ((x4.upd x6.toNat ((p_h.On.g x6.toNat).n:Int)).upd x6.toNat (wrap .i64 (((x4.upd x6.toNat ((p_h.On.g x6.toNat).n:Int)).g x6.toNat)+((x4.upd x6.toNat ((p_h.On.g x6.toNat).n:Int)).g (p_h.Tree.g x6.toNat).Parent.toNat))))
        else none
       else
        k3 (x4.upd x6.toNat ((p_h.On.g x6.toNat).n:Int))
     else none
    else none
   else
    if x5 then
     some 3
    else
     some 0
   ) (Sl.rep (p_h.On.n:Int).toNat 0:Sl Int) false 0
 else none
theorem KD {N:Nat}{p_h:A8}{y:Int}(h:T4 N p_h=some y) :FunO S EP [.p (.agg (A7 p_h))] [] (pN y) ([]) []:=by
 unfold T4 at h;refine A2 hS JZ ?_;refine H9 hS trivial 2 2000 (A7 p_h) ?_;obtain⟨c1,h⟩:=E2 h;refine SL hS c1 h (fun x4 x5 x6=>⟨[(17,pN x6),(16,pN (p_h.On.n:Int)),(15,.p (vSl 1 (cL 1 (cI .i64)) p_h.On)),(4,pB x5),(3,.vec 14000),(1,.p (.ptr (A7 p_h)))],[(14000,.vec D2 1 x4.n (fun i=>cI .i64 (x4.g i)) false)]⟩) (ids:=[(14000,14000)]) (fun _ _ _ _ _ self3 x4 x5 x6 hb5 h=>?_);refine kI hS h (fun h=>?_) (fun h=>?_)
 ·obtain⟨c35,h⟩:=E2 h;refine K3 hS (And.intro (And.intro c35.1.1 c35.1.2) (And.intro (rfl:(1:Nat)=1) (And.intro c35.2 (by decide:(1:Nat)<=1)))) 27 ⟨[(17,pN x6),(16,pN (p_h.On.n:Int)),(15,.p (vSl 1 (cL 1 (cI .i64)) p_h.On)),(6,.p (vSl 1 (cI .i64) (p_h.On.g x6.toNat))),(5,pN x6),(4,pB x5),(3,.vec 14000),(1,.p (.ptr (A7 p_h)))],[(14000,.vec D2 1 (x4.upd x6.toNat ((p_h.On.g x6.toNat).n:Int)).n (fun i=>cI .i64 ((x4.upd x6.toNat ((p_h.On.g x6.toNat).n:Int)).g i)) false)]⟩ (ids:=[(14000,14000)]) ?_ (hle:=klR [(7,.fn x4.n (x4.upd x6.toNat ((p_h.On.g x6.toNat).n:Int)).n (fun l=>if l=x6.toNat then splice ((fun i=>cI .i64 (x4.g i)) l) 0 [pI .i64 ((p_h.On.g x6.toNat).n:Int)]else (fun i=>cI .i64 (x4.g i)) l) (fun i=>cI .i64 ((x4.upd x6.toNat ((p_h.On.g x6.toNat).n:Int)).g i)))] (al1 ⟨rfl,Af3 (c:=cI .i64) (v:=x4) (x:=((p_h.On.g x6.toNat).n:Int)) same (fun _=>by first|rfl|(dsimp only;split<;>rfl))⟩ al0));obtain⟨c36,h⟩:=E2 h;refine IW hS c36 (A5 hS) h 0 (fun z3=>⟨[(17,pN x6),(16,pN (p_h.On.n:Int)),(15,.p (vSl 1 (cL 1 (cI .i64)) p_h.On)),(6,.p (vSl 1 (cI .i64) (p_h.On.g x6.toNat))),(5,pN x6),(4,pB x5),(3,.vec 14000),(1,.p (.ptr (A7 p_h)))],[(14000,.vec D2 1 z3.n (fun i=>cI .i64 (z3.g i)) false)]⟩) (fun M3 k3 hb6 h=>?_) (fun z3 h=>?_)
  ·refine kI hS h (fun h=>?_) (fun h=>?_)
   ·refine Gg hS trivial ?_;obtain⟨c41,h⟩:=E2 h;refine O0 (And.intro (And.intro (And.intro (And.intro (And.intro c41.1.1.1.1.1 c41.1.1.1.1.2) c41.1.1.1.2) c41.1.1.2) c41.1.2) (And.intro (rfl:(1:Nat)=1) (And.intro c41.2 (by decide:(1:Nat)<=1)))) ?_;exact hb6 _ [(14000,14000)] _ ((x4.upd x6.toNat ((p_h.On.g x6.toNat).n:Int)).upd x6.toNat (wrap .i64 (((x4.upd x6.toNat ((p_h.On.g x6.toNat).n:Int)).g x6.toNat)+((x4.upd x6.toNat ((p_h.On.g x6.toNat).n:Int)).g (p_h.Tree.g x6.toNat).Parent.toNat)))) trivial h (hle:=klR [(7,.fn (x4.upd x6.toNat ((p_h.On.g x6.toNat).n:Int)).n ((x4.upd x6.toNat ((p_h.On.g x6.toNat).n:Int)).upd x6.toNat (wrap .i64 (((x4.upd x6.toNat ((p_h.On.g x6.toNat).n:Int)).g x6.toNat)+((x4.upd x6.toNat ((p_h.On.g x6.toNat).n:Int)).g (p_h.Tree.g x6.toNat).Parent.toNat)))).n (fun l=>if l=x6.toNat then splice ((fun i=>cI .i64 ((x4.upd x6.toNat ((p_h.On.g x6.toNat).n:Int)).g i)) l) 0 [pI .i64 (wrap .i64 (((x4.upd x6.toNat ((p_h.On.g x6.toNat).n:Int)).g x6.toNat)+((x4.upd x6.toNat ((p_h.On.g x6.toNat).n:Int)).g (p_h.Tree.g x6.toNat).Parent.toNat)))]else (fun i=>cI .i64 ((x4.upd x6.toNat ((p_h.On.g x6.toNat).n:Int)).g i)) l) (fun i=>cI .i64 (((x4.upd x6.toNat ((p_h.On.g x6.toNat).n:Int)).upd x6.toNat (wrap .i64 (((x4.upd x6.toNat ((p_h.On.g x6.toNat).n:Int)).g x6.toNat)+((x4.upd x6.toNat ((p_h.On.g x6.toNat).n:Int)).g (p_h.Tree.g x6.toNat).Parent.toNat)))).g i)))] (al1 ⟨rfl,Af3 (c:=cI .i64) (v:=x4.upd x6.toNat ((p_h.On.g x6.toNat).n:Int)) (x:=wrap .i64 (((x4.upd x6.toNat ((p_h.On.g x6.toNat).n:Int)).g x6.toNat)+((x4.upd x6.toNat ((p_h.On.g x6.toNat).n:Int)).g (p_h.Tree.g x6.toNat).Parent.toNat))) same (fun _=>by first|rfl|(dsimp only;split<;>rfl))⟩ al0))
   ·exact hb6 _ [(14000,14000)] _ (x4.upd x6.toNat ((p_h.On.g x6.toNat).n:Int)) trivial h
  ·obtain⟨c42,h⟩:=E2 h;refine D3 hS c42 (b:=decide (64<(z3.g x6.toNat))) (fun c43=>?_) (fun c43=>?_)
   ·replace h:=itT c43 h;cases h;exact kR hS
   ·replace h:=itF c43 h;refine G0 hS trivial h (fun x11 x12=>⟨[(52,pN x12),(51,pN ((p_h.On.g x6.toNat).n:Int)),(50,.p (vSl 1 (cI .i64) (p_h.On.g x6.toNat))),(17,pN x6),(16,pN (p_h.On.n:Int)),(15,.p (vSl 1 (cL 1 (cI .i64)) p_h.On)),(4,pB x11),(3,.vec 14000),(1,.p (.ptr (A7 p_h)))],[(14000,.vec D2 1 z3.n (fun i=>cI .i64 (z3.g i)) false)]⟩) (ids:=[(14000,14000)]) (fun _ _ _ _ _ self4 x11 x12 hb7 h=>?_);refine kI hS h (fun h=>?_) (fun h=>?_)
    ·obtain⟨c49,h⟩:=E2 h;refine kB hS (A5 hS) c49 trivial 10 (.o (.o (.a x11) (.a (decide (((p_h.On.g x6.toNat).g x12.toNat)<0)))) (.a (decide ((p_h.Laws.n:Int)<=((p_h.On.g x6.toNat).g x12.toNat))))) ?_;exact hb7 _ [(14000,14000)] _ ((x11||(decide (((p_h.On.g x6.toNat).g x12.toNat)<0)))||(decide ((p_h.Laws.n:Int)<=((p_h.On.g x6.toNat).g x12.toNat)))) (wrap .i64 (x12+1)) trivial h
    ·exact hb5 _ [(14000,14000)] _ z3 x11 (wrap .i64 (x6+1)) trivial h
 ·refine kI hS h (fun h=>?_) (fun h=>?_)
  ·cases h;exact kR hS
  ·cases h;exact kR hS
def I2 (N:Nat)(p_h:A8):Option Int:=
 (T3 N p_h.Tree).bind fun y1=>
 if (y1 != 0) then
  some 16
 else
  if (decide (64<(p_h.Laws.n:Int))) then
   some 12
  else
   Bj N (fun self1 (x1:List (Str×Int)) (x2:Int)=>
    if (decide (x2<(p_h.Laws.n:Int))) then
     if ((0:Int)<=x2/\x2<(p_h.Laws.n:Int))then
      (T0 N (p_h.Laws.g x2.toNat)).bind fun y4=>
      if (y4 != 0) then
       some 17
      else
       ZG (Bk eqS (p_h.Laws.g x2.toNat).Name x1) (
        self1 (KV eqS (p_h.Laws.g x2.toNat).Name (wrap .i64 (0+1)) x1) (wrap .i64 (x2+1))
        ) fun v3=>
        self1 (KV eqS (p_h.Laws.g x2.toNat).Name (wrap .i64 (v3+1)) x1) (wrap .i64 (x2+1))
     else none
    else
     if (decide (((IG PV.str (pI .i64) x1).length:Int)<(p_h.Laws.n:Int))) then
      some 6
     else
      if ((p_h.On.n:Int) != (p_h.Tree.n:Int)) then
       some 2
      else
       (T4 N p_h).bind fun y5=>
       some y5
    ) [] 0
theorem Cn {N:Nat}{p_h:A8}{y:Int}(h:I2 N p_h=some y) :FunO S EM [.p (.agg (A7 p_h))] [] (pN y) ([]) []:=by
 unfold I2 at h;refine A2 hS JT ?_;refine kC hS h (IB hS hL) (fun y1 h=>?_);refine kI hS h (fun h=>?_) (fun h=>?_)
 ·cases h;exact kR hS
 ·refine kI hS h (fun h=>?_) (fun h=>?_)
  ·cases h;exact kR hS
  ·refine G0 hS trivial h (fun x1 x2=>⟨[(18,pN x2),(17,pN (p_h.Laws.n:Int)),(16,.p (vSl 18 B3 p_h.Laws)),(3,.mref 15000),(1,.reg 2000 0)],[(15000,.map (IG PV.str (pI .i64) x1)),(2000,.cells ((A7 p_h).map .p))]⟩) (ids:=[(2000,2000),(15000,15000)]) (fun _ _ _ _ _ self1 x1 x2 hb1 h=>?_);refine kI hS h (fun h=>?_) (fun h=>?_)
   ·obtain⟨c10,h⟩:=E2 h;obtain⟨y4,e4,h⟩:=B5 h;refine B4 hS [] (And.intro c10 (by decide:(18:Nat)<=18)) (Gj hS hL e4) ?_;refine kI hS h (fun h=>?_) (fun h=>?_)
    ·cases h;exact kR hS
    ·rcases o3:Bk eqS (p_h.Laws.g x2.toNat).Name x1 with _|v3
     ·replace h:=optN o3 h;refine Fm hS trivial (kt:=AU) (e:=D2) (key:=PV.str (p_h.Laws.g x2.toNat).Name) (es:=IG PV.str (pI .i64) x1) (x:=pI .i64 0) (b:=false) (fd:=none) ((Cc (kP:=PV.str) (vP:=pI .i64) (eq:=eqS) (fun _ _=>by kernel_rfl) (p_h.Laws.g x2.toNat).Name x1).trans (by rw[o3];rfl)) trivial ?_;refine IV hS trivial (kt:=AU) (key:=PV.str (p_h.Laws.g x2.toNat).Name) (y:=pI .i64 (wrap .i64 (0+1))) (es:=IG PV.str (pI .i64) x1) (GM (kP:=PV.str) (vP:=pI .i64) (eq:=eqS) (fun _ _=>by kernel_rfl) (p_h.Laws.g x2.toNat).Name (wrap .i64 (0+1)) x1) trivial ?_;exact hb1 _ [(2000,2000),(15000,15000)] _ (KV eqS (p_h.Laws.g x2.toNat).Name (wrap .i64 (0+1)) x1) (wrap .i64 (x2+1)) trivial h
     ·replace h:=optS o3 h;refine Fm hS trivial (kt:=AU) (e:=D2) (key:=PV.str (p_h.Laws.g x2.toNat).Name) (es:=IG PV.str (pI .i64) x1) (x:=pI .i64 v3) (b:=true) (fd:=some (pI .i64 v3)) ((Cc (kP:=PV.str) (vP:=pI .i64) (eq:=eqS) (fun _ _=>by kernel_rfl) (p_h.Laws.g x2.toNat).Name x1).trans (by rw[o3];rfl)) trivial ?_;refine IV hS trivial (kt:=AU) (key:=PV.str (p_h.Laws.g x2.toNat).Name) (y:=pI .i64 (wrap .i64 (v3+1))) (es:=IG PV.str (pI .i64) x1) (GM (kP:=PV.str) (vP:=pI .i64) (eq:=eqS) (fun _ _=>by kernel_rfl) (p_h.Laws.g x2.toNat).Name (wrap .i64 (v3+1)) x1) trivial ?_;exact hb1 _ [(2000,2000),(15000,15000)] _ (KV eqS (p_h.Laws.g x2.toNat).Name (wrap .i64 (v3+1)) x1) (wrap .i64 (x2+1)) trivial h
   ·refine kI hS h (fun h=>?_) (fun h=>?_)
    ·cases h;exact kR hS
    ·refine kI hS h (fun h=>?_) (fun h=>?_)
     ·cases h;exact kR hS
     ·refine kC hS h (KD hS hL) (fun y5 h=>?_);cases h;exact kR hS
def Y2 (N:Nat)(p_h:A8)(p_v:Int):Option Bool:=
 some ((decide (0<=p_v))&&(decide (p_v<(p_h.Tree.n:Int))))
theorem LG {N:Nat}{p_h:A8}{p_v:Int}{y:Bool}(h:Y2 N p_h p_v=some y) :FunO S FJ [.p (.agg (A7 p_h)),pN p_v] [] (pB y) ([]) []:=by unfold Y2 at h;refine A2 hS Lj ?_;refine kB hS (A5 hS) trivial trivial 6 (.n (.a (decide (0<=p_v))) (.a (decide (p_v<(p_h.Tree.n:Int))))) ?_;cases h;exact kR hS
def M8 (N:Nat)(q0:Int)(q1:Sl J1):Option (List (Int)):=
 Bj N (fun self1 (x1:Int) (x2:Sl Int)=>
  if (decide (0<=x1)) then
   if (((x2.n+(Sl.of [x1]:Sl Int).n)*8<=140737488355328/\x2.n+(Sl.of [x1]:Sl Int).n<=140737488355328)/\((0:Int)<=x1/\x1<(q1.n:Int)))then
    self1 (q1.g x1.toNat).Parent (x2.push x1)
   else none
  else
   Az N (fun self2 (x3:Int)=>
    if (decide (0<=x3)) then
     if (((0:Int)<=x3/\x3<(x2.n:Int))/\x3.toNat<x2.n)then
      Fv (x2.g x3.toNat) (
       self2 (wrap .i64 (x3-1))
       )
     else none
    else
     some []
    ) (wrap .i64 ((x2.n:Int)-1))
  ) q0 (Sl.nil:Sl Int)
theorem KE {N:Nat}{q0:Int}{q1:Sl J1}{L:List (Int)}(h:M8 N q0 q1=some L) :DH S Aq [] [.reg 0 0,.reg 1 0] [.cells [pN q0],.cells [.p (vSl 2 H0 q1)]] (L.map (fun (x:Int)=>[pI .i64 x])):=by
 unfold M8 at h;refine DL hS Kc ?_;refine Np hS trivial h (fun x1 x2 L1=>⟨[(4,.vec 5500),(2,.reg 1 0),(1,.reg 0 0),(0,.yf 2)],[(5500,.vec D2 1 x2.n (fun i=>cI .i64 (x2.g i)) false),(2,.yld (L1.map (fun (x:Int)=>[pI .i64 x])) true),(1,.cells [.p (vSl 2 H0 q1)]),(0,.cells [pN x1])]⟩) (ids:=[(0,0),(1,1),(2,2)]) (fun _ _ _ _ _ self1 x1 x2 L1 hb1 h=>?_);refine kI hS h (fun h=>?_) (fun h=>?_)
 ·obtain⟨c4,h⟩:=E2 h;exact hb1 _ [(0,0),(1,1),(2,2),(5500,17000)] _ (q1.g x1.toNat).Parent (x2.push x1) L1 (And.intro (And.intro (rfl:true=true) c4.1) c4.2) h (hle:=klR [(0,.fn (x2.n+1) (x2.push x1).n (AW x2.n (fun i=>cI .i64 (x2.g i)) (E4 [pI .i64 0] [(0,cI .i64 x1)])) (fun i=>cI .i64 ((x2.push x1).g i)))] (al1 ⟨rfl,Mo (c:=cI .i64) (v:=x2) (x:=x1) (z:=[(pI .i64 0)]) same rfl rfl⟩ al0))
 ·refine EI hS trivial h (fun x3 L2=>⟨[(5,pN x3),(4,.vec 5500),(0,.yf 2)],[(5500,.vec D2 1 x2.n (fun i=>cI .i64 (x2.g i)) false),(2,.yld (L2.map (fun (x:Int)=>[pI .i64 x])) true),(1,.cells [.p (vSl 2 H0 q1)]),(0,.cells [pN x1])]⟩) (ids:=[(0,0),(1,1),(2,2),(5500,5500)]) (fun _ _ _ _ _ self2 x3 L2 hb2 h=>?_);refine kI hS h (fun h=>?_) (fun h=>?_)
  ·obtain⟨c14,h⟩:=E2 h;obtain⟨L5,rfl,hcL5⟩:=JG h;replace h:=hcL5;refine Cd hS c14 (ys:=(fun (x:Int)=>[pI .i64 x]) (x2.g x3.toNat)) (rest:=L5.map (fun (x:Int)=>[pI .i64 x])) ?_ ?_
   ·refine D3 hS trivial (b:=false) (fun c15=>?_) (fun c15=>?_)
    ·exact Bool.noConfusion ((rfl:false=false).symm.trans c15)
    ·exact hb2 _ [(0,0),(1,1),(2,2),(5500,5500)] _ (wrap .i64 (x3-1)) L5 trivial h
   ·refine D3 hS trivial (b:=true) (fun c16=>?_) (fun c16=>?_)
    ·exact A6 hS trivial (a:=.tup []) (objs:=[(.cells [pN x1]),.cells [.p (vSl 2 H0 q1)],.yld [] false]) ⟨[],[(2,.yld [] false),(1,.cells [.p (vSl 2 H0 q1)]),(0,.cells [pN x1])]⟩ [0,1,2] (ids:=[(0,0),(1,1),(2,2)]) ⟨false,rfl,rfl,_,rfl⟩
    ·exact Bool.noConfusion ((rfl:true=true).symm.trans c16)
  ·obtain rfl:=B6 h;exact A6 hS trivial (a:=.tup []) (objs:=[(.cells [pN x1]),.cells [.p (vSl 2 H0 q1)],.yld [] true]) ⟨[],[(2,.yld [] true),(1,.cells [.p (vSl 2 H0 q1)]),(0,.cells [pN x1])]⟩ [0,1,2] (ids:=[(0,0),(1,1),(2,2)]) ⟨true,rfl,rfl,_,rfl⟩
def V5 (N:Nat)(p_t:Sl J1)(p_v:Int):Option (Int×(Sl J1)):=
 some (p_v,p_t)
theorem Ob {N:Nat}{p_t:Sl J1}{p_v:Int}{y:Int×(Sl J1)}(h:V5 N p_t p_v=some y) :FunO S GW [.p (vSl 2 H0 p_t),pN p_v] [] (.clo Aq [] [.reg 0 0,.reg 1 0]) ([.cells [pN y.1],.cells [.p (vSl 2 H0 y.2)]]) []:=by unfold V5 at h;refine A2 hS NC ?_;obtain rfl:=B6 h;exact A6 hS trivial ⟨[(4,.clo Aq [] [.reg 4000 0,.reg 3000 0])],[(4000,.cells [pN p_v]),(3000,.cells [.p (vSl 2 H0 p_t)])]⟩ [4000,3000] (ids:=[(3000,3000),(4000,4000)]) ⟨rfl,rfl,rfl⟩
def K7 (N:Nat)(p_h:A8)(p_v:Int):Option ((Sl Int)×Int):=
 (I2 N p_h).bind fun y1=>
 if (y1 != 0) then
  some ((Sl.nil:Sl Int),y1)
 else
  (Y2 N p_h p_v).bind fun y2=>
  if (!y2) then
   some ((Sl.nil:Sl Int),3)
  else
   (V5 N p_h.Tree p_v).bind fun y3=>
   (M8 N y3.1 y3.2).bind fun L1=>
   Y9 L1 (fun self1 (x1:Int) (z1:Sl Int)=>
    if (((0:Int)<=x1/\x1<(p_h.On.n:Int))/\((z1.n+(p_h.On.g x1.toNat).n)*8<=140737488355328/\z1.n+(p_h.On.g x1.toNat).n<=140737488355328))then
     self1 (z1.app (p_h.On.g x1.toNat))
    else none
    ) (fun (z1:Sl Int)=>
     some (z1,0)
    ) (Sl.nil:Sl Int)
theorem FT {N:Nat}{p_h:A8}{p_v:Int}{y:(Sl Int)×Int}(h:K7 N p_h p_v=some y) :FunO S FH [.p (.agg (A7 p_h)),pN p_v] [] (.tup [.vec 0,pN y.2]) ([.vec D2 1 y.1.n (fun i=>cI .i64 (y.1.g i)) true]) []:=by
 unfold K7 at h;refine A2 hS Lh ?_;refine H9 hS trivial 4 3000 (A7 p_h) ?_;obtain⟨y1,e1,h⟩:=B5 h;refine B4 hS [] (by decide:(3:Nat)<=3) (Cn hS hL e1) ?_;refine kI hS h (fun h=>?_) (fun h=>?_)
 ·obtain rfl:=B6 h;exact A6 hS trivial ⟨[(5,pN y1),(4,.vec 5700)],[(5700,.vec D2 1 (Sl.nil:Sl Int).n (fun i=>cI .i64 ((Sl.nil:Sl Int).g i)) true)]⟩ [5700] (ids:=[]) ⟨rfl,rfl,rfl⟩
 ·obtain⟨y2,e2,h⟩:=B5 h;refine B4 hS [] (by decide:(3:Nat)<=3) (LG hS hL e2) ?_;refine kI hS h (fun h=>?_) (fun h=>?_)
  ·obtain rfl:=B6 h;exact A6 hS trivial ⟨[(5,pN 3),(4,.vec 5700)],[(5700,.vec D2 1 (Sl.nil:Sl Int).n (fun i=>cI .i64 ((Sl.nil:Sl Int).g i)) true)]⟩ [5700] (ids:=[]) ⟨rfl,rfl,rfl⟩
  ·refine kC hS h (Ob hS hL) (fun y3 h=>?_);obtain⟨L1,e4,h⟩:=B5 h;refine DM hS trivial [22000,22001] [7,2] 901 (fun z1=>⟨[(7,.reg 8000 0),(2,.p (.ptr (A7 p_h)))],[(8500,.vec D2 1 z1.n (fun i=>cI .i64 (z1.g i)) false),(8000,.cells [.vec 8500])]⟩) (idl:=[(8000,8000)]) h (KE hS hL e4) (fun _=>by kernel_rfl) (fun _=>by kernel_rfl) (fun _=>by kernel_rfl) (fun _=>by kernel_rfl) (fun x1 _ self1 z1 hb1 h=>?_) (fun z1 h=>?_)
   ·refine GP hS trivial ?_;refine G8 hS trivial [2,4,5] ?_;obtain⟨c5,h⟩:=E2 h;refine O0 c5 ?_;exact hb1 _ [(901,901),(8000,8000),(8500,30000)] _ (z1.app (p_h.On.g x1.toNat)) trivial h (hle:=klR [(0,.fn (z1.n+(p_h.On.g x1.toNat).n) (z1.app (p_h.On.g x1.toNat)).n (AW z1.n (fun i=>cI .i64 (z1.g i)) (fun i=>cI .i64 ((p_h.On.g x1.toNat).g i))) (fun i=>cI .i64 ((z1.app (p_h.On.g x1.toNat)).g i)))] (al1 ⟨rfl,Ak1 (c:=cI .i64) (v:=z1) (w:=p_h.On.g x1.toNat) same rfl same rfl⟩ al0))
   ·obtain rfl:=B6 h;exact A6 hS trivial ⟨[(5,pN 0),(4,.vec 8500)],[(8500,.vec D2 1 z1.n (fun i=>cI .i64 (z1.g i)) true)]⟩ [8500] (ids:=[(8500,8500)]) ⟨rfl,rfl,rfl⟩
def Z5 (rec:Pat->Option Pat)(N:Nat)(p_p:Pat):Option Pat:=
 Bj N (fun self1 (x1:Sl Pat) (x2:Int)=>
  if (decide (x2<(p_p.L.n:Int))) then
   if ((0:Int)<=x2/\x2<(p_p.L.n:Int))then
    (rec (p_p.L.g x2.toNat)).bind fun y3=>
    if ((x1.n+(Sl.of [y3]:Sl Pat).n)*64<=140737488355328/\x1.n+(Sl.of [y3]:Sl Pat).n<=140737488355328)then
     self1 (x1.push y3) (wrap .i64 (x2+1))
    else none
   else none
  else
   some (Pat.mk p_p.Kind p_p.Is p_p.Not p_p.Min p_p.Max x1.n x1.g)
  ) (Sl.nil:Sl Pat) 0
def V6:Nat->Pat->Option Pat
 |0=>fun _=>none
 |N+1=>Z5 (V6 N) N
theorem Hl {N:Nat}{rec:Pat->Option Pat}(hrec:∀{p_p:Pat}{y:Pat},rec p_p=some y->FunO S U3 [.p (.agg (B0 p_p))] [] (.p (.agg (B0 y))) ([]) []){p_p:Pat}{y:Pat}(h:Z5 rec N p_p=some y) :FunO S U3 [.p (.agg (B0 p_p))] [] (.p (.agg (B0 y))) ([]) []:=by
 unfold Z5 at h;refine A2 hS HL ?_;refine K3 hS trivial 8 ⟨[(7,.p (vSl 7 B0 p_p.L)),(3,.p H7),(2,.reg 3000 0),(1,.reg 2000 0)],[(3000,.cells [pN 0,pU 0,pU 0,.p (.v (.bool false)),pN 0,pN 0,.p H7]),(2000,.cells ((B0 p_p).map .p))]⟩ (ids:=[(2000,2000),(3000,3000)]) ?_ (hle:=klR [(0,.fn p_p.L.n p_p.L.n (Bl p_p) (fun i=>B0 (p_p.L.g i)))] (al1 ⟨rfl,P4 p_p⟩ al0));refine G0 hS trivial h (fun x1 x2=>⟨[(9,pN x2),(8,pN (p_p.L.n:Int)),(7,.p (vSl 7 B0 p_p.L)),(3,.vec 4500),(2,.reg 3000 0),(1,.reg 2000 0)],[(4500,.vec Dt 7 x1.n (fun i=>B0 (x1.g i)) false),(3000,.cells [pN 0,pU 0,pU 0,.p (.v (.bool false)),pN 0,pN 0,.p H7]),(2000,.cells ((B0 p_p).map .p))]⟩) (ids:=[(2000,2000),(3000,3000)]) (fun _ _ _ _ _ self1 x1 x2 hb1 h=>?_);refine kI hS h (fun h=>?_) (fun h=>?_)
 ·obtain⟨c6,h⟩:=E2 h;obtain⟨y3,e3,h⟩:=B5 h;refine B4 hS [] (And.intro c6 (by decide:(7:Nat)<=7)) (hrec e3) ?_;obtain⟨c7,h⟩:=E2 h;exact hb1 _ [(2000,2000),(3000,3000),(4500,18000)] _ (x1.push y3) (wrap .i64 (x2+1)) (And.intro (rfl:true=true) c7) h (hle:=klR [(3,.fn (x1.n+1) (x1.push y3).n (AW x1.n (fun i=>B0 (x1.g i)) (E4 [pI .i64 0,pI .u32 0,pI .u32 0,.v (.bool false),pI .i64 0,pI .i64 0,H7] [(0,B0 y3)])) (fun i=>B0 ((x1.push y3).g i)))] (al1 ⟨rfl,Mo (c:=B0) (v:=x1) (x:=y3) (z:=[(pI .i64 0),pI .u32 0,pI .u32 0,.v (.bool false),pI .i64 0,pI .i64 0,H7]) same rfl rfl⟩ al0))
 ·obtain rfl:=B6 h;exact A6 hS trivial ⟨[(2,.reg 3000 0)],[(3000,.cells [pN p_p.Kind,pU p_p.Is.Plus,pU p_p.Is.Minus,pB p_p.Not,pN p_p.Min,pN p_p.Max,.p (.sl false 7 x1.n (Bl (Pat.mk p_p.Kind p_p.Is p_p.Not p_p.Min p_p.Max x1.n x1.g)))])]⟩ [] (ids:=[(3000,3000)]) ⟨rfl,rfl,rfl⟩
theorem Dx {N:Nat}{p_p:Pat}{y:Pat}(h:V6 N p_p=some y) :FunO S U3 [.p (.agg (B0 p_p))] [] (.p (.agg (B0 y))) ([]) []:=by
 induction N generalizing p_p y with
 |zero=>cases (show (none:Option Pat)=some y from h)
 |succ N ih=>exact Hl hS hL (fun e=>ih e) h
def Bu (N:Nat)(p_l:Law):Option Law:=
 (V6 N p_l.Left).bind fun y1=>
 (V6 N p_l.Right).bind fun y2=>
 (B1 N p_l.If).bind fun y3=>
 (G6 N p_l.Out).bind fun y4=>
 some (⟨p_l.Name,y1,y2,y3,y4,p_l.Mode⟩:Law)
theorem IQ {N:Nat}{p_l:Law}{y:Law}(h:Bu N p_l=some y) :FunO S Ej [.p (.agg (B3 p_l))] [] (.p (.agg (B3 y))) ([]) []:=by unfold Bu at h;refine A2 hS IK ?_;refine G8 hS trivial [2,5] ?_;obtain⟨y1,e1,h⟩:=B5 h;refine BA trivial (Dx hS hL e1) ?_;obtain⟨y2,e2,h⟩:=B5 h;refine BA trivial (Dx hS hL e2) ?_;refine O0 trivial ?_;refine G8 hS trivial [2,5] ?_;obtain⟨y3,e3,h⟩:=B5 h;refine BA trivial (U6 hS hL e3) ?_;obtain⟨y4,e4,h⟩:=B5 h;refine BA trivial (Ah hS hL e4) ?_;refine O0 trivial ?_;cases h;exact kR hS
def CW (N:Nat)(p_h:A8)(p_l:Sl Int):Option (Sl Law):=
 Bj N (fun self1 (x1:Sl Law) (x2:Int)=>
  if (decide (x2<(p_l.n:Int))) then
   if (((0:Int)<=x2/\x2<(p_l.n:Int))/\((0:Int)<=(p_l.g x2.toNat)/\(p_l.g x2.toNat)<(p_h.Laws.n:Int)))then
    (Bu N (p_h.Laws.g (p_l.g x2.toNat).toNat)).bind fun y3=>
    if ((x1.n+(Sl.of [y3]:Sl Law).n)*200<=140737488355328/\x1.n+(Sl.of [y3]:Sl Law).n<=140737488355328)then
     self1 (x1.push y3) (wrap .i64 (x2+1))
    else none
   else none
  else
   some x1
  ) (Sl.nil:Sl Law) 0
theorem LH {N:Nat}{p_h:A8}{p_l:Sl Int}{y:Sl Law}(h:CW N p_h p_l=some y) :FunO S FK [.p (.agg (A7 p_h)),.p (vSl 1 (cI .i64) p_l)] [] (.p (vSl 18 B3 y)) ([]) []:=by
 unfold CW at h;refine A2 hS Lk ?_;refine G0 hS trivial h (fun x1 x2=>⟨[(10,pN x2),(9,pN (p_l.n:Int)),(8,.p (vSl 1 (cI .i64) p_l)),(5,.vec 6500),(2,.reg 3000 0)],[(6500,.vec Kq 18 x1.n (fun i=>B3 (x1.g i)) false),(3000,.cells ((A7 p_h).map .p))]⟩) (ids:=[(3000,3000)]) (fun _ _ _ _ _ self1 x1 x2 hb1 h=>?_);refine kI hS h (fun h=>?_) (fun h=>?_)
 ·obtain⟨c6,h⟩:=E2 h;obtain⟨y3,e3,h⟩:=B5 h;refine B4 hS [] (And.intro (And.intro c6.1 c6.2) (by decide:(18:Nat)<=18)) (IQ hS hL e3) ?_;obtain⟨c7,h⟩:=E2 h;exact hb1 _ [(3000,3000),(6500,23000)] _ (x1.push y3) (wrap .i64 (x2+1)) (And.intro (rfl:true=true) c7) h (hle:=klR [(3,.fn (x1.n+1) (x1.push y3).n (AW x1.n (fun i=>B3 (x1.g i)) (E4 [.str [],pI .i64 0,pI .u32 0,pI .u32 0,.v (.bool false),pI .i64 0,pI .i64 0,H7,pI .i64 0,pI .u32 0,pI .u32 0,.v (.bool false),pI .i64 0,pI .i64 0,H7,H7,H7,pI .i64 0] [(0,B3 y3)])) (fun i=>B3 ((x1.push y3).g i)))] (al1 ⟨rfl,Mo (c:=B3) (v:=x1) (x:=y3) (z:=[(.str []),pI .i64 0,pI .u32 0,pI .u32 0,.v (.bool false),pI .i64 0,pI .i64 0,H7,pI .i64 0,pI .u32 0,pI .u32 0,.v (.bool false),pI .i64 0,pI .i64 0,H7,H7,H7,pI .i64 0]) same rfl rfl⟩ al0))
 ·obtain rfl:=B6 h;exact A6 hS trivial ⟨[(4,.p (vSl 18 B3 x1))],[]⟩ [] (ids:=[]) ⟨rfl,rfl,rfl⟩
def CX (N:Nat)(p_h:A8)(p_v:Int):Option ((Sl Law)×Int):=
 (K7 N p_h p_v).bind fun y1=>
 (CW N p_h y1.1).bind fun y2=>
 some (y2,y1.2)
theorem LI {N:Nat}{p_h:A8}{p_v:Int}{y:(Sl Law)×Int}(h:CX N p_h p_v=some y) :FunO S FI [.p (.agg (A7 p_h)),pN p_v] [] (.tup [.p (vSl 18 B3 y.1),pN y.2]) ([]) []:=by unfold CX at h;refine A2 hS Li ?_;refine kC hS h (FT hS hL) (fun y1 h=>?_);refine kC hS h (LH hS hL) (fun y2 h=>?_);cases h;exact kR hS
end Go.AM
namespace Go.AM
open IntKind (wrap)
open Go.Proofs
set_option maxRecDepth 10000
set_option maxHeartbeats 2000000
variable {S:X1}(hS:F4 S Tryz.prog) (hL:MF S)
abbrev Uy {T:Type}(e:TypeId)(k:Nat)(c:T->List PV)(x:Sl T):Obj:=.vec e k x.n (fun q=>c (x.g q)) false
theorem obPut {T:Type}{e:TypeId}{k n i:Nat}{c:T->List PV}{X:Sl (Sl T)}{z:Sl T}:∀q,q<n->(fun q=>if q=i then Uy e k c z else if q=i then Obj.dead else Uy e k c (X.g q)) q=(fun q=>Uy e k c ((X.upd i z).g q)) q:=fun q _=>by by_cases h:q=i<;>simp[h]
include hS hL
def T5 (N:Nat)(p_t:Sl J1):Option (Sl (Sl Int)):=
 if ((0:Int)<=(p_t.n:Int)/\(p_t.n:Int)<=(p_t.n:Int)/\(p_t.n:Int)*24<=140737488355328/\(p_t.n:Int)<=140737488355328)then
  Bj N (fun self (x:Int) (X:Sl (Sl Int))=>
   if (decide (x<(p_t.n:Int))) then
    if ((0:Int)<=x/\x<(p_t.n:Int))then
     if (p_t.g x.toNat).Parent.toNat<X.n then
      lt (fun (z:Sl Int)=>self (wrap .i64 (x+1)) (X.upd (p_t.g x.toNat).Parent.toNat z)) fun k=>
       if (decide (0<x)) then
        if (((0:Int)<=(p_t.g x.toNat).Parent/\(p_t.g x.toNat).Parent<(X.n:Int))/\(((X.g (p_t.g x.toNat).Parent.toNat).n+1)*8<=140737488355328/\(X.g (p_t.g x.toNat).Parent.toNat).n+1<=140737488355328))then
         k ((X.g (p_t.g x.toNat).Parent.toNat).push x)
        else none
       else k (X.g (p_t.g x.toNat).Parent.toNat)
     else none
    else none
   else some X) 0 ⟨p_t.n,fun _=>Sl.nil⟩
 else none
theorem KF {N:Nat}{p_t:Sl J1}{y:Sl (Sl Int)}(h:T5 N p_t=some y) :FunO S ER [.p (vSl 2 H0 p_t)] [] (.p (vSl 1 (cL 1 (cI .i64)) y)) [] []:=by
 unfold T5 at h;refine A2 hS Kb ?_;obtain⟨c1,h⟩:=E2 h;refine SR hS c1 9 (.fam 9000 9901 fun i=>Uy D2 1 (cI .i64) ((⟨p_t.n,fun _=>Sl.nil⟩:Sl (Sl Int)).g i)) (⟨by decide,fun i _=>rfl⟩:1000<=9901/\∀i,i<p_t.n->Vg [H7] (Uy D2 1 (cI .i64) ((⟨p_t.n,fun _=>Sl.nil⟩:Sl (Sl Int)).g i))) ?_;refine G0 hS trivial h (fun x X=>⟨[(11,pN x),(10,pN (p_t.n:Int)),(9,.p (vSl 2 H0 p_t)),(3,.vec 9000)],[(9901,.rows X.n fun i=>Uy D2 1 (cI .i64) (X.g i)),(9000,.fam NP X.n 9901 none)]⟩) (ids:=[(9901,9901),(9000,9000)]) (fun _ _ _ _ _ self x X hb1 h=>?_);refine kI hS h (fun h=>?_) (fun h=>?_)
 ·obtain⟨c2,h⟩:=E2 h;obtain⟨c3,h⟩:=E2 h;refine SR hS (And.intro c2 (by decide:(2:Nat)<=2)) 17 (.take 9000 (p_t.g x.toNat).Parent.toNat 9801) (⟨⟨by decide,rfl⟩,c3⟩:(1000<=9801/\X.n=X.n)/\(p_t.g x.toNat).Parent.toNat<X.n) ?_;refine IW hS trivial (A5 hS) h 0 (fun z=>⟨[(11,pN x),(10,pN (p_t.n:Int)),(9,.p (vSl 2 H0 p_t)),(3,.vec 9000)],
   [(9901,(.rows X.n fun l=>if l=(p_t.g x.toNat).Parent.toNat then .dead else Uy D2 1 (cI .i64) (X.g l))),(9801,Uy D2 1 (cI .i64) z),(9000,.fam NP X.n 9901 (some ((p_t.g x.toNat).Parent.toNat,.vec 9801)))]⟩) (fun M k hb2 h=>?_) (fun z h=>?_)
  ·refine kI hS h (fun h=>?_) (fun h=>?_)
   ·obtain⟨c4,h⟩:=E2 h;refine U1 hS trivial [(0,.n),(1,.n),(2,.l [6000]),(3,.n),(4,.n),(5,.l [6000]),(6,.l [9000]),(7,.l [9000]),(8,.n),(10,.a [29000,9801]),(11,.l [9000]),(12,.a [9000])] ?_;refine CJ (And.intro c4.1 (And.intro c3 (rfl:(p_t.g x.toNat).Parent.toNat=(p_t.g x.toNat).Parent.toNat))) (x:=.sl true 1 1 (E4 [pI .i64 0] [(0,cI .i64 x)])) ?_;refine O0 (And.intro (And.intro c4.2 c4.1) (And.intro c3 (rfl:(p_t.g x.toNat).Parent.toNat=(p_t.g x.toNat).Parent.toNat))) ?_;exact hb2 _ [(9901,9901),(9801,29000),(9000,9000)] _ ((X.g (p_t.g x.toNat).Parent.toNat).push x) trivial h (hle:=klR [(5,.fn ((X.g (p_t.g x.toNat).Parent.toNat).n+1) ((X.g (p_t.g x.toNat).Parent.toNat).push x).n (AW (X.g (p_t.g x.toNat).Parent.toNat).n (fun i=>cI .i64 ((X.g (p_t.g x.toNat).Parent.toNat).g i)) (E4 [pI .i64 0] [(0,cI .i64 x)])) (fun i=>cI .i64 (((X.g (p_t.g x.toNat).Parent.toNat).push x).g i)))] (al1 ⟨rfl,Mo (c:=cI .i64) (v:=X.g (p_t.g x.toNat).Parent.toNat) (x:=x) (z:=[(pI .i64 0)]) same rfl rfl⟩ al0))
   ·exact hb2 _ [(9901,9901),(9801,9801),(9000,9000)] _ (X.g (p_t.g x.toNat).Parent.toNat) trivial h
  ·refine SR hS trivial 30 (.put 9000 9902) (⟨⟨by decide,rfl⟩,c3⟩:(1000<=9902/\X.n=X.n)/\(p_t.g x.toNat).Parent.toNat<X.n) ?_;exact hb1 _ [(9901,9902),(9000,9000)] _ (wrap .i64 (x+1)) (X.upd (p_t.g x.toNat).Parent.toNat z) trivial h (hle:=klR [(4,.ob X.n (fun q=>if q=(p_t.g x.toNat).Parent.toNat then Uy D2 1 (cI .i64) z else if q=(p_t.g x.toNat).Parent.toNat then .dead else Uy D2 1 (cI .i64) (X.g q)) fun i=>Uy D2 1 (cI .i64) ((X.upd (p_t.g x.toNat).Parent.toNat z).g i))] (al1 obPut al0))
 ·refine SR hS trivial 31 (.pub 9000) (⟨rfl,fun i _=>rfl⟩:X.n=X.n/\∀i,i<X.n->(Vh (Uy D2 1 (cI .i64) (X.g i))).isSome=true) ?_;obtain rfl:=B6 h;exact A6 hS trivial ⟨[(2,.p (vSl 1 (cL 1 (cI .i64)) X))],[]⟩ [] (ids:=[]) ⟨rfl,rfl,rfl⟩ (hle:=klR [(0,.fn X.n X.n (fun i=>[(Vh (Uy D2 1 (cI .i64) (X.g i))).getD default]) (fun i=>cL 1 (cI .i64) (X.g i)))] (al1 ⟨rfl,fun _ _=>rfl⟩ al0))
end Go.AM
namespace Go.AM
open IntKind (wrap)
open Go.Proofs
set_option maxRecDepth 10000
set_option maxHeartbeats 2000000
variable {S:X1}(hS:F4 S Tryz.prog) (hL:MF S)
include hS hL
def Au (N:Nat)(p_t:Sl J1):Option (Sl Int):=
 (T5 N p_t).bind fun y1=>
 Bj N (fun self1 (x1:Sl Int) (x2:Int)=>
  if (decide (x2<(y1.n:Int))) then
   if ((0:Int)<=x2/\x2<(y1.n:Int))then
    if (((y1.g x2.toNat).n:Int)==0) then
     if ((x1.n+(Sl.of [x2]:Sl Int).n)*8<=140737488355328/\x1.n+(Sl.of [x2]:Sl Int).n<=140737488355328)then
      self1 (x1.push x2) (wrap .i64 (x2+1))
     else none
    else
     self1 x1 (wrap .i64 (x2+1))
   else none
  else
   some x1
  ) (Sl.nil:Sl Int) 0
theorem Oc {N:Nat}{p_t:Sl J1}{y:Sl Int}(h:Au N p_t=some y) :FunO S GV [.p (vSl 2 H0 p_t)] [] (.vec 0) ([.vec D2 1 y.n (fun i=>cI .i64 (y.g i)) true]) []:=by
 unfold Au at h;refine A2 hS NB ?_;refine kC hS h (KF hS hL) (fun y1 h=>?_);refine G0 hS trivial h (fun x1 x2=>⟨[(9,pN x2),(8,pN (y1.n:Int)),(7,.p (vSl 1 (cL 1 (cI .i64)) y1)),(3,.vec 4500)],[(4500,.vec D2 1 x1.n (fun i=>cI .i64 (x1.g i)) false)]⟩) (ids:=[]) (fun _ _ _ _ _ self1 x1 x2 hb1 h=>?_);refine kI hS h (fun h=>?_) (fun h=>?_)
 ·obtain⟨c8,h⟩:=E2 h;refine D3 hS c8 (b:=((y1.g x2.toNat).n:Int)==0) (fun c9=>?_) (fun c9=>?_)
  ·replace h:=itT c9 h;obtain⟨c10,h⟩:=E2 h;exact hb1 _ [(4500,21000)] _ (x1.push x2) (wrap .i64 (x2+1)) (And.intro (rfl:true=true) c10) h (hle:=klR [(3,.fn (x1.n+1) (x1.push x2).n (AW x1.n (fun i=>cI .i64 (x1.g i)) (E4 [pI .i64 0] [(0,cI .i64 x2)])) (fun i=>cI .i64 ((x1.push x2).g i)))] (al1 ⟨rfl,Mo (c:=cI .i64) (v:=x1) (x:=x2) (z:=[(pI .i64 0)]) same rfl rfl⟩ al0))
  ·replace h:=itF c9 h;exact hb1 _ [(4500,4500)] _ x1 (wrap .i64 (x2+1)) trivial h
 ·obtain rfl:=B6 h;exact A6 hS trivial ⟨[(2,.vec 4500)],[(4500,.vec D2 1 x1.n (fun i=>cI .i64 (x1.g i)) true)]⟩ [4500] (ids:=[(4500,4500)]) ⟨rfl,rfl,rfl⟩
def Av (N:Nat)(p_t:Sl J1):Option ((Sl Int)×Int):=
 (T3 N p_t).bind fun y1=>
 if (y1 != 0) then
  some ((Sl.nil:Sl Int),y1)
 else
  (Au N p_t).bind fun y2=>
  some (y2,0)
theorem Od {N:Nat}{p_t:Sl J1}{y:(Sl Int)×Int}(h:Av N p_t=some y) :FunO S GT [.p (vSl 2 H0 p_t)] [] (.tup [.vec 0,pN y.2]) ([.vec D2 1 y.1.n (fun i=>cI .i64 (y.1.g i)) true]) []:=by
 unfold Av at h;refine A2 hS Ny ?_;refine kC hS h (IB hS hL) (fun y1 h=>?_);refine kI hS h (fun h=>?_) (fun h=>?_)
 ·obtain rfl:=B6 h;exact A6 hS trivial ⟨[(3,pN y1),(2,.vec 3700)],[(3700,.vec D2 1 (Sl.nil:Sl Int).n (fun i=>cI .i64 ((Sl.nil:Sl Int).g i)) true)]⟩ [3700] (ids:=[]) ⟨rfl,rfl,rfl⟩
 ·refine kC hS h (Oc hS hL) (fun y2 h=>?_);obtain rfl:=B6 h;exact A6 hS trivial ⟨[(3,pN 0),(2,.vec 12000)],[(12000,.vec D2 1 y2.n (fun i=>cI .i64 (y2.g i)) true)]⟩ [12000] (ids:=[(12000,12000)]) ⟨rfl,rfl,rfl⟩
def Y3 (N:Nat)(p_t:Sl J1)(p_v:Int):Option (Sl Int):=
 Bj N (fun self1 (x1:Sl Int) (x2:Int)=>
  if (decide (x2<(p_t.n:Int))) then
   if ((0:Int)<=x2/\x2<(p_t.n:Int))then
    if ((p_t.g x2.toNat).Parent==p_v) then
     if ((x1.n+(Sl.of [x2]:Sl Int).n)*8<=140737488355328/\x1.n+(Sl.of [x2]:Sl Int).n<=140737488355328)then
      self1 (x1.push x2) (wrap .i64 (x2+1))
     else none
    else
     self1 x1 (wrap .i64 (x2+1))
   else none
  else
   some x1
  ) (Sl.nil:Sl Int) 0
theorem LJ {N:Nat}{p_t:Sl J1}{p_v:Int}{y:Sl Int}(h:Y3 N p_t p_v=some y) :FunO S FL [.p (vSl 2 H0 p_t),pN p_v] [] (.vec 0) ([.vec D2 1 y.n (fun i=>cI .i64 (y.g i)) true]) []:=by
 unfold Y3 at h;refine A2 hS Ll ?_;refine G0 hS trivial h (fun x1 x2=>⟨[(6,pN x2),(5,.vec 6500),(1,pN p_v),(0,.p (vSl 2 H0 p_t))],[(6500,.vec D2 1 x1.n (fun i=>cI .i64 (x1.g i)) false)]⟩) (ids:=[]) (fun _ _ _ _ _ self1 x1 x2 hb1 h=>?_);refine kI hS h (fun h=>?_) (fun h=>?_)
 ·obtain⟨c8,h⟩:=E2 h;refine D3 hS c8 (b:=(p_t.g x2.toNat).Parent==p_v) (fun c9=>?_) (fun c9=>?_)
  ·replace h:=itT c9 h;obtain⟨c10,h⟩:=E2 h;exact hb1 _ [(6500,24000)] _ (x1.push x2) (wrap .i64 (x2+1)) (And.intro (rfl:true=true) c10) h (hle:=klR [(3,.fn (x1.n+1) (x1.push x2).n (AW x1.n (fun i=>cI .i64 (x1.g i)) (E4 [pI .i64 0] [(0,cI .i64 x2)])) (fun i=>cI .i64 ((x1.push x2).g i)))] (al1 ⟨rfl,Mo (c:=cI .i64) (v:=x1) (x:=x2) (z:=[(pI .i64 0)]) same rfl rfl⟩ al0))
  ·replace h:=itF c9 h;exact hb1 _ [(6500,6500)] _ x1 (wrap .i64 (x2+1)) trivial h
 ·obtain rfl:=B6 h;exact A6 hS trivial ⟨[(4,.vec 6500)],[(6500,.vec D2 1 x1.n (fun i=>cI .i64 (x1.g i)) true)]⟩ [6500] (ids:=[(6500,6500)]) ⟨rfl,rfl,rfl⟩
def Af (N:Nat)(p_t:Sl J1):Option ((Sl Int)×Int):=
 (Z4 N p_t).bind fun y1=>
 if (y1 != 0) then
  some ((Sl.nil:Sl Int),y1)
 else
  Bj N (fun self1 (x1:Sl Int) (x2:Int)=>
   if (decide (x2<(p_t.n:Int))) then
    (Y3 N p_t x2).bind fun y4=>
    if ((y4.n:Int)==0) then
     if ((x1.n+(Sl.of [x2]:Sl Int).n)*8<=140737488355328/\x1.n+(Sl.of [x2]:Sl Int).n<=140737488355328)then
      self1 (x1.push x2) (wrap .i64 (x2+1))
     else none
    else
     self1 x1 (wrap .i64 (x2+1))
   else
    some (x1,0)
   ) (Sl.nil:Sl Int) 0
theorem PX {N:Nat}{p_t:Sl J1}{y:(Sl Int)×Int}(h:Af N p_t=some y) :FunO S Io [.p (vSl 2 H0 p_t)] [] (.tup [.vec 0,pN y.2]) ([.vec D2 1 y.1.n (fun i=>cI .i64 (y.1.g i)) true]) []:=by
 unfold Af at h;refine A2 hS Py ?_;refine kC hS h (KC hS hL) (fun y1 h=>?_);refine kI hS h (fun h=>?_) (fun h=>?_)
 ·obtain rfl:=B6 h;exact A6 hS trivial ⟨[(3,pN y1),(2,.vec 3700)],[(3700,.vec D2 1 (Sl.nil:Sl Int).n (fun i=>cI .i64 ((Sl.nil:Sl Int).g i)) true)]⟩ [3700] (ids:=[]) ⟨rfl,rfl,rfl⟩
 ·refine G0 hS trivial h (fun x1 x2=>⟨[(6,pN x2),(5,.vec 6500),(0,.p (vSl 2 H0 p_t))],[(6500,.vec D2 1 x1.n (fun i=>cI .i64 (x1.g i)) false)]⟩) (ids:=[]) (fun _ _ _ _ _ self1 x1 x2 hb1 h=>?_);refine kI hS h (fun h=>?_) (fun h=>?_)
  ·refine kC hS h (LJ hS hL) (fun y4 h=>?_);refine kI hS h (fun h=>?_) (fun h=>?_)
   ·obtain⟨c8,h⟩:=E2 h;exact hb1 _ [(6500,27000)] _ (x1.push x2) (wrap .i64 (x2+1)) (And.intro (rfl:true=true) c8) h (hle:=klR [(2,.fn (x1.n+1) (x1.push x2).n (AW x1.n (fun i=>cI .i64 (x1.g i)) (E4 [pI .i64 0] [(0,cI .i64 x2)])) (fun i=>cI .i64 ((x1.push x2).g i)))] (al1 ⟨rfl,Mo (c:=cI .i64) (v:=x1) (x:=x2) (z:=[(pI .i64 0)]) same rfl rfl⟩ al0))
   ·exact hb1 _ [(6500,6500)] _ x1 (wrap .i64 (x2+1)) trivial h
  ·obtain rfl:=B6 h;exact A6 hS trivial ⟨[(3,pN 0),(2,.vec 6500)],[(6500,.vec D2 1 x1.n (fun i=>cI .i64 (x1.g i)) true)]⟩ [6500] (ids:=[(6500,6500)]) ⟨rfl,rfl,rfl⟩
end Go.AM
namespace Go.AM
open IntKind (wrap)
open Go.Proofs
set_option maxRecDepth 10000
set_option maxHeartbeats 2000000
variable {S:X1}(hS:F4 S Tryz.prog) (hL:MF S)
include hS hL
def F7 (N:Nat)(p_s1:Sl Int)(p_s2:Sl Int):Option Bool:=
 if ((p_s1.n:Int) != (p_s2.n:Int)) then
  some false
 else
  Az N (fun self1 (x1:Int)=>
   if (decide (x1<(p_s1.n:Int))) then
    if (((0:Int)<=x1/\x1<(p_s1.n:Int))/\((0:Int)<=x1/\x1<(p_s2.n:Int)))then
     if ((p_s1.g x1.toNat) != (p_s2.g x1.toNat)) then
      some false
     else
      self1 (wrap .i64 (x1+1))
    else none
   else
    some true
   ) 0
theorem CY {N:Nat}{p_s1:Sl Int}{p_s2:Sl Int}{y:Bool}(h:F7 N p_s1 p_s2=some y) :FunO S X5 [.p (vSl 1 (cI .i64) p_s1),.p (vSl 1 (cI .i64) p_s2)] [] (pB y) ([]) []:=by
 unfold F7 at h;refine A2 hS CK ?_;refine kI hS h (fun h=>?_) (fun h=>?_)
 ·cases h;exact kR hS
 ·refine N0 hS trivial h (fun x1=>⟨[(13,pN x1),(12,pN (p_s1.n:Int)),(1,.p (vSl 1 (cI .i64) p_s2)),(0,.p (vSl 1 (cI .i64) p_s1))],[]⟩) (ids:=[]) (fun _ _ _ _ _ self1 x1 hb1 h=>?_);refine kI hS h (fun h=>?_) (fun h=>?_)
  ·refine G8 hS trivial [2,3,6,7] ?_;obtain⟨c9,h⟩:=E2 h;refine O0 c9 ?_;refine kI hS h (fun h=>?_) (fun h=>?_)
   ·cases h;exact kR hS
   ·exact hb1 _ [] _ (wrap .i64 (x1+1)) trivial h
  ·cases h;exact kR hS
def J4 (N:Nat)(p_s1:Sl I7)(p_s2:Sl I7):Option Bool:=
 if ((p_s1.n:Int) != (p_s2.n:Int)) then
  some false
 else
  Az N (fun self1 (x1:Int)=>
   if (decide (x1<(p_s1.n:Int))) then
    if (((0:Int)<=x1/\x1<(p_s1.n:Int))/\((0:Int)<=x1/\x1<(p_s2.n:Int)))then
     if ((((p_s1.g x1.toNat).a0==(p_s2.g x1.toNat).a0)&&((p_s1.g x1.toNat).a1==(p_s2.g x1.toNat).a1)) != true) then
      some false
     else
      self1 (wrap .i64 (x1+1))
    else none
   else
    some true
   ) 0
theorem Bv {N:Nat}{p_s1:Sl I7}{p_s2:Sl I7}{y:Bool}(h:J4 N p_s1 p_s2=some y) :FunO S P9 [.p (vSl 2 N3 p_s1),.p (vSl 2 N3 p_s2)] [] (pB y) ([]) []:=by
 unfold J4 at h;refine A2 hS Bm ?_;refine kI hS h (fun h=>?_) (fun h=>?_)
 ·cases h;exact kR hS
 ·refine N0 hS trivial h (fun x1=>⟨[(13,pN x1),(12,pN (p_s1.n:Int)),(1,.p (vSl 2 N3 p_s2)),(0,.p (vSl 2 N3 p_s1))],[]⟩) (ids:=[]) (fun _ _ _ _ _ self1 x1 hb1 h=>?_);refine kI hS h (fun h=>?_) (fun h=>?_)
  ·refine G8 hS trivial [2,3,6,7] ?_;obtain⟨c9,h⟩:=E2 h;refine O0 (And.intro (And.intro (And.intro (And.intro c9.1 (by decide:(2:Nat)<=2)) c9.2) (by decide:(2:Nat)<=2)) (by decide +kernel:(!Program.eqGuardType Tryz.prog (Program.depth Tryz.prog) NQ)=true)) ?_;refine kI hS h (fun h=>?_) (fun h=>?_)
   ·cases h;exact kR hS
   ·exact hb1 _ [] _ (wrap .i64 (x1+1)) trivial h
  ·cases h;exact kR hS
def B8 (N:Nat)(p_s1:Sl Int)(p_s2:Sl Int):Option Bool:=
 if ((p_s1.n:Int) != (p_s2.n:Int)) then
  some false
 else
  Az N (fun self1 (x1:Int)=>
   if (decide (x1<(p_s1.n:Int))) then
    if (((0:Int)<=x1/\x1<(p_s1.n:Int))/\((0:Int)<=x1/\x1<(p_s2.n:Int)))then
     if ((p_s1.g x1.toNat) != (p_s2.g x1.toNat)) then
      some false
     else
      self1 (wrap .i64 (x1+1))
    else none
   else
    some true
   ) 0
theorem E8 {N:Nat}{p_s1:Sl Int}{p_s2:Sl Int}{y:Bool}(h:B8 N p_s1 p_s2=some y) :FunO S O9 [.p (vSl 1 (cI .u64) p_s1),.p (vSl 1 (cI .u64) p_s2)] [] (pB y) ([]) []:=by
 unfold B8 at h;refine A2 hS AG ?_;refine kI hS h (fun h=>?_) (fun h=>?_)
 ·cases h;exact kR hS
 ·refine N0 hS trivial h (fun x1=>⟨[(13,pN x1),(12,pN (p_s1.n:Int)),(1,.p (vSl 1 (cI .u64) p_s2)),(0,.p (vSl 1 (cI .u64) p_s1))],[]⟩) (ids:=[]) (fun _ _ _ _ _ self1 x1 hb1 h=>?_);refine kI hS h (fun h=>?_) (fun h=>?_)
  ·refine G8 hS trivial [2,3,6,7] ?_;obtain⟨c9,h⟩:=E2 h;refine O0 c9 ?_;refine kI hS h (fun h=>?_) (fun h=>?_)
   ·cases h;exact kR hS
   ·exact hb1 _ [] _ (wrap .i64 (x1+1)) trivial h
  ·cases h;exact kR hS
def P1 (N:Nat)(p_t:A3):Option Int:=
 if (0:Int)<=p_t.Langs then
  some (wrap .u64 ((shI .shl .u64 1 p_t.Langs)-1))
 else none
theorem AN {N:Nat}{p_t:A3}{y:Int}(h:P1 N p_t=some y) :FunO S Dr [.p (.agg (C7 p_t))] [] (.p (pI .u64 y)) ([]) []:=by unfold P1 at h;refine A2 hS HK ?_;obtain⟨c1,h⟩:=E2 h;obtain rfl:=B6 h;exact VZ hS c1 [] ⟨rfl,rfl,rfl⟩
def F9 (N:Nat)(p_s:Sl Int)(p_f:Int->Option Bool):Option Int:=
 Az N (fun self1 (x1:Int)=>
  if (decide (x1<(p_s.n:Int))) then
   if ((0:Int)<=x1/\x1<(p_s.n:Int))then
    (p_f (p_s.g x1.toNat)).bind fun y3=>
    if y3 then
     some x1
    else
     self1 (wrap .i64 (x1+1))
   else none
  else
   some (-1)
  ) 0
theorem Z6 {N:Nat}{p_s:Sl Int}{p_f:Int->Option Bool}{kp_f:Nat}{cp_f_0:List PV}(hp_f:∀{a0:Int}{b:Bool},p_f a0=some b->FunO S kp_f [.p (pI .u64 a0),.p (.ptr cp_f_0)] [] (pB b) [] []){y:Int}(h:F9 N p_s p_f=some y) :FunO S M0 [.p (vSl 1 (cI .u64) p_s),.clo kp_f [] [.p (.ptr cp_f_0)]] [] (pN y) ([]) []:=by
 unfold F9 at h;refine A2 hS Z2 ?_;refine N0 hS trivial h (fun x1=>⟨[(8,pN x1),(7,pN (p_s.n:Int)),(1,.clo kp_f [] [.p (.ptr cp_f_0)]),(0,.p (vSl 1 (cI .u64) p_s))],[]⟩) (ids:=[]) (fun _ _ _ _ _ self1 x1 hb1 h=>?_);refine kI hS h (fun h=>?_) (fun h=>?_)
 ·obtain⟨c8,h⟩:=E2 h;obtain⟨y3,e3,h⟩:=B5 h;refine B4 hS [] c8 (hp_f e3) ?_;refine kI hS h (fun h=>?_) (fun h=>?_)
  ·cases h;exact kR hS
  ·exact hb1 _ [] _ (wrap .i64 (x1+1)) trivial h
 ·cases h;exact kR hS
def E9 (N:Nat)(p_s:Sl Int)(p_f:Int->Option Bool):Option Bool:=
 (F9 N p_s p_f).bind fun y1=>
 some (decide (0<=y1))
theorem V7 {N:Nat}{p_s:Sl Int}{p_f:Int->Option Bool}{kp_f:Nat}{cp_f_0:List PV}(hp_f:∀{a0:Int}{b:Bool},p_f a0=some b->FunO S kp_f [.p (pI .u64 a0),.p (.ptr cp_f_0)] [] (pB b) [] []){y:Bool}(h:E9 N p_s p_f=some y) :FunO S I8 [.p (vSl 1 (cI .u64) p_s),.clo kp_f [] [.p (.ptr cp_f_0)]] [] (pB y) ([]) []:=by unfold E9 at h;refine A2 hS U2 ?_;refine kC hS h (Z6 hS hL (fun e=>hp_f e)) (fun y1 h=>?_);cases h;exact kR hS
def Co (N:Nat)(p_set:Int)(q0:A3):Option Bool:=
 (P1 N q0).bind fun y1=>
 some ((D9 .andNot .u64 p_set y1) != 0)
theorem KH {N:Nat}{p_set:Int}{q0:A3}{y:Bool}(h:Co N p_set q0=some y) :FunO S EL [.p (pI .u64 p_set),.p (.ptr [pI .i64 q0.Langs,vSl 1 (cI .u64) q0.Has])] [] (pB y) ([]) []:=by unfold Co at h;refine A2 hS JQ ?_;obtain⟨y1,e1,h⟩:=B5 h;refine B4 hS [] (by decide:(2:Nat)<=2) (AN hS hL e1) ?_;cases h;exact kR hS
def P6 (N:Nat)(p_t:A3):Option Int:=
 if ((decide (p_t.Langs<0))||(decide (32<p_t.Langs))) then
  some 3
 else
  if (decide (64<(p_t.Has.n:Int))) then
   some 12
  else
   (E9 N p_t.Has (fun (u1:Int)=>Co N u1 p_t)).bind fun y1=>
   if y1 then
    some 2
   else
    some 0
theorem Aw {N:Nat}{p_t:A3}{y:Int}(h:P6 N p_t=some y) :FunO S GR [.p (.agg (C7 p_t))] [] (pN y) ([]) []:=by
 unfold P6 at h;refine A2 hS Nw ?_;refine kB hS (A5 hS) trivial trivial 4 (.o (.a (decide (p_t.Langs<0))) (.a (decide (32<p_t.Langs)))) ?_;refine kI hS h (fun h=>?_) (fun h=>?_)
 ·cases h;exact kR hS
 ·refine kI hS h (fun h=>?_) (fun h=>?_)
  ·cases h;exact kR hS
  ·refine H9 hS trivial 17 2000 [pI .i64 p_t.Langs,vSl 1 (cI .u64) p_t.Has] ?_;refine kC hS h (V7 hS hL (fun e=>KH hS hL e)) (fun y1 h=>?_);refine kI hS h (fun h=>?_) (fun h=>?_)
   ·cases h;exact kR hS
   ·cases h;exact kR hS
def I3 (N:Nat)(q0:A3)(q1:Int->Option Bool):Option (List (Int)):=
 Az N (fun self1 (x1:Int)=>
  if (decide (x1<(q0.Has.n:Int))) then
   if ((0:Int)<=x1/\x1<(q0.Has.n:Int))then
    (q1 (q0.Has.g x1.toNat)).bind fun y3=>
    if y3 then
     Fv x1 (
      self1 (wrap .i64 (x1+1))
      )
    else
     self1 (wrap .i64 (x1+1))
   else none
  else
   some []
  ) 0
theorem T6 {N:Nat}{q0:A3}{q1:Int->Option Bool}{kq1:Nat}{cq1_0:List PV}(hq1:∀{a0:Int}{b:Bool},q1 a0=some b->FunO S kq1 [.p (pI .u64 a0),.p (.ptr cq1_0)] [] (pB b) [] []){L:List (Int)}(h:I3 N q0 q1=some L) :DH S E5 [] [.reg 0 0,.reg 1 0] [.cells [pN q0.Langs,.p (vSl 1 (cI .u64) q0.Has)],.cells [.clo kq1 [] [.p (.ptr cq1_0)]]] (L.map (fun (x:Int)=>[pI .i64 x])):=by
 unfold I3 at h;refine DL hS S0 ?_;refine EI hS trivial h (fun x1 L1=>⟨[(9,pN x1),(8,pN (q0.Has.n:Int)),(7,.p (vSl 1 (cI .u64) q0.Has)),(2,.reg 1 0),(0,.yf 2)],[(2,.yld (L1.map (fun (x:Int)=>[pI .i64 x])) true),(1,.cells [.clo kq1 [] [.p (.ptr cq1_0)]]),(0,.cells [pN q0.Langs,.p (vSl 1 (cI .u64) q0.Has)])]⟩) (ids:=[(0,0),(1,1),(2,2)]) (fun _ _ _ _ _ self1 x1 L1 hb1 h=>?_);refine kI hS h (fun h=>?_) (fun h=>?_)
 ·obtain⟨c16,h⟩:=E2 h;obtain⟨y3,e3,h⟩:=B5 h;refine B4 hS [] c16 (hq1 e3) ?_;refine kG hS h (fun h=>?_) (fun h=>?_)
  ·obtain⟨L7,rfl,hcL7⟩:=JG h;replace h:=hcL7;refine Cd hS trivial (ys:=(fun (x:Int)=>[pI .i64 x]) x1) (rest:=L7.map (fun (x:Int)=>[pI .i64 x])) ?_ ?_
   ·refine D3 hS trivial (b:=false) (fun c20=>?_) (fun c20=>?_)
    ·exact Bool.noConfusion ((rfl:false=false).symm.trans c20)
    ·exact hb1 _ [(0,0),(1,1),(2,2)] _ (wrap .i64 (x1+1)) L7 trivial h
   ·refine D3 hS trivial (b:=true) (fun c21=>?_) (fun c21=>?_)
    ·exact A6 hS trivial (a:=.tup []) (objs:=[(.cells [pN q0.Langs,.p (vSl 1 (cI .u64) q0.Has)]),.cells [.clo kq1 [] [.p (.ptr cq1_0)]],.yld [] false]) ⟨[],[(2,.yld [] false),(1,.cells [.clo kq1 [] [.p (.ptr cq1_0)]]),(0,.cells [pN q0.Langs,.p (vSl 1 (cI .u64) q0.Has)])]⟩ [0,1,2] (ids:=[(0,0),(1,1),(2,2)]) ⟨false,rfl,rfl,_,rfl⟩
    ·exact Bool.noConfusion ((rfl:true=true).symm.trans c21)
  ·exact hb1 _ [(0,0),(1,1),(2,2)] _ (wrap .i64 (x1+1)) L1 trivial h
 ·obtain rfl:=B6 h;exact A6 hS trivial (a:=.tup []) (objs:=[(.cells [pN q0.Langs,.p (vSl 1 (cI .u64) q0.Has)]),.cells [.clo kq1 [] [.p (.ptr cq1_0)]],.yld [] true]) ⟨[],[(2,.yld [] true),(1,.cells [.clo kq1 [] [.p (.ptr cq1_0)]]),(0,.cells [pN q0.Langs,.p (vSl 1 (cI .u64) q0.Has)])]⟩ [0,1,2] (ids:=[(0,0),(1,1),(2,2)]) ⟨true,rfl,rfl,_,rfl⟩
def M9 (N:Nat)(p_t:A3)(p_is:Int->Option Bool):Option (A3):=
 some p_t
theorem Z7 {N:Nat}{p_t:A3}{p_is:Int->Option Bool}{kp_is:Nat}{cp_is_0:List PV}(hp_is:∀{a0:Int}{b:Bool},p_is a0=some b->FunO S kp_is [.p (pI .u64 a0),.p (.ptr cp_is_0)] [] (pB b) [] []){y:A3}(h:M9 N p_t p_is=some y) :FunO S Z0 [.p (.agg (C7 p_t)),.clo kp_is [] [.p (.ptr cp_is_0)]] [] (.clo E5 [] [.reg 0 0,.reg 1 0]) ([.cells [pN y.Langs,.p (vSl 1 (cI .u64) y.Has)],.cells [.clo kp_is [] [.p (.ptr cp_is_0)]]]) []:=by unfold M9 at h;refine A2 hS Cf ?_;obtain rfl:=B6 h;exact A6 hS trivial ⟨[(4,.clo E5 [] [.reg 3000 0,.reg 4000 0])],[(4000,.cells [.clo kp_is [] [.p (.ptr cp_is_0)]]),(3000,.cells [pN p_t.Langs,.p (vSl 1 (cI .u64) p_t.Has)])]⟩ [3000,4000] (ids:=[(3000,3000),(4000,4000)]) ⟨rfl,rfl,rfl⟩
def Q7 (N:Nat)(q0:A3)(q1:Int->Option Bool):Option (List (Int)):=
 Az N (fun self1 (x1:Int)=>
  if (decide (x1<(q0.Has.n:Int))) then
   if ((0:Int)<=x1/\x1<(q0.Has.n:Int))then
    (q1 (q0.Has.g x1.toNat)).bind fun y3=>
    if y3 then
     Fv x1 (
      self1 (wrap .i64 (x1+1))
      )
    else
     self1 (wrap .i64 (x1+1))
   else none
  else
   some []
  ) 0
theorem Et {N:Nat}{q0:A3}{q1:Int->Option Bool}{kq1:Nat}{cq1_0 cq1_1:List PV}(hq1:∀{a0:Int}{b:Bool},q1 a0=some b->FunO S kq1 [.p (pI .u64 a0),.p (.ptr cq1_0),.p (.ptr cq1_1)] [] (pB b) [] []){L:List (Int)}(h:Q7 N q0 q1=some L) :DH S E5 [] [.reg 0 0,.reg 1 0] [.cells [pN q0.Langs,.p (vSl 1 (cI .u64) q0.Has)],.cells [.clo kq1 [] [.p (.ptr cq1_0),.p (.ptr cq1_1)]]] (L.map (fun (x:Int)=>[pI .i64 x])):=by
 unfold Q7 at h;refine DL hS S0 ?_;refine EI hS trivial h (fun x1 L1=>⟨[(9,pN x1),(8,pN (q0.Has.n:Int)),(7,.p (vSl 1 (cI .u64) q0.Has)),(2,.reg 1 0),(0,.yf 2)],[(2,.yld (L1.map (fun (x:Int)=>[pI .i64 x])) true),(1,.cells [.clo kq1 [] [.p (.ptr cq1_0),.p (.ptr cq1_1)]]),(0,.cells [pN q0.Langs,.p (vSl 1 (cI .u64) q0.Has)])]⟩) (ids:=[(0,0),(1,1),(2,2)]) (fun _ _ _ _ _ self1 x1 L1 hb1 h=>?_);refine kI hS h (fun h=>?_) (fun h=>?_)
 ·obtain⟨c16,h⟩:=E2 h;obtain⟨y3,e3,h⟩:=B5 h;refine B4 hS [] c16 (hq1 e3) ?_;refine kG hS h (fun h=>?_) (fun h=>?_)
  ·obtain⟨L7,rfl,hcL7⟩:=JG h;replace h:=hcL7;refine Cd hS trivial (ys:=(fun (x:Int)=>[pI .i64 x]) x1) (rest:=L7.map (fun (x:Int)=>[pI .i64 x])) ?_ ?_
   ·refine D3 hS trivial (b:=false) (fun c20=>?_) (fun c20=>?_)
    ·exact Bool.noConfusion ((rfl:false=false).symm.trans c20)
    ·exact hb1 _ [(0,0),(1,1),(2,2)] _ (wrap .i64 (x1+1)) L7 trivial h
   ·refine D3 hS trivial (b:=true) (fun c21=>?_) (fun c21=>?_)
    ·exact A6 hS trivial (a:=.tup []) (objs:=[(.cells [pN q0.Langs,.p (vSl 1 (cI .u64) q0.Has)]),.cells [.clo kq1 [] [.p (.ptr cq1_0),.p (.ptr cq1_1)]],.yld [] false]) ⟨[],[(2,.yld [] false),(1,.cells [.clo kq1 [] [.p (.ptr cq1_0),.p (.ptr cq1_1)]]),(0,.cells [pN q0.Langs,.p (vSl 1 (cI .u64) q0.Has)])]⟩ [0,1,2] (ids:=[(0,0),(1,1),(2,2)]) ⟨false,rfl,rfl,_,rfl⟩
    ·exact Bool.noConfusion ((rfl:true=true).symm.trans c21)
  ·exact hb1 _ [(0,0),(1,1),(2,2)] _ (wrap .i64 (x1+1)) L1 trivial h
 ·obtain rfl:=B6 h;exact A6 hS trivial (a:=.tup []) (objs:=[(.cells [pN q0.Langs,.p (vSl 1 (cI .u64) q0.Has)]),.cells [.clo kq1 [] [.p (.ptr cq1_0),.p (.ptr cq1_1)]],.yld [] true]) ⟨[],[(2,.yld [] true),(1,.cells [.clo kq1 [] [.p (.ptr cq1_0),.p (.ptr cq1_1)]]),(0,.cells [pN q0.Langs,.p (vSl 1 (cI .u64) q0.Has)])]⟩ [0,1,2] (ids:=[(0,0),(1,1),(2,2)]) ⟨true,rfl,rfl,_,rfl⟩
def W9 (N:Nat)(p_t:A3)(p_is:Int->Option Bool):Option (A3):=
 some p_t
theorem Fw {N:Nat}{p_t:A3}{p_is:Int->Option Bool}{kp_is:Nat}{cp_is_0 cp_is_1:List PV}(hp_is:∀{a0:Int}{b:Bool},p_is a0=some b->FunO S kp_is [.p (pI .u64 a0),.p (.ptr cp_is_0),.p (.ptr cp_is_1)] [] (pB b) [] []){y:A3}(h:W9 N p_t p_is=some y) :FunO S Z0 [.p (.agg (C7 p_t)),.clo kp_is [] [.p (.ptr cp_is_0),.p (.ptr cp_is_1)]] [] (.clo E5 [] [.reg 0 0,.reg 1 0]) ([.cells [pN y.Langs,.p (vSl 1 (cI .u64) y.Has)],.cells [.clo kp_is [] [.p (.ptr cp_is_0),.p (.ptr cp_is_1)]]]) []:=by unfold W9 at h;refine A2 hS Cf ?_;obtain rfl:=B6 h;exact A6 hS trivial ⟨[(4,.clo E5 [] [.reg 3000 0,.reg 4000 0])],[(4000,.cells [.clo kp_is [] [.p (.ptr cp_is_0),.p (.ptr cp_is_1)]]),(3000,.cells [pN p_t.Langs,.p (vSl 1 (cI .u64) p_t.Has)])]⟩ [3000,4000] (ids:=[(3000,3000),(4000,4000)]) ⟨rfl,rfl,rfl⟩
def Y6 (N:Nat)(p_set:Int)(q0:A3):Option Bool:=
 lt (fun (z1:Bool)=>
  some z1
  ) fun k1=>
  if ((D9 .and .u64 p_set (wrap .u64 (p_set-1))) != 0) then
   (P1 N q0).bind fun y2=>
   k1 (p_set != y2)
  else
   k1 false
theorem Eo {N:Nat}{p_set:Int}{q0:A3}{y:Bool}(h:Y6 N p_set q0=some y) :FunO S Eh [.p (pI .u64 p_set),.p (.ptr [pI .i64 q0.Langs,vSl 1 (cI .u64) q0.Has])] [] (pB y) ([]) []:=by
 unfold Y6 at h;refine A2 hS IH ?_;refine IW hS trivial (A5 hS) h 0 (fun z1=>⟨[(3,pB z1)],[]⟩) (fun M1 k1 hb1 h=>?_) (fun z1 h=>?_)
 ·refine kG hS h (fun h=>?_) (fun h=>?_)
  ·obtain⟨y2,e2,h⟩:=B5 h;refine B4 hS [] (by decide:(2:Nat)<=2) (AN hS hL e2) ?_;exact hb1 _ [] _ (p_set != y2) trivial h
  ·exact hb1 _ [] _ false trivial h
 ·cases h;exact kR hS
def Gq (N:Nat)(p_x:Int)(p_y:Int):Option Bool:=
 some ((((D9 .and .u64 p_x p_y)==0)||((D9 .andNot .u64 p_x p_y)==0))||((D9 .andNot .u64 p_y p_x)==0))
theorem RL {N:Nat}{p_x:Int}{p_y:Int}{y:Bool}(h:Gq N p_x p_y=some y) :FunO S JP [.p (pI .u64 p_x),.p (pI .u64 p_y)] [] (pB y) ([]) []:=by unfold Gq at h;refine A2 hS Rd ?_;refine kB hS (A5 hS) trivial trivial 11 (.o (.o (.a ((D9 .and .u64 p_x p_y)==0)) (.a ((D9 .andNot .u64 p_x p_y)==0))) (.a ((D9 .andNot .u64 p_y p_x)==0))) ?_;cases h;exact kR hS
def P7 (N:Nat)(p_y:Int)(q0:Int):Option Bool:=
 (Gq N q0 p_y).bind fun y1=>
 some (!y1)
theorem Cp {N:Nat}{p_y:Int}{q0:Int}{y:Bool}(h:P7 N p_y q0=some y) :FunO S Cg [.p (pI .u64 p_y),.p (.ptr [pI .u64 q0])] [] (pB y) ([]) []:=by unfold P7 at h;refine A2 hS Gh ?_;refine kC hS h (RL hS hL) (fun y1 h=>?_);cases h;exact kR hS
def J5 (N:Nat)(p_s:Sl Int)(p_f:Int->Option Bool):Option Int:=
 Az N (fun self1 (x1:Int)=>
  if (decide (x1<(p_s.n:Int))) then
   if ((0:Int)<=x1/\x1<(p_s.n:Int))then
    (p_f (p_s.g x1.toNat)).bind fun y3=>
    if y3 then
     some x1
    else
     self1 (wrap .i64 (x1+1))
   else none
  else
   some (-1)
  ) 0
theorem Bw {N:Nat}{p_s:Sl Int}{p_f:Int->Option Bool}{kp_f:Nat}{cp_f_0:List PV}(hp_f:∀{a0:Int}{b:Bool},p_f a0=some b->FunO S kp_f [pN a0,.p (.ptr cp_f_0)] [] (pB b) [] []){y:Int}(h:J5 N p_s p_f=some y) :FunO S Q1 [.p (vSl 1 (cI .i64) p_s),.clo kp_f [] [.p (.ptr cp_f_0)]] [] (pN y) ([]) []:=by
 unfold J5 at h;refine A2 hS Bo ?_;refine N0 hS trivial h (fun x1=>⟨[(8,pN x1),(7,pN (p_s.n:Int)),(1,.clo kp_f [] [.p (.ptr cp_f_0)]),(0,.p (vSl 1 (cI .i64) p_s))],[]⟩) (ids:=[]) (fun _ _ _ _ _ self1 x1 hb1 h=>?_);refine kI hS h (fun h=>?_) (fun h=>?_)
 ·obtain⟨c8,h⟩:=E2 h;obtain⟨y3,e3,h⟩:=B5 h;refine B4 hS [] c8 (hp_f e3) ?_;refine kI hS h (fun h=>?_) (fun h=>?_)
  ·cases h;exact kR hS
  ·exact hb1 _ [] _ (wrap .i64 (x1+1)) trivial h
 ·cases h;exact kR hS
def E3 (N:Nat)(p_s:Sl Int)(p_f:Int->Option Bool):Option Bool:=
 (J5 N p_s p_f).bind fun y1=>
 some (decide (0<=y1))
theorem O4 {N:Nat}{p_s:Sl Int}{p_f:Int->Option Bool}{kp_f:Nat}{cp_f_0:List PV}(hp_f:∀{a0:Int}{b:Bool},p_f a0=some b->FunO S kp_f [pN a0,.p (.ptr cp_f_0)] [] (pB b) [] []){y:Bool}(h:E3 N p_s p_f=some y) :FunO S O3 [.p (vSl 1 (cI .i64) p_s),.clo kp_f [] [.p (.ptr cp_f_0)]] [] (pB y) ([]) []:=by unfold E3 at h;refine A2 hS AB ?_;refine kC hS h (Bw hS hL (fun e=>hp_f e)) (fun y1 h=>?_);cases h;exact kR hS
def N7 (N:Nat)(p_a:Int)(q0:A3):Option Bool:=
 some ((decide (p_a<0))||(decide (q0.Langs<=p_a)))
theorem Bg {N:Nat}{p_a:Int}{q0:A3}{y:Bool}(h:N7 N p_a q0=some y) :FunO S AZ [pN p_a,.p (.ptr [pI .i64 q0.Langs,vSl 1 (cI .u64) q0.Has])] [] (pB y) ([]) []:=by unfold N7 at h;refine A2 hS EQ ?_;refine kB hS (A5 hS) trivial trivial 5 (.o (.a (decide (p_a<0))) (.a (decide (q0.Langs<=p_a)))) ?_;cases h;exact kR hS
def Z8 (N:Nat)(p_t:A3)(p_is:Int->Option Bool)(p_languages:Sl Int):Option (Int×Int):=
 (P6 N p_t).bind fun y1=>
 if (y1 != 0) then
  some (0,y1)
 else
  (E3 N p_languages (fun (u1:Int)=>N7 N u1 p_t)).bind fun y2=>
  if y2 then
   some (0,3)
  else
   (M9 N p_t p_is).bind fun y3=>
   (I3 N y3 p_is).bind fun L1=>
   Y9 L1 (fun self1 (x1:Int) (z1:Int)=>
    self1 (wrap .i64 (z1+1))
    ) (fun (z1:Int)=>
     some (z1,0)
    ) 0
theorem Gr {N:Nat}{p_t:A3}{p_is:Int->Option Bool}{p_languages:Sl Int}{kp_is:Nat}{cp_is_0:List PV}(hp_is:∀{a0:Int}{b:Bool},p_is a0=some b->FunO S kp_is [.p (pI .u64 a0),.p (.ptr cp_is_0)] [] (pB b) [] []){y:Int×Int}(h:Z8 N p_t p_is p_languages=some y) :FunO S Z1 [.p (.agg (C7 p_t)),.clo kp_is [] [.p (.ptr cp_is_0)],.p (vSl 1 (cI .i64) p_languages)] [] (.tup [pN y.1,pN y.2]) ([]) []:=by
 unfold Z8 at h;refine A2 hS Ch ?_;refine kC hS h (Aw hS hL) (fun y1 h=>?_);refine kI hS h (fun h=>?_) (fun h=>?_)
 ·cases h;exact kR hS
 ·refine H9 hS trivial 16 4000 [pI .i64 p_t.Langs,vSl 1 (cI .u64) p_t.Has] ?_;refine kC hS h (O4 hS hL (fun e=>Bg hS hL e)) (fun y2 h=>?_);refine kI hS h (fun h=>?_) (fun h=>?_)
  ·cases h;exact kR hS
  ·obtain⟨y3,e3,h⟩:=B5 h;refine B4 hS [] (by decide:(2:Nat)<=2) (Z7 hS hL (fun e=>hp_is e) e3) ?_;obtain⟨L1,e4,h⟩:=B5 h;refine DM hS trivial [21000,21001] [9] 901 (fun z1=>⟨[(9,.reg 10000 0)],[(10000,.cells [pN z1])]⟩) (idl:=[(10000,10000)]) h (T6 hS hL (fun e=>hp_is e) e4) (fun _=>by kernel_rfl) (fun _=>by kernel_rfl) (fun _=>by kernel_rfl) (fun _=>by kernel_rfl) (fun x1 _ self1 z1 hb1 h=>?_) (fun z1 h=>?_)
   ·refine GP hS trivial ?_;exact hb1 _ [(901,901),(10000,10000)] _ (wrap .i64 (z1+1)) trivial h
   ·cases h;exact kR hS
def X0 (N:Nat)(p_t:A3)(p_is:Int->Option Bool)(p_languages:Sl Int):Option (Int×Int):=
 (P6 N p_t).bind fun y1=>
 if (y1 != 0) then
  some (0,y1)
 else
  (E3 N p_languages (fun (u1:Int)=>N7 N u1 p_t)).bind fun y2=>
  if y2 then
   some (0,3)
  else
   (W9 N p_t p_is).bind fun y3=>
   (Q7 N y3 p_is).bind fun L1=>
   Y9 L1 (fun self1 (x1:Int) (z1:Int)=>
    self1 (wrap .i64 (z1+1))
    ) (fun (z1:Int)=>
     some (z1,0)
    ) 0
theorem Fx {N:Nat}{p_t:A3}{p_is:Int->Option Bool}{p_languages:Sl Int}{kp_is:Nat}{cp_is_0 cp_is_1:List PV}(hp_is:∀{a0:Int}{b:Bool},p_is a0=some b->FunO S kp_is [.p (pI .u64 a0),.p (.ptr cp_is_0),.p (.ptr cp_is_1)] [] (pB b) [] []){y:Int×Int}(h:X0 N p_t p_is p_languages=some y) :FunO S Z1 [.p (.agg (C7 p_t)),.clo kp_is [] [.p (.ptr cp_is_0),.p (.ptr cp_is_1)],.p (vSl 1 (cI .i64) p_languages)] [] (.tup [pN y.1,pN y.2]) ([]) []:=by
 unfold X0 at h;refine A2 hS Ch ?_;refine kC hS h (Aw hS hL) (fun y1 h=>?_);refine kI hS h (fun h=>?_) (fun h=>?_)
 ·cases h;exact kR hS
 ·refine H9 hS trivial 16 4000 [pI .i64 p_t.Langs,vSl 1 (cI .u64) p_t.Has] ?_;refine kC hS h (O4 hS hL (fun e=>Bg hS hL e)) (fun y2 h=>?_);refine kI hS h (fun h=>?_) (fun h=>?_)
  ·cases h;exact kR hS
  ·obtain⟨y3,e3,h⟩:=B5 h;refine B4 hS [] (by decide:(2:Nat)<=2) (Fw hS hL (fun e=>hp_is e) e3) ?_;obtain⟨L1,e4,h⟩:=B5 h;refine DM hS trivial [21000,21001] [9] 901 (fun z1=>⟨[(9,.reg 10000 0)],[(10000,.cells [pN z1])]⟩) (idl:=[(10000,10000)]) h (Et hS hL (fun e=>hp_is e) e4) (fun _=>by kernel_rfl) (fun _=>by kernel_rfl) (fun _=>by kernel_rfl) (fun _=>by kernel_rfl) (fun x1 _ self1 z1 hb1 h=>?_) (fun z1 h=>?_)
   ·refine GP hS trivial ?_;exact hb1 _ [(901,901),(10000,10000)] _ (wrap .i64 (z1+1)) trivial h
   ·cases h;exact kR hS
def Bx (N:Nat)(p_set:Int)(q0:Int)(q1:Int):Option Bool:=
 if (0:Int)<=q0 then
  if (((D9 .and .u64 (shI .shr .u64 p_set q0) 1)==1)=true->(0:Int)<=q1)then
   some (((D9 .and .u64 (shI .shr .u64 p_set q0) 1)==1)&&((D9 .and .u64 (shI .shr .u64 p_set q1) 1)==1))
  else none
 else none
theorem IR {N:Nat}{p_set:Int}{q0:Int}{q1:Int}{y:Bool}(h:Bx N p_set q0 q1=some y) :FunO S Bn [.p (pI .u64 p_set),.p (.ptr [pI .i64 q0]),.p (.ptr [pI .i64 q1])] [] (pB y) ([]) []:=by unfold Bx at h;refine A2 hS II ?_;obtain⟨c1,h⟩:=E2 h;obtain⟨c2,h⟩:=E2 h;refine kB hS (A5 hS) c1 c2 6 (.n (.a ((D9 .and .u64 (shI .shr .u64 p_set q0) 1)==1)) (.a ((D9 .and .u64 (shI .shr .u64 p_set q1) 1)==1))) ?_;cases h;exact kR hS
def Ec (N:Nat)(p_set:Int)(q0:Int):Option Bool:=
 if (0:Int)<=q0 then
  some (p_set==(shI .shl .u64 1 q0))
 else none
theorem Oe {N:Nat}{p_set:Int}{q0:Int}{y:Bool}(h:Ec N p_set q0=some y) :FunO S DP [.p (pI .u64 p_set),.p (.ptr [pI .i64 q0])] [] (pB y) ([]) []:=by unfold Ec at h;refine A2 hS NA ?_;obtain⟨c1,h⟩:=E2 h;obtain rfl:=B6 h;exact VZ hS c1 [] ⟨rfl,rfl,rfl⟩
def CZ (N:Nat)(p_t:A3)(p_a:Int)(p_b:Int):Option (Int×Int):=
 (X0 N p_t (fun (u1:Int)=>Bx N u1 p_a p_b) (Sl.of [p_a,p_b]:Sl Int)).bind fun y1=>
 some (y1.1,y1.2)
theorem LK {N:Nat}{p_t:A3}{p_a:Int}{p_b:Int}{y:Int×Int}(h:CZ N p_t p_a p_b=some y) :FunO S FF [.p (.agg (C7 p_t)),pN p_a,pN p_b] [] (.tup [pN y.1,pN y.2]) ([]) []:=by unfold CZ at h;refine A2 hS Lf ?_;refine H9 hS trivial 9 5000 [pI .i64 p_a] ?_;refine H9 hS trivial 9 6000 [pI .i64 p_b] ?_;refine Cw hS (rfl:true=true) ⟨[(12,.vec 13000),(9,.clo Bn [] [.p (.ptr [pI .i64 p_a]),.p (.ptr [pI .i64 p_b])]),(8,.p (.agg (C7 p_t)))],[(13000,.vec D2 1 (Sl.of [p_a,p_b]:Sl Int).n (fun i=>cI .i64 ((Sl.of [p_a,p_b]:Sl Int).g i)) false)]⟩ (ids:=[(13000,13000)]) ?_ (hle:=klR [(4,.fn 2 (Sl.of [p_a,p_b]:Sl Int).n (E4 [pI .i64 0] [(0,cI .i64 p_a),(1,cI .i64 p_b)]) (fun i=>cI .i64 ((Sl.of [p_a,p_b]:Sl Int).g i)))] (al1 ⟨rfl,(fun i hi=>match i,hi with|0,_=>rfl|1,_=>rfl|_+2,hi=>absurd hi (by omega))⟩ al0));refine kC hS h (Fx hS hL (fun e=>IR hS hL e)) (fun y1 h=>?_);cases h;exact kR hS
def KI (N:Nat)(p_t:A3)(p_a:Int):Option (Int×Int):=
 (Z8 N p_t (fun (u1:Int)=>Ec N u1 p_a) (Sl.of [p_a]:Sl Int)).bind fun y1=>
 some (y1.1,y1.2)
theorem Ab0 {N:Nat}{p_t:A3}{p_a:Int}{y:Int×Int}(h:KI N p_t p_a=some y) :FunO S JN [.p (.agg (C7 p_t)),pN p_a] [] (.tup [pN y.1,pN y.2]) ([]) []:=by unfold KI at h;refine A2 hS Rb ?_;refine H9 hS trivial 7 4000 [pI .i64 p_a] ?_;refine Cw hS (rfl:true=true) ⟨[(9,.vec 10000),(7,.clo DP [] [.p (.ptr [pI .i64 p_a])]),(6,.p (.agg (C7 p_t)))],[(10000,.vec D2 1 (Sl.of [p_a]:Sl Int).n (fun i=>cI .i64 ((Sl.of [p_a]:Sl Int).g i)) false)]⟩ (ids:=[(10000,10000)]) ?_ (hle:=klR [(3,.fn 1 (Sl.of [p_a]:Sl Int).n (E4 [pI .i64 0] [(0,cI .i64 p_a)]) (fun i=>cI .i64 ((Sl.of [p_a]:Sl Int).g i)))] (al1 ⟨rfl,(fun i hi=>match i,hi with|0,_=>rfl|_+1,hi=>absurd hi (by omega))⟩ al0));refine kC hS h (Gr hS hL (fun e=>Oe hS hL e)) (fun y1 h=>?_);cases h;exact kR hS
def AO (N:Nat)(p_t:A3):Option ((Sl I7)×Int):=
 (P6 N p_t).bind fun y1=>
 if (y1 != 0) then
  some ((Sl.nil:Sl I7),y1)
 else
  Bj N (fun self3 (x3:Sl I7) (x4:Int)=>
   if (decide (x4<(p_t.Has.n:Int))) then
    if ((0:Int)<=x4/\x4<(p_t.Has.n:Int))then
     (M9 N p_t (fun (u5:Int)=>P7 N u5 (p_t.Has.g x4.toNat))).bind fun y4=>
     (I3 N y4 (fun (u6:Int)=>P7 N u6 (p_t.Has.g x4.toNat))).bind fun L3=>
     Y9 L3 (fun self4 (x7:Int) (z3:Sl I7)=>
      if (decide (x4<x7)) then
       if ((z3.n+(Sl.of [(⟨x4,x7⟩:I7)]:Sl I7).n)*16<=140737488355328/\z3.n+(Sl.of [(⟨x4,x7⟩:I7)]:Sl I7).n<=140737488355328)then
        self4 (z3.push (⟨x4,x7⟩:I7))
       else none
      else
       self4 z3
      ) (fun (z3:Sl I7)=>
       self3 z3 (wrap .i64 (x4+1))
      ) x3
    else none
   else
    some (x3,0)
   ) (Sl.nil:Sl I7) 0
theorem HR {N:Nat}{p_t:A3}{y:(Sl I7)×Int}(h:AO N p_t=some y) :FunO S Dq [.p (.agg (C7 p_t))] [] (.tup [.p (vSl 2 N3 y.1),pN y.2]) ([]) []:=by
 unfold AO at h;refine A2 hS HJ ?_;refine kC hS h (Aw hS hL) (fun y1 h=>?_);refine kI hS h (fun h=>?_) (fun h=>?_)
 ·obtain rfl:=B6 h;exact A6 hS trivial ⟨[(3,pN y1),(2,.p (vSl 2 N3 (Sl.nil:Sl I7)))],[]⟩ [] (ids:=[]) ⟨rfl,rfl,rfl⟩
 ·refine G0 hS trivial h (fun x3 x4=>⟨[(17,pN x4),(16,pN (p_t.Has.n:Int)),(15,.p (vSl 1 (cI .u64) p_t.Has)),(5,.reg 6000 0),(1,.reg 2000 0)],[(6501,.vec NQ 2 x3.n (fun i=>N3 (x3.g i)) false),(6000,.cells [.vec 6501]),(2000,.cells [pN p_t.Langs,.p (vSl 1 (cI .u64) p_t.Has)])]⟩) (ids:=[(2000,2000),(6000,6000)]) (fun _ _ _ _ _ self3 x3 x4 hb3 h=>?_);refine kI hS h (fun h=>?_) (fun h=>?_)
  ·obtain⟨c15,h⟩:=E2 h;refine H9 hS c15 23 8000 [pI .u64 (p_t.Has.g x4.toNat)] ?_;refine kC hS h (Z7 hS hL (fun e=>Cp hS hL e)) (fun y4 h=>?_);obtain⟨L3,e7,h⟩:=B5 h;refine DM hS trivial [25000,25001] [17,16,15,6,5,1] 905 (fun z3=>⟨[(17,pN x4),(16,pN (p_t.Has.n:Int)),(15,.p (vSl 1 (cI .u64) p_t.Has)),(6,.reg 7000 0),(5,.reg 6000 0),(1,.reg 2000 0)],[(7000,.cells [pN x4]),(6500,.vec NQ 2 z3.n (fun i=>N3 (z3.g i)) false),(6000,.cells [.vec 6500]),(2000,.cells [pN p_t.Langs,.p (vSl 1 (cI .u64) p_t.Has)])]⟩) (idl:=[(2000,2000),(6000,6000),(6500,6501),(7000,7000)]) h (T6 hS hL (fun e=>Cp hS hL e) e7) (fun _=>by kernel_rfl) (fun _=>by kernel_rfl) (fun _=>by kernel_rfl) (fun _=>by kernel_rfl) (fun x7 _ self4 z3 hb4 h=>?_) (fun z3 h=>?_)
   ·refine GP hS trivial ?_;refine kI hS h (fun h=>?_) (fun h=>?_)
    ·obtain⟨c19,h⟩:=E2 h;exact hb4 _ [(905,905),(2000,2000),(6000,6000),(6500,35000),(7000,7000)] _ (z3.push (⟨x4,x7⟩:I7)) (And.intro (rfl:true=true) c19) h (hle:=klR [(1,.fn (z3.n+1) (z3.push (⟨x4,x7⟩:I7)).n (AW z3.n (fun i=>N3 (z3.g i)) (E4 [pI .i64 0,pI .i64 0] [(0,N3 (⟨x4,x7⟩:I7))])) (fun i=>N3 ((z3.push (⟨x4,x7⟩:I7)).g i)))] (al1 ⟨rfl,Mo (c:=N3) (v:=z3) (x:=(⟨x4,x7⟩:I7)) (z:=[(pI .i64 0),pI .i64 0]) same rfl rfl⟩ al0))
    ·exact hb4 _ [(905,905),(2000,2000),(6000,6000),(6500,6500),(7000,7000)] _ z3 trivial h
   ·exact hb3 _ [(2000,2000),(6000,6000),(6501,6500)] _ z3 (wrap .i64 (x4+1)) trivial h
  ·obtain rfl:=B6 h;exact A6 hS trivial ⟨[(3,pN 0),(2,.p (vSl 2 N3 x3))],[]⟩ [] (ids:=[]) ⟨rfl,rfl,rfl⟩
def Fe (N:Nat)(p_t:A3)(p_some:Int):Option (A3×Int):=
 (P6 N p_t).bind fun y1=>
 if (y1 != 0) then
  some ((⟨0,(Sl.nil:Sl Int)⟩:A3),y1)
 else
  (P1 N p_t).bind fun y2=>
  if ((D9 .andNot .u64 p_some y2) != 0) then
   some ((⟨0,(Sl.nil:Sl Int)⟩:A3),2)
  else
   Ac5 N (fun self1 (x1:Nat->Int) (x2:Int) (x3:Int)=>
    if (x3 != 0) then
     (M4 N x3).bind fun y5=>
     if (((0:Int)<=x2/\x2<32)/\(0+x2.toNat*1)<32)then
      self1 (IY x1 (0+x2.toNat*1) y5) (wrap .i64 (x2+1)) (D9 .and .u64 x3 (wrap .u64 (x3-1)))
     else none
    else
     Bj N (fun self4 (x6:Sl Int) (x7:Int)=>
      if (decide (x7<(p_t.Has.n:Int))) then
       if (((0:Int)<=x7/\x7<(p_t.Has.n:Int))/\((0:Int)<=x2/\x2<=((32:Nat):Int)))then
        Bj N (fun self5 (x10:Int) (x11:Int)=>
         if (decide (x11<((⟨x2.toNat,x1⟩:Sl Int).n:Int))) then
          if ((((0:Int)<=x11/\x11<((⟨x2.toNat,x1⟩:Sl Int).n:Int))/\(0:Int)<=((⟨x2.toNat,x1⟩:Sl Int).g x11.toNat))/\(0:Int)<=x11)then
           self5 (D9 .or .u64 x10 (shI .shl .u64 (D9 .and .u64 (shI .shr .u64 (p_t.Has.g x7.toNat) ((⟨x2.toNat,x1⟩:Sl Int).g x11.toNat)) 1) x11)) (wrap .i64 (x11+1))
          else none
         else
          if ((x6.n+(Sl.of [x10]:Sl Int).n)*8<=140737488355328/\x6.n+(Sl.of [x10]:Sl Int).n<=140737488355328)then
           self4 (x6.push x10) (wrap .i64 (x7+1))
          else none
         ) 0 0
       else none
      else
       some ((⟨x2,x6⟩:A3),0)
      ) (Sl.nil:Sl Int) 0
    ) (fun _=>0) 0 p_some
theorem PY {N:Nat}{p_t:A3}{p_some:Int}{y:A3×Int}(h:Fe N p_t p_some=some y) :FunO S Il [.p (.agg (C7 p_t)),.p (pI .u64 p_some)] [] (.tup [.p (.agg (C7 y.1)),pN y.2]) ([]) []:=by
 unfold Fe at h;refine A2 hS Pw ?_;refine H9 hS trivial 4 3000 [pI .i64 p_t.Langs,vSl 1 (cI .u64) p_t.Has] ?_;obtain⟨y1,e1,h⟩:=B5 h;refine B4 hS [] (by decide:(2:Nat)<=2) (Aw hS hL e1) ?_;refine kI hS h (fun h=>?_) (fun h=>?_)
 ·obtain rfl:=B6 h;exact A6 hS trivial ⟨[(5,pN y1),(4,.reg 5000 0)],[(5000,.cells [pN 0,.p (vSl 1 (cI .u64) (Sl.nil:Sl Int))])]⟩ [] (ids:=[(5000,5000)]) ⟨rfl,rfl,rfl⟩
 ·obtain⟨y2,e2,h⟩:=B5 h;refine B4 hS [] (by decide:(2:Nat)<=2) (AN hS hL e2) ?_;refine kI hS h (fun h=>?_) (fun h=>?_)
  ·obtain rfl:=B6 h;exact A6 hS trivial ⟨[(5,pN 2),(4,.reg 5000 0)],[(5000,.cells [pN 0,.p (vSl 1 (cI .u64) (Sl.nil:Sl Int))])]⟩ [] (ids:=[(5000,5000)]) ⟨rfl,rfl,rfl⟩
  ·refine SL hS trivial h (fun x1 x2 x3=>⟨[(9,.p (pI .u64 x3)),(8,.reg 9000 0),(7,.reg 8000 0),(4,.reg 5000 0),(2,.p (.ptr [pI .i64 p_t.Langs,vSl 1 (cI .u64) p_t.Has]))],[(9000,.cells [pN x2,.p H7]),(8000,.arr 32 (fun i=>pI .i64 (x1 i))),(5000,.cells [pN 0,.p H7])]⟩) (ids:=[(5000,5000),(8000,8000),(9000,9000)]) (fun _ _ _ _ _ self1 x1 x2 x3 hb1 h=>?_) (hle:=klR [(4,.fn 32 32 (fun i=>[(fun i=>(List.replicate 32 (pI .i64 0)).getD i default) i]) (fun i=>[pI .i64 ((fun _=>0) i)]))] (al1 ⟨rfl,Ap (z:=pI .i64 0) rfl⟩ al0));refine kI hS h (fun h=>?_) (fun h=>?_)
   ·refine G8 hS trivial [3] ?_;obtain⟨y5,e5,h⟩:=B5 h;refine BA trivial (S1 hS hL e5) ?_;obtain⟨c8,h⟩:=E2 h;refine O0 c8 ?_;exact hb1 _ [(5000,5000),(8000,8000),(9000,9000)] _ (IY x1 (0+x2.toNat*1) y5) (wrap .i64 (x2+1)) (D9 .and .u64 x3 (wrap .u64 (x3-1))) trivial h (hle:=klR [(4,.fn 32 32 (fun i=>[(fun i=>if i=(0+x2.toNat*1)then (pI .i64 y5)else (fun i=>pI .i64 (x1 i)) i) i]) (fun i=>[pI .i64 (IY x1 (0+x2.toNat*1) y5 i)]))] (al1 ⟨rfl,YQ (c:=pI .i64) (v:=x1) (x:=y5) (fun _ _=>rfl) rfl⟩ al0))
   ·refine Ah7 hS trivial 44 8000 32 (fun i=>pI .i64 (x1 i)) ?_;refine G0 hS trivial h (fun x6 x7=>⟨[(47,pN x7),(46,pN (p_t.Has.n:Int)),(45,.p (vSl 1 (cI .u64) p_t.Has)),(8,.reg 9000 0),(7,.p (.ptr (Aj 32 (fun i=>pI .i64 (x1 i))))),(4,.reg 5000 0)],[(9500,.vec P5 1 x6.n (fun i=>cI .u64 (x6.g i)) false),(9000,.cells [pN x2,.vec 9500]),(5000,.cells [pN 0,.p H7])]⟩) (ids:=[(5000,5000),(9000,9000)]) (fun _ _ _ _ _ self4 x6 x7 hb4 h=>?_);refine kI hS h (fun h=>?_) (fun h=>?_)
    ·obtain⟨c22,h⟩:=E2 h;refine G0 hS c22 h (fun x10 x11=>⟨[(55,pN x11),(54,pN ((⟨x2.toNat,x1⟩:Sl Int).n:Int)),(53,.p (vSl 1 (cI .i64) (⟨x2.toNat,x1⟩:Sl Int))),(47,pN x7),(46,pN (p_t.Has.n:Int)),(45,.p (vSl 1 (cI .u64) p_t.Has)),(12,.p (pI .u64 x10)),(11,.p (pI .u64 (p_t.Has.g x7.toNat))),(8,.reg 9000 0),(7,.p (.ptr (Aj 32 (fun i=>pI .i64 (x1 i))))),(4,.reg 5000 0)],[(9500,.vec P5 1 x6.n (fun i=>cI .u64 (x6.g i)) false),(9000,.cells [pN x2,.vec 9500]),(5000,.cells [pN 0,.p H7])]⟩) (ids:=[(5000,5000),(9000,9000),(9500,9500)]) (fun _ _ _ _ _ self5 x10 x11 hb5 h=>?_) (hle:=klR [(2,.fn x2.toNat (⟨x2.toNat,x1⟩:Sl Int).n (fun i=>[(Aj 32 (fun i=>pI .i64 (x1 i))).getD i default]) (fun i=>cI .i64 ((⟨x2.toNat,x1⟩:Sl Int).g i)))] (al1 ⟨rfl,fun i hi=>arrG _ (by omega)⟩ al0));refine kI hS h (fun h=>?_) (fun h=>?_)
     ·obtain⟨c26,h⟩:=E2 h;exact hb5 _ [(5000,5000),(9000,9000),(9500,9500)] _ (D9 .or .u64 x10 (shI .shl .u64 (D9 .and .u64 (shI .shr .u64 (p_t.Has.g x7.toNat) ((⟨x2.toNat,x1⟩:Sl Int).g x11.toNat)) 1) x11)) (wrap .i64 (x11+1)) c26 h
     ·obtain⟨c27,h⟩:=E2 h;exact hb4 _ [(5000,5000),(9000,9000),(9500,74000)] _ (x6.push x10) (wrap .i64 (x7+1)) (And.intro (rfl:true=true) c27) h (hle:=klR [(4,.fn (x6.n+1) (x6.push x10).n (AW x6.n (fun i=>cI .u64 (x6.g i)) (E4 [pI .u64 0] [(0,cI .u64 x10)])) (fun i=>cI .u64 ((x6.push x10).g i)))] (al1 ⟨rfl,Mo (c:=cI .u64) (v:=x6) (x:=x10) (z:=[(pI .u64 0)]) same rfl rfl⟩ al0))
    ·obtain rfl:=B6 h;exact A6 hS trivial ⟨[(5,pN 0),(4,.reg 5000 0)],[(5000,.cells [pN x2,.p (vSl 1 (cI .u64) x6)])]⟩ [] (ids:=[(5000,5000)]) ⟨rfl,rfl,rfl⟩
def I4 (N:Nat)(p_seq:List (Int)):Option (Sl Int):=
 Y9 p_seq (fun self1 (x1:Int) (z1:Sl Int)=>
  if ((z1.n+(Sl.of [x1]:Sl Int).n)*8<=140737488355328/\z1.n+(Sl.of [x1]:Sl Int).n<=140737488355328)then
   self1 (z1.push x1)
  else none
  ) (fun (z1:Sl Int)=>
   some z1
  ) (Sl.nil:Sl Int)
theorem Bh {N:Nat}{p_seq:List (Int)}{p_seq_0:A3}{p_seq_1k:Nat}{p_seq_1_0:List PV}{kp_seq:Nat}(fp_seq:∃fn,Ak3[kp_seq]? = some fn/\fn.body.isSome=true/\(fn.name == "runtime.NumGoroutine")=false)(hp_seq:DH S kp_seq [] [.reg 0 0,.reg 1 0] [(.cells [(pN p_seq_0.Langs),(.p (vSl 1 (cI .u64) p_seq_0.Has))]),(.cells [(.clo p_seq_1k [] [(.p (.ptr p_seq_1_0))])])] (p_seq.map (fun (x:Int)=>[(pI .i64) x]))){y:(Sl Int)}(h:I4 N p_seq=some y) :FunO S J2 [(.p H7),(.clo kp_seq [] [(.reg 0 0),(.reg 1 0)])] [(.cells [(pN p_seq_0.Langs),(.p (vSl 1 (cI .u64) p_seq_0.Has))]),(.cells [(.clo p_seq_1k [] [(.p (.ptr p_seq_1_0))])])] (.vec 0) ([(.vec D2 1 y.n (fun i=>(cI .i64) (y.g i)) true)]) [false,false]:=by
 unfold I4 at h;refine A2 hS Q0 ?_;refine Nq hS trivial fp_seq [0,1] [2] 901 (fun z1=>⟨[(2,(.reg 3000 0))],[(3500,(.vec D2 1 z1.n (fun i=>(cI .i64) (z1.g i)) false)),(3000,(.cells [(.vec 3500)]))]⟩) (idl:=[(3000,3000)]) h hp_seq (fun _=>by kernel_rfl) (fun _=>by kernel_rfl) (fun _=>by kernel_rfl) (fun _=>by kernel_rfl) (fun x1 _ self1 z1 hb1 h=>?_) (fun z1 h=>?_)
 ·refine GP hS trivial ?_;obtain⟨c1,h⟩:=E2 h;exact hb1 _ [(901,901),(3000,3000),(3500,12000)] _ (z1.push x1) (And.intro (rfl:true=true) c1) h (hle:=klR [(0,.fn (z1.n+1) (z1.push x1).n (AW z1.n (fun i=>(cI .i64) (z1.g i)) (E4 [(pI .i64 0)] [(0,(cI .i64) x1)])) (fun i=>(cI .i64) ((z1.push x1).g i)))] (al1 ⟨rfl,(Mo (c:=(cI .i64)) (v:=z1) (x:=x1) (z:=[(pI .i64 0)]) same rfl rfl)⟩ al0))
 ·obtain rfl:=B6 h;exact A6 hS trivial ⟨[(4,(.vec 3500))],[(3500,(.vec D2 1 z1.n (fun i=>(cI .i64) (z1.g i)) true))]⟩ [3500] (ids:=[(3500,3500)]) ⟨rfl,rfl,rfl⟩
def T7 (N:Nat)(p_seq:List (Int)):Option (Sl Int):=
 (I4 N p_seq).bind fun y1=>
 some y1
theorem Ff {N:Nat}{p_seq:List (Int)}{p_seq_0:A3}{p_seq_1k:Nat}{p_seq_1_0:List PV}{kp_seq:Nat}(fp_seq:∃fn,Ak3[kp_seq]? = some fn/\fn.body.isSome=true/\(fn.name == "runtime.NumGoroutine")=false)(hp_seq:DH S kp_seq [] [.reg 0 0,.reg 1 0] [(.cells [(pN p_seq_0.Langs),(.p (vSl 1 (cI .u64) p_seq_0.Has))]),(.cells [(.clo p_seq_1k [] [(.p (.ptr p_seq_1_0))])])] (p_seq.map (fun (x:Int)=>[(pI .i64) x]))){y:(Sl Int)}(h:T7 N p_seq=some y) :FunO S V9 [(.clo kp_seq [] [(.reg 0 0),(.reg 1 0)])] [(.cells [(pN p_seq_0.Langs),(.p (vSl 1 (cI .u64) p_seq_0.Has))]),(.cells [(.clo p_seq_1k [] [(.p (.ptr p_seq_1_0))])])] (.vec 0) ([(.vec D2 1 y.n (fun i=>(cI .i64) (y.g i)) true)]) [false,false]:=by unfold T7 at h;refine A2 hS BB ?_;obtain⟨y1,e1,h⟩:=B5 h;refine B4 hS [0,1] trivial (Bh hS hL fp_seq hp_seq e1) ?_;obtain rfl:=B6 h;exact A6 hS trivial ⟨[(2,(.vec 5000))],[(5000,(.vec D2 1 y1.n (fun i=>(cI .i64) (y1.g i)) true))]⟩ [5000] (ids:=[(5000,5000)]) ⟨rfl,rfl,rfl⟩
def Da (N:Nat)(p_t:A3):Option ((Sl Int)×Int):=
 (P6 N p_t).bind fun y1=>
 if (y1 != 0) then
  some ((Sl.nil:Sl Int),y1)
 else
  (M9 N p_t (fun (u1:Int)=>Y6 N u1 p_t)).bind fun y2=>
  (I3 N y2 (fun (u2:Int)=>Y6 N u2 p_t)).bind fun L1=>
  (T7 N L1).bind fun y3=>
  some (y3,0)
theorem LL {N:Nat}{p_t:A3}{y:(Sl Int)×Int}(h:Da N p_t=some y) :FunO S FE [.p (.agg (C7 p_t))] [] (.tup [.p (vSl 1 (cI .i64) y.1),pN y.2]) ([]) []:=by
 unfold Da at h;refine A2 hS Ld ?_;refine kC hS h (Aw hS hL) (fun y1 h=>?_);refine kI hS h (fun h=>?_) (fun h=>?_)
 ·obtain rfl:=B6 h;exact A6 hS trivial ⟨[(3,pN y1),(2,.p (vSl 1 (cI .i64) (Sl.nil:Sl Int)))],[]⟩ [] (ids:=[]) ⟨rfl,rfl,rfl⟩
 ·refine H9 hS trivial 11 2000 [pI .i64 p_t.Langs,vSl 1 (cI .u64) p_t.Has] ?_;refine kC hS h (Z7 hS hL (fun e=>Eo hS hL e)) (fun y2 h=>?_);obtain⟨L1,e3,h⟩:=B5 h;obtain⟨y3,e4,h⟩:=B5 h;refine B4 hS [13000,13001] trivial (Ff hS hL ⟨_,S0,by decide +kernel,by decide +kernel⟩ (T6 hS hL (fun e=>Eo hS hL e) e3) e4) ?_;obtain rfl:=B6 h;exact A6 hS trivial ⟨[(3,pN 0),(2,.p (vSl 1 (cI .i64) y3))],[]⟩ [] (ids:=[]) ⟨rfl,rfl,rfl⟩
def H5 (N:Nat)(p_h:A8):Option ((Sl Int)×Int):=
 (Av N p_h.Tree).bind fun y1=>
 if (y1.2 != 0) then
  some ((Sl.nil:Sl Int),y1.2)
 else
  if (decide (32<(y1.1.n:Int))) then
   some ((Sl.nil:Sl Int),12)
  else
   some (y1.1,0)
theorem FU {N:Nat}{p_h:A8}{y:(Sl Int)×Int}(h:H5 N p_h=some y) :FunO S FG [.p (.agg (A7 p_h))] [] (.tup [.vec 0,pN y.2]) ([.vec D2 1 y.1.n (fun i=>cI .i64 (y.1.g i)) true]) []:=by
 unfold H5 at h;refine A2 hS Lg ?_;refine kC hS h (Od hS hL) (fun y1 h=>?_);refine kI hS h (fun h=>?_) (fun h=>?_)
 ·obtain rfl:=B6 h;exact A6 hS trivial ⟨[(3,pN y1.2),(2,.vec 3700)],[(3700,.vec D2 1 (Sl.nil:Sl Int).n (fun i=>cI .i64 ((Sl.nil:Sl Int).g i)) true)]⟩ [3700] (ids:=[]) ⟨rfl,rfl,rfl⟩
 ·refine kI hS h (fun h=>?_) (fun h=>?_)
  ·obtain rfl:=B6 h;exact A6 hS trivial ⟨[(3,pN 12),(2,.vec 3700)],[(3700,.vec D2 1 (Sl.nil:Sl Int).n (fun i=>cI .i64 ((Sl.nil:Sl Int).g i)) true)]⟩ [3700] (ids:=[]) ⟨rfl,rfl,rfl⟩
  ·obtain rfl:=B6 h;exact A6 hS trivial ⟨[(3,pN 0),(2,.vec 10000)],[(10000,.vec D2 1 y1.1.n (fun i=>cI .i64 (y1.1.g i)) true)]⟩ [10000] (ids:=[(10000,10000)]) ⟨rfl,rfl,rfl⟩
def N8 (N:Nat)(p_h:A8):Option (A3×Int):=
 (I2 N p_h).bind fun y1=>
 if (y1 != 0) then
  some ((⟨0,(Sl.nil:Sl Int)⟩:A3),y1)
 else
  (H5 N p_h).bind fun y2=>
  if (y2.2 != 0) then
   some ((⟨0,(Sl.nil:Sl Int)⟩:A3),y2.2)
  else
   if ((0:Int)<=(p_h.Laws.n:Int)/\(p_h.Laws.n:Int)<=(p_h.Laws.n:Int)/\(p_h.Laws.n:Int)*8<=140737488355328/\(p_h.Laws.n:Int)<=140737488355328)then
    Bj N (fun self3 (x3:Sl Int) (x4:Int)=>
     if (decide (x4<(y2.1.n:Int))) then
      if (((0:Int)<=x4/\x4<(y2.1.n:Int))/\x4.toNat<y2.1.n)then
       (K7 N p_h (y2.1.g x4.toNat)).bind fun y5=>
       if (y5.2 != 0) then
        some ((⟨0,(Sl.nil:Sl Int)⟩:A3),y5.2)
       else
        Bj N (fun self4 (x7:Sl Int) (x8:Int)=>
         if (decide (x8<(y5.1.n:Int))) then
          if (((0:Int)<=x8/\x8<(y5.1.n:Int))/\x8.toNat<y5.1.n)then
           if ((((((0:Int)<=(y5.1.g x8.toNat)/\(y5.1.g x8.toNat)<(x7.n:Int))/\(y5.1.g x8.toNat).toNat<x7.n)/\(0:Int)<=x4)/\((0:Int)<=(y5.1.g x8.toNat)/\(y5.1.g x8.toNat)<(x7.n:Int)))/\(y5.1.g x8.toNat).toNat<x7.n)then
            self4 (x7.upd (y5.1.g x8.toNat).toNat (D9 .or .u64 (x7.g (y5.1.g x8.toNat).toNat) (shI .shl .u64 1 x4))) (wrap .i64 (x8+1))
           else none
          else none
         else
          self3 x7 (wrap .i64 (x4+1))
         ) x3 0
      else none
     else
      some ((⟨(y2.1.n:Int),x3⟩:A3),0)
     ) (Sl.rep (p_h.Laws.n:Int).toNat 0:Sl Int) 0
   else none
theorem IC {N:Nat}{p_h:A8}{y:A3×Int}(h:N8 N p_h=some y) :FunO S Im [.p (.agg (A7 p_h))] [] (.tup [.p (.agg (C7 y.1)),pN y.2]) ([]) []:=by
 unfold N8 at h;refine A2 hS Px ?_;refine H9 hS trivial 2 2000 (A7 p_h) ?_;obtain⟨y1,e1,h⟩:=B5 h;refine B4 hS [] (by decide:(3:Nat)<=3) (Cn hS hL e1) ?_;refine kI hS h (fun h=>?_) (fun h=>?_)
 ·obtain rfl:=B6 h;exact A6 hS trivial ⟨[(3,pN y1),(2,.reg 3000 0)],[(3000,.cells [pN 0,.p (vSl 1 (cI .u64) (Sl.nil:Sl Int))])]⟩ [] (ids:=[(3000,3000)]) ⟨rfl,rfl,rfl⟩
 ·obtain⟨y2,e2,h⟩:=B5 h;refine B4 hS [] (by decide:(3:Nat)<=3) (FU hS hL e2) ?_;refine kI hS h (fun h=>?_) (fun h=>?_)
  ·obtain rfl:=B6 h;exact A6 hS trivial ⟨[(3,pN y2.2),(2,.reg 3000 0)],[(3000,.cells [pN 0,.p (vSl 1 (cI .u64) (Sl.nil:Sl Int))])]⟩ [] (ids:=[(3000,3000)]) ⟨rfl,rfl,rfl⟩
  ·obtain⟨c3,h⟩:=E2 h;refine G0 hS c3 h (fun x3 x4=>⟨[(38,pN x4),(37,pN (y2.1.n:Int)),(36,.vec 23000),(7,.reg 8000 0),(2,.reg 3000 0),(1,.p (.ptr (A7 p_h)))],[(35000,.vec P5 1 x3.n (fun i=>cI .u64 (x3.g i)) false),(23000,.vec D2 1 y2.1.n (fun i=>cI .i64 (y2.1.g i)) true),(8000,.cells [pN (y2.1.n:Int),.vec 35000]),(3000,.cells [pN 0,.p H7])]⟩) (ids:=[(3000,3000),(8000,8000),(23000,23000),(35000,35000)]) (fun _ _ _ _ _ self3 x3 x4 hb3 h=>?_);refine kI hS h (fun h=>?_) (fun h=>?_)
   ·obtain⟨c29,h⟩:=E2 h;obtain⟨y5,e5,h⟩:=B5 h;refine B4 hS [] (And.intro (And.intro c29.1 c29.2) (by decide:(3:Nat)<=3)) (FT hS hL e5) ?_;refine kI hS h (fun h=>?_) (fun h=>?_)
    ·obtain rfl:=B6 h;exact A6 hS trivial ⟨[(3,pN y5.2),(2,.reg 3000 0)],[(3000,.cells [pN 0,.p (vSl 1 (cI .u64) (Sl.nil:Sl Int))])]⟩ [] (ids:=[(3000,3000)]) ⟨rfl,rfl,rfl⟩
    ·refine G0 hS trivial h (fun x7 x8=>⟨[(55,pN x8),(54,pN (y5.1.n:Int)),(53,.vec 47000),(38,pN x4),(37,pN (y2.1.n:Int)),(36,.vec 23000),(8,pN x4),(7,.reg 8000 0),(2,.reg 3000 0),(1,.p (.ptr (A7 p_h)))],[(47000,.vec D2 1 y5.1.n (fun i=>cI .i64 (y5.1.g i)) true),(35000,.vec P5 1 x7.n (fun i=>cI .u64 (x7.g i)) false),(23000,.vec D2 1 y2.1.n (fun i=>cI .i64 (y2.1.g i)) true),(8000,.cells [pN (y2.1.n:Int),.vec 35000]),(3000,.cells [pN 0,.p H7])]⟩) (ids:=[(3000,3000),(8000,8000),(23000,23000),(35000,35000),(47000,47000)]) (fun _ _ _ _ _ self4 x7 x8 hb4 h=>?_);refine kI hS h (fun h=>?_) (fun h=>?_)
     ·obtain⟨c38,h⟩:=E2 h;refine Gg hS c38 ?_;obtain⟨c39,h⟩:=E2 h;refine O0 (And.intro (And.intro (And.intro (And.intro c39.1.1.1.1 c39.1.1.1.2) c39.1.1.2) c39.1.2) (And.intro (rfl:(1:Nat)=1) (And.intro c39.2 (by decide:(1:Nat)<=1)))) ?_;exact hb4 _ [(3000,3000),(8000,8000),(23000,23000),(35000,35000),(47000,47000)] _ (x7.upd (y5.1.g x8.toNat).toNat (D9 .or .u64 (x7.g (y5.1.g x8.toNat).toNat) (shI .shl .u64 1 x4))) (wrap .i64 (x8+1)) trivial h (hle:=klR [(7,.fn x7.n (x7.upd (y5.1.g x8.toNat).toNat (D9 .or .u64 (x7.g (y5.1.g x8.toNat).toNat) (shI .shl .u64 1 x4))).n (fun l=>if l=(y5.1.g x8.toNat).toNat then splice ((fun i=>cI .u64 (x7.g i)) l) 0 [pI .u64 (D9 .or .u64 (x7.g (y5.1.g x8.toNat).toNat) (shI .shl .u64 1 x4))]else (fun i=>cI .u64 (x7.g i)) l) (fun i=>cI .u64 ((x7.upd (y5.1.g x8.toNat).toNat (D9 .or .u64 (x7.g (y5.1.g x8.toNat).toNat) (shI .shl .u64 1 x4))).g i)))] (al1 ⟨rfl,Af3 (c:=cI .u64) (v:=x7) (x:=D9 .or .u64 (x7.g (y5.1.g x8.toNat).toNat) (shI .shl .u64 1 x4)) same (fun _=>by first|rfl|(dsimp only;split<;>rfl))⟩ al0))
     ·exact hb3 _ [(3000,3000),(8000,8000),(23000,23000),(35000,35000)] _ x7 (wrap .i64 (x4+1)) trivial h
   ·obtain rfl:=B6 h;exact A6 hS trivial ⟨[(3,pN 0),(2,.reg 3000 0)],[(3000,.cells [pN (y2.1.n:Int),.p (vSl 1 (cI .u64) x3)])]⟩ [] (ids:=[(3000,3000)]) ⟨rfl,rfl,rfl⟩
def Ed (N:Nat)(p_h:A8)(p_l:Sl (Sl Sound)):Option (A3×Int):=
 (I2 N p_h).bind fun y1=>
 if (y1 != 0) then
  some ((⟨0,(Sl.nil:Sl Int)⟩:A3),y1)
 else
  if (decide (256<(p_l.n:Int))) then
   some ((⟨0,(Sl.nil:Sl Int)⟩:A3),12)
  else
   Az N (fun self1 (x1:Int)=>
    if (decide (x1<(p_l.n:Int))) then
     if ((0:Int)<=x1/\x1<(p_l.n:Int))then
      (Bc N (p_l.g x1.toNat)).bind fun y4=>
      if (y4 != 0) then
       some ((⟨0,(Sl.nil:Sl Int)⟩:A3),y4)
      else
       self1 (wrap .i64 (x1+1))
     else none
    else
     (H5 N p_h).bind fun y5=>
     if (y5.2 != 0) then
      some ((⟨0,(Sl.nil:Sl Int)⟩:A3),y5.2)
     else
      Bj N (fun self2 (x2:Sl (Sl Law)) (x3:Int)=>
       if (decide (x3<(y5.1.n:Int))) then
        if (((0:Int)<=x3/\x3<(y5.1.n:Int))/\x3.toNat<y5.1.n)then
         (CX N p_h (y5.1.g x3.toNat)).bind fun y8=>
         if (y8.2 != 0) then
          some ((⟨0,(Sl.nil:Sl Int)⟩:A3),y8.2)
         else
          if ((x2.n+(Sl.of [y8.1]:Sl (Sl Law)).n)*24<=140737488355328/\x2.n+(Sl.of [y8.1]:Sl (Sl Law)).n<=140737488355328)then
           self2 (x2.push y8.1) (wrap .i64 (x3+1))
          else none
        else none
       else
        Bj N (fun self5 (x7:Sl Int) (x8:Int)=>
         if (decide (x8<(p_l.n:Int))) then
          if ((0:Int)<=x8/\x8<(p_l.n:Int))then
           Ac5 N (fun self6 (x12:List (Str×Int)) (x13:Sl Int) (x14:Int)=>
            if (decide (x14<(y5.1.n:Int))) then
             if (((0:Int)<=x14/\x14<(x2.n:Int))/\x14.toNat<x2.n)then
              (Cm N (x2.g x14.toNat) (p_l.g x8.toNat)).bind fun y25=>
              (EW N y25.1 y25.2).bind fun y26=>
              ZG (Bk eqS y26 x12) (
               if ((x13.n+(Sl.of [0]:Sl Int).n)*8<=140737488355328/\x13.n+(Sl.of [0]:Sl Int).n<=140737488355328)then
                if ((((((0:Int)<=(x13.n:Int)/\(x13.n:Int)<((x13.push 0).n:Int))/\(x13.n:Int).toNat<(x13.push 0).n)/\(0:Int)<=x14)/\((0:Int)<=(x13.n:Int)/\(x13.n:Int)<((x13.push 0).n:Int)))/\(x13.n:Int).toNat<(x13.push 0).n)then
                 self6 (KV eqS y26 (x13.n:Int) x12) ((x13.push 0).upd (x13.n:Int).toNat (D9 .or .u64 ((x13.push 0).g (x13.n:Int).toNat) (shI .shl .u64 1 x14))) (wrap .i64 (x14+1))
                else none
               else none
               ) fun v9=>
               if ((((((0:Int)<=v9/\v9<(x13.n:Int))/\v9.toNat<x13.n)/\(0:Int)<=x14)/\((0:Int)<=v9/\v9<(x13.n:Int)))/\v9.toNat<x13.n)then
                self6 x12 (x13.upd v9.toNat (D9 .or .u64 (x13.g v9.toNat) (shI .shl .u64 1 x14))) (wrap .i64 (x14+1))
               else none
             else none
            else
             if (decide (1<(x13.n:Int))) then
              if ((x7.n+x13.n)*8<=140737488355328/\x7.n+x13.n<=140737488355328)then
               if (decide (64<((x7.app x13).n:Int))) then
                some ((⟨0,(Sl.nil:Sl Int)⟩:A3),12)
               else
                self5 (x7.app x13) (wrap .i64 (x8+1))
              else none
             else
              if (decide (64<(x7.n:Int))) then
               some ((⟨0,(Sl.nil:Sl Int)⟩:A3),12)
              else
               self5 x7 (wrap .i64 (x8+1))
            ) [] (Sl.nil:Sl Int) 0
          else none
         else
          some ((⟨(y5.1.n:Int),x7⟩:A3),0)
         ) (Sl.nil:Sl Int) 0
       ) (Sl.nil:Sl (Sl Law)) 0
    ) 0
theorem Og {N:Nat}{p_h:A8}{p_l:Sl (Sl Sound)}{y:A3×Int}(h:Ed N p_h p_l=some y) :FunO S GS [.p (.agg (A7 p_h)),.p (vSl 1 (cL 2 A0) p_l)] [] (.tup [.p (.agg (C7 y.1)),pN y.2]) ([]) []:=by
 unfold Ed at h;refine A2 hS Nx ?_;refine H9 hS trivial 4 3000 (A7 p_h) ?_;obtain⟨y1,e1,h⟩:=B5 h;refine B4 hS [] (by decide:(3:Nat)<=3) (Cn hS hL e1) ?_;refine kI hS h (fun h=>?_) (fun h=>?_)
 ·obtain rfl:=B6 h;exact A6 hS trivial ⟨[(5,pN y1),(4,.reg 5000 0)],[(5000,.cells [pN 0,.p (vSl 1 (cI .u64) (Sl.nil:Sl Int))])]⟩ [] (ids:=[(5000,5000)]) ⟨rfl,rfl,rfl⟩
 ·refine kI hS h (fun h=>?_) (fun h=>?_)
  ·obtain rfl:=B6 h;exact A6 hS trivial ⟨[(5,pN 12),(4,.reg 5000 0)],[(5000,.cells [pN 0,.p (vSl 1 (cI .u64) (Sl.nil:Sl Int))])]⟩ [] (ids:=[(5000,5000)]) ⟨rfl,rfl,rfl⟩
  ·refine N0 hS trivial h (fun x1=>⟨[(38,pN x1),(37,pN (p_l.n:Int)),(36,.p (vSl 1 (cL 2 A0) p_l)),(4,.reg 5000 0),(2,.p (.ptr (A7 p_h))),(1,.p (vSl 1 (cL 2 A0) p_l))],[(5000,.cells [pN 0,.p H7])]⟩) (ids:=[(5000,5000)]) (fun _ _ _ _ _ self1 x1 hb1 h=>?_);refine kI hS h (fun h=>?_) (fun h=>?_)
   ·obtain⟨c10,h⟩:=E2 h;obtain⟨y4,e4,h⟩:=B5 h;refine B4 hS [] c10 (EY hS hL e4) ?_;refine kI hS h (fun h=>?_) (fun h=>?_)
    ·obtain rfl:=B6 h;exact A6 hS trivial ⟨[(5,pN y4),(4,.reg 5000 0)],[(5000,.cells [pN 0,.p (vSl 1 (cI .u64) (Sl.nil:Sl Int))])]⟩ [] (ids:=[(5000,5000)]) ⟨rfl,rfl,rfl⟩
    ·exact hb1 _ [(5000,5000)] _ (wrap .i64 (x1+1)) trivial h
   ·obtain⟨y5,e5,h⟩:=B5 h;refine B4 hS [] (by decide:(3:Nat)<=3) (FU hS hL e5) ?_;refine kI hS h (fun h=>?_) (fun h=>?_)
    ·obtain rfl:=B6 h;exact A6 hS trivial ⟨[(5,pN y5.2),(4,.reg 5000 0)],[(5000,.cells [pN 0,.p (vSl 1 (cI .u64) (Sl.nil:Sl Int))])]⟩ [] (ids:=[(5000,5000)]) ⟨rfl,rfl,rfl⟩
    ·refine G0 hS trivial h (fun x2 x3=>⟨[(60,pN x3),(59,pN (y5.1.n:Int)),(58,.vec 52000),(12,.vec 13500),(10,.vec 52000),(4,.reg 5000 0),(2,.p (.ptr (A7 p_h))),(1,.p (vSl 1 (cL 2 A0) p_l))],[(52000,.vec D2 1 y5.1.n (fun i=>cI .i64 (y5.1.g i)) true),(13500,.vec CA 1 x2.n (fun i=>cL 18 B3 (x2.g i)) false),(5000,.cells [pN 0,.p H7])]⟩) (ids:=[(5000,5000),(52000,52000)]) (fun _ _ _ _ _ self2 x2 x3 hb2 h=>?_);refine kI hS h (fun h=>?_) (fun h=>?_)
     ·obtain⟨c20,h⟩:=E2 h;obtain⟨y8,e8,h⟩:=B5 h;refine B4 hS [] (And.intro (And.intro c20.1 c20.2) (by decide:(3:Nat)<=3)) (LI hS hL e8) ?_;refine kI hS h (fun h=>?_) (fun h=>?_)
      ·obtain rfl:=B6 h;exact A6 hS trivial ⟨[(5,pN y8.2),(4,.reg 5000 0)],[(5000,.cells [pN 0,.p (vSl 1 (cI .u64) (Sl.nil:Sl Int))])]⟩ [] (ids:=[(5000,5000)]) ⟨rfl,rfl,rfl⟩
      ·obtain⟨c22,h⟩:=E2 h;exact hb2 _ [(5000,5000),(13500,78000),(52000,52000)] _ (x2.push y8.1) (wrap .i64 (x3+1)) (And.intro (rfl:true=true) c22) h (hle:=klR [(5,.fn (x2.n+1) (x2.push y8.1).n (AW x2.n (fun i=>cL 18 B3 (x2.g i)) (E4 [H7] [(0,cL 18 B3 y8.1)])) (fun i=>cL 18 B3 ((x2.push y8.1).g i)))] (al1 ⟨rfl,Mo (c:=cL 18 B3) (v:=x2) (x:=y8.1) (z:=[H7]) same rfl rfl⟩ al0))
     ·refine G0 hS trivial h (fun x7 x8=>⟨[(84,pN x8),(83,pN (p_l.n:Int)),(82,.p (vSl 1 (cL 2 A0) p_l)),(17,.reg 18000 0),(12,.vec 13500),(10,.vec 52000),(4,.reg 5000 0)],[(52000,.vec D2 1 y5.1.n (fun i=>cI .i64 (y5.1.g i)) true),(18500,.vec P5 1 x7.n (fun i=>cI .u64 (x7.g i)) false),(18000,.cells [pN (y5.1.n:Int),.vec 18500]),(13500,.vec CA 1 x2.n (fun i=>cL 18 B3 (x2.g i)) false),(5000,.cells [pN 0,.p H7])]⟩) (ids:=[(5000,5000),(13500,13500),(18000,18000),(52000,52000)]) (fun _ _ _ _ _ self5 x7 x8 hb5 h=>?_);refine kI hS h (fun h=>?_) (fun h=>?_)
      ·obtain⟨c76,h⟩:=E2 h;refine SL hS c76 h (fun x12 x13 x14=>⟨[(91,pN x14),(90,pN (y5.1.n:Int)),(84,pN x8),(83,pN (p_l.n:Int)),(82,.p (vSl 1 (cL 2 A0) p_l)),(21,.vec 22500),(20,.mref 89000),(19,.p (vSl 2 A0 (p_l.g x8.toNat))),(17,.reg 18000 0),(12,.vec 13500),(10,.vec 52000),(4,.reg 5000 0)],[(89000,.map (IG PV.str (pI .i64) x12)),(52000,.vec D2 1 y5.1.n (fun i=>cI .i64 (y5.1.g i)) true),(22500,.vec P5 1 x13.n (fun i=>cI .u64 (x13.g i)) false),(18500,.vec P5 1 x7.n (fun i=>cI .u64 (x7.g i)) false),(18000,.cells [pN (y5.1.n:Int),.vec 18500]),(13500,.vec CA 1 x2.n (fun i=>cL 18 B3 (x2.g i)) false),(5000,.cells [pN 0,.p H7])]⟩) (ids:=[(5000,5000),(13500,13500),(18000,18000),(18500,18500),(52000,52000),(89000,89000)]) (fun _ _ _ _ _ self6 x12 x13 x14 hb6 h=>?_);refine kI hS h (fun h=>?_) (fun h=>?_)
       ·obtain⟨c91,h⟩:=E2 h;obtain⟨y25,e25,h⟩:=B5 h;refine B4 hS [] c91 (KB hS hL e25) ?_;refine kC hS h (PN hS hL) (fun y26 h=>?_);rcases o9:Bk eqS y26 x12 with _|v9
        ·replace h:=optN o9 h;refine Fm hS trivial (kt:=AU) (e:=D2) (key:=PV.str y26) (es:=IG PV.str (pI .i64) x12) (x:=pI .i64 0) (b:=false) (fd:=none) ((Cc (kP:=PV.str) (vP:=pI .i64) (eq:=eqS) (fun _ _=>by kernel_rfl) y26 x12).trans (by rw[o9];rfl)) trivial ?_;refine D3 hS trivial (b:=true) (fun c92=>?_) (fun c92=>?_)
         ·refine IV hS trivial (kt:=AU) (key:=PV.str y26) (y:=pI .i64 (x13.n:Int)) (es:=IG PV.str (pI .i64) x12) (GM (kP:=PV.str) (vP:=pI .i64) (eq:=eqS) (fun _ _=>by kernel_rfl) y26 (x13.n:Int) x12) trivial ?_;obtain⟨c93,h⟩:=E2 h;refine K3 hS (And.intro (rfl:true=true) c93) 21 ⟨[(118,.vec 119000),(91,pN x14),(90,pN (y5.1.n:Int)),(84,pN x8),(83,pN (p_l.n:Int)),(82,.p (vSl 1 (cL 2 A0) p_l)),(24,pN (x13.n:Int)),(22,pN x14),(20,.mref 89000),(19,.p (vSl 2 A0 (p_l.g x8.toNat))),(17,.reg 18000 0),(12,.vec 13500),(10,.vec 52000),(4,.reg 5000 0)],[(119000,.vec P5 1 (x13.push 0).n (fun i=>cI .u64 ((x13.push 0).g i)) false),(89000,.map (IG PV.str (pI .i64) (KV eqS y26 (x13.n:Int) x12))),(52000,.vec D2 1 y5.1.n (fun i=>cI .i64 (y5.1.g i)) true),(18500,.vec P5 1 x7.n (fun i=>cI .u64 (x7.g i)) false),(18000,.cells [pN (y5.1.n:Int),.vec 18500]),(13500,.vec CA 1 x2.n (fun i=>cL 18 B3 (x2.g i)) false),(5000,.cells [pN 0,.p H7])]⟩ (ids:=[(5000,5000),(13500,13500),(18000,18000),(18500,18500),(52000,52000),(89000,89000),(119000,119000)]) ?_ (hle:=klR [(8,.fn (x13.n+1) (x13.push 0).n (AW x13.n (fun i=>cI .u64 (x13.g i)) (E4 [pI .u64 0] [(0,cI .u64 0)])) (fun i=>cI .u64 ((x13.push 0).g i)))] (al1 ⟨rfl,Mo (c:=cI .u64) (v:=x13) (x:=0) (z:=[(pI .u64 0)]) same rfl rfl⟩ al0));refine Gg hS trivial ?_;obtain⟨c94,h⟩:=E2 h;refine O0 (And.intro (And.intro (And.intro (And.intro c94.1.1.1.1 c94.1.1.1.2) c94.1.1.2) c94.1.2) (And.intro (rfl:(1:Nat)=1) (And.intro c94.2 (by decide:(1:Nat)<=1)))) ?_;exact hb6 _ [(5000,5000),(13500,13500),(18000,18000),(18500,18500),(22500,119000),(52000,52000),(89000,89000)] _ (KV eqS y26 (x13.n:Int) x12) ((x13.push 0).upd (x13.n:Int).toNat (D9 .or .u64 ((x13.push 0).g (x13.n:Int).toNat) (shI .shl .u64 1 x14))) (wrap .i64 (x14+1)) trivial h (hle:=klR [(8,.fn (x13.push 0).n ((x13.push 0).upd (x13.n:Int).toNat (D9 .or .u64 ((x13.push 0).g (x13.n:Int).toNat) (shI .shl .u64 1 x14))).n (fun l=>if l=(x13.n:Int).toNat then splice ((fun i=>cI .u64 ((x13.push 0).g i)) l) 0 [pI .u64 (D9 .or .u64 ((x13.push 0).g (x13.n:Int).toNat) (shI .shl .u64 1 x14))]else (fun i=>cI .u64 ((x13.push 0).g i)) l) (fun i=>cI .u64 (((x13.push 0).upd (x13.n:Int).toNat (D9 .or .u64 ((x13.push 0).g (x13.n:Int).toNat) (shI .shl .u64 1 x14))).g i)))] (al1 ⟨rfl,Af3 (c:=cI .u64) (v:=x13.push 0) (x:=D9 .or .u64 ((x13.push 0).g (x13.n:Int).toNat) (shI .shl .u64 1 x14)) same (fun _=>by first|rfl|(dsimp only;split<;>rfl))⟩ al0))
         ·exact Bool.noConfusion ((rfl:true=true).symm.trans c92)
        ·replace h:=optS o9 h;refine Fm hS trivial (kt:=AU) (e:=D2) (key:=PV.str y26) (es:=IG PV.str (pI .i64) x12) (x:=pI .i64 v9) (b:=true) (fd:=some (pI .i64 v9)) ((Cc (kP:=PV.str) (vP:=pI .i64) (eq:=eqS) (fun _ _=>by kernel_rfl) y26 x12).trans (by rw[o9];rfl)) trivial ?_;refine D3 hS trivial (b:=false) (fun c95=>?_) (fun c95=>?_)
         ·exact Bool.noConfusion ((rfl:false=false).symm.trans c95)
         ·refine Gg hS trivial ?_;obtain⟨c96,h⟩:=E2 h;refine O0 (And.intro (And.intro (And.intro (And.intro c96.1.1.1.1 c96.1.1.1.2) c96.1.1.2) c96.1.2) (And.intro (rfl:(1:Nat)=1) (And.intro c96.2 (by decide:(1:Nat)<=1)))) ?_;exact hb6 _ [(5000,5000),(13500,13500),(18000,18000),(18500,18500),(22500,22500),(52000,52000),(89000,89000)] _ x12 (x13.upd v9.toNat (D9 .or .u64 (x13.g v9.toNat) (shI .shl .u64 1 x14))) (wrap .i64 (x14+1)) trivial h (hle:=klR [(8,.fn x13.n (x13.upd v9.toNat (D9 .or .u64 (x13.g v9.toNat) (shI .shl .u64 1 x14))).n (fun l=>if l=v9.toNat then splice ((fun i=>cI .u64 (x13.g i)) l) 0 [pI .u64 (D9 .or .u64 (x13.g v9.toNat) (shI .shl .u64 1 x14))]else (fun i=>cI .u64 (x13.g i)) l) (fun i=>cI .u64 ((x13.upd v9.toNat (D9 .or .u64 (x13.g v9.toNat) (shI .shl .u64 1 x14))).g i)))] (al1 ⟨rfl,Af3 (c:=cI .u64) (v:=x13) (x:=D9 .or .u64 (x13.g v9.toNat) (shI .shl .u64 1 x14)) same (fun _=>by first|rfl|(dsimp only;split<;>rfl))⟩ al0))
       ·refine kI hS h (fun h=>?_) (fun h=>?_)
        ·obtain⟨c98,h⟩:=E2 h;refine D3 hS c98 (b:=decide (64<((x7.app x13).n:Int))) (fun c99=>?_) (fun c99=>?_)
         ·replace h:=itT c99 h;obtain rfl:=B6 h;exact A6 hS trivial ⟨[(5,pN 12),(4,.reg 5000 0)],[(5000,.cells [pN 0,.p (vSl 1 (cI .u64) (Sl.nil:Sl Int))])]⟩ [] (ids:=[(5000,5000)]) ⟨rfl,rfl,rfl⟩
         ·replace h:=itF c99 h;exact hb5 _ [(5000,5000),(13500,13500),(18000,18000),(18500,135000),(52000,52000)] _ (x7.app x13) (wrap .i64 (x8+1)) trivial h (hle:=klR [(4,.fn (x7.n+x13.n) (x7.app x13).n (AW x7.n (fun i=>cI .u64 (x7.g i)) (fun i=>cI .u64 (x13.g i))) (fun i=>cI .u64 ((x7.app x13).g i)))] (al1 ⟨rfl,Ak1 (c:=cI .u64) (v:=x7) (w:=x13) same rfl same rfl⟩ al0))
        ·refine kI hS h (fun h=>?_) (fun h=>?_)
         ·obtain rfl:=B6 h;exact A6 hS trivial ⟨[(5,pN 12),(4,.reg 5000 0)],[(5000,.cells [pN 0,.p (vSl 1 (cI .u64) (Sl.nil:Sl Int))])]⟩ [] (ids:=[(5000,5000)]) ⟨rfl,rfl,rfl⟩
         ·exact hb5 _ [(5000,5000),(13500,13500),(18000,18000),(18500,18500),(52000,52000)] _ x7 (wrap .i64 (x8+1)) trivial h
      ·obtain rfl:=B6 h;exact A6 hS trivial ⟨[(5,pN 0),(4,.reg 5000 0)],[(5000,.cells [pN (y5.1.n:Int),.p (vSl 1 (cI .u64) x7)])]⟩ [] (ids:=[(5000,5000)]) ⟨rfl,rfl,rfl⟩
def Gs (N:Nat)  : Option A3:=
 some (⟨4,(Sl.of [3,6,15,8]:Sl Int)⟩:A3)
theorem RM {N:Nat}    {y:A3}(h:Gs N  = some y) :FunO S JO [] [] (.p (.agg (C7 y))) ([]) []:=by unfold Gs at h;refine A2 hS Rc ?_;obtain rfl:=B6 h;exact A6 hS (rfl:true=true) ⟨[(0,.reg 1000 0)],[(1000,.cells [pN 4,.p (vSl 1 (cI .u64) (Sl.of [3,6,15,8]:Sl Int))])]⟩ [] (ids:=[(1000,1000)]) ⟨rfl,rfl,rfl⟩ (hle:=klR [(1,.fn 4 (Sl.of [3,6,15,8]:Sl Int).n (E4 [pI .u64 0] [(0,cI .u64 3),(1,cI .u64 6),(2,cI .u64 15),(3,cI .u64 8)]) (fun i=>cI .u64 ((Sl.of [3,6,15,8]:Sl Int).g i)))] (al1 ⟨rfl,(fun i hi=>match i,hi with|0,_=>rfl|1,_=>rfl|2,_=>rfl|3,_=>rfl|_+4,hi=>absurd hi (by omega))⟩ al0))
def BL (N:Nat)  : Option A8:=
 some (⟨(Sl.of [(⟨-1,[114]⟩:J1),(⟨0,[120]⟩:J1),(⟨1,[97]⟩:J1),(⟨1,[98]⟩:J1),(⟨0,[99]⟩:J1)]:Sl J1),(Sl.of [(⟨[70],Pat.mk 0 (⟨0,0⟩:Sound) false 0 0 (Sl.nil:Sl Pat).n (Sl.nil:Sl Pat).g,Pat.mk 6 (⟨0,0⟩:Sound) false 0 0 (Sl.nil:Sl Pat).n (Sl.nil:Sl Pat).g,(Sl.of [(⟨4,0⟩:Sound)]:Sl Sound),(Sl.nil:Sl Ai),1⟩:Law),(⟨[86],Pat.mk 1 (⟨4,0⟩:Sound) false 0 0 (Sl.nil:Sl Pat).n (Sl.nil:Sl Pat).g,Pat.mk 1 (⟨4,0⟩:Sound) false 0 0 (Sl.nil:Sl Pat).n (Sl.nil:Sl Pat).g,(Sl.of [(⟨2,0⟩:Sound)]:Sl Sound),(Sl.of [(⟨0,0,(⟨1,0⟩:Sound),0,0⟩:Ai)]:Sl Ai),1⟩:Law)]:Sl Law),(Sl.of [(Sl.nil:Sl Int),(Sl.of [0]:Sl Int),(Sl.nil:Sl Int),(Sl.of [1]:Sl Int),(Sl.nil:Sl Int)]:Sl (Sl Int))⟩:A8)
theorem Hm {N:Nat}    {y:A8}(h:BL N  = some y) :FunO S GU [] [] (.p (.agg (A7 y))) ([]) []:=by unfold BL at h;refine A2 hS Nz ?_;refine K3 hS (rfl:true=true) 10 ⟨[(9,.p (vSl 2 A0 (Sl.of [(⟨4,0⟩:Sound)]:Sl Sound))),(7,.p (.agg [pI .i64 6,pI .u32 0,pI .u32 0,.v (.bool false),pI .i64 0,pI .i64 0,H7])),(1,.reg 2000 0),(0,.reg 1000 0)],[(2000,.cells [pN 1,pU 4,pU 0,.p (.v (.bool false)),pN 0,pN 0,.p H7]),(1000,.cells [.p H7,.p H7,.p H7])]⟩ (ids:=[(1000,1000),(2000,2000)]) ?_ (hle:=klR [(0,.fn 1 (Sl.of [(⟨4,0⟩:Sound)]:Sl Sound).n (E4 [pI .u32 0,pI .u32 0] [(0,A0 (⟨4,0⟩:Sound))]) (fun i=>A0 ((Sl.of [(⟨4,0⟩:Sound)]:Sl Sound).g i)))] (al1 ⟨rfl,(fun i hi=>match i,hi with|0,_=>rfl|_+1,hi=>absurd hi (by omega))⟩ al0));refine K3 hS trivial 11 ⟨[(2,.reg 3000 0),(1,.reg 2000 0),(0,.reg 1000 0)],[(3000,.cells [.p (.str [70]),pN 0,pU 0,pU 0,.p (.v (.bool false)),pN 0,pN 0,.p H7,pN 6,pU 0,pU 0,.p (.v (.bool false)),pN 0,pN 0,.p H7,.p (vSl 2 A0 (Sl.of [(⟨4,0⟩:Sound)]:Sl Sound)),.p H7,pN 1]),(2000,.cells [pN 1,pU 4,pU 0,pB false,pN 0,pN 0,.p (vSl 7 B0 (Sl.nil:Sl Pat))]),(1000,.cells [.p H7,.p H7,.p H7])]⟩ (ids:=[(1000,1000),(2000,2000),(3000,3000)]) ?_;refine K3 hS (And.intro (rfl:true=true) (rfl:true=true)) 18 ⟨[(17,.p (vSl 6 O2 (Sl.of [(⟨0,0,(⟨1,0⟩:Sound),0,0⟩:Ai)]:Sl Ai))),(14,.p (vSl 2 A0 (Sl.of [(⟨2,0⟩:Sound)]:Sl Sound))),(12,.p (.agg [pI .i64 1,pI .u32 4,pI .u32 0,.bb false,pI .i64 0,pI .i64 0,vSl 7 B0 (Sl.nil:Sl Pat)])),(11,.p (.agg [pI .i64 1,pI .u32 4,pI .u32 0,.bb false,pI .i64 0,pI .i64 0,vSl 7 B0 (Sl.nil:Sl Pat)])),(2,.reg 3000 0),(0,.reg 1000 0)],[(3000,.cells [.p (.str [70]),pN 0,pU 0,pU 0,.p (.v (.bool false)),pN 0,pN 0,.p H7,pN 6,pU 0,pU 0,.p (.v (.bool false)),pN 0,pN 0,.p H7,.p (vSl 2 A0 (Sl.of [(⟨4,0⟩:Sound)]:Sl Sound)),.p H7,pN 1]),(1000,.cells [.p H7,.p H7,.p H7])]⟩ (ids:=[(1000,1000),(3000,3000)]) ?_ (hle:=klR [(0,.fn 1 (Sl.of [(⟨0,0,(⟨1,0⟩:Sound),0,0⟩:Ai)]:Sl Ai).n (E4 [pI .i64 0,pI .u32 0,pI .u32 0,pI .u32 0,pI .u32 0,pI .i64 0] [(0,O2 (⟨0,0,(⟨1,0⟩:Sound),0,0⟩:Ai))]) (fun i=>O2 ((Sl.of [(⟨0,0,(⟨1,0⟩:Sound),0,0⟩:Ai)]:Sl Ai).g i))),(1,.fn 1 (Sl.of [(⟨2,0⟩:Sound)]:Sl Sound).n (E4 [pI .u32 0,pI .u32 0] [(0,A0 (⟨2,0⟩:Sound))]) (fun i=>A0 ((Sl.of [(⟨2,0⟩:Sound)]:Sl Sound).g i)))] (al1 ⟨rfl,(fun i hi=>match i,hi with|0,_=>rfl|_+1,hi=>absurd hi (by omega))⟩ (al1 ⟨rfl,(fun i hi=>match i,hi with|0,_=>rfl|_+1,hi=>absurd hi (by omega))⟩ al0)));refine K3 hS (rfl:true=true) 26 ⟨[(25,.vec 25000),(3,.reg 4000 0),(2,.reg 3000 0),(0,.reg 1000 0)],[(25000,.vec HN 2 (Sl.of [(⟨-1,[114]⟩:J1),(⟨0,[120]⟩:J1),(⟨1,[97]⟩:J1),(⟨1,[98]⟩:J1),(⟨0,[99]⟩:J1)]:Sl J1).n (fun i=>H0 ((Sl.of [(⟨-1,[114]⟩:J1),(⟨0,[120]⟩:J1),(⟨1,[97]⟩:J1),(⟨1,[98]⟩:J1),(⟨0,[99]⟩:J1)]:Sl J1).g i)) false),(4000,.cells [.p (.str [86]),pN 1,pU 4,pU 0,pB false,pN 0,pN 0,.p (vSl 7 B0 (Sl.nil:Sl Pat)),pN 1,pU 4,pU 0,pB false,pN 0,pN 0,.p (vSl 7 B0 (Sl.nil:Sl Pat)),.p (vSl 2 A0 (Sl.of [(⟨2,0⟩:Sound)]:Sl Sound)),.p (vSl 6 O2 (Sl.of [(⟨0,0,(⟨1,0⟩:Sound),0,0⟩:Ai)]:Sl Ai)),pN 1]),(3000,.cells [.p (.str [70]),pN 0,pU 0,pU 0,pB false,pN 0,pN 0,.p (vSl 7 B0 (Sl.nil:Sl Pat)),pN 6,pU 0,pU 0,pB false,pN 0,pN 0,.p (vSl 7 B0 (Sl.nil:Sl Pat)),.p (vSl 2 A0 (Sl.of [(⟨4,0⟩:Sound)]:Sl Sound)),.p (vSl 6 O2 (Sl.nil:Sl Ai)),pN 1]),(1000,.cells [.p H7,.p H7,.p H7])]⟩ (ids:=[(1000,1000),(3000,3000),(4000,4000),(25000,25000)]) ?_ (hle:=klR [(0,.fn 5 (Sl.of [(⟨-1,[114]⟩:J1),(⟨0,[120]⟩:J1),(⟨1,[97]⟩:J1),(⟨1,[98]⟩:J1),(⟨0,[99]⟩:J1)]:Sl J1).n (E4 [pI .i64 0,.str []] [(0,H0 (⟨-1,[114]⟩:J1)),(1,H0 (⟨0,[120]⟩:J1)),(2,H0 (⟨1,[97]⟩:J1)),(3,H0 (⟨1,[98]⟩:J1)),(4,H0 (⟨0,[99]⟩:J1))]) (fun i=>H0 ((Sl.of [(⟨-1,[114]⟩:J1),(⟨0,[120]⟩:J1),(⟨1,[97]⟩:J1),(⟨1,[98]⟩:J1),(⟨0,[99]⟩:J1)]:Sl J1).g i)))] (al1 ⟨rfl,(fun i hi=>match i,hi with|0,_=>rfl|1,_=>rfl|2,_=>rfl|3,_=>rfl|4,_=>rfl|_+5,hi=>absurd hi (by omega))⟩ al0));refine K3 hS (And.intro (And.intro (rfl:true=true) (rfl:true=true)) (rfl:true=true)) 31 ⟨[(30,.vec 31000),(29,.vec 30000),(28,.vec 29000),(25,.vec 25000),(0,.reg 1000 0)],[(31000,.vec D2 1 (Sl.of [1]:Sl Int).n (fun i=>cI .i64 ((Sl.of [1]:Sl Int).g i)) true),(30000,.vec D2 1 (Sl.of [0]:Sl Int).n (fun i=>cI .i64 ((Sl.of [0]:Sl Int).g i)) true),(29000,.vec Kq 18 (Sl.of [(⟨[70],Pat.mk 0 (⟨0,0⟩:Sound) false 0 0 (Sl.nil:Sl Pat).n (Sl.nil:Sl Pat).g,Pat.mk 6 (⟨0,0⟩:Sound) false 0 0 (Sl.nil:Sl Pat).n (Sl.nil:Sl Pat).g,(Sl.of [(⟨4,0⟩:Sound)]:Sl Sound),(Sl.nil:Sl Ai),1⟩:Law),(⟨[86],Pat.mk 1 (⟨4,0⟩:Sound) false 0 0 (Sl.nil:Sl Pat).n (Sl.nil:Sl Pat).g,Pat.mk 1 (⟨4,0⟩:Sound) false 0 0 (Sl.nil:Sl Pat).n (Sl.nil:Sl Pat).g,(Sl.of [(⟨2,0⟩:Sound)]:Sl Sound),(Sl.of [(⟨0,0,(⟨1,0⟩:Sound),0,0⟩:Ai)]:Sl Ai),1⟩:Law)]:Sl Law).n (fun i=>B3 ((Sl.of [(⟨[70],Pat.mk 0 (⟨0,0⟩:Sound) false 0 0 (Sl.nil:Sl Pat).n (Sl.nil:Sl Pat).g,Pat.mk 6 (⟨0,0⟩:Sound) false 0 0 (Sl.nil:Sl Pat).n (Sl.nil:Sl Pat).g,(Sl.of [(⟨4,0⟩:Sound)]:Sl Sound),(Sl.nil:Sl Ai),1⟩:Law),(⟨[86],Pat.mk 1 (⟨4,0⟩:Sound) false 0 0 (Sl.nil:Sl Pat).n (Sl.nil:Sl Pat).g,Pat.mk 1 (⟨4,0⟩:Sound) false 0 0 (Sl.nil:Sl Pat).n (Sl.nil:Sl Pat).g,(Sl.of [(⟨2,0⟩:Sound)]:Sl Sound),(Sl.of [(⟨0,0,(⟨1,0⟩:Sound),0,0⟩:Ai)]:Sl Ai),1⟩:Law)]:Sl Law).g i)) false),(25000,.vec HN 2 (Sl.of [(⟨-1,[114]⟩:J1),(⟨0,[120]⟩:J1),(⟨1,[97]⟩:J1),(⟨1,[98]⟩:J1),(⟨0,[99]⟩:J1)]:Sl J1).n (fun i=>H0 ((Sl.of [(⟨-1,[114]⟩:J1),(⟨0,[120]⟩:J1),(⟨1,[97]⟩:J1),(⟨1,[98]⟩:J1),(⟨0,[99]⟩:J1)]:Sl J1).g i)) false),(1000,.cells [.p H7,.p H7,.p H7])]⟩ (ids:=[(1000,1000),(25000,25000),(29000,29000),(30000,30000),(31000,31000)]) ?_ (hle:=klR [(0,.fn 1 (Sl.of [1]:Sl Int).n (E4 [pI .i64 0] [(0,cI .i64 1)]) (fun i=>cI .i64 ((Sl.of [1]:Sl Int).g i))),(1,.fn 1 (Sl.of [0]:Sl Int).n (E4 [pI .i64 0] [(0,cI .i64 0)]) (fun i=>cI .i64 ((Sl.of [0]:Sl Int).g i))),(2,.fn 2 (Sl.of [(⟨[70],Pat.mk 0 (⟨0,0⟩:Sound) false 0 0 (Sl.nil:Sl Pat).n (Sl.nil:Sl Pat).g,Pat.mk 6 (⟨0,0⟩:Sound) false 0 0 (Sl.nil:Sl Pat).n (Sl.nil:Sl Pat).g,(Sl.of [(⟨4,0⟩:Sound)]:Sl Sound),(Sl.nil:Sl Ai),1⟩:Law),(⟨[86],Pat.mk 1 (⟨4,0⟩:Sound) false 0 0 (Sl.nil:Sl Pat).n (Sl.nil:Sl Pat).g,Pat.mk 1 (⟨4,0⟩:Sound) false 0 0 (Sl.nil:Sl Pat).n (Sl.nil:Sl Pat).g,(Sl.of [(⟨2,0⟩:Sound)]:Sl Sound),(Sl.of [(⟨0,0,(⟨1,0⟩:Sound),0,0⟩:Ai)]:Sl Ai),1⟩:Law)]:Sl Law).n (E4 [.str [],pI .i64 0,pI .u32 0,pI .u32 0,.v (.bool false),pI .i64 0,pI .i64 0,H7,pI .i64 0,pI .u32 0,pI .u32 0,.v (.bool false),pI .i64 0,pI .i64 0,H7,H7,H7,pI .i64 0] [(0,B3 (⟨[70],Pat.mk 0 (⟨0,0⟩:Sound) false 0 0 (Sl.nil:Sl Pat).n (Sl.nil:Sl Pat).g,Pat.mk 6 (⟨0,0⟩:Sound) false 0 0 (Sl.nil:Sl Pat).n (Sl.nil:Sl Pat).g,(Sl.of [(⟨4,0⟩:Sound)]:Sl Sound),(Sl.nil:Sl Ai),1⟩:Law)),(1,B3 (⟨[86],Pat.mk 1 (⟨4,0⟩:Sound) false 0 0 (Sl.nil:Sl Pat).n (Sl.nil:Sl Pat).g,Pat.mk 1 (⟨4,0⟩:Sound) false 0 0 (Sl.nil:Sl Pat).n (Sl.nil:Sl Pat).g,(Sl.of [(⟨2,0⟩:Sound)]:Sl Sound),(Sl.of [(⟨0,0,(⟨1,0⟩:Sound),0,0⟩:Ai)]:Sl Ai),1⟩:Law))]) (fun i=>B3 ((Sl.of [(⟨[70],Pat.mk 0 (⟨0,0⟩:Sound) false 0 0 (Sl.nil:Sl Pat).n (Sl.nil:Sl Pat).g,Pat.mk 6 (⟨0,0⟩:Sound) false 0 0 (Sl.nil:Sl Pat).n (Sl.nil:Sl Pat).g,(Sl.of [(⟨4,0⟩:Sound)]:Sl Sound),(Sl.nil:Sl Ai),1⟩:Law),(⟨[86],Pat.mk 1 (⟨4,0⟩:Sound) false 0 0 (Sl.nil:Sl Pat).n (Sl.nil:Sl Pat).g,Pat.mk 1 (⟨4,0⟩:Sound) false 0 0 (Sl.nil:Sl Pat).n (Sl.nil:Sl Pat).g,(Sl.of [(⟨2,0⟩:Sound)]:Sl Sound),(Sl.of [(⟨0,0,(⟨1,0⟩:Sound),0,0⟩:Ai)]:Sl Ai),1⟩:Law)]:Sl Law).g i)))] (al1 ⟨rfl,(fun i hi=>match i,hi with|0,_=>rfl|_+1,hi=>absurd hi (by omega))⟩ (al1 ⟨rfl,(fun i hi=>match i,hi with|0,_=>rfl|_+1,hi=>absurd hi (by omega))⟩ (al1 ⟨rfl,(fun i hi=>match i,hi with|0,_=>rfl|1,_=>rfl|_+2,hi=>absurd hi (by omega))⟩ al0))));refine ZY hS (rfl:true=true) 32 32000 (k:=1) (n:=5) (e:=NP) (vw:=false) (E4 [H7] [(0,[H7]),(1,cL 1 (cI .i64) (Sl.of [0]:Sl Int)),(2,[H7]),(3,cL 1 (cI .i64) (Sl.of [1]:Sl Int)),(4,[H7])]) (fun i=>cL 1 (cI .i64) ((Sl.of [(Sl.nil:Sl Int),(Sl.of [0]:Sl Int),(Sl.nil:Sl Int),(Sl.of [1]:Sl Int),(Sl.nil:Sl Int)]:Sl (Sl Int)).g i)) (fun i hi=>match i,hi with|0,_=>leCn|1,_=>leCr _|2,_=>leCn|3,_=>leCr _|4,_=>leCn|_+5,hi=>absurd hi (by omega)) ?_;refine K3 hS trivial 32 ⟨[(31,.p (vSl 1 (cL 1 (cI .i64)) (Sl.of [(Sl.nil:Sl Int),(Sl.of [0]:Sl Int),(Sl.nil:Sl Int),(Sl.of [1]:Sl Int),(Sl.nil:Sl Int)]:Sl (Sl Int)))),(28,.p (vSl 18 B3 (Sl.of [(⟨[70],Pat.mk 0 (⟨0,0⟩:Sound) false 0 0 (Sl.nil:Sl Pat).n (Sl.nil:Sl Pat).g,Pat.mk 6 (⟨0,0⟩:Sound) false 0 0 (Sl.nil:Sl Pat).n (Sl.nil:Sl Pat).g,(Sl.of [(⟨4,0⟩:Sound)]:Sl Sound),(Sl.nil:Sl Ai),1⟩:Law),(⟨[86],Pat.mk 1 (⟨4,0⟩:Sound) false 0 0 (Sl.nil:Sl Pat).n (Sl.nil:Sl Pat).g,Pat.mk 1 (⟨4,0⟩:Sound) false 0 0 (Sl.nil:Sl Pat).n (Sl.nil:Sl Pat).g,(Sl.of [(⟨2,0⟩:Sound)]:Sl Sound),(Sl.of [(⟨0,0,(⟨1,0⟩:Sound),0,0⟩:Ai)]:Sl Ai),1⟩:Law)]:Sl Law))),(25,.p (vSl 2 H0 (Sl.of [(⟨-1,[114]⟩:J1),(⟨0,[120]⟩:J1),(⟨1,[97]⟩:J1),(⟨1,[98]⟩:J1),(⟨0,[99]⟩:J1)]:Sl J1))),(0,.reg 1000 0)],[(1000,.cells [.p H7,.p H7,.p H7])]⟩ (ids:=[(1000,1000)]) ?_;cases h;exact kR hS
def AP (N:Nat)  : Option Bool:=
 (Gs N ).bind fun y1=>
 (CZ N y1 0 1).bind fun y2=>
 (AO N y1).bind fun y3=>
 (Fe N y1 10).bind fun y4=>
 (Da N y1).bind fun y5=>
 (BL N ).bind fun y6=>
 (N8 N y6).bind fun y7=>
 (BL N ).bind fun y8=>
 (Ed N y8 (Sl.of [(Sl.of [(⟨2,5⟩:Sound),(⟨5,2⟩:Sound)]:Sl Sound),(Sl.of [(⟨5,2⟩:Sound),(⟨2,5⟩:Sound),(⟨5,2⟩:Sound)]:Sl Sound)]:Sl (Sl Sound))).bind fun y9=>
 lt (fun (z1:Bool)=>
  some z1
  ) fun k1=>
  if (y2.1==2) then
   if (y2.2==0) then
    (J4 N y3.1 (Sl.of [(⟨0,1⟩:I7)]:Sl I7)).bind fun y15=>
    if y15 then
     if (y3.2==0) then
      if (y4.1.Langs==2) then
       (B8 N y4.1.Has (Sl.of [1,1,3,2]:Sl Int)).bind fun y16=>
       if y16 then
        if (y4.2==0) then
         (F7 N y5.1 (Sl.of [0,1]:Sl Int)).bind fun y17=>
         if y17 then
          if (y5.2==0) then
           if (y7.1.Langs==3) then
            (B8 N y7.1.Has (Sl.of [3,2]:Sl Int)).bind fun y18=>
            if y18 then
             if (y7.2==0) then
              (B8 N y9.1.Has (Sl.of [3,4,3,4]:Sl Int)).bind fun y19=>
              if y19 then
               k1 (y9.2==0)
              else
               k1 false
             else
              k1 false
            else
             k1 false
           else
            k1 false
          else
           k1 false
         else
          k1 false
        else
         k1 false
       else
        k1 false
      else
       k1 false
     else
      k1 false
    else
     k1 false
   else
    k1 false
  else
   k1 false
theorem KJ {N:Nat}    {y:Bool}(h:AP N  = some y) :FunO S JL [] [] (pB y) ([]) []:=by
 unfold AP at h;refine A2 hS QZ ?_;refine kC hS h (RM hS hL) (fun y1 h=>?_);refine H9 hS trivial 18 2000 [pI .i64 y1.Langs,vSl 1 (cI .u64) y1.Has] ?_;obtain⟨y2,e2,h⟩:=B5 h;refine B4 hS [] (by decide:(2:Nat)<=2) (LK hS hL e2) ?_;obtain⟨y3,e3,h⟩:=B5 h;refine B4 hS [] (by decide:(2:Nat)<=2) (HR hS hL e3) ?_;obtain⟨y4,e4,h⟩:=B5 h;refine B4 hS [] (by decide:(2:Nat)<=2) (PY hS hL e4) ?_;refine H9 hS trivial 7 7000 [pI .i64 y4.1.Langs,vSl 1 (cI .u64) y4.1.Has] ?_;obtain⟨y5,e5,h⟩:=B5 h;refine B4 hS [] (by decide:(2:Nat)<=2) (LL hS hL e5) ?_;refine kC hS h (Hm hS hL) (fun y6 h=>?_);refine kC hS h (IC hS hL) (fun y7 h=>?_);refine H9 hS trivial 11 11000 [pI .i64 y7.1.Langs,vSl 1 (cI .u64) y7.1.Has] ?_;refine Wc hS trivial 13000 [pI .u32 2,pI .u32 5] ?_;refine Wc hS trivial 14000 [pI .u32 5,pI .u32 2] ?_;refine G8 hS trivial [0,1,2,4,5,6,9] ?_;obtain⟨y8,e8,h⟩:=B5 h;refine BA trivial (Hm hS hL e8) ?_;refine CJ (And.intro (by decide:(2:Nat)<=2) (by decide:(2:Nat)<=2)) (x:=.sl true 2 2 (E4 [pI .u32 0,pI .u32 0] [(0,A0 (⟨2,5⟩:Sound)),(1,A0 (⟨5,2⟩:Sound))])) ?_;refine CJ (And.intro (And.intro (by decide:(2:Nat)<=2) (by decide:(2:Nat)<=2)) (by decide:(2:Nat)<=2)) (x:=.sl true 2 3 (E4 [pI .u32 0,pI .u32 0] [(0,A0 (⟨5,2⟩:Sound)),(1,A0 (⟨2,5⟩:Sound)),(2,A0 (⟨5,2⟩:Sound))])) ?_;refine CJ trivial (x:=.sl true 1 2 (E4 [H7] [(0,[.sl true 2 2 (E4 [pI .u32 0,pI .u32 0] [(0,A0 (⟨2,5⟩:Sound)),(1,A0 (⟨5,2⟩:Sound))])]),(1,[.sl true 2 3 (E4 [pI .u32 0,pI .u32 0] [(0,A0 (⟨5,2⟩:Sound)),(1,A0 (⟨2,5⟩:Sound)),(2,A0 (⟨5,2⟩:Sound))])])])) ?_;obtain⟨y9,e9,h⟩:=B5 h;refine BA trivial (FunO.le hS (args:=[(.p (.agg (A7 y8))),.p (.sl true 1 2 (E4 [H7] [(0,[.sl true 2 2 (E4 [pI .u32 0,pI .u32 0] [(0,A0 (⟨2,5⟩:Sound)),(1,A0 (⟨5,2⟩:Sound))])]),(1,[.sl true 2 3 (E4 [pI .u32 0,pI .u32 0] [(0,A0 (⟨5,2⟩:Sound)),(1,A0 (⟨2,5⟩:Sound)),(2,A0 (⟨5,2⟩:Sound))])])]))]) (by exact⟨.inl rfl,⟨Ad2 rfl (fun i hi=>match i,hi with|0,_=>leC1 rfl (fun i hi=>match i,hi with|0,_=>rfl|1,_=>rfl|_+2,hi=>absurd hi (by omega))|1,_=>leC1 rfl (fun i hi=>match i,hi with|0,_=>rfl|1,_=>rfl|2,_=>rfl|_+3,hi=>absurd hi (by omega))|_+2,hi=>absurd hi (by omega)),trivial⟩⟩) (Og hS hL e9)) ?_;refine O0 trivial ?_;refine H9 hS trivial 57 15000 [pI .i64 y9.1.Langs,vSl 1 (cI .u64) y9.1.Has] ?_;refine IW hS trivial (A5 hS) h 0 (fun z1=>⟨[(0,pB z1)],[]⟩) (fun M1 k1 hb1 h=>?_) (fun z1 h=>?_)
 ·refine kG hS h (fun h=>?_) (fun h=>?_)
  ·refine kG hS h (fun h=>?_) (fun h=>?_)
   ·refine Cw hS (rfl:true=true) ⟨[(66,.vec 67000),(64,.p (vSl 2 N3 y3.1)),(63,.p (.v (.bool true))),(15,pN y9.2),(14,.p (.ptr [pI .i64 y9.1.Langs,vSl 1 (cI .u64) y9.1.Has])),(11,pN y7.2),(10,.p (.ptr [pI .i64 y7.1.Langs,vSl 1 (cI .u64) y7.1.Has])),(9,pN y5.2),(8,.p (vSl 1 (cI .i64) y5.1)),(7,pN y4.2),(6,.p (.ptr [pI .i64 y4.1.Langs,vSl 1 (cI .u64) y4.1.Has])),(5,pN y3.2)],[(67000,.vec NQ 2 (Sl.of [(⟨0,1⟩:I7)]:Sl I7).n (fun i=>N3 ((Sl.of [(⟨0,1⟩:I7)]:Sl I7).g i)) false)]⟩ (ids:=[(67000,67000)]) ?_ (hle:=klR [(11,.fn 1 (Sl.of [(⟨0,1⟩:I7)]:Sl I7).n (E4 [pI .i64 0,pI .i64 0] [(0,N3 (⟨0,1⟩:I7))]) (fun i=>N3 ((Sl.of [(⟨0,1⟩:I7)]:Sl I7).g i)))] (al1 ⟨rfl,(fun i hi=>match i,hi with|0,_=>rfl|_+1,hi=>absurd hi (by omega))⟩ al0));refine kC hS h (Bv hS hL) (fun y15 h=>?_);refine kG hS h (fun h=>?_) (fun h=>?_)
    ·refine kG hS h (fun h=>?_) (fun h=>?_)
     ·refine kG hS h (fun h=>?_) (fun h=>?_)
      ·refine Cw hS (rfl:true=true) ⟨[(81,.vec 82000),(80,.p (vSl 1 (cI .u64) y4.1.Has)),(78,.p (.v (.bool true))),(15,pN y9.2),(14,.p (.ptr [pI .i64 y9.1.Langs,vSl 1 (cI .u64) y9.1.Has])),(11,pN y7.2),(10,.p (.ptr [pI .i64 y7.1.Langs,vSl 1 (cI .u64) y7.1.Has])),(9,pN y5.2),(8,.p (vSl 1 (cI .i64) y5.1)),(7,pN y4.2)],[(82000,.vec P5 1 (Sl.of [1,1,3,2]:Sl Int).n (fun i=>cI .u64 ((Sl.of [1,1,3,2]:Sl Int).g i)) false)]⟩ (ids:=[(82000,82000)]) ?_ (hle:=klR [(9,.fn 4 (Sl.of [1,1,3,2]:Sl Int).n (E4 [pI .u64 0] [(0,cI .u64 1),(1,cI .u64 1),(2,cI .u64 3),(3,cI .u64 2)]) (fun i=>cI .u64 ((Sl.of [1,1,3,2]:Sl Int).g i)))] (al1 ⟨rfl,(fun i hi=>match i,hi with|0,_=>rfl|1,_=>rfl|2,_=>rfl|3,_=>rfl|_+4,hi=>absurd hi (by omega))⟩ al0));refine kC hS h (E8 hS hL) (fun y16 h=>?_);refine kG hS h (fun h=>?_) (fun h=>?_)
       ·refine kG hS h (fun h=>?_) (fun h=>?_)
        ·refine Cw hS (rfl:true=true) ⟨[(90,.vec 91000),(89,.p (vSl 1 (cI .i64) y5.1)),(88,.p (.v (.bool true))),(15,pN y9.2),(14,.p (.ptr [pI .i64 y9.1.Langs,vSl 1 (cI .u64) y9.1.Has])),(11,pN y7.2),(10,.p (.ptr [pI .i64 y7.1.Langs,vSl 1 (cI .u64) y7.1.Has])),(9,pN y5.2)],[(91000,.vec D2 1 (Sl.of [0,1]:Sl Int).n (fun i=>cI .i64 ((Sl.of [0,1]:Sl Int).g i)) false)]⟩ (ids:=[(91000,91000)]) ?_ (hle:=klR [(7,.fn 2 (Sl.of [0,1]:Sl Int).n (E4 [pI .i64 0] [(0,cI .i64 0),(1,cI .i64 1)]) (fun i=>cI .i64 ((Sl.of [0,1]:Sl Int).g i)))] (al1 ⟨rfl,(fun i hi=>match i,hi with|0,_=>rfl|1,_=>rfl|_+2,hi=>absurd hi (by omega))⟩ al0));refine kC hS h (CY hS hL) (fun y17 h=>?_);refine kG hS h (fun h=>?_) (fun h=>?_)
         ·refine kG hS h (fun h=>?_) (fun h=>?_)
          ·refine kG hS h (fun h=>?_) (fun h=>?_)
           ·refine Cw hS (rfl:true=true) ⟨[(105,.vec 106000),(104,.p (vSl 1 (cI .u64) y7.1.Has)),(102,.p (.v (.bool true))),(15,pN y9.2),(14,.p (.ptr [pI .i64 y9.1.Langs,vSl 1 (cI .u64) y9.1.Has])),(11,pN y7.2)],[(106000,.vec P5 1 (Sl.of [3,2]:Sl Int).n (fun i=>cI .u64 ((Sl.of [3,2]:Sl Int).g i)) false)]⟩ (ids:=[(106000,106000)]) ?_ (hle:=klR [(5,.fn 2 (Sl.of [3,2]:Sl Int).n (E4 [pI .u64 0] [(0,cI .u64 3),(1,cI .u64 2)]) (fun i=>cI .u64 ((Sl.of [3,2]:Sl Int).g i)))] (al1 ⟨rfl,(fun i hi=>match i,hi with|0,_=>rfl|1,_=>rfl|_+2,hi=>absurd hi (by omega))⟩ al0));refine kC hS h (E8 hS hL) (fun y18 h=>?_);refine kG hS h (fun h=>?_) (fun h=>?_)
            ·refine kG hS h (fun h=>?_) (fun h=>?_)
             ·refine Cw hS (rfl:true=true) ⟨[(115,.vec 116000),(114,.p (vSl 1 (cI .u64) y9.1.Has)),(112,.p (.v (.bool true))),(15,pN y9.2)],[(116000,.vec P5 1 (Sl.of [3,4,3,4]:Sl Int).n (fun i=>cI .u64 ((Sl.of [3,4,3,4]:Sl Int).g i)) false)]⟩ (ids:=[(116000,116000)]) ?_ (hle:=klR [(3,.fn 4 (Sl.of [3,4,3,4]:Sl Int).n (E4 [pI .u64 0] [(0,cI .u64 3),(1,cI .u64 4),(2,cI .u64 3),(3,cI .u64 4)]) (fun i=>cI .u64 ((Sl.of [3,4,3,4]:Sl Int).g i)))] (al1 ⟨rfl,(fun i hi=>match i,hi with|0,_=>rfl|1,_=>rfl|2,_=>rfl|3,_=>rfl|_+4,hi=>absurd hi (by omega))⟩ al0));refine kC hS h (E8 hS hL) (fun y19 h=>?_);refine kG hS h (fun h=>?_) (fun h=>?_)
              ·exact hb1 _ [] _ (y9.2==0) trivial h
              ·exact hb1 _ [] _ false trivial h
             ·exact hb1 _ [] _ false trivial h
            ·exact hb1 _ [] _ false trivial h
           ·exact hb1 _ [] _ false trivial h
          ·exact hb1 _ [] _ false trivial h
         ·exact hb1 _ [] _ false trivial h
        ·exact hb1 _ [] _ false trivial h
       ·exact hb1 _ [] _ false trivial h
      ·exact hb1 _ [] _ false trivial h
     ·exact hb1 _ [] _ false trivial h
    ·exact hb1 _ [] _ false trivial h
   ·exact hb1 _ [] _ false trivial h
  ·exact hb1 _ [] _ false trivial h
 ·cases h;exact kR hS
end Go.AM
namespace Go.AM
open Go.Proofs
set_option maxRecDepth 10000
set_option maxHeartbeats 2000000
variable {S:X1}(hS:F4 S Tryz.prog) (hL:MF S)
include hS hL
def Dy (N:Nat)(p_t:A3)(p_r:R9):Option Bool:=
 lt (fun (z1:Bool)=>
  some z1
  ) fun k1=>
  if (p_t.Langs==p_r.Langs) then
   (B8 N p_t.Has p_r.Has).bind fun y2=>
   k1 y2
  else
   k1 false
theorem Uz {N:Nat}{p_t:A3}{p_r:R9}{y:Bool}(h:Dy N p_t p_r=some y) :FunO S Mt [.p (.agg (C7 p_t)),.p (.agg (JK p_r))] [] (pB y) ([]) []:=by
 unfold Dy at h;refine A2 hS TZ ?_;refine IW hS trivial (A5 hS) h 0 (fun z1=>⟨[(4,pB z1)],[]⟩) (fun M1 k1 hb1 h=>?_) (fun z1 h=>?_)
 ·refine kG hS h (fun h=>?_) (fun h=>?_)
  ·refine kC hS h (E8 hS hL) (fun y2 h=>?_);exact hb1 _ [] _ y2 trivial h
  ·exact hb1 _ [] _ false trivial h
 ·cases h;exact kR hS
end Go.AM
namespace Go.AM
open Go.Proofs
set_option maxRecDepth 10000
set_option maxHeartbeats 2000000
variable {S:X1}(hS:F4 S Tryz.prog) (hL:MF S)
include hS hL
end Go.AM
namespace Go.AM
open IntKind (wrap)
open Go.Proofs
set_option maxRecDepth 10000
set_option maxHeartbeats 2000000
variable {S:X1}(hS:F4 S Tryz.prog) (hL:MF S)
include hS hL
def Cq (N:Nat)(p_h:A8):Option Bool:=
 if (((decide (70<(p_h.Tree.n:Int)))||(decide (70<(p_h.Laws.n:Int))))||(decide (70<(p_h.On.n:Int)))) then
  some false
 else
  Az N (fun self1 (x1:Int)=>
   if (decide (x1<(p_h.On.n:Int))) then
    if ((0:Int)<=x1/\x1<(p_h.On.n:Int))then
     if (decide (70<((p_h.On.g x1.toNat).n:Int))) then
      some false
     else
      self1 (wrap .i64 (x1+1))
    else none
   else
    Az N (fun self2 (x3:Int)=>
     if (decide (x3<(p_h.Laws.n:Int))) then
      if (((0:Int)<=x3/\x3<(p_h.Laws.n:Int))/\((0:Int)<=x3/\x3<=(wrap .i64 (x3+1))/\(wrap .i64 (x3+1))<=(p_h.Laws.n:Int)))then
       (BQ N (p_h.Laws.sub x3.toNat (wrap .i64 (x3+1)).toNat)).bind fun y11=>
       lt (fun (z3:Bool)=>
        if z3 then
         some false
        else
         self2 (wrap .i64 (x3+1))
        ) fun k3=>
        if (decide (4<y11)) then
         k3 true
        else
         if (decide (20<((p_h.Laws.g x3.toNat).If.n:Int))) then
          k3 true
         else
          if (decide (20<((p_h.Laws.g x3.toNat).Out.n:Int))) then
           k3 true
          else
           (U7 N (p_h.Laws.g x3.toNat).Left).bind fun y14=>
           if (decide (41<y14)) then
            k3 true
           else
            (U7 N (p_h.Laws.g x3.toNat).Right).bind fun y15=>
            k3 (decide (41<y15))
      else none
     else
      some true
     ) 0
   ) 0
theorem RN {N:Nat}{p_h:A8}{y:Bool}(h:Cq N p_h=some y) :FunO S JR [.p (.agg (A7 p_h))] [] (pB y) ([]) []:=by
 unfold Cq at h;refine A2 hS Re ?_;refine kB hS (A5 hS) trivial trivial 11 (.o (.o (.a (decide (70<(p_h.Tree.n:Int)))) (.a (decide (70<(p_h.Laws.n:Int))))) (.a (decide (70<(p_h.On.n:Int))))) ?_;refine kI hS h (fun h=>?_) (fun h=>?_)
 ·cases h;exact kR hS
 ·refine N0 hS trivial h (fun x1=>⟨[(3,pN x1),(1,.reg 2000 0)],[(2000,.cells ((A7 p_h).map .p))]⟩) (ids:=[(2000,2000)]) (fun _ _ _ _ _ self1 x1 hb1 h=>?_);refine kI hS h (fun h=>?_) (fun h=>?_)
  ·obtain⟨c9,h⟩:=E2 h;refine D3 hS c9 (b:=decide (70<((p_h.On.g x1.toNat).n:Int))) (fun c10=>?_) (fun c10=>?_)
   ·replace h:=itT c10 h;cases h;exact kR hS
   ·replace h:=itF c10 h;exact hb1 _ [(2000,2000)] _ (wrap .i64 (x1+1)) trivial h
  ·refine N0 hS trivial h (fun x3=>⟨[(4,pN x3),(1,.reg 2000 0)],[(2000,.cells ((A7 p_h).map .p))]⟩) (ids:=[(2000,2000)]) (fun _ _ _ _ _ self2 x3 hb4 h=>?_);refine kI hS h (fun h=>?_) (fun h=>?_)
   ·obtain⟨c40,h⟩:=E2 h;obtain⟨y11,e11,h⟩:=B5 h;refine B4 hS [] (And.intro (And.intro c40.1 (by decide:(18:Nat)<=18)) c40.2) (Ur hS hL e11) ?_;refine IW hS trivial (A5 hS) h 0 (fun z3=>⟨[(79,pB z3),(4,pN x3),(1,.reg 2000 0)],[(2000,.cells ((A7 p_h).map .p))]⟩) (fun M3 k3 hb5 h=>?_) (fun z3 h=>?_)
    ·refine kG hS h (fun h=>?_) (fun h=>?_)
     ·exact hb5 _ [(2000,2000)] _ true trivial h
     ·refine kG hS h (fun h=>?_) (fun h=>?_)
      ·exact hb5 _ [(2000,2000)] _ true trivial h
      ·refine kG hS h (fun h=>?_) (fun h=>?_)
       ·exact hb5 _ [(2000,2000)] _ true trivial h
       ·refine kC hS h (Dv hS hL) (fun y14 h=>?_);refine kG hS h (fun h=>?_) (fun h=>?_)
        ·exact hb5 _ [(2000,2000)] _ true trivial h
        ·refine kC hS h (Dv hS hL) (fun y15 h=>?_);exact hb5 _ [(2000,2000)] _ (decide (41<y15)) trivial h
    ·refine kI hS h (fun h=>?_) (fun h=>?_)
     ·cases h;exact kR hS
     ·exact hb4 _ [(2000,2000)] _ (wrap .i64 (x3+1)) trivial h
   ·cases h;exact kR hS
def Cr (N:Nat)(p_h:A8)(p_l:Sl (Sl Sound)):Option Bool:=
 (Cq N p_h).bind fun y1=>
 if ((!y1)||(decide (300<(p_l.n:Int)))) then
  some false
 else
  Bj N (fun self1 (x1:Int) (x2:Int)=>
   if (decide (x2<(p_l.n:Int))) then
    if ((0:Int)<=x2/\x2<(p_l.n:Int))then
     if (decide (50<((p_l.g x2.toNat).n:Int))) then
      some false
     else
      self1 (wrap .i64 (x1+(wrap .i64 ((wrap .i64 (((p_l.g x2.toNat).n:Int)+1))*(wrap .i64 (((p_l.g x2.toNat).n:Int)+1)))))) (wrap .i64 (x2+1))
    else none
   else
    if ((decide ((p_l.n:Int)<=256))&&(decide (1500<x1))) then
     some false
    else
     (T2 N p_h).bind fun y2=>
     if (y2 != 0) then
      some true
     else
      Bj N (fun self2 (x3:Int) (x4:Int)=>
       if (decide (x4<(p_h.Laws.n:Int))) then
        if ((0:Int)<=x4/\x4<(p_h.Laws.n:Int))then
         (U7 N (p_h.Laws.g x4.toNat).Left).bind fun y7=>
         (U7 N (p_h.Laws.g x4.toNat).Right).bind fun y8=>
         self2 (wrap .i64 (x3+(wrap .i64 ((wrap .i64 (y7+y8))-2)))) (wrap .i64 (x4+1))
        else none
       else
        Bj N (fun self3 (x5:Int) (x6:Int)=>
         if (decide (x6<(p_h.On.n:Int))) then
          if ((0:Int)<=x6/\x6<(p_h.On.n:Int))then
           self3 (wrap .i64 (x5+((p_h.On.g x6.toNat).n:Int))) (wrap .i64 (x6+1))
          else none
         else
          some (decide ((wrap .i64 (x3*x5))<=1200))
         ) 0 0
       ) 4 0
   ) 0 0
theorem RO {N:Nat}{p_h:A8}{p_l:Sl (Sl Sound)}{y:Bool}(h:Cr N p_h p_l=some y) :FunO S JM [.p (.agg (A7 p_h)),.p (vSl 1 (cL 2 A0) p_l)] [] (pB y) ([]) []:=by
 unfold Cr at h;refine A2 hS Ra ?_;refine H9 hS trivial 4 3000 (A7 p_h) ?_;obtain⟨y1,e1,h⟩:=B5 h;refine B4 hS [] (by decide:(3:Nat)<=3) (RN hS hL e1) ?_;refine kB hS (A5 hS) trivial trivial 4 (.o (.a (!y1)) (.a (decide (300<(p_l.n:Int))))) ?_;refine kI hS h (fun h=>?_) (fun h=>?_)
 ·cases h;exact kR hS
 ·refine G0 hS trivial h (fun x1 x2=>⟨[(24,pN x2),(23,pN (p_l.n:Int)),(22,.p (vSl 1 (cL 2 A0) p_l)),(5,pN x1),(2,.p (.ptr (A7 p_h))),(1,.p (vSl 1 (cL 2 A0) p_l))],[]⟩) (ids:=[]) (fun _ _ _ _ _ self1 x1 x2 hb1 h=>?_);refine kI hS h (fun h=>?_) (fun h=>?_)
  ·obtain⟨c9,h⟩:=E2 h;refine D3 hS c9 (b:=decide (50<((p_l.g x2.toNat).n:Int))) (fun c10=>?_) (fun c10=>?_)
   ·replace h:=itT c10 h;cases h;exact kR hS
   ·replace h:=itF c10 h;exact hb1 _ [] _ (wrap .i64 (x1+(wrap .i64 ((wrap .i64 (((p_l.g x2.toNat).n:Int)+1))*(wrap .i64 (((p_l.g x2.toNat).n:Int)+1)))))) (wrap .i64 (x2+1)) trivial h
  ·refine kB hS (A5 hS) trivial trivial 3 (.n (.a (decide ((p_l.n:Int)<=256))) (.a (decide (1500<x1)))) ?_;refine kI hS h (fun h=>?_) (fun h=>?_)
   ·cases h;exact kR hS
   ·obtain⟨y2,e2,h⟩:=B5 h;refine B4 hS [] (by decide:(3:Nat)<=3) (Gp hS hL e2) ?_;refine kI hS h (fun h=>?_) (fun h=>?_)
    ·cases h;exact kR hS
    ·refine G0 hS trivial h (fun x3 x4=>⟨[(54,pN x4),(53,pN (p_h.Laws.n:Int)),(52,.p (vSl 18 B3 p_h.Laws)),(9,pN 0),(8,pN x3),(2,.p (.ptr (A7 p_h)))],[]⟩) (ids:=[]) (fun _ _ _ _ _ self2 x3 x4 hb2 h=>?_);refine kI hS h (fun h=>?_) (fun h=>?_)
     ·obtain⟨c18,h⟩:=E2 h;refine Wc hS (And.intro c18 (by decide:(18:Nat)<=18)) 12000 (B3 (p_h.Laws.g x4.toNat)) ?_;refine G8 hS trivial [2,3,5,6] ?_;obtain⟨y7,e7,h⟩:=B5 h;refine BA (by decide:(7:Nat)<=17) (Dv hS hL e7) ?_;obtain⟨y8,e8,h⟩:=B5 h;refine BA (by decide:(7:Nat)<=10) (Dv hS hL e8) ?_;refine O0 trivial ?_;exact hb2 _ [] _ (wrap .i64 (x3+(wrap .i64 ((wrap .i64 (y7+y8))-2)))) (wrap .i64 (x4+1)) trivial h
     ·refine G0 hS trivial h (fun x5 x6=>⟨[(72,pN x6),(71,pN (p_h.On.n:Int)),(70,.p (vSl 1 (cL 1 (cI .i64)) p_h.On)),(9,pN x5),(8,pN x3)],[]⟩) (ids:=[]) (fun _ _ _ _ _ self3 x5 x6 hb3 h=>?_);refine kI hS h (fun h=>?_) (fun h=>?_)
      ·obtain⟨c22,h⟩:=E2 h;exact hb3 _ [] _ (wrap .i64 (x5+((p_h.On.g x6.toNat).n:Int))) (wrap .i64 (x6+1)) c22 h
      ·cases h;exact kR hS
def Ag (N:Nat)(p_h:A8):Option (R9×Int):=
 (T2 N p_h).bind fun y1=>
 if (y1 != 0) then
  some ((⟨0,(Sl.nil:Sl Int)⟩:R9),y1)
 else
  (Af N p_h.Tree).bind fun y2=>
  if (decide (32<(y2.1.n:Int))) then
   some ((⟨0,(Sl.nil:Sl Int)⟩:R9),12)
  else
   Bj N (fun self9 (x9:Sl Int) (x10:Int)=>
    if (decide (x10<(p_h.Laws.n:Int))) then
     Bj N (fun self12 (x21:Int) (x22:Int)=>
      if (decide (x22<(y2.1.n:Int))) then
       if (((0:Int)<=x22/\x22<(y2.1.n:Int))/\x22.toNat<y2.1.n)then
        (BU N p_h (y2.1.g x22.toNat)).bind fun y11=>
        Bj N (fun self13 (x25:Int) (x26:Int)=>
         if (decide (x26<(y11.1.n:Int))) then
          if (((0:Int)<=x26/\x26<(y11.1.n:Int))/\x26.toNat<y11.1.n)then
           if ((y11.1.g x26.toNat)==x10) then
            if (0:Int)<=x22 then
             self13 (D9 .or .u64 x25 (shI .shl .u64 1 x22)) (wrap .i64 (x26+1))
            else none
           else
            self13 x25 (wrap .i64 (x26+1))
          else none
         else
          self12 x25 (wrap .i64 (x22+1))
         ) x21 0
       else none
      else
       if ((x9.n+(Sl.of [x21]:Sl Int).n)*8<=140737488355328/\x9.n+(Sl.of [x21]:Sl Int).n<=140737488355328)then
        self9 (x9.push x21) (wrap .i64 (x10+1))
       else none
      ) 0 0
    else
     some ((⟨(y2.1.n:Int),x9⟩:R9),0)
    ) (Sl.nil:Sl Int) 0
theorem UA {N:Nat}{p_h:A8}{y:R9×Int}(h:Ag N p_h=some y) :FunO S Mu [.p (.agg (A7 p_h))] [] (.tup [.p (.agg (JK y.1)),pN y.2]) ([]) []:=by
 unfold Ag at h;refine A2 hS Ua ?_;refine H9 hS trivial 2 2000 (A7 p_h) ?_;obtain⟨y1,e1,h⟩:=B5 h;refine B4 hS [] (by decide:(3:Nat)<=3) (Gp hS hL e1) ?_;refine kI hS h (fun h=>?_) (fun h=>?_)
 ·obtain rfl:=B6 h;exact A6 hS trivial ⟨[(3,pN y1),(2,.reg 3000 0)],[(3000,.cells [pN 0,.p (vSl 1 (cI .u64) (Sl.nil:Sl Int))])]⟩ [] (ids:=[(3000,3000)]) ⟨rfl,rfl,rfl⟩
 ·refine kC hS h (PX hS hL) (fun y2 h=>?_);refine kI hS h (fun h=>?_) (fun h=>?_)
  ·obtain rfl:=B6 h;exact A6 hS trivial ⟨[(3,pN 12),(2,.reg 3000 0)],[(3000,.cells [pN 0,.p (vSl 1 (cI .u64) (Sl.nil:Sl Int))])]⟩ [] (ids:=[(3000,3000)]) ⟨rfl,rfl,rfl⟩
  ·refine G0 hS trivial h (fun x9 x10=>⟨[(8,pN x10),(7,.reg 8000 0),(5,.vec 24000),(2,.reg 3000 0),(1,.p (.ptr (A7 p_h)))],[(24000,.vec D2 1 y2.1.n (fun i=>cI .i64 (y2.1.g i)) true),(8500,.vec P5 1 x9.n (fun i=>cI .u64 (x9.g i)) false),(8000,.cells [pN (y2.1.n:Int),.vec 8500]),(3000,.cells [pN 0,.p H7])]⟩) (ids:=[(3000,3000),(8000,8000),(24000,24000)]) (fun _ _ _ _ _ self9 x9 x10 hb9 h=>?_);refine kI hS h (fun h=>?_) (fun h=>?_)
   ·refine G0 hS trivial h (fun x21 x22=>⟨[(10,pN x22),(9,.p (pI .u64 x21)),(8,pN x10),(7,.reg 8000 0),(5,.vec 24000),(2,.reg 3000 0),(1,.p (.ptr (A7 p_h)))],[(24000,.vec D2 1 y2.1.n (fun i=>cI .i64 (y2.1.g i)) true),(8500,.vec P5 1 x9.n (fun i=>cI .u64 (x9.g i)) false),(8000,.cells [pN (y2.1.n:Int),.vec 8500]),(3000,.cells [pN 0,.p H7])]⟩) (ids:=[(3000,3000),(8000,8000),(8500,8500),(24000,24000)]) (fun _ _ _ _ _ self12 x21 x22 hb12 h=>?_);refine kI hS h (fun h=>?_) (fun h=>?_)
    ·refine G8 hS trivial [0] ?_;obtain⟨c100,h⟩:=E2 h;obtain⟨y11,e11,h⟩:=B5 h;refine SM [] (And.intro (And.intro (by decide:(3:Nat)<=3) c100.1) c100.2) (Ux hS hL e11) ?_;refine O0 trivial ?_;refine G0 hS trivial h (fun x25 x26=>⟨[(13,pN x26),(11,.vec 53000),(10,pN x22),(9,.p (pI .u64 x25)),(8,pN x10),(7,.reg 8000 0),(5,.vec 24000),(2,.reg 3000 0),(1,.p (.ptr (A7 p_h)))],[(53000,.vec D2 1 y11.1.n (fun i=>cI .i64 (y11.1.g i)) true),(24000,.vec D2 1 y2.1.n (fun i=>cI .i64 (y2.1.g i)) true),(8500,.vec P5 1 x9.n (fun i=>cI .u64 (x9.g i)) false),(8000,.cells [pN (y2.1.n:Int),.vec 8500]),(3000,.cells [pN 0,.p H7])]⟩) (ids:=[(3000,3000),(8000,8000),(8500,8500),(24000,24000),(53000,53000)]) (fun _ _ _ _ _ self13 x25 x26 hb13 h=>?_);refine kI hS h (fun h=>?_) (fun h=>?_)
     ·obtain⟨c108,h⟩:=E2 h;refine D3 hS c108 (b:=(y11.1.g x26.toNat)==x10) (fun c109=>?_) (fun c109=>?_)
      ·replace h:=itT c109 h;obtain⟨c110,h⟩:=E2 h;exact hb13 _ [(3000,3000),(8000,8000),(8500,8500),(24000,24000),(53000,53000)] _ (D9 .or .u64 x25 (shI .shl .u64 1 x22)) (wrap .i64 (x26+1)) c110 h
      ·replace h:=itF c109 h;exact hb13 _ [(3000,3000),(8000,8000),(8500,8500),(24000,24000),(53000,53000)] _ x25 (wrap .i64 (x26+1)) trivial h
     ·exact hb12 _ [(3000,3000),(8000,8000),(8500,8500),(24000,24000)] _ x25 (wrap .i64 (x22+1)) trivial h
    ·obtain⟨c111,h⟩:=E2 h;exact hb9 _ [(3000,3000),(8000,8000),(8500,76000),(24000,24000)] _ (x9.push x21) (wrap .i64 (x10+1)) (And.intro (rfl:true=true) c111) h (hle:=klR [(3,.fn (x9.n+1) (x9.push x21).n (AW x9.n (fun i=>cI .u64 (x9.g i)) (E4 [pI .u64 0] [(0,cI .u64 x21)])) (fun i=>cI .u64 ((x9.push x21).g i)))] (al1 ⟨rfl,Mo (c:=cI .u64) (v:=x9) (x:=x21) (z:=[(pI .u64 0)]) same rfl rfl⟩ al0))
   ·obtain rfl:=B6 h;exact A6 hS trivial ⟨[(3,pN 0),(2,.reg 3000 0)],[(3000,.cells [pN (y2.1.n:Int),.p (vSl 1 (cI .u64) x9)])]⟩ [] (ids:=[(3000,3000)]) ⟨rfl,rfl,rfl⟩
def Ax (N:Nat)(p_h:A8):Option Bool:=
 (Cr N p_h (Sl.nil:Sl (Sl Sound))).bind fun y1=>
 if (!y1) then
  (AP N ).bind fun y2=>
  some y2
 else
  (N8 N p_h).bind fun y3=>
  (Ag N p_h).bind fun y4=>
  (Dy N y3.1 y4.1).bind fun y5=>
  lt (fun (z1:Bool)=>
   some z1
   ) fun k1=>
   if y5 then
    if (y3.2==y4.2) then
     (AP N ).bind fun y7=>
     k1 y7
    else
     k1 false
   else
    k1 false
theorem Ja {N:Nat}{p_h:A8}{y:Bool}(h:Ax N p_h=some y) :FunO S BV [.p (.agg (A7 p_h))] [] (pB y) ([]) []:=by
 unfold Ax at h;refine A2 hS Ev ?_;obtain⟨y1,e1,h⟩:=B5 h;refine B4 hS [] trivial (FunO.le hS (args:=[(.p (.agg (A7 p_h))),.p H7]) (by exact⟨.inl rfl,⟨Ah9,trivial⟩⟩) (RO hS hL e1)) ?_;refine kI hS h (fun h=>?_) (fun h=>?_)
 ·refine kC hS h (KJ hS hL) (fun y2 h=>?_);cases h;exact kR hS
 ·refine kC hS h (IC hS hL) (fun y3 h=>?_);refine kC hS h (UA hS hL) (fun y4 h=>?_);refine kC hS h (Uz hS hL) (fun y5 h=>?_);refine IW hS trivial (A5 hS) h 0 (fun z1=>⟨[(2,pB z1)],[]⟩) (fun M1 k1 hb1 h=>?_) (fun z1 h=>?_)
  ·refine kG hS h (fun h=>?_) (fun h=>?_)
   ·refine kG hS h (fun h=>?_) (fun h=>?_)
    ·refine kC hS h (KJ hS hL) (fun y7 h=>?_);exact hb1 _ [] _ y7 trivial h
    ·exact hb1 _ [] _ false trivial h
   ·exact hb1 _ [] _ false trivial h
  ·cases h;exact kR hS
end Go.AM
namespace Go.AM
open Go.Proofs
set_option maxRecDepth 10000
set_option maxHeartbeats 2000000
variable {S:X1}(hS:F4 S Tryz.prog) (hL:MF S)
include hS hL
end Go.AM
namespace Go.AM
set_option maxRecDepth 1000000
theorem Tl:AP 4194304=some true:=by decide +kernel
end Go.AM
namespace Go.AM
open IntKind (wrap)
open Go.Proofs
theorem Yd {A R:Type}{body:(A->Option R)->A->Option R}(I:Nat->A->Prop)(n:Nat)(H6:R->Prop)
 (hstep:∀self i a,i<=n->I i a->(i<n->∀a',I (i+1) a' -> ∃r,self a' = some r/\H6 r)->∃r,body self a=some r/\H6 r) :
 ∀(N i:Nat) (a:A),i<=n->I i a->n-i<N->∃r,Az N body a=some r/\H6 r
 |0,_,_,_,_,h=>by omega
 |N+1,i,a,hi,hI,h=>by rw[GL];exact hstep _ i a hi hI fun hlt a' hI'=>Yd I n H6 hstep N (i+1) a' hlt hI' (by omega)
theorem Eu {A R:Type}{body:(A->Option R)->A->Option R}(I:Nat->A->Prop)(n:Nat)(H6:R->Prop){N:Nat}(hN:n<N){a:A}(h0:I 0 a)
 (hstep:∀self i a,i<=n->I i a->(i<n->∀a',I (i+1) a' -> ∃r,self a' = some r/\H6 r)->∃r,body self a=some r/\H6 r):∃r,Az N body a=some r/\H6 r:=
 Yd I n H6 hstep N 0 a (Nat.zero_le _) h0 hN
theorem Db {A B R:Type}{body:(A->B->Option R)->A->B->Option R}(I:Nat->A->B->Prop)(n:Nat)(H6:R->Prop){N:Nat}(hN:n<N){a:A}{b:B}(h0:I 0 a b)
 (hstep:∀self i a b,i<=n->I i a b->(i<n->∀a' b',I (i+1) a' b' -> ∃r,self a' b' = some r/\H6 r)->∃r,body self a b=some r/\H6 r):∃r,Bj N body a b=some r/\H6 r:=
 Yd (fun i x=>I i x.1 x.2) n H6 (fun self i x hi hI h=>hstep (fun a b=>self (a,b)) i x.1 x.2 hi hI fun hl a' b' hI'=>h hl (a',b') hI') N 0 (a,b) (Nat.zero_le _) h0 hN
theorem loop3 {A B C R:Type}{body:(A->B->C->Option R)->A->B->C->Option R}(I:Nat->A->B->C->Prop)(n:Nat)(H6:R->Prop){N:Nat}(hN:n<N){a:A}{b:B}{c:C}(h0:I 0 a b c)
 (hstep:∀self i a b c,i<=n->I i a b c->(i<n->∀a' b' c',I (i+1) a' b' c' -> ∃r,self a' b' c' = some r/\H6 r)->∃r,body self a b c=some r/\H6 r):∃r,Ac5 N body a b c=some r/\H6 r:=
 Yd (fun i x=>I i x.1 x.2.1 x.2.2) n H6 (fun self i x hi hI h=>hstep (fun a b c=>self (a,b,c)) i x.1 x.2.1 x.2.2 hi hI fun hl a' b' c' hI'=>h hl (a',b',c') hI') N 0 (a,b,c) (Nat.zero_le _) h0 hN
theorem I5 {X R:Type}{Q:R->Prop}{o:Option X}{f:X->Option R}{x:X}(h:o=some x)(h2:∃r,f x=some r/\Q r):∃r,o.bind f=some r/\Q r:=by subst h;exact h2
theorem ltX {R A:Type}{Q:R->Prop}{k:A->Option R}{f:(A->Option R)->Option R}(h:∃r,f k=some r/\Q r):∃r,lt k f=some r/\Q r:=h
theorem ifT {R:Type}{Q:R->Prop}{p:Prop}[Decidable p]{a b:Option R}(h:p)(h2:∃r,a=some r/\Q r):∃r,(if p then a else b)=some r/\Q r:=by rw[if_pos h];exact h2
theorem ifF {R:Type}{Q:R->Prop}{p:Prop}[Decidable p]{a b:Option R}(h:¬p)(h2:∃r,b=some r/\Q r):∃r,(if p then a else b)=some r/\Q r:=by rw[if_neg h];exact h2
theorem Ay {n:Int}(h : -9223372036854775808<=n)(h' : n<=9223372036854775807):IntKind.i64.wrap n=n:=by
 by_cases h0:0<=n
 ·have h1:n % (2 ^ 64:Int)=n:=Int.emod_eq_of_lt h0 (by omega);unfold wrap;simp only[IntKind.bits,IntKind.signed,h1];rw[if_neg];simp;omega
 ·have h1:n % (2 ^ 64:Int)=n+2 ^ 64:=by rw[<- Int.add_emod_right];exact Int.emod_eq_of_lt (by omega) (by omega)
  unfold wrap;simp only[IntKind.bits,IntKind.signed,h1];rw[if_pos]
  ·omega
  ·simp;omega
theorem N9 {i:Nat}(h:i<1000000000000000000):IntKind.i64.wrap ((i:Int)+1)=((i+1:Nat):Int):=by rw[Ay (by omega) (by omega)];rfl
theorem Ai4 {i j:Nat}(h:i+j<1000000000000000000):IntKind.i64.wrap ((i:Int)+(j:Int))=((i+j:Nat):Int):=by rw[Ay (by omega) (by omega)];rfl
end Go.AM
namespace Go.AM
open IntKind (wrap)
open Go.Proofs
theorem RQ {α : Type}(s:Sl α)(a : α):(s.push a).toList=s.toList++[a]:=by
 unfold Sl.toList;rw[List.range_succ,List.map_append];congr 1
 ·exact List.map_congr_left fun i hi=>by rw[List.mem_range]at hi;show (if i<s.n then s.g i else a)=s.g i;rw[if_pos hi]
 ·show [if s.n<s.n then s.g s.n else a]=[a];rw[if_neg (by omega)]
theorem SX {α : Type}(s:Sl α):s.toList.length=s.n:=by simp[Sl.toList]
theorem Ai5 {α : Type}{s t:Sl α}(h:s.toList=t.toList):s.n=t.n/\∀i,i<s.n->s.g i=t.g i:=by
 have hn:s.n=t.n:=by rw[<- SX s,<- SX t,h]
 refine⟨hn,fun i hi=>?_⟩
 have:=congrArg (fun l=>l[i]?) h
 simpa[Sl.toList,hi,hn ▸ hi]using this
theorem UB {N:Nat}{a b:Sl Int}(hn:a.n<N)(hb:a.n<1000000)(h:a.toList=b.toList):F7 N a b=some true:=by
 obtain⟨e,hg⟩:=Ai5 h;unfold F7;rw[if_neg (by simp[e])];obtain⟨r,h1,rfl⟩:=Eu (body:=fun self1 (x1:Int)=>
  if (decide (x1<(a.n:Int))) then
   if (((0:Int)<=x1/\x1<(a.n:Int))/\((0:Int)<=x1/\x1<(b.n:Int)))then
    if ((a.g x1.toNat) != (b.g x1.toNat)) then some false else self1 (wrap .i64 (x1+1))
   else none
  else some true) (fun i x=>x=(i:Int)) a.n (fun r=>r=true) hn (a:=0) rfl (by
  rintro self i x hi rfl hs;by_cases hlt:i<a.n
  ·refine ifT (by simp;omega) (ifT (by omega) ?_);rw[Int.toNat_natCast];exact ifF (by rw[hg i hlt];simp) (hs hlt _ (N9 (by omega)))
  ·exact ifF (by simp;omega) ⟨_,rfl,rfl⟩)
 exact h1
theorem RR {N:Nat}{a b:Sl Int}(hn:a.n<N)(hb:a.n<1000000)(h:a.toList=b.toList):B8 N a b=some true:=UB hn hb h
end Go.AM
namespace Go.AM
open Go.Proofs
end Go.AM
namespace Go.AM
open Go.Proofs
end Go.AM
namespace Go.AM
open Go.Proofs
theorem Ab1 {N:Nat}{u:A3}{r:R9}(hl:u.Langs=r.Langs)(hu:u.Has.toList=r.Has.toList)(hn:u.Has.n<N)(hb:u.Has.n<1000000):Dy N u r=some true:=by unfold Dy;simp only[lt,hl,beq_self_eq_true,if_true,RR hn hb hu,Option.bind_some]
end Go.AM
namespace Go.AM
open Go.Proofs
theorem Wo {f:Nat->Int}(n:Nat):(List.range (n+1)).map f=(List.range n).map f++[f n]:=by rw[List.range_succ,List.map_append];rfl
end Go.AM
namespace Go.AM
open Go.Proofs
end Go.AM
namespace Go.AM
open Go.Proofs
end Go.AM
namespace Go.AM
open Go.Proofs
end Go.AM
namespace Go.AM
open Go.Proofs
end Go.AM
namespace Go.AM
open Go.Proofs
abbrev sOf (x y:BitVec 32):Sound:=⟨(x.toNat:Int),(y.toNat:Int)⟩
def okS (s:Sound):Prop:=∃p m:BitVec 32,s=sOf p m
theorem eq0 (x:BitVec 32):((x.toNat:Int)==0)=decide (x=0#32):=by
 rw[Bool.eq_iff_iff];simp only[beq_iff_eq,decide_eq_true_eq];constructor
 ·intro h;apply BitVec.eq_of_toNat_eq;show x.toNat=0;omega
 ·rintro rfl;rfl
theorem z32 (x:BitVec 32):x=0#32 ↔ ∀i,i<32->x.getLsbD i=false:=by
 constructor
 ·rintro rfl i hi;simp
 ·intro h;apply BitVec.eq_of_getLsbD_eq;intro i hi;rw[h i hi];simp
theorem Ai6 (x:BitVec 32)(i:Nat):(D9 .and .u32 (shI .shr .u32 (x.toNat:Int) (i:Int)) 1==1)=x.getLsbD i:=by
 rw[YK,show (1:Int)=((1#32).toNat:Int) from rfl,JC];have h:(x >>> i &&& 1#32)=(BitVec.ofBool (x.getLsbD i)).setWidth 32:=by
  apply BitVec.eq_of_getLsbD_eq;intro j hj;simp only[BitVec.getLsbD_and,BitVec.getLsbD_ushiftRight,BitVec.getLsbD_setWidth,BitVec.getLsbD_ofBool];by_cases h0:j=0
  ·subst h0;simp
  ·have:(1#32).getLsbD j=false:=by rw[BitVec.getLsbD_one];simp[h0]
   simp[this,h0]
 rw[h];cases x.getLsbD i<;>rfl
theorem KK (x:BitVec 32):x.toNat<16777216 ↔ ∀i,24<=i->i<32->x.getLsbD i=false:=by
 constructor
 ·intro h i hi hi2;exact Nat.testBit_lt_two_pow (Nat.lt_of_lt_of_le h (Nat.pow_le_pow_right (n:=2) (i:=24) (by omega) hi))
 ·intro h;refine Nat.lt_pow_two_of_testBit (n:=24) _ fun i hi=>?_;by_cases h2:i<32
  ·exact h i hi h2
  ·exact Nat.testBit_lt_two_pow (Nat.lt_of_lt_of_le x.isLt (Nat.pow_le_pow_right (by omega) (by omega)))
def vB (p m:BitVec 32):Bool:=decide (∀i:Fin 32,¬(p.getLsbD i=true/\m.getLsbD i=true)/\(24<=i.1->p.getLsbD i=false/\m.getLsbD i=false))
theorem SY (p m:BitVec 32):vB p m=true ↔ ∀i,i<32->¬(p.getLsbD i=true/\m.getLsbD i=true)/\(24<=i->p.getLsbD i=false/\m.getLsbD i=false):=by rw[vB,decide_eq_true_eq];exact⟨fun h i hi=>h ⟨i,hi⟩,fun h i=>h i.1 i.2⟩
theorem SZ (p m:BitVec 32):p &&& m=0#32 ↔ ∀i,i<32->¬(p.getLsbD i=true/\m.getLsbD i=true):=by rw[z32];refine forall_congr' fun i=>forall_congr' fun hi=>?_;rw[BitVec.getLsbD_and,Bool.and_eq_false_iff];cases p.getLsbD i<;>cases m.getLsbD i<;>simp
theorem Ai7 (p m:BitVec 32):vB p m=true↔p &&& m=0#32/\(p ||| m).toNat<16777216:=by
 rw[SY,SZ,KK];constructor
 ·intro h;refine⟨fun i hi=>(h i hi).1,fun i h1 h2=>?_⟩
  have:=(h i h2).2 h1
  rw[BitVec.getLsbD_or,this.1,this.2];rfl
 ·rintro⟨h1,h2⟩ i hi;refine⟨h1 i hi,fun h24=>?_⟩
  have:=h2 i h24 hi
  rw[BitVec.getLsbD_or,Bool.or_eq_false_iff]at this;exact this
theorem Ai8 (p m:BitVec 32):vB p m=true↔p &&& m=0#32/\p.toNat<16777216/\m.toNat<16777216:=by rw[SY,SZ,KK,KK];exact⟨fun h=>⟨fun i hi=>(h i hi).1,fun i h1 h2=>((h i h2).2 h1).1,fun i h1 h2=>((h i h2).2 h1).2⟩,fun⟨h1,h2,h3⟩ i hi=>⟨h1 i hi,fun h24=>⟨h2 i h24 hi,h3 i h24 hi⟩⟩⟩
theorem PZ {N:Nat}(p m:BitVec 32):E7 N (sOf p m)=some (vB p m):=by unfold E7;rw[JC,VR,eq0];congr 1;rw[Bool.eq_iff_iff,Ai7];simp only[Bool.and_eq_true,decide_eq_true_eq];exact⟨fun h=>⟨h.1,by have:=h.2;omega⟩,fun h=>⟨h.1,by have:=h.2;omega⟩⟩
theorem shr24 (x:BitVec 32):(shI .shr .u32 (x.toNat:Int) 24==0)=decide (x.toNat<16777216):=by
 rw[show (24:Int)=((24:Nat):Int) from rfl,YK,Bool.eq_iff_iff];simp only[beq_iff_eq,decide_eq_true_eq,BitVec.toNat_ushiftRight,Nat.shiftRight_eq_div_pow]
 have:=Nat.div_eq_zero_iff (a:=x.toNat) (b:=2 ^ 24)
 omega
theorem Wp {N:Nat}(p m:BitVec 32):Bb N (sOf p m)=some (vB p m):=by unfold Bb;rw[JC,VR,eq0,shr24];congr 1;rw[Bool.eq_iff_iff,Ai7];simp only[Bool.and_eq_true,decide_eq_true_eq]
theorem Wq {N:Nat}(p m:BitVec 32):K6 N (sOf p m)=some (vB p m):=Wp (N:=N) p m
theorem UC {N:Nat}(p m:BitVec 32):S3 N (sOf p m)=some (vB p m):=by unfold S3;rw[JC,eq0];congr 1;rw[Bool.eq_iff_iff,Ai8];simp only[Bool.and_eq_true,decide_eq_true_eq];exact⟨fun h=>⟨h.1.1,by have:=h.1.2;omega,by have:=h.2;omega⟩,fun h=>⟨⟨h.1,by have:=h.2.1;omega⟩,by have:=h.2.2;omega⟩⟩
theorem MJ {N:Nat}(p m:BitVec 32)(hN:1000<=N):S2 N (sOf p m)=some (vB p m):=by
 suffices h:∃r,S2 N (sOf p m)=some r/\r=vB p m by obtain⟨r,h,rfl⟩:=h;exact h
 unfold S2;refine Eu (fun i x1=>x1=(i:Int)/\∀j,j<i->¬(p.getLsbD j=true/\m.getLsbD j=true)/\(24<=j->p.getLsbD j=false/\m.getLsbD j=false)) 32 _ (by omega) ⟨rfl,fun j hj=>absurd hj (by omega)⟩ ?_;rintro self i x1 hi ⟨rfl,h1⟩ hs;by_cases hl:i<32
 ·refine ifT (by simp;omega) (ifT (by omega) ?_);simp only[Ai6];have e24:decide ((24:Int)<=(i:Int))=decide (24<=i):=decide_eq_decide.2 (by omega);rw[e24];by_cases hb:¬(p.getLsbD i=true/\m.getLsbD i=true)/\(24<=i->p.getLsbD i=false/\m.getLsbD i=false)
  ·refine ifF ?_ (hs hl _ ⟨N9 (by omega),fun j hj=>?_⟩)
   ·intro h;obtain⟨h2,h3⟩:=hb;revert h h2 h3;by_cases h24:24<=i
    ·intro h h2 h3;obtain⟨a,b⟩:=h3 h24;simp[a,b]at h
    ·cases p.getLsbD i<;>cases m.getLsbD i<;>simp[h24]
   ·by_cases e:j=i
    ·subst e;exact hb
    ·exact h1 j (by omega)
  ·refine ifT ?_ ⟨false,rfl,?_⟩
   ·revert hb;by_cases h24:24<=i
    ·cases p.getLsbD i<;>cases m.getLsbD i<;>simp[h24]
    ·cases p.getLsbD i<;>cases m.getLsbD i<;>simp[h24]
   ·symm;rw[<- Bool.not_eq_true,SY];exact fun h=>hb (h i hl)
 ·refine ifF (by simp;omega) ⟨true,rfl,?_⟩;symm;rw[SY];exact fun j hj=>h1 j (by omega)
end Go.AM
namespace Go.AM
open Go.Proofs
def vS (s:Sound):Prop:=∃p m:BitVec 32,s=sOf p m/\vB p m=true
def LM (p:Pat):Prop:=
 (0<=p.Kind/\p.Kind<=6)/\(p.Kind≠1->(p.Is.Plus=0/\p.Is.Minus=0)/\p.Not=false)/\(p.Kind≠3->p.Kind≠4->p.Kind≠5->p.L.n=0)/\(p.Kind≠5->p.Min=0/\p.Max=0) /\
 (p.Kind=5->p.L.n=1/\0<=p.Min/\p.Min<=32/\(p.Max = -1 \/ (p.Min<=p.Max/\p.Max<=32)))/\vS p.Is
theorem Ye {s:Sound}{p m:BitVec 32}(h:s=sOf p m):vS s↔vB p m=true:=by
 constructor
 ·rintro⟨q,r,e,hv⟩;rw[h]at e;have e1:(p.toNat:Int)=q.toNat:=congrArg Sound.Plus e;have e2:(m.toNat:Int)=r.toNat:=congrArg Sound.Minus e;rw[BitVec.eq_of_toNat_eq (show p.toNat=q.toNat by omega),BitVec.eq_of_toNat_eq (show m.toNat=r.toNat by omega)];exact hv
 ·exact fun hv=>⟨p,m,h,hv⟩
def okPS:Pat->Prop
 |.nil=>True
 |.mk _ is _ _ _ n g=>okS is/\∀i,i<n->okPS (g i)
theorem okPS.is {p:Pat}(h:okPS p):okS p.Is:=by
 cases p with
 |nil=>exact⟨0#32,0#32,rfl⟩
 |mk _ is _ _ _ n g=>exact h.1
theorem okPS.L {p:Pat}(h:okPS p){i:Nat}(hi:i<p.L.n):okPS (p.L.g i):=by
 cases p with
 |nil=>exact absurd hi (by show ¬i<0;omega)
 |mk _ is _ _ _ n g=>exact h.2 i hi
def chk:Nat->List Pat->Prop
 |0,l=>l=[]
 |_+1,[]=>True
 |k+1,p::l=>LM p/\chk k (p.L.toList++l)
theorem Wr:∀k,chk k []
 |0=>rfl
 |_+1=>trivial
theorem RU:∀(k:Nat) (l:List Pat),chk k l->l.length<=k
 |0,l,h=>by rw[show l=[] from h];exact Nat.le_refl _
 |k+1,[],_=>Nat.zero_le _
 |k+1,p::l,⟨_,h⟩=>by
  have:=RU k _ h
  rw[List.length_append]at this;simp only[List.length_cons];omega
theorem Fs {α : Type}(s:Sl α):s.toList.length=s.n:=by simp[Sl.toList]
theorem Yf {N:Nat}{p:Pat}(hp:okS p.Is):∃e,Du N p=some e/\(e=0↔LM p):=by
 obtain⟨a,b,he⟩:=hp;have hv:=Ye he;unfold Du LM;by_cases h1:0<=p.Kind/\p.Kind<=6
 case neg=>exact ifT (by simp;omega) ⟨2,rfl,by simp;omega⟩
 refine ifF (by simp;omega) ?_;have e0:((p.Is.Plus==0)&&(p.Is.Minus==0))=decide (p.Is.Plus=0/\p.Is.Minus=0):=by rw[Bool.eq_iff_iff];simp
 rw[e0];by_cases h2:p.Kind≠1->(p.Is.Plus=0/\p.Is.Minus=0)/\p.Not=false
 case neg=>
  refine ifT ?_ ⟨2,rfl,by simp[h2]⟩;simp only[Bool.and_eq_true,Bool.or_eq_true,bne_iff_ne,ne_eq,Bool.not_eq_true,decide_eq_false_iff_not];rw[Classical.not_imp]at h2;refine⟨h2.1,?_⟩;by_cases h:p.Is.Plus=0/\p.Is.Minus=0
  ·right
   cases hn:p.Not
   ·exact absurd ⟨h,hn⟩ h2.2
   ·rfl
  ·exact .inl h
 refine ifF ?_ (ltX ?_)
 ·simp only[Bool.and_eq_true,Bool.or_eq_true,bne_iff_ne,ne_eq,Bool.not_eq_true,decide_eq_false_iff_not];rintro⟨g1,g2⟩;obtain⟨g3,g4⟩:=h2 g1;rcases g2 with g2|g2
  ·exact g2 g3
  ·rw[g4]at g2;cases g2
 have rest:(p.Kind≠3->p.Kind≠4->p.Kind≠5->p.L.n=0)->∃e,(if ((p.Kind != 5)&&((p.Min != 0)||(p.Max != 0))) then some (2:Int)else
  lt (fun (z2:Bool)=>if z2 then some 2 else (S3 N p.Is).bind fun y1=>if (!y1) then some 14 else some 0) fun k2=>
   if (p.Kind==5) then if (((p.L.n:Nat):Int) != 1) then k2 true else if (decide (p.Min<0)) then k2 true else if (decide (32<p.Min)) then k2 true else
    if (p.Max != (-1)) then if (decide (p.Max<p.Min)) then k2 true else k2 (decide (32<p.Max))else k2 false else k2 false)=some e /\
  (e=0↔(0<=p.Kind/\p.Kind<=6)/\(p.Kind≠1->(p.Is.Plus=0/\p.Is.Minus=0)/\p.Not=false)/\(p.Kind≠3->p.Kind≠4->p.Kind≠5->p.L.n=0)/\(p.Kind≠5->p.Min=0/\p.Max=0) /\
   (p.Kind=5->p.L.n=1/\0<=p.Min/\p.Min<=32/\(p.Max = -1 \/ (p.Min<=p.Max/\p.Max<=32)))/\vS p.Is):=by
  intro h3;by_cases h4:p.Kind≠5->p.Min=0/\p.Max=0
  case neg=>refine ifT ?_ ⟨2,rfl,by simp[h4]⟩;rw[Classical.not_imp]at h4;simp only[Bool.and_eq_true,Bool.or_eq_true,bne_iff_ne,ne_eq];omega
  refine ifF ?_ (ltX ?_)
  ·simp only[Bool.and_eq_true,Bool.or_eq_true,bne_iff_ne,ne_eq];rintro⟨g1,g2⟩
   have:=h4 g1
   omega
  have last:(p.Kind=5->p.L.n=1/\0<=p.Min/\p.Min<=32/\(p.Max = -1 \/ (p.Min<=p.Max/\p.Max<=32)))->∃e,(if false then some (2:Int)else (S3 N p.Is).bind fun y1=>if (!y1) then some 14 else some 0)=some e /\
   (e=0↔(0<=p.Kind/\p.Kind<=6)/\(p.Kind≠1->(p.Is.Plus=0/\p.Is.Minus=0)/\p.Not=false)/\(p.Kind≠3->p.Kind≠4->p.Kind≠5->p.L.n=0)/\(p.Kind≠5->p.Min=0/\p.Max=0) /\
    (p.Kind=5->p.L.n=1/\0<=p.Min/\p.Min<=32/\(p.Max = -1 \/ (p.Min<=p.Max/\p.Max<=32)))/\vS p.Is):=by
   intro h5;refine ifF (by simp) ?_;rw[hv,he,UC];refine I5 rfl ?_;cases hvb:vB a b
   ·exact ifT rfl ⟨14,rfl,by simp⟩
   ·exact ifF (by simp) ⟨0,rfl,by rw[<- he];exact⟨fun _=>⟨h1,h2,h3,h4,h5,rfl⟩,fun _=>rfl⟩⟩
  have bad:¬(p.Kind=5->p.L.n=1/\0<=p.Min/\p.Min<=32/\(p.Max = -1 \/ (p.Min<=p.Max/\p.Max<=32)))->∃e,(if true then some (2:Int)else (S3 N p.Is).bind fun y1=>if (!y1) then some 14 else some 0)=some e /\
   (e=0↔(0<=p.Kind/\p.Kind<=6)/\(p.Kind≠1->(p.Is.Plus=0/\p.Is.Minus=0)/\p.Not=false)/\(p.Kind≠3->p.Kind≠4->p.Kind≠5->p.L.n=0)/\(p.Kind≠5->p.Min=0/\p.Max=0) /\
    (p.Kind=5->p.L.n=1/\0<=p.Min/\p.Min<=32/\(p.Max = -1 \/ (p.Min<=p.Max/\p.Max<=32)))/\vS p.Is):=fun h5=>ifT rfl ⟨2,rfl,⟨fun h=>absurd h (by decide),fun h=>absurd h.2.2.2.2.1 h5⟩⟩
  by_cases k5:p.Kind=5
  ·refine ifT (by simp[k5]) ?_;by_cases g1:p.L.n=1
   case neg=>exact ifT (by simp;omega) (bad fun h=>g1 (h k5).1)
   refine ifF (by simp;omega) ?_;by_cases g2:p.Min<0
   ·exact ifT (by simpa using g2) (bad fun h=>by have:=h k5;omega)
   refine ifF (by simpa using g2) ?_;by_cases g3:32<p.Min
   ·exact ifT (by simpa using g3) (bad fun h=>by have:=h k5;omega)
   refine ifF (by simpa using g3) ?_;by_cases g4:p.Max = -1
   ·exact ifF (by simp[g4]) (last fun _=>⟨g1,by omega,by omega,.inl g4⟩)
   refine ifT (by simp[g4]) ?_;by_cases g5:p.Max<p.Min
   ·exact ifT (by simpa using g5) (bad fun h=>by have:=h k5;omega)
   refine ifF (by simpa using g5) ?_;by_cases g6:32<p.Max
   ·rw[decide_eq_true g6];exact bad fun h=>by have:=h k5;omega
   ·rw[decide_eq_false g6];exact last fun _=>⟨g1,by omega,by omega,.inr ⟨by omega,by omega⟩⟩
  ·exact ifF (by simp[k5]) (last fun h=>absurd h k5)
 by_cases k3:p.Kind=3
 ·exact ifF (by simp[k3]) (ifF (by simp) (rest fun h=>absurd k3 h))
 refine ifT (by simp[k3]) ?_;by_cases k4:p.Kind=4
 ·exact ifF (by simp[k4]) (ifF (by simp) (rest fun _ h=>absurd k4 h))
 refine ifT (by simp[k4]) ?_;by_cases k5:p.Kind=5
 ·exact ifF (by simp[k5]) (ifF (by simp) (rest fun _ _ h=>absurd k5 h))
 refine ifT (by simp[k5]) ?_;by_cases hn:p.L.n=0
 ·exact ifF (by simp;omega) (rest fun _ _ _=>hn)
 ·exact ifT (by simp;omega) ⟨2,rfl,⟨fun h=>absurd h (by decide),fun h=>absurd (h.2.2.1 k3 k4 k5) hn⟩⟩
theorem Gt {α : Type}(s:Sl α){i:Nat}(h:i<s.n):s.toList.drop i=s.g i::s.toList.drop (i+1):=by
 have hl:i<s.toList.length:=by rw[Fs];exact h
 rw[List.drop_eq_getElem_cons hl];simp[Sl.toList]
theorem Fg {α : Type}(s:Sl α):s.toList.drop s.n=[]:=List.drop_eq_nil_of_le (by rw[Fs];exact Nat.le_refl _)
theorem Ws {N:Nat}(hN:1000<=N):∀(d:Nat),d<=40->∀(p:Pat),okPS p->∀M,N+d+1<=M->∃r,BR M p ((40-d:Nat):Int)=some r /\
 ∃k:Nat,r.1=(k:Int)/\40-d<=k/\k<=40/\(r.2=0->40-d<k/\∀l,chk d (p::l)↔chk (40-k) l)/\(r.2≠0->∀l,¬chk d (p::l))
 |d,hd,p,hp,0,hM=>by omega
 |0,hd,p,hp,M+1,hM=>by show ∃r,S6 (BR M) M p _=some r/\_;unfold S6;exact ifT (by simp) ⟨_,rfl,40,rfl,by omega,by omega,fun h=>absurd h (by decide),fun _ l h=>by cases h⟩
 |d+1,hd,p,hp,M+1,hM=>by
  show ∃r,S6 (BR M) M p _=some r/\_;unfold S6;refine ifF (by simp;omega) ?_;obtain⟨e,he,hn⟩:=Yf (N:=M) hp.is;refine I5 he ?_;by_cases h0:e=0
  case neg=>exact ifT (by simp[h0]) ⟨_,rfl,40-(d+1),rfl,Nat.le_refl _,by omega,fun h=>absurd h h0,fun _ l h=>h0 (hn.2 h.1)⟩
  refine ifF (by simp[h0]) ?_;have hnode:=hn.1 h0;rw[N9 (by omega)];refine Db (fun i x1 x2=>x2=(i:Int)/\∃k:Nat,x1=(k:Int)/\40-(d+1)+1+i<=k/\k<=40/\i<=p.L.n/\∀l,chk (d+1) (p::l)↔chk (40-k) (p.L.toList.drop i++l)) 41 _ (by omega)
   ⟨rfl,40-(d+1)+1,rfl,by omega,by omega,by omega,fun l=>by rw[show 40-(40-(d+1)+1)=d by omega];exact⟨fun h=>h.2,fun h=>⟨hnode,h⟩⟩⟩ ?_
  rintro self i x1 x2 hi ⟨rfl,k,rfl,h1,h2,h3,h4⟩ hs;by_cases hl:i<p.L.n
  ·refine ifT (by simp;omega) (ifT (by omega) ?_);obtain⟨r,hr,k',r1,r2,r3,r4,r5⟩:=Ws hN (40-k) (by omega) (p.L.g i) (hp.L hl) M (by omega);rw[show ((40-(40-k):Nat):Int)=(k:Int) by omega]at hr;refine I5 (by rw[Int.toNat_natCast];exact hr) ?_;by_cases hz:r.2=0
   ·refine ifF (by simp[hz]) (hs (by omega) _ _ ⟨N9 (by omega),k',r1,by have:=(r4 hz).1;omega,r3,by omega,fun l=>?_⟩);rw[h4,Gt _ hl,List.cons_append];exact (r4 hz).2 _
   ·refine ifT (by simp[hz]) ⟨_,rfl,k',r1,by omega,r3,fun h=>absurd h hz,fun _ l hc=>?_⟩;rw[h4,Gt _ hl,List.cons_append]at hc;exact r5 hz _ hc
  ·obtain rfl:i=p.L.n:=by omega
   refine ifF (by simp) ⟨_,rfl,k,rfl,by omega,h2,fun _=>⟨by omega,fun l=>?_⟩,fun h=>absurd rfl h⟩;rw[h4,Fg];rfl
theorem Qa {N:Nat}(hN:2000<=N){p:Pat}(hp:okPS p):∃e,AI N p=some e/\(e=0↔chk 40 [p]):=by
 obtain⟨r,hr,k,h1,h2,h3,h4,h5⟩:=Ws (N:=1500) (by omega) 40 (Nat.le_refl _) p hp N (by omega);unfold AI;refine I5 hr ⟨_,rfl,fun h=>?_,fun h=>?_⟩
 ·exact ((h4 h).2 []).2 (Wr _)
 ·by_cases hz:r.2=0
  ·exact hz
  ·exact absurd h (h5 hz [])
end Go.AM
namespace Go.AM
open Go.Proofs
theorem Ai9 {T A R:Type}{body:(A->Option R)->T->A->Option R}{k:A->Option R}{H6:R->Prop}(J:List T->A->Prop)(hnil:∀a,J [] a->∃r,k a=some r/\H6 r)
 (hcons:∀t L a self,J (t::L) a->(∀a',J L a' -> ∃r,self a' = some r/\H6 r)->∃r,body self t a=some r/\H6 r):∀(L:List T) (a:A),J L a->∃r,Y9 L body k a=some r/\H6 r
 |[],a,h=>hnil a h
 |t::L,a,h=>hcons t L a _ h fun a' h'=>Ai9 J hnil hcons L a' h'
end Go.AM
namespace Go.AM
open Go.Proofs
end Go.AM
namespace Go.AM
open Go.Proofs
end Go.AM
namespace Go.AM
open IntKind (wrap)
open Go.Proofs
theorem UD {N:Nat}{p:Pat}(hp:okS p.Is):∃e,X9 N p=some e/\(e=0↔LM p):=by
 obtain⟨a,b,he⟩:=hp;have hv:=Ye he;have V:K6 N p.Is=some (vB a b):=by rw[he];exact Wq a b
 have e0:((p.Is.Plus==0)&&(p.Is.Minus==0))=decide (p.Is.Plus=0/\p.Is.Minus=0):=by rw[Bool.eq_iff_iff];simp
 have fin:(LM p↔vS p.Is)->∃e,((K6 N p.Is).bind fun y1=>if (!y1) then some (14:Int)else some 0)=some e/\(e=0↔LM p):=by
  intro hX;rw[V];refine I5 rfl ?_;rw[hX,hv];cases vB a b
  ·exact ifT rfl ⟨14,rfl,by simp⟩
  ·exact ifF (by simp) ⟨0,rfl,by simp⟩
 have bad:∀{x:Int},x≠0->¬LM p->∃e,some x=some e/\(e=0↔LM p):=fun hx h=>⟨_,rfl,fun h2=>absurd h2 hx,fun h2=>absurd h2 h⟩;unfold X9;by_cases hk:p.Kind=0 \/ p.Kind=2 \/ p.Kind=6
 ·refine ifT (by rcases hk with h|h|h<;>simp[h]) (ltX ?_);rw[e0];by_cases g1:p.Is.Plus=0/\p.Is.Minus=0
  case neg=>exact ifT (by simp[g1]) (ifT rfl (bad (by decide) fun h=>g1 (h.2.1 (by omega)).1))
  refine ifF (by simp[g1]) ?_;by_cases g2:p.Not=true
  ·exact ifT g2 (ifT rfl (bad (by decide) fun h=>by have:=(h.2.1 (by omega)).2;rw[g2]at this;cases this))
  refine ifF g2 ?_;by_cases g3:p.Min=0
  case neg=>exact ifT (by simp[g3]) (ifT rfl (bad (by decide) fun h=>g3 (h.2.2.2.1 (by omega)).1))
  refine ifF (by simp[g3]) ?_;by_cases g4:p.Max=0
  case neg=>exact ifT (by simp[g4]) (ifT rfl (bad (by decide) fun h=>g4 (h.2.2.2.1 (by omega)).2))
  refine ifF (by simp[g4]) ?_;by_cases g5:p.L.n=0
  case neg=>exact ifT (by simp;omega) (bad (by decide) fun h=>g5 (h.2.2.1 (by omega) (by omega) (by omega)))
  refine ifF (by simp;omega) (fin ?_);exact⟨fun h=>h.2.2.2.2.2,fun h=>⟨by omega,fun _=>⟨g1,by simpa using g2⟩,fun _ _ _=>g5,fun _=>⟨g3,g4⟩,fun h5=>by omega,h⟩⟩
 refine ifF (by simp only[not_or]at hk;simp[hk]) ?_;by_cases k1:p.Kind=1
 ·refine ifT (by simp[k1]) (ltX ?_);refine ifF (by simp) ?_;by_cases g3:p.Min=0
  case neg=>exact ifT (by simp[g3]) (ifT rfl (bad (by decide) fun h=>g3 (h.2.2.2.1 (by omega)).1))
  refine ifF (by simp[g3]) ?_;by_cases g4:p.Max=0
  case neg=>exact ifT (by simp[g4]) (ifT rfl (bad (by decide) fun h=>g4 (h.2.2.2.1 (by omega)).2))
  refine ifF (by simp[g4]) ?_;by_cases g5:p.L.n=0
  case neg=>exact ifT (by simp;omega) (bad (by decide) fun h=>g5 (h.2.2.1 (by omega) (by omega) (by omega)))
  refine ifF (by simp;omega) (fin ?_);exact⟨fun h=>h.2.2.2.2.2,fun h=>⟨by omega,fun h1=>absurd k1 h1,fun _ _ _=>g5,fun _=>⟨g3,g4⟩,fun h5=>by omega,h⟩⟩
 refine ifF (by simp[k1]) (ltX ?_);rw[e0];have tail:∀(x y:Int),(LM p↔(p.Is.Plus=0/\p.Is.Minus=0)/\p.Not=false/\x=0/\y=0/\vS p.Is)->∃e,(if (((((decide (p.Is.Plus=0/\p.Is.Minus=0) != true)||p.Not)||(x != 0))||(y != 0))||(decide (0<0))) then some (2:Int)else
  (K6 N p.Is).bind fun y3=>if (!y3) then some 14 else some 0)=some e/\(e=0↔LM p):=by
  intro x y hX;by_cases g:(p.Is.Plus=0/\p.Is.Minus=0)/\p.Not=false/\x=0/\y=0
  ·obtain⟨g1,g2,g3,g4⟩:=g;exact ifF (by simp[g1,g2,g3,g4]) (fin (hX.trans ⟨fun h=>h.2.2.2.2,fun h=>⟨g1,g2,g3,g4,h⟩⟩))
  ·refine ifT ?_ (bad (by decide) fun h=>g ⟨(hX.1 h).1,(hX.1 h).2.1,(hX.1 h).2.2.1,(hX.1 h).2.2.2.1⟩);simp only[Bool.or_eq_true,bne_iff_ne,ne_eq,decide_eq_true_eq];by_cases g1:p.Is.Plus=0/\p.Is.Minus=0
   ·by_cases g2:p.Not=true
    ·simp[g2]
    ·by_cases g3:x=0
     ·have:¬y=0:=fun g4=>g ⟨g1,by simpa using g2,g3,g4⟩
      simp[this]
     ·simp[g3]
   ·simp[g1]
 by_cases k34:p.Kind=3 \/ p.Kind=4
 ·refine ifT (by rcases k34 with h|h<;>simp[h]) (tail _ _ ?_);constructor
  ·exact fun h=>⟨(h.2.1 k1).1,(h.2.1 k1).2,(h.2.2.2.1 (by omega)).1,(h.2.2.2.1 (by omega)).2,h.2.2.2.2.2⟩
  ·rintro⟨h1,h2,h3,h4,h5⟩;exact⟨by omega,fun _=>⟨h1,h2⟩,fun h h'=>by omega,fun _=>⟨h3,h4⟩,fun h=>by omega,h5⟩
 refine ifF (by simp only[not_or]at k34;simp[k34]) ?_;by_cases k5:p.Kind=5
 ·refine ifT (by simp[k5]) ?_;by_cases g:p.L.n=1/\0<=p.Min/\p.Min<=32/\(p.Max = -1 \/ (p.Min<=p.Max/\p.Max<=32))
  ·refine ifF (by simp only[Bool.or_eq_true,Bool.and_eq_true,bne_iff_ne,ne_eq,decide_eq_true_eq];omega) (tail 0 0 ?_);constructor
   ·exact fun h=>⟨(h.2.1 k1).1,(h.2.1 k1).2,rfl,rfl,h.2.2.2.2.2⟩
   ·rintro⟨h1,h2,h3,h4,h5⟩;exact⟨by omega,fun _=>⟨h1,h2⟩,fun _ _ h=>absurd k5 h,fun h=>absurd k5 h,fun _=>g,h5⟩
  ·exact ifT (by simp only[Bool.or_eq_true,Bool.and_eq_true,bne_iff_ne,ne_eq,decide_eq_true_eq];omega) (bad (by decide) fun h=>g (h.2.2.2.2.1 k5))
 ·exact ifF (by simp[k5]) (bad (by decide) fun h=>by have:=h.1;omega)
theorem Wt {x:Sl Pat}{m:Nat}(h:x.n=m+1):x.toList.reverse=x.g m::(x.take m).toList.reverse:=by unfold Sl.toList;rw[h,List.range_succ,List.map_append,List.reverse_append];rfl
theorem Yg (z:Sl Pat)(q:Pat):((z.push Pat.nil).upd z.n q).toList.reverse=q::z.toList.reverse:=by
 rw[Wt (m:=z.n) rfl];have e1:((z.push Pat.nil).upd z.n q).g z.n=q:=by simp
 have e2:(((z.push Pat.nil).upd z.n q).take z.n).toList=z.toList:=by
  unfold Sl.toList;refine List.map_congr_left fun i hi=>?_
  have:i<z.n:=List.mem_range.1 hi
  show (if i=z.n then q else if i<z.n then z.g i else Pat.nil)=z.g i;rw[if_neg (by omega),if_pos this]
 rw[e1,e2]
theorem RV {N:Nat}(q:Sl Pat)(hq:q.n<N)(hs:q.n<1000000):C0 N q=some ((List.range q.n).reverse.map fun (i:Nat)=>((i:Int),q.g i)):=by
 unfold C0;have h:∀(m:Nat),m<=q.n->∀F,m<F->Az F (fun (self1:Int->Option (List (Int×Pat))) (x1:Int)=>
  if (decide (0<=x1)) then
   if ((0:Int)<=x1/\x1<(q.n:Int))then
    Fv (x1,q.g x1.toNat) (
     self1 (wrap .i64 (x1-1))
     )
   else none
  else
   some []) ((m:Int)-1)=some ((List.range m).reverse.map fun (i:Nat)=>((i:Int),q.g i)):=by
  intro m
  induction m with
  |zero=>
   intro _ F hF
   match F,hF with
   |F+1,_=>rfl
  |succ m ih=>
   intro hm F hF
   match F,hF with
   |F+1,hF=>rw[GL];rw[show ((m+1:Nat):Int)-1=(m:Int) by omega,if_pos (by simp),if_pos (by omega),Ay (by omega) (by omega),ih (by omega) F (by omega),Int.toNat_natCast,List.range_succ,List.reverse_append,List.reverse_singleton,List.singleton_append,List.map_cons];rfl
 rw[Ay (by omega) (by omega)];exact h q.n (Nat.le_refl _) N hq
theorem Ab2 {k:Nat}(hk:k<=40){c:Sl Pat}{l:List Pat}:chk k ((c.take (min 41 c.n)).toList++l)↔chk k (c.toList++l):=by
 by_cases h:c.n<=41
 ·rw[Nat.min_eq_right h]
 ·constructor
  ·intro h2
   have:=RU _ _ h2
   rw[List.length_append,Fs]at this
   have:(c.take (min 41 c.n)).n=41:=Nat.min_eq_left (by omega)
   omega
  ·intro h2
   have:=RU _ _ h2
   rw[List.length_append,Fs]at this;omega
theorem Ta {N:Nat}(hN:2000<=N){p:Pat}(hp:okPS p):∃e,S8 N p=some e/\(e=0↔chk 40 [p]):=by
 unfold S8;refine Db (fun i x3 x4=>x4=(i:Int)/\x3.n<=1+41*i/\(∀q∈x3.toList.reverse,okPS q)/\(chk 40 [p]↔chk (40-i) x3.toList.reverse)) 40 _ (by omega)
  ⟨rfl,by show 1<=_;omega,fun q hq=>by rw[show (Sl.of [p]:Sl Pat).toList.reverse=[p] from rfl]at hq;rw[List.mem_singleton.1 hq];exact hp,Iff.rfl⟩ ?_
 rintro self i x3 x4 hi ⟨rfl,h1,hok,h2⟩ hs;rcases hn:x3.n with _|m
 ·refine ifF (by simp) ⟨0,rfl,fun _=>h2.2 ?_,fun _=>rfl⟩
  have:x3.toList.reverse=[]:=by unfold Sl.toList;rw[hn];rfl
  rw[this];exact Wr _
 ·rw[Wt hn]at h2 hok;refine ifT (decide_eq_true (by omega)) ?_;by_cases h40:i=40
  ·subst h40;refine ifT (by simp) ⟨12,rfl,fun h=>absurd h (by decide),fun h=>?_⟩
   have:(x3.g m::(x3.take m).toList.reverse)=[]:=h2.1 h
   cases this
  refine ifF (by simp;omega) ?_;have hw:IntKind.i64.wrap (((m+1:Nat):Int)-1)=(m:Int):=by rw[Ay (by omega) (by omega)];omega
  simp only[hw,Int.toNat_natCast];refine ifT (by omega) (ifT (by omega) ?_);obtain⟨e,he,hnode⟩:=UD (N:=N) (hok (x3.g m) (by simp)).is;refine I5 he ?_;rw[show 40-i=(39-i)+1 by omega]at h2;by_cases h0:e=0
  case neg=>exact ifT (by simp[h0]) ⟨e,rfl,fun h=>absurd h h0,fun h=>absurd (hnode.2 (h2.1 h).1) h0⟩
  refine ifF (by simp[h0]) ?_;have hc:(if (41:Int)<((x3.g m).L.n:Int)then (41:Int)else ((x3.g m).L.n:Int))=((min 41 (x3.g m).L.n:Nat):Int):=by split<;>omega
  simp only[hc,Int.toNat_natCast];refine ifT (by omega) (I5 rfl (I5 (RV _ (by show min 41 _<N;omega) (by show min 41 _<1000000;omega)) ?_));generalize hC:(x3.g m).L.take (min 41 (x3.g m).L.n)=C;have hCn:C.n<=41:=by rw[<- hC];exact Nat.min_le_left _ _
  refine Ai9 (fun L z=>∃j,j<=C.n/\L=((List.range j).reverse.map fun (i:Nat)=>((i:Int),C.g i))/\z.n=m+(C.n-j)/\z.toList.reverse=C.toList.drop j++(x3.take m).toList.reverse) ?_ ?_ _ _ ⟨C.n,Nat.le_refl _,rfl,by show m=_;omega,by rw[Fg];rfl⟩
  ·rintro z ⟨j,hj,hL,hz,hzr⟩;have hj0:j=0:=by
    cases j with
    |zero=>rfl
    |succ j=>simp[List.range_succ]at hL
   subst hj0;rw[List.drop_zero]at hzr;refine hs (by omega) _ _ ⟨N9 (by omega),by omega,fun q hq=>?_,?_⟩
   ·rw[hzr]at hq;rcases List.mem_append.1 hq with h|h
    ·obtain⟨i',hi',rfl⟩:=List.mem_map.1 h;have hi':=List.mem_range.1 hi';rw[<- hC]at hi'⊢;exact (hok (x3.g m) (by simp)).L (Nat.lt_of_lt_of_le hi' (Nat.min_le_right _ _))
    ·exact hok q (by simp[h])
   ·rw[hzr,h2,show 40-(i+1)=39-i by omega,<- hC,Ab2 (by omega)];exact⟨fun h=>h.2,fun h=>⟨hnode.1 h0,h⟩⟩
  ·rintro t L z self2 ⟨j,hj,hL,hz,hzr⟩ hs2;cases j with
   |zero=>simp at hL
   |succ j=>rw[List.range_succ,List.reverse_append,List.reverse_singleton,List.singleton_append,List.map_cons]at hL;obtain⟨rfl,rfl⟩:=List.cons.inj hL;have e1:(z.n:Int).toNat=z.n:=Int.toNat_natCast _;refine ifT ⟨⟨⟨by show (z.n+1)*64<=_;omega,by show z.n+1<=_;omega⟩,by show (0:Int)<=_/\(z.n:Int)<((z.n+1:Nat):Int);omega⟩,by show z.n<z.n+1;omega⟩ ?_;refine hs2 _ ⟨j,by omega,rfl,by show z.n+1=_;omega,?_⟩;rw[Yg,hzr,Gt C (i:=j) (by omega),List.cons_append]
end Go.AM
namespace Go.AM
open IntKind (wrap)
open Go.Proofs
theorem Qb {N:Nat}{w:Sl Sound}(hN:w.n<N)(hs:w.n<1000000){f:Sound->Option Bool}{b:Nat->Bool}(hf:∀i,i<w.n->f (w.g i)=some (b i)) :∃r,A9 N w f=some r/\(r=true ↔ ∃i,i<w.n/\b i=true):=by
 unfold A9 C8
 have:∃y,Az N (fun (self1:Int->Option Int) (x1:Int)=>
  if (decide (x1<(w.n:Int))) then
   if ((0:Int)<=x1/\x1<(w.n:Int))then
    (f (w.g x1.toNat)).bind fun y3=>
    if y3 then
     some x1
    else
     self1 (wrap .i64 (x1+1))
   else none
  else
   some (-1)) 0=some y/\(0<=y ↔ ∃i,i<w.n/\b i=true):=by
  refine Eu (fun i x1=>x1=(i:Int)/\∀j,j<i->b j=false) w.n _ hN ⟨rfl,fun j hj=>absurd hj (by omega)⟩ ?_;rintro self i x1 hi ⟨rfl,h⟩ hs2;by_cases hl:i<w.n
  ·refine ifT (by simp;omega) (ifT (by omega) (I5 (by rw[Int.toNat_natCast];exact hf i hl) ?_));cases hb:b i
   ·refine ifF (by simp) (hs2 hl _ ⟨N9 (by omega),fun j hj=>?_⟩);by_cases e:j=i
    ·subst e;exact hb
    ·exact h j (by omega)
   ·exact ifT rfl ⟨i,rfl,fun _=>⟨i,hl,hb⟩,fun _=>by omega⟩
  ·refine ifF (by simp;omega) ⟨-1,rfl,fun h=>absurd h (by decide),?_⟩;rintro⟨j,hj,hb⟩;rw[h j (by omega)]at hb;cases hb
 obtain⟨y,e,hy⟩:=this;exact I5 e ⟨_,rfl,by rw[decide_eq_true_eq];exact hy⟩
end Go.AM
namespace Go.AM
open Go.Proofs
end Go.AM
namespace Go.AM
open Go.Proofs
end Go.AM
namespace Go.AM
open Go.Proofs
def okL (l:Law):Prop:=okPS l.Left/\okPS l.Right/\∀i,i<l.If.n->okS (l.If.g i)
end Go.AM
namespace Go.AM
open Go.Proofs
end Go.AM
namespace Go.AM
open Go.Proofs
def okO (x:Ai):Prop:=okS x.Set/\(∃c:BitVec 32,x.Clear=(c.toNat:Int))/\∃t:BitVec 32,x.Take=(t.toNat:Int)
end Go.AM
namespace Go.AM
open Go.Proofs
theorem ne0 (x:BitVec 32):((x.toNat:Int) != 0)=decide (x≠0#32):=by rw[bne,eq0];simp
theorem or0 (x y:BitVec 32):x ||| y=0#32↔x=0#32/\y=0#32:=by
 constructor
 ·intro h;have h:=(z32 _).1 h;exact⟨(z32 _).2 fun i hi=>by have:=h i hi;rw[BitVec.getLsbD_or,Bool.or_eq_false_iff]at this;exact this.1,(z32 _).2 fun i hi=>by have:=h i hi;rw[BitVec.getLsbD_or,Bool.or_eq_false_iff]at this;exact this.2⟩
 ·rintro⟨rfl,rfl⟩;rfl
theorem Aj0 (x y z:BitVec 32):x &&& (y ||| z)=(x &&& y) ||| (x &&& z):=by apply BitVec.eq_of_getLsbD_eq;intro i hi;simp only[BitVec.getLsbD_and,BitVec.getLsbD_or];cases x.getLsbD i<;>simp
theorem Aj1 (x y z:BitVec 32):(x ||| y) &&& z=(x &&& z) ||| (y &&& z):=by apply BitVec.eq_of_getLsbD_eq;intro i hi;simp only[BitVec.getLsbD_and,BitVec.getLsbD_or];cases z.getLsbD i<;>simp
theorem Tb {N:Nat}(hN:1000<=N){x:Ai}(hx:okO x)(k:Int):∃b,Ad N x k=some b/\Dw N x k=some b:=by
 obtain⟨⟨a,b,hset⟩,⟨c,hc⟩,t,ht⟩:=hx;have h24:(16777215:Int)=((16777215#32).toNat:Int):=rfl;unfold Ad Dw;simp only[lt,hset,hc,ht,PZ,MJ a b hN,Option.bind_some];rw[h24];simp only[JC,VR,TQ,ne0];by_cases h1:x.From < -1
 ·simp[h1]
 by_cases h2:k<=x.From
 ·simp[h1,h2]
 by_cases h3:vB a b=true
 case neg=>simp[h1,h2,h3]
 simp only[h1,h2,h3,decide_false,Bool.false_eq_true,if_false,Bool.not_true];rw[Aj1,Aj0 t];generalize ~~~16777215#32=M;by_cases g1:c &&& M=0#32
 case neg=>simp[g1,or0]
 by_cases g2:t &&& M=0#32
 case neg=>simp[g1,g2,or0]
 by_cases g3:c &&& (a ||| b)=0#32
 case neg=>simp[g1,g2,g3,or0]
 by_cases g4:t &&& (a ||| b)=0#32
 case neg=>simp[g1,g2,g3,g4,or0]
 by_cases g5:t &&& c=0#32
 case neg=>simp[g1,g2,g3,g4,g5,or0]
 simp[g1,g2,g3,g4,g5,or0];by_cases g6:t.toNat=0
 ·simp only[g6,if_true];cases x.Of==0<;>simp
 ·simp only[g6,if_false];cases (decide (0<=x.Of)&&decide (x.Of<k))<;>simp
end Go.AM
