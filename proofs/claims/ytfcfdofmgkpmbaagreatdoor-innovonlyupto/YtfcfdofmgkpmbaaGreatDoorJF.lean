/- What a law's walk and its plain proof need, part 6: no condition of its own. -/
import Derived.Test.YtfcfdofmgkpmbaaGreatDoorJE
import Derived.Test.YtfcfdofmgkpmbaaGreatDoorJD
set_option linter.unusedSimpArgs false
set_option linter.unusedVariables false
set_option linter.unusedSectionVars false
namespace Go.AM
open IntKind (wrap)
open Go.Proofs
set_option maxRecDepth 10000
set_option maxHeartbeats 2000000
variable {S:Y7}(hS:H0 S Tryz.prog) (hL:Oo S)
include hS hL
def Qs (rec:H8->Int->Option (Sl Int))(N:Nat)(p_h:H8)(p_v:Int):Option (Sl Int):=
 if (decide (p_v<0)) then
  some (Sl.nil:Sl Int)
 else
  if ((0:Int)<=p_v/\p_v<(p_h.Tree.n:Int))then
   (rec p_h (p_h.Tree.g p_v.toNat).Parent).bind fun y1=>
   if (((0:Int)<=p_v/\p_v<(p_h.On.n:Int))/\((y1.n+(p_h.On.g p_v.toNat).n)*8<=140737488355328/\y1.n+(p_h.On.g p_v.toNat).n<=140737488355328))then
    some (y1.app (p_h.On.g p_v.toNat))
   else none
  else none
def Uh:Nat->H8->Int->Option (Sl Int)
 |0=>fun _ _=>none
 |N+1=>Qs (Uh N) N
def Eh (N:Nat)(p_c:Int):Option Bool:=
 some (((((decide (97<=p_c))&&(decide (p_c<=122)))||((decide (65<=p_c))&&(decide (p_c<=90))))||((decide (48<=p_c))&&(decide (p_c<=57))))||(p_c==45))
theorem Oz {N:Nat}{p_c:Int}{y:Bool}(h:Eh N p_c=some y) :FunO S Hx [.p (pI .u8 p_c)] [] (pB y) ([]) []:=by unfold Eh at h;refine A4 hS Oc ?_;refine kB hS (A7 hS) trivial trivial 23 (.o (.o (.o (.n (.a (decide (97<=p_c))) (.a (decide (p_c<=122)))) (.n (.a (decide (65<=p_c))) (.a (decide (p_c<=90))))) (.n (.a (decide (48<=p_c))) (.a (decide (p_c<=57))))) (.a (p_c==45))) ?_;cases h;exact kR hS
def Fu (N:Nat)(p_s:Str):Option Bool:=
 Co N (fun self1 (x1:Int)=>
  if (decide (x1<(p_s.length:Int))) then
   if ((0:Int)<=x1/\x1<(p_s.length:Int))then
    (Eh N (IO p_s x1)).bind fun y3=>
    if (!y3) then
     some false
    else
     self1 (wrap .i64 (x1+1))
   else none
  else
   some ((decide (0<(p_s.length:Int)))&&(decide ((p_s.length:Int)<=24)))
  ) 0
theorem Qt {N:Nat}{p_s:Str}{y:Bool}(h:Fu N p_s=some y) :FunO S IX [.p (.str p_s)] [] (pB y) ([]) []:=by
 unfold Fu at h;refine A4 hS Qd ?_;refine W6 hS trivial h (fun x1=>⟨[(6,pN x1),(5,pN (p_s.length:Int)),(0,.p (.str p_s))],[]⟩) (ids:=[]) (fun _ _ _ _ _ self1 x1 hb1 h=>?_);refine kI hS h (fun h=>?_) (fun h=>?_)
 ·obtain⟨c8,h⟩:=G9 h;obtain⟨y3,e3,h⟩:=B5 h;refine B7 hS [] c8 (Oz hS hL e3) ?_;refine kI hS h (fun h=>?_) (fun h=>?_)
  ·cases h;exact kR hS
  ·exact hb1 _ [] _ (wrap .i64 (x1+1)) trivial h
 ·refine kB hS (A7 hS) trivial trivial 4 (.n (.a (decide (0<(p_s.length:Int)))) (.a (decide ((p_s.length:Int)<=24)))) ?_;cases h;exact kR hS
def CD (N:Nat)(p_t:Sl T4):Option Int:=
 if (((p_t.n:Int)==0)||(decide (63<(p_t.n:Int)))) then
  some 16
 else
  Dq N (fun self1 (x2:List (Str×Bool)) (x3:Int)=>
   if (decide (x3<(p_t.n:Int))) then
    if ((0:Int)<=x3/\x3<(p_t.n:Int))then
     lt (fun (z3:Bool)=>
      if z3 then
       some 16
      else
       self1 (TL eqS (p_t.g x3.toNat).Name true x2) (wrap .i64 (x3+1))
      ) fun k3=>
      if (decide (x3<=(p_t.g x3.toNat).Parent)) then
       k3 true
      else
       if (decide ((p_t.g x3.toNat).Parent<(if 0<(wrap .i64 (x3-1))then 0 else (wrap .i64 (x3-1))))) then
        k3 true
       else
        (Fu N (p_t.g x3.toNat).Name).bind fun y6=>
        if (!y6) then
         k3 true
        else
         Ab1 (LH eqS (p_t.g x3.toNat).Name x2) (
          k3 false
          ) fun v6=>
          k3 v6
    else none
   else
    some 0
   ) [] 0
theorem Jc {N:Nat}{p_t:Sl T4}{y:Int}(h:CD N p_t=some y) :FunO S IU [.p (vSl 2 P7 p_t)] [] (pN y) ([]) []:=by
 unfold CD at h;refine A4 hS Qa ?_;refine kB hS (A7 hS) trivial trivial 4 (.o (.a ((p_t.n:Int)==0)) (.a (decide (63<(p_t.n:Int))))) ?_;refine kI hS h (fun h=>?_) (fun h=>?_)
 ·cases h;exact kR hS
 ·refine N0 hS trivial h (fun x2 x3=>⟨[(17,pN x3),(16,pN (p_t.n:Int)),(15,.p (vSl 2 P7 p_t)),(3,.mref 15000)],[(15000,.map (Km PV.str PV.bb x2))]⟩) (ids:=[(15000,15000)]) (fun _ _ _ _ _ self1 x2 x3 hb3 h=>?_);refine kI hS h (fun h=>?_) (fun h=>?_)
  ·obtain⟨c25,h⟩:=G9 h;refine Kr hS (And.intro c25 (by decide:(2:Nat)<=2)) (A7 hS) h 0 (fun z3=>⟨[(45,pB z3),(17,pN x3),(16,pN (p_t.n:Int)),(15,.p (vSl 2 P7 p_t)),(5,.reg 6000 0),(3,.mref 15000)],[(15000,.map (Km PV.str PV.bb x2)),(6000,.cells [pN (p_t.g x3.toNat).Parent,.p (.str (p_t.g x3.toNat).Name)])]⟩) (fun M3 k3 hb4 h=>?_) (fun z3 h=>?_)
   ·refine kG hS h (fun h=>?_) (fun h=>?_)
    ·exact hb4 _ [(6000,6000),(15000,15000)] _ true trivial h
    ·refine kG hS h (fun h=>?_) (fun h=>?_)
     ·exact hb4 _ [(6000,6000),(15000,15000)] _ true trivial h
     ·refine kC hS h (Qt hS hL) (fun y6 h=>?_);refine kG hS h (fun h=>?_) (fun h=>?_)
      ·exact hb4 _ [(6000,6000),(15000,15000)] _ true trivial h
      ·rcases o6:LH eqS (p_t.g x3.toNat).Name x2 with _|v6
       ·replace h:=optN o6 h;refine FF hS trivial (kt:=AR) (e:=Yj) (key:=PV.str (p_t.g x3.toNat).Name) (es:=Km PV.str PV.bb x2) (x:=.v (.bool false)) (b:=false) (fd:=none) ((BW (kP:=PV.str) (vP:=PV.bb) (eq:=eqS) (fun _ _=>by kernel_rfl) (p_t.g x3.toNat).Name x2).trans (by rw[o6];rfl)) trivial ?_;exact hb4 _ [(6000,6000),(15000,15000)] _ false trivial h
       ·replace h:=optS o6 h;refine FF hS trivial (kt:=AR) (e:=Yj) (key:=PV.str (p_t.g x3.toNat).Name) (es:=Km PV.str PV.bb x2) (x:=PV.bb v6) (b:=true) (fd:=some (PV.bb v6)) ((BW (kP:=PV.str) (vP:=PV.bb) (eq:=eqS) (fun _ _=>by kernel_rfl) (p_t.g x3.toNat).Name x2).trans (by rw[o6];rfl)) trivial ?_;exact hb4 _ [(6000,6000),(15000,15000)] _ v6 trivial h
   ·refine kI hS h (fun h=>?_) (fun h=>?_)
    ·cases h;exact kR hS
    ·refine JC hS trivial (kt:=AR) (key:=PV.str (p_t.g x3.toNat).Name) (y:=PV.bb true) (es:=Km PV.str PV.bb x2) (Hf (kP:=PV.str) (vP:=PV.bb) (eq:=eqS) (fun _ _=>by kernel_rfl) (p_t.g x3.toNat).Name true x2) trivial ?_;exact hb3 _ [(15000,15000)] _ (TL eqS (p_t.g x3.toNat).Name true x2) (wrap .i64 (x3+1)) trivial h
  ·cases h;exact kR hS
def Ci (N:Nat)(p_h:H8):Option Int:=
 if ((0:Int)<=(p_h.On.n:Int)/\(p_h.On.n:Int)<=(p_h.On.n:Int)/\(p_h.On.n:Int)*8<=140737488355328/\(p_h.On.n:Int)<=140737488355328)then
  WZ N (fun self3 (x4:Sl Int) (x5:Bool) (x6:Int)=>
   if (decide (x6<(p_h.On.n:Int))) then
    if ((((0:Int)<=x6/\x6<(p_h.On.n:Int))/\((0:Int)<=x6/\x6<(x4.n:Int)))/\x6.toNat<x4.n)then
     if ((0:Int)<=x6/\x6<(p_h.Tree.n:Int))then
      lt (fun (z3:Sl Int)=>
       if (((0:Int)<=x6/\x6<(z3.n:Int))/\x6.toNat<z3.n)then
        if (decide (64<(z3.g x6.toNat))) then
         some 2
        else
         Dq N (fun self4 (x11:Bool) (x12:Int)=>
          if (decide (x12<((p_h.On.g x6.toNat).n:Int))) then
           if ((0:Int)<=x12/\x12<((p_h.On.g x6.toNat).n:Int))then
            self4 ((x11||(decide (((p_h.On.g x6.toNat).g x12.toNat)<0)))||(decide ((p_h.Laws.n:Int)<=((p_h.On.g x6.toNat).g x12.toNat)))) (wrap .i64 (x12+1))
           else none
          else
           self3 z3 x11 (wrap .i64 (x6+1))
          ) x5 0
       else none
       ) fun k3=>
       if (decide (0<=(p_h.Tree.g x6.toNat).Parent)) then
        if (((((((0:Int)<=x6/\x6<((x4.upd x6.toNat ((p_h.On.g x6.toNat).n:Int)).n:Int))/\x6.toNat<(x4.upd x6.toNat ((p_h.On.g x6.toNat).n:Int)).n)/\((0:Int)<=(p_h.Tree.g x6.toNat).Parent/\(p_h.Tree.g x6.toNat).Parent<((x4.upd x6.toNat ((p_h.On.g x6.toNat).n:Int)).n:Int)))/\(p_h.Tree.g x6.toNat).Parent.toNat<(x4.upd x6.toNat ((p_h.On.g x6.toNat).n:Int)).n)/\((0:Int)<=x6/\x6<((x4.upd x6.toNat ((p_h.On.g x6.toNat).n:Int)).n:Int)))/\x6.toNat<(x4.upd x6.toNat ((p_h.On.g x6.toNat).n:Int)).n)then
         k3 ((x4.upd x6.toNat ((p_h.On.g x6.toNat).n:Int)).upd x6.toNat (wrap .i64 (((x4.upd x6.toNat ((p_h.On.g x6.toNat).n:Int)).g x6.toNat)+((x4.upd x6.toNat ((p_h.On.g x6.toNat).n:Int)).g (p_h.Tree.g x6.toNat).Parent.toNat))))
        else none
       else
        k3 (x4.upd x6.toNat ((p_h.On.g x6.toNat).n:Int))
     else none
    else none
   else
    if x5 then
     some 3
    else
     some 0
   ) (Sl.rep (p_h.On.n:Int).toNat 0:Sl Int) false 0
 else none
theorem Lh {N:Nat}{p_h:H8}{y:Int}(h:Ci N p_h=some y) :FunO S Fe [.p (.agg (E1 p_h))] [] (pN y) ([]) []:=by
 unfold Ci at h;refine A4 hS KK ?_;refine H5 hS trivial 2 2000 (E1 p_h) ?_;obtain⟨c1,h⟩:=G9 h;refine Ks hS c1 h (fun x4 x5 x6=>⟨[(17,pN x6),(16,pN (p_h.On.n:Int)),(15,.p (vSl 1 (cL 1 (cI .i64)) p_h.On)),(4,pB x5),(3,.vec 14000),(1,.p (.ptr (E1 p_h)))],[(14000,.vec E7 1 x4.n (fun i=>cI .i64 (x4.g i)) false)]⟩) (ids:=[(14000,14000)]) (fun _ _ _ _ _ self3 x4 x5 x6 hb5 h=>?_);refine kI hS h (fun h=>?_) (fun h=>?_)
 ·obtain⟨c35,h⟩:=G9 h;refine W7 hS (And.intro (And.intro c35.1.1 c35.1.2) (And.intro (rfl:(1:Nat)=1) (And.intro c35.2 (by decide:(1:Nat)<=1)))) 27 ⟨[(17,pN x6),(16,pN (p_h.On.n:Int)),(15,.p (vSl 1 (cL 1 (cI .i64)) p_h.On)),(6,.p (vSl 1 (cI .i64) (p_h.On.g x6.toNat))),(5,pN x6),(4,pB x5),(3,.vec 14000),(1,.p (.ptr (E1 p_h)))],[(14000,.vec E7 1 (x4.upd x6.toNat ((p_h.On.g x6.toNat).n:Int)).n (fun i=>cI .i64 ((x4.upd x6.toNat ((p_h.On.g x6.toNat).n:Int)).g i)) false)]⟩ (ids:=[(14000,14000)]) ?_ (hle:=klR [(7,.fn x4.n (x4.upd x6.toNat ((p_h.On.g x6.toNat).n:Int)).n (fun l=>if l=x6.toNat then splice ((fun i=>cI .i64 (x4.g i)) l) 0 [pI .i64 ((p_h.On.g x6.toNat).n:Int)]else (fun i=>cI .i64 (x4.g i)) l) (fun i=>cI .i64 ((x4.upd x6.toNat ((p_h.On.g x6.toNat).n:Int)).g i)))] (al1 ⟨rfl,Aa8 (c:=cI .i64) (v:=x4) (x:=((p_h.On.g x6.toNat).n:Int)) same (fun _=>by first|rfl|(dsimp only;split<;>rfl))⟩ al0));obtain⟨c36,h⟩:=G9 h;refine Kr hS c36 (A7 hS) h 0 (fun z3=>⟨[(17,pN x6),(16,pN (p_h.On.n:Int)),(15,.p (vSl 1 (cL 1 (cI .i64)) p_h.On)),(6,.p (vSl 1 (cI .i64) (p_h.On.g x6.toNat))),(5,pN x6),(4,pB x5),(3,.vec 14000),(1,.p (.ptr (E1 p_h)))],[(14000,.vec E7 1 z3.n (fun i=>cI .i64 (z3.g i)) false)]⟩) (fun M3 k3 hb6 h=>?_) (fun z3 h=>?_)
  ·refine kI hS h (fun h=>?_) (fun h=>?_)
   ·refine EU hS trivial ?_;obtain⟨c41,h⟩:=G9 h;refine J2 (And.intro (And.intro (And.intro (And.intro (And.intro c41.1.1.1.1.1 c41.1.1.1.1.2) c41.1.1.1.2) c41.1.1.2) c41.1.2) (And.intro (rfl:(1:Nat)=1) (And.intro c41.2 (by decide:(1:Nat)<=1)))) ?_;exact hb6 _ [(14000,14000)] _ ((x4.upd x6.toNat ((p_h.On.g x6.toNat).n:Int)).upd x6.toNat (wrap .i64 (((x4.upd x6.toNat ((p_h.On.g x6.toNat).n:Int)).g x6.toNat)+((x4.upd x6.toNat ((p_h.On.g x6.toNat).n:Int)).g (p_h.Tree.g x6.toNat).Parent.toNat)))) trivial h (hle:=klR [(7,.fn (x4.upd x6.toNat ((p_h.On.g x6.toNat).n:Int)).n ((x4.upd x6.toNat ((p_h.On.g x6.toNat).n:Int)).upd x6.toNat (wrap .i64 (((x4.upd x6.toNat ((p_h.On.g x6.toNat).n:Int)).g x6.toNat)+((x4.upd x6.toNat ((p_h.On.g x6.toNat).n:Int)).g (p_h.Tree.g x6.toNat).Parent.toNat)))).n (fun l=>if l=x6.toNat then splice ((fun i=>cI .i64 ((x4.upd x6.toNat ((p_h.On.g x6.toNat).n:Int)).g i)) l) 0 [pI .i64 (wrap .i64 (((x4.upd x6.toNat ((p_h.On.g x6.toNat).n:Int)).g x6.toNat)+((x4.upd x6.toNat ((p_h.On.g x6.toNat).n:Int)).g (p_h.Tree.g x6.toNat).Parent.toNat)))]else (fun i=>cI .i64 ((x4.upd x6.toNat ((p_h.On.g x6.toNat).n:Int)).g i)) l) (fun i=>cI .i64 (((x4.upd x6.toNat ((p_h.On.g x6.toNat).n:Int)).upd x6.toNat (wrap .i64 (((x4.upd x6.toNat ((p_h.On.g x6.toNat).n:Int)).g x6.toNat)+((x4.upd x6.toNat ((p_h.On.g x6.toNat).n:Int)).g (p_h.Tree.g x6.toNat).Parent.toNat)))).g i)))] (al1 ⟨rfl,Aa8 (c:=cI .i64) (v:=x4.upd x6.toNat ((p_h.On.g x6.toNat).n:Int)) (x:=wrap .i64 (((x4.upd x6.toNat ((p_h.On.g x6.toNat).n:Int)).g x6.toNat)+((x4.upd x6.toNat ((p_h.On.g x6.toNat).n:Int)).g (p_h.Tree.g x6.toNat).Parent.toNat))) same (fun _=>by first|rfl|(dsimp only;split<;>rfl))⟩ al0))
   ·exact hb6 _ [(14000,14000)] _ (x4.upd x6.toNat ((p_h.On.g x6.toNat).n:Int)) trivial h
  ·obtain⟨c42,h⟩:=G9 h;refine D9 hS c42 (b:=decide (64<(z3.g x6.toNat))) (fun c43=>?_) (fun c43=>?_)
   ·replace h:=itT c43 h;cases h;exact kR hS
   ·replace h:=itF c43 h;refine N0 hS trivial h (fun x11 x12=>⟨[(52,pN x12),(51,pN ((p_h.On.g x6.toNat).n:Int)),(50,.p (vSl 1 (cI .i64) (p_h.On.g x6.toNat))),(17,pN x6),(16,pN (p_h.On.n:Int)),(15,.p (vSl 1 (cL 1 (cI .i64)) p_h.On)),(4,pB x11),(3,.vec 14000),(1,.p (.ptr (E1 p_h)))],[(14000,.vec E7 1 z3.n (fun i=>cI .i64 (z3.g i)) false)]⟩) (ids:=[(14000,14000)]) (fun _ _ _ _ _ self4 x11 x12 hb7 h=>?_);refine kI hS h (fun h=>?_) (fun h=>?_)
    ·obtain⟨c49,h⟩:=G9 h;refine kB hS (A7 hS) c49 trivial 10 (.o (.o (.a x11) (.a (decide (((p_h.On.g x6.toNat).g x12.toNat)<0)))) (.a (decide ((p_h.Laws.n:Int)<=((p_h.On.g x6.toNat).g x12.toNat))))) ?_;exact hb7 _ [(14000,14000)] _ ((x11||(decide (((p_h.On.g x6.toNat).g x12.toNat)<0)))||(decide ((p_h.Laws.n:Int)<=((p_h.On.g x6.toNat).g x12.toNat)))) (wrap .i64 (x12+1)) trivial h
    ·exact hb5 _ [(14000,14000)] _ z3 x11 (wrap .i64 (x6+1)) trivial h
 ·refine kI hS h (fun h=>?_) (fun h=>?_)
  ·cases h;exact kR hS
  ·cases h;exact kR hS
def U0 (N:Nat)(p_h:H8):Option Int:=
 (CD N p_h.Tree).bind fun y1=>
 if (y1 != 0) then
  some 16
 else
  if (decide (64<(p_h.Laws.n:Int))) then
   some 12
  else
   Dq N (fun self1 (x1:List (Str×Int)) (x2:Int)=>
    if (decide (x2<(p_h.Laws.n:Int))) then
     if ((0:Int)<=x2/\x2<(p_h.Laws.n:Int))then
      (Cg N (p_h.Laws.g x2.toNat)).bind fun y4=>
      if (y4 != 0) then
       some 17
      else
       Ab1 (LH eqS (p_h.Laws.g x2.toNat).Name x1) (
        self1 (TL eqS (p_h.Laws.g x2.toNat).Name (wrap .i64 (0+1)) x1) (wrap .i64 (x2+1))
        ) fun v3=>
        self1 (TL eqS (p_h.Laws.g x2.toNat).Name (wrap .i64 (v3+1)) x1) (wrap .i64 (x2+1))
     else none
    else
     if (decide (((Km PV.str (pI .i64) x1).length:Int)<(p_h.Laws.n:Int))) then
      some 6
     else
      if ((p_h.On.n:Int) != (p_h.Tree.n:Int)) then
       some 2
      else
       (Ci N p_h).bind fun y5=>
       some y5
    ) [] 0
theorem Cj {N:Nat}{p_h:H8}{y:Int}(h:U0 N p_h=some y) :FunO S Fb [.p (.agg (E1 p_h))] [] (pN y) ([]) []:=by
 unfold U0 at h;refine A4 hS KF ?_;refine kC hS h (Jc hS hL) (fun y1 h=>?_);refine kI hS h (fun h=>?_) (fun h=>?_)
 ·cases h;exact kR hS
 ·refine kI hS h (fun h=>?_) (fun h=>?_)
  ·cases h;exact kR hS
  ·refine N0 hS trivial h (fun x1 x2=>⟨[(18,pN x2),(17,pN (p_h.Laws.n:Int)),(16,.p (vSl 18 C0 p_h.Laws)),(3,.mref 15000),(1,.reg 2000 0)],[(15000,.map (Km PV.str (pI .i64) x1)),(2000,.cells ((E1 p_h).map .p))]⟩) (ids:=[(2000,2000),(15000,15000)]) (fun _ _ _ _ _ self1 x1 x2 hb1 h=>?_);refine kI hS h (fun h=>?_) (fun h=>?_)
   ·obtain⟨c10,h⟩:=G9 h;obtain⟨y4,e4,h⟩:=B5 h;refine B7 hS [] (And.intro c10 (by decide:(18:Nat)<=18)) (GD hS hL e4) ?_;refine kI hS h (fun h=>?_) (fun h=>?_)
    ·cases h;exact kR hS
    ·rcases o3:LH eqS (p_h.Laws.g x2.toNat).Name x1 with _|v3
     ·replace h:=optN o3 h;refine FF hS trivial (kt:=AR) (e:=E7) (key:=PV.str (p_h.Laws.g x2.toNat).Name) (es:=Km PV.str (pI .i64) x1) (x:=pI .i64 0) (b:=false) (fd:=none) ((BW (kP:=PV.str) (vP:=pI .i64) (eq:=eqS) (fun _ _=>by kernel_rfl) (p_h.Laws.g x2.toNat).Name x1).trans (by rw[o3];rfl)) trivial ?_;refine JC hS trivial (kt:=AR) (key:=PV.str (p_h.Laws.g x2.toNat).Name) (y:=pI .i64 (wrap .i64 (0+1))) (es:=Km PV.str (pI .i64) x1) (Hf (kP:=PV.str) (vP:=pI .i64) (eq:=eqS) (fun _ _=>by kernel_rfl) (p_h.Laws.g x2.toNat).Name (wrap .i64 (0+1)) x1) trivial ?_;exact hb1 _ [(2000,2000),(15000,15000)] _ (TL eqS (p_h.Laws.g x2.toNat).Name (wrap .i64 (0+1)) x1) (wrap .i64 (x2+1)) trivial h
     ·replace h:=optS o3 h;refine FF hS trivial (kt:=AR) (e:=E7) (key:=PV.str (p_h.Laws.g x2.toNat).Name) (es:=Km PV.str (pI .i64) x1) (x:=pI .i64 v3) (b:=true) (fd:=some (pI .i64 v3)) ((BW (kP:=PV.str) (vP:=pI .i64) (eq:=eqS) (fun _ _=>by kernel_rfl) (p_h.Laws.g x2.toNat).Name x1).trans (by rw[o3];rfl)) trivial ?_;refine JC hS trivial (kt:=AR) (key:=PV.str (p_h.Laws.g x2.toNat).Name) (y:=pI .i64 (wrap .i64 (v3+1))) (es:=Km PV.str (pI .i64) x1) (Hf (kP:=PV.str) (vP:=pI .i64) (eq:=eqS) (fun _ _=>by kernel_rfl) (p_h.Laws.g x2.toNat).Name (wrap .i64 (v3+1)) x1) trivial ?_;exact hb1 _ [(2000,2000),(15000,15000)] _ (TL eqS (p_h.Laws.g x2.toNat).Name (wrap .i64 (v3+1)) x1) (wrap .i64 (x2+1)) trivial h
   ·refine kI hS h (fun h=>?_) (fun h=>?_)
    ·cases h;exact kR hS
    ·refine kI hS h (fun h=>?_) (fun h=>?_)
     ·cases h;exact kR hS
     ·refine kC hS h (Lh hS hL) (fun y5 h=>?_);cases h;exact kR hS
def CY (N:Nat)(p_h:H8)(p_v:Int):Option Bool:=
 some ((decide (0<=p_v))&&(decide (p_v<(p_h.Tree.n:Int))))
theorem Ml {N:Nat}{p_h:H8}{p_v:Int}{y:Bool}(h:CY N p_h p_v=some y) :FunO S FZ [.p (.agg (E1 p_h)),pN p_v] [] (pB y) ([]) []:=by unfold CY at h;refine A4 hS LP ?_;refine kB hS (A7 hS) trivial trivial 6 (.n (.a (decide (0<=p_v))) (.a (decide (p_v<(p_h.Tree.n:Int))))) ?_;cases h;exact kR hS
def Ck (N:Nat)(q0:Int)(q1:Sl T4):Option (List (Int)):=
 Dq N (fun self1 (x1:Int) (x2:Sl Int)=>
  if (decide (0<=x1)) then
   if (((x2.n+(Sl.of [x1]:Sl Int).n)*8<=140737488355328/\x2.n+(Sl.of [x1]:Sl Int).n<=140737488355328)/\((0:Int)<=x1/\x1<(q1.n:Int)))then
    self1 (q1.g x1.toNat).Parent (x2.push x1)
   else none
  else
   Co N (fun self2 (x3:Int)=>
    if (decide (0<=x3)) then
     if (((0:Int)<=x3/\x3<(x2.n:Int))/\x3.toNat<x2.n)then
      Hj (x2.g x3.toNat) (
       self2 (wrap .i64 (x3-1))
       )
     else none
    else
     some []
    ) (wrap .i64 ((x2.n:Int)-1))
  ) q0 (Sl.nil:Sl Int)
theorem Li {N:Nat}{q0:Int}{q1:Sl T4}{L:List (Int)}(h:Ck N q0 q1=some L) :DI S Ap [] [.reg 0 0,.reg 1 0] [.cells [pN q0],.cells [.p (vSl 2 P7 q1)]] (L.map (fun (x:Int)=>[pI .i64 x])):=by
 unfold Ck at h;refine DM hS KN ?_;refine NM hS trivial h (fun x1 x2 L1=>⟨[(4,.vec 5500),(2,.reg 1 0),(1,.reg 0 0),(0,.yf 2)],[(5500,.vec E7 1 x2.n (fun i=>cI .i64 (x2.g i)) false),(2,.yld (L1.map (fun (x:Int)=>[pI .i64 x])) true),(1,.cells [.p (vSl 2 P7 q1)]),(0,.cells [pN x1])]⟩) (ids:=[(0,0),(1,1),(2,2)]) (fun _ _ _ _ _ self1 x1 x2 L1 hb1 h=>?_);refine kI hS h (fun h=>?_) (fun h=>?_)
 ·obtain⟨c4,h⟩:=G9 h;exact hb1 _ [(0,0),(1,1),(2,2),(5500,17000)] _ (q1.g x1.toNat).Parent (x2.push x1) L1 (And.intro (And.intro (rfl:true=true) c4.1) c4.2) h (hle:=klR [(0,.fn (x2.n+1) (x2.push x1).n (Ay x2.n (fun i=>cI .i64 (x2.g i)) (E9 [pI .i64 0] [(0,cI .i64 x1)])) (fun i=>cI .i64 ((x2.push x1).g i)))] (al1 ⟨rfl,LA (c:=cI .i64) (v:=x2) (x:=x1) (z:=[(pI .i64 0)]) same rfl rfl⟩ al0))
 ·refine EV hS trivial h (fun x3 L2=>⟨[(5,pN x3),(4,.vec 5500),(0,.yf 2)],[(5500,.vec E7 1 x2.n (fun i=>cI .i64 (x2.g i)) false),(2,.yld (L2.map (fun (x:Int)=>[pI .i64 x])) true),(1,.cells [.p (vSl 2 P7 q1)]),(0,.cells [pN x1])]⟩) (ids:=[(0,0),(1,1),(2,2),(5500,5500)]) (fun _ _ _ _ _ self2 x3 L2 hb2 h=>?_);refine kI hS h (fun h=>?_) (fun h=>?_)
  ·obtain⟨c14,h⟩:=G9 h;obtain⟨L5,rfl,hcL5⟩:=Kt h;replace h:=hcL5;refine BX hS c14 (ys:=(fun (x:Int)=>[pI .i64 x]) (x2.g x3.toNat)) (rest:=L5.map (fun (x:Int)=>[pI .i64 x])) ?_ ?_
   ·refine D9 hS trivial (b:=false) (fun c15=>?_) (fun c15=>?_)
    ·exact Bool.noConfusion ((rfl:false=false).symm.trans c15)
    ·exact hb2 _ [(0,0),(1,1),(2,2),(5500,5500)] _ (wrap .i64 (x3-1)) L5 trivial h
   ·refine D9 hS trivial (b:=true) (fun c16=>?_) (fun c16=>?_)
    ·exact A6 hS trivial (a:=.tup []) (objs:=[(.cells [pN x1]),.cells [.p (vSl 2 P7 q1)],.yld [] false]) ⟨[],[(2,.yld [] false),(1,.cells [.p (vSl 2 P7 q1)]),(0,.cells [pN x1])]⟩ [0,1,2] (ids:=[(0,0),(1,1),(2,2)]) ⟨false,rfl,rfl,_,rfl⟩
    ·exact Bool.noConfusion ((rfl:true=true).symm.trans c16)
  ·obtain rfl:=B8 h;exact A6 hS trivial (a:=.tup []) (objs:=[(.cells [pN x1]),.cells [.p (vSl 2 P7 q1)],.yld [] true]) ⟨[],[(2,.yld [] true),(1,.cells [.p (vSl 2 P7 q1)]),(0,.cells [pN x1])]⟩ [0,1,2] (ids:=[(0,0),(1,1),(2,2)]) ⟨true,rfl,rfl,_,rfl⟩
def Ei (N:Nat)(p_t:Sl T4)(p_v:Int):Option (Int×(Sl T4)):=
 some (p_v,p_t)
theorem OA {N:Nat}{p_t:Sl T4}{p_v:Int}{y:Int×(Sl T4)}(h:Ei N p_t p_v=some y) :FunO S Ht [.p (vSl 2 P7 p_t),pN p_v] [] (.clo Ap [] [.reg 0 0,.reg 1 0]) ([.cells [pN y.1],.cells [.p (vSl 2 P7 y.2)]]) []:=by unfold Ei at h;refine A4 hS NY ?_;obtain rfl:=B8 h;exact A6 hS trivial ⟨[(4,.clo Ap [] [.reg 4000 0,.reg 3000 0])],[(4000,.cells [pN p_v]),(3000,.cells [.p (vSl 2 P7 p_t)])]⟩ [4000,3000] (ids:=[(3000,3000),(4000,4000)]) ⟨rfl,rfl,rfl⟩
def AS (N:Nat)(p_h:H8)(p_v:Int):Option ((Sl Int)×Int):=
 (U0 N p_h).bind fun y1=>
 if (y1 != 0) then
  some ((Sl.nil:Sl Int),y1)
 else
  (CY N p_h p_v).bind fun y2=>
  if (!y2) then
   some ((Sl.nil:Sl Int),3)
  else
   (Ei N p_h.Tree p_v).bind fun y3=>
   (Ck N y3.1 y3.2).bind fun L1=>
   S7 L1 (fun self1 (x1:Int) (z1:Sl Int)=>
    if (((0:Int)<=x1/\x1<(p_h.On.n:Int))/\((z1.n+(p_h.On.g x1.toNat).n)*8<=140737488355328/\z1.n+(p_h.On.g x1.toNat).n<=140737488355328))then
     self1 (z1.app (p_h.On.g x1.toNat))
    else none
    ) (fun (z1:Sl Int)=>
     some (z1,0)
    ) (Sl.nil:Sl Int)
theorem Gj {N:Nat}{p_h:H8}{p_v:Int}{y:(Sl Int)×Int}(h:AS N p_h p_v=some y) :FunO S FX [.p (.agg (E1 p_h)),pN p_v] [] (.tup [.vec 0,pN y.2]) ([.vec E7 1 y.1.n (fun i=>cI .i64 (y.1.g i)) true]) []:=by
 unfold AS at h;refine A4 hS LN ?_;refine H5 hS trivial 4 3000 (E1 p_h) ?_;obtain⟨y1,e1,h⟩:=B5 h;refine B7 hS [] (by decide:(3:Nat)<=3) (Cj hS hL e1) ?_;refine kI hS h (fun h=>?_) (fun h=>?_)
 ·obtain rfl:=B8 h;exact A6 hS trivial ⟨[(5,pN y1),(4,.vec 5700)],[(5700,.vec E7 1 (Sl.nil:Sl Int).n (fun i=>cI .i64 ((Sl.nil:Sl Int).g i)) true)]⟩ [5700] (ids:=[]) ⟨rfl,rfl,rfl⟩
 ·obtain⟨y2,e2,h⟩:=B5 h;refine B7 hS [] (by decide:(3:Nat)<=3) (Ml hS hL e2) ?_;refine kI hS h (fun h=>?_) (fun h=>?_)
  ·obtain rfl:=B8 h;exact A6 hS trivial ⟨[(5,pN 3),(4,.vec 5700)],[(5700,.vec E7 1 (Sl.nil:Sl Int).n (fun i=>cI .i64 ((Sl.nil:Sl Int).g i)) true)]⟩ [5700] (ids:=[]) ⟨rfl,rfl,rfl⟩
  ·refine kC hS h (OA hS hL) (fun y3 h=>?_);obtain⟨L1,e4,h⟩:=B5 h;refine DN hS trivial [22000,22001] [7,2] 901 (fun z1=>⟨[(7,.reg 8000 0),(2,.p (.ptr (E1 p_h)))],[(8500,.vec E7 1 z1.n (fun i=>cI .i64 (z1.g i)) false),(8000,.cells [.vec 8500])]⟩) (idl:=[(8000,8000)]) h (Li hS hL e4) (fun _=>by kernel_rfl) (fun _=>by kernel_rfl) (fun _=>by kernel_rfl) (fun _=>by kernel_rfl) (fun x1 _ self1 z1 hb1 h=>?_) (fun z1 h=>?_)
   ·refine Hk hS trivial ?_;refine I7 hS trivial [2,4,5] ?_;obtain⟨c5,h⟩:=G9 h;refine J2 c5 ?_;exact hb1 _ [(901,901),(8000,8000),(8500,30000)] _ (z1.app (p_h.On.g x1.toNat)) trivial h (hle:=klR [(0,.fn (z1.n+(p_h.On.g x1.toNat).n) (z1.app (p_h.On.g x1.toNat)).n (Ay z1.n (fun i=>cI .i64 (z1.g i)) (fun i=>cI .i64 ((p_h.On.g x1.toNat).g i))) (fun i=>cI .i64 ((z1.app (p_h.On.g x1.toNat)).g i)))] (al1 ⟨rfl,appL (c:=cI .i64) (v:=z1) (w:=p_h.On.g x1.toNat) same rfl same rfl⟩ al0))
   ·obtain rfl:=B8 h;exact A6 hS trivial ⟨[(5,pN 0),(4,.vec 8500)],[(8500,.vec E7 1 z1.n (fun i=>cI .i64 (z1.g i)) true)]⟩ [8500] (ids:=[(8500,8500)]) ⟨rfl,rfl,rfl⟩
def Z6 (rec:Pat->Option Pat)(N:Nat)(p_p:Pat):Option Pat:=
 Dq N (fun self1 (x1:Sl Pat) (x2:Int)=>
  if (decide (x2<(p_p.L.n:Int))) then
   if ((0:Int)<=x2/\x2<(p_p.L.n:Int))then
    (rec (p_p.L.g x2.toNat)).bind fun y3=>
    if ((x1.n+(Sl.of [y3]:Sl Pat).n)*64<=140737488355328/\x1.n+(Sl.of [y3]:Sl Pat).n<=140737488355328)then
     self1 (x1.push y3) (wrap .i64 (x2+1))
    else none
   else none
  else
   some (Pat.mk p_p.Kind p_p.Is p_p.Not p_p.Min p_p.Max x1.n x1.g)
  ) (Sl.nil:Sl Pat) 0
def V7:Nat->Pat->Option Pat
 |0=>fun _=>none
 |N+1=>Z6 (V7 N) N
theorem HK {N:Nat}{rec:Pat->Option Pat}(hrec:∀{p_p:Pat}{y:Pat},rec p_p=some y->FunO S U9 [.p (.agg (D7 p_p))] [] (.p (.agg (D7 y))) ([]) []){p_p:Pat}{y:Pat}(h:Z6 rec N p_p=some y) :FunO S U9 [.p (.agg (D7 p_p))] [] (.p (.agg (D7 y))) ([]) []:=by
 unfold Z6 at h;refine A4 hS Il ?_;refine W7 hS trivial 8 ⟨[(7,.p (vSl 7 D7 p_p.L)),(3,.p K5),(2,.reg 3000 0),(1,.reg 2000 0)],[(3000,.cells [pN 0,pU 0,pU 0,.p (.v (.bool false)),pN 0,pN 0,.p K5]),(2000,.cells ((D7 p_p).map .p))]⟩ (ids:=[(2000,2000),(3000,3000)]) ?_ (hle:=klR [(0,.fn p_p.L.n p_p.L.n (EX p_p) (fun i=>D7 (p_p.L.g i)))] (al1 ⟨rfl,DQ p_p⟩ al0));refine N0 hS trivial h (fun x1 x2=>⟨[(9,pN x2),(8,pN (p_p.L.n:Int)),(7,.p (vSl 7 D7 p_p.L)),(3,.vec 4500),(2,.reg 3000 0),(1,.reg 2000 0)],[(4500,.vec Fl 7 x1.n (fun i=>D7 (x1.g i)) false),(3000,.cells [pN 0,pU 0,pU 0,.p (.v (.bool false)),pN 0,pN 0,.p K5]),(2000,.cells ((D7 p_p).map .p))]⟩) (ids:=[(2000,2000),(3000,3000)]) (fun _ _ _ _ _ self1 x1 x2 hb1 h=>?_);refine kI hS h (fun h=>?_) (fun h=>?_)
 ·obtain⟨c6,h⟩:=G9 h;obtain⟨y3,e3,h⟩:=B5 h;refine B7 hS [] (And.intro c6 (by decide:(7:Nat)<=7)) (hrec e3) ?_;obtain⟨c7,h⟩:=G9 h;exact hb1 _ [(2000,2000),(3000,3000),(4500,18000)] _ (x1.push y3) (wrap .i64 (x2+1)) (And.intro (rfl:true=true) c7) h (hle:=klR [(3,.fn (x1.n+1) (x1.push y3).n (Ay x1.n (fun i=>D7 (x1.g i)) (E9 [pI .i64 0,pI .u32 0,pI .u32 0,.v (.bool false),pI .i64 0,pI .i64 0,K5] [(0,D7 y3)])) (fun i=>D7 ((x1.push y3).g i)))] (al1 ⟨rfl,LA (c:=D7) (v:=x1) (x:=y3) (z:=[(pI .i64 0),pI .u32 0,pI .u32 0,.v (.bool false),pI .i64 0,pI .i64 0,K5]) same rfl rfl⟩ al0))
 ·obtain rfl:=B8 h;exact A6 hS trivial ⟨[(2,.reg 3000 0)],[(3000,.cells [pN p_p.Kind,pU p_p.Is.Plus,pU p_p.Is.Minus,pB p_p.Not,pN p_p.Min,pN p_p.Max,.p (.sl false 7 x1.n (EX (Pat.mk p_p.Kind p_p.Is p_p.Not p_p.Min p_p.Max x1.n x1.g)))])]⟩ [] (ids:=[(3000,3000)]) ⟨rfl,rfl,rfl⟩
theorem Dw {N:Nat}{p_p:Pat}{y:Pat}(h:V7 N p_p=some y) :FunO S U9 [.p (.agg (D7 p_p))] [] (.p (.agg (D7 y))) ([]) []:=by
 induction N generalizing p_p y with
 |zero=>cases (show (none:Option Pat)=some y from h)
 |succ N ih=>exact HK hS hL (fun e=>ih e) h
def Bs (N:Nat)(p_l:Law):Option Law:=
 (V7 N p_l.Left).bind fun y1=>
 (V7 N p_l.Right).bind fun y2=>
 (B3 N p_l.If).bind fun y3=>
 (I2 N p_l.Out).bind fun y4=>
 some (⟨p_l.Name,y1,y2,y3,y4,p_l.Mode⟩:Law)
theorem Ju {N:Nat}{p_l:Law}{y:Law}(h:Bs N p_l=some y) :FunO S Ev [.p (.agg (C0 p_l))] [] (.p (.agg (C0 y))) ([]) []:=by unfold Bs at h;refine A4 hS Jo ?_;refine I7 hS trivial [2,5] ?_;obtain⟨y1,e1,h⟩:=B5 h;refine Q9 trivial (Dw hS hL e1) ?_;obtain⟨y2,e2,h⟩:=B5 h;refine Q9 trivial (Dw hS hL e2) ?_;refine J2 trivial ?_;refine I7 hS trivial [2,5] ?_;obtain⟨y3,e3,h⟩:=B5 h;refine Q9 trivial (V5 hS hL e3) ?_;obtain⟨y4,e4,h⟩:=B5 h;refine Q9 trivial (Ae hS hL e4) ?_;refine J2 trivial ?_;cases h;exact kR hS
def CZ (N:Nat)(p_h:H8)(p_l:Sl Int):Option (Sl Law):=
 Dq N (fun self1 (x1:Sl Law) (x2:Int)=>
  if (decide (x2<(p_l.n:Int))) then
   if (((0:Int)<=x2/\x2<(p_l.n:Int))/\((0:Int)<=(p_l.g x2.toNat)/\(p_l.g x2.toNat)<(p_h.Laws.n:Int)))then
    (Bs N (p_h.Laws.g (p_l.g x2.toNat).toNat)).bind fun y3=>
    if ((x1.n+(Sl.of [y3]:Sl Law).n)*200<=140737488355328/\x1.n+(Sl.of [y3]:Sl Law).n<=140737488355328)then
     self1 (x1.push y3) (wrap .i64 (x2+1))
    else none
   else none
  else
   some x1
  ) (Sl.nil:Sl Law) 0
theorem Mm {N:Nat}{p_h:H8}{p_l:Sl Int}{y:Sl Law}(h:CZ N p_h p_l=some y) :FunO S Ga [.p (.agg (E1 p_h)),.p (vSl 1 (cI .i64) p_l)] [] (.p (vSl 18 C0 y)) ([]) []:=by
 unfold CZ at h;refine A4 hS LQ ?_;refine N0 hS trivial h (fun x1 x2=>⟨[(10,pN x2),(9,pN (p_l.n:Int)),(8,.p (vSl 1 (cI .i64) p_l)),(5,.vec 6500),(2,.reg 3000 0)],[(6500,.vec Ql 18 x1.n (fun i=>C0 (x1.g i)) false),(3000,.cells ((E1 p_h).map .p))]⟩) (ids:=[(3000,3000)]) (fun _ _ _ _ _ self1 x1 x2 hb1 h=>?_);refine kI hS h (fun h=>?_) (fun h=>?_)
 ·obtain⟨c6,h⟩:=G9 h;obtain⟨y3,e3,h⟩:=B5 h;refine B7 hS [] (And.intro (And.intro c6.1 c6.2) (by decide:(18:Nat)<=18)) (Ju hS hL e3) ?_;obtain⟨c7,h⟩:=G9 h;exact hb1 _ [(3000,3000),(6500,23000)] _ (x1.push y3) (wrap .i64 (x2+1)) (And.intro (rfl:true=true) c7) h (hle:=klR [(3,.fn (x1.n+1) (x1.push y3).n (Ay x1.n (fun i=>C0 (x1.g i)) (E9 [.str [],pI .i64 0,pI .u32 0,pI .u32 0,.v (.bool false),pI .i64 0,pI .i64 0,K5,pI .i64 0,pI .u32 0,pI .u32 0,.v (.bool false),pI .i64 0,pI .i64 0,K5,K5,K5,pI .i64 0] [(0,C0 y3)])) (fun i=>C0 ((x1.push y3).g i)))] (al1 ⟨rfl,LA (c:=C0) (v:=x1) (x:=y3) (z:=[(.str []),pI .i64 0,pI .u32 0,pI .u32 0,.v (.bool false),pI .i64 0,pI .i64 0,K5,pI .i64 0,pI .u32 0,pI .u32 0,.v (.bool false),pI .i64 0,pI .i64 0,K5,K5,K5,pI .i64 0]) same rfl rfl⟩ al0))
 ·obtain rfl:=B8 h;exact A6 hS trivial ⟨[(4,.p (vSl 18 C0 x1))],[]⟩ [] (ids:=[]) ⟨rfl,rfl,rfl⟩
def Da (N:Nat)(p_h:H8)(p_v:Int):Option ((Sl Law)×Int):=
 (AS N p_h p_v).bind fun y1=>
 (CZ N p_h y1.1).bind fun y2=>
 some (y2,y1.2)
theorem Mn {N:Nat}{p_h:H8}{p_v:Int}{y:(Sl Law)×Int}(h:Da N p_h p_v=some y) :FunO S FY [.p (.agg (E1 p_h)),pN p_v] [] (.tup [.p (vSl 18 C0 y.1),pN y.2]) ([]) []:=by unfold Da at h;refine A4 hS LO ?_;refine kC hS h (Gj hS hL) (fun y1 h=>?_);refine kC hS h (Mm hS hL) (fun y2 h=>?_);cases h;exact kR hS
end Go.AM
namespace Go.AM
open IntKind (wrap)
open Go.Proofs
set_option maxRecDepth 10000
set_option maxHeartbeats 2000000
variable {S:Y7}(hS:H0 S Tryz.prog) (hL:Oo S)
abbrev Ui {T:Type}(e:TypeId)(k:Nat)(c:T->List PV)(x:Sl T):Obj:=.vec e k x.n (fun q=>c (x.g q)) false
theorem obPut {T:Type}{e:TypeId}{k n i:Nat}{c:T->List PV}{X:Sl (Sl T)}{z:Sl T}:∀q,q<n->(fun q=>if q=i then Ui e k c z else if q=i then Obj.dead else Ui e k c (X.g q)) q=(fun q=>Ui e k c ((X.upd i z).g q)) q:=fun q _=>by by_cases h:q=i<;>simp[h]
include hS hL
def Cl (N:Nat)(p_t:Sl T4):Option (Sl (Sl Int)):=
 if ((0:Int)<=(p_t.n:Int)/\(p_t.n:Int)<=(p_t.n:Int)/\(p_t.n:Int)*24<=140737488355328/\(p_t.n:Int)<=140737488355328)then
  Dq N (fun self (x:Int) (X:Sl (Sl Int))=>
   if (decide (x<(p_t.n:Int))) then
    if ((0:Int)<=x/\x<(p_t.n:Int))then
     if (p_t.g x.toNat).Parent.toNat<X.n then
      lt (fun (z:Sl Int)=>self (wrap .i64 (x+1)) (X.upd (p_t.g x.toNat).Parent.toNat z)) fun k=>
       if (decide (0<x)) then
        if (((0:Int)<=(p_t.g x.toNat).Parent/\(p_t.g x.toNat).Parent<(X.n:Int))/\(((X.g (p_t.g x.toNat).Parent.toNat).n+1)*8<=140737488355328/\(X.g (p_t.g x.toNat).Parent.toNat).n+1<=140737488355328))then
         k ((X.g (p_t.g x.toNat).Parent.toNat).push x)
        else none
       else k (X.g (p_t.g x.toNat).Parent.toNat)
     else none
    else none
   else some X) 0 ⟨p_t.n,fun _=>Sl.nil⟩
 else none
theorem Lj {N:Nat}{p_t:Sl T4}{y:Sl (Sl Int)}(h:Cl N p_t=some y) :FunO S Fg [.p (vSl 2 P7 p_t)] [] (.p (vSl 1 (cL 1 (cI .i64)) y)) [] []:=by
 unfold Cl at h;refine A4 hS KM ?_;obtain⟨c1,h⟩:=G9 h;refine SM hS c1 9 (.fam 9000 9901 fun i=>Ui E7 1 (cI .i64) ((⟨p_t.n,fun _=>Sl.nil⟩:Sl (Sl Int)).g i)) (⟨by decide,fun i _=>rfl⟩:1000<=9901/\∀i,i<p_t.n->UM [K5] (Ui E7 1 (cI .i64) ((⟨p_t.n,fun _=>Sl.nil⟩:Sl (Sl Int)).g i))) ?_;refine N0 hS trivial h (fun x X=>⟨[(11,pN x),(10,pN (p_t.n:Int)),(9,.p (vSl 2 P7 p_t)),(3,.vec 9000)],[(9901,.rows X.n fun i=>Ui E7 1 (cI .i64) (X.g i)),(9000,.fam Om X.n 9901 none)]⟩) (ids:=[(9901,9901),(9000,9000)]) (fun _ _ _ _ _ self x X hb1 h=>?_);refine kI hS h (fun h=>?_) (fun h=>?_)
 ·obtain⟨c2,h⟩:=G9 h;obtain⟨c3,h⟩:=G9 h;refine SM hS (And.intro c2 (by decide:(2:Nat)<=2)) 17 (.take 9000 (p_t.g x.toNat).Parent.toNat 9801) (⟨⟨by decide,rfl⟩,c3⟩:(1000<=9801/\X.n=X.n)/\(p_t.g x.toNat).Parent.toNat<X.n) ?_;refine Kr hS trivial (A7 hS) h 0 (fun z=>⟨[(11,pN x),(10,pN (p_t.n:Int)),(9,.p (vSl 2 P7 p_t)),(3,.vec 9000)],
   [(9901,(.rows X.n fun l=>if l=(p_t.g x.toNat).Parent.toNat then .dead else Ui E7 1 (cI .i64) (X.g l))),(9801,Ui E7 1 (cI .i64) z),(9000,.fam Om X.n 9901 (some ((p_t.g x.toNat).Parent.toNat,.vec 9801)))]⟩) (fun M k hb2 h=>?_) (fun z h=>?_)
  ·refine kI hS h (fun h=>?_) (fun h=>?_)
   ·obtain⟨c4,h⟩:=G9 h;refine U7 hS trivial [(0,.n),(1,.n),(2,.l [6000]),(3,.n),(4,.n),(5,.l [6000]),(6,.l [9000]),(7,.l [9000]),(8,.n),(10,.a [29000,9801]),(11,.l [9000]),(12,.a [9000])] ?_;refine CL (And.intro c4.1 (And.intro c3 (rfl:(p_t.g x.toNat).Parent.toNat=(p_t.g x.toNat).Parent.toNat))) (x:=.sl true 1 1 (E9 [pI .i64 0] [(0,cI .i64 x)])) ?_;refine J2 (And.intro (And.intro c4.2 c4.1) (And.intro c3 (rfl:(p_t.g x.toNat).Parent.toNat=(p_t.g x.toNat).Parent.toNat))) ?_;exact hb2 _ [(9901,9901),(9801,29000),(9000,9000)] _ ((X.g (p_t.g x.toNat).Parent.toNat).push x) trivial h (hle:=klR [(5,.fn ((X.g (p_t.g x.toNat).Parent.toNat).n+1) ((X.g (p_t.g x.toNat).Parent.toNat).push x).n (Ay (X.g (p_t.g x.toNat).Parent.toNat).n (fun i=>cI .i64 ((X.g (p_t.g x.toNat).Parent.toNat).g i)) (E9 [pI .i64 0] [(0,cI .i64 x)])) (fun i=>cI .i64 (((X.g (p_t.g x.toNat).Parent.toNat).push x).g i)))] (al1 ⟨rfl,LA (c:=cI .i64) (v:=X.g (p_t.g x.toNat).Parent.toNat) (x:=x) (z:=[(pI .i64 0)]) same rfl rfl⟩ al0))
   ·exact hb2 _ [(9901,9901),(9801,9801),(9000,9000)] _ (X.g (p_t.g x.toNat).Parent.toNat) trivial h
  ·refine SM hS trivial 30 (.put 9000 9902) (⟨⟨by decide,rfl⟩,c3⟩:(1000<=9902/\X.n=X.n)/\(p_t.g x.toNat).Parent.toNat<X.n) ?_;exact hb1 _ [(9901,9902),(9000,9000)] _ (wrap .i64 (x+1)) (X.upd (p_t.g x.toNat).Parent.toNat z) trivial h (hle:=klR [(4,.ob X.n (fun q=>if q=(p_t.g x.toNat).Parent.toNat then Ui E7 1 (cI .i64) z else if q=(p_t.g x.toNat).Parent.toNat then .dead else Ui E7 1 (cI .i64) (X.g q)) fun i=>Ui E7 1 (cI .i64) ((X.upd (p_t.g x.toNat).Parent.toNat z).g i))] (al1 obPut al0))
 ·refine SM hS trivial 31 (.pub 9000) (⟨rfl,fun i _=>rfl⟩:X.n=X.n/\∀i,i<X.n->(UN (Ui E7 1 (cI .i64) (X.g i))).isSome=true) ?_;obtain rfl:=B8 h;exact A6 hS trivial ⟨[(2,.p (vSl 1 (cL 1 (cI .i64)) X))],[]⟩ [] (ids:=[]) ⟨rfl,rfl,rfl⟩ (hle:=klR [(0,.fn X.n X.n (fun i=>[(UN (Ui E7 1 (cI .i64) (X.g i))).getD default]) (fun i=>cL 1 (cI .i64) (X.g i)))] (al1 ⟨rfl,fun _ _=>rfl⟩ al0))
end Go.AM
namespace Go.AM
open IntKind (wrap)
open Go.Proofs
set_option maxRecDepth 10000
set_option maxHeartbeats 2000000
variable {S:Y7}(hS:H0 S Tryz.prog) (hL:Oo S)
include hS hL
def Ej (N:Nat)(p_t:Sl T4):Option (Sl Int):=
 (Cl N p_t).bind fun y1=>
 Dq N (fun self1 (x1:Sl Int) (x2:Int)=>
  if (decide (x2<(y1.n:Int))) then
   if ((0:Int)<=x2/\x2<(y1.n:Int))then
    if (((y1.g x2.toNat).n:Int)==0) then
     if ((x1.n+(Sl.of [x2]:Sl Int).n)*8<=140737488355328/\x1.n+(Sl.of [x2]:Sl Int).n<=140737488355328)then
      self1 (x1.push x2) (wrap .i64 (x2+1))
     else none
    else
     self1 x1 (wrap .i64 (x2+1))
   else none
  else
   some x1
  ) (Sl.nil:Sl Int) 0
theorem OB {N:Nat}{p_t:Sl T4}{y:Sl Int}(h:Ej N p_t=some y) :FunO S Hs [.p (vSl 2 P7 p_t)] [] (.vec 0) ([.vec E7 1 y.n (fun i=>cI .i64 (y.g i)) true]) []:=by
 unfold Ej at h;refine A4 hS NX ?_;refine kC hS h (Lj hS hL) (fun y1 h=>?_);refine N0 hS trivial h (fun x1 x2=>⟨[(9,pN x2),(8,pN (y1.n:Int)),(7,.p (vSl 1 (cL 1 (cI .i64)) y1)),(3,.vec 4500)],[(4500,.vec E7 1 x1.n (fun i=>cI .i64 (x1.g i)) false)]⟩) (ids:=[]) (fun _ _ _ _ _ self1 x1 x2 hb1 h=>?_);refine kI hS h (fun h=>?_) (fun h=>?_)
 ·obtain⟨c8,h⟩:=G9 h;refine D9 hS c8 (b:=((y1.g x2.toNat).n:Int)==0) (fun c9=>?_) (fun c9=>?_)
  ·replace h:=itT c9 h;obtain⟨c10,h⟩:=G9 h;exact hb1 _ [(4500,21000)] _ (x1.push x2) (wrap .i64 (x2+1)) (And.intro (rfl:true=true) c10) h (hle:=klR [(3,.fn (x1.n+1) (x1.push x2).n (Ay x1.n (fun i=>cI .i64 (x1.g i)) (E9 [pI .i64 0] [(0,cI .i64 x2)])) (fun i=>cI .i64 ((x1.push x2).g i)))] (al1 ⟨rfl,LA (c:=cI .i64) (v:=x1) (x:=x2) (z:=[(pI .i64 0)]) same rfl rfl⟩ al0))
  ·replace h:=itF c9 h;exact hb1 _ [(4500,4500)] _ x1 (wrap .i64 (x2+1)) trivial h
 ·obtain rfl:=B8 h;exact A6 hS trivial ⟨[(2,.vec 4500)],[(4500,.vec E7 1 x1.n (fun i=>cI .i64 (x1.g i)) true)]⟩ [4500] (ids:=[(4500,4500)]) ⟨rfl,rfl,rfl⟩
def Ek (N:Nat)(p_t:Sl T4):Option ((Sl Int)×Int):=
 (CD N p_t).bind fun y1=>
 if (y1 != 0) then
  some ((Sl.nil:Sl Int),y1)
 else
  (Ej N p_t).bind fun y2=>
  some (y2,0)
theorem OC {N:Nat}{p_t:Sl T4}{y:(Sl Int)×Int}(h:Ek N p_t=some y) :FunO S Hq [.p (vSl 2 P7 p_t)] [] (.tup [.vec 0,pN y.2]) ([.vec E7 1 y.1.n (fun i=>cI .i64 (y.1.g i)) true]) []:=by
 unfold Ek at h;refine A4 hS NU ?_;refine kC hS h (Jc hS hL) (fun y1 h=>?_);refine kI hS h (fun h=>?_) (fun h=>?_)
 ·obtain rfl:=B8 h;exact A6 hS trivial ⟨[(3,pN y1),(2,.vec 3700)],[(3700,.vec E7 1 (Sl.nil:Sl Int).n (fun i=>cI .i64 ((Sl.nil:Sl Int).g i)) true)]⟩ [3700] (ids:=[]) ⟨rfl,rfl,rfl⟩
 ·refine kC hS h (OB hS hL) (fun y2 h=>?_);obtain rfl:=B8 h;exact A6 hS trivial ⟨[(3,pN 0),(2,.vec 12000)],[(12000,.vec E7 1 y2.n (fun i=>cI .i64 (y2.g i)) true)]⟩ [12000] (ids:=[(12000,12000)]) ⟨rfl,rfl,rfl⟩
end Go.AM
namespace Go.AM
open IntKind (wrap)
open Go.Proofs
set_option maxRecDepth 10000
set_option maxHeartbeats 2000000
variable {S:Y7}(hS:H0 S Tryz.prog) (hL:Oo S)
include hS hL
def D4 (N:Nat)(p_s1:Sl Int)(p_s2:Sl Int):Option Bool:=
 if ((p_s1.n:Int) != (p_s2.n:Int)) then
  some false
 else
  Co N (fun self1 (x1:Int)=>
   if (decide (x1<(p_s1.n:Int))) then
    if (((0:Int)<=x1/\x1<(p_s1.n:Int))/\((0:Int)<=x1/\x1<(p_s2.n:Int)))then
     if ((p_s1.g x1.toNat) != (p_s2.g x1.toNat)) then
      some false
     else
      self1 (wrap .i64 (x1+1))
    else none
   else
    some true
   ) 0
theorem P5 {N:Nat}{p_s1:Sl Int}{p_s2:Sl Int}{y:Bool}(h:D4 N p_s1 p_s2=some y) :FunO S Y0 [.p (vSl 1 (cI .i64) p_s1),.p (vSl 1 (cI .i64) p_s2)] [] (pB y) ([]) []:=by
 unfold D4 at h;refine A4 hS CM ?_;refine kI hS h (fun h=>?_) (fun h=>?_)
 ·cases h;exact kR hS
 ·refine W6 hS trivial h (fun x1=>⟨[(13,pN x1),(12,pN (p_s1.n:Int)),(1,.p (vSl 1 (cI .i64) p_s2)),(0,.p (vSl 1 (cI .i64) p_s1))],[]⟩) (ids:=[]) (fun _ _ _ _ _ self1 x1 hb1 h=>?_);refine kI hS h (fun h=>?_) (fun h=>?_)
  ·refine I7 hS trivial [2,3,6,7] ?_;obtain⟨c9,h⟩:=G9 h;refine J2 c9 ?_;refine kI hS h (fun h=>?_) (fun h=>?_)
   ·cases h;exact kR hS
   ·exact hb1 _ [] _ (wrap .i64 (x1+1)) trivial h
  ·cases h;exact kR hS
def D3 (N:Nat)(p_s1:Sl B6)(p_s2:Sl B6):Option Bool:=
 if ((p_s1.n:Int) != (p_s2.n:Int)) then
  some false
 else
  Co N (fun self1 (x1:Int)=>
   if (decide (x1<(p_s1.n:Int))) then
    if (((0:Int)<=x1/\x1<(p_s1.n:Int))/\((0:Int)<=x1/\x1<(p_s2.n:Int)))then
     if ((((p_s1.g x1.toNat).a0==(p_s2.g x1.toNat).a0)&&((p_s1.g x1.toNat).a1==(p_s2.g x1.toNat).a1)) != true) then
      some false
     else
      self1 (wrap .i64 (x1+1))
    else none
   else
    some true
   ) 0
theorem S0 {N:Nat}{p_s1:Sl B6}{p_s2:Sl B6}{y:Bool}(h:D3 N p_s1 p_s2=some y) :FunO S R6 [.p (vSl 2 G7 p_s1),.p (vSl 2 G7 p_s2)] [] (pB y) ([]) []:=by
 unfold D3 at h;refine A4 hS Bk ?_;refine kI hS h (fun h=>?_) (fun h=>?_)
 ·cases h;exact kR hS
 ·refine W6 hS trivial h (fun x1=>⟨[(13,pN x1),(12,pN (p_s1.n:Int)),(1,.p (vSl 2 G7 p_s2)),(0,.p (vSl 2 G7 p_s1))],[]⟩) (ids:=[]) (fun _ _ _ _ _ self1 x1 hb1 h=>?_);refine kI hS h (fun h=>?_) (fun h=>?_)
  ·refine I7 hS trivial [2,3,6,7] ?_;obtain⟨c9,h⟩:=G9 h;refine J2 (And.intro (And.intro (And.intro (And.intro c9.1 (by decide:(2:Nat)<=2)) c9.2) (by decide:(2:Nat)<=2)) (by decide +kernel:(!Program.eqGuardType Tryz.prog (Program.depth Tryz.prog) Io)=true)) ?_;refine kI hS h (fun h=>?_) (fun h=>?_)
   ·cases h;exact kR hS
   ·exact hb1 _ [] _ (wrap .i64 (x1+1)) trivial h
  ·cases h;exact kR hS
def B0 (N:Nat)(p_s1:Sl Int)(p_s2:Sl Int):Option Bool:=
 if ((p_s1.n:Int) != (p_s2.n:Int)) then
  some false
 else
  Co N (fun self1 (x1:Int)=>
   if (decide (x1<(p_s1.n:Int))) then
    if (((0:Int)<=x1/\x1<(p_s1.n:Int))/\((0:Int)<=x1/\x1<(p_s2.n:Int)))then
     if ((p_s1.g x1.toNat) != (p_s2.g x1.toNat)) then
      some false
     else
      self1 (wrap .i64 (x1+1))
    else none
   else
    some true
   ) 0
theorem C9 {N:Nat}{p_s1:Sl Int}{p_s2:Sl Int}{y:Bool}(h:B0 N p_s1 p_s2=some y) :FunO S Q4 [.p (vSl 1 (cI .u64) p_s1),.p (vSl 1 (cI .u64) p_s2)] [] (pB y) ([]) []:=by
 unfold B0 at h;refine A4 hS AC ?_;refine kI hS h (fun h=>?_) (fun h=>?_)
 ·cases h;exact kR hS
 ·refine W6 hS trivial h (fun x1=>⟨[(13,pN x1),(12,pN (p_s1.n:Int)),(1,.p (vSl 1 (cI .u64) p_s2)),(0,.p (vSl 1 (cI .u64) p_s1))],[]⟩) (ids:=[]) (fun _ _ _ _ _ self1 x1 hb1 h=>?_);refine kI hS h (fun h=>?_) (fun h=>?_)
  ·refine I7 hS trivial [2,3,6,7] ?_;obtain⟨c9,h⟩:=G9 h;refine J2 c9 ?_;refine kI hS h (fun h=>?_) (fun h=>?_)
   ·cases h;exact kR hS
   ·exact hb1 _ [] _ (wrap .i64 (x1+1)) trivial h
  ·cases h;exact kR hS
def H6 (N:Nat)(p_t:A1):Option Int:=
 if (0:Int)<=p_t.Langs then
  some (wrap .u64 ((shI .shl .u64 1 p_t.Langs)-1))
 else none
theorem AG {N:Nat}{p_t:A1}{y:Int}(h:H6 N p_t=some y) :FunO S Du [.p (.agg (A8 p_t))] [] (.p (pI .u64 y)) ([]) []:=by unfold H6 at h;refine A4 hS Ik ?_;obtain⟨c1,h⟩:=G9 h;obtain rfl:=B8 h;exact Rp hS c1 [] ⟨rfl,rfl,rfl⟩
def E3 (N:Nat)(p_s:Sl Int)(p_f:Int->Option Bool):Option Int:=
 Co N (fun self1 (x1:Int)=>
  if (decide (x1<(p_s.n:Int))) then
   if ((0:Int)<=x1/\x1<(p_s.n:Int))then
    (p_f (p_s.g x1.toNat)).bind fun y3=>
    if y3 then
     some x1
    else
     self1 (wrap .i64 (x1+1))
   else none
  else
   some (-1)
  ) 0
theorem Z7 {N:Nat}{p_s:Sl Int}{p_f:Int->Option Bool}{kp_f:Nat}{cp_f_0:List PV}(hp_f:∀{a0:Int}{b:Bool},p_f a0=some b->FunO S kp_f [.p (pI .u64 a0),.p (.ptr cp_f_0)] [] (pB b) [] []){y:Int}(h:E3 N p_s p_f=some y) :FunO S O3 [.p (vSl 1 (cI .u64) p_s),.clo kp_f [] [.p (.ptr cp_f_0)]] [] (pN y) ([]) []:=by
 unfold E3 at h;refine A4 hS Z5 ?_;refine W6 hS trivial h (fun x1=>⟨[(8,pN x1),(7,pN (p_s.n:Int)),(1,.clo kp_f [] [.p (.ptr cp_f_0)]),(0,.p (vSl 1 (cI .u64) p_s))],[]⟩) (ids:=[]) (fun _ _ _ _ _ self1 x1 hb1 h=>?_);refine kI hS h (fun h=>?_) (fun h=>?_)
 ·obtain⟨c8,h⟩:=G9 h;obtain⟨y3,e3,h⟩:=B5 h;refine B7 hS [] c8 (hp_f e3) ?_;refine kI hS h (fun h=>?_) (fun h=>?_)
  ·cases h;exact kR hS
  ·exact hb1 _ [] _ (wrap .i64 (x1+1)) trivial h
 ·cases h;exact kR hS
def B1 (N:Nat)(p_s:Sl Int)(p_f:Int->Option Bool):Option Bool:=
 (E3 N p_s p_f).bind fun y1=>
 some (decide (0<=y1))
theorem V8 {N:Nat}{p_s:Sl Int}{p_f:Int->Option Bool}{kp_f:Nat}{cp_f_0:List PV}(hp_f:∀{a0:Int}{b:Bool},p_f a0=some b->FunO S kp_f [.p (pI .u64 a0),.p (.ptr cp_f_0)] [] (pB b) [] []){y:Bool}(h:B1 N p_s p_f=some y) :FunO S K7 [.p (vSl 1 (cI .u64) p_s),.clo kp_f [] [.p (.ptr cp_f_0)]] [] (pB y) ([]) []:=by unfold B1 at h;refine A4 hS U8 ?_;refine kC hS h (Z7 hS hL (fun e=>hp_f e)) (fun y1 h=>?_);cases h;exact kR hS
def O4 (N:Nat)(p_set:Int)(q0:A1):Option Bool:=
 (H6 N q0).bind fun y1=>
 some ((A9 .andNot .u64 p_set y1) != 0)
theorem Lk {N:Nat}{p_set:Int}{q0:A1}{y:Bool}(h:O4 N p_set q0=some y) :FunO S Fa [.p (pI .u64 p_set),.p (.ptr [pI .i64 q0.Langs,vSl 1 (cI .u64) q0.Has])] [] (pB y) ([]) []:=by unfold O4 at h;refine A4 hS KE ?_;obtain⟨y1,e1,h⟩:=B5 h;refine B7 hS [] (by decide:(2:Nat)<=2) (AG hS hL e1) ?_;cases h;exact kR hS
def C4 (N:Nat)(p_t:A1):Option Int:=
 if ((decide (p_t.Langs<0))||(decide (32<p_t.Langs))) then
  some 3
 else
  if (decide (64<(p_t.Has.n:Int))) then
   some 12
  else
   (B1 N p_t.Has (fun (u1:Int)=>O4 N u1 p_t)).bind fun y1=>
   if y1 then
    some 2
   else
    some 0
theorem P2 {N:Nat}{p_t:A1}{y:Int}(h:C4 N p_t=some y) :FunO S Hm [.p (.agg (A8 p_t))] [] (pN y) ([]) []:=by
 unfold C4 at h;refine A4 hS NS ?_;refine kB hS (A7 hS) trivial trivial 4 (.o (.a (decide (p_t.Langs<0))) (.a (decide (32<p_t.Langs)))) ?_;refine kI hS h (fun h=>?_) (fun h=>?_)
 ·cases h;exact kR hS
 ·refine kI hS h (fun h=>?_) (fun h=>?_)
  ·cases h;exact kR hS
  ·refine H5 hS trivial 17 2000 [pI .i64 p_t.Langs,vSl 1 (cI .u64) p_t.Has] ?_;refine kC hS h (V8 hS hL (fun e=>Lk hS hL e)) (fun y1 h=>?_);refine kI hS h (fun h=>?_) (fun h=>?_)
   ·cases h;exact kR hS
   ·cases h;exact kR hS
def B4 (N:Nat)(q0:A1)(q1:Int->Option Bool):Option (List (Int)):=
 Co N (fun self1 (x1:Int)=>
  if (decide (x1<(q0.Has.n:Int))) then
   if ((0:Int)<=x1/\x1<(q0.Has.n:Int))then
    (q1 (q0.Has.g x1.toNat)).bind fun y3=>
    if y3 then
     Hj x1 (
      self1 (wrap .i64 (x1+1))
      )
    else
     self1 (wrap .i64 (x1+1))
   else none
  else
   some []
  ) 0
theorem U1 {N:Nat}{q0:A1}{q1:Int->Option Bool}{kq1:Nat}{cq1_0:List PV}(hq1:∀{a0:Int}{b:Bool},q1 a0=some b->FunO S kq1 [.p (pI .u64 a0),.p (.ptr cq1_0)] [] (pB b) [] []){L:List (Int)}(h:B4 N q0 q1=some L) :DI S F2 [] [.reg 0 0,.reg 1 0] [.cells [pN q0.Langs,.p (vSl 1 (cI .u64) q0.Has)],.cells [.clo kq1 [] [.p (.ptr cq1_0)]]] (L.map (fun (x:Int)=>[pI .i64 x])):=by
 unfold B4 at h;refine DM hS T5 ?_;refine EV hS trivial h (fun x1 L1=>⟨[(9,pN x1),(8,pN (q0.Has.n:Int)),(7,.p (vSl 1 (cI .u64) q0.Has)),(2,.reg 1 0),(0,.yf 2)],[(2,.yld (L1.map (fun (x:Int)=>[pI .i64 x])) true),(1,.cells [.clo kq1 [] [.p (.ptr cq1_0)]]),(0,.cells [pN q0.Langs,.p (vSl 1 (cI .u64) q0.Has)])]⟩) (ids:=[(0,0),(1,1),(2,2)]) (fun _ _ _ _ _ self1 x1 L1 hb1 h=>?_);refine kI hS h (fun h=>?_) (fun h=>?_)
 ·obtain⟨c16,h⟩:=G9 h;obtain⟨y3,e3,h⟩:=B5 h;refine B7 hS [] c16 (hq1 e3) ?_;refine kG hS h (fun h=>?_) (fun h=>?_)
  ·obtain⟨L7,rfl,hcL7⟩:=Kt h;replace h:=hcL7;refine BX hS trivial (ys:=(fun (x:Int)=>[pI .i64 x]) x1) (rest:=L7.map (fun (x:Int)=>[pI .i64 x])) ?_ ?_
   ·refine D9 hS trivial (b:=false) (fun c20=>?_) (fun c20=>?_)
    ·exact Bool.noConfusion ((rfl:false=false).symm.trans c20)
    ·exact hb1 _ [(0,0),(1,1),(2,2)] _ (wrap .i64 (x1+1)) L7 trivial h
   ·refine D9 hS trivial (b:=true) (fun c21=>?_) (fun c21=>?_)
    ·exact A6 hS trivial (a:=.tup []) (objs:=[(.cells [pN q0.Langs,.p (vSl 1 (cI .u64) q0.Has)]),.cells [.clo kq1 [] [.p (.ptr cq1_0)]],.yld [] false]) ⟨[],[(2,.yld [] false),(1,.cells [.clo kq1 [] [.p (.ptr cq1_0)]]),(0,.cells [pN q0.Langs,.p (vSl 1 (cI .u64) q0.Has)])]⟩ [0,1,2] (ids:=[(0,0),(1,1),(2,2)]) ⟨false,rfl,rfl,_,rfl⟩
    ·exact Bool.noConfusion ((rfl:true=true).symm.trans c21)
  ·exact hb1 _ [(0,0),(1,1),(2,2)] _ (wrap .i64 (x1+1)) L1 trivial h
 ·obtain rfl:=B8 h;exact A6 hS trivial (a:=.tup []) (objs:=[(.cells [pN q0.Langs,.p (vSl 1 (cI .u64) q0.Has)]),.cells [.clo kq1 [] [.p (.ptr cq1_0)]],.yld [] true]) ⟨[],[(2,.yld [] true),(1,.cells [.clo kq1 [] [.p (.ptr cq1_0)]]),(0,.cells [pN q0.Langs,.p (vSl 1 (cI .u64) q0.Has)])]⟩ [0,1,2] (ids:=[(0,0),(1,1),(2,2)]) ⟨true,rfl,rfl,_,rfl⟩
def J3 (N:Nat)(p_t:A1)(p_is:Int->Option Bool):Option (A1):=
 some p_t
theorem Z8 {N:Nat}{p_t:A1}{p_is:Int->Option Bool}{kp_is:Nat}{cp_is_0:List PV}(hp_is:∀{a0:Int}{b:Bool},p_is a0=some b->FunO S kp_is [.p (pI .u64 a0),.p (.ptr cp_is_0)] [] (pB b) [] []){y:A1}(h:J3 N p_t p_is=some y) :FunO S Z3 [.p (.agg (A8 p_t)),.clo kp_is [] [.p (.ptr cp_is_0)]] [] (.clo F2 [] [.reg 0 0,.reg 1 0]) ([.cells [pN y.Langs,.p (vSl 1 (cI .u64) y.Has)],.cells [.clo kp_is [] [.p (.ptr cp_is_0)]]]) []:=by unfold J3 at h;refine A4 hS BZ ?_;obtain rfl:=B8 h;exact A6 hS trivial ⟨[(4,.clo F2 [] [.reg 3000 0,.reg 4000 0])],[(4000,.cells [.clo kp_is [] [.p (.ptr cp_is_0)]]),(3000,.cells [pN p_t.Langs,.p (vSl 1 (cI .u64) p_t.Has)])]⟩ [3000,4000] (ids:=[(3000,3000),(4000,4000)]) ⟨rfl,rfl,rfl⟩
def J0 (N:Nat)(q0:A1)(q1:Int->Option Bool):Option (List (Int)):=
 Co N (fun self1 (x1:Int)=>
  if (decide (x1<(q0.Has.n:Int))) then
   if ((0:Int)<=x1/\x1<(q0.Has.n:Int))then
    (q1 (q0.Has.g x1.toNat)).bind fun y3=>
    if y3 then
     Hj x1 (
      self1 (wrap .i64 (x1+1))
      )
    else
     self1 (wrap .i64 (x1+1))
   else none
  else
   some []
  ) 0
theorem EE {N:Nat}{q0:A1}{q1:Int->Option Bool}{kq1:Nat}{cq1_0 cq1_1:List PV}(hq1:∀{a0:Int}{b:Bool},q1 a0=some b->FunO S kq1 [.p (pI .u64 a0),.p (.ptr cq1_0),.p (.ptr cq1_1)] [] (pB b) [] []){L:List (Int)}(h:J0 N q0 q1=some L) :DI S F2 [] [.reg 0 0,.reg 1 0] [.cells [pN q0.Langs,.p (vSl 1 (cI .u64) q0.Has)],.cells [.clo kq1 [] [.p (.ptr cq1_0),.p (.ptr cq1_1)]]] (L.map (fun (x:Int)=>[pI .i64 x])):=by
 unfold J0 at h;refine DM hS T5 ?_;refine EV hS trivial h (fun x1 L1=>⟨[(9,pN x1),(8,pN (q0.Has.n:Int)),(7,.p (vSl 1 (cI .u64) q0.Has)),(2,.reg 1 0),(0,.yf 2)],[(2,.yld (L1.map (fun (x:Int)=>[pI .i64 x])) true),(1,.cells [.clo kq1 [] [.p (.ptr cq1_0),.p (.ptr cq1_1)]]),(0,.cells [pN q0.Langs,.p (vSl 1 (cI .u64) q0.Has)])]⟩) (ids:=[(0,0),(1,1),(2,2)]) (fun _ _ _ _ _ self1 x1 L1 hb1 h=>?_);refine kI hS h (fun h=>?_) (fun h=>?_)
 ·obtain⟨c16,h⟩:=G9 h;obtain⟨y3,e3,h⟩:=B5 h;refine B7 hS [] c16 (hq1 e3) ?_;refine kG hS h (fun h=>?_) (fun h=>?_)
  ·obtain⟨L7,rfl,hcL7⟩:=Kt h;replace h:=hcL7;refine BX hS trivial (ys:=(fun (x:Int)=>[pI .i64 x]) x1) (rest:=L7.map (fun (x:Int)=>[pI .i64 x])) ?_ ?_
   ·refine D9 hS trivial (b:=false) (fun c20=>?_) (fun c20=>?_)
    ·exact Bool.noConfusion ((rfl:false=false).symm.trans c20)
    ·exact hb1 _ [(0,0),(1,1),(2,2)] _ (wrap .i64 (x1+1)) L7 trivial h
   ·refine D9 hS trivial (b:=true) (fun c21=>?_) (fun c21=>?_)
    ·exact A6 hS trivial (a:=.tup []) (objs:=[(.cells [pN q0.Langs,.p (vSl 1 (cI .u64) q0.Has)]),.cells [.clo kq1 [] [.p (.ptr cq1_0),.p (.ptr cq1_1)]],.yld [] false]) ⟨[],[(2,.yld [] false),(1,.cells [.clo kq1 [] [.p (.ptr cq1_0),.p (.ptr cq1_1)]]),(0,.cells [pN q0.Langs,.p (vSl 1 (cI .u64) q0.Has)])]⟩ [0,1,2] (ids:=[(0,0),(1,1),(2,2)]) ⟨false,rfl,rfl,_,rfl⟩
    ·exact Bool.noConfusion ((rfl:true=true).symm.trans c21)
  ·exact hb1 _ [(0,0),(1,1),(2,2)] _ (wrap .i64 (x1+1)) L1 trivial h
 ·obtain rfl:=B8 h;exact A6 hS trivial (a:=.tup []) (objs:=[(.cells [pN q0.Langs,.p (vSl 1 (cI .u64) q0.Has)]),.cells [.clo kq1 [] [.p (.ptr cq1_0),.p (.ptr cq1_1)]],.yld [] true]) ⟨[],[(2,.yld [] true),(1,.cells [.clo kq1 [] [.p (.ptr cq1_0),.p (.ptr cq1_1)]]),(0,.cells [pN q0.Langs,.p (vSl 1 (cI .u64) q0.Has)])]⟩ [0,1,2] (ids:=[(0,0),(1,1),(2,2)]) ⟨true,rfl,rfl,_,rfl⟩
def X4 (N:Nat)(p_t:A1)(p_is:Int->Option Bool):Option (A1):=
 some p_t
theorem FM {N:Nat}{p_t:A1}{p_is:Int->Option Bool}{kp_is:Nat}{cp_is_0 cp_is_1:List PV}(hp_is:∀{a0:Int}{b:Bool},p_is a0=some b->FunO S kp_is [.p (pI .u64 a0),.p (.ptr cp_is_0),.p (.ptr cp_is_1)] [] (pB b) [] []){y:A1}(h:X4 N p_t p_is=some y) :FunO S Z3 [.p (.agg (A8 p_t)),.clo kp_is [] [.p (.ptr cp_is_0),.p (.ptr cp_is_1)]] [] (.clo F2 [] [.reg 0 0,.reg 1 0]) ([.cells [pN y.Langs,.p (vSl 1 (cI .u64) y.Has)],.cells [.clo kp_is [] [.p (.ptr cp_is_0),.p (.ptr cp_is_1)]]]) []:=by unfold X4 at h;refine A4 hS BZ ?_;obtain rfl:=B8 h;exact A6 hS trivial ⟨[(4,.clo F2 [] [.reg 3000 0,.reg 4000 0])],[(4000,.cells [.clo kp_is [] [.p (.ptr cp_is_0),.p (.ptr cp_is_1)]]),(3000,.cells [pN p_t.Langs,.p (vSl 1 (cI .u64) p_t.Has)])]⟩ [3000,4000] (ids:=[(3000,3000),(4000,4000)]) ⟨rfl,rfl,rfl⟩
def I6 (N:Nat)(p_set:Int)(q0:A1):Option Bool:=
 lt (fun (z1:Bool)=>
  some z1
  ) fun k1=>
  if ((A9 .and .u64 p_set (wrap .u64 (p_set-1))) != 0) then
   (H6 N q0).bind fun y2=>
   k1 (p_set != y2)
  else
   k1 false
theorem EA {N:Nat}{p_set:Int}{q0:A1}{y:Bool}(h:I6 N p_set q0=some y) :FunO S Et [.p (pI .u64 p_set),.p (.ptr [pI .i64 q0.Langs,vSl 1 (cI .u64) q0.Has])] [] (pB y) ([]) []:=by
 unfold I6 at h;refine A4 hS Jl ?_;refine Kr hS trivial (A7 hS) h 0 (fun z1=>⟨[(3,pB z1)],[]⟩) (fun M1 k1 hb1 h=>?_) (fun z1 h=>?_)
 ·refine kG hS h (fun h=>?_) (fun h=>?_)
  ·obtain⟨y2,e2,h⟩:=B5 h;refine B7 hS [] (by decide:(2:Nat)<=2) (AG hS hL e2) ?_;exact hb1 _ [] _ (p_set != y2) trivial h
  ·exact hb1 _ [] _ false trivial h
 ·cases h;exact kR hS
def AH (N:Nat)(p_x:Int)(p_y:Int):Option Bool:=
 some ((((A9 .and .u64 p_x p_y)==0)||((A9 .andNot .u64 p_x p_y)==0))||((A9 .andNot .u64 p_y p_x)==0))
theorem Ll {N:Nat}{p_x:Int}{p_y:Int}{y:Bool}(h:AH N p_x p_y=some y) :FunO S KD [.p (pI .u64 p_x),.p (pI .u64 p_y)] [] (pB y) ([]) []:=by unfold AH at h;refine A4 hS Rw ?_;refine kB hS (A7 hS) trivial trivial 11 (.o (.o (.a ((A9 .and .u64 p_x p_y)==0)) (.a ((A9 .andNot .u64 p_x p_y)==0))) (.a ((A9 .andNot .u64 p_y p_x)==0))) ?_;cases h;exact kR hS
def F4 (N:Nat)(p_y:Int)(q0:Int):Option Bool:=
 (AH N q0 p_y).bind fun y1=>
 some (!y1)
theorem Cm {N:Nat}{p_y:Int}{q0:Int}{y:Bool}(h:F4 N p_y q0=some y) :FunO S Ca [.p (pI .u64 p_y),.p (.ptr [pI .u64 q0])] [] (pB y) ([]) []:=by unfold F4 at h;refine A4 hS GA ?_;refine kC hS h (Ll hS hL) (fun y1 h=>?_);cases h;exact kR hS
def H4 (N:Nat)(p_s:Sl Int)(p_f:Int->Option Bool):Option Int:=
 Co N (fun self1 (x1:Int)=>
  if (decide (x1<(p_s.n:Int))) then
   if ((0:Int)<=x1/\x1<(p_s.n:Int))then
    (p_f (p_s.g x1.toNat)).bind fun y3=>
    if y3 then
     some x1
    else
     self1 (wrap .i64 (x1+1))
   else none
  else
   some (-1)
  ) 0
theorem Bt {N:Nat}{p_s:Sl Int}{p_f:Int->Option Bool}{kp_f:Nat}{cp_f_0:List PV}(hp_f:∀{a0:Int}{b:Bool},p_f a0=some b->FunO S kp_f [pN a0,.p (.ptr cp_f_0)] [] (pB b) [] []){y:Int}(h:H4 N p_s p_f=some y) :FunO S R8 [.p (vSl 1 (cI .i64) p_s),.clo kp_f [] [.p (.ptr cp_f_0)]] [] (pN y) ([]) []:=by
 unfold H4 at h;refine A4 hS Bm ?_;refine W6 hS trivial h (fun x1=>⟨[(8,pN x1),(7,pN (p_s.n:Int)),(1,.clo kp_f [] [.p (.ptr cp_f_0)]),(0,.p (vSl 1 (cI .i64) p_s))],[]⟩) (ids:=[]) (fun _ _ _ _ _ self1 x1 hb1 h=>?_);refine kI hS h (fun h=>?_) (fun h=>?_)
 ·obtain⟨c8,h⟩:=G9 h;obtain⟨y3,e3,h⟩:=B5 h;refine B7 hS [] c8 (hp_f e3) ?_;refine kI hS h (fun h=>?_) (fun h=>?_)
  ·cases h;exact kR hS
  ·exact hb1 _ [] _ (wrap .i64 (x1+1)) trivial h
 ·cases h;exact kR hS
def C6 (N:Nat)(p_s:Sl Int)(p_f:Int->Option Bool):Option Bool:=
 (H4 N p_s p_f).bind fun y1=>
 some (decide (0<=y1))
theorem P9 {N:Nat}{p_s:Sl Int}{p_f:Int->Option Bool}{kp_f:Nat}{cp_f_0:List PV}(hp_f:∀{a0:Int}{b:Bool},p_f a0=some b->FunO S kp_f [pN a0,.p (.ptr cp_f_0)] [] (pB b) [] []){y:Bool}(h:C6 N p_s p_f=some y) :FunO S P8 [.p (vSl 1 (cI .i64) p_s),.clo kp_f [] [.p (.ptr cp_f_0)]] [] (pB y) ([]) []:=by unfold C6 at h;refine A4 hS Ax ?_;refine kC hS h (Bt hS hL (fun e=>hp_f e)) (fun y1 h=>?_);cases h;exact kR hS
def H7 (N:Nat)(p_a:Int)(q0:A1):Option Bool:=
 some ((decide (p_a<0))||(decide (q0.Langs<=p_a)))
theorem Bd {N:Nat}{p_a:Int}{q0:A1}{y:Bool}(h:H7 N p_a q0=some y) :FunO S AX [pN p_a,.p (.ptr [pI .i64 q0.Langs,vSl 1 (cI .u64) q0.Has])] [] (pB y) ([]) []:=by unfold H7 at h;refine A4 hS Ff ?_;refine kB hS (A7 hS) trivial trivial 5 (.o (.a (decide (p_a<0))) (.a (decide (q0.Langs<=p_a)))) ?_;cases h;exact kR hS
def O5 (N:Nat)(p_t:A1)(p_is:Int->Option Bool)(p_languages:Sl Int):Option (Int×Int):=
 (C4 N p_t).bind fun y1=>
 if (y1 != 0) then
  some (0,y1)
 else
  (C6 N p_languages (fun (u1:Int)=>H7 N u1 p_t)).bind fun y2=>
  if y2 then
   some (0,3)
  else
   (J3 N p_t p_is).bind fun y3=>
   (B4 N y3 p_is).bind fun L1=>
   S7 L1 (fun self1 (x1:Int) (z1:Int)=>
    self1 (wrap .i64 (z1+1))
    ) (fun (z1:Int)=>
     some (z1,0)
    ) 0
theorem GI {N:Nat}{p_t:A1}{p_is:Int->Option Bool}{p_languages:Sl Int}{kp_is:Nat}{cp_is_0:List PV}(hp_is:∀{a0:Int}{b:Bool},p_is a0=some b->FunO S kp_is [.p (pI .u64 a0),.p (.ptr cp_is_0)] [] (pB b) [] []){y:Int×Int}(h:O5 N p_t p_is p_languages=some y) :FunO S Z4 [.p (.agg (A8 p_t)),.clo kp_is [] [.p (.ptr cp_is_0)],.p (vSl 1 (cI .i64) p_languages)] [] (.tup [pN y.1,pN y.2]) ([]) []:=by
 unfold O5 at h;refine A4 hS Cb ?_;refine kC hS h (P2 hS hL) (fun y1 h=>?_);refine kI hS h (fun h=>?_) (fun h=>?_)
 ·cases h;exact kR hS
 ·refine H5 hS trivial 16 4000 [pI .i64 p_t.Langs,vSl 1 (cI .u64) p_t.Has] ?_;refine kC hS h (P9 hS hL (fun e=>Bd hS hL e)) (fun y2 h=>?_);refine kI hS h (fun h=>?_) (fun h=>?_)
  ·cases h;exact kR hS
  ·obtain⟨y3,e3,h⟩:=B5 h;refine B7 hS [] (by decide:(2:Nat)<=2) (Z8 hS hL (fun e=>hp_is e) e3) ?_;obtain⟨L1,e4,h⟩:=B5 h;refine DN hS trivial [21000,21001] [9] 901 (fun z1=>⟨[(9,.reg 10000 0)],[(10000,.cells [pN z1])]⟩) (idl:=[(10000,10000)]) h (U1 hS hL (fun e=>hp_is e) e4) (fun _=>by kernel_rfl) (fun _=>by kernel_rfl) (fun _=>by kernel_rfl) (fun _=>by kernel_rfl) (fun x1 _ self1 z1 hb1 h=>?_) (fun z1 h=>?_)
   ·refine Hk hS trivial ?_;exact hb1 _ [(901,901),(10000,10000)] _ (wrap .i64 (z1+1)) trivial h
   ·cases h;exact kR hS
def N5 (N:Nat)(p_t:A1)(p_is:Int->Option Bool)(p_languages:Sl Int):Option (Int×Int):=
 (C4 N p_t).bind fun y1=>
 if (y1 != 0) then
  some (0,y1)
 else
  (C6 N p_languages (fun (u1:Int)=>H7 N u1 p_t)).bind fun y2=>
  if y2 then
   some (0,3)
  else
   (X4 N p_t p_is).bind fun y3=>
   (J0 N y3 p_is).bind fun L1=>
   S7 L1 (fun self1 (x1:Int) (z1:Int)=>
    self1 (wrap .i64 (z1+1))
    ) (fun (z1:Int)=>
     some (z1,0)
    ) 0
theorem FN {N:Nat}{p_t:A1}{p_is:Int->Option Bool}{p_languages:Sl Int}{kp_is:Nat}{cp_is_0 cp_is_1:List PV}(hp_is:∀{a0:Int}{b:Bool},p_is a0=some b->FunO S kp_is [.p (pI .u64 a0),.p (.ptr cp_is_0),.p (.ptr cp_is_1)] [] (pB b) [] []){y:Int×Int}(h:N5 N p_t p_is p_languages=some y) :FunO S Z4 [.p (.agg (A8 p_t)),.clo kp_is [] [.p (.ptr cp_is_0),.p (.ptr cp_is_1)],.p (vSl 1 (cI .i64) p_languages)] [] (.tup [pN y.1,pN y.2]) ([]) []:=by
 unfold N5 at h;refine A4 hS Cb ?_;refine kC hS h (P2 hS hL) (fun y1 h=>?_);refine kI hS h (fun h=>?_) (fun h=>?_)
 ·cases h;exact kR hS
 ·refine H5 hS trivial 16 4000 [pI .i64 p_t.Langs,vSl 1 (cI .u64) p_t.Has] ?_;refine kC hS h (P9 hS hL (fun e=>Bd hS hL e)) (fun y2 h=>?_);refine kI hS h (fun h=>?_) (fun h=>?_)
  ·cases h;exact kR hS
  ·obtain⟨y3,e3,h⟩:=B5 h;refine B7 hS [] (by decide:(2:Nat)<=2) (FM hS hL (fun e=>hp_is e) e3) ?_;obtain⟨L1,e4,h⟩:=B5 h;refine DN hS trivial [21000,21001] [9] 901 (fun z1=>⟨[(9,.reg 10000 0)],[(10000,.cells [pN z1])]⟩) (idl:=[(10000,10000)]) h (EE hS hL (fun e=>hp_is e) e4) (fun _=>by kernel_rfl) (fun _=>by kernel_rfl) (fun _=>by kernel_rfl) (fun _=>by kernel_rfl) (fun x1 _ self1 z1 hb1 h=>?_) (fun z1 h=>?_)
   ·refine Hk hS trivial ?_;exact hb1 _ [(901,901),(10000,10000)] _ (wrap .i64 (z1+1)) trivial h
   ·cases h;exact kR hS
def Y9 (N:Nat)(p_set:Int)(q0:Int)(q1:Int):Option Bool:=
 if (0:Int)<=q0 then
  if (((A9 .and .u64 (shI .shr .u64 p_set q0) 1)==1)=true->(0:Int)<=q1)then
   some (((A9 .and .u64 (shI .shr .u64 p_set q0) 1)==1)&&((A9 .and .u64 (shI .shr .u64 p_set q1) 1)==1))
  else none
 else none
theorem Jv {N:Nat}{p_set:Int}{q0:Int}{q1:Int}{y:Bool}(h:Y9 N p_set q0 q1=some y) :FunO S Bl [.p (pI .u64 p_set),.p (.ptr [pI .i64 q0]),.p (.ptr [pI .i64 q1])] [] (pB y) ([]) []:=by unfold Y9 at h;refine A4 hS Jm ?_;obtain⟨c1,h⟩:=G9 h;obtain⟨c2,h⟩:=G9 h;refine kB hS (A7 hS) c1 c2 6 (.n (.a ((A9 .and .u64 (shI .shr .u64 p_set q0) 1)==1)) (.a ((A9 .and .u64 (shI .shr .u64 p_set q1) 1)==1))) ?_;cases h;exact kR hS
def BI (N:Nat)(p_set:Int)(q0:Int):Option Bool:=
 if (0:Int)<=q0 then
  some (p_set==(shI .shl .u64 1 q0))
 else none
theorem OD {N:Nat}{p_set:Int}{q0:Int}{y:Bool}(h:BI N p_set q0=some y) :FunO S DS [.p (pI .u64 p_set),.p (.ptr [pI .i64 q0])] [] (pB y) ([]) []:=by unfold BI at h;refine A4 hS NW ?_;obtain⟨c1,h⟩:=G9 h;obtain rfl:=B8 h;exact Rp hS c1 [] ⟨rfl,rfl,rfl⟩
def P6 (N:Nat)(p_t:A1)(p_a:Int)(p_b:Int):Option (Int×Int):=
 (N5 N p_t (fun (u1:Int)=>Y9 N u1 p_a p_b) (Sl.of [p_a,p_b]:Sl Int)).bind fun y1=>
 some (y1.1,y1.2)
theorem Db {N:Nat}{p_t:A1}{p_a:Int}{p_b:Int}{y:Int×Int}(h:P6 N p_t p_a p_b=some y) :FunO S FU [.p (.agg (A8 p_t)),pN p_a,pN p_b] [] (.tup [pN y.1,pN y.2]) ([]) []:=by unfold P6 at h;refine A4 hS LL ?_;refine H5 hS trivial 9 5000 [pI .i64 p_a] ?_;refine H5 hS trivial 9 6000 [pI .i64 p_b] ?_;refine Cu hS (rfl:true=true) ⟨[(12,.vec 13000),(9,.clo Bl [] [.p (.ptr [pI .i64 p_a]),.p (.ptr [pI .i64 p_b])]),(8,.p (.agg (A8 p_t)))],[(13000,.vec E7 1 (Sl.of [p_a,p_b]:Sl Int).n (fun i=>cI .i64 ((Sl.of [p_a,p_b]:Sl Int).g i)) false)]⟩ (ids:=[(13000,13000)]) ?_ (hle:=klR [(4,.fn 2 (Sl.of [p_a,p_b]:Sl Int).n (E9 [pI .i64 0] [(0,cI .i64 p_a),(1,cI .i64 p_b)]) (fun i=>cI .i64 ((Sl.of [p_a,p_b]:Sl Int).g i)))] (al1 ⟨rfl,(fun i hi=>match i,hi with|0,_=>rfl|1,_=>rfl|_+2,hi=>absurd hi (by omega))⟩ al0));refine kC hS h (FN hS hL (fun e=>Jv hS hL e)) (fun y1 h=>?_);cases h;exact kR hS
def AI (N:Nat)(p_t:A1)(p_a:Int):Option (Int×Int):=
 (O5 N p_t (fun (u1:Int)=>BI N u1 p_a) (Sl.of [p_a]:Sl Int)).bind fun y1=>
 some (y1.1,y1.2)
theorem Lm {N:Nat}{p_t:A1}{p_a:Int}{y:Int×Int}(h:AI N p_t p_a=some y) :FunO S KB [.p (.agg (A8 p_t)),pN p_a] [] (.tup [pN y.1,pN y.2]) ([]) []:=by unfold AI at h;refine A4 hS Ru ?_;refine H5 hS trivial 7 4000 [pI .i64 p_a] ?_;refine Cu hS (rfl:true=true) ⟨[(9,.vec 10000),(7,.clo DS [] [.p (.ptr [pI .i64 p_a])]),(6,.p (.agg (A8 p_t)))],[(10000,.vec E7 1 (Sl.of [p_a]:Sl Int).n (fun i=>cI .i64 ((Sl.of [p_a]:Sl Int).g i)) false)]⟩ (ids:=[(10000,10000)]) ?_ (hle:=klR [(3,.fn 1 (Sl.of [p_a]:Sl Int).n (E9 [pI .i64 0] [(0,cI .i64 p_a)]) (fun i=>cI .i64 ((Sl.of [p_a]:Sl Int).g i)))] (al1 ⟨rfl,(fun i hi=>match i,hi with|0,_=>rfl|_+1,hi=>absurd hi (by omega))⟩ al0));refine kC hS h (GI hS hL (fun e=>OD hS hL e)) (fun y1 h=>?_);cases h;exact kR hS
def E8 (N:Nat)(p_t:A1)(p_i:Int)(p_j:Int):Option (Bool×Int):=
 (C4 N p_t).bind fun y1=>
 if (y1 != 0) then
  some (false,y1)
 else
  if ((((decide (p_i<0))||(decide (p_j<0)))||(decide ((p_t.Has.n:Int)<=p_i)))||(decide ((p_t.Has.n:Int)<=p_j))) then
   some (false,3)
  else
   if (((0:Int)<=p_i/\p_i<(p_t.Has.n:Int))/\((0:Int)<=p_j/\p_j<(p_t.Has.n:Int)))then
    (AH N (p_t.Has.g p_i.toNat) (p_t.Has.g p_j.toNat)).bind fun y2=>
    some (y2,0)
   else none
theorem Ar {N:Nat}{p_t:A1}{p_i:Int}{p_j:Int}{y:Bool×Int}(h:E8 N p_t p_i p_j=some y) :FunO S Cv [.p (.agg (A8 p_t)),pN p_i,pN p_j] [] (.tup [pB y.1,pN y.2]) ([]) []:=by
 unfold E8 at h;refine A4 hS Ho ?_;refine H5 hS trivial 6 4000 [pI .i64 p_t.Langs,vSl 1 (cI .u64) p_t.Has] ?_;obtain⟨y1,e1,h⟩:=B5 h;refine B7 hS [] (by decide:(2:Nat)<=2) (P2 hS hL e1) ?_;refine kI hS h (fun h=>?_) (fun h=>?_)
 ·cases h;exact kR hS
 ·refine kB hS (A7 hS) trivial trivial 17 (.o (.o (.o (.a (decide (p_i<0))) (.a (decide (p_j<0)))) (.a (decide ((p_t.Has.n:Int)<=p_i)))) (.a (decide ((p_t.Has.n:Int)<=p_j)))) ?_;refine kI hS h (fun h=>?_) (fun h=>?_)
  ·cases h;exact kR hS
  ·refine I7 hS trivial [1,3,4,6,8,9,10] ?_;obtain⟨c3,h⟩:=G9 h;obtain⟨y2,e2,h⟩:=B5 h;refine Q9 c3 (Ll hS hL e2) ?_;refine J2 trivial ?_;cases h;exact kR hS
def N9 (N:Nat)(p_t:A1):Option ((Sl B6)×Int):=
 (C4 N p_t).bind fun y1=>
 if (y1 != 0) then
  some ((Sl.nil:Sl B6),y1)
 else
  Dq N (fun self3 (x3:Sl B6) (x4:Int)=>
   if (decide (x4<(p_t.Has.n:Int))) then
    if ((0:Int)<=x4/\x4<(p_t.Has.n:Int))then
     (J3 N p_t (fun (u5:Int)=>F4 N u5 (p_t.Has.g x4.toNat))).bind fun y4=>
     (B4 N y4 (fun (u6:Int)=>F4 N u6 (p_t.Has.g x4.toNat))).bind fun L3=>
     S7 L3 (fun self4 (x7:Int) (z3:Sl B6)=>
      if (decide (x4<x7)) then
       if ((z3.n+(Sl.of [(⟨x4,x7⟩:B6)]:Sl B6).n)*16<=140737488355328/\z3.n+(Sl.of [(⟨x4,x7⟩:B6)]:Sl B6).n<=140737488355328)then
        self4 (z3.push (⟨x4,x7⟩:B6))
       else none
      else
       self4 z3
      ) (fun (z3:Sl B6)=>
       self3 z3 (wrap .i64 (x4+1))
      ) x3
    else none
   else
    some (x3,0)
   ) (Sl.nil:Sl B6) 0
theorem Dx {N:Nat}{p_t:A1}{y:(Sl B6)×Int}(h:N9 N p_t=some y) :FunO S Dt [.p (.agg (A8 p_t))] [] (.tup [.p (vSl 2 G7 y.1),pN y.2]) ([]) []:=by
 unfold N9 at h;refine A4 hS Ij ?_;refine kC hS h (P2 hS hL) (fun y1 h=>?_);refine kI hS h (fun h=>?_) (fun h=>?_)
 ·obtain rfl:=B8 h;exact A6 hS trivial ⟨[(3,pN y1),(2,.p (vSl 2 G7 (Sl.nil:Sl B6)))],[]⟩ [] (ids:=[]) ⟨rfl,rfl,rfl⟩
 ·refine N0 hS trivial h (fun x3 x4=>⟨[(17,pN x4),(16,pN (p_t.Has.n:Int)),(15,.p (vSl 1 (cI .u64) p_t.Has)),(5,.reg 6000 0),(1,.reg 2000 0)],[(6501,.vec Io 2 x3.n (fun i=>G7 (x3.g i)) false),(6000,.cells [.vec 6501]),(2000,.cells [pN p_t.Langs,.p (vSl 1 (cI .u64) p_t.Has)])]⟩) (ids:=[(2000,2000),(6000,6000)]) (fun _ _ _ _ _ self3 x3 x4 hb3 h=>?_);refine kI hS h (fun h=>?_) (fun h=>?_)
  ·obtain⟨c15,h⟩:=G9 h;refine H5 hS c15 23 8000 [pI .u64 (p_t.Has.g x4.toNat)] ?_;refine kC hS h (Z8 hS hL (fun e=>Cm hS hL e)) (fun y4 h=>?_);obtain⟨L3,e7,h⟩:=B5 h;refine DN hS trivial [25000,25001] [17,16,15,6,5,1] 905 (fun z3=>⟨[(17,pN x4),(16,pN (p_t.Has.n:Int)),(15,.p (vSl 1 (cI .u64) p_t.Has)),(6,.reg 7000 0),(5,.reg 6000 0),(1,.reg 2000 0)],[(7000,.cells [pN x4]),(6500,.vec Io 2 z3.n (fun i=>G7 (z3.g i)) false),(6000,.cells [.vec 6500]),(2000,.cells [pN p_t.Langs,.p (vSl 1 (cI .u64) p_t.Has)])]⟩) (idl:=[(2000,2000),(6000,6000),(6500,6501),(7000,7000)]) h (U1 hS hL (fun e=>Cm hS hL e) e7) (fun _=>by kernel_rfl) (fun _=>by kernel_rfl) (fun _=>by kernel_rfl) (fun _=>by kernel_rfl) (fun x7 _ self4 z3 hb4 h=>?_) (fun z3 h=>?_)
   ·refine Hk hS trivial ?_;refine kI hS h (fun h=>?_) (fun h=>?_)
    ·obtain⟨c19,h⟩:=G9 h;exact hb4 _ [(905,905),(2000,2000),(6000,6000),(6500,35000),(7000,7000)] _ (z3.push (⟨x4,x7⟩:B6)) (And.intro (rfl:true=true) c19) h (hle:=klR [(1,.fn (z3.n+1) (z3.push (⟨x4,x7⟩:B6)).n (Ay z3.n (fun i=>G7 (z3.g i)) (E9 [pI .i64 0,pI .i64 0] [(0,G7 (⟨x4,x7⟩:B6))])) (fun i=>G7 ((z3.push (⟨x4,x7⟩:B6)).g i)))] (al1 ⟨rfl,LA (c:=G7) (v:=z3) (x:=(⟨x4,x7⟩:B6)) (z:=[(pI .i64 0),pI .i64 0]) same rfl rfl⟩ al0))
    ·exact hb4 _ [(905,905),(2000,2000),(6000,6000),(6500,6500),(7000,7000)] _ z3 trivial h
   ·exact hb3 _ [(2000,2000),(6000,6000),(6501,6500)] _ z3 (wrap .i64 (x4+1)) trivial h
  ·obtain rfl:=B8 h;exact A6 hS trivial ⟨[(3,pN 0),(2,.p (vSl 2 G7 x3))],[]⟩ [] (ids:=[]) ⟨rfl,rfl,rfl⟩
def E5 (N:Nat)(p_t:A1)(p_some:Int):Option (A1×Int):=
 (C4 N p_t).bind fun y1=>
 if (y1 != 0) then
  some ((⟨0,(Sl.nil:Sl Int)⟩:A1),y1)
 else
  (H6 N p_t).bind fun y2=>
  if ((A9 .andNot .u64 p_some y2) != 0) then
   some ((⟨0,(Sl.nil:Sl Int)⟩:A1),2)
  else
   WZ N (fun self1 (x1:Nat->Int) (x2:Int) (x3:Int)=>
    if (x3 != 0) then
     (F3 N x3).bind fun y5=>
     if (((0:Int)<=x2/\x2<32)/\(0+x2.toNat*1)<32)then
      self1 (IP x1 (0+x2.toNat*1) y5) (wrap .i64 (x2+1)) (A9 .and .u64 x3 (wrap .u64 (x3-1)))
     else none
    else
     Dq N (fun self4 (x6:Sl Int) (x7:Int)=>
      if (decide (x7<(p_t.Has.n:Int))) then
       if (((0:Int)<=x7/\x7<(p_t.Has.n:Int))/\((0:Int)<=x2/\x2<=((32:Nat):Int)))then
        Dq N (fun self5 (x10:Int) (x11:Int)=>
         if (decide (x11<((⟨x2.toNat,x1⟩:Sl Int).n:Int))) then
          if ((((0:Int)<=x11/\x11<((⟨x2.toNat,x1⟩:Sl Int).n:Int))/\(0:Int)<=((⟨x2.toNat,x1⟩:Sl Int).g x11.toNat))/\(0:Int)<=x11)then
           self5 (A9 .or .u64 x10 (shI .shl .u64 (A9 .and .u64 (shI .shr .u64 (p_t.Has.g x7.toNat) ((⟨x2.toNat,x1⟩:Sl Int).g x11.toNat)) 1) x11)) (wrap .i64 (x11+1))
          else none
         else
          if ((x6.n+(Sl.of [x10]:Sl Int).n)*8<=140737488355328/\x6.n+(Sl.of [x10]:Sl Int).n<=140737488355328)then
           self4 (x6.push x10) (wrap .i64 (x7+1))
          else none
         ) 0 0
       else none
      else
       some ((⟨x2,x6⟩:A1),0)
      ) (Sl.nil:Sl Int) 0
    ) (fun _=>0) 0 p_some
theorem U2 {N:Nat}{p_t:A1}{p_some:Int}{y:A1×Int}(h:E5 N p_t p_some=some y) :FunO S IR [.p (.agg (A8 p_t)),.p (pI .u64 p_some)] [] (.tup [.p (.agg (A8 y.1)),pN y.2]) ([]) []:=by
 unfold E5 at h;refine A4 hS PW ?_;refine H5 hS trivial 4 3000 [pI .i64 p_t.Langs,vSl 1 (cI .u64) p_t.Has] ?_;obtain⟨y1,e1,h⟩:=B5 h;refine B7 hS [] (by decide:(2:Nat)<=2) (P2 hS hL e1) ?_;refine kI hS h (fun h=>?_) (fun h=>?_)
 ·obtain rfl:=B8 h;exact A6 hS trivial ⟨[(5,pN y1),(4,.reg 5000 0)],[(5000,.cells [pN 0,.p (vSl 1 (cI .u64) (Sl.nil:Sl Int))])]⟩ [] (ids:=[(5000,5000)]) ⟨rfl,rfl,rfl⟩
 ·obtain⟨y2,e2,h⟩:=B5 h;refine B7 hS [] (by decide:(2:Nat)<=2) (AG hS hL e2) ?_;refine kI hS h (fun h=>?_) (fun h=>?_)
  ·obtain rfl:=B8 h;exact A6 hS trivial ⟨[(5,pN 2),(4,.reg 5000 0)],[(5000,.cells [pN 0,.p (vSl 1 (cI .u64) (Sl.nil:Sl Int))])]⟩ [] (ids:=[(5000,5000)]) ⟨rfl,rfl,rfl⟩
  ·refine Ks hS trivial h (fun x1 x2 x3=>⟨[(9,.p (pI .u64 x3)),(8,.reg 9000 0),(7,.reg 8000 0),(4,.reg 5000 0),(2,.p (.ptr [pI .i64 p_t.Langs,vSl 1 (cI .u64) p_t.Has]))],[(9000,.cells [pN x2,.p K5]),(8000,.arr 32 (fun i=>pI .i64 (x1 i))),(5000,.cells [pN 0,.p K5])]⟩) (ids:=[(5000,5000),(8000,8000),(9000,9000)]) (fun _ _ _ _ _ self1 x1 x2 x3 hb1 h=>?_) (hle:=klR [(4,.fn 32 32 (fun i=>[(fun i=>(List.replicate 32 (pI .i64 0)).getD i default) i]) (fun i=>[pI .i64 ((fun _=>0) i)]))] (al1 ⟨rfl,An (z:=pI .i64 0) rfl⟩ al0));refine kI hS h (fun h=>?_) (fun h=>?_)
   ·refine I7 hS trivial [3] ?_;obtain⟨y5,e5,h⟩:=B5 h;refine Q9 trivial (T6 hS hL e5) ?_;obtain⟨c8,h⟩:=G9 h;refine J2 c8 ?_;exact hb1 _ [(5000,5000),(8000,8000),(9000,9000)] _ (IP x1 (0+x2.toNat*1) y5) (wrap .i64 (x2+1)) (A9 .and .u64 x3 (wrap .u64 (x3-1))) trivial h (hle:=klR [(4,.fn 32 32 (fun i=>[(fun i=>if i=(0+x2.toNat*1)then (pI .i64 y5)else (fun i=>pI .i64 (x1 i)) i) i]) (fun i=>[pI .i64 (IP x1 (0+x2.toNat*1) y5 i)]))] (al1 ⟨rfl,Yg (c:=pI .i64) (v:=x1) (x:=y5) (fun _ _=>rfl) rfl⟩ al0))
   ·refine Ad3 hS trivial 44 8000 32 (fun i=>pI .i64 (x1 i)) ?_;refine N0 hS trivial h (fun x6 x7=>⟨[(47,pN x7),(46,pN (p_t.Has.n:Int)),(45,.p (vSl 1 (cI .u64) p_t.Has)),(8,.reg 9000 0),(7,.p (.ptr (Ah 32 (fun i=>pI .i64 (x1 i))))),(4,.reg 5000 0)],[(9500,.vec O7 1 x6.n (fun i=>cI .u64 (x6.g i)) false),(9000,.cells [pN x2,.vec 9500]),(5000,.cells [pN 0,.p K5])]⟩) (ids:=[(5000,5000),(9000,9000)]) (fun _ _ _ _ _ self4 x6 x7 hb4 h=>?_);refine kI hS h (fun h=>?_) (fun h=>?_)
    ·obtain⟨c22,h⟩:=G9 h;refine N0 hS c22 h (fun x10 x11=>⟨[(55,pN x11),(54,pN ((⟨x2.toNat,x1⟩:Sl Int).n:Int)),(53,.p (vSl 1 (cI .i64) (⟨x2.toNat,x1⟩:Sl Int))),(47,pN x7),(46,pN (p_t.Has.n:Int)),(45,.p (vSl 1 (cI .u64) p_t.Has)),(12,.p (pI .u64 x10)),(11,.p (pI .u64 (p_t.Has.g x7.toNat))),(8,.reg 9000 0),(7,.p (.ptr (Ah 32 (fun i=>pI .i64 (x1 i))))),(4,.reg 5000 0)],[(9500,.vec O7 1 x6.n (fun i=>cI .u64 (x6.g i)) false),(9000,.cells [pN x2,.vec 9500]),(5000,.cells [pN 0,.p K5])]⟩) (ids:=[(5000,5000),(9000,9000),(9500,9500)]) (fun _ _ _ _ _ self5 x10 x11 hb5 h=>?_) (hle:=klR [(2,.fn x2.toNat (⟨x2.toNat,x1⟩:Sl Int).n (fun i=>[(Ah 32 (fun i=>pI .i64 (x1 i))).getD i default]) (fun i=>cI .i64 ((⟨x2.toNat,x1⟩:Sl Int).g i)))] (al1 ⟨rfl,fun i hi=>arrG _ (by omega)⟩ al0));refine kI hS h (fun h=>?_) (fun h=>?_)
     ·obtain⟨c26,h⟩:=G9 h;exact hb5 _ [(5000,5000),(9000,9000),(9500,9500)] _ (A9 .or .u64 x10 (shI .shl .u64 (A9 .and .u64 (shI .shr .u64 (p_t.Has.g x7.toNat) ((⟨x2.toNat,x1⟩:Sl Int).g x11.toNat)) 1) x11)) (wrap .i64 (x11+1)) c26 h
     ·obtain⟨c27,h⟩:=G9 h;exact hb4 _ [(5000,5000),(9000,9000),(9500,74000)] _ (x6.push x10) (wrap .i64 (x7+1)) (And.intro (rfl:true=true) c27) h (hle:=klR [(4,.fn (x6.n+1) (x6.push x10).n (Ay x6.n (fun i=>cI .u64 (x6.g i)) (E9 [pI .u64 0] [(0,cI .u64 x10)])) (fun i=>cI .u64 ((x6.push x10).g i)))] (al1 ⟨rfl,LA (c:=cI .u64) (v:=x6) (x:=x10) (z:=[(pI .u64 0)]) same rfl rfl⟩ al0))
    ·obtain rfl:=B8 h;exact A6 hS trivial ⟨[(5,pN 0),(4,.reg 5000 0)],[(5000,.cells [pN x2,.p (vSl 1 (cI .u64) x6)])]⟩ [] (ids:=[(5000,5000)]) ⟨rfl,rfl,rfl⟩
def G8 (N:Nat)(p_seq:List (Int)):Option (Sl Int):=
 S7 p_seq (fun self1 (x1:Int) (z1:Sl Int)=>
  if ((z1.n+(Sl.of [x1]:Sl Int).n)*8<=140737488355328/\z1.n+(Sl.of [x1]:Sl Int).n<=140737488355328)then
   self1 (z1.push x1)
  else none
  ) (fun (z1:Sl Int)=>
   some z1
  ) (Sl.nil:Sl Int)
theorem Be {N:Nat}{p_seq:List (Int)}{p_seq_0:A1}{p_seq_1k:Nat}{p_seq_1_0:List PV}{kp_seq:Nat}(fp_seq:∃fn,Af9[kp_seq]? = some fn/\fn.body.isSome=true/\(fn.name == "runtime.NumGoroutine")=false)(hp_seq:DI S kp_seq [] [.reg 0 0,.reg 1 0] [(.cells [(pN p_seq_0.Langs),(.p (vSl 1 (cI .u64) p_seq_0.Has))]),(.cells [(.clo p_seq_1k [] [(.p (.ptr p_seq_1_0))])])] (p_seq.map (fun (x:Int)=>[(pI .i64) x]))){y:(Sl Int)}(h:G8 N p_seq=some y) :FunO S L0 [(.p K5),(.clo kp_seq [] [(.reg 0 0),(.reg 1 0)])] [(.cells [(pN p_seq_0.Langs),(.p (vSl 1 (cI .u64) p_seq_0.Has))]),(.cells [(.clo p_seq_1k [] [(.p (.ptr p_seq_1_0))])])] (.vec 0) ([(.vec E7 1 y.n (fun i=>(cI .i64) (y.g i)) true)]) [false,false]:=by
 unfold G8 at h;refine A4 hS R7 ?_;refine NN hS trivial fp_seq [0,1] [2] 901 (fun z1=>⟨[(2,(.reg 3000 0))],[(3500,(.vec E7 1 z1.n (fun i=>(cI .i64) (z1.g i)) false)),(3000,(.cells [(.vec 3500)]))]⟩) (idl:=[(3000,3000)]) h hp_seq (fun _=>by kernel_rfl) (fun _=>by kernel_rfl) (fun _=>by kernel_rfl) (fun _=>by kernel_rfl) (fun x1 _ self1 z1 hb1 h=>?_) (fun z1 h=>?_)
 ·refine Hk hS trivial ?_;obtain⟨c1,h⟩:=G9 h;exact hb1 _ [(901,901),(3000,3000),(3500,12000)] _ (z1.push x1) (And.intro (rfl:true=true) c1) h (hle:=klR [(0,.fn (z1.n+1) (z1.push x1).n (Ay z1.n (fun i=>(cI .i64) (z1.g i)) (E9 [(pI .i64 0)] [(0,(cI .i64) x1)])) (fun i=>(cI .i64) ((z1.push x1).g i)))] (al1 ⟨rfl,(LA (c:=(cI .i64)) (v:=z1) (x:=x1) (z:=[(pI .i64 0)]) same rfl rfl)⟩ al0))
 ·obtain rfl:=B8 h;exact A6 hS trivial ⟨[(4,(.vec 3500))],[(3500,(.vec E7 1 z1.n (fun i=>(cI .i64) (z1.g i)) true))]⟩ [3500] (ids:=[(3500,3500)]) ⟨rfl,rfl,rfl⟩
def K4 (N:Nat)(p_seq:List (Int)):Option (Sl Int):=
 (G8 N p_seq).bind fun y1=>
 some y1
theorem Fv {N:Nat}{p_seq:List (Int)}{p_seq_0:A1}{p_seq_1k:Nat}{p_seq_1_0:List PV}{kp_seq:Nat}(fp_seq:∃fn,Af9[kp_seq]? = some fn/\fn.body.isSome=true/\(fn.name == "runtime.NumGoroutine")=false)(hp_seq:DI S kp_seq [] [.reg 0 0,.reg 1 0] [(.cells [(pN p_seq_0.Langs),(.p (vSl 1 (cI .u64) p_seq_0.Has))]),(.cells [(.clo p_seq_1k [] [(.p (.ptr p_seq_1_0))])])] (p_seq.map (fun (x:Int)=>[(pI .i64) x]))){y:(Sl Int)}(h:K4 N p_seq=some y) :FunO S W8 [(.clo kp_seq [] [(.reg 0 0),(.reg 1 0)])] [(.cells [(pN p_seq_0.Langs),(.p (vSl 1 (cI .u64) p_seq_0.Has))]),(.cells [(.clo p_seq_1k [] [(.p (.ptr p_seq_1_0))])])] (.vec 0) ([(.vec E7 1 y.n (fun i=>(cI .i64) (y.g i)) true)]) [false,false]:=by unfold K4 at h;refine A4 hS Bw ?_;obtain⟨y1,e1,h⟩:=B5 h;refine B7 hS [0,1] trivial (Be hS hL fp_seq hp_seq e1) ?_;obtain rfl:=B8 h;exact A6 hS trivial ⟨[(2,(.vec 5000))],[(5000,(.vec E7 1 y1.n (fun i=>(cI .i64) (y1.g i)) true))]⟩ [5000] (ids:=[(5000,5000)]) ⟨rfl,rfl,rfl⟩
def J7 (N:Nat)(p_t:A1):Option ((Sl Int)×Int):=
 (C4 N p_t).bind fun y1=>
 if (y1 != 0) then
  some ((Sl.nil:Sl Int),y1)
 else
  (J3 N p_t (fun (u1:Int)=>I6 N u1 p_t)).bind fun y2=>
  (B4 N y2 (fun (u2:Int)=>I6 N u2 p_t)).bind fun L1=>
  (K4 N L1).bind fun y3=>
  some (y3,0)
theorem Dc {N:Nat}{p_t:A1}{y:(Sl Int)×Int}(h:J7 N p_t=some y) :FunO S FT [.p (.agg (A8 p_t))] [] (.tup [.p (vSl 1 (cI .i64) y.1),pN y.2]) ([]) []:=by
 unfold J7 at h;refine A4 hS LK ?_;refine kC hS h (P2 hS hL) (fun y1 h=>?_);refine kI hS h (fun h=>?_) (fun h=>?_)
 ·obtain rfl:=B8 h;exact A6 hS trivial ⟨[(3,pN y1),(2,.p (vSl 1 (cI .i64) (Sl.nil:Sl Int)))],[]⟩ [] (ids:=[]) ⟨rfl,rfl,rfl⟩
 ·refine H5 hS trivial 11 2000 [pI .i64 p_t.Langs,vSl 1 (cI .u64) p_t.Has] ?_;refine kC hS h (Z8 hS hL (fun e=>EA hS hL e)) (fun y2 h=>?_);obtain⟨L1,e3,h⟩:=B5 h;obtain⟨y3,e4,h⟩:=B5 h;refine B7 hS [13000,13001] trivial (Fv hS hL ⟨_,T5,by decide +kernel,by decide +kernel⟩ (U1 hS hL (fun e=>EA hS hL e) e3) e4) ?_;obtain rfl:=B8 h;exact A6 hS trivial ⟨[(3,pN 0),(2,.p (vSl 1 (cI .i64) y3))],[]⟩ [] (ids:=[]) ⟨rfl,rfl,rfl⟩
def AT (N:Nat)(p_h:H8):Option ((Sl Int)×Int):=
 (Ek N p_h.Tree).bind fun y1=>
 if (y1.2 != 0) then
  some ((Sl.nil:Sl Int),y1.2)
 else
  if (decide (32<(y1.1.n:Int))) then
   some ((Sl.nil:Sl Int),12)
  else
   some (y1.1,0)
theorem Gk {N:Nat}{p_h:H8}{y:(Sl Int)×Int}(h:AT N p_h=some y) :FunO S FV [.p (.agg (E1 p_h))] [] (.tup [.vec 0,pN y.2]) ([.vec E7 1 y.1.n (fun i=>cI .i64 (y.1.g i)) true]) []:=by
 unfold AT at h;refine A4 hS LM ?_;refine kC hS h (OC hS hL) (fun y1 h=>?_);refine kI hS h (fun h=>?_) (fun h=>?_)
 ·obtain rfl:=B8 h;exact A6 hS trivial ⟨[(3,pN y1.2),(2,.vec 3700)],[(3700,.vec E7 1 (Sl.nil:Sl Int).n (fun i=>cI .i64 ((Sl.nil:Sl Int).g i)) true)]⟩ [3700] (ids:=[]) ⟨rfl,rfl,rfl⟩
 ·refine kI hS h (fun h=>?_) (fun h=>?_)
  ·obtain rfl:=B8 h;exact A6 hS trivial ⟨[(3,pN 12),(2,.vec 3700)],[(3700,.vec E7 1 (Sl.nil:Sl Int).n (fun i=>cI .i64 ((Sl.nil:Sl Int).g i)) true)]⟩ [3700] (ids:=[]) ⟨rfl,rfl,rfl⟩
  ·obtain rfl:=B8 h;exact A6 hS trivial ⟨[(3,pN 0),(2,.vec 10000)],[(10000,.vec E7 1 y1.1.n (fun i=>cI .i64 (y1.1.g i)) true)]⟩ [10000] (ids:=[(10000,10000)]) ⟨rfl,rfl,rfl⟩
def Fw (N:Nat)(p_h:H8):Option (A1×Int):=
 (U0 N p_h).bind fun y1=>
 if (y1 != 0) then
  some ((⟨0,(Sl.nil:Sl Int)⟩:A1),y1)
 else
  (AT N p_h).bind fun y2=>
  if (y2.2 != 0) then
   some ((⟨0,(Sl.nil:Sl Int)⟩:A1),y2.2)
  else
   if ((0:Int)<=(p_h.Laws.n:Int)/\(p_h.Laws.n:Int)<=(p_h.Laws.n:Int)/\(p_h.Laws.n:Int)*8<=140737488355328/\(p_h.Laws.n:Int)<=140737488355328)then
    Dq N (fun self3 (x3:Sl Int) (x4:Int)=>
     if (decide (x4<(y2.1.n:Int))) then
      if (((0:Int)<=x4/\x4<(y2.1.n:Int))/\x4.toNat<y2.1.n)then
       (AS N p_h (y2.1.g x4.toNat)).bind fun y5=>
       if (y5.2 != 0) then
        some ((⟨0,(Sl.nil:Sl Int)⟩:A1),y5.2)
       else
        Dq N (fun self4 (x7:Sl Int) (x8:Int)=>
         if (decide (x8<(y5.1.n:Int))) then
          if (((0:Int)<=x8/\x8<(y5.1.n:Int))/\x8.toNat<y5.1.n)then
           if ((((((0:Int)<=(y5.1.g x8.toNat)/\(y5.1.g x8.toNat)<(x7.n:Int))/\(y5.1.g x8.toNat).toNat<x7.n)/\(0:Int)<=x4)/\((0:Int)<=(y5.1.g x8.toNat)/\(y5.1.g x8.toNat)<(x7.n:Int)))/\(y5.1.g x8.toNat).toNat<x7.n)then
            self4 (x7.upd (y5.1.g x8.toNat).toNat (A9 .or .u64 (x7.g (y5.1.g x8.toNat).toNat) (shI .shl .u64 1 x4))) (wrap .i64 (x8+1))
           else none
          else none
         else
          self3 x7 (wrap .i64 (x4+1))
         ) x3 0
      else none
     else
      some ((⟨(y2.1.n:Int),x3⟩:A1),0)
     ) (Sl.rep (p_h.Laws.n:Int).toNat 0:Sl Int) 0
   else none
theorem Qu {N:Nat}{p_h:H8}{y:A1×Int}(h:Fw N p_h=some y) :FunO S IS [.p (.agg (E1 p_h))] [] (.tup [.p (.agg (A8 y.1)),pN y.2]) ([]) []:=by
 unfold Fw at h;refine A4 hS PX ?_;refine H5 hS trivial 2 2000 (E1 p_h) ?_;obtain⟨y1,e1,h⟩:=B5 h;refine B7 hS [] (by decide:(3:Nat)<=3) (Cj hS hL e1) ?_;refine kI hS h (fun h=>?_) (fun h=>?_)
 ·obtain rfl:=B8 h;exact A6 hS trivial ⟨[(3,pN y1),(2,.reg 3000 0)],[(3000,.cells [pN 0,.p (vSl 1 (cI .u64) (Sl.nil:Sl Int))])]⟩ [] (ids:=[(3000,3000)]) ⟨rfl,rfl,rfl⟩
 ·obtain⟨y2,e2,h⟩:=B5 h;refine B7 hS [] (by decide:(3:Nat)<=3) (Gk hS hL e2) ?_;refine kI hS h (fun h=>?_) (fun h=>?_)
  ·obtain rfl:=B8 h;exact A6 hS trivial ⟨[(3,pN y2.2),(2,.reg 3000 0)],[(3000,.cells [pN 0,.p (vSl 1 (cI .u64) (Sl.nil:Sl Int))])]⟩ [] (ids:=[(3000,3000)]) ⟨rfl,rfl,rfl⟩
  ·obtain⟨c3,h⟩:=G9 h;refine N0 hS c3 h (fun x3 x4=>⟨[(38,pN x4),(37,pN (y2.1.n:Int)),(36,.vec 23000),(7,.reg 8000 0),(2,.reg 3000 0),(1,.p (.ptr (E1 p_h)))],[(35000,.vec O7 1 x3.n (fun i=>cI .u64 (x3.g i)) false),(23000,.vec E7 1 y2.1.n (fun i=>cI .i64 (y2.1.g i)) true),(8000,.cells [pN (y2.1.n:Int),.vec 35000]),(3000,.cells [pN 0,.p K5])]⟩) (ids:=[(3000,3000),(8000,8000),(23000,23000),(35000,35000)]) (fun _ _ _ _ _ self3 x3 x4 hb3 h=>?_);refine kI hS h (fun h=>?_) (fun h=>?_)
   ·obtain⟨c29,h⟩:=G9 h;obtain⟨y5,e5,h⟩:=B5 h;refine B7 hS [] (And.intro (And.intro c29.1 c29.2) (by decide:(3:Nat)<=3)) (Gj hS hL e5) ?_;refine kI hS h (fun h=>?_) (fun h=>?_)
    ·obtain rfl:=B8 h;exact A6 hS trivial ⟨[(3,pN y5.2),(2,.reg 3000 0)],[(3000,.cells [pN 0,.p (vSl 1 (cI .u64) (Sl.nil:Sl Int))])]⟩ [] (ids:=[(3000,3000)]) ⟨rfl,rfl,rfl⟩
    ·refine N0 hS trivial h (fun x7 x8=>⟨[(55,pN x8),(54,pN (y5.1.n:Int)),(53,.vec 47000),(38,pN x4),(37,pN (y2.1.n:Int)),(36,.vec 23000),(8,pN x4),(7,.reg 8000 0),(2,.reg 3000 0),(1,.p (.ptr (E1 p_h)))],[(47000,.vec E7 1 y5.1.n (fun i=>cI .i64 (y5.1.g i)) true),(35000,.vec O7 1 x7.n (fun i=>cI .u64 (x7.g i)) false),(23000,.vec E7 1 y2.1.n (fun i=>cI .i64 (y2.1.g i)) true),(8000,.cells [pN (y2.1.n:Int),.vec 35000]),(3000,.cells [pN 0,.p K5])]⟩) (ids:=[(3000,3000),(8000,8000),(23000,23000),(35000,35000),(47000,47000)]) (fun _ _ _ _ _ self4 x7 x8 hb4 h=>?_);refine kI hS h (fun h=>?_) (fun h=>?_)
     ·obtain⟨c38,h⟩:=G9 h;refine EU hS c38 ?_;obtain⟨c39,h⟩:=G9 h;refine J2 (And.intro (And.intro (And.intro (And.intro c39.1.1.1.1 c39.1.1.1.2) c39.1.1.2) c39.1.2) (And.intro (rfl:(1:Nat)=1) (And.intro c39.2 (by decide:(1:Nat)<=1)))) ?_;exact hb4 _ [(3000,3000),(8000,8000),(23000,23000),(35000,35000),(47000,47000)] _ (x7.upd (y5.1.g x8.toNat).toNat (A9 .or .u64 (x7.g (y5.1.g x8.toNat).toNat) (shI .shl .u64 1 x4))) (wrap .i64 (x8+1)) trivial h (hle:=klR [(7,.fn x7.n (x7.upd (y5.1.g x8.toNat).toNat (A9 .or .u64 (x7.g (y5.1.g x8.toNat).toNat) (shI .shl .u64 1 x4))).n (fun l=>if l=(y5.1.g x8.toNat).toNat then splice ((fun i=>cI .u64 (x7.g i)) l) 0 [pI .u64 (A9 .or .u64 (x7.g (y5.1.g x8.toNat).toNat) (shI .shl .u64 1 x4))]else (fun i=>cI .u64 (x7.g i)) l) (fun i=>cI .u64 ((x7.upd (y5.1.g x8.toNat).toNat (A9 .or .u64 (x7.g (y5.1.g x8.toNat).toNat) (shI .shl .u64 1 x4))).g i)))] (al1 ⟨rfl,Aa8 (c:=cI .u64) (v:=x7) (x:=A9 .or .u64 (x7.g (y5.1.g x8.toNat).toNat) (shI .shl .u64 1 x4)) same (fun _=>by first|rfl|(dsimp only;split<;>rfl))⟩ al0))
     ·exact hb3 _ [(3000,3000),(8000,8000),(23000,23000),(35000,35000)] _ x7 (wrap .i64 (x4+1)) trivial h
   ·obtain rfl:=B8 h;exact A6 hS trivial ⟨[(3,pN 0),(2,.reg 3000 0)],[(3000,.cells [pN (y2.1.n:Int),.p (vSl 1 (cI .u64) x3)])]⟩ [] (ids:=[(3000,3000)]) ⟨rfl,rfl,rfl⟩
def El (N:Nat)(p_h:H8)(p_l:Sl (Sl A2)):Option (A1×Int):=
 (U0 N p_h).bind fun y1=>
 if (y1 != 0) then
  some ((⟨0,(Sl.nil:Sl Int)⟩:A1),y1)
 else
  if (decide (256<(p_l.n:Int))) then
   some ((⟨0,(Sl.nil:Sl Int)⟩:A1),12)
  else
   Co N (fun self1 (x1:Int)=>
    if (decide (x1<(p_l.n:Int))) then
     if ((0:Int)<=x1/\x1<(p_l.n:Int))then
      (AZ N (p_l.g x1.toNat)).bind fun y4=>
      if (y4 != 0) then
       some ((⟨0,(Sl.nil:Sl Int)⟩:A1),y4)
      else
       self1 (wrap .i64 (x1+1))
     else none
    else
     (AT N p_h).bind fun y5=>
     if (y5.2 != 0) then
      some ((⟨0,(Sl.nil:Sl Int)⟩:A1),y5.2)
     else
      Dq N (fun self2 (x2:Sl (Sl Law)) (x3:Int)=>
       if (decide (x3<(y5.1.n:Int))) then
        if (((0:Int)<=x3/\x3<(y5.1.n:Int))/\x3.toNat<y5.1.n)then
         (Da N p_h (y5.1.g x3.toNat)).bind fun y8=>
         if (y8.2 != 0) then
          some ((⟨0,(Sl.nil:Sl Int)⟩:A1),y8.2)
         else
          if ((x2.n+(Sl.of [y8.1]:Sl (Sl Law)).n)*24<=140737488355328/\x2.n+(Sl.of [y8.1]:Sl (Sl Law)).n<=140737488355328)then
           self2 (x2.push y8.1) (wrap .i64 (x3+1))
          else none
        else none
       else
        Dq N (fun self5 (x7:Sl Int) (x8:Int)=>
         if (decide (x8<(p_l.n:Int))) then
          if ((0:Int)<=x8/\x8<(p_l.n:Int))then
           WZ N (fun self6 (x12:List (Str×Int)) (x13:Sl Int) (x14:Int)=>
            if (decide (x14<(y5.1.n:Int))) then
             if (((0:Int)<=x14/\x14<(x2.n:Int))/\x14.toNat<x2.n)then
              (Ch N (x2.g x14.toNat) (p_l.g x8.toNat)).bind fun y25=>
              (Fm N y25.1 y25.2).bind fun y26=>
              Ab1 (LH eqS y26 x12) (
               if ((x13.n+(Sl.of [0]:Sl Int).n)*8<=140737488355328/\x13.n+(Sl.of [0]:Sl Int).n<=140737488355328)then
                if ((((((0:Int)<=(x13.n:Int)/\(x13.n:Int)<((x13.push 0).n:Int))/\(x13.n:Int).toNat<(x13.push 0).n)/\(0:Int)<=x14)/\((0:Int)<=(x13.n:Int)/\(x13.n:Int)<((x13.push 0).n:Int)))/\(x13.n:Int).toNat<(x13.push 0).n)then
                 self6 (TL eqS y26 (x13.n:Int) x12) ((x13.push 0).upd (x13.n:Int).toNat (A9 .or .u64 ((x13.push 0).g (x13.n:Int).toNat) (shI .shl .u64 1 x14))) (wrap .i64 (x14+1))
                else none
               else none
               ) fun v9=>
               if ((((((0:Int)<=v9/\v9<(x13.n:Int))/\v9.toNat<x13.n)/\(0:Int)<=x14)/\((0:Int)<=v9/\v9<(x13.n:Int)))/\v9.toNat<x13.n)then
                self6 x12 (x13.upd v9.toNat (A9 .or .u64 (x13.g v9.toNat) (shI .shl .u64 1 x14))) (wrap .i64 (x14+1))
               else none
             else none
            else
             if (decide (1<(x13.n:Int))) then
              if ((x7.n+x13.n)*8<=140737488355328/\x7.n+x13.n<=140737488355328)then
               if (decide (64<((x7.app x13).n:Int))) then
                some ((⟨0,(Sl.nil:Sl Int)⟩:A1),12)
               else
                self5 (x7.app x13) (wrap .i64 (x8+1))
              else none
             else
              if (decide (64<(x7.n:Int))) then
               some ((⟨0,(Sl.nil:Sl Int)⟩:A1),12)
              else
               self5 x7 (wrap .i64 (x8+1))
            ) [] (Sl.nil:Sl Int) 0
          else none
         else
          some ((⟨(y5.1.n:Int),x7⟩:A1),0)
         ) (Sl.nil:Sl Int) 0
       ) (Sl.nil:Sl (Sl Law)) 0
    ) 0
theorem OE {N:Nat}{p_h:H8}{p_l:Sl (Sl A2)}{y:A1×Int}(h:El N p_h p_l=some y) :FunO S Hn [.p (.agg (E1 p_h)),.p (vSl 1 (cL 2 A0) p_l)] [] (.tup [.p (.agg (A8 y.1)),pN y.2]) ([]) []:=by
 unfold El at h;refine A4 hS NT ?_;refine H5 hS trivial 4 3000 (E1 p_h) ?_;obtain⟨y1,e1,h⟩:=B5 h;refine B7 hS [] (by decide:(3:Nat)<=3) (Cj hS hL e1) ?_;refine kI hS h (fun h=>?_) (fun h=>?_)
 ·obtain rfl:=B8 h;exact A6 hS trivial ⟨[(5,pN y1),(4,.reg 5000 0)],[(5000,.cells [pN 0,.p (vSl 1 (cI .u64) (Sl.nil:Sl Int))])]⟩ [] (ids:=[(5000,5000)]) ⟨rfl,rfl,rfl⟩
 ·refine kI hS h (fun h=>?_) (fun h=>?_)
  ·obtain rfl:=B8 h;exact A6 hS trivial ⟨[(5,pN 12),(4,.reg 5000 0)],[(5000,.cells [pN 0,.p (vSl 1 (cI .u64) (Sl.nil:Sl Int))])]⟩ [] (ids:=[(5000,5000)]) ⟨rfl,rfl,rfl⟩
  ·refine W6 hS trivial h (fun x1=>⟨[(38,pN x1),(37,pN (p_l.n:Int)),(36,.p (vSl 1 (cL 2 A0) p_l)),(4,.reg 5000 0),(2,.p (.ptr (E1 p_h))),(1,.p (vSl 1 (cL 2 A0) p_l))],[(5000,.cells [pN 0,.p K5])]⟩) (ids:=[(5000,5000)]) (fun _ _ _ _ _ self1 x1 hb1 h=>?_);refine kI hS h (fun h=>?_) (fun h=>?_)
   ·obtain⟨c10,h⟩:=G9 h;obtain⟨y4,e4,h⟩:=B5 h;refine B7 hS [] c10 (Fp hS hL e4) ?_;refine kI hS h (fun h=>?_) (fun h=>?_)
    ·obtain rfl:=B8 h;exact A6 hS trivial ⟨[(5,pN y4),(4,.reg 5000 0)],[(5000,.cells [pN 0,.p (vSl 1 (cI .u64) (Sl.nil:Sl Int))])]⟩ [] (ids:=[(5000,5000)]) ⟨rfl,rfl,rfl⟩
    ·exact hb1 _ [(5000,5000)] _ (wrap .i64 (x1+1)) trivial h
   ·obtain⟨y5,e5,h⟩:=B5 h;refine B7 hS [] (by decide:(3:Nat)<=3) (Gk hS hL e5) ?_;refine kI hS h (fun h=>?_) (fun h=>?_)
    ·obtain rfl:=B8 h;exact A6 hS trivial ⟨[(5,pN y5.2),(4,.reg 5000 0)],[(5000,.cells [pN 0,.p (vSl 1 (cI .u64) (Sl.nil:Sl Int))])]⟩ [] (ids:=[(5000,5000)]) ⟨rfl,rfl,rfl⟩
    ·refine N0 hS trivial h (fun x2 x3=>⟨[(60,pN x3),(59,pN (y5.1.n:Int)),(58,.vec 52000),(12,.vec 13500),(10,.vec 52000),(4,.reg 5000 0),(2,.p (.ptr (E1 p_h))),(1,.p (vSl 1 (cL 2 A0) p_l))],[(52000,.vec E7 1 y5.1.n (fun i=>cI .i64 (y5.1.g i)) true),(13500,.vec Cz 1 x2.n (fun i=>cL 18 C0 (x2.g i)) false),(5000,.cells [pN 0,.p K5])]⟩) (ids:=[(5000,5000),(52000,52000)]) (fun _ _ _ _ _ self2 x2 x3 hb2 h=>?_);refine kI hS h (fun h=>?_) (fun h=>?_)
     ·obtain⟨c20,h⟩:=G9 h;obtain⟨y8,e8,h⟩:=B5 h;refine B7 hS [] (And.intro (And.intro c20.1 c20.2) (by decide:(3:Nat)<=3)) (Mn hS hL e8) ?_;refine kI hS h (fun h=>?_) (fun h=>?_)
      ·obtain rfl:=B8 h;exact A6 hS trivial ⟨[(5,pN y8.2),(4,.reg 5000 0)],[(5000,.cells [pN 0,.p (vSl 1 (cI .u64) (Sl.nil:Sl Int))])]⟩ [] (ids:=[(5000,5000)]) ⟨rfl,rfl,rfl⟩
      ·obtain⟨c22,h⟩:=G9 h;exact hb2 _ [(5000,5000),(13500,78000),(52000,52000)] _ (x2.push y8.1) (wrap .i64 (x3+1)) (And.intro (rfl:true=true) c22) h (hle:=klR [(5,.fn (x2.n+1) (x2.push y8.1).n (Ay x2.n (fun i=>cL 18 C0 (x2.g i)) (E9 [K5] [(0,cL 18 C0 y8.1)])) (fun i=>cL 18 C0 ((x2.push y8.1).g i)))] (al1 ⟨rfl,LA (c:=cL 18 C0) (v:=x2) (x:=y8.1) (z:=[K5]) same rfl rfl⟩ al0))
     ·refine N0 hS trivial h (fun x7 x8=>⟨[(84,pN x8),(83,pN (p_l.n:Int)),(82,.p (vSl 1 (cL 2 A0) p_l)),(17,.reg 18000 0),(12,.vec 13500),(10,.vec 52000),(4,.reg 5000 0)],[(52000,.vec E7 1 y5.1.n (fun i=>cI .i64 (y5.1.g i)) true),(18500,.vec O7 1 x7.n (fun i=>cI .u64 (x7.g i)) false),(18000,.cells [pN (y5.1.n:Int),.vec 18500]),(13500,.vec Cz 1 x2.n (fun i=>cL 18 C0 (x2.g i)) false),(5000,.cells [pN 0,.p K5])]⟩) (ids:=[(5000,5000),(13500,13500),(18000,18000),(52000,52000)]) (fun _ _ _ _ _ self5 x7 x8 hb5 h=>?_);refine kI hS h (fun h=>?_) (fun h=>?_)
      ·obtain⟨c76,h⟩:=G9 h;refine Ks hS c76 h (fun x12 x13 x14=>⟨[(91,pN x14),(90,pN (y5.1.n:Int)),(84,pN x8),(83,pN (p_l.n:Int)),(82,.p (vSl 1 (cL 2 A0) p_l)),(21,.vec 22500),(20,.mref 89000),(19,.p (vSl 2 A0 (p_l.g x8.toNat))),(17,.reg 18000 0),(12,.vec 13500),(10,.vec 52000),(4,.reg 5000 0)],[(89000,.map (Km PV.str (pI .i64) x12)),(52000,.vec E7 1 y5.1.n (fun i=>cI .i64 (y5.1.g i)) true),(22500,.vec O7 1 x13.n (fun i=>cI .u64 (x13.g i)) false),(18500,.vec O7 1 x7.n (fun i=>cI .u64 (x7.g i)) false),(18000,.cells [pN (y5.1.n:Int),.vec 18500]),(13500,.vec Cz 1 x2.n (fun i=>cL 18 C0 (x2.g i)) false),(5000,.cells [pN 0,.p K5])]⟩) (ids:=[(5000,5000),(13500,13500),(18000,18000),(18500,18500),(52000,52000),(89000,89000)]) (fun _ _ _ _ _ self6 x12 x13 x14 hb6 h=>?_);refine kI hS h (fun h=>?_) (fun h=>?_)
       ·obtain⟨c91,h⟩:=G9 h;obtain⟨y25,e25,h⟩:=B5 h;refine B7 hS [] c91 (Lg hS hL e25) ?_;refine kC hS h (Qm hS hL) (fun y26 h=>?_);rcases o9:LH eqS y26 x12 with _|v9
        ·replace h:=optN o9 h;refine FF hS trivial (kt:=AR) (e:=E7) (key:=PV.str y26) (es:=Km PV.str (pI .i64) x12) (x:=pI .i64 0) (b:=false) (fd:=none) ((BW (kP:=PV.str) (vP:=pI .i64) (eq:=eqS) (fun _ _=>by kernel_rfl) y26 x12).trans (by rw[o9];rfl)) trivial ?_;refine D9 hS trivial (b:=true) (fun c92=>?_) (fun c92=>?_)
         ·refine JC hS trivial (kt:=AR) (key:=PV.str y26) (y:=pI .i64 (x13.n:Int)) (es:=Km PV.str (pI .i64) x12) (Hf (kP:=PV.str) (vP:=pI .i64) (eq:=eqS) (fun _ _=>by kernel_rfl) y26 (x13.n:Int) x12) trivial ?_;obtain⟨c93,h⟩:=G9 h;refine W7 hS (And.intro (rfl:true=true) c93) 21 ⟨[(118,.vec 119000),(91,pN x14),(90,pN (y5.1.n:Int)),(84,pN x8),(83,pN (p_l.n:Int)),(82,.p (vSl 1 (cL 2 A0) p_l)),(24,pN (x13.n:Int)),(22,pN x14),(20,.mref 89000),(19,.p (vSl 2 A0 (p_l.g x8.toNat))),(17,.reg 18000 0),(12,.vec 13500),(10,.vec 52000),(4,.reg 5000 0)],[(119000,.vec O7 1 (x13.push 0).n (fun i=>cI .u64 ((x13.push 0).g i)) false),(89000,.map (Km PV.str (pI .i64) (TL eqS y26 (x13.n:Int) x12))),(52000,.vec E7 1 y5.1.n (fun i=>cI .i64 (y5.1.g i)) true),(18500,.vec O7 1 x7.n (fun i=>cI .u64 (x7.g i)) false),(18000,.cells [pN (y5.1.n:Int),.vec 18500]),(13500,.vec Cz 1 x2.n (fun i=>cL 18 C0 (x2.g i)) false),(5000,.cells [pN 0,.p K5])]⟩ (ids:=[(5000,5000),(13500,13500),(18000,18000),(18500,18500),(52000,52000),(89000,89000),(119000,119000)]) ?_ (hle:=klR [(8,.fn (x13.n+1) (x13.push 0).n (Ay x13.n (fun i=>cI .u64 (x13.g i)) (E9 [pI .u64 0] [(0,cI .u64 0)])) (fun i=>cI .u64 ((x13.push 0).g i)))] (al1 ⟨rfl,LA (c:=cI .u64) (v:=x13) (x:=0) (z:=[(pI .u64 0)]) same rfl rfl⟩ al0));refine EU hS trivial ?_;obtain⟨c94,h⟩:=G9 h;refine J2 (And.intro (And.intro (And.intro (And.intro c94.1.1.1.1 c94.1.1.1.2) c94.1.1.2) c94.1.2) (And.intro (rfl:(1:Nat)=1) (And.intro c94.2 (by decide:(1:Nat)<=1)))) ?_;exact hb6 _ [(5000,5000),(13500,13500),(18000,18000),(18500,18500),(22500,119000),(52000,52000),(89000,89000)] _ (TL eqS y26 (x13.n:Int) x12) ((x13.push 0).upd (x13.n:Int).toNat (A9 .or .u64 ((x13.push 0).g (x13.n:Int).toNat) (shI .shl .u64 1 x14))) (wrap .i64 (x14+1)) trivial h (hle:=klR [(8,.fn (x13.push 0).n ((x13.push 0).upd (x13.n:Int).toNat (A9 .or .u64 ((x13.push 0).g (x13.n:Int).toNat) (shI .shl .u64 1 x14))).n (fun l=>if l=(x13.n:Int).toNat then splice ((fun i=>cI .u64 ((x13.push 0).g i)) l) 0 [pI .u64 (A9 .or .u64 ((x13.push 0).g (x13.n:Int).toNat) (shI .shl .u64 1 x14))]else (fun i=>cI .u64 ((x13.push 0).g i)) l) (fun i=>cI .u64 (((x13.push 0).upd (x13.n:Int).toNat (A9 .or .u64 ((x13.push 0).g (x13.n:Int).toNat) (shI .shl .u64 1 x14))).g i)))] (al1 ⟨rfl,Aa8 (c:=cI .u64) (v:=x13.push 0) (x:=A9 .or .u64 ((x13.push 0).g (x13.n:Int).toNat) (shI .shl .u64 1 x14)) same (fun _=>by first|rfl|(dsimp only;split<;>rfl))⟩ al0))
         ·exact Bool.noConfusion ((rfl:true=true).symm.trans c92)
        ·replace h:=optS o9 h;refine FF hS trivial (kt:=AR) (e:=E7) (key:=PV.str y26) (es:=Km PV.str (pI .i64) x12) (x:=pI .i64 v9) (b:=true) (fd:=some (pI .i64 v9)) ((BW (kP:=PV.str) (vP:=pI .i64) (eq:=eqS) (fun _ _=>by kernel_rfl) y26 x12).trans (by rw[o9];rfl)) trivial ?_;refine D9 hS trivial (b:=false) (fun c95=>?_) (fun c95=>?_)
         ·exact Bool.noConfusion ((rfl:false=false).symm.trans c95)
         ·refine EU hS trivial ?_;obtain⟨c96,h⟩:=G9 h;refine J2 (And.intro (And.intro (And.intro (And.intro c96.1.1.1.1 c96.1.1.1.2) c96.1.1.2) c96.1.2) (And.intro (rfl:(1:Nat)=1) (And.intro c96.2 (by decide:(1:Nat)<=1)))) ?_;exact hb6 _ [(5000,5000),(13500,13500),(18000,18000),(18500,18500),(22500,22500),(52000,52000),(89000,89000)] _ x12 (x13.upd v9.toNat (A9 .or .u64 (x13.g v9.toNat) (shI .shl .u64 1 x14))) (wrap .i64 (x14+1)) trivial h (hle:=klR [(8,.fn x13.n (x13.upd v9.toNat (A9 .or .u64 (x13.g v9.toNat) (shI .shl .u64 1 x14))).n (fun l=>if l=v9.toNat then splice ((fun i=>cI .u64 (x13.g i)) l) 0 [pI .u64 (A9 .or .u64 (x13.g v9.toNat) (shI .shl .u64 1 x14))]else (fun i=>cI .u64 (x13.g i)) l) (fun i=>cI .u64 ((x13.upd v9.toNat (A9 .or .u64 (x13.g v9.toNat) (shI .shl .u64 1 x14))).g i)))] (al1 ⟨rfl,Aa8 (c:=cI .u64) (v:=x13) (x:=A9 .or .u64 (x13.g v9.toNat) (shI .shl .u64 1 x14)) same (fun _=>by first|rfl|(dsimp only;split<;>rfl))⟩ al0))
       ·refine kI hS h (fun h=>?_) (fun h=>?_)
        ·obtain⟨c98,h⟩:=G9 h;refine D9 hS c98 (b:=decide (64<((x7.app x13).n:Int))) (fun c99=>?_) (fun c99=>?_)
         ·replace h:=itT c99 h;obtain rfl:=B8 h;exact A6 hS trivial ⟨[(5,pN 12),(4,.reg 5000 0)],[(5000,.cells [pN 0,.p (vSl 1 (cI .u64) (Sl.nil:Sl Int))])]⟩ [] (ids:=[(5000,5000)]) ⟨rfl,rfl,rfl⟩
         ·replace h:=itF c99 h;exact hb5 _ [(5000,5000),(13500,13500),(18000,18000),(18500,135000),(52000,52000)] _ (x7.app x13) (wrap .i64 (x8+1)) trivial h (hle:=klR [(4,.fn (x7.n+x13.n) (x7.app x13).n (Ay x7.n (fun i=>cI .u64 (x7.g i)) (fun i=>cI .u64 (x13.g i))) (fun i=>cI .u64 ((x7.app x13).g i)))] (al1 ⟨rfl,appL (c:=cI .u64) (v:=x7) (w:=x13) same rfl same rfl⟩ al0))
        ·refine kI hS h (fun h=>?_) (fun h=>?_)
         ·obtain rfl:=B8 h;exact A6 hS trivial ⟨[(5,pN 12),(4,.reg 5000 0)],[(5000,.cells [pN 0,.p (vSl 1 (cI .u64) (Sl.nil:Sl Int))])]⟩ [] (ids:=[(5000,5000)]) ⟨rfl,rfl,rfl⟩
         ·exact hb5 _ [(5000,5000),(13500,13500),(18000,18000),(18500,18500),(52000,52000)] _ x7 (wrap .i64 (x8+1)) trivial h
      ·obtain rfl:=B8 h;exact A6 hS trivial ⟨[(5,pN 0),(4,.reg 5000 0)],[(5000,.cells [pN (y5.1.n:Int),.p (vSl 1 (cI .u64) x7)])]⟩ [] (ids:=[(5000,5000)]) ⟨rfl,rfl,rfl⟩
def GJ (N:Nat)  : Option A1:=
 some (⟨4,(Sl.of [3,6,15,8]:Sl Int)⟩:A1)
theorem RW {N:Nat}    {y:A1}(h:GJ N  = some y) :FunO S KC [] [] (.p (.agg (A8 y))) ([]) []:=by unfold GJ at h;refine A4 hS Rv ?_;obtain rfl:=B8 h;exact A6 hS (rfl:true=true) ⟨[(0,.reg 1000 0)],[(1000,.cells [pN 4,.p (vSl 1 (cI .u64) (Sl.of [3,6,15,8]:Sl Int))])]⟩ [] (ids:=[(1000,1000)]) ⟨rfl,rfl,rfl⟩ (hle:=klR [(1,.fn 4 (Sl.of [3,6,15,8]:Sl Int).n (E9 [pI .u64 0] [(0,cI .u64 3),(1,cI .u64 6),(2,cI .u64 15),(3,cI .u64 8)]) (fun i=>cI .u64 ((Sl.of [3,6,15,8]:Sl Int).g i)))] (al1 ⟨rfl,(fun i hi=>match i,hi with|0,_=>rfl|1,_=>rfl|2,_=>rfl|3,_=>rfl|_+4,hi=>absurd hi (by omega))⟩ al0))
def BJ (N:Nat)  : Option H8:=
 some (⟨(Sl.of [(⟨-1,[114]⟩:T4),(⟨0,[120]⟩:T4),(⟨1,[97]⟩:T4),(⟨1,[98]⟩:T4),(⟨0,[99]⟩:T4)]:Sl T4),(Sl.of [(⟨[70],Pat.mk 0 (⟨0,0⟩:A2) false 0 0 (Sl.nil:Sl Pat).n (Sl.nil:Sl Pat).g,Pat.mk 6 (⟨0,0⟩:A2) false 0 0 (Sl.nil:Sl Pat).n (Sl.nil:Sl Pat).g,(Sl.of [(⟨4,0⟩:A2)]:Sl A2),(Sl.nil:Sl Bj),1⟩:Law),(⟨[86],Pat.mk 1 (⟨4,0⟩:A2) false 0 0 (Sl.nil:Sl Pat).n (Sl.nil:Sl Pat).g,Pat.mk 1 (⟨4,0⟩:A2) false 0 0 (Sl.nil:Sl Pat).n (Sl.nil:Sl Pat).g,(Sl.of [(⟨2,0⟩:A2)]:Sl A2),(Sl.of [(⟨0,0,(⟨1,0⟩:A2),0,0⟩:Bj)]:Sl Bj),1⟩:Law)]:Sl Law),(Sl.of [(Sl.nil:Sl Int),(Sl.of [0]:Sl Int),(Sl.nil:Sl Int),(Sl.of [1]:Sl Int),(Sl.nil:Sl Int)]:Sl (Sl Int))⟩:H8)
theorem HL {N:Nat}    {y:H8}(h:BJ N  = some y) :FunO S Hr [] [] (.p (.agg (E1 y))) ([]) []:=by unfold BJ at h;refine A4 hS NV ?_;refine W7 hS (rfl:true=true) 10 ⟨[(9,.p (vSl 2 A0 (Sl.of [(⟨4,0⟩:A2)]:Sl A2))),(7,.p (.agg [pI .i64 6,pI .u32 0,pI .u32 0,.v (.bool false),pI .i64 0,pI .i64 0,K5])),(1,.reg 2000 0),(0,.reg 1000 0)],[(2000,.cells [pN 1,pU 4,pU 0,.p (.v (.bool false)),pN 0,pN 0,.p K5]),(1000,.cells [.p K5,.p K5,.p K5])]⟩ (ids:=[(1000,1000),(2000,2000)]) ?_ (hle:=klR [(0,.fn 1 (Sl.of [(⟨4,0⟩:A2)]:Sl A2).n (E9 [pI .u32 0,pI .u32 0] [(0,A0 (⟨4,0⟩:A2))]) (fun i=>A0 ((Sl.of [(⟨4,0⟩:A2)]:Sl A2).g i)))] (al1 ⟨rfl,(fun i hi=>match i,hi with|0,_=>rfl|_+1,hi=>absurd hi (by omega))⟩ al0));refine W7 hS trivial 11 ⟨[(2,.reg 3000 0),(1,.reg 2000 0),(0,.reg 1000 0)],[(3000,.cells [.p (.str [70]),pN 0,pU 0,pU 0,.p (.v (.bool false)),pN 0,pN 0,.p K5,pN 6,pU 0,pU 0,.p (.v (.bool false)),pN 0,pN 0,.p K5,.p (vSl 2 A0 (Sl.of [(⟨4,0⟩:A2)]:Sl A2)),.p K5,pN 1]),(2000,.cells [pN 1,pU 4,pU 0,pB false,pN 0,pN 0,.p (vSl 7 D7 (Sl.nil:Sl Pat))]),(1000,.cells [.p K5,.p K5,.p K5])]⟩ (ids:=[(1000,1000),(2000,2000),(3000,3000)]) ?_;refine W7 hS (And.intro (rfl:true=true) (rfl:true=true)) 18 ⟨[(17,.p (vSl 6 R5 (Sl.of [(⟨0,0,(⟨1,0⟩:A2),0,0⟩:Bj)]:Sl Bj))),(14,.p (vSl 2 A0 (Sl.of [(⟨2,0⟩:A2)]:Sl A2))),(12,.p (.agg [pI .i64 1,pI .u32 4,pI .u32 0,.bb false,pI .i64 0,pI .i64 0,vSl 7 D7 (Sl.nil:Sl Pat)])),(11,.p (.agg [pI .i64 1,pI .u32 4,pI .u32 0,.bb false,pI .i64 0,pI .i64 0,vSl 7 D7 (Sl.nil:Sl Pat)])),(2,.reg 3000 0),(0,.reg 1000 0)],[(3000,.cells [.p (.str [70]),pN 0,pU 0,pU 0,.p (.v (.bool false)),pN 0,pN 0,.p K5,pN 6,pU 0,pU 0,.p (.v (.bool false)),pN 0,pN 0,.p K5,.p (vSl 2 A0 (Sl.of [(⟨4,0⟩:A2)]:Sl A2)),.p K5,pN 1]),(1000,.cells [.p K5,.p K5,.p K5])]⟩ (ids:=[(1000,1000),(3000,3000)]) ?_ (hle:=klR [(0,.fn 1 (Sl.of [(⟨0,0,(⟨1,0⟩:A2),0,0⟩:Bj)]:Sl Bj).n (E9 [pI .i64 0,pI .u32 0,pI .u32 0,pI .u32 0,pI .u32 0,pI .i64 0] [(0,R5 (⟨0,0,(⟨1,0⟩:A2),0,0⟩:Bj))]) (fun i=>R5 ((Sl.of [(⟨0,0,(⟨1,0⟩:A2),0,0⟩:Bj)]:Sl Bj).g i))),(1,.fn 1 (Sl.of [(⟨2,0⟩:A2)]:Sl A2).n (E9 [pI .u32 0,pI .u32 0] [(0,A0 (⟨2,0⟩:A2))]) (fun i=>A0 ((Sl.of [(⟨2,0⟩:A2)]:Sl A2).g i)))] (al1 ⟨rfl,(fun i hi=>match i,hi with|0,_=>rfl|_+1,hi=>absurd hi (by omega))⟩ (al1 ⟨rfl,(fun i hi=>match i,hi with|0,_=>rfl|_+1,hi=>absurd hi (by omega))⟩ al0)));refine W7 hS (rfl:true=true) 26 ⟨[(25,.vec 25000),(3,.reg 4000 0),(2,.reg 3000 0),(0,.reg 1000 0)],[(25000,.vec MZ 2 (Sl.of [(⟨-1,[114]⟩:T4),(⟨0,[120]⟩:T4),(⟨1,[97]⟩:T4),(⟨1,[98]⟩:T4),(⟨0,[99]⟩:T4)]:Sl T4).n (fun i=>P7 ((Sl.of [(⟨-1,[114]⟩:T4),(⟨0,[120]⟩:T4),(⟨1,[97]⟩:T4),(⟨1,[98]⟩:T4),(⟨0,[99]⟩:T4)]:Sl T4).g i)) false),(4000,.cells [.p (.str [86]),pN 1,pU 4,pU 0,pB false,pN 0,pN 0,.p (vSl 7 D7 (Sl.nil:Sl Pat)),pN 1,pU 4,pU 0,pB false,pN 0,pN 0,.p (vSl 7 D7 (Sl.nil:Sl Pat)),.p (vSl 2 A0 (Sl.of [(⟨2,0⟩:A2)]:Sl A2)),.p (vSl 6 R5 (Sl.of [(⟨0,0,(⟨1,0⟩:A2),0,0⟩:Bj)]:Sl Bj)),pN 1]),(3000,.cells [.p (.str [70]),pN 0,pU 0,pU 0,pB false,pN 0,pN 0,.p (vSl 7 D7 (Sl.nil:Sl Pat)),pN 6,pU 0,pU 0,pB false,pN 0,pN 0,.p (vSl 7 D7 (Sl.nil:Sl Pat)),.p (vSl 2 A0 (Sl.of [(⟨4,0⟩:A2)]:Sl A2)),.p (vSl 6 R5 (Sl.nil:Sl Bj)),pN 1]),(1000,.cells [.p K5,.p K5,.p K5])]⟩ (ids:=[(1000,1000),(3000,3000),(4000,4000),(25000,25000)]) ?_ (hle:=klR [(0,.fn 5 (Sl.of [(⟨-1,[114]⟩:T4),(⟨0,[120]⟩:T4),(⟨1,[97]⟩:T4),(⟨1,[98]⟩:T4),(⟨0,[99]⟩:T4)]:Sl T4).n (E9 [pI .i64 0,.str []] [(0,P7 (⟨-1,[114]⟩:T4)),(1,P7 (⟨0,[120]⟩:T4)),(2,P7 (⟨1,[97]⟩:T4)),(3,P7 (⟨1,[98]⟩:T4)),(4,P7 (⟨0,[99]⟩:T4))]) (fun i=>P7 ((Sl.of [(⟨-1,[114]⟩:T4),(⟨0,[120]⟩:T4),(⟨1,[97]⟩:T4),(⟨1,[98]⟩:T4),(⟨0,[99]⟩:T4)]:Sl T4).g i)))] (al1 ⟨rfl,(fun i hi=>match i,hi with|0,_=>rfl|1,_=>rfl|2,_=>rfl|3,_=>rfl|4,_=>rfl|_+5,hi=>absurd hi (by omega))⟩ al0));refine W7 hS (And.intro (And.intro (rfl:true=true) (rfl:true=true)) (rfl:true=true)) 31 ⟨[(30,.vec 31000),(29,.vec 30000),(28,.vec 29000),(25,.vec 25000),(0,.reg 1000 0)],[(31000,.vec E7 1 (Sl.of [1]:Sl Int).n (fun i=>cI .i64 ((Sl.of [1]:Sl Int).g i)) true),(30000,.vec E7 1 (Sl.of [0]:Sl Int).n (fun i=>cI .i64 ((Sl.of [0]:Sl Int).g i)) true),(29000,.vec Ql 18 (Sl.of [(⟨[70],Pat.mk 0 (⟨0,0⟩:A2) false 0 0 (Sl.nil:Sl Pat).n (Sl.nil:Sl Pat).g,Pat.mk 6 (⟨0,0⟩:A2) false 0 0 (Sl.nil:Sl Pat).n (Sl.nil:Sl Pat).g,(Sl.of [(⟨4,0⟩:A2)]:Sl A2),(Sl.nil:Sl Bj),1⟩:Law),(⟨[86],Pat.mk 1 (⟨4,0⟩:A2) false 0 0 (Sl.nil:Sl Pat).n (Sl.nil:Sl Pat).g,Pat.mk 1 (⟨4,0⟩:A2) false 0 0 (Sl.nil:Sl Pat).n (Sl.nil:Sl Pat).g,(Sl.of [(⟨2,0⟩:A2)]:Sl A2),(Sl.of [(⟨0,0,(⟨1,0⟩:A2),0,0⟩:Bj)]:Sl Bj),1⟩:Law)]:Sl Law).n (fun i=>C0 ((Sl.of [(⟨[70],Pat.mk 0 (⟨0,0⟩:A2) false 0 0 (Sl.nil:Sl Pat).n (Sl.nil:Sl Pat).g,Pat.mk 6 (⟨0,0⟩:A2) false 0 0 (Sl.nil:Sl Pat).n (Sl.nil:Sl Pat).g,(Sl.of [(⟨4,0⟩:A2)]:Sl A2),(Sl.nil:Sl Bj),1⟩:Law),(⟨[86],Pat.mk 1 (⟨4,0⟩:A2) false 0 0 (Sl.nil:Sl Pat).n (Sl.nil:Sl Pat).g,Pat.mk 1 (⟨4,0⟩:A2) false 0 0 (Sl.nil:Sl Pat).n (Sl.nil:Sl Pat).g,(Sl.of [(⟨2,0⟩:A2)]:Sl A2),(Sl.of [(⟨0,0,(⟨1,0⟩:A2),0,0⟩:Bj)]:Sl Bj),1⟩:Law)]:Sl Law).g i)) false),(25000,.vec MZ 2 (Sl.of [(⟨-1,[114]⟩:T4),(⟨0,[120]⟩:T4),(⟨1,[97]⟩:T4),(⟨1,[98]⟩:T4),(⟨0,[99]⟩:T4)]:Sl T4).n (fun i=>P7 ((Sl.of [(⟨-1,[114]⟩:T4),(⟨0,[120]⟩:T4),(⟨1,[97]⟩:T4),(⟨1,[98]⟩:T4),(⟨0,[99]⟩:T4)]:Sl T4).g i)) false),(1000,.cells [.p K5,.p K5,.p K5])]⟩ (ids:=[(1000,1000),(25000,25000),(29000,29000),(30000,30000),(31000,31000)]) ?_ (hle:=klR [(0,.fn 1 (Sl.of [1]:Sl Int).n (E9 [pI .i64 0] [(0,cI .i64 1)]) (fun i=>cI .i64 ((Sl.of [1]:Sl Int).g i))),(1,.fn 1 (Sl.of [0]:Sl Int).n (E9 [pI .i64 0] [(0,cI .i64 0)]) (fun i=>cI .i64 ((Sl.of [0]:Sl Int).g i))),(2,.fn 2 (Sl.of [(⟨[70],Pat.mk 0 (⟨0,0⟩:A2) false 0 0 (Sl.nil:Sl Pat).n (Sl.nil:Sl Pat).g,Pat.mk 6 (⟨0,0⟩:A2) false 0 0 (Sl.nil:Sl Pat).n (Sl.nil:Sl Pat).g,(Sl.of [(⟨4,0⟩:A2)]:Sl A2),(Sl.nil:Sl Bj),1⟩:Law),(⟨[86],Pat.mk 1 (⟨4,0⟩:A2) false 0 0 (Sl.nil:Sl Pat).n (Sl.nil:Sl Pat).g,Pat.mk 1 (⟨4,0⟩:A2) false 0 0 (Sl.nil:Sl Pat).n (Sl.nil:Sl Pat).g,(Sl.of [(⟨2,0⟩:A2)]:Sl A2),(Sl.of [(⟨0,0,(⟨1,0⟩:A2),0,0⟩:Bj)]:Sl Bj),1⟩:Law)]:Sl Law).n (E9 [.str [],pI .i64 0,pI .u32 0,pI .u32 0,.v (.bool false),pI .i64 0,pI .i64 0,K5,pI .i64 0,pI .u32 0,pI .u32 0,.v (.bool false),pI .i64 0,pI .i64 0,K5,K5,K5,pI .i64 0] [(0,C0 (⟨[70],Pat.mk 0 (⟨0,0⟩:A2) false 0 0 (Sl.nil:Sl Pat).n (Sl.nil:Sl Pat).g,Pat.mk 6 (⟨0,0⟩:A2) false 0 0 (Sl.nil:Sl Pat).n (Sl.nil:Sl Pat).g,(Sl.of [(⟨4,0⟩:A2)]:Sl A2),(Sl.nil:Sl Bj),1⟩:Law)),(1,C0 (⟨[86],Pat.mk 1 (⟨4,0⟩:A2) false 0 0 (Sl.nil:Sl Pat).n (Sl.nil:Sl Pat).g,Pat.mk 1 (⟨4,0⟩:A2) false 0 0 (Sl.nil:Sl Pat).n (Sl.nil:Sl Pat).g,(Sl.of [(⟨2,0⟩:A2)]:Sl A2),(Sl.of [(⟨0,0,(⟨1,0⟩:A2),0,0⟩:Bj)]:Sl Bj),1⟩:Law))]) (fun i=>C0 ((Sl.of [(⟨[70],Pat.mk 0 (⟨0,0⟩:A2) false 0 0 (Sl.nil:Sl Pat).n (Sl.nil:Sl Pat).g,Pat.mk 6 (⟨0,0⟩:A2) false 0 0 (Sl.nil:Sl Pat).n (Sl.nil:Sl Pat).g,(Sl.of [(⟨4,0⟩:A2)]:Sl A2),(Sl.nil:Sl Bj),1⟩:Law),(⟨[86],Pat.mk 1 (⟨4,0⟩:A2) false 0 0 (Sl.nil:Sl Pat).n (Sl.nil:Sl Pat).g,Pat.mk 1 (⟨4,0⟩:A2) false 0 0 (Sl.nil:Sl Pat).n (Sl.nil:Sl Pat).g,(Sl.of [(⟨2,0⟩:A2)]:Sl A2),(Sl.of [(⟨0,0,(⟨1,0⟩:A2),0,0⟩:Bj)]:Sl Bj),1⟩:Law)]:Sl Law).g i)))] (al1 ⟨rfl,(fun i hi=>match i,hi with|0,_=>rfl|_+1,hi=>absurd hi (by omega))⟩ (al1 ⟨rfl,(fun i hi=>match i,hi with|0,_=>rfl|_+1,hi=>absurd hi (by omega))⟩ (al1 ⟨rfl,(fun i hi=>match i,hi with|0,_=>rfl|1,_=>rfl|_+2,hi=>absurd hi (by omega))⟩ al0))));refine Zh hS (rfl:true=true) 32 32000 (k:=1) (n:=5) (e:=Om) (vw:=false) (E9 [K5] [(0,[K5]),(1,cL 1 (cI .i64) (Sl.of [0]:Sl Int)),(2,[K5]),(3,cL 1 (cI .i64) (Sl.of [1]:Sl Int)),(4,[K5])]) (fun i=>cL 1 (cI .i64) ((Sl.of [(Sl.nil:Sl Int),(Sl.of [0]:Sl Int),(Sl.nil:Sl Int),(Sl.of [1]:Sl Int),(Sl.nil:Sl Int)]:Sl (Sl Int)).g i)) (fun i hi=>match i,hi with|0,_=>leCn|1,_=>leCr _|2,_=>leCn|3,_=>leCr _|4,_=>leCn|_+5,hi=>absurd hi (by omega)) ?_;refine W7 hS trivial 32 ⟨[(31,.p (vSl 1 (cL 1 (cI .i64)) (Sl.of [(Sl.nil:Sl Int),(Sl.of [0]:Sl Int),(Sl.nil:Sl Int),(Sl.of [1]:Sl Int),(Sl.nil:Sl Int)]:Sl (Sl Int)))),(28,.p (vSl 18 C0 (Sl.of [(⟨[70],Pat.mk 0 (⟨0,0⟩:A2) false 0 0 (Sl.nil:Sl Pat).n (Sl.nil:Sl Pat).g,Pat.mk 6 (⟨0,0⟩:A2) false 0 0 (Sl.nil:Sl Pat).n (Sl.nil:Sl Pat).g,(Sl.of [(⟨4,0⟩:A2)]:Sl A2),(Sl.nil:Sl Bj),1⟩:Law),(⟨[86],Pat.mk 1 (⟨4,0⟩:A2) false 0 0 (Sl.nil:Sl Pat).n (Sl.nil:Sl Pat).g,Pat.mk 1 (⟨4,0⟩:A2) false 0 0 (Sl.nil:Sl Pat).n (Sl.nil:Sl Pat).g,(Sl.of [(⟨2,0⟩:A2)]:Sl A2),(Sl.of [(⟨0,0,(⟨1,0⟩:A2),0,0⟩:Bj)]:Sl Bj),1⟩:Law)]:Sl Law))),(25,.p (vSl 2 P7 (Sl.of [(⟨-1,[114]⟩:T4),(⟨0,[120]⟩:T4),(⟨1,[97]⟩:T4),(⟨1,[98]⟩:T4),(⟨0,[99]⟩:T4)]:Sl T4))),(0,.reg 1000 0)],[(1000,.cells [.p K5,.p K5,.p K5])]⟩ (ids:=[(1000,1000)]) ?_;cases h;exact kR hS
def I3 (N:Nat)  : Option Bool:=
 (GJ N ).bind fun y1=>
 (P6 N y1 0 1).bind fun y2=>
 (N9 N y1).bind fun y3=>
 (E5 N y1 10).bind fun y4=>
 (J7 N y1).bind fun y5=>
 (BJ N ).bind fun y6=>
 (Fw N y6).bind fun y7=>
 (BJ N ).bind fun y8=>
 (El N y8 (Sl.of [(Sl.of [(⟨2,5⟩:A2),(⟨5,2⟩:A2)]:Sl A2),(Sl.of [(⟨5,2⟩:A2),(⟨2,5⟩:A2),(⟨5,2⟩:A2)]:Sl A2)]:Sl (Sl A2))).bind fun y9=>
 lt (fun (z1:Bool)=>
  some z1
  ) fun k1=>
  if (y2.1==2) then
   if (y2.2==0) then
    (D3 N y3.1 (Sl.of [(⟨0,1⟩:B6)]:Sl B6)).bind fun y15=>
    if y15 then
     if (y3.2==0) then
      if (y4.1.Langs==2) then
       (B0 N y4.1.Has (Sl.of [1,1,3,2]:Sl Int)).bind fun y16=>
       if y16 then
        if (y4.2==0) then
         (D4 N y5.1 (Sl.of [0,1]:Sl Int)).bind fun y17=>
         if y17 then
          if (y5.2==0) then
           if (y7.1.Langs==3) then
            (B0 N y7.1.Has (Sl.of [3,2]:Sl Int)).bind fun y18=>
            if y18 then
             if (y7.2==0) then
              (B0 N y9.1.Has (Sl.of [3,4,3,4]:Sl Int)).bind fun y19=>
              if y19 then
               k1 (y9.2==0)
              else
               k1 false
             else
              k1 false
            else
             k1 false
           else
            k1 false
          else
           k1 false
         else
          k1 false
        else
         k1 false
       else
        k1 false
      else
       k1 false
     else
      k1 false
    else
     k1 false
   else
    k1 false
  else
   k1 false
theorem Z9 {N:Nat}    {y:Bool}(h:I3 N  = some y) :FunO S Kx [] [] (pB y) ([]) []:=by
 unfold I3 at h;refine A4 hS Rr ?_;refine kC hS h (RW hS hL) (fun y1 h=>?_);refine H5 hS trivial 18 2000 [pI .i64 y1.Langs,vSl 1 (cI .u64) y1.Has] ?_;obtain⟨y2,e2,h⟩:=B5 h;refine B7 hS [] (by decide:(2:Nat)<=2) (Db hS hL e2) ?_;obtain⟨y3,e3,h⟩:=B5 h;refine B7 hS [] (by decide:(2:Nat)<=2) (Dx hS hL e3) ?_;obtain⟨y4,e4,h⟩:=B5 h;refine B7 hS [] (by decide:(2:Nat)<=2) (U2 hS hL e4) ?_;refine H5 hS trivial 7 7000 [pI .i64 y4.1.Langs,vSl 1 (cI .u64) y4.1.Has] ?_;obtain⟨y5,e5,h⟩:=B5 h;refine B7 hS [] (by decide:(2:Nat)<=2) (Dc hS hL e5) ?_;refine kC hS h (HL hS hL) (fun y6 h=>?_);refine kC hS h (Qu hS hL) (fun y7 h=>?_);refine H5 hS trivial 11 11000 [pI .i64 y7.1.Langs,vSl 1 (cI .u64) y7.1.Has] ?_;refine Xl hS trivial 13000 [pI .u32 2,pI .u32 5] ?_;refine Xl hS trivial 14000 [pI .u32 5,pI .u32 2] ?_;refine I7 hS trivial [0,1,2,4,5,6,9] ?_;obtain⟨y8,e8,h⟩:=B5 h;refine Q9 trivial (HL hS hL e8) ?_;refine CL (And.intro (by decide:(2:Nat)<=2) (by decide:(2:Nat)<=2)) (x:=.sl true 2 2 (E9 [pI .u32 0,pI .u32 0] [(0,A0 (⟨2,5⟩:A2)),(1,A0 (⟨5,2⟩:A2))])) ?_;refine CL (And.intro (And.intro (by decide:(2:Nat)<=2) (by decide:(2:Nat)<=2)) (by decide:(2:Nat)<=2)) (x:=.sl true 2 3 (E9 [pI .u32 0,pI .u32 0] [(0,A0 (⟨5,2⟩:A2)),(1,A0 (⟨2,5⟩:A2)),(2,A0 (⟨5,2⟩:A2))])) ?_;refine CL trivial (x:=.sl true 1 2 (E9 [K5] [(0,[.sl true 2 2 (E9 [pI .u32 0,pI .u32 0] [(0,A0 (⟨2,5⟩:A2)),(1,A0 (⟨5,2⟩:A2))])]),(1,[.sl true 2 3 (E9 [pI .u32 0,pI .u32 0] [(0,A0 (⟨5,2⟩:A2)),(1,A0 (⟨2,5⟩:A2)),(2,A0 (⟨5,2⟩:A2))])])])) ?_;obtain⟨y9,e9,h⟩:=B5 h;refine Q9 trivial (FunO.le hS (args:=[(.p (.agg (E1 y8))),.p (.sl true 1 2 (E9 [K5] [(0,[.sl true 2 2 (E9 [pI .u32 0,pI .u32 0] [(0,A0 (⟨2,5⟩:A2)),(1,A0 (⟨5,2⟩:A2))])]),(1,[.sl true 2 3 (E9 [pI .u32 0,pI .u32 0] [(0,A0 (⟨5,2⟩:A2)),(1,A0 (⟨2,5⟩:A2)),(2,A0 (⟨5,2⟩:A2))])])]))]) (by exact⟨.inl rfl,⟨ZN rfl (fun i hi=>match i,hi with|0,_=>leC1 rfl (fun i hi=>match i,hi with|0,_=>rfl|1,_=>rfl|_+2,hi=>absurd hi (by omega))|1,_=>leC1 rfl (fun i hi=>match i,hi with|0,_=>rfl|1,_=>rfl|2,_=>rfl|_+3,hi=>absurd hi (by omega))|_+2,hi=>absurd hi (by omega)),trivial⟩⟩) (OE hS hL e9)) ?_;refine J2 trivial ?_;refine H5 hS trivial 57 15000 [pI .i64 y9.1.Langs,vSl 1 (cI .u64) y9.1.Has] ?_;refine Kr hS trivial (A7 hS) h 0 (fun z1=>⟨[(0,pB z1)],[]⟩) (fun M1 k1 hb1 h=>?_) (fun z1 h=>?_)
 ·refine kG hS h (fun h=>?_) (fun h=>?_)
  ·refine kG hS h (fun h=>?_) (fun h=>?_)
   ·refine Cu hS (rfl:true=true) ⟨[(66,.vec 67000),(64,.p (vSl 2 G7 y3.1)),(63,.p (.v (.bool true))),(15,pN y9.2),(14,.p (.ptr [pI .i64 y9.1.Langs,vSl 1 (cI .u64) y9.1.Has])),(11,pN y7.2),(10,.p (.ptr [pI .i64 y7.1.Langs,vSl 1 (cI .u64) y7.1.Has])),(9,pN y5.2),(8,.p (vSl 1 (cI .i64) y5.1)),(7,pN y4.2),(6,.p (.ptr [pI .i64 y4.1.Langs,vSl 1 (cI .u64) y4.1.Has])),(5,pN y3.2)],[(67000,.vec Io 2 (Sl.of [(⟨0,1⟩:B6)]:Sl B6).n (fun i=>G7 ((Sl.of [(⟨0,1⟩:B6)]:Sl B6).g i)) false)]⟩ (ids:=[(67000,67000)]) ?_ (hle:=klR [(11,.fn 1 (Sl.of [(⟨0,1⟩:B6)]:Sl B6).n (E9 [pI .i64 0,pI .i64 0] [(0,G7 (⟨0,1⟩:B6))]) (fun i=>G7 ((Sl.of [(⟨0,1⟩:B6)]:Sl B6).g i)))] (al1 ⟨rfl,(fun i hi=>match i,hi with|0,_=>rfl|_+1,hi=>absurd hi (by omega))⟩ al0));refine kC hS h (S0 hS hL) (fun y15 h=>?_);refine kG hS h (fun h=>?_) (fun h=>?_)
    ·refine kG hS h (fun h=>?_) (fun h=>?_)
     ·refine kG hS h (fun h=>?_) (fun h=>?_)
      ·refine Cu hS (rfl:true=true) ⟨[(81,.vec 82000),(80,.p (vSl 1 (cI .u64) y4.1.Has)),(78,.p (.v (.bool true))),(15,pN y9.2),(14,.p (.ptr [pI .i64 y9.1.Langs,vSl 1 (cI .u64) y9.1.Has])),(11,pN y7.2),(10,.p (.ptr [pI .i64 y7.1.Langs,vSl 1 (cI .u64) y7.1.Has])),(9,pN y5.2),(8,.p (vSl 1 (cI .i64) y5.1)),(7,pN y4.2)],[(82000,.vec O7 1 (Sl.of [1,1,3,2]:Sl Int).n (fun i=>cI .u64 ((Sl.of [1,1,3,2]:Sl Int).g i)) false)]⟩ (ids:=[(82000,82000)]) ?_ (hle:=klR [(9,.fn 4 (Sl.of [1,1,3,2]:Sl Int).n (E9 [pI .u64 0] [(0,cI .u64 1),(1,cI .u64 1),(2,cI .u64 3),(3,cI .u64 2)]) (fun i=>cI .u64 ((Sl.of [1,1,3,2]:Sl Int).g i)))] (al1 ⟨rfl,(fun i hi=>match i,hi with|0,_=>rfl|1,_=>rfl|2,_=>rfl|3,_=>rfl|_+4,hi=>absurd hi (by omega))⟩ al0));refine kC hS h (C9 hS hL) (fun y16 h=>?_);refine kG hS h (fun h=>?_) (fun h=>?_)
       ·refine kG hS h (fun h=>?_) (fun h=>?_)
        ·refine Cu hS (rfl:true=true) ⟨[(90,.vec 91000),(89,.p (vSl 1 (cI .i64) y5.1)),(88,.p (.v (.bool true))),(15,pN y9.2),(14,.p (.ptr [pI .i64 y9.1.Langs,vSl 1 (cI .u64) y9.1.Has])),(11,pN y7.2),(10,.p (.ptr [pI .i64 y7.1.Langs,vSl 1 (cI .u64) y7.1.Has])),(9,pN y5.2)],[(91000,.vec E7 1 (Sl.of [0,1]:Sl Int).n (fun i=>cI .i64 ((Sl.of [0,1]:Sl Int).g i)) false)]⟩ (ids:=[(91000,91000)]) ?_ (hle:=klR [(7,.fn 2 (Sl.of [0,1]:Sl Int).n (E9 [pI .i64 0] [(0,cI .i64 0),(1,cI .i64 1)]) (fun i=>cI .i64 ((Sl.of [0,1]:Sl Int).g i)))] (al1 ⟨rfl,(fun i hi=>match i,hi with|0,_=>rfl|1,_=>rfl|_+2,hi=>absurd hi (by omega))⟩ al0));refine kC hS h (P5 hS hL) (fun y17 h=>?_);refine kG hS h (fun h=>?_) (fun h=>?_)
         ·refine kG hS h (fun h=>?_) (fun h=>?_)
          ·refine kG hS h (fun h=>?_) (fun h=>?_)
           ·refine Cu hS (rfl:true=true) ⟨[(105,.vec 106000),(104,.p (vSl 1 (cI .u64) y7.1.Has)),(102,.p (.v (.bool true))),(15,pN y9.2),(14,.p (.ptr [pI .i64 y9.1.Langs,vSl 1 (cI .u64) y9.1.Has])),(11,pN y7.2)],[(106000,.vec O7 1 (Sl.of [3,2]:Sl Int).n (fun i=>cI .u64 ((Sl.of [3,2]:Sl Int).g i)) false)]⟩ (ids:=[(106000,106000)]) ?_ (hle:=klR [(5,.fn 2 (Sl.of [3,2]:Sl Int).n (E9 [pI .u64 0] [(0,cI .u64 3),(1,cI .u64 2)]) (fun i=>cI .u64 ((Sl.of [3,2]:Sl Int).g i)))] (al1 ⟨rfl,(fun i hi=>match i,hi with|0,_=>rfl|1,_=>rfl|_+2,hi=>absurd hi (by omega))⟩ al0));refine kC hS h (C9 hS hL) (fun y18 h=>?_);refine kG hS h (fun h=>?_) (fun h=>?_)
            ·refine kG hS h (fun h=>?_) (fun h=>?_)
             ·refine Cu hS (rfl:true=true) ⟨[(115,.vec 116000),(114,.p (vSl 1 (cI .u64) y9.1.Has)),(112,.p (.v (.bool true))),(15,pN y9.2)],[(116000,.vec O7 1 (Sl.of [3,4,3,4]:Sl Int).n (fun i=>cI .u64 ((Sl.of [3,4,3,4]:Sl Int).g i)) false)]⟩ (ids:=[(116000,116000)]) ?_ (hle:=klR [(3,.fn 4 (Sl.of [3,4,3,4]:Sl Int).n (E9 [pI .u64 0] [(0,cI .u64 3),(1,cI .u64 4),(2,cI .u64 3),(3,cI .u64 4)]) (fun i=>cI .u64 ((Sl.of [3,4,3,4]:Sl Int).g i)))] (al1 ⟨rfl,(fun i hi=>match i,hi with|0,_=>rfl|1,_=>rfl|2,_=>rfl|3,_=>rfl|_+4,hi=>absurd hi (by omega))⟩ al0));refine kC hS h (C9 hS hL) (fun y19 h=>?_);refine kG hS h (fun h=>?_) (fun h=>?_)
              ·exact hb1 _ [] _ (y9.2==0) trivial h
              ·exact hb1 _ [] _ false trivial h
             ·exact hb1 _ [] _ false trivial h
            ·exact hb1 _ [] _ false trivial h
           ·exact hb1 _ [] _ false trivial h
          ·exact hb1 _ [] _ false trivial h
         ·exact hb1 _ [] _ false trivial h
        ·exact hb1 _ [] _ false trivial h
       ·exact hb1 _ [] _ false trivial h
      ·exact hb1 _ [] _ false trivial h
     ·exact hb1 _ [] _ false trivial h
    ·exact hb1 _ [] _ false trivial h
   ·exact hb1 _ [] _ false trivial h
  ·exact hb1 _ [] _ false trivial h
 ·cases h;exact kR hS
end Go.AM
namespace Go.AM
open IntKind (wrap)
open Go.Proofs
set_option maxRecDepth 10000
set_option maxHeartbeats 2000000
variable {S:Y7}(hS:H0 S Tryz.prog) (hL:Oo S)
include hS hL
def Dy (N:Nat)(p_t:A1):Option Bool:=
 some (decide ((p_t.Has.n:Int)<=100))
theorem Qv {N:Nat}{p_t:A1}{y:Bool}(h:Dy N p_t=some y) :FunO S PT [.p (.agg (A8 p_t))] [] (pB y) ([]) []:=by unfold Dy at h;refine A4 hS VJ ?_;cases h;exact kR hS
def AJ (N:Nat)(p_t:A1):Option C8:=
 (F6 N p_t.Has).bind fun y1=>
 some (⟨p_t.Langs,y1⟩:C8)
theorem Ln {N:Nat}{p_t:A1}{y:C8}(h:AJ N p_t=some y) :FunO S Ky [.p (.agg (A8 p_t))] [] (.p (.agg (R4 y))) ([]) []:=by unfold AJ at h;refine A4 hS Rs ?_;refine H5 hS trivial 2 2000 [pI .i64 p_t.Langs,vSl 1 (cI .u64) p_t.Has] ?_;refine I7 hS trivial [1,3] ?_;obtain⟨y1,e1,h⟩:=B5 h;refine VB [] trivial (AE hS hL e1) ?_;refine J2 trivial ?_;obtain rfl:=B8 h;exact A6 hS trivial ⟨[(2,.reg 3000 0)],[(3000,.cells [pN p_t.Langs,.p (vSl 1 (cI .u64) y1)])]⟩ [] (ids:=[(3000,3000)]) ⟨rfl,rfl,rfl⟩
def BM (N:Nat)(p_t:A1)(p_r:C8):Option Bool:=
 lt (fun (z1:Bool)=>
  some z1
  ) fun k1=>
  if (p_t.Langs==p_r.Langs) then
   (B0 N p_t.Has p_r.Has).bind fun y2=>
   k1 y2
  else
   k1 false
theorem Nb {N:Nat}{p_t:A1}{p_r:C8}{y:Bool}(h:BM N p_t p_r=some y) :FunO S MT [.p (.agg (A8 p_t)),.p (.agg (R4 p_r))] [] (pB y) ([]) []:=by
 unfold BM at h;refine A4 hS TV ?_;refine Kr hS trivial (A7 hS) h 0 (fun z1=>⟨[(4,pB z1)],[]⟩) (fun M1 k1 hb1 h=>?_) (fun z1 h=>?_)
 ·refine kG hS h (fun h=>?_) (fun h=>?_)
  ·refine kC hS h (C9 hS hL) (fun y2 h=>?_);exact hb1 _ [] _ y2 trivial h
  ·exact hb1 _ [] _ false trivial h
 ·cases h;exact kR hS
def I4 (N:Nat)(p_set:Int)(p_k:Int):Option Bool:=
 if (0:Int)<=p_k then
  some ((A9 .and .u64 (shI .shr .u64 p_set p_k) 1)==1)
 else none
theorem At {N:Nat}{p_set:Int}{p_k:Int}{y:Bool}(h:I4 N p_set p_k=some y) :FunO S SP [.p (pI .u64 p_set),pN p_k] [] (pB y) ([]) []:=by unfold I4 at h;refine A4 hS Xw ?_;obtain⟨c1,h⟩:=G9 h;obtain rfl:=B8 h;exact Rp hS c1 [] ⟨rfl,rfl,rfl⟩
def O6 (N:Nat)(p_t:C8):Option Int:=
 if ((decide (p_t.Langs<0))||(decide (32<p_t.Langs))) then
  some 3
 else
  if (decide (64<(p_t.Has.n:Int))) then
   some 12
  else
   Co N (fun self3 (x2:Int)=>
    if (decide (x2<(p_t.Has.n:Int))) then
     Co N (fun self4 (x4:Int)=>
      if (decide (x4<64)) then
       if ((0:Int)<=x2/\x2<(p_t.Has.n:Int))then
        (I4 N (p_t.Has.g x2.toNat) x4).bind fun y9=>
        if y9 then
         some 2
        else
         self4 (wrap .i64 (x4+1))
       else none
      else
       self3 (wrap .i64 (x2+1))
      ) p_t.Langs
    else
     some 0
    ) 0
theorem Em {N:Nat}{p_t:C8}{y:Int}(h:O6 N p_t=some y) :FunO S KA [.p (.agg (R4 p_t))] [] (pN y) ([]) []:=by
 unfold O6 at h;refine A4 hS Rt ?_;refine kB hS (A7 hS) trivial trivial 4 (.o (.a (decide (p_t.Langs<0))) (.a (decide (32<p_t.Langs)))) ?_;refine kI hS h (fun h=>?_) (fun h=>?_)
 ·cases h;exact kR hS
 ·refine kI hS h (fun h=>?_) (fun h=>?_)
  ·cases h;exact kR hS
  ·refine W6 hS trivial h (fun x2=>⟨[(3,pN x2),(1,.reg 2000 0)],[(2000,.cells [pN p_t.Langs,.p (vSl 1 (cI .u64) p_t.Has)])]⟩) (ids:=[(2000,2000)]) (fun _ _ _ _ _ self3 x2 hb3 h=>?_);refine kI hS h (fun h=>?_) (fun h=>?_)
   ·refine W6 hS trivial h (fun x4=>⟨[(4,pN x4),(3,pN x2),(1,.reg 2000 0)],[(2000,.cells [pN p_t.Langs,.p (vSl 1 (cI .u64) p_t.Has)])]⟩) (ids:=[(2000,2000)]) (fun _ _ _ _ _ self4 x4 hb4 h=>?_);refine kI hS h (fun h=>?_) (fun h=>?_)
    ·obtain⟨c31,h⟩:=G9 h;obtain⟨y9,e9,h⟩:=B5 h;refine B7 hS [] c31 (At hS hL e9) ?_;refine kI hS h (fun h=>?_) (fun h=>?_)
     ·cases h;exact kR hS
     ·exact hb4 _ [(2000,2000)] _ (wrap .i64 (x4+1)) trivial h
    ·exact hb3 _ [(2000,2000)] _ (wrap .i64 (x2+1)) trivial h
   ·cases h;exact kR hS
def AK (N:Nat)(p_t:C8)(p_set:Int):Option Int:=
 Dq N (fun self1 (x1:Int) (x2:Int)=>
  if (decide (x2<p_t.Langs)) then
   (I4 N p_set x2).bind fun y3=>
   if y3 then
    self1 (wrap .i64 (x1+1)) (wrap .i64 (x2+1))
   else
    self1 x1 (wrap .i64 (x2+1))
  else
   some x1
  ) 0 0
theorem Nc {N:Nat}{p_t:C8}{p_set:Int}{y:Int}(h:AK N p_t p_set=some y) :FunO S MW [.p (.agg (R4 p_t)),.p (pI .u64 p_set)] [] (pN y) ([]) []:=by
 unfold AK at h;refine A4 hS TY ?_;refine N0 hS trivial h (fun x1 x2=>⟨[(6,pN x2),(5,pN x1),(2,.reg 3000 0),(1,.p (pI .u64 p_set))],[(3000,.cells [pN p_t.Langs,.p (vSl 1 (cI .u64) p_t.Has)])]⟩) (ids:=[(3000,3000)]) (fun _ _ _ _ _ self1 x1 x2 hb1 h=>?_);refine kI hS h (fun h=>?_) (fun h=>?_)
 ·refine kC hS h (At hS hL) (fun y3 h=>?_);refine kI hS h (fun h=>?_) (fun h=>?_)
  ·exact hb1 _ [(3000,3000)] _ (wrap .i64 (x1+1)) (wrap .i64 (x2+1)) trivial h
  ·exact hb1 _ [(3000,3000)] _ x1 (wrap .i64 (x2+1)) trivial h
 ·cases h;exact kR hS
def Dz (N:Nat)(p_t:C8)(p_x:Int)(p_y:Int):Option Bool:=
 Af6 N (fun self1 (x4:Bool) (x5:Bool) (x6:Bool) (x7:Int)=>
  if (decide (x7<p_t.Langs)) then
   lt (fun (z7:Bool)=>
    lt (fun (z8:Bool)=>
     lt (fun (z9:Bool)=>
      self1 z7 z8 z9 (wrap .i64 (x7+1))
      ) fun k9=>
      if x6 then
       k9 true
      else
       (I4 N p_x x7).bind fun y32=>
       if (!y32) then
        (I4 N p_y x7).bind fun y33=>
        k9 y33
       else
        k9 false
     ) fun k8=>
     if x5 then
      k8 true
     else
      (I4 N p_x x7).bind fun y28=>
      if y28 then
       (I4 N p_y x7).bind fun y29=>
       k8 (!y29)
      else
       k8 false
    ) fun k7=>
    if x4 then
     k7 true
    else
     (I4 N p_x x7).bind fun y24=>
     if y24 then
      (I4 N p_y x7).bind fun y25=>
      k7 y25
     else
      k7 false
  else
   some (((!x4)||(!x5))||(!x6))
  ) false false false 0
theorem VT {N:Nat}{p_t:C8}{p_x:Int}{p_y:Int}{y:Bool}(h:Dz N p_t p_x p_y=some y) :FunO S PY [.p (.agg (R4 p_t)),.p (pI .u64 p_x),.p (pI .u64 p_y)] [] (pB y) ([]) []:=by
 unfold Dz at h;refine A4 hS VK ?_;refine Ye hS trivial h (fun x4 x5 x6 x7=>⟨[(10,pN x7),(9,pB x6),(8,pB x5),(7,pB x4),(3,.reg 4000 0),(2,.p (pI .u64 p_y)),(1,.p (pI .u64 p_x))],[(4000,.cells [pN p_t.Langs,.p (vSl 1 (cI .u64) p_t.Has)])]⟩) (ids:=[(4000,4000)]) (fun _ _ _ _ _ self1 x4 x5 x6 x7 hb7 h=>?_);refine kI hS h (fun h=>?_) (fun h=>?_)
 ·refine Kr hS trivial (A7 hS) h 0 (fun z7=>⟨[(10,pN x7),(9,pB x6),(8,pB x5),(7,pB z7),(3,.reg 4000 0),(2,.p (pI .u64 p_y)),(1,.p (pI .u64 p_x))],[(4000,.cells [pN p_t.Langs,.p (vSl 1 (cI .u64) p_t.Has)])]⟩) (fun M7 k7 hb8 h=>?_) (fun z7 h=>?_)
  ·refine kG hS h (fun h=>?_) (fun h=>?_)
   ·exact hb8 _ [(4000,4000)] _ true trivial h
   ·refine kC hS h (At hS hL) (fun y24 h=>?_);refine kG hS h (fun h=>?_) (fun h=>?_)
    ·refine kC hS h (At hS hL) (fun y25 h=>?_);exact hb8 _ [(4000,4000)] _ y25 trivial h
    ·exact hb8 _ [(4000,4000)] _ false trivial h
  ·refine Kr hS trivial (A7 hS) h 0 (fun z8=>⟨[(10,pN x7),(9,pB x6),(8,pB z8),(7,pB z7),(3,.reg 4000 0),(2,.p (pI .u64 p_y)),(1,.p (pI .u64 p_x))],[(4000,.cells [pN p_t.Langs,.p (vSl 1 (cI .u64) p_t.Has)])]⟩) (fun M8 k8 hb9 h=>?_) (fun z8 h=>?_)
   ·refine kG hS h (fun h=>?_) (fun h=>?_)
    ·exact hb9 _ [(4000,4000)] _ true trivial h
    ·refine kC hS h (At hS hL) (fun y28 h=>?_);refine kG hS h (fun h=>?_) (fun h=>?_)
     ·refine kC hS h (At hS hL) (fun y29 h=>?_);exact hb9 _ [(4000,4000)] _ (!y29) trivial h
     ·exact hb9 _ [(4000,4000)] _ false trivial h
   ·refine Kr hS trivial (A7 hS) h 0 (fun z9=>⟨[(10,pN x7),(9,pB z9),(8,pB z8),(7,pB z7),(3,.reg 4000 0),(2,.p (pI .u64 p_y)),(1,.p (pI .u64 p_x))],[(4000,.cells [pN p_t.Langs,.p (vSl 1 (cI .u64) p_t.Has)])]⟩) (fun M9 k9 hb10 h=>?_) (fun z9 h=>?_)
    ·refine kG hS h (fun h=>?_) (fun h=>?_)
     ·exact hb10 _ [(4000,4000)] _ true trivial h
     ·refine kC hS h (At hS hL) (fun y32 h=>?_);refine kG hS h (fun h=>?_) (fun h=>?_)
      ·refine kC hS h (At hS hL) (fun y33 h=>?_);exact hb10 _ [(4000,4000)] _ y33 trivial h
      ·exact hb10 _ [(4000,4000)] _ false trivial h
    ·exact hb7 _ [(4000,4000)] _ z7 z8 z9 (wrap .i64 (x7+1)) trivial h
 ·refine kB hS (A7 hS) trivial trivial 7 (.o (.o (.a (!x4)) (.a (!x5))) (.a (!x6))) ?_;cases h;exact kR hS
def U3 (N:Nat)(p_t:C8):Option ((Sl B6)×Int):=
 (O6 N p_t).bind fun y1=>
 if (y1 != 0) then
  some ((Sl.nil:Sl B6),y1)
 else
  Dq N (fun self3 (x3:Sl B6) (x4:Int)=>
   if (decide (x4<(p_t.Has.n:Int))) then
    Dq N (fun self4 (x7:Sl B6) (x8:Int)=>
     if (decide (x8<(p_t.Has.n:Int))) then
      if (((0:Int)<=x4/\x4<(p_t.Has.n:Int))/\((0:Int)<=x8/\x8<(p_t.Has.n:Int)))then
       (Dz N p_t (p_t.Has.g x4.toNat) (p_t.Has.g x8.toNat)).bind fun y10=>
       if (!y10) then
        if ((x7.n+(Sl.of [(⟨x4,x8⟩:B6)]:Sl B6).n)*16<=140737488355328/\x7.n+(Sl.of [(⟨x4,x8⟩:B6)]:Sl B6).n<=140737488355328)then
         self4 (x7.push (⟨x4,x8⟩:B6)) (wrap .i64 (x8+1))
        else none
       else
        self4 x7 (wrap .i64 (x8+1))
      else none
     else
      self3 x7 (wrap .i64 (x4+1))
     ) x3 (wrap .i64 (x4+1))
   else
    some (x3,0)
   ) (Sl.nil:Sl B6) 0
theorem Lo {N:Nat}{p_t:C8}{y:(Sl B6)×Int}(h:U3 N p_t=some y) :FunO S EZ [.p (.agg (R4 p_t))] [] (.tup [.p (vSl 2 G7 y.1),pN y.2]) ([]) []:=by
 unfold U3 at h;refine A4 hS Kz ?_;refine H5 hS trivial 2 2000 [pI .i64 p_t.Langs,vSl 1 (cI .u64) p_t.Has] ?_;obtain⟨y1,e1,h⟩:=B5 h;refine B7 hS [] (by decide:(2:Nat)<=2) (Em hS hL e1) ?_;refine kI hS h (fun h=>?_) (fun h=>?_)
 ·obtain rfl:=B8 h;exact A6 hS trivial ⟨[(3,pN y1),(2,.p (vSl 2 G7 (Sl.nil:Sl B6)))],[]⟩ [] (ids:=[]) ⟨rfl,rfl,rfl⟩
 ·refine N0 hS trivial h (fun x3 x4=>⟨[(6,pN x4),(5,.vec 6501),(1,.p (.ptr [pI .i64 p_t.Langs,vSl 1 (cI .u64) p_t.Has]))],[(6501,.vec Io 2 x3.n (fun i=>G7 (x3.g i)) false)]⟩) (ids:=[]) (fun _ _ _ _ _ self3 x3 x4 hb3 h=>?_);refine kI hS h (fun h=>?_) (fun h=>?_)
  ·refine N0 hS trivial h (fun x7 x8=>⟨[(7,pN x8),(6,pN x4),(5,.vec 6502),(1,.p (.ptr [pI .i64 p_t.Langs,vSl 1 (cI .u64) p_t.Has]))],[(6502,.vec Io 2 x7.n (fun i=>G7 (x7.g i)) false)]⟩) (ids:=[(6502,6501)]) (fun _ _ _ _ _ self4 x7 x8 hb4 h=>?_);refine kI hS h (fun h=>?_) (fun h=>?_)
   ·refine I7 hS trivial [0,2,4,5,7,9,10,11] ?_;obtain⟨c32,h⟩:=G9 h;obtain⟨y10,e10,h⟩:=B5 h;refine Q9 (And.intro (And.intro (by decide:(2:Nat)<=2) c32.1) c32.2) (VT hS hL e10) ?_;refine J2 trivial ?_;refine kI hS h (fun h=>?_) (fun h=>?_)
    ·obtain⟨c34,h⟩:=G9 h;exact hb4 _ [(6502,48000)] _ (x7.push (⟨x4,x8⟩:B6)) (wrap .i64 (x8+1)) (And.intro (rfl:true=true) c34) h (hle:=klR [(3,.fn (x7.n+1) (x7.push (⟨x4,x8⟩:B6)).n (Ay x7.n (fun i=>G7 (x7.g i)) (E9 [pI .i64 0,pI .i64 0] [(0,G7 (⟨x4,x8⟩:B6))])) (fun i=>G7 ((x7.push (⟨x4,x8⟩:B6)).g i)))] (al1 ⟨rfl,LA (c:=G7) (v:=x7) (x:=(⟨x4,x8⟩:B6)) (z:=[(pI .i64 0),pI .i64 0]) same rfl rfl⟩ al0))
    ·exact hb4 _ [(6502,6502)] _ x7 (wrap .i64 (x8+1)) trivial h
   ·exact hb3 _ [(6501,6502)] _ x7 (wrap .i64 (x4+1)) trivial h
  ·obtain rfl:=B8 h;exact A6 hS trivial ⟨[(3,pN 0),(2,.p (vSl 2 G7 x3))],[]⟩ [] (ids:=[]) ⟨rfl,rfl,rfl⟩
def V9 (N:Nat)(p_t:C8)(p_langs:Int):Option (C8×Int):=
 (O6 N p_t).bind fun y1=>
 if (y1 != 0) then
  some ((⟨0,(Sl.nil:Sl Int)⟩:C8),y1)
 else
  Co N (fun self1 (x1:Int)=>
   if (decide (x1<64)) then
    (I4 N p_langs x1).bind fun y4=>
    if y4 then
     some ((⟨0,(Sl.nil:Sl Int)⟩:C8),2)
    else
     self1 (wrap .i64 (x1+1))
   else
    (AK N p_t p_langs).bind fun y5=>
    Dq N (fun self4 (x5:Sl Int) (x6:Int)=>
     if (decide (x6<(p_t.Has.n:Int))) then
      WZ N (fun self5 (x10:Int) (x11:Int) (x12:Int)=>
       if (decide (x12<p_t.Langs)) then
        (I4 N p_langs x12).bind fun y22=>
        if y22 then
         if ((0:Int)<=x6/\x6<(p_t.Has.n:Int))then
          (I4 N (p_t.Has.g x6.toNat) x12).bind fun y23=>
          if y23 then
           if (0:Int)<=x11 then
            self5 (A9 .or .u64 x10 (shI .shl .u64 1 x11)) (wrap .i64 (x11+1)) (wrap .i64 (x12+1))
           else none
          else
           self5 x10 (wrap .i64 (x11+1)) (wrap .i64 (x12+1))
         else none
        else
         self5 x10 x11 (wrap .i64 (x12+1))
       else
        if ((x5.n+(Sl.of [x10]:Sl Int).n)*8<=140737488355328/\x5.n+(Sl.of [x10]:Sl Int).n<=140737488355328)then
         self4 (x5.push x10) (wrap .i64 (x6+1))
        else none
       ) 0 0 0
     else
      some ((⟨y5,x5⟩:C8),0)
     ) (Sl.nil:Sl Int) 0
   ) p_t.Langs
theorem Uj {N:Nat}{p_t:C8}{p_langs:Int}{y:C8×Int}(h:V9 N p_t p_langs=some y) :FunO S MU [.p (.agg (R4 p_t)),.p (pI .u64 p_langs)] [] (.tup [.p (.agg (R4 y.1)),pN y.2]) ([]) []:=by
 unfold V9 at h;refine A4 hS TW ?_;refine kC hS h (Em hS hL) (fun y1 h=>?_);refine kI hS h (fun h=>?_) (fun h=>?_)
 ·obtain rfl:=B8 h;exact A6 hS trivial ⟨[(5,pN y1),(4,.reg 5000 0)],[(5000,.cells [pN 0,.p (vSl 1 (cI .u64) (Sl.nil:Sl Int))])]⟩ [] (ids:=[(5000,5000)]) ⟨rfl,rfl,rfl⟩
 ·refine W6 hS trivial h (fun x1=>⟨[(7,pN x1),(4,.reg 5000 0),(2,.reg 3000 0),(1,.p (pI .u64 p_langs))],[(5000,.cells [pN 0,.p K5]),(3000,.cells [pN p_t.Langs,.p (vSl 1 (cI .u64) p_t.Has)])]⟩) (ids:=[(3000,3000),(5000,5000)]) (fun _ _ _ _ _ self1 x1 hb1 h=>?_);refine kI hS h (fun h=>?_) (fun h=>?_)
  ·refine kC hS h (At hS hL) (fun y4 h=>?_);refine kI hS h (fun h=>?_) (fun h=>?_)
   ·obtain rfl:=B8 h;exact A6 hS trivial ⟨[(5,pN 2),(4,.reg 5000 0)],[(5000,.cells [pN 0,.p (vSl 1 (cI .u64) (Sl.nil:Sl Int))])]⟩ [] (ids:=[(5000,5000)]) ⟨rfl,rfl,rfl⟩
   ·exact hb1 _ [(3000,3000),(5000,5000)] _ (wrap .i64 (x1+1)) trivial h
  ·refine kC hS h (Nc hS hL) (fun y5 h=>?_);refine N0 hS trivial h (fun x5 x6=>⟨[(9,pN x6),(8,.reg 9000 0),(4,.reg 5000 0),(2,.reg 3000 0),(1,.p (pI .u64 p_langs))],[(9500,.vec O7 1 x5.n (fun i=>cI .u64 (x5.g i)) false),(9000,.cells [pN y5,.vec 9500]),(5000,.cells [pN 0,.p K5]),(3000,.cells [pN p_t.Langs,.p (vSl 1 (cI .u64) p_t.Has)])]⟩) (ids:=[(3000,3000),(5000,5000),(9000,9000)]) (fun _ _ _ _ _ self4 x5 x6 hb4 h=>?_);refine kI hS h (fun h=>?_) (fun h=>?_)
   ·refine Ks hS trivial h (fun x10 x11 x12=>⟨[(12,pN x12),(11,pN x11),(10,.p (pI .u64 x10)),(9,pN x6),(8,.reg 9000 0),(4,.reg 5000 0),(2,.reg 3000 0),(1,.p (pI .u64 p_langs))],[(9500,.vec O7 1 x5.n (fun i=>cI .u64 (x5.g i)) false),(9000,.cells [pN y5,.vec 9500]),(5000,.cells [pN 0,.p K5]),(3000,.cells [pN p_t.Langs,.p (vSl 1 (cI .u64) p_t.Has)])]⟩) (ids:=[(3000,3000),(5000,5000),(9000,9000),(9500,9500)]) (fun _ _ _ _ _ self5 x10 x11 x12 hb5 h=>?_);refine kI hS h (fun h=>?_) (fun h=>?_)
    ·refine kC hS h (At hS hL) (fun y22 h=>?_);refine kI hS h (fun h=>?_) (fun h=>?_)
     ·obtain⟨c47,h⟩:=G9 h;obtain⟨y23,e23,h⟩:=B5 h;refine B7 hS [] c47 (At hS hL e23) ?_;refine kI hS h (fun h=>?_) (fun h=>?_)
      ·obtain⟨c49,h⟩:=G9 h;exact hb5 _ [(3000,3000),(5000,5000),(9000,9000),(9500,9500)] _ (A9 .or .u64 x10 (shI .shl .u64 1 x11)) (wrap .i64 (x11+1)) (wrap .i64 (x12+1)) c49 h
      ·exact hb5 _ [(3000,3000),(5000,5000),(9000,9000),(9500,9500)] _ x10 (wrap .i64 (x11+1)) (wrap .i64 (x12+1)) trivial h
     ·exact hb5 _ [(3000,3000),(5000,5000),(9000,9000),(9500,9500)] _ x10 x11 (wrap .i64 (x12+1)) trivial h
    ·obtain⟨c50,h⟩:=G9 h;exact hb4 _ [(3000,3000),(5000,5000),(9000,9000),(9500,67000)] _ (x5.push x10) (wrap .i64 (x6+1)) (And.intro (rfl:true=true) c50) h (hle:=klR [(2,.fn (x5.n+1) (x5.push x10).n (Ay x5.n (fun i=>cI .u64 (x5.g i)) (E9 [pI .u64 0] [(0,cI .u64 x10)])) (fun i=>cI .u64 ((x5.push x10).g i)))] (al1 ⟨rfl,LA (c:=cI .u64) (v:=x5) (x:=x10) (z:=[(pI .u64 0)]) same rfl rfl⟩ al0))
   ·obtain rfl:=B8 h;exact A6 hS trivial ⟨[(5,pN 0),(4,.reg 5000 0)],[(5000,.cells [pN y5,.p (vSl 1 (cI .u64) x5)])]⟩ [] (ids:=[(5000,5000)]) ⟨rfl,rfl,rfl⟩
def Bf (N:Nat)(p_t:C8):Option ((Sl Int)×Int):=
 (O6 N p_t).bind fun y1=>
 if (y1 != 0) then
  some ((Sl.nil:Sl Int),y1)
 else
  Dq N (fun self1 (x1:Sl Int) (x2:Int)=>
   if (decide (x2<(p_t.Has.n:Int))) then
    if ((0:Int)<=x2/\x2<(p_t.Has.n:Int))then
     (AK N p_t (p_t.Has.g x2.toNat)).bind fun y4=>
     if ((decide (2<=y4))&&(decide (y4<p_t.Langs))) then
      if ((x1.n+(Sl.of [x2]:Sl Int).n)*8<=140737488355328/\x1.n+(Sl.of [x2]:Sl Int).n<=140737488355328)then
       self1 (x1.push x2) (wrap .i64 (x2+1))
      else none
     else
      self1 x1 (wrap .i64 (x2+1))
    else none
   else
    some (x1,0)
   ) (Sl.nil:Sl Int) 0
theorem Qw {N:Nat}{p_t:C8}{y:(Sl Int)×Int}(h:Bf N p_t=some y) :FunO S IQ [.p (.agg (R4 p_t))] [] (.tup [.p (vSl 1 (cI .i64) y.1),pN y.2]) ([]) []:=by
 unfold Bf at h;refine A4 hS PU ?_;refine H5 hS trivial 2 2000 [pI .i64 p_t.Langs,vSl 1 (cI .u64) p_t.Has] ?_;obtain⟨y1,e1,h⟩:=B5 h;refine B7 hS [] (by decide:(2:Nat)<=2) (Em hS hL e1) ?_;refine kI hS h (fun h=>?_) (fun h=>?_)
 ·obtain rfl:=B8 h;exact A6 hS trivial ⟨[(3,pN y1),(2,.p (vSl 1 (cI .i64) (Sl.nil:Sl Int)))],[]⟩ [] (ids:=[]) ⟨rfl,rfl,rfl⟩
 ·refine N0 hS trivial h (fun x1 x2=>⟨[(6,pN x2),(5,.vec 6500),(1,.p (.ptr [pI .i64 p_t.Langs,vSl 1 (cI .u64) p_t.Has]))],[(6500,.vec E7 1 x1.n (fun i=>cI .i64 (x1.g i)) false)]⟩) (ids:=[]) (fun _ _ _ _ _ self1 x1 x2 hb1 h=>?_);refine kI hS h (fun h=>?_) (fun h=>?_)
  ·refine I7 hS trivial [0,2,4,5,6] ?_;obtain⟨c9,h⟩:=G9 h;obtain⟨y4,e4,h⟩:=B5 h;refine Q9 (And.intro (by decide:(2:Nat)<=2) c9) (Nc hS hL e4) ?_;refine J2 trivial ?_;refine kB hS (A7 hS) trivial trivial 5 (.n (.a (decide (2<=y4))) (.a (decide (y4<p_t.Langs)))) ?_;refine kI hS h (fun h=>?_) (fun h=>?_)
   ·obtain⟨c11,h⟩:=G9 h;exact hb1 _ [(6500,39000)] _ (x1.push x2) (wrap .i64 (x2+1)) (And.intro (rfl:true=true) c11) h (hle:=klR [(2,.fn (x1.n+1) (x1.push x2).n (Ay x1.n (fun i=>cI .i64 (x1.g i)) (E9 [pI .i64 0] [(0,cI .i64 x2)])) (fun i=>cI .i64 ((x1.push x2).g i)))] (al1 ⟨rfl,LA (c:=cI .i64) (v:=x1) (x:=x2) (z:=[(pI .i64 0)]) same rfl rfl⟩ al0))
   ·exact hb1 _ [(6500,6500)] _ x1 (wrap .i64 (x2+1)) trivial h
  ·obtain rfl:=B8 h;exact A6 hS trivial ⟨[(3,pN 0),(2,.p (vSl 1 (cI .i64) x1))],[]⟩ [] (ids:=[]) ⟨rfl,rfl,rfl⟩
def W3 (N:Nat)(p_t:A1):Option Bool:=
 (Dy N p_t).bind fun y1=>
 if (!y1) then
  (I3 N ).bind fun y2=>
  some y2
 else
  (AJ N p_t).bind fun y3=>
  (J7 N p_t).bind fun y4=>
  (Bf N y3).bind fun y5=>
  (N9 N p_t).bind fun y6=>
  (U3 N y3).bind fun y7=>
  (C4 N p_t).bind fun y8=>
  (O6 N y3).bind fun y9=>
  if (y8==y9) then
   (D4 N y4.1 y5.1).bind fun y10=>
   if y10 then
    if (y4.2==y5.2) then
     (D3 N y6.1 y7.1).bind fun y11=>
     if y11 then
      if (y6.2==y7.2) then
       (BM N p_t y3).bind fun y12=>
       if y12 then
        (I3 N ).bind fun y13=>
        some y13
       else
        some false
      else
       some false
     else
      some false
    else
     some false
   else
    some false
  else
   some false
theorem HT {N:Nat}{p_t:A1}{y:Bool}(h:W3 N p_t=some y) :FunO S Az [.p (.agg (A8 p_t))] [] (pB y) ([]) []:=by
 unfold W3 at h;refine A4 hS De ?_;refine H5 hS trivial 2 2000 [pI .i64 p_t.Langs,vSl 1 (cI .u64) p_t.Has] ?_;obtain⟨y1,e1,h⟩:=B5 h;refine B7 hS [] (by decide:(2:Nat)<=2) (Qv hS hL e1) ?_;refine kI hS h (fun h=>?_) (fun h=>?_)
 ·refine kC hS h (Z9 hS hL) (fun y2 h=>?_);cases h;exact kR hS
 ·obtain⟨y3,e3,h⟩:=B5 h;refine B7 hS [] (by decide:(2:Nat)<=2) (Ln hS hL e3) ?_;refine H5 hS trivial 19 4000 [pI .i64 y3.Langs,vSl 1 (cI .u64) y3.Has] ?_;obtain⟨y4,e4,h⟩:=B5 h;refine B7 hS [] (by decide:(2:Nat)<=2) (Dc hS hL e4) ?_;obtain⟨y5,e5,h⟩:=B5 h;refine B7 hS [] (by decide:(2:Nat)<=2) (Qw hS hL e5) ?_;obtain⟨y6,e6,h⟩:=B5 h;refine B7 hS [] (by decide:(2:Nat)<=2) (Dx hS hL e6) ?_;obtain⟨y7,e7,h⟩:=B5 h;refine B7 hS [] (by decide:(2:Nat)<=2) (Lo hS hL e7) ?_;refine I7 hS trivial [0,1,2,3,8,18,26,27,28,31] ?_;obtain⟨y8,e8,h⟩:=B5 h;refine Q9 (by decide:(2:Nat)<=2) (P2 hS hL e8) ?_;obtain⟨y9,e9,h⟩:=B5 h;refine Q9 (by decide:(2:Nat)<=2) (Em hS hL e9) ?_;refine Bi trivial (b:=y8==y9) (fun c2=>?_) (fun c2=>?_)
  ·replace h:=itT c2 h;obtain⟨y10,e10,h⟩:=B5 h;refine Q9 trivial (P5 hS hL e10) ?_;refine Bi trivial (b:=y10) (fun c3=>?_) (fun c3=>?_)
   ·replace h:=itT c3 h;refine Bi trivial (b:=y4.2==y5.2) (fun c4=>?_) (fun c4=>?_)
    ·replace h:=itT c4 h;obtain⟨y11,e11,h⟩:=B5 h;refine Q9 trivial (S0 hS hL e11) ?_;refine Bi trivial (b:=y11) (fun c5=>?_) (fun c5=>?_)
     ·replace h:=itT c5 h;refine Bi trivial (b:=y6.2==y7.2) (fun c6=>?_) (fun c6=>?_)
      ·replace h:=itT c6 h;obtain⟨y12,e12,h⟩:=B5 h;refine Q9 (And.intro (by decide:(2:Nat)<=2) (by decide:(2:Nat)<=2)) (Nb hS hL e12) ?_;refine Bi trivial (b:=y12) (fun c7=>?_) (fun c7=>?_)
       ·replace h:=itT c7 h;obtain⟨y13,e13,h⟩:=B5 h;refine Q9 trivial (Z9 hS hL e13) ?_;refine J2 trivial ?_;cases h;exact kR hS
       ·replace h:=itF c7 h;refine J2 trivial ?_;cases h;exact kR hS
      ·replace h:=itF c6 h;refine J2 trivial ?_;cases h;exact kR hS
     ·replace h:=itF c5 h;refine J2 trivial ?_;cases h;exact kR hS
    ·replace h:=itF c4 h;refine J2 trivial ?_;cases h;exact kR hS
   ·replace h:=itF c3 h;refine J2 trivial ?_;cases h;exact kR hS
  ·replace h:=itF c2 h;refine J2 trivial ?_;cases h;exact kR hS
def Au (N:Nat)(p_t:A1)(p_langs:Int):Option Bool:=
 (Dy N p_t).bind fun y1=>
 if (!y1) then
  (I3 N ).bind fun y2=>
  some y2
 else
  (E5 N p_t p_langs).bind fun y3=>
  (AJ N p_t).bind fun y4=>
  (V9 N y4 p_langs).bind fun y5=>
  (BM N y3.1 y5.1).bind fun y6=>
  lt (fun (z1:Bool)=>
   some z1
   ) fun k1=>
   if y6 then
    if (y3.2==y5.2) then
     (I3 N ).bind fun y8=>
     k1 y8
    else
     k1 false
   else
    k1 false
theorem JJ {N:Nat}{p_t:A1}{p_langs:Int}{y:Bool}(h:Au N p_t p_langs=some y) :FunO S BO [.p (.agg (A8 p_t)),.p (pI .u64 p_langs)] [] (pB y) ([]) []:=by
 unfold Au at h;refine A4 hS EI ?_;refine kC hS h (Qv hS hL) (fun y1 h=>?_);refine kI hS h (fun h=>?_) (fun h=>?_)
 ·refine kC hS h (Z9 hS hL) (fun y2 h=>?_);cases h;exact kR hS
 ·refine kC hS h (U2 hS hL) (fun y3 h=>?_);refine kC hS h (Ln hS hL) (fun y4 h=>?_);refine kC hS h (Uj hS hL) (fun y5 h=>?_);refine kC hS h (Nb hS hL) (fun y6 h=>?_);refine Kr hS trivial (A7 hS) h 0 (fun z1=>⟨[(4,pB z1)],[]⟩) (fun M1 k1 hb1 h=>?_) (fun z1 h=>?_)
  ·refine kG hS h (fun h=>?_) (fun h=>?_)
   ·refine kG hS h (fun h=>?_) (fun h=>?_)
    ·refine kC hS h (Z9 hS hL) (fun y8 h=>?_);exact hb1 _ [] _ y8 trivial h
    ·exact hb1 _ [] _ false trivial h
   ·exact hb1 _ [] _ false trivial h
  ·cases h;exact kR hS
end Go.AM
namespace Go.AM
open IntKind (wrap)
open Go.Proofs
set_option maxRecDepth 10000
set_option maxHeartbeats 2000000
variable {S:Y7}(hS:H0 S Tryz.prog) (hL:Oo S)
include hS hL
def BN (N:Nat)(p_count:Int)(p_l:Sl Int):Option A1:=
 if ((0:Int)<=(if 64<(p_l.n:Int)then 64 else (p_l.n:Int))/\(if 64<(p_l.n:Int)then 64 else (p_l.n:Int))<=(p_l.n:Int))then
  Dq N (fun self1 (x1:Sl Int) (x2:Int)=>
   if (decide (x2<((p_l.take (if 64<(p_l.n:Int)then 64 else (p_l.n:Int)).toNat).n:Int))) then
    if ((0:Int)<=x2/\x2<((p_l.take (if 64<(p_l.n:Int)then 64 else (p_l.n:Int)).toNat).n:Int))then
     if (0:Int)<=((wrap .i64 p_count).tmod 33)then
      if ((x1.n+(Sl.of [A9 .and .u64 ((p_l.take (if 64<(p_l.n:Int)then 64 else (p_l.n:Int)).toNat).g x2.toNat) (wrap .u64 ((shI .shl .u64 1 ((wrap .i64 p_count).tmod 33))-1))]:Sl Int).n)*8<=140737488355328/\x1.n+(Sl.of [A9 .and .u64 ((p_l.take (if 64<(p_l.n:Int)then 64 else (p_l.n:Int)).toNat).g x2.toNat) (wrap .u64 ((shI .shl .u64 1 ((wrap .i64 p_count).tmod 33))-1))]:Sl Int).n<=140737488355328)then
       self1 (x1.push (A9 .and .u64 ((p_l.take (if 64<(p_l.n:Int)then 64 else (p_l.n:Int)).toNat).g x2.toNat) (wrap .u64 ((shI .shl .u64 1 ((wrap .i64 p_count).tmod 33))-1)))) (wrap .i64 (x2+1))
      else none
     else none
    else none
   else
    some (⟨(wrap .i64 p_count).tmod 33,x1⟩:A1)
   ) (Sl.nil:Sl Int) 0
 else none
theorem Nd {N:Nat}{p_count:Int}{p_l:Sl Int}{y:A1}(h:BN N p_count p_l=some y) :FunO S MV [.p (pI .u8 p_count),.p (vSl 1 (cI .u64) p_l)] [] (.p (.agg (A8 y))) ([]) []:=by
 unfold BN at h;refine A4 hS TX ?_;obtain⟨c1,h⟩:=G9 h;refine N0 hS (And.intro (by decide:(33:Int)≠0) c1) h (fun x1 x2=>⟨[(18,pN x2),(17,pN ((p_l.take (if 64<(p_l.n:Int)then 64 else (p_l.n:Int)).toNat).n:Int)),(16,.p (vSl 1 (cI .u64) (p_l.take (if 64<(p_l.n:Int)then 64 else (p_l.n:Int)).toNat))),(5,.reg 6000 0),(4,.reg 5000 0)],[(6500,.vec O7 1 x1.n (fun i=>cI .u64 (x1.g i)) false),(6000,.cells [pN ((wrap .i64 p_count).tmod 33),.vec 6500]),(5000,.cells [pN 0,.p K5])]⟩) (ids:=[(5000,5000),(6000,6000)]) (fun _ _ _ _ _ self1 x1 x2 hb1 h=>?_);refine kI hS h (fun h=>?_) (fun h=>?_)
 ·obtain⟨c11,h⟩:=G9 h;refine EU hS c11 ?_;obtain⟨c12,h⟩:=G9 h;refine CL c12 (x:=.sl true 1 1 (E9 [pI .u64 0] [(0,cI .u64 (A9 .and .u64 ((p_l.take (if 64<(p_l.n:Int)then 64 else (p_l.n:Int)).toNat).g x2.toNat) (wrap .u64 ((shI .shl .u64 1 ((wrap .i64 p_count).tmod 33))-1))))])) ?_;obtain⟨c13,h⟩:=G9 h;refine J2 c13 ?_;exact hb1 _ [(5000,5000),(6000,6000),(6500,32000)] _ (x1.push (A9 .and .u64 ((p_l.take (if 64<(p_l.n:Int)then 64 else (p_l.n:Int)).toNat).g x2.toNat) (wrap .u64 ((shI .shl .u64 1 ((wrap .i64 p_count).tmod 33))-1)))) (wrap .i64 (x2+1)) trivial h (hle:=klR [(3,.fn (x1.n+1) (x1.push (A9 .and .u64 ((p_l.take (if 64<(p_l.n:Int)then 64 else (p_l.n:Int)).toNat).g x2.toNat) (wrap .u64 ((shI .shl .u64 1 ((wrap .i64 p_count).tmod 33))-1)))).n (Ay x1.n (fun i=>cI .u64 (x1.g i)) (E9 [pI .u64 0] [(0,cI .u64 (A9 .and .u64 ((p_l.take (if 64<(p_l.n:Int)then 64 else (p_l.n:Int)).toNat).g x2.toNat) (wrap .u64 ((shI .shl .u64 1 ((wrap .i64 p_count).tmod 33))-1))))])) (fun i=>cI .u64 ((x1.push (A9 .and .u64 ((p_l.take (if 64<(p_l.n:Int)then 64 else (p_l.n:Int)).toNat).g x2.toNat) (wrap .u64 ((shI .shl .u64 1 ((wrap .i64 p_count).tmod 33))-1)))).g i)))] (al1 ⟨rfl,LA (c:=cI .u64) (v:=x1) (x:=A9 .and .u64 ((p_l.take (if 64<(p_l.n:Int)then 64 else (p_l.n:Int)).toNat).g x2.toNat) (wrap .u64 ((shI .shl .u64 1 ((wrap .i64 p_count).tmod 33))-1))) (z:=[(pI .u64 0)]) same rfl rfl⟩ al0))
 ·obtain rfl:=B8 h;exact A6 hS trivial ⟨[(4,.reg 5000 0)],[(5000,.cells [pN ((wrap .i64 p_count).tmod 33),.p (vSl 1 (cI .u64) x1)])]⟩ [] (ids:=[(5000,5000)]) ⟨rfl,rfl,rfl⟩
def F8 (N:Nat)(p_x:Int):Option Int:=
 some (A9 .and .i64 (wrap .i64 (wrap .u64 ((wrap .u64 ((wrap .u64 ((A9 .and .u64 (wrap .u64 ((shI .shr .u64 (wrap .u64 ((A9 .and .u64 (shI .shr .u64 (wrap .u64 ((A9 .and .u64 (shI .shr .u64 p_x 1) 6148914691236517205)+(A9 .and .u64 p_x 6148914691236517205))) 2) 3689348814741910323)+(A9 .and .u64 (wrap .u64 ((A9 .and .u64 (shI .shr .u64 p_x 1) 6148914691236517205)+(A9 .and .u64 p_x 6148914691236517205))) 3689348814741910323))) 4)+(wrap .u64 ((A9 .and .u64 (shI .shr .u64 (wrap .u64 ((A9 .and .u64 (shI .shr .u64 p_x 1) 6148914691236517205)+(A9 .and .u64 p_x 6148914691236517205))) 2) 3689348814741910323)+(A9 .and .u64 (wrap .u64 ((A9 .and .u64 (shI .shr .u64 p_x 1) 6148914691236517205)+(A9 .and .u64 p_x 6148914691236517205))) 3689348814741910323))))) 1085102592571150095)+(shI .shr .u64 (A9 .and .u64 (wrap .u64 ((shI .shr .u64 (wrap .u64 ((A9 .and .u64 (shI .shr .u64 (wrap .u64 ((A9 .and .u64 (shI .shr .u64 p_x 1) 6148914691236517205)+(A9 .and .u64 p_x 6148914691236517205))) 2) 3689348814741910323)+(A9 .and .u64 (wrap .u64 ((A9 .and .u64 (shI .shr .u64 p_x 1) 6148914691236517205)+(A9 .and .u64 p_x 6148914691236517205))) 3689348814741910323))) 4)+(wrap .u64 ((A9 .and .u64 (shI .shr .u64 (wrap .u64 ((A9 .and .u64 (shI .shr .u64 p_x 1) 6148914691236517205)+(A9 .and .u64 p_x 6148914691236517205))) 2) 3689348814741910323)+(A9 .and .u64 (wrap .u64 ((A9 .and .u64 (shI .shr .u64 p_x 1) 6148914691236517205)+(A9 .and .u64 p_x 6148914691236517205))) 3689348814741910323))))) 1085102592571150095) 8)))+(shI .shr .u64 (wrap .u64 ((A9 .and .u64 (wrap .u64 ((shI .shr .u64 (wrap .u64 ((A9 .and .u64 (shI .shr .u64 (wrap .u64 ((A9 .and .u64 (shI .shr .u64 p_x 1) 6148914691236517205)+(A9 .and .u64 p_x 6148914691236517205))) 2) 3689348814741910323)+(A9 .and .u64 (wrap .u64 ((A9 .and .u64 (shI .shr .u64 p_x 1) 6148914691236517205)+(A9 .and .u64 p_x 6148914691236517205))) 3689348814741910323))) 4)+(wrap .u64 ((A9 .and .u64 (shI .shr .u64 (wrap .u64 ((A9 .and .u64 (shI .shr .u64 p_x 1) 6148914691236517205)+(A9 .and .u64 p_x 6148914691236517205))) 2) 3689348814741910323)+(A9 .and .u64 (wrap .u64 ((A9 .and .u64 (shI .shr .u64 p_x 1) 6148914691236517205)+(A9 .and .u64 p_x 6148914691236517205))) 3689348814741910323))))) 1085102592571150095)+(shI .shr .u64 (A9 .and .u64 (wrap .u64 ((shI .shr .u64 (wrap .u64 ((A9 .and .u64 (shI .shr .u64 (wrap .u64 ((A9 .and .u64 (shI .shr .u64 p_x 1) 6148914691236517205)+(A9 .and .u64 p_x 6148914691236517205))) 2) 3689348814741910323)+(A9 .and .u64 (wrap .u64 ((A9 .and .u64 (shI .shr .u64 p_x 1) 6148914691236517205)+(A9 .and .u64 p_x 6148914691236517205))) 3689348814741910323))) 4)+(wrap .u64 ((A9 .and .u64 (shI .shr .u64 (wrap .u64 ((A9 .and .u64 (shI .shr .u64 p_x 1) 6148914691236517205)+(A9 .and .u64 p_x 6148914691236517205))) 2) 3689348814741910323)+(A9 .and .u64 (wrap .u64 ((A9 .and .u64 (shI .shr .u64 p_x 1) 6148914691236517205)+(A9 .and .u64 p_x 6148914691236517205))) 3689348814741910323))))) 1085102592571150095) 8))) 16)))+(shI .shr .u64 (wrap .u64 ((wrap .u64 ((A9 .and .u64 (wrap .u64 ((shI .shr .u64 (wrap .u64 ((A9 .and .u64 (shI .shr .u64 (wrap .u64 ((A9 .and .u64 (shI .shr .u64 p_x 1) 6148914691236517205)+(A9 .and .u64 p_x 6148914691236517205))) 2) 3689348814741910323)+(A9 .and .u64 (wrap .u64 ((A9 .and .u64 (shI .shr .u64 p_x 1) 6148914691236517205)+(A9 .and .u64 p_x 6148914691236517205))) 3689348814741910323))) 4)+(wrap .u64 ((A9 .and .u64 (shI .shr .u64 (wrap .u64 ((A9 .and .u64 (shI .shr .u64 p_x 1) 6148914691236517205)+(A9 .and .u64 p_x 6148914691236517205))) 2) 3689348814741910323)+(A9 .and .u64 (wrap .u64 ((A9 .and .u64 (shI .shr .u64 p_x 1) 6148914691236517205)+(A9 .and .u64 p_x 6148914691236517205))) 3689348814741910323))))) 1085102592571150095)+(shI .shr .u64 (A9 .and .u64 (wrap .u64 ((shI .shr .u64 (wrap .u64 ((A9 .and .u64 (shI .shr .u64 (wrap .u64 ((A9 .and .u64 (shI .shr .u64 p_x 1) 6148914691236517205)+(A9 .and .u64 p_x 6148914691236517205))) 2) 3689348814741910323)+(A9 .and .u64 (wrap .u64 ((A9 .and .u64 (shI .shr .u64 p_x 1) 6148914691236517205)+(A9 .and .u64 p_x 6148914691236517205))) 3689348814741910323))) 4)+(wrap .u64 ((A9 .and .u64 (shI .shr .u64 (wrap .u64 ((A9 .and .u64 (shI .shr .u64 p_x 1) 6148914691236517205)+(A9 .and .u64 p_x 6148914691236517205))) 2) 3689348814741910323)+(A9 .and .u64 (wrap .u64 ((A9 .and .u64 (shI .shr .u64 p_x 1) 6148914691236517205)+(A9 .and .u64 p_x 6148914691236517205))) 3689348814741910323))))) 1085102592571150095) 8)))+(shI .shr .u64 (wrap .u64 ((A9 .and .u64 (wrap .u64 ((shI .shr .u64 (wrap .u64 ((A9 .and .u64 (shI .shr .u64 (wrap .u64 ((A9 .and .u64 (shI .shr .u64 p_x 1) 6148914691236517205)+(A9 .and .u64 p_x 6148914691236517205))) 2) 3689348814741910323)+(A9 .and .u64 (wrap .u64 ((A9 .and .u64 (shI .shr .u64 p_x 1) 6148914691236517205)+(A9 .and .u64 p_x 6148914691236517205))) 3689348814741910323))) 4)+(wrap .u64 ((A9 .and .u64 (shI .shr .u64 (wrap .u64 ((A9 .and .u64 (shI .shr .u64 p_x 1) 6148914691236517205)+(A9 .and .u64 p_x 6148914691236517205))) 2) 3689348814741910323)+(A9 .and .u64 (wrap .u64 ((A9 .and .u64 (shI .shr .u64 p_x 1) 6148914691236517205)+(A9 .and .u64 p_x 6148914691236517205))) 3689348814741910323))))) 1085102592571150095)+(shI .shr .u64 (A9 .and .u64 (wrap .u64 ((shI .shr .u64 (wrap .u64 ((A9 .and .u64 (shI .shr .u64 (wrap .u64 ((A9 .and .u64 (shI .shr .u64 p_x 1) 6148914691236517205)+(A9 .and .u64 p_x 6148914691236517205))) 2) 3689348814741910323)+(A9 .and .u64 (wrap .u64 ((A9 .and .u64 (shI .shr .u64 p_x 1) 6148914691236517205)+(A9 .and .u64 p_x 6148914691236517205))) 3689348814741910323))) 4)+(wrap .u64 ((A9 .and .u64 (shI .shr .u64 (wrap .u64 ((A9 .and .u64 (shI .shr .u64 p_x 1) 6148914691236517205)+(A9 .and .u64 p_x 6148914691236517205))) 2) 3689348814741910323)+(A9 .and .u64 (wrap .u64 ((A9 .and .u64 (shI .shr .u64 p_x 1) 6148914691236517205)+(A9 .and .u64 p_x 6148914691236517205))) 3689348814741910323))))) 1085102592571150095) 8))) 16))) 32)))) 127)
theorem Av {N:Nat}{p_x:Int}{y:Int}(h:F8 N p_x=some y) :FunO S Ao [.p (pI .u64 p_x)] [] (pN y) ([]) []:=by unfold F8 at h;refine A4 hS DR ?_;obtain rfl:=B8 h;exact Rp hS (And.intro (And.intro (And.intro (And.intro (And.intro (by decide:(0:Int)<=1) (by decide:(0:Int)<=2)) (by decide:(0:Int)<=4)) (by decide:(0:Int)<=8)) (by decide:(0:Int)<=16)) (by decide:(0:Int)<=32)) [] ⟨rfl,rfl,rfl⟩
def P3 (N:Nat)(p_count:Int)(p_l:Sl Int):Option Bool:=
 (BN N p_count p_l).bind fun y1=>
 Af6 N (fun self1 (x1:Int) (x2:Int) (x3:Sl Int) (x4:Int)=>
  if (decide (x4<(y1.Has.n:Int))) then
   if ((0:Int)<=x4/\x4<(y1.Has.n:Int))then
    (F8 N (y1.Has.g x4.toNat)).bind fun y4=>
    if ((decide (1<y4))&&(decide (y4<y1.Langs))) then
     if ((x3.n+(Sl.of [x4]:Sl Int).n)*8<=140737488355328/\x3.n+(Sl.of [x4]:Sl Int).n<=140737488355328)then
      self1 (wrap .i64 (x1+y4)) (if (y4==1) then wrap .i64 (x2+1)else x2) (x3.push x4) (wrap .i64 (x4+1))
     else none
    else
     self1 (wrap .i64 (x1+y4)) (if (y4==1) then wrap .i64 (x2+1)else x2) x3 (wrap .i64 (x4+1))
   else none
  else
   WZ N (fun self2 (x5:Int) (x6:Int) (x7:Int)=>
    if (decide (x7<y1.Langs)) then
     (P6 N y1 x7 x7).bind fun y9=>
     (AI N y1 x7).bind fun y10=>
     if ((((y9.2 != 0)||(y10.2 != 0))||(decide (y9.1<y10.1)))||(decide (y10.1<0))) then
      some false
     else
      self2 (wrap .i64 (x5-y9.1)) (wrap .i64 (x6-y10.1)) (wrap .i64 (x7+1))
    else
     (J7 N y1).bind fun y11=>
     (P6 N y1 0 y1.Langs).bind fun y12=>
     (AI N y1 (-1)).bind fun y13=>
     (E8 N y1 0 (y1.Has.n:Int)).bind fun y14=>
     lt (fun (z1:Bool)=>
      some z1
      ) fun k1=>
      if (x5==0) then
       if (x6==0) then
        if (y11.2==0) then
         (D4 N y11.1 x3).bind fun y17=>
         if y17 then
          if (y12.2==3) then
           if (y13.2==3) then
            if (y14.2==3) then
             (I3 N ).bind fun y18=>
             k1 y18
            else
             k1 false
           else
            k1 false
          else
           k1 false
         else
          k1 false
        else
         k1 false
       else
        k1 false
      else
       k1 false
    ) x1 x2 0
  ) 0 0 (Sl.nil:Sl Int) 0
theorem GQ {N:Nat}{p_count:Int}{p_l:Sl Int}{y:Bool}(h:P3 N p_count p_l=some y) :FunO S Ag [.p (pI .u8 p_count),.p (vSl 1 (cI .u64) p_l)] [] (pB y) ([]) []:=by
 unfold P3 at h;refine A4 hS Cp ?_;refine kC hS h (Nd hS hL) (fun y1 h=>?_);refine Ye hS trivial h (fun x1 x2 x3 x4=>⟨[(31,pN x4),(30,pN (y1.Has.n:Int)),(29,.p (vSl 1 (cI .u64) y1.Has)),(8,.vec 9500),(7,pN x2),(6,pN x1),(5,.reg 6000 0)],[(9500,.vec E7 1 x3.n (fun i=>cI .i64 (x3.g i)) false),(6000,.cells [pN y1.Langs,.p (vSl 1 (cI .u64) y1.Has)])]⟩) (ids:=[(6000,6000)]) (fun _ _ _ _ _ self1 x1 x2 x3 x4 hb3 h=>?_);refine kI hS h (fun h=>?_) (fun h=>?_)
 ·obtain⟨c12,h⟩:=G9 h;obtain⟨y4,e4,h⟩:=B5 h;refine B7 hS [] c12 (Av hS hL e4) ?_;obtain⟨t3,ht3⟩:∃x:Int,x=(if (y4==1) then wrap .i64 (x2+1)else x2):=⟨_,rfl⟩;refine TO hS trivial (A7 hS) 0 ⟨[(31,pN x4),(30,pN (y1.Has.n:Int)),(29,.p (vSl 1 (cI .u64) y1.Has)),(11,pN y4),(9,pN x4),(8,.vec 9500),(7,pN t3),(6,pN (wrap .i64 (x1+y4))),(5,.reg 6000 0)],[(9500,.vec E7 1 x3.n (fun i=>cI .i64 (x3.g i)) false),(6000,.cells [pN y1.Langs,.p (vSl 1 (cI .u64) y1.Has)])]⟩ (fun M3 hb4=>?_) ?_
  ·refine D9 hS trivial (b:=y4==1) (fun c14=>?_) (fun c14=>?_)
   ·exact hb4 _ [(6000,6000),(9500,9500)] _ trivial (hle:=klR [(5,.eq (pI .i64 (wrap .i64 (x2+1))) (pI .i64 t3))] (al1 (by simp only[ht3,c14,Leaf.ok,pm,if_true,if_false]) al0))
   ·exact hb4 _ [(6000,6000),(9500,9500)] _ trivial (hle:=klR [(5,.eq (pI .i64 x2) (pI .i64 t3))] (al1 (by simp only[ht3,c14,Leaf.ok,pm,if_true,if_false]) al0))
  ·subst ht3;refine kB hS (A7 hS) trivial trivial 5 (.n (.a (decide (1<y4))) (.a (decide (y4<y1.Langs)))) ?_;refine kI hS h (fun h=>?_) (fun h=>?_)
   ·obtain⟨c16,h⟩:=G9 h;exact hb3 _ [(6000,6000),(9500,57000)] _ (wrap .i64 (x1+y4)) (if (y4==1) then wrap .i64 (x2+1)else x2) (x3.push x4) (wrap .i64 (x4+1)) (And.intro (rfl:true=true) c16) h (hle:=klR [(5,.fn (x3.n+1) (x3.push x4).n (Ay x3.n (fun i=>cI .i64 (x3.g i)) (E9 [pI .i64 0] [(0,cI .i64 x4)])) (fun i=>cI .i64 ((x3.push x4).g i)))] (al1 ⟨rfl,LA (c:=cI .i64) (v:=x3) (x:=x4) (z:=[(pI .i64 0)]) same rfl rfl⟩ al0))
   ·exact hb3 _ [(6000,6000),(9500,9500)] _ (wrap .i64 (x1+y4)) (if (y4==1) then wrap .i64 (x2+1)else x2) x3 (wrap .i64 (x4+1)) trivial h
 ·refine Ks hS trivial h (fun x5 x6 x7=>⟨[(60,pN x7),(59,pN y1.Langs),(8,.vec 9500),(7,pN x6),(6,pN x5),(5,.reg 6000 0)],[(9500,.vec E7 1 x3.n (fun i=>cI .i64 (x3.g i)) false),(6000,.cells [pN y1.Langs,.p (vSl 1 (cI .u64) y1.Has)])]⟩) (ids:=[(6000,6000),(9500,9500)]) (fun _ _ _ _ _ self2 x5 x6 x7 hb5 h=>?_);refine kI hS h (fun h=>?_) (fun h=>?_)
  ·refine kC hS h (Db hS hL) (fun y9 h=>?_);refine kC hS h (Lm hS hL) (fun y10 h=>?_);refine kB hS (A7 hS) trivial trivial 12 (.o (.o (.o (.a (y9.2 != 0)) (.a (y10.2 != 0))) (.a (decide (y9.1<y10.1)))) (.a (decide (y10.1<0)))) ?_;refine kI hS h (fun h=>?_) (fun h=>?_)
   ·cases h;exact kR hS
   ·exact hb5 _ [(6000,6000),(9500,9500)] _ (wrap .i64 (x5-y9.1)) (wrap .i64 (x6-y10.1)) (wrap .i64 (x7+1)) trivial h
  ·refine kC hS h (Dc hS hL) (fun y11 h=>?_);refine kC hS h (Db hS hL) (fun y12 h=>?_);refine kC hS h (Lm hS hL) (fun y13 h=>?_);refine kC hS h (Ar hS hL) (fun y14 h=>?_);refine Kr hS trivial (A7 hS) h 0 (fun z1=>⟨[(4,pB z1)],[]⟩) (fun M4 k1 hb6 h=>?_) (fun z1 h=>?_)
   ·refine kG hS h (fun h=>?_) (fun h=>?_)
    ·refine kG hS h (fun h=>?_) (fun h=>?_)
     ·refine kG hS h (fun h=>?_) (fun h=>?_)
      ·refine kC hS h (P5 hS hL) (fun y17 h=>?_);refine kG hS h (fun h=>?_) (fun h=>?_)
       ·refine kG hS h (fun h=>?_) (fun h=>?_)
        ·refine kG hS h (fun h=>?_) (fun h=>?_)
         ·refine kG hS h (fun h=>?_) (fun h=>?_)
          ·refine kC hS h (Z9 hS hL) (fun y18 h=>?_);exact hb6 _ [] _ y18 trivial h
          ·exact hb6 _ [] _ false trivial h
         ·exact hb6 _ [] _ false trivial h
        ·exact hb6 _ [] _ false trivial h
       ·exact hb6 _ [] _ false trivial h
      ·exact hb6 _ [] _ false trivial h
     ·exact hb6 _ [] _ false trivial h
    ·exact hb6 _ [] _ false trivial h
   ·cases h;exact kR hS
def S1 (N:Nat)(p_count:Int)(p_l:Sl Int)(p_some:Int)(p_other:Int):Option Bool:=
 (BN N p_count p_l).bind fun y1=>
 if (0:Int)<=y1.Langs then
  (E5 N y1 (wrap .u64 ((shI .shl .u64 1 y1.Langs)-1))).bind fun y2=>
  (E5 N y1 (A9 .and .u64 p_some (wrap .u64 ((shI .shl .u64 1 y1.Langs)-1)))).bind fun y3=>
  if (y2.2 != 0) then
   some false
  else
   if (y3.2 != 0) then
    some false
   else
    if (y2.1.Langs != y1.Langs) then
     some false
    else
     (B0 N y2.1.Has y1.Has).bind fun y4=>
     if (!y4) then
      some false
     else
      (F8 N (A9 .and .u64 p_some (wrap .u64 ((shI .shl .u64 1 y1.Langs)-1)))).bind fun y5=>
      if (y3.1.Langs != y5) then
       some false
      else
       if ((y3.1.Has.n:Int) != (y1.Has.n:Int)) then
        some false
       else
        (C4 N y3.1).bind fun y6=>
        if (y6 != 0) then
         some false
        else
         WZ N (fun self3 (x2:Int) (x3:Int) (x4:Int)=>
          if (decide (x4<y1.Langs)) then
           if (0:Int)<=x4 then
            if ((A9 .and .u64 (shI .shr .u64 (A9 .and .u64 p_some (wrap .u64 ((shI .shl .u64 1 y1.Langs)-1))) x4) 1)==0) then
             self3 x2 x3 (wrap .i64 (x4+1))
            else
             Co N (fun self4 (x6:Int)=>
              if (decide (x6<(y1.Has.n:Int))) then
               if (((((0:Int)<=x6/\x6<(y1.Has.n:Int))/\(0:Int)<=x4)/\((0:Int)<=x6/\x6<(y3.1.Has.n:Int)))/\(0:Int)<=x2)then
                if ((A9 .and .u64 (shI .shr .u64 (y1.Has.g x6.toNat) x4) 1) != (A9 .and .u64 (shI .shr .u64 (y3.1.Has.g x6.toNat) x2) 1)) then
                 some false
                else
                 self4 (wrap .i64 (x6+1))
               else none
              else
               if ((0:Int)<=x4/\(0:Int)<=x2)then
                self3 (wrap .i64 (x2+1)) (A9 .or .u64 x3 (shI .shl .u64 (A9 .and .u64 (shI .shr .u64 (A9 .and .u64 p_other (wrap .u64 ((shI .shl .u64 1 y1.Langs)-1))) x4) 1) x2)) (wrap .i64 (x4+1))
               else none
              ) 0
           else none
          else
           Co N (fun self7 (x8:Int)=>
            if (decide (x8<(y1.Has.n:Int))) then
             Co N (fun self8 (x10:Int)=>
              if (decide (x10<x8)) then
               (E8 N y1 x8 x10).bind fun y23=>
               (E8 N y3.1 x8 x10).bind fun y24=>
               if (((y23.2 != 0)||(y24.2 != 0))||(y23.1&&(!y24.1))) then
                some false
               else
                self8 (wrap .i64 (x10+1))
              else
               self7 (wrap .i64 (x8+1))
              ) 0
            else
             (E5 N y3.1 x3).bind fun y25=>
             (E5 N y1 (A9 .and .u64 (A9 .and .u64 p_some (wrap .u64 ((shI .shl .u64 1 y1.Langs)-1))) (A9 .and .u64 p_other (wrap .u64 ((shI .shl .u64 1 y1.Langs)-1))))).bind fun y26=>
             lt (fun (z1:Bool)=>
              if z1 then
               some false
              else
               if (decide (y1.Langs<64)) then
                if (0:Int)<=y1.Langs then
                 (E5 N y1 (A9 .or .u64 (A9 .and .u64 p_some (wrap .u64 ((shI .shl .u64 1 y1.Langs)-1))) (shI .shl .u64 1 y1.Langs))).bind fun y29=>
                 if (y29.2 != 2) then
                  some false
                 else
                  (I3 N ).bind fun y30=>
                  some y30
                else none
               else
                (I3 N ).bind fun y31=>
                some y31
              ) fun k1=>
              if (y25.2 != 0) then
               k1 true
              else
               if (y26.2 != 0) then
                k1 true
               else
                if (y25.1.Langs != y26.1.Langs) then
                 k1 true
                else
                 (B0 N y25.1.Has y26.1.Has).bind fun y28=>
                 k1 (!y28)
            ) 0
          ) 0 0 0
 else none
theorem Jh {N:Nat}{p_count:Int}{p_l:Sl Int}{p_some:Int}{p_other:Int}{y:Bool}(h:S1 N p_count p_l p_some p_other=some y) :FunO S Bg [.p (pI .u8 p_count),.p (vSl 1 (cI .u64) p_l),.p (pI .u64 p_some),.p (pI .u64 p_other)] [] (pB y) ([]) []:=by
 unfold S1 at h;refine A4 hS Eo ?_;refine kC hS h (Nd hS hL) (fun y1 h=>?_);refine H5 hS trivial 34 10000 [pI .i64 y1.Langs,vSl 1 (cI .u64) y1.Has] ?_;obtain⟨c1,h⟩:=G9 h;obtain⟨y2,e2,h⟩:=B5 h;refine B7 hS [] (And.intro c1 (by decide:(2:Nat)<=2)) (U2 hS hL e2) ?_;refine H5 hS trivial 12 12000 [pI .i64 y2.1.Langs,vSl 1 (cI .u64) y2.1.Has] ?_;obtain⟨y3,e3,h⟩:=B5 h;refine B7 hS [] (by decide:(2:Nat)<=2) (U2 hS hL e3) ?_;refine H5 hS trivial 14 14000 [pI .i64 y3.1.Langs,vSl 1 (cI .u64) y3.1.Has] ?_;refine I7 hS trivial [8,10,15,17,18,23,25,30,33,38,39] ?_;refine Bi trivial (b:=y2.2 != 0) (fun c2=>?_) (fun c2=>?_)
 ·replace h:=itT c2 h;refine J2 trivial ?_;cases h;exact kR hS
 ·replace h:=itF c2 h;refine Bi trivial (b:=y3.2 != 0) (fun c3=>?_) (fun c3=>?_)
  ·replace h:=itT c3 h;refine J2 trivial ?_;cases h;exact kR hS
  ·replace h:=itF c3 h;refine Bi trivial (b:=y2.1.Langs != y1.Langs) (fun c4=>?_) (fun c4=>?_)
   ·replace h:=itT c4 h;refine J2 trivial ?_;cases h;exact kR hS
   ·replace h:=itF c4 h;obtain⟨y4,e4,h⟩:=B5 h;refine Q9 trivial (C9 hS hL e4) ?_;refine Bi trivial (b:=!y4) (fun c5=>?_) (fun c5=>?_)
    ·replace h:=itT c5 h;refine J2 trivial ?_;cases h;exact kR hS
    ·replace h:=itF c5 h;obtain⟨y5,e5,h⟩:=B5 h;refine Q9 trivial (Av hS hL e5) ?_;refine Bi trivial (b:=y3.1.Langs != y5) (fun c6=>?_) (fun c6=>?_)
     ·replace h:=itT c6 h;refine J2 trivial ?_;cases h;exact kR hS
     ·replace h:=itF c6 h;refine Bi trivial (b:=(y3.1.Has.n:Int) != (y1.Has.n:Int)) (fun c7=>?_) (fun c7=>?_)
      ·replace h:=itT c7 h;refine J2 trivial ?_;cases h;exact kR hS
      ·replace h:=itF c7 h;obtain⟨y6,e6,h⟩:=B5 h;refine Q9 (by decide:(2:Nat)<=2) (P2 hS hL e6) ?_;refine J2 trivial ?_;refine kI hS h (fun h=>?_) (fun h=>?_)
       ·cases h;exact kR hS
       ·refine Ks hS trivial h (fun x2 x3 x4=>⟨[(100,pN x4),(99,pN y1.Langs),(16,.p (pI .u64 x3)),(15,pN x2),(13,.p (.ptr [pI .i64 y3.1.Langs,vSl 1 (cI .u64) y3.1.Has])),(9,.p (.ptr [pI .i64 y1.Langs,vSl 1 (cI .u64) y1.Has])),(3,.p (pI .u64 (A9 .and .u64 p_other (wrap .u64 ((shI .shl .u64 1 y1.Langs)-1))))),(2,.p (pI .u64 (A9 .and .u64 p_some (wrap .u64 ((shI .shl .u64 1 y1.Langs)-1)))))],[]⟩) (ids:=[]) (fun _ _ _ _ _ self3 x2 x3 x4 hb3 h=>?_);refine kI hS h (fun h=>?_) (fun h=>?_)
        ·obtain⟨c33,h⟩:=G9 h;refine D9 hS c33 (b:=(A9 .and .u64 (shI .shr .u64 (A9 .and .u64 p_some (wrap .u64 ((shI .shl .u64 1 y1.Langs)-1))) x4) 1)==0) (fun c34=>?_) (fun c34=>?_)
         ·replace h:=itT c34 h;exact hb3 _ [] _ x2 x3 (wrap .i64 (x4+1)) trivial h
         ·replace h:=itF c34 h;refine W6 hS trivial h (fun x6=>⟨[(111,pN x6),(110,pN (y1.Has.n:Int)),(100,pN x4),(99,pN y1.Langs),(17,pN x4),(16,.p (pI .u64 x3)),(15,pN x2),(13,.p (.ptr [pI .i64 y3.1.Langs,vSl 1 (cI .u64) y3.1.Has])),(9,.p (.ptr [pI .i64 y1.Langs,vSl 1 (cI .u64) y1.Has])),(3,.p (pI .u64 (A9 .and .u64 p_other (wrap .u64 ((shI .shl .u64 1 y1.Langs)-1))))),(2,.p (pI .u64 (A9 .and .u64 p_some (wrap .u64 ((shI .shl .u64 1 y1.Langs)-1)))))],[]⟩) (ids:=[]) (fun _ _ _ _ _ self4 x6 hb4 h=>?_);refine kI hS h (fun h=>?_) (fun h=>?_)
          ·refine I7 hS trivial [1,3,4,9,11,12] ?_;obtain⟨c42,h⟩:=G9 h;refine J2 c42 ?_;refine kI hS h (fun h=>?_) (fun h=>?_)
           ·cases h;exact kR hS
           ·exact hb4 _ [] _ (wrap .i64 (x6+1)) trivial h
          ·obtain⟨c44,h⟩:=G9 h;exact hb3 _ [] _ (wrap .i64 (x2+1)) (A9 .or .u64 x3 (shI .shl .u64 (A9 .and .u64 (shI .shr .u64 (A9 .and .u64 p_other (wrap .u64 ((shI .shl .u64 1 y1.Langs)-1))) x4) 1) x2)) (wrap .i64 (x4+1)) c44 h
        ·refine W6 hS trivial h (fun x8=>⟨[(146,pN x8),(145,pN (y1.Has.n:Int)),(16,.p (pI .u64 x3)),(13,.p (.ptr [pI .i64 y3.1.Langs,vSl 1 (cI .u64) y3.1.Has])),(9,.p (.ptr [pI .i64 y1.Langs,vSl 1 (cI .u64) y1.Has])),(3,.p (pI .u64 (A9 .and .u64 p_other (wrap .u64 ((shI .shl .u64 1 y1.Langs)-1))))),(2,.p (pI .u64 (A9 .and .u64 p_some (wrap .u64 ((shI .shl .u64 1 y1.Langs)-1)))))],[]⟩) (ids:=[]) (fun _ _ _ _ _ self7 x8 hb7 h=>?_);refine kI hS h (fun h=>?_) (fun h=>?_)
         ·refine W6 hS trivial h (fun x10=>⟨[(150,pN x10),(149,pN x8),(146,pN x8),(145,pN (y1.Has.n:Int)),(19,pN x8),(16,.p (pI .u64 x3)),(13,.p (.ptr [pI .i64 y3.1.Langs,vSl 1 (cI .u64) y3.1.Has])),(9,.p (.ptr [pI .i64 y1.Langs,vSl 1 (cI .u64) y1.Has])),(3,.p (pI .u64 (A9 .and .u64 p_other (wrap .u64 ((shI .shl .u64 1 y1.Langs)-1))))),(2,.p (pI .u64 (A9 .and .u64 p_some (wrap .u64 ((shI .shl .u64 1 y1.Langs)-1)))))],[]⟩) (ids:=[]) (fun _ _ _ _ _ self8 x10 hb8 h=>?_);refine kI hS h (fun h=>?_) (fun h=>?_)
          ·obtain⟨y23,e23,h⟩:=B5 h;refine B7 hS [] (by decide:(2:Nat)<=2) (Ar hS hL e23) ?_;obtain⟨y24,e24,h⟩:=B5 h;refine B7 hS [] (by decide:(2:Nat)<=2) (Ar hS hL e24) ?_;refine kB hS (A7 hS) trivial trivial 10 (.o (.o (.a (y23.2 != 0)) (.a (y24.2 != 0))) (.n (.a y23.1) (.a (!y24.1)))) ?_;refine kI hS h (fun h=>?_) (fun h=>?_)
           ·cases h;exact kR hS
           ·exact hb8 _ [] _ (wrap .i64 (x10+1)) trivial h
          ·exact hb7 _ [] _ (wrap .i64 (x8+1)) trivial h
         ·obtain⟨y25,e25,h⟩:=B5 h;refine B7 hS [] (by decide:(2:Nat)<=2) (U2 hS hL e25) ?_;refine H5 hS trivial 26 26000 [pI .i64 y25.1.Langs,vSl 1 (cI .u64) y25.1.Has] ?_;obtain⟨y26,e26,h⟩:=B5 h;refine B7 hS [] (by decide:(2:Nat)<=2) (U2 hS hL e26) ?_;refine H5 hS trivial 28 28000 [pI .i64 y26.1.Langs,vSl 1 (cI .u64) y26.1.Has] ?_;refine Kr hS trivial (A7 hS) h 0 (fun z1=>⟨[(216,pB z1),(9,.p (.ptr [pI .i64 y1.Langs,vSl 1 (cI .u64) y1.Has])),(2,.p (pI .u64 (A9 .and .u64 p_some (wrap .u64 ((shI .shl .u64 1 y1.Langs)-1)))))],[]⟩) (fun M1 k1 hb9 h=>?_) (fun z1 h=>?_)
          ·refine kG hS h (fun h=>?_) (fun h=>?_)
           ·exact hb9 _ [] _ true trivial h
           ·refine kG hS h (fun h=>?_) (fun h=>?_)
            ·exact hb9 _ [] _ true trivial h
            ·refine kG hS h (fun h=>?_) (fun h=>?_)
             ·exact hb9 _ [] _ true trivial h
             ·refine kC hS h (C9 hS hL) (fun y28 h=>?_);exact hb9 _ [] _ (!y28) trivial h
          ·refine kI hS h (fun h=>?_) (fun h=>?_)
           ·cases h;exact kR hS
           ·refine kI hS h (fun h=>?_) (fun h=>?_)
            ·refine I7 hS trivial [0,3,6] ?_;obtain⟨c77,h⟩:=G9 h;obtain⟨y29,e29,h⟩:=B5 h;refine Q9 (And.intro (by decide:(2:Nat)<=2) c77) (U2 hS hL e29) ?_;refine J2 trivial ?_;refine H5 hS trivial 230 30000 [pI .i64 y29.1.Langs,vSl 1 (cI .u64) y29.1.Has] ?_;refine kI hS h (fun h=>?_) (fun h=>?_)
             ·cases h;exact kR hS
             ·refine kC hS h (Z9 hS hL) (fun y30 h=>?_);cases h;exact kR hS
            ·refine kC hS h (Z9 hS hL) (fun y31 h=>?_);cases h;exact kR hS
end Go.AM
namespace Go.AM
open Go.Proofs
set_option maxRecDepth 10000
set_option maxHeartbeats 2000000
variable {S:Y7}(hS:H0 S Tryz.prog) (hL:Oo S)
include hS hL
end Go.AM
namespace Go.AM
set_option maxRecDepth 1000000
theorem FB:I3 4194304=some true:=by decide +kernel
end Go.AM
namespace Go.AM
open IntKind (wrap)
open Go.Proofs
theorem VU {A R:Type}{body:(A->Option R)->A->Option R}(I:Nat->A->Prop)(n:Nat)(J8:R->Prop)
 (hstep:∀self i a,i<=n->I i a->(i<n->∀a',I (i+1) a' -> ∃r,self a' = some r/\J8 r)->∃r,body self a=some r/\J8 r) :
 ∀(N i:Nat) (a:A),i<=n->I i a->n-i<N->∃r,Co N body a=some r/\J8 r
 |0,_,_,_,_,h=>by omega
 |N+1,i,a,hi,hI,h=>by rw[Kl];exact hstep _ i a hi hI fun hlt a' hI'=>VU I n J8 hstep N (i+1) a' hlt hI' (by omega)
theorem Mo {A R:Type}{body:(A->Option R)->A->Option R}(I:Nat->A->Prop)(n:Nat)(J8:R->Prop){N:Nat}(hN:n<N){a:A}(h0:I 0 a)
 (hstep:∀self i a,i<=n->I i a->(i<n->∀a',I (i+1) a' -> ∃r,self a' = some r/\J8 r)->∃r,body self a=some r/\J8 r):∃r,Co N body a=some r/\J8 r:=
 VU I n J8 hstep N 0 a (Nat.zero_le _) h0 hN
theorem OF {A B R:Type}{body:(A->B->Option R)->A->B->Option R}(I:Nat->A->B->Prop)(n:Nat)(J8:R->Prop){N:Nat}(hN:n<N){a:A}{b:B}(h0:I 0 a b)
 (hstep:∀self i a b,i<=n->I i a b->(i<n->∀a' b',I (i+1) a' b' -> ∃r,self a' b' = some r/\J8 r)->∃r,body self a b=some r/\J8 r):∃r,Dq N body a b=some r/\J8 r:=
 VU (fun i x=>I i x.1 x.2) n J8 (fun self i x hi hI h=>hstep (fun a b=>self (a,b)) i x.1 x.2 hi hI fun hl a' b' hI'=>h hl (a',b') hI') N 0 (a,b) (Nat.zero_le _) h0 hN
theorem XA {A B C R:Type}{body:(A->B->C->Option R)->A->B->C->Option R}(I:Nat->A->B->C->Prop)(n:Nat)(J8:R->Prop){N:Nat}(hN:n<N){a:A}{b:B}{c:C}(h0:I 0 a b c)
 (hstep:∀self i a b c,i<=n->I i a b c->(i<n->∀a' b' c',I (i+1) a' b' c' -> ∃r,self a' b' c' = some r/\J8 r)->∃r,body self a b c=some r/\J8 r):∃r,WZ N body a b c=some r/\J8 r:=
 VU (fun i x=>I i x.1 x.2.1 x.2.2) n J8 (fun self i x hi hI h=>hstep (fun a b c=>self (a,b,c)) i x.1 x.2.1 x.2.2 hi hI fun hl a' b' c' hI'=>h hl (a',b',c') hI') N 0 (a,b,c) (Nat.zero_le _) h0 hN
theorem Ae0 {A B C D R:Type}{body:(A->B->C->D->Option R)->A->B->C->D->Option R}(I:Nat->A->B->C->D->Prop)(n:Nat)(J8:R->Prop){N:Nat}(hN:n<N){a:A}{b:B}{c:C}{d:D}(h0:I 0 a b c d)
 (hstep:∀self i a b c d,i<=n->I i a b c d->(i<n->∀a' b' c' d',I (i+1) a' b' c' d' -> ∃r,self a' b' c' d' = some r/\J8 r)->∃r,body self a b c d=some r/\J8 r):∃r,Af6 N body a b c d=some r/\J8 r:=
 VU (fun i x=>I i x.1 x.2.1 x.2.2.1 x.2.2.2) n J8 (fun self i x hi hI h=>hstep (fun a b c d=>self (a,b,c,d)) i x.1 x.2.1 x.2.2.1 x.2.2.2 hi hI fun hl a' b' c' d' hI'=>h hl (a',b',c',d') hI') N 0 (a,b,c,d) (Nat.zero_le _) h0 hN
theorem X5 {X R:Type}{Q:R->Prop}{o:Option X}{f:X->Option R}{x:X}(h:o=some x)(h2:∃r,f x=some r/\Q r):∃r,o.bind f=some r/\Q r:=by subst h;exact h2
theorem ltX {R A:Type}{Q:R->Prop}{k:A->Option R}{f:(A->Option R)->Option R}(h:∃r,f k=some r/\Q r):∃r,lt k f=some r/\Q r:=h
theorem ifT {R:Type}{Q:R->Prop}{p:Prop}[Decidable p]{a b:Option R}(h:p)(h2:∃r,a=some r/\Q r):∃r,(if p then a else b)=some r/\Q r:=by rw[if_pos h];exact h2
theorem ifF {R:Type}{Q:R->Prop}{p:Prop}[Decidable p]{a b:Option R}(h:¬p)(h2:∃r,b=some r/\Q r):∃r,(if p then a else b)=some r/\Q r:=by rw[if_neg h];exact h2
theorem DA {n:Int}(h : -9223372036854775808<=n)(h' : n<=9223372036854775807):IntKind.i64.wrap n=n:=by
 by_cases h0:0<=n
 ·have h1:n % (2 ^ 64:Int)=n:=Int.emod_eq_of_lt h0 (by omega);unfold wrap;simp only[IntKind.bits,IntKind.signed,h1];rw[if_neg];simp;omega
 ·have h1:n % (2 ^ 64:Int)=n+2 ^ 64:=by rw[<- Int.add_emod_right];exact Int.emod_eq_of_lt (by omega) (by omega)
  unfold wrap;simp only[IntKind.bits,IntKind.signed,h1];rw[if_pos]
  ·omega
  ·simp;omega
theorem Q8 {i:Nat}(h:i<1000000000000000000):IntKind.i64.wrap ((i:Int)+1)=((i+1:Nat):Int):=by rw[DA (by omega) (by omega)];rfl
theorem wrapA {i j:Nat}(h:i+j<1000000000000000000):IntKind.i64.wrap ((i:Int)+(j:Int))=((i+j:Nat):Int):=by rw[DA (by omega) (by omega)];rfl
end Go.AM
namespace Go.AM
open IntKind (wrap)
open Go.Proofs
theorem GK {α : Type}(s:Sl α)(a : α):(s.push a).toList=s.toList++[a]:=by
 unfold Sl.toList;rw[List.range_succ,List.map_append];congr 1
 ·exact List.map_congr_left fun i hi=>by rw[List.mem_range]at hi;show (if i<s.n then s.g i else a)=s.g i;rw[if_pos hi]
 ·show [if s.n<s.n then s.g s.n else a]=[a];rw[if_neg (by omega)]
theorem By {α : Type}(s:Sl α):s.toList.length=s.n:=by simp[Sl.toList]
theorem Yk {α : Type}{s t:Sl α}(h:s.toList=t.toList):s.n=t.n/\∀i,i<s.n->s.g i=t.g i:=by
 have hn:s.n=t.n:=by rw[<- By s,<- By t,h]
 refine⟨hn,fun i hi=>?_⟩
 have:=congrArg (fun l=>l[i]?) h
 simpa[Sl.toList,hi,hn ▸ hi]using this
def okT (t:A1):Prop:=t.Has.n<=100/\∀i,i<t.Has.n->∃x:BitVec 64,t.Has.g i=U x
def bT (t:A1)(i:Nat):BitVec 64:=BitVec.ofNat 64 (t.Has.g i).toNat
theorem DB {t:A1}(h:okT t){i:Nat}(hi:i<t.Has.n):t.Has.g i=U (bT t i):=by obtain⟨x,e⟩:=h.2 i hi;rw[bT,e];show U x=U (BitVec.ofNat 64 (x.toNat:Int).toNat);rw[Int.toNat_natCast];simp
def HR (L:Nat):BitVec 64:=BitVec.ofNat 64 (2 ^ L-1)
theorem W4 {L k:Nat}(hk:k<64):(HR L).getLsbD k=decide (k<L):=by unfold HR;rw[BitVec.getLsbD_ofNat];simp[hk,Nat.testBit_two_pow_sub_one]
theorem CE {N:Nat}{t:A1}{L:Nat}(hL:t.Langs=L)(h:L<=32):H6 N t=some (U (HR L)):=by
 unfold H6;rw[hL,if_pos (by omega),Ub L (by omega)];have h2:2 ^ L<=2 ^ 32:=Nat.pow_le_pow_right (by decide) h;have h3:0<2 ^ L:=Nat.pow_pos (by decide);have h1:(1#64 <<< L).toNat=2 ^ L:=by rw[BitVec.toNat_shiftLeft,Nat.shiftLeft_eq];simp only[BitVec.toNat_ofNat];omega
 have e:U (1#64 <<< L)-1=((2 ^ L-1:Nat):Int):=by show (((1#64 <<< L).toNat:Nat):Int)-1=_;rw[h1];omega
 rw[e,Y3 (by omega)];show some ((2 ^ L-1:Nat):Int)=some (((BitVec.ofNat 64 (2 ^ L-1)).toNat:Nat):Int);rw[BitVec.toNat_ofNat,Nat.mod_eq_of_lt (by omega)]
theorem ST {N:Nat}{s:Sl Int}{f:Int->Option Bool}{p:Nat->Bool}(hn:s.n<N)(hb:s.n<1000000)(hf:∀i,i<s.n->f (s.g i)=some (p i)) :∃r,Co N (fun self1 (x1:Int)=>
  if (decide (x1<(s.n:Int))) then
   if ((0:Int)<=x1/\x1<(s.n:Int))then
    (f (s.g x1.toNat)).bind fun y3=>
    if y3 then some x1 else self1 (wrap .i64 (x1+1))
   else none
  else some (-1)) 0=some r/\(decide (0<=r)=(List.range s.n).any p):=by
 refine Mo (fun i x=>x=(i:Int)/\∀j,j<i->p j=false) s.n _ hn ⟨rfl,fun j hj=>absurd hj (by omega)⟩ ?_;rintro self i x hi ⟨rfl,hp⟩ hs;by_cases hlt:i<s.n
 ·refine ifT (by simp;omega) (ifT (by omega) ?_);rw[Int.toNat_natCast];refine X5 (hf i hlt) ?_;by_cases hpi:p i=true
  ·refine ifT hpi ⟨_,rfl,?_⟩;rw[decide_eq_true (by omega),eq_comm,List.any_eq_true];exact⟨i,List.mem_range.2 hlt,hpi⟩
  ·refine ifF hpi (hs hlt _ ⟨Q8 (by omega),fun j hj=>?_⟩);by_cases e:j=i
   ·subst e;simpa using hpi
   ·exact hp j (by omega)
 ·refine ifF (by simp;omega) ⟨_,rfl,?_⟩;rw[decide_eq_false (by decide),eq_comm,List.any_eq_false];intro j hj;rw[List.mem_range]at hj;simp[hp j (by omega)]
theorem Gl {N:Nat}{s:Sl Int}{f:Int->Option Bool}{p:Nat->Bool}(hn:s.n<N)(hb:s.n<1000000)(hf:∀i,i<s.n->f (s.g i)=some (p i)) :B1 N s f=some ((List.range s.n).any p):=by obtain⟨r,h1,h2⟩:=ST hn hb hf;unfold B1 E3;rw[h1];show some (decide (0<=r))=_;rw[h2]
theorem HM {N:Nat}{s:Sl Int}{f:Int->Option Bool}{p:Nat->Bool}(hn:s.n<N)(hb:s.n<1000000)(hf:∀i,i<s.n->f (s.g i)=some (p i)) :C6 N s f=some ((List.range s.n).any p):=by obtain⟨r,h1,h2⟩:=ST hn hb hf;unfold C6 H4;rw[h1];show some (decide (0<=r))=_;rw[h2]
theorem Iu {N:Nat}{a b:Sl Int}(hn:a.n<N)(hb:a.n<1000000)(h:a.toList=b.toList):D4 N a b=some true:=by
 obtain⟨e,hg⟩:=Yk h;unfold D4;rw[if_neg (by simp[e])];obtain⟨r,h1,rfl⟩:=Mo (body:=fun self1 (x1:Int)=>
  if (decide (x1<(a.n:Int))) then
   if (((0:Int)<=x1/\x1<(a.n:Int))/\((0:Int)<=x1/\x1<(b.n:Int)))then
    if ((a.g x1.toNat) != (b.g x1.toNat)) then some false else self1 (wrap .i64 (x1+1))
   else none
  else some true) (fun i x=>x=(i:Int)) a.n (fun r=>r=true) hn (a:=0) rfl (by
  rintro self i x hi rfl hs;by_cases hlt:i<a.n
  ·refine ifT (by simp;omega) (ifT (by omega) ?_);rw[Int.toNat_natCast];exact ifF (by rw[hg i hlt];simp) (hs hlt _ (Q8 (by omega)))
  ·exact ifF (by simp;omega) ⟨_,rfl,rfl⟩)
 exact h1
theorem GL {N:Nat}{a b:Sl Int}(hn:a.n<N)(hb:a.n<1000000)(h:a.toList=b.toList):B0 N a b=some true:=Iu hn hb h
theorem Uk {N:Nat}{a b:Sl B6}(hn:a.n<N)(hb:a.n<1000000)(h:a.toList=b.toList):D3 N a b=some true:=by
 obtain⟨e,hg⟩:=Yk h;unfold D3;rw[if_neg (by simp[e])];obtain⟨r,h1,rfl⟩:=Mo (body:=fun self1 (x1:Int)=>
  if (decide (x1<(a.n:Int))) then
   if (((0:Int)<=x1/\x1<(a.n:Int))/\((0:Int)<=x1/\x1<(b.n:Int)))then
    if ((((a.g x1.toNat).a0==(b.g x1.toNat).a0)&&((a.g x1.toNat).a1==(b.g x1.toNat).a1)) != true) then some false else self1 (wrap .i64 (x1+1))
   else none
  else some true) (fun i x=>x=(i:Int)) a.n (fun r=>r=true) hn (a:=0) rfl (by
  rintro self i x hi rfl hs;by_cases hlt:i<a.n
  ·refine ifT (by simp;omega) (ifT (by omega) ?_);rw[Int.toNat_natCast];exact ifF (by rw[hg i hlt];simp) (hs hlt _ (Q8 (by omega)))
  ·exact ifF (by simp;omega) ⟨_,rfl,rfl⟩)
 exact h1
def FL (p:Nat->Bool)(n:Nat):List Int:=((List.range n).filter p).map fun (i:Nat)=>(i:Int)
theorem Iv (p:Nat->Bool)(n:Nat):FL p (n+1)=FL p n++if p n then [(n:Int)]else []:=by
 unfold FL;rw[List.range_succ,List.filter_append,List.map_append];congr 1;by_cases h:p n=true
 ·simp[h]
 ·simp[h]
theorem Gm (p:Nat->Bool):∀n,(FL p n).length<=n
 |0=>by simp[FL]
 |n+1=>by rw[Iv,List.length_append];have:=Gm p n;split<;>simp<;>omega
theorem Nf {t:A1}{q:Int->Option Bool}{p:Nat->Bool}(hb:t.Has.n<1000000)(hf:∀i,i<t.Has.n->q (t.Has.g i)=some (p i)) :∀(k i:Nat),i+k=t.Has.n->∀N,k<N->Co N (fun self1 (x1:Int)=>
  if (decide (x1<(t.Has.n:Int))) then
   if ((0:Int)<=x1/\x1<(t.Has.n:Int))then
    (q (t.Has.g x1.toNat)).bind fun y3=>
    if y3 then Hj x1 (self1 (wrap .i64 (x1+1)))else self1 (wrap .i64 (x1+1))
   else none
  else some []) (i:Int)=some (((List.range' i k).filter p).map fun (i:Nat)=>(i:Int))
 |0,i,hi,N+1,_=>by rw[Kl,if_neg (by simp;omega)];rfl
 |k+1,i,hi,N+1,hN=>by
  rw[Kl,if_pos (by simp;omega),if_pos (by omega),Int.toNat_natCast,hf i (by omega)];show (if p i then _ else _)=_;rw[Q8 (by omega),Nf hb hf k (i+1) (by omega) N (by omega),List.range'_succ];by_cases h:p i=true
  ·rw[if_pos h,List.filter_cons_of_pos h];rfl
  ·rw[if_neg h,List.filter_cons_of_neg h]
theorem Fx {N:Nat}{t:A1}{q:Int->Option Bool}{p:Nat->Bool}(hn:t.Has.n<N)(hb:t.Has.n<1000000)(hf:∀i,i<t.Has.n->q (t.Has.g i)=some (p i)) :B4 N t q=some (FL p t.Has.n):=by
 have:=Nf hb hf t.Has.n 0 (by omega) N hn
 rw[<- List.range_eq_range']at this;exact this
theorem Ul {N:Nat}{t:A1}{q:Int->Option Bool}{p:Nat->Bool}(hn:t.Has.n<N)(hb:t.Has.n<1000000)(hf:∀i,i<t.Has.n->q (t.Has.g i)=some (p i)) :J0 N t q=some (FL p t.Has.n):=Fx hn hb hf
theorem Iw:∀(L:List Int) (z:Nat),z+L.length<1000000->S7 L (fun self1 (x1:Int) (z1:Int)=>self1 (wrap .i64 (z1+1))) (fun (z1:Int)=>some (z1,(0:Int))) (z:Int)=some (((z+L.length:Nat):Int),0)
 |[],z,_=>rfl
 |x::L,z,h=>by show S7 L _ _ (wrap .i64 ((z:Int)+1))=_;rw[Q8 (by simp at h;omega),Iw L (z+1) (by simp at h⊢;omega)];simp only[List.length_cons];congr 3;omega
theorem Jd:∀(L:List Int) (z:Sl Int),z.n+L.length<1000000->∃s,S7 L (fun self1 (x1:Int) (z1:Sl Int)=>
 if ((z1.n+(Sl.of [x1]:Sl Int).n)*8<=140737488355328/\z1.n+(Sl.of [x1]:Sl Int).n<=140737488355328)then self1 (z1.push x1)else none) (fun (z1:Sl Int)=>some z1) z=some s/\s.toList=z.toList++L
 |[],z,_=>⟨z,rfl,by simp⟩
 |x::L,z,h=>by
  simp only[List.length_cons]at h;obtain⟨s,h1,h2⟩:=Jd L (z.push x) (by show z.n+1+_<_;omega);refine⟨s,?_,?_⟩
  ·show (if _ then S7 L _ _ _ else none)=_;rw[if_pos (by show (z.n+1)*8<=_/\z.n+1<=_;omega)];exact h1
  ·rw[h2,GK];simp
theorem Lp {N:Nat}{L:List Int}(h:L.length<1000000):∃s,K4 N L=some s/\s.toList=L:=by obtain⟨s,h1,h2⟩:=Jd L Sl.nil (by show 0+_<_;omega);refine⟨s,?_,by simpa[Sl.toList]using h2⟩;unfold K4 G8;rw[h1];rfl
end Go.AM
namespace Go.AM
open IntKind (wrap)
open Go.Proofs
def G0 (x:BitVec 64):Nat->Nat
 |0=>0
 |L+1=>G0 x L+if x.getLsbD L then 1 else 0
theorem X6 (x:BitVec 64):∀L,G0 x L<=L
 |0=>Nat.le_refl _
 |L+1=>by have:=X6 x L;simp only[G0];split<;>omega
theorem cntB_zero {x:BitVec 64}:∀{L:Nat},G0 x L=0 ↔ ∀k,k<L->x.getLsbD k=false
 |0=>⟨fun _ k hk=>absurd hk (by omega),fun _=>rfl⟩
 |L+1=>by
  simp only[G0];constructor
  ·intro h k hk;by_cases e:k=L
   ·subst e;cases hb:x.getLsbD k with
    |true=>simp[hb]at h
    |false=>rfl
   ·have h1:G0 x L=0:=by omega
    exact cntB_zero.1 h1 k (by omega)
  ·intro h;rw[cntB_zero.2 fun k hk=>h k (by omega),h L (by omega)];rfl
theorem cntB_full {x:BitVec 64}:∀{L:Nat},G0 x L=L ↔ ∀k,k<L->x.getLsbD k=true
 |0=>⟨fun _ k hk=>absurd hk (by omega),fun _=>rfl⟩
 |L+1=>by
  have hl:=X6 x L;simp only[G0];constructor
  ·intro h k hk;cases hb:x.getLsbD L with
   |false=>simp[hb]at h;omega
   |true=>
    by_cases e:k=L
    ·subst e;exact hb
    ·simp[hb]at h;exact cntB_full.1 h k (by omega)
  ·intro h;rw[cntB_full.2 fun k hk=>h k (by omega),h L (by omega)];rfl
theorem CF {x y:BitVec 64}{t:Nat}(hy:∀k,k<64->y.getLsbD k=(x.getLsbD k&&decide (k≠t)))(ht:x.getLsbD t=true):∀L,L<=64->G0 x L=G0 y L+if t<L then 1 else 0
 |0,_=>by simp[G0]
 |L+1,h=>by
  simp only[G0];rw[CF hy ht L (by omega),hy L (by omega)];by_cases e:L=t
  ·subst e;simp[ht]
  ·by_cases h1:t<L
   ·simp[e,h1,show t<L+1 by omega];omega
   ·simp[e,h1,show ¬t<L+1 by omega]
theorem Je {x:BitVec 64}:U x=0↔x=0#64:=⟨fun h=>BitVec.eq_of_toNat_eq (by have:(x.toNat:Int)=0:=h;simp;omega),fun h=>by subst h;rfl⟩
theorem Cn {x:BitVec 64}:x=0#64 ↔ ∀k,k<64->x.getLsbD k=false:=
 ⟨fun h k _=>by subst h;simp,fun h=>DY fun b hb=>by rw[h b hb];simp⟩
theorem FJ {a k:Nat}(ha:a<64)(hk:k<64):(1#64 <<< a).getLsbD k=decide (k=a):=VO ha hk
theorem Qx (x:BitVec 64)(h:x≠0#64):∃t,t<64/\x.getLsbD t=true/\(∀k,k<t->x.getLsbD k=false)/\∀k,k<64->(x &&& (x-1#64)).getLsbD k=(x.getLsbD k&&decide (k≠t)):=by
 have h0:x.toNat≠0:=fun e=>h (BitVec.eq_of_toNat_eq (by simpa using e));obtain⟨m,hm,hlt⟩:=Lib.ctzFrom_spec 64 x.toNat (by omega) x.isLt;generalize Lib.ctzFrom 64 x.toNat=t at hm hlt;have hp:0<2 ^ t:=Nat.pow_pos (by decide);have e:x.toNat-1=2 ^ t*(2*m)+(2 ^ t-1):=by rw[hm,Nat.mul_add];omega
 have hsub:(x-1#64).toNat=x.toNat-1:=by rw[BitVec.toNat_sub];have:=x.isLt;simp only[BitVec.toNat_ofNat];omega
 refine⟨t,hlt,?_,fun k hk=>?_,fun k hk=>?_⟩
 ·show x.toNat.testBit _=true;rw[hm,Nat.testBit_two_pow_mul];simp[<- hm,Nat.testBit_zero]
 ·show x.toNat.testBit _=false;rw[hm,Nat.testBit_two_pow_mul];simp[<- hm];omega
 ·rw[BitVec.getLsbD_and];show (x.getLsbD k&&(x-1#64).toNat.testBit k)=_;rw[hsub,e,Nat.testBit_two_pow_mul_add _ (by omega)];show (x.toNat.testBit k&&_)=(x.toNat.testBit k&&_);rw[hm,Nat.testBit_two_pow_mul];by_cases h1:k<t
  ·simp[h1];omega
  ·by_cases h2:k=t
   ·subst h2;simp[Nat.testBit_zero]
   ·simp only[h1,if_false];rw[show k-t=(k-t-1)+1 by omega,Nat.testBit_succ,Nat.testBit_succ,show (2*m+1) / 2=m by omega,show 2*m / 2=m by omega];simp[h2]
theorem Yl (x:BitVec 64):wrap .u64 (U x-1)=U (x-1#64):=by
 by_cases h:x=0#64
 ·subst h;decide
 ·have h0:x.toNat≠0:=fun e=>h (BitVec.eq_of_toNat_eq (by simpa using e));have hsub:(x-1#64).toNat=x.toNat-1:=by rw[BitVec.toNat_sub];have:=x.isLt;simp only[BitVec.toNat_ofNat];omega
  have e:U x-1=((x.toNat-1:Nat):Int):=by show ((x.toNat:Nat):Int)-1=_;omega
  rw[e,Y3 (by have:=x.isLt;omega)];show _=(((x-1#64).toNat:Nat):Int);rw[hsub]
def JE (L:Nat)(x:BitVec 64):Prop:=∀k,L<=k->k<64->x.getLsbD k=false
theorem Qy {L:Nat}{x:BitVec 64}(hs:JE L x)(hL:L<=64):x=0#64↔G0 x L=0:=by rw[Cn,cntB_zero];exact⟨fun h k hk=>h k (by omega),fun h k hk=>by by_cases h1:k<L;exact h k h1;exact hs k (by omega) hk⟩
theorem VV {L:Nat}{x:BitVec 64}(hs:JE L x)(hL:L<=64):(A9 .and .u64 (U x) (wrap .u64 (U x-1)) != 0)=decide (2<=G0 x L):=by
 rw[Yl,Mc];by_cases h:x=0#64
 ·have:=(Qy hs hL).1 h
  rw[this];subst h;decide
 ·obtain⟨t,ht,hb,hl,hk⟩:=Qx x h;have htL:t<L:=by
   by_cases h1:t<L
   ·exact h1
   ·rw[hs t (by omega) ht]at hb;cases hb
  have hs' : JE L (x &&& (x-1#64)):=fun k h1 h2=>by rw[hk k h2,hs k h1 h2];rfl
  have hc:=CF hk hb L hL;rw[if_pos htL]at hc;generalize x &&& (x-1#64)=y at hs' hc;rw[Bool.eq_iff_iff,bne_iff_ne,decide_eq_true_eq,Ne,Je,Qy hs' hL];omega
theorem SU {L:Nat}{x:BitVec 64}(hs:JE L x)(hL:L<=64):(U x != U (HR L))=decide (G0 x L<L):=by
 have h1:=X6 x L;rw[Bool.eq_iff_iff,bne_iff_ne,decide_eq_true_eq]
 have:U x=U (HR L)↔G0 x L=L:=by
  rw[cntB_full];constructor
  ·intro h k hk
   have:x=HR L:=BitVec.eq_of_toNat_eq (by have:(x.toNat:Int)=(HR L).toNat:=h;omega)
   rw[this,W4 (by omega)];simpa using hk
  ·intro h;congr 1;refine DY fun b hb=>?_;rw[W4 hb];by_cases h2:b<L
   ·simp[h b h2,h2]
   ·simp[hs b (by omega) hb,h2]
 rw[Ne,this];omega
theorem XB {L a:Nat}{x:BitVec 64}(hs:JE L x)(hL:L<=64)(ha:a<L):(U x==shI .shl .u64 1 (a:Int))=(x.getLsbD a&&decide (G0 x L=1)):=by
 rw[Ub a (by omega),Bool.eq_iff_iff,beq_iff_eq,Bool.and_eq_true,decide_eq_true_eq];have hw:∀k,k<64->(x &&& ~~~ (1#64 <<< a)).getLsbD k=(x.getLsbD k&&decide (k≠a)):=fun k hk=>by rw[BitVec.getLsbD_and,BitVec.getLsbD_not,FJ (by omega) hk];simp[hk]
 constructor
 ·intro h;have e:x=1#64 <<< a:=BitVec.eq_of_toNat_eq (by have:(x.toNat:Int)=((1#64 <<< a).toNat:Nat):=h;omega);have hb:x.getLsbD a=true:=by rw[e,FJ (by omega) (by omega)];simp
  refine⟨hb,?_⟩;rw[CF hw hb L hL,if_pos ha,cntB_zero.2 fun k hk=>by rw[hw k (by omega),e,FJ (by omega) (by omega)];simp]
 ·rintro⟨hb,hc⟩;rw[CF hw hb L hL,if_pos ha]at hc;have h0:=cntB_zero.1 (show G0 (x &&& ~~~ (1#64 <<< a)) L=0 by omega);congr 1;refine DY fun b hb'=>?_;rw[FJ (by omega) hb',decide_eq_true_eq];by_cases e:b=a
  ·subst e;simp[hb]
  ·by_cases h2:b<L
   ·have:=h0 b h2
    rw[hw b hb']at this;simp[e]at this;simp[this,e]
   ·simp[hs b (by omega) hb',e]
def Jw (f:Nat->Bool)(L:Nat):Bool:=(List.range L).any f
theorem Lq (f:Nat->Bool)(L:Nat):Jw f (L+1)=(Jw f L||f L):=by simp[Jw,List.range_succ]
theorem VW {L:Nat}{x:BitVec 64}(hs:JE L x)(hL:L<=64):(U x==0) = !Jw x.getLsbD L:=by
 rw[Bool.eq_iff_iff,beq_iff_eq,Je,Bool.not_eq_true',Cn,Jw,List.any_eq_false];exact⟨fun h k hk=>by rw[h k (by have:=List.mem_range.1 hk;omega)];simp,fun h k hk=>by
  by_cases h1:k<L
  ·simpa using h k (List.mem_range.2 h1)
  ·exact hs k (by omega) hk⟩
def SV (L:Nat)(x y:BitVec 64):Bool:=((!Jw (fun k=>x.getLsbD k&&y.getLsbD k) L)||(!Jw (fun k=>x.getLsbD k && !y.getLsbD k) L))||(!Jw (fun k=>(!x.getLsbD k)&&y.getLsbD k) L)
theorem Ix {f g:Nat->Bool}{L:Nat}(h:∀k,k<L->f k=g k):Jw f L=Jw g L:=by unfold Jw;rw[Bool.eq_iff_iff,List.any_eq_true,List.any_eq_true];exact⟨fun⟨k,h1,h2⟩=>⟨k,h1,by rw[<- h k (List.mem_range.1 h1)];exact h2⟩,fun⟨k,h1,h2⟩=>⟨k,h1,by rw[h k (List.mem_range.1 h1)];exact h2⟩⟩
theorem VX {N L:Nat}{x y:BitVec 64}(hx:JE L x)(hy:JE L y)(hL:L<=64):AH N (U x) (U y)=some (SV L x y):=by
 unfold AH SV;rw[Mc,DX,DX,VW (L:=L) (fun k h1 h2=>by simp[hx k h1 h2]) hL,VW (L:=L) (fun k h1 h2=>by simp[hx k h1 h2]) hL,VW (L:=L) (fun k h1 h2=>by simp[hy k h1 h2]) hL];rw[Ix (f:=(x &&& y).getLsbD) (g:=fun k=>x.getLsbD k&&y.getLsbD k) fun k _=>by simp,
  Ix (f:=(x &&& ~~~ y).getLsbD) (g:=fun k=>x.getLsbD k && !y.getLsbD k) fun k hk=>by simp[show k<64 by omega],
  Ix (f:=(y &&& ~~~ x).getLsbD) (g:=fun k=>(!x.getLsbD k)&&y.getLsbD k) fun k hk=>by simp[show k<64 by omega,Bool.and_comm]]
theorem Lr {N:Nat}(x:BitVec 64)(k:Nat):I4 N (U x) (k:Int)=some (x.getLsbD k):=by unfold I4;rw[if_pos (by omega),Zp]
theorem SW {N L:Nat}{t:C8}(hN:1000<=N)(ht:t.Langs=L)(hL:L<=64)(x:BitVec 64):AK N t (U x)=some (G0 x L:Int):=by
 unfold AK;obtain⟨r,h1,h2⟩:=OF (body:=fun self1 (x1:Int) (x2:Int)=>
  if (decide (x2<t.Langs)) then
   (I4 N (U x) x2).bind fun y3=>
   if y3 then self1 (wrap .i64 (x1+1)) (wrap .i64 (x2+1))else self1 x1 (wrap .i64 (x2+1))
  else some x1) (fun i x1 x2=>x2=(i:Int)/\x1=(G0 x i:Int)) L (fun r=>r=(G0 x L:Int)) (N:=N) (by omega) (a:=0) (b:=0) ⟨rfl,rfl⟩ (by
  rintro self i x1 x2 hi ⟨rfl,rfl⟩ hs;have hc:=X6 x i;by_cases hlt:i<L
  ·refine ifT (by simp[ht];omega) (X5 (Lr x i) ?_);by_cases hb:x.getLsbD i=true
   ·exact ifT hb (hs hlt _ _ ⟨Q8 (by omega),by rw[Q8 (by omega)];simp[G0,hb]⟩)
   ·exact ifF hb (hs hlt _ _ ⟨Q8 (by omega),by simp[G0,hb]⟩)
  ·obtain rfl:i=L:=by omega
   exact ifF (by simp[ht]) ⟨_,rfl,rfl⟩)
 rw[h1,h2]
theorem Zt {N L:Nat}{t:C8}(hN:1000<=N)(ht:t.Langs=L)(hL:L<=64)(x y:BitVec 64):Dz N t (U x) (U y)=some (SV L x y):=by
 unfold Dz;obtain⟨r,h1,h2⟩:=Ae0 (body:=fun self1 (x4:Bool) (x5:Bool) (x6:Bool) (x7:Int)=>
  if (decide (x7<t.Langs)) then
   lt (fun (z7:Bool)=>
    lt (fun (z8:Bool)=>
     lt (fun (z9:Bool)=>
      self1 z7 z8 z9 (wrap .i64 (x7+1))
      ) fun k9=>
      if x6 then
       k9 true
      else
       (I4 N (U x) x7).bind fun y32=>
       if (!y32) then
        (I4 N (U y) x7).bind fun y33=>
        k9 y33
       else
        k9 false
     ) fun k8=>
     if x5 then
      k8 true
     else
      (I4 N (U x) x7).bind fun y28=>
      if y28 then
       (I4 N (U y) x7).bind fun y29=>
       k8 (!y29)
      else
       k8 false
    ) fun k7=>
    if x4 then
     k7 true
    else
     (I4 N (U x) x7).bind fun y24=>
     if y24 then
      (I4 N (U y) x7).bind fun y25=>
      k7 y25
     else
      k7 false
  else
   some (((!x4)||(!x5))||(!x6))) (fun i (a b c:Bool) (d:Int)=>d=(i:Int)/\a=Jw (fun k=>x.getLsbD k&&y.getLsbD k) i/\b=Jw (fun k=>x.getLsbD k && !y.getLsbD k) i/\c=Jw (fun k=>(!x.getLsbD k)&&y.getLsbD k) i) L (fun r=>r=SV L x y) (N:=N) (by omega) (a:=false) (b:=false) (c:=false) (d:=0) ⟨rfl,rfl,rfl,rfl⟩ (by
  rintro self i a b c d hi ⟨rfl,rfl,rfl,rfl⟩ hs;by_cases hlt:i<L
  ·refine ifT (by simp[ht];omega) ?_;have fin:∃r,self (Jw (fun k=>x.getLsbD k&&y.getLsbD k) (i+1)) (Jw (fun k=>x.getLsbD k && !y.getLsbD k) (i+1)) (Jw (fun k=>(!x.getLsbD k)&&y.getLsbD k) (i+1)) (wrap .i64 ((i:Int)+1))=some r/\r=SV L x y:=
    hs hlt _ _ _ _ ⟨Q8 (by omega),rfl,rfl,rfl⟩
   simp only[lt,Lr,Option.bind_some];rw[Lq,Lq,Lq]at fin;generalize Jw (fun k=>x.getLsbD k&&y.getLsbD k) i=a at fin⊢;generalize Jw (fun k=>x.getLsbD k && !y.getLsbD k) i=b at fin⊢;generalize Jw (fun k=>(!x.getLsbD k)&&y.getLsbD k) i=c at fin⊢;generalize x.getLsbD i=p at fin⊢;generalize y.getLsbD i=q at fin⊢;cases a<;>cases b<;>cases c<;>cases p<;>cases q<;>exact fin
  ·obtain rfl:i=L:=by omega
   exact ifF (by simp[ht]) ⟨_,rfl,rfl⟩)
 exact h1.trans (congrArg some h2)
end Go.AM
