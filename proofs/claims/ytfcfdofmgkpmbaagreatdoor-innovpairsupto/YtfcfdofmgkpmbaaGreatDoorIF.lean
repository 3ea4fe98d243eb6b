/- What a law's walk and its plain proof need, part 6: no condition of its own. -/
import Derived.Test.YtfcfdofmgkpmbaaGreatDoorIE
import Derived.Test.YtfcfdofmgkpmbaaGreatDoorID
set_option linter.defProp false
set_option linter.unusedSimpArgs false
set_option linter.unusedVariables false
set_option linter.unusedSectionVars false
namespace Go.AM
open IntKind (wrap)
def Ad8:=@List.any_eq_false
def Ae5:=@Bool.or_eq_false_iff
def Af2:=@BitVec.getLsbD_not
open Go.Proofs
set_option maxRecDepth 10000
set_option maxHeartbeats 2000000
variable {S:X8}(hS:F6 S Tryz.prog) (hL:Oq S)
include hS hL
def Oz (rec:J1->Int->Option (Sl Int))(N:Nat)(p_h:J1)(p_v:Int):Option (Sl Int):=
 if (decide (p_v<0)) then
  some (Sl.nil:Sl Int)
 else
  if ((0:Int)<=p_v/\p_v<(p_h.Tree.n:Int))then
   (rec p_h (p_h.Tree.g p_v.toNat).Parent).bind fun y1=>
   if (((0:Int)<=p_v/\p_v<(p_h.On.n:Int))/\((y1.n+(p_h.On.g p_v.toNat).n)*8<=140737488355328/\y1.n+(p_h.On.g p_v.toNat).n<=140737488355328))then
    some (y1.app (p_h.On.g p_v.toNat))
   else none
  else none
def RO:Nat->J1->Int->Option (Sl Int)
 |0=>fun _ _=>none
 |N+1=>Oz (RO N) N
def Dl (N:Nat)(p_c:Int):Option Bool:=
 some (((((decide (97<=p_c))&&(decide (p_c<=122)))||((decide (65<=p_c))&&(decide (p_c<=90))))||((decide (48<=p_c))&&(decide (p_c<=57))))||(p_c==45))
theorem MI {N:Nat}{p_c:Int}{y:Bool}(h:Dl N p_c=some y) :FunO S Gp [.p (pI .u8 p_c)] [] (pB y) ([]) []:=by unfold Dl at h;refine A4 hS Mp ?_;refine kB hS (A7 hS) trivial trivial 23 (.o (.o (.o (.n (.a (decide (97<=p_c))) (.a (decide (p_c<=122)))) (.n (.a (decide (65<=p_c))) (.a (decide (p_c<=90))))) (.n (.a (decide (48<=p_c))) (.a (decide (p_c<=57))))) (.a (p_c==45))) ?_;cases h;exact kR hS
def Eu (N:Nat)(p_s:Str):Option Bool:=
 CA N (fun self1 (x1:Int)=>
  if (decide (x1<(p_s.length:Int))) then
   if ((0:Int)<=x1/\x1<(p_s.length:Int))then
    (Dl N (XP p_s x1)).bind fun y3=>
    if (!y3) then
     some false
    else
     self1 (wrap .i64 (x1+1))
   else none
  else
   some ((decide (0<(p_s.length:Int)))&&(decide ((p_s.length:Int)<=24)))
  ) 0
theorem OA {N:Nat}{p_s:Str}{y:Bool}(h:Eu N p_s=some y) :FunO S HH [.p (.str p_s)] [] (pB y) ([]) []:=by
 unfold Eu at h;refine A4 hS Oe ?_;refine Z6 hS trivial h (fun x1=>⟨[(6,pN x1),(5,pN (p_s.length:Int)),(0,.p (.str p_s))],[]⟩) (ids:=[]) (fun _ _ _ _ _ self1 x1 hb1 h=>?_);refine kI hS h (fun h=>?_) (fun h=>?_)
 ·obtain⟨c8,h⟩:=G5 h;obtain⟨y3,e3,h⟩:=B5 h;refine B6 hS [] c8 (MI hS hL e3) ?_;refine kI hS h (fun h=>?_) (fun h=>?_)
  ·cases h;exact kR hS
  ·exact hb1 _ [] _ (wrap .i64 (x1+1)) trivial h
 ·refine kB hS (A7 hS) trivial trivial 4 (.n (.a (decide (0<(p_s.length:Int)))) (.a (decide ((p_s.length:Int)<=24)))) ?_;cases h;exact kR hS
def BU (N:Nat)(p_t:Sl T0):Option Int:=
 if (((p_t.n:Int)==0)||(decide (63<(p_t.n:Int)))) then
  some 16
 else
  Dv N (fun self1 (x2:List (Str×Bool)) (x3:Int)=>
   if (decide (x3<(p_t.n:Int))) then
    if ((0:Int)<=x3/\x3<(p_t.n:Int))then
     lt (fun (z3:Bool)=>
      if z3 then
       some 16
      else
       self1 (Rx eqS (p_t.g x3.toNat).Name true x2) (wrap .i64 (x3+1))
      ) fun k3=>
      if (decide (x3<=(p_t.g x3.toNat).Parent)) then
       k3 true
      else
       if (decide ((p_t.g x3.toNat).Parent<(if 0<(wrap .i64 (x3-1))then 0 else (wrap .i64 (x3-1))))) then
        k3 true
       else
        (Eu N (p_t.g x3.toNat).Name).bind fun y6=>
        if (!y6) then
         k3 true
        else
         XV (Ka eqS (p_t.g x3.toNat).Name x2) (
          k3 false
          ) fun v6=>
          k3 v6
    else none
   else
    some 0
   ) [] 0
theorem HM {N:Nat}{p_t:Sl T0}{y:Int}(h:BU N p_t=some y) :FunO S HE [.p (vSl 2 O1 p_t)] [] (pN y) ([]) []:=by
 unfold BU at h;refine A4 hS Ob ?_;refine kB hS (A7 hS) trivial trivial 4 (.o (.a ((p_t.n:Int)==0)) (.a (decide (63<(p_t.n:Int))))) ?_;refine kI hS h (fun h=>?_) (fun h=>?_)
 ·cases h;exact kR hS
 ·refine N1 hS trivial h (fun x2 x3=>⟨[(17,pN x3),(16,pN (p_t.n:Int)),(15,.p (vSl 2 O1 p_t)),(3,.mref 15000)],[(15000,.map (IR PV.str PV.bb x2))]⟩) (ids:=[(15000,15000)]) (fun _ _ _ _ _ self1 x2 x3 hb3 h=>?_);refine kI hS h (fun h=>?_) (fun h=>?_)
  ·obtain⟨c25,h⟩:=G5 h;refine JT hS (And.intro c25 (by decide:(2:Nat)<=2)) (A7 hS) h 0 (fun z3=>⟨[(45,pB z3),(17,pN x3),(16,pN (p_t.n:Int)),(15,.p (vSl 2 O1 p_t)),(5,.reg 6000 0),(3,.mref 15000)],[(15000,.map (IR PV.str PV.bb x2)),(6000,.cells [pN (p_t.g x3.toNat).Parent,.p (.str (p_t.g x3.toNat).Name)])]⟩) (fun M3 k3 hb4 h=>?_) (fun z3 h=>?_)
   ·refine kG hS h (fun h=>?_) (fun h=>?_)
    ·exact hb4 _ [(6000,6000),(15000,15000)] _ true trivial h
    ·refine kG hS h (fun h=>?_) (fun h=>?_)
     ·exact hb4 _ [(6000,6000),(15000,15000)] _ true trivial h
     ·refine kC hS h (OA hS hL) (fun y6 h=>?_);refine kG hS h (fun h=>?_) (fun h=>?_)
      ·exact hb4 _ [(6000,6000),(15000,15000)] _ true trivial h
      ·rcases o6:Ka eqS (p_t.g x3.toNat).Name x2 with _|v6
       ·replace h:=optN o6 h;refine EE hS trivial (kt:=An) (e:=VK) (key:=PV.str (p_t.g x3.toNat).Name) (es:=IR PV.str PV.bb x2) (x:=.v (.bool false)) (b:=false) (fd:=none) ((Bn (kP:=PV.str) (vP:=PV.bb) (eq:=eqS) (fun _ _=>by kernel_rfl) (p_t.g x3.toNat).Name x2).trans (by rw[o6];rfl)) trivial ?_;exact hb4 _ [(6000,6000),(15000,15000)] _ false trivial h
       ·replace h:=optS o6 h;refine EE hS trivial (kt:=An) (e:=VK) (key:=PV.str (p_t.g x3.toNat).Name) (es:=IR PV.str PV.bb x2) (x:=PV.bb v6) (b:=true) (fd:=some (PV.bb v6)) ((Bn (kP:=PV.str) (vP:=PV.bb) (eq:=eqS) (fun _ _=>by kernel_rfl) (p_t.g x3.toNat).Name x2).trans (by rw[o6];rfl)) trivial ?_;exact hb4 _ [(6000,6000),(15000,15000)] _ v6 trivial h
   ·refine kI hS h (fun h=>?_) (fun h=>?_)
    ·cases h;exact kR hS
    ·refine Ij hS trivial (kt:=An) (key:=PV.str (p_t.g x3.toNat).Name) (y:=PV.bb true) (es:=IR PV.str PV.bb x2) (FX (kP:=PV.str) (vP:=PV.bb) (eq:=eqS) (fun _ _=>by kernel_rfl) (p_t.g x3.toNat).Name true x2) trivial ?_;exact hb3 _ [(15000,15000)] _ (Rx eqS (p_t.g x3.toNat).Name true x2) (wrap .i64 (x3+1)) trivial h
  ·cases h;exact kR hS
def Bz (N:Nat)(p_h:J1):Option Int:=
 if ((0:Int)<=(p_h.On.n:Int)/\(p_h.On.n:Int)<=(p_h.On.n:Int)/\(p_h.On.n:Int)*8<=140737488355328/\(p_h.On.n:Int)<=140737488355328)then
  XQ N (fun self3 (x4:Sl Int) (x5:Bool) (x6:Int)=>
   if (decide (x6<(p_h.On.n:Int))) then
    if ((((0:Int)<=x6/\x6<(p_h.On.n:Int))/\((0:Int)<=x6/\x6<(x4.n:Int)))/\x6.toNat<x4.n)then
     if ((0:Int)<=x6/\x6<(p_h.Tree.n:Int))then
      lt (fun (z3:Sl Int)=>
       if (((0:Int)<=x6/\x6<(z3.n:Int))/\x6.toNat<z3.n)then
        if (decide (64<(z3.g x6.toNat))) then
         some 2
        else
         Dv N (fun self4 (x11:Bool) (x12:Int)=>
          if (decide (x12<((p_h.On.g x6.toNat).n:Int))) then
           if ((0:Int)<=x12/\x12<((p_h.On.g x6.toNat).n:Int))then
            self4 ((x11||(decide (((p_h.On.g x6.toNat).g x12.toNat)<0)))||(decide ((p_h.Laws.n:Int)<=((p_h.On.g x6.toNat).g x12.toNat)))) (wrap .i64 (x12+1))
           else none
          else
           self3 z3 x11 (wrap .i64 (x6+1))
          ) x5 0
       else none
       ) fun k3=>
       if (decide (0<=(p_h.Tree.g x6.toNat).Parent)) then
        if (((((((0:Int)<=x6/\x6<((x4.upd x6.toNat ((p_h.On.g x6.toNat).n:Int)).n:Int))/\x6.toNat<(x4.upd x6.toNat ((p_h.On.g x6.toNat).n:Int)).n)/\((0:Int)<=(p_h.Tree.g x6.toNat).Parent/\(p_h.Tree.g x6.toNat).Parent<((x4.upd x6.toNat ((p_h.On.g x6.toNat).n:Int)).n:Int)))/\(p_h.Tree.g x6.toNat).Parent.toNat<(x4.upd x6.toNat ((p_h.On.g x6.toNat).n:Int)).n)/\((0:Int)<=x6/\x6<((x4.upd x6.toNat ((p_h.On.g x6.toNat).n:Int)).n:Int)))/\x6.toNat<(x4.upd x6.toNat ((p_h.On.g x6.toNat).n:Int)).n)then
         k3 ((x4.upd x6.toNat ((p_h.On.g x6.toNat).n:Int)).upd x6.toNat (wrap .i64 (((x4.upd x6.toNat ((p_h.On.g x6.toNat).n:Int)).g x6.toNat)+((x4.upd x6.toNat ((p_h.On.g x6.toNat).n:Int)).g (p_h.Tree.g x6.toNat).Parent.toNat))))
        else none
       else
        k3 (x4.upd x6.toNat ((p_h.On.g x6.toNat).n:Int))
     else none
    else none
   else
    if x5 then
     some 3
    else
     some 0
   ) (Sl.rep (p_h.On.n:Int).toNat 0:Sl Int) false 0
 else none
theorem JG {N:Nat}{p_h:J1}{y:Int}(h:Bz N p_h=some y) :FunO S Ed [.p (.agg (D1 p_h))] [] (pN y) ([]) []:=by
 unfold Bz at h;refine A4 hS Jk ?_;refine J6 hS trivial 2 2000 (D1 p_h) ?_;obtain⟨c1,h⟩:=G5 h;refine QA hS c1 h (fun x4 x5 x6=>⟨[(17,pN x6),(16,pN (p_h.On.n:Int)),(15,.p (vSl 1 (cL 1 (cI .i64)) p_h.On)),(4,pB x5),(3,.vec 14000),(1,.p (.ptr (D1 p_h)))],[(14000,.vec E3 1 x4.n (fun i=>cI .i64 (x4.g i)) false)]⟩) (ids:=[(14000,14000)]) (fun _ _ _ _ _ self3 x4 x5 x6 hb5 h=>?_);refine kI hS h (fun h=>?_) (fun h=>?_)
 ·obtain⟨c35,h⟩:=G5 h;refine U0 hS (And.intro (And.intro c35.1.1 c35.1.2) (And.intro (rfl:(1:Nat)=1) (And.intro c35.2 (by decide:(1:Nat)<=1)))) 27 ⟨[(17,pN x6),(16,pN (p_h.On.n:Int)),(15,.p (vSl 1 (cL 1 (cI .i64)) p_h.On)),(6,.p (vSl 1 (cI .i64) (p_h.On.g x6.toNat))),(5,pN x6),(4,pB x5),(3,.vec 14000),(1,.p (.ptr (D1 p_h)))],[(14000,.vec E3 1 (x4.upd x6.toNat ((p_h.On.g x6.toNat).n:Int)).n (fun i=>cI .i64 ((x4.upd x6.toNat ((p_h.On.g x6.toNat).n:Int)).g i)) false)]⟩ (ids:=[(14000,14000)]) ?_ (hle:=klR [(7,.fn x4.n (x4.upd x6.toNat ((p_h.On.g x6.toNat).n:Int)).n (fun l=>if l=x6.toNat then splice ((fun i=>cI .i64 (x4.g i)) l) 0 [pI .i64 ((p_h.On.g x6.toNat).n:Int)]else (fun i=>cI .i64 (x4.g i)) l) (fun i=>cI .i64 ((x4.upd x6.toNat ((p_h.On.g x6.toNat).n:Int)).g i)))] (al1 ⟨rfl,XS (c:=cI .i64) (v:=x4) (x:=((p_h.On.g x6.toNat).n:Int)) same (fun _=>by first|rfl|(dsimp only;split<;>rfl))⟩ al0));obtain⟨c36,h⟩:=G5 h;refine JT hS c36 (A7 hS) h 0 (fun z3=>⟨[(17,pN x6),(16,pN (p_h.On.n:Int)),(15,.p (vSl 1 (cL 1 (cI .i64)) p_h.On)),(6,.p (vSl 1 (cI .i64) (p_h.On.g x6.toNat))),(5,pN x6),(4,pB x5),(3,.vec 14000),(1,.p (.ptr (D1 p_h)))],[(14000,.vec E3 1 z3.n (fun i=>cI .i64 (z3.g i)) false)]⟩) (fun M3 k3 hb6 h=>?_) (fun z3 h=>?_)
  ·refine kI hS h (fun h=>?_) (fun h=>?_)
   ·refine Fs hS trivial ?_;obtain⟨c41,h⟩:=G5 h;refine P3 (And.intro (And.intro (And.intro (And.intro (And.intro c41.1.1.1.1.1 c41.1.1.1.1.2) c41.1.1.1.2) c41.1.1.2) c41.1.2) (And.intro (rfl:(1:Nat)=1) (And.intro c41.2 (by decide:(1:Nat)<=1)))) ?_;exact hb6 _ [(14000,14000)] _ ((x4.upd x6.toNat ((p_h.On.g x6.toNat).n:Int)).upd x6.toNat (wrap .i64 (((x4.upd x6.toNat ((p_h.On.g x6.toNat).n:Int)).g x6.toNat)+((x4.upd x6.toNat ((p_h.On.g x6.toNat).n:Int)).g (p_h.Tree.g x6.toNat).Parent.toNat)))) trivial h (hle:=klR [(7,.fn (x4.upd x6.toNat ((p_h.On.g x6.toNat).n:Int)).n ((x4.upd x6.toNat ((p_h.On.g x6.toNat).n:Int)).upd x6.toNat (wrap .i64 (((x4.upd x6.toNat ((p_h.On.g x6.toNat).n:Int)).g x6.toNat)+((x4.upd x6.toNat ((p_h.On.g x6.toNat).n:Int)).g (p_h.Tree.g x6.toNat).Parent.toNat)))).n (fun l=>if l=x6.toNat then splice ((fun i=>cI .i64 ((x4.upd x6.toNat ((p_h.On.g x6.toNat).n:Int)).g i)) l) 0 [pI .i64 (wrap .i64 (((x4.upd x6.toNat ((p_h.On.g x6.toNat).n:Int)).g x6.toNat)+((x4.upd x6.toNat ((p_h.On.g x6.toNat).n:Int)).g (p_h.Tree.g x6.toNat).Parent.toNat)))]else (fun i=>cI .i64 ((x4.upd x6.toNat ((p_h.On.g x6.toNat).n:Int)).g i)) l) (fun i=>cI .i64 (((x4.upd x6.toNat ((p_h.On.g x6.toNat).n:Int)).upd x6.toNat (wrap .i64 (((x4.upd x6.toNat ((p_h.On.g x6.toNat).n:Int)).g x6.toNat)+((x4.upd x6.toNat ((p_h.On.g x6.toNat).n:Int)).g (p_h.Tree.g x6.toNat).Parent.toNat)))).g i)))] (al1 ⟨rfl,XS (c:=cI .i64) (v:=x4.upd x6.toNat ((p_h.On.g x6.toNat).n:Int)) (x:=wrap .i64 (((x4.upd x6.toNat ((p_h.On.g x6.toNat).n:Int)).g x6.toNat)+((x4.upd x6.toNat ((p_h.On.g x6.toNat).n:Int)).g (p_h.Tree.g x6.toNat).Parent.toNat))) same (fun _=>by first|rfl|(dsimp only;split<;>rfl))⟩ al0))
   ·exact hb6 _ [(14000,14000)] _ (x4.upd x6.toNat ((p_h.On.g x6.toNat).n:Int)) trivial h
  ·obtain⟨c42,h⟩:=G5 h;refine D5 hS c42 (b:=decide (64<(z3.g x6.toNat))) (fun c43=>?_) (fun c43=>?_)
   ·replace h:=itT c43 h;cases h;exact kR hS
   ·replace h:=itF c43 h;refine N1 hS trivial h (fun x11 x12=>⟨[(52,pN x12),(51,pN ((p_h.On.g x6.toNat).n:Int)),(50,.p (vSl 1 (cI .i64) (p_h.On.g x6.toNat))),(17,pN x6),(16,pN (p_h.On.n:Int)),(15,.p (vSl 1 (cL 1 (cI .i64)) p_h.On)),(4,pB x11),(3,.vec 14000),(1,.p (.ptr (D1 p_h)))],[(14000,.vec E3 1 z3.n (fun i=>cI .i64 (z3.g i)) false)]⟩) (ids:=[(14000,14000)]) (fun _ _ _ _ _ self4 x11 x12 hb7 h=>?_);refine kI hS h (fun h=>?_) (fun h=>?_)
    ·obtain⟨c49,h⟩:=G5 h;refine kB hS (A7 hS) c49 trivial 10 (.o (.o (.a x11) (.a (decide (((p_h.On.g x6.toNat).g x12.toNat)<0)))) (.a (decide ((p_h.Laws.n:Int)<=((p_h.On.g x6.toNat).g x12.toNat))))) ?_;exact hb7 _ [(14000,14000)] _ ((x11||(decide (((p_h.On.g x6.toNat).g x12.toNat)<0)))||(decide ((p_h.Laws.n:Int)<=((p_h.On.g x6.toNat).g x12.toNat)))) (wrap .i64 (x12+1)) trivial h
    ·exact hb5 _ [(14000,14000)] _ z3 x11 (wrap .i64 (x6+1)) trivial h
 ·refine kI hS h (fun h=>?_) (fun h=>?_)
  ·cases h;exact kR hS
  ·cases h;exact kR hS
def S3 (N:Nat)(p_h:J1):Option Int:=
 (BU N p_h.Tree).bind fun y1=>
 if (y1 != 0) then
  some 16
 else
  if (decide (64<(p_h.Laws.n:Int))) then
   some 12
  else
   Dv N (fun self1 (x1:List (Str×Int)) (x2:Int)=>
    if (decide (x2<(p_h.Laws.n:Int))) then
     if ((0:Int)<=x2/\x2<(p_h.Laws.n:Int))then
      (Bx N (p_h.Laws.g x2.toNat)).bind fun y4=>
      if (y4 != 0) then
       some 17
      else
       XV (Ka eqS (p_h.Laws.g x2.toNat).Name x1) (
        self1 (Rx eqS (p_h.Laws.g x2.toNat).Name (wrap .i64 (0+1)) x1) (wrap .i64 (x2+1))
        ) fun v3=>
        self1 (Rx eqS (p_h.Laws.g x2.toNat).Name (wrap .i64 (v3+1)) x1) (wrap .i64 (x2+1))
     else none
    else
     if (decide (((IR PV.str (pI .i64) x1).length:Int)<(p_h.Laws.n:Int))) then
      some 6
     else
      if ((p_h.On.n:Int) != (p_h.Tree.n:Int)) then
       some 2
      else
       (Bz N p_h).bind fun y5=>
       some y5
    ) [] 0
theorem BA {N:Nat}{p_h:J1}{y:Int}(h:S3 N p_h=some y) :FunO S Ea [.p (.agg (D1 p_h))] [] (pN y) ([]) []:=by
 unfold S3 at h;refine A4 hS Jg ?_;refine kC hS h (HM hS hL) (fun y1 h=>?_);refine kI hS h (fun h=>?_) (fun h=>?_)
 ·cases h;exact kR hS
 ·refine kI hS h (fun h=>?_) (fun h=>?_)
  ·cases h;exact kR hS
  ·refine N1 hS trivial h (fun x1 x2=>⟨[(18,pN x2),(17,pN (p_h.Laws.n:Int)),(16,.p (vSl 18 B3 p_h.Laws)),(3,.mref 15000),(1,.reg 2000 0)],[(15000,.map (IR PV.str (pI .i64) x1)),(2000,.cells ((D1 p_h).map .p))]⟩) (ids:=[(2000,2000),(15000,15000)]) (fun _ _ _ _ _ self1 x1 x2 hb1 h=>?_);refine kI hS h (fun h=>?_) (fun h=>?_)
   ·obtain⟨c10,h⟩:=G5 h;obtain⟨y4,e4,h⟩:=B5 h;refine B6 hS [] (And.intro c10 (by decide:(18:Nat)<=18)) (Fw hS hL e4) ?_;refine kI hS h (fun h=>?_) (fun h=>?_)
    ·cases h;exact kR hS
    ·rcases o3:Ka eqS (p_h.Laws.g x2.toNat).Name x1 with _|v3
     ·replace h:=optN o3 h;refine EE hS trivial (kt:=An) (e:=E3) (key:=PV.str (p_h.Laws.g x2.toNat).Name) (es:=IR PV.str (pI .i64) x1) (x:=pI .i64 0) (b:=false) (fd:=none) ((Bn (kP:=PV.str) (vP:=pI .i64) (eq:=eqS) (fun _ _=>by kernel_rfl) (p_h.Laws.g x2.toNat).Name x1).trans (by rw[o3];rfl)) trivial ?_;refine Ij hS trivial (kt:=An) (key:=PV.str (p_h.Laws.g x2.toNat).Name) (y:=pI .i64 (wrap .i64 (0+1))) (es:=IR PV.str (pI .i64) x1) (FX (kP:=PV.str) (vP:=pI .i64) (eq:=eqS) (fun _ _=>by kernel_rfl) (p_h.Laws.g x2.toNat).Name (wrap .i64 (0+1)) x1) trivial ?_;exact hb1 _ [(2000,2000),(15000,15000)] _ (Rx eqS (p_h.Laws.g x2.toNat).Name (wrap .i64 (0+1)) x1) (wrap .i64 (x2+1)) trivial h
     ·replace h:=optS o3 h;refine EE hS trivial (kt:=An) (e:=E3) (key:=PV.str (p_h.Laws.g x2.toNat).Name) (es:=IR PV.str (pI .i64) x1) (x:=pI .i64 v3) (b:=true) (fd:=some (pI .i64 v3)) ((Bn (kP:=PV.str) (vP:=pI .i64) (eq:=eqS) (fun _ _=>by kernel_rfl) (p_h.Laws.g x2.toNat).Name x1).trans (by rw[o3];rfl)) trivial ?_;refine Ij hS trivial (kt:=An) (key:=PV.str (p_h.Laws.g x2.toNat).Name) (y:=pI .i64 (wrap .i64 (v3+1))) (es:=IR PV.str (pI .i64) x1) (FX (kP:=PV.str) (vP:=pI .i64) (eq:=eqS) (fun _ _=>by kernel_rfl) (p_h.Laws.g x2.toNat).Name (wrap .i64 (v3+1)) x1) trivial ?_;exact hb1 _ [(2000,2000),(15000,15000)] _ (Rx eqS (p_h.Laws.g x2.toNat).Name (wrap .i64 (v3+1)) x1) (wrap .i64 (x2+1)) trivial h
   ·refine kI hS h (fun h=>?_) (fun h=>?_)
    ·cases h;exact kR hS
    ·refine kI hS h (fun h=>?_) (fun h=>?_)
     ·cases h;exact kR hS
     ·refine kC hS h (JG hS hL) (fun y5 h=>?_);cases h;exact kR hS
def Cl (N:Nat)(p_h:J1)(p_v:Int):Option Bool:=
 some ((decide (0<=p_v))&&(decide (p_v<(p_h.Tree.n:Int))))
theorem KD {N:Nat}{p_h:J1}{p_v:Int}{y:Bool}(h:Cl N p_h p_v=some y) :FunO S EV [.p (.agg (D1 p_h)),pN p_v] [] (pB y) ([]) []:=by unfold Cl at h;refine A4 hS Ki ?_;refine kB hS (A7 hS) trivial trivial 6 (.n (.a (decide (0<=p_v))) (.a (decide (p_v<(p_h.Tree.n:Int))))) ?_;cases h;exact kR hS
def BB (N:Nat)(q0:Int)(q1:Sl T0):Option (List (Int)):=
 Dv N (fun self1 (x1:Int) (x2:Sl Int)=>
  if (decide (0<=x1)) then
   if (((x2.n+(Sl.of [x1]:Sl Int).n)*8<=140737488355328/\x2.n+(Sl.of [x1]:Sl Int).n<=140737488355328)/\((0:Int)<=x1/\x1<(q1.n:Int)))then
    self1 (q1.g x1.toNat).Parent (x2.push x1)
   else none
  else
   CA N (fun self2 (x3:Int)=>
    if (decide (0<=x3)) then
     if (((0:Int)<=x3/\x3<(x2.n:Int))/\x3.toNat<x2.n)then
      Gb (x2.g x3.toNat) (
       self2 (wrap .i64 (x3-1))
       )
     else none
    else
     some []
    ) (wrap .i64 ((x2.n:Int)-1))
  ) q0 (Sl.nil:Sl Int)
theorem JH {N:Nat}{q0:Int}{q1:Sl T0}{L:List (Int)}(h:BB N q0 q1=some L) :CO S Z1 [] [.reg 0 0,.reg 1 0] [.cells [pN q0],.cells [.p (vSl 2 O1 q1)]] (L.map (fun (x:Int)=>[pI .i64 x])):=by
 unfold BB at h;refine CT hS Jn ?_;refine LZ hS trivial h (fun x1 x2 L1=>⟨[(4,.vec 5500),(2,.reg 1 0),(1,.reg 0 0),(0,.yf 2)],[(5500,.vec E3 1 x2.n (fun i=>cI .i64 (x2.g i)) false),(2,.yld (L1.map (fun (x:Int)=>[pI .i64 x])) true),(1,.cells [.p (vSl 2 O1 q1)]),(0,.cells [pN x1])]⟩) (ids:=[(0,0),(1,1),(2,2)]) (fun _ _ _ _ _ self1 x1 x2 L1 hb1 h=>?_);refine kI hS h (fun h=>?_) (fun h=>?_)
 ·obtain⟨c4,h⟩:=G5 h;exact hb1 _ [(0,0),(1,1),(2,2),(5500,17000)] _ (q1.g x1.toNat).Parent (x2.push x1) L1 (And.intro (And.intro (rfl:true=true) c4.1) c4.2) h (hle:=klR [(0,.fn (x2.n+1) (x2.push x1).n (AD x2.n (fun i=>cI .i64 (x2.g i)) (E9 [pI .i64 0] [(0,cI .i64 x1)])) (fun i=>cI .i64 ((x2.push x1).g i)))] (al1 ⟨rfl,NH (c:=cI .i64) (v:=x2) (x:=x1) (z:=[(pI .i64 0)]) same rfl rfl⟩ al0))
 ·refine DV hS trivial h (fun x3 L2=>⟨[(5,pN x3),(4,.vec 5500),(0,.yf 2)],[(5500,.vec E3 1 x2.n (fun i=>cI .i64 (x2.g i)) false),(2,.yld (L2.map (fun (x:Int)=>[pI .i64 x])) true),(1,.cells [.p (vSl 2 O1 q1)]),(0,.cells [pN x1])]⟩) (ids:=[(0,0),(1,1),(2,2),(5500,5500)]) (fun _ _ _ _ _ self2 x3 L2 hb2 h=>?_);refine kI hS h (fun h=>?_) (fun h=>?_)
  ·obtain⟨c14,h⟩:=G5 h;obtain⟨L5,rfl,hcL5⟩:=IV h;replace h:=hcL5;refine Bo hS c14 (ys:=(fun (x:Int)=>[pI .i64 x]) (x2.g x3.toNat)) (rest:=L5.map (fun (x:Int)=>[pI .i64 x])) ?_ ?_
   ·refine D5 hS trivial (b:=false) (fun c15=>?_) (fun c15=>?_)
    ·exact Bool.noConfusion ((rfl:false=false).symm.trans c15)
    ·exact hb2 _ [(0,0),(1,1),(2,2),(5500,5500)] _ (wrap .i64 (x3-1)) L5 trivial h
   ·refine D5 hS trivial (b:=true) (fun c16=>?_) (fun c16=>?_)
    ·exact A6 hS trivial (a:=.tup []) (objs:=[(.cells [pN x1]),.cells [.p (vSl 2 O1 q1)],.yld [] false]) ⟨[],[(2,.yld [] false),(1,.cells [.p (vSl 2 O1 q1)]),(0,.cells [pN x1])]⟩ [0,1,2] (ids:=[(0,0),(1,1),(2,2)]) ⟨false,rfl,rfl,_,rfl⟩
    ·exact Bool.noConfusion ((rfl:true=true).symm.trans c16)
  ·obtain rfl:=B4 h;exact A6 hS trivial (a:=.tup []) (objs:=[(.cells [pN x1]),.cells [.p (vSl 2 O1 q1)],.yld [] true]) ⟨[],[(2,.yld [] true),(1,.cells [.p (vSl 2 O1 q1)]),(0,.cells [pN x1])]⟩ [0,1,2] (ids:=[(0,0),(1,1),(2,2)]) ⟨true,rfl,rfl,_,rfl⟩
def Dm (N:Nat)(p_t:Sl T0)(p_v:Int):Option (Int×(Sl T0)):=
 some (p_v,p_t)
theorem MJ {N:Nat}{p_t:Sl T0}{p_v:Int}{y:Int×(Sl T0)}(h:Dm N p_t p_v=some y) :FunO S Gk [.p (vSl 2 O1 p_t),pN p_v] [] (.clo Z1 [] [.reg 0 0,.reg 1 0]) ([.cells [pN y.1],.cells [.p (vSl 2 O1 y.2)]]) []:=by unfold Dm at h;refine A4 hS Ml ?_;obtain rfl:=B4 h;exact A6 hS trivial ⟨[(4,.clo Z1 [] [.reg 4000 0,.reg 3000 0])],[(4000,.cells [pN p_v]),(3000,.cells [.p (vSl 2 O1 p_t)])]⟩ [4000,3000] (ids:=[(3000,3000),(4000,4000)]) ⟨rfl,rfl,rfl⟩
def Ao (N:Nat)(p_h:J1)(p_v:Int):Option ((Sl Int)×Int):=
 (S3 N p_h).bind fun y1=>
 if (y1 != 0) then
  some ((Sl.nil:Sl Int),y1)
 else
  (Cl N p_h p_v).bind fun y2=>
  if (!y2) then
   some ((Sl.nil:Sl Int),3)
  else
   (Dm N p_h.Tree p_v).bind fun y3=>
   (BB N y3.1 y3.2).bind fun L1=>
   V4 L1 (fun self1 (x1:Int) (z1:Sl Int)=>
    if (((0:Int)<=x1/\x1<(p_h.On.n:Int))/\((z1.n+(p_h.On.g x1.toNat).n)*8<=140737488355328/\z1.n+(p_h.On.g x1.toNat).n<=140737488355328))then
     self1 (z1.app (p_h.On.g x1.toNat))
    else none
    ) (fun (z1:Sl Int)=>
     some (z1,0)
    ) (Sl.nil:Sl Int)
theorem Ff {N:Nat}{p_h:J1}{p_v:Int}{y:(Sl Int)×Int}(h:Ao N p_h p_v=some y) :FunO S ET [.p (.agg (D1 p_h)),pN p_v] [] (.tup [.vec 0,pN y.2]) ([.vec E3 1 y.1.n (fun i=>cI .i64 (y.1.g i)) true]) []:=by
 unfold Ao at h;refine A4 hS Kg ?_;refine J6 hS trivial 4 3000 (D1 p_h) ?_;obtain⟨y1,e1,h⟩:=B5 h;refine B6 hS [] (by decide:(3:Nat)<=3) (BA hS hL e1) ?_;refine kI hS h (fun h=>?_) (fun h=>?_)
 ·obtain rfl:=B4 h;exact A6 hS trivial ⟨[(5,pN y1),(4,.vec 5700)],[(5700,.vec E3 1 (Sl.nil:Sl Int).n (fun i=>cI .i64 ((Sl.nil:Sl Int).g i)) true)]⟩ [5700] (ids:=[]) ⟨rfl,rfl,rfl⟩
 ·obtain⟨y2,e2,h⟩:=B5 h;refine B6 hS [] (by decide:(3:Nat)<=3) (KD hS hL e2) ?_;refine kI hS h (fun h=>?_) (fun h=>?_)
  ·obtain rfl:=B4 h;exact A6 hS trivial ⟨[(5,pN 3),(4,.vec 5700)],[(5700,.vec E3 1 (Sl.nil:Sl Int).n (fun i=>cI .i64 ((Sl.nil:Sl Int).g i)) true)]⟩ [5700] (ids:=[]) ⟨rfl,rfl,rfl⟩
  ·refine kC hS h (MJ hS hL) (fun y3 h=>?_);obtain⟨L1,e4,h⟩:=B5 h;refine CU hS trivial [22000,22001] [7,2] 901 (fun z1=>⟨[(7,.reg 8000 0),(2,.p (.ptr (D1 p_h)))],[(8500,.vec E3 1 z1.n (fun i=>cI .i64 (z1.g i)) false),(8000,.cells [.vec 8500])]⟩) (idl:=[(8000,8000)]) h (JH hS hL e4) (fun _=>by kernel_rfl) (fun _=>by kernel_rfl) (fun _=>by kernel_rfl) (fun _=>by kernel_rfl) (fun x1 _ self1 z1 hb1 h=>?_) (fun z1 h=>?_)
   ·refine Gc hS trivial ?_;refine N0 hS trivial [2,4,5] ?_;obtain⟨c5,h⟩:=G5 h;refine P3 c5 ?_;exact hb1 _ [(901,901),(8000,8000),(8500,30000)] _ (z1.app (p_h.On.g x1.toNat)) trivial h (hle:=klR [(0,.fn (z1.n+(p_h.On.g x1.toNat).n) (z1.app (p_h.On.g x1.toNat)).n (AD z1.n (fun i=>cI .i64 (z1.g i)) (fun i=>cI .i64 ((p_h.On.g x1.toNat).g i))) (fun i=>cI .i64 ((z1.app (p_h.On.g x1.toNat)).g i)))] (al1 ⟨rfl,appL (c:=cI .i64) (v:=z1) (w:=p_h.On.g x1.toNat) same rfl same rfl⟩ al0))
   ·obtain rfl:=B4 h;exact A6 hS trivial ⟨[(5,pN 0),(4,.vec 8500)],[(8500,.vec E3 1 z1.n (fun i=>cI .i64 (z1.g i)) true)]⟩ [8500] (ids:=[(8500,8500)]) ⟨rfl,rfl,rfl⟩
def X4 (rec:Pat->Option Pat)(N:Nat)(p_p:Pat):Option Pat:=
 Dv N (fun self1 (x1:Sl Pat) (x2:Int)=>
  if (decide (x2<(p_p.L.n:Int))) then
   if ((0:Int)<=x2/\x2<(p_p.L.n:Int))then
    (rec (p_p.L.g x2.toNat)).bind fun y3=>
    if ((x1.n+(Sl.of [y3]:Sl Pat).n)*64<=140737488355328/\x1.n+(Sl.of [y3]:Sl Pat).n<=140737488355328)then
     self1 (x1.push y3) (wrap .i64 (x2+1))
    else none
   else none
  else
   some (Pat.mk p_p.Kind p_p.Is p_p.Not p_p.Min p_p.Max x1.n x1.g)
  ) (Sl.nil:Sl Pat) 0
def T7:Nat->Pat->Option Pat
 |0=>fun _=>none
 |N+1=>X4 (T7 N) N
theorem GB {N:Nat}{rec:Pat->Option Pat}(hrec:∀{p_p:Pat}{y:Pat},rec p_p=some y->FunO S T2 [.p (.agg (C8 p_p))] [] (.p (.agg (C8 y))) ([]) []){p_p:Pat}{y:Pat}(h:X4 rec N p_p=some y) :FunO S T2 [.p (.agg (C8 p_p))] [] (.p (.agg (C8 y))) ([]) []:=by
 unfold X4 at h;refine A4 hS GX ?_;refine U0 hS trivial 8 ⟨[(7,.p (vSl 7 C8 p_p.L)),(3,.p J5),(2,.reg 3000 0),(1,.reg 2000 0)],[(3000,.cells [pN 0,pU 0,pU 0,.p (.v (.bool false)),pN 0,pN 0,.p J5]),(2000,.cells ((C8 p_p).map .p))]⟩ (ids:=[(2000,2000),(3000,3000)]) ?_ (hle:=klR [(0,.fn p_p.L.n p_p.L.n (DX p_p) (fun i=>C8 (p_p.L.g i)))] (al1 ⟨rfl,CX p_p⟩ al0));refine N1 hS trivial h (fun x1 x2=>⟨[(9,pN x2),(8,pN (p_p.L.n:Int)),(7,.p (vSl 7 C8 p_p.L)),(3,.vec 4500),(2,.reg 3000 0),(1,.reg 2000 0)],[(4500,.vec Ek 7 x1.n (fun i=>C8 (x1.g i)) false),(3000,.cells [pN 0,pU 0,pU 0,.p (.v (.bool false)),pN 0,pN 0,.p J5]),(2000,.cells ((C8 p_p).map .p))]⟩) (ids:=[(2000,2000),(3000,3000)]) (fun _ _ _ _ _ self1 x1 x2 hb1 h=>?_);refine kI hS h (fun h=>?_) (fun h=>?_)
 ·obtain⟨c6,h⟩:=G5 h;obtain⟨y3,e3,h⟩:=B5 h;refine B6 hS [] (And.intro c6 (by decide:(7:Nat)<=7)) (hrec e3) ?_;obtain⟨c7,h⟩:=G5 h;exact hb1 _ [(2000,2000),(3000,3000),(4500,18000)] _ (x1.push y3) (wrap .i64 (x2+1)) (And.intro (rfl:true=true) c7) h (hle:=klR [(3,.fn (x1.n+1) (x1.push y3).n (AD x1.n (fun i=>C8 (x1.g i)) (E9 [pI .i64 0,pI .u32 0,pI .u32 0,.v (.bool false),pI .i64 0,pI .i64 0,J5] [(0,C8 y3)])) (fun i=>C8 ((x1.push y3).g i)))] (al1 ⟨rfl,NH (c:=C8) (v:=x1) (x:=y3) (z:=[(pI .i64 0),pI .u32 0,pI .u32 0,.v (.bool false),pI .i64 0,pI .i64 0,J5]) same rfl rfl⟩ al0))
 ·obtain rfl:=B4 h;exact A6 hS trivial ⟨[(2,.reg 3000 0)],[(3000,.cells [pN p_p.Kind,pU p_p.Is.Plus,pU p_p.Is.Minus,pB p_p.Not,pN p_p.Min,pN p_p.Max,.p (.sl false 7 x1.n (DX (Pat.mk p_p.Kind p_p.Is p_p.Not p_p.Min p_p.Max x1.n x1.g)))])]⟩ [] (ids:=[(3000,3000)]) ⟨rfl,rfl,rfl⟩
theorem CG {N:Nat}{p_p:Pat}{y:Pat}(h:T7 N p_p=some y) :FunO S T2 [.p (.agg (C8 p_p))] [] (.p (.agg (C8 y))) ([]) []:=by
 induction N generalizing p_p y with
 |zero=>cases (show (none:Option Pat)=some y from h)
 |succ N ih=>exact GB hS hL (fun e=>ih e) h
def AP (N:Nat)(p_l:Law):Option Law:=
 (T7 N p_l.Left).bind fun y1=>
 (T7 N p_l.Right).bind fun y2=>
 (A8 N p_l.If).bind fun y3=>
 (G7 N p_l.Out).bind fun y4=>
 some (⟨p_l.Name,y1,y2,y3,y4,p_l.Mode⟩:Law)
theorem Ic {N:Nat}{p_l:Law}{y:Law}(h:AP N p_l=some y) :FunO S Dz [.p (.agg (B3 p_l))] [] (.p (.agg (B3 y))) ([]) []:=by unfold AP at h;refine A4 hS HV ?_;refine N0 hS trivial [2,5] ?_;obtain⟨y1,e1,h⟩:=B5 h;refine At trivial (CG hS hL e1) ?_;obtain⟨y2,e2,h⟩:=B5 h;refine At trivial (CG hS hL e2) ?_;refine P3 trivial ?_;refine N0 hS trivial [2,5] ?_;obtain⟨y3,e3,h⟩:=B5 h;refine At trivial (T5 hS hL e3) ?_;obtain⟨y4,e4,h⟩:=B5 h;refine At trivial (Y3 hS hL e4) ?_;refine P3 trivial ?_;cases h;exact kR hS
def Cm (N:Nat)(p_h:J1)(p_l:Sl Int):Option (Sl Law):=
 Dv N (fun self1 (x1:Sl Law) (x2:Int)=>
  if (decide (x2<(p_l.n:Int))) then
   if (((0:Int)<=x2/\x2<(p_l.n:Int))/\((0:Int)<=(p_l.g x2.toNat)/\(p_l.g x2.toNat)<(p_h.Laws.n:Int)))then
    (AP N (p_h.Laws.g (p_l.g x2.toNat).toNat)).bind fun y3=>
    if ((x1.n+(Sl.of [y3]:Sl Law).n)*200<=140737488355328/\x1.n+(Sl.of [y3]:Sl Law).n<=140737488355328)then
     self1 (x1.push y3) (wrap .i64 (x2+1))
    else none
   else none
  else
   some x1
  ) (Sl.nil:Sl Law) 0
theorem KE {N:Nat}{p_h:J1}{p_l:Sl Int}{y:Sl Law}(h:Cm N p_h p_l=some y) :FunO S EW [.p (.agg (D1 p_h)),.p (vSl 1 (cI .i64) p_l)] [] (.p (vSl 18 B3 y)) ([]) []:=by
 unfold Cm at h;refine A4 hS Kj ?_;refine N1 hS trivial h (fun x1 x2=>⟨[(10,pN x2),(9,pN (p_l.n:Int)),(8,.p (vSl 1 (cI .i64) p_l)),(5,.vec 6500),(2,.reg 3000 0)],[(6500,.vec Oo 18 x1.n (fun i=>B3 (x1.g i)) false),(3000,.cells ((D1 p_h).map .p))]⟩) (ids:=[(3000,3000)]) (fun _ _ _ _ _ self1 x1 x2 hb1 h=>?_);refine kI hS h (fun h=>?_) (fun h=>?_)
 ·obtain⟨c6,h⟩:=G5 h;obtain⟨y3,e3,h⟩:=B5 h;refine B6 hS [] (And.intro (And.intro c6.1 c6.2) (by decide:(18:Nat)<=18)) (Ic hS hL e3) ?_;obtain⟨c7,h⟩:=G5 h;exact hb1 _ [(3000,3000),(6500,23000)] _ (x1.push y3) (wrap .i64 (x2+1)) (And.intro (rfl:true=true) c7) h (hle:=klR [(3,.fn (x1.n+1) (x1.push y3).n (AD x1.n (fun i=>B3 (x1.g i)) (E9 [.str [],pI .i64 0,pI .u32 0,pI .u32 0,.v (.bool false),pI .i64 0,pI .i64 0,J5,pI .i64 0,pI .u32 0,pI .u32 0,.v (.bool false),pI .i64 0,pI .i64 0,J5,J5,J5,pI .i64 0] [(0,B3 y3)])) (fun i=>B3 ((x1.push y3).g i)))] (al1 ⟨rfl,NH (c:=B3) (v:=x1) (x:=y3) (z:=[(.str []),pI .i64 0,pI .u32 0,pI .u32 0,.v (.bool false),pI .i64 0,pI .i64 0,J5,pI .i64 0,pI .u32 0,pI .u32 0,.v (.bool false),pI .i64 0,pI .i64 0,J5,J5,J5,pI .i64 0]) same rfl rfl⟩ al0))
 ·obtain rfl:=B4 h;exact A6 hS trivial ⟨[(4,.p (vSl 18 B3 x1))],[]⟩ [] (ids:=[]) ⟨rfl,rfl,rfl⟩
def Cn (N:Nat)(p_h:J1)(p_v:Int):Option ((Sl Law)×Int):=
 (Ao N p_h p_v).bind fun y1=>
 (Cm N p_h y1.1).bind fun y2=>
 some (y2,y1.2)
theorem KF {N:Nat}{p_h:J1}{p_v:Int}{y:(Sl Law)×Int}(h:Cn N p_h p_v=some y) :FunO S EU [.p (.agg (D1 p_h)),pN p_v] [] (.tup [.p (vSl 18 B3 y.1),pN y.2]) ([]) []:=by unfold Cn at h;refine A4 hS Kh ?_;refine kC hS h (Ff hS hL) (fun y1 h=>?_);refine kC hS h (KE hS hL) (fun y2 h=>?_);cases h;exact kR hS
end Go.AM
namespace Go.AM
open IntKind (wrap)
open Go.Proofs
set_option maxRecDepth 10000
set_option maxHeartbeats 2000000
variable {S:X8}(hS:F6 S Tryz.prog) (hL:Oq S)
abbrev RQ {T:Type}(e:TypeId)(k:Nat)(c:T->List PV)(x:Sl T):Obj:=.vec e k x.n (fun q=>c (x.g q)) false
theorem obPut {T:Type}{e:TypeId}{k n i:Nat}{c:T->List PV}{X:Sl (Sl T)}{z:Sl T}:∀q,q<n->(fun q=>if q=i then RQ e k c z else if q=i then Obj.dead else RQ e k c (X.g q)) q=(fun q=>RQ e k c ((X.upd i z).g q)) q:=fun q _=>by by_cases h:q=i<;>simp[h]
include hS hL
def BC (N:Nat)(p_t:Sl T0):Option (Sl (Sl Int)):=
 if ((0:Int)<=(p_t.n:Int)/\(p_t.n:Int)<=(p_t.n:Int)/\(p_t.n:Int)*24<=140737488355328/\(p_t.n:Int)<=140737488355328)then
  Dv N (fun self (x:Int) (X:Sl (Sl Int))=>
   if (decide (x<(p_t.n:Int))) then
    if ((0:Int)<=x/\x<(p_t.n:Int))then
     if (p_t.g x.toNat).Parent.toNat<X.n then
      lt (fun (z:Sl Int)=>self (wrap .i64 (x+1)) (X.upd (p_t.g x.toNat).Parent.toNat z)) fun k=>
       if (decide (0<x)) then
        if (((0:Int)<=(p_t.g x.toNat).Parent/\(p_t.g x.toNat).Parent<(X.n:Int))/\(((X.g (p_t.g x.toNat).Parent.toNat).n+1)*8<=140737488355328/\(X.g (p_t.g x.toNat).Parent.toNat).n+1<=140737488355328))then
         k ((X.g (p_t.g x.toNat).Parent.toNat).push x)
        else none
       else k (X.g (p_t.g x.toNat).Parent.toNat)
     else none
    else none
   else some X) 0 ⟨p_t.n,fun _=>Sl.nil⟩
 else none
theorem JI {N:Nat}{p_t:Sl T0}{y:Sl (Sl Int)}(h:BC N p_t=some y) :FunO S Ef [.p (vSl 2 O1 p_t)] [] (.p (vSl 1 (cL 1 (cI .i64)) y)) [] []:=by
 unfold BC at h;refine A4 hS Jm ?_;obtain⟨c1,h⟩:=G5 h;refine QF hS c1 9 (.fam 9000 9901 fun i=>RQ E3 1 (cI .i64) ((⟨p_t.n,fun _=>Sl.nil⟩:Sl (Sl Int)).g i)) (⟨by decide,fun i _=>rfl⟩:1000<=9901/\∀i,i<p_t.n->Sp [J5] (RQ E3 1 (cI .i64) ((⟨p_t.n,fun _=>Sl.nil⟩:Sl (Sl Int)).g i))) ?_;refine N1 hS trivial h (fun x X=>⟨[(11,pN x),(10,pN (p_t.n:Int)),(9,.p (vSl 2 O1 p_t)),(3,.vec 9000)],[(9901,.rows X.n fun i=>RQ E3 1 (cI .i64) (X.g i)),(9000,.fam My X.n 9901 none)]⟩) (ids:=[(9901,9901),(9000,9000)]) (fun _ _ _ _ _ self x X hb1 h=>?_);refine kI hS h (fun h=>?_) (fun h=>?_)
 ·obtain⟨c2,h⟩:=G5 h;obtain⟨c3,h⟩:=G5 h;refine QF hS (And.intro c2 (by decide:(2:Nat)<=2)) 17 (.take 9000 (p_t.g x.toNat).Parent.toNat 9801) (⟨⟨by decide,rfl⟩,c3⟩:(1000<=9801/\X.n=X.n)/\(p_t.g x.toNat).Parent.toNat<X.n) ?_;refine JT hS trivial (A7 hS) h 0 (fun z=>⟨[(11,pN x),(10,pN (p_t.n:Int)),(9,.p (vSl 2 O1 p_t)),(3,.vec 9000)],
   [(9901,(.rows X.n fun l=>if l=(p_t.g x.toNat).Parent.toNat then .dead else RQ E3 1 (cI .i64) (X.g l))),(9801,RQ E3 1 (cI .i64) z),(9000,.fam My X.n 9901 (some ((p_t.g x.toNat).Parent.toNat,.vec 9801)))]⟩) (fun M k hb2 h=>?_) (fun z h=>?_)
  ·refine kI hS h (fun h=>?_) (fun h=>?_)
   ·obtain⟨c4,h⟩:=G5 h;refine S9 hS trivial [(0,.n),(1,.n),(2,.l [6000]),(3,.n),(4,.n),(5,.l [6000]),(6,.l [9000]),(7,.l [9000]),(8,.n),(10,.a [29000,9801]),(11,.l [9000]),(12,.a [9000])] ?_;refine CS (And.intro c4.1 (And.intro c3 (rfl:(p_t.g x.toNat).Parent.toNat=(p_t.g x.toNat).Parent.toNat))) (x:=.sl true 1 1 (E9 [pI .i64 0] [(0,cI .i64 x)])) ?_;refine P3 (And.intro (And.intro c4.2 c4.1) (And.intro c3 (rfl:(p_t.g x.toNat).Parent.toNat=(p_t.g x.toNat).Parent.toNat))) ?_;exact hb2 _ [(9901,9901),(9801,29000),(9000,9000)] _ ((X.g (p_t.g x.toNat).Parent.toNat).push x) trivial h (hle:=klR [(5,.fn ((X.g (p_t.g x.toNat).Parent.toNat).n+1) ((X.g (p_t.g x.toNat).Parent.toNat).push x).n (AD (X.g (p_t.g x.toNat).Parent.toNat).n (fun i=>cI .i64 ((X.g (p_t.g x.toNat).Parent.toNat).g i)) (E9 [pI .i64 0] [(0,cI .i64 x)])) (fun i=>cI .i64 (((X.g (p_t.g x.toNat).Parent.toNat).push x).g i)))] (al1 ⟨rfl,NH (c:=cI .i64) (v:=X.g (p_t.g x.toNat).Parent.toNat) (x:=x) (z:=[(pI .i64 0)]) same rfl rfl⟩ al0))
   ·exact hb2 _ [(9901,9901),(9801,9801),(9000,9000)] _ (X.g (p_t.g x.toNat).Parent.toNat) trivial h
  ·refine QF hS trivial 30 (.put 9000 9902) (⟨⟨by decide,rfl⟩,c3⟩:(1000<=9902/\X.n=X.n)/\(p_t.g x.toNat).Parent.toNat<X.n) ?_;exact hb1 _ [(9901,9902),(9000,9000)] _ (wrap .i64 (x+1)) (X.upd (p_t.g x.toNat).Parent.toNat z) trivial h (hle:=klR [(4,.ob X.n (fun q=>if q=(p_t.g x.toNat).Parent.toNat then RQ E3 1 (cI .i64) z else if q=(p_t.g x.toNat).Parent.toNat then .dead else RQ E3 1 (cI .i64) (X.g q)) fun i=>RQ E3 1 (cI .i64) ((X.upd (p_t.g x.toNat).Parent.toNat z).g i))] (al1 obPut al0))
 ·refine QF hS trivial 31 (.pub 9000) (⟨rfl,fun i _=>rfl⟩:X.n=X.n/\∀i,i<X.n->(Sq (RQ E3 1 (cI .i64) (X.g i))).isSome=true) ?_;obtain rfl:=B4 h;exact A6 hS trivial ⟨[(2,.p (vSl 1 (cL 1 (cI .i64)) X))],[]⟩ [] (ids:=[]) ⟨rfl,rfl,rfl⟩ (hle:=klR [(0,.fn X.n X.n (fun i=>[(Sq (RQ E3 1 (cI .i64) (X.g i))).getD default]) (fun i=>cL 1 (cI .i64) (X.g i)))] (al1 ⟨rfl,fun _ _=>rfl⟩ al0))
end Go.AM
namespace Go.AM
open IntKind (wrap)
open Go.Proofs
set_option maxRecDepth 10000
set_option maxHeartbeats 2000000
variable {S:X8}(hS:F6 S Tryz.prog) (hL:Oq S)
include hS hL
def Dn (N:Nat)(p_t:Sl T0):Option (Sl Int):=
 (BC N p_t).bind fun y1=>
 Dv N (fun self1 (x1:Sl Int) (x2:Int)=>
  if (decide (x2<(y1.n:Int))) then
   if ((0:Int)<=x2/\x2<(y1.n:Int))then
    if (((y1.g x2.toNat).n:Int)==0) then
     if ((x1.n+(Sl.of [x2]:Sl Int).n)*8<=140737488355328/\x1.n+(Sl.of [x2]:Sl Int).n<=140737488355328)then
      self1 (x1.push x2) (wrap .i64 (x2+1))
     else none
    else
     self1 x1 (wrap .i64 (x2+1))
   else none
  else
   some x1
  ) (Sl.nil:Sl Int) 0
theorem MK {N:Nat}{p_t:Sl T0}{y:Sl Int}(h:Dn N p_t=some y) :FunO S Gj [.p (vSl 2 O1 p_t)] [] (.vec 0) ([.vec E3 1 y.n (fun i=>cI .i64 (y.g i)) true]) []:=by
 unfold Dn at h;refine A4 hS Mk ?_;refine kC hS h (JI hS hL) (fun y1 h=>?_);refine N1 hS trivial h (fun x1 x2=>⟨[(9,pN x2),(8,pN (y1.n:Int)),(7,.p (vSl 1 (cL 1 (cI .i64)) y1)),(3,.vec 4500)],[(4500,.vec E3 1 x1.n (fun i=>cI .i64 (x1.g i)) false)]⟩) (ids:=[]) (fun _ _ _ _ _ self1 x1 x2 hb1 h=>?_);refine kI hS h (fun h=>?_) (fun h=>?_)
 ·obtain⟨c8,h⟩:=G5 h;refine D5 hS c8 (b:=((y1.g x2.toNat).n:Int)==0) (fun c9=>?_) (fun c9=>?_)
  ·replace h:=itT c9 h;obtain⟨c10,h⟩:=G5 h;exact hb1 _ [(4500,21000)] _ (x1.push x2) (wrap .i64 (x2+1)) (And.intro (rfl:true=true) c10) h (hle:=klR [(3,.fn (x1.n+1) (x1.push x2).n (AD x1.n (fun i=>cI .i64 (x1.g i)) (E9 [pI .i64 0] [(0,cI .i64 x2)])) (fun i=>cI .i64 ((x1.push x2).g i)))] (al1 ⟨rfl,NH (c:=cI .i64) (v:=x1) (x:=x2) (z:=[(pI .i64 0)]) same rfl rfl⟩ al0))
  ·replace h:=itF c9 h;exact hb1 _ [(4500,4500)] _ x1 (wrap .i64 (x2+1)) trivial h
 ·obtain rfl:=B4 h;exact A6 hS trivial ⟨[(2,.vec 4500)],[(4500,.vec E3 1 x1.n (fun i=>cI .i64 (x1.g i)) true)]⟩ [4500] (ids:=[(4500,4500)]) ⟨rfl,rfl,rfl⟩
def Dp (N:Nat)(p_t:Sl T0):Option ((Sl Int)×Int):=
 (BU N p_t).bind fun y1=>
 if (y1 != 0) then
  some ((Sl.nil:Sl Int),y1)
 else
  (Dn N p_t).bind fun y2=>
  some (y2,0)
theorem ML {N:Nat}{p_t:Sl T0}{y:(Sl Int)×Int}(h:Dp N p_t=some y) :FunO S Gh [.p (vSl 2 O1 p_t)] [] (.tup [.vec 0,pN y.2]) ([.vec E3 1 y.1.n (fun i=>cI .i64 (y.1.g i)) true]) []:=by
 unfold Dp at h;refine A4 hS Mh ?_;refine kC hS h (HM hS hL) (fun y1 h=>?_);refine kI hS h (fun h=>?_) (fun h=>?_)
 ·obtain rfl:=B4 h;exact A6 hS trivial ⟨[(3,pN y1),(2,.vec 3700)],[(3700,.vec E3 1 (Sl.nil:Sl Int).n (fun i=>cI .i64 ((Sl.nil:Sl Int).g i)) true)]⟩ [3700] (ids:=[]) ⟨rfl,rfl,rfl⟩
 ·refine kC hS h (MK hS hL) (fun y2 h=>?_);obtain rfl:=B4 h;exact A6 hS trivial ⟨[(3,pN 0),(2,.vec 12000)],[(12000,.vec E3 1 y2.n (fun i=>cI .i64 (y2.g i)) true)]⟩ [12000] (ids:=[(12000,12000)]) ⟨rfl,rfl,rfl⟩
end Go.AM
namespace Go.AM
open IntKind (wrap)
open Go.Proofs
set_option maxRecDepth 10000
set_option maxHeartbeats 2000000
variable {S:X8}(hS:F6 S Tryz.prog) (hL:Oq S)
include hS hL
def N9 (N:Nat)(p_s1:Sl Int)(p_s2:Sl Int):Option Bool:=
 if ((p_s1.n:Int) != (p_s2.n:Int)) then
  some false
 else
  CA N (fun self1 (x1:Int)=>
   if (decide (x1<(p_s1.n:Int))) then
    if (((0:Int)<=x1/\x1<(p_s1.n:Int))/\((0:Int)<=x1/\x1<(p_s2.n:Int)))then
     if ((p_s1.g x1.toNat) != (p_s2.g x1.toNat)) then
      some false
     else
      self1 (wrap .i64 (x1+1))
    else none
   else
    some true
   ) 0
theorem Co {N:Nat}{p_s1:Sl Int}{p_s2:Sl Int}{y:Bool}(h:N9 N p_s1 p_s2=some y) :FunO S V5 [.p (vSl 1 (cI .i64) p_s1),.p (vSl 1 (cI .i64) p_s2)] [] (pB y) ([]) []:=by
 unfold N9 at h;refine A4 hS BZ ?_;refine kI hS h (fun h=>?_) (fun h=>?_)
 ·cases h;exact kR hS
 ·refine Z6 hS trivial h (fun x1=>⟨[(13,pN x1),(12,pN (p_s1.n:Int)),(1,.p (vSl 1 (cI .i64) p_s2)),(0,.p (vSl 1 (cI .i64) p_s1))],[]⟩) (ids:=[]) (fun _ _ _ _ _ self1 x1 hb1 h=>?_);refine kI hS h (fun h=>?_) (fun h=>?_)
  ·refine N0 hS trivial [2,3,6,7] ?_;obtain⟨c9,h⟩:=G5 h;refine P3 c9 ?_;refine kI hS h (fun h=>?_) (fun h=>?_)
   ·cases h;exact kR hS
   ·exact hb1 _ [] _ (wrap .i64 (x1+1)) trivial h
  ·cases h;exact kR hS
def J4 (N:Nat)(p_s1:Sl I6)(p_s2:Sl I6):Option Bool:=
 if ((p_s1.n:Int) != (p_s2.n:Int)) then
  some false
 else
  CA N (fun self1 (x1:Int)=>
   if (decide (x1<(p_s1.n:Int))) then
    if (((0:Int)<=x1/\x1<(p_s1.n:Int))/\((0:Int)<=x1/\x1<(p_s2.n:Int)))then
     if ((((p_s1.g x1.toNat).a0==(p_s2.g x1.toNat).a0)&&((p_s1.g x1.toNat).a1==(p_s2.g x1.toNat).a1)) != true) then
      some false
     else
      self1 (wrap .i64 (x1+1))
    else none
   else
    some true
   ) 0
theorem AQ {N:Nat}{p_s1:Sl I6}{p_s2:Sl I6}{y:Bool}(h:J4 N p_s1 p_s2=some y) :FunO S P8 [.p (vSl 2 N3 p_s1),.p (vSl 2 N3 p_s2)] [] (pB y) ([]) []:=by
 unfold J4 at h;refine A4 hS AG ?_;refine kI hS h (fun h=>?_) (fun h=>?_)
 ·cases h;exact kR hS
 ·refine Z6 hS trivial h (fun x1=>⟨[(13,pN x1),(12,pN (p_s1.n:Int)),(1,.p (vSl 2 N3 p_s2)),(0,.p (vSl 2 N3 p_s1))],[]⟩) (ids:=[]) (fun _ _ _ _ _ self1 x1 hb1 h=>?_);refine kI hS h (fun h=>?_) (fun h=>?_)
  ·refine N0 hS trivial [2,3,6,7] ?_;obtain⟨c9,h⟩:=G5 h;refine P3 (And.intro (And.intro (And.intro (And.intro c9.1 (by decide:(2:Nat)<=2)) c9.2) (by decide:(2:Nat)<=2)) (by decide +kernel:(!Program.eqGuardType Tryz.prog (Program.depth Tryz.prog) Mz)=true)) ?_;refine kI hS h (fun h=>?_) (fun h=>?_)
   ·cases h;exact kR hS
   ·exact hb1 _ [] _ (wrap .i64 (x1+1)) trivial h
  ·cases h;exact kR hS
def D0 (N:Nat)(p_s1:Sl Int)(p_s2:Sl Int):Option Bool:=
 if ((p_s1.n:Int) != (p_s2.n:Int)) then
  some false
 else
  CA N (fun self1 (x1:Int)=>
   if (decide (x1<(p_s1.n:Int))) then
    if (((0:Int)<=x1/\x1<(p_s1.n:Int))/\((0:Int)<=x1/\x1<(p_s2.n:Int)))then
     if ((p_s1.g x1.toNat) != (p_s2.g x1.toNat)) then
      some false
     else
      self1 (wrap .i64 (x1+1))
    else none
   else
    some true
   ) 0
theorem H5 {N:Nat}{p_s1:Sl Int}{p_s2:Sl Int}{y:Bool}(h:D0 N p_s1 p_s2=some y) :FunO S O8 [.p (vSl 1 (cI .u64) p_s1),.p (vSl 1 (cI .u64) p_s2)] [] (pB y) ([]) []:=by
 unfold D0 at h;refine A4 hS Z9 ?_;refine kI hS h (fun h=>?_) (fun h=>?_)
 ·cases h;exact kR hS
 ·refine Z6 hS trivial h (fun x1=>⟨[(13,pN x1),(12,pN (p_s1.n:Int)),(1,.p (vSl 1 (cI .u64) p_s2)),(0,.p (vSl 1 (cI .u64) p_s1))],[]⟩) (ids:=[]) (fun _ _ _ _ _ self1 x1 hb1 h=>?_);refine kI hS h (fun h=>?_) (fun h=>?_)
  ·refine N0 hS trivial [2,3,6,7] ?_;obtain⟨c9,h⟩:=G5 h;refine P3 c9 ?_;refine kI hS h (fun h=>?_) (fun h=>?_)
   ·cases h;exact kR hS
   ·exact hb1 _ [] _ (wrap .i64 (x1+1)) trivial h
  ·cases h;exact kR hS
def H6 (N:Nat)(p_t:A1):Option Int:=
 if (0:Int)<=p_t.Langs then
  some (wrap .u64 ((shI .shl .u64 1 p_t.Langs)-1))
 else none
theorem Ad {N:Nat}{p_t:A1}{y:Int}(h:H6 N p_t=some y) :FunO S CE [.p (.agg (A9 p_t))] [] (.p (pI .u64 y)) ([]) []:=by unfold H6 at h;refine A4 hS GW ?_;obtain⟨c1,h⟩:=G5 h;obtain rfl:=B4 h;exact RA hS c1 [] ⟨rfl,rfl,rfl⟩
def D3 (N:Nat)(p_s:Sl Int)(p_f:Int->Option Bool):Option Int:=
 CA N (fun self1 (x1:Int)=>
  if (decide (x1<(p_s.n:Int))) then
   if ((0:Int)<=x1/\x1<(p_s.n:Int))then
    (p_f (p_s.g x1.toNat)).bind fun y3=>
    if y3 then
     some x1
    else
     self1 (wrap .i64 (x1+1))
   else none
  else
   some (-1)
  ) 0
theorem X5 {N:Nat}{p_s:Sl Int}{p_f:Int->Option Bool}{kp_f:Nat}{cp_f_0:List PV}(hp_f:∀{a0:Int}{b:Bool},p_f a0=some b->FunO S kp_f [.p (pI .u64 a0),.p (.ptr cp_f_0)] [] (pB b) [] []){y:Int}(h:D3 N p_s p_f=some y) :FunO S K9 [.p (vSl 1 (cI .u64) p_s),.clo kp_f [] [.p (.ptr cp_f_0)]] [] (pN y) ([]) []:=by
 unfold D3 at h;refine A4 hS X3 ?_;refine Z6 hS trivial h (fun x1=>⟨[(8,pN x1),(7,pN (p_s.n:Int)),(1,.clo kp_f [] [.p (.ptr cp_f_0)]),(0,.p (vSl 1 (cI .u64) p_s))],[]⟩) (ids:=[]) (fun _ _ _ _ _ self1 x1 hb1 h=>?_);refine kI hS h (fun h=>?_) (fun h=>?_)
 ·obtain⟨c8,h⟩:=G5 h;obtain⟨y3,e3,h⟩:=B5 h;refine B6 hS [] c8 (hp_f e3) ?_;refine kI hS h (fun h=>?_) (fun h=>?_)
  ·cases h;exact kR hS
  ·exact hb1 _ [] _ (wrap .i64 (x1+1)) trivial h
 ·cases h;exact kR hS
def B0 (N:Nat)(p_s:Sl Int)(p_f:Int->Option Bool):Option Bool:=
 (D3 N p_s p_f).bind fun y1=>
 some (decide (0<=y1))
theorem T8 {N:Nat}{p_s:Sl Int}{p_f:Int->Option Bool}{kp_f:Nat}{cp_f_0:List PV}(hp_f:∀{a0:Int}{b:Bool},p_f a0=some b->FunO S kp_f [.p (pI .u64 a0),.p (.ptr cp_f_0)] [] (pB b) [] []){y:Bool}(h:B0 N p_s p_f=some y) :FunO S I7 [.p (vSl 1 (cI .u64) p_s),.clo kp_f [] [.p (.ptr cp_f_0)]] [] (pB y) ([]) []:=by unfold B0 at h;refine A4 hS T1 ?_;refine kC hS h (X5 hS hL (fun e=>hp_f e)) (fun y1 h=>?_);cases h;exact kR hS
def S4 (N:Nat)(p_set:Int)(q0:A1):Option Bool:=
 (H6 N q0).bind fun y1=>
 some ((G0 .andNot .u64 p_set y1) != 0)
theorem JJ {N:Nat}{p_set:Int}{q0:A1}{y:Bool}(h:S4 N p_set q0=some y) :FunO S DZ [.p (pI .u64 p_set),.p (.ptr [pI .i64 q0.Langs,vSl 1 (cI .u64) q0.Has])] [] (pB y) ([]) []:=by unfold S4 at h;refine A4 hS Jf ?_;obtain⟨y1,e1,h⟩:=B5 h;refine B6 hS [] (by decide:(2:Nat)<=2) (Ad hS hL e1) ?_;cases h;exact kR hS
def D4 (N:Nat)(p_t:A1):Option Int:=
 if ((decide (p_t.Langs<0))||(decide (32<p_t.Langs))) then
  some 3
 else
  if (decide (64<(p_t.Has.n:Int))) then
   some 12
  else
   (B0 N p_t.Has (fun (u1:Int)=>S4 N u1 p_t)).bind fun y1=>
   if y1 then
    some 2
   else
    some 0
theorem T9 {N:Nat}{p_t:A1}{y:Int}(h:D4 N p_t=some y) :FunO S Ge [.p (.agg (A9 p_t))] [] (pN y) ([]) []:=by
 unfold D4 at h;refine A4 hS Mf ?_;refine kB hS (A7 hS) trivial trivial 4 (.o (.a (decide (p_t.Langs<0))) (.a (decide (32<p_t.Langs)))) ?_;refine kI hS h (fun h=>?_) (fun h=>?_)
 ·cases h;exact kR hS
 ·refine kI hS h (fun h=>?_) (fun h=>?_)
  ·cases h;exact kR hS
  ·refine J6 hS trivial 17 2000 [pI .i64 p_t.Langs,vSl 1 (cI .u64) p_t.Has] ?_;refine kC hS h (T8 hS hL (fun e=>JJ hS hL e)) (fun y1 h=>?_);refine kI hS h (fun h=>?_) (fun h=>?_)
   ·cases h;exact kR hS
   ·cases h;exact kR hS
def E2 (N:Nat)(q0:A1)(q1:Int->Option Bool):Option (List (Int)):=
 CA N (fun self1 (x1:Int)=>
  if (decide (x1<(q0.Has.n:Int))) then
   if ((0:Int)<=x1/\x1<(q0.Has.n:Int))then
    (q1 (q0.Has.g x1.toNat)).bind fun y3=>
    if y3 then
     Gb x1 (
      self1 (wrap .i64 (x1+1))
      )
    else
     self1 (wrap .i64 (x1+1))
   else none
  else
   some []
  ) 0
theorem S5 {N:Nat}{q0:A1}{q1:Int->Option Bool}{kq1:Nat}{cq1_0:List PV}(hq1:∀{a0:Int}{b:Bool},q1 a0=some b->FunO S kq1 [.p (pI .u64 a0),.p (.ptr cq1_0)] [] (pB b) [] []){L:List (Int)}(h:E2 N q0 q1=some L) :CO S E1 [] [.reg 0 0,.reg 1 0] [.cells [pN q0.Langs,.p (vSl 1 (cI .u64) q0.Has)],.cells [.clo kq1 [] [.p (.ptr cq1_0)]]] (L.map (fun (x:Int)=>[pI .i64 x])):=by
 unfold E2 at h;refine CT hS R8 ?_;refine DV hS trivial h (fun x1 L1=>⟨[(9,pN x1),(8,pN (q0.Has.n:Int)),(7,.p (vSl 1 (cI .u64) q0.Has)),(2,.reg 1 0),(0,.yf 2)],[(2,.yld (L1.map (fun (x:Int)=>[pI .i64 x])) true),(1,.cells [.clo kq1 [] [.p (.ptr cq1_0)]]),(0,.cells [pN q0.Langs,.p (vSl 1 (cI .u64) q0.Has)])]⟩) (ids:=[(0,0),(1,1),(2,2)]) (fun _ _ _ _ _ self1 x1 L1 hb1 h=>?_);refine kI hS h (fun h=>?_) (fun h=>?_)
 ·obtain⟨c16,h⟩:=G5 h;obtain⟨y3,e3,h⟩:=B5 h;refine B6 hS [] c16 (hq1 e3) ?_;refine kG hS h (fun h=>?_) (fun h=>?_)
  ·obtain⟨L7,rfl,hcL7⟩:=IV h;replace h:=hcL7;refine Bo hS trivial (ys:=(fun (x:Int)=>[pI .i64 x]) x1) (rest:=L7.map (fun (x:Int)=>[pI .i64 x])) ?_ ?_
   ·refine D5 hS trivial (b:=false) (fun c20=>?_) (fun c20=>?_)
    ·exact Bool.noConfusion ((rfl:false=false).symm.trans c20)
    ·exact hb1 _ [(0,0),(1,1),(2,2)] _ (wrap .i64 (x1+1)) L7 trivial h
   ·refine D5 hS trivial (b:=true) (fun c21=>?_) (fun c21=>?_)
    ·exact A6 hS trivial (a:=.tup []) (objs:=[(.cells [pN q0.Langs,.p (vSl 1 (cI .u64) q0.Has)]),.cells [.clo kq1 [] [.p (.ptr cq1_0)]],.yld [] false]) ⟨[],[(2,.yld [] false),(1,.cells [.clo kq1 [] [.p (.ptr cq1_0)]]),(0,.cells [pN q0.Langs,.p (vSl 1 (cI .u64) q0.Has)])]⟩ [0,1,2] (ids:=[(0,0),(1,1),(2,2)]) ⟨false,rfl,rfl,_,rfl⟩
    ·exact Bool.noConfusion ((rfl:true=true).symm.trans c21)
  ·exact hb1 _ [(0,0),(1,1),(2,2)] _ (wrap .i64 (x1+1)) L1 trivial h
 ·obtain rfl:=B4 h;exact A6 hS trivial (a:=.tup []) (objs:=[(.cells [pN q0.Langs,.p (vSl 1 (cI .u64) q0.Has)]),.cells [.clo kq1 [] [.p (.ptr cq1_0)]],.yld [] true]) ⟨[],[(2,.yld [] true),(1,.cells [.clo kq1 [] [.p (.ptr cq1_0)]]),(0,.cells [pN q0.Langs,.p (vSl 1 (cI .u64) q0.Has)])]⟩ [0,1,2] (ids:=[(0,0),(1,1),(2,2)]) ⟨true,rfl,rfl,_,rfl⟩
def M0 (N:Nat)(p_t:A1)(p_is:Int->Option Bool):Option (A1):=
 some p_t
theorem X6 {N:Nat}{p_t:A1}{p_is:Int->Option Bool}{kp_is:Nat}{cp_is_0:List PV}(hp_is:∀{a0:Int}{b:Bool},p_is a0=some b->FunO S kp_is [.p (pI .u64 a0),.p (.ptr cp_is_0)] [] (pB b) [] []){y:A1}(h:M0 N p_t p_is=some y) :FunO S X1 [.p (.agg (A9 p_t)),.clo kp_is [] [.p (.ptr cp_is_0)]] [] (.clo E1 [] [.reg 0 0,.reg 1 0]) ([.cells [pN y.Langs,.p (vSl 1 (cI .u64) y.Has)],.cells [.clo kp_is [] [.p (.ptr cp_is_0)]]]) []:=by unfold M0 at h;refine A4 hS Bq ?_;obtain rfl:=B4 h;exact A6 hS trivial ⟨[(4,.clo E1 [] [.reg 3000 0,.reg 4000 0])],[(4000,.cells [.clo kp_is [] [.p (.ptr cp_is_0)]]),(3000,.cells [pN p_t.Langs,.p (vSl 1 (cI .u64) p_t.Has)])]⟩ [3000,4000] (ids:=[(3000,3000),(4000,4000)]) ⟨rfl,rfl,rfl⟩
def H3 (N:Nat)(q0:A1)(q1:Int->Option Bool):Option (List (Int)):=
 CA N (fun self1 (x1:Int)=>
  if (decide (x1<(q0.Has.n:Int))) then
   if ((0:Int)<=x1/\x1<(q0.Has.n:Int))then
    (q1 (q0.Has.g x1.toNat)).bind fun y3=>
    if y3 then
     Gb x1 (
      self1 (wrap .i64 (x1+1))
      )
    else
     self1 (wrap .i64 (x1+1))
   else none
  else
   some []
  ) 0
theorem DJ {N:Nat}{q0:A1}{q1:Int->Option Bool}{kq1:Nat}{cq1_0 cq1_1:List PV}(hq1:∀{a0:Int}{b:Bool},q1 a0=some b->FunO S kq1 [.p (pI .u64 a0),.p (.ptr cq1_0),.p (.ptr cq1_1)] [] (pB b) [] []){L:List (Int)}(h:H3 N q0 q1=some L) :CO S E1 [] [.reg 0 0,.reg 1 0] [.cells [pN q0.Langs,.p (vSl 1 (cI .u64) q0.Has)],.cells [.clo kq1 [] [.p (.ptr cq1_0),.p (.ptr cq1_1)]]] (L.map (fun (x:Int)=>[pI .i64 x])):=by
 unfold H3 at h;refine CT hS R8 ?_;refine DV hS trivial h (fun x1 L1=>⟨[(9,pN x1),(8,pN (q0.Has.n:Int)),(7,.p (vSl 1 (cI .u64) q0.Has)),(2,.reg 1 0),(0,.yf 2)],[(2,.yld (L1.map (fun (x:Int)=>[pI .i64 x])) true),(1,.cells [.clo kq1 [] [.p (.ptr cq1_0),.p (.ptr cq1_1)]]),(0,.cells [pN q0.Langs,.p (vSl 1 (cI .u64) q0.Has)])]⟩) (ids:=[(0,0),(1,1),(2,2)]) (fun _ _ _ _ _ self1 x1 L1 hb1 h=>?_);refine kI hS h (fun h=>?_) (fun h=>?_)
 ·obtain⟨c16,h⟩:=G5 h;obtain⟨y3,e3,h⟩:=B5 h;refine B6 hS [] c16 (hq1 e3) ?_;refine kG hS h (fun h=>?_) (fun h=>?_)
  ·obtain⟨L7,rfl,hcL7⟩:=IV h;replace h:=hcL7;refine Bo hS trivial (ys:=(fun (x:Int)=>[pI .i64 x]) x1) (rest:=L7.map (fun (x:Int)=>[pI .i64 x])) ?_ ?_
   ·refine D5 hS trivial (b:=false) (fun c20=>?_) (fun c20=>?_)
    ·exact Bool.noConfusion ((rfl:false=false).symm.trans c20)
    ·exact hb1 _ [(0,0),(1,1),(2,2)] _ (wrap .i64 (x1+1)) L7 trivial h
   ·refine D5 hS trivial (b:=true) (fun c21=>?_) (fun c21=>?_)
    ·exact A6 hS trivial (a:=.tup []) (objs:=[(.cells [pN q0.Langs,.p (vSl 1 (cI .u64) q0.Has)]),.cells [.clo kq1 [] [.p (.ptr cq1_0),.p (.ptr cq1_1)]],.yld [] false]) ⟨[],[(2,.yld [] false),(1,.cells [.clo kq1 [] [.p (.ptr cq1_0),.p (.ptr cq1_1)]]),(0,.cells [pN q0.Langs,.p (vSl 1 (cI .u64) q0.Has)])]⟩ [0,1,2] (ids:=[(0,0),(1,1),(2,2)]) ⟨false,rfl,rfl,_,rfl⟩
    ·exact Bool.noConfusion ((rfl:true=true).symm.trans c21)
  ·exact hb1 _ [(0,0),(1,1),(2,2)] _ (wrap .i64 (x1+1)) L1 trivial h
 ·obtain rfl:=B4 h;exact A6 hS trivial (a:=.tup []) (objs:=[(.cells [pN q0.Langs,.p (vSl 1 (cI .u64) q0.Has)]),.cells [.clo kq1 [] [.p (.ptr cq1_0),.p (.ptr cq1_1)]],.yld [] true]) ⟨[],[(2,.yld [] true),(1,.cells [.clo kq1 [] [.p (.ptr cq1_0),.p (.ptr cq1_1)]]),(0,.cells [pN q0.Langs,.p (vSl 1 (cI .u64) q0.Has)])]⟩ [0,1,2] (ids:=[(0,0),(1,1),(2,2)]) ⟨true,rfl,rfl,_,rfl⟩
def U7 (N:Nat)(p_t:A1)(p_is:Int->Option Bool):Option (A1):=
 some p_t
theorem EJ {N:Nat}{p_t:A1}{p_is:Int->Option Bool}{kp_is:Nat}{cp_is_0 cp_is_1:List PV}(hp_is:∀{a0:Int}{b:Bool},p_is a0=some b->FunO S kp_is [.p (pI .u64 a0),.p (.ptr cp_is_0),.p (.ptr cp_is_1)] [] (pB b) [] []){y:A1}(h:U7 N p_t p_is=some y) :FunO S X1 [.p (.agg (A9 p_t)),.clo kp_is [] [.p (.ptr cp_is_0),.p (.ptr cp_is_1)]] [] (.clo E1 [] [.reg 0 0,.reg 1 0]) ([.cells [pN y.Langs,.p (vSl 1 (cI .u64) y.Has)],.cells [.clo kp_is [] [.p (.ptr cp_is_0),.p (.ptr cp_is_1)]]]) []:=by unfold U7 at h;refine A4 hS Bq ?_;obtain rfl:=B4 h;exact A6 hS trivial ⟨[(4,.clo E1 [] [.reg 3000 0,.reg 4000 0])],[(4000,.cells [.clo kp_is [] [.p (.ptr cp_is_0),.p (.ptr cp_is_1)]]),(3000,.cells [pN p_t.Langs,.p (vSl 1 (cI .u64) p_t.Has)])]⟩ [3000,4000] (ids:=[(3000,3000),(4000,4000)]) ⟨rfl,rfl,rfl⟩
def W6 (N:Nat)(p_set:Int)(q0:A1):Option Bool:=
 lt (fun (z1:Bool)=>
  some z1
  ) fun k1=>
  if ((G0 .and .u64 p_set (wrap .u64 (p_set-1))) != 0) then
   (H6 N q0).bind fun y2=>
   k1 (p_set != y2)
  else
   k1 false
theorem DE {N:Nat}{p_set:Int}{q0:A1}{y:Bool}(h:W6 N p_set q0=some y) :FunO S Dx [.p (pI .u64 p_set),.p (.ptr [pI .i64 q0.Langs,vSl 1 (cI .u64) q0.Has])] [] (pB y) ([]) []:=by
 unfold W6 at h;refine A4 hS HS ?_;refine JT hS trivial (A7 hS) h 0 (fun z1=>⟨[(3,pB z1)],[]⟩) (fun M1 k1 hb1 h=>?_) (fun z1 h=>?_)
 ·refine kG hS h (fun h=>?_) (fun h=>?_)
  ·obtain⟨y2,e2,h⟩:=B5 h;refine B6 hS [] (by decide:(2:Nat)<=2) (Ad hS hL e2) ?_;exact hb1 _ [] _ (p_set != y2) trivial h
  ·exact hb1 _ [] _ false trivial h
 ·cases h;exact kR hS
def Ae (N:Nat)(p_x:Int)(p_y:Int):Option Bool:=
 some ((((G0 .and .u64 p_x p_y)==0)||((G0 .andNot .u64 p_x p_y)==0))||((G0 .andNot .u64 p_y p_x)==0))
theorem JK {N:Nat}{p_x:Int}{p_y:Int}{y:Bool}(h:Ae N p_x p_y=some y) :FunO S Je [.p (pI .u64 p_x),.p (pI .u64 p_y)] [] (pB y) ([]) []:=by unfold Ae at h;refine A4 hS Pw ?_;refine kB hS (A7 hS) trivial trivial 11 (.o (.o (.a ((G0 .and .u64 p_x p_y)==0)) (.a ((G0 .andNot .u64 p_x p_y)==0))) (.a ((G0 .andNot .u64 p_y p_x)==0))) ?_;cases h;exact kR hS
def P5 (N:Nat)(p_y:Int)(q0:Int):Option Bool:=
 (Ae N q0 p_y).bind fun y1=>
 some (!y1)
theorem BD {N:Nat}{p_y:Int}{q0:Int}{y:Bool}(h:P5 N p_y q0=some y) :FunO S Br [.p (pI .u64 p_y),.p (.ptr [pI .u64 q0])] [] (pB y) ([]) []:=by unfold P5 at h;refine A4 hS Ft ?_;refine kC hS h (JK hS hL) (fun y1 h=>?_);cases h;exact kR hS
def F8 (N:Nat)(p_s:Sl Int)(p_f:Int->Option Bool):Option Int:=
 CA N (fun self1 (x1:Int)=>
  if (decide (x1<(p_s.n:Int))) then
   if ((0:Int)<=x1/\x1<(p_s.n:Int))then
    (p_f (p_s.g x1.toNat)).bind fun y3=>
    if y3 then
     some x1
    else
     self1 (wrap .i64 (x1+1))
   else none
  else
   some (-1)
  ) 0
theorem AR {N:Nat}{p_s:Sl Int}{p_f:Int->Option Bool}{kp_f:Nat}{cp_f_0:List PV}(hp_f:∀{a0:Int}{b:Bool},p_f a0=some b->FunO S kp_f [pN a0,.p (.ptr cp_f_0)] [] (pB b) [] []){y:Int}(h:F8 N p_s p_f=some y) :FunO S Q0 [.p (vSl 1 (cI .i64) p_s),.clo kp_f [] [.p (.ptr cp_f_0)]] [] (pN y) ([]) []:=by
 unfold F8 at h;refine A4 hS AI ?_;refine Z6 hS trivial h (fun x1=>⟨[(8,pN x1),(7,pN (p_s.n:Int)),(1,.clo kp_f [] [.p (.ptr cp_f_0)]),(0,.p (vSl 1 (cI .i64) p_s))],[]⟩) (ids:=[]) (fun _ _ _ _ _ self1 x1 hb1 h=>?_);refine kI hS h (fun h=>?_) (fun h=>?_)
 ·obtain⟨c8,h⟩:=G5 h;obtain⟨y3,e3,h⟩:=B5 h;refine B6 hS [] c8 (hp_f e3) ?_;refine kI hS h (fun h=>?_) (fun h=>?_)
  ·cases h;exact kR hS
  ·exact hb1 _ [] _ (wrap .i64 (x1+1)) trivial h
 ·cases h;exact kR hS
def B8 (N:Nat)(p_s:Sl Int)(p_f:Int->Option Bool):Option Bool:=
 (F8 N p_s p_f).bind fun y1=>
 some (decide (0<=y1))
theorem O3 {N:Nat}{p_s:Sl Int}{p_f:Int->Option Bool}{kp_f:Nat}{cp_f_0:List PV}(hp_f:∀{a0:Int}{b:Bool},p_f a0=some b->FunO S kp_f [pN a0,.p (.ptr cp_f_0)] [] (pB b) [] []){y:Bool}(h:B8 N p_s p_f=some y) :FunO S O2 [.p (vSl 1 (cI .i64) p_s),.clo kp_f [] [.p (.ptr cp_f_0)]] [] (pB y) ([]) []:=by unfold B8 at h;refine A4 hS Z5 ?_;refine kC hS h (AR hS hL (fun e=>hp_f e)) (fun y1 h=>?_);cases h;exact kR hS
def F9 (N:Nat)(p_a:Int)(q0:A1):Option Bool:=
 some ((decide (p_a<0))||(decide (q0.Langs<=p_a)))
theorem AA {N:Nat}{p_a:Int}{q0:A1}{y:Bool}(h:F9 N p_a q0=some y) :FunO S Au [pN p_a,.p (.ptr [pI .i64 q0.Langs,vSl 1 (cI .u64) q0.Has])] [] (pB y) ([]) []:=by unfold F9 at h;refine A4 hS Ee ?_;refine kB hS (A7 hS) trivial trivial 5 (.o (.a (decide (p_a<0))) (.a (decide (q0.Langs<=p_a)))) ?_;cases h;exact kR hS
def H7 (N:Nat)(p_t:A1)(p_is:Int->Option Bool)(p_languages:Sl Int):Option (Int×Int):=
 (D4 N p_t).bind fun y1=>
 if (y1 != 0) then
  some (0,y1)
 else
  (B8 N p_languages (fun (u1:Int)=>F9 N u1 p_t)).bind fun y2=>
  if y2 then
   some (0,3)
  else
   (M0 N p_t p_is).bind fun y3=>
   (E2 N y3 p_is).bind fun L1=>
   V4 L1 (fun self1 (x1:Int) (z1:Int)=>
    self1 (wrap .i64 (z1+1))
    ) (fun (z1:Int)=>
     some (z1,0)
    ) 0
theorem FB {N:Nat}{p_t:A1}{p_is:Int->Option Bool}{p_languages:Sl Int}{kp_is:Nat}{cp_is_0:List PV}(hp_is:∀{a0:Int}{b:Bool},p_is a0=some b->FunO S kp_is [.p (pI .u64 a0),.p (.ptr cp_is_0)] [] (pB b) [] []){y:Int×Int}(h:H7 N p_t p_is p_languages=some y) :FunO S X2 [.p (.agg (A9 p_t)),.clo kp_is [] [.p (.ptr cp_is_0)],.p (vSl 1 (cI .i64) p_languages)] [] (.tup [pN y.1,pN y.2]) ([]) []:=by
 unfold H7 at h;refine A4 hS Bs ?_;refine kC hS h (T9 hS hL) (fun y1 h=>?_);refine kI hS h (fun h=>?_) (fun h=>?_)
 ·cases h;exact kR hS
 ·refine J6 hS trivial 16 4000 [pI .i64 p_t.Langs,vSl 1 (cI .u64) p_t.Has] ?_;refine kC hS h (O3 hS hL (fun e=>AA hS hL e)) (fun y2 h=>?_);refine kI hS h (fun h=>?_) (fun h=>?_)
  ·cases h;exact kR hS
  ·obtain⟨y3,e3,h⟩:=B5 h;refine B6 hS [] (by decide:(2:Nat)<=2) (X6 hS hL (fun e=>hp_is e) e3) ?_;obtain⟨L1,e4,h⟩:=B5 h;refine CU hS trivial [21000,21001] [9] 901 (fun z1=>⟨[(9,.reg 10000 0)],[(10000,.cells [pN z1])]⟩) (idl:=[(10000,10000)]) h (S5 hS hL (fun e=>hp_is e) e4) (fun _=>by kernel_rfl) (fun _=>by kernel_rfl) (fun _=>by kernel_rfl) (fun _=>by kernel_rfl) (fun x1 _ self1 z1 hb1 h=>?_) (fun z1 h=>?_)
   ·refine Gc hS trivial ?_;exact hb1 _ [(901,901),(10000,10000)] _ (wrap .i64 (z1+1)) trivial h
   ·cases h;exact kR hS
def H0 (N:Nat)(p_t:A1)(p_is:Int->Option Bool)(p_languages:Sl Int):Option (Int×Int):=
 (D4 N p_t).bind fun y1=>
 if (y1 != 0) then
  some (0,y1)
 else
  (B8 N p_languages (fun (u1:Int)=>F9 N u1 p_t)).bind fun y2=>
  if y2 then
   some (0,3)
  else
   (U7 N p_t p_is).bind fun y3=>
   (H3 N y3 p_is).bind fun L1=>
   V4 L1 (fun self1 (x1:Int) (z1:Int)=>
    self1 (wrap .i64 (z1+1))
    ) (fun (z1:Int)=>
     some (z1,0)
    ) 0
theorem EK {N:Nat}{p_t:A1}{p_is:Int->Option Bool}{p_languages:Sl Int}{kp_is:Nat}{cp_is_0 cp_is_1:List PV}(hp_is:∀{a0:Int}{b:Bool},p_is a0=some b->FunO S kp_is [.p (pI .u64 a0),.p (.ptr cp_is_0),.p (.ptr cp_is_1)] [] (pB b) [] []){y:Int×Int}(h:H0 N p_t p_is p_languages=some y) :FunO S X2 [.p (.agg (A9 p_t)),.clo kp_is [] [.p (.ptr cp_is_0),.p (.ptr cp_is_1)],.p (vSl 1 (cI .i64) p_languages)] [] (.tup [pN y.1,pN y.2]) ([]) []:=by
 unfold H0 at h;refine A4 hS Bs ?_;refine kC hS h (T9 hS hL) (fun y1 h=>?_);refine kI hS h (fun h=>?_) (fun h=>?_)
 ·cases h;exact kR hS
 ·refine J6 hS trivial 16 4000 [pI .i64 p_t.Langs,vSl 1 (cI .u64) p_t.Has] ?_;refine kC hS h (O3 hS hL (fun e=>AA hS hL e)) (fun y2 h=>?_);refine kI hS h (fun h=>?_) (fun h=>?_)
  ·cases h;exact kR hS
  ·obtain⟨y3,e3,h⟩:=B5 h;refine B6 hS [] (by decide:(2:Nat)<=2) (EJ hS hL (fun e=>hp_is e) e3) ?_;obtain⟨L1,e4,h⟩:=B5 h;refine CU hS trivial [21000,21001] [9] 901 (fun z1=>⟨[(9,.reg 10000 0)],[(10000,.cells [pN z1])]⟩) (idl:=[(10000,10000)]) h (DJ hS hL (fun e=>hp_is e) e4) (fun _=>by kernel_rfl) (fun _=>by kernel_rfl) (fun _=>by kernel_rfl) (fun _=>by kernel_rfl) (fun x1 _ self1 z1 hb1 h=>?_) (fun z1 h=>?_)
   ·refine Gc hS trivial ?_;exact hb1 _ [(901,901),(10000,10000)] _ (wrap .i64 (z1+1)) trivial h
   ·cases h;exact kR hS
def W7 (N:Nat)(p_set:Int)(q0:Int)(q1:Int):Option Bool:=
 if (0:Int)<=q0 then
  if (((G0 .and .u64 (shI .shr .u64 p_set q0) 1)==1)=true->(0:Int)<=q1)then
   some (((G0 .and .u64 (shI .shr .u64 p_set q0) 1)==1)&&((G0 .and .u64 (shI .shr .u64 p_set q1) 1)==1))
  else none
 else none
theorem Id {N:Nat}{p_set:Int}{q0:Int}{q1:Int}{y:Bool}(h:W7 N p_set q0 q1=some y) :FunO S AH [.p (pI .u64 p_set),.p (.ptr [pI .i64 q0]),.p (.ptr [pI .i64 q1])] [] (pB y) ([]) []:=by unfold W7 at h;refine A4 hS HT ?_;obtain⟨c1,h⟩:=G5 h;obtain⟨c2,h⟩:=G5 h;refine kB hS (A7 hS) c1 c2 6 (.n (.a ((G0 .and .u64 (shI .shr .u64 p_set q0) 1)==1)) (.a ((G0 .and .u64 (shI .shr .u64 p_set q1) 1)==1))) ?_;cases h;exact kR hS
def Bd (N:Nat)(p_set:Int)(q0:Int):Option Bool:=
 if (0:Int)<=q0 then
  some (p_set==(shI .shl .u64 1 q0))
 else none
theorem MM {N:Nat}{p_set:Int}{q0:Int}{y:Bool}(h:Bd N p_set q0=some y) :FunO S CY [.p (pI .u64 p_set),.p (.ptr [pI .i64 q0])] [] (pB y) ([]) []:=by unfold Bd at h;refine A4 hS Mj ?_;obtain⟨c1,h⟩:=G5 h;obtain rfl:=B4 h;exact RA hS c1 [] ⟨rfl,rfl,rfl⟩
def O0 (N:Nat)(p_t:A1)(p_a:Int)(p_b:Int):Option (Int×Int):=
 (H0 N p_t (fun (u1:Int)=>W7 N u1 p_a p_b) (Sl.of [p_a,p_b]:Sl Int)).bind fun y1=>
 some (y1.1,y1.2)
theorem Fg {N:Nat}{p_t:A1}{p_a:Int}{p_b:Int}{y:Int×Int}(h:O0 N p_t p_a p_b=some y) :FunO S ER [.p (.agg (A9 p_t)),pN p_a,pN p_b] [] (.tup [pN y.1,pN y.2]) ([]) []:=by unfold O0 at h;refine A4 hS Ke ?_;refine J6 hS trivial 9 5000 [pI .i64 p_a] ?_;refine J6 hS trivial 9 6000 [pI .i64 p_b] ?_;refine BK hS (rfl:true=true) ⟨[(12,.vec 13000),(9,.clo AH [] [.p (.ptr [pI .i64 p_a]),.p (.ptr [pI .i64 p_b])]),(8,.p (.agg (A9 p_t)))],[(13000,.vec E3 1 (Sl.of [p_a,p_b]:Sl Int).n (fun i=>cI .i64 ((Sl.of [p_a,p_b]:Sl Int).g i)) false)]⟩ (ids:=[(13000,13000)]) ?_ (hle:=klR [(4,.fn 2 (Sl.of [p_a,p_b]:Sl Int).n (E9 [pI .i64 0] [(0,cI .i64 p_a),(1,cI .i64 p_b)]) (fun i=>cI .i64 ((Sl.of [p_a,p_b]:Sl Int).g i)))] (al1 ⟨rfl,(fun i hi=>match i,hi with|0,_=>rfl|1,_=>rfl|_+2,hi=>absurd hi (by omega))⟩ al0));refine kC hS h (EK hS hL (fun e=>Id hS hL e)) (fun y1 h=>?_);cases h;exact kR hS
def Af (N:Nat)(p_t:A1)(p_a:Int):Option (Int×Int):=
 (H7 N p_t (fun (u1:Int)=>Bd N u1 p_a) (Sl.of [p_a]:Sl Int)).bind fun y1=>
 some (y1.1,y1.2)
theorem PR {N:Nat}{p_t:A1}{p_a:Int}{y:Int×Int}(h:Af N p_t p_a=some y) :FunO S Jc [.p (.agg (A9 p_t)),pN p_a] [] (.tup [pN y.1,pN y.2]) ([]) []:=by unfold Af at h;refine A4 hS Pu ?_;refine J6 hS trivial 7 4000 [pI .i64 p_a] ?_;refine BK hS (rfl:true=true) ⟨[(9,.vec 10000),(7,.clo CY [] [.p (.ptr [pI .i64 p_a])]),(6,.p (.agg (A9 p_t)))],[(10000,.vec E3 1 (Sl.of [p_a]:Sl Int).n (fun i=>cI .i64 ((Sl.of [p_a]:Sl Int).g i)) false)]⟩ (ids:=[(10000,10000)]) ?_ (hle:=klR [(3,.fn 1 (Sl.of [p_a]:Sl Int).n (E9 [pI .i64 0] [(0,cI .i64 p_a)]) (fun i=>cI .i64 ((Sl.of [p_a]:Sl Int).g i)))] (al1 ⟨rfl,(fun i hi=>match i,hi with|0,_=>rfl|_+1,hi=>absurd hi (by omega))⟩ al0));refine kC hS h (FB hS hL (fun e=>MM hS hL e)) (fun y1 h=>?_);cases h;exact kR hS
def N7 (N:Nat)(p_t:A1)(p_i:Int)(p_j:Int):Option (Bool×Int):=
 (D4 N p_t).bind fun y1=>
 if (y1 != 0) then
  some (false,y1)
 else
  if ((((decide (p_i<0))||(decide (p_j<0)))||(decide ((p_t.Has.n:Int)<=p_i)))||(decide ((p_t.Has.n:Int)<=p_j))) then
   some (false,3)
  else
   if (((0:Int)<=p_i/\p_i<(p_t.Has.n:Int))/\((0:Int)<=p_j/\p_j<(p_t.Has.n:Int)))then
    (Ae N (p_t.Has.g p_i.toNat) (p_t.Has.g p_j.toNat)).bind fun y2=>
    some (y2,0)
   else none
theorem GC {N:Nat}{p_t:A1}{p_i:Int}{p_j:Int}{y:Bool×Int}(h:N7 N p_t p_i p_j=some y) :FunO S BL [.p (.agg (A9 p_t)),pN p_i,pN p_j] [] (.tup [pB y.1,pN y.2]) ([]) []:=by
 unfold N7 at h;refine A4 hS Gg ?_;refine J6 hS trivial 6 4000 [pI .i64 p_t.Langs,vSl 1 (cI .u64) p_t.Has] ?_;obtain⟨y1,e1,h⟩:=B5 h;refine B6 hS [] (by decide:(2:Nat)<=2) (T9 hS hL e1) ?_;refine kI hS h (fun h=>?_) (fun h=>?_)
 ·cases h;exact kR hS
 ·refine kB hS (A7 hS) trivial trivial 17 (.o (.o (.o (.a (decide (p_i<0))) (.a (decide (p_j<0)))) (.a (decide ((p_t.Has.n:Int)<=p_i)))) (.a (decide ((p_t.Has.n:Int)<=p_j)))) ?_;refine kI hS h (fun h=>?_) (fun h=>?_)
  ·cases h;exact kR hS
  ·refine N0 hS trivial [1,3,4,6,8,9,10] ?_;obtain⟨c3,h⟩:=G5 h;obtain⟨y2,e2,h⟩:=B5 h;refine At c3 (JK hS hL e2) ?_;refine P3 trivial ?_;cases h;exact kR hS
def Ag (N:Nat)(p_t:A1):Option ((Sl I6)×Int):=
 (D4 N p_t).bind fun y1=>
 if (y1 != 0) then
  some ((Sl.nil:Sl I6),y1)
 else
  Dv N (fun self3 (x3:Sl I6) (x4:Int)=>
   if (decide (x4<(p_t.Has.n:Int))) then
    if ((0:Int)<=x4/\x4<(p_t.Has.n:Int))then
     (M0 N p_t (fun (u5:Int)=>P5 N u5 (p_t.Has.g x4.toNat))).bind fun y4=>
     (E2 N y4 (fun (u6:Int)=>P5 N u6 (p_t.Has.g x4.toNat))).bind fun L3=>
     V4 L3 (fun self4 (x7:Int) (z3:Sl I6)=>
      if (decide (x4<x7)) then
       if ((z3.n+(Sl.of [(⟨x4,x7⟩:I6)]:Sl I6).n)*16<=140737488355328/\z3.n+(Sl.of [(⟨x4,x7⟩:I6)]:Sl I6).n<=140737488355328)then
        self4 (z3.push (⟨x4,x7⟩:I6))
       else none
      else
       self4 z3
      ) (fun (z3:Sl I6)=>
       self3 z3 (wrap .i64 (x4+1))
      ) x3
    else none
   else
    some (x3,0)
   ) (Sl.nil:Sl I6) 0
theorem Hd {N:Nat}{p_t:A1}{y:(Sl I6)×Int}(h:Ag N p_t=some y) :FunO S CD [.p (.agg (A9 p_t))] [] (.tup [.p (vSl 2 N3 y.1),pN y.2]) ([]) []:=by
 unfold Ag at h;refine A4 hS GV ?_;refine kC hS h (T9 hS hL) (fun y1 h=>?_);refine kI hS h (fun h=>?_) (fun h=>?_)
 ·obtain rfl:=B4 h;exact A6 hS trivial ⟨[(3,pN y1),(2,.p (vSl 2 N3 (Sl.nil:Sl I6)))],[]⟩ [] (ids:=[]) ⟨rfl,rfl,rfl⟩
 ·refine N1 hS trivial h (fun x3 x4=>⟨[(17,pN x4),(16,pN (p_t.Has.n:Int)),(15,.p (vSl 1 (cI .u64) p_t.Has)),(5,.reg 6000 0),(1,.reg 2000 0)],[(6501,.vec Mz 2 x3.n (fun i=>N3 (x3.g i)) false),(6000,.cells [.vec 6501]),(2000,.cells [pN p_t.Langs,.p (vSl 1 (cI .u64) p_t.Has)])]⟩) (ids:=[(2000,2000),(6000,6000)]) (fun _ _ _ _ _ self3 x3 x4 hb3 h=>?_);refine kI hS h (fun h=>?_) (fun h=>?_)
  ·obtain⟨c15,h⟩:=G5 h;refine J6 hS c15 23 8000 [pI .u64 (p_t.Has.g x4.toNat)] ?_;refine kC hS h (X6 hS hL (fun e=>BD hS hL e)) (fun y4 h=>?_);obtain⟨L3,e7,h⟩:=B5 h;refine CU hS trivial [25000,25001] [17,16,15,6,5,1] 905 (fun z3=>⟨[(17,pN x4),(16,pN (p_t.Has.n:Int)),(15,.p (vSl 1 (cI .u64) p_t.Has)),(6,.reg 7000 0),(5,.reg 6000 0),(1,.reg 2000 0)],[(7000,.cells [pN x4]),(6500,.vec Mz 2 z3.n (fun i=>N3 (z3.g i)) false),(6000,.cells [.vec 6500]),(2000,.cells [pN p_t.Langs,.p (vSl 1 (cI .u64) p_t.Has)])]⟩) (idl:=[(2000,2000),(6000,6000),(6500,6501),(7000,7000)]) h (S5 hS hL (fun e=>BD hS hL e) e7) (fun _=>by kernel_rfl) (fun _=>by kernel_rfl) (fun _=>by kernel_rfl) (fun _=>by kernel_rfl) (fun x7 _ self4 z3 hb4 h=>?_) (fun z3 h=>?_)
   ·refine Gc hS trivial ?_;refine kI hS h (fun h=>?_) (fun h=>?_)
    ·obtain⟨c19,h⟩:=G5 h;exact hb4 _ [(905,905),(2000,2000),(6000,6000),(6500,35000),(7000,7000)] _ (z3.push (⟨x4,x7⟩:I6)) (And.intro (rfl:true=true) c19) h (hle:=klR [(1,.fn (z3.n+1) (z3.push (⟨x4,x7⟩:I6)).n (AD z3.n (fun i=>N3 (z3.g i)) (E9 [pI .i64 0,pI .i64 0] [(0,N3 (⟨x4,x7⟩:I6))])) (fun i=>N3 ((z3.push (⟨x4,x7⟩:I6)).g i)))] (al1 ⟨rfl,NH (c:=N3) (v:=z3) (x:=(⟨x4,x7⟩:I6)) (z:=[(pI .i64 0),pI .i64 0]) same rfl rfl⟩ al0))
    ·exact hb4 _ [(905,905),(2000,2000),(6000,6000),(6500,6500),(7000,7000)] _ z3 trivial h
   ·exact hb3 _ [(2000,2000),(6000,6000),(6501,6500)] _ z3 (wrap .i64 (x4+1)) trivial h
  ·obtain rfl:=B4 h;exact A6 hS trivial ⟨[(3,pN 0),(2,.p (vSl 2 N3 x3))],[]⟩ [] (ids:=[]) ⟨rfl,rfl,rfl⟩
def Ev (N:Nat)(p_t:A1)(p_some:Int):Option (A1×Int):=
 (D4 N p_t).bind fun y1=>
 if (y1 != 0) then
  some ((⟨0,(Sl.nil:Sl Int)⟩:A1),y1)
 else
  (H6 N p_t).bind fun y2=>
  if ((G0 .andNot .u64 p_some y2) != 0) then
   some ((⟨0,(Sl.nil:Sl Int)⟩:A1),2)
  else
   XQ N (fun self1 (x1:Nat->Int) (x2:Int) (x3:Int)=>
    if (x3 != 0) then
     (L0 N x3).bind fun y5=>
     if (((0:Int)<=x2/\x2<32)/\(0+x2.toNat*1)<32)then
      self1 (Il x1 (0+x2.toNat*1) y5) (wrap .i64 (x2+1)) (G0 .and .u64 x3 (wrap .u64 (x3-1)))
     else none
    else
     Dv N (fun self4 (x6:Sl Int) (x7:Int)=>
      if (decide (x7<(p_t.Has.n:Int))) then
       if (((0:Int)<=x7/\x7<(p_t.Has.n:Int))/\((0:Int)<=x2/\x2<=((32:Nat):Int)))then
        Dv N (fun self5 (x10:Int) (x11:Int)=>
         if (decide (x11<((⟨x2.toNat,x1⟩:Sl Int).n:Int))) then
          if ((((0:Int)<=x11/\x11<((⟨x2.toNat,x1⟩:Sl Int).n:Int))/\(0:Int)<=((⟨x2.toNat,x1⟩:Sl Int).g x11.toNat))/\(0:Int)<=x11)then
           self5 (G0 .or .u64 x10 (shI .shl .u64 (G0 .and .u64 (shI .shr .u64 (p_t.Has.g x7.toNat) ((⟨x2.toNat,x1⟩:Sl Int).g x11.toNat)) 1) x11)) (wrap .i64 (x11+1))
          else none
         else
          if ((x6.n+(Sl.of [x10]:Sl Int).n)*8<=140737488355328/\x6.n+(Sl.of [x10]:Sl Int).n<=140737488355328)then
           self4 (x6.push x10) (wrap .i64 (x7+1))
          else none
         ) 0 0
       else none
      else
       some ((⟨x2,x6⟩:A1),0)
      ) (Sl.nil:Sl Int) 0
    ) (fun _=>0) 0 p_some
theorem OB {N:Nat}{p_t:A1}{p_some:Int}{y:A1×Int}(h:Ev N p_t p_some=some y) :FunO S Hy [.p (.agg (A9 p_t)),.p (pI .u64 p_some)] [] (.tup [.p (.agg (A9 y.1)),pN y.2]) ([]) []:=by
 unfold Ev at h;refine A4 hS NV ?_;refine J6 hS trivial 4 3000 [pI .i64 p_t.Langs,vSl 1 (cI .u64) p_t.Has] ?_;obtain⟨y1,e1,h⟩:=B5 h;refine B6 hS [] (by decide:(2:Nat)<=2) (T9 hS hL e1) ?_;refine kI hS h (fun h=>?_) (fun h=>?_)
 ·obtain rfl:=B4 h;exact A6 hS trivial ⟨[(5,pN y1),(4,.reg 5000 0)],[(5000,.cells [pN 0,.p (vSl 1 (cI .u64) (Sl.nil:Sl Int))])]⟩ [] (ids:=[(5000,5000)]) ⟨rfl,rfl,rfl⟩
 ·obtain⟨y2,e2,h⟩:=B5 h;refine B6 hS [] (by decide:(2:Nat)<=2) (Ad hS hL e2) ?_;refine kI hS h (fun h=>?_) (fun h=>?_)
  ·obtain rfl:=B4 h;exact A6 hS trivial ⟨[(5,pN 2),(4,.reg 5000 0)],[(5000,.cells [pN 0,.p (vSl 1 (cI .u64) (Sl.nil:Sl Int))])]⟩ [] (ids:=[(5000,5000)]) ⟨rfl,rfl,rfl⟩
  ·refine QA hS trivial h (fun x1 x2 x3=>⟨[(9,.p (pI .u64 x3)),(8,.reg 9000 0),(7,.reg 8000 0),(4,.reg 5000 0),(2,.p (.ptr [pI .i64 p_t.Langs,vSl 1 (cI .u64) p_t.Has]))],[(9000,.cells [pN x2,.p J5]),(8000,.arr 32 (fun i=>pI .i64 (x1 i))),(5000,.cells [pN 0,.p J5])]⟩) (ids:=[(5000,5000),(8000,8000),(9000,9000)]) (fun _ _ _ _ _ self1 x1 x2 x3 hb1 h=>?_) (hle:=klR [(4,.fn 32 32 (fun i=>[(fun i=>(List.replicate 32 (pI .i64 0)).getD i default) i]) (fun i=>[pI .i64 ((fun _=>0) i)]))] (al1 ⟨rfl,Z0 (z:=pI .i64 0) rfl⟩ al0));refine kI hS h (fun h=>?_) (fun h=>?_)
   ·refine N0 hS trivial [3] ?_;obtain⟨y5,e5,h⟩:=B5 h;refine At trivial (R9 hS hL e5) ?_;obtain⟨c8,h⟩:=G5 h;refine P3 c8 ?_;exact hb1 _ [(5000,5000),(8000,8000),(9000,9000)] _ (Il x1 (0+x2.toNat*1) y5) (wrap .i64 (x2+1)) (G0 .and .u64 x3 (wrap .u64 (x3-1))) trivial h (hle:=klR [(4,.fn 32 32 (fun i=>[(fun i=>if i=(0+x2.toNat*1)then (pI .i64 y5)else (fun i=>pI .i64 (x1 i)) i) i]) (fun i=>[pI .i64 (Il x1 (0+x2.toNat*1) y5 i)]))] (al1 ⟨rfl,VG (c:=pI .i64) (v:=x1) (x:=y5) (fun _ _=>rfl) rfl⟩ al0))
   ·refine Ys hS trivial 44 8000 32 (fun i=>pI .i64 (x1 i)) ?_;refine N1 hS trivial h (fun x6 x7=>⟨[(47,pN x7),(46,pN (p_t.Has.n:Int)),(45,.p (vSl 1 (cI .u64) p_t.Has)),(8,.reg 9000 0),(7,.p (.ptr (Y4 32 (fun i=>pI .i64 (x1 i))))),(4,.reg 5000 0)],[(9500,.vec P4 1 x6.n (fun i=>cI .u64 (x6.g i)) false),(9000,.cells [pN x2,.vec 9500]),(5000,.cells [pN 0,.p J5])]⟩) (ids:=[(5000,5000),(9000,9000)]) (fun _ _ _ _ _ self4 x6 x7 hb4 h=>?_);refine kI hS h (fun h=>?_) (fun h=>?_)
    ·obtain⟨c22,h⟩:=G5 h;refine N1 hS c22 h (fun x10 x11=>⟨[(55,pN x11),(54,pN ((⟨x2.toNat,x1⟩:Sl Int).n:Int)),(53,.p (vSl 1 (cI .i64) (⟨x2.toNat,x1⟩:Sl Int))),(47,pN x7),(46,pN (p_t.Has.n:Int)),(45,.p (vSl 1 (cI .u64) p_t.Has)),(12,.p (pI .u64 x10)),(11,.p (pI .u64 (p_t.Has.g x7.toNat))),(8,.reg 9000 0),(7,.p (.ptr (Y4 32 (fun i=>pI .i64 (x1 i))))),(4,.reg 5000 0)],[(9500,.vec P4 1 x6.n (fun i=>cI .u64 (x6.g i)) false),(9000,.cells [pN x2,.vec 9500]),(5000,.cells [pN 0,.p J5])]⟩) (ids:=[(5000,5000),(9000,9000),(9500,9500)]) (fun _ _ _ _ _ self5 x10 x11 hb5 h=>?_) (hle:=klR [(2,.fn x2.toNat (⟨x2.toNat,x1⟩:Sl Int).n (fun i=>[(Y4 32 (fun i=>pI .i64 (x1 i))).getD i default]) (fun i=>cI .i64 ((⟨x2.toNat,x1⟩:Sl Int).g i)))] (al1 ⟨rfl,fun i hi=>arrG _ (by omega)⟩ al0));refine kI hS h (fun h=>?_) (fun h=>?_)
     ·obtain⟨c26,h⟩:=G5 h;exact hb5 _ [(5000,5000),(9000,9000),(9500,9500)] _ (G0 .or .u64 x10 (shI .shl .u64 (G0 .and .u64 (shI .shr .u64 (p_t.Has.g x7.toNat) ((⟨x2.toNat,x1⟩:Sl Int).g x11.toNat)) 1) x11)) (wrap .i64 (x11+1)) c26 h
     ·obtain⟨c27,h⟩:=G5 h;exact hb4 _ [(5000,5000),(9000,9000),(9500,74000)] _ (x6.push x10) (wrap .i64 (x7+1)) (And.intro (rfl:true=true) c27) h (hle:=klR [(4,.fn (x6.n+1) (x6.push x10).n (AD x6.n (fun i=>cI .u64 (x6.g i)) (E9 [pI .u64 0] [(0,cI .u64 x10)])) (fun i=>cI .u64 ((x6.push x10).g i)))] (al1 ⟨rfl,NH (c:=cI .u64) (v:=x6) (x:=x10) (z:=[(pI .u64 0)]) same rfl rfl⟩ al0))
    ·obtain rfl:=B4 h;exact A6 hS trivial ⟨[(5,pN 0),(4,.reg 5000 0)],[(5000,.cells [pN x2,.p (vSl 1 (cI .u64) x6)])]⟩ [] (ids:=[(5000,5000)]) ⟨rfl,rfl,rfl⟩
def I4 (N:Nat)(p_seq:List (Int)):Option (Sl Int):=
 V4 p_seq (fun self1 (x1:Int) (z1:Sl Int)=>
  if ((z1.n+(Sl.of [x1]:Sl Int).n)*8<=140737488355328/\z1.n+(Sl.of [x1]:Sl Int).n<=140737488355328)then
   self1 (z1.push x1)
  else none
  ) (fun (z1:Sl Int)=>
   some z1
  ) (Sl.nil:Sl Int)
theorem AB {N:Nat}{p_seq:List (Int)}{p_seq_0:A1}{p_seq_1k:Nat}{p_seq_1_0:List PV}{kp_seq:Nat}(fp_seq:∃fn,YN[kp_seq]? = some fn/\fn.body.isSome=true/\(fn.name == "runtime.NumGoroutine")=false)(hp_seq:CO S kp_seq [] [.reg 0 0,.reg 1 0] [(.cells [(pN p_seq_0.Langs),(.p (vSl 1 (cI .u64) p_seq_0.Has))]),(.cells [(.clo p_seq_1k [] [(.p (.ptr p_seq_1_0))])])] (p_seq.map (fun (x:Int)=>[(pI .i64) x]))){y:(Sl Int)}(h:I4 N p_seq=some y) :FunO S J2 [(.p J5),(.clo kp_seq [] [(.reg 0 0),(.reg 1 0)])] [(.cells [(pN p_seq_0.Langs),(.p (vSl 1 (cI .u64) p_seq_0.Has))]),(.cells [(.clo p_seq_1k [] [(.p (.ptr p_seq_1_0))])])] (.vec 0) ([(.vec E3 1 y.n (fun i=>(cI .i64) (y.g i)) true)]) [false,false]:=by
 unfold I4 at h;refine A4 hS P9 ?_;refine Ma hS trivial fp_seq [0,1] [2] 901 (fun z1=>⟨[(2,(.reg 3000 0))],[(3500,(.vec E3 1 z1.n (fun i=>(cI .i64) (z1.g i)) false)),(3000,(.cells [(.vec 3500)]))]⟩) (idl:=[(3000,3000)]) h hp_seq (fun _=>by kernel_rfl) (fun _=>by kernel_rfl) (fun _=>by kernel_rfl) (fun _=>by kernel_rfl) (fun x1 _ self1 z1 hb1 h=>?_) (fun z1 h=>?_)
 ·refine Gc hS trivial ?_;obtain⟨c1,h⟩:=G5 h;exact hb1 _ [(901,901),(3000,3000),(3500,12000)] _ (z1.push x1) (And.intro (rfl:true=true) c1) h (hle:=klR [(0,.fn (z1.n+1) (z1.push x1).n (AD z1.n (fun i=>(cI .i64) (z1.g i)) (E9 [(pI .i64 0)] [(0,(cI .i64) x1)])) (fun i=>(cI .i64) ((z1.push x1).g i)))] (al1 ⟨rfl,(NH (c:=(cI .i64)) (v:=z1) (x:=x1) (z:=[(pI .i64 0)]) same rfl rfl)⟩ al0))
 ·obtain rfl:=B4 h;exact A6 hS trivial ⟨[(4,(.vec 3500))],[(3500,(.vec E3 1 z1.n (fun i=>(cI .i64) (z1.g i)) true))]⟩ [3500] (ids:=[(3500,3500)]) ⟨rfl,rfl,rfl⟩
def S6 (N:Nat)(p_seq:List (Int)):Option (Sl Int):=
 (I4 N p_seq).bind fun y1=>
 some y1
theorem Ew {N:Nat}{p_seq:List (Int)}{p_seq_0:A1}{p_seq_1k:Nat}{p_seq_1_0:List PV}{kp_seq:Nat}(fp_seq:∃fn,YN[kp_seq]? = some fn/\fn.body.isSome=true/\(fn.name == "runtime.NumGoroutine")=false)(hp_seq:CO S kp_seq [] [.reg 0 0,.reg 1 0] [(.cells [(pN p_seq_0.Langs),(.p (vSl 1 (cI .u64) p_seq_0.Has))]),(.cells [(.clo p_seq_1k [] [(.p (.ptr p_seq_1_0))])])] (p_seq.map (fun (x:Int)=>[(pI .i64) x]))){y:(Sl Int)}(h:S6 N p_seq=some y) :FunO S U1 [(.clo kp_seq [] [(.reg 0 0),(.reg 1 0)])] [(.cells [(pN p_seq_0.Langs),(.p (vSl 1 (cI .u64) p_seq_0.Has))]),(.cells [(.clo p_seq_1k [] [(.p (.ptr p_seq_1_0))])])] (.vec 0) ([(.vec E3 1 y.n (fun i=>(cI .i64) (y.g i)) true)]) [false,false]:=by unfold S6 at h;refine A4 hS AU ?_;obtain⟨y1,e1,h⟩:=B5 h;refine B6 hS [0,1] trivial (AB hS hL fp_seq hp_seq e1) ?_;obtain rfl:=B4 h;exact A6 hS trivial ⟨[(2,(.vec 5000))],[(5000,(.vec E3 1 y1.n (fun i=>(cI .i64) (y1.g i)) true))]⟩ [5000] (ids:=[(5000,5000)]) ⟨rfl,rfl,rfl⟩
def Cp (N:Nat)(p_t:A1):Option ((Sl Int)×Int):=
 (D4 N p_t).bind fun y1=>
 if (y1 != 0) then
  some ((Sl.nil:Sl Int),y1)
 else
  (M0 N p_t (fun (u1:Int)=>W6 N u1 p_t)).bind fun y2=>
  (E2 N y2 (fun (u2:Int)=>W6 N u2 p_t)).bind fun L1=>
  (S6 N L1).bind fun y3=>
  some (y3,0)
theorem KH {N:Nat}{p_t:A1}{y:(Sl Int)×Int}(h:Cp N p_t=some y) :FunO S EQ [.p (.agg (A9 p_t))] [] (.tup [.p (vSl 1 (cI .i64) y.1),pN y.2]) ([]) []:=by
 unfold Cp at h;refine A4 hS Kd ?_;refine kC hS h (T9 hS hL) (fun y1 h=>?_);refine kI hS h (fun h=>?_) (fun h=>?_)
 ·obtain rfl:=B4 h;exact A6 hS trivial ⟨[(3,pN y1),(2,.p (vSl 1 (cI .i64) (Sl.nil:Sl Int)))],[]⟩ [] (ids:=[]) ⟨rfl,rfl,rfl⟩
 ·refine J6 hS trivial 11 2000 [pI .i64 p_t.Langs,vSl 1 (cI .u64) p_t.Has] ?_;refine kC hS h (X6 hS hL (fun e=>DE hS hL e)) (fun y2 h=>?_);obtain⟨L1,e3,h⟩:=B5 h;obtain⟨y3,e4,h⟩:=B5 h;refine B6 hS [13000,13001] trivial (Ew hS hL ⟨_,R8,by decide +kernel,by decide +kernel⟩ (S5 hS hL (fun e=>DE hS hL e) e3) e4) ?_;obtain rfl:=B4 h;exact A6 hS trivial ⟨[(3,pN 0),(2,.p (vSl 1 (cI .i64) y3))],[]⟩ [] (ids:=[]) ⟨rfl,rfl,rfl⟩
def Ap (N:Nat)(p_h:J1):Option ((Sl Int)×Int):=
 (Dp N p_h.Tree).bind fun y1=>
 if (y1.2 != 0) then
  some ((Sl.nil:Sl Int),y1.2)
 else
  if (decide (32<(y1.1.n:Int))) then
   some ((Sl.nil:Sl Int),12)
  else
   some (y1.1,0)
theorem Fh {N:Nat}{p_h:J1}{y:(Sl Int)×Int}(h:Ap N p_h=some y) :FunO S ES [.p (.agg (D1 p_h))] [] (.tup [.vec 0,pN y.2]) ([.vec E3 1 y.1.n (fun i=>cI .i64 (y.1.g i)) true]) []:=by
 unfold Ap at h;refine A4 hS Kf ?_;refine kC hS h (ML hS hL) (fun y1 h=>?_);refine kI hS h (fun h=>?_) (fun h=>?_)
 ·obtain rfl:=B4 h;exact A6 hS trivial ⟨[(3,pN y1.2),(2,.vec 3700)],[(3700,.vec E3 1 (Sl.nil:Sl Int).n (fun i=>cI .i64 ((Sl.nil:Sl Int).g i)) true)]⟩ [3700] (ids:=[]) ⟨rfl,rfl,rfl⟩
 ·refine kI hS h (fun h=>?_) (fun h=>?_)
  ·obtain rfl:=B4 h;exact A6 hS trivial ⟨[(3,pN 12),(2,.vec 3700)],[(3700,.vec E3 1 (Sl.nil:Sl Int).n (fun i=>cI .i64 ((Sl.nil:Sl Int).g i)) true)]⟩ [3700] (ids:=[]) ⟨rfl,rfl,rfl⟩
  ·obtain rfl:=B4 h;exact A6 hS trivial ⟨[(3,pN 0),(2,.vec 10000)],[(10000,.vec E3 1 y1.1.n (fun i=>cI .i64 (y1.1.g i)) true)]⟩ [10000] (ids:=[(10000,10000)]) ⟨rfl,rfl,rfl⟩
def Ex (N:Nat)(p_h:J1):Option (A1×Int):=
 (S3 N p_h).bind fun y1=>
 if (y1 != 0) then
  some ((⟨0,(Sl.nil:Sl Int)⟩:A1),y1)
 else
  (Ap N p_h).bind fun y2=>
  if (y2.2 != 0) then
   some ((⟨0,(Sl.nil:Sl Int)⟩:A1),y2.2)
  else
   if ((0:Int)<=(p_h.Laws.n:Int)/\(p_h.Laws.n:Int)<=(p_h.Laws.n:Int)/\(p_h.Laws.n:Int)*8<=140737488355328/\(p_h.Laws.n:Int)<=140737488355328)then
    Dv N (fun self3 (x3:Sl Int) (x4:Int)=>
     if (decide (x4<(y2.1.n:Int))) then
      if (((0:Int)<=x4/\x4<(y2.1.n:Int))/\x4.toNat<y2.1.n)then
       (Ao N p_h (y2.1.g x4.toNat)).bind fun y5=>
       if (y5.2 != 0) then
        some ((⟨0,(Sl.nil:Sl Int)⟩:A1),y5.2)
       else
        Dv N (fun self4 (x7:Sl Int) (x8:Int)=>
         if (decide (x8<(y5.1.n:Int))) then
          if (((0:Int)<=x8/\x8<(y5.1.n:Int))/\x8.toNat<y5.1.n)then
           if ((((((0:Int)<=(y5.1.g x8.toNat)/\(y5.1.g x8.toNat)<(x7.n:Int))/\(y5.1.g x8.toNat).toNat<x7.n)/\(0:Int)<=x4)/\((0:Int)<=(y5.1.g x8.toNat)/\(y5.1.g x8.toNat)<(x7.n:Int)))/\(y5.1.g x8.toNat).toNat<x7.n)then
            self4 (x7.upd (y5.1.g x8.toNat).toNat (G0 .or .u64 (x7.g (y5.1.g x8.toNat).toNat) (shI .shl .u64 1 x4))) (wrap .i64 (x8+1))
           else none
          else none
         else
          self3 x7 (wrap .i64 (x4+1))
         ) x3 0
      else none
     else
      some ((⟨(y2.1.n:Int),x3⟩:A1),0)
     ) (Sl.rep (p_h.Laws.n:Int).toNat 0:Sl Int) 0
   else none
theorem OC {N:Nat}{p_h:J1}{y:A1×Int}(h:Ex N p_h=some y) :FunO S Hz [.p (.agg (D1 p_h))] [] (.tup [.p (.agg (A9 y.1)),pN y.2]) ([]) []:=by
 unfold Ex at h;refine A4 hS NW ?_;refine J6 hS trivial 2 2000 (D1 p_h) ?_;obtain⟨y1,e1,h⟩:=B5 h;refine B6 hS [] (by decide:(3:Nat)<=3) (BA hS hL e1) ?_;refine kI hS h (fun h=>?_) (fun h=>?_)
 ·obtain rfl:=B4 h;exact A6 hS trivial ⟨[(3,pN y1),(2,.reg 3000 0)],[(3000,.cells [pN 0,.p (vSl 1 (cI .u64) (Sl.nil:Sl Int))])]⟩ [] (ids:=[(3000,3000)]) ⟨rfl,rfl,rfl⟩
 ·obtain⟨y2,e2,h⟩:=B5 h;refine B6 hS [] (by decide:(3:Nat)<=3) (Fh hS hL e2) ?_;refine kI hS h (fun h=>?_) (fun h=>?_)
  ·obtain rfl:=B4 h;exact A6 hS trivial ⟨[(3,pN y2.2),(2,.reg 3000 0)],[(3000,.cells [pN 0,.p (vSl 1 (cI .u64) (Sl.nil:Sl Int))])]⟩ [] (ids:=[(3000,3000)]) ⟨rfl,rfl,rfl⟩
  ·obtain⟨c3,h⟩:=G5 h;refine N1 hS c3 h (fun x3 x4=>⟨[(38,pN x4),(37,pN (y2.1.n:Int)),(36,.vec 23000),(7,.reg 8000 0),(2,.reg 3000 0),(1,.p (.ptr (D1 p_h)))],[(35000,.vec P4 1 x3.n (fun i=>cI .u64 (x3.g i)) false),(23000,.vec E3 1 y2.1.n (fun i=>cI .i64 (y2.1.g i)) true),(8000,.cells [pN (y2.1.n:Int),.vec 35000]),(3000,.cells [pN 0,.p J5])]⟩) (ids:=[(3000,3000),(8000,8000),(23000,23000),(35000,35000)]) (fun _ _ _ _ _ self3 x3 x4 hb3 h=>?_);refine kI hS h (fun h=>?_) (fun h=>?_)
   ·obtain⟨c29,h⟩:=G5 h;obtain⟨y5,e5,h⟩:=B5 h;refine B6 hS [] (And.intro (And.intro c29.1 c29.2) (by decide:(3:Nat)<=3)) (Ff hS hL e5) ?_;refine kI hS h (fun h=>?_) (fun h=>?_)
    ·obtain rfl:=B4 h;exact A6 hS trivial ⟨[(3,pN y5.2),(2,.reg 3000 0)],[(3000,.cells [pN 0,.p (vSl 1 (cI .u64) (Sl.nil:Sl Int))])]⟩ [] (ids:=[(3000,3000)]) ⟨rfl,rfl,rfl⟩
    ·refine N1 hS trivial h (fun x7 x8=>⟨[(55,pN x8),(54,pN (y5.1.n:Int)),(53,.vec 47000),(38,pN x4),(37,pN (y2.1.n:Int)),(36,.vec 23000),(8,pN x4),(7,.reg 8000 0),(2,.reg 3000 0),(1,.p (.ptr (D1 p_h)))],[(47000,.vec E3 1 y5.1.n (fun i=>cI .i64 (y5.1.g i)) true),(35000,.vec P4 1 x7.n (fun i=>cI .u64 (x7.g i)) false),(23000,.vec E3 1 y2.1.n (fun i=>cI .i64 (y2.1.g i)) true),(8000,.cells [pN (y2.1.n:Int),.vec 35000]),(3000,.cells [pN 0,.p J5])]⟩) (ids:=[(3000,3000),(8000,8000),(23000,23000),(35000,35000),(47000,47000)]) (fun _ _ _ _ _ self4 x7 x8 hb4 h=>?_);refine kI hS h (fun h=>?_) (fun h=>?_)
     ·obtain⟨c38,h⟩:=G5 h;refine Fs hS c38 ?_;obtain⟨c39,h⟩:=G5 h;refine P3 (And.intro (And.intro (And.intro (And.intro c39.1.1.1.1 c39.1.1.1.2) c39.1.1.2) c39.1.2) (And.intro (rfl:(1:Nat)=1) (And.intro c39.2 (by decide:(1:Nat)<=1)))) ?_;exact hb4 _ [(3000,3000),(8000,8000),(23000,23000),(35000,35000),(47000,47000)] _ (x7.upd (y5.1.g x8.toNat).toNat (G0 .or .u64 (x7.g (y5.1.g x8.toNat).toNat) (shI .shl .u64 1 x4))) (wrap .i64 (x8+1)) trivial h (hle:=klR [(7,.fn x7.n (x7.upd (y5.1.g x8.toNat).toNat (G0 .or .u64 (x7.g (y5.1.g x8.toNat).toNat) (shI .shl .u64 1 x4))).n (fun l=>if l=(y5.1.g x8.toNat).toNat then splice ((fun i=>cI .u64 (x7.g i)) l) 0 [pI .u64 (G0 .or .u64 (x7.g (y5.1.g x8.toNat).toNat) (shI .shl .u64 1 x4))]else (fun i=>cI .u64 (x7.g i)) l) (fun i=>cI .u64 ((x7.upd (y5.1.g x8.toNat).toNat (G0 .or .u64 (x7.g (y5.1.g x8.toNat).toNat) (shI .shl .u64 1 x4))).g i)))] (al1 ⟨rfl,XS (c:=cI .u64) (v:=x7) (x:=G0 .or .u64 (x7.g (y5.1.g x8.toNat).toNat) (shI .shl .u64 1 x4)) same (fun _=>by first|rfl|(dsimp only;split<;>rfl))⟩ al0))
     ·exact hb3 _ [(3000,3000),(8000,8000),(23000,23000),(35000,35000)] _ x7 (wrap .i64 (x4+1)) trivial h
   ·obtain rfl:=B4 h;exact A6 hS trivial ⟨[(3,pN 0),(2,.reg 3000 0)],[(3000,.cells [pN (y2.1.n:Int),.p (vSl 1 (cI .u64) x3)])]⟩ [] (ids:=[(3000,3000)]) ⟨rfl,rfl,rfl⟩
def Dq (N:Nat)(p_h:J1)(p_l:Sl (Sl A2)):Option (A1×Int):=
 (S3 N p_h).bind fun y1=>
 if (y1 != 0) then
  some ((⟨0,(Sl.nil:Sl Int)⟩:A1),y1)
 else
  if (decide (256<(p_l.n:Int))) then
   some ((⟨0,(Sl.nil:Sl Int)⟩:A1),12)
  else
   CA N (fun self1 (x1:Int)=>
    if (decide (x1<(p_l.n:Int))) then
     if ((0:Int)<=x1/\x1<(p_l.n:Int))then
      (Aw N (p_l.g x1.toNat)).bind fun y4=>
      if (y4 != 0) then
       some ((⟨0,(Sl.nil:Sl Int)⟩:A1),y4)
      else
       self1 (wrap .i64 (x1+1))
     else none
    else
     (Ap N p_h).bind fun y5=>
     if (y5.2 != 0) then
      some ((⟨0,(Sl.nil:Sl Int)⟩:A1),y5.2)
     else
      Dv N (fun self2 (x2:Sl (Sl Law)) (x3:Int)=>
       if (decide (x3<(y5.1.n:Int))) then
        if (((0:Int)<=x3/\x3<(y5.1.n:Int))/\x3.toNat<y5.1.n)then
         (Cn N p_h (y5.1.g x3.toNat)).bind fun y8=>
         if (y8.2 != 0) then
          some ((⟨0,(Sl.nil:Sl Int)⟩:A1),y8.2)
         else
          if ((x2.n+(Sl.of [y8.1]:Sl (Sl Law)).n)*24<=140737488355328/\x2.n+(Sl.of [y8.1]:Sl (Sl Law)).n<=140737488355328)then
           self2 (x2.push y8.1) (wrap .i64 (x3+1))
          else none
        else none
       else
        Dv N (fun self5 (x7:Sl Int) (x8:Int)=>
         if (decide (x8<(p_l.n:Int))) then
          if ((0:Int)<=x8/\x8<(p_l.n:Int))then
           XQ N (fun self6 (x12:List (Str×Int)) (x13:Sl Int) (x14:Int)=>
            if (decide (x14<(y5.1.n:Int))) then
             if (((0:Int)<=x14/\x14<(x2.n:Int))/\x14.toNat<x2.n)then
              (By N (x2.g x14.toNat) (p_l.g x8.toNat)).bind fun y25=>
              (El N y25.1 y25.2).bind fun y26=>
              XV (Ka eqS y26 x12) (
               if ((x13.n+(Sl.of [0]:Sl Int).n)*8<=140737488355328/\x13.n+(Sl.of [0]:Sl Int).n<=140737488355328)then
                if ((((((0:Int)<=(x13.n:Int)/\(x13.n:Int)<((x13.push 0).n:Int))/\(x13.n:Int).toNat<(x13.push 0).n)/\(0:Int)<=x14)/\((0:Int)<=(x13.n:Int)/\(x13.n:Int)<((x13.push 0).n:Int)))/\(x13.n:Int).toNat<(x13.push 0).n)then
                 self6 (Rx eqS y26 (x13.n:Int) x12) ((x13.push 0).upd (x13.n:Int).toNat (G0 .or .u64 ((x13.push 0).g (x13.n:Int).toNat) (shI .shl .u64 1 x14))) (wrap .i64 (x14+1))
                else none
               else none
               ) fun v9=>
               if ((((((0:Int)<=v9/\v9<(x13.n:Int))/\v9.toNat<x13.n)/\(0:Int)<=x14)/\((0:Int)<=v9/\v9<(x13.n:Int)))/\v9.toNat<x13.n)then
                self6 x12 (x13.upd v9.toNat (G0 .or .u64 (x13.g v9.toNat) (shI .shl .u64 1 x14))) (wrap .i64 (x14+1))
               else none
             else none
            else
             if (decide (1<(x13.n:Int))) then
              if ((x7.n+x13.n)*8<=140737488355328/\x7.n+x13.n<=140737488355328)then
               if (decide (64<((x7.app x13).n:Int))) then
                some ((⟨0,(Sl.nil:Sl Int)⟩:A1),12)
               else
                self5 (x7.app x13) (wrap .i64 (x8+1))
              else none
             else
              if (decide (64<(x7.n:Int))) then
               some ((⟨0,(Sl.nil:Sl Int)⟩:A1),12)
              else
               self5 x7 (wrap .i64 (x8+1))
            ) [] (Sl.nil:Sl Int) 0
          else none
         else
          some ((⟨(y5.1.n:Int),x7⟩:A1),0)
         ) (Sl.nil:Sl Int) 0
       ) (Sl.nil:Sl (Sl Law)) 0
    ) 0
theorem MN {N:Nat}{p_h:J1}{p_l:Sl (Sl A2)}{y:A1×Int}(h:Dq N p_h p_l=some y) :FunO S Gf [.p (.agg (D1 p_h)),.p (vSl 1 (cL 2 A0) p_l)] [] (.tup [.p (.agg (A9 y.1)),pN y.2]) ([]) []:=by
 unfold Dq at h;refine A4 hS Mg ?_;refine J6 hS trivial 4 3000 (D1 p_h) ?_;obtain⟨y1,e1,h⟩:=B5 h;refine B6 hS [] (by decide:(3:Nat)<=3) (BA hS hL e1) ?_;refine kI hS h (fun h=>?_) (fun h=>?_)
 ·obtain rfl:=B4 h;exact A6 hS trivial ⟨[(5,pN y1),(4,.reg 5000 0)],[(5000,.cells [pN 0,.p (vSl 1 (cI .u64) (Sl.nil:Sl Int))])]⟩ [] (ids:=[(5000,5000)]) ⟨rfl,rfl,rfl⟩
 ·refine kI hS h (fun h=>?_) (fun h=>?_)
  ·obtain rfl:=B4 h;exact A6 hS trivial ⟨[(5,pN 12),(4,.reg 5000 0)],[(5000,.cells [pN 0,.p (vSl 1 (cI .u64) (Sl.nil:Sl Int))])]⟩ [] (ids:=[(5000,5000)]) ⟨rfl,rfl,rfl⟩
  ·refine Z6 hS trivial h (fun x1=>⟨[(38,pN x1),(37,pN (p_l.n:Int)),(36,.p (vSl 1 (cL 2 A0) p_l)),(4,.reg 5000 0),(2,.p (.ptr (D1 p_h))),(1,.p (vSl 1 (cL 2 A0) p_l))],[(5000,.cells [pN 0,.p J5])]⟩) (ids:=[(5000,5000)]) (fun _ _ _ _ _ self1 x1 hb1 h=>?_);refine kI hS h (fun h=>?_) (fun h=>?_)
   ·obtain⟨c10,h⟩:=G5 h;obtain⟨y4,e4,h⟩:=B5 h;refine B6 hS [] c10 (Eo hS hL e4) ?_;refine kI hS h (fun h=>?_) (fun h=>?_)
    ·obtain rfl:=B4 h;exact A6 hS trivial ⟨[(5,pN y4),(4,.reg 5000 0)],[(5000,.cells [pN 0,.p (vSl 1 (cI .u64) (Sl.nil:Sl Int))])]⟩ [] (ids:=[(5000,5000)]) ⟨rfl,rfl,rfl⟩
    ·exact hb1 _ [(5000,5000)] _ (wrap .i64 (x1+1)) trivial h
   ·obtain⟨y5,e5,h⟩:=B5 h;refine B6 hS [] (by decide:(3:Nat)<=3) (Fh hS hL e5) ?_;refine kI hS h (fun h=>?_) (fun h=>?_)
    ·obtain rfl:=B4 h;exact A6 hS trivial ⟨[(5,pN y5.2),(4,.reg 5000 0)],[(5000,.cells [pN 0,.p (vSl 1 (cI .u64) (Sl.nil:Sl Int))])]⟩ [] (ids:=[(5000,5000)]) ⟨rfl,rfl,rfl⟩
    ·refine N1 hS trivial h (fun x2 x3=>⟨[(60,pN x3),(59,pN (y5.1.n:Int)),(58,.vec 52000),(12,.vec 13500),(10,.vec 52000),(4,.reg 5000 0),(2,.p (.ptr (D1 p_h))),(1,.p (vSl 1 (cL 2 A0) p_l))],[(52000,.vec E3 1 y5.1.n (fun i=>cI .i64 (y5.1.g i)) true),(13500,.vec BP 1 x2.n (fun i=>cL 18 B3 (x2.g i)) false),(5000,.cells [pN 0,.p J5])]⟩) (ids:=[(5000,5000),(52000,52000)]) (fun _ _ _ _ _ self2 x2 x3 hb2 h=>?_);refine kI hS h (fun h=>?_) (fun h=>?_)
     ·obtain⟨c20,h⟩:=G5 h;obtain⟨y8,e8,h⟩:=B5 h;refine B6 hS [] (And.intro (And.intro c20.1 c20.2) (by decide:(3:Nat)<=3)) (KF hS hL e8) ?_;refine kI hS h (fun h=>?_) (fun h=>?_)
      ·obtain rfl:=B4 h;exact A6 hS trivial ⟨[(5,pN y8.2),(4,.reg 5000 0)],[(5000,.cells [pN 0,.p (vSl 1 (cI .u64) (Sl.nil:Sl Int))])]⟩ [] (ids:=[(5000,5000)]) ⟨rfl,rfl,rfl⟩
      ·obtain⟨c22,h⟩:=G5 h;exact hb2 _ [(5000,5000),(13500,78000),(52000,52000)] _ (x2.push y8.1) (wrap .i64 (x3+1)) (And.intro (rfl:true=true) c22) h (hle:=klR [(5,.fn (x2.n+1) (x2.push y8.1).n (AD x2.n (fun i=>cL 18 B3 (x2.g i)) (E9 [J5] [(0,cL 18 B3 y8.1)])) (fun i=>cL 18 B3 ((x2.push y8.1).g i)))] (al1 ⟨rfl,NH (c:=cL 18 B3) (v:=x2) (x:=y8.1) (z:=[J5]) same rfl rfl⟩ al0))
     ·refine N1 hS trivial h (fun x7 x8=>⟨[(84,pN x8),(83,pN (p_l.n:Int)),(82,.p (vSl 1 (cL 2 A0) p_l)),(17,.reg 18000 0),(12,.vec 13500),(10,.vec 52000),(4,.reg 5000 0)],[(52000,.vec E3 1 y5.1.n (fun i=>cI .i64 (y5.1.g i)) true),(18500,.vec P4 1 x7.n (fun i=>cI .u64 (x7.g i)) false),(18000,.cells [pN (y5.1.n:Int),.vec 18500]),(13500,.vec BP 1 x2.n (fun i=>cL 18 B3 (x2.g i)) false),(5000,.cells [pN 0,.p J5])]⟩) (ids:=[(5000,5000),(13500,13500),(18000,18000),(52000,52000)]) (fun _ _ _ _ _ self5 x7 x8 hb5 h=>?_);refine kI hS h (fun h=>?_) (fun h=>?_)
      ·obtain⟨c76,h⟩:=G5 h;refine QA hS c76 h (fun x12 x13 x14=>⟨[(91,pN x14),(90,pN (y5.1.n:Int)),(84,pN x8),(83,pN (p_l.n:Int)),(82,.p (vSl 1 (cL 2 A0) p_l)),(21,.vec 22500),(20,.mref 89000),(19,.p (vSl 2 A0 (p_l.g x8.toNat))),(17,.reg 18000 0),(12,.vec 13500),(10,.vec 52000),(4,.reg 5000 0)],[(89000,.map (IR PV.str (pI .i64) x12)),(52000,.vec E3 1 y5.1.n (fun i=>cI .i64 (y5.1.g i)) true),(22500,.vec P4 1 x13.n (fun i=>cI .u64 (x13.g i)) false),(18500,.vec P4 1 x7.n (fun i=>cI .u64 (x7.g i)) false),(18000,.cells [pN (y5.1.n:Int),.vec 18500]),(13500,.vec BP 1 x2.n (fun i=>cL 18 B3 (x2.g i)) false),(5000,.cells [pN 0,.p J5])]⟩) (ids:=[(5000,5000),(13500,13500),(18000,18000),(18500,18500),(52000,52000),(89000,89000)]) (fun _ _ _ _ _ self6 x12 x13 x14 hb6 h=>?_);refine kI hS h (fun h=>?_) (fun h=>?_)
       ·obtain⟨c91,h⟩:=G5 h;obtain⟨y25,e25,h⟩:=B5 h;refine B6 hS [] c91 (JF hS hL e25) ?_;refine kC hS h (Ot hS hL) (fun y26 h=>?_);rcases o9:Ka eqS y26 x12 with _|v9
        ·replace h:=optN o9 h;refine EE hS trivial (kt:=An) (e:=E3) (key:=PV.str y26) (es:=IR PV.str (pI .i64) x12) (x:=pI .i64 0) (b:=false) (fd:=none) ((Bn (kP:=PV.str) (vP:=pI .i64) (eq:=eqS) (fun _ _=>by kernel_rfl) y26 x12).trans (by rw[o9];rfl)) trivial ?_;refine D5 hS trivial (b:=true) (fun c92=>?_) (fun c92=>?_)
         ·refine Ij hS trivial (kt:=An) (key:=PV.str y26) (y:=pI .i64 (x13.n:Int)) (es:=IR PV.str (pI .i64) x12) (FX (kP:=PV.str) (vP:=pI .i64) (eq:=eqS) (fun _ _=>by kernel_rfl) y26 (x13.n:Int) x12) trivial ?_;obtain⟨c93,h⟩:=G5 h;refine U0 hS (And.intro (rfl:true=true) c93) 21 ⟨[(118,.vec 119000),(91,pN x14),(90,pN (y5.1.n:Int)),(84,pN x8),(83,pN (p_l.n:Int)),(82,.p (vSl 1 (cL 2 A0) p_l)),(24,pN (x13.n:Int)),(22,pN x14),(20,.mref 89000),(19,.p (vSl 2 A0 (p_l.g x8.toNat))),(17,.reg 18000 0),(12,.vec 13500),(10,.vec 52000),(4,.reg 5000 0)],[(119000,.vec P4 1 (x13.push 0).n (fun i=>cI .u64 ((x13.push 0).g i)) false),(89000,.map (IR PV.str (pI .i64) (Rx eqS y26 (x13.n:Int) x12))),(52000,.vec E3 1 y5.1.n (fun i=>cI .i64 (y5.1.g i)) true),(18500,.vec P4 1 x7.n (fun i=>cI .u64 (x7.g i)) false),(18000,.cells [pN (y5.1.n:Int),.vec 18500]),(13500,.vec BP 1 x2.n (fun i=>cL 18 B3 (x2.g i)) false),(5000,.cells [pN 0,.p J5])]⟩ (ids:=[(5000,5000),(13500,13500),(18000,18000),(18500,18500),(52000,52000),(89000,89000),(119000,119000)]) ?_ (hle:=klR [(8,.fn (x13.n+1) (x13.push 0).n (AD x13.n (fun i=>cI .u64 (x13.g i)) (E9 [pI .u64 0] [(0,cI .u64 0)])) (fun i=>cI .u64 ((x13.push 0).g i)))] (al1 ⟨rfl,NH (c:=cI .u64) (v:=x13) (x:=0) (z:=[(pI .u64 0)]) same rfl rfl⟩ al0));refine Fs hS trivial ?_;obtain⟨c94,h⟩:=G5 h;refine P3 (And.intro (And.intro (And.intro (And.intro c94.1.1.1.1 c94.1.1.1.2) c94.1.1.2) c94.1.2) (And.intro (rfl:(1:Nat)=1) (And.intro c94.2 (by decide:(1:Nat)<=1)))) ?_;exact hb6 _ [(5000,5000),(13500,13500),(18000,18000),(18500,18500),(22500,119000),(52000,52000),(89000,89000)] _ (Rx eqS y26 (x13.n:Int) x12) ((x13.push 0).upd (x13.n:Int).toNat (G0 .or .u64 ((x13.push 0).g (x13.n:Int).toNat) (shI .shl .u64 1 x14))) (wrap .i64 (x14+1)) trivial h (hle:=klR [(8,.fn (x13.push 0).n ((x13.push 0).upd (x13.n:Int).toNat (G0 .or .u64 ((x13.push 0).g (x13.n:Int).toNat) (shI .shl .u64 1 x14))).n (fun l=>if l=(x13.n:Int).toNat then splice ((fun i=>cI .u64 ((x13.push 0).g i)) l) 0 [pI .u64 (G0 .or .u64 ((x13.push 0).g (x13.n:Int).toNat) (shI .shl .u64 1 x14))]else (fun i=>cI .u64 ((x13.push 0).g i)) l) (fun i=>cI .u64 (((x13.push 0).upd (x13.n:Int).toNat (G0 .or .u64 ((x13.push 0).g (x13.n:Int).toNat) (shI .shl .u64 1 x14))).g i)))] (al1 ⟨rfl,XS (c:=cI .u64) (v:=x13.push 0) (x:=G0 .or .u64 ((x13.push 0).g (x13.n:Int).toNat) (shI .shl .u64 1 x14)) same (fun _=>by first|rfl|(dsimp only;split<;>rfl))⟩ al0))
         ·exact Bool.noConfusion ((rfl:true=true).symm.trans c92)
        ·replace h:=optS o9 h;refine EE hS trivial (kt:=An) (e:=E3) (key:=PV.str y26) (es:=IR PV.str (pI .i64) x12) (x:=pI .i64 v9) (b:=true) (fd:=some (pI .i64 v9)) ((Bn (kP:=PV.str) (vP:=pI .i64) (eq:=eqS) (fun _ _=>by kernel_rfl) y26 x12).trans (by rw[o9];rfl)) trivial ?_;refine D5 hS trivial (b:=false) (fun c95=>?_) (fun c95=>?_)
         ·exact Bool.noConfusion ((rfl:false=false).symm.trans c95)
         ·refine Fs hS trivial ?_;obtain⟨c96,h⟩:=G5 h;refine P3 (And.intro (And.intro (And.intro (And.intro c96.1.1.1.1 c96.1.1.1.2) c96.1.1.2) c96.1.2) (And.intro (rfl:(1:Nat)=1) (And.intro c96.2 (by decide:(1:Nat)<=1)))) ?_;exact hb6 _ [(5000,5000),(13500,13500),(18000,18000),(18500,18500),(22500,22500),(52000,52000),(89000,89000)] _ x12 (x13.upd v9.toNat (G0 .or .u64 (x13.g v9.toNat) (shI .shl .u64 1 x14))) (wrap .i64 (x14+1)) trivial h (hle:=klR [(8,.fn x13.n (x13.upd v9.toNat (G0 .or .u64 (x13.g v9.toNat) (shI .shl .u64 1 x14))).n (fun l=>if l=v9.toNat then splice ((fun i=>cI .u64 (x13.g i)) l) 0 [pI .u64 (G0 .or .u64 (x13.g v9.toNat) (shI .shl .u64 1 x14))]else (fun i=>cI .u64 (x13.g i)) l) (fun i=>cI .u64 ((x13.upd v9.toNat (G0 .or .u64 (x13.g v9.toNat) (shI .shl .u64 1 x14))).g i)))] (al1 ⟨rfl,XS (c:=cI .u64) (v:=x13) (x:=G0 .or .u64 (x13.g v9.toNat) (shI .shl .u64 1 x14)) same (fun _=>by first|rfl|(dsimp only;split<;>rfl))⟩ al0))
       ·refine kI hS h (fun h=>?_) (fun h=>?_)
        ·obtain⟨c98,h⟩:=G5 h;refine D5 hS c98 (b:=decide (64<((x7.app x13).n:Int))) (fun c99=>?_) (fun c99=>?_)
         ·replace h:=itT c99 h;obtain rfl:=B4 h;exact A6 hS trivial ⟨[(5,pN 12),(4,.reg 5000 0)],[(5000,.cells [pN 0,.p (vSl 1 (cI .u64) (Sl.nil:Sl Int))])]⟩ [] (ids:=[(5000,5000)]) ⟨rfl,rfl,rfl⟩
         ·replace h:=itF c99 h;exact hb5 _ [(5000,5000),(13500,13500),(18000,18000),(18500,135000),(52000,52000)] _ (x7.app x13) (wrap .i64 (x8+1)) trivial h (hle:=klR [(4,.fn (x7.n+x13.n) (x7.app x13).n (AD x7.n (fun i=>cI .u64 (x7.g i)) (fun i=>cI .u64 (x13.g i))) (fun i=>cI .u64 ((x7.app x13).g i)))] (al1 ⟨rfl,appL (c:=cI .u64) (v:=x7) (w:=x13) same rfl same rfl⟩ al0))
        ·refine kI hS h (fun h=>?_) (fun h=>?_)
         ·obtain rfl:=B4 h;exact A6 hS trivial ⟨[(5,pN 12),(4,.reg 5000 0)],[(5000,.cells [pN 0,.p (vSl 1 (cI .u64) (Sl.nil:Sl Int))])]⟩ [] (ids:=[(5000,5000)]) ⟨rfl,rfl,rfl⟩
         ·exact hb5 _ [(5000,5000),(13500,13500),(18000,18000),(18500,18500),(52000,52000)] _ x7 (wrap .i64 (x8+1)) trivial h
      ·obtain rfl:=B4 h;exact A6 hS trivial ⟨[(5,pN 0),(4,.reg 5000 0)],[(5000,.cells [pN (y5.1.n:Int),.p (vSl 1 (cI .u64) x7)])]⟩ [] (ids:=[(5000,5000)]) ⟨rfl,rfl,rfl⟩
def FC (N:Nat)  : Option A1:=
 some (⟨4,(Sl.of [3,6,15,8]:Sl Int)⟩:A1)
theorem PS {N:Nat}    {y:A1}(h:FC N  = some y) :FunO S Jd [] [] (.p (.agg (A9 y))) ([]) []:=by unfold FC at h;refine A4 hS Pv ?_;obtain rfl:=B4 h;exact A6 hS (rfl:true=true) ⟨[(0,.reg 1000 0)],[(1000,.cells [pN 4,.p (vSl 1 (cI .u64) (Sl.of [3,6,15,8]:Sl Int))])]⟩ [] (ids:=[(1000,1000)]) ⟨rfl,rfl,rfl⟩ (hle:=klR [(1,.fn 4 (Sl.of [3,6,15,8]:Sl Int).n (E9 [pI .u64 0] [(0,cI .u64 3),(1,cI .u64 6),(2,cI .u64 15),(3,cI .u64 8)]) (fun i=>cI .u64 ((Sl.of [3,6,15,8]:Sl Int).g i)))] (al1 ⟨rfl,(fun i hi=>match i,hi with|0,_=>rfl|1,_=>rfl|2,_=>rfl|3,_=>rfl|_+4,hi=>absurd hi (by omega))⟩ al0))
def Be (N:Nat)  : Option J1:=
 some (⟨(Sl.of [(⟨-1,[114]⟩:T0),(⟨0,[120]⟩:T0),(⟨1,[97]⟩:T0),(⟨1,[98]⟩:T0),(⟨0,[99]⟩:T0)]:Sl T0),(Sl.of [(⟨[70],Pat.mk 0 (⟨0,0⟩:A2) false 0 0 (Sl.nil:Sl Pat).n (Sl.nil:Sl Pat).g,Pat.mk 6 (⟨0,0⟩:A2) false 0 0 (Sl.nil:Sl Pat).n (Sl.nil:Sl Pat).g,(Sl.of [(⟨4,0⟩:A2)]:Sl A2),(Sl.nil:Sl AF),1⟩:Law),(⟨[86],Pat.mk 1 (⟨4,0⟩:A2) false 0 0 (Sl.nil:Sl Pat).n (Sl.nil:Sl Pat).g,Pat.mk 1 (⟨4,0⟩:A2) false 0 0 (Sl.nil:Sl Pat).n (Sl.nil:Sl Pat).g,(Sl.of [(⟨2,0⟩:A2)]:Sl A2),(Sl.of [(⟨0,0,(⟨1,0⟩:A2),0,0⟩:AF)]:Sl AF),1⟩:Law)]:Sl Law),(Sl.of [(Sl.nil:Sl Int),(Sl.of [0]:Sl Int),(Sl.nil:Sl Int),(Sl.of [1]:Sl Int),(Sl.nil:Sl Int)]:Sl (Sl Int))⟩:J1)
theorem GD {N:Nat}    {y:J1}(h:Be N  = some y) :FunO S Gi [] [] (.p (.agg (D1 y))) ([]) []:=by unfold Be at h;refine A4 hS Mi ?_;refine U0 hS (rfl:true=true) 10 ⟨[(9,.p (vSl 2 A0 (Sl.of [(⟨4,0⟩:A2)]:Sl A2))),(7,.p (.agg [pI .i64 6,pI .u32 0,pI .u32 0,.v (.bool false),pI .i64 0,pI .i64 0,J5])),(1,.reg 2000 0),(0,.reg 1000 0)],[(2000,.cells [pN 1,pU 4,pU 0,.p (.v (.bool false)),pN 0,pN 0,.p J5]),(1000,.cells [.p J5,.p J5,.p J5])]⟩ (ids:=[(1000,1000),(2000,2000)]) ?_ (hle:=klR [(0,.fn 1 (Sl.of [(⟨4,0⟩:A2)]:Sl A2).n (E9 [pI .u32 0,pI .u32 0] [(0,A0 (⟨4,0⟩:A2))]) (fun i=>A0 ((Sl.of [(⟨4,0⟩:A2)]:Sl A2).g i)))] (al1 ⟨rfl,(fun i hi=>match i,hi with|0,_=>rfl|_+1,hi=>absurd hi (by omega))⟩ al0));refine U0 hS trivial 11 ⟨[(2,.reg 3000 0),(1,.reg 2000 0),(0,.reg 1000 0)],[(3000,.cells [.p (.str [70]),pN 0,pU 0,pU 0,.p (.v (.bool false)),pN 0,pN 0,.p J5,pN 6,pU 0,pU 0,.p (.v (.bool false)),pN 0,pN 0,.p J5,.p (vSl 2 A0 (Sl.of [(⟨4,0⟩:A2)]:Sl A2)),.p J5,pN 1]),(2000,.cells [pN 1,pU 4,pU 0,pB false,pN 0,pN 0,.p (vSl 7 C8 (Sl.nil:Sl Pat))]),(1000,.cells [.p J5,.p J5,.p J5])]⟩ (ids:=[(1000,1000),(2000,2000),(3000,3000)]) ?_;refine U0 hS (And.intro (rfl:true=true) (rfl:true=true)) 18 ⟨[(17,.p (vSl 6 P7 (Sl.of [(⟨0,0,(⟨1,0⟩:A2),0,0⟩:AF)]:Sl AF))),(14,.p (vSl 2 A0 (Sl.of [(⟨2,0⟩:A2)]:Sl A2))),(12,.p (.agg [pI .i64 1,pI .u32 4,pI .u32 0,.bb false,pI .i64 0,pI .i64 0,vSl 7 C8 (Sl.nil:Sl Pat)])),(11,.p (.agg [pI .i64 1,pI .u32 4,pI .u32 0,.bb false,pI .i64 0,pI .i64 0,vSl 7 C8 (Sl.nil:Sl Pat)])),(2,.reg 3000 0),(0,.reg 1000 0)],[(3000,.cells [.p (.str [70]),pN 0,pU 0,pU 0,.p (.v (.bool false)),pN 0,pN 0,.p J5,pN 6,pU 0,pU 0,.p (.v (.bool false)),pN 0,pN 0,.p J5,.p (vSl 2 A0 (Sl.of [(⟨4,0⟩:A2)]:Sl A2)),.p J5,pN 1]),(1000,.cells [.p J5,.p J5,.p J5])]⟩ (ids:=[(1000,1000),(3000,3000)]) ?_ (hle:=klR [(0,.fn 1 (Sl.of [(⟨0,0,(⟨1,0⟩:A2),0,0⟩:AF)]:Sl AF).n (E9 [pI .i64 0,pI .u32 0,pI .u32 0,pI .u32 0,pI .u32 0,pI .i64 0] [(0,P7 (⟨0,0,(⟨1,0⟩:A2),0,0⟩:AF))]) (fun i=>P7 ((Sl.of [(⟨0,0,(⟨1,0⟩:A2),0,0⟩:AF)]:Sl AF).g i))),(1,.fn 1 (Sl.of [(⟨2,0⟩:A2)]:Sl A2).n (E9 [pI .u32 0,pI .u32 0] [(0,A0 (⟨2,0⟩:A2))]) (fun i=>A0 ((Sl.of [(⟨2,0⟩:A2)]:Sl A2).g i)))] (al1 ⟨rfl,(fun i hi=>match i,hi with|0,_=>rfl|_+1,hi=>absurd hi (by omega))⟩ (al1 ⟨rfl,(fun i hi=>match i,hi with|0,_=>rfl|_+1,hi=>absurd hi (by omega))⟩ al0)));refine U0 hS (rfl:true=true) 26 ⟨[(25,.vec 25000),(3,.reg 4000 0),(2,.reg 3000 0),(0,.reg 1000 0)],[(25000,.vec Lq 2 (Sl.of [(⟨-1,[114]⟩:T0),(⟨0,[120]⟩:T0),(⟨1,[97]⟩:T0),(⟨1,[98]⟩:T0),(⟨0,[99]⟩:T0)]:Sl T0).n (fun i=>O1 ((Sl.of [(⟨-1,[114]⟩:T0),(⟨0,[120]⟩:T0),(⟨1,[97]⟩:T0),(⟨1,[98]⟩:T0),(⟨0,[99]⟩:T0)]:Sl T0).g i)) false),(4000,.cells [.p (.str [86]),pN 1,pU 4,pU 0,pB false,pN 0,pN 0,.p (vSl 7 C8 (Sl.nil:Sl Pat)),pN 1,pU 4,pU 0,pB false,pN 0,pN 0,.p (vSl 7 C8 (Sl.nil:Sl Pat)),.p (vSl 2 A0 (Sl.of [(⟨2,0⟩:A2)]:Sl A2)),.p (vSl 6 P7 (Sl.of [(⟨0,0,(⟨1,0⟩:A2),0,0⟩:AF)]:Sl AF)),pN 1]),(3000,.cells [.p (.str [70]),pN 0,pU 0,pU 0,pB false,pN 0,pN 0,.p (vSl 7 C8 (Sl.nil:Sl Pat)),pN 6,pU 0,pU 0,pB false,pN 0,pN 0,.p (vSl 7 C8 (Sl.nil:Sl Pat)),.p (vSl 2 A0 (Sl.of [(⟨4,0⟩:A2)]:Sl A2)),.p (vSl 6 P7 (Sl.nil:Sl AF)),pN 1]),(1000,.cells [.p J5,.p J5,.p J5])]⟩ (ids:=[(1000,1000),(3000,3000),(4000,4000),(25000,25000)]) ?_ (hle:=klR [(0,.fn 5 (Sl.of [(⟨-1,[114]⟩:T0),(⟨0,[120]⟩:T0),(⟨1,[97]⟩:T0),(⟨1,[98]⟩:T0),(⟨0,[99]⟩:T0)]:Sl T0).n (E9 [pI .i64 0,.str []] [(0,O1 (⟨-1,[114]⟩:T0)),(1,O1 (⟨0,[120]⟩:T0)),(2,O1 (⟨1,[97]⟩:T0)),(3,O1 (⟨1,[98]⟩:T0)),(4,O1 (⟨0,[99]⟩:T0))]) (fun i=>O1 ((Sl.of [(⟨-1,[114]⟩:T0),(⟨0,[120]⟩:T0),(⟨1,[97]⟩:T0),(⟨1,[98]⟩:T0),(⟨0,[99]⟩:T0)]:Sl T0).g i)))] (al1 ⟨rfl,(fun i hi=>match i,hi with|0,_=>rfl|1,_=>rfl|2,_=>rfl|3,_=>rfl|4,_=>rfl|_+5,hi=>absurd hi (by omega))⟩ al0));refine U0 hS (And.intro (And.intro (rfl:true=true) (rfl:true=true)) (rfl:true=true)) 31 ⟨[(30,.vec 31000),(29,.vec 30000),(28,.vec 29000),(25,.vec 25000),(0,.reg 1000 0)],[(31000,.vec E3 1 (Sl.of [1]:Sl Int).n (fun i=>cI .i64 ((Sl.of [1]:Sl Int).g i)) true),(30000,.vec E3 1 (Sl.of [0]:Sl Int).n (fun i=>cI .i64 ((Sl.of [0]:Sl Int).g i)) true),(29000,.vec Oo 18 (Sl.of [(⟨[70],Pat.mk 0 (⟨0,0⟩:A2) false 0 0 (Sl.nil:Sl Pat).n (Sl.nil:Sl Pat).g,Pat.mk 6 (⟨0,0⟩:A2) false 0 0 (Sl.nil:Sl Pat).n (Sl.nil:Sl Pat).g,(Sl.of [(⟨4,0⟩:A2)]:Sl A2),(Sl.nil:Sl AF),1⟩:Law),(⟨[86],Pat.mk 1 (⟨4,0⟩:A2) false 0 0 (Sl.nil:Sl Pat).n (Sl.nil:Sl Pat).g,Pat.mk 1 (⟨4,0⟩:A2) false 0 0 (Sl.nil:Sl Pat).n (Sl.nil:Sl Pat).g,(Sl.of [(⟨2,0⟩:A2)]:Sl A2),(Sl.of [(⟨0,0,(⟨1,0⟩:A2),0,0⟩:AF)]:Sl AF),1⟩:Law)]:Sl Law).n (fun i=>B3 ((Sl.of [(⟨[70],Pat.mk 0 (⟨0,0⟩:A2) false 0 0 (Sl.nil:Sl Pat).n (Sl.nil:Sl Pat).g,Pat.mk 6 (⟨0,0⟩:A2) false 0 0 (Sl.nil:Sl Pat).n (Sl.nil:Sl Pat).g,(Sl.of [(⟨4,0⟩:A2)]:Sl A2),(Sl.nil:Sl AF),1⟩:Law),(⟨[86],Pat.mk 1 (⟨4,0⟩:A2) false 0 0 (Sl.nil:Sl Pat).n (Sl.nil:Sl Pat).g,Pat.mk 1 (⟨4,0⟩:A2) false 0 0 (Sl.nil:Sl Pat).n (Sl.nil:Sl Pat).g,(Sl.of [(⟨2,0⟩:A2)]:Sl A2),(Sl.of [(⟨0,0,(⟨1,0⟩:A2),0,0⟩:AF)]:Sl AF),1⟩:Law)]:Sl Law).g i)) false),(25000,.vec Lq 2 (Sl.of [(⟨-1,[114]⟩:T0),(⟨0,[120]⟩:T0),(⟨1,[97]⟩:T0),(⟨1,[98]⟩:T0),(⟨0,[99]⟩:T0)]:Sl T0).n (fun i=>O1 ((Sl.of [(⟨-1,[114]⟩:T0),(⟨0,[120]⟩:T0),(⟨1,[97]⟩:T0),(⟨1,[98]⟩:T0),(⟨0,[99]⟩:T0)]:Sl T0).g i)) false),(1000,.cells [.p J5,.p J5,.p J5])]⟩ (ids:=[(1000,1000),(25000,25000),(29000,29000),(30000,30000),(31000,31000)]) ?_ (hle:=klR [(0,.fn 1 (Sl.of [1]:Sl Int).n (E9 [pI .i64 0] [(0,cI .i64 1)]) (fun i=>cI .i64 ((Sl.of [1]:Sl Int).g i))),(1,.fn 1 (Sl.of [0]:Sl Int).n (E9 [pI .i64 0] [(0,cI .i64 0)]) (fun i=>cI .i64 ((Sl.of [0]:Sl Int).g i))),(2,.fn 2 (Sl.of [(⟨[70],Pat.mk 0 (⟨0,0⟩:A2) false 0 0 (Sl.nil:Sl Pat).n (Sl.nil:Sl Pat).g,Pat.mk 6 (⟨0,0⟩:A2) false 0 0 (Sl.nil:Sl Pat).n (Sl.nil:Sl Pat).g,(Sl.of [(⟨4,0⟩:A2)]:Sl A2),(Sl.nil:Sl AF),1⟩:Law),(⟨[86],Pat.mk 1 (⟨4,0⟩:A2) false 0 0 (Sl.nil:Sl Pat).n (Sl.nil:Sl Pat).g,Pat.mk 1 (⟨4,0⟩:A2) false 0 0 (Sl.nil:Sl Pat).n (Sl.nil:Sl Pat).g,(Sl.of [(⟨2,0⟩:A2)]:Sl A2),(Sl.of [(⟨0,0,(⟨1,0⟩:A2),0,0⟩:AF)]:Sl AF),1⟩:Law)]:Sl Law).n (E9 [.str [],pI .i64 0,pI .u32 0,pI .u32 0,.v (.bool false),pI .i64 0,pI .i64 0,J5,pI .i64 0,pI .u32 0,pI .u32 0,.v (.bool false),pI .i64 0,pI .i64 0,J5,J5,J5,pI .i64 0] [(0,B3 (⟨[70],Pat.mk 0 (⟨0,0⟩:A2) false 0 0 (Sl.nil:Sl Pat).n (Sl.nil:Sl Pat).g,Pat.mk 6 (⟨0,0⟩:A2) false 0 0 (Sl.nil:Sl Pat).n (Sl.nil:Sl Pat).g,(Sl.of [(⟨4,0⟩:A2)]:Sl A2),(Sl.nil:Sl AF),1⟩:Law)),(1,B3 (⟨[86],Pat.mk 1 (⟨4,0⟩:A2) false 0 0 (Sl.nil:Sl Pat).n (Sl.nil:Sl Pat).g,Pat.mk 1 (⟨4,0⟩:A2) false 0 0 (Sl.nil:Sl Pat).n (Sl.nil:Sl Pat).g,(Sl.of [(⟨2,0⟩:A2)]:Sl A2),(Sl.of [(⟨0,0,(⟨1,0⟩:A2),0,0⟩:AF)]:Sl AF),1⟩:Law))]) (fun i=>B3 ((Sl.of [(⟨[70],Pat.mk 0 (⟨0,0⟩:A2) false 0 0 (Sl.nil:Sl Pat).n (Sl.nil:Sl Pat).g,Pat.mk 6 (⟨0,0⟩:A2) false 0 0 (Sl.nil:Sl Pat).n (Sl.nil:Sl Pat).g,(Sl.of [(⟨4,0⟩:A2)]:Sl A2),(Sl.nil:Sl AF),1⟩:Law),(⟨[86],Pat.mk 1 (⟨4,0⟩:A2) false 0 0 (Sl.nil:Sl Pat).n (Sl.nil:Sl Pat).g,Pat.mk 1 (⟨4,0⟩:A2) false 0 0 (Sl.nil:Sl Pat).n (Sl.nil:Sl Pat).g,(Sl.of [(⟨2,0⟩:A2)]:Sl A2),(Sl.of [(⟨0,0,(⟨1,0⟩:A2),0,0⟩:AF)]:Sl AF),1⟩:Law)]:Sl Law).g i)))] (al1 ⟨rfl,(fun i hi=>match i,hi with|0,_=>rfl|_+1,hi=>absurd hi (by omega))⟩ (al1 ⟨rfl,(fun i hi=>match i,hi with|0,_=>rfl|_+1,hi=>absurd hi (by omega))⟩ (al1 ⟨rfl,(fun i hi=>match i,hi with|0,_=>rfl|1,_=>rfl|_+2,hi=>absurd hi (by omega))⟩ al0))));refine WO hS (rfl:true=true) 32 32000 (k:=1) (n:=5) (e:=My) (vw:=false) (E9 [J5] [(0,[J5]),(1,cL 1 (cI .i64) (Sl.of [0]:Sl Int)),(2,[J5]),(3,cL 1 (cI .i64) (Sl.of [1]:Sl Int)),(4,[J5])]) (fun i=>cL 1 (cI .i64) ((Sl.of [(Sl.nil:Sl Int),(Sl.of [0]:Sl Int),(Sl.nil:Sl Int),(Sl.of [1]:Sl Int),(Sl.nil:Sl Int)]:Sl (Sl Int)).g i)) (fun i hi=>match i,hi with|0,_=>leCn|1,_=>leCr _|2,_=>leCn|3,_=>leCr _|4,_=>leCn|_+5,hi=>absurd hi (by omega)) ?_;refine U0 hS trivial 32 ⟨[(31,.p (vSl 1 (cL 1 (cI .i64)) (Sl.of [(Sl.nil:Sl Int),(Sl.of [0]:Sl Int),(Sl.nil:Sl Int),(Sl.of [1]:Sl Int),(Sl.nil:Sl Int)]:Sl (Sl Int)))),(28,.p (vSl 18 B3 (Sl.of [(⟨[70],Pat.mk 0 (⟨0,0⟩:A2) false 0 0 (Sl.nil:Sl Pat).n (Sl.nil:Sl Pat).g,Pat.mk 6 (⟨0,0⟩:A2) false 0 0 (Sl.nil:Sl Pat).n (Sl.nil:Sl Pat).g,(Sl.of [(⟨4,0⟩:A2)]:Sl A2),(Sl.nil:Sl AF),1⟩:Law),(⟨[86],Pat.mk 1 (⟨4,0⟩:A2) false 0 0 (Sl.nil:Sl Pat).n (Sl.nil:Sl Pat).g,Pat.mk 1 (⟨4,0⟩:A2) false 0 0 (Sl.nil:Sl Pat).n (Sl.nil:Sl Pat).g,(Sl.of [(⟨2,0⟩:A2)]:Sl A2),(Sl.of [(⟨0,0,(⟨1,0⟩:A2),0,0⟩:AF)]:Sl AF),1⟩:Law)]:Sl Law))),(25,.p (vSl 2 O1 (Sl.of [(⟨-1,[114]⟩:T0),(⟨0,[120]⟩:T0),(⟨1,[97]⟩:T0),(⟨1,[98]⟩:T0),(⟨0,[99]⟩:T0)]:Sl T0))),(0,.reg 1000 0)],[(1000,.cells [.p J5,.p J5,.p J5])]⟩ (ids:=[(1000,1000)]) ?_;cases h;exact kR hS
def Ah (N:Nat)  : Option Bool:=
 (FC N ).bind fun y1=>
 (O0 N y1 0 1).bind fun y2=>
 (Ag N y1).bind fun y3=>
 (Ev N y1 10).bind fun y4=>
 (Cp N y1).bind fun y5=>
 (Be N ).bind fun y6=>
 (Ex N y6).bind fun y7=>
 (Be N ).bind fun y8=>
 (Dq N y8 (Sl.of [(Sl.of [(⟨2,5⟩:A2),(⟨5,2⟩:A2)]:Sl A2),(Sl.of [(⟨5,2⟩:A2),(⟨2,5⟩:A2),(⟨5,2⟩:A2)]:Sl A2)]:Sl (Sl A2))).bind fun y9=>
 lt (fun (z1:Bool)=>
  some z1
  ) fun k1=>
  if (y2.1==2) then
   if (y2.2==0) then
    (J4 N y3.1 (Sl.of [(⟨0,1⟩:I6)]:Sl I6)).bind fun y15=>
    if y15 then
     if (y3.2==0) then
      if (y4.1.Langs==2) then
       (D0 N y4.1.Has (Sl.of [1,1,3,2]:Sl Int)).bind fun y16=>
       if y16 then
        if (y4.2==0) then
         (N9 N y5.1 (Sl.of [0,1]:Sl Int)).bind fun y17=>
         if y17 then
          if (y5.2==0) then
           if (y7.1.Langs==3) then
            (D0 N y7.1.Has (Sl.of [3,2]:Sl Int)).bind fun y18=>
            if y18 then
             if (y7.2==0) then
              (D0 N y9.1.Has (Sl.of [3,4,3,4]:Sl Int)).bind fun y19=>
              if y19 then
               k1 (y9.2==0)
              else
               k1 false
             else
              k1 false
            else
             k1 false
           else
            k1 false
          else
           k1 false
         else
          k1 false
        else
         k1 false
       else
        k1 false
      else
       k1 false
     else
      k1 false
    else
     k1 false
   else
    k1 false
  else
   k1 false
theorem JL {N:Nat}    {y:Bool}(h:Ah N  = some y) :FunO S IZ [] [] (pB y) ([]) []:=by
 unfold Ah at h;refine A4 hS Pr ?_;refine kC hS h (PS hS hL) (fun y1 h=>?_);refine J6 hS trivial 18 2000 [pI .i64 y1.Langs,vSl 1 (cI .u64) y1.Has] ?_;obtain⟨y2,e2,h⟩:=B5 h;refine B6 hS [] (by decide:(2:Nat)<=2) (Fg hS hL e2) ?_;obtain⟨y3,e3,h⟩:=B5 h;refine B6 hS [] (by decide:(2:Nat)<=2) (Hd hS hL e3) ?_;obtain⟨y4,e4,h⟩:=B5 h;refine B6 hS [] (by decide:(2:Nat)<=2) (OB hS hL e4) ?_;refine J6 hS trivial 7 7000 [pI .i64 y4.1.Langs,vSl 1 (cI .u64) y4.1.Has] ?_;obtain⟨y5,e5,h⟩:=B5 h;refine B6 hS [] (by decide:(2:Nat)<=2) (KH hS hL e5) ?_;refine kC hS h (GD hS hL) (fun y6 h=>?_);refine kC hS h (OC hS hL) (fun y7 h=>?_);refine J6 hS trivial 11 11000 [pI .i64 y7.1.Langs,vSl 1 (cI .u64) y7.1.Has] ?_;refine US hS trivial 13000 [pI .u32 2,pI .u32 5] ?_;refine US hS trivial 14000 [pI .u32 5,pI .u32 2] ?_;refine N0 hS trivial [0,1,2,4,5,6,9] ?_;obtain⟨y8,e8,h⟩:=B5 h;refine At trivial (GD hS hL e8) ?_;refine CS (And.intro (by decide:(2:Nat)<=2) (by decide:(2:Nat)<=2)) (x:=.sl true 2 2 (E9 [pI .u32 0,pI .u32 0] [(0,A0 (⟨2,5⟩:A2)),(1,A0 (⟨5,2⟩:A2))])) ?_;refine CS (And.intro (And.intro (by decide:(2:Nat)<=2) (by decide:(2:Nat)<=2)) (by decide:(2:Nat)<=2)) (x:=.sl true 2 3 (E9 [pI .u32 0,pI .u32 0] [(0,A0 (⟨5,2⟩:A2)),(1,A0 (⟨2,5⟩:A2)),(2,A0 (⟨5,2⟩:A2))])) ?_;refine CS trivial (x:=.sl true 1 2 (E9 [J5] [(0,[.sl true 2 2 (E9 [pI .u32 0,pI .u32 0] [(0,A0 (⟨2,5⟩:A2)),(1,A0 (⟨5,2⟩:A2))])]),(1,[.sl true 2 3 (E9 [pI .u32 0,pI .u32 0] [(0,A0 (⟨5,2⟩:A2)),(1,A0 (⟨2,5⟩:A2)),(2,A0 (⟨5,2⟩:A2))])])])) ?_;obtain⟨y9,e9,h⟩:=B5 h;refine At trivial (FunO.le hS (args:=[(.p (.agg (D1 y8))),.p (.sl true 1 2 (E9 [J5] [(0,[.sl true 2 2 (E9 [pI .u32 0,pI .u32 0] [(0,A0 (⟨2,5⟩:A2)),(1,A0 (⟨5,2⟩:A2))])]),(1,[.sl true 2 3 (E9 [pI .u32 0,pI .u32 0] [(0,A0 (⟨5,2⟩:A2)),(1,A0 (⟨2,5⟩:A2)),(2,A0 (⟨5,2⟩:A2))])])]))]) (by exact⟨.inl rfl,⟨Xu rfl (fun i hi=>match i,hi with|0,_=>leC1 rfl (fun i hi=>match i,hi with|0,_=>rfl|1,_=>rfl|_+2,hi=>absurd hi (by omega))|1,_=>leC1 rfl (fun i hi=>match i,hi with|0,_=>rfl|1,_=>rfl|2,_=>rfl|_+3,hi=>absurd hi (by omega))|_+2,hi=>absurd hi (by omega)),trivial⟩⟩) (MN hS hL e9)) ?_;refine P3 trivial ?_;refine J6 hS trivial 57 15000 [pI .i64 y9.1.Langs,vSl 1 (cI .u64) y9.1.Has] ?_;refine JT hS trivial (A7 hS) h 0 (fun z1=>⟨[(0,pB z1)],[]⟩) (fun M1 k1 hb1 h=>?_) (fun z1 h=>?_)
 ·refine kG hS h (fun h=>?_) (fun h=>?_)
  ·refine kG hS h (fun h=>?_) (fun h=>?_)
   ·refine BK hS (rfl:true=true) ⟨[(66,.vec 67000),(64,.p (vSl 2 N3 y3.1)),(63,.p (.v (.bool true))),(15,pN y9.2),(14,.p (.ptr [pI .i64 y9.1.Langs,vSl 1 (cI .u64) y9.1.Has])),(11,pN y7.2),(10,.p (.ptr [pI .i64 y7.1.Langs,vSl 1 (cI .u64) y7.1.Has])),(9,pN y5.2),(8,.p (vSl 1 (cI .i64) y5.1)),(7,pN y4.2),(6,.p (.ptr [pI .i64 y4.1.Langs,vSl 1 (cI .u64) y4.1.Has])),(5,pN y3.2)],[(67000,.vec Mz 2 (Sl.of [(⟨0,1⟩:I6)]:Sl I6).n (fun i=>N3 ((Sl.of [(⟨0,1⟩:I6)]:Sl I6).g i)) false)]⟩ (ids:=[(67000,67000)]) ?_ (hle:=klR [(11,.fn 1 (Sl.of [(⟨0,1⟩:I6)]:Sl I6).n (E9 [pI .i64 0,pI .i64 0] [(0,N3 (⟨0,1⟩:I6))]) (fun i=>N3 ((Sl.of [(⟨0,1⟩:I6)]:Sl I6).g i)))] (al1 ⟨rfl,(fun i hi=>match i,hi with|0,_=>rfl|_+1,hi=>absurd hi (by omega))⟩ al0));refine kC hS h (AQ hS hL) (fun y15 h=>?_);refine kG hS h (fun h=>?_) (fun h=>?_)
    ·refine kG hS h (fun h=>?_) (fun h=>?_)
     ·refine kG hS h (fun h=>?_) (fun h=>?_)
      ·refine BK hS (rfl:true=true) ⟨[(81,.vec 82000),(80,.p (vSl 1 (cI .u64) y4.1.Has)),(78,.p (.v (.bool true))),(15,pN y9.2),(14,.p (.ptr [pI .i64 y9.1.Langs,vSl 1 (cI .u64) y9.1.Has])),(11,pN y7.2),(10,.p (.ptr [pI .i64 y7.1.Langs,vSl 1 (cI .u64) y7.1.Has])),(9,pN y5.2),(8,.p (vSl 1 (cI .i64) y5.1)),(7,pN y4.2)],[(82000,.vec P4 1 (Sl.of [1,1,3,2]:Sl Int).n (fun i=>cI .u64 ((Sl.of [1,1,3,2]:Sl Int).g i)) false)]⟩ (ids:=[(82000,82000)]) ?_ (hle:=klR [(9,.fn 4 (Sl.of [1,1,3,2]:Sl Int).n (E9 [pI .u64 0] [(0,cI .u64 1),(1,cI .u64 1),(2,cI .u64 3),(3,cI .u64 2)]) (fun i=>cI .u64 ((Sl.of [1,1,3,2]:Sl Int).g i)))] (al1 ⟨rfl,(fun i hi=>match i,hi with|0,_=>rfl|1,_=>rfl|2,_=>rfl|3,_=>rfl|_+4,hi=>absurd hi (by omega))⟩ al0));refine kC hS h (H5 hS hL) (fun y16 h=>?_);refine kG hS h (fun h=>?_) (fun h=>?_)
       ·refine kG hS h (fun h=>?_) (fun h=>?_)
        ·refine BK hS (rfl:true=true) ⟨[(90,.vec 91000),(89,.p (vSl 1 (cI .i64) y5.1)),(88,.p (.v (.bool true))),(15,pN y9.2),(14,.p (.ptr [pI .i64 y9.1.Langs,vSl 1 (cI .u64) y9.1.Has])),(11,pN y7.2),(10,.p (.ptr [pI .i64 y7.1.Langs,vSl 1 (cI .u64) y7.1.Has])),(9,pN y5.2)],[(91000,.vec E3 1 (Sl.of [0,1]:Sl Int).n (fun i=>cI .i64 ((Sl.of [0,1]:Sl Int).g i)) false)]⟩ (ids:=[(91000,91000)]) ?_ (hle:=klR [(7,.fn 2 (Sl.of [0,1]:Sl Int).n (E9 [pI .i64 0] [(0,cI .i64 0),(1,cI .i64 1)]) (fun i=>cI .i64 ((Sl.of [0,1]:Sl Int).g i)))] (al1 ⟨rfl,(fun i hi=>match i,hi with|0,_=>rfl|1,_=>rfl|_+2,hi=>absurd hi (by omega))⟩ al0));refine kC hS h (Co hS hL) (fun y17 h=>?_);refine kG hS h (fun h=>?_) (fun h=>?_)
         ·refine kG hS h (fun h=>?_) (fun h=>?_)
          ·refine kG hS h (fun h=>?_) (fun h=>?_)
           ·refine BK hS (rfl:true=true) ⟨[(105,.vec 106000),(104,.p (vSl 1 (cI .u64) y7.1.Has)),(102,.p (.v (.bool true))),(15,pN y9.2),(14,.p (.ptr [pI .i64 y9.1.Langs,vSl 1 (cI .u64) y9.1.Has])),(11,pN y7.2)],[(106000,.vec P4 1 (Sl.of [3,2]:Sl Int).n (fun i=>cI .u64 ((Sl.of [3,2]:Sl Int).g i)) false)]⟩ (ids:=[(106000,106000)]) ?_ (hle:=klR [(5,.fn 2 (Sl.of [3,2]:Sl Int).n (E9 [pI .u64 0] [(0,cI .u64 3),(1,cI .u64 2)]) (fun i=>cI .u64 ((Sl.of [3,2]:Sl Int).g i)))] (al1 ⟨rfl,(fun i hi=>match i,hi with|0,_=>rfl|1,_=>rfl|_+2,hi=>absurd hi (by omega))⟩ al0));refine kC hS h (H5 hS hL) (fun y18 h=>?_);refine kG hS h (fun h=>?_) (fun h=>?_)
            ·refine kG hS h (fun h=>?_) (fun h=>?_)
             ·refine BK hS (rfl:true=true) ⟨[(115,.vec 116000),(114,.p (vSl 1 (cI .u64) y9.1.Has)),(112,.p (.v (.bool true))),(15,pN y9.2)],[(116000,.vec P4 1 (Sl.of [3,4,3,4]:Sl Int).n (fun i=>cI .u64 ((Sl.of [3,4,3,4]:Sl Int).g i)) false)]⟩ (ids:=[(116000,116000)]) ?_ (hle:=klR [(3,.fn 4 (Sl.of [3,4,3,4]:Sl Int).n (E9 [pI .u64 0] [(0,cI .u64 3),(1,cI .u64 4),(2,cI .u64 3),(3,cI .u64 4)]) (fun i=>cI .u64 ((Sl.of [3,4,3,4]:Sl Int).g i)))] (al1 ⟨rfl,(fun i hi=>match i,hi with|0,_=>rfl|1,_=>rfl|2,_=>rfl|3,_=>rfl|_+4,hi=>absurd hi (by omega))⟩ al0));refine kC hS h (H5 hS hL) (fun y19 h=>?_);refine kG hS h (fun h=>?_) (fun h=>?_)
              ·exact hb1 _ [] _ (y9.2==0) trivial h
              ·exact hb1 _ [] _ false trivial h
             ·exact hb1 _ [] _ false trivial h
            ·exact hb1 _ [] _ false trivial h
           ·exact hb1 _ [] _ false trivial h
          ·exact hb1 _ [] _ false trivial h
         ·exact hb1 _ [] _ false trivial h
        ·exact hb1 _ [] _ false trivial h
       ·exact hb1 _ [] _ false trivial h
      ·exact hb1 _ [] _ false trivial h
     ·exact hb1 _ [] _ false trivial h
    ·exact hb1 _ [] _ false trivial h
   ·exact hb1 _ [] _ false trivial h
  ·exact hb1 _ [] _ false trivial h
 ·cases h;exact kR hS
end Go.AM
namespace Go.AM
open IntKind (wrap)
open Go.Proofs
set_option maxRecDepth 10000
set_option maxHeartbeats 2000000
variable {S:X8}(hS:F6 S Tryz.prog) (hL:Oq S)
include hS hL
def Ey (N:Nat)(p_t:A1):Option Bool:=
 some (decide ((p_t.Has.n:Int)<=100))
theorem TA {N:Nat}{p_t:A1}{y:Bool}(h:Ey N p_t=some y) :FunO S NU [.p (.agg (A9 p_t))] [] (pB y) ([]) []:=by unfold Ey at h;refine A4 hS Tp ?_;cases h;exact kR hS
def BF (N:Nat)(p_t:A1):Option E8:=
 (E5 N p_t.Has).bind fun y1=>
 some (⟨p_t.Langs,y1⟩:E8)
theorem PT {N:Nat}{p_t:A1}{y:E8}(h:BF N p_t=some y) :FunO S Ja [.p (.agg (A9 p_t))] [] (.p (.agg (R7 y))) ([]) []:=by unfold BF at h;refine A4 hS Ps ?_;refine J6 hS trivial 2 2000 [pI .i64 p_t.Langs,vSl 1 (cI .u64) p_t.Has] ?_;refine N0 hS trivial [1,3] ?_;obtain⟨y1,e1,h⟩:=B5 h;refine Ti [] trivial (Ab hS hL e1) ?_;refine P3 trivial ?_;obtain rfl:=B4 h;exact A6 hS trivial ⟨[(2,.reg 3000 0)],[(3000,.cells [pN p_t.Langs,.p (vSl 1 (cI .u64) y1)])]⟩ [] (ids:=[(3000,3000)]) ⟨rfl,rfl,rfl⟩
def G8 (N:Nat)(p_set:Int)(p_k:Int):Option Bool:=
 if (0:Int)<=p_k then
  some ((G0 .and .u64 (shI .shr .u64 p_set p_k) 1)==1)
 else none
theorem Z3 {N:Nat}{p_set:Int}{p_k:Int}{y:Bool}(h:G8 N p_set p_k=some y) :FunO S QI [.p (pI .u64 p_set),pN p_k] [] (pB y) ([]) []:=by unfold G8 at h;refine A4 hS Vd ?_;obtain⟨c1,h⟩:=G5 h;obtain rfl:=B4 h;exact RA hS c1 [] ⟨rfl,rfl,rfl⟩
def P6 (N:Nat)(p_t:E8):Option Int:=
 if ((decide (p_t.Langs<0))||(decide (32<p_t.Langs))) then
  some 3
 else
  if (decide (64<(p_t.Has.n:Int))) then
   some 12
  else
   CA N (fun self3 (x2:Int)=>
    if (decide (x2<(p_t.Has.n:Int))) then
     CA N (fun self4 (x4:Int)=>
      if (decide (x4<64)) then
       if ((0:Int)<=x2/\x2<(p_t.Has.n:Int))then
        (G8 N (p_t.Has.g x2.toNat) x4).bind fun y9=>
        if y9 then
         some 2
        else
         self4 (wrap .i64 (x4+1))
       else none
      else
       self3 (wrap .i64 (x2+1))
      ) p_t.Langs
    else
     some 0
    ) 0
theorem FD {N:Nat}{p_t:E8}{y:Int}(h:P6 N p_t=some y) :FunO S Jb [.p (.agg (R7 p_t))] [] (pN y) ([]) []:=by
 unfold P6 at h;refine A4 hS Pt ?_;refine kB hS (A7 hS) trivial trivial 4 (.o (.a (decide (p_t.Langs<0))) (.a (decide (32<p_t.Langs)))) ?_;refine kI hS h (fun h=>?_) (fun h=>?_)
 ·cases h;exact kR hS
 ·refine kI hS h (fun h=>?_) (fun h=>?_)
  ·cases h;exact kR hS
  ·refine Z6 hS trivial h (fun x2=>⟨[(3,pN x2),(1,.reg 2000 0)],[(2000,.cells [pN p_t.Langs,.p (vSl 1 (cI .u64) p_t.Has)])]⟩) (ids:=[(2000,2000)]) (fun _ _ _ _ _ self3 x2 hb3 h=>?_);refine kI hS h (fun h=>?_) (fun h=>?_)
   ·refine Z6 hS trivial h (fun x4=>⟨[(4,pN x4),(3,pN x2),(1,.reg 2000 0)],[(2000,.cells [pN p_t.Langs,.p (vSl 1 (cI .u64) p_t.Has)])]⟩) (ids:=[(2000,2000)]) (fun _ _ _ _ _ self4 x4 hb4 h=>?_);refine kI hS h (fun h=>?_) (fun h=>?_)
    ·obtain⟨c31,h⟩:=G5 h;obtain⟨y9,e9,h⟩:=B5 h;refine B6 hS [] c31 (Z3 hS hL e9) ?_;refine kI hS h (fun h=>?_) (fun h=>?_)
     ·cases h;exact kR hS
     ·exact hb4 _ [(2000,2000)] _ (wrap .i64 (x4+1)) trivial h
    ·exact hb3 _ [(2000,2000)] _ (wrap .i64 (x2+1)) trivial h
   ·cases h;exact kR hS
def Ai (N:Nat)(p_t:E8)(p_a:Int):Option Bool:=
 some ((decide (0<=p_a))&&(decide (p_a<p_t.Langs)))
theorem He {N:Nat}{p_t:E8}{p_a:Int}{y:Bool}(h:Ai N p_t p_a=some y) :FunO S Ln [.p (.agg (R7 p_t)),pN p_a] [] (pB y) ([]) []:=by unfold Ai at h;refine A4 hS RH ?_;refine kB hS (A7 hS) trivial trivial 5 (.n (.a (decide (0<=p_a))) (.a (decide (p_a<p_t.Langs)))) ?_;cases h;exact kR hS
def CH (N:Nat)(p_t:E8)(p_set:Int):Option Int:=
 Dv N (fun self1 (x1:Int) (x2:Int)=>
  if (decide (x2<p_t.Langs)) then
   (G8 N p_set x2).bind fun y3=>
   if y3 then
    self1 (wrap .i64 (x1+1)) (wrap .i64 (x2+1))
   else
    self1 x1 (wrap .i64 (x2+1))
  else
   some x1
  ) 0 0
theorem RR {N:Nat}{p_t:E8}{p_set:Int}{y:Int}(h:CH N p_t p_set=some y) :FunO S Lm [.p (.agg (R7 p_t)),.p (pI .u64 p_set)] [] (pN y) ([]) []:=by
 unfold CH at h;refine A4 hS RG ?_;refine N1 hS trivial h (fun x1 x2=>⟨[(6,pN x2),(5,pN x1),(2,.reg 3000 0),(1,.p (pI .u64 p_set))],[(3000,.cells [pN p_t.Langs,.p (vSl 1 (cI .u64) p_t.Has)])]⟩) (ids:=[(3000,3000)]) (fun _ _ _ _ _ self1 x1 x2 hb1 h=>?_);refine kI hS h (fun h=>?_) (fun h=>?_)
 ·refine kC hS h (Z3 hS hL) (fun y3 h=>?_);refine kI hS h (fun h=>?_) (fun h=>?_)
  ·exact hb1 _ [(3000,3000)] _ (wrap .i64 (x1+1)) (wrap .i64 (x2+1)) trivial h
  ·exact hb1 _ [(3000,3000)] _ x1 (wrap .i64 (x2+1)) trivial h
 ·cases h;exact kR hS
def Y2 (N:Nat)(p_t:E8)(p_a:Int)(p_b:Int):Option (Int×Int):=
 (P6 N p_t).bind fun y1=>
 if (y1 != 0) then
  some (0,y1)
 else
  (Ai N p_t p_a).bind fun y2=>
  lt (fun (z1:Bool)=>
   if z1 then
    some (0,3)
   else
    Dv N (fun self1 (x3:Int) (x4:Int)=>
     if (decide (x4<(p_t.Has.n:Int))) then
      if ((0:Int)<=x4/\x4<(p_t.Has.n:Int))then
       (G8 N (p_t.Has.g x4.toNat) p_a).bind fun y11=>
       lt (fun (z4:Bool)=>
        if z4 then
         self1 (wrap .i64 (x3+1)) (wrap .i64 (x4+1))
        else
         self1 x3 (wrap .i64 (x4+1))
        ) fun k4=>
        if y11 then
         if ((0:Int)<=x4/\x4<(p_t.Has.n:Int))then
          (G8 N (p_t.Has.g x4.toNat) p_b).bind fun y13=>
          k4 y13
         else none
        else
         k4 false
      else none
     else
      some (x3,0)
     ) 0 0
   ) fun k1=>
   if (!y2) then
    k1 true
   else
    (Ai N p_t p_b).bind fun y4=>
    k1 (!y4)
theorem OD {N:Nat}{p_t:E8}{p_a:Int}{p_b:Int}{y:Int×Int}(h:Y2 N p_t p_a p_b=some y) :FunO S HA [.p (.agg (R7 p_t)),pN p_a,pN p_b] [] (.tup [pN y.1,pN y.2]) ([]) []:=by
 unfold Y2 at h;refine A4 hS NX ?_;refine kC hS h (FD hS hL) (fun y1 h=>?_);refine kI hS h (fun h=>?_) (fun h=>?_)
 ·cases h;exact kR hS
 ·refine kC hS h (He hS hL) (fun y2 h=>?_);refine JT hS trivial (A7 hS) h 0 (fun z1=>⟨[(25,pB z1),(3,.reg 4000 0),(2,pN p_b),(1,pN p_a)],[(4000,.cells [pN p_t.Langs,.p (vSl 1 (cI .u64) p_t.Has)])]⟩) (fun M1 k1 hb1 h=>?_) (fun z1 h=>?_)
  ·refine kG hS h (fun h=>?_) (fun h=>?_)
   ·exact hb1 _ [(4000,4000)] _ true trivial h
   ·refine kC hS h (He hS hL) (fun y4 h=>?_);exact hb1 _ [(4000,4000)] _ (!y4) trivial h
  ·refine kI hS h (fun h=>?_) (fun h=>?_)
   ·cases h;exact kR hS
   ·refine N1 hS trivial h (fun x3 x4=>⟨[(10,pN x4),(9,pN x3),(3,.reg 4000 0),(2,pN p_b),(1,pN p_a)],[(4000,.cells [pN p_t.Langs,.p (vSl 1 (cI .u64) p_t.Has)])]⟩) (ids:=[(4000,4000)]) (fun _ _ _ _ _ self1 x3 x4 hb4 h=>?_);refine kI hS h (fun h=>?_) (fun h=>?_)
    ·obtain⟨c23,h⟩:=G5 h;obtain⟨y11,e11,h⟩:=B5 h;refine B6 hS [] c23 (Z3 hS hL e11) ?_;refine JT hS trivial (A7 hS) h 0 (fun z4=>⟨[(48,pB z4),(10,pN x4),(9,pN x3),(3,.reg 4000 0),(2,pN p_b),(1,pN p_a)],[(4000,.cells [pN p_t.Langs,.p (vSl 1 (cI .u64) p_t.Has)])]⟩) (fun M4 k4 hb5 h=>?_) (fun z4 h=>?_)
     ·refine kG hS h (fun h=>?_) (fun h=>?_)
      ·obtain⟨c28,h⟩:=G5 h;obtain⟨y13,e13,h⟩:=B5 h;refine B6 hS [] c28 (Z3 hS hL e13) ?_;exact hb5 _ [(4000,4000)] _ y13 trivial h
      ·exact hb5 _ [(4000,4000)] _ false trivial h
     ·refine kI hS h (fun h=>?_) (fun h=>?_)
      ·exact hb4 _ [(4000,4000)] _ (wrap .i64 (x3+1)) (wrap .i64 (x4+1)) trivial h
      ·exact hb4 _ [(4000,4000)] _ x3 (wrap .i64 (x4+1)) trivial h
    ·cases h;exact kR hS
def CJ (N:Nat)(p_t:E8)(p_a:Int):Option (Int×Int):=
 (P6 N p_t).bind fun y1=>
 if (y1 != 0) then
  some (0,y1)
 else
  (Ai N p_t p_a).bind fun y2=>
  if (!y2) then
   some (0,3)
  else
   Dv N (fun self1 (x1:Int) (x2:Int)=>
    if (decide (x2<(p_t.Has.n:Int))) then
     if ((0:Int)<=x2/\x2<(p_t.Has.n:Int))then
      (G8 N (p_t.Has.g x2.toNat) p_a).bind fun y7=>
      if y7 then
       if ((0:Int)<=x2/\x2<(p_t.Has.n:Int))then
        (CH N p_t (p_t.Has.g x2.toNat)).bind fun y8=>
        if (y8==1) then
         self1 (wrap .i64 (x1+1)) (wrap .i64 (x2+1))
        else
         self1 x1 (wrap .i64 (x2+1))
       else none
      else
       self1 x1 (wrap .i64 (x2+1))
     else none
    else
     some (x1,0)
    ) 0 0
theorem TB {N:Nat}{p_t:E8}{p_a:Int}{y:Int×Int}(h:CJ N p_t p_a=some y) :FunO S NY [.p (.agg (R7 p_t)),pN p_a] [] (.tup [pN y.1,pN y.2]) ([]) []:=by
 unfold CJ at h;refine A4 hS Tq ?_;refine J6 hS trivial 4 3000 [pI .i64 p_t.Langs,vSl 1 (cI .u64) p_t.Has] ?_;obtain⟨y1,e1,h⟩:=B5 h;refine B6 hS [] (by decide:(2:Nat)<=2) (FD hS hL e1) ?_;refine kI hS h (fun h=>?_) (fun h=>?_)
 ·cases h;exact kR hS
 ·obtain⟨y2,e2,h⟩:=B5 h;refine B6 hS [] (by decide:(2:Nat)<=2) (He hS hL e2) ?_;refine kI hS h (fun h=>?_) (fun h=>?_)
  ·cases h;exact kR hS
  ·refine N1 hS trivial h (fun x1 x2=>⟨[(8,pN x2),(7,pN x1),(2,.p (.ptr [pI .i64 p_t.Langs,vSl 1 (cI .u64) p_t.Has])),(1,pN p_a)],[]⟩) (ids:=[]) (fun _ _ _ _ _ self1 x1 x2 hb1 h=>?_);refine kI hS h (fun h=>?_) (fun h=>?_)
   ·refine N0 hS trivial [1,3,4,6,8,10,12,13,14] ?_;obtain⟨c14,h⟩:=G5 h;obtain⟨y7,e7,h⟩:=B5 h;refine At c14 (Z3 hS hL e7) ?_;refine WK trivial (b:=y7) (fun c15=>?_) (fun c15=>?_)
    ·replace h:=itT c15 h;obtain⟨c16,h⟩:=G5 h;obtain⟨y8,e8,h⟩:=B5 h;refine At (And.intro (by decide:(2:Nat)<=2) c16) (RR hS hL e8) ?_;refine P3 trivial ?_;refine kI hS h (fun h=>?_) (fun h=>?_)
     ·exact hb1 _ [] _ (wrap .i64 (x1+1)) (wrap .i64 (x2+1)) trivial h
     ·exact hb1 _ [] _ x1 (wrap .i64 (x2+1)) trivial h
    ·replace h:=itF c15 h;refine P3 trivial ?_;exact hb1 _ [] _ x1 (wrap .i64 (x2+1)) trivial h
   ·cases h;exact kR hS
def Ez (N:Nat)(p_t:E8)(p_x:Int)(p_y:Int):Option Bool:=
 fix4 N (fun self1 (x4:Bool) (x5:Bool) (x6:Bool) (x7:Int)=>
  if (decide (x7<p_t.Langs)) then
   lt (fun (z7:Bool)=>
    lt (fun (z8:Bool)=>
     lt (fun (z9:Bool)=>
      self1 z7 z8 z9 (wrap .i64 (x7+1))
      ) fun k9=>
      if x6 then
       k9 true
      else
       (G8 N p_x x7).bind fun y32=>
       if (!y32) then
        (G8 N p_y x7).bind fun y33=>
        k9 y33
       else
        k9 false
     ) fun k8=>
     if x5 then
      k8 true
     else
      (G8 N p_x x7).bind fun y28=>
      if y28 then
       (G8 N p_y x7).bind fun y29=>
       k8 (!y29)
      else
       k8 false
    ) fun k7=>
    if x4 then
     k7 true
    else
     (G8 N p_x x7).bind fun y24=>
     if y24 then
      (G8 N p_y x7).bind fun y25=>
      k7 y25
     else
      k7 false
  else
   some (((!x4)||(!x5))||(!x6))
  ) false false false 0
theorem TC {N:Nat}{p_t:E8}{p_x:Int}{p_y:Int}{y:Bool}(h:Ez N p_t p_x p_y=some y) :FunO S NZ [.p (.agg (R7 p_t)),.p (pI .u64 p_x),.p (pI .u64 p_y)] [] (pB y) ([]) []:=by
 unfold Ez at h;refine A4 hS Tr ?_;refine Yi hS trivial h (fun x4 x5 x6 x7=>⟨[(10,pN x7),(9,pB x6),(8,pB x5),(7,pB x4),(3,.reg 4000 0),(2,.p (pI .u64 p_y)),(1,.p (pI .u64 p_x))],[(4000,.cells [pN p_t.Langs,.p (vSl 1 (cI .u64) p_t.Has)])]⟩) (ids:=[(4000,4000)]) (fun _ _ _ _ _ self1 x4 x5 x6 x7 hb7 h=>?_);refine kI hS h (fun h=>?_) (fun h=>?_)
 ·refine JT hS trivial (A7 hS) h 0 (fun z7=>⟨[(10,pN x7),(9,pB x6),(8,pB x5),(7,pB z7),(3,.reg 4000 0),(2,.p (pI .u64 p_y)),(1,.p (pI .u64 p_x))],[(4000,.cells [pN p_t.Langs,.p (vSl 1 (cI .u64) p_t.Has)])]⟩) (fun M7 k7 hb8 h=>?_) (fun z7 h=>?_)
  ·refine kG hS h (fun h=>?_) (fun h=>?_)
   ·exact hb8 _ [(4000,4000)] _ true trivial h
   ·refine kC hS h (Z3 hS hL) (fun y24 h=>?_);refine kG hS h (fun h=>?_) (fun h=>?_)
    ·refine kC hS h (Z3 hS hL) (fun y25 h=>?_);exact hb8 _ [(4000,4000)] _ y25 trivial h
    ·exact hb8 _ [(4000,4000)] _ false trivial h
  ·refine JT hS trivial (A7 hS) h 0 (fun z8=>⟨[(10,pN x7),(9,pB x6),(8,pB z8),(7,pB z7),(3,.reg 4000 0),(2,.p (pI .u64 p_y)),(1,.p (pI .u64 p_x))],[(4000,.cells [pN p_t.Langs,.p (vSl 1 (cI .u64) p_t.Has)])]⟩) (fun M8 k8 hb9 h=>?_) (fun z8 h=>?_)
   ·refine kG hS h (fun h=>?_) (fun h=>?_)
    ·exact hb9 _ [(4000,4000)] _ true trivial h
    ·refine kC hS h (Z3 hS hL) (fun y28 h=>?_);refine kG hS h (fun h=>?_) (fun h=>?_)
     ·refine kC hS h (Z3 hS hL) (fun y29 h=>?_);exact hb9 _ [(4000,4000)] _ (!y29) trivial h
     ·exact hb9 _ [(4000,4000)] _ false trivial h
   ·refine JT hS trivial (A7 hS) h 0 (fun z9=>⟨[(10,pN x7),(9,pB z9),(8,pB z8),(7,pB z7),(3,.reg 4000 0),(2,.p (pI .u64 p_y)),(1,.p (pI .u64 p_x))],[(4000,.cells [pN p_t.Langs,.p (vSl 1 (cI .u64) p_t.Has)])]⟩) (fun M9 k9 hb10 h=>?_) (fun z9 h=>?_)
    ·refine kG hS h (fun h=>?_) (fun h=>?_)
     ·exact hb10 _ [(4000,4000)] _ true trivial h
     ·refine kC hS h (Z3 hS hL) (fun y32 h=>?_);refine kG hS h (fun h=>?_) (fun h=>?_)
      ·refine kC hS h (Z3 hS hL) (fun y33 h=>?_);exact hb10 _ [(4000,4000)] _ y33 trivial h
      ·exact hb10 _ [(4000,4000)] _ false trivial h
    ·exact hb7 _ [(4000,4000)] _ z7 z8 z9 (wrap .i64 (x7+1)) trivial h
 ·refine kB hS (A7 hS) trivial trivial 7 (.o (.o (.a (!x4)) (.a (!x5))) (.a (!x6))) ?_;cases h;exact kR hS
def Q2 (N:Nat)(p_t:E8)(p_i:Int)(p_j:Int):Option (Bool×Int):=
 (P6 N p_t).bind fun y1=>
 if (y1 != 0) then
  some (false,y1)
 else
  if ((((decide (p_i<0))||(decide ((p_t.Has.n:Int)<=p_i)))||(decide (p_j<0)))||(decide ((p_t.Has.n:Int)<=p_j))) then
   some (false,3)
  else
   if (((0:Int)<=p_i/\p_i<(p_t.Has.n:Int))/\((0:Int)<=p_j/\p_j<(p_t.Has.n:Int)))then
    (Ez N p_t (p_t.Has.g p_i.toNat) (p_t.Has.g p_j.toNat)).bind fun y2=>
    some (y2,0)
   else none
theorem Ie {N:Nat}{p_t:E8}{p_i:Int}{p_j:Int}{y:Bool×Int}(h:Q2 N p_t p_i p_j=some y) :FunO S Dw [.p (.agg (R7 p_t)),pN p_i,pN p_j] [] (.tup [pB y.1,pN y.2]) ([]) []:=by
 unfold Q2 at h;refine A4 hS HR ?_;refine J6 hS trivial 6 4000 [pI .i64 p_t.Langs,vSl 1 (cI .u64) p_t.Has] ?_;obtain⟨y1,e1,h⟩:=B5 h;refine B6 hS [] (by decide:(2:Nat)<=2) (FD hS hL e1) ?_;refine kI hS h (fun h=>?_) (fun h=>?_)
 ·cases h;exact kR hS
 ·refine kB hS (A7 hS) trivial trivial 17 (.o (.o (.o (.a (decide (p_i<0))) (.a (decide ((p_t.Has.n:Int)<=p_i)))) (.a (decide (p_j<0)))) (.a (decide ((p_t.Has.n:Int)<=p_j)))) ?_;refine kI hS h (fun h=>?_) (fun h=>?_)
  ·cases h;exact kR hS
  ·refine N0 hS trivial [0,2,4,5,7,9,10,11] ?_;obtain⟨c3,h⟩:=G5 h;obtain⟨y2,e2,h⟩:=B5 h;refine At (And.intro (And.intro (by decide:(2:Nat)<=2) c3.1) c3.2) (TC hS hL e2) ?_;refine P3 trivial ?_;cases h;exact kR hS
def W8 (N:Nat)(p_t:A1)(p_i:Int)(p_j:Int):Option Bool:=
 (Ey N p_t).bind fun y1=>
 if (!y1) then
  (Ah N ).bind fun y2=>
  some y2
 else
  (BF N p_t).bind fun y3=>
  (O0 N p_t p_i p_j).bind fun y4=>
  (Y2 N y3 p_i p_j).bind fun y5=>
  (Af N p_t p_i).bind fun y6=>
  (CJ N y3 p_i).bind fun y7=>
  (N7 N p_t p_i p_j).bind fun y8=>
  (Q2 N y3 p_i p_j).bind fun y9=>
  lt (fun (z1:Bool)=>
   some z1
   ) fun k1=>
   if (y4.1==y5.1) then
    if (y4.2==y5.2) then
     if (y6.1==y7.1) then
      if (y6.2==y7.2) then
       if ((y8.1==y9.1) != false) then
        if (y8.2==y9.2) then
         (Ah N ).bind fun y11=>
         k1 y11
        else
         k1 false
       else
        k1 false
      else
       k1 false
     else
      k1 false
    else
     k1 false
   else
    k1 false
theorem HN {N:Nat}{p_t:A1}{p_i:Int}{p_j:Int}{y:Bool}(h:W8 N p_t p_i p_j=some y) :FunO S AC [.p (.agg (A9 p_t)),pN p_i,pN p_j] [] (pB y) ([]) []:=by
 unfold W8 at h;refine A4 hS Dr ?_;refine kC hS h (TA hS hL) (fun y1 h=>?_);refine kI hS h (fun h=>?_) (fun h=>?_)
 ·refine kC hS h (JL hS hL) (fun y2 h=>?_);cases h;exact kR hS
 ·refine kC hS h (PT hS hL) (fun y3 h=>?_);refine kC hS h (Fg hS hL) (fun y4 h=>?_);refine kC hS h (OD hS hL) (fun y5 h=>?_);refine kC hS h (PR hS hL) (fun y6 h=>?_);refine kC hS h (TB hS hL) (fun y7 h=>?_);refine kC hS h (GC hS hL) (fun y8 h=>?_);refine kC hS h (Ie hS hL) (fun y9 h=>?_);refine JT hS trivial (A7 hS) h 0 (fun z1=>⟨[(6,pB z1)],[]⟩) (fun M1 k1 hb1 h=>?_) (fun z1 h=>?_)
  ·refine kG hS h (fun h=>?_) (fun h=>?_)
   ·refine kG hS h (fun h=>?_) (fun h=>?_)
    ·refine kG hS h (fun h=>?_) (fun h=>?_)
     ·refine kG hS h (fun h=>?_) (fun h=>?_)
      ·refine kG hS h (fun h=>?_) (fun h=>?_)
       ·refine kG hS h (fun h=>?_) (fun h=>?_)
        ·refine kC hS h (JL hS hL) (fun y11 h=>?_);exact hb1 _ [] _ y11 trivial h
        ·exact hb1 _ [] _ false trivial h
       ·exact hb1 _ [] _ false trivial h
      ·exact hb1 _ [] _ false trivial h
     ·exact hb1 _ [] _ false trivial h
    ·exact hb1 _ [] _ false trivial h
   ·exact hb1 _ [] _ false trivial h
  ·cases h;exact kR hS
end Go.AM
namespace Go.AM
set_option maxRecDepth 1000000
theorem QS:Ah 4194304=some true:=by decide +kernel
end Go.AM
namespace Go.AM
open IntKind (wrap)
open Go.Proofs
theorem Vh {A R:Type}{body:(A->Option R)->A->Option R}(I:Nat->A->Prop)(n:Nat)(J0:R->Prop)
 (hstep:∀self i a,i<=n->I i a->(i<n->∀a',I (i+1) a' -> ∃r,self a' = some r/\J0 r)->∃r,body self a=some r/\J0 r) :
 ∀(N i:Nat) (a:A),i<=n->I i a->n-i<N->∃r,CA N body a=some r/\J0 r
 |0,_,_,_,_,h=>by omega
 |N+1,i,a,hi,hI,h=>by rw[IQ];exact hstep _ i a hi hI fun hlt a' hI'=>Vh I n J0 hstep N (i+1) a' hlt hI' (by omega)
theorem Xb {A R:Type}{body:(A->Option R)->A->Option R}(I:Nat->A->Prop)(n:Nat)(J0:R->Prop){N:Nat}(hN:n<N){a:A}(h0:I 0 a)
 (hstep:∀self i a,i<=n->I i a->(i<n->∀a',I (i+1) a' -> ∃r,self a' = some r/\J0 r)->∃r,body self a=some r/\J0 r):∃r,CA N body a=some r/\J0 r:=
 Vh I n J0 hstep N 0 a (Ad5 _) h0 hN
theorem YA {A B R:Type}{body:(A->B->Option R)->A->B->Option R}(I:Nat->A->B->Prop)(n:Nat)(J0:R->Prop){N:Nat}(hN:n<N){a:A}{b:B}(h0:I 0 a b)
 (hstep:∀self i a b,i<=n->I i a b->(i<n->∀a' b',I (i+1) a' b' -> ∃r,self a' b' = some r/\J0 r)->∃r,body self a b=some r/\J0 r):∃r,Dv N body a b=some r/\J0 r:=
 Vh (fun i x=>I i x.1 x.2) n J0 (fun self i x hi hI h=>hstep (fun a b=>self (a,b)) i x.1 x.2 hi hI fun hl a' b' hI'=>h hl (a',b') hI') N 0 (a,b) (Ad5 _) h0 hN
theorem loop4 {A B C D R:Type}{body:(A->B->C->D->Option R)->A->B->C->D->Option R}(I:Nat->A->B->C->D->Prop)(n:Nat)(J0:R->Prop){N:Nat}(hN:n<N){a:A}{b:B}{c:C}{d:D}(h0:I 0 a b c d)
 (hstep:∀self i a b c d,i<=n->I i a b c d->(i<n->∀a' b' c' d',I (i+1) a' b' c' d' -> ∃r,self a' b' c' d' = some r/\J0 r)->∃r,body self a b c d=some r/\J0 r):∃r,fix4 N body a b c d=some r/\J0 r:=
 Vh (fun i x=>I i x.1 x.2.1 x.2.2.1 x.2.2.2) n J0 (fun self i x hi hI h=>hstep (fun a b c d=>self (a,b,c,d)) i x.1 x.2.1 x.2.2.1 x.2.2.2 hi hI fun hl a' b' c' d' hI'=>h hl (a',b',c',d') hI') N 0 (a,b,c,d) (Ad5 _) h0 hN
theorem Xc {X R:Type}{Q:R->Prop}{o:Option X}{f:X->Option R}{x:X}(h:o=some x)(h2:∃r,f x=some r/\Q r):∃r,o.bind f=some r/\Q r:=by subst h;exact h2
theorem ifT {R:Type}{Q:R->Prop}{p:Prop}[Decidable p]{a b:Option R}(h:p)(h2:∃r,a=some r/\Q r):∃r,(if p then a else b)=some r/\Q r:=by rw[if_pos h];exact h2
theorem ifF {R:Type}{Q:R->Prop}{p:Prop}[Decidable p]{a b:Option R}(h:¬p)(h2:∃r,b=some r/\Q r):∃r,(if p then a else b)=some r/\Q r:=by rw[if_neg h];exact h2
theorem TD {n:Int}(h : -9223372036854775808<=n)(h' : n<=9223372036854775807):IntKind.i64.wrap n=n:=by
 by_cases h0:0<=n
 ·have h1:n % (2 ^ 64:Int)=n:=Ad7 h0 (by omega);unfold wrap;simp only[IntKind.bits,IntKind.signed,h1];rw[if_neg];simp;omega
 ·have h1:n % (2 ^ 64:Int)=n+2 ^ 64:=by rw[<- Int.add_emod_right];exact Ad7 (by omega) (by omega)
  unfold wrap;simp only[IntKind.bits,IntKind.signed,h1];rw[if_pos]
  ·omega
  ·simp;omega
theorem Hf {i:Nat}(h:i<1000000000000000000):IntKind.i64.wrap ((i:Int)+1)=((i+1:Nat):Int):=by rw[TD (by omega) (by omega)];rfl
end Go.AM
namespace Go.AM
open IntKind (wrap)
open Go.Proofs
def okT (t:A1):Prop:=t.Has.n<=100/\∀i,i<t.Has.n->∃x:BitVec 64,t.Has.g i=U x
def bT (t:A1)(i:Nat):BitVec 64:=BitVec.ofNat 64 (t.Has.g i).toNat
theorem OE {t:A1}(h:okT t){i:Nat}(hi:i<t.Has.n):t.Has.g i=U (bT t i):=by obtain⟨x,e⟩:=h.2 i hi;rw[bT,e];show U x=U (BitVec.ofNat 64 (x.toNat:Int).toNat);rw[ZF];simp
def TP (L:Nat):BitVec 64:=BitVec.ofNat 64 (2 ^ L-1)
theorem QN {L k:Nat}(hk:k<64):(TP L).getLsbD k=decide (k<L):=by unfold TP;rw[BitVec.getLsbD_ofNat];simp[hk,Nat.testBit_two_pow_sub_one]
theorem Xd {N:Nat}{t:A1}{L:Nat}(hL:t.Langs=L)(h:L<=32):H6 N t=some (U (TP L)):=by
 unfold H6;rw[hL,if_pos (by omega),Yy L (by omega)];have h2:2 ^ L<=2 ^ 32:=Ag9 (by decide) h;have h3:0<2 ^ L:=Nat.pow_pos (by decide);have h1:(1#64 <<< L).toNat=2 ^ L:=by rw[Ag0,Nat.shiftLeft_eq];simp only[Ad2];omega
 have e:U (1#64 <<< L)-1=((2 ^ L-1:Nat):Int):=by show (((1#64 <<< L).toNat:Nat):Int)-1=_;rw[h1];omega
 rw[e,Gv (by omega)];show some ((2 ^ L-1:Nat):Int)=some (((BitVec.ofNat 64 (2 ^ L-1)).toNat:Nat):Int);rw[Ad2,Aa3 (by omega)]
theorem QO {N:Nat}{s:Sl Int}{f:Int->Option Bool}{p:Nat->Bool}(hn:s.n<N)(hb:s.n<1000000)(hf:∀i,i<s.n->f (s.g i)=some (p i)) :∃r,CA N (fun self1 (x1:Int)=>
  if (decide (x1<(s.n:Int))) then
   if ((0:Int)<=x1/\x1<(s.n:Int))then
    (f (s.g x1.toNat)).bind fun y3=>
    if y3 then some x1 else self1 (wrap .i64 (x1+1))
   else none
  else some (-1)) 0=some r/\(decide (0<=r)=(List.range s.n).any p):=by
 refine Xb (fun i x=>x=(i:Int)/\∀j,j<i->p j=false) s.n _ hn ⟨rfl,fun j hj=>absurd hj (by omega)⟩ ?_;rintro self i x hi ⟨rfl,hp⟩ hs;by_cases hlt:i<s.n
 ·refine ifT (by simp;omega) (ifT (by omega) ?_);rw[ZF];refine Xc (hf i hlt) ?_;by_cases hpi:p i=true
  ·refine ifT hpi ⟨_,rfl,?_⟩;rw[decide_eq_true (by omega),eq_comm,Ac7];exact⟨i,ZE.2 hlt,hpi⟩
  ·refine ifF hpi (hs hlt _ ⟨Hf (by omega),fun j hj=>?_⟩);by_cases e:j=i
   ·subst e;simpa using hpi
   ·exact hp j (by omega)
 ·refine ifF (by simp;omega) ⟨_,rfl,?_⟩;rw[decide_eq_false (by decide),eq_comm,Ad8];intro j hj;rw[ZE]at hj;simp[hp j (by omega)]
theorem KI {N:Nat}{s:Sl Int}{f:Int->Option Bool}{p:Nat->Bool}(hn:s.n<N)(hb:s.n<1000000)(hf:∀i,i<s.n->f (s.g i)=some (p i)) :B0 N s f=some ((List.range s.n).any p):=by obtain⟨r,h1,h2⟩:=QO hn hb hf;unfold B0 D3;rw[h1];show some (decide (0<=r))=_;rw[h2]
theorem GE {N:Nat}{s:Sl Int}{f:Int->Option Bool}{p:Nat->Bool}(hn:s.n<N)(hb:s.n<1000000)(hf:∀i,i<s.n->f (s.g i)=some (p i)) :B8 N s f=some ((List.range s.n).any p):=by obtain⟨r,h1,h2⟩:=QO hn hb hf;unfold B8 F8;rw[h1];show some (decide (0<=r))=_;rw[h2]
def FL (p:Nat->Bool)(n:Nat):List Int:=((List.range n).filter p).map fun (i:Nat)=>(i:Int)
theorem TE (p:Nat->Bool)(n:Nat):FL p (n+1)=FL p n++if p n then [(n:Int)]else []:=by
 unfold FL;rw[Aa9,List.filter_append,List.map_append];congr 1;by_cases h:p n=true
 ·simp[h]
 ·simp[h]
theorem QP (p:Nat->Bool):∀n,(FL p n).length<=n
 |0=>by simp[FL]
 |n+1=>by rw[TE,Zq];have:=QP p n;split<;>simp<;>omega
theorem Ls {t:A1}{q:Int->Option Bool}{p:Nat->Bool}(hb:t.Has.n<1000000)(hf:∀i,i<t.Has.n->q (t.Has.g i)=some (p i)) :∀(k i:Nat),i+k=t.Has.n->∀N,k<N->CA N (fun self1 (x1:Int)=>
  if (decide (x1<(t.Has.n:Int))) then
   if ((0:Int)<=x1/\x1<(t.Has.n:Int))then
    (q (t.Has.g x1.toNat)).bind fun y3=>
    if y3 then Gb x1 (self1 (wrap .i64 (x1+1)))else self1 (wrap .i64 (x1+1))
   else none
  else some []) (i:Int)=some (((List.range' i k).filter p).map fun (i:Nat)=>(i:Int))
 |0,i,hi,N+1,_=>by rw[IQ,if_neg (by simp;omega)];rfl
 |k+1,i,hi,N+1,hN=>by
  rw[IQ,if_pos (by simp;omega),if_pos (by omega),ZF,hf i (by omega)];show (if p i then _ else _)=_;rw[Hf (by omega),Ls hb hf k (i+1) (by omega) N (by omega),List.range'_succ];by_cases h:p i=true
  ·rw[if_pos h,List.filter_cons_of_pos h];rfl
  ·rw[if_neg h,List.filter_cons_of_neg h]
theorem OF {N:Nat}{t:A1}{q:Int->Option Bool}{p:Nat->Bool}(hn:t.Has.n<N)(hb:t.Has.n<1000000)(hf:∀i,i<t.Has.n->q (t.Has.g i)=some (p i)) :E2 N t q=some (FL p t.Has.n):=by
 have:=Ls hb hf t.Has.n 0 (by omega) N hn
 rw[<- Ag7]at this;exact this
theorem RU {N:Nat}{t:A1}{q:Int->Option Bool}{p:Nat->Bool}(hn:t.Has.n<N)(hb:t.Has.n<1000000)(hf:∀i,i<t.Has.n->q (t.Has.g i)=some (p i)) :H3 N t q=some (FL p t.Has.n):=OF hn hb hf
theorem Hg:∀(L:List Int) (z:Nat),z+L.length<1000000->V4 L (fun self1 (x1:Int) (z1:Int)=>self1 (wrap .i64 (z1+1))) (fun (z1:Int)=>some (z1,(0:Int))) (z:Int)=some (((z+L.length:Nat):Int),0)
 |[],z,_=>rfl
 |x::L,z,h=>by show V4 L _ _ (wrap .i64 ((z:Int)+1))=_;rw[Hf (by simp at h;omega),Hg L (z+1) (by simp at h⊢;omega)];simp only[ZN];congr 3;omega
end Go.AM
namespace Go.AM
open IntKind (wrap)
open Go.Proofs
def JM (x:BitVec 64):Nat->Nat
 |0=>0
 |L+1=>JM x L+if x.getLsbD L then 1 else 0
theorem TF (x:BitVec 64):∀L,JM x L<=L
 |0=>YY _
 |L+1=>by have:=TF x L;simp only[JM];split<;>omega
theorem cntB_zero {x:BitVec 64}:∀{L:Nat},JM x L=0 ↔ ∀k,k<L->x.getLsbD k=false
 |0=>⟨fun _ k hk=>absurd hk (by omega),fun _=>rfl⟩
 |L+1=>by
  simp only[JM];constructor
  ·intro h k hk;by_cases e:k=L
   ·subst e;cases hb:x.getLsbD k with
    |true=>simp[hb]at h
    |false=>rfl
   ·have h1:JM x L=0:=by omega
    exact cntB_zero.1 h1 k (by omega)
  ·intro h;rw[cntB_zero.2 fun k hk=>h k (by omega),h L (by omega)];rfl
theorem EA {x y:BitVec 64}{t:Nat}(hy:∀k,k<64->y.getLsbD k=(x.getLsbD k&&decide (k≠t)))(ht:x.getLsbD t=true):∀L,L<=64->JM x L=JM y L+if t<L then 1 else 0
 |0,_=>by simp[JM]
 |L+1,h=>by
  simp only[JM];rw[EA hy ht L (by omega),hy L (by omega)];by_cases e:L=t
  ·subst e;simp[ht]
  ·by_cases h1:t<L
   ·simp[e,h1,show t<L+1 by omega];omega
   ·simp[e,h1,show ¬t<L+1 by omega]
theorem VL {x:BitVec 64}:U x=0↔x=0#64:=⟨fun h=>Ae3 (by have:(x.toNat:Int)=0:=h;simp;omega),fun h=>by subst h;rfl⟩
theorem JN {x:BitVec 64}:x=0#64 ↔ ∀k,k<64->x.getLsbD k=false:=
 ⟨fun h k _=>by subst h;simp,fun h=>QJ fun b hb=>by rw[h b hb];simp⟩
theorem MO {a k:Nat}(ha:a<64)(hk:k<64):(1#64 <<< a).getLsbD k=decide (k=a):=WW ha hk
def VM (L:Nat)(x:BitVec 64):Prop:=∀k,L<=k->k<64->x.getLsbD k=false
theorem YB {L:Nat}{x:BitVec 64}(hs:VM L x)(hL:L<=64):x=0#64↔JM x L=0:=by rw[JN,cntB_zero];exact⟨fun h k hk=>h k (by omega),fun h k hk=>by by_cases h1:k<L;exact h k h1;exact hs k (by omega) hk⟩
theorem Xe {L a:Nat}{x:BitVec 64}(hs:VM L x)(hL:L<=64)(ha:a<L):(U x==shI .shl .u64 1 (a:Int))=(x.getLsbD a&&decide (JM x L=1)):=by
 rw[Yy a (by omega),Ab0,beq_iff_eq,YR,decide_eq_true_eq];have hw:∀k,k<64->(x &&& ~~~ (1#64 <<< a)).getLsbD k=(x.getLsbD k&&decide (k≠a)):=fun k hk=>by rw[Ad1,Af2,MO (by omega) hk];simp[hk]
 constructor
 ·intro h;have e:x=1#64 <<< a:=Ae3 (by have:(x.toNat:Int)=((1#64 <<< a).toNat:Nat):=h;omega);have hb:x.getLsbD a=true:=by rw[e,MO (by omega) (by omega)];simp
  refine⟨hb,?_⟩;rw[EA hw hb L hL,if_pos ha,cntB_zero.2 fun k hk=>by rw[hw k (by omega),e,MO (by omega) (by omega)];simp]
 ·rintro⟨hb,hc⟩;rw[EA hw hb L hL,if_pos ha]at hc;have h0:=cntB_zero.1 (show JM (x &&& ~~~ (1#64 <<< a)) L=0 by omega);congr 1;refine QJ fun b hb'=>?_;rw[MO (by omega) hb',decide_eq_true_eq];by_cases e:b=a
  ·subst e;simp[hb]
  ·by_cases h2:b<L
   ·have:=h0 b h2
    rw[hw b hb']at this;simp[e]at this;simp[this,e]
   ·simp[hs b (by omega) hb',e]
def Lt (f:Nat->Bool)(L:Nat):Bool:=(List.range L).any f
theorem JO (f:Nat->Bool)(L:Nat):Lt f (L+1)=(Lt f L||f L):=by simp[Lt,Aa9]
theorem TG {L:Nat}{x:BitVec 64}(hs:VM L x)(hL:L<=64):(U x==0) = !Lt x.getLsbD L:=by
 rw[Ab0,beq_iff_eq,VL,Zf,JN,Lt,Ad8];exact⟨fun h k hk=>by rw[h k (by have:=ZE.1 hk;omega)];simp,fun h k hk=>by
  by_cases h1:k<L
  ·simpa using h k (ZE.2 h1)
  ·exact hs k (by omega) hk⟩
def YC (L:Nat)(x y:BitVec 64):Bool:=((!Lt (fun k=>x.getLsbD k&&y.getLsbD k) L)||(!Lt (fun k=>x.getLsbD k && !y.getLsbD k) L))||(!Lt (fun k=>(!x.getLsbD k)&&y.getLsbD k) L)
theorem Hh {f g:Nat->Bool}{L:Nat}(h:∀k,k<L->f k=g k):Lt f L=Lt g L:=by unfold Lt;rw[Ab0,Ac7,Ac7];exact⟨fun⟨k,h1,h2⟩=>⟨k,h1,by rw[<- h k (ZE.1 h1)];exact h2⟩,fun⟨k,h1,h2⟩=>⟨k,h1,by rw[h k (ZE.1 h1)];exact h2⟩⟩
theorem Xf {N L:Nat}{x y:BitVec 64}(hx:VM L x)(hy:VM L y)(hL:L<=64):Ae N (U x) (U y)=some (YC L x y):=by
 unfold Ae YC;rw[Yx,MA,MA,TG (L:=L) (fun k h1 h2=>by simp[hx k h1 h2]) hL,TG (L:=L) (fun k h1 h2=>by simp[hx k h1 h2]) hL,TG (L:=L) (fun k h1 h2=>by simp[hy k h1 h2]) hL];rw[Hh (f:=(x &&& y).getLsbD) (g:=fun k=>x.getLsbD k&&y.getLsbD k) fun k _=>by simp,
  Hh (f:=(x &&& ~~~ y).getLsbD) (g:=fun k=>x.getLsbD k && !y.getLsbD k) fun k hk=>by simp[show k<64 by omega],
  Hh (f:=(y &&& ~~~ x).getLsbD) (g:=fun k=>(!x.getLsbD k)&&y.getLsbD k) fun k hk=>by simp[show k<64 by omega,Bool.and_comm]]
theorem Lu {N:Nat}(x:BitVec 64)(k:Nat):G8 N (U x) (k:Int)=some (x.getLsbD k):=by unfold G8;rw[if_pos (by omega),WX]
theorem Vi {N L:Nat}{t:E8}(hN:1000<=N)(ht:t.Langs=L)(hL:L<=64)(x:BitVec 64):CH N t (U x)=some (JM x L:Int):=by
 unfold CH;obtain⟨r,h1,h2⟩:=YA (body:=fun self1 (x1:Int) (x2:Int)=>
  if (decide (x2<t.Langs)) then
   (G8 N (U x) x2).bind fun y3=>
   if y3 then self1 (wrap .i64 (x1+1)) (wrap .i64 (x2+1))else self1 x1 (wrap .i64 (x2+1))
  else some x1) (fun i x1 x2=>x2=(i:Int)/\x1=(JM x i:Int)) L (fun r=>r=(JM x L:Int)) (N:=N) (by omega) (a:=0) (b:=0) ⟨rfl,rfl⟩ (by
  rintro self i x1 x2 hi ⟨rfl,rfl⟩ hs;have hc:=TF x i;by_cases hlt:i<L
  ·refine ifT (by simp[ht];omega) (Xc (Lu x i) ?_);by_cases hb:x.getLsbD i=true
   ·exact ifT hb (hs hlt _ _ ⟨Hf (by omega),by rw[Hf (by omega)];simp[JM,hb]⟩)
   ·exact ifF hb (hs hlt _ _ ⟨Hf (by omega),by simp[JM,hb]⟩)
  ·obtain rfl:i=L:=by omega
   exact ifF (by simp[ht]) ⟨_,rfl,rfl⟩)
 rw[h1,h2]
theorem Xg {N L:Nat}{t:E8}(hN:1000<=N)(ht:t.Langs=L)(hL:L<=64)(x y:BitVec 64):Ez N t (U x) (U y)=some (YC L x y):=by
 unfold Ez;obtain⟨r,h1,h2⟩:=loop4 (body:=fun self1 (x4:Bool) (x5:Bool) (x6:Bool) (x7:Int)=>
  if (decide (x7<t.Langs)) then
   lt (fun (z7:Bool)=>
    lt (fun (z8:Bool)=>
     lt (fun (z9:Bool)=>
      self1 z7 z8 z9 (wrap .i64 (x7+1))
      ) fun k9=>
      if x6 then
       k9 true
      else
       (G8 N (U x) x7).bind fun y32=>
       if (!y32) then
        (G8 N (U y) x7).bind fun y33=>
        k9 y33
       else
        k9 false
     ) fun k8=>
     if x5 then
      k8 true
     else
      (G8 N (U x) x7).bind fun y28=>
      if y28 then
       (G8 N (U y) x7).bind fun y29=>
       k8 (!y29)
      else
       k8 false
    ) fun k7=>
    if x4 then
     k7 true
    else
     (G8 N (U x) x7).bind fun y24=>
     if y24 then
      (G8 N (U y) x7).bind fun y25=>
      k7 y25
     else
      k7 false
  else
   some (((!x4)||(!x5))||(!x6))) (fun i (a b c:Bool) (d:Int)=>d=(i:Int)/\a=Lt (fun k=>x.getLsbD k&&y.getLsbD k) i/\b=Lt (fun k=>x.getLsbD k && !y.getLsbD k) i/\c=Lt (fun k=>(!x.getLsbD k)&&y.getLsbD k) i) L (fun r=>r=YC L x y) (N:=N) (by omega) (a:=false) (b:=false) (c:=false) (d:=0) ⟨rfl,rfl,rfl,rfl⟩ (by
  rintro self i a b c d hi ⟨rfl,rfl,rfl,rfl⟩ hs;by_cases hlt:i<L
  ·refine ifT (by simp[ht];omega) ?_;have fin:∃r,self (Lt (fun k=>x.getLsbD k&&y.getLsbD k) (i+1)) (Lt (fun k=>x.getLsbD k && !y.getLsbD k) (i+1)) (Lt (fun k=>(!x.getLsbD k)&&y.getLsbD k) (i+1)) (wrap .i64 ((i:Int)+1))=some r/\r=YC L x y:=
    hs hlt _ _ _ _ ⟨Hf (by omega),rfl,rfl,rfl⟩
   simp only[lt,Lu,Za];rw[JO,JO,JO]at fin;generalize Lt (fun k=>x.getLsbD k&&y.getLsbD k) i=a at fin⊢;generalize Lt (fun k=>x.getLsbD k && !y.getLsbD k) i=b at fin⊢;generalize Lt (fun k=>(!x.getLsbD k)&&y.getLsbD k) i=c at fin⊢;generalize x.getLsbD i=p at fin⊢;generalize y.getLsbD i=q at fin⊢;cases a<;>cases b<;>cases c<;>cases p<;>cases q<;>exact fin
  ·obtain rfl:i=L:=by omega
   exact ifF (by simp[ht]) ⟨_,rfl,rfl⟩)
 exact h1.trans (congrArg some h2)
end Go.AM
namespace Go.AM
open IntKind (wrap)
open Go.Proofs
def okC (t:A1)(L:Nat):Prop:=t.Langs=L/\L<=32/\t.Has.n<=64/\∀i,i<t.Has.n->VM L (bT t i)
abbrev giv (t:A1):E8:=⟨t.Langs,t.Has⟩
theorem JP {N:Nat}{t:A1}(hN:1000<=N)(h:okT t):∃e,D4 N t=some e/\P6 N (giv t)=some e/\(e=0->∃L,okC t L):=by
 have hn:=h.1;by_cases hl:t.Langs<0 \/ 32<t.Langs
 ·have hb:((decide (t.Langs<0))||(decide (32<t.Langs)))=true:=by simpa using hl
  exact⟨3,by unfold D4;rw[if_pos hb],by unfold P6;rw[if_pos hb],fun h=>by cases h⟩
 have hb:¬((decide (t.Langs<0))||(decide (32<t.Langs)))=true:=by simpa using hl
 obtain⟨L,hL⟩:∃L:Nat,t.Langs=L:=⟨t.Langs.toNat,by omega⟩;have hL2:L<=32:=by omega
 by_cases hm:64<t.Has.n
 ·have hm' : (decide (64<(t.Has.n:Int)))=true:=by simpa using (by omega:(64:Int)<t.Has.n)
  exact⟨12,by unfold D4;rw[if_neg hb,if_pos hm'],by unfold P6;rw[if_neg hb,if_pos hm'],fun h=>by cases h⟩
 have hm' : ¬(decide (64<(t.Has.n:Int)))=true:=by simp;omega
 have hsub:∀i,(U (bT t i &&& ~~~ TP L) != 0)=false↔VM L (bT t i):=fun i=>by
  rw[bne_eq_false_iff_eq,VL,JN];constructor
  ·intro h k h1 h2
   have:=h k h2
   rw[Ad1,Af2,QN h2]at this;simpa[h2,show ¬k<L by omega]using this
  ·intro h k h2;rw[Ad1,Af2,QN h2];by_cases h1:k<L
   ·simp[h1]
   ·simp[h k (by omega) h2]
 have h1:B0 N t.Has (fun (u1:Int)=>S4 N u1 t)=some ((List.range t.Has.n).any fun i=>U (bT t i &&& ~~~ TP L) != 0):=
  KI (by omega) (by omega) fun i hi=>by unfold S4;rw[Xd hL hL2,OE h hi];show some _=_;rw[MA]
 have hprog:D4 N t=some (if ((List.range t.Has.n).any fun i=>U (bT t i &&& ~~~ TP L) != 0) then 2 else 0):=by unfold D4;rw[if_neg hb,if_neg hm',h1];simp only[Za];split<;>rfl
 refine⟨_,hprog,?_,fun he=>⟨L,hL,hL2,by omega,fun i hi=>?_⟩⟩
 ·unfold P6;rw[if_neg hb,if_neg hm'];generalize hq:((List.range t.Has.n).any fun i=>U (bT t i &&& ~~~ TP L) != 0)=q;obtain⟨r,g1,g2⟩:=Xb (body:=fun self3 (x2:Int)=>
   if (decide (x2<(t.Has.n:Int))) then
    CA N (fun self4 (x4:Int)=>
     if (decide (x4<64)) then
      if ((0:Int)<=x2/\x2<(t.Has.n:Int))then
       (G8 N (t.Has.g x2.toNat) x4).bind fun y9=>
       if y9 then some 2 else self4 (wrap .i64 (x4+1))
      else none
     else self3 (wrap .i64 (x2+1))) t.Langs
   else some 0) (fun i x=>x=(i:Int)/\∀j,j<i->VM L (bT t j)) t.Has.n (fun (r:Int)=>r=if q then 2 else 0) (N:=N) (by omega) (a:=0) ⟨rfl,fun j hj=>absurd hj (by omega)⟩ (by
   rintro self i x hi ⟨rfl,hp⟩ hs;by_cases hlt:i<t.Has.n
   ·refine ifT (by simp;omega) ?_;rw[ZF,OE h hlt,hL];refine Xb (fun k x4=>x4=((L+k:Nat):Int)/\∀k',k' < k->(bT t i).getLsbD (L+k')=false) (64-L) _ (by omega) ⟨rfl,fun j hj=>absurd hj (by omega)⟩ ?_;rintro self4 k x4 hk ⟨rfl,hp4⟩ hs4;by_cases hlt4:k<64-L
    ·refine ifT (by simp;omega) (ifT (by omega) (Xc (Lu _ _) ?_));by_cases hbit:(bT t i).getLsbD (L+k)=true
     ·refine ifT hbit ⟨_,rfl,?_⟩
      have:q=true:=by
       rw[<- hq,Ac7];refine⟨i,ZE.2 hlt,?_⟩;cases hz:(U (bT t i &&& ~~~ TP L) != 0)with
       |true=>rfl
       |false=>have:=(hsub i).1 hz (L+k) (by omega) (by omega);rw[hbit]at this;cases this
      rw[this];rfl
     ·refine ifF hbit (hs4 hlt4 _ ⟨Hf (by omega),fun k' hk'=>?_⟩);by_cases e:k' = k
      ·subst e;simpa using hbit
      ·exact hp4 k' (by omega)
    ·refine ifF (by simp;omega) (hs hlt _ ⟨Hf (by omega),fun j hj=>?_⟩);by_cases e:j=i
     ·subst e;intro b h1 h2
      have:=hp4 (b-L) (by omega)
      rwa [show L+(b-L)=b by omega]at this
     ·exact hp j (by omega)
   ·refine ifF (by simp;omega) ⟨_,rfl,?_⟩
    have:q=false:=by rw[<- hq,Ad8];intro j hj;rw[(hsub j).2 (hp j (by have:=ZE.1 hj;omega))];simp
    rw[this];rfl)
  rw[g2]at g1;exact g1
 ·have hq:((List.range t.Has.n).any fun i=>U (bT t i &&& ~~~ TP L) != 0)=false:=by
   cases hz:((List.range t.Has.n).any fun i=>U (bT t i &&& ~~~ TP L) != 0)with
   |false=>rfl
   |true=>rw[hz]at he;cases he
  rw[Ad8]at hq;exact (hsub i).1 (by simpa using hq i (ZE.2 hi))
theorem any2 {a b:Int}{p:Int->Bool}:((List.range (Sl.of [a,b]:Sl Int).n).any fun i=>p ((Sl.of [a,b]:Sl Int).g i))=(p a||p b):=by show ((List.range 2).any fun i=>p (([a,b]:List Int).getD i default))=_;simp[Aa9]
theorem any1 {a:Int}{p:Int->Bool}:((List.range (Sl.of [a]:Sl Int).n).any fun i=>p ((Sl.of [a]:Sl Int).g i))=p a:=by show ((List.range 1).any fun i=>p (([a]:List Int).getD i default))=_;simp[Aa9]
def Hi (L:Nat)(a:Int):Bool:=decide (a<0)||decide ((L:Int)<=a)
def TH (p:Nat->Bool)(n:Nat):Nat:=(FL p n).length
theorem TI (p:Nat->Bool)(n:Nat):TH p (n+1)=TH p n+if p n then 1 else 0:=by unfold TH;rw[TE,Zq];split<;>rfl
theorem TJ {N L:Nat}{t:A1}{q:Int->Option Bool}{p:Nat->Bool}{a:Int}(hN:1000<=N)(h:okT t)(hc:D4 N t=some 0)(hL:t.Langs=L)
 (hf:Hi L a=false->∀i,i<t.Has.n->q (t.Has.g i)=some (p i)) :
 H7 N t q (Sl.of [a]:Sl Int)=some (if Hi L a then (0,3)else ((TH p t.Has.n:Int),0)):=by
 have hn:=h.1;unfold H7;rw[hc,Za,if_neg (by decide),GE (p:=fun i=>Hi L ((Sl.of [a]:Sl Int).g i)) (by show 1<N;omega) (by show 1<_;omega) (fun i hi=>by unfold F9 Hi;rw[hL]),any1 (p:=Hi L),Za];by_cases ho:Hi L a=true
 ·rw[if_pos ho,if_pos ho]
 ·rw[if_neg ho,if_neg ho];show (E2 N t q).bind _=_;rw[OF (by omega) (by omega) (hf (by simpa using ho))];show V4 _ _ _ _=_;have hl:=QP p t.Has.n
  have:=Hg (FL p t.Has.n) 0 (by omega)
  rw[ZG]at this;exact this
theorem RV {N L:Nat}{t:A1}{q:Int->Option Bool}{p:Nat->Bool}{a b:Int}(hN:1000<=N)(h:okT t)(hc:D4 N t=some 0)(hL:t.Langs=L)
 (hf:(Hi L a||Hi L b)=false->∀i,i<t.Has.n->q (t.Has.g i)=some (p i)) :
 H0 N t q (Sl.of [a,b]:Sl Int)=some (if (Hi L a||Hi L b) then (0,3)else ((TH p t.Has.n:Int),0)):=by
 have hn:=h.1;unfold H0;rw[hc,Za,if_neg (by decide),GE (p:=fun i=>Hi L ((Sl.of [a,b]:Sl Int).g i)) (by show 2<N;omega) (by show 2<_;omega) (fun i hi=>by unfold F9 Hi;rw[hL]),any2 (p:=Hi L),Za];by_cases ho:(Hi L a||Hi L b)=true
 ·rw[if_pos ho,if_pos ho]
 ·rw[if_neg ho,if_neg ho];show (H3 N t q).bind _=_;rw[RU (by omega) (by omega) (hf (by simpa using ho))];show V4 _ _ _ _=_;have hl:=QP p t.Has.n
  have:=Hg (FL p t.Has.n) 0 (by omega)
  rw[ZG]at this;exact this
theorem Lw {N n:Nat}{body:(Int->Int->Option (Int×Int))->Int->Int->Option (Int×Int)}{p:Nat->Bool}(hn:n<N)(hb:n<1000000)
 (hend:∀self (x:Int),body self x (n:Int)=some (x,0))
 (hstep:∀self (x:Nat) (i:Nat),i<n->x<=i->body self (x:Int) (i:Int)=self (if p i then ((x+1:Nat):Int)else (x:Int)) ((i+1:Nat):Int)) :
 Dv N body 0 0=some ((TH p n:Int),0):=by
 obtain⟨r,h1,h2⟩:=YA (body:=body) (fun i x1 x2=>x2=(i:Int)/\x1=(TH p i:Int)) n (fun r=>r=((TH p n:Int),0)) hn (a:=0) (b:=0) ⟨rfl,rfl⟩ (by
  rintro self i x1 x2 hi ⟨rfl,rfl⟩ hs;have hc:TH p i<=i:=QP p i;by_cases hlt:i<n
  ·rw[hstep self _ i hlt hc];refine hs hlt _ _ ⟨rfl,?_⟩;rw[TI];split<;>rfl
  ·obtain rfl:i=n:=by omega
   rw[hend];exact⟨_,rfl,rfl⟩)
 rw[h1,h2]
theorem MP {N L:Nat}{t:E8}(hL:t.Langs=L)(a:Int):Ai N t a=some (!Hi L a):=by unfold Ai Hi;rw[hL,Bool.not_or];congr 2<;>rw[Ab0]<;>simp
theorem RW {N:Nat}{t:A1}(hN:1000<=N)(h:okT t)(a b:Int):∃r,O0 N t a b=some r/\Y2 N (giv t) a b=some r:=by
 obtain⟨e,h1,h2,h3⟩:=JP hN h;have hn:=h.1;by_cases he:e=0
 ·subst he;obtain⟨L,hL,hL2,hn2,hs⟩:=h3 rfl;have hout:∀a,Hi L a=false->∃k:Nat,a=k/\k<L:=fun a ho=>by simp only[Hi,Ae5,decide_eq_false_iff_not]at ho;exact⟨a.toNat,by omega,by omega⟩
  refine⟨if (Hi L a||Hi L b) then (0,3)else ((TH (fun i=>(bT t i).getLsbD a.toNat&&(bT t i).getLsbD b.toNat) t.Has.n:Int),0),?_,?_⟩
  ·unfold O0;rw[RV (L:=L) (p:=fun i=>(bT t i).getLsbD a.toNat&&(bT t i).getLsbD b.toNat) hN h h1 hL fun ho i hi=>?_]
   ·rfl
   ·rw[Ae5]at ho;obtain⟨k,rfl,hk⟩:=hout a ho.1;obtain⟨m,rfl,hm⟩:=hout b ho.2;unfold W7;rw[if_pos (by omega),if_pos (fun _=>by omega),OE h hi,WX,WX];simp
  ·unfold Y2;rw[h2,Za,if_neg (by decide),MP (t:=giv t) hL];simp only[lt,Za];rw[MP (t:=giv t) hL];by_cases ha:Hi L a=true
   ·simp[ha]
   ·by_cases hb:Hi L b=true
    ·simp[ha,hb]
    ·obtain⟨k,rfl,hk⟩:=hout a (by simpa using ha);obtain⟨m,rfl,hm⟩:=hout b (by simpa using hb);simp only[Bool.not_eq_true]at ha hb;simp only[ha,hb,Bool.not_false,Ab2,Bool.or_self,YV,if_false,Za];refine Lw (p:=fun i=>(bT t i).getLsbD (k:Int).toNat&&(bT t i).getLsbD (m:Int).toNat) (by omega) (by omega) (fun self x=>if_neg (by simp)) fun self x i hi hx=>?_;rw[if_pos (by simp;omega),if_pos (by omega),ZF,OE h hi,Lu,Lu,Hf (by omega),Hf (by omega)];simp only[Za,ZF];by_cases hb1:(bT t i).getLsbD k=true
     ·by_cases hb2:(bT t i).getLsbD m=true
      ·simp[hb1,hb2,hi]
      ·simp[hb1,hb2,hi]
     ·simp[hb1]
 ·refine⟨(0,e),?_,?_⟩
  ·unfold O0 H0;rw[h1,Za,if_pos (by simpa using he)];rfl
  ·unfold Y2;rw[h2,Za,if_pos (by simpa using he)]
theorem YD {N:Nat}{t:A1}(hN:1000<=N)(h:okT t)(a:Int):∃r,Af N t a=some r/\CJ N (giv t) a=some r:=by
 obtain⟨e,h1,h2,h3⟩:=JP hN h;have hn:=h.1;by_cases he:e=0
 ·subst he;obtain⟨L,hL,hL2,hn2,hs⟩:=h3 rfl;have hout:∀a,Hi L a=false->∃k:Nat,a=k/\k<L:=fun a ho=>by simp only[Hi,Ae5,decide_eq_false_iff_not]at ho;exact⟨a.toNat,by omega,by omega⟩
  refine⟨if Hi L a then (0,3)else ((TH (fun i=>(bT t i).getLsbD a.toNat&&decide (JM (bT t i) L=1)) t.Has.n:Int),0),?_,?_⟩
  ·unfold Af;rw[TJ (L:=L) (p:=fun i=>(bT t i).getLsbD a.toNat&&decide (JM (bT t i) L=1)) hN h h1 hL fun ho i hi=>?_]
   ·rfl
   ·obtain⟨k,rfl,hk⟩:=hout a ho;unfold Bd;rw[if_pos (by omega),OE h hi,Xe (hs i hi) (by omega) hk,ZF]
  ·unfold CJ;rw[h2,Za,if_neg (by decide),MP (t:=giv t) hL];simp only[Za];by_cases ha:Hi L a=true
   ·simp[ha]
   ·obtain⟨k,rfl,hk⟩:=hout a (by simpa using ha);simp only[Bool.not_eq_true]at ha;simp only[ha,Bool.not_false,Ab2,YV,if_false];refine Lw (p:=fun i=>(bT t i).getLsbD (k:Int).toNat&&decide (JM (bT t i) L=1)) (by omega) (by omega) (fun self x=>if_neg (by simp)) fun self x i hi hx=>?_;rw[if_pos (by simp;omega),if_pos (by omega),ZF,OE h hi,Lu,Vi (t:=giv t) hN hL (by omega),Hf (by omega),Hf (by omega)];simp only[Za,ZF];by_cases hb1:(bT t i).getLsbD k=true
    ·by_cases hb2:JM (bT t i) L=1
     ·simp[hb1,hb2,hi]
     ·have hb3:¬((JM (bT t i) L:Int)=1):=by omega
      simp[hb1,hb2,hb3,hi]
    ·simp[hb1]
 ·refine⟨(0,e),?_,?_⟩
  ·unfold Af H7;rw[h1,Za,if_pos (by simpa using he)];rfl
  ·unfold CJ;rw[h2,Za,if_pos (by simpa using he)]
theorem TL {N:Nat}{t:A1}(hN:1000<=N)(h:okT t)(i j:Int):∃r,N7 N t i j=some r/\Q2 N (giv t) i j=some r:=by
 obtain⟨e,h1,h2,h3⟩:=JP hN h;unfold N7 Q2;rw[h1,h2];simp only[Za];by_cases he:e=0
 ·subst he;obtain⟨L,hL,hL2,hn2,hs⟩:=h3 rfl;rw[if_neg (show ¬((0:Int) != 0)=true by decide),if_neg (show ¬((0:Int) != 0)=true by decide)];by_cases hb:(0<=i/\i<(t.Has.n:Int))/\(0<=j/\j<(t.Has.n:Int))
  ·have q1:¬((((decide (i<0))||(decide (j<0)))||(decide ((t.Has.n:Int)<=i)))||(decide ((t.Has.n:Int)<=j)))=true:=by simp;omega
   have q2:¬((((decide (i<0))||(decide ((t.Has.n:Int)<=i)))||(decide (j<0)))||(decide ((t.Has.n:Int)<=j)))=true:=by simp;omega
   rw[if_neg q1,if_neg q2,if_pos hb,if_pos hb,OE h (show i.toNat<_ by omega),OE h (show j.toNat<_ by omega),Xf (hs _ (by omega)) (hs _ (by omega)) (by omega),Xg (t:=giv t) hN hL (by omega)];exact⟨_,rfl,rfl⟩
  ·have q1:((((decide (i<0))||(decide (j<0)))||(decide ((t.Has.n:Int)<=i)))||(decide ((t.Has.n:Int)<=j)))=true:=by simp;omega
   have q2:((((decide (i<0))||(decide ((t.Has.n:Int)<=i)))||(decide (j<0)))||(decide ((t.Has.n:Int)<=j)))=true:=by simp;omega
   rw[if_pos q1,if_pos q2];exact⟨_,rfl,rfl⟩
 ·have q:(e != 0)=true:=by simpa using he
  rw[if_pos q,if_pos q];exact⟨_,rfl,rfl⟩
theorem TM {N:Nat}{t:A1}(h:okT t):BF N t=some (giv t):=by
 have:=h.1
 unfold BF E5;rw[if_pos (by omega)];rfl
theorem Xh {N:Nat}(t:A1):Ey N t=some (decide (t.Has.n<=100)):=by unfold Ey;congr 1;rw[Ab0];simp;omega
def inT (t:A1):Prop:=∀i,i<t.Has.n->∃x:BitVec 64,t.Has.g i=U x
theorem JU {N:Nat}{t:A1}(hN:1000<=N)(hw:Ah N=some true)(h:inT t)(i j:Int):W8 N t i j=some true:=by
 unfold W8;rw[Xh];by_cases hf:t.Has.n<=100
 ·have ht:okT t:=⟨hf,h⟩;obtain⟨r1,a1,b1⟩:=RW hN ht i j;obtain⟨r2,a2,b2⟩:=YD hN ht i;obtain⟨r3,a3,b3⟩:=TL hN ht i j;simp only[hf,decide_true,Za,Ab2,YV,if_false,TM ht,a1,b1,a2,b2,a3,b3,lt,beq_self_eq_true,if_true,hw,bne_iff_ne,ne_eq,Bool.true_eq_false,not_false_eq_true]
 ·simp[hf,hw]
end Go.AM
