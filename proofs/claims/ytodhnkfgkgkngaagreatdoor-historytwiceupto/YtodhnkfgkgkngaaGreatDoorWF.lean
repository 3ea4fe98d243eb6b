/- What a law's walk and its plain proof need, part 6: no condition of its own. -/
import Derived.Test.YtodhnkfgkgkngaaGreatDoorWE
import Derived.Test.YtodhnkfgkgkngaaGreatDoorWD
set_option linter.defProp false
set_option linter.unusedSimpArgs false
set_option linter.unusedVariables false
set_option linter.unusedSectionVars false
namespace Go.AM
open IntKind (wrap)
def Ai3:=@Nat.not_lt_zero
def Ak5:=@Bool.eq_iff_iff
def Am5:=@BitVec.getLsbD_or
def An1:=@BitVec.eq_of_getLsbD_eq
def Ao4:=@Bool.or_eq_false_iff
def Ap5:=@BitVec.getLsbD_and
def As1:=@Bool.not_eq_true
def As4:=@Nat.testBit_lt_two_pow
def At0:=@Bool.and_eq_false_iff
open Go.Proofs
set_option maxRecDepth 10000
set_option maxHeartbeats 2000000
variable {S:U5}(hS:F6 S Tryz.prog) (hL:JS S)
include hS hL
def OF (N:Nat)(a:Int):Option Bool:=
 some (((((decide (97<=a))&&(decide (a<=122)))||((decide (65<=a))&&(decide (a<=90))))||((decide (48<=a))&&(decide (a<=57))))||(a==45))
def EC (N:Nat)(a:Str):Option Bool:=
 Q6 N (fun b (x1:Int)=>
  if (decide (x1<(a.length:Int))) then
   if ((0:Int)<=x1/\x1<(a.length:Int))then
    (OF N (Bg a x1)).bind fun y3=>
    if (!y3) then
     some false
    else
     b (wrap .i64 (x1+1))
   else none
  else
   some ((decide (1<=(a.length:Int)))&&(decide ((a.length:Int)<=24)))
  ) 0
def Dn (N:Nat)(a:Sl E2):Option Int:=
 if ((decide ((a.n:Int)<1))=false->((decide (63<(a.n:Int)))=false->((0:Int)<=0/\0<(a.n:Int))))then
  if (((decide ((a.n:Int)<1))||(decide (63<(a.n:Int))))||((a.g 0).Parent != (-1))) then
   some 16
  else
   Q6 N (fun b (x3:Int)=>
    if (decide (x3<(a.n:Int))) then
     lt (fun (z3:Bool)=>
      if z3 then
       some 16
      else
       Q6 N (fun c (x7:Int)=>
        if (decide (x7<x3)) then
         if (((0:Int)<=x7/\x7<(a.n:Int))/\((0:Int)<=x3/\x3<(a.n:Int)))then
          if (((a.g x7.toNat).Name==(a.g x3.toNat).Name) != false) then
           some 16
          else
           c (wrap .i64 (x7+1))
         else none
        else
         b (wrap .i64 (x3+1))
        ) 0
      ) fun k3=>
      if (decide (0<x3)) then
       if ((0:Int)<=x3/\x3<(a.n:Int))then
        if (decide ((a.g x3.toNat).Parent<0)) then
         k3 true
        else
         if ((0:Int)<=x3/\x3<(a.n:Int))then
          if (decide (x3<=(a.g x3.toNat).Parent)) then
           k3 true
          else
           if ((0:Int)<=x3/\x3<(a.n:Int))then
            (EC N (a.g x3.toNat).Name).bind fun d=>
            k3 (!d)
           else none
         else none
       else none
      else
       if ((0:Int)<=x3/\x3<(a.n:Int))then
        (EC N (a.g x3.toNat).Name).bind fun f=>
        k3 (!f)
       else none
    else
     some 0
    ) 0
 else none
def Aq (rec:A5->Int->Option (Sl Int))(N:Nat)(b:A5)(a:Int):Option (Sl Int):=
 if (decide (a<0)) then
  some (Sl.nil:Sl Int)
 else
  if ((0:Int)<=a/\a<(b.Tree.n:Int))then
   (rec b (b.Tree.g a.toNat).Parent).bind fun y1=>
   if (((0:Int)<=a/\a<(b.On.n:Int))/\((y1.n+(b.On.g a.toNat).n)*8<=140737488355328/\y1.n+(b.On.g a.toNat).n<=140737488355328))then
    some (y1.app (b.On.g a.toNat))
   else none
  else none
def Aa:Nat->A5->Int->Option (Sl Int)
 |0=>fun _ _=>none
 |N+1=>Aq (Aa N) N
def Dp (N:Nat)(a:A5):Option Int:=
 (Dn N a.Tree).bind fun y1=>
 if (y1 != 0) then
  some 16
 else
  if (decide (64<(a.Laws.n:Int))) then
   some 12
  else
   Q6 N (fun d (x1:Int)=>
    if (decide (x1<(a.Laws.n:Int))) then
     if ((0:Int)<=x1/\x1<(a.Laws.n:Int))then
      (Dh N (a.Laws.g x1.toNat)).bind fun y4=>
      if (y4 != 0) then
       some 17
      else
       d (wrap .i64 (x1+1))
     else none
    else
     Q6 N (fun f (x3:Int)=>
      if (decide (x3<(a.Laws.n:Int))) then
       Q6 N (fun i (x5:Int)=>
        if (decide (x5<x3)) then
         if (((0:Int)<=x3/\x3<(a.Laws.n:Int))/\((0:Int)<=x5/\x5<(a.Laws.n:Int)))then
          if (((a.Laws.g x3.toNat).Name==(a.Laws.g x5.toNat).Name) != false) then
           some 6
          else
           i (wrap .i64 (x5+1))
         else none
        else
         f (wrap .i64 (x3+1))
        ) 0
      else
       if ((a.On.n:Int) != (a.Tree.n:Int)) then
        some 2
       else
        Q6 N (fun j (x6:Int)=>
         if (decide (x6<(a.On.n:Int))) then
          (Aa N a x6).bind fun y7=>
          if (decide (64<(y7.n:Int))) then
           some 2
          else
           j (wrap .i64 (x6+1))
         else
          Q6 N (fun l (x8:Int)=>
           if (decide (x8<(a.On.n:Int))) then
            Q6 N (fun c (b:Int)=>
             if ((0:Int)<=x8/\x8<(a.On.n:Int))then
              if (decide (b<((a.On.g x8.toNat).n:Int))) then
               if (((0:Int)<=x8/\x8<(a.On.n:Int))/\((0:Int)<=b/\b<((a.On.g x8.toNat).n:Int)))then
                if (decide (((a.On.g x8.toNat).g b.toNat)<0)) then
                 some 3
                else
                 if (((0:Int)<=x8/\x8<(a.On.n:Int))/\((0:Int)<=b/\b<((a.On.g x8.toNat).n:Int)))then
                  if (decide ((a.Laws.n:Int)<=((a.On.g x8.toNat).g b.toNat))) then
                   some 3
                  else
                   c (wrap .i64 (b+1))
                 else none
               else none
              else
               l (wrap .i64 (x8+1))
             else none
             ) 0
           else
            some 0
           ) 0
         ) 0
      ) 0
    ) 0
def Hc (N:Nat)(b:A5)(a:Int):Option Bool:=
 some ((decide (0<=a))&&(decide (a<(b.Tree.n:Int))))
def Hd (N:Nat)(a:A5)(b:Int):Option ((Sl Int)×Int):=
 (Dp N a).bind fun y1=>
 if (y1 != 0) then
  some ((Sl.nil:Sl Int),y1)
 else
  (Hc N a b).bind fun y2=>
  if (!y2) then
   some ((Sl.nil:Sl Int),3)
  else
   (Aa N a b).bind fun y3=>
   some (y3,0)
def Dq (N:Nat)(a:Int):Option Bool:=
 some (((((decide (97<=a))&&(decide (a<=122)))||((decide (65<=a))&&(decide (a<=90))))||((decide (48<=a))&&(decide (a<=57))))||(a==45))
theorem MO {N:Nat}{b:Int}{y:Bool}(h:Dq N b=some y) :FunO S Gl [.p (pI .u8 b)] [] (pB y) ([]) []:=by unfold Dq at h;refine A4 hS Tryz.func125 ?_;refine kB hS (A7 hS) trivial trivial 23 (.o (.o (.o (.n (.a (decide (97<=b))) (.a (decide (b<=122)))) (.n (.a (decide (65<=b))) (.a (decide (b<=90))))) (.n (.a (decide (48<=b))) (.a (decide (b<=57))))) (.a (b==45))) ?_;cases h;exact kR hS
def Ar (N:Nat)(a:Str):Option Bool:=
 Q6 N (fun b (x1:Int)=>
  if (decide (x1<(a.length:Int))) then
   if ((0:Int)<=x1/\x1<(a.length:Int))then
    (Dq N (Bg a x1)).bind fun y3=>
    if (!y3) then
     some false
    else
     b (wrap .i64 (x1+1))
   else none
  else
   some ((decide (0<(a.length:Int)))&&(decide ((a.length:Int)<=24)))
  ) 0
theorem OG {N:Nat}{b:Str}{y:Bool}(h:Ar N b=some y) :FunO S HE [.p (.str b)] [] (pB y) ([]) []:=by
 unfold Ar at h;refine A4 hS Tryz.func106 ?_;refine O9 hS trivial h (fun x1=>⟨[(6,pN x1),(5,pN (b.length:Int)),(0,.p (.str b))],[]⟩) (ids:=[]) (fun _ _ _ _ _ c x1 d h=>?_);refine kI hS h ?_ ?_<;>intro h
 ·obtain⟨c8,h⟩:=E6 h;obtain⟨y3,e3,h⟩:=B9 h;refine C4 hS [] c8 (MO hS hL e3) ?_;refine kI hS h ?_ ?_<;>intro h
  ·cases h;exact kR hS
  ·exact d _ [] _ (wrap .i64 (x1+1)) trivial h
 ·refine kB hS (A7 hS) trivial trivial 4 (.n (.a (decide (0<(b.length:Int)))) (.a (decide ((b.length:Int)<=24)))) ?_;cases h;exact kR hS
def S3 (N:Nat)(a:Sl E2):Option Int:=
 if (((a.n:Int)==0)||(decide (63<(a.n:Int)))) then
  some 16
 else
  AW N (fun b (x2:List (Str×Bool)) (x3:Int)=>
   if (decide (x3<(a.n:Int))) then
    if ((0:Int)<=x3/\x3<(a.n:Int))then
     lt (fun (z3:Bool)=>
      if z3 then
       some 16
      else
       b (Md eqS (a.g x3.toNat).Name true x2) (wrap .i64 (x3+1))
      ) fun k3=>
      if (decide (x3<=(a.g x3.toNat).Parent)) then
       k3 true
      else
       if (decide ((a.g x3.toNat).Parent<(if 0<(wrap .i64 (x3-1))then 0 else (wrap .i64 (x3-1))))) then
        k3 true
       else
        (Ar N (a.g x3.toNat).Name).bind fun y6=>
        if (!y6) then
         k3 true
        else
         Zq (Bh eqS (a.g x3.toNat).Name x2) (
          k3 false
          ) fun v6=>
          k3 v6
    else none
   else
    some 0
   ) [] 0
theorem HJ {N:Nat}{c:Sl E2}{y:Int}(h:S3 N c=some y) :FunO S HB [.p (vSl 2 B7 c)] [] (pN y) ([]) []:=by
 unfold S3 at h;refine A4 hS Tryz.func78 ?_;refine kB hS (A7 hS) trivial trivial 4 (.o (.a ((c.n:Int)==0)) (.a (decide (63<(c.n:Int))))) ?_;refine kI hS h ?_ ?_<;>intro h
 ·cases h;exact kR hS
 ·refine H7 hS trivial h (fun x2 x3=>⟨[(17,pN x3),(16,pN (c.n:Int)),(15,.p (vSl 2 B7 c)),(3,.mref 15000)],[(15000,.map (Lg PV.str PV.bb x2))]⟩) (ids:=[(15000,15000)]) (fun _ _ _ _ _ f x2 x3 i h=>?_);refine kI hS h ?_ ?_<;>intro h
  ·obtain⟨c25,h⟩:=E6 h;refine Ih hS (And.intro c25 (by decide:(2:Nat)<=2)) (A7 hS) h 0 (fun z3=>⟨[(45,pB z3),(17,pN x3),(16,pN (c.n:Int)),(15,.p (vSl 2 B7 c)),(5,.reg 6000 0),(3,.mref 15000)],[(15000,.map (Lg PV.str PV.bb x2)),(6000,.cells [pN (c.g x3.toNat).Parent,.p (.str (c.g x3.toNat).Name)])]⟩) (fun M3 k3 d h=>?_) (fun z3 h=>?_)
   ·refine kG hS h (fun h=>?_) (fun h=>?_)
    ·exact d _ [(6000,6000),(15000,15000)] _ true trivial h
    ·refine kG hS h (fun h=>?_) (fun h=>?_)
     ·exact d _ [(6000,6000),(15000,15000)] _ true trivial h
     ·refine kC hS h (OG hS hL) (fun y6 h=>?_);refine kG hS h (fun h=>?_) (fun h=>?_)
      ·exact d _ [(6000,6000),(15000,15000)] _ true trivial h
      ·rcases o6:Bh eqS (c.g x3.toNat).Name x2 with _|v6
       ·replace h:=optN o6 h;refine Ig hS trivial (kt:=Dd) (e:=Gs) (key:=PV.str (c.g x3.toNat).Name) (es:=Lg PV.str PV.bb x2) (x:=.v (.bool false)) (b:=false) (fd:=none) ((DU (kP:=PV.str) (vP:=PV.bb) (eq:=eqS) (fun _ _=>by kernel_rfl) (c.g x3.toNat).Name x2).trans (by rw[o6];rfl)) trivial ?_;exact d _ [(6000,6000),(15000,15000)] _ false trivial h
       ·replace h:=optS o6 h;refine Ig hS trivial (kt:=Dd) (e:=Gs) (key:=PV.str (c.g x3.toNat).Name) (es:=Lg PV.str PV.bb x2) (x:=PV.bb v6) (b:=true) (fd:=some (PV.bb v6)) ((DU (kP:=PV.str) (vP:=PV.bb) (eq:=eqS) (fun _ _=>by kernel_rfl) (c.g x3.toNat).Name x2).trans (by rw[o6];rfl)) trivial ?_;exact d _ [(6000,6000),(15000,15000)] _ v6 trivial h
   ·refine kI hS h ?_ ?_<;>intro h
    ·cases h;exact kR hS
    ·refine Mg hS trivial (kt:=Dd) (key:=PV.str (c.g x3.toNat).Name) (y:=PV.bb true) (es:=Lg PV.str PV.bb x2) (Ie (kP:=PV.str) (vP:=PV.bb) (eq:=eqS) (fun _ _=>by kernel_rfl) (c.g x3.toNat).Name true x2) trivial ?_;exact i _ [(15000,15000)] _ (Md eqS (c.g x3.toNat).Name true x2) (wrap .i64 (x3+1)) trivial h
  ·cases h;exact kR hS
def S4 (N:Nat)(a:A5):Option Int:=
 if ((0:Int)<=(a.On.n:Int)/\(a.On.n:Int)<=(a.On.n:Int)/\(a.On.n:Int)*8<=140737488355328/\(a.On.n:Int)<=140737488355328)then
  Ad7 N (fun c (x4:Sl Int) (x5:Bool) (x6:Int)=>
   if (decide (x6<(a.On.n:Int))) then
    if ((((0:Int)<=x6/\x6<(a.On.n:Int))/\((0:Int)<=x6/\x6<(x4.n:Int)))/\x6.toNat<x4.n)then
     if ((0:Int)<=x6/\x6<(a.Tree.n:Int))then
      lt (fun (z3:Sl Int)=>
       if (((0:Int)<=x6/\x6<(z3.n:Int))/\x6.toNat<z3.n)then
        if (decide (64<(z3.g x6.toNat))) then
         some 2
        else
         AW N (fun d (f:Bool) (b:Int)=>
          if (decide (b<((a.On.g x6.toNat).n:Int))) then
           if ((0:Int)<=b/\b<((a.On.g x6.toNat).n:Int))then
            d ((f||(decide (((a.On.g x6.toNat).g b.toNat)<0)))||(decide ((a.Laws.n:Int)<=((a.On.g x6.toNat).g b.toNat)))) (wrap .i64 (b+1))
           else none
          else
           c z3 f (wrap .i64 (x6+1))
          ) x5 0
       else none
       ) fun k3=>
       if (decide (0<=(a.Tree.g x6.toNat).Parent)) then
        if (((((((0:Int)<=x6/\x6<((x4.upd x6.toNat ((a.On.g x6.toNat).n:Int)).n:Int))/\x6.toNat<(x4.upd x6.toNat ((a.On.g x6.toNat).n:Int)).n)/\((0:Int)<=(a.Tree.g x6.toNat).Parent/\(a.Tree.g x6.toNat).Parent<((x4.upd x6.toNat ((a.On.g x6.toNat).n:Int)).n:Int)))/\(a.Tree.g x6.toNat).Parent.toNat<(x4.upd x6.toNat ((a.On.g x6.toNat).n:Int)).n)/\((0:Int)<=x6/\x6<((x4.upd x6.toNat ((a.On.g x6.toNat).n:Int)).n:Int)))/\x6.toNat<(x4.upd x6.toNat ((a.On.g x6.toNat).n:Int)).n)then
         k3 ((x4.upd x6.toNat ((a.On.g x6.toNat).n:Int)).upd x6.toNat (wrap .i64 (((x4.upd x6.toNat ((a.On.g x6.toNat).n:Int)).g x6.toNat)+((x4.upd x6.toNat ((a.On.g x6.toNat).n:Int)).g (a.Tree.g x6.toNat).Parent.toNat))))
        else none
       else
        k3 (x4.upd x6.toNat ((a.On.g x6.toNat).n:Int))
     else none
    else none
   else
    if x5 then
     some 3
    else
     some 0
   ) (Sl.rep (a.On.n:Int).toNat 0:Sl Int) false 0
 else none
theorem JD {N:Nat}{d:A5}{y:Int}(h:S4 N d=some y) :FunO S Ee [.p (.agg (A2 d))] [] (pN y) ([]) []:=by
 unfold S4 at h;refine A4 hS Tryz.func79 ?_;refine J8 hS trivial 2 2000 (A2 d) ?_;obtain⟨c1,h⟩:=E6 h;refine XH hS c1 h (fun x4 x5 x6=>⟨[(17,pN x6),(16,pN (d.On.n:Int)),(15,.p (vSl 1 (cL 1 (cI .i64)) d.On)),(4,pB x5),(3,.vec 14000),(1,.p (.ptr (A2 d)))],[(14000,.vec C0 1 x4.n (fun i=>cI .i64 (x4.g i)) false)]⟩) (ids:=[(14000,14000)]) (fun _ _ _ _ _ q x4 x5 x6 r h=>?_);refine kI hS h ?_ ?_<;>intro h
 ·obtain⟨c35,h⟩:=E6 h;refine I9 hS (And.intro (And.intro c35.1.1 c35.1.2) (And.intro (rfl:(1:Nat)=1) (And.intro c35.2 (by decide:(1:Nat)<=1)))) 27 ⟨[(17,pN x6),(16,pN (d.On.n:Int)),(15,.p (vSl 1 (cL 1 (cI .i64)) d.On)),(6,.p (vSl 1 (cI .i64) (d.On.g x6.toNat))),(5,pN x6),(4,pB x5),(3,.vec 14000),(1,.p (.ptr (A2 d)))],[(14000,.vec C0 1 (x4.upd x6.toNat ((d.On.g x6.toNat).n:Int)).n (fun i=>cI .i64 ((x4.upd x6.toNat ((d.On.g x6.toNat).n:Int)).g i)) false)]⟩ (ids:=[(14000,14000)]) ?_ (hle:=klR [(7,.fn x4.n (x4.upd x6.toNat ((d.On.g x6.toNat).n:Int)).n (fun l=>if l=x6.toNat then splice ((fun i=>cI .i64 (x4.g i)) l) 0 [pI .i64 ((d.On.g x6.toNat).n:Int)]else (fun i=>cI .i64 (x4.g i)) l) (fun i=>cI .i64 ((x4.upd x6.toNat ((d.On.g x6.toNat).n:Int)).g i)))] (al1 ⟨rfl,Tl (c:=cI .i64) (v:=x4) (x:=((d.On.g x6.toNat).n:Int)) same (fun _=>by first|rfl|(dsimp only;split<;>rfl))⟩ al0));obtain⟨c36,h⟩:=E6 h;refine Ih hS c36 (A7 hS) h 0 (fun z3=>⟨[(17,pN x6),(16,pN (d.On.n:Int)),(15,.p (vSl 1 (cL 1 (cI .i64)) d.On)),(6,.p (vSl 1 (cI .i64) (d.On.g x6.toNat))),(5,pN x6),(4,pB x5),(3,.vec 14000),(1,.p (.ptr (A2 d)))],[(14000,.vec C0 1 z3.n (fun i=>cI .i64 (z3.g i)) false)]⟩) (fun M3 k3 m h=>?_) (fun z3 h=>?_)
  ·refine kI hS h ?_ ?_<;>intro h
   ·refine Mh hS trivial ?_;obtain⟨c41,h⟩:=E6 h;refine L7 (And.intro (And.intro (And.intro (And.intro (And.intro c41.1.1.1.1.1 c41.1.1.1.1.2) c41.1.1.1.2) c41.1.1.2) c41.1.2) (And.intro (rfl:(1:Nat)=1) (And.intro c41.2 (by decide:(1:Nat)<=1)))) ?_;exact m _ [(14000,14000)] _ ((x4.upd x6.toNat ((d.On.g x6.toNat).n:Int)).upd x6.toNat (wrap .i64 (((x4.upd x6.toNat ((d.On.g x6.toNat).n:Int)).g x6.toNat)+((x4.upd x6.toNat ((d.On.g x6.toNat).n:Int)).g (d.Tree.g x6.toNat).Parent.toNat)))) trivial h (hle:=klR [(7,.fn (x4.upd x6.toNat ((d.On.g x6.toNat).n:Int)).n ((x4.upd x6.toNat ((d.On.g x6.toNat).n:Int)).upd x6.toNat (wrap .i64 (((x4.upd x6.toNat ((d.On.g x6.toNat).n:Int)).g x6.toNat)+((x4.upd x6.toNat ((d.On.g x6.toNat).n:Int)).g (d.Tree.g x6.toNat).Parent.toNat)))).n (fun l=>if l=x6.toNat then splice ((fun i=>cI .i64 ((x4.upd x6.toNat ((d.On.g x6.toNat).n:Int)).g i)) l) 0 [pI .i64 (wrap .i64 (((x4.upd x6.toNat ((d.On.g x6.toNat).n:Int)).g x6.toNat)+((x4.upd x6.toNat ((d.On.g x6.toNat).n:Int)).g (d.Tree.g x6.toNat).Parent.toNat)))]else (fun i=>cI .i64 ((x4.upd x6.toNat ((d.On.g x6.toNat).n:Int)).g i)) l) (fun i=>cI .i64 (((x4.upd x6.toNat ((d.On.g x6.toNat).n:Int)).upd x6.toNat (wrap .i64 (((x4.upd x6.toNat ((d.On.g x6.toNat).n:Int)).g x6.toNat)+((x4.upd x6.toNat ((d.On.g x6.toNat).n:Int)).g (d.Tree.g x6.toNat).Parent.toNat)))).g i)))] (al1 ⟨rfl,Tl (c:=cI .i64) (v:=x4.upd x6.toNat ((d.On.g x6.toNat).n:Int)) (x:=wrap .i64 (((x4.upd x6.toNat ((d.On.g x6.toNat).n:Int)).g x6.toNat)+((x4.upd x6.toNat ((d.On.g x6.toNat).n:Int)).g (d.Tree.g x6.toNat).Parent.toNat))) same (fun _=>by first|rfl|(dsimp only;split<;>rfl))⟩ al0))
   ·exact m _ [(14000,14000)] _ (x4.upd x6.toNat ((d.On.g x6.toNat).n:Int)) trivial h
  ·obtain⟨c42,h⟩:=E6 h;refine D6 hS c42 (b:=decide (64<(z3.g x6.toNat))) (fun c43=>?_) (fun c43=>?_)
   ·replace h:=itT c43 h;cases h;exact kR hS
   ·replace h:=itF c43 h;refine H7 hS trivial h (fun j f=>⟨[(52,pN f),(51,pN ((d.On.g x6.toNat).n:Int)),(50,.p (vSl 1 (cI .i64) (d.On.g x6.toNat))),(17,pN x6),(16,pN (d.On.n:Int)),(15,.p (vSl 1 (cL 1 (cI .i64)) d.On)),(4,pB j),(3,.vec 14000),(1,.p (.ptr (A2 d)))],[(14000,.vec C0 1 z3.n (fun i=>cI .i64 (z3.g i)) false)]⟩) (ids:=[(14000,14000)]) (fun _ _ _ _ _ s j f t h=>?_);refine kI hS h ?_ ?_<;>intro h
    ·obtain⟨c49,h⟩:=E6 h;refine kB hS (A7 hS) c49 trivial 10 (.o (.o (.a j) (.a (decide (((d.On.g x6.toNat).g f.toNat)<0)))) (.a (decide ((d.Laws.n:Int)<=((d.On.g x6.toNat).g f.toNat))))) ?_;exact t _ [(14000,14000)] _ ((j||(decide (((d.On.g x6.toNat).g f.toNat)<0)))||(decide ((d.Laws.n:Int)<=((d.On.g x6.toNat).g f.toNat)))) (wrap .i64 (f+1)) trivial h
    ·exact r _ [(14000,14000)] _ z3 j (wrap .i64 (x6+1)) trivial h
 ·refine kI hS h ?_ ?_<;>intro h
  ·cases h;exact kR hS
  ·cases h;exact kR hS
def D1 (N:Nat)(a:A5):Option Int:=
 (S3 N a.Tree).bind fun y1=>
 if (y1 != 0) then
  some 16
 else
  if (decide (64<(a.Laws.n:Int))) then
   some 12
  else
   AW N (fun b (x1:List (Str×Int)) (x2:Int)=>
    if (decide (x2<(a.Laws.n:Int))) then
     if ((0:Int)<=x2/\x2<(a.Laws.n:Int))then
      (O8 N (a.Laws.g x2.toNat)).bind fun y4=>
      if (y4 != 0) then
       some 17
      else
       Zq (Bh eqS (a.Laws.g x2.toNat).Name x1) (
        b (Md eqS (a.Laws.g x2.toNat).Name (wrap .i64 (0+1)) x1) (wrap .i64 (x2+1))
        ) fun v3=>
        b (Md eqS (a.Laws.g x2.toNat).Name (wrap .i64 (v3+1)) x1) (wrap .i64 (x2+1))
     else none
    else
     if (decide (((Lg PV.str (pI .i64) x1).length:Int)<(a.Laws.n:Int))) then
      some 6
     else
      if ((a.On.n:Int) != (a.Tree.n:Int)) then
       some 2
      else
       (S4 N a).bind fun y5=>
       some y5
    ) [] 0
theorem O4 {N:Nat}{a:A5}{y:Int}(h:D1 N a=some y) :FunO S Ea [.p (.agg (A2 a))] [] (pN y) ([]) []:=by
 unfold D1 at h;refine A4 hS Tryz.func30 ?_;refine kC hS h (HJ hS hL) (fun y1 h=>?_);refine kI hS h ?_ ?_<;>intro h
 ·cases h;exact kR hS
 ·refine kI hS h ?_ ?_<;>intro h
  ·cases h;exact kR hS
  ·refine H7 hS trivial h (fun x1 x2=>⟨[(18,pN x2),(17,pN (a.Laws.n:Int)),(16,.p (vSl 18 A8 a.Laws)),(3,.mref 15000),(1,.reg 2000 0)],[(15000,.map (Lg PV.str (pI .i64) x1)),(2000,.cells ((A2 a).map .p))]⟩) (ids:=[(2000,2000),(15000,15000)]) (fun _ _ _ _ _ d x1 x2 c h=>?_);refine kI hS h ?_ ?_<;>intro h
   ·obtain⟨c10,h⟩:=E6 h;obtain⟨y4,e4,h⟩:=B9 h;refine C4 hS [] (And.intro c10 (by decide:(18:Nat)<=18)) (Dm hS hL e4) ?_;refine kI hS h ?_ ?_<;>intro h
    ·cases h;exact kR hS
    ·rcases o3:Bh eqS (a.Laws.g x2.toNat).Name x1 with _|v3
     ·replace h:=optN o3 h;refine Ig hS trivial (kt:=Dd) (e:=C0) (key:=PV.str (a.Laws.g x2.toNat).Name) (es:=Lg PV.str (pI .i64) x1) (x:=pI .i64 0) (b:=false) (fd:=none) ((DU (kP:=PV.str) (vP:=pI .i64) (eq:=eqS) (fun _ _=>by kernel_rfl) (a.Laws.g x2.toNat).Name x1).trans (by rw[o3];rfl)) trivial ?_;refine Mg hS trivial (kt:=Dd) (key:=PV.str (a.Laws.g x2.toNat).Name) (y:=pI .i64 (wrap .i64 (0+1))) (es:=Lg PV.str (pI .i64) x1) (Ie (kP:=PV.str) (vP:=pI .i64) (eq:=eqS) (fun _ _=>by kernel_rfl) (a.Laws.g x2.toNat).Name (wrap .i64 (0+1)) x1) trivial ?_;exact c _ [(2000,2000),(15000,15000)] _ (Md eqS (a.Laws.g x2.toNat).Name (wrap .i64 (0+1)) x1) (wrap .i64 (x2+1)) trivial h
     ·replace h:=optS o3 h;refine Ig hS trivial (kt:=Dd) (e:=C0) (key:=PV.str (a.Laws.g x2.toNat).Name) (es:=Lg PV.str (pI .i64) x1) (x:=pI .i64 v3) (b:=true) (fd:=some (pI .i64 v3)) ((DU (kP:=PV.str) (vP:=pI .i64) (eq:=eqS) (fun _ _=>by kernel_rfl) (a.Laws.g x2.toNat).Name x1).trans (by rw[o3];rfl)) trivial ?_;refine Mg hS trivial (kt:=Dd) (key:=PV.str (a.Laws.g x2.toNat).Name) (y:=pI .i64 (wrap .i64 (v3+1))) (es:=Lg PV.str (pI .i64) x1) (Ie (kP:=PV.str) (vP:=pI .i64) (eq:=eqS) (fun _ _=>by kernel_rfl) (a.Laws.g x2.toNat).Name (wrap .i64 (v3+1)) x1) trivial ?_;exact c _ [(2000,2000),(15000,15000)] _ (Md eqS (a.Laws.g x2.toNat).Name (wrap .i64 (v3+1)) x1) (wrap .i64 (x2+1)) trivial h
   ·refine kI hS h ?_ ?_<;>intro h
    ·cases h;exact kR hS
    ·refine kI hS h ?_ ?_<;>intro h
     ·cases h;exact kR hS
     ·refine kC hS h (JD hS hL) (fun y5 h=>?_);cases h;exact kR hS
def N6 (N:Nat)(b:A5)(a:Int):Option Bool:=
 some ((decide (0<=a))&&(decide (a<(b.Tree.n:Int))))
theorem Cf {N:Nat}{c:A5}{b:Int}{y:Bool}(h:N6 N c b=some y) :FunO S EO [.p (.agg (A2 c)),pN b] [] (pB y) ([]) []:=by unfold N6 at h;refine A4 hS Tryz.func59 ?_;refine kB hS (A7 hS) trivial trivial 6 (.n (.a (decide (0<=b))) (.a (decide (b<(c.Tree.n:Int))))) ?_;cases h;exact kR hS
def K8 (N:Nat)(q0:Int)(q1:Sl E2):Option (List (Int)):=
 AW N (fun a (x1:Int) (x2:Sl Int)=>
  if (decide (0<=x1)) then
   if (((x2.n+(Sl.of [x1]:Sl Int).n)*8<=140737488355328/\x2.n+(Sl.of [x1]:Sl Int).n<=140737488355328)/\((0:Int)<=x1/\x1<(q1.n:Int)))then
    a (q1.g x1.toNat).Parent (x2.push x1)
   else none
  else
   Q6 N (fun b (x3:Int)=>
    if (decide (0<=x3)) then
     if (((0:Int)<=x3/\x3<(x2.n:Int))/\x3.toNat<x2.n)then
      FZ (x2.g x3.toNat) (
       b (wrap .i64 (x3-1))
       )
     else none
    else
     some []
    ) (wrap .i64 ((x2.n:Int)-1))
  ) q0 (Sl.nil:Sl Int)
theorem Er {N:Nat}{q0:Int}{q1:Sl E2}{L:List (Int)}(h:K8 N q0 q1=some L) :Fg S Y0 [] [.reg 0 0,.reg 1 0] [.cells [pN q0],.cells [.p (vSl 2 B7 q1)]] (L.map (fun (x:Int)=>[pI .i64 x])):=by
 unfold K8 at h;refine Ga hS Tryz.func90 ?_;refine Mj hS trivial h (fun x1 x2 L1=>⟨[(4,.vec 5500),(2,.reg 1 0),(1,.reg 0 0),(0,.yf 2)],[(5500,.vec C0 1 x2.n (fun i=>cI .i64 (x2.g i)) false),(2,.yld (L1.map (fun (x:Int)=>[pI .i64 x])) true),(1,.cells [.p (vSl 2 B7 q1)]),(0,.cells [pN x1])]⟩) (ids:=[(0,0),(1,1),(2,2)]) (fun _ _ _ _ _ f x1 x2 L1 j h=>?_);refine kI hS h ?_ ?_<;>intro h
 ·obtain⟨c4,h⟩:=E6 h;exact j _ [(0,0),(1,1),(2,2),(5500,17000)] _ (q1.g x1.toNat).Parent (x2.push x1) L1 (And.intro (And.intro (rfl:true=true) c4.1) c4.2) h (hle:=klR [(0,.fn (x2.n+1) (x2.push x1).n (X3 x2.n (fun i=>cI .i64 (x2.g i)) (D8 [pI .i64 0] [(0,cI .i64 x1)])) (fun i=>cI .i64 ((x2.push x1).g i)))] (al1 ⟨rfl,Lf (c:=cI .i64) (v:=x2) (x:=x1) (z:=[(pI .i64 0)]) same rfl rfl⟩ al0))
 ·refine GT hS trivial h (fun x3 L2=>⟨[(5,pN x3),(4,.vec 5500),(0,.yf 2)],[(5500,.vec C0 1 x2.n (fun i=>cI .i64 (x2.g i)) false),(2,.yld (L2.map (fun (x:Int)=>[pI .i64 x])) true),(1,.cells [.p (vSl 2 B7 q1)]),(0,.cells [pN x1])]⟩) (ids:=[(0,0),(1,1),(2,2),(5500,5500)]) (fun _ _ _ _ _ l x3 L2 m h=>?_);refine kI hS h ?_ ?_<;>intro h
  ·obtain⟨c14,h⟩:=E6 h;obtain⟨L5,rfl,d⟩:=Mi h;replace h:=d;refine CV hS c14 (ys:=(fun (x:Int)=>[pI .i64 x]) (x2.g x3.toNat)) (rest:=L5.map (fun (x:Int)=>[pI .i64 x])) ?_ ?_
   ·refine D6 hS trivial (b:=false) (fun c15=>?_) (fun c15=>?_)
    ·exact Bool.noConfusion ((rfl:false=false).symm.trans c15)
    ·exact m _ [(0,0),(1,1),(2,2),(5500,5500)] _ (wrap .i64 (x3-1)) L5 trivial h
   ·refine D6 hS trivial (b:=true) (fun c16=>?_) (fun c16=>?_)
    ·exact A9 hS trivial (a:=.tup []) (objs:=[(.cells [pN x1]),.cells [.p (vSl 2 B7 q1)],.yld [] false]) ⟨[],[(2,.yld [] false),(1,.cells [.p (vSl 2 B7 q1)]),(0,.cells [pN x1])]⟩ [0,1,2] (ids:=[(0,0),(1,1),(2,2)]) ⟨false,rfl,rfl,_,rfl⟩
    ·exact Bool.noConfusion ((rfl:true=true).symm.trans c16)
  ·obtain rfl:=C6 h;exact A9 hS trivial (a:=.tup []) (objs:=[(.cells [pN x1]),.cells [.p (vSl 2 B7 q1)],.yld [] true]) ⟨[],[(2,.yld [] true),(1,.cells [.p (vSl 2 B7 q1)]),(0,.cells [pN x1])]⟩ [0,1,2] (ids:=[(0,0),(1,1),(2,2)]) ⟨true,rfl,rfl,_,rfl⟩
def Y4 (N:Nat)(a:Sl E2)(b:Int):Option (Int×(Sl E2)):=
 some (b,a)
theorem Gy {N:Nat}{a:Sl E2}{b:Int}{y:Int×(Sl E2)}(h:Y4 N a b=some y) :FunO S Gf [.p (vSl 2 B7 a),pN b] [] (.clo Y0 [] [.reg 0 0,.reg 1 0]) ([.cells [pN y.1],.cells [.p (vSl 2 B7 y.2)]]) []:=by unfold Y4 at h;refine A4 hS Tryz.func60 ?_;obtain rfl:=C6 h;exact A9 hS trivial ⟨[(4,.clo Y0 [] [.reg 4000 0,.reg 3000 0])],[(4000,.cells [pN b]),(3000,.cells [.p (vSl 2 B7 a)])]⟩ [4000,3000] (ids:=[(3000,3000),(4000,4000)]) ⟨rfl,rfl,rfl⟩
def I0 (N:Nat)(a:A5)(c:Int):Option ((Sl Int)×Int):=
 (D1 N a).bind fun y1=>
 if (y1 != 0) then
  some ((Sl.nil:Sl Int),y1)
 else
  (N6 N a c).bind fun y2=>
  if (!y2) then
   some ((Sl.nil:Sl Int),3)
  else
   (Y4 N a.Tree c).bind fun y3=>
   (K8 N y3.1 y3.2).bind fun L1=>
   Y9 L1 (fun b (x1:Int) (z1:Sl Int)=>
    if (((0:Int)<=x1/\x1<(a.On.n:Int))/\((z1.n+(a.On.g x1.toNat).n)*8<=140737488355328/\z1.n+(a.On.g x1.toNat).n<=140737488355328))then
     b (z1.app (a.On.g x1.toNat))
    else none
    ) (fun (z1:Sl Int)=>
     some (z1,0)
    ) (Sl.nil:Sl Int)
theorem Cg {N:Nat}{a:A5}{b:Int}{y:(Sl Int)×Int}(h:I0 N a b=some y) :FunO S EN [.p (.agg (A2 a)),pN b] [] (.tup [.vec 0,pN y.2]) ([.vec C0 1 y.1.n (fun i=>cI .i64 (y.1.g i)) true]) []:=by
 unfold I0 at h;refine A4 hS Tryz.func33 ?_;refine J8 hS trivial 4 3000 (A2 a) ?_;obtain⟨y1,e1,h⟩:=B9 h;refine C4 hS [] (by decide:(3:Nat)<=3) (O4 hS hL e1) ?_;refine kI hS h ?_ ?_<;>intro h
 ·obtain rfl:=C6 h;exact A9 hS trivial ⟨[(5,pN y1),(4,.vec 5700)],[(5700,.vec C0 1 (Sl.nil:Sl Int).n (fun i=>cI .i64 ((Sl.nil:Sl Int).g i)) true)]⟩ [5700] (ids:=[]) ⟨rfl,rfl,rfl⟩
 ·obtain⟨y2,e2,h⟩:=B9 h;refine C4 hS [] (by decide:(3:Nat)<=3) (Cf hS hL e2) ?_;refine kI hS h ?_ ?_<;>intro h
  ·obtain rfl:=C6 h;exact A9 hS trivial ⟨[(5,pN 3),(4,.vec 5700)],[(5700,.vec C0 1 (Sl.nil:Sl Int).n (fun i=>cI .i64 ((Sl.nil:Sl Int).g i)) true)]⟩ [5700] (ids:=[]) ⟨rfl,rfl,rfl⟩
  ·refine kC hS h (Gy hS hL) (fun y3 h=>?_);obtain⟨L1,e4,h⟩:=B9 h;refine Fm hS trivial [22000,22001] [7,2] 901 (fun z1=>⟨[(7,.reg 8000 0),(2,.p (.ptr (A2 a)))],[(8500,.vec C0 1 z1.n (fun i=>cI .i64 (z1.g i)) false),(8000,.cells [.vec 8500])]⟩) (idl:=[(8000,8000)]) h (Er hS hL e4) (fun _=>by kernel_rfl) (fun _=>by kernel_rfl) (fun _=>by kernel_rfl) (fun _=>by kernel_rfl) (fun x1 _ d z1 f h=>?_) (fun z1 h=>?_)
   ·refine IV hS trivial ?_;refine G7 hS trivial [2,4,5] ?_;obtain⟨c5,h⟩:=E6 h;refine L7 c5 ?_;exact f _ [(901,901),(8000,8000),(8500,30000)] _ (z1.app (a.On.g x1.toNat)) trivial h (hle:=klR [(0,.fn (z1.n+(a.On.g x1.toNat).n) (z1.app (a.On.g x1.toNat)).n (X3 z1.n (fun i=>cI .i64 (z1.g i)) (fun i=>cI .i64 ((a.On.g x1.toNat).g i))) (fun i=>cI .i64 ((z1.app (a.On.g x1.toNat)).g i)))] (al1 ⟨rfl,appL (c:=cI .i64) (v:=z1) (w:=a.On.g x1.toNat) same rfl same rfl⟩ al0))
   ·obtain rfl:=C6 h;exact A9 hS trivial ⟨[(5,pN 0),(4,.vec 8500)],[(8500,.vec C0 1 z1.n (fun i=>cI .i64 (z1.g i)) true)]⟩ [8500] (ids:=[(8500,8500)]) ⟨rfl,rfl,rfl⟩
def K9 (rec:Pat->Option Pat)(N:Nat)(a:Pat):Option Pat:=
 AW N (fun b (x1:Sl Pat) (x2:Int)=>
  if (decide (x2<(a.L.n:Int))) then
   if ((0:Int)<=x2/\x2<(a.L.n:Int))then
    (rec (a.L.g x2.toNat)).bind fun y3=>
    if ((x1.n+(Sl.of [y3]:Sl Pat).n)*64<=140737488355328/\x1.n+(Sl.of [y3]:Sl Pat).n<=140737488355328)then
     b (x1.push y3) (wrap .i64 (x2+1))
    else none
   else none
  else
   some (Pat.mk a.Kind a.Is a.Not a.Min a.Max x1.n x1.g)
  ) (Sl.nil:Sl Pat) 0
def K5:Nat->Pat->Option Pat
 |0=>fun _=>none
 |N+1=>K9 (K5 N) N
theorem Gz {N:Nat}{rec:Pat->Option Pat}(b:∀{a:Pat}{y:Pat},rec a=some y->FunO S S9 [.p (.agg (B2 a))] [] (.p (.agg (B2 y))) ([]) []){a:Pat}{y:Pat}(h:K9 rec N a=some y) :FunO S S9 [.p (.agg (B2 a))] [] (.p (.agg (B2 y))) ([]) []:=by
 unfold K9 at h;refine A4 hS Tryz.func96 ?_;refine I9 hS trivial 8 ⟨[(7,.p (vSl 7 B2 a.L)),(3,.p E1),(2,.reg 3000 0),(1,.reg 2000 0)],[(3000,.cells [pN 0,pU 0,pU 0,.p (.v (.bool false)),pN 0,pN 0,.p E1]),(2000,.cells ((B2 a).map .p))]⟩ (ids:=[(2000,2000),(3000,3000)]) ?_ (hle:=klR [(0,.fn a.L.n a.L.n (Ak a) (fun i=>B2 (a.L.g i)))] (al1 ⟨rfl,Q1 a⟩ al0));refine H7 hS trivial h (fun x1 x2=>⟨[(9,pN x2),(8,pN (a.L.n:Int)),(7,.p (vSl 7 B2 a.L)),(3,.vec 4500),(2,.reg 3000 0),(1,.reg 2000 0)],[(4500,.vec CC 7 x1.n (fun i=>B2 (x1.g i)) false),(3000,.cells [pN 0,pU 0,pU 0,.p (.v (.bool false)),pN 0,pN 0,.p E1]),(2000,.cells ((B2 a).map .p))]⟩) (ids:=[(2000,2000),(3000,3000)]) (fun _ _ _ _ _ d x1 x2 f h=>?_);refine kI hS h ?_ ?_<;>intro h
 ·obtain⟨c6,h⟩:=E6 h;obtain⟨y3,e3,h⟩:=B9 h;refine C4 hS [] (And.intro c6 (by decide:(7:Nat)<=7)) (b e3) ?_;obtain⟨c7,h⟩:=E6 h;exact f _ [(2000,2000),(3000,3000),(4500,18000)] _ (x1.push y3) (wrap .i64 (x2+1)) (And.intro (rfl:true=true) c7) h (hle:=klR [(3,.fn (x1.n+1) (x1.push y3).n (X3 x1.n (fun i=>B2 (x1.g i)) (D8 [pI .i64 0,pI .u32 0,pI .u32 0,.v (.bool false),pI .i64 0,pI .i64 0,E1] [(0,B2 y3)])) (fun i=>B2 ((x1.push y3).g i)))] (al1 ⟨rfl,Lf (c:=B2) (v:=x1) (x:=y3) (z:=[(pI .i64 0),pI .u32 0,pI .u32 0,.v (.bool false),pI .i64 0,pI .i64 0,E1]) same rfl rfl⟩ al0))
 ·obtain rfl:=C6 h;exact A9 hS trivial ⟨[(2,.reg 3000 0)],[(3000,.cells [pN a.Kind,pU a.Is.Plus,pU a.Is.Minus,pB a.Not,pN a.Min,pN a.Max,.p (.sl false 7 x1.n (Ak (Pat.mk a.Kind a.Is a.Not a.Min a.Max x1.n x1.g)))])]⟩ [] (ids:=[(3000,3000)]) ⟨rfl,rfl,rfl⟩
theorem CF {N:Nat}{a:Pat}{y:Pat}(h:K5 N a=some y) :FunO S S9 [.p (.agg (B2 a))] [] (.p (.agg (B2 y))) ([]) []:=by
 induction N generalizing a y with
 |zero=>cases (show (none:Option Pat)=some y from h)
 |succ N ih=>exact Gz hS hL (fun e=>ih e) h
def M8 (N:Nat)(a:Law):Option Law:=
 (K5 N a.Left).bind fun y1=>
 (K5 N a.Right).bind fun y2=>
 (A6 N a.If).bind fun y3=>
 (E3 N a.Out).bind fun y4=>
 some (⟨a.Name,y1,y2,y3,y4,a.Mode⟩:Law)
theorem DK {N:Nat}{a:Law}{y:Law}(h:M8 N a=some y) :FunO S DD [.p (.agg (A8 a))] [] (.p (.agg (A8 y))) ([]) []:=by unfold M8 at h;refine A4 hS Tryz.func73 ?_;refine G7 hS trivial [2,5] ?_;obtain⟨y1,e1,h⟩:=B9 h;refine X9 trivial (CF hS hL e1) ?_;obtain⟨y2,e2,h⟩:=B9 h;refine X9 trivial (CF hS hL e2) ?_;refine L7 trivial ?_;refine G7 hS trivial [2,5] ?_;obtain⟨y3,e3,h⟩:=B9 h;refine X9 trivial (T2 hS hL e3) ?_;obtain⟨y4,e4,h⟩:=B9 h;refine X9 trivial (X1 hS hL e4) ?_;refine L7 trivial ?_;cases h;exact kR hS
def Ag (N:Nat)(c:A5)(a:Sl Int):Option (Sl Law):=
 AW N (fun b (x1:Sl Law) (x2:Int)=>
  if (decide (x2<(a.n:Int))) then
   if (((0:Int)<=x2/\x2<(a.n:Int))/\((0:Int)<=(a.g x2.toNat)/\(a.g x2.toNat)<(c.Laws.n:Int)))then
    (M8 N (c.Laws.g (a.g x2.toNat).toNat)).bind fun y3=>
    if ((x1.n+(Sl.of [y3]:Sl Law).n)*200<=140737488355328/\x1.n+(Sl.of [y3]:Sl Law).n<=140737488355328)then
     b (x1.push y3) (wrap .i64 (x2+1))
    else none
   else none
  else
   some x1
  ) (Sl.nil:Sl Law) 0
theorem EX {N:Nat}{b:A5}{a:Sl Int}{y:Sl Law}(h:Ag N b a=some y) :FunO S EP [.p (.agg (A2 b)),.p (vSl 1 (cI .i64) a)] [] (.p (vSl 18 A8 y)) ([]) []:=by
 unfold Ag at h;refine A4 hS Tryz.func61 ?_;refine H7 hS trivial h (fun x1 x2=>⟨[(10,pN x2),(9,pN (a.n:Int)),(8,.p (vSl 1 (cI .i64) a)),(5,.vec 6500),(2,.reg 3000 0)],[(6500,.vec P1 18 x1.n (fun i=>A8 (x1.g i)) false),(3000,.cells ((A2 b).map .p))]⟩) (ids:=[(3000,3000)]) (fun _ _ _ _ _ d x1 x2 f h=>?_);refine kI hS h ?_ ?_<;>intro h
 ·obtain⟨c6,h⟩:=E6 h;obtain⟨y3,e3,h⟩:=B9 h;refine C4 hS [] (And.intro (And.intro c6.1 c6.2) (by decide:(18:Nat)<=18)) (DK hS hL e3) ?_;obtain⟨c7,h⟩:=E6 h;exact f _ [(3000,3000),(6500,23000)] _ (x1.push y3) (wrap .i64 (x2+1)) (And.intro (rfl:true=true) c7) h (hle:=klR [(3,.fn (x1.n+1) (x1.push y3).n (X3 x1.n (fun i=>A8 (x1.g i)) (D8 [.str [],pI .i64 0,pI .u32 0,pI .u32 0,.v (.bool false),pI .i64 0,pI .i64 0,E1,pI .i64 0,pI .u32 0,pI .u32 0,.v (.bool false),pI .i64 0,pI .i64 0,E1,E1,E1,pI .i64 0] [(0,A8 y3)])) (fun i=>A8 ((x1.push y3).g i)))] (al1 ⟨rfl,Lf (c:=A8) (v:=x1) (x:=y3) (z:=[(.str []),pI .i64 0,pI .u32 0,pI .u32 0,.v (.bool false),pI .i64 0,pI .i64 0,E1,pI .i64 0,pI .u32 0,pI .u32 0,.v (.bool false),pI .i64 0,pI .i64 0,E1,E1,E1,pI .i64 0]) same rfl rfl⟩ al0))
 ·obtain rfl:=C6 h;exact A9 hS trivial ⟨[(4,.p (vSl 18 A8 x1))],[]⟩ [] (ids:=[]) ⟨rfl,rfl,rfl⟩
def Y5 (N:Nat)(a:A5)(b:Sl Sound):Option Int:=
 (D1 N a).bind fun y1=>
 if (y1 != 0) then
  some y1
 else
  (N3 N b).bind fun y2=>
  some y2
theorem Es {N:Nat}{a:A5}{b:Sl Sound}{y:Int}(h:Y5 N a b=some y) :FunO S Ed [.p (.agg (A2 a)),.p (vSl 2 A0 b)] [] (pN y) ([]) []:=by
 unfold Y5 at h;refine A4 hS Tryz.func58 ?_;refine kC hS h (O4 hS hL) (fun y1 h=>?_);refine kI hS h ?_ ?_<;>intro h
 ·cases h;exact kR hS
 ·refine kC hS h (BI hS hL) (fun y2 h=>?_);cases h;exact kR hS
def BM (N:Nat)(a:A5)(c:Sl Sound)(d:Int):Option ((Sl Sound)×Int):=
 (Y5 N a c).bind fun y1=>
 if (y1 != 0) then
  some ((Sl.nil:Sl Sound),y1)
 else
  (N6 N a d).bind fun y2=>
  if (!y2) then
   some ((Sl.nil:Sl Sound),3)
  else
   (Y4 N a.Tree d).bind fun y3=>
   (K8 N y3.1 y3.2).bind fun L1=>
   Y9 L1 (fun b (x1:Int) (z1:Sl Sound)=>
    if ((0:Int)<=x1/\x1<(a.On.n:Int))then
     (Ag N a (a.On.g x1.toNat)).bind fun y8=>
     (Y3 N y8 z1).bind fun y9=>
     if (y9.2 != 0) then
      some ((Sl.nil:Sl Sound),y9.2)
     else
      b y9.1
    else none
    ) (fun (z1:Sl Sound)=>
     some (z1,0)
    ) c
theorem HK {N:Nat}{a:A5}{b:Sl Sound}{c:Int}{y:(Sl Sound)×Int}(h:BM N a b c=some y) :FunO S Hx [.p (.agg (A2 a)),.p (vSl 2 A0 b),pN c] [] (.tup [.p (vSl 2 A0 y.1),pN y.2]) ([]) []:=by
 unfold BM at h;refine A4 hS Tryz.func14 ?_;refine J8 hS trivial 4 4000 (A2 a) ?_;obtain⟨y1,e1,h⟩:=B9 h;refine C4 hS [] (by decide:(3:Nat)<=3) (Es hS hL e1) ?_;refine kI hS h ?_ ?_<;>intro h
 ·obtain rfl:=C6 h;exact A9 hS trivial ⟨[(7,.reg 8000 0),(6,.reg 7000 0)],[(8000,.cells [pN y1]),(7000,.cells [.p (vSl 2 A0 (Sl.nil:Sl Sound))])]⟩ [] (ids:=[(7000,7000),(8000,8000)]) ⟨rfl,rfl,rfl⟩
 ·obtain⟨y2,e2,h⟩:=B9 h;refine C4 hS [] (by decide:(3:Nat)<=3) (Cf hS hL e2) ?_;refine kI hS h ?_ ?_<;>intro h
  ·obtain rfl:=C6 h;exact A9 hS trivial ⟨[(7,.reg 8000 0),(6,.reg 7000 0)],[(8000,.cells [pN 3]),(7000,.cells [.p (vSl 2 A0 (Sl.nil:Sl Sound))])]⟩ [] (ids:=[(7000,7000),(8000,8000)]) ⟨rfl,rfl,rfl⟩
  ·refine kC hS h (Gy hS hL) (fun y3 h=>?_);obtain⟨L1,e4,h⟩:=B9 h;refine Fm hS trivial [25000,25001] [7,6,4,3] 901 (fun z1=>⟨[(7,.reg 8000 0),(6,.reg 7000 0),(4,.reg 5000 0),(3,.p (.ptr (A2 a)))],[(8000,.cells [pN 0]),(7000,.cells [.p E1]),(5000,.cells [.p (vSl 2 A0 z1)])]⟩) (idl:=[(5000,5000),(7000,7000),(8000,8000)]) h (Er hS hL e4) (fun _=>by kernel_rfl) (fun _=>by kernel_rfl) (fun _=>by kernel_rfl) (fun _=>by kernel_rfl) (fun x1 _ d z1 f h=>?_) (fun z1 h=>?_)
   ·refine IV hS trivial ?_;refine G7 hS trivial [0,2,4,5,6,8] ?_;obtain⟨c7,h⟩:=E6 h;obtain⟨y8,e9,h⟩:=B9 h;refine X9 (And.intro (by decide:(3:Nat)<=3) c7) (EX hS hL e9) ?_;obtain⟨y9,e10,h⟩:=B9 h;refine X9 trivial (Ep hS hL e10) ?_;refine L7 trivial ?_;refine kI hS h ?_ ?_<;>intro h
    ·refine Ii hS trivial ⟨[(7,.reg 8000 0),(6,.reg 7000 0),(4,.reg 5000 0),(3,.p (.ptr (A2 a)))],[(8000,.cells [pN y9.2]),(7000,.cells [.p E1]),(5000,.cells [.p (vSl 2 A0 y9.1)])]⟩ (ids:=[(901,901),(5000,5000),(7000,7000),(8000,8000)]) ?_;obtain rfl:=C6 h;exact A9 hS trivial ⟨[(7,.reg 8000 0),(6,.reg 7000 0)],[(8000,.cells [pN y9.2]),(7000,.cells [.p (vSl 2 A0 (Sl.nil:Sl Sound))])]⟩ [] (ids:=[(7000,7000),(8000,8000)]) ⟨rfl,rfl,rfl⟩
    ·exact f _ [(901,901),(5000,5000),(7000,7000),(8000,8000)] _ y9.1 trivial h
   ·cases h;exact kR hS
end Go.AM
namespace Go.AM
open IntKind (wrap)
open Go.Proofs
set_option maxRecDepth 10000
set_option maxHeartbeats 2000000
variable {S:U5}(hS:F6 S Tryz.prog) (hL:JS S)
abbrev Et {T:Type}(e:TypeId)(k:Nat)(c:T->List PV)(x:Sl T):Obj:=.vec e k x.n (fun q=>c (x.g q)) false
theorem obPut {T:Type}{e:TypeId}{k n i:Nat}{c:T->List PV}{X:Sl (Sl T)}{z:Sl T}:∀q,q<n->(fun q=>if q=i then Et e k c z else if q=i then Obj.dead else Et e k c (X.g q)) q=(fun q=>Et e k c ((X.upd i z).g q)) q:=fun q _=>by by_cases h:q=i<;>simp[h]
include hS hL
def Bq (N:Nat)(a:Sl E2):Option (Sl (Sl Int)):=
 if ((0:Int)<=(a.n:Int)/\(a.n:Int)<=(a.n:Int)/\(a.n:Int)*24<=140737488355328/\(a.n:Int)<=140737488355328)then
  AW N (fun b (x:Int) (X:Sl (Sl Int))=>
   if (decide (x<(a.n:Int))) then
    if ((0:Int)<=x/\x<(a.n:Int))then
     if (a.g x.toNat).Parent.toNat<X.n then
      lt (fun (z:Sl Int)=>b (wrap .i64 (x+1)) (X.upd (a.g x.toNat).Parent.toNat z)) fun k=>
       if (decide (0<x)) then
        if (((0:Int)<=(a.g x.toNat).Parent/\(a.g x.toNat).Parent<(X.n:Int))/\(((X.g (a.g x.toNat).Parent.toNat).n+1)*8<=140737488355328/\(X.g (a.g x.toNat).Parent.toNat).n+1<=140737488355328))then
         k ((X.g (a.g x.toNat).Parent.toNat).push x)
        else none
       else k (X.g (a.g x.toNat).Parent.toNat)
     else none
    else none
   else some X) 0 ⟨a.n,fun _=>Sl.nil⟩
 else none
theorem JE {N:Nat}{b:Sl E2}{y:Sl (Sl Int)}(h:Bq N b=some y) :FunO S Ef [.p (vSl 2 B7 b)] [] (.p (vSl 1 (cL 1 (cI .i64)) y)) [] []:=by
 unfold Bq at h;refine A4 hS Tryz.func107 ?_;obtain⟨c1,h⟩:=E6 h;refine Gb hS c1 9 (.fam 9000 9901 fun i=>Et C0 1 (cI .i64) ((⟨b.n,fun _=>Sl.nil⟩:Sl (Sl Int)).g i)) (⟨by decide,fun i _=>rfl⟩:1000<=9901/\∀i,i<b.n->QF [E1] (Et C0 1 (cI .i64) ((⟨b.n,fun _=>Sl.nil⟩:Sl (Sl Int)).g i))) ?_;refine H7 hS trivial h (fun x X=>⟨[(11,pN x),(10,pN (b.n:Int)),(9,.p (vSl 2 B7 b)),(3,.vec 9000)],[(9901,.rows X.n fun i=>Et C0 1 (cI .i64) (X.g i)),(9000,.fam BH X.n 9901 none)]⟩) (ids:=[(9901,9901),(9000,9000)]) (fun _ _ _ _ _ j x X f h=>?_);refine kI hS h ?_ ?_<;>intro h
 ·obtain⟨c2,h⟩:=E6 h;obtain⟨c3,h⟩:=E6 h;refine Gb hS (And.intro c2 (by decide:(2:Nat)<=2)) 17 (.take 9000 (b.g x.toNat).Parent.toNat 9801) (⟨⟨by decide,rfl⟩,c3⟩:(1000<=9801/\X.n=X.n)/\(b.g x.toNat).Parent.toNat<X.n) ?_;refine Ih hS trivial (A7 hS) h 0 (fun z=>⟨[(11,pN x),(10,pN (b.n:Int)),(9,.p (vSl 2 B7 b)),(3,.vec 9000)],
   [(9901,(.rows X.n fun l=>if l=(b.g x.toNat).Parent.toNat then .dead else Et C0 1 (cI .i64) (X.g l))),(9801,Et C0 1 (cI .i64) z),(9000,.fam BH X.n 9901 (some ((b.g x.toNat).Parent.toNat,.vec 9801)))]⟩) (fun M k d h=>?_) (fun z h=>?_)
  ·refine kI hS h ?_ ?_<;>intro h
   ·obtain⟨c4,h⟩:=E6 h;refine L0 hS trivial [(0,.n),(1,.n),(2,.l [6000]),(3,.n),(4,.n),(5,.l [6000]),(6,.l [9000]),(7,.l [9000]),(8,.n),(10,.a [29000,9801]),(11,.l [9000]),(12,.a [9000])] ?_;refine BQ (And.intro c4.1 (And.intro c3 (rfl:(b.g x.toNat).Parent.toNat=(b.g x.toNat).Parent.toNat))) (x:=.sl true 1 1 (D8 [pI .i64 0] [(0,cI .i64 x)])) ?_;refine L7 (And.intro (And.intro c4.2 c4.1) (And.intro c3 (rfl:(b.g x.toNat).Parent.toNat=(b.g x.toNat).Parent.toNat))) ?_;exact d _ [(9901,9901),(9801,29000),(9000,9000)] _ ((X.g (b.g x.toNat).Parent.toNat).push x) trivial h (hle:=klR [(5,.fn ((X.g (b.g x.toNat).Parent.toNat).n+1) ((X.g (b.g x.toNat).Parent.toNat).push x).n (X3 (X.g (b.g x.toNat).Parent.toNat).n (fun i=>cI .i64 ((X.g (b.g x.toNat).Parent.toNat).g i)) (D8 [pI .i64 0] [(0,cI .i64 x)])) (fun i=>cI .i64 (((X.g (b.g x.toNat).Parent.toNat).push x).g i)))] (al1 ⟨rfl,Lf (c:=cI .i64) (v:=X.g (b.g x.toNat).Parent.toNat) (x:=x) (z:=[(pI .i64 0)]) same rfl rfl⟩ al0))
   ·exact d _ [(9901,9901),(9801,9801),(9000,9000)] _ (X.g (b.g x.toNat).Parent.toNat) trivial h
  ·refine Gb hS trivial 30 (.put 9000 9902) (⟨⟨by decide,rfl⟩,c3⟩:(1000<=9902/\X.n=X.n)/\(b.g x.toNat).Parent.toNat<X.n) ?_;exact f _ [(9901,9902),(9000,9000)] _ (wrap .i64 (x+1)) (X.upd (b.g x.toNat).Parent.toNat z) trivial h (hle:=klR [(4,.ob X.n (fun q=>if q=(b.g x.toNat).Parent.toNat then Et C0 1 (cI .i64) z else if q=(b.g x.toNat).Parent.toNat then .dead else Et C0 1 (cI .i64) (X.g q)) fun i=>Et C0 1 (cI .i64) ((X.upd (b.g x.toNat).Parent.toNat z).g i))] (al1 obPut al0))
 ·refine Gb hS trivial 31 (.pub 9000) (⟨rfl,fun i _=>rfl⟩:X.n=X.n/\∀i,i<X.n->(Ph (Et C0 1 (cI .i64) (X.g i))).isSome=true) ?_;obtain rfl:=C6 h;exact A9 hS trivial ⟨[(2,.p (vSl 1 (cL 1 (cI .i64)) X))],[]⟩ [] (ids:=[]) ⟨rfl,rfl,rfl⟩ (hle:=klR [(0,.fn X.n X.n (fun i=>[(Ph (Et C0 1 (cI .i64) (X.g i))).getD default]) (fun i=>cL 1 (cI .i64) (X.g i)))] (al1 ⟨rfl,fun _ _=>rfl⟩ al0))
end Go.AM
namespace Go.AM
open IntKind (wrap)
open Go.Proofs
set_option maxRecDepth 10000
set_option maxHeartbeats 2000000
variable {S:U5}(hS:F6 S Tryz.prog) (hL:JS S)
include hS hL
def Dr (N:Nat)(b:Sl E2):Option (Sl Int):=
 (Bq N b).bind fun y1=>
 AW N (fun a (x1:Sl Int) (x2:Int)=>
  if (decide (x2<(y1.n:Int))) then
   if ((0:Int)<=x2/\x2<(y1.n:Int))then
    if (((y1.g x2.toNat).n:Int)==0) then
     if ((x1.n+(Sl.of [x2]:Sl Int).n)*8<=140737488355328/\x1.n+(Sl.of [x2]:Sl Int).n<=140737488355328)then
      a (x1.push x2) (wrap .i64 (x2+1))
     else none
    else
     a x1 (wrap .i64 (x2+1))
   else none
  else
   some x1
  ) (Sl.nil:Sl Int) 0
theorem MP {N:Nat}{a:Sl E2}{y:Sl Int}(h:Dr N a=some y) :FunO S Gh [.p (vSl 2 B7 a)] [] (.vec 0) ([.vec C0 1 y.n (fun i=>cI .i64 (y.g i)) true]) []:=by
 unfold Dr at h;refine A4 hS Tryz.func80 ?_;refine kC hS h (JE hS hL) (fun y1 h=>?_);refine H7 hS trivial h (fun x1 x2=>⟨[(9,pN x2),(8,pN (y1.n:Int)),(7,.p (vSl 1 (cL 1 (cI .i64)) y1)),(3,.vec 4500)],[(4500,.vec C0 1 x1.n (fun i=>cI .i64 (x1.g i)) false)]⟩) (ids:=[]) (fun _ _ _ _ _ f x1 x2 d h=>?_);refine kI hS h ?_ ?_<;>intro h
 ·obtain⟨c8,h⟩:=E6 h;refine D6 hS c8 (b:=((y1.g x2.toNat).n:Int)==0) (fun c9=>?_) (fun c9=>?_)
  ·replace h:=itT c9 h;obtain⟨c10,h⟩:=E6 h;exact d _ [(4500,21000)] _ (x1.push x2) (wrap .i64 (x2+1)) (And.intro (rfl:true=true) c10) h (hle:=klR [(3,.fn (x1.n+1) (x1.push x2).n (X3 x1.n (fun i=>cI .i64 (x1.g i)) (D8 [pI .i64 0] [(0,cI .i64 x2)])) (fun i=>cI .i64 ((x1.push x2).g i)))] (al1 ⟨rfl,Lf (c:=cI .i64) (v:=x1) (x:=x2) (z:=[(pI .i64 0)]) same rfl rfl⟩ al0))
  ·replace h:=itF c9 h;exact d _ [(4500,4500)] _ x1 (wrap .i64 (x2+1)) trivial h
 ·obtain rfl:=C6 h;exact A9 hS trivial ⟨[(2,.vec 4500)],[(4500,.vec C0 1 x1.n (fun i=>cI .i64 (x1.g i)) true)]⟩ [4500] (ids:=[(4500,4500)]) ⟨rfl,rfl,rfl⟩
def G9 (N:Nat)(a:Sl E2):Option ((Sl Int)×Int):=
 (S3 N a).bind fun y1=>
 if (y1 != 0) then
  some ((Sl.nil:Sl Int),y1)
 else
  (Dr N a).bind fun y2=>
  some (y2,0)
theorem Ds {N:Nat}{a:Sl E2}{y:(Sl Int)×Int}(h:G9 N a=some y) :FunO S Gd [.p (vSl 2 B7 a)] [] (.tup [.vec 0,pN y.2]) ([.vec C0 1 y.1.n (fun i=>cI .i64 (y.1.g i)) true]) []:=by
 unfold G9 at h;refine A4 hS Tryz.func31 ?_;refine kC hS h (HJ hS hL) (fun y1 h=>?_);refine kI hS h ?_ ?_<;>intro h
 ·obtain rfl:=C6 h;exact A9 hS trivial ⟨[(3,pN y1),(2,.vec 3700)],[(3700,.vec C0 1 (Sl.nil:Sl Int).n (fun i=>cI .i64 ((Sl.nil:Sl Int).g i)) true)]⟩ [3700] (ids:=[]) ⟨rfl,rfl,rfl⟩
 ·refine kC hS h (MP hS hL) (fun y2 h=>?_);obtain rfl:=C6 h;exact A9 hS trivial ⟨[(3,pN 0),(2,.vec 12000)],[(12000,.vec C0 1 y2.n (fun i=>cI .i64 (y2.g i)) true)]⟩ [12000] (ids:=[(12000,12000)]) ⟨rfl,rfl,rfl⟩
end Go.AM
namespace Go.AM
open IntKind (wrap)
open Go.Proofs
set_option maxRecDepth 10000
set_option maxHeartbeats 2000000
variable {S:U5}(hS:F6 S Tryz.prog) (hL:JS S)
include hS hL
def S5 (N:Nat)(a:Sl Int)(b:Sl Int):Option Bool:=
 if ((a.n:Int) != (b.n:Int)) then
  some false
 else
  Q6 N (fun c (x1:Int)=>
   if (decide (x1<(a.n:Int))) then
    if (((0:Int)<=x1/\x1<(a.n:Int))/\((0:Int)<=x1/\x1<(b.n:Int)))then
     if ((a.g x1.toNat) != (b.g x1.toNat)) then
      some false
     else
      c (wrap .i64 (x1+1))
    else none
   else
    some true
   ) 0
theorem Dt {N:Nat}{a:Sl Int}{b:Sl Int}{y:Bool}(h:S5 N a b=some y) :FunO S Je [.p (vSl 1 (cI .i64) a),.p (vSl 1 (cI .i64) b)] [] (pB y) ([]) []:=by
 unfold S5 at h;refine A4 hS Tryz.func34 ?_;refine kI hS h ?_ ?_<;>intro h
 ·cases h;exact kR hS
 ·refine O9 hS trivial h (fun x1=>⟨[(5,pN x1),(1,.p (vSl 1 (cI .i64) b)),(0,.p (vSl 1 (cI .i64) a))],[]⟩) (ids:=[]) (fun _ _ _ _ _ c x1 d h=>?_);refine kI hS h ?_ ?_<;>intro h
  ·refine G7 hS trivial [2,3,6,7] ?_;obtain⟨c9,h⟩:=E6 h;refine L7 c9 ?_;refine kI hS h ?_ ?_<;>intro h
   ·cases h;exact kR hS
   ·exact d _ [] _ (wrap .i64 (x1+1)) trivial h
  ·cases h;exact kR hS
def Ch (N:Nat)  : Option Sound:=
 some (⟨5,2⟩:Sound)
theorem Eu {N:Nat}    {y:Sound}(h:Ch N  = some y) :FunO S Ux [] [] (.p (.agg (A0 y))) ([]) []:=by unfold Ch at h;refine A4 hS Tryz.func35 ?_;cases h;exact kR hS
def MQ (N:Nat)  : Option Sound:=
 some (⟨2,5⟩:Sound)
theorem UG {N:Nat}    {y:Sound}(h:MQ N  = some y) :FunO S Uy [] [] (.p (.agg (A0 y))) ([]) []:=by unfold MQ at h;refine A4 hS Tryz.func36 ?_;cases h;exact kR hS
def He (N:Nat)  : Option Sound:=
 some (⟨3,4⟩:Sound)
theorem MR {N:Nat}    {y:Sound}(h:He N  = some y) :FunO S Uz [] [] (.p (.agg (A0 y))) ([]) []:=by unfold He at h;refine A4 hS Tryz.func49 ?_;cases h;exact kR hS
def Du (N:Nat)  : Option A5:=
 some (⟨(Sl.of [(⟨-1,[112,114,111,116,111]⟩:E2),(⟨0,[119,101,115,116]⟩:E2),(⟨0,[101,97,115,116]⟩:E2),(⟨1,[110,111,114,116,104]⟩:E2),(⟨1,[115,111,117,116,104]⟩:E2)]:Sl E2),(Sl.of [(⟨[118,111,105,99,105,110,103],Pat.mk 1 (⟨4,0⟩:Sound) false 0 0 (Sl.nil:Sl Pat).n (Sl.nil:Sl Pat).g,Pat.mk 1 (⟨4,0⟩:Sound) false 0 0 (Sl.nil:Sl Pat).n (Sl.nil:Sl Pat).g,(Sl.of [(⟨2,0⟩:Sound)]:Sl Sound),(Sl.of [(⟨0,0,(⟨1,0⟩:Sound),0,0⟩:Z4)]:Sl Z4),1⟩:Law),(⟨[97,112,111,99,111,112,101],Pat.mk 0 (⟨0,0⟩:Sound) false 0 0 (Sl.nil:Sl Pat).n (Sl.nil:Sl Pat).g,Pat.mk 6 (⟨0,0⟩:Sound) false 0 0 (Sl.nil:Sl Pat).n (Sl.nil:Sl Pat).g,(Sl.of [(⟨4,0⟩:Sound)]:Sl Sound),(Sl.nil:Sl Z4),1⟩:Law)]:Sl Law),(Sl.of [(Sl.nil:Sl Int),(Sl.of [0]:Sl Int),(Sl.of [1,0]:Sl Int),(Sl.of [1]:Sl Int),(Sl.nil:Sl Int)]:Sl (Sl Int))⟩:A5)
theorem MS {N:Nat}    {y:A5}(h:Du N  = some y) :FunO S Ge [] [] (.p (.agg (A2 y))) ([]) []:=by unfold Du at h;refine A4 hS Tryz.func47 ?_;refine I9 hS (rfl:true=true) 10 ⟨[(9,.vec 10000),(1,.reg 2000 0),(0,.reg 1000 0)],[(10000,.vec G2 2 (Sl.of [(⟨-1,[112,114,111,116,111]⟩:E2),(⟨0,[119,101,115,116]⟩:E2),(⟨0,[101,97,115,116]⟩:E2),(⟨1,[110,111,114,116,104]⟩:E2),(⟨1,[115,111,117,116,104]⟩:E2)]:Sl E2).n (fun i=>B7 ((Sl.of [(⟨-1,[112,114,111,116,111]⟩:E2),(⟨0,[119,101,115,116]⟩:E2),(⟨0,[101,97,115,116]⟩:E2),(⟨1,[110,111,114,116,104]⟩:E2),(⟨1,[115,111,117,116,104]⟩:E2)]:Sl E2).g i)) false),(2000,.cells [pN 1,pU 4,pU 0,pB false,pN 0,pN 0,.p (vSl 7 B2 (Sl.nil:Sl Pat))]),(1000,.cells [.p E1,.p E1,.p E1])]⟩ (ids:=[(1000,1000),(2000,2000),(10000,10000)]) ?_ (hle:=klR [(0,.fn 5 (Sl.of [(⟨-1,[112,114,111,116,111]⟩:E2),(⟨0,[119,101,115,116]⟩:E2),(⟨0,[101,97,115,116]⟩:E2),(⟨1,[110,111,114,116,104]⟩:E2),(⟨1,[115,111,117,116,104]⟩:E2)]:Sl E2).n (D8 [pI .i64 0,.str []] [(0,B7 (⟨-1,[112,114,111,116,111]⟩:E2)),(1,B7 (⟨0,[119,101,115,116]⟩:E2)),(2,B7 (⟨0,[101,97,115,116]⟩:E2)),(3,B7 (⟨1,[110,111,114,116,104]⟩:E2)),(4,B7 (⟨1,[115,111,117,116,104]⟩:E2))]) (fun i=>B7 ((Sl.of [(⟨-1,[112,114,111,116,111]⟩:E2),(⟨0,[119,101,115,116]⟩:E2),(⟨0,[101,97,115,116]⟩:E2),(⟨1,[110,111,114,116,104]⟩:E2),(⟨1,[115,111,117,116,104]⟩:E2)]:Sl E2).g i)))] (al1 ⟨rfl,(fun i a=>match i,a with|0,_=>rfl|1,_=>rfl|2,_=>rfl|3,_=>rfl|4,_=>rfl|_+5,a=>absurd a (by omega))⟩ al0));refine I9 hS (And.intro (rfl:true=true) (rfl:true=true)) 17 ⟨[(16,.p (vSl 6 O2 (Sl.of [(⟨0,0,(⟨1,0⟩:Sound),0,0⟩:Z4)]:Sl Z4))),(13,.p (vSl 2 A0 (Sl.of [(⟨2,0⟩:Sound)]:Sl Sound))),(11,.p (.agg [pI .i64 1,pI .u32 4,pI .u32 0,.bb false,pI .i64 0,pI .i64 0,vSl 7 B2 (Sl.nil:Sl Pat)])),(10,.p (.agg [pI .i64 1,pI .u32 4,pI .u32 0,.bb false,pI .i64 0,pI .i64 0,vSl 7 B2 (Sl.nil:Sl Pat)])),(9,.vec 10000),(0,.reg 1000 0)],[(10000,.vec G2 2 (Sl.of [(⟨-1,[112,114,111,116,111]⟩:E2),(⟨0,[119,101,115,116]⟩:E2),(⟨0,[101,97,115,116]⟩:E2),(⟨1,[110,111,114,116,104]⟩:E2),(⟨1,[115,111,117,116,104]⟩:E2)]:Sl E2).n (fun i=>B7 ((Sl.of [(⟨-1,[112,114,111,116,111]⟩:E2),(⟨0,[119,101,115,116]⟩:E2),(⟨0,[101,97,115,116]⟩:E2),(⟨1,[110,111,114,116,104]⟩:E2),(⟨1,[115,111,117,116,104]⟩:E2)]:Sl E2).g i)) false),(1000,.cells [.p E1,.p E1,.p E1])]⟩ (ids:=[(1000,1000),(10000,10000)]) ?_ (hle:=klR [(0,.fn 1 (Sl.of [(⟨0,0,(⟨1,0⟩:Sound),0,0⟩:Z4)]:Sl Z4).n (D8 [pI .i64 0,pI .u32 0,pI .u32 0,pI .u32 0,pI .u32 0,pI .i64 0] [(0,O2 (⟨0,0,(⟨1,0⟩:Sound),0,0⟩:Z4))]) (fun i=>O2 ((Sl.of [(⟨0,0,(⟨1,0⟩:Sound),0,0⟩:Z4)]:Sl Z4).g i))),(1,.fn 1 (Sl.of [(⟨2,0⟩:Sound)]:Sl Sound).n (D8 [pI .u32 0,pI .u32 0] [(0,A0 (⟨2,0⟩:Sound))]) (fun i=>A0 ((Sl.of [(⟨2,0⟩:Sound)]:Sl Sound).g i)))] (al1 ⟨rfl,(fun i a=>match i,a with|0,_=>rfl|_+1,a=>absurd a (by omega))⟩ (al1 ⟨rfl,(fun i a=>match i,a with|0,_=>rfl|_+1,a=>absurd a (by omega))⟩ al0)));refine I9 hS (rfl:true=true) 21 ⟨[(20,.p (vSl 2 A0 (Sl.of [(⟨4,0⟩:Sound)]:Sl Sound))),(18,.p (.agg [pI .i64 6,pI .u32 0,pI .u32 0,.v (.bool false),pI .i64 0,pI .i64 0,E1])),(17,.p (.agg [.str [118,111,105,99,105,110,103],pI .i64 1,pI .u32 4,pI .u32 0,.bb false,pI .i64 0,pI .i64 0,vSl 7 B2 (Sl.nil:Sl Pat),pI .i64 1,pI .u32 4,pI .u32 0,.bb false,pI .i64 0,pI .i64 0,vSl 7 B2 (Sl.nil:Sl Pat),vSl 2 A0 (Sl.of [(⟨2,0⟩:Sound)]:Sl Sound),vSl 6 O2 (Sl.of [(⟨0,0,(⟨1,0⟩:Sound),0,0⟩:Z4)]:Sl Z4),pI .i64 1])),(9,.vec 10000),(0,.reg 1000 0)],[(10000,.vec G2 2 (Sl.of [(⟨-1,[112,114,111,116,111]⟩:E2),(⟨0,[119,101,115,116]⟩:E2),(⟨0,[101,97,115,116]⟩:E2),(⟨1,[110,111,114,116,104]⟩:E2),(⟨1,[115,111,117,116,104]⟩:E2)]:Sl E2).n (fun i=>B7 ((Sl.of [(⟨-1,[112,114,111,116,111]⟩:E2),(⟨0,[119,101,115,116]⟩:E2),(⟨0,[101,97,115,116]⟩:E2),(⟨1,[110,111,114,116,104]⟩:E2),(⟨1,[115,111,117,116,104]⟩:E2)]:Sl E2).g i)) false),(1000,.cells [.p E1,.p E1,.p E1])]⟩ (ids:=[(1000,1000),(10000,10000)]) ?_ (hle:=klR [(0,.fn 1 (Sl.of [(⟨4,0⟩:Sound)]:Sl Sound).n (D8 [pI .u32 0,pI .u32 0] [(0,A0 (⟨4,0⟩:Sound))]) (fun i=>A0 ((Sl.of [(⟨4,0⟩:Sound)]:Sl Sound).g i)))] (al1 ⟨rfl,(fun i a=>match i,a with|0,_=>rfl|_+1,a=>absurd a (by omega))⟩ al0));refine Mn hS (rfl:true=true) 23 23000 (k:=18) (n:=2) (e:=P1) (vw:=false) (D8 [.str [],pI .i64 0,pI .u32 0,pI .u32 0,.v (.bool false),pI .i64 0,pI .i64 0,E1,pI .i64 0,pI .u32 0,pI .u32 0,.v (.bool false),pI .i64 0,pI .i64 0,E1,E1,E1,pI .i64 0] [(0,[.str [118,111,105,99,105,110,103],pI .i64 1,pI .u32 4,pI .u32 0,.bb false,pI .i64 0,pI .i64 0,vSl 7 B2 (Sl.nil:Sl Pat),pI .i64 1,pI .u32 4,pI .u32 0,.bb false,pI .i64 0,pI .i64 0,vSl 7 B2 (Sl.nil:Sl Pat),vSl 2 A0 (Sl.of [(⟨2,0⟩:Sound)]:Sl Sound),vSl 6 O2 (Sl.of [(⟨0,0,(⟨1,0⟩:Sound),0,0⟩:Z4)]:Sl Z4),pI .i64 1]),(1,[.str [97,112,111,99,111,112,101],pI .i64 0,pI .u32 0,pI .u32 0,.v (.bool false),pI .i64 0,pI .i64 0,E1,pI .i64 6,pI .u32 0,pI .u32 0,.v (.bool false),pI .i64 0,pI .i64 0,E1,vSl 2 A0 (Sl.of [(⟨4,0⟩:Sound)]:Sl Sound),E1,pI .i64 1])]) (fun i=>A8 ((Sl.of [(⟨[118,111,105,99,105,110,103],Pat.mk 1 (⟨4,0⟩:Sound) false 0 0 (Sl.nil:Sl Pat).n (Sl.nil:Sl Pat).g,Pat.mk 1 (⟨4,0⟩:Sound) false 0 0 (Sl.nil:Sl Pat).n (Sl.nil:Sl Pat).g,(Sl.of [(⟨2,0⟩:Sound)]:Sl Sound),(Sl.of [(⟨0,0,(⟨1,0⟩:Sound),0,0⟩:Z4)]:Sl Z4),1⟩:Law),(⟨[97,112,111,99,111,112,101],Pat.mk 0 (⟨0,0⟩:Sound) false 0 0 (Sl.nil:Sl Pat).n (Sl.nil:Sl Pat).g,Pat.mk 6 (⟨0,0⟩:Sound) false 0 0 (Sl.nil:Sl Pat).n (Sl.nil:Sl Pat).g,(Sl.of [(⟨4,0⟩:Sound)]:Sl Sound),(Sl.nil:Sl Z4),1⟩:Law)]:Sl Law).g i)) (fun i a=>match i,a with|0,_=>(Bw (.inl rfl) (Bw (.inl rfl) (Bw (.inl rfl) (Bw (.inl rfl) (Bw (.inl rfl) (Bw (.inl rfl) (Bw (.inl rfl) (Bw (.inl rfl) (Bw (.inl rfl) (Bw (.inl rfl) (Bw (.inl rfl) (Bw (.inl rfl) (Bw (.inl rfl) (Bw (.inl rfl) (Bw (.inl rfl) (Bw (.inl rfl) (Bw (.inl rfl) (Bw (.inl rfl) Zn))))))))))))))))))|1,_=>(Bw (.inl rfl) (Bw (.inl rfl) (Bw (.inl rfl) (Bw (.inl rfl) (Bw lePT (Bw (.inl rfl) (Bw (.inl rfl) (Bw VE (Bw (.inl rfl) (Bw (.inl rfl) (Bw (.inl rfl) (Bw lePT (Bw (.inl rfl) (Bw (.inl rfl) (Bw VE (Bw (.inl rfl) (Bw VE (Bw (.inl rfl) Zn))))))))))))))))))|_+2,a=>absurd a (by omega)) ?_;refine I9 hS (And.intro (And.intro (rfl:true=true) (rfl:true=true)) (rfl:true=true)) 26 ⟨[(25,.vec 26000),(24,.vec 25000),(23,.vec 24000),(22,.vec 23000),(9,.vec 10000),(0,.reg 1000 0)],[(26000,.vec C0 1 (Sl.of [1]:Sl Int).n (fun i=>cI .i64 ((Sl.of [1]:Sl Int).g i)) true),(25000,.vec C0 1 (Sl.of [1,0]:Sl Int).n (fun i=>cI .i64 ((Sl.of [1,0]:Sl Int).g i)) true),(24000,.vec C0 1 (Sl.of [0]:Sl Int).n (fun i=>cI .i64 ((Sl.of [0]:Sl Int).g i)) true),(23000,.vec P1 18 (Sl.of [(⟨[118,111,105,99,105,110,103],Pat.mk 1 (⟨4,0⟩:Sound) false 0 0 (Sl.nil:Sl Pat).n (Sl.nil:Sl Pat).g,Pat.mk 1 (⟨4,0⟩:Sound) false 0 0 (Sl.nil:Sl Pat).n (Sl.nil:Sl Pat).g,(Sl.of [(⟨2,0⟩:Sound)]:Sl Sound),(Sl.of [(⟨0,0,(⟨1,0⟩:Sound),0,0⟩:Z4)]:Sl Z4),1⟩:Law),(⟨[97,112,111,99,111,112,101],Pat.mk 0 (⟨0,0⟩:Sound) false 0 0 (Sl.nil:Sl Pat).n (Sl.nil:Sl Pat).g,Pat.mk 6 (⟨0,0⟩:Sound) false 0 0 (Sl.nil:Sl Pat).n (Sl.nil:Sl Pat).g,(Sl.of [(⟨4,0⟩:Sound)]:Sl Sound),(Sl.nil:Sl Z4),1⟩:Law)]:Sl Law).n (fun i=>A8 ((Sl.of [(⟨[118,111,105,99,105,110,103],Pat.mk 1 (⟨4,0⟩:Sound) false 0 0 (Sl.nil:Sl Pat).n (Sl.nil:Sl Pat).g,Pat.mk 1 (⟨4,0⟩:Sound) false 0 0 (Sl.nil:Sl Pat).n (Sl.nil:Sl Pat).g,(Sl.of [(⟨2,0⟩:Sound)]:Sl Sound),(Sl.of [(⟨0,0,(⟨1,0⟩:Sound),0,0⟩:Z4)]:Sl Z4),1⟩:Law),(⟨[97,112,111,99,111,112,101],Pat.mk 0 (⟨0,0⟩:Sound) false 0 0 (Sl.nil:Sl Pat).n (Sl.nil:Sl Pat).g,Pat.mk 6 (⟨0,0⟩:Sound) false 0 0 (Sl.nil:Sl Pat).n (Sl.nil:Sl Pat).g,(Sl.of [(⟨4,0⟩:Sound)]:Sl Sound),(Sl.nil:Sl Z4),1⟩:Law)]:Sl Law).g i)) false),(10000,.vec G2 2 (Sl.of [(⟨-1,[112,114,111,116,111]⟩:E2),(⟨0,[119,101,115,116]⟩:E2),(⟨0,[101,97,115,116]⟩:E2),(⟨1,[110,111,114,116,104]⟩:E2),(⟨1,[115,111,117,116,104]⟩:E2)]:Sl E2).n (fun i=>B7 ((Sl.of [(⟨-1,[112,114,111,116,111]⟩:E2),(⟨0,[119,101,115,116]⟩:E2),(⟨0,[101,97,115,116]⟩:E2),(⟨1,[110,111,114,116,104]⟩:E2),(⟨1,[115,111,117,116,104]⟩:E2)]:Sl E2).g i)) false),(1000,.cells [.p E1,.p E1,.p E1])]⟩ (ids:=[(1000,1000),(10000,10000),(23000,23000),(24000,24000),(25000,25000),(26000,26000)]) ?_ (hle:=klR [(0,.fn 1 (Sl.of [1]:Sl Int).n (D8 [pI .i64 0] [(0,cI .i64 1)]) (fun i=>cI .i64 ((Sl.of [1]:Sl Int).g i))),(1,.fn 2 (Sl.of [1,0]:Sl Int).n (D8 [pI .i64 0] [(0,cI .i64 1),(1,cI .i64 0)]) (fun i=>cI .i64 ((Sl.of [1,0]:Sl Int).g i))),(2,.fn 1 (Sl.of [0]:Sl Int).n (D8 [pI .i64 0] [(0,cI .i64 0)]) (fun i=>cI .i64 ((Sl.of [0]:Sl Int).g i)))] (al1 ⟨rfl,(fun i a=>match i,a with|0,_=>rfl|_+1,a=>absurd a (by omega))⟩ (al1 ⟨rfl,(fun i a=>match i,a with|0,_=>rfl|1,_=>rfl|_+2,a=>absurd a (by omega))⟩ (al1 ⟨rfl,(fun i a=>match i,a with|0,_=>rfl|_+1,a=>absurd a (by omega))⟩ al0))));refine Mn hS (rfl:true=true) 27 27000 (k:=1) (n:=5) (e:=BH) (vw:=false) (D8 [E1] [(0,[E1]),(1,cL 1 (cI .i64) (Sl.of [0]:Sl Int)),(2,cL 1 (cI .i64) (Sl.of [1,0]:Sl Int)),(3,cL 1 (cI .i64) (Sl.of [1]:Sl Int)),(4,[E1])]) (fun i=>cL 1 (cI .i64) ((Sl.of [(Sl.nil:Sl Int),(Sl.of [0]:Sl Int),(Sl.of [1,0]:Sl Int),(Sl.of [1]:Sl Int),(Sl.nil:Sl Int)]:Sl (Sl Int)).g i)) (fun i a=>match i,a with|0,_=>leCn|1,_=>leCr _|2,_=>leCr _|3,_=>leCr _|4,_=>leCn|_+5,a=>absurd a (by omega)) ?_;refine I9 hS trivial 27 ⟨[(26,.p (vSl 1 (cL 1 (cI .i64)) (Sl.of [(Sl.nil:Sl Int),(Sl.of [0]:Sl Int),(Sl.of [1,0]:Sl Int),(Sl.of [1]:Sl Int),(Sl.nil:Sl Int)]:Sl (Sl Int)))),(22,.p (vSl 18 A8 (Sl.of [(⟨[118,111,105,99,105,110,103],Pat.mk 1 (⟨4,0⟩:Sound) false 0 0 (Sl.nil:Sl Pat).n (Sl.nil:Sl Pat).g,Pat.mk 1 (⟨4,0⟩:Sound) false 0 0 (Sl.nil:Sl Pat).n (Sl.nil:Sl Pat).g,(Sl.of [(⟨2,0⟩:Sound)]:Sl Sound),(Sl.of [(⟨0,0,(⟨1,0⟩:Sound),0,0⟩:Z4)]:Sl Z4),1⟩:Law),(⟨[97,112,111,99,111,112,101],Pat.mk 0 (⟨0,0⟩:Sound) false 0 0 (Sl.nil:Sl Pat).n (Sl.nil:Sl Pat).g,Pat.mk 6 (⟨0,0⟩:Sound) false 0 0 (Sl.nil:Sl Pat).n (Sl.nil:Sl Pat).g,(Sl.of [(⟨4,0⟩:Sound)]:Sl Sound),(Sl.nil:Sl Z4),1⟩:Law)]:Sl Law))),(9,.p (vSl 2 B7 (Sl.of [(⟨-1,[112,114,111,116,111]⟩:E2),(⟨0,[119,101,115,116]⟩:E2),(⟨0,[101,97,115,116]⟩:E2),(⟨1,[110,111,114,116,104]⟩:E2),(⟨1,[115,111,117,116,104]⟩:E2)]:Sl E2))),(0,.reg 1000 0)],[(1000,.cells [.p E1,.p E1,.p E1])]⟩ (ids:=[(1000,1000)]) ?_;cases h;exact kR hS
def Ft (N:Nat)(a:Sl (Sl Sound))(b:Sl (Sl Sound)):Option Bool:=
 if ((a.n:Int) != (b.n:Int)) then
  some false
 else
  Q6 N (fun c (x1:Int)=>
   if (decide (x1<(a.n:Int))) then
    if (((0:Int)<=x1/\x1<(a.n:Int))/\((0:Int)<=x1/\x1<(b.n:Int)))then
     (Bm N (a.g x1.toNat) (b.g x1.toNat)).bind fun y3=>
     if (!y3) then
      some false
     else
      c (wrap .i64 (x1+1))
    else none
   else
    some true
   ) 0
theorem Qr {N:Nat}{a:Sl (Sl Sound)}{b:Sl (Sl Sound)}{y:Bool}(h:Ft N a b=some y) :FunO S Jb [.p (vSl 1 (cL 2 A0) a),.p (vSl 1 (cL 2 A0) b)] [] (pB y) ([]) []:=by
 unfold Ft at h;refine A4 hS Tryz.func21 ?_;refine kI hS h ?_ ?_<;>intro h
 ·cases h;exact kR hS
 ·refine O9 hS trivial h (fun x1=>⟨[(5,pN x1),(1,.p (vSl 1 (cL 2 A0) b)),(0,.p (vSl 1 (cL 2 A0) a))],[]⟩) (ids:=[]) (fun _ _ _ _ _ c x1 d h=>?_);refine kI hS h ?_ ?_<;>intro h
  ·refine G7 hS trivial [2,3,6,7,8] ?_;obtain⟨c9,h⟩:=E6 h;obtain⟨y3,e3,h⟩:=B9 h;refine X9 c9 (Fn hS hL e3) ?_;refine L7 trivial ?_;refine kI hS h ?_ ?_<;>intro h
   ·cases h;exact kR hS
   ·exact d _ [] _ (wrap .i64 (x1+1)) trivial h
  ·cases h;exact kR hS
def Br (N:Nat)(a:A5):Option Bool:=
 if (((decide (70<(a.Tree.n:Int)))||(decide (70<(a.Laws.n:Int))))||(decide (70<(a.On.n:Int)))) then
  some false
 else
  Q6 N (fun b (x1:Int)=>
   if (decide (x1<(a.On.n:Int))) then
    if ((0:Int)<=x1/\x1<(a.On.n:Int))then
     if (decide (70<((a.On.g x1.toNat).n:Int))) then
      some false
     else
      b (wrap .i64 (x1+1))
    else none
   else
    Q6 N (fun c (x3:Int)=>
     if (decide (x3<(a.Laws.n:Int))) then
      if (((0:Int)<=x3/\x3<(a.Laws.n:Int))/\((0:Int)<=x3/\x3<=(wrap .i64 (x3+1))/\(wrap .i64 (x3+1))<=(a.Laws.n:Int)))then
       (AX N (a.Laws.sub x3.toNat (wrap .i64 (x3+1)).toNat)).bind fun d=>
       lt (fun (z3:Bool)=>
        if z3 then
         some false
        else
         c (wrap .i64 (x3+1))
        ) fun k3=>
        if (decide (4<d)) then
         k3 true
        else
         if (decide (20<((a.Laws.g x3.toNat).If.n:Int))) then
          k3 true
         else
          if (decide (20<((a.Laws.g x3.toNat).Out.n:Int))) then
           k3 true
          else
           (Z8 N (a.Laws.g x3.toNat).Left).bind fun f=>
           if (decide (41<f)) then
            k3 true
           else
            (Z8 N (a.Laws.g x3.toNat).Right).bind fun i=>
            k3 (decide (41<i))
      else none
     else
      some true
     ) 0
   ) 0
theorem Qs {N:Nat}{c:A5}{y:Bool}(h:Br N c=some y) :FunO S IX [.p (.agg (A2 c))] [] (pB y) ([]) []:=by
 unfold Br at h;refine A4 hS Tryz.func12 ?_;refine kB hS (A7 hS) trivial trivial 11 (.o (.o (.a (decide (70<(c.Tree.n:Int)))) (.a (decide (70<(c.Laws.n:Int))))) (.a (decide (70<(c.On.n:Int))))) ?_;refine kI hS h ?_ ?_<;>intro h
 ·cases h;exact kR hS
 ·refine O9 hS trivial h (fun x1=>⟨[(3,pN x1),(1,.reg 2000 0)],[(2000,.cells ((A2 c).map .p))]⟩) (ids:=[(2000,2000)]) (fun _ _ _ _ _ f x1 i h=>?_);refine kI hS h ?_ ?_<;>intro h
  ·obtain⟨c9,h⟩:=E6 h;refine D6 hS c9 (b:=decide (70<((c.On.g x1.toNat).n:Int))) (fun c10=>?_) (fun c10=>?_)
   ·replace h:=itT c10 h;cases h;exact kR hS
   ·replace h:=itF c10 h;exact i _ [(2000,2000)] _ (wrap .i64 (x1+1)) trivial h
  ·refine O9 hS trivial h (fun x3=>⟨[(4,pN x3),(1,.reg 2000 0)],[(2000,.cells ((A2 c).map .p))]⟩) (ids:=[(2000,2000)]) (fun _ _ _ _ _ j x3 l h=>?_);refine kI hS h ?_ ?_<;>intro h
   ·obtain⟨c40,h⟩:=E6 h;obtain⟨q,e11,h⟩:=B9 h;refine C4 hS [] (And.intro (And.intro c40.1 (by decide:(18:Nat)<=18)) c40.2) (SV hS hL e11) ?_;refine Ih hS trivial (A7 hS) h 0 (fun z3=>⟨[(79,pB z3),(4,pN x3),(1,.reg 2000 0)],[(2000,.cells ((A2 c).map .p))]⟩) (fun M3 k3 d h=>?_) (fun z3 h=>?_)
    ·refine kG hS h (fun h=>?_) (fun h=>?_)
     ·exact d _ [(2000,2000)] _ true trivial h
     ·refine kG hS h (fun h=>?_) (fun h=>?_)
      ·exact d _ [(2000,2000)] _ true trivial h
      ·refine kG hS h (fun h=>?_) (fun h=>?_)
       ·exact d _ [(2000,2000)] _ true trivial h
       ·refine kC hS h (GY hS hL) (fun r h=>?_);refine kG hS h (fun h=>?_) (fun h=>?_)
        ·exact d _ [(2000,2000)] _ true trivial h
        ·refine kC hS h (GY hS hL) (fun m h=>?_);exact d _ [(2000,2000)] _ (decide (41<m)) trivial h
    ·refine kI hS h ?_ ?_<;>intro h
     ·cases h;exact kR hS
     ·exact l _ [(2000,2000)] _ (wrap .i64 (x3+1)) trivial h
   ·cases h;exact kR hS
def Bs (N:Nat)(a:Law):Option Bool:=
 (Br N (⟨(Sl.nil:Sl E2),(Sl.of [a]:Sl Law),(Sl.nil:Sl (Sl Int))⟩:A5)).bind fun y1=>
 some y1
theorem Qt {N:Nat}{a:Law}{y:Bool}(h:Bs N a=some y) :FunO S Jh [.p (.agg (A8 a))] [] (pB y) ([]) []:=by unfold Bs at h;refine A4 hS Tryz.func75 ?_;refine I9 hS (rfl:true=true) 5 ⟨[(4,.p (vSl 18 A8 (Sl.of [a]:Sl Law)))],[]⟩ (ids:=[]) ?_ (hle:=klR [(0,.fn 1 (Sl.of [a]:Sl Law).n (D8 [.str [],pI .i64 0,pI .u32 0,pI .u32 0,.v (.bool false),pI .i64 0,pI .i64 0,E1,pI .i64 0,pI .u32 0,pI .u32 0,.v (.bool false),pI .i64 0,pI .i64 0,E1,E1,E1,pI .i64 0] [(0,A8 a)]) (fun i=>A8 ((Sl.of [a]:Sl Law).g i)))] (al1 ⟨rfl,(fun i b=>match i,b with|0,_=>rfl|_+1,b=>absurd b (by omega))⟩ al0));obtain⟨y1,e1,h⟩:=B9 h;refine C4 hS [] trivial (FunO.le hS (args:=[(.p (.agg [E1,vSl 18 A8 (Sl.of [a]:Sl Law),E1]))]) (by exact⟨Xv (Bw VE (Bw (.inl rfl) (Bw VE Zn))),trivial⟩) (Qs hS hL e1)) ?_;cases h;exact kR hS
def At (N:Nat)(b:Sl Int)(a:Int):Option Int:=
 if (decide (a<(b.n:Int))) then
  if ((0:Int)<=a/\a<(b.n:Int))then
   some (wrap .i64 (b.g a.toNat))
  else none
 else
  some 0
theorem OH {N:Nat}{a:Sl Int}{b:Int}{y:Int}(h:At N a b=some y) :FunO S HA [.p (vSl 1 (cI .u16) a),pN b] [] (pN y) ([]) []:=by
 unfold At at h;refine A4 hS Tryz.func77 ?_;refine kI hS h ?_ ?_<;>intro h
 ·obtain⟨c2,h⟩:=E6 h;obtain rfl:=C6 h;exact WA hS c2 [] ⟨rfl,rfl,rfl⟩
 ·cases h;exact kR hS
def N7 (N:Nat)(a:Sl Int)(c:Int):Option Int:=
 Q6 N (fun b (x1:Int)=>
  if (decide (x1<(a.n:Int))) then
   if ((0:Int)<=x1/\x1<(a.n:Int))then
    if (c==(a.g x1.toNat)) then
     some x1
    else
     b (wrap .i64 (x1+1))
   else none
  else
   some (-1)
  ) 0
theorem Ci {N:Nat}{a:Sl Int}{c:Int}{y:Int}(h:N7 N a c=some y) :FunO S V2 [.p (vSl 1 (cI .i64) a),pN c] [] (pN y) ([]) []:=by
 unfold N7 at h;refine A4 hS Tryz.func112 ?_;refine O9 hS trivial h (fun x1=>⟨[(8,pN x1),(7,pN (a.n:Int)),(1,pN c),(0,.p (vSl 1 (cI .i64) a))],[]⟩) (ids:=[]) (fun _ _ _ _ _ d x1 f h=>?_);refine kI hS h ?_ ?_<;>intro h
 ·obtain⟨c8,h⟩:=E6 h;refine D6 hS c8 (b:=c==(a.g x1.toNat)) (fun c9=>?_) (fun c9=>?_)
  ·replace h:=itT c9 h;cases h;exact kR hS
  ·replace h:=itF c9 h;exact f _ [] _ (wrap .i64 (x1+1)) trivial h
 ·cases h;exact kR hS
def G3 (N:Nat)(a:Sl Int)(b:Int):Option Bool:=
 (N7 N a b).bind fun y1=>
 some (decide (0<=y1))
theorem Q4 {N:Nat}{a:Sl Int}{b:Int}{y:Bool}(h:G3 N a b=some y) :FunO S Q2 [.p (vSl 1 (cI .i64) a),pN b] [] (pB y) ([]) []:=by unfold G3 at h;refine A4 hS Tryz.func83 ?_;refine kC hS h (Ci hS hL) (fun y1 h=>?_);cases h;exact kR hS
def Bt (N:Nat)(a:A5)(b:Int):Option ((Sl Int)×Int):=
 (D1 N a).bind fun y1=>
 if (y1 != 0) then
  some ((Sl.nil:Sl Int),y1)
 else
  if ((decide (b<0))||(decide ((a.Laws.n:Int)<=b))) then
   some ((Sl.nil:Sl Int),3)
  else
   AW N (fun c (x5:Sl Int) (x6:Int)=>
    if (decide (x6<(a.Tree.n:Int))) then
     if (((0:Int)<=x6/\x6<(a.Tree.n:Int))/\((0:Int)<=x6/\x6<(a.On.n:Int)))then
      (G3 N (a.On.g x6.toNat) b).bind fun d=>
      lt (fun (z4:Bool)=>
       if z4 then
        if ((x5.n+(Sl.of [x6]:Sl Int).n)*8<=140737488355328/\x5.n+(Sl.of [x6]:Sl Int).n<=140737488355328)then
         c (x5.push x6) (wrap .i64 (x6+1))
        else none
       else
        c x5 (wrap .i64 (x6+1))
       ) fun k4=>
       if d then
        k4 true
       else
        (G3 N x5 (a.Tree.g x6.toNat).Parent).bind fun f=>
        k4 f
     else none
    else
     some (x5,0)
    ) (Sl.nil:Sl Int) 0
theorem JF {N:Nat}{d:A5}{b:Int}{y:(Sl Int)×Int}(h:Bt N d b=some y) :FunO S Ec [.p (.agg (A2 d)),pN b] [] (.tup [.vec 0,pN y.2]) ([.vec C0 1 y.1.n (fun i=>cI .i64 (y.1.g i)) true]) []:=by
 unfold Bt at h;refine A4 hS Tryz.func48 ?_;refine kC hS h (O4 hS hL) (fun y1 h=>?_);refine kI hS h ?_ ?_<;>intro h
 ·obtain rfl:=C6 h;exact A9 hS trivial ⟨[(5,pN y1),(4,.vec 5700)],[(5700,.vec C0 1 (Sl.nil:Sl Int).n (fun i=>cI .i64 ((Sl.nil:Sl Int).g i)) true)]⟩ [5700] (ids:=[]) ⟨rfl,rfl,rfl⟩
 ·refine kB hS (A7 hS) trivial trivial 6 (.o (.a (decide (b<0))) (.a (decide ((d.Laws.n:Int)<=b)))) ?_;refine kI hS h ?_ ?_<;>intro h
  ·obtain rfl:=C6 h;exact A9 hS trivial ⟨[(5,pN 3),(4,.vec 5700)],[(5700,.vec C0 1 (Sl.nil:Sl Int).n (fun i=>cI .i64 ((Sl.nil:Sl Int).g i)) true)]⟩ [5700] (ids:=[]) ⟨rfl,rfl,rfl⟩
  ·refine H7 hS trivial h (fun x5 x6=>⟨[(27,pN x6),(26,pN (d.Tree.n:Int)),(25,.p (vSl 2 B7 d.Tree)),(7,.vec 8501),(2,.reg 3000 0),(1,pN b)],[(8501,.vec C0 1 x5.n (fun i=>cI .i64 (x5.g i)) true),(3000,.cells ((A2 d).map .p))]⟩) (ids:=[(3000,3000)]) (fun _ _ _ _ _ l x5 x6 f h=>?_);refine kI hS h ?_ ?_<;>intro h
   ·obtain⟨c22,h⟩:=E6 h;obtain⟨q,e11,h⟩:=B9 h;refine C4 hS [] (And.intro (And.intro c22.1 (by decide:(2:Nat)<=2)) c22.2) (Q4 hS hL e11) ?_;refine Ih hS trivial (A7 hS) h 0 (fun z4=>⟨[(44,pB z4),(27,pN x6),(26,pN (d.Tree.n:Int)),(25,.p (vSl 2 B7 d.Tree)),(8,pN x6),(7,.vec 8501),(2,.reg 3000 0),(1,pN b)],[(8501,.vec C0 1 x5.n (fun i=>cI .i64 (x5.g i)) true),(3000,.cells ((A2 d).map .p))]⟩) (fun M4 k4 j h=>?_) (fun z4 h=>?_)
    ·refine kG hS h (fun h=>?_) (fun h=>?_)
     ·exact j _ [(3000,3000),(8501,8501)] _ true trivial h
     ·refine kC hS h (Q4 hS hL) (fun m h=>?_);exact j _ [(3000,3000),(8501,8501)] _ m trivial h
    ·refine kI hS h ?_ ?_<;>intro h
     ·obtain⟨c27,h⟩:=E6 h;exact f _ [(3000,3000),(8501,49000)] _ (x5.push x6) (wrap .i64 (x6+1)) (And.intro (rfl:true=true) c27) h (hle:=klR [(4,.fn (x5.n+1) (x5.push x6).n (X3 x5.n (fun i=>cI .i64 (x5.g i)) (D8 [pI .i64 0] [(0,cI .i64 x6)])) (fun i=>cI .i64 ((x5.push x6).g i)))] (al1 ⟨rfl,Lf (c:=cI .i64) (v:=x5) (x:=x6) (z:=[(pI .i64 0)]) same rfl rfl⟩ al0))
     ·exact f _ [(3000,3000),(8501,8501)] _ x5 (wrap .i64 (x6+1)) trivial h
   ·obtain rfl:=C6 h;exact A9 hS trivial ⟨[(5,pN 0),(4,.vec 8501)],[(8501,.vec C0 1 x5.n (fun i=>cI .i64 (x5.g i)) true)]⟩ [8501] (ids:=[(8501,8501)]) ⟨rfl,rfl,rfl⟩
def H0 (N:Nat)(a:A5)(c:Sl Sound):Option (Sl P8):=
 if ((0:Int)<=(a.Tree.n:Int)/\(a.Tree.n:Int)<=(a.Tree.n:Int)/\(a.Tree.n:Int)*32<=140737488355328/\(a.Tree.n:Int)<=140737488355328)then
  AW N (fun b (x1:Sl P8) (x2:Int)=>
   if (decide (x2<(a.Tree.n:Int))) then
    if ((0:Int)<=x2/\x2<(a.Tree.n:Int))then
     if ((decide (0<=(a.Tree.g x2.toNat).Parent))=true->(((0:Int)<=(a.Tree.g x2.toNat).Parent/\(a.Tree.g x2.toNat).Parent<(x1.n:Int))/\(a.Tree.g x2.toNat).Parent.toNat<x1.n))then
      if ((if (decide (0<=(a.Tree.g x2.toNat).Parent)) then (x1.g (a.Tree.g x2.toNat).Parent.toNat).e else 0)==0) then
       if ((0:Int)<=x2/\x2<(a.On.n:Int))then
        (Ag N a (a.On.g x2.toNat)).bind fun y5=>
        (Y3 N y5 (if (decide (0<=(a.Tree.g x2.toNat).Parent)) then (x1.g (a.Tree.g x2.toNat).Parent.toNat).w else c)).bind fun y6=>
        if (((0:Int)<=x2/\x2<(x1.n:Int))/\x2.toNat<x1.n)then
         b (x1.upd x2.toNat (⟨y6.1,y6.2⟩:P8)) (wrap .i64 (x2+1))
        else none
       else none
      else
       if (((0:Int)<=x2/\x2<(x1.n:Int))/\x2.toNat<x1.n)then
        b (x1.upd x2.toNat (⟨(if (decide (0<=(a.Tree.g x2.toNat).Parent)) then (x1.g (a.Tree.g x2.toNat).Parent.toNat).w else c),(if (decide (0<=(a.Tree.g x2.toNat).Parent)) then (x1.g (a.Tree.g x2.toNat).Parent.toNat).e else 0)⟩:P8)) (wrap .i64 (x2+1))
       else none
     else none
    else none
   else
    some x1
   ) (Sl.rep (a.Tree.n:Int).toNat (⟨(Sl.nil:Sl Sound),0⟩:P8):Sl P8) 0
 else none
theorem Dv {N:Nat}{a:A5}{d:Sl Sound}{y:Sl P8}(h:H0 N a d=some y) :FunO S Gg [.p (.agg (A2 a)),.p (vSl 2 A0 d)] [] (.vec 0) ([.vec D9 2 y.n (fun i=>H4 (y.g i)) true]) []:=by
 unfold H0 at h;refine A4 hS Tryz.func65 ?_;refine J8 hS trivial 4 3000 (A2 a) ?_;obtain⟨c1,h⟩:=E6 h;refine Mn hS c1 5 13000 (k:=2) (n:=(a.Tree.n:Int).toNat) (e:=D9) (vw:=false) (fun _=>[E1,pI .i64 0]) (fun i=>H4 ((Sl.rep (a.Tree.n:Int).toNat (⟨(Sl.nil:Sl Sound),0⟩:P8):Sl P8).g i)) (fun i r=>Bw VE (Bw (.inl rfl) Zn)) ?_;refine H7 hS trivial h (fun x1 x2=>⟨[(16,pN x2),(15,pN (a.Tree.n:Int)),(14,.p (vSl 2 B7 a.Tree)),(5,.vec 13000),(2,.p (.ptr (A2 a))),(1,.p (vSl 2 A0 d))],[(13000,.vec D9 2 x1.n (fun i=>H4 (x1.g i)) false)]⟩) (ids:=[(13000,13000)]) (fun _ _ _ _ _ q x1 x2 m h=>?_);refine kI hS h ?_ ?_<;>intro h
 ·obtain⟨c17,h⟩:=E6 h;refine J8 hS (And.intro c17 (by decide:(2:Nat)<=2)) 21 8000 [pI .i64 (a.Tree.g x2.toNat).Parent,.str (a.Tree.g x2.toNat).Name] ?_;obtain⟨c19,h⟩:=E6 h;obtain⟨t5,f⟩:∃x:Sl Sound,x=(if (decide (0<=(a.Tree.g x2.toNat).Parent)) then (x1.g (a.Tree.g x2.toNat).Parent.toNat).w else d):=⟨_,rfl⟩;obtain⟨t6,j⟩:∃x:Int,x=(if (decide (0<=(a.Tree.g x2.toNat).Parent)) then (x1.g (a.Tree.g x2.toNat).Parent.toNat).e else 0):=⟨_,rfl⟩;refine PL hS trivial (A7 hS) 0 ⟨[(16,pN x2),(15,pN (a.Tree.n:Int)),(14,.p (vSl 2 B7 a.Tree)),(8,.reg 9000 0),(6,pN x2),(5,.vec 13000),(2,.p (.ptr (A2 a))),(1,.p (vSl 2 A0 d))],[(13000,.vec D9 2 x1.n (fun i=>H4 (x1.g i)) false),(9000,.cells [.p (vSl 2 A0 t5),pN t6])]⟩ (fun M3 o=>?_) ?_
  ·refine D6 hS trivial (b:=decide (0<=(a.Tree.g x2.toNat).Parent)) (fun c20=>?_) (fun c20=>?_)
   ·exact o _ [(9000,9000),(13000,13000)] _ (And.intro (And.intro (c19 c20).1 (by decide:(2:Nat)<=2)) (c19 c20).2) (hle:=klR [(7,.fn (x1.g (a.Tree.g x2.toNat).Parent.toNat).w.n t5.n (fun i=>A0 ((x1.g (a.Tree.g x2.toNat).Parent.toNat).w.g i)) (fun i=>A0 (t5.g i))),(8,.eq (pI .i64 (x1.g (a.Tree.g x2.toNat).Parent.toNat).e) (pI .i64 t6))] (al1 (by have e:=f;simp only[c20,pm,if_true,if_false]at e;subst e;exact⟨rfl,fun _ _=>rfl⟩) (al1 (by simp only[f,j,c20,Leaf.ok,pm,if_true,if_false]) al0)))
   ·exact o _ [(9000,9000),(13000,13000)] _ trivial (hle:=klR [(7,.fn d.n t5.n (fun i=>A0 (d.g i)) (fun i=>A0 (t5.g i))),(8,.eq (pI .i64 0) (pI .i64 t6))] (al1 (by have e:=f;simp only[c20,pm,if_true,if_false]at e;subst e;exact⟨rfl,fun _ _=>rfl⟩) (al1 (by simp only[f,j,c20,Leaf.ok,pm,if_true,if_false]) al0)))
  ·subst j;subst f;refine kI hS h ?_ ?_<;>intro h
   ·refine G7 hS trivial [0,2,4,5,6,9] ?_;obtain⟨c22,h⟩:=E6 h;obtain⟨y5,e5,h⟩:=B9 h;refine X9 (And.intro (by decide:(3:Nat)<=3) c22) (EX hS hL e5) ?_;obtain⟨y6,e6,h⟩:=B9 h;refine X9 trivial (Ep hS hL e6) ?_;refine L7 trivial ?_;obtain⟨c23,h⟩:=E6 h;exact m _ [(13000,13000)] _ (x1.upd x2.toNat (⟨y6.1,y6.2⟩:P8)) (wrap .i64 (x2+1)) (And.intro c23.1 (And.intro (rfl:(2:Nat)=2) (And.intro c23.2 (by decide:(2:Nat)<=2)))) h (hle:=klR [(5,.fn x1.n (x1.upd x2.toNat (⟨y6.1,y6.2⟩:P8)).n (fun l=>if l=x2.toNat then splice ((fun i=>H4 (x1.g i)) l) 0 [vSl 2 A0 y6.1,pI .i64 y6.2]else (fun i=>H4 (x1.g i)) l) (fun i=>H4 ((x1.upd x2.toNat (⟨y6.1,y6.2⟩:P8)).g i)))] (al1 ⟨rfl,Tl (c:=H4) (v:=x1) (x:=(⟨y6.1,y6.2⟩:P8)) same (fun _=>by first|rfl|(dsimp only;split<;>rfl))⟩ al0))
   ·obtain⟨c24,h⟩:=E6 h;exact m _ [(13000,13000)] _ (x1.upd x2.toNat (⟨(if (decide (0<=(a.Tree.g x2.toNat).Parent)) then (x1.g (a.Tree.g x2.toNat).Parent.toNat).w else d),(if (decide (0<=(a.Tree.g x2.toNat).Parent)) then (x1.g (a.Tree.g x2.toNat).Parent.toNat).e else 0)⟩:P8)) (wrap .i64 (x2+1)) (And.intro c24.1 (And.intro (rfl:(2:Nat)=2) (And.intro c24.2 (by decide:(2:Nat)<=2)))) h (hle:=klR [(5,.fn x1.n (x1.upd x2.toNat (⟨(if (decide (0<=(a.Tree.g x2.toNat).Parent)) then (x1.g (a.Tree.g x2.toNat).Parent.toNat).w else d),(if (decide (0<=(a.Tree.g x2.toNat).Parent)) then (x1.g (a.Tree.g x2.toNat).Parent.toNat).e else 0)⟩:P8)).n (fun l=>if l=x2.toNat then splice ((fun i=>H4 (x1.g i)) l) 0 [vSl 2 A0 (if (decide (0<=(a.Tree.g x2.toNat).Parent)) then (x1.g (a.Tree.g x2.toNat).Parent.toNat).w else d),pI .i64 (if (decide (0<=(a.Tree.g x2.toNat).Parent)) then (x1.g (a.Tree.g x2.toNat).Parent.toNat).e else 0)]else (fun i=>H4 (x1.g i)) l) (fun i=>H4 ((x1.upd x2.toNat (⟨(if (decide (0<=(a.Tree.g x2.toNat).Parent)) then (x1.g (a.Tree.g x2.toNat).Parent.toNat).w else d),(if (decide (0<=(a.Tree.g x2.toNat).Parent)) then (x1.g (a.Tree.g x2.toNat).Parent.toNat).e else 0)⟩:P8)).g i)))] (al1 ⟨rfl,Tl (c:=H4) (v:=x1) (x:=(⟨(if (decide (0<=(a.Tree.g x2.toNat).Parent)) then (x1.g (a.Tree.g x2.toNat).Parent.toNat).w else d),(if (decide (0<=(a.Tree.g x2.toNat).Parent)) then (x1.g (a.Tree.g x2.toNat).Parent.toNat).e else 0)⟩:P8)) same (fun _=>by first|rfl|(dsimp only;split<;>rfl))⟩ al0))
 ·obtain rfl:=C6 h;exact A9 hS trivial ⟨[(4,.vec 13000)],[(13000,.vec D9 2 x1.n (fun i=>H4 (x1.g i)) true)]⟩ [13000] (ids:=[(13000,13000)]) ⟨rfl,rfl,rfl⟩
def Bu (N:Nat)(b:A5)(c:Sl Sound):Option ((Sl (Sl Sound))×Int):=
 (Y5 N b c).bind fun y1=>
 if (y1 != 0) then
  some ((Sl.nil:Sl (Sl Sound)),y1)
 else
  (H0 N b c).bind fun y2=>
  AW N (fun a (x1:Sl (Sl Sound)) (x2:Int)=>
   if (decide (x2<(y2.n:Int))) then
    if (((0:Int)<=x2/\x2<(y2.n:Int))/\x2.toNat<y2.n)then
     if ((y2.g x2.toNat).e != 0) then
      some ((Sl.nil:Sl (Sl Sound)),(y2.g x2.toNat).e)
     else
      (A6 N (y2.g x2.toNat).w).bind fun y5=>
      if ((x1.n+(Sl.of [y5]:Sl (Sl Sound)).n)*24<=140737488355328/\x1.n+(Sl.of [y5]:Sl (Sl Sound)).n<=140737488355328)then
       a (x1.push y5) (wrap .i64 (x2+1))
      else none
    else none
   else
    some (x1,0)
   ) (Sl.nil:Sl (Sl Sound)) 0
theorem JG {N:Nat}{a:A5}{b:Sl Sound}{y:(Sl (Sl Sound))×Int}(h:Bu N a b=some y) :FunO S DZ [.p (.agg (A2 a)),.p (vSl 2 A0 b)] [] (.tup [.vec 0,pN y.2]) ([.vec B1 1 y.1.n (fun i=>cL 2 A0 (y.1.g i)) true]) []:=by
 unfold Bu at h;refine A4 hS Tryz.func16 ?_;refine J8 hS trivial 4 3000 (A2 a) ?_;obtain⟨y1,e1,h⟩:=B9 h;refine C4 hS [] (by decide:(3:Nat)<=3) (Es hS hL e1) ?_;refine kI hS h ?_ ?_<;>intro h
 ·obtain rfl:=C6 h;exact A9 hS trivial ⟨[(5,pN y1),(4,.vec 5700)],[(5700,.vec B1 1 (Sl.nil:Sl (Sl Sound)).n (fun i=>cL 2 A0 ((Sl.nil:Sl (Sl Sound)).g i)) true)]⟩ [5700] (ids:=[]) ⟨rfl,rfl,rfl⟩
 ·obtain⟨y2,e2,h⟩:=B9 h;refine C4 hS [] (by decide:(3:Nat)<=3) (Dv hS hL e2) ?_;refine H7 hS trivial h (fun x1 x2=>⟨[(20,pN x2),(19,pN (y2.n:Int)),(18,.vec 19000),(7,.vec 8500)],[(19000,.vec D9 2 y2.n (fun i=>H4 (y2.g i)) true),(8500,.vec B1 1 x1.n (fun i=>cL 2 A0 (x1.g i)) false)]⟩) (ids:=[(19000,19000)]) (fun _ _ _ _ _ d x1 x2 f h=>?_);refine kI hS h ?_ ?_<;>intro h
  ·obtain⟨c9,h⟩:=E6 h;refine J8 hS (And.intro (And.intro c9.1 (by decide:(2:Nat)<=2)) c9.2) 24 10000 [vSl 2 A0 (y2.g x2.toNat).w,pI .i64 (y2.g x2.toNat).e] ?_;refine kI hS h ?_ ?_<;>intro h
   ·refine G7 hS trivial [1] ?_;refine L7 trivial ?_;obtain rfl:=C6 h;exact A9 hS trivial ⟨[(5,pN (y2.g x2.toNat).e),(4,.vec 5700)],[(5700,.vec B1 1 (Sl.nil:Sl (Sl Sound)).n (fun i=>cL 2 A0 ((Sl.nil:Sl (Sl Sound)).g i)) true)]⟩ [5700] (ids:=[]) ⟨rfl,rfl,rfl⟩
   ·refine kC hS h (F2 hS hL) (fun y5 h=>?_);obtain⟨c11,h⟩:=E6 h;exact f _ [(8500,35000),(19000,19000)] _ (x1.push y5) (wrap .i64 (x2+1)) (And.intro (rfl:true=true) c11) h (hle:=klR [(3,.fn (x1.n+1) (x1.push y5).n (X3 x1.n (fun i=>cL 2 A0 (x1.g i)) (D8 [E1] [(0,cL 2 A0 y5)])) (fun i=>cL 2 A0 ((x1.push y5).g i)))] (al1 ⟨rfl,Lf (c:=cL 2 A0) (v:=x1) (x:=y5) (z:=[E1]) same rfl rfl⟩ al0))
  ·obtain rfl:=C6 h;exact A9 hS trivial ⟨[(5,pN 0),(4,.vec 8500)],[(8500,.vec B1 1 x1.n (fun i=>cL 2 A0 (x1.g i)) true)]⟩ [8500] (ids:=[(8500,8500)]) ⟨rfl,rfl,rfl⟩
def AD (N:Nat)(b:A5)(c:Sl Sound):Option ((Sl (Sl Sound))×Int):=
 (Bu N b c).bind fun y1=>
 if (y1.2 != 0) then
  some ((Sl.nil:Sl (Sl Sound)),y1.2)
 else
  (G9 N b.Tree).bind fun y2=>
  AW N (fun a (x1:Sl (Sl Sound)) (x2:Int)=>
   if (decide (x2<(y2.1.n:Int))) then
    if ((((((0:Int)<=x2/\x2<(y2.1.n:Int))/\x2.toNat<y2.1.n)/\((0:Int)<=(y2.1.g x2.toNat)/\(y2.1.g x2.toNat)<(y1.1.n:Int)))/\(y2.1.g x2.toNat).toNat<y1.1.n)/\((x1.n+(Sl.of [y1.1.g (y2.1.g x2.toNat).toNat]:Sl (Sl Sound)).n)*24<=140737488355328/\x1.n+(Sl.of [y1.1.g (y2.1.g x2.toNat).toNat]:Sl (Sl Sound)).n<=140737488355328))then
     a (x1.push (y1.1.g (y2.1.g x2.toNat).toNat)) (wrap .i64 (x2+1))
    else none
   else
    some (x1,y2.2)
   ) (Sl.nil:Sl (Sl Sound)) 0
theorem HY {N:Nat}{a:A5}{b:Sl Sound}{y:(Sl (Sl Sound))×Int}(h:AD N a b=some y) :FunO S DB [.p (.agg (A2 a)),.p (vSl 2 A0 b)] [] (.tup [.vec 0,pN y.2]) ([.vec B1 1 y.1.n (fun i=>cL 2 A0 (y.1.g i)) true]) []:=by
 unfold AD at h;refine A4 hS Tryz.func18 ?_;refine kC hS h (JG hS hL) (fun y1 h=>?_);refine kI hS h ?_ ?_<;>intro h
 ·obtain rfl:=C6 h;exact A9 hS trivial ⟨[(5,pN y1.2),(4,.vec 5700)],[(5700,.vec B1 1 (Sl.nil:Sl (Sl Sound)).n (fun i=>cL 2 A0 ((Sl.nil:Sl (Sl Sound)).g i)) true)]⟩ [5700] (ids:=[]) ⟨rfl,rfl,rfl⟩
 ·refine kC hS h (Ds hS hL) (fun y2 h=>?_);refine H7 hS trivial h (fun x1 x2=>⟨[(29,pN x2),(28,pN (y2.1.n:Int)),(27,.vec 25000),(9,.vec 10500),(7,pN y2.2),(6,.vec 16000)],[(25000,.vec C0 1 y2.1.n (fun i=>cI .i64 (y2.1.g i)) true),(16000,.vec B1 1 y1.1.n (fun i=>cL 2 A0 (y1.1.g i)) true),(10500,.vec B1 1 x1.n (fun i=>cL 2 A0 (x1.g i)) false)]⟩) (ids:=[(16000,16000),(25000,25000)]) (fun _ _ _ _ _ d x1 x2 f h=>?_);refine kI hS h ?_ ?_<;>intro h
  ·obtain⟨c5,h⟩:=E6 h;exact f _ [(10500,40000),(16000,16000),(25000,25000)] _ (x1.push (y1.1.g (y2.1.g x2.toNat).toNat)) (wrap .i64 (x2+1)) (And.intro (And.intro (And.intro (And.intro (And.intro c5.1.1.1.1 c5.1.1.1.2) c5.1.1.2) c5.1.2) (rfl:true=true)) c5.2) h (hle:=klR [(5,.fn (x1.n+1) (x1.push (y1.1.g (y2.1.g x2.toNat).toNat)).n (X3 x1.n (fun i=>cL 2 A0 (x1.g i)) (D8 [E1] [(0,cL 2 A0 (y1.1.g (y2.1.g x2.toNat).toNat))])) (fun i=>cL 2 A0 ((x1.push (y1.1.g (y2.1.g x2.toNat).toNat)).g i)))] (al1 ⟨rfl,Lf (c:=cL 2 A0) (v:=x1) (x:=y1.1.g (y2.1.g x2.toNat).toNat) (z:=[E1]) same rfl rfl⟩ al0))
  ·obtain rfl:=C6 h;exact A9 hS trivial ⟨[(5,pN y2.2),(4,.vec 10500)],[(10500,.vec B1 1 x1.n (fun i=>cL 2 A0 (x1.g i)) true)]⟩ [10500] (ids:=[(10500,10500)]) ⟨rfl,rfl,rfl⟩
def Cj (N:Nat)(f:A5)(i:A5)(b:Sl (Sl Sound)):Option (Bool×Int):=
 (D1 N f).bind fun o=>
 if (o != 0) then
  some (false,o)
 else
  (D1 N i).bind fun q=>
  if (q != 0) then
   some (false,q)
  else
   if (decide (256<(b.n:Int))) then
    some (false,12)
   else
    Q6 N (fun j (x1:Int)=>
     if (decide (x1<(b.n:Int))) then
      if ((0:Int)<=x1/\x1<(b.n:Int))then
       (N3 N (b.g x1.toNat)).bind fun y5=>
       if (y5 != 0) then
        some (false,y5)
       else
        j (wrap .i64 (x1+1))
      else none
     else
      (G9 N f.Tree).bind fun y6=>
      (G9 N i.Tree).bind fun y7=>
      if ((y6.1.n:Int) != (y7.1.n:Int)) then
       some (false,2)
      else
       Q6 N (fun l (x6:Int)=>
        if (decide (x6<(b.n:Int))) then
         if ((0:Int)<=x6/\x6<(b.n:Int))then
          (H0 N f (b.g x6.toNat)).bind fun c=>
          (H0 N i (b.g x6.toNat)).bind fun d=>
          Q6 N (fun m (a:Int)=>
           if (decide (a<(y6.1.n:Int))) then
            if (((((((((0:Int)<=a/\a<(y6.1.n:Int))/\a.toNat<y6.1.n)/\((0:Int)<=(y6.1.g a.toNat)/\(y6.1.g a.toNat)<(c.n:Int)))/\(y6.1.g a.toNat).toNat<c.n)/\((0:Int)<=a/\a<(y7.1.n:Int)))/\a.toNat<y7.1.n)/\((0:Int)<=(y7.1.g a.toNat)/\(y7.1.g a.toNat)<(d.n:Int)))/\(y7.1.g a.toNat).toNat<d.n)then
             lt (fun (z9:Bool)=>
              if z9 then
               some (false,0)
              else
               m (wrap .i64 (a+1))
              ) fun k9=>
              if ((c.g (y6.1.g a.toNat).toNat).e != (d.g (y7.1.g a.toNat).toNat).e) then
               k9 true
              else
               (W9 N (c.g (y6.1.g a.toNat).toNat).w (d.g (y7.1.g a.toNat).toNat).w).bind fun r=>
               k9 (!r)
            else none
           else
            l (wrap .i64 (x6+1))
           ) 0
         else none
        else
         some (true,0)
        ) 0
     ) 0
theorem KB {N:Nat}{j:A5}{f:A5}{d:Sl (Sl Sound)}{y:Bool×Int}(h:Cj N j f d=some y) :FunO S EL [.p (.agg (A2 j)),.p (.agg (A2 f)),.p (vSl 1 (cL 2 A0) d)] [] (.tup [pB y.1,pN y.2]) ([]) []:=by
 unfold Cj at h;refine A4 hS Tryz.func23 ?_;refine J8 hS trivial 4 4000 (A2 j) ?_;refine J8 hS trivial 6 5000 (A2 f) ?_;refine WC hS (And.intro (by decide:(3:Nat)<=3) (by decide:(3:Nat)<=3)) 2 (unrT [fun t=>t=⟨[(28,pN 0),(27,.p (.agg [vSl 2 B7 j.Tree,vSl 18 A8 j.Laws,vSl 1 (cL 1 (cI .i64)) j.On,vSl 2 B7 f.Tree,vSl 18 A8 f.Laws,vSl 1 (cL 1 (cI .i64)) f.On])),(4,.p (.ptr (A2 f))),(3,.p (.ptr (A2 j))),(2,.p (vSl 1 (cL 2 A0) d))],[]⟩/\(
  (D1 N j).bind fun z=>
  if (z != 0) then
   some (false,z)
  else
   (D1 N f).bind fun v=>
   if (v != 0) then
    some (false,v)
   else
    if (decide (256<(d.n:Int))) then
     some (false,12)
    else
     Q6 N (fun q (x1:Int)=>
      if (decide (x1<(d.n:Int))) then
       if ((0:Int)<=x1/\x1<(d.n:Int))then
        (N3 N (d.g x1.toNat)).bind fun y5=>
        if (y5 != 0) then
         some (false,y5)
        else
         q (wrap .i64 (x1+1))
       else none
      else
       (G9 N j.Tree).bind fun y6=>
       (G9 N f.Tree).bind fun y7=>
       if ((y6.1.n:Int) != (y7.1.n:Int)) then
        some (false,2)
       else
        Q6 N (fun r (x6:Int)=>
         if (decide (x6<(d.n:Int))) then
          if ((0:Int)<=x6/\x6<(d.n:Int))then
           (H0 N j (d.g x6.toNat)).bind fun m=>
           (H0 N f (d.g x6.toNat)).bind fun o=>
           Q6 N (fun s (c:Int)=>
            if (decide (c<(y6.1.n:Int))) then
             if (((((((((0:Int)<=c/\c<(y6.1.n:Int))/\c.toNat<y6.1.n)/\((0:Int)<=(y6.1.g c.toNat)/\(y6.1.g c.toNat)<(m.n:Int)))/\(y6.1.g c.toNat).toNat<m.n)/\((0:Int)<=c/\c<(y7.1.n:Int)))/\c.toNat<y7.1.n)/\((0:Int)<=(y7.1.g c.toNat)/\(y7.1.g c.toNat)<(o.n:Int)))/\(y7.1.g c.toNat).toNat<o.n)then
              lt (fun (z9:Bool)=>
               if z9 then
                some (false,0)
               else
                s (wrap .i64 (c+1))
               ) fun k9=>
               if ((m.g (y6.1.g c.toNat).toNat).e != (o.g (y7.1.g c.toNat).toNat).e) then
                k9 true
               else
                (W9 N (m.g (y6.1.g c.toNat).toNat).w (o.g (y7.1.g c.toNat).toNat).w).bind fun u=>
                k9 (!u)
             else none
            else
             r (wrap .i64 (x6+1))
            ) 0
          else none
         else
          some (true,0)
         ) 0
      ) 0
  )=some y,fun t=>t=⟨[(28,pN 1),(27,.p (.agg [vSl 2 B7 j.Tree,vSl 18 A8 j.Laws,vSl 1 (cL 1 (cI .i64)) j.On,vSl 2 B7 f.Tree,vSl 18 A8 f.Laws,vSl 1 (cL 1 (cI .i64)) f.On])),(4,.p (.ptr (A2 f))),(3,.p (.ptr (A2 j))),(2,.p (vSl 1 (cL 2 A0) d))],[]⟩/\(
   (D1 N f).bind fun v=>
   if (v != 0) then
    some (false,v)
   else
    if (decide (256<(d.n:Int))) then
     some (false,12)
    else
     Q6 N (fun q (x1:Int)=>
      if (decide (x1<(d.n:Int))) then
       if ((0:Int)<=x1/\x1<(d.n:Int))then
        (N3 N (d.g x1.toNat)).bind fun y5=>
        if (y5 != 0) then
         some (false,y5)
        else
         q (wrap .i64 (x1+1))
       else none
      else
       (G9 N j.Tree).bind fun y6=>
       (G9 N f.Tree).bind fun y7=>
       if ((y6.1.n:Int) != (y7.1.n:Int)) then
        some (false,2)
       else
        Q6 N (fun r (x6:Int)=>
         if (decide (x6<(d.n:Int))) then
          if ((0:Int)<=x6/\x6<(d.n:Int))then
           (H0 N j (d.g x6.toNat)).bind fun m=>
           (H0 N f (d.g x6.toNat)).bind fun o=>
           Q6 N (fun s (c:Int)=>
            if (decide (c<(y6.1.n:Int))) then
             if (((((((((0:Int)<=c/\c<(y6.1.n:Int))/\c.toNat<y6.1.n)/\((0:Int)<=(y6.1.g c.toNat)/\(y6.1.g c.toNat)<(m.n:Int)))/\(y6.1.g c.toNat).toNat<m.n)/\((0:Int)<=c/\c<(y7.1.n:Int)))/\c.toNat<y7.1.n)/\((0:Int)<=(y7.1.g c.toNat)/\(y7.1.g c.toNat)<(o.n:Int)))/\(y7.1.g c.toNat).toNat<o.n)then
              lt (fun (z9:Bool)=>
               if z9 then
                some (false,0)
               else
                s (wrap .i64 (c+1))
               ) fun k9=>
               if ((m.g (y6.1.g c.toNat).toNat).e != (o.g (y7.1.g c.toNat).toNat).e) then
                k9 true
               else
                (W9 N (m.g (y6.1.g c.toNat).toNat).w (o.g (y7.1.g c.toNat).toNat).w).bind fun u=>
                k9 (!u)
             else none
            else
             r (wrap .i64 (x6+1))
            ) 0
          else none
         else
          some (true,0)
         ) 0
      ) 0
  )=some y,fun t=>t=⟨[(28,pN 2),(27,.p (.agg [vSl 2 B7 j.Tree,vSl 18 A8 j.Laws,vSl 1 (cL 1 (cI .i64)) j.On,vSl 2 B7 f.Tree,vSl 18 A8 f.Laws,vSl 1 (cL 1 (cI .i64)) f.On])),(4,.p (.ptr (A2 f))),(3,.p (.ptr (A2 j))),(2,.p (vSl 1 (cL 2 A0) d))],[]⟩/\(
   if (decide (256<(d.n:Int))) then
    some (false,12)
   else
    Q6 N (fun q (x1:Int)=>
     if (decide (x1<(d.n:Int))) then
      if ((0:Int)<=x1/\x1<(d.n:Int))then
       (N3 N (d.g x1.toNat)).bind fun y5=>
       if (y5 != 0) then
        some (false,y5)
       else
        q (wrap .i64 (x1+1))
      else none
     else
      (G9 N j.Tree).bind fun y6=>
      (G9 N f.Tree).bind fun y7=>
      if ((y6.1.n:Int) != (y7.1.n:Int)) then
       some (false,2)
      else
       Q6 N (fun r (x6:Int)=>
        if (decide (x6<(d.n:Int))) then
         if ((0:Int)<=x6/\x6<(d.n:Int))then
          (H0 N j (d.g x6.toNat)).bind fun m=>
          (H0 N f (d.g x6.toNat)).bind fun o=>
          Q6 N (fun s (c:Int)=>
           if (decide (c<(y6.1.n:Int))) then
            if (((((((((0:Int)<=c/\c<(y6.1.n:Int))/\c.toNat<y6.1.n)/\((0:Int)<=(y6.1.g c.toNat)/\(y6.1.g c.toNat)<(m.n:Int)))/\(y6.1.g c.toNat).toNat<m.n)/\((0:Int)<=c/\c<(y7.1.n:Int)))/\c.toNat<y7.1.n)/\((0:Int)<=(y7.1.g c.toNat)/\(y7.1.g c.toNat)<(o.n:Int)))/\(y7.1.g c.toNat).toNat<o.n)then
             lt (fun (z9:Bool)=>
              if z9 then
               some (false,0)
              else
               s (wrap .i64 (c+1))
              ) fun k9=>
              if ((m.g (y6.1.g c.toNat).toNat).e != (o.g (y7.1.g c.toNat).toNat).e) then
               k9 true
              else
               (W9 N (m.g (y6.1.g c.toNat).toNat).w (o.g (y7.1.g c.toNat).toNat).w).bind fun u=>
               k9 (!u)
            else none
           else
            r (wrap .i64 (x6+1))
           ) 0
         else none
        else
         some (true,0)
        ) 0
     ) 0
  )=some y]) ⟨[(28,pN 0),(27,.p (.agg [vSl 2 B7 j.Tree,vSl 18 A8 j.Laws,vSl 1 (cL 1 (cI .i64)) j.On,vSl 2 B7 f.Tree,vSl 18 A8 f.Laws,vSl 1 (cL 1 (cI .i64)) f.On])),(4,.p (.ptr (A2 f))),(3,.p (.ptr (A2 j))),(2,.p (vSl 1 (cL 2 A0) d))],[]⟩ (ids:=[]) ⟨rfl,h⟩ (fun _ _ _ _ i _ t hi ht a0=>?_)
 rcases i with _|_|_|i
 ·obtain⟨rfl,h⟩:=ht;refine D6 hS trivial (b:=decide ((0:Int)<2)) (fun c80=>?_) (fun c80=>?_)
  ·refine J8 hS (And.intro (by decide:(3:Nat)<=6) (by decide:(0:Int)<=0/\(0:Int)<2)) 31 10000 (A2 j) ?_;obtain⟨z,e33,h⟩:=B9 h;refine C4 hS [] (by decide:(3:Nat)<=3) (O4 hS hL e33) ?_;refine kI hS h ?_ ?_<;>intro h
   ·cases h;exact kR hS
   ·exact a0 _ [] _ _ trivial rfl ⟨rfl,h⟩
  ·exact Bool.noConfusion ((by decide:decide ((0:Int)<2)=true).symm.trans c80)
 ·obtain⟨rfl,h⟩:=ht;refine D6 hS trivial (b:=decide ((1:Int)<2)) (fun c78=>?_) (fun c78=>?_)
  ·refine J8 hS (And.intro (by decide:(3:Nat)<=3) (by decide:(0:Int)<=1/\(1:Int)<2)) 31 10000 (A2 f) ?_;obtain⟨v,e32,h⟩:=B9 h;refine C4 hS [] (by decide:(3:Nat)<=3) (O4 hS hL e32) ?_;refine kI hS h ?_ ?_<;>intro h
   ·cases h;exact kR hS
   ·exact a0 _ [] _ _ trivial rfl ⟨rfl,h⟩
  ·exact Bool.noConfusion ((by decide:decide ((1:Int)<2)=true).symm.trans c78)
 ·obtain⟨rfl,h⟩:=ht;refine D6 hS trivial (b:=decide ((2:Int)<2)) (fun c6=>?_) (fun c6=>?_)
  ·exact Bool.noConfusion ((by decide:decide ((2:Int)<2)=false).symm.trans c6)
  ·refine kI hS h ?_ ?_<;>intro h
   ·cases h;exact kR hS
   ·refine O9 hS trivial h (fun x1=>⟨[(42,pN x1),(41,pN (d.n:Int)),(40,.p (vSl 1 (cL 2 A0) d)),(4,.p (.ptr (A2 f))),(3,.p (.ptr (A2 j))),(2,.p (vSl 1 (cL 2 A0) d))],[]⟩) (ids:=[]) (fun _ _ _ _ _ q x1 a3 h=>?_);refine kI hS h ?_ ?_<;>intro h
    ·obtain⟨c15,h⟩:=E6 h;obtain⟨y5,e5,h⟩:=B9 h;refine C4 hS [] c15 (BI hS hL e5) ?_;refine kI hS h ?_ ?_<;>intro h
     ·cases h;exact kR hS
     ·exact a3 _ [] _ (wrap .i64 (x1+1)) trivial h
    ·refine kC hS h (Ds hS hL) (fun y6 h=>?_);refine kC hS h (Ds hS hL) (fun y7 h=>?_);refine kI hS h ?_ ?_<;>intro h
     ·cases h;exact kR hS
     ·refine O9 hS trivial h (fun x6=>⟨[(71,pN x6),(70,pN (d.n:Int)),(69,.p (vSl 1 (cL 2 A0) d)),(16,.vec 62000),(14,.vec 56000),(4,.p (.ptr (A2 f))),(3,.p (.ptr (A2 j)))],[(62000,.vec C0 1 y7.1.n (fun i=>cI .i64 (y7.1.g i)) true),(56000,.vec C0 1 y6.1.n (fun i=>cI .i64 (y6.1.g i)) true)]⟩) (ids:=[(56000,56000),(62000,62000)]) (fun _ _ _ _ _ r x6 a1 h=>?_);refine kI hS h ?_ ?_<;>intro h
      ·obtain⟨c59,h⟩:=E6 h;refine L0 hS c59 [(0,.n),(3,.n)] ?_;obtain⟨m,e24,h⟩:=B9 h;refine NV [] (by decide:(3:Nat)<=3) (Dv hS hL e24) ?_;obtain⟨o,e25,h⟩:=B9 h;refine NV [] (by decide:(3:Nat)<=3) (Dv hS hL e25) ?_;refine L7 trivial ?_;refine O9 hS trivial h (fun c=>⟨[(83,pN c),(82,pN (y6.1.n:Int)),(71,pN x6),(70,pN (d.n:Int)),(69,.p (vSl 1 (cL 2 A0) d)),(21,.vec 81000),(20,.vec 78000),(16,.vec 62000),(14,.vec 56000),(4,.p (.ptr (A2 f))),(3,.p (.ptr (A2 j)))],[(81000,.vec D9 2 o.n (fun i=>H4 (o.g i)) true),(78000,.vec D9 2 m.n (fun i=>H4 (m.g i)) true),(62000,.vec C0 1 y7.1.n (fun i=>cI .i64 (y7.1.g i)) true),(56000,.vec C0 1 y6.1.n (fun i=>cI .i64 (y6.1.g i)) true)]⟩) (ids:=[(56000,56000),(62000,62000),(78000,78000),(81000,81000)]) (fun _ _ _ _ _ s c a2 h=>?_);refine kI hS h ?_ ?_<;>intro h
       ·refine L0 hS trivial [(3,.l [56000]),(4,.l [56000]),(5,.l [78000]),(6,.l [78000]),(10,.l [62000]),(11,.l [62000]),(12,.l [81000]),(13,.l [81000]),(14,.a [24000]),(15,.a [25000]),(16,.a [24000]),(17,.a [25000])] ?_;obtain⟨c73,h⟩:=E6 h;refine L7 (And.intro (And.intro (And.intro (And.intro (And.intro (And.intro (And.intro (And.intro (And.intro c73.1.1.1.1.1.1.1 c73.1.1.1.1.1.1.2) c73.1.1.1.1.1.2) (by decide:(2:Nat)<=2)) c73.1.1.1.1.2) c73.1.1.1.2) c73.1.1.2) c73.1.2) (by decide:(2:Nat)<=2)) c73.2) ?_;refine J8 hS trivial 100 24000 [vSl 2 A0 (m.g (y6.1.g c.toNat).toNat).w,pI .i64 (m.g (y6.1.g c.toNat).toNat).e] ?_;refine J8 hS trivial 100 25000 [vSl 2 A0 (o.g (y7.1.g c.toNat).toNat).w,pI .i64 (o.g (y7.1.g c.toNat).toNat).e] ?_;refine Ih hS trivial (A7 hS) h 0 (fun z9=>⟨[(112,pB z9),(83,pN c),(82,pN (y6.1.n:Int)),(71,pN x6),(70,pN (d.n:Int)),(69,.p (vSl 1 (cL 2 A0) d)),(21,.vec 81000),(20,.vec 78000),(16,.vec 62000),(14,.vec 56000),(4,.p (.ptr (A2 f))),(3,.p (.ptr (A2 j)))],[(81000,.vec D9 2 o.n (fun i=>H4 (o.g i)) true),(78000,.vec D9 2 m.n (fun i=>H4 (m.g i)) true),(62000,.vec C0 1 y7.1.n (fun i=>cI .i64 (y7.1.g i)) true),(56000,.vec C0 1 y6.1.n (fun i=>cI .i64 (y6.1.g i)) true)]⟩) (fun M9 k9 x h=>?_) (fun z9 h=>?_)
        ·refine kG hS h (fun h=>?_) (fun h=>?_)
         ·exact x _ [(56000,56000),(62000,62000),(78000,78000),(81000,81000)] _ true trivial h
         ·refine kC hS h (OA hS hL) (fun u h=>?_);exact x _ [(56000,56000),(62000,62000),(78000,78000),(81000,81000)] _ (!u) trivial h
        ·refine kI hS h ?_ ?_<;>intro h
         ·cases h;exact kR hS
         ·exact a2 _ [(56000,56000),(62000,62000),(78000,78000),(81000,81000)] _ (wrap .i64 (c+1)) trivial h
       ·exact a1 _ [(56000,56000),(62000,62000)] _ (wrap .i64 (x6+1)) trivial h
      ·cases h;exact kR hS
 ·exact absurd hi (by omega)
def S6 (rec:Pat->Pat->Option Bool)(N:Nat)(a:Pat)(b:Pat):Option Bool:=
 if (a.Kind != b.Kind) then
  some false
 else
  if (((a.Is.Plus==b.Is.Plus)&&(a.Is.Minus==b.Is.Minus)) != true) then
   some false
  else
   if ((a.Not==b.Not) != true) then
    some false
   else
    if (a.Min != b.Min) then
     some false
    else
     if (a.Max != b.Max) then
      some false
     else
      if ((a.L.n:Int) != (b.L.n:Int)) then
       some false
      else
       Q6 N (fun c (x1:Int)=>
        if (decide (x1<(a.L.n:Int))) then
         if (((0:Int)<=x1/\x1<(a.L.n:Int))/\((0:Int)<=x1/\x1<(b.L.n:Int)))then
          (rec (a.L.g x1.toNat) (b.L.g x1.toNat)).bind fun y3=>
          if (!y3) then
           some false
          else
           c (wrap .i64 (x1+1))
         else none
        else
         some true
        ) 0
def T7:Nat->Pat->Pat->Option Bool
 |0=>fun _ _=>none
 |N+1=>S6 (T7 N) N
theorem KC {N:Nat}{rec:Pat->Pat->Option Bool}(d:∀{a:Pat}{c:Pat}{y:Bool},rec a c=some y->FunO S AP [.p (.agg (B2 a)),.p (.agg (B2 c))] [] (pB y) ([]) []){a:Pat}{c:Pat}{y:Bool}(h:S6 rec N a c=some y) :FunO S AP [.p (.agg (B2 a)),.p (.agg (B2 c))] [] (pB y) ([]) []:=by
 unfold S6 at h;refine A4 hS Tryz.func118 ?_;refine kG hS h (fun h=>?_) (fun h=>?_)
 ·cases h;exact kR hS
 ·refine Fl hS (by decide +kernel:Tt Tryz.prog B3=true) (b:=((a.Is.Plus==c.Is.Plus)&&(a.Is.Minus==c.Is.Minus)) != true) (fun c12=>?_) (fun c12=>?_)
  ·replace h:=itT c12 h;cases h;exact kR hS
  ·replace h:=itF c12 h;refine kG hS h (fun h=>?_) (fun h=>?_)
   ·cases h;exact kR hS
   ·refine kG hS h (fun h=>?_) (fun h=>?_)
    ·cases h;exact kR hS
    ·refine kG hS h (fun h=>?_) (fun h=>?_)
     ·cases h;exact kR hS
     ·refine I9 hS trivial 42 ⟨[(41,.p (vSl 7 B2 a.L)),(39,.p (.v (.bool false))),(3,.reg 4000 0),(2,.reg 3000 0)],[(4000,.cells [pN c.Kind,pU c.Is.Plus,pU c.Is.Minus,pB c.Not,pN c.Min,pN c.Max,.p (vSl 7 B2 c.L)]),(3000,.cells [pN a.Kind,pU a.Is.Plus,pU a.Is.Minus,pB a.Not,pN a.Min,pN a.Max,.p (vSl 7 B2 a.L)])]⟩ (ids:=[(3000,3000),(4000,4000)]) ?_ (hle:=klR [(0,.fn a.L.n a.L.n (Ak a) (fun i=>B2 (a.L.g i))),(8,.fn c.L.n c.L.n (Ak c) (fun i=>B2 (c.L.g i))),(15,.fn a.L.n a.L.n (Ak a) (fun i=>B2 (a.L.g i)))] (al1 ⟨rfl,Q1 a⟩ (al1 ⟨rfl,Q1 c⟩ (al1 ⟨rfl,Q1 a⟩ al0))));refine kI hS h ?_ ?_<;>intro h
      ·cases h;exact kR hS
      ·refine O9 hS trivial h (fun x1=>⟨[(5,pN x1),(3,.reg 4000 0),(2,.reg 3000 0)],[(4000,.cells [pN c.Kind,pU c.Is.Plus,pU c.Is.Minus,pB c.Not,pN c.Min,pN c.Max,.p (vSl 7 B2 c.L)]),(3000,.cells [pN a.Kind,pU a.Is.Plus,pU a.Is.Minus,pB a.Not,pN a.Min,pN a.Max,.p (vSl 7 B2 a.L)])]⟩) (ids:=[(3000,3000),(4000,4000)]) (fun _ _ _ _ _ f x1 j h=>?_);refine kI hS h ?_ ?_<;>intro h
       ·refine L0 hS trivial [(1,.l [3000]),(3,.n),(4,.n),(6,.l [4000]),(8,.n),(9,.n),(10,.n)] ?_;obtain⟨c24,h⟩:=E6 h;obtain⟨y3,e3,h⟩:=B9 h;refine X9 (And.intro (And.intro (And.intro c24.1 (by decide:(7:Nat)<=7)) c24.2) (by decide:(7:Nat)<=7)) (d e3) ?_;refine L7 trivial ?_;refine kI hS h ?_ ?_<;>intro h
        ·cases h;exact kR hS
        ·exact j _ [(3000,3000),(4000,4000)] _ (wrap .i64 (x1+1)) trivial h
       ·cases h;exact kR hS
theorem GA {N:Nat}{a:Pat}{b:Pat}{y:Bool}(h:T7 N a b=some y) :FunO S AP [.p (.agg (B2 a)),.p (.agg (B2 b))] [] (pB y) ([]) []:=by
 induction N generalizing a b y with
 |zero=>cases (show (none:Option Bool)=some y from h)
 |succ N ih=>exact KC hS hL (fun e=>ih e) h
def CG (N:Nat)(a:Law)(b:Law):Option Bool:=
 lt (fun (z1:Bool)=>
  if z1 then
   some false
  else
   Q6 N (fun c (x2:Int)=>
    if (decide (x2<(a.If.n:Int))) then
     if (((0:Int)<=x2/\x2<(a.If.n:Int))/\((0:Int)<=x2/\x2<(b.If.n:Int)))then
      if ((((a.If.g x2.toNat).Plus==(b.If.g x2.toNat).Plus)&&((a.If.g x2.toNat).Minus==(b.If.g x2.toNat).Minus)) != true) then
       some false
      else
       c (wrap .i64 (x2+1))
     else none
    else
     Q6 N (fun d (x3:Int)=>
      if (decide (x3<(a.Out.n:Int))) then
       if (((0:Int)<=x3/\x3<(a.Out.n:Int))/\((0:Int)<=x3/\x3<(b.Out.n:Int)))then
        if ((((a.Out.g x3.toNat).From==(b.Out.g x3.toNat).From)&&(((a.Out.g x3.toNat).Clear==(b.Out.g x3.toNat).Clear)&&(((a.Out.g x3.toNat).Set.Plus==(b.Out.g x3.toNat).Set.Plus)&&(((a.Out.g x3.toNat).Set.Minus==(b.Out.g x3.toNat).Set.Minus)&&(((a.Out.g x3.toNat).Take==(b.Out.g x3.toNat).Take)&&((a.Out.g x3.toNat).Of==(b.Out.g x3.toNat).Of)))))) != true) then
         some false
        else
         d (wrap .i64 (x3+1))
       else none
      else
       some true
      ) 0
    ) 0
  ) fun k1=>
  if ((a.Name==b.Name) != true) then
   k1 true
  else
   if (a.Mode != b.Mode) then
    k1 true
   else
    if ((a.If.n:Int) != (b.If.n:Int)) then
     k1 true
    else
     if ((a.Out.n:Int) != (b.Out.n:Int)) then
      k1 true
     else
      (T7 N a.Left b.Left).bind fun y3=>
      if (!y3) then
       k1 true
      else
       (T7 N a.Right b.Right).bind fun y4=>
       k1 (!y4)
theorem SX {N:Nat}{a:Law}{b:Law}{y:Bool}(h:CG N a b=some y) :FunO S Lq [.p (.agg (A8 a)),.p (.agg (A8 b))] [] (pB y) ([]) []:=by
 unfold CG at h;refine A4 hS Tryz.func87 ?_;refine J8 hS trivial 3 3000 (A8 a) ?_;refine J8 hS trivial 4 4000 (A8 b) ?_;refine Ih hS trivial (A7 hS) h 0 (fun z1=>⟨[(52,pB z1),(3,.p (.ptr (A8 b))),(2,.p (.ptr (A8 a)))],[]⟩) (fun M1 k1 c h=>?_) (fun z1 h=>?_)
 ·refine kG hS h (fun h=>?_) (fun h=>?_)
  ·exact c _ [] _ true trivial h
  ·refine kG hS h (fun h=>?_) (fun h=>?_)
   ·exact c _ [] _ true trivial h
   ·refine kG hS h (fun h=>?_) (fun h=>?_)
    ·exact c _ [] _ true trivial h
    ·refine kG hS h (fun h=>?_) (fun h=>?_)
     ·exact c _ [] _ true trivial h
     ·obtain⟨y3,e3,h⟩:=B9 h;refine C4 hS [] (And.intro (by decide:(7:Nat)<=17) (by decide:(7:Nat)<=17)) (GA hS hL e3) ?_;refine kG hS h (fun h=>?_) (fun h=>?_)
      ·exact c _ [] _ true trivial h
      ·obtain⟨y4,e4,h⟩:=B9 h;refine C4 hS [] (And.intro (by decide:(7:Nat)<=10) (by decide:(7:Nat)<=10)) (GA hS hL e4) ?_;exact c _ [] _ (!y4) trivial h
 ·refine kI hS h ?_ ?_<;>intro h
  ·cases h;exact kR hS
  ·refine O9 hS trivial h (fun x2=>⟨[(5,pN x2),(3,.p (.ptr (A8 b))),(2,.p (.ptr (A8 a)))],[]⟩) (ids:=[]) (fun _ _ _ _ _ d x2 f h=>?_);refine kI hS h ?_ ?_<;>intro h
   ·refine G7 hS trivial [1,3,4,6,8,9] ?_;obtain⟨c23,h⟩:=E6 h;refine L7 (And.intro (And.intro (And.intro (And.intro c23.1 (by decide:(2:Nat)<=2)) c23.2) (by decide:(2:Nat)<=2)) (by decide +kernel:Tt Tryz.prog B3=true)) ?_;refine kI hS h ?_ ?_<;>intro h
    ·cases h;exact kR hS
    ·exact f _ [] _ (wrap .i64 (x2+1)) trivial h
   ·refine O9 hS trivial h (fun x3=>⟨[(6,pN x3),(3,.p (.ptr (A8 b))),(2,.p (.ptr (A8 a)))],[]⟩) (ids:=[]) (fun _ _ _ _ _ g x3 i h=>?_);refine kI hS h ?_ ?_<;>intro h
    ·refine G7 hS trivial [1,3,4,6,8,9] ?_;obtain⟨c32,h⟩:=E6 h;refine L7 (And.intro (And.intro (And.intro (And.intro c32.1 (by decide:(6:Nat)<=6)) c32.2) (by decide:(6:Nat)<=6)) (by decide +kernel:Tt Tryz.prog Ox=true)) ?_;refine kI hS h ?_ ?_<;>intro h
     ·cases h;exact kR hS
     ·exact i _ [] _ (wrap .i64 (x3+1)) trivial h
    ·cases h;exact kR hS
def CH (N:Nat)(a:Sl Law)(b:Sl Law):Option Bool:=
 if ((a.n:Int) != (b.n:Int)) then
  some false
 else
  Q6 N (fun c (x1:Int)=>
   if (decide (x1<(a.n:Int))) then
    if (((0:Int)<=x1/\x1<(a.n:Int))/\((0:Int)<=x1/\x1<(b.n:Int)))then
     (CG N (a.g x1.toNat) (b.g x1.toNat)).bind fun y3=>
     if (!y3) then
      some false
     else
      c (wrap .i64 (x1+1))
    else none
   else
    some true
   ) 0
theorem SY {N:Nat}{a:Sl Law}{b:Sl Law}{y:Bool}(h:CH N a b=some y) :FunO S Ln [.p (vSl 18 A8 a),.p (vSl 18 A8 b)] [] (pB y) ([]) []:=by
 unfold CH at h;refine A4 hS Tryz.func55 ?_;refine kI hS h ?_ ?_<;>intro h
 ·cases h;exact kR hS
 ·refine O9 hS trivial h (fun x1=>⟨[(5,pN x1),(1,.p (vSl 18 A8 b)),(0,.p (vSl 18 A8 a))],[]⟩) (ids:=[]) (fun _ _ _ _ _ c x1 d h=>?_);refine kI hS h ?_ ?_<;>intro h
  ·refine G7 hS trivial [2,3,6,7,8] ?_;obtain⟨c9,h⟩:=E6 h;obtain⟨y3,e3,h⟩:=B9 h;refine X9 (And.intro (And.intro (And.intro c9.1 (by decide:(18:Nat)<=18)) c9.2) (by decide:(18:Nat)<=18)) (SX hS hL e3) ?_;refine L7 trivial ?_;refine kI hS h ?_ ?_<;>intro h
   ·cases h;exact kR hS
   ·exact d _ [] _ (wrap .i64 (x1+1)) trivial h
  ·cases h;exact kR hS
def X0 (N:Nat)(a:A5)(b:A5):Option Bool:=
 lt (fun (z1:Bool)=>
  if z1 then
   some false
  else
   Q6 N (fun c (x2:Int)=>
    if (decide (x2<(a.Tree.n:Int))) then
     if (((0:Int)<=x2/\x2<(a.Tree.n:Int))/\((0:Int)<=x2/\x2<(b.Tree.n:Int)))then
      if ((((a.Tree.g x2.toNat).Parent==(b.Tree.g x2.toNat).Parent)&&((a.Tree.g x2.toNat).Name==(b.Tree.g x2.toNat).Name)) != true) then
       some false
      else
       c (wrap .i64 (x2+1))
     else none
    else
     Q6 N (fun d (x3:Int)=>
      if (decide (x3<(a.On.n:Int))) then
       if (((0:Int)<=x3/\x3<(a.On.n:Int))/\((0:Int)<=x3/\x3<(b.On.n:Int)))then
        (S5 N (a.On.g x3.toNat) (b.On.g x3.toNat)).bind fun y5=>
        if (!y5) then
         some false
        else
         d (wrap .i64 (x3+1))
       else none
      else
       some true
      ) 0
    ) 0
  ) fun k1=>
  if ((a.Tree.n:Int) != (b.Tree.n:Int)) then
   k1 true
  else
   if ((a.On.n:Int) != (b.On.n:Int)) then
    k1 true
   else
    (CH N a.Laws b.Laws).bind fun y2=>
    k1 (!y2)
theorem Lu {N:Nat}{a:A5}{b:A5}{y:Bool}(h:X0 N a b=some y) :FunO S Lm [.p (.agg (A2 a)),.p (.agg (A2 b))] [] (pB y) ([]) []:=by
 unfold X0 at h;refine A4 hS Tryz.func28 ?_;refine J8 hS trivial 3 3000 (A2 a) ?_;refine J8 hS trivial 4 4000 (A2 b) ?_;refine Ih hS trivial (A7 hS) h 0 (fun z1=>⟨[(30,pB z1),(3,.p (.ptr (A2 b))),(2,.p (.ptr (A2 a)))],[]⟩) (fun M1 k1 c h=>?_) (fun z1 h=>?_)
 ·refine kG hS h (fun h=>?_) (fun h=>?_)
  ·exact c _ [] _ true trivial h
  ·refine kG hS h (fun h=>?_) (fun h=>?_)
   ·exact c _ [] _ true trivial h
   ·refine kC hS h (SY hS hL) (fun y2 h=>?_);exact c _ [] _ (!y2) trivial h
 ·refine kI hS h ?_ ?_<;>intro h
  ·cases h;exact kR hS
  ·refine O9 hS trivial h (fun x2=>⟨[(5,pN x2),(3,.p (.ptr (A2 b))),(2,.p (.ptr (A2 a)))],[]⟩) (ids:=[]) (fun _ _ _ _ _ d x2 f h=>?_);refine kI hS h ?_ ?_<;>intro h
   ·refine G7 hS trivial [1,3,4,6,8,9] ?_;obtain⟨c15,h⟩:=E6 h;refine L7 (And.intro (And.intro (And.intro (And.intro c15.1 (by decide:(2:Nat)<=2)) c15.2) (by decide:(2:Nat)<=2)) (by decide +kernel:Tt Tryz.prog G2=true)) ?_;refine kI hS h ?_ ?_<;>intro h
    ·cases h;exact kR hS
    ·exact f _ [] _ (wrap .i64 (x2+1)) trivial h
   ·refine O9 hS trivial h (fun x3=>⟨[(6,pN x3),(3,.p (.ptr (A2 b))),(2,.p (.ptr (A2 a)))],[]⟩) (ids:=[]) (fun _ _ _ _ _ g x3 i h=>?_);refine kI hS h ?_ ?_<;>intro h
    ·refine G7 hS trivial [1,3,4,6,8,9,10] ?_;obtain⟨c24,h⟩:=E6 h;obtain⟨y5,e5,h⟩:=B9 h;refine X9 c24 (Dt hS hL e5) ?_;refine L7 trivial ?_;refine kI hS h ?_ ?_<;>intro h
     ·cases h;exact kR hS
     ·exact i _ [] _ (wrap .i64 (x3+1)) trivial h
    ·cases h;exact kR hS
end Go.AM
namespace Go.AM
open IntKind (wrap)
open Go.Proofs
set_option maxRecDepth 10000
set_option maxHeartbeats 2000000
variable {S:U5}(hS:F6 S Tryz.prog) (hL:JS S)
theorem Ab7 {T:Type}{e:TypeId}{k:Nat}{c:T->List PV}{X:Sl (Sl T)}{z:Sl T}:∀q,q<X.n+1->(fun q=>if q=X.n then Et e k c z else Et e k c (X.g q)) q=(fun q=>Et e k c ((X.push z).g q)) q:=fun q a=>by
 show (if q=X.n then Et e k c z else Et e k c (X.g q))=Et e k c (if q<X.n then X.g q else z);by_cases h:q=X.n
 ·rw[if_pos h,if_neg (by omega)]
 ·rw[if_neg h,if_pos (by omega)]
theorem Za {T:Type}{e:TypeId}{k n i:Nat}{c:T->List PV}{X:Sl (Sl T)}{z:Sl T}:∀q,q<n->(Ph (if q=i then Et e k c z else if q=i then Obj.dead else Et e k c (X.g q))).isSome=true:=fun q _=>by
 by_cases h:q=i
 ·rw[if_pos h];rfl
 ·rw[if_neg h,if_neg h];rfl
theorem Ab8 {T:Type}{e:TypeId}{k n i:Nat}{c:T->List PV}{X:Sl (Sl T)}{z:Sl T}:∀q,q<n->[(Ph (if q=i then Et e k c z else if q=i then Obj.dead else Et e k c (X.g q))).getD default]=cL k c ((X.upd i z).g q):=fun q _=>by
 show _=cL k c (if q=i then z else X.g q);by_cases h:q=i
 ·rw[if_pos h,if_pos h];rfl
 ·rw[if_neg h,if_neg h,if_neg h];rfl
include hS hL
def G1 (N:Nat)(s:Sl E2):Option (Sl E2):=if (0+s.n)*24<=140737488355328/\0+s.n<=140737488355328 then some s else none
theorem W4 {N:Nat}{s y:Sl E2}(h:G1 N s=some y):FunO S K6 [.p (vSl 2 B7 s)] [] (.vec 0) [.vec G2 2 y.n (fun i=>B7 (y.g i)) true] []:=by
 unfold G1 at h;obtain⟨c1,h⟩:=E6 h;obtain rfl:=C6 h;refine A4 hS Tryz.func72 ?_;refine Ur hS trivial 3 (k:=2) (n:=s.n) (f:=fun i=>B7 (s.g i)) (fun a=>?_) ?_
 ·obtain⟨n,g⟩:=s;obtain rfl:n=0:=a;exact A9 hS trivial ⟨[(2,.vec 3700)],[(3700,.vec G2 2 0 (fun i=>B7 (g i)) true)]⟩ [3700] (ids:=[]) ⟨rfl,rfl,rfl⟩
 ·exact A9 hS (And.intro (rfl:true=true) c1) ⟨[(2,.vec 8000)],[(8000,.vec G2 2 s.n (fun i=>B7 (s.g i)) true)]⟩ [8000] (ids:=[(8000,8000)]) ⟨rfl,rfl,rfl⟩
   (hle:=klR [(0,.fn (0+s.n) s.n (X3 0 (D8 [pI .i64 0,.str []] []) (fun i=>B7 (s.g i))) (fun i=>B7 (s.g i)))] (al1 ⟨Ai2 _,fun i _=>by simp[X3]⟩ al0))
def N8 (N:Nat)(s:Sl Int):Option (Sl Int):=if (0+s.n)*8<=140737488355328/\0+s.n<=140737488355328 then some s else none
theorem Ck {N:Nat}{s y:Sl Int}(h:N8 N s=some y):FunO S U9 [.p (vSl 1 (cI .i64) s)] [] (.vec 0) [.vec C0 1 y.n (fun i=>cI .i64 (y.g i)) false] []:=by
 unfold N8 at h;obtain⟨c1,h⟩:=E6 h;obtain rfl:=C6 h;refine A4 hS Tryz.func74 ?_;refine Ur hS trivial 3 (k:=1) (n:=s.n) (f:=fun i=>cI .i64 (s.g i)) (fun a=>?_) ?_
 ·obtain⟨n,g⟩:=s;obtain rfl:n=0:=a;exact A9 hS trivial ⟨[(2,.vec 3700)],[(3700,.vec C0 1 0 (fun i=>cI .i64 (g i)) false)]⟩ [3700] (ids:=[]) ⟨rfl,rfl,rfl⟩
 ·exact A9 hS (And.intro (rfl:true=true) c1) ⟨[(2,.vec 8000)],[(8000,.vec C0 1 s.n (fun i=>cI .i64 (s.g i)) false)]⟩ [8000] (ids:=[(8000,8000)]) ⟨rfl,rfl,rfl⟩
   (hle:=klR [(0,.fn (0+s.n) s.n (X3 0 (D8 [pI .i64 0] []) (fun i=>cI .i64 (s.g i))) (fun i=>cI .i64 (s.g i)))] (al1 ⟨Ai2 _,fun i _=>by simp[X3]⟩ al0))
def G6 (N:Nat)(c:A5)(b:Int)(a:Int):Option (A5×Int):=
 (D1 N c).bind fun y1=>
 if (y1 != 0) then
  some ((⟨(Sl.nil:Sl E2),(Sl.nil:Sl Law),(Sl.nil:Sl (Sl Int))⟩:A5),y1)
 else
  (N6 N c b).bind fun y2=>
  if ((!y2)=false->((decide (a<0))=false->((0:Int)<=b/\b<(c.On.n:Int))))then
   if (((!y2)||(decide (a<0)))||(decide ((wrap .i64 (((c.On.g b.toNat).n:Int)-1))<=a))) then
    some ((⟨(Sl.nil:Sl E2),(Sl.nil:Sl Law),(Sl.nil:Sl (Sl Int))⟩:A5),3)
   else
    (G1 N c.Tree).bind fun y3=>
    AW N (fun d (x1:Sl Law) (x2:Int)=>
     if (decide (x2<(c.Laws.n:Int))) then
      if ((0:Int)<=x2/\x2<(c.Laws.n:Int))then
       (M8 N (c.Laws.g x2.toNat)).bind fun y6=>
       if ((x1.n+(Sl.of [y6]:Sl Law).n)*200<=140737488355328/\x1.n+(Sl.of [y6]:Sl Law).n<=140737488355328)then
        d (x1.push y6) (wrap .i64 (x2+1))
       else none
      else none
     else
      AW N (fun f (x3:Sl (Sl Int)) (x4:Int)=>
       if (decide (x4<(c.On.n:Int))) then
        if ((0:Int)<=x4/\x4<(c.On.n:Int))then
         (N8 N (c.On.g x4.toNat)).bind fun y9=>
         if ((x3.n+(Sl.of [y9]:Sl (Sl Int)).n)*24<=140737488355328/\x3.n+(Sl.of [y9]:Sl (Sl Int)).n<=140737488355328)then
          f (x3.push y9) (wrap .i64 (x4+1))
         else none
        else none
       else if b.toNat<x3.n then
        if (((0:Int)<=b/\b<(x3.n:Int))/\((0:Int)<=a/\a<((x3.g b.toNat).n:Int))/\((0:Int)<=(wrap .i64 (a+1))/\(wrap .i64 (a+1))<((x3.g b.toNat).n:Int)))then
         some ((⟨y3,x1,x3.upd b.toNat (((x3.g b.toNat).upd a.toNat ((x3.g b.toNat).g (wrap .i64 (a+1)).toNat)).upd (wrap .i64 (a+1)).toNat ((x3.g b.toNat).g a.toNat))⟩:A5),0)
        else none
       else none
       ) (Sl.nil:Sl (Sl Int)) 0
     ) (Sl.nil:Sl Law) 0
  else none
theorem Cl {N:Nat}{j:A5}{f:Int}{d:Int}{y:A5×Int}(h:G6 N j f d=some y) :FunO S EM [.p (.agg (A2 j)),pN f,pN d] [] (.tup [.p (.agg (A2 y.1)),pN y.2]) ([]) []:=by
 unfold G6 at h;refine A4 hS Tryz.func27 ?_;refine J8 hS trivial 6 4000 (A2 j) ?_;obtain⟨y1,e1,h⟩:=B9 h;refine C4 hS [] (by decide:(3:Nat)<=3) (O4 hS hL e1) ?_;refine kI hS h ?_ ?_<;>intro h
 ·obtain rfl:=C6 h;exact A9 hS trivial ⟨[(7,pN y1),(6,.reg 7000 0)],[(7000,.cells [.p (vSl 2 B7 (Sl.nil:Sl E2)),.p (vSl 18 A8 (Sl.nil:Sl Law)),.p (vSl 1 (cL 1 (cI .i64)) (Sl.nil:Sl (Sl Int)))])]⟩ [] (ids:=[(7000,7000)]) ⟨rfl,rfl,rfl⟩
 ·obtain⟨y2,e2,h⟩:=B9 h;refine C4 hS [] (by decide:(3:Nat)<=3) (Cf hS hL e2) ?_;obtain⟨c2,h⟩:=E6 h;refine kB hS (A7 hS) trivial c2 14 (.o (.o (.a (!y2)) (.a (decide (d<0)))) (.a (decide ((wrap .i64 (((j.On.g f.toNat).n:Int)-1))<=d)))) ?_;refine kI hS h ?_ ?_<;>intro h
  ·obtain rfl:=C6 h;exact A9 hS trivial ⟨[(7,pN 3),(6,.reg 7000 0)],[(7000,.cells [.p (vSl 2 B7 (Sl.nil:Sl E2)),.p (vSl 18 A8 (Sl.nil:Sl Law)),.p (vSl 1 (cL 1 (cI .i64)) (Sl.nil:Sl (Sl Int)))])]⟩ [] (ids:=[(7000,7000)]) ⟨rfl,rfl,rfl⟩
  ·refine kC hS h (W4 hS hL) (fun y3 h=>?_);refine H7 hS trivial h (fun x1 x2=>⟨[(48,pN x2),(47,pN (j.Laws.n:Int)),(46,.p (vSl 18 A8 j.Laws)),(9,.reg 10000 0),(6,.reg 7000 0),(3,.p (.ptr (A2 j))),(2,pN d),(1,pN f)],[(44000,.vec G2 2 y3.n (fun i=>B7 (y3.g i)) true),(10500,.vec P1 18 x1.n (fun i=>A8 (x1.g i)) false),(10000,.cells [.vec 44000,.vec 10500,.p E1]),(7000,.cells [.p E1,.p E1,.p E1])]⟩) (ids:=[(7000,7000),(10000,10000),(44000,44000)]) (fun _ _ _ _ _ m x1 x2 r h=>?_);refine kI hS h ?_ ?_<;>intro h
   ·obtain⟨c11,h⟩:=E6 h;refine YK hS (And.intro c11 (by decide:(18:Nat)<=18)) 12000 (A8 (j.Laws.g x2.toNat)) ?_;refine G7 hS trivial [2,3] ?_;obtain⟨y6,e6,h⟩:=B9 h;refine X9 (by decide:(18:Nat)<=18) (DK hS hL e6) ?_;refine BQ trivial (x:=.sl true 18 1 (D8 [.str [],pI .i64 0,pI .u32 0,pI .u32 0,.v (.bool false),pI .i64 0,pI .i64 0,E1,pI .i64 0,pI .u32 0,pI .u32 0,.v (.bool false),pI .i64 0,pI .i64 0,E1,E1,E1,pI .i64 0] [(0,A8 y6)])) ?_;obtain⟨c12,h⟩:=E6 h;refine L7 c12 ?_;exact r _ [(7000,7000),(10000,10000),(10500,58000),(44000,44000)] _ (x1.push y6) (wrap .i64 (x2+1)) trivial h (hle:=klR [(7,.fn (x1.n+1) (x1.push y6).n (X3 x1.n (fun i=>A8 (x1.g i)) (D8 [.str [],pI .i64 0,pI .u32 0,pI .u32 0,.v (.bool false),pI .i64 0,pI .i64 0,E1,pI .i64 0,pI .u32 0,pI .u32 0,.v (.bool false),pI .i64 0,pI .i64 0,E1,E1,E1,pI .i64 0] [(0,A8 y6)])) (fun i=>A8 ((x1.push y6).g i)))] (al1 ⟨rfl,Lf (c:=A8) (v:=x1) (x:=y6) (z:=[(.str []),pI .i64 0,pI .u32 0,pI .u32 0,.v (.bool false),pI .i64 0,pI .i64 0,E1,pI .i64 0,pI .u32 0,pI .u32 0,.v (.bool false),pI .i64 0,pI .i64 0,E1,E1,E1,pI .i64 0]) same rfl rfl⟩ al0))
   ·refine I9 hS trivial 60 ⟨[(9,.reg 10000 0),(6,.reg 7000 0),(3,.p (.ptr (A2 j))),(2,pN d),(1,pN f)],[(44000,.vec G2 2 y3.n (fun i=>B7 (y3.g i)) true),(10501,.vec BH 1 0 (fun _=>[]) false),(10500,.vec P1 18 x1.n (fun i=>A8 (x1.g i)) false),(10000,.cells [.vec 44000,.vec 10500,.vec 10501]),(7000,.cells [.p E1,.p E1,.p E1])]⟩ (ids:=[(7000,7000),(10000,10000),(10500,10500),(44000,44000)]) ?_;refine Gb hS trivial 60 (.fam 10501 10901 fun i=>Et C0 1 (cI .i64) ((Sl.nil:Sl (Sl Int)).g i)) (⟨by decide,fun i u=>absurd u (Ai3 i)⟩:1000<=10901/\∀i,i<0->QF ((fun _=>[]) i) (Et C0 1 (cI .i64) ((Sl.nil:Sl (Sl Int)).g i))) ?_;refine H7 hS trivial h (fun x3 x4=>⟨[(63,pN x4),(62,pN (j.On.n:Int)),(61,.p (vSl 1 (cL 1 (cI .i64)) j.On)),(9,.reg 10000 0),(6,.reg 7000 0),(2,pN d),(1,pN f)],[(44000,.vec G2 2 y3.n (fun i=>B7 (y3.g i)) true),(10901,.rows x3.n fun i=>Et C0 1 (cI .i64) (x3.g i)),(10501,.fam BH x3.n 10901 none),(10500,.vec P1 18 x1.n (fun i=>A8 (x1.g i)) false),(10000,.cells [.vec 44000,.vec 10500,.vec 10501]),(7000,.cells [.p E1,.p E1,.p E1])]⟩) (ids:=[(7000,7000),(10000,10000),(10500,10500),(10501,10501),(10901,10901),(44000,44000)]) (fun _ _ _ _ _ s x3 x4 t h=>?_);refine kI hS h ?_ ?_<;>intro h
    ·obtain⟨c20,h⟩:=E6 h;refine L0 hS c20 [(1,.l [10000]),(3,.b [71000]),(4,.b [72000,71000])] ?_;obtain⟨y9,e9,h⟩:=B9 h;refine NV [] trivial (Ck hS hL e9) ?_;obtain⟨c21,h⟩:=E6 h;refine L7 c21 ?_;refine Gb hS trivial 74 (.psh 73000 10902) (⟨by decide,rfl,rfl⟩:1000<=10902/\x3.n+1=x3.n+1/\x3.n=x3.n) ?_;exact t _ [(7000,7000),(10000,10000),(10500,10500),(10501,73000),(10901,10902),(44000,44000)] _ (x3.push y9) (wrap .i64 (x4+1)) trivial h (hle:=klR [(7,.ob (x3.n+1) (fun q=>if q=x3.n then Et C0 1 (cI .i64) y9 else Et C0 1 (cI .i64) (x3.g q)) (fun i=>Et C0 1 (cI .i64) ((x3.push y9).g i)))] (al1 Ab7 al0))
    ·obtain⟨cT,h⟩:=E6 h;obtain⟨⟨c30,c31,c32⟩,h⟩:=E6 h;refine Gb hS trivial 75 (.take 10501 f.toNat 10801) (⟨⟨by decide,rfl⟩,cT⟩:(1000<=10801/\x3.n=x3.n)/\f.toNat<x3.n) ?_;refine L0 hS (And.intro c30 (And.intro cT (rfl:f.toNat=f.toNat))) [(8,.l [10801]),(9,.l [10801]),(12,.l [10801]),(13,.l [10801]),(14,.l [10801]),(15,.a [10801]),(16,.l [10801]),(17,.a [10801])] ?_;have l1:(wrap .i64 (d+1)).toNat<(x3.g f.toNat).n:=by omega
     have l2:d.toNat<(x3.g f.toNat).n:=by omega
     refine L7 (And.intro (And.intro (And.intro (And.intro (And.intro (And.intro (And.intro c32 l1) c31) l2) c31) (And.intro (rfl:(1:Nat)=1) (And.intro l2 (by decide:(1:Nat)<=1)))) c32) (And.intro (rfl:(1:Nat)=1) (And.intro l1 (by decide:(1:Nat)<=1)))) ?_;refine I9 hS trivial 96 ⟨[(9,.reg 10000 0),(6,.reg 7000 0)],[(44000,.vec G2 2 y3.n (fun i=>B7 (y3.g i)) true),(10901,(.rows x3.n fun l=>if l=f.toNat then .dead else Et C0 1 (cI .i64) (x3.g l))),(10801,Et C0 1 (cI .i64) (((x3.g f.toNat).upd d.toNat ((x3.g f.toNat).g (wrap .i64 (d+1)).toNat)).upd (wrap .i64 (d+1)).toNat ((x3.g f.toNat).g d.toNat))),(10501,.fam BH x3.n 10901 (some (f.toNat,.vec 10801))),(10500,.vec P1 18 x1.n (fun i=>A8 (x1.g i)) false),(10000,.cells [.vec 44000,.vec 10500,.vec 10501]),(7000,.cells [.p E1,.p E1,.p E1])]⟩ (ids:=[(7000,7000),(10000,10000),(10500,10500),(10501,10501),(10801,10801),(10901,10901),(44000,44000)]) ?_ (hle:=klR [(3,.fn (x3.g f.toNat).n (((x3.g f.toNat).upd d.toNat ((x3.g f.toNat).g (wrap .i64 (d+1)).toNat)).upd (wrap .i64 (d+1)).toNat ((x3.g f.toNat).g d.toNat)).n (fun l=>if l=(wrap .i64 (d+1)).toNat then splice ((fun l=>if l=d.toNat then splice ((fun i=>cI .i64 ((x3.g f.toNat).g i)) l) 0 [pI .i64 ((x3.g f.toNat).g (wrap .i64 (d+1)).toNat)]else (fun i=>cI .i64 ((x3.g f.toNat).g i)) l) l) 0 [pI .i64 ((x3.g f.toNat).g d.toNat)]else (fun l=>if l=d.toNat then splice ((fun i=>cI .i64 ((x3.g f.toNat).g i)) l) 0 [pI .i64 ((x3.g f.toNat).g (wrap .i64 (d+1)).toNat)]else (fun i=>cI .i64 ((x3.g f.toNat).g i)) l) l) (fun i=>cI .i64 ((((x3.g f.toNat).upd d.toNat ((x3.g f.toNat).g (wrap .i64 (d+1)).toNat)).upd (wrap .i64 (d+1)).toNat ((x3.g f.toNat).g d.toNat)).g i)))] (al1 ⟨rfl,Tl (c:=cI .i64) (v:=(x3.g f.toNat).upd d.toNat ((x3.g f.toNat).g (wrap .i64 (d+1)).toNat)) (x:=(x3.g f.toNat).g d.toNat) (Tl (c:=cI .i64) (v:=x3.g f.toNat) (x:=(x3.g f.toNat).g (wrap .i64 (d+1)).toNat) same (fun _=>by first|rfl|(dsimp only;split<;>rfl))) (fun _=>by first|rfl|(dsimp only;split<;>rfl))⟩ al0));refine Gb hS trivial 96 (.put 10501 10902) (⟨⟨by decide,rfl⟩,cT⟩:(1000<=10902/\x3.n=x3.n)/\f.toNat<x3.n) ?_;refine Gb hS trivial 96 (.pub 10501) (⟨rfl,Za⟩:x3.n=x3.n/\∀q,q<x3.n->(Ph (if q=f.toNat then Et C0 1 (cI .i64) (((x3.g f.toNat).upd d.toNat ((x3.g f.toNat).g (wrap .i64 (d+1)).toNat)).upd (wrap .i64 (d+1)).toNat ((x3.g f.toNat).g d.toNat))else if q=f.toNat then Obj.dead else Et C0 1 (cI .i64) (x3.g q))).isSome=true) ?_;obtain rfl:=C6 h;exact A9 hS trivial ⟨[(7,pN 0),(6,.reg 7000 0)],[(7000,.cells [.p (vSl 2 B7 y3),.p (vSl 18 A8 x1),.p (vSl 1 (cL 1 (cI .i64)) (x3.upd f.toNat (((x3.g f.toNat).upd d.toNat ((x3.g f.toNat).g (wrap .i64 (d+1)).toNat)).upd (wrap .i64 (d+1)).toNat ((x3.g f.toNat).g d.toNat))))])]⟩ [] (ids:=[(7000,7000)]) ⟨rfl,rfl,rfl⟩ (hle:=klR [(3,.fn x3.n (x3.upd f.toNat (((x3.g f.toNat).upd d.toNat ((x3.g f.toNat).g (wrap .i64 (d+1)).toNat)).upd (wrap .i64 (d+1)).toNat ((x3.g f.toNat).g d.toNat))).n (fun q=>[(Ph (if q=f.toNat then Et C0 1 (cI .i64) (((x3.g f.toNat).upd d.toNat ((x3.g f.toNat).g (wrap .i64 (d+1)).toNat)).upd (wrap .i64 (d+1)).toNat ((x3.g f.toNat).g d.toNat))else if q=f.toNat then Obj.dead else Et C0 1 (cI .i64) (x3.g q))).getD default]) (fun i=>cL 1 (cI .i64) ((x3.upd f.toNat (((x3.g f.toNat).upd d.toNat ((x3.g f.toNat).g (wrap .i64 (d+1)).toNat)).upd (wrap .i64 (d+1)).toNat ((x3.g f.toNat).g d.toNat))).g i)))] (al1 ⟨rfl,Ab8⟩ al0))
end Go.AM
namespace Go.AM
open Go.Proofs
set_option maxRecDepth 10000
set_option maxHeartbeats 2000000
variable {S:U5}(hS:F6 S Tryz.prog) (hL:JS S)
include hS hL
end Go.AM
namespace Go.AM
open Go.Proofs
set_option maxRecDepth 10000
set_option maxHeartbeats 2000000
variable {S:U5}(hS:F6 S Tryz.prog) (hL:JS S)
include hS hL
def W5 (N:Nat)  : Option Bool:=
 (Du N ).bind fun y1=>
 (Ch N ).bind fun y2=>
 (MQ N ).bind fun y3=>
 (Ch N ).bind fun y4=>
 (I0 N y1 3).bind fun y5=>
 (BM N y1 (Sl.of [y2,y3,y4]:Sl Sound) 3).bind fun y6=>
 (AD N y1 (Sl.of [y2,y3,y4]:Sl Sound)).bind fun y7=>
 (Bt N y1 1).bind fun y8=>
 (G6 N y1 2 0).bind fun y9=>
 (BM N y9.1 (Sl.of [y2,y3,y4]:Sl Sound) 2).bind fun a=>
 (Cj N y1 y9.1 (Sl.of [(Sl.of [y2,y3,y4]:Sl Sound)]:Sl (Sl Sound))).bind fun b=>
 lt (fun (z1:Bool)=>
  some z1
  ) fun k1=>
  if (y5.2==0) then
   if (y6.2==0) then
    if (y7.2==0) then
     if (y8.2==0) then
      if (y9.2==0) then
       if (a.2==0) then
        if (b.2==0) then
         (S5 N y5.1 (Sl.of [0,1]:Sl Int)).bind fun c=>
         if c then
          (Ch N ).bind fun d=>
          (He N ).bind fun f=>
          (Bm N y6.1 (Sl.of [d,f]:Sl Sound)).bind fun g=>
          if g then
           (Ch N ).bind fun i=>
           (MQ N ).bind fun j=>
           (Ch N ).bind fun l=>
           (He N ).bind fun m=>
           (Ch N ).bind fun n=>
           (He N ).bind fun o=>
           (Ch N ).bind fun q=>
           (Ft N y7.1 (Sl.of [(Sl.of [i,j]:Sl Sound),(Sl.of [l,m]:Sl Sound),(Sl.of [n,o,q]:Sl Sound)]:Sl (Sl Sound))).bind fun r=>
           if r then
            (S5 N y8.1 (Sl.of [2,3]:Sl Int)).bind fun s=>
            if s then
             (Ch N ).bind fun t=>
             (He N ).bind fun u=>
             (Bm N a.1 (Sl.of [t,u]:Sl Sound)).bind fun v=>
             if v then
              k1 (!b.1)
             else
              k1 false
            else
             k1 false
           else
            k1 false
          else
           k1 false
         else
          k1 false
        else
         k1 false
       else
        k1 false
      else
       k1 false
     else
      k1 false
    else
     k1 false
   else
    k1 false
  else
   k1 false
theorem Fu {N:Nat}    {y:Bool}(h:W5 N  = some y) :FunO S IY [] [] (pB y) ([]) []:=by
 unfold W5 at h;refine A4 hS Tryz.func13 ?_;refine kC hS h (MS hS hL) (fun y1 h=>?_);refine kC hS h (Eu hS hL) (fun y2 h=>?_);refine kC hS h (UG hS hL) (fun y3 h=>?_);refine kC hS h (Eu hS hL) (fun y4 h=>?_);obtain⟨y5,e5,h⟩:=B9 h;refine C4 hS [] (rfl:true=true) (Cg hS hL e5) ?_;refine BC hS trivial ⟨[(29,.vec 22000),(28,.p (.agg (A2 y1))),(4,pN y5.2),(3,.vec 25000),(2,.vec 22000),(1,.reg 2000 0)],[(25000,.vec C0 1 y5.1.n (fun i=>cI .i64 (y5.1.g i)) true),(22000,.vec B3 2 (Sl.of [y2,y3,y4]:Sl Sound).n (fun i=>A0 ((Sl.of [y2,y3,y4]:Sl Sound).g i)) false),(2000,.cells ((A2 y1).map .p))]⟩ (ids:=[(2000,2000),(22000,22000),(25000,25000)]) ?_ (hle:=klR [(3,.fn 3 (Sl.of [y2,y3,y4]:Sl Sound).n (D8 [pI .u32 0,pI .u32 0] [(0,A0 y2),(1,A0 y3),(2,A0 y4)]) (fun i=>A0 ((Sl.of [y2,y3,y4]:Sl Sound).g i)))] (al1 ⟨rfl,(fun i a=>match i,a with|0,_=>rfl|1,_=>rfl|2,_=>rfl|_+3,a=>absurd a (by omega))⟩ al0));refine kC hS h (HK hS hL) (fun y6 h=>?_);refine kC hS h (HY hS hL) (fun y7 h=>?_);refine kC hS h (JF hS hL) (fun y8 h=>?_);refine kC hS h (Cl hS hL) (fun y9 h=>?_);refine kC hS h (HK hS hL) (fun q h=>?_);refine BC hS (rfl:true=true) ⟨[(59,.vec 60000),(57,.p (.agg (A2 y9.1))),(56,.p (.agg (A2 y1))),(14,pN q.2),(13,.p (vSl 2 A0 q.1)),(12,pN y9.2),(10,pN y8.2),(9,.vec 42000),(8,pN y7.2),(7,.vec 37000),(6,pN y6.2),(5,.p (vSl 2 A0 y6.1)),(4,pN y5.2),(3,.vec 25000)],[(60000,.vec B1 1 (Sl.of [(Sl.of [y2,y3,y4]:Sl Sound)]:Sl (Sl Sound)).n (fun i=>cL 2 A0 ((Sl.of [(Sl.of [y2,y3,y4]:Sl Sound)]:Sl (Sl Sound)).g i)) false),(42000,.vec C0 1 y8.1.n (fun i=>cI .i64 (y8.1.g i)) true),(37000,.vec B1 1 y7.1.n (fun i=>cL 2 A0 (y7.1.g i)) true),(25000,.vec C0 1 y5.1.n (fun i=>cI .i64 (y5.1.g i)) true)]⟩ (ids:=[(25000,25000),(37000,37000),(42000,42000),(60000,60000)]) ?_ (hle:=klR [(10,.fn 1 (Sl.of [(Sl.of [y2,y3,y4]:Sl Sound)]:Sl (Sl Sound)).n (D8 [E1] [(0,cL 2 A0 (Sl.of [y2,y3,y4]:Sl Sound))]) (fun i=>cL 2 A0 ((Sl.of [(Sl.of [y2,y3,y4]:Sl Sound)]:Sl (Sl Sound)).g i)))] (al1 ⟨rfl,(fun i a=>match i,a with|0,_=>rfl|_+1,a=>absurd a (by omega))⟩ al0));refine kC hS h (KB hS hL) (fun r h=>?_);refine Ih hS trivial (A7 hS) h 0 (fun z1=>⟨[(0,pB z1)],[]⟩) (fun M1 k1 b h=>?_) (fun z1 h=>?_)
 ·refine kG hS h (fun h=>?_) (fun h=>?_)
  ·refine kG hS h (fun h=>?_) (fun h=>?_)
   ·refine kG hS h (fun h=>?_) (fun h=>?_)
    ·refine kG hS h (fun h=>?_) (fun h=>?_)
     ·refine kG hS h (fun h=>?_) (fun h=>?_)
      ·refine kG hS h (fun h=>?_) (fun h=>?_)
       ·refine kG hS h (fun h=>?_) (fun h=>?_)
        ·refine BC hS (rfl:true=true) ⟨[(91,.vec 92000),(90,.vec 25000),(89,.p (.v (.bool true))),(15,pB r.1),(13,.p (vSl 2 A0 q.1)),(9,.vec 42000),(7,.vec 37000),(5,.p (vSl 2 A0 y6.1))],[(92000,.vec C0 1 (Sl.of [0,1]:Sl Int).n (fun i=>cI .i64 ((Sl.of [0,1]:Sl Int).g i)) false),(42000,.vec C0 1 y8.1.n (fun i=>cI .i64 (y8.1.g i)) true),(37000,.vec B1 1 y7.1.n (fun i=>cL 2 A0 (y7.1.g i)) true),(25000,.vec C0 1 y5.1.n (fun i=>cI .i64 (y5.1.g i)) true)]⟩ (ids:=[(25000,25000),(37000,37000),(42000,42000),(92000,92000)]) ?_ (hle:=klR [(4,.fn 2 (Sl.of [0,1]:Sl Int).n (D8 [pI .i64 0] [(0,cI .i64 0),(1,cI .i64 1)]) (fun i=>cI .i64 ((Sl.of [0,1]:Sl Int).g i)))] (al1 ⟨rfl,(fun i a=>match i,a with|0,_=>rfl|1,_=>rfl|_+2,a=>absurd a (by omega))⟩ al0));refine kC hS h (Dt hS hL) (fun x h=>?_);refine kG hS h (fun h=>?_) (fun h=>?_)
         ·refine kC hS h (Eu hS hL) (fun s h=>?_);refine kC hS h (MR hS hL) (fun t h=>?_);refine BC hS (rfl:true=true) ⟨[(98,.vec 99000),(95,.p (vSl 2 A0 y6.1)),(94,.p (.v (.bool true))),(15,pB r.1),(13,.p (vSl 2 A0 q.1)),(9,.vec 42000),(7,.vec 37000)],[(99000,.vec B3 2 (Sl.of [s,t]:Sl Sound).n (fun i=>A0 ((Sl.of [s,t]:Sl Sound).g i)) false),(42000,.vec C0 1 y8.1.n (fun i=>cI .i64 (y8.1.g i)) true),(37000,.vec B1 1 y7.1.n (fun i=>cL 2 A0 (y7.1.g i)) true)]⟩ (ids:=[(37000,37000),(42000,42000),(99000,99000)]) ?_ (hle:=klR [(4,.fn 2 (Sl.of [s,t]:Sl Sound).n (D8 [pI .u32 0,pI .u32 0] [(0,A0 s),(1,A0 t)]) (fun i=>A0 ((Sl.of [s,t]:Sl Sound).g i)))] (al1 ⟨rfl,(fun i a=>match i,a with|0,_=>rfl|1,_=>rfl|_+2,a=>absurd a (by omega))⟩ al0));refine kC hS h (Fn hS hL) (fun z h=>?_);refine kG hS h (fun h=>?_) (fun h=>?_)
          ·refine kC hS h (Eu hS hL) (fun c h=>?_);refine kC hS h (UG hS hL) (fun d h=>?_);obtain⟨f,e34,h⟩:=B9 h;refine C4 hS [] (rfl:true=true) (Eu hS hL e34) ?_;refine kC hS h (MR hS hL) (fun j h=>?_);obtain⟨l,e36,h⟩:=B9 h;refine C4 hS [] (rfl:true=true) (Eu hS hL e36) ?_;refine kC hS h (MR hS hL) (fun m h=>?_);refine kC hS h (Eu hS hL) (fun o h=>?_);refine I9 hS (rfl:true=true) 113 ⟨[(112,.vec 113000),(108,.vec 109000),(105,.vec 106000),(102,.vec 37000),(101,.p (.v (.bool true))),(15,pB r.1),(13,.p (vSl 2 A0 q.1)),(9,.vec 42000)],[(113000,.vec B3 2 (Sl.of [l,m,o]:Sl Sound).n (fun i=>A0 ((Sl.of [l,m,o]:Sl Sound).g i)) true),(109000,.vec B3 2 (Sl.of [f,j]:Sl Sound).n (fun i=>A0 ((Sl.of [f,j]:Sl Sound).g i)) true),(106000,.vec B3 2 (Sl.of [c,d]:Sl Sound).n (fun i=>A0 ((Sl.of [c,d]:Sl Sound).g i)) true),(42000,.vec C0 1 y8.1.n (fun i=>cI .i64 (y8.1.g i)) true),(37000,.vec B1 1 y7.1.n (fun i=>cL 2 A0 (y7.1.g i)) true)]⟩ (ids:=[(37000,37000),(42000,42000),(106000,106000),(109000,109000),(113000,113000)]) ?_ (hle:=klR [(3,.fn 3 (Sl.of [l,m,o]:Sl Sound).n (D8 [pI .u32 0,pI .u32 0] [(0,A0 l),(1,A0 m),(2,A0 o)]) (fun i=>A0 ((Sl.of [l,m,o]:Sl Sound).g i))),(4,.fn 2 (Sl.of [f,j]:Sl Sound).n (D8 [pI .u32 0,pI .u32 0] [(0,A0 f),(1,A0 j)]) (fun i=>A0 ((Sl.of [f,j]:Sl Sound).g i))),(5,.fn 2 (Sl.of [c,d]:Sl Sound).n (D8 [pI .u32 0,pI .u32 0] [(0,A0 c),(1,A0 d)]) (fun i=>A0 ((Sl.of [c,d]:Sl Sound).g i)))] (al1 ⟨rfl,(fun i a=>match i,a with|0,_=>rfl|1,_=>rfl|2,_=>rfl|_+3,a=>absurd a (by omega))⟩ (al1 ⟨rfl,(fun i a=>match i,a with|0,_=>rfl|1,_=>rfl|_+2,a=>absurd a (by omega))⟩ (al1 ⟨rfl,(fun i a=>match i,a with|0,_=>rfl|1,_=>rfl|_+2,a=>absurd a (by omega))⟩ al0))));refine BC hS (rfl:true=true) ⟨[(113,.vec 114000),(102,.vec 37000),(101,.p (.v (.bool true))),(15,pB r.1),(13,.p (vSl 2 A0 q.1)),(9,.vec 42000)],[(114000,.vec B1 1 (Sl.of [(Sl.of [c,d]:Sl Sound),(Sl.of [f,j]:Sl Sound),(Sl.of [l,m,o]:Sl Sound)]:Sl (Sl Sound)).n (fun i=>cL 2 A0 ((Sl.of [(Sl.of [c,d]:Sl Sound),(Sl.of [f,j]:Sl Sound),(Sl.of [l,m,o]:Sl Sound)]:Sl (Sl Sound)).g i)) false),(42000,.vec C0 1 y8.1.n (fun i=>cI .i64 (y8.1.g i)) true),(37000,.vec B1 1 y7.1.n (fun i=>cL 2 A0 (y7.1.g i)) true)]⟩ (ids:=[(37000,37000),(42000,42000),(114000,114000)]) ?_ (hle:=klR [(3,.fn 3 (Sl.of [(Sl.of [c,d]:Sl Sound),(Sl.of [f,j]:Sl Sound),(Sl.of [l,m,o]:Sl Sound)]:Sl (Sl Sound)).n (D8 [E1] [(0,cL 2 A0 (Sl.of [c,d]:Sl Sound)),(1,cL 2 A0 (Sl.of [f,j]:Sl Sound)),(2,cL 2 A0 (Sl.of [l,m,o]:Sl Sound))]) (fun i=>cL 2 A0 ((Sl.of [(Sl.of [c,d]:Sl Sound),(Sl.of [f,j]:Sl Sound),(Sl.of [l,m,o]:Sl Sound)]:Sl (Sl Sound)).g i)))] (al1 ⟨rfl,(fun i a=>match i,a with|0,_=>rfl|1,_=>rfl|2,_=>rfl|_+3,a=>absurd a (by omega))⟩ al0));refine kC hS h (Qr hS hL) (fun a0 h=>?_);refine kG hS h (fun h=>?_) (fun h=>?_)
           ·refine BC hS (rfl:true=true) ⟨[(118,.vec 119000),(117,.vec 42000),(116,.p (.v (.bool true))),(15,pB r.1),(13,.p (vSl 2 A0 q.1))],[(119000,.vec C0 1 (Sl.of [2,3]:Sl Int).n (fun i=>cI .i64 ((Sl.of [2,3]:Sl Int).g i)) false),(42000,.vec C0 1 y8.1.n (fun i=>cI .i64 (y8.1.g i)) true)]⟩ (ids:=[(42000,42000),(119000,119000)]) ?_ (hle:=klR [(3,.fn 2 (Sl.of [2,3]:Sl Int).n (D8 [pI .i64 0] [(0,cI .i64 2),(1,cI .i64 3)]) (fun i=>cI .i64 ((Sl.of [2,3]:Sl Int).g i)))] (al1 ⟨rfl,(fun i a=>match i,a with|0,_=>rfl|1,_=>rfl|_+2,a=>absurd a (by omega))⟩ al0));refine kC hS h (Dt hS hL) (fun a1 h=>?_);refine kG hS h (fun h=>?_) (fun h=>?_)
            ·refine kC hS h (Eu hS hL) (fun u h=>?_);refine kC hS h (MR hS hL) (fun w h=>?_);refine BC hS (rfl:true=true) ⟨[(125,.vec 126000),(122,.p (vSl 2 A0 q.1)),(121,.p (.v (.bool true))),(15,pB r.1)],[(126000,.vec B3 2 (Sl.of [u,w]:Sl Sound).n (fun i=>A0 ((Sl.of [u,w]:Sl Sound).g i)) false)]⟩ (ids:=[(126000,126000)]) ?_ (hle:=klR [(3,.fn 2 (Sl.of [u,w]:Sl Sound).n (D8 [pI .u32 0,pI .u32 0] [(0,A0 u),(1,A0 w)]) (fun i=>A0 ((Sl.of [u,w]:Sl Sound).g i)))] (al1 ⟨rfl,(fun i a=>match i,a with|0,_=>rfl|1,_=>rfl|_+2,a=>absurd a (by omega))⟩ al0));refine kC hS h (Fn hS hL) (fun a2 h=>?_);refine kG hS h (fun h=>?_) (fun h=>?_)
             ·exact b _ [] _ (!r.1) trivial h
             ·exact b _ [] _ false trivial h
            ·exact b _ [] _ false trivial h
           ·exact b _ [] _ false trivial h
          ·exact b _ [] _ false trivial h
         ·exact b _ [] _ false trivial h
        ·exact b _ [] _ false trivial h
       ·exact b _ [] _ false trivial h
      ·exact b _ [] _ false trivial h
     ·exact b _ [] _ false trivial h
    ·exact b _ [] _ false trivial h
   ·exact b _ [] _ false trivial h
  ·exact b _ [] _ false trivial h
 ·cases h;exact kR hS
end Go.AM
namespace Go.AM
open IntKind (wrap)
open Go.Proofs
set_option maxRecDepth 10000
set_option maxHeartbeats 2000000
variable {S:U5}(hS:F6 S Tryz.prog) (hL:JS S)
include hS hL
def P3 (N:Nat)(p_x:DX):Option (A5×Bool):=
 AW N (fun d (x1:Sl E2) (x2:Int)=>
  if ((decide (x2<=(p_x.Parents.n:Int)))&&(decide (x2<10))) then
   if (((0:Int)<=(wrap .i64 (x2-1))/\(wrap .i64 (x2-1))<(p_x.Parents.n:Int))/\x2≠0)then
    if ((x1.n+(Sl.of [(⟨(wrap .i64 (p_x.Parents.g (wrap .i64 (x2-1)).toNat)).tmod x2,[UInt8.ofNat (wrap .u8 (97+(wrap .u8 x2))).toNat]⟩:E2)]:Sl E2).n)*24<=140737488355328/\x1.n+(Sl.of [(⟨(wrap .i64 (p_x.Parents.g (wrap .i64 (x2-1)).toNat)).tmod x2,[UInt8.ofNat (wrap .u8 (97+(wrap .u8 x2))).toNat]⟩:E2)]:Sl E2).n<=140737488355328)then
     d (x1.push (⟨(wrap .i64 (p_x.Parents.g (wrap .i64 (x2-1)).toNat)).tmod x2,[UInt8.ofNat (wrap .u8 (97+(wrap .u8 x2))).toNat]⟩:E2)) (wrap .i64 (x2+1))
    else none
   else none
  else
   AW N (fun f (x4:Sl Law) (x5:Int)=>
    if ((decide (x5<(p_x.Laws.n:Int)))&&(decide (x5<6))) then
     if ((0:Int)<=x5/\x5<(p_x.Laws.n:Int))then
      (Bs N (⟨[UInt8.ofNat (wrap .u8 (65+(wrap .u8 x5))).toNat],(p_x.Laws.g x5.toNat).Left,(p_x.Laws.g x5.toNat).Right,(p_x.Laws.g x5.toNat).If,(p_x.Laws.g x5.toNat).Out,(p_x.Laws.g x5.toNat).Mode⟩:Law)).bind fun y7=>
      lt (fun (z3:Bool)=>
       if z3 then
        some ((⟨(Sl.nil:Sl E2),(Sl.nil:Sl Law),(Sl.nil:Sl (Sl Int))⟩:A5),false)
       else
        if ((x4.n+(Sl.of [(⟨[UInt8.ofNat (wrap .u8 (65+(wrap .u8 x5))).toNat],(p_x.Laws.g x5.toNat).Left,(p_x.Laws.g x5.toNat).Right,(p_x.Laws.g x5.toNat).If,(p_x.Laws.g x5.toNat).Out,(p_x.Laws.g x5.toNat).Mode⟩:Law)]:Sl Law).n)*200<=140737488355328/\x4.n+(Sl.of [(⟨[UInt8.ofNat (wrap .u8 (65+(wrap .u8 x5))).toNat],(p_x.Laws.g x5.toNat).Left,(p_x.Laws.g x5.toNat).Right,(p_x.Laws.g x5.toNat).If,(p_x.Laws.g x5.toNat).Out,(p_x.Laws.g x5.toNat).Mode⟩:Law)]:Sl Law).n<=140737488355328)then
         f (x4.push (⟨[UInt8.ofNat (wrap .u8 (65+(wrap .u8 x5))).toNat],(p_x.Laws.g x5.toNat).Left,(p_x.Laws.g x5.toNat).Right,(p_x.Laws.g x5.toNat).If,(p_x.Laws.g x5.toNat).Out,(p_x.Laws.g x5.toNat).Mode⟩:Law)) (wrap .i64 (x5+1))
        else none
       ) fun k3=>
       if (!y7) then
        k3 true
       else
        (O8 N (⟨[UInt8.ofNat (wrap .u8 (65+(wrap .u8 x5))).toNat],(p_x.Laws.g x5.toNat).Left,(p_x.Laws.g x5.toNat).Right,(p_x.Laws.g x5.toNat).If,(p_x.Laws.g x5.toNat).Out,(p_x.Laws.g x5.toNat).Mode⟩:Law)).bind fun y9=>
        k3 (y9 != 0)
     else none
    else
     AW N (fun i (c:Sl (Sl Int)) (j:Int)=>
      if (decide (j<(x1.n:Int))) then
       (At N p_x.On j).bind fun m=>
       AW N (fun l (a:Sl Int) (b:Int)=>
        if (wrap .i64 ((x4.n:Int)+1))≠0 then
         if (((b.tmod (wrap .i64 ((x4.n:Int)+1))) != 0)&&(decide ((a.n:Int)<5))) then
          if (((wrap .i64 ((x4.n:Int)+1))≠0/\((a.n+(Sl.of [wrap .i64 ((b.tmod (wrap .i64 ((x4.n:Int)+1)))-1)]:Sl Int).n)*8<=140737488355328/\a.n+(Sl.of [wrap .i64 ((b.tmod (wrap .i64 ((x4.n:Int)+1)))-1)]:Sl Int).n<=140737488355328))/\(wrap .i64 ((x4.n:Int)+1))≠0)then
           l (a.push (wrap .i64 ((b.tmod (wrap .i64 ((x4.n:Int)+1)))-1))) (wrap .i64 (b.tdiv (wrap .i64 ((x4.n:Int)+1))))
          else none
         else
          if ((c.n+(Sl.of [a]:Sl (Sl Int)).n)*24<=140737488355328/\c.n+(Sl.of [a]:Sl (Sl Int)).n<=140737488355328)then
           i (c.push a) (wrap .i64 (j+1))
          else none
        else none
        ) (Sl.nil:Sl Int) m
      else
       some ((⟨x1,x4,c⟩:A5),true)
      ) (Sl.nil:Sl (Sl Int)) 0
    ) (Sl.nil:Sl Law) 0
  ) (Sl.of [(⟨-1,[114]⟩:E2)]:Sl E2) 1
theorem HZ {N:Nat}{p_x:DX}{y:A5×Bool}(h:P3 N p_x=some y) :FunO S DC [.p (.agg (AY p_x))] [] (.tup [.p (.agg (A2 y.1)),pB y.2]) ([]) []:=by
 unfold P3 at h;refine A4 hS Tryz.func29 ?_;refine J8 hS trivial 2 2000 (AY p_x) ?_;refine H7 hS (rfl:true=true) h (fun x1 x2=>⟨[(5,pN x2),(4,.reg 5000 0),(2,.reg 3000 0),(1,.p (.ptr (AY p_x)))],[(5500,.vec G2 2 x1.n (fun i=>B7 (x1.g i)) false),(5000,.cells [.vec 5500,.p E1,.p E1]),(3000,.cells [.p E1,.p E1,.p E1])]⟩) (ids:=[(3000,3000),(5000,5000),(5500,13000)]) (fun _ _ _ _ _ o x1 x2 q h=>?_) (hle:=klR [(2,.fn 1 (Sl.of [(⟨-1,[114]⟩:E2)]:Sl E2).n (D8 [pI .i64 0,.str []] [(0,B7 (⟨-1,[114]⟩:E2))]) (fun i=>B7 ((Sl.of [(⟨-1,[114]⟩:E2)]:Sl E2).g i)))] (al1 ⟨rfl,(fun i j=>match i,j with|0,_=>rfl|_+1,j=>absurd j (by omega))⟩ al0));refine kB hS (A7 hS) trivial trivial 3 (.n (.a (decide (x2<=(p_x.Parents.n:Int)))) (.a (decide (x2<10)))) ?_;refine kI hS h ?_ ?_<;>intro h
 ·refine G7 hS trivial [3,6,7] ?_;obtain⟨c8,h⟩:=E6 h;refine BQ c8 (x:=.sl true 1 1 (D8 [pI .u8 0] [(0,cI .u8 (wrap .u8 (97+(wrap .u8 x2))))])) ?_;refine BQ ((fun i j=>match i,j with|0,_=>rfl|_+1,j=>absurd j (by omega)):∀i:Nat,i<1->(Dx (D8 [pI .u8 0] [(0,cI .u8 (wrap .u8 (97+(wrap .u8 x2))))] i)).isSome=true) (x:=.sl true 2 1 (D8 [pI .i64 0,.str []] [(0,B7 (⟨(wrap .i64 (p_x.Parents.g (wrap .i64 (x2-1)).toNat)).tmod x2,[UInt8.ofNat (wrap .u8 (97+(wrap .u8 x2))).toNat]⟩:E2))])) ?_;obtain⟨c9,h⟩:=E6 h;refine L7 c9 ?_;exact q _ [(3000,3000),(5000,5000),(5500,44000)] _ (x1.push (⟨(wrap .i64 (p_x.Parents.g (wrap .i64 (x2-1)).toNat)).tmod x2,[UInt8.ofNat (wrap .u8 (97+(wrap .u8 x2))).toNat]⟩:E2)) (wrap .i64 (x2+1)) trivial h (hle:=klR [(2,.fn (x1.n+1) (x1.push (⟨(wrap .i64 (p_x.Parents.g (wrap .i64 (x2-1)).toNat)).tmod x2,[UInt8.ofNat (wrap .u8 (97+(wrap .u8 x2))).toNat]⟩:E2)).n (X3 x1.n (fun i=>B7 (x1.g i)) (D8 [pI .i64 0,.str []] [(0,B7 (⟨(wrap .i64 (p_x.Parents.g (wrap .i64 (x2-1)).toNat)).tmod x2,[UInt8.ofNat (wrap .u8 (97+(wrap .u8 x2))).toNat]⟩:E2))])) (fun i=>B7 ((x1.push (⟨(wrap .i64 (p_x.Parents.g (wrap .i64 (x2-1)).toNat)).tmod x2,[UInt8.ofNat (wrap .u8 (97+(wrap .u8 x2))).toNat]⟩:E2)).g i)))] (al1 ⟨rfl,Lf (c:=B7) (v:=x1) (x:=(⟨(wrap .i64 (p_x.Parents.g (wrap .i64 (x2-1)).toNat)).tmod x2,[UInt8.ofNat (wrap .u8 (97+(wrap .u8 x2))).toNat]⟩:E2)) (z:=[(pI .i64 0),.str []]) same rfl rfl⟩ al0))
 ·refine H7 hS trivial h (fun x4 x5=>⟨[(6,pN x5),(4,.reg 5000 0),(2,.reg 3000 0),(1,.p (.ptr (AY p_x)))],[(5501,.vec P1 18 x4.n (fun i=>A8 (x4.g i)) false),(5500,.vec G2 2 x1.n (fun i=>B7 (x1.g i)) false),(5000,.cells [.vec 5500,.vec 5501,.p E1]),(3000,.cells [.p E1,.p E1,.p E1])]⟩) (ids:=[(3000,3000),(5000,5000),(5500,5500)]) (fun _ _ _ _ _ r x4 x5 s h=>?_);refine kB hS (A7 hS) trivial trivial 3 (.n (.a (decide (x5<(p_x.Laws.n:Int)))) (.a (decide (x5<6)))) ?_;refine kI hS h ?_ ?_<;>intro h
  ·obtain⟨c23,h⟩:=E6 h;obtain⟨y7,e7,h⟩:=B9 h;refine C4 hS [] (And.intro (And.intro (And.intro c23 (by decide:(18:Nat)<=18)) (rfl:true=true)) ((fun i j=>match i,j with|0,_=>rfl|_+1,j=>absurd j (by omega)):∀i:Nat,i<1->(Dx (D8 [pI .u8 0] [(0,cI .u8 (wrap .u8 (65+(wrap .u8 x5))))] i)).isSome=true)) (Qt hS hL e7) ?_;refine Ih hS trivial (A7 hS) h 0 (fun z3=>⟨[(74,pB z3),(7,.reg 8000 0),(6,pN x5),(4,.reg 5000 0),(2,.reg 3000 0),(1,.p (.ptr (AY p_x)))],[(8000,.cells [.p (.str [UInt8.ofNat (wrap .u8 (65+(wrap .u8 x5))).toNat]),pN (p_x.Laws.g x5.toNat).Left.Kind,pU (p_x.Laws.g x5.toNat).Left.Is.Plus,pU (p_x.Laws.g x5.toNat).Left.Is.Minus,pB (p_x.Laws.g x5.toNat).Left.Not,pN (p_x.Laws.g x5.toNat).Left.Min,pN (p_x.Laws.g x5.toNat).Left.Max,.p (.sl false 7 (p_x.Laws.g x5.toNat).Left.L.n (Ak (p_x.Laws.g x5.toNat).Left)),pN (p_x.Laws.g x5.toNat).Right.Kind,pU (p_x.Laws.g x5.toNat).Right.Is.Plus,pU (p_x.Laws.g x5.toNat).Right.Is.Minus,pB (p_x.Laws.g x5.toNat).Right.Not,pN (p_x.Laws.g x5.toNat).Right.Min,pN (p_x.Laws.g x5.toNat).Right.Max,.p (.sl false 7 (p_x.Laws.g x5.toNat).Right.L.n (Ak (p_x.Laws.g x5.toNat).Right)),.p (vSl 2 A0 (p_x.Laws.g x5.toNat).If),.p (vSl 6 O2 (p_x.Laws.g x5.toNat).Out),pN (p_x.Laws.g x5.toNat).Mode]),(5501,.vec P1 18 x4.n (fun i=>A8 (x4.g i)) false),(5500,.vec G2 2 x1.n (fun i=>B7 (x1.g i)) false),(5000,.cells [.vec 5500,.vec 5501,.p E1]),(3000,.cells [.p E1,.p E1,.p E1])]⟩) (fun M3 k3 m h=>?_) (fun z3 h=>?_)
   ·refine kG hS h (fun h=>?_) (fun h=>?_)
    ·exact m _ [(3000,3000),(5000,5000),(5500,5500),(5501,5501),(8000,8000)] _ true trivial h
    ·refine kC hS h (Dm hS hL) (fun y9 h=>?_);exact m _ [(3000,3000),(5000,5000),(5500,5500),(5501,5501),(8000,8000)] _ (y9 != 0) trivial h
   ·refine kI hS h ?_ ?_<;>intro h
    ·obtain rfl:=C6 h;exact A9 hS trivial ⟨[(3,pB false),(2,.reg 3000 0)],[(3000,.cells [.p (vSl 2 B7 (Sl.nil:Sl E2)),.p (vSl 18 A8 (Sl.nil:Sl Law)),.p (vSl 1 (cL 1 (cI .i64)) (Sl.nil:Sl (Sl Int)))])]⟩ [] (ids:=[(3000,3000)]) ⟨rfl,rfl,rfl⟩
    ·obtain⟨c28,h⟩:=E6 h;exact s _ [(3000,3000),(5000,5000),(5500,5500),(5501,81000)] _ (x4.push (⟨[UInt8.ofNat (wrap .u8 (65+(wrap .u8 x5))).toNat],(p_x.Laws.g x5.toNat).Left,(p_x.Laws.g x5.toNat).Right,(p_x.Laws.g x5.toNat).If,(p_x.Laws.g x5.toNat).Out,(p_x.Laws.g x5.toNat).Mode⟩:Law)) (wrap .i64 (x5+1)) (And.intro (rfl:true=true) c28) h (hle:=klR [(2,.fn (x4.n+1) (x4.push (⟨[UInt8.ofNat (wrap .u8 (65+(wrap .u8 x5))).toNat],(p_x.Laws.g x5.toNat).Left,(p_x.Laws.g x5.toNat).Right,(p_x.Laws.g x5.toNat).If,(p_x.Laws.g x5.toNat).Out,(p_x.Laws.g x5.toNat).Mode⟩:Law)).n (X3 x4.n (fun i=>A8 (x4.g i)) (D8 [.str [],pI .i64 0,pI .u32 0,pI .u32 0,.v (.bool false),pI .i64 0,pI .i64 0,E1,pI .i64 0,pI .u32 0,pI .u32 0,.v (.bool false),pI .i64 0,pI .i64 0,E1,E1,E1,pI .i64 0] [(0,A8 (⟨[UInt8.ofNat (wrap .u8 (65+(wrap .u8 x5))).toNat],(p_x.Laws.g x5.toNat).Left,(p_x.Laws.g x5.toNat).Right,(p_x.Laws.g x5.toNat).If,(p_x.Laws.g x5.toNat).Out,(p_x.Laws.g x5.toNat).Mode⟩:Law))])) (fun i=>A8 ((x4.push (⟨[UInt8.ofNat (wrap .u8 (65+(wrap .u8 x5))).toNat],(p_x.Laws.g x5.toNat).Left,(p_x.Laws.g x5.toNat).Right,(p_x.Laws.g x5.toNat).If,(p_x.Laws.g x5.toNat).Out,(p_x.Laws.g x5.toNat).Mode⟩:Law)).g i)))] (al1 ⟨rfl,Lf (c:=A8) (v:=x4) (x:=(⟨[UInt8.ofNat (wrap .u8 (65+(wrap .u8 x5))).toNat],(p_x.Laws.g x5.toNat).Left,(p_x.Laws.g x5.toNat).Right,(p_x.Laws.g x5.toNat).If,(p_x.Laws.g x5.toNat).Out,(p_x.Laws.g x5.toNat).Mode⟩:Law)) (z:=[(.str []),pI .i64 0,pI .u32 0,pI .u32 0,.v (.bool false),pI .i64 0,pI .i64 0,E1,pI .i64 0,pI .u32 0,pI .u32 0,.v (.bool false),pI .i64 0,pI .i64 0,E1,E1,E1,pI .i64 0]) same rfl rfl⟩ al0))
  ·refine H7 hS trivial h (fun d l=>⟨[(8,pN l),(4,.reg 5000 0),(2,.reg 3000 0),(1,.p (.ptr (AY p_x)))],[(5502,.vec BH 1 d.n (fun i=>cL 1 (cI .i64) (d.g i)) false),(5501,.vec P1 18 x4.n (fun i=>A8 (x4.g i)) false),(5500,.vec G2 2 x1.n (fun i=>B7 (x1.g i)) false),(5000,.cells [.vec 5500,.vec 5501,.vec 5502]),(3000,.cells [.p E1,.p E1,.p E1])]⟩) (ids:=[(3000,3000),(5000,5000),(5500,5500),(5501,5501)]) (fun _ _ _ _ _ t d l u h=>?_);refine kI hS h ?_ ?_<;>intro h
   ·refine kC hS h (OH hS hL) (fun a1 h=>?_);refine H7 hS trivial h (fun b f=>⟨[(10,pN f),(9,.vec 10500),(8,pN l),(4,.reg 5000 0),(2,.reg 3000 0),(1,.p (.ptr (AY p_x)))],[(10500,.vec C0 1 b.n (fun i=>cI .i64 (b.g i)) false),(5502,.vec BH 1 d.n (fun i=>cL 1 (cI .i64) (d.g i)) false),(5501,.vec P1 18 x4.n (fun i=>A8 (x4.g i)) false),(5500,.vec G2 2 x1.n (fun i=>B7 (x1.g i)) false),(5000,.cells [.vec 5500,.vec 5501,.vec 5502]),(3000,.cells [.p E1,.p E1,.p E1])]⟩) (ids:=[(3000,3000),(5000,5000),(5500,5500),(5501,5501),(5502,5502)]) (fun _ _ _ _ _ w b f a0 h=>?_);obtain⟨c50,h⟩:=E6 h;refine kB hS (A7 hS) c50 trivial 4 (.n (.a ((f.tmod (wrap .i64 ((x4.n:Int)+1))) != 0)) (.a (decide ((b.n:Int)<5)))) ?_;refine kI hS h ?_ ?_<;>intro h
    ·obtain⟨c52,h⟩:=E6 h;exact a0 _ [(3000,3000),(5000,5000),(5500,5500),(5501,5501),(5502,5502),(10500,121000)] _ (b.push (wrap .i64 ((f.tmod (wrap .i64 ((x4.n:Int)+1)))-1))) (wrap .i64 (f.tdiv (wrap .i64 ((x4.n:Int)+1)))) (And.intro (And.intro (And.intro c52.1.1 (rfl:true=true)) c52.1.2) c52.2) h (hle:=klR [(3,.fn (b.n+1) (b.push (wrap .i64 ((f.tmod (wrap .i64 ((x4.n:Int)+1)))-1))).n (X3 b.n (fun i=>cI .i64 (b.g i)) (D8 [pI .i64 0] [(0,cI .i64 (wrap .i64 ((f.tmod (wrap .i64 ((x4.n:Int)+1)))-1)))])) (fun i=>cI .i64 ((b.push (wrap .i64 ((f.tmod (wrap .i64 ((x4.n:Int)+1)))-1))).g i)))] (al1 ⟨rfl,Lf (c:=cI .i64) (v:=b) (x:=wrap .i64 ((f.tmod (wrap .i64 ((x4.n:Int)+1)))-1)) (z:=[(pI .i64 0)]) same rfl rfl⟩ al0))
    ·obtain⟨c53,h⟩:=E6 h;exact u _ [(3000,3000),(5000,5000),(5500,5500),(5501,5501),(5502,126000)] _ (d.push b) (wrap .i64 (l+1)) (And.intro (rfl:true=true) c53) h (hle:=klR [(2,.fn (d.n+1) (d.push b).n (X3 d.n (fun i=>cL 1 (cI .i64) (d.g i)) (D8 [E1] [(0,cL 1 (cI .i64) b)])) (fun i=>cL 1 (cI .i64) ((d.push b).g i)))] (al1 ⟨rfl,Lf (c:=cL 1 (cI .i64)) (v:=d) (x:=b) (z:=[E1]) same rfl rfl⟩ al0))
   ·obtain rfl:=C6 h;exact A9 hS trivial ⟨[(3,pB true),(2,.reg 3000 0)],[(3000,.cells [.p (vSl 2 B7 x1),.p (vSl 18 A8 x4),.p (vSl 1 (cL 1 (cI .i64)) d)])]⟩ [] (ids:=[(3000,3000)]) ⟨rfl,rfl,rfl⟩
end Go.AM
namespace Go.AM
open Go.Proofs
set_option maxRecDepth 10000
set_option maxHeartbeats 2000000
variable {S:U5}(hS:F6 S Tryz.prog) (hL:JS S)
include hS hL
end Go.AM
namespace Go.AM
open IntKind (wrap)
open Go.Proofs
set_option maxRecDepth 10000
set_option maxHeartbeats 2000000
variable {S:U5}(hS:F6 S Tryz.prog) (hL:JS S)
include hS hL
def Q5 (N:Nat)(p_x:DX)(f:Int)(i:Int):Option Bool:=
 (P3 N p_x).bind fun y1=>
 if (!y1.2) then
  (W5 N ).bind fun y2=>
  some y2
 else
  if (y1.1.Tree.n:Int)≠0 then
   (G6 N y1.1 ((wrap .i64 f).tmod (y1.1.Tree.n:Int)) ((wrap .i64 i).tmod 5)).bind fun y3=>
   if (y3.2 != 0) then
    lt (fun (z1:Bool)=>
     some z1
     ) fun k1=>
     if (y3.2==3) then
      if ((0:Int)<=((wrap .i64 f).tmod (y1.1.Tree.n:Int))/\((wrap .i64 f).tmod (y1.1.Tree.n:Int))<(y1.1.On.n:Int))then
       if (decide ((wrap .i64 (((y1.1.On.g ((wrap .i64 f).tmod (y1.1.Tree.n:Int)).toNat).n:Int)-1))<=((wrap .i64 i).tmod 5))) then
        (X0 N y3.1 (⟨(Sl.nil:Sl E2),(Sl.nil:Sl Law),(Sl.nil:Sl (Sl Int))⟩:A5)).bind fun y6=>
        if y6 then
         (W5 N ).bind fun y7=>
         k1 y7
        else
         k1 false
       else
        k1 false
      else none
     else
      k1 false
   else
    (G6 N y3.1 ((wrap .i64 f).tmod (y1.1.Tree.n:Int)) ((wrap .i64 i).tmod 5)).bind fun y8=>
    lt (fun (z2:Bool)=>
     if z2 then
      some false
     else
      if ((0:Int)<=(y1.1.Tree.n:Int)/\(y1.1.Tree.n:Int)<=(y1.1.Tree.n:Int)/\(y1.1.Tree.n:Int)*1<=140737488355328/\(y1.1.Tree.n:Int)<=140737488355328)then
       AW N (fun l (x7:Sl Bool) (x8:Int)=>
        if (decide (x8<(y1.1.Tree.n:Int))) then
         if (((x8==((wrap .i64 f).tmod (y1.1.Tree.n:Int)))=false->((0:Int)<=x8/\x8<(y1.1.Tree.n:Int)))/\((x8==((wrap .i64 f).tmod (y1.1.Tree.n:Int)))=false->((decide (0<=(y1.1.Tree.g x8.toNat).Parent))=true->((((0:Int)<=x8/\x8<(y1.1.Tree.n:Int))/\((0:Int)<=(y1.1.Tree.g x8.toNat).Parent/\(y1.1.Tree.g x8.toNat).Parent<(x7.n:Int)))/\(y1.1.Tree.g x8.toNat).Parent.toNat<x7.n))))then
          if (((0:Int)<=x8/\x8<(x7.n:Int))/\x8.toNat<x7.n)then
           (I0 N y1.1 x8).bind fun b=>
           (I0 N y3.1 x8).bind fun d=>
           lt (fun (z5:Bool)=>
            if z5 then
             some false
            else
             if ((0:Int)<=(y1.1.Laws.n:Int)/\(y1.1.Laws.n:Int)<=(y1.1.Laws.n:Int)/\(y1.1.Laws.n:Int)*8<=140737488355328/\(y1.1.Laws.n:Int)<=140737488355328)then
              AW N (fun m (c:Sl Int) (a:Int)=>
               if (decide (a<(b.1.n:Int))) then
                if (((0:Int)<=a/\a<(b.1.n:Int))/\a.toNat<b.1.n)then
                 if ((((decide ((b.1.g a.toNat)<0))=false->(((0:Int)<=a/\a<(d.1.n:Int))/\a.toNat<d.1.n))/\((decide ((b.1.g a.toNat)<0))=false->((decide ((d.1.g a.toNat)<0))=false->(((0:Int)<=a/\a<(b.1.n:Int))/\a.toNat<b.1.n))))/\((decide ((b.1.g a.toNat)<0))=false->((decide ((d.1.g a.toNat)<0))=false->((decide ((c.n:Int)<=(b.1.g a.toNat)))=false->(((0:Int)<=a/\a<(d.1.n:Int))/\a.toNat<d.1.n)))))then
                  if ((((decide ((b.1.g a.toNat)<0))||(decide ((d.1.g a.toNat)<0)))||(decide ((c.n:Int)<=(b.1.g a.toNat))))||(decide ((c.n:Int)<=(d.1.g a.toNat)))) then
                   some false
                  else
                   if (((((((((0:Int)<=a/\a<(b.1.n:Int))/\a.toNat<b.1.n)/\((0:Int)<=(b.1.g a.toNat)/\(b.1.g a.toNat)<(c.n:Int)))/\(b.1.g a.toNat).toNat<c.n)/\((0:Int)<=(b.1.g a.toNat)/\(b.1.g a.toNat)<(c.n:Int)))/\(b.1.g a.toNat).toNat<c.n)/\((0:Int)<=a/\a<(d.1.n:Int)))/\a.toNat<d.1.n)then
                    if (((((0:Int)<=(d.1.g a.toNat)/\(d.1.g a.toNat)<((c.upd (b.1.g a.toNat).toNat (wrap .i64 ((c.g (b.1.g a.toNat).toNat)+1))).n:Int))/\(d.1.g a.toNat).toNat<(c.upd (b.1.g a.toNat).toNat (wrap .i64 ((c.g (b.1.g a.toNat).toNat)+1))).n)/\((0:Int)<=(d.1.g a.toNat)/\(d.1.g a.toNat)<((c.upd (b.1.g a.toNat).toNat (wrap .i64 ((c.g (b.1.g a.toNat).toNat)+1))).n:Int)))/\(d.1.g a.toNat).toNat<(c.upd (b.1.g a.toNat).toNat (wrap .i64 ((c.g (b.1.g a.toNat).toNat)+1))).n)then
                     m ((c.upd (b.1.g a.toNat).toNat (wrap .i64 ((c.g (b.1.g a.toNat).toNat)+1))).upd (d.1.g a.toNat).toNat (wrap .i64 (((c.upd (b.1.g a.toNat).toNat (wrap .i64 ((c.g (b.1.g a.toNat).toNat)+1))).g (d.1.g a.toNat).toNat)-1))) (wrap .i64 (a+1))
                    else none
                   else none
                 else none
                else none
               else
                Q6 N (fun o (j:Int)=>
                 if (decide (j<(c.n:Int))) then
                  if (((0:Int)<=j/\j<(c.n:Int))/\j.toNat<c.n)then
                   if ((c.g j.toNat) != 0) then
                    some false
                   else
                    o (wrap .i64 (j+1))
                  else none
                 else
                  l (x7.upd x8.toNat ((x8==((wrap .i64 f).tmod (y1.1.Tree.n:Int)))||((decide (0<=(y1.1.Tree.g x8.toNat).Parent))&&(x7.g (y1.1.Tree.g x8.toNat).Parent.toNat)))) (wrap .i64 (x8+1))
                 ) 0
               ) (Sl.rep (y1.1.Laws.n:Int).toNat 0:Sl Int) 0
             else none
            ) fun k5=>
            if (b.2 != 0) then
             k5 true
            else
             if (d.2 != 0) then
              k5 true
             else
              if ((b.1.n:Int) != (d.1.n:Int)) then
               k5 true
              else
               if (((0:Int)<=x8/\x8<((x7.upd x8.toNat ((x8==((wrap .i64 f).tmod (y1.1.Tree.n:Int)))||((decide (0<=(y1.1.Tree.g x8.toNat).Parent))&&(x7.g (y1.1.Tree.g x8.toNat).Parent.toNat)))).n:Int))/\x8.toNat<(x7.upd x8.toNat ((x8==((wrap .i64 f).tmod (y1.1.Tree.n:Int)))||((decide (0<=(y1.1.Tree.g x8.toNat).Parent))&&(x7.g (y1.1.Tree.g x8.toNat).Parent.toNat)))).n)then
                if (!((x7.upd x8.toNat ((x8==((wrap .i64 f).tmod (y1.1.Tree.n:Int)))||((decide (0<=(y1.1.Tree.g x8.toNat).Parent))&&(x7.g (y1.1.Tree.g x8.toNat).Parent.toNat)))).g x8.toNat)) then
                 (S5 N b.1 d.1).bind fun q=>
                 k5 (!q)
                else
                 k5 false
               else none
          else none
         else none
        else
         (W5 N ).bind fun r=>
         some r
        ) (Sl.rep (y1.1.Tree.n:Int).toNat false:Sl Bool) 0
      else none
     ) fun k2=>
     if (y8.2 != 0) then
      k2 true
     else
      (X0 N y8.1 y1.1).bind fun s=>
      if (!s) then
       k2 true
      else
       if ((0:Int)<=((wrap .i64 f).tmod (y1.1.Tree.n:Int))/\((wrap .i64 f).tmod (y1.1.Tree.n:Int))<(y1.1.On.n:Int))then
        k2 (decide ((wrap .i64 (((y1.1.On.g ((wrap .i64 f).tmod (y1.1.Tree.n:Int)).toNat).n:Int)-1))<=((wrap .i64 i).tmod 5)))
       else none
  else none
theorem FE {N:Nat}{p_x:DX}{m:Int}{r:Int}{y:Bool}(h:Q5 N p_x m r=some y) :FunO S X2 [.p (.agg (AY p_x)),.p (pI .u8 m),.p (pI .u8 r)] [] (pB y) ([]) []:=by
 unfold Q5 at h;refine A4 hS Tryz.func7 ?_;refine kC hS h (HZ hS hL) (fun y1 h=>?_);refine kI hS h ?_ ?_<;>intro h
 ·refine kC hS h (Fu hS hL) (fun y2 h=>?_);cases h;exact kR hS
 ·obtain⟨c2,h⟩:=E6 h;obtain⟨y3,e3,h⟩:=B9 h;refine C4 hS [] (And.intro c2 (by decide:(5:Int)≠0)) (Cl hS hL e3) ?_;refine kI hS h ?_ ?_<;>intro h
  ·refine Ih hS trivial (A7 hS) h 0 (fun z1=>⟨[(6,pB z1)],[]⟩) (fun M1 k1 t h=>?_) (fun z1 h=>?_)
   ·refine kG hS h (fun h=>?_) (fun h=>?_)
    ·obtain⟨c11,h⟩:=E6 h;refine Fl hS c11 (b:=decide ((wrap .i64 (((y1.1.On.g ((wrap .i64 m).tmod (y1.1.Tree.n:Int)).toNat).n:Int)-1))<=((wrap .i64 r).tmod 5))) (fun c12=>?_) (fun c12=>?_)
     ·replace h:=itT c12 h;obtain⟨y6,e6,h⟩:=B9 h;refine C4 hS [] trivial (FunO.le hS (args:=[(.p (.agg (A2 y3.1))),.p (.agg [E1,E1,E1])]) (by exact⟨.inl rfl,⟨Xv (Bw VE (Bw VE (Bw VE Zn))),trivial⟩⟩) (Lu hS hL e6)) ?_;refine kG hS h (fun h=>?_) (fun h=>?_)
      ·refine kC hS h (Fu hS hL) (fun y7 h=>?_);exact t _ [] _ y7 trivial h
      ·exact t _ [] _ false trivial h
     ·replace h:=itF c12 h;exact t _ [] _ false trivial h
    ·exact t _ [] _ false trivial h
   ·cases h;exact kR hS
  ·refine kC hS h (Cl hS hL) (fun y8 h=>?_);refine Ih hS trivial (A7 hS) h 0 (fun z2=>⟨[(96,pB z2),(11,.reg 12000 0),(9,pN ((wrap .i64 m).tmod (y1.1.Tree.n:Int))),(7,.reg 8000 0)],[(12000,.cells ((A2 y3.1).map .p)),(8000,.cells ((A2 y1.1).map .p))]⟩) (fun M2 k2 w h=>?_) (fun z2 h=>?_)
   ·refine kG hS h (fun h=>?_) (fun h=>?_)
    ·exact w _ [(8000,8000),(12000,12000)] _ true trivial h
    ·refine kC hS h (Lu hS hL) (fun a6 h=>?_);refine kG hS h (fun h=>?_) (fun h=>?_)
     ·exact w _ [(8000,8000),(12000,12000)] _ true trivial h
     ·obtain⟨c19,h⟩:=E6 h;exact w _ [(8000,8000),(12000,12000)] _ (decide ((wrap .i64 (((y1.1.On.g ((wrap .i64 m).tmod (y1.1.Tree.n:Int)).toNat).n:Int)-1))<=((wrap .i64 r).tmod 5))) c19 h
   ·refine kI hS h ?_ ?_<;>intro h
    ·cases h;exact kR hS
    ·obtain⟨c21,h⟩:=E6 h;refine Mn hS c21 15 101000 (k:=1) (n:=(y1.1.Tree.n:Int).toNat) (e:=Gs) (vw:=false) (fun _=>[(.v (.bool false))]) (fun i=>cB ((Sl.rep (y1.1.Tree.n:Int).toNat false:Sl Bool).g i)) (fun i hi=>Bw lePT Zn) ?_;refine H7 hS trivial h (fun x7 x8=>⟨[(16,pN x8),(15,.vec 101000),(11,.reg 12000 0),(9,pN ((wrap .i64 m).tmod (y1.1.Tree.n:Int))),(7,.reg 8000 0)],[(101000,.vec Gs 1 x7.n (fun i=>cB (x7.g i)) false),(12000,.cells ((A2 y3.1).map .p)),(8000,.cells ((A2 y1.1).map .p))]⟩) (ids:=[(8000,8000),(12000,12000),(101000,101000)]) (fun _ _ _ _ _ a1 x7 x8 a2 h=>?_);refine kI hS h ?_ ?_<;>intro h
     ·obtain⟨c109,h⟩:=E6 h;refine kB hS (A7 hS) trivial c109 19 (.o (.a (x8==((wrap .i64 m).tmod (y1.1.Tree.n:Int)))) (.n (.a (decide (0<=(y1.1.Tree.g x8.toNat).Parent))) (.a (x7.g (y1.1.Tree.g x8.toNat).Parent.toNat)))) ?_;obtain⟨c110,h⟩:=E6 h;obtain⟨j,e19,h⟩:=B9 h;refine C4 hS [] (And.intro c110.1 (And.intro (rfl:(1:Nat)=1) (And.intro c110.2 (by decide:(1:Nat)<=1)))) (Cg hS hL e19) ?_;refine kC hS h (Cg hS hL) (fun q h=>?_);refine Ih hS trivial (A7 hS) h 0 (fun z5=>⟨[(171,pB z5),(19,.vec 144000),(17,.vec 138000),(16,pN x8),(15,.vec 101000),(11,.reg 12000 0),(9,pN ((wrap .i64 m).tmod (y1.1.Tree.n:Int))),(7,.reg 8000 0)],[(144000,.vec C0 1 q.1.n (fun i=>cI .i64 (q.1.g i)) true),(138000,.vec C0 1 j.1.n (fun i=>cI .i64 (j.1.g i)) true),(101000,.vec Gs 1 (x7.upd x8.toNat ((x8==((wrap .i64 m).tmod (y1.1.Tree.n:Int)))||((decide (0<=(y1.1.Tree.g x8.toNat).Parent))&&(x7.g (y1.1.Tree.g x8.toNat).Parent.toNat)))).n (fun i=>cB ((x7.upd x8.toNat ((x8==((wrap .i64 m).tmod (y1.1.Tree.n:Int)))||((decide (0<=(y1.1.Tree.g x8.toNat).Parent))&&(x7.g (y1.1.Tree.g x8.toNat).Parent.toNat)))).g i)) false),(12000,.cells ((A2 y3.1).map .p)),(8000,.cells ((A2 y1.1).map .p))]⟩) (fun M5 k5 s h=>?_) (fun z5 h=>?_)
      ·refine kG hS h (fun h=>?_) (fun h=>?_)
       ·exact s _ [(8000,8000),(12000,12000),(101000,101000),(138000,138000),(144000,144000)] _ true trivial h (hle:=klR [(5,.fn x7.n (x7.upd x8.toNat ((x8==((wrap .i64 m).tmod (y1.1.Tree.n:Int)))||((decide (0<=(y1.1.Tree.g x8.toNat).Parent))&&(x7.g (y1.1.Tree.g x8.toNat).Parent.toNat)))).n (fun l=>if l=x8.toNat then splice ((fun i=>cB (x7.g i)) l) 0 [.bb ((x8==((wrap .i64 m).tmod (y1.1.Tree.n:Int)))||((decide (0<=(y1.1.Tree.g x8.toNat).Parent))&&(x7.g (y1.1.Tree.g x8.toNat).Parent.toNat)))]else (fun i=>cB (x7.g i)) l) (fun i=>cB ((x7.upd x8.toNat ((x8==((wrap .i64 m).tmod (y1.1.Tree.n:Int)))||((decide (0<=(y1.1.Tree.g x8.toNat).Parent))&&(x7.g (y1.1.Tree.g x8.toNat).Parent.toNat)))).g i)))] (al1 ⟨rfl,Tl (c:=cB) (v:=x7) (x:=(x8==((wrap .i64 m).tmod (y1.1.Tree.n:Int)))||((decide (0<=(y1.1.Tree.g x8.toNat).Parent))&&(x7.g (y1.1.Tree.g x8.toNat).Parent.toNat))) same (fun _=>by first|rfl|(dsimp only;split<;>rfl))⟩ al0))
       ·refine kG hS h (fun h=>?_) (fun h=>?_)
        ·exact s _ [(8000,8000),(12000,12000),(101000,101000),(138000,138000),(144000,144000)] _ true trivial h (hle:=klR [(5,.fn x7.n (x7.upd x8.toNat ((x8==((wrap .i64 m).tmod (y1.1.Tree.n:Int)))||((decide (0<=(y1.1.Tree.g x8.toNat).Parent))&&(x7.g (y1.1.Tree.g x8.toNat).Parent.toNat)))).n (fun l=>if l=x8.toNat then splice ((fun i=>cB (x7.g i)) l) 0 [.bb ((x8==((wrap .i64 m).tmod (y1.1.Tree.n:Int)))||((decide (0<=(y1.1.Tree.g x8.toNat).Parent))&&(x7.g (y1.1.Tree.g x8.toNat).Parent.toNat)))]else (fun i=>cB (x7.g i)) l) (fun i=>cB ((x7.upd x8.toNat ((x8==((wrap .i64 m).tmod (y1.1.Tree.n:Int)))||((decide (0<=(y1.1.Tree.g x8.toNat).Parent))&&(x7.g (y1.1.Tree.g x8.toNat).Parent.toNat)))).g i)))] (al1 ⟨rfl,Tl (c:=cB) (v:=x7) (x:=(x8==((wrap .i64 m).tmod (y1.1.Tree.n:Int)))||((decide (0<=(y1.1.Tree.g x8.toNat).Parent))&&(x7.g (y1.1.Tree.g x8.toNat).Parent.toNat))) same (fun _=>by first|rfl|(dsimp only;split<;>rfl))⟩ al0))
        ·refine kG hS h (fun h=>?_) (fun h=>?_)
         ·exact s _ [(8000,8000),(12000,12000),(101000,101000),(138000,138000),(144000,144000)] _ true trivial h (hle:=klR [(5,.fn x7.n (x7.upd x8.toNat ((x8==((wrap .i64 m).tmod (y1.1.Tree.n:Int)))||((decide (0<=(y1.1.Tree.g x8.toNat).Parent))&&(x7.g (y1.1.Tree.g x8.toNat).Parent.toNat)))).n (fun l=>if l=x8.toNat then splice ((fun i=>cB (x7.g i)) l) 0 [.bb ((x8==((wrap .i64 m).tmod (y1.1.Tree.n:Int)))||((decide (0<=(y1.1.Tree.g x8.toNat).Parent))&&(x7.g (y1.1.Tree.g x8.toNat).Parent.toNat)))]else (fun i=>cB (x7.g i)) l) (fun i=>cB ((x7.upd x8.toNat ((x8==((wrap .i64 m).tmod (y1.1.Tree.n:Int)))||((decide (0<=(y1.1.Tree.g x8.toNat).Parent))&&(x7.g (y1.1.Tree.g x8.toNat).Parent.toNat)))).g i)))] (al1 ⟨rfl,Tl (c:=cB) (v:=x7) (x:=(x8==((wrap .i64 m).tmod (y1.1.Tree.n:Int)))||((decide (0<=(y1.1.Tree.g x8.toNat).Parent))&&(x7.g (y1.1.Tree.g x8.toNat).Parent.toNat))) same (fun _=>by first|rfl|(dsimp only;split<;>rfl))⟩ al0))
         ·refine I9 hS trivial 162 ⟨[(161,pN x8),(160,.vec 101000),(159,.p (.v (.bool false))),(19,.vec 144000),(17,.vec 138000),(16,pN x8),(15,.vec 101000),(11,.reg 12000 0),(9,pN ((wrap .i64 m).tmod (y1.1.Tree.n:Int))),(7,.reg 8000 0)],[(144000,.vec C0 1 q.1.n (fun i=>cI .i64 (q.1.g i)) true),(138000,.vec C0 1 j.1.n (fun i=>cI .i64 (j.1.g i)) true),(101000,.vec Gs 1 (x7.upd x8.toNat ((x8==((wrap .i64 m).tmod (y1.1.Tree.n:Int)))||((decide (0<=(y1.1.Tree.g x8.toNat).Parent))&&(x7.g (y1.1.Tree.g x8.toNat).Parent.toNat)))).n (fun i=>cB ((x7.upd x8.toNat ((x8==((wrap .i64 m).tmod (y1.1.Tree.n:Int)))||((decide (0<=(y1.1.Tree.g x8.toNat).Parent))&&(x7.g (y1.1.Tree.g x8.toNat).Parent.toNat)))).g i)) false),(12000,.cells ((A2 y3.1).map .p)),(8000,.cells ((A2 y1.1).map .p))]⟩ (ids:=[(8000,8000),(12000,12000),(101000,101000),(138000,138000),(144000,144000)]) ?_ (hle:=klR [(6,.fn x7.n (x7.upd x8.toNat ((x8==((wrap .i64 m).tmod (y1.1.Tree.n:Int)))||((decide (0<=(y1.1.Tree.g x8.toNat).Parent))&&(x7.g (y1.1.Tree.g x8.toNat).Parent.toNat)))).n (fun l=>if l=x8.toNat then splice ((fun i=>cB (x7.g i)) l) 0 [.bb ((x8==((wrap .i64 m).tmod (y1.1.Tree.n:Int)))||((decide (0<=(y1.1.Tree.g x8.toNat).Parent))&&(x7.g (y1.1.Tree.g x8.toNat).Parent.toNat)))]else (fun i=>cB (x7.g i)) l) (fun i=>cB ((x7.upd x8.toNat ((x8==((wrap .i64 m).tmod (y1.1.Tree.n:Int)))||((decide (0<=(y1.1.Tree.g x8.toNat).Parent))&&(x7.g (y1.1.Tree.g x8.toNat).Parent.toNat)))).g i)))] (al1 ⟨rfl,Tl (c:=cB) (v:=x7) (x:=(x8==((wrap .i64 m).tmod (y1.1.Tree.n:Int)))||((decide (0<=(y1.1.Tree.g x8.toNat).Parent))&&(x7.g (y1.1.Tree.g x8.toNat).Parent.toNat))) same (fun _=>by first|rfl|(dsimp only;split<;>rfl))⟩ al0));obtain⟨c122,h⟩:=E6 h;refine Fl hS c122 (b:=!((x7.upd x8.toNat ((x8==((wrap .i64 m).tmod (y1.1.Tree.n:Int)))||((decide (0<=(y1.1.Tree.g x8.toNat).Parent))&&(x7.g (y1.1.Tree.g x8.toNat).Parent.toNat)))).g x8.toNat)) (fun c123=>?_) (fun c123=>?_)
          ·replace h:=itT c123 h;refine kC hS h (Dt hS hL) (fun a3 h=>?_);exact s _ [(8000,8000),(12000,12000),(101000,101000),(138000,138000),(144000,144000)] _ (!a3) trivial h
          ·replace h:=itF c123 h;exact s _ [(8000,8000),(12000,12000),(101000,101000),(138000,138000),(144000,144000)] _ false trivial h
      ·refine kI hS h ?_ ?_<;>intro h
       ·cases h;exact kR hS
       ·obtain⟨c125,h⟩:=E6 h;refine H7 hS c125 h (fun f d=>⟨[(22,pN d),(21,.vec 176000),(19,.vec 144000),(17,.vec 138000),(16,pN x8),(15,.vec 101000),(11,.reg 12000 0),(9,pN ((wrap .i64 m).tmod (y1.1.Tree.n:Int))),(7,.reg 8000 0)],[(176000,.vec C0 1 f.n (fun i=>cI .i64 (f.g i)) false),(144000,.vec C0 1 q.1.n (fun i=>cI .i64 (q.1.g i)) true),(138000,.vec C0 1 j.1.n (fun i=>cI .i64 (j.1.g i)) true),(101000,.vec Gs 1 (x7.upd x8.toNat ((x8==((wrap .i64 m).tmod (y1.1.Tree.n:Int)))||((decide (0<=(y1.1.Tree.g x8.toNat).Parent))&&(x7.g (y1.1.Tree.g x8.toNat).Parent.toNat)))).n (fun i=>cB ((x7.upd x8.toNat ((x8==((wrap .i64 m).tmod (y1.1.Tree.n:Int)))||((decide (0<=(y1.1.Tree.g x8.toNat).Parent))&&(x7.g (y1.1.Tree.g x8.toNat).Parent.toNat)))).g i)) false),(12000,.cells ((A2 y3.1).map .p)),(8000,.cells ((A2 y1.1).map .p))]⟩) (ids:=[(8000,8000),(12000,12000),(101000,101000),(138000,138000),(144000,144000),(176000,176000)]) (fun _ _ _ _ _ a4 f d z h=>?_);refine kI hS h ?_ ?_<;>intro h
        ·obtain⟨c137,h⟩:=E6 h;obtain⟨c138,h⟩:=E6 h;refine kB hS (A7 hS) c137 c138 24 (.o (.o (.o (.a (decide ((j.1.g d.toNat)<0))) (.a (decide ((q.1.g d.toNat)<0)))) (.a (decide ((f.n:Int)<=(j.1.g d.toNat))))) (.a (decide ((f.n:Int)<=(q.1.g d.toNat))))) ?_;refine kI hS h ?_ ?_<;>intro h
         ·cases h;exact kR hS
         ·obtain⟨c140,h⟩:=E6 h;refine I9 hS (And.intro (And.intro (And.intro (And.intro (And.intro (And.intro (And.intro c140.1.1.1.1.1.1.1 c140.1.1.1.1.1.1.2) c140.1.1.1.1.1.2) c140.1.1.1.1.2) c140.1.1.1.2) (And.intro (rfl:(1:Nat)=1) (And.intro c140.1.1.2 (by decide:(1:Nat)<=1)))) c140.1.2) c140.2) 226 ⟨[(225,pN (q.1.g d.toNat)),(221,.vec 176000),(22,pN d),(21,.vec 176000),(19,.vec 144000),(17,.vec 138000),(16,pN x8),(15,.vec 101000),(11,.reg 12000 0),(9,pN ((wrap .i64 m).tmod (y1.1.Tree.n:Int))),(7,.reg 8000 0)],[(176000,.vec C0 1 (f.upd (j.1.g d.toNat).toNat (wrap .i64 ((f.g (j.1.g d.toNat).toNat)+1))).n (fun i=>cI .i64 ((f.upd (j.1.g d.toNat).toNat (wrap .i64 ((f.g (j.1.g d.toNat).toNat)+1))).g i)) false),(144000,.vec C0 1 q.1.n (fun i=>cI .i64 (q.1.g i)) true),(138000,.vec C0 1 j.1.n (fun i=>cI .i64 (j.1.g i)) true),(101000,.vec Gs 1 (x7.upd x8.toNat ((x8==((wrap .i64 m).tmod (y1.1.Tree.n:Int)))||((decide (0<=(y1.1.Tree.g x8.toNat).Parent))&&(x7.g (y1.1.Tree.g x8.toNat).Parent.toNat)))).n (fun i=>cB ((x7.upd x8.toNat ((x8==((wrap .i64 m).tmod (y1.1.Tree.n:Int)))||((decide (0<=(y1.1.Tree.g x8.toNat).Parent))&&(x7.g (y1.1.Tree.g x8.toNat).Parent.toNat)))).g i)) false),(12000,.cells ((A2 y3.1).map .p)),(8000,.cells ((A2 y1.1).map .p))]⟩ (ids:=[(8000,8000),(12000,12000),(101000,101000),(138000,138000),(144000,144000),(176000,176000)]) ?_ (hle:=klR [(4,.fn f.n (f.upd (j.1.g d.toNat).toNat (wrap .i64 ((f.g (j.1.g d.toNat).toNat)+1))).n (fun l=>if l=(j.1.g d.toNat).toNat then splice ((fun i=>cI .i64 (f.g i)) l) 0 [pI .i64 (wrap .i64 ((f.g (j.1.g d.toNat).toNat)+1))]else (fun i=>cI .i64 (f.g i)) l) (fun i=>cI .i64 ((f.upd (j.1.g d.toNat).toNat (wrap .i64 ((f.g (j.1.g d.toNat).toNat)+1))).g i)))] (al1 ⟨rfl,Tl (c:=cI .i64) (v:=f) (x:=wrap .i64 ((f.g (j.1.g d.toNat).toNat)+1)) same (fun _=>by first|rfl|(dsimp only;split<;>rfl))⟩ al0));obtain⟨c141,h⟩:=E6 h;exact z _ [(8000,8000),(12000,12000),(101000,101000),(138000,138000),(144000,144000),(176000,176000)] _ ((f.upd (j.1.g d.toNat).toNat (wrap .i64 ((f.g (j.1.g d.toNat).toNat)+1))).upd (q.1.g d.toNat).toNat (wrap .i64 (((f.upd (j.1.g d.toNat).toNat (wrap .i64 ((f.g (j.1.g d.toNat).toNat)+1))).g (q.1.g d.toNat).toNat)-1))) (wrap .i64 (d+1)) (And.intro (And.intro (And.intro c141.1.1.1 c141.1.1.2) c141.1.2) (And.intro (rfl:(1:Nat)=1) (And.intro c141.2 (by decide:(1:Nat)<=1)))) h (hle:=klR [(3,.fn (f.upd (j.1.g d.toNat).toNat (wrap .i64 ((f.g (j.1.g d.toNat).toNat)+1))).n ((f.upd (j.1.g d.toNat).toNat (wrap .i64 ((f.g (j.1.g d.toNat).toNat)+1))).upd (q.1.g d.toNat).toNat (wrap .i64 (((f.upd (j.1.g d.toNat).toNat (wrap .i64 ((f.g (j.1.g d.toNat).toNat)+1))).g (q.1.g d.toNat).toNat)-1))).n (fun l=>if l=(q.1.g d.toNat).toNat then splice ((fun i=>cI .i64 ((f.upd (j.1.g d.toNat).toNat (wrap .i64 ((f.g (j.1.g d.toNat).toNat)+1))).g i)) l) 0 [pI .i64 (wrap .i64 (((f.upd (j.1.g d.toNat).toNat (wrap .i64 ((f.g (j.1.g d.toNat).toNat)+1))).g (q.1.g d.toNat).toNat)-1))]else (fun i=>cI .i64 ((f.upd (j.1.g d.toNat).toNat (wrap .i64 ((f.g (j.1.g d.toNat).toNat)+1))).g i)) l) (fun i=>cI .i64 (((f.upd (j.1.g d.toNat).toNat (wrap .i64 ((f.g (j.1.g d.toNat).toNat)+1))).upd (q.1.g d.toNat).toNat (wrap .i64 (((f.upd (j.1.g d.toNat).toNat (wrap .i64 ((f.g (j.1.g d.toNat).toNat)+1))).g (q.1.g d.toNat).toNat)-1))).g i)))] (al1 ⟨rfl,Tl (c:=cI .i64) (v:=f.upd (j.1.g d.toNat).toNat (wrap .i64 ((f.g (j.1.g d.toNat).toNat)+1))) (x:=wrap .i64 (((f.upd (j.1.g d.toNat).toNat (wrap .i64 ((f.g (j.1.g d.toNat).toNat)+1))).g (q.1.g d.toNat).toNat)-1)) same (fun _=>by first|rfl|(dsimp only;split<;>rfl))⟩ al0))
        ·refine O9 hS trivial h (fun u=>⟨[(23,pN u),(21,.vec 176000),(16,pN x8),(15,.vec 101000),(11,.reg 12000 0),(9,pN ((wrap .i64 m).tmod (y1.1.Tree.n:Int))),(7,.reg 8000 0)],[(176000,.vec C0 1 f.n (fun i=>cI .i64 (f.g i)) false),(101000,.vec Gs 1 (x7.upd x8.toNat ((x8==((wrap .i64 m).tmod (y1.1.Tree.n:Int)))||((decide (0<=(y1.1.Tree.g x8.toNat).Parent))&&(x7.g (y1.1.Tree.g x8.toNat).Parent.toNat)))).n (fun i=>cB ((x7.upd x8.toNat ((x8==((wrap .i64 m).tmod (y1.1.Tree.n:Int)))||((decide (0<=(y1.1.Tree.g x8.toNat).Parent))&&(x7.g (y1.1.Tree.g x8.toNat).Parent.toNat)))).g i)) false),(12000,.cells ((A2 y3.1).map .p)),(8000,.cells ((A2 y1.1).map .p))]⟩) (ids:=[(8000,8000),(12000,12000),(101000,101000),(176000,176000)]) (fun _ _ _ _ _ a5 u a0 h=>?_);refine kI hS h ?_ ?_<;>intro h
         ·obtain⟨c149,h⟩:=E6 h;refine D6 hS c149 (b:=(f.g u.toNat) != 0) (fun c150=>?_) (fun c150=>?_)
          ·replace h:=itT c150 h;cases h;exact kR hS
          ·replace h:=itF c150 h;exact a0 _ [(8000,8000),(12000,12000),(101000,101000),(176000,176000)] _ (wrap .i64 (u+1)) trivial h
         ·exact a2 _ [(8000,8000),(12000,12000),(101000,101000)] _ (x7.upd x8.toNat ((x8==((wrap .i64 m).tmod (y1.1.Tree.n:Int)))||((decide (0<=(y1.1.Tree.g x8.toNat).Parent))&&(x7.g (y1.1.Tree.g x8.toNat).Parent.toNat)))) (wrap .i64 (x8+1)) trivial h
     ·refine kC hS h (Fu hS hL) (fun a7 h=>?_);cases h;exact kR hS
end Go.AM
namespace Go.AM
set_option maxRecDepth 1000000
theorem RV:W5 4194304=some true:=by decide +kernel
end Go.AM
namespace Go.AM
open IntKind (wrap)
open Go.Proofs
theorem WQ {A R:Type}{body:(A->Option R)->A->Option R}(I:Nat->A->Prop)(n:Nat)(I2:R->Prop)
 (b:∀self i a,i<=n->I i a->(i<n->∀a',I (i+1) a' -> ∃r,self a' = some r/\I2 r)->∃r,body self a=some r/\I2 r) :
 ∀(N i:Nat) (a:A),i<=n->I i a->n-i<N->∃r,Q6 N body a=some r/\I2 r
 |0,_,_,_,_,h=>by omega
 |N+1,i,a,hi,hI,h=>by rw[FU];exact b _ i a hi hI fun c a' d=>WQ I n I2 b N (i+1) a' c d (by omega)
theorem Ab {A R:Type}{body:(A->Option R)->A->Option R}(I:Nat->A->Prop)(n:Nat)(I2:R->Prop){N:Nat}(c:n<N){a:A}(d:I 0 a)
 (b:∀self i a,i<=n->I i a->(i<n->∀a',I (i+1) a' -> ∃r,self a' = some r/\I2 r)->∃r,body self a=some r/\I2 r):∃r,Q6 N body a=some r/\I2 r:=
 WQ I n I2 b N 0 a (Am1 _) d c
theorem DN {A B R:Type}{body:(A->B->Option R)->A->B->Option R}(I:Nat->A->B->Prop)(n:Nat)(I2:R->Prop){N:Nat}(g:n<N){a:A}{b:B}(j:I 0 a b)
 (d:∀c i a b,i<=n->I i a b->(i<n->∀a' b',I (i+1) a' b' -> ∃r,c a' b' = some r/\I2 r)->∃r,body c a b=some r/\I2 r):∃r,AW N body a b=some r/\I2 r:=
 WQ (fun i x=>I i x.1 x.2) n I2 (fun c i x l m h=>d (fun a b=>c (a,b)) i x.1 x.2 l m fun hl a' b' f=>h hl (a',b') f) N 0 (a,b) (Am1 _) j g
theorem loop3 {A B C R:Type}{body:(A->B->C->Option R)->A->B->C->Option R}(I:Nat->A->B->C->Prop)(n:Nat)(I2:R->Prop){N:Nat}(j:n<N){a:A}{b:B}{c:C}(l:I 0 a b c)
 (f:∀d i a b c,i<=n->I i a b c->(i<n->∀a' b' c',I (i+1) a' b' c' -> ∃r,d a' b' c' = some r/\I2 r)->∃r,body d a b c=some r/\I2 r):∃r,Ad7 N body a b c=some r/\I2 r:=
 WQ (fun i x=>I i x.1 x.2.1 x.2.2) n I2 (fun d i x m o h=>f (fun a b c=>d (a,b,c)) i x.1 x.2.1 x.2.2 m o fun hl a' b' c' g=>h hl (a',b',c') g) N 0 (a,b,c) (Am1 _) l j
theorem E9 {X R:Type}{Q:R->Prop}{o:Option X}{f:X->Option R}{x:X}(h:o=some x)(a:∃r,f x=some r/\Q r):∃r,o.bind f=some r/\Q r:=by subst h;exact a
theorem ltX {R A:Type}{Q:R->Prop}{k:A->Option R}{f:(A->Option R)->Option R}(h:∃r,f k=some r/\Q r):∃r,lt k f=some r/\Q r:=h
theorem ifT {R:Type}{Q:R->Prop}{p:Prop}[Decidable p]{a b:Option R}(h:p)(c:∃r,a=some r/\Q r):∃r,(if p then a else b)=some r/\Q r:=by rw[if_pos h];exact c
theorem ifF {R:Type}{Q:R->Prop}{p:Prop}[Decidable p]{a b:Option R}(h:¬p)(c:∃r,b=some r/\Q r):∃r,(if p then a else b)=some r/\Q r:=by rw[if_neg h];exact c
theorem H1 {n:Int}(h : -9223372036854775808<=n)(h' : n<=9223372036854775807):IntKind.i64.wrap n=n:=by
 by_cases a:0<=n
 ·have h1:n % (2 ^ 64:Int)=n:=Ao1 a (by omega);unfold wrap;simp only[IntKind.bits,IntKind.signed,h1];rw[if_neg];simp;omega
 ·have h1:n % (2 ^ 64:Int)=n+2 ^ 64:=by rw[<- Int.add_emod_right];exact Ao1 (by omega) (by omega)
  unfold wrap;simp only[IntKind.bits,IntKind.signed,h1];rw[if_pos]
  ·omega
  ·simp;omega
theorem J1 {i:Nat}(h:i<1000000000000000000):IntKind.i64.wrap ((i:Int)+1)=((i+1:Nat):Int):=by rw[H1 (by omega) (by omega)];rfl
theorem Zb {i:Nat}(a:1<=i)(h:i<1000000000000000000):IntKind.i64.wrap ((i:Int)-1)=((i-1:Nat):Int):=by rw[H1 (by omega) (by omega)];omega
theorem Ab9 {i j:Nat}(h:i+j<1000000000000000000):IntKind.i64.wrap ((i:Int)+(j:Int))=((i+j:Nat):Int):=by rw[H1 (by omega) (by omega)];rfl
end Go.AM
namespace Go.AM
open Go.Proofs
def okP:Nat->Pat->Prop
 |0,_=>False
 |d+1,p=>p.L.n<=40/\(p.Kind=5->p.L.n=1/\0<=p.Min/\p.Min<=32/\(p.Max = -1 \/ (p.Min<=p.Max/\p.Max<=32)))/\∀i,i<p.L.n->okP d (p.L.g i)
end Go.AM
namespace Go.AM
open Go.Proofs
abbrev sOf (x y:BitVec 32):Sound:=⟨(x.toNat:Int),(y.toNat:Int)⟩
def okS (s:Sound):Prop:=∃p m:BitVec 32,s=sOf p m
theorem eq0 (x:BitVec 32):((x.toNat:Int)==0)=decide (x=0#32):=by
 rw[Ak5];simp only[beq_iff_eq,decide_eq_true_eq];constructor
 ·intro h;apply An9;show x.toNat=0;omega
 ·rintro rfl;rfl
theorem z32 (x:BitVec 32):x=0#32 ↔ ∀i,i<32->x.getLsbD i=false:=by
 constructor
 ·rintro rfl i a;simp
 ·intro h;apply An1;intro i a;rw[h i a];simp
theorem Ac0 (x:BitVec 32)(i:Nat):(K4 .and .u32 (shI .shr .u32 (x.toNat:Int) (i:Int)) 1==1)=x.getLsbD i:=by
 rw[XD,show (1:Int)=((1#32).toNat:Int) from rfl,IR];have h:(x >>> i &&& 1#32)=(BitVec.ofBool (x.getLsbD i)).setWidth 32:=by
  apply An1;intro j b;simp only[Ap5,BitVec.getLsbD_ushiftRight,BitVec.getLsbD_setWidth,BitVec.getLsbD_ofBool];by_cases a:j=0
  ·subst a;simp
  ·have:(1#32).getLsbD j=false:=by rw[BitVec.getLsbD_one];simp[a]
   simp[this,a]
 rw[h];cases x.getLsbD i<;>rfl
theorem JH (x:BitVec 32):x.toNat<16777216 ↔ ∀i,24<=i->i<32->x.getLsbD i=false:=by
 constructor
 ·intro h i a b;exact As4 (Ag4 h (Aq4 (n:=2) (i:=24) (by omega) a))
 ·intro h;refine Nat.lt_pow_two_of_testBit (n:=24) _ fun i a=>?_;by_cases c:i<32
  ·exact h i a c
  ·exact As4 (Ag4 x.isLt (Aq4 (by omega) (by omega)))
def vB (p m:BitVec 32):Bool:=decide (∀i:Fin 32,¬(p.getLsbD i=true/\m.getLsbD i=true)/\(24<=i.1->p.getLsbD i=false/\m.getLsbD i=false))
theorem Rw (p m:BitVec 32):vB p m=true ↔ ∀i,i<32->¬(p.getLsbD i=true/\m.getLsbD i=true)/\(24<=i->p.getLsbD i=false/\m.getLsbD i=false):=by rw[vB,decide_eq_true_eq];exact⟨fun h i a=>h ⟨i,a⟩,fun h i=>h i.1 i.2⟩
theorem Rx (p m:BitVec 32):p &&& m=0#32 ↔ ∀i,i<32->¬(p.getLsbD i=true/\m.getLsbD i=true):=by rw[z32];refine forall_congr' fun i=>forall_congr' fun a=>?_;rw[Ap5,At0];cases p.getLsbD i<;>cases m.getLsbD i<;>simp
theorem Ac1 (p m:BitVec 32):vB p m=true↔p &&& m=0#32/\(p ||| m).toNat<16777216:=by
 rw[Rw,Rx,JH];constructor
 ·intro h;refine⟨fun i a=>(h i a).1,fun i h1 b=>?_⟩
  have:=(h i b).2 h1
  rw[Am5,this.1,this.2];rfl
 ·rintro⟨h1,b⟩ i a;refine⟨h1 i a,fun c=>?_⟩
  have:=b i c a
  rw[Am5,Ao4]at this;exact this
theorem Ac2 (p m:BitVec 32):vB p m=true↔p &&& m=0#32/\p.toNat<16777216/\m.toNat<16777216:=by rw[Rw,Rx,JH,JH];exact⟨fun h=>⟨fun i a=>(h i a).1,fun i h1 b=>((h i b).2 h1).1,fun i h1 b=>((h i b).2 h1).2⟩,fun⟨h1,b,d⟩ i a=>⟨h1 i a,fun c=>⟨b i c a,d i c a⟩⟩⟩
theorem JI {N:Nat}(p m:BitVec 32):E8 N (sOf p m)=some (vB p m):=by unfold E8;rw[IR,Uk,eq0];congr 1;rw[Ak5,Ac1];simp only[Ae6,decide_eq_true_eq];exact⟨fun h=>⟨h.1,by have:=h.2;omega⟩,fun h=>⟨h.1,by have:=h.2;omega⟩⟩
theorem shr24 (x:BitVec 32):(shI .shr .u32 (x.toNat:Int) 24==0)=decide (x.toNat<16777216):=by
 rw[show (24:Int)=((24:Nat):Int) from rfl,XD,Ak5];simp only[beq_iff_eq,decide_eq_true_eq,Ar7,Ar2]
 have:=Nat.div_eq_zero_iff (a:=x.toNat) (b:=2 ^ 24)
 omega
theorem UH {N:Nat}(p m:BitVec 32):Am N (sOf p m)=some (vB p m):=by unfold Am;rw[IR,Uk,eq0,shr24];congr 1;rw[Ak5,Ac1];simp only[Ae6,decide_eq_true_eq]
theorem UI {N:Nat}(p m:BitVec 32):K3 N (sOf p m)=some (vB p m):=UH (N:=N) p m
theorem SZ {N:Nat}(p m:BitVec 32):Z7 N (sOf p m)=some (vB p m):=by unfold Z7;rw[IR,eq0];congr 1;rw[Ak5,Ac2];simp only[Ae6,decide_eq_true_eq];exact⟨fun h=>⟨h.1.1,by have:=h.1.2;omega,by have:=h.2;omega⟩,fun h=>⟨⟨h.1,by have:=h.2.1;omega⟩,by have:=h.2.2;omega⟩⟩
theorem Lw {N:Nat}(p m:BitVec 32)(n:1000<=N):Z6 N (sOf p m)=some (vB p m):=by
 suffices h:∃r,Z6 N (sOf p m)=some r/\r=vB p m by obtain⟨r,h,rfl⟩:=h;exact h
 unfold Z6;refine Ab (fun i x1=>x1=(i:Int)/\∀j,j<i->¬(p.getLsbD j=true/\m.getLsbD j=true)/\(24<=j->p.getLsbD j=false/\m.getLsbD j=false)) 32 _ (by omega) ⟨rfl,fun j d=>absurd d (by omega)⟩ ?_;rintro g i x1 o ⟨rfl,h1⟩ hs;by_cases hl:i<32
 ·refine ifT (by simp;omega) (ifT (by omega) ?_);simp only[Ac0];have e24:decide ((24:Int)<=(i:Int))=decide (24<=i):=decide_eq_decide.2 (by omega);rw[e24];by_cases hb:¬(p.getLsbD i=true/\m.getLsbD i=true)/\(24<=i->p.getLsbD i=false/\m.getLsbD i=false)
  ·refine ifF ?_ (hs hl _ ⟨J1 (by omega),fun j d=>?_⟩)
   ·intro h;obtain⟨l,f⟩:=hb;revert h l f;by_cases c:24<=i
    ·intro h l f;obtain⟨a,b⟩:=f c;simp[a,b]at h
    ·cases p.getLsbD i<;>cases m.getLsbD i<;>simp[c]
   ·by_cases e:j=i
    ·subst e;exact hb
    ·exact h1 j (by omega)
  ·refine ifT ?_ ⟨false,rfl,?_⟩
   ·revert hb;by_cases c:24<=i
    ·cases p.getLsbD i<;>cases m.getLsbD i<;>simp[c]
    ·cases p.getLsbD i<;>cases m.getLsbD i<;>simp[c]
   ·symm;rw[<- As1,Rw];exact fun h=>hb (h i hl)
 ·refine ifF (by simp;omega) ⟨true,rfl,?_⟩;symm;rw[Rw];exact fun j d=>h1 j (by omega)
def gB (p m:BitVec 32)(f:Nat):Int:=if p.getLsbD f then 1 else if m.getLsbD f then -1 else 0
end Go.AM
namespace Go.AM
open Go.Proofs
def vS (s:Sound):Prop:=∃p m:BitVec 32,s=sOf p m/\vB p m=true
def Fv (p:Pat):Prop:=
 (0<=p.Kind/\p.Kind<=6)/\(p.Kind≠1->(p.Is.Plus=0/\p.Is.Minus=0)/\p.Not=false)/\(p.Kind≠3->p.Kind≠4->p.Kind≠5->p.L.n=0)/\(p.Kind≠5->p.Min=0/\p.Max=0) /\
 (p.Kind=5->p.L.n=1/\0<=p.Min/\p.Min<=32/\(p.Max = -1 \/ (p.Min<=p.Max/\p.Max<=32)))/\vS p.Is
theorem WR {s:Sound}{p m:BitVec 32}(h:s=sOf p m):vS s↔vB p m=true:=by
 constructor
 ·rintro⟨q,r,e,a⟩;rw[h]at e;have e1:(p.toNat:Int)=q.toNat:=congrArg Sound.Plus e;have e2:(m.toNat:Int)=r.toNat:=congrArg Sound.Minus e;rw[An9 (show p.toNat=q.toNat by omega),An9 (show m.toNat=r.toNat by omega)];exact a
 ·exact fun a=>⟨p,m,h,a⟩
def okPS:Pat->Prop
 |.nil=>True
 |.mk _ is _ _ _ n g=>okS is/\∀i,i<n->okPS (g i)
theorem okPS.is {p:Pat}(h:okPS p):okS p.Is:=by
 cases p with
 |nil=>exact⟨0#32,0#32,rfl⟩
 |mk _ is _ _ _ n g=>exact h.1
theorem okPS.L {p:Pat}(h:okPS p){i:Nat}(a:i<p.L.n):okPS (p.L.g i):=by
 cases p with
 |nil=>exact absurd a (by show ¬i<0;omega)
 |mk _ is _ _ _ n g=>exact h.2 i a
def chk:Nat->List Pat->Prop
 |0,l=>l=[]
 |_+1,[]=>True
 |k+1,p::l=>Fv p/\chk k (p.L.toList++l)
theorem UJ:∀k,chk k []
 |0=>rfl
 |_+1=>trivial
theorem MT:∀(k:Nat) (l:List Pat),chk k l->l.length<=k
 |0,l,h=>by rw[show l=[] from h];exact Af0 _
 |k+1,[],_=>Am1 _
 |k+1,p::l,⟨_,h⟩=>by
  have:=MT k _ h
  rw[Ai4]at this;simp only[Ah5];omega
theorem RA:∀(d:Nat) (p:Pat),okP d p->okP (d+1) p
 |0,_,h=>h.elim
 |d+1,p,⟨h1,h2,h3⟩=>⟨h1,h2,fun i a=>RA d _ (h3 i a)⟩
theorem Ta {α : Type}{s:Sl α}{i:Nat}(h:i<s.n):s.g i∈s.toList:=Am7.2 ⟨i,Ak3.2 h,rfl⟩
theorem CJ {α : Type}(s:Sl α):s.toList.length=s.n:=by simp[Sl.toList]
theorem UK:∀(k:Nat) (l:List Pat),k<=40->chk k l->∀p∈l,okP k p
 |0,l,_,h,p,hp=>by rw[show l=[] from h]at hp;cases hp
 |k+1,[],_,_,p,hp=>by cases hp
 |k+1,q::l,hk,⟨hn,h⟩,p,hp=>by
  have ih:=UK k _ (by omega) h;rcases Ah9.1 hp with rfl|hp
  ·have hl:=MT k _ h;rw[Ai4,CJ]at hl;exact⟨by omega,fun a=>hn.2.2.2.2.1 a,fun i b=>ih _ (Ag6 _ (Ta b))⟩
  ·exact RA k p (ih p (Af7 _ hp))
theorem WS {N:Nat}{p:Pat}(hp:okS p.Is):∃e,GX N p=some e/\(e=0↔Fv p):=by
 obtain⟨a,b,f⟩:=hp;have i:=WR f;unfold GX Fv;by_cases h1:0<=p.Kind/\p.Kind<=6
 case neg=>exact ifT (by simp;omega) ⟨2,rfl,by simp;omega⟩
 refine ifF (by simp;omega) ?_;have e0:((p.Is.Plus==0)&&(p.Is.Minus==0))=decide (p.Is.Plus=0/\p.Is.Minus=0):=by rw[Ak5];simp
 rw[e0];by_cases c:p.Kind≠1->(p.Is.Plus=0/\p.Is.Minus=0)/\p.Not=false
 case neg=>
  refine ifT ?_ ⟨2,rfl,by simp[c]⟩;simp only[Ae6,Ag9,bne_iff_ne,ne_eq,As1,decide_eq_false_iff_not];rw[Classical.not_imp]at c;refine⟨c.1,?_⟩;by_cases h:p.Is.Plus=0/\p.Is.Minus=0
  ·right
   cases hn:p.Not
   ·exact absurd ⟨h,hn⟩ c.2
   ·rfl
  ·exact .inl h
 refine ifF ?_ (ltX ?_)
 ·simp only[Ae6,Ag9,bne_iff_ne,ne_eq,As1,decide_eq_false_iff_not];rintro⟨g1,g2⟩;obtain⟨g3,g4⟩:=c g1;rcases g2 with g2|g2
  ·exact g2 g3
  ·rw[g4]at g2;cases g2
 have rest:(p.Kind≠3->p.Kind≠4->p.Kind≠5->p.L.n=0)->∃e,(if ((p.Kind != 5)&&((p.Min != 0)||(p.Max != 0))) then some (2:Int)else
  lt (fun (z2:Bool)=>if z2 then some 2 else (Z7 N p.Is).bind fun y1=>if (!y1) then some 14 else some 0) fun k2=>
   if (p.Kind==5) then if (((p.L.n:Nat):Int) != 1) then k2 true else if (decide (p.Min<0)) then k2 true else if (decide (32<p.Min)) then k2 true else
    if (p.Max != (-1)) then if (decide (p.Max<p.Min)) then k2 true else k2 (decide (32<p.Max))else k2 false else k2 false)=some e /\
  (e=0↔(0<=p.Kind/\p.Kind<=6)/\(p.Kind≠1->(p.Is.Plus=0/\p.Is.Minus=0)/\p.Not=false)/\(p.Kind≠3->p.Kind≠4->p.Kind≠5->p.L.n=0)/\(p.Kind≠5->p.Min=0/\p.Max=0) /\
   (p.Kind=5->p.L.n=1/\0<=p.Min/\p.Min<=32/\(p.Max = -1 \/ (p.Min<=p.Max/\p.Max<=32)))/\vS p.Is):=by
  intro j;by_cases d:p.Kind≠5->p.Min=0/\p.Max=0
  case neg=>refine ifT ?_ ⟨2,rfl,by simp[d]⟩;rw[Classical.not_imp]at d;simp only[Ae6,Ag9,bne_iff_ne,ne_eq];omega
  refine ifF ?_ (ltX ?_)
  ·simp only[Ae6,Ag9,bne_iff_ne,ne_eq];rintro⟨g1,g2⟩
   have:=d g1
   omega
  have last:(p.Kind=5->p.L.n=1/\0<=p.Min/\p.Min<=32/\(p.Max = -1 \/ (p.Min<=p.Max/\p.Max<=32)))->∃e,(if false then some (2:Int)else (Z7 N p.Is).bind fun y1=>if (!y1) then some 14 else some 0)=some e /\
   (e=0↔(0<=p.Kind/\p.Kind<=6)/\(p.Kind≠1->(p.Is.Plus=0/\p.Is.Minus=0)/\p.Not=false)/\(p.Kind≠3->p.Kind≠4->p.Kind≠5->p.L.n=0)/\(p.Kind≠5->p.Min=0/\p.Max=0) /\
    (p.Kind=5->p.L.n=1/\0<=p.Min/\p.Min<=32/\(p.Max = -1 \/ (p.Min<=p.Max/\p.Max<=32)))/\vS p.Is):=by
   intro g;refine ifF (by simp) ?_;rw[i,f,SZ];refine E9 rfl ?_;cases l:vB a b
   ·exact ifT rfl ⟨14,rfl,by simp⟩
   ·exact ifF (by simp) ⟨0,rfl,by rw[<- f];exact⟨fun _=>⟨h1,c,j,d,g,rfl⟩,fun _=>rfl⟩⟩
  have bad:¬(p.Kind=5->p.L.n=1/\0<=p.Min/\p.Min<=32/\(p.Max = -1 \/ (p.Min<=p.Max/\p.Max<=32)))->∃e,(if true then some (2:Int)else (Z7 N p.Is).bind fun y1=>if (!y1) then some 14 else some 0)=some e /\
   (e=0↔(0<=p.Kind/\p.Kind<=6)/\(p.Kind≠1->(p.Is.Plus=0/\p.Is.Minus=0)/\p.Not=false)/\(p.Kind≠3->p.Kind≠4->p.Kind≠5->p.L.n=0)/\(p.Kind≠5->p.Min=0/\p.Max=0) /\
    (p.Kind=5->p.L.n=1/\0<=p.Min/\p.Min<=32/\(p.Max = -1 \/ (p.Min<=p.Max/\p.Max<=32)))/\vS p.Is):=fun g=>ifT rfl ⟨2,rfl,⟨fun h=>absurd h (by decide),fun h=>absurd h.2.2.2.2.1 g⟩⟩
  by_cases k5:p.Kind=5
  ·refine ifT (by simp[k5]) ?_;by_cases g1:p.L.n=1
   case neg=>exact ifT (by simp;omega) (bad fun h=>g1 (h k5).1)
   refine ifF (by simp;omega) ?_;by_cases g2:p.Min<0
   ·exact ifT (by simpa using g2) (bad fun h=>by have:=h k5;omega)
   refine ifF (by simpa using g2) ?_;by_cases g3:32<p.Min
   ·exact ifT (by simpa using g3) (bad fun h=>by have:=h k5;omega)
   refine ifF (by simpa using g3) ?_;by_cases g4:p.Max = -1
   ·exact ifF (by simp[g4]) (last fun _=>⟨g1,by omega,by omega,.inl g4⟩)
   refine ifT (by simp[g4]) ?_;by_cases g5:p.Max<p.Min
   ·exact ifT (by simpa using g5) (bad fun h=>by have:=h k5;omega)
   refine ifF (by simpa using g5) ?_;by_cases g6:32<p.Max
   ·rw[decide_eq_true g6];exact bad fun h=>by have:=h k5;omega
   ·rw[decide_eq_false g6];exact last fun _=>⟨g1,by omega,by omega,.inr ⟨by omega,by omega⟩⟩
  ·exact ifF (by simp[k5]) (last fun h=>absurd h k5)
 by_cases k3:p.Kind=3
 ·exact ifF (by simp[k3]) (ifF (by simp) (rest fun h=>absurd k3 h))
 refine ifT (by simp[k3]) ?_;by_cases k4:p.Kind=4
 ·exact ifF (by simp[k4]) (ifF (by simp) (rest fun _ h=>absurd k4 h))
 refine ifT (by simp[k4]) ?_;by_cases k5:p.Kind=5
 ·exact ifF (by simp[k5]) (ifF (by simp) (rest fun _ _ h=>absurd k5 h))
 refine ifT (by simp[k5]) ?_;by_cases hn:p.L.n=0
 ·exact ifF (by simp;omega) (rest fun _ _ _=>hn)
 ·exact ifT (by simp;omega) ⟨2,rfl,⟨fun h=>absurd h (by decide),fun h=>absurd (h.2.2.1 k3 k4 k5) hn⟩⟩
theorem Fw {α : Type}(s:Sl α){i:Nat}(h:i<s.n):s.toList.drop i=s.g i::s.toList.drop (i+1):=by
 have hl:i<s.toList.length:=by rw[CJ];exact h
 rw[Ao5 hl];simp[Sl.toList]
theorem Ev {α : Type}(s:Sl α):s.toList.drop s.n=[]:=Ak7 (by rw[CJ];exact Af0 _)
theorem UL {N:Nat}(o:1000<=N):∀(d:Nat),d<=40->∀(p:Pat),okPS p->∀M,N+d+1<=M->∃r,CD M p ((40-d:Nat):Int)=some r /\
 ∃k:Nat,r.1=(k:Int)/\40-d<=k/\k<=40/\(r.2=0->40-d<k/\∀l,chk d (p::l)↔chk (40-k) l)/\(r.2≠0->∀l,¬chk d (p::l))
 |d,hd,p,hp,0,hM=>by omega
 |0,hd,p,hp,M+1,hM=>by show ∃r,An (CD M) M p _=some r/\_;unfold An;exact ifT (by simp) ⟨_,rfl,40,rfl,by omega,by omega,fun h=>absurd h (by decide),fun _ l h=>by cases h⟩
 |d+1,hd,p,hp,M+1,hM=>by
  show ∃r,An (CD M) M p _=some r/\_;unfold An;refine ifF (by simp;omega) ?_;obtain⟨e,q,hn⟩:=WS (N:=M) hp.is;refine E9 q ?_;by_cases c:e=0
  case neg=>exact ifT (by simp[c]) ⟨_,rfl,40-(d+1),rfl,Af0 _,by omega,fun h=>absurd h c,fun _ l h=>c (hn.2 h.1)⟩
  refine ifF (by simp[c]) ?_;have a:=hn.1 c;rw[J1 (by omega)];refine DN (fun i x1 x2=>x2=(i:Int)/\∃k:Nat,x1=(k:Int)/\40-(d+1)+1+i<=k/\k<=40/\i<=p.L.n/\∀l,chk (d+1) (p::l)↔chk (40-k) (p.L.toList.drop i++l)) 41 _ (by omega)
   ⟨rfl,40-(d+1)+1,rfl,by omega,by omega,by omega,fun l=>by rw[show 40-(40-(d+1)+1)=d by omega];exact⟨fun h=>h.2,fun h=>⟨a,h⟩⟩⟩ ?_
  rintro j i x1 x2 t ⟨rfl,k,rfl,h1,s,u,f⟩ hs;by_cases hl:i<p.L.n
  ·refine ifT (by simp;omega) (ifT (by omega) ?_);obtain⟨r,m,k',r1,r2,r3,r4,r5⟩:=UL o (40-k) (by omega) (p.L.g i) (hp.L hl) M (by omega);rw[show ((40-(40-k):Nat):Int)=(k:Int) by omega]at m;refine E9 (by rw[Ae5];exact m) ?_;by_cases b:r.2=0
   ·refine ifF (by simp[b]) (hs (by omega) _ _ ⟨J1 (by omega),k',r1,by have:=(r4 b).1;omega,r3,by omega,fun l=>?_⟩);rw[f,Fw _ hl,Ah4];exact (r4 b).2 _
   ·refine ifT (by simp[b]) ⟨_,rfl,k',r1,by omega,r3,fun h=>absurd h b,fun _ l hc=>?_⟩;rw[f,Fw _ hl,Ah4]at hc;exact r5 b _ hc
  ·obtain rfl:i=p.L.n:=by omega
   refine ifF (by simp) ⟨_,rfl,k,rfl,by omega,s,fun _=>⟨by omega,fun l=>?_⟩,fun h=>absurd rfl h⟩;rw[f,Ev];rfl
theorem OI {N:Nat}(f:2000<=N){p:Pat}(hp:okPS p):∃e,Dg N p=some e/\(e=0↔chk 40 [p]):=by
 obtain⟨r,b,k,h1,g,i,c,d⟩:=UL (N:=1500) (by omega) 40 (Af0 _) p hp N (by omega);unfold Dg;refine E9 b ⟨_,rfl,fun h=>?_,fun h=>?_⟩
 ·exact ((c h).2 []).2 (UJ _)
 ·by_cases a:r.2=0
  ·exact a
  ·exact absurd h (d a [])
end Go.AM
namespace Go.AM
open Go.Proofs
theorem Ac3 {T A R:Type}{body:(A->Option R)->T->A->Option R}{k:A->Option R}{I2:R->Prop}(J:List T->A->Prop)(c:∀a,J [] a->∃r,k a=some r/\I2 r)
 (b:∀t L a self,J (t::L) a->(∀a',J L a' -> ∃r,self a' = some r/\I2 r)->∃r,body self t a=some r/\I2 r):∀(L:List T) (a:A),J L a->∃r,Y9 L body k a=some r/\I2 r
 |[],a,h=>c a h
 |t::L,a,h=>b t L a _ h fun a' h'=>Ac3 J c b L a' h'
end Go.AM
namespace Go.AM
open Go.Proofs
end Go.AM
namespace Go.AM
open Go.Proofs
end Go.AM
