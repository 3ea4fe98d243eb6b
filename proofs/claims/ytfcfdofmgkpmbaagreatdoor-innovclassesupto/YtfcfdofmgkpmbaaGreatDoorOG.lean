/- What a law's walk and its plain proof need, part 7: no condition of its own. -/
import Derived.Test.YtfcfdofmgkpmbaaGreatDoorOF
import Derived.Test.YtfcfdofmgkpmbaaGreatDoorOE
set_option linter.defProp false
set_option linter.unusedSimpArgs false
set_option linter.unusedVariables false
set_option linter.unusedSectionVars false
namespace Go.AM
def AT5:=@BitVec.getLsbD_or
def AW0:=@Nat.not_lt_zero
def AX5:=@BitVec.getLsbD_not
def AY5:=@Nat.testBit_two_pow_mul
def Ba6:=@Classical.axiomOfChoice
def Bb0:=@List.reverse_append
def Bc0:=@Bool.or_eq_false_iff
def Bc6:=@Bool.not_eq_true
def Bf3:=@Nat.lt_trichotomy
def Bf8:=@Bool.and_eq_false_iff
def Bg0:=@Nat.testBit_zero
def Bg1:=@List.mem_reverse
def Bg8:=@BitVec.getLsbD_zero
def Bh3:=@List.filter_append
def Bh7:=@List.mem_range'_1
def Bi2:=@List.filter_cons_of_pos
def Bi3:=@List.filter_cons_of_neg
def Bi6:=@Go.Lib.ctzFrom_spec
def Bi8:=@Nat.testBit_lt_two_pow
def Bi9:=@List.filter_eq_nil_iff
def Bj0:=@List.reverse_singleton
def Bj5:=@List.singleton_append
def Bj6:=@List.length_filter_le
def Bj9:=@BitVec.getLsbD_of_ge
def Bk5:=@Nat.div_eq_zero_iff
def Bl1:=@Nat.lt_of_le_of_lt
def Bl2:=@List.cons.inj
open Go.Proofs
set_option maxRecDepth 10000
set_option maxHeartbeats 2000000
variable {S:AD}(hS:H2 S Tryz.prog) (hL:PF S)
include hS hL
end Go.AM
namespace Go.AM
open IntKind (wrap)
open Go.Proofs
set_option maxRecDepth 10000
set_option maxHeartbeats 2000000
variable {S:AD}(hS:H2 S Tryz.prog) (hL:PF S)
include hS hL
def Cn (N:Nat)(a:A7):Option Bool:=
 if (((decide (70<(a.Tree.n:Int)))||(decide (70<(a.Laws.n:Int))))||(decide (70<(a.On.n:Int)))) then
  some false
 else
  V9 N (fun b (x1:Int)=>
   if (decide (x1<(a.On.n:Int))) then
    if ((0:Int)<=x1/\x1<(a.On.n:Int))then
     if (decide (70<((a.On.g x1.toNat).n:Int))) then
      some false
     else
      b (wrap .i64 (x1+1))
    else none
   else
    V9 N (fun c (x3:Int)=>
     if (decide (x3<(a.Laws.n:Int))) then
      if (((0:Int)<=x3/\x3<(a.Laws.n:Int))/\((0:Int)<=x3/\x3<=(wrap .i64 (x3+1))/\(wrap .i64 (x3+1))<=(a.Laws.n:Int)))then
       (Di N (a.Laws.sub x3.toNat (wrap .i64 (x3+1)).toNat)).bind fun d=>
       lt (fun (z3:Bool)=>
        if z3 then
         some false
        else
         c (wrap .i64 (x3+1))
        ) fun k3=>
        if (decide (4<d)) then
         k3 true
        else
         if (decide (20<((a.Laws.g x3.toNat).If.n:Int))) then
          k3 true
         else
          if (decide (20<((a.Laws.g x3.toNat).Out.n:Int))) then
           k3 true
          else
           (Af N (a.Laws.g x3.toNat).Left).bind fun f=>
           if (decide (41<f)) then
            k3 true
           else
            (Af N (a.Laws.g x3.toNat).Right).bind fun i=>
            k3 (decide (41<i))
      else none
     else
      some true
     ) 0
   ) 0
theorem NA {N:Nat}{c:A7}{y:Bool}(h:Cn N c=some y) :FunO S MF [.p (.agg (A8 c))] [] (pB y) ([]) []:=by
 unfold Cn at h;refine A2 hS Tryz.func67 ?_;refine kB hS (A6 hS) trivial trivial 11 (.o (.o (.a (decide (70<(c.Tree.n:Int)))) (.a (decide (70<(c.Laws.n:Int))))) (.a (decide (70<(c.On.n:Int))))) ?_;refine kI hS h ?_ ?_<;>intro h
 ·cases h;exact kR hS
 ·refine N7 hS trivial h (fun x1=>⟨[(3,pN x1),(1,.reg 2000 0)],[(2000,.cells ((A8 c).map .p))]⟩) (ids:=[(2000,2000)]) (fun _ _ _ _ _ f x1 i h=>?_);refine kI hS h ?_ ?_<;>intro h
  ·obtain⟨c9,h⟩:=F4 h;refine E4 hS c9 (b:=decide (70<((c.On.g x1.toNat).n:Int))) (fun c10=>?_) (fun c10=>?_)
   ·replace h:=itT c10 h;cases h;exact kR hS
   ·replace h:=itF c10 h;exact i _ [(2000,2000)] _ (wrap .i64 (x1+1)) trivial h
  ·refine N7 hS trivial h (fun x3=>⟨[(4,pN x3),(1,.reg 2000 0)],[(2000,.cells ((A8 c).map .p))]⟩) (ids:=[(2000,2000)]) (fun _ _ _ _ _ j x3 l h=>?_);refine kI hS h ?_ ?_<;>intro h
   ·obtain⟨c40,h⟩:=F4 h;obtain⟨q,e11,h⟩:=B9 h;refine B7 hS [] (And.intro (And.intro c40.1 (by decide:(18:Nat)<=18)) c40.2) (YD hS hL e11) ?_;refine JM hS trivial (A6 hS) h 0 (fun z3=>⟨[(79,pB z3),(4,pN x3),(1,.reg 2000 0)],[(2000,.cells ((A8 c).map .p))]⟩) (fun M3 k3 d h=>?_) (fun z3 h=>?_)
    ·refine kG hS h (fun h=>?_) (fun h=>?_)
     ·exact d _ [(2000,2000)] _ true trivial h
     ·refine kG hS h (fun h=>?_) (fun h=>?_)
      ·exact d _ [(2000,2000)] _ true trivial h
      ·refine kG hS h (fun h=>?_) (fun h=>?_)
       ·exact d _ [(2000,2000)] _ true trivial h
       ·refine kC hS h (ET hS hL) (fun r h=>?_);refine kG hS h (fun h=>?_) (fun h=>?_)
        ·exact d _ [(2000,2000)] _ true trivial h
        ·refine kC hS h (ET hS hL) (fun m h=>?_);exact d _ [(2000,2000)] _ (decide (41<m)) trivial h
    ·refine kI hS h ?_ ?_<;>intro h
     ·cases h;exact kR hS
     ·exact l _ [(2000,2000)] _ (wrap .i64 (x3+1)) trivial h
   ·cases h;exact kR hS
def DL (N:Nat)(a:A7)(b:Sl (Sl Sound)):Option Bool:=
 (Cn N a).bind fun y1=>
 if ((!y1)||(decide (300<(b.n:Int)))) then
  some false
 else
  P4 N (fun c (x1:Int) (x2:Int)=>
   if (decide (x2<(b.n:Int))) then
    if ((0:Int)<=x2/\x2<(b.n:Int))then
     if (decide (50<((b.g x2.toNat).n:Int))) then
      some false
     else
      c (wrap .i64 (x1+(wrap .i64 ((wrap .i64 (((b.g x2.toNat).n:Int)+1))*(wrap .i64 (((b.g x2.toNat).n:Int)+1)))))) (wrap .i64 (x2+1))
    else none
   else
    if ((decide ((b.n:Int)<=256))&&(decide (1500<x1))) then
     some false
    else
     (Y5 N a).bind fun y2=>
     if (y2 != 0) then
      some true
     else
      P4 N (fun d (x3:Int) (x4:Int)=>
       if (decide (x4<(a.Laws.n:Int))) then
        if ((0:Int)<=x4/\x4<(a.Laws.n:Int))then
         (Af N (a.Laws.g x4.toNat).Left).bind fun y7=>
         (Af N (a.Laws.g x4.toNat).Right).bind fun y8=>
         d (wrap .i64 (x3+(wrap .i64 ((wrap .i64 (y7+y8))-2)))) (wrap .i64 (x4+1))
        else none
       else
        P4 N (fun f (x5:Int) (x6:Int)=>
         if (decide (x6<(a.On.n:Int))) then
          if ((0:Int)<=x6/\x6<(a.On.n:Int))then
           f (wrap .i64 (x5+((a.On.g x6.toNat).n:Int))) (wrap .i64 (x6+1))
          else none
         else
          some (decide ((wrap .i64 (x3*x5))<=1200))
         ) 0 0
       ) 4 0
   ) 0 0
theorem VM {N:Nat}{c:A7}{d:Sl (Sl Sound)}{y:Bool}(h:DL N c d=some y) :FunO S MA [.p (.agg (A8 c)),.p (vSl 1 (cL 2 A0) d)] [] (pB y) ([]) []:=by
 unfold DL at h;refine A2 hS Tryz.func28 ?_;refine I7 hS trivial 4 3000 (A8 c) ?_;obtain⟨y1,e1,h⟩:=B9 h;refine B7 hS [] (by decide:(3:Nat)<=3) (NA hS hL e1) ?_;refine kB hS (A6 hS) trivial trivial 4 (.o (.a (!y1)) (.a (decide (300<(d.n:Int))))) ?_;refine kI hS h ?_ ?_<;>intro h
 ·cases h;exact kR hS
 ·refine I4 hS trivial h (fun x1 x2=>⟨[(24,pN x2),(23,pN (d.n:Int)),(22,.p (vSl 1 (cL 2 A0) d)),(5,pN x1),(2,.p (.ptr (A8 c))),(1,.p (vSl 1 (cL 2 A0) d))],[]⟩) (ids:=[]) (fun _ _ _ _ _ f x1 x2 i h=>?_);refine kI hS h ?_ ?_<;>intro h
  ·obtain⟨c9,h⟩:=F4 h;refine E4 hS c9 (b:=decide (50<((d.g x2.toNat).n:Int))) (fun c10=>?_) (fun c10=>?_)
   ·replace h:=itT c10 h;cases h;exact kR hS
   ·replace h:=itF c10 h;exact i _ [] _ (wrap .i64 (x1+(wrap .i64 ((wrap .i64 (((d.g x2.toNat).n:Int)+1))*(wrap .i64 (((d.g x2.toNat).n:Int)+1)))))) (wrap .i64 (x2+1)) trivial h
  ·refine kB hS (A6 hS) trivial trivial 3 (.n (.a (decide ((d.n:Int)<=256))) (.a (decide (1500<x1)))) ?_;refine kI hS h ?_ ?_<;>intro h
   ·cases h;exact kR hS
   ·obtain⟨y2,e2,h⟩:=B9 h;refine B7 hS [] (by decide:(3:Nat)<=3) (VJ hS hL e2) ?_;refine kI hS h ?_ ?_<;>intro h
    ·cases h;exact kR hS
    ·refine I4 hS trivial h (fun x3 x4=>⟨[(54,pN x4),(53,pN (c.Laws.n:Int)),(52,.p (vSl 18 B4 c.Laws)),(9,pN 0),(8,pN x3),(2,.p (.ptr (A8 c)))],[]⟩) (ids:=[]) (fun _ _ _ _ _ j x3 x4 l h=>?_);refine kI hS h ?_ ?_<;>intro h
     ·obtain⟨c18,h⟩:=F4 h;refine Ab6 hS (And.intro c18 (by decide:(18:Nat)<=18)) 12000 (B4 (c.Laws.g x4.toNat)) ?_;refine H7 hS trivial [2,3,5,6] ?_;obtain⟨y7,e7,h⟩:=B9 h;refine BB (by decide:(7:Nat)<=17) (ET hS hL e7) ?_;obtain⟨y8,e8,h⟩:=B9 h;refine BB (by decide:(7:Nat)<=10) (ET hS hL e8) ?_;refine P7 trivial ?_;exact l _ [] _ (wrap .i64 (x3+(wrap .i64 ((wrap .i64 (y7+y8))-2)))) (wrap .i64 (x4+1)) trivial h
     ·refine I4 hS trivial h (fun x5 x6=>⟨[(72,pN x6),(71,pN (c.On.n:Int)),(70,.p (vSl 1 (cL 1 (cI .i64)) c.On)),(9,pN x5),(8,pN x3)],[]⟩) (ids:=[]) (fun _ _ _ _ _ m x5 x6 q h=>?_);refine kI hS h ?_ ?_<;>intro h
      ·obtain⟨c22,h⟩:=F4 h;exact q _ [] _ (wrap .i64 (x5+((c.On.g x6.toNat).n:Int))) (wrap .i64 (x6+1)) c22 h
      ·cases h;exact kR hS
def CK (N:Nat)(b:Sl Int)(a:Int):Option Int:=
 if (decide (a<(b.n:Int))) then
  if ((0:Int)<=a/\a<(b.n:Int))then
   some (wrap .i64 (b.g a.toNat))
  else none
 else
  some 0
theorem Tu {N:Nat}{a:Sl Int}{b:Int}{y:Int}(h:CK N a b=some y) :FunO S KP [.p (vSl 1 (cI .u16) a),pN b] [] (pN y) ([]) []:=by
 unfold CK at h;refine A2 hS Tryz.func88 ?_;refine kI hS h ?_ ?_<;>intro h
 ·obtain⟨c2,h⟩:=F4 h;obtain rfl:=C4 h;exact Yl hS c2 [] ⟨rfl,rfl,rfl⟩
 ·cases h;exact kR hS
def DM (N:Nat)(a:Law):Option Bool:=
 (Cn N (⟨(Sl.nil:Sl H9),(Sl.of [a]:Sl Law),(Sl.nil:Sl (Sl Int))⟩:A7)).bind fun y1=>
 some y1
theorem VN {N:Nat}{a:Law}{y:Bool}(h:DM N a=some y) :FunO S MK [.p (.agg (B4 a))] [] (pB y) ([]) []:=by unfold DM at h;refine A2 hS Tryz.func86 ?_;refine N2 hS (rfl:true=true) 5 ⟨[(4,.p (vSl 18 B4 (Sl.of [a]:Sl Law)))],[]⟩ (ids:=[]) ?_ (hle:=klR [(0,.fn 1 (Sl.of [a]:Sl Law).n (F0 [.str [],pI .i64 0,pI .u32 0,pI .u32 0,.v (.bool false),pI .i64 0,pI .i64 0,F9,pI .i64 0,pI .u32 0,pI .u32 0,.v (.bool false),pI .i64 0,pI .i64 0,F9,F9,F9,pI .i64 0] [(0,B4 a)]) (fun i=>B4 ((Sl.of [a]:Sl Law).g i)))] (al1 ⟨rfl,(fun i b=>match i,b with|0,_=>rfl|_+1,b=>absurd b (by omega))⟩ al0));obtain⟨y1,e1,h⟩:=B9 h;refine B7 hS [] trivial (FunO.le hS (args:=[(.p (.agg [F9,vSl 18 B4 (Sl.of [a]:Sl Law),F9]))]) (by exact⟨AJ8 (leCc lePN (leCc (.inl rfl) (leCc lePN leC0))),trivial⟩) (NA hS hL e1)) ?_;cases h;exact kR hS
def V2 (N:Nat)(p_x:Hq):Option (A7×Bool):=
 P4 N (fun d (x1:Sl H9) (x2:Int)=>
  if ((decide (x2<=(p_x.Parents.n:Int)))&&(decide (x2<10))) then
   if (((0:Int)<=(wrap .i64 (x2-1))/\(wrap .i64 (x2-1))<(p_x.Parents.n:Int))/\x2≠0)then
    if ((x1.n+(Sl.of [(⟨(wrap .i64 (p_x.Parents.g (wrap .i64 (x2-1)).toNat)).tmod x2,[UInt8.ofNat (wrap .u8 (97+(wrap .u8 x2))).toNat]⟩:H9)]:Sl H9).n)*24<=140737488355328/\x1.n+(Sl.of [(⟨(wrap .i64 (p_x.Parents.g (wrap .i64 (x2-1)).toNat)).tmod x2,[UInt8.ofNat (wrap .u8 (97+(wrap .u8 x2))).toNat]⟩:H9)]:Sl H9).n<=140737488355328)then
     d (x1.push (⟨(wrap .i64 (p_x.Parents.g (wrap .i64 (x2-1)).toNat)).tmod x2,[UInt8.ofNat (wrap .u8 (97+(wrap .u8 x2))).toNat]⟩:H9)) (wrap .i64 (x2+1))
    else none
   else none
  else
   P4 N (fun f (x4:Sl Law) (x5:Int)=>
    if ((decide (x5<(p_x.Laws.n:Int)))&&(decide (x5<6))) then
     if ((0:Int)<=x5/\x5<(p_x.Laws.n:Int))then
      (DM N (⟨[UInt8.ofNat (wrap .u8 (65+(wrap .u8 x5))).toNat],(p_x.Laws.g x5.toNat).Left,(p_x.Laws.g x5.toNat).Right,(p_x.Laws.g x5.toNat).If,(p_x.Laws.g x5.toNat).Out,(p_x.Laws.g x5.toNat).Mode⟩:Law)).bind fun y7=>
      lt (fun (z3:Bool)=>
       if z3 then
        some ((⟨(Sl.nil:Sl H9),(Sl.nil:Sl Law),(Sl.nil:Sl (Sl Int))⟩:A7),false)
       else
        if ((x4.n+(Sl.of [(⟨[UInt8.ofNat (wrap .u8 (65+(wrap .u8 x5))).toNat],(p_x.Laws.g x5.toNat).Left,(p_x.Laws.g x5.toNat).Right,(p_x.Laws.g x5.toNat).If,(p_x.Laws.g x5.toNat).Out,(p_x.Laws.g x5.toNat).Mode⟩:Law)]:Sl Law).n)*200<=140737488355328/\x4.n+(Sl.of [(⟨[UInt8.ofNat (wrap .u8 (65+(wrap .u8 x5))).toNat],(p_x.Laws.g x5.toNat).Left,(p_x.Laws.g x5.toNat).Right,(p_x.Laws.g x5.toNat).If,(p_x.Laws.g x5.toNat).Out,(p_x.Laws.g x5.toNat).Mode⟩:Law)]:Sl Law).n<=140737488355328)then
         f (x4.push (⟨[UInt8.ofNat (wrap .u8 (65+(wrap .u8 x5))).toNat],(p_x.Laws.g x5.toNat).Left,(p_x.Laws.g x5.toNat).Right,(p_x.Laws.g x5.toNat).If,(p_x.Laws.g x5.toNat).Out,(p_x.Laws.g x5.toNat).Mode⟩:Law)) (wrap .i64 (x5+1))
        else none
       ) fun k3=>
       if (!y7) then
        k3 true
       else
        (T8 N (⟨[UInt8.ofNat (wrap .u8 (65+(wrap .u8 x5))).toNat],(p_x.Laws.g x5.toNat).Left,(p_x.Laws.g x5.toNat).Right,(p_x.Laws.g x5.toNat).If,(p_x.Laws.g x5.toNat).Out,(p_x.Laws.g x5.toNat).Mode⟩:Law)).bind fun y9=>
        k3 (y9 != 0)
     else none
    else
     P4 N (fun i (c:Sl (Sl Int)) (j:Int)=>
      if (decide (j<(x1.n:Int))) then
       (CK N p_x.On j).bind fun m=>
       P4 N (fun l (a:Sl Int) (b:Int)=>
        if (wrap .i64 ((x4.n:Int)+1))≠0 then
         if (((b.tmod (wrap .i64 ((x4.n:Int)+1))) != 0)&&(decide ((a.n:Int)<5))) then
          if (((wrap .i64 ((x4.n:Int)+1))≠0/\((a.n+(Sl.of [wrap .i64 ((b.tmod (wrap .i64 ((x4.n:Int)+1)))-1)]:Sl Int).n)*8<=140737488355328/\a.n+(Sl.of [wrap .i64 ((b.tmod (wrap .i64 ((x4.n:Int)+1)))-1)]:Sl Int).n<=140737488355328))/\(wrap .i64 ((x4.n:Int)+1))≠0)then
           l (a.push (wrap .i64 ((b.tmod (wrap .i64 ((x4.n:Int)+1)))-1))) (wrap .i64 (b.tdiv (wrap .i64 ((x4.n:Int)+1))))
          else none
         else
          if ((c.n+(Sl.of [a]:Sl (Sl Int)).n)*24<=140737488355328/\c.n+(Sl.of [a]:Sl (Sl Int)).n<=140737488355328)then
           i (c.push a) (wrap .i64 (j+1))
          else none
        else none
        ) (Sl.nil:Sl Int) m
      else
       some ((⟨x1,x4,c⟩:A7),true)
      ) (Sl.nil:Sl (Sl Int)) 0
    ) (Sl.nil:Sl Law) 0
  ) (Sl.of [(⟨-1,[114]⟩:H9)]:Sl H9) 1
theorem Lw {N:Nat}{p_x:Hq}{y:A7×Bool}(h:V2 N p_x=some y) :FunO S FN [.p (.agg (CL p_x))] [] (.tup [.p (.agg (A8 y.1)),pB y.2]) ([]) []:=by
 unfold V2 at h;refine A2 hS Tryz.func39 ?_;refine I7 hS trivial 2 2000 (CL p_x) ?_;refine I4 hS (rfl:true=true) h (fun x1 x2=>⟨[(5,pN x2),(4,.reg 5000 0),(2,.reg 3000 0),(1,.p (.ptr (CL p_x)))],[(5500,.vec Ce 2 x1.n (fun i=>G3 (x1.g i)) false),(5000,.cells [.vec 5500,.p F9,.p F9]),(3000,.cells [.p F9,.p F9,.p F9])]⟩) (ids:=[(3000,3000),(5000,5000),(5500,13000)]) (fun _ _ _ _ _ o x1 x2 q h=>?_) (hle:=klR [(2,.fn 1 (Sl.of [(⟨-1,[114]⟩:H9)]:Sl H9).n (F0 [pI .i64 0,.str []] [(0,G3 (⟨-1,[114]⟩:H9))]) (fun i=>G3 ((Sl.of [(⟨-1,[114]⟩:H9)]:Sl H9).g i)))] (al1 ⟨rfl,(fun i j=>match i,j with|0,_=>rfl|_+1,j=>absurd j (by omega))⟩ al0));refine kB hS (A6 hS) trivial trivial 3 (.n (.a (decide (x2<=(p_x.Parents.n:Int)))) (.a (decide (x2<10)))) ?_;refine kI hS h ?_ ?_<;>intro h
 ·refine H7 hS trivial [3,6,7] ?_;obtain⟨c8,h⟩:=F4 h;refine CN c8 (x:=.sl true 1 1 (F0 [pI .u8 0] [(0,cI .u8 (wrap .u8 (97+(wrap .u8 x2))))])) ?_;refine CN ((fun i j=>match i,j with|0,_=>rfl|_+1,j=>absurd j (by omega)):∀i:Nat,i<1->(FI (F0 [pI .u8 0] [(0,cI .u8 (wrap .u8 (97+(wrap .u8 x2))))] i)).isSome=true) (x:=.sl true 2 1 (F0 [pI .i64 0,.str []] [(0,G3 (⟨(wrap .i64 (p_x.Parents.g (wrap .i64 (x2-1)).toNat)).tmod x2,[UInt8.ofNat (wrap .u8 (97+(wrap .u8 x2))).toNat]⟩:H9))])) ?_;obtain⟨c9,h⟩:=F4 h;refine P7 c9 ?_;exact q _ [(3000,3000),(5000,5000),(5500,44000)] _ (x1.push (⟨(wrap .i64 (p_x.Parents.g (wrap .i64 (x2-1)).toNat)).tmod x2,[UInt8.ofNat (wrap .u8 (97+(wrap .u8 x2))).toNat]⟩:H9)) (wrap .i64 (x2+1)) trivial h (hle:=klR [(2,.fn (x1.n+1) (x1.push (⟨(wrap .i64 (p_x.Parents.g (wrap .i64 (x2-1)).toNat)).tmod x2,[UInt8.ofNat (wrap .u8 (97+(wrap .u8 x2))).toNat]⟩:H9)).n (BW x1.n (fun i=>G3 (x1.g i)) (F0 [pI .i64 0,.str []] [(0,G3 (⟨(wrap .i64 (p_x.Parents.g (wrap .i64 (x2-1)).toNat)).tmod x2,[UInt8.ofNat (wrap .u8 (97+(wrap .u8 x2))).toNat]⟩:H9))])) (fun i=>G3 ((x1.push (⟨(wrap .i64 (p_x.Parents.g (wrap .i64 (x2-1)).toNat)).tmod x2,[UInt8.ofNat (wrap .u8 (97+(wrap .u8 x2))).toNat]⟩:H9)).g i)))] (al1 ⟨rfl,Ms (c:=G3) (v:=x1) (x:=(⟨(wrap .i64 (p_x.Parents.g (wrap .i64 (x2-1)).toNat)).tmod x2,[UInt8.ofNat (wrap .u8 (97+(wrap .u8 x2))).toNat]⟩:H9)) (z:=[(pI .i64 0),.str []]) same rfl rfl⟩ al0))
 ·refine I4 hS trivial h (fun x4 x5=>⟨[(6,pN x5),(4,.reg 5000 0),(2,.reg 3000 0),(1,.p (.ptr (CL p_x)))],[(5501,.vec Dz 18 x4.n (fun i=>B4 (x4.g i)) false),(5500,.vec Ce 2 x1.n (fun i=>G3 (x1.g i)) false),(5000,.cells [.vec 5500,.vec 5501,.p F9]),(3000,.cells [.p F9,.p F9,.p F9])]⟩) (ids:=[(3000,3000),(5000,5000),(5500,5500)]) (fun _ _ _ _ _ r x4 x5 s h=>?_);refine kB hS (A6 hS) trivial trivial 3 (.n (.a (decide (x5<(p_x.Laws.n:Int)))) (.a (decide (x5<6)))) ?_;refine kI hS h ?_ ?_<;>intro h
  ·obtain⟨c23,h⟩:=F4 h;obtain⟨y7,e7,h⟩:=B9 h;refine B7 hS [] (And.intro (And.intro (And.intro c23 (by decide:(18:Nat)<=18)) (rfl:true=true)) ((fun i j=>match i,j with|0,_=>rfl|_+1,j=>absurd j (by omega)):∀i:Nat,i<1->(FI (F0 [pI .u8 0] [(0,cI .u8 (wrap .u8 (65+(wrap .u8 x5))))] i)).isSome=true)) (VN hS hL e7) ?_;refine JM hS trivial (A6 hS) h 0 (fun z3=>⟨[(74,pB z3),(7,.reg 8000 0),(6,pN x5),(4,.reg 5000 0),(2,.reg 3000 0),(1,.p (.ptr (CL p_x)))],[(8000,.cells [.p (.str [UInt8.ofNat (wrap .u8 (65+(wrap .u8 x5))).toNat]),pN (p_x.Laws.g x5.toNat).Left.Kind,pU (p_x.Laws.g x5.toNat).Left.Is.Plus,pU (p_x.Laws.g x5.toNat).Left.Is.Minus,pB (p_x.Laws.g x5.toNat).Left.Not,pN (p_x.Laws.g x5.toNat).Left.Min,pN (p_x.Laws.g x5.toNat).Left.Max,.p (.sl false 7 (p_x.Laws.g x5.toNat).Left.L.n (Cb (p_x.Laws.g x5.toNat).Left)),pN (p_x.Laws.g x5.toNat).Right.Kind,pU (p_x.Laws.g x5.toNat).Right.Is.Plus,pU (p_x.Laws.g x5.toNat).Right.Is.Minus,pB (p_x.Laws.g x5.toNat).Right.Not,pN (p_x.Laws.g x5.toNat).Right.Min,pN (p_x.Laws.g x5.toNat).Right.Max,.p (.sl false 7 (p_x.Laws.g x5.toNat).Right.L.n (Cb (p_x.Laws.g x5.toNat).Right)),.p (vSl 2 A0 (p_x.Laws.g x5.toNat).If),.p (vSl 6 Q7 (p_x.Laws.g x5.toNat).Out),pN (p_x.Laws.g x5.toNat).Mode]),(5501,.vec Dz 18 x4.n (fun i=>B4 (x4.g i)) false),(5500,.vec Ce 2 x1.n (fun i=>G3 (x1.g i)) false),(5000,.cells [.vec 5500,.vec 5501,.p F9]),(3000,.cells [.p F9,.p F9,.p F9])]⟩) (fun M3 k3 m h=>?_) (fun z3 h=>?_)
   ·refine kG hS h (fun h=>?_) (fun h=>?_)
    ·exact m _ [(3000,3000),(5000,5000),(5500,5500),(5501,5501),(8000,8000)] _ true trivial h
    ·refine kC hS h (FB hS hL) (fun y9 h=>?_);exact m _ [(3000,3000),(5000,5000),(5500,5500),(5501,5501),(8000,8000)] _ (y9 != 0) trivial h
   ·refine kI hS h ?_ ?_<;>intro h
    ·obtain rfl:=C4 h;exact A9 hS trivial ⟨[(3,pB false),(2,.reg 3000 0)],[(3000,.cells [.p (vSl 2 G3 (Sl.nil:Sl H9)),.p (vSl 18 B4 (Sl.nil:Sl Law)),.p (vSl 1 (cL 1 (cI .i64)) (Sl.nil:Sl (Sl Int)))])]⟩ [] (ids:=[(3000,3000)]) ⟨rfl,rfl,rfl⟩
    ·obtain⟨c28,h⟩:=F4 h;exact s _ [(3000,3000),(5000,5000),(5500,5500),(5501,81000)] _ (x4.push (⟨[UInt8.ofNat (wrap .u8 (65+(wrap .u8 x5))).toNat],(p_x.Laws.g x5.toNat).Left,(p_x.Laws.g x5.toNat).Right,(p_x.Laws.g x5.toNat).If,(p_x.Laws.g x5.toNat).Out,(p_x.Laws.g x5.toNat).Mode⟩:Law)) (wrap .i64 (x5+1)) (And.intro (rfl:true=true) c28) h (hle:=klR [(2,.fn (x4.n+1) (x4.push (⟨[UInt8.ofNat (wrap .u8 (65+(wrap .u8 x5))).toNat],(p_x.Laws.g x5.toNat).Left,(p_x.Laws.g x5.toNat).Right,(p_x.Laws.g x5.toNat).If,(p_x.Laws.g x5.toNat).Out,(p_x.Laws.g x5.toNat).Mode⟩:Law)).n (BW x4.n (fun i=>B4 (x4.g i)) (F0 [.str [],pI .i64 0,pI .u32 0,pI .u32 0,.v (.bool false),pI .i64 0,pI .i64 0,F9,pI .i64 0,pI .u32 0,pI .u32 0,.v (.bool false),pI .i64 0,pI .i64 0,F9,F9,F9,pI .i64 0] [(0,B4 (⟨[UInt8.ofNat (wrap .u8 (65+(wrap .u8 x5))).toNat],(p_x.Laws.g x5.toNat).Left,(p_x.Laws.g x5.toNat).Right,(p_x.Laws.g x5.toNat).If,(p_x.Laws.g x5.toNat).Out,(p_x.Laws.g x5.toNat).Mode⟩:Law))])) (fun i=>B4 ((x4.push (⟨[UInt8.ofNat (wrap .u8 (65+(wrap .u8 x5))).toNat],(p_x.Laws.g x5.toNat).Left,(p_x.Laws.g x5.toNat).Right,(p_x.Laws.g x5.toNat).If,(p_x.Laws.g x5.toNat).Out,(p_x.Laws.g x5.toNat).Mode⟩:Law)).g i)))] (al1 ⟨rfl,Ms (c:=B4) (v:=x4) (x:=(⟨[UInt8.ofNat (wrap .u8 (65+(wrap .u8 x5))).toNat],(p_x.Laws.g x5.toNat).Left,(p_x.Laws.g x5.toNat).Right,(p_x.Laws.g x5.toNat).If,(p_x.Laws.g x5.toNat).Out,(p_x.Laws.g x5.toNat).Mode⟩:Law)) (z:=[(.str []),pI .i64 0,pI .u32 0,pI .u32 0,.v (.bool false),pI .i64 0,pI .i64 0,F9,pI .i64 0,pI .u32 0,pI .u32 0,.v (.bool false),pI .i64 0,pI .i64 0,F9,F9,F9,pI .i64 0]) same rfl rfl⟩ al0))
  ·refine I4 hS trivial h (fun d l=>⟨[(8,pN l),(4,.reg 5000 0),(2,.reg 3000 0),(1,.p (.ptr (CL p_x)))],[(5502,.vec Jk 1 d.n (fun i=>cL 1 (cI .i64) (d.g i)) false),(5501,.vec Dz 18 x4.n (fun i=>B4 (x4.g i)) false),(5500,.vec Ce 2 x1.n (fun i=>G3 (x1.g i)) false),(5000,.cells [.vec 5500,.vec 5501,.vec 5502]),(3000,.cells [.p F9,.p F9,.p F9])]⟩) (ids:=[(3000,3000),(5000,5000),(5500,5500),(5501,5501)]) (fun _ _ _ _ _ t d l u h=>?_);refine kI hS h ?_ ?_<;>intro h
   ·refine kC hS h (Tu hS hL) (fun a1 h=>?_);refine I4 hS trivial h (fun b f=>⟨[(10,pN f),(9,.vec 10500),(8,pN l),(4,.reg 5000 0),(2,.reg 3000 0),(1,.p (.ptr (CL p_x)))],[(10500,.vec F1 1 b.n (fun i=>cI .i64 (b.g i)) false),(5502,.vec Jk 1 d.n (fun i=>cL 1 (cI .i64) (d.g i)) false),(5501,.vec Dz 18 x4.n (fun i=>B4 (x4.g i)) false),(5500,.vec Ce 2 x1.n (fun i=>G3 (x1.g i)) false),(5000,.cells [.vec 5500,.vec 5501,.vec 5502]),(3000,.cells [.p F9,.p F9,.p F9])]⟩) (ids:=[(3000,3000),(5000,5000),(5500,5500),(5501,5501),(5502,5502)]) (fun _ _ _ _ _ w b f a0 h=>?_);obtain⟨c50,h⟩:=F4 h;refine kB hS (A6 hS) c50 trivial 4 (.n (.a ((f.tmod (wrap .i64 ((x4.n:Int)+1))) != 0)) (.a (decide ((b.n:Int)<5)))) ?_;refine kI hS h ?_ ?_<;>intro h
    ·obtain⟨c52,h⟩:=F4 h;exact a0 _ [(3000,3000),(5000,5000),(5500,5500),(5501,5501),(5502,5502),(10500,121000)] _ (b.push (wrap .i64 ((f.tmod (wrap .i64 ((x4.n:Int)+1)))-1))) (wrap .i64 (f.tdiv (wrap .i64 ((x4.n:Int)+1)))) (And.intro (And.intro (And.intro c52.1.1 (rfl:true=true)) c52.1.2) c52.2) h (hle:=klR [(3,.fn (b.n+1) (b.push (wrap .i64 ((f.tmod (wrap .i64 ((x4.n:Int)+1)))-1))).n (BW b.n (fun i=>cI .i64 (b.g i)) (F0 [pI .i64 0] [(0,cI .i64 (wrap .i64 ((f.tmod (wrap .i64 ((x4.n:Int)+1)))-1)))])) (fun i=>cI .i64 ((b.push (wrap .i64 ((f.tmod (wrap .i64 ((x4.n:Int)+1)))-1))).g i)))] (al1 ⟨rfl,Ms (c:=cI .i64) (v:=b) (x:=wrap .i64 ((f.tmod (wrap .i64 ((x4.n:Int)+1)))-1)) (z:=[(pI .i64 0)]) same rfl rfl⟩ al0))
    ·obtain⟨c53,h⟩:=F4 h;exact u _ [(3000,3000),(5000,5000),(5500,5500),(5501,5501),(5502,126000)] _ (d.push b) (wrap .i64 (l+1)) (And.intro (rfl:true=true) c53) h (hle:=klR [(2,.fn (d.n+1) (d.push b).n (BW d.n (fun i=>cL 1 (cI .i64) (d.g i)) (F0 [F9] [(0,cL 1 (cI .i64) b)])) (fun i=>cL 1 (cI .i64) ((d.push b).g i)))] (al1 ⟨rfl,Ms (c:=cL 1 (cI .i64)) (v:=d) (x:=b) (z:=[F9]) same rfl rfl⟩ al0))
   ·obtain rfl:=C4 h;exact A9 hS trivial ⟨[(3,pB true),(2,.reg 3000 0)],[(3000,.cells [.p (vSl 2 G3 x1),.p (vSl 18 B4 x4),.p (vSl 1 (cL 1 (cI .i64)) d)])]⟩ [] (ids:=[(3000,3000)]) ⟨rfl,rfl,rfl⟩
end Go.AM
namespace Go.AM
open IntKind (wrap)
open Go.Proofs
set_option maxRecDepth 10000
set_option maxHeartbeats 2000000
variable {S:AD}(hS:H2 S Tryz.prog) (hL:PF S)
include hS hL
def W7 (N:Nat)(p_x:Hq)(l:Sl Sound):Option Bool:=
 (V2 N p_x).bind fun y1=>
 lt (fun (z1:Bool)=>
  if z1 then
   (U1 N ).bind fun y4=>
   some y4
  else
   (K3 N y1.1 (Sl.of [l]:Sl (Sl Sound))).bind fun y5=>
   (Am N y1.1.Tree).bind fun y6=>
   Aa6 N (fun q (x3:Sl (Sl Sound)) (x4:Sl Int) (x5:Int)=>
    if (decide (x5<(y6.1.n:Int))) then
     if (((0:Int)<=x5/\x5<(y6.1.n:Int))/\x5.toNat<y6.1.n)then
      (T4 N y1.1 l (y6.1.g x5.toNat)).bind fun c=>
      if ((c.2 != 0)&&(c.2 != 11)) then
       lt (fun (z4:Bool)=>
        some z4
        ) fun k4=>
        if (y5.2==c.2) then
         if (c.2==14) then
          (U1 N ).bind fun t=>
          k4 t
         else
          k4 false
        else
         k4 false
      else
       if (((x3.n+(Sl.of [c.1]:Sl (Sl Sound)).n)*24<=140737488355328/\x3.n+(Sl.of [c.1]:Sl (Sl Sound)).n<=140737488355328)/\((x4.n+(Sl.of [c.2]:Sl Int).n)*8<=140737488355328/\x4.n+(Sl.of [c.2]:Sl Int).n<=140737488355328))then
        q (x3.push c.1) (x4.push c.2) (wrap .i64 (x5+1))
       else none
     else none
    else
     if (decide (32<(l.n:Int))) then
      lt (fun (z5:Bool)=>
       some z5
       ) fun k5=>
       if (y5.2==11) then
        (U1 N ).bind fun u=>
        k5 u
       else
        k5 false
     else
      if (decide (32<(y6.1.n:Int))) then
       lt (fun (z6:Bool)=>
        some z6
        ) fun k6=>
        if (y5.2==12) then
         (U1 N ).bind fun v=>
         k6 v
        else
         k6 false
      else
       if (((y5.2 != 0)||(y5.1.Langs != (y6.1.n:Int)))||((y5.1.Has.n:Int)==1)) then
        some false
       else
        Aa6 N (fun r (s:Int) (w:Int) (d:Int)=>
         if (decide (d<(y5.1.Has.n:Int))) then
          if ((0:Int)<=d/\d<(y5.1.Has.n:Int))then
           lt (fun (z9:Bool)=>
            if z9 then
             some false
            else
             (B6 N (y5.1.Has.g d.toNat)).bind fun x=>
             r (C9 .or .u64 s (y5.1.Has.g d.toNat)) x (wrap .i64 (d+1))
            ) fun k9=>
            if ((y5.1.Has.g d.toNat)==0) then
             k9 true
            else
             if ((C9 .and .u64 s (y5.1.Has.g d.toNat)) != 0) then
              k9 true
             else
              (B6 N (y5.1.Has.g d.toNat)).bind fun y=>
              k9 (decide (y<=w))
          else none
         else
          if ((decide (0<(y5.1.Has.n:Int)))=true->(0:Int)<=(y6.1.n:Int))then
           if ((decide (0<(y5.1.Has.n:Int)))&&(s != (wrap .u64 ((shI .shl .u64 1 (y6.1.n:Int))-1)))) then
            some false
           else
            V9 N (fun m (a:Int)=>
             if (decide (a<(y6.1.n:Int))) then
              V9 N (fun i (b:Int)=>
               if (decide (b<(y6.1.n:Int))) then
                P4 N (fun o (j:Bool) (f:Int)=>
                 if (decide (f<(y5.1.Has.n:Int))) then
                  if ((0:Int)<=f/\f<(y5.1.Has.n:Int))then
                   if ((j=false->(0:Int)<=a)/\(j=false->(((C9 .and .u64 (shI .shr .u64 (y5.1.Has.g f.toNat) a) 1)==1)=true->(0:Int)<=b)))then
                    o (j||(((C9 .and .u64 (shI .shr .u64 (y5.1.Has.g f.toNat) a) 1)==1)&&((C9 .and .u64 (shI .shr .u64 (y5.1.Has.g f.toNat) b) 1)==1))) (wrap .i64 (f+1))
                   else none
                  else none
                 else
                  if (((((0:Int)<=a/\a<(x4.n:Int))/\a.toNat<x4.n)/\((0:Int)<=b/\b<(x4.n:Int)))/\b.toNat<x4.n)then
                   if ((x4.g a.toNat)==(x4.g b.toNat)) then
                    if (((((0:Int)<=a/\a<(x3.n:Int))/\a.toNat<x3.n)/\((0:Int)<=b/\b<(x3.n:Int)))/\b.toNat<x3.n)then
                     (E5 N (x3.g a.toNat) (x3.g b.toNat)).bind fun z=>
                     if ((j==z) != true) then
                      some false
                     else
                      i (wrap .i64 (b+1))
                    else none
                   else
                    if ((j==false) != true) then
                     some false
                    else
                     i (wrap .i64 (b+1))
                  else none
                 ) ((y5.1.Has.n:Int)==0) 0
               else
                m (wrap .i64 (a+1))
               ) 0
             else
              (U1 N ).bind fun a0=>
              some a0
             ) 0
          else none
         ) 0 (-1) 0
    ) (Sl.nil:Sl (Sl Sound)) (Sl.nil:Sl Int) 0
  ) fun k1=>
  if (!y1.2) then
   k1 true
  else
   (DL N y1.1 (Sl.of [l]:Sl (Sl Sound))).bind fun y3=>
   k1 (!y3)
theorem IC {N:Nat}{p_x:Hq}{d:Sl Sound}{y:Bool}(h:W7 N p_x d=some y) :FunO S Bu [.p (.agg (CL p_x)),.p (vSl 2 A0 d)] [] (pB y) ([]) []:=by
 unfold W7 at h;refine A2 hS Tryz.func8 ?_;refine I7 hS trivial 4 3000 (CL p_x) ?_;obtain⟨y1,e1,h⟩:=B9 h;refine B7 hS [] (by decide:(3:Nat)<=3) (Lw hS hL e1) ?_;refine I7 hS trivial 6 6000 (A8 y1.1) ?_;refine JM hS trivial (A6 hS) h 0 (fun z1=>⟨[(39,pB z1),(5,.p (.ptr (A8 y1.1))),(1,.p (vSl 2 A0 d))],[]⟩) (fun M1 k1 a2 h=>?_) (fun z1 h=>?_)
 ·refine kG hS h (fun h=>?_) (fun h=>?_)
  ·exact a2 _ [] _ true trivial h
  ·refine CX hS (And.intro (by decide:(3:Nat)<=3) (rfl:true=true)) ⟨[(36,.vec 37000),(34,.p (.agg (A8 y1.1))),(33,.p (.v (.bool false))),(5,.p (.ptr (A8 y1.1))),(1,.p (vSl 2 A0 d))],[(37000,.vec E2 1 (Sl.of [d]:Sl (Sl Sound)).n (fun i=>cL 2 A0 ((Sl.of [d]:Sl (Sl Sound)).g i)) false)]⟩ (ids:=[(37000,37000)]) ?_ (hle:=klR [(4,.fn 1 (Sl.of [d]:Sl (Sl Sound)).n (F0 [F9] [(0,cL 2 A0 d)]) (fun i=>cL 2 A0 ((Sl.of [d]:Sl (Sl Sound)).g i)))] (al1 ⟨rfl,(fun i w=>match i,w with|0,_=>rfl|_+1,w=>absurd w (by omega))⟩ al0));refine kC hS h (VM hS hL) (fun y3 h=>?_);exact a2 _ [] _ (!y3) trivial h
 ·refine kI hS h ?_ ?_<;>intro h
  ·refine kC hS h (DK hS hL) (fun y4 h=>?_);cases h;exact kR hS
  ·refine CX hS (And.intro (by decide:(3:Nat)<=3) (rfl:true=true)) ⟨[(44,.vec 45000),(42,.p (.agg (A8 y1.1))),(5,.p (.ptr (A8 y1.1))),(1,.p (vSl 2 A0 d))],[(45000,.vec E2 1 (Sl.of [d]:Sl (Sl Sound)).n (fun i=>cL 2 A0 ((Sl.of [d]:Sl (Sl Sound)).g i)) false)]⟩ (ids:=[(45000,45000)]) ?_ (hle:=klR [(3,.fn 1 (Sl.of [d]:Sl (Sl Sound)).n (F0 [F9] [(0,cL 2 A0 d)]) (fun i=>cL 2 A0 ((Sl.of [d]:Sl (Sl Sound)).g i)))] (al1 ⟨rfl,(fun i w=>match i,w with|0,_=>rfl|_+1,w=>absurd w (by omega))⟩ al0));refine kC hS h (Jv hS hL) (fun y5 h=>?_);refine I7 hS trivial 8 8000 [pI .i64 y5.1.Langs,vSl 1 (cI .u64) y5.1.Has] ?_;refine kC hS h (Ju hS hL) (fun y6 h=>?_);refine Pq hS trivial h (fun x3 x4 x5=>⟨[(56,pN x5),(55,pN (y6.1.n:Int)),(54,.vec 52000),(12,.vec 13500),(11,.vec 12500),(9,.vec 52000),(8,pN y5.2),(7,.p (.ptr [pI .i64 y5.1.Langs,vSl 1 (cI .u64) y5.1.Has])),(5,.p (.ptr (A8 y1.1))),(1,.p (vSl 2 A0 d))],[(52000,.vec F1 1 y6.1.n (fun i=>cI .i64 (y6.1.g i)) true),(13500,.vec Cd 1 x4.n (fun i=>cI .i64 (x4.g i)) false),(12500,.vec E2 1 x3.n (fun i=>cL 2 A0 (x3.g i)) false)]⟩) (ids:=[(52000,52000)]) (fun _ _ _ _ _ b1 x3 x4 x5 b2 h=>?_);refine kI hS h ?_ ?_<;>intro h
   ·obtain⟨c24,h⟩:=F4 h;obtain⟨f,e13,h⟩:=B9 h;refine B7 hS [] (And.intro (And.intro c24.1 c24.2) (by decide:(3:Nat)<=3)) (Tr hS hL e13) ?_;refine kB hS (A6 hS) trivial trivial 3 (.n (.a (f.2 != 0)) (.a (f.2 != 11))) ?_;refine kI hS h ?_ ?_<;>intro h
    ·refine JM hS trivial (A6 hS) h 0 (fun z4=>⟨[(4,pB z4)],[]⟩) (fun M4 k4 a0 h=>?_) (fun z4 h=>?_)
     ·refine kG hS h (fun h=>?_) (fun h=>?_)
      ·refine kG hS h (fun h=>?_) (fun h=>?_)
       ·refine kC hS h (DK hS hL) (fun b3 h=>?_);exact a0 _ [] _ b3 trivial h
       ·exact a0 _ [] _ false trivial h
      ·exact a0 _ [] _ false trivial h
     ·cases h;exact kR hS
    ·obtain⟨c32,h⟩:=F4 h;exact b2 _ [(12500,87000),(13500,91000),(52000,52000)] _ (x3.push f.1) (x4.push f.2) (wrap .i64 (x5+1)) (And.intro (And.intro (And.intro (rfl:true=true) c32.1) (rfl:true=true)) c32.2) h (hle:=klR [(7,.fn (x4.n+1) (x4.push f.2).n (BW x4.n (fun i=>cI .i64 (x4.g i)) (F0 [pI .i64 0] [(0,cI .i64 f.2)])) (fun i=>cI .i64 ((x4.push f.2).g i))),(8,.fn (x3.n+1) (x3.push f.1).n (BW x3.n (fun i=>cL 2 A0 (x3.g i)) (F0 [F9] [(0,cL 2 A0 f.1)])) (fun i=>cL 2 A0 ((x3.push f.1).g i)))] (al1 ⟨rfl,Ms (c:=cI .i64) (v:=x4) (x:=f.2) (z:=[(pI .i64 0)]) same rfl rfl⟩ (al1 ⟨rfl,Ms (c:=cL 2 A0) (v:=x3) (x:=f.1) (z:=[F9]) same rfl rfl⟩ al0)))
   ·refine kI hS h ?_ ?_<;>intro h
    ·refine JM hS trivial (A6 hS) h 0 (fun z5=>⟨[(4,pB z5)],[]⟩) (fun M5 k5 a3 h=>?_) (fun z5 h=>?_)
     ·refine kG hS h (fun h=>?_) (fun h=>?_)
      ·refine kC hS h (DK hS hL) (fun b4 h=>?_);exact a3 _ [] _ b4 trivial h
      ·exact a3 _ [] _ false trivial h
     ·cases h;exact kR hS
    ·refine kI hS h ?_ ?_<;>intro h
     ·refine JM hS trivial (A6 hS) h 0 (fun z6=>⟨[(4,pB z6)],[]⟩) (fun M6 k6 a4 h=>?_) (fun z6 h=>?_)
      ·refine kG hS h (fun h=>?_) (fun h=>?_)
       ·refine kC hS h (DK hS hL) (fun b5 h=>?_);exact a4 _ [] _ b5 trivial h
       ·exact a4 _ [] _ false trivial h
      ·cases h;exact kR hS
     ·refine kB hS (A6 hS) trivial trivial 12 (.o (.o (.a (y5.2 != 0)) (.a (y5.1.Langs != (y6.1.n:Int)))) (.a ((y5.1.Has.n:Int)==1))) ?_;refine kI hS h ?_ ?_<;>intro h
      ·cases h;exact kR hS
      ·refine Pq hS trivial h (fun r a1 q=>⟨[(126,pN q),(125,pN (y5.1.Has.n:Int)),(124,.p (vSl 1 (cI .u64) y5.1.Has)),(18,pN a1),(17,.p (pI .u64 r)),(12,.vec 13500),(11,.vec 12500),(9,.vec 52000),(7,.p (.ptr [pI .i64 y5.1.Langs,vSl 1 (cI .u64) y5.1.Has]))],[(52000,.vec F1 1 y6.1.n (fun i=>cI .i64 (y6.1.g i)) true),(13500,.vec Cd 1 x4.n (fun i=>cI .i64 (x4.g i)) false),(12500,.vec E2 1 x3.n (fun i=>cL 2 A0 (x3.g i)) false)]⟩) (ids:=[(12500,12500),(13500,13500),(52000,52000)]) (fun _ _ _ _ _ b6 r a1 q a5 h=>?_);refine kI hS h ?_ ?_<;>intro h
       ·obtain⟨c61,h⟩:=F4 h;refine JM hS c61 (A6 hS) h 0 (fun z9=>⟨[(143,pB z9),(126,pN q),(125,pN (y5.1.Has.n:Int)),(124,.p (vSl 1 (cI .u64) y5.1.Has)),(20,.p (pI .u64 (y5.1.Has.g q.toNat))),(17,.p (pI .u64 r)),(12,.vec 13500),(11,.vec 12500),(9,.vec 52000),(7,.p (.ptr [pI .i64 y5.1.Langs,vSl 1 (cI .u64) y5.1.Has]))],[(52000,.vec F1 1 y6.1.n (fun i=>cI .i64 (y6.1.g i)) true),(13500,.vec Cd 1 x4.n (fun i=>cI .i64 (x4.g i)) false),(12500,.vec E2 1 x3.n (fun i=>cL 2 A0 (x3.g i)) false)]⟩) (fun M9 k9 s h=>?_) (fun z9 h=>?_)
        ·refine kG hS h (fun h=>?_) (fun h=>?_)
         ·exact s _ [(12500,12500),(13500,13500),(52000,52000)] _ true trivial h
         ·refine kG hS h (fun h=>?_) (fun h=>?_)
          ·exact s _ [(12500,12500),(13500,13500),(52000,52000)] _ true trivial h
          ·refine kC hS h (I9 hS hL) (fun b7 h=>?_);exact s _ [(12500,12500),(13500,13500),(52000,52000)] _ (decide (b7<=a1)) trivial h
        ·refine kI hS h ?_ ?_<;>intro h
         ·cases h;exact kR hS
         ·refine kC hS h (I9 hS hL) (fun b8 h=>?_);exact a5 _ [(12500,12500),(13500,13500),(52000,52000)] _ (C9 .or .u64 r (y5.1.Has.g q.toNat)) b8 (wrap .i64 (q+1)) trivial h
       ·obtain⟨c69,h⟩:=F4 h;refine kB hS (A6 hS) trivial c69 7 (.n (.a (decide (0<(y5.1.Has.n:Int)))) (.a (r != (wrap .u64 ((shI .shl .u64 1 (y6.1.n:Int))-1))))) ?_;refine kI hS h ?_ ?_<;>intro h
        ·cases h;exact kR hS
        ·refine N7 hS trivial h (fun j=>⟨[(164,pN j),(163,pN (y6.1.n:Int)),(12,.vec 13500),(11,.vec 12500),(9,.vec 52000),(7,.p (.ptr [pI .i64 y5.1.Langs,vSl 1 (cI .u64) y5.1.Has]))],[(52000,.vec F1 1 y6.1.n (fun i=>cI .i64 (y6.1.g i)) true),(13500,.vec Cd 1 x4.n (fun i=>cI .i64 (x4.g i)) false),(12500,.vec E2 1 x3.n (fun i=>cL 2 A0 (x3.g i)) false)]⟩) (ids:=[(12500,12500),(13500,13500),(52000,52000)]) (fun _ _ _ _ _ a8 j a6 h=>?_);refine kI hS h ?_ ?_<;>intro h
         ·refine N7 hS trivial h (fun l=>⟨[(169,pN l),(168,pN (y6.1.n:Int)),(164,pN j),(163,pN (y6.1.n:Int)),(21,pN j),(12,.vec 13500),(11,.vec 12500),(9,.vec 52000),(7,.p (.ptr [pI .i64 y5.1.Langs,vSl 1 (cI .u64) y5.1.Has]))],[(52000,.vec F1 1 y6.1.n (fun i=>cI .i64 (y6.1.g i)) true),(13500,.vec Cd 1 x4.n (fun i=>cI .i64 (x4.g i)) false),(12500,.vec E2 1 x3.n (fun i=>cL 2 A0 (x3.g i)) false)]⟩) (ids:=[(12500,12500),(13500,13500),(52000,52000)]) (fun _ _ _ _ _ a9 l u h=>?_);refine kI hS h ?_ ?_<;>intro h
          ·refine I4 hS trivial h (fun t m=>⟨[(179,pN m),(178,pN (y5.1.Has.n:Int)),(177,.p (vSl 1 (cI .u64) y5.1.Has)),(169,pN l),(168,pN (y6.1.n:Int)),(164,pN j),(163,pN (y6.1.n:Int)),(23,pB t),(22,pN l),(21,pN j),(12,.vec 13500),(11,.vec 12500),(9,.vec 52000),(7,.p (.ptr [pI .i64 y5.1.Langs,vSl 1 (cI .u64) y5.1.Has]))],[(52000,.vec F1 1 y6.1.n (fun i=>cI .i64 (y6.1.g i)) true),(13500,.vec Cd 1 x4.n (fun i=>cI .i64 (x4.g i)) false),(12500,.vec E2 1 x3.n (fun i=>cL 2 A0 (x3.g i)) false)]⟩) (ids:=[(12500,12500),(13500,13500),(52000,52000)]) (fun _ _ _ _ _ b0 t m a7 h=>?_);refine kI hS h ?_ ?_<;>intro h
           ·obtain⟨c259,h⟩:=F4 h;obtain⟨c260,h⟩:=F4 h;refine kB hS (A6 hS) c259 c260 13 (.o (.a t) (.n (.a ((C9 .and .u64 (shI .shr .u64 (y5.1.Has.g m.toNat) j) 1)==1)) (.a ((C9 .and .u64 (shI .shr .u64 (y5.1.Has.g m.toNat) l) 1)==1)))) ?_;exact a7 _ [(12500,12500),(13500,13500),(52000,52000)] _ (t||(((C9 .and .u64 (shI .shr .u64 (y5.1.Has.g m.toNat) j) 1)==1)&&((C9 .and .u64 (shI .shr .u64 (y5.1.Has.g m.toNat) l) 1)==1))) (wrap .i64 (m+1)) trivial h
           ·refine H7 hS trivial [19] ?_;obtain⟨c261,h⟩:=F4 h;refine Ab2 c261 (b:=(x4.g j.toNat)==(x4.g l.toNat)) (fun c262=>?_) (fun c262=>?_)
            ·replace h:=itT c262 h;obtain⟨c263,h⟩:=F4 h;obtain⟨b9,e37,h⟩:=B9 h;refine BB c263 (Ay hS hL e37) ?_;refine P7 trivial ?_;refine kI hS h ?_ ?_<;>intro h
             ·cases h;exact kR hS
             ·exact u _ [(12500,12500),(13500,13500),(52000,52000)] _ (wrap .i64 (l+1)) trivial h
            ·replace h:=itF c262 h;refine P7 trivial ?_;refine kI hS h ?_ ?_<;>intro h
             ·cases h;exact kR hS
             ·exact u _ [(12500,12500),(13500,13500),(52000,52000)] _ (wrap .i64 (l+1)) trivial h
          ·exact a6 _ [(12500,12500),(13500,13500),(52000,52000)] _ (wrap .i64 (j+1)) trivial h
         ·refine kC hS h (DK hS hL) (fun c0 h=>?_);cases h;exact kR hS
end Go.AM
namespace Go.AM
set_option maxRecDepth 1000000
theorem XC:U1 4194304=some true:=by decide +kernel
end Go.AM
namespace Go.AM
open IntKind (wrap)
open Go.Proofs
theorem Ap6 {A R:Type}{body:(A->Option R)->A->Option R}(I:Nat->A->Prop)(n:Nat)(K4:R->Prop)
 (b:∀self i a,i<=n->I i a->(i<n->∀a',I (i+1) a' -> ∃r,self a' = some r/\K4 r)->∃r,body self a=some r/\K4 r) :
 ∀(N i:Nat) (a:A),i<=n->I i a->n-i<N->∃r,V9 N body a=some r/\K4 r
 |0,_,_,_,_,h=>by omega
 |N+1,i,a,hi,hI,h=>by rw[AH];exact b _ i a hi hI fun c a' d=>Ap6 I n K4 b N (i+1) a' c d (by omega)
theorem BP {A R:Type}{body:(A->Option R)->A->Option R}(I:Nat->A->Prop)(n:Nat)(K4:R->Prop){N:Nat}(c:n<N){a:A}(d:I 0 a)
 (b:∀self i a,i<=n->I i a->(i<n->∀a',I (i+1) a' -> ∃r,self a' = some r/\K4 r)->∃r,body self a=some r/\K4 r):∃r,V9 N body a=some r/\K4 r:=
 Ap6 I n K4 b N 0 a (Ba9 _) d c
theorem P3 {A B R:Type}{body:(A->B->Option R)->A->B->Option R}(I:Nat->A->B->Prop)(n:Nat)(K4:R->Prop){N:Nat}(g:n<N){a:A}{b:B}(j:I 0 a b)
 (d:∀c i a b,i<=n->I i a b->(i<n->∀a' b',I (i+1) a' b' -> ∃r,c a' b' = some r/\K4 r)->∃r,body c a b=some r/\K4 r):∃r,P4 N body a b=some r/\K4 r:=
 Ap6 (fun i x=>I i x.1 x.2) n K4 (fun c i x l m h=>d (fun a b=>c (a,b)) i x.1 x.2 l m fun hl a' b' f=>h hl (a',b') f) N 0 (a,b) (Ba9 _) j g
theorem Rk {A B C R:Type}{body:(A->B->C->Option R)->A->B->C->Option R}(I:Nat->A->B->C->Prop)(n:Nat)(K4:R->Prop){N:Nat}(j:n<N){a:A}{b:B}{c:C}(l:I 0 a b c)
 (f:∀d i a b c,i<=n->I i a b c->(i<n->∀a' b' c',I (i+1) a' b' c' -> ∃r,d a' b' c' = some r/\K4 r)->∃r,body d a b c=some r/\K4 r):∃r,Aa6 N body a b c=some r/\K4 r:=
 Ap6 (fun i x=>I i x.1 x.2.1 x.2.2) n K4 (fun d i x m o h=>f (fun a b c=>d (a,b,c)) i x.1 x.2.1 x.2.2 m o fun hl a' b' c' g=>h hl (a',b',c') g) N 0 (a,b,c) (Ba9 _) l j
theorem B1 {X R:Type}{Q:R->Prop}{o:Option X}{f:X->Option R}{x:X}(h:o=some x)(a:∃r,f x=some r/\Q r):∃r,o.bind f=some r/\Q r:=by subst h;exact a
theorem ltX {R A:Type}{Q:R->Prop}{k:A->Option R}{f:(A->Option R)->Option R}(h:∃r,f k=some r/\Q r):∃r,lt k f=some r/\Q r:=h
theorem ifT {R:Type}{Q:R->Prop}{p:Prop}[Decidable p]{a b:Option R}(h:p)(c:∃r,a=some r/\Q r):∃r,(if p then a else b)=some r/\Q r:=by rw[if_pos h];exact c
theorem ifF {R:Type}{Q:R->Prop}{p:Prop}[Decidable p]{a b:Option R}(h:¬p)(c:∃r,b=some r/\Q r):∃r,(if p then a else b)=some r/\Q r:=by rw[if_neg h];exact c
theorem E1 {n:Int}(h : -9223372036854775808<=n)(h' : n<=9223372036854775807):IntKind.i64.wrap n=n:=by
 by_cases a:0<=n
 ·have h1:n % (2 ^ 64:Int)=n:=Bc1 a (by omega);unfold wrap;simp only[IntKind.bits,IntKind.signed,h1];rw[if_neg];simp;omega
 ·have h1:n % (2 ^ 64:Int)=n+2 ^ 64:=by rw[<- Int.add_emod_right];exact Bc1 (by omega) (by omega)
  unfold wrap;simp only[IntKind.bits,IntKind.signed,h1];rw[if_pos]
  ·omega
  ·simp;omega
theorem B8 {i:Nat}(h:i<1000000000000000000):IntKind.i64.wrap ((i:Int)+1)=((i+1:Nat):Int):=by rw[E1 (by omega) (by omega)];rfl
theorem AE4 {i:Nat}(a:1<=i)(h:i<1000000000000000000):IntKind.i64.wrap ((i:Int)-1)=((i-1:Nat):Int):=by rw[E1 (by omega) (by omega)];omega
theorem DS {i j:Nat}(h:i+j<1000000000000000000):IntKind.i64.wrap ((i:Int)+(j:Int))=((i+j:Nat):Int):=by rw[E1 (by omega) (by omega)];rfl
theorem Xc {N n:Nat}(hn:n<=32)(f:1000<=N):∃s,Hf N (n:Int)=some s/\s.n=n+1/\TabR n (fun a b=>a=b) s.g:=by
 unfold Hf;rw[B8 (by omega)];refine ifT (by omega) ?_;refine P3 (fun i x1 x2=>x2=(i:Int)/\x1.n=n+1/\∀a,a<i->x1.g a=U (1#64 <<< a)) (n+1) _ (by omega) ⟨rfl,by show ((n+1:Nat):Int).toNat=n+1;omega,fun a ha=>absurd ha (by omega)⟩ ?_;rintro c i x1 x2 j ⟨rfl,h1,d⟩ hs;by_cases hl:i<=n
 ·refine ifT (by simp;omega) (ifT ⟨⟨by omega,by omega,by omega⟩,by omega⟩ (hs (by omega) _ _ ⟨B8 (by omega),h1,fun a ha=>?_⟩));show (if a=(i:Int).toNat then shI .shl .u64 1 (i:Int)else x1.g a)=_;by_cases e:a=i
  ·subst e;rw[if_pos (by omega),Ng _ (by omega)]
  ·rw[if_neg (by omega)];exact d a (by omega)
 ·refine ifF (by simp;omega) ⟨x1,rfl,h1,fun a ha=>⟨1#64 <<< a,d a (by omega),fun b hb=>?_⟩⟩;rw[Fx (by omega) hb,decide_eq_true_eq];omega
theorem Ap7 {n:Nat}{f:Nat->Int}(h:∀a,a<=n->f a=0):TabR n (fun _ _=>False) f:=fun a ha=>⟨0#64,h a ha,fun b hb=>by simp⟩
theorem Xd {N n:Nat}{R S:Nat->Nat->Prop}{x y:Sl Int}(hn:n<=32)(f:1000<=N)(hx:x.n=n+1)(hy:y.n=n+1)(hR:TabR n R x.g)(hS:TabR n S y.g) :∃s,Hg N x y=some s/\s.n=n+1/\TabR n (fun a b=>R a b \/ S a b) s.g:=by
 unfold Hg;refine ifT (by omega) ?_;refine P3 (fun i x1 x2=>x2=(i:Int)/\x1.n=n+1/\∀a,a<i->x1.g a=C9 .or .u64 (x.g a) (y.g a)) (n+1) _ (by omega) ⟨rfl,by show (x.n:Int).toNat=n+1;omega,fun a ha=>absurd ha (by omega)⟩ ?_;rintro d i x1 x2 j ⟨rfl,h1,c⟩ hs;by_cases hl:i<=n
 ·refine ifT (by simp;omega) (ifT (by omega) (hs (by omega) _ _ ⟨B8 (by omega),h1,fun a ha=>?_⟩));show (if a=(i:Int).toNat then _ else x1.g a)=_;by_cases e:a=i
  ·subst e;rw[if_pos (by omega),AS2]
  ·rw[if_neg (by omega)];exact c a (by omega)
 ·refine ifF (by simp;omega) ⟨x1,rfl,h1,fun a ha=>?_⟩;obtain⟨u,e1,g1⟩:=hR a ha;obtain⟨v,e2,g2⟩:=hS a ha;refine⟨u ||| v,by rw[c a (by omega),e1,e2,AD8],fun b hb=>?_⟩;rw[AT5,AU0,g1 b hb,g2 b hb];constructor
  ·rintro (⟨h1,c⟩ | ⟨h1,c⟩)
   ·exact⟨h1,.inl c⟩
   ·exact⟨h1,.inr c⟩
  ·rintro⟨h1,c|c⟩
   ·exact .inl ⟨h1,c⟩
   ·exact .inr ⟨h1,c⟩
theorem Ad0 {N n:Nat}{x y:Sl Int}(hn:n<=32)(f:1000<=N)(hx:x.n=n+1)(hy:y.n=n+1) :∃b,Ik N x y=some b/\(b=true ↔ ∀a,a<=n->x.g a=y.g a):=by
 unfold Ik;refine BP (fun i x1=>x1=(i:Int)/\∀a,a<i->x.g a=y.g a) (n+1) _ (by omega) ⟨rfl,fun a ha=>absurd ha (by omega)⟩ ?_;rintro c i x1 j ⟨rfl,d⟩ hs;by_cases hl:i<=n
 ·refine ifT (by simp;omega) (ifT (by omega) ?_);rw[AS2];by_cases e:x.g i=y.g i
  ·refine ifF (by simp[e]) (hs (by omega) _ ⟨B8 (by omega),fun a ha=>?_⟩);by_cases h:a=i
   ·subst h;exact e
   ·exact d a (by omega)
  ·refine ifT (by simp[e]) ⟨false,rfl,by simp;exact⟨i,hl,e⟩⟩
 ·exact ifF (by simp;omega) ⟨true,rfl,by simp;exact fun a ha=>d a (by omega)⟩
theorem PI {N n:Nat}{R S:Nat->Nat->Prop}{x y:Sl Int}(hn:n<=32)(w:1000<=N)(hx:x.n=n+1)(hy:y.n=n+1)(hR:TabR n R x.g)(hS:TabR n S y.g) :∃s,CB N x y=some s/\s.n=n+1/\TabR n (fun a b=>∃c,c<=n/\R a c/\S c b) s.g:=by
 unfold CB;refine ifT (by omega) ?_
 let Row (z:BitVec 64) (a j:Nat):Prop:=∀b,b<64->(z.getLsbD b=true↔b<=n/\∃c,c<j/\c<=n/\R a c/\S c b)
 refine P3 (fun i x1 x2=>x2=(i:Int)/\x1.n=n+1/\(∀a,a<i->∃z,x1.g a=U z/\Row z a (n+1))/\∀a,i<=a->x1.g a=0) (n+1) _ (by omega) ⟨rfl,by show (x.n:Int).toNat=n+1;omega,fun a ha=>absurd ha (by omega),fun a _=>rfl⟩ ?_;rintro q i x1 x2 hi ⟨rfl,h1,r,t⟩ hs;by_cases hl:i<=n
 ·refine ifT (by simp;omega) ?_;refine P3 (fun j x7 x8=>x8=(j:Int)/\x7.n=n+1/\(∀a,a<i->∃z,x7.g a=U z/\Row z a (n+1))/\(∃z,x7.g i=U z/\Row z i j)/\∀a,i<a->x7.g a=0) (n+1) _ (by omega)
   ⟨rfl,h1,r,⟨0#64,t i (AS8 _),fun b hb=>by simp⟩,fun a ha=>t a (by omega)⟩ ?_
  rintro m j x7 x8 hj ⟨rfl,g1,g2,⟨z,g3,g4⟩,g5⟩ l;by_cases f:j<=n
  ·refine ifT (by simp;omega) (ifT (by omega) ?_);rw[AS2,AS2];have d:=hR.bit hl (b:=j) (by omega);by_cases hc:R i j
   ·refine ifT (d.2 ⟨f,hc⟩) (ifT (by omega) (l (by omega) _ _ ⟨B8 (by omega),g1,fun a ha=>?_,?_,fun a ha=>?_⟩))
    ·obtain⟨z',e,o⟩:=g2 a ha;exact⟨z',by show (if a=i then _ else x7.g a)=_;rw[if_neg (by omega)];exact e,o⟩
    ·obtain⟨v,e,u⟩:=hS j f;refine⟨z ||| v,by show (if i=i then _ else _)=_;rw[if_pos rfl,g3,e,AD8],fun b hb=>?_⟩;rw[AT5,AU0,g4 b hb,u b hb];constructor
     ·rintro (⟨k1,c,k2,k3⟩ | ⟨k1,k2⟩)
      ·exact⟨k1,c,by omega,k3⟩
      ·exact⟨k1,j,by omega,f,hc,k2⟩
     ·rintro⟨k1,c,k2,k3,k4,k5⟩;by_cases e:c=j
      ·subst e;exact .inr ⟨k1,k5⟩
      ·exact .inl ⟨k1,c,by omega,k3,k4,k5⟩
    ·show (if a=i then _ else x7.g a)=_;rw[if_neg (by omega)];exact g5 a ha
   ·refine ifF (fun h=>hc (d.1 h).2) (l (by omega) _ _ ⟨B8 (by omega),g1,g2,⟨z,g3,fun b hb=>?_⟩,g5⟩);rw[g4 b hb];constructor
    ·rintro⟨k1,c,k2,k3⟩;exact⟨k1,c,by omega,k3⟩
    ·rintro⟨k1,c,k2,k3,k4,k5⟩;by_cases e:c=j
     ·subst e;exact absurd k4 hc
     ·exact⟨k1,c,by omega,k3,k4,k5⟩
  ·refine ifF (by simp;omega) (hs (by omega) _ _ ⟨B8 (by omega),g1,fun a ha=>?_,fun a ha=>g5 a (by omega)⟩);by_cases e:a=i
   ·subst e;obtain rfl:j=n+1:=by omega
    exact⟨z,g3,g4⟩
   ·exact g2 a (by omega)
 ·refine ifF (by simp;omega) ⟨x1,rfl,h1,fun a ha=>?_⟩;obtain⟨z,e,o⟩:=r a (by omega);refine⟨z,e,fun b hb=>(o b hb).trans ⟨fun⟨k1,c,_,k3⟩=>⟨k1,c,k3⟩,fun⟨k1,c,k3⟩=>⟨k1,c,by omega,k3⟩⟩⟩
end Go.AM
namespace Go.AM
open Go.Proofs
theorem Ad1 {α : Type}(s:Sl α)(a : α):(s.push a).toList=s.toList++[a]:=by
 unfold Sl.toList;rw[AX3,AY7];congr 1
 ·exact AV3 fun i b=>by rw[AX4]at b;show (if i<s.n then s.g i else a)=s.g i;rw[if_pos b]
 ·show [if s.n<s.n then s.g s.n else a]=[a];rw[if_neg (by omega)]
theorem HU {α : Type}(s:Sl α):s.toList.length=s.n:=by simp[Sl.toList]
def AR7 (L:Nat):BitVec 64:=BitVec.ofNat 64 (2 ^ L-1)
theorem Ap8 {L k:Nat}(hk:k<64):(AR7 L).getLsbD k=decide (k<L):=by unfold AR7;rw[BitVec.getLsbD_ofNat];simp[hk,Nat.testBit_two_pow_sub_one]
theorem Ap9 {N:Nat}{t:A3}{L:Nat}(hL:t.Langs=L)(h:L<=32):I3 N t=some (U (AR7 L)):=by
 unfold I3;rw[hL,if_pos (by omega),Ng L (by omega)];have a:2 ^ L<=2 ^ 32:=Ba4 (by decide) h;have b:0<2 ^ L:=Nat.pow_pos (by decide);have h1:(1#64 <<< L).toNat=2 ^ L:=by rw[Bf0,Bi5];simp only[Bd0];omega
 have e:U (1#64 <<< L)-1=((2 ^ L-1:Nat):Int):=by show (((1#64 <<< L).toNat:Nat):Int)-1=_;rw[h1];omega
 rw[e,GE (by omega)];show some ((2 ^ L-1:Nat):Int)=some (((BitVec.ofNat 64 (2 ^ L-1)).toNat:Nat):Int);rw[Bd0,Ba3 (by omega)]
def FL (p:Nat->Bool)(n:Nat):List Int:=((List.range n).filter p).map fun (i:Nat)=>(i:Int)
theorem Ad2 (p:Nat->Bool)(n:Nat):FL p (n+1)=FL p n++if p n then [(n:Int)]else []:=by
 unfold FL;rw[AX3,Bh3,AY7];congr 1;by_cases h:p n=true
 ·simp[h]
 ·simp[h]
theorem Aw5 (p:Nat->Bool):∀n,(FL p n).length<=n
 |0=>by simp[FL]
 |n+1=>by rw[Ad2,AT8];have:=Aw5 p n;split<;>simp<;>omega
end Go.AM
namespace Go.AM
open Go.Proofs
theorem u_zero {x:BitVec 64}:U x=0↔x=0#64:=⟨fun h=>AU4 (by have:(x.toNat:Int)=0:=h;simp;omega),fun h=>by subst h;rfl⟩
theorem Ad3 {x:BitVec 64}:x=0#64 ↔ ∀k,k<64->x.getLsbD k=false:=
 ⟨fun h k _=>by subst h;simp,fun h=>QY fun b hb=>by rw[h b hb];simp⟩
theorem Ad4 (x:BitVec 64)(h:x≠0#64):∃t,t<64/\x.getLsbD t=true/\(∀k,k<t->x.getLsbD k=false)/\∀k,k<64->(x &&& (x-1#64)).getLsbD k=(x.getLsbD k&&decide (k≠t)):=by
 have d:x.toNat≠0:=fun e=>h (AU4 (by simpa using e));obtain⟨m,hm,a⟩:=Bi6 64 x.toNat (by omega) x.isLt;generalize Lib.ctzFrom 64 x.toNat=t at hm a;have hp:0<2 ^ t:=Nat.pow_pos (by decide);have e:x.toNat-1=2 ^ t*(2*m)+(2 ^ t-1):=by rw[hm,Nat.mul_add];omega
 have b:(x-1#64).toNat=x.toNat-1:=by rw[BitVec.toNat_sub];have:=x.isLt;simp only[Bd0];omega
 refine⟨t,a,?_,fun k hk=>?_,fun k hk=>?_⟩
 ·show x.toNat.testBit _=true;rw[hm,AY5];simp[<- hm,Bg0]
 ·show x.toNat.testBit _=false;rw[hm,AY5];simp[<- hm];omega
 ·rw[AT6];show (x.getLsbD k&&(x-1#64).toNat.testBit k)=_;rw[b,e,Nat.testBit_two_pow_mul_add _ (by omega)];show (x.toNat.testBit k&&_)=(x.toNat.testBit k&&_);rw[hm,AY5];by_cases h1:k<t
  ·simp[h1];omega
  ·by_cases c:k=t
   ·subst c;simp[Bg0]
   ·simp only[h1,if_false];rw[show k-t=(k-t-1)+1 by omega,Nat.testBit_succ,Nat.testBit_succ,show (2*m+1) / 2=m by omega,show 2*m / 2=m by omega];simp[c]
end Go.AM
namespace Go.AM
open Go.Proofs
def DT (p:Nat->Bool)(n:Nat):Nat:=(FL p n).length
theorem DN (p:Nat->Bool)(n:Nat):DT p (n+1)=DT p n+if p n then 1 else 0:=by unfold DT;rw[Ad2,AT8];split<;>rfl
end Go.AM
namespace Go.AM
open Go.Proofs
end Go.AM
namespace Go.AM
open Go.Proofs
theorem AP3 {N:Nat}{x:BitVec 64}(h:x≠0#64):∃t:Nat,t<64/\B6 N (U x)=some (t:Int)/\x.getLsbD t=true/\(∀k,k<t->x.getLsbD k=false)/\∀k,k<64->(x &&& (x-1#64)).getLsbD k=(x.getLsbD k&&decide (k≠t)):=by
 obtain⟨t,h1,b,c,i⟩:=Ad4 x h;have d:x.toNat≠0:=fun e=>h (AU4 (by simpa using e));obtain⟨m,hm,a⟩:=Bi6 64 x.toNat (by omega) x.isLt;have e:Lib.ctz 64 x.toNat=Lib.ctzFrom 64 x.toNat:=by unfold Lib.ctz;rw[if_neg d]
 rw[<- e]at hm a;generalize Lib.ctz 64 x.toNat=u at hm a e;have f:x.getLsbD u=true:=by show x.toNat.testBit _=true;rw[hm,AY5];simp[<- hm,Bg0]
 have hl:∀k,k<u->x.getLsbD k=false:=fun k hk=>by show x.toNat.testBit _=false;rw[hm,AY5];simp[<- hm];omega
 have e2:t=u:=by
  rcases Bf3 t u with g|g|g
  ·rw[hl t g]at b;cases b
  ·exact g
  ·rw[c u g]at f;cases f
 subst e2;refine⟨t,h1,?_,b,c,i⟩;unfold B6;rw[if_pos (by have:=x.isLt;show 0<=((x.toNat:Nat):Int)/\((x.toNat:Nat):Int)<_;omega)];show some ((Lib.ctz 64 (x.toNat:Int).toNat:Nat):Int)=_;rw[AS2];unfold Lib.ctz;rw[if_neg d,<- e]
end Go.AM
namespace Go.AM
open Go.Proofs
end Go.AM
namespace Go.AM
open IntKind (wrap)
open Go.Proofs
theorem AE5 {L:Nat}(h:L<=32):wrap .u64 ((shI .shl .u64 1 (L:Int))-1)=U (AR7 L):=by
 have:=Ap9 (N:=0) (t:=⟨(L:Int),Sl.nil⟩) rfl h
 unfold I3 at this;rw[if_pos (by show (0:Int)<=(L:Int);omega)]at this;exact AV6 this
theorem AE6 (p:Nat->Bool)(n:Nat):DT p n<=n:=Aw5 p n
end Go.AM
namespace Go.AM
open Go.Proofs
end Go.AM
namespace Go.AM
open Go.Proofs
def okP:Nat->Pat->Prop
 |0,_=>False
 |d+1,p=>p.L.n<=40/\(p.Kind=5->p.L.n=1/\0<=p.Min/\p.Min<=32/\(p.Max = -1 \/ (p.Min<=p.Max/\p.Max<=32)))/\∀i,i<p.L.n->okP d (p.L.g i)
theorem Lx (w:Sl Sound)(p:Pat)(a b:Nat):PR w p a b↔(if p.Kind=0 then a=b
 else if p.Kind=1 then a<w.n/\b=a+1/\(Vs (w.g a) p.Is != p.Not)=true
 else if p.Kind=2 then a=0/\b=0
 else if p.Kind=6 then a=w.n/\b=w.n
 else if p.Kind=3 then YA w.n (fun i=>PR w (p.L.g i)) p.L.n a b
 else if p.Kind=4 then ∃i,i<p.L.n/\PR w (p.L.g i) a b
 else if p.Kind=5 then ∃k:Nat,p.Min<=k/\(p.Max = -1 \/ (k:Int)<=p.Max)/\HO w.n (PR w (p.L.g 0)) k a b
 else False):=by
 cases p with
 |nil=>simp[PR,Pat.Kind]
 |mk kind is no mn mx m g=>exact Bc3
def R0 (w:Sl Sound)(p:Pat)(a b:Nat):Prop:=if p.Kind=0 then a=b
 else if p.Kind=1 then a<w.n/\b=a+1/\(Vs (w.g a) p.Is != p.Not)=true
 else if p.Kind=2 then a=0/\b=0
 else if p.Kind=6 then a=w.n/\b=w.n
 else False
theorem Aw6 {n:Nat}{R:Nat->Nat->Prop}(hR:Fwd n R){mn k:Nat}(hk:mn<k)(h:∀a b,a<=n->b<=n->HO n R k a b->∃j,mn<=j/\j<k/\HO n R j a b){a:Nat}(ha:a<=n) :∀m b,mn<=m->HO n R m a b->∃j,mn<=j/\j<k/\HO n R j a b
 |0,b,hm,hp=>⟨0,hm,by omega,hp⟩
 |m+1,b,hm,hp=>by
  by_cases d:m+1<k
  ·exact⟨m+1,hm,d,hp⟩
  ·obtain⟨c,hc,h1,f⟩:=hp;have hb:=(hR c b hc f).2;obtain⟨j,g1,g2,g3⟩:=Aw6 hR hk h ha m c (by omega) h1;by_cases e:j+1<k
   ·exact⟨j+1,by omega,e,c,hc,g3,f⟩
   ·obtain rfl:k=j+1:=by omega
    exact h a b ha hb ⟨c,hc,g3,f⟩
theorem NB {N:Nat}(hN:1000<=N){w:Sl Sound}(hw:w.n<=32):∀(d:Nat) (p:Pat),okP d p->∀M,N+d<=M->∃t,DD M p w=some t/\t.n=w.n+1/\TabR w.n (PR w p) t.g
 |0,p,h,M,hM=>h.elim
 |d+1,p,⟨hc,h5,hch⟩,0,hM=>by omega
 |d+1,p,⟨hc,h5,hch⟩,M+1,hM=>by
  have ih:=fun i hi=>NB hN hw d (p.L.g i) (hch i hi) M (by omega);show ∃t,Fz (DD M) M p w=some t/\_;unfold Fz;rw[B8 (by omega)];refine ifT (by omega) ?_;refine P3 (fun i x1 x2=>x2=(i:Int)/\x1.n=w.n+1/\(∀a,a<i->∃z:BitVec 64,x1.g a=U z/\∀b,b<64->(z.getLsbD b=true↔b<=w.n/\R0 w p a b))/\∀a,i<=a->x1.g a=0) (w.n+1) _ (by omega)
   ⟨rfl,by show ((w.n+1:Nat):Int).toNat=w.n+1;omega,fun a ha=>absurd ha (by omega),fun _ _=>rfl⟩ ?_
  rintro self i x1 x2 hi ⟨rfl,h1,l,c⟩ hs;have keep:(∀b,b<=w.n->¬R0 w p i b)->(∀a,a<i+1->∃z:BitVec 64,x1.g a=U z/\∀b,b<64->(z.getLsbD b=true↔b<=w.n/\R0 w p a b)):=by
   intro h a ha;by_cases e:a=i
   ·subst e;exact⟨0#64,c a (AS8 _),fun b hb=>by simp;exact h b⟩
   ·exact l a (by omega)
  have put:∀(z:BitVec 64) (v:Int),v=U z->(∀b,b<64->(z.getLsbD b=true↔b<=w.n/\R0 w p i b)) ->
   (∀a,a<i+1->∃z:BitVec 64,(x1.upd (i:Int).toNat v).g a=U z/\∀b,b<64->(z.getLsbD b=true↔b<=w.n/\R0 w p a b))/\∀a,i+1<=a->(x1.upd (i:Int).toNat v).g a=0:=by
   intro z v hv hz;refine⟨fun a ha=>?_,fun a ha=>?_⟩
   ·by_cases e:a=i
    ·subst e;exact⟨z,by show (if a=(a:Int).toNat then v else _)=_;rw[if_pos (by omega),hv],hz⟩
    ·obtain⟨z',e1,e2⟩:=l a (by omega);exact⟨z',by show (if a=(i:Int).toNat then v else x1.g a)=_;rw[if_neg (by omega)];exact e1,e2⟩
   ·show (if a=(i:Int).toNat then v else x1.g a)=0;rw[if_neg (by omega)];exact c a (by omega)
  by_cases hl:i<=w.n
  ·refine ifT (by simp;omega) ?_;by_cases k0:p.Kind=0
   ·refine ifT (by simp[k0]) (ifT (by omega) ?_);obtain⟨p1,p2⟩:=put (1#64 <<< i) _ (Ng i (by omega)) (fun b hb=>by rw[Fx (by omega) hb,decide_eq_true_eq];simp only[R0,k0,if_true];omega);exact hs (by omega) _ _ ⟨B8 (by omega),h1,p1,p2⟩
   refine ifF (by simp[k0]) ?_;by_cases k1:p.Kind=1
   ·refine ifT (by simp[k1]) ?_;have e0:∀b,R0 w p i b↔i<w.n/\b=i+1/\(Vs (w.g i) p.Is != p.Not)=true:=fun b=>by simp only[R0,k1];simp
    by_cases hlt:i<w.n
    ·refine ifT (by simp;omega) (ifT (by omega) ?_);refine B1 (x:=Vs (w.g i) p.Is) (by rw[AS2];rfl) ?_;by_cases hb:Vs (w.g i) p.Is=p.Not
     ·refine ifF (by simp[hb]) (hs (by omega) _ _ ⟨B8 (by omega),h1,keep fun b _=>?_,fun a ha=>c a (by omega)⟩);rw[e0];simp[hb]
     ·refine ifT (by simp[hb]) ?_;rw[B8 (by omega)];refine ifT (by omega) ?_;obtain⟨p1,p2⟩:=put (1#64 <<< (i+1)) _ (Ng (i+1) (by omega)) (fun b a0=>by
       rw[Fx (by omega) a0,decide_eq_true_eq,e0]
       have:(Vs (w.g i) p.Is != p.Not)=true:=by simp[hb]
       simp only[this,and_true];omega)
      exact hs (by omega) _ _ ⟨rfl,h1,p1,p2⟩
    ·refine ifF (by simp;omega) (hs (by omega) _ _ ⟨B8 (by omega),h1,keep fun b _=>?_,fun a ha=>c a (by omega)⟩);rw[e0];omega
   refine ifF (by simp[k1]) ?_;by_cases k2:p.Kind=2
   ·refine ifT (by simp[k2]) ?_;have e0:∀b,R0 w p i b↔i=0/\b=0:=fun b=>by simp only[R0,k2];simp
    by_cases hz:i=0
    ·refine ifT (by simp;omega) (ifT (by omega) ?_);obtain⟨p1,p2⟩:=put 1#64 _ AP1 (fun b a0=>by rw[Vr,decide_eq_true_eq,e0];omega);exact hs (by omega) _ _ ⟨B8 (by omega),h1,p1,p2⟩
    ·refine ifF (by simp;omega) (hs (by omega) _ _ ⟨B8 (by omega),h1,keep fun b _=>?_,fun a ha=>c a (by omega)⟩);rw[e0];omega
   refine ifF (by simp[k2]) ?_;by_cases k6:p.Kind=6
   ·refine ifT (by simp[k6]) ?_;have e0:∀b,R0 w p i b↔i=w.n/\b=w.n:=fun b=>by simp only[R0,k6];simp
    by_cases hz:i=w.n
    ·refine ifT (by simp;omega) (ifT (by omega) ?_);obtain⟨p1,p2⟩:=put (1#64 <<< i) _ (Ng i (by omega)) (fun b hb=>by rw[Fx (by omega) hb,decide_eq_true_eq,e0];omega);exact hs (by omega) _ _ ⟨B8 (by omega),h1,p1,p2⟩
    ·refine ifF (by simp;omega) (hs (by omega) _ _ ⟨B8 (by omega),h1,keep fun b _=>?_,fun a ha=>c a (by omega)⟩);rw[e0];omega
   ·refine ifF (by simp[k6]) (hs (by omega) _ _ ⟨B8 (by omega),h1,keep fun b _=>?_,fun a ha=>c a (by omega)⟩);simp[R0,k0,k1,k2,k6]
  ·refine ifF (by simp;omega) ?_;have t0:TabR w.n (R0 w p) x1.g:=fun a ha=>l a (by omega);by_cases k3:p.Kind=3
   ·refine ifT (by simp[k3]) ?_;obtain⟨s,es,a8,a9⟩:=Xc (N:=M) hw (by omega);refine B1 es ?_;refine P3 (fun i (x3:Sl Int) x4=>x4=(i:Int)/\x3.n=w.n+1/\TabR w.n (YA w.n (fun i=>PR w (p.L.g i)) i) x3.g) p.L.n _ (by omega) ⟨rfl,a8,a9.congr fun a b _ _=>Bc3⟩ ?_;rintro a2 j x3 x4 hj ⟨rfl,g1,g2⟩ m;by_cases a3:j<p.L.n
    ·obtain⟨t,et,b0,b1⟩:=ih j a3;refine ifT (by simp;omega) (ifT (by omega) (B1 (by rw[AS2];exact et) ?_));obtain⟨f,ef,o,a4⟩:=PI (N:=M) hw (by omega) g1 b0 g2 b1;exact B1 ef (m a3 _ _ ⟨B8 (by omega),o,a4⟩)
    ·obtain rfl:j=p.L.n:=by omega
     exact ifF (by simp) ⟨x3,rfl,g1,g2.congr fun a b _ _=>by rw[Lx];simp[k3]⟩
   refine ifF (by simp[k3]) ?_;by_cases k4:p.Kind=4
   ·refine ifT (by simp[k4]) ?_;refine P3 (fun i x3 x4=>x4=(i:Int)/\x3.n=w.n+1/\TabR w.n (fun a b=>∃q,q<i/\PR w (p.L.g q) a b) x3.g) p.L.n _ (by omega) ⟨rfl,h1,t0.congr fun a b _ _=>by simp[R0,k4]⟩ ?_;rintro a2 j x3 x4 hj ⟨rfl,g1,g2⟩ m;by_cases a3:j<p.L.n
    ·obtain⟨t,et,b0,b1⟩:=ih j a3;refine ifT (by simp;omega) (ifT (by omega) (B1 (by rw[AS2];exact et) ?_));obtain⟨f,ef,o,a4⟩:=Xd (N:=M) hw (by omega) g1 b0 g2 b1;refine B1 ef (m a3 _ _ ⟨B8 (by omega),o,a4.congr fun a b _ _=>⟨?_,?_⟩⟩)
     ·rintro (⟨q,h1,l⟩ | h)
      ·exact⟨q,by omega,l⟩
      ·exact⟨j,by omega,h⟩
     ·rintro⟨q,h1,l⟩;by_cases e:q=j
      ·subst e;exact .inr l
      ·exact .inl ⟨q,by omega,l⟩
    ·obtain rfl:j=p.L.n:=by omega
     exact ifF (by simp) ⟨x3,rfl,g1,g2.congr fun a b _ _=>by rw[Lx];simp[k4]⟩
   refine ifF (by simp[k4]) ?_;by_cases k5:p.Kind=5
   ·obtain⟨hn1,hm0,hm1,hmx⟩:=h5 k5;refine ifT (by simp[k5]) (ifT (by omega) ?_);obtain⟨one,eo,ho1,ho2⟩:=ih 0 (by omega);obtain⟨s,es,a8,a9⟩:=Xc (N:=M) hw (by omega);refine B1 eo (B1 es ?_);have hF:=Tg w (p.L.g 0);have fin:∀(t:Sl Int) (k:Nat),t.n=w.n+1->TabR w.n (fun a b=>∃j:Nat,p.Min<=j/\j<k/\HO w.n (PR w (p.L.g 0)) j a b) t.g ->
     (∀a b,a<=w.n->b<=w.n->((∃j:Nat,p.Min<=j/\j<k/\HO w.n (PR w (p.L.g 0)) j a b) ↔ ∃j:Nat,p.Min<=j/\(p.Max = -1 \/ (j:Int)<=p.Max)/\HO w.n (PR w (p.L.g 0)) j a b)) ->
     ∃r,some t=some r/\r.n=w.n+1/\TabR w.n (PR w p) r.g:=by
     intro t k e1 e2 e3;exact⟨t,rfl,e1,e2.congr fun a b ha hb=>(e3 a b ha hb).trans (by rw[Lx];simp[k5])⟩
    refine Rk (fun k (x8 x9:Sl Int) b2=>b2=(k:Int)/\x8.n=w.n+1/\x9.n=w.n+1/\TabR w.n (fun a b=>∃j:Nat,p.Min<=j/\j<k/\HO w.n (PR w (p.L.g 0)) j a b) x8.g/\TabR w.n (HO w.n (PR w (p.L.g 0)) k) x9.g/\(p.Max = -1 \/ (k:Int)<=p.Max)) 33 _ (by omega)
     ⟨rfl,h1,a8,t0.congr fun a b _ _=>by simp[R0,k5],a9.congr fun a b _ _=>Bc3,by omega⟩ ?_
    rintro a2 k x8 x9 b2 hk ⟨rfl,g1,g2,g3,g4,g5⟩ m;obtain⟨f,ef,o,a4⟩:=PI (N:=M) hw (by omega) g2 ho1 g4 ho2;have next:TabR w.n (HO w.n (PR w (p.L.g 0)) (k+1)) f.g:=a4
    by_cases u:p.Min<=(k:Int)
    ·refine ifT (by simpa using u) ?_;obtain⟨j,ej,a5,hj2⟩:=Xd (N:=M) hw (by omega) g1 g2 g3 g4;have a1:TabR w.n (fun a b=>∃j:Nat,p.Min<=j/\j<k+1/\HO w.n (PR w (p.L.g 0)) j a b) j.g:=hj2.congr fun a b _ _=>by
      constructor
      ·rintro (⟨q,h1,l,c⟩ | h)
       ·exact⟨q,h1,by omega,c⟩
       ·exact⟨k,u,by omega,h⟩
      ·rintro⟨q,h1,l,c⟩;by_cases e:q=k
       ·subst e;exact .inr c
       ·exact .inl ⟨q,h1,by omega,c⟩
     refine B1 ej (ltX ?_);by_cases a6:(k:Int)=p.Max
     ·refine ifT (by simp[a6]) (ifT rfl (fin j (k+1) a5 a1 fun a b _ _=>⟨?_,?_⟩))
      ·rintro⟨q,h1,l,c⟩;exact⟨q,h1,.inr (by omega),c⟩
      ·rintro⟨q,h1,l,c⟩;exact⟨q,h1,by omega,c⟩
     ·refine ifF (by simp[a6]) ?_;by_cases b3:p.Min<(k:Int)
      ·refine ifT (by simpa using b3) ?_;obtain⟨b,eb,hb⟩:=Ad0 (N:=M) (x:=x8) (y:=j) hw (by omega) g1 a5;refine B1 eb ?_;by_cases a7:b=true
       ·refine ifT a7 (fin j (k+1) a5 a1 fun a b ha a0=>⟨?_,?_⟩)
        ·rintro⟨q,h1,l,c⟩;exact⟨q,h1,by omega,c⟩
        ·rintro⟨q,h1,l,c⟩;have heq:=hb.1 a7;obtain⟨q',k1,k2,k3⟩:=Aw6 hF (mn:=p.Min.toNat) (k:=k) (by omega) (fun a b ha a0 hp=>by have e1:=a1.bit ha (b:=b) (by omega);have e2:=g3.bit ha (b:=b) (by omega);rw[<- heq a ha]at e1;obtain⟨_,q,k1,k2,k3⟩:=e2.1 (e1.2 ⟨a0,k,u,by omega,hp⟩);exact⟨q,by omega,k2,k3⟩) ha q b (by omega) c
         exact⟨q',by omega,by omega,k3⟩
       ·refine ifF a7 (B1 ef ?_);have b4:k<33:=by
         refine Nat.lt_of_le_of_ne hk fun e=>a7 (hb.2 fun a ha=>?_);subst e;refine g3.uniq (a1.congr fun a b ha a0=>⟨?_,?_⟩) ha
         ·rintro⟨q,h1,l,c⟩;by_cases e:q=33
          ·subst e;exact⟨32,by omega,by omega,Te hF ha hw c⟩
          ·exact⟨q,h1,by omega,c⟩
         ·rintro⟨q,h1,l,c⟩;exact⟨q,h1,by omega,c⟩
        exact m b4 _ _ _ ⟨B8 (by omega),a5,o,a1,next,by omega⟩
      ·refine ifF (by simpa using b3) (ifF (by simp) (B1 ef (m (by omega) _ _ _ ⟨B8 (by omega),a5,o,a1,next,by omega⟩)))
    ·refine ifF (by simpa using u) (B1 ef (m (by omega) _ _ _ ⟨B8 (by omega),g1,o,g3.congr fun a b _ _=>⟨?_,?_⟩,next,by omega⟩))
     ·rintro⟨q,h1,l,c⟩;omega
     ·rintro⟨q,h1,l,c⟩;omega
   ·refine ifF (by simp[k5]) ⟨x1,rfl,h1,t0.congr fun a b _ _=>?_⟩;rw[Lx];simp[R0,k3,k4,k5]
end Go.AM
namespace Go.AM
open IntKind (wrap)
open Go.Proofs
abbrev sOf (x y:BitVec 32):Sound:=⟨(x.toNat:Int),(y.toNat:Int)⟩
def okS (s:Sound):Prop:=∃p m:BitVec 32,s=sOf p m
theorem eq0 (x:BitVec 32):((x.toNat:Int)==0)=decide (x=0#32):=by
 rw[AV7];simp only[beq_iff_eq,decide_eq_true_eq];constructor
 ·intro h;apply AU4;show x.toNat=0;omega
 ·rintro rfl;rfl
theorem z32 (x:BitVec 32):x=0#32 ↔ ∀i,i<32->x.getLsbD i=false:=by
 constructor
 ·rintro rfl i a;simp
 ·intro h;apply AX9;intro i a;rw[h i a];simp
theorem Jx {x y:BitVec 32}(h:∀b,b<32->x.getLsbD b=y.getLsbD b):x=y:=AX9 h
theorem Xe (x:BitVec 32)(i:Nat):(C9 .and .u32 (shI .shr .u32 (x.toNat:Int) (i:Int)) 1==1)=x.getLsbD i:=by
 rw[Av5,show (1:Int)=((1#32).toNat:Int) from rfl,Fk];have h:(x >>> i &&& 1#32)=(BitVec.ofBool (x.getLsbD i)).setWidth 32:=by
  apply AX9;intro j b;simp only[AT6,Bh1,Bi1,Bj4];by_cases a:j=0
  ·subst a;simp
  ·have:(1#32).getLsbD j=false:=by rw[Bh2];simp[a]
   simp[this,a]
 rw[h];cases x.getLsbD i<;>rfl
theorem AE7 (i:Nat):shI .shl .u32 1 (i:Int)=((1#32 <<< i).toNat:Int):=by rw[show (1:Int)=((1#32).toNat:Int) from rfl,AL6]
theorem Ad5 {i j:Nat}(a:j<32):(1#32 <<< i).getLsbD j=decide (j=i):=by
 rw[Bh6,Bh2];by_cases h:j=i
 ·subst h;simp[a]
 ·by_cases b:j<i
  ·simp[h,b]
  ·have:j-i≠0:=by omega
   simp[h,this]
theorem GQ (x:BitVec 32):x.toNat<16777216 ↔ ∀i,24<=i->i<32->x.getLsbD i=false:=by
 constructor
 ·intro h i a b;exact Bi8 (AU5 h (Ba4 (n:=2) (i:=24) (by omega) a))
 ·intro h;refine Nat.lt_pow_two_of_testBit (n:=24) _ fun i a=>?_;by_cases c:i<32
  ·exact h i a c
  ·exact Bi8 (AU5 x.isLt (Ba4 (by omega) (by omega)))
def vB (p m:BitVec 32):Bool:=decide (∀i:Fin 32,¬(p.getLsbD i=true/\m.getLsbD i=true)/\(24<=i.1->p.getLsbD i=false/\m.getLsbD i=false))
theorem FX (p m:BitVec 32):vB p m=true ↔ ∀i,i<32->¬(p.getLsbD i=true/\m.getLsbD i=true)/\(24<=i->p.getLsbD i=false/\m.getLsbD i=false):=by rw[vB,decide_eq_true_eq];exact⟨fun h i a=>h ⟨i,a⟩,fun h i=>h i.1 i.2⟩
theorem Xf (p m:BitVec 32):p &&& m=0#32 ↔ ∀i,i<32->¬(p.getLsbD i=true/\m.getLsbD i=true):=by rw[z32];refine forall_congr' fun i=>forall_congr' fun a=>?_;rw[AT6,Bf8];cases p.getLsbD i<;>cases m.getLsbD i<;>simp
theorem AP4 (p m:BitVec 32):vB p m=true↔p &&& m=0#32/\(p ||| m).toNat<16777216:=by
 rw[FX,Xf,GQ];constructor
 ·intro h;refine⟨fun i a=>(h i a).1,fun i h1 b=>?_⟩
  have:=(h i b).2 h1
  rw[AT5,this.1,this.2];rfl
 ·rintro⟨h1,b⟩ i a;refine⟨h1 i a,fun c=>?_⟩
  have:=b i c a
  rw[AT5,Bc0]at this;exact this
theorem AP5 (p m:BitVec 32):vB p m=true↔p &&& m=0#32/\p.toNat<16777216/\m.toNat<16777216:=by rw[FX,Xf,GQ,GQ];exact⟨fun h=>⟨fun i a=>(h i a).1,fun i h1 b=>((h i b).2 h1).1,fun i h1 b=>((h i b).2 h1).2⟩,fun⟨h1,b,d⟩ i a=>⟨h1 i a,fun c=>⟨b i c a,d i c a⟩⟩⟩
theorem BQ {N:Nat}(p m:BitVec 32):G6 N (sOf p m)=some (vB p m):=by unfold G6;rw[Fk,KH,eq0];congr 1;rw[AV7,AP4];simp only[AS7,decide_eq_true_eq];exact⟨fun h=>⟨h.1,by have:=h.2;omega⟩,fun h=>⟨h.1,by have:=h.2;omega⟩⟩
theorem shr24 (x:BitVec 32):(shI .shr .u32 (x.toNat:Int) 24==0)=decide (x.toNat<16777216):=by
 rw[show (24:Int)=((24:Nat):Int) from rfl,Av5,AV7];simp only[beq_iff_eq,decide_eq_true_eq,Be2,Bd7]
 have:=Bk5 (a:=x.toNat) (b:=2 ^ 24)
 omega
theorem Tv {N:Nat}(p m:BitVec 32):Bn N (sOf p m)=some (vB p m):=by unfold Bn;rw[Fk,KH,eq0,shr24];congr 1;rw[AV7,AP4];simp only[AS7,decide_eq_true_eq]
theorem Tw {N:Nat}(p m:BitVec 32):O9 N (sOf p m)=some (vB p m):=Tv (N:=N) p m
theorem PJ {N:Nat}(p m:BitVec 32):R7 N (sOf p m)=some (vB p m):=by unfold R7;rw[Fk,eq0];congr 1;rw[AV7,AP5];simp only[AS7,decide_eq_true_eq];exact⟨fun h=>⟨h.1.1,by have:=h.1.2;omega,by have:=h.2;omega⟩,fun h=>⟨⟨h.1,by have:=h.2.1;omega⟩,by have:=h.2.2;omega⟩⟩
theorem Ao {N:Nat}(p m:BitVec 32)(n:1000<=N):I0 N (sOf p m)=some (vB p m):=by
 suffices h:∃r,I0 N (sOf p m)=some r/\r=vB p m by obtain⟨r,h,rfl⟩:=h;exact h
 unfold I0;refine BP (fun i x1=>x1=(i:Int)/\∀j,j<i->¬(p.getLsbD j=true/\m.getLsbD j=true)/\(24<=j->p.getLsbD j=false/\m.getLsbD j=false)) 32 _ (by omega) ⟨rfl,fun j d=>absurd d (by omega)⟩ ?_;rintro g i x1 o ⟨rfl,h1⟩ hs;by_cases hl:i<32
 ·refine ifT (by simp;omega) (ifT (by omega) ?_);simp only[Xe];have e24:decide ((24:Int)<=(i:Int))=decide (24<=i):=decide_eq_decide.2 (by omega);rw[e24];by_cases hb:¬(p.getLsbD i=true/\m.getLsbD i=true)/\(24<=i->p.getLsbD i=false/\m.getLsbD i=false)
  ·refine ifF ?_ (hs hl _ ⟨B8 (by omega),fun j d=>?_⟩)
   ·intro h;obtain⟨l,f⟩:=hb;revert h l f;by_cases c:24<=i
    ·intro h l f;obtain⟨a,b⟩:=f c;simp[a,b]at h
    ·cases p.getLsbD i<;>cases m.getLsbD i<;>simp[c]
   ·by_cases e:j=i
    ·subst e;exact hb
    ·exact h1 j (by omega)
  ·refine ifT ?_ ⟨false,rfl,?_⟩
   ·revert hb;by_cases c:24<=i
    ·cases p.getLsbD i<;>cases m.getLsbD i<;>simp[c]
    ·cases p.getLsbD i<;>cases m.getLsbD i<;>simp[c]
   ·symm;rw[<- Bc6,FX];exact fun h=>hb (h i hl)
 ·refine ifF (by simp;omega) ⟨true,rfl,?_⟩;symm;rw[FX];exact fun j d=>h1 j (by omega)
def gB (p m:BitVec 32)(f:Nat):Int:=if p.getLsbD f then 1 else if m.getLsbD f then -1 else 0
theorem Xg {N:Nat}(p m:BitVec 32)(a:vB p m=true)(f:Nat)(c:f<24)(b:1000<=N):BG N (sOf p m) (f:Int)=some (gB p m f):=by
 unfold BG;rw[Ao p m b];simp only[AS4,lt,Jn,Xe,gB,a];rw[if_pos (by omega:(0:Int)<=(f:Int)),if_pos (by omega:(0:Int)<=(f:Int))];have e:(decide ((0:Int)<=(f:Int))&&decide ((f:Int)<24))=true:=by simp;omega
 rw[e];cases h1:p.getLsbD f<;>cases d:m.getLsbD f<;>simp
theorem gB_eq {p m a b:BitVec 32}(g:vB p m=true)(c : vB a b=true)(f:Nat)(d:f<32):(gB a b f≠0->gB p m f=gB a b f)↔((a.getLsbD f=true->p.getLsbD f=true)/\(b.getLsbD f=true->m.getLsbD f=true)):=by have h1:=((FX p m).1 g f d).1;have i:=((FX a b).1 c f d).1;revert h1 i;simp only[gB];cases a.getLsbD f<;>cases b.getLsbD f<;>cases p.getLsbD f<;>cases m.getLsbD f<;>simp
def Zj (p m a b:BitVec 32):Bool:=vB p m&&(vB a b&&decide (∀i:Fin 32,(a.getLsbD i=true->p.getLsbD i=true)/\(b.getLsbD i=true->m.getLsbD i=true)))
theorem AE8 (a p:BitVec 32):a &&& ~~~ p=0#32 ↔ ∀i,i<32->(a.getLsbD i=true->p.getLsbD i=true):=by rw[z32];refine forall_congr' fun i=>forall_congr' fun b=>?_;rw[AT6,AX5];cases a.getLsbD i<;>cases p.getLsbD i<;>simp[b]
theorem AE9 {N:Nat}(p m a b:BitVec 32):J4 N (sOf p m) (sOf a b)=some (Zj p m a b):=by
 unfold J4;rw[BQ];simp only[AS4,lt,BQ,EJ,eq0,Zj];cases h1:vB p m
 ·simp
 cases d:vB a b
 ·simp
 simp only[if_true,Be5];have key:(decide (∀i:Fin 32,(a.getLsbD i=true->p.getLsbD i=true)/\(b.getLsbD i=true->m.getLsbD i=true)))=(decide (a &&& ~~~ p=0#32)&&decide (b &&& ~~~ m=0#32)):=by rw[AV7];simp only[AS7,decide_eq_true_eq,AE8];exact⟨fun h=>⟨fun i c=>(h ⟨i,c⟩).1,fun i c=>(h ⟨i,c⟩).2⟩,fun h i=>⟨h.1 i.1 i.2,h.2 i.1 i.2⟩⟩
 rw[key];by_cases h:a &&& ~~~ p=0#32
 ·simp[h]
 ·simp[h]
theorem AF0 {N:Nat}(p m a b:BitVec 32)(f:1000<=N):X5 N (sOf p m) (sOf a b)=some (Zj p m a b):=by
 suffices h:∃r,X5 N (sOf p m) (sOf a b)=some r/\r=Zj p m a b by obtain⟨r,h,rfl⟩:=h;exact h
 unfold X5;rw[Ao p m f];refine B1 rfl (ltX ?_);cases h1:vB p m
 ·exact ifT (by simp) (ifT rfl ⟨false,rfl,by simp[Zj,h1]⟩)
 refine ifF (by simp) ?_;rw[Ao a b f];refine B1 rfl ?_;cases c:vB a b
 ·exact ifT (by simp) ⟨false,rfl,by simp[Zj,c]⟩
 refine ifF (by simp) ?_;refine BP (fun i x3=>x3=(i:Int)/\∀j,j<i->((a.getLsbD j=true->p.getLsbD j=true)/\(b.getLsbD j=true->m.getLsbD j=true))) 24 _ (by omega) ⟨rfl,fun j n=>absurd n (by omega)⟩ ?_;rintro d i x3 q ⟨rfl,o⟩ hs;by_cases hl:i<24
 ·refine ifT (by simp;omega) (B1 (Xg a b c i hl f) (ltX ?_));have key:=gB_eq h1 c i (by omega);have fin:(¬(gB a b i≠0->gB p m i=gB a b i))->false=Zj p m a b:=fun hn=>by symm;simp only[Zj,h1,c,Be5];rw[<- Bc6,decide_eq_true_eq];intro h;exact hn (key.2 (h ⟨i,by omega⟩))
  have go:(gB a b i≠0->gB p m i=gB a b i)->∃r,d (wrap .i64 ((i:Int)+1))=some r/\r=Zj p m a b:=fun hp=>hs hl _ ⟨B8 (by omega),fun j n=>by
   by_cases e:j=i
   ·subst e;exact key.1 hp
   ·exact o j (by omega)⟩
  by_cases g:gB a b i=0
  ·exact ifF (by simp[g]) (ifF (by simp) (go fun h=>absurd g h))
  ·refine ifT (by simp[g]) (B1 (Xg p m h1 i hl f) ?_);by_cases l:gB p m i=gB a b i
   ·exact ifF (by simp[l]) (go fun _=>l)
   ·exact ifT (by simp[l]) ⟨false,rfl,fin fun h=>l (h g)⟩
 ·refine ifF (by simp;omega) ⟨true,rfl,?_⟩;symm;simp only[Zj,h1,c,Be5,decide_eq_true_eq];intro j;by_cases n:j.1<24
  ·exact o j.1 (by omega)
  ·have:=((FX a b).1 c j.1 j.2).2 (by omega)
   exact⟨fun h=>by rw[this.1]at h;exact absurd h (by simp),fun h=>by rw[this.2]at h;exact absurd h (by simp)⟩
def RD (x y s:BitVec 32):BitVec 32:=(x &&& ~~~ s) ||| (y &&& s)
theorem Aw7 {N:Nat}(p m a b s:BitVec 32):Cf N (sOf p m) (sOf a b) (s.toNat:Int)=some (sOf (RD p a s) (RD m b s)):=by unfold Cf;simp only[EJ,Fk,KH,RD]
def AP6 (x:BitVec 32)(f:Nat)(on:Bool):BitVec 32:=if on then (x &&& ~~~ (1#32 <<< f)) ||| (1#32 <<< f)else x &&& ~~~ (1#32 <<< f)
theorem Hl (x:BitVec 32)(f:Nat)(on:Bool){j:Nat}(a:j<32):(AP6 x f on).getLsbD j=if j=f then on else x.getLsbD j:=by
 unfold AP6;cases on
 ·rw[if_neg (by simp),AT6,AX5,Ad5 a];by_cases e:j=f<;>simp[e,a]
 ·rw[if_pos rfl,AT5,AT6,AX5,Ad5 a];by_cases e:j=f<;>simp[e,a]
theorem Ad6 {N:Nat}(p m:BitVec 32)(f:Nat)(v:Int):ER N (sOf p m) (f:Int) v=some (sOf (AP6 p f (v==1)) (AP6 m f (v == -1))):=by unfold ER;rw[if_pos (by omega)];simp only[AE7,EJ,KH];cases h1:v==1<;>cases a:v == -1<;>simp[AP6]
def Aq0 (p m c a b:BitVec 32):Sound×Int:=if vB p m=true/\vB a b then (if c.toNat<16777216/\c &&& (a ||| b)=0#32 then (sOf (RD p a (c ||| (a ||| b))) (RD m b (c ||| (a ||| b))),0)else (⟨0,0⟩,2))else (⟨0,0⟩,14)
theorem YK {N:Nat}(p m c a b:BitVec 32):O8 N (sOf p m) (c.toNat:Int) (sOf a b)=some (Aq0 p m c a b):=by
 unfold O8 Aq0;rw[BQ];simp only[AS4,lt,BQ,DA,KH,Fk,Aw7];cases h1:vB p m
 ·simp
 cases g:vB a b
 ·simp
 by_cases d:c.toNat<16777216
 ·have e:((c &&& (a ||| b)).toNat:Int) != 0 ↔ ¬(c &&& (a ||| b)=0#32):=by
   have:=eq0 (c &&& (a ||| b))
   simp only[bne_iff_ne,ne_eq];rw[<- decide_eq_true_eq (p:=c &&& (a ||| b)=0#32),<- this];simp
  by_cases f:c &&& (a ||| b)=0#32
  ·simp[d,f];omega
  ·have e':=e.2 f;rw[if_neg (by simp<;>omega),e'];simp[d,f]
 ·simp[d];omega
theorem YL {N:Nat}(p m c a b:BitVec 32)(t:1000<=N):X6 N (sOf p m) (c.toNat:Int) (sOf a b)=some (Aq0 p m c a b):=by
 suffices h:∃r,X6 N (sOf p m) (c.toNat:Int) (sOf a b)=some r/\r=Aq0 p m c a b by obtain⟨r,h,rfl⟩:=h;exact h
 unfold X6;rw[Ao p m t];refine B1 rfl (ltX ?_);cases h1:vB p m
 ·exact ifT (by simp) (ifT rfl ⟨_,rfl,by simp[Aq0,h1]⟩)
 refine ifF (by simp) ?_;rw[Ao a b t];refine B1 rfl ?_;cases o:vB a b
 ·exact ifT (by simp) ⟨_,rfl,by simp[Aq0,o]⟩
 refine ifF (by simp) ?_;rw[KH,Fk];by_cases hc:c.toNat<16777216/\c &&& (a ||| b)=0#32
 ·obtain⟨q,n⟩:=hc;refine ifF (by rw[n];simp;omega) ?_;have y:∀j,j<32->¬(c.getLsbD j=true/\(a.getLsbD j=true \/ b.getLsbD j=true)):=fun j d=>by
   have:=(z32 _).1 n j d
   rw[AT6,AT5]at this;revert this;cases c.getLsbD j<;>cases a.getLsbD j<;>cases b.getLsbD j<;>simp
  refine Rk (fun i x2 x3 x4=>x4=(i:Int)/\∃P M:BitVec 32,x2=(P.toNat:Int)/\x3=(M.toNat:Int)/\∀j,j<32 ->
   P.getLsbD j=(if j<i/\(c.getLsbD j=true \/ a.getLsbD j=true \/ b.getLsbD j=true)then a.getLsbD j else p.getLsbD j)/\M.getLsbD j=(if j<i/\(c.getLsbD j=true \/ a.getLsbD j=true \/ b.getLsbD j=true)then b.getLsbD j else m.getLsbD j)) 24 _ (by omega)
   ⟨rfl,p,m,rfl,rfl,fun j d=>by simp⟩ ?_
  rintro w i x2 x3 x4 hi ⟨rfl,P,M,rfl,rfl,f⟩ hs;by_cases hl:i<24
  ·refine ifT (by simp;omega) (ifT (by omega) ?_);rw[Xe];have u:=Xg (N:=N) a b o i hl t;have v:=((FX a b).1 o i (by omega)).1;have z:=y i (by omega);by_cases l:c.getLsbD i=true
   ·refine ifT l (B1 (Ad6 P M i 0) (B1 u ?_));have ea:a.getLsbD i=false:=by cases e:a.getLsbD i<;>simp_all
    have eb:b.getLsbD i=false:=by cases e:b.getLsbD i<;>simp_all
    refine ifF (by simp[gB,ea,eb]) (hs hl _ _ _ ⟨B8 (by omega),_,_,rfl,rfl,fun j d=>?_⟩);rw[Hl _ _ _ d,Hl _ _ _ d];by_cases e:j=i
    ·subst e;simp[l,ea,eb]
    ·have:=f j d
     have e2:j<i+1↔j<i:=by omega
     simp only[e,if_false,e2];exact this
   ·refine ifF l (B1 u ?_);by_cases s:gB a b i=0
    ·have ea:a.getLsbD i=false:=by revert s;simp only[gB];cases a.getLsbD i<;>simp
     have eb:b.getLsbD i=false:=by revert s;simp only[gB,ea];cases b.getLsbD i<;>simp
     refine ifF (by simp[s]) (hs hl _ _ _ ⟨B8 (by omega),P,M,rfl,rfl,fun j d=>?_⟩);by_cases e:j=i
     ·subst e;have:=f j d;simpa[l,ea,eb]using this
     ·have:=f j d
      have e2:j<i+1↔j<i:=by omega
      simp only[e2];exact this
    ·refine ifT (by simp[s]) (B1 u (B1 (Ad6 P M i _) (hs hl _ _ _ ⟨B8 (by omega),_,_,rfl,rfl,fun j d=>?_⟩)));rw[Hl _ _ _ d,Hl _ _ _ d];by_cases e:j=i
     ·subst e;revert s v;simp only[gB];cases a.getLsbD j<;>cases b.getLsbD j<;>simp
     ·have:=f j d
      have e2:j<i+1↔j<i:=by omega
      simp only[e,if_false,e2];exact this
  ·obtain rfl:i=24:=by omega
   refine ifF (by simp) ⟨_,rfl,?_⟩;simp only[Aq0,h1,o,q,n,and_self,if_true];have hp:=(FX p m).1 h1;have x:=(FX a b).1 o;have a0:=(GQ c).1 q;have eP:P=RD p a (c ||| (a ||| b)):=Jx fun j d=>by
    rw[(f j d).1,RD,AT5,AT6,AT6,AX5,AT5,AT5];by_cases g:j<24
    ·cases c.getLsbD j<;>cases a.getLsbD j<;>cases b.getLsbD j<;>cases p.getLsbD j<;>simp[g,d]
    ·have g1:=(hp j d).2 (by omega);have g2:=(x j d).2 (by omega);simp[g,g1.1,g2.1]
   have eM:M=RD m b (c ||| (a ||| b)):=Jx fun j d=>by
    rw[(f j d).2,RD,AT5,AT6,AT6,AX5,AT5,AT5];by_cases g:j<24
    ·cases c.getLsbD j<;>cases a.getLsbD j<;>cases b.getLsbD j<;>cases m.getLsbD j<;>simp[g,d]
    ·have g1:=(hp j d).2 (by omega);have g2:=(x j d).2 (by omega);simp[g,g1.2,g2.2]
   rw[eP,eM]
 ·refine ifT ?_ ⟨_,rfl,?_⟩
  ·rw[AU0,decide_eq_true_eq,bne_iff_ne];by_cases h:c.toNat<16777216
   ·right
    intro h0;exact hc ⟨h,AU4 (by show _=0;omega)⟩
   ·left;omega
  ·simp only[Aq0,h1,o,and_self,if_true];rw[if_neg hc]
def Aq1 (p m a b s:BitVec 32):Sound×Int:=if vB p m=true/\vB a b then (if s.toNat<16777216 then (sOf (RD p a s) (RD m b s),0)else (⟨0,0⟩,2))else (⟨0,0⟩,14)
theorem Aq2 {N:Nat}(p m a b s:BitVec 32):T2 N (sOf p m) (sOf a b) (s.toNat:Int)=some (Aq1 p m a b s):=by
 unfold T2 Aq1;rw[BQ];simp only[AS4,lt,BQ,Aw7];cases h1:vB p m
 ·simp
 cases d:vB a b
 ·simp
 by_cases c:s.toNat<16777216
 ·simp[c];omega
 ·simp[c];omega
theorem Aq3 {N:Nat}(p m a b s:BitVec 32)(o:1000<=N):Cg N (sOf p m) (sOf a b) (s.toNat:Int)=some (Aq1 p m a b s):=by
 suffices h:∃r,Cg N (sOf p m) (sOf a b) (s.toNat:Int)=some r/\r=Aq1 p m a b s by obtain⟨r,h,rfl⟩:=h;exact h
 unfold Cg;rw[Ao p m o];refine B1 rfl (ltX ?_);cases h1:vB p m
 ·exact ifT (by simp) (ifT rfl ⟨_,rfl,by simp[Aq1,h1]⟩)
 refine ifF (by simp) ?_;rw[Ao a b o];refine B1 rfl ?_;cases l:vB a b
 ·exact ifT (by simp) ⟨_,rfl,by simp[Aq1,l]⟩
 refine ifF (by simp) ?_;by_cases hc:s.toNat<16777216
 ·refine ifF (by simp;omega) ?_;refine Rk (fun i x2 x3 x4=>x4=(i:Int)/\∃P M:BitVec 32,x2=(P.toNat:Int)/\x3=(M.toNat:Int)/\∀j,j<32 ->
   P.getLsbD j=(if j<i/\s.getLsbD j then a.getLsbD j else p.getLsbD j)/\M.getLsbD j=(if j<i/\s.getLsbD j then b.getLsbD j else m.getLsbD j)) 24 _ (by omega)
   ⟨rfl,p,m,rfl,rfl,fun j c=>by simp⟩ ?_
  rintro t i x2 x3 x4 u ⟨rfl,P,M,rfl,rfl,d⟩ hs;by_cases hl:i<24
  ·refine ifT (by simp;omega) (ifT (by omega) ?_);rw[Xe];have q:=((FX a b).1 l i (by omega)).1;by_cases g:s.getLsbD i=true
   ·refine ifT g (B1 (Xg (N:=N) a b l i hl o) (B1 (Ad6 P M i _) (hs hl _ _ _ ⟨B8 (by omega),_,_,rfl,rfl,fun j c=>?_⟩)));rw[Hl _ _ _ c,Hl _ _ _ c];by_cases e:j=i
    ·subst e;revert q;simp only[gB,g];cases a.getLsbD j<;>cases b.getLsbD j<;>simp
    ·have:=d j c
     have e2:j<i+1↔j<i:=by omega
     simp only[e,if_false,e2];exact this
   ·refine ifF g (hs hl _ _ _ ⟨B8 (by omega),P,M,rfl,rfl,fun j c=>?_⟩);by_cases e:j=i
    ·subst e;have:=d j c;simpa[g]using this
    ·have:=d j c
     have e2:j<i+1↔j<i:=by omega
     simp only[e2];exact this
  ·obtain rfl:i=24:=by omega
   refine ifF (by simp) ⟨_,rfl,?_⟩;simp only[Aq1,h1,l,hc,and_self,if_true];have n:=(GQ s).1 hc;have eP:P=RD p a s:=Jx fun j c=>by
    rw[(d j c).1,RD,AT5,AT6,AT6,AX5];by_cases f:j<24
    ·cases s.getLsbD j<;>cases a.getLsbD j<;>cases p.getLsbD j<;>simp[f,c]
    ·rw[if_neg (by simp[f]),n j (by omega) c];simp[c]
   have eM:M=RD m b s:=Jx fun j c=>by
    rw[(d j c).2,RD,AT5,AT6,AT6,AX5];by_cases f:j<24
    ·cases s.getLsbD j<;>cases b.getLsbD j<;>cases m.getLsbD j<;>simp[f,c]
    ·rw[if_neg (by simp[f]),n j (by omega) c];simp[c]
   rw[eP,eM]
 ·exact ifT (by simp;omega) ⟨_,rfl,by simp[Aq1,h1,l,hc]⟩
end Go.AM
namespace Go.AM
open Go.Proofs
def vS (s:Sound):Prop:=∃p m:BitVec 32,s=sOf p m/\vB p m=true
def Ht (p:Pat):Prop:=
 (0<=p.Kind/\p.Kind<=6)/\(p.Kind≠1->(p.Is.Plus=0/\p.Is.Minus=0)/\p.Not=false)/\(p.Kind≠3->p.Kind≠4->p.Kind≠5->p.L.n=0)/\(p.Kind≠5->p.Min=0/\p.Max=0) /\
 (p.Kind=5->p.L.n=1/\0<=p.Min/\p.Min<=32/\(p.Max = -1 \/ (p.Min<=p.Max/\p.Max<=32)))/\vS p.Is
theorem VO {s:Sound}{p m:BitVec 32}(h:s=sOf p m):vS s↔vB p m=true:=by
 constructor
 ·rintro⟨q,r,e,a⟩;rw[h]at e;have e1:(p.toNat:Int)=q.toNat:=congrArg Sound.Plus e;have e2:(m.toNat:Int)=r.toNat:=congrArg Sound.Minus e;rw[AU4 (show p.toNat=q.toNat by omega),AU4 (show m.toNat=r.toNat by omega)];exact a
 ·exact fun a=>⟨p,m,h,a⟩
def okPS:Pat->Prop
 |.nil=>True
 |.mk _ is _ _ _ n g=>okS is/\∀i,i<n->okPS (g i)
theorem okPS.is {p:Pat}(h:okPS p):okS p.Is:=by
 cases p with
 |nil=>exact⟨0#32,0#32,rfl⟩
 |mk _ is _ _ _ n g=>exact h.1
theorem okPS.L {p:Pat}(h:okPS p){i:Nat}(a:i<p.L.n):okPS (p.L.g i):=by
 cases p with
 |nil=>exact absurd a (by show ¬i<0;omega)
 |mk _ is _ _ _ n g=>exact h.2 i a
def chk:Nat->List Pat->Prop
 |0,l=>l=[]
 |_+1,[]=>True
 |k+1,p::l=>Ht p/\chk k (p.L.toList++l)
theorem Ad7:∀k,chk k []
 |0=>rfl
 |_+1=>trivial
theorem NC:∀(k:Nat) (l:List Pat),chk k l->l.length<=k
 |0,l,h=>by rw[show l=[] from h];exact AS8 _
 |k+1,[],_=>Ba9 _
 |k+1,p::l,⟨_,h⟩=>by
  have:=NC k _ h
  rw[AT8]at this;simp only[AV4];omega
theorem Xh:∀(d:Nat) (p:Pat),okP d p->okP (d+1) p
 |0,_,h=>h.elim
 |d+1,p,⟨h1,h2,h3⟩=>⟨h1,h2,fun i a=>Xh d _ (h3 i a)⟩
theorem PK {α : Type}{s:Sl α}{i:Nat}(h:i<s.n):s.g i∈s.toList:=Ba7.2 ⟨i,AX4.2 h,rfl⟩
theorem Bp {α : Type}(s:Sl α):s.toList.length=s.n:=by simp[Sl.toList]
theorem ND:∀(k:Nat) (l:List Pat),k<=40->chk k l->∀p∈l,okP k p
 |0,l,_,h,p,hp=>by rw[show l=[] from h]at hp;cases hp
 |k+1,[],_,_,p,hp=>by cases hp
 |k+1,q::l,hk,⟨hn,h⟩,p,hp=>by
  have ih:=ND k _ (by omega) h;rcases AW1.1 hp with rfl|hp
  ·have hl:=NC k _ h;rw[AT8,Bp]at hl;exact⟨by omega,fun a=>hn.2.2.2.2.1 a,fun i b=>ih _ (AU9 _ (PK b))⟩
  ·exact Xh k p (ih p (AT7 _ hp))
theorem Aq4 {N:Nat}{p:Pat}(hp:okS p.Is):∃e,ES N p=some e/\(e=0↔Ht p):=by
 obtain⟨a,b,f⟩:=hp;have i:=VO f;unfold ES Ht;by_cases h1:0<=p.Kind/\p.Kind<=6
 case neg=>exact ifT (by simp;omega) ⟨2,rfl,by simp;omega⟩
 refine ifF (by simp;omega) ?_;have e0:((p.Is.Plus==0)&&(p.Is.Minus==0))=decide (p.Is.Plus=0/\p.Is.Minus=0):=by rw[AV7];simp
 rw[e0];by_cases c:p.Kind≠1->(p.Is.Plus=0/\p.Is.Minus=0)/\p.Not=false
 case neg=>
  refine ifT ?_ ⟨2,rfl,by simp[c]⟩;simp only[AS7,AU0,bne_iff_ne,ne_eq,Bc6,decide_eq_false_iff_not];rw[Classical.not_imp]at c;refine⟨c.1,?_⟩;by_cases h:p.Is.Plus=0/\p.Is.Minus=0
  ·right
   cases hn:p.Not
   ·exact absurd ⟨h,hn⟩ c.2
   ·rfl
  ·exact .inl h
 refine ifF ?_ (ltX ?_)
 ·simp only[AS7,AU0,bne_iff_ne,ne_eq,Bc6,decide_eq_false_iff_not];rintro⟨g1,g2⟩;obtain⟨g3,g4⟩:=c g1;rcases g2 with g2|g2
  ·exact g2 g3
  ·rw[g4]at g2;cases g2
 have rest:(p.Kind≠3->p.Kind≠4->p.Kind≠5->p.L.n=0)->∃e,(if ((p.Kind != 5)&&((p.Min != 0)||(p.Max != 0))) then some (2:Int)else
  lt (fun (z2:Bool)=>if z2 then some 2 else (R7 N p.Is).bind fun y1=>if (!y1) then some 14 else some 0) fun k2=>
   if (p.Kind==5) then if (((p.L.n:Nat):Int) != 1) then k2 true else if (decide (p.Min<0)) then k2 true else if (decide (32<p.Min)) then k2 true else
    if (p.Max != (-1)) then if (decide (p.Max<p.Min)) then k2 true else k2 (decide (32<p.Max))else k2 false else k2 false)=some e /\
  (e=0↔(0<=p.Kind/\p.Kind<=6)/\(p.Kind≠1->(p.Is.Plus=0/\p.Is.Minus=0)/\p.Not=false)/\(p.Kind≠3->p.Kind≠4->p.Kind≠5->p.L.n=0)/\(p.Kind≠5->p.Min=0/\p.Max=0) /\
   (p.Kind=5->p.L.n=1/\0<=p.Min/\p.Min<=32/\(p.Max = -1 \/ (p.Min<=p.Max/\p.Max<=32)))/\vS p.Is):=by
  intro j;by_cases d:p.Kind≠5->p.Min=0/\p.Max=0
  case neg=>refine ifT ?_ ⟨2,rfl,by simp[d]⟩;rw[Classical.not_imp]at d;simp only[AS7,AU0,bne_iff_ne,ne_eq];omega
  refine ifF ?_ (ltX ?_)
  ·simp only[AS7,AU0,bne_iff_ne,ne_eq];rintro⟨g1,g2⟩
   have:=d g1
   omega
  have last:(p.Kind=5->p.L.n=1/\0<=p.Min/\p.Min<=32/\(p.Max = -1 \/ (p.Min<=p.Max/\p.Max<=32)))->∃e,(if false then some (2:Int)else (R7 N p.Is).bind fun y1=>if (!y1) then some 14 else some 0)=some e /\
   (e=0↔(0<=p.Kind/\p.Kind<=6)/\(p.Kind≠1->(p.Is.Plus=0/\p.Is.Minus=0)/\p.Not=false)/\(p.Kind≠3->p.Kind≠4->p.Kind≠5->p.L.n=0)/\(p.Kind≠5->p.Min=0/\p.Max=0) /\
    (p.Kind=5->p.L.n=1/\0<=p.Min/\p.Min<=32/\(p.Max = -1 \/ (p.Min<=p.Max/\p.Max<=32)))/\vS p.Is):=by
   intro g;refine ifF (by simp) ?_;rw[i,f,PJ];refine B1 rfl ?_;cases l:vB a b
   ·exact ifT rfl ⟨14,rfl,by simp⟩
   ·exact ifF (by simp) ⟨0,rfl,by rw[<- f];exact⟨fun _=>⟨h1,c,j,d,g,rfl⟩,fun _=>rfl⟩⟩
  have bad:¬(p.Kind=5->p.L.n=1/\0<=p.Min/\p.Min<=32/\(p.Max = -1 \/ (p.Min<=p.Max/\p.Max<=32)))->∃e,(if true then some (2:Int)else (R7 N p.Is).bind fun y1=>if (!y1) then some 14 else some 0)=some e /\
   (e=0↔(0<=p.Kind/\p.Kind<=6)/\(p.Kind≠1->(p.Is.Plus=0/\p.Is.Minus=0)/\p.Not=false)/\(p.Kind≠3->p.Kind≠4->p.Kind≠5->p.L.n=0)/\(p.Kind≠5->p.Min=0/\p.Max=0) /\
    (p.Kind=5->p.L.n=1/\0<=p.Min/\p.Min<=32/\(p.Max = -1 \/ (p.Min<=p.Max/\p.Max<=32)))/\vS p.Is):=fun g=>ifT rfl ⟨2,rfl,⟨fun h=>absurd h (by decide),fun h=>absurd h.2.2.2.2.1 g⟩⟩
  by_cases k5:p.Kind=5
  ·refine ifT (by simp[k5]) ?_;by_cases g1:p.L.n=1
   case neg=>exact ifT (by simp;omega) (bad fun h=>g1 (h k5).1)
   refine ifF (by simp;omega) ?_;by_cases g2:p.Min<0
   ·exact ifT (by simpa using g2) (bad fun h=>by have:=h k5;omega)
   refine ifF (by simpa using g2) ?_;by_cases g3:32<p.Min
   ·exact ifT (by simpa using g3) (bad fun h=>by have:=h k5;omega)
   refine ifF (by simpa using g3) ?_;by_cases g4:p.Max = -1
   ·exact ifF (by simp[g4]) (last fun _=>⟨g1,by omega,by omega,.inl g4⟩)
   refine ifT (by simp[g4]) ?_;by_cases g5:p.Max<p.Min
   ·exact ifT (by simpa using g5) (bad fun h=>by have:=h k5;omega)
   refine ifF (by simpa using g5) ?_;by_cases g6:32<p.Max
   ·rw[decide_eq_true g6];exact bad fun h=>by have:=h k5;omega
   ·rw[decide_eq_false g6];exact last fun _=>⟨g1,by omega,by omega,.inr ⟨by omega,by omega⟩⟩
  ·exact ifF (by simp[k5]) (last fun h=>absurd h k5)
 by_cases k3:p.Kind=3
 ·exact ifF (by simp[k3]) (ifF (by simp) (rest fun h=>absurd k3 h))
 refine ifT (by simp[k3]) ?_;by_cases k4:p.Kind=4
 ·exact ifF (by simp[k4]) (ifF (by simp) (rest fun _ h=>absurd k4 h))
 refine ifT (by simp[k4]) ?_;by_cases k5:p.Kind=5
 ·exact ifF (by simp[k5]) (ifF (by simp) (rest fun _ _ h=>absurd k5 h))
 refine ifT (by simp[k5]) ?_;by_cases hn:p.L.n=0
 ·exact ifF (by simp;omega) (rest fun _ _ _=>hn)
 ·exact ifT (by simp;omega) ⟨2,rfl,⟨fun h=>absurd h (by decide),fun h=>absurd (h.2.2.1 k3 k4 k5) hn⟩⟩
theorem FF {α : Type}(s:Sl α){i:Nat}(h:i<s.n):s.toList.drop i=s.g i::s.toList.drop (i+1):=by
 have hl:i<s.toList.length:=by rw[Bp];exact h
 rw[Bd5 hl];simp[Sl.toList]
theorem DO {α : Type}(s:Sl α):s.toList.drop s.n=[]:=AZ5 (by rw[Bp];exact AS8 _)
theorem Ad8 {N:Nat}(o:1000<=N):∀(d:Nat),d<=40->∀(p:Pat),okPS p->∀M,N+d+1<=M->∃r,Dj M p ((40-d:Nat):Int)=some r /\
 ∃k:Nat,r.1=(k:Int)/\40-d<=k/\k<=40/\(r.2=0->40-d<k/\∀l,chk d (p::l)↔chk (40-k) l)/\(r.2≠0->∀l,¬chk d (p::l))
 |d,hd,p,hp,0,hM=>by omega
 |0,hd,p,hp,M+1,hM=>by show ∃r,X8 (Dj M) M p _=some r/\_;unfold X8;exact ifT (by simp) ⟨_,rfl,40,rfl,by omega,by omega,fun h=>absurd h (by decide),fun _ l h=>by cases h⟩
 |d+1,hd,p,hp,M+1,hM=>by
  show ∃r,X8 (Dj M) M p _=some r/\_;unfold X8;refine ifF (by simp;omega) ?_;obtain⟨e,q,hn⟩:=Aq4 (N:=M) hp.is;refine B1 q ?_;by_cases c:e=0
  case neg=>exact ifT (by simp[c]) ⟨_,rfl,40-(d+1),rfl,AS8 _,by omega,fun h=>absurd h c,fun _ l h=>c (hn.2 h.1)⟩
  refine ifF (by simp[c]) ?_;have a:=hn.1 c;rw[B8 (by omega)];refine P3 (fun i x1 x2=>x2=(i:Int)/\∃k:Nat,x1=(k:Int)/\40-(d+1)+1+i<=k/\k<=40/\i<=p.L.n/\∀l,chk (d+1) (p::l)↔chk (40-k) (p.L.toList.drop i++l)) 41 _ (by omega)
   ⟨rfl,40-(d+1)+1,rfl,by omega,by omega,by omega,fun l=>by rw[show 40-(40-(d+1)+1)=d by omega];exact⟨fun h=>h.2,fun h=>⟨a,h⟩⟩⟩ ?_
  rintro j i x1 x2 t ⟨rfl,k,rfl,h1,s,u,f⟩ hs;by_cases hl:i<p.L.n
  ·refine ifT (by simp;omega) (ifT (by omega) ?_);obtain⟨r,m,k',r1,r2,r3,r4,r5⟩:=Ad8 o (40-k) (by omega) (p.L.g i) (hp.L hl) M (by omega);rw[show ((40-(40-k):Nat):Int)=(k:Int) by omega]at m;refine B1 (by rw[AS2];exact m) ?_;by_cases b:r.2=0
   ·refine ifF (by simp[b]) (hs (by omega) _ _ ⟨B8 (by omega),k',r1,by have:=(r4 b).1;omega,r3,by omega,fun l=>?_⟩);rw[f,FF _ hl,AW5];exact (r4 b).2 _
   ·refine ifT (by simp[b]) ⟨_,rfl,k',r1,by omega,r3,fun h=>absurd h b,fun _ l hc=>?_⟩;rw[f,FF _ hl,AW5]at hc;exact r5 b _ hc
  ·obtain rfl:i=p.L.n:=by omega
   refine ifF (by simp) ⟨_,rfl,k,rfl,by omega,s,fun _=>⟨by omega,fun l=>?_⟩,fun h=>absurd rfl h⟩;rw[f,DO];rfl
theorem NE {N:Nat}(f:2000<=N){p:Pat}(hp:okPS p):∃e,Bf N p=some e/\(e=0↔chk 40 [p]):=by
 obtain⟨r,b,k,h1,g,i,c,d⟩:=Ad8 (N:=1500) (by omega) 40 (AS8 _) p hp N (by omega);unfold Bf;refine B1 b ⟨_,rfl,fun h=>?_,fun h=>?_⟩
 ·exact ((c h).2 []).2 (Ad7 _)
 ·by_cases a:r.2=0
  ·exact a
  ·exact absurd h (d a [])
end Go.AM
namespace Go.AM
open Go.Proofs
theorem Ad9 (x:BitVec 64)(h:x≠0#64):Lib.ctz 64 x.toNat<64/\x.getLsbD (Lib.ctz 64 x.toNat)=true/\∀j,j<Lib.ctz 64 x.toNat->x.getLsbD j=false:=by
 have b:x.toNat≠0:=fun e=>h (AU4 (by simpa using e));obtain⟨m,hm,a⟩:=Bi6 64 x.toNat (by omega) x.isLt;have e:Lib.ctz 64 x.toNat=Lib.ctzFrom 64 x.toNat:=by unfold Lib.ctz;rw[if_neg b]
 rw[e];refine⟨a,?_,fun j c=>?_⟩
 ·show x.toNat.testBit _=true;rw[hm,AY5];simp[<- hm,Bg0]
 ·show x.toNat.testBit _=false;rw[hm,AY5];simp[<- hm];omega
def FG (x:BitVec 64)(i:Nat):List Int:=((List.range' i (64-i)).filter fun j=>x.getLsbD j).map fun (j:Nat)=>(j:Int)
theorem Km {x:BitVec 64}{i:Nat}(h:∀j,j<64->x.getLsbD j=false):FG x i=[]:=by
 unfold FG;rw[Bi9.2 fun j a=>by
  have:=List.mem_range'.1 a
  simp;exact h j (by omega)]
 rfl
theorem PL {x:BitVec 64}{t:Nat}:∀(k i:Nat),t=i+k->t<64->x.getLsbD t=true->(∀j,j<t->x.getLsbD j=false)->FG x i=(t:Int)::FG x (t+1)
 |0,i,h,ht,hb,hl=>by
  obtain rfl:t=i:=by omega
  unfold FG;rw[show 64-t=(64-(t+1))+1 by omega,Bd8,Bi2 hb];rfl
 |k+1,i,h,ht,hb,hl=>by rw[<- PL k (i+1) (by omega) ht hb hl];unfold FG;rw[show 64-i=(64-(i+1))+1 by omega,Bd8,Bi3 (by simp;exact hl i (by omega))]
theorem VP {x y:BitVec 64}{i:Nat}(h:∀j,i<=j->x.getLsbD j=y.getLsbD j):FG x i=FG y i:=by unfold FG;rw[List.filter_congr fun j a=>h j (by have:=List.mem_range'.1 a;omega)]
def AR8 (M:Nat)(a:Int->Option (List Int))(x1:Int):Option (List Int):=
 if (x1 != 0) then
  (B6 M x1).bind fun y3=>
  if (0:Int)<=y3 then
   Ar y3 (
    a (C9 .andNot .u64 x1 (shI .shl .u64 1 y3))
    )
  else none
 else
  some []
theorem Ae0 {x:BitVec 64}{M:Nat}{a:Int->Option (List Int)}(hx:x≠0#64):AR8 M a (U x)=Ar ((Lib.ctz 64 x.toNat:Nat):Int) (a (U (x &&& ~~~(1#64 <<< Lib.ctz 64 x.toNat)))):=by
 have c:x.toNat≠0:=fun e=>hx (AU4 (by simpa using e));have b:=x.isLt;unfold AR8;rw[if_pos (by simp;omega)]
 have:B6 M (U x)=some ((Lib.ctz 64 x.toNat:Nat):Int):=by unfold B6;rw[if_pos ⟨show (0:Int)<=(x.toNat:Int) by omega,show (x.toNat:Int)<18446744073709551616 by omega⟩];rfl
 rw[this,AS4,if_pos (by omega),Ng _ (Ad9 x hx).1,Ap2]
theorem Tx {M:Nat}{a:Int->Option (List Int)}:AR8 M a (U 0#64)=some []:=rfl
theorem AF1 (M:Nat):∀(k i:Nat) (x:BitVec 64),64-i<=k->(∀j,j<i->x.getLsbD j=false)->∀N,k<N->V9 N (AR8 M) (U x)=some (FG x i):=by
 intro k
 induction k with
 |zero=>
  intro i x hk hl N b;have g:x=0#64:=AX9 fun j a=>by simp;exact hl j (by omega)
  subst g
  match N,b with
  |N+1,_=>rw[Km fun j a=>by simp,AH,Tx]
 |succ k ih=>
  intro i x hk hl N b
  match N,b with
  |N+1,b=>
   by_cases hx:x=0#64
   ·subst hx;rw[Km fun j a=>by simp,AH,Tx]
   ·obtain⟨h1,c,d⟩:=Ad9 x hx;have l:i<=Lib.ctz 64 x.toNat:=by
     by_cases m:Lib.ctz 64 x.toNat<i
     ·rw[hl _ m]at c;cases c
     ·omega
    rw[PL (Lib.ctz 64 x.toNat-i) i (by omega) h1 c d,AH,Ae0 hx];generalize Lib.ctz 64 x.toNat=t at h1 c d l;have hb:∀j,j<64->(x &&& ~~~(1#64 <<< t)).getLsbD j=(x.getLsbD j && !decide (j=t)):=fun j a=>by rw[AT6,AX5,Fx h1 a];simp[a]
    have hc:FG x (t+1)=FG (x &&& ~~~(1#64 <<< t)) (t+1):=VP fun j a=>by
     by_cases f:j<64
     ·rw[hb j f];have:¬j=t:=by omega
      simp[this]
     ·rw[Bj9 _ _ (by omega),Bj9 _ _ (by omega)]
    rw[ih (t+1) (x &&& ~~~(1#64 <<< t)) (by omega) (fun j a=>by
     rw[hb j (by omega)];by_cases e:j=t
     ·simp[e]
     ·rw[d j (by omega)];rfl) N (by omega),<- hc]
    rfl
theorem Ir (x:BitVec 64){N:Nat}(b:100<=N):Q4 N (U x)=some (FG x 0):=
 AF1 N 64 0 x (by omega) (fun j a=>absurd a (by omega)) N (by omega)
theorem mem_bitsF {x:BitVec 64}{i:Nat}{y:Int}:y∈FG x i ↔ ∃j:Nat,y=(j:Int)/\i<=j/\j<64/\x.getLsbD j=true:=by
 unfold FG;simp only[Ba7,Be7,Bh7];constructor
 ·rintro⟨j,⟨h1,a⟩,rfl⟩;exact⟨j,rfl,h1.1,by omega,a⟩
 ·rintro⟨j,rfl,h1,a,b⟩;exact⟨j,⟨⟨h1,by omega⟩,b⟩,rfl⟩
theorem Aq5 {T A R:Type}{body:(A->Option R)->T->A->Option R}{k:A->Option R}{K4:R->Prop}(J:List T->A->Prop)(c:∀a,J [] a->∃r,k a=some r/\K4 r)
 (b:∀t L a self,J (t::L) a->(∀a',J L a' -> ∃r,self a' = some r/\K4 r)->∃r,body self t a=some r/\K4 r):∀(L:List T) (a:A),J L a->∃r,O5 L body k a=some r/\K4 r
 |[],a,h=>c a h
 |t::L,a,h=>b t L a _ h fun a' h'=>Aq5 J c b L a' h'
def TabA (n:Nat)(R:Nat->Nat->Prop)(f:Nat->Int):Prop:=TabR n R f/\∀a,n<a->f a=0
theorem TabA.congr {n:Nat}{R R' : Nat->Nat->Prop}{f:Nat->Int}(h:TabA n R f)(c:∀a b,a<=n->b<=n->(R a b↔R' a b)):TabA n R' f:=⟨h.1.congr c,h.2⟩
theorem zeroA (n:Nat):TabA n (fun _ _=>False) (fun _=>0):=⟨Ap7 fun _ _=>rfl,fun _ _=>rfl⟩
theorem Eh (f:Nat->Int)(i:Nat)(v:Int)(a:Nat):KK f i v a=if a=i then v else f a:=rfl
theorem Aw8 {N n:Nat}{R S:Nat->Nat->Prop}{x y:Nat->Int}(hn:n<=32)(f:1000<=N)(hR:TabA n R x)(hS:TabA n S y) :∃s,N0 N x y=some s/\TabA n (fun a b=>R a b \/ S a b) s:=by
 unfold N0;refine P3 (fun i x1 x2=>x2=(i:Int)/\∀a,x1 a=if a<i then C9 .or .u64 (x a) (y a)else x a) 33 _ (by omega) ⟨rfl,fun a=>by rw[if_neg (by omega)]⟩ ?_;rintro d i x1 x2 g ⟨rfl,c⟩ hs;by_cases hl:i<33
 ·refine ifT (by simp;omega) (ifT (by omega) (ifT (by omega) (hs (by omega) _ _ ⟨B8 (by omega),fun a=>?_⟩)));rw[Eh,AS2,AV9,AY3];by_cases e:a=i
  ·subst e;rw[if_pos rfl,if_pos (by omega),c a,if_neg (by omega)]
  ·rw[if_neg e,c a];by_cases e2:a<i
   ·rw[if_pos e2,if_pos (by omega)]
   ·rw[if_neg e2,if_neg (by omega)]
 ·refine ifF (by simp;omega) ⟨x1,rfl,fun a ha=>?_,fun a ha=>?_⟩
  ·obtain⟨u,e1,g1⟩:=hR.1 a ha;obtain⟨v,e2,g2⟩:=hS.1 a ha;refine⟨u ||| v,by rw[c a,if_pos (by omega),e1,e2,AD8],fun b hb=>?_⟩;rw[AT5,AU0,g1 b hb,g2 b hb];constructor
   ·rintro (⟨h1,c⟩ | ⟨h1,c⟩)
    ·exact⟨h1,.inl c⟩
    ·exact⟨h1,.inr c⟩
   ·rintro⟨h1,c|c⟩
    ·exact .inl ⟨h1,c⟩
    ·exact .inr ⟨h1,c⟩
  ·rw[c a];split
   ·rw[hR.2 a ha,hS.2 a ha];rfl
   ·exact hR.2 a ha
theorem GR {N n:Nat}(hn:n<=32)(f:1000<=N):∃s,Q0 N (n:Int)=some s/\TabA n (fun a b=>a=b) s:=by
 unfold Q0;rw[B8 (by omega)];refine P3 (fun i x1 x2=>x2=(i:Int)/\∀a,x1 a=if a<i then U (1#64 <<< a)else 0) (n+1) _ (by omega) ⟨rfl,fun a=>rfl⟩ ?_;rintro d i x1 x2 g ⟨rfl,c⟩ hs;by_cases hl:i<=n
 ·refine ifT (by simp;omega) (ifT (by omega) (hs (by omega) _ _ ⟨B8 (by omega),fun a=>?_⟩));rw[Eh,AS2,AV9,AY3];by_cases e:a=i
  ·subst e;rw[if_pos rfl,if_pos (by omega),Ng _ (by omega)]
  ·rw[if_neg e,c a];by_cases e2:a<i
   ·rw[if_pos e2,if_pos (by omega)]
   ·rw[if_neg e2,if_neg (by omega)]
 ·refine ifF (by simp;omega) ⟨x1,rfl,fun a ha=>⟨1#64 <<< a,by rw[c a,if_pos (by omega)],fun b hb=>?_⟩,fun a ha=>by rw[c a,if_neg (by omega)]⟩;rw[Fx (by omega) hb,decide_eq_true_eq];omega
theorem LK {N n:Nat}{R S:Nat->Nat->Prop}{x y:Nat->Int}(hn:n<=32)(hN:1000<=N)(hR:TabA n R x)(hS:TabA n S y) :∃s,D4 N x y=some s/\TabA n (fun a b=>∃c,c<=n/\R a c/\S c b) s:=by
 unfold D4;refine P3 (fun i x3 x4=>x4=(i:Int)/\(∀a,a<i->a<=n->∃z:BitVec 64,x3 a=U z/\∀b,b<64->(z.getLsbD b=true↔b<=n/\∃c,c<=n/\R a c/\S c b))/\∀a,i<=a \/ n<a->x3 a=0) 33 _ (by omega)
  ⟨rfl,fun a ha=>absurd ha (by omega),fun a _=>rfl⟩ ?_
 rintro a1 i x3 x4 hi ⟨rfl,q,m⟩ hs;by_cases hl:i<33
 ·refine ifT (by simp;omega) (ifT (by omega) ?_);rw[AS2,AV9,AY3];refine B1 (x:=x i) rfl ?_;by_cases r:i<=n
  ·obtain⟨u,e1,g1⟩:=hR.1 i r;refine B1 (x:=FG u 0) (by rw[e1];exact Ir u (by omega)) ?_;refine Aq5 (fun L z=>(∀a,a≠i->z a=x3 a)/\(∀t∈L,∃c:Nat,t=(c:Int)/\c<=n/\R i c)/\∃v:BitVec 64,z i=U v/\∀b,b<64->((v.getLsbD b=true \/ ∃c:Nat,(c:Int)∈L/\b<=n/\S c b)↔(b<=n/\∃c,c<=n/\R i c/\S c b))) ?_ ?_ _ _ ?_
   ·rintro z ⟨k1,k2,v,k3,k4⟩;refine hs (by omega) _ _ ⟨B8 (by omega),fun a ha f=>?_,fun a ha=>?_⟩
    ·by_cases e:a=i
     ·subst e;exact⟨v,k3,fun b hb=>by rw[<- k4 b hb];simp⟩
     ·obtain⟨z',p1,p2⟩:=q a (by omega) f;exact⟨z',by rw[k1 a e];exact p1,p2⟩
    ·rw[k1 a (by omega)];exact m a (by omega)
   ·rintro t L z w ⟨k1,k2,v,k3,k4⟩ a0;obtain⟨c,rfl,hc,a2⟩:=k2 t (by simp);refine ifT (by omega) (a0 _ ⟨fun a ha=>?_,fun t ht=>k2 t (by simp[ht]),?_⟩)
    ·rw[Eh,if_neg (by omega)];exact k1 a ha
    ·obtain⟨yc,e2,g2⟩:=hS.1 c hc;refine⟨v ||| yc,?_,fun b hb=>?_⟩
     ·rw[Eh,if_pos (by omega)];simp only[AS2,AV9,AY3];rw[k3,e2,AD8]
     ·rw[<- k4 b hb,AT5,AU0,g2 b hb];constructor
      ·rintro ((h|⟨h,h'⟩)|⟨c',h,h'⟩)
       ·exact .inl h
       ·exact .inr ⟨c,by simp,h,h'⟩
       ·exact .inr ⟨c',by simp[h],h'⟩
      ·rintro (h|⟨c',h,h',d⟩)
       ·exact .inl (.inl h)
       ·rcases AW1.1 h with h|h
        ·have:c' = c:=by omega
         subst this;exact .inl (.inr ⟨h',d⟩)
        ·exact .inr ⟨c',h,h',d⟩
   ·refine⟨fun _ _=>rfl,fun t ht=>?_,0#64,m i (.inl (AS8 _)),fun b hb=>?_⟩
    ·obtain⟨j,rfl,_,o,hb⟩:=mem_bitsF.1 ht;exact⟨j,rfl,((g1 j o).1 hb).1,((g1 j o).1 hb).2⟩
    ·simp only[Bg8,AT0,false_or];constructor
     ·rintro⟨c,hc,h,h'⟩;obtain⟨j,o,_,g,l⟩:=mem_bitsF.1 hc;obtain rfl:c=j:=by omega
      exact⟨h,c,((g1 c g).1 l).1,((g1 c g).1 l).2,h'⟩
     ·rintro⟨h,c,hc,h',d⟩;exact⟨c,mem_bitsF.2 ⟨c,rfl,by omega,by omega,(g1 c (by omega)).2 ⟨hc,h'⟩⟩,h,d⟩
  ·refine B1 (x:=[]) (by rw[hR.2 i (by omega)];exact (Ir 0#64 (by omega)).trans (by rw[Km fun j o=>by simp])) ?_;exact hs (by omega) _ _ ⟨B8 (by omega),fun a ha f=>q a (by omega) f,fun a ha=>m a (by omega)⟩
 ·exact ifF (by simp;omega) ⟨x3,rfl,fun a ha=>q a (by omega) ha,fun a ha=>m a (.inr ha)⟩
theorem Aq6 (N:Nat)(x:Nat->Int):I2 N x=D4 N x x:=rfl
end Go.AM
namespace Go.AM
open Go.Proofs
theorem AP7:∀m:Fin 33,(C9 .and .i64 ((m.val:Nat):Int) 1==1)=decide (m.val % 2=1)/\shI .shr .i64 ((m.val:Nat):Int) 1=((m.val / 2:Nat):Int):=by decide +kernel
theorem Ty {N n:Nat}{R:Nat->Nat->Prop}{x:Nat->Int}(hn:n<=32)(o:1000<=N)(u:Fwd n R)(hR:TabA n R x){k:Nat}(hk:k<=32) :∃s,F2 N x (k:Int) (n:Int)=some s/\TabA n (HO n R k) s:=by
 unfold F2;obtain⟨y1,e1,h1⟩:=GR (N:=N) hn o;refine B1 e1 ?_;refine Rk (fun i x1 x2 x3=>x1=((k / 2 ^ i:Nat):Int)/\TabA n (HO n R (2 ^ i)) x2/\TabA n (HO n R (k % 2 ^ i)) x3) 6 _ (by omega) ⟨by simp,?_,?_⟩ ?_
 ·exact hR.congr fun a b ha hb=>⟨fun h=>⟨a,ha,rfl,h⟩,fun⟨c,hc,(h:a=c),h'⟩=>h ▸ h'⟩
 ·rw[Nat.pow_zero,Nat.mod_one];exact h1
 ·rintro v i x1 x2 x3 w ⟨rfl,q,l⟩ hs;have hm:k / 2 ^ i<=32:=AX1 (Nat.div_le_self _ _) hk;obtain⟨b1,b2⟩:=AP7 ⟨k / 2 ^ i,by omega⟩;simp only at b1 b2;have f:k / 2 ^ i / 2=k / 2 ^ (i+1):=by rw[Nat.div_div_eq_div_mul,Nat.pow_succ]
  have g:k % 2 ^ (i+1)=k % 2 ^ i+2 ^ i*(k / 2 ^ i % 2):=Nat.mod_pow_succ;have d:∃s,I2 N x2=some s/\TabA n (HO n R (2 ^ (i+1))) s:=by obtain⟨s,e,h⟩:=LK hn o q q;refine⟨s,(Aq6 N x2).trans e,h.congr fun a b ha hb=>?_⟩;rw[show 2 ^ (i+1)=2 ^ i+2 ^ i by rw[Nat.pow_succ];omega];exact (Ed u (2 ^ i) ha (2 ^ i) b).symm
  obtain⟨sq,esq,d⟩:=d;by_cases m:k / 2 ^ i=0
  ·refine ifF (by simp[m]) ⟨x3,rfl,?_⟩
   have:k % 2 ^ i=k:=Ba3 (by
    have:=Bk5.1 m
    rcases this with h|h
    ·exact absurd h (Nat.ne_of_gt (Nat.two_pow_pos i))
    ·exact h)
   rw[this]at l;exact l
  ·have j:i<6:=by
    by_cases h:i<6
    ·exact h
    ·exact absurd (Ba2 (Bl1 hk (AU5 (by decide:32<2 ^ 6) (Ba4 (by omega) (by omega))))) m
   refine ifT (decide_eq_true (Int.natCast_pos.2 (Nat.pos_of_ne_zero m))) ?_;by_cases r:k / 2 ^ i % 2=1
   ·refine ifT (by rw[b1];simp[r]) ?_;obtain⟨t,et,ht⟩:=LK hn o l q;refine B1 et (B1 esq (hs j _ _ _ ⟨by rw[b2,f],d,ht.congr fun a b ha hb=>?_⟩));rw[g,r,AY3];exact (Ed u (k % 2 ^ i) ha (2 ^ i) b).symm
   ·refine ifF (by rw[b1];simp[r]) (B1 esq (hs j _ _ _ ⟨by rw[b2,f],d,?_⟩));rw[g,show k / 2 ^ i % 2=0 by omega,Nat.mul_zero,Bc2];exact l
theorem AF2 {s c:Sound}(hs:okS s)(hc:okS c):((C9 .or .u32 (C9 .andNot .u32 c.Plus s.Plus) (C9 .andNot .u32 c.Minus s.Minus))==0)=Vs s c:=by
 obtain⟨p,m,rfl⟩:=hs;obtain⟨a,b,rfl⟩:=hc;have e:∀x y:BitVec 32,((C9 .and .u32 (x.toNat:Int) (y.toNat:Int))==(y.toNat:Int))=decide (y &&& ~~~ x=0#32):=by
  intro x y;rw[Fk,AV7];simp only[beq_iff_eq,decide_eq_true_eq];constructor
  ·intro h;have h:x &&& y=y:=AU4 (by omega);refine (z32 _).2 fun i d=>?_
   have:=congrArg (·.getLsbD i) h
   simp only[AT6,AX5,d,decide_true,Be5]at this⊢;cases hx:x.getLsbD i<;>cases hy:y.getLsbD i<;>simp_all
  ·intro h
   have:x &&& y=y:=Jx fun i d=>by
    have:=(z32 _).1 h i d
    simp only[AT6,AX5,d,decide_true,Be5]at this⊢;cases hx:x.getLsbD i<;>cases hy:y.getLsbD i<;>simp_all
   rw[this]
 unfold Vs;simp only[e,EJ,KH,eq0];rw[AV7];simp only[AS7,decide_eq_true_eq];constructor
 ·intro h;have h:=(z32 _).1 h;exact⟨(z32 _).2 fun i d=>by have:=h i d;rw[AT5,Bc0]at this;exact this.1,(z32 _).2 fun i d=>by have:=h i d;rw[AT5,Bc0]at this;exact this.2⟩
 ·rintro⟨h1,f⟩;rw[h1,f];rfl
theorem Ae1 {N:Nat}(q:1000<=N){w:Sl Sound}(hw:w.n<=32)(l:∀i,i<w.n->okS (w.g i)){c:Sound}(hc:okS c)(no:Bool) :∃f,Y1 N ⟨c,no⟩ w=some f/\TabA w.n (fun a b=>a<w.n/\b=a+1/\(Vs (w.g a) c != no)=true) f:=by
 unfold Y1;refine P3 (fun i x1 x2=>x2=(i:Int)/\∀a,x1 a=if a<i/\(Vs (w.g a) c != no) then U (1#64 <<< (a+1))else 0) w.n _ (by omega) ⟨rfl,fun a=>by rw[if_neg (by omega)]⟩ ?_;rintro m i x1 x2 r ⟨rfl,d⟩ hs;by_cases hl:i<w.n
 ·refine ifT (by simp;omega) (ifT (by omega) ?_);rw[AS2,AF2 (l i hl) hc];by_cases hb:(Vs (w.g i) c != no)=true
  ·refine ifT (by revert hb;cases Vs (w.g i) c<;>cases no<;>simp) ?_;rw[B8 (by omega)];refine ifT (by omega) (hs hl _ _ ⟨rfl,fun a=>?_⟩);rw[Eh,AV9,AY3,Ng _ (by omega)];by_cases e:a=i
   ·subst e;rw[if_pos rfl,if_pos ⟨by omega,hb⟩]
   ·rw[if_neg e,d a];by_cases e2:a<i
    ·simp only[e2,show a<i+1 by omega,true_and]
    ·rw[if_neg (by omega),if_neg (by omega)]
  ·refine ifF (by revert hb;cases Vs (w.g i) c<;>cases no<;>simp) (hs hl _ _ ⟨B8 (by omega),fun a=>?_⟩);rw[d a];by_cases e:a=i
   ·subst e;rw[if_neg (by omega),if_neg (fun h=>hb h.2)]
   ·by_cases e2:a<i
    ·simp only[e2,show a<i+1 by omega,true_and]
    ·rw[if_neg (by omega),if_neg (by omega)]
 ·refine ifF (by simp;omega) ⟨x1,rfl,fun a ha=>?_,fun a ha=>by rw[d a,if_neg (by omega)]⟩;by_cases hb:a<w.n/\(Vs (w.g a) c != no)=true
  ·refine⟨1#64 <<< (a+1),by rw[d a,if_pos ⟨by omega,hb.2⟩],fun b j=>?_⟩;rw[Fx (by omega) j,decide_eq_true_eq];exact⟨fun h=>⟨by omega,hb.1,h,hb.2⟩,fun h=>h.2.2.1⟩
  ·refine⟨0#64,by rw[d a,if_neg (fun h=>hb ⟨by omega,h.2⟩)];rfl,fun b j=>?_⟩;simp only[Bg8,AT0,false_iff];rintro⟨_,h1,d,o⟩;exact hb ⟨h1,o⟩
theorem Ae2 {n a0 b0:Nat}(ha:a0<=n)(hb:b0<=n)(hn:n<=32):TabA n (fun a b=>a=a0/\b=b0) (KK (fun _=>0) a0 (U (1#64 <<< b0))):=by
 refine⟨fun a d=>?_,fun a d=>by rw[Eh,if_neg (by omega)]⟩;by_cases e:a=a0
 ·refine⟨1#64 <<< b0,by rw[Eh,if_pos e],fun b c=>?_⟩;rw[Fx (by omega) c,decide_eq_true_eq];omega
 ·refine⟨0#64,by rw[Eh,if_neg e];rfl,fun b c=>?_⟩;simp only[Bg8,AT0,false_iff];exact fun h=>e h.2.1
theorem Xi {N:Nat}{w:Sl Sound}(hw:w.n<=32)(e:Bool):∃f,AP N ⟨e⟩ w=some f/\TabA w.n (fun a b=>a=(if e then w.n else 0)/\b=(if e then w.n else 0)) f:=by
 unfold AP;cases e
 ·refine ifF (by simp) (ifT (by decide) ⟨_,rfl,?_⟩);exact Ae2 (n:=w.n) (a0:=0) (b0:=0) (by omega) (by omega) hw
 ·refine ifT rfl (ifT (by omega) ⟨_,rfl,?_⟩);rw[AS2,AV9,AY3,Ng _ (by omega)];exact Ae2 (AS8 _) (AS8 _) hw
theorem AF3 {N:Nat}(a:1000<=N){w:Sl Sound}(hw:w.n<=32){rec:Part->Sl Sound->Option (Nat->Int)}{m:Nat}(hm:m<=40){g:Nat->Part}{Q:Nat->Nat->Nat->Prop}
 (hc:∀i,i<m->∃f,rec (g i) w=some f/\TabA w.n (Q i) f):∃f,BI rec N ⟨⟨m,g⟩⟩ w=some f/\TabA w.n (YA w.n Q m) f:=by
 unfold BI;obtain⟨y1,e1,h1⟩:=GR (N:=N) hw a;refine B1 e1 ?_;refine P3 (fun i x1 x2=>x2=(i:Int)/\i<=m/\TabA w.n (YA w.n Q i) x1) m _ (by omega) ⟨rfl,by omega,h1⟩ ?_;rintro b i x1 x2 o ⟨rfl,d,c⟩ hs;by_cases hl:i<m
 ·refine ifT (by simp;omega) (ifT (by show (0:Int)<=i/\(i:Int)<m;omega) ?_);obtain⟨f,e2,j⟩:=hc i hl;refine B1 (by rw[AS2];exact e2) ?_;obtain⟨s,e3,l⟩:=LK hw a c j;exact B1 e3 (hs hl _ _ ⟨B8 (by omega),hl,l⟩)
 ·obtain rfl:i=m:=by omega
  exact ifF (by simp) ⟨x1,rfl,c⟩
theorem AF4 {N:Nat}(l:1000<=N){w:Sl Sound}(hw:w.n<=32){rec:Part->Sl Sound->Option (Nat->Int)}{m:Nat}(hm:m<=40){g:Nat->Part}{Q:Nat->Nat->Nat->Prop}
 (hc:∀i,i<m->∃f,rec (g i) w=some f/\TabA w.n (Q i) f):∃f,BJ rec N ⟨⟨m,g⟩⟩ w=some f/\TabA w.n (fun a b=>∃i,i<m/\Q i a b) f:=by
 unfold BJ;refine P3 (fun i x1 x2=>x2=(i:Int)/\i<=m/\TabA w.n (fun a b=>∃j,j<i/\Q j a b) x1) m _ (by omega) ⟨rfl,by omega,(zeroA _).congr fun a b _ _=>⟨False.elim,fun⟨j,h,_⟩=>absurd h (by omega)⟩⟩ ?_;rintro c i x1 x2 t ⟨rfl,o,d⟩ hs;by_cases hl:i<m
 ·refine ifT (by simp;omega) (ifT (by show (0:Int)<=i/\(i:Int)<m;omega) ?_);obtain⟨f,e2,q⟩:=hc i hl;refine B1 (by rw[AS2];exact e2) ?_;obtain⟨s,e3,r⟩:=Aw8 hw l d q;refine B1 e3 (hs hl _ _ ⟨B8 (by omega),hl,r.congr fun a b _ _=>⟨?_,?_⟩⟩)
  ·rintro (⟨j,h,h'⟩ | h)
   ·exact⟨j,by omega,h'⟩
   ·exact⟨i,by omega,h⟩
  ·rintro⟨j,h,h'⟩;by_cases e:j=i
   ·subst e;exact .inr h'
   ·exact .inl ⟨j,by omega,h'⟩
 ·obtain rfl:i=m:=by omega
  exact ifF (by simp) ⟨x1,rfl,d⟩
end Go.AM
namespace Go.AM
open Go.Proofs
theorem AF5 {N:Nat}(l:1000<=N){w:Sl Sound}(hw:w.n<=32){rec:Part->Sl Sound->Option (Nat->Int)}{pt:Part}{Q:Nat->Nat->Prop}(d:Fwd w.n Q){f:Nat->Int}(u:rec pt w=some f)(r:TabA w.n Q f)
 {mn mx:Int}(y:0<=mn) (h1:mn<=32) (z:mx = -1 \/ (mn<=mx/\mx<=32)) :
 ∃s,BK rec N ⟨pt,mn,mx⟩ w=some s/\TabA w.n (fun a b=>∃k:Nat,mn<=k/\(mx = -1 \/ (k:Int)<=mx)/\HO w.n Q k a b) s:=by
 obtain⟨m,rfl⟩:∃m:Nat,mn=(m:Int):=⟨mn.toNat,by omega⟩;unfold BK;refine B1 u ?_;obtain⟨y2,e2,t2⟩:=Ty hw l d r (k:=m) (by omega);refine B1 e2 ?_;obtain⟨y3,e3,t3⟩:=GR (N:=N) hw l;refine B1 e3 ?_;obtain⟨y4,e4,t4⟩:=Aw8 hw l r t3;refine B1 e4 ?_;have o : Fwd w.n (fun a b=>Q a b \/ a=b):=fun a b ha h=>by
  rcases h with h|h
  ·exact d a b ha h
  ·omega
 have key:∀(K:Nat),K<=32->∃s,((F2 N y4 (K:Int) (w.n:Int)).bind fun y5=>(D4 N y2 y5).bind fun y6=>some y6)=some s/\TabA w.n (fun a b=>∃j,j<=K/\HO w.n Q (m+j) a b) s:=by
  intro K v;obtain⟨y5,e5,t5⟩:=Ty hw l o t4 (k:=K) v;refine B1 e5 ?_;obtain⟨y6,e6,t6⟩:=LK hw l t2 t5;refine B1 e6 ⟨y6,rfl,t6.congr fun a b ha hb=>?_⟩;constructor
  ·rintro⟨c,hc,g1,g2⟩;obtain⟨j,i,g3⟩:=(Nh d hc K b).1 g2;exact⟨j,i,(Ed d m ha j b).2 ⟨c,hc,g1,g3⟩⟩
  ·rintro⟨j,i,g⟩;obtain⟨c,hc,g1,g3⟩:=(Ed d m ha j b).1 g;exact⟨c,hc,g1,(Nh d hc K b).2 ⟨j,i,g3⟩⟩
 by_cases hx:mx<0
 ·refine ifT (decide_eq_true hx) ?_;obtain⟨s,e,t⟩:=key w.n hw;refine⟨s,e,t.congr fun a b ha hb=>?_⟩;constructor
  ·rintro⟨j,i,g⟩;exact⟨m+j,by omega,.inl (by omega),g⟩
  ·rintro⟨k,hk,_,g⟩;obtain⟨c,hc,g1,g3⟩:=(Ed d m ha (k-m) b).1 (by rw[show m+(k-m)=k by omega];exact g);obtain⟨j,i,g4⟩:=Tf d hc (k-m) g3;exact⟨j,i,(Ed d m ha j b).2 ⟨c,hc,g1,g4⟩⟩
 ·refine ifF (by simpa using hx) ?_;obtain⟨M,rfl⟩:∃M:Nat,mx=(M:Int):=⟨mx.toNat,by omega⟩;have q:IntKind.i64.wrap ((M:Int)-(m:Int))=((M-m:Nat):Int):=by rw[E1 (by omega) (by omega)];omega
  rw[show IntKind.i64.wrap ((⟨pt,(m:Int),(M:Int)⟩:AO7).max-(⟨pt,(m:Int),(M:Int)⟩:AO7).min)=((M-m:Nat):Int) from q];obtain⟨s,e,t⟩:=key (M-m) (by omega);refine⟨s,e,t.congr fun a b ha hb=>?_⟩;constructor
  ·rintro⟨j,i,g⟩;exact⟨m+j,by omega,.inr (by omega),g⟩
  ·rintro⟨k,hk,x,g⟩;exact⟨k-m,by omega,by rw[show m+(k-m)=k by omega];exact g⟩
def okQ:Nat->Pat->Prop
 |0,_=>False
 |d+1,p=>Ht p/\p.L.n<=40/\∀i,i<p.L.n->okQ d (p.L.g i)
theorem Xj:∀(d:Nat) (p:Pat),okQ d p->okQ (d+1) p
 |0,_,h=>h.elim
 |d+1,p,⟨h1,h2,h3⟩=>⟨h1,h2,fun i a=>Xj d _ (h3 i a)⟩
theorem Ae3:∀(k:Nat) (l:List Pat),k<=40->chk k l->∀p∈l,okQ k p
 |0,l,_,h,p,hp=>by rw[show l=[] from h]at hp;cases hp
 |k+1,[],_,_,p,hp=>by cases hp
 |k+1,q::l,hk,⟨hn,h⟩,p,hp=>by
  have ih:=Ae3 k _ (by omega) h;rcases AW1.1 hp with rfl|hp
  ·have hl:=NC k _ h;rw[AT8,Bp]at hl;exact⟨hn,by omega,fun i a=>ih _ (AU9 _ (PK a))⟩
  ·exact Xj k p (ih p (AT7 _ hp))
theorem vS.ok {s:Sound}(h:vS s):okS s:=by obtain⟨p,m,e,_⟩:=h;exact⟨p,m,e⟩
def AF6 (K:Nat)(p:Pat)(pt:Part):Prop:=∀(w:Sl Sound),w.n<=32->(∀i,i<w.n->okS (w.g i))->∀M,K<=M->∃f,AR M pt w=some f/\TabA w.n (PR w p) f
theorem NF {N:Nat}(x:1000<=N):∀(d:Nat),d<=40->∀(p:Pat),okQ d p->∀M,N+d<=M->∃pt,AQ M p=some pt/\AF6 (N+d) p pt
 |0,_,p,h,_,_=>h.elim
 |d+1,hd,p,⟨hn,hc,hch⟩,0,hM=>by omega
 |d+1,hd,p,⟨hn,hc,hch⟩,M+1,hM=>by
  show ∃pt,U7 (AQ M) M p=some pt/\_;unfold U7;refine P3 (fun i x1 x2=>x2=(i:Int)/\i<=p.L.n/\x1.n=i/\∀j,j<i->AF6 (N+d) (p.L.g j) (x1.g j)) p.L.n _ (by omega) ⟨rfl,by omega,rfl,fun j t=>absurd t (by omega)⟩ ?_;rintro u i x1 x2 v ⟨rfl,h1,q,o⟩ hs;by_cases hl:i<p.L.n
  ·refine ifT (by simp;omega) (ifT (by omega) ?_);obtain⟨pt,e,y⟩:=NF x d (by omega) (p.L.g i) (hch i hl) M (by omega);refine B1 (by rw[AS2];exact e) ?_;refine ifT (by show (x1.n+1)*16<=_/\x1.n+1<=_;omega) (hs hl _ _ ⟨B8 (by omega),hl,by show x1.n+1=i+1;omega,fun j t=>?_⟩);by_cases e2:j=i
   ·subst e2
    have:(x1.push pt).g j=pt:=by simp[Sl.push,q]
    rw[this];exact y
   ·have:(x1.push pt).g j=x1.g j:=by simp[Sl.push];omega
    rw[this];exact o j (by omega)
  ·obtain rfl:i=p.L.n:=by omega
   have fin:∀(pt:Part),(∀(w:Sl Sound),w.n<=32->(∀i,i<w.n->okS (w.g i))->∀M,N+d<=M->∃f,AR (M+1) pt w=some f/\TabA w.n (PR w p) f)->∃r,some pt=some r/\AF6 (N+(d+1)) p r:=by intro pt h;refine⟨pt,rfl,fun w hw c M' l=>?_⟩;obtain⟨M'',rfl⟩:∃M'',M' = M'' + 1:=⟨M' - 1,by omega⟩;exact h w hw c M'' (by omega)
   refine ifF (by simp) ?_;obtain⟨⟨k0,k6⟩,n1,n2,n3,n4,n5⟩:=hn;by_cases k1:p.Kind=1
   ·refine ifT (by simp[k1]) (fin _ fun w hw c M' l=>?_);obtain⟨f,e,h⟩:=Ae1 (N:=M') (by omega) hw c n5.ok p.Not;refine⟨f,e,h.congr fun a b _ _=>?_⟩;rw[Lx];simp[k1]
   refine ifF (by simp[k1]) ?_;by_cases k2:p.Kind=2
   ·refine ifT (by simp[k2]) (fin _ fun w hw c M' l=>?_);obtain⟨f,e,h⟩:=Xi (N:=M') hw false;refine⟨f,e,h.congr fun a b _ _=>?_⟩;rw[Lx];simp[k2]
   refine ifF (by simp[k2]) ?_;by_cases k6:p.Kind=6
   ·refine ifT (by simp[k6]) (fin _ fun w hw c M' l=>?_);obtain⟨f,e,h⟩:=Xi (N:=M') hw true;refine⟨f,e,h.congr fun a b _ _=>?_⟩;rw[Lx];simp[k6]
   refine ifF (by simp[k6]) ?_;by_cases k4:p.Kind=4
   ·refine ifT (by simp[k4]) (fin _ fun w hw c M' l=>?_);obtain⟨f,e,h⟩:=AF4 (N:=M') (by omega) hw (rec:=AR M') (m:=x1.n) (g:=x1.g) (Q:=fun i=>PR w (p.L.g i)) (by omega) fun i v=>o i (by omega) w hw c M' (by omega);refine⟨f,e,h.congr fun a b _ _=>?_⟩;rw[Lx,q];simp[k4]
   refine ifF (by simp[k4]) ?_;by_cases k5:p.Kind=5
   ·obtain⟨g1,g2,g3,g4⟩:=n4 k5;refine ifT (by simp[k5]) (ifT (by omega) (fin _ fun w hw c M' l=>?_));obtain⟨f,e,h⟩:=o 0 (by omega) w hw c M' (by omega);obtain⟨s,e2,z⟩:=AF5 (N:=M') (by omega) hw (rec:=AR M') (Tg w (p.L.g 0)) e h g2 g3 g4;refine⟨s,e2,z.congr fun a b _ _=>?_⟩;rw[Lx];simp[k5]
   ·refine ifF (by simp[k5]) (fin _ fun w hw c M' l=>?_);obtain⟨f,e,h⟩:=AF3 (N:=M') (by omega) hw (rec:=AR M') (m:=x1.n) (g:=x1.g) (Q:=fun i=>PR w (p.L.g i)) (by omega) fun i v=>o i (by omega) w hw c M' (by omega);refine⟨f,e,h.congr fun a b _ _=>?_⟩;rw[Lx,q];by_cases k3:p.Kind=3
    ·simp[k3]
    ·have k0' : p.Kind=0:=by omega
     rw[n2 k3 k4 k5];simp[k0',YA]
end Go.AM
namespace Go.AM
open IntKind (wrap)
open Go.Proofs
theorem YM {N:Nat}{p:Pat}(hp:okS p.Is):∃e,AN N p=some e/\(e=0↔Ht p):=by
 obtain⟨a,b,i⟩:=hp;have m:=VO i;have V:O9 N p.Is=some (vB a b):=by rw[i];exact Tw a b
 have e0:((p.Is.Plus==0)&&(p.Is.Minus==0))=decide (p.Is.Plus=0/\p.Is.Minus=0):=by rw[AV7];simp
 have fin:(Ht p↔vS p.Is)->∃e,((O9 N p.Is).bind fun y1=>if (!y1) then some (14:Int)else some 0)=some e/\(e=0↔Ht p):=by
  intro c;rw[V];refine B1 rfl ?_;rw[c,m];cases vB a b
  ·exact ifT rfl ⟨14,rfl,by simp⟩
  ·exact ifF (by simp) ⟨0,rfl,by simp⟩
 have bad:∀{x:Int},x≠0->¬Ht p->∃e,some x=some e/\(e=0↔Ht p):=fun hx h=>⟨_,rfl,fun d=>absurd d hx,fun d=>absurd d h⟩;unfold AN;by_cases hk:p.Kind=0 \/ p.Kind=2 \/ p.Kind=6
 ·refine ifT (by rcases hk with h|h|h<;>simp[h]) (ltX ?_);rw[e0];by_cases g1:p.Is.Plus=0/\p.Is.Minus=0
  case neg=>exact ifT (by simp[g1]) (ifT rfl (bad (by decide) fun h=>g1 (h.2.1 (by omega)).1))
  refine ifF (by simp[g1]) ?_;by_cases g2:p.Not=true
  ·exact ifT g2 (ifT rfl (bad (by decide) fun h=>by have:=(h.2.1 (by omega)).2;rw[g2]at this;cases this))
  refine ifF g2 ?_;by_cases g3:p.Min=0
  case neg=>exact ifT (by simp[g3]) (ifT rfl (bad (by decide) fun h=>g3 (h.2.2.2.1 (by omega)).1))
  refine ifF (by simp[g3]) ?_;by_cases g4:p.Max=0
  case neg=>exact ifT (by simp[g4]) (ifT rfl (bad (by decide) fun h=>g4 (h.2.2.2.1 (by omega)).2))
  refine ifF (by simp[g4]) ?_;by_cases g5:p.L.n=0
  case neg=>exact ifT (by simp;omega) (bad (by decide) fun h=>g5 (h.2.2.1 (by omega) (by omega) (by omega)))
  refine ifF (by simp;omega) (fin ?_);exact⟨fun h=>h.2.2.2.2.2,fun h=>⟨by omega,fun _=>⟨g1,by simpa using g2⟩,fun _ _ _=>g5,fun _=>⟨g3,g4⟩,fun f=>by omega,h⟩⟩
 refine ifF (by simp only[not_or]at hk;simp[hk]) ?_;by_cases k1:p.Kind=1
 ·refine ifT (by simp[k1]) (ltX ?_);refine ifF (by simp) ?_;by_cases g3:p.Min=0
  case neg=>exact ifT (by simp[g3]) (ifT rfl (bad (by decide) fun h=>g3 (h.2.2.2.1 (by omega)).1))
  refine ifF (by simp[g3]) ?_;by_cases g4:p.Max=0
  case neg=>exact ifT (by simp[g4]) (ifT rfl (bad (by decide) fun h=>g4 (h.2.2.2.1 (by omega)).2))
  refine ifF (by simp[g4]) ?_;by_cases g5:p.L.n=0
  case neg=>exact ifT (by simp;omega) (bad (by decide) fun h=>g5 (h.2.2.1 (by omega) (by omega) (by omega)))
  refine ifF (by simp;omega) (fin ?_);exact⟨fun h=>h.2.2.2.2.2,fun h=>⟨by omega,fun h1=>absurd k1 h1,fun _ _ _=>g5,fun _=>⟨g3,g4⟩,fun f=>by omega,h⟩⟩
 refine ifF (by simp[k1]) (ltX ?_);rw[e0];have tail:∀(x y:Int),(Ht p↔(p.Is.Plus=0/\p.Is.Minus=0)/\p.Not=false/\x=0/\y=0/\vS p.Is)->∃e,(if (((((decide (p.Is.Plus=0/\p.Is.Minus=0) != true)||p.Not)||(x != 0))||(y != 0))||(decide (0<0))) then some (2:Int)else
  (O9 N p.Is).bind fun y3=>if (!y3) then some 14 else some 0)=some e/\(e=0↔Ht p):=by
  intro x y c;by_cases g:(p.Is.Plus=0/\p.Is.Minus=0)/\p.Not=false/\x=0/\y=0
  ·obtain⟨g1,g2,g3,g4⟩:=g;exact ifF (by simp[g1,g2,g3,g4]) (fin (c.trans ⟨fun h=>h.2.2.2.2,fun h=>⟨g1,g2,g3,g4,h⟩⟩))
  ·refine ifT ?_ (bad (by decide) fun h=>g ⟨(c.1 h).1,(c.1 h).2.1,(c.1 h).2.2.1,(c.1 h).2.2.2.1⟩);simp only[AU0,bne_iff_ne,ne_eq,decide_eq_true_eq];by_cases g1:p.Is.Plus=0/\p.Is.Minus=0
   ·by_cases g2:p.Not=true
    ·simp[g2]
    ·by_cases g3:x=0
     ·have:¬y=0:=fun g4=>g ⟨g1,by simpa using g2,g3,g4⟩
      simp[this]
     ·simp[g3]
   ·simp[g1]
 by_cases k34:p.Kind=3 \/ p.Kind=4
 ·refine ifT (by rcases k34 with h|h<;>simp[h]) (tail _ _ ?_);constructor
  ·exact fun h=>⟨(h.2.1 k1).1,(h.2.1 k1).2,(h.2.2.2.1 (by omega)).1,(h.2.2.2.1 (by omega)).2,h.2.2.2.2.2⟩
  ·rintro⟨h1,d,j,l,f⟩;exact⟨by omega,fun _=>⟨h1,d⟩,fun h h'=>by omega,fun _=>⟨j,l⟩,fun h=>by omega,f⟩
 refine ifF (by simp only[not_or]at k34;simp[k34]) ?_;by_cases k5:p.Kind=5
 ·refine ifT (by simp[k5]) ?_;by_cases g:p.L.n=1/\0<=p.Min/\p.Min<=32/\(p.Max = -1 \/ (p.Min<=p.Max/\p.Max<=32))
  ·refine ifF (by simp only[AU0,AS7,bne_iff_ne,ne_eq,decide_eq_true_eq];omega) (tail 0 0 ?_);constructor
   ·exact fun h=>⟨(h.2.1 k1).1,(h.2.1 k1).2,rfl,rfl,h.2.2.2.2.2⟩
   ·rintro⟨h1,d,j,l,f⟩;exact⟨by omega,fun _=>⟨h1,d⟩,fun _ _ h=>absurd k5 h,fun h=>absurd k5 h,fun _=>g,f⟩
  ·exact ifT (by simp only[AU0,AS7,bne_iff_ne,ne_eq,decide_eq_true_eq];omega) (bad (by decide) fun h=>g (h.2.2.2.2.1 k5))
 ·exact ifF (by simp[k5]) (bad (by decide) fun h=>by have:=h.1;omega)
theorem Ae4 {x:Sl Pat}{m:Nat}(h:x.n=m+1):x.toList.reverse=x.g m::(x.take m).toList.reverse:=by unfold Sl.toList;rw[h,AX3,AY7,Bb0];rfl
theorem Aq7 (z:Sl Pat)(q:Pat):((z.push Pat.nil).upd z.n q).toList.reverse=q::z.toList.reverse:=by
 rw[Ae4 (m:=z.n) rfl];have e1:((z.push Pat.nil).upd z.n q).g z.n=q:=by simp
 have e2:(((z.push Pat.nil).upd z.n q).take z.n).toList=z.toList:=by
  unfold Sl.toList;refine AV3 fun i a=>?_
  have:i<z.n:=AX4.1 a
  show (if i=z.n then q else if i<z.n then z.g i else Pat.nil)=z.g i;rw[if_neg (by omega),if_pos this]
 rw[e1,e2]
theorem VQ {N:Nat}(q:Sl Pat)(c:q.n<N)(hs:q.n<1000000):C8 N q=some ((List.range q.n).reverse.map fun (i:Nat)=>((i:Int),q.g i)):=by
 unfold C8;have h:∀(m:Nat),m<=q.n->∀F,m<F->V9 F (fun (a:Int->Option (List (Int×Pat))) (x1:Int)=>
  if (decide (0<=x1)) then
   if ((0:Int)<=x1/\x1<(q.n:Int))then
    Ar (x1,q.g x1.toNat) (
     a (wrap .i64 (x1-1))
     )
   else none
  else
   some []) ((m:Int)-1)=some ((List.range m).reverse.map fun (i:Nat)=>((i:Int),q.g i)):=by
  intro m
  induction m with
  |zero=>
   intro _ F b
   match F,b with
   |F+1,_=>rfl
  |succ m ih=>
   intro hm F b
   match F,b with
   |F+1,b=>rw[AH];rw[show ((m+1:Nat):Int)-1=(m:Int) by omega,if_pos (by simp),if_pos (by omega),E1 (by omega) (by omega),ih (by omega) F (by omega),AS2,AX3,Bb0,Bj0,Bj5,AV5];rfl
 rw[E1 (by omega) (by omega)];exact h q.n (AS8 _) N c
theorem AF7 {k:Nat}(hk:k<=40){c:Sl Pat}{l:List Pat}:chk k ((c.take (min 41 c.n)).toList++l)↔chk k (c.toList++l):=by
 by_cases h:c.n<=41
 ·rw[Bf9 h]
 ·constructor
  ·intro a
   have:=NC _ _ a
   rw[AT8,Bp]at this
   have:(c.take (min 41 c.n)).n=41:=AZ7 (by omega)
   omega
  ·intro a
   have:=NC _ _ a
   rw[AT8,Bp]at this;omega
theorem Rl {N:Nat}(hN:2000<=N){p:Pat}(hp:okPS p):∃e,Y2 N p=some e/\(e=0↔chk 40 [p]):=by
 unfold Y2;refine P3 (fun i x3 x4=>x4=(i:Int)/\x3.n<=1+41*i/\(∀q∈x3.toList.reverse,okPS q)/\(chk 40 [p]↔chk (40-i) x3.toList.reverse)) 40 _ (by omega)
  ⟨rfl,by show 1<=_;omega,fun q l=>by rw[show (Sl.of [p]:Sl Pat).toList.reverse=[p] from rfl]at l;rw[Bb4.1 l];exact hp,Bc3⟩ ?_
 rintro x i x3 x4 hi ⟨rfl,h1,c,f⟩ hs;rcases hn:x3.n with _|m
 ·refine ifF (by simp) ⟨0,rfl,fun _=>f.2 ?_,fun _=>rfl⟩
  have:x3.toList.reverse=[]:=by unfold Sl.toList;rw[hn];rfl
  rw[this];exact Ad7 _
 ·rw[Ae4 hn]at f c;refine ifT (decide_eq_true (by omega)) ?_;by_cases r:i=40
  ·subst r;refine ifT (by simp) ⟨12,rfl,fun h=>absurd h (by decide),fun h=>?_⟩
   have:(x3.g m::(x3.take m).toList.reverse)=[]:=f.1 h
   cases this
  refine ifF (by simp;omega) ?_;have hw:IntKind.i64.wrap (((m+1:Nat):Int)-1)=(m:Int):=by rw[E1 (by omega) (by omega)];omega
  simp only[hw,AS2];refine ifT (by omega) (ifT (by omega) ?_);obtain⟨e,y,a⟩:=YM (N:=N) (c (x3.g m) (by simp)).is;refine B1 y ?_;rw[show 40-i=(39-i)+1 by omega]at f;by_cases o:e=0
  case neg=>exact ifT (by simp[o]) ⟨e,rfl,fun h=>absurd h o,fun h=>absurd (a.2 (f.1 h).1) o⟩
  refine ifF (by simp[o]) ?_;have hc:(if (41:Int)<((x3.g m).L.n:Int)then (41:Int)else ((x3.g m).L.n:Int))=((min 41 (x3.g m).L.n:Nat):Int):=by split<;>omega
  simp only[hc,AS2];refine ifT (by omega) (B1 rfl (B1 (VQ _ (by show min 41 _<N;omega) (by show min 41 _<1000000;omega)) ?_));generalize s:(x3.g m).L.take (min 41 (x3.g m).L.n)=C;have a0:C.n<=41:=by rw[<- s];exact Nat.min_le_left _ _
  refine Aq5 (fun L z=>∃j,j<=C.n/\L=((List.range j).reverse.map fun (i:Nat)=>((i:Int),C.g i))/\z.n=m+(C.n-j)/\z.toList.reverse=C.toList.drop j++(x3.take m).toList.reverse) ?_ ?_ _ _ ⟨C.n,AS8 _,rfl,by show m=_;omega,by rw[DO];rfl⟩
  ·rintro z ⟨j,hj,hL,hz,b⟩;have u:j=0:=by
    cases j with
    |zero=>rfl
    |succ j=>simp[AX3]at hL
   subst u;rw[Bh4]at b;refine hs (by omega) _ _ ⟨B8 (by omega),by omega,fun q l=>?_,?_⟩
   ·rw[b]at l;rcases List.mem_append.1 l with h|h
    ·obtain⟨i',d,rfl⟩:=Ba7.1 h;have d:=AX4.1 d;rw[<- s]at d⊢;exact (c (x3.g m) (by simp)).L (AU5 d (Nat.min_le_right _ _))
    ·exact c q (by simp[h])
   ·rw[b,f,show 40-(i+1)=39-i by omega,<- s,AF7 (by omega)];exact⟨fun h=>h.2,fun h=>⟨a.1 o,h⟩⟩
  ·rintro t L z v ⟨j,hj,hL,hz,b⟩ w;cases j with
   |zero=>simp at hL
   |succ j=>rw[AX3,Bb0,Bj0,Bj5,AV5]at hL;obtain⟨rfl,rfl⟩:=Bl2 hL;have e1:(z.n:Int).toNat=z.n:=AS2 _;refine ifT ⟨⟨⟨by show (z.n+1)*64<=_;omega,by show z.n+1<=_;omega⟩,by show (0:Int)<=_/\(z.n:Int)<((z.n+1:Nat):Int);omega⟩,by show z.n<z.n+1;omega⟩ ?_;refine w _ ⟨j,by omega,rfl,by show z.n+1=_;omega,?_⟩;rw[Aq7,b,FF C (i:=j) (by omega),AW5]
end Go.AM
namespace Go.AM
open IntKind (wrap)
open Go.Proofs
def wOk (w:Sl Sound):Prop:=w.n<=32/\∀i,i<w.n->vS (w.g i)
theorem Lb {N:Nat}{w:Sl Sound}(m:w.n<N)(hs:w.n<1000000){f:Sound->Option Bool}{b:Nat->Bool}(o:∀i,i<w.n->f (w.g i)=some (b i)) :∃r,B3 N w f=some r/\(r=true ↔ ∃i,i<w.n/\b i=true):=by
 unfold B3 D3
 have:∃y,V9 N (fun (a:Int->Option Int) (x1:Int)=>
  if (decide (x1<(w.n:Int))) then
   if ((0:Int)<=x1/\x1<(w.n:Int))then
    (f (w.g x1.toNat)).bind fun y3=>
    if y3 then
     some x1
    else
     a (wrap .i64 (x1+1))
   else none
  else
   some (-1)) 0=some y/\(0<=y ↔ ∃i,i<w.n/\b i=true):=by
  refine BP (fun i x1=>x1=(i:Int)/\∀j,j<i->b j=false) w.n _ m ⟨rfl,fun j c=>absurd c (by omega)⟩ ?_;rintro l i x1 q ⟨rfl,h⟩ d;by_cases hl:i<w.n
  ·refine ifT (by simp;omega) (ifT (by omega) (B1 (by rw[AS2];exact o i hl) ?_));cases hb:b i
   ·refine ifF (by simp) (d hl _ ⟨B8 (by omega),fun j c=>?_⟩);by_cases e:j=i
    ·subst e;exact hb
    ·exact h j (by omega)
   ·exact ifT rfl ⟨i,rfl,fun _=>⟨i,hl,hb⟩,fun _=>by omega⟩
  ·refine ifF (by simp;omega) ⟨-1,rfl,fun h=>absurd h (by decide),?_⟩;rintro⟨j,c,hb⟩;rw[h j (by omega)]at hb;cases hb
 obtain⟨y,e,hy⟩:=this;exact B1 e ⟨_,rfl,by rw[decide_eq_true_eq];exact hy⟩
theorem PM {N:Nat}(z:3000<=N){p:Pat}(hp:okPS p){w:Sl Sound}(hs:w.n<1000000/\w.n+1000<N)(hw:∀i,i<w.n->okS (w.g i)) :∃r,Aj N p w=some r/\(r.2=0↔chk 40 [p]/\wOk w)/\(r.2=0->TabA w.n (PR w p) r.1):=by
 unfold Aj;obtain⟨e,l,hc⟩:=Rl (N:=N) (by omega) hp;refine B1 l ?_;by_cases d:e=0
 case neg=>exact ifT (by simp[d]) ⟨_,rfl,⟨fun h=>absurd h d,fun h=>absurd (hc.2 h.1) d⟩,fun h=>absurd h d⟩
 refine ifF (by simp[d]) ?_;by_cases hn:32<w.n
 ·exact ifT (by simp;omega) ⟨_,rfl,⟨fun h=>absurd h (by decide),fun h=>by have:=h.2.1;omega⟩,fun h=>absurd h (by decide)⟩
 refine ifF (by simp;omega) ?_;have s:∀i,∃b:Bool,i<w.n->S9 N (w.g i)=some b/\(b=true ↔ ¬vS (w.g i)):=by
  intro i;by_cases a:i<w.n
  ·obtain⟨x,y,l⟩:=hw i a;refine⟨!vB x y,fun _=>⟨?_,?_⟩⟩
   ·unfold S9;rw[l,Tw];rfl
   ·rw[VO l];cases vB x y<;>simp
  ·exact⟨false,fun h=>absurd h a⟩
 obtain⟨b,hb⟩:=Ba6 s;obtain⟨r,t,j⟩:=Lb (N:=N) (by omega) hs.1 (f:=fun u1=>S9 N u1) fun i a=>(hb i a).1;refine B1 t ?_;by_cases c:r=true
 ·refine ifT c ⟨_,rfl,⟨fun h=>absurd h (by decide),fun h=>?_⟩,fun h=>absurd h (by decide)⟩;obtain⟨i,a,m⟩:=j.1 c;exact absurd (h.2.2 i a) ((hb i a).2.1 m)
 ·refine ifF c ?_;have o:wOk w:=⟨by omega,fun i a=>AV1 fun q=>c (j.2 ⟨i,a,(hb i a).2.2 q⟩)⟩;obtain⟨pt,ep,u⟩:=NF (N:=1000) (by omega) 40 (AS8 _) p (Ae3 40 [p] (AS8 _) (hc.1 d) p (by simp)) N (by omega);refine B1 ep ?_;obtain⟨f,ef,v⟩:=u w (by omega) hw N (by omega);exact B1 ef ⟨_,rfl,⟨fun _=>⟨hc.1 d,o⟩,fun _=>rfl⟩,fun _=>v⟩
end Go.AM
namespace Go.AM
open Go.Proofs
theorem YN {N:Nat}(o:3000<=N){p:Pat}(hp:okPS p){w:Sl Sound}(hs:w.n<1000000/\w.n+1000<N)(hw:∀i,i<w.n->okS (w.g i))(at_:Int) :∃r,BL N p w at_=some r/\(0<r.1.n↔chk 40 [p]/\wOk w/\0<=at_/\at_<=w.n/\∃a,a<=w.n/\PR w p a at_.toNat):=by
 unfold BL;obtain⟨y,e,h1,q⟩:=PM o hp hs hw;refine B1 e (ltX ?_);by_cases c:y.2=0
 case neg=>refine ifF (by simp[c]) (ifT (by simp[c]) ⟨_,rfl,fun h=>absurd h (by show ¬ 0<0;omega),fun h=>absurd (h1.2 ⟨h.1,h.2.1⟩) c⟩)
 refine ifT (by simp[c]) ?_;obtain⟨hc,d⟩:=h1.1 c;have s:=q c;have hn:=d.1;unfold Ae;by_cases f:at_<0 \/ (w.n:Int)<at_
 ·rw[if_pos (by simpa using f)];refine B1 rfl (ifT (by decide) ⟨_,rfl,fun h=>absurd h (by show ¬ 0<0;omega),fun h=>by omega⟩)
 rw[if_neg (by simpa using f)];refine B1 rfl (ifF (by simp) ?_);obtain⟨k,rfl⟩:∃k:Nat,at_=(k:Int):=⟨at_.toNat,by omega⟩;rw[B8 (by omega),AS2];refine P3 (fun i x2 x3=>x3=(i:Int)/\x2.n<=i/\(0<x2.n ↔ ∃a,a<i/\PR w p a k)) (w.n+1) _ (by omega) ⟨rfl,AS8 _,fun h=>absurd h (by show ¬ 0<0;omega),fun⟨a,h,_⟩=>absurd h (by omega)⟩ ?_;rintro m i x2 x3 t ⟨rfl,g1,g2⟩ j;by_cases hl:i<=w.n
 ·refine ifT (by simp;omega) (ifT (by omega) ?_);rw[AS2,AV9,AY3];have hb:=s.1.bit hl (b:=k) (by omega);by_cases l:PR w p i k
  ·refine ifT (hb.2 ⟨by omega,l⟩) (ifT (by show (x2.n+1)*8<=_/\x2.n+1<=_;omega) (j (by omega) _ _ ⟨B8 (by omega),by show x2.n+1<=_;omega,fun _=>⟨i,by omega,l⟩,fun _=>by show 0<x2.n+1;omega⟩))
  ·refine ifF (fun h=>l (hb.1 h).2) (j (by omega) _ _ ⟨B8 (by omega),by omega,fun h=>?_,fun⟨a,ha,h⟩=>?_⟩)
   ·obtain⟨a,ha,h'⟩:=g2.1 h;exact⟨a,by omega,h'⟩
   ·by_cases e2:a=i
    ·subst e2;exact absurd h l
    ·exact g2.2 ⟨a,by omega,h⟩
 ·refine ifF (by simp;omega) ⟨_,rfl,fun h=>?_,fun h=>?_⟩
  ·obtain⟨a,ha,h'⟩:=g2.1 h;exact⟨hc,d,by omega,by omega,a,by omega,h'⟩
  ·obtain⟨a,ha,h'⟩:=h.2.2.2.2;exact g2.2 ⟨a,by omega,h'⟩
theorem VR {N:Nat}(L:List Int)(hL:L.length<1000):∃s,K6 N L=some s/\s.n=L.length:=by
 unfold K6 H1
 have:∃s:Sl Int,O5 L (fun (a:Sl Int->Option (Sl Int)) (x1:Int) (z1:Sl Int)=>
  if ((z1.n+(Sl.of [x1]:Sl Int).n)*8<=140737488355328/\z1.n+(Sl.of [x1]:Sl Int).n<=140737488355328)then
   a (z1.push x1)
  else none
  ) (fun (z1:Sl Int)=>some z1) (Sl.nil:Sl Int)=some s/\s.n=L.length:=by
  refine Aq5 (fun l z=>z.n+l.length=L.length) (fun z h=>⟨z,rfl,by simpa using h⟩) (fun t l z b h hs=>?_) L _ (by simp);simp only[AV4]at h;exact ifT (by show (z.n+1)*8<=_/\z.n+1<=_;omega) (hs _ (by show z.n+1+l.length=_;omega))
 obtain⟨s,e,hn⟩:=this;exact B1 e ⟨s,rfl,hn⟩
theorem Aq8 {N:Nat}(l:3000<=N){p:Pat}(hp:okPS p){w:Sl Sound}(hs:w.n<1000000/\w.n+1000<N)(hw:∀i,i<w.n->okS (w.g i))(at_:Int) :∃r,DF N p w at_=some r/\(0<r.1.n↔chk 40 [p]/\wOk w/\0<=at_/\at_<=w.n/\∃b,b<=w.n/\PR w p at_.toNat b):=by
 unfold DF;obtain⟨y,e,h1,m⟩:=PM l hp hs hw;refine B1 e (ltX ?_);by_cases c:y.2=0
 case neg=>refine ifF (by simp[c]) (ifT (by simp[c]) ⟨_,rfl,fun h=>absurd h (by show ¬ 0<0;omega),fun h=>absurd (h1.2 ⟨h.1,h.2.1⟩) c⟩)
 refine ifT (by simp[c]) ?_;obtain⟨hc,d⟩:=h1.1 c;have o:=m c;have hn:=d.1;unfold Ae;by_cases f:at_<0 \/ (w.n:Int)<at_
 ·rw[if_pos (by simpa using f)];refine B1 rfl (ifT (by decide) ⟨_,rfl,fun h=>absurd h (by show ¬ 0<0;omega),fun h=>by omega⟩)
 rw[if_neg (by simpa using f)];refine B1 rfl (ifF (by simp) ?_);obtain⟨k,rfl⟩:∃k:Nat,at_=(k:Int):=⟨at_.toNat,by omega⟩;refine ifT (by omega) ?_;rw[AS2,AV9,AY3];obtain⟨u,e1,g1⟩:=o.1 k (by omega);refine B1 (x:=y.1 k) rfl (B1 (x:=FG u 0) (by rw[e1];exact Ir u (by omega)) ?_);obtain⟨s,es,j⟩:=VR (N:=N) (FG u 0) (by unfold FG;rw[AX2];exact Bl1 (Bj6 _ _) (by simp))
 refine B1 es ⟨_,rfl,?_⟩;show 0<s.n↔_;rw[j,List.length_pos_iff_exists_mem];constructor
 ·rintro⟨t,ht⟩;obtain⟨b,rfl,_,hb,a⟩:=mem_bitsF.1 ht;exact⟨hc,d,by omega,by omega,b,((g1 b hb).1 a).1,((g1 b hb).1 a).2⟩
 ·rintro⟨_,_,_,_,b,hb,h⟩;exact⟨(b:Int),mem_bitsF.2 ⟨b,rfl,by omega,by omega,(g1 b (by omega)).2 ⟨hb,h⟩⟩⟩
end Go.AM
namespace Go.AM
open IntKind (wrap)
open Go.Proofs
def Ug (w:Sl Sound)(e:Int):Prop:=(32<w.n/\e=11) \/ (w.n<=32/\(∃i,i<w.n/\¬vS (w.g i))/\e=14) \/ (wOk w/\e=0)
theorem GS {w:Sl Sound}{e e' : Int}(h:Ug w e)(h' : Ug w e'):e=e':=by
 rcases h with⟨h1,a⟩ | ⟨h1,⟨i,b,c⟩,a⟩ | ⟨h1,a⟩<;>rcases h' with⟨g1,g2⟩ | ⟨g1,⟨j,d,gv⟩,g2⟩ | ⟨g1,g2⟩
 ·omega
 ·omega
 ·have:=g1.1;omega
 ·omega
 ·omega
 ·exact absurd (g1.2 i b) c
 ·have:=h1.1;omega
 ·exact absurd (h1.2 j d) gv
 ·omega
theorem Z2 {w:Sl Sound}{e:Int}(h:Ug w e):e=0↔wOk w:=by
 rcases h with⟨h1,a⟩ | ⟨h1,⟨i,b,c⟩,a⟩ | ⟨h1,a⟩
 ·exact⟨fun h=>by omega,fun h=>by have:=h.1;omega⟩
 ·exact⟨fun h=>by omega,fun h=>absurd (h.2 i b) c⟩
 ·exact⟨fun _=>h1,fun _=>a⟩
theorem Tz {N:Nat}(o:1000<=N){w:Sl Sound}(hw:∀i,i<w.n->okS (w.g i))(V:Sound->Option Bool)(f:∀p m:BitVec 32,V (sOf p m)=some (vB p m)) :∃e,(if (decide (32<(w.n:Int))) then
 some (11:Int)
 else
  V9 N (fun a (x1:Int)=>
   if (decide (x1<(w.n:Int))) then
    if ((0:Int)<=x1/\x1<(w.n:Int))then
     (V (w.g x1.toNat)).bind fun y3=>
     if (!y3) then
      some 14
     else
      a (wrap .i64 (x1+1))
    else none
   else
    some 0
   ) 0)=some e/\Ug w e:=by
 by_cases hn:32<w.n
 ·exact ifT (by simp;omega) ⟨11,rfl,.inl ⟨hn,rfl⟩⟩
 refine ifF (by simp;omega) ?_;refine BP (fun i x1=>x1=(i:Int)/\∀j,j<i->vS (w.g j)) w.n _ (by omega) ⟨rfl,fun j b=>absurd b (by omega)⟩ ?_;rintro d i x1 q ⟨rfl,h⟩ hs;by_cases hl:i<w.n
 ·obtain⟨p,m,c⟩:=hw i hl;refine ifT (by simp;omega) (ifT (by omega) (B1 (by rw[AS2,c];exact f p m) ?_));cases hb:vB p m
  ·refine ifT rfl ⟨14,rfl,.inr (.inl ⟨by omega,⟨i,hl,fun l=>?_⟩,rfl⟩)⟩
   have:=(VO c).1 l;rw[hb]at this;cases this
  ·refine ifF (by simp) (hs hl _ ⟨B8 (by omega),fun j b=>?_⟩);by_cases e:j=i
   ·subst e;exact (VO c).2 hb
   ·exact h j (by omega)
 ·exact ifF (by simp;omega) ⟨0,rfl,.inr (.inr ⟨⟨by omega,fun j b=>h j (by omega)⟩,rfl⟩)⟩
theorem DP {N:Nat}(a:1000<=N){w:Sl Sound}(hw:∀i,i<w.n->okS (w.g i)):∃e,T3 N w=some e/\Ug w e:=
 Tz a hw (Bn N) fun p m=>Tv p m
theorem EX {N:Nat}(a:1000<=N){w:Sl Sound}(hw:∀i,i<w.n->okS (w.g i)):∃e,DB N w=some e/\Ug w e:=
 Tz a hw (R7 N) fun p m=>PJ p m
theorem Xk {N:Nat}(d:2000<=N){p:Pat}(hp:okPS p){w:Sl Sound}(hw:∀i,i<w.n->okS (w.g i)):∃e,Hh N p w=some e/\(e=0↔chk 40 [p]/\wOk w):=by
 unfold Hh;obtain⟨e,f,hc⟩:=NE d hp;refine B1 f ?_;by_cases a:e=0
 ·obtain⟨e2,b,c⟩:=EX (N:=N) (by omega) hw;exact ifT (by simp[a]) (B1 b ⟨e2,rfl,(Z2 c).trans ⟨fun h=>⟨hc.1 a,h⟩,fun h=>h.2⟩⟩)
 ·exact ifF (by simp[a]) ⟨e,rfl,fun h=>absurd h a,fun h=>absurd (hc.2 h.1) a⟩
theorem VT {N:Nat}(s:3000<=N){p:Pat}(hp:okPS p){w:Sl Sound}(hw:∀i,i<w.n->okS (w.g i))(at_:Int) :∃r,GF N p w at_=some r/\(0<r.1.n↔chk 40 [p]/\wOk w/\0<=at_/\at_<=w.n/\∃a,a<=w.n/\PR w p a at_.toNat):=by
 unfold GF;obtain⟨e,o,h1⟩:=Xk (N:=N) (by omega) hp hw;refine B1 o ?_;by_cases j:e=0
 case neg=>exact ifT (by simp[j]) ⟨_,rfl,fun h=>absurd h (by show ¬ 0<0;omega),fun h=>absurd (h1.2 ⟨h.1,h.2.1⟩) j⟩
 refine ifF (by simp[j]) ?_;obtain⟨hc,c⟩:=h1.1 j;have hn:=c.1;by_cases d:at_<0 \/ (w.n:Int)<at_
 ·exact ifT (by simpa using d) ⟨_,rfl,fun h=>absurd h (by show ¬ 0<0;omega),fun h=>by omega⟩
 refine ifF (by simpa using d) ?_;obtain⟨k,rfl⟩:∃k:Nat,at_=(k:Int):=⟨at_.toNat,by omega⟩;obtain⟨t,et,tn,q⟩:=NB (N:=1000) (by omega) hn 40 p (ND 40 [p] (AS8 _) hc p (by simp)) N (by omega);refine B1 et ?_;rw[AS2];refine P3 (fun i x2 x3=>x3=(i:Int)/\x2.n<=i/\(0<x2.n ↔ ∃a,a<i/\PR w p a k)) (w.n+1) _ (by omega) ⟨rfl,AS8 _,fun h=>absurd h (by show ¬ 0<0;omega),fun⟨a,h,_⟩=>absurd h (by omega)⟩ ?_;rintro m i x2 x3 u ⟨rfl,g1,g2⟩ f;by_cases hl:i<=w.n
 ·refine ifT (by simp;omega) (ifT (by omega) ?_);rw[AS2];have hb:=q.bit hl (b:=k) (by omega);by_cases l:PR w p i k
  ·refine ifT (hb.2 ⟨by omega,l⟩) (ifT (by show (x2.n+1)*8<=_/\x2.n+1<=_;omega) (f (by omega) _ _ ⟨B8 (by omega),by show x2.n+1<=_;omega,fun _=>⟨i,by omega,l⟩,fun _=>by show 0<x2.n+1;omega⟩))
  ·refine ifF (fun h=>l (hb.1 h).2) (f (by omega) _ _ ⟨B8 (by omega),by omega,fun h=>?_,fun⟨a,ha,h⟩=>?_⟩)
   ·obtain⟨a,ha,h'⟩:=g2.1 h;exact⟨a,by omega,h'⟩
   ·by_cases e2:a=i
    ·subst e2;exact absurd h l
    ·exact g2.2 ⟨a,by omega,h⟩
 ·refine ifF (by simp;omega) ⟨_,rfl,fun h=>?_,fun h=>?_⟩
  ·obtain⟨a,ha,h'⟩:=g2.1 h;exact⟨hc,c,by omega,by omega,a,by omega,h'⟩
  ·obtain⟨a,ha,h'⟩:=h.2.2.2.2;exact g2.2 ⟨a,by omega,h'⟩
theorem Ae5 {N:Nat}(s:3000<=N){p:Pat}(hp:okPS p){w:Sl Sound}(hw:∀i,i<w.n->okS (w.g i))(at_:Int) :∃r,Kg N p w at_=some r/\(0<r.1.n↔chk 40 [p]/\wOk w/\0<=at_/\at_<=w.n/\∃b,b<=w.n/\PR w p at_.toNat b):=by
 unfold Kg;obtain⟨e,o,h1⟩:=Xk (N:=N) (by omega) hp hw;refine B1 o ?_;by_cases j:e=0
 case neg=>exact ifT (by simp[j]) ⟨_,rfl,fun h=>absurd h (by show ¬ 0<0;omega),fun h=>absurd (h1.2 ⟨h.1,h.2.1⟩) j⟩
 refine ifF (by simp[j]) ?_;obtain⟨hc,c⟩:=h1.1 j;have hn:=c.1;by_cases d:at_<0 \/ (w.n:Int)<at_
 ·exact ifT (by simpa using d) ⟨_,rfl,fun h=>absurd h (by show ¬ 0<0;omega),fun h=>by omega⟩
 refine ifF (by simpa using d) ?_;obtain⟨k,rfl⟩:∃k:Nat,at_=(k:Int):=⟨at_.toNat,by omega⟩;obtain⟨t,et,tn,q⟩:=NB (N:=1000) (by omega) hn 40 p (ND 40 [p] (AS8 _) hc p (by simp)) N (by omega);refine B1 et ?_;rw[AS2];refine P3 (fun i x2 x3=>x3=(i:Int)/\x2.n<=i/\(0<x2.n ↔ ∃b,b<i/\PR w p k b)) (w.n+1) _ (by omega) ⟨rfl,AS8 _,fun h=>absurd h (by show ¬ 0<0;omega),fun⟨a,h,_⟩=>absurd h (by omega)⟩ ?_;rintro m i x2 x3 u ⟨rfl,g1,g2⟩ f;by_cases hl:i<=w.n
 ·refine ifT (by simp;omega) (ifT (by omega) ?_);have hb:=q.bit (a:=k) (by omega) (b:=i) (by omega);by_cases l:PR w p k i
  ·refine ifT (hb.2 ⟨by omega,l⟩) (ifT (by show (x2.n+1)*8<=_/\x2.n+1<=_;omega) (f (by omega) _ _ ⟨B8 (by omega),by show x2.n+1<=_;omega,fun _=>⟨i,by omega,l⟩,fun _=>by show 0<x2.n+1;omega⟩))
  ·refine ifF (fun h=>l (hb.1 h).2) (f (by omega) _ _ ⟨B8 (by omega),by omega,fun h=>?_,fun⟨a,ha,h⟩=>?_⟩)
   ·obtain⟨a,ha,h'⟩:=g2.1 h;exact⟨a,by omega,h'⟩
   ·by_cases e2:a=i
    ·subst e2;exact absurd h l
    ·exact g2.2 ⟨a,by omega,h⟩
 ·refine ifF (by simp;omega) ⟨_,rfl,fun h=>?_,fun h=>?_⟩
  ·obtain⟨a,ha,h'⟩:=g2.1 h;exact⟨hc,c,by omega,by omega,a,by omega,h'⟩
  ·obtain⟨a,ha,h'⟩:=h.2.2.2.2;exact g2.2 ⟨a,by omega,h'⟩
end Go.AM
namespace Go.AM
open Go.Proofs
def AI5 (s c:Sound):Prop:=∃p m a b:BitVec 32,s=sOf p m/\c=sOf a b/\Zj p m a b=true
theorem Ae6 {p m a b:BitVec 32}(h:sOf p m=sOf a b):p=a/\m=b:=by have e1:(p.toNat:Int)=a.toNat:=congrArg Sound.Plus h;have e2:(m.toNat:Int)=b.toNat:=congrArg Sound.Minus h;exact⟨AU4 (by omega),AU4 (by omega)⟩
theorem satS_of {p m a b:BitVec 32}:AI5 (sOf p m) (sOf a b)↔Zj p m a b=true:=by
 constructor
 ·rintro⟨p',m',a',b',h1,c,d⟩;obtain⟨rfl,rfl⟩:=Ae6 h1;obtain⟨rfl,rfl⟩:=Ae6 c;exact d
 ·exact fun h=>⟨_,_,_,_,rfl,rfl,h⟩
theorem Aq9 {N:Nat}{s c:Sound}(hs:okS s)(hc:okS c):∃b,J4 N s c=some b/\(b=true↔AI5 s c):=by obtain⟨p,m,rfl⟩:=hs;obtain⟨a,b,rfl⟩:=hc;exact⟨_,AE9 p m a b,satS_of.symm⟩
theorem Ar0 {N:Nat}(d:1000<=N){s c:Sound}(hs:okS s)(hc:okS c):∃b,X5 N s c=some b/\(b=true↔AI5 s c):=by obtain⟨p,m,rfl⟩:=hs;obtain⟨a,b,rfl⟩:=hc;exact⟨_,AF0 p m a b d,satS_of.symm⟩
def okL (l:Law):Prop:=okPS l.Left/\okPS l.Right/\∀i,i<l.If.n->okS (l.If.g i)
def arP (l:Law)(w:Sl Sound)(i:Nat):Prop:=chk 40 [l.Left]/\chk 40 [l.Right]/\wOk w/\i+l.If.n<=w.n/\(∃a,a<=w.n/\PR w l.Left a i)/\∃b,b<=w.n/\PR w l.Right (i+l.If.n) b
def PN (l:Law)(w:Sl Sound)(i:Nat):Prop:=i+l.If.n<=w.n/\(∀j,j<l.If.n->AI5 (w.g (i+j)) (l.If.g j))/\arP l w i
def okW (w:Sl Sound):Prop:=w.n<1000/\∀i,i<w.n->okS (w.g i)
theorem YO {N:Nat}(c:3000<=N){l:Law}(hl:okL l)(hk:l.If.n<=4){w:Sl Sound}(hw:okW w)(i:Nat)(f:i<2000) :∃b,V6 N (i:Int) l w=some b/\(b=true↔arP l w i):=by
 unfold V6;obtain⟨y1,e1,h1⟩:=YN (N:=N) c hl.1 (w:=w) ⟨by have:=hw.1;omega,by have:=hw.1;omega⟩ hw.2 (i:Int);refine B1 e1 ?_;rw[AS2]at h1;by_cases d:y1.1.n=0
 ·refine ifT (by simp[d]) ⟨false,rfl,by simp,fun h=>?_⟩
  have:=h1.2 ⟨h.1,h.2.2.1,by omega,by have:=h.2.2.2.1;omega,h.2.2.2.2.1⟩
  omega
 ·refine ifF (by simp;omega) ?_;rw[DS (by omega)];obtain⟨y2,e2,a⟩:=Aq8 (N:=N) c hl.2.1 (w:=w) ⟨by have:=hw.1;omega,by have:=hw.1;omega⟩ hw.2 ((i+l.If.n:Nat):Int);rw[AS2]at a;refine B1 e2 ⟨_,rfl,?_⟩;have h1:=h1.1 (by omega);rw[decide_eq_true_eq];constructor
  ·intro h;have a:=a.1 (by omega);exact⟨h1.1,a.1,h1.2.1,by omega,h1.2.2.2.2,a.2.2.2.2⟩
  ·intro h
   have:=a.2 ⟨h.2.1,h.2.2.1,by omega,by have:=h.2.2.2.1;omega,h.2.2.2.2.2⟩
   omega
theorem Rm {N:Nat}(f:3000<=N){l:Law}(hl:okL l)(hk:l.If.n<=4){w:Sl Sound}(hw:okW w)(i:Nat)(o:i<2000) :∃b,CC N l w (i:Int)=some b/\(b=true↔PN l w i):=by
 unfold CC;rw[DS (by omega)];by_cases hn:w.n<i+l.If.n
 ·exact ifT (by simp;omega) ⟨false,rfl,by simp,fun h=>by have:=h.1;omega⟩
 refine ifF (by simp;omega) ?_;refine BP (fun j x1=>x1=(j:Int)/\∀k,k<j->AI5 (w.g (i+k)) (l.If.g k)) l.If.n _ (by omega) ⟨rfl,fun k hk=>absurd hk (by omega)⟩ ?_;rintro m j x1 q ⟨rfl,h⟩ hs;by_cases c:j<l.If.n
 ·rw[DS (by omega)];refine ifT (by simp;omega) (ifT (by omega) ?_);obtain⟨b,eb,hb⟩:=Ar0 (N:=N) (by omega) (hw.2 (i+j) (by omega)) (hl.2.2 j c);refine B1 (by rw[AS2,AS2];exact eb) ?_;cases b
  ·refine ifT rfl ⟨false,rfl,by simp,fun a=>?_⟩
   have:=hb.2 (a.2.1 j c);cases this
  ·refine ifF (by simp) (hs c _ ⟨B8 (by omega),fun k d=>?_⟩);by_cases e:k=j
   ·subst e;exact hb.1 rfl
   ·exact h k (by omega)
 ·refine ifF (by simp;omega) ?_;obtain⟨y1,e1,h1⟩:=VT (N:=N) f hl.1 (w:=w) hw.2 (i:Int);obtain⟨y2,e2,a⟩:=Ae5 (N:=N) f hl.2.1 (w:=w) hw.2 ((i+l.If.n:Nat):Int);rw[AS2]at h1 a;refine B1 e1 (B1 e2 ⟨_,rfl,?_⟩);simp only[AS7,decide_eq_true_eq];constructor
  ·rintro⟨g1,g2⟩;have h1:=h1.1 (by omega);have a:=a.1 (by omega);exact⟨by omega,fun k d=>h k (by omega),h1.1,a.1,h1.2.1,by omega,h1.2.2.2.2,a.2.2.2.2⟩
  ·intro g;have a1:=h1.2 ⟨g.2.2.1,g.2.2.2.2.1,by omega,by omega,g.2.2.2.2.2.2.1⟩;have a2:=a.2 ⟨g.2.2.2.1,g.2.2.2.2.1,by omega,by omega,g.2.2.2.2.2.2.2⟩;exact⟨by omega,by omega⟩
end Go.AM
namespace Go.AM
open IntKind (wrap)
open Go.Proofs
open Classical in
noncomputable def hitB (l:Law) (w:Sl Sound) (i:Nat):Bool:=decide (PN l w i)
theorem hitB_iff {l:Law}{w:Sl Sound}{i:Nat}:hitB l w i=true↔PN l w i:=by simp[hitB]
noncomputable def Ex (l:Law) (w:Sl Sound) (i:Nat):List Int:=((List.range' i (w.n+1-i)).filter (hitB l w)).map fun (j:Nat)=>(j:Int)
theorem Kn {l:Law}{w:Sl Sound}{i:Nat}(h:w.n<i+l.If.n):Ex l w i=[]:=by
 unfold Ex;rw[Bi9.2 fun j a hb=>by
  have:=Bh7.1 a
  have:=(hitB_iff.1 hb).1
  omega]
 rfl
theorem Jy {l:Law}{w:Sl Sound}{i:Nat}(a:i<=w.n)(h:PN l w i):Ex l w i=(i:Int)::Ex l w (i+1):=by unfold Ex;rw[show w.n+1-i=(w.n+1-(i+1))+1 by omega,Bd8,Bi2 (hitB_iff.2 h)];rfl
theorem Jz {l:Law}{w:Sl Sound}{i:Nat}(h:¬PN l w i):Ex l w i=Ex l w (i+1):=by
 unfold Ex;by_cases a:i<=w.n
 ·rw[show w.n+1-i=(w.n+1-(i+1))+1 by omega,Bd8,Bi3 fun hb=>h (hitB_iff.1 hb)]
 ·rw[show w.n+1-i=0 by omega,show w.n+1-(i+1)=0 by omega];rfl
theorem Ar1 {l:Law}{w:Sl Sound}{i:Nat}{y:Int}(h:y∈Ex l w i):(i:Int)<=y:=by
 obtain⟨j,a,rfl⟩:=Ba7.1 h
 have:=Bh7.1 (Be7.1 a).1
 omega
theorem Xl {N:Nat}(z:3000<=N){l:Law}(hl:okL l)(hk:l.If.n<=4){w:Sl Sound}(hw:okW w)(i:Nat)(v:i<1500):Y3 N l w (i:Int)=some (Ex l w i):=by
 unfold Y3;show (some (l,w)).bind _=_;rw[AS4];simp only[]
 suffices h:∀(k i:Nat),i<1501->w.n+1-i<=k->∀F,k<F->∃r,V9 F (fun (a:Int->Option (List Int)) (x2:Int)=>
  if (decide ((wrap .i64 (x2+(l.If.n:Int)))<=(w.n:Int))) then
   V9 N (fun (d:Int->Option (List Int)) (x4:Int)=>
    if (decide (x4<(l.If.n:Int))) then
     if ((0:Int)<=x4/\x4<(l.If.n:Int))then
      if ((0:Int)<=(wrap .i64 (x2+x4))/\(wrap .i64 (x2+x4))<(w.n:Int))then
       (J4 N (w.g (wrap .i64 (x2+x4)).toNat) (l.If.g x4.toNat)).bind fun s=>
       if (!s) then
        a (wrap .i64 (x2+1))
       else
        d (wrap .i64 (x4+1))
      else none
     else none
    else
     (V6 N x2 l w).bind fun t=>
     if t then
      Ar x2 (
       a (wrap .i64 (x2+1))
       )
     else
      a (wrap .i64 (x2+1))
    ) 0
  else
   some []
  ) (i:Int)=some r/\r=Ex l w i by
  obtain⟨r,h1,rfl⟩:=h (w.n+1-i) i (by omega) (AS8 _) N (by have:=hw.1;omega);exact h1
 intro k
 induction k with
 |zero=>
  intro i v f F q
  match F,q with
  |F+1,_=>rw[AH,DS (by omega)];exact ifF (by simp;omega) ⟨_,rfl,(Kn (by omega)).symm⟩
 |succ k ih=>
  intro i v f F q
  match F,q with
  |F+1,q=>
   rw[AH,DS (by omega)];by_cases hn:i+l.If.n<=w.n
   case neg=>exact ifF (by simp;omega) ⟨_,rfl,(Kn (by omega)).symm⟩
   refine ifT (by simp;omega) ?_;have a0:=hw.1;obtain⟨r,x,o⟩:=ih (i+1) (by omega) (by omega) F (by omega);have c:∀(Q:List Int->Prop),Q (Ex l w (i+1))->∃r,V9 F _ (IntKind.i64.wrap ((i:Int)+1))=some r/\Q r:=fun Q hQ=>⟨r,by rw[B8 (by omega)];exact x,by rw[o];exact hQ⟩;refine BP (fun j x1=>x1=(j:Int)/\∀k,k<j->AI5 (w.g (i+k)) (l.If.g k)) l.If.n _ (by omega) ⟨rfl,fun k hk=>absurd hk (by omega)⟩ ?_;rintro y j x1 hj ⟨rfl,h⟩ hs;by_cases m:j<l.If.n
   ·rw[DS (by omega)];refine ifT (by simp;omega) (ifT (by omega) (ifT (by omega) ?_));obtain⟨b,eb,hb⟩:=Aq9 (N:=N) (hw.2 (i+j) (by omega)) (hl.2.2 j m);refine B1 (by rw[AS2,AS2];exact eb) ?_;cases b
    ·refine ifT rfl (c _ ?_);exact (Jz fun u=>by have:=hb.2 (u.2.1 j m);cases this).symm
    ·refine ifF (by simp) (hs m _ ⟨B8 (by omega),fun k f=>?_⟩);by_cases e:k=j
     ·subst e;exact hb.1 rfl
     ·exact h k (by omega)
   ·refine ifF (by simp;omega) ?_;obtain⟨b,eb,hb⟩:=YO z hl hk hw i (by omega);refine B1 eb ?_;cases b
    ·refine ifF (by simp) (c _ ?_);exact (Jz fun u=>by have:=hb.2 u.2.2;cases this).symm
    ·refine ifT rfl ?_;have hh:PN l w i:=⟨hn,fun k f=>h k (by omega),hb.1 rfl⟩;refine⟨(i:Int)::Ex l w (i+1),?_,(Jy (by omega) hh).symm⟩;rw[B8 (by omega),x,o];rfl
theorem Ae7 {N:Nat}(a:3000<=N){l:Law}(hl:okL l)(hk:l.If.n<=4){w:Sl Sound}(hw:okW w)(i:Nat)(c:i<1500) :∃b,CF N l w (i:Int)=some b/\(b=true↔PN l w i):=by
 unfold CF;refine B1 (x:=(l,w,(i:Int))) rfl (B1 (Xl a hl hk hw i c) ?_);by_cases h:PN l w i
 ·rw[Jy (by have:=h.1;omega) h];exact⟨true,by simp[O5],by simp[h]⟩
 ·rw[Jz h];rcases hL:Ex l w (i+1)with _|⟨t,L⟩
  ·exact⟨false,rfl,by simp[h]⟩
  ·have:((i+1:Nat):Int)<=t:=Ar1 (l:=l) (w:=w) (by rw[hL];simp)
   exact⟨false,by show some (t==(i:Int))=some false;congr 1;simp;omega,by simp[h]⟩
end Go.AM
namespace Go.AM
open IntKind (wrap)
open Go.Proofs
def okO (x:Bs):Prop:=okS x.Set/\(∃c:BitVec 32,x.Clear=(c.toNat:Int))/\∃t:BitVec 32,x.Take=(t.toNat:Int)
theorem Aw9 {p m a b s:BitVec 32}(h1:vB p m=true)(d:vB a b=true):vB (RD p a s) (RD m b s)=true:=by rw[FX]at *;intro i c;have g1:=h1 i c;have g2:=d i c;simp only[RD,AT5,AT6,AX5];revert g1 g2;cases s.getLsbD i<;>cases p.getLsbD i<;>cases m.getLsbD i<;>cases a.getLsbD i<;>cases b.getLsbD i<;>simp[c]
theorem vS0:vS (⟨0,0⟩:Sound):=⟨0#32,0#32,rfl,by decide +kernel⟩
theorem VU {N:Nat}(f:1000<=N){s t:Sound}{c:Int}(hs:okS s)(hc:∃b:BitVec 32,c=(b.toNat:Int))(ht:okS t):∃y,O8 N s c t=some y/\X6 N s c t=some y/\vS y.1:=by
 obtain⟨p,m,rfl⟩:=hs;obtain⟨a,b,rfl⟩:=ht;obtain⟨d,rfl⟩:=hc;refine⟨_,YK p m d a b,YL p m d a b f,?_⟩;unfold Aq0;split
 ·rename_i h;split
  ·exact⟨_,_,rfl,Aw9 h.1 h.2⟩
  ·exact vS0
 ·exact vS0
theorem Ae8 {N:Nat}(f:1000<=N){s t:Sound}{c:Int}(hs:okS s)(hc:∃b:BitVec 32,c=(b.toNat:Int))(ht:okS t):∃y,T2 N s t c=some y/\Cg N s t c=some y/\vS y.1:=by
 obtain⟨p,m,rfl⟩:=hs;obtain⟨a,b,rfl⟩:=ht;obtain⟨d,rfl⟩:=hc;refine⟨_,Aq2 p m a b d,Aq3 p m a b d f,?_⟩;unfold Aq1;split
 ·rename_i h;split
  ·exact⟨_,_,rfl,Aw9 h.1 h.2⟩
  ·exact vS0
 ·exact vS0
def AI6 (l:Law):Prop:=l.Out.n<=6/\∀i,i<l.Out.n->okO (l.Out.g i)/\(l.Out.g i).From<l.If.n/\((l.Out.g i).Take≠0->0<=(l.Out.g i).Of/\(l.Out.g i).Of<l.If.n)
theorem eqX {R:Type}{Q:R->Prop}{o o' : Option R}(h:o=o')(a:∃r,o' = some r/\Q r):∃r,o=some r/\Q r:=by rw[h];exact a
def BV (f:Nat->Sound):Nat->Sl Sound
 |0=>Sl.nil
 |m+1=>(BV f m).push (f m)
theorem Iu (f:Nat->Sound):∀m,(BV f m).n=m
 |0=>rfl
 |m+1=>by show (BV f m).n+1=_;rw[Iu f m]
theorem VV (f:Nat->Sound):∀{m i:Nat},i<m->(BV f m).g i=f i
 |0,i,h=>by omega
 |m+1,i,h=>by
  show (if i<(BV f m).n then (BV f m).g i else f m)=f i;rw[Iu];by_cases e:i<m
  ·rw[if_pos e,VV f e]
  ·rw[if_neg e,show i=m by omega]
abbrev srcS (l:Law)(cut:Sl Sound)(i:Nat):Sound:=⟨(if (decide (0<=(l.Out.g i).From)) then (cut.g (l.Out.g i).From.toNat).Plus else 0),(if (decide (0<=(l.Out.g i).From)) then (cut.g (l.Out.g i).From.toNat).Minus else 0)⟩
theorem AF8 {N:Nat}(t:1000<=N){l:Law}(u:AI6 l){cut:Sl Sound}(hn:cut.n=l.If.n)(hc:∀i,i<cut.n->okS (cut.g i)) :∃s,O3 N l cut=some s/\DE N l cut=some s/\s.n=l.Out.n/\∀i,i<s.n->vS (s.g i):=by
 have one:∀i,∃y:Sound,i<l.Out.n->vS y/\∀(R:Type) (k:Sound->Option R),
  (∀(Ch:Nat->Sound->Int->Sound->Option (Sound×Int)) (Ta:Nat->Sound->Sound->Int->Option (Sound×Int)),(Ch=O8/\Ta=T2) \/ (Ch=X6/\Ta=Cg) ->
  (if ((decide (0<=(l.Out.g i).From))=true->((0:Int)<=(l.Out.g i).From/\(l.Out.g i).From<(cut.n:Int)))then
   (Ch N (⟨(if (decide (0<=(l.Out.g i).From)) then (cut.g (l.Out.g i).From.toNat).Plus else 0),(if (decide (0<=(l.Out.g i).From)) then (cut.g (l.Out.g i).From.toNat).Minus else 0)⟩:Sound) (l.Out.g i).Clear (l.Out.g i).Set).bind fun y5=>
   if ((l.Out.g i).Take != 0) then
    if ((0:Int)<=(l.Out.g i).Of/\(l.Out.g i).Of<(cut.n:Int))then
     (Ta N y5.1 (cut.g (l.Out.g i).Of.toNat) (l.Out.g i).Take).bind fun y6=>k y6.1
    else none
   else k y5.1
   else none)=k y):=by
  intro i;by_cases d:i<l.Out.n
  case neg=>exact⟨default,fun h=>absurd h d⟩
  obtain⟨⟨j,m,o⟩,w,q⟩:=u.2 i d;have hs:okS (⟨(if (decide (0<=(l.Out.g i).From)) then (cut.g (l.Out.g i).From.toNat).Plus else 0),(if (decide (0<=(l.Out.g i).From)) then (cut.g (l.Out.g i).From.toNat).Minus else 0)⟩:Sound):=by
   by_cases v:0<=(l.Out.g i).From
   ·simp only[v,decide_true,if_true];exact hc _ (by omega)
   ·simp only[v,decide_false,AT0,if_false];exact⟨0#32,0#32,rfl⟩
  obtain⟨y,e1,e2,hy⟩:=VU t hs m j;by_cases ht:(l.Out.g i).Take=0
  ·refine⟨y.1,fun _=>⟨hy,fun R k Ch Ta h=>?_⟩⟩;rw[if_pos (fun h=>by have:=of_decide_eq_true h;omega)]
   have:Ch N (srcS l cut i) (l.Out.g i).Clear (l.Out.g i).Set=some y:=by
    rcases h with⟨rfl,rfl⟩ | ⟨rfl,rfl⟩
    ·exact e1
    ·exact e2
   rw[this,AS4,if_neg (by simp[ht])]
  ·obtain⟨g1,g2⟩:=q ht;obtain⟨z,e3,e4,x⟩:=Ae8 t hy.ok o (hc (l.Out.g i).Of.toNat (by omega));refine⟨z.1,fun _=>⟨x,fun R k Ch Ta h=>?_⟩⟩;rw[if_pos (fun h=>by have:=of_decide_eq_true h;omega)]
   have:Ch N (srcS l cut i) (l.Out.g i).Clear (l.Out.g i).Set=some y:=by
    rcases h with⟨rfl,rfl⟩ | ⟨rfl,rfl⟩
    ·exact e1
    ·exact e2
   rw[this,AS4,if_pos (by simp[ht]),if_pos (by omega)]
   have:Ta N y.1 (cut.g (l.Out.g i).Of.toNat) (l.Out.g i).Take=some z:=by
    rcases h with⟨rfl,rfl⟩ | ⟨rfl,rfl⟩
    ·exact e3
    ·exact e4
   rw[this,AS4]
 obtain⟨out,f⟩:=Ba6 one;have a0:=u.1;have b:∀(Ch:Nat->Sound->Int->Sound->Option (Sound×Int)) (Ta:Nat->Sound->Sound->Int->Option (Sound×Int)),(Ch=O8/\Ta=T2) \/ (Ch=X6/\Ta=Cg) ->
  ∀(a:Sl Sound->Int->Option (Sl Sound)) (i:Nat),i<l.Out.n->(∃r,a ((BV out i).push (out i)) (wrap .i64 ((i:Int)+1))=some r/\r=BV out l.Out.n) ->
  ∃r,(if ((decide (0<=(l.Out.g i).From))=true->((0:Int)<=(l.Out.g i).From/\(l.Out.g i).From<(cut.n:Int)))then
   (Ch N (srcS l cut i) (l.Out.g i).Clear (l.Out.g i).Set).bind fun y5=>
   if ((l.Out.g i).Take != 0) then
    if ((0:Int)<=(l.Out.g i).Of/\(l.Out.g i).Of<(cut.n:Int))then
     (Ta N y5.1 (cut.g (l.Out.g i).Of.toNat) (l.Out.g i).Take).bind fun y6=>
     if (((BV out i).n+(Sl.of [y6.1]:Sl Sound).n)*8<=140737488355328/\(BV out i).n+(Sl.of [y6.1]:Sl Sound).n<=140737488355328)then
      a ((BV out i).push y6.1) (wrap .i64 ((i:Int)+1))
     else none
    else none
   else
    if (((BV out i).n+(Sl.of [y5.1]:Sl Sound).n)*8<=140737488355328/\(BV out i).n+(Sl.of [y5.1]:Sl Sound).n<=140737488355328)then
     a ((BV out i).push y5.1) (wrap .i64 ((i:Int)+1))
    else none
   else none)=some r/\r=BV out l.Out.n:=by
  intro Ch Ta h a i d hr;have e:=(f i d).2 (Sl Sound) (fun y=>if (((BV out i).n+(Sl.of [y]:Sl Sound).n)*8<=140737488355328/\(BV out i).n+(Sl.of [y]:Sl Sound).n<=140737488355328)then a ((BV out i).push y) (wrap .i64 ((i:Int)+1))else none) Ch Ta h;refine eqX e (ifT ?_ hr)
  have:=Iu out i
  show ((BV out i).n+1)*8<=_/\(BV out i).n+1<=_;omega
 have h1:∃r,O3 N l cut=some r/\r=BV out l.Out.n:=by
  unfold O3;refine P3 (fun i x1 x2=>x2=(i:Int)/\x1=BV out i) l.Out.n _ (by omega) ⟨rfl,rfl⟩ ?_;rintro a i x1 x2 d ⟨rfl,rfl⟩ hs;by_cases c:i<l.Out.n
  ·refine ifT (by simp;omega) (ifT (by omega) ?_);rw[AS2];exact b _ _ (.inl ⟨rfl,rfl⟩) a i c (hs c _ _ ⟨B8 (by omega),rfl⟩)
  ·exact ifF (by simp;omega) ⟨_,rfl,by congr 1;omega⟩
 have h2:∃r,DE N l cut=some r/\r=BV out l.Out.n:=by
  unfold DE;refine P3 (fun i x1 x2=>x2=(i:Int)/\x1=BV out i) l.Out.n _ (by omega) ⟨rfl,rfl⟩ ?_;rintro a i x1 x2 d ⟨rfl,rfl⟩ hs;by_cases c:i<l.Out.n
  ·refine ifT (by simp;omega) (ifT (by omega) ?_);rw[AS2];exact b _ _ (.inr ⟨rfl,rfl⟩) a i c (hs c _ _ ⟨B8 (by omega),rfl⟩)
  ·exact ifF (by simp;omega) ⟨_,rfl,by congr 1;omega⟩
 obtain⟨r,e1,rfl⟩:=h1;obtain⟨r,e2,rfl⟩:=h2;exact⟨_,e1,e2,Iu out _,fun i d=>by rw[Iu]at d;rw[VV out d];exact (f i d).1⟩
end Go.AM
namespace Go.AM
open Go.Proofs
theorem ne0 (x:BitVec 32):((x.toNat:Int) != 0)=decide (x≠0#32):=by rw[bne,eq0];simp
theorem or0 (x y:BitVec 32):x ||| y=0#32↔x=0#32/\y=0#32:=by
 constructor
 ·intro h;have h:=(z32 _).1 h;exact⟨(z32 _).2 fun i a=>by have:=h i a;rw[AT5,Bc0]at this;exact this.1,(z32 _).2 fun i a=>by have:=h i a;rw[AT5,Bc0]at this;exact this.2⟩
 ·rintro⟨rfl,rfl⟩;rfl
theorem AP8 (x y z:BitVec 32):x &&& (y ||| z)=(x &&& y) ||| (x &&& z):=by apply AX9;intro i a;simp only[AT6,AT5];cases x.getLsbD i<;>simp
theorem AP9 (x y z:BitVec 32):(x ||| y) &&& z=(x &&& z) ||| (y &&& z):=by apply AX9;intro i a;simp only[AT6,AT5];cases z.getLsbD i<;>simp
theorem Xm {N:Nat}(j:1000<=N){x:Bs}(hx:okO x)(k:Int):∃b,V5 N x k=some b/\EU N x k=some b:=by
 obtain⟨⟨a,b,d⟩,⟨c,hc⟩,t,ht⟩:=hx;have f:(16777215:Int)=((16777215#32).toNat:Int):=rfl;unfold V5 EU;simp only[lt,d,hc,ht,BQ,Ao a b j,AS4];rw[f];simp only[Fk,KH,EJ,ne0];by_cases h1:x.From < -1
 ·simp[h1]
 by_cases g:k<=x.From
 ·simp[h1,g]
 by_cases i:vB a b=true
 case neg=>simp[h1,g,i]
 simp only[h1,g,i,decide_false,AT0,if_false,Be4];rw[AP9,AP8 t];generalize ~~~16777215#32=M;by_cases g1:c &&& M=0#32
 case neg=>simp[g1,or0]
 by_cases g2:t &&& M=0#32
 case neg=>simp[g1,g2,or0]
 by_cases g3:c &&& (a ||| b)=0#32
 case neg=>simp[g1,g2,g3,or0]
 by_cases g4:t &&& (a ||| b)=0#32
 case neg=>simp[g1,g2,g3,g4,or0]
 by_cases g5:t &&& c=0#32
 case neg=>simp[g1,g2,g3,g4,g5,or0]
 simp[g1,g2,g3,g4,g5,or0];by_cases g6:t.toNat=0
 ·simp only[g6,if_true];cases x.Of==0<;>simp
 ·simp only[g6,if_false];cases (decide (0<=x.Of)&&decide (x.Of<k))<;>simp
end Go.AM
namespace Go.AM
open Go.Proofs
abbrev nameC:Str:=[97,98,99,100,101,102,103,104,105,106,107,108,109,110,111,112,113,114,115,116,117,118,119,120,121,122,65,66,67,68,69,70,71,72,73,74,75,76,77,78,79,80,81,82,83,84,85,86,87,88,89,90,48,49,50,51,52,53,54,55,56,57,45]
theorem Ae9 {p:UInt8->Bool}:∀{l:Str},l.dropWhile p=[] ↔ ∀x∈l,p x=true
 |[]=>by simp
 |a::l=>by
  rw[List.dropWhile_cons];by_cases h:p a=true
  ·rw[if_pos h,Ae9];simp[h]
  ·rw[if_neg h];simp[h]
theorem Ar2 (l cs:Str):Lib.trimS l cs=[] ↔ ∀b∈l,cs.contains b=true:=by
 unfold Lib.trimS Lib.trimLeftS Lib.trimRightS;rw[Ae9];constructor
 ·intro h;have h:∀x∈l.reverse.dropWhile (cs.contains ·),cs.contains x=true:=fun x hx=>h x (Bg1.2 hx);have a:l.reverse.dropWhile (cs.contains ·)=[]:=by
   rcases e:l.reverse.dropWhile (cs.contains ·)with _|⟨y,r⟩
   ·rfl
   ·have c:=h y (by rw[e];simp);have d:¬cs.contains y=true:=by
     have:=List.head_dropWhile_not (cs.contains ·) (l:=l.reverse) (by rw[e];simp)
     simp only[e,List.head_cons]at this;rw[this];exact Bool.false_ne_true
    exact absurd c d
  rw[Ae9]at a;exact fun b hb=>a b (Bg1.2 hb)
 ·intro h x hx;have hx:=Bg1.1 hx;exact h x (Bg1.1 ((List.dropWhile_sublist _).mem hx))
abbrev Rn (y:Int):Bool:=((((decide (97<=y))&&(decide (y<=122)))||((decide (65<=y))&&(decide (y<=90))))||((decide (48<=y))&&(decide (y<=57))))||(y==45)
theorem Af0:∀k:Fin 256,nameC.contains (UInt8.ofNat k.val)=Rn ((k.val:Nat):Int):=by decide +kernel
theorem Af1 (b:UInt8):nameC.contains b=Rn ((b.toNat:Nat):Int):=by
 have:=Af0 ⟨b.toNat,b.toNat_lt⟩
 rw[show UInt8.ofNat b.toNat=b by simp]at this;exact this
theorem TA {N:Nat}{s:Str}(n:s.length<N)(hs:s.length<1000000000):∃b,Cj N s=some b/\Ci N s=some b:=by
 have o:∃b,Ci N s=some b/\(b=true↔(∀c∈s,nameC.contains c=true)/\1<=s.length/\s.length<=24):=by
  unfold Ci;refine BP (fun i x1=>x1=(i:Int)/\∀j (h:j<s.length),j<i->nameC.contains s[j]=true) s.length _ n ⟨rfl,fun j _ a=>absurd a (by omega)⟩ ?_;rintro l i x1 v ⟨rfl,h⟩ f;by_cases hl:i<s.length
  ·refine ifT (by simp;omega) (ifT (by omega) ?_);have eb:Ap s (i:Int)=((s[i].toNat:Nat):Int):=by simp[Ap,hl]
   by_cases hb:nameC.contains s[i]=true
   ·refine ifF (by rw[eb];show ¬(!(Rn ((s[i].toNat:Nat):Int)))=true;rw[<- Af1,hb];simp) (f hl _ ⟨B8 (by omega),fun j a q=>?_⟩);by_cases e:j=i
    ·subst e;exact hb
    ·exact h j a (by omega)
   ·refine ifT ?_ ⟨false,rfl,by simp,fun t=>absurd (t.1 s[i] (Bi4 hl)) hb⟩;rw[eb];show (!(Rn ((s[i].toNat:Nat):Int)))=true;rw[<- Af1];simpa using hb
  ·refine ifF (by simp;omega) ⟨_,rfl,?_⟩;simp only[AS7,decide_eq_true_eq];constructor
   ·rintro⟨g1,g2⟩;refine⟨fun c hc=>?_,by omega,by omega⟩;obtain⟨j,a,rfl⟩:=Bg5 hc;exact h j a (by omega)
   ·rintro⟨_,g1,g2⟩;exact⟨by omega,by omega⟩
 obtain⟨b,e,hb⟩:=o;refine⟨b,?_,e⟩
 suffices h:∃r,Cj N s=some r/\(r=true↔(∀c∈s,nameC.contains c=true)/\1<=s.length/\s.length<=24) by obtain⟨r,u,g⟩:=h;rw[u,show r=b by rw[AV7,g,hb]]
 unfold Cj;refine ltX ?_;by_cases d:s=[]
 ·exact ifF (by simp[d]) ⟨false,rfl,by simp[d]⟩
 refine ifT (by simp[d]) ?_;have m:0<s.length:=List.length_pos_iff.2 d;by_cases h1:s.length<=24
 ·refine ifT (by simp;omega) (B1 (x:=Lib.trimS s nameC) ?_ ⟨_,rfl,?_⟩)
  ·unfold Er;rw[if_pos ⟨by omega,by decide,by decide⟩]
  ·rw[<- Ar2];constructor
   ·intro h;exact⟨by simpa using h,by omega,h1⟩
   ·rintro⟨h,_⟩;simp[h]
 ·exact ifF (by simp;omega) ⟨false,rfl,by simp;intro _ _;omega⟩
end Go.AM
namespace Go.AM
open IntKind (wrap)
open Go.Proofs
theorem TB {N:Nat}{s:Sl Bs}(m:s.n<N)(hs:s.n<1000000){f:Bs->Option Bool}{b:Nat->Bool}(o:∀i,i<s.n->f (s.g i)=some (b i)) :∃r,C6 N s f=some r/\(r=true ↔ ∃i,i<s.n/\b i=true):=by
 unfold C6 E6
 have:∃y,V9 N (fun (a:Int->Option Int) (x1:Int)=>
  if (decide (x1<(s.n:Int))) then
   if ((0:Int)<=x1/\x1<(s.n:Int))then
    (f (s.g x1.toNat)).bind fun y3=>
    if y3 then
     some x1
    else
     a (wrap .i64 (x1+1))
   else none
  else
   some (-1)) 0=some y/\(0<=y ↔ ∃i,i<s.n/\b i=true):=by
  refine BP (fun i x1=>x1=(i:Int)/\∀j,j<i->b j=false) s.n _ m ⟨rfl,fun j c=>absurd c (by omega)⟩ ?_;rintro l i x1 q ⟨rfl,h⟩ d;by_cases hl:i<s.n
  ·refine ifT (by simp;omega) (ifT (by omega) (B1 (by rw[AS2];exact o i hl) ?_));cases hb:b i
   ·refine ifF (by simp) (d hl _ ⟨B8 (by omega),fun j c=>?_⟩);by_cases e:j=i
    ·subst e;exact hb
    ·exact h j (by omega)
   ·exact ifT rfl ⟨i,rfl,fun _=>⟨i,hl,hb⟩,fun _=>by omega⟩
  ·refine ifF (by simp;omega) ⟨-1,rfl,fun h=>absurd h (by decide),?_⟩;rintro⟨j,c,hb⟩;rw[h j (by omega)]at hb;cases hb
 obtain⟨y,e,hy⟩:=this;exact B1 e ⟨_,rfl,by rw[decide_eq_true_eq];exact hy⟩
def JA (l:Law):Prop:=okL l/\l.Name.length<1100000/\l.If.n<1100000/\l.Out.n<1100000/\∀i,i<l.Out.n->okO (l.Out.g i)
theorem YP {N:Nat}{s:Sound}(hs:okS s):∃b,G6 N s=some b/\(b=true↔vS s):=by obtain⟨p,m,e⟩:=hs;exact⟨vB p m,by rw[e];exact BQ p m,(VO e).symm⟩
theorem YQ {N:Nat}(a:1000<=N){s:Sound}(hs:okS s):∃b,I0 N s=some b/\(b=true↔vS s):=by obtain⟨p,m,e⟩:=hs;exact⟨vB p m,by rw[e];exact Ao p m a,(VO e).symm⟩
theorem Ar3 {N:Nat}{x:Bs}(hx:okO x){k:Int}(h:V5 N x k=some true):x.From<k/\(x.Take≠0->0<=x.Of/\x.Of<k):=by
 obtain⟨⟨a,b,c⟩,_,_⟩:=hx;unfold V5 at h;simp only[lt,c,BQ,AS4]at h;by_cases h1:x.From < -1
 ·simp[h1]at h
 by_cases d:k<=x.From
 ·simp[h1,d]at h
 refine⟨by omega,fun ht=>?_⟩;simp only[h1,d,decide_false,AT0,if_false]at h;by_cases f:(!vB a b)=true
 ·rw[if_pos f]at h;cases h
 rw[if_neg f]at h;split at h
 ·cases h
 ·rw[if_neg (by simp[ht])]at h;simpa using h
def chkAll (N:Nat)(l:Law):Prop:=Ci N l.Name=some true/\chk 40 [l.Left]/\chk 40 [l.Right]/\l.If.n<=4/\l.Out.n<=6/\l.If.n+l.Out.n≠0/\1<=l.Mode/\l.Mode<=3/\(∀i,i<l.If.n->vS (l.If.g i))/\∀i,i<l.Out.n->V5 N (l.Out.g i) l.If.n=some true
def AF9 (N:Nat)(l:Law)(e:Int):Prop:=(e=0/\chkAll N l) \/ (e=17/\¬chkAll N l)
def AI7 (l:Law):Prop:=okL l/\chk 40 [l.Left]/\chk 40 [l.Right]/\l.If.n<=4/\AI6 l/\l.If.n+l.Out.n≠0/\1<=l.Mode/\l.Mode<=3
theorem chkAll.f {N:Nat}{l:Law}(hl:JA l)(h:chkAll N l):AI7 l:=by obtain⟨_,h1,b,c,d,g,j,m,o,n⟩:=h;exact⟨hl.1,h1,b,c,⟨d,fun i a=>⟨hl.2.2.2.2 i a,Ar3 (hl.2.2.2.2 i a) (n i a)⟩⟩,g,j,m⟩
theorem PO {N:Nat}(hN:3000000<=N){l:Law}(hl:JA l):∃e,T8 N l=some e/\AF9 N l e:=by
 have u:=hl.2.1;have v:=hl.2.2.1;have x:=hl.2.2.2.1;unfold T8;obtain⟨b0,e0,e0'⟩:=TA (N:=N) (s:=l.Name) (by omega) (by omega);refine B1 e0 ?_;cases b0
 ·exact ifT rfl ⟨17,rfl,.inr ⟨rfl,fun h=>by have:=h.1;rw[e0']at this;cases this⟩⟩
 refine ifF (by simp) ?_;obtain⟨y2,e2,o⟩:=Rl (N:=N) (by omega) hl.1.1;refine B1 e2 ?_;by_cases c2:y2=0
 case neg=>exact ifT (by simpa using c2) ⟨17,rfl,.inr ⟨rfl,fun h=>c2 (o.2 h.2.1)⟩⟩
 refine ifF (by simp[c2]) ?_;obtain⟨y3,e3,q⟩:=Rl (N:=N) (by omega) hl.1.2.1;refine B1 e3 ?_;by_cases c3:y3=0
 case neg=>exact ifT (by simpa using c3) ⟨17,rfl,.inr ⟨rfl,fun h=>c3 (q.2 h.2.2.1)⟩⟩
 refine ifF (by simp[c3]) ?_;by_cases c4:4<l.If.n
 ·exact ifT (by simp;omega) ⟨17,rfl,.inr ⟨rfl,fun h=>by have:=h.2.2.2.1;omega⟩⟩
 refine ifF (by simp;omega) ?_;by_cases c5:6<l.Out.n
 ·exact ifT (by simp;omega) ⟨17,rfl,.inr ⟨rfl,fun h=>by have:=h.2.2.2.2.1;omega⟩⟩
 refine ifF (by simp;omega) ?_;rw[DS (by omega)];by_cases c6:l.If.n+l.Out.n=0
 ·exact ifT (by rw[c6];rfl) ⟨17,rfl,.inr ⟨rfl,fun h=>h.2.2.2.2.2.1 c6⟩⟩
 refine ifF (by simp;omega) ?_;by_cases c7:l.Mode<1 \/ 3<l.Mode
 ·exact ifT (by simp;omega) ⟨17,rfl,.inr ⟨rfl,fun h=>by have g1:=h.2.2.2.2.2.2.1;have g2:=h.2.2.2.2.2.2.2.1;omega⟩⟩
 refine ifF (by simp;omega) ?_;have y:∀i,∃b,i<l.If.n->Al N (l.If.g i)=some b/\(b=true ↔ ¬vS (l.If.g i)):=by
  intro i;by_cases a:i<l.If.n
  ·obtain⟨b,eb,hb⟩:=YP (N:=N) (hl.1.2.2 i a);refine⟨!b,fun _=>⟨by unfold Al;rw[eb];rfl,?_⟩⟩;rw[<- hb];simp
  ·exact⟨false,fun h=>absurd h a⟩
 obtain⟨f,j⟩:=Ba6 y;obtain⟨y4,e4,r⟩:=Lb (N:=N) (w:=l.If) (by omega) (by omega) (f:=fun u1=>Al N u1) (fun i a=>(j i a).1);refine B1 e4 ?_;cases c:y4
 case true=>obtain⟨i,a,hb⟩:=r.1 c;exact ifT rfl ⟨17,rfl,.inr ⟨rfl,fun h=>(j i a).2.1 hb (h.2.2.2.2.2.2.2.2.1 i a)⟩⟩
 refine ifF (by simp) ?_;have z:∀i,∃b,i<l.Out.n->Ak N (l.Out.g i) (l.If.n:Int)=some b/\(b=true ↔ ¬V5 N (l.Out.g i) l.If.n=some true):=by
  intro i;by_cases a:i<l.Out.n
  ·obtain⟨b,eb,_⟩:=Xm (N:=N) (by omega) (hl.2.2.2.2 i a) (l.If.n:Int);refine⟨!b,fun _=>⟨by unfold Ak;rw[eb];rfl,?_⟩⟩;rw[eb];simp
  ·exact⟨false,fun h=>absurd h a⟩
 obtain⟨g,m⟩:=Ba6 z;obtain⟨y5,e5,t⟩:=TB (N:=N) (s:=l.Out) (by omega) (by omega) (f:=fun u2=>Ak N u2 (l.If.n:Int)) (fun i a=>(m i a).1);refine B1 e5 ?_;cases d:y5
 case true=>obtain⟨i,a,hb⟩:=t.1 d;exact ifT rfl ⟨17,rfl,.inr ⟨rfl,fun h=>(m i a).2.1 hb (h.2.2.2.2.2.2.2.2.2 i a)⟩⟩
 refine ifF (by simp) ⟨0,rfl,.inl ⟨rfl,e0',o.1 c2,q.1 c3,by omega,by omega,c6,by omega,by omega,fun i a=>?_,fun i a=>?_⟩⟩
 ·refine AV1 fun hn=>?_
  have:=r.2 ⟨i,a,(j i a).2.2 hn⟩
  rw[c]at this;cases this
 ·refine AV1 fun hn=>?_
  have:=t.2 ⟨i,a,(m i a).2.2 hn⟩
  rw[d]at this;cases this
theorem YR {N:Nat}(y:3000000<=N){l:Law}(hl:JA l):∃e,X9 N l=some e/\AF9 N l e:=by
 have u:=hl.2.1;have v:=hl.2.2.1;have w:=hl.2.2.2.1;unfold X9;obtain⟨b0,e0,e0'⟩:=TA (N:=N) (s:=l.Name) (by omega) (by omega);refine B1 e0' (ltX ?_);cases b0
 ·exact ifT rfl (ifT rfl ⟨17,rfl,.inr ⟨rfl,fun h=>by have:=h.1;rw[e0']at this;cases this⟩⟩)
 refine ifF (by simp) ?_;obtain⟨y2,e2,q⟩:=NE (N:=N) (by omega) hl.1.1;refine B1 e2 ?_;by_cases c2:y2=0
 case neg=>exact ifT (by simpa using c2) (ifT rfl ⟨17,rfl,.inr ⟨rfl,fun h=>c2 (q.2 h.2.1)⟩⟩)
 refine ifF (by simp[c2]) ?_;obtain⟨y3,e3,r⟩:=NE (N:=N) (by omega) hl.1.2.1;refine B1 e3 ?_;by_cases c3:y3=0
 case neg=>exact ifT (by simpa using c3) ⟨17,rfl,.inr ⟨rfl,fun h=>c3 (r.2 h.2.2.1)⟩⟩
 refine ifF (by simp[c3]) ?_;rw[DS (by omega)];by_cases a:l.If.n<=4/\l.Out.n<=6/\l.If.n+l.Out.n≠0/\1<=l.Mode/\l.Mode<=3
 case neg=>refine ifT ?_ ⟨17,rfl,.inr ⟨rfl,fun h=>a ⟨h.2.2.2.1,h.2.2.2.2.1,h.2.2.2.2.2.1,h.2.2.2.2.2.2.1,h.2.2.2.2.2.2.2.1⟩⟩⟩;simp only[AU0,decide_eq_true_eq,beq_iff_eq];omega
 refine ifF (by simp only[AU0,decide_eq_true_eq,beq_iff_eq];omega) ?_;obtain⟨c4,c5,c6,c7,c8⟩:=a;refine BP (fun i x1=>x1=(i:Int)/\∀j,j<i->vS (l.If.g j)) l.If.n _ (by omega) ⟨rfl,fun j c=>absurd c (by omega)⟩ ?_;rintro t i x1 z ⟨rfl,h⟩ hs;by_cases d:i<l.If.n
 ·obtain⟨b,eb,hb⟩:=YQ (N:=N) (by omega) (hl.1.2.2 i d);refine ifT (by simp;omega) (ifT (by omega) (B1 (by rw[AS2];exact eb) ?_));cases b
  ·exact ifT rfl ⟨17,rfl,.inr ⟨rfl,fun h=>by have:=hb.2 (h.2.2.2.2.2.2.2.2.1 i d);cases this⟩⟩
  ·refine ifF (by simp) (hs d _ ⟨B8 (by omega),fun j c=>?_⟩);by_cases e:j=i
   ·subst e;exact hb.1 rfl
   ·exact h j (by omega)
 refine ifF (by simp;omega) ?_;have x:∀j,j<l.If.n->vS (l.If.g j):=fun j c=>h j (by omega);refine BP (fun i x1=>x1=(i:Int)/\∀j,j<i->V5 N (l.Out.g j) l.If.n=some true) l.Out.n _ (by omega) ⟨rfl,fun j c=>absurd c (by omega)⟩ ?_;rintro m k x2 hk ⟨rfl,h'⟩ o;by_cases f:k<l.Out.n
 ·obtain⟨b,eb,eb'⟩:=Xm (N:=N) (by omega) (hl.2.2.2.2 k f) (l.If.n:Int);refine ifT (by simp;omega) (ifT (by omega) (B1 (by rw[AS2];exact eb') ?_));cases b
  ·exact ifT rfl ⟨17,rfl,.inr ⟨rfl,fun h=>by have:=h.2.2.2.2.2.2.2.2.2 k f;rw[eb]at this;cases this⟩⟩
  ·refine ifF (by simp) (o f _ ⟨B8 (by omega),fun j c=>?_⟩);by_cases e:j=k
   ·subst e;exact eb
   ·exact h' j (by omega)
 ·exact ifF (by simp;omega) ⟨0,rfl,.inl ⟨rfl,e0',q.1 c2,r.1 c3,c4,c5,c6,c7,c8,x,fun j c=>h' j (by omega)⟩⟩
theorem TC {N:Nat}{l:Law}{e e' : Int}(h:AF9 N l e)(h' : AF9 N l e'):e=e':=by
 rcases h with⟨rfl,h⟩ | ⟨rfl,h⟩<;>rcases h' with⟨rfl,h'⟩ | ⟨rfl,h'⟩
 ·rfl
 ·exact absurd h h'
 ·exact absurd h' h
 ·rfl
theorem EY {N:Nat}(a:3000000<=N){l:Law}(hl:JA l):∃e,T8 N l=some e/\X9 N l=some e/\AF9 N l e:=by obtain⟨e,h,c⟩:=PO a hl;obtain⟨e',h',c'⟩:=YR a hl;obtain rfl:=TC c c';exact⟨_,h,h',c⟩
end Go.AM
namespace Go.AM
open Go.Proofs
def PE:Pat->Pat->Prop
 |.nil,q=>q.Kind=0/\q.Is=default/\q.Not=false/\q.Min=0/\q.Max=0/\q.L.n=0
 |.mk k is no mn mx n g,q=>q.Kind=k/\q.Is=is/\q.Not=no/\q.Min=mn/\q.Max=mx/\q.L.n=n/\∀i,i<n->PE (g i) (q.L.g i)
theorem PE_of {p q:Pat}:PE p q↔q.Kind=p.Kind/\q.Is=p.Is/\q.Not=p.Not/\q.Min=p.Min/\q.Max=p.Max/\q.L.n=p.L.n/\∀i,i<p.L.n->PE (p.L.g i) (q.L.g i):=by
 cases p with
 |nil=>exact⟨fun h=>⟨h.1,h.2.1,h.2.2.1,h.2.2.2.1,h.2.2.2.2.1,h.2.2.2.2.2,fun i a=>absurd a (AW0 i)⟩,fun h=>⟨h.1,h.2.1,h.2.2.1,h.2.2.2.1,h.2.2.2.2.1,h.2.2.2.2.2.1⟩⟩
 |mk k is no mn mx n g=>exact Bc3
theorem VW:∀p:Pat,PE p p
 |.nil=>⟨rfl,rfl,rfl,rfl,rfl,rfl⟩
 |.mk k is no mn mx n g=>⟨rfl,rfl,rfl,rfl,rfl,rfl,fun i _=>VW (g i)⟩
theorem VX:∀{p q:Pat},PE p q->PE q p
 |.nil,q,h=>PE_of.2 ⟨h.1.symm,h.2.1.symm,h.2.2.1.symm,h.2.2.2.1.symm,h.2.2.2.2.1.symm,h.2.2.2.2.2.symm,fun i a=>absurd a (by rw[h.2.2.2.2.2];exact AW0 i)⟩
 |.mk k is no mn mx n g,q,h=>PE_of.2 ⟨h.1.symm,h.2.1.symm,h.2.2.1.symm,h.2.2.2.1.symm,h.2.2.2.2.1.symm,h.2.2.2.2.2.1.symm,fun i a=>VX (h.2.2.2.2.2.2 i (by rw[<- h.2.2.2.2.2.1];exact a))⟩
theorem PP {n:Nat}{Q Q' : Nat->Nat->Nat->Prop}:∀{m:Nat},(∀i,i<m->Q i=Q' i)->YA n Q m=YA n Q' m
 |0,_=>rfl
 |m+1,h=>by funext a b;simp only[YA];rw[PP fun i c=>h i (by omega),h m (by omega)]
theorem AG0 {w:Sl Sound}:∀(d:Nat) {p q:Pat},okP d p->PE p q->PR w p=PR w q
 |0,p,q,h,_=>h.elim
 |d+1,p,q,h,e=>by
  obtain⟨e1,e2,e3,e4,e5,e6,e7⟩:=PE_of.1 e;have ih:∀i,i<p.L.n->PR w (p.L.g i)=PR w (q.L.g i):=fun i c=>AG0 d (h.2.2 i c) (e7 i c);funext a b;apply propext;rw[Lx,Lx,e1,e2,e3,e4,e5,e6];have j:YA w.n (fun i=>PR w (p.L.g i)) p.L.n=YA w.n (fun i=>PR w (q.L.g i)) p.L.n:=PP ih;have l:(∃i,i<p.L.n/\PR w (p.L.g i) a b) ↔ ∃i,i<p.L.n/\PR w (q.L.g i) a b:=⟨fun⟨i,c,g⟩=>⟨i,c,by rw[<- ih i c];exact g⟩,fun⟨i,c,g⟩=>⟨i,c,by rw[ih i c];exact g⟩⟩;rw[j,l];by_cases f:p.Kind=5
  ·have:=(h.2.1 f).1
   rw[ih 0 (by omega)]
  ·simp[f]
theorem Ar4 {p q:Pat}(e:PE p q):Ht p↔Ht q:=by obtain⟨e1,e2,e3,e4,e5,e6,_⟩:=PE_of.1 e;unfold Ht;rw[e1,e2,e3,e4,e5,e6]
def PEs:List Pat->List Pat->Prop
 |[],[]=>True
 |p::l,q::m=>PE p q/\PEs l m
 |_,_=>False
theorem Af2:∀{a b c d:List Pat},PEs a b->PEs c d->PEs (a++c) (b++d)
 |[],[],_,_,_,h=>h
 |_::_,_::_,_,_,⟨h1,h2⟩,h=>⟨h1,Af2 h2 h⟩
 |[],_::_,_,_,h,_=>h.elim
 |_::_,[],_,_,h,_=>h.elim
theorem TD {f g:Nat->Pat}:∀(l:List Nat),(∀i∈l,PE (f i) (g i))->PEs (l.map f) (l.map g)
 |[],_=>trivial
 |i::l,h=>⟨h i (by simp),TD l fun j a=>h j (by simp[a])⟩
theorem Ax0:∀(k:Nat) (l m:List Pat),PEs l m->(chk k l↔chk k m)
 |0,[],[],_=>Bc3
 |0,p::l,q::m,_=>⟨fun h=>(by cases h),fun h=>by cases h⟩
 |k+1,[],[],_=>Bc3
 |k+1,p::l,q::m,⟨h1,h2⟩=>by
  obtain⟨_,_,_,_,_,e6,e7⟩:=PE_of.1 h1;show Ht p/\chk k (p.L.toList++l)↔Ht q/\chk k (q.L.toList++m);rw[Ar4 h1,Ax0 k _ _ (Af2 (c:=l) (d:=m) (show PEs p.L.toList q.L.toList by unfold Sl.toList;rw[e6];exact TD _ fun i a=>e7 i (AX4.1 a)) h2)]
 |_,[],_::_,h=>h.elim
 |_,_::_,[],h=>h.elim
theorem Ko {p q:Pat}(h:PE p q):chk 40 [p]↔chk 40 [q]:=Ax0 40 [p] [q] ⟨h,trivial⟩
theorem okPS_of {p:Pat}:okPS p↔okS p.Is/\∀i,i<p.L.n->okPS (p.L.g i):=by
 cases p with
 |nil=>exact⟨fun _=>⟨⟨0#32,0#32,rfl⟩,fun i a=>absurd a (AW0 i)⟩,fun _=>trivial⟩
 |mk k is no mn mx n g=>exact Bc3
theorem NG:∀{p q:Pat},PE p q->okPS p->okPS q
 |.nil,q,h,_=>okPS_of.2 ⟨by rw[h.2.1];exact⟨0#32,0#32,rfl⟩,fun i a=>absurd a (by rw[h.2.2.2.2.2];exact AW0 i)⟩
 |.mk k is no mn mx n g,q,h,hp=>okPS_of.2 ⟨by rw[h.2.1];exact hp.1,fun i a=>by
  have a:i<n:=by rw[<- h.2.2.2.2.2.1];exact a
  exact NG (h.2.2.2.2.2.2 i a) (hp.2 i a)⟩
end Go.AM
