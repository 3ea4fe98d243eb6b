/- What a law's walk and its plain proof need, part 7: no condition of its own. -/
import Derived.Test.YtodhnkfgkgkngaaGreatDoorSF
import Derived.Test.YtodhnkfgkgkngaaGreatDoorSE
set_option linter.defProp false
set_option linter.unusedSimpArgs false
set_option linter.unusedVariables false
set_option linter.unusedSectionVars false
namespace Go.AM
open IntKind (wrap)
def AE4:=@BitVec.getLsbD_or
def AH6:=@BitVec.getLsbD_not
def AK6:=@Classical.axiomOfChoice
def AL0:=@List.reverse_append
def AM0:=@Bool.or_eq_false_iff
def AQ1:=@Bool.not_eq_true
def AQ2:=@List.mem_reverse
def AQ8:=@BitVec.getLsbD_zero
def AS1:=@List.mem_range'_1
def AT1:=@Nat.testBit_two_pow_mul
def AT2:=@List.filter_cons_of_pos
def AT3:=@List.filter_cons_of_neg
def AT8:=@Nat.testBit_lt_two_pow
def AT9:=@List.filter_eq_nil_iff
def AU0:=@List.reverse_singleton
def AU3:=@Bool.and_eq_false_iff
def AU4:=@List.singleton_append
def AU9:=@BitVec.getLsbD_of_ge
def AV4:=@Nat.div_eq_zero_iff
def AW2:=@Nat.lt_of_le_of_lt
def AW3:=@List.cons.inj
open Go.Proofs
set_option maxRecDepth 10000
set_option maxHeartbeats 2000000
variable {S:Ae}(hS:H0 S Tryz.prog) (hL:Nu S)
include hS hL
def P3 (N:Nat)(p_x:Ek):Option (A5×Bool):=
 S5 N (fun d (x1:Sl F0) (x2:Int)=>
  if ((decide (x2<=(p_x.Parents.n:Int)))&&(decide (x2<10))) then
   if (((0:Int)<=(wrap .i64 (x2-1))/\(wrap .i64 (x2-1))<(p_x.Parents.n:Int))/\x2≠0)then
    if ((x1.n+(Sl.of [(⟨(wrap .i64 (p_x.Parents.g (wrap .i64 (x2-1)).toNat)).tmod x2,[UInt8.ofNat (wrap .u8 (97+(wrap .u8 x2))).toNat]⟩:F0)]:Sl F0).n)*24<=140737488355328/\x1.n+(Sl.of [(⟨(wrap .i64 (p_x.Parents.g (wrap .i64 (x2-1)).toNat)).tmod x2,[UInt8.ofNat (wrap .u8 (97+(wrap .u8 x2))).toNat]⟩:F0)]:Sl F0).n<=140737488355328)then
     d (x1.push (⟨(wrap .i64 (p_x.Parents.g (wrap .i64 (x2-1)).toNat)).tmod x2,[UInt8.ofNat (wrap .u8 (97+(wrap .u8 x2))).toNat]⟩:F0)) (wrap .i64 (x2+1))
    else none
   else none
  else
   S5 N (fun f (x4:Sl Law) (x5:Int)=>
    if ((decide (x5<(p_x.Laws.n:Int)))&&(decide (x5<6))) then
     if ((0:Int)<=x5/\x5<(p_x.Laws.n:Int))then
      (CC N (⟨[UInt8.ofNat (wrap .u8 (65+(wrap .u8 x5))).toNat],(p_x.Laws.g x5.toNat).Left,(p_x.Laws.g x5.toNat).Right,(p_x.Laws.g x5.toNat).If,(p_x.Laws.g x5.toNat).Out,(p_x.Laws.g x5.toNat).Mode⟩:Law)).bind fun y7=>
      lt (fun (z3:Bool)=>
       if z3 then
        some ((⟨(Sl.nil:Sl F0),(Sl.nil:Sl Law),(Sl.nil:Sl (Sl Int))⟩:A5),false)
       else
        if ((x4.n+(Sl.of [(⟨[UInt8.ofNat (wrap .u8 (65+(wrap .u8 x5))).toNat],(p_x.Laws.g x5.toNat).Left,(p_x.Laws.g x5.toNat).Right,(p_x.Laws.g x5.toNat).If,(p_x.Laws.g x5.toNat).Out,(p_x.Laws.g x5.toNat).Mode⟩:Law)]:Sl Law).n)*200<=140737488355328/\x4.n+(Sl.of [(⟨[UInt8.ofNat (wrap .u8 (65+(wrap .u8 x5))).toNat],(p_x.Laws.g x5.toNat).Left,(p_x.Laws.g x5.toNat).Right,(p_x.Laws.g x5.toNat).If,(p_x.Laws.g x5.toNat).Out,(p_x.Laws.g x5.toNat).Mode⟩:Law)]:Sl Law).n<=140737488355328)then
         f (x4.push (⟨[UInt8.ofNat (wrap .u8 (65+(wrap .u8 x5))).toNat],(p_x.Laws.g x5.toNat).Left,(p_x.Laws.g x5.toNat).Right,(p_x.Laws.g x5.toNat).If,(p_x.Laws.g x5.toNat).Out,(p_x.Laws.g x5.toNat).Mode⟩:Law)) (wrap .i64 (x5+1))
        else none
       ) fun k3=>
       if (!y7) then
        k3 true
       else
        (S3 N (⟨[UInt8.ofNat (wrap .u8 (65+(wrap .u8 x5))).toNat],(p_x.Laws.g x5.toNat).Left,(p_x.Laws.g x5.toNat).Right,(p_x.Laws.g x5.toNat).If,(p_x.Laws.g x5.toNat).Out,(p_x.Laws.g x5.toNat).Mode⟩:Law)).bind fun y9=>
        k3 (y9 != 0)
     else none
    else
     S5 N (fun i (c:Sl (Sl Int)) (j:Int)=>
      if (decide (j<(x1.n:Int))) then
       (BF N p_x.On j).bind fun m=>
       S5 N (fun l (a:Sl Int) (b:Int)=>
        if (wrap .i64 ((x4.n:Int)+1))≠0 then
         if (((b.tmod (wrap .i64 ((x4.n:Int)+1))) != 0)&&(decide ((a.n:Int)<5))) then
          if (((wrap .i64 ((x4.n:Int)+1))≠0/\((a.n+(Sl.of [wrap .i64 ((b.tmod (wrap .i64 ((x4.n:Int)+1)))-1)]:Sl Int).n)*8<=140737488355328/\a.n+(Sl.of [wrap .i64 ((b.tmod (wrap .i64 ((x4.n:Int)+1)))-1)]:Sl Int).n<=140737488355328))/\(wrap .i64 ((x4.n:Int)+1))≠0)then
           l (a.push (wrap .i64 ((b.tmod (wrap .i64 ((x4.n:Int)+1)))-1))) (wrap .i64 (b.tdiv (wrap .i64 ((x4.n:Int)+1))))
          else none
         else
          if ((c.n+(Sl.of [a]:Sl (Sl Int)).n)*24<=140737488355328/\c.n+(Sl.of [a]:Sl (Sl Int)).n<=140737488355328)then
           i (c.push a) (wrap .i64 (j+1))
          else none
        else none
        ) (Sl.nil:Sl Int) m
      else
       some ((⟨x1,x4,c⟩:A5),true)
      ) (Sl.nil:Sl (Sl Int)) 0
    ) (Sl.nil:Sl Law) 0
  ) (Sl.of [(⟨-1,[114]⟩:F0)]:Sl F0) 1
theorem ES {N:Nat}{p_x:Ek}{y:A5×Bool}(h:P3 N p_x=some y) :FunO S EJ [.p (.agg (Y0 p_x))] [] (.tup [.p (.agg (A4 y.1)),pB y.2]) ([]) []:=by
 unfold P3 at h;refine A6 hS Tryz.func29 ?_;refine N5 hS trivial 2 2000 (Y0 p_x) ?_;refine I5 hS (rfl:true=true) h (fun x1 x2=>⟨[(5,pN x2),(4,.reg 5000 0),(2,.reg 3000 0),(1,.p (.ptr (Y0 p_x)))],[(5500,.vec I2 2 x1.n (fun i=>C6 (x1.g i)) false),(5000,.cells [.vec 5500,.p F1,.p F1]),(3000,.cells [.p F1,.p F1,.p F1])]⟩) (ids:=[(3000,3000),(5000,5000),(5500,13000)]) (fun _ _ _ _ _ o x1 x2 q h=>?_) (hle:=klR [(2,.fn 1 (Sl.of [(⟨-1,[114]⟩:F0)]:Sl F0).n (E8 [pI .i64 0,.str []] [(0,C6 (⟨-1,[114]⟩:F0))]) (fun i=>C6 ((Sl.of [(⟨-1,[114]⟩:F0)]:Sl F0).g i)))] (al1 ⟨rfl,(fun i j=>match i,j with|0,_=>rfl|_+1,j=>absurd j (by omega))⟩ al0));refine kB hS (A8 hS) trivial trivial 3 (.n (.a (decide (x2<=(p_x.Parents.n:Int)))) (.a (decide (x2<10)))) ?_;refine kI hS h ?_ ?_<;>intro h
 ·refine J4 hS trivial [3,6,7] ?_;obtain⟨c8,h⟩:=G4 h;refine Dc c8 (x:=.sl true 1 1 (E8 [pI .u8 0] [(0,cI .u8 (wrap .u8 (97+(wrap .u8 x2))))])) ?_;refine Dc ((fun i j=>match i,j with|0,_=>rfl|_+1,j=>absurd j (by omega)):∀i:Nat,i<1->(ED (E8 [pI .u8 0] [(0,cI .u8 (wrap .u8 (97+(wrap .u8 x2))))] i)).isSome=true) (x:=.sl true 2 1 (E8 [pI .i64 0,.str []] [(0,C6 (⟨(wrap .i64 (p_x.Parents.g (wrap .i64 (x2-1)).toNat)).tmod x2,[UInt8.ofNat (wrap .u8 (97+(wrap .u8 x2))).toNat]⟩:F0))])) ?_;obtain⟨c9,h⟩:=G4 h;refine O1 c9 ?_;exact q _ [(3000,3000),(5000,5000),(5500,44000)] _ (x1.push (⟨(wrap .i64 (p_x.Parents.g (wrap .i64 (x2-1)).toNat)).tmod x2,[UInt8.ofNat (wrap .u8 (97+(wrap .u8 x2))).toNat]⟩:F0)) (wrap .i64 (x2+1)) trivial h (hle:=klR [(2,.fn (x1.n+1) (x1.push (⟨(wrap .i64 (p_x.Parents.g (wrap .i64 (x2-1)).toNat)).tmod x2,[UInt8.ofNat (wrap .u8 (97+(wrap .u8 x2))).toNat]⟩:F0)).n (Aq x1.n (fun i=>C6 (x1.g i)) (E8 [pI .i64 0,.str []] [(0,C6 (⟨(wrap .i64 (p_x.Parents.g (wrap .i64 (x2-1)).toNat)).tmod x2,[UInt8.ofNat (wrap .u8 (97+(wrap .u8 x2))).toNat]⟩:F0))])) (fun i=>C6 ((x1.push (⟨(wrap .i64 (p_x.Parents.g (wrap .i64 (x2-1)).toNat)).tmod x2,[UInt8.ofNat (wrap .u8 (97+(wrap .u8 x2))).toNat]⟩:F0)).g i)))] (al1 ⟨rfl,LY (c:=C6) (v:=x1) (x:=(⟨(wrap .i64 (p_x.Parents.g (wrap .i64 (x2-1)).toNat)).tmod x2,[UInt8.ofNat (wrap .u8 (97+(wrap .u8 x2))).toNat]⟩:F0)) (z:=[(pI .i64 0),.str []]) same rfl rfl⟩ al0))
 ·refine I5 hS trivial h (fun x4 x5=>⟨[(6,pN x5),(4,.reg 5000 0),(2,.reg 3000 0),(1,.p (.ptr (Y0 p_x)))],[(5501,.vec R6 18 x4.n (fun i=>B2 (x4.g i)) false),(5500,.vec I2 2 x1.n (fun i=>C6 (x1.g i)) false),(5000,.cells [.vec 5500,.vec 5501,.p F1]),(3000,.cells [.p F1,.p F1,.p F1])]⟩) (ids:=[(3000,3000),(5000,5000),(5500,5500)]) (fun _ _ _ _ _ r x4 x5 s h=>?_);refine kB hS (A8 hS) trivial trivial 3 (.n (.a (decide (x5<(p_x.Laws.n:Int)))) (.a (decide (x5<6)))) ?_;refine kI hS h ?_ ?_<;>intro h
  ·obtain⟨c23,h⟩:=G4 h;obtain⟨y7,e7,h⟩:=C4 h;refine C0 hS [] (And.intro (And.intro (And.intro c23 (by decide:(18:Nat)<=18)) (rfl:true=true)) ((fun i j=>match i,j with|0,_=>rfl|_+1,j=>absurd j (by omega)):∀i:Nat,i<1->(ED (E8 [pI .u8 0] [(0,cI .u8 (wrap .u8 (65+(wrap .u8 x5))))] i)).isSome=true)) (Tj hS hL e7) ?_;refine Jx hS trivial (A8 hS) h 0 (fun z3=>⟨[(74,pB z3),(7,.reg 8000 0),(6,pN x5),(4,.reg 5000 0),(2,.reg 3000 0),(1,.p (.ptr (Y0 p_x)))],[(8000,.cells [.p (.str [UInt8.ofNat (wrap .u8 (65+(wrap .u8 x5))).toNat]),pN (p_x.Laws.g x5.toNat).Left.Kind,pU (p_x.Laws.g x5.toNat).Left.Is.Plus,pU (p_x.Laws.g x5.toNat).Left.Is.Minus,pB (p_x.Laws.g x5.toNat).Left.Not,pN (p_x.Laws.g x5.toNat).Left.Min,pN (p_x.Laws.g x5.toNat).Left.Max,.p (.sl false 7 (p_x.Laws.g x5.toNat).Left.L.n (Co (p_x.Laws.g x5.toNat).Left)),pN (p_x.Laws.g x5.toNat).Right.Kind,pU (p_x.Laws.g x5.toNat).Right.Is.Plus,pU (p_x.Laws.g x5.toNat).Right.Is.Minus,pB (p_x.Laws.g x5.toNat).Right.Not,pN (p_x.Laws.g x5.toNat).Right.Min,pN (p_x.Laws.g x5.toNat).Right.Max,.p (.sl false 7 (p_x.Laws.g x5.toNat).Right.L.n (Co (p_x.Laws.g x5.toNat).Right)),.p (vSl 2 A0 (p_x.Laws.g x5.toNat).If),.p (vSl 6 Q9 (p_x.Laws.g x5.toNat).Out),pN (p_x.Laws.g x5.toNat).Mode]),(5501,.vec R6 18 x4.n (fun i=>B2 (x4.g i)) false),(5500,.vec I2 2 x1.n (fun i=>C6 (x1.g i)) false),(5000,.cells [.vec 5500,.vec 5501,.p F1]),(3000,.cells [.p F1,.p F1,.p F1])]⟩) (fun M3 k3 m h=>?_) (fun z3 h=>?_)
   ·refine kG hS h (fun h=>?_) (fun h=>?_)
    ·exact m _ [(3000,3000),(5000,5000),(5500,5500),(5501,5501),(8000,8000)] _ true trivial h
    ·refine kC hS h (Eu hS hL) (fun y9 h=>?_);exact m _ [(3000,3000),(5000,5000),(5500,5500),(5501,5501),(8000,8000)] _ (y9 != 0) trivial h
   ·refine kI hS h ?_ ?_<;>intro h
    ·obtain rfl:=D1 h;exact B1 hS trivial ⟨[(3,pB false),(2,.reg 3000 0)],[(3000,.cells [.p (vSl 2 C6 (Sl.nil:Sl F0)),.p (vSl 18 B2 (Sl.nil:Sl Law)),.p (vSl 1 (cL 1 (cI .i64)) (Sl.nil:Sl (Sl Int)))])]⟩ [] (ids:=[(3000,3000)]) ⟨rfl,rfl,rfl⟩
    ·obtain⟨c28,h⟩:=G4 h;exact s _ [(3000,3000),(5000,5000),(5500,5500),(5501,81000)] _ (x4.push (⟨[UInt8.ofNat (wrap .u8 (65+(wrap .u8 x5))).toNat],(p_x.Laws.g x5.toNat).Left,(p_x.Laws.g x5.toNat).Right,(p_x.Laws.g x5.toNat).If,(p_x.Laws.g x5.toNat).Out,(p_x.Laws.g x5.toNat).Mode⟩:Law)) (wrap .i64 (x5+1)) (And.intro (rfl:true=true) c28) h (hle:=klR [(2,.fn (x4.n+1) (x4.push (⟨[UInt8.ofNat (wrap .u8 (65+(wrap .u8 x5))).toNat],(p_x.Laws.g x5.toNat).Left,(p_x.Laws.g x5.toNat).Right,(p_x.Laws.g x5.toNat).If,(p_x.Laws.g x5.toNat).Out,(p_x.Laws.g x5.toNat).Mode⟩:Law)).n (Aq x4.n (fun i=>B2 (x4.g i)) (E8 [.str [],pI .i64 0,pI .u32 0,pI .u32 0,.v (.bool false),pI .i64 0,pI .i64 0,F1,pI .i64 0,pI .u32 0,pI .u32 0,.v (.bool false),pI .i64 0,pI .i64 0,F1,F1,F1,pI .i64 0] [(0,B2 (⟨[UInt8.ofNat (wrap .u8 (65+(wrap .u8 x5))).toNat],(p_x.Laws.g x5.toNat).Left,(p_x.Laws.g x5.toNat).Right,(p_x.Laws.g x5.toNat).If,(p_x.Laws.g x5.toNat).Out,(p_x.Laws.g x5.toNat).Mode⟩:Law))])) (fun i=>B2 ((x4.push (⟨[UInt8.ofNat (wrap .u8 (65+(wrap .u8 x5))).toNat],(p_x.Laws.g x5.toNat).Left,(p_x.Laws.g x5.toNat).Right,(p_x.Laws.g x5.toNat).If,(p_x.Laws.g x5.toNat).Out,(p_x.Laws.g x5.toNat).Mode⟩:Law)).g i)))] (al1 ⟨rfl,LY (c:=B2) (v:=x4) (x:=(⟨[UInt8.ofNat (wrap .u8 (65+(wrap .u8 x5))).toNat],(p_x.Laws.g x5.toNat).Left,(p_x.Laws.g x5.toNat).Right,(p_x.Laws.g x5.toNat).If,(p_x.Laws.g x5.toNat).Out,(p_x.Laws.g x5.toNat).Mode⟩:Law)) (z:=[(.str []),pI .i64 0,pI .u32 0,pI .u32 0,.v (.bool false),pI .i64 0,pI .i64 0,F1,pI .i64 0,pI .u32 0,pI .u32 0,.v (.bool false),pI .i64 0,pI .i64 0,F1,F1,F1,pI .i64 0]) same rfl rfl⟩ al0))
  ·refine I5 hS trivial h (fun d l=>⟨[(8,pN l),(4,.reg 5000 0),(2,.reg 3000 0),(1,.p (.ptr (Y0 p_x)))],[(5502,.vec CR 1 d.n (fun i=>cL 1 (cI .i64) (d.g i)) false),(5501,.vec R6 18 x4.n (fun i=>B2 (x4.g i)) false),(5500,.vec I2 2 x1.n (fun i=>C6 (x1.g i)) false),(5000,.cells [.vec 5500,.vec 5501,.vec 5502]),(3000,.cells [.p F1,.p F1,.p F1])]⟩) (ids:=[(3000,3000),(5000,5000),(5500,5500),(5501,5501)]) (fun _ _ _ _ _ t d l u h=>?_);refine kI hS h ?_ ?_<;>intro h
   ·refine kC hS h (Rf hS hL) (fun a1 h=>?_);refine I5 hS trivial h (fun b f=>⟨[(10,pN f),(9,.vec 10500),(8,pN l),(4,.reg 5000 0),(2,.reg 3000 0),(1,.p (.ptr (Y0 p_x)))],[(10500,.vec C8 1 b.n (fun i=>cI .i64 (b.g i)) false),(5502,.vec CR 1 d.n (fun i=>cL 1 (cI .i64) (d.g i)) false),(5501,.vec R6 18 x4.n (fun i=>B2 (x4.g i)) false),(5500,.vec I2 2 x1.n (fun i=>C6 (x1.g i)) false),(5000,.cells [.vec 5500,.vec 5501,.vec 5502]),(3000,.cells [.p F1,.p F1,.p F1])]⟩) (ids:=[(3000,3000),(5000,5000),(5500,5500),(5501,5501),(5502,5502)]) (fun _ _ _ _ _ w b f a0 h=>?_);obtain⟨c50,h⟩:=G4 h;refine kB hS (A8 hS) c50 trivial 4 (.n (.a ((f.tmod (wrap .i64 ((x4.n:Int)+1))) != 0)) (.a (decide ((b.n:Int)<5)))) ?_;refine kI hS h ?_ ?_<;>intro h
    ·obtain⟨c52,h⟩:=G4 h;exact a0 _ [(3000,3000),(5000,5000),(5500,5500),(5501,5501),(5502,5502),(10500,121000)] _ (b.push (wrap .i64 ((f.tmod (wrap .i64 ((x4.n:Int)+1)))-1))) (wrap .i64 (f.tdiv (wrap .i64 ((x4.n:Int)+1)))) (And.intro (And.intro (And.intro c52.1.1 (rfl:true=true)) c52.1.2) c52.2) h (hle:=klR [(3,.fn (b.n+1) (b.push (wrap .i64 ((f.tmod (wrap .i64 ((x4.n:Int)+1)))-1))).n (Aq b.n (fun i=>cI .i64 (b.g i)) (E8 [pI .i64 0] [(0,cI .i64 (wrap .i64 ((f.tmod (wrap .i64 ((x4.n:Int)+1)))-1)))])) (fun i=>cI .i64 ((b.push (wrap .i64 ((f.tmod (wrap .i64 ((x4.n:Int)+1)))-1))).g i)))] (al1 ⟨rfl,LY (c:=cI .i64) (v:=b) (x:=wrap .i64 ((f.tmod (wrap .i64 ((x4.n:Int)+1)))-1)) (z:=[(pI .i64 0)]) same rfl rfl⟩ al0))
    ·obtain⟨c53,h⟩:=G4 h;exact u _ [(3000,3000),(5000,5000),(5500,5500),(5501,5501),(5502,126000)] _ (d.push b) (wrap .i64 (l+1)) (And.intro (rfl:true=true) c53) h (hle:=klR [(2,.fn (d.n+1) (d.push b).n (Aq d.n (fun i=>cL 1 (cI .i64) (d.g i)) (E8 [F1] [(0,cL 1 (cI .i64) b)])) (fun i=>cL 1 (cI .i64) ((d.push b).g i)))] (al1 ⟨rfl,LY (c:=cL 1 (cI .i64)) (v:=d) (x:=b) (z:=[F1]) same rfl rfl⟩ al0))
   ·obtain rfl:=D1 h;exact B1 hS trivial ⟨[(3,pB true),(2,.reg 3000 0)],[(3000,.cells [.p (vSl 2 C6 x1),.p (vSl 18 B2 x4),.p (vSl 1 (cL 1 (cI .i64)) d)])]⟩ [] (ids:=[(3000,3000)]) ⟨rfl,rfl,rfl⟩
def T9 (N:Nat)(p_x:Ek)(c:Sl Sound):Option Bool:=
 (P3 N p_x).bind fun y1=>
 if ((!y1.2)||(decide (50<(c.n:Int)))) then
  (Q4 N ).bind fun y2=>
  some y2
 else
  (D0 N y1.1).bind fun y3=>
  if (y3 != 0) then
   some false
  else
   (O7 N y1.1 c).bind fun y4=>
   (I3 N y1.1 c).bind fun y5=>
   (F4 N y1.1.Tree).bind fun y6=>
   if ((y4.2 != y5.2)||(y6.2 != 0)) then
    some false
   else
    if (y4.2 != 0) then
     lt (fun (z1:Bool)=>
      some z1
      ) fun k1=>
      if ((wrap .i64 ((y4.1.n:Int)+(y5.1.n:Int)))==0) then
       (Q4 N ).bind fun y8=>
       k1 y8
      else
       k1 false
    else
     if (((y4.1.n:Int) != (y1.1.Tree.n:Int))||((y5.1.n:Int) != (y6.1.n:Int))) then
      some false
     else
      R9 N (fun d (x5:Int)=>
       if (decide (x5<(y1.1.Tree.n:Int))) then
        if ((0:Int)<=x5/\x5<(y1.1.Tree.n:Int))then
         if ((decide (0<=(y1.1.Tree.g x5.toNat).Parent))=true->(((0:Int)<=(y1.1.Tree.g x5.toNat).Parent/\(y1.1.Tree.g x5.toNat).Parent<(y4.1.n:Int))/\(y1.1.Tree.g x5.toNat).Parent.toNat<y4.1.n))then
          if ((0:Int)<=x5/\x5<(y1.1.On.n:Int))then
           S5 N (fun f (x9:Sl Law) (b:Int)=>
            if (decide (b<((y1.1.On.g x5.toNat).n:Int))) then
             if ((((0:Int)<=b/\b<((y1.1.On.g x5.toNat).n:Int))/\((0:Int)<=((y1.1.On.g x5.toNat).g b.toNat)/\((y1.1.On.g x5.toNat).g b.toNat)<(y1.1.Laws.n:Int)))/\((x9.n+(Sl.of [y1.1.Laws.g ((y1.1.On.g x5.toNat).g b.toNat).toNat]:Sl Law).n)*200<=140737488355328/\x9.n+(Sl.of [y1.1.Laws.g ((y1.1.On.g x5.toNat).g b.toNat).toNat]:Sl Law).n<=140737488355328))then
              f (x9.push (y1.1.Laws.g ((y1.1.On.g x5.toNat).g b.toNat).toNat)) (wrap .i64 (b+1))
             else none
            else
             (F7 N x9 (if (decide (0<=(y1.1.Tree.g x5.toNat).Parent)) then (y4.1.g (y1.1.Tree.g x5.toNat).Parent.toNat)else c)).bind fun i=>
             (N9 N y1.1 c x5).bind fun l=>
             lt (fun (z4:Bool)=>
              if z4 then
               some false
              else
               d (wrap .i64 (x5+1))
              ) fun k4=>
              if (i.2 != 0) then
               k4 true
              else
               if (l.2 != 0) then
                k4 true
               else
                if (((0:Int)<=x5/\x5<(y4.1.n:Int))/\x5.toNat<y4.1.n)then
                 (Q0 N (y4.1.g x5.toNat) i.1).bind fun m=>
                 if (!m) then
                  k4 true
                 else
                  (Q0 N l.1 i.1).bind fun o=>
                  k4 (!o)
                else none
            ) (Sl.nil:Sl Law) 0
          else none
         else none
        else none
       else
        R9 N (fun j (a:Int)=>
         if (decide (a<(y6.1.n:Int))) then
          if (((0:Int)<=a/\a<(y6.1.n:Int))/\a.toNat<y6.1.n)then
           if (decide ((y6.1.g a.toNat)<0)) then
            some false
           else
            if (((0:Int)<=a/\a<(y6.1.n:Int))/\a.toNat<y6.1.n)then
             if (decide ((y4.1.n:Int)<=(y6.1.g a.toNat))) then
              some false
             else
              if (((((((0:Int)<=a/\a<(y5.1.n:Int))/\a.toNat<y5.1.n)/\((0:Int)<=a/\a<(y6.1.n:Int)))/\a.toNat<y6.1.n)/\((0:Int)<=(y6.1.g a.toNat)/\(y6.1.g a.toNat)<(y4.1.n:Int)))/\(y6.1.g a.toNat).toNat<y4.1.n)then
               (Q0 N (y5.1.g a.toNat) (y4.1.g (y6.1.g a.toNat).toNat)).bind fun q=>
               if (!q) then
                some false
               else
                j (wrap .i64 (a+1))
              else none
            else none
          else none
         else
          (Q4 N ).bind fun r=>
          some r
         ) 0
       ) 0
theorem GY {N:Nat}{p_x:Ek}{d:Sl Sound}{y:Bool}(h:T9 N p_x d=some y) :FunO S AC [.p (.agg (Y0 p_x)),.p (vSl 2 A0 d)] [] (pB y) ([]) []:=by
 unfold T9 at h;refine A6 hS Tryz.func6 ?_;refine N5 hS trivial 4 3000 (Y0 p_x) ?_;obtain⟨y1,e1,h⟩:=C4 h;refine C0 hS [] (by decide:(3:Nat)<=3) (ES hS hL e1) ?_;refine N5 hS trivial 6 6000 (A4 y1.1) ?_;refine kB hS (A8 hS) trivial trivial 4 (.o (.a (!y1.2)) (.a (decide (50<(d.n:Int))))) ?_;refine kI hS h ?_ ?_<;>intro h
 ·refine kC hS h (CD hS hL) (fun y2 h=>?_);cases h;exact kR hS
 ·obtain⟨y3,e3,h⟩:=C4 h;refine C0 hS [] (by decide:(3:Nat)<=3) (O5 hS hL e3) ?_;refine kI hS h ?_ ?_<;>intro h
  ·cases h;exact kR hS
  ·obtain⟨y4,e4,h⟩:=C4 h;refine C0 hS [] (by decide:(3:Nat)<=3) (FC hS hL e4) ?_;obtain⟨y5,e5,h⟩:=C4 h;refine C0 hS [] (by decide:(3:Nat)<=3) (ER hS hL e5) ?_;refine kC hS h (BW hS hL) (fun y6 h=>?_);refine kB hS (A8 hS) trivial trivial 3 (.o (.a (y4.2 != y5.2)) (.a (y6.2 != 0))) ?_;refine kI hS h ?_ ?_<;>intro h
   ·cases h;exact kR hS
   ·refine kI hS h ?_ ?_<;>intro h
    ·refine Jx hS trivial (A8 hS) h 0 (fun z1=>⟨[(4,pB z1)],[]⟩) (fun M1 k1 q h=>?_) (fun z1 h=>?_)
     ·refine kG hS h (fun h=>?_) (fun h=>?_)
      ·refine kC hS h (CD hS hL) (fun y8 h=>?_);exact q _ [] _ y8 trivial h
      ·exact q _ [] _ false trivial h
     ·cases h;exact kR hS
    ·refine kB hS (A8 hS) trivial trivial 6 (.o (.a ((y4.1.n:Int) != (y1.1.Tree.n:Int))) (.a ((y5.1.n:Int) != (y6.1.n:Int)))) ?_;refine kI hS h ?_ ?_<;>intro h
     ·cases h;exact kR hS
     ·refine Au hS trivial h (fun x5=>⟨[(14,pN x5),(12,.vec 58000),(10,.vec 52000),(8,.vec 46000),(5,.p (.ptr (A4 y1.1))),(1,.p (vSl 2 A0 d))],[(58000,.vec C8 1 y6.1.n (fun i=>cI .i64 (y6.1.g i)) true),(52000,.vec A7 1 y5.1.n (fun i=>cL 2 A0 (y5.1.g i)) true),(46000,.vec A7 1 y4.1.n (fun i=>cL 2 A0 (y4.1.g i)) true)]⟩) (ids:=[(46000,46000),(52000,52000),(58000,58000)]) (fun _ _ _ _ _ u x5 w h=>?_);refine kI hS h ?_ ?_<;>intro h
      ·obtain⟨c52,h⟩:=G4 h;obtain⟨c54,h⟩:=G4 h;obtain⟨t3,m⟩:∃x:Sl Sound,x=(if (decide (0<=(y1.1.Tree.g x5.toNat).Parent)) then (y4.1.g (y1.1.Tree.g x5.toNat).Parent.toNat)else d):=⟨_,rfl⟩;refine Qt hS c52 (A8 hS) 0 ⟨[(15,.p (vSl 2 A0 t3)),(14,pN x5),(12,.vec 58000),(10,.vec 52000),(8,.vec 46000),(5,.p (.ptr (A4 y1.1))),(1,.p (vSl 2 A0 d))],[(58000,.vec C8 1 y6.1.n (fun i=>cI .i64 (y6.1.g i)) true),(52000,.vec A7 1 y5.1.n (fun i=>cL 2 A0 (y5.1.g i)) true),(46000,.vec A7 1 y4.1.n (fun i=>cL 2 A0 (y4.1.g i)) true)]⟩ (fun M6 r=>?_) ?_
       ·refine E5 hS trivial (b:=decide (0<=(y1.1.Tree.g x5.toNat).Parent)) (fun c55=>?_) (fun c55=>?_)
        ·exact r _ [(46000,46000),(52000,52000),(58000,58000)] _ (c54 c55) (hle:=klR [(0,.fn (y4.1.g (y1.1.Tree.g x5.toNat).Parent.toNat).n t3.n (fun i=>A0 ((y4.1.g (y1.1.Tree.g x5.toNat).Parent.toNat).g i)) (fun i=>A0 (t3.g i)))] (al1 (by have e:=m;simp only[c55,pm,if_true,if_false]at e;subst e;exact⟨rfl,fun _ _=>rfl⟩) al0))
        ·exact r _ [(46000,46000),(52000,52000),(58000,58000)] _ trivial (hle:=klR [(0,.fn d.n t3.n (fun i=>A0 (d.g i)) (fun i=>A0 (t3.g i)))] (al1 (by have e:=m;simp only[c55,pm,if_true,if_false]at e;subst e;exact⟨rfl,fun _ _=>rfl⟩) al0))
       ·subst m;obtain⟨c56,h⟩:=G4 h;refine I5 hS c56 h (fun x9 f=>⟨[(117,pN f),(116,pN ((y1.1.On.g x5.toNat).n:Int)),(115,.p (vSl 1 (cI .i64) (y1.1.On.g x5.toNat))),(17,.vec 18500),(15,.p (vSl 2 A0 (if (decide (0<=(y1.1.Tree.g x5.toNat).Parent)) then (y4.1.g (y1.1.Tree.g x5.toNat).Parent.toNat)else d))),(14,pN x5),(12,.vec 58000),(10,.vec 52000),(8,.vec 46000),(5,.p (.ptr (A4 y1.1))),(1,.p (vSl 2 A0 d))],[(58000,.vec C8 1 y6.1.n (fun i=>cI .i64 (y6.1.g i)) true),(52000,.vec A7 1 y5.1.n (fun i=>cL 2 A0 (y5.1.g i)) true),(46000,.vec A7 1 y4.1.n (fun i=>cL 2 A0 (y4.1.g i)) true),(18500,.vec R6 18 x9.n (fun i=>B2 (x9.g i)) false)]⟩) (ids:=[(46000,46000),(52000,52000),(58000,58000)]) (fun _ _ _ _ _ a0 x9 f s h=>?_);refine kI hS h ?_ ?_<;>intro h
        ·obtain⟨c60,h⟩:=G4 h;exact s _ [(18500,129000),(46000,46000),(52000,52000),(58000,58000)] _ (x9.push (y1.1.Laws.g ((y1.1.On.g x5.toNat).g f.toNat).toNat)) (wrap .i64 (f+1)) (And.intro (And.intro (And.intro (And.intro c60.1.1 c60.1.2) (by decide:(18:Nat)<=18)) (rfl:true=true)) c60.2) h (hle:=klR [(10,.fn (x9.n+1) (x9.push (y1.1.Laws.g ((y1.1.On.g x5.toNat).g f.toNat).toNat)).n (Aq x9.n (fun i=>B2 (x9.g i)) (E8 [.str [],pI .i64 0,pI .u32 0,pI .u32 0,.v (.bool false),pI .i64 0,pI .i64 0,F1,pI .i64 0,pI .u32 0,pI .u32 0,.v (.bool false),pI .i64 0,pI .i64 0,F1,F1,F1,pI .i64 0] [(0,B2 (y1.1.Laws.g ((y1.1.On.g x5.toNat).g f.toNat).toNat))])) (fun i=>B2 ((x9.push (y1.1.Laws.g ((y1.1.On.g x5.toNat).g f.toNat).toNat)).g i)))] (al1 ⟨rfl,LY (c:=B2) (v:=x9) (x:=y1.1.Laws.g ((y1.1.On.g x5.toNat).g f.toNat).toNat) (z:=[(.str []),pI .i64 0,pI .u32 0,pI .u32 0,.v (.bool false),pI .i64 0,pI .i64 0,F1,pI .i64 0,pI .u32 0,pI .u32 0,.v (.bool false),pI .i64 0,pI .i64 0,F1,F1,F1,pI .i64 0]) same rfl rfl⟩ al0))
        ·refine kC hS h (Cz hS hL) (fun a3 h=>?_);obtain⟨a4,e22,h⟩:=C4 h;refine C0 hS [] (by decide:(3:Nat)<=3) (CW hS hL e22) ?_;refine Jx hS trivial (A8 hS) h 0 (fun z4=>⟨[(163,pB z4),(14,pN x5),(12,.vec 58000),(10,.vec 52000),(8,.vec 46000),(5,.p (.ptr (A4 y1.1))),(1,.p (vSl 2 A0 d))],[(58000,.vec C8 1 y6.1.n (fun i=>cI .i64 (y6.1.g i)) true),(52000,.vec A7 1 y5.1.n (fun i=>cL 2 A0 (y5.1.g i)) true),(46000,.vec A7 1 y4.1.n (fun i=>cL 2 A0 (y4.1.g i)) true)]⟩) (fun M7 k4 j h=>?_) (fun z4 h=>?_)
         ·refine kG hS h (fun h=>?_) (fun h=>?_)
          ·exact j _ [(46000,46000),(52000,52000),(58000,58000)] _ true trivial h
          ·refine kG hS h (fun h=>?_) (fun h=>?_)
           ·exact j _ [(46000,46000),(52000,52000),(58000,58000)] _ true trivial h
           ·obtain⟨c69,h⟩:=G4 h;obtain⟨a5,e25,h⟩:=C4 h;refine C0 hS [] c69 (Al hS hL e25) ?_;refine kG hS h (fun h=>?_) (fun h=>?_)
            ·exact j _ [(46000,46000),(52000,52000),(58000,58000)] _ true trivial h
            ·refine kC hS h (Al hS hL) (fun a1 h=>?_);exact j _ [(46000,46000),(52000,52000),(58000,58000)] _ (!a1) trivial h
         ·refine kI hS h ?_ ?_<;>intro h
          ·cases h;exact kR hS
          ·exact w _ [(46000,46000),(52000,52000),(58000,58000)] _ (wrap .i64 (x5+1)) trivial h
      ·refine Au hS trivial h (fun l=>⟨[(24,pN l),(12,.vec 58000),(10,.vec 52000),(8,.vec 46000)],[(58000,.vec C8 1 y6.1.n (fun i=>cI .i64 (y6.1.g i)) true),(52000,.vec A7 1 y5.1.n (fun i=>cL 2 A0 (y5.1.g i)) true),(46000,.vec A7 1 y4.1.n (fun i=>cL 2 A0 (y4.1.g i)) true)]⟩) (ids:=[(46000,46000),(52000,52000),(58000,58000)]) (fun _ _ _ _ _ a2 l t h=>?_);refine kI hS h ?_ ?_<;>intro h
       ·refine J4 hS trivial [26] ?_;obtain⟨c87,h⟩:=G4 h;refine KD c87 (b:=decide ((y6.1.g l.toNat)<0)) (fun c88=>?_) (fun c88=>?_)
        ·replace h:=itT c88 h;refine O1 trivial ?_;cases h;exact kR hS
        ·replace h:=itF c88 h;obtain⟨c89,h⟩:=G4 h;refine KD c89 (b:=decide ((y4.1.n:Int)<=(y6.1.g l.toNat))) (fun c90=>?_) (fun c90=>?_)
         ·replace h:=itT c90 h;refine O1 trivial ?_;cases h;exact kR hS
         ·replace h:=itF c90 h;obtain⟨c91,h⟩:=G4 h;obtain⟨a6,e29,h⟩:=C4 h;refine Bt c91 (Al hS hL e29) ?_;refine O1 trivial ?_;refine kI hS h ?_ ?_<;>intro h
          ·cases h;exact kR hS
          ·exact t _ [(46000,46000),(52000,52000),(58000,58000)] _ (wrap .i64 (l+1)) trivial h
       ·refine kC hS h (CD hS hL) (fun a7 h=>?_);cases h;exact kR hS
def S4 (N:Nat)(p_x:Ek)(i:Sl Sound)(c:Int):Option Bool:=
 (P3 N p_x).bind fun y1=>
 if (((!y1.2)||(decide (50<(i.n:Int))))||((y1.1.Laws.n:Int)==0)) then
  (Q4 N ).bind fun y2=>
  some y2
 else
  if (y1.1.Laws.n:Int)≠0 then
   (R8 N y1.1 ((wrap .i64 c).tmod (y1.1.Laws.n:Int))).bind fun y3=>
   if (y3.2 != 0) then
    some false
   else
    S5 N (fun j (x5:Int) (x6:Int)=>
     if (decide (x6<(y1.1.Tree.n:Int))) then
      (J5 N y1.1 x6).bind fun b=>
      (T3 N y1.1 x6).bind fun f=>
      if (((b.2 != 0)||(f.2 != 0))||((f.1.n:Int) != (b.1.n:Int))) then
       some false
      else
       S5 N (fun l (m:Bool) (a:Int)=>
        if (decide (a<(b.1.n:Int))) then
         if (((0:Int)<=a/\a<(b.1.n:Int))/\a.toNat<b.1.n)then
          if (decide ((b.1.g a.toNat)<0)) then
           some false
          else
           if (((0:Int)<=a/\a<(b.1.n:Int))/\a.toNat<b.1.n)then
            if (decide ((y1.1.Laws.n:Int)<=(b.1.g a.toNat))) then
             some false
            else
             if (((((0:Int)<=a/\a<(f.1.n:Int))/\((0:Int)<=a/\a<(b.1.n:Int)))/\a.toNat<b.1.n)/\((0:Int)<=(b.1.g a.toNat)/\(b.1.g a.toNat)<(y1.1.Laws.n:Int)))then
              if (((f.1.g a.toNat).Name==(y1.1.Laws.g (b.1.g a.toNat).toNat).Name) != true) then
               some false
              else
               if (m=false->(((0:Int)<=a/\a<(b.1.n:Int))/\a.toNat<b.1.n))then
                l (m||((b.1.g a.toNat)==((wrap .i64 c).tmod (y1.1.Laws.n:Int)))) (wrap .i64 (a+1))
               else none
             else none
           else none
         else none
        else
         if ((0:Int)<=x6/\x6<(y1.1.Tree.n:Int))then
          lt (fun (_:Unit)=>
           lt (fun (z8:Int)=>
            (N9 N y1.1 i x6).bind fun o=>
            lt (fun (z9:Bool)=>
             if z9 then
              some false
             else
              j z8 (wrap .i64 (x6+1))
             ) fun k9=>
             if (o.2==0) then
              (Q0 N o.1 i).bind fun q=>
              if (!q) then
               k9 ((b.1.n:Int)==0)
              else
               k9 false
             else
              k9 false
            ) fun k8=>
            if m then
             if ((decide ((y3.1.n:Int)<=x5))=false->(((0:Int)<=x5/\x5<(y3.1.n:Int))/\x5.toNat<y3.1.n))then
              if ((decide ((y3.1.n:Int)<=x5))||((y3.1.g x5.toNat) != x6)) then
               some false
              else
               k8 (wrap .i64 (x5+1))
             else none
            else
             k8 x5
           ) fun k7=>
           if (decide (0<=(y1.1.Tree.g x6.toNat).Parent)) then
            (J5 N y1.1 (y1.1.Tree.g x6.toNat).Parent).bind fun d=>
            if (d.2 != 0) then
             some false
            else
             if (((((Sl.of []:Sl Int).n+d.1.n)*8<=140737488355328/\(Sl.of []:Sl Int).n+d.1.n<=140737488355328)/\((0:Int)<=x6/\x6<(y1.1.On.n:Int)))/\((((Sl.of []:Sl Int).app d.1).n+(y1.1.On.g x6.toNat).n)*8<=140737488355328/\((Sl.of []:Sl Int).app d.1).n+(y1.1.On.g x6.toNat).n<=140737488355328))then
              (An N b.1 (((Sl.of []:Sl Int).app d.1).app (y1.1.On.g x6.toNat))).bind fun r=>
              if (!r) then
               some false
              else
               k7 ()
             else none
           else
            k7 ()
         else none
        ) false 0
     else
      lt (fun (s:Bool)=>
       some s
       ) fun k10=>
       if (x5==(y3.1.n:Int)) then
        (Q4 N ).bind fun t=>
        k10 t
       else
        k10 false
     ) 0 0
  else none
theorem Gy {N:Nat}{p_x:Ek}{j:Sl Sound}{d:Int}{y:Bool}(h:S4 N p_x j d=some y) :FunO S Ai [.p (.agg (Y0 p_x)),.p (vSl 2 A0 j),.p (pI .u8 d)] [] (pB y) ([]) []:=by
 unfold S4 at h;refine A6 hS Cd ?_;refine N5 hS trivial 6 4000 (Y0 p_x) ?_;obtain⟨y1,e1,h⟩:=C4 h;refine C0 hS [] (by decide:(3:Nat)<=3) (ES hS hL e1) ?_;refine N5 hS trivial 8 8000 (A4 y1.1) ?_;refine kB hS (A8 hS) trivial trivial 10 (.o (.o (.a (!y1.2)) (.a (decide (50<(j.n:Int))))) (.a ((y1.1.Laws.n:Int)==0))) ?_;refine kI hS h ?_ ?_<;>intro h
 ·refine kC hS h (CD hS hL) (fun y2 h=>?_);cases h;exact kR hS
 ·obtain⟨c2,h⟩:=G4 h;obtain⟨y3,e3,h⟩:=C4 h;refine C0 hS [] (And.intro c2 (by decide:(3:Nat)<=3)) (FB hS hL e3) ?_;refine kI hS h ?_ ?_<;>intro h
  ·cases h;exact kR hS
  ·refine I5 hS trivial h (fun x5 x6=>⟨[(13,pN x6),(12,pN x5),(10,.vec 54000),(9,pN ((wrap .i64 d).tmod (y1.1.Laws.n:Int))),(7,.p (.ptr (A4 y1.1))),(1,.p (vSl 2 A0 j))],[(54000,.vec C8 1 y3.1.n (fun i=>cI .i64 (y3.1.g i)) true)]⟩) (ids:=[(54000,54000)]) (fun _ _ _ _ _ a1 x5 x6 a2 h=>?_);refine kI hS h ?_ ?_<;>intro h
   ·obtain⟨f,e22,h⟩:=C4 h;refine C0 hS [] (by decide:(3:Nat)<=3) (Bq hS hL e22) ?_;obtain⟨x,e23,h⟩:=C4 h;refine C0 hS [] (by decide:(3:Nat)<=3) (MB hS hL e23) ?_;refine kB hS (A8 hS) trivial trivial 10 (.o (.o (.a (f.2 != 0)) (.a (x.2 != 0))) (.a ((x.1.n:Int) != (f.1.n:Int)))) ?_;refine kI hS h ?_ ?_<;>intro h
    ·cases h;exact kR hS
    ·refine I5 hS trivial h (fun q l=>⟨[(19,pN l),(18,pB q),(16,.p (vSl 18 B2 x.1)),(14,.vec 69000),(13,pN x6),(12,pN x5),(10,.vec 54000),(9,pN ((wrap .i64 d).tmod (y1.1.Laws.n:Int))),(7,.p (.ptr (A4 y1.1))),(1,.p (vSl 2 A0 j))],[(69000,.vec C8 1 f.1.n (fun i=>cI .i64 (f.1.g i)) true),(54000,.vec C8 1 y3.1.n (fun i=>cI .i64 (y3.1.g i)) true)]⟩) (ids:=[(54000,54000),(69000,69000)]) (fun _ _ _ _ _ a3 q l z h=>?_);refine kI hS h ?_ ?_<;>intro h
     ·refine J4 hS trivial [11,18,20,22,27,29] ?_;obtain⟨c120,h⟩:=G4 h;refine KD c120 (b:=decide ((f.1.g l.toNat)<0)) (fun c121=>?_) (fun c121=>?_)
      ·replace h:=itT c121 h;refine O1 trivial ?_;cases h;exact kR hS
      ·replace h:=itF c121 h;obtain⟨c122,h⟩:=G4 h;refine KD c122 (b:=decide ((y1.1.Laws.n:Int)<=(f.1.g l.toNat))) (fun c123=>?_) (fun c123=>?_)
       ·replace h:=itT c123 h;refine O1 trivial ?_;cases h;exact kR hS
       ·replace h:=itF c123 h;obtain⟨c124,h⟩:=G4 h;refine O1 c124 ?_;refine kI hS h ?_ ?_<;>intro h
        ·cases h;exact kR hS
        ·obtain⟨c126,h⟩:=G4 h;refine kB hS (A8 hS) trivial c126 7 (.o (.a q) (.a ((f.1.g l.toNat)==((wrap .i64 d).tmod (y1.1.Laws.n:Int))))) ?_;exact z _ [(54000,54000),(69000,69000)] _ (q||((f.1.g l.toNat)==((wrap .i64 d).tmod (y1.1.Laws.n:Int)))) (wrap .i64 (l+1)) trivial h
     ·obtain⟨c127,h⟩:=G4 h;refine Jx hS c127 (A8 hS) h 0 (fun z7=>⟨[(18,pB q),(14,.vec 69000),(13,pN x6),(12,pN x5),(10,.vec 54000),(9,pN ((wrap .i64 d).tmod (y1.1.Laws.n:Int))),(7,.p (.ptr (A4 y1.1))),(1,.p (vSl 2 A0 j))],[(69000,.vec C8 1 f.1.n (fun i=>cI .i64 (f.1.g i)) true),(54000,.vec C8 1 y3.1.n (fun i=>cI .i64 (y3.1.g i)) true)]⟩) (fun M7 k7 s h=>?_) (fun z7 h=>?_)
      ·refine kI hS h ?_ ?_<;>intro h
       ·obtain⟨m,e26,h⟩:=C4 h;refine C0 hS [] (by decide:(3:Nat)<=3) (Bq hS hL e26) ?_;refine J4 hS trivial [8,10,11,1004] ?_;refine KD trivial (b:=m.2 != 0) (fun c134=>?_) (fun c134=>?_)
        ·replace h:=itT c134 h;refine O1 trivial ?_;cases h;exact kR hS
        ·replace h:=itF c134 h;obtain⟨c135,h⟩:=G4 h;obtain⟨a5,e27,h⟩:=C4 h;refine Nk [] (And.intro (And.intro (And.intro (rfl:true=true) c135.1.1) c135.1.2) c135.2) (FunO.le hS (args:=[(.p (vSl 1 (cI .i64) f.1)),.p (.sl false 1 ((0+m.1.n)+(y1.1.On.g x6.toNat).n) (Aq (0+m.1.n) (Aq 0 (E8 [pI .i64 0] []) (fun i=>cI .i64 (m.1.g i))) (fun i=>cI .i64 ((y1.1.On.g x6.toNat).g i))))]) (by exact⟨.inl rfl,⟨WQ rfl (AC0 (c:=cI .i64) (v:=(Sl.of []:Sl Int).app m.1) (w:=y1.1.On.g x6.toNat) (AC0 (c:=cI .i64) (v:=(Sl.of []:Sl Int)) (w:=m.1) (fun i hi=>absurd hi (by omega)) rfl same rfl) rfl same rfl),trivial⟩⟩) (GQ hS hL e27)) ?_;refine O1 trivial ?_;refine kI hS h ?_ ?_<;>intro h
         ·cases h;exact kR hS
         ·exact s _ [(54000,54000),(69000,69000)] _ () trivial h
       ·exact s _ [(54000,54000),(69000,69000)] _ () trivial h
      ·refine Jx hS trivial (A8 hS) h 0 (fun z8=>⟨[(14,.vec 69000),(13,pN x6),(12,pN z8),(10,.vec 54000),(9,pN ((wrap .i64 d).tmod (y1.1.Laws.n:Int))),(7,.p (.ptr (A4 y1.1))),(1,.p (vSl 2 A0 j))],[(69000,.vec C8 1 f.1.n (fun i=>cI .i64 (f.1.g i)) true),(54000,.vec C8 1 y3.1.n (fun i=>cI .i64 (y3.1.g i)) true)]⟩) (fun M8 k8 t h=>?_) (fun z8 h=>?_)
       ·refine kI hS h ?_ ?_<;>intro h
        ·obtain⟨c143,h⟩:=G4 h;refine kB hS (A8 hS) trivial c143 7 (.o (.a (decide ((y3.1.n:Int)<=x5))) (.a ((y3.1.g x5.toNat) != x6))) ?_;refine kI hS h ?_ ?_<;>intro h
         ·cases h;exact kR hS
         ·exact t _ [(54000,54000),(69000,69000)] _ (wrap .i64 (x5+1)) trivial h
        ·exact t _ [(54000,54000),(69000,69000)] _ x5 trivial h
       ·obtain⟨y28,e28,h⟩:=C4 h;refine C0 hS [] (by decide:(3:Nat)<=3) (CW hS hL e28) ?_;refine Jx hS trivial (A8 hS) h 0 (fun z9=>⟨[(201,pB z9),(13,pN x6),(12,pN z8),(10,.vec 54000),(9,pN ((wrap .i64 d).tmod (y1.1.Laws.n:Int))),(7,.p (.ptr (A4 y1.1))),(1,.p (vSl 2 A0 j))],[(54000,.vec C8 1 y3.1.n (fun i=>cI .i64 (y3.1.g i)) true)]⟩) (fun M9 k9 r h=>?_) (fun z9 h=>?_)
        ·refine kG hS h (fun h=>?_) (fun h=>?_)
         ·refine kC hS h (Al hS hL) (fun y30 h=>?_);refine kG hS h (fun h=>?_) (fun h=>?_)
          ·exact r _ [(54000,54000)] _ ((f.1.n:Int)==0) trivial h
          ·exact r _ [(54000,54000)] _ false trivial h
         ·exact r _ [(54000,54000)] _ false trivial h
        ·refine kI hS h ?_ ?_<;>intro h
         ·cases h;exact kR hS
         ·exact a2 _ [(54000,54000)] _ z8 (wrap .i64 (x6+1)) trivial h
   ·refine Jx hS trivial (A8 hS) h 0 (fun a0=>⟨[(6,pB a0)],[]⟩) (fun M10 k10 u h=>?_) (fun a0 h=>?_)
    ·refine kG hS h (fun h=>?_) (fun h=>?_)
     ·refine kC hS h (CD hS hL) (fun a4 h=>?_);exact u _ [] _ a4 trivial h
     ·exact u _ [] _ false trivial h
    ·cases h;exact kR hS
end Go.AM
namespace Go.AM
set_option maxRecDepth 1000000
theorem MF:Q4 4194304=some true:=by decide +kernel
end Go.AM
namespace Go.AM
open IntKind (wrap)
open Go.Proofs
theorem Ac0 {A R:Type}{body:(A->Option R)->A->Option R}(I:Nat->A->Prop)(n:Nat)(J7:R->Prop)
 (b:∀self i a,i<=n->I i a->(i<n->∀a',I (i+1) a' -> ∃r,self a' = some r/\J7 r)->∃r,body self a=some r/\J7 r) :
 ∀(N i:Nat) (a:A),i<=n->I i a->n-i<N->∃r,R9 N body a=some r/\J7 r
 |0,_,_,_,_,h=>by omega
 |N+1,i,a,hi,hI,h=>by rw[AI];exact b _ i a hi hI fun c a' d=>Ac0 I n J7 b N (i+1) a' c d (by omega)
theorem AA {A R:Type}{body:(A->Option R)->A->Option R}(I:Nat->A->Prop)(n:Nat)(J7:R->Prop){N:Nat}(c:n<N){a:A}(d:I 0 a)
 (b:∀self i a,i<=n->I i a->(i<n->∀a',I (i+1) a' -> ∃r,self a' = some r/\J7 r)->∃r,body self a=some r/\J7 r):∃r,R9 N body a=some r/\J7 r:=
 Ac0 I n J7 b N 0 a (AK9 _) d c
theorem N2 {A B R:Type}{body:(A->B->Option R)->A->B->Option R}(I:Nat->A->B->Prop)(n:Nat)(J7:R->Prop){N:Nat}(g:n<N){a:A}{b:B}(j:I 0 a b)
 (d:∀c i a b,i<=n->I i a b->(i<n->∀a' b',I (i+1) a' b' -> ∃r,c a' b' = some r/\J7 r)->∃r,body c a b=some r/\J7 r):∃r,S5 N body a b=some r/\J7 r:=
 Ac0 (fun i x=>I i x.1 x.2) n J7 (fun c i x l m h=>d (fun a b=>c (a,b)) i x.1 x.2 l m fun hl a' b' f=>h hl (a',b') f) N 0 (a,b) (AK9 _) j g
theorem XY {A B C R:Type}{body:(A->B->C->Option R)->A->B->C->Option R}(I:Nat->A->B->C->Prop)(n:Nat)(J7:R->Prop){N:Nat}(j:n<N){a:A}{b:B}{c:C}(l:I 0 a b c)
 (f:∀d i a b c,i<=n->I i a b c->(i<n->∀a' b' c',I (i+1) a' b' c' -> ∃r,d a' b' c' = some r/\J7 r)->∃r,body d a b c=some r/\J7 r):∃r,Am8 N body a b c=some r/\J7 r:=
 Ac0 (fun i x=>I i x.1 x.2.1 x.2.2) n J7 (fun d i x m o h=>f (fun a b c=>d (a,b,c)) i x.1 x.2.1 x.2.2 m o fun hl a' b' c' g=>h hl (a',b',c') g) N 0 (a,b,c) (AK9 _) l j
theorem B0 {X R:Type}{Q:R->Prop}{o:Option X}{f:X->Option R}{x:X}(h:o=some x)(a:∃r,f x=some r/\Q r):∃r,o.bind f=some r/\Q r:=by subst h;exact a
theorem ltX {R A:Type}{Q:R->Prop}{k:A->Option R}{f:(A->Option R)->Option R}(h:∃r,f k=some r/\Q r):∃r,lt k f=some r/\Q r:=h
theorem ifT {R:Type}{Q:R->Prop}{p:Prop}[Decidable p]{a b:Option R}(h:p)(c:∃r,a=some r/\Q r):∃r,(if p then a else b)=some r/\Q r:=by rw[if_pos h];exact c
theorem ifF {R:Type}{Q:R->Prop}{p:Prop}[Decidable p]{a b:Option R}(h:¬p)(c:∃r,b=some r/\Q r):∃r,(if p then a else b)=some r/\Q r:=by rw[if_neg h];exact c
theorem D7 {n:Int}(h : -9223372036854775808<=n)(h' : n<=9223372036854775807):IntKind.i64.wrap n=n:=by
 by_cases a:0<=n
 ·have h1:n % (2 ^ 64:Int)=n:=AM3 a (by omega);unfold wrap;simp only[IntKind.bits,IntKind.signed,h1];rw[if_neg];simp;omega
 ·have h1:n % (2 ^ 64:Int)=n+2 ^ 64:=by rw[<- Int.add_emod_right];exact AM3 (by omega) (by omega)
  unfold wrap;simp only[IntKind.bits,IntKind.signed,h1];rw[if_pos]
  ·omega
  ·simp;omega
theorem B4 {i:Nat}(h:i<1000000000000000000):IntKind.i64.wrap ((i:Int)+1)=((i+1:Nat):Int):=by rw[D7 (by omega) (by omega)];rfl
theorem Ap9 {i:Nat}(a:1<=i)(h:i<1000000000000000000):IntKind.i64.wrap ((i:Int)-1)=((i-1:Nat):Int):=by rw[D7 (by omega) (by omega)];omega
theorem CG {i j:Nat}(h:i+j<1000000000000000000):IntKind.i64.wrap ((i:Int)+(j:Int))=((i+j:Nat):Int):=by rw[D7 (by omega) (by omega)];rfl
theorem UE {N n:Nat}(hn:n<=32)(f:1000<=N):∃s,FQ N (n:Int)=some s/\s.n=n+1/\TabR n (fun a b=>a=b) s.g:=by
 unfold FQ;rw[B4 (by omega)];refine ifT (by omega) ?_;refine N2 (fun i x1 x2=>x2=(i:Int)/\x1.n=n+1/\∀a,a<i->x1.g a=U (1#64 <<< a)) (n+1) _ (by omega) ⟨rfl,by show ((n+1:Nat):Int).toNat=n+1;omega,fun a ha=>absurd ha (by omega)⟩ ?_;rintro c i x1 x2 j ⟨rfl,h1,d⟩ hs;by_cases hl:i<=n
 ·refine ifT (by simp;omega) (ifT ⟨⟨by omega,by omega,by omega⟩,by omega⟩ (hs (by omega) _ _ ⟨B4 (by omega),h1,fun a ha=>?_⟩));show (if a=(i:Int).toNat then shI .shl .u64 1 (i:Int)else x1.g a)=_;by_cases e:a=i
  ·subst e;rw[if_pos (by omega),QS _ (by omega)]
  ·rw[if_neg (by omega)];exact d a (by omega)
 ·refine ifF (by simp;omega) ⟨x1,rfl,h1,fun a ha=>⟨1#64 <<< a,d a (by omega),fun b hb=>?_⟩⟩;rw[Fs (by omega) hb,decide_eq_true_eq];omega
theorem Ac1 {n:Nat}{f:Nat->Int}(h:∀a,a<=n->f a=0):TabR n (fun _ _=>False) f:=fun a ha=>⟨0#64,h a ha,fun b hb=>by simp⟩
theorem UF {N n:Nat}{R S:Nat->Nat->Prop}{x y:Sl Int}(hn:n<=32)(f:1000<=N)(hx:x.n=n+1)(hy:y.n=n+1)(hR:TabR n R x.g)(hS:TabR n S y.g) :∃s,FR N x y=some s/\s.n=n+1/\TabR n (fun a b=>R a b \/ S a b) s.g:=by
 unfold FR;refine ifT (by omega) ?_;refine N2 (fun i x1 x2=>x2=(i:Int)/\x1.n=n+1/\∀a,a<i->x1.g a=F9 .or .u64 (x.g a) (y.g a)) (n+1) _ (by omega) ⟨rfl,by show (x.n:Int).toNat=n+1;omega,fun a ha=>absurd ha (by omega)⟩ ?_;rintro d i x1 x2 j ⟨rfl,h1,c⟩ hs;by_cases hl:i<=n
 ·refine ifT (by simp;omega) (ifT (by omega) (hs (by omega) _ _ ⟨B4 (by omega),h1,fun a ha=>?_⟩));show (if a=(i:Int).toNat then _ else x1.g a)=_;by_cases e:a=i
  ·subst e;rw[if_pos (by omega),AC6]
  ·rw[if_neg (by omega)];exact c a (by omega)
 ·refine ifF (by simp;omega) ⟨x1,rfl,h1,fun a ha=>?_⟩;obtain⟨u,e1,g1⟩:=hR a ha;obtain⟨v,e2,g2⟩:=hS a ha;refine⟨u ||| v,by rw[c a (by omega),e1,e2,AC2],fun b hb=>?_⟩;rw[AE4,AE2,g1 b hb,g2 b hb];constructor
  ·rintro (⟨h1,c⟩ | ⟨h1,c⟩)
   ·exact⟨h1,.inl c⟩
   ·exact⟨h1,.inr c⟩
  ·rintro⟨h1,c|c⟩
   ·exact .inl ⟨h1,c⟩
   ·exact .inr ⟨h1,c⟩
theorem XZ {N n:Nat}{x y:Sl Int}(hn:n<=32)(f:1000<=N)(hx:x.n=n+1)(hy:y.n=n+1) :∃b,GM N x y=some b/\(b=true ↔ ∀a,a<=n->x.g a=y.g a):=by
 unfold GM;refine AA (fun i x1=>x1=(i:Int)/\∀a,a<i->x.g a=y.g a) (n+1) _ (by omega) ⟨rfl,fun a ha=>absurd ha (by omega)⟩ ?_;rintro c i x1 j ⟨rfl,d⟩ hs;by_cases hl:i<=n
 ·refine ifT (by simp;omega) (ifT (by omega) ?_);rw[AC6];by_cases e:x.g i=y.g i
  ·refine ifF (by simp[e]) (hs (by omega) _ ⟨B4 (by omega),fun a ha=>?_⟩);by_cases h:a=i
   ·subst h;exact e
   ·exact d a (by omega)
  ·refine ifT (by simp[e]) ⟨false,rfl,by simp;exact⟨i,hl,e⟩⟩
 ·exact ifF (by simp;omega) ⟨true,rfl,by simp;exact fun a ha=>d a (by omega)⟩
theorem Ny {N n:Nat}{R S:Nat->Nat->Prop}{x y:Sl Int}(hn:n<=32)(w:1000<=N)(hx:x.n=n+1)(hy:y.n=n+1)(hR:TabR n R x.g)(hS:TabR n S y.g) :∃s,Bw N x y=some s/\s.n=n+1/\TabR n (fun a b=>∃c,c<=n/\R a c/\S c b) s.g:=by
 unfold Bw;refine ifT (by omega) ?_
 let Row (z:BitVec 64) (a j:Nat):Prop:=∀b,b<64->(z.getLsbD b=true↔b<=n/\∃c,c<j/\c<=n/\R a c/\S c b)
 refine N2 (fun i x1 x2=>x2=(i:Int)/\x1.n=n+1/\(∀a,a<i->∃z,x1.g a=U z/\Row z a (n+1))/\∀a,i<=a->x1.g a=0) (n+1) _ (by omega) ⟨rfl,by show (x.n:Int).toNat=n+1;omega,fun a ha=>absurd ha (by omega),fun a _=>rfl⟩ ?_;rintro q i x1 x2 hi ⟨rfl,h1,r,t⟩ hs;by_cases hl:i<=n
 ·refine ifT (by simp;omega) ?_;refine N2 (fun j x7 x8=>x8=(j:Int)/\x7.n=n+1/\(∀a,a<i->∃z,x7.g a=U z/\Row z a (n+1))/\(∃z,x7.g i=U z/\Row z i j)/\∀a,i<a->x7.g a=0) (n+1) _ (by omega)
   ⟨rfl,h1,r,⟨0#64,t i (AD3 _),fun b hb=>by simp⟩,fun a ha=>t a (by omega)⟩ ?_
  rintro m j x7 x8 hj ⟨rfl,g1,g2,⟨z,g3,g4⟩,g5⟩ l;by_cases f:j<=n
  ·refine ifT (by simp;omega) (ifT (by omega) ?_);rw[AC6,AC6];have d:=hR.bit hl (b:=j) (by omega);by_cases hc:R i j
   ·refine ifT (d.2 ⟨f,hc⟩) (ifT (by omega) (l (by omega) _ _ ⟨B4 (by omega),g1,fun a ha=>?_,?_,fun a ha=>?_⟩))
    ·obtain⟨z',e,o⟩:=g2 a ha;exact⟨z',by show (if a=i then _ else x7.g a)=_;rw[if_neg (by omega)];exact e,o⟩
    ·obtain⟨v,e,u⟩:=hS j f;refine⟨z ||| v,by show (if i=i then _ else _)=_;rw[if_pos rfl,g3,e,AC2],fun b hb=>?_⟩;rw[AE4,AE2,g4 b hb,u b hb];constructor
     ·rintro (⟨k1,c,k2,k3⟩ | ⟨k1,k2⟩)
      ·exact⟨k1,c,by omega,k3⟩
      ·exact⟨k1,j,by omega,f,hc,k2⟩
     ·rintro⟨k1,c,k2,k3,k4,k5⟩;by_cases e:c=j
      ·subst e;exact .inr ⟨k1,k5⟩
      ·exact .inl ⟨k1,c,by omega,k3,k4,k5⟩
    ·show (if a=i then _ else x7.g a)=_;rw[if_neg (by omega)];exact g5 a ha
   ·refine ifF (fun h=>hc (d.1 h).2) (l (by omega) _ _ ⟨B4 (by omega),g1,g2,⟨z,g3,fun b hb=>?_⟩,g5⟩);rw[g4 b hb];constructor
    ·rintro⟨k1,c,k2,k3⟩;exact⟨k1,c,by omega,k3⟩
    ·rintro⟨k1,c,k2,k3,k4,k5⟩;by_cases e:c=j
     ·subst e;exact absurd k4 hc
     ·exact⟨k1,c,by omega,k3,k4,k5⟩
  ·refine ifF (by simp;omega) (hs (by omega) _ _ ⟨B4 (by omega),g1,fun a ha=>?_,fun a ha=>g5 a (by omega)⟩);by_cases e:a=i
   ·subst e;obtain rfl:j=n+1:=by omega
    exact⟨z,g3,g4⟩
   ·exact g2 a (by omega)
 ·refine ifF (by simp;omega) ⟨x1,rfl,h1,fun a ha=>?_⟩;obtain⟨z,e,o⟩:=r a (by omega);refine⟨z,e,fun b hb=>(o b hb).trans ⟨fun⟨k1,c,_,k3⟩=>⟨k1,c,k3⟩,fun⟨k1,c,k3⟩=>⟨k1,c,by omega,k3⟩⟩⟩
end Go.AM
namespace Go.AM
open Go.Proofs
def okP:Nat->Pat->Prop
 |0,_=>False
 |d+1,p=>p.L.n<=40/\(p.Kind=5->p.L.n=1/\0<=p.Min/\p.Min<=32/\(p.Max = -1 \/ (p.Min<=p.Max/\p.Max<=32)))/\∀i,i<p.L.n->okP d (p.L.g i)
theorem JH (w:Sl Sound)(p:Pat)(a b:Nat):PR w p a b↔(if p.Kind=0 then a=b
 else if p.Kind=1 then a<w.n/\b=a+1/\(SV (w.g a) p.Is != p.Not)=true
 else if p.Kind=2 then a=0/\b=0
 else if p.Kind=6 then a=w.n/\b=w.n
 else if p.Kind=3 then VV w.n (fun i=>PR w (p.L.g i)) p.L.n a b
 else if p.Kind=4 then ∃i,i<p.L.n/\PR w (p.L.g i) a b
 else if p.Kind=5 then ∃k:Nat,p.Min<=k/\(p.Max = -1 \/ (k:Int)<=p.Max)/\Gw w.n (PR w (p.L.g 0)) k a b
 else False):=by
 cases p with
 |nil=>simp[PR,Pat.Kind]
 |mk kind is no mn mx m g=>exact AM2
def R0 (w:Sl Sound)(p:Pat)(a b:Nat):Prop:=if p.Kind=0 then a=b
 else if p.Kind=1 then a<w.n/\b=a+1/\(SV (w.g a) p.Is != p.Not)=true
 else if p.Kind=2 then a=0/\b=0
 else if p.Kind=6 then a=w.n/\b=w.n
 else False
theorem Ai1 {n:Nat}{R:Nat->Nat->Prop}(hR:Fwd n R){mn k:Nat}(hk:mn<k)(h:∀a b,a<=n->b<=n->Gw n R k a b->∃j,mn<=j/\j<k/\Gw n R j a b){a:Nat}(ha:a<=n) :∀m b,mn<=m->Gw n R m a b->∃j,mn<=j/\j<k/\Gw n R j a b
 |0,b,hm,hp=>⟨0,hm,by omega,hp⟩
 |m+1,b,hm,hp=>by
  by_cases d:m+1<k
  ·exact⟨m+1,hm,d,hp⟩
  ·obtain⟨c,hc,h1,f⟩:=hp;have hb:=(hR c b hc f).2;obtain⟨j,g1,g2,g3⟩:=Ai1 hR hk h ha m c (by omega) h1;by_cases e:j+1<k
   ·exact⟨j+1,by omega,e,c,hc,g3,f⟩
   ·obtain rfl:k=j+1:=by omega
    exact h a b ha hb ⟨c,hc,g3,f⟩
theorem Ly {N:Nat}(hN:1000<=N){w:Sl Sound}(hw:w.n<=32):∀(d:Nat) (p:Pat),okP d p->∀M,N+d<=M->∃t,Cv M p w=some t/\t.n=w.n+1/\TabR w.n (PR w p) t.g
 |0,p,h,M,hM=>h.elim
 |d+1,p,⟨hc,h5,hch⟩,0,hM=>by omega
 |d+1,p,⟨hc,h5,hch⟩,M+1,hM=>by
  have ih:=fun i hi=>Ly hN hw d (p.L.g i) (hch i hi) M (by omega);show ∃t,Et (Cv M) M p w=some t/\_;unfold Et;rw[B4 (by omega)];refine ifT (by omega) ?_;refine N2 (fun i x1 x2=>x2=(i:Int)/\x1.n=w.n+1/\(∀a,a<i->∃z:BitVec 64,x1.g a=U z/\∀b,b<64->(z.getLsbD b=true↔b<=w.n/\R0 w p a b))/\∀a,i<=a->x1.g a=0) (w.n+1) _ (by omega)
   ⟨rfl,by show ((w.n+1:Nat):Int).toNat=w.n+1;omega,fun a ha=>absurd ha (by omega),fun _ _=>rfl⟩ ?_
  rintro self i x1 x2 hi ⟨rfl,h1,l,c⟩ hs;have keep:(∀b,b<=w.n->¬R0 w p i b)->(∀a,a<i+1->∃z:BitVec 64,x1.g a=U z/\∀b,b<64->(z.getLsbD b=true↔b<=w.n/\R0 w p a b)):=by
   intro h a ha;by_cases e:a=i
   ·subst e;exact⟨0#64,c a (AD3 _),fun b hb=>by simp;exact h b⟩
   ·exact l a (by omega)
  have put:∀(z:BitVec 64) (v:Int),v=U z->(∀b,b<64->(z.getLsbD b=true↔b<=w.n/\R0 w p i b)) ->
   (∀a,a<i+1->∃z:BitVec 64,(x1.upd (i:Int).toNat v).g a=U z/\∀b,b<64->(z.getLsbD b=true↔b<=w.n/\R0 w p a b))/\∀a,i+1<=a->(x1.upd (i:Int).toNat v).g a=0:=by
   intro z v hv hz;refine⟨fun a ha=>?_,fun a ha=>?_⟩
   ·by_cases e:a=i
    ·subst e;exact⟨z,by show (if a=(a:Int).toNat then v else _)=_;rw[if_pos (by omega),hv],hz⟩
    ·obtain⟨z',e1,e2⟩:=l a (by omega);exact⟨z',by show (if a=(i:Int).toNat then v else x1.g a)=_;rw[if_neg (by omega)];exact e1,e2⟩
   ·show (if a=(i:Int).toNat then v else x1.g a)=0;rw[if_neg (by omega)];exact c a (by omega)
  by_cases hl:i<=w.n
  ·refine ifT (by simp;omega) ?_;by_cases k0:p.Kind=0
   ·refine ifT (by simp[k0]) (ifT (by omega) ?_);obtain⟨p1,p2⟩:=put (1#64 <<< i) _ (QS i (by omega)) (fun b hb=>by rw[Fs (by omega) hb,decide_eq_true_eq];simp only[R0,k0,if_true];omega);exact hs (by omega) _ _ ⟨B4 (by omega),h1,p1,p2⟩
   refine ifF (by simp[k0]) ?_;by_cases k1:p.Kind=1
   ·refine ifT (by simp[k1]) ?_;have e0:∀b,R0 w p i b↔i<w.n/\b=i+1/\(SV (w.g i) p.Is != p.Not)=true:=fun b=>by simp only[R0,k1];simp
    by_cases hlt:i<w.n
    ·refine ifT (by simp;omega) (ifT (by omega) ?_);refine B0 (x:=SV (w.g i) p.Is) (by rw[AC6];rfl) ?_;by_cases hb:SV (w.g i) p.Is=p.Not
     ·refine ifF (by simp[hb]) (hs (by omega) _ _ ⟨B4 (by omega),h1,keep fun b _=>?_,fun a ha=>c a (by omega)⟩);rw[e0];simp[hb]
     ·refine ifT (by simp[hb]) ?_;rw[B4 (by omega)];refine ifT (by omega) ?_;obtain⟨p1,p2⟩:=put (1#64 <<< (i+1)) _ (QS (i+1) (by omega)) (fun b a0=>by
       rw[Fs (by omega) a0,decide_eq_true_eq,e0]
       have:(SV (w.g i) p.Is != p.Not)=true:=by simp[hb]
       simp only[this,and_true];omega)
      exact hs (by omega) _ _ ⟨rfl,h1,p1,p2⟩
    ·refine ifF (by simp;omega) (hs (by omega) _ _ ⟨B4 (by omega),h1,keep fun b _=>?_,fun a ha=>c a (by omega)⟩);rw[e0];omega
   refine ifF (by simp[k1]) ?_;by_cases k2:p.Kind=2
   ·refine ifT (by simp[k2]) ?_;have e0:∀b,R0 w p i b↔i=0/\b=0:=fun b=>by simp only[R0,k2];simp
    by_cases hz:i=0
    ·refine ifT (by simp;omega) (ifT (by omega) ?_);obtain⟨p1,p2⟩:=put 1#64 _ Az9 (fun b a0=>by rw[SU,decide_eq_true_eq,e0];omega);exact hs (by omega) _ _ ⟨B4 (by omega),h1,p1,p2⟩
    ·refine ifF (by simp;omega) (hs (by omega) _ _ ⟨B4 (by omega),h1,keep fun b _=>?_,fun a ha=>c a (by omega)⟩);rw[e0];omega
   refine ifF (by simp[k2]) ?_;by_cases k6:p.Kind=6
   ·refine ifT (by simp[k6]) ?_;have e0:∀b,R0 w p i b↔i=w.n/\b=w.n:=fun b=>by simp only[R0,k6];simp
    by_cases hz:i=w.n
    ·refine ifT (by simp;omega) (ifT (by omega) ?_);obtain⟨p1,p2⟩:=put (1#64 <<< i) _ (QS i (by omega)) (fun b hb=>by rw[Fs (by omega) hb,decide_eq_true_eq,e0];omega);exact hs (by omega) _ _ ⟨B4 (by omega),h1,p1,p2⟩
    ·refine ifF (by simp;omega) (hs (by omega) _ _ ⟨B4 (by omega),h1,keep fun b _=>?_,fun a ha=>c a (by omega)⟩);rw[e0];omega
   ·refine ifF (by simp[k6]) (hs (by omega) _ _ ⟨B4 (by omega),h1,keep fun b _=>?_,fun a ha=>c a (by omega)⟩);simp[R0,k0,k1,k2,k6]
  ·refine ifF (by simp;omega) ?_;have t0:TabR w.n (R0 w p) x1.g:=fun a ha=>l a (by omega);by_cases k3:p.Kind=3
   ·refine ifT (by simp[k3]) ?_;obtain⟨s,es,a8,a9⟩:=UE (N:=M) hw (by omega);refine B0 es ?_;refine N2 (fun i (x3:Sl Int) x4=>x4=(i:Int)/\x3.n=w.n+1/\TabR w.n (VV w.n (fun i=>PR w (p.L.g i)) i) x3.g) p.L.n _ (by omega) ⟨rfl,a8,a9.congr fun a b _ _=>AM2⟩ ?_;rintro a2 j x3 x4 hj ⟨rfl,g1,g2⟩ m;by_cases a3:j<p.L.n
    ·obtain⟨t,et,b0,b1⟩:=ih j a3;refine ifT (by simp;omega) (ifT (by omega) (B0 (by rw[AC6];exact et) ?_));obtain⟨f,ef,o,a4⟩:=Ny (N:=M) hw (by omega) g1 b0 g2 b1;exact B0 ef (m a3 _ _ ⟨B4 (by omega),o,a4⟩)
    ·obtain rfl:j=p.L.n:=by omega
     exact ifF (by simp) ⟨x3,rfl,g1,g2.congr fun a b _ _=>by rw[JH];simp[k3]⟩
   refine ifF (by simp[k3]) ?_;by_cases k4:p.Kind=4
   ·refine ifT (by simp[k4]) ?_;refine N2 (fun i x3 x4=>x4=(i:Int)/\x3.n=w.n+1/\TabR w.n (fun a b=>∃q,q<i/\PR w (p.L.g q) a b) x3.g) p.L.n _ (by omega) ⟨rfl,h1,t0.congr fun a b _ _=>by simp[R0,k4]⟩ ?_;rintro a2 j x3 x4 hj ⟨rfl,g1,g2⟩ m;by_cases a3:j<p.L.n
    ·obtain⟨t,et,b0,b1⟩:=ih j a3;refine ifT (by simp;omega) (ifT (by omega) (B0 (by rw[AC6];exact et) ?_));obtain⟨f,ef,o,a4⟩:=UF (N:=M) hw (by omega) g1 b0 g2 b1;refine B0 ef (m a3 _ _ ⟨B4 (by omega),o,a4.congr fun a b _ _=>⟨?_,?_⟩⟩)
     ·rintro (⟨q,h1,l⟩ | h)
      ·exact⟨q,by omega,l⟩
      ·exact⟨j,by omega,h⟩
     ·rintro⟨q,h1,l⟩;by_cases e:q=j
      ·subst e;exact .inr l
      ·exact .inl ⟨q,by omega,l⟩
    ·obtain rfl:j=p.L.n:=by omega
     exact ifF (by simp) ⟨x3,rfl,g1,g2.congr fun a b _ _=>by rw[JH];simp[k4]⟩
   refine ifF (by simp[k4]) ?_;by_cases k5:p.Kind=5
   ·obtain⟨hn1,hm0,hm1,hmx⟩:=h5 k5;refine ifT (by simp[k5]) (ifT (by omega) ?_);obtain⟨one,eo,ho1,ho2⟩:=ih 0 (by omega);obtain⟨s,es,a8,a9⟩:=UE (N:=M) hw (by omega);refine B0 eo (B0 es ?_);have hF:=QV w (p.L.g 0);have fin:∀(t:Sl Int) (k:Nat),t.n=w.n+1->TabR w.n (fun a b=>∃j:Nat,p.Min<=j/\j<k/\Gw w.n (PR w (p.L.g 0)) j a b) t.g ->
     (∀a b,a<=w.n->b<=w.n->((∃j:Nat,p.Min<=j/\j<k/\Gw w.n (PR w (p.L.g 0)) j a b) ↔ ∃j:Nat,p.Min<=j/\(p.Max = -1 \/ (j:Int)<=p.Max)/\Gw w.n (PR w (p.L.g 0)) j a b)) ->
     ∃r,some t=some r/\r.n=w.n+1/\TabR w.n (PR w p) r.g:=by
     intro t k e1 e2 e3;exact⟨t,rfl,e1,e2.congr fun a b ha hb=>(e3 a b ha hb).trans (by rw[JH];simp[k5])⟩
    refine XY (fun k (x8 x9:Sl Int) b2=>b2=(k:Int)/\x8.n=w.n+1/\x9.n=w.n+1/\TabR w.n (fun a b=>∃j:Nat,p.Min<=j/\j<k/\Gw w.n (PR w (p.L.g 0)) j a b) x8.g/\TabR w.n (Gw w.n (PR w (p.L.g 0)) k) x9.g/\(p.Max = -1 \/ (k:Int)<=p.Max)) 33 _ (by omega)
     ⟨rfl,h1,a8,t0.congr fun a b _ _=>by simp[R0,k5],a9.congr fun a b _ _=>AM2,by omega⟩ ?_
    rintro a2 k x8 x9 b2 hk ⟨rfl,g1,g2,g3,g4,g5⟩ m;obtain⟨f,ef,o,a4⟩:=Ny (N:=M) hw (by omega) g2 ho1 g4 ho2;have next:TabR w.n (Gw w.n (PR w (p.L.g 0)) (k+1)) f.g:=a4
    by_cases u:p.Min<=(k:Int)
    ·refine ifT (by simpa using u) ?_;obtain⟨j,ej,a5,hj2⟩:=UF (N:=M) hw (by omega) g1 g2 g3 g4;have a1:TabR w.n (fun a b=>∃j:Nat,p.Min<=j/\j<k+1/\Gw w.n (PR w (p.L.g 0)) j a b) j.g:=hj2.congr fun a b _ _=>by
      constructor
      ·rintro (⟨q,h1,l,c⟩ | h)
       ·exact⟨q,h1,by omega,c⟩
       ·exact⟨k,u,by omega,h⟩
      ·rintro⟨q,h1,l,c⟩;by_cases e:q=k
       ·subst e;exact .inr c
       ·exact .inl ⟨q,h1,by omega,c⟩
     refine B0 ej (ltX ?_);by_cases a6:(k:Int)=p.Max
     ·refine ifT (by simp[a6]) (ifT rfl (fin j (k+1) a5 a1 fun a b _ _=>⟨?_,?_⟩))
      ·rintro⟨q,h1,l,c⟩;exact⟨q,h1,.inr (by omega),c⟩
      ·rintro⟨q,h1,l,c⟩;exact⟨q,h1,by omega,c⟩
     ·refine ifF (by simp[a6]) ?_;by_cases b3:p.Min<(k:Int)
      ·refine ifT (by simpa using b3) ?_;obtain⟨b,eb,hb⟩:=XZ (N:=M) (x:=x8) (y:=j) hw (by omega) g1 a5;refine B0 eb ?_;by_cases a7:b=true
       ·refine ifT a7 (fin j (k+1) a5 a1 fun a b ha a0=>⟨?_,?_⟩)
        ·rintro⟨q,h1,l,c⟩;exact⟨q,h1,by omega,c⟩
        ·rintro⟨q,h1,l,c⟩;have heq:=hb.1 a7;obtain⟨q',k1,k2,k3⟩:=Ai1 hF (mn:=p.Min.toNat) (k:=k) (by omega) (fun a b ha a0 hp=>by have e1:=a1.bit ha (b:=b) (by omega);have e2:=g3.bit ha (b:=b) (by omega);rw[<- heq a ha]at e1;obtain⟨_,q,k1,k2,k3⟩:=e2.1 (e1.2 ⟨a0,k,u,by omega,hp⟩);exact⟨q,by omega,k2,k3⟩) ha q b (by omega) c
         exact⟨q',by omega,by omega,k3⟩
       ·refine ifF a7 (B0 ef ?_);have b4:k<33:=by
         refine Nat.lt_of_le_of_ne hk fun e=>a7 (hb.2 fun a ha=>?_);subst e;refine g3.uniq (a1.congr fun a b ha a0=>⟨?_,?_⟩) ha
         ·rintro⟨q,h1,l,c⟩;by_cases e:q=33
          ·subst e;exact⟨32,by omega,by omega,QT hF ha hw c⟩
          ·exact⟨q,h1,by omega,c⟩
         ·rintro⟨q,h1,l,c⟩;exact⟨q,h1,by omega,c⟩
        exact m b4 _ _ _ ⟨B4 (by omega),a5,o,a1,next,by omega⟩
      ·refine ifF (by simpa using b3) (ifF (by simp) (B0 ef (m (by omega) _ _ _ ⟨B4 (by omega),a5,o,a1,next,by omega⟩)))
    ·refine ifF (by simpa using u) (B0 ef (m (by omega) _ _ _ ⟨B4 (by omega),g1,o,g3.congr fun a b _ _=>⟨?_,?_⟩,next,by omega⟩))
     ·rintro⟨q,h1,l,c⟩;omega
     ·rintro⟨q,h1,l,c⟩;omega
   ·refine ifF (by simp[k5]) ⟨x1,rfl,h1,t0.congr fun a b _ _=>?_⟩;rw[JH];simp[R0,k3,k4,k5]
end Go.AM
namespace Go.AM
open IntKind (wrap)
open Go.Proofs
abbrev sOf (x y:BitVec 32):Sound:=⟨(x.toNat:Int),(y.toNat:Int)⟩
def okS (s:Sound):Prop:=∃p m:BitVec 32,s=sOf p m
theorem eq0 (x:BitVec 32):((x.toNat:Int)==0)=decide (x=0#32):=by
 rw[AG1];simp only[beq_iff_eq,decide_eq_true_eq];constructor
 ·intro h;apply AG7;show x.toNat=0;omega
 ·rintro rfl;rfl
theorem z32 (x:BitVec 32):x=0#32 ↔ ∀i,i<32->x.getLsbD i=false:=by
 constructor
 ·rintro rfl i a;simp
 ·intro h;apply AI0;intro i a;rw[h i a];simp
theorem HT {x y:BitVec 32}(h:∀b,b<32->x.getLsbD b=y.getLsbD b):x=y:=AI0 h
theorem UG (x:BitVec 32)(i:Nat):(F9 .and .u32 (shI .shr .u32 (x.toNat:Int) (i:Int)) 1==1)=x.getLsbD i:=by
 rw[Ah1,show (1:Int)=((1#32).toNat:Int) from rfl,Ec];have h:(x >>> i &&& 1#32)=(BitVec.ofBool (x.getLsbD i)).setWidth 32:=by
  apply AI0;intro j b;simp only[AE5,AR3,AT0,AU2];by_cases a:j=0
  ·subst a;simp
  ·have:(1#32).getLsbD j=false:=by rw[AR4];simp[a]
   simp[this,a]
 rw[h];cases x.getLsbD i<;>rfl
theorem Aq0 (i:Nat):shI .shl .u32 1 (i:Int)=((1#32 <<< i).toNat:Int):=by rw[show (1:Int)=((1#32).toNat:Int) from rfl,Aw7]
theorem Ya {i j:Nat}(a:j<32):(1#32 <<< i).getLsbD j=decide (j=i):=by
 rw[AS0,AR4];by_cases h:j=i
 ·subst h;simp[a]
 ·by_cases b:j<i
  ·simp[h,b]
  ·have:j-i≠0:=by omega
   simp[h,this]
theorem FD (x:BitVec 32):x.toNat<16777216 ↔ ∀i,24<=i->i<32->x.getLsbD i=false:=by
 constructor
 ·intro h i a b;exact AT8 (AF1 h (AL9 (n:=2) (i:=24) (by omega) a))
 ·intro h;refine Nat.lt_pow_two_of_testBit (n:=24) _ fun i a=>?_;by_cases c:i<32
  ·exact h i a c
  ·exact AT8 (AF1 x.isLt (AL9 (by omega) (by omega)))
def vB (p m:BitVec 32):Bool:=decide (∀i:Fin 32,¬(p.getLsbD i=true/\m.getLsbD i=true)/\(24<=i.1->p.getLsbD i=false/\m.getLsbD i=false))
theorem ET (p m:BitVec 32):vB p m=true ↔ ∀i,i<32->¬(p.getLsbD i=true/\m.getLsbD i=true)/\(24<=i->p.getLsbD i=false/\m.getLsbD i=false):=by rw[vB,decide_eq_true_eq];exact⟨fun h i a=>h ⟨i,a⟩,fun h i=>h i.1 i.2⟩
theorem UH (p m:BitVec 32):p &&& m=0#32 ↔ ∀i,i<32->¬(p.getLsbD i=true/\m.getLsbD i=true):=by rw[z32];refine forall_congr' fun i=>forall_congr' fun a=>?_;rw[AE5,AU3];cases p.getLsbD i<;>cases m.getLsbD i<;>simp
theorem AA3 (p m:BitVec 32):vB p m=true↔p &&& m=0#32/\(p ||| m).toNat<16777216:=by
 rw[ET,UH,FD];constructor
 ·intro h;refine⟨fun i a=>(h i a).1,fun i h1 b=>?_⟩
  have:=(h i b).2 h1
  rw[AE4,this.1,this.2];rfl
 ·rintro⟨h1,b⟩ i a;refine⟨h1 i a,fun c=>?_⟩
  have:=b i c a
  rw[AE4,AM0]at this;exact this
theorem AA4 (p m:BitVec 32):vB p m=true↔p &&& m=0#32/\p.toNat<16777216/\m.toNat<16777216:=by rw[ET,UH,FD,FD];exact⟨fun h=>⟨fun i a=>(h i a).1,fun i h1 b=>((h i b).2 h1).1,fun i h1 b=>((h i b).2 h1).2⟩,fun⟨h1,b,d⟩ i a=>⟨h1 i a,fun c=>⟨b i c a,d i c a⟩⟩⟩
theorem AU {N:Nat}(p m:BitVec 32):G1 N (sOf p m)=some (vB p m):=by unfold G1;rw[Ec,Jb,eq0];congr 1;rw[AG1,AA3];simp only[AD2,decide_eq_true_eq];exact⟨fun h=>⟨h.1,by have:=h.2;omega⟩,fun h=>⟨h.1,by have:=h.2;omega⟩⟩
theorem shr24 (x:BitVec 32):(shI .shr .u32 (x.toNat:Int) 24==0)=decide (x.toNat<16777216):=by
 rw[show (24:Int)=((24:Nat):Int) from rfl,Ah1,AG1];simp only[beq_iff_eq,decide_eq_true_eq,AO4,AO0]
 have:=AV4 (a:=x.toNat) (b:=2 ^ 24)
 omega
theorem Rg {N:Nat}(p m:BitVec 32):Av N (sOf p m)=some (vB p m):=by unfold Av;rw[Ec,Jb,eq0,shr24];congr 1;rw[AG1,AA3];simp only[AD2,decide_eq_true_eq]
theorem Rh {N:Nat}(p m:BitVec 32):N8 N (sOf p m)=some (vB p m):=Rg (N:=N) p m
theorem Nz {N:Nat}(p m:BitVec 32):V2 N (sOf p m)=some (vB p m):=by unfold V2;rw[Ec,eq0];congr 1;rw[AG1,AA4];simp only[AD2,decide_eq_true_eq];exact⟨fun h=>⟨h.1.1,by have:=h.1.2;omega,by have:=h.2;omega⟩,fun h=>⟨⟨h.1,by have:=h.2.1;omega⟩,by have:=h.2.2;omega⟩⟩
theorem X7 {N:Nat}(p m:BitVec 32)(n:1000<=N):J1 N (sOf p m)=some (vB p m):=by
 suffices h:∃r,J1 N (sOf p m)=some r/\r=vB p m by obtain⟨r,h,rfl⟩:=h;exact h
 unfold J1;refine AA (fun i x1=>x1=(i:Int)/\∀j,j<i->¬(p.getLsbD j=true/\m.getLsbD j=true)/\(24<=j->p.getLsbD j=false/\m.getLsbD j=false)) 32 _ (by omega) ⟨rfl,fun j d=>absurd d (by omega)⟩ ?_;rintro g i x1 o ⟨rfl,h1⟩ hs;by_cases hl:i<32
 ·refine ifT (by simp;omega) (ifT (by omega) ?_);simp only[UG];have e24:decide ((24:Int)<=(i:Int))=decide (24<=i):=decide_eq_decide.2 (by omega);rw[e24];by_cases hb:¬(p.getLsbD i=true/\m.getLsbD i=true)/\(24<=i->p.getLsbD i=false/\m.getLsbD i=false)
  ·refine ifF ?_ (hs hl _ ⟨B4 (by omega),fun j d=>?_⟩)
   ·intro h;obtain⟨l,f⟩:=hb;revert h l f;by_cases c:24<=i
    ·intro h l f;obtain⟨a,b⟩:=f c;simp[a,b]at h
    ·cases p.getLsbD i<;>cases m.getLsbD i<;>simp[c]
   ·by_cases e:j=i
    ·subst e;exact hb
    ·exact h1 j (by omega)
  ·refine ifT ?_ ⟨false,rfl,?_⟩
   ·revert hb;by_cases c:24<=i
    ·cases p.getLsbD i<;>cases m.getLsbD i<;>simp[c]
    ·cases p.getLsbD i<;>cases m.getLsbD i<;>simp[c]
   ·symm;rw[<- AQ1,ET];exact fun h=>hb (h i hl)
 ·refine ifF (by simp;omega) ⟨true,rfl,?_⟩;symm;rw[ET];exact fun j d=>h1 j (by omega)
def gB (p m:BitVec 32)(f:Nat):Int:=if p.getLsbD f then 1 else if m.getLsbD f then -1 else 0
theorem UI {N:Nat}(p m:BitVec 32)(a:vB p m=true)(f:Nat)(c:f<24)(b:1000<=N):AN N (sOf p m) (f:Int)=some (gB p m f):=by
 unfold AN;rw[X7 p m b];simp only[AD1,lt,HM,UG,gB,a];rw[if_pos (by omega:(0:Int)<=(f:Int)),if_pos (by omega:(0:Int)<=(f:Int))];have e:(decide ((0:Int)<=(f:Int))&&decide ((f:Int)<24))=true:=by simp;omega
 rw[e];cases h1:p.getLsbD f<;>cases d:m.getLsbD f<;>simp
theorem gB_eq {p m a b:BitVec 32}(g:vB p m=true)(c : vB a b=true)(f:Nat)(d:f<32):(gB a b f≠0->gB p m f=gB a b f)↔((a.getLsbD f=true->p.getLsbD f=true)/\(b.getLsbD f=true->m.getLsbD f=true)):=by have h1:=((ET p m).1 g f d).1;have i:=((ET a b).1 c f d).1;revert h1 i;simp only[gB];cases a.getLsbD f<;>cases b.getLsbD f<;>cases p.getLsbD f<;>cases m.getLsbD f<;>simp
def WA (p m a b:BitVec 32):Bool:=vB p m&&(vB a b&&decide (∀i:Fin 32,(a.getLsbD i=true->p.getLsbD i=true)/\(b.getLsbD i=true->m.getLsbD i=true)))
theorem Aq1 (a p:BitVec 32):a &&& ~~~ p=0#32 ↔ ∀i,i<32->(a.getLsbD i=true->p.getLsbD i=true):=by rw[z32];refine forall_congr' fun i=>forall_congr' fun b=>?_;rw[AE5,AH6];cases a.getLsbD i<;>cases p.getLsbD i<;>simp[b]
theorem Aq2 {N:Nat}(p m a b:BitVec 32):J0 N (sOf p m) (sOf a b)=some (WA p m a b):=by
 unfold J0;rw[AU];simp only[AD1,lt,AU,DJ,eq0,WA];cases h1:vB p m
 ·simp
 cases d:vB a b
 ·simp
 simp only[if_true,AO8];have key:(decide (∀i:Fin 32,(a.getLsbD i=true->p.getLsbD i=true)/\(b.getLsbD i=true->m.getLsbD i=true)))=(decide (a &&& ~~~ p=0#32)&&decide (b &&& ~~~ m=0#32)):=by rw[AG1];simp only[AD2,decide_eq_true_eq,Aq1];exact⟨fun h=>⟨fun i c=>(h ⟨i,c⟩).1,fun i c=>(h ⟨i,c⟩).2⟩,fun h i=>⟨h.1 i.1 i.2,h.2 i.1 i.2⟩⟩
 rw[key];by_cases h:a &&& ~~~ p=0#32
 ·simp[h]
 ·simp[h]
theorem Aq3 {N:Nat}(p m a b:BitVec 32)(f:1000<=N):U8 N (sOf p m) (sOf a b)=some (WA p m a b):=by
 suffices h:∃r,U8 N (sOf p m) (sOf a b)=some r/\r=WA p m a b by obtain⟨r,h,rfl⟩:=h;exact h
 unfold U8;rw[X7 p m f];refine B0 rfl (ltX ?_);cases h1:vB p m
 ·exact ifT (by simp) (ifT rfl ⟨false,rfl,by simp[WA,h1]⟩)
 refine ifF (by simp) ?_;rw[X7 a b f];refine B0 rfl ?_;cases c:vB a b
 ·exact ifT (by simp) ⟨false,rfl,by simp[WA,c]⟩
 refine ifF (by simp) ?_;refine AA (fun i x3=>x3=(i:Int)/\∀j,j<i->((a.getLsbD j=true->p.getLsbD j=true)/\(b.getLsbD j=true->m.getLsbD j=true))) 24 _ (by omega) ⟨rfl,fun j n=>absurd n (by omega)⟩ ?_;rintro d i x3 q ⟨rfl,o⟩ hs;by_cases hl:i<24
 ·refine ifT (by simp;omega) (B0 (UI a b c i hl f) (ltX ?_));have key:=gB_eq h1 c i (by omega);have fin:(¬(gB a b i≠0->gB p m i=gB a b i))->false=WA p m a b:=fun hn=>by symm;simp only[WA,h1,c,AO8];rw[<- AQ1,decide_eq_true_eq];intro h;exact hn (key.2 (h ⟨i,by omega⟩))
  have go:(gB a b i≠0->gB p m i=gB a b i)->∃r,d (wrap .i64 ((i:Int)+1))=some r/\r=WA p m a b:=fun hp=>hs hl _ ⟨B4 (by omega),fun j n=>by
   by_cases e:j=i
   ·subst e;exact key.1 hp
   ·exact o j (by omega)⟩
  by_cases g:gB a b i=0
  ·exact ifF (by simp[g]) (ifF (by simp) (go fun h=>absurd g h))
  ·refine ifT (by simp[g]) (B0 (UI p m h1 i hl f) ?_);by_cases l:gB p m i=gB a b i
   ·exact ifF (by simp[l]) (go fun _=>l)
   ·exact ifT (by simp[l]) ⟨false,rfl,fin fun h=>l (h g)⟩
 ·refine ifF (by simp;omega) ⟨true,rfl,?_⟩;symm;simp only[WA,h1,c,AO8,decide_eq_true_eq];intro j;by_cases n:j.1<24
  ·exact o j.1 (by omega)
  ·have:=((ET a b).1 c j.1 j.2).2 (by omega)
   exact⟨fun h=>by rw[this.1]at h;exact absurd h (by simp),fun h=>by rw[this.2]at h;exact absurd h (by simp)⟩
def PA (x y s:BitVec 32):BitVec 32:=(x &&& ~~~ s) ||| (y &&& s)
theorem Ai2 {N:Nat}(p m a b s:BitVec 32):Be N (sOf p m) (sOf a b) (s.toNat:Int)=some (sOf (PA p a s) (PA m b s)):=by unfold Be;simp only[DJ,Ec,Jb,PA]
def AA5 (x:BitVec 32)(f:Nat)(on:Bool):BitVec 32:=if on then (x &&& ~~~ (1#32 <<< f)) ||| (1#32 <<< f)else x &&& ~~~ (1#32 <<< f)
theorem FY (x:BitVec 32)(f:Nat)(on:Bool){j:Nat}(a:j<32):(AA5 x f on).getLsbD j=if j=f then on else x.getLsbD j:=by
 unfold AA5;cases on
 ·rw[if_neg (by simp),AE5,AH6,Ya a];by_cases e:j=f<;>simp[e,a]
 ·rw[if_pos rfl,AE4,AE5,AH6,Ya a];by_cases e:j=f<;>simp[e,a]
theorem Yb {N:Nat}(p m:BitVec 32)(f:Nat)(v:Int):DO N (sOf p m) (f:Int) v=some (sOf (AA5 p f (v==1)) (AA5 m f (v == -1))):=by unfold DO;rw[if_pos (by omega)];simp only[Aq0,DJ,Jb];cases h1:v==1<;>cases a:v == -1<;>simp[AA5]
def Ac2 (p m c a b:BitVec 32):Sound×Int:=if vB p m=true/\vB a b then (if c.toNat<16777216/\c &&& (a ||| b)=0#32 then (sOf (PA p a (c ||| (a ||| b))) (PA m b (c ||| (a ||| b))),0)else (⟨0,0⟩,2))else (⟨0,0⟩,14)
theorem VZ {N:Nat}(p m c a b:BitVec 32):N7 N (sOf p m) (c.toNat:Int) (sOf a b)=some (Ac2 p m c a b):=by
 unfold N7 Ac2;rw[AU];simp only[AD1,lt,AU,Cs,Jb,Ec,Ai2];cases h1:vB p m
 ·simp
 cases g:vB a b
 ·simp
 by_cases d:c.toNat<16777216
 ·have e:((c &&& (a ||| b)).toNat:Int) != 0 ↔ ¬(c &&& (a ||| b)=0#32):=by
   have:=eq0 (c &&& (a ||| b))
   simp only[bne_iff_ne,ne_eq];rw[<- decide_eq_true_eq (p:=c &&& (a ||| b)=0#32),<- this];simp
  by_cases f:c &&& (a ||| b)=0#32
  ·simp[d,f];omega
  ·have e':=e.2 f;rw[if_neg (by simp<;>omega),e'];simp[d,f]
 ·simp[d];omega
theorem Wa {N:Nat}(p m c a b:BitVec 32)(t:1000<=N):U9 N (sOf p m) (c.toNat:Int) (sOf a b)=some (Ac2 p m c a b):=by
 suffices h:∃r,U9 N (sOf p m) (c.toNat:Int) (sOf a b)=some r/\r=Ac2 p m c a b by obtain⟨r,h,rfl⟩:=h;exact h
 unfold U9;rw[X7 p m t];refine B0 rfl (ltX ?_);cases h1:vB p m
 ·exact ifT (by simp) (ifT rfl ⟨_,rfl,by simp[Ac2,h1]⟩)
 refine ifF (by simp) ?_;rw[X7 a b t];refine B0 rfl ?_;cases o:vB a b
 ·exact ifT (by simp) ⟨_,rfl,by simp[Ac2,o]⟩
 refine ifF (by simp) ?_;rw[Jb,Ec];by_cases hc:c.toNat<16777216/\c &&& (a ||| b)=0#32
 ·obtain⟨q,n⟩:=hc;refine ifF (by rw[n];simp;omega) ?_;have y:∀j,j<32->¬(c.getLsbD j=true/\(a.getLsbD j=true \/ b.getLsbD j=true)):=fun j d=>by
   have:=(z32 _).1 n j d
   rw[AE5,AE4]at this;revert this;cases c.getLsbD j<;>cases a.getLsbD j<;>cases b.getLsbD j<;>simp
  refine XY (fun i x2 x3 x4=>x4=(i:Int)/\∃P M:BitVec 32,x2=(P.toNat:Int)/\x3=(M.toNat:Int)/\∀j,j<32 ->
   P.getLsbD j=(if j<i/\(c.getLsbD j=true \/ a.getLsbD j=true \/ b.getLsbD j=true)then a.getLsbD j else p.getLsbD j)/\M.getLsbD j=(if j<i/\(c.getLsbD j=true \/ a.getLsbD j=true \/ b.getLsbD j=true)then b.getLsbD j else m.getLsbD j)) 24 _ (by omega)
   ⟨rfl,p,m,rfl,rfl,fun j d=>by simp⟩ ?_
  rintro w i x2 x3 x4 hi ⟨rfl,P,M,rfl,rfl,f⟩ hs;by_cases hl:i<24
  ·refine ifT (by simp;omega) (ifT (by omega) ?_);rw[UG];have u:=UI (N:=N) a b o i hl t;have v:=((ET a b).1 o i (by omega)).1;have z:=y i (by omega);by_cases l:c.getLsbD i=true
   ·refine ifT l (B0 (Yb P M i 0) (B0 u ?_));have ea:a.getLsbD i=false:=by cases e:a.getLsbD i<;>simp_all
    have eb:b.getLsbD i=false:=by cases e:b.getLsbD i<;>simp_all
    refine ifF (by simp[gB,ea,eb]) (hs hl _ _ _ ⟨B4 (by omega),_,_,rfl,rfl,fun j d=>?_⟩);rw[FY _ _ _ d,FY _ _ _ d];by_cases e:j=i
    ·subst e;simp[l,ea,eb]
    ·have:=f j d
     have e2:j<i+1↔j<i:=by omega
     simp only[e,if_false,e2];exact this
   ·refine ifF l (B0 u ?_);by_cases s:gB a b i=0
    ·have ea:a.getLsbD i=false:=by revert s;simp only[gB];cases a.getLsbD i<;>simp
     have eb:b.getLsbD i=false:=by revert s;simp only[gB,ea];cases b.getLsbD i<;>simp
     refine ifF (by simp[s]) (hs hl _ _ _ ⟨B4 (by omega),P,M,rfl,rfl,fun j d=>?_⟩);by_cases e:j=i
     ·subst e;have:=f j d;simpa[l,ea,eb]using this
     ·have:=f j d
      have e2:j<i+1↔j<i:=by omega
      simp only[e2];exact this
    ·refine ifT (by simp[s]) (B0 u (B0 (Yb P M i _) (hs hl _ _ _ ⟨B4 (by omega),_,_,rfl,rfl,fun j d=>?_⟩)));rw[FY _ _ _ d,FY _ _ _ d];by_cases e:j=i
     ·subst e;revert s v;simp only[gB];cases a.getLsbD j<;>cases b.getLsbD j<;>simp
     ·have:=f j d
      have e2:j<i+1↔j<i:=by omega
      simp only[e,if_false,e2];exact this
  ·obtain rfl:i=24:=by omega
   refine ifF (by simp) ⟨_,rfl,?_⟩;simp only[Ac2,h1,o,q,n,and_self,if_true];have hp:=(ET p m).1 h1;have x:=(ET a b).1 o;have a0:=(FD c).1 q;have eP:P=PA p a (c ||| (a ||| b)):=HT fun j d=>by
    rw[(f j d).1,PA,AE4,AE5,AE5,AH6,AE4,AE4];by_cases g:j<24
    ·cases c.getLsbD j<;>cases a.getLsbD j<;>cases b.getLsbD j<;>cases p.getLsbD j<;>simp[g,d]
    ·have g1:=(hp j d).2 (by omega);have g2:=(x j d).2 (by omega);simp[g,g1.1,g2.1]
   have eM:M=PA m b (c ||| (a ||| b)):=HT fun j d=>by
    rw[(f j d).2,PA,AE4,AE5,AE5,AH6,AE4,AE4];by_cases g:j<24
    ·cases c.getLsbD j<;>cases a.getLsbD j<;>cases b.getLsbD j<;>cases m.getLsbD j<;>simp[g,d]
    ·have g1:=(hp j d).2 (by omega);have g2:=(x j d).2 (by omega);simp[g,g1.2,g2.2]
   rw[eP,eM]
 ·refine ifT ?_ ⟨_,rfl,?_⟩
  ·rw[AE2,decide_eq_true_eq,bne_iff_ne];by_cases h:c.toNat<16777216
   ·right
    intro h0;exact hc ⟨h,AG7 (by show _=0;omega)⟩
   ·left;omega
  ·simp only[Ac2,h1,o,and_self,if_true];rw[if_neg hc]
def Ac3 (p m a b s:BitVec 32):Sound×Int:=if vB p m=true/\vB a b then (if s.toNat<16777216 then (sOf (PA p a s) (PA m b s),0)else (⟨0,0⟩,2))else (⟨0,0⟩,14)
theorem Ac4 {N:Nat}(p m a b s:BitVec 32):S1 N (sOf p m) (sOf a b) (s.toNat:Int)=some (Ac3 p m a b s):=by
 unfold S1 Ac3;rw[AU];simp only[AD1,lt,AU,Ai2];cases h1:vB p m
 ·simp
 cases d:vB a b
 ·simp
 by_cases c:s.toNat<16777216
 ·simp[c];omega
 ·simp[c];omega
theorem Ac5 {N:Nat}(p m a b s:BitVec 32)(o:1000<=N):Bf N (sOf p m) (sOf a b) (s.toNat:Int)=some (Ac3 p m a b s):=by
 suffices h:∃r,Bf N (sOf p m) (sOf a b) (s.toNat:Int)=some r/\r=Ac3 p m a b s by obtain⟨r,h,rfl⟩:=h;exact h
 unfold Bf;rw[X7 p m o];refine B0 rfl (ltX ?_);cases h1:vB p m
 ·exact ifT (by simp) (ifT rfl ⟨_,rfl,by simp[Ac3,h1]⟩)
 refine ifF (by simp) ?_;rw[X7 a b o];refine B0 rfl ?_;cases l:vB a b
 ·exact ifT (by simp) ⟨_,rfl,by simp[Ac3,l]⟩
 refine ifF (by simp) ?_;by_cases hc:s.toNat<16777216
 ·refine ifF (by simp;omega) ?_;refine XY (fun i x2 x3 x4=>x4=(i:Int)/\∃P M:BitVec 32,x2=(P.toNat:Int)/\x3=(M.toNat:Int)/\∀j,j<32 ->
   P.getLsbD j=(if j<i/\s.getLsbD j then a.getLsbD j else p.getLsbD j)/\M.getLsbD j=(if j<i/\s.getLsbD j then b.getLsbD j else m.getLsbD j)) 24 _ (by omega)
   ⟨rfl,p,m,rfl,rfl,fun j c=>by simp⟩ ?_
  rintro t i x2 x3 x4 u ⟨rfl,P,M,rfl,rfl,d⟩ hs;by_cases hl:i<24
  ·refine ifT (by simp;omega) (ifT (by omega) ?_);rw[UG];have q:=((ET a b).1 l i (by omega)).1;by_cases g:s.getLsbD i=true
   ·refine ifT g (B0 (UI (N:=N) a b l i hl o) (B0 (Yb P M i _) (hs hl _ _ _ ⟨B4 (by omega),_,_,rfl,rfl,fun j c=>?_⟩)));rw[FY _ _ _ c,FY _ _ _ c];by_cases e:j=i
    ·subst e;revert q;simp only[gB,g];cases a.getLsbD j<;>cases b.getLsbD j<;>simp
    ·have:=d j c
     have e2:j<i+1↔j<i:=by omega
     simp only[e,if_false,e2];exact this
   ·refine ifF g (hs hl _ _ _ ⟨B4 (by omega),P,M,rfl,rfl,fun j c=>?_⟩);by_cases e:j=i
    ·subst e;have:=d j c;simpa[g]using this
    ·have:=d j c
     have e2:j<i+1↔j<i:=by omega
     simp only[e2];exact this
  ·obtain rfl:i=24:=by omega
   refine ifF (by simp) ⟨_,rfl,?_⟩;simp only[Ac3,h1,l,hc,and_self,if_true];have n:=(FD s).1 hc;have eP:P=PA p a s:=HT fun j c=>by
    rw[(d j c).1,PA,AE4,AE5,AE5,AH6];by_cases f:j<24
    ·cases s.getLsbD j<;>cases a.getLsbD j<;>cases p.getLsbD j<;>simp[f,c]
    ·rw[if_neg (by simp[f]),n j (by omega) c];simp[c]
   have eM:M=PA m b s:=HT fun j c=>by
    rw[(d j c).2,PA,AE4,AE5,AE5,AH6];by_cases f:j<24
    ·cases s.getLsbD j<;>cases b.getLsbD j<;>cases m.getLsbD j<;>simp[f,c]
    ·rw[if_neg (by simp[f]),n j (by omega) c];simp[c]
   rw[eP,eM]
 ·exact ifT (by simp;omega) ⟨_,rfl,by simp[Ac3,h1,l,hc]⟩
end Go.AM
namespace Go.AM
open Go.Proofs
def vS (s:Sound):Prop:=∃p m:BitVec 32,s=sOf p m/\vB p m=true
def Gc (p:Pat):Prop:=
 (0<=p.Kind/\p.Kind<=6)/\(p.Kind≠1->(p.Is.Plus=0/\p.Is.Minus=0)/\p.Not=false)/\(p.Kind≠3->p.Kind≠4->p.Kind≠5->p.L.n=0)/\(p.Kind≠5->p.Min=0/\p.Max=0) /\
 (p.Kind=5->p.L.n=1/\0<=p.Min/\p.Min<=32/\(p.Max = -1 \/ (p.Min<=p.Max/\p.Max<=32)))/\vS p.Is
theorem Tk {s:Sound}{p m:BitVec 32}(h:s=sOf p m):vS s↔vB p m=true:=by
 constructor
 ·rintro⟨q,r,e,a⟩;rw[h]at e;have e1:(p.toNat:Int)=q.toNat:=congrArg Sound.Plus e;have e2:(m.toNat:Int)=r.toNat:=congrArg Sound.Minus e;rw[AG7 (show p.toNat=q.toNat by omega),AG7 (show m.toNat=r.toNat by omega)];exact a
 ·exact fun a=>⟨p,m,h,a⟩
def okPS:Pat->Prop
 |.nil=>True
 |.mk _ is _ _ _ n g=>okS is/\∀i,i<n->okPS (g i)
theorem okPS.is {p:Pat}(h:okPS p):okS p.Is:=by
 cases p with
 |nil=>exact⟨0#32,0#32,rfl⟩
 |mk _ is _ _ _ n g=>exact h.1
theorem okPS.L {p:Pat}(h:okPS p){i:Nat}(a:i<p.L.n):okPS (p.L.g i):=by
 cases p with
 |nil=>exact absurd a (by show ¬i<0;omega)
 |mk _ is _ _ _ n g=>exact h.2 i a
def chk:Nat->List Pat->Prop
 |0,l=>l=[]
 |_+1,[]=>True
 |k+1,p::l=>Gc p/\chk k (p.L.toList++l)
theorem Yc:∀k,chk k []
 |0=>rfl
 |_+1=>trivial
theorem Lz:∀(k:Nat) (l:List Pat),chk k l->l.length<=k
 |0,l,h=>by rw[show l=[] from h];exact AD3 _
 |k+1,[],_=>AK9 _
 |k+1,p::l,⟨_,h⟩=>by
  have:=Lz k _ h
  rw[AH3]at this;simp only[AF8];omega
theorem UJ:∀(d:Nat) (p:Pat),okP d p->okP (d+1) p
 |0,_,h=>h.elim
 |d+1,p,⟨h1,h2,h3⟩=>⟨h1,h2,fun i a=>UJ d _ (h3 i a)⟩
theorem NA {α : Type}{s:Sl α}{i:Nat}(h:i<s.n):s.g i∈s.toList:=AK1.2 ⟨i,AJ1.2 h,rfl⟩
theorem Cb {α : Type}(s:Sl α):s.toList.length=s.n:=by simp[Sl.toList]
theorem LA:∀(k:Nat) (l:List Pat),k<=40->chk k l->∀p∈l,okP k p
 |0,l,_,h,p,hp=>by rw[show l=[] from h]at hp;cases hp
 |k+1,[],_,_,p,hp=>by cases hp
 |k+1,q::l,hk,⟨hn,h⟩,p,hp=>by
  have ih:=LA k _ (by omega) h;rcases AG0.1 hp with rfl|hp
  ·have hl:=Lz k _ h;rw[AH3,Cb]at hl;exact⟨by omega,fun a=>hn.2.2.2.2.1 a,fun i b=>ih _ (AF5 _ (NA b))⟩
  ·exact UJ k p (ih p (AE3 _ hp))
theorem Ac6 {N:Nat}{p:Pat}(hp:okS p.Is):∃e,IA N p=some e/\(e=0↔Gc p):=by
 obtain⟨a,b,f⟩:=hp;have i:=Tk f;unfold IA Gc;by_cases h1:0<=p.Kind/\p.Kind<=6
 case neg=>exact ifT (by simp;omega) ⟨2,rfl,by simp;omega⟩
 refine ifF (by simp;omega) ?_;have e0:((p.Is.Plus==0)&&(p.Is.Minus==0))=decide (p.Is.Plus=0/\p.Is.Minus=0):=by rw[AG1];simp
 rw[e0];by_cases c:p.Kind≠1->(p.Is.Plus=0/\p.Is.Minus=0)/\p.Not=false
 case neg=>
  refine ifT ?_ ⟨2,rfl,by simp[c]⟩;simp only[AD2,AE2,bne_iff_ne,ne_eq,AQ1,decide_eq_false_iff_not];rw[Classical.not_imp]at c;refine⟨c.1,?_⟩;by_cases h:p.Is.Plus=0/\p.Is.Minus=0
  ·right
   cases hn:p.Not
   ·exact absurd ⟨h,hn⟩ c.2
   ·rfl
  ·exact .inl h
 refine ifF ?_ (ltX ?_)
 ·simp only[AD2,AE2,bne_iff_ne,ne_eq,AQ1,decide_eq_false_iff_not];rintro⟨g1,g2⟩;obtain⟨g3,g4⟩:=c g1;rcases g2 with g2|g2
  ·exact g2 g3
  ·rw[g4]at g2;cases g2
 have rest:(p.Kind≠3->p.Kind≠4->p.Kind≠5->p.L.n=0)->∃e,(if ((p.Kind != 5)&&((p.Min != 0)||(p.Max != 0))) then some (2:Int)else
  lt (fun (z2:Bool)=>if z2 then some 2 else (V2 N p.Is).bind fun y1=>if (!y1) then some 14 else some 0) fun k2=>
   if (p.Kind==5) then if (((p.L.n:Nat):Int) != 1) then k2 true else if (decide (p.Min<0)) then k2 true else if (decide (32<p.Min)) then k2 true else
    if (p.Max != (-1)) then if (decide (p.Max<p.Min)) then k2 true else k2 (decide (32<p.Max))else k2 false else k2 false)=some e /\
  (e=0↔(0<=p.Kind/\p.Kind<=6)/\(p.Kind≠1->(p.Is.Plus=0/\p.Is.Minus=0)/\p.Not=false)/\(p.Kind≠3->p.Kind≠4->p.Kind≠5->p.L.n=0)/\(p.Kind≠5->p.Min=0/\p.Max=0) /\
   (p.Kind=5->p.L.n=1/\0<=p.Min/\p.Min<=32/\(p.Max = -1 \/ (p.Min<=p.Max/\p.Max<=32)))/\vS p.Is):=by
  intro j;by_cases d:p.Kind≠5->p.Min=0/\p.Max=0
  case neg=>refine ifT ?_ ⟨2,rfl,by simp[d]⟩;rw[Classical.not_imp]at d;simp only[AD2,AE2,bne_iff_ne,ne_eq];omega
  refine ifF ?_ (ltX ?_)
  ·simp only[AD2,AE2,bne_iff_ne,ne_eq];rintro⟨g1,g2⟩
   have:=d g1
   omega
  have last:(p.Kind=5->p.L.n=1/\0<=p.Min/\p.Min<=32/\(p.Max = -1 \/ (p.Min<=p.Max/\p.Max<=32)))->∃e,(if false then some (2:Int)else (V2 N p.Is).bind fun y1=>if (!y1) then some 14 else some 0)=some e /\
   (e=0↔(0<=p.Kind/\p.Kind<=6)/\(p.Kind≠1->(p.Is.Plus=0/\p.Is.Minus=0)/\p.Not=false)/\(p.Kind≠3->p.Kind≠4->p.Kind≠5->p.L.n=0)/\(p.Kind≠5->p.Min=0/\p.Max=0) /\
    (p.Kind=5->p.L.n=1/\0<=p.Min/\p.Min<=32/\(p.Max = -1 \/ (p.Min<=p.Max/\p.Max<=32)))/\vS p.Is):=by
   intro g;refine ifF (by simp) ?_;rw[i,f,Nz];refine B0 rfl ?_;cases l:vB a b
   ·exact ifT rfl ⟨14,rfl,by simp⟩
   ·exact ifF (by simp) ⟨0,rfl,by rw[<- f];exact⟨fun _=>⟨h1,c,j,d,g,rfl⟩,fun _=>rfl⟩⟩
  have bad:¬(p.Kind=5->p.L.n=1/\0<=p.Min/\p.Min<=32/\(p.Max = -1 \/ (p.Min<=p.Max/\p.Max<=32)))->∃e,(if true then some (2:Int)else (V2 N p.Is).bind fun y1=>if (!y1) then some 14 else some 0)=some e /\
   (e=0↔(0<=p.Kind/\p.Kind<=6)/\(p.Kind≠1->(p.Is.Plus=0/\p.Is.Minus=0)/\p.Not=false)/\(p.Kind≠3->p.Kind≠4->p.Kind≠5->p.L.n=0)/\(p.Kind≠5->p.Min=0/\p.Max=0) /\
    (p.Kind=5->p.L.n=1/\0<=p.Min/\p.Min<=32/\(p.Max = -1 \/ (p.Min<=p.Max/\p.Max<=32)))/\vS p.Is):=fun g=>ifT rfl ⟨2,rfl,⟨fun h=>absurd h (by decide),fun h=>absurd h.2.2.2.2.1 g⟩⟩
  by_cases k5:p.Kind=5
  ·refine ifT (by simp[k5]) ?_;by_cases g1:p.L.n=1
   case neg=>exact ifT (by simp;omega) (bad fun h=>g1 (h k5).1)
   refine ifF (by simp;omega) ?_;by_cases g2:p.Min<0
   ·exact ifT (by simpa using g2) (bad fun h=>by have:=h k5;omega)
   refine ifF (by simpa using g2) ?_;by_cases g3:32<p.Min
   ·exact ifT (by simpa using g3) (bad fun h=>by have:=h k5;omega)
   refine ifF (by simpa using g3) ?_;by_cases g4:p.Max = -1
   ·exact ifF (by simp[g4]) (last fun _=>⟨g1,by omega,by omega,.inl g4⟩)
   refine ifT (by simp[g4]) ?_;by_cases g5:p.Max<p.Min
   ·exact ifT (by simpa using g5) (bad fun h=>by have:=h k5;omega)
   refine ifF (by simpa using g5) ?_;by_cases g6:32<p.Max
   ·rw[decide_eq_true g6];exact bad fun h=>by have:=h k5;omega
   ·rw[decide_eq_false g6];exact last fun _=>⟨g1,by omega,by omega,.inr ⟨by omega,by omega⟩⟩
  ·exact ifF (by simp[k5]) (last fun h=>absurd h k5)
 by_cases k3:p.Kind=3
 ·exact ifF (by simp[k3]) (ifF (by simp) (rest fun h=>absurd k3 h))
 refine ifT (by simp[k3]) ?_;by_cases k4:p.Kind=4
 ·exact ifF (by simp[k4]) (ifF (by simp) (rest fun _ h=>absurd k4 h))
 refine ifT (by simp[k4]) ?_;by_cases k5:p.Kind=5
 ·exact ifF (by simp[k5]) (ifF (by simp) (rest fun _ _ h=>absurd k5 h))
 refine ifT (by simp[k5]) ?_;by_cases hn:p.L.n=0
 ·exact ifF (by simp;omega) (rest fun _ _ _=>hn)
 ·exact ifT (by simp;omega) ⟨2,rfl,⟨fun h=>absurd h (by decide),fun h=>absurd (h.2.2.1 k3 k4 k5) hn⟩⟩
theorem Ez {α : Type}(s:Sl α){i:Nat}(h:i<s.n):s.toList.drop i=s.g i::s.toList.drop (i+1):=by
 have hl:i<s.toList.length:=by rw[Cb];exact h
 rw[AN8 hl];simp[Sl.toList]
theorem CE {α : Type}(s:Sl α):s.toList.drop s.n=[]:=AJ7 (by rw[Cb];exact AD3 _)
theorem Yd {N:Nat}(o:1000<=N):∀(d:Nat),d<=40->∀(p:Pat),okPS p->∀M,N+d+1<=M->∃r,DP M p ((40-d:Nat):Int)=some r /\
 ∃k:Nat,r.1=(k:Int)/\40-d<=k/\k<=40/\(r.2=0->40-d<k/\∀l,chk d (p::l)↔chk (40-k) l)/\(r.2≠0->∀l,¬chk d (p::l))
 |d,hd,p,hp,0,hM=>by omega
 |0,hd,p,hp,M+1,hM=>by show ∃r,Bx (DP M) M p _=some r/\_;unfold Bx;exact ifT (by simp) ⟨_,rfl,40,rfl,by omega,by omega,fun h=>absurd h (by decide),fun _ l h=>by cases h⟩
 |d+1,hd,p,hp,M+1,hM=>by
  show ∃r,Bx (DP M) M p _=some r/\_;unfold Bx;refine ifF (by simp;omega) ?_;obtain⟨e,q,hn⟩:=Ac6 (N:=M) hp.is;refine B0 q ?_;by_cases c:e=0
  case neg=>exact ifT (by simp[c]) ⟨_,rfl,40-(d+1),rfl,AD3 _,by omega,fun h=>absurd h c,fun _ l h=>c (hn.2 h.1)⟩
  refine ifF (by simp[c]) ?_;have a:=hn.1 c;rw[B4 (by omega)];refine N2 (fun i x1 x2=>x2=(i:Int)/\∃k:Nat,x1=(k:Int)/\40-(d+1)+1+i<=k/\k<=40/\i<=p.L.n/\∀l,chk (d+1) (p::l)↔chk (40-k) (p.L.toList.drop i++l)) 41 _ (by omega)
   ⟨rfl,40-(d+1)+1,rfl,by omega,by omega,by omega,fun l=>by rw[show 40-(40-(d+1)+1)=d by omega];exact⟨fun h=>h.2,fun h=>⟨a,h⟩⟩⟩ ?_
  rintro j i x1 x2 t ⟨rfl,k,rfl,h1,s,u,f⟩ hs;by_cases hl:i<p.L.n
  ·refine ifT (by simp;omega) (ifT (by omega) ?_);obtain⟨r,m,k',r1,r2,r3,r4,r5⟩:=Yd o (40-k) (by omega) (p.L.g i) (hp.L hl) M (by omega);rw[show ((40-(40-k):Nat):Int)=(k:Int) by omega]at m;refine B0 (by rw[AC6];exact m) ?_;by_cases b:r.2=0
   ·refine ifF (by simp[b]) (hs (by omega) _ _ ⟨B4 (by omega),k',r1,by have:=(r4 b).1;omega,r3,by omega,fun l=>?_⟩);rw[f,Ez _ hl,AG9];exact (r4 b).2 _
   ·refine ifT (by simp[b]) ⟨_,rfl,k',r1,by omega,r3,fun h=>absurd h b,fun _ l hc=>?_⟩;rw[f,Ez _ hl,AG9]at hc;exact r5 b _ hc
  ·obtain rfl:i=p.L.n:=by omega
   refine ifF (by simp) ⟨_,rfl,k,rfl,by omega,s,fun _=>⟨by omega,fun l=>?_⟩,fun h=>absurd rfl h⟩;rw[f,CE];rfl
theorem LB {N:Nat}(f:2000<=N){p:Pat}(hp:okPS p):∃e,Cu N p=some e/\(e=0↔chk 40 [p]):=by
 obtain⟨r,b,k,h1,g,i,c,d⟩:=Yd (N:=1500) (by omega) 40 (AD3 _) p hp N (by omega);unfold Cu;refine B0 b ⟨_,rfl,fun h=>?_,fun h=>?_⟩
 ·exact ((c h).2 []).2 (Yc _)
 ·by_cases a:r.2=0
  ·exact a
  ·exact absurd h (d a [])
end Go.AM
namespace Go.AM
open Go.Proofs
theorem Ye (x:BitVec 64)(h:x≠0#64):Lib.ctz 64 x.toNat<64/\x.getLsbD (Lib.ctz 64 x.toNat)=true/\∀j,j<Lib.ctz 64 x.toNat->x.getLsbD j=false:=by
 have b:x.toNat≠0:=fun e=>h (AG7 (by simpa using e));obtain⟨m,hm,a⟩:=Lib.ctzFrom_spec 64 x.toNat (by omega) x.isLt;have e:Lib.ctz 64 x.toNat=Lib.ctzFrom 64 x.toNat:=by unfold Lib.ctz;rw[if_neg b]
 rw[e];refine⟨a,?_,fun j c=>?_⟩
 ·show x.toNat.testBit _=true;rw[hm,AT1];simp[<- hm,Nat.testBit_zero]
 ·show x.toNat.testBit _=false;rw[hm,AT1];simp[<- hm];omega
def EA (x:BitVec 64)(i:Nat):List Int:=((List.range' i (64-i)).filter fun j=>x.getLsbD j).map fun (j:Nat)=>(j:Int)
theorem II {x:BitVec 64}{i:Nat}(h:∀j,j<64->x.getLsbD j=false):EA x i=[]:=by
 unfold EA;rw[AT9.2 fun j a=>by
  have:=List.mem_range'.1 a
  simp;exact h j (by omega)]
 rfl
theorem NB {x:BitVec 64}{t:Nat}:∀(k i:Nat),t=i+k->t<64->x.getLsbD t=true->(∀j,j<t->x.getLsbD j=false)->EA x i=(t:Int)::EA x (t+1)
 |0,i,h,ht,hb,hl=>by
  obtain rfl:t=i:=by omega
  unfold EA;rw[show 64-t=(64-(t+1))+1 by omega,AO2,AT2 hb];rfl
 |k+1,i,h,ht,hb,hl=>by rw[<- NB k (i+1) (by omega) ht hb hl];unfold EA;rw[show 64-i=(64-(i+1))+1 by omega,AO2,AT3 (by simp;exact hl i (by omega))]
theorem Tl {x y:BitVec 64}{i:Nat}(h:∀j,i<=j->x.getLsbD j=y.getLsbD j):EA x i=EA y i:=by unfold EA;rw[List.filter_congr fun j a=>h j (by have:=List.mem_range'.1 a;omega)]
def AC3 (M:Nat)(a:Int->Option (List Int))(x1:Int):Option (List Int):=
 if (x1 != 0) then
  (F6 M x1).bind fun y3=>
  if (0:Int)<=y3 then
   Bb y3 (
    a (F9 .andNot .u64 x1 (shI .shl .u64 1 y3))
    )
  else none
 else
  some []
theorem Yf {x:BitVec 64}{M:Nat}{a:Int->Option (List Int)}(hx:x≠0#64):AC3 M a (U x)=Bb ((Lib.ctz 64 x.toNat:Nat):Int) (a (U (x &&& ~~~(1#64 <<< Lib.ctz 64 x.toNat)))):=by
 have c:x.toNat≠0:=fun e=>hx (AG7 (by simpa using e));have b:=x.isLt;unfold AC3;rw[if_pos (by simp;omega)]
 have:F6 M (U x)=some ((Lib.ctz 64 x.toNat:Nat):Int):=by unfold F6;rw[if_pos ⟨show (0:Int)<=(x.toNat:Int) by omega,show (x.toNat:Int)<18446744073709551616 by omega⟩];rfl
 rw[this,AD1,if_pos (by omega),QS _ (Ye x hx).1,Ab5]
theorem Ri {M:Nat}{a:Int->Option (List Int)}:AC3 M a (U 0#64)=some []:=rfl
theorem Aq4 (M:Nat):∀(k i:Nat) (x:BitVec 64),64-i<=k->(∀j,j<i->x.getLsbD j=false)->∀N,k<N->R9 N (AC3 M) (U x)=some (EA x i):=by
 intro k
 induction k with
 |zero=>
  intro i x hk hl N b;have g:x=0#64:=AI0 fun j a=>by simp;exact hl j (by omega)
  subst g
  match N,b with
  |N+1,_=>rw[II fun j a=>by simp,AI,Ri]
 |succ k ih=>
  intro i x hk hl N b
  match N,b with
  |N+1,b=>
   by_cases hx:x=0#64
   ·subst hx;rw[II fun j a=>by simp,AI,Ri]
   ·obtain⟨h1,c,d⟩:=Ye x hx;have l:i<=Lib.ctz 64 x.toNat:=by
     by_cases m:Lib.ctz 64 x.toNat<i
     ·rw[hl _ m]at c;cases c
     ·omega
    rw[NB (Lib.ctz 64 x.toNat-i) i (by omega) h1 c d,AI,Yf hx];generalize Lib.ctz 64 x.toNat=t at h1 c d l;have hb:∀j,j<64->(x &&& ~~~(1#64 <<< t)).getLsbD j=(x.getLsbD j && !decide (j=t)):=fun j a=>by rw[AE5,AH6,Fs h1 a];simp[a]
    have hc:EA x (t+1)=EA (x &&& ~~~(1#64 <<< t)) (t+1):=Tl fun j a=>by
     by_cases f:j<64
     ·rw[hb j f];have:¬j=t:=by omega
      simp[this]
     ·rw[AU9 _ _ (by omega),AU9 _ _ (by omega)]
    rw[ih (t+1) (x &&& ~~~(1#64 <<< t)) (by omega) (fun j a=>by
     rw[hb j (by omega)];by_cases e:j=t
     ·simp[e]
     ·rw[d j (by omega)];rfl) N (by omega),<- hc]
    rfl
theorem GS (x:BitVec 64){N:Nat}(b:100<=N):P0 N (U x)=some (EA x 0):=
 Aq4 N 64 0 x (by omega) (fun j a=>absurd a (by omega)) N (by omega)
theorem mem_bitsF {x:BitVec 64}{i:Nat}{y:Int}:y∈EA x i ↔ ∃j:Nat,y=(j:Int)/\i<=j/\j<64/\x.getLsbD j=true:=by
 unfold EA;simp only[AK1,AP0,AS1];constructor
 ·rintro⟨j,⟨h1,a⟩,rfl⟩;exact⟨j,rfl,h1.1,by omega,a⟩
 ·rintro⟨j,rfl,h1,a,b⟩;exact⟨j,⟨⟨h1,by omega⟩,b⟩,rfl⟩
theorem Ac7 {T A R:Type}{body:(A->Option R)->T->A->Option R}{k:A->Option R}{J7:R->Prop}(J:List T->A->Prop)(c:∀a,J [] a->∃r,k a=some r/\J7 r)
 (b:∀t L a self,J (t::L) a->(∀a',J L a' -> ∃r,self a' = some r/\J7 r)->∃r,body self t a=some r/\J7 r):∀(L:List T) (a:A),J L a->∃r,P4 L body k a=some r/\J7 r
 |[],a,h=>c a h
 |t::L,a,h=>b t L a _ h fun a' h'=>Ac7 J c b L a' h'
def TabA (n:Nat)(R:Nat->Nat->Prop)(f:Nat->Int):Prop:=TabR n R f/\∀a,n<a->f a=0
theorem TabA.congr {n:Nat}{R R' : Nat->Nat->Prop}{f:Nat->Int}(h:TabA n R f)(c:∀a b,a<=n->b<=n->(R a b↔R' a b)):TabA n R' f:=⟨h.1.congr c,h.2⟩
theorem zeroA (n:Nat):TabA n (fun _ _=>False) (fun _=>0):=⟨Ac1 fun _ _=>rfl,fun _ _=>rfl⟩
theorem CX (f:Nat->Int)(i:Nat)(v:Int)(a:Nat):KH f i v a=if a=i then v else f a:=rfl
theorem Ai3 {N n:Nat}{R S:Nat->Nat->Prop}{x y:Nat->Int}(hn:n<=32)(f:1000<=N)(hR:TabA n R x)(hS:TabA n S y) :∃s,K7 N x y=some s/\TabA n (fun a b=>R a b \/ S a b) s:=by
 unfold K7;refine N2 (fun i x1 x2=>x2=(i:Int)/\∀a,x1 a=if a<i then F9 .or .u64 (x a) (y a)else x a) 33 _ (by omega) ⟨rfl,fun a=>by rw[if_neg (by omega)]⟩ ?_;rintro d i x1 x2 g ⟨rfl,c⟩ hs;by_cases hl:i<33
 ·refine ifT (by simp;omega) (ifT (by omega) (ifT (by omega) (hs (by omega) _ _ ⟨B4 (by omega),fun a=>?_⟩)));rw[CX,AC6,AF9,AH8];by_cases e:a=i
  ·subst e;rw[if_pos rfl,if_pos (by omega),c a,if_neg (by omega)]
  ·rw[if_neg e,c a];by_cases e2:a<i
   ·rw[if_pos e2,if_pos (by omega)]
   ·rw[if_neg e2,if_neg (by omega)]
 ·refine ifF (by simp;omega) ⟨x1,rfl,fun a ha=>?_,fun a ha=>?_⟩
  ·obtain⟨u,e1,g1⟩:=hR.1 a ha;obtain⟨v,e2,g2⟩:=hS.1 a ha;refine⟨u ||| v,by rw[c a,if_pos (by omega),e1,e2,AC2],fun b hb=>?_⟩;rw[AE4,AE2,g1 b hb,g2 b hb];constructor
   ·rintro (⟨h1,c⟩ | ⟨h1,c⟩)
    ·exact⟨h1,.inl c⟩
    ·exact⟨h1,.inr c⟩
   ·rintro⟨h1,c|c⟩
    ·exact .inl ⟨h1,c⟩
    ·exact .inr ⟨h1,c⟩
  ·rw[c a];split
   ·rw[hR.2 a ha,hS.2 a ha];rfl
   ·exact hR.2 a ha
theorem FE {N n:Nat}(hn:n<=32)(f:1000<=N):∃s,O4 N (n:Int)=some s/\TabA n (fun a b=>a=b) s:=by
 unfold O4;rw[B4 (by omega)];refine N2 (fun i x1 x2=>x2=(i:Int)/\∀a,x1 a=if a<i then U (1#64 <<< a)else 0) (n+1) _ (by omega) ⟨rfl,fun a=>rfl⟩ ?_;rintro d i x1 x2 g ⟨rfl,c⟩ hs;by_cases hl:i<=n
 ·refine ifT (by simp;omega) (ifT (by omega) (hs (by omega) _ _ ⟨B4 (by omega),fun a=>?_⟩));rw[CX,AC6,AF9,AH8];by_cases e:a=i
  ·subst e;rw[if_pos rfl,if_pos (by omega),QS _ (by omega)]
  ·rw[if_neg e,c a];by_cases e2:a<i
   ·rw[if_pos e2,if_pos (by omega)]
   ·rw[if_neg e2,if_neg (by omega)]
 ·refine ifF (by simp;omega) ⟨x1,rfl,fun a ha=>⟨1#64 <<< a,by rw[c a,if_pos (by omega)],fun b hb=>?_⟩,fun a ha=>by rw[c a,if_neg (by omega)]⟩;rw[Fs (by omega) hb,decide_eq_true_eq];omega
theorem JR {N n:Nat}{R S:Nat->Nat->Prop}{x y:Nat->Int}(hn:n<=32)(hN:1000<=N)(hR:TabA n R x)(hS:TabA n S y) :∃s,D4 N x y=some s/\TabA n (fun a b=>∃c,c<=n/\R a c/\S c b) s:=by
 unfold D4;refine N2 (fun i x3 x4=>x4=(i:Int)/\(∀a,a<i->a<=n->∃z:BitVec 64,x3 a=U z/\∀b,b<64->(z.getLsbD b=true↔b<=n/\∃c,c<=n/\R a c/\S c b))/\∀a,i<=a \/ n<a->x3 a=0) 33 _ (by omega)
  ⟨rfl,fun a ha=>absurd ha (by omega),fun a _=>rfl⟩ ?_
 rintro a1 i x3 x4 hi ⟨rfl,q,m⟩ hs;by_cases hl:i<33
 ·refine ifT (by simp;omega) (ifT (by omega) ?_);rw[AC6,AF9,AH8];refine B0 (x:=x i) rfl ?_;by_cases r:i<=n
  ·obtain⟨u,e1,g1⟩:=hR.1 i r;refine B0 (x:=EA u 0) (by rw[e1];exact GS u (by omega)) ?_;refine Ac7 (fun L z=>(∀a,a≠i->z a=x3 a)/\(∀t∈L,∃c:Nat,t=(c:Int)/\c<=n/\R i c)/\∃v:BitVec 64,z i=U v/\∀b,b<64->((v.getLsbD b=true \/ ∃c:Nat,(c:Int)∈L/\b<=n/\S c b)↔(b<=n/\∃c,c<=n/\R i c/\S c b))) ?_ ?_ _ _ ?_
   ·rintro z ⟨k1,k2,v,k3,k4⟩;refine hs (by omega) _ _ ⟨B4 (by omega),fun a ha f=>?_,fun a ha=>?_⟩
    ·by_cases e:a=i
     ·subst e;exact⟨v,k3,fun b hb=>by rw[<- k4 b hb];simp⟩
     ·obtain⟨z',p1,p2⟩:=q a (by omega) f;exact⟨z',by rw[k1 a e];exact p1,p2⟩
    ·rw[k1 a (by omega)];exact m a (by omega)
   ·rintro t L z w ⟨k1,k2,v,k3,k4⟩ a0;obtain⟨c,rfl,hc,a2⟩:=k2 t (by simp);refine ifT (by omega) (a0 _ ⟨fun a ha=>?_,fun t ht=>k2 t (by simp[ht]),?_⟩)
    ·rw[CX,if_neg (by omega)];exact k1 a ha
    ·obtain⟨yc,e2,g2⟩:=hS.1 c hc;refine⟨v ||| yc,?_,fun b hb=>?_⟩
     ·rw[CX,if_pos (by omega)];simp only[AC6,AF9,AH8];rw[k3,e2,AC2]
     ·rw[<- k4 b hb,AE4,AE2,g2 b hb];constructor
      ·rintro ((h|⟨h,h'⟩)|⟨c',h,h'⟩)
       ·exact .inl h
       ·exact .inr ⟨c,by simp,h,h'⟩
       ·exact .inr ⟨c',by simp[h],h'⟩
      ·rintro (h|⟨c',h,h',d⟩)
       ·exact .inl (.inl h)
       ·rcases AG0.1 h with h|h
        ·have:c' = c:=by omega
         subst this;exact .inl (.inr ⟨h',d⟩)
        ·exact .inr ⟨c',h,h',d⟩
   ·refine⟨fun _ _=>rfl,fun t ht=>?_,0#64,m i (.inl (AD3 _)),fun b hb=>?_⟩
    ·obtain⟨j,rfl,_,o,hb⟩:=mem_bitsF.1 ht;exact⟨j,rfl,((g1 j o).1 hb).1,((g1 j o).1 hb).2⟩
    ·simp only[AQ8,AD5,false_or];constructor
     ·rintro⟨c,hc,h,h'⟩;obtain⟨j,o,_,g,l⟩:=mem_bitsF.1 hc;obtain rfl:c=j:=by omega
      exact⟨h,c,((g1 c g).1 l).1,((g1 c g).1 l).2,h'⟩
     ·rintro⟨h,c,hc,h',d⟩;exact⟨c,mem_bitsF.2 ⟨c,rfl,by omega,by omega,(g1 c (by omega)).2 ⟨hc,h'⟩⟩,h,d⟩
  ·refine B0 (x:=[]) (by rw[hR.2 i (by omega)];exact (GS 0#64 (by omega)).trans (by rw[II fun j o=>by simp])) ?_;exact hs (by omega) _ _ ⟨B4 (by omega),fun a ha f=>q a (by omega) f,fun a ha=>m a (by omega)⟩
 ·exact ifF (by simp;omega) ⟨x3,rfl,fun a ha=>q a (by omega) ha,fun a ha=>m a (.inr ha)⟩
theorem Ac8 (N:Nat)(x:Nat->Int):H7 N x=D4 N x x:=rfl
end Go.AM
namespace Go.AM
open Go.Proofs
theorem AA6:∀m:Fin 33,(F9 .and .i64 ((m.val:Nat):Int) 1==1)=decide (m.val % 2=1)/\shI .shr .i64 ((m.val:Nat):Int) 1=((m.val / 2:Nat):Int):=by decide +kernel
theorem Rj {N n:Nat}{R:Nat->Nat->Prop}{x:Nat->Int}(hn:n<=32)(o:1000<=N)(u:Fwd n R)(hR:TabA n R x){k:Nat}(hk:k<=32) :∃s,E6 N x (k:Int) (n:Int)=some s/\TabA n (Gw n R k) s:=by
 unfold E6;obtain⟨y1,e1,h1⟩:=FE (N:=N) hn o;refine B0 e1 ?_;refine XY (fun i x1 x2 x3=>x1=((k / 2 ^ i:Nat):Int)/\TabA n (Gw n R (2 ^ i)) x2/\TabA n (Gw n R (k % 2 ^ i)) x3) 6 _ (by omega) ⟨by simp,?_,?_⟩ ?_
 ·exact hR.congr fun a b ha hb=>⟨fun h=>⟨a,ha,rfl,h⟩,fun⟨c,hc,(h:a=c),h'⟩=>h ▸ h'⟩
 ·rw[Nat.pow_zero,Nat.mod_one];exact h1
 ·rintro v i x1 x2 x3 w ⟨rfl,q,l⟩ hs;have hm:k / 2 ^ i<=32:=AI3 (Nat.div_le_self _ _) hk;obtain⟨b1,b2⟩:=AA6 ⟨k / 2 ^ i,by omega⟩;simp only at b1 b2;have f:k / 2 ^ i / 2=k / 2 ^ (i+1):=by rw[Nat.div_div_eq_div_mul,Nat.pow_succ]
  have g:k % 2 ^ (i+1)=k % 2 ^ i+2 ^ i*(k / 2 ^ i % 2):=Nat.mod_pow_succ;have d:∃s,H7 N x2=some s/\TabA n (Gw n R (2 ^ (i+1))) s:=by obtain⟨s,e,h⟩:=JR hn o q q;refine⟨s,(Ac8 N x2).trans e,h.congr fun a b ha hb=>?_⟩;rw[show 2 ^ (i+1)=2 ^ i+2 ^ i by rw[Nat.pow_succ];omega];exact (CS u (2 ^ i) ha (2 ^ i) b).symm
  obtain⟨sq,esq,d⟩:=d;by_cases m:k / 2 ^ i=0
  ·refine ifF (by simp[m]) ⟨x3,rfl,?_⟩
   have:k % 2 ^ i=k:=AL2 (by
    have:=AV4.1 m
    rcases this with h|h
    ·exact absurd h (Nat.ne_of_gt (Nat.two_pow_pos i))
    ·exact h)
   rw[this]at l;exact l
  ·have j:i<6:=by
    by_cases h:i<6
    ·exact h
    ·exact absurd (AK4 (AW2 hk (AF1 (by decide:32<2 ^ 6) (AL9 (by omega) (by omega))))) m
   refine ifT (decide_eq_true (Int.natCast_pos.2 (Nat.pos_of_ne_zero m))) ?_;by_cases r:k / 2 ^ i % 2=1
   ·refine ifT (by rw[b1];simp[r]) ?_;obtain⟨t,et,ht⟩:=JR hn o l q;refine B0 et (B0 esq (hs j _ _ _ ⟨by rw[b2,f],d,ht.congr fun a b ha hb=>?_⟩));rw[g,r,AH8];exact (CS u (k % 2 ^ i) ha (2 ^ i) b).symm
   ·refine ifF (by rw[b1];simp[r]) (B0 esq (hs j _ _ _ ⟨by rw[b2,f],d,?_⟩));rw[g,show k / 2 ^ i % 2=0 by omega,Nat.mul_zero,AK7];exact l
theorem Aq5 {s c:Sound}(hs:okS s)(hc:okS c):((F9 .or .u32 (F9 .andNot .u32 c.Plus s.Plus) (F9 .andNot .u32 c.Minus s.Minus))==0)=SV s c:=by
 obtain⟨p,m,rfl⟩:=hs;obtain⟨a,b,rfl⟩:=hc;have e:∀x y:BitVec 32,((F9 .and .u32 (x.toNat:Int) (y.toNat:Int))==(y.toNat:Int))=decide (y &&& ~~~ x=0#32):=by
  intro x y;rw[Ec,AG1];simp only[beq_iff_eq,decide_eq_true_eq];constructor
  ·intro h;have h:x &&& y=y:=AG7 (by omega);refine (z32 _).2 fun i d=>?_
   have:=congrArg (·.getLsbD i) h
   simp only[AE5,AH6,d,decide_true,AO8]at this⊢;cases hx:x.getLsbD i<;>cases hy:y.getLsbD i<;>simp_all
  ·intro h
   have:x &&& y=y:=HT fun i d=>by
    have:=(z32 _).1 h i d
    simp only[AE5,AH6,d,decide_true,AO8]at this⊢;cases hx:x.getLsbD i<;>cases hy:y.getLsbD i<;>simp_all
   rw[this]
 unfold SV;simp only[e,DJ,Jb,eq0];rw[AG1];simp only[AD2,decide_eq_true_eq];constructor
 ·intro h;have h:=(z32 _).1 h;exact⟨(z32 _).2 fun i d=>by have:=h i d;rw[AE4,AM0]at this;exact this.1,(z32 _).2 fun i d=>by have:=h i d;rw[AE4,AM0]at this;exact this.2⟩
 ·rintro⟨h1,f⟩;rw[h1,f];rfl
theorem Yg {N:Nat}(q:1000<=N){w:Sl Sound}(hw:w.n<=32)(l:∀i,i<w.n->okS (w.g i)){c:Sound}(hc:okS c)(no:Bool) :∃f,V6 N ⟨c,no⟩ w=some f/\TabA w.n (fun a b=>a<w.n/\b=a+1/\(SV (w.g a) c != no)=true) f:=by
 unfold V6;refine N2 (fun i x1 x2=>x2=(i:Int)/\∀a,x1 a=if a<i/\(SV (w.g a) c != no) then U (1#64 <<< (a+1))else 0) w.n _ (by omega) ⟨rfl,fun a=>by rw[if_neg (by omega)]⟩ ?_;rintro m i x1 x2 r ⟨rfl,d⟩ hs;by_cases hl:i<w.n
 ·refine ifT (by simp;omega) (ifT (by omega) ?_);rw[AC6,Aq5 (l i hl) hc];by_cases hb:(SV (w.g i) c != no)=true
  ·refine ifT (by revert hb;cases SV (w.g i) c<;>cases no<;>simp) ?_;rw[B4 (by omega)];refine ifT (by omega) (hs hl _ _ ⟨rfl,fun a=>?_⟩);rw[CX,AF9,AH8,QS _ (by omega)];by_cases e:a=i
   ·subst e;rw[if_pos rfl,if_pos ⟨by omega,hb⟩]
   ·rw[if_neg e,d a];by_cases e2:a<i
    ·simp only[e2,show a<i+1 by omega,true_and]
    ·rw[if_neg (by omega),if_neg (by omega)]
  ·refine ifF (by revert hb;cases SV (w.g i) c<;>cases no<;>simp) (hs hl _ _ ⟨B4 (by omega),fun a=>?_⟩);rw[d a];by_cases e:a=i
   ·subst e;rw[if_neg (by omega),if_neg (fun h=>hb h.2)]
   ·by_cases e2:a<i
    ·simp only[e2,show a<i+1 by omega,true_and]
    ·rw[if_neg (by omega),if_neg (by omega)]
 ·refine ifF (by simp;omega) ⟨x1,rfl,fun a ha=>?_,fun a ha=>by rw[d a,if_neg (by omega)]⟩;by_cases hb:a<w.n/\(SV (w.g a) c != no)=true
  ·refine⟨1#64 <<< (a+1),by rw[d a,if_pos ⟨by omega,hb.2⟩],fun b j=>?_⟩;rw[Fs (by omega) j,decide_eq_true_eq];exact⟨fun h=>⟨by omega,hb.1,h,hb.2⟩,fun h=>h.2.2.1⟩
  ·refine⟨0#64,by rw[d a,if_neg (fun h=>hb ⟨by omega,h.2⟩)];rfl,fun b j=>?_⟩;simp only[AQ8,AD5,false_iff];rintro⟨_,h1,d,o⟩;exact hb ⟨h1,o⟩
theorem Yh {n a0 b0:Nat}(ha:a0<=n)(hb:b0<=n)(hn:n<=32):TabA n (fun a b=>a=a0/\b=b0) (KH (fun _=>0) a0 (U (1#64 <<< b0))):=by
 refine⟨fun a d=>?_,fun a d=>by rw[CX,if_neg (by omega)]⟩;by_cases e:a=a0
 ·refine⟨1#64 <<< b0,by rw[CX,if_pos e],fun b c=>?_⟩;rw[Fs (by omega) c,decide_eq_true_eq];omega
 ·refine⟨0#64,by rw[CX,if_neg e];rfl,fun b c=>?_⟩;simp only[AQ8,AD5,false_iff];exact fun h=>e h.2.1
theorem UK {N:Nat}{w:Sl Sound}(hw:w.n<=32)(e:Bool):∃f,Z9 N ⟨e⟩ w=some f/\TabA w.n (fun a b=>a=(if e then w.n else 0)/\b=(if e then w.n else 0)) f:=by
 unfold Z9;cases e
 ·refine ifF (by simp) (ifT (by decide) ⟨_,rfl,?_⟩);exact Yh (n:=w.n) (a0:=0) (b0:=0) (by omega) (by omega) hw
 ·refine ifT rfl (ifT (by omega) ⟨_,rfl,?_⟩);rw[AC6,AF9,AH8,QS _ (by omega)];exact Yh (AD3 _) (AD3 _) hw
theorem Aq6 {N:Nat}(a:1000<=N){w:Sl Sound}(hw:w.n<=32){rec:Part->Sl Sound->Option (Nat->Int)}{m:Nat}(hm:m<=40){g:Nat->Part}{Q:Nat->Nat->Nat->Prop}
 (hc:∀i,i<m->∃f,rec (g i) w=some f/\TabA w.n (Q i) f):∃f,AP rec N ⟨⟨m,g⟩⟩ w=some f/\TabA w.n (VV w.n Q m) f:=by
 unfold AP;obtain⟨y1,e1,h1⟩:=FE (N:=N) hw a;refine B0 e1 ?_;refine N2 (fun i x1 x2=>x2=(i:Int)/\i<=m/\TabA w.n (VV w.n Q i) x1) m _ (by omega) ⟨rfl,by omega,h1⟩ ?_;rintro b i x1 x2 o ⟨rfl,d,c⟩ hs;by_cases hl:i<m
 ·refine ifT (by simp;omega) (ifT (by show (0:Int)<=i/\(i:Int)<m;omega) ?_);obtain⟨f,e2,j⟩:=hc i hl;refine B0 (by rw[AC6];exact e2) ?_;obtain⟨s,e3,l⟩:=JR hw a c j;exact B0 e3 (hs hl _ _ ⟨B4 (by omega),hl,l⟩)
 ·obtain rfl:i=m:=by omega
  exact ifF (by simp) ⟨x1,rfl,c⟩
theorem Aq7 {N:Nat}(l:1000<=N){w:Sl Sound}(hw:w.n<=32){rec:Part->Sl Sound->Option (Nat->Int)}{m:Nat}(hm:m<=40){g:Nat->Part}{Q:Nat->Nat->Nat->Prop}
 (hc:∀i,i<m->∃f,rec (g i) w=some f/\TabA w.n (Q i) f):∃f,AQ rec N ⟨⟨m,g⟩⟩ w=some f/\TabA w.n (fun a b=>∃i,i<m/\Q i a b) f:=by
 unfold AQ;refine N2 (fun i x1 x2=>x2=(i:Int)/\i<=m/\TabA w.n (fun a b=>∃j,j<i/\Q j a b) x1) m _ (by omega) ⟨rfl,by omega,(zeroA _).congr fun a b _ _=>⟨False.elim,fun⟨j,h,_⟩=>absurd h (by omega)⟩⟩ ?_;rintro c i x1 x2 t ⟨rfl,o,d⟩ hs;by_cases hl:i<m
 ·refine ifT (by simp;omega) (ifT (by show (0:Int)<=i/\(i:Int)<m;omega) ?_);obtain⟨f,e2,q⟩:=hc i hl;refine B0 (by rw[AC6];exact e2) ?_;obtain⟨s,e3,r⟩:=Ai3 hw l d q;refine B0 e3 (hs hl _ _ ⟨B4 (by omega),hl,r.congr fun a b _ _=>⟨?_,?_⟩⟩)
  ·rintro (⟨j,h,h'⟩ | h)
   ·exact⟨j,by omega,h'⟩
   ·exact⟨i,by omega,h⟩
  ·rintro⟨j,h,h'⟩;by_cases e:j=i
   ·subst e;exact .inr h'
   ·exact .inl ⟨j,by omega,h'⟩
 ·obtain rfl:i=m:=by omega
  exact ifF (by simp) ⟨x1,rfl,d⟩
end Go.AM
namespace Go.AM
open Go.Proofs
theorem Aq8 {N:Nat}(l:1000<=N){w:Sl Sound}(hw:w.n<=32){rec:Part->Sl Sound->Option (Nat->Int)}{pt:Part}{Q:Nat->Nat->Prop}(d:Fwd w.n Q){f:Nat->Int}(u:rec pt w=some f)(r:TabA w.n Q f)
 {mn mx:Int}(y:0<=mn) (h1:mn<=32) (z:mx = -1 \/ (mn<=mx/\mx<=32)) :
 ∃s,AR rec N ⟨pt,mn,mx⟩ w=some s/\TabA w.n (fun a b=>∃k:Nat,mn<=k/\(mx = -1 \/ (k:Int)<=mx)/\Gw w.n Q k a b) s:=by
 obtain⟨m,rfl⟩:∃m:Nat,mn=(m:Int):=⟨mn.toNat,by omega⟩;unfold AR;refine B0 u ?_;obtain⟨y2,e2,t2⟩:=Rj hw l d r (k:=m) (by omega);refine B0 e2 ?_;obtain⟨y3,e3,t3⟩:=FE (N:=N) hw l;refine B0 e3 ?_;obtain⟨y4,e4,t4⟩:=Ai3 hw l r t3;refine B0 e4 ?_;have o : Fwd w.n (fun a b=>Q a b \/ a=b):=fun a b ha h=>by
  rcases h with h|h
  ·exact d a b ha h
  ·omega
 have key:∀(K:Nat),K<=32->∃s,((E6 N y4 (K:Int) (w.n:Int)).bind fun y5=>(D4 N y2 y5).bind fun y6=>some y6)=some s/\TabA w.n (fun a b=>∃j,j<=K/\Gw w.n Q (m+j) a b) s:=by
  intro K v;obtain⟨y5,e5,t5⟩:=Rj hw l o t4 (k:=K) v;refine B0 e5 ?_;obtain⟨y6,e6,t6⟩:=JR hw l t2 t5;refine B0 e6 ⟨y6,rfl,t6.congr fun a b ha hb=>?_⟩;constructor
  ·rintro⟨c,hc,g1,g2⟩;obtain⟨j,i,g3⟩:=(Lj d hc K b).1 g2;exact⟨j,i,(CS d m ha j b).2 ⟨c,hc,g1,g3⟩⟩
  ·rintro⟨j,i,g⟩;obtain⟨c,hc,g1,g3⟩:=(CS d m ha j b).1 g;exact⟨c,hc,g1,(Lj d hc K b).2 ⟨j,i,g3⟩⟩
 by_cases hx:mx<0
 ·refine ifT (decide_eq_true hx) ?_;obtain⟨s,e,t⟩:=key w.n hw;refine⟨s,e,t.congr fun a b ha hb=>?_⟩;constructor
  ·rintro⟨j,i,g⟩;exact⟨m+j,by omega,.inl (by omega),g⟩
  ·rintro⟨k,hk,_,g⟩;obtain⟨c,hc,g1,g3⟩:=(CS d m ha (k-m) b).1 (by rw[show m+(k-m)=k by omega];exact g);obtain⟨j,i,g4⟩:=QU d hc (k-m) g3;exact⟨j,i,(CS d m ha j b).2 ⟨c,hc,g1,g4⟩⟩
 ·refine ifF (by simpa using hx) ?_;obtain⟨M,rfl⟩:∃M:Nat,mx=(M:Int):=⟨mx.toNat,by omega⟩;have q:IntKind.i64.wrap ((M:Int)-(m:Int))=((M-m:Nat):Int):=by rw[D7 (by omega) (by omega)];omega
  rw[show IntKind.i64.wrap ((⟨pt,(m:Int),(M:Int)⟩:Az6).max-(⟨pt,(m:Int),(M:Int)⟩:Az6).min)=((M-m:Nat):Int) from q];obtain⟨s,e,t⟩:=key (M-m) (by omega);refine⟨s,e,t.congr fun a b ha hb=>?_⟩;constructor
  ·rintro⟨j,i,g⟩;exact⟨m+j,by omega,.inr (by omega),g⟩
  ·rintro⟨k,hk,x,g⟩;exact⟨k-m,by omega,by rw[show m+(k-m)=k by omega];exact g⟩
def okQ:Nat->Pat->Prop
 |0,_=>False
 |d+1,p=>Gc p/\p.L.n<=40/\∀i,i<p.L.n->okQ d (p.L.g i)
theorem UL:∀(d:Nat) (p:Pat),okQ d p->okQ (d+1) p
 |0,_,h=>h.elim
 |d+1,p,⟨h1,h2,h3⟩=>⟨h1,h2,fun i a=>UL d _ (h3 i a)⟩
theorem Yi:∀(k:Nat) (l:List Pat),k<=40->chk k l->∀p∈l,okQ k p
 |0,l,_,h,p,hp=>by rw[show l=[] from h]at hp;cases hp
 |k+1,[],_,_,p,hp=>by cases hp
 |k+1,q::l,hk,⟨hn,h⟩,p,hp=>by
  have ih:=Yi k _ (by omega) h;rcases AG0.1 hp with rfl|hp
  ·have hl:=Lz k _ h;rw[AH3,Cb]at hl;exact⟨hn,by omega,fun i a=>ih _ (AF5 _ (NA a))⟩
  ·exact UL k p (ih p (AE3 _ hp))
theorem vS.ok {s:Sound}(h:vS s):okS s:=by obtain⟨p,m,e,_⟩:=h;exact⟨p,m,e⟩
def Aq9 (K:Nat)(p:Pat)(pt:Part):Prop:=∀(w:Sl Sound),w.n<=32->(∀i,i<w.n->okS (w.g i))->∀M,K<=M->∃f,Ab M pt w=some f/\TabA w.n (PR w p) f
theorem LC {N:Nat}(x:1000<=N):∀(d:Nat),d<=40->∀(p:Pat),okQ d p->∀M,N+d<=M->∃pt,Aa M p=some pt/\Aq9 (N+d) p pt
 |0,_,p,h,_,_=>h.elim
 |d+1,hd,p,⟨hn,hc,hch⟩,0,hM=>by omega
 |d+1,hd,p,⟨hn,hc,hch⟩,M+1,hM=>by
  show ∃pt,S8 (Aa M) M p=some pt/\_;unfold S8;refine N2 (fun i x1 x2=>x2=(i:Int)/\i<=p.L.n/\x1.n=i/\∀j,j<i->Aq9 (N+d) (p.L.g j) (x1.g j)) p.L.n _ (by omega) ⟨rfl,by omega,rfl,fun j t=>absurd t (by omega)⟩ ?_;rintro u i x1 x2 v ⟨rfl,h1,q,o⟩ hs;by_cases hl:i<p.L.n
  ·refine ifT (by simp;omega) (ifT (by omega) ?_);obtain⟨pt,e,y⟩:=LC x d (by omega) (p.L.g i) (hch i hl) M (by omega);refine B0 (by rw[AC6];exact e) ?_;refine ifT (by show (x1.n+1)*16<=_/\x1.n+1<=_;omega) (hs hl _ _ ⟨B4 (by omega),hl,by show x1.n+1=i+1;omega,fun j t=>?_⟩);by_cases e2:j=i
   ·subst e2
    have:(x1.push pt).g j=pt:=by simp[Sl.push,q]
    rw[this];exact y
   ·have:(x1.push pt).g j=x1.g j:=by simp[Sl.push];omega
    rw[this];exact o j (by omega)
  ·obtain rfl:i=p.L.n:=by omega
   have fin:∀(pt:Part),(∀(w:Sl Sound),w.n<=32->(∀i,i<w.n->okS (w.g i))->∀M,N+d<=M->∃f,Ab (M+1) pt w=some f/\TabA w.n (PR w p) f)->∃r,some pt=some r/\Aq9 (N+(d+1)) p r:=by intro pt h;refine⟨pt,rfl,fun w hw c M' l=>?_⟩;obtain⟨M'',rfl⟩:∃M'',M' = M'' + 1:=⟨M' - 1,by omega⟩;exact h w hw c M'' (by omega)
   refine ifF (by simp) ?_;obtain⟨⟨k0,k6⟩,n1,n2,n3,n4,n5⟩:=hn;by_cases k1:p.Kind=1
   ·refine ifT (by simp[k1]) (fin _ fun w hw c M' l=>?_);obtain⟨f,e,h⟩:=Yg (N:=M') (by omega) hw c n5.ok p.Not;refine⟨f,e,h.congr fun a b _ _=>?_⟩;rw[JH];simp[k1]
   refine ifF (by simp[k1]) ?_;by_cases k2:p.Kind=2
   ·refine ifT (by simp[k2]) (fin _ fun w hw c M' l=>?_);obtain⟨f,e,h⟩:=UK (N:=M') hw false;refine⟨f,e,h.congr fun a b _ _=>?_⟩;rw[JH];simp[k2]
   refine ifF (by simp[k2]) ?_;by_cases k6:p.Kind=6
   ·refine ifT (by simp[k6]) (fin _ fun w hw c M' l=>?_);obtain⟨f,e,h⟩:=UK (N:=M') hw true;refine⟨f,e,h.congr fun a b _ _=>?_⟩;rw[JH];simp[k6]
   refine ifF (by simp[k6]) ?_;by_cases k4:p.Kind=4
   ·refine ifT (by simp[k4]) (fin _ fun w hw c M' l=>?_);obtain⟨f,e,h⟩:=Aq7 (N:=M') (by omega) hw (rec:=Ab M') (m:=x1.n) (g:=x1.g) (Q:=fun i=>PR w (p.L.g i)) (by omega) fun i v=>o i (by omega) w hw c M' (by omega);refine⟨f,e,h.congr fun a b _ _=>?_⟩;rw[JH,q];simp[k4]
   refine ifF (by simp[k4]) ?_;by_cases k5:p.Kind=5
   ·obtain⟨g1,g2,g3,g4⟩:=n4 k5;refine ifT (by simp[k5]) (ifT (by omega) (fin _ fun w hw c M' l=>?_));obtain⟨f,e,h⟩:=o 0 (by omega) w hw c M' (by omega);obtain⟨s,e2,z⟩:=Aq8 (N:=M') (by omega) hw (rec:=Ab M') (QV w (p.L.g 0)) e h g2 g3 g4;refine⟨s,e2,z.congr fun a b _ _=>?_⟩;rw[JH];simp[k5]
   ·refine ifF (by simp[k5]) (fin _ fun w hw c M' l=>?_);obtain⟨f,e,h⟩:=Aq6 (N:=M') (by omega) hw (rec:=Ab M') (m:=x1.n) (g:=x1.g) (Q:=fun i=>PR w (p.L.g i)) (by omega) fun i v=>o i (by omega) w hw c M' (by omega);refine⟨f,e,h.congr fun a b _ _=>?_⟩;rw[JH,q];by_cases k3:p.Kind=3
    ·simp[k3]
    ·have k0' : p.Kind=0:=by omega
     rw[n2 k3 k4 k5];simp[k0',VV]
end Go.AM
namespace Go.AM
open IntKind (wrap)
open Go.Proofs
theorem Wb {N:Nat}{p:Pat}(hp:okS p.Is):∃e,Z7 N p=some e/\(e=0↔Gc p):=by
 obtain⟨a,b,i⟩:=hp;have m:=Tk i;have V:N8 N p.Is=some (vB a b):=by rw[i];exact Rh a b
 have e0:((p.Is.Plus==0)&&(p.Is.Minus==0))=decide (p.Is.Plus=0/\p.Is.Minus=0):=by rw[AG1];simp
 have fin:(Gc p↔vS p.Is)->∃e,((N8 N p.Is).bind fun y1=>if (!y1) then some (14:Int)else some 0)=some e/\(e=0↔Gc p):=by
  intro c;rw[V];refine B0 rfl ?_;rw[c,m];cases vB a b
  ·exact ifT rfl ⟨14,rfl,by simp⟩
  ·exact ifF (by simp) ⟨0,rfl,by simp⟩
 have bad:∀{x:Int},x≠0->¬Gc p->∃e,some x=some e/\(e=0↔Gc p):=fun hx h=>⟨_,rfl,fun d=>absurd d hx,fun d=>absurd d h⟩;unfold Z7;by_cases hk:p.Kind=0 \/ p.Kind=2 \/ p.Kind=6
 ·refine ifT (by rcases hk with h|h|h<;>simp[h]) (ltX ?_);rw[e0];by_cases g1:p.Is.Plus=0/\p.Is.Minus=0
  case neg=>exact ifT (by simp[g1]) (ifT rfl (bad (by decide) fun h=>g1 (h.2.1 (by omega)).1))
  refine ifF (by simp[g1]) ?_;by_cases g2:p.Not=true
  ·exact ifT g2 (ifT rfl (bad (by decide) fun h=>by have:=(h.2.1 (by omega)).2;rw[g2]at this;cases this))
  refine ifF g2 ?_;by_cases g3:p.Min=0
  case neg=>exact ifT (by simp[g3]) (ifT rfl (bad (by decide) fun h=>g3 (h.2.2.2.1 (by omega)).1))
  refine ifF (by simp[g3]) ?_;by_cases g4:p.Max=0
  case neg=>exact ifT (by simp[g4]) (ifT rfl (bad (by decide) fun h=>g4 (h.2.2.2.1 (by omega)).2))
  refine ifF (by simp[g4]) ?_;by_cases g5:p.L.n=0
  case neg=>exact ifT (by simp;omega) (bad (by decide) fun h=>g5 (h.2.2.1 (by omega) (by omega) (by omega)))
  refine ifF (by simp;omega) (fin ?_);exact⟨fun h=>h.2.2.2.2.2,fun h=>⟨by omega,fun _=>⟨g1,by simpa using g2⟩,fun _ _ _=>g5,fun _=>⟨g3,g4⟩,fun f=>by omega,h⟩⟩
 refine ifF (by simp only[not_or]at hk;simp[hk]) ?_;by_cases k1:p.Kind=1
 ·refine ifT (by simp[k1]) (ltX ?_);refine ifF (by simp) ?_;by_cases g3:p.Min=0
  case neg=>exact ifT (by simp[g3]) (ifT rfl (bad (by decide) fun h=>g3 (h.2.2.2.1 (by omega)).1))
  refine ifF (by simp[g3]) ?_;by_cases g4:p.Max=0
  case neg=>exact ifT (by simp[g4]) (ifT rfl (bad (by decide) fun h=>g4 (h.2.2.2.1 (by omega)).2))
  refine ifF (by simp[g4]) ?_;by_cases g5:p.L.n=0
  case neg=>exact ifT (by simp;omega) (bad (by decide) fun h=>g5 (h.2.2.1 (by omega) (by omega) (by omega)))
  refine ifF (by simp;omega) (fin ?_);exact⟨fun h=>h.2.2.2.2.2,fun h=>⟨by omega,fun h1=>absurd k1 h1,fun _ _ _=>g5,fun _=>⟨g3,g4⟩,fun f=>by omega,h⟩⟩
 refine ifF (by simp[k1]) (ltX ?_);rw[e0];have tail:∀(x y:Int),(Gc p↔(p.Is.Plus=0/\p.Is.Minus=0)/\p.Not=false/\x=0/\y=0/\vS p.Is)->∃e,(if (((((decide (p.Is.Plus=0/\p.Is.Minus=0) != true)||p.Not)||(x != 0))||(y != 0))||(decide (0<0))) then some (2:Int)else
  (N8 N p.Is).bind fun y3=>if (!y3) then some 14 else some 0)=some e/\(e=0↔Gc p):=by
  intro x y c;by_cases g:(p.Is.Plus=0/\p.Is.Minus=0)/\p.Not=false/\x=0/\y=0
  ·obtain⟨g1,g2,g3,g4⟩:=g;exact ifF (by simp[g1,g2,g3,g4]) (fin (c.trans ⟨fun h=>h.2.2.2.2,fun h=>⟨g1,g2,g3,g4,h⟩⟩))
  ·refine ifT ?_ (bad (by decide) fun h=>g ⟨(c.1 h).1,(c.1 h).2.1,(c.1 h).2.2.1,(c.1 h).2.2.2.1⟩);simp only[AE2,bne_iff_ne,ne_eq,decide_eq_true_eq];by_cases g1:p.Is.Plus=0/\p.Is.Minus=0
   ·by_cases g2:p.Not=true
    ·simp[g2]
    ·by_cases g3:x=0
     ·have:¬y=0:=fun g4=>g ⟨g1,by simpa using g2,g3,g4⟩
      simp[this]
     ·simp[g3]
   ·simp[g1]
 by_cases k34:p.Kind=3 \/ p.Kind=4
 ·refine ifT (by rcases k34 with h|h<;>simp[h]) (tail _ _ ?_);constructor
  ·exact fun h=>⟨(h.2.1 k1).1,(h.2.1 k1).2,(h.2.2.2.1 (by omega)).1,(h.2.2.2.1 (by omega)).2,h.2.2.2.2.2⟩
  ·rintro⟨h1,d,j,l,f⟩;exact⟨by omega,fun _=>⟨h1,d⟩,fun h h'=>by omega,fun _=>⟨j,l⟩,fun h=>by omega,f⟩
 refine ifF (by simp only[not_or]at k34;simp[k34]) ?_;by_cases k5:p.Kind=5
 ·refine ifT (by simp[k5]) ?_;by_cases g:p.L.n=1/\0<=p.Min/\p.Min<=32/\(p.Max = -1 \/ (p.Min<=p.Max/\p.Max<=32))
  ·refine ifF (by simp only[AE2,AD2,bne_iff_ne,ne_eq,decide_eq_true_eq];omega) (tail 0 0 ?_);constructor
   ·exact fun h=>⟨(h.2.1 k1).1,(h.2.1 k1).2,rfl,rfl,h.2.2.2.2.2⟩
   ·rintro⟨h1,d,j,l,f⟩;exact⟨by omega,fun _=>⟨h1,d⟩,fun _ _ h=>absurd k5 h,fun h=>absurd k5 h,fun _=>g,f⟩
  ·exact ifT (by simp only[AE2,AD2,bne_iff_ne,ne_eq,decide_eq_true_eq];omega) (bad (by decide) fun h=>g (h.2.2.2.2.1 k5))
 ·exact ifF (by simp[k5]) (bad (by decide) fun h=>by have:=h.1;omega)
theorem Yj {x:Sl Pat}{m:Nat}(h:x.n=m+1):x.toList.reverse=x.g m::(x.take m).toList.reverse:=by unfold Sl.toList;rw[h,AM4,AP1,AL0];rfl
theorem Ac9 (z:Sl Pat)(q:Pat):((z.push Pat.nil).upd z.n q).toList.reverse=q::z.toList.reverse:=by
 rw[Yj (m:=z.n) rfl];have e1:((z.push Pat.nil).upd z.n q).g z.n=q:=by simp
 have e2:(((z.push Pat.nil).upd z.n q).take z.n).toList=z.toList:=by
  unfold Sl.toList;refine AG3 fun i a=>?_
  have:i<z.n:=AJ1.1 a
  show (if i=z.n then q else if i<z.n then z.g i else Pat.nil)=z.g i;rw[if_neg (by omega),if_pos this]
 rw[e1,e2]
theorem Tm {N:Nat}(q:Sl Pat)(c:q.n<N)(hs:q.n<1000000):C7 N q=some ((List.range q.n).reverse.map fun (i:Nat)=>((i:Int),q.g i)):=by
 unfold C7;have h:∀(m:Nat),m<=q.n->∀F,m<F->R9 F (fun (a:Int->Option (List (Int×Pat))) (x1:Int)=>
  if (decide (0<=x1)) then
   if ((0:Int)<=x1/\x1<(q.n:Int))then
    Bb (x1,q.g x1.toNat) (
     a (wrap .i64 (x1-1))
     )
   else none
  else
   some []) ((m:Int)-1)=some ((List.range m).reverse.map fun (i:Nat)=>((i:Int),q.g i)):=by
  intro m
  induction m with
  |zero=>
   intro _ F b
   match F,b with
   |F+1,_=>rfl
  |succ m ih=>
   intro hm F b
   match F,b with
   |F+1,b=>rw[AI];rw[show ((m+1:Nat):Int)-1=(m:Int) by omega,if_pos (by simp),if_pos (by omega),D7 (by omega) (by omega),ih (by omega) F (by omega),AC6,AM4,AL0,AU0,AU4,AF6];rfl
 rw[D7 (by omega) (by omega)];exact h q.n (AD3 _) N c
theorem Ar0 {k:Nat}(hk:k<=40){c:Sl Pat}{l:List Pat}:chk k ((c.take (min 41 c.n)).toList++l)↔chk k (c.toList++l):=by
 by_cases h:c.n<=41
 ·rw[AP9 h]
 ·constructor
  ·intro a
   have:=Lz _ _ a
   rw[AH3,Cb]at this
   have:(c.take (min 41 c.n)).n=41:=AJ8 (by omega)
   omega
  ·intro a
   have:=Lz _ _ a
   rw[AH3,Cb]at this;omega
theorem Ph {N:Nat}(hN:2000<=N){p:Pat}(hp:okPS p):∃e,V7 N p=some e/\(e=0↔chk 40 [p]):=by
 unfold V7;refine N2 (fun i x3 x4=>x4=(i:Int)/\x3.n<=1+41*i/\(∀q∈x3.toList.reverse,okPS q)/\(chk 40 [p]↔chk (40-i) x3.toList.reverse)) 40 _ (by omega)
  ⟨rfl,by show 1<=_;omega,fun q l=>by rw[show (Sl.of [p]:Sl Pat).toList.reverse=[p] from rfl]at l;rw[AL5.1 l];exact hp,AM2⟩ ?_
 rintro x i x3 x4 hi ⟨rfl,h1,c,f⟩ hs;rcases hn:x3.n with _|m
 ·refine ifF (by simp) ⟨0,rfl,fun _=>f.2 ?_,fun _=>rfl⟩
  have:x3.toList.reverse=[]:=by unfold Sl.toList;rw[hn];rfl
  rw[this];exact Yc _
 ·rw[Yj hn]at f c;refine ifT (decide_eq_true (by omega)) ?_;by_cases r:i=40
  ·subst r;refine ifT (by simp) ⟨12,rfl,fun h=>absurd h (by decide),fun h=>?_⟩
   have:(x3.g m::(x3.take m).toList.reverse)=[]:=f.1 h
   cases this
  refine ifF (by simp;omega) ?_;have hw:IntKind.i64.wrap (((m+1:Nat):Int)-1)=(m:Int):=by rw[D7 (by omega) (by omega)];omega
  simp only[hw,AC6];refine ifT (by omega) (ifT (by omega) ?_);obtain⟨e,y,a⟩:=Wb (N:=N) (c (x3.g m) (by simp)).is;refine B0 y ?_;rw[show 40-i=(39-i)+1 by omega]at f;by_cases o:e=0
  case neg=>exact ifT (by simp[o]) ⟨e,rfl,fun h=>absurd h o,fun h=>absurd (a.2 (f.1 h).1) o⟩
  refine ifF (by simp[o]) ?_;have hc:(if (41:Int)<((x3.g m).L.n:Int)then (41:Int)else ((x3.g m).L.n:Int))=((min 41 (x3.g m).L.n:Nat):Int):=by split<;>omega
  simp only[hc,AC6];refine ifT (by omega) (B0 rfl (B0 (Tm _ (by show min 41 _<N;omega) (by show min 41 _<1000000;omega)) ?_));generalize s:(x3.g m).L.take (min 41 (x3.g m).L.n)=C;have a0:C.n<=41:=by rw[<- s];exact Nat.min_le_left _ _
  refine Ac7 (fun L z=>∃j,j<=C.n/\L=((List.range j).reverse.map fun (i:Nat)=>((i:Int),C.g i))/\z.n=m+(C.n-j)/\z.toList.reverse=C.toList.drop j++(x3.take m).toList.reverse) ?_ ?_ _ _ ⟨C.n,AD3 _,rfl,by show m=_;omega,by rw[CE];rfl⟩
  ·rintro z ⟨j,hj,hL,hz,b⟩;have u:j=0:=by
    cases j with
    |zero=>rfl
    |succ j=>simp[AM4]at hL
   subst u;rw[AR6]at b;refine hs (by omega) _ _ ⟨B4 (by omega),by omega,fun q l=>?_,?_⟩
   ·rw[b]at l;rcases List.mem_append.1 l with h|h
    ·obtain⟨i',d,rfl⟩:=AK1.1 h;have d:=AJ1.1 d;rw[<- s]at d⊢;exact (c (x3.g m) (by simp)).L (AF1 d (Nat.min_le_right _ _))
    ·exact c q (by simp[h])
   ·rw[b,f,show 40-(i+1)=39-i by omega,<- s,Ar0 (by omega)];exact⟨fun h=>h.2,fun h=>⟨a.1 o,h⟩⟩
  ·rintro t L z v ⟨j,hj,hL,hz,b⟩ w;cases j with
   |zero=>simp at hL
   |succ j=>rw[AM4,AL0,AU0,AU4,AF6]at hL;obtain⟨rfl,rfl⟩:=AW3 hL;have e1:(z.n:Int).toNat=z.n:=AC6 _;refine ifT ⟨⟨⟨by show (z.n+1)*64<=_;omega,by show z.n+1<=_;omega⟩,by show (0:Int)<=_/\(z.n:Int)<((z.n+1:Nat):Int);omega⟩,by show z.n<z.n+1;omega⟩ ?_;refine w _ ⟨j,by omega,rfl,by show z.n+1=_;omega,?_⟩;rw[Ac9,b,Ez C (i:=j) (by omega),AG9]
end Go.AM
namespace Go.AM
open IntKind (wrap)
open Go.Proofs
def wOk (w:Sl Sound):Prop:=w.n<=32/\∀i,i<w.n->vS (w.g i)
theorem Jr {N:Nat}{w:Sl Sound}(m:w.n<N)(hs:w.n<1000000){f:Sound->Option Bool}{b:Nat->Bool}(o:∀i,i<w.n->f (w.g i)=some (b i)) :∃r,B3 N w f=some r/\(r=true ↔ ∃i,i<w.n/\b i=true):=by
 unfold B3 D2
 have:∃y,R9 N (fun (a:Int->Option Int) (x1:Int)=>
  if (decide (x1<(w.n:Int))) then
   if ((0:Int)<=x1/\x1<(w.n:Int))then
    (f (w.g x1.toNat)).bind fun y3=>
    if y3 then
     some x1
    else
     a (wrap .i64 (x1+1))
   else none
  else
   some (-1)) 0=some y/\(0<=y ↔ ∃i,i<w.n/\b i=true):=by
  refine AA (fun i x1=>x1=(i:Int)/\∀j,j<i->b j=false) w.n _ m ⟨rfl,fun j c=>absurd c (by omega)⟩ ?_;rintro l i x1 q ⟨rfl,h⟩ d;by_cases hl:i<w.n
  ·refine ifT (by simp;omega) (ifT (by omega) (B0 (by rw[AC6];exact o i hl) ?_));cases hb:b i
   ·refine ifF (by simp) (d hl _ ⟨B4 (by omega),fun j c=>?_⟩);by_cases e:j=i
    ·subst e;exact hb
    ·exact h j (by omega)
   ·exact ifT rfl ⟨i,rfl,fun _=>⟨i,hl,hb⟩,fun _=>by omega⟩
  ·refine ifF (by simp;omega) ⟨-1,rfl,fun h=>absurd h (by decide),?_⟩;rintro⟨j,c,hb⟩;rw[h j (by omega)]at hb;cases hb
 obtain⟨y,e,hy⟩:=this;exact B0 e ⟨_,rfl,by rw[decide_eq_true_eq];exact hy⟩
theorem NC {N:Nat}(z:3000<=N){p:Pat}(hp:okPS p){w:Sl Sound}(hs:w.n<1000000/\w.n+1000<N)(hw:∀i,i<w.n->okS (w.g i)) :∃r,X3 N p w=some r/\(r.2=0↔chk 40 [p]/\wOk w)/\(r.2=0->TabA w.n (PR w p) r.1):=by
 unfold X3;obtain⟨e,l,hc⟩:=Ph (N:=N) (by omega) hp;refine B0 l ?_;by_cases d:e=0
 case neg=>exact ifT (by simp[d]) ⟨_,rfl,⟨fun h=>absurd h d,fun h=>absurd (hc.2 h.1) d⟩,fun h=>absurd h d⟩
 refine ifF (by simp[d]) ?_;by_cases hn:32<w.n
 ·exact ifT (by simp;omega) ⟨_,rfl,⟨fun h=>absurd h (by decide),fun h=>by have:=h.2.1;omega⟩,fun h=>absurd h (by decide)⟩
 refine ifF (by simp;omega) ?_;have s:∀i,∃b:Bool,i<w.n->R7 N (w.g i)=some b/\(b=true ↔ ¬vS (w.g i)):=by
  intro i;by_cases a:i<w.n
  ·obtain⟨x,y,l⟩:=hw i a;refine⟨!vB x y,fun _=>⟨?_,?_⟩⟩
   ·unfold R7;rw[l,Rh];rfl
   ·rw[Tk l];cases vB x y<;>simp
  ·exact⟨false,fun h=>absurd h a⟩
 obtain⟨b,hb⟩:=AK6 s;obtain⟨r,t,j⟩:=Jr (N:=N) (by omega) hs.1 (f:=fun u1=>R7 N u1) fun i a=>(hb i a).1;refine B0 t ?_;by_cases c:r=true
 ·refine ifT c ⟨_,rfl,⟨fun h=>absurd h (by decide),fun h=>?_⟩,fun h=>absurd h (by decide)⟩;obtain⟨i,a,m⟩:=j.1 c;exact absurd (h.2.2 i a) ((hb i a).2.1 m)
 ·refine ifF c ?_;have o:wOk w:=⟨by omega,fun i a=>AG5 fun q=>c (j.2 ⟨i,a,(hb i a).2.2 q⟩)⟩;obtain⟨pt,ep,u⟩:=LC (N:=1000) (by omega) 40 (AD3 _) p (Yi 40 [p] (AD3 _) (hc.1 d) p (by simp)) N (by omega);refine B0 ep ?_;obtain⟨f,ef,v⟩:=u w (by omega) hw N (by omega);exact B0 ef ⟨_,rfl,⟨fun _=>⟨hc.1 d,o⟩,fun _=>rfl⟩,fun _=>v⟩
end Go.AM
namespace Go.AM
open Go.Proofs
theorem Wc {N:Nat}(o:3000<=N){p:Pat}(hp:okPS p){w:Sl Sound}(hs:w.n<1000000/\w.n+1000<N)(hw:∀i,i<w.n->okS (w.g i))(at_:Int) :∃r,AS N p w at_=some r/\(0<r.1.n↔chk 40 [p]/\wOk w/\0<=at_/\at_<=w.n/\∃a,a<=w.n/\PR w p a at_.toNat):=by
 unfold AS;obtain⟨y,e,h1,q⟩:=NC o hp hs hw;refine B0 e (ltX ?_);by_cases c:y.2=0
 case neg=>refine ifF (by simp[c]) (ifT (by simp[c]) ⟨_,rfl,fun h=>absurd h (by show ¬ 0<0;omega),fun h=>absurd (h1.2 ⟨h.1,h.2.1⟩) c⟩)
 refine ifT (by simp[c]) ?_;obtain⟨hc,d⟩:=h1.1 c;have s:=q c;have hn:=d.1;unfold W9;by_cases f:at_<0 \/ (w.n:Int)<at_
 ·rw[if_pos (by simpa using f)];refine B0 rfl (ifT (by decide) ⟨_,rfl,fun h=>absurd h (by show ¬ 0<0;omega),fun h=>by omega⟩)
 rw[if_neg (by simpa using f)];refine B0 rfl (ifF (by simp) ?_);obtain⟨k,rfl⟩:∃k:Nat,at_=(k:Int):=⟨at_.toNat,by omega⟩;rw[B4 (by omega),AC6];refine N2 (fun i x2 x3=>x3=(i:Int)/\x2.n<=i/\(0<x2.n ↔ ∃a,a<i/\PR w p a k)) (w.n+1) _ (by omega) ⟨rfl,AD3 _,fun h=>absurd h (by show ¬ 0<0;omega),fun⟨a,h,_⟩=>absurd h (by omega)⟩ ?_;rintro m i x2 x3 t ⟨rfl,g1,g2⟩ j;by_cases hl:i<=w.n
 ·refine ifT (by simp;omega) (ifT (by omega) ?_);rw[AC6,AF9,AH8];have hb:=s.1.bit hl (b:=k) (by omega);by_cases l:PR w p i k
  ·refine ifT (hb.2 ⟨by omega,l⟩) (ifT (by show (x2.n+1)*8<=_/\x2.n+1<=_;omega) (j (by omega) _ _ ⟨B4 (by omega),by show x2.n+1<=_;omega,fun _=>⟨i,by omega,l⟩,fun _=>by show 0<x2.n+1;omega⟩))
  ·refine ifF (fun h=>l (hb.1 h).2) (j (by omega) _ _ ⟨B4 (by omega),by omega,fun h=>?_,fun⟨a,ha,h⟩=>?_⟩)
   ·obtain⟨a,ha,h'⟩:=g2.1 h;exact⟨a,by omega,h'⟩
   ·by_cases e2:a=i
    ·subst e2;exact absurd h l
    ·exact g2.2 ⟨a,by omega,h⟩
 ·refine ifF (by simp;omega) ⟨_,rfl,fun h=>?_,fun h=>?_⟩
  ·obtain⟨a,ha,h'⟩:=g2.1 h;exact⟨hc,d,by omega,by omega,a,by omega,h'⟩
  ·obtain⟨a,ha,h'⟩:=h.2.2.2.2;exact g2.2 ⟨a,by omega,h'⟩
theorem Tn {N:Nat}(L:List Int)(hL:L.length<1000):∃s,K0 N L=some s/\s.n=L.length:=by
 unfold K0 G9
 have:∃s:Sl Int,P4 L (fun (a:Sl Int->Option (Sl Int)) (x1:Int) (z1:Sl Int)=>
  if ((z1.n+(Sl.of [x1]:Sl Int).n)*8<=140737488355328/\z1.n+(Sl.of [x1]:Sl Int).n<=140737488355328)then
   a (z1.push x1)
  else none
  ) (fun (z1:Sl Int)=>some z1) (Sl.nil:Sl Int)=some s/\s.n=L.length:=by
  refine Ac7 (fun l z=>z.n+l.length=L.length) (fun z h=>⟨z,rfl,by simpa using h⟩) (fun t l z b h hs=>?_) L _ (by simp);simp only[AF8]at h;exact ifT (by show (z.n+1)*8<=_/\z.n+1<=_;omega) (hs _ (by show z.n+1+l.length=_;omega))
 obtain⟨s,e,hn⟩:=this;exact B0 e ⟨s,rfl,hn⟩
theorem Ad0 {N:Nat}(l:3000<=N){p:Pat}(hp:okPS p){w:Sl Sound}(hs:w.n<1000000/\w.n+1000<N)(hw:∀i,i<w.n->okS (w.g i))(at_:Int) :∃r,Cx N p w at_=some r/\(0<r.1.n↔chk 40 [p]/\wOk w/\0<=at_/\at_<=w.n/\∃b,b<=w.n/\PR w p at_.toNat b):=by
 unfold Cx;obtain⟨y,e,h1,m⟩:=NC l hp hs hw;refine B0 e (ltX ?_);by_cases c:y.2=0
 case neg=>refine ifF (by simp[c]) (ifT (by simp[c]) ⟨_,rfl,fun h=>absurd h (by show ¬ 0<0;omega),fun h=>absurd (h1.2 ⟨h.1,h.2.1⟩) c⟩)
 refine ifT (by simp[c]) ?_;obtain⟨hc,d⟩:=h1.1 c;have o:=m c;have hn:=d.1;unfold W9;by_cases f:at_<0 \/ (w.n:Int)<at_
 ·rw[if_pos (by simpa using f)];refine B0 rfl (ifT (by decide) ⟨_,rfl,fun h=>absurd h (by show ¬ 0<0;omega),fun h=>by omega⟩)
 rw[if_neg (by simpa using f)];refine B0 rfl (ifF (by simp) ?_);obtain⟨k,rfl⟩:∃k:Nat,at_=(k:Int):=⟨at_.toNat,by omega⟩;refine ifT (by omega) ?_;rw[AC6,AF9,AH8];obtain⟨u,e1,g1⟩:=o.1 k (by omega);refine B0 (x:=y.1 k) rfl (B0 (x:=EA u 0) (by rw[e1];exact GS u (by omega)) ?_);obtain⟨s,es,j⟩:=Tn (N:=N) (EA u 0) (by unfold EA;rw[AI1];exact AW2 (List.length_filter_le _ _) (by simp))
 refine B0 es ⟨_,rfl,?_⟩;show 0<s.n↔_;rw[j,List.length_pos_iff_exists_mem];constructor
 ·rintro⟨t,ht⟩;obtain⟨b,rfl,_,hb,a⟩:=mem_bitsF.1 ht;exact⟨hc,d,by omega,by omega,b,((g1 b hb).1 a).1,((g1 b hb).1 a).2⟩
 ·rintro⟨_,_,_,_,b,hb,h⟩;exact⟨(b:Int),mem_bitsF.2 ⟨b,rfl,by omega,by omega,(g1 b (by omega)).2 ⟨hb,h⟩⟩⟩
end Go.AM
namespace Go.AM
open IntKind (wrap)
open Go.Proofs
def Wd (w:Sl Sound)(e:Int):Prop:=(32<w.n/\e=11) \/ (w.n<=32/\(∃i,i<w.n/\¬vS (w.g i))/\e=14) \/ (wOk w/\e=0)
theorem Rk {w:Sl Sound}{e e' : Int}(h:Wd w e)(h' : Wd w e'):e=e':=by
 rcases h with⟨h1,a⟩ | ⟨h1,⟨i,b,c⟩,a⟩ | ⟨h1,a⟩<;>rcases h' with⟨g1,g2⟩ | ⟨g1,⟨j,d,gv⟩,g2⟩ | ⟨g1,g2⟩
 ·omega
 ·omega
 ·have:=g1.1;omega
 ·omega
 ·omega
 ·exact absurd (g1.2 i b) c
 ·have:=h1.1;omega
 ·exact absurd (h1.2 j d) gv
 ·omega
theorem BG {w:Sl Sound}{e:Int}(h:Wd w e):e=0↔wOk w:=by
 rcases h with⟨h1,a⟩ | ⟨h1,⟨i,b,c⟩,a⟩ | ⟨h1,a⟩
 ·exact⟨fun h=>by omega,fun h=>by have:=h.1;omega⟩
 ·exact⟨fun h=>by omega,fun h=>absurd (h.2 i b) c⟩
 ·exact⟨fun _=>h1,fun _=>a⟩
theorem Rl {N:Nat}(o:1000<=N){w:Sl Sound}(hw:∀i,i<w.n->okS (w.g i))(V:Sound->Option Bool)(f:∀p m:BitVec 32,V (sOf p m)=some (vB p m)) :∃e,(if (decide (32<(w.n:Int))) then
 some (11:Int)
 else
  R9 N (fun a (x1:Int)=>
   if (decide (x1<(w.n:Int))) then
    if ((0:Int)<=x1/\x1<(w.n:Int))then
     (V (w.g x1.toNat)).bind fun y3=>
     if (!y3) then
      some 14
     else
      a (wrap .i64 (x1+1))
    else none
   else
    some 0
   ) 0)=some e/\Wd w e:=by
 by_cases hn:32<w.n
 ·exact ifT (by simp;omega) ⟨11,rfl,.inl ⟨hn,rfl⟩⟩
 refine ifF (by simp;omega) ?_;refine AA (fun i x1=>x1=(i:Int)/\∀j,j<i->vS (w.g j)) w.n _ (by omega) ⟨rfl,fun j b=>absurd b (by omega)⟩ ?_;rintro d i x1 q ⟨rfl,h⟩ hs;by_cases hl:i<w.n
 ·obtain⟨p,m,c⟩:=hw i hl;refine ifT (by simp;omega) (ifT (by omega) (B0 (by rw[AC6,c];exact f p m) ?_));cases hb:vB p m
  ·refine ifT rfl ⟨14,rfl,.inr (.inl ⟨by omega,⟨i,hl,fun l=>?_⟩,rfl⟩)⟩
   have:=(Tk c).1 l;rw[hb]at this;cases this
  ·refine ifF (by simp) (hs hl _ ⟨B4 (by omega),fun j b=>?_⟩);by_cases e:j=i
   ·subst e;exact (Tk c).2 hb
   ·exact h j (by omega)
 ·exact ifF (by simp;omega) ⟨0,rfl,.inr (.inr ⟨⟨by omega,fun j b=>h j (by omega)⟩,rfl⟩)⟩
theorem HU {N:Nat}(a:1000<=N){w:Sl Sound}(hw:∀i,i<w.n->okS (w.g i)):∃e,J9 N w=some e/\Wd w e:=
 Rl a hw (Av N) fun p m=>Rg p m
theorem IJ {N:Nat}(a:1000<=N){w:Sl Sound}(hw:∀i,i<w.n->okS (w.g i)):∃e,Es N w=some e/\Wd w e:=
 Rl a hw (V2 N) fun p m=>Nz p m
theorem UM {N:Nat}(d:2000<=N){p:Pat}(hp:okPS p){w:Sl Sound}(hw:∀i,i<w.n->okS (w.g i)):∃e,FS N p w=some e/\(e=0↔chk 40 [p]/\wOk w):=by
 unfold FS;obtain⟨e,f,hc⟩:=LB d hp;refine B0 f ?_;by_cases a:e=0
 ·obtain⟨e2,b,c⟩:=IJ (N:=N) (by omega) hw;exact ifT (by simp[a]) (B0 b ⟨e2,rfl,(BG c).trans ⟨fun h=>⟨hc.1 a,h⟩,fun h=>h.2⟩⟩)
 ·exact ifF (by simp[a]) ⟨e,rfl,fun h=>absurd h a,fun h=>absurd (hc.2 h.1) a⟩
theorem To {N:Nat}(s:3000<=N){p:Pat}(hp:okPS p){w:Sl Sound}(hw:∀i,i<w.n->okS (w.g i))(at_:Int) :∃r,Ft N p w at_=some r/\(0<r.1.n↔chk 40 [p]/\wOk w/\0<=at_/\at_<=w.n/\∃a,a<=w.n/\PR w p a at_.toNat):=by
 unfold Ft;obtain⟨e,o,h1⟩:=UM (N:=N) (by omega) hp hw;refine B0 o ?_;by_cases j:e=0
 case neg=>exact ifT (by simp[j]) ⟨_,rfl,fun h=>absurd h (by show ¬ 0<0;omega),fun h=>absurd (h1.2 ⟨h.1,h.2.1⟩) j⟩
 refine ifF (by simp[j]) ?_;obtain⟨hc,c⟩:=h1.1 j;have hn:=c.1;by_cases d:at_<0 \/ (w.n:Int)<at_
 ·exact ifT (by simpa using d) ⟨_,rfl,fun h=>absurd h (by show ¬ 0<0;omega),fun h=>by omega⟩
 refine ifF (by simpa using d) ?_;obtain⟨k,rfl⟩:∃k:Nat,at_=(k:Int):=⟨at_.toNat,by omega⟩;obtain⟨t,et,tn,q⟩:=Ly (N:=1000) (by omega) hn 40 p (LA 40 [p] (AD3 _) hc p (by simp)) N (by omega);refine B0 et ?_;rw[AC6];refine N2 (fun i x2 x3=>x3=(i:Int)/\x2.n<=i/\(0<x2.n ↔ ∃a,a<i/\PR w p a k)) (w.n+1) _ (by omega) ⟨rfl,AD3 _,fun h=>absurd h (by show ¬ 0<0;omega),fun⟨a,h,_⟩=>absurd h (by omega)⟩ ?_;rintro m i x2 x3 u ⟨rfl,g1,g2⟩ f;by_cases hl:i<=w.n
 ·refine ifT (by simp;omega) (ifT (by omega) ?_);rw[AC6];have hb:=q.bit hl (b:=k) (by omega);by_cases l:PR w p i k
  ·refine ifT (hb.2 ⟨by omega,l⟩) (ifT (by show (x2.n+1)*8<=_/\x2.n+1<=_;omega) (f (by omega) _ _ ⟨B4 (by omega),by show x2.n+1<=_;omega,fun _=>⟨i,by omega,l⟩,fun _=>by show 0<x2.n+1;omega⟩))
  ·refine ifF (fun h=>l (hb.1 h).2) (f (by omega) _ _ ⟨B4 (by omega),by omega,fun h=>?_,fun⟨a,ha,h⟩=>?_⟩)
   ·obtain⟨a,ha,h'⟩:=g2.1 h;exact⟨a,by omega,h'⟩
   ·by_cases e2:a=i
    ·subst e2;exact absurd h l
    ·exact g2.2 ⟨a,by omega,h⟩
 ·refine ifF (by simp;omega) ⟨_,rfl,fun h=>?_,fun h=>?_⟩
  ·obtain⟨a,ha,h'⟩:=g2.1 h;exact⟨hc,c,by omega,by omega,a,by omega,h'⟩
  ·obtain⟨a,ha,h'⟩:=h.2.2.2.2;exact g2.2 ⟨a,by omega,h'⟩
theorem Yk {N:Nat}(s:3000<=N){p:Pat}(hp:okPS p){w:Sl Sound}(hw:∀i,i<w.n->okS (w.g i))(at_:Int) :∃r,ID N p w at_=some r/\(0<r.1.n↔chk 40 [p]/\wOk w/\0<=at_/\at_<=w.n/\∃b,b<=w.n/\PR w p at_.toNat b):=by
 unfold ID;obtain⟨e,o,h1⟩:=UM (N:=N) (by omega) hp hw;refine B0 o ?_;by_cases j:e=0
 case neg=>exact ifT (by simp[j]) ⟨_,rfl,fun h=>absurd h (by show ¬ 0<0;omega),fun h=>absurd (h1.2 ⟨h.1,h.2.1⟩) j⟩
 refine ifF (by simp[j]) ?_;obtain⟨hc,c⟩:=h1.1 j;have hn:=c.1;by_cases d:at_<0 \/ (w.n:Int)<at_
 ·exact ifT (by simpa using d) ⟨_,rfl,fun h=>absurd h (by show ¬ 0<0;omega),fun h=>by omega⟩
 refine ifF (by simpa using d) ?_;obtain⟨k,rfl⟩:∃k:Nat,at_=(k:Int):=⟨at_.toNat,by omega⟩;obtain⟨t,et,tn,q⟩:=Ly (N:=1000) (by omega) hn 40 p (LA 40 [p] (AD3 _) hc p (by simp)) N (by omega);refine B0 et ?_;rw[AC6];refine N2 (fun i x2 x3=>x3=(i:Int)/\x2.n<=i/\(0<x2.n ↔ ∃b,b<i/\PR w p k b)) (w.n+1) _ (by omega) ⟨rfl,AD3 _,fun h=>absurd h (by show ¬ 0<0;omega),fun⟨a,h,_⟩=>absurd h (by omega)⟩ ?_;rintro m i x2 x3 u ⟨rfl,g1,g2⟩ f;by_cases hl:i<=w.n
 ·refine ifT (by simp;omega) (ifT (by omega) ?_);have hb:=q.bit (a:=k) (by omega) (b:=i) (by omega);by_cases l:PR w p k i
  ·refine ifT (hb.2 ⟨by omega,l⟩) (ifT (by show (x2.n+1)*8<=_/\x2.n+1<=_;omega) (f (by omega) _ _ ⟨B4 (by omega),by show x2.n+1<=_;omega,fun _=>⟨i,by omega,l⟩,fun _=>by show 0<x2.n+1;omega⟩))
  ·refine ifF (fun h=>l (hb.1 h).2) (f (by omega) _ _ ⟨B4 (by omega),by omega,fun h=>?_,fun⟨a,ha,h⟩=>?_⟩)
   ·obtain⟨a,ha,h'⟩:=g2.1 h;exact⟨a,by omega,h'⟩
   ·by_cases e2:a=i
    ·subst e2;exact absurd h l
    ·exact g2.2 ⟨a,by omega,h⟩
 ·refine ifF (by simp;omega) ⟨_,rfl,fun h=>?_,fun h=>?_⟩
  ·obtain⟨a,ha,h'⟩:=g2.1 h;exact⟨hc,c,by omega,by omega,a,by omega,h'⟩
  ·obtain⟨a,ha,h'⟩:=h.2.2.2.2;exact g2.2 ⟨a,by omega,h'⟩
end Go.AM
namespace Go.AM
open Go.Proofs
def At6 (s c:Sound):Prop:=∃p m a b:BitVec 32,s=sOf p m/\c=sOf a b/\WA p m a b=true
theorem Yl {p m a b:BitVec 32}(h:sOf p m=sOf a b):p=a/\m=b:=by have e1:(p.toNat:Int)=a.toNat:=congrArg Sound.Plus h;have e2:(m.toNat:Int)=b.toNat:=congrArg Sound.Minus h;exact⟨AG7 (by omega),AG7 (by omega)⟩
theorem satS_of {p m a b:BitVec 32}:At6 (sOf p m) (sOf a b)↔WA p m a b=true:=by
 constructor
 ·rintro⟨p',m',a',b',h1,c,d⟩;obtain⟨rfl,rfl⟩:=Yl h1;obtain⟨rfl,rfl⟩:=Yl c;exact d
 ·exact fun h=>⟨_,_,_,_,rfl,rfl,h⟩
theorem Ad1 {N:Nat}{s c:Sound}(hs:okS s)(hc:okS c):∃b,J0 N s c=some b/\(b=true↔At6 s c):=by obtain⟨p,m,rfl⟩:=hs;obtain⟨a,b,rfl⟩:=hc;exact⟨_,Aq2 p m a b,satS_of.symm⟩
theorem Ad2 {N:Nat}(d:1000<=N){s c:Sound}(hs:okS s)(hc:okS c):∃b,U8 N s c=some b/\(b=true↔At6 s c):=by obtain⟨p,m,rfl⟩:=hs;obtain⟨a,b,rfl⟩:=hc;exact⟨_,Aq3 p m a b d,satS_of.symm⟩
def okL (l:Law):Prop:=okPS l.Left/\okPS l.Right/\∀i,i<l.If.n->okS (l.If.g i)
def arP (l:Law)(w:Sl Sound)(i:Nat):Prop:=chk 40 [l.Left]/\chk 40 [l.Right]/\wOk w/\i+l.If.n<=w.n/\(∃a,a<=w.n/\PR w l.Left a i)/\∃b,b<=w.n/\PR w l.Right (i+l.If.n) b
def ND (l:Law)(w:Sl Sound)(i:Nat):Prop:=i+l.If.n<=w.n/\(∀j,j<l.If.n->At6 (w.g (i+j)) (l.If.g j))/\arP l w i
def okW (w:Sl Sound):Prop:=w.n<1000/\∀i,i<w.n->okS (w.g i)
theorem We {N:Nat}(c:3000<=N){l:Law}(hl:okL l)(hk:l.If.n<=4){w:Sl Sound}(hw:okW w)(i:Nat)(f:i<2000) :∃b,T1 N (i:Int) l w=some b/\(b=true↔arP l w i):=by
 unfold T1;obtain⟨y1,e1,h1⟩:=Wc (N:=N) c hl.1 (w:=w) ⟨by have:=hw.1;omega,by have:=hw.1;omega⟩ hw.2 (i:Int);refine B0 e1 ?_;rw[AC6]at h1;by_cases d:y1.1.n=0
 ·refine ifT (by simp[d]) ⟨false,rfl,by simp,fun h=>?_⟩
  have:=h1.2 ⟨h.1,h.2.2.1,by omega,by have:=h.2.2.2.1;omega,h.2.2.2.2.1⟩
  omega
 ·refine ifF (by simp;omega) ?_;rw[CG (by omega)];obtain⟨y2,e2,a⟩:=Ad0 (N:=N) c hl.2.1 (w:=w) ⟨by have:=hw.1;omega,by have:=hw.1;omega⟩ hw.2 ((i+l.If.n:Nat):Int);rw[AC6]at a;refine B0 e2 ⟨_,rfl,?_⟩;have h1:=h1.1 (by omega);rw[decide_eq_true_eq];constructor
  ·intro h;have a:=a.1 (by omega);exact⟨h1.1,a.1,h1.2.1,by omega,h1.2.2.2.2,a.2.2.2.2⟩
  ·intro h
   have:=a.2 ⟨h.2.1,h.2.2.1,by omega,by have:=h.2.2.2.1;omega,h.2.2.2.2.2⟩
   omega
theorem Pj {N:Nat}(f:3000<=N){l:Law}(hl:okL l)(hk:l.If.n<=4){w:Sl Sound}(hw:okW w)(i:Nat)(o:i<2000) :∃b,By N l w (i:Int)=some b/\(b=true↔ND l w i):=by
 unfold By;rw[CG (by omega)];by_cases hn:w.n<i+l.If.n
 ·exact ifT (by simp;omega) ⟨false,rfl,by simp,fun h=>by have:=h.1;omega⟩
 refine ifF (by simp;omega) ?_;refine AA (fun j x1=>x1=(j:Int)/\∀k,k<j->At6 (w.g (i+k)) (l.If.g k)) l.If.n _ (by omega) ⟨rfl,fun k hk=>absurd hk (by omega)⟩ ?_;rintro m j x1 q ⟨rfl,h⟩ hs;by_cases c:j<l.If.n
 ·rw[CG (by omega)];refine ifT (by simp;omega) (ifT (by omega) ?_);obtain⟨b,eb,hb⟩:=Ad2 (N:=N) (by omega) (hw.2 (i+j) (by omega)) (hl.2.2 j c);refine B0 (by rw[AC6,AC6];exact eb) ?_;cases b
  ·refine ifT rfl ⟨false,rfl,by simp,fun a=>?_⟩
   have:=hb.2 (a.2.1 j c);cases this
  ·refine ifF (by simp) (hs c _ ⟨B4 (by omega),fun k d=>?_⟩);by_cases e:k=j
   ·subst e;exact hb.1 rfl
   ·exact h k (by omega)
 ·refine ifF (by simp;omega) ?_;obtain⟨y1,e1,h1⟩:=To (N:=N) f hl.1 (w:=w) hw.2 (i:Int);obtain⟨y2,e2,a⟩:=Yk (N:=N) f hl.2.1 (w:=w) hw.2 ((i+l.If.n:Nat):Int);rw[AC6]at h1 a;refine B0 e1 (B0 e2 ⟨_,rfl,?_⟩);simp only[AD2,decide_eq_true_eq];constructor
  ·rintro⟨g1,g2⟩;have h1:=h1.1 (by omega);have a:=a.1 (by omega);exact⟨by omega,fun k d=>h k (by omega),h1.1,a.1,h1.2.1,by omega,h1.2.2.2.2,a.2.2.2.2⟩
  ·intro g;have a1:=h1.2 ⟨g.2.2.1,g.2.2.2.2.1,by omega,by omega,g.2.2.2.2.2.2.1⟩;have a2:=a.2 ⟨g.2.2.2.1,g.2.2.2.2.1,by omega,by omega,g.2.2.2.2.2.2.2⟩;exact⟨by omega,by omega⟩
end Go.AM
namespace Go.AM
open IntKind (wrap)
open Go.Proofs
open Classical in
noncomputable def hitB (l:Law) (w:Sl Sound) (i:Nat):Bool:=decide (ND l w i)
theorem hitB_iff {l:Law}{w:Sl Sound}{i:Nat}:hitB l w i=true↔ND l w i:=by simp[hitB]
noncomputable def Ds (l:Law) (w:Sl Sound) (i:Nat):List Int:=((List.range' i (w.n+1-i)).filter (hitB l w)).map fun (j:Nat)=>(j:Int)
theorem IK {l:Law}{w:Sl Sound}{i:Nat}(h:w.n<i+l.If.n):Ds l w i=[]:=by
 unfold Ds;rw[AT9.2 fun j a hb=>by
  have:=AS1.1 a
  have:=(hitB_iff.1 hb).1
  omega]
 rfl
theorem HV {l:Law}{w:Sl Sound}{i:Nat}(a:i<=w.n)(h:ND l w i):Ds l w i=(i:Int)::Ds l w (i+1):=by unfold Ds;rw[show w.n+1-i=(w.n+1-(i+1))+1 by omega,AO2,AT2 (hitB_iff.2 h)];rfl
theorem HW {l:Law}{w:Sl Sound}{i:Nat}(h:¬ND l w i):Ds l w i=Ds l w (i+1):=by
 unfold Ds;by_cases a:i<=w.n
 ·rw[show w.n+1-i=(w.n+1-(i+1))+1 by omega,AO2,AT3 fun hb=>h (hitB_iff.1 hb)]
 ·rw[show w.n+1-i=0 by omega,show w.n+1-(i+1)=0 by omega];rfl
theorem Ad3 {l:Law}{w:Sl Sound}{i:Nat}{y:Int}(h:y∈Ds l w i):(i:Int)<=y:=by
 obtain⟨j,a,rfl⟩:=AK1.1 h
 have:=AS1.1 (AP0.1 a).1
 omega
theorem UN {N:Nat}(z:3000<=N){l:Law}(hl:okL l)(hk:l.If.n<=4){w:Sl Sound}(hw:okW w)(i:Nat)(v:i<1500):V8 N l w (i:Int)=some (Ds l w i):=by
 unfold V8;show (some (l,w)).bind _=_;rw[AD1];simp only[]
 suffices h:∀(k i:Nat),i<1501->w.n+1-i<=k->∀F,k<F->∃r,R9 F (fun (a:Int->Option (List Int)) (x2:Int)=>
  if (decide ((wrap .i64 (x2+(l.If.n:Int)))<=(w.n:Int))) then
   R9 N (fun (d:Int->Option (List Int)) (x4:Int)=>
    if (decide (x4<(l.If.n:Int))) then
     if ((0:Int)<=x4/\x4<(l.If.n:Int))then
      if ((0:Int)<=(wrap .i64 (x2+x4))/\(wrap .i64 (x2+x4))<(w.n:Int))then
       (J0 N (w.g (wrap .i64 (x2+x4)).toNat) (l.If.g x4.toNat)).bind fun s=>
       if (!s) then
        a (wrap .i64 (x2+1))
       else
        d (wrap .i64 (x4+1))
      else none
     else none
    else
     (T1 N x2 l w).bind fun t=>
     if t then
      Bb x2 (
       a (wrap .i64 (x2+1))
       )
     else
      a (wrap .i64 (x2+1))
    ) 0
  else
   some []
  ) (i:Int)=some r/\r=Ds l w i by
  obtain⟨r,h1,rfl⟩:=h (w.n+1-i) i (by omega) (AD3 _) N (by have:=hw.1;omega);exact h1
 intro k
 induction k with
 |zero=>
  intro i v f F q
  match F,q with
  |F+1,_=>rw[AI,CG (by omega)];exact ifF (by simp;omega) ⟨_,rfl,(IK (by omega)).symm⟩
 |succ k ih=>
  intro i v f F q
  match F,q with
  |F+1,q=>
   rw[AI,CG (by omega)];by_cases hn:i+l.If.n<=w.n
   case neg=>exact ifF (by simp;omega) ⟨_,rfl,(IK (by omega)).symm⟩
   refine ifT (by simp;omega) ?_;have a0:=hw.1;obtain⟨r,x,o⟩:=ih (i+1) (by omega) (by omega) F (by omega);have c:∀(Q:List Int->Prop),Q (Ds l w (i+1))->∃r,R9 F _ (IntKind.i64.wrap ((i:Int)+1))=some r/\Q r:=fun Q hQ=>⟨r,by rw[B4 (by omega)];exact x,by rw[o];exact hQ⟩;refine AA (fun j x1=>x1=(j:Int)/\∀k,k<j->At6 (w.g (i+k)) (l.If.g k)) l.If.n _ (by omega) ⟨rfl,fun k hk=>absurd hk (by omega)⟩ ?_;rintro y j x1 hj ⟨rfl,h⟩ hs;by_cases m:j<l.If.n
   ·rw[CG (by omega)];refine ifT (by simp;omega) (ifT (by omega) (ifT (by omega) ?_));obtain⟨b,eb,hb⟩:=Ad1 (N:=N) (hw.2 (i+j) (by omega)) (hl.2.2 j m);refine B0 (by rw[AC6,AC6];exact eb) ?_;cases b
    ·refine ifT rfl (c _ ?_);exact (HW fun u=>by have:=hb.2 (u.2.1 j m);cases this).symm
    ·refine ifF (by simp) (hs m _ ⟨B4 (by omega),fun k f=>?_⟩);by_cases e:k=j
     ·subst e;exact hb.1 rfl
     ·exact h k (by omega)
   ·refine ifF (by simp;omega) ?_;obtain⟨b,eb,hb⟩:=We z hl hk hw i (by omega);refine B0 eb ?_;cases b
    ·refine ifF (by simp) (c _ ?_);exact (HW fun u=>by have:=hb.2 u.2.2;cases this).symm
    ·refine ifT rfl ?_;have hh:ND l w i:=⟨hn,fun k f=>h k (by omega),hb.1 rfl⟩;refine⟨(i:Int)::Ds l w (i+1),?_,(HV (by omega) hh).symm⟩;rw[B4 (by omega),x,o];rfl
theorem Ym {N:Nat}(a:3000<=N){l:Law}(hl:okL l)(hk:l.If.n<=4){w:Sl Sound}(hw:okW w)(i:Nat)(c:i<1500) :∃b,BB N l w (i:Int)=some b/\(b=true↔ND l w i):=by
 unfold BB;refine B0 (x:=(l,w,(i:Int))) rfl (B0 (UN a hl hk hw i c) ?_);by_cases h:ND l w i
 ·rw[HV (by have:=h.1;omega) h];exact⟨true,by simp[P4],by simp[h]⟩
 ·rw[HW h];rcases hL:Ds l w (i+1)with _|⟨t,L⟩
  ·exact⟨false,rfl,by simp[h]⟩
  ·have:((i+1:Nat):Int)<=t:=Ad3 (l:=l) (w:=w) (by rw[hL];simp)
   exact⟨false,by show some (t==(i:Int))=some false;congr 1;simp;omega,by simp[h]⟩
end Go.AM
namespace Go.AM
open IntKind (wrap)
open Go.Proofs
def okO (x:Bd):Prop:=okS x.Set/\(∃c:BitVec 32,x.Clear=(c.toNat:Int))/\∃t:BitVec 32,x.Take=(t.toNat:Int)
theorem Ai4 {p m a b s:BitVec 32}(h1:vB p m=true)(d:vB a b=true):vB (PA p a s) (PA m b s)=true:=by rw[ET]at *;intro i c;have g1:=h1 i c;have g2:=d i c;simp only[PA,AE4,AE5,AH6];revert g1 g2;cases s.getLsbD i<;>cases p.getLsbD i<;>cases m.getLsbD i<;>cases a.getLsbD i<;>cases b.getLsbD i<;>simp[c]
theorem vS0:vS (⟨0,0⟩:Sound):=⟨0#32,0#32,rfl,by decide +kernel⟩
theorem Tp {N:Nat}(f:1000<=N){s t:Sound}{c:Int}(hs:okS s)(hc:∃b:BitVec 32,c=(b.toNat:Int))(ht:okS t):∃y,N7 N s c t=some y/\U9 N s c t=some y/\vS y.1:=by
 obtain⟨p,m,rfl⟩:=hs;obtain⟨a,b,rfl⟩:=ht;obtain⟨d,rfl⟩:=hc;refine⟨_,VZ p m d a b,Wa p m d a b f,?_⟩;unfold Ac2;split
 ·rename_i h;split
  ·exact⟨_,_,rfl,Ai4 h.1 h.2⟩
  ·exact vS0
 ·exact vS0
theorem Yn {N:Nat}(f:1000<=N){s t:Sound}{c:Int}(hs:okS s)(hc:∃b:BitVec 32,c=(b.toNat:Int))(ht:okS t):∃y,S1 N s t c=some y/\Bf N s t c=some y/\vS y.1:=by
 obtain⟨p,m,rfl⟩:=hs;obtain⟨a,b,rfl⟩:=ht;obtain⟨d,rfl⟩:=hc;refine⟨_,Ac4 p m a b d,Ac5 p m a b d f,?_⟩;unfold Ac3;split
 ·rename_i h;split
  ·exact⟨_,_,rfl,Ai4 h.1 h.2⟩
  ·exact vS0
 ·exact vS0
def At7 (l:Law):Prop:=l.Out.n<=6/\∀i,i<l.Out.n->okO (l.Out.g i)/\(l.Out.g i).From<l.If.n/\((l.Out.g i).Take≠0->0<=(l.Out.g i).Of/\(l.Out.g i).Of<l.If.n)
theorem eqX {R:Type}{Q:R->Prop}{o o' : Option R}(h:o=o')(a:∃r,o' = some r/\Q r):∃r,o=some r/\Q r:=by rw[h];exact a
def BX (f:Nat->Sound):Nat->Sl Sound
 |0=>Sl.nil
 |m+1=>(BX f m).push (f m)
theorem LD (f:Nat->Sound):∀m,(BX f m).n=m
 |0=>rfl
 |m+1=>by show (BX f m).n+1=_;rw[LD f m]
theorem Yo (f:Nat->Sound):∀{m i:Nat},i<m->(BX f m).g i=f i
 |0,i,h=>by omega
 |m+1,i,h=>by
  show (if i<(BX f m).n then (BX f m).g i else f m)=f i;rw[LD];by_cases e:i<m
  ·rw[if_pos e,Yo f e]
  ·rw[if_neg e,show i=m by omega]
abbrev srcS (l:Law)(cut:Sl Sound)(i:Nat):Sound:=⟨(if (decide (0<=(l.Out.g i).From)) then (cut.g (l.Out.g i).From.toNat).Plus else 0),(if (decide (0<=(l.Out.g i).From)) then (cut.g (l.Out.g i).From.toNat).Minus else 0)⟩
theorem Ar1 {N:Nat}(t:1000<=N){l:Law}(u:At7 l){cut:Sl Sound}(hn:cut.n=l.If.n)(hc:∀i,i<cut.n->okS (cut.g i)) :∃s,N1 N l cut=some s/\Cw N l cut=some s/\s.n=l.Out.n/\∀i,i<s.n->vS (s.g i):=by
 have one:∀i,∃y:Sound,i<l.Out.n->vS y/\∀(R:Type) (k:Sound->Option R),
  (∀(Ch:Nat->Sound->Int->Sound->Option (Sound×Int)) (Ta:Nat->Sound->Sound->Int->Option (Sound×Int)),(Ch=N7/\Ta=S1) \/ (Ch=U9/\Ta=Bf) ->
  (if ((decide (0<=(l.Out.g i).From))=true->((0:Int)<=(l.Out.g i).From/\(l.Out.g i).From<(cut.n:Int)))then
   (Ch N (⟨(if (decide (0<=(l.Out.g i).From)) then (cut.g (l.Out.g i).From.toNat).Plus else 0),(if (decide (0<=(l.Out.g i).From)) then (cut.g (l.Out.g i).From.toNat).Minus else 0)⟩:Sound) (l.Out.g i).Clear (l.Out.g i).Set).bind fun y5=>
   if ((l.Out.g i).Take != 0) then
    if ((0:Int)<=(l.Out.g i).Of/\(l.Out.g i).Of<(cut.n:Int))then
     (Ta N y5.1 (cut.g (l.Out.g i).Of.toNat) (l.Out.g i).Take).bind fun y6=>k y6.1
    else none
   else k y5.1
   else none)=k y):=by
  intro i;by_cases d:i<l.Out.n
  case neg=>exact⟨default,fun h=>absurd h d⟩
  obtain⟨⟨j,m,o⟩,w,q⟩:=u.2 i d;have hs:okS (⟨(if (decide (0<=(l.Out.g i).From)) then (cut.g (l.Out.g i).From.toNat).Plus else 0),(if (decide (0<=(l.Out.g i).From)) then (cut.g (l.Out.g i).From.toNat).Minus else 0)⟩:Sound):=by
   by_cases v:0<=(l.Out.g i).From
   ·simp only[v,decide_true,if_true];exact hc _ (by omega)
   ·simp only[v,decide_false,AD5,if_false];exact⟨0#32,0#32,rfl⟩
  obtain⟨y,e1,e2,hy⟩:=Tp t hs m j;by_cases ht:(l.Out.g i).Take=0
  ·refine⟨y.1,fun _=>⟨hy,fun R k Ch Ta h=>?_⟩⟩;rw[if_pos (fun h=>by have:=of_decide_eq_true h;omega)]
   have:Ch N (srcS l cut i) (l.Out.g i).Clear (l.Out.g i).Set=some y:=by
    rcases h with⟨rfl,rfl⟩ | ⟨rfl,rfl⟩
    ·exact e1
    ·exact e2
   rw[this,AD1,if_neg (by simp[ht])]
  ·obtain⟨g1,g2⟩:=q ht;obtain⟨z,e3,e4,x⟩:=Yn t hy.ok o (hc (l.Out.g i).Of.toNat (by omega));refine⟨z.1,fun _=>⟨x,fun R k Ch Ta h=>?_⟩⟩;rw[if_pos (fun h=>by have:=of_decide_eq_true h;omega)]
   have:Ch N (srcS l cut i) (l.Out.g i).Clear (l.Out.g i).Set=some y:=by
    rcases h with⟨rfl,rfl⟩ | ⟨rfl,rfl⟩
    ·exact e1
    ·exact e2
   rw[this,AD1,if_pos (by simp[ht]),if_pos (by omega)]
   have:Ta N y.1 (cut.g (l.Out.g i).Of.toNat) (l.Out.g i).Take=some z:=by
    rcases h with⟨rfl,rfl⟩ | ⟨rfl,rfl⟩
    ·exact e3
    ·exact e4
   rw[this,AD1]
 obtain⟨out,f⟩:=AK6 one;have a0:=u.1;have b:∀(Ch:Nat->Sound->Int->Sound->Option (Sound×Int)) (Ta:Nat->Sound->Sound->Int->Option (Sound×Int)),(Ch=N7/\Ta=S1) \/ (Ch=U9/\Ta=Bf) ->
  ∀(a:Sl Sound->Int->Option (Sl Sound)) (i:Nat),i<l.Out.n->(∃r,a ((BX out i).push (out i)) (wrap .i64 ((i:Int)+1))=some r/\r=BX out l.Out.n) ->
  ∃r,(if ((decide (0<=(l.Out.g i).From))=true->((0:Int)<=(l.Out.g i).From/\(l.Out.g i).From<(cut.n:Int)))then
   (Ch N (srcS l cut i) (l.Out.g i).Clear (l.Out.g i).Set).bind fun y5=>
   if ((l.Out.g i).Take != 0) then
    if ((0:Int)<=(l.Out.g i).Of/\(l.Out.g i).Of<(cut.n:Int))then
     (Ta N y5.1 (cut.g (l.Out.g i).Of.toNat) (l.Out.g i).Take).bind fun y6=>
     if (((BX out i).n+(Sl.of [y6.1]:Sl Sound).n)*8<=140737488355328/\(BX out i).n+(Sl.of [y6.1]:Sl Sound).n<=140737488355328)then
      a ((BX out i).push y6.1) (wrap .i64 ((i:Int)+1))
     else none
    else none
   else
    if (((BX out i).n+(Sl.of [y5.1]:Sl Sound).n)*8<=140737488355328/\(BX out i).n+(Sl.of [y5.1]:Sl Sound).n<=140737488355328)then
     a ((BX out i).push y5.1) (wrap .i64 ((i:Int)+1))
    else none
   else none)=some r/\r=BX out l.Out.n:=by
  intro Ch Ta h a i d hr;have e:=(f i d).2 (Sl Sound) (fun y=>if (((BX out i).n+(Sl.of [y]:Sl Sound).n)*8<=140737488355328/\(BX out i).n+(Sl.of [y]:Sl Sound).n<=140737488355328)then a ((BX out i).push y) (wrap .i64 ((i:Int)+1))else none) Ch Ta h;refine eqX e (ifT ?_ hr)
  have:=LD out i
  show ((BX out i).n+1)*8<=_/\(BX out i).n+1<=_;omega
 have h1:∃r,N1 N l cut=some r/\r=BX out l.Out.n:=by
  unfold N1;refine N2 (fun i x1 x2=>x2=(i:Int)/\x1=BX out i) l.Out.n _ (by omega) ⟨rfl,rfl⟩ ?_;rintro a i x1 x2 d ⟨rfl,rfl⟩ hs;by_cases c:i<l.Out.n
  ·refine ifT (by simp;omega) (ifT (by omega) ?_);rw[AC6];exact b _ _ (.inl ⟨rfl,rfl⟩) a i c (hs c _ _ ⟨B4 (by omega),rfl⟩)
  ·exact ifF (by simp;omega) ⟨_,rfl,by congr 1;omega⟩
 have h2:∃r,Cw N l cut=some r/\r=BX out l.Out.n:=by
  unfold Cw;refine N2 (fun i x1 x2=>x2=(i:Int)/\x1=BX out i) l.Out.n _ (by omega) ⟨rfl,rfl⟩ ?_;rintro a i x1 x2 d ⟨rfl,rfl⟩ hs;by_cases c:i<l.Out.n
  ·refine ifT (by simp;omega) (ifT (by omega) ?_);rw[AC6];exact b _ _ (.inr ⟨rfl,rfl⟩) a i c (hs c _ _ ⟨B4 (by omega),rfl⟩)
  ·exact ifF (by simp;omega) ⟨_,rfl,by congr 1;omega⟩
 obtain⟨r,e1,rfl⟩:=h1;obtain⟨r,e2,rfl⟩:=h2;exact⟨_,e1,e2,LD out _,fun i d=>by rw[LD]at d;rw[Yo out d];exact (f i d).1⟩
end Go.AM
namespace Go.AM
open Go.Proofs
theorem ne0 (x:BitVec 32):((x.toNat:Int) != 0)=decide (x≠0#32):=by rw[bne,eq0];simp
theorem or0 (x y:BitVec 32):x ||| y=0#32↔x=0#32/\y=0#32:=by
 constructor
 ·intro h;have h:=(z32 _).1 h;exact⟨(z32 _).2 fun i a=>by have:=h i a;rw[AE4,AM0]at this;exact this.1,(z32 _).2 fun i a=>by have:=h i a;rw[AE4,AM0]at this;exact this.2⟩
 ·rintro⟨rfl,rfl⟩;rfl
theorem AA7 (x y z:BitVec 32):x &&& (y ||| z)=(x &&& y) ||| (x &&& z):=by apply AI0;intro i a;simp only[AE5,AE4];cases x.getLsbD i<;>simp
theorem AA8 (x y z:BitVec 32):(x ||| y) &&& z=(x &&& z) ||| (y &&& z):=by apply AI0;intro i a;simp only[AE5,AE4];cases z.getLsbD i<;>simp
theorem UO {N:Nat}(j:1000<=N){x:Bd}(hx:okO x)(k:Int):∃b,T0 N x k=some b/\IC N x k=some b:=by
 obtain⟨⟨a,b,d⟩,⟨c,hc⟩,t,ht⟩:=hx;have f:(16777215:Int)=((16777215#32).toNat:Int):=rfl;unfold T0 IC;simp only[lt,d,hc,ht,AU,X7 a b j,AD1];rw[f];simp only[Ec,Jb,DJ,ne0];by_cases h1:x.From < -1
 ·simp[h1]
 by_cases g:k<=x.From
 ·simp[h1,g]
 by_cases i:vB a b=true
 case neg=>simp[h1,g,i]
 simp only[h1,g,i,decide_false,AD5,if_false,AO7];rw[AA8,AA7 t];generalize ~~~16777215#32=M;by_cases g1:c &&& M=0#32
 case neg=>simp[g1,or0]
 by_cases g2:t &&& M=0#32
 case neg=>simp[g1,g2,or0]
 by_cases g3:c &&& (a ||| b)=0#32
 case neg=>simp[g1,g2,g3,or0]
 by_cases g4:t &&& (a ||| b)=0#32
 case neg=>simp[g1,g2,g3,g4,or0]
 by_cases g5:t &&& c=0#32
 case neg=>simp[g1,g2,g3,g4,g5,or0]
 simp[g1,g2,g3,g4,g5,or0];by_cases g6:t.toNat=0
 ·simp only[g6,if_true];cases x.Of==0<;>simp
 ·simp only[g6,if_false];cases (decide (0<=x.Of)&&decide (x.Of<k))<;>simp
end Go.AM
namespace Go.AM
open Go.Proofs
abbrev nameC:Str:=[97,98,99,100,101,102,103,104,105,106,107,108,109,110,111,112,113,114,115,116,117,118,119,120,121,122,65,66,67,68,69,70,71,72,73,74,75,76,77,78,79,80,81,82,83,84,85,86,87,88,89,90,48,49,50,51,52,53,54,55,56,57,45]
theorem Yp {p:UInt8->Bool}:∀{l:Str},l.dropWhile p=[] ↔ ∀x∈l,p x=true
 |[]=>by simp
 |a::l=>by
  rw[List.dropWhile_cons];by_cases h:p a=true
  ·rw[if_pos h,Yp];simp[h]
  ·rw[if_neg h];simp[h]
theorem Ad4 (l cs:Str):Lib.trimS l cs=[] ↔ ∀b∈l,cs.contains b=true:=by
 unfold Lib.trimS Lib.trimLeftS Lib.trimRightS;rw[Yp];constructor
 ·intro h;have h:∀x∈l.reverse.dropWhile (cs.contains ·),cs.contains x=true:=fun x hx=>h x (AQ2.2 hx);have a:l.reverse.dropWhile (cs.contains ·)=[]:=by
   rcases e:l.reverse.dropWhile (cs.contains ·)with _|⟨y,r⟩
   ·rfl
   ·have c:=h y (by rw[e];simp);have d:¬cs.contains y=true:=by
     have:=List.head_dropWhile_not (cs.contains ·) (l:=l.reverse) (by rw[e];simp)
     simp only[e,List.head_cons]at this;rw[this];exact Bool.false_ne_true
    exact absurd c d
  rw[Yp]at a;exact fun b hb=>a b (AQ2.2 hb)
 ·intro h x hx;have hx:=AQ2.1 hx;exact h x (AQ2.1 ((List.dropWhile_sublist _).mem hx))
abbrev Pk (y:Int):Bool:=((((decide (97<=y))&&(decide (y<=122)))||((decide (65<=y))&&(decide (y<=90))))||((decide (48<=y))&&(decide (y<=57))))||(y==45)
theorem Yq:∀k:Fin 256,nameC.contains (UInt8.ofNat k.val)=Pk ((k.val:Nat):Int):=by decide +kernel
theorem Yr (b:UInt8):nameC.contains b=Pk ((b.toNat:Nat):Int):=by
 have:=Yq ⟨b.toNat,b.toNat_lt⟩
 rw[show UInt8.ofNat b.toNat=b by simp]at this;exact this
theorem Rm {N:Nat}{s:Str}(n:s.length<N)(hs:s.length<1000000000):∃b,Bi N s=some b/\DQ N s=some b:=by
 have o:∃b,DQ N s=some b/\(b=true↔(∀c∈s,nameC.contains c=true)/\1<=s.length/\s.length<=24):=by
  unfold DQ;refine AA (fun i x1=>x1=(i:Int)/\∀j (h:j<s.length),j<i->nameC.contains s[j]=true) s.length _ n ⟨rfl,fun j _ a=>absurd a (by omega)⟩ ?_;rintro l i x1 v ⟨rfl,h⟩ f;by_cases hl:i<s.length
  ·refine ifT (by simp;omega) (ifT (by omega) ?_);have eb:Cm s (i:Int)=((s[i].toNat:Nat):Int):=by simp[Cm,hl]
   by_cases hb:nameC.contains s[i]=true
   ·refine ifF (by rw[eb];show ¬(!(Pk ((s[i].toNat:Nat):Int)))=true;rw[<- Yr,hb];simp) (f hl _ ⟨B4 (by omega),fun j a q=>?_⟩);by_cases e:j=i
    ·subst e;exact hb
    ·exact h j a (by omega)
   ·refine ifT ?_ ⟨false,rfl,by simp,fun t=>absurd (t.1 s[i] (AT4 hl)) hb⟩;rw[eb];show (!(Pk ((s[i].toNat:Nat):Int)))=true;rw[<- Yr];simpa using hb
  ·refine ifF (by simp;omega) ⟨_,rfl,?_⟩;simp only[AD2,decide_eq_true_eq];constructor
   ·rintro⟨g1,g2⟩;refine⟨fun c hc=>?_,by omega,by omega⟩;obtain⟨j,a,rfl⟩:=AQ5 hc;exact h j a (by omega)
   ·rintro⟨_,g1,g2⟩;exact⟨by omega,by omega⟩
 obtain⟨b,e,hb⟩:=o;refine⟨b,?_,e⟩
 suffices h:∃r,Bi N s=some r/\(r=true↔(∀c∈s,nameC.contains c=true)/\1<=s.length/\s.length<=24) by obtain⟨r,u,g⟩:=h;rw[u,show r=b by rw[AG1,g,hb]]
 unfold Bi;refine ltX ?_;by_cases d:s=[]
 ·exact ifF (by simp[d]) ⟨false,rfl,by simp[d]⟩
 refine ifT (by simp[d]) ?_;have m:0<s.length:=List.length_pos_iff.2 d;by_cases h1:s.length<=24
 ·refine ifT (by simp;omega) (B0 (x:=Lib.trimS s nameC) ?_ ⟨_,rfl,?_⟩)
  ·unfold Dh;rw[if_pos ⟨by omega,by decide,by decide⟩]
  ·rw[<- Ad4];constructor
   ·intro h;exact⟨by simpa using h,by omega,h1⟩
   ·rintro⟨h,_⟩;simp[h]
 ·exact ifF (by simp;omega) ⟨false,rfl,by simp;intro _ _;omega⟩
end Go.AM
namespace Go.AM
open IntKind (wrap)
open Go.Proofs
theorem Rn {N:Nat}{s:Sl Bd}(m:s.n<N)(hs:s.n<1000000){f:Bd->Option Bool}{b:Nat->Bool}(o:∀i,i<s.n->f (s.g i)=some (b i)) :∃r,B8 N s f=some r/\(r=true ↔ ∃i,i<s.n/\b i=true):=by
 unfold B8 E1
 have:∃y,R9 N (fun (a:Int->Option Int) (x1:Int)=>
  if (decide (x1<(s.n:Int))) then
   if ((0:Int)<=x1/\x1<(s.n:Int))then
    (f (s.g x1.toNat)).bind fun y3=>
    if y3 then
     some x1
    else
     a (wrap .i64 (x1+1))
   else none
  else
   some (-1)) 0=some y/\(0<=y ↔ ∃i,i<s.n/\b i=true):=by
  refine AA (fun i x1=>x1=(i:Int)/\∀j,j<i->b j=false) s.n _ m ⟨rfl,fun j c=>absurd c (by omega)⟩ ?_;rintro l i x1 q ⟨rfl,h⟩ d;by_cases hl:i<s.n
  ·refine ifT (by simp;omega) (ifT (by omega) (B0 (by rw[AC6];exact o i hl) ?_));cases hb:b i
   ·refine ifF (by simp) (d hl _ ⟨B4 (by omega),fun j c=>?_⟩);by_cases e:j=i
    ·subst e;exact hb
    ·exact h j (by omega)
   ·exact ifT rfl ⟨i,rfl,fun _=>⟨i,hl,hb⟩,fun _=>by omega⟩
  ·refine ifF (by simp;omega) ⟨-1,rfl,fun h=>absurd h (by decide),?_⟩;rintro⟨j,c,hb⟩;rw[h j (by omega)]at hb;cases hb
 obtain⟨y,e,hy⟩:=this;exact B0 e ⟨_,rfl,by rw[decide_eq_true_eq];exact hy⟩
def HX (l:Law):Prop:=okL l/\l.Name.length<1100000/\l.If.n<1100000/\l.Out.n<1100000/\∀i,i<l.Out.n->okO (l.Out.g i)
theorem Wf {N:Nat}{s:Sound}(hs:okS s):∃b,G1 N s=some b/\(b=true↔vS s):=by obtain⟨p,m,e⟩:=hs;exact⟨vB p m,by rw[e];exact AU p m,(Tk e).symm⟩
theorem Wg {N:Nat}(a:1000<=N){s:Sound}(hs:okS s):∃b,J1 N s=some b/\(b=true↔vS s):=by obtain⟨p,m,e⟩:=hs;exact⟨vB p m,by rw[e];exact X7 p m a,(Tk e).symm⟩
theorem Ad5 {N:Nat}{x:Bd}(hx:okO x){k:Int}(h:T0 N x k=some true):x.From<k/\(x.Take≠0->0<=x.Of/\x.Of<k):=by
 obtain⟨⟨a,b,c⟩,_,_⟩:=hx;unfold T0 at h;simp only[lt,c,AU,AD1]at h;by_cases h1:x.From < -1
 ·simp[h1]at h
 by_cases d:k<=x.From
 ·simp[h1,d]at h
 refine⟨by omega,fun ht=>?_⟩;simp only[h1,d,decide_false,AD5,if_false]at h;by_cases f:(!vB a b)=true
 ·rw[if_pos f]at h;cases h
 rw[if_neg f]at h;split at h
 ·cases h
 ·rw[if_neg (by simp[ht])]at h;simpa using h
def chkAll (N:Nat)(l:Law):Prop:=DQ N l.Name=some true/\chk 40 [l.Left]/\chk 40 [l.Right]/\l.If.n<=4/\l.Out.n<=6/\l.If.n+l.Out.n≠0/\1<=l.Mode/\l.Mode<=3/\(∀i,i<l.If.n->vS (l.If.g i))/\∀i,i<l.Out.n->T0 N (l.Out.g i) l.If.n=some true
def Ar2 (N:Nat)(l:Law)(e:Int):Prop:=(e=0/\chkAll N l) \/ (e=17/\¬chkAll N l)
def At8 (l:Law):Prop:=okL l/\chk 40 [l.Left]/\chk 40 [l.Right]/\l.If.n<=4/\At7 l/\l.If.n+l.Out.n≠0/\1<=l.Mode/\l.Mode<=3
theorem chkAll.f {N:Nat}{l:Law}(hl:HX l)(h:chkAll N l):At8 l:=by obtain⟨_,h1,b,c,d,g,j,m,o,n⟩:=h;exact⟨hl.1,h1,b,c,⟨d,fun i a=>⟨hl.2.2.2.2 i a,Ad5 (hl.2.2.2.2 i a) (n i a)⟩⟩,g,j,m⟩
theorem NE {N:Nat}(hN:3000000<=N){l:Law}(hl:HX l):∃e,S3 N l=some e/\Ar2 N l e:=by
 have u:=hl.2.1;have v:=hl.2.2.1;have x:=hl.2.2.2.1;unfold S3;obtain⟨b0,e0,e0'⟩:=Rm (N:=N) (s:=l.Name) (by omega) (by omega);refine B0 e0 ?_;cases b0
 ·exact ifT rfl ⟨17,rfl,.inr ⟨rfl,fun h=>by have:=h.1;rw[e0']at this;cases this⟩⟩
 refine ifF (by simp) ?_;obtain⟨y2,e2,o⟩:=Ph (N:=N) (by omega) hl.1.1;refine B0 e2 ?_;by_cases c2:y2=0
 case neg=>exact ifT (by simpa using c2) ⟨17,rfl,.inr ⟨rfl,fun h=>c2 (o.2 h.2.1)⟩⟩
 refine ifF (by simp[c2]) ?_;obtain⟨y3,e3,q⟩:=Ph (N:=N) (by omega) hl.1.2.1;refine B0 e3 ?_;by_cases c3:y3=0
 case neg=>exact ifT (by simpa using c3) ⟨17,rfl,.inr ⟨rfl,fun h=>c3 (q.2 h.2.2.1)⟩⟩
 refine ifF (by simp[c3]) ?_;by_cases c4:4<l.If.n
 ·exact ifT (by simp;omega) ⟨17,rfl,.inr ⟨rfl,fun h=>by have:=h.2.2.2.1;omega⟩⟩
 refine ifF (by simp;omega) ?_;by_cases c5:6<l.Out.n
 ·exact ifT (by simp;omega) ⟨17,rfl,.inr ⟨rfl,fun h=>by have:=h.2.2.2.2.1;omega⟩⟩
 refine ifF (by simp;omega) ?_;rw[CG (by omega)];by_cases c6:l.If.n+l.Out.n=0
 ·exact ifT (by rw[c6];rfl) ⟨17,rfl,.inr ⟨rfl,fun h=>h.2.2.2.2.2.1 c6⟩⟩
 refine ifF (by simp;omega) ?_;by_cases c7:l.Mode<1 \/ 3<l.Mode
 ·exact ifT (by simp;omega) ⟨17,rfl,.inr ⟨rfl,fun h=>by have g1:=h.2.2.2.2.2.2.1;have g2:=h.2.2.2.2.2.2.2.1;omega⟩⟩
 refine ifF (by simp;omega) ?_;have y:∀i,∃b,i<l.If.n->X5 N (l.If.g i)=some b/\(b=true ↔ ¬vS (l.If.g i)):=by
  intro i;by_cases a:i<l.If.n
  ·obtain⟨b,eb,hb⟩:=Wf (N:=N) (hl.1.2.2 i a);refine⟨!b,fun _=>⟨by unfold X5;rw[eb];rfl,?_⟩⟩;rw[<- hb];simp
  ·exact⟨false,fun h=>absurd h a⟩
 obtain⟨f,j⟩:=AK6 y;obtain⟨y4,e4,r⟩:=Jr (N:=N) (w:=l.If) (by omega) (by omega) (f:=fun u1=>X5 N u1) (fun i a=>(j i a).1);refine B0 e4 ?_;cases c:y4
 case true=>obtain⟨i,a,hb⟩:=r.1 c;exact ifT rfl ⟨17,rfl,.inr ⟨rfl,fun h=>(j i a).2.1 hb (h.2.2.2.2.2.2.2.2.1 i a)⟩⟩
 refine ifF (by simp) ?_;have z:∀i,∃b,i<l.Out.n->X4 N (l.Out.g i) (l.If.n:Int)=some b/\(b=true ↔ ¬T0 N (l.Out.g i) l.If.n=some true):=by
  intro i;by_cases a:i<l.Out.n
  ·obtain⟨b,eb,_⟩:=UO (N:=N) (by omega) (hl.2.2.2.2 i a) (l.If.n:Int);refine⟨!b,fun _=>⟨by unfold X4;rw[eb];rfl,?_⟩⟩;rw[eb];simp
  ·exact⟨false,fun h=>absurd h a⟩
 obtain⟨g,m⟩:=AK6 z;obtain⟨y5,e5,t⟩:=Rn (N:=N) (s:=l.Out) (by omega) (by omega) (f:=fun u2=>X4 N u2 (l.If.n:Int)) (fun i a=>(m i a).1);refine B0 e5 ?_;cases d:y5
 case true=>obtain⟨i,a,hb⟩:=t.1 d;exact ifT rfl ⟨17,rfl,.inr ⟨rfl,fun h=>(m i a).2.1 hb (h.2.2.2.2.2.2.2.2.2 i a)⟩⟩
 refine ifF (by simp) ⟨0,rfl,.inl ⟨rfl,e0',o.1 c2,q.1 c3,by omega,by omega,c6,by omega,by omega,fun i a=>?_,fun i a=>?_⟩⟩
 ·refine AG5 fun hn=>?_
  have:=r.2 ⟨i,a,(j i a).2.2 hn⟩
  rw[c]at this;cases this
 ·refine AG5 fun hn=>?_
  have:=t.2 ⟨i,a,(m i a).2.2 hn⟩
  rw[d]at this;cases this
theorem Wh {N:Nat}(y:3000000<=N){l:Law}(hl:HX l):∃e,Bh N l=some e/\Ar2 N l e:=by
 have u:=hl.2.1;have v:=hl.2.2.1;have w:=hl.2.2.2.1;unfold Bh;obtain⟨b0,e0,e0'⟩:=Rm (N:=N) (s:=l.Name) (by omega) (by omega);refine B0 e0' (ltX ?_);cases b0
 ·exact ifT rfl (ifT rfl ⟨17,rfl,.inr ⟨rfl,fun h=>by have:=h.1;rw[e0']at this;cases this⟩⟩)
 refine ifF (by simp) ?_;obtain⟨y2,e2,q⟩:=LB (N:=N) (by omega) hl.1.1;refine B0 e2 ?_;by_cases c2:y2=0
 case neg=>exact ifT (by simpa using c2) (ifT rfl ⟨17,rfl,.inr ⟨rfl,fun h=>c2 (q.2 h.2.1)⟩⟩)
 refine ifF (by simp[c2]) ?_;obtain⟨y3,e3,r⟩:=LB (N:=N) (by omega) hl.1.2.1;refine B0 e3 ?_;by_cases c3:y3=0
 case neg=>exact ifT (by simpa using c3) ⟨17,rfl,.inr ⟨rfl,fun h=>c3 (r.2 h.2.2.1)⟩⟩
 refine ifF (by simp[c3]) ?_;rw[CG (by omega)];by_cases a:l.If.n<=4/\l.Out.n<=6/\l.If.n+l.Out.n≠0/\1<=l.Mode/\l.Mode<=3
 case neg=>refine ifT ?_ ⟨17,rfl,.inr ⟨rfl,fun h=>a ⟨h.2.2.2.1,h.2.2.2.2.1,h.2.2.2.2.2.1,h.2.2.2.2.2.2.1,h.2.2.2.2.2.2.2.1⟩⟩⟩;simp only[AE2,decide_eq_true_eq,beq_iff_eq];omega
 refine ifF (by simp only[AE2,decide_eq_true_eq,beq_iff_eq];omega) ?_;obtain⟨c4,c5,c6,c7,c8⟩:=a;refine AA (fun i x1=>x1=(i:Int)/\∀j,j<i->vS (l.If.g j)) l.If.n _ (by omega) ⟨rfl,fun j c=>absurd c (by omega)⟩ ?_;rintro t i x1 z ⟨rfl,h⟩ hs;by_cases d:i<l.If.n
 ·obtain⟨b,eb,hb⟩:=Wg (N:=N) (by omega) (hl.1.2.2 i d);refine ifT (by simp;omega) (ifT (by omega) (B0 (by rw[AC6];exact eb) ?_));cases b
  ·exact ifT rfl ⟨17,rfl,.inr ⟨rfl,fun h=>by have:=hb.2 (h.2.2.2.2.2.2.2.2.1 i d);cases this⟩⟩
  ·refine ifF (by simp) (hs d _ ⟨B4 (by omega),fun j c=>?_⟩);by_cases e:j=i
   ·subst e;exact hb.1 rfl
   ·exact h j (by omega)
 refine ifF (by simp;omega) ?_;have x:∀j,j<l.If.n->vS (l.If.g j):=fun j c=>h j (by omega);refine AA (fun i x1=>x1=(i:Int)/\∀j,j<i->T0 N (l.Out.g j) l.If.n=some true) l.Out.n _ (by omega) ⟨rfl,fun j c=>absurd c (by omega)⟩ ?_;rintro m k x2 hk ⟨rfl,h'⟩ o;by_cases f:k<l.Out.n
 ·obtain⟨b,eb,eb'⟩:=UO (N:=N) (by omega) (hl.2.2.2.2 k f) (l.If.n:Int);refine ifT (by simp;omega) (ifT (by omega) (B0 (by rw[AC6];exact eb') ?_));cases b
  ·exact ifT rfl ⟨17,rfl,.inr ⟨rfl,fun h=>by have:=h.2.2.2.2.2.2.2.2.2 k f;rw[eb]at this;cases this⟩⟩
  ·refine ifF (by simp) (o f _ ⟨B4 (by omega),fun j c=>?_⟩);by_cases e:j=k
   ·subst e;exact eb
   ·exact h' j (by omega)
 ·exact ifF (by simp;omega) ⟨0,rfl,.inl ⟨rfl,e0',q.1 c2,r.1 c3,c4,c5,c6,c7,c8,x,fun j c=>h' j (by omega)⟩⟩
theorem Ro {N:Nat}{l:Law}{e e' : Int}(h:Ar2 N l e)(h' : Ar2 N l e'):e=e':=by
 rcases h with⟨rfl,h⟩ | ⟨rfl,h⟩<;>rcases h' with⟨rfl,h'⟩ | ⟨rfl,h'⟩
 ·rfl
 ·exact absurd h h'
 ·exact absurd h' h
 ·rfl
theorem DS {N:Nat}(a:3000000<=N){l:Law}(hl:HX l):∃e,S3 N l=some e/\Bh N l=some e/\Ar2 N l e:=by obtain⟨e,h,c⟩:=NE a hl;obtain⟨e',h',c'⟩:=Wh a hl;obtain rfl:=Ro c c';exact⟨_,h,h',c⟩
end Go.AM
namespace Go.AM
open Go.Proofs
def PE:Pat->Pat->Prop
 |.nil,q=>q.Kind=0/\q.Is=default/\q.Not=false/\q.Min=0/\q.Max=0/\q.L.n=0
 |.mk k is no mn mx n g,q=>q.Kind=k/\q.Is=is/\q.Not=no/\q.Min=mn/\q.Max=mx/\q.L.n=n/\∀i,i<n->PE (g i) (q.L.g i)
theorem PE_of {p q:Pat}:PE p q↔q.Kind=p.Kind/\q.Is=p.Is/\q.Not=p.Not/\q.Min=p.Min/\q.Max=p.Max/\q.L.n=p.L.n/\∀i,i<p.L.n->PE (p.L.g i) (q.L.g i):=by
 cases p with
 |nil=>exact⟨fun h=>⟨h.1,h.2.1,h.2.2.1,h.2.2.2.1,h.2.2.2.2.1,h.2.2.2.2.2,fun i a=>absurd a (AF7 i)⟩,fun h=>⟨h.1,h.2.1,h.2.2.1,h.2.2.2.1,h.2.2.2.2.1,h.2.2.2.2.2.1⟩⟩
 |mk k is no mn mx n g=>exact AM2
theorem Tq:∀p:Pat,PE p p
 |.nil=>⟨rfl,rfl,rfl,rfl,rfl,rfl⟩
 |.mk k is no mn mx n g=>⟨rfl,rfl,rfl,rfl,rfl,rfl,fun i _=>Tq (g i)⟩
theorem Tr:∀{p q:Pat},PE p q->PE q p
 |.nil,q,h=>PE_of.2 ⟨h.1.symm,h.2.1.symm,h.2.2.1.symm,h.2.2.2.1.symm,h.2.2.2.2.1.symm,h.2.2.2.2.2.symm,fun i a=>absurd a (by rw[h.2.2.2.2.2];exact AF7 i)⟩
 |.mk k is no mn mx n g,q,h=>PE_of.2 ⟨h.1.symm,h.2.1.symm,h.2.2.1.symm,h.2.2.2.1.symm,h.2.2.2.2.1.symm,h.2.2.2.2.2.1.symm,fun i a=>Tr (h.2.2.2.2.2.2 i (by rw[<- h.2.2.2.2.2.1];exact a))⟩
theorem NF {n:Nat}{Q Q' : Nat->Nat->Nat->Prop}:∀{m:Nat},(∀i,i<m->Q i=Q' i)->VV n Q m=VV n Q' m
 |0,_=>rfl
 |m+1,h=>by funext a b;simp only[VV];rw[NF fun i c=>h i (by omega),h m (by omega)]
theorem Ar3 {w:Sl Sound}:∀(d:Nat) {p q:Pat},okP d p->PE p q->PR w p=PR w q
 |0,p,q,h,_=>h.elim
 |d+1,p,q,h,e=>by
  obtain⟨e1,e2,e3,e4,e5,e6,e7⟩:=PE_of.1 e;have ih:∀i,i<p.L.n->PR w (p.L.g i)=PR w (q.L.g i):=fun i c=>Ar3 d (h.2.2 i c) (e7 i c);funext a b;apply propext;rw[JH,JH,e1,e2,e3,e4,e5,e6];have j:VV w.n (fun i=>PR w (p.L.g i)) p.L.n=VV w.n (fun i=>PR w (q.L.g i)) p.L.n:=NF ih;have l:(∃i,i<p.L.n/\PR w (p.L.g i) a b) ↔ ∃i,i<p.L.n/\PR w (q.L.g i) a b:=⟨fun⟨i,c,g⟩=>⟨i,c,by rw[<- ih i c];exact g⟩,fun⟨i,c,g⟩=>⟨i,c,by rw[ih i c];exact g⟩⟩;rw[j,l];by_cases f:p.Kind=5
  ·have:=(h.2.1 f).1
   rw[ih 0 (by omega)]
  ·simp[f]
theorem Ad6 {p q:Pat}(e:PE p q):Gc p↔Gc q:=by obtain⟨e1,e2,e3,e4,e5,e6,_⟩:=PE_of.1 e;unfold Gc;rw[e1,e2,e3,e4,e5,e6]
def PEs:List Pat->List Pat->Prop
 |[],[]=>True
 |p::l,q::m=>PE p q/\PEs l m
 |_,_=>False
theorem Ys:∀{a b c d:List Pat},PEs a b->PEs c d->PEs (a++c) (b++d)
 |[],[],_,_,_,h=>h
 |_::_,_::_,_,_,⟨h1,h2⟩,h=>⟨h1,Ys h2 h⟩
 |[],_::_,_,_,h,_=>h.elim
 |_::_,[],_,_,h,_=>h.elim
theorem Rp {f g:Nat->Pat}:∀(l:List Nat),(∀i∈l,PE (f i) (g i))->PEs (l.map f) (l.map g)
 |[],_=>trivial
 |i::l,h=>⟨h i (by simp),Rp l fun j a=>h j (by simp[a])⟩
theorem Ai5:∀(k:Nat) (l m:List Pat),PEs l m->(chk k l↔chk k m)
 |0,[],[],_=>AM2
 |0,p::l,q::m,_=>⟨fun h=>(by cases h),fun h=>by cases h⟩
 |k+1,[],[],_=>AM2
 |k+1,p::l,q::m,⟨h1,h2⟩=>by
  obtain⟨_,_,_,_,_,e6,e7⟩:=PE_of.1 h1;show Gc p/\chk k (p.L.toList++l)↔Gc q/\chk k (q.L.toList++m);rw[Ad6 h1,Ai5 k _ _ (Ys (c:=l) (d:=m) (show PEs p.L.toList q.L.toList by unfold Sl.toList;rw[e6];exact Rp _ fun i a=>e7 i (AJ1.1 a)) h2)]
 |_,[],_::_,h=>h.elim
 |_,_::_,[],h=>h.elim
theorem IL {p q:Pat}(h:PE p q):chk 40 [p]↔chk 40 [q]:=Ai5 40 [p] [q] ⟨h,trivial⟩
theorem okPS_of {p:Pat}:okPS p↔okS p.Is/\∀i,i<p.L.n->okPS (p.L.g i):=by
 cases p with
 |nil=>exact⟨fun _=>⟨⟨0#32,0#32,rfl⟩,fun i a=>absurd a (AF7 i)⟩,fun _=>trivial⟩
 |mk k is no mn mx n g=>exact AM2
theorem LF:∀{p q:Pat},PE p q->okPS p->okPS q
 |.nil,q,h,_=>okPS_of.2 ⟨by rw[h.2.1];exact⟨0#32,0#32,rfl⟩,fun i a=>absurd a (by rw[h.2.2.2.2.2];exact AF7 i)⟩
 |.mk k is no mn mx n g,q,h,hp=>okPS_of.2 ⟨by rw[h.2.1];exact hp.1,fun i a=>by
  have a:i<n:=by rw[<- h.2.2.2.2.2.1];exact a
  exact LF (h.2.2.2.2.2.2 i a) (hp.2 i a)⟩
end Go.AM
namespace Go.AM
open IntKind (wrap)
open Go.Proofs
theorem nf:(!false)=true:=rfl
theorem At9 {α : Type}{s t:Sl α}(h:s.n=0):s.app t=t:=by cases t;simp[Sl.app,h]
def Ai6 {α : Type}[Inhabited α](s:Sl (Sl α)):Nat->Sl α
 |0=>Sl.nil
 |k+1=>(Ai6 s k).app (s.g k)
theorem Ai7 {α : Type}[Inhabited α](s:Sl (Sl α)){B:Nat}:∀k,(∀i,i<k->(s.g i).n<=B)->(Ai6 s k).n<=k*B
 |0,_=>by simp[Ai6]
 |k+1,h=>by
  have:=Ai7 s k fun i a=>h i (by omega)
  have:=h k (by omega)
  show (Ai6 s k).n+(s.g k).n<=_;rw[AP7];omega
theorem Ts {N:Nat}{s:Sl (Sl Sound)}(hn:s.n<1000)(d:1000<=N)(hs:∀i,i<s.n->(s.g i).n<=3000000) :A9 N s=some (Ai6 s s.n):=by
 suffices h:∃r,A9 N s=some r/\r=Ai6 s s.n by obtain⟨r,h,rfl⟩:=h;exact h
 unfold A9;refine N2 (fun (i:Nat) (x1 x2:Int)=>x2=(i:Int)/\0<=x1/\x1<=(i:Int)*3000000) s.n _ (by omega) ⟨rfl,Int.le_refl 0,by simp⟩ ?_;rintro b i x1 x2 c ⟨rfl,f,h1⟩ a;by_cases hl:i<s.n
 ·have:=hs i hl
  refine ifT (by simp;omega) (ifT (by omega) ?_);rw[AC6,D7 (by omega) (by omega)];exact ifF (by simp;omega) (a hl _ _ ⟨B4 (by omega),by omega,by omega⟩)
 refine ifF (by simp;omega) (B0 (x:=Sl.nil) ?_ ?_)
 ·unfold H2;rw[if_pos (by omega)]
 refine N2 (fun i x1 x2=>x2=(i:Int)/\x1=Ai6 s i) s.n _ (by omega) ⟨rfl,rfl⟩ ?_;rintro b i x1 x2 c ⟨rfl,rfl⟩ a;by_cases hl:i<s.n
 ·have g1:=hs i hl;have g2:=Ai7 s i (B:=3000000) fun j l=>hs j (by omega);refine ifT (by simp;omega) (ifT ⟨by omega,?_⟩ (a hl _ _ ⟨B4 (by omega),?_⟩))
  ·rw[AC6];omega
  ·rw[AC6];rfl
 ·exact ifF (by simp;omega) ⟨_,rfl,by congr 1;omega⟩
def Au0 (w:Sl Sound)(i k:Nat)(y:Sl Sound):Sl Sound:=((w.take i).app y).app (w.drop (i+k))
theorem Yt {w y:Sl Sound}{i k:Nat}(b:i+k<=w.n)(hw:∀j,j<w.n->vS (w.g j))(hy:∀j,j<y.n->vS (y.g j)):(Au0 w i k y).n=w.n-k+y.n/\∀j,j<(Au0 w i k y).n->vS ((Au0 w i k y).g j):=by
 have hn:(Au0 w i k y).n=w.n-k+y.n:=by show i+y.n+(w.n-(i+k))=_;omega
 refine⟨hn,fun j a=>?_⟩;rw[hn]at a;show vS (if j<i+y.n then (if j<i then w.g j else y.g (j-i))else w.g (i+k+(j-(i+y.n))));split
 ·split
  ·exact hw _ (by omega)
  ·exact hy _ (by omega)
 ·exact hw _ (by omega)
def Gd (N:Nat)(l:Law)(w:Sl Sound)(i:Nat):Sl Sound:=(N1 N l (w.sub i (i+l.If.n))).getD Sl.nil
def W2 (N:Nat)(l:Law)(w:Sl Sound)(i:Nat):Sl Sound:=Au0 w i l.If.n (Gd N l w i)
theorem vOk {w:Sl Sound}(h:wOk w):okW w:=⟨by have:=h.1;omega,fun i a=>(h.2 i a).ok⟩
theorem FF {N:Nat}(a:1000<=N){l:Law}(b:At7 l){w:Sl Sound}(hw:∀j,j<w.n->vS (w.g j)){i:Nat}(o:i+l.If.n<=w.n) :N1 N l (w.sub i (i+l.If.n))=some (Gd N l w i)/\Cw N l (w.sub i (i+l.If.n))=some (Gd N l w i)/\(Gd N l w i).n=l.Out.n/\∀j,j<(Gd N l w i).n->vS ((Gd N l w i).g j):=by
 obtain⟨s,h1,c,d,f⟩:=Ar1 a b (cut:=w.sub i (i+l.If.n)) (by show i+l.If.n-i=_;omega) fun j m=>(hw (i+j) (by have:j<i+l.If.n-i:=m;omega)).ok;have e:Gd N l w i=s:=by unfold Gd;rw[h1];rfl
 rw[e];exact⟨h1,c,d,f⟩
theorem cat3 (a b c:Sl Sound):Ai6 (Sl.of [a,b,c]:Sl (Sl Sound)) 3=(a.app b).app c:=by show (((Sl.nil:Sl Sound).app a).app b).app c=_;rw[At9 (s:=(Sl.nil:Sl Sound)) rfl]
theorem Yu {N:Nat}(d:1000<=N){a b c:Sl Sound}(ha:a.n<=3000000)(hb:b.n<=3000000)(hc:c.n<=3000000):A9 N (Sl.of [a,b,c]:Sl (Sl Sound))=some ((a.app b).app c):=by
 have h:=Ts (N:=N) (s:=(Sl.of [a,b,c]:Sl (Sl Sound))) (by show 3<1000;omega) d fun i f=>by
  match i,f with
  |0,_=>exact ha
  |1,_=>exact hb
  |2,_=>exact hc
 rw[h];exact congrArg some (cat3 a b c)
theorem EB {N:Nat}(a:1000<=N){l:Law}(b:At7 l){w:Sl Sound}(c:w.n<1000)(hw:∀j,j<w.n->vS (w.g j)){i:Nat}(d:i+l.If.n<=w.n) :P8 N l w i=some (W2 N l w i)/\X1 N l w i=some (W2 N l w i):=by
 obtain⟨h1,f,m,o⟩:=FF a b hw d;have q:=b.1;constructor
 ·unfold P8;rw[CG (by omega),if_pos (by omega),AC6,AC6,h1,AD1,if_pos (by omega),
   Yu a (by show i<=_;omega) (by omega) (by show w.n-(i+l.If.n)<=_;omega)]
  rfl
 ·unfold X1;rw[CG (by omega),AC6,AC6,At9 (s:=(Sl.of []:Sl Sound)) rfl,if_pos ⟨by omega,by show (0+i)*8<=_/\0+i<=_;omega⟩,if_pos (by omega),f,AD1,
   if_pos (by show (i+(Gd N l w i).n)*8<=_/\i+(Gd N l w i).n<=_;omega),if_pos ⟨by omega,by show (i+(Gd N l w i).n+(w.n-(i+l.If.n)))*8<=_/\i+(Gd N l w i).n+(w.n-(i+l.If.n))<=_;omega⟩]
  rfl
def SE {α : Type}(s t:Sl α):Prop:=s.n=t.n/\∀i,i<s.n->s.g i=t.g i
theorem SE.refl {α : Type}(s:Sl α):SE s s:=⟨rfl,fun _ _=>rfl⟩
theorem SE.symm {α : Type}{s t:Sl α}(h:SE s t):SE t s:=⟨h.1.symm,fun i a=>(h.2 i (by rw[h.1];exact a)).symm⟩
theorem SE.trans {α : Type}{s t u:Sl α}(h:SE s t)(h' : SE t u):SE s u:=⟨h.1.trans h'.1,fun i a=>(h.2 i a).trans (h'.2 i (by rw[<- h.1];exact a))⟩
theorem SE.app {α : Type}{s t u v:Sl α}(h:SE s t)(h' : SE u v):SE (s.app u) (t.app v):=⟨by show s.n+u.n=t.n+v.n;rw[h.1,h'.1],fun i a=>by
 show (if i<s.n then s.g i else u.g (i-s.n))=if i<t.n then t.g i else v.g (i-t.n)
 have a:i<s.n+u.n:=a;rw[<- h.1];split
 ·exact h.2 i (by assumption)
 ·exact h'.2 _ (by omega)⟩
theorem SE.drop {α : Type}{s t:Sl α}(h:SE s t)(k:Nat):SE (s.drop k) (t.drop k):=⟨by show s.n-k=t.n-k;rw[h.1],fun i a=>by have a:i<s.n-k:=a;exact h.2 _ (by omega)⟩
theorem SE.take {α : Type}{s t:Sl α}(h:SE s t){k:Nat}(hk:k<=s.n):SE (s.take k) (t.take k):=⟨rfl,fun i a=>h.2 i (by have a:i<k:=a;omega)⟩
theorem SE.sub {α : Type}{s t:Sl α}(h:SE s t){a b:Nat}(hk:b<=s.n):SE (s.sub a b) (t.sub a b):=⟨rfl,fun i c=>h.2 _ (by have c:i<b-a:=c;omega)⟩
theorem SE.v {s t:Sl Sound}(h:SE s t)(b:∀j,j<s.n->vS (s.g j)):∀j,j<t.n->vS (t.g j):=fun j a=>by rw[<- h.2 j (by rw[h.1];exact a)];exact b j (by rw[h.1];exact a)
theorem SE.wOk {s t:Sl Sound}(h:SE s t)(a:wOk s):wOk t:=⟨by rw[<- h.1];exact a.1,h.v a.2⟩
theorem Pl {w w' : Sl Sound}(h:SE w w'):∀p:Pat,PR w p=PR w' p
 |.nil=>rfl
 |.mk kind is no mn mx m g=>by
  have ih:(fun i=>PR w (g i))=fun i=>PR w' (g i):=funext fun i=>Pl h (g i);have ih1:∀i,PR w (g i)=PR w' (g i):=fun i=>congrFun ih i;have e1:∀a,(a<w.n↔a<w'.n):=fun a=>by rw[h.1]
  funext a b;unfold PR;rw[ih];simp only[ih1,<- h.1];by_cases ha:a<w.n
  ·rw[h.2 a ha]
  ·simp[ha]
theorem Wi {l:Law}{w w' : Sl Sound}(h:SE w w'){i:Nat}:ND l w i↔ND l w' i:=by
 suffices H:∀{w w' : Sl Sound},SE w w' -> ND l w i->ND l w' i by exact⟨H h,H h.symm⟩
 intro w w' h;rintro⟨h1,f,g,m,n,q,⟨a,ha,c⟩,b,hb,d⟩;have hn:=h.1;refine⟨by omega,fun j o=>?_,g,m,h.wOk n,by omega,⟨a,by omega,?_⟩,b,by omega,?_⟩
 ·rw[<- h.2 (i+j) (by omega)];exact f j o
 ·rw[<- Pl h];exact c
 ·rw[<- Pl h];exact d
structure LE (l l' : Law):Prop where
 name:l'.Name=l.Name
 left:PE l.Left l'.Left
 right:PE l.Right l'.Right
 cond:SE l.If l'.If
 out:SE l.Out l'.Out
 mode:l'.Mode=l.Mode
theorem LE.refl (l:Law):LE l l:=⟨rfl,Tq _,Tq _,SE.refl _,SE.refl _,rfl⟩
theorem LE.symm {l l' : Law}(h:LE l l'):LE l' l:=⟨h.name.symm,Tr h.left,Tr h.right,h.cond.symm,h.out.symm,h.mode.symm⟩
theorem Ar4 {l l' : Law}(h:LE l l'){w:Sl Sound}{i:Nat}:ND l w i↔ND l' w i:=by
 suffices H:∀{l l' : Law},LE l l' -> ND l w i->ND l' w i by exact⟨H h,H h.symm⟩
 intro l l' h;rintro⟨h1,m,f,g,n,o,⟨a,ha,c⟩,b,hb,d⟩;have hn:=h.cond.1;refine⟨by omega,fun j q=>?_,(IL h.left).1 f,(IL h.right).1 g,n,by omega,⟨a,ha,?_⟩,b,hb,?_⟩
 ·rw[<- h.cond.2 j (by omega)];exact m j (by omega)
 ·rw[<- Ar3 40 (LA 40 _ (by omega) f _ (by simp)) h.left];exact c
 ·rw[<- hn,<- Ar3 40 (LA 40 _ (by omega) g _ (by simp)) h.right];exact d
theorem GT {l l' : Law}(e:LE l l'){w w' : Sl Sound}(h:SE w w'){i:Nat}:ND l w i↔ND l' w' i:=(Ar4 e).trans (Wi h)
theorem JS {l l' : Law}(h:LE l l')(hl:HX l):HX l':=by obtain⟨⟨h1,a,b⟩,c,g,j,d⟩:=hl;have m:=h.cond.1;have n:=h.out.1;exact⟨⟨LF h.left h1,LF h.right a,fun i f=>by rw[<- h.cond.2 i (by omega)];exact b i (by omega)⟩,by rw[h.name];exact c,by omega,by omega,fun i f=>by rw[<- h.out.2 i (by omega)];exact d i (by omega)⟩
theorem Ar5 {l l' : Law}(h:LE l l')(hl:At7 l):At7 l':=by have a:=h.cond.1;have b:=h.out.1;exact⟨by rw[<- b];exact hl.1,fun i c=>by rw[<- h.out.2 i (by omega),<- a];exact hl.2 i (by omega)⟩
theorem Tt {l l' : Law}(h:LE l l')(hl:At8 l):At8 l':=by obtain⟨⟨h1,a,b⟩,c,d,j,f,m,n,g⟩:=hl;have o:=h.cond.1;have q:=h.out.1;have hm:=h.mode;exact⟨⟨LF h.left h1,LF h.right a,fun i r=>by rw[<- h.cond.2 i (by omega)];exact b i (by omega)⟩,(IL h.left).1 c,(IL h.right).1 d,by omega,Ar5 h f,by omega,by omega,by omega⟩
theorem DT {N:Nat}{l l' : Law}(h:LE l l'):chkAll N l↔chkAll N l':=by
 suffices H:∀{l l' : Law},LE l l' -> chkAll N l->chkAll N l' by exact⟨H h,H h.symm⟩
 rintro l l' h ⟨h1,b,c,j,m,n,o,q,d,a⟩;have f:=h.cond.1;have r:=h.out.1;have hm:=h.mode;exact⟨by rw[h.name];exact h1,(IL h.left).1 b,(IL h.right).1 c,by omega,by omega,by omega,by omega,by omega,
  fun i g=>by rw[<- h.cond.2 i (by omega)];exact d i (by omega),fun i g=>by rw[<- h.out.2 i (by omega),<- f];exact a i (by omega)⟩
theorem Ar6 {N:Nat}{l l' : Law}(h:LE l l'){e:Int}(b:Ar2 N l e):Ar2 N l' e:=by
 rcases b with⟨h1,a⟩ | ⟨h1,a⟩
 ·exact .inl ⟨h1,(DT h).1 a⟩
 ·exact .inr ⟨h1,fun g=>a ((DT h).2 g)⟩
theorem Yv {N:Nat}{l:Law}{c c' : Sl Sound}(h:SE c c'):N1 N l c=N1 N l c':=by
 unfold N1;congr 1;funext self x1 x2;by_cases h1:(decide (x2<(l.Out.n:Int)))=true
 case neg=>rw[if_neg h1,if_neg h1]
 rw[if_pos h1,if_pos h1,<- h.1];have e1:∀y:Int,(0:Int)<=y->y<(c.n:Int)->c.g y.toNat=c'.g y.toNat:=fun y i h1=>h.2 _ (by omega);by_cases b:(0:Int)<=x2/\x2<(l.Out.n:Int)
 case neg=>rw[if_neg b,if_neg b]
 rw[if_pos b,if_pos b];split
 ·rename_i f;have e2:(⟨(if (decide (0<=(l.Out.g x2.toNat).From)) then (c.g (l.Out.g x2.toNat).From.toNat).Plus else 0),(if (decide (0<=(l.Out.g x2.toNat).From)) then (c.g (l.Out.g x2.toNat).From.toNat).Minus else 0)⟩:Sound) =
   ⟨(if (decide (0<=(l.Out.g x2.toNat).From)) then (c'.g (l.Out.g x2.toNat).From.toNat).Plus else 0),(if (decide (0<=(l.Out.g x2.toNat).From)) then (c'.g (l.Out.g x2.toNat).From.toNat).Minus else 0)⟩:=by
   by_cases a:decide (0<=(l.Out.g x2.toNat).From)=true
   ·have:=f a
    rw[if_pos a,if_pos a,if_pos a,if_pos a,e1 _ this.1 this.2]
   ·rw[if_neg a,if_neg a,if_neg a,if_neg a]
  rw[e2];congr 1;funext y5;split
  ·split
   ·rename_i d;rw[e1 _ d.1 d.2]
   ·rfl
  ·rfl
 ·rfl
theorem Wj {N:Nat}{l l' : Law}(h:SE l.Out l'.Out)(c:Sl Sound):N1 N l c=N1 N l' c:=by
 unfold N1;congr 1;funext self x1 x2;rw[<- h.1];by_cases h1:(0:Int)<=x2/\x2<(l.Out.n:Int)
 ·rw[h.2 x2.toNat (by omega)]
 ·by_cases a:(decide (x2<(l.Out.n:Int)))=true
  ·rw[if_pos a,if_pos a,if_neg h1,if_neg h1]
  ·rw[if_neg a,if_neg a]
theorem LG {N:Nat}{l l' : Law}(e:LE l l'){w w' : Sl Sound}(h:SE w w'){i:Nat}(a:i+l.If.n<=w.n):Gd N l w i=Gd N l' w' i:=by unfold Gd;rw[Yv (h.sub a),Wj e.out,<- e.cond.1]
theorem Js {N:Nat}{l l' : Law}(e:LE l l'){w w' : Sl Sound}(h:SE w w'){i:Nat}(a:i+l.If.n<=w.n):SE (W2 N l w i) (W2 N l' w' i):=by unfold W2 Au0;rw[LG e h a,<- e.cond.1];exact ((h.take (by omega)).app (SE.refl _)).app (h.drop _)
def RL:List (Int×Sl Sound)->List (Int×Sl Sound)->Prop
 |[],[]=>True
 |(p,v)::L,(q,u)::M=>p=q/\SE v u/\RL L M
 |_,_=>False
def IM:Sl Int->Sl (Sl Sound)->List (Int×Sl Sound)->Sl Int×Sl (Sl Sound)×Int
 |x,y,[]=>(x,y,0)
 |x,y,(p,v)::L=>if 32<v.n then (Sl.nil,Sl.nil,11)else IM (x.push p) (y.push v) L
abbrev Rq:=List (Int×Sl Sound)
def vL (L:Rq):Prop:=∀x∈L,∀j,j<x.2.n->vS (x.2.g j)
theorem Rr:vL []:=fun x hx=>absurd hx (by simp)
theorem Tu {x:Int×Sl Sound}{L:Rq}(h:∀j,j<x.2.n->vS (x.2.g j))(hL:vL L):vL (x::L):=fun y hy=>by
 rcases AG0.1 hy with rfl|hy
 ·exact h
 ·exact hL y hy
def Rs (N:Nat)(l:Law)(a:Sl Sound->Int->Option Rq)(x5:Sl Sound)(x6:Int):Option Rq:=
 if (decide ((wrap .i64 (x6+(l.If.n:Int)))<=(x5.n:Int))) then
  (BB N l x5 x6).bind fun c=>
  if (!c) then
   a x5 (wrap .i64 (x6+1))
  else
   (P8 N l x5 x6).bind fun b=>
   Bb (x6,b) (
    if ((l.If.n:Int)==0) then
     a b (wrap .i64 ((wrap .i64 (x6+(l.Out.n:Int)))+1))
    else
     a b (wrap .i64 (x6+(l.Out.n:Int)))
    )
 else
  some []
abbrev Ad7:=(Sl Int)×(Sl (Sl Sound))×Int
def Rt (N:Nat)(l:Law)(a:Sl Sound->Sl Int->Sl (Sl Sound)->Int->Option Ad7)(x1:Sl Sound)(x2:Sl Int)(x3:Sl (Sl Sound))(x4:Int):Option Ad7:=
 if (decide ((wrap .i64 (x4+(l.If.n:Int)))<=(x1.n:Int))) then
  (By N l x1 x4).bind fun y5=>
  if (!y5) then
   a x1 x2 x3 (wrap .i64 (x4+1))
  else
   (X1 N l x1 x4).bind fun y6=>
   if (decide (32<(y6.n:Int))) then
    some ((Sl.nil:Sl Int),(Sl.nil:Sl (Sl Sound)),11)
   else
    if (((x2.n+(Sl.of [x4]:Sl Int).n)*8<=140737488355328/\x2.n+(Sl.of [x4]:Sl Int).n<=140737488355328)/\((x3.n+(Sl.of [y6]:Sl (Sl Sound)).n)*24<=140737488355328/\x3.n+(Sl.of [y6]:Sl (Sl Sound)).n<=140737488355328))then
     if ((l.If.n:Int)==0) then
      a y6 (x2.push x4) (x3.push y6) (wrap .i64 ((wrap .i64 (x4+(l.Out.n:Int)))+1))
     else
      a y6 (x2.push x4) (x3.push y6) (wrap .i64 (x4+(l.Out.n:Int)))
    else none
 else
  some (x2,x3,0)
theorem Yw {N:Nat}(hN:3000<=N){l l' : Law}(hf:At8 l)(s:LE l l'):∀(m:Nat) (w w' : Sl Sound) (i:Nat),SE w w' -> w.n<=100->(∀j,j<w.n->vS (w.g j))->i<=200->w.n+1<=i+m ->
 ∃L L',(∀M,m<M->S5 M (Rs N l) w i=some L)/\vL L/\L.length<=m/\RL L L' /\ ∀M x2 x3,m<M->x2.n+m<=1000->x3.n+m<=1000->ZT M (Rt N l') w' x2 x3 i=some (IM x2 x3 L'):=by
 obtain⟨hl,_,_,hk,x,y,_,_⟩:=hf;have h6:=x.1;obtain⟨z,_,_,a0,a1,_,_,_⟩:=Tt s ⟨hl,‹_›, ‹_›,hk,x,y,‹_›, ‹_›⟩;have c:l'.If.n=l.If.n:=s.cond.1.symm;have d:l'.Out.n=l.Out.n:=s.out.1.symm;intro m
 induction m with
 |zero=>
  intro w w' i a hn o hi hm;have a2:=a.1;refine⟨[],[],fun M q=>?_,Rr,AD3 _,trivial,fun M x2 x3 q _ _=>?_⟩
  ·obtain⟨M,rfl⟩:∃K,M=K+1:=⟨M-1,by omega⟩;rw[J8,Rs,CG (by omega),if_neg (by simp;omega)]
  ·obtain⟨M,rfl⟩:∃K,M=K+1:=⟨M-1,by omega⟩;rw[S6,Rt,c,d,CG (by omega),if_neg (by simp;omega),IM]
 |succ m ih=>
  intro w w' i a hn o hi hm;have a2:=a.1;by_cases hle:i+l.If.n<=w.n
  case neg=>
   refine⟨[],[],fun M q=>?_,Rr,by simp,trivial,fun M x2 x3 q _ _=>?_⟩
   ·obtain⟨M,rfl⟩:∃K,M=K+1:=⟨M-1,by omega⟩;rw[J8,Rs,CG (by omega),if_neg (by simp;omega)]
   ·obtain⟨M,rfl⟩:∃K,M=K+1:=⟨M-1,by omega⟩;rw[S6,Rt,c,d,CG (by omega),if_neg (by simp;omega),IM]
  have hw:okW w:=⟨by omega,fun j hj=>(o j hj).ok⟩;have t:=a.v o;have hw' : okW w':=⟨by omega,fun j hj=>(t j hj).ok⟩;obtain⟨b,e1,h1⟩:=Ym hN hl hk hw i (by omega);obtain⟨b',e2,h2⟩:=Pj hN z a0 hw' i (by omega);obtain rfl:b' = b:=by rw[AG1,h1,h2,GT s a]
  cases b'
  ·obtain⟨L,L',g1,g2,g3,g5,g4⟩:=ih w w' (i+1) a hn o (by omega) (by omega);refine⟨L,L',fun M q=>?_,g2,by omega,g5,fun M x2 x3 q hx hy=>?_⟩
   ·obtain⟨M,rfl⟩:∃K,M=K+1:=⟨M-1,by omega⟩;rw[J8,Rs,CG (by omega),if_pos (by simp;omega),e1,AD1,if_pos nf,B4 (by omega)];exact g1 M (by omega)
   ·obtain⟨M,rfl⟩:∃K,M=K+1:=⟨M-1,by omega⟩;rw[S6,Rt,c,d,CG (by omega),if_pos (by simp;omega),e2,AD1,if_pos nf,B4 (by omega)];exact g4 M x2 x3 (by omega) (by omega) (by omega)
  ·have hit:=h1.1 rfl;have hw32:=hit.2.2.2.2.1.1;have r1:=(EB (N:=N) (by omega) x (by omega) o hle).1;have r2:=(EB (N:=N) (l:=l') (w:=w') (i:=i) (by omega) a1 (by omega) t (by omega)).2;have r:=Js (N:=N) s a hle;have hrn:=r.1;obtain⟨_,_,p3,p4⟩:=FF (N:=N) (by omega) x o hle;obtain⟨q1,q2⟩:=Yt hle o p4;have q1:(W2 N l w i).n=w.n-l.If.n+l.Out.n:=by rw[<- p3];exact q1
   have q2:∀j,j<(W2 N l w i).n->vS ((W2 N l w i).g j):=q2;obtain⟨L,L',g1,g2,g3,g5,g4⟩:=ih (W2 N l w i) (W2 N l' w' i) (if l.If.n=0 then i+l.Out.n+1 else i+l.Out.n) r (by omega) q2 (by split<;>omega) (by split<;>omega);refine⟨((i:Int),W2 N l w i)::L,((i:Int),W2 N l' w' i)::L',fun M q=>?_,Tu q2 g2,by simp;omega,⟨rfl,r,g5⟩,fun M x2 x3 q hx hy=>?_⟩
   ·obtain⟨M,rfl⟩:∃K,M=K+1:=⟨M-1,by omega⟩;rw[J8,Rs,CG (by omega),if_pos (by simp;omega),e1,AD1,if_neg (by simp),r1,AD1,CG (by omega),B4 (by omega)];have g1:=g1 M (by omega);by_cases f:l.If.n=0
    ·rw[if_pos f]at g1;rw[if_pos (by simp[f]),g1];rfl
    ·rw[if_neg f]at g1;rw[if_neg (by simp[f]),g1];rfl
   ·obtain⟨M,rfl⟩:∃K,M=K+1:=⟨M-1,by omega⟩;rw[S6,Rt,c,d,CG (by omega),if_pos (by simp;omega),e2,AD1,if_neg (by simp),r2,AD1,CG (by omega),B4 (by omega),IM];by_cases u:32<(W2 N l' w' i).n
    ·rw[if_pos (by simp;omega),if_pos u]
    rw[if_neg (by simp;omega),if_neg u,if_pos (by show ((x2.n+1)*8<=_/\x2.n+1<=_)/\(x3.n+1)*24<=_/\x3.n+1<=_;omega)];have g4:=g4 M (x2.push (i:Int)) (x3.push (W2 N l' w' i)) (by omega) (by show x2.n+1+m<=_;omega) (by show x3.n+1+m<=_;omega);by_cases f:l.If.n=0
    ·rw[if_pos f]at g4;rw[if_pos (by simp[f]),g4]
    ·rw[if_neg f]at g4;rw[if_neg (by simp[f]),g4]
def Yx (N:Nat)(l:Law)(a:Sl Sound->Int->Option Rq)(x7:Sl Sound)(x8:Int):Option Rq:=
 if (decide (0<=x8)) then
  (BB N l x7 x8).bind fun c=>
  if (!c) then
   a x7 (wrap .i64 (x8-1))
  else
   (P8 N l x7 x8).bind fun b=>
   Bb (x8,b) (
    a b (wrap .i64 (x8-(if (l.If.n:Int)<1 then 1 else (l.If.n:Int))))
    )
 else
  some []
def Yy (N:Nat)(l:Law)(a:Sl Sound->Sl Int->Sl (Sl Sound)->Int->Option Ad7)(x1:Sl Sound)(x2:Sl Int)(x3:Sl (Sl Sound))(x4:Int):Option Ad7:=
 if (decide (0<=x4)) then
  (By N l x1 x4).bind fun y5=>
  if (!y5) then
   a x1 x2 x3 (wrap .i64 (x4-1))
  else
   (X1 N l x1 x4).bind fun y6=>
   if (decide (32<(y6.n:Int))) then
    some ((Sl.nil:Sl Int),(Sl.nil:Sl (Sl Sound)),11)
   else
    if (((x2.n+(Sl.of [x4]:Sl Int).n)*8<=140737488355328/\x2.n+(Sl.of [x4]:Sl Int).n<=140737488355328)/\((x3.n+(Sl.of [y6]:Sl (Sl Sound)).n)*24<=140737488355328/\x3.n+(Sl.of [y6]:Sl (Sl Sound)).n<=140737488355328))then
     if ((l.If.n:Int)==0) then
      a y6 (x2.push x4) (x3.push y6) (wrap .i64 ((wrap .i64 (x4-(l.If.n:Int)))-1))
     else
      a y6 (x2.push x4) (x3.push y6) (wrap .i64 (x4-(l.If.n:Int)))
    else none
 else
  some (x2,x3,0)
theorem Ad8 {N:Nat}(hN:3000<=N){l l' : Law}(hf:At8 l)(r:LE l l'):∀(m:Nat) (w w' : Sl Sound) (i:Int),SE w w' -> w.n<=100->(∀j,j<w.n->vS (w.g j)) -> -100<=i->i+1<=m->m<=200 ->
 ∃L L',(∀M,m<M->S5 M (Yx N l) w i=some L)/\vL L/\L.length<=m/\RL L L' /\ ∀M x2 x3,m<M->x2.n+m<=1000->x3.n+m<=1000->ZT M (Yy N l') w' x2 x3 i=some (IM x2 x3 L'):=by
 obtain⟨hl,_,_,hk,x,y,_,_⟩:=hf;have h6:=x.1;obtain⟨z,_,_,a0,a1,_,_,_⟩:=Tt r ⟨hl,‹_›, ‹_›,hk,x,y,‹_›, ‹_›⟩;have c:l'.If.n=l.If.n:=r.cond.1.symm;have hof:l'.Out.n=l.Out.n:=r.out.1.symm;intro m
 induction m with
 |zero=>
  intro w w' i a hn d hi hm a2;have a3:=a.1;refine⟨[],[],fun M f=>?_,Rr,AD3 _,trivial,fun M x2 x3 f _ _=>?_⟩
  ·obtain⟨M,rfl⟩:∃K,M=K+1:=⟨M-1,by omega⟩;rw[J8,Yx,if_neg (by simp;omega)]
  ·obtain⟨M,rfl⟩:∃K,M=K+1:=⟨M-1,by omega⟩;rw[S6,Yy,c,if_neg (by simp;omega),IM]
 |succ m ih=>
  intro w w' i a hn d hi hm a2;have a3:=a.1;by_cases hle:0<=i
  case neg=>
   refine⟨[],[],fun M f=>?_,Rr,by simp,trivial,fun M x2 x3 f _ _=>?_⟩
   ·obtain⟨M,rfl⟩:∃K,M=K+1:=⟨M-1,by omega⟩;rw[J8,Yx,if_neg (by simp;omega)]
   ·obtain⟨M,rfl⟩:∃K,M=K+1:=⟨M-1,by omega⟩;rw[S6,Yy,c,if_neg (by simp;omega),IM]
  obtain⟨k,rfl⟩:∃k:Nat,i=(k:Int):=⟨i.toNat,by omega⟩;have hw:okW w:=⟨by omega,fun j hj=>(d j hj).ok⟩;have s:=a.v d;have hw' : okW w':=⟨by omega,fun j hj=>(s j hj).ok⟩;obtain⟨b,e1,h1⟩:=Ym hN hl hk hw k (by omega);obtain⟨b',e2,h2⟩:=Pj hN z a0 hw' k (by omega);obtain rfl:b' = b:=by rw[AG1,h1,h2,GT r a]
  cases b'
  ·obtain⟨L,L',g1,g2,g3,g5,g4⟩:=ih w w' ((k:Int)-1) a hn d (by omega) (by omega) (by omega);refine⟨L,L',fun M f=>?_,g2,by omega,g5,fun M x2 x3 f hx hy=>?_⟩
   ·obtain⟨M,rfl⟩:∃K,M=K+1:=⟨M-1,by omega⟩;rw[J8,Yx,if_pos (by simp),e1,AD1,if_pos nf,D7 (by omega) (by omega)];exact g1 M (by omega)
   ·obtain⟨M,rfl⟩:∃K,M=K+1:=⟨M-1,by omega⟩;rw[S6,Yy,c,if_pos (by simp),e2,AD1,if_pos nf,D7 (by omega) (by omega)];exact g4 M x2 x3 (by omega) (by omega) (by omega)
  ·have t:=h1.1 rfl;have hle:=t.1;have hw32:=t.2.2.2.2.1.1;have r1:=(EB (N:=N) (by omega) x (by omega) d hle).1;have r2:=(EB (N:=N) (l:=l') (w:=w') (i:=k) (by omega) a1 (by omega) s (by omega)).2;have o:=Js (N:=N) r a hle;have hrn:=o.1;obtain⟨_,_,p3,p4⟩:=FF (N:=N) (by omega) x d hle;obtain⟨q1,q2⟩:=Yt hle d p4;have q1:(W2 N l w k).n=w.n-l.If.n+l.Out.n:=by rw[<- p3];exact q1
   have q2:∀j,j<(W2 N l w k).n->vS ((W2 N l w k).g j):=q2;obtain⟨L,L',g1,g2,g3,g5,g4⟩:=ih (W2 N l w k) (W2 N l' w' k) (if l.If.n=0 then (k:Int)-1 else (k:Int)-l.If.n) o (by omega) q2 (by split<;>omega) (by split<;>omega) (by omega);refine⟨((k:Int),W2 N l w k)::L,((k:Int),W2 N l' w' k)::L',fun M f=>?_,Tu q2 g2,by simp;omega,⟨rfl,o,g5⟩,fun M x2 x3 f hx hy=>?_⟩
   ·obtain⟨M,rfl⟩:∃K,M=K+1:=⟨M-1,by omega⟩;rw[J8,Yx,if_pos (by simp),e1,AD1,if_neg (by simp),r1,AD1];have g1:=g1 M (by omega);by_cases q:l.If.n=0
    ·rw[if_pos q]at g1;rw[if_pos (by omega),D7 (by omega) (by omega),g1];rfl
    ·rw[if_neg q]at g1;rw[if_neg (by omega),D7 (by omega) (by omega),g1];rfl
   ·obtain⟨M,rfl⟩:∃K,M=K+1:=⟨M-1,by omega⟩;rw[S6,Yy,c,if_pos (by simp),e2,AD1,if_neg (by simp),r2,AD1,IM];by_cases u:32<(W2 N l' w' k).n
    ·rw[if_pos (by simp;omega),if_pos u]
    rw[if_neg (by simp;omega),if_neg u,if_pos (by show ((x2.n+1)*8<=_/\x2.n+1<=_)/\(x3.n+1)*24<=_/\x3.n+1<=_;omega)];have g4:=g4 M (x2.push (k:Int)) (x3.push (W2 N l' w' k)) (by omega) (by show x2.n+1+m<=_;omega) (by show x3.n+1+m<=_;omega);rw[D7 (n:=(k:Int)-(l.If.n:Int)) (by omega) (by omega)];by_cases q:l.If.n=0
    ·rw[if_pos q]at g4;rw[if_pos (by simp[q]),D7 (by omega) (by omega),show (k:Int)-(l.If.n:Int)-1=(k:Int)-1 by omega,g4]
    ·rw[if_neg q]at g4;rw[if_neg (by simp[q]),g4]
end Go.AM
