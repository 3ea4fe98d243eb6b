/- What a law's walk and its plain proof need, part 6: no condition of its own. -/
import Derived.Test.YtegikiijkjlikaaGreatDoorBmE
set_option linter.unusedSimpArgs false
set_option linter.unusedVariables false
set_option linter.unusedSectionVars false
set_option linter.unusedVariables false
set_option linter.unusedSectionVars false
namespace Go.AM
open Go.Proofs
set_option maxRecDepth 10000
set_option maxHeartbeats 2000000
variable {S:Ag9} (hS:I2 S Tryz.prog) (hL:BV2 S)
include hS hL
def Ad3 (rec:Pat->Int->Option Int) (N:Nat) (p_p:Pat) (p_before:Int):Option Int:=
 V9 N (fun self1 (x1:Int) (x2:Int)=>
  if ((decide (x2 < (p_p.L.n:Int))) && (decide (x1<=40)))=true then
   if ((0:Int)<=x2/\x2 < (p_p.L.n:Int)) then
    (rec (p_p.L.g x2.toNat) x1).bind fun y3=>
    self1 y3 (IntKind.wrap .i64 (x2+1))
   else none
  else
   some x1
  ) (IntKind.wrap .i64 (p_before+1)) 0
def Ab2:Nat->Pat->Int->Option Int
 | 0=>fun _ _=>none
 | N+1=>Ad3 (Ab2 N) N
theorem BD2 {N:Nat} {rec:Pat->Int->Option Int} (hrec:∀ {p_p:Pat} {p_before:Int} {y:Int},rec p_p p_before=some y->FunO S As8 [(.p (.agg (B6 p_p))),(pN p_before)] [] (pN y) ([]) []) {p_p:Pat} {p_before:Int} {y:Int} (h:Ad3 rec N p_p p_before=some y) :
 FunO S As8 [(.p (.agg (B6 p_p))),(pN p_before)] [] (pN y) ([]) []:=by
 unfold Ad3 at h
 refine A6 hS BK8 ?_
 refine H9 hS trivial h (fun x1 x2=>⟨[(6,(pN x2)),(5,(pN x1)),(2,(.reg 3000 0))], [(3000,(.cells ((B6 p_p).map .p)))]⟩) (ids:=[(3000,3000)]) (fun _ _ _ _ _ self1 x1 x2 hb3 h=>?_)
 refine J7 hS trivial 12 ⟨[(11,(.p (vSl 7 B6 p_p.L))),(9,(pN x2)),(6,(pN x2)),(5,(pN x1)),(2,(.reg 3000 0))], [(3000,(.cells ((B6 p_p).map .p)))]⟩ (ids:=[(3000,3000)]) ?_ (hle:=(klR [(0, .fn p_p.L.n p_p.L.n (Ad2 p_p) (fun i=>B6 (p_p.L.g i)))] (al1 ⟨rfl,M9 p_p⟩ al0)))
 obtain ⟨t3,ht3⟩:∃ x:Bool,x=((decide (x2 < (p_p.L.n:Int))) && (decide (x1<=40))):=⟨_,rfl⟩
 refine S9 hS trivial (B0 hS) 0 ⟨[(17,(pB t3)),(6,(pN x2)),(5,(pN x1)),(2,(.reg 3000 0))], [(3000,(.cells ((B6 p_p).map .p)))]⟩ (fun M3 hb4=>?_) ?_
 ·refine A7 hS trivial (b:=decide (x2 < (p_p.L.n:Int))) (fun c10=>?_) (fun c10=>?_)
  ·exact hb4 _ [(3000,3000)] _ trivial (by kernel_rfl) (by kernel_rfl) (klR [(0, .eq (.bb (decide (x1<=40))) (.bb t3))] (al1 (by simp only [ht3,c10,Leaf.ok,pm,if_true,if_false]) al0))
  ·exact hb4 _ [(3000,3000)] _ trivial (by kernel_rfl) (by kernel_rfl) (klR [(0, .eq (.bb false) (.bb t3))] (al1 (by simp only [ht3,c10,Leaf.ok,pm,if_true,if_false]) al0))
 ·subst ht3
  refine A1 hS trivial (b:=((decide (x2 < (p_p.L.n:Int))) && (decide (x1<=40)))) (fun c11=>?_) (fun c11=>?_)
  ·replace h:=itT c11 h
   refine J7 hS trivial 23 ⟨[(22,(pN x2)),(21,(.p (vSl 7 B6 p_p.L))),(6,(pN x2)),(5,(pN x1)),(2,(.reg 3000 0))], [(3000,(.cells ((B6 p_p).map .p)))]⟩ (ids:=[(3000,3000)]) ?_ (hle:=(klR [(1, .fn p_p.L.n p_p.L.n (Ad2 p_p) (fun i=>B6 (p_p.L.g i)))] (al1 ⟨rfl,M9 p_p⟩ al0)))
   obtain ⟨c12,h⟩:=F3 h
   obtain ⟨y3,e3,h⟩:=A4 h
   refine A2 hS [] (And.intro c12 (by decide:(7:Nat)<=7)) (hrec e3) ?_
   exact hb3 _ [(3000,3000)] _ y3 (IntKind.wrap .i64 (x2+1)) trivial h
  ·replace h:=itF c11 h
   obtain rfl:=A3 h
   exact B1 hS trivial [] ⟨rfl,rfl,rfl⟩
theorem BO1 {N:Nat} {p_p:Pat} {p_before:Int} {y:Int} (h:Ab2 N p_p p_before=some y) :
 FunO S As8 [(.p (.agg (B6 p_p))),(pN p_before)] [] (pN y) ([]) []:=by
 induction N generalizing p_p p_before y with
 | zero=>cases (show (none:Option Int)=some y from h)
 | succ N ih=>exact BD2 hS hL (fun e=>ih e) h
def Aq8 (N:Nat) (p_p:Pat):Option Int:=
 (Ab2 N p_p 0).bind fun y1=>
 some y1
theorem Cd1 {N:Nat} {p_p:Pat}   {y:Int} (h:Aq8 N p_p=some y) :
 FunO S Bk1 [(.p (.agg (B6 p_p)))] [] (pN y) ([]) []:=by
 unfold Aq8 at h
 refine A6 hS Cb2 ?_
 obtain ⟨y1,e1,h⟩:=A4 h
 refine A2 hS [] trivial (BO1 hS hL e1) ?_
 obtain rfl:=A3 h
 exact B1 hS trivial [] ⟨rfl,rfl,rfl⟩
def U7 (rec:Pat->Option Int) (N:Nat) (p_p:Pat):Option Int:=
 V9 N (fun self1 (x1:Int) (x2:Int)=>
  if (decide (x2 < (p_p.L.n:Int)))=true then
   if ((0:Int)<=x2/\x2 < (p_p.L.n:Int)) then
    (rec (p_p.L.g x2.toNat)).bind fun y3=>
    self1 (IntKind.wrap .i64 (x1+y3)) (IntKind.wrap .i64 (x2+1))
   else none
  else
   some x1
  ) (if (p_p.Kind == 5)=true then 1 else 0) 0
def W6:Nat->Pat->Option Int
 | 0=>fun _=>none
 | N+1=>U7 (W6 N) N
theorem Bg1 {N:Nat} {rec:Pat->Option Int} (hrec:∀ {p_p:Pat} {y:Int},rec p_p=some y->FunO S Aj2 [(.p (.agg (B6 p_p)))] [] (pN y) ([]) []) {p_p:Pat} {y:Int} (h:U7 rec N p_p=some y) :
 FunO S Aj2 [(.p (.agg (B6 p_p)))] [] (pN y) ([]) []:=by
 unfold U7 at h
 refine A6 hS Bq1 ?_
 obtain ⟨t1,ht1⟩:∃ x:Int,x=(if (p_p.Kind == 5)=true then 1 else 0):=⟨_,rfl⟩
 refine S9 hS trivial (B0 hS) 0 ⟨[(3,(pN t1)),(1,(.reg 2000 0))], [(2000,(.cells ((B6 p_p).map .p)))]⟩ (fun M1 hb1=>?_) ?_
 ·refine A1 hS trivial (b:=p_p.Kind == 5) (fun c2=>?_) (fun c2=>?_)
  ·exact hb1 _ [(2000,2000)] _ trivial (by kernel_rfl) (by kernel_rfl) (klR [(0, .eq (pI .i64 1) (pI .i64 t1))] (al1 (by simp only [ht1,c2,Leaf.ok,pm,if_true,if_false]) al0))
  ·exact hb1 _ [(2000,2000)] _ trivial (by kernel_rfl) (by kernel_rfl) (klR [(0, .eq (pI .i64 0) (pI .i64 t1))] (al1 (by simp only [ht1,c2,Leaf.ok,pm,if_true,if_false]) al0))
 ·subst ht1
  refine H9 hS trivial h (fun x1 x2=>⟨[(4,(pN x2)),(3,(pN x1)),(1,(.reg 2000 0))], [(2000,(.cells ((B6 p_p).map .p)))]⟩) (ids:=[(2000,2000)]) (fun _ _ _ _ _ self1 x1 x2 hb2 h=>?_)
  refine J7 hS trivial 11 ⟨[(10,(.p (vSl 7 B6 p_p.L))),(8,(pN x2)),(4,(pN x2)),(3,(pN x1)),(1,(.reg 2000 0))], [(2000,(.cells ((B6 p_p).map .p)))]⟩ (ids:=[(2000,2000)]) ?_ (hle:=(klR [(0, .fn p_p.L.n p_p.L.n (Ad2 p_p) (fun i=>B6 (p_p.L.g i)))] (al1 ⟨rfl,M9 p_p⟩ al0)))
  refine A1 hS trivial (b:=decide (x2 < (p_p.L.n:Int))) (fun c7=>?_) (fun c7=>?_)
  ·replace h:=itT c7 h
   refine J7 hS trivial 19 ⟨[(18,(pN x2)),(17,(.p (vSl 7 B6 p_p.L))),(15,(pN x1)),(4,(pN x2)),(1,(.reg 2000 0))], [(2000,(.cells ((B6 p_p).map .p)))]⟩ (ids:=[(2000,2000)]) ?_ (hle:=(klR [(1, .fn p_p.L.n p_p.L.n (Ad2 p_p) (fun i=>B6 (p_p.L.g i)))] (al1 ⟨rfl,M9 p_p⟩ al0)))
   obtain ⟨c8,h⟩:=F3 h
   obtain ⟨y3,e3,h⟩:=A4 h
   refine A2 hS [] (And.intro c8 (by decide:(7:Nat)<=7)) (hrec e3) ?_
   exact hb2 _ [(2000,2000)] _ (IntKind.wrap .i64 (x1+y3)) (IntKind.wrap .i64 (x2+1)) trivial h
  ·replace h:=itF c7 h
   obtain rfl:=A3 h
   exact B1 hS trivial [] ⟨rfl,rfl,rfl⟩
theorem Br8 {N:Nat} {p_p:Pat} {y:Int} (h:W6 N p_p=some y) :
 FunO S Aj2 [(.p (.agg (B6 p_p)))] [] (pN y) ([]) []:=by
 induction N generalizing p_p y with
 | zero=>cases (show (none:Option Int)=some y from h)
 | succ N ih=>exact Bg1 hS hL (fun e=>ih e) h
def Ac3 (N:Nat) (p_laws:(Sl Law)):Option Int:=
 V9 N (fun self3 (x3:Int) (x4:Int)=>
  if ((decide (x4 < (p_laws.n:Int))) && (decide (x4<=300)))=true then
   if (((0:Int)<=x4/\x4 < (p_laws.n:Int))/\((0:Int)<=x4/\x4 < (p_laws.n:Int))) then
    V9 N (fun self4 (x7:Int) (x8:Int)=>
     if (decide (x8 < ((Sl.of [(p_laws.g x4.toNat).Left,(p_laws.g x4.toNat).Right]:Sl Pat).n:Int)))=true then
      if ((0:Int)<=x8/\x8 < ((Sl.of [(p_laws.g x4.toNat).Left,(p_laws.g x4.toNat).Right]:Sl Pat).n:Int)) then
       (Aq8 N ((Sl.of [(p_laws.g x4.toNat).Left,(p_laws.g x4.toNat).Right]:Sl Pat).g x8.toNat)).bind fun y17=>
       if (decide (y17<=40))=true then
        (W6 N ((Sl.of [(p_laws.g x4.toNat).Left,(p_laws.g x4.toNat).Right]:Sl Pat).g x8.toNat)).bind fun y18=>
        self4 (IntKind.wrap .i64 (x7+y18)) (IntKind.wrap .i64 (x8+1))
       else
        self4 x7 (IntKind.wrap .i64 (x8+1))
      else none
     else
      self3 (if x3 < x7 then x7 else x3) (IntKind.wrap .i64 (x4+1))
     ) 0 0
   else none
  else
   some x3
  ) 0 0
theorem AL9 {N:Nat} {p_laws:(Sl Law)}   {y:Int} (h:Ac3 N p_laws=some y) :
 FunO S Bj7 [(.p (vSl 18 A8 p_laws))] [] (pN y) ([]) []:=by
 unfold Ac3 at h
 refine A6 hS Ca8 ?_
 refine H9 hS trivial h (fun x3 x4=>⟨[(4,(pN x4)),(3,(pN x3)),(0,(.p (vSl 18 A8 p_laws)))], []⟩) (ids:=[]) (fun _ _ _ _ _ self3 x3 x4 hb5 h=>?_)
 obtain ⟨t3,ht3⟩:∃ x:Bool,x=((decide (x4 < (p_laws.n:Int))) && (decide (x4<=300))):=⟨_,rfl⟩
 refine S9 hS trivial (B0 hS) 0 ⟨[(15,(pB t3)),(4,(pN x4)),(3,(pN x3)),(0,(.p (vSl 18 A8 p_laws)))], []⟩ (fun M3 hb6=>?_) ?_
 ·refine A7 hS trivial (b:=decide (x4 < (p_laws.n:Int))) (fun c28=>?_) (fun c28=>?_)
  ·exact hb6 _ [] _ trivial (by kernel_rfl) (by kernel_rfl) (klR [(0, .eq (.bb (decide (x4<=300))) (.bb t3))] (al1 (by simp only [ht3,c28,Leaf.ok,pm,if_true,if_false]) al0))
  ·exact hb6 _ [] _ trivial (by kernel_rfl) (by kernel_rfl) (klR [(0, .eq (.bb false) (.bb t3))] (al1 (by simp only [ht3,c28,Leaf.ok,pm,if_true,if_false]) al0))
 ·subst ht3
  refine A1 hS trivial (b:=((decide (x4 < (p_laws.n:Int))) && (decide (x4<=300)))) (fun c29=>?_) (fun c29=>?_)
  ·replace h:=itT c29 h
   refine F0 hS trivial [2,4,7,9] ?_
   obtain ⟨c30,h⟩:=F3 h
   refine AE8 (And.intro (And.intro (And.intro c30.1 (by decide:(7:Nat)<=17)) c30.2) (by decide:(7:Nat)<=10)) (x:=(.sl true 7 2 (D9 [(pI .i64 0),(pI .u32 0),(pI .u32 0),(.v (.bool false)),(pI .i64 0),(pI .i64 0),P6] [(0,B6 (p_laws.g x4.toNat).Left),(1,B6 (p_laws.g x4.toNat).Right)]))) ?_
   refine M0 trivial ?_
   refine H9 hS trivial h (fun x7 x8=>⟨[(30,(pN x8)),(29,(pN ((Sl.of [(p_laws.g x4.toNat).Left,(p_laws.g x4.toNat).Right]:Sl Pat).n:Int))),(28,(.p (vSl 7 B6 (Sl.of [(p_laws.g x4.toNat).Left,(p_laws.g x4.toNat).Right]:Sl Pat)))),(5,(pN x7)),(4,(pN x4)),(3,(pN x3)),(0,(.p (vSl 18 A8 p_laws)))], []⟩) (ids:=[]) (fun _ _ _ _ _ self4 x7 x8 hb7 h=>?_) (hle:=(klR [(2, .fn 2 (Sl.of [(p_laws.g x4.toNat).Left,(p_laws.g x4.toNat).Right]:Sl Pat).n (D9 [(pI .i64 0),(pI .u32 0),(pI .u32 0),(.v (.bool false)),(pI .i64 0),(pI .i64 0),P6] [(0,B6 (p_laws.g x4.toNat).Left),(1,B6 (p_laws.g x4.toNat).Right)]) (fun i=>B6 ((Sl.of [(p_laws.g x4.toNat).Left,(p_laws.g x4.toNat).Right]:Sl Pat).g i)))] (al1 ⟨rfl,(fun i hi=>match i,hi with | 0,_=>rfl | 1,_=>rfl | _+2,hi=>absurd hi (by omega))⟩ al0)))
   refine A1 hS trivial (b:=decide (x8 < ((Sl.of [(p_laws.g x4.toNat).Left,(p_laws.g x4.toNat).Right]:Sl Pat).n:Int))) (fun c37=>?_) (fun c37=>?_)
   ·replace h:=itT c37 h
    obtain ⟨c38,h⟩:=F3 h
    refine R7 hS (And.intro c38 (by decide:(7:Nat)<=7)) 34 8000 (B6 ((Sl.of [(p_laws.g x4.toNat).Left,(p_laws.g x4.toNat).Right]:Sl Pat).g x8.toNat)) ?_
    obtain ⟨y17,e17,h⟩:=A4 h
    refine A2 hS [] (by decide:(7:Nat)<=7) (Cd1 hS hL e17) ?_
    refine A1 hS trivial (b:=decide (y17<=40)) (fun c39=>?_) (fun c39=>?_)
    ·replace h:=itT c39 h
     obtain ⟨y18,e18,h⟩:=A4 h
     refine A2 hS [] (by decide:(7:Nat)<=7) (Br8 hS hL e18) ?_
     exact hb7 _ [] _ (IntKind.wrap .i64 (x7+y18)) (IntKind.wrap .i64 (x8+1)) trivial h
    ·replace h:=itF c39 h
     exact hb7 _ [] _ x7 (IntKind.wrap .i64 (x8+1)) trivial h
   ·replace h:=itF c37 h
    exact hb5 _ [] _ (if x3 < x7 then x7 else x3) (IntKind.wrap .i64 (x4+1)) trivial h
  ·replace h:=itF c29 h
   obtain rfl:=A3 h
   exact B1 hS trivial [] ⟨rfl,rfl,rfl⟩
def U8 (rec:Pat->Int->Option (Int × Int)) (N:Nat) (p_p:Pat) (p_before:Int):Option (Int × Int):=
 if (p_before == 40)=true then
  some (p_before,12)
 else
  (Aq7 N p_p).bind fun y1=>
  if (y1 != 0)=true then
   some (p_before,y1)
  else
   V9 N (fun self1 (x1:Int) (x2:Int)=>
    if (decide (x2 < (p_p.L.n:Int)))=true then
     if ((0:Int)<=x2/\x2 < (p_p.L.n:Int)) then
      (rec (p_p.L.g x2.toNat) x1).bind fun y4=>
      if (y4.2 != 0)=true then
       some (y4.1,y4.2)
      else
       self1 y4.1 (IntKind.wrap .i64 (x2+1))
     else none
    else
     some (x1,0)
    ) (IntKind.wrap .i64 (p_before+1)) 0
def Ak0:Nat->Pat->Int->Option (Int × Int)
 | 0=>fun _ _=>none
 | N+1=>U8 (Ak0 N) N
theorem BO2 {N:Nat} {rec:Pat->Int->Option (Int × Int)} (hrec:∀ {p_p:Pat} {p_before:Int} {y:(Int × Int)},rec p_p p_before=some y->FunO S AA4 [(.p (.agg (B6 p_p))),(pN p_before)] [] (.tup [(pN y.1),(pN y.2)]) ([]) []) {p_p:Pat} {p_before:Int} {y:(Int × Int)} (h:U8 rec N p_p p_before=some y) :
 FunO S AA4 [(.p (.agg (B6 p_p))),(pN p_before)] [] (.tup [(pN y.1),(pN y.2)]) ([]) []:=by
 unfold U8 at h
 refine A6 hS Cb8 ?_
 refine A1 hS trivial (b:=p_before == 40) (fun c1=>?_) (fun c1=>?_)
 ·replace h:=itT c1 h
  obtain rfl:=A3 h
  exact B1 hS trivial [] ⟨rfl,rfl,rfl⟩
 ·replace h:=itF c1 h
  obtain ⟨y1,e1,h⟩:=A4 h
  refine A2 hS [] trivial (Cd0 hS hL e1) ?_
  refine A1 hS trivial (b:=y1 != 0) (fun c2=>?_) (fun c2=>?_)
  ·replace h:=itT c2 h
   obtain rfl:=A3 h
   exact B1 hS trivial [] ⟨rfl,rfl,rfl⟩
  ·replace h:=itF c2 h
   refine H9 hS trivial h (fun x1 x2=>⟨[(8,(pN x2)),(7,(pN x1)),(2,(.reg 3000 0))], [(3000,(.cells ((B6 p_p).map .p)))]⟩) (ids:=[(3000,3000)]) (fun _ _ _ _ _ self1 x1 x2 hb1 h=>?_)
   refine J7 hS trivial 23 ⟨[(22,(.p (vSl 7 B6 p_p.L))),(20,(pN x2)),(8,(pN x2)),(7,(pN x1)),(2,(.reg 3000 0))], [(3000,(.cells ((B6 p_p).map .p)))]⟩ (ids:=[(3000,3000)]) ?_ (hle:=(klR [(0, .fn p_p.L.n p_p.L.n (Ad2 p_p) (fun i=>B6 (p_p.L.g i)))] (al1 ⟨rfl,M9 p_p⟩ al0)))
   refine A1 hS trivial (b:=decide (x2 < (p_p.L.n:Int))) (fun c9=>?_) (fun c9=>?_)
   ·replace h:=itT c9 h
    refine J7 hS trivial 31 ⟨[(30,(pN x2)),(29,(.p (vSl 7 B6 p_p.L))),(8,(pN x2)),(7,(pN x1)),(2,(.reg 3000 0))], [(3000,(.cells ((B6 p_p).map .p)))]⟩ (ids:=[(3000,3000)]) ?_ (hle:=(klR [(1, .fn p_p.L.n p_p.L.n (Ad2 p_p) (fun i=>B6 (p_p.L.g i)))] (al1 ⟨rfl,M9 p_p⟩ al0)))
    obtain ⟨c10,h⟩:=F3 h
    obtain ⟨y4,e4,h⟩:=A4 h
    refine A2 hS [] (And.intro c10 (by decide:(7:Nat)<=7)) (hrec e4) ?_
    refine A1 hS trivial (b:=y4.2 != 0) (fun c11=>?_) (fun c11=>?_)
    ·replace h:=itT c11 h
     obtain rfl:=A3 h
     exact B1 hS trivial [] ⟨rfl,rfl,rfl⟩
    ·replace h:=itF c11 h
     exact hb1 _ [(3000,3000)] _ y4.1 (IntKind.wrap .i64 (x2+1)) trivial h
   ·replace h:=itF c9 h
    obtain rfl:=A3 h
    exact B1 hS trivial [] ⟨rfl,rfl,rfl⟩
theorem Cd2 {N:Nat} {p_p:Pat} {p_before:Int} {y:(Int × Int)} (h:Ak0 N p_p p_before=some y) :
 FunO S AA4 [(.p (.agg (B6 p_p))),(pN p_before)] [] (.tup [(pN y.1),(pN y.2)]) ([]) []:=by
 induction N generalizing p_p p_before y with
 | zero=>cases (show (none:Option (Int × Int))=some y from h)
 | succ N ih=>exact BO2 hS hL (fun e=>ih e) h
def Ab3 (N:Nat) (p_p:Pat):Option Int:=
 (Ak0 N p_p 0).bind fun y1=>
 some y1.2
theorem AE9 {N:Nat} {p_p:Pat}   {y:Int} (h:Ab3 N p_p=some y) :
 FunO S AY1 [(.p (.agg (B6 p_p)))] [] (pN y) ([]) []:=by
 unfold Ab3 at h
 refine A6 hS BL8 ?_
 obtain ⟨y1,e1,h⟩:=A4 h
 refine A2 hS [] trivial (Cd2 hS hL e1) ?_
 obtain rfl:=A3 h
 exact B1 hS trivial [] ⟨rfl,rfl,rfl⟩
def Af5 (N:Nat) (p_s:Str):Option Bool:=
 Ae3 N (fun self1 (x1:Int)=>
  if (decide (x1 < (p_s.length:Int)))=true then
   if ((0:Int)<=x1/\x1 < (p_s.length:Int)) then
    if (!(((((decide (97<=(F8 p_s x1))) && (decide ((F8 p_s x1)<=122))) || ((decide (65<=(F8 p_s x1))) && (decide ((F8 p_s x1)<=90)))) || ((decide (48<=(F8 p_s x1))) && (decide ((F8 p_s x1)<=57)))) || ((F8 p_s x1) == 45)))=true then
     some false
    else
     self1 (IntKind.wrap .i64 (x1+1))
   else none
  else
   some ((decide (1<=(p_s.length:Int))) && (decide ((p_s.length:Int)<=24)))
  ) 0
theorem Cd3 {N:Nat} {p_s:Str}   {y:Bool} (h:Af5 N p_s=some y) :
 FunO S Bk4 [(.p (.str p_s))] [] (pB y) ([]) []:=by
 unfold Af5 at h
 refine A6 hS Cb5 ?_
 refine U1 hS trivial h (fun x1=>⟨[(3,(pN x1)),(0,(.p (.str p_s)))], []⟩) (ids:=[]) (fun _ _ _ _ _ self1 x1 hb3 h=>?_)
 refine A1 hS trivial (b:=decide (x1 < (p_s.length:Int))) (fun c63=>?_) (fun c63=>?_)
 ·replace h:=itT c63 h
  obtain ⟨c64,h⟩:=F3 h
  obtain ⟨t3,ht3⟩:∃ x:Bool,x=(!(((((decide (97<=(F8 p_s x1))) && (decide ((F8 p_s x1)<=122))) || ((decide (65<=(F8 p_s x1))) && (decide ((F8 p_s x1)<=90)))) || ((decide (48<=(F8 p_s x1))) && (decide ((F8 p_s x1)<=57)))) || ((F8 p_s x1) == 45))):=⟨_,rfl⟩
  refine S9 hS c64 (B0 hS) 0 ⟨[(40,(pB t3)),(3,(pN x1)),(0,(.p (.str p_s)))], []⟩ (fun M3 hb4=>?_) ?_
  ·refine A7 hS trivial (b:=decide (97<=(F8 p_s x1))) (fun c79=>?_) (fun c79=>?_)
   ·refine A7 hS trivial (b:=decide ((F8 p_s x1)<=122)) (fun c80=>?_) (fun c80=>?_)
    ·exact hb4 _ [] _ trivial (by kernel_rfl) (by kernel_rfl) (klR [(0, .eq (.bb false) (.bb t3))] (al1 (by simp only [ht3,c79,c80,Leaf.ok,pm,if_true,if_false]) al0))
    ·refine A7 hS trivial (b:=decide (65<=(F8 p_s x1))) (fun c81=>?_) (fun c81=>?_)
     ·refine A7 hS trivial (b:=decide ((F8 p_s x1)<=90)) (fun c82=>?_) (fun c82=>?_)
      ·exact hb4 _ [] _ trivial (by kernel_rfl) (by kernel_rfl) (klR [(0, .eq (.bb false) (.bb t3))] (al1 (by simp only [ht3,c79,c80,c81,c82,Leaf.ok,pm,if_true,if_false]) al0))
      ·refine A7 hS trivial (b:=decide (48<=(F8 p_s x1))) (fun c83=>?_) (fun c83=>?_)
       ·refine A7 hS trivial (b:=decide ((F8 p_s x1)<=57)) (fun c84=>?_) (fun c84=>?_)
        ·exact hb4 _ [] _ trivial (by kernel_rfl) (by kernel_rfl) (klR [(0, .eq (.bb false) (.bb t3))] (al1 (by simp only [ht3,c79,c80,c81,c82,c83,c84,Leaf.ok,pm,if_true,if_false]) al0))
        ·exact hb4 _ [] _ trivial (by kernel_rfl) (by kernel_rfl) (klR [(0, .eq (.bb (!((F8 p_s x1) == 45))) (.bb t3))] (al1 (by simp only [ht3,c79,c80,c81,c82,c83,c84,Leaf.ok,pm,if_true,if_false]) al0))
       ·exact hb4 _ [] _ trivial (by kernel_rfl) (by kernel_rfl) (klR [(0, .eq (.bb (!((F8 p_s x1) == 45))) (.bb t3))] (al1 (by simp only [ht3,c79,c80,c81,c82,c83,Leaf.ok,pm,if_true,if_false]) al0))
     ·refine A7 hS trivial (b:=decide (48<=(F8 p_s x1))) (fun c85=>?_) (fun c85=>?_)
      ·refine A7 hS trivial (b:=decide ((F8 p_s x1)<=57)) (fun c86=>?_) (fun c86=>?_)
       ·exact hb4 _ [] _ trivial (by kernel_rfl) (by kernel_rfl) (klR [(0, .eq (.bb false) (.bb t3))] (al1 (by simp only [ht3,c79,c80,c81,c85,c86,Leaf.ok,pm,if_true,if_false]) al0))
       ·exact hb4 _ [] _ trivial (by kernel_rfl) (by kernel_rfl) (klR [(0, .eq (.bb (!((F8 p_s x1) == 45))) (.bb t3))] (al1 (by simp only [ht3,c79,c80,c81,c85,c86,Leaf.ok,pm,if_true,if_false]) al0))
      ·exact hb4 _ [] _ trivial (by kernel_rfl) (by kernel_rfl) (klR [(0, .eq (.bb (!((F8 p_s x1) == 45))) (.bb t3))] (al1 (by simp only [ht3,c79,c80,c81,c85,Leaf.ok,pm,if_true,if_false]) al0))
   ·refine A7 hS trivial (b:=decide (65<=(F8 p_s x1))) (fun c87=>?_) (fun c87=>?_)
    ·refine A7 hS trivial (b:=decide ((F8 p_s x1)<=90)) (fun c88=>?_) (fun c88=>?_)
     ·exact hb4 _ [] _ trivial (by kernel_rfl) (by kernel_rfl) (klR [(0, .eq (.bb false) (.bb t3))] (al1 (by simp only [ht3,c79,c87,c88,Leaf.ok,pm,if_true,if_false]) al0))
     ·refine A7 hS trivial (b:=decide (48<=(F8 p_s x1))) (fun c89=>?_) (fun c89=>?_)
      ·refine A7 hS trivial (b:=decide ((F8 p_s x1)<=57)) (fun c90=>?_) (fun c90=>?_)
       ·exact hb4 _ [] _ trivial (by kernel_rfl) (by kernel_rfl) (klR [(0, .eq (.bb false) (.bb t3))] (al1 (by simp only [ht3,c79,c87,c88,c89,c90,Leaf.ok,pm,if_true,if_false]) al0))
       ·exact hb4 _ [] _ trivial (by kernel_rfl) (by kernel_rfl) (klR [(0, .eq (.bb (!((F8 p_s x1) == 45))) (.bb t3))] (al1 (by simp only [ht3,c79,c87,c88,c89,c90,Leaf.ok,pm,if_true,if_false]) al0))
      ·exact hb4 _ [] _ trivial (by kernel_rfl) (by kernel_rfl) (klR [(0, .eq (.bb (!((F8 p_s x1) == 45))) (.bb t3))] (al1 (by simp only [ht3,c79,c87,c88,c89,Leaf.ok,pm,if_true,if_false]) al0))
    ·refine A7 hS trivial (b:=decide (48<=(F8 p_s x1))) (fun c91=>?_) (fun c91=>?_)
     ·refine A7 hS trivial (b:=decide ((F8 p_s x1)<=57)) (fun c92=>?_) (fun c92=>?_)
      ·exact hb4 _ [] _ trivial (by kernel_rfl) (by kernel_rfl) (klR [(0, .eq (.bb false) (.bb t3))] (al1 (by simp only [ht3,c79,c87,c91,c92,Leaf.ok,pm,if_true,if_false]) al0))
      ·exact hb4 _ [] _ trivial (by kernel_rfl) (by kernel_rfl) (klR [(0, .eq (.bb (!((F8 p_s x1) == 45))) (.bb t3))] (al1 (by simp only [ht3,c79,c87,c91,c92,Leaf.ok,pm,if_true,if_false]) al0))
     ·exact hb4 _ [] _ trivial (by kernel_rfl) (by kernel_rfl) (klR [(0, .eq (.bb (!((F8 p_s x1) == 45))) (.bb t3))] (al1 (by simp only [ht3,c79,c87,c91,Leaf.ok,pm,if_true,if_false]) al0))
  ·subst ht3
   refine A1 hS trivial (b:=(!(((((decide (97<=(F8 p_s x1))) && (decide ((F8 p_s x1)<=122))) || ((decide (65<=(F8 p_s x1))) && (decide ((F8 p_s x1)<=90)))) || ((decide (48<=(F8 p_s x1))) && (decide ((F8 p_s x1)<=57)))) || ((F8 p_s x1) == 45)))) (fun c93=>?_) (fun c93=>?_)
   ·replace h:=itT c93 h
    obtain rfl:=A3 h
    exact B1 hS trivial [] ⟨rfl,rfl,rfl⟩
   ·replace h:=itF c93 h
    exact hb3 _ [] _ (IntKind.wrap .i64 (x1+1)) trivial h
 ·replace h:=itF c63 h
  obtain ⟨t4,ht4⟩:∃ x:Bool,x=((decide (1<=(p_s.length:Int))) && (decide ((p_s.length:Int)<=24))):=⟨_,rfl⟩
  refine S9 hS trivial (B0 hS) 0 ⟨[(2,(pB t4))], []⟩ (fun M4 hb5=>?_) ?_
  ·refine A7 hS trivial (b:=decide (1<=(p_s.length:Int))) (fun c95=>?_) (fun c95=>?_)
   ·exact hb5 _ [] _ trivial (by kernel_rfl) (by kernel_rfl) (klR [(0, .eq (.bb (decide ((p_s.length:Int)<=24))) (.bb t4))] (al1 (by simp only [ht4,c95,Leaf.ok,pm,if_true,if_false]) al0))
   ·exact hb5 _ [] _ trivial (by kernel_rfl) (by kernel_rfl) (klR [(0, .eq (.bb false) (.bb t4))] (al1 (by simp only [ht4,c95,Leaf.ok,pm,if_true,if_false]) al0))
  ·subst ht4
   obtain rfl:=A3 h
   exact B1 hS trivial [] ⟨rfl,rfl,rfl⟩
def Aq9 (N:Nat) (p_x:Ae4) (p_k:Int):Option Bool:=
 lt (fun (z1:Bool)=>
  if z1=true then
   some false
  else
   if ((((C6 .and .u32 p_x.Clear (C6 .or .u32 p_x.Set.Plus p_x.Set.Minus)) != 0) || ((C6 .and .u32 p_x.Take (C6 .or .u32 p_x.Set.Plus p_x.Set.Minus)) != 0)) || ((C6 .and .u32 p_x.Take p_x.Clear) != 0))=true then
    some false
   else
    if (p_x.Take == 0)=true then
     some (p_x.Of == 0)
    else
     some ((decide (0<=p_x.Of)) && (decide (p_x.Of < p_k)))
  ) fun k1=>
  if (decide (p_x.From < (-1)))=true then
   k1 true
  else
   if (decide (p_k<=p_x.From))=true then
    k1 true
   else
    (H2 N p_x.Set).bind fun y2=>
    if (!y2)=true then
     k1 true
    else
     if ((C6 .andNot .u32 p_x.Clear 16777215) != 0)=true then
      k1 true
     else
      k1 ((C6 .andNot .u32 p_x.Take 16777215) != 0)
theorem Cd4 {N:Nat} {p_x:Ae4} {p_k:Int}   {y:Bool} (h:Aq9 N p_x p_k=some y) :
 FunO S Bk5 [(.p (.agg (Q6 p_x))),(pN p_k)] [] (pB y) ([]) []:=by
 unfold Aq9 at h
 refine A6 hS Cb6 ?_
 refine AH1 hS trivial (B0 hS) h 0 (fun z1=>⟨[(32,(pB z1)),(2,(.reg 3000 0)),(1,(pN p_k))], [(3000,(.cells ((Q6 p_x).map .p)))]⟩) (fun M1 k1 hb1 h=>?_) (fun z1 h=>?_)
 ·refine A7 hS trivial (b:=decide (p_x.From < (-1))) (fun c7=>?_) (fun c7=>?_)
  ·replace h:=itT c7 h
   exact hb1 _ [(3000,3000)] _ true trivial h
  ·replace h:=itF c7 h
   refine A7 hS trivial (b:=decide (p_k<=p_x.From)) (fun c8=>?_) (fun c8=>?_)
   ·replace h:=itT c8 h
    exact hb1 _ [(3000,3000)] _ true trivial h
   ·replace h:=itF c8 h
    obtain ⟨y2,e2,h⟩:=A4 h
    refine A2 hS [] trivial (Q9 hS hL e2) ?_
    refine A7 hS trivial (b:=!y2) (fun c9=>?_) (fun c9=>?_)
    ·replace h:=itT c9 h
     exact hb1 _ [(3000,3000)] _ true trivial h
    ·replace h:=itF c9 h
     refine A7 hS trivial (b:=(C6 .andNot .u32 p_x.Clear 16777215) != 0) (fun c10=>?_) (fun c10=>?_)
     ·replace h:=itT c10 h
      exact hb1 _ [(3000,3000)] _ true trivial h
     ·replace h:=itF c10 h
      exact hb1 _ [(3000,3000)] _ ((C6 .andNot .u32 p_x.Take 16777215) != 0) trivial h
 ·refine A1 hS trivial (b:=z1) (fun c11=>?_) (fun c11=>?_)
  ·replace h:=itT c11 h
   obtain rfl:=A3 h
   exact B1 hS trivial [] ⟨rfl,rfl,rfl⟩
  ·replace h:=itF c11 h
   obtain ⟨t1,ht1⟩:∃ x:Bool,x=((((C6 .and .u32 p_x.Clear (C6 .or .u32 p_x.Set.Plus p_x.Set.Minus)) != 0) || ((C6 .and .u32 p_x.Take (C6 .or .u32 p_x.Set.Plus p_x.Set.Minus)) != 0)) || ((C6 .and .u32 p_x.Take p_x.Clear) != 0)):=⟨_,rfl⟩
   refine S9 hS trivial (B0 hS) 0 ⟨[(59,(pB t1)),(2,(.reg 3000 0)),(1,(pN p_k))], [(3000,(.cells ((Q6 p_x).map .p)))]⟩ (fun M2 hb2=>?_) ?_
   ·refine A7 hS trivial (b:=(C6 .and .u32 p_x.Clear (C6 .or .u32 p_x.Set.Plus p_x.Set.Minus)) != 0) (fun c14=>?_) (fun c14=>?_)
    ·exact hb2 _ [(3000,3000)] _ trivial (by kernel_rfl) (by kernel_rfl) (klR [(0, .eq (.bb true) (.bb t1))] (al1 (by simp only [ht1,c14,Leaf.ok,pm,if_true,if_false]) al0))
    ·refine A7 hS trivial (b:=(C6 .and .u32 p_x.Take (C6 .or .u32 p_x.Set.Plus p_x.Set.Minus)) != 0) (fun c15=>?_) (fun c15=>?_)
     ·exact hb2 _ [(3000,3000)] _ trivial (by kernel_rfl) (by kernel_rfl) (klR [(0, .eq (.bb true) (.bb t1))] (al1 (by simp only [ht1,c14,c15,Leaf.ok,pm,if_true,if_false]) al0))
     ·exact hb2 _ [(3000,3000)] _ trivial (by kernel_rfl) (by kernel_rfl) (klR [(0, .eq (.bb ((C6 .and .u32 p_x.Take p_x.Clear) != 0)) (.bb t1))] (al1 (by simp only [ht1,c14,c15,Leaf.ok,pm,if_true,if_false]) al0))
   ·subst ht1
    refine A1 hS trivial (b:=((((C6 .and .u32 p_x.Clear (C6 .or .u32 p_x.Set.Plus p_x.Set.Minus)) != 0) || ((C6 .and .u32 p_x.Take (C6 .or .u32 p_x.Set.Plus p_x.Set.Minus)) != 0)) || ((C6 .and .u32 p_x.Take p_x.Clear) != 0))) (fun c16=>?_) (fun c16=>?_)
    ·replace h:=itT c16 h
     obtain rfl:=A3 h
     exact B1 hS trivial [] ⟨rfl,rfl,rfl⟩
    ·replace h:=itF c16 h
     refine A1 hS trivial (b:=p_x.Take == 0) (fun c17=>?_) (fun c17=>?_)
     ·replace h:=itT c17 h
      obtain rfl:=A3 h
      exact B1 hS trivial [] ⟨rfl,rfl,rfl⟩
     ·replace h:=itF c17 h
      obtain ⟨t2,ht2⟩:∃ x:Bool,x=((decide (0<=p_x.Of)) && (decide (p_x.Of < p_k))):=⟨_,rfl⟩
      refine S9 hS trivial (B0 hS) 0 ⟨[(4,(pB t2))], []⟩ (fun M3 hb3=>?_) ?_
      ·refine A7 hS trivial (b:=decide (0<=p_x.Of)) (fun c19=>?_) (fun c19=>?_)
       ·exact hb3 _ [] _ trivial (by kernel_rfl) (by kernel_rfl) (klR [(0, .eq (.bb (decide (p_x.Of < p_k))) (.bb t2))] (al1 (by simp only [ht2,c19,Leaf.ok,pm,if_true,if_false]) al0))
       ·exact hb3 _ [] _ trivial (by kernel_rfl) (by kernel_rfl) (klR [(0, .eq (.bb false) (.bb t2))] (al1 (by simp only [ht2,c19,Leaf.ok,pm,if_true,if_false]) al0))
      ·subst ht2
       obtain rfl:=A3 h
       exact B1 hS trivial [] ⟨rfl,rfl,rfl⟩
def Ab4 (N:Nat) (p_l:Law):Option Int:=
 (Af5 N p_l.Name).bind fun y1=>
 lt (fun (z1:Bool)=>
  if z1=true then
   some 17
  else
   if (((((decide (4 < (p_l.If.n:Int))) || (decide (6 < (p_l.Out.n:Int)))) || ((IntKind.wrap .i64 ((p_l.If.n:Int)+(p_l.Out.n:Int))) == 0)) || (decide (p_l.Mode < 1))) || (decide (3 < p_l.Mode)))=true then
    some 17
   else
    Ae3 N (fun self1 (x2:Int)=>
     if (decide (x2 < (p_l.If.n:Int)))=true then
      if ((0:Int)<=x2/\x2 < (p_l.If.n:Int)) then
       (H2 N (p_l.If.g x2.toNat)).bind fun y8=>
       if (!y8)=true then
        some 17
       else
        self1 (IntKind.wrap .i64 (x2+1))
      else none
     else
      Ae3 N (fun self2 (x3:Int)=>
       if (decide (x3 < (p_l.Out.n:Int)))=true then
        if ((0:Int)<=x3/\x3 < (p_l.Out.n:Int)) then
         (Aq9 N (p_l.Out.g x3.toNat) (p_l.If.n:Int)).bind fun y11=>
         if (!y11)=true then
          some 17
         else
          self2 (IntKind.wrap .i64 (x3+1))
        else none
       else
        some 0
       ) 0
     ) 0
  ) fun k1=>
  if (!y1)=true then
   k1 true
  else
   (Ab3 N p_l.Left).bind fun y4=>
   if (y4 != 0)=true then
    k1 true
   else
    (Ab3 N p_l.Right).bind fun y5=>
    k1 (y5 != 0)
theorem Ba5 {N:Nat} {p_l:Law}   {y:Int} (h:Ab4 N p_l=some y) :
 FunO S AX6 [(.p (.agg (A8 p_l)))] [] (pN y) ([]) []:=by
 unfold Ab4 at h
 refine A6 hS BL3 ?_
 refine R7 hS trivial 2 2000 (A8 p_l) ?_
 obtain ⟨y1,e1,h⟩:=A4 h
 refine A2 hS [] trivial (Cd3 hS hL e1) ?_
 refine AH1 hS trivial (B0 hS) h 0 (fun z1=>⟨[(20,(pB z1)),(1,(.p (.ptr (A8 p_l))))], []⟩) (fun M1 k1 hb1 h=>?_) (fun z1 h=>?_)
 ·refine A7 hS trivial (b:=!y1) (fun c4=>?_) (fun c4=>?_)
  ·replace h:=itT c4 h
   exact hb1 _ [] _ true trivial h
  ·replace h:=itF c4 h
   obtain ⟨y4,e4,h⟩:=A4 h
   refine A2 hS [] (by decide:(7:Nat)<=17) (AE9 hS hL e4) ?_
   refine A7 hS trivial (b:=y4 != 0) (fun c5=>?_) (fun c5=>?_)
   ·replace h:=itT c5 h
    exact hb1 _ [] _ true trivial h
   ·replace h:=itF c5 h
    obtain ⟨y5,e5,h⟩:=A4 h
    refine A2 hS [] (by decide:(7:Nat)<=10) (AE9 hS hL e5) ?_
    exact hb1 _ [] _ (y5 != 0) trivial h
 ·refine A1 hS trivial (b:=z1) (fun c6=>?_) (fun c6=>?_)
  ·replace h:=itT c6 h
   obtain rfl:=A3 h
   exact B1 hS trivial [] ⟨rfl,rfl,rfl⟩
  ·replace h:=itF c6 h
   obtain ⟨t1,ht1⟩:∃ x:Bool,x=(((((decide (4 < (p_l.If.n:Int))) || (decide (6 < (p_l.Out.n:Int)))) || ((IntKind.wrap .i64 ((p_l.If.n:Int)+(p_l.Out.n:Int))) == 0)) || (decide (p_l.Mode < 1))) || (decide (3 < p_l.Mode))):=⟨_,rfl⟩
   refine S9 hS trivial (B0 hS) 0 ⟨[(50,(pB t1)),(1,(.p (.ptr (A8 p_l))))], []⟩ (fun M2 hb2=>?_) ?_
   ·refine A7 hS trivial (b:=decide (4 < (p_l.If.n:Int))) (fun c11=>?_) (fun c11=>?_)
    ·exact hb2 _ [] _ trivial (by kernel_rfl) (by kernel_rfl) (klR [(0, .eq (.bb true) (.bb t1))] (al1 (by simp only [ht1,c11,Leaf.ok,pm,if_true,if_false]) al0))
    ·refine A7 hS trivial (b:=decide (6 < (p_l.Out.n:Int))) (fun c12=>?_) (fun c12=>?_)
     ·exact hb2 _ [] _ trivial (by kernel_rfl) (by kernel_rfl) (klR [(0, .eq (.bb true) (.bb t1))] (al1 (by simp only [ht1,c11,c12,Leaf.ok,pm,if_true,if_false]) al0))
     ·refine A7 hS trivial (b:=(IntKind.wrap .i64 ((p_l.If.n:Int)+(p_l.Out.n:Int))) == 0) (fun c13=>?_) (fun c13=>?_)
      ·exact hb2 _ [] _ trivial (by kernel_rfl) (by kernel_rfl) (klR [(0, .eq (.bb true) (.bb t1))] (al1 (by simp only [ht1,c11,c12,c13,Leaf.ok,pm,if_true,if_false]) al0))
      ·refine A7 hS trivial (b:=decide (p_l.Mode < 1)) (fun c14=>?_) (fun c14=>?_)
       ·exact hb2 _ [] _ trivial (by kernel_rfl) (by kernel_rfl) (klR [(0, .eq (.bb true) (.bb t1))] (al1 (by simp only [ht1,c11,c12,c13,c14,Leaf.ok,pm,if_true,if_false]) al0))
       ·exact hb2 _ [] _ trivial (by kernel_rfl) (by kernel_rfl) (klR [(0, .eq (.bb (decide (3 < p_l.Mode))) (.bb t1))] (al1 (by simp only [ht1,c11,c12,c13,c14,Leaf.ok,pm,if_true,if_false]) al0))
   ·subst ht1
    refine A1 hS trivial (b:=(((((decide (4 < (p_l.If.n:Int))) || (decide (6 < (p_l.Out.n:Int)))) || ((IntKind.wrap .i64 ((p_l.If.n:Int)+(p_l.Out.n:Int))) == 0)) || (decide (p_l.Mode < 1))) || (decide (3 < p_l.Mode)))) (fun c15=>?_) (fun c15=>?_)
    ·replace h:=itT c15 h
     obtain rfl:=A3 h
     exact B1 hS trivial [] ⟨rfl,rfl,rfl⟩
    ·replace h:=itF c15 h
     refine U1 hS trivial h (fun x2=>⟨[(3,(pN x2)),(1,(.p (.ptr (A8 p_l))))], []⟩) (ids:=[]) (fun _ _ _ _ _ self1 x2 hb3 h=>?_)
     refine A1 hS trivial (b:=decide (x2 < (p_l.If.n:Int))) (fun c22=>?_) (fun c22=>?_)
     ·replace h:=itT c22 h
      obtain ⟨c23,h⟩:=F3 h
      obtain ⟨y8,e8,h⟩:=A4 h
      refine A2 hS [] (And.intro c23 (by decide:(2:Nat)<=2)) (Q9 hS hL e8) ?_
      refine A1 hS trivial (b:=!y8) (fun c24=>?_) (fun c24=>?_)
      ·replace h:=itT c24 h
       obtain rfl:=A3 h
       exact B1 hS trivial [] ⟨rfl,rfl,rfl⟩
      ·replace h:=itF c24 h
       exact hb3 _ [] _ (IntKind.wrap .i64 (x2+1)) trivial h
     ·replace h:=itF c22 h
      refine U1 hS trivial h (fun x3=>⟨[(4,(pN x3)),(1,(.p (.ptr (A8 p_l))))], []⟩) (ids:=[]) (fun _ _ _ _ _ self2 x3 hb4 h=>?_)
      refine A1 hS trivial (b:=decide (x3 < (p_l.Out.n:Int))) (fun c31=>?_) (fun c31=>?_)
      ·replace h:=itT c31 h
       refine F0 hS trivial [1,3,4,6,8] ?_
       obtain ⟨c32,h⟩:=F3 h
       obtain ⟨y11,e11,h⟩:=A4 h
       refine U2 (And.intro c32 (by decide:(6:Nat)<=6)) (Cd4 hS hL e11) ?_
       refine M0 trivial ?_
       refine A1 hS trivial (b:=!y11) (fun c33=>?_) (fun c33=>?_)
       ·replace h:=itT c33 h
        obtain rfl:=A3 h
        exact B1 hS trivial [] ⟨rfl,rfl,rfl⟩
       ·replace h:=itF c33 h
        exact hb4 _ [] _ (IntKind.wrap .i64 (x3+1)) trivial h
      ·replace h:=itF c31 h
       obtain rfl:=A3 h
       exact B1 hS trivial [] ⟨rfl,rfl,rfl⟩
def U9 (N:Nat) (p_laws:(Sl Law)):Option Int:=
 if (decide (64 < (p_laws.n:Int)))=true then
  some 12
 else
  Ae3 N (fun self1 (x1:Int)=>
   if (decide (x1 < (p_laws.n:Int)))=true then
    if ((0:Int)<=x1/\x1 < (p_laws.n:Int)) then
     (Ab4 N (p_laws.g x1.toNat)).bind fun y3=>
     if (y3 != 0)=true then
      some 17
     else
      self1 (IntKind.wrap .i64 (x1+1))
    else none
   else
    some 0
   ) 0
theorem AF0 {N:Nat} {p_laws:(Sl Law)}   {y:Int} (h:U9 N p_laws=some y) :
 FunO S AX2 [(.p (vSl 18 A8 p_laws))] [] (pN y) ([]) []:=by
 unfold U9 at h
 refine A6 hS BK9 ?_
 refine A1 hS trivial (b:=decide (64 < (p_laws.n:Int))) (fun c1=>?_) (fun c1=>?_)
 ·replace h:=itT c1 h
  obtain rfl:=A3 h
  exact B1 hS trivial [] ⟨rfl,rfl,rfl⟩
 ·replace h:=itF c1 h
  refine U1 hS trivial h (fun x1=>⟨[(3,(pN x1)),(0,(.p (vSl 18 A8 p_laws)))], []⟩) (ids:=[]) (fun _ _ _ _ _ self1 x1 hb1 h=>?_)
  refine A1 hS trivial (b:=decide (x1 < (p_laws.n:Int))) (fun c8=>?_) (fun c8=>?_)
  ·replace h:=itT c8 h
   obtain ⟨c9,h⟩:=F3 h
   obtain ⟨y3,e3,h⟩:=A4 h
   refine A2 hS [] (And.intro c9 (by decide:(18:Nat)<=18)) (Ba5 hS hL e3) ?_
   refine A1 hS trivial (b:=y3 != 0) (fun c10=>?_) (fun c10=>?_)
   ·replace h:=itT c10 h
    obtain rfl:=A3 h
    exact B1 hS trivial [] ⟨rfl,rfl,rfl⟩
   ·replace h:=itF c10 h
    exact hb1 _ [] _ (IntKind.wrap .i64 (x1+1)) trivial h
  ·replace h:=itF c8 h
   obtain rfl:=A3 h
   exact B1 hS trivial [] ⟨rfl,rfl,rfl⟩
def At7 (N:Nat) (p_l:Law) (p_w:(Sl Sound)):Option Int:=
 (Ab4 N p_l).bind fun y1=>
 if (y1 != 0)=true then
  some y1
 else
  (U4 N p_w).bind fun y2=>
  some y2
theorem BO3 {N:Nat} {p_l:Law} {p_w:(Sl Sound)}   {y:Int} (h:At7 N p_l p_w=some y) :
 FunO S AY7 [(.p (.agg (A8 p_l))),(.p (vSl 2 A0 p_w))] [] (pN y) ([]) []:=by
 unfold At7 at h
 refine A6 hS BM4 ?_
 obtain ⟨y1,e1,h⟩:=A4 h
 refine A2 hS [] trivial (Ba5 hS hL e1) ?_
 refine A1 hS trivial (b:=y1 != 0) (fun c1=>?_) (fun c1=>?_)
 ·replace h:=itT c1 h
  obtain rfl:=A3 h
  exact B1 hS trivial [] ⟨rfl,rfl,rfl⟩
 ·replace h:=itF c1 h
  obtain ⟨y2,e2,h⟩:=A4 h
  refine A2 hS [] trivial (Al5 hS hL e2) ?_
  obtain rfl:=A3 h
  exact B1 hS trivial [] ⟨rfl,rfl,rfl⟩
def Ak1 (N:Nat) (p_p:Pat) (p_w:(Sl Sound)):Option Int:=
 (Ab3 N p_p).bind fun y1=>
 if (y1 == 0)=true then
  (U4 N p_w).bind fun y2=>
  some y2
 else
  some y1
theorem Bl8 {N:Nat} {p_p:Pat} {p_w:(Sl Sound)}   {y:Int} (h:Ak1 N p_p p_w=some y) :
 FunO S Bl2 [(.p (.agg (B6 p_p))),(.p (vSl 2 A0 p_w))] [] (pN y) ([]) []:=by
 unfold Ak1 at h
 refine A6 hS Cc4 ?_
 obtain ⟨y1,e1,h⟩:=A4 h
 refine A2 hS [] trivial (AE9 hS hL e1) ?_
 refine A1 hS trivial (b:=y1 == 0) (fun c1=>?_) (fun c1=>?_)
 ·replace h:=itT c1 h
  obtain ⟨y2,e2,h⟩:=A4 h
  refine A2 hS [] trivial (Al5 hS hL e2) ?_
  obtain rfl:=A3 h
  exact B1 hS trivial [] ⟨rfl,rfl,rfl⟩
 ·replace h:=itF c1 h
  obtain rfl:=A3 h
  exact B1 hS trivial [] ⟨rfl,rfl,rfl⟩
def Ad4 (rec:Pat->(Sl Sound)->Option (Sl Int)) (N:Nat) (p_p:Pat) (p_w:(Sl Sound)):Option (Sl Int):=
 if ((0:Int)<=(IntKind.wrap .i64 ((p_w.n:Int)+1))/\(IntKind.wrap .i64 ((p_w.n:Int)+1))<=(IntKind.wrap .i64 ((p_w.n:Int)+1))/\(IntKind.wrap .i64 ((p_w.n:Int)+1)) * 8<=140737488355328/\(IntKind.wrap .i64 ((p_w.n:Int)+1))<=140737488355328) then
  V9 N (fun self1 (x1:Sl Int) (x2:Int)=>
   if (decide (x2<=(p_w.n:Int)))=true then
    if (p_p.Kind == 0)=true then
     if (((0:Int)<=x2/\((0:Int)<=x2/\x2 < (x1.n:Int)))/\x2.toNat < x1.n) then
      self1 (x1.upd x2.toNat (shI .shl .u64 1 x2)) (IntKind.wrap .i64 (x2+1))
     else none
    else
     if (p_p.Kind == 1)=true then
      if (decide (x2 < (p_w.n:Int)))=true then
       if ((0:Int)<=x2/\x2 < (p_w.n:Int)) then
        (Al7 N (p_w.g x2.toNat) p_p.Is).bind fun y3=>
        if ((y3 == p_p.Not) != true)=true then
         if (((0:Int)<=(IntKind.wrap .i64 (x2+1))/\((0:Int)<=x2/\x2 < (x1.n:Int)))/\x2.toNat < x1.n) then
          self1 (x1.upd x2.toNat (shI .shl .u64 1 (IntKind.wrap .i64 (x2+1)))) (IntKind.wrap .i64 (x2+1))
         else none
        else
         self1 x1 (IntKind.wrap .i64 (x2+1))
       else none
      else
       self1 x1 (IntKind.wrap .i64 (x2+1))
     else
      if (p_p.Kind == 2)=true then
       if (x2 == 0)=true then
        if (((0:Int)<=x2/\x2 < (x1.n:Int))/\x2.toNat < x1.n) then
         self1 (x1.upd x2.toNat 1) (IntKind.wrap .i64 (x2+1))
        else none
       else
        self1 x1 (IntKind.wrap .i64 (x2+1))
      else
       if (p_p.Kind == 6)=true then
        if (x2 == (p_w.n:Int))=true then
         if (((0:Int)<=x2/\((0:Int)<=x2/\x2 < (x1.n:Int)))/\x2.toNat < x1.n) then
          self1 (x1.upd x2.toNat (shI .shl .u64 1 x2)) (IntKind.wrap .i64 (x2+1))
         else none
        else
         self1 x1 (IntKind.wrap .i64 (x2+1))
       else
        self1 x1 (IntKind.wrap .i64 (x2+1))
   else
    if (p_p.Kind == 3)=true then
     (Aj8 N (p_w.n:Int)).bind fun y4=>
     V9 N (fun self2 (x3:Sl Int) (x4:Int)=>
      if (decide (x4 < (p_p.L.n:Int)))=true then
       if ((0:Int)<=x4/\x4 < (p_p.L.n:Int)) then
        (rec (p_p.L.g x4.toNat) p_w).bind fun y9=>
        (U6 N x3 y9).bind fun y10=>
        self2 y10 (IntKind.wrap .i64 (x4+1))
       else none
      else
       some x3
      ) y4 0
    else
     if (p_p.Kind == 4)=true then
      V9 N (fun self3 (x5:Sl Int) (x6:Int)=>
       if (decide (x6 < (p_p.L.n:Int)))=true then
        if ((0:Int)<=x6/\x6 < (p_p.L.n:Int)) then
         (rec (p_p.L.g x6.toNat) p_w).bind fun y15=>
         (Aj9 N x5 y15).bind fun y16=>
         self3 y16 (IntKind.wrap .i64 (x6+1))
        else none
       else
        some x5
       ) x1 0
     else
      if (p_p.Kind == 5)=true then
       if ((0:Int)<=0/\0 < (p_p.L.n:Int)) then
        (rec (p_p.L.g 0) p_w).bind fun y17=>
        (Aj8 N (p_w.n:Int)).bind fun y18=>
        CN1 N (fun self4 (x8:Sl Int) (x9:Sl Int) (x10:Int)=>
         if (decide (p_p.Min<=x10))=true then
          (Aj9 N x8 x9).bind fun y29=>
          lt (fun (z3:Bool)=>
           if z3=true then
            some y29
           else
            (U6 N x9 y17).bind fun y32=>
            self4 y29 y32 (IntKind.wrap .i64 (x10+1))
           ) fun k3=>
           if (x10 == p_p.Max)=true then
            k3 true
           else
            if (decide (p_p.Min < x10))=true then
             (Al8 N x8 y29).bind fun y31=>
             k3 y31
            else
             k3 false
         else
          (U6 N x9 y17).bind fun y33=>
          self4 x8 y33 (IntKind.wrap .i64 (x10+1))
         ) x1 y18 0
       else none
      else
       some x1
   ) (Sl.rep (IntKind.wrap .i64 ((p_w.n:Int)+1)).toNat 0:Sl Int) 0
 else none
def Af6:Nat->Pat->(Sl Sound)->Option (Sl Int)
 | 0=>fun _ _=>none
 | N+1=>Ad4 (Af6 N) N
theorem BD3 {N:Nat} {rec:Pat->(Sl Sound)->Option (Sl Int)} (hrec:∀ {p_p:Pat} {p_w:(Sl Sound)} {y:(Sl Int)},rec p_p p_w=some y->FunO S At2 [(.p (.agg (B6 p_p))),(.p (vSl 2 A0 p_w))] [] (.vec 0) ([(.vec E1 1 y.n (fun i=>(cI .u64) (y.g i)) true)]) []) {p_p:Pat} {p_w:(Sl Sound)} {y:(Sl Int)} (h:Ad4 rec N p_p p_w=some y) :
 FunO S At2 [(.p (.agg (B6 p_p))),(.p (vSl 2 A0 p_w))] [] (.vec 0) ([(.vec E1 1 y.n (fun i=>(cI .u64) (y.g i)) true)]) []:=by
 unfold Ad4 at h
 refine A6 hS BN0 ?_
 refine R7 hS trivial 4 3000 (B6 p_p) ?_
 obtain ⟨c1,h⟩:=F3 h
 refine H9 hS c1 h (fun x1 x2=>⟨[(7,(pN x2)),(6,(.vec 19000)),(5,(pN (p_w.n:Int))),(2,(.p (.ptr (B6 p_p)))),(1,(.p (vSl 2 A0 p_w)))], [(19000,(.vec E1 1 x1.n (fun i=>(cI .u64) (x1.g i)) false))]⟩) (ids:=[(19000,19000)]) (fun _ _ _ _ _ self1 x1 x2 hb1 h=>?_)
 refine A1 hS trivial (b:=decide (x2<=(p_w.n:Int))) (fun c22=>?_) (fun c22=>?_)
 ·replace h:=itT c22 h
  refine A1 hS trivial (b:=p_p.Kind == 0) (fun c23=>?_) (fun c23=>?_)
  ·replace h:=itT c23 h
   obtain ⟨c24,h⟩:=F3 h
   exact hb1 _ [(19000,19000)] _ (x1.upd x2.toNat (shI .shl .u64 1 x2)) (IntKind.wrap .i64 (x2+1)) (And.intro (And.intro c24.1.1 c24.1.2) (And.intro (rfl:(1:Nat)=1) (And.intro c24.2 (by decide:(1:Nat)<=1)))) h (by kernel_rfl) (by kernel_rfl) (klR [(4, .fn x1.n (x1.upd x2.toNat (shI .shl .u64 1 x2)).n (fun l=>if l=x2.toNat then splice ((fun i=>(cI .u64) (x1.g i)) l) 0 [(pI .u64 (shI .shl .u64 1 x2))] else (fun i=>(cI .u64) (x1.g i)) l) (fun i=>(cI .u64) ((x1.upd x2.toNat (shI .shl .u64 1 x2)).g i)))] (al1 ⟨rfl,(CH9 (c:=(cI .u64)) (v:=x1) (x:=shI .shl .u64 1 x2) same (fun _=>by first | rfl | (dsimp only;split <;> rfl)))⟩ al0))
  ·replace h:=itF c23 h
   refine A1 hS trivial (b:=p_p.Kind == 1) (fun c25=>?_) (fun c25=>?_)
   ·replace h:=itT c25 h
    refine F0 hS trivial [6,7,9,10,12] ?_
    refine BJ9 trivial (b:=decide (x2 < (p_w.n:Int))) (fun c26=>?_) (fun c26=>?_)
    ·replace h:=itT c26 h
     obtain ⟨c27,h⟩:=F3 h
     obtain ⟨y3,e3,h⟩:=A4 h
     refine U2 (And.intro (And.intro c27 (by decide:(2:Nat)<=2)) (by decide:(2:Nat)<=6)) (Ba4 hS hL e3) ?_
     refine M0 trivial ?_
     refine A1 hS trivial (b:=((y3 == p_p.Not) != true)) (fun c28=>?_) (fun c28=>?_)
     ·replace h:=itT c28 h
      obtain ⟨c29,h⟩:=F3 h
      exact hb1 _ [(19000,19000)] _ (x1.upd x2.toNat (shI .shl .u64 1 (IntKind.wrap .i64 (x2+1)))) (IntKind.wrap .i64 (x2+1)) (And.intro (And.intro c29.1.1 c29.1.2) (And.intro (rfl:(1:Nat)=1) (And.intro c29.2 (by decide:(1:Nat)<=1)))) h (by kernel_rfl) (by kernel_rfl) (klR [(4, .fn x1.n (x1.upd x2.toNat (shI .shl .u64 1 (IntKind.wrap .i64 (x2+1)))).n (fun l=>if l=x2.toNat then splice ((fun i=>(cI .u64) (x1.g i)) l) 0 [(pI .u64 (shI .shl .u64 1 (IntKind.wrap .i64 (x2+1))))] else (fun i=>(cI .u64) (x1.g i)) l) (fun i=>(cI .u64) ((x1.upd x2.toNat (shI .shl .u64 1 (IntKind.wrap .i64 (x2+1)))).g i)))] (al1 ⟨rfl,(CH9 (c:=(cI .u64)) (v:=x1) (x:=shI .shl .u64 1 (IntKind.wrap .i64 (x2+1))) same (fun _=>by first | rfl | (dsimp only;split <;> rfl)))⟩ al0))
     ·replace h:=itF c28 h
      exact hb1 _ [(19000,19000)] _ x1 (IntKind.wrap .i64 (x2+1)) trivial h
    ·replace h:=itF c26 h
     refine M0 trivial ?_
     exact hb1 _ [(19000,19000)] _ x1 (IntKind.wrap .i64 (x2+1)) trivial h
   ·replace h:=itF c25 h
    refine A1 hS trivial (b:=p_p.Kind == 2) (fun c30=>?_) (fun c30=>?_)
    ·replace h:=itT c30 h
     refine A1 hS trivial (b:=x2 == 0) (fun c31=>?_) (fun c31=>?_)
     ·replace h:=itT c31 h
      obtain ⟨c32,h⟩:=F3 h
      exact hb1 _ [(19000,19000)] _ (x1.upd x2.toNat 1) (IntKind.wrap .i64 (x2+1)) (And.intro c32.1 (And.intro (rfl:(1:Nat)=1) (And.intro c32.2 (by decide:(1:Nat)<=1)))) h (by kernel_rfl) (by kernel_rfl) (klR [(4, .fn x1.n (x1.upd x2.toNat 1).n (fun l=>if l=x2.toNat then splice ((fun i=>(cI .u64) (x1.g i)) l) 0 [(pI .u64 1)] else (fun i=>(cI .u64) (x1.g i)) l) (fun i=>(cI .u64) ((x1.upd x2.toNat 1).g i)))] (al1 ⟨rfl,(CH9 (c:=(cI .u64)) (v:=x1) (x:=1) same (fun _=>by first | rfl | (dsimp only;split <;> rfl)))⟩ al0))
     ·replace h:=itF c31 h
      exact hb1 _ [(19000,19000)] _ x1 (IntKind.wrap .i64 (x2+1)) trivial h
    ·replace h:=itF c30 h
     refine A1 hS trivial (b:=p_p.Kind == 6) (fun c33=>?_) (fun c33=>?_)
     ·replace h:=itT c33 h
      refine A1 hS trivial (b:=x2 == (p_w.n:Int)) (fun c34=>?_) (fun c34=>?_)
      ·replace h:=itT c34 h
       obtain ⟨c35,h⟩:=F3 h
       exact hb1 _ [(19000,19000)] _ (x1.upd x2.toNat (shI .shl .u64 1 x2)) (IntKind.wrap .i64 (x2+1)) (And.intro (And.intro c35.1.1 c35.1.2) (And.intro (rfl:(1:Nat)=1) (And.intro c35.2 (by decide:(1:Nat)<=1)))) h (by kernel_rfl) (by kernel_rfl) (klR [(4, .fn x1.n (x1.upd x2.toNat (shI .shl .u64 1 x2)).n (fun l=>if l=x2.toNat then splice ((fun i=>(cI .u64) (x1.g i)) l) 0 [(pI .u64 (shI .shl .u64 1 x2))] else (fun i=>(cI .u64) (x1.g i)) l) (fun i=>(cI .u64) ((x1.upd x2.toNat (shI .shl .u64 1 x2)).g i)))] (al1 ⟨rfl,(CH9 (c:=(cI .u64)) (v:=x1) (x:=shI .shl .u64 1 x2) same (fun _=>by first | rfl | (dsimp only;split <;> rfl)))⟩ al0))
      ·replace h:=itF c34 h
       exact hb1 _ [(19000,19000)] _ x1 (IntKind.wrap .i64 (x2+1)) trivial h
     ·replace h:=itF c33 h
      exact hb1 _ [(19000,19000)] _ x1 (IntKind.wrap .i64 (x2+1)) trivial h
 ·replace h:=itF c22 h
  refine A1 hS trivial (b:=p_p.Kind == 3) (fun c36=>?_) (fun c36=>?_)
  ·replace h:=itT c36 h
   obtain ⟨y4,e4,h⟩:=A4 h
   refine A2 hS [] trivial (Bl6 hS hL e4) ?_
   refine H9 hS trivial h (fun x3 x4=>⟨[(8,(pN x4)),(6,(.vec 7500)),(2,(.p (.ptr (B6 p_p)))),(1,(.p (vSl 2 A0 p_w)))], [(7500,(.vec E1 1 x3.n (fun i=>(cI .u64) (x3.g i)) true))]⟩) (ids:=[(7500,79000)]) (fun _ _ _ _ _ self2 x3 x4 hb2 h=>?_)
   refine J7 hS trivial 82 ⟨[(81,(.p (vSl 7 B6 p_p.L))),(79,(pN x4)),(8,(pN x4)),(6,(.vec 7500)),(2,(.p (.ptr (B6 p_p)))),(1,(.p (vSl 2 A0 p_w)))], [(7500,(.vec E1 1 x3.n (fun i=>(cI .u64) (x3.g i)) true))]⟩ (ids:=[(7500,7500)]) ?_ (hle:=(klR [(0, .fn p_p.L.n p_p.L.n (Ad2 p_p) (fun i=>B6 (p_p.L.g i)))] (al1 ⟨rfl,M9 p_p⟩ al0)))
   refine A1 hS trivial (b:=decide (x4 < (p_p.L.n:Int))) (fun c41=>?_) (fun c41=>?_)
   ·replace h:=itT c41 h
    refine J7 hS trivial 90 ⟨[(89,(pN x4)),(88,(.p (vSl 7 B6 p_p.L))),(86,(.vec 7500)),(8,(pN x4)),(2,(.p (.ptr (B6 p_p)))),(1,(.p (vSl 2 A0 p_w)))], [(7500,(.vec E1 1 x3.n (fun i=>(cI .u64) (x3.g i)) true))]⟩ (ids:=[(7500,7500)]) ?_ (hle:=(klR [(1, .fn p_p.L.n p_p.L.n (Ad2 p_p) (fun i=>B6 (p_p.L.g i)))] (al1 ⟨rfl,M9 p_p⟩ al0)))
    obtain ⟨c42,h⟩:=F3 h
    obtain ⟨y9,e9,h⟩:=A4 h
    refine A2 hS [] (And.intro c42 (by decide:(7:Nat)<=7)) (hrec e9) ?_
    obtain ⟨y10,e10,h⟩:=A4 h
    refine A2 hS [] trivial (Ay4 hS hL e10) ?_
    exact hb2 _ [(7500,95000)] _ y10 (IntKind.wrap .i64 (x4+1)) trivial h
   ·replace h:=itF c41 h
    obtain rfl:=A3 h
    exact B4 hS trivial ⟨[(4,(.vec 7500))], [(7500,(.vec E1 1 x3.n (fun i=>(cI .u64) (x3.g i)) true))]⟩ [7500] (ids:=[(7500,7500)]) ⟨rfl,rfl,rfl⟩
  ·replace h:=itF c36 h
   refine A1 hS trivial (b:=p_p.Kind == 4) (fun c43=>?_) (fun c43=>?_)
   ·replace h:=itT c43 h
    refine H9 hS trivial h (fun x5 x6=>⟨[(9,(pN x6)),(6,(.vec 7500)),(2,(.p (.ptr (B6 p_p)))),(1,(.p (vSl 2 A0 p_w)))], [(7500,(.vec E1 1 x5.n (fun i=>(cI .u64) (x5.g i)) true))]⟩) (ids:=[(7500,19000)]) (fun _ _ _ _ _ self3 x5 x6 hb3 h=>?_)
    refine J7 hS trivial 100 ⟨[(99,(.p (vSl 7 B6 p_p.L))),(97,(pN x6)),(9,(pN x6)),(6,(.vec 7500)),(2,(.p (.ptr (B6 p_p)))),(1,(.p (vSl 2 A0 p_w)))], [(7500,(.vec E1 1 x5.n (fun i=>(cI .u64) (x5.g i)) true))]⟩ (ids:=[(7500,7500)]) ?_ (hle:=(klR [(0, .fn p_p.L.n p_p.L.n (Ad2 p_p) (fun i=>B6 (p_p.L.g i)))] (al1 ⟨rfl,M9 p_p⟩ al0)))
    refine A1 hS trivial (b:=decide (x6 < (p_p.L.n:Int))) (fun c48=>?_) (fun c48=>?_)
    ·replace h:=itT c48 h
     refine J7 hS trivial 108 ⟨[(107,(pN x6)),(106,(.p (vSl 7 B6 p_p.L))),(104,(.vec 7500)),(9,(pN x6)),(2,(.p (.ptr (B6 p_p)))),(1,(.p (vSl 2 A0 p_w)))], [(7500,(.vec E1 1 x5.n (fun i=>(cI .u64) (x5.g i)) true))]⟩ (ids:=[(7500,7500)]) ?_ (hle:=(klR [(1, .fn p_p.L.n p_p.L.n (Ad2 p_p) (fun i=>B6 (p_p.L.g i)))] (al1 ⟨rfl,M9 p_p⟩ al0)))
     obtain ⟨c49,h⟩:=F3 h
     obtain ⟨y15,e15,h⟩:=A4 h
     refine A2 hS [] (And.intro c49 (by decide:(7:Nat)<=7)) (hrec e15) ?_
     obtain ⟨y16,e16,h⟩:=A4 h
     refine A2 hS [] trivial (Bl7 hS hL e16) ?_
     exact hb3 _ [(7500,113000)] _ y16 (IntKind.wrap .i64 (x6+1)) trivial h
    ·replace h:=itF c48 h
     obtain rfl:=A3 h
     exact B4 hS trivial ⟨[(4,(.vec 7500))], [(7500,(.vec E1 1 x5.n (fun i=>(cI .u64) (x5.g i)) true))]⟩ [7500] (ids:=[(7500,7500)]) ⟨rfl,rfl,rfl⟩
   ·replace h:=itF c43 h
    refine A1 hS trivial (b:=p_p.Kind == 5) (fun c50=>?_) (fun c50=>?_)
    ·replace h:=itT c50 h
     refine J7 hS trivial 117 ⟨[(116,(.p (vSl 7 B6 p_p.L))),(6,(.vec 19000)),(5,(pN (p_w.n:Int))),(2,(.p (.ptr (B6 p_p)))),(1,(.p (vSl 2 A0 p_w)))], [(19000,(.vec E1 1 x1.n (fun i=>(cI .u64) (x1.g i)) false))]⟩ (ids:=[(19000,19000)]) ?_ (hle:=(klR [(0, .fn p_p.L.n p_p.L.n (Ad2 p_p) (fun i=>B6 (p_p.L.g i)))] (al1 ⟨rfl,M9 p_p⟩ al0)))
     obtain ⟨c51,h⟩:=F3 h
     obtain ⟨y17,e17,h⟩:=A4 h
     refine A2 hS [] (And.intro c51 (by decide:(7:Nat)<=7)) (hrec e17) ?_
     obtain ⟨y18,e18,h⟩:=A4 h
     refine A2 hS [] trivial (Bl6 hS hL e18) ?_
     refine BU5 hS trivial h (fun x8 x9 x10=>⟨[(12,(pN x10)),(11,(.vec 12500)),(10,(.vec 121000)),(6,(.vec 7500)),(2,(.p (.ptr (B6 p_p))))], [(121000,(.vec E1 1 y17.n (fun i=>(cI .u64) (y17.g i)) true)),(12500,(.vec E1 1 x9.n (fun i=>(cI .u64) (x9.g i)) true)),(7500,(.vec E1 1 x8.n (fun i=>(cI .u64) (x8.g i)) true))]⟩) (ids:=[(7500,19000),(12500,123000),(121000,121000)]) (fun _ _ _ _ _ self4 x8 x9 x10 hb6 h=>?_)
     refine A1 hS trivial (b:=decide (p_p.Min<=x10)) (fun c68=>?_) (fun c68=>?_)
     ·replace h:=itT c68 h
      obtain ⟨y29,e29,h⟩:=A4 h
      refine A2 hS [] trivial (Bl7 hS hL e29) ?_
      refine AH1 hS trivial (B0 hS) h 0 (fun z3=>⟨[(147,(pB z3)),(12,(pN x10)),(11,(.vec 12500)),(10,(.vec 121000)),(6,(.vec 133000)),(2,(.p (.ptr (B6 p_p))))], [(133000,(.vec E1 1 y29.n (fun i=>(cI .u64) (y29.g i)) true)),(121000,(.vec E1 1 y17.n (fun i=>(cI .u64) (y17.g i)) true)),(12500,(.vec E1 1 x9.n (fun i=>(cI .u64) (x9.g i)) true))]⟩) (fun M3 k3 hb7 h=>?_) (fun z3 h=>?_)
      ·refine A7 hS trivial (b:=x10 == p_p.Max) (fun c73=>?_) (fun c73=>?_)
       ·replace h:=itT c73 h
        exact hb7 _ [(12500,12500),(121000,121000),(133000,133000)] _ true trivial h
       ·replace h:=itF c73 h
        refine A7 hS trivial (b:=decide (p_p.Min < x10)) (fun c74=>?_) (fun c74=>?_)
        ·replace h:=itT c74 h
         obtain ⟨y31,e31,h⟩:=A4 h
         refine A2 hS [] trivial (BO0 hS hL e31) ?_
         exact hb7 _ [(12500,12500),(121000,121000),(133000,133000)] _ y31 trivial h
        ·replace h:=itF c74 h
         exact hb7 _ [(12500,12500),(121000,121000),(133000,133000)] _ false trivial h
      ·refine A1 hS trivial (b:=z3) (fun c75=>?_) (fun c75=>?_)
       ·replace h:=itT c75 h
        obtain rfl:=A3 h
        exact B4 hS trivial ⟨[(4,(.vec 133000))], [(133000,(.vec E1 1 y29.n (fun i=>(cI .u64) (y29.g i)) true))]⟩ [133000] (ids:=[(133000,133000)]) ⟨rfl,rfl,rfl⟩
       ·replace h:=itF c75 h
        obtain ⟨y32,e32,h⟩:=A4 h
        refine A2 hS [] trivial (Ay4 hS hL e32) ?_
        exact hb6 _ [(7500,133000),(12500,152000),(121000,121000)] _ y29 y32 (IntKind.wrap .i64 (x10+1)) trivial h
     ·replace h:=itF c68 h
      obtain ⟨y33,e33,h⟩:=A4 h
      refine A2 hS [] trivial (Ay4 hS hL e33) ?_
      exact hb6 _ [(7500,7500),(12500,152000),(121000,121000)] _ x8 y33 (IntKind.wrap .i64 (x10+1)) trivial h
    ·replace h:=itF c50 h
     obtain rfl:=A3 h
     exact B4 hS trivial ⟨[(4,(.vec 19000))], [(19000,(.vec E1 1 x1.n (fun i=>(cI .u64) (x1.g i)) true))]⟩ [19000] (ids:=[(19000,19000)]) ⟨rfl,rfl,rfl⟩
theorem Ba6 {N:Nat} {p_p:Pat} {p_w:(Sl Sound)} {y:(Sl Int)} (h:Af6 N p_p p_w=some y) :
 FunO S At2 [(.p (.agg (B6 p_p))),(.p (vSl 2 A0 p_w))] [] (.vec 0) ([(.vec E1 1 y.n (fun i=>(cI .u64) (y.g i)) true)]) []:=by
 induction N generalizing p_p p_w y with
 | zero=>cases (show (none:Option (Sl Int))=some y from h)
 | succ N ih=>exact BD3 hS hL (fun e=>ih e) h
def Ah5 (N:Nat) (p_p:Pat) (p_w:(Sl Sound)) (p_end:Int):Option ((Sl Int) × Int):=
 (Ak1 N p_p p_w).bind fun y1=>
 if (y1 != 0)=true then
  some ((Sl.nil:Sl Int),y1)
 else
  if ((decide (p_end < 0)) || (decide ((p_w.n:Int) < p_end)))=true then
   some ((Sl.nil:Sl Int),3)
  else
   (Af6 N p_p p_w).bind fun y2=>
   V9 N (fun self1 (x1:Sl Int) (x2:Int)=>
    if (decide (x2<=(p_w.n:Int)))=true then
     if ((((0:Int)<=x2/\x2 < (y2.n:Int))/\x2.toNat < y2.n)/\(0:Int)<=p_end) then
      if ((C6 .and .u64 (shI .shr .u64 (y2.g x2.toNat) p_end) 1) == 1)=true then
       if ((x1.n+(Sl.of [x2]:Sl Int).n) * 8<=140737488355328/\x1.n+(Sl.of [x2]:Sl Int).n<=140737488355328) then
        self1 (x1.push x2) (IntKind.wrap .i64 (x2+1))
       else none
      else
       self1 x1 (IntKind.wrap .i64 (x2+1))
     else none
    else
     some (x1,0)
    ) (Sl.nil:Sl Int) 0
theorem BD4 {N:Nat} {p_p:Pat} {p_w:(Sl Sound)} {p_end:Int}   {y:((Sl Int) × Int)} (h:Ah5 N p_p p_w p_end=some y) :
 FunO S AQ3 [(.p (.agg (B6 p_p))),(.p (vSl 2 A0 p_w)),(pN p_end)] [] (.tup [(.vec 0),(pN y.2)]) ([(.vec D4 1 y.1.n (fun i=>(cI .i64) (y.1.g i)) true)]) []:=by
 unfold Ah5 at h
 refine A6 hS BB8 ?_
 obtain ⟨y1,e1,h⟩:=A4 h
 refine A2 hS [] trivial (Bl8 hS hL e1) ?_
 refine A1 hS trivial (b:=y1 != 0) (fun c1=>?_) (fun c1=>?_)
 ·replace h:=itT c1 h
  obtain rfl:=A3 h
  exact B4 hS trivial ⟨[(7,(pN y1)),(6,(.vec 7700))], [(7700,(.vec D4 1 (Sl.nil:Sl Int).n (fun i=>(cI .i64) ((Sl.nil:Sl Int).g i)) true))]⟩ [7700] (ids:=[]) ⟨rfl,rfl,rfl⟩
 ·replace h:=itF c1 h
  obtain ⟨t1,ht1⟩:∃ x:Bool,x=((decide (p_end < 0)) || (decide ((p_w.n:Int) < p_end))):=⟨_,rfl⟩
  refine S9 hS trivial (B0 hS) 0 ⟨[(25,(pB t1)),(3,(.reg 4000 0)),(2,(pN p_end)),(1,(.p (vSl 2 A0 p_w)))], [(4000,(.cells ((B6 p_p).map .p)))]⟩ (fun M1 hb1=>?_) ?_
  ·refine A7 hS trivial (b:=decide (p_end < 0)) (fun c3=>?_) (fun c3=>?_)
   ·exact hb1 _ [(4000,4000)] _ trivial (by kernel_rfl) (by kernel_rfl) (klR [(0, .eq (.bb true) (.bb t1))] (al1 (by simp only [ht1,c3,Leaf.ok,pm,if_true,if_false]) al0))
   ·exact hb1 _ [(4000,4000)] _ trivial (by kernel_rfl) (by kernel_rfl) (klR [(0, .eq (.bb (decide ((p_w.n:Int) < p_end))) (.bb t1))] (al1 (by simp only [ht1,c3,Leaf.ok,pm,if_true,if_false]) al0))
  ·subst ht1
   refine A1 hS trivial (b:=((decide (p_end < 0)) || (decide ((p_w.n:Int) < p_end)))) (fun c4=>?_) (fun c4=>?_)
   ·replace h:=itT c4 h
    obtain rfl:=A3 h
    exact B4 hS trivial ⟨[(7,(pN 3)),(6,(.vec 7700))], [(7700,(.vec D4 1 (Sl.nil:Sl Int).n (fun i=>(cI .i64) ((Sl.nil:Sl Int).g i)) true))]⟩ [7700] (ids:=[]) ⟨rfl,rfl,rfl⟩
   ·replace h:=itF c4 h
    obtain ⟨y2,e2,h⟩:=A4 h
    refine A2 hS [] trivial (Ba6 hS hL e2) ?_
    refine H9 hS trivial h (fun x1 x2=>⟨[(11,(pN x2)),(10,(.vec 11500)),(9,(.vec 29000)),(2,(pN p_end)),(1,(.p (vSl 2 A0 p_w)))], [(29000,(.vec E1 1 y2.n (fun i=>(cI .u64) (y2.g i)) true)),(11500,(.vec D4 1 x1.n (fun i=>(cI .i64) (x1.g i)) false))]⟩) (ids:=[(29000,29000)]) (fun _ _ _ _ _ self1 x1 x2 hb2 h=>?_)
    refine A1 hS trivial (b:=decide (x2<=(p_w.n:Int))) (fun c11=>?_) (fun c11=>?_)
    ·replace h:=itT c11 h
     obtain ⟨c12,h⟩:=F3 h
     refine A1 hS c12 (b:=(C6 .and .u64 (shI .shr .u64 (y2.g x2.toNat) p_end) 1) == 1) (fun c13=>?_) (fun c13=>?_)
     ·replace h:=itT c13 h
      obtain ⟨c14,h⟩:=F3 h
      exact hb2 _ [(11500,47000),(29000,29000)] _ (x1.push x2) (IntKind.wrap .i64 (x2+1)) (And.intro (rfl:true=true) c14) h (by kernel_rfl) (by kernel_rfl) (klR [(4, .fn (x1.n+1) (x1.push x2).n (T4 x1.n (fun i=>(cI .i64) (x1.g i)) (D9 [(pI .i64 0)] [(0,(cI .i64) x2)])) (fun i=>(cI .i64) ((x1.push x2).g i)))] (al1 ⟨rfl,(Aw9 (c:=(cI .i64)) (v:=x1) (x:=x2) (z:=[(pI .i64 0)]) same rfl rfl)⟩ al0))
     ·replace h:=itF c13 h
      exact hb2 _ [(11500,11500),(29000,29000)] _ x1 (IntKind.wrap .i64 (x2+1)) trivial h
    ·replace h:=itF c11 h
     obtain rfl:=A3 h
     exact B4 hS trivial ⟨[(7,(pN 0)),(6,(.vec 11500))], [(11500,(.vec D4 1 x1.n (fun i=>(cI .i64) (x1.g i)) true))]⟩ [11500] (ids:=[(11500,11500)]) ⟨rfl,rfl,rfl⟩
def Ar0 (N:Nat) (p_p:Pat) (p_w:(Sl Sound)) (p_at:Int):Option ((Sl Int) × Int):=
 (Ak1 N p_p p_w).bind fun y1=>
 if (y1 != 0)=true then
  some ((Sl.nil:Sl Int),y1)
 else
  if ((decide (p_at < 0)) || (decide ((p_w.n:Int) < p_at)))=true then
   some ((Sl.nil:Sl Int),3)
  else
   (Af6 N p_p p_w).bind fun y2=>
   V9 N (fun self1 (x1:Sl Int) (x2:Int)=>
    if (decide (x2<=(p_w.n:Int)))=true then
     if ((((0:Int)<=p_at/\p_at < (y2.n:Int))/\p_at.toNat < y2.n)/\(0:Int)<=x2) then
      if ((C6 .and .u64 (shI .shr .u64 (y2.g p_at.toNat) x2) 1) == 1)=true then
       if ((x1.n+(Sl.of [x2]:Sl Int).n) * 8<=140737488355328/\x1.n+(Sl.of [x2]:Sl Int).n<=140737488355328) then
        self1 (x1.push x2) (IntKind.wrap .i64 (x2+1))
       else none
      else
       self1 x1 (IntKind.wrap .i64 (x2+1))
     else none
    else
     some (x1,0)
    ) (Sl.nil:Sl Int) 0
theorem Cd5 {N:Nat} {p_p:Pat} {p_w:(Sl Sound)} {p_at:Int}   {y:((Sl Int) × Int)} (h:Ar0 N p_p p_w p_at=some y) :
 FunO S Bl0 [(.p (.agg (B6 p_p))),(.p (vSl 2 A0 p_w)),(pN p_at)] [] (.tup [(.vec 0),(pN y.2)]) ([(.vec D4 1 y.1.n (fun i=>(cI .i64) (y.1.g i)) true)]) []:=by
 unfold Ar0 at h
 refine A6 hS Cc2 ?_
 obtain ⟨y1,e1,h⟩:=A4 h
 refine A2 hS [] trivial (Bl8 hS hL e1) ?_
 refine A1 hS trivial (b:=y1 != 0) (fun c1=>?_) (fun c1=>?_)
 ·replace h:=itT c1 h
  obtain rfl:=A3 h
  exact B4 hS trivial ⟨[(7,(pN y1)),(6,(.vec 7700))], [(7700,(.vec D4 1 (Sl.nil:Sl Int).n (fun i=>(cI .i64) ((Sl.nil:Sl Int).g i)) true))]⟩ [7700] (ids:=[]) ⟨rfl,rfl,rfl⟩
 ·replace h:=itF c1 h
  obtain ⟨t1,ht1⟩:∃ x:Bool,x=((decide (p_at < 0)) || (decide ((p_w.n:Int) < p_at))):=⟨_,rfl⟩
  refine S9 hS trivial (B0 hS) 0 ⟨[(25,(pB t1)),(3,(.reg 4000 0)),(2,(pN p_at)),(1,(.p (vSl 2 A0 p_w)))], [(4000,(.cells ((B6 p_p).map .p)))]⟩ (fun M1 hb1=>?_) ?_
  ·refine A7 hS trivial (b:=decide (p_at < 0)) (fun c3=>?_) (fun c3=>?_)
   ·exact hb1 _ [(4000,4000)] _ trivial (by kernel_rfl) (by kernel_rfl) (klR [(0, .eq (.bb true) (.bb t1))] (al1 (by simp only [ht1,c3,Leaf.ok,pm,if_true,if_false]) al0))
   ·exact hb1 _ [(4000,4000)] _ trivial (by kernel_rfl) (by kernel_rfl) (klR [(0, .eq (.bb (decide ((p_w.n:Int) < p_at))) (.bb t1))] (al1 (by simp only [ht1,c3,Leaf.ok,pm,if_true,if_false]) al0))
  ·subst ht1
   refine A1 hS trivial (b:=((decide (p_at < 0)) || (decide ((p_w.n:Int) < p_at)))) (fun c4=>?_) (fun c4=>?_)
   ·replace h:=itT c4 h
    obtain rfl:=A3 h
    exact B4 hS trivial ⟨[(7,(pN 3)),(6,(.vec 7700))], [(7700,(.vec D4 1 (Sl.nil:Sl Int).n (fun i=>(cI .i64) ((Sl.nil:Sl Int).g i)) true))]⟩ [7700] (ids:=[]) ⟨rfl,rfl,rfl⟩
   ·replace h:=itF c4 h
    obtain ⟨y2,e2,h⟩:=A4 h
    refine A2 hS [] trivial (Ba6 hS hL e2) ?_
    refine H9 hS trivial h (fun x1 x2=>⟨[(11,(pN x2)),(10,(.vec 11500)),(9,(.vec 29000)),(2,(pN p_at)),(1,(.p (vSl 2 A0 p_w)))], [(29000,(.vec E1 1 y2.n (fun i=>(cI .u64) (y2.g i)) true)),(11500,(.vec D4 1 x1.n (fun i=>(cI .i64) (x1.g i)) false))]⟩) (ids:=[(29000,29000)]) (fun _ _ _ _ _ self1 x1 x2 hb2 h=>?_)
    refine A1 hS trivial (b:=decide (x2<=(p_w.n:Int))) (fun c11=>?_) (fun c11=>?_)
    ·replace h:=itT c11 h
     obtain ⟨c12,h⟩:=F3 h
     refine A1 hS c12 (b:=(C6 .and .u64 (shI .shr .u64 (y2.g p_at.toNat) x2) 1) == 1) (fun c13=>?_) (fun c13=>?_)
     ·replace h:=itT c13 h
      obtain ⟨c14,h⟩:=F3 h
      exact hb2 _ [(11500,47000),(29000,29000)] _ (x1.push x2) (IntKind.wrap .i64 (x2+1)) (And.intro (rfl:true=true) c14) h (by kernel_rfl) (by kernel_rfl) (klR [(4, .fn (x1.n+1) (x1.push x2).n (T4 x1.n (fun i=>(cI .i64) (x1.g i)) (D9 [(pI .i64 0)] [(0,(cI .i64) x2)])) (fun i=>(cI .i64) ((x1.push x2).g i)))] (al1 ⟨rfl,(Aw9 (c:=(cI .i64)) (v:=x1) (x:=x2) (z:=[(pI .i64 0)]) same rfl rfl)⟩ al0))
     ·replace h:=itF c13 h
      exact hb2 _ [(11500,11500),(29000,29000)] _ x1 (IntKind.wrap .i64 (x2+1)) trivial h
    ·replace h:=itF c11 h
     obtain rfl:=A3 h
     exact B4 hS trivial ⟨[(7,(pN 0)),(6,(.vec 11500))], [(11500,(.vec D4 1 x1.n (fun i=>(cI .i64) (x1.g i)) true))]⟩ [11500] (ids:=[(11500,11500)]) ⟨rfl,rfl,rfl⟩
def Z4 (N:Nat) (p_l:Law) (p_w:(Sl Sound)) (p_i:Int):Option Bool:=
 if ((decide (p_i < 0)) || (decide ((p_w.n:Int) < (IntKind.wrap .i64 (p_i+(p_l.If.n:Int))))))=true then
  some false
 else
  Ae3 N (fun self1 (x1:Int)=>
   if (decide (x1 < (p_l.If.n:Int)))=true then
    if (((0:Int)<=(IntKind.wrap .i64 (p_i+x1))/\(IntKind.wrap .i64 (p_i+x1)) < (p_w.n:Int))/\((0:Int)<=x1/\x1 < (p_l.If.n:Int))) then
     (N8 N (p_w.g (IntKind.wrap .i64 (p_i+x1)).toNat) (p_l.If.g x1.toNat)).bind fun y3=>
     if (!y3)=true then
      some false
     else
      self1 (IntKind.wrap .i64 (x1+1))
    else none
   else
    (Ah5 N p_l.Left p_w p_i).bind fun y4=>
    (Ar0 N p_l.Right p_w (IntKind.wrap .i64 (p_i+(p_l.If.n:Int)))).bind fun y5=>
    some ((decide (0 < (y4.1.n:Int))) && (decide (0 < (y5.1.n:Int))))
   ) 0
theorem Ba7 {N:Nat} {p_l:Law} {p_w:(Sl Sound)} {p_i:Int}   {y:Bool} (h:Z4 N p_l p_w p_i=some y) :
 FunO S BB3 [(.p (.agg (A8 p_l))),(.p (vSl 2 A0 p_w)),(pN p_i)] [] (pB y) ([]) []:=by
 unfold Z4 at h
 refine A6 hS Cm9 ?_
 refine R7 hS trivial 6 4000 (A8 p_l) ?_
 obtain ⟨t1,ht1⟩:∃ x:Bool,x=((decide (p_i < 0)) || (decide ((p_w.n:Int) < (IntKind.wrap .i64 (p_i+(p_l.If.n:Int)))))):=⟨_,rfl⟩
 refine S9 hS trivial (B0 hS) 0 ⟨[(25,(pB t1)),(7,(pN (p_l.If.n:Int))),(3,(.p (.ptr (A8 p_l)))),(2,(pN p_i)),(1,(.p (vSl 2 A0 p_w)))], []⟩ (fun M1 hb1=>?_) ?_
 ·refine A7 hS trivial (b:=decide (p_i < 0)) (fun c2=>?_) (fun c2=>?_)
  ·exact hb1 _ [] _ trivial (by kernel_rfl) (by kernel_rfl) (klR [(0, .eq (.bb true) (.bb t1))] (al1 (by simp only [ht1,c2,Leaf.ok,pm,if_true,if_false]) al0))
  ·exact hb1 _ [] _ trivial (by kernel_rfl) (by kernel_rfl) (klR [(0, .eq (.bb (decide ((p_w.n:Int) < (IntKind.wrap .i64 (p_i+(p_l.If.n:Int)))))) (.bb t1))] (al1 (by simp only [ht1,c2,Leaf.ok,pm,if_true,if_false]) al0))
 ·subst ht1
  refine A1 hS trivial (b:=((decide (p_i < 0)) || (decide ((p_w.n:Int) < (IntKind.wrap .i64 (p_i+(p_l.If.n:Int))))))) (fun c3=>?_) (fun c3=>?_)
  ·replace h:=itT c3 h
   obtain rfl:=A3 h
   exact B1 hS trivial [] ⟨rfl,rfl,rfl⟩
  ·replace h:=itF c3 h
   refine U1 hS trivial h (fun x1=>⟨[(8,(pN x1)),(7,(pN (p_l.If.n:Int))),(3,(.p (.ptr (A8 p_l)))),(2,(pN p_i)),(1,(.p (vSl 2 A0 p_w)))], []⟩) (ids:=[]) (fun _ _ _ _ _ self1 x1 hb2 h=>?_)
   refine A1 hS trivial (b:=decide (x1 < (p_l.If.n:Int))) (fun c10=>?_) (fun c10=>?_)
   ·replace h:=itT c10 h
    refine F0 hS trivial [4,5,7,9,10,11] ?_
    obtain ⟨c11,h⟩:=F3 h
    obtain ⟨y3,e3,h⟩:=A4 h
    refine U2 (And.intro (And.intro (And.intro c11.1 (by decide:(2:Nat)<=2)) c11.2) (by decide:(2:Nat)<=2)) (Ba2 hS hL e3) ?_
    refine M0 trivial ?_
    refine A1 hS trivial (b:=!y3) (fun c12=>?_) (fun c12=>?_)
    ·replace h:=itT c12 h
     obtain rfl:=A3 h
     exact B1 hS trivial [] ⟨rfl,rfl,rfl⟩
    ·replace h:=itF c12 h
     exact hb2 _ [] _ (IntKind.wrap .i64 (x1+1)) trivial h
   ·replace h:=itF c10 h
    obtain ⟨y4,e4,h⟩:=A4 h
    refine A2 hS [] (by decide:(7:Nat)<=17) (BD4 hS hL e4) ?_
    obtain ⟨y5,e5,h⟩:=A4 h
    refine A2 hS [] (by decide:(7:Nat)<=10) (Cd5 hS hL e5) ?_
    obtain ⟨t2,ht2⟩:∃ x:Bool,x=((decide (0 < (y4.1.n:Int))) && (decide (0 < (y5.1.n:Int)))):=⟨_,rfl⟩
    refine S9 hS trivial (B0 hS) 0 ⟨[(6,(pB t2))], []⟩ (fun M2 hb3=>?_) ?_
    ·refine A7 hS trivial (b:=decide (0 < (y4.1.n:Int))) (fun c14=>?_) (fun c14=>?_)
     ·exact hb3 _ [] _ trivial (by kernel_rfl) (by kernel_rfl) (klR [(0, .eq (.bb (decide (0 < (y5.1.n:Int)))) (.bb t2))] (al1 (by simp only [ht2,c14,Leaf.ok,pm,if_true,if_false]) al0))
     ·exact hb3 _ [] _ trivial (by kernel_rfl) (by kernel_rfl) (klR [(0, .eq (.bb false) (.bb t2))] (al1 (by simp only [ht2,c14,Leaf.ok,pm,if_true,if_false]) al0))
    ·subst ht2
     obtain rfl:=A3 h
     exact B1 hS trivial [] ⟨rfl,rfl,rfl⟩
def Ad5 (N:Nat) (p_l:Law) (p_cut:(Sl Sound)):Option (Sl Sound):=
 V9 N (fun self1 (x1:Sl Sound) (x2:Int)=>
  if (decide (x2 < (p_l.Out.n:Int)))=true then
   if ((0:Int)<=x2/\x2 < (p_l.Out.n:Int)) then
    if ((decide (0<=(p_l.Out.g x2.toNat).From))=true->((0:Int)<=(p_l.Out.g x2.toNat).From/\(p_l.Out.g x2.toNat).From < (p_cut.n:Int))) then
     (O8 N (⟨(if (decide (0<=(p_l.Out.g x2.toNat).From))=true then (p_cut.g (p_l.Out.g x2.toNat).From.toNat).Plus else 0),(if (decide (0<=(p_l.Out.g x2.toNat).From))=true then (p_cut.g (p_l.Out.g x2.toNat).From.toNat).Minus else 0)⟩:Sound) (p_l.Out.g x2.toNat).Clear (p_l.Out.g x2.toNat).Set).bind fun y5=>
     if ((p_l.Out.g x2.toNat).Take != 0)=true then
      if ((0:Int)<=(p_l.Out.g x2.toNat).Of/\(p_l.Out.g x2.toNat).Of < (p_cut.n:Int)) then
       (W4 N y5.1 (p_cut.g (p_l.Out.g x2.toNat).Of.toNat) (p_l.Out.g x2.toNat).Take).bind fun y6=>
       if ((x1.n+(Sl.of [y6.1]:Sl Sound).n) * 8<=140737488355328/\x1.n+(Sl.of [y6.1]:Sl Sound).n<=140737488355328) then
        self1 (x1.push y6.1) (IntKind.wrap .i64 (x2+1))
       else none
      else none
     else
      if ((x1.n+(Sl.of [y5.1]:Sl Sound).n) * 8<=140737488355328/\x1.n+(Sl.of [y5.1]:Sl Sound).n<=140737488355328) then
       self1 (x1.push y5.1) (IntKind.wrap .i64 (x2+1))
      else none
    else none
   else none
  else
   some x1
  ) (Sl.nil:Sl Sound) 0
theorem BD5 {N:Nat} {p_l:Law} {p_cut:(Sl Sound)}   {y:(Sl Sound)} (h:Ad5 N p_l p_cut=some y) :
 FunO S BB4 [(.p (.agg (A8 p_l))),(.p (vSl 2 A0 p_cut))] [] (.vec 0) ([(.vec B2 2 y.n (fun i=>A0 (y.g i)) true)]) []:=by
 unfold Ad5 at h
 refine A6 hS Cn0 ?_
 refine R7 hS trivial 4 3000 (A8 p_l) ?_
 refine H9 hS trivial h (fun x1 x2=>⟨[(6,(pN x2)),(5,(.vec 6500)),(2,(.p (.ptr (A8 p_l)))),(1,(.p (vSl 2 A0 p_cut)))], [(6500,(.vec B2 2 x1.n (fun i=>A0 (x1.g i)) false))]⟩) (ids:=[]) (fun _ _ _ _ _ self1 x1 x2 hb3 h=>?_)
 refine A1 hS trivial (b:=decide (x2 < (p_l.Out.n:Int))) (fun c15=>?_) (fun c15=>?_)
 ·replace h:=itT c15 h
  obtain ⟨c16,h⟩:=F3 h
  refine R7 hS (And.intro c16 (by decide:(6:Nat)<=6)) 21 8000 (Q6 (p_l.Out.g x2.toNat)) ?_
  obtain ⟨c18,h⟩:=F3 h
  obtain ⟨t5,ht5⟩:∃ x:Int,x=(if (decide (0<=(p_l.Out.g x2.toNat).From))=true then (p_cut.g (p_l.Out.g x2.toNat).From.toNat).Plus else 0):=⟨_,rfl⟩
  obtain ⟨t6,ht6⟩:∃ x:Int,x=(if (decide (0<=(p_l.Out.g x2.toNat).From))=true then (p_cut.g (p_l.Out.g x2.toNat).From.toNat).Minus else 0):=⟨_,rfl⟩
  refine S9 hS trivial (B0 hS) 0 ⟨[(8,(.reg 9000 0)),(7,(.p (.ptr (Q6 (p_l.Out.g x2.toNat))))),(6,(pN x2)),(5,(.vec 6500)),(2,(.p (.ptr (A8 p_l)))),(1,(.p (vSl 2 A0 p_cut)))], [(9000,(.cells [(pU t5),(pU t6)])),(6500,(.vec B2 2 x1.n (fun i=>A0 (x1.g i)) false))]⟩ (fun M3 hb4=>?_) ?_
  ·refine A1 hS trivial (b:=decide (0<=(p_l.Out.g x2.toNat).From)) (fun c19=>?_) (fun c19=>?_)
   ·exact hb4 _ [(6500,6500),(9000,9000)] _ (And.intro (c18 c19) (by decide:(2:Nat)<=2)) (by kernel_rfl) (by kernel_rfl) (klR [(4, .eq (pI .u32 (p_cut.g (p_l.Out.g x2.toNat).From.toNat).Plus) (pI .u32 t5)),(5, .eq (pI .u32 (p_cut.g (p_l.Out.g x2.toNat).From.toNat).Minus) (pI .u32 t6))] (al1 (by simp only [ht5,ht6,c19,Leaf.ok,pm,if_true,if_false]) (al1 (by simp only [ht5,ht6,c19,Leaf.ok,pm,if_true,if_false]) al0)))
   ·exact hb4 _ [(6500,6500),(9000,9000)] _ trivial (by kernel_rfl) (by kernel_rfl) (klR [(4, .eq (pI .u32 0) (pI .u32 t5)),(5, .eq (pI .u32 0) (pI .u32 t6))] (al1 (by simp only [ht5,ht6,c19,Leaf.ok,pm,if_true,if_false]) (al1 (by simp only [ht5,ht6,c19,Leaf.ok,pm,if_true,if_false]) al0)))
  ·subst ht6
   subst ht5
   obtain ⟨y5,e5,h⟩:=A4 h
   refine A2 hS [] (by decide:(2:Nat)<=4) (BC9 hS hL e5) ?_
   refine A1 hS trivial (b:=(p_l.Out.g x2.toNat).Take != 0) (fun c20=>?_) (fun c20=>?_)
   ·replace h:=itT c20 h
    refine F0 hS trivial [3,4,5,7,8] ?_
    obtain ⟨c21,h⟩:=F3 h
    obtain ⟨y6,e6,h⟩:=A4 h
    refine U2 (And.intro c21 (by decide:(2:Nat)<=2)) (Cc8 hS hL e6) ?_
    refine M0 trivial ?_
    obtain ⟨c22,h⟩:=F3 h
    exact hb3 _ [(6500,58000)] _ (x1.push y6.1) (IntKind.wrap .i64 (x2+1)) (And.intro (rfl:true=true) c22) h (by kernel_rfl) (by kernel_rfl) (klR [(3, .fn (x1.n+1) (x1.push y6.1).n (T4 x1.n (fun i=>A0 (x1.g i)) (D9 [(pI .u32 0),(pI .u32 0)] [(0,A0 y6.1)])) (fun i=>A0 ((x1.push y6.1).g i)))] (al1 ⟨rfl,(Aw9 (c:=A0) (v:=x1) (x:=y6.1) (z:=[(pI .u32 0),(pI .u32 0)]) same rfl rfl)⟩ al0))
   ·replace h:=itF c20 h
    obtain ⟨c23,h⟩:=F3 h
    exact hb3 _ [(6500,58000)] _ (x1.push y5.1) (IntKind.wrap .i64 (x2+1)) (And.intro (rfl:true=true) c23) h (by kernel_rfl) (by kernel_rfl) (klR [(3, .fn (x1.n+1) (x1.push y5.1).n (T4 x1.n (fun i=>A0 (x1.g i)) (D9 [(pI .u32 0),(pI .u32 0)] [(0,A0 y5.1)])) (fun i=>A0 ((x1.push y5.1).g i)))] (al1 ⟨rfl,(Aw9 (c:=A0) (v:=x1) (x:=y5.1) (z:=[(pI .u32 0),(pI .u32 0)]) same rfl rfl)⟩ al0))
 ·replace h:=itF c15 h
  obtain rfl:=A3 h
  exact B4 hS trivial ⟨[(4,(.vec 6500))], [(6500,(.vec B2 2 x1.n (fun i=>A0 (x1.g i)) true))]⟩ [6500] (ids:=[(6500,6500)]) ⟨rfl,rfl,rfl⟩
def O9 (N:Nat) (p_l:Law) (p_w:(Sl Sound)) (p_i:Int):Option (Sl Sound):=
 if (((0:Int)<=p_i/\p_i<=(p_w.n:Int))/\(((Sl.of []:Sl Sound).n+(p_w.take p_i.toNat).n) * 8<=140737488355328/\(Sl.of []:Sl Sound).n+(p_w.take p_i.toNat).n<=140737488355328)) then
  if ((0:Int)<=p_i/\p_i<=(IntKind.wrap .i64 (p_i+(p_l.If.n:Int)))/\(IntKind.wrap .i64 (p_i+(p_l.If.n:Int)))<=(p_w.n:Int)) then
   (Ad5 N p_l (p_w.sub p_i.toNat (IntKind.wrap .i64 (p_i+(p_l.If.n:Int))).toNat)).bind fun y1=>
   if ((((Sl.of []:Sl Sound).app (p_w.take p_i.toNat)).n+y1.n) * 8<=140737488355328/\((Sl.of []:Sl Sound).app (p_w.take p_i.toNat)).n+y1.n<=140737488355328) then
    if (((0:Int)<=(IntKind.wrap .i64 (p_i+(p_l.If.n:Int)))/\(IntKind.wrap .i64 (p_i+(p_l.If.n:Int)))<=(p_w.n:Int))/\(((((Sl.of []:Sl Sound).app (p_w.take p_i.toNat)).app y1).n+(p_w.drop (IntKind.wrap .i64 (p_i+(p_l.If.n:Int))).toNat).n) * 8<=140737488355328/\(((Sl.of []:Sl Sound).app (p_w.take p_i.toNat)).app y1).n+(p_w.drop (IntKind.wrap .i64 (p_i+(p_l.If.n:Int))).toNat).n<=140737488355328)) then
     some ((((Sl.of []:Sl Sound).app (p_w.take p_i.toNat)).app y1).app (p_w.drop (IntKind.wrap .i64 (p_i+(p_l.If.n:Int))).toNat))
    else none
   else none
  else none
 else none
theorem AJ0 {N:Nat} {p_l:Law} {p_w:(Sl Sound)} {p_i:Int}   {y:(Sl Sound)} (h:O9 N p_l p_w p_i=some y) :
 FunO S AI0 [(.p (.agg (A8 p_l))),(.p (vSl 2 A0 p_w)),(pN p_i)] [] (.vec 0) ([(.vec B2 2 y.n (fun i=>A0 (y.g i)) true)]) []:=by
 unfold O9 at h
 refine A6 hS Bq8 ?_
 refine R7 hS trivial 6 4000 (A8 p_l) ?_
 obtain ⟨c1,h⟩:=F3 h
 refine F0 hS (And.intro (And.intro (rfl:true=true) c1.1) c1.2) [1] ?_
 obtain ⟨c2,h⟩:=F3 h
 obtain ⟨y1,e1,h⟩:=A4 h
 refine Bj4 [] (And.intro (by decide:(18:Nat)<=18) c2) (BD5 hS hL e1) ?_
 obtain ⟨c3,h⟩:=F3 h
 refine M0 c3 ?_
 obtain ⟨c4,h⟩:=F3 h
 obtain rfl:=A3 h
 exact B4 hS c4 ⟨[(6,(.vec 34000))], [(34000,(.vec B2 2 ((((Sl.of []:Sl Sound).app (p_w.take p_i.toNat)).app y1).app (p_w.drop (IntKind.wrap .i64 (p_i+(p_l.If.n:Int))).toNat)).n (fun i=>A0 (((((Sl.of []:Sl Sound).app (p_w.take p_i.toNat)).app y1).app (p_w.drop (IntKind.wrap .i64 (p_i+(p_l.If.n:Int))).toNat)).g i)) true))]⟩ [34000] (ids:=[(34000,34000)]) ⟨rfl,rfl,rfl⟩ (hle:=(klR [(0, .fn (((0+(p_w.take p_i.toNat).n)+y1.n)+(p_w.drop (IntKind.wrap .i64 (p_i+(p_l.If.n:Int))).toNat).n) ((((Sl.of []:Sl Sound).app (p_w.take p_i.toNat)).app y1).app (p_w.drop (IntKind.wrap .i64 (p_i+(p_l.If.n:Int))).toNat)).n (T4 ((0+(p_w.take p_i.toNat).n)+y1.n) (T4 (0+(p_w.take p_i.toNat).n) (T4 0 (D9 [(pI .u32 0),(pI .u32 0)] []) (fun i=>A0 ((p_w.take p_i.toNat).g i))) (fun i=>A0 (y1.g i))) (fun i=>A0 ((p_w.drop (IntKind.wrap .i64 (p_i+(p_l.If.n:Int))).toNat).g i))) (fun i=>A0 (((((Sl.of []:Sl Sound).app (p_w.take p_i.toNat)).app y1).app (p_w.drop (IntKind.wrap .i64 (p_i+(p_l.If.n:Int))).toNat)).g i)))] (al1 ⟨rfl,(Ca2 (c:=A0) (v:=(((Sl.of []:Sl Sound).app (p_w.take p_i.toNat)).app y1)) (w:=(p_w.drop (IntKind.wrap .i64 (p_i+(p_l.If.n:Int))).toNat)) (Ca2 (c:=A0) (v:=((Sl.of []:Sl Sound).app (p_w.take p_i.toNat))) (w:=y1) (Ca2 (c:=A0) (v:=(Sl.of []:Sl Sound)) (w:=(p_w.take p_i.toNat)) (fun i hi=>absurd hi (by omega)) rfl same rfl) rfl same rfl) rfl same rfl)⟩ al0)))
def Ay5 (N:Nat) (p_l:Law) (p_w:(Sl Sound)):Option ((Sl Int) × (Sl (Sl Sound)) × Int):=
 Cs2 N (fun self1 (x2:Sl Int) (x3:Sl (Sl Sound)) (x4:Sl Sound) (x5:Int)=>
  if (decide (x5<=(p_w.n:Int)))=true then
   (Z4 N p_l p_w x5).bind fun y5=>
   if (!y5)=true then
    lt (fun (z3:Sl Sound)=>
     self1 x2 x3 z3 (IntKind.wrap .i64 (x5+1))
     ) fun k3=>
     if (decide (x5 < (p_w.n:Int)))=true then
      if (((0:Int)<=x5/\x5 < (p_w.n:Int))/\((x4.n+(Sl.of [(p_w.g x5.toNat)]:Sl Sound).n) * 8<=140737488355328/\x4.n+(Sl.of [(p_w.g x5.toNat)]:Sl Sound).n<=140737488355328)) then
       k3 (x4.push (p_w.g x5.toNat))
      else none
     else
      k3 x4
   else
    if ((0:Int)<=x5/\x5<=(IntKind.wrap .i64 (x5+(p_l.If.n:Int)))/\(IntKind.wrap .i64 (x5+(p_l.If.n:Int)))<=(p_w.n:Int)) then
     (Ad5 N p_l (p_w.sub x5.toNat (IntKind.wrap .i64 (x5+(p_l.If.n:Int))).toNat)).bind fun y6=>
     if ((x4.n+y6.n) * 8<=140737488355328/\x4.n+y6.n<=140737488355328) then
      if ((x2.n+(Sl.of [x5]:Sl Int).n) * 8<=140737488355328/\x2.n+(Sl.of [x5]:Sl Int).n<=140737488355328) then
       if (((((Sl.of []:Sl Sound).n+(x4.app y6).n) * 8<=140737488355328/\(Sl.of []:Sl Sound).n+(x4.app y6).n<=140737488355328)/\((0:Int)<=(IntKind.wrap .i64 (x5+(p_l.If.n:Int)))/\(IntKind.wrap .i64 (x5+(p_l.If.n:Int)))<=(p_w.n:Int)))/\((((Sl.of []:Sl Sound).app (x4.app y6)).n+(p_w.drop (IntKind.wrap .i64 (x5+(p_l.If.n:Int))).toNat).n) * 8<=140737488355328/\((Sl.of []:Sl Sound).app (x4.app y6)).n+(p_w.drop (IntKind.wrap .i64 (x5+(p_l.If.n:Int))).toNat).n<=140737488355328)) then
        if (decide (32 < ((((Sl.of []:Sl Sound).app (x4.app y6)).app (p_w.drop (IntKind.wrap .i64 (x5+(p_l.If.n:Int))).toNat)).n:Int)))=true then
         some ((Sl.nil:Sl Int),(Sl.nil:Sl (Sl Sound)),11)
        else
         if ((x3.n+(Sl.of [(((Sl.of []:Sl Sound).app (x4.app y6)).app (p_w.drop (IntKind.wrap .i64 (x5+(p_l.If.n:Int))).toNat))]:Sl (Sl Sound)).n) * 24<=140737488355328/\x3.n+(Sl.of [(((Sl.of []:Sl Sound).app (x4.app y6)).app (p_w.drop (IntKind.wrap .i64 (x5+(p_l.If.n:Int))).toNat))]:Sl (Sl Sound)).n<=140737488355328) then
          if ((p_l.If.n:Int) == 0)=true then
           if (decide ((IntKind.wrap .i64 (x5+(p_l.If.n:Int))) < (p_w.n:Int)))=true then
            if (((0:Int)<=(IntKind.wrap .i64 (x5+(p_l.If.n:Int)))/\(IntKind.wrap .i64 (x5+(p_l.If.n:Int))) < (p_w.n:Int))/\(((x4.app y6).n+(Sl.of [(p_w.g (IntKind.wrap .i64 (x5+(p_l.If.n:Int))).toNat)]:Sl Sound).n) * 8<=140737488355328/\(x4.app y6).n+(Sl.of [(p_w.g (IntKind.wrap .i64 (x5+(p_l.If.n:Int))).toNat)]:Sl Sound).n<=140737488355328)) then
             self1 (x2.push x5) (x3.push (((Sl.of []:Sl Sound).app (x4.app y6)).app (p_w.drop (IntKind.wrap .i64 (x5+(p_l.If.n:Int))).toNat))) ((x4.app y6).push (p_w.g (IntKind.wrap .i64 (x5+(p_l.If.n:Int))).toNat)) (IntKind.wrap .i64 ((IntKind.wrap .i64 (x5+(p_l.If.n:Int)))+1))
            else none
           else
            self1 (x2.push x5) (x3.push (((Sl.of []:Sl Sound).app (x4.app y6)).app (p_w.drop (IntKind.wrap .i64 (x5+(p_l.If.n:Int))).toNat))) (x4.app y6) (IntKind.wrap .i64 ((IntKind.wrap .i64 (x5+(p_l.If.n:Int)))+1))
          else
           self1 (x2.push x5) (x3.push (((Sl.of []:Sl Sound).app (x4.app y6)).app (p_w.drop (IntKind.wrap .i64 (x5+(p_l.If.n:Int))).toNat))) (x4.app y6) (IntKind.wrap .i64 (x5+(p_l.If.n:Int)))
         else none
       else none
      else none
     else none
    else none
  else
   some (x2,x3,0)
  ) (Sl.nil:Sl Int) (Sl.nil:Sl (Sl Sound)) (Sl.nil:Sl Sound) 0
theorem Cn5 {N:Nat} {p_l:Law} {p_w:(Sl Sound)}   {y:((Sl Int) × (Sl (Sl Sound)) × Int)} (h:Ay5 N p_l p_w=some y) :
 FunO S BB0 [(.p (.agg (A8 p_l))),(.p (vSl 2 A0 p_w))] [] (.tup [(.vec 0),(.vec 1),(pN y.2.2)]) ([(.vec D4 1 y.1.n (fun i=>(cI .i64) (y.1.g i)) true),(.vec A9 1 y.2.1.n (fun i=>(cL 2 A0) (y.2.1.g i)) true)]) []:=by
 unfold Ay5 at h
 refine A6 hS Cm6 ?_
 refine R7 hS trivial 4 3000 (A8 p_l) ?_
 refine Cl0 hS trivial h (fun x2 x3 x4 x5=>⟨[(10,(pN x5)),(9,(.vec 10501)),(8,(.vec 9500)),(7,(.vec 8500)),(2,(.p (.ptr (A8 p_l)))),(1,(.p (vSl 2 A0 p_w)))], [(10501,(.vec B2 2 x4.n (fun i=>A0 (x4.g i)) false)),(9500,(.vec A9 1 x3.n (fun i=>(cL 2 A0) (x3.g i)) false)),(8500,(.vec D4 1 x2.n (fun i=>(cI .i64) (x2.g i)) false))]⟩) (ids:=[]) (fun _ _ _ _ _ self1 x2 x3 x4 x5 hb5 h=>?_)
 refine A1 hS trivial (b:=decide (x5<=(p_w.n:Int))) (fun c33=>?_) (fun c33=>?_)
 ·replace h:=itT c33 h
  obtain ⟨y5,e5,h⟩:=A4 h
  refine A2 hS [] (by decide:(18:Nat)<=18) (Ba7 hS hL e5) ?_
  refine A1 hS trivial (b:=!y5) (fun c34=>?_) (fun c34=>?_)
  ·replace h:=itT c34 h
   refine AH1 hS trivial (B0 hS) h 0 (fun z3=>⟨[(10,(pN x5)),(9,(.vec 10500)),(8,(.vec 9500)),(7,(.vec 8500)),(2,(.p (.ptr (A8 p_l)))),(1,(.p (vSl 2 A0 p_w)))], [(10500,(.vec B2 2 z3.n (fun i=>A0 (z3.g i)) false)),(9500,(.vec A9 1 x3.n (fun i=>(cL 2 A0) (x3.g i)) false)),(8500,(.vec D4 1 x2.n (fun i=>(cI .i64) (x2.g i)) false))]⟩) (fun M6 k3 hb7 h=>?_) (fun z3 h=>?_)
   ·refine A1 hS trivial (b:=decide (x5 < (p_w.n:Int))) (fun c39=>?_) (fun c39=>?_)
    ·replace h:=itT c39 h
     obtain ⟨c40,h⟩:=F3 h
     exact hb7 _ [(8500,8500),(9500,9500),(10500,33000)] _ (x4.push (p_w.g x5.toNat)) (And.intro (And.intro (And.intro c40.1 (by decide:(2:Nat)<=2)) (rfl:true=true)) c40.2) h (by kernel_rfl) (by kernel_rfl) (klR [(3, .fn (x4.n+1) (x4.push (p_w.g x5.toNat)).n (T4 x4.n (fun i=>A0 (x4.g i)) (D9 [(pI .u32 0),(pI .u32 0)] [(0,A0 (p_w.g x5.toNat))])) (fun i=>A0 ((x4.push (p_w.g x5.toNat)).g i)))] (al1 ⟨rfl,(Aw9 (c:=A0) (v:=x4) (x:=(p_w.g x5.toNat)) (z:=[(pI .u32 0),(pI .u32 0)]) same rfl rfl)⟩ al0))
    ·replace h:=itF c39 h
     exact hb7 _ [(8500,8500),(9500,9500),(10500,10501)] _ x4 trivial h
   ·exact hb5 _ [(8500,8500),(9500,9500),(10501,10500)] _ x2 x3 z3 (IntKind.wrap .i64 (x5+1)) trivial h
  ·replace h:=itF c34 h
   refine F0 hS trivial [1] ?_
   obtain ⟨c41,h⟩:=F3 h
   obtain ⟨y6,e6,h⟩:=A4 h
   refine Bj4 [] (And.intro (by decide:(18:Nat)<=18) c41) (BD5 hS hL e6) ?_
   obtain ⟨c42,h⟩:=F3 h
   refine M0 c42 ?_
   obtain ⟨c43,h⟩:=F3 h
   refine F0 hS (And.intro (rfl:true=true) c43) [1000] ?_
   obtain ⟨c44,h⟩:=F3 h
   refine M0 (And.intro (And.intro (And.intro (rfl:true=true) c44.1.1) c44.1.2) c44.2) ?_
   refine A1 hS trivial (b:=decide (32 < ((((Sl.of []:Sl Sound).app (x4.app y6)).app (p_w.drop (IntKind.wrap .i64 (x5+(p_l.If.n:Int))).toNat)).n:Int))) (fun c45=>?_) (fun c45=>?_)
   ·replace h:=itT c45 h
    obtain rfl:=A3 h
    exact B4 hS trivial ⟨[(6,(pN 11)),(5,(.vec 6701)),(4,(.vec 5700))], [(6701,(.vec A9 1 (Sl.nil:Sl (Sl Sound)).n (fun i=>(cL 2 A0) ((Sl.nil:Sl (Sl Sound)).g i)) true)),(5700,(.vec D4 1 (Sl.nil:Sl Int).n (fun i=>(cI .i64) ((Sl.nil:Sl Int).g i)) true))]⟩ [5700,6701] (ids:=[]) ⟨rfl,rfl,rfl⟩
   ·replace h:=itF c45 h
    refine J7 hS trivial 66 ⟨[(65,(.vec 61000)),(64,(.vec 9500)),(11,(pN (p_l.If.n:Int))),(10,(pN x5)),(9,(.vec 48000)),(7,(.vec 52000)),(2,(.p (.ptr (A8 p_l)))),(1,(.p (vSl 2 A0 p_w)))], [(61000,(.vec B2 2 (((Sl.of []:Sl Sound).app (x4.app y6)).app (p_w.drop (IntKind.wrap .i64 (x5+(p_l.If.n:Int))).toNat)).n (fun i=>A0 ((((Sl.of []:Sl Sound).app (x4.app y6)).app (p_w.drop (IntKind.wrap .i64 (x5+(p_l.If.n:Int))).toNat)).g i)) true)),(52000,(.vec D4 1 (x2.push x5).n (fun i=>(cI .i64) ((x2.push x5).g i)) false)),(48000,(.vec B2 2 (x4.app y6).n (fun i=>A0 ((x4.app y6).g i)) false)),(9500,(.vec A9 1 x3.n (fun i=>(cL 2 A0) (x3.g i)) false))]⟩ (ids:=[(9500,9500),(48000,48000),(52000,52000),(61000,61000)]) ?_ (hle:=(klR [(4, .fn ((0+(x4.n+y6.n))+(p_w.drop (IntKind.wrap .i64 (x5+(p_l.If.n:Int))).toNat).n) (((Sl.of []:Sl Sound).app (x4.app y6)).app (p_w.drop (IntKind.wrap .i64 (x5+(p_l.If.n:Int))).toNat)).n (T4 (0+(x4.n+y6.n)) (T4 0 (D9 [(pI .u32 0),(pI .u32 0)] []) (T4 x4.n (fun i=>A0 (x4.g i)) (fun i=>A0 (y6.g i)))) (fun i=>A0 ((p_w.drop (IntKind.wrap .i64 (x5+(p_l.If.n:Int))).toNat).g i))) (fun i=>A0 ((((Sl.of []:Sl Sound).app (x4.app y6)).app (p_w.drop (IntKind.wrap .i64 (x5+(p_l.If.n:Int))).toNat)).g i))),(5, .fn (x2.n+1) (x2.push x5).n (T4 x2.n (fun i=>(cI .i64) (x2.g i)) (D9 [(pI .i64 0)] [(0,(cI .i64) x5)])) (fun i=>(cI .i64) ((x2.push x5).g i))),(6, .fn (x4.n+y6.n) (x4.app y6).n (T4 x4.n (fun i=>A0 (x4.g i)) (fun i=>A0 (y6.g i))) (fun i=>A0 ((x4.app y6).g i)))] (al1 ⟨rfl,(Ca2 (c:=A0) (v:=((Sl.of []:Sl Sound).app (x4.app y6))) (w:=(p_w.drop (IntKind.wrap .i64 (x5+(p_l.If.n:Int))).toNat)) (Ca2 (c:=A0) (v:=(Sl.of []:Sl Sound)) (w:=(x4.app y6)) (fun i hi=>absurd hi (by omega)) rfl (Ca2 (c:=A0) (v:=x4) (w:=y6) same rfl same rfl) rfl) rfl same rfl)⟩ (al1 ⟨rfl,(Aw9 (c:=(cI .i64)) (v:=x2) (x:=x5) (z:=[(pI .i64 0)]) same rfl rfl)⟩ (al1 ⟨rfl,(Ca2 (c:=A0) (v:=x4) (w:=y6) same rfl same rfl)⟩ al0)))))
    obtain ⟨c46,h⟩:=F3 h
    refine A1 hS (And.intro (rfl:true=true) c46) (b:=(p_l.If.n:Int) == 0) (fun c47=>?_) (fun c47=>?_)
    ·replace h:=itT c47 h
     refine A1 hS trivial (b:=decide ((IntKind.wrap .i64 (x5+(p_l.If.n:Int))) < (p_w.n:Int))) (fun c48=>?_) (fun c48=>?_)
     ·replace h:=itT c48 h
      obtain ⟨c49,h⟩:=F3 h
      exact hb5 _ [(8500,52000),(9500,68000),(10501,84000)] _ (x2.push x5) (x3.push (((Sl.of []:Sl Sound).app (x4.app y6)).app (p_w.drop (IntKind.wrap .i64 (x5+(p_l.If.n:Int))).toNat))) ((x4.app y6).push (p_w.g (IntKind.wrap .i64 (x5+(p_l.If.n:Int))).toNat)) (IntKind.wrap .i64 ((IntKind.wrap .i64 (x5+(p_l.If.n:Int)))+1)) (And.intro (And.intro (And.intro c49.1 (by decide:(2:Nat)<=2)) (rfl:true=true)) c49.2) h (by kernel_rfl) (by kernel_rfl) (klR [(3, .fn ((x4.app y6).n+1) ((x4.app y6).push (p_w.g (IntKind.wrap .i64 (x5+(p_l.If.n:Int))).toNat)).n (T4 (x4.app y6).n (fun i=>A0 ((x4.app y6).g i)) (D9 [(pI .u32 0),(pI .u32 0)] [(0,A0 (p_w.g (IntKind.wrap .i64 (x5+(p_l.If.n:Int))).toNat))])) (fun i=>A0 (((x4.app y6).push (p_w.g (IntKind.wrap .i64 (x5+(p_l.If.n:Int))).toNat)).g i))),(4, .fn (x3.n+1) (x3.push (((Sl.of []:Sl Sound).app (x4.app y6)).app (p_w.drop (IntKind.wrap .i64 (x5+(p_l.If.n:Int))).toNat))).n (T4 x3.n (fun i=>(cL 2 A0) (x3.g i)) (D9 [P6] [(0,(cL 2 A0) (((Sl.of []:Sl Sound).app (x4.app y6)).app (p_w.drop (IntKind.wrap .i64 (x5+(p_l.If.n:Int))).toNat)))])) (fun i=>(cL 2 A0) ((x3.push (((Sl.of []:Sl Sound).app (x4.app y6)).app (p_w.drop (IntKind.wrap .i64 (x5+(p_l.If.n:Int))).toNat))).g i)))] (al1 ⟨rfl,(Aw9 (c:=A0) (v:=(x4.app y6)) (x:=(p_w.g (IntKind.wrap .i64 (x5+(p_l.If.n:Int))).toNat)) (z:=[(pI .u32 0),(pI .u32 0)]) same rfl rfl)⟩ (al1 ⟨rfl,(Aw9 (c:=(cL 2 A0)) (v:=x3) (x:=(((Sl.of []:Sl Sound).app (x4.app y6)).app (p_w.drop (IntKind.wrap .i64 (x5+(p_l.If.n:Int))).toNat))) (z:=[P6]) same rfl rfl)⟩ al0)))
     ·replace h:=itF c48 h
      exact hb5 _ [(8500,52000),(9500,68000),(10501,48000)] _ (x2.push x5) (x3.push (((Sl.of []:Sl Sound).app (x4.app y6)).app (p_w.drop (IntKind.wrap .i64 (x5+(p_l.If.n:Int))).toNat))) (x4.app y6) (IntKind.wrap .i64 ((IntKind.wrap .i64 (x5+(p_l.If.n:Int)))+1)) trivial h (by kernel_rfl) (by kernel_rfl) (klR [(4, .fn (x3.n+1) (x3.push (((Sl.of []:Sl Sound).app (x4.app y6)).app (p_w.drop (IntKind.wrap .i64 (x5+(p_l.If.n:Int))).toNat))).n (T4 x3.n (fun i=>(cL 2 A0) (x3.g i)) (D9 [P6] [(0,(cL 2 A0) (((Sl.of []:Sl Sound).app (x4.app y6)).app (p_w.drop (IntKind.wrap .i64 (x5+(p_l.If.n:Int))).toNat)))])) (fun i=>(cL 2 A0) ((x3.push (((Sl.of []:Sl Sound).app (x4.app y6)).app (p_w.drop (IntKind.wrap .i64 (x5+(p_l.If.n:Int))).toNat))).g i)))] (al1 ⟨rfl,(Aw9 (c:=(cL 2 A0)) (v:=x3) (x:=(((Sl.of []:Sl Sound).app (x4.app y6)).app (p_w.drop (IntKind.wrap .i64 (x5+(p_l.If.n:Int))).toNat))) (z:=[P6]) same rfl rfl)⟩ al0))
    ·replace h:=itF c47 h
     exact hb5 _ [(8500,52000),(9500,68000),(10501,48000)] _ (x2.push x5) (x3.push (((Sl.of []:Sl Sound).app (x4.app y6)).app (p_w.drop (IntKind.wrap .i64 (x5+(p_l.If.n:Int))).toNat))) (x4.app y6) (IntKind.wrap .i64 (x5+(p_l.If.n:Int))) trivial h (by kernel_rfl) (by kernel_rfl) (klR [(4, .fn (x3.n+1) (x3.push (((Sl.of []:Sl Sound).app (x4.app y6)).app (p_w.drop (IntKind.wrap .i64 (x5+(p_l.If.n:Int))).toNat))).n (T4 x3.n (fun i=>(cL 2 A0) (x3.g i)) (D9 [P6] [(0,(cL 2 A0) (((Sl.of []:Sl Sound).app (x4.app y6)).app (p_w.drop (IntKind.wrap .i64 (x5+(p_l.If.n:Int))).toNat)))])) (fun i=>(cL 2 A0) ((x3.push (((Sl.of []:Sl Sound).app (x4.app y6)).app (p_w.drop (IntKind.wrap .i64 (x5+(p_l.If.n:Int))).toNat))).g i)))] (al1 ⟨rfl,(Aw9 (c:=(cL 2 A0)) (v:=x3) (x:=(((Sl.of []:Sl Sound).app (x4.app y6)).app (p_w.drop (IntKind.wrap .i64 (x5+(p_l.If.n:Int))).toNat))) (z:=[P6]) same rfl rfl)⟩ al0))
 ·replace h:=itF c33 h
  obtain rfl:=A3 h
  exact B4 hS trivial ⟨[(6,(pN 0)),(5,(.vec 9500)),(4,(.vec 8500))], [(9500,(.vec A9 1 x3.n (fun i=>(cL 2 A0) (x3.g i)) true)),(8500,(.vec D4 1 x2.n (fun i=>(cI .i64) (x2.g i)) true))]⟩ [8500,9500] (ids:=[(8500,8500),(9500,9500)]) ⟨rfl,rfl,rfl⟩
def Al9 (N:Nat) (p_l:Law) (p_w:(Sl Sound)):Option ((Sl Int) × (Sl (Sl Sound)) × Int):=
 Cs2 N (fun self1 (x1:Sl Sound) (x2:Sl Int) (x3:Sl (Sl Sound)) (x4:Int)=>
  if (decide ((IntKind.wrap .i64 (x4+(p_l.If.n:Int)))<=(x1.n:Int)))=true then
   (Z4 N p_l x1 x4).bind fun y5=>
   if (!y5)=true then
    self1 x1 x2 x3 (IntKind.wrap .i64 (x4+1))
   else
    (O9 N p_l x1 x4).bind fun y6=>
    if (decide (32 < (y6.n:Int)))=true then
     some ((Sl.nil:Sl Int),(Sl.nil:Sl (Sl Sound)),11)
    else
     if (((x2.n+(Sl.of [x4]:Sl Int).n) * 8<=140737488355328/\x2.n+(Sl.of [x4]:Sl Int).n<=140737488355328)/\((x3.n+(Sl.of [y6]:Sl (Sl Sound)).n) * 24<=140737488355328/\x3.n+(Sl.of [y6]:Sl (Sl Sound)).n<=140737488355328)) then
      if ((p_l.If.n:Int) == 0)=true then
       self1 y6 (x2.push x4) (x3.push y6) (IntKind.wrap .i64 ((IntKind.wrap .i64 (x4+(p_l.Out.n:Int)))+1))
      else
       self1 y6 (x2.push x4) (x3.push y6) (IntKind.wrap .i64 (x4+(p_l.Out.n:Int)))
     else none
  else
   some (x2,x3,0)
  ) p_w (Sl.nil:Sl Int) (Sl.nil:Sl (Sl Sound)) 0
theorem BO4 {N:Nat} {p_l:Law} {p_w:(Sl Sound)}   {y:((Sl Int) × (Sl (Sl Sound)) × Int)} (h:Al9 N p_l p_w=some y) :
 FunO S AY8 [(.p (.agg (A8 p_l))),(.p (vSl 2 A0 p_w))] [] (.tup [(.vec 0),(.vec 1),(pN y.2.2)]) ([(.vec D4 1 y.1.n (fun i=>(cI .i64) (y.1.g i)) true),(.vec A9 1 y.2.1.n (fun i=>(cL 2 A0) (y.2.1.g i)) true)]) []:=by
 unfold Al9 at h
 refine A6 hS BM5 ?_
 refine Cl0 hS trivial h (fun x1 x2 x3 x4=>⟨[(10,(pN x4)),(9,(pN (p_l.If.n:Int))),(8,(.vec 9500)),(7,(.vec 8500)),(2,(.reg 3000 0)),(1,(.p (vSl 2 A0 x1)))], [(9500,(.vec A9 1 x3.n (fun i=>(cL 2 A0) (x3.g i)) false)),(8500,(.vec D4 1 x2.n (fun i=>(cI .i64) (x2.g i)) false)),(3000,(.cells ((A8 p_l).map .p)))]⟩) (ids:=[(3000,3000)]) (fun _ _ _ _ _ self1 x1 x2 x3 x4 hb1 h=>?_)
 refine A1 hS trivial (b:=decide ((IntKind.wrap .i64 (x4+(p_l.If.n:Int)))<=(x1.n:Int))) (fun c11=>?_) (fun c11=>?_)
 ·replace h:=itT c11 h
  obtain ⟨y5,e5,h⟩:=A4 h
  refine A2 hS [] trivial (Ba7 hS hL e5) ?_
  refine A1 hS trivial (b:=!y5) (fun c12=>?_) (fun c12=>?_)
  ·replace h:=itT c12 h
   exact hb1 _ [(3000,3000),(8500,8500),(9500,9500)] _ x1 x2 x3 (IntKind.wrap .i64 (x4+1)) trivial h
  ·replace h:=itF c12 h
   obtain ⟨y6,e6,h⟩:=A4 h
   refine A2 hS [] trivial (AJ0 hS hL e6) ?_
   refine A1 hS trivial (b:=decide (32 < (y6.n:Int))) (fun c13=>?_) (fun c13=>?_)
   ·replace h:=itT c13 h
    obtain rfl:=A3 h
    exact B4 hS trivial ⟨[(6,(pN 11)),(5,(.vec 6701)),(4,(.vec 5700))], [(6701,(.vec A9 1 (Sl.nil:Sl (Sl Sound)).n (fun i=>(cL 2 A0) ((Sl.nil:Sl (Sl Sound)).g i)) true)),(5700,(.vec D4 1 (Sl.nil:Sl Int).n (fun i=>(cI .i64) ((Sl.nil:Sl Int).g i)) true))]⟩ [5700,6701] (ids:=[]) ⟨rfl,rfl,rfl⟩
   ·replace h:=itF c13 h
    obtain ⟨c14,h⟩:=F3 h
    refine A1 hS (And.intro (And.intro (And.intro (rfl:true=true) c14.1) (rfl:true=true)) c14.2) (b:=(p_l.If.n:Int) == 0) (fun c15=>?_) (fun c15=>?_)
    ·replace h:=itT c15 h
     exact hb1 _ [(3000,3000),(8500,38000),(9500,42000)] _ y6 (x2.push x4) (x3.push y6) (IntKind.wrap .i64 ((IntKind.wrap .i64 (x4+(p_l.Out.n:Int)))+1)) trivial h (by kernel_rfl) (by kernel_rfl) (klR [(3, .fn (x3.n+1) (x3.push y6).n (T4 x3.n (fun i=>(cL 2 A0) (x3.g i)) (D9 [P6] [(0,(cL 2 A0) y6)])) (fun i=>(cL 2 A0) ((x3.push y6).g i))),(4, .fn (x2.n+1) (x2.push x4).n (T4 x2.n (fun i=>(cI .i64) (x2.g i)) (D9 [(pI .i64 0)] [(0,(cI .i64) x4)])) (fun i=>(cI .i64) ((x2.push x4).g i)))] (al1 ⟨rfl,(Aw9 (c:=(cL 2 A0)) (v:=x3) (x:=y6) (z:=[P6]) same rfl rfl)⟩ (al1 ⟨rfl,(Aw9 (c:=(cI .i64)) (v:=x2) (x:=x4) (z:=[(pI .i64 0)]) same rfl rfl)⟩ al0)))
    ·replace h:=itF c15 h
     exact hb1 _ [(3000,3000),(8500,38000),(9500,42000)] _ y6 (x2.push x4) (x3.push y6) (IntKind.wrap .i64 (x4+(p_l.Out.n:Int))) trivial h (by kernel_rfl) (by kernel_rfl) (klR [(3, .fn (x3.n+1) (x3.push y6).n (T4 x3.n (fun i=>(cL 2 A0) (x3.g i)) (D9 [P6] [(0,(cL 2 A0) y6)])) (fun i=>(cL 2 A0) ((x3.push y6).g i))),(4, .fn (x2.n+1) (x2.push x4).n (T4 x2.n (fun i=>(cI .i64) (x2.g i)) (D9 [(pI .i64 0)] [(0,(cI .i64) x4)])) (fun i=>(cI .i64) ((x2.push x4).g i)))] (al1 ⟨rfl,(Aw9 (c:=(cL 2 A0)) (v:=x3) (x:=y6) (z:=[P6]) same rfl rfl)⟩ (al1 ⟨rfl,(Aw9 (c:=(cI .i64)) (v:=x2) (x:=x4) (z:=[(pI .i64 0)]) same rfl rfl)⟩ al0)))
 ·replace h:=itF c11 h
  obtain rfl:=A3 h
  exact B4 hS trivial ⟨[(6,(pN 0)),(5,(.vec 9500)),(4,(.vec 8500))], [(9500,(.vec A9 1 x3.n (fun i=>(cL 2 A0) (x3.g i)) true)),(8500,(.vec D4 1 x2.n (fun i=>(cI .i64) (x2.g i)) true))]⟩ [8500,9500] (ids:=[(8500,8500),(9500,9500)]) ⟨rfl,rfl,rfl⟩
def Ak2 (N:Nat) (p_l:Law) (p_w:(Sl Sound)):Option ((Sl Int) × (Sl (Sl Sound)) × Int):=
 Cs2 N (fun self1 (x1:Sl Sound) (x2:Sl Int) (x3:Sl (Sl Sound)) (x4:Int)=>
  if (decide (0<=x4))=true then
   (Z4 N p_l x1 x4).bind fun y5=>
   if (!y5)=true then
    self1 x1 x2 x3 (IntKind.wrap .i64 (x4 - 1))
   else
    (O9 N p_l x1 x4).bind fun y6=>
    if (decide (32 < (y6.n:Int)))=true then
     some ((Sl.nil:Sl Int),(Sl.nil:Sl (Sl Sound)),11)
    else
     if (((x2.n+(Sl.of [x4]:Sl Int).n) * 8<=140737488355328/\x2.n+(Sl.of [x4]:Sl Int).n<=140737488355328)/\((x3.n+(Sl.of [y6]:Sl (Sl Sound)).n) * 24<=140737488355328/\x3.n+(Sl.of [y6]:Sl (Sl Sound)).n<=140737488355328)) then
      if ((p_l.If.n:Int) == 0)=true then
       self1 y6 (x2.push x4) (x3.push y6) (IntKind.wrap .i64 ((IntKind.wrap .i64 (x4 - (p_l.If.n:Int))) - 1))
      else
       self1 y6 (x2.push x4) (x3.push y6) (IntKind.wrap .i64 (x4 - (p_l.If.n:Int)))
     else none
  else
   some (x2,x3,0)
  ) p_w (Sl.nil:Sl Int) (Sl.nil:Sl (Sl Sound)) (IntKind.wrap .i64 ((p_w.n:Int) - (p_l.If.n:Int)))
theorem Cd6 {N:Nat} {p_l:Law} {p_w:(Sl Sound)}   {y:((Sl Int) × (Sl (Sl Sound)) × Int)} (h:Ak2 N p_l p_w=some y) :
 FunO S Bk8 [(.p (.agg (A8 p_l))),(.p (vSl 2 A0 p_w))] [] (.tup [(.vec 0),(.vec 1),(pN y.2.2)]) ([(.vec D4 1 y.1.n (fun i=>(cI .i64) (y.1.g i)) true),(.vec A9 1 y.2.1.n (fun i=>(cL 2 A0) (y.2.1.g i)) true)]) []:=by
 unfold Ak2 at h
 refine A6 hS Cc0 ?_
 refine Cl0 hS trivial h (fun x1 x2 x3 x4=>⟨[(10,(pN x4)),(9,(pN (p_l.If.n:Int))),(8,(.vec 9500)),(7,(.vec 8500)),(2,(.reg 3000 0)),(1,(.p (vSl 2 A0 x1)))], [(9500,(.vec A9 1 x3.n (fun i=>(cL 2 A0) (x3.g i)) false)),(8500,(.vec D4 1 x2.n (fun i=>(cI .i64) (x2.g i)) false)),(3000,(.cells ((A8 p_l).map .p)))]⟩) (ids:=[(3000,3000)]) (fun _ _ _ _ _ self1 x1 x2 x3 x4 hb1 h=>?_)
 refine A1 hS trivial (b:=decide (0<=x4)) (fun c11=>?_) (fun c11=>?_)
 ·replace h:=itT c11 h
  obtain ⟨y5,e5,h⟩:=A4 h
  refine A2 hS [] trivial (Ba7 hS hL e5) ?_
  refine A1 hS trivial (b:=!y5) (fun c12=>?_) (fun c12=>?_)
  ·replace h:=itT c12 h
   exact hb1 _ [(3000,3000),(8500,8500),(9500,9500)] _ x1 x2 x3 (IntKind.wrap .i64 (x4 - 1)) trivial h
  ·replace h:=itF c12 h
   obtain ⟨y6,e6,h⟩:=A4 h
   refine A2 hS [] trivial (AJ0 hS hL e6) ?_
   refine A1 hS trivial (b:=decide (32 < (y6.n:Int))) (fun c13=>?_) (fun c13=>?_)
   ·replace h:=itT c13 h
    obtain rfl:=A3 h
    exact B4 hS trivial ⟨[(6,(pN 11)),(5,(.vec 6701)),(4,(.vec 5700))], [(6701,(.vec A9 1 (Sl.nil:Sl (Sl Sound)).n (fun i=>(cL 2 A0) ((Sl.nil:Sl (Sl Sound)).g i)) true)),(5700,(.vec D4 1 (Sl.nil:Sl Int).n (fun i=>(cI .i64) ((Sl.nil:Sl Int).g i)) true))]⟩ [5700,6701] (ids:=[]) ⟨rfl,rfl,rfl⟩
   ·replace h:=itF c13 h
    obtain ⟨c14,h⟩:=F3 h
    refine A1 hS (And.intro (And.intro (And.intro (rfl:true=true) c14.1) (rfl:true=true)) c14.2) (b:=(p_l.If.n:Int) == 0) (fun c15=>?_) (fun c15=>?_)
    ·replace h:=itT c15 h
     exact hb1 _ [(3000,3000),(8500,38000),(9500,42000)] _ y6 (x2.push x4) (x3.push y6) (IntKind.wrap .i64 ((IntKind.wrap .i64 (x4 - (p_l.If.n:Int))) - 1)) trivial h (by kernel_rfl) (by kernel_rfl) (klR [(3, .fn (x3.n+1) (x3.push y6).n (T4 x3.n (fun i=>(cL 2 A0) (x3.g i)) (D9 [P6] [(0,(cL 2 A0) y6)])) (fun i=>(cL 2 A0) ((x3.push y6).g i))),(4, .fn (x2.n+1) (x2.push x4).n (T4 x2.n (fun i=>(cI .i64) (x2.g i)) (D9 [(pI .i64 0)] [(0,(cI .i64) x4)])) (fun i=>(cI .i64) ((x2.push x4).g i)))] (al1 ⟨rfl,(Aw9 (c:=(cL 2 A0)) (v:=x3) (x:=y6) (z:=[P6]) same rfl rfl)⟩ (al1 ⟨rfl,(Aw9 (c:=(cI .i64)) (v:=x2) (x:=x4) (z:=[(pI .i64 0)]) same rfl rfl)⟩ al0)))
    ·replace h:=itF c15 h
     exact hb1 _ [(3000,3000),(8500,38000),(9500,42000)] _ y6 (x2.push x4) (x3.push y6) (IntKind.wrap .i64 (x4 - (p_l.If.n:Int))) trivial h (by kernel_rfl) (by kernel_rfl) (klR [(3, .fn (x3.n+1) (x3.push y6).n (T4 x3.n (fun i=>(cL 2 A0) (x3.g i)) (D9 [P6] [(0,(cL 2 A0) y6)])) (fun i=>(cL 2 A0) ((x3.push y6).g i))),(4, .fn (x2.n+1) (x2.push x4).n (T4 x2.n (fun i=>(cI .i64) (x2.g i)) (D9 [(pI .i64 0)] [(0,(cI .i64) x4)])) (fun i=>(cI .i64) ((x2.push x4).g i)))] (al1 ⟨rfl,(Aw9 (c:=(cL 2 A0)) (v:=x3) (x:=y6) (z:=[P6]) same rfl rfl)⟩ (al1 ⟨rfl,(Aw9 (c:=(cI .i64)) (v:=x2) (x:=x4) (z:=[(pI .i64 0)]) same rfl rfl)⟩ al0)))
 ·replace h:=itF c11 h
  obtain rfl:=A3 h
  exact B4 hS trivial ⟨[(6,(pN 0)),(5,(.vec 9500)),(4,(.vec 8500))], [(9500,(.vec A9 1 x3.n (fun i=>(cL 2 A0) (x3.g i)) true)),(8500,(.vec D4 1 x2.n (fun i=>(cI .i64) (x2.g i)) true))]⟩ [8500,9500] (ids:=[(8500,8500),(9500,9500)]) ⟨rfl,rfl,rfl⟩
def Am0 (N:Nat) (p_l:Law) (p_w:(Sl Sound)):Option ((Sl Int) × (Sl (Sl Sound)) × Int):=
 (At7 N p_l p_w).bind fun y1=>
 if (y1 != 0)=true then
  some ((Sl.nil:Sl Int),(Sl.nil:Sl (Sl Sound)),y1)
 else
  if (p_l.Mode == 1)=true then
   (Ay5 N p_l p_w).bind fun y2=>
   some (y2.1,y2.2.1,y2.2.2)
  else
   if (p_l.Mode == 2)=true then
    (Al9 N p_l p_w).bind fun y3=>
    some (y3.1,y3.2.1,y3.2.2)
   else
    (Ak2 N p_l p_w).bind fun y4=>
    some (y4.1,y4.2.1,y4.2.2)
theorem BO5 {N:Nat} {p_l:Law} {p_w:(Sl Sound)}   {y:((Sl Int) × (Sl (Sl Sound)) × Int)} (h:Am0 N p_l p_w=some y) :
 FunO S AY5 [(.p (.agg (A8 p_l))),(.p (vSl 2 A0 p_w))] [] (.tup [(.vec 0),(.vec 1),(pN y.2.2)]) ([(.vec D4 1 y.1.n (fun i=>(cI .i64) (y.1.g i)) true),(.vec A9 1 y.2.1.n (fun i=>(cL 2 A0) (y.2.1.g i)) true)]) []:=by
 unfold Am0 at h
 refine A6 hS BM2 ?_
 obtain ⟨y1,e1,h⟩:=A4 h
 refine A2 hS [] trivial (BO3 hS hL e1) ?_
 refine A1 hS trivial (b:=y1 != 0) (fun c1=>?_) (fun c1=>?_)
 ·replace h:=itT c1 h
  obtain rfl:=A3 h
  exact B4 hS trivial ⟨[(6,(pN y1)),(5,(.vec 6701)),(4,(.vec 5700))], [(6701,(.vec A9 1 (Sl.nil:Sl (Sl Sound)).n (fun i=>(cL 2 A0) ((Sl.nil:Sl (Sl Sound)).g i)) true)),(5700,(.vec D4 1 (Sl.nil:Sl Int).n (fun i=>(cI .i64) ((Sl.nil:Sl Int).g i)) true))]⟩ [5700,6701] (ids:=[]) ⟨rfl,rfl,rfl⟩
 ·replace h:=itF c1 h
  refine A1 hS trivial (b:=p_l.Mode == 1) (fun c2=>?_) (fun c2=>?_)
  ·replace h:=itT c2 h
   obtain ⟨y2,e2,h⟩:=A4 h
   refine A2 hS [] trivial (Cn5 hS hL e2) ?_
   obtain rfl:=A3 h
   exact B4 hS trivial ⟨[(6,(pN y2.2.2)),(5,(.vec 21001)),(4,(.vec 21000))], [(21001,(.vec A9 1 y2.2.1.n (fun i=>(cL 2 A0) (y2.2.1.g i)) true)),(21000,(.vec D4 1 y2.1.n (fun i=>(cI .i64) (y2.1.g i)) true))]⟩ [21000,21001] (ids:=[(21000,21000),(21001,21001)]) ⟨rfl,rfl,rfl⟩
  ·replace h:=itF c2 h
   refine A1 hS trivial (b:=p_l.Mode == 2) (fun c3=>?_) (fun c3=>?_)
   ·replace h:=itT c3 h
    obtain ⟨y3,e3,h⟩:=A4 h
    refine A2 hS [] trivial (BO4 hS hL e3) ?_
    obtain rfl:=A3 h
    exact B4 hS trivial ⟨[(6,(pN y3.2.2)),(5,(.vec 29001)),(4,(.vec 29000))], [(29001,(.vec A9 1 y3.2.1.n (fun i=>(cL 2 A0) (y3.2.1.g i)) true)),(29000,(.vec D4 1 y3.1.n (fun i=>(cI .i64) (y3.1.g i)) true))]⟩ [29000,29001] (ids:=[(29000,29000),(29001,29001)]) ⟨rfl,rfl,rfl⟩
   ·replace h:=itF c3 h
    obtain ⟨y4,e4,h⟩:=A4 h
    refine A2 hS [] trivial (Cd6 hS hL e4) ?_
    obtain rfl:=A3 h
    exact B4 hS trivial ⟨[(6,(pN y4.2.2)),(5,(.vec 35001)),(4,(.vec 35000))], [(35001,(.vec A9 1 y4.2.1.n (fun i=>(cL 2 A0) (y4.2.1.g i)) true)),(35000,(.vec D4 1 y4.1.n (fun i=>(cI .i64) (y4.1.g i)) true))]⟩ [35000,35001] (ids:=[(35000,35000),(35001,35001)]) ⟨rfl,rfl,rfl⟩
def Af7 (N:Nat) (p_l:Law) (p_w:(Sl Sound)):Option ((Sl Sound) × Int):=
 (Am0 N p_l p_w).bind fun y1=>
 if (y1.2.2 != 0)=true then
  some ((Sl.nil:Sl Sound),y1.2.2)
 else
  if ((y1.2.1.n:Int) == 0)=true then
   if (((Sl.of []:Sl Sound).n+p_w.n) * 8<=140737488355328/\(Sl.of []:Sl Sound).n+p_w.n<=140737488355328) then
    some (((Sl.of []:Sl Sound).app p_w),0)
   else none
  else
   if ((((0:Int)<=(IntKind.wrap .i64 ((y1.2.1.n:Int) - 1))/\(IntKind.wrap .i64 ((y1.2.1.n:Int) - 1)) < (y1.2.1.n:Int))/\(IntKind.wrap .i64 ((y1.2.1.n:Int) - 1)).toNat < y1.2.1.n)/\(((Sl.of []:Sl Sound).n+(y1.2.1.g (IntKind.wrap .i64 ((y1.2.1.n:Int) - 1)).toNat).n) * 8<=140737488355328/\(Sl.of []:Sl Sound).n+(y1.2.1.g (IntKind.wrap .i64 ((y1.2.1.n:Int) - 1)).toNat).n<=140737488355328)) then
    some (((Sl.of []:Sl Sound).app (y1.2.1.g (IntKind.wrap .i64 ((y1.2.1.n:Int) - 1)).toNat)),0)
   else none
theorem BO6 {N:Nat} {p_l:Law} {p_w:(Sl Sound)}   {y:((Sl Sound) × Int)} (h:Af7 N p_l p_w=some y) :
 FunO S AY3 [(.p (.agg (A8 p_l))),(.p (vSl 2 A0 p_w))] [] (.tup [(.vec 0),(pN y.2)]) ([(.vec B2 2 y.1.n (fun i=>A0 (y.1.g i)) true)]) []:=by
 unfold Af7 at h
 refine A6 hS BM0 ?_
 obtain ⟨y1,e1,h⟩:=A4 h
 refine A2 hS [] trivial (BO5 hS hL e1) ?_
 refine A1 hS trivial (b:=y1.2.2 != 0) (fun c1=>?_) (fun c1=>?_)
 ·replace h:=itT c1 h
  obtain rfl:=A3 h
  exact B4 hS trivial ⟨[(5,(pN y1.2.2)),(4,(.vec 5700))], [(5700,(.vec B2 2 (Sl.nil:Sl Sound).n (fun i=>A0 ((Sl.nil:Sl Sound).g i)) true))]⟩ [5700] (ids:=[]) ⟨rfl,rfl,rfl⟩
 ·replace h:=itF c1 h
  refine A1 hS trivial (b:=(y1.2.1.n:Int) == 0) (fun c2=>?_) (fun c2=>?_)
  ·replace h:=itT c2 h
   obtain ⟨c3,h⟩:=F3 h
   obtain rfl:=A3 h
   exact B4 hS (And.intro (rfl:true=true) c3) ⟨[(5,(pN 0)),(4,(.vec 25000))], [(25000,(.vec B2 2 ((Sl.of []:Sl Sound).app p_w).n (fun i=>A0 (((Sl.of []:Sl Sound).app p_w).g i)) true))]⟩ [25000] (ids:=[(25000,25000)]) ⟨rfl,rfl,rfl⟩ (hle:=(klR [(1, .fn (0+p_w.n) ((Sl.of []:Sl Sound).app p_w).n (T4 0 (D9 [(pI .u32 0),(pI .u32 0)] []) (fun i=>A0 (p_w.g i))) (fun i=>A0 (((Sl.of []:Sl Sound).app p_w).g i)))] (al1 ⟨rfl,(Ca2 (c:=A0) (v:=(Sl.of []:Sl Sound)) (w:=p_w) (fun i hi=>absurd hi (by omega)) rfl same rfl)⟩ al0)))
  ·replace h:=itF c2 h
   obtain ⟨c4,h⟩:=F3 h
   obtain rfl:=A3 h
   exact B4 hS (And.intro (And.intro (And.intro (rfl:true=true) c4.1.1) c4.1.2) c4.2) ⟨[(5,(pN 0)),(4,(.vec 33000))], [(33000,(.vec B2 2 ((Sl.of []:Sl Sound).app (y1.2.1.g (IntKind.wrap .i64 ((y1.2.1.n:Int) - 1)).toNat)).n (fun i=>A0 (((Sl.of []:Sl Sound).app (y1.2.1.g (IntKind.wrap .i64 ((y1.2.1.n:Int) - 1)).toNat)).g i)) true))]⟩ [33000] (ids:=[(33000,33000)]) ⟨rfl,rfl,rfl⟩ (hle:=(klR [(1, .fn (0+(y1.2.1.g (IntKind.wrap .i64 ((y1.2.1.n:Int) - 1)).toNat).n) ((Sl.of []:Sl Sound).app (y1.2.1.g (IntKind.wrap .i64 ((y1.2.1.n:Int) - 1)).toNat)).n (T4 0 (D9 [(pI .u32 0),(pI .u32 0)] []) (fun i=>A0 ((y1.2.1.g (IntKind.wrap .i64 ((y1.2.1.n:Int) - 1)).toNat).g i))) (fun i=>A0 (((Sl.of []:Sl Sound).app (y1.2.1.g (IntKind.wrap .i64 ((y1.2.1.n:Int) - 1)).toNat)).g i)))] (al1 ⟨rfl,(Ca2 (c:=A0) (v:=(Sl.of []:Sl Sound)) (w:=(y1.2.1.g (IntKind.wrap .i64 ((y1.2.1.n:Int) - 1)).toNat)) (fun i hi=>absurd hi (by omega)) rfl same rfl)⟩ al0)))
def At8 (N:Nat) (p_laws:(Sl Law)) (p_w:(Sl Sound)):Option ((Sl (Sl Sound)) × Int):=
 (U9 N p_laws).bind fun y1=>
 lt (fun (z1:Int)=>
  if (z1 != 0)=true then
   some ((Sl.nil:Sl (Sl Sound)),z1)
  else
   (Aj7 N p_w).bind fun y4=>
   V9 N (fun self1 (x2:Sl (Sl Sound)) (x3:Int)=>
    if (decide (x3 < (p_laws.n:Int)))=true then
     if ((((0:Int)<=x3/\x3 < (p_laws.n:Int))/\((0:Int)<=x3/\x3 < (x2.n:Int)))/\x3.toNat < x2.n) then
      (Af7 N (p_laws.g x3.toNat) (x2.g x3.toNat)).bind fun y7=>
      if (y7.2 != 0)=true then
       some ((Sl.nil:Sl (Sl Sound)),y7.2)
      else
       if ((x2.n+(Sl.of [y7.1]:Sl (Sl Sound)).n) * 24<=140737488355328/\x2.n+(Sl.of [y7.1]:Sl (Sl Sound)).n<=140737488355328) then
        self1 (x2.push y7.1) (IntKind.wrap .i64 (x3+1))
       else none
     else none
    else
     some (x2,0)
    ) (Sl.of [y4]:Sl (Sl Sound)) 0
  ) fun k1=>
  if (y1 == 0)=true then
   (U4 N p_w).bind fun y3=>
   k1 y3
  else
   k1 y1
theorem BO7 {N:Nat} {p_laws:(Sl Law)} {p_w:(Sl Sound)}   {y:((Sl (Sl Sound)) × Int)} (h:At8 N p_laws p_w=some y) :
 FunO S AX8 [(.p (vSl 18 A8 p_laws)),(.p (vSl 2 A0 p_w))] [] (.tup [(.vec 0),(pN y.2)]) ([(.vec A9 1 y.1.n (fun i=>(cL 2 A0) (y.1.g i)) true)]) []:=by
 unfold At8 at h
 refine A6 hS BL5 ?_
 obtain ⟨y1,e1,h⟩:=A4 h
 refine A2 hS [] trivial (AF0 hS hL e1) ?_
 refine AH1 hS trivial (B0 hS) h 0 (fun z1=>⟨[(6,(pN z1)),(1,(.p (vSl 2 A0 p_w))),(0,(.p (vSl 18 A8 p_laws)))], []⟩) (fun M1 k1 hb1 h=>?_) (fun z1 h=>?_)
 ·refine A1 hS trivial (b:=y1 == 0) (fun c3=>?_) (fun c3=>?_)
  ·replace h:=itT c3 h
   obtain ⟨y3,e3,h⟩:=A4 h
   refine A2 hS [] trivial (Al5 hS hL e3) ?_
   exact hb1 _ [] _ y3 trivial h
  ·replace h:=itF c3 h
   exact hb1 _ [] _ y1 trivial h
 ·refine A1 hS trivial (b:=z1 != 0) (fun c4=>?_) (fun c4=>?_)
  ·replace h:=itT c4 h
   obtain rfl:=A3 h
   exact B4 hS trivial ⟨[(5,(pN z1)),(4,(.vec 5700))], [(5700,(.vec A9 1 (Sl.nil:Sl (Sl Sound)).n (fun i=>(cL 2 A0) ((Sl.nil:Sl (Sl Sound)).g i)) true))]⟩ [5700] (ids:=[]) ⟨rfl,rfl,rfl⟩
  ·replace h:=itF c4 h
   obtain ⟨y4,e4,h⟩:=A4 h
   refine A2 hS [] trivial (Cc9 hS hL e4) ?_
   refine H9 hS (rfl:true=true) h (fun x2 x3=>⟨[(8,(pN x3)),(7,(.vec 8500)),(0,(.p (vSl 18 A8 p_laws)))], [(8500,(.vec A9 1 x2.n (fun i=>(cL 2 A0) (x2.g i)) false))]⟩) (ids:=[(8500,23000)]) (fun _ _ _ _ _ self1 x2 x3 hb2 h=>?_) (hle:=(klR [(2, .fn 1 (Sl.of [y4]:Sl (Sl Sound)).n (D9 [P6] [(0,(cL 2 A0) y4)]) (fun i=>(cL 2 A0) ((Sl.of [y4]:Sl (Sl Sound)).g i)))] (al1 ⟨rfl,(fun i hi=>match i,hi with | 0,_=>rfl | _+1,hi=>absurd hi (by omega))⟩ al0)))
   refine A1 hS trivial (b:=decide (x3 < (p_laws.n:Int))) (fun c11=>?_) (fun c11=>?_)
   ·replace h:=itT c11 h
    refine F0 hS trivial [2,3] ?_
    obtain ⟨c12,h⟩:=F3 h
    obtain ⟨y7,e7,h⟩:=A4 h
    refine Bj4 [] (And.intro (And.intro (And.intro c12.1.1 (by decide:(18:Nat)<=18)) c12.1.2) c12.2) (BO6 hS hL e7) ?_
    refine M0 trivial ?_
    refine A1 hS trivial (b:=y7.2 != 0) (fun c13=>?_) (fun c13=>?_)
    ·replace h:=itT c13 h
     obtain rfl:=A3 h
     exact B4 hS trivial ⟨[(5,(pN y7.2)),(4,(.vec 5700))], [(5700,(.vec A9 1 (Sl.nil:Sl (Sl Sound)).n (fun i=>(cL 2 A0) ((Sl.nil:Sl (Sl Sound)).g i)) true))]⟩ [5700] (ids:=[]) ⟨rfl,rfl,rfl⟩
    ·replace h:=itF c13 h
     obtain ⟨c14,h⟩:=F3 h
     exact hb2 _ [(8500,48000)] _ (x2.push y7.1) (IntKind.wrap .i64 (x3+1)) (And.intro (rfl:true=true) c14) h (by kernel_rfl) (by kernel_rfl) (klR [(2, .fn (x2.n+1) (x2.push y7.1).n (T4 x2.n (fun i=>(cL 2 A0) (x2.g i)) (D9 [P6] [(0,(cL 2 A0) y7.1)])) (fun i=>(cL 2 A0) ((x2.push y7.1).g i)))] (al1 ⟨rfl,(Aw9 (c:=(cL 2 A0)) (v:=x2) (x:=y7.1) (z:=[P6]) same rfl rfl)⟩ al0))
   ·replace h:=itF c11 h
    obtain rfl:=A3 h
    exact B4 hS trivial ⟨[(5,(pN 0)),(4,(.vec 8500))], [(8500,(.vec A9 1 x2.n (fun i=>(cL 2 A0) (x2.g i)) true))]⟩ [8500] (ids:=[(8500,8500)]) ⟨rfl,rfl,rfl⟩
def Ah6 (N:Nat) (p_laws:(Sl Law)) (p_w:(Sl Sound)):Option ((Sl Sound) × Int):=
 (At8 N p_laws p_w).bind fun y1=>
 if (y1.2 != 0)=true then
  some ((Sl.nil:Sl Sound),y1.2)
 else
  if (((0:Int)<=(IntKind.wrap .i64 ((y1.1.n:Int) - 1))/\(IntKind.wrap .i64 ((y1.1.n:Int) - 1)) < (y1.1.n:Int))/\(IntKind.wrap .i64 ((y1.1.n:Int) - 1)).toNat < y1.1.n) then
   some ((y1.1.g (IntKind.wrap .i64 ((y1.1.n:Int) - 1)).toNat),0)
  else none
theorem BD6 {N:Nat} {p_laws:(Sl Law)} {p_w:(Sl Sound)}   {y:((Sl Sound) × Int)} (h:Ah6 N p_laws p_w=some y) :
 FunO S AP7 [(.p (vSl 18 A8 p_laws)),(.p (vSl 2 A0 p_w))] [] (.tup [(.p (vSl 2 A0 y.1)),(pN y.2)]) ([]) []:=by
 unfold Ah6 at h
 refine A6 hS BA5 ?_
 obtain ⟨y1,e1,h⟩:=A4 h
 refine A2 hS [] trivial (BO7 hS hL e1) ?_
 refine A1 hS trivial (b:=y1.2 != 0) (fun c1=>?_) (fun c1=>?_)
 ·replace h:=itT c1 h
  obtain rfl:=A3 h
  exact B4 hS trivial ⟨[(5,(pN y1.2)),(4,(.p (vSl 2 A0 (Sl.nil:Sl Sound))))], []⟩ [] (ids:=[]) ⟨rfl,rfl,rfl⟩
 ·replace h:=itF c1 h
  obtain ⟨c2,h⟩:=F3 h
  obtain rfl:=A3 h
  exact B1 hS c2 [] ⟨rfl,rfl,rfl⟩
end Go.AM
set_option linter.unusedVariables false
set_option linter.unusedSectionVars false
namespace Go.AM
open Go.Proofs
set_option maxRecDepth 10000
set_option maxHeartbeats 2000000
variable {S:Ag9} (hS:I2 S Tryz.prog) (hL:BV2 S)
include hS hL
def O3 (N:Nat) (q0:Int):Option (List (Int)):=
 Ae3 N (fun self1 (x1:Int)=>
  if (x1 != 0)=true then
   (F1 N x1).bind fun y3=>
   if (0:Int)<=y3 then
    Ad1 y3 (
     self1 (C6 .andNot .u64 x1 (shI .shl .u64 1 y3))
     )
   else none
  else
   some []
  ) q0
theorem Ai8 {N:Nat} {q0:Int} {L:List (Int)} (h:O3 N q0=some L) :
 Ao2 S Aa7 [] [.reg 0 0] [(.cells [(.p (pI .u64 q0))])] (L.map (fun (x:Int)=>[(pI .i64) x])):=by
 unfold O3 at h
 refine AA1 hS Av1 ?_
 refine Ax1 hS trivial h (fun x1 L1=>⟨[(1,(.reg 0 0)),(0,(.yf 1))], [(1,(.yld (L1.map (fun (x:Int)=>[(pI .i64) x])) true)),(0,(.cells [(.p (pI .u64 x1))]))]⟩) (ids:=[(0,0),(1,1)]) (fun _ _ _ _ _ self1 x1 L1 hb1 h=>?_)
 refine A1 hS trivial (b:=x1 != 0) (fun c9=>?_) (fun c9=>?_)
 ·replace h:=itT c9 h
  obtain ⟨y3,e3,h⟩:=A4 h
  refine A2 hS [] trivial (Al2 hS hL e3) ?_
  refine BJ8 hS trivial ?_
  obtain ⟨c10,h⟩:=F3 h
  refine M0 c10 ?_
  obtain ⟨L4,rfl,hcL4⟩:=Be0 h
  replace h:=hcL4
  refine Ao3 hS trivial (ys:=(fun (x:Int)=>[(pI .i64) x]) y3) (rest:=L4.map (fun (x:Int)=>[(pI .i64) x])) ?_ ?_
  ·refine A1 hS trivial (b:=false) (fun c11=>?_) (fun c11=>?_)
   ·exact Bool.noConfusion ((rfl:false=false).symm.trans c11)
   ·exact hb1 _ [(0,0),(1,1)] _ (C6 .andNot .u64 x1 (shI .shl .u64 1 y3)) L4 trivial h
  ·refine A1 hS trivial (b:=true) (fun c12=>?_) (fun c12=>?_)
   ·exact B4 hS trivial (a:=.tup []) (objs:=[(.cells [(.p (pI .u64 (C6 .andNot .u64 x1 (shI .shl .u64 1 y3))))]),(.yld [] false)]) ⟨[], [(1,(.yld [] false)),(0,(.cells [(.p (pI .u64 (C6 .andNot .u64 x1 (shI .shl .u64 1 y3))))]))]⟩ [0,1] (ids:=[(0,0),(1,1)]) ⟨false,rfl,rfl,_,rfl⟩
   ·exact Bool.noConfusion ((rfl:true=true).symm.trans c12)
 ·replace h:=itF c9 h
  obtain rfl:=A3 h
  exact B4 hS trivial (a:=.tup []) (objs:=[(.cells [(.p (pI .u64 x1))]),(.yld [] true)]) ⟨[], [(1,(.yld [] true)),(0,(.cells [(.p (pI .u64 x1))]))]⟩ [0,1] (ids:=[(0,0),(1,1)]) ⟨true,rfl,rfl,_,rfl⟩
def Z5 (N:Nat) (p_s:Int):Option (Int):=
 some p_s
theorem Ao7 {N:Nat} {p_s:Int}   {y:(Int)} (h:Z5 N p_s=some y) :
 FunO S AD2 [(.p (pI .u64 p_s))] [] (.clo Aa7 [] [.reg 0 0]) ([(.cells [(.p (pI .u64 y))])]) []:=by
 unfold Z5 at h
 refine A6 hS Bf5 ?_
 obtain rfl:=A3 h
 exact B4 hS trivial ⟨[(2,(.clo Aa7 [] [(.reg 2000 0)]))], [(2000,(.cells [(.p (pI .u64 p_s))]))]⟩ [2000] (ids:=[(2000,2000)]) ⟨rfl,rfl,rfl⟩
def D3 (N:Nat) (p_x:(Nat->Int)) (p_y:(Nat->Int)):Option (Nat->Int):=
 V9 N (fun self3 (x3:Nat->Int) (x4:Int)=>
  if (decide (x4 < 33))=true then
   if (((0:Int)<=x4/\x4 < 33)/\(0+x4.toNat * 1) < 33) then
    (Z5 N (p_x (0+x4.toNat * 1))).bind fun y3=>
    (O3 N y3).bind fun L3=>
    K4 L3 (fun self4 (x7:Int) (z3:Nat->Int)=>
     if (((((((0:Int)<=x4/\x4 < 33)/\(0+x4.toNat * 1) < 33)/\((0:Int)<=x7/\x7 < 33))/\(0+x7.toNat * 1) < 33)/\((0:Int)<=x4/\x4 < 33))/\(0+x4.toNat * 1) < 33) then
      self4 (AW4 z3 (0+x4.toNat * 1) (C6 .or .u64 (z3 (0+x4.toNat * 1)) (p_y (0+x7.toNat * 1))))
     else none
     ) (fun (z3:Nat->Int)=>
      self3 z3 (IntKind.wrap .i64 (x4+1))
     ) x3
   else none
  else
   some x3
  ) (fun _=>0) 0
theorem P9 {N:Nat} {p_x:(Nat->Int)} {p_y:(Nat->Int)}   {y:(Nat->Int)} (h:D3 N p_x p_y=some y) :
 FunO S Y2 [(.reg 0 0),(.reg 1 0)] [(.arr 33 (fun i=>pI .u64 (p_x i))),(.arr 33 (fun i=>pI .u64 (p_y i)))] (.p (.agg (cA 33 (pI .u64) y))) ([(.arr 33 (fun i=>pI .u64 (p_x i))),(.arr 33 (fun i=>pI .u64 (p_y i)))]) [true,true]:=by
 unfold D3 at h
 refine A6 hS Aj1 ?_
 refine H9 hS trivial h (fun x3 x4=>⟨[(10,(pN x4)),(9,(.reg 0 0)),(5,(.reg 6000 0)),(4,(.reg 5000 0)),(3,(.reg 4000 0))], [(6000,(.arr 33 (fun i=>pI .u64 (x3 i)))),(5000,(.arr 33 (fun i=>pI .u64 ((fun _=>0) i)))),(4000,(.cells [(.reg 1 0)])),(1,(.arr 33 (fun i=>pI .u64 (p_y i)))),(0,(.arr 33 (fun i=>pI .u64 (p_x i))))]⟩) (ids:=[(0,0),(1,1),(4000,4000),(5000,5000),(6000,6000)]) (fun _ _ _ _ _ self3 x3 x4 hb3 h=>?_) (hle:=(klR [(1, .fn 33 33 (fun i=>[(fun i=>(List.replicate 33 (pI .u64 0)).getD i default) i]) (fun i=>[pI .u64 ((fun _=>0) i)])),(2, .fn 33 33 (fun i=>[(fun i=>(List.replicate 33 (pI .u64 0)).getD i default) i]) (fun i=>[pI .u64 ((fun _=>0) i)]))] (al1 ⟨rfl,(Af0 (z:=pI .u64 0) rfl)⟩ (al1 ⟨rfl,(Af0 (z:=pI .u64 0) rfl)⟩ al0))))
 refine A1 hS trivial (b:=decide (x4 < 33)) (fun c11=>?_) (fun c11=>?_)
 ·replace h:=itT c11 h
  refine T2 hS trivial [(2, .l [0]),(3, .l [0]),(4, .a [7000]),(5, .a [7000])] ?_
  obtain ⟨c12,h⟩:=F3 h
  refine M0 c12 ?_
  refine R7 hS trivial 16 7000 [(pI .i64 x4)] ?_
  obtain ⟨y3,e5,h⟩:=A4 h
  refine A2 hS [] trivial (Ao7 hS hL e5) ?_
  obtain ⟨L3,e6,h⟩:=A4 h
  refine AL5 hS trivial [18000] [10,9,6,5,4,3] 905 (fun z3=>⟨[(10,(pN x4)),(9,(.reg 0 0)),(6,(.p (.ptr [(pI .i64 x4)]))),(5,(.reg 6000 0)),(4,(.reg 5000 0)),(3,(.reg 4000 0))], [(6000,(.arr 33 (fun i=>pI .u64 (z3 i)))),(5000,(.arr 33 (fun i=>pI .u64 ((fun _=>0) i)))),(4000,(.cells [(.reg 1 0)])),(1,(.arr 33 (fun i=>pI .u64 (p_y i)))),(0,(.arr 33 (fun i=>pI .u64 (p_x i))))]⟩) (idl:=[(0,0),(1,1),(4000,4000),(5000,5000),(6000,6000)]) h (Ai8 hS hL e6) (fun _=>by kernel_rfl) (fun _=>by kernel_rfl) (fun _=>by kernel_rfl) (fun _=>by kernel_rfl) (fun x7 _ self4 z3 hb4 h=>?_) (fun z3 h=>?_)
  ·refine AL6 hS trivial ?_
   refine T2 hS trivial [(0, .n),(1, .l [6000]),(2, .l [6000]),(3, .l [4000]),(6, .l [1]),(7, .l [1]),(9, .l [6000]),(10, .a [6000])] ?_
   obtain ⟨c15,h⟩:=F3 h
   refine M0 c15 ?_
   exact hb4 _ [(0,0),(1,1),(905,905),(4000,4000),(5000,5000),(6000,6000)] _ (AW4 z3 (0+x4.toNat * 1) (C6 .or .u64 (z3 (0+x4.toNat * 1)) (p_y (0+x7.toNat * 1)))) trivial h (by kernel_rfl) (by kernel_rfl) (klR [(0, .fn 33 33 (fun i=>[(fun i=>if i=(0+x4.toNat * 1) then (pI .u64 (C6 .or .u64 (z3 (0+x4.toNat * 1)) (p_y (0+x7.toNat * 1)))) else (fun i=>pI .u64 (z3 i)) i) i]) (fun i=>[pI .u64 ((AW4 z3 (0+x4.toNat * 1) (C6 .or .u64 (z3 (0+x4.toNat * 1)) (p_y (0+x7.toNat * 1)))) i)]))] (al1 ⟨rfl,(CJ1 (c:=pI .u64) (v:=z3) (x:=C6 .or .u64 (z3 (0+x4.toNat * 1)) (p_y (0+x7.toNat * 1))) (fun _ _=>rfl) rfl)⟩ al0))
  ·exact hb3 _ [(0,0),(1,1),(4000,4000),(5000,5000),(6000,6000)] _ z3 (IntKind.wrap .i64 (x4+1)) trivial h
 ·replace h:=itF c11 h
  obtain rfl:=A3 h
  exact B4 hS (And.intro rfl (E7 _ _):(0:Nat)=0/\(Ai6 33 (fun i=>pI .u64 (x3 i))).length=33) ⟨[(4,(.reg 5000 0))], [(5000,(.arr 33 (fun i=>pI .u64 (x3 i)))),(1,(.arr 33 (fun i=>pI .u64 (p_y i)))),(0,(.arr 33 (fun i=>pI .u64 (p_x i))))]⟩ [0,1] (ids:=[(0,0),(1,1),(5000,5000)]) ⟨rfl,rfl,rfl⟩ (hle:=(klR [(0, .fn 33 33 (fun i=>[(fun i=>(cA 33 (pI .u64) x3).getD i default) i]) (fun i=>[pI .u64 (x3 i)]))] (al1 ⟨rfl,(D7 33 (fun i=>pI .u64 (x3 i)))⟩ al0)))
def H4 (N:Nat) (p_x:(Nat->Int)):Option (Nat->Int):=
 V9 N (fun self3 (x3:Nat->Int) (x4:Int)=>
  if (decide (x4 < 33))=true then
   if (((0:Int)<=x4/\x4 < 33)/\(0+x4.toNat * 1) < 33) then
    (Z5 N (p_x (0+x4.toNat * 1))).bind fun y3=>
    (O3 N y3).bind fun L3=>
    K4 L3 (fun self4 (x7:Int) (z3:Nat->Int)=>
     if (((((((0:Int)<=x4/\x4 < 33)/\(0+x4.toNat * 1) < 33)/\((0:Int)<=x7/\x7 < 33))/\(0+x7.toNat * 1) < 33)/\((0:Int)<=x4/\x4 < 33))/\(0+x4.toNat * 1) < 33) then
      self4 (AW4 z3 (0+x4.toNat * 1) (C6 .or .u64 (z3 (0+x4.toNat * 1)) (p_x (0+x7.toNat * 1))))
     else none
     ) (fun (z3:Nat->Int)=>
      self3 z3 (IntKind.wrap .i64 (x4+1))
     ) x3
   else none
  else
   some x3
  ) (fun _=>0) 0
theorem Ah7 {N:Nat} {p_x:(Nat->Int)}   {y:(Nat->Int)} (h:H4 N p_x=some y) :
 FunO S Y2 [(.reg 0 0),(.reg 0 0)] [(.arr 33 (fun i=>pI .u64 (p_x i)))] (.p (.agg (cA 33 (pI .u64) y))) ([(.arr 33 (fun i=>pI .u64 (p_x i)))]) [true]:=by
 unfold H4 at h
 refine A6 hS Aj1 ?_
 refine H9 hS trivial h (fun x3 x4=>⟨[(10,(pN x4)),(9,(.reg 0 0)),(5,(.reg 6000 0)),(4,(.reg 5000 0)),(3,(.reg 4000 0))], [(6000,(.arr 33 (fun i=>pI .u64 (x3 i)))),(5000,(.arr 33 (fun i=>pI .u64 ((fun _=>0) i)))),(4000,(.cells [(.reg 0 0)])),(0,(.arr 33 (fun i=>pI .u64 (p_x i))))]⟩) (ids:=[(0,0),(4000,4000),(5000,5000),(6000,6000)]) (fun _ _ _ _ _ self3 x3 x4 hb3 h=>?_) (hle:=(klR [(1, .fn 33 33 (fun i=>[(fun i=>(List.replicate 33 (pI .u64 0)).getD i default) i]) (fun i=>[pI .u64 ((fun _=>0) i)])),(2, .fn 33 33 (fun i=>[(fun i=>(List.replicate 33 (pI .u64 0)).getD i default) i]) (fun i=>[pI .u64 ((fun _=>0) i)]))] (al1 ⟨rfl,(Af0 (z:=pI .u64 0) rfl)⟩ (al1 ⟨rfl,(Af0 (z:=pI .u64 0) rfl)⟩ al0))))
 refine A1 hS trivial (b:=decide (x4 < 33)) (fun c11=>?_) (fun c11=>?_)
 ·replace h:=itT c11 h
  refine T2 hS trivial [(2, .l [0]),(3, .l [0]),(4, .a [7000]),(5, .a [7000])] ?_
  obtain ⟨c12,h⟩:=F3 h
  refine M0 c12 ?_
  refine R7 hS trivial 16 7000 [(pI .i64 x4)] ?_
  obtain ⟨y3,e5,h⟩:=A4 h
  refine A2 hS [] trivial (Ao7 hS hL e5) ?_
  obtain ⟨L3,e6,h⟩:=A4 h
  refine AL5 hS trivial [18000] [10,9,6,5,4,3] 905 (fun z3=>⟨[(10,(pN x4)),(9,(.reg 0 0)),(6,(.p (.ptr [(pI .i64 x4)]))),(5,(.reg 6000 0)),(4,(.reg 5000 0)),(3,(.reg 4000 0))], [(6000,(.arr 33 (fun i=>pI .u64 (z3 i)))),(5000,(.arr 33 (fun i=>pI .u64 ((fun _=>0) i)))),(4000,(.cells [(.reg 0 0)])),(0,(.arr 33 (fun i=>pI .u64 (p_x i))))]⟩) (idl:=[(0,0),(4000,4000),(5000,5000),(6000,6000)]) h (Ai8 hS hL e6) (fun _=>by kernel_rfl) (fun _=>by kernel_rfl) (fun _=>by kernel_rfl) (fun _=>by kernel_rfl) (fun x7 _ self4 z3 hb4 h=>?_) (fun z3 h=>?_)
  ·refine AL6 hS trivial ?_
   refine T2 hS trivial [(0, .n),(1, .l [6000]),(2, .l [6000]),(3, .l [4000]),(6, .l [0]),(7, .l [0]),(9, .l [6000]),(10, .a [6000])] ?_
   obtain ⟨c15,h⟩:=F3 h
   refine M0 c15 ?_
   exact hb4 _ [(0,0),(905,905),(4000,4000),(5000,5000),(6000,6000)] _ (AW4 z3 (0+x4.toNat * 1) (C6 .or .u64 (z3 (0+x4.toNat * 1)) (p_x (0+x7.toNat * 1)))) trivial h (by kernel_rfl) (by kernel_rfl) (klR [(0, .fn 33 33 (fun i=>[(fun i=>if i=(0+x4.toNat * 1) then (pI .u64 (C6 .or .u64 (z3 (0+x4.toNat * 1)) (p_x (0+x7.toNat * 1)))) else (fun i=>pI .u64 (z3 i)) i) i]) (fun i=>[pI .u64 ((AW4 z3 (0+x4.toNat * 1) (C6 .or .u64 (z3 (0+x4.toNat * 1)) (p_x (0+x7.toNat * 1)))) i)]))] (al1 ⟨rfl,(CJ1 (c:=pI .u64) (v:=z3) (x:=C6 .or .u64 (z3 (0+x4.toNat * 1)) (p_x (0+x7.toNat * 1))) (fun _ _=>rfl) rfl)⟩ al0))
  ·exact hb3 _ [(0,0),(4000,4000),(5000,5000),(6000,6000)] _ z3 (IntKind.wrap .i64 (x4+1)) trivial h
 ·replace h:=itF c11 h
  obtain rfl:=A3 h
  exact B4 hS (And.intro rfl (E7 _ _):(0:Nat)=0/\(Ai6 33 (fun i=>pI .u64 (x3 i))).length=33) ⟨[(4,(.reg 5000 0))], [(5000,(.arr 33 (fun i=>pI .u64 (x3 i)))),(0,(.arr 33 (fun i=>pI .u64 (p_x i))))]⟩ [0] (ids:=[(0,0),(5000,5000)]) ⟨rfl,rfl,rfl⟩ (hle:=(klR [(0, .fn 33 33 (fun i=>[(fun i=>(cA 33 (pI .u64) x3).getD i default) i]) (fun i=>[pI .u64 (x3 i)]))] (al1 ⟨rfl,(D7 33 (fun i=>pI .u64 (x3 i)))⟩ al0)))
def E6 (N:Nat) (p_x:(Nat->Int)) (p_k:Int) (p_n:Int):Option (Nat->Int):=
 (N9 N p_n).bind fun y1=>
 CN1 N (fun self1 (x1:Int) (x2:Nat->Int) (x3:Nat->Int)=>
  if (decide (0 < x1))=true then
   if ((C6 .and .i64 x1 1) == 1)=true then
    (D3 N x3 x2).bind fun y8=>
    (H4 N x2).bind fun y9=>
    self1 (shI .shr .i64 x1 1) y9 y8
   else
    (H4 N x2).bind fun y10=>
    self1 (shI .shr .i64 x1 1) y10 x3
  else
   some x3
  ) p_k p_x y1
theorem V2 {N:Nat} {p_x:(Nat->Int)} {p_k:Int} {p_n:Int}   {y:(Nat->Int)} (h:E6 N p_x p_k p_n=some y) :
 FunO S Ah2 [(.p (.agg (cA 33 (pI .u64) p_x))),(pN p_k),(pN p_n)] [] (.p (.agg (cA 33 (pI .u64) y))) ([]) []:=by
 unfold E6 at h
 refine A6 hS Ax9 ?_
 obtain ⟨y1,e1,h⟩:=A4 h
 refine A2 hS [] trivial (Al6 hS hL e1) ?_
 refine BU5 hS (And.intro rfl (E7 _ _):(0:Nat)=0/\(Ai6 33 (fun i=>pI .u64 (y1 i))).length=33) h (fun x1 x2 x3=>⟨[(7,(.reg 8000 0)),(6,(.reg 7000 0)),(3,(.reg 4000 0)),(1,(pN x1))], [(8000,(.arr 33 (fun i=>pI .u64 (x3 i)))),(7000,(.arr 33 (fun i=>pI .u64 ((fun _=>0) i)))),(4000,(.arr 33 (fun i=>pI .u64 (x2 i))))]⟩) (ids:=[(4000,4000),(7000,7000),(8000,8000)]) (fun _ _ _ _ _ self1 x1 x2 x3 hb1 h=>?_) (hle:=(klR [(1, .fn 33 33 (fun i=>[(fun i=>(cA 33 (pI .u64) y1).getD i default) i]) (fun i=>[pI .u64 (y1 i)])),(2, .fn 33 33 (fun i=>[(fun i=>(List.replicate 33 (pI .u64 0)).getD i default) i]) (fun i=>[pI .u64 ((fun _=>0) i)])),(3, .fn 33 33 (fun i=>[(fun i=>(cA 33 (pI .u64) p_x).getD i default) i]) (fun i=>[pI .u64 (p_x i)]))] (al1 ⟨rfl,(D7 33 (fun i=>pI .u64 (y1 i)))⟩ (al1 ⟨rfl,(Af0 (z:=pI .u64 0) rfl)⟩ (al1 ⟨rfl,(D7 33 (fun i=>pI .u64 (p_x i)))⟩ al0)))))
 refine A1 hS trivial (b:=decide (0 < x1)) (fun c5=>?_) (fun c5=>?_)
 ·replace h:=itT c5 h
  refine A1 hS trivial (b:=(C6 .and .i64 x1 1) == 1) (fun c6=>?_) (fun c6=>?_)
  ·replace h:=itT c6 h
   obtain ⟨y8,e8,h⟩:=A4 h
   refine A2 hS [8000,4000] trivial (P9 hS hL e8) ?_
   obtain ⟨y9,e9,h⟩:=A4 h
   refine A2 hS [4000] (And.intro rfl (E7 _ _):(0:Nat)=0/\(Ai6 33 (fun i=>pI .u64 (y8 i))).length=33) (Ah7 hS hL e9) ?_
   exact hb1 _ [(4000,4000),(7000,7000),(8000,8000)] _ (shI .shr .i64 x1 1) y9 y8 (And.intro (And.intro rfl (E7 _ _):(0:Nat)=0/\(Ai6 33 (fun i=>pI .u64 (y9 i))).length=33) (by decide:(0:Int)<=1)) h (by kernel_rfl) (by kernel_rfl) (klR [(1, .fn 33 33 (fun i=>[(fun i=>(cA 33 (pI .u64) y8).getD i default) i]) (fun i=>[pI .u64 (y8 i)])),(3, .fn 33 33 (fun i=>[(fun i=>(cA 33 (pI .u64) y9).getD i default) i]) (fun i=>[pI .u64 (y9 i)]))] (al1 ⟨rfl,(D7 33 (fun i=>pI .u64 (y8 i)))⟩ (al1 ⟨rfl,(D7 33 (fun i=>pI .u64 (y9 i)))⟩ al0)))
  ·replace h:=itF c6 h
   obtain ⟨y10,e10,h⟩:=A4 h
   refine A2 hS [4000] trivial (Ah7 hS hL e10) ?_
   exact hb1 _ [(4000,4000),(7000,7000),(8000,8000)] _ (shI .shr .i64 x1 1) y10 x3 (And.intro (And.intro rfl (E7 _ _):(0:Nat)=0/\(Ai6 33 (fun i=>pI .u64 (y10 i))).length=33) (by decide:(0:Int)<=1)) h (by kernel_rfl) (by kernel_rfl) (klR [(3, .fn 33 33 (fun i=>[(fun i=>(cA 33 (pI .u64) y10).getD i default) i]) (fun i=>[pI .u64 (y10 i)]))] (al1 ⟨rfl,(D7 33 (fun i=>pI .u64 (y10 i)))⟩ al0))
 ·replace h:=itF c5 h
  obtain rfl:=A3 h
  exact B4 hS (And.intro rfl (E7 _ _):(0:Nat)=0/\(Ai6 33 (fun i=>pI .u64 (x3 i))).length=33) ⟨[(6,(.reg 7000 0))], [(7000,(.arr 33 (fun i=>pI .u64 (x3 i))))]⟩ [] (ids:=[(7000,7000)]) ⟨rfl,rfl,rfl⟩ (hle:=(klR [(0, .fn 33 33 (fun i=>[(fun i=>(cA 33 (pI .u64) x3).getD i default) i]) (fun i=>[pI .u64 (x3 i)]))] (al1 ⟨rfl,(D7 33 (fun i=>pI .u64 (x3 i)))⟩ al0)))
end Go.AM
set_option linter.unusedVariables false
set_option linter.unusedSectionVars false
namespace Go.AM
open Go.Proofs
set_option maxRecDepth 10000
set_option maxHeartbeats 2000000
variable {S:Ag9} (hS:I2 S Tryz.prog) (hL:BV2 S)
include hS hL
def V4 (N:Nat) (p_x:Cm0) (p_w:(Sl Sound)):Option (Nat->Int):=
 V9 N (fun self1 (x1:Nat->Int) (x2:Int)=>
  if (decide (x2 < (p_w.n:Int)))=true then
   if ((0:Int)<=x2/\x2 < (p_w.n:Int)) then
    if ((((C6 .or .u32 (C6 .andNot .u32 p_x.is.Plus (p_w.g x2.toNat).Plus) (C6 .andNot .u32 p_x.is.Minus (p_w.g x2.toNat).Minus)) == 0) == p_x.not) != true)=true then
     if (((0:Int)<=(IntKind.wrap .i64 (x2+1))/\((0:Int)<=x2/\x2 < 33))/\(0+x2.toNat * 1) < 33) then
      self1 (AW4 x1 (0+x2.toNat * 1) (shI .shl .u64 1 (IntKind.wrap .i64 (x2+1)))) (IntKind.wrap .i64 (x2+1))
     else none
    else
     self1 x1 (IntKind.wrap .i64 (x2+1))
   else none
  else
   some x1
  ) (fun _=>0) 0
theorem Ba8 {N:Nat} {p_x:Cm0} {p_w:(Sl Sound)}   {y:(Nat->Int)} (h:V4 N p_x p_w=some y) :
 FunO S Al1 [(.p (.agg (BV0 p_x))),(.p (vSl 2 A0 p_w))] [] (.p (.agg (cA 33 (pI .u64) y))) ([]) []:=by
 unfold V4 at h
 refine A6 hS AZ6 ?_
 refine H9 hS trivial h (fun x1 x2=>⟨[(9,(pN x2)),(8,(pN (p_w.n:Int))),(7,(.p (vSl 2 A0 p_w))),(4,(.reg 5000 0)),(2,(.reg 3000 0))], [(5000,(.arr 33 (fun i=>pI .u64 (x1 i)))),(3000,(.cells ((BV0 p_x).map .p)))]⟩) (ids:=[(3000,3000),(5000,5000)]) (fun _ _ _ _ _ self1 x1 x2 hb1 h=>?_) (hle:=(klR [(3, .fn 33 33 (fun i=>[(fun i=>(List.replicate 33 (pI .u64 0)).getD i default) i]) (fun i=>[pI .u64 ((fun _=>0) i)]))] (al1 ⟨rfl,(Af0 (z:=pI .u64 0) rfl)⟩ al0)))
 refine A1 hS trivial (b:=decide (x2 < (p_w.n:Int))) (fun c7=>?_) (fun c7=>?_)
 ·replace h:=itT c7 h
  obtain ⟨c8,h⟩:=F3 h
  refine A1 hS (And.intro c8 (by decide:(2:Nat)<=2)) (b:=((((C6 .or .u32 (C6 .andNot .u32 p_x.is.Plus (p_w.g x2.toNat).Plus) (C6 .andNot .u32 p_x.is.Minus (p_w.g x2.toNat).Minus)) == 0) == p_x.not) != true)) (fun c9=>?_) (fun c9=>?_)
  ·replace h:=itT c9 h
   obtain ⟨c10,h⟩:=F3 h
   exact hb1 _ [(3000,3000),(5000,5000)] _ (AW4 x1 (0+x2.toNat * 1) (shI .shl .u64 1 (IntKind.wrap .i64 (x2+1)))) (IntKind.wrap .i64 (x2+1)) c10 h (by kernel_rfl) (by kernel_rfl) (klR [(3, .fn 33 33 (fun i=>[(fun i=>if i=(0+x2.toNat * 1) then (pI .u64 (shI .shl .u64 1 (IntKind.wrap .i64 (x2+1)))) else (fun i=>pI .u64 (x1 i)) i) i]) (fun i=>[pI .u64 ((AW4 x1 (0+x2.toNat * 1) (shI .shl .u64 1 (IntKind.wrap .i64 (x2+1)))) i)]))] (al1 ⟨rfl,(CJ1 (c:=pI .u64) (v:=x1) (x:=shI .shl .u64 1 (IntKind.wrap .i64 (x2+1))) (fun _ _=>rfl) rfl)⟩ al0))
  ·replace h:=itF c9 h
   exact hb1 _ [(3000,3000),(5000,5000)] _ x1 (IntKind.wrap .i64 (x2+1)) trivial h
 ·replace h:=itF c7 h
  obtain rfl:=A3 h
  exact B4 hS (And.intro rfl (E7 _ _):(0:Nat)=0/\(Ai6 33 (fun i=>pI .u64 (x1 i))).length=33) ⟨[(4,(.reg 5000 0))], [(5000,(.arr 33 (fun i=>pI .u64 (x1 i))))]⟩ [] (ids:=[(5000,5000)]) ⟨rfl,rfl,rfl⟩ (hle:=(klR [(0, .fn 33 33 (fun i=>[(fun i=>(cA 33 (pI .u64) x1).getD i default) i]) (fun i=>[pI .u64 (x1 i)]))] (al1 ⟨rfl,(D7 33 (fun i=>pI .u64 (x1 i)))⟩ al0)))
def Z6 (N:Nat) (p_x:CJ8) (p_w:(Sl Sound)):Option (Nat->Int):=
 if p_x.end_=true then
  if (((0:Int)<=(p_w.n:Int)/\((0:Int)<=(p_w.n:Int)/\(p_w.n:Int) < 33))/\(0+(p_w.n:Int).toNat * 1) < 33) then
   some (AW4 (fun _=>0) (0+(p_w.n:Int).toNat * 1) (shI .shl .u64 1 (p_w.n:Int)))
  else none
 else
  if (((0:Int)<=0/\(0:Int) < 33)/\(0+0 * 1) < 33) then
   some (AW4 (fun _=>0) (0+0 * 1) (shI .shl .u64 1 0))
  else none
theorem Bg2 {N:Nat} {p_x:CJ8} {p_w:(Sl Sound)}   {y:(Nat->Int)} (h:Z6 N p_x p_w=some y) :
 FunO S Ao5 [(.p (.agg (CJ9 p_x))),(.p (vSl 2 A0 p_w))] [] (.p (.agg (cA 33 (pI .u64) y))) ([]) []:=by
 unfold Z6 at h
 refine A6 hS Bf7 ?_
 refine A1 hS trivial (b:=p_x.end_) (fun c1=>?_) (fun c1=>?_)
 ·replace h:=itT c1 h
  obtain ⟨c2,h⟩:=F3 h
  obtain rfl:=A3 h
  exact B4 hS (And.intro (And.intro (And.intro c2.1.1 c2.1.2) c2.2) (And.intro rfl (E7 _ _):(0:Nat)=0/\(Ai6 33 (fun i=>if i=(0+(p_w.n:Int).toNat * 1) then (pI .u64 (shI .shl .u64 1 (p_w.n:Int))) else (fun i=>(List.replicate 33 (pI .u64 0)).getD i default) i)).length=33)) ⟨[(4,(.reg 5000 0))], [(5000,(.arr 33 (fun i=>pI .u64 ((AW4 (fun _=>0) (0+(p_w.n:Int).toNat * 1) (shI .shl .u64 1 (p_w.n:Int))) i))))]⟩ [] (ids:=[(5000,5000)]) ⟨rfl,rfl,rfl⟩ (hle:=(klR [(0, .fn 33 33 (fun i=>[(fun i=>(Ai6 33 (fun i=>if i=(0+(p_w.n:Int).toNat * 1) then (pI .u64 (shI .shl .u64 1 (p_w.n:Int))) else (fun i=>(List.replicate 33 (pI .u64 0)).getD i default) i)).getD i default) i]) (fun i=>[pI .u64 ((AW4 (fun _=>0) (0+(p_w.n:Int).toNat * 1) (shI .shl .u64 1 (p_w.n:Int))) i)]))] (al1 ⟨rfl,(fun i hi=>(D7 33 (fun i=>if i=(0+(p_w.n:Int).toNat * 1) then (pI .u64 (shI .shl .u64 1 (p_w.n:Int))) else (fun i=>(List.replicate 33 (pI .u64 0)).getD i default) i) i hi).trans ((CJ1 (c:=pI .u64) (v:=(fun _=>0)) (x:=shI .shl .u64 1 (p_w.n:Int)) (Af0 (z:=pI .u64 0) rfl) rfl) i hi))⟩ al0)))
 ·replace h:=itF c1 h
  obtain ⟨c3,h⟩:=F3 h
  obtain rfl:=A3 h
  exact B4 hS (And.intro (And.intro (And.intro (by decide:(0:Int)<=0) c3.1) c3.2) (And.intro rfl (E7 _ _):(0:Nat)=0/\(Ai6 33 (fun i=>if i=(0+0 * 1) then (pI .u64 (shI .shl .u64 1 0)) else (fun i=>(List.replicate 33 (pI .u64 0)).getD i default) i)).length=33)) ⟨[(4,(.reg 5000 0))], [(5000,(.arr 33 (fun i=>pI .u64 ((AW4 (fun _=>0) (0+0 * 1) (shI .shl .u64 1 0)) i))))]⟩ [] (ids:=[(5000,5000)]) ⟨rfl,rfl,rfl⟩ (hle:=(klR [(0, .fn 33 33 (fun i=>[(fun i=>(Ai6 33 (fun i=>if i=(0+0 * 1) then (pI .u64 (shI .shl .u64 1 0)) else (fun i=>(List.replicate 33 (pI .u64 0)).getD i default) i)).getD i default) i]) (fun i=>[pI .u64 ((AW4 (fun _=>0) (0+0 * 1) (shI .shl .u64 1 0)) i)]))] (al1 ⟨rfl,(fun i hi=>(D7 33 (fun i=>if i=(0+0 * 1) then (pI .u64 (shI .shl .u64 1 0)) else (fun i=>(List.replicate 33 (pI .u64 0)).getD i default) i) i hi).trans ((CJ1 (c:=pI .u64) (v:=(fun _=>0)) (x:=shI .shl .u64 1 0) (Af0 (z:=pI .u64 0) rfl) rfl) i hi))⟩ al0)))
def Ad6 (rec:Part->(Sl Sound)->Option ((Nat->Int))) (N:Nat) (p_x:Pseq) (p_w:(Sl Sound)):Option (Nat->Int):=
 (N9 N (p_w.n:Int)).bind fun y1=>
 V9 N (fun self1 (x1:Nat->Int) (x2:Int)=>
  if (decide (x2 < (p_x.l.n:Int)))=true then
   if ((0:Int)<=x2/\x2 < (p_x.l.n:Int)) then
    (rec (p_x.l.g x2.toNat) p_w).bind fun y6=>
    (D3 N x1 y6).bind fun y7=>
    self1 y7 (IntKind.wrap .i64 (x2+1))
   else none
  else
   some x1
  ) y1 0
theorem Br9 {N:Nat} {rec:Part->(Sl Sound)->Option ((Nat->Int))} (hrec:∀ {x:Part} {b0:(Sl Sound)} {y:(Nat->Int)},rec x b0=some y->CS0 S Tryz.prog (Ax3 x) "ablaut/pats.in" [(.p (vSl 2 A0 b0))] (.p (.agg (cA 33 (pI .u64) y)))) {p_x:Pseq} {p_w:(Sl Sound)} {y:(Nat->Int)} (h:Ad6 rec N p_x p_w=some y) :
 FunO S At5 [(.p (.agg (CS5 p_x))),(.p (vSl 2 A0 p_w))] [] (.p (.agg (cA 33 (pI .u64) y))) ([]) []:=by
 unfold Ad6 at h
 refine A6 hS Br5 ?_
 obtain ⟨y1,e1,h⟩:=A4 h
 refine A2 hS [] trivial (Al6 hS hL e1) ?_
 refine H9 hS (And.intro rfl (E7 _ _):(0:Nat)=0/\(Ai6 33 (fun i=>pI .u64 (y1 i))).length=33) h (fun x1 x2=>⟨[(15,(pN x2)),(14,(pN (p_x.l.n:Int))),(13,(.p (vSl 1 Aq2 p_x.l))),(5,(.reg 6000 0)),(4,(.reg 5000 0)),(1,(.p (vSl 2 A0 p_w)))], [(6000,(.arr 33 (fun i=>pI .u64 (x1 i)))),(5000,(.arr 33 (fun i=>pI .u64 ((fun _=>0) i))))]⟩) (ids:=[(5000,5000),(6000,6000)]) (fun _ _ _ _ _ self1 x1 x2 hb1 h=>?_) (hle:=(klR [(4, .fn 33 33 (fun i=>[(fun i=>(cA 33 (pI .u64) y1).getD i default) i]) (fun i=>[pI .u64 (y1 i)])),(5, .fn 33 33 (fun i=>[(fun i=>(List.replicate 33 (pI .u64 0)).getD i default) i]) (fun i=>[pI .u64 ((fun _=>0) i)]))] (al1 ⟨rfl,(D7 33 (fun i=>pI .u64 (y1 i)))⟩ (al1 ⟨rfl,(Af0 (z:=pI .u64 0) rfl)⟩ al0))))
 refine A1 hS trivial (b:=decide (x2 < (p_x.l.n:Int))) (fun c5=>?_) (fun c5=>?_)
 ·replace h:=itT c5 h
  obtain ⟨c6,h⟩:=F3 h
  obtain ⟨y6,e6,h⟩:=A4 h
  refine AS9 hS c6 (hrec e6) ?_
  refine Ac1 hS (And.intro rfl (E7 _ _):(0:Nat)=0/\(Ai6 33 (fun i=>pI .u64 (y6 i))).length=33) ⟨[(15,(pN x2)),(14,(pN (p_x.l.n:Int))),(13,(.p (vSl 1 Aq2 p_x.l))),(8,(.reg 9000 0)),(5,(.reg 6000 0)),(4,(.reg 5000 0)),(1,(.p (vSl 2 A0 p_w)))], [(9000,(.arr 33 (fun i=>pI .u64 (y6 i)))),(6000,(.arr 33 (fun i=>pI .u64 (x1 i)))),(5000,(.arr 33 (fun i=>pI .u64 ((fun _=>0) i))))]⟩ (ids:=[(5000,5000),(6000,6000),(9000,9000)]) ?_ (hle:=(klR [(4, .fn 33 33 (fun i=>[(fun i=>(cA 33 (pI .u64) y6).getD i default) i]) (fun i=>[pI .u64 (y6 i)]))] (al1 ⟨rfl,(D7 33 (fun i=>pI .u64 (y6 i)))⟩ al0)))
  obtain ⟨y7,e7,h⟩:=A4 h
  refine A2 hS [6000,9000] trivial (P9 hS hL e7) ?_
  exact hb1 _ [(5000,5000),(6000,6000)] _ y7 (IntKind.wrap .i64 (x2+1)) (And.intro rfl (E7 _ _):(0:Nat)=0/\(Ai6 33 (fun i=>pI .u64 (y7 i))).length=33) h (by kernel_rfl) (by kernel_rfl) (klR [(4, .fn 33 33 (fun i=>[(fun i=>(cA 33 (pI .u64) y7).getD i default) i]) (fun i=>[pI .u64 (y7 i)]))] (al1 ⟨rfl,(D7 33 (fun i=>pI .u64 (y7 i)))⟩ al0))
 ·replace h:=itF c5 h
  obtain rfl:=A3 h
  exact B4 hS (And.intro rfl (E7 _ _):(0:Nat)=0/\(Ai6 33 (fun i=>pI .u64 (x1 i))).length=33) ⟨[(4,(.reg 5000 0))], [(5000,(.arr 33 (fun i=>pI .u64 (x1 i))))]⟩ [] (ids:=[(5000,5000)]) ⟨rfl,rfl,rfl⟩ (hle:=(klR [(0, .fn 33 33 (fun i=>[(fun i=>(cA 33 (pI .u64) x1).getD i default) i]) (fun i=>[pI .u64 (x1 i)]))] (al1 ⟨rfl,(D7 33 (fun i=>pI .u64 (x1 i)))⟩ al0)))
def Ad7 (rec:Part->(Sl Sound)->Option ((Nat->Int))) (N:Nat) (p_x:Palt) (p_w:(Sl Sound)):Option (Nat->Int):=
 V9 N (fun self1 (x1:Nat->Int) (x2:Int)=>
  if (decide (x2 < (p_x.l.n:Int)))=true then
   if ((0:Int)<=x2/\x2 < (p_x.l.n:Int)) then
    (rec (p_x.l.g x2.toNat) p_w).bind fun y5=>
    (J4 N x1 y5).bind fun y6=>
    self1 y6 (IntKind.wrap .i64 (x2+1))
   else none
  else
   some x1
  ) (fun _=>0) 0
theorem Bs0 {N:Nat} {rec:Part->(Sl Sound)->Option ((Nat->Int))} (hrec:∀ {x:Part} {b0:(Sl Sound)} {y:(Nat->Int)},rec x b0=some y->CS0 S Tryz.prog (Ax3 x) "ablaut/pats.in" [(.p (vSl 2 A0 b0))] (.p (.agg (cA 33 (pI .u64) y)))) {p_x:Palt} {p_w:(Sl Sound)} {y:(Nat->Int)} (h:Ad7 rec N p_x p_w=some y) :
 FunO S At3 [(.p (.agg (CS2 p_x))),(.p (vSl 2 A0 p_w))] [] (.p (.agg (cA 33 (pI .u64) y))) ([]) []:=by
 unfold Ad7 at h
 refine A6 hS Br3 ?_
 refine H9 hS trivial h (fun x1 x2=>⟨[(11,(pN x2)),(10,(pN (p_x.l.n:Int))),(9,(.p (vSl 1 Aq2 p_x.l))),(4,(.reg 5000 0)),(1,(.p (vSl 2 A0 p_w)))], [(5000,(.arr 33 (fun i=>pI .u64 (x1 i))))]⟩) (ids:=[(5000,5000)]) (fun _ _ _ _ _ self1 x1 x2 hb1 h=>?_) (hle:=(klR [(4, .fn 33 33 (fun i=>[(fun i=>(List.replicate 33 (pI .u64 0)).getD i default) i]) (fun i=>[pI .u64 ((fun _=>0) i)]))] (al1 ⟨rfl,(Af0 (z:=pI .u64 0) rfl)⟩ al0)))
 refine A1 hS trivial (b:=decide (x2 < (p_x.l.n:Int))) (fun c5=>?_) (fun c5=>?_)
 ·replace h:=itT c5 h
  obtain ⟨c6,h⟩:=F3 h
  obtain ⟨y5,e5,h⟩:=A4 h
  refine AS9 hS c6 (hrec e5) ?_
  refine Ac1 hS (And.intro rfl (E7 _ _):(0:Nat)=0/\(Ai6 33 (fun i=>pI .u64 (y5 i))).length=33) ⟨[(11,(pN x2)),(10,(pN (p_x.l.n:Int))),(9,(.p (vSl 1 Aq2 p_x.l))),(7,(.reg 8000 0)),(4,(.reg 5000 0)),(1,(.p (vSl 2 A0 p_w)))], [(8000,(.arr 33 (fun i=>pI .u64 (y5 i)))),(5000,(.arr 33 (fun i=>pI .u64 (x1 i))))]⟩ (ids:=[(5000,5000),(8000,8000)]) ?_ (hle:=(klR [(4, .fn 33 33 (fun i=>[(fun i=>(cA 33 (pI .u64) y5).getD i default) i]) (fun i=>[pI .u64 (y5 i)]))] (al1 ⟨rfl,(D7 33 (fun i=>pI .u64 (y5 i)))⟩ al0)))
  obtain ⟨y6,e6,h⟩:=A4 h
  refine A2 hS [5000,8000] trivial (An6 hS hL e6) ?_
  exact hb1 _ [(5000,5000)] _ y6 (IntKind.wrap .i64 (x2+1)) trivial h
 ·replace h:=itF c5 h
  obtain rfl:=A3 h
  exact B4 hS (And.intro rfl (E7 _ _):(0:Nat)=0/\(Ai6 33 (fun i=>pI .u64 (x1 i))).length=33) ⟨[(4,(.reg 5000 0))], [(5000,(.arr 33 (fun i=>pI .u64 (x1 i))))]⟩ [] (ids:=[(5000,5000)]) ⟨rfl,rfl,rfl⟩ (hle:=(klR [(0, .fn 33 33 (fun i=>[(fun i=>(cA 33 (pI .u64) x1).getD i default) i]) (fun i=>[pI .u64 (x1 i)]))] (al1 ⟨rfl,(D7 33 (fun i=>pI .u64 (x1 i)))⟩ al0)))
def Ad8 (rec:Part->(Sl Sound)->Option ((Nat->Int))) (N:Nat) (p_x:CS3) (p_w:(Sl Sound)):Option (Nat->Int):=
 (rec p_x.of p_w).bind fun y1=>
 (E6 N y1 p_x.min (p_w.n:Int)).bind fun y2=>
 (N9 N (p_w.n:Int)).bind fun y3=>
 (J4 N y1 y3).bind fun y4=>
 if (decide (p_x.max < 0))=true then
  (E6 N y4 (p_w.n:Int) (p_w.n:Int)).bind fun y5=>
  (D3 N y2 y5).bind fun y6=>
  some y6
 else
  (E6 N y4 (IntKind.wrap .i64 (p_x.max - p_x.min)) (p_w.n:Int)).bind fun y7=>
  (D3 N y2 y7).bind fun y8=>
  some y8
theorem Bs1 {N:Nat} {rec:Part->(Sl Sound)->Option ((Nat->Int))} (hrec:∀ {x:Part} {b0:(Sl Sound)} {y:(Nat->Int)},rec x b0=some y->CS0 S Tryz.prog (Ax3 x) "ablaut/pats.in" [(.p (vSl 2 A0 b0))] (.p (.agg (cA 33 (pI .u64) y)))) {p_x:CS3} {p_w:(Sl Sound)} {y:(Nat->Int)} (h:Ad8 rec N p_x p_w=some y) :
 FunO S At4 [(.p (.agg (CS4 p_x))),(.p (vSl 2 A0 p_w))] [] (.p (.agg (cA 33 (pI .u64) y))) ([]) []:=by
 unfold Ad8 at h
 refine A6 hS Br4 ?_
 obtain ⟨y1,e1,h⟩:=A4 h
 refine AS9 hS trivial (hrec e1) ?_
 refine Ac1 hS (And.intro rfl (E7 _ _):(0:Nat)=0/\(Ai6 33 (fun i=>pI .u64 (y1 i))).length=33) ⟨[(18,(pN (p_w.n:Int))),(16,(pN p_x.min)),(14,(.p (.agg (cA 33 (pI .u64) y1)))),(5,(.reg 6000 0)),(4,(.reg 5000 0)),(2,(.reg 3000 0)),(1,(.p (vSl 2 A0 p_w)))], [(6000,(.arr 33 (fun i=>pI .u64 (y1 i)))),(5000,(.arr 33 (fun i=>pI .u64 ((fun _=>0) i)))),(3000,(.cells [(.p (Ax3 p_x.of)),(pN p_x.min),(pN p_x.max)]))]⟩ (ids:=[(3000,3000),(5000,5000),(6000,6000)]) ?_ (hle:=(klR [(2, .eq (.agg (Ai6 33 (fun i=>(cA 33 (pI .u64) y1).getD i default))) (.agg (cA 33 (pI .u64) y1))),(4, .fn 33 33 (fun i=>[(fun i=>(cA 33 (pI .u64) y1).getD i default) i]) (fun i=>[pI .u64 (y1 i)])),(5, .fn 33 33 (fun i=>[(fun i=>(List.replicate 33 (pI .u64 0)).getD i default) i]) (fun i=>[pI .u64 ((fun _=>0) i)]))] (al1 (congrArg PV.agg (Ca5 (D7 33 (fun i=>pI .u64 (y1 i))))) (al1 ⟨rfl,(D7 33 (fun i=>pI .u64 (y1 i)))⟩ (al1 ⟨rfl,(Af0 (z:=pI .u64 0) rfl)⟩ al0)))))
 obtain ⟨y2,e2,h⟩:=A4 h
 refine A2 hS [] trivial (V2 hS hL e2) ?_
 obtain ⟨y3,e3,h⟩:=A4 h
 refine A2 hS [] (And.intro (And.intro rfl (E7 _ _):(0:Nat)=0/\(Ai6 33 (fun i=>pI .u64 (y2 i))).length=33) (And.intro rfl (E7 _ _):(0:Nat)=0/\(Ai6 33 (fun i=>pI .u64 (y1 i))).length=33)) (Al6 hS hL e3) ?_
 refine Ac1 hS (And.intro rfl (E7 _ _):(0:Nat)=0/\(Ai6 33 (fun i=>pI .u64 (y3 i))).length=33) ⟨[(8,(.reg 9000 0)),(7,(.reg 8000 0)),(6,(.reg 7000 0)),(4,(.reg 5000 0)),(2,(.reg 3000 0)),(1,(.p (vSl 2 A0 p_w)))], [(9000,(.arr 33 (fun i=>pI .u64 (y3 i)))),(8000,(.arr 33 (fun i=>pI .u64 (y1 i)))),(7000,(.arr 33 (fun i=>pI .u64 (y2 i)))),(5000,(.arr 33 (fun i=>pI .u64 ((fun _=>0) i)))),(3000,(.cells [(.p (Ax3 p_x.of)),(pN p_x.min),(pN p_x.max)]))]⟩ (ids:=[(3000,3000),(5000,5000),(7000,7000),(8000,8000),(9000,9000)]) ?_ (hle:=(klR [(1, .fn 33 33 (fun i=>[(fun i=>(cA 33 (pI .u64) y3).getD i default) i]) (fun i=>[pI .u64 (y3 i)])),(2, .fn 33 33 (fun i=>[(fun i=>(cA 33 (pI .u64) y1).getD i default) i]) (fun i=>[pI .u64 (y1 i)])),(3, .fn 33 33 (fun i=>[(fun i=>(cA 33 (pI .u64) y2).getD i default) i]) (fun i=>[pI .u64 (y2 i)]))] (al1 ⟨rfl,(D7 33 (fun i=>pI .u64 (y3 i)))⟩ (al1 ⟨rfl,(D7 33 (fun i=>pI .u64 (y1 i)))⟩ (al1 ⟨rfl,(D7 33 (fun i=>pI .u64 (y2 i)))⟩ al0)))))
 obtain ⟨y4,e4,h⟩:=A4 h
 refine A2 hS [8000,9000] trivial (An6 hS hL e4) ?_
 refine A1 hS trivial (b:=decide (p_x.max < 0)) (fun c1=>?_) (fun c1=>?_)
 ·replace h:=itT c1 h
  obtain ⟨y5,e5,h⟩:=A4 h
  refine A2 hS [] trivial (V2 hS hL e5) ?_
  refine Ac1 hS (And.intro rfl (E7 _ _):(0:Nat)=0/\(Ai6 33 (fun i=>pI .u64 (y5 i))).length=33) ⟨[(7,(.reg 8000 0)),(6,(.reg 7000 0)),(4,(.reg 5000 0))], [(8000,(.arr 33 (fun i=>pI .u64 (y5 i)))),(7000,(.arr 33 (fun i=>pI .u64 (y2 i)))),(5000,(.arr 33 (fun i=>pI .u64 ((fun _=>0) i))))]⟩ (ids:=[(5000,5000),(7000,7000),(8000,8000)]) ?_ (hle:=(klR [(0, .fn 33 33 (fun i=>[(fun i=>(cA 33 (pI .u64) y5).getD i default) i]) (fun i=>[pI .u64 (y5 i)]))] (al1 ⟨rfl,(D7 33 (fun i=>pI .u64 (y5 i)))⟩ al0)))
  obtain ⟨y6,e6,h⟩:=A4 h
  refine A2 hS [7000,8000] trivial (P9 hS hL e6) ?_
  obtain rfl:=A3 h
  exact B4 hS (And.intro rfl (E7 _ _):(0:Nat)=0/\(Ai6 33 (fun i=>pI .u64 (y6 i))).length=33) ⟨[(4,(.reg 5000 0))], [(5000,(.arr 33 (fun i=>pI .u64 (y6 i))))]⟩ [] (ids:=[(5000,5000)]) ⟨rfl,rfl,rfl⟩ (hle:=(klR [(0, .fn 33 33 (fun i=>[(fun i=>(cA 33 (pI .u64) y6).getD i default) i]) (fun i=>[pI .u64 (y6 i)]))] (al1 ⟨rfl,(D7 33 (fun i=>pI .u64 (y6 i)))⟩ al0)))
 ·replace h:=itF c1 h
  obtain ⟨y7,e7,h⟩:=A4 h
  refine A2 hS [] trivial (V2 hS hL e7) ?_
  refine Ac1 hS (And.intro rfl (E7 _ _):(0:Nat)=0/\(Ai6 33 (fun i=>pI .u64 (y7 i))).length=33) ⟨[(7,(.reg 8000 0)),(6,(.reg 7000 0)),(4,(.reg 5000 0))], [(8000,(.arr 33 (fun i=>pI .u64 (y7 i)))),(7000,(.arr 33 (fun i=>pI .u64 (y2 i)))),(5000,(.arr 33 (fun i=>pI .u64 ((fun _=>0) i))))]⟩ (ids:=[(5000,5000),(7000,7000),(8000,8000)]) ?_ (hle:=(klR [(0, .fn 33 33 (fun i=>[(fun i=>(cA 33 (pI .u64) y7).getD i default) i]) (fun i=>[pI .u64 (y7 i)]))] (al1 ⟨rfl,(D7 33 (fun i=>pI .u64 (y7 i)))⟩ al0)))
  obtain ⟨y8,e8,h⟩:=A4 h
  refine A2 hS [7000,8000] trivial (P9 hS hL e8) ?_
  obtain rfl:=A3 h
  exact B4 hS (And.intro rfl (E7 _ _):(0:Nat)=0/\(Ai6 33 (fun i=>pI .u64 (y8 i))).length=33) ⟨[(4,(.reg 5000 0))], [(5000,(.arr 33 (fun i=>pI .u64 (y8 i))))]⟩ [] (ids:=[(5000,5000)]) ⟨rfl,rfl,rfl⟩ (hle:=(klR [(0, .fn 33 33 (fun i=>[(fun i=>(cA 33 (pI .u64) y8).getD i default) i]) (fun i=>[pI .u64 (y8 i)]))] (al1 ⟨rfl,(D7 33 (fun i=>pI .u64 (y8 i)))⟩ al0)))
def R8 (rec:Pat->Option Part) (N:Nat) (p_p:Pat):Option Part:=
 V9 N (fun self1 (x1:Sl Part) (x2:Int)=>
  if (decide (x2 < (p_p.L.n:Int)))=true then
   if ((0:Int)<=x2/\x2 < (p_p.L.n:Int)) then
    (rec (p_p.L.g x2.toNat)).bind fun y3=>
    if ((x1.n+(Sl.of [y3]:Sl Part).n) * 16<=140737488355328/\x1.n+(Sl.of [y3]:Sl Part).n<=140737488355328) then
     self1 (x1.push y3) (IntKind.wrap .i64 (x2+1))
    else none
   else none
  else
   if (p_p.Kind == 1)=true then
    some (Part.sound p_p.Is p_p.Not)
   else
    if (p_p.Kind == 2)=true then
     some (Part.edge false)
    else
     if (p_p.Kind == 6)=true then
      some (Part.edge true)
     else
      if (p_p.Kind == 4)=true then
       some (Part.alt x1.n x1.g)
      else
       if (p_p.Kind == 5)=true then
        if (((0:Int)<=0/\0 < (x1.n:Int))/\0 < x1.n) then
         some (Part.rep (x1.g 0) p_p.Min p_p.Max)
        else none
       else
        some (Part.seq x1.n x1.g)
  ) (Sl.nil:Sl Part) 0
def Z7:Nat->Pat->Option Part
 | 0=>fun _=>none
 | N+1=>R8 (Z7 N) N
theorem Ba9 {N:Nat} {rec:Pat->Option Part} (hrec:∀ {p_p:Pat} {y:Part},rec p_p=some y->FunO S Ag5 [(.p (.agg (B6 p_p)))] [] (.p (Ax3 y)) ([]) []) {p_p:Pat} {y:Part} (h:R8 rec N p_p=some y) :
 FunO S Ag5 [(.p (.agg (B6 p_p)))] [] (.p (Ax3 y)) ([]) []:=by
 unfold R8 at h
 refine A6 hS Bf6 ?_
 refine R7 hS trivial 2 2000 (B6 p_p) ?_
 refine J7 hS trivial 8 ⟨[(7,(.p (vSl 7 B6 p_p.L))),(3,(.p P6)),(1,(.p (.ptr (B6 p_p))))], []⟩ (ids:=[]) ?_ (hle:=(klR [(0, .fn p_p.L.n p_p.L.n (Ad2 p_p) (fun i=>B6 (p_p.L.g i)))] (al1 ⟨rfl,M9 p_p⟩ al0)))
 refine H9 hS trivial h (fun x1 x2=>⟨[(9,(pN x2)),(8,(pN (p_p.L.n:Int))),(7,(.p (vSl 7 B6 p_p.L))),(3,(.vec 4500)),(1,(.p (.ptr (B6 p_p))))], [(4500,(.vec BN2 1 x1.n (fun i=>Aq2 (x1.g i)) false))]⟩) (ids:=[]) (fun _ _ _ _ _ self1 x1 x2 hb1 h=>?_)
 refine A1 hS trivial (b:=decide (x2 < (p_p.L.n:Int))) (fun c5=>?_) (fun c5=>?_)
 ·replace h:=itT c5 h
  obtain ⟨c6,h⟩:=F3 h
  refine R7 hS (And.intro c6 (by decide:(7:Nat)<=7)) 13 6000 (B6 (p_p.L.g x2.toNat)) ?_
  obtain ⟨y3,e3,h⟩:=A4 h
  refine A2 hS [] (by decide:(7:Nat)<=7) (hrec e3) ?_
  obtain ⟨c7,h⟩:=F3 h
  exact hb1 _ [(4500,18000)] _ (x1.push y3) (IntKind.wrap .i64 (x2+1)) (And.intro (rfl:true=true) c7) h (by kernel_rfl) (by kernel_rfl) (klR [(4, .fn (x1.n+1) (x1.push y3).n (T4 x1.n (fun i=>Aq2 (x1.g i)) (D9 [(.v .nilIface)] [(0,Aq2 y3)])) (fun i=>Aq2 ((x1.push y3).g i)))] (al1 ⟨rfl,(Aw9 (c:=Aq2) (v:=x1) (x:=y3) (z:=[(.v .nilIface)]) same rfl rfl)⟩ al0))
 ·replace h:=itF c5 h
  refine A1 hS trivial (b:=p_p.Kind == 1) (fun c8=>?_) (fun c8=>?_)
  ·replace h:=itT c8 h
   obtain rfl:=A3 h
   exact B1 hS (by decide:(2:Nat)<=6) [] ⟨rfl,rfl,rfl⟩
  ·replace h:=itF c8 h
   refine A1 hS trivial (b:=p_p.Kind == 2) (fun c9=>?_) (fun c9=>?_)
   ·replace h:=itT c9 h
    obtain rfl:=A3 h
    exact B1 hS trivial [] ⟨rfl,rfl,rfl⟩
   ·replace h:=itF c9 h
    refine A1 hS trivial (b:=p_p.Kind == 6) (fun c10=>?_) (fun c10=>?_)
    ·replace h:=itT c10 h
     obtain rfl:=A3 h
     exact B1 hS trivial [] ⟨rfl,rfl,rfl⟩
    ·replace h:=itF c10 h
     refine A1 hS trivial (b:=p_p.Kind == 4) (fun c11=>?_) (fun c11=>?_)
     ·replace h:=itT c11 h
      refine J7 hS trivial 40 ⟨[(39,(.p (vSl 1 Aq2 x1)))], []⟩ (ids:=[]) ?_
      obtain rfl:=A3 h
      exact B1 hS trivial [] ⟨rfl,rfl,rfl⟩
     ·replace h:=itF c11 h
      refine A1 hS trivial (b:=p_p.Kind == 5) (fun c12=>?_) (fun c12=>?_)
      ·replace h:=itT c12 h
       refine F0 hS trivial [4,6] ?_
       obtain ⟨c13,h⟩:=F3 h
       refine M0 c13 ?_
       obtain rfl:=A3 h
       exact B1 hS trivial [] ⟨rfl,rfl,rfl⟩
      ·replace h:=itF c12 h
       refine J7 hS trivial 54 ⟨[(53,(.p (vSl 1 Aq2 x1)))], []⟩ (ids:=[]) ?_
       obtain rfl:=A3 h
       exact B1 hS trivial [] ⟨rfl,rfl,rfl⟩
theorem Bg3 {N:Nat} {p_p:Pat} {y:Part} (h:Z7 N p_p=some y) :
 FunO S Ag5 [(.p (.agg (B6 p_p)))] [] (.p (Ax3 y)) ([]) []:=by
 induction N generalizing p_p y with
 | zero=>cases (show (none:Option Part)=some y from h)
 | succ N ih=>exact Ba9 hS hL (fun e=>ih e) h
end Go.AM
set_option linter.unusedVariables false
set_option linter.unusedSectionVars false
namespace Go.AM
open Go.Proofs
variable {S:Ag9} (hS:I2 S Tryz.prog) (hL:BV2 S)
include hS hL
def Z8:Nat->Part->Sl Sound->Option (Nat->Int)
 | 0=>fun _ _=>none
 | N+1=>fun p w=>match p with
  | .nil=>none
  | .sound x no=>V4 N ⟨x,no⟩ w
  | .edge e=>Z6 N ⟨e⟩ w
  | .seq n g=>Ad6 (Z8 N) N ⟨⟨n,g⟩⟩ w
  | .alt n g=>Ad7 (Z8 N) N ⟨⟨n,g⟩⟩ w
  | .rep o mn mx=>Ad8 (Z8 N) N ⟨o,mn,mx⟩ w
theorem Cn6 {N:Nat} {x:Part} {w:Sl Sound} {y:Nat->Int} (h:Z8 N x w=some y):CS0 S Tryz.prog (Ax3 x) "ablaut/pats.in" [(.p (vSl 2 A0 w))] (.p (.agg (cA 33 (pI .u64) y))):=by
 induction N generalizing x w y with
 | zero=>cases h
 | succ N ih=>
  cases x with
  | nil=>cases h
  | sound s no=>exact ⟨_,_,Al1,rfl,by kernel_rfl,Ba8 hS hL (p_x:=⟨s,no⟩) h⟩
  | edge e=>exact ⟨_,_,Ao5,rfl,by kernel_rfl,Bg2 hS hL (N:=N) (p_x:=⟨e⟩) h⟩
  | seq n g=>exact ⟨_,_,At5,rfl,by kernel_rfl,Br9 hS hL (fun e=>ih e) (p_x:=⟨⟨n,g⟩⟩) h⟩
  | alt n g=>exact ⟨_,_,At3,rfl,by kernel_rfl,Bs0 hS hL (fun e=>ih e) (p_x:=⟨⟨n,g⟩⟩) h⟩
  | rep o mn mx=>exact ⟨_,_,At4,rfl,by kernel_rfl,Bs1 hS hL (fun e=>ih e) (p_x:=⟨o,mn,mx⟩) h⟩
end Go.AM
set_option linter.unusedVariables false
set_option linter.unusedSectionVars false
namespace Go.AM
open Go.Proofs
set_option maxRecDepth 10000
set_option maxHeartbeats 2000000
variable {S:Ag9} (hS:I2 S Tryz.prog) (hL:BV2 S)
include hS hL
def Q3 (N:Nat) (p_s:Sound):Option Bool:=
 (N2 N p_s).bind fun y1=>
 some (!y1)
theorem Bb0 {N:Nat} {p_s:Sound}   {y:Bool} (h:Q3 N p_s=some y) :
 FunO S Ax8 [(.p (.agg (A0 p_s)))] [] (pB y) ([]) []:=by
 unfold Q3 at h
 refine A6 hS AZ5 ?_
 obtain ⟨y1,e1,h⟩:=A4 h
 refine A2 hS [] trivial (An5 hS hL e1) ?_
 obtain rfl:=A3 h
 exact B1 hS trivial [] ⟨rfl,rfl,rfl⟩
def D1 (N:Nat) (p_s:(Sl Sound)) (p_f:Sound->Option Bool):Option Int:=
 Ae3 N (fun self1 (x1:Int)=>
  if (decide (x1 < (p_s.n:Int)))=true then
   if ((0:Int)<=x1/\x1 < (p_s.n:Int)) then
    (p_f (p_s.g x1.toNat)).bind fun y3=>
    if y3=true then
     some x1
    else
     self1 (IntKind.wrap .i64 (x1+1))
   else none
  else
   some (-1)
  ) 0
theorem T1 {N:Nat} {p_s:(Sl Sound)} {p_f:Sound->Option Bool} {kp_f:Nat} (hp_f:∀ {a0:Sound} {b:Bool},p_f a0=some b->FunO S kp_f [(.p (.agg (A0 a0)))] [] (pB b) [] []) {y:Int} (h:D1 N p_s p_f=some y) :
 FunO S I3 [(.p (vSl 2 A0 p_s)),(.clo kp_f [] [])] [] (pN y) ([]) []:=by
 unfold D1 at h
 refine A6 hS T0 ?_
 refine U1 hS trivial h (fun x1=>⟨[(8,(pN x1)),(7,(pN (p_s.n:Int))),(1,(.clo kp_f [] [])),(0,(.p (vSl 2 A0 p_s)))], []⟩) (ids:=[]) (fun _ _ _ _ _ self1 x1 hb1 h=>?_)
 refine A1 hS trivial (b:=decide (x1 < (p_s.n:Int))) (fun c7=>?_) (fun c7=>?_)
 ·replace h:=itT c7 h
  obtain ⟨c8,h⟩:=F3 h
  obtain ⟨y3,e3,h⟩:=A4 h
  refine A2 hS [] (And.intro c8 (by decide:(2:Nat)<=2)) (hp_f e3) ?_
  refine A1 hS trivial (b:=y3) (fun c9=>?_) (fun c9=>?_)
  ·replace h:=itT c9 h
   obtain rfl:=A3 h
   exact B1 hS trivial [] ⟨rfl,rfl,rfl⟩
  ·replace h:=itF c9 h
   exact hb1 _ [] _ (IntKind.wrap .i64 (x1+1)) trivial h
 ·replace h:=itF c7 h
  obtain rfl:=A3 h
  exact B1 hS trivial [] ⟨rfl,rfl,rfl⟩
def B8 (N:Nat) (p_s:(Sl Sound)) (p_f:Sound->Option Bool):Option Bool:=
 (D1 N p_s (fun (u1:Sound)=>p_f u1)).bind fun y1=>
 some (decide (0<=y1))
theorem H6 {N:Nat} {p_s:(Sl Sound)} {p_f:Sound->Option Bool} {kp_f:Nat} (hp_f:∀ {a0:Sound} {b:Bool},p_f a0=some b->FunO S kp_f [(.p (.agg (A0 a0)))] [] (pB b) [] []) {y:Bool} (h:B8 N p_s p_f=some y) :
 FunO S H5 [(.p (vSl 2 A0 p_s)),(.clo kp_f [] [])] [] (pB y) ([]) []:=by
 unfold B8 at h
 refine A6 hS Q5 ?_
 obtain ⟨y1,e1,h⟩:=A4 h
 refine A2 hS [] trivial (T1 hS hL (fun e=>hp_f e) e1) ?_
 obtain rfl:=A3 h
 exact B1 hS trivial [] ⟨rfl,rfl,rfl⟩
def C8 (N:Nat) (q0:(Sl Pat)):Option (List (Int × Pat)):=
 Ae3 N (fun self1 (x1:Int)=>
  if (decide (0<=x1))=true then
   if ((0:Int)<=x1/\x1 < (q0.n:Int)) then
    Ad1 (x1,(q0.g x1.toNat)) (
     self1 (IntKind.wrap .i64 (x1 - 1))
     )
   else none
  else
   some []
  ) (IntKind.wrap .i64 ((q0.n:Int) - 1))
theorem W7 {N:Nat} {q0:(Sl Pat)} {L:List (Int × Pat)} (h:C8 N q0=some L) :
 Ao2 S D8 [] [.reg 0 0] [(.cells [(.p (vSl 7 B6 q0))])] (L.map (fun (x:Int × Pat)=>[(pI .i64) x.1,(fun x=>.agg (B6 x)) x.2])):=by
 unfold C8 at h
 refine AA1 hS W2 ?_
 refine Ax1 hS trivial h (fun x1 L1=>⟨[(3,(pN x1)),(1,(.reg 0 0)),(0,(.yf 1))], [(1,(.yld (L1.map (fun (x:Int × Pat)=>[(pI .i64) x.1,(fun x=>.agg (B6 x)) x.2])) true)),(0,(.cells [(.p (vSl 7 B6 q0))]))]⟩) (ids:=[(0,0),(1,1)]) (fun _ _ _ _ _ self1 x1 L1 hb1 h=>?_)
 refine A1 hS trivial (b:=decide (0<=x1)) (fun c9=>?_) (fun c9=>?_)
 ·replace h:=itT c9 h
  obtain ⟨c10,h⟩:=F3 h
  obtain ⟨L4,rfl,hcL4⟩:=Be0 h
  replace h:=hcL4
  refine Ao3 hS (And.intro c10 (by decide:(7:Nat)<=7)) (ys:=(fun (x:Int × Pat)=>[(pI .i64) x.1,(fun x=>.agg (B6 x)) x.2]) (x1,(q0.g x1.toNat))) (rest:=L4.map (fun (x:Int × Pat)=>[(pI .i64) x.1,(fun x=>.agg (B6 x)) x.2])) ?_ ?_
  ·refine A1 hS trivial (b:=false) (fun c11=>?_) (fun c11=>?_)
   ·exact Bool.noConfusion ((rfl:false=false).symm.trans c11)
   ·exact hb1 _ [(0,0),(1,1)] _ (IntKind.wrap .i64 (x1 - 1)) L4 trivial h
  ·refine A1 hS trivial (b:=true) (fun c12=>?_) (fun c12=>?_)
   ·exact B4 hS trivial (a:=.tup []) (objs:=[(.cells [(.p (vSl 7 B6 q0))]),(.yld [] false)]) ⟨[], [(1,(.yld [] false)),(0,(.cells [(.p (vSl 7 B6 q0))]))]⟩ [0,1] (ids:=[(0,0),(1,1)]) ⟨false,rfl,rfl,_,rfl⟩
   ·exact Bool.noConfusion ((rfl:true=true).symm.trans c12)
 ·replace h:=itF c9 h
  obtain rfl:=A3 h
  exact B4 hS trivial (a:=.tup []) (objs:=[(.cells [(.p (vSl 7 B6 q0))]),(.yld [] true)]) ⟨[], [(1,(.yld [] true)),(0,(.cells [(.p (vSl 7 B6 q0))]))]⟩ [0,1] (ids:=[(0,0),(1,1)]) ⟨true,rfl,rfl,_,rfl⟩
def G6 (N:Nat) (p_s:(Sl Pat)):Option ((Sl Pat)):=
 some p_s
theorem Z9 {N:Nat} {p_s:(Sl Pat)}   {y:((Sl Pat))} (h:G6 N p_s=some y) :
 FunO S N0 [(.p (vSl 7 B6 p_s))] [] (.clo D8 [] [.reg 0 0]) ([(.cells [(.p (vSl 7 B6 y))])]) []:=by
 unfold G6 at h
 refine A6 hS Z0 ?_
 obtain rfl:=A3 h
 exact B4 hS trivial ⟨[(2,(.clo D8 [] [(.reg 2000 0)]))], [(2000,(.cells [(.p (vSl 7 B6 p_s))]))]⟩ [2000] (ids:=[(2000,2000)]) ⟨rfl,rfl,rfl⟩
def V5 (N:Nat) (p_p:Pat):Option Int:=
 V9 N (fun self3 (x3:Sl Pat) (x4:Int)=>
  if (decide (0 < (x3.n:Int)))=true then
   if (x4 == 40)=true then
    some 12
   else
    if (((0:Int)<=(IntKind.wrap .i64 ((x3.n:Int) - 1))/\(IntKind.wrap .i64 ((x3.n:Int) - 1)) < (x3.n:Int))/\(IntKind.wrap .i64 ((x3.n:Int) - 1)).toNat < x3.n) then
     if ((0:Int)<=(IntKind.wrap .i64 ((x3.n:Int) - 1))/\(IntKind.wrap .i64 ((x3.n:Int) - 1))<=(x3.n:Int)) then
      (Z3 N (x3.g (IntKind.wrap .i64 ((x3.n:Int) - 1)).toNat)).bind fun y5=>
      if (y5 != 0)=true then
       some y5
      else
       if ((0:Int)<=(if 41 < ((x3.g (IntKind.wrap .i64 ((x3.n:Int) - 1)).toNat).L.n:Int) then 41 else ((x3.g (IntKind.wrap .i64 ((x3.n:Int) - 1)).toNat).L.n:Int))/\(if 41 < ((x3.g (IntKind.wrap .i64 ((x3.n:Int) - 1)).toNat).L.n:Int) then 41 else ((x3.g (IntKind.wrap .i64 ((x3.n:Int) - 1)).toNat).L.n:Int))<=((x3.g (IntKind.wrap .i64 ((x3.n:Int) - 1)).toNat).L.n:Int)) then
        (G6 N ((x3.g (IntKind.wrap .i64 ((x3.n:Int) - 1)).toNat).L.take (if 41 < ((x3.g (IntKind.wrap .i64 ((x3.n:Int) - 1)).toNat).L.n:Int) then 41 else ((x3.g (IntKind.wrap .i64 ((x3.n:Int) - 1)).toNat).L.n:Int)).toNat)).bind fun y6=>
        (C8 N y6).bind fun L3=>
        K4 L3 (fun self4 (x7:Int × Pat) (z3:Sl Pat)=>
         if ((((z3.n+(Sl.of [Pat.nil]:Sl Pat).n) * 64<=140737488355328/\z3.n+(Sl.of [Pat.nil]:Sl Pat).n<=140737488355328)/\((0:Int)<=(z3.n:Int)/\(z3.n:Int) < ((z3.push Pat.nil).n:Int)))/\(z3.n:Int).toNat < (z3.push Pat.nil).n) then
          self4 ((z3.push Pat.nil).upd (z3.n:Int).toNat x7.2)
         else none
         ) (fun (z3:Sl Pat)=>
          self3 z3 (IntKind.wrap .i64 (x4+1))
         ) (x3.take (IntKind.wrap .i64 ((x3.n:Int) - 1)).toNat)
       else none
     else none
    else none
  else
   some 0
  ) (Sl.of [p_p]:Sl Pat) 0
theorem Ay6 {N:Nat} {p_p:Pat}   {y:Int} (h:V5 N p_p=some y) :
 FunO S AP9 [(.p (.agg (B6 p_p)))] [] (pN y) ([]) []:=by
 unfold V5 at h
 refine A6 hS BA7 ?_
 refine R7 hS trivial 2 2000 (B6 p_p) ?_
 refine H9 hS (And.intro (by decide:(7:Nat)<=7) (rfl:true=true)) h (fun x3 x4=>⟨[(4,(pN x4)),(3,(.reg 4000 0))], [(4501,(.vec Ay1 7 x3.n (fun i=>B6 (x3.g i)) false)),(4000,(.cells [(.vec 4501)]))]⟩) (ids:=[(4000,4000),(4501,12000)]) (fun _ _ _ _ _ self3 x3 x4 hb3 h=>?_) (hle:=(klR [(1, .fn 1 (Sl.of [p_p]:Sl Pat).n (D9 [(pI .i64 0),(pI .u32 0),(pI .u32 0),(.v (.bool false)),(pI .i64 0),(pI .i64 0),P6] [(0,B6 p_p)]) (fun i=>B6 ((Sl.of [p_p]:Sl Pat).g i)))] (al1 ⟨rfl,(fun i hi=>match i,hi with | 0,_=>rfl | _+1,hi=>absurd hi (by omega))⟩ al0)))
 refine A1 hS trivial (b:=decide (0 < (x3.n:Int))) (fun c19=>?_) (fun c19=>?_)
 ·replace h:=itT c19 h
  refine A1 hS trivial (b:=x4 == 40) (fun c20=>?_) (fun c20=>?_)
  ·replace h:=itT c20 h
   obtain rfl:=A3 h
   exact B1 hS trivial [] ⟨rfl,rfl,rfl⟩
  ·replace h:=itF c20 h
   obtain ⟨c21,h⟩:=F3 h
   refine R7 hS (And.intro (And.intro c21.1 (by decide:(7:Nat)<=7)) c21.2) 25 6000 (B6 (x3.g (IntKind.wrap .i64 ((x3.n:Int) - 1)).toNat)) ?_
   obtain ⟨c22,h⟩:=F3 h
   refine CS1 hS c22 30 4501 (IntKind.wrap .i64 ((x3.n:Int) - 1)).toNat 4508 (e:=Ay1) (k:=7) (N:=x3.n) (f:=fun i=>B6 (x3.g i)) (by have hq:=c22;omega) ?_
   obtain ⟨y5,e7,h⟩:=A4 h
   refine A2 hS [] (by decide:(7:Nat)<=7) (Bg0 hS hL e7) ?_
   refine A1 hS trivial (b:=y5 != 0) (fun c23=>?_) (fun c23=>?_)
   ·replace h:=itT c23 h
    obtain rfl:=A3 h
    exact B1 hS trivial [] ⟨rfl,rfl,rfl⟩
   ·replace h:=itF c23 h
    refine J7 hS trivial 39 ⟨[(38,(.p (vSl 7 B6 (x3.g (IntKind.wrap .i64 ((x3.n:Int) - 1)).toNat).L))),(36,(.p (vSl 7 B6 (x3.g (IntKind.wrap .i64 ((x3.n:Int) - 1)).toNat).L))),(4,(pN x4)),(3,(.reg 4000 0))], [(4508,(.vec Ay1 7 (x3.take (IntKind.wrap .i64 ((x3.n:Int) - 1)).toNat).n (fun i=>B6 ((x3.take (IntKind.wrap .i64 ((x3.n:Int) - 1)).toNat).g i)) false)),(4000,(.cells [(.vec 4508)]))]⟩ (ids:=[(4000,4000),(4508,4508)]) ?_ (hle:=(klR [(0, .fn (x3.g (IntKind.wrap .i64 ((x3.n:Int) - 1)).toNat).L.n (x3.g (IntKind.wrap .i64 ((x3.n:Int) - 1)).toNat).L.n (Ad2 (x3.g (IntKind.wrap .i64 ((x3.n:Int) - 1)).toNat)) (fun i=>B6 ((x3.g (IntKind.wrap .i64 ((x3.n:Int) - 1)).toNat).L.g i))),(1, .fn (x3.g (IntKind.wrap .i64 ((x3.n:Int) - 1)).toNat).L.n (x3.g (IntKind.wrap .i64 ((x3.n:Int) - 1)).toNat).L.n (Ad2 (x3.g (IntKind.wrap .i64 ((x3.n:Int) - 1)).toNat)) (fun i=>B6 ((x3.g (IntKind.wrap .i64 ((x3.n:Int) - 1)).toNat).L.g i)))] (al1 ⟨rfl,M9 (x3.g (IntKind.wrap .i64 ((x3.n:Int) - 1)).toNat)⟩ (al1 ⟨rfl,M9 (x3.g (IntKind.wrap .i64 ((x3.n:Int) - 1)).toNat)⟩ al0))))
    obtain ⟨c24,h⟩:=F3 h
    obtain ⟨y6,e8,h⟩:=A4 h
    refine A2 hS [] c24 (Z9 hS hL e8) ?_
    obtain ⟨L3,e9,h⟩:=A4 h
    refine AL5 hS trivial [44000] [4,3] 905 (fun z3=>⟨[(4,(pN x4)),(3,(.reg 4000 0))], [(4500,(.vec Ay1 7 z3.n (fun i=>B6 (z3.g i)) false)),(4000,(.cells [(.vec 4500)]))]⟩) (idl:=[(4000,4000),(4500,4508)]) h (W7 hS hL e9) (fun _=>by kernel_rfl) (fun _=>by kernel_rfl) (fun _=>by kernel_rfl) (fun _=>by kernel_rfl) (fun x7 _ self4 z3 hb4 h=>?_) (fun z3 h=>?_)
    ·refine AL6 hS trivial ?_
     refine CJ0 hS trivial 10000 (B6 x7.2) ?_
     refine T2 hS trivial [(0, .l [4000]),(1, .n),(2, .l [4500]),(4, .a [51000,4500]),(5, .l [51000]),(6, .a [51000]),(7, .a [4000])] ?_
     refine AE8 (by decide:(7:Nat)<=7) (x:=(.sl true 7 1 (D9 [(pI .i64 0),(pI .u32 0),(pI .u32 0),(.v (.bool false)),(pI .i64 0),(pI .i64 0),P6] [(0, [(pI .i64 0),(pI .u32 0),(pI .u32 0),(.v (.bool false)),(pI .i64 0),(pI .i64 0),P6])]))) ?_
     obtain ⟨c27,h⟩:=F3 h
     refine M0 (And.intro (And.intro c27.1.1 c27.1.2) (And.intro (rfl:(7:Nat)=7) (And.intro c27.2 (by decide:(7:Nat)<=7)))) ?_
     exact hb4 _ [(905,905),(4000,4000),(4500,51000)] _ ((z3.push Pat.nil).upd (z3.n:Int).toNat x7.2) trivial h (by kernel_rfl) (by kernel_rfl) (klR [(0, .fn (z3.n+1) ((z3.push Pat.nil).upd (z3.n:Int).toNat x7.2).n (fun l=>if l=(z3.n:Int).toNat then splice ((T4 z3.n (fun i=>B6 (z3.g i)) (D9 [(pI .i64 0),(pI .u32 0),(pI .u32 0),(.v (.bool false)),(pI .i64 0),(pI .i64 0),P6] [(0, [(pI .i64 0),(pI .u32 0),(pI .u32 0),(.v (.bool false)),(pI .i64 0),(pI .i64 0),P6])])) l) 0 [(pI .i64 x7.2.Kind),(pI .u32 x7.2.Is.Plus),(pI .u32 x7.2.Is.Minus),(.bb x7.2.Not),(pI .i64 x7.2.Min),(pI .i64 x7.2.Max),(.sl false 7 x7.2.L.n (Ad2 x7.2))] else (T4 z3.n (fun i=>B6 (z3.g i)) (D9 [(pI .i64 0),(pI .u32 0),(pI .u32 0),(.v (.bool false)),(pI .i64 0),(pI .i64 0),P6] [(0, [(pI .i64 0),(pI .u32 0),(pI .u32 0),(.v (.bool false)),(pI .i64 0),(pI .i64 0),P6])])) l) (fun i=>B6 (((z3.push Pat.nil).upd (z3.n:Int).toNat x7.2).g i)))] (al1 ⟨rfl,(setH (c:=B6) (v:=(z3.push Pat.nil)) (x:=x7.2) (app1H (c:=B6) (v:=z3) (z:=Pat.nil) same rfl) (fun _=>by simp [T4,D9,splice]))⟩ al0))
    ·exact hb3 _ [(4000,4000),(4501,4500)] _ z3 (IntKind.wrap .i64 (x4+1)) trivial h
 ·replace h:=itF c19 h
  obtain rfl:=A3 h
  exact B1 hS trivial [] ⟨rfl,rfl,rfl⟩
def W8 (N:Nat) (p_p:Pat) (p_w:(Sl Sound)):Option ((Nat->Int) × Int):=
 (V5 N p_p).bind fun y1=>
 if (y1 != 0)=true then
  some ((fun _=>0),y1)
 else
  if (decide (32 < (p_w.n:Int)))=true then
   some ((fun _=>0),11)
  else
   (B8 N p_w (fun (u1:Sound)=>Q3 N u1)).bind fun y2=>
   if y2=true then
    some ((fun _=>0),14)
   else
    (Z7 N p_p).bind fun y3=>
    (Z8 N y3 p_w).bind fun y4=>
    some (y4,0)
theorem AJ1 {N:Nat} {p_p:Pat} {p_w:(Sl Sound)}   {y:((Nat->Int) × Int)} (h:W8 N p_p p_w=some y) :
 FunO S AI2 [(.p (.agg (B6 p_p))),(.p (vSl 2 A0 p_w))] [] (.tup [(.p (.agg (cA 33 (pI .u64) y.1))),(pN y.2)]) ([]) []:=by
 unfold W8 at h
 refine A6 hS Br0 ?_
 obtain ⟨y1,e1,h⟩:=A4 h
 refine A2 hS [] trivial (Ay6 hS hL e1) ?_
 refine A1 hS trivial (b:=y1 != 0) (fun c1=>?_) (fun c1=>?_)
 ·replace h:=itT c1 h
  obtain rfl:=A3 h
  exact B4 hS (And.intro rfl (E7 _ _):(0:Nat)=0/\(Ai6 33 (fun i=>pI .u64 ((fun _=>0) i))).length=33) ⟨[(5,(pN y1)),(4,(.reg 5000 0))], [(5000,(.arr 33 (fun i=>pI .u64 ((fun _=>0) i))))]⟩ [] (ids:=[(5000,5000)]) ⟨rfl,rfl,rfl⟩ (hle:=(klR [(1, .fn 33 33 (fun i=>[(fun i=>(cA 33 (pI .u64) (fun _=>0)).getD i default) i]) (fun i=>[pI .u64 ((fun _=>0) i)]))] (al1 ⟨rfl,(D7 33 (fun i=>pI .u64 ((fun _=>0) i)))⟩ al0)))
 ·replace h:=itF c1 h
  refine A1 hS trivial (b:=decide (32 < (p_w.n:Int))) (fun c2=>?_) (fun c2=>?_)
  ·replace h:=itT c2 h
   obtain rfl:=A3 h
   exact B4 hS (And.intro rfl (E7 _ _):(0:Nat)=0/\(Ai6 33 (fun i=>pI .u64 ((fun _=>0) i))).length=33) ⟨[(5,(pN 11)),(4,(.reg 5000 0))], [(5000,(.arr 33 (fun i=>pI .u64 ((fun _=>0) i))))]⟩ [] (ids:=[(5000,5000)]) ⟨rfl,rfl,rfl⟩ (hle:=(klR [(1, .fn 33 33 (fun i=>[(fun i=>(cA 33 (pI .u64) (fun _=>0)).getD i default) i]) (fun i=>[pI .u64 ((fun _=>0) i)]))] (al1 ⟨rfl,(D7 33 (fun i=>pI .u64 ((fun _=>0) i)))⟩ al0)))
  ·replace h:=itF c2 h
   obtain ⟨y2,e2,h⟩:=A4 h
   refine A2 hS [] trivial (H6 hS hL (fun e=>Bb0 hS hL e) e2) ?_
   refine A1 hS trivial (b:=y2) (fun c3=>?_) (fun c3=>?_)
   ·replace h:=itT c3 h
    obtain rfl:=A3 h
    exact B4 hS (And.intro rfl (E7 _ _):(0:Nat)=0/\(Ai6 33 (fun i=>pI .u64 ((fun _=>0) i))).length=33) ⟨[(5,(pN 14)),(4,(.reg 5000 0))], [(5000,(.arr 33 (fun i=>pI .u64 ((fun _=>0) i))))]⟩ [] (ids:=[(5000,5000)]) ⟨rfl,rfl,rfl⟩ (hle:=(klR [(1, .fn 33 33 (fun i=>[(fun i=>(cA 33 (pI .u64) (fun _=>0)).getD i default) i]) (fun i=>[pI .u64 ((fun _=>0) i)]))] (al1 ⟨rfl,(D7 33 (fun i=>pI .u64 ((fun _=>0) i)))⟩ al0)))
   ·replace h:=itF c3 h
    obtain ⟨y3,e3,h⟩:=A4 h
    refine A2 hS [] trivial (Bg3 hS hL e3) ?_
    obtain ⟨y4,e4,h⟩:=A4 h
    refine AS9 hS trivial (Cn6 hS hL e4) ?_
    obtain rfl:=A3 h
    exact B4 hS (And.intro rfl (E7 _ _):(0:Nat)=0/\(Ai6 33 (fun i=>pI .u64 (y4 i))).length=33) ⟨[(5,(pN 0)),(4,(.reg 5000 0))], [(5000,(.arr 33 (fun i=>pI .u64 (y4 i))))]⟩ [] (ids:=[(5000,5000)]) ⟨rfl,rfl,rfl⟩ (hle:=(klR [(1, .fn 33 33 (fun i=>[(fun i=>(cA 33 (pI .u64) y4).getD i default) i]) (fun i=>[pI .u64 (y4 i)]))] (al1 ⟨rfl,(D7 33 (fun i=>pI .u64 (y4 i)))⟩ al0)))
def Ad9 (N:Nat) (p_p:Pat) (p_w:(Sl Sound)) (p_end:Int):Option ((Sl Int) × Int):=
 (W8 N p_p p_w).bind fun y1=>
 lt (fun (z1:Int)=>
  if (z1 != 0)=true then
   some ((Sl.nil:Sl Int),z1)
  else
   V9 N (fun self1 (x2:Sl Int) (x3:Int)=>
    if (decide (x3 < (IntKind.wrap .i64 ((p_w.n:Int)+1))))=true then
     if ((((0:Int)<=x3/\x3 < 33)/\(0+x3.toNat * 1) < 33)/\(0:Int)<=p_end) then
      if ((C6 .and .u64 (shI .shr .u64 (y1.1 (0+x3.toNat * 1)) p_end) 1) == 1)=true then
       if ((x2.n+(Sl.of [x3]:Sl Int).n) * 8<=140737488355328/\x2.n+(Sl.of [x3]:Sl Int).n<=140737488355328) then
        self1 (x2.push x3) (IntKind.wrap .i64 (x3+1))
       else none
      else
       self1 x2 (IntKind.wrap .i64 (x3+1))
     else none
    else
     some (x2,0)
    ) (Sl.nil:Sl Int) 0
  ) fun k1=>
  if (y1.2 == 0)=true then
   (W5 N p_w p_end).bind fun y3=>
   k1 y3
  else
   k1 y1.2
theorem Bs2 {N:Nat} {p_p:Pat} {p_w:(Sl Sound)} {p_end:Int}   {y:((Sl Int) × Int)} (h:Ad9 N p_p p_w p_end=some y) :
 FunO S AI1 [(.p (.agg (B6 p_p))),(.p (vSl 2 A0 p_w)),(pN p_end)] [] (.tup [(.vec 0),(pN y.2)]) ([(.vec D4 1 y.1.n (fun i=>(cI .i64) (y.1.g i)) true)]) []:=by
 unfold Ad9 at h
 refine A6 hS Bq9 ?_
 obtain ⟨y1,e1,h⟩:=A4 h
 refine A2 hS [] trivial (AJ1 hS hL e1) ?_
 refine AH1 hS (And.intro rfl (E7 _ _):(0:Nat)=0/\(Ai6 33 (fun i=>pI .u64 (y1.1 i))).length=33) (B0 hS) h 0 (fun z1=>⟨[(9,(pN z1)),(8,(.reg 9000 0)),(2,(pN p_end)),(1,(.p (vSl 2 A0 p_w)))], [(9000,(.arr 33 (fun i=>pI .u64 (y1.1 i))))]⟩) (fun M1 k1 hb1 h=>?_) (fun z1 h=>?_)
 ·refine A1 hS trivial (b:=y1.2 == 0) (fun c3=>?_) (fun c3=>?_)
  ·replace h:=itT c3 h
   obtain ⟨y3,e3,h⟩:=A4 h
   refine A2 hS [] trivial (AI9 hS hL e3) ?_
   exact hb1 _ [(9000,9000)] _ y3 trivial h (by kernel_rfl) (by kernel_rfl) (klR [(3, .fn 33 33 (fun i=>[(fun i=>(cA 33 (pI .u64) y1.1).getD i default) i]) (fun i=>[pI .u64 (y1.1 i)]))] (al1 ⟨rfl,(D7 33 (fun i=>pI .u64 (y1.1 i)))⟩ al0))
  ·replace h:=itF c3 h
   exact hb1 _ [(9000,9000)] _ y1.2 trivial h (by kernel_rfl) (by kernel_rfl) (klR [(3, .fn 33 33 (fun i=>[(fun i=>(cA 33 (pI .u64) y1.1).getD i default) i]) (fun i=>[pI .u64 (y1.1 i)]))] (al1 ⟨rfl,(D7 33 (fun i=>pI .u64 (y1.1 i)))⟩ al0))
 ·refine A1 hS trivial (b:=z1 != 0) (fun c4=>?_) (fun c4=>?_)
  ·replace h:=itT c4 h
   obtain rfl:=A3 h
   exact B4 hS trivial ⟨[(7,(pN z1)),(6,(.vec 7700))], [(7700,(.vec D4 1 (Sl.nil:Sl Int).n (fun i=>(cI .i64) ((Sl.nil:Sl Int).g i)) true))]⟩ [7700] (ids:=[]) ⟨rfl,rfl,rfl⟩
  ·replace h:=itF c4 h
   refine H9 hS trivial h (fun x2 x3=>⟨[(29,(pN x3)),(28,(pN (IntKind.wrap .i64 ((p_w.n:Int)+1)))),(10,(.vec 11500)),(8,(.reg 9000 0)),(2,(pN p_end))], [(11500,(.vec D4 1 x2.n (fun i=>(cI .i64) (x2.g i)) false)),(9000,(.arr 33 (fun i=>pI .u64 (y1.1 i))))]⟩) (ids:=[(9000,9000)]) (fun _ _ _ _ _ self1 x2 x3 hb2 h=>?_)
   refine A1 hS trivial (b:=decide (x3 < (IntKind.wrap .i64 ((p_w.n:Int)+1)))) (fun c11=>?_) (fun c11=>?_)
   ·replace h:=itT c11 h
    obtain ⟨c12,h⟩:=F3 h
    refine A1 hS c12 (b:=(C6 .and .u64 (shI .shr .u64 (y1.1 (0+x3.toNat * 1)) p_end) 1) == 1) (fun c13=>?_) (fun c13=>?_)
    ·replace h:=itT c13 h
     obtain ⟨c14,h⟩:=F3 h
     exact hb2 _ [(9000,9000),(11500,43000)] _ (x2.push x3) (IntKind.wrap .i64 (x3+1)) (And.intro (rfl:true=true) c14) h (by kernel_rfl) (by kernel_rfl) (klR [(3, .fn (x2.n+1) (x2.push x3).n (T4 x2.n (fun i=>(cI .i64) (x2.g i)) (D9 [(pI .i64 0)] [(0,(cI .i64) x3)])) (fun i=>(cI .i64) ((x2.push x3).g i)))] (al1 ⟨rfl,(Aw9 (c:=(cI .i64)) (v:=x2) (x:=x3) (z:=[(pI .i64 0)]) same rfl rfl)⟩ al0))
    ·replace h:=itF c13 h
     exact hb2 _ [(9000,9000),(11500,11500)] _ x2 (IntKind.wrap .i64 (x3+1)) trivial h
   ·replace h:=itF c11 h
    obtain rfl:=A3 h
    exact B4 hS trivial ⟨[(7,(pN 0)),(6,(.vec 11500))], [(11500,(.vec D4 1 x2.n (fun i=>(cI .i64) (x2.g i)) true))]⟩ [11500] (ids:=[(11500,11500)]) ⟨rfl,rfl,rfl⟩
def G1 (N:Nat) (p_seq:List (Int)):Option (Sl Int):=
 K4 p_seq (fun self1 (x1:Int) (z1:Sl Int)=>
  if ((z1.n+(Sl.of [x1]:Sl Int).n) * 8<=140737488355328/\z1.n+(Sl.of [x1]:Sl Int).n<=140737488355328) then
   self1 (z1.push x1)
  else none
  ) (fun (z1:Sl Int)=>
   some z1
  ) (Sl.nil:Sl Int)
theorem Ah8 {N:Nat} {p_seq:List (Int)} {p_seq_0:Int} {kp_seq:Nat} (fp_seq:∃ fn,Tryz.prog.funcs[kp_seq]? = some fn/\fn.body.isSome=true/\(fn.name == "runtime.NumGoroutine")=false) (hp_seq:Ao2 S kp_seq [] [.reg 0 0] [(.cells [(.p (pI .u64 p_seq_0))])] (p_seq.map (fun (x:Int)=>[(pI .i64) x]))) {y:(Sl Int)} (h:G1 N p_seq=some y) :
 FunO S H0 [(.p P6),(.clo kp_seq [] [(.reg 0 0)])] [(.cells [(.p (pI .u64 p_seq_0))])] (.vec 0) ([(.vec D4 1 y.n (fun i=>(cI .i64) (y.g i)) true)]) [false]:=by
 unfold G1 at h
 refine A6 hS J9 ?_
 refine AH2 hS trivial fp_seq [0] [2] 901 (fun z1=>⟨[(2,(.reg 3000 0))], [(3500,(.vec D4 1 z1.n (fun i=>(cI .i64) (z1.g i)) false)),(3000,(.cells [(.vec 3500)]))]⟩) (idl:=[(3000,3000)]) h hp_seq (fun _=>by kernel_rfl) (fun _=>by kernel_rfl) (fun _=>by kernel_rfl) (fun _=>by kernel_rfl) (fun x1 _ self1 z1 hb1 h=>?_) (fun z1 h=>?_)
 ·refine AL6 hS trivial ?_
  obtain ⟨c1,h⟩:=F3 h
  exact hb1 _ [(901,901),(3000,3000),(3500,12000)] _ (z1.push x1) (And.intro (rfl:true=true) c1) h (by kernel_rfl) (by kernel_rfl) (klR [(0, .fn (z1.n+1) (z1.push x1).n (T4 z1.n (fun i=>(cI .i64) (z1.g i)) (D9 [(pI .i64 0)] [(0,(cI .i64) x1)])) (fun i=>(cI .i64) ((z1.push x1).g i)))] (al1 ⟨rfl,(Aw9 (c:=(cI .i64)) (v:=z1) (x:=x1) (z:=[(pI .i64 0)]) same rfl rfl)⟩ al0))
 ·obtain rfl:=A3 h
  exact B4 hS trivial ⟨[(4,(.vec 3500))], [(3500,(.vec D4 1 z1.n (fun i=>(cI .i64) (z1.g i)) true))]⟩ [3500] (ids:=[(3500,3500)]) ⟨rfl,rfl,rfl⟩
def I8 (N:Nat) (p_seq:List (Int)):Option (Sl Int):=
 (G1 N p_seq).bind fun y1=>
 some y1
theorem Ay7 {N:Nat} {p_seq:List (Int)} {p_seq_0:Int} {kp_seq:Nat} (fp_seq:∃ fn,Tryz.prog.funcs[kp_seq]? = some fn/\fn.body.isSome=true/\(fn.name == "runtime.NumGoroutine")=false) (hp_seq:Ao2 S kp_seq [] [.reg 0 0] [(.cells [(.p (pI .u64 p_seq_0))])] (p_seq.map (fun (x:Int)=>[(pI .i64) x]))) {y:(Sl Int)} (h:I8 N p_seq=some y) :
 FunO S P8 [(.clo kp_seq [] [(.reg 0 0)])] [(.cells [(.p (pI .u64 p_seq_0))])] (.vec 0) ([(.vec D4 1 y.n (fun i=>(cI .i64) (y.g i)) true)]) [false]:=by
 unfold I8 at h
 refine A6 hS X7 ?_
 obtain ⟨y1,e1,h⟩:=A4 h
 refine A2 hS [0] trivial (Ah8 hS hL fp_seq hp_seq e1) ?_
 obtain rfl:=A3 h
 exact B4 hS trivial ⟨[(2,(.vec 5000))], [(5000,(.vec D4 1 y1.n (fun i=>(cI .i64) (y1.g i)) true))]⟩ [5000] (ids:=[(5000,5000)]) ⟨rfl,rfl,rfl⟩
def Am1 (N:Nat) (p_p:Pat) (p_w:(Sl Sound)) (p_at:Int):Option ((Sl Int) × Int):=
 (W8 N p_p p_w).bind fun y1=>
 lt (fun (z1:Int)=>
  if (z1 != 0)=true then
   some ((Sl.nil:Sl Int),z1)
  else
   if (((0:Int)<=p_at/\p_at < 33)/\(0+p_at.toNat * 1) < 33) then
    (Z5 N (y1.1 (0+p_at.toNat * 1))).bind fun y4=>
    (O3 N y4).bind fun L1=>
    (I8 N L1).bind fun y5=>
    some (y5,0)
   else none
  ) fun k1=>
  if (y1.2 == 0)=true then
   (W5 N p_w p_at).bind fun y3=>
   k1 y3
  else
   k1 y1.2
theorem BO8 {N:Nat} {p_p:Pat} {p_w:(Sl Sound)} {p_at:Int}   {y:((Sl Int) × Int)} (h:Am1 N p_p p_w p_at=some y) :
 FunO S AZ0 [(.p (.agg (B6 p_p))),(.p (vSl 2 A0 p_w)),(pN p_at)] [] (.tup [(.vec 0),(pN y.2)]) ([(.vec D4 1 y.1.n (fun i=>(cI .i64) (y.1.g i)) true)]) []:=by
 unfold Am1 at h
 refine A6 hS BM7 ?_
 obtain ⟨y1,e1,h⟩:=A4 h
 refine A2 hS [] trivial (AJ1 hS hL e1) ?_
 refine AH1 hS (And.intro rfl (E7 _ _):(0:Nat)=0/\(Ai6 33 (fun i=>pI .u64 (y1.1 i))).length=33) (B0 hS) h 0 (fun z1=>⟨[(9,(pN z1)),(8,(.reg 9000 0)),(2,(pN p_at))], [(9000,(.arr 33 (fun i=>pI .u64 (y1.1 i))))]⟩) (fun M1 k1 hb1 h=>?_) (fun z1 h=>?_)
 ·refine A1 hS trivial (b:=y1.2 == 0) (fun c3=>?_) (fun c3=>?_)
  ·replace h:=itT c3 h
   obtain ⟨y3,e3,h⟩:=A4 h
   refine A2 hS [] trivial (AI9 hS hL e3) ?_
   exact hb1 _ [(9000,9000)] _ y3 trivial h (by kernel_rfl) (by kernel_rfl) (klR [(2, .fn 33 33 (fun i=>[(fun i=>(cA 33 (pI .u64) y1.1).getD i default) i]) (fun i=>[pI .u64 (y1.1 i)]))] (al1 ⟨rfl,(D7 33 (fun i=>pI .u64 (y1.1 i)))⟩ al0))
  ·replace h:=itF c3 h
   exact hb1 _ [(9000,9000)] _ y1.2 trivial h (by kernel_rfl) (by kernel_rfl) (klR [(2, .fn 33 33 (fun i=>[(fun i=>(cA 33 (pI .u64) y1.1).getD i default) i]) (fun i=>[pI .u64 (y1.1 i)]))] (al1 ⟨rfl,(D7 33 (fun i=>pI .u64 (y1.1 i)))⟩ al0))
 ·refine A1 hS trivial (b:=z1 != 0) (fun c4=>?_) (fun c4=>?_)
  ·replace h:=itT c4 h
   obtain rfl:=A3 h
   exact B4 hS trivial ⟨[(7,(pN z1)),(6,(.vec 7700))], [(7700,(.vec D4 1 (Sl.nil:Sl Int).n (fun i=>(cI .i64) ((Sl.nil:Sl Int).g i)) true))]⟩ [7700] (ids:=[]) ⟨rfl,rfl,rfl⟩
  ·replace h:=itF c4 h
   obtain ⟨c5,h⟩:=F3 h
   obtain ⟨y4,e4,h⟩:=A4 h
   refine A2 hS [] c5 (Ao7 hS hL e4) ?_
   obtain ⟨L1,e5,h⟩:=A4 h
   obtain ⟨y5,e6,h⟩:=A4 h
   refine A2 hS [28000] trivial (Ay7 hS hL ⟨_,Av1,by decide +kernel,by decide +kernel⟩ (Ai8 hS hL e5) e6) ?_
   obtain rfl:=A3 h
   exact B4 hS trivial ⟨[(7,(pN 0)),(6,(.vec 29000))], [(29000,(.vec D4 1 y5.n (fun i=>(cI .i64) (y5.g i)) true))]⟩ [29000] (ids:=[(29000,29000)]) ⟨rfl,rfl,rfl⟩
end Go.AM
