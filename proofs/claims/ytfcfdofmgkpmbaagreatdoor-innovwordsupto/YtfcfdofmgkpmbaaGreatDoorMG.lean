/- What a law's walk and its plain proof need, part 7: no condition of its own. -/
import Derived.Test.YtfcfdofmgkpmbaaGreatDoorMF
import Derived.Test.YtfcfdofmgkpmbaaGreatDoorME
set_option linter.defProp false
set_option linter.unusedSimpArgs false
set_option linter.unusedVariables false
set_option linter.unusedSectionVars false
namespace Go.AM
open IntKind (wrap)
def Ba6:=@BitVec.getLsbD_or
def Be0:=@BitVec.getLsbD_not
def Bh2:=@Nat.testBit_two_pow_mul
def Bh3:=@Classical.axiomOfChoice
def Bh4:=@List.reverse_append
def Bi4:=@Bool.or_eq_false_iff
def Bm1:=@Bool.not_eq_true
def Bm9:=@BitVec.getLsbD_zero
def Bn5:=@List.filter_append
def Bo1:=@List.mem_range'_1
def Bo4:=@List.filter_cons_of_pos
def Bo5:=@List.filter_cons_of_neg
def Bo7:=@Nat.testBit_zero
def Bp0:=@Nat.testBit_lt_two_pow
def Bp1:=@List.filter_eq_nil_iff
def Bp2:=@List.reverse_singleton
def Bp7:=@Bool.and_eq_false_iff
def Bp8:=@List.singleton_append
def Bq2:=@BitVec.getLsbD_of_ge
def Bq8:=@Nat.div_eq_zero_iff
def Br4:=@Nat.lt_of_le_of_lt
open Go.Proofs
set_option maxRecDepth 10000
set_option maxHeartbeats 2000000
variable {S:Az}(hS:H5 S Tryz.prog) (hL:Qd S)
include hS hL
def H9 (N:Nat)(a:Sl Int)(b:Sl Int):Option Bool:=
 if ((a.n:Int) != (b.n:Int)) then
  some false
 else
  W6 N (fun c (x1:Int)=>
   if (decide (x1<(a.n:Int))) then
    if (((0:Int)<=x1/\x1<(a.n:Int))/\((0:Int)<=x1/\x1<(b.n:Int)))then
     if ((a.g x1.toNat) != (b.g x1.toNat)) then
      some false
     else
      c (wrap .i64 (x1+1))
    else none
   else
    some true
   ) 0
theorem Ex {N:Nat}{a:Sl Int}{b:Sl Int}{y:Bool}(h:H9 N a b=some y) :FunO S AD [.p (vSl 1 (cI .i64) a),.p (vSl 1 (cI .i64) b)] [] (pB y) ([]) []:=by
 unfold H9 at h;refine A1 hS Tryz.func23 ?_;refine kI hS h ?_ ?_<;>intro h
 ·cases h;exact kR hS
 ·refine J0 hS trivial h (fun x1=>⟨[(13,pN x1),(12,pN (a.n:Int)),(1,.p (vSl 1 (cI .i64) b)),(0,.p (vSl 1 (cI .i64) a))],[]⟩) (ids:=[]) (fun _ _ _ _ _ c x1 d h=>?_);refine kI hS h ?_ ?_<;>intro h
  ·refine D9 hS trivial [2,3,6,7] ?_;obtain⟨c9,h⟩:=D5 h;refine I4 c9 ?_;refine kI hS h ?_ ?_<;>intro h
   ·cases h;exact kR hS
   ·exact d _ [] _ (wrap .i64 (x1+1)) trivial h
  ·cases h;exact kR hS
def N1 (N:Nat)(a:Sl K7)(b:Sl K7):Option Bool:=
 if ((a.n:Int) != (b.n:Int)) then
  some false
 else
  W6 N (fun c (x1:Int)=>
   if (decide (x1<(a.n:Int))) then
    if (((0:Int)<=x1/\x1<(a.n:Int))/\((0:Int)<=x1/\x1<(b.n:Int)))then
     if ((((a.g x1.toNat).a0==(b.g x1.toNat).a0)&&((a.g x1.toNat).a1==(b.g x1.toNat).a1)) != true) then
      some false
     else
      c (wrap .i64 (x1+1))
    else none
   else
    some true
   ) 0
theorem CP {N:Nat}{a:Sl K7}{b:Sl K7}{y:Bool}(h:N1 N a b=some y) :FunO S U3 [.p (vSl 2 Q3 a),.p (vSl 2 Q3 b)] [] (pB y) ([]) []:=by
 unfold N1 at h;refine A1 hS Tryz.func24 ?_;refine kI hS h ?_ ?_<;>intro h
 ·cases h;exact kR hS
 ·refine J0 hS trivial h (fun x1=>⟨[(13,pN x1),(12,pN (a.n:Int)),(1,.p (vSl 2 Q3 b)),(0,.p (vSl 2 Q3 a))],[]⟩) (ids:=[]) (fun _ _ _ _ _ c x1 d h=>?_);refine kI hS h ?_ ?_<;>intro h
  ·refine D9 hS trivial [2,3,6,7] ?_;obtain⟨c9,h⟩:=D5 h;refine I4 (And.intro (And.intro (And.intro (And.intro c9.1 (by decide:(2:Nat)<=2)) c9.2) (by decide:(2:Nat)<=2)) (by decide +kernel:(!Program.eqGuardType Tryz.prog (Program.depth Tryz.prog) RB)=true)) ?_;refine kI hS h ?_ ?_<;>intro h
   ·cases h;exact kR hS
   ·exact d _ [] _ (wrap .i64 (x1+1)) trivial h
  ·cases h;exact kR hS
def C9 (N:Nat)(a:Sl Int)(b:Sl Int):Option Bool:=
 if ((a.n:Int) != (b.n:Int)) then
  some false
 else
  W6 N (fun c (x1:Int)=>
   if (decide (x1<(a.n:Int))) then
    if (((0:Int)<=x1/\x1<(a.n:Int))/\((0:Int)<=x1/\x1<(b.n:Int)))then
     if ((a.g x1.toNat) != (b.g x1.toNat)) then
      some false
     else
      c (wrap .i64 (x1+1))
    else none
   else
    some true
   ) 0
theorem G8 {N:Nat}{a:Sl Int}{b:Sl Int}{y:Bool}(h:C9 N a b=some y) :FunO S S7 [.p (vSl 1 (cI .u64) a),.p (vSl 1 (cI .u64) b)] [] (pB y) ([]) []:=by
 unfold C9 at h;refine A1 hS Tryz.func45 ?_;refine kI hS h ?_ ?_<;>intro h
 ·cases h;exact kR hS
 ·refine J0 hS trivial h (fun x1=>⟨[(13,pN x1),(12,pN (a.n:Int)),(1,.p (vSl 1 (cI .u64) b)),(0,.p (vSl 1 (cI .u64) a))],[]⟩) (ids:=[]) (fun _ _ _ _ _ c x1 d h=>?_);refine kI hS h ?_ ?_<;>intro h
  ·refine D9 hS trivial [2,3,6,7] ?_;obtain⟨c9,h⟩:=D5 h;refine I4 c9 ?_;refine kI hS h ?_ ?_<;>intro h
   ·cases h;exact kR hS
   ·exact d _ [] _ (wrap .i64 (x1+1)) trivial h
  ·cases h;exact kR hS
def T0 (N:Nat)(a:A3):Option Int:=
 if (0:Int)<=a.Langs then
  some (wrap .u64 ((shI .shl .u64 1 a.Langs)-1))
 else none
theorem Cj {N:Nat}{a:A3}{y:Int}(h:T0 N a=some y) :FunO S EQ [.p (.agg (E2 a))] [] (.p (pI .u64 y)) ([]) []:=by unfold T0 at h;refine A1 hS Tryz.func59 ?_;obtain⟨c1,h⟩:=D5 h;obtain rfl:=B6 h;exact Zm hS c1 [] ⟨rfl,rfl,rfl⟩
def I2 (N:Nat)(a:Sl Int)(c:Int->Option Bool):Option Int:=
 W6 N (fun b (x1:Int)=>
  if (decide (x1<(a.n:Int))) then
   if ((0:Int)<=x1/\x1<(a.n:Int))then
    (c (a.g x1.toNat)).bind fun y3=>
    if y3 then
     some x1
    else
     b (wrap .i64 (x1+1))
   else none
  else
   some (-1)
  ) 0
theorem Bh {N:Nat}{a:Sl Int}{c:Int->Option Bool}{kp_f:Nat}{cp_f_0:List PV}(d:∀{a0:Int}{b:Bool},c a0=some b->FunO S kp_f [.p (pI .u64 a0),.p (.ptr cp_f_0)] [] (pB b) [] []){y:Int}(h:I2 N a c=some y) :FunO S P0 [.p (vSl 1 (cI .u64) a),.clo kp_f [] [.p (.ptr cp_f_0)]] [] (pN y) ([]) []:=by
 unfold I2 at h;refine A1 hS Tryz.func99 ?_;refine J0 hS trivial h (fun x1=>⟨[(8,pN x1),(7,pN (a.n:Int)),(1,.clo kp_f [] [.p (.ptr cp_f_0)]),(0,.p (vSl 1 (cI .u64) a))],[]⟩) (ids:=[]) (fun _ _ _ _ _ f x1 g h=>?_);refine kI hS h ?_ ?_<;>intro h
 ·obtain⟨c8,h⟩:=D5 h;obtain⟨y3,e3,h⟩:=B8 h;refine B9 hS [] c8 (d e3) ?_;refine kI hS h ?_ ?_<;>intro h
  ·cases h;exact kR hS
  ·exact g _ [] _ (wrap .i64 (x1+1)) trivial h
 ·cases h;exact kR hS
def G9 (N:Nat)(a:Sl Int)(b:Int->Option Bool):Option Bool:=
 (I2 N a b).bind fun y1=>
 some (decide (0<=y1))
theorem Am {N:Nat}{a:Sl Int}{c:Int->Option Bool}{kp_f:Nat}{cp_f_0:List PV}(d:∀{a0:Int}{b:Bool},c a0=some b->FunO S kp_f [.p (pI .u64 a0),.p (.ptr cp_f_0)] [] (pB b) [] []){y:Bool}(h:G9 N a c=some y) :FunO S K9 [.p (vSl 1 (cI .u64) a),.clo kp_f [] [.p (.ptr cp_f_0)]] [] (pB y) ([]) []:=by unfold G9 at h;refine A1 hS Tryz.func64 ?_;refine kC hS h (Bh hS hL (fun e=>d e)) (fun y1 h=>?_);cases h;exact kR hS
def DS (N:Nat)(a:Int)(q0:A3):Option Bool:=
 (T0 N q0).bind fun y1=>
 some ((D2 .andNot .u64 a y1) != 0)
theorem ND {N:Nat}{a:Int}{q0:A3}{y:Bool}(h:DS N a q0=some y) :FunO S GA [.p (pI .u64 a),.p (.ptr [pI .i64 q0.Langs,vSl 1 (cI .u64) q0.Has])] [] (pB y) ([]) []:=by unfold DS at h;refine A1 hS Tryz.func65 ?_;obtain⟨y1,e1,h⟩:=B8 h;refine B9 hS [] (by decide:(2:Nat)<=2) (Cj hS hL e1) ?_;cases h;exact kR hS
def T9 (N:Nat)(a:A3):Option Int:=
 if ((decide (a.Langs<0))||(decide (32<a.Langs))) then
  some 3
 else
  if (decide (64<(a.Has.n:Int))) then
   some 12
  else
   (G9 N a.Has (fun (u1:Int)=>DS N u1 a)).bind fun y1=>
   if y1 then
    some 2
   else
    some 0
theorem BP {N:Nat}{b:A3}{y:Int}(h:T9 N b=some y) :FunO S IX [.p (.agg (E2 b))] [] (pN y) ([]) []:=by
 unfold T9 at h;refine A1 hS Tryz.func21 ?_;refine kB hS (A4 hS) trivial trivial 4 (.o (.a (decide (b.Langs<0))) (.a (decide (32<b.Langs)))) ?_;refine kI hS h ?_ ?_<;>intro h
 ·cases h;exact kR hS
 ·refine kI hS h ?_ ?_<;>intro h
  ·cases h;exact kR hS
  ·refine G0 hS trivial 17 2000 [pI .i64 b.Langs,vSl 1 (cI .u64) b.Has] ?_;refine kC hS h (Am hS hL (fun e=>ND hS hL e)) (fun y1 h=>?_);refine kI hS h ?_ ?_<;>intro h
   ·cases h;exact kR hS
   ·cases h;exact kR hS
def K4 (N:Nat)(q0:A3)(q1:Int->Option Bool):Option (List (Int)):=
 W6 N (fun a (x1:Int)=>
  if (decide (x1<(q0.Has.n:Int))) then
   if ((0:Int)<=x1/\x1<(q0.Has.n:Int))then
    (q1 (q0.Has.g x1.toNat)).bind fun y3=>
    if y3 then
     Ap x1 (
      a (wrap .i64 (x1+1))
      )
    else
     a (wrap .i64 (x1+1))
   else none
  else
   some []
  ) 0
theorem Z2 {N:Nat}{q0:A3}{q1:Int->Option Bool}{kq1:Nat}{cq1_0:List PV}(f:∀{a0:Int}{b:Bool},q1 a0=some b->FunO S kq1 [.p (pI .u64 a0),.p (.ptr cq1_0)] [] (pB b) [] []){L:List (Int)}(h:K4 N q0 q1=some L) :Fp S G1 [] [.reg 0 0,.reg 1 0] [.cells [pN q0.Langs,.p (vSl 1 (cI .u64) q0.Has)],.cells [.clo kq1 [] [.p (.ptr cq1_0)]]] (L.map (fun (x:Int)=>[pI .i64 x])):=by
 unfold K4 at h;refine Fu hS Tryz.func98 ?_;refine Gx hS trivial h (fun x1 L1=>⟨[(9,pN x1),(8,pN (q0.Has.n:Int)),(7,.p (vSl 1 (cI .u64) q0.Has)),(2,.reg 1 0),(0,.yf 2)],[(2,.yld (L1.map (fun (x:Int)=>[pI .i64 x])) true),(1,.cells [.clo kq1 [] [.p (.ptr cq1_0)]]),(0,.cells [pN q0.Langs,.p (vSl 1 (cI .u64) q0.Has)])]⟩) (ids:=[(0,0),(1,1),(2,2)]) (fun _ _ _ _ _ g x1 L1 c h=>?_);refine kI hS h ?_ ?_<;>intro h
 ·obtain⟨c16,h⟩:=D5 h;obtain⟨y3,e3,h⟩:=B8 h;refine B9 hS [] c16 (f e3) ?_;refine kG hS h (fun h=>?_) (fun h=>?_)
  ·obtain⟨L7,rfl,d⟩:=Mp h;replace h:=d;refine Dz hS trivial (ys:=(fun (x:Int)=>[pI .i64 x]) x1) (rest:=L7.map (fun (x:Int)=>[pI .i64 x])) ?_ ?_
   ·refine D3 hS trivial (b:=false) (fun c20=>?_) (fun c20=>?_)
    ·exact Bool.noConfusion ((rfl:false=false).symm.trans c20)
    ·exact c _ [(0,0),(1,1),(2,2)] _ (wrap .i64 (x1+1)) L7 trivial h
   ·refine D3 hS trivial (b:=true) (fun c21=>?_) (fun c21=>?_)
    ·exact A5 hS trivial (a:=.tup []) (objs:=[(.cells [pN q0.Langs,.p (vSl 1 (cI .u64) q0.Has)]),.cells [.clo kq1 [] [.p (.ptr cq1_0)]],.yld [] false]) ⟨[],[(2,.yld [] false),(1,.cells [.clo kq1 [] [.p (.ptr cq1_0)]]),(0,.cells [pN q0.Langs,.p (vSl 1 (cI .u64) q0.Has)])]⟩ [0,1,2] (ids:=[(0,0),(1,1),(2,2)]) ⟨false,rfl,rfl,_,rfl⟩
    ·exact Bool.noConfusion ((rfl:true=true).symm.trans c21)
  ·exact c _ [(0,0),(1,1),(2,2)] _ (wrap .i64 (x1+1)) L1 trivial h
 ·obtain rfl:=B6 h;exact A5 hS trivial (a:=.tup []) (objs:=[(.cells [pN q0.Langs,.p (vSl 1 (cI .u64) q0.Has)]),.cells [.clo kq1 [] [.p (.ptr cq1_0)]],.yld [] true]) ⟨[],[(2,.yld [] true),(1,.cells [.clo kq1 [] [.p (.ptr cq1_0)]]),(0,.cells [pN q0.Langs,.p (vSl 1 (cI .u64) q0.Has)])]⟩ [0,1,2] (ids:=[(0,0),(1,1),(2,2)]) ⟨true,rfl,rfl,_,rfl⟩
def P5 (N:Nat)(a:A3)(b:Int->Option Bool):Option (A3):=
 some a
theorem Bi {N:Nat}{a:A3}{c:Int->Option Bool}{kp_is:Nat}{cp_is_0:List PV}(d:∀{a0:Int}{b:Bool},c a0=some b->FunO S kp_is [.p (pI .u64 a0),.p (.ptr cp_is_0)] [] (pB b) [] []){y:A3}(h:P5 N a c=some y) :FunO S Bb [.p (.agg (E2 a)),.clo kp_is [] [.p (.ptr cp_is_0)]] [] (.clo G1 [] [.reg 0 0,.reg 1 0]) ([.cells [pN y.Langs,.p (vSl 1 (cI .u64) y.Has)],.cells [.clo kp_is [] [.p (.ptr cp_is_0)]]]) []:=by unfold P5 at h;refine A1 hS Tryz.func57 ?_;obtain rfl:=B6 h;exact A5 hS trivial ⟨[(4,.clo G1 [] [.reg 3000 0,.reg 4000 0])],[(4000,.cells [.clo kp_is [] [.p (.ptr cp_is_0)]]),(3000,.cells [pN a.Langs,.p (vSl 1 (cI .u64) a.Has)])]⟩ [3000,4000] (ids:=[(3000,3000),(4000,4000)]) ⟨rfl,rfl,rfl⟩
def W4 (N:Nat)(q0:A3)(q1:Int->Option Bool):Option (List (Int)):=
 W6 N (fun a (x1:Int)=>
  if (decide (x1<(q0.Has.n:Int))) then
   if ((0:Int)<=x1/\x1<(q0.Has.n:Int))then
    (q1 (q0.Has.g x1.toNat)).bind fun y3=>
    if y3 then
     Ap x1 (
      a (wrap .i64 (x1+1))
      )
    else
     a (wrap .i64 (x1+1))
   else none
  else
   some []
  ) 0
theorem Gj {N:Nat}{q0:A3}{q1:Int->Option Bool}{kq1:Nat}{cq1_0 cq1_1:List PV}(f:∀{a0:Int}{b:Bool},q1 a0=some b->FunO S kq1 [.p (pI .u64 a0),.p (.ptr cq1_0),.p (.ptr cq1_1)] [] (pB b) [] []){L:List (Int)}(h:W4 N q0 q1=some L) :Fp S G1 [] [.reg 0 0,.reg 1 0] [.cells [pN q0.Langs,.p (vSl 1 (cI .u64) q0.Has)],.cells [.clo kq1 [] [.p (.ptr cq1_0),.p (.ptr cq1_1)]]] (L.map (fun (x:Int)=>[pI .i64 x])):=by
 unfold W4 at h;refine Fu hS Tryz.func98 ?_;refine Gx hS trivial h (fun x1 L1=>⟨[(9,pN x1),(8,pN (q0.Has.n:Int)),(7,.p (vSl 1 (cI .u64) q0.Has)),(2,.reg 1 0),(0,.yf 2)],[(2,.yld (L1.map (fun (x:Int)=>[pI .i64 x])) true),(1,.cells [.clo kq1 [] [.p (.ptr cq1_0),.p (.ptr cq1_1)]]),(0,.cells [pN q0.Langs,.p (vSl 1 (cI .u64) q0.Has)])]⟩) (ids:=[(0,0),(1,1),(2,2)]) (fun _ _ _ _ _ g x1 L1 c h=>?_);refine kI hS h ?_ ?_<;>intro h
 ·obtain⟨c16,h⟩:=D5 h;obtain⟨y3,e3,h⟩:=B8 h;refine B9 hS [] c16 (f e3) ?_;refine kG hS h (fun h=>?_) (fun h=>?_)
  ·obtain⟨L7,rfl,d⟩:=Mp h;replace h:=d;refine Dz hS trivial (ys:=(fun (x:Int)=>[pI .i64 x]) x1) (rest:=L7.map (fun (x:Int)=>[pI .i64 x])) ?_ ?_
   ·refine D3 hS trivial (b:=false) (fun c20=>?_) (fun c20=>?_)
    ·exact Bool.noConfusion ((rfl:false=false).symm.trans c20)
    ·exact c _ [(0,0),(1,1),(2,2)] _ (wrap .i64 (x1+1)) L7 trivial h
   ·refine D3 hS trivial (b:=true) (fun c21=>?_) (fun c21=>?_)
    ·exact A5 hS trivial (a:=.tup []) (objs:=[(.cells [pN q0.Langs,.p (vSl 1 (cI .u64) q0.Has)]),.cells [.clo kq1 [] [.p (.ptr cq1_0),.p (.ptr cq1_1)]],.yld [] false]) ⟨[],[(2,.yld [] false),(1,.cells [.clo kq1 [] [.p (.ptr cq1_0),.p (.ptr cq1_1)]]),(0,.cells [pN q0.Langs,.p (vSl 1 (cI .u64) q0.Has)])]⟩ [0,1,2] (ids:=[(0,0),(1,1),(2,2)]) ⟨false,rfl,rfl,_,rfl⟩
    ·exact Bool.noConfusion ((rfl:true=true).symm.trans c21)
  ·exact c _ [(0,0),(1,1),(2,2)] _ (wrap .i64 (x1+1)) L1 trivial h
 ·obtain rfl:=B6 h;exact A5 hS trivial (a:=.tup []) (objs:=[(.cells [pN q0.Langs,.p (vSl 1 (cI .u64) q0.Has)]),.cells [.clo kq1 [] [.p (.ptr cq1_0),.p (.ptr cq1_1)]],.yld [] true]) ⟨[],[(2,.yld [] true),(1,.cells [.clo kq1 [] [.p (.ptr cq1_0),.p (.ptr cq1_1)]]),(0,.cells [pN q0.Langs,.p (vSl 1 (cI .u64) q0.Has)])]⟩ [0,1,2] (ids:=[(0,0),(1,1),(2,2)]) ⟨true,rfl,rfl,_,rfl⟩
def Ax (N:Nat)(a:A3)(b:Int->Option Bool):Option (A3):=
 some a
theorem Hv {N:Nat}{a:A3}{c:Int->Option Bool}{kp_is:Nat}{cp_is_0 cp_is_1:List PV}(d:∀{a0:Int}{b:Bool},c a0=some b->FunO S kp_is [.p (pI .u64 a0),.p (.ptr cp_is_0),.p (.ptr cp_is_1)] [] (pB b) [] []){y:A3}(h:Ax N a c=some y) :FunO S Bb [.p (.agg (E2 a)),.clo kp_is [] [.p (.ptr cp_is_0),.p (.ptr cp_is_1)]] [] (.clo G1 [] [.reg 0 0,.reg 1 0]) ([.cells [pN y.Langs,.p (vSl 1 (cI .u64) y.Has)],.cells [.clo kp_is [] [.p (.ptr cp_is_0),.p (.ptr cp_is_1)]]]) []:=by unfold Ax at h;refine A1 hS Tryz.func57 ?_;obtain rfl:=B6 h;exact A5 hS trivial ⟨[(4,.clo G1 [] [.reg 3000 0,.reg 4000 0])],[(4000,.cells [.clo kp_is [] [.p (.ptr cp_is_0),.p (.ptr cp_is_1)]]),(3000,.cells [pN a.Langs,.p (vSl 1 (cI .u64) a.Has)])]⟩ [3000,4000] (ids:=[(3000,3000),(4000,4000)]) ⟨rfl,rfl,rfl⟩
def AX (N:Nat)(a:Int)(q0:A3):Option Bool:=
 lt (fun (z1:Bool)=>
  some z1
  ) fun k1=>
  if ((D2 .and .u64 a (wrap .u64 (a-1))) != 0) then
   (T0 N q0).bind fun y2=>
   k1 (a != y2)
  else
   k1 false
theorem Gc {N:Nat}{a:Int}{q0:A3}{y:Bool}(h:AX N a q0=some y) :FunO S FU [.p (pI .u64 a),.p (.ptr [pI .i64 q0.Langs,vSl 1 (cI .u64) q0.Has])] [] (pB y) ([]) []:=by
 unfold AX at h;refine A1 hS Tryz.func58 ?_;refine Hu hS trivial (A4 hS) h 0 (fun z1=>⟨[(3,pB z1)],[]⟩) (fun M1 k1 b h=>?_) (fun z1 h=>?_)
 ·refine kG hS h (fun h=>?_) (fun h=>?_)
  ·obtain⟨y2,e2,h⟩:=B8 h;refine B9 hS [] (by decide:(2:Nat)<=2) (Cj hS hL e2) ?_;exact b _ [] _ (a != y2) trivial h
  ·exact b _ [] _ false trivial h
 ·cases h;exact kR hS
def Ir (N:Nat)(p_x:Int)(a:Int):Option Bool:=
 some ((((D2 .and .u64 p_x a)==0)||((D2 .andNot .u64 p_x a)==0))||((D2 .andNot .u64 a p_x)==0))
theorem WG {N:Nat}{p_x:Int}{b:Int}{y:Bool}(h:Ir N p_x b=some y) :FunO S Mz [.p (pI .u64 p_x),.p (pI .u64 b)] [] (pB y) ([]) []:=by unfold Ir at h;refine A1 hS Tryz.func62 ?_;refine kB hS (A4 hS) trivial trivial 11 (.o (.o (.a ((D2 .and .u64 p_x b)==0)) (.a ((D2 .andNot .u64 p_x b)==0))) (.a ((D2 .andNot .u64 b p_x)==0))) ?_;cases h;exact kR hS
def U0 (N:Nat)(a:Int)(q0:Int):Option Bool:=
 (Ir N q0 a).bind fun y1=>
 some (!y1)
theorem DT {N:Nat}{a:Int}{q0:Int}{y:Bool}(h:U0 N a q0=some y) :FunO S DC [.p (pI .u64 a),.p (.ptr [pI .u64 q0])] [] (pB y) ([]) []:=by unfold U0 at h;refine A1 hS Tryz.func61 ?_;refine kC hS h (WG hS hL) (fun y1 h=>?_);cases h;exact kR hS
def N2 (N:Nat)(a:Sl Int)(c:Int->Option Bool):Option Int:=
 W6 N (fun b (x1:Int)=>
  if (decide (x1<(a.n:Int))) then
   if ((0:Int)<=x1/\x1<(a.n:Int))then
    (c (a.g x1.toNat)).bind fun y3=>
    if y3 then
     some x1
    else
     b (wrap .i64 (x1+1))
   else none
  else
   some (-1)
  ) 0
theorem CQ {N:Nat}{a:Sl Int}{c:Int->Option Bool}{kp_f:Nat}{cp_f_0:List PV}(d:∀{a0:Int}{b:Bool},c a0=some b->FunO S kp_f [pN a0,.p (.ptr cp_f_0)] [] (pB b) [] []){y:Int}(h:N2 N a c=some y) :FunO S U5 [.p (vSl 1 (cI .i64) a),.clo kp_f [] [.p (.ptr cp_f_0)]] [] (pN y) ([]) []:=by
 unfold N2 at h;refine A1 hS Tryz.func146 ?_;refine J0 hS trivial h (fun x1=>⟨[(8,pN x1),(7,pN (a.n:Int)),(1,.clo kp_f [] [.p (.ptr cp_f_0)]),(0,.p (vSl 1 (cI .i64) a))],[]⟩) (ids:=[]) (fun _ _ _ _ _ f x1 g h=>?_);refine kI hS h ?_ ?_<;>intro h
 ·obtain⟨c8,h⟩:=D5 h;obtain⟨y3,e3,h⟩:=B8 h;refine B9 hS [] c8 (d e3) ?_;refine kI hS h ?_ ?_<;>intro h
  ·cases h;exact kR hS
  ·exact g _ [] _ (wrap .i64 (x1+1)) trivial h
 ·cases h;exact kR hS
def F9 (N:Nat)(a:Sl Int)(b:Int->Option Bool):Option Bool:=
 (N2 N a b).bind fun y1=>
 some (decide (0<=y1))
theorem S1 {N:Nat}{a:Sl Int}{c:Int->Option Bool}{kp_f:Nat}{cp_f_0:List PV}(d:∀{a0:Int}{b:Bool},c a0=some b->FunO S kp_f [pN a0,.p (.ptr cp_f_0)] [] (pB b) [] []){y:Bool}(h:F9 N a c=some y) :FunO S S0 [.p (vSl 1 (cI .i64) a),.clo kp_f [] [.p (.ptr cp_f_0)]] [] (pB y) ([]) []:=by unfold F9 at h;refine A1 hS Tryz.func115 ?_;refine kC hS h (CQ hS hL (fun e=>d e)) (fun y1 h=>?_);cases h;exact kR hS
def Q9 (N:Nat)(a:Int)(q0:A3):Option Bool:=
 some ((decide (a<0))||(decide (q0.Langs<=a)))
theorem CG {N:Nat}{b:Int}{q0:A3}{y:Bool}(h:Q9 N b q0=some y) :FunO S Cw [pN b,.p (.ptr [pI .i64 q0.Langs,vSl 1 (cI .u64) q0.Has])] [] (pB y) ([]) []:=by unfold Q9 at h;refine A1 hS Tryz.func116 ?_;refine kB hS (A4 hS) trivial trivial 5 (.o (.a (decide (b<0))) (.a (decide (q0.Langs<=b)))) ?_;cases h;exact kR hS
def Bj (N:Nat)(c:A3)(b:Int->Option Bool)(a:Sl Int):Option (Int×Int):=
 (T9 N c).bind fun y1=>
 if (y1 != 0) then
  some (0,y1)
 else
  (F9 N a (fun (u1:Int)=>Q9 N u1 c)).bind fun y2=>
  if y2 then
   some (0,3)
  else
   (P5 N c b).bind fun y3=>
   (K4 N y3 b).bind fun L1=>
   P7 L1 (fun d (x1:Int) (z1:Int)=>
    d (wrap .i64 (z1+1))
    ) (fun (z1:Int)=>
     some (z1,0)
    ) 0
theorem Iu {N:Nat}{d:A3}{f:Int->Option Bool}{a:Sl Int}{kp_is:Nat}{cp_is_0:List PV}(c:∀{a0:Int}{b:Bool},f a0=some b->FunO S kp_is [.p (pI .u64 a0),.p (.ptr cp_is_0)] [] (pB b) [] []){y:Int×Int}(h:Bj N d f a=some y) :FunO S Bc [.p (.agg (E2 d)),.clo kp_is [] [.p (.ptr cp_is_0)],.p (vSl 1 (cI .i64) a)] [] (.tup [pN y.1,pN y.2]) ([]) []:=by
 unfold Bj at h;refine A1 hS Tryz.func82 ?_;refine kC hS h (BP hS hL) (fun y1 h=>?_);refine kI hS h ?_ ?_<;>intro h
 ·cases h;exact kR hS
 ·refine G0 hS trivial 16 4000 [pI .i64 d.Langs,vSl 1 (cI .u64) d.Has] ?_;refine kC hS h (S1 hS hL (fun e=>CG hS hL e)) (fun y2 h=>?_);refine kI hS h ?_ ?_<;>intro h
  ·cases h;exact kR hS
  ·obtain⟨y3,e3,h⟩:=B8 h;refine B9 hS [] (by decide:(2:Nat)<=2) (Bi hS hL (fun e=>c e) e3) ?_;obtain⟨L1,e4,h⟩:=B8 h;refine Fv hS trivial [21000,21001] [9] 901 (fun z1=>⟨[(9,.reg 10000 0)],[(10000,.cells [pN z1])]⟩) (idl:=[(10000,10000)]) h (Z2 hS hL (fun e=>c e) e4) (fun _=>by kernel_rfl) (fun _=>by kernel_rfl) (fun _=>by kernel_rfl) (fun _=>by kernel_rfl) (fun x1 _ g z1 i h=>?_) (fun z1 h=>?_)
   ·refine IV hS trivial ?_;exact i _ [(901,901),(10000,10000)] _ (wrap .i64 (z1+1)) trivial h
   ·cases h;exact kR hS
def Ay (N:Nat)(c:A3)(b:Int->Option Bool)(a:Sl Int):Option (Int×Int):=
 (T9 N c).bind fun y1=>
 if (y1 != 0) then
  some (0,y1)
 else
  (F9 N a (fun (u1:Int)=>Q9 N u1 c)).bind fun y2=>
  if y2 then
   some (0,3)
  else
   (Ax N c b).bind fun y3=>
   (W4 N y3 b).bind fun L1=>
   P7 L1 (fun d (x1:Int) (z1:Int)=>
    d (wrap .i64 (z1+1))
    ) (fun (z1:Int)=>
     some (z1,0)
    ) 0
theorem Hw {N:Nat}{d:A3}{f:Int->Option Bool}{a:Sl Int}{kp_is:Nat}{cp_is_0 cp_is_1:List PV}(c:∀{a0:Int}{b:Bool},f a0=some b->FunO S kp_is [.p (pI .u64 a0),.p (.ptr cp_is_0),.p (.ptr cp_is_1)] [] (pB b) [] []){y:Int×Int}(h:Ay N d f a=some y) :FunO S Bc [.p (.agg (E2 d)),.clo kp_is [] [.p (.ptr cp_is_0),.p (.ptr cp_is_1)],.p (vSl 1 (cI .i64) a)] [] (.tup [pN y.1,pN y.2]) ([]) []:=by
 unfold Ay at h;refine A1 hS Tryz.func82 ?_;refine kC hS h (BP hS hL) (fun y1 h=>?_);refine kI hS h ?_ ?_<;>intro h
 ·cases h;exact kR hS
 ·refine G0 hS trivial 16 4000 [pI .i64 d.Langs,vSl 1 (cI .u64) d.Has] ?_;refine kC hS h (S1 hS hL (fun e=>CG hS hL e)) (fun y2 h=>?_);refine kI hS h ?_ ?_<;>intro h
  ·cases h;exact kR hS
  ·obtain⟨y3,e3,h⟩:=B8 h;refine B9 hS [] (by decide:(2:Nat)<=2) (Hv hS hL (fun e=>c e) e3) ?_;obtain⟨L1,e4,h⟩:=B8 h;refine Fv hS trivial [21000,21001] [9] 901 (fun z1=>⟨[(9,.reg 10000 0)],[(10000,.cells [pN z1])]⟩) (idl:=[(10000,10000)]) h (Gj hS hL (fun e=>c e) e4) (fun _=>by kernel_rfl) (fun _=>by kernel_rfl) (fun _=>by kernel_rfl) (fun _=>by kernel_rfl) (fun x1 _ g z1 i h=>?_) (fun z1 h=>?_)
   ·refine IV hS trivial ?_;exact i _ [(901,901),(10000,10000)] _ (wrap .i64 (z1+1)) trivial h
   ·cases h;exact kR hS
def CR (N:Nat)(a:Int)(q0:Int)(q1:Int):Option Bool:=
 if (0:Int)<=q0 then
  if (((D2 .and .u64 (shI .shr .u64 a q0) 1)==1)=true->(0:Int)<=q1)then
   some (((D2 .and .u64 (shI .shr .u64 a q0) 1)==1)&&((D2 .and .u64 (shI .shr .u64 a q1) 1)==1))
  else none
 else none
theorem Lt {N:Nat}{b:Int}{q0:Int}{q1:Int}{y:Bool}(h:CR N b q0 q1=some y) :FunO S CM [.p (pI .u64 b),.p (.ptr [pI .i64 q0]),.p (.ptr [pI .i64 q1])] [] (pB y) ([]) []:=by unfold CR at h;refine A1 hS Tryz.func83 ?_;obtain⟨c1,h⟩:=D5 h;obtain⟨c2,h⟩:=D5 h;refine kB hS (A4 hS) c1 c2 6 (.n (.a ((D2 .and .u64 (shI .shr .u64 b q0) 1)==1)) (.a ((D2 .and .u64 (shI .shr .u64 b q1) 1)==1))) ?_;cases h;exact kR hS
def FM (N:Nat)(a:Int)(q0:Int):Option Bool:=
 if (0:Int)<=q0 then
  some (a==(shI .shl .u64 1 q0))
 else none
theorem RU {N:Nat}{a:Int}{q0:Int}{y:Bool}(h:FM N a q0=some y) :FunO S Fy [.p (pI .u64 a),.p (.ptr [pI .i64 q0])] [] (pB y) ([]) []:=by unfold FM at h;refine A1 hS Tryz.func85 ?_;obtain⟨c1,h⟩:=D5 h;obtain rfl:=B6 h;exact Zm hS c1 [] ⟨rfl,rfl,rfl⟩
def Ey (N:Nat)(c:A3)(a:Int)(b:Int):Option (Int×Int):=
 (Ay N c (fun (u1:Int)=>CR N u1 a b) (Sl.of [a,b]:Sl Int)).bind fun y1=>
 some (y1.1,y1.2)
theorem OV {N:Nat}{c:A3}{a:Int}{b:Int}{y:Int×Int}(h:Ey N c a b=some y) :FunO S HH [.p (.agg (E2 c)),pN a,pN b] [] (.tup [pN y.1,pN y.2]) ([]) []:=by unfold Ey at h;refine A1 hS Tryz.func33 ?_;refine G0 hS trivial 9 5000 [pI .i64 a] ?_;refine G0 hS trivial 9 6000 [pI .i64 b] ?_;refine Ee hS (rfl:true=true) ⟨[(12,.vec 13000),(9,.clo CM [] [.p (.ptr [pI .i64 a]),.p (.ptr [pI .i64 b])]),(8,.p (.agg (E2 c)))],[(13000,.vec C6 1 (Sl.of [a,b]:Sl Int).n (fun i=>cI .i64 ((Sl.of [a,b]:Sl Int).g i)) false)]⟩ (ids:=[(13000,13000)]) ?_ (hle:=klR [(4,.fn 2 (Sl.of [a,b]:Sl Int).n (D7 [pI .i64 0] [(0,cI .i64 a),(1,cI .i64 b)]) (fun i=>cI .i64 ((Sl.of [a,b]:Sl Int).g i)))] (al1 ⟨rfl,(fun i d=>match i,d with|0,_=>rfl|1,_=>rfl|_+2,d=>absurd d (by omega))⟩ al0));refine kC hS h (Hw hS hL (fun e=>Lt hS hL e)) (fun y1 h=>?_);cases h;exact kR hS
def NE (N:Nat)(b:A3)(a:Int):Option (Int×Int):=
 (Bj N b (fun (u1:Int)=>FM N u1 a) (Sl.of [a]:Sl Int)).bind fun y1=>
 some (y1.1,y1.2)
theorem AM2 {N:Nat}{b:A3}{a:Int}{y:Int×Int}(h:NE N b a=some y) :FunO S Mx [.p (.agg (E2 b)),pN a] [] (.tup [pN y.1,pN y.2]) ([]) []:=by unfold NE at h;refine A1 hS Tryz.func35 ?_;refine G0 hS trivial 7 4000 [pI .i64 a] ?_;refine Ee hS (rfl:true=true) ⟨[(9,.vec 10000),(7,.clo Fy [] [.p (.ptr [pI .i64 a])]),(6,.p (.agg (E2 b)))],[(10000,.vec C6 1 (Sl.of [a]:Sl Int).n (fun i=>cI .i64 ((Sl.of [a]:Sl Int).g i)) false)]⟩ (ids:=[(10000,10000)]) ?_ (hle:=klR [(3,.fn 1 (Sl.of [a]:Sl Int).n (D7 [pI .i64 0] [(0,cI .i64 a)]) (fun i=>cI .i64 ((Sl.of [a]:Sl Int).g i)))] (al1 ⟨rfl,(fun i c=>match i,c with|0,_=>rfl|_+1,c=>absurd c (by omega))⟩ al0));refine kC hS h (Iu hS hL (fun e=>RU hS hL e)) (fun y1 h=>?_);cases h;exact kR hS
def Ck (N:Nat)(a:A3):Option ((Sl K7)×Int):=
 (T9 N a).bind fun y1=>
 if (y1 != 0) then
  some ((Sl.nil:Sl K7),y1)
 else
  P6 N (fun c (x3:Sl K7) (x4:Int)=>
   if (decide (x4<(a.Has.n:Int))) then
    if ((0:Int)<=x4/\x4<(a.Has.n:Int))then
     (P5 N a (fun (u5:Int)=>U0 N u5 (a.Has.g x4.toNat))).bind fun y4=>
     (K4 N y4 (fun (u6:Int)=>U0 N u6 (a.Has.g x4.toNat))).bind fun L3=>
     P7 L3 (fun b (x7:Int) (z3:Sl K7)=>
      if (decide (x4<x7)) then
       if ((z3.n+(Sl.of [(⟨x4,x7⟩:K7)]:Sl K7).n)*16<=140737488355328/\z3.n+(Sl.of [(⟨x4,x7⟩:K7)]:Sl K7).n<=140737488355328)then
        b (z3.push (⟨x4,x7⟩:K7))
       else none
      else
       b z3
      ) (fun (z3:Sl K7)=>
       c z3 (wrap .i64 (x4+1))
      ) x3
    else none
   else
    some (x3,0)
   ) (Sl.nil:Sl K7) 0
theorem Kj {N:Nat}{a:A3}{y:(Sl K7)×Int}(h:Ck N a=some y) :FunO S EP [.p (.agg (E2 a))] [] (.tup [.p (vSl 2 Q3 y.1),pN y.2]) ([]) []:=by
 unfold Ck at h;refine A1 hS Tryz.func19 ?_;refine kC hS h (BP hS hL) (fun y1 h=>?_);refine kI hS h ?_ ?_<;>intro h
 ·obtain rfl:=B6 h;exact A5 hS trivial ⟨[(3,pN y1),(2,.p (vSl 2 Q3 (Sl.nil:Sl K7)))],[]⟩ [] (ids:=[]) ⟨rfl,rfl,rfl⟩
 ·refine F5 hS trivial h (fun x3 x4=>⟨[(17,pN x4),(16,pN (a.Has.n:Int)),(15,.p (vSl 1 (cI .u64) a.Has)),(5,.reg 6000 0),(1,.reg 2000 0)],[(6501,.vec RB 2 x3.n (fun i=>Q3 (x3.g i)) false),(6000,.cells [.vec 6501]),(2000,.cells [pN a.Langs,.p (vSl 1 (cI .u64) a.Has)])]⟩) (ids:=[(2000,2000),(6000,6000)]) (fun _ _ _ _ _ d x3 x4 f h=>?_);refine kI hS h ?_ ?_<;>intro h
  ·obtain⟨c15,h⟩:=D5 h;refine G0 hS c15 23 8000 [pI .u64 (a.Has.g x4.toNat)] ?_;refine kC hS h (Bi hS hL (fun e=>DT hS hL e)) (fun y4 h=>?_);obtain⟨L3,e7,h⟩:=B8 h;refine Fv hS trivial [25000,25001] [17,16,15,6,5,1] 905 (fun z3=>⟨[(17,pN x4),(16,pN (a.Has.n:Int)),(15,.p (vSl 1 (cI .u64) a.Has)),(6,.reg 7000 0),(5,.reg 6000 0),(1,.reg 2000 0)],[(7000,.cells [pN x4]),(6500,.vec RB 2 z3.n (fun i=>Q3 (z3.g i)) false),(6000,.cells [.vec 6500]),(2000,.cells [pN a.Langs,.p (vSl 1 (cI .u64) a.Has)])]⟩) (idl:=[(2000,2000),(6000,6000),(6500,6501),(7000,7000)]) h (Z2 hS hL (fun e=>DT hS hL e) e7) (fun _=>by kernel_rfl) (fun _=>by kernel_rfl) (fun _=>by kernel_rfl) (fun _=>by kernel_rfl) (fun x7 _ j z3 b h=>?_) (fun z3 h=>?_)
   ·refine IV hS trivial ?_;refine kI hS h ?_ ?_<;>intro h
    ·obtain⟨c19,h⟩:=D5 h;exact b _ [(905,905),(2000,2000),(6000,6000),(6500,35000),(7000,7000)] _ (z3.push (⟨x4,x7⟩:K7)) (And.intro (rfl:true=true) c19) h (hle:=klR [(1,.fn (z3.n+1) (z3.push (⟨x4,x7⟩:K7)).n (R9 z3.n (fun i=>Q3 (z3.g i)) (D7 [pI .i64 0,pI .i64 0] [(0,Q3 (⟨x4,x7⟩:K7))])) (fun i=>Q3 ((z3.push (⟨x4,x7⟩:K7)).g i)))] (al1 ⟨rfl,Er (c:=Q3) (v:=z3) (x:=(⟨x4,x7⟩:K7)) (z:=[(pI .i64 0),pI .i64 0]) same rfl rfl⟩ al0))
    ·exact b _ [(905,905),(2000,2000),(6000,6000),(6500,6500),(7000,7000)] _ z3 trivial h
   ·exact f _ [(2000,2000),(6000,6000),(6501,6500)] _ z3 (wrap .i64 (x4+1)) trivial h
  ·obtain rfl:=B6 h;exact A5 hS trivial ⟨[(3,pN 0),(2,.p (vSl 2 Q3 x3))],[]⟩ [] (ids:=[]) ⟨rfl,rfl,rfl⟩
def GV (N:Nat)(c:A3)(b:Int):Option (A3×Int):=
 (T9 N c).bind fun y1=>
 if (y1 != 0) then
  some ((⟨0,(Sl.nil:Sl Int)⟩:A3),y1)
 else
  (T0 N c).bind fun y2=>
  if ((D2 .andNot .u64 b y2) != 0) then
   some ((⟨0,(Sl.nil:Sl Int)⟩:A3),2)
  else
   Ai6 N (fun f (x1:Nat->Int) (x2:Int) (x3:Int)=>
    if (x3 != 0) then
     (F1 N x3).bind fun y5=>
     if (((0:Int)<=x2/\x2<32)/\(0+x2.toNat*1)<32)then
      f (KH x1 (0+x2.toNat*1) y5) (wrap .i64 (x2+1)) (D2 .and .u64 x3 (wrap .u64 (x3-1)))
     else none
    else
     P6 N (fun i (x6:Sl Int) (x7:Int)=>
      if (decide (x7<(c.Has.n:Int))) then
       if (((0:Int)<=x7/\x7<(c.Has.n:Int))/\((0:Int)<=x2/\x2<=((32:Nat):Int)))then
        P6 N (fun j (d:Int) (a:Int)=>
         if (decide (a<((⟨x2.toNat,x1⟩:Sl Int).n:Int))) then
          if ((((0:Int)<=a/\a<((⟨x2.toNat,x1⟩:Sl Int).n:Int))/\(0:Int)<=((⟨x2.toNat,x1⟩:Sl Int).g a.toNat))/\(0:Int)<=a)then
           j (D2 .or .u64 d (shI .shl .u64 (D2 .and .u64 (shI .shr .u64 (c.Has.g x7.toNat) ((⟨x2.toNat,x1⟩:Sl Int).g a.toNat)) 1) a)) (wrap .i64 (a+1))
          else none
         else
          if ((x6.n+(Sl.of [d]:Sl Int).n)*8<=140737488355328/\x6.n+(Sl.of [d]:Sl Int).n<=140737488355328)then
           i (x6.push d) (wrap .i64 (x7+1))
          else none
         ) 0 0
       else none
      else
       some ((⟨x2,x6⟩:A3),0)
      ) (Sl.nil:Sl Int) 0
    ) (fun _=>0) 0 b
theorem Ul {N:Nat}{a:A3}{d:Int}{y:A3×Int}(h:GV N a d=some y) :FunO S KI [.p (.agg (E2 a)),.p (pI .u64 d)] [] (.tup [.p (.agg (E2 y.1)),pN y.2]) ([]) []:=by
 unfold GV at h;refine A1 hS Tryz.func26 ?_;refine G0 hS trivial 4 3000 [pI .i64 a.Langs,vSl 1 (cI .u64) a.Has] ?_;obtain⟨y1,e1,h⟩:=B8 h;refine B9 hS [] (by decide:(2:Nat)<=2) (BP hS hL e1) ?_;refine kI hS h ?_ ?_<;>intro h
 ·obtain rfl:=B6 h;exact A5 hS trivial ⟨[(5,pN y1),(4,.reg 5000 0)],[(5000,.cells [pN 0,.p (vSl 1 (cI .u64) (Sl.nil:Sl Int))])]⟩ [] (ids:=[(5000,5000)]) ⟨rfl,rfl,rfl⟩
 ·obtain⟨y2,e2,h⟩:=B8 h;refine B9 hS [] (by decide:(2:Nat)<=2) (Cj hS hL e2) ?_;refine kI hS h ?_ ?_<;>intro h
  ·obtain rfl:=B6 h;exact A5 hS trivial ⟨[(5,pN 2),(4,.reg 5000 0)],[(5000,.cells [pN 0,.p (vSl 1 (cI .u64) (Sl.nil:Sl Int))])]⟩ [] (ids:=[(5000,5000)]) ⟨rfl,rfl,rfl⟩
  ·refine IU hS trivial h (fun x1 x2 x3=>⟨[(9,.p (pI .u64 x3)),(8,.reg 9000 0),(7,.reg 8000 0),(4,.reg 5000 0),(2,.p (.ptr [pI .i64 a.Langs,vSl 1 (cI .u64) a.Has]))],[(9000,.cells [pN x2,.p G6]),(8000,.arr 32 (fun i=>pI .i64 (x1 i))),(5000,.cells [pN 0,.p G6])]⟩) (ids:=[(5000,5000),(8000,8000),(9000,9000)]) (fun _ _ _ _ _ j x1 x2 x3 l h=>?_) (hle:=klR [(4,.fn 32 32 (fun i=>[(fun i=>(List.replicate 32 (pI .i64 0)).getD i default) i]) (fun i=>[pI .i64 ((fun _=>0) i)]))] (al1 ⟨rfl,BC (z:=pI .i64 0) rfl⟩ al0));refine kI hS h ?_ ?_<;>intro h
   ·refine D9 hS trivial [3] ?_;obtain⟨y5,e5,h⟩:=B8 h;refine S6 trivial (X5 hS hL e5) ?_;obtain⟨c8,h⟩:=D5 h;refine I4 c8 ?_;exact l _ [(5000,5000),(8000,8000),(9000,9000)] _ (KH x1 (0+x2.toNat*1) y5) (wrap .i64 (x2+1)) (D2 .and .u64 x3 (wrap .u64 (x3-1))) trivial h (hle:=klR [(4,.fn 32 32 (fun i=>[(fun i=>if i=(0+x2.toNat*1)then (pI .i64 y5)else (fun i=>pI .i64 (x1 i)) i) i]) (fun i=>[pI .i64 (KH x1 (0+x2.toNat*1) y5 i)]))] (al1 ⟨rfl,AE2 (c:=pI .i64) (v:=x1) (x:=y5) (fun _ _=>rfl) rfl⟩ al0))
   ·refine AW0 hS trivial 44 8000 32 (fun i=>pI .i64 (x1 i)) ?_;refine F5 hS trivial h (fun x6 x7=>⟨[(47,pN x7),(46,pN (a.Has.n:Int)),(45,.p (vSl 1 (cI .u64) a.Has)),(8,.reg 9000 0),(7,.p (.ptr (Bv 32 (fun i=>pI .i64 (x1 i))))),(4,.reg 5000 0)],[(9500,.vec C5 1 x6.n (fun i=>cI .u64 (x6.g i)) false),(9000,.cells [pN x2,.vec 9500]),(5000,.cells [pN 0,.p G6])]⟩) (ids:=[(5000,5000),(9000,9000)]) (fun _ _ _ _ _ m x6 x7 o h=>?_);refine kI hS h ?_ ?_<;>intro h
    ·obtain⟨c22,h⟩:=D5 h;refine F5 hS c22 h (fun b f=>⟨[(55,pN f),(54,pN ((⟨x2.toNat,x1⟩:Sl Int).n:Int)),(53,.p (vSl 1 (cI .i64) (⟨x2.toNat,x1⟩:Sl Int))),(47,pN x7),(46,pN (a.Has.n:Int)),(45,.p (vSl 1 (cI .u64) a.Has)),(12,.p (pI .u64 b)),(11,.p (pI .u64 (a.Has.g x7.toNat))),(8,.reg 9000 0),(7,.p (.ptr (Bv 32 (fun i=>pI .i64 (x1 i))))),(4,.reg 5000 0)],[(9500,.vec C5 1 x6.n (fun i=>cI .u64 (x6.g i)) false),(9000,.cells [pN x2,.vec 9500]),(5000,.cells [pN 0,.p G6])]⟩) (ids:=[(5000,5000),(9000,9000),(9500,9500)]) (fun _ _ _ _ _ q b f r h=>?_) (hle:=klR [(2,.fn x2.toNat (⟨x2.toNat,x1⟩:Sl Int).n (fun i=>[(Bv 32 (fun i=>pI .i64 (x1 i))).getD i default]) (fun i=>cI .i64 ((⟨x2.toNat,x1⟩:Sl Int).g i)))] (al1 ⟨rfl,fun i s=>arrG _ (by omega)⟩ al0));refine kI hS h ?_ ?_<;>intro h
     ·obtain⟨c26,h⟩:=D5 h;exact r _ [(5000,5000),(9000,9000),(9500,9500)] _ (D2 .or .u64 b (shI .shl .u64 (D2 .and .u64 (shI .shr .u64 (a.Has.g x7.toNat) ((⟨x2.toNat,x1⟩:Sl Int).g f.toNat)) 1) f)) (wrap .i64 (f+1)) c26 h
     ·obtain⟨c27,h⟩:=D5 h;exact o _ [(5000,5000),(9000,9000),(9500,74000)] _ (x6.push b) (wrap .i64 (x7+1)) (And.intro (rfl:true=true) c27) h (hle:=klR [(4,.fn (x6.n+1) (x6.push b).n (R9 x6.n (fun i=>cI .u64 (x6.g i)) (D7 [pI .u64 0] [(0,cI .u64 b)])) (fun i=>cI .u64 ((x6.push b).g i)))] (al1 ⟨rfl,Er (c:=cI .u64) (v:=x6) (x:=b) (z:=[(pI .u64 0)]) same rfl rfl⟩ al0))
    ·obtain rfl:=B6 h;exact A5 hS trivial ⟨[(5,pN 0),(4,.reg 5000 0)],[(5000,.cells [pN x2,.p (vSl 1 (cI .u64) x6)])]⟩ [] (ids:=[(5000,5000)]) ⟨rfl,rfl,rfl⟩
def K5 (N:Nat)(a:List (Int)):Option (Sl Int):=
 P7 a (fun b (x1:Int) (z1:Sl Int)=>
  if ((z1.n+(Sl.of [x1]:Sl Int).n)*8<=140737488355328/\z1.n+(Sl.of [x1]:Sl Int).n<=140737488355328)then
   b (z1.push x1)
  else none
  ) (fun (z1:Sl Int)=>
   some z1
  ) (Sl.nil:Sl Int)
theorem CH {N:Nat}{f:List (Int)}{a:A3}{d:Nat}{b:List PV}{kp_seq:Nat}(fp_seq:∃fn,AY9[kp_seq]? = some fn/\fn.body.isSome=true/\(fn.name == "runtime.NumGoroutine")=false)(j:Fp S kp_seq [] [.reg 0 0,.reg 1 0] [(.cells [(pN a.Langs),(.p (vSl 1 (cI .u64) a.Has))]),(.cells [(.clo d [] [(.p (.ptr b))])])] (f.map (fun (x:Int)=>[(pI .i64) x]))){y:(Sl Int)}(h:K5 N f=some y) :FunO S N0 [(.p G6),(.clo kp_seq [] [(.reg 0 0),(.reg 1 0)])] [(.cells [(pN a.Langs),(.p (vSl 1 (cI .u64) a.Has))]),(.cells [(.clo d [] [(.p (.ptr b))])])] (.vec 0) ([(.vec C6 1 y.n (fun i=>(cI .i64) (y.g i)) true)]) [false,false]:=by
 unfold K5 at h;refine A1 hS Tryz.func97 ?_;refine QZ hS trivial fp_seq [0,1] [2] 901 (fun z1=>⟨[(2,(.reg 3000 0))],[(3500,(.vec C6 1 z1.n (fun i=>(cI .i64) (z1.g i)) false)),(3000,(.cells [(.vec 3500)]))]⟩) (idl:=[(3000,3000)]) h j (fun _=>by kernel_rfl) (fun _=>by kernel_rfl) (fun _=>by kernel_rfl) (fun _=>by kernel_rfl) (fun x1 _ l z1 m h=>?_) (fun z1 h=>?_)
 ·refine IV hS trivial ?_;obtain⟨c1,h⟩:=D5 h;exact m _ [(901,901),(3000,3000),(3500,12000)] _ (z1.push x1) (And.intro (rfl:true=true) c1) h (hle:=klR [(0,.fn (z1.n+1) (z1.push x1).n (R9 z1.n (fun i=>(cI .i64) (z1.g i)) (D7 [(pI .i64 0)] [(0,(cI .i64) x1)])) (fun i=>(cI .i64) ((z1.push x1).g i)))] (al1 ⟨rfl,(Er (c:=(cI .i64)) (v:=z1) (x:=x1) (z:=[(pI .i64 0)]) same rfl rfl)⟩ al0))
 ·obtain rfl:=B6 h;exact A5 hS trivial ⟨[(4,(.vec 3500))],[(3500,(.vec C6 1 z1.n (fun i=>(cI .i64) (z1.g i)) true))]⟩ [3500] (ids:=[(3500,3500)]) ⟨rfl,rfl,rfl⟩
def Z3 (N:Nat)(a:List (Int)):Option (Sl Int):=
 (K5 N a).bind fun y1=>
 some y1
theorem GW {N:Nat}{d:List (Int)}{a:A3}{c:Nat}{b:List PV}{kp_seq:Nat}(fp_seq:∃fn,AY9[kp_seq]? = some fn/\fn.body.isSome=true/\(fn.name == "runtime.NumGoroutine")=false)(f:Fp S kp_seq [] [.reg 0 0,.reg 1 0] [(.cells [(pN a.Langs),(.p (vSl 1 (cI .u64) a.Has))]),(.cells [(.clo c [] [(.p (.ptr b))])])] (d.map (fun (x:Int)=>[(pI .i64) x]))){y:(Sl Int)}(h:Z3 N d=some y) :FunO S Aq [(.clo kp_seq [] [(.reg 0 0),(.reg 1 0)])] [(.cells [(pN a.Langs),(.p (vSl 1 (cI .u64) a.Has))]),(.cells [(.clo c [] [(.p (.ptr b))])])] (.vec 0) ([(.vec C6 1 y.n (fun i=>(cI .i64) (y.g i)) true)]) [false,false]:=by unfold Z3 at h;refine A1 hS Tryz.func56 ?_;obtain⟨y1,e1,h⟩:=B8 h;refine B9 hS [0,1] trivial (CH hS hL fp_seq f e1) ?_;obtain rfl:=B6 h;exact A5 hS trivial ⟨[(2,(.vec 5000))],[(5000,(.vec C6 1 y1.n (fun i=>(cI .i64) (y1.g i)) true))]⟩ [5000] (ids:=[(5000,5000)]) ⟨rfl,rfl,rfl⟩
def Ez (N:Nat)(a:A3):Option ((Sl Int)×Int):=
 (T9 N a).bind fun y1=>
 if (y1 != 0) then
  some ((Sl.nil:Sl Int),y1)
 else
  (P5 N a (fun (u1:Int)=>AX N u1 a)).bind fun y2=>
  (K4 N y2 (fun (u2:Int)=>AX N u2 a)).bind fun L1=>
  (Z3 N L1).bind fun y3=>
  some (y3,0)
theorem OW {N:Nat}{a:A3}{y:(Sl Int)×Int}(h:Ez N a=some y) :FunO S HG [.p (.agg (E2 a))] [] (.tup [.p (vSl 1 (cI .i64) y.1),pN y.2]) ([]) []:=by
 unfold Ez at h;refine A1 hS Tryz.func17 ?_;refine kC hS h (BP hS hL) (fun y1 h=>?_);refine kI hS h ?_ ?_<;>intro h
 ·obtain rfl:=B6 h;exact A5 hS trivial ⟨[(3,pN y1),(2,.p (vSl 1 (cI .i64) (Sl.nil:Sl Int)))],[]⟩ [] (ids:=[]) ⟨rfl,rfl,rfl⟩
 ·refine G0 hS trivial 11 2000 [pI .i64 a.Langs,vSl 1 (cI .u64) a.Has] ?_;refine kC hS h (Bi hS hL (fun e=>Gc hS hL e)) (fun y2 h=>?_);obtain⟨L1,e3,h⟩:=B8 h;obtain⟨y3,e4,h⟩:=B8 h;refine B9 hS [13000,13001] trivial (GW hS hL ⟨_,Tryz.func98,by decide +kernel,by decide +kernel⟩ (Z2 hS hL (fun e=>Gc hS hL e) e3) e4) ?_;obtain rfl:=B6 h;exact A5 hS trivial ⟨[(3,pN 0),(2,.p (vSl 1 (cI .i64) y3))],[]⟩ [] (ids:=[]) ⟨rfl,rfl,rfl⟩
def J7 (N:Nat)(a:B0):Option ((Sl Int)×Int):=
 (BO N a.Tree).bind fun y1=>
 if (y1.2 != 0) then
  some ((Sl.nil:Sl Int),y1.2)
 else
  if (decide (32<(y1.1.n:Int))) then
   some ((Sl.nil:Sl Int),12)
  else
   some (y1.1,0)
theorem HZ {N:Nat}{a:B0}{y:(Sl Int)×Int}(h:J7 N a=some y) :FunO S HI [.p (.agg (A8 a))] [] (.tup [.vec 0,pN y.2]) ([.vec C6 1 y.1.n (fun i=>cI .i64 (y.1.g i)) true]) []:=by
 unfold J7 at h;refine A1 hS Tryz.func71 ?_;refine kC hS h (RR hS hL) (fun y1 h=>?_);refine kI hS h ?_ ?_<;>intro h
 ·obtain rfl:=B6 h;exact A5 hS trivial ⟨[(3,pN y1.2),(2,.vec 3700)],[(3700,.vec C6 1 (Sl.nil:Sl Int).n (fun i=>cI .i64 ((Sl.nil:Sl Int).g i)) true)]⟩ [3700] (ids:=[]) ⟨rfl,rfl,rfl⟩
 ·refine kI hS h ?_ ?_<;>intro h
  ·obtain rfl:=B6 h;exact A5 hS trivial ⟨[(3,pN 12),(2,.vec 3700)],[(3700,.vec C6 1 (Sl.nil:Sl Int).n (fun i=>cI .i64 ((Sl.nil:Sl Int).g i)) true)]⟩ [3700] (ids:=[]) ⟨rfl,rfl,rfl⟩
  ·obtain rfl:=B6 h;exact A5 hS trivial ⟨[(3,pN 0),(2,.vec 10000)],[(10000,.vec C6 1 y1.1.n (fun i=>cI .i64 (y1.1.g i)) true)]⟩ [10000] (ids:=[(10000,10000)]) ⟨rfl,rfl,rfl⟩
def GX (N:Nat)(a:B0):Option (A3×Int):=
 (K3 N a).bind fun y1=>
 if (y1 != 0) then
  some ((⟨0,(Sl.nil:Sl Int)⟩:A3),y1)
 else
  (J7 N a).bind fun y2=>
  if (y2.2 != 0) then
   some ((⟨0,(Sl.nil:Sl Int)⟩:A3),y2.2)
  else
   if ((0:Int)<=(a.Laws.n:Int)/\(a.Laws.n:Int)<=(a.Laws.n:Int)/\(a.Laws.n:Int)*8<=140737488355328/\(a.Laws.n:Int)<=140737488355328)then
    P6 N (fun b (x3:Sl Int) (x4:Int)=>
     if (decide (x4<(y2.1.n:Int))) then
      if (((0:Int)<=x4/\x4<(y2.1.n:Int))/\x4.toNat<y2.1.n)then
       (O4 N a (y2.1.g x4.toNat)).bind fun y5=>
       if (y5.2 != 0) then
        some ((⟨0,(Sl.nil:Sl Int)⟩:A3),y5.2)
       else
        P6 N (fun c (x7:Sl Int) (x8:Int)=>
         if (decide (x8<(y5.1.n:Int))) then
          if (((0:Int)<=x8/\x8<(y5.1.n:Int))/\x8.toNat<y5.1.n)then
           if ((((((0:Int)<=(y5.1.g x8.toNat)/\(y5.1.g x8.toNat)<(x7.n:Int))/\(y5.1.g x8.toNat).toNat<x7.n)/\(0:Int)<=x4)/\((0:Int)<=(y5.1.g x8.toNat)/\(y5.1.g x8.toNat)<(x7.n:Int)))/\(y5.1.g x8.toNat).toNat<x7.n)then
            c (x7.upd (y5.1.g x8.toNat).toNat (D2 .or .u64 (x7.g (y5.1.g x8.toNat).toNat) (shI .shl .u64 1 x4))) (wrap .i64 (x8+1))
           else none
          else none
         else
          b x7 (wrap .i64 (x4+1))
         ) x3 0
      else none
     else
      some ((⟨(y2.1.n:Int),x3⟩:A3),0)
     ) (Sl.rep (a.Laws.n:Int).toNat 0:Sl Int) 0
   else none
theorem Um {N:Nat}{a:B0}{y:A3×Int}(h:GX N a=some y) :FunO S KJ [.p (.agg (A8 a))] [] (.tup [.p (.agg (E2 y.1)),pN y.2]) ([]) []:=by
 unfold GX at h;refine A1 hS Tryz.func29 ?_;refine G0 hS trivial 2 2000 (A8 a) ?_;obtain⟨y1,e1,h⟩:=B8 h;refine B9 hS [] (by decide:(3:Nat)<=3) (DR hS hL e1) ?_;refine kI hS h ?_ ?_<;>intro h
 ·obtain rfl:=B6 h;exact A5 hS trivial ⟨[(3,pN y1),(2,.reg 3000 0)],[(3000,.cells [pN 0,.p (vSl 1 (cI .u64) (Sl.nil:Sl Int))])]⟩ [] (ids:=[(3000,3000)]) ⟨rfl,rfl,rfl⟩
 ·obtain⟨y2,e2,h⟩:=B8 h;refine B9 hS [] (by decide:(3:Nat)<=3) (HZ hS hL e2) ?_;refine kI hS h ?_ ?_<;>intro h
  ·obtain rfl:=B6 h;exact A5 hS trivial ⟨[(3,pN y2.2),(2,.reg 3000 0)],[(3000,.cells [pN 0,.p (vSl 1 (cI .u64) (Sl.nil:Sl Int))])]⟩ [] (ids:=[(3000,3000)]) ⟨rfl,rfl,rfl⟩
  ·obtain⟨c3,h⟩:=D5 h;refine F5 hS c3 h (fun x3 x4=>⟨[(38,pN x4),(37,pN (y2.1.n:Int)),(36,.vec 23000),(7,.reg 8000 0),(2,.reg 3000 0),(1,.p (.ptr (A8 a)))],[(35000,.vec C5 1 x3.n (fun i=>cI .u64 (x3.g i)) false),(23000,.vec C6 1 y2.1.n (fun i=>cI .i64 (y2.1.g i)) true),(8000,.cells [pN (y2.1.n:Int),.vec 35000]),(3000,.cells [pN 0,.p G6])]⟩) (ids:=[(3000,3000),(8000,8000),(23000,23000),(35000,35000)]) (fun _ _ _ _ _ b x3 x4 d h=>?_);refine kI hS h ?_ ?_<;>intro h
   ·obtain⟨c29,h⟩:=D5 h;obtain⟨y5,e5,h⟩:=B8 h;refine B9 hS [] (And.intro (And.intro c29.1 c29.2) (by decide:(3:Nat)<=3)) (HY hS hL e5) ?_;refine kI hS h ?_ ?_<;>intro h
    ·obtain rfl:=B6 h;exact A5 hS trivial ⟨[(3,pN y5.2),(2,.reg 3000 0)],[(3000,.cells [pN 0,.p (vSl 1 (cI .u64) (Sl.nil:Sl Int))])]⟩ [] (ids:=[(3000,3000)]) ⟨rfl,rfl,rfl⟩
    ·refine F5 hS trivial h (fun x7 x8=>⟨[(55,pN x8),(54,pN (y5.1.n:Int)),(53,.vec 47000),(38,pN x4),(37,pN (y2.1.n:Int)),(36,.vec 23000),(8,pN x4),(7,.reg 8000 0),(2,.reg 3000 0),(1,.p (.ptr (A8 a)))],[(47000,.vec C6 1 y5.1.n (fun i=>cI .i64 (y5.1.g i)) true),(35000,.vec C5 1 x7.n (fun i=>cI .u64 (x7.g i)) false),(23000,.vec C6 1 y2.1.n (fun i=>cI .i64 (y2.1.g i)) true),(8000,.cells [pN (y2.1.n:Int),.vec 35000]),(3000,.cells [pN 0,.p G6])]⟩) (ids:=[(3000,3000),(8000,8000),(23000,23000),(35000,35000),(47000,47000)]) (fun _ _ _ _ _ f x7 x8 j h=>?_);refine kI hS h ?_ ?_<;>intro h
     ·obtain⟨c38,h⟩:=D5 h;refine Il hS c38 ?_;obtain⟨c39,h⟩:=D5 h;refine I4 (And.intro (And.intro (And.intro (And.intro c39.1.1.1.1 c39.1.1.1.2) c39.1.1.2) c39.1.2) (And.intro (rfl:(1:Nat)=1) (And.intro c39.2 (by decide:(1:Nat)<=1)))) ?_;exact j _ [(3000,3000),(8000,8000),(23000,23000),(35000,35000),(47000,47000)] _ (x7.upd (y5.1.g x8.toNat).toNat (D2 .or .u64 (x7.g (y5.1.g x8.toNat).toNat) (shI .shl .u64 1 x4))) (wrap .i64 (x8+1)) trivial h (hle:=klR [(7,.fn x7.n (x7.upd (y5.1.g x8.toNat).toNat (D2 .or .u64 (x7.g (y5.1.g x8.toNat).toNat) (shI .shl .u64 1 x4))).n (fun l=>if l=(y5.1.g x8.toNat).toNat then splice ((fun i=>cI .u64 (x7.g i)) l) 0 [pI .u64 (D2 .or .u64 (x7.g (y5.1.g x8.toNat).toNat) (shI .shl .u64 1 x4))]else (fun i=>cI .u64 (x7.g i)) l) (fun i=>cI .u64 ((x7.upd (y5.1.g x8.toNat).toNat (D2 .or .u64 (x7.g (y5.1.g x8.toNat).toNat) (shI .shl .u64 1 x4))).g i)))] (al1 ⟨rfl,Ad4 (c:=cI .u64) (v:=x7) (x:=D2 .or .u64 (x7.g (y5.1.g x8.toNat).toNat) (shI .shl .u64 1 x4)) same (fun _=>by first|rfl|(dsimp only;split<;>rfl))⟩ al0))
     ·exact d _ [(3000,3000),(8000,8000),(23000,23000),(35000,35000)] _ x7 (wrap .i64 (x4+1)) trivial h
   ·obtain rfl:=B6 h;exact A5 hS trivial ⟨[(3,pN 0),(2,.reg 3000 0)],[(3000,.cells [pN (y2.1.n:Int),.p (vSl 1 (cI .u64) x3)])]⟩ [] (ids:=[(3000,3000)]) ⟨rfl,rfl,rfl⟩
def H0 (N:Nat)(i:B0)(c:Sl (Sl Sound)):Option (A3×Int):=
 (K3 N i).bind fun y1=>
 if (y1 != 0) then
  some ((⟨0,(Sl.nil:Sl Int)⟩:A3),y1)
 else
  if (decide (256<(c.n:Int))) then
   some ((⟨0,(Sl.nil:Sl Int)⟩:A3),12)
  else
   W6 N (fun j (x1:Int)=>
    if (decide (x1<(c.n:Int))) then
     if ((0:Int)<=x1/\x1<(c.n:Int))then
      (X8 N (c.g x1.toNat)).bind fun y4=>
      if (y4 != 0) then
       some ((⟨0,(Sl.nil:Sl Int)⟩:A3),y4)
      else
       j (wrap .i64 (x1+1))
     else none
    else
     (J7 N i).bind fun y5=>
     if (y5.2 != 0) then
      some ((⟨0,(Sl.nil:Sl Int)⟩:A3),y5.2)
     else
      P6 N (fun l (x2:Sl (Sl Law)) (x3:Int)=>
       if (decide (x3<(y5.1.n:Int))) then
        if (((0:Int)<=x3/\x3<(y5.1.n:Int))/\x3.toNat<y5.1.n)then
         (O5 N i (y5.1.g x3.toNat)).bind fun y8=>
         if (y8.2 != 0) then
          some ((⟨0,(Sl.nil:Sl Int)⟩:A3),y8.2)
         else
          if ((x2.n+(Sl.of [y8.1]:Sl (Sl Law)).n)*24<=140737488355328/\x2.n+(Sl.of [y8.1]:Sl (Sl Law)).n<=140737488355328)then
           l (x2.push y8.1) (wrap .i64 (x3+1))
          else none
        else none
       else
        P6 N (fun d (x7:Sl Int) (x8:Int)=>
         if (decide (x8<(c.n:Int))) then
          if ((0:Int)<=x8/\x8<(c.n:Int))then
           Ai6 N (fun f (m:List (Str×Int)) (a:Sl Int) (b:Int)=>
            if (decide (b<(y5.1.n:Int))) then
             if (((0:Int)<=b/\b<(x2.n:Int))/\b.toNat<x2.n)then
              (G3 N (x2.g b.toNat) (c.g x8.toNat)).bind fun o=>
              (Cy N o.1 o.2).bind fun q=>
              Av1 (BU eqS q m) (
               if ((a.n+(Sl.of [0]:Sl Int).n)*8<=140737488355328/\a.n+(Sl.of [0]:Sl Int).n<=140737488355328)then
                if ((((((0:Int)<=(a.n:Int)/\(a.n:Int)<((a.push 0).n:Int))/\(a.n:Int).toNat<(a.push 0).n)/\(0:Int)<=b)/\((0:Int)<=(a.n:Int)/\(a.n:Int)<((a.push 0).n:Int)))/\(a.n:Int).toNat<(a.push 0).n)then
                 f (NZ eqS q (a.n:Int) m) ((a.push 0).upd (a.n:Int).toNat (D2 .or .u64 ((a.push 0).g (a.n:Int).toNat) (shI .shl .u64 1 b))) (wrap .i64 (b+1))
                else none
               else none
               ) fun v9=>
               if ((((((0:Int)<=v9/\v9<(a.n:Int))/\v9.toNat<a.n)/\(0:Int)<=b)/\((0:Int)<=v9/\v9<(a.n:Int)))/\v9.toNat<a.n)then
                f m (a.upd v9.toNat (D2 .or .u64 (a.g v9.toNat) (shI .shl .u64 1 b))) (wrap .i64 (b+1))
               else none
             else none
            else
             if (decide (1<(a.n:Int))) then
              if ((x7.n+a.n)*8<=140737488355328/\x7.n+a.n<=140737488355328)then
               if (decide (64<((x7.app a).n:Int))) then
                some ((⟨0,(Sl.nil:Sl Int)⟩:A3),12)
               else
                d (x7.app a) (wrap .i64 (x8+1))
              else none
             else
              if (decide (64<(x7.n:Int))) then
               some ((⟨0,(Sl.nil:Sl Int)⟩:A3),12)
              else
               d x7 (wrap .i64 (x8+1))
            ) [] (Sl.nil:Sl Int) 0
          else none
         else
          some ((⟨(y5.1.n:Int),x7⟩:A3),0)
         ) (Sl.nil:Sl Int) 0
       ) (Sl.nil:Sl (Sl Law)) 0
    ) 0
theorem Jz {N:Nat}{o:B0}{f:Sl (Sl Sound)}{y:A3×Int}(h:H0 N o f=some y) :FunO S IY [.p (.agg (A8 o)),.p (vSl 1 (cL 2 A0) f)] [] (.tup [.p (.agg (E2 y.1)),pN y.2]) ([]) []:=by
 unfold H0 at h;refine A1 hS Tryz.func31 ?_;refine G0 hS trivial 4 3000 (A8 o) ?_;obtain⟨y1,e1,h⟩:=B8 h;refine B9 hS [] (by decide:(3:Nat)<=3) (DR hS hL e1) ?_;refine kI hS h ?_ ?_<;>intro h
 ·obtain rfl:=B6 h;exact A5 hS trivial ⟨[(5,pN y1),(4,.reg 5000 0)],[(5000,.cells [pN 0,.p (vSl 1 (cI .u64) (Sl.nil:Sl Int))])]⟩ [] (ids:=[(5000,5000)]) ⟨rfl,rfl,rfl⟩
 ·refine kI hS h ?_ ?_<;>intro h
  ·obtain rfl:=B6 h;exact A5 hS trivial ⟨[(5,pN 12),(4,.reg 5000 0)],[(5000,.cells [pN 0,.p (vSl 1 (cI .u64) (Sl.nil:Sl Int))])]⟩ [] (ids:=[(5000,5000)]) ⟨rfl,rfl,rfl⟩
  ·refine J0 hS trivial h (fun x1=>⟨[(38,pN x1),(37,pN (f.n:Int)),(36,.p (vSl 1 (cL 2 A0) f)),(4,.reg 5000 0),(2,.p (.ptr (A8 o))),(1,.p (vSl 1 (cL 2 A0) f))],[(5000,.cells [pN 0,.p G6])]⟩) (ids:=[(5000,5000)]) (fun _ _ _ _ _ s x1 t h=>?_);refine kI hS h ?_ ?_<;>intro h
   ·obtain⟨c10,h⟩:=D5 h;obtain⟨y4,e4,h⟩:=B8 h;refine B9 hS [] c10 (GO hS hL e4) ?_;refine kI hS h ?_ ?_<;>intro h
    ·obtain rfl:=B6 h;exact A5 hS trivial ⟨[(5,pN y4),(4,.reg 5000 0)],[(5000,.cells [pN 0,.p (vSl 1 (cI .u64) (Sl.nil:Sl Int))])]⟩ [] (ids:=[(5000,5000)]) ⟨rfl,rfl,rfl⟩
    ·exact t _ [(5000,5000)] _ (wrap .i64 (x1+1)) trivial h
   ·obtain⟨y5,e5,h⟩:=B8 h;refine B9 hS [] (by decide:(3:Nat)<=3) (HZ hS hL e5) ?_;refine kI hS h ?_ ?_<;>intro h
    ·obtain rfl:=B6 h;exact A5 hS trivial ⟨[(5,pN y5.2),(4,.reg 5000 0)],[(5000,.cells [pN 0,.p (vSl 1 (cI .u64) (Sl.nil:Sl Int))])]⟩ [] (ids:=[(5000,5000)]) ⟨rfl,rfl,rfl⟩
    ·refine F5 hS trivial h (fun x2 x3=>⟨[(60,pN x3),(59,pN (y5.1.n:Int)),(58,.vec 52000),(12,.vec 13500),(10,.vec 52000),(4,.reg 5000 0),(2,.p (.ptr (A8 o))),(1,.p (vSl 1 (cL 2 A0) f))],[(52000,.vec C6 1 y5.1.n (fun i=>cI .i64 (y5.1.g i)) true),(13500,.vec Ei 1 x2.n (fun i=>cL 18 B4 (x2.g i)) false),(5000,.cells [pN 0,.p G6])]⟩) (ids:=[(5000,5000),(52000,52000)]) (fun _ _ _ _ _ u x2 x3 a0 h=>?_);refine kI hS h ?_ ?_<;>intro h
     ·obtain⟨c20,h⟩:=D5 h;obtain⟨y8,e8,h⟩:=B8 h;refine B9 hS [] (And.intro (And.intro c20.1 c20.2) (by decide:(3:Nat)<=3)) (OT hS hL e8) ?_;refine kI hS h ?_ ?_<;>intro h
      ·obtain rfl:=B6 h;exact A5 hS trivial ⟨[(5,pN y8.2),(4,.reg 5000 0)],[(5000,.cells [pN 0,.p (vSl 1 (cI .u64) (Sl.nil:Sl Int))])]⟩ [] (ids:=[(5000,5000)]) ⟨rfl,rfl,rfl⟩
      ·obtain⟨c22,h⟩:=D5 h;exact a0 _ [(5000,5000),(13500,78000),(52000,52000)] _ (x2.push y8.1) (wrap .i64 (x3+1)) (And.intro (rfl:true=true) c22) h (hle:=klR [(5,.fn (x2.n+1) (x2.push y8.1).n (R9 x2.n (fun i=>cL 18 B4 (x2.g i)) (D7 [G6] [(0,cL 18 B4 y8.1)])) (fun i=>cL 18 B4 ((x2.push y8.1).g i)))] (al1 ⟨rfl,Er (c:=cL 18 B4) (v:=x2) (x:=y8.1) (z:=[G6]) same rfl rfl⟩ al0))
     ·refine F5 hS trivial h (fun x7 x8=>⟨[(84,pN x8),(83,pN (f.n:Int)),(82,.p (vSl 1 (cL 2 A0) f)),(17,.reg 18000 0),(12,.vec 13500),(10,.vec 52000),(4,.reg 5000 0)],[(52000,.vec C6 1 y5.1.n (fun i=>cI .i64 (y5.1.g i)) true),(18500,.vec C5 1 x7.n (fun i=>cI .u64 (x7.g i)) false),(18000,.cells [pN (y5.1.n:Int),.vec 18500]),(13500,.vec Ei 1 x2.n (fun i=>cL 18 B4 (x2.g i)) false),(5000,.cells [pN 0,.p G6])]⟩) (ids:=[(5000,5000),(13500,13500),(18000,18000),(52000,52000)]) (fun _ _ _ _ _ a1 x7 x8 q h=>?_);refine kI hS h ?_ ?_<;>intro h
      ·obtain⟨c76,h⟩:=D5 h;refine IU hS c76 h (fun j a d=>⟨[(91,pN d),(90,pN (y5.1.n:Int)),(84,pN x8),(83,pN (f.n:Int)),(82,.p (vSl 1 (cL 2 A0) f)),(21,.vec 22500),(20,.mref 89000),(19,.p (vSl 2 A0 (f.g x8.toNat))),(17,.reg 18000 0),(12,.vec 13500),(10,.vec 52000),(4,.reg 5000 0)],[(89000,.map (Li PV.str (pI .i64) j)),(52000,.vec C6 1 y5.1.n (fun i=>cI .i64 (y5.1.g i)) true),(22500,.vec C5 1 a.n (fun i=>cI .u64 (a.g i)) false),(18500,.vec C5 1 x7.n (fun i=>cI .u64 (x7.g i)) false),(18000,.cells [pN (y5.1.n:Int),.vec 18500]),(13500,.vec Ei 1 x2.n (fun i=>cL 18 B4 (x2.g i)) false),(5000,.cells [pN 0,.p G6])]⟩) (ids:=[(5000,5000),(13500,13500),(18000,18000),(18500,18500),(52000,52000),(89000,89000)]) (fun _ _ _ _ _ a2 j a d r h=>?_);refine kI hS h ?_ ?_<;>intro h
       ·obtain⟨c91,h⟩:=D5 h;obtain⟨a3,e25,h⟩:=B8 h;refine B9 hS [] c91 (Ny hS hL e25) ?_;refine kC hS h (TX hS hL) (fun m h=>?_);rcases o9:BU eqS m j with _|v9
        ·replace h:=optN o9 h;refine Hj hS trivial (kt:=Ct) (e:=C6) (key:=PV.str m) (es:=Li PV.str (pI .i64) j) (x:=pI .i64 0) (b:=false) (fd:=none) ((Dx (kP:=PV.str) (vP:=pI .i64) (eq:=eqS) (fun _ _=>by kernel_rfl) m j).trans (by rw[o9];rfl)) trivial ?_;refine D3 hS trivial (b:=true) (fun c92=>?_) (fun c92=>?_)
         ·refine LC hS trivial (kt:=Ct) (key:=PV.str m) (y:=pI .i64 (a.n:Int)) (es:=Li PV.str (pI .i64) j) (IQ (kP:=PV.str) (vP:=pI .i64) (eq:=eqS) (fun _ _=>by kernel_rfl) m (a.n:Int) j) trivial ?_;obtain⟨c93,h⟩:=D5 h;refine I5 hS (And.intro (rfl:true=true) c93) 21 ⟨[(118,.vec 119000),(91,pN d),(90,pN (y5.1.n:Int)),(84,pN x8),(83,pN (f.n:Int)),(82,.p (vSl 1 (cL 2 A0) f)),(24,pN (a.n:Int)),(22,pN d),(20,.mref 89000),(19,.p (vSl 2 A0 (f.g x8.toNat))),(17,.reg 18000 0),(12,.vec 13500),(10,.vec 52000),(4,.reg 5000 0)],[(119000,.vec C5 1 (a.push 0).n (fun i=>cI .u64 ((a.push 0).g i)) false),(89000,.map (Li PV.str (pI .i64) (NZ eqS m (a.n:Int) j))),(52000,.vec C6 1 y5.1.n (fun i=>cI .i64 (y5.1.g i)) true),(18500,.vec C5 1 x7.n (fun i=>cI .u64 (x7.g i)) false),(18000,.cells [pN (y5.1.n:Int),.vec 18500]),(13500,.vec Ei 1 x2.n (fun i=>cL 18 B4 (x2.g i)) false),(5000,.cells [pN 0,.p G6])]⟩ (ids:=[(5000,5000),(13500,13500),(18000,18000),(18500,18500),(52000,52000),(89000,89000),(119000,119000)]) ?_ (hle:=klR [(8,.fn (a.n+1) (a.push 0).n (R9 a.n (fun i=>cI .u64 (a.g i)) (D7 [pI .u64 0] [(0,cI .u64 0)])) (fun i=>cI .u64 ((a.push 0).g i)))] (al1 ⟨rfl,Er (c:=cI .u64) (v:=a) (x:=0) (z:=[(pI .u64 0)]) same rfl rfl⟩ al0));refine Il hS trivial ?_;obtain⟨c94,h⟩:=D5 h;refine I4 (And.intro (And.intro (And.intro (And.intro c94.1.1.1.1 c94.1.1.1.2) c94.1.1.2) c94.1.2) (And.intro (rfl:(1:Nat)=1) (And.intro c94.2 (by decide:(1:Nat)<=1)))) ?_;exact r _ [(5000,5000),(13500,13500),(18000,18000),(18500,18500),(22500,119000),(52000,52000),(89000,89000)] _ (NZ eqS m (a.n:Int) j) ((a.push 0).upd (a.n:Int).toNat (D2 .or .u64 ((a.push 0).g (a.n:Int).toNat) (shI .shl .u64 1 d))) (wrap .i64 (d+1)) trivial h (hle:=klR [(8,.fn (a.push 0).n ((a.push 0).upd (a.n:Int).toNat (D2 .or .u64 ((a.push 0).g (a.n:Int).toNat) (shI .shl .u64 1 d))).n (fun l=>if l=(a.n:Int).toNat then splice ((fun i=>cI .u64 ((a.push 0).g i)) l) 0 [pI .u64 (D2 .or .u64 ((a.push 0).g (a.n:Int).toNat) (shI .shl .u64 1 d))]else (fun i=>cI .u64 ((a.push 0).g i)) l) (fun i=>cI .u64 (((a.push 0).upd (a.n:Int).toNat (D2 .or .u64 ((a.push 0).g (a.n:Int).toNat) (shI .shl .u64 1 d))).g i)))] (al1 ⟨rfl,Ad4 (c:=cI .u64) (v:=a.push 0) (x:=D2 .or .u64 ((a.push 0).g (a.n:Int).toNat) (shI .shl .u64 1 d)) same (fun _=>by first|rfl|(dsimp only;split<;>rfl))⟩ al0))
         ·exact Bool.noConfusion ((rfl:true=true).symm.trans c92)
        ·replace h:=optS o9 h;refine Hj hS trivial (kt:=Ct) (e:=C6) (key:=PV.str m) (es:=Li PV.str (pI .i64) j) (x:=pI .i64 v9) (b:=true) (fd:=some (pI .i64 v9)) ((Dx (kP:=PV.str) (vP:=pI .i64) (eq:=eqS) (fun _ _=>by kernel_rfl) m j).trans (by rw[o9];rfl)) trivial ?_;refine D3 hS trivial (b:=false) (fun c95=>?_) (fun c95=>?_)
         ·exact Bool.noConfusion ((rfl:false=false).symm.trans c95)
         ·refine Il hS trivial ?_;obtain⟨c96,h⟩:=D5 h;refine I4 (And.intro (And.intro (And.intro (And.intro c96.1.1.1.1 c96.1.1.1.2) c96.1.1.2) c96.1.2) (And.intro (rfl:(1:Nat)=1) (And.intro c96.2 (by decide:(1:Nat)<=1)))) ?_;exact r _ [(5000,5000),(13500,13500),(18000,18000),(18500,18500),(22500,22500),(52000,52000),(89000,89000)] _ j (a.upd v9.toNat (D2 .or .u64 (a.g v9.toNat) (shI .shl .u64 1 d))) (wrap .i64 (d+1)) trivial h (hle:=klR [(8,.fn a.n (a.upd v9.toNat (D2 .or .u64 (a.g v9.toNat) (shI .shl .u64 1 d))).n (fun l=>if l=v9.toNat then splice ((fun i=>cI .u64 (a.g i)) l) 0 [pI .u64 (D2 .or .u64 (a.g v9.toNat) (shI .shl .u64 1 d))]else (fun i=>cI .u64 (a.g i)) l) (fun i=>cI .u64 ((a.upd v9.toNat (D2 .or .u64 (a.g v9.toNat) (shI .shl .u64 1 d))).g i)))] (al1 ⟨rfl,Ad4 (c:=cI .u64) (v:=a) (x:=D2 .or .u64 (a.g v9.toNat) (shI .shl .u64 1 d)) same (fun _=>by first|rfl|(dsimp only;split<;>rfl))⟩ al0))
       ·refine kI hS h ?_ ?_<;>intro h
        ·obtain⟨c98,h⟩:=D5 h;refine D3 hS c98 (b:=decide (64<((x7.app a).n:Int))) (fun c99=>?_) (fun c99=>?_)
         ·replace h:=itT c99 h;obtain rfl:=B6 h;exact A5 hS trivial ⟨[(5,pN 12),(4,.reg 5000 0)],[(5000,.cells [pN 0,.p (vSl 1 (cI .u64) (Sl.nil:Sl Int))])]⟩ [] (ids:=[(5000,5000)]) ⟨rfl,rfl,rfl⟩
         ·replace h:=itF c99 h;exact q _ [(5000,5000),(13500,13500),(18000,18000),(18500,135000),(52000,52000)] _ (x7.app a) (wrap .i64 (x8+1)) trivial h (hle:=klR [(4,.fn (x7.n+a.n) (x7.app a).n (R9 x7.n (fun i=>cI .u64 (x7.g i)) (fun i=>cI .u64 (a.g i))) (fun i=>cI .u64 ((x7.app a).g i)))] (al1 ⟨rfl,XK (c:=cI .u64) (v:=x7) (w:=a) same rfl same rfl⟩ al0))
        ·refine kI hS h ?_ ?_<;>intro h
         ·obtain rfl:=B6 h;exact A5 hS trivial ⟨[(5,pN 12),(4,.reg 5000 0)],[(5000,.cells [pN 0,.p (vSl 1 (cI .u64) (Sl.nil:Sl Int))])]⟩ [] (ids:=[(5000,5000)]) ⟨rfl,rfl,rfl⟩
         ·exact q _ [(5000,5000),(13500,13500),(18000,18000),(18500,18500),(52000,52000)] _ x7 (wrap .i64 (x8+1)) trivial h
      ·obtain rfl:=B6 h;exact A5 hS trivial ⟨[(5,pN 0),(4,.reg 5000 0)],[(5000,.cells [pN (y5.1.n:Int),.p (vSl 1 (cI .u64) x7)])]⟩ [] (ids:=[(5000,5000)]) ⟨rfl,rfl,rfl⟩
def Iv (N:Nat)  : Option A3:=
 some (⟨4,(Sl.of [3,6,15,8]:Sl Int)⟩:A3)
theorem WH {N:Nat}    {y:A3}(h:Iv N  = some y) :FunO S My [] [] (.p (.agg (E2 y))) ([]) []:=by unfold Iv at h;refine A1 hS Tryz.func54 ?_;obtain rfl:=B6 h;exact A5 hS (rfl:true=true) ⟨[(0,.reg 1000 0)],[(1000,.cells [pN 4,.p (vSl 1 (cI .u64) (Sl.of [3,6,15,8]:Sl Int))])]⟩ [] (ids:=[(1000,1000)]) ⟨rfl,rfl,rfl⟩ (hle:=klR [(1,.fn 4 (Sl.of [3,6,15,8]:Sl Int).n (D7 [pI .u64 0] [(0,cI .u64 3),(1,cI .u64 6),(2,cI .u64 15),(3,cI .u64 8)]) (fun i=>cI .u64 ((Sl.of [3,6,15,8]:Sl Int).g i)))] (al1 ⟨rfl,(fun i a=>match i,a with|0,_=>rfl|1,_=>rfl|2,_=>rfl|3,_=>rfl|_+4,a=>absurd a (by omega))⟩ al0))
def Db (N:Nat)  : Option B0:=
 some (⟨(Sl.of [(⟨-1,[114]⟩:M9),(⟨0,[120]⟩:M9),(⟨1,[97]⟩:M9),(⟨1,[98]⟩:M9),(⟨0,[99]⟩:M9)]:Sl M9),(Sl.of [(⟨[70],Pat.mk 0 (⟨0,0⟩:Sound) false 0 0 (Sl.nil:Sl Pat).n (Sl.nil:Sl Pat).g,Pat.mk 6 (⟨0,0⟩:Sound) false 0 0 (Sl.nil:Sl Pat).n (Sl.nil:Sl Pat).g,(Sl.of [(⟨4,0⟩:Sound)]:Sl Sound),(Sl.nil:Sl Bt),1⟩:Law),(⟨[86],Pat.mk 1 (⟨4,0⟩:Sound) false 0 0 (Sl.nil:Sl Pat).n (Sl.nil:Sl Pat).g,Pat.mk 1 (⟨4,0⟩:Sound) false 0 0 (Sl.nil:Sl Pat).n (Sl.nil:Sl Pat).g,(Sl.of [(⟨2,0⟩:Sound)]:Sl Sound),(Sl.of [(⟨0,0,(⟨1,0⟩:Sound),0,0⟩:Bt)]:Sl Bt),1⟩:Law)]:Sl Law),(Sl.of [(Sl.nil:Sl Int),(Sl.of [0]:Sl Int),(Sl.nil:Sl Int),(Sl.of [1]:Sl Int),(Sl.nil:Sl Int)]:Sl (Sl Int))⟩:B0)
theorem JA {N:Nat}    {y:B0}(h:Db N  = some y) :FunO S Ja [] [] (.p (.agg (A8 y))) ([]) []:=by unfold Db at h;refine A1 hS Tryz.func49 ?_;refine I5 hS (rfl:true=true) 10 ⟨[(9,.p (vSl 2 A0 (Sl.of [(⟨4,0⟩:Sound)]:Sl Sound))),(7,.p (.agg [pI .i64 6,pI .u32 0,pI .u32 0,.v (.bool false),pI .i64 0,pI .i64 0,G6])),(1,.reg 2000 0),(0,.reg 1000 0)],[(2000,.cells [pN 1,pU 4,pU 0,.p (.v (.bool false)),pN 0,pN 0,.p G6]),(1000,.cells [.p G6,.p G6,.p G6])]⟩ (ids:=[(1000,1000),(2000,2000)]) ?_ (hle:=klR [(0,.fn 1 (Sl.of [(⟨4,0⟩:Sound)]:Sl Sound).n (D7 [pI .u32 0,pI .u32 0] [(0,A0 (⟨4,0⟩:Sound))]) (fun i=>A0 ((Sl.of [(⟨4,0⟩:Sound)]:Sl Sound).g i)))] (al1 ⟨rfl,(fun i a=>match i,a with|0,_=>rfl|_+1,a=>absurd a (by omega))⟩ al0));refine I5 hS trivial 11 ⟨[(2,.reg 3000 0),(1,.reg 2000 0),(0,.reg 1000 0)],[(3000,.cells [.p (.str [70]),pN 0,pU 0,pU 0,.p (.v (.bool false)),pN 0,pN 0,.p G6,pN 6,pU 0,pU 0,.p (.v (.bool false)),pN 0,pN 0,.p G6,.p (vSl 2 A0 (Sl.of [(⟨4,0⟩:Sound)]:Sl Sound)),.p G6,pN 1]),(2000,.cells [pN 1,pU 4,pU 0,pB false,pN 0,pN 0,.p (vSl 7 B3 (Sl.nil:Sl Pat))]),(1000,.cells [.p G6,.p G6,.p G6])]⟩ (ids:=[(1000,1000),(2000,2000),(3000,3000)]) ?_;refine I5 hS (And.intro (rfl:true=true) (rfl:true=true)) 18 ⟨[(17,.p (vSl 6 P8 (Sl.of [(⟨0,0,(⟨1,0⟩:Sound),0,0⟩:Bt)]:Sl Bt))),(14,.p (vSl 2 A0 (Sl.of [(⟨2,0⟩:Sound)]:Sl Sound))),(12,.p (.agg [pI .i64 1,pI .u32 4,pI .u32 0,.bb false,pI .i64 0,pI .i64 0,vSl 7 B3 (Sl.nil:Sl Pat)])),(11,.p (.agg [pI .i64 1,pI .u32 4,pI .u32 0,.bb false,pI .i64 0,pI .i64 0,vSl 7 B3 (Sl.nil:Sl Pat)])),(2,.reg 3000 0),(0,.reg 1000 0)],[(3000,.cells [.p (.str [70]),pN 0,pU 0,pU 0,.p (.v (.bool false)),pN 0,pN 0,.p G6,pN 6,pU 0,pU 0,.p (.v (.bool false)),pN 0,pN 0,.p G6,.p (vSl 2 A0 (Sl.of [(⟨4,0⟩:Sound)]:Sl Sound)),.p G6,pN 1]),(1000,.cells [.p G6,.p G6,.p G6])]⟩ (ids:=[(1000,1000),(3000,3000)]) ?_ (hle:=klR [(0,.fn 1 (Sl.of [(⟨0,0,(⟨1,0⟩:Sound),0,0⟩:Bt)]:Sl Bt).n (D7 [pI .i64 0,pI .u32 0,pI .u32 0,pI .u32 0,pI .u32 0,pI .i64 0] [(0,P8 (⟨0,0,(⟨1,0⟩:Sound),0,0⟩:Bt))]) (fun i=>P8 ((Sl.of [(⟨0,0,(⟨1,0⟩:Sound),0,0⟩:Bt)]:Sl Bt).g i))),(1,.fn 1 (Sl.of [(⟨2,0⟩:Sound)]:Sl Sound).n (D7 [pI .u32 0,pI .u32 0] [(0,A0 (⟨2,0⟩:Sound))]) (fun i=>A0 ((Sl.of [(⟨2,0⟩:Sound)]:Sl Sound).g i)))] (al1 ⟨rfl,(fun i a=>match i,a with|0,_=>rfl|_+1,a=>absurd a (by omega))⟩ (al1 ⟨rfl,(fun i a=>match i,a with|0,_=>rfl|_+1,a=>absurd a (by omega))⟩ al0)));refine I5 hS (rfl:true=true) 26 ⟨[(25,.vec 25000),(3,.reg 4000 0),(2,.reg 3000 0),(0,.reg 1000 0)],[(25000,.vec Kf 2 (Sl.of [(⟨-1,[114]⟩:M9),(⟨0,[120]⟩:M9),(⟨1,[97]⟩:M9),(⟨1,[98]⟩:M9),(⟨0,[99]⟩:M9)]:Sl M9).n (fun i=>J1 ((Sl.of [(⟨-1,[114]⟩:M9),(⟨0,[120]⟩:M9),(⟨1,[97]⟩:M9),(⟨1,[98]⟩:M9),(⟨0,[99]⟩:M9)]:Sl M9).g i)) false),(4000,.cells [.p (.str [86]),pN 1,pU 4,pU 0,pB false,pN 0,pN 0,.p (vSl 7 B3 (Sl.nil:Sl Pat)),pN 1,pU 4,pU 0,pB false,pN 0,pN 0,.p (vSl 7 B3 (Sl.nil:Sl Pat)),.p (vSl 2 A0 (Sl.of [(⟨2,0⟩:Sound)]:Sl Sound)),.p (vSl 6 P8 (Sl.of [(⟨0,0,(⟨1,0⟩:Sound),0,0⟩:Bt)]:Sl Bt)),pN 1]),(3000,.cells [.p (.str [70]),pN 0,pU 0,pU 0,pB false,pN 0,pN 0,.p (vSl 7 B3 (Sl.nil:Sl Pat)),pN 6,pU 0,pU 0,pB false,pN 0,pN 0,.p (vSl 7 B3 (Sl.nil:Sl Pat)),.p (vSl 2 A0 (Sl.of [(⟨4,0⟩:Sound)]:Sl Sound)),.p (vSl 6 P8 (Sl.nil:Sl Bt)),pN 1]),(1000,.cells [.p G6,.p G6,.p G6])]⟩ (ids:=[(1000,1000),(3000,3000),(4000,4000),(25000,25000)]) ?_ (hle:=klR [(0,.fn 5 (Sl.of [(⟨-1,[114]⟩:M9),(⟨0,[120]⟩:M9),(⟨1,[97]⟩:M9),(⟨1,[98]⟩:M9),(⟨0,[99]⟩:M9)]:Sl M9).n (D7 [pI .i64 0,.str []] [(0,J1 (⟨-1,[114]⟩:M9)),(1,J1 (⟨0,[120]⟩:M9)),(2,J1 (⟨1,[97]⟩:M9)),(3,J1 (⟨1,[98]⟩:M9)),(4,J1 (⟨0,[99]⟩:M9))]) (fun i=>J1 ((Sl.of [(⟨-1,[114]⟩:M9),(⟨0,[120]⟩:M9),(⟨1,[97]⟩:M9),(⟨1,[98]⟩:M9),(⟨0,[99]⟩:M9)]:Sl M9).g i)))] (al1 ⟨rfl,(fun i a=>match i,a with|0,_=>rfl|1,_=>rfl|2,_=>rfl|3,_=>rfl|4,_=>rfl|_+5,a=>absurd a (by omega))⟩ al0));refine I5 hS (And.intro (And.intro (rfl:true=true) (rfl:true=true)) (rfl:true=true)) 31 ⟨[(30,.vec 31000),(29,.vec 30000),(28,.vec 29000),(25,.vec 25000),(0,.reg 1000 0)],[(31000,.vec C6 1 (Sl.of [1]:Sl Int).n (fun i=>cI .i64 ((Sl.of [1]:Sl Int).g i)) true),(30000,.vec C6 1 (Sl.of [0]:Sl Int).n (fun i=>cI .i64 ((Sl.of [0]:Sl Int).g i)) true),(29000,.vec ET 18 (Sl.of [(⟨[70],Pat.mk 0 (⟨0,0⟩:Sound) false 0 0 (Sl.nil:Sl Pat).n (Sl.nil:Sl Pat).g,Pat.mk 6 (⟨0,0⟩:Sound) false 0 0 (Sl.nil:Sl Pat).n (Sl.nil:Sl Pat).g,(Sl.of [(⟨4,0⟩:Sound)]:Sl Sound),(Sl.nil:Sl Bt),1⟩:Law),(⟨[86],Pat.mk 1 (⟨4,0⟩:Sound) false 0 0 (Sl.nil:Sl Pat).n (Sl.nil:Sl Pat).g,Pat.mk 1 (⟨4,0⟩:Sound) false 0 0 (Sl.nil:Sl Pat).n (Sl.nil:Sl Pat).g,(Sl.of [(⟨2,0⟩:Sound)]:Sl Sound),(Sl.of [(⟨0,0,(⟨1,0⟩:Sound),0,0⟩:Bt)]:Sl Bt),1⟩:Law)]:Sl Law).n (fun i=>B4 ((Sl.of [(⟨[70],Pat.mk 0 (⟨0,0⟩:Sound) false 0 0 (Sl.nil:Sl Pat).n (Sl.nil:Sl Pat).g,Pat.mk 6 (⟨0,0⟩:Sound) false 0 0 (Sl.nil:Sl Pat).n (Sl.nil:Sl Pat).g,(Sl.of [(⟨4,0⟩:Sound)]:Sl Sound),(Sl.nil:Sl Bt),1⟩:Law),(⟨[86],Pat.mk 1 (⟨4,0⟩:Sound) false 0 0 (Sl.nil:Sl Pat).n (Sl.nil:Sl Pat).g,Pat.mk 1 (⟨4,0⟩:Sound) false 0 0 (Sl.nil:Sl Pat).n (Sl.nil:Sl Pat).g,(Sl.of [(⟨2,0⟩:Sound)]:Sl Sound),(Sl.of [(⟨0,0,(⟨1,0⟩:Sound),0,0⟩:Bt)]:Sl Bt),1⟩:Law)]:Sl Law).g i)) false),(25000,.vec Kf 2 (Sl.of [(⟨-1,[114]⟩:M9),(⟨0,[120]⟩:M9),(⟨1,[97]⟩:M9),(⟨1,[98]⟩:M9),(⟨0,[99]⟩:M9)]:Sl M9).n (fun i=>J1 ((Sl.of [(⟨-1,[114]⟩:M9),(⟨0,[120]⟩:M9),(⟨1,[97]⟩:M9),(⟨1,[98]⟩:M9),(⟨0,[99]⟩:M9)]:Sl M9).g i)) false),(1000,.cells [.p G6,.p G6,.p G6])]⟩ (ids:=[(1000,1000),(25000,25000),(29000,29000),(30000,30000),(31000,31000)]) ?_ (hle:=klR [(0,.fn 1 (Sl.of [1]:Sl Int).n (D7 [pI .i64 0] [(0,cI .i64 1)]) (fun i=>cI .i64 ((Sl.of [1]:Sl Int).g i))),(1,.fn 1 (Sl.of [0]:Sl Int).n (D7 [pI .i64 0] [(0,cI .i64 0)]) (fun i=>cI .i64 ((Sl.of [0]:Sl Int).g i))),(2,.fn 2 (Sl.of [(⟨[70],Pat.mk 0 (⟨0,0⟩:Sound) false 0 0 (Sl.nil:Sl Pat).n (Sl.nil:Sl Pat).g,Pat.mk 6 (⟨0,0⟩:Sound) false 0 0 (Sl.nil:Sl Pat).n (Sl.nil:Sl Pat).g,(Sl.of [(⟨4,0⟩:Sound)]:Sl Sound),(Sl.nil:Sl Bt),1⟩:Law),(⟨[86],Pat.mk 1 (⟨4,0⟩:Sound) false 0 0 (Sl.nil:Sl Pat).n (Sl.nil:Sl Pat).g,Pat.mk 1 (⟨4,0⟩:Sound) false 0 0 (Sl.nil:Sl Pat).n (Sl.nil:Sl Pat).g,(Sl.of [(⟨2,0⟩:Sound)]:Sl Sound),(Sl.of [(⟨0,0,(⟨1,0⟩:Sound),0,0⟩:Bt)]:Sl Bt),1⟩:Law)]:Sl Law).n (D7 [.str [],pI .i64 0,pI .u32 0,pI .u32 0,.v (.bool false),pI .i64 0,pI .i64 0,G6,pI .i64 0,pI .u32 0,pI .u32 0,.v (.bool false),pI .i64 0,pI .i64 0,G6,G6,G6,pI .i64 0] [(0,B4 (⟨[70],Pat.mk 0 (⟨0,0⟩:Sound) false 0 0 (Sl.nil:Sl Pat).n (Sl.nil:Sl Pat).g,Pat.mk 6 (⟨0,0⟩:Sound) false 0 0 (Sl.nil:Sl Pat).n (Sl.nil:Sl Pat).g,(Sl.of [(⟨4,0⟩:Sound)]:Sl Sound),(Sl.nil:Sl Bt),1⟩:Law)),(1,B4 (⟨[86],Pat.mk 1 (⟨4,0⟩:Sound) false 0 0 (Sl.nil:Sl Pat).n (Sl.nil:Sl Pat).g,Pat.mk 1 (⟨4,0⟩:Sound) false 0 0 (Sl.nil:Sl Pat).n (Sl.nil:Sl Pat).g,(Sl.of [(⟨2,0⟩:Sound)]:Sl Sound),(Sl.of [(⟨0,0,(⟨1,0⟩:Sound),0,0⟩:Bt)]:Sl Bt),1⟩:Law))]) (fun i=>B4 ((Sl.of [(⟨[70],Pat.mk 0 (⟨0,0⟩:Sound) false 0 0 (Sl.nil:Sl Pat).n (Sl.nil:Sl Pat).g,Pat.mk 6 (⟨0,0⟩:Sound) false 0 0 (Sl.nil:Sl Pat).n (Sl.nil:Sl Pat).g,(Sl.of [(⟨4,0⟩:Sound)]:Sl Sound),(Sl.nil:Sl Bt),1⟩:Law),(⟨[86],Pat.mk 1 (⟨4,0⟩:Sound) false 0 0 (Sl.nil:Sl Pat).n (Sl.nil:Sl Pat).g,Pat.mk 1 (⟨4,0⟩:Sound) false 0 0 (Sl.nil:Sl Pat).n (Sl.nil:Sl Pat).g,(Sl.of [(⟨2,0⟩:Sound)]:Sl Sound),(Sl.of [(⟨0,0,(⟨1,0⟩:Sound),0,0⟩:Bt)]:Sl Bt),1⟩:Law)]:Sl Law).g i)))] (al1 ⟨rfl,(fun i a=>match i,a with|0,_=>rfl|_+1,a=>absurd a (by omega))⟩ (al1 ⟨rfl,(fun i a=>match i,a with|0,_=>rfl|_+1,a=>absurd a (by omega))⟩ (al1 ⟨rfl,(fun i a=>match i,a with|0,_=>rfl|1,_=>rfl|_+2,a=>absurd a (by omega))⟩ al0))));refine AL1 hS (rfl:true=true) 32 32000 (k:=1) (n:=5) (e:=RA) (vw:=false) (D7 [G6] [(0,[G6]),(1,cL 1 (cI .i64) (Sl.of [0]:Sl Int)),(2,[G6]),(3,cL 1 (cI .i64) (Sl.of [1]:Sl Int)),(4,[G6])]) (fun i=>cL 1 (cI .i64) ((Sl.of [(Sl.nil:Sl Int),(Sl.of [0]:Sl Int),(Sl.nil:Sl Int),(Sl.of [1]:Sl Int),(Sl.nil:Sl Int)]:Sl (Sl Int)).g i)) (fun i a=>match i,a with|0,_=>leCn|1,_=>leCr _|2,_=>leCn|3,_=>leCr _|4,_=>leCn|_+5,a=>absurd a (by omega)) ?_;refine I5 hS trivial 32 ⟨[(31,.p (vSl 1 (cL 1 (cI .i64)) (Sl.of [(Sl.nil:Sl Int),(Sl.of [0]:Sl Int),(Sl.nil:Sl Int),(Sl.of [1]:Sl Int),(Sl.nil:Sl Int)]:Sl (Sl Int)))),(28,.p (vSl 18 B4 (Sl.of [(⟨[70],Pat.mk 0 (⟨0,0⟩:Sound) false 0 0 (Sl.nil:Sl Pat).n (Sl.nil:Sl Pat).g,Pat.mk 6 (⟨0,0⟩:Sound) false 0 0 (Sl.nil:Sl Pat).n (Sl.nil:Sl Pat).g,(Sl.of [(⟨4,0⟩:Sound)]:Sl Sound),(Sl.nil:Sl Bt),1⟩:Law),(⟨[86],Pat.mk 1 (⟨4,0⟩:Sound) false 0 0 (Sl.nil:Sl Pat).n (Sl.nil:Sl Pat).g,Pat.mk 1 (⟨4,0⟩:Sound) false 0 0 (Sl.nil:Sl Pat).n (Sl.nil:Sl Pat).g,(Sl.of [(⟨2,0⟩:Sound)]:Sl Sound),(Sl.of [(⟨0,0,(⟨1,0⟩:Sound),0,0⟩:Bt)]:Sl Bt),1⟩:Law)]:Sl Law))),(25,.p (vSl 2 J1 (Sl.of [(⟨-1,[114]⟩:M9),(⟨0,[120]⟩:M9),(⟨1,[97]⟩:M9),(⟨1,[98]⟩:M9),(⟨0,[99]⟩:M9)]:Sl M9))),(0,.reg 1000 0)],[(1000,.cells [.p G6,.p G6,.p G6])]⟩ (ids:=[(1000,1000)]) ?_;cases h;exact kR hS
def Cl (N:Nat)  : Option Bool:=
 (Iv N ).bind fun y1=>
 (Ey N y1 0 1).bind fun y2=>
 (Ck N y1).bind fun y3=>
 (GV N y1 10).bind fun y4=>
 (Ez N y1).bind fun y5=>
 (Db N ).bind fun y6=>
 (GX N y6).bind fun y7=>
 (Db N ).bind fun y8=>
 (H0 N y8 (Sl.of [(Sl.of [(⟨2,5⟩:Sound),(⟨5,2⟩:Sound)]:Sl Sound),(Sl.of [(⟨5,2⟩:Sound),(⟨2,5⟩:Sound),(⟨5,2⟩:Sound)]:Sl Sound)]:Sl (Sl Sound))).bind fun y9=>
 lt (fun (z1:Bool)=>
  some z1
  ) fun k1=>
  if (y2.1==2) then
   if (y2.2==0) then
    (N1 N y3.1 (Sl.of [(⟨0,1⟩:K7)]:Sl K7)).bind fun a=>
    if a then
     if (y3.2==0) then
      if (y4.1.Langs==2) then
       (C9 N y4.1.Has (Sl.of [1,1,3,2]:Sl Int)).bind fun b=>
       if b then
        if (y4.2==0) then
         (H9 N y5.1 (Sl.of [0,1]:Sl Int)).bind fun c=>
         if c then
          if (y5.2==0) then
           if (y7.1.Langs==3) then
            (C9 N y7.1.Has (Sl.of [3,2]:Sl Int)).bind fun d=>
            if d then
             if (y7.2==0) then
              (C9 N y9.1.Has (Sl.of [3,4,3,4]:Sl Int)).bind fun f=>
              if f then
               k1 (y9.2==0)
              else
               k1 false
             else
              k1 false
            else
             k1 false
           else
            k1 false
          else
           k1 false
         else
          k1 false
        else
         k1 false
       else
        k1 false
      else
       k1 false
     else
      k1 false
    else
     k1 false
   else
    k1 false
  else
   k1 false
theorem NF {N:Nat}    {y:Bool}(h:Cl N  = some y) :FunO S Mu [] [] (pB y) ([]) []:=by
 unfold Cl at h;refine A1 hS Tryz.func15 ?_;refine kC hS h (WH hS hL) (fun y1 h=>?_);refine G0 hS trivial 18 2000 [pI .i64 y1.Langs,vSl 1 (cI .u64) y1.Has] ?_;obtain⟨y2,e2,h⟩:=B8 h;refine B9 hS [] (by decide:(2:Nat)<=2) (OV hS hL e2) ?_;obtain⟨y3,e3,h⟩:=B8 h;refine B9 hS [] (by decide:(2:Nat)<=2) (Kj hS hL e3) ?_;obtain⟨y4,e4,h⟩:=B8 h;refine B9 hS [] (by decide:(2:Nat)<=2) (Ul hS hL e4) ?_;refine G0 hS trivial 7 7000 [pI .i64 y4.1.Langs,vSl 1 (cI .u64) y4.1.Has] ?_;obtain⟨y5,e5,h⟩:=B8 h;refine B9 hS [] (by decide:(2:Nat)<=2) (OW hS hL e5) ?_;refine kC hS h (JA hS hL) (fun y6 h=>?_);refine kC hS h (Um hS hL) (fun y7 h=>?_);refine G0 hS trivial 11 11000 [pI .i64 y7.1.Langs,vSl 1 (cI .u64) y7.1.Has] ?_;refine Aj5 hS trivial 13000 [pI .u32 2,pI .u32 5] ?_;refine Aj5 hS trivial 14000 [pI .u32 5,pI .u32 2] ?_;refine D9 hS trivial [0,1,2,4,5,6,9] ?_;obtain⟨y8,e8,h⟩:=B8 h;refine S6 trivial (JA hS hL e8) ?_;refine Dy (And.intro (by decide:(2:Nat)<=2) (by decide:(2:Nat)<=2)) (x:=.sl true 2 2 (D7 [pI .u32 0,pI .u32 0] [(0,A0 (⟨2,5⟩:Sound)),(1,A0 (⟨5,2⟩:Sound))])) ?_;refine Dy (And.intro (And.intro (by decide:(2:Nat)<=2) (by decide:(2:Nat)<=2)) (by decide:(2:Nat)<=2)) (x:=.sl true 2 3 (D7 [pI .u32 0,pI .u32 0] [(0,A0 (⟨5,2⟩:Sound)),(1,A0 (⟨2,5⟩:Sound)),(2,A0 (⟨5,2⟩:Sound))])) ?_;refine Dy trivial (x:=.sl true 1 2 (D7 [G6] [(0,[.sl true 2 2 (D7 [pI .u32 0,pI .u32 0] [(0,A0 (⟨2,5⟩:Sound)),(1,A0 (⟨5,2⟩:Sound))])]),(1,[.sl true 2 3 (D7 [pI .u32 0,pI .u32 0] [(0,A0 (⟨5,2⟩:Sound)),(1,A0 (⟨2,5⟩:Sound)),(2,A0 (⟨5,2⟩:Sound))])])])) ?_;obtain⟨y9,e9,h⟩:=B8 h;refine S6 trivial (FunO.le hS (args:=[(.p (.agg (A8 y8))),.p (.sl true 1 2 (D7 [G6] [(0,[.sl true 2 2 (D7 [pI .u32 0,pI .u32 0] [(0,A0 (⟨2,5⟩:Sound)),(1,A0 (⟨5,2⟩:Sound))])]),(1,[.sl true 2 3 (D7 [pI .u32 0,pI .u32 0] [(0,A0 (⟨5,2⟩:Sound)),(1,A0 (⟨2,5⟩:Sound)),(2,A0 (⟨5,2⟩:Sound))])])]))]) (by exact⟨.inl rfl,⟨AR5 rfl (fun i a=>match i,a with|0,_=>leC1 rfl (fun i a=>match i,a with|0,_=>rfl|1,_=>rfl|_+2,a=>absurd a (by omega))|1,_=>leC1 rfl (fun i a=>match i,a with|0,_=>rfl|1,_=>rfl|2,_=>rfl|_+3,a=>absurd a (by omega))|_+2,a=>absurd a (by omega)),trivial⟩⟩) (Jz hS hL e9)) ?_;refine I4 trivial ?_;refine G0 hS trivial 57 15000 [pI .i64 y9.1.Langs,vSl 1 (cI .u64) y9.1.Has] ?_;refine Hu hS trivial (A4 hS) h 0 (fun z1=>⟨[(0,pB z1)],[]⟩) (fun M1 k1 b h=>?_) (fun z1 h=>?_)
 ·refine kG hS h (fun h=>?_) (fun h=>?_)
  ·refine kG hS h (fun h=>?_) (fun h=>?_)
   ·refine Ee hS (rfl:true=true) ⟨[(66,.vec 67000),(64,.p (vSl 2 Q3 y3.1)),(63,.p (.v (.bool true))),(15,pN y9.2),(14,.p (.ptr [pI .i64 y9.1.Langs,vSl 1 (cI .u64) y9.1.Has])),(11,pN y7.2),(10,.p (.ptr [pI .i64 y7.1.Langs,vSl 1 (cI .u64) y7.1.Has])),(9,pN y5.2),(8,.p (vSl 1 (cI .i64) y5.1)),(7,pN y4.2),(6,.p (.ptr [pI .i64 y4.1.Langs,vSl 1 (cI .u64) y4.1.Has])),(5,pN y3.2)],[(67000,.vec RB 2 (Sl.of [(⟨0,1⟩:K7)]:Sl K7).n (fun i=>Q3 ((Sl.of [(⟨0,1⟩:K7)]:Sl K7).g i)) false)]⟩ (ids:=[(67000,67000)]) ?_ (hle:=klR [(11,.fn 1 (Sl.of [(⟨0,1⟩:K7)]:Sl K7).n (D7 [pI .i64 0,pI .i64 0] [(0,Q3 (⟨0,1⟩:K7))]) (fun i=>Q3 ((Sl.of [(⟨0,1⟩:K7)]:Sl K7).g i)))] (al1 ⟨rfl,(fun i a=>match i,a with|0,_=>rfl|_+1,a=>absurd a (by omega))⟩ al0));refine kC hS h (CP hS hL) (fun c h=>?_);refine kG hS h (fun h=>?_) (fun h=>?_)
    ·refine kG hS h (fun h=>?_) (fun h=>?_)
     ·refine kG hS h (fun h=>?_) (fun h=>?_)
      ·refine Ee hS (rfl:true=true) ⟨[(81,.vec 82000),(80,.p (vSl 1 (cI .u64) y4.1.Has)),(78,.p (.v (.bool true))),(15,pN y9.2),(14,.p (.ptr [pI .i64 y9.1.Langs,vSl 1 (cI .u64) y9.1.Has])),(11,pN y7.2),(10,.p (.ptr [pI .i64 y7.1.Langs,vSl 1 (cI .u64) y7.1.Has])),(9,pN y5.2),(8,.p (vSl 1 (cI .i64) y5.1)),(7,pN y4.2)],[(82000,.vec C5 1 (Sl.of [1,1,3,2]:Sl Int).n (fun i=>cI .u64 ((Sl.of [1,1,3,2]:Sl Int).g i)) false)]⟩ (ids:=[(82000,82000)]) ?_ (hle:=klR [(9,.fn 4 (Sl.of [1,1,3,2]:Sl Int).n (D7 [pI .u64 0] [(0,cI .u64 1),(1,cI .u64 1),(2,cI .u64 3),(3,cI .u64 2)]) (fun i=>cI .u64 ((Sl.of [1,1,3,2]:Sl Int).g i)))] (al1 ⟨rfl,(fun i a=>match i,a with|0,_=>rfl|1,_=>rfl|2,_=>rfl|3,_=>rfl|_+4,a=>absurd a (by omega))⟩ al0));refine kC hS h (G8 hS hL) (fun d h=>?_);refine kG hS h (fun h=>?_) (fun h=>?_)
       ·refine kG hS h (fun h=>?_) (fun h=>?_)
        ·refine Ee hS (rfl:true=true) ⟨[(90,.vec 91000),(89,.p (vSl 1 (cI .i64) y5.1)),(88,.p (.v (.bool true))),(15,pN y9.2),(14,.p (.ptr [pI .i64 y9.1.Langs,vSl 1 (cI .u64) y9.1.Has])),(11,pN y7.2),(10,.p (.ptr [pI .i64 y7.1.Langs,vSl 1 (cI .u64) y7.1.Has])),(9,pN y5.2)],[(91000,.vec C6 1 (Sl.of [0,1]:Sl Int).n (fun i=>cI .i64 ((Sl.of [0,1]:Sl Int).g i)) false)]⟩ (ids:=[(91000,91000)]) ?_ (hle:=klR [(7,.fn 2 (Sl.of [0,1]:Sl Int).n (D7 [pI .i64 0] [(0,cI .i64 0),(1,cI .i64 1)]) (fun i=>cI .i64 ((Sl.of [0,1]:Sl Int).g i)))] (al1 ⟨rfl,(fun i a=>match i,a with|0,_=>rfl|1,_=>rfl|_+2,a=>absurd a (by omega))⟩ al0));refine kC hS h (Ex hS hL) (fun f h=>?_);refine kG hS h (fun h=>?_) (fun h=>?_)
         ·refine kG hS h (fun h=>?_) (fun h=>?_)
          ·refine kG hS h (fun h=>?_) (fun h=>?_)
           ·refine Ee hS (rfl:true=true) ⟨[(105,.vec 106000),(104,.p (vSl 1 (cI .u64) y7.1.Has)),(102,.p (.v (.bool true))),(15,pN y9.2),(14,.p (.ptr [pI .i64 y9.1.Langs,vSl 1 (cI .u64) y9.1.Has])),(11,pN y7.2)],[(106000,.vec C5 1 (Sl.of [3,2]:Sl Int).n (fun i=>cI .u64 ((Sl.of [3,2]:Sl Int).g i)) false)]⟩ (ids:=[(106000,106000)]) ?_ (hle:=klR [(5,.fn 2 (Sl.of [3,2]:Sl Int).n (D7 [pI .u64 0] [(0,cI .u64 3),(1,cI .u64 2)]) (fun i=>cI .u64 ((Sl.of [3,2]:Sl Int).g i)))] (al1 ⟨rfl,(fun i a=>match i,a with|0,_=>rfl|1,_=>rfl|_+2,a=>absurd a (by omega))⟩ al0));refine kC hS h (G8 hS hL) (fun j h=>?_);refine kG hS h (fun h=>?_) (fun h=>?_)
            ·refine kG hS h (fun h=>?_) (fun h=>?_)
             ·refine Ee hS (rfl:true=true) ⟨[(115,.vec 116000),(114,.p (vSl 1 (cI .u64) y9.1.Has)),(112,.p (.v (.bool true))),(15,pN y9.2)],[(116000,.vec C5 1 (Sl.of [3,4,3,4]:Sl Int).n (fun i=>cI .u64 ((Sl.of [3,4,3,4]:Sl Int).g i)) false)]⟩ (ids:=[(116000,116000)]) ?_ (hle:=klR [(3,.fn 4 (Sl.of [3,4,3,4]:Sl Int).n (D7 [pI .u64 0] [(0,cI .u64 3),(1,cI .u64 4),(2,cI .u64 3),(3,cI .u64 4)]) (fun i=>cI .u64 ((Sl.of [3,4,3,4]:Sl Int).g i)))] (al1 ⟨rfl,(fun i a=>match i,a with|0,_=>rfl|1,_=>rfl|2,_=>rfl|3,_=>rfl|_+4,a=>absurd a (by omega))⟩ al0));refine kC hS h (G8 hS hL) (fun l h=>?_);refine kG hS h (fun h=>?_) (fun h=>?_)
              ·exact b _ [] _ (y9.2==0) trivial h
              ·exact b _ [] _ false trivial h
             ·exact b _ [] _ false trivial h
            ·exact b _ [] _ false trivial h
           ·exact b _ [] _ false trivial h
          ·exact b _ [] _ false trivial h
         ·exact b _ [] _ false trivial h
        ·exact b _ [] _ false trivial h
       ·exact b _ [] _ false trivial h
      ·exact b _ [] _ false trivial h
     ·exact b _ [] _ false trivial h
    ·exact b _ [] _ false trivial h
   ·exact b _ [] _ false trivial h
  ·exact b _ [] _ false trivial h
 ·cases h;exact kR hS
end Go.AM
namespace Go.AM
open Go.Proofs
set_option maxRecDepth 10000
set_option maxHeartbeats 2000000
variable {S:Az}(hS:H5 S Tryz.prog) (hL:Qd S)
include hS hL
def Fa (N:Nat)(a:A3)(b:N4):Option Bool:=
 lt (fun (z1:Bool)=>
  some z1
  ) fun k1=>
  if (a.Langs==b.Langs) then
   (C9 N a.Has b.Has).bind fun y2=>
   k1 y2
  else
   k1 false
theorem Aa3 {N:Nat}{a:A3}{b:N4}{y:Bool}(h:Fa N a b=some y) :FunO S PG [.p (.agg (E2 a)),.p (.agg (Mt b))] [] (pB y) ([]) []:=by
 unfold Fa at h;refine A1 hS Tryz.func25 ?_;refine Hu hS trivial (A4 hS) h 0 (fun z1=>⟨[(4,pB z1)],[]⟩) (fun M1 k1 c h=>?_) (fun z1 h=>?_)
 ·refine kG hS h (fun h=>?_) (fun h=>?_)
  ·refine kC hS h (G8 hS hL) (fun y2 h=>?_);exact c _ [] _ y2 trivial h
  ·exact c _ [] _ false trivial h
 ·cases h;exact kR hS
end Go.AM
namespace Go.AM
open Go.Proofs
set_option maxRecDepth 10000
set_option maxHeartbeats 2000000
variable {S:Az}(hS:H5 S Tryz.prog) (hL:Qd S)
include hS hL
end Go.AM
namespace Go.AM
open IntKind (wrap)
open Go.Proofs
set_option maxRecDepth 10000
set_option maxHeartbeats 2000000
variable {S:Az}(hS:H5 S Tryz.prog) (hL:Qd S)
include hS hL
def DU (N:Nat)(a:B0):Option Bool:=
 if (((decide (70<(a.Tree.n:Int)))||(decide (70<(a.Laws.n:Int))))||(decide (70<(a.On.n:Int)))) then
  some false
 else
  W6 N (fun b (x1:Int)=>
   if (decide (x1<(a.On.n:Int))) then
    if ((0:Int)<=x1/\x1<(a.On.n:Int))then
     if (decide (70<((a.On.g x1.toNat).n:Int))) then
      some false
     else
      b (wrap .i64 (x1+1))
    else none
   else
    W6 N (fun c (x3:Int)=>
     if (decide (x3<(a.Laws.n:Int))) then
      if (((0:Int)<=x3/\x3<(a.Laws.n:Int))/\((0:Int)<=x3/\x3<=(wrap .i64 (x3+1))/\(wrap .i64 (x3+1))<=(a.Laws.n:Int)))then
       (Di N (a.Laws.sub x3.toNat (wrap .i64 (x3+1)).toNat)).bind fun d=>
       lt (fun (z3:Bool)=>
        if z3 then
         some false
        else
         c (wrap .i64 (x3+1))
        ) fun k3=>
        if (decide (4<d)) then
         k3 true
        else
         if (decide (20<((a.Laws.g x3.toNat).If.n:Int))) then
          k3 true
         else
          if (decide (20<((a.Laws.g x3.toNat).Out.n:Int))) then
           k3 true
          else
           (Af N (a.Laws.g x3.toNat).Left).bind fun f=>
           if (decide (41<f)) then
            k3 true
           else
            (Af N (a.Laws.g x3.toNat).Right).bind fun i=>
            k3 (decide (41<i))
      else none
     else
      some true
     ) 0
   ) 0
theorem WI {N:Nat}{c:B0}{y:Bool}(h:DU N c=some y) :FunO S MB [.p (.agg (A8 c))] [] (pB y) ([]) []:=by
 unfold DU at h;refine A1 hS Tryz.func67 ?_;refine kB hS (A4 hS) trivial trivial 11 (.o (.o (.a (decide (70<(c.Tree.n:Int)))) (.a (decide (70<(c.Laws.n:Int))))) (.a (decide (70<(c.On.n:Int))))) ?_;refine kI hS h ?_ ?_<;>intro h
 ·cases h;exact kR hS
 ·refine J0 hS trivial h (fun x1=>⟨[(3,pN x1),(1,.reg 2000 0)],[(2000,.cells ((A8 c).map .p))]⟩) (ids:=[(2000,2000)]) (fun _ _ _ _ _ f x1 i h=>?_);refine kI hS h ?_ ?_<;>intro h
  ·obtain⟨c9,h⟩:=D5 h;refine D3 hS c9 (b:=decide (70<((c.On.g x1.toNat).n:Int))) (fun c10=>?_) (fun c10=>?_)
   ·replace h:=itT c10 h;cases h;exact kR hS
   ·replace h:=itF c10 h;exact i _ [(2000,2000)] _ (wrap .i64 (x1+1)) trivial h
  ·refine J0 hS trivial h (fun x3=>⟨[(4,pN x3),(1,.reg 2000 0)],[(2000,.cells ((A8 c).map .p))]⟩) (ids:=[(2000,2000)]) (fun _ _ _ _ _ j x3 l h=>?_);refine kI hS h ?_ ?_<;>intro h
   ·obtain⟨c40,h⟩:=D5 h;obtain⟨q,e11,h⟩:=B8 h;refine B9 hS [] (And.intro (And.intro c40.1 (by decide:(18:Nat)<=18)) c40.2) (ZS hS hL e11) ?_;refine Hu hS trivial (A4 hS) h 0 (fun z3=>⟨[(79,pB z3),(4,pN x3),(1,.reg 2000 0)],[(2000,.cells ((A8 c).map .p))]⟩) (fun M3 k3 d h=>?_) (fun z3 h=>?_)
    ·refine kG hS h (fun h=>?_) (fun h=>?_)
     ·exact d _ [(2000,2000)] _ true trivial h
     ·refine kG hS h (fun h=>?_) (fun h=>?_)
      ·exact d _ [(2000,2000)] _ true trivial h
      ·refine kG hS h (fun h=>?_) (fun h=>?_)
       ·exact d _ [(2000,2000)] _ true trivial h
       ·refine kC hS h (EV hS hL) (fun r h=>?_);refine kG hS h (fun h=>?_) (fun h=>?_)
        ·exact d _ [(2000,2000)] _ true trivial h
        ·refine kC hS h (EV hS hL) (fun m h=>?_);exact d _ [(2000,2000)] _ (decide (41<m)) trivial h
    ·refine kI hS h ?_ ?_<;>intro h
     ·cases h;exact kR hS
     ·exact l _ [(2000,2000)] _ (wrap .i64 (x3+1)) trivial h
   ·cases h;exact kR hS
def DV (N:Nat)(a:B0)(b:Sl (Sl Sound)):Option Bool:=
 (DU N a).bind fun y1=>
 if ((!y1)||(decide (300<(b.n:Int)))) then
  some false
 else
  P6 N (fun c (x1:Int) (x2:Int)=>
   if (decide (x2<(b.n:Int))) then
    if ((0:Int)<=x2/\x2<(b.n:Int))then
     if (decide (50<((b.g x2.toNat).n:Int))) then
      some false
     else
      c (wrap .i64 (x1+(wrap .i64 ((wrap .i64 (((b.g x2.toNat).n:Int)+1))*(wrap .i64 (((b.g x2.toNat).n:Int)+1)))))) (wrap .i64 (x2+1))
    else none
   else
    if ((decide ((b.n:Int)<=256))&&(decide (1500<x1))) then
     some false
    else
     (T8 N a).bind fun y2=>
     if (y2 != 0) then
      some true
     else
      P6 N (fun d (x3:Int) (x4:Int)=>
       if (decide (x4<(a.Laws.n:Int))) then
        if ((0:Int)<=x4/\x4<(a.Laws.n:Int))then
         (Af N (a.Laws.g x4.toNat).Left).bind fun y7=>
         (Af N (a.Laws.g x4.toNat).Right).bind fun y8=>
         d (wrap .i64 (x3+(wrap .i64 ((wrap .i64 (y7+y8))-2)))) (wrap .i64 (x4+1))
        else none
       else
        P6 N (fun f (x5:Int) (x6:Int)=>
         if (decide (x6<(a.On.n:Int))) then
          if ((0:Int)<=x6/\x6<(a.On.n:Int))then
           f (wrap .i64 (x5+((a.On.g x6.toNat).n:Int))) (wrap .i64 (x6+1))
          else none
         else
          some (decide ((wrap .i64 (x3*x5))<=1200))
         ) 0 0
       ) 4 0
   ) 0 0
theorem WJ {N:Nat}{c:B0}{d:Sl (Sl Sound)}{y:Bool}(h:DV N c d=some y) :FunO S Mv [.p (.agg (A8 c)),.p (vSl 1 (cL 2 A0) d)] [] (pB y) ([]) []:=by
 unfold DV at h;refine A1 hS Tryz.func28 ?_;refine G0 hS trivial 4 3000 (A8 c) ?_;obtain⟨y1,e1,h⟩:=B8 h;refine B9 hS [] (by decide:(3:Nat)<=3) (WI hS hL e1) ?_;refine kB hS (A4 hS) trivial trivial 4 (.o (.a (!y1)) (.a (decide (300<(d.n:Int))))) ?_;refine kI hS h ?_ ?_<;>intro h
 ·cases h;exact kR hS
 ·refine F5 hS trivial h (fun x1 x2=>⟨[(24,pN x2),(23,pN (d.n:Int)),(22,.p (vSl 1 (cL 2 A0) d)),(5,pN x1),(2,.p (.ptr (A8 c))),(1,.p (vSl 1 (cL 2 A0) d))],[]⟩) (ids:=[]) (fun _ _ _ _ _ f x1 x2 i h=>?_);refine kI hS h ?_ ?_<;>intro h
  ·obtain⟨c9,h⟩:=D5 h;refine D3 hS c9 (b:=decide (50<((d.g x2.toNat).n:Int))) (fun c10=>?_) (fun c10=>?_)
   ·replace h:=itT c10 h;cases h;exact kR hS
   ·replace h:=itF c10 h;exact i _ [] _ (wrap .i64 (x1+(wrap .i64 ((wrap .i64 (((d.g x2.toNat).n:Int)+1))*(wrap .i64 (((d.g x2.toNat).n:Int)+1)))))) (wrap .i64 (x2+1)) trivial h
  ·refine kB hS (A4 hS) trivial trivial 3 (.n (.a (decide ((d.n:Int)<=256))) (.a (decide (1500<x1)))) ?_;refine kI hS h ?_ ?_<;>intro h
   ·cases h;exact kR hS
   ·obtain⟨y2,e2,h⟩:=B8 h;refine B9 hS [] (by decide:(3:Nat)<=3) (FJ hS hL e2) ?_;refine kI hS h ?_ ?_<;>intro h
    ·cases h;exact kR hS
    ·refine F5 hS trivial h (fun x3 x4=>⟨[(54,pN x4),(53,pN (c.Laws.n:Int)),(52,.p (vSl 18 B4 c.Laws)),(9,pN 0),(8,pN x3),(2,.p (.ptr (A8 c)))],[]⟩) (ids:=[]) (fun _ _ _ _ _ j x3 x4 l h=>?_);refine kI hS h ?_ ?_<;>intro h
     ·obtain⟨c18,h⟩:=D5 h;refine Aj5 hS (And.intro c18 (by decide:(18:Nat)<=18)) 12000 (B4 (c.Laws.g x4.toNat)) ?_;refine D9 hS trivial [2,3,5,6] ?_;obtain⟨y7,e7,h⟩:=B8 h;refine S6 (by decide:(7:Nat)<=17) (EV hS hL e7) ?_;obtain⟨y8,e8,h⟩:=B8 h;refine S6 (by decide:(7:Nat)<=10) (EV hS hL e8) ?_;refine I4 trivial ?_;exact l _ [] _ (wrap .i64 (x3+(wrap .i64 ((wrap .i64 (y7+y8))-2)))) (wrap .i64 (x4+1)) trivial h
     ·refine F5 hS trivial h (fun x5 x6=>⟨[(72,pN x6),(71,pN (c.On.n:Int)),(70,.p (vSl 1 (cL 1 (cI .i64)) c.On)),(9,pN x5),(8,pN x3)],[]⟩) (ids:=[]) (fun _ _ _ _ _ m x5 x6 q h=>?_);refine kI hS h ?_ ?_<;>intro h
      ·obtain⟨c22,h⟩:=D5 h;exact q _ [] _ (wrap .i64 (x5+((c.On.g x6.toNat).n:Int))) (wrap .i64 (x6+1)) c22 h
      ·cases h;exact kR hS
def Cm (N:Nat)(a:Sl (Sl Sound)):Option Int:=
 if (decide (256<(a.n:Int))) then
  some 12
 else
  W6 N (fun b (x1:Int)=>
   if (decide (x1<(a.n:Int))) then
    if ((0:Int)<=x1/\x1<(a.n:Int))then
     (X7 N (a.g x1.toNat)).bind fun y3=>
     if (y3 != 0) then
      some y3
     else
      b (wrap .i64 (x1+1))
    else none
   else
    some 0
   ) 0
theorem WK {N:Nat}{a:Sl (Sl Sound)}{y:Int}(h:Cm N a=some y) :FunO S MF [.p (vSl 1 (cL 2 A0) a)] [] (pN y) ([]) []:=by
 unfold Cm at h;refine A1 hS Tryz.func79 ?_;refine kI hS h ?_ ?_<;>intro h
 ·cases h;exact kR hS
 ·refine J0 hS trivial h (fun x1=>⟨[(3,pN x1),(0,.p (vSl 1 (cL 2 A0) a))],[]⟩) (ids:=[]) (fun _ _ _ _ _ b x1 c h=>?_);refine kI hS h ?_ ?_<;>intro h
  ·obtain⟨c9,h⟩:=D5 h;obtain⟨y3,e3,h⟩:=B8 h;refine B9 hS [] c9 (DJ hS hL e3) ?_;refine kI hS h ?_ ?_<;>intro h
   ·cases h;exact kR hS
   ·exact c _ [] _ (wrap .i64 (x1+1)) trivial h
  ·cases h;exact kR hS
def AT (N:Nat)(b:B0)(c:Sl Sound):Option ((Sl (Sl Sound))×(Sl Int)):=
 (T4 N b.Tree).bind fun y1=>
 Ai6 N (fun a (x1:Sl (Sl Sound)) (x2:Sl Int) (x3:Int)=>
  if (decide (x3<(y1.1.n:Int))) then
   if (((0:Int)<=x3/\x3<(y1.1.n:Int))/\x3.toNat<y1.1.n)then
    (Jx N b c (y1.1.g x3.toNat)).bind fun y4=>
    if (((x1.n+(Sl.of [y4.1]:Sl (Sl Sound)).n)*24<=140737488355328/\x1.n+(Sl.of [y4.1]:Sl (Sl Sound)).n<=140737488355328)/\((x2.n+(Sl.of [y4.2]:Sl Int).n)*8<=140737488355328/\x2.n+(Sl.of [y4.2]:Sl Int).n<=140737488355328))then
     a (x1.push y4.1) (x2.push y4.2) (wrap .i64 (x3+1))
    else none
   else none
  else
   some (x1,x2)
  ) (Sl.nil:Sl (Sl Sound)) (Sl.nil:Sl Int) 0
theorem OX {N:Nat}{a:B0}{b:Sl Sound}{y:(Sl (Sl Sound))×(Sl Int)}(h:AT N a b=some y) :FunO S HL [.p (.agg (A8 a)),.p (vSl 2 A0 b)] [] (.tup [.vec 0,.vec 1]) ([.vec A9 1 y.1.n (fun i=>cL 2 A0 (y.1.g i)) true,.vec DF 1 y.2.n (fun i=>cI .i64 (y.2.g i)) true]) []:=by
 unfold AT at h;refine A1 hS Tryz.func80 ?_;refine G0 hS trivial 4 3000 (A8 a) ?_;refine kC hS h (La hS hL) (fun y1 h=>?_);refine IU hS trivial h (fun x1 x2 x3=>⟨[(10,pN x3),(9,.vec 10500),(8,.vec 9500),(6,.vec 17000),(2,.p (.ptr (A8 a))),(1,.p (vSl 2 A0 b))],[(17000,.vec C6 1 y1.1.n (fun i=>cI .i64 (y1.1.g i)) true),(10500,.vec DF 1 x2.n (fun i=>cI .i64 (x2.g i)) false),(9500,.vec A9 1 x1.n (fun i=>cL 2 A0 (x1.g i)) false)]⟩) (ids:=[(17000,17000)]) (fun _ _ _ _ _ d x1 x2 x3 f h=>?_);refine kI hS h ?_ ?_<;>intro h
 ·refine D9 hS trivial [0,6] ?_;obtain⟨c6,h⟩:=D5 h;obtain⟨y4,e4,h⟩:=B8 h;refine S6 (And.intro (And.intro (by decide:(3:Nat)<=3) c6.1) c6.2) (Ax9 hS hL e4) ?_;refine I4 trivial ?_;obtain⟨c7,h⟩:=D5 h;exact f _ [(9500,39000),(10500,43000),(17000,17000)] _ (x1.push y4.1) (x2.push y4.2) (wrap .i64 (x3+1)) (And.intro (And.intro (And.intro (rfl:true=true) c7.1) (rfl:true=true)) c7.2) h (hle:=klR [(4,.fn (x2.n+1) (x2.push y4.2).n (R9 x2.n (fun i=>cI .i64 (x2.g i)) (D7 [pI .i64 0] [(0,cI .i64 y4.2)])) (fun i=>cI .i64 ((x2.push y4.2).g i))),(5,.fn (x1.n+1) (x1.push y4.1).n (R9 x1.n (fun i=>cL 2 A0 (x1.g i)) (D7 [G6] [(0,cL 2 A0 y4.1)])) (fun i=>cL 2 A0 ((x1.push y4.1).g i)))] (al1 ⟨rfl,Er (c:=cI .i64) (v:=x2) (x:=y4.2) (z:=[(pI .i64 0)]) same rfl rfl⟩ (al1 ⟨rfl,Er (c:=cL 2 A0) (v:=x1) (x:=y4.1) (z:=[G6]) same rfl rfl⟩ al0)))
 ·obtain rfl:=B6 h;exact A5 hS trivial ⟨[(5,.vec 10500),(4,.vec 9500)],[(10500,.vec DF 1 x2.n (fun i=>cI .i64 (x2.g i)) true),(9500,.vec A9 1 x1.n (fun i=>cL 2 A0 (x1.g i)) true)]⟩ [9500,10500] (ids:=[(9500,9500),(10500,10500)]) ⟨rfl,rfl,rfl⟩
def N3 (N:Nat)(s:B0)(q:Sl (Sl Sound)):Option (N4×Int):=
 (T8 N s).bind fun y1=>
 lt (fun (z1:Int)=>
  if (z1 != 0) then
   some ((⟨0,(Sl.nil:Sl Int)⟩:N4),z1)
  else
   (T4 N s.Tree).bind fun y4=>
   if (decide (32<(y4.1.n:Int))) then
    some ((⟨0,(Sl.nil:Sl Int)⟩:N4),12)
   else
    P6 N (fun o (i:Sl Int) (l:Int)=>
     if (decide (l<(q.n:Int))) then
      if ((0:Int)<=l/\l<(q.n:Int))then
       (AT N s (q.g l.toNat)).bind fun b=>
       P6 N (fun j (d:Sl Int) (c:Int)=>
        if (decide (c<(y4.1.n:Int))) then
         Ai6 N (fun f (m:Int) (r:Bool) (a:Int)=>
          if (decide (a<(y4.1.n:Int))) then
           if (((((0:Int)<=a/\a<(b.2.n:Int))/\a.toNat<b.2.n)/\((0:Int)<=c/\c<(b.2.n:Int)))/\c.toNat<b.2.n)then
            if ((b.2.g a.toNat)==(b.2.g c.toNat)) then
             if (((((0:Int)<=a/\a<(b.1.n:Int))/\a.toNat<b.1.n)/\((0:Int)<=c/\c<(b.1.n:Int)))/\c.toNat<b.1.n)then
              (FF N (b.1.g a.toNat) (b.1.g c.toNat)).bind fun t=>
              if t then
               if (0:Int)<=a then
                f (D2 .or .u64 m (shI .shl .u64 1 a)) (r&&(decide (c<=a))) (wrap .i64 (a+1))
               else none
              else
               f m r (wrap .i64 (a+1))
             else none
            else
             f m r (wrap .i64 (a+1))
           else none
          else
           if r then
            if ((d.n+(Sl.of [m]:Sl Int).n)*8<=140737488355328/\d.n+(Sl.of [m]:Sl Int).n<=140737488355328)then
             j (d.push m) (wrap .i64 (c+1))
            else none
           else
            j d (wrap .i64 (c+1))
          ) 0 true 0
        else
         if (decide (1<(d.n:Int))) then
          if ((i.n+d.n)*8<=140737488355328/\i.n+d.n<=140737488355328)then
           if (decide (64<((i.app d).n:Int))) then
            some ((⟨0,(Sl.nil:Sl Int)⟩:N4),12)
           else
            o (i.app d) (wrap .i64 (l+1))
          else none
         else
          if (decide (64<(i.n:Int))) then
           some ((⟨0,(Sl.nil:Sl Int)⟩:N4),12)
          else
           o i (wrap .i64 (l+1))
        ) (Sl.nil:Sl Int) 0
      else none
     else
      some ((⟨(y4.1.n:Int),i⟩:N4),0)
     ) (Sl.nil:Sl Int) 0
  ) fun k1=>
  if (y1==0) then
   (Cm N q).bind fun y3=>
   k1 y3
  else
   k1 y1
theorem WL {N:Nat}{q:B0}{r:Sl (Sl Sound)}{y:N4×Int}(h:N3 N q r=some y) :FunO S Mw [.p (.agg (A8 q)),.p (vSl 1 (cL 2 A0) r)] [] (.tup [.p (.agg (Mt y.1)),pN y.2]) ([]) []:=by
 unfold N3 at h;refine A1 hS Tryz.func32 ?_;refine G0 hS trivial 4 3000 (A8 q) ?_;obtain⟨y1,e1,h⟩:=B8 h;refine B9 hS [] (by decide:(3:Nat)<=3) (FJ hS hL e1) ?_;refine Hu hS trivial (A4 hS) h 0 (fun z1=>⟨[(6,pN z1),(4,.reg 5000 0),(2,.p (.ptr (A8 q))),(1,.p (vSl 1 (cL 2 A0) r))],[(5000,.cells [pN 0,.p G6])]⟩) (fun M1 k1 a2 h=>?_) (fun z1 h=>?_)
 ·refine kI hS h ?_ ?_<;>intro h
  ·refine kC hS h (WK hS hL) (fun y3 h=>?_);exact a2 _ [(5000,5000)] _ y3 trivial h
  ·exact a2 _ [(5000,5000)] _ y1 trivial h
 ·refine kI hS h ?_ ?_<;>intro h
  ·obtain rfl:=B6 h;exact A5 hS trivial ⟨[(5,pN z1),(4,.reg 5000 0)],[(5000,.cells [pN 0,.p (vSl 1 (cI .u64) (Sl.nil:Sl Int))])]⟩ [] (ids:=[(5000,5000)]) ⟨rfl,rfl,rfl⟩
  ·refine kC hS h (La hS hL) (fun y4 h=>?_);refine kI hS h ?_ ?_<;>intro h
   ·obtain rfl:=B6 h;exact A5 hS trivial ⟨[(5,pN 12),(4,.reg 5000 0)],[(5000,.cells [pN 0,.p (vSl 1 (cI .u64) (Sl.nil:Sl Int))])]⟩ [] (ids:=[(5000,5000)]) ⟨rfl,rfl,rfl⟩
   ·refine F5 hS trivial h (fun f s=>⟨[(10,pN s),(9,.reg 10000 0),(7,.vec 32000),(4,.reg 5000 0),(2,.p (.ptr (A8 q))),(1,.p (vSl 1 (cL 2 A0) r))],[(32000,.vec C6 1 y4.1.n (fun i=>cI .i64 (y4.1.g i)) true),(10500,.vec C5 1 f.n (fun i=>cI .u64 (f.g i)) false),(10000,.cells [pN (y4.1.n:Int),.vec 10500]),(5000,.cells [pN 0,.p G6])]⟩) (ids:=[(5000,5000),(10000,10000),(32000,32000)]) (fun _ _ _ _ _ a5 f s a0 h=>?_);refine kI hS h ?_ ?_<;>intro h
    ·refine D9 hS trivial [0,3,4] ?_;obtain⟨c135,h⟩:=D5 h;obtain⟨j,e25,h⟩:=B8 h;refine Mo [] (And.intro (by decide:(3:Nat)<=3) c135) (OX hS hL e25) ?_;refine I4 trivial ?_;refine F5 hS trivial h (fun d o=>⟨[(14,pN o),(13,.vec 14500),(12,.vec 54001),(11,.vec 54000),(10,pN s),(9,.reg 10000 0),(7,.vec 32000),(4,.reg 5000 0),(2,.p (.ptr (A8 q))),(1,.p (vSl 1 (cL 2 A0) r))],[(54001,.vec DF 1 j.2.n (fun i=>cI .i64 (j.2.g i)) true),(54000,.vec A9 1 j.1.n (fun i=>cL 2 A0 (j.1.g i)) true),(32000,.vec C6 1 y4.1.n (fun i=>cI .i64 (y4.1.g i)) true),(14500,.vec C5 1 d.n (fun i=>cI .u64 (d.g i)) false),(10500,.vec C5 1 f.n (fun i=>cI .u64 (f.g i)) false),(10000,.cells [pN (y4.1.n:Int),.vec 10500]),(5000,.cells [pN 0,.p G6])]⟩) (ids:=[(5000,5000),(10000,10000),(10500,10500),(32000,32000),(54000,54000),(54001,54001)]) (fun _ _ _ _ _ a3 d o a1 h=>?_);refine kI hS h ?_ ?_<;>intro h
     ·refine IU hS trivial h (fun l t m=>⟨[(17,pN m),(16,pB t),(15,.p (pI .u64 l)),(14,pN o),(13,.vec 14500),(12,.vec 54001),(11,.vec 54000),(10,pN s),(9,.reg 10000 0),(7,.vec 32000),(4,.reg 5000 0),(2,.p (.ptr (A8 q))),(1,.p (vSl 1 (cL 2 A0) r))],[(54001,.vec DF 1 j.2.n (fun i=>cI .i64 (j.2.g i)) true),(54000,.vec A9 1 j.1.n (fun i=>cL 2 A0 (j.1.g i)) true),(32000,.vec C6 1 y4.1.n (fun i=>cI .i64 (y4.1.g i)) true),(14500,.vec C5 1 d.n (fun i=>cI .u64 (d.g i)) false),(10500,.vec C5 1 f.n (fun i=>cI .u64 (f.g i)) false),(10000,.cells [pN (y4.1.n:Int),.vec 10500]),(5000,.cells [pN 0,.p G6])]⟩) (ids:=[(5000,5000),(10000,10000),(10500,10500),(14500,14500),(32000,32000),(54000,54000),(54001,54001)]) (fun _ _ _ _ _ a4 l t m u h=>?_);refine kI hS h ?_ ?_<;>intro h
      ·refine D9 hS trivial [18] ?_;obtain⟨c187,h⟩:=D5 h;refine Vw c187 (b:=(j.2.g m.toNat)==(j.2.g o.toNat)) (fun c188=>?_) (fun c188=>?_)
       ·replace h:=itT c188 h;obtain⟨c189,h⟩:=D5 h;obtain⟨a6,e34,h⟩:=B8 h;refine S6 c189 (Wp hS hL e34) ?_;refine I4 trivial ?_;refine kI hS h ?_ ?_<;>intro h
        ·obtain⟨c191,h⟩:=D5 h;refine kB hS (A4 hS) c191 trivial 4 (.n (.a t) (.a (decide (o<=m)))) ?_;exact u _ [(5000,5000),(10000,10000),(10500,10500),(14500,14500),(32000,32000),(54000,54000),(54001,54001)] _ (D2 .or .u64 l (shI .shl .u64 1 m)) (t&&(decide (o<=m))) (wrap .i64 (m+1)) trivial h
        ·exact u _ [(5000,5000),(10000,10000),(10500,10500),(14500,14500),(32000,32000),(54000,54000),(54001,54001)] _ l t (wrap .i64 (m+1)) trivial h
       ·replace h:=itF c188 h;refine I4 trivial ?_;exact u _ [(5000,5000),(10000,10000),(10500,10500),(14500,14500),(32000,32000),(54000,54000),(54001,54001)] _ l t (wrap .i64 (m+1)) trivial h
      ·refine kI hS h ?_ ?_<;>intro h
       ·obtain⟨c193,h⟩:=D5 h;exact a1 _ [(5000,5000),(10000,10000),(10500,10500),(14500,103000),(32000,32000),(54000,54000),(54001,54001)] _ (d.push l) (wrap .i64 (o+1)) (And.intro (rfl:true=true) c193) h (hle:=klR [(7,.fn (d.n+1) (d.push l).n (R9 d.n (fun i=>cI .u64 (d.g i)) (D7 [pI .u64 0] [(0,cI .u64 l)])) (fun i=>cI .u64 ((d.push l).g i)))] (al1 ⟨rfl,Er (c:=cI .u64) (v:=d) (x:=l) (z:=[(pI .u64 0)]) same rfl rfl⟩ al0))
       ·exact a1 _ [(5000,5000),(10000,10000),(10500,10500),(14500,14500),(32000,32000),(54000,54000),(54001,54001)] _ d (wrap .i64 (o+1)) trivial h
     ·refine kI hS h ?_ ?_<;>intro h
      ·obtain⟨c195,h⟩:=D5 h;refine D3 hS c195 (b:=decide (64<((f.app d).n:Int))) (fun c196=>?_) (fun c196=>?_)
       ·replace h:=itT c196 h;obtain rfl:=B6 h;exact A5 hS trivial ⟨[(5,pN 12),(4,.reg 5000 0)],[(5000,.cells [pN 0,.p (vSl 1 (cI .u64) (Sl.nil:Sl Int))])]⟩ [] (ids:=[(5000,5000)]) ⟨rfl,rfl,rfl⟩
       ·replace h:=itF c196 h;exact a0 _ [(5000,5000),(10000,10000),(10500,110000),(32000,32000)] _ (f.app d) (wrap .i64 (s+1)) trivial h (hle:=klR [(4,.fn (f.n+d.n) (f.app d).n (R9 f.n (fun i=>cI .u64 (f.g i)) (fun i=>cI .u64 (d.g i))) (fun i=>cI .u64 ((f.app d).g i)))] (al1 ⟨rfl,XK (c:=cI .u64) (v:=f) (w:=d) same rfl same rfl⟩ al0))
      ·refine kI hS h ?_ ?_<;>intro h
       ·obtain rfl:=B6 h;exact A5 hS trivial ⟨[(5,pN 12),(4,.reg 5000 0)],[(5000,.cells [pN 0,.p (vSl 1 (cI .u64) (Sl.nil:Sl Int))])]⟩ [] (ids:=[(5000,5000)]) ⟨rfl,rfl,rfl⟩
       ·exact a0 _ [(5000,5000),(10000,10000),(10500,10500),(32000,32000)] _ f (wrap .i64 (s+1)) trivial h
    ·obtain rfl:=B6 h;exact A5 hS trivial ⟨[(5,pN 0),(4,.reg 5000 0)],[(5000,.cells [pN (y4.1.n:Int),.p (vSl 1 (cI .u64) f)])]⟩ [] (ids:=[(5000,5000)]) ⟨rfl,rfl,rfl⟩
def AY (N:Nat)(a:B0)(b:Sl (Sl Sound)):Option Bool:=
 (DV N a b).bind fun y1=>
 if (!y1) then
  (Cl N ).bind fun y2=>
  some y2
 else
  (H0 N a b).bind fun y3=>
  (N3 N a b).bind fun y4=>
  (Fa N y3.1 y4.1).bind fun y5=>
  lt (fun (z1:Bool)=>
   some z1
   ) fun k1=>
   if y5 then
    if (y3.2==y4.2) then
     (Cl N ).bind fun y7=>
     k1 y7
    else
     k1 false
   else
    k1 false
theorem Ld {N:Nat}{b:B0}{c:Sl (Sl Sound)}{y:Bool}(h:AY N b c=some y) :FunO S CJ [.p (.agg (A8 b)),.p (vSl 1 (cL 2 A0) c)] [] (pB y) ([]) []:=by
 unfold AY at h;refine A1 hS Tryz.func6 ?_;refine kC hS h (WJ hS hL) (fun y1 h=>?_);refine kI hS h ?_ ?_<;>intro h
 ·refine kC hS h (NF hS hL) (fun y2 h=>?_);cases h;exact kR hS
 ·refine kC hS h (Jz hS hL) (fun y3 h=>?_);refine kC hS h (WL hS hL) (fun y4 h=>?_);refine kC hS h (Aa3 hS hL) (fun y5 h=>?_);refine Hu hS trivial (A4 hS) h 0 (fun z1=>⟨[(4,pB z1)],[]⟩) (fun M1 k1 a h=>?_) (fun z1 h=>?_)
  ·refine kG hS h (fun h=>?_) (fun h=>?_)
   ·refine kG hS h (fun h=>?_) (fun h=>?_)
    ·refine kC hS h (NF hS hL) (fun y7 h=>?_);exact a _ [] _ y7 trivial h
    ·exact a _ [] _ false trivial h
   ·exact a _ [] _ false trivial h
  ·cases h;exact kR hS
end Go.AM
namespace Go.AM
open Go.Proofs
set_option maxRecDepth 10000
set_option maxHeartbeats 2000000
variable {S:Az}(hS:H5 S Tryz.prog) (hL:Qd S)
include hS hL
end Go.AM
namespace Go.AM
set_option maxRecDepth 1000000
theorem YF:Cl 4194304=some true:=by decide +kernel
end Go.AM
namespace Go.AM
open IntKind (wrap)
open Go.Proofs
theorem Ay0 {A R:Type}{body:(A->Option R)->A->Option R}(I:Nat->A->Prop)(n:Nat)(J8:R->Prop)
 (b:∀self i a,i<=n->I i a->(i<n->∀a',I (i+1) a' -> ∃r,self a' = some r/\J8 r)->∃r,body self a=some r/\J8 r) :
 ∀(N i:Nat) (a:A),i<=n->I i a->n-i<N->∃r,W6 N body a=some r/\J8 r
 |0,_,_,_,_,h=>by omega
 |N+1,i,a,hi,hI,h=>by rw[BB];exact b _ i a hi hI fun c a' d=>Ay0 I n J8 b N (i+1) a' c d (by omega)
theorem Bk {A R:Type}{body:(A->Option R)->A->Option R}(I:Nat->A->Prop)(n:Nat)(J8:R->Prop){N:Nat}(c:n<N){a:A}(d:I 0 a)
 (b:∀self i a,i<=n->I i a->(i<n->∀a',I (i+1) a' -> ∃r,self a' = some r/\J8 r)->∃r,body self a=some r/\J8 r):∃r,W6 N body a=some r/\J8 r:=
 Ay0 I n J8 b N 0 a (Bh1 _) d c
theorem P9 {A B R:Type}{body:(A->B->Option R)->A->B->Option R}(I:Nat->A->B->Prop)(n:Nat)(J8:R->Prop){N:Nat}(g:n<N){a:A}{b:B}(j:I 0 a b)
 (d:∀c i a b,i<=n->I i a b->(i<n->∀a' b',I (i+1) a' b' -> ∃r,c a' b' = some r/\J8 r)->∃r,body c a b=some r/\J8 r):∃r,P6 N body a b=some r/\J8 r:=
 Ay0 (fun i x=>I i x.1 x.2) n J8 (fun c i x l m h=>d (fun a b=>c (a,b)) i x.1 x.2 l m fun hl a' b' f=>h hl (a',b') f) N 0 (a,b) (Bh1 _) j g
theorem Un {A B C R:Type}{body:(A->B->C->Option R)->A->B->C->Option R}(I:Nat->A->B->C->Prop)(n:Nat)(J8:R->Prop){N:Nat}(j:n<N){a:A}{b:B}{c:C}(l:I 0 a b c)
 (f:∀d i a b c,i<=n->I i a b c->(i<n->∀a' b' c',I (i+1) a' b' c' -> ∃r,d a' b' c' = some r/\J8 r)->∃r,body d a b c=some r/\J8 r):∃r,Ai6 N body a b c=some r/\J8 r:=
 Ay0 (fun i x=>I i x.1 x.2.1 x.2.2) n J8 (fun d i x m o h=>f (fun a b c=>d (a,b,c)) i x.1 x.2.1 x.2.2 m o fun hl a' b' c' g=>h hl (a',b',c') g) N 0 (a,b,c) (Bh1 _) l j
theorem B7 {X R:Type}{Q:R->Prop}{o:Option X}{f:X->Option R}{x:X}(h:o=some x)(a:∃r,f x=some r/\Q r):∃r,o.bind f=some r/\Q r:=by subst h;exact a
theorem ltX {R A:Type}{Q:R->Prop}{k:A->Option R}{f:(A->Option R)->Option R}(h:∃r,f k=some r/\Q r):∃r,lt k f=some r/\Q r:=h
theorem ifT {R:Type}{Q:R->Prop}{p:Prop}[Decidable p]{a b:Option R}(h:p)(c:∃r,a=some r/\Q r):∃r,(if p then a else b)=some r/\Q r:=by rw[if_pos h];exact c
theorem ifF {R:Type}{Q:R->Prop}{p:Prop}[Decidable p]{a b:Option R}(h:¬p)(c:∃r,b=some r/\Q r):∃r,(if p then a else b)=some r/\Q r:=by rw[if_neg h];exact c
theorem F3 {n:Int}(h : -9223372036854775808<=n)(h' : n<=9223372036854775807):IntKind.i64.wrap n=n:=by
 by_cases a:0<=n
 ·have h1:n % (2 ^ 64:Int)=n:=Bj7 a (by omega);unfold wrap;simp only[IntKind.bits,IntKind.signed,h1];rw[if_neg];simp;omega
 ·have h1:n % (2 ^ 64:Int)=n+2 ^ 64:=by rw[<- Int.add_emod_right];exact Bj7 (by omega) (by omega)
  unfold wrap;simp only[IntKind.bits,IntKind.signed,h1];rw[if_pos]
  ·omega
  ·simp;omega
theorem C4 {i:Nat}(h:i<1000000000000000000):IntKind.i64.wrap ((i:Int)+1)=((i+1:Nat):Int):=by rw[F3 (by omega) (by omega)];rfl
theorem wrapP {i:Nat}(a:1<=i)(h:i<1000000000000000000):IntKind.i64.wrap ((i:Int)-1)=((i-1:Nat):Int):=by rw[F3 (by omega) (by omega)];omega
theorem DZ {i j:Nat}(h:i+j<1000000000000000000):IntKind.i64.wrap ((i:Int)+(j:Int))=((i+j:Nat):Int):=by rw[F3 (by omega) (by omega)];rfl
theorem Ye {N n:Nat}(hn:n<=32)(f:1000<=N):∃s,Dg N (n:Int)=some s/\s.n=n+1/\TabR n (fun a b=>a=b) s.g:=by
 unfold Dg;rw[C4 (by omega)];refine ifT (by omega) ?_;refine P9 (fun i x1 x2=>x2=(i:Int)/\x1.n=n+1/\∀a,a<i->x1.g a=U (1#64 <<< a)) (n+1) _ (by omega) ⟨rfl,by show ((n+1:Nat):Int).toNat=n+1;omega,fun a ha=>absurd ha (by omega)⟩ ?_;rintro c i x1 x2 j ⟨rfl,h1,d⟩ hs;by_cases hl:i<=n
 ·refine ifT (by simp;omega) (ifT ⟨⟨by omega,by omega,by omega⟩,by omega⟩ (hs (by omega) _ _ ⟨C4 (by omega),h1,fun a ha=>?_⟩));show (if a=(i:Int).toNat then shI .shl .u64 1 (i:Int)else x1.g a)=_;by_cases e:a=i
  ·subst e;rw[if_pos (by omega),Nl _ (by omega)]
  ·rw[if_neg (by omega)];exact d a (by omega)
 ·refine ifF (by simp;omega) ⟨x1,rfl,h1,fun a ha=>⟨1#64 <<< a,d a (by omega),fun b hb=>?_⟩⟩;rw[GN (by omega) hb,decide_eq_true_eq];omega
theorem Ay1 {n:Nat}{f:Nat->Int}(h:∀a,a<=n->f a=0):TabR n (fun _ _=>False) f:=fun a ha=>⟨0#64,h a ha,fun b hb=>by simp⟩
theorem Yf {N n:Nat}{R S:Nat->Nat->Prop}{x y:Sl Int}(hn:n<=32)(f:1000<=N)(hx:x.n=n+1)(hy:y.n=n+1)(hR:TabR n R x.g)(hS:TabR n S y.g) :∃s,Dh N x y=some s/\s.n=n+1/\TabR n (fun a b=>R a b \/ S a b) s.g:=by
 unfold Dh;refine ifT (by omega) ?_;refine P9 (fun i x1 x2=>x2=(i:Int)/\x1.n=n+1/\∀a,a<i->x1.g a=D2 .or .u64 (x.g a) (y.g a)) (n+1) _ (by omega) ⟨rfl,by show (x.n:Int).toNat=n+1;omega,fun a ha=>absurd ha (by omega)⟩ ?_;rintro d i x1 x2 j ⟨rfl,h1,c⟩ hs;by_cases hl:i<=n
 ·refine ifT (by simp;omega) (ifT (by omega) (hs (by omega) _ _ ⟨C4 (by omega),h1,fun a ha=>?_⟩));show (if a=(i:Int).toNat then _ else x1.g a)=_;by_cases e:a=i
  ·subst e;rw[if_pos (by omega),AZ1]
  ·rw[if_neg (by omega)];exact c a (by omega)
 ·refine ifF (by simp;omega) ⟨x1,rfl,h1,fun a ha=>?_⟩;obtain⟨u,e1,g1⟩:=hR a ha;obtain⟨v,e2,g2⟩:=hS a ha;refine⟨u ||| v,by rw[c a (by omega),e1,e2,AL9],fun b hb=>?_⟩;rw[Ba6,Bb4,g1 b hb,g2 b hb];constructor
  ·rintro (⟨h1,c⟩ | ⟨h1,c⟩)
   ·exact⟨h1,.inl c⟩
   ·exact⟨h1,.inr c⟩
  ·rintro⟨h1,c|c⟩
   ·exact .inl ⟨h1,c⟩
   ·exact .inr ⟨h1,c⟩
theorem Al3 {N n:Nat}{x y:Sl Int}(hn:n<=32)(f:1000<=N)(hx:x.n=n+1)(hy:y.n=n+1) :∃b,DM N x y=some b/\(b=true ↔ ∀a,a<=n->x.g a=y.g a):=by
 unfold DM;refine Bk (fun i x1=>x1=(i:Int)/\∀a,a<i->x.g a=y.g a) (n+1) _ (by omega) ⟨rfl,fun a ha=>absurd ha (by omega)⟩ ?_;rintro c i x1 j ⟨rfl,d⟩ hs;by_cases hl:i<=n
 ·refine ifT (by simp;omega) (ifT (by omega) ?_);rw[AZ1];by_cases e:x.g i=y.g i
  ·refine ifF (by simp[e]) (hs (by omega) _ ⟨C4 (by omega),fun a ha=>?_⟩);by_cases h:a=i
   ·subst h;exact e
   ·exact d a (by omega)
  ·refine ifT (by simp[e]) ⟨false,rfl,by simp;exact⟨i,hl,e⟩⟩
 ·exact ifF (by simp;omega) ⟨true,rfl,by simp;exact fun a ha=>d a (by omega)⟩
theorem Ql {N n:Nat}{R S:Nat->Nat->Prop}{x y:Sl Int}(hn:n<=32)(w:1000<=N)(hx:x.n=n+1)(hy:y.n=n+1)(hR:TabR n R x.g)(hS:TabR n S y.g) :∃s,X9 N x y=some s/\s.n=n+1/\TabR n (fun a b=>∃c,c<=n/\R a c/\S c b) s.g:=by
 unfold X9;refine ifT (by omega) ?_
 let Row (z:BitVec 64) (a j:Nat):Prop:=∀b,b<64->(z.getLsbD b=true↔b<=n/\∃c,c<j/\c<=n/\R a c/\S c b)
 refine P9 (fun i x1 x2=>x2=(i:Int)/\x1.n=n+1/\(∀a,a<i->∃z,x1.g a=U z/\Row z a (n+1))/\∀a,i<=a->x1.g a=0) (n+1) _ (by omega) ⟨rfl,by show (x.n:Int).toNat=n+1;omega,fun a ha=>absurd ha (by omega),fun a _=>rfl⟩ ?_;rintro q i x1 x2 hi ⟨rfl,h1,r,t⟩ hs;by_cases hl:i<=n
 ·refine ifT (by simp;omega) ?_;refine P9 (fun j x7 x8=>x8=(j:Int)/\x7.n=n+1/\(∀a,a<i->∃z,x7.g a=U z/\Row z a (n+1))/\(∃z,x7.g i=U z/\Row z i j)/\∀a,i<a->x7.g a=0) (n+1) _ (by omega)
   ⟨rfl,h1,r,⟨0#64,t i (AZ7 _),fun b hb=>by simp⟩,fun a ha=>t a (by omega)⟩ ?_
  rintro m j x7 x8 hj ⟨rfl,g1,g2,⟨z,g3,g4⟩,g5⟩ l;by_cases f:j<=n
  ·refine ifT (by simp;omega) (ifT (by omega) ?_);rw[AZ1,AZ1];have d:=hR.bit hl (b:=j) (by omega);by_cases hc:R i j
   ·refine ifT (d.2 ⟨f,hc⟩) (ifT (by omega) (l (by omega) _ _ ⟨C4 (by omega),g1,fun a ha=>?_,?_,fun a ha=>?_⟩))
    ·obtain⟨z',e,o⟩:=g2 a ha;exact⟨z',by show (if a=i then _ else x7.g a)=_;rw[if_neg (by omega)];exact e,o⟩
    ·obtain⟨v,e,u⟩:=hS j f;refine⟨z ||| v,by show (if i=i then _ else _)=_;rw[if_pos rfl,g3,e,AL9],fun b hb=>?_⟩;rw[Ba6,Bb4,g4 b hb,u b hb];constructor
     ·rintro (⟨k1,c,k2,k3⟩ | ⟨k1,k2⟩)
      ·exact⟨k1,c,by omega,k3⟩
      ·exact⟨k1,j,by omega,f,hc,k2⟩
     ·rintro⟨k1,c,k2,k3,k4,k5⟩;by_cases e:c=j
      ·subst e;exact .inr ⟨k1,k5⟩
      ·exact .inl ⟨k1,c,by omega,k3,k4,k5⟩
    ·show (if a=i then _ else x7.g a)=_;rw[if_neg (by omega)];exact g5 a ha
   ·refine ifF (fun h=>hc (d.1 h).2) (l (by omega) _ _ ⟨C4 (by omega),g1,g2,⟨z,g3,fun b hb=>?_⟩,g5⟩);rw[g4 b hb];constructor
    ·rintro⟨k1,c,k2,k3⟩;exact⟨k1,c,by omega,k3⟩
    ·rintro⟨k1,c,k2,k3,k4,k5⟩;by_cases e:c=j
     ·subst e;exact absurd k4 hc
     ·exact⟨k1,c,by omega,k3,k4,k5⟩
  ·refine ifF (by simp;omega) (hs (by omega) _ _ ⟨C4 (by omega),g1,fun a ha=>?_,fun a ha=>g5 a (by omega)⟩);by_cases e:a=i
   ·subst e;obtain rfl:j=n+1:=by omega
    exact⟨z,g3,g4⟩
   ·exact g2 a (by omega)
 ·refine ifF (by simp;omega) ⟨x1,rfl,h1,fun a ha=>?_⟩;obtain⟨z,e,o⟩:=r a (by omega);refine⟨z,e,fun b hb=>(o b hb).trans ⟨fun⟨k1,c,_,k3⟩=>⟨k1,c,k3⟩,fun⟨k1,c,k3⟩=>⟨k1,c,by omega,k3⟩⟩⟩
end Go.AM
namespace Go.AM
open IntKind (wrap)
open Go.Proofs
theorem WM {α : Type}(s:Sl α)(a : α):(s.push a).toList=s.toList++[a]:=by
 unfold Sl.toList;rw[Bd9,Bg0];congr 1
 ·exact Bc1 fun i b=>by rw[Bf4]at b;show (if i<s.n then s.g i else a)=s.g i;rw[if_pos b]
 ·show [if s.n<s.n then s.g s.n else a]=[a];rw[if_neg (by omega)]
theorem DW {α : Type}(s:Sl α):s.toList.length=s.n:=by simp[Sl.toList]
theorem AW8 {α : Type}{s t:Sl α}(h:s.toList=t.toList):s.n=t.n/\∀i,i<s.n->s.g i=t.g i:=by
 have hn:s.n=t.n:=by rw[<- DW s,<- DW t,h]
 refine⟨hn,fun i a=>?_⟩
 have:=congrArg (fun l=>l[i]?) h
 simpa[Sl.toList,a,hn ▸ a]using this
theorem Aa4 {N:Nat}{a b:Sl Int}(hn:a.n<N)(hb:a.n<1000000)(h:a.toList=b.toList):H9 N a b=some true:=by
 obtain⟨e,j⟩:=AW8 h;unfold H9;rw[if_neg (by simp[e])];obtain⟨r,h1,rfl⟩:=Bk (body:=fun c (x1:Int)=>
  if (decide (x1<(a.n:Int))) then
   if (((0:Int)<=x1/\x1<(a.n:Int))/\((0:Int)<=x1/\x1<(b.n:Int)))then
    if ((a.g x1.toNat) != (b.g x1.toNat)) then some false else c (wrap .i64 (x1+1))
   else none
  else some true) (fun i x=>x=(i:Int)) a.n (fun r=>r=true) hn (a:=0) rfl (by
  rintro f i x l rfl hs;by_cases d:i<a.n
  ·refine ifT (by simp;omega) (ifT (by omega) ?_);rw[AZ1];exact ifF (by rw[j i d];simp) (hs d _ (C4 (by omega)))
  ·exact ifF (by simp;omega) ⟨_,rfl,rfl⟩)
 exact h1
theorem WN {N:Nat}{a b:Sl Int}(hn:a.n<N)(hb:a.n<1000000)(h:a.toList=b.toList):C9 N a b=some true:=Aa4 hn hb h
def FL (p:Nat->Bool)(n:Nat):List Int:=((List.range n).filter p).map fun (i:Nat)=>(i:Int)
theorem Al4 (p:Nat->Bool)(n:Nat):FL p (n+1)=FL p n++if p n then [(n:Int)]else []:=by
 unfold FL;rw[Bd9,Bn5,Bg0];congr 1;by_cases h:p n=true
 ·simp[h]
 ·simp[h]
theorem AE6 (p:Nat->Bool):∀n,(FL p n).length<=n
 |0=>by simp[FL]
 |n+1=>by rw[Al4,Ba7];have:=AE6 p n;split<;>simp<;>omega
end Go.AM
namespace Go.AM
open Go.Proofs
theorem AW9 (x:BitVec 64)(h:x≠0#64):∃t,t<64/\x.getLsbD t=true/\(∀k,k<t->x.getLsbD k=false)/\∀k,k<64->(x &&& (x-1#64)).getLsbD k=(x.getLsbD k&&decide (k≠t)):=by
 have d:x.toNat≠0:=fun e=>h (Bb9 (by simpa using e));obtain⟨m,hm,a⟩:=Lib.ctzFrom_spec 64 x.toNat (by omega) x.isLt;generalize Lib.ctzFrom 64 x.toNat=t at hm a;have hp:0<2 ^ t:=Nat.pow_pos (by decide);have e:x.toNat-1=2 ^ t*(2*m)+(2 ^ t-1):=by rw[hm,Nat.mul_add];omega
 have b:(x-1#64).toNat=x.toNat-1:=by rw[BitVec.toNat_sub];have:=x.isLt;simp only[Bn4];omega
 refine⟨t,a,?_,fun k hk=>?_,fun k hk=>?_⟩
 ·show x.toNat.testBit _=true;rw[hm,Bh2];simp[<- hm,Bo7]
 ·show x.toNat.testBit _=false;rw[hm,Bh2];simp[<- hm];omega
 ·rw[Ba4];show (x.getLsbD k&&(x-1#64).toNat.testBit k)=_;rw[b,e,Nat.testBit_two_pow_mul_add _ (by omega)];show (x.toNat.testBit k&&_)=(x.toNat.testBit k&&_);rw[hm,Bh2];by_cases h1:k<t
  ·simp[h1];omega
  ·by_cases c:k=t
   ·subst c;simp[Bo7]
   ·simp only[h1,if_false];rw[show k-t=(k-t-1)+1 by omega,Nat.testBit_succ,Nat.testBit_succ,show (2*m+1) / 2=m by omega,show 2*m / 2=m by omega];simp[c]
end Go.AM
namespace Go.AM
open Go.Proofs
def NG (p:Nat->Bool)(n:Nat):Nat:=(FL p n).length
theorem GY (p:Nat->Bool)(n:Nat):NG p (n+1)=NG p n+if p n then 1 else 0:=by unfold NG;rw[Al4,Ba7];split<;>rfl
end Go.AM
namespace Go.AM
open Go.Proofs
theorem AM3 {N:Nat}{u:A3}{r:N4}(hl:u.Langs=r.Langs)(a:u.Has.toList=r.Has.toList)(hn:u.Has.n<N)(hb:u.Has.n<1000000):Fa N u r=some true:=by unfold Fa;simp only[lt,hl,beq_self_eq_true,if_true,WN hn hb a,AZ4]
end Go.AM
namespace Go.AM
open Go.Proofs
end Go.AM
namespace Go.AM
open Go.Proofs
end Go.AM
namespace Go.AM
open Go.Proofs
theorem AM4 (p:Nat->Bool)(n:Nat):NG p n<=n:=AE6 p n
end Go.AM
namespace Go.AM
open Go.Proofs
end Go.AM
namespace Go.AM
open Go.Proofs
def okP:Nat->Pat->Prop
 |0,_=>False
 |d+1,p=>p.L.n<=40/\(p.Kind=5->p.L.n=1/\0<=p.Min/\p.Min<=32/\(p.Max = -1 \/ (p.Min<=p.Max/\p.Max<=32)))/\∀i,i<p.L.n->okP d (p.L.g i)
theorem Lu (w:Sl Sound)(p:Pat)(a b:Nat):PR w p a b↔(if p.Kind=0 then a=b
 else if p.Kind=1 then a<w.n/\b=a+1/\(Wl (w.g a) p.Is != p.Not)=true
 else if p.Kind=2 then a=0/\b=0
 else if p.Kind=6 then a=w.n/\b=w.n
 else if p.Kind=3 then ZN w.n (fun i=>PR w (p.L.g i)) p.L.n a b
 else if p.Kind=4 then ∃i,i<p.L.n/\PR w (p.L.g i) a b
 else if p.Kind=5 then ∃k:Nat,p.Min<=k/\(p.Max = -1 \/ (k:Int)<=p.Max)/\HV w.n (PR w (p.L.g 0)) k a b
 else False):=by
 cases p with
 |nil=>simp[PR,Pat.Kind]
 |mk kind is no mn mx m g=>exact Bi6
def R0 (w:Sl Sound)(p:Pat)(a b:Nat):Prop:=if p.Kind=0 then a=b
 else if p.Kind=1 then a<w.n/\b=a+1/\(Wl (w.g a) p.Is != p.Not)=true
 else if p.Kind=2 then a=0/\b=0
 else if p.Kind=6 then a=w.n/\b=w.n
 else False
theorem AE7 {n:Nat}{R:Nat->Nat->Prop}(hR:Fwd n R){mn k:Nat}(hk:mn<k)(h:∀a b,a<=n->b<=n->HV n R k a b->∃j,mn<=j/\j<k/\HV n R j a b){a:Nat}(ha:a<=n) :∀m b,mn<=m->HV n R m a b->∃j,mn<=j/\j<k/\HV n R j a b
 |0,b,hm,hp=>⟨0,hm,by omega,hp⟩
 |m+1,b,hm,hp=>by
  by_cases d:m+1<k
  ·exact⟨m+1,hm,d,hp⟩
  ·obtain⟨c,hc,h1,f⟩:=hp;have hb:=(hR c b hc f).2;obtain⟨j,g1,g2,g3⟩:=AE7 hR hk h ha m c (by omega) h1;by_cases e:j+1<k
   ·exact⟨j+1,by omega,e,c,hc,g3,f⟩
   ·obtain rfl:k=j+1:=by omega
    exact h a b ha hb ⟨c,hc,g3,f⟩
theorem NH {N:Nat}(hN:1000<=N){w:Sl Sound}(hw:w.n<=32):∀(d:Nat) (p:Pat),okP d p->∀M,N+d<=M->∃t,Ce M p w=some t/\t.n=w.n+1/\TabR w.n (PR w p) t.g
 |0,p,h,M,hM=>h.elim
 |d+1,p,⟨hc,h5,hch⟩,0,hM=>by omega
 |d+1,p,⟨hc,h5,hch⟩,M+1,hM=>by
  have ih:=fun i hi=>NH hN hw d (p.L.g i) (hch i hi) M (by omega);show ∃t,BH (Ce M) M p w=some t/\_;unfold BH;rw[C4 (by omega)];refine ifT (by omega) ?_;refine P9 (fun i x1 x2=>x2=(i:Int)/\x1.n=w.n+1/\(∀a,a<i->∃z:BitVec 64,x1.g a=U z/\∀b,b<64->(z.getLsbD b=true↔b<=w.n/\R0 w p a b))/\∀a,i<=a->x1.g a=0) (w.n+1) _ (by omega)
   ⟨rfl,by show ((w.n+1:Nat):Int).toNat=w.n+1;omega,fun a ha=>absurd ha (by omega),fun _ _=>rfl⟩ ?_
  rintro self i x1 x2 hi ⟨rfl,h1,l,c⟩ hs;have keep:(∀b,b<=w.n->¬R0 w p i b)->(∀a,a<i+1->∃z:BitVec 64,x1.g a=U z/\∀b,b<64->(z.getLsbD b=true↔b<=w.n/\R0 w p a b)):=by
   intro h a ha;by_cases e:a=i
   ·subst e;exact⟨0#64,c a (AZ7 _),fun b hb=>by simp;exact h b⟩
   ·exact l a (by omega)
  have put:∀(z:BitVec 64) (v:Int),v=U z->(∀b,b<64->(z.getLsbD b=true↔b<=w.n/\R0 w p i b)) ->
   (∀a,a<i+1->∃z:BitVec 64,(x1.upd (i:Int).toNat v).g a=U z/\∀b,b<64->(z.getLsbD b=true↔b<=w.n/\R0 w p a b))/\∀a,i+1<=a->(x1.upd (i:Int).toNat v).g a=0:=by
   intro z v hv hz;refine⟨fun a ha=>?_,fun a ha=>?_⟩
   ·by_cases e:a=i
    ·subst e;exact⟨z,by show (if a=(a:Int).toNat then v else _)=_;rw[if_pos (by omega),hv],hz⟩
    ·obtain⟨z',e1,e2⟩:=l a (by omega);exact⟨z',by show (if a=(i:Int).toNat then v else x1.g a)=_;rw[if_neg (by omega)];exact e1,e2⟩
   ·show (if a=(i:Int).toNat then v else x1.g a)=0;rw[if_neg (by omega)];exact c a (by omega)
  by_cases hl:i<=w.n
  ·refine ifT (by simp;omega) ?_;by_cases k0:p.Kind=0
   ·refine ifT (by simp[k0]) (ifT (by omega) ?_);obtain⟨p1,p2⟩:=put (1#64 <<< i) _ (Nl i (by omega)) (fun b hb=>by rw[GN (by omega) hb,decide_eq_true_eq];simp only[R0,k0,if_true];omega);exact hs (by omega) _ _ ⟨C4 (by omega),h1,p1,p2⟩
   refine ifF (by simp[k0]) ?_;by_cases k1:p.Kind=1
   ·refine ifT (by simp[k1]) ?_;have e0:∀b,R0 w p i b↔i<w.n/\b=i+1/\(Wl (w.g i) p.Is != p.Not)=true:=fun b=>by simp only[R0,k1];simp
    by_cases hlt:i<w.n
    ·refine ifT (by simp;omega) (ifT (by omega) ?_);refine B7 (x:=Wl (w.g i) p.Is) (by rw[AZ1];rfl) ?_;by_cases hb:Wl (w.g i) p.Is=p.Not
     ·refine ifF (by simp[hb]) (hs (by omega) _ _ ⟨C4 (by omega),h1,keep fun b _=>?_,fun a ha=>c a (by omega)⟩);rw[e0];simp[hb]
     ·refine ifT (by simp[hb]) ?_;rw[C4 (by omega)];refine ifT (by omega) ?_;obtain⟨p1,p2⟩:=put (1#64 <<< (i+1)) _ (Nl (i+1) (by omega)) (fun b a0=>by
       rw[GN (by omega) a0,decide_eq_true_eq,e0]
       have:(Wl (w.g i) p.Is != p.Not)=true:=by simp[hb]
       simp only[this,and_true];omega)
      exact hs (by omega) _ _ ⟨rfl,h1,p1,p2⟩
    ·refine ifF (by simp;omega) (hs (by omega) _ _ ⟨C4 (by omega),h1,keep fun b _=>?_,fun a ha=>c a (by omega)⟩);rw[e0];omega
   refine ifF (by simp[k1]) ?_;by_cases k2:p.Kind=2
   ·refine ifT (by simp[k2]) ?_;have e0:∀b,R0 w p i b↔i=0/\b=0:=fun b=>by simp only[R0,k2];simp
    by_cases hz:i=0
    ·refine ifT (by simp;omega) (ifT (by omega) ?_);obtain⟨p1,p2⟩:=put 1#64 _ AW6 (fun b a0=>by rw[Wk,decide_eq_true_eq,e0];omega);exact hs (by omega) _ _ ⟨C4 (by omega),h1,p1,p2⟩
    ·refine ifF (by simp;omega) (hs (by omega) _ _ ⟨C4 (by omega),h1,keep fun b _=>?_,fun a ha=>c a (by omega)⟩);rw[e0];omega
   refine ifF (by simp[k2]) ?_;by_cases k6:p.Kind=6
   ·refine ifT (by simp[k6]) ?_;have e0:∀b,R0 w p i b↔i=w.n/\b=w.n:=fun b=>by simp only[R0,k6];simp
    by_cases hz:i=w.n
    ·refine ifT (by simp;omega) (ifT (by omega) ?_);obtain⟨p1,p2⟩:=put (1#64 <<< i) _ (Nl i (by omega)) (fun b hb=>by rw[GN (by omega) hb,decide_eq_true_eq,e0];omega);exact hs (by omega) _ _ ⟨C4 (by omega),h1,p1,p2⟩
    ·refine ifF (by simp;omega) (hs (by omega) _ _ ⟨C4 (by omega),h1,keep fun b _=>?_,fun a ha=>c a (by omega)⟩);rw[e0];omega
   ·refine ifF (by simp[k6]) (hs (by omega) _ _ ⟨C4 (by omega),h1,keep fun b _=>?_,fun a ha=>c a (by omega)⟩);simp[R0,k0,k1,k2,k6]
  ·refine ifF (by simp;omega) ?_;have t0:TabR w.n (R0 w p) x1.g:=fun a ha=>l a (by omega);by_cases k3:p.Kind=3
   ·refine ifT (by simp[k3]) ?_;obtain⟨s,es,a8,a9⟩:=Ye (N:=M) hw (by omega);refine B7 es ?_;refine P9 (fun i (x3:Sl Int) x4=>x4=(i:Int)/\x3.n=w.n+1/\TabR w.n (ZN w.n (fun i=>PR w (p.L.g i)) i) x3.g) p.L.n _ (by omega) ⟨rfl,a8,a9.congr fun a b _ _=>Bi6⟩ ?_;rintro a2 j x3 x4 hj ⟨rfl,g1,g2⟩ m;by_cases a3:j<p.L.n
    ·obtain⟨t,et,b0,b1⟩:=ih j a3;refine ifT (by simp;omega) (ifT (by omega) (B7 (by rw[AZ1];exact et) ?_));obtain⟨f,ef,o,a4⟩:=Ql (N:=M) hw (by omega) g1 b0 g2 b1;exact B7 ef (m a3 _ _ ⟨C4 (by omega),o,a4⟩)
    ·obtain rfl:j=p.L.n:=by omega
     exact ifF (by simp) ⟨x3,rfl,g1,g2.congr fun a b _ _=>by rw[Lu];simp[k3]⟩
   refine ifF (by simp[k3]) ?_;by_cases k4:p.Kind=4
   ·refine ifT (by simp[k4]) ?_;refine P9 (fun i x3 x4=>x4=(i:Int)/\x3.n=w.n+1/\TabR w.n (fun a b=>∃q,q<i/\PR w (p.L.g q) a b) x3.g) p.L.n _ (by omega) ⟨rfl,h1,t0.congr fun a b _ _=>by simp[R0,k4]⟩ ?_;rintro a2 j x3 x4 hj ⟨rfl,g1,g2⟩ m;by_cases a3:j<p.L.n
    ·obtain⟨t,et,b0,b1⟩:=ih j a3;refine ifT (by simp;omega) (ifT (by omega) (B7 (by rw[AZ1];exact et) ?_));obtain⟨f,ef,o,a4⟩:=Yf (N:=M) hw (by omega) g1 b0 g2 b1;refine B7 ef (m a3 _ _ ⟨C4 (by omega),o,a4.congr fun a b _ _=>⟨?_,?_⟩⟩)
     ·rintro (⟨q,h1,l⟩ | h)
      ·exact⟨q,by omega,l⟩
      ·exact⟨j,by omega,h⟩
     ·rintro⟨q,h1,l⟩;by_cases e:q=j
      ·subst e;exact .inr l
      ·exact .inl ⟨q,by omega,l⟩
    ·obtain rfl:j=p.L.n:=by omega
     exact ifF (by simp) ⟨x3,rfl,g1,g2.congr fun a b _ _=>by rw[Lu];simp[k4]⟩
   refine ifF (by simp[k4]) ?_;by_cases k5:p.Kind=5
   ·obtain⟨hn1,hm0,hm1,hmx⟩:=h5 k5;refine ifT (by simp[k5]) (ifT (by omega) ?_);obtain⟨one,eo,ho1,ho2⟩:=ih 0 (by omega);obtain⟨s,es,a8,a9⟩:=Ye (N:=M) hw (by omega);refine B7 eo (B7 es ?_);have hF:=TV w (p.L.g 0);have fin:∀(t:Sl Int) (k:Nat),t.n=w.n+1->TabR w.n (fun a b=>∃j:Nat,p.Min<=j/\j<k/\HV w.n (PR w (p.L.g 0)) j a b) t.g ->
     (∀a b,a<=w.n->b<=w.n->((∃j:Nat,p.Min<=j/\j<k/\HV w.n (PR w (p.L.g 0)) j a b) ↔ ∃j:Nat,p.Min<=j/\(p.Max = -1 \/ (j:Int)<=p.Max)/\HV w.n (PR w (p.L.g 0)) j a b)) ->
     ∃r,some t=some r/\r.n=w.n+1/\TabR w.n (PR w p) r.g:=by
     intro t k e1 e2 e3;exact⟨t,rfl,e1,e2.congr fun a b ha hb=>(e3 a b ha hb).trans (by rw[Lu];simp[k5])⟩
    refine Un (fun k (x8 x9:Sl Int) b2=>b2=(k:Int)/\x8.n=w.n+1/\x9.n=w.n+1/\TabR w.n (fun a b=>∃j:Nat,p.Min<=j/\j<k/\HV w.n (PR w (p.L.g 0)) j a b) x8.g/\TabR w.n (HV w.n (PR w (p.L.g 0)) k) x9.g/\(p.Max = -1 \/ (k:Int)<=p.Max)) 33 _ (by omega)
     ⟨rfl,h1,a8,t0.congr fun a b _ _=>by simp[R0,k5],a9.congr fun a b _ _=>Bi6,by omega⟩ ?_
    rintro a2 k x8 x9 b2 hk ⟨rfl,g1,g2,g3,g4,g5⟩ m;obtain⟨f,ef,o,a4⟩:=Ql (N:=M) hw (by omega) g2 ho1 g4 ho2;have next:TabR w.n (HV w.n (PR w (p.L.g 0)) (k+1)) f.g:=a4
    by_cases u:p.Min<=(k:Int)
    ·refine ifT (by simpa using u) ?_;obtain⟨j,ej,a5,hj2⟩:=Yf (N:=M) hw (by omega) g1 g2 g3 g4;have a1:TabR w.n (fun a b=>∃j:Nat,p.Min<=j/\j<k+1/\HV w.n (PR w (p.L.g 0)) j a b) j.g:=hj2.congr fun a b _ _=>by
      constructor
      ·rintro (⟨q,h1,l,c⟩ | h)
       ·exact⟨q,h1,by omega,c⟩
       ·exact⟨k,u,by omega,h⟩
      ·rintro⟨q,h1,l,c⟩;by_cases e:q=k
       ·subst e;exact .inr c
       ·exact .inl ⟨q,h1,by omega,c⟩
     refine B7 ej (ltX ?_);by_cases a6:(k:Int)=p.Max
     ·refine ifT (by simp[a6]) (ifT rfl (fin j (k+1) a5 a1 fun a b _ _=>⟨?_,?_⟩))
      ·rintro⟨q,h1,l,c⟩;exact⟨q,h1,.inr (by omega),c⟩
      ·rintro⟨q,h1,l,c⟩;exact⟨q,h1,by omega,c⟩
     ·refine ifF (by simp[a6]) ?_;by_cases b3:p.Min<(k:Int)
      ·refine ifT (by simpa using b3) ?_;obtain⟨b,eb,hb⟩:=Al3 (N:=M) (x:=x8) (y:=j) hw (by omega) g1 a5;refine B7 eb ?_;by_cases a7:b=true
       ·refine ifT a7 (fin j (k+1) a5 a1 fun a b ha a0=>⟨?_,?_⟩)
        ·rintro⟨q,h1,l,c⟩;exact⟨q,h1,by omega,c⟩
        ·rintro⟨q,h1,l,c⟩;have heq:=hb.1 a7;obtain⟨q',k1,k2,k3⟩:=AE7 hF (mn:=p.Min.toNat) (k:=k) (by omega) (fun a b ha a0 hp=>by have e1:=a1.bit ha (b:=b) (by omega);have e2:=g3.bit ha (b:=b) (by omega);rw[<- heq a ha]at e1;obtain⟨_,q,k1,k2,k3⟩:=e2.1 (e1.2 ⟨a0,k,u,by omega,hp⟩);exact⟨q,by omega,k2,k3⟩) ha q b (by omega) c
         exact⟨q',by omega,by omega,k3⟩
       ·refine ifF a7 (B7 ef ?_);have b4:k<33:=by
         refine Nat.lt_of_le_of_ne hk fun e=>a7 (hb.2 fun a ha=>?_);subst e;refine g3.uniq (a1.congr fun a b ha a0=>⟨?_,?_⟩) ha
         ·rintro⟨q,h1,l,c⟩;by_cases e:q=33
          ·subst e;exact⟨32,by omega,by omega,TT hF ha hw c⟩
          ·exact⟨q,h1,by omega,c⟩
         ·rintro⟨q,h1,l,c⟩;exact⟨q,h1,by omega,c⟩
        exact m b4 _ _ _ ⟨C4 (by omega),a5,o,a1,next,by omega⟩
      ·refine ifF (by simpa using b3) (ifF (by simp) (B7 ef (m (by omega) _ _ _ ⟨C4 (by omega),a5,o,a1,next,by omega⟩)))
    ·refine ifF (by simpa using u) (B7 ef (m (by omega) _ _ _ ⟨C4 (by omega),g1,o,g3.congr fun a b _ _=>⟨?_,?_⟩,next,by omega⟩))
     ·rintro⟨q,h1,l,c⟩;omega
     ·rintro⟨q,h1,l,c⟩;omega
   ·refine ifF (by simp[k5]) ⟨x1,rfl,h1,t0.congr fun a b _ _=>?_⟩;rw[Lu];simp[R0,k3,k4,k5]
end Go.AM
namespace Go.AM
open IntKind (wrap)
open Go.Proofs
abbrev sOf (x y:BitVec 32):Sound:=⟨(x.toNat:Int),(y.toNat:Int)⟩
def okS (s:Sound):Prop:=∃p m:BitVec 32,s=sOf p m
theorem eq0 (x:BitVec 32):((x.toNat:Int)==0)=decide (x=0#32):=by
 rw[Bc4];simp only[beq_iff_eq,decide_eq_true_eq];constructor
 ·intro h;apply Bb9;show x.toNat=0;omega
 ·rintro rfl;rfl
theorem z32 (x:BitVec 32):x=0#32 ↔ ∀i,i<32->x.getLsbD i=false:=by
 constructor
 ·rintro rfl i a;simp
 ·intro h;apply Be5;intro i a;rw[h i a];simp
theorem JB {x y:BitVec 32}(h:∀b,b<32->x.getLsbD b=y.getLsbD b):x=y:=Be5 h
theorem Yg (x:BitVec 32)(i:Nat):(D2 .and .u32 (shI .shr .u32 (x.toNat:Int) (i:Int)) 1==1)=x.getLsbD i:=by
 rw[AD6,show (1:Int)=((1#32).toNat:Int) from rfl,Fq];have h:(x >>> i &&& 1#32)=(BitVec.ofBool (x.getLsbD i)).setWidth 32:=by
  apply Be5;intro j b;simp only[Ba4,Bn2,Bo3,Bp6];by_cases a:j=0
  ·subst a;simp
  ·have:(1#32).getLsbD j=false:=by rw[Bn3];simp[a]
   simp[this,a]
 rw[h];cases x.getLsbD i<;>rfl
theorem AM5 (i:Nat):shI .shl .u32 1 (i:Int)=((1#32 <<< i).toNat:Int):=by rw[show (1:Int)=((1#32).toNat:Int) from rfl,AT3]
theorem Al5 {i j:Nat}(a:j<32):(1#32 <<< i).getLsbD j=decide (j=i):=by
 rw[Bo0,Bn3];by_cases h:j=i
 ·subst h;simp[a]
 ·by_cases b:j<i
  ·simp[h,b]
  ·have:j-i≠0:=by omega
   simp[h,this]
theorem GZ (x:BitVec 32):x.toNat<16777216 ↔ ∀i,24<=i->i<32->x.getLsbD i=false:=by
 constructor
 ·intro h i a b;exact Bp0 (Bb2 h (Bi3 (n:=2) (i:=24) (by omega) a))
 ·intro h;refine Nat.lt_pow_two_of_testBit (n:=24) _ fun i a=>?_;by_cases c:i<32
  ·exact h i a c
  ·exact Bp0 (Bb2 x.isLt (Bi3 (by omega) (by omega)))
def vB (p m:BitVec 32):Bool:=decide (∀i:Fin 32,¬(p.getLsbD i=true/\m.getLsbD i=true)/\(24<=i.1->p.getLsbD i=false/\m.getLsbD i=false))
theorem Gd (p m:BitVec 32):vB p m=true ↔ ∀i,i<32->¬(p.getLsbD i=true/\m.getLsbD i=true)/\(24<=i->p.getLsbD i=false/\m.getLsbD i=false):=by rw[vB,decide_eq_true_eq];exact⟨fun h i a=>h ⟨i,a⟩,fun h i=>h i.1 i.2⟩
theorem Yh (p m:BitVec 32):p &&& m=0#32 ↔ ∀i,i<32->¬(p.getLsbD i=true/\m.getLsbD i=true):=by rw[z32];refine forall_congr' fun i=>forall_congr' fun a=>?_;rw[Ba4,Bp7];cases p.getLsbD i<;>cases m.getLsbD i<;>simp
theorem AX0 (p m:BitVec 32):vB p m=true↔p &&& m=0#32/\(p ||| m).toNat<16777216:=by
 rw[Gd,Yh,GZ];constructor
 ·intro h;refine⟨fun i a=>(h i a).1,fun i h1 b=>?_⟩
  have:=(h i b).2 h1
  rw[Ba6,this.1,this.2];rfl
 ·rintro⟨h1,b⟩ i a;refine⟨h1 i a,fun c=>?_⟩
  have:=b i c a
  rw[Ba6,Bi4]at this;exact this
theorem AX1 (p m:BitVec 32):vB p m=true↔p &&& m=0#32/\p.toNat<16777216/\m.toNat<16777216:=by rw[Gd,Yh,GZ,GZ];exact⟨fun h=>⟨fun i a=>(h i a).1,fun i h1 b=>((h i b).2 h1).1,fun i h1 b=>((h i b).2 h1).2⟩,fun⟨h1,b,d⟩ i a=>⟨h1 i a,fun c=>⟨b i c a,d i c a⟩⟩⟩
theorem BQ {N:Nat}(p m:BitVec 32):G7 N (sOf p m)=some (vB p m):=by unfold G7;rw[Fq,KE,eq0];congr 1;rw[Bc4,AX0];simp only[AZ6,decide_eq_true_eq];exact⟨fun h=>⟨h.1,by have:=h.2;omega⟩,fun h=>⟨h.1,by have:=h.2;omega⟩⟩
theorem shr24 (x:BitVec 32):(shI .shr .u32 (x.toNat:Int) 24==0)=decide (x.toNat<16777216):=by
 rw[show (24:Int)=((24:Nat):Int) from rfl,AD6,Bc4];simp only[beq_iff_eq,decide_eq_true_eq,Bk5,Bk2]
 have:=Bq8 (a:=x.toNat) (b:=2 ^ 24)
 omega
theorem Uo {N:Nat}(p m:BitVec 32):Bp N (sOf p m)=some (vB p m):=by unfold Bp;rw[Fq,KE,eq0,shr24];congr 1;rw[Bc4,AX0];simp only[AZ6,decide_eq_true_eq]
theorem Up {N:Nat}(p m:BitVec 32):O3 N (sOf p m)=some (vB p m):=Uo (N:=N) p m
theorem Qm {N:Nat}(p m:BitVec 32):R4 N (sOf p m)=some (vB p m):=by unfold R4;rw[Fq,eq0];congr 1;rw[Bc4,AX1];simp only[AZ6,decide_eq_true_eq];exact⟨fun h=>⟨h.1.1,by have:=h.1.2;omega,by have:=h.2;omega⟩,fun h=>⟨⟨h.1,by have:=h.2.1;omega⟩,by have:=h.2.2;omega⟩⟩
theorem An {N:Nat}(p m:BitVec 32)(n:1000<=N):I1 N (sOf p m)=some (vB p m):=by
 suffices h:∃r,I1 N (sOf p m)=some r/\r=vB p m by obtain⟨r,h,rfl⟩:=h;exact h
 unfold I1;refine Bk (fun i x1=>x1=(i:Int)/\∀j,j<i->¬(p.getLsbD j=true/\m.getLsbD j=true)/\(24<=j->p.getLsbD j=false/\m.getLsbD j=false)) 32 _ (by omega) ⟨rfl,fun j d=>absurd d (by omega)⟩ ?_;rintro g i x1 o ⟨rfl,h1⟩ hs;by_cases hl:i<32
 ·refine ifT (by simp;omega) (ifT (by omega) ?_);simp only[Yg];have e24:decide ((24:Int)<=(i:Int))=decide (24<=i):=decide_eq_decide.2 (by omega);rw[e24];by_cases hb:¬(p.getLsbD i=true/\m.getLsbD i=true)/\(24<=i->p.getLsbD i=false/\m.getLsbD i=false)
  ·refine ifF ?_ (hs hl _ ⟨C4 (by omega),fun j d=>?_⟩)
   ·intro h;obtain⟨l,f⟩:=hb;revert h l f;by_cases c:24<=i
    ·intro h l f;obtain⟨a,b⟩:=f c;simp[a,b]at h
    ·cases p.getLsbD i<;>cases m.getLsbD i<;>simp[c]
   ·by_cases e:j=i
    ·subst e;exact hb
    ·exact h1 j (by omega)
  ·refine ifT ?_ ⟨false,rfl,?_⟩
   ·revert hb;by_cases c:24<=i
    ·cases p.getLsbD i<;>cases m.getLsbD i<;>simp[c]
    ·cases p.getLsbD i<;>cases m.getLsbD i<;>simp[c]
   ·symm;rw[<- Bm1,Gd];exact fun h=>hb (h i hl)
 ·refine ifF (by simp;omega) ⟨true,rfl,?_⟩;symm;rw[Gd];exact fun j d=>h1 j (by omega)
def gB (p m:BitVec 32)(f:Nat):Int:=if p.getLsbD f then 1 else if m.getLsbD f then -1 else 0
theorem Yi {N:Nat}(p m:BitVec 32)(a:vB p m=true)(f:Nat)(c:f<24)(b:1000<=N):X6 N (sOf p m) (f:Int)=some (gB p m f):=by
 unfold X6;rw[An p m b];simp only[AZ4,lt,Da,Yg,gB,a];rw[if_pos (by omega:(0:Int)<=(f:Int)),if_pos (by omega:(0:Int)<=(f:Int))];have e:(decide ((0:Int)<=(f:Int))&&decide ((f:Int)<24))=true:=by simp;omega
 rw[e];cases h1:p.getLsbD f<;>cases d:m.getLsbD f<;>simp
theorem gB_eq {p m a b:BitVec 32}(g:vB p m=true)(c : vB a b=true)(f:Nat)(d:f<32):(gB a b f≠0->gB p m f=gB a b f)↔((a.getLsbD f=true->p.getLsbD f=true)/\(b.getLsbD f=true->m.getLsbD f=true)):=by have h1:=((Gd p m).1 g f d).1;have i:=((Gd a b).1 c f d).1;revert h1 i;simp only[gB];cases a.getLsbD f<;>cases b.getLsbD f<;>cases p.getLsbD f<;>cases m.getLsbD f<;>simp
def Ad7 (p m a b:BitVec 32):Bool:=vB p m&&(vB a b&&decide (∀i:Fin 32,(a.getLsbD i=true->p.getLsbD i=true)/\(b.getLsbD i=true->m.getLsbD i=true)))
theorem AM6 (a p:BitVec 32):a &&& ~~~ p=0#32 ↔ ∀i,i<32->(a.getLsbD i=true->p.getLsbD i=true):=by rw[z32];refine forall_congr' fun i=>forall_congr' fun b=>?_;rw[Ba4,Be0];cases a.getLsbD i<;>cases p.getLsbD i<;>simp[b]
theorem AM7 {N:Nat}(p m a b:BitVec 32):J4 N (sOf p m) (sOf a b)=some (Ad7 p m a b):=by
 unfold J4;rw[BQ];simp only[AZ4,lt,BQ,EM,eq0,Ad7];cases h1:vB p m
 ·simp
 cases d:vB a b
 ·simp
 simp only[if_true,Bk9];have key:(decide (∀i:Fin 32,(a.getLsbD i=true->p.getLsbD i=true)/\(b.getLsbD i=true->m.getLsbD i=true)))=(decide (a &&& ~~~ p=0#32)&&decide (b &&& ~~~ m=0#32)):=by rw[Bc4];simp only[AZ6,decide_eq_true_eq,AM6];exact⟨fun h=>⟨fun i c=>(h ⟨i,c⟩).1,fun i c=>(h ⟨i,c⟩).2⟩,fun h i=>⟨h.1 i.1 i.2,h.2 i.1 i.2⟩⟩
 rw[key];by_cases h:a &&& ~~~ p=0#32
 ·simp[h]
 ·simp[h]
theorem AM8 {N:Nat}(p m a b:BitVec 32)(f:1000<=N):P1 N (sOf p m) (sOf a b)=some (Ad7 p m a b):=by
 suffices h:∃r,P1 N (sOf p m) (sOf a b)=some r/\r=Ad7 p m a b by obtain⟨r,h,rfl⟩:=h;exact h
 unfold P1;rw[An p m f];refine B7 rfl (ltX ?_);cases h1:vB p m
 ·exact ifT (by simp) (ifT rfl ⟨false,rfl,by simp[Ad7,h1]⟩)
 refine ifF (by simp) ?_;rw[An a b f];refine B7 rfl ?_;cases c:vB a b
 ·exact ifT (by simp) ⟨false,rfl,by simp[Ad7,c]⟩
 refine ifF (by simp) ?_;refine Bk (fun i x3=>x3=(i:Int)/\∀j,j<i->((a.getLsbD j=true->p.getLsbD j=true)/\(b.getLsbD j=true->m.getLsbD j=true))) 24 _ (by omega) ⟨rfl,fun j n=>absurd n (by omega)⟩ ?_;rintro d i x3 q ⟨rfl,o⟩ hs;by_cases hl:i<24
 ·refine ifT (by simp;omega) (B7 (Yi a b c i hl f) (ltX ?_));have key:=gB_eq h1 c i (by omega);have fin:(¬(gB a b i≠0->gB p m i=gB a b i))->false=Ad7 p m a b:=fun hn=>by symm;simp only[Ad7,h1,c,Bk9];rw[<- Bm1,decide_eq_true_eq];intro h;exact hn (key.2 (h ⟨i,by omega⟩))
  have go:(gB a b i≠0->gB p m i=gB a b i)->∃r,d (wrap .i64 ((i:Int)+1))=some r/\r=Ad7 p m a b:=fun hp=>hs hl _ ⟨C4 (by omega),fun j n=>by
   by_cases e:j=i
   ·subst e;exact key.1 hp
   ·exact o j (by omega)⟩
  by_cases g:gB a b i=0
  ·exact ifF (by simp[g]) (ifF (by simp) (go fun h=>absurd g h))
  ·refine ifT (by simp[g]) (B7 (Yi p m h1 i hl f) ?_);by_cases l:gB p m i=gB a b i
   ·exact ifF (by simp[l]) (go fun _=>l)
   ·exact ifT (by simp[l]) ⟨false,rfl,fin fun h=>l (h g)⟩
 ·refine ifF (by simp;omega) ⟨true,rfl,?_⟩;symm;simp only[Ad7,h1,c,Bk9,decide_eq_true_eq];intro j;by_cases n:j.1<24
  ·exact o j.1 (by omega)
  ·have:=((Gd a b).1 c j.1 j.2).2 (by omega)
   exact⟨fun h=>by rw[this.1]at h;exact absurd h (by simp),fun h=>by rw[this.2]at h;exact absurd h (by simp)⟩
def Sk (x y s:BitVec 32):BitVec 32:=(x &&& ~~~ s) ||| (y &&& s)
theorem AE8 {N:Nat}(p m a b s:BitVec 32):Cb N (sOf p m) (sOf a b) (s.toNat:Int)=some (sOf (Sk p a s) (Sk m b s)):=by unfold Cb;simp only[EM,Fq,KE,Sk]
def AX2 (x:BitVec 32)(f:Nat)(on:Bool):BitVec 32:=if on then (x &&& ~~~ (1#32 <<< f)) ||| (1#32 <<< f)else x &&& ~~~ (1#32 <<< f)
theorem Hq (x:BitVec 32)(f:Nat)(on:Bool){j:Nat}(a:j<32):(AX2 x f on).getLsbD j=if j=f then on else x.getLsbD j:=by
 unfold AX2;cases on
 ·rw[if_neg (by simp),Ba4,Be0,Al5 a];by_cases e:j=f<;>simp[e,a]
 ·rw[if_pos rfl,Ba6,Ba4,Be0,Al5 a];by_cases e:j=f<;>simp[e,a]
theorem Al6 {N:Nat}(p m:BitVec 32)(f:Nat)(v:Int):Cz N (sOf p m) (f:Int) v=some (sOf (AX2 p f (v==1)) (AX2 m f (v == -1))):=by unfold Cz;rw[if_pos (by omega)];simp only[AM5,EM,KE];cases h1:v==1<;>cases a:v == -1<;>simp[AX2]
def Ay2 (p m c a b:BitVec 32):Sound×Int:=if vB p m=true/\vB a b then (if c.toNat<16777216/\c &&& (a ||| b)=0#32 then (sOf (Sk p a (c ||| (a ||| b))) (Sk m b (c ||| (a ||| b))),0)else (⟨0,0⟩,2))else (⟨0,0⟩,14)
theorem Aa5 {N:Nat}(p m c a b:BitVec 32):O2 N (sOf p m) (c.toNat:Int) (sOf a b)=some (Ay2 p m c a b):=by
 unfold O2 Ay2;rw[BQ];simp only[AZ4,lt,BQ,DH,KE,Fq,AE8];cases h1:vB p m
 ·simp
 cases g:vB a b
 ·simp
 by_cases d:c.toNat<16777216
 ·have e:((c &&& (a ||| b)).toNat:Int) != 0 ↔ ¬(c &&& (a ||| b)=0#32):=by
   have:=eq0 (c &&& (a ||| b))
   simp only[bne_iff_ne,ne_eq];rw[<- decide_eq_true_eq (p:=c &&& (a ||| b)=0#32),<- this];simp
  by_cases f:c &&& (a ||| b)=0#32
  ·simp[d,f];omega
  ·have e':=e.2 f;rw[if_neg (by simp<;>omega),e'];simp[d,f]
 ·simp[d];omega
theorem Aa6 {N:Nat}(p m c a b:BitVec 32)(t:1000<=N):Q6 N (sOf p m) (c.toNat:Int) (sOf a b)=some (Ay2 p m c a b):=by
 suffices h:∃r,Q6 N (sOf p m) (c.toNat:Int) (sOf a b)=some r/\r=Ay2 p m c a b by obtain⟨r,h,rfl⟩:=h;exact h
 unfold Q6;rw[An p m t];refine B7 rfl (ltX ?_);cases h1:vB p m
 ·exact ifT (by simp) (ifT rfl ⟨_,rfl,by simp[Ay2,h1]⟩)
 refine ifF (by simp) ?_;rw[An a b t];refine B7 rfl ?_;cases o:vB a b
 ·exact ifT (by simp) ⟨_,rfl,by simp[Ay2,o]⟩
 refine ifF (by simp) ?_;rw[KE,Fq];by_cases hc:c.toNat<16777216/\c &&& (a ||| b)=0#32
 ·obtain⟨q,n⟩:=hc;refine ifF (by rw[n];simp;omega) ?_;have y:∀j,j<32->¬(c.getLsbD j=true/\(a.getLsbD j=true \/ b.getLsbD j=true)):=fun j d=>by
   have:=(z32 _).1 n j d
   rw[Ba4,Ba6]at this;revert this;cases c.getLsbD j<;>cases a.getLsbD j<;>cases b.getLsbD j<;>simp
  refine Un (fun i x2 x3 x4=>x4=(i:Int)/\∃P M:BitVec 32,x2=(P.toNat:Int)/\x3=(M.toNat:Int)/\∀j,j<32 ->
   P.getLsbD j=(if j<i/\(c.getLsbD j=true \/ a.getLsbD j=true \/ b.getLsbD j=true)then a.getLsbD j else p.getLsbD j)/\M.getLsbD j=(if j<i/\(c.getLsbD j=true \/ a.getLsbD j=true \/ b.getLsbD j=true)then b.getLsbD j else m.getLsbD j)) 24 _ (by omega)
   ⟨rfl,p,m,rfl,rfl,fun j d=>by simp⟩ ?_
  rintro w i x2 x3 x4 hi ⟨rfl,P,M,rfl,rfl,f⟩ hs;by_cases hl:i<24
  ·refine ifT (by simp;omega) (ifT (by omega) ?_);rw[Yg];have u:=Yi (N:=N) a b o i hl t;have v:=((Gd a b).1 o i (by omega)).1;have z:=y i (by omega);by_cases l:c.getLsbD i=true
   ·refine ifT l (B7 (Al6 P M i 0) (B7 u ?_));have ea:a.getLsbD i=false:=by cases e:a.getLsbD i<;>simp_all
    have eb:b.getLsbD i=false:=by cases e:b.getLsbD i<;>simp_all
    refine ifF (by simp[gB,ea,eb]) (hs hl _ _ _ ⟨C4 (by omega),_,_,rfl,rfl,fun j d=>?_⟩);rw[Hq _ _ _ d,Hq _ _ _ d];by_cases e:j=i
    ·subst e;simp[l,ea,eb]
    ·have:=f j d
     have e2:j<i+1↔j<i:=by omega
     simp only[e,if_false,e2];exact this
   ·refine ifF l (B7 u ?_);by_cases s:gB a b i=0
    ·have ea:a.getLsbD i=false:=by revert s;simp only[gB];cases a.getLsbD i<;>simp
     have eb:b.getLsbD i=false:=by revert s;simp only[gB,ea];cases b.getLsbD i<;>simp
     refine ifF (by simp[s]) (hs hl _ _ _ ⟨C4 (by omega),P,M,rfl,rfl,fun j d=>?_⟩);by_cases e:j=i
     ·subst e;have:=f j d;simpa[l,ea,eb]using this
     ·have:=f j d
      have e2:j<i+1↔j<i:=by omega
      simp only[e2];exact this
    ·refine ifT (by simp[s]) (B7 u (B7 (Al6 P M i _) (hs hl _ _ _ ⟨C4 (by omega),_,_,rfl,rfl,fun j d=>?_⟩)));rw[Hq _ _ _ d,Hq _ _ _ d];by_cases e:j=i
     ·subst e;revert s v;simp only[gB];cases a.getLsbD j<;>cases b.getLsbD j<;>simp
     ·have:=f j d
      have e2:j<i+1↔j<i:=by omega
      simp only[e,if_false,e2];exact this
  ·obtain rfl:i=24:=by omega
   refine ifF (by simp) ⟨_,rfl,?_⟩;simp only[Ay2,h1,o,q,n,and_self,if_true];have hp:=(Gd p m).1 h1;have x:=(Gd a b).1 o;have a0:=(GZ c).1 q;have eP:P=Sk p a (c ||| (a ||| b)):=JB fun j d=>by
    rw[(f j d).1,Sk,Ba6,Ba4,Ba4,Be0,Ba6,Ba6];by_cases g:j<24
    ·cases c.getLsbD j<;>cases a.getLsbD j<;>cases b.getLsbD j<;>cases p.getLsbD j<;>simp[g,d]
    ·have g1:=(hp j d).2 (by omega);have g2:=(x j d).2 (by omega);simp[g,g1.1,g2.1]
   have eM:M=Sk m b (c ||| (a ||| b)):=JB fun j d=>by
    rw[(f j d).2,Sk,Ba6,Ba4,Ba4,Be0,Ba6,Ba6];by_cases g:j<24
    ·cases c.getLsbD j<;>cases a.getLsbD j<;>cases b.getLsbD j<;>cases m.getLsbD j<;>simp[g,d]
    ·have g1:=(hp j d).2 (by omega);have g2:=(x j d).2 (by omega);simp[g,g1.2,g2.2]
   rw[eP,eM]
 ·refine ifT ?_ ⟨_,rfl,?_⟩
  ·rw[Bb4,decide_eq_true_eq,bne_iff_ne];by_cases h:c.toNat<16777216
   ·right
    intro h0;exact hc ⟨h,Bb9 (by show _=0;omega)⟩
   ·left;omega
  ·simp only[Ay2,h1,o,and_self,if_true];rw[if_neg hc]
def Ay3 (p m a b s:BitVec 32):Sound×Int:=if vB p m=true/\vB a b then (if s.toNat<16777216 then (sOf (Sk p a s) (Sk m b s),0)else (⟨0,0⟩,2))else (⟨0,0⟩,14)
theorem Ay4 {N:Nat}(p m a b s:BitVec 32):T3 N (sOf p m) (sOf a b) (s.toNat:Int)=some (Ay3 p m a b s):=by
 unfold T3 Ay3;rw[BQ];simp only[AZ4,lt,BQ,AE8];cases h1:vB p m
 ·simp
 cases d:vB a b
 ·simp
 by_cases c:s.toNat<16777216
 ·simp[c];omega
 ·simp[c];omega
theorem Ay5 {N:Nat}(p m a b s:BitVec 32)(o:1000<=N):Ad N (sOf p m) (sOf a b) (s.toNat:Int)=some (Ay3 p m a b s):=by
 suffices h:∃r,Ad N (sOf p m) (sOf a b) (s.toNat:Int)=some r/\r=Ay3 p m a b s by obtain⟨r,h,rfl⟩:=h;exact h
 unfold Ad;rw[An p m o];refine B7 rfl (ltX ?_);cases h1:vB p m
 ·exact ifT (by simp) (ifT rfl ⟨_,rfl,by simp[Ay3,h1]⟩)
 refine ifF (by simp) ?_;rw[An a b o];refine B7 rfl ?_;cases l:vB a b
 ·exact ifT (by simp) ⟨_,rfl,by simp[Ay3,l]⟩
 refine ifF (by simp) ?_;by_cases hc:s.toNat<16777216
 ·refine ifF (by simp;omega) ?_;refine Un (fun i x2 x3 x4=>x4=(i:Int)/\∃P M:BitVec 32,x2=(P.toNat:Int)/\x3=(M.toNat:Int)/\∀j,j<32 ->
   P.getLsbD j=(if j<i/\s.getLsbD j then a.getLsbD j else p.getLsbD j)/\M.getLsbD j=(if j<i/\s.getLsbD j then b.getLsbD j else m.getLsbD j)) 24 _ (by omega)
   ⟨rfl,p,m,rfl,rfl,fun j c=>by simp⟩ ?_
  rintro t i x2 x3 x4 u ⟨rfl,P,M,rfl,rfl,d⟩ hs;by_cases hl:i<24
  ·refine ifT (by simp;omega) (ifT (by omega) ?_);rw[Yg];have q:=((Gd a b).1 l i (by omega)).1;by_cases g:s.getLsbD i=true
   ·refine ifT g (B7 (Yi (N:=N) a b l i hl o) (B7 (Al6 P M i _) (hs hl _ _ _ ⟨C4 (by omega),_,_,rfl,rfl,fun j c=>?_⟩)));rw[Hq _ _ _ c,Hq _ _ _ c];by_cases e:j=i
    ·subst e;revert q;simp only[gB,g];cases a.getLsbD j<;>cases b.getLsbD j<;>simp
    ·have:=d j c
     have e2:j<i+1↔j<i:=by omega
     simp only[e,if_false,e2];exact this
   ·refine ifF g (hs hl _ _ _ ⟨C4 (by omega),P,M,rfl,rfl,fun j c=>?_⟩);by_cases e:j=i
    ·subst e;have:=d j c;simpa[g]using this
    ·have:=d j c
     have e2:j<i+1↔j<i:=by omega
     simp only[e2];exact this
  ·obtain rfl:i=24:=by omega
   refine ifF (by simp) ⟨_,rfl,?_⟩;simp only[Ay3,h1,l,hc,and_self,if_true];have n:=(GZ s).1 hc;have eP:P=Sk p a s:=JB fun j c=>by
    rw[(d j c).1,Sk,Ba6,Ba4,Ba4,Be0];by_cases f:j<24
    ·cases s.getLsbD j<;>cases a.getLsbD j<;>cases p.getLsbD j<;>simp[f,c]
    ·rw[if_neg (by simp[f]),n j (by omega) c];simp[c]
   have eM:M=Sk m b s:=JB fun j c=>by
    rw[(d j c).2,Sk,Ba6,Ba4,Ba4,Be0];by_cases f:j<24
    ·cases s.getLsbD j<;>cases b.getLsbD j<;>cases m.getLsbD j<;>simp[f,c]
    ·rw[if_neg (by simp[f]),n j (by omega) c];simp[c]
   rw[eP,eM]
 ·exact ifT (by simp;omega) ⟨_,rfl,by simp[Ay3,h1,l,hc]⟩
end Go.AM
namespace Go.AM
open Go.Proofs
def vS (s:Sound):Prop:=∃p m:BitVec 32,s=sOf p m/\vB p m=true
def Hx (p:Pat):Prop:=
 (0<=p.Kind/\p.Kind<=6)/\(p.Kind≠1->(p.Is.Plus=0/\p.Is.Minus=0)/\p.Not=false)/\(p.Kind≠3->p.Kind≠4->p.Kind≠5->p.L.n=0)/\(p.Kind≠5->p.Min=0/\p.Max=0) /\
 (p.Kind=5->p.L.n=1/\0<=p.Min/\p.Min<=32/\(p.Max = -1 \/ (p.Min<=p.Max/\p.Max<=32)))/\vS p.Is
theorem WO {s:Sound}{p m:BitVec 32}(h:s=sOf p m):vS s↔vB p m=true:=by
 constructor
 ·rintro⟨q,r,e,a⟩;rw[h]at e;have e1:(p.toNat:Int)=q.toNat:=congrArg Sound.Plus e;have e2:(m.toNat:Int)=r.toNat:=congrArg Sound.Minus e;rw[Bb9 (show p.toNat=q.toNat by omega),Bb9 (show m.toNat=r.toNat by omega)];exact a
 ·exact fun a=>⟨p,m,h,a⟩
def okPS:Pat->Prop
 |.nil=>True
 |.mk _ is _ _ _ n g=>okS is/\∀i,i<n->okPS (g i)
theorem okPS.is {p:Pat}(h:okPS p):okS p.Is:=by
 cases p with
 |nil=>exact⟨0#32,0#32,rfl⟩
 |mk _ is _ _ _ n g=>exact h.1
theorem okPS.L {p:Pat}(h:okPS p){i:Nat}(a:i<p.L.n):okPS (p.L.g i):=by
 cases p with
 |nil=>exact absurd a (by show ¬i<0;omega)
 |mk _ is _ _ _ n g=>exact h.2 i a
def chk:Nat->List Pat->Prop
 |0,l=>l=[]
 |_+1,[]=>True
 |k+1,p::l=>Hx p/\chk k (p.L.toList++l)
theorem Al7:∀k,chk k []
 |0=>rfl
 |_+1=>trivial
theorem NI:∀(k:Nat) (l:List Pat),chk k l->l.length<=k
 |0,l,h=>by rw[show l=[] from h];exact AZ7 _
 |k+1,[],_=>Bh1 _
 |k+1,p::l,⟨_,h⟩=>by
  have:=NI k _ h
  rw[Ba7]at this;simp only[Bc6];omega
theorem Yj:∀(d:Nat) (p:Pat),okP d p->okP (d+1) p
 |0,_,h=>h.elim
 |d+1,p,⟨h1,h2,h3⟩=>⟨h1,h2,fun i a=>Yj d _ (h3 i a)⟩
theorem Qn {α : Type}{s:Sl α}{i:Nat}(h:i<s.n):s.g i∈s.toList:=Bh8.2 ⟨i,Bf4.2 h,rfl⟩
theorem Dq {α : Type}(s:Sl α):s.toList.length=s.n:=by simp[Sl.toList]
theorem NJ:∀(k:Nat) (l:List Pat),k<=40->chk k l->∀p∈l,okP k p
 |0,l,_,h,p,hp=>by rw[show l=[] from h]at hp;cases hp
 |k+1,[],_,_,p,hp=>by cases hp
 |k+1,q::l,hk,⟨hn,h⟩,p,hp=>by
  have ih:=NJ k _ (by omega) h;rcases Bc8.1 hp with rfl|hp
  ·have hl:=NI k _ h;rw[Ba7,Dq]at hl;exact⟨by omega,fun a=>hn.2.2.2.2.1 a,fun i b=>ih _ (Bb7 _ (Qn b))⟩
  ·exact Yj k p (ih p (Ba5 _ hp))
theorem Ay6 {N:Nat}{p:Pat}(hp:okS p.Is):∃e,EU N p=some e/\(e=0↔Hx p):=by
 obtain⟨a,b,f⟩:=hp;have i:=WO f;unfold EU Hx;by_cases h1:0<=p.Kind/\p.Kind<=6
 case neg=>exact ifT (by simp;omega) ⟨2,rfl,by simp;omega⟩
 refine ifF (by simp;omega) ?_;have e0:((p.Is.Plus==0)&&(p.Is.Minus==0))=decide (p.Is.Plus=0/\p.Is.Minus=0):=by rw[Bc4];simp
 rw[e0];by_cases c:p.Kind≠1->(p.Is.Plus=0/\p.Is.Minus=0)/\p.Not=false
 case neg=>
  refine ifT ?_ ⟨2,rfl,by simp[c]⟩;simp only[AZ6,Bb4,bne_iff_ne,ne_eq,Bm1,decide_eq_false_iff_not];rw[Classical.not_imp]at c;refine⟨c.1,?_⟩;by_cases h:p.Is.Plus=0/\p.Is.Minus=0
  ·right
   cases hn:p.Not
   ·exact absurd ⟨h,hn⟩ c.2
   ·rfl
  ·exact .inl h
 refine ifF ?_ (ltX ?_)
 ·simp only[AZ6,Bb4,bne_iff_ne,ne_eq,Bm1,decide_eq_false_iff_not];rintro⟨g1,g2⟩;obtain⟨g3,g4⟩:=c g1;rcases g2 with g2|g2
  ·exact g2 g3
  ·rw[g4]at g2;cases g2
 have rest:(p.Kind≠3->p.Kind≠4->p.Kind≠5->p.L.n=0)->∃e,(if ((p.Kind != 5)&&((p.Min != 0)||(p.Max != 0))) then some (2:Int)else
  lt (fun (z2:Bool)=>if z2 then some 2 else (R4 N p.Is).bind fun y1=>if (!y1) then some 14 else some 0) fun k2=>
   if (p.Kind==5) then if (((p.L.n:Nat):Int) != 1) then k2 true else if (decide (p.Min<0)) then k2 true else if (decide (32<p.Min)) then k2 true else
    if (p.Max != (-1)) then if (decide (p.Max<p.Min)) then k2 true else k2 (decide (32<p.Max))else k2 false else k2 false)=some e /\
  (e=0↔(0<=p.Kind/\p.Kind<=6)/\(p.Kind≠1->(p.Is.Plus=0/\p.Is.Minus=0)/\p.Not=false)/\(p.Kind≠3->p.Kind≠4->p.Kind≠5->p.L.n=0)/\(p.Kind≠5->p.Min=0/\p.Max=0) /\
   (p.Kind=5->p.L.n=1/\0<=p.Min/\p.Min<=32/\(p.Max = -1 \/ (p.Min<=p.Max/\p.Max<=32)))/\vS p.Is):=by
  intro j;by_cases d:p.Kind≠5->p.Min=0/\p.Max=0
  case neg=>refine ifT ?_ ⟨2,rfl,by simp[d]⟩;rw[Classical.not_imp]at d;simp only[AZ6,Bb4,bne_iff_ne,ne_eq];omega
  refine ifF ?_ (ltX ?_)
  ·simp only[AZ6,Bb4,bne_iff_ne,ne_eq];rintro⟨g1,g2⟩
   have:=d g1
   omega
  have last:(p.Kind=5->p.L.n=1/\0<=p.Min/\p.Min<=32/\(p.Max = -1 \/ (p.Min<=p.Max/\p.Max<=32)))->∃e,(if false then some (2:Int)else (R4 N p.Is).bind fun y1=>if (!y1) then some 14 else some 0)=some e /\
   (e=0↔(0<=p.Kind/\p.Kind<=6)/\(p.Kind≠1->(p.Is.Plus=0/\p.Is.Minus=0)/\p.Not=false)/\(p.Kind≠3->p.Kind≠4->p.Kind≠5->p.L.n=0)/\(p.Kind≠5->p.Min=0/\p.Max=0) /\
    (p.Kind=5->p.L.n=1/\0<=p.Min/\p.Min<=32/\(p.Max = -1 \/ (p.Min<=p.Max/\p.Max<=32)))/\vS p.Is):=by
   intro g;refine ifF (by simp) ?_;rw[i,f,Qm];refine B7 rfl ?_;cases l:vB a b
   ·exact ifT rfl ⟨14,rfl,by simp⟩
   ·exact ifF (by simp) ⟨0,rfl,by rw[<- f];exact⟨fun _=>⟨h1,c,j,d,g,rfl⟩,fun _=>rfl⟩⟩
  have bad:¬(p.Kind=5->p.L.n=1/\0<=p.Min/\p.Min<=32/\(p.Max = -1 \/ (p.Min<=p.Max/\p.Max<=32)))->∃e,(if true then some (2:Int)else (R4 N p.Is).bind fun y1=>if (!y1) then some 14 else some 0)=some e /\
   (e=0↔(0<=p.Kind/\p.Kind<=6)/\(p.Kind≠1->(p.Is.Plus=0/\p.Is.Minus=0)/\p.Not=false)/\(p.Kind≠3->p.Kind≠4->p.Kind≠5->p.L.n=0)/\(p.Kind≠5->p.Min=0/\p.Max=0) /\
    (p.Kind=5->p.L.n=1/\0<=p.Min/\p.Min<=32/\(p.Max = -1 \/ (p.Min<=p.Max/\p.Max<=32)))/\vS p.Is):=fun g=>ifT rfl ⟨2,rfl,⟨fun h=>absurd h (by decide),fun h=>absurd h.2.2.2.2.1 g⟩⟩
  by_cases k5:p.Kind=5
  ·refine ifT (by simp[k5]) ?_;by_cases g1:p.L.n=1
   case neg=>exact ifT (by simp;omega) (bad fun h=>g1 (h k5).1)
   refine ifF (by simp;omega) ?_;by_cases g2:p.Min<0
   ·exact ifT (by simpa using g2) (bad fun h=>by have:=h k5;omega)
   refine ifF (by simpa using g2) ?_;by_cases g3:32<p.Min
   ·exact ifT (by simpa using g3) (bad fun h=>by have:=h k5;omega)
   refine ifF (by simpa using g3) ?_;by_cases g4:p.Max = -1
   ·exact ifF (by simp[g4]) (last fun _=>⟨g1,by omega,by omega,.inl g4⟩)
   refine ifT (by simp[g4]) ?_;by_cases g5:p.Max<p.Min
   ·exact ifT (by simpa using g5) (bad fun h=>by have:=h k5;omega)
   refine ifF (by simpa using g5) ?_;by_cases g6:32<p.Max
   ·rw[decide_eq_true g6];exact bad fun h=>by have:=h k5;omega
   ·rw[decide_eq_false g6];exact last fun _=>⟨g1,by omega,by omega,.inr ⟨by omega,by omega⟩⟩
  ·exact ifF (by simp[k5]) (last fun h=>absurd h k5)
 by_cases k3:p.Kind=3
 ·exact ifF (by simp[k3]) (ifF (by simp) (rest fun h=>absurd k3 h))
 refine ifT (by simp[k3]) ?_;by_cases k4:p.Kind=4
 ·exact ifF (by simp[k4]) (ifF (by simp) (rest fun _ h=>absurd k4 h))
 refine ifT (by simp[k4]) ?_;by_cases k5:p.Kind=5
 ·exact ifF (by simp[k5]) (ifF (by simp) (rest fun _ _ h=>absurd k5 h))
 refine ifT (by simp[k5]) ?_;by_cases hn:p.L.n=0
 ·exact ifF (by simp;omega) (rest fun _ _ _=>hn)
 ·exact ifT (by simp;omega) ⟨2,rfl,⟨fun h=>absurd h (by decide),fun h=>absurd (h.2.2.1 k3 k4 k5) hn⟩⟩
theorem FN {α : Type}(s:Sl α){i:Nat}(h:i<s.n):s.toList.drop i=s.g i::s.toList.drop (i+1):=by
 have hl:i<s.toList.length:=by rw[Dq];exact h
 rw[Bk0 hl];simp[Sl.toList]
theorem DX {α : Type}(s:Sl α):s.toList.drop s.n=[]:=Bg1 (by rw[Dq];exact AZ7 _)
theorem Al8 {N:Nat}(o:1000<=N):∀(d:Nat),d<=40->∀(p:Pat),okPS p->∀M,N+d+1<=M->∃r,Dj M p ((40-d:Nat):Int)=some r /\
 ∃k:Nat,r.1=(k:Int)/\40-d<=k/\k<=40/\(r.2=0->40-d<k/\∀l,chk d (p::l)↔chk (40-k) l)/\(r.2≠0->∀l,¬chk d (p::l))
 |d,hd,p,hp,0,hM=>by omega
 |0,hd,p,hp,M+1,hM=>by show ∃r,Y1 (Dj M) M p _=some r/\_;unfold Y1;exact ifT (by simp) ⟨_,rfl,40,rfl,by omega,by omega,fun h=>absurd h (by decide),fun _ l h=>by cases h⟩
 |d+1,hd,p,hp,M+1,hM=>by
  show ∃r,Y1 (Dj M) M p _=some r/\_;unfold Y1;refine ifF (by simp;omega) ?_;obtain⟨e,q,hn⟩:=Ay6 (N:=M) hp.is;refine B7 q ?_;by_cases c:e=0
  case neg=>exact ifT (by simp[c]) ⟨_,rfl,40-(d+1),rfl,AZ7 _,by omega,fun h=>absurd h c,fun _ l h=>c (hn.2 h.1)⟩
  refine ifF (by simp[c]) ?_;have a:=hn.1 c;rw[C4 (by omega)];refine P9 (fun i x1 x2=>x2=(i:Int)/\∃k:Nat,x1=(k:Int)/\40-(d+1)+1+i<=k/\k<=40/\i<=p.L.n/\∀l,chk (d+1) (p::l)↔chk (40-k) (p.L.toList.drop i++l)) 41 _ (by omega)
   ⟨rfl,40-(d+1)+1,rfl,by omega,by omega,by omega,fun l=>by rw[show 40-(40-(d+1)+1)=d by omega];exact⟨fun h=>h.2,fun h=>⟨a,h⟩⟩⟩ ?_
  rintro j i x1 x2 t ⟨rfl,k,rfl,h1,s,u,f⟩ hs;by_cases hl:i<p.L.n
  ·refine ifT (by simp;omega) (ifT (by omega) ?_);obtain⟨r,m,k',r1,r2,r3,r4,r5⟩:=Al8 o (40-k) (by omega) (p.L.g i) (hp.L hl) M (by omega);rw[show ((40-(40-k):Nat):Int)=(k:Int) by omega]at m;refine B7 (by rw[AZ1];exact m) ?_;by_cases b:r.2=0
   ·refine ifF (by simp[b]) (hs (by omega) _ _ ⟨C4 (by omega),k',r1,by have:=(r4 b).1;omega,r3,by omega,fun l=>?_⟩);rw[f,FN _ hl,Bd2];exact (r4 b).2 _
   ·refine ifT (by simp[b]) ⟨_,rfl,k',r1,by omega,r3,fun h=>absurd h b,fun _ l hc=>?_⟩;rw[f,FN _ hl,Bd2]at hc;exact r5 b _ hc
  ·obtain rfl:i=p.L.n:=by omega
   refine ifF (by simp) ⟨_,rfl,k,rfl,by omega,s,fun _=>⟨by omega,fun l=>?_⟩,fun h=>absurd rfl h⟩;rw[f,DX];rfl
theorem NK {N:Nat}(f:2000<=N){p:Pat}(hp:okPS p):∃e,Bf N p=some e/\(e=0↔chk 40 [p]):=by
 obtain⟨r,b,k,h1,g,i,c,d⟩:=Al8 (N:=1500) (by omega) 40 (AZ7 _) p hp N (by omega);unfold Bf;refine B7 b ⟨_,rfl,fun h=>?_,fun h=>?_⟩
 ·exact ((c h).2 []).2 (Al7 _)
 ·by_cases a:r.2=0
  ·exact a
  ·exact absurd h (d a [])
end Go.AM
namespace Go.AM
open Go.Proofs
theorem Al9 (x:BitVec 64)(h:x≠0#64):Lib.ctz 64 x.toNat<64/\x.getLsbD (Lib.ctz 64 x.toNat)=true/\∀j,j<Lib.ctz 64 x.toNat->x.getLsbD j=false:=by
 have b:x.toNat≠0:=fun e=>h (Bb9 (by simpa using e));obtain⟨m,hm,a⟩:=Lib.ctzFrom_spec 64 x.toNat (by omega) x.isLt;have e:Lib.ctz 64 x.toNat=Lib.ctzFrom 64 x.toNat:=by unfold Lib.ctz;rw[if_neg b]
 rw[e];refine⟨a,?_,fun j c=>?_⟩
 ·show x.toNat.testBit _=true;rw[hm,Bh2];simp[<- hm,Bo7]
 ·show x.toNat.testBit _=false;rw[hm,Bh2];simp[<- hm];omega
def FO (x:BitVec 64)(i:Nat):List Int:=((List.range' i (64-i)).filter fun j=>x.getLsbD j).map fun (j:Nat)=>(j:Int)
theorem Kk {x:BitVec 64}{i:Nat}(h:∀j,j<64->x.getLsbD j=false):FO x i=[]:=by
 unfold FO;rw[Bp1.2 fun j a=>by
  have:=List.mem_range'.1 a
  simp;exact h j (by omega)]
 rfl
theorem Qo {x:BitVec 64}{t:Nat}:∀(k i:Nat),t=i+k->t<64->x.getLsbD t=true->(∀j,j<t->x.getLsbD j=false)->FO x i=(t:Int)::FO x (t+1)
 |0,i,h,ht,hb,hl=>by
  obtain rfl:t=i:=by omega
  unfold FO;rw[show 64-t=(64-(t+1))+1 by omega,Bk3,Bo4 hb];rfl
 |k+1,i,h,ht,hb,hl=>by rw[<- Qo k (i+1) (by omega) ht hb hl];unfold FO;rw[show 64-i=(64-(i+1))+1 by omega,Bk3,Bo5 (by simp;exact hl i (by omega))]
theorem WQ {x y:BitVec 64}{i:Nat}(h:∀j,i<=j->x.getLsbD j=y.getLsbD j):FO x i=FO y i:=by unfold FO;rw[List.filter_congr fun j a=>h j (by have:=List.mem_range'.1 a;omega)]
def AY7 (M:Nat)(a:Int->Option (List Int))(x1:Int):Option (List Int):=
 if (x1 != 0) then
  (F1 M x1).bind fun y3=>
  if (0:Int)<=y3 then
   Ap y3 (
    a (D2 .andNot .u64 x1 (shI .shl .u64 1 y3))
    )
  else none
 else
  some []
theorem Am0 {x:BitVec 64}{M:Nat}{a:Int->Option (List Int)}(hx:x≠0#64):AY7 M a (U x)=Ap ((Lib.ctz 64 x.toNat:Nat):Int) (a (U (x &&& ~~~(1#64 <<< Lib.ctz 64 x.toNat)))):=by
 have c:x.toNat≠0:=fun e=>hx (Bb9 (by simpa using e));have b:=x.isLt;unfold AY7;rw[if_pos (by simp;omega)]
 have:F1 M (U x)=some ((Lib.ctz 64 x.toNat:Nat):Int):=by unfold F1;rw[if_pos ⟨show (0:Int)<=(x.toNat:Int) by omega,show (x.toNat:Int)<18446744073709551616 by omega⟩];rfl
 rw[this,AZ4,if_pos (by omega),Nl _ (Al9 x hx).1,Ax3]
theorem Uq {M:Nat}{a:Int->Option (List Int)}:AY7 M a (U 0#64)=some []:=rfl
theorem AM9 (M:Nat):∀(k i:Nat) (x:BitVec 64),64-i<=k->(∀j,j<i->x.getLsbD j=false)->∀N,k<N->W6 N (AY7 M) (U x)=some (FO x i):=by
 intro k
 induction k with
 |zero=>
  intro i x hk hl N b;have g:x=0#64:=Be5 fun j a=>by simp;exact hl j (by omega)
  subst g
  match N,b with
  |N+1,_=>rw[Kk fun j a=>by simp,BB,Uq]
 |succ k ih=>
  intro i x hk hl N b
  match N,b with
  |N+1,b=>
   by_cases hx:x=0#64
   ·subst hx;rw[Kk fun j a=>by simp,BB,Uq]
   ·obtain⟨h1,c,d⟩:=Al9 x hx;have l:i<=Lib.ctz 64 x.toNat:=by
     by_cases m:Lib.ctz 64 x.toNat<i
     ·rw[hl _ m]at c;cases c
     ·omega
    rw[Qo (Lib.ctz 64 x.toNat-i) i (by omega) h1 c d,BB,Am0 hx];generalize Lib.ctz 64 x.toNat=t at h1 c d l;have hb:∀j,j<64->(x &&& ~~~(1#64 <<< t)).getLsbD j=(x.getLsbD j && !decide (j=t)):=fun j a=>by rw[Ba4,Be0,GN h1 a];simp[a]
    have hc:FO x (t+1)=FO (x &&& ~~~(1#64 <<< t)) (t+1):=WQ fun j a=>by
     by_cases f:j<64
     ·rw[hb j f];have:¬j=t:=by omega
      simp[this]
     ·rw[Bq2 _ _ (by omega),Bq2 _ _ (by omega)]
    rw[ih (t+1) (x &&& ~~~(1#64 <<< t)) (by omega) (fun j a=>by
     rw[hb j (by omega)];by_cases e:j=t
     ·simp[e]
     ·rw[d j (by omega)];rfl) N (by omega),<- hc]
    rfl
theorem Iw (x:BitVec 64){N:Nat}(b:100<=N):Q1 N (U x)=some (FO x 0):=
 AM9 N 64 0 x (by omega) (fun j a=>absurd a (by omega)) N (by omega)
theorem mem_bitsF {x:BitVec 64}{i:Nat}{y:Int}:y∈FO x i ↔ ∃j:Nat,y=(j:Int)/\i<=j/\j<64/\x.getLsbD j=true:=by
 unfold FO;simp only[Bh8,Bl1,Bo1];constructor
 ·rintro⟨j,⟨h1,a⟩,rfl⟩;exact⟨j,rfl,h1.1,by omega,a⟩
 ·rintro⟨j,rfl,h1,a,b⟩;exact⟨j,⟨⟨h1,by omega⟩,b⟩,rfl⟩
theorem Ay7 {T A R:Type}{body:(A->Option R)->T->A->Option R}{k:A->Option R}{J8:R->Prop}(J:List T->A->Prop)(c:∀a,J [] a->∃r,k a=some r/\J8 r)
 (b:∀t L a self,J (t::L) a->(∀a',J L a' -> ∃r,self a' = some r/\J8 r)->∃r,body self t a=some r/\J8 r):∀(L:List T) (a:A),J L a->∃r,P7 L body k a=some r/\J8 r
 |[],a,h=>c a h
 |t::L,a,h=>b t L a _ h fun a' h'=>Ay7 J c b L a' h'
def TabA (n:Nat)(R:Nat->Nat->Prop)(f:Nat->Int):Prop:=TabR n R f/\∀a,n<a->f a=0
theorem TabA.congr {n:Nat}{R R' : Nat->Nat->Prop}{f:Nat->Int}(h:TabA n R f)(c:∀a b,a<=n->b<=n->(R a b↔R' a b)):TabA n R' f:=⟨h.1.congr c,h.2⟩
theorem zeroA (n:Nat):TabA n (fun _ _=>False) (fun _=>0):=⟨Ay1 fun _ _=>rfl,fun _ _=>rfl⟩
theorem Em (f:Nat->Int)(i:Nat)(v:Int)(a:Nat):KH f i v a=if a=i then v else f a:=rfl
theorem AE9 {N n:Nat}{R S:Nat->Nat->Prop}{x y:Nat->Int}(hn:n<=32)(f:1000<=N)(hR:TabA n R x)(hS:TabA n S y) :∃s,M0 N x y=some s/\TabA n (fun a b=>R a b \/ S a b) s:=by
 unfold M0;refine P9 (fun i x1 x2=>x2=(i:Int)/\∀a,x1 a=if a<i then D2 .or .u64 (x a) (y a)else x a) 33 _ (by omega) ⟨rfl,fun a=>by rw[if_neg (by omega)]⟩ ?_;rintro d i x1 x2 g ⟨rfl,c⟩ hs;by_cases hl:i<33
 ·refine ifT (by simp;omega) (ifT (by omega) (ifT (by omega) (hs (by omega) _ _ ⟨C4 (by omega),fun a=>?_⟩)));rw[Em,AZ1,Bc7,Bf0];by_cases e:a=i
  ·subst e;rw[if_pos rfl,if_pos (by omega),c a,if_neg (by omega)]
  ·rw[if_neg e,c a];by_cases e2:a<i
   ·rw[if_pos e2,if_pos (by omega)]
   ·rw[if_neg e2,if_neg (by omega)]
 ·refine ifF (by simp;omega) ⟨x1,rfl,fun a ha=>?_,fun a ha=>?_⟩
  ·obtain⟨u,e1,g1⟩:=hR.1 a ha;obtain⟨v,e2,g2⟩:=hS.1 a ha;refine⟨u ||| v,by rw[c a,if_pos (by omega),e1,e2,AL9],fun b hb=>?_⟩;rw[Ba6,Bb4,g1 b hb,g2 b hb];constructor
   ·rintro (⟨h1,c⟩ | ⟨h1,c⟩)
    ·exact⟨h1,.inl c⟩
    ·exact⟨h1,.inr c⟩
   ·rintro⟨h1,c|c⟩
    ·exact .inl ⟨h1,c⟩
    ·exact .inr ⟨h1,c⟩
  ·rw[c a];split
   ·rw[hR.2 a ha,hS.2 a ha];rfl
   ·exact hR.2 a ha
theorem Ha {N n:Nat}(hn:n<=32)(f:1000<=N):∃s,P2 N (n:Int)=some s/\TabA n (fun a b=>a=b) s:=by
 unfold P2;rw[C4 (by omega)];refine P9 (fun i x1 x2=>x2=(i:Int)/\∀a,x1 a=if a<i then U (1#64 <<< a)else 0) (n+1) _ (by omega) ⟨rfl,fun a=>rfl⟩ ?_;rintro d i x1 x2 g ⟨rfl,c⟩ hs;by_cases hl:i<=n
 ·refine ifT (by simp;omega) (ifT (by omega) (hs (by omega) _ _ ⟨C4 (by omega),fun a=>?_⟩));rw[Em,AZ1,Bc7,Bf0];by_cases e:a=i
  ·subst e;rw[if_pos rfl,if_pos (by omega),Nl _ (by omega)]
  ·rw[if_neg e,c a];by_cases e2:a<i
   ·rw[if_pos e2,if_pos (by omega)]
   ·rw[if_neg e2,if_neg (by omega)]
 ·refine ifF (by simp;omega) ⟨x1,rfl,fun a ha=>⟨1#64 <<< a,by rw[c a,if_pos (by omega)],fun b hb=>?_⟩,fun a ha=>by rw[c a,if_neg (by omega)]⟩;rw[GN (by omega) hb,decide_eq_true_eq];omega
theorem LG {N n:Nat}{R S:Nat->Nat->Prop}{x y:Nat->Int}(hn:n<=32)(hN:1000<=N)(hR:TabA n R x)(hS:TabA n S y) :∃s,E4 N x y=some s/\TabA n (fun a b=>∃c,c<=n/\R a c/\S c b) s:=by
 unfold E4;refine P9 (fun i x3 x4=>x4=(i:Int)/\(∀a,a<i->a<=n->∃z:BitVec 64,x3 a=U z/\∀b,b<64->(z.getLsbD b=true↔b<=n/\∃c,c<=n/\R a c/\S c b))/\∀a,i<=a \/ n<a->x3 a=0) 33 _ (by omega)
  ⟨rfl,fun a ha=>absurd ha (by omega),fun a _=>rfl⟩ ?_
 rintro a1 i x3 x4 hi ⟨rfl,q,m⟩ hs;by_cases hl:i<33
 ·refine ifT (by simp;omega) (ifT (by omega) ?_);rw[AZ1,Bc7,Bf0];refine B7 (x:=x i) rfl ?_;by_cases r:i<=n
  ·obtain⟨u,e1,g1⟩:=hR.1 i r;refine B7 (x:=FO u 0) (by rw[e1];exact Iw u (by omega)) ?_;refine Ay7 (fun L z=>(∀a,a≠i->z a=x3 a)/\(∀t∈L,∃c:Nat,t=(c:Int)/\c<=n/\R i c)/\∃v:BitVec 64,z i=U v/\∀b,b<64->((v.getLsbD b=true \/ ∃c:Nat,(c:Int)∈L/\b<=n/\S c b)↔(b<=n/\∃c,c<=n/\R i c/\S c b))) ?_ ?_ _ _ ?_
   ·rintro z ⟨k1,k2,v,k3,k4⟩;refine hs (by omega) _ _ ⟨C4 (by omega),fun a ha f=>?_,fun a ha=>?_⟩
    ·by_cases e:a=i
     ·subst e;exact⟨v,k3,fun b hb=>by rw[<- k4 b hb];simp⟩
     ·obtain⟨z',p1,p2⟩:=q a (by omega) f;exact⟨z',by rw[k1 a e];exact p1,p2⟩
    ·rw[k1 a (by omega)];exact m a (by omega)
   ·rintro t L z w ⟨k1,k2,v,k3,k4⟩ a0;obtain⟨c,rfl,hc,a2⟩:=k2 t (by simp);refine ifT (by omega) (a0 _ ⟨fun a ha=>?_,fun t ht=>k2 t (by simp[ht]),?_⟩)
    ·rw[Em,if_neg (by omega)];exact k1 a ha
    ·obtain⟨yc,e2,g2⟩:=hS.1 c hc;refine⟨v ||| yc,?_,fun b hb=>?_⟩
     ·rw[Em,if_pos (by omega)];simp only[AZ1,Bc7,Bf0];rw[k3,e2,AL9]
     ·rw[<- k4 b hb,Ba6,Bb4,g2 b hb];constructor
      ·rintro ((h|⟨h,h'⟩)|⟨c',h,h'⟩)
       ·exact .inl h
       ·exact .inr ⟨c,by simp,h,h'⟩
       ·exact .inr ⟨c',by simp[h],h'⟩
      ·rintro (h|⟨c',h,h',d⟩)
       ·exact .inl (.inl h)
       ·rcases Bc8.1 h with h|h
        ·have:c' = c:=by omega
         subst this;exact .inl (.inr ⟨h',d⟩)
        ·exact .inr ⟨c',h,h',d⟩
   ·refine⟨fun _ _=>rfl,fun t ht=>?_,0#64,m i (.inl (AZ7 _)),fun b hb=>?_⟩
    ·obtain⟨j,rfl,_,o,hb⟩:=mem_bitsF.1 ht;exact⟨j,rfl,((g1 j o).1 hb).1,((g1 j o).1 hb).2⟩
    ·simp only[Bm9,AZ9,false_or];constructor
     ·rintro⟨c,hc,h,h'⟩;obtain⟨j,o,_,g,l⟩:=mem_bitsF.1 hc;obtain rfl:c=j:=by omega
      exact⟨h,c,((g1 c g).1 l).1,((g1 c g).1 l).2,h'⟩
     ·rintro⟨h,c,hc,h',d⟩;exact⟨c,mem_bitsF.2 ⟨c,rfl,by omega,by omega,(g1 c (by omega)).2 ⟨hc,h'⟩⟩,h,d⟩
  ·refine B7 (x:=[]) (by rw[hR.2 i (by omega)];exact (Iw 0#64 (by omega)).trans (by rw[Kk fun j o=>by simp])) ?_;exact hs (by omega) _ _ ⟨C4 (by omega),fun a ha f=>q a (by omega) f,fun a ha=>m a (by omega)⟩
 ·exact ifF (by simp;omega) ⟨x3,rfl,fun a ha=>q a (by omega) ha,fun a ha=>m a (.inr ha)⟩
theorem Ay8 (N:Nat)(x:Nat->Int):I3 N x=E4 N x x:=rfl
end Go.AM
namespace Go.AM
open Go.Proofs
theorem AX3:∀m:Fin 33,(D2 .and .i64 ((m.val:Nat):Int) 1==1)=decide (m.val % 2=1)/\shI .shr .i64 ((m.val:Nat):Int) 1=((m.val / 2:Nat):Int):=by decide +kernel
theorem Ur {N n:Nat}{R:Nat->Nat->Prop}{x:Nat->Int}(hn:n<=32)(o:1000<=N)(u:Fwd n R)(hR:TabA n R x){k:Nat}(hk:k<=32) :∃s,F2 N x (k:Int) (n:Int)=some s/\TabA n (HV n R k) s:=by
 unfold F2;obtain⟨y1,e1,h1⟩:=Ha (N:=N) hn o;refine B7 e1 ?_;refine Un (fun i x1 x2 x3=>x1=((k / 2 ^ i:Nat):Int)/\TabA n (HV n R (2 ^ i)) x2/\TabA n (HV n R (k % 2 ^ i)) x3) 6 _ (by omega) ⟨by simp,?_,?_⟩ ?_
 ·exact hR.congr fun a b ha hb=>⟨fun h=>⟨a,ha,rfl,h⟩,fun⟨c,hc,(h:a=c),h'⟩=>h ▸ h'⟩
 ·rw[Nat.pow_zero,Nat.mod_one];exact h1
 ·rintro v i x1 x2 x3 w ⟨rfl,q,l⟩ hs;have hm:k / 2 ^ i<=32:=Be1 (Nat.div_le_self _ _) hk;obtain⟨b1,b2⟩:=AX3 ⟨k / 2 ^ i,by omega⟩;simp only at b1 b2;have f:k / 2 ^ i / 2=k / 2 ^ (i+1):=by rw[Nat.div_div_eq_div_mul,Nat.pow_succ]
  have g:k % 2 ^ (i+1)=k % 2 ^ i+2 ^ i*(k / 2 ^ i % 2):=Nat.mod_pow_succ;have d:∃s,I3 N x2=some s/\TabA n (HV n R (2 ^ (i+1))) s:=by obtain⟨s,e,h⟩:=LG hn o q q;refine⟨s,(Ay8 N x2).trans e,h.congr fun a b ha hb=>?_⟩;rw[show 2 ^ (i+1)=2 ^ i+2 ^ i by rw[Nat.pow_succ];omega];exact (Ej u (2 ^ i) ha (2 ^ i) b).symm
  obtain⟨sq,esq,d⟩:=d;by_cases m:k / 2 ^ i=0
  ·refine ifF (by simp[m]) ⟨x3,rfl,?_⟩
   have:k % 2 ^ i=k:=Bh7 (by
    have:=Bq8.1 m
    rcases this with h|h
    ·exact absurd h (Nat.ne_of_gt (Nat.two_pow_pos i))
    ·exact h)
   rw[this]at l;exact l
  ·have j:i<6:=by
    by_cases h:i<6
    ·exact h
    ·exact absurd (Bh0 (Br4 hk (Bb2 (by decide:32<2 ^ 6) (Bi3 (by omega) (by omega))))) m
   refine ifT (decide_eq_true (Int.natCast_pos.2 (Nat.pos_of_ne_zero m))) ?_;by_cases r:k / 2 ^ i % 2=1
   ·refine ifT (by rw[b1];simp[r]) ?_;obtain⟨t,et,ht⟩:=LG hn o l q;refine B7 et (B7 esq (hs j _ _ _ ⟨by rw[b2,f],d,ht.congr fun a b ha hb=>?_⟩));rw[g,r,Bf0];exact (Ej u (k % 2 ^ i) ha (2 ^ i) b).symm
   ·refine ifF (by rw[b1];simp[r]) (B7 esq (hs j _ _ _ ⟨by rw[b2,f],d,?_⟩));rw[g,show k / 2 ^ i % 2=0 by omega,Nat.mul_zero,Bi5];exact l
theorem AN0 {s c:Sound}(hs:okS s)(hc:okS c):((D2 .or .u32 (D2 .andNot .u32 c.Plus s.Plus) (D2 .andNot .u32 c.Minus s.Minus))==0)=Wl s c:=by
 obtain⟨p,m,rfl⟩:=hs;obtain⟨a,b,rfl⟩:=hc;have e:∀x y:BitVec 32,((D2 .and .u32 (x.toNat:Int) (y.toNat:Int))==(y.toNat:Int))=decide (y &&& ~~~ x=0#32):=by
  intro x y;rw[Fq,Bc4];simp only[beq_iff_eq,decide_eq_true_eq];constructor
  ·intro h;have h:x &&& y=y:=Bb9 (by omega);refine (z32 _).2 fun i d=>?_
   have:=congrArg (·.getLsbD i) h
   simp only[Ba4,Be0,d,decide_true,Bk9]at this⊢;cases hx:x.getLsbD i<;>cases hy:y.getLsbD i<;>simp_all
  ·intro h
   have:x &&& y=y:=JB fun i d=>by
    have:=(z32 _).1 h i d
    simp only[Ba4,Be0,d,decide_true,Bk9]at this⊢;cases hx:x.getLsbD i<;>cases hy:y.getLsbD i<;>simp_all
   rw[this]
 unfold Wl;simp only[e,EM,KE,eq0];rw[Bc4];simp only[AZ6,decide_eq_true_eq];constructor
 ·intro h;have h:=(z32 _).1 h;exact⟨(z32 _).2 fun i d=>by have:=h i d;rw[Ba6,Bi4]at this;exact this.1,(z32 _).2 fun i d=>by have:=h i d;rw[Ba6,Bi4]at this;exact this.2⟩
 ·rintro⟨h1,f⟩;rw[h1,f];rfl
theorem Am1 {N:Nat}(q:1000<=N){w:Sl Sound}(hw:w.n<=32)(l:∀i,i<w.n->okS (w.g i)){c:Sound}(hc:okS c)(no:Bool) :∃f,Y4 N ⟨c,no⟩ w=some f/\TabA w.n (fun a b=>a<w.n/\b=a+1/\(Wl (w.g a) c != no)=true) f:=by
 unfold Y4;refine P9 (fun i x1 x2=>x2=(i:Int)/\∀a,x1 a=if a<i/\(Wl (w.g a) c != no) then U (1#64 <<< (a+1))else 0) w.n _ (by omega) ⟨rfl,fun a=>by rw[if_neg (by omega)]⟩ ?_;rintro m i x1 x2 r ⟨rfl,d⟩ hs;by_cases hl:i<w.n
 ·refine ifT (by simp;omega) (ifT (by omega) ?_);rw[AZ1,AN0 (l i hl) hc];by_cases hb:(Wl (w.g i) c != no)=true
  ·refine ifT (by revert hb;cases Wl (w.g i) c<;>cases no<;>simp) ?_;rw[C4 (by omega)];refine ifT (by omega) (hs hl _ _ ⟨rfl,fun a=>?_⟩);rw[Em,Bc7,Bf0,Nl _ (by omega)];by_cases e:a=i
   ·subst e;rw[if_pos rfl,if_pos ⟨by omega,hb⟩]
   ·rw[if_neg e,d a];by_cases e2:a<i
    ·simp only[e2,show a<i+1 by omega,true_and]
    ·rw[if_neg (by omega),if_neg (by omega)]
  ·refine ifF (by revert hb;cases Wl (w.g i) c<;>cases no<;>simp) (hs hl _ _ ⟨C4 (by omega),fun a=>?_⟩);rw[d a];by_cases e:a=i
   ·subst e;rw[if_neg (by omega),if_neg (fun h=>hb h.2)]
   ·by_cases e2:a<i
    ·simp only[e2,show a<i+1 by omega,true_and]
    ·rw[if_neg (by omega),if_neg (by omega)]
 ·refine ifF (by simp;omega) ⟨x1,rfl,fun a ha=>?_,fun a ha=>by rw[d a,if_neg (by omega)]⟩;by_cases hb:a<w.n/\(Wl (w.g a) c != no)=true
  ·refine⟨1#64 <<< (a+1),by rw[d a,if_pos ⟨by omega,hb.2⟩],fun b j=>?_⟩;rw[GN (by omega) j,decide_eq_true_eq];exact⟨fun h=>⟨by omega,hb.1,h,hb.2⟩,fun h=>h.2.2.1⟩
  ·refine⟨0#64,by rw[d a,if_neg (fun h=>hb ⟨by omega,h.2⟩)];rfl,fun b j=>?_⟩;simp only[Bm9,AZ9,false_iff];rintro⟨_,h1,d,o⟩;exact hb ⟨h1,o⟩
theorem Am2 {n a0 b0:Nat}(ha:a0<=n)(hb:b0<=n)(hn:n<=32):TabA n (fun a b=>a=a0/\b=b0) (KH (fun _=>0) a0 (U (1#64 <<< b0))):=by
 refine⟨fun a d=>?_,fun a d=>by rw[Em,if_neg (by omega)]⟩;by_cases e:a=a0
 ·refine⟨1#64 <<< b0,by rw[Em,if_pos e],fun b c=>?_⟩;rw[GN (by omega) c,decide_eq_true_eq];omega
 ·refine⟨0#64,by rw[Em,if_neg e];rfl,fun b c=>?_⟩;simp only[Bm9,AZ9,false_iff];exact fun h=>e h.2.1
theorem Yk {N:Nat}{w:Sl Sound}(hw:w.n<=32)(e:Bool):∃f,AK N ⟨e⟩ w=some f/\TabA w.n (fun a b=>a=(if e then w.n else 0)/\b=(if e then w.n else 0)) f:=by
 unfold AK;cases e
 ·refine ifF (by simp) (ifT (by decide) ⟨_,rfl,?_⟩);exact Am2 (n:=w.n) (a0:=0) (b0:=0) (by omega) (by omega) hw
 ·refine ifT rfl (ifT (by omega) ⟨_,rfl,?_⟩);rw[AZ1,Bc7,Bf0,Nl _ (by omega)];exact Am2 (AZ7 _) (AZ7 _) hw
theorem AN1 {N:Nat}(a:1000<=N){w:Sl Sound}(hw:w.n<=32){rec:Part->Sl Sound->Option (Nat->Int)}{m:Nat}(hm:m<=40){g:Nat->Part}{Q:Nat->Nat->Nat->Prop}
 (hc:∀i,i<m->∃f,rec (g i) w=some f/\TabA w.n (Q i) f):∃f,BJ rec N ⟨⟨m,g⟩⟩ w=some f/\TabA w.n (ZN w.n Q m) f:=by
 unfold BJ;obtain⟨y1,e1,h1⟩:=Ha (N:=N) hw a;refine B7 e1 ?_;refine P9 (fun i x1 x2=>x2=(i:Int)/\i<=m/\TabA w.n (ZN w.n Q i) x1) m _ (by omega) ⟨rfl,by omega,h1⟩ ?_;rintro b i x1 x2 o ⟨rfl,d,c⟩ hs;by_cases hl:i<m
 ·refine ifT (by simp;omega) (ifT (by show (0:Int)<=i/\(i:Int)<m;omega) ?_);obtain⟨f,e2,j⟩:=hc i hl;refine B7 (by rw[AZ1];exact e2) ?_;obtain⟨s,e3,l⟩:=LG hw a c j;exact B7 e3 (hs hl _ _ ⟨C4 (by omega),hl,l⟩)
 ·obtain rfl:i=m:=by omega
  exact ifF (by simp) ⟨x1,rfl,c⟩
theorem AN2 {N:Nat}(l:1000<=N){w:Sl Sound}(hw:w.n<=32){rec:Part->Sl Sound->Option (Nat->Int)}{m:Nat}(hm:m<=40){g:Nat->Part}{Q:Nat->Nat->Nat->Prop}
 (hc:∀i,i<m->∃f,rec (g i) w=some f/\TabA w.n (Q i) f):∃f,BK rec N ⟨⟨m,g⟩⟩ w=some f/\TabA w.n (fun a b=>∃i,i<m/\Q i a b) f:=by
 unfold BK;refine P9 (fun i x1 x2=>x2=(i:Int)/\i<=m/\TabA w.n (fun a b=>∃j,j<i/\Q j a b) x1) m _ (by omega) ⟨rfl,by omega,(zeroA _).congr fun a b _ _=>⟨False.elim,fun⟨j,h,_⟩=>absurd h (by omega)⟩⟩ ?_;rintro c i x1 x2 t ⟨rfl,o,d⟩ hs;by_cases hl:i<m
 ·refine ifT (by simp;omega) (ifT (by show (0:Int)<=i/\(i:Int)<m;omega) ?_);obtain⟨f,e2,q⟩:=hc i hl;refine B7 (by rw[AZ1];exact e2) ?_;obtain⟨s,e3,r⟩:=AE9 hw l d q;refine B7 e3 (hs hl _ _ ⟨C4 (by omega),hl,r.congr fun a b _ _=>⟨?_,?_⟩⟩)
  ·rintro (⟨j,h,h'⟩ | h)
   ·exact⟨j,by omega,h'⟩
   ·exact⟨i,by omega,h⟩
  ·rintro⟨j,h,h'⟩;by_cases e:j=i
   ·subst e;exact .inr h'
   ·exact .inl ⟨j,by omega,h'⟩
 ·obtain rfl:i=m:=by omega
  exact ifF (by simp) ⟨x1,rfl,d⟩
end Go.AM
namespace Go.AM
open Go.Proofs
theorem AN3 {N:Nat}(l:1000<=N){w:Sl Sound}(hw:w.n<=32){rec:Part->Sl Sound->Option (Nat->Int)}{pt:Part}{Q:Nat->Nat->Prop}(d:Fwd w.n Q){f:Nat->Int}(u:rec pt w=some f)(r:TabA w.n Q f)
 {mn mx:Int}(y:0<=mn) (h1:mn<=32) (z:mx = -1 \/ (mn<=mx/\mx<=32)) :
 ∃s,BL rec N ⟨pt,mn,mx⟩ w=some s/\TabA w.n (fun a b=>∃k:Nat,mn<=k/\(mx = -1 \/ (k:Int)<=mx)/\HV w.n Q k a b) s:=by
 obtain⟨m,rfl⟩:∃m:Nat,mn=(m:Int):=⟨mn.toNat,by omega⟩;unfold BL;refine B7 u ?_;obtain⟨y2,e2,t2⟩:=Ur hw l d r (k:=m) (by omega);refine B7 e2 ?_;obtain⟨y3,e3,t3⟩:=Ha (N:=N) hw l;refine B7 e3 ?_;obtain⟨y4,e4,t4⟩:=AE9 hw l r t3;refine B7 e4 ?_;have o : Fwd w.n (fun a b=>Q a b \/ a=b):=fun a b ha h=>by
  rcases h with h|h
  ·exact d a b ha h
  ·omega
 have key:∀(K:Nat),K<=32->∃s,((F2 N y4 (K:Int) (w.n:Int)).bind fun y5=>(E4 N y2 y5).bind fun y6=>some y6)=some s/\TabA w.n (fun a b=>∃j,j<=K/\HV w.n Q (m+j) a b) s:=by
  intro K v;obtain⟨y5,e5,t5⟩:=Ur hw l o t4 (k:=K) v;refine B7 e5 ?_;obtain⟨y6,e6,t6⟩:=LG hw l t2 t5;refine B7 e6 ⟨y6,rfl,t6.congr fun a b ha hb=>?_⟩;constructor
  ·rintro⟨c,hc,g1,g2⟩;obtain⟨j,i,g3⟩:=(Nm d hc K b).1 g2;exact⟨j,i,(Ej d m ha j b).2 ⟨c,hc,g1,g3⟩⟩
  ·rintro⟨j,i,g⟩;obtain⟨c,hc,g1,g3⟩:=(Ej d m ha j b).1 g;exact⟨c,hc,g1,(Nm d hc K b).2 ⟨j,i,g3⟩⟩
 by_cases hx:mx<0
 ·refine ifT (decide_eq_true hx) ?_;obtain⟨s,e,t⟩:=key w.n hw;refine⟨s,e,t.congr fun a b ha hb=>?_⟩;constructor
  ·rintro⟨j,i,g⟩;exact⟨m+j,by omega,.inl (by omega),g⟩
  ·rintro⟨k,hk,_,g⟩;obtain⟨c,hc,g1,g3⟩:=(Ej d m ha (k-m) b).1 (by rw[show m+(k-m)=k by omega];exact g);obtain⟨j,i,g4⟩:=TU d hc (k-m) g3;exact⟨j,i,(Ej d m ha j b).2 ⟨c,hc,g1,g4⟩⟩
 ·refine ifF (by simpa using hx) ?_;obtain⟨M,rfl⟩:∃M:Nat,mx=(M:Int):=⟨mx.toNat,by omega⟩;have q:IntKind.i64.wrap ((M:Int)-(m:Int))=((M-m:Nat):Int):=by rw[F3 (by omega) (by omega)];omega
  rw[show IntKind.i64.wrap ((⟨pt,(m:Int),(M:Int)⟩:AW3).max-(⟨pt,(m:Int),(M:Int)⟩:AW3).min)=((M-m:Nat):Int) from q];obtain⟨s,e,t⟩:=key (M-m) (by omega);refine⟨s,e,t.congr fun a b ha hb=>?_⟩;constructor
  ·rintro⟨j,i,g⟩;exact⟨m+j,by omega,.inr (by omega),g⟩
  ·rintro⟨k,hk,x,g⟩;exact⟨k-m,by omega,by rw[show m+(k-m)=k by omega];exact g⟩
def okQ:Nat->Pat->Prop
 |0,_=>False
 |d+1,p=>Hx p/\p.L.n<=40/\∀i,i<p.L.n->okQ d (p.L.g i)
theorem Yl:∀(d:Nat) (p:Pat),okQ d p->okQ (d+1) p
 |0,_,h=>h.elim
 |d+1,p,⟨h1,h2,h3⟩=>⟨h1,h2,fun i a=>Yl d _ (h3 i a)⟩
theorem Am3:∀(k:Nat) (l:List Pat),k<=40->chk k l->∀p∈l,okQ k p
 |0,l,_,h,p,hp=>by rw[show l=[] from h]at hp;cases hp
 |k+1,[],_,_,p,hp=>by cases hp
 |k+1,q::l,hk,⟨hn,h⟩,p,hp=>by
  have ih:=Am3 k _ (by omega) h;rcases Bc8.1 hp with rfl|hp
  ·have hl:=NI k _ h;rw[Ba7,Dq]at hl;exact⟨hn,by omega,fun i a=>ih _ (Bb7 _ (Qn a))⟩
  ·exact Yl k p (ih p (Ba5 _ hp))
theorem vS.ok {s:Sound}(h:vS s):okS s:=by obtain⟨p,m,e,_⟩:=h;exact⟨p,m,e⟩
def AN4 (K:Nat)(p:Pat)(pt:Part):Prop:=∀(w:Sl Sound),w.n<=32->(∀i,i<w.n->okS (w.g i))->∀M,K<=M->∃f,AN M pt w=some f/\TabA w.n (PR w p) f
theorem NL {N:Nat}(x:1000<=N):∀(d:Nat),d<=40->∀(p:Pat),okQ d p->∀M,N+d<=M->∃pt,AL M p=some pt/\AN4 (N+d) p pt
 |0,_,p,h,_,_=>h.elim
 |d+1,hd,p,⟨hn,hc,hch⟩,0,hM=>by omega
 |d+1,hd,p,⟨hn,hc,hch⟩,M+1,hM=>by
  show ∃pt,U6 (AL M) M p=some pt/\_;unfold U6;refine P9 (fun i x1 x2=>x2=(i:Int)/\i<=p.L.n/\x1.n=i/\∀j,j<i->AN4 (N+d) (p.L.g j) (x1.g j)) p.L.n _ (by omega) ⟨rfl,by omega,rfl,fun j t=>absurd t (by omega)⟩ ?_;rintro u i x1 x2 v ⟨rfl,h1,q,o⟩ hs;by_cases hl:i<p.L.n
  ·refine ifT (by simp;omega) (ifT (by omega) ?_);obtain⟨pt,e,y⟩:=NL x d (by omega) (p.L.g i) (hch i hl) M (by omega);refine B7 (by rw[AZ1];exact e) ?_;refine ifT (by show (x1.n+1)*16<=_/\x1.n+1<=_;omega) (hs hl _ _ ⟨C4 (by omega),hl,by show x1.n+1=i+1;omega,fun j t=>?_⟩);by_cases e2:j=i
   ·subst e2
    have:(x1.push pt).g j=pt:=by simp[Sl.push,q]
    rw[this];exact y
   ·have:(x1.push pt).g j=x1.g j:=by simp[Sl.push];omega
    rw[this];exact o j (by omega)
  ·obtain rfl:i=p.L.n:=by omega
   have fin:∀(pt:Part),(∀(w:Sl Sound),w.n<=32->(∀i,i<w.n->okS (w.g i))->∀M,N+d<=M->∃f,AN (M+1) pt w=some f/\TabA w.n (PR w p) f)->∃r,some pt=some r/\AN4 (N+(d+1)) p r:=by intro pt h;refine⟨pt,rfl,fun w hw c M' l=>?_⟩;obtain⟨M'',rfl⟩:∃M'',M' = M'' + 1:=⟨M' - 1,by omega⟩;exact h w hw c M'' (by omega)
   refine ifF (by simp) ?_;obtain⟨⟨k0,k6⟩,n1,n2,n3,n4,n5⟩:=hn;by_cases k1:p.Kind=1
   ·refine ifT (by simp[k1]) (fin _ fun w hw c M' l=>?_);obtain⟨f,e,h⟩:=Am1 (N:=M') (by omega) hw c n5.ok p.Not;refine⟨f,e,h.congr fun a b _ _=>?_⟩;rw[Lu];simp[k1]
   refine ifF (by simp[k1]) ?_;by_cases k2:p.Kind=2
   ·refine ifT (by simp[k2]) (fin _ fun w hw c M' l=>?_);obtain⟨f,e,h⟩:=Yk (N:=M') hw false;refine⟨f,e,h.congr fun a b _ _=>?_⟩;rw[Lu];simp[k2]
   refine ifF (by simp[k2]) ?_;by_cases k6:p.Kind=6
   ·refine ifT (by simp[k6]) (fin _ fun w hw c M' l=>?_);obtain⟨f,e,h⟩:=Yk (N:=M') hw true;refine⟨f,e,h.congr fun a b _ _=>?_⟩;rw[Lu];simp[k6]
   refine ifF (by simp[k6]) ?_;by_cases k4:p.Kind=4
   ·refine ifT (by simp[k4]) (fin _ fun w hw c M' l=>?_);obtain⟨f,e,h⟩:=AN2 (N:=M') (by omega) hw (rec:=AN M') (m:=x1.n) (g:=x1.g) (Q:=fun i=>PR w (p.L.g i)) (by omega) fun i v=>o i (by omega) w hw c M' (by omega);refine⟨f,e,h.congr fun a b _ _=>?_⟩;rw[Lu,q];simp[k4]
   refine ifF (by simp[k4]) ?_;by_cases k5:p.Kind=5
   ·obtain⟨g1,g2,g3,g4⟩:=n4 k5;refine ifT (by simp[k5]) (ifT (by omega) (fin _ fun w hw c M' l=>?_));obtain⟨f,e,h⟩:=o 0 (by omega) w hw c M' (by omega);obtain⟨s,e2,z⟩:=AN3 (N:=M') (by omega) hw (rec:=AN M') (TV w (p.L.g 0)) e h g2 g3 g4;refine⟨s,e2,z.congr fun a b _ _=>?_⟩;rw[Lu];simp[k5]
   ·refine ifF (by simp[k5]) (fin _ fun w hw c M' l=>?_);obtain⟨f,e,h⟩:=AN1 (N:=M') (by omega) hw (rec:=AN M') (m:=x1.n) (g:=x1.g) (Q:=fun i=>PR w (p.L.g i)) (by omega) fun i v=>o i (by omega) w hw c M' (by omega);refine⟨f,e,h.congr fun a b _ _=>?_⟩;rw[Lu,q];by_cases k3:p.Kind=3
    ·simp[k3]
    ·have k0' : p.Kind=0:=by omega
     rw[n2 k3 k4 k5];simp[k0',ZN]
end Go.AM
namespace Go.AM
open IntKind (wrap)
open Go.Proofs
theorem Aa7 {N:Nat}{p:Pat}(hp:okS p.Is):∃e,AH N p=some e/\(e=0↔Hx p):=by
 obtain⟨a,b,i⟩:=hp;have m:=WO i;have V:O3 N p.Is=some (vB a b):=by rw[i];exact Up a b
 have e0:((p.Is.Plus==0)&&(p.Is.Minus==0))=decide (p.Is.Plus=0/\p.Is.Minus=0):=by rw[Bc4];simp
 have fin:(Hx p↔vS p.Is)->∃e,((O3 N p.Is).bind fun y1=>if (!y1) then some (14:Int)else some 0)=some e/\(e=0↔Hx p):=by
  intro c;rw[V];refine B7 rfl ?_;rw[c,m];cases vB a b
  ·exact ifT rfl ⟨14,rfl,by simp⟩
  ·exact ifF (by simp) ⟨0,rfl,by simp⟩
 have bad:∀{x:Int},x≠0->¬Hx p->∃e,some x=some e/\(e=0↔Hx p):=fun hx h=>⟨_,rfl,fun d=>absurd d hx,fun d=>absurd d h⟩;unfold AH;by_cases hk:p.Kind=0 \/ p.Kind=2 \/ p.Kind=6
 ·refine ifT (by rcases hk with h|h|h<;>simp[h]) (ltX ?_);rw[e0];by_cases g1:p.Is.Plus=0/\p.Is.Minus=0
  case neg=>exact ifT (by simp[g1]) (ifT rfl (bad (by decide) fun h=>g1 (h.2.1 (by omega)).1))
  refine ifF (by simp[g1]) ?_;by_cases g2:p.Not=true
  ·exact ifT g2 (ifT rfl (bad (by decide) fun h=>by have:=(h.2.1 (by omega)).2;rw[g2]at this;cases this))
  refine ifF g2 ?_;by_cases g3:p.Min=0
  case neg=>exact ifT (by simp[g3]) (ifT rfl (bad (by decide) fun h=>g3 (h.2.2.2.1 (by omega)).1))
  refine ifF (by simp[g3]) ?_;by_cases g4:p.Max=0
  case neg=>exact ifT (by simp[g4]) (ifT rfl (bad (by decide) fun h=>g4 (h.2.2.2.1 (by omega)).2))
  refine ifF (by simp[g4]) ?_;by_cases g5:p.L.n=0
  case neg=>exact ifT (by simp;omega) (bad (by decide) fun h=>g5 (h.2.2.1 (by omega) (by omega) (by omega)))
  refine ifF (by simp;omega) (fin ?_);exact⟨fun h=>h.2.2.2.2.2,fun h=>⟨by omega,fun _=>⟨g1,by simpa using g2⟩,fun _ _ _=>g5,fun _=>⟨g3,g4⟩,fun f=>by omega,h⟩⟩
 refine ifF (by simp only[not_or]at hk;simp[hk]) ?_;by_cases k1:p.Kind=1
 ·refine ifT (by simp[k1]) (ltX ?_);refine ifF (by simp) ?_;by_cases g3:p.Min=0
  case neg=>exact ifT (by simp[g3]) (ifT rfl (bad (by decide) fun h=>g3 (h.2.2.2.1 (by omega)).1))
  refine ifF (by simp[g3]) ?_;by_cases g4:p.Max=0
  case neg=>exact ifT (by simp[g4]) (ifT rfl (bad (by decide) fun h=>g4 (h.2.2.2.1 (by omega)).2))
  refine ifF (by simp[g4]) ?_;by_cases g5:p.L.n=0
  case neg=>exact ifT (by simp;omega) (bad (by decide) fun h=>g5 (h.2.2.1 (by omega) (by omega) (by omega)))
  refine ifF (by simp;omega) (fin ?_);exact⟨fun h=>h.2.2.2.2.2,fun h=>⟨by omega,fun h1=>absurd k1 h1,fun _ _ _=>g5,fun _=>⟨g3,g4⟩,fun f=>by omega,h⟩⟩
 refine ifF (by simp[k1]) (ltX ?_);rw[e0];have tail:∀(x y:Int),(Hx p↔(p.Is.Plus=0/\p.Is.Minus=0)/\p.Not=false/\x=0/\y=0/\vS p.Is)->∃e,(if (((((decide (p.Is.Plus=0/\p.Is.Minus=0) != true)||p.Not)||(x != 0))||(y != 0))||(decide (0<0))) then some (2:Int)else
  (O3 N p.Is).bind fun y3=>if (!y3) then some 14 else some 0)=some e/\(e=0↔Hx p):=by
  intro x y c;by_cases g:(p.Is.Plus=0/\p.Is.Minus=0)/\p.Not=false/\x=0/\y=0
  ·obtain⟨g1,g2,g3,g4⟩:=g;exact ifF (by simp[g1,g2,g3,g4]) (fin (c.trans ⟨fun h=>h.2.2.2.2,fun h=>⟨g1,g2,g3,g4,h⟩⟩))
  ·refine ifT ?_ (bad (by decide) fun h=>g ⟨(c.1 h).1,(c.1 h).2.1,(c.1 h).2.2.1,(c.1 h).2.2.2.1⟩);simp only[Bb4,bne_iff_ne,ne_eq,decide_eq_true_eq];by_cases g1:p.Is.Plus=0/\p.Is.Minus=0
   ·by_cases g2:p.Not=true
    ·simp[g2]
    ·by_cases g3:x=0
     ·have:¬y=0:=fun g4=>g ⟨g1,by simpa using g2,g3,g4⟩
      simp[this]
     ·simp[g3]
   ·simp[g1]
 by_cases k34:p.Kind=3 \/ p.Kind=4
 ·refine ifT (by rcases k34 with h|h<;>simp[h]) (tail _ _ ?_);constructor
  ·exact fun h=>⟨(h.2.1 k1).1,(h.2.1 k1).2,(h.2.2.2.1 (by omega)).1,(h.2.2.2.1 (by omega)).2,h.2.2.2.2.2⟩
  ·rintro⟨h1,d,j,l,f⟩;exact⟨by omega,fun _=>⟨h1,d⟩,fun h h'=>by omega,fun _=>⟨j,l⟩,fun h=>by omega,f⟩
 refine ifF (by simp only[not_or]at k34;simp[k34]) ?_;by_cases k5:p.Kind=5
 ·refine ifT (by simp[k5]) ?_;by_cases g:p.L.n=1/\0<=p.Min/\p.Min<=32/\(p.Max = -1 \/ (p.Min<=p.Max/\p.Max<=32))
  ·refine ifF (by simp only[Bb4,AZ6,bne_iff_ne,ne_eq,decide_eq_true_eq];omega) (tail 0 0 ?_);constructor
   ·exact fun h=>⟨(h.2.1 k1).1,(h.2.1 k1).2,rfl,rfl,h.2.2.2.2.2⟩
   ·rintro⟨h1,d,j,l,f⟩;exact⟨by omega,fun _=>⟨h1,d⟩,fun _ _ h=>absurd k5 h,fun h=>absurd k5 h,fun _=>g,f⟩
  ·exact ifT (by simp only[Bb4,AZ6,bne_iff_ne,ne_eq,decide_eq_true_eq];omega) (bad (by decide) fun h=>g (h.2.2.2.2.1 k5))
 ·exact ifF (by simp[k5]) (bad (by decide) fun h=>by have:=h.1;omega)
theorem Am4 {x:Sl Pat}{m:Nat}(h:x.n=m+1):x.toList.reverse=x.g m::(x.take m).toList.reverse:=by unfold Sl.toList;rw[h,Bd9,Bg0,Bh4];rfl
theorem Ay9 (z:Sl Pat)(q:Pat):((z.push Pat.nil).upd z.n q).toList.reverse=q::z.toList.reverse:=by
 rw[Am4 (m:=z.n) rfl];have e1:((z.push Pat.nil).upd z.n q).g z.n=q:=by simp
 have e2:(((z.push Pat.nil).upd z.n q).take z.n).toList=z.toList:=by
  unfold Sl.toList;refine Bc1 fun i a=>?_
  have:i<z.n:=Bf4.1 a
  show (if i=z.n then q else if i<z.n then z.g i else Pat.nil)=z.g i;rw[if_neg (by omega),if_pos this]
 rw[e1,e2]
theorem WR {N:Nat}(q:Sl Pat)(c:q.n<N)(hs:q.n<1000000):D4 N q=some ((List.range q.n).reverse.map fun (i:Nat)=>((i:Int),q.g i)):=by
 unfold D4;have h:∀(m:Nat),m<=q.n->∀F,m<F->W6 F (fun (a:Int->Option (List (Int×Pat))) (x1:Int)=>
  if (decide (0<=x1)) then
   if ((0:Int)<=x1/\x1<(q.n:Int))then
    Ap (x1,q.g x1.toNat) (
     a (wrap .i64 (x1-1))
     )
   else none
  else
   some []) ((m:Int)-1)=some ((List.range m).reverse.map fun (i:Nat)=>((i:Int),q.g i)):=by
  intro m
  induction m with
  |zero=>
   intro _ F b
   match F,b with
   |F+1,_=>rfl
  |succ m ih=>
   intro hm F b
   match F,b with
   |F+1,b=>rw[BB];rw[show ((m+1:Nat):Int)-1=(m:Int) by omega,if_pos (by simp),if_pos (by omega),F3 (by omega) (by omega),ih (by omega) F (by omega),AZ1,Bd9,Bh4,Bp2,Bp8,Bc2];rfl
 rw[F3 (by omega) (by omega)];exact h q.n (AZ7 _) N c
theorem AN5 {k:Nat}(hk:k<=40){c:Sl Pat}{l:List Pat}:chk k ((c.take (min 41 c.n)).toList++l)↔chk k (c.toList++l):=by
 by_cases h:c.n<=41
 ·rw[Bm0 h]
 ·constructor
  ·intro a
   have:=NI _ _ a
   rw[Ba7,Dq]at this
   have:(c.take (min 41 c.n)).n=41:=Bg4 (by omega)
   omega
  ·intro a
   have:=NI _ _ a
   rw[Ba7,Dq]at this;omega
theorem RV {N:Nat}(hN:2000<=N){p:Pat}(hp:okPS p):∃e,Y5 N p=some e/\(e=0↔chk 40 [p]):=by
 unfold Y5;refine P9 (fun i x3 x4=>x4=(i:Int)/\x3.n<=1+41*i/\(∀q∈x3.toList.reverse,okPS q)/\(chk 40 [p]↔chk (40-i) x3.toList.reverse)) 40 _ (by omega)
  ⟨rfl,by show 1<=_;omega,fun q l=>by rw[show (Sl.of [p]:Sl Pat).toList.reverse=[p] from rfl]at l;rw[Bh9.1 l];exact hp,Bi6⟩ ?_
 rintro x i x3 x4 hi ⟨rfl,h1,c,f⟩ hs;rcases hn:x3.n with _|m
 ·refine ifF (by simp) ⟨0,rfl,fun _=>f.2 ?_,fun _=>rfl⟩
  have:x3.toList.reverse=[]:=by unfold Sl.toList;rw[hn];rfl
  rw[this];exact Al7 _
 ·rw[Am4 hn]at f c;refine ifT (decide_eq_true (by omega)) ?_;by_cases r:i=40
  ·subst r;refine ifT (by simp) ⟨12,rfl,fun h=>absurd h (by decide),fun h=>?_⟩
   have:(x3.g m::(x3.take m).toList.reverse)=[]:=f.1 h
   cases this
  refine ifF (by simp;omega) ?_;have hw:IntKind.i64.wrap (((m+1:Nat):Int)-1)=(m:Int):=by rw[F3 (by omega) (by omega)];omega
  simp only[hw,AZ1];refine ifT (by omega) (ifT (by omega) ?_);obtain⟨e,y,a⟩:=Aa7 (N:=N) (c (x3.g m) (by simp)).is;refine B7 y ?_;rw[show 40-i=(39-i)+1 by omega]at f;by_cases o:e=0
  case neg=>exact ifT (by simp[o]) ⟨e,rfl,fun h=>absurd h o,fun h=>absurd (a.2 (f.1 h).1) o⟩
  refine ifF (by simp[o]) ?_;have hc:(if (41:Int)<((x3.g m).L.n:Int)then (41:Int)else ((x3.g m).L.n:Int))=((min 41 (x3.g m).L.n:Nat):Int):=by split<;>omega
  simp only[hc,AZ1];refine ifT (by omega) (B7 rfl (B7 (WR _ (by show min 41 _<N;omega) (by show min 41 _<1000000;omega)) ?_));generalize s:(x3.g m).L.take (min 41 (x3.g m).L.n)=C;have a0:C.n<=41:=by rw[<- s];exact Nat.min_le_left _ _
  refine Ay7 (fun L z=>∃j,j<=C.n/\L=((List.range j).reverse.map fun (i:Nat)=>((i:Int),C.g i))/\z.n=m+(C.n-j)/\z.toList.reverse=C.toList.drop j++(x3.take m).toList.reverse) ?_ ?_ _ _ ⟨C.n,AZ7 _,rfl,by show m=_;omega,by rw[DX];rfl⟩
  ·rintro z ⟨j,hj,hL,hz,b⟩;have u:j=0:=by
    cases j with
    |zero=>rfl
    |succ j=>simp[Bd9]at hL
   subst u;rw[Bn7]at b;refine hs (by omega) _ _ ⟨C4 (by omega),by omega,fun q l=>?_,?_⟩
   ·rw[b]at l;rcases List.mem_append.1 l with h|h
    ·obtain⟨i',d,rfl⟩:=Bh8.1 h;have d:=Bf4.1 d;rw[<- s]at d⊢;exact (c (x3.g m) (by simp)).L (Bb2 d (Nat.min_le_right _ _))
    ·exact c q (by simp[h])
   ·rw[b,f,show 40-(i+1)=39-i by omega,<- s,AN5 (by omega)];exact⟨fun h=>h.2,fun h=>⟨a.1 o,h⟩⟩
  ·rintro t L z v ⟨j,hj,hL,hz,b⟩ w;cases j with
   |zero=>simp at hL
   |succ j=>rw[Bd9,Bh4,Bp2,Bp8,Bc2]at hL;obtain⟨rfl,rfl⟩:=List.cons.inj hL;have e1:(z.n:Int).toNat=z.n:=AZ1 _;refine ifT ⟨⟨⟨by show (z.n+1)*64<=_;omega,by show z.n+1<=_;omega⟩,by show (0:Int)<=_/\(z.n:Int)<((z.n+1:Nat):Int);omega⟩,by show z.n<z.n+1;omega⟩ ?_;refine w _ ⟨j,by omega,rfl,by show z.n+1=_;omega,?_⟩;rw[Ay9,b,FN C (i:=j) (by omega),Bd2]
end Go.AM
namespace Go.AM
open IntKind (wrap)
open Go.Proofs
def wOk (w:Sl Sound):Prop:=w.n<=32/\∀i,i<w.n->vS (w.g i)
theorem Lb {N:Nat}{w:Sl Sound}(m:w.n<N)(hs:w.n<1000000){f:Sound->Option Bool}{b:Nat->Bool}(o:∀i,i<w.n->f (w.g i)=some (b i)) :∃r,C0 N w f=some r/\(r=true ↔ ∃i,i<w.n/\b i=true):=by
 unfold C0 E3
 have:∃y,W6 N (fun (a:Int->Option Int) (x1:Int)=>
  if (decide (x1<(w.n:Int))) then
   if ((0:Int)<=x1/\x1<(w.n:Int))then
    (f (w.g x1.toNat)).bind fun y3=>
    if y3 then
     some x1
    else
     a (wrap .i64 (x1+1))
   else none
  else
   some (-1)) 0=some y/\(0<=y ↔ ∃i,i<w.n/\b i=true):=by
  refine Bk (fun i x1=>x1=(i:Int)/\∀j,j<i->b j=false) w.n _ m ⟨rfl,fun j c=>absurd c (by omega)⟩ ?_;rintro l i x1 q ⟨rfl,h⟩ d;by_cases hl:i<w.n
  ·refine ifT (by simp;omega) (ifT (by omega) (B7 (by rw[AZ1];exact o i hl) ?_));cases hb:b i
   ·refine ifF (by simp) (d hl _ ⟨C4 (by omega),fun j c=>?_⟩);by_cases e:j=i
    ·subst e;exact hb
    ·exact h j (by omega)
   ·exact ifT rfl ⟨i,rfl,fun _=>⟨i,hl,hb⟩,fun _=>by omega⟩
  ·refine ifF (by simp;omega) ⟨-1,rfl,fun h=>absurd h (by decide),?_⟩;rintro⟨j,c,hb⟩;rw[h j (by omega)]at hb;cases hb
 obtain⟨y,e,hy⟩:=this;exact B7 e ⟨_,rfl,by rw[decide_eq_true_eq];exact hy⟩
theorem Qp {N:Nat}(z:3000<=N){p:Pat}(hp:okPS p){w:Sl Sound}(hs:w.n<1000000/\w.n+1000<N)(hw:∀i,i<w.n->okS (w.g i)) :∃r,Ai N p w=some r/\(r.2=0↔chk 40 [p]/\wOk w)/\(r.2=0->TabA w.n (PR w p) r.1):=by
 unfold Ai;obtain⟨e,l,hc⟩:=RV (N:=N) (by omega) hp;refine B7 l ?_;by_cases d:e=0
 case neg=>exact ifT (by simp[d]) ⟨_,rfl,⟨fun h=>absurd h d,fun h=>absurd (hc.2 h.1) d⟩,fun h=>absurd h d⟩
 refine ifF (by simp[d]) ?_;by_cases hn:32<w.n
 ·exact ifT (by simp;omega) ⟨_,rfl,⟨fun h=>absurd h (by decide),fun h=>by have:=h.2.1;omega⟩,fun h=>absurd h (by decide)⟩
 refine ifF (by simp;omega) ?_;have s:∀i,∃b:Bool,i<w.n->S9 N (w.g i)=some b/\(b=true ↔ ¬vS (w.g i)):=by
  intro i;by_cases a:i<w.n
  ·obtain⟨x,y,l⟩:=hw i a;refine⟨!vB x y,fun _=>⟨?_,?_⟩⟩
   ·unfold S9;rw[l,Up];rfl
   ·rw[WO l];cases vB x y<;>simp
  ·exact⟨false,fun h=>absurd h a⟩
 obtain⟨b,hb⟩:=Bh3 s;obtain⟨r,t,j⟩:=Lb (N:=N) (by omega) hs.1 (f:=fun u1=>S9 N u1) fun i a=>(hb i a).1;refine B7 t ?_;by_cases c:r=true
 ·refine ifT c ⟨_,rfl,⟨fun h=>absurd h (by decide),fun h=>?_⟩,fun h=>absurd h (by decide)⟩;obtain⟨i,a,m⟩:=j.1 c;exact absurd (h.2.2 i a) ((hb i a).2.1 m)
 ·refine ifF c ?_;have o:wOk w:=⟨by omega,fun i a=>Bc3 fun q=>c (j.2 ⟨i,a,(hb i a).2.2 q⟩)⟩;obtain⟨pt,ep,u⟩:=NL (N:=1000) (by omega) 40 (AZ7 _) p (Am3 40 [p] (AZ7 _) (hc.1 d) p (by simp)) N (by omega);refine B7 ep ?_;obtain⟨f,ef,v⟩:=u w (by omega) hw N (by omega);exact B7 ef ⟨_,rfl,⟨fun _=>⟨hc.1 d,o⟩,fun _=>rfl⟩,fun _=>v⟩
end Go.AM
