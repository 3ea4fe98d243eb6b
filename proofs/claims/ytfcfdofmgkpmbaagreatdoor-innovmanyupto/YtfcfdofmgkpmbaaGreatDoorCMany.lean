/- What a law's walk and its plain proof need, part 10: no condition of its own. -/
import Derived.Test.YtfcfdofmgkpmbaaGreatDoorNG
import Derived.Test.YtfcfdofmgkpmbaaGreatDoorNF
import Derived.Test.YtfcfdofmgkpmbaaGreatDoorNI
import Derived.Lay
set_option linter.defProp false
set_option linter.unusedSimpArgs false
set_option linter.unusedVariables false
set_option linter.unusedSectionVars false
namespace Go.AM
def AQ2:=@Go.Proofs.Tryz.underlying5
def AU2:=@Go.Proofs.Tryz.underlying4
def AX7:=@Go.Claim7.holds_tied_plain_at
def AZ9:=@Go.OpenSpec.preRow_of_cond
def Ba2:=@Go.OpenClaim.holds_of_cond
def Ba5:=@Go.OpenClaim.pre_eq_preRow
def Bg3:=@List.mem_toArray
def Bg6:=@List.not_mem_nil
def Bi7:=@Int.tmod_tmod_of_dvd
def Bj5:=@Go.Proofs.Tryz.func12
def Bk9:=@Int.tmod_lt_of_pos
def Bl0:=@Go.Proofs.Tryz.params12
open Go.Proofs
abbrev Bm:Nat:=12
def DE:AJ8[Bm]? = some Tryz.f12:=Bj5
abbrev Cz:Nat:=48
end Go.AM
namespace Go.AM
open Go.Proofs
section
variable {S:Q8}(hS:H1 S Tryz.prog) (hL:GL S)
include hS hL
def I4 (N:Nat)(s:Sl (Sl Eg))(n:Int):Option (Sl (Sl Eg)):=if s.n=1/\0<=n/\n*24<=140737488355328 then some (Sl.rep n.toNat (s.g 0))else none
theorem S5 {N:Nat}{s:Sl (Sl Eg)}{n:Int}{y:Sl (Sl Eg)}(h:I4 N s n=some y):FunO S C5 [.p (vSl 1 (cL 2 A1) s),.p (pI .i64 n)] [] (.p (vSl 1 (cL 2 A1) y)) [] []:=by
 obtain⟨⟨a,h1,b⟩,h⟩:=E8 h;obtain rfl:=C7 h
 have:=hL.repW s n.toNat a (by omega)
 rw[show ((n.toNat:Nat):Int)=n by omega]at this;exact this
end
end Go.AM
namespace Go.AM
open IntKind (wrap)
open Go.Proofs
set_option maxRecDepth 10000
set_option maxHeartbeats 2000000
variable {S:Q8}(hS:H1 S Tryz.prog) (hL:GL S)
include hS hL
def S6 (N:Nat)(a:Int):Option A9:= Ag7 N (fun b (x1:Sl F5) (x2:Sl (Sl Int)) (x3:Int)=>if (decide (x3<a)) then if ((x1.n+(Sl.of [(⟨0,[UInt8.ofNat (wrap .u8 (97+(wrap .u8 (wrap .i64 (x3.tdiv 20))))).toNat,UInt8.ofNat (wrap .u8 (97+(wrap .u8 (x3.tmod 20)))).toNat]⟩:F5)]:Sl F5).n)*24<=140737488355328/\x1.n+(Sl.of [(⟨0,[UInt8.ofNat (wrap .u8 (97+(wrap .u8 (wrap .i64 (x3.tdiv 20))))).toNat,UInt8.ofNat (wrap .u8 (97+(wrap .u8 (x3.tmod 20)))).toNat]⟩:F5)]:Sl F5).n<=140737488355328)then if ((x2.n+(Sl.of [(Sl.nil:Sl Int)]:Sl (Sl Int)).n)*24<=140737488355328/\x2.n+(Sl.of [(Sl.nil:Sl Int)]:Sl (Sl Int)).n<=140737488355328)then b (x1.push (⟨0,[UInt8.ofNat (wrap .u8 (97+(wrap .u8 (wrap .i64 (x3.tdiv 20))))).toNat,UInt8.ofNat (wrap .u8 (97+(wrap .u8 (x3.tmod 20)))).toNat]⟩:F5)) (x2.app (Sl.of [(Sl.nil:Sl Int)]:Sl (Sl Int))) (wrap .i64 (x3+1)) else none else none else some (⟨x1,(Sl.nil:Sl Law),x2⟩:A9)) (Sl.of [(⟨-1,[114]⟩:F5)]:Sl F5) (Sl.of [(Sl.nil:Sl Int)]:Sl (Sl Int)) 0
theorem CA {N:Nat}{a:Int}{y:A9}(h:S6 N a=some y) :FunO S Cz [pN a] [] (.p (.agg (B1 y))) ([]) []:=by
 unfold S6 at h;refine A6 hS Tryz.func48 ?_;refine MC hS (And.intro (rfl:true=true) (rfl:true=true)) 8 8000 (k:=1) (n:=1) (e:=X5) (vw:=false) (D3 [G1] [(0,[G1])]) (fun i=>cL 1 (cI .i64) ((Sl.of [(Sl.nil:Sl Int)]:Sl (Sl Int)).g i)) (fun i b=>match i,b with|0,_=>Ah0|_+1,b=>Bc b (by omega)) ?_;refine KU hS Df h (fun x1 x2 x3=>⟨[(10,pN x3),(9,pN a),(3,.reg 4000 0),(2,.reg 3000 0)],[(4501,.vec X5 1 x2.n (fun i=>cL 1 (cI .i64) (x2.g i)) false),(4500,.vec Aj 2 x1.n (fun i=>D6 (x1.g i)) false),(4000,.cells [.vec 4500,.p G1,.vec 4501]),(3000,.cells [.p G1,.p G1,.p G1])]⟩) (ids:=[(3000,3000),(4000,4000),(4500,7000),(4501,8000)]) (fun _ _ _ _ _ d x1 x2 x3 f h=>?_) (hle:=klR [(3,.fn 1 (Sl.of [(⟨-1,[114]⟩:F5)]:Sl F5).n (D3 [pI .i64 0,.str []] [(0,D6 (⟨-1,[114]⟩:F5))]) (fun i=>D6 ((Sl.of [(⟨-1,[114]⟩:F5)]:Sl F5).g i)))] (al1 ⟨rfl,(fun i b=>match i,b with|0,_=>rfl|_+1,b=>Bc b (by omega))⟩ al0));apply kI hS h<;>intro h
 .obtain⟨c6,h⟩:=E8 h;refine MC hS (And.intro (And.intro (And.intro (And.intro (And.intro (And.intro (by decide:(20:Int)≠0) (by decide:(20:Int)≠0)) (rfl:true=true)) ((fun i b=>match i,b with|0,_=>rfl|1,_=>rfl|_+2,b=>Bc b (by omega)):∀i:Nat,i<2->(Eh (D3 [pI .u8 0] [(0,cI .u8 (wrap .u8 (97+(wrap .u8 (wrap .i64 (x3.tdiv 20)))))),(1,cI .u8 (wrap .u8 (97+(wrap .u8 (x3.tmod 20)))))] i)).isSome=true)) (rfl:true=true)) c6) (rfl:true=true)) 32 32000 (k:=1) (n:=1) (e:=X5) (vw:=false) (D3 [G1] [(0,[G1])]) (fun i=>cL 1 (cI .i64) ((Sl.of [(Sl.nil:Sl Int)]:Sl (Sl Int)).g i)) (fun i b=>match i,b with|0,_=>Ah0|_+1,b=>Bc b (by omega)) ?_;obtain⟨c7,h⟩:=E8 h;exact f _ [(3000,3000),(4000,4000),(4500,28000),(4501,33000)] _ (x1.push (⟨0,[UInt8.ofNat (wrap .u8 (97+(wrap .u8 (wrap .i64 (x3.tdiv 20))))).toNat,UInt8.ofNat (wrap .u8 (97+(wrap .u8 (x3.tmod 20)))).toNat]⟩:F5)) (x2.app (Sl.of [(Sl.nil:Sl Int)]:Sl (Sl Int))) (wrap .i64 (x3+1)) c7 h (hle:=klR [(2,.fn (x2.n+(Sl.of [(Sl.nil:Sl Int)]:Sl (Sl Int)).n) (x2.app (Sl.of [(Sl.nil:Sl Int)]:Sl (Sl Int))).n (AP x2.n (fun i=>cL 1 (cI .i64) (x2.g i)) (fun i=>cL 1 (cI .i64) ((Sl.of [(Sl.nil:Sl Int)]:Sl (Sl Int)).g i))) (fun i=>cL 1 (cI .i64) ((x2.app (Sl.of [(Sl.nil:Sl Int)]:Sl (Sl Int))).g i))),(3,.fn (x1.n+1) (x1.push (⟨0,[UInt8.ofNat (wrap .u8 (97+(wrap .u8 (wrap .i64 (x3.tdiv 20))))).toNat,UInt8.ofNat (wrap .u8 (97+(wrap .u8 (x3.tmod 20)))).toNat]⟩:F5)).n (AP x1.n (fun i=>D6 (x1.g i)) (D3 [pI .i64 0,.str []] [(0,D6 (⟨0,[UInt8.ofNat (wrap .u8 (97+(wrap .u8 (wrap .i64 (x3.tdiv 20))))).toNat,UInt8.ofNat (wrap .u8 (97+(wrap .u8 (x3.tmod 20)))).toNat]⟩:F5))])) (fun i=>D6 ((x1.push (⟨0,[UInt8.ofNat (wrap .u8 (97+(wrap .u8 (wrap .i64 (x3.tdiv 20))))).toNat,UInt8.ofNat (wrap .u8 (97+(wrap .u8 (x3.tmod 20)))).toNat]⟩:F5)).g i)))] (al1 ⟨rfl,Au3 (c:=cL 1 (cI .i64)) (v:=x2) (w:=(Sl.of [(Sl.nil:Sl Int)]:Sl (Sl Int))) same rfl same rfl⟩ (al1 ⟨rfl,LI (c:=D6) (v:=x1) (x:=(⟨0,[UInt8.ofNat (wrap .u8 (97+(wrap .u8 (wrap .i64 (x3.tdiv 20))))).toNat,UInt8.ofNat (wrap .u8 (97+(wrap .u8 (x3.tmod 20)))).toNat]⟩:F5)) (z:=[(pI .i64 0),.str []]) same rfl rfl⟩ al0)))
 obtain rfl:=C7 h;exact B3 hS Df ⟨[(2,.reg 3000 0)],[(3000,.cells [.p (vSl 2 D6 x1),.p (vSl 18 B5 (Sl.nil:Sl Law)),.p (vSl 1 (cL 1 (cI .i64)) x2)])]⟩ [] (ids:=[(3000,3000)]) ⟨rfl,rfl,rfl⟩
end Go.AM
namespace Go.AM
open IntKind (wrap)
open Go.Proofs
set_option maxRecDepth 10000
set_option maxHeartbeats 2000000
variable {S:Q8}(hS:H1 S Tryz.prog) (hL:GL S)
include hS hL
def J4 (N:Nat)(a:Int)(b:Int):Option Bool:= if ((b.tmod 5)==0) then if ((0:Int)<=1/\1<=((Sl.of [4294967295,0]:Sl Int).n:Int))then (F2 N (⟨wrap .i64 (32+(wrap .i64 ((wrap .i64 (a.tmod 4))-2))),(Sl.of [4294967295,0]:Sl Int).drop 1⟩:A3)).bind fun y1=>if (decide (0<(wrap .i64 ((wrap .i64 (a.tmod 4))-2)))) then lt (fun (z1:Bool)=>some z1) fun k1=>if (y1==3) then (D0 N ).bind fun y3=>k1 y3 else k1 false else lt (fun (z2:Bool)=>some z2) fun k2=>if (y1==0) then (D0 N ).bind fun y5=>k2 y5 else k2 false else none else if ((b.tmod 5)==1) then if ((0:Int)<=(wrap .i64 (64+(wrap .i64 ((wrap .i64 (a.tmod 4))-2))))/\(wrap .i64 (64+(wrap .i64 ((wrap .i64 (a.tmod 4))-2))))<=(wrap .i64 (64+(wrap .i64 ((wrap .i64 (a.tmod 4))-2))))/\(wrap .i64 (64+(wrap .i64 ((wrap .i64 (a.tmod 4))-2))))*8<=140737488355328/\(wrap .i64 (64+(wrap .i64 ((wrap .i64 (a.tmod 4))-2))))<=140737488355328)then (AQ N (⟨3,(Sl.rep (wrap .i64 (64+(wrap .i64 ((wrap .i64 (a.tmod 4))-2)))).toNat 0:Sl Int)⟩:A3)).bind fun y6=>if (decide (0<(wrap .i64 ((wrap .i64 (a.tmod 4))-2)))) then lt (fun (z3:Bool)=>some z3) fun k3=>if (y6.2==12) then (D0 N ).bind fun y8=>k3 y8 else k3 false else lt (fun (z4:Bool)=>some z4) fun k4=>if (y6.2==0) then (D0 N ).bind fun g=>k4 g else k4 false else none else if ((b.tmod 5)==2) then (S6 N (wrap .i64 (32+(wrap .i64 ((wrap .i64 (a.tmod 4))-2))))).bind fun i=>(U7 N i).bind fun d=>if ((((if (decide (0<(wrap .i64 ((wrap .i64 (a.tmod 4))-2)))) then 12 else 0):Int)==0)&&(d.1.Langs != (wrap .i64 (32+(wrap .i64 ((wrap .i64 (a.tmod 4))-2)))))) then some false else lt (fun (z5:Bool)=>some z5) fun k5=>if (d.2==((if (decide (0<(wrap .i64 ((wrap .i64 (a.tmod 4))-2)))) then 12 else 0):Int)) then (D0 N ).bind fun j=>k5 j else k5 false else if ((b.tmod 5)==3) then (S6 N 2).bind fun l=>if ((0:Int)<=(wrap .i64 (256+(wrap .i64 ((wrap .i64 (a.tmod 4))-2))))/\(wrap .i64 (256+(wrap .i64 ((wrap .i64 (a.tmod 4))-2))))<=(wrap .i64 (256+(wrap .i64 ((wrap .i64 (a.tmod 4))-2))))/\(wrap .i64 (256+(wrap .i64 ((wrap .i64 (a.tmod 4))-2))))*24<=140737488355328/\(wrap .i64 (256+(wrap .i64 ((wrap .i64 (a.tmod 4))-2))))<=140737488355328)then (V2 N l (Sl.rep (wrap .i64 (256+(wrap .i64 ((wrap .i64 (a.tmod 4))-2)))).toNat (Sl.nil:Sl Eg):Sl (Sl Eg))).bind fun f=>if (decide (0<(wrap .i64 ((wrap .i64 (a.tmod 4))-2)))) then lt (fun (z6:Bool)=>some z6) fun k6=>if (f.2==12) then (D0 N ).bind fun m=>k6 m else k6 false else lt (fun (z7:Bool)=>some z7) fun k7=>if (f.2==0) then (D0 N ).bind fun o=>k7 o else k7 false else none else (Ak N ).bind fun q=>(I4 N (Sl.of [(Sl.of [(⟨2,5⟩:Eg),(⟨5,2⟩:Eg)]:Sl Eg)]:Sl (Sl Eg)) (wrap .i64 (32+(wrap .i64 ((wrap .i64 (a.tmod 4))-2))))).bind fun r=>(V2 N q r).bind fun c=>if (((((if (decide (0<(wrap .i64 ((wrap .i64 (a.tmod 4))-2)))) then 12 else 0):Int)==0)&&((c.1.Has.n:Int) != (wrap .i64 (64+(wrap .i64 (2*(wrap .i64 ((wrap .i64 (a.tmod 4))-2))))))))||((((if (decide (0<(wrap .i64 ((wrap .i64 (a.tmod 4))-2)))) then 12 else 0):Int) != 0)&&((c.1.Langs != 0)||((c.1.Has.n:Int) != 0)))) then some false else lt (fun (z8:Bool)=>some z8) fun k8=>if (c.2==((if (decide (0<(wrap .i64 ((wrap .i64 (a.tmod 4))-2)))) then 12 else 0):Int)) then (D0 N ).bind fun s=>k8 s else k8 false
theorem IM {N:Nat}{c:Int}{d:Int}{y:Bool}(h:J4 N c d=some y) :FunO S Bm [.p (pI .u8 c),.p (pI .u8 d)] [] (pB y) ([]) []:=by
 unfold J4 at h;refine A6 hS DE ?_;refine D9 hS (And.intro (by decide:(4:Int)≠0) (by decide:(5:Int)≠0)) (b:=(d.tmod 5)==0) (fun c1=>?_) (fun c1=>?_)
 .replace h:=itT c1 h;refine I7 hS (rfl:true=true) 70 ⟨[(69,.vec 70000),(68,pN (wrap .i64 (32+(wrap .i64 ((wrap .i64 (c.tmod 4))-2))))),(8,pN 0),(5,pN (wrap .i64 ((wrap .i64 (c.tmod 4))-2)))],[(70000,.vec P8 1 (Sl.of [4294967295,0]:Sl Int).n (fun i=>cI .u64 ((Sl.of [4294967295,0]:Sl Int).g i)) false)]⟩ (ids:=[(70000,70000)]) ?_ (hle:=klR [(3,.fn 2 (Sl.of [4294967295,0]:Sl Int).n (D3 [pI .u64 0] [(0,cI .u64 4294967295),(1,cI .u64 0)]) (fun i=>cI .u64 ((Sl.of [4294967295,0]:Sl Int).g i)))] (al1 ⟨rfl,(fun i j=>match i,j with|0,_=>rfl|1,_=>rfl|_+2,j=>Bc j (by omega))⟩ al0));obtain⟨c2,h⟩:=E8 h;obtain⟨y1,e1,h⟩:=B8 h;refine C0 hS [] c2 (P9 hS hL e1) ?_;apply kI hS h<;>intro h
  .refine Ef hS Df (A5 hS) h 0 (fun z1=>⟨[(4,pB z1)],[]⟩) (fun M1 k1 s h=>?_) (fun z1 h=>?_)
   .refine kG hS h (fun h=>?_) (fun h=>?_)
    .refine kC hS h (F7 hS hL) (fun y3 h=>?_);exact s _ [] _ y3 Df h
    exact s _ [] _ false Df h
   cases h;exact kR hS
  refine Ef hS Df (A5 hS) h 0 (fun z2=>⟨[(4,pB z2)],[]⟩) (fun M2 k2 t h=>?_) (fun z2 h=>?_)
  .refine kG hS h (fun h=>?_) (fun h=>?_)
   .refine kC hS h (F7 hS hL) (fun y5 h=>?_);exact t _ [] _ y5 Df h
   exact t _ [] _ false Df h
  cases h;exact kR hS
 replace h:=itF c1 h;apply kI hS h<;>intro h
 .obtain⟨c11,h⟩:=E8 h;refine I7 hS c11 81 ⟨[(80,.p (vSl 1 (cI .u64) (Sl.rep (wrap .i64 (64+(wrap .i64 ((wrap .i64 (c.tmod 4))-2)))).toNat 0:Sl Int))),(8,pN 0),(5,pN (wrap .i64 ((wrap .i64 (c.tmod 4))-2)))],[]⟩ (ids:=[]) ?_;refine kC hS h (EC hS hL) (fun y6 h=>?_);apply kI hS h<;>intro h
  .refine Ef hS Df (A5 hS) h 0 (fun z3=>⟨[(4,pB z3)],[]⟩) (fun M3 k3 u h=>?_) (fun z3 h=>?_)
   .refine kG hS h (fun h=>?_) (fun h=>?_)
    .refine kC hS h (F7 hS hL) (fun y8 h=>?_);exact u _ [] _ y8 Df h
    exact u _ [] _ false Df h
   cases h;exact kR hS
  refine Ef hS Df (A5 hS) h 0 (fun z4=>⟨[(4,pB z4)],[]⟩) (fun M4 k4 v h=>?_) (fun z4 h=>?_)
  .refine kG hS h (fun h=>?_) (fun h=>?_)
   .refine kC hS h (F7 hS hL) (fun a3 h=>?_);exact v _ [] _ a3 Df h
   exact v _ [] _ false Df h
  cases h;exact kR hS
 apply kI hS h<;>intro h
 .refine kC hS h (CA hS hL) (fun b0 h=>?_);refine kC hS h (Ei hS hL) (fun l h=>?_);obtain⟨t1,q⟩:∃x:Int,x=((if (decide (0<(wrap .i64 ((wrap .i64 (c.tmod 4))-2)))) then 12 else 0):Int):=⟨_,rfl⟩;refine LH hS Df (A5 hS) 0 ⟨[(9,.reg 10000 0),(8,pN t1),(7,pN l.2),(5,pN (wrap .i64 ((wrap .i64 (c.tmod 4))-2)))],[(10000,.cells [pN l.1.Langs,.p (vSl 1 (cI .u64) l.1.Has)])]⟩ (fun M5 w=>?_) ?_
  .refine D9 hS Df (b:=decide (0<(wrap .i64 ((wrap .i64 (c.tmod 4))-2)))) (fun c21=>?_) (fun c21=>?_)
   .exact w _ [(10000,10000)] _ Df (hle:=klR [(0,.eq (pI .i64 12) (pI .i64 t1))] (al1 (by simp only[q,c21,Leaf.ok,pm,Bq,Cj]) al0))
   exact w _ [(10000,10000)] _ Df (hle:=klR [(0,.eq (pI .i64 0) (pI .i64 t1))] (al1 (by simp only[q,c21,Leaf.ok,pm,Bq,Cj]) al0))
  subst q;refine kB hS (A5 hS) Df Df 6 (.n (.a (((if (decide (0<(wrap .i64 ((wrap .i64 (c.tmod 4))-2)))) then 12 else 0):Int)==0)) (.a (l.1.Langs != (wrap .i64 (32+(wrap .i64 ((wrap .i64 (c.tmod 4))-2))))))) ?_;apply kI hS h<;>intro h
  .cases h;exact kR hS
  refine Ef hS Df (A5 hS) h 0 (fun z5=>⟨[(4,pB z5)],[]⟩) (fun M6 k5 z h=>?_) (fun z5 h=>?_)
  .refine kG hS h (fun h=>?_) (fun h=>?_)
   .refine kC hS h (F7 hS hL) (fun a4 h=>?_);exact z _ [] _ a4 Df h
   exact z _ [] _ false Df h
  cases h;exact kR hS
 apply kI hS h<;>intro h
 .refine G9 hS Df [1] ?_;obtain⟨a5,e15,h⟩:=B8 h;refine V7 Df (CA hS hL e15) ?_;obtain⟨c27,h⟩:=E8 h;obtain⟨b1,e16,h⟩:=B8 h;refine Sy [] c27 (FunO.le hS (args:=[(.p (.agg (B1 a5))),.p (.sl false 1 (wrap .i64 (256+(wrap .i64 ((wrap .i64 (c.tmod 4))-2)))).toNat (fun _=>[G1]))]) (by exact⟨.inl rfl,⟨SB rfl (fun _ _=>Ah0),trivial⟩⟩) (BI hS hL e16)) ?_;refine O0 Df ?_;apply kI hS h<;>intro h
  .refine Ef hS Df (A5 hS) h 0 (fun z6=>⟨[(4,pB z6)],[]⟩) (fun M7 k6 a0 h=>?_) (fun z6 h=>?_)
   .refine kG hS h (fun h=>?_) (fun h=>?_)
    .refine kC hS h (F7 hS hL) (fun a6 h=>?_);exact a0 _ [] _ a6 Df h
    exact a0 _ [] _ false Df h
   cases h;exact kR hS
  refine Ef hS Df (A5 hS) h 0 (fun z7=>⟨[(4,pB z7)],[]⟩) (fun M8 k7 a1 h=>?_) (fun z7 h=>?_)
  .refine kG hS h (fun h=>?_) (fun h=>?_)
   .refine kC hS h (F7 hS hL) (fun a7 h=>?_);exact a1 _ [] _ a7 Df h
   exact a1 _ [] _ false Df h
  cases h;exact kR hS
 refine kC hS h (Dh hS hL) (fun a8 h=>?_);refine J3 hS Df 22 11000 (B1 a8) ?_;refine QE hS Df 12000 [pI .u32 2,pI .u32 5] ?_;refine QE hS Df 13000 [pI .u32 5,pI .u32 2] ?_;refine G9 hS Df [0,1,2,7,8] ?_;refine W9 (And.intro (And.intro (by decide:(3:Nat)<=3) (by decide:(2:Nat)<=2)) (by decide:(2:Nat)<=2)) (x:=.sl true 2 2 (D3 [pI .u32 0,pI .u32 0] [(0,A1 (⟨2,5⟩:Eg)),(1,A1 (⟨5,2⟩:Eg))])) ?_;refine W9 Df (x:=.sl true 1 1 (D3 [G1] [(0,[.sl true 2 2 (D3 [pI .u32 0,pI .u32 0] [(0,A1 (⟨2,5⟩:Eg)),(1,A1 (⟨5,2⟩:Eg))])])])) ?_;obtain⟨b2,e22,h⟩:=B8 h;refine V7 Df (FunO.le hS (args:=[.p (.sl true 1 1 (D3 [G1] [(0,[.sl true 2 2 (D3 [pI .u32 0,pI .u32 0] [(0,A1 (⟨2,5⟩:Eg)),(1,A1 (⟨5,2⟩:Eg))])])])),pN (wrap .i64 (32+(wrap .i64 ((wrap .i64 (c.tmod 4))-2))))]) (by exact⟨SB rfl (fun i j=>match i,j with|0,_=>AJ2 rfl (fun i j=>match i,j with|0,_=>rfl|1,_=>rfl|_+2,j=>Bc j (by omega))|_+1,j=>Bc j (by omega)),⟨.inl rfl,trivial⟩⟩) (S5 hS hL e22)) ?_;obtain⟨f,e23,h⟩:=B8 h;refine V7 Df (BI hS hL e23) ?_;refine O0 Df ?_;refine J3 hS Df 36 14000 [pI .i64 f.1.Langs,vSl 1 (cI .u64) f.1.Has] ?_;obtain⟨t2,r⟩:∃x:Int,x=((if (decide (0<(wrap .i64 ((wrap .i64 (c.tmod 4))-2)))) then 12 else 0):Int):=⟨_,rfl⟩;refine LH hS Df (A5 hS) 0 ⟨[(13,.p (.ptr [pI .i64 f.1.Langs,vSl 1 (cI .u64) f.1.Has])),(8,pN t2),(7,pN f.2),(5,pN (wrap .i64 ((wrap .i64 (c.tmod 4))-2)))],[]⟩ (fun M9 a2=>?_) ?_
 .refine D9 hS Df (b:=decide (0<(wrap .i64 ((wrap .i64 (c.tmod 4))-2)))) (fun c36=>?_) (fun c36=>?_)
  .exact a2 _ [] _ Df (hle:=klR [(1,.eq (pI .i64 12) (pI .i64 t2))] (al1 (by simp only[r,c36,Leaf.ok,pm,Bq,Cj]) al0))
  exact a2 _ [] _ Df (hle:=klR [(1,.eq (pI .i64 0) (pI .i64 t2))] (al1 (by simp only[r,c36,Leaf.ok,pm,Bq,Cj]) al0))
 subst r;refine kB hS (A5 hS) Df Df 23 (.o (.n (.a (((if (decide (0<(wrap .i64 ((wrap .i64 (c.tmod 4))-2)))) then 12 else 0):Int)==0)) (.a ((f.1.Has.n:Int) != (wrap .i64 (64+(wrap .i64 (2*(wrap .i64 ((wrap .i64 (c.tmod 4))-2))))))))) (.n (.a (((if (decide (0<(wrap .i64 ((wrap .i64 (c.tmod 4))-2)))) then 12 else 0):Int) != 0)) (.o (.a (f.1.Langs != 0)) (.a ((f.1.Has.n:Int) != 0))))) ?_;apply kI hS h<;>intro h
 .cases h;exact kR hS
 refine Ef hS Df (A5 hS) h 0 (fun z8=>⟨[(4,pB z8)],[]⟩) (fun M10 k8 m h=>?_) (fun z8 h=>?_)
 .refine kG hS h (fun h=>?_) (fun h=>?_)
  .refine kC hS h (F7 hS hL) (fun a9 h=>?_);exact m _ [] _ a9 Df h
  exact m _ [] _ false Df h
 cases h;exact kR hS
end Go.AM
namespace Go.AM
set_option maxRecDepth 1000000
def Aj0:∀a:Fin 4,∀b:Fin 5,J4 4194304 (a.val:Int) (b.val:Int)=some true:=by decide +kernel
def Aj1 (N:Nat)(a b:Int):J4 N a b=J4 N (a.tmod 4) (b.tmod 5):=by unfold J4;rw[Bi7 a (Int.dvd_refl 4),Bi7 b (Int.dvd_refl 5)]
def QT (a b:Int)(ha:0<=a)(hb:0<=b):J4 4194304 a b=some true:=by
 rw[Aj1];have h1:0<=a.tmod 4:=Int.tmod_nonneg 4 ha;have c:a.tmod 4<4:=Bk9 a (by omega);have d:0<=b.tmod 5:=Int.tmod_nonneg 5 hb;have f:b.tmod 5<5:=Bk9 b (by omega)
 have:=Aj0 ⟨(a.tmod 4).toNat,by omega⟩ ⟨(b.tmod 5).toNat,by omega⟩
 rw[show ((a.tmod 4).toNat:Int)=a.tmod 4 by omega,show ((b.tmod 5).toNat:Int)=b.tmod 5 by omega]at this;exact this
end Go.AM
namespace Go.AM
open Go.RowKit Go.ChangeShapes Go.WideShapes Go.ChangeAt Go.Deep Go.Proofs Go.Proofs.YtfcfdofmgkpmbaaGreatDoor
section
variable {H:Type}{enc:TypeId×Value->H}{P:Program}{W:World}
theorem MQ {v:Value}{x:PV}(a:v.cells.toList=[v])(h:CRep W v.cells.toList [x]):RepP W (fun _ _=>False) v x:=by
 have:=(h.2 0 (by simp)).1
 rw[a]at this;exact this
end
end Go.AM
namespace Go.AM
open Go.RowKit Go.ChangeShapes Go.WideShapes Go.ChangeAt Go.Deep Go.Proofs Go.Proofs.YtfcfdofmgkpmbaaGreatDoor
namespace InMany
set_option maxRecDepth 100000
def contract (H:Type)(enc:TypeId×Value->H)(W:World)(base:Nat)(args:Array Value)(ds gs:List (DataW H))(before:List MemPlace)
 (a:∀(j:Nat) t v,Tryz.f12.params[j]? = some t->args[j]? = some v->Value.okWide Tryz.prog W .any base t v)
 (r:DataW.Whole enc Tryz.prog Tryz.f12.params.toList Rows.innovManySpec.vars false W args.toList ds gs before) (hk:Rows.uptoSmall H (ds++gs)=true) (hL:laidMetH Tryz.prog Rows.innovManyUptoRow.laid W) :
 Calls Tryz.prog 12 args W fun e W'=>∃v,e=.returned v/\Rows.innovManySpec.post enc Tryz.prog Tryz.f12 false true false false W args v W':=by
 have c:=r;obtain⟨p,q,d,w,rfl,x,y⟩:=r;have s:DataW.TrodAll enc Tryz.prog W 0 (fun _=>true) true Tryz.f12.params.toList args.toList ds p:=d;rw[Bl0]at s a;obtain⟨v0,vs0,d0,ds0,p0,q0,f,rfl,rfl,z,r0⟩:=trodAll_cons s;obtain⟨v1,vs1,d1,ds1,p1,q1,rfl,rfl,rfl,h1,r1⟩:=trodAll_cons r0;obtain⟨rfl,rfl,rfl⟩:=trodAll_nil r1;obtain rfl:args = #[v0,v1]:=by cases args;simp_all
 obtain⟨rfl,rfl⟩:=trodVars_none w;have hb:=of_decide_eq_true hk;simp only[AQ0,Rows.uptoBulkAll]at hb;obtain⟨_,g⟩:=okWide_int AQ2 (a 0 5 v0 rfl rfl);obtain⟨_,l⟩:=okWide_int AQ2 (a 1 5 v1 rfl rfl);obtain⟨fu0,g0⟩:=z;obtain⟨fu1,g1⟩:=h1;have u:WB Tryz.prog [5]=true:=by kernel_rfl
 have b:∀t∈([5]:List Nat),t<Tryz.prog.types.size:=by decide +kernel
 obtain⟨pv0,c0,sh0⟩:=Fk ZZ Aa0 u b fu0 5 _ _ (by simp) g0;obtain⟨x0,l0,w0,s0⟩:=P1 AQ2 _ _ sh0;have s0:1<=Rows.uptoBulk d0:=s0;have e0:=MQ (by rw[g];rfl) (c0.leD l0);obtain⟨pv1,c1,sh1⟩:=Fk ZZ Aa0 u b fu1 5 _ _ (by simp) g1;obtain⟨x1,l1,w1,s1⟩:=P1 AQ2 _ _ sh1;have s1:1<=Rows.uptoBulk d1:=s1;have e1:=MQ (by rw[l];rfl) (c1.leD l1);obtain⟨c0,m,a0⟩:=Ai9 w0;obtain⟨d0,n,a1⟩:=Ai9 w1;have hP:FunO (FL Tryz.prog) Bm [.p (pI .u8 x0),.p (pI .u8 x1)] [] (.p (.bb true)) [] []:=
  IM (Ar0 _) libC (by rw[m,n];exact QT (c0:Int) (d0:Int) (by omega) (by omega))
 have hc:=FM (args:=[pI .u8 x0,pI .u8 x1]) (enters_of DE (by decide +kernel) rfl) hP (W:=W) (vs:=#[v0,v1]) (Va hL) rfl (fun i hi=>by
  match i,hi with
  |0,_=>exact e0
  |1,_=>exact e1
  )
 refine hc.mono fun e W' ⟨he,o⟩=>?_;subst he;exact⟨_,rfl,QS rfl (by kernel_rfl) AU2 (by kernel_rfl) (by rw[Bl0];decide +kernel) c rfl o⟩
def own:ownKnob Tryz.prog.godebug=none:=by kernel_rfl
def reads (os:Os){H:Type}(enc:TypeId×Value->H):∃places,DataW.whole enc Tryz.prog ((World.laidAll Tryz.prog os Rows.innovManyUptoRow.laid).forCall (fun _ _=>0) ⟨#[],#[.int .u8 0,.int .u8 0],[]⟩).memory Tryz.f12.params.toList Rows.innovManySpec.vars false (#[.int .u8 0,.int .u8 0]:Array Value).toList 16=some ([.lit (.int .u8 0),.lit (.int .u8 0)],[],places):=
 ⟨[],by kernel_rfl⟩
def laid_met (os:Os):laidMet Tryz.prog Rows.innovManyUptoRow.laid ((World.laidAll Tryz.prog os Rows.innovManyUptoRow.laid).forCall (fun _ _=>0) ⟨#[],#[.int .u8 0,.int .u8 0],[]⟩).memory:=
 laidMet_laidAll _ (by kernel_rfl) (by kernel_rfl)
def liftedUpto (os:Os)(started:os.Started)(H:Type)(enc:TypeId×Value->H)(F:Stop.Interp) :ReturnsInHanded {} Tryz.checked os 12 .any ((Rows.OpenSpec.upto Rows.innovManySpec).preRow enc Tryz.prog Tryz.f12 Rows.innovManyUptoRow.domain false Rows.innovManyUptoRow.laid) (((Rows.OpenSpec.upto Rows.innovManySpec).at F).post enc Tryz.prog Tryz.f12 false true false false):=by
 obtain⟨places,hx⟩:=reads os enc;refine returnsInHanded_of_row (C:=Tryz.checked) (s:=Rows.OpenSpec.upto Rows.innovManySpec) own started (by kernel_rfl) Bj5
  (witness_row_at (enc:=enc) (C:=Tryz.checked) false (World.laidAll Tryz.prog os Rows.innovManyUptoRow.laid) #[.int .u8 0,.int .u8 0] (World.laidAll_os _ _ _) (by kernel_rfl) (by kernel_rfl) (by kernel_rfl)
   (AZ9 16 hx (by kernel_rfl) (fun k hk=>by cases hk;kernel_rfl) (by kernel_rfl) (laid_met os))) ?_
 intro W base args ds gs before b c _ a _ hL _ _;exact contract H enc W base args ds gs before b c (a _ rfl) hL
def gA:jA_ Tryz.pinned.checked.prog 12 Tryz.f12 (Rows.OpenSpec.upto Rows.innovManySpec).bare Rows.innovManyUptoRow=true:=by kernel_rfl
def gB:jB_ Tryz.pinned.checked.prog 12 Tryz.f12 (Rows.OpenSpec.upto Rows.innovManySpec).bare Rows.innovManyUptoRow=true:=by kernel_rfl
def gC:jC_ Tryz.pinned.checked.prog 12 Tryz.f12 (Rows.OpenSpec.upto Rows.innovManySpec).bare Rows.innovManyUptoRow=true:=by kernel_rfl
def gD:jD_ Tryz.pinned.checked.prog 12 Tryz.f12 (Rows.OpenSpec.upto Rows.innovManySpec).bare Rows.innovManyUptoRow=true:=by kernel_rfl
def gE:jE_ Tryz.pinned.checked.prog 12 Tryz.f12 (Rows.OpenSpec.upto Rows.innovManySpec).bare Rows.innovManyUptoRow=true:=by kernel_rfl
def gF:jF_ Tryz.pinned.checked.prog 12 Tryz.f12 (Rows.OpenSpec.upto Rows.innovManySpec).bare Rows.innovManyUptoRow=true:=by kernel_rfl
def saidUpto:Rows.InnovManyUptoSaid:=
 Ba2 12 Tryz.f12 rfl rfl rfl rfl rfl rfl rfl ⟨rfl,rfl,rfl,rfl,rfl⟩ rfl rfl rfl rfl rfl (by kernel_rfl) Bj5 (MP gA gB gC gD gE gF)
  (of_decide_eq_true (by kernel_rfl)) (by unfold Func.isWrapper;first|(rw[Az (by decide +kernel)];kernel_rfl)|(rw[Bb (by decide +kernel)];exact⟨rfl,rfl⟩))
  (fun os started H enc _ F=>by rw[Ba5];exact liftedUpto os started H enc F)
def plain (f:FuncId)(fn:Func)(b:Tryz.pinned.checked.prog.funcNamed "ablaut/ablautlaw31.InnovMany" = some f)(a:Tryz.pinned.checked.prog.funcs[f]? = some fn) :true=Tryz.pinned.checked.prog.looks []/\∀(j:Nat) t,fn.params[j]? = some t->Tryz.pinned.checked.prog.wantsStandIn t=false:=by
 obtain rfl:f=12:=AM8 ((show Tryz.prog.funcNamed "ablaut/ablautlaw31.InnovMany" = some 12 by kernel_rfl).symm.trans b) |>.symm;obtain rfl:fn=Tryz.f12:=(AM8 (Tryz.func12.symm.trans a)).symm;refine⟨by kernel_rfl,fun j t ht=>?_⟩;rw[Bl0]at ht;have hm:=AW8 ht;simp only[Bg3,AO3,Bg6,or_false]at hm;rcases hm with rfl|rfl
 .exact (show Tryz.prog.wantsStandIn 5=false by kernel_rfl)
 exact (show Tryz.prog.wantsStandIn 5=false by kernel_rfl)
def cardUpto:Rows.InnovManyUptoCardSaid:=
 AX7 .later [] _ _ _ _ saidUpto (fun _ h=>by cases h) (by kernel_rfl) (fun _ h=>by cases h) innovManyUpto_row_tie rfl ⟨rfl,rfl⟩ (by kernel_rfl) rfl plain (by kernel_rfl)
end InMany
end Go.AM
