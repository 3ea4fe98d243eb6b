/- What a law's walk and its plain proof need, part 8: no condition of its own. -/
import Derived.Test.YtlbooedblpdmaaaGreatDoorAG
import Derived.Test.YtlbooedblpdmaaaGreatDoorAF
set_option linter.defProp false
set_option linter.unusedSimpArgs false
set_option linter.unusedVariables false
set_option linter.unusedSectionVars false
namespace Go.AM
def Sp:=@decide_eq_true_eq
theorem Fq{c:Prop}{i:Decidable c}{α:Sort _}{a b:α}(h:¬c:=by simp;omega):(if c then a else b)=b:=Ix h
theorem Fp{c:Prop}{i:Decidable c}{α:Sort _}{a b:α}(h:¬c:=by omega):(if c then a else b)=b:=Ix h
theorem Cx{c:Prop}{i:Decidable c}{α:Sort _}{a b:α}(h:c:=by simp;omega):(if c then a else b)=a:=Il h
theorem Cw{c:Prop}{i:Decidable c}{α:Sort _}{a b:α}(h:c:=by omega):(if c then a else b)=a:=Il h
def Cn5:=@BitVec.getLsbD_or
def Cp7:=@Nat.not_lt_zero
def Cr2:=@BitVec.getLsbD_not
def Cr4:=@List.length_filter_le
def Ct4:=@List.filter_cons_of_neg
def Cx0:=@List.filter_cons_of_pos
def Cx1:=@Nat.div_le_self
def Cx4:=@List.reverse_append
def Cy3:=@Classical.axiomOfChoice
def CB5:=@Bool.or_eq_false_iff
def CE6:=@List.filter_eq_nil_iff
def CF3:=@Bool.not_eq_true
def CF4:=@List.mem_reverse
def CF9:=@List.cons.inj
def CG4:=@BitVec.getLsbD_zero
def CH0:=@Nat.lt_of_le_of_lt
def CH9:=@List.filter_congr
def CI0:=@List.mem_range'_1
def CI7:=@Nat.testBit_two_pow_mul
def CK0:=@Nat.testBit_lt_two_pow
def CK1:=@List.reverse_singleton
def CK8:=@Bool.and_eq_false_iff
def CK9:=@List.singleton_append
def CL3:=@BitVec.getLsbD_of_ge
def CL8:=@Nat.div_eq_zero_iff
open Go.Proofs
set_option maxRecDepth 10000
set_option maxHeartbeats 2000000
variable {S:W1}(hS:H9 S Tryz.prog) (hL:GD S)
include hS hL
def E1 (N:Nat)  : Option Bool:= (Jh N ).bind fun y1=>(Jg N ).bind fun y2=>(Wt N ).bind fun y3=>(Jg N ).bind fun y4=>(HR N (Sl.of [y2,y3,y4]:Sl To)).bind fun y5=>(Jg N ).bind fun y6=>(As3 N ).bind fun y7=>(HR N (Sl.of [y6,y7]:Sl To)).bind fun y8=>(Ji N (Sl.of [y8,y5]:Sl E6)).bind fun y9=>(Jg N ).bind fun j=>(Wt N ).bind fun l=>(HR N (Sl.of [j,l]:Sl To)).bind fun m=>(Ji N (Sl.of [m,y5]:Sl E6)).bind fun c=>(G2 N y1 (Sl.of [y5]:Sl E6) (Sl.of [y9]:Sl Entry) 5).bind fun d=>(G2 N y1 (Sl.of [y5]:Sl E6) (Sl.of [c]:Sl Entry) 5).bind fun f=>(O3 N y1 (Sl.of [y5]:Sl E6) (Sl.of [c]:Sl Entry)).bind fun a=>(L0 N y1 (Sl.of [y5]:Sl E6) (Sl.of [y9]:Sl Entry)).bind fun i=>if ((0:Int)<=0/\0<((Sl.of [y9]:Sl Entry).n:Int))then (Wt N ).bind fun o=>(Jg N ).bind fun q=>(Jg N ).bind fun r=>(As3 N ).bind fun s=>(Jg N ).bind fun t=>(Ap N y1 ((Sl.of [y9]:Sl Entry).g 0) (Sl.of [(Sl.of [o,q]:Sl To),y5.W,(Sl.of [r,s,t]:Sl To)]:Sl (Sl To))).bind fun b=>lt (fun (z1:Bool)=>some z1) fun k1=>if (d.2==0) then if (f.2==0) then if (a.2==0) then if (i.2==0) then if (b.2.2==0) then if ((d.1.n:Int)==0) then (FG N f.1 (Sl.of [(⟨0,0,1,5⟩:A3)]:Sl A3)).bind fun u=>if u then if (((a.1.N==1)&&(a.1.D==2)) != false) then (BY N i.1 (Sl.of [1,1]:Sl Int)).bind fun v=>if v then if (b.1==1) then k1 (b.2.1==2) else k1 false else k1 false else k1 false else k1 false else k1 false else k1 false else k1 false else k1 false else k1 false else k1 false else none
theorem N0 {N:Nat}    {y:Bool}(h:E1 N  = some y) :FunO S VO [] [] (pB y) ([]) []:=by
 unfold E1 at h;refine A1 hS Tryz.func16 ?_;refine kC hS h (As4 hS hL) (fun y1 h=>?_);refine D8 hS T3 17 2000 (A4 y1) ?_;refine kC hS h (OH hS hL) (fun y2 h=>?_);refine kC hS h (AQ4 hS hL) (fun y3 h=>?_);refine kC hS h (OH hS hL) (fun y4 h=>?_);refine Da hS (rfl:true=true) ⟨[(20,.vec 21000),(1,.p (.ptr (A4 y1)))],[(21000,.vec B0 2 (Sl.of [y2,y3,y4]:Sl To).n (fun i=>A0 ((Sl.of [y2,y3,y4]:Sl To).g i)) false)]⟩ (ids:=[(21000,21000)]) ?_ (hle:=klR [(1,.fn 3 (Sl.of [y2,y3,y4]:Sl To).n (D0 [pI .u32 0,pI .u32 0] [(0,A0 y2),(1,A0 y3),(2,A0 y4)]) (fun i=>A0 ((Sl.of [y2,y3,y4]:Sl To).g i)))] (al1 ⟨rfl,(fun i a=>match i,a with|0,_=>rfl|1,_=>rfl|2,_=>rfl|_+3,a=>Kh a (by omega))⟩ al0));refine kC hS h (Rt hS hL) (fun y5 h=>?_);refine Bq0 hS T3 3000 [.bb y5.Has,vSl 2 A0 y5.W] ?_;refine C5 hS T3 [0,1,3,4,6,8,9,11,12,14] ?_;obtain⟨y6,e6,h⟩:=B1 h;refine F8 T3 (OH hS hL e6) ?_;obtain⟨y7,e7,h⟩:=B1 h;refine F8 T3 (Br9 hS hL e7) ?_;refine Aj T3 (x:=.sl true 2 2 (D0 [pI .u32 0,pI .u32 0] [(0,A0 y6),(1,A0 y7)])) ?_;obtain⟨y8,e8,h⟩:=B1 h;refine F8 T3 (FunO.le hS (args:=[.p (.sl true 2 2 (D0 [pI .u32 0,pI .u32 0] [(0,A0 y6),(1,A0 y7)]))]) (by exact⟨Ag0 rfl (fun i a=>match i,a with|0,_=>rfl|1,_=>rfl|_+2,a=>Kh a (by omega)),trivial⟩) (Rt hS hL e8)) ?_;refine Aj (by decide:(2:Nat)<=2) (x:=.sl true 2 2 (D0 [.v (.bool false),G6] [(0,C6 y8),(1,C6 y5)])) ?_;obtain⟨y9,e9,h⟩:=B1 h;refine F8 T3 (FunO.le hS (args:=[.p (.sl true 2 2 (D0 [.v (.bool false),G6] [(0,C6 y8),(1,C6 y5)]))]) (by exact⟨Ag0 rfl (fun i a=>match i,a with|0,_=>rfl|1,_=>rfl|_+2,a=>Kh a (by omega)),trivial⟩) (Wu hS hL e9)) ?_;refine Aj T3 (x:=.sl true 2 1 (D0 [.str [],G6] [(0,B7 y9)])) ?_;obtain⟨w,e10,h⟩:=B1 h;refine F8 T3 (OH hS hL e10) ?_;obtain⟨z,e11,h⟩:=B1 h;refine F8 T3 (AQ4 hS hL e11) ?_;refine Aj T3 (x:=.sl true 2 2 (D0 [pI .u32 0,pI .u32 0] [(0,A0 w),(1,A0 z)])) ?_;obtain⟨a0,e12,h⟩:=B1 h;refine F8 T3 (FunO.le hS (args:=[.p (.sl true 2 2 (D0 [pI .u32 0,pI .u32 0] [(0,A0 w),(1,A0 z)]))]) (by exact⟨Ag0 rfl (fun i a=>match i,a with|0,_=>rfl|1,_=>rfl|_+2,a=>Kh a (by omega)),trivial⟩) (Rt hS hL e12)) ?_;refine Aj (by decide:(2:Nat)<=2) (x:=.sl true 2 2 (D0 [.v (.bool false),G6] [(0,C6 a0),(1,C6 y5)])) ?_;obtain⟨j,e13,h⟩:=B1 h;refine F8 T3 (FunO.le hS (args:=[.p (.sl true 2 2 (D0 [.v (.bool false),G6] [(0,C6 a0),(1,C6 y5)]))]) (by exact⟨Ag0 rfl (fun i a=>match i,a with|0,_=>rfl|1,_=>rfl|_+2,a=>Kh a (by omega)),trivial⟩) (Wu hS hL e13)) ?_;refine Aj T3 (x:=.sl true 2 1 (D0 [.str [],G6] [(0,B7 j)])) ?_;refine D9 T3 ?_;refine Da hS (And.intro (And.intro (by decide:(3:Nat)<=3) (by decide:(2:Nat)<=2)) (rfl:true=true)) ⟨[(42,.p (vSl 2 B7 (Sl.of [y9]:Sl Entry))),(41,.vec 42000),(39,.p (.agg (A4 y1))),(4,.p (vSl 2 B7 (Sl.of [j]:Sl Entry))),(3,.p (vSl 2 B7 (Sl.of [y9]:Sl Entry))),(2,.p (.ptr [.bb y5.Has,vSl 2 A0 y5.W])),(1,.p (.ptr (A4 y1)))],[(42000,.vec Ee 2 (Sl.of [y5]:Sl E6).n (fun i=>C6 ((Sl.of [y5]:Sl E6).g i)) false)]⟩ (ids:=[(42000,42000)]) ?_ (hle:=klR [(0,.fn 1 (Sl.of [y9]:Sl Entry).n (D0 [.str [],G6] [(0,B7 y9)]) (fun i=>B7 ((Sl.of [y9]:Sl Entry).g i))),(2,.fn 1 (Sl.of [j]:Sl Entry).n (D0 [.str [],G6] [(0,B7 j)]) (fun i=>B7 ((Sl.of [j]:Sl Entry).g i))),(3,.fn 1 (Sl.of [y9]:Sl Entry).n (D0 [.str [],G6] [(0,B7 y9)]) (fun i=>B7 ((Sl.of [y9]:Sl Entry).g i))),(6,.fn 1 (Sl.of [y5]:Sl E6).n (D0 [.v (.bool false),G6] [(0,C6 y5)]) (fun i=>C6 ((Sl.of [y5]:Sl E6).g i)))] (al1 ⟨rfl,(fun i a=>match i,a with|0,_=>rfl|_+1,a=>Kh a (by omega))⟩ (al1 ⟨rfl,(fun i a=>match i,a with|0,_=>rfl|_+1,a=>Kh a (by omega))⟩ (al1 ⟨rfl,(fun i a=>match i,a with|0,_=>rfl|_+1,a=>Kh a (by omega))⟩ (al1 ⟨rfl,(fun i a=>match i,a with|0,_=>rfl|_+1,a=>Kh a (by omega))⟩ al0)))));refine kC hS h (U6 hS hL) (fun d h=>?_);refine Da hS (And.intro (And.intro (by decide:(3:Nat)<=3) (by decide:(2:Nat)<=2)) (rfl:true=true)) ⟨[(50,.p (vSl 2 B7 (Sl.of [j]:Sl Entry))),(49,.vec 50000),(47,.p (.agg (A4 y1))),(6,pN d.2),(5,.vec 44000),(4,.p (vSl 2 B7 (Sl.of [j]:Sl Entry))),(3,.p (vSl 2 B7 (Sl.of [y9]:Sl Entry))),(2,.p (.ptr [.bb y5.Has,vSl 2 A0 y5.W])),(1,.p (.ptr (A4 y1)))],[(50000,.vec Ee 2 (Sl.of [y5]:Sl E6).n (fun i=>C6 ((Sl.of [y5]:Sl E6).g i)) false),(44000,.vec B5 4 d.1.n (fun i=>A9 (d.1.g i)) false)]⟩ (ids:=[(44000,44000),(50000,50000)]) ?_ (hle:=klR [(7,.fn 1 (Sl.of [y5]:Sl E6).n (D0 [.v (.bool false),G6] [(0,C6 y5)]) (fun i=>C6 ((Sl.of [y5]:Sl E6).g i)))] (al1 ⟨rfl,(fun i a=>match i,a with|0,_=>rfl|_+1,a=>Kh a (by omega))⟩ al0));refine kC hS h (U6 hS hL) (fun l h=>?_);refine Da hS (And.intro (And.intro (by decide:(3:Nat)<=3) (by decide:(2:Nat)<=2)) (rfl:true=true)) ⟨[(58,.p (vSl 2 B7 (Sl.of [j]:Sl Entry))),(57,.vec 58000),(55,.p (.agg (A4 y1))),(8,pN l.2),(7,.vec 52000),(6,pN d.2),(5,.vec 44000),(3,.p (vSl 2 B7 (Sl.of [y9]:Sl Entry))),(2,.p (.ptr [.bb y5.Has,vSl 2 A0 y5.W])),(1,.p (.ptr (A4 y1)))],[(58000,.vec Ee 2 (Sl.of [y5]:Sl E6).n (fun i=>C6 ((Sl.of [y5]:Sl E6).g i)) false),(52000,.vec B5 4 l.1.n (fun i=>A9 (l.1.g i)) false),(44000,.vec B5 4 d.1.n (fun i=>A9 (d.1.g i)) false)]⟩ (ids:=[(44000,44000),(52000,52000),(58000,58000)]) ?_ (hle:=klR [(7,.fn 1 (Sl.of [y5]:Sl E6).n (D0 [.v (.bool false),G6] [(0,C6 y5)]) (fun i=>C6 ((Sl.of [y5]:Sl E6).g i)))] (al1 ⟨rfl,(fun i a=>match i,a with|0,_=>rfl|_+1,a=>Kh a (by omega))⟩ al0));refine kC hS h (Jj hS hL) (fun f h=>?_);refine D8 hS T3 10 10000 [pI .i64 f.1.N,pI .i64 f.1.D] ?_;refine Da hS (And.intro (And.intro (by decide:(3:Nat)<=3) (by decide:(2:Nat)<=2)) (rfl:true=true)) ⟨[(66,.p (vSl 2 B7 (Sl.of [y9]:Sl Entry))),(65,.vec 66000),(63,.p (.agg (A4 y1))),(10,pN f.2),(9,.p (.ptr [pI .i64 f.1.N,pI .i64 f.1.D])),(8,pN l.2),(7,.vec 52000),(6,pN d.2),(5,.vec 44000),(3,.p (vSl 2 B7 (Sl.of [y9]:Sl Entry))),(2,.p (.ptr [.bb y5.Has,vSl 2 A0 y5.W])),(1,.p (.ptr (A4 y1)))],[(66000,.vec Ee 2 (Sl.of [y5]:Sl E6).n (fun i=>C6 ((Sl.of [y5]:Sl E6).g i)) false),(52000,.vec B5 4 l.1.n (fun i=>A9 (l.1.g i)) false),(44000,.vec B5 4 d.1.n (fun i=>A9 (d.1.g i)) false)]⟩ (ids:=[(44000,44000),(52000,52000),(66000,66000)]) ?_ (hle:=klR [(9,.fn 1 (Sl.of [y5]:Sl E6).n (D0 [.v (.bool false),G6] [(0,C6 y5)]) (fun i=>C6 ((Sl.of [y5]:Sl E6).g i)))] (al1 ⟨rfl,(fun i a=>match i,a with|0,_=>rfl|_+1,a=>Kh a (by omega))⟩ al0));refine kC hS h (Hr hS hL) (fun o h=>?_);refine C5 hS T3 [0,2,3,4,5,8,9,10,11,14] ?_;obtain⟨c1,h⟩:=C7 h;obtain⟨q,e18,h⟩:=B1 h;refine F8 (And.intro (And.intro (by decide:(3:Nat)<=3) c1) (by decide:(2:Nat)<=2)) (AQ4 hS hL e18) ?_;obtain⟨r,e19,h⟩:=B1 h;refine F8 T3 (OH hS hL e19) ?_;refine Aj T3 (x:=.sl true 2 2 (D0 [pI .u32 0,pI .u32 0] [(0,A0 q),(1,A0 r)])) ?_;obtain⟨s,e20,h⟩:=B1 h;refine F8 T3 (OH hS hL e20) ?_;obtain⟨t,e21,h⟩:=B1 h;refine F8 T3 (Br9 hS hL e21) ?_;obtain⟨u,e22,h⟩:=B1 h;refine F8 T3 (OH hS hL e22) ?_;refine Aj T3 (x:=.sl true 2 3 (D0 [pI .u32 0,pI .u32 0] [(0,A0 s),(1,A0 t),(2,A0 u)])) ?_;refine Aj T3 (x:=.sl true 1 3 (D0 [G6] [(0,[.sl true 2 2 (D0 [pI .u32 0,pI .u32 0] [(0,A0 q),(1,A0 r)])]),(1,[vSl 2 A0 y5.W]),(2,[.sl true 2 3 (D0 [pI .u32 0,pI .u32 0] [(0,A0 s),(1,A0 t),(2,A0 u)])])])) ?_;obtain⟨m,e23,h⟩:=B1 h;refine F8 T3 (FunO.le hS (args:=[(.p (.agg (A4 y1))),.p (.agg (B7 ((Sl.of [y9]:Sl Entry).g 0))),.p (.sl true 1 3 (D0 [G6] [(0,[.sl true 2 2 (D0 [pI .u32 0,pI .u32 0] [(0,A0 q),(1,A0 r)])]),(1,[vSl 2 A0 y5.W]),(2,[.sl true 2 3 (D0 [pI .u32 0,pI .u32 0] [(0,A0 s),(1,A0 t),(2,A0 u)])])]))]) (by exact⟨.inl rfl,⟨.inl rfl,⟨Cd0 rfl (fun i a=>match i,a with|0,_=>leC1 rfl (fun i a=>match i,a with|0,_=>rfl|1,_=>rfl|_+2,a=>Kh a (by omega))|1,_=>leC1 rfl (fun _ _=>rfl)|2,_=>leC1 rfl (fun i a=>match i,a with|0,_=>rfl|1,_=>rfl|2,_=>rfl|_+3,a=>Kh a (by omega))|_+3,a=>Kh a (by omega)),trivial⟩⟩⟩) (Qc hS hL e23)) ?_;refine D9 T3 ?_;refine Ai hS T3 (A2 hS) h 0 (fun z1=>⟨[(0,pB z1)],[]⟩) (fun M1 k1 c h=>?_) (fun z1 h=>?_)
 .refine kG hS h (fun h=>?_) (fun h=>?_)
  .refine kG hS h (fun h=>?_) (fun h=>?_)
   .refine kG hS h (fun h=>?_) (fun h=>?_)
    .refine kG hS h (fun h=>?_) (fun h=>?_)
     .refine kG hS h (fun h=>?_) (fun h=>?_)
      .refine kG hS h (fun h=>?_) (fun h=>?_)
       .refine Da hS (rfl:true=true) ⟨[(115,.vec 116000),(113,.vec 52000),(112,.p (.v (.bool true))),(14,pN m.2.1),(13,pN m.1),(11,.vec 68000),(9,.p (.ptr [pI .i64 f.1.N,pI .i64 f.1.D]))],[(116000,.vec B5 4 (Sl.of [(⟨0,0,1,5⟩:A3)]:Sl A3).n (fun i=>A9 ((Sl.of [(⟨0,0,1,5⟩:A3)]:Sl A3).g i)) false),(68000,.vec B8 1 o.1.n (fun i=>cI .i64 (o.1.g i)) true),(52000,.vec B5 4 l.1.n (fun i=>A9 (l.1.g i)) false)]⟩ (ids:=[(52000,52000),(68000,68000),(116000,116000)]) ?_ (hle:=klR [(4,.fn 1 (Sl.of [(⟨0,0,1,5⟩:A3)]:Sl A3).n (D0 [pI .i64 0,pI .i64 0,pI .i64 0,pI .i64 0] [(0,A9 (⟨0,0,1,5⟩:A3))]) (fun i=>A9 ((Sl.of [(⟨0,0,1,5⟩:A3)]:Sl A3).g i)))] (al1 ⟨rfl,(fun i a=>match i,a with|0,_=>rfl|_+1,a=>Kh a (by omega))⟩ al0));refine kC hS h (Aj7 hS hL) (fun a1 h=>?_);refine kG hS h (fun h=>?_) (fun h=>?_)
        .refine X9 hS (And.intro (by decide:(2:Nat)<=2) (by decide +kernel:AJ4 Tryz.prog Ro=true)) (b:=((f.1.N==1)&&(f.1.D==2)) != false) (fun c25=>?_) (fun c25=>?_)
         .replace h:=itT c25 h;refine Da hS (rfl:true=true) ⟨[(125,.vec 126000),(124,.vec 68000),(123,.p (.v (.bool true))),(14,pN m.2.1),(13,pN m.1)],[(126000,.vec B8 1 (Sl.of [1,1]:Sl Int).n (fun i=>cI .i64 ((Sl.of [1,1]:Sl Int).g i)) false),(68000,.vec B8 1 o.1.n (fun i=>cI .i64 (o.1.g i)) true)]⟩ (ids:=[(68000,68000),(126000,126000)]) ?_ (hle:=klR [(3,.fn 2 (Sl.of [1,1]:Sl Int).n (D0 [pI .i64 0] [(0,cI .i64 1),(1,cI .i64 1)]) (fun i=>cI .i64 ((Sl.of [1,1]:Sl Int).g i)))] (al1 ⟨rfl,(fun i a=>match i,a with|0,_=>rfl|1,_=>rfl|_+2,a=>Kh a (by omega))⟩ al0));refine kC hS h (Qb hS hL) (fun a2 h=>?_);refine kG hS h (fun h=>?_) (fun h=>?_)
          .refine kG hS h (fun h=>?_) (fun h=>?_)
           .exact c _ [] _ (m.2.1==2) T3 h
           exact c _ [] _ false T3 h
          exact c _ [] _ false T3 h
         replace h:=itF c25 h;exact c _ [] _ false T3 h
        exact c _ [] _ false T3 h
       exact c _ [] _ false T3 h
      exact c _ [] _ false T3 h
     exact c _ [] _ false T3 h
    exact c _ [] _ false T3 h
   exact c _ [] _ false T3 h
  exact c _ [] _ false T3 h
 cases h;exact kR hS
end Go.AM
namespace Go.AM
open Go.Proofs
set_option maxRecDepth 100000
def Em:E1 4194304=some true:=by decide +kernel
end Go.AM
namespace Go.AM
open IntKind (wrap)
open Go.Proofs
def Bs0 {A R:Type}{body:(A->Option R)->A->Option R}(I:Nat->A->Prop)(n:Nat)(O8:R->Prop)
 (b:∀self i a,i<=n->I i a->(i<n->∀a',I (i+1) a' -> ∃r,self a' = some r/\O8 r)->∃r,body self a=some r/\O8 r) :
 ∀(N i:Nat) (a:A),i<=n->I i a->n-i<N->∃r,T9 N body a=some r/\O8 r
 |0,_,_,_,_,h=>by omega
 |N+1,i,a,hi,hI,h=>by rw[V2];exact b _ i a hi hI fun c a' d=>Bs0 I n O8 b N (i+1) a' c d (by omega)
def Aq {A R:Type}{body:(A->Option R)->A->Option R}(I:Nat->A->Prop)(n:Nat)(O8:R->Prop){N:Nat}(c:n<N){a:A}(d:I 0 a)
 (b:∀self i a,i<=n->I i a->(i<n->∀a',I (i+1) a' -> ∃r,self a' = some r/\O8 r)->∃r,body self a=some r/\O8 r):∃r,T9 N body a=some r/\O8 r:=
 Bs0 I n O8 b N 0 a (Cx3 _) d c
def N4 {A B R:Type}{body:(A->B->Option R)->A->B->Option R}(I:Nat->A->B->Prop)(n:Nat)(O8:R->Prop){N:Nat}(g:n<N){a:A}{b:B}(j:I 0 a b)
 (d:∀c i a b,i<=n->I i a b->(i<n->∀a' b',I (i+1) a' b' -> ∃r,c a' b' = some r/\O8 r)->∃r,body c a b=some r/\O8 r):∃r,P9 N body a b=some r/\O8 r:=
 Bs0 (fun i x=>I i x.1 x.2) n O8 (fun c i x l m h=>d (fun a b=>c (a,b)) i x.1 x.2 l m fun hl a' b' f=>h hl (a',b') f) N 0 (a,b) (Cx3 _) j g
def KU {A B C R:Type}{body:(A->B->C->Option R)->A->B->C->Option R}(I:Nat->A->B->C->Prop)(n:Nat)(O8:R->Prop){N:Nat}(j:n<N){a:A}{b:B}{c:C}(l:I 0 a b c)
 (f:∀d i a b c,i<=n->I i a b c->(i<n->∀a' b' c',I (i+1) a' b' c' -> ∃r,d a' b' c' = some r/\O8 r)->∃r,body d a b c=some r/\O8 r):∃r,Zb N body a b c=some r/\O8 r:=
 Bs0 (fun i x=>I i x.1 x.2.1 x.2.2) n O8 (fun d i x m o h=>f (fun a b c=>d (a,b,c)) i x.1 x.2.1 x.2.2 m o fun hl a' b' c' g=>h hl (a',b',c') g) N 0 (a,b,c) (Cx3 _) l j
def B4 {X R:Type}{Q:R->Prop}{o:Option X}{f:X->Option R}{x:X}(h:o=some x)(a:∃r,f x=some r/\Q r):∃r,o.bind f=some r/\Q r:=by subst h;exact a
def ltX {R A:Type}{Q:R->Prop}{k:A->Option R}{f:(A->Option R)->Option R}(h:∃r,f k=some r/\Q r):∃r,lt k f=some r/\Q r:=h
def ifT {R:Type}{Q:R->Prop}{p:Prop}[Decidable p]{a b:Option R}(h:p)(c:∃r,a=some r/\Q r):∃r,(if p then a else b)=some r/\Q r:=by rw[Il h];exact c
def Bf{R:Type}{Q:R->Prop}{p:Prop}[Decidable p]{a b:Option R}(h2:∃ r,a=some r/\Q r)(h:p:=by decide):∃ r,(if p then a else b)=some r/\Q r:=ifT h h2
def Ay{R:Type}{Q:R->Prop}{p:Prop}[Decidable p]{a b:Option R}(h2:∃ r,a=some r/\Q r)(h:p:=by simp):∃ r,(if p then a else b)=some r/\Q r:=ifT h h2
def Ax{R:Type}{Q:R->Prop}{p:Prop}[Decidable p]{a b:Option R}(h2:∃ r,a=some r/\Q r)(h:p:=by simp;omega):∃ r,(if p then a else b)=some r/\Q r:=ifT h h2
def Ab{R:Type}{Q:R->Prop}{p:Prop}[Decidable p]{a b:Option R}(h2:∃ r,a=some r/\Q r)(h:p:=by omega):∃ r,(if p then a else b)=some r/\Q r:=ifT h h2
def ifF {R:Type}{Q:R->Prop}{p:Prop}[Decidable p]{a b:Option R}(h:¬p)(c:∃r,b=some r/\Q r):∃r,(if p then a else b)=some r/\Q r:=by rw[Ix h];exact c
def Ck{R:Type}{Q:R->Prop}{p:Prop}[Decidable p]{a b:Option R}(h2:∃ r,b=some r/\Q r)(h:¬p:=by decide):∃ r,(if p then a else b)=some r/\Q r:=ifF h h2
def Ci{R:Type}{Q:R->Prop}{p:Prop}[Decidable p]{a b:Option R}(h2:∃ r,b=some r/\Q r)(h:¬p:=by simp):∃ r,(if p then a else b)=some r/\Q r:=ifF h h2
def Bm{R:Type}{Q:R->Prop}{p:Prop}[Decidable p]{a b:Option R}(h2:∃ r,b=some r/\Q r)(h:¬p:=by simp;omega):∃ r,(if p then a else b)=some r/\Q r:=ifF h h2
def Bg{R:Type}{Q:R->Prop}{p:Prop}[Decidable p]{a b:Option R}(h2:∃ r,b=some r/\Q r)(h:¬p:=by omega):∃ r,(if p then a else b)=some r/\Q r:=ifF h h2
def E8 {n:Int}(h : -9223372036854775808<=n)(h' : n<=9223372036854775807):IntKind.i64.wrap n=n:=by
 by_cases a:0<=n
 .have h1:n % (2 ^ 64:Int)=n:=CD1 a (by omega);unfold wrap;simp only[IntKind.bits,IntKind.signed,h1];rw[Ix];simp;omega
 have h1:n % (2 ^ 64:Int)=n+2 ^ 64:=by rw[<- Int.add_emod_right];exact CD1 (by omega) (by omega)
 unfold wrap;simp only[IntKind.bits,IntKind.signed,h1];rw[Il]
 .omega
 simp;omega
def C9 {i:Nat}(h:i<1000000000000000000):IntKind.i64.wrap ((i:Int)+1)=((i+1:Nat):Int):=by rw[E8 (by omega) (by omega)];rfl
def Cl{i:Nat}(h:i<1000000000000000000:=by omega):IntKind.i64.wrap ((i:Int)+1)=((i+1:Nat):Int):=C9 h
def BW8 {i:Nat}(a:1<=i)(h:i<1000000000000000000):IntKind.i64.wrap ((i:Int)-1)=((i-1:Nat):Int):=by rw[E8 (by omega) (by omega)];omega
def GF {i j:Nat}(h:i+j<1000000000000000000):IntKind.i64.wrap ((i:Int)+(j:Int))=((i+j:Nat):Int):=by rw[E8 (by omega) (by omega)];rfl
def AY6 {N n:Nat}(hn:n<=32)(f:1000<=N):∃s,AJ N (n:Int)=some s/\s.n=n+1/\TabR n (fun a b=>a=b) s.g:=by
 unfold AJ;rw[Cl];refine Ab ?_;refine N4 (fun i x1 x2=>x2=(i:Int)/\x1.n=n+1/\∀a,a<i->x1.g a=U (1#64 <<< a)) (n+1) _ (by omega) ⟨rfl,by show ((n+1:Nat):Int).toNat=n+1;omega,fun a ha=>Kh ha (by omega)⟩ ?_;rintro c i x1 x2 j ⟨rfl,h1,d⟩ hs;by_cases hl:i<=n
 .refine Ax (ifT ⟨⟨by omega,by omega,by omega⟩,by omega⟩ (hs (by omega) _ _ ⟨Cl,h1,fun a ha=>?_⟩));show (if a=(i:Int).toNat then shI .shl .u64 1 (i:Int)else x1.g a)=_;by_cases e:a=i
  .subst e;rw[Cw,AC7 _ (by omega)]
  rw[Fp];exact d a (by omega)
 refine Bm ⟨x1,rfl,h1,fun a ha=>⟨1#64 <<< a,d a (by omega),fun b hb=>?_⟩⟩;rw[KO (by omega) hb,Sp];omega
def BG7 {n:Nat}{f:Nat->Int}(h:∀a,a<=n->f a=0):TabR n (fun _ _=>False) f:=fun a ha=>⟨0#64,h a ha,fun b hb=>by simp⟩
def AY7 {N n:Nat}{R S:Nat->Nat->Prop}{x y:Sl Int}(hn:n<=32)(f:1000<=N)(hx:x.n=n+1)(hy:y.n=n+1)(hR:TabR n R x.g)(hS:TabR n S y.g) :∃s,AK N x y=some s/\s.n=n+1/\TabR n (fun a b=>R a b \/ S a b) s.g:=by
 unfold AK;refine Ab ?_;refine N4 (fun i x1 x2=>x2=(i:Int)/\x1.n=n+1/\∀a,a<i->x1.g a=E9 .or .u64 (x.g a) (y.g a)) (n+1) _ (by omega) ⟨rfl,by show (x.n:Int).toNat=n+1;omega,fun a ha=>Kh ha (by omega)⟩ ?_;rintro d i x1 x2 j ⟨rfl,h1,c⟩ hs;by_cases hl:i<=n
 .refine Ax (Ab (hs (by omega) _ _ ⟨Cl,h1,fun a ha=>?_⟩));show (if a=(i:Int).toNat then _ else x1.g a)=_;by_cases e:a=i
  .subst e;rw[Cw,Cl2]
  rw[Fp];exact c a (by omega)
 refine Bm ⟨x1,rfl,h1,fun a ha=>?_⟩;obtain⟨u,e1,g1⟩:=hR a ha;obtain⟨v,e2,g2⟩:=hS a ha;refine⟨u ||| v,by rw[c a (by omega),e1,e2,Ck7],fun b hb=>?_⟩;rw[Cn5,Co3,g1 b hb,g2 b hb];constructor
 .rintro (⟨h1,c⟩ | ⟨h1,c⟩)
  .exact⟨h1,.inl c⟩
  exact⟨h1,.inr c⟩
 rintro⟨h1,c|c⟩
 .exact .inl ⟨h1,c⟩
 exact .inr ⟨h1,c⟩
def Bs1 {N n:Nat}{x y:Sl Int}(hn:n<=32)(f:1000<=N)(hx:x.n=n+1)(hy:y.n=n+1) :∃b,Al N x y=some b/\(b=true ↔ ∀a,a<=n->x.g a=y.g a):=by
 unfold Al;refine Aq (fun i x1=>x1=(i:Int)/\∀a,a<i->x.g a=y.g a) (n+1) _ (by omega) ⟨rfl,fun a ha=>Kh ha (by omega)⟩ ?_;rintro c i x1 j ⟨rfl,d⟩ hs;by_cases hl:i<=n
 .refine Ax (Ab ?_);rw[Cl2];by_cases e:x.g i=y.g i
  .refine ifF (by simp[e]) (hs (by omega) _ ⟨Cl,fun a ha=>?_⟩);by_cases h:a=i
   .subst h;exact e
   exact d a (by omega)
  refine ifT (by simp[e]) ⟨false,rfl,by simp;exact⟨i,hl,e⟩⟩
 exact Bm ⟨true,rfl,by simp;exact fun a ha=>d a (by omega)⟩
def Aj8 {N n:Nat}{R S:Nat->Nat->Prop}{x y:Sl Int}(hn:n<=32)(w:1000<=N)(hx:x.n=n+1)(hy:y.n=n+1)(hR:TabR n R x.g)(hS:TabR n S y.g) :∃s,Q8 N x y=some s/\s.n=n+1/\TabR n (fun a b=>∃c,c<=n/\R a c/\S c b) s.g:=by
 unfold Q8;refine Ab ?_
 let Row (z:BitVec 64) (a j:Nat):Prop:=∀b,b<64->(z.getLsbD b=true↔b<=n/\∃c,c<j/\c<=n/\R a c/\S c b)
 refine N4 (fun i x1 x2=>x2=(i:Int)/\x1.n=n+1/\(∀a,a<i->∃z,x1.g a=U z/\Row z a (n+1))/\∀a,i<=a->x1.g a=0) (n+1) _ (by omega) ⟨rfl,by show (x.n:Int).toNat=n+1;omega,fun a ha=>Kh ha (by omega),fun a _=>rfl⟩ ?_;rintro q i x1 x2 hi ⟨rfl,h1,r,t⟩ hs;by_cases hl:i<=n
 .refine Ax ?_;refine N4 (fun j x7 x8=>x8=(j:Int)/\x7.n=n+1/\(∀a,a<i->∃z,x7.g a=U z/\Row z a (n+1))/\(∃z,x7.g i=U z/\Row z i j)/\∀a,i<a->x7.g a=0) (n+1) _ (by omega)
   ⟨rfl,h1,r,⟨0#64,t i (Cl9 _),fun b hb=>by simp⟩,fun a ha=>t a (by omega)⟩ ?_
  rintro m j x7 x8 hj ⟨rfl,g1,g2,⟨z,g3,g4⟩,g5⟩ l;by_cases f:j<=n
  .refine Ax (Ab ?_);rw[Cl2,Cl2];have d:=hR.bit hl (b:=j) (by omega);by_cases hc:R i j
   .refine ifT (d.2 ⟨f,hc⟩) (Ab (l (by omega) _ _ ⟨Cl,g1,fun a ha=>?_,?_,fun a ha=>?_⟩))
    .obtain⟨z',e,o⟩:=g2 a ha;exact⟨z',by show (if a=i then _ else x7.g a)=_;rw[Fp];exact e,o⟩
    .obtain⟨v,e,u⟩:=hS j f;refine⟨z ||| v,by show (if i=i then _ else _)=_;rw[Il rfl,g3,e,Ck7],fun b hb=>?_⟩;rw[Cn5,Co3,g4 b hb,u b hb];constructor
     .rintro (⟨k1,c,k2,k3⟩ | ⟨k1,k2⟩)
      .exact⟨k1,c,by omega,k3⟩
      exact⟨k1,j,by omega,f,hc,k2⟩
     rintro⟨k1,c,k2,k3,k4,k5⟩;by_cases e:c=j
     .subst e;exact .inr ⟨k1,k5⟩
     exact .inl ⟨k1,c,by omega,k3,k4,k5⟩
    show (if a=i then _ else x7.g a)=_;rw[Fp];exact g5 a ha
   refine ifF (fun h=>hc (d.1 h).2) (l (by omega) _ _ ⟨Cl,g1,g2,⟨z,g3,fun b hb=>?_⟩,g5⟩);rw[g4 b hb];constructor
   .rintro⟨k1,c,k2,k3⟩;exact⟨k1,c,by omega,k3⟩
   rintro⟨k1,c,k2,k3,k4,k5⟩;by_cases e:c=j
   .subst e;exact Kh k4 hc
   exact⟨k1,c,by omega,k3,k4,k5⟩
  refine Bm (hs (by omega) _ _ ⟨Cl,g1,fun a ha=>?_,fun a ha=>g5 a (by omega)⟩);by_cases e:a=i
  .subst e;obtain rfl:j=n+1:=by omega
   exact⟨z,g3,g4⟩
  exact g2 a (by omega)
 refine Bm ⟨x1,rfl,h1,fun a ha=>?_⟩;obtain⟨z,e,o⟩:=r a (by omega);refine⟨z,e,fun b hb=>(o b hb).trans ⟨fun⟨k1,c,_,k3⟩=>⟨k1,c,k3⟩,fun⟨k1,c,k3⟩=>⟨k1,c,by omega,k3⟩⟩⟩
end Go.AM
namespace Go.AM
open Go.Proofs
def okP:Nat->Pat->Prop
 |0,_=>False
 |d+1,p=>p.L.n<=40/\(p.Kind=5->p.L.n=1/\0<=p.Min/\p.Min<=32/\(p.Max = -1 \/ (p.Min<=p.Max/\p.Max<=32)))/\∀i,i<p.L.n->okP d (p.L.g i)
def Ty (w:Sl To)(p:Pat)(a b:Nat):PR w p a b↔(if p.Kind=0 then a=b
 else if p.Kind=1 then a<w.n/\b=a+1/\(AP1 (w.g a) p.Is != p.Not)=true
 else if p.Kind=2 then a=0/\b=0
 else if p.Kind=6 then a=w.n/\b=w.n
 else if p.Kind=3 then Bg7 w.n (fun i=>PR w (p.L.g i)) p.L.n a b
 else if p.Kind=4 then ∃i,i<p.L.n/\PR w (p.L.g i) a b
 else if p.Kind=5 then ∃k:Nat,p.Min<=k/\(p.Max = -1 \/ (k:Int)<=p.Max)/\Nq w.n (PR w (p.L.g 0)) k a b
 else False):=by
 cases p with
 |nil=>simp[PR,Pat.Kind]
 |mk kind is no mn mx m g=>exact CB6
def R0 (w:Sl To)(p:Pat)(a b:Nat):Prop:=if p.Kind=0 then a=b else if p.Kind=1 then a<w.n/\b=a+1/\(AP1 (w.g a) p.Is != p.Not)=true else if p.Kind=2 then a=0/\b=0 else if p.Kind=6 then a=w.n/\b=w.n else False
def BN8 {n:Nat}{R:Nat->Nat->Prop}(hR:Fwd n R){mn k:Nat}(hk:mn<k)(h:∀a b,a<=n->b<=n->Nq n R k a b->∃j,mn<=j/\j<k/\Nq n R j a b){a:Nat}(ha:a<=n) :∀m b,mn<=m->Nq n R m a b->∃j,mn<=j/\j<k/\Nq n R j a b
 |0,b,hm,hp=>⟨0,hm,by omega,hp⟩
 |m+1,b,hm,hp=>by
  by_cases d:m+1<k
  .exact⟨m+1,hm,d,hp⟩
  obtain⟨c,hc,h1,f⟩:=hp;have hb:=(hR c b hc f).2;obtain⟨j,g1,g2,g3⟩:=BN8 hR hk h ha m c (by omega) h1;by_cases e:j+1<k
  .exact⟨j+1,by omega,e,c,hc,g3,f⟩
  obtain rfl:k=j+1:=by omega
  exact h a b ha hb ⟨c,hc,g3,f⟩
def Wv {N:Nat}(hN:1000<=N){w:Sl To}(hw:w.n<=32):∀(d:Nat) (p:Pat),okP d p->∀M,N+d<=M->∃t,Bo M p w=some t/\t.n=w.n+1/\TabR w.n (PR w p) t.g
 |0,p,h,M,hM=>h.elim
 |d+1,p,⟨hc,h5,hch⟩,0,hM=>by omega
 |d+1,p,⟨hc,h5,hch⟩,M+1,hM=>by
  have ih:=fun i hi=>Wv hN hw d (p.L.g i) (hch i hi) M (by omega);show ∃t,U0 (Bo M) M p w=some t/\_;unfold U0;rw[Cl];refine Ab ?_;refine N4 (fun i x1 x2=>x2=(i:Int)/\x1.n=w.n+1/\(∀a,a<i->∃z:BitVec 64,x1.g a=U z/\∀b,b<64->(z.getLsbD b=true↔b<=w.n/\R0 w p a b))/\∀a,i<=a->x1.g a=0) (w.n+1) _ (by omega)
   ⟨rfl,by show ((w.n+1:Nat):Int).toNat=w.n+1;omega,fun a ha=>Kh ha (by omega),fun _ _=>rfl⟩ ?_
  rintro self i x1 x2 hi ⟨rfl,h1,l,c⟩ hs;have keep:(∀b,b<=w.n->¬R0 w p i b)->(∀a,a<i+1->∃z:BitVec 64,x1.g a=U z/\∀b,b<64->(z.getLsbD b=true↔b<=w.n/\R0 w p a b)):=by
   intro h a ha;by_cases e:a=i
   .subst e;exact⟨0#64,c a (Cl9 _),fun b hb=>by simp;exact h b⟩
   exact l a (by omega)
  have put:∀(z:BitVec 64) (v:Int),v=U z->(∀b,b<64->(z.getLsbD b=true↔b<=w.n/\R0 w p i b)) ->
   (∀a,a<i+1->∃z:BitVec 64,(x1.upd (i:Int).toNat v).g a=U z/\∀b,b<64->(z.getLsbD b=true↔b<=w.n/\R0 w p a b))/\∀a,i+1<=a->(x1.upd (i:Int).toNat v).g a=0:=by
   intro z v hv hz;refine⟨fun a ha=>?_,fun a ha=>?_⟩
   .by_cases e:a=i
    .subst e;exact⟨z,by show (if a=(a:Int).toNat then v else _)=_;rw[Cw,hv],hz⟩
    obtain⟨z',e1,e2⟩:=l a (by omega);exact⟨z',by show (if a=(i:Int).toNat then v else x1.g a)=_;rw[Fp];exact e1,e2⟩
   show (if a=(i:Int).toNat then v else x1.g a)=0;rw[Fp];exact c a (by omega)
  by_cases hl:i<=w.n
  .refine Ax ?_;by_cases k0:p.Kind=0
   .refine ifT (by simp[k0]) (Ab ?_);obtain⟨p1,p2⟩:=put (1#64 <<< i) _ (AC7 i (by omega)) (fun b hb=>by rw[KO (by omega) hb,Sp];simp only[R0,k0,Rm];omega);exact hs (by omega) _ _ ⟨Cl,h1,p1,p2⟩
   refine ifF (by simp[k0]) ?_;by_cases k1:p.Kind=1
   .refine ifT (by simp[k1]) ?_;have e0:∀b,R0 w p i b↔i<w.n/\b=i+1/\(AP1 (w.g i) p.Is != p.Not)=true:=fun b=>by simp only[R0,k1];simp
    by_cases hlt:i<w.n
    .refine Ax (Ab ?_);refine B4 (x:=AP1 (w.g i) p.Is) (by rw[Cl2];rfl) ?_;by_cases hb:AP1 (w.g i) p.Is=p.Not
     .refine ifF (by simp[hb]) (hs (by omega) _ _ ⟨Cl,h1,keep fun b _=>?_,fun a ha=>c a (by omega)⟩);rw[e0];simp[hb]
     refine ifT (by simp[hb]) ?_;rw[Cl];refine Ab ?_;obtain⟨p1,p2⟩:=put (1#64 <<< (i+1)) _ (AC7 (i+1) (by omega)) (fun b a0=>by
      rw[KO (by omega) a0,Sp,e0]
      have:(AP1 (w.g i) p.Is != p.Not)=true:=by simp[hb]
      simp only[this,and_true];omega)
     exact hs (by omega) _ _ ⟨rfl,h1,p1,p2⟩
    refine Bm (hs (by omega) _ _ ⟨Cl,h1,keep fun b _=>?_,fun a ha=>c a (by omega)⟩);rw[e0];omega
   refine ifF (by simp[k1]) ?_;by_cases k2:p.Kind=2
   .refine ifT (by simp[k2]) ?_;have e0:∀b,R0 w p i b↔i=0/\b=0:=fun b=>by simp only[R0,k2];simp
    by_cases hz:i=0
    .refine Ax (Ab ?_);obtain⟨p1,p2⟩:=put 1#64 _ Ch9 (fun b a0=>by rw[AP0,Sp,e0];omega);exact hs (by omega) _ _ ⟨Cl,h1,p1,p2⟩
    refine Bm (hs (by omega) _ _ ⟨Cl,h1,keep fun b _=>?_,fun a ha=>c a (by omega)⟩);rw[e0];omega
   refine ifF (by simp[k2]) ?_;by_cases k6:p.Kind=6
   .refine ifT (by simp[k6]) ?_;have e0:∀b,R0 w p i b↔i=w.n/\b=w.n:=fun b=>by simp only[R0,k6];simp
    by_cases hz:i=w.n
    .refine Ax (Ab ?_);obtain⟨p1,p2⟩:=put (1#64 <<< i) _ (AC7 i (by omega)) (fun b hb=>by rw[KO (by omega) hb,Sp,e0];omega);exact hs (by omega) _ _ ⟨Cl,h1,p1,p2⟩
    refine Bm (hs (by omega) _ _ ⟨Cl,h1,keep fun b _=>?_,fun a ha=>c a (by omega)⟩);rw[e0];omega
   refine ifF (by simp[k6]) (hs (by omega) _ _ ⟨Cl,h1,keep fun b _=>?_,fun a ha=>c a (by omega)⟩);simp[R0,k0,k1,k2,k6]
  refine Bm ?_;have t0:TabR w.n (R0 w p) x1.g:=fun a ha=>l a (by omega);by_cases k3:p.Kind=3
  .refine ifT (by simp[k3]) ?_;obtain⟨s,es,a8,a9⟩:=AY6 (N:=M) hw (by omega);refine B4 es ?_;refine N4 (fun i (x3:Sl Int) x4=>x4=(i:Int)/\x3.n=w.n+1/\TabR w.n (Bg7 w.n (fun i=>PR w (p.L.g i)) i) x3.g) p.L.n _ (by omega) ⟨rfl,a8,a9.congr fun a b _ _=>CB6⟩ ?_;rintro a2 j x3 x4 hj ⟨rfl,g1,g2⟩ m;by_cases a3:j<p.L.n
   .obtain⟨t,et,b0,b1⟩:=ih j a3;refine Ax (Ab (B4 (by rw[Cl2];exact et) ?_));obtain⟨f,ef,o,a4⟩:=Aj8 (N:=M) hw (by omega) g1 b0 g2 b1;exact B4 ef (m a3 _ _ ⟨Cl,o,a4⟩)
   obtain rfl:j=p.L.n:=by omega
   exact Ci ⟨x3,rfl,g1,g2.congr fun a b _ _=>by rw[Ty];simp[k3]⟩
  refine ifF (by simp[k3]) ?_;by_cases k4:p.Kind=4
  .refine ifT (by simp[k4]) ?_;refine N4 (fun i x3 x4=>x4=(i:Int)/\x3.n=w.n+1/\TabR w.n (fun a b=>∃q,q<i/\PR w (p.L.g q) a b) x3.g) p.L.n _ (by omega) ⟨rfl,h1,t0.congr fun a b _ _=>by simp[R0,k4]⟩ ?_;rintro a2 j x3 x4 hj ⟨rfl,g1,g2⟩ m;by_cases a3:j<p.L.n
   .obtain⟨t,et,b0,b1⟩:=ih j a3;refine Ax (Ab (B4 (by rw[Cl2];exact et) ?_));obtain⟨f,ef,o,a4⟩:=AY7 (N:=M) hw (by omega) g1 b0 g2 b1;refine B4 ef (m a3 _ _ ⟨Cl,o,a4.congr fun a b _ _=>⟨?_,?_⟩⟩)
    .rintro (⟨q,h1,l⟩ | h)
     .exact⟨q,by omega,l⟩
     exact⟨j,by omega,h⟩
    rintro⟨q,h1,l⟩;by_cases e:q=j
    .subst e;exact .inr l
    exact .inl ⟨q,by omega,l⟩
   obtain rfl:j=p.L.n:=by omega
   exact Ci ⟨x3,rfl,g1,g2.congr fun a b _ _=>by rw[Ty];simp[k4]⟩
  refine ifF (by simp[k4]) ?_;by_cases k5:p.Kind=5
  .obtain⟨hn1,hm0,hm1,hmx⟩:=h5 k5;refine ifT (by simp[k5]) (Ab ?_);obtain⟨one,eo,ho1,ho2⟩:=ih 0 (by omega);obtain⟨s,es,a8,a9⟩:=AY6 (N:=M) hw (by omega);refine B4 eo (B4 es ?_);have hF:=AD0 w (p.L.g 0);have fin:∀(t:Sl Int) (k:Nat),t.n=w.n+1->TabR w.n (fun a b=>∃j:Nat,p.Min<=j/\j<k/\Nq w.n (PR w (p.L.g 0)) j a b) t.g ->
    (∀a b,a<=w.n->b<=w.n->((∃j:Nat,p.Min<=j/\j<k/\Nq w.n (PR w (p.L.g 0)) j a b) ↔ ∃j:Nat,p.Min<=j/\(p.Max = -1 \/ (j:Int)<=p.Max)/\Nq w.n (PR w (p.L.g 0)) j a b)) ->
    ∃r,some t=some r/\r.n=w.n+1/\TabR w.n (PR w p) r.g:=by
    intro t k e1 e2 e3;exact⟨t,rfl,e1,e2.congr fun a b ha hb=>(e3 a b ha hb).trans (by rw[Ty];simp[k5])⟩
   refine KU (fun k (x8 x9:Sl Int) b2=>b2=(k:Int)/\x8.n=w.n+1/\x9.n=w.n+1/\TabR w.n (fun a b=>∃j:Nat,p.Min<=j/\j<k/\Nq w.n (PR w (p.L.g 0)) j a b) x8.g/\TabR w.n (Nq w.n (PR w (p.L.g 0)) k) x9.g/\(p.Max = -1 \/ (k:Int)<=p.Max)) 33 _ (by omega)
    ⟨rfl,h1,a8,t0.congr fun a b _ _=>by simp[R0,k5],a9.congr fun a b _ _=>CB6,by omega⟩ ?_
   rintro a2 k x8 x9 b2 hk ⟨rfl,g1,g2,g3,g4,g5⟩ m;obtain⟨f,ef,o,a4⟩:=Aj8 (N:=M) hw (by omega) g2 ho1 g4 ho2;have next:TabR w.n (Nq w.n (PR w (p.L.g 0)) (k+1)) f.g:=a4
   by_cases u:p.Min<=(k:Int)
   .refine ifT (by simpa using u) ?_;obtain⟨j,ej,a5,hj2⟩:=AY7 (N:=M) hw (by omega) g1 g2 g3 g4;have a1:TabR w.n (fun a b=>∃j:Nat,p.Min<=j/\j<k+1/\Nq w.n (PR w (p.L.g 0)) j a b) j.g:=hj2.congr fun a b _ _=>by
     constructor
     .rintro (⟨q,h1,l,c⟩ | h)
      .exact⟨q,h1,by omega,c⟩
      exact⟨k,u,by omega,h⟩
     rintro⟨q,h1,l,c⟩;by_cases e:q=k
     .subst e;exact .inr c
     exact .inl ⟨q,h1,by omega,c⟩
    refine B4 ej (ltX ?_);by_cases a6:(k:Int)=p.Max
    .refine ifT (by simp[a6]) (ifT rfl (fin j (k+1) a5 a1 fun a b _ _=>⟨?_,?_⟩))
     .rintro⟨q,h1,l,c⟩;exact⟨q,h1,.inr (by omega),c⟩
     rintro⟨q,h1,l,c⟩;exact⟨q,h1,by omega,c⟩
    refine ifF (by simp[a6]) ?_;by_cases b3:p.Min<(k:Int)
    .refine ifT (by simpa using b3) ?_;obtain⟨b,eb,hb⟩:=Bs1 (N:=M) (x:=x8) (y:=j) hw (by omega) g1 a5;refine B4 eb ?_;by_cases a7:b=true
     .refine ifT a7 (fin j (k+1) a5 a1 fun a b ha a0=>⟨?_,?_⟩)
      .rintro⟨q,h1,l,c⟩;exact⟨q,h1,by omega,c⟩
      rintro⟨q,h1,l,c⟩;have heq:=hb.1 a7;obtain⟨q',k1,k2,k3⟩:=BN8 hF (mn:=p.Min.toNat) (k:=k) (by omega) (fun a b ha a0 hp=>by have e1:=a1.bit ha (b:=b) (by omega);have e2:=g3.bit ha (b:=b) (by omega);rw[<- heq a ha]at e1;obtain⟨_,q,k1,k2,k3⟩:=e2.1 (e1.2 ⟨a0,k,u,by omega,hp⟩);exact⟨q,by omega,k2,k3⟩) ha q b (by omega) c
      exact⟨q',by omega,by omega,k3⟩
     refine ifF a7 (B4 ef ?_);have b4:k<33:=by
      refine Nat.lt_of_le_of_ne hk fun e=>a7 (hb.2 fun a ha=>?_);subst e;refine g3.uniq (a1.congr fun a b ha a0=>⟨?_,?_⟩) ha
      .rintro⟨q,h1,l,c⟩;by_cases e:q=33
       .subst e;exact⟨32,by omega,by omega,AC8 hF ha hw c⟩
       exact⟨q,h1,by omega,c⟩
      rintro⟨q,h1,l,c⟩;exact⟨q,h1,by omega,c⟩
     exact m b4 _ _ _ ⟨Cl,a5,o,a1,next,by omega⟩
    refine ifF (by simpa using b3) (Ci (B4 ef (m (by omega) _ _ _ ⟨Cl,a5,o,a1,next,by omega⟩)))
   refine ifF (by simpa using u) (B4 ef (m (by omega) _ _ _ ⟨Cl,g1,o,g3.congr fun a b _ _=>⟨?_,?_⟩,next,by omega⟩))
   .rintro⟨q,h1,l,c⟩;omega
   rintro⟨q,h1,l,c⟩;omega
  refine ifF (by simp[k5]) ⟨x1,rfl,h1,t0.congr fun a b _ _=>?_⟩;rw[Ty];simp[R0,k3,k4,k5]
end Go.AM
namespace Go.AM
variable {N:Nat}
open IntKind (wrap)
open Go.Proofs
abbrev sOf (x y:BitVec 32):To:=⟨(x.toNat:Int),(y.toNat:Int)⟩
def okS (s:To):Prop:=∃p m:BitVec 32,s=sOf p m
def eq0 (x:BitVec 32):((x.toNat:Int)==0)=decide (x=0#32):=by
 rw[Cp6];simp only[beq_iff_eq,Sp];constructor
 .intro h;apply Cp4;show x.toNat=0;omega
 rintro rfl;rfl
def z32 (x:BitVec 32):x=0#32 ↔ ∀i,i<32->x.getLsbD i=false:=by
 constructor
 .rintro rfl i a;simp
 intro h;apply Cs5;intro i a;rw[h i a];simp
def Qd {x y:BitVec 32}(h:∀b,b<32->x.getLsbD b=y.getLsbD b):x=y:=Cs5 h
def AY8 (x:BitVec 32)(i:Nat):(E9 .and .u32 (shI .shr .u32 (x.toNat:Int) (i:Int)) 1==1)=x.getLsbD i:=by
 rw[Bp2,show (1:Int)=((1#32).toNat:Int) from rfl,IO];have h:(x >>> i &&& 1#32)=(BitVec.ofBool (x.getLsbD i)).setWidth 32:=by
  apply Cs5;intro j b;simp only[Cn6,CG8,CI6,CK7];by_cases a:j=0
  .subst a;simp
  have:(1#32).getLsbD j=false:=by rw[CG9];simp[a]
  simp[this,a]
 rw[h];cases x.getLsbD i<;>rfl
def BW9 (i:Nat):shI .shl .u32 1 (i:Int)=((1#32 <<< i).toNat:Int):=by rw[show (1:Int)=((1#32).toNat:Int) from rfl,Ce8]
def Bs2 {i j:Nat}(a:j<32):(1#32 <<< i).getLsbD j=decide (j=i):=by
 rw[CH8,CG9];by_cases h:j=i
 .subst h;simp[a]
 by_cases b:j<i
 .simp[h,b]
 have:j-i≠0:=by omega
 simp[h,this]
def KV (x:BitVec 32):x.toNat<16777216 ↔ ∀i,24<=i->i<32->x.getLsbD i=false:=by
 constructor
 .intro h i a b;exact CK0 (Cm6 h (CB4 (n:=2) (i:=24) (by omega) a))
 intro h;refine Nat.lt_pow_two_of_testBit (n:=24) _ fun i a=>?_;by_cases c:i<32
 .exact h i a c
 exact CK0 (Cm6 x.isLt (CB4 (by omega) (by omega)))
def vB (p m:BitVec 32):Bool:=decide (∀i:Fin 32,¬(p.getLsbD i=true/\m.getLsbD i=true)/\(24<=i.1->p.getLsbD i=false/\m.getLsbD i=false))
def JG (p m:BitVec 32):vB p m=true ↔ ∀i,i<32->¬(p.getLsbD i=true/\m.getLsbD i=true)/\(24<=i->p.getLsbD i=false/\m.getLsbD i=false):=by rw[vB,Sp];exact⟨fun h i a=>h ⟨i,a⟩,fun h i=>h i.1 i.2⟩
def AY9 (p m:BitVec 32):p &&& m=0#32 ↔ ∀i,i<32->¬(p.getLsbD i=true/\m.getLsbD i=true):=by rw[z32];refine forall_congr' fun i=>forall_congr' fun a=>?_;rw[Cn6,CK8];cases p.getLsbD i<;>cases m.getLsbD i<;>simp
def Ci4 (p m:BitVec 32):vB p m=true↔p &&& m=0#32/\(p ||| m).toNat<16777216:=by
 rw[JG,AY9,KV];constructor
 .intro h;refine⟨fun i a=>(h i a).1,fun i h1 b=>?_⟩
  have:=(h i b).2 h1
  rw[Cn5,this.1,this.2];rfl
 rintro⟨h1,b⟩ i a;refine⟨h1 i a,fun c=>?_⟩
 have:=b i c a
 rw[Cn5,CB5]at this;exact this
def Bs3 (p m:BitVec 32):vB p m=true↔p &&& m=0#32/\p.toNat<16777216/\m.toNat<16777216:=by rw[JG,AY9,KV,KV];exact⟨fun h=>⟨fun i a=>(h i a).1,fun i h1 b=>((h i b).2 h1).1,fun i h1 b=>((h i b).2 h1).2⟩,fun⟨h1,b,d⟩ i a=>⟨h1 i a,fun c=>⟨b i c a,d i c a⟩⟩⟩
def DA (p m:BitVec 32):J8 N (sOf p m)=some (vB p m):=by unfold J8;rw[IO,SH,eq0];congr 1;rw[Cp6,Ci4];simp only[Cl8,Sp];exact⟨fun h=>⟨h.1,by have:=h.2;omega⟩,fun h=>⟨h.1,by have:=h.2;omega⟩⟩
def shr24 (x:BitVec 32):(shI .shr .u32 (x.toNat:Int) 24==0)=decide (x.toNat<16777216):=by
 rw[show (24:Int)=((24:Nat):Int) from rfl,Bp2,Cp6];simp only[beq_iff_eq,Sp,CB7,CB2]
 have:=CL8 (a:=x.toNat) (b:=2 ^ 24)
 omega
def AD9 (p m:BitVec 32):Db N (sOf p m)=some (vB p m):=by unfold Db;rw[IO,SH,eq0,shr24];congr 1;rw[Cp6,Ci4];simp only[Cl8,Sp]
def AE0 (p m:BitVec 32):U4 N (sOf p m)=some (vB p m):=AD9 (N:=N) p m
def Aj9 (p m:BitVec 32):O1 N (sOf p m)=some (vB p m):=by unfold O1;rw[IO,eq0];congr 1;rw[Cp6,Bs3];simp only[Cl8,Sp];exact⟨fun h=>⟨h.1.1,by have:=h.1.2;omega,by have:=h.2;omega⟩,fun h=>⟨⟨h.1,by have:=h.2.1;omega⟩,by have:=h.2.2;omega⟩⟩
def BZ (p m:BitVec 32)(n:1000<=N):I3 N (sOf p m)=some (vB p m):=by
 suffices h:∃r,I3 N (sOf p m)=some r/\r=vB p m by obtain⟨r,h,rfl⟩:=h;exact h
 unfold I3;refine Aq (fun i x1=>x1=(i:Int)/\∀j,j<i->¬(p.getLsbD j=true/\m.getLsbD j=true)/\(24<=j->p.getLsbD j=false/\m.getLsbD j=false)) 32 _ (by omega) ⟨rfl,fun j d=>Kh d (by omega)⟩ ?_;rintro g i x1 o ⟨rfl,h1⟩ hs;by_cases hl:i<32
 .refine Ax (Ab ?_);simp only[AY8];have e24:decide ((24:Int)<=(i:Int))=decide (24<=i):=decide_eq_decide.2 (by omega);rw[e24];by_cases hb:¬(p.getLsbD i=true/\m.getLsbD i=true)/\(24<=i->p.getLsbD i=false/\m.getLsbD i=false)
  .refine ifF ?_ (hs hl _ ⟨Cl,fun j d=>?_⟩)
   .intro h;obtain⟨l,f⟩:=hb;revert h l f;by_cases c:24<=i
    .intro h l f;obtain⟨a,b⟩:=f c;simp[a,b]at h
    cases p.getLsbD i<;>cases m.getLsbD i<;>simp[c]
   by_cases e:j=i
   .subst e;exact hb
   exact h1 j (by omega)
  refine ifT ?_ ⟨false,rfl,?_⟩
  .revert hb;by_cases c:24<=i
   .cases p.getLsbD i<;>cases m.getLsbD i<;>simp[c]
   cases p.getLsbD i<;>cases m.getLsbD i<;>simp[c]
  symm;rw[<- CF3,JG];exact fun h=>hb (h i hl)
 refine Bm ⟨true,rfl,?_⟩;symm;rw[JG];exact fun j d=>h1 j (by omega)
def gB (p m:BitVec 32)(f:Nat):Int:=if p.getLsbD f then 1 else if m.getLsbD f then -1 else 0
def AZ0 (p m:BitVec 32)(a:vB p m=true)(f:Nat)(c:f<24)(b:1000<=N):V5 N (sOf p m) (f:Int)=some (gB p m f):=by
 unfold V5;rw[BZ p m b];simp only[Cl3,lt,X0,AY8,gB,a];rw[Il (by omega:(0:Int)<=(f:Int)),Il (by omega:(0:Int)<=(f:Int))];have e:(decide ((0:Int)<=(f:Int))&&decide ((f:Int)<24))=true:=by simp;omega
 rw[e];cases h1:p.getLsbD f<;>cases d:m.getLsbD f<;>simp
def gB_eq {p m a b:BitVec 32}(g:vB p m=true)(c : vB a b=true)(f:Nat)(d:f<32):(gB a b f≠0->gB p m f=gB a b f)↔((a.getLsbD f=true->p.getLsbD f=true)/\(b.getLsbD f=true->m.getLsbD f=true)):=by have h1:=((JG p m).1 g f d).1;have i:=((JG a b).1 c f d).1;revert h1 i;simp only[gB];cases a.getLsbD f<;>cases b.getLsbD f<;>cases p.getLsbD f<;>cases m.getLsbD f<;>simp
def Bk7 (p m a b:BitVec 32):Bool:=vB p m&&(vB a b&&decide (∀i:Fin 32,(a.getLsbD i=true->p.getLsbD i=true)/\(b.getLsbD i=true->m.getLsbD i=true)))
def BX0 (a p:BitVec 32):a &&& ~~~ p=0#32 ↔ ∀i,i<32->(a.getLsbD i=true->p.getLsbD i=true):=by rw[z32];refine forall_congr' fun i=>forall_congr' fun b=>?_;rw[Cn6,Cr2];cases a.getLsbD i<;>cases p.getLsbD i<;>simp[b]
def BX1 (p m a b:BitVec 32):P4 N (sOf p m) (sOf a b)=some (Bk7 p m a b):=by
 unfold P4;rw[DA];simp only[Cl3,lt,DA,HK,eq0,Bk7];cases h1:vB p m
 .simp
 cases d:vB a b
 .simp
 simp only[Rm,CD2];have key:(decide (∀i:Fin 32,(a.getLsbD i=true->p.getLsbD i=true)/\(b.getLsbD i=true->m.getLsbD i=true)))=(decide (a &&& ~~~ p=0#32)&&decide (b &&& ~~~ m=0#32)):=by rw[Cp6];simp only[Cl8,Sp,BX0];exact⟨fun h=>⟨fun i c=>(h ⟨i,c⟩).1,fun i c=>(h ⟨i,c⟩).2⟩,fun h i=>⟨h.1 i.1 i.2,h.2 i.1 i.2⟩⟩
 rw[key];by_cases h:a &&& ~~~ p=0#32
 .simp[h]
 simp[h]
def BX2 (p m a b:BitVec 32)(f:1000<=N):J3 N (sOf p m) (sOf a b)=some (Bk7 p m a b):=by
 suffices h:∃r,J3 N (sOf p m) (sOf a b)=some r/\r=Bk7 p m a b by obtain⟨r,h,rfl⟩:=h;exact h
 unfold J3;rw[BZ p m f];refine B4 rfl (ltX ?_);cases h1:vB p m
 .exact Ay (ifT rfl ⟨false,rfl,by simp[Bk7,h1]⟩)
 refine Ci ?_;rw[BZ a b f];refine B4 rfl ?_;cases c:vB a b
 .exact Ay ⟨false,rfl,by simp[Bk7,c]⟩
 refine Ci ?_;refine Aq (fun i x3=>x3=(i:Int)/\∀j,j<i->((a.getLsbD j=true->p.getLsbD j=true)/\(b.getLsbD j=true->m.getLsbD j=true))) 24 _ (by omega) ⟨rfl,fun j n=>Kh n (by omega)⟩ ?_;rintro d i x3 q ⟨rfl,o⟩ hs;by_cases hl:i<24
 .refine Ax (B4 (AZ0 a b c i hl f) (ltX ?_));have key:=gB_eq h1 c i (by omega);have fin:(¬(gB a b i≠0->gB p m i=gB a b i))->false=Bk7 p m a b:=fun hn=>by symm;simp only[Bk7,h1,c,CD2];rw[<- CF3,Sp];intro h;exact hn (key.2 (h ⟨i,by omega⟩))
  have go:(gB a b i≠0->gB p m i=gB a b i)->∃r,d (wrap .i64 ((i:Int)+1))=some r/\r=Bk7 p m a b:=fun hp=>hs hl _ ⟨Cl,fun j n=>by
   by_cases e:j=i
   .subst e;exact key.1 hp
   exact o j (by omega)⟩
  by_cases g:gB a b i=0
  .exact ifF (by simp[g]) (Ci (go fun h=>Kh g h))
  refine ifT (by simp[g]) (B4 (AZ0 p m h1 i hl f) ?_);by_cases l:gB p m i=gB a b i
  .exact ifF (by simp[l]) (go fun _=>l)
  exact ifT (by simp[l]) ⟨false,rfl,fin fun h=>l (h g)⟩
 refine Bm ⟨true,rfl,?_⟩;symm;simp only[Bk7,h1,c,CD2,Sp];intro j;by_cases n:j.1<24
 .exact o j.1 (by omega)
 have:=((JG a b).1 c j.1 j.2).2 (by omega)
 exact⟨fun h=>by rw[this.1]at h;exact Kh h (by simp),fun h=>by rw[this.2]at h;exact Kh h (by simp)⟩
def Av9 (x y s:BitVec 32):BitVec 32:=(x &&& ~~~ s) ||| (y &&& s)
def BN9 (p m a b s:BitVec 32):Ef N (sOf p m) (sOf a b) (s.toNat:Int)=some (sOf (Av9 p a s) (Av9 m b s)):=by unfold Ef;simp only[HK,IO,SH,Av9]
def Ci5 (x:BitVec 32)(f:Nat)(on:Bool):BitVec 32:=if on then (x &&& ~~~ (1#32 <<< f)) ||| (1#32 <<< f)else x &&& ~~~ (1#32 <<< f)
def MF (x:BitVec 32)(f:Nat)(on:Bool){j:Nat}(a:j<32):(Ci5 x f on).getLsbD j=if j=f then on else x.getLsbD j:=by
 unfold Ci5;cases on
 .rw[Ix (by simp),Cn6,Cr2,Bs2 a];by_cases e:j=f<;>simp[e,a]
 rw[Il rfl,Cn5,Cn6,Cr2,Bs2 a];by_cases e:j=f<;>simp[e,a]
def Bs4 (p m:BitVec 32)(f:Nat)(v:Int):Az N (sOf p m) (f:Int) v=some (sOf (Ci5 p f (v==1)) (Ci5 m f (v == -1))):=by unfold Az;rw[Cw];simp only[BW9,HK,SH];cases h1:v==1<;>cases a:v == -1<;>simp[Ci5]
def BG8 (p m c a b:BitVec 32):To×Int:=if vB p m=true/\vB a b then (if c.toNat<16777216/\c &&& (a ||| b)=0#32 then (sOf (Av9 p a (c ||| (a ||| b))) (Av9 m b (c ||| (a ||| b))),0)else (⟨0,0⟩,2))else (⟨0,0⟩,14)
def Bh0 (p m c a b:BitVec 32):U3 N (sOf p m) (c.toNat:Int) (sOf a b)=some (BG8 p m c a b):=by
 unfold U3 BG8;rw[DA];simp only[Cl3,lt,DA,Gc,SH,IO,BN9];cases h1:vB p m
 .simp
 cases g:vB a b
 .simp
 by_cases d:c.toNat<16777216
 .have e:((c &&& (a ||| b)).toNat:Int) != 0 ↔ ¬(c &&& (a ||| b)=0#32):=by
   have:=eq0 (c &&& (a ||| b))
   simp only[bne_iff_ne,ne_eq];rw[<- Sp (p:=c &&& (a ||| b)=0#32),<- this];simp
  by_cases f:c &&& (a ||| b)=0#32
  .simp[d,f];omega
  have e':=e.2 f;rw[Ix (by simp<;>omega),e'];simp[d,f]
 simp[d];omega
def Bh1 (p m c a b:BitVec 32)(t:1000<=N):N1 N (sOf p m) (c.toNat:Int) (sOf a b)=some (BG8 p m c a b):=by
 suffices h:∃r,N1 N (sOf p m) (c.toNat:Int) (sOf a b)=some r/\r=BG8 p m c a b by obtain⟨r,h,rfl⟩:=h;exact h
 unfold N1;rw[BZ p m t];refine B4 rfl (ltX ?_);cases h1:vB p m
 .exact Ay (ifT rfl ⟨_,rfl,by simp[BG8,h1]⟩)
 refine Ci ?_;rw[BZ a b t];refine B4 rfl ?_;cases o:vB a b
 .exact Ay ⟨_,rfl,by simp[BG8,o]⟩
 refine Ci ?_;rw[SH,IO];by_cases hc:c.toNat<16777216/\c &&& (a ||| b)=0#32
 .obtain⟨q,n⟩:=hc;refine ifF (by rw[n];simp;omega) ?_;have y:∀j,j<32->¬(c.getLsbD j=true/\(a.getLsbD j=true \/ b.getLsbD j=true)):=fun j d=>by
   have:=(z32 _).1 n j d
   rw[Cn6,Cn5]at this;revert this;cases c.getLsbD j<;>cases a.getLsbD j<;>cases b.getLsbD j<;>simp
  refine KU (fun i x2 x3 x4=>x4=(i:Int)/\∃P M:BitVec 32,x2=(P.toNat:Int)/\x3=(M.toNat:Int)/\∀j,j<32 ->
   P.getLsbD j=(if j<i/\(c.getLsbD j=true \/ a.getLsbD j=true \/ b.getLsbD j=true)then a.getLsbD j else p.getLsbD j)/\M.getLsbD j=(if j<i/\(c.getLsbD j=true \/ a.getLsbD j=true \/ b.getLsbD j=true)then b.getLsbD j else m.getLsbD j)) 24 _ (by omega)
   ⟨rfl,p,m,rfl,rfl,fun j d=>by simp⟩ ?_
  rintro w i x2 x3 x4 hi ⟨rfl,P,M,rfl,rfl,f⟩ hs;by_cases hl:i<24
  .refine Ax (Ab ?_);rw[AY8];have u:=AZ0 (N:=N) a b o i hl t;have v:=((JG a b).1 o i (by omega)).1;have z:=y i (by omega);by_cases l:c.getLsbD i=true
   .refine ifT l (B4 (Bs4 P M i 0) (B4 u ?_));have ea:a.getLsbD i=false:=by cases e:a.getLsbD i<;>simp_all
    have eb:b.getLsbD i=false:=by cases e:b.getLsbD i<;>simp_all
    refine ifF (by simp[gB,ea,eb]) (hs hl _ _ _ ⟨Cl,_,_,rfl,rfl,fun j d=>?_⟩);rw[MF _ _ _ d,MF _ _ _ d];by_cases e:j=i
    .subst e;simp[l,ea,eb]
    have:=f j d
    have e2:j<i+1↔j<i:=by omega
    simp only[e,Rn,e2];exact this
   refine ifF l (B4 u ?_);by_cases s:gB a b i=0
   .have ea:a.getLsbD i=false:=by revert s;simp only[gB];cases a.getLsbD i<;>simp
    have eb:b.getLsbD i=false:=by revert s;simp only[gB,ea];cases b.getLsbD i<;>simp
    refine ifF (by simp[s]) (hs hl _ _ _ ⟨Cl,P,M,rfl,rfl,fun j d=>?_⟩);by_cases e:j=i
    .subst e;have:=f j d;simpa[l,ea,eb]using this
    have:=f j d
    have e2:j<i+1↔j<i:=by omega
    simp only[e2];exact this
   refine ifT (by simp[s]) (B4 u (B4 (Bs4 P M i _) (hs hl _ _ _ ⟨Cl,_,_,rfl,rfl,fun j d=>?_⟩)));rw[MF _ _ _ d,MF _ _ _ d];by_cases e:j=i
   .subst e;revert s v;simp only[gB];cases a.getLsbD j<;>cases b.getLsbD j<;>simp
   have:=f j d
   have e2:j<i+1↔j<i:=by omega
   simp only[e,Rn,e2];exact this
  obtain rfl:i=24:=by omega
  refine Ci ⟨_,rfl,?_⟩;simp only[BG8,h1,o,q,n,and_self,Rm];have hp:=(JG p m).1 h1;have x:=(JG a b).1 o;have a0:=(KV c).1 q;have eP:P=Av9 p a (c ||| (a ||| b)):=Qd fun j d=>by
   rw[(f j d).1,Av9,Cn5,Cn6,Cn6,Cr2,Cn5,Cn5];by_cases g:j<24
   .cases c.getLsbD j<;>cases a.getLsbD j<;>cases b.getLsbD j<;>cases p.getLsbD j<;>simp[g,d]
   have g1:=(hp j d).2 (by omega);have g2:=(x j d).2 (by omega);simp[g,g1.1,g2.1]
  have eM:M=Av9 m b (c ||| (a ||| b)):=Qd fun j d=>by
   rw[(f j d).2,Av9,Cn5,Cn6,Cn6,Cr2,Cn5,Cn5];by_cases g:j<24
   .cases c.getLsbD j<;>cases a.getLsbD j<;>cases b.getLsbD j<;>cases m.getLsbD j<;>simp[g,d]
   have g1:=(hp j d).2 (by omega);have g2:=(x j d).2 (by omega);simp[g,g1.2,g2.2]
  rw[eP,eM]
 refine ifT ?_ ⟨_,rfl,?_⟩
 .rw[Co3,Sp,bne_iff_ne];by_cases h:c.toNat<16777216
  .right
   intro h0;exact hc ⟨h,Cp4 (by show _=0;omega)⟩
  left;omega
 simp only[BG8,h1,o,and_self,Rm];rw[Ix hc]
def BG9 (p m a b s:BitVec 32):To×Int:=if vB p m=true/\vB a b then (if s.toNat<16777216 then (sOf (Av9 p a s) (Av9 m b s),0)else (⟨0,0⟩,2))else (⟨0,0⟩,14)
def BH0 (p m a b s:BitVec 32):Ad N (sOf p m) (sOf a b) (s.toNat:Int)=some (BG9 p m a b s):=by
 unfold Ad BG9;rw[DA];simp only[Cl3,lt,DA,BN9];cases h1:vB p m
 .simp
 cases d:vB a b
 .simp
 by_cases c:s.toNat<16777216
 .simp[c];omega
 simp[c];omega
def BH1 (p m a b s:BitVec 32)(o:1000<=N):U8 N (sOf p m) (sOf a b) (s.toNat:Int)=some (BG9 p m a b s):=by
 suffices h:∃r,U8 N (sOf p m) (sOf a b) (s.toNat:Int)=some r/\r=BG9 p m a b s by obtain⟨r,h,rfl⟩:=h;exact h
 unfold U8;rw[BZ p m o];refine B4 rfl (ltX ?_);cases h1:vB p m
 .exact Ay (ifT rfl ⟨_,rfl,by simp[BG9,h1]⟩)
 refine Ci ?_;rw[BZ a b o];refine B4 rfl ?_;cases l:vB a b
 .exact Ay ⟨_,rfl,by simp[BG9,l]⟩
 refine Ci ?_;by_cases hc:s.toNat<16777216
 .refine Bm ?_;refine KU (fun i x2 x3 x4=>x4=(i:Int)/\∃P M:BitVec 32,x2=(P.toNat:Int)/\x3=(M.toNat:Int)/\∀j,j<32 ->
   P.getLsbD j=(if j<i/\s.getLsbD j then a.getLsbD j else p.getLsbD j)/\M.getLsbD j=(if j<i/\s.getLsbD j then b.getLsbD j else m.getLsbD j)) 24 _ (by omega)
   ⟨rfl,p,m,rfl,rfl,fun j c=>by simp⟩ ?_
  rintro t i x2 x3 x4 u ⟨rfl,P,M,rfl,rfl,d⟩ hs;by_cases hl:i<24
  .refine Ax (Ab ?_);rw[AY8];have q:=((JG a b).1 l i (by omega)).1;by_cases g:s.getLsbD i=true
   .refine ifT g (B4 (AZ0 (N:=N) a b l i hl o) (B4 (Bs4 P M i _) (hs hl _ _ _ ⟨Cl,_,_,rfl,rfl,fun j c=>?_⟩)));rw[MF _ _ _ c,MF _ _ _ c];by_cases e:j=i
    .subst e;revert q;simp only[gB,g];cases a.getLsbD j<;>cases b.getLsbD j<;>simp
    have:=d j c
    have e2:j<i+1↔j<i:=by omega
    simp only[e,Rn,e2];exact this
   refine ifF g (hs hl _ _ _ ⟨Cl,P,M,rfl,rfl,fun j c=>?_⟩);by_cases e:j=i
   .subst e;have:=d j c;simpa[g]using this
   have:=d j c
   have e2:j<i+1↔j<i:=by omega
   simp only[e2];exact this
  obtain rfl:i=24:=by omega
  refine Ci ⟨_,rfl,?_⟩;simp only[BG9,h1,l,hc,and_self,Rm];have n:=(KV s).1 hc;have eP:P=Av9 p a s:=Qd fun j c=>by
   rw[(d j c).1,Av9,Cn5,Cn6,Cn6,Cr2];by_cases f:j<24
   .cases s.getLsbD j<;>cases a.getLsbD j<;>cases p.getLsbD j<;>simp[f,c]
   rw[Ix (by simp[f]),n j (by omega) c];simp[c]
  have eM:M=Av9 m b s:=Qd fun j c=>by
   rw[(d j c).2,Av9,Cn5,Cn6,Cn6,Cr2];by_cases f:j<24
   .cases s.getLsbD j<;>cases b.getLsbD j<;>cases m.getLsbD j<;>simp[f,c]
   rw[Ix (by simp[f]),n j (by omega) c];simp[c]
  rw[eP,eM]
 exact Ax ⟨_,rfl,by simp[BG9,h1,l,hc]⟩
end Go.AM
namespace Go.AM
open Go.Proofs
def vS (s:To):Prop:=∃p m:BitVec 32,s=sOf p m/\vB p m=true
def MO (p:Pat):Prop:= (0<=p.Kind/\p.Kind<=6)/\(p.Kind≠1->(p.Is.Plus=0/\p.Is.Minus=0)/\p.Not=false)/\(p.Kind≠3->p.Kind≠4->p.Kind≠5->p.L.n=0)/\(p.Kind≠5->p.Min=0/\p.Max=0) /\ (p.Kind=5->p.L.n=1/\0<=p.Min/\p.Min<=32/\(p.Max = -1 \/ (p.Min<=p.Max/\p.Max<=32)))/\vS p.Is
def AQ7 {s:To}{p m:BitVec 32}(h:s=sOf p m):vS s↔vB p m=true:=by
 constructor
 .rintro⟨q,r,e,a⟩;rw[h]at e;have e1:(p.toNat:Int)=q.toNat:=congrArg To.Plus e;have e2:(m.toNat:Int)=r.toNat:=congrArg To.Minus e;rw[Cp4 (show p.toNat=q.toNat by omega),Cp4 (show m.toNat=r.toNat by omega)];exact a
 exact fun a=>⟨p,m,h,a⟩
def okPS:Pat->Prop
 |.nil=>True
 |.mk _ is _ _ _ n g=>okS is/\∀i,i<n->okPS (g i)
def okPS.is {p:Pat}(h:okPS p):okS p.Is:=by
 cases p with
 |nil=>exact⟨0#32,0#32,rfl⟩
 |mk _ is _ _ _ n g=>exact h.1
def okPS.L {p:Pat}(h:okPS p){i:Nat}(a:i<p.L.n):okPS (p.L.g i):=by
 cases p with
 |nil=>exact Kh a (by show ¬i<0;omega)
 |mk _ is _ _ _ n g=>exact h.2 i a
def chk:Nat->List Pat->Prop
 |0,l=>l=[]
 |_+1,[]=>True
 |k+1,p::l=>MO p/\chk k (p.L.toList++l)
def Bs5:∀k,chk k []
 |0=>rfl
 |_+1=>trivial
def Ww:∀(k:Nat) (l:List Pat),chk k l->l.length<=k
 |0,l,h=>by rw[show l=[] from h];exact Cl9 _
 |k+1,[],_=>Cx3 _
 |k+1,p::l,⟨_,h⟩=>by
  have:=Ww k _ h
  rw[Cm0]at this;simp only[Co6];omega
def AZ1:∀(d:Nat) (p:Pat),okP d p->okP (d+1) p
 |0,_,h=>h.elim
 |d+1,p,⟨h1,h2,h3⟩=>⟨h1,h2,fun i a=>AZ1 d _ (h3 i a)⟩
def Ak0 {α : Type}{s:Sl α}{i:Nat}(h:i<s.n):s.g i∈s.toList:=Cp2.2 ⟨i,Cn2.2 h,rfl⟩
def De {α : Type}(s:Sl α):s.toList.length=s.n:=by simp[Sl.toList]
def Wx:∀(k:Nat) (l:List Pat),k<=40->chk k l->∀p∈l,okP k p
 |0,l,_,h,p,hp=>by rw[show l=[] from h]at hp;cases hp
 |k+1,[],_,_,p,hp=>by cases hp
 |k+1,q::l,hk,⟨hn,h⟩,p,hp=>by
  have ih:=Wx k _ (by omega) h;rcases Co1.1 hp with rfl|hp
  .have hl:=Ww k _ h;rw[Cm0,De]at hl;exact⟨by omega,fun a=>hn.2.2.2.2.1 a,fun i b=>ih _ (Co9 _ (Ak0 b))⟩
  exact AZ1 k p (ih p (Cn3 _ hp))
def BH2 {N:Nat}{p:Pat}(hp:okS p.Is):∃e,BM N p=some e/\(e=0↔MO p):=by
 obtain⟨a,b,f⟩:=hp;have i:=AQ7 f;unfold BM MO;by_cases h1:0<=p.Kind/\p.Kind<=6
 case neg=>exact Ax ⟨2,rfl,by simp;omega⟩
 refine Bm ?_;have e0:((p.Is.Plus==0)&&(p.Is.Minus==0))=decide (p.Is.Plus=0/\p.Is.Minus=0):=by rw[Cp6];simp
 rw[e0];by_cases c:p.Kind≠1->(p.Is.Plus=0/\p.Is.Minus=0)/\p.Not=false
 case neg=>
  refine ifT ?_ ⟨2,rfl,by simp[c]⟩;simp only[Cl8,Co3,bne_iff_ne,ne_eq,CF3,decide_eq_false_iff_not];rw[Classical.not_imp]at c;refine⟨c.1,?_⟩;by_cases h:p.Is.Plus=0/\p.Is.Minus=0
  .right
   cases hn:p.Not
   .exact Kh ⟨h,hn⟩ c.2
   rfl
  exact .inl h
 refine ifF ?_ (ltX ?_)
 .simp only[Cl8,Co3,bne_iff_ne,ne_eq,CF3,decide_eq_false_iff_not];rintro⟨g1,g2⟩;obtain⟨g3,g4⟩:=c g1;rcases g2 with g2|g2
  .exact g2 g3
  rw[g4]at g2;cases g2
 have rest:(p.Kind≠3->p.Kind≠4->p.Kind≠5->p.L.n=0)->∃e,(if ((p.Kind != 5)&&((p.Min != 0)||(p.Max != 0))) then some (2:Int)else
  lt (fun (z2:Bool)=>if z2 then some 2 else (O1 N p.Is).bind fun y1=>if (!y1) then some 14 else some 0) fun k2=>
   if (p.Kind==5) then if (((p.L.n:Nat):Int) != 1) then k2 true else if (decide (p.Min<0)) then k2 true else if (decide (32<p.Min)) then k2 true else
    if (p.Max != (-1)) then if (decide (p.Max<p.Min)) then k2 true else k2 (decide (32<p.Max))else k2 false else k2 false)=some e /\
  (e=0↔(0<=p.Kind/\p.Kind<=6)/\(p.Kind≠1->(p.Is.Plus=0/\p.Is.Minus=0)/\p.Not=false)/\(p.Kind≠3->p.Kind≠4->p.Kind≠5->p.L.n=0)/\(p.Kind≠5->p.Min=0/\p.Max=0) /\
   (p.Kind=5->p.L.n=1/\0<=p.Min/\p.Min<=32/\(p.Max = -1 \/ (p.Min<=p.Max/\p.Max<=32)))/\vS p.Is):=by
  intro j;by_cases d:p.Kind≠5->p.Min=0/\p.Max=0
  case neg=>refine ifT ?_ ⟨2,rfl,by simp[d]⟩;rw[Classical.not_imp]at d;simp only[Cl8,Co3,bne_iff_ne,ne_eq];omega
  refine ifF ?_ (ltX ?_)
  .simp only[Cl8,Co3,bne_iff_ne,ne_eq];rintro⟨g1,g2⟩
   have:=d g1
   omega
  have last:(p.Kind=5->p.L.n=1/\0<=p.Min/\p.Min<=32/\(p.Max = -1 \/ (p.Min<=p.Max/\p.Max<=32)))->∃e,(if false then some (2:Int)else (O1 N p.Is).bind fun y1=>if (!y1) then some 14 else some 0)=some e /\
   (e=0↔(0<=p.Kind/\p.Kind<=6)/\(p.Kind≠1->(p.Is.Plus=0/\p.Is.Minus=0)/\p.Not=false)/\(p.Kind≠3->p.Kind≠4->p.Kind≠5->p.L.n=0)/\(p.Kind≠5->p.Min=0/\p.Max=0) /\
    (p.Kind=5->p.L.n=1/\0<=p.Min/\p.Min<=32/\(p.Max = -1 \/ (p.Min<=p.Max/\p.Max<=32)))/\vS p.Is):=by
   intro g;refine Ci ?_;rw[i,f,Aj9];refine B4 rfl ?_;cases l:vB a b
   .exact ifT rfl ⟨14,rfl,by simp⟩
   exact Ci ⟨0,rfl,by rw[<- f];exact⟨fun _=>⟨h1,c,j,d,g,rfl⟩,fun _=>rfl⟩⟩
  have bad:¬(p.Kind=5->p.L.n=1/\0<=p.Min/\p.Min<=32/\(p.Max = -1 \/ (p.Min<=p.Max/\p.Max<=32)))->∃e,(if true then some (2:Int)else (O1 N p.Is).bind fun y1=>if (!y1) then some 14 else some 0)=some e /\
   (e=0↔(0<=p.Kind/\p.Kind<=6)/\(p.Kind≠1->(p.Is.Plus=0/\p.Is.Minus=0)/\p.Not=false)/\(p.Kind≠3->p.Kind≠4->p.Kind≠5->p.L.n=0)/\(p.Kind≠5->p.Min=0/\p.Max=0) /\
    (p.Kind=5->p.L.n=1/\0<=p.Min/\p.Min<=32/\(p.Max = -1 \/ (p.Min<=p.Max/\p.Max<=32)))/\vS p.Is):=fun g=>ifT rfl ⟨2,rfl,⟨fun h=>Kh h (by decide),fun h=>Kh h.2.2.2.2.1 g⟩⟩
  by_cases k5:p.Kind=5
  .refine ifT (by simp[k5]) ?_;by_cases g1:p.L.n=1
   case neg=>exact Ax (bad fun h=>g1 (h k5).1)
   refine Bm ?_;by_cases g2:p.Min<0
   .exact ifT (by simpa using g2) (bad fun h=>by have:=h k5;omega)
   refine ifF (by simpa using g2) ?_;by_cases g3:32<p.Min
   .exact ifT (by simpa using g3) (bad fun h=>by have:=h k5;omega)
   refine ifF (by simpa using g3) ?_;by_cases g4:p.Max = -1
   .exact ifF (by simp[g4]) (last fun _=>⟨g1,by omega,by omega,.inl g4⟩)
   refine ifT (by simp[g4]) ?_;by_cases g5:p.Max<p.Min
   .exact ifT (by simpa using g5) (bad fun h=>by have:=h k5;omega)
   refine ifF (by simpa using g5) ?_;by_cases g6:32<p.Max
   .rw[decide_eq_true g6];exact bad fun h=>by have:=h k5;omega
   rw[decide_eq_false g6];exact last fun _=>⟨g1,by omega,by omega,.inr ⟨by omega,by omega⟩⟩
  exact ifF (by simp[k5]) (last fun h=>Kh h k5)
 by_cases k3:p.Kind=3
 .exact ifF (by simp[k3]) (Ci (rest fun h=>Kh k3 h))
 refine ifT (by simp[k3]) ?_;by_cases k4:p.Kind=4
 .exact ifF (by simp[k4]) (Ci (rest fun _ h=>Kh k4 h))
 refine ifT (by simp[k4]) ?_;by_cases k5:p.Kind=5
 .exact ifF (by simp[k5]) (Ci (rest fun _ _ h=>Kh k5 h))
 refine ifT (by simp[k5]) ?_;by_cases hn:p.L.n=0
 .exact Bm (rest fun _ _ _=>hn)
 exact Ax ⟨2,rfl,⟨fun h=>Kh h (by decide),fun h=>Kh (h.2.2.1 k3 k4 k5) hn⟩⟩
def Jk {α : Type}(s:Sl α){i:Nat}(h:i<s.n):s.toList.drop i=s.g i::s.toList.drop (i+1):=by
 have hl:i<s.toList.length:=by rw[De];exact h
 rw[CD4 hl];simp[Sl.toList]
def Gj {α : Type}(s:Sl α):s.toList.drop s.n=[]:=Cx2 (by rw[De];exact Cl9 _)
def Bs6 {N:Nat}(o:1000<=N):∀(d:Nat),d<=40->∀(p:Pat),okPS p->∀M,N+d+1<=M->∃r,Dc M p ((40-d:Nat):Int)=some r /\
 ∃k:Nat,r.1=(k:Int)/\40-d<=k/\k<=40/\(r.2=0->40-d<k/\∀l,chk d (p::l)↔chk (40-k) l)/\(r.2≠0->∀l,¬chk d (p::l))
 |d,hd,p,hp,0,hM=>by omega
 |0,hd,p,hp,M+1,hM=>by show ∃r,Q9 (Dc M) M p _=some r/\_;unfold Q9;exact Ay ⟨_,rfl,40,rfl,by omega,by omega,fun h=>Kh h (by decide),fun _ l h=>by cases h⟩
 |d+1,hd,p,hp,M+1,hM=>by
  show ∃r,Q9 (Dc M) M p _=some r/\_;unfold Q9;refine Bm ?_;obtain⟨e,q,hn⟩:=BH2 (N:=M) hp.is;refine B4 q ?_;by_cases c:e=0
  case neg=>exact ifT (by simp[c]) ⟨_,rfl,40-(d+1),rfl,Cl9 _,by omega,fun h=>Kh h c,fun _ l h=>c (hn.2 h.1)⟩
  refine ifF (by simp[c]) ?_;have a:=hn.1 c;rw[Cl];refine N4 (fun i x1 x2=>x2=(i:Int)/\∃k:Nat,x1=(k:Int)/\40-(d+1)+1+i<=k/\k<=40/\i<=p.L.n/\∀l,chk (d+1) (p::l)↔chk (40-k) (p.L.toList.drop i++l)) 41 _ (by omega)
   ⟨rfl,40-(d+1)+1,rfl,by omega,by omega,by omega,fun l=>by rw[show 40-(40-(d+1)+1)=d by omega];exact⟨fun h=>h.2,fun h=>⟨a,h⟩⟩⟩ ?_
  rintro j i x1 x2 t ⟨rfl,k,rfl,h1,s,u,f⟩ hs;by_cases hl:i<p.L.n
  .refine Ax (Ab ?_);obtain⟨r,m,k',r1,r2,r3,r4,r5⟩:=Bs6 o (40-k) (by omega) (p.L.g i) (hp.L hl) M (by omega);rw[show ((40-(40-k):Nat):Int)=(k:Int) by omega]at m;refine B4 (by rw[Cl2];exact m) ?_;by_cases b:r.2=0
   .refine ifF (by simp[b]) (hs (by omega) _ _ ⟨Cl,k',r1,by have:=(r4 b).1;omega,r3,by omega,fun l=>?_⟩);rw[f,Jk _ hl,Cq3];exact (r4 b).2 _
   refine ifT (by simp[b]) ⟨_,rfl,k',r1,by omega,r3,fun h=>Kh h b,fun _ l hc=>?_⟩;rw[f,Jk _ hl,Cq3]at hc;exact r5 b _ hc
  obtain rfl:i=p.L.n:=by omega
  refine Ci ⟨_,rfl,k,rfl,by omega,s,fun _=>⟨by omega,fun l=>?_⟩,fun h=>Kh rfl h⟩;rw[f,Gj];rfl
def Wy {N:Nat}(f:2000<=N){p:Pat}(hp:okPS p):∃e,V8 N p=some e/\(e=0↔chk 40 [p]):=by
 obtain⟨r,b,k,h1,g,i,c,d⟩:=Bs6 (N:=1500) (by omega) 40 (Cl9 _) p hp N (by omega);unfold V8;refine B4 b ⟨_,rfl,fun h=>?_,fun h=>?_⟩
 .exact ((c h).2 []).2 (Bs5 _)
 by_cases a:r.2=0
 .exact a
 exact Kh h (d a [])
end Go.AM
namespace Go.AM
open Go.Proofs
def Bs7 (x:BitVec 64)(h:x≠0#64):Lib.ctz 64 x.toNat<64/\x.getLsbD (Lib.ctz 64 x.toNat)=true/\∀j,j<Lib.ctz 64 x.toNat->x.getLsbD j=false:=by
 have b:x.toNat≠0:=fun e=>h (Cp4 (by simpa using e));obtain⟨m,hm,a⟩:=Lib.ctzFrom_spec 64 x.toNat (by omega) x.isLt;have e:Lib.ctz 64 x.toNat=Lib.ctzFrom 64 x.toNat:=by unfold Lib.ctz;rw[Ix b]
 rw[e];refine⟨a,?_,fun j c=>?_⟩
 .show x.toNat.testBit _=true;rw[hm,CI7];simp[<- hm,Nat.testBit_zero]
 show x.toNat.testBit _=false;rw[hm,CI7];simp[<- hm];omega
def Jl (x:BitVec 64)(i:Nat):List Int:=((List.range' i (64-i)).filter fun j=>x.getLsbD j).map fun (j:Nat)=>(j:Int)
def Ru {x:BitVec 64}{i:Nat}(h:∀j,j<64->x.getLsbD j=false):Jl x i=[]:=by
 unfold Jl;rw[CE6.2 fun j a=>by
  have:=List.mem_range'.1 a
  simp;exact h j (by omega)]
 rfl
def Ak1 {x:BitVec 64}{t:Nat}:∀(k i:Nat),t=i+k->t<64->x.getLsbD t=true->(∀j,j<t->x.getLsbD j=false)->Jl x i=(t:Int)::Jl x (t+1)
 |0,i,h,ht,hb,hl=>by
  obtain rfl:t=i:=by omega
  unfold Jl;rw[show 64-t=(64-(t+1))+1 by omega,Cz4,Cx0 hb];rfl
 |k+1,i,h,ht,hb,hl=>by rw[<- Ak1 k (i+1) (by omega) ht hb hl];unfold Jl;rw[show 64-i=(64-(i+1))+1 by omega,Cz4,Ct4 (by simp;exact hl i (by omega))]
def AQ8 {x y:BitVec 64}{i:Nat}(h:∀j,i<=j->x.getLsbD j=y.getLsbD j):Jl x i=Jl y i:=by unfold Jl;rw[CH9 fun j a=>h j (by have:=List.mem_range'.1 a;omega)]
def Ck8 (M:Nat)(a:Int->Option (List Int))(x1:Int):Option (List Int):= if (x1 != 0) then (J2 M x1).bind fun y3=>if (0:Int)<=y3 then Be y3 (a (E9 .andNot .u64 x1 (shI .shl .u64 1 y3))) else none else some []
def Bs8 {x:BitVec 64}{M:Nat}{a:Int->Option (List Int)}(hx:x≠0#64):Ck8 M a (U x)=Be ((Lib.ctz 64 x.toNat:Nat):Int) (a (U (x &&& ~~~(1#64 <<< Lib.ctz 64 x.toNat)))):=by
 have c:x.toNat≠0:=fun e=>hx (Cp4 (by simpa using e));have b:=x.isLt;unfold Ck8;rw[Cx]
 have:J2 M (U x)=some ((Lib.ctz 64 x.toNat:Nat):Int):=by unfold J2;rw[Il ⟨show (0:Int)<=(x.toNat:Int) by omega,show (x.toNat:Int)<18446744073709551616 by omega⟩];rfl
 rw[this,Cl3,Cw,AC7 _ (Bs7 x hx).1,BG2]
def AE1 {M:Nat}{a:Int->Option (List Int)}:Ck8 M a (U 0#64)=some []:=rfl
def BX3 (M:Nat):∀(k i:Nat) (x:BitVec 64),64-i<=k->(∀j,j<i->x.getLsbD j=false)->∀N,k<N->T9 N (Ck8 M) (U x)=some (Jl x i):=by
 intro k
 induction k with
 |zero=>
  intro i x hk hl N b;have g:x=0#64:=Cs5 fun j a=>by simp;exact hl j (by omega)
  subst g
  match N,b with
  |N+1,_=>rw[Ru fun j a=>by simp,V2,AE1]
 |succ k ih=>
  intro i x hk hl N b
  match N,b with
  |N+1,b=>
   by_cases hx:x=0#64
   .subst hx;rw[Ru fun j a=>by simp,V2,AE1]
   obtain⟨h1,c,d⟩:=Bs7 x hx;have l:i<=Lib.ctz 64 x.toNat:=by
    by_cases m:Lib.ctz 64 x.toNat<i
    .rw[hl _ m]at c;cases c
    omega
   rw[Ak1 (Lib.ctz 64 x.toNat-i) i (by omega) h1 c d,V2,Bs8 hx];generalize Lib.ctz 64 x.toNat=t at h1 c d l;have hb:∀j,j<64->(x &&& ~~~(1#64 <<< t)).getLsbD j=(x.getLsbD j && !decide (j=t)):=fun j a=>by rw[Cn6,Cr2,KO h1 a];simp[a]
   have hc:Jl x (t+1)=Jl (x &&& ~~~(1#64 <<< t)) (t+1):=AQ8 fun j a=>by
    by_cases f:j<64
    .rw[hb j f];have:¬j=t:=by omega
     simp[this]
    rw[CL3 _ _ (by omega),CL3 _ _ (by omega)]
   rw[ih (t+1) (x &&& ~~~(1#64 <<< t)) (by omega) (fun j a=>by
    rw[hb j (by omega)];by_cases e:j=t
    .simp[e]
    rw[d j (by omega)];rfl) N (by omega),<- hc]
   rfl
def OI (x:BitVec 64){N:Nat}(b:100<=N):W5 N (U x)=some (Jl x 0):=
 BX3 N 64 0 x (by omega) (fun j a=>Kh a (by omega)) N (by omega)
def mem_bitsF {x:BitVec 64}{i:Nat}{y:Int}:y∈Jl x i ↔ ∃j:Nat,y=(j:Int)/\i<=j/\j<64/\x.getLsbD j=true:=by
 unfold Jl;simp only[Cp2,Cy8,CI0];constructor
 .rintro⟨j,⟨h1,a⟩,rfl⟩;exact⟨j,rfl,h1.1,by omega,a⟩
 rintro⟨j,rfl,h1,a,b⟩;exact⟨j,⟨⟨h1,by omega⟩,b⟩,rfl⟩
def AE2 {T A R:Type}{body:(A->Option R)->T->A->Option R}{k:A->Option R}{O8:R->Prop}(J:List T->A->Prop)(c:∀a,J [] a->∃r,k a=some r/\O8 r)
 (b:∀t L a self,J (t::L) a->(∀a',J L a' -> ∃r,self a' = some r/\O8 r)->∃r,body self t a=some r/\O8 r):∀(L:List T) (a:A),J L a->∃r,Q5 L body k a=some r/\O8 r
 |[],a,h=>c a h
 |t::L,a,h=>b t L a _ h fun a' h'=>AE2 J c b L a' h'
def TabA (n:Nat)(R:Nat->Nat->Prop)(f:Nat->Int):Prop:=TabR n R f/\∀a,n<a->f a=0
def TabA.congr {n:Nat}{R R' : Nat->Nat->Prop}{f:Nat->Int}(h:TabA n R f)(c:∀a b,a<=n->b<=n->(R a b↔R' a b)):TabA n R' f:=⟨h.1.congr c,h.2⟩
def zeroA (n:Nat):TabA n (fun _ _=>False) (fun _=>0):=⟨BG7 fun _ _=>rfl,fun _ _=>rfl⟩
def GT (f:Nat->Int)(i:Nat)(v:Int)(a:Nat):VF f i v a=if a=i then v else f a:=rfl
def BO0 {N n:Nat}{R S:Nat->Nat->Prop}{x y:Nat->Int}(hn:n<=32)(f:1000<=N)(hR:TabA n R x)(hS:TabA n S y) :∃s,S0 N x y=some s/\TabA n (fun a b=>R a b \/ S a b) s:=by
 unfold S0;refine N4 (fun i x1 x2=>x2=(i:Int)/\∀a,x1 a=if a<i then E9 .or .u64 (x a) (y a)else x a) 33 _ (by omega) ⟨rfl,fun a=>by rw[Fp]⟩ ?_;rintro d i x1 x2 g ⟨rfl,c⟩ hs;by_cases hl:i<33
 .refine Ax (Ab (Ab (hs (by omega) _ _ ⟨Cl,fun a=>?_⟩)));rw[GT,Cl2,Cp5,Cs2];by_cases e:a=i
  .subst e;rw[Il rfl,Cw,c a,Fp]
  rw[Ix e,c a];by_cases e2:a<i
  .rw[Il e2,Cw]
  rw[Ix e2,Fp]
 refine Bm ⟨x1,rfl,fun a ha=>?_,fun a ha=>?_⟩
 .obtain⟨u,e1,g1⟩:=hR.1 a ha;obtain⟨v,e2,g2⟩:=hS.1 a ha;refine⟨u ||| v,by rw[c a,Cw,e1,e2,Ck7],fun b hb=>?_⟩;rw[Cn5,Co3,g1 b hb,g2 b hb];constructor
  .rintro (⟨h1,c⟩ | ⟨h1,c⟩)
   .exact⟨h1,.inl c⟩
   exact⟨h1,.inr c⟩
  rintro⟨h1,c|c⟩
  .exact .inl ⟨h1,c⟩
  exact .inr ⟨h1,c⟩
 rw[c a];split
 .rw[hR.2 a ha,hS.2 a ha];rfl
 exact hR.2 a ha
def KW {N n:Nat}(hn:n<=32)(f:1000<=N):∃s,V6 N (n:Int)=some s/\TabA n (fun a b=>a=b) s:=by
 unfold V6;rw[Cl];refine N4 (fun i x1 x2=>x2=(i:Int)/\∀a,x1 a=if a<i then U (1#64 <<< a)else 0) (n+1) _ (by omega) ⟨rfl,fun a=>rfl⟩ ?_;rintro d i x1 x2 g ⟨rfl,c⟩ hs;by_cases hl:i<=n
 .refine Ax (Ab (hs (by omega) _ _ ⟨Cl,fun a=>?_⟩));rw[GT,Cl2,Cp5,Cs2];by_cases e:a=i
  .subst e;rw[Il rfl,Cw,AC7 _ (by omega)]
  rw[Ix e,c a];by_cases e2:a<i
  .rw[Il e2,Cw]
  rw[Ix e2,Fp]
 refine Bm ⟨x1,rfl,fun a ha=>⟨1#64 <<< a,by rw[c a,Cw],fun b hb=>?_⟩,fun a ha=>by rw[c a,Fp]⟩;rw[KO (by omega) hb,Sp];omega
def UQ {N n:Nat}{R S:Nat->Nat->Prop}{x y:Nat->Int}(hn:n<=32)(hN:1000<=N)(hR:TabA n R x)(hS:TabA n S y) :∃s,G7 N x y=some s/\TabA n (fun a b=>∃c,c<=n/\R a c/\S c b) s:=by
 unfold G7;refine N4 (fun i x3 x4=>x4=(i:Int)/\(∀a,a<i->a<=n->∃z:BitVec 64,x3 a=U z/\∀b,b<64->(z.getLsbD b=true↔b<=n/\∃c,c<=n/\R a c/\S c b))/\∀a,i<=a \/ n<a->x3 a=0) 33 _ (by omega)
  ⟨rfl,fun a ha=>Kh ha (by omega),fun a _=>rfl⟩ ?_
 rintro a1 i x3 x4 hi ⟨rfl,q,m⟩ hs;by_cases hl:i<33
 .refine Ax (Ab ?_);rw[Cl2,Cp5,Cs2];refine B4 (x:=x i) rfl ?_;by_cases r:i<=n
  .obtain⟨u,e1,g1⟩:=hR.1 i r;refine B4 (x:=Jl u 0) (by rw[e1];exact OI u (by omega)) ?_;refine AE2 (fun L z=>(∀a,a≠i->z a=x3 a)/\(∀t∈L,∃c:Nat,t=(c:Int)/\c<=n/\R i c)/\∃v:BitVec 64,z i=U v/\∀b,b<64->((v.getLsbD b=true \/ ∃c:Nat,(c:Int)∈L/\b<=n/\S c b)↔(b<=n/\∃c,c<=n/\R i c/\S c b))) ?_ ?_ _ _ ?_
   .rintro z ⟨k1,k2,v,k3,k4⟩;refine hs (by omega) _ _ ⟨Cl,fun a ha f=>?_,fun a ha=>?_⟩
    .by_cases e:a=i
     .subst e;exact⟨v,k3,fun b hb=>by rw[<- k4 b hb];simp⟩
     obtain⟨z',p1,p2⟩:=q a (by omega) f;exact⟨z',by rw[k1 a e];exact p1,p2⟩
    rw[k1 a (by omega)];exact m a (by omega)
   .rintro t L z w ⟨k1,k2,v,k3,k4⟩ a0;obtain⟨c,rfl,hc,a2⟩:=k2 t (by simp);refine Ab (a0 _ ⟨fun a ha=>?_,fun t ht=>k2 t (by simp[ht]),?_⟩)
    .rw[GT,Fp];exact k1 a ha
    obtain⟨yc,e2,g2⟩:=hS.1 c hc;refine⟨v ||| yc,?_,fun b hb=>?_⟩
    .rw[GT,Cw];simp only[Cl2,Cp5,Cs2];rw[k3,e2,Ck7]
    rw[<- k4 b hb,Cn5,Co3,g2 b hb];constructor
    .rintro ((h|⟨h,h'⟩)|⟨c',h,h'⟩)
     .exact .inl h
     .exact .inr ⟨c,by simp,h,h'⟩
     exact .inr ⟨c',by simp[h],h'⟩
    rintro (h|⟨c',h,h',d⟩)
    .exact .inl (.inl h)
    rcases Co1.1 h with h|h
    .have:c' = c:=by omega
     subst this;exact .inl (.inr ⟨h',d⟩)
    exact .inr ⟨c',h,h',d⟩
   refine⟨fun _ _=>rfl,fun t ht=>?_,0#64,m i (.inl (Cl9 _)),fun b hb=>?_⟩
   .obtain⟨j,rfl,_,o,hb⟩:=mem_bitsF.1 ht;exact⟨j,rfl,((g1 j o).1 hb).1,((g1 j o).1 hb).2⟩
   simp only[CG4,Cm2,false_or];constructor
   .rintro⟨c,hc,h,h'⟩;obtain⟨j,o,_,g,l⟩:=mem_bitsF.1 hc;obtain rfl:c=j:=by omega
    exact⟨h,c,((g1 c g).1 l).1,((g1 c g).1 l).2,h'⟩
   rintro⟨h,c,hc,h',d⟩;exact⟨c,mem_bitsF.2 ⟨c,rfl,by omega,by omega,(g1 c (by omega)).2 ⟨hc,h'⟩⟩,h,d⟩
  refine B4 (x:=[]) (by rw[hR.2 i (by omega)];exact (OI 0#64 (by omega)).trans (by rw[Ru fun j o=>by simp])) ?_;exact hs (by omega) _ _ ⟨Cl,fun a ha f=>q a (by omega) f,fun a ha=>m a (by omega)⟩
 exact Bm ⟨x3,rfl,fun a ha=>q a (by omega) ha,fun a ha=>m a (.inr ha)⟩
def BH3 (N:Nat)(x:Nat->Int):N3 N x=G7 N x x:=rfl
end Go.AM
namespace Go.AM
variable {N:Nat}
open Go.Proofs
def Ci6:∀m:Fin 33,(E9 .and .i64 ((m.val:Nat):Int) 1==1)=decide (m.val % 2=1)/\shI .shr .i64 ((m.val:Nat):Int) 1=((m.val / 2:Nat):Int):=by decide +kernel
def AE3 {N n:Nat}{R:Nat->Nat->Prop}{x:Nat->Int}(hn:n<=32)(o:1000<=N)(u:Fwd n R)(hR:TabA n R x){k:Nat}(hk:k<=32) :∃s,I0 N x (k:Int) (n:Int)=some s/\TabA n (Nq n R k) s:=by
 unfold I0;obtain⟨y1,e1,h1⟩:=KW (N:=N) hn o;refine B4 e1 ?_;refine KU (fun i x1 x2 x3=>x1=((k / 2 ^ i:Nat):Int)/\TabA n (Nq n R (2 ^ i)) x2/\TabA n (Nq n R (k % 2 ^ i)) x3) 6 _ (by omega) ⟨by simp,?_,?_⟩ ?_
 .exact hR.congr fun a b ha hb=>⟨fun h=>⟨a,ha,rfl,h⟩,fun⟨c,hc,(h:a=c),h'⟩=>h ▸ h'⟩
 .rw[Nat.pow_zero,Nat.mod_one];exact h1
 rintro v i x1 x2 x3 w ⟨rfl,q,l⟩ hs;have hm:k / 2 ^ i<=32:=Cp0 (Cx1 _ _) hk;obtain⟨b1,b2⟩:=Ci6 ⟨k / 2 ^ i,by omega⟩;simp only at b1 b2;have f:k / 2 ^ i / 2=k / 2 ^ (i+1):=by rw[Nat.div_div_eq_div_mul,Nat.pow_succ]
 have g:k % 2 ^ (i+1)=k % 2 ^ i+2 ^ i*(k / 2 ^ i % 2):=Nat.mod_pow_succ;have d:∃s,N3 N x2=some s/\TabA n (Nq n R (2 ^ (i+1))) s:=by obtain⟨s,e,h⟩:=UQ hn o q q;refine⟨s,(BH3 N x2).trans e,h.congr fun a b ha hb=>?_⟩;rw[show 2 ^ (i+1)=2 ^ i+2 ^ i by rw[Nat.pow_succ];omega];exact (GP u (2 ^ i) ha (2 ^ i) b).symm
 obtain⟨sq,esq,d⟩:=d;by_cases m:k / 2 ^ i=0
 .refine ifF (by simp[m]) ⟨x3,rfl,?_⟩
  have:k % 2 ^ i=k:=Cz3 (by
   have:=CL8.1 m
   rcases this with h|h
   .exact Kh h (Nat.ne_of_gt (Nat.two_pow_pos i))
   exact h)
  rw[this]at l;exact l
 have j:i<6:=by
  by_cases h:i<6
  .exact h
  exact Kh (Cy1 (CH0 hk (Cm6 (by decide:32<2 ^ 6) (CB4 (by omega) (by omega))))) m
 refine ifT (decide_eq_true (Int.natCast_pos.2 (Nat.pos_of_ne_zero m))) ?_;by_cases r:k / 2 ^ i % 2=1
 .refine ifT (by rw[b1];simp[r]) ?_;obtain⟨t,et,ht⟩:=UQ hn o l q;refine B4 et (B4 esq (hs j _ _ _ ⟨by rw[b2,f],d,ht.congr fun a b ha hb=>?_⟩));rw[g,r,Cs2];exact (GP u (k % 2 ^ i) ha (2 ^ i) b).symm
 refine ifF (by rw[b1];simp[r]) (B4 esq (hs j _ _ _ ⟨by rw[b2,f],d,?_⟩));rw[g,show k / 2 ^ i % 2=0 by omega,Nat.mul_zero,Cy6];exact l
def BX4 {s c:To}(hs:okS s)(hc:okS c):((E9 .or .u32 (E9 .andNot .u32 c.Plus s.Plus) (E9 .andNot .u32 c.Minus s.Minus))==0)=AP1 s c:=by
 obtain⟨p,m,rfl⟩:=hs;obtain⟨a,b,rfl⟩:=hc;have e:∀x y:BitVec 32,((E9 .and .u32 (x.toNat:Int) (y.toNat:Int))==(y.toNat:Int))=decide (y &&& ~~~ x=0#32):=by
  intro x y;rw[IO,Cp6];simp only[beq_iff_eq,Sp];constructor
  .intro h;have h:x &&& y=y:=Cp4 (by omega);refine (z32 _).2 fun i d=>?_
   have:=congrArg (·.getLsbD i) h
   simp only[Cn6,Cr2,d,decide_true,CD2]at this⊢;cases hx:x.getLsbD i<;>cases hy:y.getLsbD i<;>simp_all
  intro h
  have:x &&& y=y:=Qd fun i d=>by
   have:=(z32 _).1 h i d
   simp only[Cn6,Cr2,d,decide_true,CD2]at this⊢;cases hx:x.getLsbD i<;>cases hy:y.getLsbD i<;>simp_all
  rw[this]
 unfold AP1;simp only[e,HK,SH,eq0];rw[Cp6];simp only[Cl8,Sp];constructor
 .intro h;have h:=(z32 _).1 h;exact⟨(z32 _).2 fun i d=>by have:=h i d;rw[Cn5,CB5]at this;exact this.1,(z32 _).2 fun i d=>by have:=h i d;rw[Cn5,CB5]at this;exact this.2⟩
 rintro⟨h1,f⟩;rw[h1,f];rfl
def Bs9 (q:1000<=N){w:Sl To}(hw:w.n<=32)(l:∀i,i<w.n->okS (w.g i)){c:To}(hc:okS c)(no:Bool) :∃f,Br N ⟨c,no⟩ w=some f/\TabA w.n (fun a b=>a<w.n/\b=a+1/\(AP1 (w.g a) c != no)=true) f:=by
 unfold Br;refine N4 (fun i x1 x2=>x2=(i:Int)/\∀a,x1 a=if a<i/\(AP1 (w.g a) c != no) then U (1#64 <<< (a+1))else 0) w.n _ (by omega) ⟨rfl,fun a=>by rw[Fp]⟩ ?_;rintro m i x1 x2 r ⟨rfl,d⟩ hs;by_cases hl:i<w.n
 .refine Ax (Ab ?_);rw[Cl2,BX4 (l i hl) hc];by_cases hb:(AP1 (w.g i) c != no)=true
  .refine ifT (by revert hb;cases AP1 (w.g i) c<;>cases no<;>simp) ?_;rw[Cl];refine Ab (hs hl _ _ ⟨rfl,fun a=>?_⟩);rw[GT,Cp5,Cs2,AC7 _ (by omega)];by_cases e:a=i
   .subst e;rw[Il rfl,Il ⟨by omega,hb⟩]
   rw[Ix e,d a];by_cases e2:a<i
   .simp only[e2,show a<i+1 by omega,true_and]
   rw[Fp,Fp]
  refine ifF (by revert hb;cases AP1 (w.g i) c<;>cases no<;>simp) (hs hl _ _ ⟨Cl,fun a=>?_⟩);rw[d a];by_cases e:a=i
  .subst e;rw[Fp,Ix (fun h=>hb h.2)]
  by_cases e2:a<i
  .simp only[e2,show a<i+1 by omega,true_and]
  rw[Fp,Fp]
 refine Bm ⟨x1,rfl,fun a ha=>?_,fun a ha=>by rw[d a,Fp]⟩;by_cases hb:a<w.n/\(AP1 (w.g a) c != no)=true
 .refine⟨1#64 <<< (a+1),by rw[d a,Il ⟨by omega,hb.2⟩],fun b j=>?_⟩;rw[KO (by omega) j,Sp];exact⟨fun h=>⟨by omega,hb.1,h,hb.2⟩,fun h=>h.2.2.1⟩
 refine⟨0#64,by rw[d a,Ix (fun h=>hb ⟨by omega,h.2⟩)];rfl,fun b j=>?_⟩;simp only[CG4,Cm2,false_iff];rintro⟨_,h1,d,o⟩;exact hb ⟨h1,o⟩
def Bt0 {n a0 b0:Nat}(ha:a0<=n)(hb:b0<=n)(hn:n<=32):TabA n (fun a b=>a=a0/\b=b0) (VF (fun _=>0) a0 (U (1#64 <<< b0))):=by
 refine⟨fun a d=>?_,fun a d=>by rw[GT,Fp]⟩;by_cases e:a=a0
 .refine⟨1#64 <<< b0,by rw[GT,Il e],fun b c=>?_⟩;rw[KO (by omega) c,Sp];omega
 refine⟨0#64,by rw[GT,Ix e];rfl,fun b c=>?_⟩;simp only[CG4,Cm2,false_iff];exact fun h=>e h.2.1
def AZ2 {w:Sl To}(hw:w.n<=32)(e:Bool):∃f,CB N ⟨e⟩ w=some f/\TabA w.n (fun a b=>a=(if e then w.n else 0)/\b=(if e then w.n else 0)) f:=by
 unfold CB;cases e
 .refine Ci (Bf ⟨_,rfl,?_⟩);exact Bt0 (n:=w.n) (a0:=0) (b0:=0) (by omega) (by omega) hw
 refine ifT rfl (Ab ⟨_,rfl,?_⟩);rw[Cl2,Cp5,Cs2,AC7 _ (by omega)];exact Bt0 (Cl9 _) (Cl9 _) hw
def BX5 (a:1000<=N){w:Sl To}(hw:w.n<=32){rec:Part->Sl To->Option (Nat->Int)}{m:Nat}(hm:m<=40){g:Nat->Part}{Q:Nat->Nat->Nat->Prop}
 (hc:∀i,i<m->∃f,rec (g i) w=some f/\TabA w.n (Q i) f):∃f,Dv rec N ⟨⟨m,g⟩⟩ w=some f/\TabA w.n (Bg7 w.n Q m) f:=by
 unfold Dv;obtain⟨y1,e1,h1⟩:=KW (N:=N) hw a;refine B4 e1 ?_;refine N4 (fun i x1 x2=>x2=(i:Int)/\i<=m/\TabA w.n (Bg7 w.n Q i) x1) m _ (by omega) ⟨rfl,by omega,h1⟩ ?_;rintro b i x1 x2 o ⟨rfl,d,c⟩ hs;by_cases hl:i<m
 .refine Ax (ifT (by show (0:Int)<=i/\(i:Int)<m;omega) ?_);obtain⟨f,e2,j⟩:=hc i hl;refine B4 (by rw[Cl2];exact e2) ?_;obtain⟨s,e3,l⟩:=UQ hw a c j;exact B4 e3 (hs hl _ _ ⟨Cl,hl,l⟩)
 obtain rfl:i=m:=by omega
 exact Ci ⟨x1,rfl,c⟩
def BX6 (l:1000<=N){w:Sl To}(hw:w.n<=32){rec:Part->Sl To->Option (Nat->Int)}{m:Nat}(hm:m<=40){g:Nat->Part}{Q:Nat->Nat->Nat->Prop}
 (hc:∀i,i<m->∃f,rec (g i) w=some f/\TabA w.n (Q i) f):∃f,Dw rec N ⟨⟨m,g⟩⟩ w=some f/\TabA w.n (fun a b=>∃i,i<m/\Q i a b) f:=by
 unfold Dw;refine N4 (fun i x1 x2=>x2=(i:Int)/\i<=m/\TabA w.n (fun a b=>∃j,j<i/\Q j a b) x1) m _ (by omega) ⟨rfl,by omega,(zeroA _).congr fun a b _ _=>⟨False.elim,fun⟨j,h,_⟩=>Kh h (by omega)⟩⟩ ?_;rintro c i x1 x2 t ⟨rfl,o,d⟩ hs;by_cases hl:i<m
 .refine Ax (ifT (by show (0:Int)<=i/\(i:Int)<m;omega) ?_);obtain⟨f,e2,q⟩:=hc i hl;refine B4 (by rw[Cl2];exact e2) ?_;obtain⟨s,e3,r⟩:=BO0 hw l d q;refine B4 e3 (hs hl _ _ ⟨Cl,hl,r.congr fun a b _ _=>⟨?_,?_⟩⟩)
  .rintro (⟨j,h,h'⟩ | h)
   .exact⟨j,by omega,h'⟩
   exact⟨i,by omega,h⟩
  rintro⟨j,h,h'⟩;by_cases e:j=i
  .subst e;exact .inr h'
  exact .inl ⟨j,by omega,h'⟩
 obtain rfl:i=m:=by omega
 exact Ci ⟨x1,rfl,d⟩
end Go.AM
namespace Go.AM
open Go.Proofs
def BX7 {N:Nat}(l:1000<=N){w:Sl To}(hw:w.n<=32){rec:Part->Sl To->Option (Nat->Int)}{pt:Part}{Q:Nat->Nat->Prop}(d:Fwd w.n Q){f:Nat->Int}(u:rec pt w=some f)(r:TabA w.n Q f)
 {mn mx:Int}(y:0<=mn) (h1:mn<=32) (z:mx = -1 \/ (mn<=mx/\mx<=32)) :
 ∃s,Dx rec N ⟨pt,mn,mx⟩ w=some s/\TabA w.n (fun a b=>∃k:Nat,mn<=k/\(mx = -1 \/ (k:Int)<=mx)/\Nq w.n Q k a b) s:=by
 obtain⟨m,rfl⟩:∃m:Nat,mn=(m:Int):=⟨mn.toNat,by omega⟩;unfold Dx;refine B4 u ?_;obtain⟨y2,e2,t2⟩:=AE3 hw l d r (k:=m) (by omega);refine B4 e2 ?_;obtain⟨y3,e3,t3⟩:=KW (N:=N) hw l;refine B4 e3 ?_;obtain⟨y4,e4,t4⟩:=BO0 hw l r t3;refine B4 e4 ?_;have o : Fwd w.n (fun a b=>Q a b \/ a=b):=fun a b ha h=>by
  rcases h with h|h
  .exact d a b ha h
  omega
 have key:∀(K:Nat),K<=32->∃s,((I0 N y4 (K:Int) (w.n:Int)).bind fun y5=>(G7 N y2 y5).bind fun y6=>some y6)=some s/\TabA w.n (fun a b=>∃j,j<=K/\Nq w.n Q (m+j) a b) s:=by
  intro K v;obtain⟨y5,e5,t5⟩:=AE3 hw l o t4 (k:=K) v;refine B4 e5 ?_;obtain⟨y6,e6,t6⟩:=UQ hw l t2 t5;refine B4 e6 ⟨y6,rfl,t6.congr fun a b ha hb=>?_⟩;constructor
  .rintro⟨c,hc,g1,g2⟩;obtain⟨j,i,g3⟩:=(Wk d hc K b).1 g2;exact⟨j,i,(GP d m ha j b).2 ⟨c,hc,g1,g3⟩⟩
  rintro⟨j,i,g⟩;obtain⟨c,hc,g1,g3⟩:=(GP d m ha j b).1 g;exact⟨c,hc,g1,(Wk d hc K b).2 ⟨j,i,g3⟩⟩
 by_cases hx:mx<0
 .refine ifT (decide_eq_true hx) ?_;obtain⟨s,e,t⟩:=key w.n hw;refine⟨s,e,t.congr fun a b ha hb=>?_⟩;constructor
  .rintro⟨j,i,g⟩;exact⟨m+j,by omega,.inl (by omega),g⟩
  rintro⟨k,hk,_,g⟩;obtain⟨c,hc,g1,g3⟩:=(GP d m ha (k-m) b).1 (by rw[show m+(k-m)=k by omega];exact g);obtain⟨j,i,g4⟩:=AC9 d hc (k-m) g3;exact⟨j,i,(GP d m ha j b).2 ⟨c,hc,g1,g4⟩⟩
 refine ifF (by simpa using hx) ?_;obtain⟨M,rfl⟩:∃M:Nat,mx=(M:Int):=⟨mx.toNat,by omega⟩;have q:IntKind.i64.wrap ((M:Int)-(m:Int))=((M-m:Nat):Int):=by rw[E8 (by omega) (by omega)];omega
 rw[show IntKind.i64.wrap ((⟨pt,(m:Int),(M:Int)⟩:Ch6).max-(⟨pt,(m:Int),(M:Int)⟩:Ch6).min)=((M-m:Nat):Int) from q];obtain⟨s,e,t⟩:=key (M-m) (by omega);refine⟨s,e,t.congr fun a b ha hb=>?_⟩;constructor
 .rintro⟨j,i,g⟩;exact⟨m+j,by omega,.inr (by omega),g⟩
 rintro⟨k,hk,x,g⟩;exact⟨k-m,by omega,by rw[show m+(k-m)=k by omega];exact g⟩
def okQ:Nat->Pat->Prop
 |0,_=>False
 |d+1,p=>MO p/\p.L.n<=40/\∀i,i<p.L.n->okQ d (p.L.g i)
def AZ3:∀(d:Nat) (p:Pat),okQ d p->okQ (d+1) p
 |0,_,h=>h.elim
 |d+1,p,⟨h1,h2,h3⟩=>⟨h1,h2,fun i a=>AZ3 d _ (h3 i a)⟩
def Bt1:∀(k:Nat) (l:List Pat),k<=40->chk k l->∀p∈l,okQ k p
 |0,l,_,h,p,hp=>by rw[show l=[] from h]at hp;cases hp
 |k+1,[],_,_,p,hp=>by cases hp
 |k+1,q::l,hk,⟨hn,h⟩,p,hp=>by
  have ih:=Bt1 k _ (by omega) h;rcases Co1.1 hp with rfl|hp
  .have hl:=Ww k _ h;rw[Cm0,De]at hl;exact⟨hn,by omega,fun i a=>ih _ (Co9 _ (Ak0 a))⟩
  exact AZ3 k p (ih p (Cn3 _ hp))
def vS.ok {s:To}(h:vS s):okS s:=by obtain⟨p,m,e,_⟩:=h;exact⟨p,m,e⟩
def BX8 (K:Nat)(p:Pat)(pt:Part):Prop:=∀(w:Sl To),w.n<=32->(∀i,i<w.n->okS (w.g i))->∀M,K<=M->∃f,CD M pt w=some f/\TabA w.n (PR w p) f
def Wz {N:Nat}(x:1000<=N):∀(d:Nat),d<=40->∀(p:Pat),okQ d p->∀M,N+d<=M->∃pt,CC M p=some pt/\BX8 (N+d) p pt
 |0,_,p,h,_,_=>h.elim
 |d+1,hd,p,⟨hn,hc,hch⟩,0,hM=>by omega
 |d+1,hd,p,⟨hn,hc,hch⟩,M+1,hM=>by
  show ∃pt,AA (CC M) M p=some pt/\_;unfold AA;refine N4 (fun i x1 x2=>x2=(i:Int)/\i<=p.L.n/\x1.n=i/\∀j,j<i->BX8 (N+d) (p.L.g j) (x1.g j)) p.L.n _ (by omega) ⟨rfl,by omega,rfl,fun j t=>Kh t (by omega)⟩ ?_;rintro u i x1 x2 v ⟨rfl,h1,q,o⟩ hs;by_cases hl:i<p.L.n
  .refine Ax (Ab ?_);obtain⟨pt,e,y⟩:=Wz x d (by omega) (p.L.g i) (hch i hl) M (by omega);refine B4 (by rw[Cl2];exact e) ?_;refine ifT (by show (x1.n+1)*16<=_/\x1.n+1<=_;omega) (hs hl _ _ ⟨Cl,hl,by show x1.n+1=i+1;omega,fun j t=>?_⟩);by_cases e2:j=i
   .subst e2
    have:(x1.push pt).g j=pt:=by simp[Sl.push,q]
    rw[this];exact y
   have:(x1.push pt).g j=x1.g j:=by simp[Sl.push];omega
   rw[this];exact o j (by omega)
  obtain rfl:i=p.L.n:=by omega
  have fin:∀(pt:Part),(∀(w:Sl To),w.n<=32->(∀i,i<w.n->okS (w.g i))->∀M,N+d<=M->∃f,CD (M+1) pt w=some f/\TabA w.n (PR w p) f)->∃r,some pt=some r/\BX8 (N+(d+1)) p r:=by intro pt h;refine⟨pt,rfl,fun w hw c M' l=>?_⟩;obtain⟨M'',rfl⟩:∃M'',M' = M'' + 1:=⟨M' - 1,by omega⟩;exact h w hw c M'' (by omega)
  refine Ci ?_;obtain⟨⟨k0,k6⟩,n1,n2,n3,n4,n5⟩:=hn;by_cases k1:p.Kind=1
  .refine ifT (by simp[k1]) (fin _ fun w hw c M' l=>?_);obtain⟨f,e,h⟩:=Bs9 (N:=M') (by omega) hw c n5.ok p.Not;refine⟨f,e,h.congr fun a b _ _=>?_⟩;rw[Ty];simp[k1]
  refine ifF (by simp[k1]) ?_;by_cases k2:p.Kind=2
  .refine ifT (by simp[k2]) (fin _ fun w hw c M' l=>?_);obtain⟨f,e,h⟩:=AZ2 (N:=M') hw false;refine⟨f,e,h.congr fun a b _ _=>?_⟩;rw[Ty];simp[k2]
  refine ifF (by simp[k2]) ?_;by_cases k6:p.Kind=6
  .refine ifT (by simp[k6]) (fin _ fun w hw c M' l=>?_);obtain⟨f,e,h⟩:=AZ2 (N:=M') hw true;refine⟨f,e,h.congr fun a b _ _=>?_⟩;rw[Ty];simp[k6]
  refine ifF (by simp[k6]) ?_;by_cases k4:p.Kind=4
  .refine ifT (by simp[k4]) (fin _ fun w hw c M' l=>?_);obtain⟨f,e,h⟩:=BX6 (N:=M') (by omega) hw (rec:=CD M') (m:=x1.n) (g:=x1.g) (Q:=fun i=>PR w (p.L.g i)) (by omega) fun i v=>o i (by omega) w hw c M' (by omega);refine⟨f,e,h.congr fun a b _ _=>?_⟩;rw[Ty,q];simp[k4]
  refine ifF (by simp[k4]) ?_;by_cases k5:p.Kind=5
  .obtain⟨g1,g2,g3,g4⟩:=n4 k5;refine ifT (by simp[k5]) (Ab (fin _ fun w hw c M' l=>?_));obtain⟨f,e,h⟩:=o 0 (by omega) w hw c M' (by omega);obtain⟨s,e2,z⟩:=BX7 (N:=M') (by omega) hw (rec:=CD M') (AD0 w (p.L.g 0)) e h g2 g3 g4;refine⟨s,e2,z.congr fun a b _ _=>?_⟩;rw[Ty];simp[k5]
  refine ifF (by simp[k5]) (fin _ fun w hw c M' l=>?_);obtain⟨f,e,h⟩:=BX5 (N:=M') (by omega) hw (rec:=CD M') (m:=x1.n) (g:=x1.g) (Q:=fun i=>PR w (p.L.g i)) (by omega) fun i v=>o i (by omega) w hw c M' (by omega);refine⟨f,e,h.congr fun a b _ _=>?_⟩;rw[Ty,q];by_cases k3:p.Kind=3
  .simp[k3]
  have k0' : p.Kind=0:=by omega
  rw[n2 k3 k4 k5];simp[k0',Bg7]
end Go.AM
namespace Go.AM
variable {N:Nat}
open IntKind (wrap)
open Go.Proofs
def Bh2 {p:Pat}(hp:okS p.Is):∃e,Cz N p=some e/\(e=0↔MO p):=by
 obtain⟨a,b,i⟩:=hp;have m:=AQ7 i;have V:U4 N p.Is=some (vB a b):=by rw[i];exact AE0 a b
 have e0:((p.Is.Plus==0)&&(p.Is.Minus==0))=decide (p.Is.Plus=0/\p.Is.Minus=0):=by rw[Cp6];simp
 have fin:(MO p↔vS p.Is)->∃e,((U4 N p.Is).bind fun y1=>if (!y1) then some (14:Int)else some 0)=some e/\(e=0↔MO p):=by
  intro c;rw[V];refine B4 rfl ?_;rw[c,m];cases vB a b
  .exact ifT rfl ⟨14,rfl,by simp⟩
  exact Ci ⟨0,rfl,by simp⟩
 have bad:∀{x:Int},x≠0->¬MO p->∃e,some x=some e/\(e=0↔MO p):=fun hx h=>⟨_,rfl,fun d=>Kh d hx,fun d=>Kh d h⟩;unfold Cz;by_cases hk:p.Kind=0 \/ p.Kind=2 \/ p.Kind=6
 .refine ifT (by rcases hk with h|h|h<;>simp[h]) (ltX ?_);rw[e0];by_cases g1:p.Is.Plus=0/\p.Is.Minus=0
  case neg=>exact ifT (by simp[g1]) (ifT rfl (bad (by decide) fun h=>g1 (h.2.1 (by omega)).1))
  refine ifF (by simp[g1]) ?_;by_cases g2:p.Not=true
  .exact ifT g2 (ifT rfl (bad (by decide) fun h=>by have:=(h.2.1 (by omega)).2;rw[g2]at this;cases this))
  refine ifF g2 ?_;by_cases g3:p.Min=0
  case neg=>exact ifT (by simp[g3]) (ifT rfl (bad (by decide) fun h=>g3 (h.2.2.2.1 (by omega)).1))
  refine ifF (by simp[g3]) ?_;by_cases g4:p.Max=0
  case neg=>exact ifT (by simp[g4]) (ifT rfl (bad (by decide) fun h=>g4 (h.2.2.2.1 (by omega)).2))
  refine ifF (by simp[g4]) ?_;by_cases g5:p.L.n=0
  case neg=>exact Ax (bad (by decide) fun h=>g5 (h.2.2.1 (by omega) (by omega) (by omega)))
  refine Bm (fin ?_);exact⟨fun h=>h.2.2.2.2.2,fun h=>⟨by omega,fun _=>⟨g1,by simpa using g2⟩,fun _ _ _=>g5,fun _=>⟨g3,g4⟩,fun f=>by omega,h⟩⟩
 refine ifF (by simp only[not_or]at hk;simp[hk]) ?_;by_cases k1:p.Kind=1
 .refine ifT (by simp[k1]) (ltX ?_);refine Ci ?_;by_cases g3:p.Min=0
  case neg=>exact ifT (by simp[g3]) (ifT rfl (bad (by decide) fun h=>g3 (h.2.2.2.1 (by omega)).1))
  refine ifF (by simp[g3]) ?_;by_cases g4:p.Max=0
  case neg=>exact ifT (by simp[g4]) (ifT rfl (bad (by decide) fun h=>g4 (h.2.2.2.1 (by omega)).2))
  refine ifF (by simp[g4]) ?_;by_cases g5:p.L.n=0
  case neg=>exact Ax (bad (by decide) fun h=>g5 (h.2.2.1 (by omega) (by omega) (by omega)))
  refine Bm (fin ?_);exact⟨fun h=>h.2.2.2.2.2,fun h=>⟨by omega,fun h1=>Kh k1 h1,fun _ _ _=>g5,fun _=>⟨g3,g4⟩,fun f=>by omega,h⟩⟩
 refine ifF (by simp[k1]) (ltX ?_);rw[e0];have tail:∀(x y:Int),(MO p↔(p.Is.Plus=0/\p.Is.Minus=0)/\p.Not=false/\x=0/\y=0/\vS p.Is)->∃e,(if (((((decide (p.Is.Plus=0/\p.Is.Minus=0) != true)||p.Not)||(x != 0))||(y != 0))||(decide (0<0))) then some (2:Int)else
  (U4 N p.Is).bind fun y3=>if (!y3) then some 14 else some 0)=some e/\(e=0↔MO p):=by
  intro x y c;by_cases g:(p.Is.Plus=0/\p.Is.Minus=0)/\p.Not=false/\x=0/\y=0
  .obtain⟨g1,g2,g3,g4⟩:=g;exact ifF (by simp[g1,g2,g3,g4]) (fin (c.trans ⟨fun h=>h.2.2.2.2,fun h=>⟨g1,g2,g3,g4,h⟩⟩))
  refine ifT ?_ (bad (by decide) fun h=>g ⟨(c.1 h).1,(c.1 h).2.1,(c.1 h).2.2.1,(c.1 h).2.2.2.1⟩);simp only[Co3,bne_iff_ne,ne_eq,Sp];by_cases g1:p.Is.Plus=0/\p.Is.Minus=0
  .by_cases g2:p.Not=true
   .simp[g2]
   by_cases g3:x=0
   .have:¬y=0:=fun g4=>g ⟨g1,by simpa using g2,g3,g4⟩
    simp[this]
   simp[g3]
  simp[g1]
 by_cases k34:p.Kind=3 \/ p.Kind=4
 .refine ifT (by rcases k34 with h|h<;>simp[h]) (tail _ _ ?_);constructor
  .exact fun h=>⟨(h.2.1 k1).1,(h.2.1 k1).2,(h.2.2.2.1 (by omega)).1,(h.2.2.2.1 (by omega)).2,h.2.2.2.2.2⟩
  rintro⟨h1,d,j,l,f⟩;exact⟨by omega,fun _=>⟨h1,d⟩,fun h h'=>by omega,fun _=>⟨j,l⟩,fun h=>by omega,f⟩
 refine ifF (by simp only[not_or]at k34;simp[k34]) ?_;by_cases k5:p.Kind=5
 .refine ifT (by simp[k5]) ?_;by_cases g:p.L.n=1/\0<=p.Min/\p.Min<=32/\(p.Max = -1 \/ (p.Min<=p.Max/\p.Max<=32))
  .refine ifF (by simp only[Co3,Cl8,bne_iff_ne,ne_eq,Sp];omega) (tail 0 0 ?_);constructor
   .exact fun h=>⟨(h.2.1 k1).1,(h.2.1 k1).2,rfl,rfl,h.2.2.2.2.2⟩
   rintro⟨h1,d,j,l,f⟩;exact⟨by omega,fun _=>⟨h1,d⟩,fun _ _ h=>Kh k5 h,fun h=>Kh k5 h,fun _=>g,f⟩
  exact ifT (by simp only[Co3,Cl8,bne_iff_ne,ne_eq,Sp];omega) (bad (by decide) fun h=>g (h.2.2.2.2.1 k5))
 exact ifF (by simp[k5]) (bad (by decide) fun h=>by have:=h.1;omega)
def Bt2 {x:Sl Pat}{m:Nat}(h:x.n=m+1):x.toList.reverse=x.g m::(x.take m).toList.reverse:=by unfold Sl.toList;rw[h,Cw9,Cq9,Cx4];rfl
def BH4 (z:Sl Pat)(q:Pat):((z.push Pat.nil).upd z.n q).toList.reverse=q::z.toList.reverse:=by
 rw[Bt2 (m:=z.n) rfl];have e1:((z.push Pat.nil).upd z.n q).g z.n=q:=by simp
 have e2:(((z.push Pat.nil).upd z.n q).take z.n).toList=z.toList:=by
  unfold Sl.toList;refine Co7 fun i a=>?_
  have:i<z.n:=Cn2.1 a
  show (if i=z.n then q else if i<z.n then z.g i else Pat.nil)=z.g i;rw[Fp,Il this]
 rw[e1,e2]
def AQ9 (q:Sl Pat)(c:q.n<N)(hs:q.n<1000000):G0 N q=some ((List.range q.n).reverse.map fun (i:Nat)=>((i:Int),q.g i)):=by
 unfold G0;have h:∀(m:Nat),m<=q.n->∀F,m<F->T9 F (fun (a:Int->Option (List (Int×Pat))) (x1:Int)=>
  if (decide (0<=x1)) then
   if ((0:Int)<=x1/\x1<(q.n:Int))then
    Be (x1,q.g x1.toNat) (
     a (wrap .i64 (x1-1))
     )
   else none
  else
   some []) ((m:Int)-1)=some ((List.range m).reverse.map fun (i:Nat)=>((i:Int),q.g i)):=by
  intro m
  induction m with
  |zero=>
   intro _ F b
   match F,b with
   |F+1,_=>rfl
  |succ m ih=>
   intro hm F b
   match F,b with
   |F+1,b=>rw[V2];rw[show ((m+1:Nat):Int)-1=(m:Int) by omega,Il (by simp),Cw,E8 (by omega) (by omega),ih (by omega) F (by omega),Cl2,Cw9,Cx4,CK1,CK9,Cp1];rfl
 rw[E8 (by omega) (by omega)];exact h q.n (Cl9 _) N c
def BX9 {k:Nat}(hk:k<=40){c:Sl Pat}{l:List Pat}:chk k ((c.take (min 41 c.n)).toList++l)↔chk k (c.toList++l):=by
 by_cases h:c.n<=41
 .rw[CF2 h]
 constructor
 .intro a
  have:=Ww _ _ a
  rw[Cm0,De]at this
  have:(c.take (min 41 c.n)).n=41:=Cx5 (by omega)
  omega
 intro a
 have:=Ww _ _ a
 rw[Cm0,De]at this;omega
def As5 (hN:2000<=N){p:Pat}(hp:okPS p):∃e,Bs N p=some e/\(e=0↔chk 40 [p]):=by
 unfold Bs;refine N4 (fun i x3 x4=>x4=(i:Int)/\x3.n<=1+41*i/\(∀q∈x3.toList.reverse,okPS q)/\(chk 40 [p]↔chk (40-i) x3.toList.reverse)) 40 _ (by omega)
  ⟨rfl,by show 1<=_;omega,fun q l=>by rw[show (Sl.of [p]:Sl Pat).toList.reverse=[p] from rfl]at l;rw[Cy0.1 l];exact hp,CB6⟩ ?_
 rintro x i x3 x4 hi ⟨rfl,h1,c,f⟩ hs;rcases hn:x3.n with _|m
 .refine Ci ⟨0,rfl,fun _=>f.2 ?_,fun _=>rfl⟩
  have:x3.toList.reverse=[]:=by unfold Sl.toList;rw[hn];rfl
  rw[this];exact Bs5 _
 rw[Bt2 hn]at f c;refine ifT (decide_eq_true (by omega)) ?_;by_cases r:i=40
 .subst r;refine Ay ⟨12,rfl,fun h=>Kh h (by decide),fun h=>?_⟩
  have:(x3.g m::(x3.take m).toList.reverse)=[]:=f.1 h
  cases this
 refine Bm ?_;have hw:IntKind.i64.wrap (((m+1:Nat):Int)-1)=(m:Int):=by rw[E8 (by omega) (by omega)];omega
 simp only[hw,Cl2];refine Ab (Ab ?_);obtain⟨e,y,a⟩:=Bh2 (N:=N) (c (x3.g m) (by simp)).is;refine B4 y ?_;rw[show 40-i=(39-i)+1 by omega]at f;by_cases o:e=0
 case neg=>exact ifT (by simp[o]) ⟨e,rfl,fun h=>Kh h o,fun h=>Kh (a.2 (f.1 h).1) o⟩
 refine ifF (by simp[o]) ?_;have hc:(if (41:Int)<((x3.g m).L.n:Int)then (41:Int)else ((x3.g m).L.n:Int))=((min 41 (x3.g m).L.n:Nat):Int):=by split<;>omega
 simp only[hc,Cl2];refine Ab (B4 rfl (B4 (AQ9 _ (by show min 41 _<N;omega) (by show min 41 _<1000000;omega)) ?_));generalize s:(x3.g m).L.take (min 41 (x3.g m).L.n)=C;have a0:C.n<=41:=by rw[<- s];exact Nat.min_le_left _ _
 refine AE2 (fun L z=>∃j,j<=C.n/\L=((List.range j).reverse.map fun (i:Nat)=>((i:Int),C.g i))/\z.n=m+(C.n-j)/\z.toList.reverse=C.toList.drop j++(x3.take m).toList.reverse) ?_ ?_ _ _ ⟨C.n,Cl9 _,rfl,by show m=_;omega,by rw[Gj];rfl⟩
 .rintro z ⟨j,hj,hL,hz,b⟩;have u:j=0:=by
   cases j with
   |zero=>rfl
   |succ j=>simp[Cw9]at hL
  subst u;rw[CH5]at b;refine hs (by omega) _ _ ⟨Cl,by omega,fun q l=>?_,?_⟩
  .rw[b]at l;rcases List.mem_append.1 l with h|h
   .obtain⟨i',d,rfl⟩:=Cp2.1 h;have d:=Cn2.1 d;rw[<- s]at d⊢;exact (c (x3.g m) (by simp)).L (Cm6 d (Nat.min_le_right _ _))
   exact c q (by simp[h])
  rw[b,f,show 40-(i+1)=39-i by omega,<- s,BX9 (by omega)];exact⟨fun h=>h.2,fun h=>⟨a.1 o,h⟩⟩
 rintro t L z v ⟨j,hj,hL,hz,b⟩ w;cases j with
 |zero=>simp at hL
 |succ j=>rw[Cw9,Cx4,CK1,CK9,Cp1]at hL;obtain⟨rfl,rfl⟩:=CF9 hL;have e1:(z.n:Int).toNat=z.n:=Cl2 _;refine ifT ⟨⟨⟨by show (z.n+1)*64<=_;omega,by show z.n+1<=_;omega⟩,by show (0:Int)<=_/\(z.n:Int)<((z.n+1:Nat):Int);omega⟩,by show z.n<z.n+1;omega⟩ ?_;refine w _ ⟨j,by omega,rfl,by show z.n+1=_;omega,?_⟩;rw[BH4,b,Jk C (i:=j) (by omega),Cq3]
end Go.AM
namespace Go.AM
open IntKind (wrap)
open Go.Proofs
def wOk (w:Sl To):Prop:=w.n<=32/\∀i,i<w.n->vS (w.g i)
def SY {N:Nat}{w:Sl To}(m:w.n<N)(hs:w.n<1000000){f:To->Option Bool}{b:Nat->Bool}(o:∀i,i<w.n->f (w.g i)=some (b i)) :∃r,D6 N w f=some r/\(r=true ↔ ∃i,i<w.n/\b i=true):=by
 unfold D6 G5
 have:∃y,T9 N (fun (a:Int->Option Int) (x1:Int)=>
  if (decide (x1<(w.n:Int))) then
   if ((0:Int)<=x1/\x1<(w.n:Int))then
    (f (w.g x1.toNat)).bind fun y3=>
    if y3 then
     some x1
    else
     a (wrap .i64 (x1+1))
   else none
  else
   some (-1)) 0=some y/\(0<=y ↔ ∃i,i<w.n/\b i=true):=by
  refine Aq (fun i x1=>x1=(i:Int)/\∀j,j<i->b j=false) w.n _ m ⟨rfl,fun j c=>Kh c (by omega)⟩ ?_;rintro l i x1 q ⟨rfl,h⟩ d;by_cases hl:i<w.n
  .refine Ax (Ab (B4 (by rw[Cl2];exact o i hl) ?_));cases hb:b i
   .refine Ci (d hl _ ⟨Cl,fun j c=>?_⟩);by_cases e:j=i
    .subst e;exact hb
    exact h j (by omega)
   exact ifT rfl ⟨i,rfl,fun _=>⟨i,hl,hb⟩,fun _=>by omega⟩
  refine Bm ⟨-1,rfl,fun h=>Kh h (by decide),?_⟩;rintro⟨j,c,hb⟩;rw[h j (by omega)]at hb;cases hb
 obtain⟨y,e,hy⟩:=this;exact B4 e ⟨_,rfl,by rw[Sp];exact hy⟩
def Ak2 {N:Nat}(z:3000<=N){p:Pat}(hp:okPS p){w:Sl To}(hs:w.n<1000000/\w.n+1000<N)(hw:∀i,i<w.n->okS (w.g i)) :∃r,BQ N p w=some r/\(r.2=0↔chk 40 [p]/\wOk w)/\(r.2=0->TabA w.n (PR w p) r.1):=by
 unfold BQ;obtain⟨e,l,hc⟩:=As5 (N:=N) (by omega) hp;refine B4 l ?_;by_cases d:e=0
 case neg=>exact ifT (by simp[d]) ⟨_,rfl,⟨fun h=>Kh h d,fun h=>Kh (hc.2 h.1) d⟩,fun h=>Kh h d⟩
 refine ifF (by simp[d]) ?_;by_cases hn:32<w.n
 .exact Ax ⟨_,rfl,⟨fun h=>Kh h (by decide),fun h=>by have:=h.2.1;omega⟩,fun h=>Kh h (by decide)⟩
 refine Bm ?_;have s:∀i,∃b:Bool,i<w.n->Z4 N (w.g i)=some b/\(b=true ↔ ¬vS (w.g i)):=by
  intro i;by_cases a:i<w.n
  .obtain⟨x,y,l⟩:=hw i a;refine⟨!vB x y,fun _=>⟨?_,?_⟩⟩
   .unfold Z4;rw[l,AE0];rfl
   rw[AQ7 l];cases vB x y<;>simp
  exact⟨false,fun h=>Kh h a⟩
 obtain⟨b,hb⟩:=Cy3 s;obtain⟨r,t,j⟩:=SY (N:=N) (by omega) hs.1 (f:=fun u1=>Z4 N u1) fun i a=>(hb i a).1;refine B4 t ?_;by_cases c:r=true
 .refine ifT c ⟨_,rfl,⟨fun h=>Kh h (by decide),fun h=>?_⟩,fun h=>Kh h (by decide)⟩;obtain⟨i,a,m⟩:=j.1 c;exact Kh (h.2.2 i a) ((hb i a).2.1 m)
 refine ifF c ?_;have o:wOk w:=⟨by omega,fun i a=>Cn1 fun q=>c (j.2 ⟨i,a,(hb i a).2.2 q⟩)⟩;obtain⟨pt,ep,u⟩:=Wz (N:=1000) (by omega) 40 (Cl9 _) p (Bt1 40 [p] (Cl9 _) (hc.1 d) p (by simp)) N (by omega);refine B4 ep ?_;obtain⟨f,ef,v⟩:=u w (by omega) hw N (by omega);exact B4 ef ⟨_,rfl,⟨fun _=>⟨hc.1 d,o⟩,fun _=>rfl⟩,fun _=>v⟩
end Go.AM
namespace Go.AM
variable {N:Nat}
open Go.Proofs
def Bh3 (o:3000<=N){p:Pat}(hp:okPS p){w:Sl To}(hs:w.n<1000000/\w.n+1000<N)(hw:∀i,i<w.n->okS (w.g i))(at_:Int) :∃r,Dy N p w at_=some r/\(0<r.1.n↔chk 40 [p]/\wOk w/\0<=at_/\at_<=w.n/\∃a,a<=w.n/\PR w p a at_.toNat):=by
 unfold Dy;obtain⟨y,e,h1,q⟩:=Ak2 o hp hs hw;refine B4 e (ltX ?_);by_cases c:y.2=0
 case neg=>refine ifF (by simp[c]) (ifT (by simp[c]) ⟨_,rfl,fun h=>Kh h (by show ¬ 0<0;omega),fun h=>Kh (h1.2 ⟨h.1,h.2.1⟩) c⟩)
 refine ifT (by simp[c]) ?_;obtain⟨hc,d⟩:=h1.1 c;have s:=q c;have hn:=d.1;unfold BL;by_cases f:at_<0 \/ (w.n:Int)<at_
 .rw[Il (by simpa using f)];refine B4 rfl (Bf ⟨_,rfl,fun h=>Kh h (by show ¬ 0<0;omega),fun h=>by omega⟩)
 rw[Ix (by simpa using f)];refine B4 rfl (Ci ?_);obtain⟨k,rfl⟩:∃k:Nat,at_=(k:Int):=⟨at_.toNat,by omega⟩;rw[Cl,Cl2];refine N4 (fun i x2 x3=>x3=(i:Int)/\x2.n<=i/\(0<x2.n ↔ ∃a,a<i/\PR w p a k)) (w.n+1) _ (by omega) ⟨rfl,Cl9 _,fun h=>Kh h (by show ¬ 0<0;omega),fun⟨a,h,_⟩=>Kh h (by omega)⟩ ?_;rintro m i x2 x3 t ⟨rfl,g1,g2⟩ j;by_cases hl:i<=w.n
 .refine Ax (Ab ?_);rw[Cl2,Cp5,Cs2];have hb:=s.1.bit hl (b:=k) (by omega);by_cases l:PR w p i k
  .refine ifT (hb.2 ⟨by omega,l⟩) (ifT (by show (x2.n+1)*8<=_/\x2.n+1<=_;omega) (j (by omega) _ _ ⟨Cl,by show x2.n+1<=_;omega,fun _=>⟨i,by omega,l⟩,fun _=>by show 0<x2.n+1;omega⟩))
  refine ifF (fun h=>l (hb.1 h).2) (j (by omega) _ _ ⟨Cl,by omega,fun h=>?_,fun⟨a,ha,h⟩=>?_⟩)
  .obtain⟨a,ha,h'⟩:=g2.1 h;exact⟨a,by omega,h'⟩
  by_cases e2:a=i
  .subst e2;exact Kh h l
  exact g2.2 ⟨a,by omega,h⟩
 refine Bm ⟨_,rfl,fun h=>?_,fun h=>?_⟩
 .obtain⟨a,ha,h'⟩:=g2.1 h;exact⟨hc,d,by omega,by omega,a,by omega,h'⟩
 obtain⟨a,ha,h'⟩:=h.2.2.2.2;exact g2.2 ⟨a,by omega,h'⟩
def AR0 (L:List Int)(hL:L.length<1000):∃s,R4 N L=some s/\s.n=L.length:=by
 unfold R4 K4
 have:∃s:Sl Int,Q5 L (fun (a:Sl Int->Option (Sl Int)) (x1:Int) (z1:Sl Int)=>
  if ((z1.n+(Sl.of [x1]:Sl Int).n)*8<=140737488355328/\z1.n+(Sl.of [x1]:Sl Int).n<=140737488355328)then
   a (z1.push x1)
  else none
  ) (fun (z1:Sl Int)=>some z1) (Sl.nil:Sl Int)=some s/\s.n=L.length:=by
  refine AE2 (fun l z=>z.n+l.length=L.length) (fun z h=>⟨z,rfl,by simpa using h⟩) (fun t l z b h hs=>?_) L _ (by simp);simp only[Co6]at h;exact ifT (by show (z.n+1)*8<=_/\z.n+1<=_;omega) (hs _ (by show z.n+1+l.length=_;omega))
 obtain⟨s,e,hn⟩:=this;exact B4 e ⟨s,rfl,hn⟩
def BH5 (l:3000<=N){p:Pat}(hp:okPS p){w:Sl To}(hs:w.n<1000000/\w.n+1000<N)(hw:∀i,i<w.n->okS (w.g i))(at_:Int) :∃r,Ge N p w at_=some r/\(0<r.1.n↔chk 40 [p]/\wOk w/\0<=at_/\at_<=w.n/\∃b,b<=w.n/\PR w p at_.toNat b):=by
 unfold Ge;obtain⟨y,e,h1,m⟩:=Ak2 l hp hs hw;refine B4 e (ltX ?_);by_cases c:y.2=0
 case neg=>refine ifF (by simp[c]) (ifT (by simp[c]) ⟨_,rfl,fun h=>Kh h (by show ¬ 0<0;omega),fun h=>Kh (h1.2 ⟨h.1,h.2.1⟩) c⟩)
 refine ifT (by simp[c]) ?_;obtain⟨hc,d⟩:=h1.1 c;have o:=m c;have hn:=d.1;unfold BL;by_cases f:at_<0 \/ (w.n:Int)<at_
 .rw[Il (by simpa using f)];refine B4 rfl (Bf ⟨_,rfl,fun h=>Kh h (by show ¬ 0<0;omega),fun h=>by omega⟩)
 rw[Ix (by simpa using f)];refine B4 rfl (Ci ?_);obtain⟨k,rfl⟩:∃k:Nat,at_=(k:Int):=⟨at_.toNat,by omega⟩;refine Ab ?_;rw[Cl2,Cp5,Cs2];obtain⟨u,e1,g1⟩:=o.1 k (by omega);refine B4 (x:=y.1 k) rfl (B4 (x:=Jl u 0) (by rw[e1];exact OI u (by omega)) ?_);obtain⟨s,es,j⟩:=AR0 (N:=N) (Jl u 0) (by unfold Jl;rw[Cp3];exact CH0 (Cr4 _ _) (by simp))
 refine B4 es ⟨_,rfl,?_⟩;show 0<s.n↔_;rw[j,List.length_pos_iff_exists_mem];constructor
 .rintro⟨t,ht⟩;obtain⟨b,rfl,_,hb,a⟩:=mem_bitsF.1 ht;exact⟨hc,d,by omega,by omega,b,((g1 b hb).1 a).1,((g1 b hb).1 a).2⟩
 rintro⟨_,_,_,_,b,hb,h⟩;exact⟨(b:Int),mem_bitsF.2 ⟨b,rfl,by omega,by omega,(g1 b (by omega)).2 ⟨hb,h⟩⟩⟩
end Go.AM
namespace Go.AM
variable {N:Nat}
open IntKind (wrap)
open Go.Proofs
def AZ4 (w:Sl To)(e:Int):Prop:=(32<w.n/\e=11) \/ (w.n<=32/\(∃i,i<w.n/\¬vS (w.g i))/\e=14) \/ (wOk w/\e=0)
def WA {w:Sl To}{e e' : Int}(h:AZ4 w e)(h' : AZ4 w e'):e=e':=by
 rcases h with⟨h1,a⟩ | ⟨h1,⟨i,b,c⟩,a⟩ | ⟨h1,a⟩<;>rcases h' with⟨g1,g2⟩ | ⟨g1,⟨j,d,gv⟩,g2⟩ | ⟨g1,g2⟩
 .omega
 .omega
 .have:=g1.1;omega
 .omega
 .omega
 .exact Kh (g1.2 i b) c
 .have:=h1.1;omega
 .exact Kh (h1.2 j d) gv
 omega
def DB {w:Sl To}{e:Int}(h:AZ4 w e):e=0↔wOk w:=by
 rcases h with⟨h1,a⟩ | ⟨h1,⟨i,b,c⟩,a⟩ | ⟨h1,a⟩
 .exact⟨fun h=>by omega,fun h=>by have:=h.1;omega⟩
 .exact⟨fun h=>by omega,fun h=>Kh (h.2 i b) c⟩
 exact⟨fun _=>h1,fun _=>a⟩
def AE4 (o:1000<=N){w:Sl To}(hw:∀i,i<w.n->okS (w.g i))(V:To->Option Bool)(f:∀p m:BitVec 32,V (sOf p m)=some (vB p m)) :∃e,(if (decide (32<(w.n:Int))) then
 some (11:Int)
 else
  T9 N (fun a (x1:Int)=>
   if (decide (x1<(w.n:Int))) then
    if ((0:Int)<=x1/\x1<(w.n:Int))then
     (V (w.g x1.toNat)).bind fun y3=>
     if (!y3) then
      some 14
     else
      a (wrap .i64 (x1+1))
    else none
   else
    some 0
   ) 0)=some e/\AZ4 w e:=by
 by_cases hn:32<w.n
 .exact Ax ⟨11,rfl,.inl ⟨hn,rfl⟩⟩
 refine Bm ?_;refine Aq (fun i x1=>x1=(i:Int)/\∀j,j<i->vS (w.g j)) w.n _ (by omega) ⟨rfl,fun j b=>Kh b (by omega)⟩ ?_;rintro d i x1 q ⟨rfl,h⟩ hs;by_cases hl:i<w.n
 .obtain⟨p,m,c⟩:=hw i hl;refine Ax (Ab (B4 (by rw[Cl2,c];exact f p m) ?_));cases hb:vB p m
  .refine ifT rfl ⟨14,rfl,.inr (.inl ⟨by omega,⟨i,hl,fun l=>?_⟩,rfl⟩)⟩
   have:=(AQ7 c).1 l;rw[hb]at this;cases this
  refine Ci (hs hl _ ⟨Cl,fun j b=>?_⟩);by_cases e:j=i
  .subst e;exact (AQ7 c).2 hb
  exact h j (by omega)
 exact Bm ⟨0,rfl,.inr (.inr ⟨⟨by omega,fun j b=>h j (by omega)⟩,rfl⟩)⟩
def KX (a:1000<=N){w:Sl To}(hw:∀i,i<w.n->okS (w.g i)):∃e,Q7 N w=some e/\AZ4 w e:=
 AE4 a hw (Db N) fun p m=>AD9 p m
def MG (a:1000<=N){w:Sl To}(hw:∀i,i<w.n->okS (w.g i)):∃e,P5 N w=some e/\AZ4 w e:=
 AE4 a hw (O1 N) fun p m=>Aj9 p m
def AZ5 (d:2000<=N){p:Pat}(hp:okPS p){w:Sl To}(hw:∀i,i<w.n->okS (w.g i)):∃e,AL N p w=some e/\(e=0↔chk 40 [p]/\wOk w):=by
 unfold AL;obtain⟨e,f,hc⟩:=Wy d hp;refine B4 f ?_;by_cases a:e=0
 .obtain⟨e2,b,c⟩:=MG (N:=N) (by omega) hw;exact ifT (by simp[a]) (B4 b ⟨e2,rfl,(DB c).trans ⟨fun h=>⟨hc.1 a,h⟩,fun h=>h.2⟩⟩)
 exact ifF (by simp[a]) ⟨e,rfl,fun h=>Kh h a,fun h=>Kh (hc.2 h.1) a⟩
def AR1 (s:3000<=N){p:Pat}(hp:okPS p){w:Sl To}(hw:∀i,i<w.n->okS (w.g i))(at_:Int) :∃r,X1 N p w at_=some r/\(0<r.1.n↔chk 40 [p]/\wOk w/\0<=at_/\at_<=w.n/\∃a,a<=w.n/\PR w p a at_.toNat):=by
 unfold X1;obtain⟨e,o,h1⟩:=AZ5 (N:=N) (by omega) hp hw;refine B4 o ?_;by_cases j:e=0
 case neg=>exact ifT (by simp[j]) ⟨_,rfl,fun h=>Kh h (by show ¬ 0<0;omega),fun h=>Kh (h1.2 ⟨h.1,h.2.1⟩) j⟩
 refine ifF (by simp[j]) ?_;obtain⟨hc,c⟩:=h1.1 j;have hn:=c.1;by_cases d:at_<0 \/ (w.n:Int)<at_
 .exact ifT (by simpa using d) ⟨_,rfl,fun h=>Kh h (by show ¬ 0<0;omega),fun h=>by omega⟩
 refine ifF (by simpa using d) ?_;obtain⟨k,rfl⟩:∃k:Nat,at_=(k:Int):=⟨at_.toNat,by omega⟩;obtain⟨t,et,tn,q⟩:=Wv (N:=1000) (by omega) hn 40 p (Wx 40 [p] (Cl9 _) hc p (by simp)) N (by omega);refine B4 et ?_;rw[Cl2];refine N4 (fun i x2 x3=>x3=(i:Int)/\x2.n<=i/\(0<x2.n ↔ ∃a,a<i/\PR w p a k)) (w.n+1) _ (by omega) ⟨rfl,Cl9 _,fun h=>Kh h (by show ¬ 0<0;omega),fun⟨a,h,_⟩=>Kh h (by omega)⟩ ?_;rintro m i x2 x3 u ⟨rfl,g1,g2⟩ f;by_cases hl:i<=w.n
 .refine Ax (Ab ?_);rw[Cl2];have hb:=q.bit hl (b:=k) (by omega);by_cases l:PR w p i k
  .refine ifT (hb.2 ⟨by omega,l⟩) (ifT (by show (x2.n+1)*8<=_/\x2.n+1<=_;omega) (f (by omega) _ _ ⟨Cl,by show x2.n+1<=_;omega,fun _=>⟨i,by omega,l⟩,fun _=>by show 0<x2.n+1;omega⟩))
  refine ifF (fun h=>l (hb.1 h).2) (f (by omega) _ _ ⟨Cl,by omega,fun h=>?_,fun⟨a,ha,h⟩=>?_⟩)
  .obtain⟨a,ha,h'⟩:=g2.1 h;exact⟨a,by omega,h'⟩
  by_cases e2:a=i
  .subst e2;exact Kh h l
  exact g2.2 ⟨a,by omega,h⟩
 refine Bm ⟨_,rfl,fun h=>?_,fun h=>?_⟩
 .obtain⟨a,ha,h'⟩:=g2.1 h;exact⟨hc,c,by omega,by omega,a,by omega,h'⟩
 obtain⟨a,ha,h'⟩:=h.2.2.2.2;exact g2.2 ⟨a,by omega,h'⟩
def Bt3 (s:3000<=N){p:Pat}(hp:okPS p){w:Sl To}(hw:∀i,i<w.n->okS (w.g i))(at_:Int) :∃r,BO N p w at_=some r/\(0<r.1.n↔chk 40 [p]/\wOk w/\0<=at_/\at_<=w.n/\∃b,b<=w.n/\PR w p at_.toNat b):=by
 unfold BO;obtain⟨e,o,h1⟩:=AZ5 (N:=N) (by omega) hp hw;refine B4 o ?_;by_cases j:e=0
 case neg=>exact ifT (by simp[j]) ⟨_,rfl,fun h=>Kh h (by show ¬ 0<0;omega),fun h=>Kh (h1.2 ⟨h.1,h.2.1⟩) j⟩
 refine ifF (by simp[j]) ?_;obtain⟨hc,c⟩:=h1.1 j;have hn:=c.1;by_cases d:at_<0 \/ (w.n:Int)<at_
 .exact ifT (by simpa using d) ⟨_,rfl,fun h=>Kh h (by show ¬ 0<0;omega),fun h=>by omega⟩
 refine ifF (by simpa using d) ?_;obtain⟨k,rfl⟩:∃k:Nat,at_=(k:Int):=⟨at_.toNat,by omega⟩;obtain⟨t,et,tn,q⟩:=Wv (N:=1000) (by omega) hn 40 p (Wx 40 [p] (Cl9 _) hc p (by simp)) N (by omega);refine B4 et ?_;rw[Cl2];refine N4 (fun i x2 x3=>x3=(i:Int)/\x2.n<=i/\(0<x2.n ↔ ∃b,b<i/\PR w p k b)) (w.n+1) _ (by omega) ⟨rfl,Cl9 _,fun h=>Kh h (by show ¬ 0<0;omega),fun⟨a,h,_⟩=>Kh h (by omega)⟩ ?_;rintro m i x2 x3 u ⟨rfl,g1,g2⟩ f;by_cases hl:i<=w.n
 .refine Ax (Ab ?_);have hb:=q.bit (a:=k) (by omega) (b:=i) (by omega);by_cases l:PR w p k i
  .refine ifT (hb.2 ⟨by omega,l⟩) (ifT (by show (x2.n+1)*8<=_/\x2.n+1<=_;omega) (f (by omega) _ _ ⟨Cl,by show x2.n+1<=_;omega,fun _=>⟨i,by omega,l⟩,fun _=>by show 0<x2.n+1;omega⟩))
  refine ifF (fun h=>l (hb.1 h).2) (f (by omega) _ _ ⟨Cl,by omega,fun h=>?_,fun⟨a,ha,h⟩=>?_⟩)
  .obtain⟨a,ha,h'⟩:=g2.1 h;exact⟨a,by omega,h'⟩
  by_cases e2:a=i
  .subst e2;exact Kh h l
  exact g2.2 ⟨a,by omega,h⟩
 refine Bm ⟨_,rfl,fun h=>?_,fun h=>?_⟩
 .obtain⟨a,ha,h'⟩:=g2.1 h;exact⟨hc,c,by omega,by omega,a,by omega,h'⟩
 obtain⟨a,ha,h'⟩:=h.2.2.2.2;exact g2.2 ⟨a,by omega,h'⟩
end Go.AM
namespace Go.AM
variable {N:Nat}
open Go.Proofs
def Cb9 (s c:To):Prop:=∃p m a b:BitVec 32,s=sOf p m/\c=sOf a b/\Bk7 p m a b=true
def Bt4 {p m a b:BitVec 32}(h:sOf p m=sOf a b):p=a/\m=b:=by have e1:(p.toNat:Int)=a.toNat:=congrArg To.Plus h;have e2:(m.toNat:Int)=b.toNat:=congrArg To.Minus h;exact⟨Cp4 (by omega),Cp4 (by omega)⟩
def satS_of {p m a b:BitVec 32}:Cb9 (sOf p m) (sOf a b)↔Bk7 p m a b=true:=by
 constructor
 .rintro⟨p',m',a',b',h1,c,d⟩;obtain⟨rfl,rfl⟩:=Bt4 h1;obtain⟨rfl,rfl⟩:=Bt4 c;exact d
 exact fun h=>⟨_,_,_,_,rfl,rfl,h⟩
def BH6 {s c:To}(hs:okS s)(hc:okS c):∃b,P4 N s c=some b/\(b=true↔Cb9 s c):=by obtain⟨p,m,rfl⟩:=hs;obtain⟨a,b,rfl⟩:=hc;exact⟨_,BX1 p m a b,satS_of.symm⟩
def BH7 (d:1000<=N){s c:To}(hs:okS s)(hc:okS c):∃b,J3 N s c=some b/\(b=true↔Cb9 s c):=by obtain⟨p,m,rfl⟩:=hs;obtain⟨a,b,rfl⟩:=hc;exact⟨_,BX2 p m a b d,satS_of.symm⟩
def okL (l:Law):Prop:=okPS l.Left/\okPS l.Right/\∀i,i<l.If.n->okS (l.If.g i)
def arP (l:Law)(w:Sl To)(i:Nat):Prop:=chk 40 [l.Left]/\chk 40 [l.Right]/\wOk w/\i+l.If.n<=w.n/\(∃a,a<=w.n/\PR w l.Left a i)/\∃b,b<=w.n/\PR w l.Right (i+l.If.n) b
def Ak3 (l:Law)(w:Sl To)(i:Nat):Prop:=i+l.If.n<=w.n/\(∀j,j<l.If.n->Cb9 (w.g (i+j)) (l.If.g j))/\arP l w i
def okW (w:Sl To):Prop:=w.n<1000/\∀i,i<w.n->okS (w.g i)
def Bh4 (c:3000<=N){l:Law}(hl:okL l)(hk:l.If.n<=4){w:Sl To}(hw:okW w)(i:Nat)(f:i<2000) :∃b,AP N (i:Int) l w=some b/\(b=true↔arP l w i):=by
 unfold AP;obtain⟨y1,e1,h1⟩:=Bh3 (N:=N) c hl.1 (w:=w) ⟨by have:=hw.1;omega,by have:=hw.1;omega⟩ hw.2 (i:Int);refine B4 e1 ?_;rw[Cl2]at h1;by_cases d:y1.1.n=0
 .refine ifT (by simp[d]) ⟨false,rfl,by simp,fun h=>?_⟩
  have:=h1.2 ⟨h.1,h.2.2.1,by omega,by have:=h.2.2.2.1;omega,h.2.2.2.2.1⟩
  omega
 refine Bm ?_;rw[GF (by omega)];obtain⟨y2,e2,a⟩:=BH5 (N:=N) c hl.2.1 (w:=w) ⟨by have:=hw.1;omega,by have:=hw.1;omega⟩ hw.2 ((i+l.If.n:Nat):Int);rw[Cl2]at a;refine B4 e2 ⟨_,rfl,?_⟩;have h1:=h1.1 (by omega);rw[Sp];constructor
 .intro h;have a:=a.1 (by omega);exact⟨h1.1,a.1,h1.2.1,by omega,h1.2.2.2.2,a.2.2.2.2⟩
 intro h
 have:=a.2 ⟨h.2.1,h.2.2.1,by omega,by have:=h.2.2.2.1;omega,h.2.2.2.2.2⟩
 omega
def As6 (f:3000<=N){l:Law}(hl:okL l)(hk:l.If.n<=4){w:Sl To}(hw:okW w)(i:Nat)(o:i<2000) :∃b,X2 N l w (i:Int)=some b/\(b=true↔Ak3 l w i):=by
 unfold X2;rw[GF (by omega)];by_cases hn:w.n<i+l.If.n
 .exact Ax ⟨false,rfl,by simp,fun h=>by have:=h.1;omega⟩
 refine Bm ?_;refine Aq (fun j x1=>x1=(j:Int)/\∀k,k<j->Cb9 (w.g (i+k)) (l.If.g k)) l.If.n _ (by omega) ⟨rfl,fun k hk=>Kh hk (by omega)⟩ ?_;rintro m j x1 q ⟨rfl,h⟩ hs;by_cases c:j<l.If.n
 .rw[GF (by omega)];refine Ax (Ab ?_);obtain⟨b,eb,hb⟩:=BH7 (N:=N) (by omega) (hw.2 (i+j) (by omega)) (hl.2.2 j c);refine B4 (by rw[Cl2,Cl2];exact eb) ?_;cases b
  .refine ifT rfl ⟨false,rfl,by simp,fun a=>?_⟩
   have:=hb.2 (a.2.1 j c);cases this
  refine Ci (hs c _ ⟨Cl,fun k d=>?_⟩);by_cases e:k=j
  .subst e;exact hb.1 rfl
  exact h k (by omega)
 refine Bm ?_;obtain⟨y1,e1,h1⟩:=AR1 (N:=N) f hl.1 (w:=w) hw.2 (i:Int);obtain⟨y2,e2,a⟩:=Bt3 (N:=N) f hl.2.1 (w:=w) hw.2 ((i+l.If.n:Nat):Int);rw[Cl2]at h1 a;refine B4 e1 (B4 e2 ⟨_,rfl,?_⟩);simp only[Cl8,Sp];constructor
 .rintro⟨g1,g2⟩;have h1:=h1.1 (by omega);have a:=a.1 (by omega);exact⟨by omega,fun k d=>h k (by omega),h1.1,a.1,h1.2.1,by omega,h1.2.2.2.2,a.2.2.2.2⟩
 intro g;have a1:=h1.2 ⟨g.2.2.1,g.2.2.2.2.1,by omega,by omega,g.2.2.2.2.2.2.1⟩;have a2:=a.2 ⟨g.2.2.2.1,g.2.2.2.2.1,by omega,by omega,g.2.2.2.2.2.2.2⟩;exact⟨by omega,by omega⟩
end Go.AM
namespace Go.AM
open IntKind (wrap)
open Go.Proofs
open Classical in
noncomputable def hitB (l:Law) (w:Sl To) (i:Nat):Bool:=decide (Ak3 l w i)
def hitB_iff {l:Law}{w:Sl To}{i:Nat}:hitB l w i=true↔Ak3 l w i:=by simp[hitB]
noncomputable def Hs (l:Law) (w:Sl To) (i:Nat):List Int:=((List.range' i (w.n+1-i)).filter (hitB l w)).map fun (j:Nat)=>(j:Int)
def Rv {l:Law}{w:Sl To}{i:Nat}(h:w.n<i+l.If.n):Hs l w i=[]:=by
 unfold Hs;rw[CE6.2 fun j a hb=>by
  have:=CI0.1 a
  have:=(hitB_iff.1 hb).1
  omega]
 rfl
def Qe {l:Law}{w:Sl To}{i:Nat}(a:i<=w.n)(h:Ak3 l w i):Hs l w i=(i:Int)::Hs l w (i+1):=by unfold Hs;rw[show w.n+1-i=(w.n+1-(i+1))+1 by omega,Cz4,Cx0 (hitB_iff.2 h)];rfl
def Qf {l:Law}{w:Sl To}{i:Nat}(h:¬Ak3 l w i):Hs l w i=Hs l w (i+1):=by
 unfold Hs;by_cases a:i<=w.n
 .rw[show w.n+1-i=(w.n+1-(i+1))+1 by omega,Cz4,Ct4 fun hb=>h (hitB_iff.1 hb)]
 rw[show w.n+1-i=0 by omega,show w.n+1-(i+1)=0 by omega];rfl
def BH8 {l:Law}{w:Sl To}{i:Nat}{y:Int}(h:y∈Hs l w i):(i:Int)<=y:=by
 obtain⟨j,a,rfl⟩:=Cp2.1 h
 have:=CI0.1 (Cy8.1 a).1
 omega
def AZ6 {N:Nat}(z:3000<=N){l:Law}(hl:okL l)(hk:l.If.n<=4){w:Sl To}(hw:okW w)(i:Nat)(v:i<1500):Bu N l w (i:Int)=some (Hs l w i):=by
 unfold Bu;show (some (l,w)).bind _=_;rw[Cl3];simp only[]
 suffices h:∀(k i:Nat),i<1501->w.n+1-i<=k->∀F,k<F->∃r,T9 F (fun (a:Int->Option (List Int)) (x2:Int)=>
  if (decide ((wrap .i64 (x2+(l.If.n:Int)))<=(w.n:Int))) then
   T9 N (fun (d:Int->Option (List Int)) (x4:Int)=>
    if (decide (x4<(l.If.n:Int))) then
     if ((0:Int)<=x4/\x4<(l.If.n:Int))then
      if ((0:Int)<=(wrap .i64 (x2+x4))/\(wrap .i64 (x2+x4))<(w.n:Int))then
       (P4 N (w.g (wrap .i64 (x2+x4)).toNat) (l.If.g x4.toNat)).bind fun s=>
       if (!s) then
        a (wrap .i64 (x2+1))
       else
        d (wrap .i64 (x4+1))
      else none
     else none
    else
     (AP N x2 l w).bind fun t=>
     if t then
      Be x2 (
       a (wrap .i64 (x2+1))
       )
     else
      a (wrap .i64 (x2+1))
    ) 0
  else
   some []
  ) (i:Int)=some r/\r=Hs l w i by
  obtain⟨r,h1,rfl⟩:=h (w.n+1-i) i (by omega) (Cl9 _) N (by have:=hw.1;omega);exact h1
 intro k
 induction k with
 |zero=>
  intro i v f F q
  match F,q with
  |F+1,_=>rw[V2,GF (by omega)];exact Bm ⟨_,rfl,(Rv (by omega)).symm⟩
 |succ k ih=>
  intro i v f F q
  match F,q with
  |F+1,q=>
   rw[V2,GF (by omega)];by_cases hn:i+l.If.n<=w.n
   case neg=>exact Bm ⟨_,rfl,(Rv (by omega)).symm⟩
   refine Ax ?_;have a0:=hw.1;obtain⟨r,x,o⟩:=ih (i+1) (by omega) (by omega) F (by omega);have c:∀(Q:List Int->Prop),Q (Hs l w (i+1))->∃r,T9 F _ (IntKind.i64.wrap ((i:Int)+1))=some r/\Q r:=fun Q hQ=>⟨r,by rw[Cl];exact x,by rw[o];exact hQ⟩;refine Aq (fun j x1=>x1=(j:Int)/\∀k,k<j->Cb9 (w.g (i+k)) (l.If.g k)) l.If.n _ (by omega) ⟨rfl,fun k hk=>Kh hk (by omega)⟩ ?_;rintro y j x1 hj ⟨rfl,h⟩ hs;by_cases m:j<l.If.n
   .rw[GF (by omega)];refine Ax (Ab (Ab ?_));obtain⟨b,eb,hb⟩:=BH6 (N:=N) (hw.2 (i+j) (by omega)) (hl.2.2 j m);refine B4 (by rw[Cl2,Cl2];exact eb) ?_;cases b
    .refine ifT rfl (c _ ?_);exact (Qf fun u=>by have:=hb.2 (u.2.1 j m);cases this).symm
    refine Ci (hs m _ ⟨Cl,fun k f=>?_⟩);by_cases e:k=j
    .subst e;exact hb.1 rfl
    exact h k (by omega)
   refine Bm ?_;obtain⟨b,eb,hb⟩:=Bh4 z hl hk hw i (by omega);refine B4 eb ?_;cases b
   .refine Ci (c _ ?_);exact (Qf fun u=>by have:=hb.2 u.2.2;cases this).symm
   refine ifT rfl ?_;have hh:Ak3 l w i:=⟨hn,fun k f=>h k (by omega),hb.1 rfl⟩;refine⟨(i:Int)::Hs l w (i+1),?_,(Qe (by omega) hh).symm⟩;rw[Cl,x,o];rfl
def Bt5 {N:Nat}(a:3000<=N){l:Law}(hl:okL l)(hk:l.If.n<=4){w:Sl To}(hw:okW w)(i:Nat)(c:i<1500) :∃b,EQ N l w (i:Int)=some b/\(b=true↔Ak3 l w i):=by
 unfold EQ;refine B4 (x:=(l,w,(i:Int))) rfl (B4 (AZ6 a hl hk hw i c) ?_);by_cases h:Ak3 l w i
 .rw[Qe (by have:=h.1;omega) h];exact⟨true,by simp[Q5],by simp[h]⟩
 rw[Qf h];rcases hL:Hs l w (i+1)with _|⟨t,L⟩
 .exact⟨false,rfl,by simp[h]⟩
 have:((i+1:Nat):Int)<=t:=BH8 (l:=l) (w:=w) (by rw[hL];simp)
 exact⟨false,by show some (t==(i:Int))=some false;congr 1;simp;omega,by simp[h]⟩
end Go.AM
namespace Go.AM
variable {N:Nat}
open IntKind (wrap)
open Go.Proofs
def okO (x:Hk):Prop:=okS x.Set/\(∃c:BitVec 32,x.Clear=(c.toNat:Int))/\∃t:BitVec 32,x.Take=(t.toNat:Int)
def BO1 {p m a b s:BitVec 32}(h1:vB p m=true)(d:vB a b=true):vB (Av9 p a s) (Av9 m b s)=true:=by rw[JG]at *;intro i c;have g1:=h1 i c;have g2:=d i c;simp only[Av9,Cn5,Cn6,Cr2];revert g1 g2;cases s.getLsbD i<;>cases p.getLsbD i<;>cases m.getLsbD i<;>cases a.getLsbD i<;>cases b.getLsbD i<;>simp[c]
def vS0:vS (⟨0,0⟩:To):=⟨0#32,0#32,rfl,by decide +kernel⟩
def AR2 (f:1000<=N){s t:To}{c:Int}(hs:okS s)(hc:∃b:BitVec 32,c=(b.toNat:Int))(ht:okS t):∃y,U3 N s c t=some y/\N1 N s c t=some y/\vS y.1:=by
 obtain⟨p,m,rfl⟩:=hs;obtain⟨a,b,rfl⟩:=ht;obtain⟨d,rfl⟩:=hc;refine⟨_,Bh0 p m d a b,Bh1 p m d a b f,?_⟩;unfold BG8;split
 .rename_i h;split
  .exact⟨_,_,rfl,BO1 h.1 h.2⟩
  exact vS0
 exact vS0
def Bt6 (f:1000<=N){s t:To}{c:Int}(hs:okS s)(hc:∃b:BitVec 32,c=(b.toNat:Int))(ht:okS t):∃y,Ad N s t c=some y/\U8 N s t c=some y/\vS y.1:=by
 obtain⟨p,m,rfl⟩:=hs;obtain⟨a,b,rfl⟩:=ht;obtain⟨d,rfl⟩:=hc;refine⟨_,BH0 p m a b d,BH1 p m a b d f,?_⟩;unfold BG9;split
 .rename_i h;split
  .exact⟨_,_,rfl,BO1 h.1 h.2⟩
  exact vS0
 exact vS0
def Cc0 (l:Law):Prop:=l.Out.n<=6/\∀i,i<l.Out.n->okO (l.Out.g i)/\(l.Out.g i).From<l.If.n/\((l.Out.g i).Take≠0->0<=(l.Out.g i).Of/\(l.Out.g i).Of<l.If.n)
def eqX {R:Type}{Q:R->Prop}{o o' : Option R}(h:o=o')(a:∃r,o' = some r/\Q r):∃r,o=some r/\Q r:=by rw[h];exact a
def DY (f:Nat->To):Nat->Sl To
 |0=>Sl.nil
 |m+1=>(DY f m).push (f m)
def OJ (f:Nat->To):∀m,(DY f m).n=m
 |0=>rfl
 |m+1=>by show (DY f m).n+1=_;rw[OJ f m]
def AR3 (f:Nat->To):∀{m i:Nat},i<m->(DY f m).g i=f i
 |0,i,h=>by omega
 |m+1,i,h=>by
  show (if i<(DY f m).n then (DY f m).g i else f m)=f i;rw[OJ];by_cases e:i<m
  .rw[Il e,AR3 f e]
  rw[Ix e,show i=m by omega]
abbrev srcS (l:Law)(cut:Sl To)(i:Nat):To:=⟨(if (decide (0<=(l.Out.g i).From)) then (cut.g (l.Out.g i).From.toNat).Plus else 0),(if (decide (0<=(l.Out.g i).From)) then (cut.g (l.Out.g i).From.toNat).Minus else 0)⟩
def BY0 (t:1000<=N){l:Law}(u:Cc0 l){cut:Sl To}(hn:cut.n=l.If.n)(hc:∀i,i<cut.n->okS (cut.g i)) :∃s,T7 N l cut=some s/\Z3 N l cut=some s/\s.n=l.Out.n/\∀i,i<s.n->vS (s.g i):=by
 have one:∀i,∃y:To,i<l.Out.n->vS y/\∀(R:Type) (k:To->Option R),
  (∀(Ch:Nat->To->Int->To->Option (To×Int)) (Ta:Nat->To->To->Int->Option (To×Int)),(Ch=U3/\Ta=Ad) \/ (Ch=N1/\Ta=U8) ->
  (if ((decide (0<=(l.Out.g i).From))=true->((0:Int)<=(l.Out.g i).From/\(l.Out.g i).From<(cut.n:Int)))then
   (Ch N (⟨(if (decide (0<=(l.Out.g i).From)) then (cut.g (l.Out.g i).From.toNat).Plus else 0),(if (decide (0<=(l.Out.g i).From)) then (cut.g (l.Out.g i).From.toNat).Minus else 0)⟩:To) (l.Out.g i).Clear (l.Out.g i).Set).bind fun y5=>
   if ((l.Out.g i).Take != 0) then
    if ((0:Int)<=(l.Out.g i).Of/\(l.Out.g i).Of<(cut.n:Int))then
     (Ta N y5.1 (cut.g (l.Out.g i).Of.toNat) (l.Out.g i).Take).bind fun y6=>k y6.1
    else none
   else k y5.1
   else none)=k y):=by
  intro i;by_cases d:i<l.Out.n
  case neg=>exact⟨default,fun h=>Kh h d⟩
  obtain⟨⟨j,m,o⟩,w,q⟩:=u.2 i d;have hs:okS (⟨(if (decide (0<=(l.Out.g i).From)) then (cut.g (l.Out.g i).From.toNat).Plus else 0),(if (decide (0<=(l.Out.g i).From)) then (cut.g (l.Out.g i).From.toNat).Minus else 0)⟩:To):=by
   by_cases v:0<=(l.Out.g i).From
   .simp only[v,decide_true,Rm];exact hc _ (by omega)
   simp only[v,decide_false,Cm2,Rn];exact⟨0#32,0#32,rfl⟩
  obtain⟨y,e1,e2,hy⟩:=AR2 t hs m j;by_cases ht:(l.Out.g i).Take=0
  .refine⟨y.1,fun _=>⟨hy,fun R k Ch Ta h=>?_⟩⟩;rw[Il (fun h=>by have:=of_decide_eq_true h;omega)]
   have:Ch N (srcS l cut i) (l.Out.g i).Clear (l.Out.g i).Set=some y:=by
    rcases h with⟨rfl,rfl⟩ | ⟨rfl,rfl⟩
    .exact e1
    exact e2
   rw[this,Cl3,Ix (by simp[ht])]
  obtain⟨g1,g2⟩:=q ht;obtain⟨z,e3,e4,x⟩:=Bt6 t hy.ok o (hc (l.Out.g i).Of.toNat (by omega));refine⟨z.1,fun _=>⟨x,fun R k Ch Ta h=>?_⟩⟩;rw[Il (fun h=>by have:=of_decide_eq_true h;omega)]
  have:Ch N (srcS l cut i) (l.Out.g i).Clear (l.Out.g i).Set=some y:=by
   rcases h with⟨rfl,rfl⟩ | ⟨rfl,rfl⟩
   .exact e1
   exact e2
  rw[this,Cl3,Il (by simp[ht]),Cw]
  have:Ta N y.1 (cut.g (l.Out.g i).Of.toNat) (l.Out.g i).Take=some z:=by
   rcases h with⟨rfl,rfl⟩ | ⟨rfl,rfl⟩
   .exact e3
   exact e4
  rw[this,Cl3]
 obtain⟨out,f⟩:=Cy3 one;have a0:=u.1;have b:∀(Ch:Nat->To->Int->To->Option (To×Int)) (Ta:Nat->To->To->Int->Option (To×Int)),(Ch=U3/\Ta=Ad) \/ (Ch=N1/\Ta=U8) ->
  ∀(a:Sl To->Int->Option (Sl To)) (i:Nat),i<l.Out.n->(∃r,a ((DY out i).push (out i)) (wrap .i64 ((i:Int)+1))=some r/\r=DY out l.Out.n) ->
  ∃r,(if ((decide (0<=(l.Out.g i).From))=true->((0:Int)<=(l.Out.g i).From/\(l.Out.g i).From<(cut.n:Int)))then
   (Ch N (srcS l cut i) (l.Out.g i).Clear (l.Out.g i).Set).bind fun y5=>
   if ((l.Out.g i).Take != 0) then
    if ((0:Int)<=(l.Out.g i).Of/\(l.Out.g i).Of<(cut.n:Int))then
     (Ta N y5.1 (cut.g (l.Out.g i).Of.toNat) (l.Out.g i).Take).bind fun y6=>
     if (((DY out i).n+(Sl.of [y6.1]:Sl To).n)*8<=140737488355328/\(DY out i).n+(Sl.of [y6.1]:Sl To).n<=140737488355328)then
      a ((DY out i).push y6.1) (wrap .i64 ((i:Int)+1))
     else none
    else none
   else
    if (((DY out i).n+(Sl.of [y5.1]:Sl To).n)*8<=140737488355328/\(DY out i).n+(Sl.of [y5.1]:Sl To).n<=140737488355328)then
     a ((DY out i).push y5.1) (wrap .i64 ((i:Int)+1))
    else none
   else none)=some r/\r=DY out l.Out.n:=by
  intro Ch Ta h a i d hr;have e:=(f i d).2 (Sl To) (fun y=>if (((DY out i).n+(Sl.of [y]:Sl To).n)*8<=140737488355328/\(DY out i).n+(Sl.of [y]:Sl To).n<=140737488355328)then a ((DY out i).push y) (wrap .i64 ((i:Int)+1))else none) Ch Ta h;refine eqX e (ifT ?_ hr)
  have:=OJ out i
  show ((DY out i).n+1)*8<=_/\(DY out i).n+1<=_;omega
 have h1:∃r,T7 N l cut=some r/\r=DY out l.Out.n:=by
  unfold T7;refine N4 (fun i x1 x2=>x2=(i:Int)/\x1=DY out i) l.Out.n _ (by omega) ⟨rfl,rfl⟩ ?_;rintro a i x1 x2 d ⟨rfl,rfl⟩ hs;by_cases c:i<l.Out.n
  .refine Ax (Ab ?_);rw[Cl2];exact b _ _ (.inl ⟨rfl,rfl⟩) a i c (hs c _ _ ⟨Cl,rfl⟩)
  exact Bm ⟨_,rfl,by congr 1;omega⟩
 have h2:∃r,Z3 N l cut=some r/\r=DY out l.Out.n:=by
  unfold Z3;refine N4 (fun i x1 x2=>x2=(i:Int)/\x1=DY out i) l.Out.n _ (by omega) ⟨rfl,rfl⟩ ?_;rintro a i x1 x2 d ⟨rfl,rfl⟩ hs;by_cases c:i<l.Out.n
  .refine Ax (Ab ?_);rw[Cl2];exact b _ _ (.inr ⟨rfl,rfl⟩) a i c (hs c _ _ ⟨Cl,rfl⟩)
  exact Bm ⟨_,rfl,by congr 1;omega⟩
 obtain⟨r,e1,rfl⟩:=h1;obtain⟨r,e2,rfl⟩:=h2;exact⟨_,e1,e2,OJ out _,fun i d=>by rw[OJ]at d;rw[AR3 out d];exact (f i d).1⟩
end Go.AM
namespace Go.AM
open Go.Proofs
def ne0 (x:BitVec 32):((x.toNat:Int) != 0)=decide (x≠0#32):=by rw[bne,eq0];simp
def or0 (x y:BitVec 32):x ||| y=0#32↔x=0#32/\y=0#32:=by
 constructor
 .intro h;have h:=(z32 _).1 h;exact⟨(z32 _).2 fun i a=>by have:=h i a;rw[Cn5,CB5]at this;exact this.1,(z32 _).2 fun i a=>by have:=h i a;rw[Cn5,CB5]at this;exact this.2⟩
 rintro⟨rfl,rfl⟩;rfl
def Ci7 (x y z:BitVec 32):x &&& (y ||| z)=(x &&& y) ||| (x &&& z):=by apply Cs5;intro i a;simp only[Cn6,Cn5];cases x.getLsbD i<;>simp
def Ci8 (x y z:BitVec 32):(x ||| y) &&& z=(x &&& z) ||| (y &&& z):=by apply Cs5;intro i a;simp only[Cn6,Cn5];cases z.getLsbD i<;>simp
def AZ7 {N:Nat}(j:1000<=N){x:Hk}(hx:okO x)(k:Int):∃b,AO N x k=some b/\BN N x k=some b:=by
 obtain⟨⟨a,b,d⟩,⟨c,hc⟩,t,ht⟩:=hx;have f:(16777215:Int)=((16777215#32).toNat:Int):=rfl;unfold AO BN;simp only[lt,d,hc,ht,DA,BZ a b j,Cl3];rw[f];simp only[IO,SH,HK,ne0];by_cases h1:x.From < -1
 .simp[h1]
 by_cases g:k<=x.From
 .simp[h1,g]
 by_cases i:vB a b=true
 case neg=>simp[h1,g,i]
 simp only[h1,g,i,decide_false,Cm2,Rn,CE0];rw[Ci8,Ci7 t];generalize ~~~16777215#32=M;by_cases g1:c &&& M=0#32
 case neg=>simp[g1,or0]
 by_cases g2:t &&& M=0#32
 case neg=>simp[g1,g2,or0]
 by_cases g3:c &&& (a ||| b)=0#32
 case neg=>simp[g1,g2,g3,or0]
 by_cases g4:t &&& (a ||| b)=0#32
 case neg=>simp[g1,g2,g3,g4,or0]
 by_cases g5:t &&& c=0#32
 case neg=>simp[g1,g2,g3,g4,g5,or0]
 simp[g1,g2,g3,g4,g5,or0];by_cases g6:t.toNat=0
 .simp only[g6,Rm];cases x.Of==0<;>simp
 simp only[g6,Rn];cases (decide (0<=x.Of)&&decide (x.Of<k))<;>simp
end Go.AM
namespace Go.AM
open Go.Proofs
abbrev nameC:Str:=[97,98,99,100,101,102,103,104,105,106,107,108,109,110,111,112,113,114,115,116,117,118,119,120,121,122,65,66,67,68,69,70,71,72,73,74,75,76,77,78,79,80,81,82,83,84,85,86,87,88,89,90,48,49,50,51,52,53,54,55,56,57,45]
def Bt7 {p:UInt8->Bool}:∀{l:Str},l.dropWhile p=[] ↔ ∀x∈l,p x=true
 |[]=>by simp
 |a::l=>by
  rw[List.dropWhile_cons];by_cases h:p a=true
  .rw[Il h,Bt7];simp[h]
  rw[Ix h];simp[h]
def BH9 (l cs:Str):Lib.trimS l cs=[] ↔ ∀b∈l,cs.contains b=true:=by
 unfold Lib.trimS Lib.trimLeftS Lib.trimRightS;rw[Bt7];constructor
 .intro h;have h:∀x∈l.reverse.dropWhile (cs.contains ·),cs.contains x=true:=fun x hx=>h x (CF4.2 hx);have a:l.reverse.dropWhile (cs.contains ·)=[]:=by
   rcases e:l.reverse.dropWhile (cs.contains ·)with _|⟨y,r⟩
   .rfl
   have c:=h y (by rw[e];simp);have d:¬cs.contains y=true:=by
    have:=List.head_dropWhile_not (cs.contains ·) (l:=l.reverse) (by rw[e];simp)
    simp only[e,List.head_cons]at this;rw[this];exact Bool.false_ne_true
   exact Kh c d
  rw[Bt7]at a;exact fun b hb=>a b (CF4.2 hb)
 intro h x hx;have hx:=CF4.1 hx;exact h x (CF4.1 ((List.dropWhile_sublist _).mem hx))
abbrev As7 (y:Int):Bool:=((((decide (97<=y))&&(decide (y<=122)))||((decide (65<=y))&&(decide (y<=90))))||((decide (48<=y))&&(decide (y<=57))))||(y==45)
def Bt8:∀k:Fin 256,nameC.contains (UInt8.ofNat k.val)=As7 ((k.val:Nat):Int):=by decide +kernel
def Bt9 (b:UInt8):nameC.contains b=As7 ((b.toNat:Nat):Int):=by
 have:=Bt8 ⟨b.toNat,b.toNat_lt⟩
 rw[show UInt8.ofNat b.toNat=b by simp]at this;exact this
def AE5 {N:Nat}{s:Str}(n:s.length<N)(hs:s.length<1000000000):∃b,Eg N s=some b/\Z2 N s=some b:=by
 have o:∃b,Z2 N s=some b/\(b=true↔(∀c∈s,nameC.contains c=true)/\1<=s.length/\s.length<=24):=by
  unfold Z2;refine Aq (fun i x1=>x1=(i:Int)/\∀j (h:j<s.length),j<i->nameC.contains s[j]=true) s.length _ n ⟨rfl,fun j _ a=>Kh a (by omega)⟩ ?_;rintro l i x1 v ⟨rfl,h⟩ f;by_cases hl:i<s.length
  .refine Ax (Ab ?_);have eb:P8 s (i:Int)=((s[i].toNat:Nat):Int):=by simp[P8,hl]
   by_cases hb:nameC.contains s[i]=true
   .refine ifF (by rw[eb];show ¬(!(As7 ((s[i].toNat:Nat):Int)))=true;rw[<- Bt9,hb];simp) (f hl _ ⟨Cl,fun j a q=>?_⟩);by_cases e:j=i
    .subst e;exact hb
    exact h j a (by omega)
   refine ifT ?_ ⟨false,rfl,by simp,fun t=>Kh (t.1 s[i] (CJ1 hl)) hb⟩;rw[eb];show (!(As7 ((s[i].toNat:Nat):Int)))=true;rw[<- Bt9];simpa using hb
  refine Bm ⟨_,rfl,?_⟩;simp only[Cl8,Sp];constructor
  .rintro⟨g1,g2⟩;refine⟨fun c hc=>?_,by omega,by omega⟩;obtain⟨j,a,rfl⟩:=CG0 hc;exact h j a (by omega)
  rintro⟨_,g1,g2⟩;exact⟨by omega,by omega⟩
 obtain⟨b,e,hb⟩:=o;refine⟨b,?_,e⟩
 suffices h:∃r,Eg N s=some r/\(r=true↔(∀c∈s,nameC.contains c=true)/\1<=s.length/\s.length<=24) by obtain⟨r,u,g⟩:=h;rw[u,show r=b by rw[Cp6,g,hb]]
 unfold Eg;refine ltX ?_;by_cases d:s=[]
 .exact ifF (by simp[d]) ⟨false,rfl,by simp[d]⟩
 refine ifT (by simp[d]) ?_;have m:0<s.length:=List.length_pos_iff.2 d;by_cases h1:s.length<=24
 .refine Ax (B4 (x:=Lib.trimS s nameC) ?_ ⟨_,rfl,?_⟩)
  .unfold Hn;rw[Il ⟨by omega,by decide,by decide⟩]
  rw[<- BH9];constructor
  .intro h;exact⟨by simpa using h,by omega,h1⟩
  rintro⟨h,_⟩;simp[h]
 exact Bm ⟨false,rfl,by simp;intro _ _;omega⟩
end Go.AM
namespace Go.AM
variable {N:Nat}
open IntKind (wrap)
open Go.Proofs
def AE6 {s:Sl Hk}(m:s.n<N)(hs:s.n<1000000){f:Hk->Option Bool}{b:Nat->Bool}(o:∀i,i<s.n->f (s.g i)=some (b i)) :∃r,F3 N s f=some r/\(r=true ↔ ∃i,i<s.n/\b i=true):=by
 unfold F3 H5
 have:∃y,T9 N (fun (a:Int->Option Int) (x1:Int)=>
  if (decide (x1<(s.n:Int))) then
   if ((0:Int)<=x1/\x1<(s.n:Int))then
    (f (s.g x1.toNat)).bind fun y3=>
    if y3 then
     some x1
    else
     a (wrap .i64 (x1+1))
   else none
  else
   some (-1)) 0=some y/\(0<=y ↔ ∃i,i<s.n/\b i=true):=by
  refine Aq (fun i x1=>x1=(i:Int)/\∀j,j<i->b j=false) s.n _ m ⟨rfl,fun j c=>Kh c (by omega)⟩ ?_;rintro l i x1 q ⟨rfl,h⟩ d;by_cases hl:i<s.n
  .refine Ax (Ab (B4 (by rw[Cl2];exact o i hl) ?_));cases hb:b i
   .refine Ci (d hl _ ⟨Cl,fun j c=>?_⟩);by_cases e:j=i
    .subst e;exact hb
    exact h j (by omega)
   exact ifT rfl ⟨i,rfl,fun _=>⟨i,hl,hb⟩,fun _=>by omega⟩
  refine Bm ⟨-1,rfl,fun h=>Kh h (by decide),?_⟩;rintro⟨j,c,hb⟩;rw[h j (by omega)]at hb;cases hb
 obtain⟨y,e,hy⟩:=this;exact B4 e ⟨_,rfl,by rw[Sp];exact hy⟩
def Tz (l:Law):Prop:=okL l/\l.Name.length<1100000/\l.If.n<1100000/\l.Out.n<1100000/\∀i,i<l.Out.n->okO (l.Out.g i)
def Bh5 {s:To}(hs:okS s):∃b,J8 N s=some b/\(b=true↔vS s):=by obtain⟨p,m,e⟩:=hs;exact⟨vB p m,by rw[e];exact DA p m,(AQ7 e).symm⟩
def Bh6 (a:1000<=N){s:To}(hs:okS s):∃b,I3 N s=some b/\(b=true↔vS s):=by obtain⟨p,m,e⟩:=hs;exact⟨vB p m,by rw[e];exact BZ p m a,(AQ7 e).symm⟩
def BI0 {x:Hk}(hx:okO x){k:Int}(h:AO N x k=some true):x.From<k/\(x.Take≠0->0<=x.Of/\x.Of<k):=by
 obtain⟨⟨a,b,c⟩,_,_⟩:=hx;unfold AO at h;simp only[lt,c,DA,Cl3]at h;by_cases h1:x.From < -1
 .simp[h1]at h
 by_cases d:k<=x.From
 .simp[h1,d]at h
 refine⟨by omega,fun ht=>?_⟩;simp only[h1,d,decide_false,Cm2,Rn]at h;by_cases f:(!vB a b)=true
 .rw[Il f]at h;cases h
 rw[Ix f]at h;split at h
 .cases h
 rw[Ix (by simp[ht])]at h;simpa using h
def chkAll (N:Nat)(l:Law):Prop:=Z2 N l.Name=some true/\chk 40 [l.Left]/\chk 40 [l.Right]/\l.If.n<=4/\l.Out.n<=6/\l.If.n+l.Out.n≠0/\1<=l.Mode/\l.Mode<=3/\(∀i,i<l.If.n->vS (l.If.g i))/\∀i,i<l.Out.n->AO N (l.Out.g i) l.If.n=some true
def BY1 (N:Nat)(l:Law)(e:Int):Prop:=(e=0/\chkAll N l) \/ (e=17/\¬chkAll N l)
def Cc1 (l:Law):Prop:=okL l/\chk 40 [l.Left]/\chk 40 [l.Right]/\l.If.n<=4/\Cc0 l/\l.If.n+l.Out.n≠0/\1<=l.Mode/\l.Mode<=3
def chkAll.f {N:Nat}{l:Law}(hl:Tz l)(h:chkAll N l):Cc1 l:=by obtain⟨_,h1,b,c,d,g,j,m,o,n⟩:=h;exact⟨hl.1,h1,b,c,⟨d,fun i a=>⟨hl.2.2.2.2 i a,BI0 (hl.2.2.2.2 i a) (n i a)⟩⟩,g,j,m⟩
def Bh7 (hN:3000000<=N){l:Law}(hl:Tz l):∃e,Bt N l=some e/\BY1 N l e:=by
 have u:=hl.2.1;have v:=hl.2.2.1;have x:=hl.2.2.2.1;unfold Bt;obtain⟨b0,e0,e0'⟩:=AE5 (N:=N) (s:=l.Name) (by omega) (by omega);refine B4 e0 ?_;cases b0
 .exact ifT rfl ⟨17,rfl,.inr ⟨rfl,fun h=>by have:=h.1;rw[e0']at this;cases this⟩⟩
 refine Ci ?_;obtain⟨y2,e2,o⟩:=As5 (N:=N) (by omega) hl.1.1;refine B4 e2 ?_;by_cases c2:y2=0
 case neg=>exact ifT (by simpa using c2) ⟨17,rfl,.inr ⟨rfl,fun h=>c2 (o.2 h.2.1)⟩⟩
 refine ifF (by simp[c2]) ?_;obtain⟨y3,e3,q⟩:=As5 (N:=N) (by omega) hl.1.2.1;refine B4 e3 ?_;by_cases c3:y3=0
 case neg=>exact ifT (by simpa using c3) ⟨17,rfl,.inr ⟨rfl,fun h=>c3 (q.2 h.2.2.1)⟩⟩
 refine ifF (by simp[c3]) ?_;by_cases c4:4<l.If.n
 .exact Ax ⟨17,rfl,.inr ⟨rfl,fun h=>by have:=h.2.2.2.1;omega⟩⟩
 refine Bm ?_;by_cases c5:6<l.Out.n
 .exact Ax ⟨17,rfl,.inr ⟨rfl,fun h=>by have:=h.2.2.2.2.1;omega⟩⟩
 refine Bm ?_;rw[GF (by omega)];by_cases c6:l.If.n+l.Out.n=0
 .exact ifT (by rw[c6];rfl) ⟨17,rfl,.inr ⟨rfl,fun h=>h.2.2.2.2.2.1 c6⟩⟩
 refine Bm ?_;by_cases c7:l.Mode<1 \/ 3<l.Mode
 .exact Ax ⟨17,rfl,.inr ⟨rfl,fun h=>by have g1:=h.2.2.2.2.2.2.1;have g2:=h.2.2.2.2.2.2.2.1;omega⟩⟩
 refine Bm ?_;have y:∀i,∃b,i<l.If.n->BS N (l.If.g i)=some b/\(b=true ↔ ¬vS (l.If.g i)):=by
  intro i;by_cases a:i<l.If.n
  .obtain⟨b,eb,hb⟩:=Bh5 (N:=N) (hl.1.2.2 i a);refine⟨!b,fun _=>⟨by unfold BS;rw[eb];rfl,?_⟩⟩;rw[<- hb];simp
  exact⟨false,fun h=>Kh h a⟩
 obtain⟨f,j⟩:=Cy3 y;obtain⟨y4,e4,r⟩:=SY (N:=N) (w:=l.If) (by omega) (by omega) (f:=fun u1=>BS N u1) (fun i a=>(j i a).1);refine B4 e4 ?_;cases c:y4
 case true=>obtain⟨i,a,hb⟩:=r.1 c;exact ifT rfl ⟨17,rfl,.inr ⟨rfl,fun h=>(j i a).2.1 hb (h.2.2.2.2.2.2.2.2.1 i a)⟩⟩
 refine Ci ?_;have z:∀i,∃b,i<l.Out.n->BR N (l.Out.g i) (l.If.n:Int)=some b/\(b=true ↔ ¬AO N (l.Out.g i) l.If.n=some true):=by
  intro i;by_cases a:i<l.Out.n
  .obtain⟨b,eb,_⟩:=AZ7 (N:=N) (by omega) (hl.2.2.2.2 i a) (l.If.n:Int);refine⟨!b,fun _=>⟨by unfold BR;rw[eb];rfl,?_⟩⟩;rw[eb];simp
  exact⟨false,fun h=>Kh h a⟩
 obtain⟨g,m⟩:=Cy3 z;obtain⟨y5,e5,t⟩:=AE6 (N:=N) (s:=l.Out) (by omega) (by omega) (f:=fun u2=>BR N u2 (l.If.n:Int)) (fun i a=>(m i a).1);refine B4 e5 ?_;cases d:y5
 case true=>obtain⟨i,a,hb⟩:=t.1 d;exact ifT rfl ⟨17,rfl,.inr ⟨rfl,fun h=>(m i a).2.1 hb (h.2.2.2.2.2.2.2.2.2 i a)⟩⟩
 refine Ci ⟨0,rfl,.inl ⟨rfl,e0',o.1 c2,q.1 c3,by omega,by omega,c6,by omega,by omega,fun i a=>?_,fun i a=>?_⟩⟩
 .refine Cn1 fun hn=>?_
  have:=r.2 ⟨i,a,(j i a).2.2 hn⟩
  rw[c]at this;cases this
 refine Cn1 fun hn=>?_
 have:=t.2 ⟨i,a,(m i a).2.2 hn⟩
 rw[d]at this;cases this
def Bh8 (y:3000000<=N){l:Law}(hl:Tz l):∃e,S6 N l=some e/\BY1 N l e:=by
 have u:=hl.2.1;have v:=hl.2.2.1;have w:=hl.2.2.2.1;unfold S6;obtain⟨b0,e0,e0'⟩:=AE5 (N:=N) (s:=l.Name) (by omega) (by omega);refine B4 e0' (ltX ?_);cases b0
 .exact ifT rfl (ifT rfl ⟨17,rfl,.inr ⟨rfl,fun h=>by have:=h.1;rw[e0']at this;cases this⟩⟩)
 refine Ci ?_;obtain⟨y2,e2,q⟩:=Wy (N:=N) (by omega) hl.1.1;refine B4 e2 ?_;by_cases c2:y2=0
 case neg=>exact ifT (by simpa using c2) (ifT rfl ⟨17,rfl,.inr ⟨rfl,fun h=>c2 (q.2 h.2.1)⟩⟩)
 refine ifF (by simp[c2]) ?_;obtain⟨y3,e3,r⟩:=Wy (N:=N) (by omega) hl.1.2.1;refine B4 e3 ?_;by_cases c3:y3=0
 case neg=>exact ifT (by simpa using c3) ⟨17,rfl,.inr ⟨rfl,fun h=>c3 (r.2 h.2.2.1)⟩⟩
 refine ifF (by simp[c3]) ?_;rw[GF (by omega)];by_cases a:l.If.n<=4/\l.Out.n<=6/\l.If.n+l.Out.n≠0/\1<=l.Mode/\l.Mode<=3
 case neg=>refine ifT ?_ ⟨17,rfl,.inr ⟨rfl,fun h=>a ⟨h.2.2.2.1,h.2.2.2.2.1,h.2.2.2.2.2.1,h.2.2.2.2.2.2.1,h.2.2.2.2.2.2.2.1⟩⟩⟩;simp only[Co3,Sp,beq_iff_eq];omega
 refine ifF (by simp only[Co3,Sp,beq_iff_eq];omega) ?_;obtain⟨c4,c5,c6,c7,c8⟩:=a;refine Aq (fun i x1=>x1=(i:Int)/\∀j,j<i->vS (l.If.g j)) l.If.n _ (by omega) ⟨rfl,fun j c=>Kh c (by omega)⟩ ?_;rintro t i x1 z ⟨rfl,h⟩ hs;by_cases d:i<l.If.n
 .obtain⟨b,eb,hb⟩:=Bh6 (N:=N) (by omega) (hl.1.2.2 i d);refine Ax (Ab (B4 (by rw[Cl2];exact eb) ?_));cases b
  .exact ifT rfl ⟨17,rfl,.inr ⟨rfl,fun h=>by have:=hb.2 (h.2.2.2.2.2.2.2.2.1 i d);cases this⟩⟩
  refine Ci (hs d _ ⟨Cl,fun j c=>?_⟩);by_cases e:j=i
  .subst e;exact hb.1 rfl
  exact h j (by omega)
 refine Bm ?_;have x:∀j,j<l.If.n->vS (l.If.g j):=fun j c=>h j (by omega);refine Aq (fun i x1=>x1=(i:Int)/\∀j,j<i->AO N (l.Out.g j) l.If.n=some true) l.Out.n _ (by omega) ⟨rfl,fun j c=>Kh c (by omega)⟩ ?_;rintro m k x2 hk ⟨rfl,h'⟩ o;by_cases f:k<l.Out.n
 .obtain⟨b,eb,eb'⟩:=AZ7 (N:=N) (by omega) (hl.2.2.2.2 k f) (l.If.n:Int);refine Ax (Ab (B4 (by rw[Cl2];exact eb') ?_));cases b
  .exact ifT rfl ⟨17,rfl,.inr ⟨rfl,fun h=>by have:=h.2.2.2.2.2.2.2.2.2 k f;rw[eb]at this;cases this⟩⟩
  refine Ci (o f _ ⟨Cl,fun j c=>?_⟩);by_cases e:j=k
  .subst e;exact eb
  exact h' j (by omega)
 exact Bm ⟨0,rfl,.inl ⟨rfl,e0',q.1 c2,r.1 c3,c4,c5,c6,c7,c8,x,fun j c=>h' j (by omega)⟩⟩
def AE7 {l:Law}{e e' : Int}(h:BY1 N l e)(h' : BY1 N l e'):e=e':=by
 rcases h with⟨rfl,h⟩ | ⟨rfl,h⟩<;>rcases h' with⟨rfl,h'⟩ | ⟨rfl,h'⟩
 .rfl
 .exact Kh h h'
 .exact Kh h' h
 rfl
def HS (a:3000000<=N){l:Law}(hl:Tz l):∃e,Bt N l=some e/\S6 N l=some e/\BY1 N l e:=by obtain⟨e,h,c⟩:=Bh7 a hl;obtain⟨e',h',c'⟩:=Bh8 a hl;obtain rfl:=AE7 c c';exact⟨_,h,h',c⟩
end Go.AM
namespace Go.AM
open Go.Proofs
def PE:Pat->Pat->Prop
 |.nil,q=>q.Kind=0/\q.Is=default/\q.Not=false/\q.Min=0/\q.Max=0/\q.L.n=0
 |.mk k is no mn mx n g,q=>q.Kind=k/\q.Is=is/\q.Not=no/\q.Min=mn/\q.Max=mx/\q.L.n=n/\∀i,i<n->PE (g i) (q.L.g i)
def PE_of {p q:Pat}:PE p q↔q.Kind=p.Kind/\q.Is=p.Is/\q.Not=p.Not/\q.Min=p.Min/\q.Max=p.Max/\q.L.n=p.L.n/\∀i,i<p.L.n->PE (p.L.g i) (q.L.g i):=by
 cases p with
 |nil=>exact⟨fun h=>⟨h.1,h.2.1,h.2.2.1,h.2.2.2.1,h.2.2.2.2.1,h.2.2.2.2.2,fun i a=>Kh a (Cp7 i)⟩,fun h=>⟨h.1,h.2.1,h.2.2.1,h.2.2.2.1,h.2.2.2.2.1,h.2.2.2.2.2.1⟩⟩
 |mk k is no mn mx n g=>exact CB6
def AR4:∀p:Pat,PE p p
 |.nil=>⟨rfl,rfl,rfl,rfl,rfl,rfl⟩
 |.mk k is no mn mx n g=>⟨rfl,rfl,rfl,rfl,rfl,rfl,fun i _=>AR4 (g i)⟩
def AR5:∀{p q:Pat},PE p q->PE q p
 |.nil,q,h=>PE_of.2 ⟨h.1.symm,h.2.1.symm,h.2.2.1.symm,h.2.2.2.1.symm,h.2.2.2.2.1.symm,h.2.2.2.2.2.symm,fun i a=>Kh a (by rw[h.2.2.2.2.2];exact Cp7 i)⟩
 |.mk k is no mn mx n g,q,h=>PE_of.2 ⟨h.1.symm,h.2.1.symm,h.2.2.1.symm,h.2.2.2.1.symm,h.2.2.2.2.1.symm,h.2.2.2.2.2.1.symm,fun i a=>AR5 (h.2.2.2.2.2.2 i (by rw[<- h.2.2.2.2.2.1];exact a))⟩
def Ak4 {n:Nat}{Q Q' : Nat->Nat->Nat->Prop}:∀{m:Nat},(∀i,i<m->Q i=Q' i)->Bg7 n Q m=Bg7 n Q' m
 |0,_=>rfl
 |m+1,h=>by funext a b;simp only[Bg7];rw[Ak4 fun i c=>h i (by omega),h m (by omega)]
def BY2 {w:Sl To}:∀(d:Nat) {p q:Pat},okP d p->PE p q->PR w p=PR w q
 |0,p,q,h,_=>h.elim
 |d+1,p,q,h,e=>by
  obtain⟨e1,e2,e3,e4,e5,e6,e7⟩:=PE_of.1 e;have ih:∀i,i<p.L.n->PR w (p.L.g i)=PR w (q.L.g i):=fun i c=>BY2 d (h.2.2 i c) (e7 i c);funext a b;apply propext;rw[Ty,Ty,e1,e2,e3,e4,e5,e6];have j:Bg7 w.n (fun i=>PR w (p.L.g i)) p.L.n=Bg7 w.n (fun i=>PR w (q.L.g i)) p.L.n:=Ak4 ih;have l:(∃i,i<p.L.n/\PR w (p.L.g i) a b) ↔ ∃i,i<p.L.n/\PR w (q.L.g i) a b:=⟨fun⟨i,c,g⟩=>⟨i,c,by rw[<- ih i c];exact g⟩,fun⟨i,c,g⟩=>⟨i,c,by rw[ih i c];exact g⟩⟩;rw[j,l];by_cases f:p.Kind=5
  .have:=(h.2.1 f).1
   rw[ih 0 (by omega)]
  simp[f]
def BI1 {p q:Pat}(e:PE p q):MO p↔MO q:=by obtain⟨e1,e2,e3,e4,e5,e6,_⟩:=PE_of.1 e;unfold MO;rw[e1,e2,e3,e4,e5,e6]
def PEs:List Pat->List Pat->Prop
 |[],[]=>True
 |p::l,q::m=>PE p q/\PEs l m
 |_,_=>False
def Bu0:∀{a b c d:List Pat},PEs a b->PEs c d->PEs (a++c) (b++d)
 |[],[],_,_,_,h=>h
 |_::_,_::_,_,_,⟨h1,h2⟩,h=>⟨h1,Bu0 h2 h⟩
 |[],_::_,_,_,h,_=>h.elim
 |_::_,[],_,_,h,_=>h.elim
def AE8 {f g:Nat->Pat}:∀(l:List Nat),(∀i∈l,PE (f i) (g i))->PEs (l.map f) (l.map g)
 |[],_=>trivial
 |i::l,h=>⟨h i (by simp),AE8 l fun j a=>h j (by simp[a])⟩
def BO2:∀(k:Nat) (l m:List Pat),PEs l m->(chk k l↔chk k m)
 |0,[],[],_=>CB6
 |0,p::l,q::m,_=>⟨fun h=>(by cases h),fun h=>by cases h⟩
 |k+1,[],[],_=>CB6
 |k+1,p::l,q::m,⟨h1,h2⟩=>by
  obtain⟨_,_,_,_,_,e6,e7⟩:=PE_of.1 h1;show MO p/\chk k (p.L.toList++l)↔MO q/\chk k (q.L.toList++m);rw[BI1 h1,BO2 k _ _ (Bu0 (c:=l) (d:=m) (show PEs p.L.toList q.L.toList by unfold Sl.toList;rw[e6];exact AE8 _ fun i a=>e7 i (Cn2.1 a)) h2)]
 |_,[],_::_,h=>h.elim
 |_,_::_,[],h=>h.elim
def Rw {p q:Pat}(h:PE p q):chk 40 [p]↔chk 40 [q]:=BO2 40 [p] [q] ⟨h,trivial⟩
def okPS_of {p:Pat}:okPS p↔okS p.Is/\∀i,i<p.L.n->okPS (p.L.g i):=by
 cases p with
 |nil=>exact⟨fun _=>⟨⟨0#32,0#32,rfl⟩,fun i a=>Kh a (Cp7 i)⟩,fun _=>trivial⟩
 |mk k is no mn mx n g=>exact CB6
def WB:∀{p q:Pat},PE p q->okPS p->okPS q
 |.nil,q,h,_=>okPS_of.2 ⟨by rw[h.2.1];exact⟨0#32,0#32,rfl⟩,fun i a=>Kh a (by rw[h.2.2.2.2.2];exact Cp7 i)⟩
 |.mk k is no mn mx n g,q,h,hp=>okPS_of.2 ⟨by rw[h.2.1];exact hp.1,fun i a=>by
  have a:i<n:=by rw[<- h.2.2.2.2.2.1];exact a
  exact WB (h.2.2.2.2.2.2 i a) (hp.2 i a)⟩
end Go.AM
namespace Go.AM
variable {N:Nat}
open IntKind (wrap)
open Go.Proofs
def nf:(!false)=true:=rfl
def BY3 {α : Type}{s t:Sl α}(h:s.n=0):s.app t=t:=by cases t;simp[Sl.app,h]
def BO3 {α : Type}[Inhabited α](s:Sl (Sl α)):Nat->Sl α
 |0=>Sl.nil
 |k+1=>(BO3 s k).app (s.g k)
def BO4 {α : Type}[Inhabited α](s:Sl (Sl α)){B:Nat}:∀k,(∀i,i<k->(s.g i).n<=B)->(BO3 s k).n<=k*B
 |0,_=>by simp[BO3]
 |k+1,h=>by
  have:=BO4 s k fun i a=>h i (by omega)
  have:=h k (by omega)
  show (BO3 s k).n+(s.g k).n<=_;rw[CD8];omega
def AR6 {s:Sl (Sl To)}(hn:s.n<1000)(d:1000<=N)(hs:∀i,i<s.n->(s.g i).n<=3000000) :D2 N s=some (BO3 s s.n):=by
 suffices h:∃r,D2 N s=some r/\r=BO3 s s.n by obtain⟨r,h,rfl⟩:=h;exact h
 unfold D2;refine N4 (fun (i:Nat) (x1 x2:Int)=>x2=(i:Int)/\0<=x1/\x1<=(i:Int)*3000000) s.n _ (by omega) ⟨rfl,Int.le_refl 0,by simp⟩ ?_;rintro b i x1 x2 c ⟨rfl,f,h1⟩ a;by_cases hl:i<s.n
 .have:=hs i hl
  refine Ax (Ab ?_);rw[Cl2,E8 (by omega) (by omega)];exact Bm (a hl _ _ ⟨Cl,by omega,by omega⟩)
 refine Bm (B4 (x:=Sl.nil) ?_ ?_)
 .unfold K8;rw[Cw]
 refine N4 (fun i x1 x2=>x2=(i:Int)/\x1=BO3 s i) s.n _ (by omega) ⟨rfl,rfl⟩ ?_;rintro b i x1 x2 c ⟨rfl,rfl⟩ a;by_cases hl:i<s.n
 .have g1:=hs i hl;have g2:=BO4 s i (B:=3000000) fun j l=>hs j (by omega);refine Ax (ifT ⟨by omega,?_⟩ (a hl _ _ ⟨Cl,?_⟩))
  .rw[Cl2];omega
  rw[Cl2];rfl
 exact Bm ⟨_,rfl,by congr 1;omega⟩
def Cc2 (w:Sl To)(i k:Nat)(y:Sl To):Sl To:=((w.take i).app y).app (w.drop (i+k))
def Bu1 {w y:Sl To}{i k:Nat}(b:i+k<=w.n)(hw:∀j,j<w.n->vS (w.g j))(hy:∀j,j<y.n->vS (y.g j)):(Cc2 w i k y).n=w.n-k+y.n/\∀j,j<(Cc2 w i k y).n->vS ((Cc2 w i k y).g j):=by
 have hn:(Cc2 w i k y).n=w.n-k+y.n:=by show i+y.n+(w.n-(i+k))=_;omega
 refine⟨hn,fun j a=>?_⟩;rw[hn]at a;show vS (if j<i+y.n then (if j<i then w.g j else y.g (j-i))else w.g (i+k+(j-(i+y.n))));split
 .split
  .exact hw _ (by omega)
  exact hy _ (by omega)
 exact hw _ (by omega)
def MP (N:Nat)(l:Law)(w:Sl To)(i:Nat):Sl To:=(T7 N l (w.sub i (i+l.If.n))).getD Sl.nil
def Bz (N:Nat)(l:Law)(w:Sl To)(i:Nat):Sl To:=Cc2 w i l.If.n (MP N l w i)
def vOk {w:Sl To}(h:wOk w):okW w:=⟨by have:=h.1;omega,fun i a=>(h.2 i a).ok⟩
def KY (a:1000<=N){l:Law}(b:Cc0 l){w:Sl To}(hw:∀j,j<w.n->vS (w.g j)){i:Nat}(o:i+l.If.n<=w.n) :T7 N l (w.sub i (i+l.If.n))=some (MP N l w i)/\Z3 N l (w.sub i (i+l.If.n))=some (MP N l w i)/\(MP N l w i).n=l.Out.n/\∀j,j<(MP N l w i).n->vS ((MP N l w i).g j):=by
 obtain⟨s,h1,c,d,f⟩:=BY0 a b (cut:=w.sub i (i+l.If.n)) (by show i+l.If.n-i=_;omega) fun j m=>(hw (i+j) (by have:j<i+l.If.n-i:=m;omega)).ok;have e:MP N l w i=s:=by unfold MP;rw[h1];rfl
 rw[e];exact⟨h1,c,d,f⟩
def cat3 (a b c:Sl To):BO3 (Sl.of [a,b,c]:Sl (Sl To)) 3=(a.app b).app c:=by show (((Sl.nil:Sl To).app a).app b).app c=_;rw[BY3 (s:=(Sl.nil:Sl To)) rfl]
def Bu2 (d:1000<=N){a b c:Sl To}(ha:a.n<=3000000)(hb:b.n<=3000000)(hc:c.n<=3000000):D2 N (Sl.of [a,b,c]:Sl (Sl To))=some ((a.app b).app c):=by
 have h:=AR6 (N:=N) (s:=(Sl.of [a,b,c]:Sl (Sl To))) (by show 3<1000;omega) d fun i f=>by
  match i,f with
  |0,_=>exact ha
  |1,_=>exact hb
  |2,_=>exact hc
 rw[h];exact congrArg some (cat3 a b c)
def Jm (a:1000<=N){l:Law}(b:Cc0 l){w:Sl To}(c:w.n<1000)(hw:∀j,j<w.n->vS (w.g j)){i:Nat}(d:i+l.If.n<=w.n) :X3 N l w i=some (Bz N l w i)/\M0 N l w i=some (Bz N l w i):=by
 obtain⟨h1,f,m,o⟩:=KY a b hw d;have q:=b.1;constructor
 .unfold X3;rw[GF (by omega),Cw,Cl2,Cl2,h1,Cl3,Cw,
   Bu2 a (by show i<=_;omega) (by omega) (by show w.n-(i+l.If.n)<=_;omega)]
  rfl
 unfold M0;rw[GF (by omega),Cl2,Cl2,BY3 (s:=(Sl.of []:Sl To)) rfl,Il ⟨by omega,by show (0+i)*8<=_/\0+i<=_;omega⟩,Cw,f,Cl3,
  Il (by show (i+(MP N l w i).n)*8<=_/\i+(MP N l w i).n<=_;omega),Il ⟨by omega,by show (i+(MP N l w i).n+(w.n-(i+l.If.n)))*8<=_/\i+(MP N l w i).n+(w.n-(i+l.If.n))<=_;omega⟩]
 rfl
def SE {α : Type}(s t:Sl α):Prop:=s.n=t.n/\∀i,i<s.n->s.g i=t.g i
def SE.refl {α : Type}(s:Sl α):SE s s:=⟨rfl,fun _ _=>rfl⟩
def SE.symm {α : Type}{s t:Sl α}(h:SE s t):SE t s:=⟨h.1.symm,fun i a=>(h.2 i (by rw[h.1];exact a)).symm⟩
def SE.trans {α : Type}{s t u:Sl α}(h:SE s t)(h' : SE t u):SE s u:=⟨h.1.trans h'.1,fun i a=>(h.2 i a).trans (h'.2 i (by rw[<- h.1];exact a))⟩
def SE.app {α : Type}{s t u v:Sl α}(h:SE s t)(h' : SE u v):SE (s.app u) (t.app v):=⟨by show s.n+u.n=t.n+v.n;rw[h.1,h'.1],fun i a=>by
 show (if i<s.n then s.g i else u.g (i-s.n))=if i<t.n then t.g i else v.g (i-t.n)
 have a:i<s.n+u.n:=a;rw[<- h.1];split
 .exact h.2 i (by assumption)
 exact h'.2 _ (by omega)⟩
def SE.drop {α : Type}{s t:Sl α}(h:SE s t)(k:Nat):SE (s.drop k) (t.drop k):=⟨by show s.n-k=t.n-k;rw[h.1],fun i a=>by have a:i<s.n-k:=a;exact h.2 _ (by omega)⟩
def SE.take {α : Type}{s t:Sl α}(h:SE s t){k:Nat}(hk:k<=s.n):SE (s.take k) (t.take k):=⟨rfl,fun i a=>h.2 i (by have a:i<k:=a;omega)⟩
def SE.sub {α : Type}{s t:Sl α}(h:SE s t){a b:Nat}(hk:b<=s.n):SE (s.sub a b) (t.sub a b):=⟨rfl,fun i c=>h.2 _ (by have c:i<b-a:=c;omega)⟩
def SE.v {s t:Sl To}(h:SE s t)(b:∀j,j<s.n->vS (s.g j)):∀j,j<t.n->vS (t.g j):=fun j a=>by rw[<- h.2 j (by rw[h.1];exact a)];exact b j (by rw[h.1];exact a)
def SE.wOk {s t:Sl To}(h:SE s t)(a:wOk s):wOk t:=⟨by rw[<- h.1];exact a.1,h.v a.2⟩
def As8 {w w' : Sl To}(h:SE w w'):∀p:Pat,PR w p=PR w' p
 |.nil=>rfl
 |.mk kind is no mn mx m g=>by
  have ih:(fun i=>PR w (g i))=fun i=>PR w' (g i):=funext fun i=>As8 h (g i);have ih1:∀i,PR w (g i)=PR w' (g i):=fun i=>congrFun ih i;have e1:∀a,(a<w.n↔a<w'.n):=fun a=>by rw[h.1]
  funext a b;unfold PR;rw[ih];simp only[ih1,<- h.1];by_cases ha:a<w.n
  .rw[h.2 a ha]
  simp[ha]
def Bh9 {l:Law}{w w' : Sl To}(h:SE w w'){i:Nat}:Ak3 l w i↔Ak3 l w' i:=by
 suffices H:∀{w w' : Sl To},SE w w' -> Ak3 l w i->Ak3 l w' i by exact⟨H h,H h.symm⟩
 intro w w' h;rintro⟨h1,f,g,m,n,q,⟨a,ha,c⟩,b,hb,d⟩;have hn:=h.1;refine⟨by omega,fun j o=>?_,g,m,h.wOk n,by omega,⟨a,by omega,?_⟩,b,by omega,?_⟩
 .rw[<- h.2 (i+j) (by omega)];exact f j o
 .rw[<- As8 h];exact c
 rw[<- As8 h];exact d
structure LE (l l' : Law):Prop where
 name:l'.Name=l.Name
 left:PE l.Left l'.Left
 right:PE l.Right l'.Right
 cond:SE l.If l'.If
 out:SE l.Out l'.Out
 mode:l'.Mode=l.Mode
def LE.refl (l:Law):LE l l:=⟨rfl,AR4 _,AR4 _,SE.refl _,SE.refl _,rfl⟩
def LE.symm {l l' : Law}(h:LE l l'):LE l' l:=⟨h.name.symm,AR5 h.left,AR5 h.right,h.cond.symm,h.out.symm,h.mode.symm⟩
def BY4 {l l' : Law}(h:LE l l'){w:Sl To}{i:Nat}:Ak3 l w i↔Ak3 l' w i:=by
 suffices H:∀{l l' : Law},LE l l' -> Ak3 l w i->Ak3 l' w i by exact⟨H h,H h.symm⟩
 intro l l' h;rintro⟨h1,m,f,g,n,o,⟨a,ha,c⟩,b,hb,d⟩;have hn:=h.cond.1;refine⟨by omega,fun j q=>?_,(Rw h.left).1 f,(Rw h.right).1 g,n,by omega,⟨a,ha,?_⟩,b,hb,?_⟩
 .rw[<- h.cond.2 j (by omega)];exact m j (by omega)
 .rw[<- BY2 40 (Wx 40 _ (by omega) f _ (by simp)) h.left];exact c
 rw[<- hn,<- BY2 40 (Wx 40 _ (by omega) g _ (by simp)) h.right];exact d
def OK {l l' : Law}(e:LE l l'){w w' : Sl To}(h:SE w w'){i:Nat}:Ak3 l w i↔Ak3 l' w' i:=(BY4 e).trans (Bh9 h)
def UR {l l' : Law}(h:LE l l')(hl:Tz l):Tz l':=by obtain⟨⟨h1,a,b⟩,c,g,j,d⟩:=hl;have m:=h.cond.1;have n:=h.out.1;exact⟨⟨WB h.left h1,WB h.right a,fun i f=>by rw[<- h.cond.2 i (by omega)];exact b i (by omega)⟩,by rw[h.name];exact c,by omega,by omega,fun i f=>by rw[<- h.out.2 i (by omega)];exact d i (by omega)⟩
def BY5 {l l' : Law}(h:LE l l')(hl:Cc0 l):Cc0 l':=by have a:=h.cond.1;have b:=h.out.1;exact⟨by rw[<- b];exact hl.1,fun i c=>by rw[<- h.out.2 i (by omega),<- a];exact hl.2 i (by omega)⟩
def AR7 {l l' : Law}(h:LE l l')(hl:Cc1 l):Cc1 l':=by obtain⟨⟨h1,a,b⟩,c,d,j,f,m,n,g⟩:=hl;have o:=h.cond.1;have q:=h.out.1;have hm:=h.mode;exact⟨⟨WB h.left h1,WB h.right a,fun i r=>by rw[<- h.cond.2 i (by omega)];exact b i (by omega)⟩,(Rw h.left).1 c,(Rw h.right).1 d,by omega,BY5 h f,by omega,by omega,by omega⟩
def HT {l l' : Law}(h:LE l l'):chkAll N l↔chkAll N l':=by
 suffices H:∀{l l' : Law},LE l l' -> chkAll N l->chkAll N l' by exact⟨H h,H h.symm⟩
 rintro l l' h ⟨h1,b,c,j,m,n,o,q,d,a⟩;have f:=h.cond.1;have r:=h.out.1;have hm:=h.mode;exact⟨by rw[h.name];exact h1,(Rw h.left).1 b,(Rw h.right).1 c,by omega,by omega,by omega,by omega,by omega,
  fun i g=>by rw[<- h.cond.2 i (by omega)];exact d i (by omega),fun i g=>by rw[<- h.out.2 i (by omega),<- f];exact a i (by omega)⟩
def BY6 {l l' : Law}(h:LE l l'){e:Int}(b:BY1 N l e):BY1 N l' e:=by
 rcases b with⟨h1,a⟩ | ⟨h1,a⟩
 .exact .inl ⟨h1,(HT h).1 a⟩
 exact .inr ⟨h1,fun g=>a ((HT h).2 g)⟩
def Bu3 {l:Law}{c c' : Sl To}(h:SE c c'):T7 N l c=T7 N l c':=by
 unfold T7;congr 1;funext self x1 x2;by_cases h1:(decide (x2<(l.Out.n:Int)))=true
 case neg=>rw[Ix h1,Ix h1]
 rw[Il h1,Il h1,<- h.1];have e1:∀y:Int,(0:Int)<=y->y<(c.n:Int)->c.g y.toNat=c'.g y.toNat:=fun y i h1=>h.2 _ (by omega);by_cases b:(0:Int)<=x2/\x2<(l.Out.n:Int)
 case neg=>rw[Ix b,Ix b]
 rw[Il b,Il b];split
 .rename_i f;have e2:(⟨(if (decide (0<=(l.Out.g x2.toNat).From)) then (c.g (l.Out.g x2.toNat).From.toNat).Plus else 0),(if (decide (0<=(l.Out.g x2.toNat).From)) then (c.g (l.Out.g x2.toNat).From.toNat).Minus else 0)⟩:To) =
   ⟨(if (decide (0<=(l.Out.g x2.toNat).From)) then (c'.g (l.Out.g x2.toNat).From.toNat).Plus else 0),(if (decide (0<=(l.Out.g x2.toNat).From)) then (c'.g (l.Out.g x2.toNat).From.toNat).Minus else 0)⟩:=by
   by_cases a:decide (0<=(l.Out.g x2.toNat).From)=true
   .have:=f a
    rw[Il a,Il a,Il a,Il a,e1 _ this.1 this.2]
   rw[Ix a,Ix a,Ix a,Ix a]
  rw[e2];congr 1;funext y5;split
  .split
   .rename_i d;rw[e1 _ d.1 d.2]
   rfl
  rfl
 rfl
def Bi0 {l l' : Law}(h:SE l.Out l'.Out)(c:Sl To):T7 N l c=T7 N l' c:=by
 unfold T7;congr 1;funext self x1 x2;rw[<- h.1];by_cases h1:(0:Int)<=x2/\x2<(l.Out.n:Int)
 .rw[h.2 x2.toNat (by omega)]
 by_cases a:(decide (x2<(l.Out.n:Int)))=true
 .rw[Il a,Il a,Ix h1,Ix h1]
 rw[Ix a,Ix a]
def WC {l l' : Law}(e:LE l l'){w w' : Sl To}(h:SE w w'){i:Nat}(a:i+l.If.n<=w.n):MP N l w i=MP N l' w' i:=by unfold MP;rw[Bu3 (h.sub a),Bi0 e.out,<- e.cond.1]
def SZ {l l' : Law}(e:LE l l'){w w' : Sl To}(h:SE w w'){i:Nat}(a:i+l.If.n<=w.n):SE (Bz N l w i) (Bz N l' w' i):=by unfold Bz Cc2;rw[WC e h a,<- e.cond.1];exact ((h.take (by omega)).app (SE.refl _)).app (h.drop _)
def RL:List (Int×Sl To)->List (Int×Sl To)->Prop
 |[],[]=>True
 |(p,v)::L,(q,u)::M=>p=q/\SE v u/\RL L M
 |_,_=>False
def Rx:Sl Int->Sl (Sl To)->List (Int×Sl To)->Sl Int×Sl (Sl To)×Int
 |x,y,[]=>(x,y,0)
 |x,y,(p,v)::L=>if 32<v.n then (Sl.nil,Sl.nil,11)else Rx (x.push p) (y.push v) L
abbrev AE9:=List (Int×Sl To)
def vL (L:AE9):Prop:=∀x∈L,∀j,j<x.2.n->vS (x.2.g j)
def AF0:vL []:=fun x hx=>Kh hx (by simp)
def AR8 {x:Int×Sl To}{L:AE9}(h:∀j,j<x.2.n->vS (x.2.g j))(hL:vL L):vL (x::L):=fun y hy=>by
 rcases Co1.1 hy with rfl|hy
 .exact h
 exact hL y hy
def AF1 (N:Nat)(l:Law)(a:Sl To->Int->Option AE9)(x5:Sl To)(x6:Int):Option AE9:= if (decide ((wrap .i64 (x6+(l.If.n:Int)))<=(x5.n:Int))) then (EQ N l x5 x6).bind fun c=>if (!c) then a x5 (wrap .i64 (x6+1)) else (X3 N l x5 x6).bind fun b=>Be (x6,b) (if ((l.If.n:Int)==0) then a b (wrap .i64 ((wrap .i64 (x6+(l.Out.n:Int)))+1)) else a b (wrap .i64 (x6+(l.Out.n:Int)))) else some []
abbrev BI2:=(Sl Int)×(Sl (Sl To))×Int
def AF2 (N:Nat)(l:Law)(a:Sl To->Sl Int->Sl (Sl To)->Int->Option BI2)(x1:Sl To)(x2:Sl Int)(x3:Sl (Sl To))(x4:Int):Option BI2:= if (decide ((wrap .i64 (x4+(l.If.n:Int)))<=(x1.n:Int))) then (X2 N l x1 x4).bind fun y5=>if (!y5) then a x1 x2 x3 (wrap .i64 (x4+1)) else (M0 N l x1 x4).bind fun y6=>if (decide (32<(y6.n:Int))) then some ((Sl.nil:Sl Int),(Sl.nil:Sl (Sl To)),11) else if (((x2.n+(Sl.of [x4]:Sl Int).n)*8<=140737488355328/\x2.n+(Sl.of [x4]:Sl Int).n<=140737488355328)/\((x3.n+(Sl.of [y6]:Sl (Sl To)).n)*24<=140737488355328/\x3.n+(Sl.of [y6]:Sl (Sl To)).n<=140737488355328))then if ((l.If.n:Int)==0) then a y6 (x2.push x4) (x3.push y6) (wrap .i64 ((wrap .i64 (x4+(l.Out.n:Int)))+1)) else a y6 (x2.push x4) (x3.push y6) (wrap .i64 (x4+(l.Out.n:Int))) else none else some (x2,x3,0)
def Bu4 (hN:3000<=N){l l' : Law}(hf:Cc1 l)(s:LE l l'):∀(m:Nat) (w w' : Sl To) (i:Nat),SE w w' -> w.n<=100->(∀j,j<w.n->vS (w.g j))->i<=200->w.n+1<=i+m ->
 ∃L L',(∀M,m<M->P9 M (AF1 N l) w i=some L)/\vL L/\L.length<=m/\RL L L' /\ ∀M x2 x3,m<M->x2.n+m<=1000->x3.n+m<=1000->Bf5 M (AF2 N l') w' x2 x3 i=some (Rx x2 x3 L'):=by
 obtain⟨hl,_,_,hk,x,y,_,_⟩:=hf;have h6:=x.1;obtain⟨z,_,_,a0,a1,_,_,_⟩:=AR7 s ⟨hl,‹_›, ‹_›,hk,x,y,‹_›, ‹_›⟩;have c:l'.If.n=l.If.n:=s.cond.1.symm;have d:l'.Out.n=l.Out.n:=s.out.1.symm;intro m
 induction m with
 |zero=>
  intro w w' i a hn o hi hm;have a2:=a.1;refine⟨[],[],fun M q=>?_,AF0,Cl9 _,trivial,fun M x2 x3 q _ _=>?_⟩
  .obtain⟨M,rfl⟩:∃K,M=K+1:=⟨M-1,by omega⟩;rw[F9,AF1,GF (by omega),Fq]
  obtain⟨M,rfl⟩:∃K,M=K+1:=⟨M-1,by omega⟩;rw[Aw,AF2,c,d,GF (by omega),Fq,Rx]
 |succ m ih=>
  intro w w' i a hn o hi hm;have a2:=a.1;by_cases hle:i+l.If.n<=w.n
  case neg=>
   refine⟨[],[],fun M q=>?_,AF0,by simp,trivial,fun M x2 x3 q _ _=>?_⟩
   .obtain⟨M,rfl⟩:∃K,M=K+1:=⟨M-1,by omega⟩;rw[F9,AF1,GF (by omega),Fq]
   obtain⟨M,rfl⟩:∃K,M=K+1:=⟨M-1,by omega⟩;rw[Aw,AF2,c,d,GF (by omega),Fq,Rx]
  have hw:okW w:=⟨by omega,fun j hj=>(o j hj).ok⟩;have t:=a.v o;have hw' : okW w':=⟨by omega,fun j hj=>(t j hj).ok⟩;obtain⟨b,e1,h1⟩:=Bt5 hN hl hk hw i (by omega);obtain⟨b',e2,h2⟩:=As6 hN z a0 hw' i (by omega);obtain rfl:b' = b:=by rw[Cp6,h1,h2,OK s a]
  cases b'
  .obtain⟨L,L',g1,g2,g3,g5,g4⟩:=ih w w' (i+1) a hn o (by omega) (by omega);refine⟨L,L',fun M q=>?_,g2,by omega,g5,fun M x2 x3 q hx hy=>?_⟩
   .obtain⟨M,rfl⟩:∃K,M=K+1:=⟨M-1,by omega⟩;rw[F9,AF1,GF (by omega),Cx,e1,Cl3,Il nf,Cl];exact g1 M (by omega)
   obtain⟨M,rfl⟩:∃K,M=K+1:=⟨M-1,by omega⟩;rw[Aw,AF2,c,d,GF (by omega),Cx,e2,Cl3,Il nf,Cl];exact g4 M x2 x3 (by omega) (by omega) (by omega)
  have hit:=h1.1 rfl;have hw32:=hit.2.2.2.2.1.1;have r1:=(Jm (N:=N) (by omega) x (by omega) o hle).1;have r2:=(Jm (N:=N) (l:=l') (w:=w') (i:=i) (by omega) a1 (by omega) t (by omega)).2;have r:=SZ (N:=N) s a hle;have hrn:=r.1;obtain⟨_,_,p3,p4⟩:=KY (N:=N) (by omega) x o hle;obtain⟨q1,q2⟩:=Bu1 hle o p4;have q1:(Bz N l w i).n=w.n-l.If.n+l.Out.n:=by rw[<- p3];exact q1
  have q2:∀j,j<(Bz N l w i).n->vS ((Bz N l w i).g j):=q2;obtain⟨L,L',g1,g2,g3,g5,g4⟩:=ih (Bz N l w i) (Bz N l' w' i) (if l.If.n=0 then i+l.Out.n+1 else i+l.Out.n) r (by omega) q2 (by split<;>omega) (by split<;>omega);refine⟨((i:Int),Bz N l w i)::L,((i:Int),Bz N l' w' i)::L',fun M q=>?_,AR8 q2 g2,by simp;omega,⟨rfl,r,g5⟩,fun M x2 x3 q hx hy=>?_⟩
  .obtain⟨M,rfl⟩:∃K,M=K+1:=⟨M-1,by omega⟩;rw[F9,AF1,GF (by omega),Cx,e1,Cl3,Ix (by simp),r1,Cl3,GF (by omega),Cl];have g1:=g1 M (by omega);by_cases f:l.If.n=0
   .rw[Il f]at g1;rw[Il (by simp[f]),g1];rfl
   rw[Ix f]at g1;rw[Ix (by simp[f]),g1];rfl
  obtain⟨M,rfl⟩:∃K,M=K+1:=⟨M-1,by omega⟩;rw[Aw,AF2,c,d,GF (by omega),Cx,e2,Cl3,Ix (by simp),r2,Cl3,GF (by omega),Cl,Rx];by_cases u:32<(Bz N l' w' i).n
  .rw[Cx,Il u]
  rw[Fq,Ix u,Il (by show ((x2.n+1)*8<=_/\x2.n+1<=_)/\(x3.n+1)*24<=_/\x3.n+1<=_;omega)];have g4:=g4 M (x2.push (i:Int)) (x3.push (Bz N l' w' i)) (by omega) (by show x2.n+1+m<=_;omega) (by show x3.n+1+m<=_;omega);by_cases f:l.If.n=0
  .rw[Il f]at g4;rw[Il (by simp[f]),g4]
  rw[Ix f]at g4;rw[Ix (by simp[f]),g4]
def Bu5 (N:Nat)(l:Law)(a:Sl To->Int->Option AE9)(x7:Sl To)(x8:Int):Option AE9:= if (decide (0<=x8)) then (EQ N l x7 x8).bind fun c=>if (!c) then a x7 (wrap .i64 (x8-1)) else (X3 N l x7 x8).bind fun b=>Be (x8,b) (a b (wrap .i64 (x8-(if (l.If.n:Int)<1 then 1 else (l.If.n:Int))))) else some []
def Bu6 (N:Nat)(l:Law)(a:Sl To->Sl Int->Sl (Sl To)->Int->Option BI2)(x1:Sl To)(x2:Sl Int)(x3:Sl (Sl To))(x4:Int):Option BI2:= if (decide (0<=x4)) then (X2 N l x1 x4).bind fun y5=>if (!y5) then a x1 x2 x3 (wrap .i64 (x4-1)) else (M0 N l x1 x4).bind fun y6=>if (decide (32<(y6.n:Int))) then some ((Sl.nil:Sl Int),(Sl.nil:Sl (Sl To)),11) else if (((x2.n+(Sl.of [x4]:Sl Int).n)*8<=140737488355328/\x2.n+(Sl.of [x4]:Sl Int).n<=140737488355328)/\((x3.n+(Sl.of [y6]:Sl (Sl To)).n)*24<=140737488355328/\x3.n+(Sl.of [y6]:Sl (Sl To)).n<=140737488355328))then if ((l.If.n:Int)==0) then a y6 (x2.push x4) (x3.push y6) (wrap .i64 ((wrap .i64 (x4-(l.If.n:Int)))-1)) else a y6 (x2.push x4) (x3.push y6) (wrap .i64 (x4-(l.If.n:Int))) else none else some (x2,x3,0)
def BI3 (hN:3000<=N){l l' : Law}(hf:Cc1 l)(r:LE l l'):∀(m:Nat) (w w' : Sl To) (i:Int),SE w w' -> w.n<=100->(∀j,j<w.n->vS (w.g j)) -> -100<=i->i+1<=m->m<=200 ->
 ∃L L',(∀M,m<M->P9 M (Bu5 N l) w i=some L)/\vL L/\L.length<=m/\RL L L' /\ ∀M x2 x3,m<M->x2.n+m<=1000->x3.n+m<=1000->Bf5 M (Bu6 N l') w' x2 x3 i=some (Rx x2 x3 L'):=by
 obtain⟨hl,_,_,hk,x,y,_,_⟩:=hf;have h6:=x.1;obtain⟨z,_,_,a0,a1,_,_,_⟩:=AR7 r ⟨hl,‹_›, ‹_›,hk,x,y,‹_›, ‹_›⟩;have c:l'.If.n=l.If.n:=r.cond.1.symm;have hof:l'.Out.n=l.Out.n:=r.out.1.symm;intro m
 induction m with
 |zero=>
  intro w w' i a hn d hi hm a2;have a3:=a.1;refine⟨[],[],fun M f=>?_,AF0,Cl9 _,trivial,fun M x2 x3 f _ _=>?_⟩
  .obtain⟨M,rfl⟩:∃K,M=K+1:=⟨M-1,by omega⟩;rw[F9,Bu5,Fq]
  obtain⟨M,rfl⟩:∃K,M=K+1:=⟨M-1,by omega⟩;rw[Aw,Bu6,c,Fq,Rx]
 |succ m ih=>
  intro w w' i a hn d hi hm a2;have a3:=a.1;by_cases hle:0<=i
  case neg=>
   refine⟨[],[],fun M f=>?_,AF0,by simp,trivial,fun M x2 x3 f _ _=>?_⟩
   .obtain⟨M,rfl⟩:∃K,M=K+1:=⟨M-1,by omega⟩;rw[F9,Bu5,Fq]
   obtain⟨M,rfl⟩:∃K,M=K+1:=⟨M-1,by omega⟩;rw[Aw,Bu6,c,Fq,Rx]
  obtain⟨k,rfl⟩:∃k:Nat,i=(k:Int):=⟨i.toNat,by omega⟩;have hw:okW w:=⟨by omega,fun j hj=>(d j hj).ok⟩;have s:=a.v d;have hw' : okW w':=⟨by omega,fun j hj=>(s j hj).ok⟩;obtain⟨b,e1,h1⟩:=Bt5 hN hl hk hw k (by omega);obtain⟨b',e2,h2⟩:=As6 hN z a0 hw' k (by omega);obtain rfl:b' = b:=by rw[Cp6,h1,h2,OK r a]
  cases b'
  .obtain⟨L,L',g1,g2,g3,g5,g4⟩:=ih w w' ((k:Int)-1) a hn d (by omega) (by omega) (by omega);refine⟨L,L',fun M f=>?_,g2,by omega,g5,fun M x2 x3 f hx hy=>?_⟩
   .obtain⟨M,rfl⟩:∃K,M=K+1:=⟨M-1,by omega⟩;rw[F9,Bu5,Il (by simp),e1,Cl3,Il nf,E8 (by omega) (by omega)];exact g1 M (by omega)
   obtain⟨M,rfl⟩:∃K,M=K+1:=⟨M-1,by omega⟩;rw[Aw,Bu6,c,Il (by simp),e2,Cl3,Il nf,E8 (by omega) (by omega)];exact g4 M x2 x3 (by omega) (by omega) (by omega)
  have t:=h1.1 rfl;have hle:=t.1;have hw32:=t.2.2.2.2.1.1;have r1:=(Jm (N:=N) (by omega) x (by omega) d hle).1;have r2:=(Jm (N:=N) (l:=l') (w:=w') (i:=k) (by omega) a1 (by omega) s (by omega)).2;have o:=SZ (N:=N) r a hle;have hrn:=o.1;obtain⟨_,_,p3,p4⟩:=KY (N:=N) (by omega) x d hle;obtain⟨q1,q2⟩:=Bu1 hle d p4;have q1:(Bz N l w k).n=w.n-l.If.n+l.Out.n:=by rw[<- p3];exact q1
  have q2:∀j,j<(Bz N l w k).n->vS ((Bz N l w k).g j):=q2;obtain⟨L,L',g1,g2,g3,g5,g4⟩:=ih (Bz N l w k) (Bz N l' w' k) (if l.If.n=0 then (k:Int)-1 else (k:Int)-l.If.n) o (by omega) q2 (by split<;>omega) (by split<;>omega) (by omega);refine⟨((k:Int),Bz N l w k)::L,((k:Int),Bz N l' w' k)::L',fun M f=>?_,AR8 q2 g2,by simp;omega,⟨rfl,o,g5⟩,fun M x2 x3 f hx hy=>?_⟩
  .obtain⟨M,rfl⟩:∃K,M=K+1:=⟨M-1,by omega⟩;rw[F9,Bu5,Il (by simp),e1,Cl3,Ix (by simp),r1,Cl3];have g1:=g1 M (by omega);by_cases q:l.If.n=0
   .rw[Il q]at g1;rw[Cw,E8 (by omega) (by omega),g1];rfl
   rw[Ix q]at g1;rw[Fp,E8 (by omega) (by omega),g1];rfl
  obtain⟨M,rfl⟩:∃K,M=K+1:=⟨M-1,by omega⟩;rw[Aw,Bu6,c,Il (by simp),e2,Cl3,Ix (by simp),r2,Cl3,Rx];by_cases u:32<(Bz N l' w' k).n
  .rw[Cx,Il u]
  rw[Fq,Ix u,Il (by show ((x2.n+1)*8<=_/\x2.n+1<=_)/\(x3.n+1)*24<=_/\x3.n+1<=_;omega)];have g4:=g4 M (x2.push (k:Int)) (x3.push (Bz N l' w' k)) (by omega) (by show x2.n+1+m<=_;omega) (by show x3.n+1+m<=_;omega);rw[E8 (n:=(k:Int)-(l.If.n:Int)) (by omega) (by omega)];by_cases q:l.If.n=0
  .rw[Il q]at g4;rw[Il (by simp[q]),E8 (by omega) (by omega),show (k:Int)-(l.If.n:Int)-1=(k:Int)-1 by omega,g4]
  rw[Ix q]at g4;rw[Ix (by simp[q]),g4]
end Go.AM
namespace Go.AM
open IntKind (wrap)
open Go.Proofs
abbrev AllS:=Sl To×Int×Int
def TA (N:Nat)(l:Law)(q0:Sl To)(a:AllS->Option AE9)(x1:Int)(z1:AllS):Option AE9:= if (decide (x1<z1.2.1)) then a (z1.1,z1.2.1,z1.2.2) else if (((0:Int)<=(wrap .i64 (x1+z1.2.2))/\(wrap .i64 (x1+z1.2.2))<=(z1.1.n:Int))/\((0:Int)<=x1/\x1<=(wrap .i64 (x1+(l.If.n:Int)))/\(wrap .i64 (x1+(l.If.n:Int)))<=(q0.n:Int)))then (T7 N l (q0.sub x1.toNat (wrap .i64 (x1+(l.If.n:Int))).toNat)).bind fun y6=>if ((0:Int)<=(wrap .i64 (x1+(l.If.n:Int)))/\(wrap .i64 (x1+(l.If.n:Int)))<=(q0.n:Int))then (D2 N (Sl.of [z1.1.take (wrap .i64 (x1+z1.2.2)).toNat,y6,q0.drop (wrap .i64 (x1+(l.If.n:Int))).toNat]:Sl (Sl To))).bind fun y7=>Be (x1,y7) (a (y7,wrap .i64 (x1+(if (l.If.n:Int)<1 then 1 else (l.If.n:Int))),wrap .i64 ((wrap .i64 (z1.2.2+(l.Out.n:Int)))-(l.If.n:Int)))) else none else none
def Cc3 (N:Nat)(a:Law)(b:Sl To)(c:Sl Int->Sl (Sl To)->Sl To->Int->Option BI2)(x2:Sl Int)(x3:Sl (Sl To))(x4:Sl To)(x5:Int):Option BI2:= if (decide (x5<=(b.n:Int))) then (X2 N a b x5).bind fun y5=>if (!y5) then lt (fun (z3:Sl To)=>c x2 x3 z3 (wrap .i64 (x5+1))) fun k3=>if (decide (x5<(b.n:Int))) then if (((0:Int)<=x5/\x5<(b.n:Int))/\((x4.n+(Sl.of [b.g x5.toNat]:Sl To).n)*8<=140737488355328/\x4.n+(Sl.of [b.g x5.toNat]:Sl To).n<=140737488355328))then k3 (x4.push (b.g x5.toNat)) else none else k3 x4 else if ((0:Int)<=x5/\x5<=(wrap .i64 (x5+(a.If.n:Int)))/\(wrap .i64 (x5+(a.If.n:Int)))<=(b.n:Int))then (Z3 N a (b.sub x5.toNat (wrap .i64 (x5+(a.If.n:Int))).toNat)).bind fun y6=>if ((x4.n+y6.n)*8<=140737488355328/\x4.n+y6.n<=140737488355328)then if ((x2.n+(Sl.of [x5]:Sl Int).n)*8<=140737488355328/\x2.n+(Sl.of [x5]:Sl Int).n<=140737488355328)then if (((((Sl.of []:Sl To).n+(x4.app y6).n)*8<=140737488355328/\(Sl.of []:Sl To).n+(x4.app y6).n<=140737488355328)/\((0:Int)<=(wrap .i64 (x5+(a.If.n:Int)))/\(wrap .i64 (x5+(a.If.n:Int)))<=(b.n:Int)))/\((((Sl.of []:Sl To).app (x4.app y6)).n+(b.drop (wrap .i64 (x5+(a.If.n:Int))).toNat).n)*8<=140737488355328/\((Sl.of []:Sl To).app (x4.app y6)).n+(b.drop (wrap .i64 (x5+(a.If.n:Int))).toNat).n<=140737488355328))then if (decide (32<((((Sl.of []:Sl To).app (x4.app y6)).app (b.drop (wrap .i64 (x5+(a.If.n:Int))).toNat)).n:Int))) then some ((Sl.nil:Sl Int),(Sl.nil:Sl (Sl To)),11) else if ((x3.n+(Sl.of [((Sl.of []:Sl To).app (x4.app y6)).app (b.drop (wrap .i64 (x5+(a.If.n:Int))).toNat)]:Sl (Sl To)).n)*24<=140737488355328/\x3.n+(Sl.of [((Sl.of []:Sl To).app (x4.app y6)).app (b.drop (wrap .i64 (x5+(a.If.n:Int))).toNat)]:Sl (Sl To)).n<=140737488355328)then if ((a.If.n:Int)==0) then if (decide ((wrap .i64 (x5+(a.If.n:Int)))<(b.n:Int))) then if (((0:Int)<=(wrap .i64 (x5+(a.If.n:Int)))/\(wrap .i64 (x5+(a.If.n:Int)))<(b.n:Int))/\(((x4.app y6).n+(Sl.of [b.g (wrap .i64 (x5+(a.If.n:Int))).toNat]:Sl To).n)*8<=140737488355328/\(x4.app y6).n+(Sl.of [b.g (wrap .i64 (x5+(a.If.n:Int))).toNat]:Sl To).n<=140737488355328))then c (x2.push x5) (x3.push (((Sl.of []:Sl To).app (x4.app y6)).app (b.drop (wrap .i64 (x5+(a.If.n:Int))).toNat))) ((x4.app y6).push (b.g (wrap .i64 (x5+(a.If.n:Int))).toNat)) (wrap .i64 ((wrap .i64 (x5+(a.If.n:Int)))+1)) else none else c (x2.push x5) (x3.push (((Sl.of []:Sl To).app (x4.app y6)).app (b.drop (wrap .i64 (x5+(a.If.n:Int))).toNat))) (x4.app y6) (wrap .i64 ((wrap .i64 (x5+(a.If.n:Int)))+1)) else c (x2.push x5) (x3.push (((Sl.of []:Sl To).app (x4.app y6)).app (b.drop (wrap .i64 (x5+(a.If.n:Int))).toNat))) (x4.app y6) (wrap .i64 (x5+(a.If.n:Int))) else none else none else none else none else none else some (x2,x3,0)
abbrev vW (s:Sl To):Prop:=∀j,j<s.n->vS (s.g j)
def BO5 {s t:Sl To}(h:vW s)(h' : vW t):vW (s.app t):=fun j a=>by
 have a:j<s.n+t.n:=a;show vS (if j<s.n then s.g j else t.g (j-s.n));split
 .exact h j (by assumption)
 exact h' _ (by omega)
def BY7 {s:Sl To}(h:vW s)(k:Nat):vW (s.drop k):=fun j a=>h _ (by have a:j<s.n-k:=a;omega)
def BY8 {s:Sl To}(h:vW s){k:Nat}(hk:k<=s.n):vW (s.take k):=fun j a=>h _ (by have a:j<k:=a;omega)
def AF3 {x s:Sl To}{i:Nat}(b:i<s.n):SE (x.app (s.drop i)) ((x.push (s.g i)).app (s.drop (i+1))):=⟨by show x.n+(s.n-i)=x.n+1+(s.n-(i+1));omega,fun j _=>by
 show (if j<x.n then x.g j else s.g (i+(j-x.n)))=if j<x.n+1 then (if j<x.n then x.g j else s.g i)else s.g (i+1+(j-(x.n+1)))
 by_cases h1:j<x.n
 .rw[Il h1,Cw,Il h1]
 rw[Ix h1];by_cases a:j=x.n
 .rw[Cw,Ix h1,a];simp
 rw[Fp];congr 1;omega⟩
def BI4 {a x t:Sl To}(h:SE a (x.app t)):SE (a.take x.n) x:=⟨rfl,fun j b=>by
 have b:j<x.n:=b;have hn:a.n=x.n+t.n:=h.1;have e:a.g j=if j<x.n then x.g j else t.g (j-x.n):=h.2 j (by omega)
 rw[Il b]at e;exact e⟩
def AZ8 {N:Nat}{l:Law}{w:Sl To}{K:AllS->Option AE9}{acc:Sl To}{next sh:Int}:∀(d i:Nat),((i+d:Nat):Int)<=next->Q5 (Hs l w i) (TA N l w) K (acc,next,sh)=Q5 (Hs l w (i+d)) (TA N l w) K (acc,next,sh)
 |0,i,_=>rfl
 |d+1,i,h=>by
  have ih:=AZ8 (N:=N) (l:=l) (w:=w) (K:=K) (acc:=acc) (next:=next) (sh:=sh) d (i+1) (by omega);rw[show i+(d+1)=i+1+d by omega,<- ih];by_cases a:Ak3 l w i
  .rw[Qe (by have:=a.1;omega) a];show TA N l w (Q5 (Hs l w (i+1)) (TA N l w) K) (i:Int) (acc,next,sh)=_;unfold TA;rw[Cx]
  rw[Qf a]
def BY9 {N:Nat}(hN:3000<=N){l l' : Law}(hf:Cc1 l)(he:LE l l'){w w' : Sl To}(b:SE w w')(hn:w.n<=32)(hv:vW w):∀(m i:Nat) (x4 acc:Sl To) (sh next:Int),i<=w.n+1->w.n+1<=i+m ->
 (i<=w.n->SE acc (x4.app (w'.drop i))/\(x4.n:Int)=i+sh)->next<=i->x4.n<=7*i->vW acc -> -1000<=sh->sh<=1000 ->
 ∃L L',Q5 (Hs l w i) (TA N l w) (fun _=>some []) (acc,next,sh)=some L/\vL L/\L.length<=m/\RL L L' /\ ∀M x2 x3,m<M->x2.n+m<=1000->x3.n+m<=1000->Bf5 M (Cc3 N l' w') x2 x3 x4 i=some (Rx x2 x3 L'):=by
 obtain⟨hl,_,_,hk,ho,hko,_,_⟩:=hf;have h6:=ho.1;obtain⟨hl',_,_,hk',ho',_,_,_⟩:=AR7 he ⟨hl,‹_›, ‹_›,hk,ho,hko,‹_›, ‹_›⟩;have d:l'.If.n=l.If.n:=he.cond.1.symm;have hn':=b.1;have hw:okW w:=⟨by omega,fun j hj=>(hv j hj).ok⟩;have r : vW w':=b.v hv;have hw' : okW w':=⟨by omega,fun j hj=>(r j hj).ok⟩;have fin:∀(m i:Nat) (x4 acc:Sl To) (sh next:Int),w.n<i->∃L L',Q5 (Hs l w i) (TA N l w) (fun _=>some []) (acc,next,sh)=some L/\vL L/\L.length<=m/\RL L L' /\ ∀M x2 x3,m<M->x2.n+m<=1000->x3.n+m<=1000->Bf5 M (Cc3 N l' w') x2 x3 x4 i=some (Rx x2 x3 L'):=by
  intro m i x4 acc sh next hi
  refine⟨[],[],by rw[Rv (by omega)];rfl,AF0,by simp,trivial,fun M x2 x3 hM _ _=>?_⟩;obtain⟨M,rfl⟩:∃K,M=K+1:=⟨M-1,by omega⟩;rw[Aw,Cc3,Fq,Rx]
 intro m
 induction m with
 |zero=>exact fun i x4 acc sh next h1 t _ _ _ _ _ _=>fin 0 i x4 acc sh next (by omega)
 |succ m ih=>
  intro i x4 acc sh next hi hm hx hnx h7 f u x
  by_cases hle:i<=w.n
  case neg=>exact fin _ i x4 acc sh next (by omega)
  obtain⟨o,hnn⟩:=hx hle;have han:acc.n=x4.n+(w.n-i):=by rw[o.1];show x4.n+(w'.n-i)=_;omega
  obtain⟨b',e2,t⟩:=As6 hN hl' hk' hw' i (by omega);have t:=t.trans (OK he b).symm;cases b'
  .have hno:¬Ak3 l w i:=fun h=>by have:=t.2 h;cases this
   rw[Qf hno];by_cases y:i<w.n
   .obtain⟨L,L',g1,g2,g3,g5,g4⟩:=ih (i+1) (x4.push (w'.g i)) acc sh next (by omega) (by omega) (fun _=>⟨o.trans (AF3 (by omega)),by show ((x4.n+1:Nat):Int)=_;omega⟩) (by omega) (by show x4.n+1<=_;omega) f u x
    refine⟨L,L',g1,g2,by omega,g5,fun M x2 x3 hM hx hy=>?_⟩;obtain⟨M,rfl⟩:∃K,M=K+1:=⟨M-1,by omega⟩;rw[Aw,Cc3,d,Cx,e2,Cl3,Il nf,lt,Cx,Il ⟨by omega,by show (x4.n+1)*8<=_/\x4.n+1<=_;omega⟩,Cl,Cl2];exact g4 M x2 x3 (by omega) (by omega) (by omega)
   obtain⟨L,L',g1,g2,g3,g5,g4⟩:=ih (i+1) x4 acc sh next (by omega) (by omega) (fun h=>by omega) (by omega) (by omega) f u x
   refine⟨L,L',g1,g2,by omega,g5,fun M x2 x3 hM hx hy=>?_⟩;obtain⟨M,rfl⟩:∃K,M=K+1:=⟨M-1,by omega⟩;rw[Aw,Cc3,d,Cx,e2,Cl3,Il nf,lt,Fq,Cl];exact g4 M x2 x3 (by omega) (by omega) (by omega)
  have z:=t.1 rfl;have a0:=z.1;rw[Qe hle z];obtain⟨p1,_,p3,p4⟩:=KY (N:=N) (by omega) ho hv a0;obtain⟨_,p2,_,_⟩:=KY (N:=N) (l:=l') (i:=i) (by omega) ho' r (by omega);rw[<- WC he b a0,d]at p2;generalize hY:MP N l w i=Y at p1 p2 p3 p4;have c:SE (((acc.take x4.n).app Y).app (w.drop (i+l.If.n))) ((x4.app Y).app (w'.drop (i+l.If.n))):=((BI4 o).app (SE.refl _)).app (b.drop _);have q:vW (((acc.take x4.n).app Y).app (w.drop (i+l.If.n))):=BO5 (BO5 (BY8 f (by omega)) p4) (BY7 hv _);generalize hZ:(((acc.take x4.n).app Y).app (w.drop (i+l.If.n)))=Z at c q;have hZn:Z.n=x4.n+Y.n+(w.n-(i+l.If.n)):=by rw[<- hZ]
  obtain⟨L,L',g1,g2,g3,g5,g4⟩:=ih (if l.If.n=0 then i+1 else i+l.If.n) (if l.If.n=0/\i<w.n then (x4.app Y).push (w'.g i)else x4.app Y) Z (sh+l.Out.n-l.If.n) (if l.If.n=0 then i+1 else i+l.If.n:Nat)
   (by split<;>omega) (by split<;>omega)
   (fun h=>by
    by_cases a:l.If.n=0
    .rw[Il a]at h;rw[Il a,Il ⟨a,by omega⟩];rw[a]at c;exact⟨c.trans (AF3 (by omega)),by show ((x4.n+Y.n+1:Nat):Int)=_;omega⟩
    rw[Ix a,Fp];exact⟨c,by show ((x4.n+Y.n:Nat):Int)=_;omega⟩)
   (by omega)
   (by
    by_cases a:l.If.n=0
    .rw[Il a];split
     .show x4.n+Y.n+1<=_;omega
     show x4.n+Y.n<=_;omega
    rw[Ix a,Fp];show x4.n+Y.n<=_;omega)
   q (by omega) (by omega)
  refine⟨((i:Int),Z)::L,((i:Int),(x4.app Y).app (w'.drop (i+l.If.n)))::L', ?_,AR8 q g2,by simp;omega,⟨rfl,c,g5⟩,fun M x2 x3 hM hx hy=>?_⟩
  .show TA N l w (Q5 (Hs l w (i+1)) (TA N l w) fun _=>some []) (i:Int) (acc,next,sh)=_;unfold TA;have es:wrap .i64 ((i:Int)+sh)=((x4.n:Nat):Int):=by rw[E8 (by omega) (by omega),hnn]
   simp only[es];rw[GF (by omega),Fq,Cw];simp only[Cl2];rw[p1,Cl3,Cw,Bu2 (by omega) (by show x4.n<=_;omega) (by omega) (by show w.n-(i+l.If.n)<=_;omega),Cl3,hZ];have en:wrap .i64 ((i:Int)+(if (l.If.n:Int)<1 then 1 else (l.If.n:Int)))=((if l.If.n=0 then i+1 else i+l.If.n:Nat):Int):=by
    by_cases a:l.If.n=0
    .rw[Cw,Il a,E8 (by omega) (by omega)];omega
    rw[Fp,Ix a,E8 (by omega) (by omega)];omega
   have eh:wrap .i64 ((wrap .i64 (sh+(l.Out.n:Int)))-(l.If.n:Int))=sh+l.Out.n-l.If.n:=by rw[E8 (n:=sh+(l.Out.n:Int)) (by omega) (by omega),E8 (by omega) (by omega)]
   rw[en,eh];have sk:=AZ8 (N:=N) (l:=l) (w:=w) (K:=fun _=>some []) (acc:=Z) (next:=((if l.If.n=0 then i+1 else i+l.If.n:Nat):Int)) (sh:=sh+l.Out.n-l.If.n) (if l.If.n=0 then 0 else l.If.n-1) (i+1) (by split<;>omega);rw[show i+1+(if l.If.n=0 then 0 else l.If.n-1)=(if l.If.n=0 then i+1 else i+l.If.n) by split<;>omega]at sk;show Be _ (Q5 (Hs l w (i+1)) (TA N l w) (fun _=>some []) (Z,_,_))=_;rw[sk,g1];rfl
  obtain⟨M,rfl⟩:∃K,M=K+1:=⟨M-1,by omega⟩;have hdn:((x4.app Y).app (w'.drop (i+l.If.n))).n=x4.n+Y.n+(w'.n-(i+l.If.n)):=rfl;rw[Aw,Cc3,d,Cx,e2,Cl3,Ix (by simp),GF (by omega),Cw];simp only[Cl2];rw[p2,Cl3,Cw,Il (by show (x2.n+1)*8<=_/\x2.n+1<=_;omega)];rw[Il ⟨⟨by show (0+(x4.n+Y.n))*8<=_/\0+(x4.n+Y.n)<=_;omega,by omega⟩,by simp only[CC9];omega⟩,Rx];by_cases a1:32<((x4.app Y).app (w'.drop (i+l.If.n))).n
  .rw[Il (by simp only[Sp,CC9];omega),Il a1]
  rw[Ix (by simp only[Sp,CC9];omega),Ix a1,BY3 (s:=(Sl.of []:Sl To)) rfl,Il (by show (x3.n+1)*24<=_/\x3.n+1<=_;omega)];have g4:=g4 M (x2.push (i:Int)) (x3.push ((x4.app Y).app (w'.drop (i+l.If.n)))) (by omega) (by show x2.n+1+m<=_;omega) (by show x3.n+1+m<=_;omega);by_cases a:l.If.n=0
  .rw[Il (by simp[a])];rw[Il a]at g4;by_cases y:i<w.n
   .rw[Il ⟨a,y⟩]at g4;rw[Il (by simp only[Sp];omega),Il ⟨by omega,by show (x4.n+Y.n+1)*8<=_/\x4.n+Y.n+1<=_;omega⟩,Cl,show w'.g (i+l.If.n)=w'.g i by rw[a];rfl,show i+l.If.n+1=i+1 by omega];exact g4
   rw[Fp]at g4;rw[Ix (by simp only[Sp];omega),Cl,show i+l.If.n+1=i+1 by omega];exact g4
  rw[Ix (by simp[a])];rw[Ix a,Fp]at g4;exact g4
def trS (r r' : BI2):Prop:=r.1=r'.1/\r.2.1.n=r'.2.1.n/\(∀i,i<r.2.1.n->SE (r.2.1.g i) (r'.2.1.g i))/\r.2.2=r'.2.2
def BO6:∀(L L' : AE9) (x:Sl Int) (y y' : Sl (Sl To)),RL L L' -> y.n=y'.n->(∀i,i<y.n->SE (y.g i) (y'.g i))->trS (Rx x y L) (Rx x y' L')
 |[],[],x,y,y',_,h1,h2=>⟨rfl,h1,h2,rfl⟩
 |(p,v)::L,(q,u)::M,x,y,y',⟨h3,h4,h5⟩,h1,h2=>by
  subst h3;unfold Rx;rw[<- h4.1];split
  .exact⟨rfl,rfl,fun i a=>Kh a (Cp7 i),rfl⟩
  refine BO6 L M _ _ _ h5 (by show y.n+1=y'.n+1;omega) fun i a=>?_;have a:i<y.n+1:=a;show SE (if i<y.n then y.g i else v) (if i<y'.n then y'.g i else u);rw[<- h1];split
  .exact h2 i (by assumption)
  exact h4
 |[],_::_,_,_,_,h,_,_=>h.elim
 |_::_,[],_,_,_,h,_,_=>h.elim
def Bu7:∀(L:AE9) (x:Sl Int) (y:Sl (Sl To)),vL L->(∀i,i<y.n->wOk (y.g i))->(Rx x y L).2.2=11 \/ ((Rx x y L).2.2=0/\(Rx x y L).2.1.n<=y.n+L.length/\∀i,i<(Rx x y L).2.1.n->wOk ((Rx x y L).2.1.g i))
 |[],x,y,_,h=>.inr ⟨rfl,Cl9 _,h⟩
 |(p,v)::L,x,y,hv,h=>by
  unfold Rx;split
  .exact .inl rfl
  have:=Bu7 L (x.push p) (y.push v) (fun z b=>hv z (Cn4 _ b)) fun i d=>by
   show wOk (if i<y.n then y.g i else v);split
   .exact h i (by assumption)
   exact⟨by omega,hv (p,v) (by simp)⟩
  rcases this with h|⟨h1,a,c⟩
  .exact .inl h
  refine .inr ⟨h1,?_,c⟩;have a:_<=y.n+1+L.length:=a;simp only[Co6];omega
def AF4:∀(L:AE9) (x:Sl Int) (y:Sl (Sl To)),x.n+L.length<=100000->y.n+L.length<=100000 ->
 Q5 L (fun (a:Sl Int×Sl (Sl To)->Option BI2) (x1:Int×(Sl To)) (z1:(Sl Int)×(Sl (Sl To)))=>
  if (decide (32<(x1.2.n:Int))) then
   some ((Sl.nil:Sl Int),(Sl.nil:Sl (Sl To)),11)
  else
   if ((z1.1.n+(Sl.of [x1.1]:Sl Int).n)*8<=140737488355328/\z1.1.n+(Sl.of [x1.1]:Sl Int).n<=140737488355328)then
    if ((z1.2.n+(Sl.of [x1.2]:Sl (Sl To)).n)*24<=140737488355328/\z1.2.n+(Sl.of [x1.2]:Sl (Sl To)).n<=140737488355328)then
     a (z1.1.push x1.1,z1.2.push x1.2)
    else none
   else none
  ) (fun (z1:(Sl Int)×(Sl (Sl To)))=>
   some (z1.1,z1.2,0)
  ) (x,y)=some (Rx x y L)
 |[],x,y,_,_=>rfl
 |(p,v)::L,x,y,hx,hy=>by
  simp only[Co6]at hx hy;have ih:=AF4 L (x.push p) (y.push v) (by show x.n+1+_<=_;omega) (by show y.n+1+_<=_;omega);rw[Q5,Rx];by_cases h:32<v.n
  .rw[Cx,Il h]
  rw[Fq,Ix h,Il (by show (x.n+1)*8<=_/\x.n+1<=_;omega),Il (by show (y.n+1)*24<=_/\y.n+1<=_;omega)];exact ih
def trE (N:Nat)(l:Law)(w:Sl To)(r:BI2):Prop:=(r.2.2=17/\¬chkAll N l) \/ (chkAll N l/\AZ4 w r.2.2/\r.2.2≠0) \/ (chkAll N l/\wOk w/\(r.2.2=11 \/ (r.2.2=0/\r.2.1.n<=1000/\∀i,i<r.2.1.n->wOk (r.2.1.g i))))
def Bu8 (e:Int):trS ((Sl.nil:Sl Int),(Sl.nil:Sl (Sl To)),e) ((Sl.nil:Sl Int),(Sl.nil:Sl (Sl To)),e):=⟨rfl,rfl,fun i a=>Kh a (Cp7 i),rfl⟩
def BO7 {w w' : Sl To}(h:SE w w'){e:Int}(hw:AZ4 w e):AZ4 w' e:=by
 rcases hw with⟨h1,a⟩ | ⟨h1,⟨i,b,a⟩,c⟩ | ⟨h1,a⟩
 .exact .inl ⟨by rw[<- h.1];exact h1,a⟩
 .exact .inr (.inl ⟨by rw[<- h.1];exact h1,⟨i,by rw[<- h.1];exact b,by rw[<- h.2 i b];exact a⟩,c⟩)
 exact .inr (.inr ⟨h.wOk h1,a⟩)
def Ci9 {w w' : Sl To}(h:SE w w')(hw:∀i,i<w.n->okS (w.g i)):∀i,i<w'.n->okS (w'.g i):=fun i a=>by rw[<- h.2 i (by rw[h.1];exact a)];exact hw i (by rw[h.1];exact a)
def Bu9 {N:Nat}(u:3000000<=N){l l' : Law}(hl:Tz l)(hle:LE l l'){w w' : Sl To}(a:SE w w')(hw:∀i,i<w.n->okS (w.g i)) :∃r r',Gf N l w=some r/\An N l' w' = some r' /\ trS r r' /\ trE N l w r:=by
 obtain⟨e,e1,_,v⟩:=HS u hl;obtain⟨e0,_,e2,q⟩:=HS u (UR hle hl);obtain rfl:=AE7 (BY6 hle v) q;unfold Gf An Je Bn;rw[e1,e2,Cl3,Cl3];rcases v with⟨rfl,hc⟩ | ⟨rfl,hc⟩
 case inr=>rw[Il (by decide),Il (by decide)];exact⟨_,_,rfl,rfl,Bu8 17,.inl ⟨rfl,hc⟩⟩
 rw[Ix (by decide),Ix (by decide)];obtain⟨e',e3,c⟩:=KX (N:=N) (by omega) hw;obtain⟨e'',e4,j⟩:=MG (N:=N) (by omega) (Ci9 a hw);obtain rfl:=WA (BO7 a c) j;rw[e3,e4];simp only[Cl3];by_cases d:e' = 0
 case neg=>rw[Il (by simpa using d),Il (by simpa using d)];exact⟨_,_,rfl,rfl,Bu8 e', .inr (.inl ⟨hc,c,d⟩)⟩
 rw[Ix (by simp[d]),Ix (by simp[d])];have b:wOk w:=(DB c).1 d;have o:=hc.f hl;obtain⟨s,_,_,hk,ho,y,z,a0⟩:=id o;have hn:=b.1;have t:=a.1;have key:∃L L',Eh N w l (l.If.n:Int) (l.Out.n:Int)=some L/\vL L/\L.length<=100/\RL L L' /\
  (if (l'.Mode==1) then (Du N l' w').bind fun y2=>some (y2.1,y2.2.1,y2.2.2)
   else if (l'.Mode==2) then (Am N l' w').bind fun y3=>some (y3.1,y3.2.1,y3.2.2)
   else (AN N l' w').bind fun y4=>some (y4.1,y4.2.1,y4.2.2))=some (Rx (Sl.nil:Sl Int) (Sl.nil:Sl (Sl To)) L'):=by
  unfold Eh;rw[hle.mode];by_cases c1:l.Mode=1
  .rw[Il (show (l.Mode==1)=true by simp[c1]),Il (show (l.Mode==1)=true by simp[c1])];obtain⟨L,L',g1,g2,g3,g5,g4⟩:=BY9 (N:=N) (by omega) o hle a hn b.2 (w.n+1) 0 (Sl.nil:Sl To) w 0 0 (by omega) (by omega) (fun _=>⟨by rw[BY3 rfl];exact⟨a.1,fun i m=>by rw[a.2 i m];show _=w'.g (0+i);rw[Cp5]⟩,rfl⟩) (by omega) (by show 0<=_;omega) b.2 (by omega) (by omega);have hh:=AZ6 (N:=N) (by omega) s hk (w:=w) (vOk b) 0 (by omega);refine⟨L,L', ?_,g2,by omega,g5,?_⟩
   .show ((Bu N l w ((0:Nat):Int)).bind fun L1=>Q5 L1 (TA N l w) (fun _=>some []) (w,0,0))=_;rw[hh,Cl3];exact g1
   have:Du N l' w' = some _:=g4 N (Sl.nil:Sl Int) (Sl.nil:Sl (Sl To)) (by omega) (by show 0+_<=_;omega) (by show 0+_<=_;omega)
   rw[this];rfl
  rw[Ix (show ¬(l.Mode==1)=true by simp[c1]),Ix (show ¬(l.Mode==1)=true by simp[c1])];by_cases c2:l.Mode=2
  .rw[Il (show (l.Mode==2)=true by simp[c2]),Il (show (l.Mode==2)=true by simp[c2])];obtain⟨L,L',g1,g2,g3,g5,g4⟩:=Bu4 (N:=N) (by omega) o hle (w.n+1) w w' 0 a (by omega) b.2 (by omega) (by omega);refine⟨L,L',g1 N (by omega),g2,by omega,g5,?_⟩
   have:Am N l' w' = some _:=g4 N (Sl.nil:Sl Int) (Sl.nil:Sl (Sl To)) (by omega) (by show 0+_<=_;omega) (by show 0+_<=_;omega)
   rw[this];rfl
  have c3:l.Mode=3:=by omega
  rw[Ix (show ¬(l.Mode==2)=true by simp[c2]),Ix (show ¬(l.Mode==2)=true by simp[c2]),Il (show (l.Mode==3)=true by simp[c3])];obtain⟨L,L',g1,g2,g3,g5,g4⟩:=BI3 (N:=N) (by omega) o hle (w.n+1) w w' ((w.n:Int)-(l.If.n:Int)) a (by omega) b.2 (by omega) (by omega) (by omega);refine⟨L,L', ?_,g2,by omega,g5,?_⟩
  .rw[E8 (by omega) (by omega)];exact g1 N (by omega)
  have g4:=g4 N (Sl.nil:Sl Int) (Sl.nil:Sl (Sl To)) (by omega) (by show 0+_<=_;omega) (by show 0+_<=_;omega)
  have:AN N l' w' = some (Rx (Sl.nil:Sl Int) (Sl.nil:Sl (Sl To)) L'):=by unfold AN;rw[show wrap .i64 ((w'.n:Int)-(l'.If.n:Int))=(w.n:Int)-(l.If.n:Int) by rw[<- t, <- hle.cond.1,E8 (by omega) (by omega)]];exact g4
  rw[this];rfl
 obtain⟨L,L',g1,g2,g3,g5,g4⟩:=key;refine⟨Rx (Sl.nil:Sl Int) (Sl.nil:Sl (Sl To)) L,_,?_,g4,BO6 L L' _ _ _ g5 rfl fun i m=>Kh m (Cp7 i),.inr (.inr ⟨hc,b,?_⟩)⟩
 .rw[PZ,Cl3];show ((Eh N w l (l.If.n:Int) (l.Out.n:Int)).bind _)=_;rw[g1,Cl3];exact AF4 L _ _ (by show 0+_<=_;omega) (by show 0+_<=_;omega)
 rcases Bu7 L (Sl.nil:Sl Int) (Sl.nil:Sl (Sl To)) g2 fun i m=>Kh m (Cp7 i)with h|⟨h1,x,h3⟩
 .exact .inl h
 exact .inr ⟨h1,by have x:_<=0+L.length:=x;omega,h3⟩
end Go.AM
