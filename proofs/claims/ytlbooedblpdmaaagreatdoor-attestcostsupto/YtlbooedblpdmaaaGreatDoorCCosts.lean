/- What a law's walk and its plain proof need, part 18: no condition of its own. -/
import Derived.Test.YtlbooedblpdmaaaGreatDoorAJ
import Derived.Test.YtlbooedblpdmaaaGreatDoorAH
import Derived.Test.YtlbooedblpdmaaaGreatDoorAI
import Derived.Test.YtlbooedblpdmaaaGreatDoorAK
import Derived.Lay
set_option linter.defProp false
set_option linter.unusedSimpArgs false
set_option linter.unusedVariables false
set_option linter.unusedSectionVars false
namespace Go.AM
def Cr8:=@Go.Claim7.holds_tied_plain_at
def Cu3:=@Go.OpenSpec.preRow_of_cond
def Cv0:=@Go.OpenClaim.holds_of_cond
def Cv7:=@Go.OpenClaim.pre_eq_preRow
def Cz8:=@List.mem_toArray
def CA5:=@List.not_mem_nil
def CJ7:=@Go.Proofs.Tryz.underlying2
def CY1:=@Go.Proofs.Tryz.params8
open Go.Proofs
abbrev Eu:Nat:=8
abbrev QH:Nat:=31
abbrev Al6:Nat:=32
end Go.AM
namespace Go.AM
open IntKind (wrap)
open Go.Proofs
set_option maxRecDepth 10000
set_option maxHeartbeats 2000000
variable {S:W1}(hS:H9 S Tryz.prog) (hL:GD S)
include hS hL
def DL (N:Nat)(a:Sl A3):Option (Int×Int):= Zb N (fun b (x1:Int) (x2:Bool) (x3:Int)=>if (decide (x3<(a.n:Int))) then if ((0:Int)<=x3/\x3<(a.n:Int))then if (decide ((a.g x3.toNat).Cost<0)) then some (0,2) else if (decide ((wrap .i64 (9223372036854775807-x1))<(a.g x3.toNat).Cost)) then b x1 true (wrap .i64 (x3+1)) else b (wrap .i64 (x1+(a.g x3.toNat).Cost)) x2 (wrap .i64 (x3+1)) else none else if x2 then some (0,7) else some (x1,0)) 0 false 0
theorem Au7 {N:Nat}{a:Sl A3}{y:Int×Int}(h:DL N a=some y) :FunO S QH [.p (vSl 4 A9 a)] [] (.tup [pN y.1,pN y.2]) ([]) []:=by
 unfold DL at h;refine A1 hS Tryz.func31 ?_;refine Cv hS T3 h (fun x1 x2 x3=>⟨[(10,pN x3),(9,pN (a.n:Int)),(8,.p (vSl 4 A9 a)),(5,pB x2),(4,pN x1)],[]⟩) (ids:=[]) (fun _ _ _ _ _ d x1 x2 x3 c h=>?_);apply kI hS h<;>intro h
 .obtain⟨c10,h⟩:=C7 h;refine D1 hS (And.intro c10 (by decide:(4:Nat)<=4)) (b:=decide ((a.g x3.toNat).Cost<0)) (fun c11=>?_) (fun c11=>?_)
  .replace h:=itT c11 h;cases h;exact kR hS
  replace h:=itF c11 h;apply kI hS h<;>intro h
  .exact c _ [] _ x1 true (wrap .i64 (x3+1)) T3 h
  exact c _ [] _ (wrap .i64 (x1+(a.g x3.toNat).Cost)) x2 (wrap .i64 (x3+1)) T3 h
 apply kI hS h<;>intro h
 .cases h;exact kR hS
 cases h;exact kR hS
def Iy (N:Nat)(a:Sl A3):Option (Int×Int):= T9 N (fun b (x1:Int)=>if (decide (x1<(a.n:Int))) then if ((0:Int)<=x1/\x1<(a.n:Int))then if (decide ((a.g x1.toNat).Cost<0)) then some (0,2) else b (wrap .i64 (x1+1)) else none else P9 N (fun c (x2:Int) (x3:Int)=>if (decide (x3<(a.n:Int))) then if ((0:Int)<=x3/\x3<(a.n:Int))then if (decide ((wrap .i64 (9223372036854775807-x2))<(a.g x3.toNat).Cost)) then some (0,7) else if ((0:Int)<=x3/\x3<(a.n:Int))then c (wrap .i64 (x2+(a.g x3.toNat).Cost)) (wrap .i64 (x3+1)) else none else none else some (x2,0)) 0 0) 0
theorem Bk1 {N:Nat}{a:Sl A3}{y:Int×Int}(h:Iy N a=some y) :FunO S Al6 [.p (vSl 4 A9 a)] [] (.tup [pN y.1,pN y.2]) ([]) []:=by
 unfold Iy at h;refine A1 hS Tryz.func32 ?_;refine E2 hS T3 h (fun x1=>⟨[(4,pN x1),(0,.p (vSl 4 A9 a))],[]⟩) (ids:=[]) (fun _ _ _ _ _ c x1 d h=>?_);apply kI hS h<;>intro h
 .obtain⟨c8,h⟩:=C7 h;refine D1 hS c8 (b:=decide ((a.g x1.toNat).Cost<0)) (fun c9=>?_) (fun c9=>?_)
  .replace h:=itT c9 h;cases h;exact kR hS
  replace h:=itF c9 h;exact d _ [] _ (wrap .i64 (x1+1)) T3 h
 refine D7 hS T3 h (fun x2 x3=>⟨[(6,pN x3),(5,pN x2),(0,.p (vSl 4 A9 a))],[]⟩) (ids:=[]) (fun _ _ _ _ _ f x2 x3 i h=>?_);apply kI hS h<;>intro h
 .obtain⟨c17,h⟩:=C7 h;refine D1 hS c17 (b:=decide ((wrap .i64 (9223372036854775807-x2))<(a.g x3.toNat).Cost)) (fun c18=>?_) (fun c18=>?_)
  .replace h:=itT c18 h;cases h;exact kR hS
  replace h:=itF c18 h;obtain⟨c19,h⟩:=C7 h;exact i _ [] _ (wrap .i64 (x2+(a.g x3.toNat).Cost)) (wrap .i64 (x3+1)) c19 h
 cases h;exact kR hS
end Go.AM
namespace Go.AM
open Go.Proofs
set_option maxRecDepth 10000
set_option maxHeartbeats 2000000
variable {S:W1}(hS:H9 S Tryz.prog) (hL:GD S)
include hS hL
def Cd (N:Nat)(a:Sl A3):Option Bool:= if (decide (300<(a.n:Int))) then (E1 N ).bind fun y1=>some y1 else (DL N a).bind fun y2=>(Iy N a).bind fun y3=>lt (fun (z1:Bool)=>some z1) fun k1=>if (y2.1==y3.1) then if (y2.2==y3.2) then (E1 N ).bind fun y5=>k1 y5 else k1 false else k1 false
theorem Sf {N:Nat}{b:Sl A3}{y:Bool}(h:Cd N b=some y) :FunO S Eu [.p (vSl 4 A9 b)] [] (pB y) ([]) []:=by
 unfold Cd at h;refine A1 hS Tryz.func8 ?_;apply kI hS h<;>intro h
 .refine kC hS h (N0 hS hL) (fun y1 h=>?_);cases h;exact kR hS
 refine kC hS h (Au7 hS hL) (fun y2 h=>?_);refine kC hS h (Bk1 hS hL) (fun y3 h=>?_);refine Ai hS T3 (A2 hS) h 0 (fun z1=>⟨[(2,pB z1)],[]⟩) (fun M1 k1 a h=>?_) (fun z1 h=>?_)
 .refine kG hS h (fun h=>?_) (fun h=>?_)
  .refine kG hS h (fun h=>?_) (fun h=>?_)
   .refine kC hS h (N0 hS hL) (fun y5 h=>?_);exact a _ [] _ y5 T3 h
   exact a _ [] _ false T3 h
  exact a _ [] _ false T3 h
 cases h;exact kR hS
end Go.AM
namespace Go.AM
variable {N:Nat}
open Go.Proofs
def AJ8:Int:=9223372036854775807
def CJ (s:Sl A3):Nat->Int×Bool
 |0=>(0,false)
 |i+1=>if AJ8-(CJ s i).1<(s.g i).Cost then ((CJ s i).1,true)else ((CJ s i).1+(s.g i).Cost,(CJ s i).2)
def LZ {s:Sl A3}{i:Nat}(h:AJ8-(CJ s i).1<(s.g i).Cost):CJ s (i+1)=((CJ s i).1,true):=Il h
def MM {s:Sl A3}{i:Nat}(h:¬AJ8-(CJ s i).1<(s.g i).Cost):CJ s (i+1)=((CJ s i).1+(s.g i).Cost,(CJ s i).2):=Ix h
def XX {s:Sl A3}:∀i,(∀j,j<i->0<=(s.g j).Cost)->0<=(CJ s i).1/\(CJ s i).1<=AJ8
 |0,_=>⟨Int.le_refl _,by show (0:Int)<=9223372036854775807;omega⟩
 |i+1,h=>by
  obtain⟨h1,a⟩:=XX i fun j b=>h j (by omega);have c:=h i (by omega);by_cases e:AJ8-(CJ s i).1<(s.g i).Cost
  .rw[LZ e];exact⟨h1,a⟩
  rw[MM e];exact⟨by show 0<=(CJ s i).1+_;omega,by show (CJ s i).1+_<=_;omega⟩
def Al7 {s:Sl A3}{i:Nat}(h:(CJ s i).2=true):∀d,(CJ s (i+d)).2=true
 |0=>h
 |d+1=>by
  have:=Al7 h d
  by_cases e:AJ8-(CJ s (i+d)).1<(s.g (i+d)).Cost
  .rw[<- CA9,LZ e]
  rw[<- CA9,MM e];exact this
open Classical in
noncomputable def AT5 (s:Sl A3):Int×Int:=if ∃i,i<s.n/\(s.g i).Cost<0 then (0,2)else if (CJ s s.n).2 then (0,7)else ((CJ s s.n).1,0)
def BK0 {n:Int}(h:0<=n)(h' : n<=AJ8):IntKind.i64.wrap n=n:=E8 (by omega) (by unfold AJ8 at h';omega)
def By3 {s:Sl A3}(o:s.n<N)(hs:s.n<1000000000):DL N s=some (AT5 s):=by
 refine eqR ?_;unfold DL;refine KU (fun i x1 x2 x3=>x3=(i:Int)/\x1=(CJ s i).1/\x2=(CJ s i).2/\∀j,j<i->0<=(s.g j).Cost) s.n _ o ⟨rfl,rfl,rfl,fun j a=>Kh a (by omega)⟩ ?_;rintro m i x1 x2 x3 r ⟨rfl,rfl,rfl,a⟩ b;obtain⟨r1,r2⟩:=XX i a;by_cases hl:i<s.n
 .refine Ax (Ab ?_);rw[Cl2];have ew:IntKind.i64.wrap (9223372036854775807-(CJ s i).1)=AJ8-(CJ s i).1:=BK0 (by unfold AJ8 at r2;omega) (by unfold AJ8;omega);rw[ew];by_cases f:(s.g i).Cost<0
  .exact ifT (by simpa using f) ⟨_,rfl,by unfold AT5;rw[Il ⟨i,hl,f⟩]⟩
  have c : ∀j,j<i+1->0<=(s.g j).Cost:=fun j q=>by
   by_cases e:j=i
   .subst e;omega
   exact a j (by omega)
  refine ifF (by simpa using f) ?_;by_cases h1:AJ8-(CJ s i).1<(s.g i).Cost
  .exact ifT (by simpa using h1) (b hl _ _ _ ⟨Cl,by rw[LZ h1],by rw[LZ h1],c⟩)
  exact ifF (by simpa using h1) (b hl _ _ _ ⟨Cl,by rw[MM h1];exact BK0 (by omega) (by omega),by rw[MM h1],c⟩)
 obtain rfl:i=s.n:=by omega
 refine Ci ?_;have l:¬ ∃i,i<s.n/\(s.g i).Cost<0:=fun⟨k,h1,d⟩=>by have:=a k h1;omega
 unfold AT5;rw[Ix l];by_cases d:(CJ s s.n).2=true
 .exact ifT d ⟨_,rfl,by rw[Il d]⟩
 exact ifF d ⟨_,rfl,by rw[Ix d]⟩
def By4 {s:Sl A3}(o:s.n<N)(hs:s.n<1000000000):Iy N s=some (AT5 s):=by
 refine eqR ?_;unfold Iy;refine Aq (fun i x=>x=(i:Int)/\∀j,j<i->0<=(s.g j).Cost) s.n _ o ⟨rfl,fun j a=>Kh a (by omega)⟩ ?_;rintro q i x u ⟨rfl,a⟩ d;by_cases hl:i<s.n
 .refine Ax (Ab ?_);rw[Cl2];by_cases c:(s.g i).Cost<0
  .exact ifT (by simpa using c) ⟨_,rfl,by unfold AT5;rw[Il ⟨i,hl,c⟩]⟩
  refine ifF (by simpa using c) (d hl _ ⟨Cl,fun j f=>?_⟩);by_cases e:j=i
  .subst e;omega
  exact a j (by omega)
 obtain rfl:i=s.n:=by omega
 refine Ci ?_;have b:¬ ∃i,i<s.n/\(s.g i).Cost<0:=fun⟨k,h1,v⟩=>by have:=a k h1;omega
 refine N4 (fun i x2 x3=>x3=(i:Int)/\x2=(CJ s i).1/\(CJ s i).2=false) s.n _ o ⟨rfl,rfl,rfl⟩ ?_;rintro l i x2 x3 t ⟨rfl,rfl,r⟩ m;obtain⟨r1,r2⟩:=XX i fun j f=>a j (by omega);by_cases hl:i<s.n
 .refine Ax (Ab ?_);rw[Cl2];have ew:IntKind.i64.wrap (9223372036854775807-(CJ s i).1)=AJ8-(CJ s i).1:=BK0 (by unfold AJ8 at r2;omega) (by unfold AJ8;omega);have c:=a i hl;rw[ew];by_cases h1:AJ8-(CJ s i).1<(s.g i).Cost
  .refine ifT (by simpa using h1) ⟨_,rfl,?_⟩
   have:=Al7 (s:=s) (i:=i+1) (by rw[LZ h1]) (s.n-(i+1))
   rw[show i+1+(s.n-(i+1))=s.n by omega]at this;unfold AT5;rw[Ix b,Il this]
  exact ifF (by simpa using h1) (Ab (m hl _ _ ⟨Cl,by rw[MM h1];exact BK0 (by omega) (by omega),by rw[MM h1];exact r⟩))
 obtain rfl:i=s.n:=by omega
 refine Ci ⟨_,rfl,?_⟩;unfold AT5;rw[Ix b,Ix (by simp[r])]
def XY (a:3000000<=N)(hw:E1 N=some true)(s:Sl A3):Cd N s=some true:=by
 refine eqR ?_;unfold Cd;by_cases h:(decide (300<(s.n:Int)))=true
 .exact ifT h (B4 hw ⟨_,rfl,rfl⟩)
 have hn:s.n<=300:=by simp at h;omega
 exact ifF h (B4 (By3 (by omega) (by omega)) (B4 (By4 (by omega) (by omega)) (ltX (Ay (Ay (B4 hw ⟨_,rfl,rfl⟩))))))
end Go.AM
namespace Go.AM
open Go.RowKit Go.ChangeShapes Go.WideShapes Go.ChangeAt Go.Deep Go.Proofs Go.Proofs.YtlbooedblpdmaaaGreatDoor
set_option maxRecDepth 100000
def AI0 (x:A3):Prop:=((Lit.int .i64 x.Entry).wf=true)/\((Lit.int .i64 x.Leaf).wf=true)/\((Lit.int .i64 x.Kind).wf=true)/\((Lit.int .i64 x.Cost).wf=true)
def Ma (x:A3):Nat:=1+1+1+1+1
def XZ:Py Tryz.prog B5 A9 AI0 Ma:=by intro m pvs h;obtain⟨m0,h,a⟩:=W8 Tryz.underlying56 h;obtain⟨a0,b0,p0,q0,rfl,b,h,c⟩:=E3 h;obtain⟨x0,l0,w0,s0⟩:=N9 Cq7 _ _ b;have s0:1<=a0:=s0;obtain⟨a1,b1,p1,q1,rfl,h1,h,d⟩:=E3 h;obtain⟨x1,l1,w1,s1⟩:=N9 Cq7 _ _ h1;have s1:1<=a1:=s1;obtain⟨a2,b2,p2,q2,rfl,f,h,g⟩:=E3 h;obtain⟨x2,l2,w2,s2⟩:=N9 Cq7 _ _ f;have s2:1<=a2:=s2;obtain⟨a3,b3,p3,q3,rfl,i,h,j⟩:=E3 h;obtain⟨x3,l3,w3,s3⟩:=N9 CJ7 _ _ i;have s3:1<=a3:=s3;obtain rfl:=BI h;exact⟨⟨x0,x1,x2,x3⟩,LeDs.append l0 (LeDs.append l1 (LeDs.append l2 (LeDs.append l3 LeDs.nil))),⟨w0,w1,w2,w3⟩,by simp only[Ma];omega⟩
end Go.AM
namespace Go.AM
open Go.RowKit Go.ChangeShapes Go.WideShapes Go.ChangeAt Go.Deep Go.Proofs Go.Proofs.YtlbooedblpdmaaaGreatDoor
namespace AtCosts
set_option maxRecDepth 100000
def contract (H:Type)(enc:TypeId×Value->H)(W:World)(base:Nat)(args:Array Value)(ds gs:List (DataW H))(before:List MemPlace)
 (a:∀(j:Nat) t v,Tryz.f8.params[j]? = some t->args[j]? = some v->Value.okWide Tryz.prog W .any base t v)
 (o:DataW.Whole enc Tryz.prog Tryz.f8.params.toList Rows.attestCostsSpec.vars false W args.toList ds gs before) (hk:Rows.uptoSmall H (ds++gs)=true) (hL:laidMetH Tryz.prog Rows.attestCostsUptoRow.laid W) :
 Calls Tryz.prog 8 args W fun e W'=>∃v,e=.returned v/\Rows.attestCostsSpec.post enc Tryz.prog Tryz.f8 false true false false W args v W':=by
 have b:=o;obtain⟨p,q,c,s,rfl,u,w⟩:=o;have r:DataW.TrodAll enc Tryz.prog W 0 (fun _=>true) true Tryz.f8.params.toList args.toList ds p:=c;rw[CY1]at r a;obtain⟨v0,vs0,d0,ds0,p0,q0,d,rfl,rfl,x,r0⟩:=trodAll_cons r;obtain⟨rfl,rfl,rfl⟩:=trodAll_nil r0;obtain rfl:args = #[v0]:=by cases args;simp_all
 obtain⟨rfl,rfl⟩:=trodVars_none s;have hb:=of_decide_eq_true hk;simp only[Cn0,Rows.uptoBulkAll]at hb;obtain⟨a0,len0,cap0,f⟩:=okWide_slice Tryz.underlying32 (a 0 32 v0 rfl rfl);obtain⟨fu0,g0⟩:=x;have y:SJ Tryz.prog [32,56,3,2]=true:=by kernel_rfl
 have l:∀t∈([32,56,3,2]:List Nat),t<Tryz.prog.types.size:=by decide +kernel
 obtain⟨pv0,c0,sh0⟩:=I1 GG GH y l fu0 32 _ _ (by simp) g0;obtain⟨x0,l0,w0,s0⟩:=H1 Tryz.underlying32 (by kernel_rfl) XZ _ _ sh0;have s0:(EK (fun i=>Ma (x0.g i)) x0.n+1)<=Rows.uptoBulk d0:=s0;have e0:=CU (by rw[f];rfl) (c0.leD l0);have z:FunO (Jw Tryz.prog) Eu [.p (vSl 4 A9 x0)] [] (.p (.bb true)) [] []:=
  Sf (BB9 _) Ca4 (XY (N:=4194304) (by omega) Em x0)
 have hc:=Ah (args:=[vSl 4 A9 x0]) (enters_of Tryz.func8 (by decide +kernel) rfl) z (W:=W) (vs:=#[v0]) (OM hL) rfl (fun i hi=>by
  match i,hi with
  |0,_=>exact e0
  )
 refine hc.mono fun e W' ⟨he,m⟩=>?_;subst he;exact⟨_,rfl,IP rfl (by kernel_rfl) Cs7 (by kernel_rfl) (by rw[CY1];decide +kernel) b rfl m⟩
def own:ownKnob Tryz.prog.godebug=none:=by kernel_rfl
def reads (os:Os){H:Type}(enc:TypeId×Value->H):∃places,DataW.whole enc Tryz.prog ((World.laidAll Tryz.prog os Rows.attestCostsUptoRow.laid).forCall (fun _ _=>0) ⟨#[],#[.slice none 0 0],[]⟩).memory Tryz.f8.params.toList Rows.attestCostsSpec.vars false (#[.slice none 0 0]:Array Value).toList 16=some ([.nil],[],places):=
 ⟨[],by kernel_rfl⟩
def laid_met (os:Os):laidMet Tryz.prog Rows.attestCostsUptoRow.laid ((World.laidAll Tryz.prog os Rows.attestCostsUptoRow.laid).forCall (fun _ _=>0) ⟨#[],#[.slice none 0 0],[]⟩).memory:=
 laidMet_laidAll _ (by kernel_rfl) (by kernel_rfl)
def liftedUpto (os:Os)(started:os.Started)(H:Type)(enc:TypeId×Value->H)(F:Stop.Interp) :ReturnsInHanded {} Tryz.checked os 8 .any ((Rows.OpenSpec.upto Rows.attestCostsSpec).preRow enc Tryz.prog Tryz.f8 Rows.attestCostsUptoRow.domain false Rows.attestCostsUptoRow.laid) (((Rows.OpenSpec.upto Rows.attestCostsSpec).at F).post enc Tryz.prog Tryz.f8 false true false false):=by
 obtain⟨places,hx⟩:=reads os enc;refine returnsInHanded_of_row (C:=Tryz.checked) (s:=Rows.OpenSpec.upto Rows.attestCostsSpec) own started (by kernel_rfl) Tryz.func8
  (witness_row_at (enc:=enc) (C:=Tryz.checked) false (World.laidAll Tryz.prog os Rows.attestCostsUptoRow.laid) #[.slice none 0 0] (World.laidAll_os _ _ _) (by kernel_rfl) (by kernel_rfl) (by kernel_rfl)
   (Cu3 16 hx (by kernel_rfl) (fun k hk=>by cases hk;kernel_rfl) (by kernel_rfl) (laid_met os))) ?_
 intro W base args ds gs before b c _ a _ hL _ _;exact contract H enc W base args ds gs before b c (a _ rfl) hL
def gA:jA_ Tryz.pinned.checked.prog 8 Tryz.f8 (Rows.OpenSpec.upto Rows.attestCostsSpec).bare Rows.attestCostsUptoRow=true:=by kernel_rfl
def gB:jB_ Tryz.pinned.checked.prog 8 Tryz.f8 (Rows.OpenSpec.upto Rows.attestCostsSpec).bare Rows.attestCostsUptoRow=true:=by kernel_rfl
def gC:jC_ Tryz.pinned.checked.prog 8 Tryz.f8 (Rows.OpenSpec.upto Rows.attestCostsSpec).bare Rows.attestCostsUptoRow=true:=by kernel_rfl
def gD:jD_ Tryz.pinned.checked.prog 8 Tryz.f8 (Rows.OpenSpec.upto Rows.attestCostsSpec).bare Rows.attestCostsUptoRow=true:=by kernel_rfl
def gE:jE_ Tryz.pinned.checked.prog 8 Tryz.f8 (Rows.OpenSpec.upto Rows.attestCostsSpec).bare Rows.attestCostsUptoRow=true:=by kernel_rfl
def gF:jF_ Tryz.pinned.checked.prog 8 Tryz.f8 (Rows.OpenSpec.upto Rows.attestCostsSpec).bare Rows.attestCostsUptoRow=true:=by kernel_rfl
def saidUpto:Rows.AttestCostsUptoSaid:=
 Cv0 8 Tryz.f8 rfl rfl rfl rfl rfl rfl rfl ⟨rfl,rfl,rfl,rfl,rfl⟩ rfl rfl rfl rfl rfl (by kernel_rfl) Tryz.func8 (Gm gA gB gC gD gE gF)
  (of_decide_eq_true (by kernel_rfl)) (by unfold Func.isWrapper;first|(rw[Il (by decide +kernel)];kernel_rfl)|(rw[Ix (by decide +kernel)];exact⟨rfl,rfl⟩))
  (fun os started H enc _ F=>by rw[Cv7];exact liftedUpto os started H enc F)
def plain (f:FuncId)(fn:Func)(b:Tryz.pinned.checked.prog.funcNamed "ablaut/ablautlaw26.AttestCosts" = some f)(a:Tryz.pinned.checked.prog.funcs[f]? = some fn) :true=Tryz.pinned.checked.prog.looks []/\∀(j:Nat) t,fn.params[j]? = some t->Tryz.pinned.checked.prog.wantsStandIn t=false:=by
 obtain rfl:f=8:=Cm3 ((show Tryz.prog.funcNamed "ablaut/ablautlaw26.AttestCosts" = some 8 by kernel_rfl).symm.trans b) |>.symm;obtain rfl:fn=Tryz.f8:=(Cm3 (Tryz.func8.symm.trans a)).symm;refine⟨by kernel_rfl,fun j t ht=>?_⟩;rw[CY1]at ht;have hm:=Ct1 ht;simp only[Cz8,Co1,CA5,or_false]at hm;rcases hm with rfl
 exact (show Tryz.prog.wantsStandIn 32=false by kernel_rfl)
def cardUpto:Rows.AttestCostsUptoCardSaid:=
 Cr8 .later [] _ _ _ _ saidUpto (fun _ h=>by cases h) (by kernel_rfl) (fun _ h=>by cases h) attestCostsUpto_row_tie rfl ⟨rfl,rfl⟩ (by kernel_rfl) rfl plain (by kernel_rfl)
end AtCosts
end Go.AM
