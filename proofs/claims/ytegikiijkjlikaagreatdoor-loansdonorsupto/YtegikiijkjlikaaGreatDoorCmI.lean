/- What a law's walk and its plain proof need, part 9: no condition of its own. -/
import Derived.Test.YtegikiijkjlikaaGreatDoorCmD
import Derived.Test.YtegikiijkjlikaaGreatDoorCmE
import Derived.Test.YtegikiijkjlikaaGreatDoorCards
import Derived.Test.YtegikiijkjlikaaGreatDoorTie
import Derived.WalkKit
import Derived.ProofKit
import Derived.OpenShut
import Derived.Deep.DeepHandedRow
import Derived.MakeChecks
import Derived.Lib.LaidTab
import Derived.Test.YtegikiijkjlikaaGreatDoorCmG
import Derived.Test.YtegikiijkjlikaaGreatDoorCmH
set_option linter.defProp false
set_option linter.unusedSimpArgs false
set_option linter.unusedVariables false
set_option linter.unusedSectionVars false
set_option linter.unusedVariables false
namespace Go.AM
def AW3:=@Go.Proofs.Tryz.underlying3
def Bb4:=@Go.Proofs.Tryz.underlying80
def Bb6:=@Go.Proofs.Tryz.underlying4
def Bd0:=@Go.Proofs.Tryz.underlying9
def Be2:=@Go.Proofs.Tryz.underlying77
def Be3:=@Go.Proofs.Tryz.underlying23
open Go.RowKit Go.ChangeShapes Go.WideShapes Go.ChangeAt Go.Deep Go.Proofs Go.Proofs.YtegikiijkjlikaaGreatDoor
theorem Az1:Kids Tryz.prog (· < Tryz.prog.types.size):=kids_rows (by kernel_rfl) (by kernel_rfl)
theorem QS {H:Type}:∀es:List (DataW H),TR (es.map Rows.uptoBulk)=Rows.uptoBulkAll es
 |[]=>rfl
 |d::r=>by simp only[AU8,RH,Rows.uptoBulkAll,QS r]
theorem Az2 {H:Type}:Bulk (H:=H) Rows.uptoBulk where
 int k n:=by simp[Rows.uptoBulk]
 bool b:=by simp[Rows.uptoBulk]
 str l:=by simp[Rows.uptoBulk]
 nil:=by simp[Rows.uptoBulk]
 slice es sp:=by simp only[Rows.uptoBulk,QS];omega
 agg ps:=by simp only[Rows.uptoBulk,QS];omega
section
variable {H:Type}{enc:TypeId×Value->H}{P:Program}{W:World}
theorem Az3 {v:Value}{x:PV}(hv:v.cells.toList=[v])(h:CRep W v.cells.toList [x]):RepP W (fun _ _=>False) v x:=by
 have:=(h.2 0 (by simp)).1
 rw[hv]at this;exact this
theorem ZE {cs:Array Value}{pvs:List PV}(h:CRep W (Value.agg cs).cells.toList pvs):RepP W (fun _ _=>False) (.agg cs) (.agg pvs):=by
 obtain⟨h1,h2⟩:=h;have hc:(Value.agg cs).cells.toList=cs.toList:=rfl;rw[hc]at h1 h2;have e:∀i,cs.toList.getD i undef=cs.getD i undef:=fun i=>by simp[AR7,AR9]
 exact .agg cs pvs (by simpa using h1) (fun i hi=>by rw[<- e];exact (h2 i hi).2) fun i hi=>by rw[<- e];exact (h2 i hi).1
end
theorem Au9 {n:Int}(hw:(Lit.int .u32 n).wf=true):∃p:BitVec 32,n=(p.toNat:Int):=by
 simp only[Lit.wf,IntKind.min,IntKind.max,IntKind.signed,IntKind.bits,AS3,decide_eq_true_eq]at hw;refine⟨BitVec.ofNat 32 n.toNat,?_⟩;rw[Bj8];have h0:0<=n:=by have:=hw.1;simpa using this
 have h1:n<4294967296:=by have:=hw.2;simp at this;omega
 rw[Ba5 (by omega),Int.toNat_of_nonneg h0]
theorem Az4 {W:World}(hL:laidMetH Tryz.prog Rows.loansPlacesUptoRow.laid W):TabOk Tryz.prog W fun _ _=>False:=by
 rw[MakeChecks.laidMetH_plain _ _ _ (by kernel_rfl)]at hL;have hT:Lib.TabIs Tryz.prog W "math/bits.deBruijn64tab" .u8 (Lib.deBruijn64tab.map fun (n:Nat)=>(n:Int)):=by refine Lib.tabIs_of_head (g:=3) (t:=(Tryz.prog.globals[3]?.map (·.type)).getD 0) (e:=(match Tryz.prog.underlying ((Tryz.prog.globals[3]?.map (·.type)).getD 0)with|some (.array _ e)=>e|_=>0)) (n:=64) (by kernel_rfl) (by kernel_rfl) (by kernel_rfl) (by kernel_rfl) (by kernel_rfl) (by kernel_rfl) (rest:=Rows.loansPlacesUptoRow.laid.tail) ?_;exact hL
 intro g s j v hs hv;have h3:g=3:=by
  have key:∀k:Fin Tryz.prog.globals.size,((Tryz.prog.globals[k.1]?.map fun s=>s.name == "math/bits.deBruijn64tab")==some true)=true->k.1=3:=by decide +kernel
  have hg:g<Tryz.prog.globals.size:=(AS7.1 hs).1;refine key ⟨g,hg⟩ ?_
  have:(s.name == "math/bits.deBruijn64tab")=true:=by
   unfold Wh at hv;split at hv
   ·assumption
   ·simp at hv
  simp[hs,this]
 subst h3;unfold Wh at hv;split at hv
 ·rw[AS5]at hv;obtain⟨n,hn,rfl⟩:=AT9.1 hv;have hj:j<Lib.deBruijn64tab.length:=(AS9.1 hn).1;refine⟨?_,fun h=>h⟩;rw[hT.cell (by kernel_rfl) j (by simpa using hj)];simp[AR7,AS5,hn]
 ·simp at hv
end Go.AM
set_option linter.unusedVariables false
namespace Go.AM
open Go.RowKit Go.ChangeShapes Go.WideShapes Go.ChangeAt Go.Deep Go.Proofs Go.Proofs.YtegikiijkjlikaaGreatDoor
set_option maxRecDepth 100000
def EX (x:Sound):Prop:=((Lit.int .u32 x.Plus).wf=true)/\((Lit.int .u32 x.Minus).wf=true)
def Z3 (x:Sound):Nat:=1+1+1
theorem Dm:Ki Tryz.prog A8 A0 EX Z3:=by intro m pvs h;obtain⟨m0,h,hm0⟩:=AK Tryz.underlying79 h;obtain⟨a0,b0,p0,q0,rfl,h0,h,hm1⟩:=C7 h;obtain⟨x0,l0,w0,s0⟩:=Q5 Be2 _ _ h0;have s0:1<=a0:=s0;obtain⟨a1,b1,p1,q1,rfl,h1,h,hm2⟩:=C7 h;obtain⟨x1,l1,w1,s1⟩:=Q5 Be2 _ _ h1;have s1:1<=a1:=s1;obtain rfl:=By h;exact⟨⟨x0,x1⟩,LeDs.append l0 (LeDs.append l1 LeDs.nil),⟨w0,w1⟩,by simp only[Z3];omega⟩
theorem Xq {x:Sound}(h:EX x):okS x:=by obtain⟨p,hp⟩:=Au9 h.1;obtain⟨q,hq⟩:=Au9 h.2;exact⟨p,q,by cases x;simp_all [sOf]⟩
abbrev Xr (x:Pat):Prop:=okPS x
abbrev TM (x:Pat):Nat:=1
theorem TN:Ki Tryz.prog Eg B3 Xr TM:=by
 intro m
 induction m using Nat.strongRecOn with
 |ind m ih=>
 intro pvs h;obtain⟨m0,h,hm0⟩:=AK Tryz.underlying82 h;obtain⟨a0,b0,p0,q0,rfl,h0,h,hm1⟩:=C7 h;obtain⟨x0,l0,w0,s0⟩:=Q5 AW3 _ _ h0;have s0:1<=a0:=s0;obtain⟨a1,b1,p1,q1,rfl,h1,h,hm2⟩:=C7 h;obtain⟨x1,l1,w1,s1⟩:=Dm _ _ h1;have s1:Z3 x1<=a1:=s1;obtain⟨a2,b2,p2,q2,rfl,h2,h,hm3⟩:=C7 h;obtain⟨x2,l2,w2,s2⟩:=Yh Bb6 _ _ h2;have s2:1<=a2:=s2;obtain⟨a3,b3,p3,q3,rfl,h3,h,hm4⟩:=C7 h;obtain⟨x3,l3,w3,s3⟩:=Q5 AW3 _ _ h3;have s3:1<=a3:=s3;obtain⟨a4,b4,p4,q4,rfl,h4,h,hm5⟩:=C7 h;obtain⟨x4,l4,w4,s4⟩:=Q5 AW3 _ _ h4;have s4:1<=a4:=s4;obtain⟨a5,b5,p5,q5,rfl,h5,h,hm6⟩:=C7 h;obtain rfl:=By h;have hcell:Tryz.prog.cellsOf 82=7:=by kernel_rfl
 cases h5 with
 |int ht'=>rw[Bb4]at ht';cases ht'
 |bool ht'=>rw[Bb4]at ht';cases ht'
 |str ht'=>rw[Bb4]at ht';cases ht'
 |struct ht'=>rw[Bb4]at ht';cases ht'
 |arr ht'=>rw[Bb4]at ht';cases ht'
 | @slice _ _ e' n f ms ht' hl hel hm=>rw[Bb4]at ht';cases ht';rw[hcell];rw[Oy]at hm;obtain⟨g,hg⟩:=choose_lt (α:=Pat) (p:=fun i x=>LeDs (f i) (B3 x)/\Xr x/\1<=ms i) fun i hi=>ih (ms i) (by have:=Qc ms hi;omega) _ (hel i hi);exact⟨.mk x0 x1 x2 x3 x4 n g,LeDs.append l0 (LeDs.append l1 (LeDs.append l2 (LeDs.append l3 (LeDs.append l4 (.cons (.sl fun i hi=>(hg i hi).1) .nil))))),⟨Xq w1,fun i hi=>(hg i hi).2.1⟩,by show 1<=m;omega⟩
def Wa (x:AW):Prop:=((Lit.int .i64 x.From).wf=true)/\((Lit.int .u32 x.Clear).wf=true)/\(EX x.Set)/\((Lit.int .u32 x.Take).wf=true)/\((Lit.int .i64 x.Of).wf=true)
def Js (x:AW):Nat:=1+1+Z3 x.Set+1+1+1
theorem Zw:Ki Tryz.prog Af0 O1 Wa Js:=by intro m pvs h;obtain⟨m0,h,hm0⟩:=AK Tryz.underlying125 h;obtain⟨a0,b0,p0,q0,rfl,h0,h,hm1⟩:=C7 h;obtain⟨x0,l0,w0,s0⟩:=Q5 AW3 _ _ h0;have s0:1<=a0:=s0;obtain⟨a1,b1,p1,q1,rfl,h1,h,hm2⟩:=C7 h;obtain⟨x1,l1,w1,s1⟩:=Q5 Be2 _ _ h1;have s1:1<=a1:=s1;obtain⟨a2,b2,p2,q2,rfl,h2,h,hm3⟩:=C7 h;obtain⟨x2,l2,w2,s2⟩:=Dm _ _ h2;have s2:Z3 x2<=a2:=s2;obtain⟨a3,b3,p3,q3,rfl,h3,h,hm4⟩:=C7 h;obtain⟨x3,l3,w3,s3⟩:=Q5 Be2 _ _ h3;have s3:1<=a3:=s3;obtain⟨a4,b4,p4,q4,rfl,h4,h,hm5⟩:=C7 h;obtain⟨x4,l4,w4,s4⟩:=Q5 AW3 _ _ h4;have s4:1<=a4:=s4;obtain rfl:=By h;exact⟨⟨x0,x1,x2,x3,x4⟩,LeDs.append l0 (LeDs.append l1 (LeDs.append l2 (LeDs.append l3 (LeDs.append l4 LeDs.nil)))),⟨w0,w1,w2,w3,w4⟩,by simp only[Js];omega⟩
def Xs (x:Law):Prop:=(True)/\(Xr x.Left)/\(Xr x.Right)/\(∀i,i<x.If.n->EX (x.If.g i))/\(∀i,i<x.Out.n->Wa (x.Out.g i))/\((Lit.int .i64 x.Mode).wf=true)
def IK (x:Law):Nat:=(x.Name.length+1)+TM x.Left+TM x.Right+(Fo (fun i=>Z3 (x.If.g i)) x.If.n+1)+(Fo (fun i=>Js (x.Out.g i)) x.Out.n+1)+1+1
theorem Ak1:Ki Tryz.prog H2 A5 Xs IK:=by intro m pvs h;obtain⟨m0,h,hm0⟩:=AK Tryz.underlying85 h;obtain⟨a0,b0,p0,q0,rfl,h0,h,hm1⟩:=C7 h;obtain⟨x0,l0,w0,s0⟩:=Se Bd0 _ _ h0;have s0:(x0.length+1)<=a0:=s0;obtain⟨a1,b1,p1,q1,rfl,h1,h,hm2⟩:=C7 h;obtain⟨x1,l1,w1,s1⟩:=TN _ _ h1;have s1:TM x1<=a1:=s1;obtain⟨a2,b2,p2,q2,rfl,h2,h,hm3⟩:=C7 h;obtain⟨x2,l2,w2,s2⟩:=TN _ _ h2;have s2:TM x2<=a2:=s2;obtain⟨a3,b3,p3,q3,rfl,h3,h,hm4⟩:=C7 h;obtain⟨x3,l3,w3,s3⟩:=V6 Be3 (by kernel_rfl) Dm _ _ h3;have s3:(Fo (fun i=>Z3 (x3.g i)) x3.n+1)<=a3:=s3;obtain⟨a4,b4,p4,q4,rfl,h4,h,hm5⟩:=C7 h;obtain⟨x4,l4,w4,s4⟩:=V6 Tryz.underlying83 (by kernel_rfl) Zw _ _ h4;have s4:(Fo (fun i=>Js (x4.g i)) x4.n+1)<=a4:=s4;obtain⟨a5,b5,p5,q5,rfl,h5,h,hm6⟩:=C7 h;obtain⟨x5,l5,w5,s5⟩:=Q5 AW3 _ _ h5;have s5:1<=a5:=s5;obtain rfl:=By h;exact⟨⟨x0,x1,x2,x3,x4,x5⟩,LeDs.append l0 (LeDs.append l1 (LeDs.append l2 (LeDs.append l3 (LeDs.append l4 (LeDs.append l5 LeDs.nil))))),⟨w0,w1,w2,w3,w4,w5⟩,by simp only[IK];omega⟩
end Go.AM
set_option linter.unusedVariables false
namespace Go.AM
theorem TO {f:Nat->Nat}(h:∀i,1<=f i):∀n,n<=Fo f n
 |0=>Ba0 _
 |n+1=>by
  have:=TO h n
  have:=h n
  show n+1<=Fo f n+f n;omega
theorem AQ7 {x:AW}(h:Wa x):okO x:=⟨Xq h.2.2.1,Au9 h.2.1,Au9 h.2.2.2.1⟩
theorem Av0 {l:Law}(h:Xs l)(hs:IK l<=1048576):Ku l:=by obtain⟨_,h1,h2,h3,h4,_⟩:=h;unfold IK at hs;have g1:=TO (f:=fun i=>Z3 (l.If.g i)) (fun i=>by simp only[Z3];omega) l.If.n;have g2:=TO (f:=fun i=>Js (l.Out.g i)) (fun i=>by simp only[Js];omega) l.Out.n;exact⟨⟨h1,h2,fun i hi=>Xq (h3 i hi)⟩,by omega,by omega,by omega,fun i hi=>AQ7 (h4 i hi)⟩
theorem Ak2 {x:Sl Law}(h:∀i,i<x.n->Xs (x.g i))(hs:Fo (fun i=>IK (x.g i)) x.n+1<=1048576):T2 x:=fun i hi=>
 Av0 (h i hi) (by have:=Qc (fun i=>IK (x.g i)) hi;have this:IK (x.g i)<=_:=this;omega)
theorem Av2 {x:Sl Sound}(h:∀i,i<x.n->EX (x.g i)):okA x:=fun i hi=>Xq (h i hi)
end Go.AM
set_option linter.unusedVariables false
namespace Go.AM
open Go.RowKit Go.ChangeShapes Go.WideShapes Go.ChangeAt Go.Deep Go.Proofs Go.Proofs.YtegikiijkjlikaaGreatDoor
set_option maxRecDepth 100000
theorem Xu {P:Program}{w:World}{r:Reach}{base:Nat}{t:TypeId}{v:Value}{n:Nat}{e:TypeId}(ht:P.underlying t=some (.array n e))(h:Value.okWide P w r base t v):∃cs,v=.agg cs/\cs.size=P.cellsOf t:=by simp only[Value.okWide,ht]at h;obtain⟨cs,h1,h2,_⟩:=h;exact⟨cs,h1,h2⟩
def Ak3 (x:DF):Prop:=((Lit.int .i64 x.Parent).wf=true)/\(True)
def Gi (x:DF):Nat:=1+(x.Name.length+1)+1
theorem Zx:Ki Tryz.prog YJ U4 Ak3 Gi:=by intro m pvs h;obtain⟨m0,h,hm0⟩:=AK Tryz.underlying112 h;obtain⟨a0,b0,p0,q0,rfl,h0,h,hm1⟩:=C7 h;obtain⟨x0,l0,w0,s0⟩:=Q5 AW3 _ _ h0;have s0:1<=a0:=s0;obtain⟨a1,b1,p1,q1,rfl,h1,h,hm2⟩:=C7 h;obtain⟨x1,l1,w1,s1⟩:=Se Bd0 _ _ h1;have s1:(x1.length+1)<=a1:=s1;obtain rfl:=By h;exact⟨⟨x0,x1⟩,LeDs.append l0 (LeDs.append l1 LeDs.nil),⟨w0,w1⟩,by simp only[Gi];omega⟩
def Pt (x:B1):Prop:=(∀i,i<x.Tree.n->Ak3 (x.Tree.g i))/\(∀i,i<x.Laws.n->Xs (x.Laws.g i))/\(∀i,i<x.On.n->∀i',i' < (x.On.g i).n->(Lit.int .i64 ((x.On.g i).g i')).wf=true)
def DR (x:B1):Nat:=(Fo (fun i=>Gi (x.Tree.g i)) x.Tree.n+1)+(Fo (fun i=>IK (x.Laws.g i)) x.Laws.n+1)+(Fo (fun i=>Fo (fun i=>1) (x.On.g i).n+1) x.On.n+1)+1
theorem Pu:Ki Tryz.prog Qu B2 Pt DR:=by intro m pvs h;obtain⟨m0,h,hm0⟩:=AK Tryz.underlying62 h;obtain⟨a0,b0,p0,q0,rfl,h0,h,hm1⟩:=C7 h;obtain⟨x0,l0,w0,s0⟩:=V6 Tryz.underlying59 (by kernel_rfl) Zx _ _ h0;have s0:(Fo (fun i=>Gi (x0.g i)) x0.n+1)<=a0:=s0;obtain⟨a1,b1,p1,q1,rfl,h1,h,hm2⟩:=C7 h;obtain⟨x1,l1,w1,s1⟩:=V6 Tryz.underlying22 (by kernel_rfl) Ak1 _ _ h1;have s1:(Fo (fun i=>IK (x1.g i)) x1.n+1)<=a1:=s1;obtain⟨a2,b2,p2,q2,rfl,h2,h,hm3⟩:=C7 h;obtain⟨x2,l2,w2,s2⟩:=V6 Tryz.underlying60 (by kernel_rfl) (V6 Tryz.underlying26 (by kernel_rfl) (Q5 AW3)) _ _ h2;have s2:(Fo (fun i=>Fo (fun i=>1) (x2.g i).n+1) x2.n+1)<=a2:=s2;obtain rfl:=By h;exact⟨⟨x0,x1,x2⟩,LeDs.append l0 (LeDs.append l1 (LeDs.append l2 LeDs.nil)),⟨w0,w1,w2⟩,by simp only[DR];omega⟩
def IL (x:Q9):Prop:=(∀i,i<x.a0.n->EX (x.a0.g i))/\(∀i,i<x.a1.n->EX (x.a1.g i))
def AX (x:Q9):Nat:=(Fo (fun i=>Z3 (x.a0.g i)) x.a0.n+1)+(Fo (fun i=>Z3 (x.a1.g i)) x.a1.n+1)+1
theorem Fp:Ki Tryz.prog 63 X4 IL AX:=by intro m pvs h;obtain⟨m0,h,hm0⟩:=Ad4 Tryz.underlying63 h;obtain⟨a0,b0,p0,q0,rfl,h0,h,hm1⟩:=C7 h;obtain⟨x0,l0,w0,s0⟩:=V6 Be3 (by kernel_rfl) Dm _ _ h0;have s0:(Fo (fun i=>Z3 (x0.g i)) x0.n+1)<=a0:=s0;obtain⟨a1,b1,p1,q1,rfl,h1,h,hm2⟩:=C7 h;obtain⟨x1,l1,w1,s1⟩:=V6 Be3 (by kernel_rfl) Dm _ _ h1;have s1:(Fo (fun i=>Z3 (x1.g i)) x1.n+1)<=a1:=s1;obtain rfl:=By h;exact⟨⟨x0,x1⟩,LeDs.append l0 (LeDs.append l1 LeDs.nil),⟨w0,w1⟩,by simp only[AX];omega⟩
end Go.AM
set_option linter.unusedVariables false
namespace Go.AM
theorem ZF {h:B1}(w:Pt h)(hs:DR h<=1048576):Cq h:=by
 unfold DR at hs;have g:=TO (f:=fun i=>Fo (fun i=>1) (h.On.g i).n+1) (fun i=>by omega) h.On.n;refine⟨Ak2 w.2.1 (by omega),fun v hv=>?_,by omega,fun v hv=>?_⟩
 ·have:=Qc (fun i=>Gi (h.Tree.g i)) hv
  have this:Gi (h.Tree.g v)<=Fo (fun i=>Gi (h.Tree.g i)) h.Tree.n:=this;have e:Gi (h.Tree.g v)=1+((h.Tree.g v).Name.length+1)+1:=rfl;omega
 ·have g2:=Qc (fun i=>Fo (fun i=>1) (h.On.g i).n+1) hv;have g2:Fo (fun i=>1) (h.On.g v).n+1<=_:=g2;have g3:=TO (f:=fun _=>1) (fun i=>by omega) (h.On.g v).n;omega
end Go.AM
