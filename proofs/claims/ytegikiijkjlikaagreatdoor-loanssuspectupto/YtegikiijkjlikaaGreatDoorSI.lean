/- What a law's walk and its plain proof need, part 9: no condition of its own. -/
import Derived.Test.YtegikiijkjlikaaGreatDoorSD
import Derived.Test.YtegikiijkjlikaaGreatDoorSE
import Derived.Test.YtegikiijkjlikaaGreatDoorCards
import Derived.Test.YtegikiijkjlikaaGreatDoorTie
import Derived.WalkKit
import Derived.ProofKit
import Derived.OpenShut
import Derived.Deep.DeepHandedRow
import Derived.MakeChecks
import Derived.Lib.LaidTab
import Derived.Test.YtegikiijkjlikaaGreatDoorSG
import Derived.Test.YtegikiijkjlikaaGreatDoorSH
set_option linter.defProp false
set_option linter.unusedSimpArgs false
set_option linter.unusedVariables false
set_option linter.unusedSectionVars false
namespace Go.AM
def Bd9:=@Go.Proofs.Tryz.underlying3
def Bg5:=@Go.Proofs.Tryz.underlying4
def Bi0:=@Go.Proofs.Tryz.underlying80
def Bi5:=@Go.Proofs.Tryz.underlying9
def Bl0:=@Go.Proofs.Tryz.underlying77
def Bn0:=@Go.Proofs.Tryz.underlying70
def Bn4:=@Go.Proofs.Tryz.underlying23
open Go.RowKit Go.ChangeShapes Go.WideShapes Go.ChangeAt Go.Deep Go.Proofs Go.Proofs.YtegikiijkjlikaaGreatDoor
theorem AF1:Kids Tryz.prog (· < Tryz.prog.types.size):=kids_rows (by kernel_rfl) (by kernel_rfl)
theorem RV {H:Type}:∀es:List (DataW H),UP (es.map Rows.uptoBulk)=Rows.uptoBulkAll es
 |[]=>rfl
 |d::r=>by simp only[Bb4,SO,Rows.uptoBulkAll,RV r]
theorem AF2 {H:Type}:Bulk (H:=H) Rows.uptoBulk where
 int k n:=by simp[Rows.uptoBulk]
 bool b:=by simp[Rows.uptoBulk]
 str l:=by simp[Rows.uptoBulk]
 nil:=by simp[Rows.uptoBulk]
 slice es sp:=by simp only[Rows.uptoBulk,RV];omega
 agg ps:=by simp only[Rows.uptoBulk,RV];omega
section
variable {H:Type}{enc:TypeId×Value->H}{P:Program}{W:World}
theorem Ad4 {v:Value}{x:PV}(hv:v.cells.toList=[v])(h:CRep W v.cells.toList [x]):RepP W (fun _ _=>False) v x:=by
 have:=(h.2 0 (by simp)).1
 rw[hv]at this;exact this
theorem AF3 {cs:Array Value}{pvs:List PV}(h:CRep W (Value.agg cs).cells.toList pvs):RepP W (fun _ _=>False) (.agg cs) (.agg pvs):=by
 obtain⟨h1,h2⟩:=h;have hc:(Value.agg cs).cells.toList=cs.toList:=rfl;rw[hc]at h1 h2;have e:∀i,cs.toList.getD i undef=cs.getD i undef:=fun i=>by simp[AY4,AY5]
 exact .agg cs pvs (by simpa using h1) (fun i hi=>by rw[<- e];exact (h2 i hi).2) fun i hi=>by rw[<- e];exact (h2 i hi).1
end
theorem AB2 {n:Int}(hw:(Lit.int .u32 n).wf=true):∃p:BitVec 32,n=(p.toNat:Int):=by
 simp only[Lit.wf,IntKind.min,IntKind.max,IntKind.signed,IntKind.bits,AY9,decide_eq_true_eq]at hw;refine⟨BitVec.ofNat 32 n.toNat,?_⟩;rw[Bq5];have h0:0<=n:=by have:=hw.1;simpa using this
 have h1:n<4294967296:=by have:=hw.2;simp at this;omega
 rw[Bg7 (by omega),Int.toNat_of_nonneg h0]
theorem AF4 {W:World}(hL:laidMetH Tryz.prog Rows.loansPlacesUptoRow.laid W):TabOk Tryz.prog W fun _ _=>False:=by
 rw[MakeChecks.laidMetH_plain _ _ _ (by kernel_rfl)]at hL;have hT:Lib.TabIs Tryz.prog W "math/bits.deBruijn64tab" .u8 (Lib.deBruijn64tab.map fun (n:Nat)=>(n:Int)):=by refine Lib.tabIs_of_head (g:=3) (t:=(Tryz.prog.globals[3]?.map (·.type)).getD 0) (e:=(match Tryz.prog.underlying ((Tryz.prog.globals[3]?.map (·.type)).getD 0)with|some (.array _ e)=>e|_=>0)) (n:=64) (by kernel_rfl) (by kernel_rfl) (by kernel_rfl) (by kernel_rfl) (by kernel_rfl) (by kernel_rfl) (rest:=Rows.loansPlacesUptoRow.laid.tail) ?_;exact hL
 intro g s j v hs hv;have h3:g=3:=by
  have key:∀k:Fin Tryz.prog.globals.size,((Tryz.prog.globals[k.1]?.map fun s=>s.name == "math/bits.deBruijn64tab")==some true)=true->k.1=3:=by decide +kernel
  have hg:g<Tryz.prog.globals.size:=(AZ3.1 hs).1;refine key ⟨g,hg⟩ ?_
  have:(s.name == "math/bits.deBruijn64tab")=true:=by
   unfold Xs at hv;split at hv
   ·assumption
   ·simp at hv
  simp[hs,this]
 subst h3;unfold Xs at hv;split at hv
 ·rw[AZ1]at hv;obtain⟨n,hn,rfl⟩:=Ba7.1 hv;have hj:j<Lib.deBruijn64tab.length:=(AZ5.1 hn).1;refine⟨?_,fun h=>h⟩;rw[hT.cell (by kernel_rfl) j (by simpa using hj)];simp[AY4,AZ1,hn]
 ·simp at hv
end Go.AM
namespace Go.AM
open Go.RowKit Go.ChangeShapes Go.WideShapes Go.ChangeAt Go.Deep Go.Proofs Go.Proofs.YtegikiijkjlikaaGreatDoor
set_option maxRecDepth 100000
def GL (x:Sound):Prop:=((Lit.int .u32 x.Plus).wf=true)/\((Lit.int .u32 x.Minus).wf=true)
def BG (x:Sound):Nat:=1+1+1
theorem Fi:JC Tryz.prog A9 A0 GL BG:=by intro m pvs h;obtain⟨m0,h,hm0⟩:=S6 Tryz.underlying79 h;obtain⟨a0,b0,p0,q0,rfl,h0,h,hm1⟩:=C5 h;obtain⟨x0,l0,w0,s0⟩:=T4 Bl0 _ _ h0;have s0:1<=a0:=s0;obtain⟨a1,b1,p1,q1,rfl,h1,h,hm2⟩:=C5 h;obtain⟨x1,l1,w1,s1⟩:=T4 Bl0 _ _ h1;have s1:1<=a1:=s1;obtain rfl:=Ba h;exact⟨⟨x0,x1⟩,LeDs.append l0 (LeDs.append l1 LeDs.nil),⟨w0,w1⟩,by simp only[BG];omega⟩
theorem YA {x:Sound}(h:GL x):okS x:=by obtain⟨p,hp⟩:=AB2 h.1;obtain⟨q,hq⟩:=AB2 h.2;exact⟨p,q,by cases x;simp_all [sOf]⟩
abbrev YB (x:Pat):Prop:=okPS x
abbrev UK (x:Pat):Nat:=1
theorem UL:JC Tryz.prog Ev B1 YB UK:=by
 intro m
 induction m using Nat.strongRecOn with
 |ind m ih=>
 intro pvs h;obtain⟨m0,h,hm0⟩:=S6 Tryz.underlying82 h;obtain⟨a0,b0,p0,q0,rfl,h0,h,hm1⟩:=C5 h;obtain⟨x0,l0,w0,s0⟩:=T4 Bd9 _ _ h0;have s0:1<=a0:=s0;obtain⟨a1,b1,p1,q1,rfl,h1,h,hm2⟩:=C5 h;obtain⟨x1,l1,w1,s1⟩:=Fi _ _ h1;have s1:BG x1<=a1:=s1;obtain⟨a2,b2,p2,q2,rfl,h2,h,hm3⟩:=C5 h;obtain⟨x2,l2,w2,s2⟩:=Pv Bg5 _ _ h2;have s2:1<=a2:=s2;obtain⟨a3,b3,p3,q3,rfl,h3,h,hm4⟩:=C5 h;obtain⟨x3,l3,w3,s3⟩:=T4 Bd9 _ _ h3;have s3:1<=a3:=s3;obtain⟨a4,b4,p4,q4,rfl,h4,h,hm5⟩:=C5 h;obtain⟨x4,l4,w4,s4⟩:=T4 Bd9 _ _ h4;have s4:1<=a4:=s4;obtain⟨a5,b5,p5,q5,rfl,h5,h,hm6⟩:=C5 h;obtain rfl:=Ba h;have hcell:Tryz.prog.cellsOf 82=7:=by kernel_rfl
 cases h5 with
 |int ht'=>rw[Bi0]at ht';cases ht'
 |bool ht'=>rw[Bi0]at ht';cases ht'
 |str ht'=>rw[Bi0]at ht';cases ht'
 |struct ht'=>rw[Bi0]at ht';cases ht'
 |arr ht'=>rw[Bi0]at ht';cases ht'
 | @slice _ _ e' n f ms ht' hl hel hm=>rw[Bi0]at ht';cases ht';rw[hcell];rw[Pu]at hm;obtain⟨g,hg⟩:=choose_lt (α:=Pat) (p:=fun i x=>LeDs (f i) (B1 x)/\YB x/\1<=ms i) fun i hi=>ih (ms i) (by have:=Me ms hi;omega) _ (hel i hi);exact⟨.mk x0 x1 x2 x3 x4 n g,LeDs.append l0 (LeDs.append l1 (LeDs.append l2 (LeDs.append l3 (LeDs.append l4 (.cons (.sl fun i hi=>(hg i hi).1) .nil))))),⟨YA w1,fun i hi=>(hg i hi).2.1⟩,by show 1<=m;omega⟩
def Xi (x:Bj):Prop:=((Lit.int .i64 x.From).wf=true)/\((Lit.int .u32 x.Clear).wf=true)/\(GL x.Set)/\((Lit.int .u32 x.Take).wf=true)/\((Lit.int .i64 x.Of).wf=true)
def JT (x:Bj):Nat:=1+1+BG x.Set+1+1+1
theorem Ac4:JC Tryz.prog Ak6 O7 Xi JT:=by intro m pvs h;obtain⟨m0,h,hm0⟩:=S6 Tryz.underlying125 h;obtain⟨a0,b0,p0,q0,rfl,h0,h,hm1⟩:=C5 h;obtain⟨x0,l0,w0,s0⟩:=T4 Bd9 _ _ h0;have s0:1<=a0:=s0;obtain⟨a1,b1,p1,q1,rfl,h1,h,hm2⟩:=C5 h;obtain⟨x1,l1,w1,s1⟩:=T4 Bl0 _ _ h1;have s1:1<=a1:=s1;obtain⟨a2,b2,p2,q2,rfl,h2,h,hm3⟩:=C5 h;obtain⟨x2,l2,w2,s2⟩:=Fi _ _ h2;have s2:BG x2<=a2:=s2;obtain⟨a3,b3,p3,q3,rfl,h3,h,hm4⟩:=C5 h;obtain⟨x3,l3,w3,s3⟩:=T4 Bl0 _ _ h3;have s3:1<=a3:=s3;obtain⟨a4,b4,p4,q4,rfl,h4,h,hm5⟩:=C5 h;obtain⟨x4,l4,w4,s4⟩:=T4 Bd9 _ _ h4;have s4:1<=a4:=s4;obtain rfl:=Ba h;exact⟨⟨x0,x1,x2,x3,x4⟩,LeDs.append l0 (LeDs.append l1 (LeDs.append l2 (LeDs.append l3 (LeDs.append l4 LeDs.nil)))),⟨w0,w1,w2,w3,w4⟩,by simp only[JT];omega⟩
def YC (x:Law):Prop:=(True)/\(YB x.Left)/\(YB x.Right)/\(∀i,i<x.If.n->GL (x.If.g i))/\(∀i,i<x.Out.n->Xi (x.Out.g i))/\((Lit.int .i64 x.Mode).wf=true)
def Ji (x:Law):Nat:=(x.Name.length+1)+UK x.Left+UK x.Right+(Ee (fun i=>BG (x.If.g i)) x.If.n+1)+(Ee (fun i=>JT (x.Out.g i)) x.Out.n+1)+1+1
theorem Ap9:JC Tryz.prog I7 A5 YC Ji:=by intro m pvs h;obtain⟨m0,h,hm0⟩:=S6 Tryz.underlying85 h;obtain⟨a0,b0,p0,q0,rfl,h0,h,hm1⟩:=C5 h;obtain⟨x0,l0,w0,s0⟩:=Mf Bi5 _ _ h0;have s0:(x0.length+1)<=a0:=s0;obtain⟨a1,b1,p1,q1,rfl,h1,h,hm2⟩:=C5 h;obtain⟨x1,l1,w1,s1⟩:=UL _ _ h1;have s1:UK x1<=a1:=s1;obtain⟨a2,b2,p2,q2,rfl,h2,h,hm3⟩:=C5 h;obtain⟨x2,l2,w2,s2⟩:=UL _ _ h2;have s2:UK x2<=a2:=s2;obtain⟨a3,b3,p3,q3,rfl,h3,h,hm4⟩:=C5 h;obtain⟨x3,l3,w3,s3⟩:=Q6 Bn4 (by kernel_rfl) Fi _ _ h3;have s3:(Ee (fun i=>BG (x3.g i)) x3.n+1)<=a3:=s3;obtain⟨a4,b4,p4,q4,rfl,h4,h,hm5⟩:=C5 h;obtain⟨x4,l4,w4,s4⟩:=Q6 Tryz.underlying83 (by kernel_rfl) Ac4 _ _ h4;have s4:(Ee (fun i=>JT (x4.g i)) x4.n+1)<=a4:=s4;obtain⟨a5,b5,p5,q5,rfl,h5,h,hm6⟩:=C5 h;obtain⟨x5,l5,w5,s5⟩:=T4 Bd9 _ _ h5;have s5:1<=a5:=s5;obtain rfl:=Ba h;exact⟨⟨x0,x1,x2,x3,x4,x5⟩,LeDs.append l0 (LeDs.append l1 (LeDs.append l2 (LeDs.append l3 (LeDs.append l4 (LeDs.append l5 LeDs.nil))))),⟨w0,w1,w2,w3,w4,w5⟩,by simp only[Ji];omega⟩
end Go.AM
namespace Go.AM
theorem UM {f:Nat->Nat}(h:∀i,1<=f i):∀n,n<=Ee f n
 |0=>Bi2 _
 |n+1=>by
  have:=UM h n
  have:=h n
  show n+1<=Ee f n+f n;omega
theorem AW9 {x:Bj}(h:Xi x):okO x:=⟨YA h.2.2.1,AB2 h.2.1,AB2 h.2.2.2.1⟩
theorem AB3 {l:Law}(h:YC l)(hs:Ji l<=1048576):La l:=by obtain⟨_,h1,h2,h3,h4,_⟩:=h;unfold Ji at hs;have g1:=UM (f:=fun i=>BG (l.If.g i)) (fun i=>by simp only[BG];omega) l.If.n;have g2:=UM (f:=fun i=>JT (l.Out.g i)) (fun i=>by simp only[JT];omega) l.Out.n;exact⟨⟨h1,h2,fun i hi=>YA (h3 i hi)⟩,by omega,by omega,by omega,fun i hi=>AW9 (h4 i hi)⟩
theorem Aq0 {x:Sl Law}(h:∀i,i<x.n->YC (x.g i))(hs:Ee (fun i=>Ji (x.g i)) x.n+1<=1048576):AE x:=fun i hi=>
 AB3 (h i hi) (by have:=Me (fun i=>Ji (x.g i)) hi;have this:Ji (x.g i)<=_:=this;omega)
theorem AX0 {x:Sl Sound}(h:∀i,i<x.n->GL (x.g i)):okA x:=fun i hi=>YA (h i hi)
end Go.AM
namespace Go.AM
open Go.RowKit Go.ChangeShapes Go.WideShapes Go.ChangeAt Go.Deep Go.Proofs Go.Proofs.YtegikiijkjlikaaGreatDoor
set_option maxRecDepth 100000
def Aq1 (x:Y4):Prop:=((Lit.int .i64 x.Parent).wf=true)/\(True)
def Gy (x:Y4):Nat:=1+(x.Name.length+1)+1
theorem Ac5:JC Tryz.prog PQ O6 Aq1 Gy:=by intro m pvs h;obtain⟨m0,h,hm0⟩:=S6 Tryz.underlying112 h;obtain⟨a0,b0,p0,q0,rfl,h0,h,hm1⟩:=C5 h;obtain⟨x0,l0,w0,s0⟩:=T4 Bd9 _ _ h0;have s0:1<=a0:=s0;obtain⟨a1,b1,p1,q1,rfl,h1,h,hm2⟩:=C5 h;obtain⟨x1,l1,w1,s1⟩:=Mf Bi5 _ _ h1;have s1:(x1.length+1)<=a1:=s1;obtain rfl:=Ba h;exact⟨⟨x0,x1⟩,LeDs.append l0 (LeDs.append l1 LeDs.nil),⟨w0,w1⟩,by simp only[Gy];omega⟩
def Qp (x:B3):Prop:=(∀i,i<x.Tree.n->Aq1 (x.Tree.g i))/\(∀i,i<x.Laws.n->YC (x.Laws.g i))/\(∀i,i<x.On.n->∀i',i' < (x.On.g i).n->(Lit.int .i64 ((x.On.g i).g i')).wf=true)
def Ed (x:B3):Nat:=(Ee (fun i=>Gy (x.Tree.g i)) x.Tree.n+1)+(Ee (fun i=>Ji (x.Laws.g i)) x.Laws.n+1)+(Ee (fun i=>Ee (fun i=>1) (x.On.g i).n+1) x.On.n+1)+1
theorem Qq:JC Tryz.prog Rs B2 Qp Ed:=by intro m pvs h;obtain⟨m0,h,hm0⟩:=S6 Tryz.underlying62 h;obtain⟨a0,b0,p0,q0,rfl,h0,h,hm1⟩:=C5 h;obtain⟨x0,l0,w0,s0⟩:=Q6 Tryz.underlying59 (by kernel_rfl) Ac5 _ _ h0;have s0:(Ee (fun i=>Gy (x0.g i)) x0.n+1)<=a0:=s0;obtain⟨a1,b1,p1,q1,rfl,h1,h,hm2⟩:=C5 h;obtain⟨x1,l1,w1,s1⟩:=Q6 Tryz.underlying22 (by kernel_rfl) Ap9 _ _ h1;have s1:(Ee (fun i=>Ji (x1.g i)) x1.n+1)<=a1:=s1;obtain⟨a2,b2,p2,q2,rfl,h2,h,hm3⟩:=C5 h;obtain⟨x2,l2,w2,s2⟩:=Q6 Tryz.underlying60 (by kernel_rfl) (Q6 Tryz.underlying26 (by kernel_rfl) (T4 Bd9)) _ _ h2;have s2:(Ee (fun i=>Ee (fun i=>1) (x2.g i).n+1) x2.n+1)<=a2:=s2;obtain rfl:=Ba h;exact⟨⟨x0,x1,x2⟩,LeDs.append l0 (LeDs.append l1 (LeDs.append l2 LeDs.nil)),⟨w0,w1,w2⟩,by simp only[Ed];omega⟩
end Go.AM
namespace Go.AM
theorem Ad5 {h:B3}(w:Qp h)(hs:Ed h<=1048576):Cx h:=by
 unfold Ed at hs;have g:=UM (f:=fun i=>Ee (fun i=>1) (h.On.g i).n+1) (fun i=>by omega) h.On.n;refine⟨Aq0 w.2.1 (by omega),fun v hv=>?_,by omega,fun v hv=>?_⟩
 ·have:=Me (fun i=>Gy (h.Tree.g i)) hv
  have this:Gy (h.Tree.g v)<=Ee (fun i=>Gy (h.Tree.g i)) h.Tree.n:=this;have e:Gy (h.Tree.g v)=1+((h.Tree.g v).Name.length+1)+1:=rfl;omega
 ·have g2:=Me (fun i=>Ee (fun i=>1) (h.On.g i).n+1) hv;have g2:Ee (fun i=>1) (h.On.g v).n+1<=_:=g2;have g3:=UM (f:=fun _=>1) (fun i=>by omega) (h.On.g v).n;omega
end Go.AM
namespace Go.AM
open Go.RowKit Go.ChangeShapes Go.WideShapes Go.ChangeAt Go.Deep Go.Proofs Go.Proofs.YtegikiijkjlikaaGreatDoor
set_option maxRecDepth 100000
def Xj (x:BP):Prop:=(True)/\(∀i,i<x.W.n->GL (x.W.g i))
def Jk (x:BP):Nat:=1+(Ee (fun i=>BG (x.W.g i)) x.W.n+1)+1
theorem OO:JC Tryz.prog ZN I4 Xj Jk:=by intro m pvs h;obtain⟨m0,h,hm0⟩:=S6 Tryz.underlying122 h;obtain⟨a0,b0,p0,q0,rfl,h0,h,hm1⟩:=C5 h;obtain⟨x0,l0,w0,s0⟩:=Pv Bg5 _ _ h0;have s0:1<=a0:=s0;obtain⟨a1,b1,p1,q1,rfl,h1,h,hm2⟩:=C5 h;obtain⟨x1,l1,w1,s1⟩:=Q6 Bn4 (by kernel_rfl) Fi _ _ h1;have s1:(Ee (fun i=>BG (x1.g i)) x1.n+1)<=a1:=s1;obtain rfl:=Ba h;exact⟨⟨x0,x1⟩,LeDs.append l0 (LeDs.append l1 LeDs.nil),⟨w0,w1⟩,by simp only[Jk];omega⟩
def YD (x:Aa):Prop:=(True)/\(∀i,i<x.Forms.n->Xj (x.Forms.g i))
def Dz (x:Aa):Nat:=(x.Gloss.length+1)+(Ee (fun i=>Jk (x.Forms.g i)) x.Forms.n+1)+1
theorem UQ:JC Tryz.prog Wg I8 YD Dz:=by intro m pvs h;obtain⟨m0,h,hm0⟩:=S6 Tryz.underlying120 h;obtain⟨a0,b0,p0,q0,rfl,h0,h,hm1⟩:=C5 h;obtain⟨x0,l0,w0,s0⟩:=Mf Bi5 _ _ h0;have s0:(x0.length+1)<=a0:=s0;obtain⟨a1,b1,p1,q1,rfl,h1,h,hm2⟩:=C5 h;obtain⟨x1,l1,w1,s1⟩:=Q6 Bn0 (by kernel_rfl) OO _ _ h1;have s1:(Ee (fun i=>Jk (x1.g i)) x1.n+1)<=a1:=s1;obtain rfl:=Ba h;exact⟨⟨x0,x1⟩,LeDs.append l0 (LeDs.append l1 LeDs.nil),⟨w0,w1⟩,by simp only[Dz];omega⟩
end Go.AM
namespace Go.AM
theorem OP {x:Sl BP}(h:∀i,i<x.n->Xj (x.g i)):HV x:=fun i hi=>AX0 (h i hi).2
theorem Ad6 {x:Sl Aa}(h:∀i,i<x.n->YD (x.g i))(hs:Ee (fun i=>Dz (x.g i)) x.n+1<=1048576):Ql x:=fun i hi=>by refine⟨OP (h i hi).2,?_⟩;have g:=Me (fun i=>Dz (x.g i)) hi;have g:Dz (x.g i)<=Ee (fun i=>Dz (x.g i)) x.n:=g;have e:Dz (x.g i)=((x.g i).Gloss.length+1)+(Ee (fun i'=>Jk ((x.g i).Forms.g i')) (x.g i).Forms.n+1)+1:=rfl;omega
end Go.AM
