/- What a law's walk and its plain proof need, part 10: no condition of its own. -/
import Derived.JoinedOf
import Derived.Test.YtfcfdofmgkpmbaaGreatDoorMD
import Derived.Test.YtfcfdofmgkpmbaaGreatDoorME
import Derived.Test.YtfcfdofmgkpmbaaGreatDoorCards
import Derived.Test.YtfcfdofmgkpmbaaGreatDoorTie
import Derived.WalkKit
import Derived.ProofKit
import Derived.OpenShut
import Derived.Deep.DeepHandedRow
import Derived.MakeChecks
import Derived.Lib.LaidTab
import Derived.Test.YtfcfdofmgkpmbaaGreatDoorMG
import Derived.Test.YtfcfdofmgkpmbaaGreatDoorMH
import Derived.Test.YtfcfdofmgkpmbaaGreatDoorMI
set_option linter.defProp false
set_option linter.unusedSimpArgs false
set_option linter.unusedVariables false
set_option linter.unusedSectionVars false
namespace Go.AM
def Be8:=@Go.Proofs.Tryz.underlying3
def Bi0:=@Go.Proofs.Tryz.underlying119
def Bi9:=@Go.Proofs.Tryz.underlying4
def Bj0:=@Go.Proofs.Tryz.underlying9
def Bl5:=@Go.Proofs.Tryz.underlying85
def Bn8:=@Go.Proofs.Tryz.underlying76
open Go.Rows
def jA_ (P:Program)(f:FuncId)(fn:Func)(s:ChangeSpec)(c:OpenClaim):Bool:=
 (c.wf (OpenSpec.ofChange s))&&(laidOutB P)&&(mapsRowed P)&&(fn.params.all (P.readableRec ·))&&(namedTie P c.named s.vars)&&(c.stops==[])&&(P.stops==[])&&(c.knobs==[])&&(P.stopKnobs==[])
def jB_ (P:Program)(f:FuncId)(fn:Func)(s:ChangeSpec)(c:OpenClaim):Bool:=
 (c.inPlace==P.inPlace f)&&(c.unfollowed==P.unfollowed f)
def jC_ (P:Program)(f:FuncId)(fn:Func)(s:ChangeSpec)(c:OpenClaim):Bool:=
 (c.recurses==P.recurses f)&&(c.named==P.varsNamed f)
def jD_ (P:Program)(f:FuncId)(fn:Func)(s:ChangeSpec)(c:OpenClaim):Bool:=
 (c.maps==(fn.params.toList++s.plain.varTypes P).any (P.mapsRec ·))&&(c.ifaces==(fn.params.toList++s.plain.varTypes P).any (P.ifacesRec ·))&&(c.mapsOut==P.mapsAmong fn.resultTypes.toList)&&(c.loops==(fn.params.toList++s.plain.varTypes P).any (P.loopsFrom ·))&&(c.wideKeys==(fn.params.toList++s.plain.varTypes P++fn.resultTypes.toList).any (P.wideKeysFrom ·))&&(s.vars.all (P.varReadable ·))&&(fn.resultTypes.all (fun t=>P.readableRec t&&decide (t<P.types.size)))&&(c.ifacesOut==fn.resultTypes.toList.any (P.ifacesRec ·))&&(c.loopsOut==fn.resultTypes.toList.any (P.loopsFrom ·))&&(c.plainKeys==P.plainKeys)&&(c.shortTexts.isNone)
def jE_ (P:Program)(f:FuncId)(fn:Func)(s:ChangeSpec)(c:OpenClaim):Bool:=
 (P.stopsHeard)&&(P.mayEnter)
def jF_ (P:Program)(f:FuncId)(fn:Func)(s:ChangeSpec)(c:OpenClaim):Bool:=
 (c.lifted==P.liftsFinal)&&(P.make==some c.make)&&(c.kinds==(if c.domain.isEmpty then []else fn.params.toList.map fun t=>match P.underlying t with|some (.int k)=>some k|_=>none))&&(c.pinned==c.pinnedBy)&&(c.veiled==(fn.params.toList++s.plain.varTypes P++fn.resultTypes.toList).any (P.veiledRec ·))&&(c.veiledFits P fn.params.toList (fn.params.toList++s.plain.varTypes P++fn.resultTypes.toList))
theorem Ad9 {P:Program}{f:FuncId}{fn:Func}{s:ChangeSpec}{c:OpenClaim}(h1:jA_ P f fn s c=true)(a:jB_ P f fn s c=true)(b:jC_ P f fn s c=true)(d:jD_ P f fn s c=true)(g:jE_ P f fn s c=true)(i:jF_ P f fn s c=true):joinedFacts P f fn s c=true:=by
 have:joinedFacts P f fn s c=(jA_ P f fn s c&&jB_ P f fn s c&&jC_ P f fn s c&&jD_ P f fn s c&&jE_ P f fn s c&&jF_ P f fn s c):=by simp only[joinedFacts,jA_,jB_,jC_,jD_,jE_,jF_,Bool.and_assoc];rfl
 rw[this,h1,a,b,d,g,i];rfl
end Go.AM
namespace Go.AM
open Go.RowKit Go.ChangeShapes Go.WideShapes Go.ChangeAt Go.Deep Go.Proofs Go.Proofs.YtfcfdofmgkpmbaaGreatDoor
theorem AQ9:Kids Tryz.prog (· < Tryz.prog.types.size):=kids_rows (by kernel_rfl) (by kernel_rfl)
theorem Sh {H:Type}:∀es:List (DataW H),US (es.map Rows.uptoBulk)=Rows.uptoBulkAll es
 |[]=>rfl
 |d::r=>by simp only[Bc2,Tb,Rows.uptoBulkAll,Sh r]
theorem AR0 {H:Type}:Bulk (H:=H) Rows.uptoBulk where
 int k n:=by simp[Rows.uptoBulk]
 bool b:=by simp[Rows.uptoBulk]
 str l:=by simp[Rows.uptoBulk]
 nil:=by simp[Rows.uptoBulk]
 slice es sp:=by simp only[Rows.uptoBulk,Sh];omega
 agg ps:=by simp only[Rows.uptoBulk,Sh];omega
section
variable {H:Type}{enc:TypeId×Value->H}{P:Program}{W:World}
theorem AG1 {v:Value}{x:PV}(a:v.cells.toList=[v])(h:CRep W v.cells.toList [x]):RepP W (fun _ _=>False) v x:=by
 have:=(h.2 0 (by simp)).1
 rw[a]at this;exact this
theorem AG0 {cs:Array Value}{pvs:List PV}(h:CRep W (Value.agg cs).cells.toList pvs):RepP W (fun _ _=>False) (.agg cs) (.agg pvs):=by
 obtain⟨h1,a⟩:=h;have hc:(Value.agg cs).cells.toList=cs.toList:=rfl;rw[hc]at h1 a;have e:∀i,cs.toList.getD i undef=cs.getD i undef:=fun i=>by simp[AZ0,AZ2]
 exact .agg cs pvs (by simpa using h1) (fun i b=>by rw[<- e];exact (a i b).2) fun i b=>by rw[<- e];exact (a i b).1
end
theorem AB5 {n:Int}(hw:(Lit.int .u32 n).wf=true):∃p:BitVec 32,n=(p.toNat:Int):=by
 simp only[Lit.wf,IntKind.min,IntKind.max,IntKind.signed,IntKind.bits,AZ6,decide_eq_true_eq]at hw;refine⟨BitVec.ofNat 32 n.toNat,?_⟩;rw[Bn4];have a:0<=n:=by have:=hw.1;simpa using this
 have h1:n<4294967296:=by have:=hw.2;simp at this;omega
 rw[Bh7 (by omega),Int.toNat_of_nonneg a]
theorem AG2 {W:World}(hL:laidMetH Tryz.prog Rows.innovChecksUptoRow.laid W):TabOk Tryz.prog W fun _ _=>False:=by
 rw[MakeChecks.laidMetH_plain _ _ _ (by kernel_rfl)]at hL;have b:Lib.TabIs Tryz.prog W "math/bits.deBruijn64tab" .u8 (Lib.deBruijn64tab.map fun (n:Nat)=>(n:Int)):=by refine Lib.tabIs_of_head (g:=0) (t:=(Tryz.prog.globals[0]?.map (·.type)).getD 0) (e:=(match Tryz.prog.underlying ((Tryz.prog.globals[0]?.map (·.type)).getD 0)with|some (.array _ e)=>e|_=>0)) (n:=64) (by kernel_rfl) (by kernel_rfl) (by kernel_rfl) (by kernel_rfl) (by kernel_rfl) (by kernel_rfl) (rest:=Rows.innovChecksUptoRow.laid.tail) ?_;exact hL
 intro g s j v hs a;have c:g=0:=by
  have key:∀k:Fin Tryz.prog.globals.size,((Tryz.prog.globals[k.1]?.map fun s=>s.name == "math/bits.deBruijn64tab")==some true)=true->k.1=0:=by decide +kernel
  have d:g<Tryz.prog.globals.size:=(Ba0.1 hs).1;refine key ⟨g,d⟩ ?_
  have:(s.name == "math/bits.deBruijn64tab")=true:=by
   unfold Xs at a;split at a
   ·assumption
   ·simp at a
  simp[hs,this]
 subst c;unfold Xs at a;split at a
 ·rw[AZ8]at a;obtain⟨n,hn,rfl⟩:=Bb3.1 a;have f:j<Lib.deBruijn64tab.length:=(Ba3.1 hn).1;refine⟨?_,fun h=>h⟩;rw[b.cell (by kernel_rfl) j (by simpa using f)];simp[AZ0,AZ8,hn]
 ·simp at a
end Go.AM
namespace Go.AM
open Go.RowKit Go.ChangeShapes Go.WideShapes Go.ChangeAt Go.Deep Go.Proofs Go.Proofs.YtfcfdofmgkpmbaaGreatDoor
set_option maxRecDepth 100000
end Go.AM
namespace Go.AM
end Go.AM
namespace Go.AM
open Go.RowKit Go.ChangeShapes Go.WideShapes Go.ChangeAt Go.Deep Go.Proofs Go.Proofs.YtfcfdofmgkpmbaaGreatDoor
set_option maxRecDepth 100000
def Aq4 (x:M9):Prop:=((Lit.int .i64 x.Parent).wf=true)/\(True)
def He (x:M9):Nat:=1+(x.Name.length+1)+1
theorem Ac7:Ms Tryz.prog Kf J1 Aq4 He:=by intro m pvs h;obtain⟨m0,h,a⟩:=Bo Tryz.underlying95 h;obtain⟨a0,b0,p0,q0,rfl,b,h,c⟩:=D8 h;obtain⟨x0,l0,w0,s0⟩:=U2 Be8 _ _ b;have s0:1<=a0:=s0;obtain⟨a1,b1,p1,q1,rfl,h1,h,d⟩:=D8 h;obtain⟨x1,l1,w1,s1⟩:=Tr Bj0 _ _ h1;have s1:(x1.length+1)<=a1:=s1;obtain rfl:=De h;exact⟨⟨x0,x1⟩,LeDs.append l0 (LeDs.append l1 LeDs.nil),⟨w0,w1⟩,by simp only[He];omega⟩
def JL (x:Sound):Prop:=((Lit.int .u32 x.Plus).wf=true)/\((Lit.int .u32 x.Minus).wf=true)
def Co (x:Sound):Nat:=1+1+1
theorem Fk:Ms Tryz.prog B5 A0 JL Co:=by intro m pvs h;obtain⟨m0,h,a⟩:=Bo Tryz.underlying87 h;obtain⟨a0,b0,p0,q0,rfl,b,h,c⟩:=D8 h;obtain⟨x0,l0,w0,s0⟩:=U2 Bl5 _ _ b;have s0:1<=a0:=s0;obtain⟨a1,b1,p1,q1,rfl,h1,h,d⟩:=D8 h;obtain⟨x1,l1,w1,s1⟩:=U2 Bl5 _ _ h1;have s1:1<=a1:=s1;obtain rfl:=De h;exact⟨⟨x0,x1⟩,LeDs.append l0 (LeDs.append l1 LeDs.nil),⟨w0,w1⟩,by simp only[Co];omega⟩
theorem YB {x:Sound}(h:JL x):okS x:=by obtain⟨p,hp⟩:=AB5 h.1;obtain⟨q,a⟩:=AB5 h.2;exact⟨p,q,by cases x;simp_all [sOf]⟩
abbrev YC (x:Pat):Prop:=okPS x
abbrev UL (x:Pat):Nat:=1
theorem UM:Ms Tryz.prog ES B3 YC UL:=by
 intro m
 induction m using Nat.strongRecOn with
 |ind m ih=>
 intro pvs h;obtain⟨m0,h,d⟩:=Bo Tryz.underlying121 h;obtain⟨a0,b0,p0,q0,rfl,j,h,l⟩:=D8 h;obtain⟨x0,l0,w0,s0⟩:=U2 Be8 _ _ j;have s0:1<=a0:=s0;obtain⟨a1,b1,p1,q1,rfl,h1,h,o⟩:=D8 h;obtain⟨x1,l1,w1,s1⟩:=Fk _ _ h1;have s1:Co x1<=a1:=s1;obtain⟨a2,b2,p2,q2,rfl,q,h,r⟩:=D8 h;obtain⟨x2,l2,w2,s2⟩:=Zq Bi9 _ _ q;have s2:1<=a2:=s2;obtain⟨a3,b3,p3,q3,rfl,s,h,t⟩:=D8 h;obtain⟨x3,l3,w3,s3⟩:=U2 Be8 _ _ s;have s3:1<=a3:=s3;obtain⟨a4,b4,p4,q4,rfl,u,h,v⟩:=D8 h;obtain⟨x4,l4,w4,s4⟩:=U2 Be8 _ _ u;have s4:1<=a4:=s4;obtain⟨a5,b5,p5,q5,rfl,w,h,y⟩:=D8 h;obtain rfl:=De h;have a:Tryz.prog.cellsOf 121=7:=by kernel_rfl
 cases w with
 |int ht'=>rw[Bi0]at ht';cases ht'
 |bool ht'=>rw[Bi0]at ht';cases ht'
 |str ht'=>rw[Bi0]at ht';cases ht'
 |struct ht'=>rw[Bi0]at ht';cases ht'
 |arr ht'=>rw[Bi0]at ht';cases ht'
 | @slice _ _ e' n f ms ht' hl hel hm=>rw[Bi0]at ht';cases ht';rw[a];rw[PF]at hm;obtain⟨g,c⟩:=choose_lt (α:=Pat) (p:=fun i x=>LeDs (f i) (B3 x)/\YC x/\1<=ms i) fun i b=>ih (ms i) (by have:=Re ms b;omega) _ (hel i b);exact⟨.mk x0 x1 x2 x3 x4 n g,LeDs.append l0 (LeDs.append l1 (LeDs.append l2 (LeDs.append l3 (LeDs.append l4 (.cons (.sl fun i b=>(c i b).1) .nil))))),⟨YB w1,fun i b=>(c i b).2.1⟩,by show 1<=m;omega⟩
def Xk (x:Bt):Prop:=((Lit.int .i64 x.From).wf=true)/\((Lit.int .u32 x.Clear).wf=true)/\(JL x.Set)/\((Lit.int .u32 x.Take).wf=true)/\((Lit.int .i64 x.Of).wf=true)
def Kq (x:Bt):Nat:=1+1+Co x.Set+1+1+1
theorem Ac8:Ms Tryz.prog Ak8 P8 Xk Kq:=by intro m pvs h;obtain⟨m0,h,a⟩:=Bo Tryz.underlying155 h;obtain⟨a0,b0,p0,q0,rfl,b,h,c⟩:=D8 h;obtain⟨x0,l0,w0,s0⟩:=U2 Be8 _ _ b;have s0:1<=a0:=s0;obtain⟨a1,b1,p1,q1,rfl,h1,h,d⟩:=D8 h;obtain⟨x1,l1,w1,s1⟩:=U2 Bl5 _ _ h1;have s1:1<=a1:=s1;obtain⟨a2,b2,p2,q2,rfl,f,h,g⟩:=D8 h;obtain⟨x2,l2,w2,s2⟩:=Fk _ _ f;have s2:Co x2<=a2:=s2;obtain⟨a3,b3,p3,q3,rfl,i,h,j⟩:=D8 h;obtain⟨x3,l3,w3,s3⟩:=U2 Bl5 _ _ i;have s3:1<=a3:=s3;obtain⟨a4,b4,p4,q4,rfl,l,h,n⟩:=D8 h;obtain⟨x4,l4,w4,s4⟩:=U2 Be8 _ _ l;have s4:1<=a4:=s4;obtain rfl:=De h;exact⟨⟨x0,x1,x2,x3,x4⟩,LeDs.append l0 (LeDs.append l1 (LeDs.append l2 (LeDs.append l3 (LeDs.append l4 LeDs.nil)))),⟨w0,w1,w2,w3,w4⟩,by simp only[Kq];omega⟩
def YD (x:Law):Prop:=(True)/\(YC x.Left)/\(YC x.Right)/\(∀i,i<x.If.n->JL (x.If.g i))/\(∀i,i<x.Out.n->Xk (x.Out.g i))/\((Lit.int .i64 x.Mode).wf=true)
def JM (x:Law):Nat:=(x.Name.length+1)+UL x.Left+UL x.Right+(Hf (fun i=>Co (x.If.g i)) x.If.n+1)+(Hf (fun i=>Kq (x.Out.g i)) x.Out.n+1)+1+1
theorem Aq5:Ms Tryz.prog ET B4 YD JM:=by intro m pvs h;obtain⟨m0,h,a⟩:=Bo Tryz.underlying124 h;obtain⟨a0,b0,p0,q0,rfl,b,h,c⟩:=D8 h;obtain⟨x0,l0,w0,s0⟩:=Tr Bj0 _ _ b;have s0:(x0.length+1)<=a0:=s0;obtain⟨a1,b1,p1,q1,rfl,h1,h,d⟩:=D8 h;obtain⟨x1,l1,w1,s1⟩:=UM _ _ h1;have s1:UL x1<=a1:=s1;obtain⟨a2,b2,p2,q2,rfl,f,h,j⟩:=D8 h;obtain⟨x2,l2,w2,s2⟩:=UM _ _ f;have s2:UL x2<=a2:=s2;obtain⟨a3,b3,p3,q3,rfl,l,h,o⟩:=D8 h;obtain⟨x3,l3,w3,s3⟩:=X1 Bn8 (by kernel_rfl) Fk _ _ l;have s3:(Hf (fun i=>Co (x3.g i)) x3.n+1)<=a3:=s3;obtain⟨a4,b4,p4,q4,rfl,q,h,r⟩:=D8 h;obtain⟨x4,l4,w4,s4⟩:=X1 Tryz.underlying122 (by kernel_rfl) Ac8 _ _ q;have s4:(Hf (fun i=>Kq (x4.g i)) x4.n+1)<=a4:=s4;obtain⟨a5,b5,p5,q5,rfl,s,h,t⟩:=D8 h;obtain⟨x5,l5,w5,s5⟩:=U2 Be8 _ _ s;have s5:1<=a5:=s5;obtain rfl:=De h;exact⟨⟨x0,x1,x2,x3,x4,x5⟩,LeDs.append l0 (LeDs.append l1 (LeDs.append l2 (LeDs.append l3 (LeDs.append l4 (LeDs.append l5 LeDs.nil))))),⟨w0,w1,w2,w3,w4,w5⟩,by simp only[JM];omega⟩
def Qu (x:B0):Prop:=(∀i,i<x.Tree.n->Aq4 (x.Tree.g i))/\(∀i,i<x.Laws.n->YD (x.Laws.g i))/\(∀i,i<x.On.n->∀i',i' < (x.On.g i).n->(Lit.int .i64 ((x.On.g i).g i')).wf=true)
def EB (x:B0):Nat:=(Hf (fun i=>He (x.Tree.g i)) x.Tree.n+1)+(Hf (fun i=>JM (x.Laws.g i)) x.Laws.n+1)+(Hf (fun i=>Hf (fun i=>1) (x.On.g i).n+1) x.On.n+1)+1
theorem Qv:Ms Tryz.prog RC A8 Qu EB:=by intro m pvs h;obtain⟨m0,h,a⟩:=Bo Tryz.underlying54 h;obtain⟨a0,b0,p0,q0,rfl,b,h,c⟩:=D8 h;obtain⟨x0,l0,w0,s0⟩:=X1 Tryz.underlying50 (by kernel_rfl) Ac7 _ _ b;have s0:(Hf (fun i=>He (x0.g i)) x0.n+1)<=a0:=s0;obtain⟨a1,b1,p1,q1,rfl,h1,h,d⟩:=D8 h;obtain⟨x1,l1,w1,s1⟩:=X1 Tryz.underlying51 (by kernel_rfl) Aq5 _ _ h1;have s1:(Hf (fun i=>JM (x1.g i)) x1.n+1)<=a1:=s1;obtain⟨a2,b2,p2,q2,rfl,f,h,j⟩:=D8 h;obtain⟨x2,l2,w2,s2⟩:=X1 Tryz.underlying52 (by kernel_rfl) (X1 Tryz.underlying29 (by kernel_rfl) (U2 Be8)) _ _ f;have s2:(Hf (fun i=>Hf (fun i=>1) (x2.g i).n+1) x2.n+1)<=a2:=s2;obtain rfl:=De h;exact⟨⟨x0,x1,x2⟩,LeDs.append l0 (LeDs.append l1 (LeDs.append l2 LeDs.nil)),⟨w0,w1,w2⟩,by simp only[EB];omega⟩
end Go.AM
namespace Go.AM
theorem UN {f:Nat->Nat}(h:∀i,1<=f i):∀n,n<=Hf f n
 |0=>Bh1 _
 |n+1=>by
  have:=UN h n
  have:=h n
  show n+1<=Hf f n+f n;omega
theorem AX9 {x:Bt}(h:Xk x):okO x:=⟨YB h.2.2.1,AB5 h.2.1,AB5 h.2.2.2.1⟩
theorem AB6 {l:Law}(h:YD l)(hs:JM l<=1048576):Lw l:=by obtain⟨_,h1,b,c,d,_⟩:=h;unfold JM at hs;have g1:=UN (f:=fun i=>Co (l.If.g i)) (fun i=>by simp only[Co];omega) l.If.n;have g2:=UN (f:=fun i=>Kq (l.Out.g i)) (fun i=>by simp only[Kq];omega) l.Out.n;exact⟨⟨h1,b,fun i a=>YB (c i a)⟩,by omega,by omega,by omega,fun i a=>AX9 (d i a)⟩
theorem Aq6 {x:Sl Law}(h:∀i,i<x.n->YD (x.g i))(hs:Hf (fun i=>JM (x.g i)) x.n+1<=1048576):Ge x:=fun i a=>
 AB6 (h i a) (by have:=Re (fun i=>JM (x.g i)) a;have this:JM (x.g i)<=_:=this;omega)
theorem AR1 {x:Sl Sound}(h:∀i,i<x.n->JL (x.g i)):okA x:=fun i a=>YB (h i a)
theorem Ad8 {h:B0}(w:Qu h)(hs:EB h<=1048576):BR h:=by
 unfold EB at hs;have g:=UN (f:=fun i=>Hf (fun i=>1) (h.On.g i).n+1) (fun i=>by omega) h.On.n;refine⟨Aq6 w.2.1 (by omega),fun v a=>?_,by omega,fun v a=>?_⟩
 ·have:=Re (fun i=>He (h.Tree.g i)) a
  have this:He (h.Tree.g v)<=Hf (fun i=>He (h.Tree.g i)) h.Tree.n:=this;have e:He (h.Tree.g v)=1+((h.Tree.g v).Name.length+1)+1:=rfl;omega
 ·have g2:=Re (fun i=>Hf (fun i=>1) (h.On.g i).n+1) a;have g2:Hf (fun i=>1) (h.On.g v).n+1<=_:=g2;have g3:=UN (f:=fun _=>1) (fun i=>by omega) (h.On.g v).n;omega
end Go.AM
