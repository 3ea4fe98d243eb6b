/- What a law's walk and its plain proof need, part 9: no condition of its own. -/
import Derived.JoinedOf
import Derived.Test.YtodhnkfgkgkngaaGreatDoorSD
import Derived.Test.YtodhnkfgkgkngaaGreatDoorSE
import Derived.Test.YtodhnkfgkgkngaaGreatDoorCards
import Derived.Test.YtodhnkfgkgkngaaGreatDoorTie
import Derived.WalkKit
import Derived.ProofKit
import Derived.OpenShut
import Derived.Deep.DeepHandedRow
import Derived.MakeChecks
import Derived.Lib.LaidTab
import Derived.Test.YtodhnkfgkgkngaaGreatDoorSG
import Derived.Test.YtodhnkfgkgkngaaGreatDoorSH
set_option linter.defProp false
set_option linter.unusedSimpArgs false
set_option linter.unusedVariables false
set_option linter.unusedSectionVars false
namespace Go.AM
def AJ6:=@Go.Proofs.Tryz.underlying3
def AM1:=@Go.Proofs.Tryz.underlying27
def AM5:=@Go.Proofs.Tryz.underlying52
def AM8:=@Go.Proofs.Tryz.underlying4
def AO1:=@Go.Proofs.Tryz.underlying5
def AP5:=@Go.Proofs.Tryz.underlying49
def AR8:=@Go.Proofs.Tryz.underlying63
def AT5:=@Go.Proofs.Tryz.underlying9
open Go.Rows
def jA_ (P:Program)(f:FuncId)(fn:Func)(s:ChangeSpec)(c:OpenClaim):Bool:=
 (c.wf (OpenSpec.ofChange s))&&(laidOutB P)&&(mapsRowed P)&&(fn.params.all (P.readableRec ·))&&(namedTie P c.named s.vars)&&(c.stops==[])&&(P.stops==[])&&(c.knobs==[])&&(P.stopKnobs==[])
def jB_ (P:Program)(f:FuncId)(fn:Func)(s:ChangeSpec)(c:OpenClaim):Bool:=
 (c.inPlace==P.inPlace f)&&(c.unfollowed==P.unfollowed f)
def jC_ (P:Program)(f:FuncId)(fn:Func)(s:ChangeSpec)(c:OpenClaim):Bool:=
 (c.recurses==P.recurses f)&&(c.named==P.varsNamed f)
def jD_ (P:Program)(f:FuncId)(fn:Func)(s:ChangeSpec)(c:OpenClaim):Bool:=
 (c.maps==(fn.params.toList++s.plain.varTypes P).any (P.mapsRec ·))&&(c.ifaces==(fn.params.toList++s.plain.varTypes P).any (P.ifacesRec ·))&&(c.mapsOut==P.mapsAmong fn.resultTypes.toList)&&(c.loops==(fn.params.toList++s.plain.varTypes P).any (P.loopsFrom ·))&&(c.wideKeys==(fn.params.toList++s.plain.varTypes P++fn.resultTypes.toList).any (P.wideKeysFrom ·))&&(s.vars.all (P.varReadable ·))&&(fn.resultTypes.all (fun t=>P.readableRec t&&decide (t<P.types.size)))&&(c.ifacesOut==fn.resultTypes.toList.any (P.ifacesRec ·))&&(c.loopsOut==fn.resultTypes.toList.any (P.loopsFrom ·))&&(c.plainKeys==P.plainKeys)&&(c.shortTexts.isNone)
def jE_ (P:Program)(f:FuncId)(fn:Func)(s:ChangeSpec)(c:OpenClaim):Bool:=
 (P.stopsHeard)&&(P.mayEnter)
def jF_ (P:Program)(f:FuncId)(fn:Func)(s:ChangeSpec)(c:OpenClaim):Bool:=
 (c.lifted==P.liftsFinal)&&(P.make==some c.make)&&(c.kinds==(if c.domain.isEmpty then []else fn.params.toList.map fun t=>match P.underlying t with|some (.int k)=>some k|_=>none))&&(c.pinned==c.pinnedBy)&&(c.veiled==(fn.params.toList++s.plain.varTypes P++fn.resultTypes.toList).any (P.veiledRec ·))&&(c.veiledFits P fn.params.toList (fn.params.toList++s.plain.varTypes P++fn.resultTypes.toList))
theorem PB {P:Program}{f:FuncId}{fn:Func}{s:ChangeSpec}{c:OpenClaim}(h1:jA_ P f fn s c=true)(a:jB_ P f fn s c=true)(b:jC_ P f fn s c=true)(d:jD_ P f fn s c=true)(g:jE_ P f fn s c=true)(i:jF_ P f fn s c=true):joinedFacts P f fn s c=true:=by
 have:joinedFacts P f fn s c=(jA_ P f fn s c&&jB_ P f fn s c&&jC_ P f fn s c&&jD_ P f fn s c&&jE_ P f fn s c&&jF_ P f fn s c):=by simp only[joinedFacts,jA_,jB_,jC_,jD_,jE_,jF_,Bool.and_assoc];rfl
 rw[this,h1,a,b,d,g,i];rfl
end Go.AM
namespace Go.AM
open Go.RowKit Go.ChangeShapes Go.WideShapes Go.ChangeAt Go.Deep Go.Proofs Go.Proofs.YtodhnkfgkgkngaaGreatDoor
theorem WC:Kids Tryz.prog (· < Tryz.prog.types.size):=kids_rows (by kernel_rfl) (by kernel_rfl)
theorem Px {H:Type}:∀es:List (DataW H),RJ (es.map Rows.uptoBulk)=Rows.uptoBulkAll es
 |[]=>rfl
 |d::r=>by simp only[AF6,Qn,Rows.uptoBulkAll,Px r]
theorem WD {H:Type}:Bulk (H:=H) Rows.uptoBulk where
 int k n:=by simp[Rows.uptoBulk]
 bool b:=by simp[Rows.uptoBulk]
 str l:=by simp[Rows.uptoBulk]
 nil:=by simp[Rows.uptoBulk]
 slice es sp:=by simp only[Rows.uptoBulk,Px];omega
 agg ps:=by simp only[Rows.uptoBulk,Px];omega
section
variable {H:Type}{enc:TypeId×Value->H}{P:Program}{W:World}
theorem RK {v:Value}{x:PV}(a:v.cells.toList=[v])(h:CRep W v.cells.toList [x]):RepP W (fun _ _=>False) v x:=by
 have:=(h.2 0 (by simp)).1
 rw[a]at this;exact this
theorem WE {cs:Array Value}{pvs:List PV}(h:CRep W (Value.agg cs).cells.toList pvs):RepP W (fun _ _=>False) (.agg cs) (.agg pvs):=by
 obtain⟨h1,a⟩:=h;have hc:(Value.agg cs).cells.toList=cs.toList:=rfl;rw[hc]at h1 a;have e:∀i,cs.toList.getD i undef=cs.getD i undef:=fun i=>by simp[AC5,AC8]
 exact .agg cs pvs (by simpa using h1) (fun i b=>by rw[<- e];exact (a i b).2) fun i b=>by rw[<- e];exact (a i b).1
end
theorem Af2 {n:Int}(hw:(Lit.int .u32 n).wf=true):∃p:BitVec 32,n=(p.toNat:Int):=by
 simp only[Lit.wf,IntKind.min,IntKind.max,IntKind.signed,IntKind.bits,AD2,decide_eq_true_eq]at hw;refine⟨BitVec.ofNat 32 n.toNat,?_⟩;rw[AW1];have a:0<=n:=by have:=hw.1;simpa using this
 have h1:n<4294967296:=by have:=hw.2;simp at this;omega
 rw[AL2 (by omega),Int.toNat_of_nonneg a]
theorem Au4 {n:Int}(h:(Lit.int .u8 n).wf=true):∃k:Nat,n=(k:Int)/\k<256:=by
 simp only[Lit.wf,IntKind.min,IntKind.max,IntKind.signed,IntKind.bits,AD2,decide_eq_true_eq]at h;have a:0<=n:=by have:=h.1;simpa using this
 have h1:n<256:=by have:=h.2;simp at this;omega
 exact⟨n.toNat,by omega,by omega⟩
theorem WF {W:World}(hL:laidMetH Tryz.prog Rows.historyFormsUptoRow.laid W):TabOk Tryz.prog W fun _ _=>False:=by
 rw[MakeChecks.laidMetH_plain _ _ _ (by kernel_rfl)]at hL;have b:Lib.TabIs Tryz.prog W "math/bits.deBruijn64tab" .u8 (Lib.deBruijn64tab.map fun (n:Nat)=>(n:Int)):=by refine Lib.tabIs_of_head (g:=3) (t:=(Tryz.prog.globals[3]?.map (·.type)).getD 0) (e:=(match Tryz.prog.underlying ((Tryz.prog.globals[3]?.map (·.type)).getD 0)with|some (.array _ e)=>e|_=>0)) (n:=64) (by kernel_rfl) (by kernel_rfl) (by kernel_rfl) (by kernel_rfl) (by kernel_rfl) (by kernel_rfl) (rest:=Rows.historyFormsUptoRow.laid.tail) ?_;exact hL
 intro g s j v hs a;have c:g=3:=by
  have key:∀k:Fin Tryz.prog.globals.size,((Tryz.prog.globals[k.1]?.map fun s=>s.name == "math/bits.deBruijn64tab")==some true)=true->k.1=3:=by decide +kernel
  have d:g<Tryz.prog.globals.size:=(AD6.1 hs).1;refine key ⟨g,d⟩ ?_
  have:(s.name == "math/bits.deBruijn64tab")=true:=by
   unfold TT at a;split at a
   ·assumption
   ·simp at a
  simp[hs,this]
 subst c;unfold TT at a;split at a
 ·rw[AD4]at a;obtain⟨n,hn,rfl⟩:=AF2.1 a;have f:j<Lib.deBruijn64tab.length:=(AD9.1 hn).1;refine⟨?_,fun h=>h⟩;rw[b.cell (by kernel_rfl) j (by simpa using f)];simp[AC5,AD4,hn]
 ·simp at a
end Go.AM
namespace Go.AM
open Go.RowKit Go.ChangeShapes Go.WideShapes Go.ChangeAt Go.Deep Go.Proofs Go.Proofs.YtodhnkfgkgkngaaGreatDoor
set_option maxRecDepth 100000
def Ia (x:Sound):Prop:=((Lit.int .u32 x.Plus).wf=true)/\((Lit.int .u32 x.Minus).wf=true)
def AB (x:Sound):Nat:=1+1+1
theorem Cc:Mb Tryz.prog B6 A0 Ia AB:=by intro m pvs h;obtain⟨m0,h,a⟩:=Bu Tryz.underlying51 h;obtain⟨a0,b0,p0,q0,rfl,b,h,c⟩:=D5 h;obtain⟨x0,l0,w0,s0⟩:=Q6 AP5 _ _ b;have s0:1<=a0:=s0;obtain⟨a1,b1,p1,q1,rfl,h1,h,d⟩:=D5 h;obtain⟨x1,l1,w1,s1⟩:=Q6 AP5 _ _ h1;have s1:1<=a1:=s1;obtain rfl:=DK h;exact⟨⟨x0,x1⟩,LeDs.append l0 (LeDs.append l1 LeDs.nil),⟨w0,w1⟩,by simp only[AB];omega⟩
theorem Vb {x:Sound}(h:Ia x):okS x:=by obtain⟨p,hp⟩:=Af2 h.1;obtain⟨q,a⟩:=Af2 h.2;exact⟨p,q,by cases x;simp_all [sOf]⟩
abbrev Vc (x:Pat):Prop:=okPS x
abbrev RF (x:Pat):Nat:=1
theorem RG:Mb Tryz.prog DN B5 Vc RF:=by
 intro m
 induction m using Nat.strongRecOn with
 |ind m ih=>
 intro pvs h;obtain⟨m0,h,d⟩:=Bu Tryz.underlying54 h;obtain⟨a0,b0,p0,q0,rfl,j,h,l⟩:=D5 h;obtain⟨x0,l0,w0,s0⟩:=Q6 AJ6 _ _ j;have s0:1<=a0:=s0;obtain⟨a1,b1,p1,q1,rfl,h1,h,o⟩:=D5 h;obtain⟨x1,l1,w1,s1⟩:=Cc _ _ h1;have s1:AB x1<=a1:=s1;obtain⟨a2,b2,p2,q2,rfl,q,h,r⟩:=D5 h;obtain⟨x2,l2,w2,s2⟩:=VP AM8 _ _ q;have s2:1<=a2:=s2;obtain⟨a3,b3,p3,q3,rfl,s,h,t⟩:=D5 h;obtain⟨x3,l3,w3,s3⟩:=Q6 AJ6 _ _ s;have s3:1<=a3:=s3;obtain⟨a4,b4,p4,q4,rfl,u,h,v⟩:=D5 h;obtain⟨x4,l4,w4,s4⟩:=Q6 AJ6 _ _ u;have s4:1<=a4:=s4;obtain⟨a5,b5,p5,q5,rfl,w,h,y⟩:=D5 h;obtain rfl:=DK h;have a:Tryz.prog.cellsOf 54=7:=by kernel_rfl
 cases w with
 |int ht'=>rw[AM5]at ht';cases ht'
 |bool ht'=>rw[AM5]at ht';cases ht'
 |str ht'=>rw[AM5]at ht';cases ht'
 |struct ht'=>rw[AM5]at ht';cases ht'
 |arr ht'=>rw[AM5]at ht';cases ht'
 | @slice _ _ e' n f ms ht' hl hel hm=>rw[AM5]at ht';cases ht';rw[a];rw[No]at hm;obtain⟨g,c⟩:=choose_lt (α:=Pat) (p:=fun i x=>LeDs (f i) (B5 x)/\Vc x/\1<=ms i) fun i b=>ih (ms i) (by have:=XJ ms b;omega) _ (hel i b);exact⟨.mk x0 x1 x2 x3 x4 n g,LeDs.append l0 (LeDs.append l1 (LeDs.append l2 (LeDs.append l3 (LeDs.append l4 (.cons (.sl fun i b=>(c i b).1) .nil))))),⟨Vb w1,fun i b=>(c i b).2.1⟩,by show 1<=m;omega⟩
def TH (x:Bd):Prop:=((Lit.int .i64 x.From).wf=true)/\((Lit.int .u32 x.Clear).wf=true)/\(Ia x.Set)/\((Lit.int .u32 x.Take).wf=true)/\((Lit.int .i64 x.Of).wf=true)
def IO (x:Bd):Nat:=1+1+AB x.Set+1+1+1
theorem Wv:Mb Tryz.prog XT Q9 TH IO:=by intro m pvs h;obtain⟨m0,h,a⟩:=Bu Tryz.underlying114 h;obtain⟨a0,b0,p0,q0,rfl,b,h,c⟩:=D5 h;obtain⟨x0,l0,w0,s0⟩:=Q6 AJ6 _ _ b;have s0:1<=a0:=s0;obtain⟨a1,b1,p1,q1,rfl,h1,h,d⟩:=D5 h;obtain⟨x1,l1,w1,s1⟩:=Q6 AP5 _ _ h1;have s1:1<=a1:=s1;obtain⟨a2,b2,p2,q2,rfl,f,h,g⟩:=D5 h;obtain⟨x2,l2,w2,s2⟩:=Cc _ _ f;have s2:AB x2<=a2:=s2;obtain⟨a3,b3,p3,q3,rfl,i,h,j⟩:=D5 h;obtain⟨x3,l3,w3,s3⟩:=Q6 AP5 _ _ i;have s3:1<=a3:=s3;obtain⟨a4,b4,p4,q4,rfl,l,h,n⟩:=D5 h;obtain⟨x4,l4,w4,s4⟩:=Q6 AJ6 _ _ l;have s4:1<=a4:=s4;obtain rfl:=DK h;exact⟨⟨x0,x1,x2,x3,x4⟩,LeDs.append l0 (LeDs.append l1 (LeDs.append l2 (LeDs.append l3 (LeDs.append l4 LeDs.nil)))),⟨w0,w1,w2,w3,w4⟩,by simp only[IO];omega⟩
def Vd (x:Law):Prop:=(True)/\(Vc x.Left)/\(Vc x.Right)/\(∀i,i<x.If.n->Ia (x.If.g i))/\(∀i,i<x.Out.n->TH (x.Out.g i))/\((Lit.int .i64 x.Mode).wf=true)
def Ib (x:Law):Nat:=(x.Name.length+1)+RF x.Left+RF x.Right+(Ic (fun i=>AB (x.If.g i)) x.If.n+1)+(Ic (fun i=>IO (x.Out.g i)) x.Out.n+1)+1+1
theorem YW:Mb Tryz.prog R6 B2 Vd Ib:=by intro m pvs h;obtain⟨m0,h,a⟩:=Bu Tryz.underlying57 h;obtain⟨a0,b0,p0,q0,rfl,b,h,c⟩:=D5 h;obtain⟨x0,l0,w0,s0⟩:=XK AT5 _ _ b;have s0:(x0.length+1)<=a0:=s0;obtain⟨a1,b1,p1,q1,rfl,h1,h,d⟩:=D5 h;obtain⟨x1,l1,w1,s1⟩:=RG _ _ h1;have s1:RF x1<=a1:=s1;obtain⟨a2,b2,p2,q2,rfl,f,h,j⟩:=D5 h;obtain⟨x2,l2,w2,s2⟩:=RG _ _ f;have s2:RF x2<=a2:=s2;obtain⟨a3,b3,p3,q3,rfl,l,h,o⟩:=D5 h;obtain⟨x3,l3,w3,s3⟩:=Ah AM1 (by kernel_rfl) Cc _ _ l;have s3:(Ic (fun i=>AB (x3.g i)) x3.n+1)<=a3:=s3;obtain⟨a4,b4,p4,q4,rfl,q,h,r⟩:=D5 h;obtain⟨x4,l4,w4,s4⟩:=Ah Tryz.underlying55 (by kernel_rfl) Wv _ _ q;have s4:(Ic (fun i=>IO (x4.g i)) x4.n+1)<=a4:=s4;obtain⟨a5,b5,p5,q5,rfl,s,h,t⟩:=D5 h;obtain⟨x5,l5,w5,s5⟩:=Q6 AJ6 _ _ s;have s5:1<=a5:=s5;obtain rfl:=DK h;exact⟨⟨x0,x1,x2,x3,x4,x5⟩,LeDs.append l0 (LeDs.append l1 (LeDs.append l2 (LeDs.append l3 (LeDs.append l4 (LeDs.append l5 LeDs.nil))))),⟨w0,w1,w2,w3,w4,w5⟩,by simp only[Ib];omega⟩
end Go.AM
namespace Go.AM
theorem YX {f:Nat->Nat}(h:∀i,1<=f i):∀n,n<=Ic f n
 |0=>AK9 _
 |n+1=>by
  have:=YX h n
  have:=h n
  show n+1<=Ic f n+f n;omega
theorem AB2 {x:Bd}(h:TH x):okO x:=⟨Vb h.2.2.1,Af2 h.2.1,Af2 h.2.2.2.1⟩
theorem Af3 {l:Law}(h:Vd l)(hs:Ib l<=1048576):HX l:=by obtain⟨_,h1,b,c,d,_⟩:=h;unfold Ib at hs;have g1:=YX (f:=fun i=>AB (l.If.g i)) (fun i=>by simp only[AB];omega) l.If.n;have g2:=YX (f:=fun i=>IO (l.Out.g i)) (fun i=>by simp only[IO];omega) l.Out.n;exact⟨⟨h1,b,fun i a=>Vb (c i a)⟩,by omega,by omega,by omega,fun i a=>AB2 (d i a)⟩
theorem YY {x:Sl Law}(h:∀i,i<x.n->Vd (x.g i))(hs:Ic (fun i=>Ib (x.g i)) x.n+1<=1048576):FG x:=fun i a=>
 Af3 (h i a) (by have:=XJ (fun i=>Ib (x.g i)) a;have this:Ib (x.g i)<=_:=this;omega)
theorem Af5 {x:Sl Sound}(h:∀i,i<x.n->Ia (x.g i)):okA x:=fun i a=>Vb (h i a)
end Go.AM
namespace Go.AM
open Go.RowKit Go.ChangeShapes Go.WideShapes Go.ChangeAt Go.Deep Go.Proofs Go.Proofs.YtodhnkfgkgkngaaGreatDoor
set_option maxRecDepth 100000
def Ve (x:Ek):Prop:=(∀i,i<x.Parents.n->(Lit.int .u8 (x.Parents.g i)).wf=true)/\(∀i,i<x.Laws.n->Vd (x.Laws.g i))/\(∀i,i<x.On.n->(Lit.int .u16 (x.On.g i)).wf=true)
def FL (x:Ek):Nat:=(Ic (fun i=>1) x.Parents.n+1)+(Ic (fun i=>Ib (x.Laws.g i)) x.Laws.n+1)+(Ic (fun i=>1) x.On.n+1)+1
theorem JV:Mb Tryz.prog SR Y0 Ve FL:=by intro m pvs h;obtain⟨m0,h,a⟩:=Bu AR8 h;obtain⟨a0,b0,p0,q0,rfl,b,h,c⟩:=D5 h;obtain⟨x0,l0,w0,s0⟩:=Ah Tryz.underlying60 (by kernel_rfl) (Q6 AO1) _ _ b;have s0:(Ic (fun i=>1) x0.n+1)<=a0:=s0;obtain⟨a1,b1,p1,q1,rfl,h1,h,d⟩:=D5 h;obtain⟨x1,l1,w1,s1⟩:=Ah Tryz.underlying23 (by kernel_rfl) YW _ _ h1;have s1:(Ic (fun i=>Ib (x1.g i)) x1.n+1)<=a1:=s1;obtain⟨a2,b2,p2,q2,rfl,f,h,j⟩:=D5 h;obtain⟨x2,l2,w2,s2⟩:=Ah Tryz.underlying61 (by kernel_rfl) (Q6 Tryz.underlying130) _ _ f;have s2:(Ic (fun i=>1) x2.n+1)<=a2:=s2;obtain rfl:=DK h;exact⟨⟨x0,x1,x2⟩,LeDs.append l0 (LeDs.append l1 (LeDs.append l2 LeDs.nil)),⟨w0,w1,w2⟩,by simp only[FL];omega⟩
end Go.AM
namespace Go.AM
theorem AB3 {n:Int}(h:(Lit.int .u16 n).wf=true):∃k:Nat,n=(k:Int)/\k<65536:=by
 simp only[Lit.wf,IntKind.min,IntKind.max,IntKind.signed,IntKind.bits,AD2,decide_eq_true_eq]at h;have a:0<=n:=by have:=h.1;simpa using this
 have h1:n<65536:=by have:=h.2;simp at this;omega
 exact⟨n.toNat,by omega,by omega⟩
theorem MG {x:Ek}(w:Ve x)(hs:FL x<=1048576):LN x:=by unfold FL at hs;exact⟨fun i a=>Au4 (w.1 i a),YY w.2.1 (by omega),fun i a=>AB3 (w.2.2 i a)⟩
end Go.AM
