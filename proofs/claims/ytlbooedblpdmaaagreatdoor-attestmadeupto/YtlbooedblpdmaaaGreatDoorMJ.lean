/- Part 10. -/
import Derived.JoinedOf
import Derived.Test.YtlbooedblpdmaaaGreatDoorMD
import Derived.Test.YtlbooedblpdmaaaGreatDoorME
import Derived.Test.YtlbooedblpdmaaaGreatDoorCards
import Derived.Test.YtlbooedblpdmaaaGreatDoorTie
import Derived.WalkKit
import Derived.ProofKit
import Derived.OpenShut
import Derived.Deep.DeepHandedRow
import Derived.MakeChecks
import Derived.Lib.LaidTab
import Derived.Test.YtlbooedblpdmaaaGreatDoorMG
import Derived.Test.YtlbooedblpdmaaaGreatDoorMH
import Derived.Test.YtlbooedblpdmaaaGreatDoorMI
set_option linter.defProp false
set_option linter.unusedSimpArgs false
set_option linter.unusedVariables false
set_option linter.unusedSectionVars false
namespace Go.AM
def Bf9:=@Go.Proofs.Tryz.underlying3
def Bj6:=@Go.Proofs.Tryz.underlying85
def Bl4:=@Go.Proofs.Tryz.underlying4
def Bm7:=@Go.Proofs.Tryz.underlying70
def Bn5:=@Go.Proofs.Tryz.underlying9
def Bo9:=@Go.Proofs.Tryz.underlying51
open Go.Rows
def jA_ (P:Program)(f:FuncId)(fn:Func)(s:ChangeSpec)(c:OpenClaim):Bool:= (c.wf (OpenSpec.ofChange s))&&(laidOutB P)&&(mapsRowed P)&&(fn.params.all (P.readableRec ·))&&(namedTie P c.named s.vars)&&(c.stops==[])&&(P.stops==[])&&(c.knobs==[])&&(P.stopKnobs==[])
def jB_ (P:Program)(f:FuncId)(fn:Func)(s:ChangeSpec)(c:OpenClaim):Bool:= (c.inPlace==P.inPlace f)&&(c.unfollowed==P.unfollowed f)
def jC_ (P:Program)(f:FuncId)(fn:Func)(s:ChangeSpec)(c:OpenClaim):Bool:= (c.recurses==P.recurses f)&&(c.named==P.varsNamed f)
def jD_ (P:Program)(f:FuncId)(fn:Func)(s:ChangeSpec)(c:OpenClaim):Bool:= (c.maps==(fn.params.toList++s.plain.varTypes P).any (P.mapsRec ·))&&(c.ifaces==(fn.params.toList++s.plain.varTypes P).any (P.ifacesRec ·))&&(c.mapsOut==P.mapsAmong fn.resultTypes.toList)&&(c.loops==(fn.params.toList++s.plain.varTypes P).any (P.loopsFrom ·))&&(c.wideKeys==(fn.params.toList++s.plain.varTypes P++fn.resultTypes.toList).any (P.wideKeysFrom ·))&&(s.vars.all (P.varReadable ·))&&(fn.resultTypes.all (fun t=>P.readableRec t&&decide (t<P.types.size)))&&(c.ifacesOut==fn.resultTypes.toList.any (P.ifacesRec ·))&&(c.loopsOut==fn.resultTypes.toList.any (P.loopsFrom ·))&&(c.plainKeys==P.plainKeys)&&(c.shortTexts.isNone)
def jE_ (P:Program)(f:FuncId)(fn:Func)(s:ChangeSpec)(c:OpenClaim):Bool:= (P.stopsHeard)&&(P.mayEnter)
def jF_ (P:Program)(f:FuncId)(fn:Func)(s:ChangeSpec)(c:OpenClaim):Bool:=
 (c.lifted==P.liftsFinal)&&(P.make==some c.make)&&(c.kinds==(if c.domain.isEmpty then []else fn.params.toList.map fun t=>match P.underlying t with|some (.int k)=>some k|_=>none))&&(c.pinned==c.pinnedBy)&&(c.veiled==(fn.params.toList++s.plain.varTypes P++fn.resultTypes.toList).any (P.veiledRec ·))&&(c.veiledFits P fn.params.toList (fn.params.toList++s.plain.varTypes P++fn.resultTypes.toList))
def Zv {P:Program}{f:FuncId}{fn:Func}{s:ChangeSpec}{c:OpenClaim}(h1:jA_ P f fn s c=true)(a:jB_ P f fn s c=true)(b:jC_ P f fn s c=true)(d:jD_ P f fn s c=true)(g:jE_ P f fn s c=true)(i:jF_ P f fn s c=true):joinedFacts P f fn s c=true:=by
 have:joinedFacts P f fn s c=(jA_ P f fn s c&&jB_ P f fn s c&&jC_ P f fn s c&&jD_ P f fn s c&&jE_ P f fn s c&&jF_ P f fn s c):=by simp only[joinedFacts,jA_,jB_,jC_,jD_,jE_,jF_,Bool.and_assoc];rfl
 rw[this,h1,a,b,d,g,i];rfl
end Go.AM
namespace Go.AM
open Go.RowKit Go.ChangeShapes Go.WideShapes Go.ChangeAt Go.Deep Go.Proofs Go.Proofs.YtlbooedblpdmaaaGreatDoor
theorem AP6:Kids Tryz.prog (· < Tryz.prog.types.size):=kids_rows (by kernel_rfl) (by kernel_rfl)
theorem RH {H:Type}:∀es:List (DataW H),Ut (es.map Rows.uptoBulk)=Rows.uptoBulkAll es
 |[]=>rfl
 |d::r=>by simp only[Bc8,SD,Rows.uptoBulkAll,RH r]
theorem AP7 {H:Type}:Bulk (H:=H) Rows.uptoBulk where
 int k n:=by simp[Rows.uptoBulk]
 bool b:=by simp[Rows.uptoBulk]
 str l:=by simp[Rows.uptoBulk]
 nil:=by simp[Rows.uptoBulk]
 slice es sp:=by simp only[Rows.uptoBulk,RH];omega
 agg ps:=by simp only[Rows.uptoBulk,RH];omega
section
variable {H:Type}{enc:TypeId×Value->H}{P:Program}{W:World}
theorem AC7 {v:Value}{x:PV}(a:v.cells.toList=[v])(h:CRep W v.cells.toList [x]):RepP W (fun _ _=>False) v x:=by
 have:=(h.2 0 (by simp)).1
 rw[a]at this;exact this
theorem AC6 {cs:Array Value}{pvs:List PV}(h:CRep W (Value.agg cs).cells.toList pvs):RepP W (fun _ _=>False) (.agg cs) (.agg pvs):=by
 obtain⟨h1,a⟩:=h;have hc:(Value.agg cs).cells.toList=cs.toList:=rfl;rw[hc]at h1 a;have e:∀i,cs.toList.getD i undef=cs.getD i undef:=fun i=>by simp[AZ3,AZ7]
 exact .agg cs pvs (by simpa using h1) (fun i b=>by rw[<- e];exact (a i b).2) fun i b=>by rw[<- e];exact (a i b).1
end
theorem Ax3 {n:Int}(hw:(Lit.int .u32 n).wf=true):∃p:BitVec 32,n=(p.toNat:Int):=by
 simp only[Lit.wf,IntKind.min,IntKind.max,IntKind.signed,IntKind.bits,AZ9,Lt]at hw;refine⟨BitVec.ofNat 32 n.toNat,?_⟩;rw[Bs9];have a:0<=n:=by have:=hw.1;simpa using this
 have h1:n<4294967296:=by have:=hw.2;simp at this;omega
 rw[Bi5 (by omega),Int.toNat_of_nonneg a]
theorem AC8 {W:World}(hL:laidMetH Tryz.prog Rows.attestBadsUptoRow.laid W):TabOk Tryz.prog W fun _ _=>False:=by
 rw[MakeChecks.laidMetH_plain _ _ _ (by kernel_rfl)]at hL;have b:Lib.TabIs Tryz.prog W "math/bits.deBruijn64tab" .u8 (Lib.deBruijn64tab.map fun (n:Nat)=>(n:Int)):=by refine Lib.tabIs_of_head (g:=3) (t:=(Tryz.prog.globals[3]?.map (·.type)).getD 0) (e:=(match Tryz.prog.underlying ((Tryz.prog.globals[3]?.map (·.type)).getD 0)with|some (.array _ e)=>e|_=>0)) (n:=64) (by kernel_rfl) (by kernel_rfl) (by kernel_rfl) (by kernel_rfl) (by kernel_rfl) (by kernel_rfl) (rest:=Rows.attestBadsUptoRow.laid.tail) ?_;exact hL
 intro g s j v hs a;have c:g=3:=by
  have key:∀k:Fin Tryz.prog.globals.size,((Tryz.prog.globals[k.1]?.map fun s=>s.name == "math/bits.deBruijn64tab")==some true)=true->k.1=3:=by decide +kernel
  have d:g<Tryz.prog.globals.size:=(Ba3.1 hs).1;refine key ⟨g,d⟩ ?_
  have:(s.name == "math/bits.deBruijn64tab")=true:=by
   unfold Ws at a;split at a
   .assumption
   simp at a
  simp[hs,this]
 subst c;unfold Ws at a;split at a
 .rw[Ba1]at a;obtain⟨n,hn,rfl⟩:=Bc1.1 a;have f:j<Lib.deBruijn64tab.length:=(Ba8.1 hn).1;refine⟨?_,fun h=>h⟩;rw[b.cell (by kernel_rfl) j (by simpa using f)];simp[AZ3,Ba1,hn]
 simp at a
end Go.AM
namespace Go.AM
open Go.RowKit Go.ChangeShapes Go.WideShapes Go.ChangeAt Go.Deep Go.Proofs Go.Proofs.YtlbooedblpdmaaaGreatDoor
set_option maxRecDepth 100000
def Al1 (x:I9):Prop:=((Lit.int .i64 x.Parent).wf=true)/\(True)
def GS (x:I9):Nat:=1+(x.Name.length+1)+1
def Zo:MJ Tryz.prog Kf G2 Al1 GS:=by intro m pvs h;obtain⟨m0,h,a⟩:=AY Tryz.underlying112 h;obtain⟨a0,b0,p0,q0,rfl,b,h,c⟩:=D7 h;obtain⟨x0,l0,w0,s0⟩:=U5 Bf9 _ _ b;have s0:1<=a0:=s0;obtain⟨a1,b1,p1,q1,rfl,h1,h,d⟩:=D7 h;obtain⟨x1,l1,w1,s1⟩:=ST Bn5 _ _ h1;have s1:(x1.length+1)<=a1:=s1;obtain rfl:=CO h;exact⟨⟨x0,x1⟩,LeDs.append l0 (LeDs.append l1 LeDs.nil),⟨w0,w1⟩,by simp only[GS];omega⟩
def JI (x:Oh):Prop:=((Lit.int .u32 x.Plus).wf=true)/\((Lit.int .u32 x.Minus).wf=true)
def BU (x:Oh):Nat:=1+1+1
def EW:MJ Tryz.prog E3 A0 JI BU:=by intro m pvs h;obtain⟨m0,h,a⟩:=AY Tryz.underlying72 h;obtain⟨a0,b0,p0,q0,rfl,b,h,c⟩:=D7 h;obtain⟨x0,l0,w0,s0⟩:=U5 Bm7 _ _ b;have s0:1<=a0:=s0;obtain⟨a1,b1,p1,q1,rfl,h1,h,d⟩:=D7 h;obtain⟨x1,l1,w1,s1⟩:=U5 Bm7 _ _ h1;have s1:1<=a1:=s1;obtain rfl:=CO h;exact⟨⟨x0,x1⟩,LeDs.append l0 (LeDs.append l1 LeDs.nil),⟨w0,w1⟩,by simp only[BU];omega⟩
def XS {x:Oh}(h:JI x):okS x:=by obtain⟨p,hp⟩:=Ax3 h.1;obtain⟨q,a⟩:=Ax3 h.2;exact⟨p,q,by cases x;simp_all [sOf]⟩
abbrev XT (x:Pat):Prop:=okPS x
abbrev Uo (x:Pat):Nat:=1
def Up:MJ Tryz.prog EC E8 XT Uo:=by
 intro m
 induction m using Nat.strongRecOn with
 |ind m ih=>
 intro pvs h;obtain⟨m0,h,d⟩:=AY Tryz.underlying87 h;obtain⟨a0,b0,p0,q0,rfl,j,h,l⟩:=D7 h;obtain⟨x0,l0,w0,s0⟩:=U5 Bf9 _ _ j;have s0:1<=a0:=s0;obtain⟨a1,b1,p1,q1,rfl,h1,h,o⟩:=D7 h;obtain⟨x1,l1,w1,s1⟩:=EW _ _ h1;have s1:BU x1<=a1:=s1;obtain⟨a2,b2,p2,q2,rfl,q,h,r⟩:=D7 h;obtain⟨x2,l2,w2,s2⟩:=YH Bl4 _ _ q;have s2:1<=a2:=s2;obtain⟨a3,b3,p3,q3,rfl,s,h,t⟩:=D7 h;obtain⟨x3,l3,w3,s3⟩:=U5 Bf9 _ _ s;have s3:1<=a3:=s3;obtain⟨a4,b4,p4,q4,rfl,u,h,v⟩:=D7 h;obtain⟨x4,l4,w4,s4⟩:=U5 Bf9 _ _ u;have s4:1<=a4:=s4;obtain⟨a5,b5,p5,q5,rfl,w,h,y⟩:=D7 h;obtain rfl:=CO h;have a:Tryz.prog.cellsOf 87=7:=by kernel_rfl
 cases w with
 |int ht'=>rw[Bj6]at ht';cases ht'
 |bool ht'=>rw[Bj6]at ht';cases ht'
 |str ht'=>rw[Bj6]at ht';cases ht'
 |struct ht'=>rw[Bj6]at ht';cases ht'
 |arr ht'=>rw[Bj6]at ht';cases ht'
 | @slice _ _ e' n f ms ht' hl hel hm=>rw[Bj6]at ht';cases ht';rw[a];rw[Ps]at hm;obtain⟨g,c⟩:=choose_lt (α:=Pat) (p:=fun i x=>LeDs (f i) (E8 x)/\XT x/\1<=ms i) fun i b=>ih (ms i) (by have:=QE ms b;omega) _ (hel i b);exact⟨.mk x0 x1 x2 x3 x4 n g,LeDs.append l0 (LeDs.append l1 (LeDs.append l2 (LeDs.append l3 (LeDs.append l4 (.cons (.sl fun i b=>(c i b).1) .nil))))),⟨XS w1,fun i b=>(c i b).2.1⟩,by show 1<=m;omega⟩
def Wk (x:EV):Prop:=((Lit.int .i64 x.From).wf=true)/\((Lit.int .u32 x.Clear).wf=true)/\(JI x.Set)/\((Lit.int .u32 x.Take).wf=true)/\((Lit.int .i64 x.Of).wf=true)
def KE (x:EV):Nat:=1+1+BU x.Set+1+1+1
def Zp:MJ Tryz.prog Ad5 U6 Wk KE:=by intro m pvs h;obtain⟨m0,h,a⟩:=AY Tryz.underlying142 h;obtain⟨a0,b0,p0,q0,rfl,b,h,c⟩:=D7 h;obtain⟨x0,l0,w0,s0⟩:=U5 Bf9 _ _ b;have s0:1<=a0:=s0;obtain⟨a1,b1,p1,q1,rfl,h1,h,d⟩:=D7 h;obtain⟨x1,l1,w1,s1⟩:=U5 Bm7 _ _ h1;have s1:1<=a1:=s1;obtain⟨a2,b2,p2,q2,rfl,f,h,g⟩:=D7 h;obtain⟨x2,l2,w2,s2⟩:=EW _ _ f;have s2:BU x2<=a2:=s2;obtain⟨a3,b3,p3,q3,rfl,i,h,j⟩:=D7 h;obtain⟨x3,l3,w3,s3⟩:=U5 Bm7 _ _ i;have s3:1<=a3:=s3;obtain⟨a4,b4,p4,q4,rfl,l,h,n⟩:=D7 h;obtain⟨x4,l4,w4,s4⟩:=U5 Bf9 _ _ l;have s4:1<=a4:=s4;obtain rfl:=CO h;exact⟨⟨x0,x1,x2,x3,x4⟩,LeDs.append l0 (LeDs.append l1 (LeDs.append l2 (LeDs.append l3 (LeDs.append l4 LeDs.nil)))),⟨w0,w1,w2,w3,w4⟩,by simp only[KE];omega⟩
def XU (x:Law):Prop:=(True)/\(XT x.Left)/\(XT x.Right)/\(∀i,i<x.If.n->JI (x.If.g i))/\(∀i,i<x.Out.n->Wk (x.Out.g i))/\((Lit.int .i64 x.Mode).wf=true)
def JJ (x:Law):Nat:=(x.Name.length+1)+Uo x.Left+Uo x.Right+(GT (fun i=>BU (x.If.g i)) x.If.n+1)+(GT (fun i=>KE (x.Out.g i)) x.Out.n+1)+1+1
def Al2:MJ Tryz.prog P9 B5 XU JJ:=by intro m pvs h;obtain⟨m0,h,a⟩:=AY Tryz.underlying90 h;obtain⟨a0,b0,p0,q0,rfl,b,h,c⟩:=D7 h;obtain⟨x0,l0,w0,s0⟩:=ST Bn5 _ _ b;have s0:(x0.length+1)<=a0:=s0;obtain⟨a1,b1,p1,q1,rfl,h1,h,d⟩:=D7 h;obtain⟨x1,l1,w1,s1⟩:=Up _ _ h1;have s1:Uo x1<=a1:=s1;obtain⟨a2,b2,p2,q2,rfl,f,h,j⟩:=D7 h;obtain⟨x2,l2,w2,s2⟩:=Up _ _ f;have s2:Uo x2<=a2:=s2;obtain⟨a3,b3,p3,q3,rfl,l,h,o⟩:=D7 h;obtain⟨x3,l3,w3,s3⟩:=X6 Bo9 (by kernel_rfl) EW _ _ l;have s3:(GT (fun i=>BU (x3.g i)) x3.n+1)<=a3:=s3;obtain⟨a4,b4,p4,q4,rfl,q,h,r⟩:=D7 h;obtain⟨x4,l4,w4,s4⟩:=X6 Tryz.underlying88 (by kernel_rfl) Zp _ _ q;have s4:(GT (fun i=>KE (x4.g i)) x4.n+1)<=a4:=s4;obtain⟨a5,b5,p5,q5,rfl,s,h,t⟩:=D7 h;obtain⟨x5,l5,w5,s5⟩:=U5 Bf9 _ _ s;have s5:1<=a5:=s5;obtain rfl:=CO h;exact⟨⟨x0,x1,x2,x3,x4,x5⟩,LeDs.append l0 (LeDs.append l1 (LeDs.append l2 (LeDs.append l3 (LeDs.append l4 (LeDs.append l5 LeDs.nil))))),⟨w0,w1,w2,w3,w4,w5⟩,by simp only[JJ];omega⟩
def PQ (x:A3):Prop:=(∀i,i<x.Tree.n->Al1 (x.Tree.g i))/\(∀i,i<x.Laws.n->XU (x.Laws.g i))/\(∀i,i<x.On.n->∀i',i' < (x.On.g i).n->(Lit.int .i64 ((x.On.g i).g i')).wf=true)
def Ej (x:A3):Nat:=(GT (fun i=>GS (x.Tree.g i)) x.Tree.n+1)+(GT (fun i=>JJ (x.Laws.g i)) x.Laws.n+1)+(GT (fun i=>GT (fun i=>1) (x.On.g i).n+1) x.On.n+1)+1
def PS:MJ Tryz.prog QY A7 PQ Ej:=by intro m pvs h;obtain⟨m0,h,a⟩:=AY Tryz.underlying26 h;obtain⟨a0,b0,p0,q0,rfl,b,h,c⟩:=D7 h;obtain⟨x0,l0,w0,s0⟩:=X6 Tryz.underlying22 (by kernel_rfl) Zo _ _ b;have s0:(GT (fun i=>GS (x0.g i)) x0.n+1)<=a0:=s0;obtain⟨a1,b1,p1,q1,rfl,h1,h,d⟩:=D7 h;obtain⟨x1,l1,w1,s1⟩:=X6 Tryz.underlying23 (by kernel_rfl) Al2 _ _ h1;have s1:(GT (fun i=>JJ (x1.g i)) x1.n+1)<=a1:=s1;obtain⟨a2,b2,p2,q2,rfl,f,h,j⟩:=D7 h;obtain⟨x2,l2,w2,s2⟩:=X6 Tryz.underlying24 (by kernel_rfl) (X6 Tryz.underlying43 (by kernel_rfl) (U5 Bf9)) _ _ f;have s2:(GT (fun i=>GT (fun i=>1) (x2.g i).n+1) x2.n+1)<=a2:=s2;obtain rfl:=CO h;exact⟨⟨x0,x1,x2⟩,LeDs.append l0 (LeDs.append l1 (LeDs.append l2 LeDs.nil)),⟨w0,w1,w2⟩,by simp only[Ej];omega⟩
end Go.AM
namespace Go.AM
def Uq {f:Nat->Nat}(h:∀i,1<=f i):∀n,n<=GT f n
 |0=>Bi0 _
 |n+1=>by
  have:=Uq h n
  have:=h n
  show n+1<=GT f n+f n;omega
def AX7 {x:EV}(h:Wk x):okO x:=⟨XS h.2.2.1,Ax3 h.2.1,Ax3 h.2.2.2.1⟩
def Ax4 {l:Law}(h:XU l)(hs:JJ l<=1048576):LH l:=by obtain⟨_,h1,b,c,d,_⟩:=h;unfold JJ at hs;have g1:=Uq (f:=fun i=>BU (l.If.g i)) (fun i=>by simp only[BU];omega) l.If.n;have g2:=Uq (f:=fun i=>KE (l.Out.g i)) (fun i=>by simp only[KE];omega) l.Out.n;exact⟨⟨h1,b,fun i a=>XS (c i a)⟩,by omega,by omega,by omega,fun i a=>AX7 (d i a)⟩
def Al3 {x:Sl Law}(h:∀i,i<x.n->XU (x.g i))(hs:GT (fun i=>JJ (x.g i)) x.n+1<=1048576):EL x:=fun i a=>
 Ax4 (h i a) (by have:=QE (fun i=>JJ (x.g i)) a;have this:JJ (x.g i)<=_:=this;omega)
def AP8 {x:Sl Oh}(h:∀i,i<x.n->JI (x.g i)):okA x:=fun i a=>XS (h i a)
def Zu {h:A3}(w:PQ h)(hs:Ej h<=1048576):Q2 h:=by
 unfold Ej at hs;have g:=Uq (f:=fun i=>GT (fun i=>1) (h.On.g i).n+1) (fun i=>by omega) h.On.n;refine⟨Al3 w.2.1 (by omega),fun v a=>?_,by omega,fun v a=>?_⟩
 .have:=QE (fun i=>GS (h.Tree.g i)) a
  have this:GS (h.Tree.g v)<=GT (fun i=>GS (h.Tree.g i)) h.Tree.n:=this;have e:GS (h.Tree.g v)=1+((h.Tree.g v).Name.length+1)+1:=rfl;omega
 have g2:=QE (fun i=>GT (fun i=>1) (h.On.g i).n+1) a;have g2:GT (fun i=>1) (h.On.g v).n+1<=_:=g2;have g3:=Uq (f:=fun _=>1) (fun i=>by omega) (h.On.g v).n;omega
end Go.AM
namespace Go.AM
open Go.RowKit Go.ChangeShapes Go.WideShapes Go.ChangeAt Go.Deep Go.Proofs Go.Proofs.YtlbooedblpdmaaaGreatDoor
set_option maxRecDepth 100000
end Go.AM
namespace Go.AM
end Go.AM
