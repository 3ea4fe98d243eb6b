/- What a law's walk and its plain proof need, part 8: no condition of its own. -/
import Derived.JoinedOf
import Derived.Test.YtodhnkfgkgkngaaGreatDoorWD
import Derived.Test.YtodhnkfgkgkngaaGreatDoorWE
import Derived.Test.YtodhnkfgkgkngaaGreatDoorCards
import Derived.Test.YtodhnkfgkgkngaaGreatDoorTie
import Derived.WalkKit
import Derived.ProofKit
import Derived.OpenShut
import Derived.Deep.DeepHandedRow
import Derived.MakeChecks
import Derived.Lib.LaidTab
import Derived.Test.YtodhnkfgkgkngaaGreatDoorWG
set_option linter.defProp false
set_option linter.unusedSimpArgs false
set_option linter.unusedVariables false
set_option linter.unusedSectionVars false
namespace Go.AM
def Ak6:=@Go.Proofs.Tryz.underlying3
def Al5:=@Go.Proofs.Tryz.underlying5
def Am6:=@Go.Proofs.Tryz.underlying52
def Ao8:=@Go.Proofs.Tryz.underlying4
def Ap9:=@Go.Proofs.Tryz.underlying49
def As2:=@Go.Proofs.Tryz.underlying9
open Go.Rows
def jA_ (P:Program)(f:FuncId)(fn:Func)(s:ChangeSpec)(c:OpenClaim):Bool:=
 (c.wf (OpenSpec.ofChange s))&&(laidOutB P)&&(mapsRowed P)&&(fn.params.all (P.readableRec ·))&&(namedTie P c.named s.vars)&&(c.stops==[])&&(P.stops==[])&&(c.knobs==[])&&(P.stopKnobs==[])
def jB_ (P:Program)(f:FuncId)(fn:Func)(s:ChangeSpec)(c:OpenClaim):Bool:=
 (c.inPlace==P.inPlace f)&&(c.unfollowed==P.unfollowed f)
def jC_ (P:Program)(f:FuncId)(fn:Func)(s:ChangeSpec)(c:OpenClaim):Bool:=
 (c.recurses==P.recurses f)&&(c.named==P.varsNamed f)
def jD_ (P:Program)(f:FuncId)(fn:Func)(s:ChangeSpec)(c:OpenClaim):Bool:=
 (c.maps==(fn.params.toList++s.plain.varTypes P).any (P.mapsRec ·))&&(c.ifaces==(fn.params.toList++s.plain.varTypes P).any (P.ifacesRec ·))&&(c.mapsOut==P.mapsAmong fn.resultTypes.toList)&&(c.loops==(fn.params.toList++s.plain.varTypes P).any (P.loopsFrom ·))&&(c.wideKeys==(fn.params.toList++s.plain.varTypes P++fn.resultTypes.toList).any (P.wideKeysFrom ·))&&(s.vars.all (P.varReadable ·))&&(fn.resultTypes.all (fun t=>P.readableRec t&&decide (t<P.types.size)))&&(c.ifacesOut==fn.resultTypes.toList.any (P.ifacesRec ·))&&(c.loopsOut==fn.resultTypes.toList.any (P.loopsFrom ·))&&(c.plainKeys==P.plainKeys)&&(c.shortTexts.isNone)
def jE_ (P:Program)(f:FuncId)(fn:Func)(s:ChangeSpec)(c:OpenClaim):Bool:=
 (P.stopsHeard)&&(P.mayEnter)
def jF_ (P:Program)(f:FuncId)(fn:Func)(s:ChangeSpec)(c:OpenClaim):Bool:=
 (c.lifted==P.liftsFinal)&&(P.make==some c.make)&&(c.kinds==(if c.domain.isEmpty then []else fn.params.toList.map fun t=>match P.underlying t with|some (.int k)=>some k|_=>none))&&(c.pinned==c.pinnedBy)&&(c.veiled==(fn.params.toList++s.plain.varTypes P++fn.resultTypes.toList).any (P.veiledRec ·))&&(c.veiledFits P fn.params.toList (fn.params.toList++s.plain.varTypes P++fn.resultTypes.toList))
theorem Tq {P:Program}{f:FuncId}{fn:Func}{s:ChangeSpec}{c:OpenClaim}(h1:jA_ P f fn s c=true)(a:jB_ P f fn s c=true)(b:jC_ P f fn s c=true)(d:jD_ P f fn s c=true)(g:jE_ P f fn s c=true)(i:jF_ P f fn s c=true):joinedFacts P f fn s c=true:=by
 have:joinedFacts P f fn s c=(jA_ P f fn s c&&jB_ P f fn s c&&jC_ P f fn s c&&jD_ P f fn s c&&jE_ P f fn s c&&jF_ P f fn s c):=by simp only[joinedFacts,jA_,jB_,jC_,jD_,jE_,jF_,Bool.and_assoc];rfl
 rw[this,h1,a,b,d,g,i];rfl
end Go.AM
namespace Go.AM
open Go.RowKit Go.ChangeShapes Go.WideShapes Go.ChangeAt Go.Deep Go.Proofs Go.Proofs.YtodhnkfgkgkngaaGreatDoor
theorem XO:Kids Tryz.prog (· < Tryz.prog.types.size):=kids_rows (by kernel_rfl) (by kernel_rfl)
theorem Nc {H:Type}:∀es:List (DataW H),Pc (es.map Rows.uptoBulk)=Rows.uptoBulkAll es
 |[]=>rfl
 |d::r=>by simp only[Ag3,NO,Rows.uptoBulkAll,Nc r]
theorem XP {H:Type}:Bulk (H:=H) Rows.uptoBulk where
 int k n:=by simp[Rows.uptoBulk]
 bool b:=by simp[Rows.uptoBulk]
 str l:=by simp[Rows.uptoBulk]
 nil:=by simp[Rows.uptoBulk]
 slice es sp:=by simp only[Rows.uptoBulk,Nc];omega
 agg ps:=by simp only[Rows.uptoBulk,Nc];omega
section
variable {H:Type}{enc:TypeId×Value->H}{P:Program}{W:World}
theorem To {v:Value}{x:PV}(a:v.cells.toList=[v])(h:CRep W v.cells.toList [x]):RepP W (fun _ _=>False) v x:=by
 have:=(h.2 0 (by simp)).1
 rw[a]at this;exact this
theorem XQ {cs:Array Value}{pvs:List PV}(h:CRep W (Value.agg cs).cells.toList pvs):RepP W (fun _ _=>False) (.agg cs) (.agg pvs):=by
 obtain⟨h1,a⟩:=h;have hc:(Value.agg cs).cells.toList=cs.toList:=rfl;rw[hc]at h1 a;have e:∀i,cs.toList.getD i undef=cs.getD i undef:=fun i=>by simp[Ae0,Ae2]
 exact .agg cs pvs (by simpa using h1) (fun i b=>by rw[<- e];exact (a i b).2) fun i b=>by rw[<- e];exact (a i b).1
end
theorem Xi {n:Int}(hw:(Lit.int .u32 n).wf=true):∃p:BitVec 32,n=(p.toNat:Int):=by
 simp only[Lit.wf,IntKind.min,IntKind.max,IntKind.signed,IntKind.bits,Ae6,decide_eq_true_eq]at hw;refine⟨BitVec.ofNat 32 n.toNat,?_⟩;rw[Au2];have a:0<=n:=by have:=hw.1;simpa using this
 have h1:n<4294967296:=by have:=hw.2;simp at this;omega
 rw[Ap0 (by omega),Int.toNat_of_nonneg a]
theorem XR {n:Int}(h:(Lit.int .u8 n).wf=true):∃k:Nat,n=(k:Int)/\k<256:=by
 simp only[Lit.wf,IntKind.min,IntKind.max,IntKind.signed,IntKind.bits,Ae6,decide_eq_true_eq]at h;have a:0<=n:=by have:=h.1;simpa using this
 have h1:n<256:=by have:=h.2;simp at this;omega
 exact⟨n.toNat,by omega,by omega⟩
theorem XS {W:World}(hL:laidMetH Tryz.prog Rows.historyFormsUptoRow.laid W):TabOk Tryz.prog W fun _ _=>False:=by
 rw[MakeChecks.laidMetH_plain _ _ _ (by kernel_rfl)]at hL;have b:Lib.TabIs Tryz.prog W "math/bits.deBruijn64tab" .u8 (Lib.deBruijn64tab.map fun (n:Nat)=>(n:Int)):=by refine Lib.tabIs_of_head (g:=3) (t:=(Tryz.prog.globals[3]?.map (·.type)).getD 0) (e:=(match Tryz.prog.underlying ((Tryz.prog.globals[3]?.map (·.type)).getD 0)with|some (.array _ e)=>e|_=>0)) (n:=64) (by kernel_rfl) (by kernel_rfl) (by kernel_rfl) (by kernel_rfl) (by kernel_rfl) (by kernel_rfl) (rest:=Rows.historyFormsUptoRow.laid.tail) ?_;exact hL
 intro g s j v hs a;have c:g=3:=by
  have key:∀k:Fin Tryz.prog.globals.size,((Tryz.prog.globals[k.1]?.map fun s=>s.name == "math/bits.deBruijn64tab")==some true)=true->k.1=3:=by decide +kernel
  have d:g<Tryz.prog.globals.size:=(Ae8.1 hs).1;refine key ⟨g,d⟩ ?_
  have:(s.name == "math/bits.deBruijn64tab")=true:=by
   unfold QL at a;split at a
   ·assumption
   ·simp at a
  simp[hs,this]
 subst c;unfold QL at a;split at a
 ·rw[Ae7]at a;obtain⟨n,hn,rfl⟩:=Ag1.1 a;have f:j<Lib.deBruijn64tab.length:=(Af3.1 hn).1;refine⟨?_,fun h=>h⟩;rw[b.cell (by kernel_rfl) j (by simpa using f)];simp[Ae0,Ae7,hn]
 ·simp at a
end Go.AM
namespace Go.AM
open Go.RowKit Go.ChangeShapes Go.WideShapes Go.ChangeAt Go.Deep Go.Proofs Go.Proofs.YtodhnkfgkgkngaaGreatDoor
set_option maxRecDepth 100000
def Ik (x:Sound):Prop:=((Lit.int .u32 x.Plus).wf=true)/\((Lit.int .u32 x.Minus).wf=true)
def Y7 (x:Sound):Nat:=1+1+1
theorem Fz:Kb Tryz.prog B3 A0 Ik Y7:=by intro m pvs h;obtain⟨m0,h,a⟩:=Aj Tryz.underlying51 h;obtain⟨a0,b0,p0,q0,rfl,b,h,c⟩:=C9 h;obtain⟨x0,l0,w0,s0⟩:=N0 Ap9 _ _ b;have s0:1<=a0:=s0;obtain⟨a1,b1,p1,q1,rfl,h1,h,d⟩:=C9 h;obtain⟨x1,l1,w1,s1⟩:=N0 Ap9 _ _ h1;have s1:1<=a1:=s1;obtain rfl:=Cz h;exact⟨⟨x0,x1⟩,LeDs.append l0 (LeDs.append l1 LeDs.nil),⟨w0,w1⟩,by simp only[Y7];omega⟩
theorem Vo {x:Sound}(h:Ik x):okS x:=by obtain⟨p,hp⟩:=Xi h.1;obtain⟨q,a⟩:=Xi h.2;exact⟨p,q,by cases x;simp_all [sOf]⟩
abbrev RQ (x:Pat):Prop:=okPS x
abbrev JO (x:Pat):Nat:=szP x+1
theorem Vp {f g:Nat->Nat}:∀n,(∀i,i<n->f i<=g i)->((List.range n).map f).sum<=FD g n
 |0,_=>Am1 _
 |n+1,h=>by rw[Ak4,Al3,At2];have h1:=Vp n fun i a=>h i (by omega);have b:=h n (by omega);show _<=FD g n+g n;simp;omega
theorem OY:Kb Tryz.prog CC B2 RQ JO:=by
 intro m
 induction m using Nat.strongRecOn with
 |ind m ih=>
 intro pvs h;obtain⟨m0,h,d⟩:=Aj Tryz.underlying54 h;obtain⟨a0,b0,p0,q0,rfl,j,h,l⟩:=C9 h;obtain⟨x0,l0,w0,s0⟩:=N0 Ak6 _ _ j;have s0:1<=a0:=s0;obtain⟨a1,b1,p1,q1,rfl,h1,h,o⟩:=C9 h;obtain⟨x1,l1,w1,s1⟩:=Fz _ _ h1;have s1:Y7 x1<=a1:=s1;obtain⟨a2,b2,p2,q2,rfl,q,h,r⟩:=C9 h;obtain⟨x2,l2,w2,s2⟩:=SM Ao8 _ _ q;have s2:1<=a2:=s2;obtain⟨a3,b3,p3,q3,rfl,s,h,t⟩:=C9 h;obtain⟨x3,l3,w3,s3⟩:=N0 Ak6 _ _ s;have s3:1<=a3:=s3;obtain⟨a4,b4,p4,q4,rfl,u,h,v⟩:=C9 h;obtain⟨x4,l4,w4,s4⟩:=N0 Ak6 _ _ u;have s4:1<=a4:=s4;obtain⟨a5,b5,p5,q5,rfl,w,h,y⟩:=C9 h;obtain rfl:=Cz h;have b:Tryz.prog.cellsOf 54=7:=by kernel_rfl
 cases w with
 |int ht'=>rw[Am6]at ht';cases ht'
 |bool ht'=>rw[Am6]at ht';cases ht'
 |str ht'=>rw[Am6]at ht';cases ht'
 |struct ht'=>rw[Am6]at ht';cases ht'
 |arr ht'=>rw[Am6]at ht';cases ht'
 | @slice _ _ e' n f ms ht' hl hel hm=>
  rw[Am6]at ht';cases ht';rw[b];rw[Ll]at hm;obtain⟨g,c⟩:=choose_lt (α:=Pat) (p:=fun i x=>LeDs (f i) (B2 x)/\RQ x/\szP x+1<=ms i) fun i a=>ih (ms i) (by have:=PN ms a;omega) _ (hel i a);exact⟨.mk x0 x1 x2 x3 x4 n g,LeDs.append l0 (LeDs.append l1 (LeDs.append l2 (LeDs.append l3 (LeDs.append l4 (.cons (.sl fun i a=>(c i a).1) .nil))))),⟨Vo w1,fun i a=>(c i a).2.1⟩,by
   have z:=Vp (f:=fun i=>szP (g i)+1) (g:=ms) n fun i a=>(c i a).2.2;have h9:szP (.mk x0 x1 x2 x3 x4 n g)=1+((List.range n).map fun i=>szP (g i)+1).sum:=by rw[szP]
   show szP _+1<=m;omega⟩
def QC (x:Z4):Prop:=((Lit.int .i64 x.From).wf=true)/\((Lit.int .u32 x.Clear).wf=true)/\(Ik x.Set)/\((Lit.int .u32 x.Take).wf=true)/\((Lit.int .i64 x.Of).wf=true)
def Ew (x:Z4):Nat:=1+1+Y7 x.Set+1+1+1
theorem Ti:Kb Tryz.prog Ox O2 QC Ew:=by intro m pvs h;obtain⟨m0,h,a⟩:=Aj Tryz.underlying114 h;obtain⟨a0,b0,p0,q0,rfl,b,h,c⟩:=C9 h;obtain⟨x0,l0,w0,s0⟩:=N0 Ak6 _ _ b;have s0:1<=a0:=s0;obtain⟨a1,b1,p1,q1,rfl,h1,h,d⟩:=C9 h;obtain⟨x1,l1,w1,s1⟩:=N0 Ap9 _ _ h1;have s1:1<=a1:=s1;obtain⟨a2,b2,p2,q2,rfl,f,h,g⟩:=C9 h;obtain⟨x2,l2,w2,s2⟩:=Fz _ _ f;have s2:Y7 x2<=a2:=s2;obtain⟨a3,b3,p3,q3,rfl,i,h,j⟩:=C9 h;obtain⟨x3,l3,w3,s3⟩:=N0 Ap9 _ _ i;have s3:1<=a3:=s3;obtain⟨a4,b4,p4,q4,rfl,l,h,n⟩:=C9 h;obtain⟨x4,l4,w4,s4⟩:=N0 Ak6 _ _ l;have s4:1<=a4:=s4;obtain rfl:=Cz h;exact⟨⟨x0,x1,x2,x3,x4⟩,LeDs.append l0 (LeDs.append l1 (LeDs.append l2 (LeDs.append l3 (LeDs.append l4 LeDs.nil)))),⟨w0,w1,w2,w3,w4⟩,by simp only[Ew];omega⟩
def RR (x:Law):Prop:=(True)/\(RQ x.Left)/\(RQ x.Right)/\(∀i,i<x.If.n->Ik (x.If.g i))/\(∀i,i<x.Out.n->QC (x.Out.g i))/\((Lit.int .i64 x.Mode).wf=true)
def Bv (x:Law):Nat:=(x.Name.length+1)+JO x.Left+JO x.Right+(FD (fun i=>Y7 (x.If.g i)) x.If.n+1)+(FD (fun i=>Ew (x.Out.g i)) x.Out.n+1)+1+1
theorem Vq:Kb Tryz.prog P1 A8 RR Bv:=by intro m pvs h;obtain⟨m0,h,a⟩:=Aj Tryz.underlying57 h;obtain⟨a0,b0,p0,q0,rfl,b,h,c⟩:=C9 h;obtain⟨x0,l0,w0,s0⟩:=Uu As2 _ _ b;have s0:(x0.length+1)<=a0:=s0;obtain⟨a1,b1,p1,q1,rfl,h1,h,d⟩:=C9 h;obtain⟨x1,l1,w1,s1⟩:=OY _ _ h1;have s1:JO x1<=a1:=s1;obtain⟨a2,b2,p2,q2,rfl,f,h,j⟩:=C9 h;obtain⟨x2,l2,w2,s2⟩:=OY _ _ f;have s2:JO x2<=a2:=s2;obtain⟨a3,b3,p3,q3,rfl,l,h,o⟩:=C9 h;obtain⟨x3,l3,w3,s3⟩:=Bi Tryz.underlying27 (by kernel_rfl) Fz _ _ l;have s3:(FD (fun i=>Y7 (x3.g i)) x3.n+1)<=a3:=s3;obtain⟨a4,b4,p4,q4,rfl,q,h,r⟩:=C9 h;obtain⟨x4,l4,w4,s4⟩:=Bi Tryz.underlying55 (by kernel_rfl) Ti _ _ q;have s4:(FD (fun i=>Ew (x4.g i)) x4.n+1)<=a4:=s4;obtain⟨a5,b5,p5,q5,rfl,s,h,t⟩:=C9 h;obtain⟨x5,l5,w5,s5⟩:=N0 Ak6 _ _ s;have s5:1<=a5:=s5;obtain rfl:=Cz h;exact⟨⟨x0,x1,x2,x3,x4,x5⟩,LeDs.append l0 (LeDs.append l1 (LeDs.append l2 (LeDs.append l3 (LeDs.append l4 (LeDs.append l5 LeDs.nil))))),⟨w0,w1,w2,w3,w4,w5⟩,by simp only[Bv];omega⟩
end Go.AM
namespace Go.AM
theorem OZ {f:Nat->Nat}(h:∀i,1<=f i):∀n,n<=FD f n
 |0=>Am1 _
 |n+1=>by
  have:=OZ h n
  have:=h n
  show n+1<=FD f n+f n;omega
theorem Ac8 {x:Z4}(h:QC x):okO x:=⟨Vo h.2.2.1,Xi h.2.1,Xi h.2.2.2.1⟩
theorem Xj {l:Law}(h:RR l)(hs:Bv l<=1048576):JJ l:=by obtain⟨_,h1,b,c,d,_⟩:=h;unfold Bv at hs;have g1:=OZ (f:=fun i=>Y7 (l.If.g i)) (fun i=>by simp only[Y7];omega) l.If.n;have g2:=OZ (f:=fun i=>Ew (l.Out.g i)) (fun i=>by simp only[Ew];omega) l.Out.n;exact⟨⟨h1,b,fun i a=>Vo (c i a)⟩,by omega,by omega,by omega,fun i a=>Ac8 (d i a)⟩
theorem Vr {x:Sl Law}(h:∀i,i<x.n->RR (x.g i))(hs:FD (fun i=>Bv (x.g i)) x.n+1<=1048576):OO x:=fun i a=>
 Xj (h i a) (by have:=PN (fun i=>Bv (x.g i)) a;have this:Bv (x.g i)<=_:=this;omega)
theorem Vs {x:Sl Law}(hs:FD (fun i=>Bv (x.g i)) x.n+1<=1048576):GD x:=fun i a=>by
 have:=PN (fun i=>Bv (x.g i)) a
 have b:Bv (x.g i)<=1048576:=by have this:Bv (x.g i)<=FD (fun i=>Bv (x.g i)) x.n:=this;omega
 unfold Bv at b;have p1:JO (x.g i).Left=szP (x.g i).Left+1:=rfl;have p2:JO (x.g i).Right=szP (x.g i).Right+1:=rfl;have g1:=OZ (f:=fun j=>Y7 ((x.g i).If.g j)) (fun j=>by simp only[Y7];omega) (x.g i).If.n;have g2:=OZ (f:=fun j=>Ew ((x.g i).Out.g j)) (fun j=>by simp only[Ew];omega) (x.g i).Out.n;exact⟨by omega,by omega,by omega,by omega⟩
end Go.AM
namespace Go.AM
open Go.RowKit Go.ChangeShapes Go.WideShapes Go.ChangeAt Go.Deep Go.Proofs Go.Proofs.YtodhnkfgkgkngaaGreatDoor
set_option maxRecDepth 100000
def RU (x:DX):Prop:=(∀i,i<x.Parents.n->(Lit.int .u8 (x.Parents.g i)).wf=true)/\(∀i,i<x.Laws.n->RR (x.Laws.g i))/\(∀i,i<x.On.n->(Lit.int .u16 (x.On.g i)).wf=true)
def CL (x:DX):Nat:=(FD (fun i=>1) x.Parents.n+1)+(FD (fun i=>Bv (x.Laws.g i)) x.Laws.n+1)+(FD (fun i=>1) x.On.n+1)+1
theorem Pd:Kb Tryz.prog Qf AY RU CL:=by intro m pvs h;obtain⟨m0,h,a⟩:=Aj Tryz.underlying63 h;obtain⟨a0,b0,p0,q0,rfl,b,h,c⟩:=C9 h;obtain⟨x0,l0,w0,s0⟩:=Bi Tryz.underlying60 (by kernel_rfl) (N0 Al5) _ _ b;have s0:(FD (fun i=>1) x0.n+1)<=a0:=s0;obtain⟨a1,b1,p1,q1,rfl,h1,h,d⟩:=C9 h;obtain⟨x1,l1,w1,s1⟩:=Bi Tryz.underlying23 (by kernel_rfl) Vq _ _ h1;have s1:(FD (fun i=>Bv (x1.g i)) x1.n+1)<=a1:=s1;obtain⟨a2,b2,p2,q2,rfl,f,h,j⟩:=C9 h;obtain⟨x2,l2,w2,s2⟩:=Bi Tryz.underlying61 (by kernel_rfl) (N0 Tryz.underlying130) _ _ f;have s2:(FD (fun i=>1) x2.n+1)<=a2:=s2;obtain rfl:=Cz h;exact⟨⟨x0,x1,x2⟩,LeDs.append l0 (LeDs.append l1 (LeDs.append l2 LeDs.nil)),⟨w0,w1,w2⟩,by simp only[CL];omega⟩
end Go.AM
namespace Go.AM
theorem Ac9 {n:Int}(h:(Lit.int .u16 n).wf=true):∃k:Nat,n=(k:Int)/\k<65536:=by
 simp only[Lit.wf,IntKind.min,IntKind.max,IntKind.signed,IntKind.bits,Ae6,decide_eq_true_eq]at h;have a:0<=n:=by have:=h.1;simpa using this
 have h1:n<65536:=by have:=h.2;simp at this;omega
 exact⟨n.toNat,by omega,by omega⟩
theorem RW {x:DX}(w:RU x)(hs:CL x<=1048576):MZ x:=by unfold CL at hs;exact⟨fun i a=>XR (w.1 i a),Vr w.2.1 (by omega),fun i a=>Ac9 (w.2.2 i a)⟩
theorem Tp {x:DX}(hs:CL x<=1048576):GD x.Laws:=by unfold CL at hs;exact Vs (by omega)
end Go.AM
