/- What a law's walk and its plain proof need, part 9: no condition of its own. -/
import Derived.JoinedOf
import Derived.Test.YtodhnkfgkgkngaaGreatDoorOD
import Derived.Test.YtodhnkfgkgkngaaGreatDoorOE
import Derived.Test.YtodhnkfgkgkngaaGreatDoorCards
import Derived.Test.YtodhnkfgkgkngaaGreatDoorTie
import Derived.WalkKit
import Derived.ProofKit
import Derived.OpenShut
import Derived.Deep.DeepHandedRow
import Derived.MakeChecks
import Derived.Lib.LaidTab
import Derived.Test.YtodhnkfgkgkngaaGreatDoorOG
import Derived.Test.YtodhnkfgkgkngaaGreatDoorOH
set_option linter.defProp false
set_option linter.unusedSimpArgs false
set_option linter.unusedVariables false
set_option linter.unusedSectionVars false
namespace Go.AM
def AE8:=@Go.Proofs.Tryz.underlying3
def AH1:=@Go.Proofs.Tryz.underlying52
def AI8:=@Go.Proofs.Tryz.underlying4
def AK1:=@Go.Proofs.Tryz.underlying49
def AM1:=@Go.Proofs.Tryz.underlying63
def AM2:=@Go.Proofs.Tryz.underlying27
def AN4:=@Go.Proofs.Tryz.underlying9
def AN5:=@Go.Proofs.Tryz.underlying5
open Go.Rows
def jA_ (P:Program)(f:FuncId)(fn:Func)(s:ChangeSpec)(c:OpenClaim):Bool:=
 (c.wf (OpenSpec.ofChange s))&&(laidOutB P)&&(mapsRowed P)&&(fn.params.all (P.readableRec ·))&&(namedTie P c.named s.vars)&&(c.stops==[])&&(P.stops==[])&&(c.knobs==[])&&(P.stopKnobs==[])
def jB_ (P:Program)(f:FuncId)(fn:Func)(s:ChangeSpec)(c:OpenClaim):Bool:=
 (c.inPlace==P.inPlace f)&&(c.unfollowed==P.unfollowed f)
def jC_ (P:Program)(f:FuncId)(fn:Func)(s:ChangeSpec)(c:OpenClaim):Bool:=
 (c.recurses==P.recurses f)&&(c.named==P.varsNamed f)
def jD_ (P:Program)(f:FuncId)(fn:Func)(s:ChangeSpec)(c:OpenClaim):Bool:=
 (c.maps==(fn.params.toList++s.plain.varTypes P).any (P.mapsRec ·))&&(c.ifaces==(fn.params.toList++s.plain.varTypes P).any (P.ifacesRec ·))&&(c.mapsOut==P.mapsAmong fn.resultTypes.toList)&&(c.loops==(fn.params.toList++s.plain.varTypes P).any (P.loopsFrom ·))&&(c.wideKeys==(fn.params.toList++s.plain.varTypes P++fn.resultTypes.toList).any (P.wideKeysFrom ·))&&(s.vars.all (P.varReadable ·))&&(fn.resultTypes.all (fun t=>P.readableRec t&&decide (t<P.types.size)))&&(c.ifacesOut==fn.resultTypes.toList.any (P.ifacesRec ·))&&(c.loopsOut==fn.resultTypes.toList.any (P.loopsFrom ·))&&(c.plainKeys==P.plainKeys)&&(c.shortTexts.isNone)
def jE_ (P:Program)(f:FuncId)(fn:Func)(s:ChangeSpec)(c:OpenClaim):Bool:=
 (P.stopsHeard)&&(P.mayEnter)
def jF_ (P:Program)(f:FuncId)(fn:Func)(s:ChangeSpec)(c:OpenClaim):Bool:=
 (c.lifted==P.liftsFinal)&&(P.make==some c.make)&&(c.kinds==(if c.domain.isEmpty then []else fn.params.toList.map fun t=>match P.underlying t with|some (.int k)=>some k|_=>none))&&(c.pinned==c.pinnedBy)&&(c.veiled==(fn.params.toList++s.plain.varTypes P++fn.resultTypes.toList).any (P.veiledRec ·))&&(c.veiledFits P fn.params.toList (fn.params.toList++s.plain.varTypes P++fn.resultTypes.toList))
theorem VJ {P:Program}{f:FuncId}{fn:Func}{s:ChangeSpec}{c:OpenClaim}(h1:jA_ P f fn s c=true)(a:jB_ P f fn s c=true)(b:jC_ P f fn s c=true)(d:jD_ P f fn s c=true)(g:jE_ P f fn s c=true)(i:jF_ P f fn s c=true):joinedFacts P f fn s c=true:=by
 have:joinedFacts P f fn s c=(jA_ P f fn s c&&jB_ P f fn s c&&jC_ P f fn s c&&jD_ P f fn s c&&jE_ P f fn s c&&jF_ P f fn s c):=by simp only[joinedFacts,jA_,jB_,jC_,jD_,jE_,jF_,Bool.and_assoc];rfl
 rw[this,h1,a,b,d,g,i];rfl
end Go.AM
namespace Go.AM
open Go.RowKit Go.ChangeShapes Go.WideShapes Go.ChangeAt Go.Deep Go.Proofs Go.Proofs.YtodhnkfgkgkngaaGreatDoor
theorem Ae2:Kids Tryz.prog (· < Tryz.prog.types.size):=kids_rows (by kernel_rfl) (by kernel_rfl)
theorem OJ {H:Type}:∀es:List (DataW H),QW (es.map Rows.uptoBulk)=Rows.uptoBulkAll es
 |[]=>rfl
 |d::r=>by simp only[AA7,Py,Rows.uptoBulkAll,OJ r]
theorem Ae3 {H:Type}:Bulk (H:=H) Rows.uptoBulk where
 int k n:=by simp[Rows.uptoBulk]
 bool b:=by simp[Rows.uptoBulk]
 str l:=by simp[Rows.uptoBulk]
 nil:=by simp[Rows.uptoBulk]
 slice es sp:=by simp only[Rows.uptoBulk,OJ];omega
 agg ps:=by simp only[Rows.uptoBulk,OJ];omega
section
variable {H:Type}{enc:TypeId×Value->H}{P:Program}{W:World}
theorem Ae4 {v:Value}{x:PV}(a:v.cells.toList=[v])(h:CRep W v.cells.toList [x]):RepP W (fun _ _=>False) v x:=by
 have:=(h.2 0 (by simp)).1
 rw[a]at this;exact this
theorem VH {cs:Array Value}{pvs:List PV}(h:CRep W (Value.agg cs).cells.toList pvs):RepP W (fun _ _=>False) (.agg cs) (.agg pvs):=by
 obtain⟨h1,a⟩:=h;have hc:(Value.agg cs).cells.toList=cs.toList:=rfl;rw[hc]at h1 a;have e:∀i,cs.toList.getD i undef=cs.getD i undef:=fun i=>by simp[Ax7,Ax9]
 exact .agg cs pvs (by simpa using h1) (fun i b=>by rw[<- e];exact (a i b).2) fun i b=>by rw[<- e];exact (a i b).1
end
theorem Aa1 {n:Int}(hw:(Lit.int .u32 n).wf=true):∃p:BitVec 32,n=(p.toNat:Int):=by
 simp only[Lit.wf,IntKind.min,IntKind.max,IntKind.signed,IntKind.bits,Ay3,decide_eq_true_eq]at hw;refine⟨BitVec.ofNat 32 n.toNat,?_⟩;rw[AP9];have a:0<=n:=by have:=hw.1;simpa using this
 have h1:n<4294967296:=by have:=hw.2;simp at this;omega
 rw[AG1 (by omega),Int.toNat_of_nonneg a]
theorem wf_u8 {n:Int}(h:(Lit.int .u8 n).wf=true):∃k:Nat,n=(k:Int)/\k<256:=by
 simp only[Lit.wf,IntKind.min,IntKind.max,IntKind.signed,IntKind.bits,Ay3,decide_eq_true_eq]at h;have a:0<=n:=by have:=h.1;simpa using this
 have h1:n<256:=by have:=h.2;simp at this;omega
 exact⟨n.toNat,by omega,by omega⟩
theorem Ae5 {W:World}(hL:laidMetH Tryz.prog Rows.historyFormsUptoRow.laid W):TabOk Tryz.prog W fun _ _=>False:=by
 rw[MakeChecks.laidMetH_plain _ _ _ (by kernel_rfl)]at hL;have b:Lib.TabIs Tryz.prog W "math/bits.deBruijn64tab" .u8 (Lib.deBruijn64tab.map fun (n:Nat)=>(n:Int)):=by refine Lib.tabIs_of_head (g:=3) (t:=(Tryz.prog.globals[3]?.map (·.type)).getD 0) (e:=(match Tryz.prog.underlying ((Tryz.prog.globals[3]?.map (·.type)).getD 0)with|some (.array _ e)=>e|_=>0)) (n:=64) (by kernel_rfl) (by kernel_rfl) (by kernel_rfl) (by kernel_rfl) (by kernel_rfl) (by kernel_rfl) (rest:=Rows.historyFormsUptoRow.laid.tail) ?_;exact hL
 intro g s j v hs a;have c:g=3:=by
  have key:∀k:Fin Tryz.prog.globals.size,((Tryz.prog.globals[k.1]?.map fun s=>s.name == "math/bits.deBruijn64tab")==some true)=true->k.1=3:=by decide +kernel
  have d:g<Tryz.prog.globals.size:=(Ay8.1 hs).1;refine key ⟨g,d⟩ ?_
  have:(s.name == "math/bits.deBruijn64tab")=true:=by
   unfold Tc at a;split at a
   ·assumption
   ·simp at a
  simp[hs,this]
 subst c;unfold Tc at a;split at a
 ·rw[Ay5]at a;obtain⟨n,hn,rfl⟩:=AA2.1 a;have f:j<Lib.deBruijn64tab.length:=(Az1.1 hn).1;refine⟨?_,fun h=>h⟩;rw[b.cell (by kernel_rfl) j (by simpa using f)];simp[Ax7,Ay5,hn]
 ·simp at a
end Go.AM
namespace Go.AM
open Go.RowKit Go.ChangeShapes Go.WideShapes Go.ChangeAt Go.Deep Go.Proofs Go.Proofs.YtodhnkfgkgkngaaGreatDoor
set_option maxRecDepth 100000
def HA (x:Sound):Prop:=((Lit.int .u32 x.Plus).wf=true)/\((Lit.int .u32 x.Minus).wf=true)
def AL (x:Sound):Nat:=1+1+1
theorem Dx:Lt Tryz.prog B5 A0 HA AL:=by intro m pvs h;obtain⟨m0,h,a⟩:=AY Tryz.underlying51 h;obtain⟨a0,b0,p0,q0,rfl,b,h,c⟩:=D4 h;obtain⟨x0,l0,w0,s0⟩:=R4 AK1 _ _ b;have s0:1<=a0:=s0;obtain⟨a1,b1,p1,q1,rfl,h1,h,d⟩:=D4 h;obtain⟨x1,l1,w1,s1⟩:=R4 AK1 _ _ h1;have s1:1<=a1:=s1;obtain rfl:=Dp h;exact⟨⟨x0,x1⟩,LeDs.append l0 (LeDs.append l1 LeDs.nil),⟨w0,w1⟩,by simp only[AL];omega⟩
theorem Uk {x:Sound}(h:HA x):okS x:=by obtain⟨p,hp⟩:=Aa1 h.1;obtain⟨q,a⟩:=Aa1 h.2;exact⟨p,q,by cases x;simp_all [sOf]⟩
abbrev Ul (x:Pat):Prop:=okPS x
abbrev QS (x:Pat):Nat:=1
theorem QT:Lt Tryz.prog Ds B4 Ul QS:=by
 intro m
 induction m using Nat.strongRecOn with
 |ind m ih=>
 intro pvs h;obtain⟨m0,h,d⟩:=AY Tryz.underlying54 h;obtain⟨a0,b0,p0,q0,rfl,j,h,l⟩:=D4 h;obtain⟨x0,l0,w0,s0⟩:=R4 AE8 _ _ j;have s0:1<=a0:=s0;obtain⟨a1,b1,p1,q1,rfl,h1,h,o⟩:=D4 h;obtain⟨x1,l1,w1,s1⟩:=Dx _ _ h1;have s1:AL x1<=a1:=s1;obtain⟨a2,b2,p2,q2,rfl,q,h,r⟩:=D4 h;obtain⟨x2,l2,w2,s2⟩:=UY AI8 _ _ q;have s2:1<=a2:=s2;obtain⟨a3,b3,p3,q3,rfl,s,h,t⟩:=D4 h;obtain⟨x3,l3,w3,s3⟩:=R4 AE8 _ _ s;have s3:1<=a3:=s3;obtain⟨a4,b4,p4,q4,rfl,u,h,v⟩:=D4 h;obtain⟨x4,l4,w4,s4⟩:=R4 AE8 _ _ u;have s4:1<=a4:=s4;obtain⟨a5,b5,p5,q5,rfl,w,h,y⟩:=D4 h;obtain rfl:=Dp h;have a:Tryz.prog.cellsOf 54=7:=by kernel_rfl
 cases w with
 |int ht'=>rw[AH1]at ht';cases ht'
 |bool ht'=>rw[AH1]at ht';cases ht'
 |str ht'=>rw[AH1]at ht';cases ht'
 |struct ht'=>rw[AH1]at ht';cases ht'
 |arr ht'=>rw[AH1]at ht';cases ht'
 | @slice _ _ e' n f ms ht' hl hel hm=>rw[AH1]at ht';cases ht';rw[a];rw[MG]at hm;obtain⟨g,c⟩:=choose_lt (α:=Pat) (p:=fun i x=>LeDs (f i) (B4 x)/\Ul x/\1<=ms i) fun i b=>ih (ms i) (by have:=WK ms b;omega) _ (hel i b);exact⟨.mk x0 x1 x2 x3 x4 n g,LeDs.append l0 (LeDs.append l1 (LeDs.append l2 (LeDs.append l3 (LeDs.append l4 (.cons (.sl fun i b=>(c i b).1) .nil))))),⟨Uk w1,fun i b=>(c i b).2.1⟩,by show 1<=m;omega⟩
def SS (x:AE):Prop:=((Lit.int .i64 x.From).wf=true)/\((Lit.int .u32 x.Clear).wf=true)/\(HA x.Set)/\((Lit.int .u32 x.Take).wf=true)/\((Lit.int .i64 x.Of).wf=true)
def Ij (x:AE):Nat:=1+1+AL x.Set+1+1+1
theorem VC:Lt Tryz.prog WV P9 SS Ij:=by intro m pvs h;obtain⟨m0,h,a⟩:=AY Tryz.underlying114 h;obtain⟨a0,b0,p0,q0,rfl,b,h,c⟩:=D4 h;obtain⟨x0,l0,w0,s0⟩:=R4 AE8 _ _ b;have s0:1<=a0:=s0;obtain⟨a1,b1,p1,q1,rfl,h1,h,d⟩:=D4 h;obtain⟨x1,l1,w1,s1⟩:=R4 AK1 _ _ h1;have s1:1<=a1:=s1;obtain⟨a2,b2,p2,q2,rfl,f,h,g⟩:=D4 h;obtain⟨x2,l2,w2,s2⟩:=Dx _ _ f;have s2:AL x2<=a2:=s2;obtain⟨a3,b3,p3,q3,rfl,i,h,j⟩:=D4 h;obtain⟨x3,l3,w3,s3⟩:=R4 AK1 _ _ i;have s3:1<=a3:=s3;obtain⟨a4,b4,p4,q4,rfl,l,h,n⟩:=D4 h;obtain⟨x4,l4,w4,s4⟩:=R4 AE8 _ _ l;have s4:1<=a4:=s4;obtain rfl:=Dp h;exact⟨⟨x0,x1,x2,x3,x4⟩,LeDs.append l0 (LeDs.append l1 (LeDs.append l2 (LeDs.append l3 (LeDs.append l4 LeDs.nil)))),⟨w0,w1,w2,w3,w4⟩,by simp only[Ij];omega⟩
def Um (x:Law):Prop:=(True)/\(Ul x.Left)/\(Ul x.Right)/\(∀i,i<x.If.n->HA (x.If.g i))/\(∀i,i<x.Out.n->SS (x.Out.g i))/\((Lit.int .i64 x.Mode).wf=true)
def HB (x:Law):Nat:=(x.Name.length+1)+QS x.Left+QS x.Right+(HC (fun i=>AL (x.If.g i)) x.If.n+1)+(HC (fun i=>Ij (x.Out.g i)) x.Out.n+1)+1+1
theorem XV:Lt Tryz.prog N4 A9 Um HB:=by intro m pvs h;obtain⟨m0,h,a⟩:=AY Tryz.underlying57 h;obtain⟨a0,b0,p0,q0,rfl,b,h,c⟩:=D4 h;obtain⟨x0,l0,w0,s0⟩:=WL AN4 _ _ b;have s0:(x0.length+1)<=a0:=s0;obtain⟨a1,b1,p1,q1,rfl,h1,h,d⟩:=D4 h;obtain⟨x1,l1,w1,s1⟩:=QT _ _ h1;have s1:QS x1<=a1:=s1;obtain⟨a2,b2,p2,q2,rfl,f,h,j⟩:=D4 h;obtain⟨x2,l2,w2,s2⟩:=QT _ _ f;have s2:QS x2<=a2:=s2;obtain⟨a3,b3,p3,q3,rfl,l,h,o⟩:=D4 h;obtain⟨x3,l3,w3,s3⟩:=Z5 AM2 (by kernel_rfl) Dx _ _ l;have s3:(HC (fun i=>AL (x3.g i)) x3.n+1)<=a3:=s3;obtain⟨a4,b4,p4,q4,rfl,q,h,r⟩:=D4 h;obtain⟨x4,l4,w4,s4⟩:=Z5 Tryz.underlying55 (by kernel_rfl) VC _ _ q;have s4:(HC (fun i=>Ij (x4.g i)) x4.n+1)<=a4:=s4;obtain⟨a5,b5,p5,q5,rfl,s,h,t⟩:=D4 h;obtain⟨x5,l5,w5,s5⟩:=R4 AE8 _ _ s;have s5:1<=a5:=s5;obtain rfl:=Dp h;exact⟨⟨x0,x1,x2,x3,x4,x5⟩,LeDs.append l0 (LeDs.append l1 (LeDs.append l2 (LeDs.append l3 (LeDs.append l4 (LeDs.append l5 LeDs.nil))))),⟨w0,w1,w2,w3,w4,w5⟩,by simp only[HB];omega⟩
end Go.AM
namespace Go.AM
theorem XW {f:Nat->Nat}(h:∀i,1<=f i):∀n,n<=HC f n
 |0=>AH2 _
 |n+1=>by
  have:=XW h n
  have:=h n
  show n+1<=HC f n+f n;omega
theorem Aw3 {x:AE}(h:SS x):okO x:=⟨Uk h.2.2.1,Aa1 h.2.1,Aa1 h.2.2.2.1⟩
theorem Aa2 {l:Law}(h:Um l)(hs:HB l<=1048576):Hx l:=by obtain⟨_,h1,b,c,d,_⟩:=h;unfold HB at hs;have g1:=XW (f:=fun i=>AL (l.If.g i)) (fun i=>by simp only[AL];omega) l.If.n;have g2:=XW (f:=fun i=>Ij (l.Out.g i)) (fun i=>by simp only[Ij];omega) l.Out.n;exact⟨⟨h1,b,fun i a=>Uk (c i a)⟩,by omega,by omega,by omega,fun i a=>Aw3 (d i a)⟩
theorem XX {x:Sl Law}(h:∀i,i<x.n->Um (x.g i))(hs:HC (fun i=>HB (x.g i)) x.n+1<=1048576):Fk x:=fun i a=>
 Aa2 (h i a) (by have:=WK (fun i=>HB (x.g i)) a;have this:HB (x.g i)<=_:=this;omega)
theorem Ap6 {x:Sl Sound}(h:∀i,i<x.n->HA (x.g i)):okA x:=fun i a=>Uk (h i a)
end Go.AM
namespace Go.AM
open Go.RowKit Go.ChangeShapes Go.WideShapes Go.ChangeAt Go.Deep Go.Proofs Go.Proofs.YtodhnkfgkgkngaaGreatDoor
set_option maxRecDepth 100000
def Un (x:Ez):Prop:=(∀i,i<x.Parents.n->(Lit.int .u8 (x.Parents.g i)).wf=true)/\(∀i,i<x.Laws.n->Um (x.Laws.g i))/\(∀i,i<x.On.n->(Lit.int .u16 (x.On.g i)).wf=true)
def Fm (x:Ez):Nat:=(HC (fun i=>1) x.Parents.n+1)+(HC (fun i=>HB (x.Laws.g i)) x.Laws.n+1)+(HC (fun i=>1) x.On.n+1)+1
theorem Jr:Lt Tryz.prog Sb W8 Un Fm:=by intro m pvs h;obtain⟨m0,h,a⟩:=AY AM1 h;obtain⟨a0,b0,p0,q0,rfl,b,h,c⟩:=D4 h;obtain⟨x0,l0,w0,s0⟩:=Z5 Tryz.underlying60 (by kernel_rfl) (R4 AN5) _ _ b;have s0:(HC (fun i=>1) x0.n+1)<=a0:=s0;obtain⟨a1,b1,p1,q1,rfl,h1,h,d⟩:=D4 h;obtain⟨x1,l1,w1,s1⟩:=Z5 Tryz.underlying23 (by kernel_rfl) XV _ _ h1;have s1:(HC (fun i=>HB (x1.g i)) x1.n+1)<=a1:=s1;obtain⟨a2,b2,p2,q2,rfl,f,h,j⟩:=D4 h;obtain⟨x2,l2,w2,s2⟩:=Z5 Tryz.underlying61 (by kernel_rfl) (R4 Tryz.underlying130) _ _ f;have s2:(HC (fun i=>1) x2.n+1)<=a2:=s2;obtain rfl:=Dp h;exact⟨⟨x0,x1,x2⟩,LeDs.append l0 (LeDs.append l1 (LeDs.append l2 LeDs.nil)),⟨w0,w1,w2⟩,by simp only[Fm];omega⟩
end Go.AM
namespace Go.AM
theorem Aw4 {n:Int}(h:(Lit.int .u16 n).wf=true):∃k:Nat,n=(k:Int)/\k<65536:=by
 simp only[Lit.wf,IntKind.min,IntKind.max,IntKind.signed,IntKind.bits,Ay3,decide_eq_true_eq]at h;have a:0<=n:=by have:=h.1;simpa using this
 have h1:n<65536:=by have:=h.2;simp at this;omega
 exact⟨n.toNat,by omega,by omega⟩
theorem Ma {x:Ez}(w:Un x)(hs:Fm x<=1048576):Lh x:=by unfold Fm at hs;exact⟨fun i a=>wf_u8 (w.1 i a),XX w.2.1 (by omega),fun i a=>Aw4 (w.2.2 i a)⟩
end Go.AM
