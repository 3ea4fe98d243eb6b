/- What a law's walk and its plain proof need, part 9: no condition of its own. -/
import Derived.JoinedOf
import Derived.Test.YtfcfdofmgkpmbaaGreatDoorOD
import Derived.Test.YtfcfdofmgkpmbaaGreatDoorOE
import Derived.Test.YtfcfdofmgkpmbaaGreatDoorCards
import Derived.Test.YtfcfdofmgkpmbaaGreatDoorTie
import Derived.WalkKit
import Derived.ProofKit
import Derived.OpenShut
import Derived.Deep.DeepHandedRow
import Derived.MakeChecks
import Derived.Lib.LaidTab
import Derived.Test.YtfcfdofmgkpmbaaGreatDoorOG
import Derived.Test.YtfcfdofmgkpmbaaGreatDoorOH
set_option linter.defProp false
set_option linter.unusedSimpArgs false
set_option linter.unusedVariables false
set_option linter.unusedSectionVars false
namespace Go.AM
def AY9:=@Go.Proofs.Tryz.underlying3
def Bb6:=@Go.Proofs.Tryz.underlying119
def Bc5:=@Go.Proofs.Tryz.underlying4
def Bc7:=@Go.Proofs.Tryz.underlying5
def Be0:=@Go.Proofs.Tryz.underlying9
def Bf1:=@Go.Proofs.Tryz.underlying76
def Bf4:=@Go.Proofs.Tryz.underlying85
def Bh9:=@Go.Proofs.Tryz.underlying72
open Go.Rows
def jA_ (P:Program)(f:FuncId)(fn:Func)(s:ChangeSpec)(c:OpenClaim):Bool:=
 (c.wf (OpenSpec.ofChange s))&&(laidOutB P)&&(mapsRowed P)&&(fn.params.all (P.readableRec ·))&&(namedTie P c.named s.vars)&&(c.stops==[])&&(P.stops==[])&&(c.knobs==[])&&(P.stopKnobs==[])
def jB_ (P:Program)(f:FuncId)(fn:Func)(s:ChangeSpec)(c:OpenClaim):Bool:=
 (c.inPlace==P.inPlace f)&&(c.unfollowed==P.unfollowed f)
def jC_ (P:Program)(f:FuncId)(fn:Func)(s:ChangeSpec)(c:OpenClaim):Bool:=
 (c.recurses==P.recurses f)&&(c.named==P.varsNamed f)
def jD_ (P:Program)(f:FuncId)(fn:Func)(s:ChangeSpec)(c:OpenClaim):Bool:=
 (c.maps==(fn.params.toList++s.plain.varTypes P).any (P.mapsRec ·))&&(c.ifaces==(fn.params.toList++s.plain.varTypes P).any (P.ifacesRec ·))&&(c.mapsOut==P.mapsAmong fn.resultTypes.toList)&&(c.loops==(fn.params.toList++s.plain.varTypes P).any (P.loopsFrom ·))&&(c.wideKeys==(fn.params.toList++s.plain.varTypes P++fn.resultTypes.toList).any (P.wideKeysFrom ·))&&(s.vars.all (P.varReadable ·))&&(fn.resultTypes.all (fun t=>P.readableRec t&&decide (t<P.types.size)))&&(c.ifacesOut==fn.resultTypes.toList.any (P.ifacesRec ·))&&(c.loopsOut==fn.resultTypes.toList.any (P.loopsFrom ·))&&(c.plainKeys==P.plainKeys)&&(c.shortTexts.isNone)
def jE_ (P:Program)(f:FuncId)(fn:Func)(s:ChangeSpec)(c:OpenClaim):Bool:=
 (P.stopsHeard)&&(P.mayEnter)
def jF_ (P:Program)(f:FuncId)(fn:Func)(s:ChangeSpec)(c:OpenClaim):Bool:=
 (c.lifted==P.liftsFinal)&&(P.make==some c.make)&&(c.kinds==(if c.domain.isEmpty then []else fn.params.toList.map fun t=>match P.underlying t with|some (.int k)=>some k|_=>none))&&(c.pinned==c.pinnedBy)&&(c.veiled==(fn.params.toList++s.plain.varTypes P++fn.resultTypes.toList).any (P.veiledRec ·))&&(c.veiledFits P fn.params.toList (fn.params.toList++s.plain.varTypes P++fn.resultTypes.toList))
theorem Zl {P:Program}{f:FuncId}{fn:Func}{s:ChangeSpec}{c:OpenClaim}(h1:jA_ P f fn s c=true)(a:jB_ P f fn s c=true)(b:jC_ P f fn s c=true)(d:jD_ P f fn s c=true)(g:jE_ P f fn s c=true)(i:jF_ P f fn s c=true):joinedFacts P f fn s c=true:=by
 have:joinedFacts P f fn s c=(jA_ P f fn s c&&jB_ P f fn s c&&jC_ P f fn s c&&jD_ P f fn s c&&jE_ P f fn s c&&jF_ P f fn s c):=by simp only[joinedFacts,jA_,jB_,jC_,jD_,jE_,jF_,Bool.and_assoc];rfl
 rw[this,h1,a,b,d,g,i];rfl
end Go.AM
namespace Go.AM
open Go.RowKit Go.ChangeShapes Go.WideShapes Go.ChangeAt Go.Deep Go.Proofs Go.Proofs.YtfcfdofmgkpmbaaGreatDoor
theorem AJ1:Kids Tryz.prog (· < Tryz.prog.types.size):=kids_rows (by kernel_rfl) (by kernel_rfl)
theorem RA {H:Type}:∀es:List (DataW H),Uf (es.map Rows.uptoBulk)=Rows.uptoBulkAll es
 |[]=>rfl
 |d::r=>by simp only[AV5,Sv,Rows.uptoBulkAll,RA r]
theorem AJ2 {H:Type}:Bulk (H:=H) Rows.uptoBulk where
 int k n:=by simp[Rows.uptoBulk]
 bool b:=by simp[Rows.uptoBulk]
 str l:=by simp[Rows.uptoBulk]
 nil:=by simp[Rows.uptoBulk]
 slice es sp:=by simp only[Rows.uptoBulk,RA];omega
 agg ps:=by simp only[Rows.uptoBulk,RA];omega
section
variable {H:Type}{enc:TypeId×Value->H}{P:Program}{W:World}
theorem Ay1 {v:Value}{x:PV}(a:v.cells.toList=[v])(h:CRep W v.cells.toList [x]):RepP W (fun _ _=>False) v x:=by
 have:=(h.2 0 (by simp)).1
 rw[a]at this;exact this
theorem Ay0 {cs:Array Value}{pvs:List PV}(h:CRep W (Value.agg cs).cells.toList pvs):RepP W (fun _ _=>False) (.agg cs) (.agg pvs):=by
 obtain⟨h1,a⟩:=h;have hc:(Value.agg cs).cells.toList=cs.toList:=rfl;rw[hc]at h1 a;have e:∀i,cs.toList.getD i undef=cs.getD i undef:=fun i=>by simp[AS1,AS3]
 exact .agg cs pvs (by simpa using h1) (fun i b=>by rw[<- e];exact (a i b).2) fun i b=>by rw[<- e];exact (a i b).1
end
theorem At3 {n:Int}(hw:(Lit.int .u32 n).wf=true):∃p:BitVec 32,n=(p.toNat:Int):=by
 simp only[Lit.wf,IntKind.min,IntKind.max,IntKind.signed,IntKind.bits,AS7,decide_eq_true_eq]at hw;refine⟨BitVec.ofNat 32 n.toNat,?_⟩;rw[Bd0];have a:0<=n:=by have:=hw.1;simpa using this
 have h1:n<4294967296:=by have:=hw.2;simp at this;omega
 rw[Ba3 (by omega),Int.toNat_of_nonneg a]
theorem wf_u8 {n:Int}(h:(Lit.int .u8 n).wf=true):∃k:Nat,n=(k:Int)/\k<256:=by
 simp only[Lit.wf,IntKind.min,IntKind.max,IntKind.signed,IntKind.bits,AS7,decide_eq_true_eq]at h;have a:0<=n:=by have:=h.1;simpa using this
 have h1:n<256:=by have:=h.2;simp at this;omega
 exact⟨n.toNat,by omega,by omega⟩
theorem Ay2 {W:World}(hL:laidMetH Tryz.prog Rows.innovChecksUptoRow.laid W):TabOk Tryz.prog W fun _ _=>False:=by
 rw[MakeChecks.laidMetH_plain _ _ _ (by kernel_rfl)]at hL;have b:Lib.TabIs Tryz.prog W "math/bits.deBruijn64tab" .u8 (Lib.deBruijn64tab.map fun (n:Nat)=>(n:Int)):=by refine Lib.tabIs_of_head (g:=0) (t:=(Tryz.prog.globals[0]?.map (·.type)).getD 0) (e:=(match Tryz.prog.underlying ((Tryz.prog.globals[0]?.map (·.type)).getD 0)with|some (.array _ e)=>e|_=>0)) (n:=64) (by kernel_rfl) (by kernel_rfl) (by kernel_rfl) (by kernel_rfl) (by kernel_rfl) (by kernel_rfl) (rest:=Rows.innovChecksUptoRow.laid.tail) ?_;exact hL
 intro g s j v hs a;have c:g=0:=by
  have key:∀k:Fin Tryz.prog.globals.size,((Tryz.prog.globals[k.1]?.map fun s=>s.name == "math/bits.deBruijn64tab")==some true)=true->k.1=0:=by decide +kernel
  have d:g<Tryz.prog.globals.size:=(AT1.1 hs).1;refine key ⟨g,d⟩ ?_
  have:(s.name == "math/bits.deBruijn64tab")=true:=by
   unfold Wt at a;split at a
   ·assumption
   ·simp at a
  simp[hs,this]
 subst c;unfold Wt at a;split at a
 ·rw[AS9]at a;obtain⟨n,hn,rfl⟩:=AU6.1 a;have f:j<Lib.deBruijn64tab.length:=(AT4.1 hn).1;refine⟨?_,fun h=>h⟩;rw[b.cell (by kernel_rfl) j (by simpa using f)];simp[AS1,AS9,hn]
 ·simp at a
end Go.AM
namespace Go.AM
open Go.RowKit Go.ChangeShapes Go.WideShapes Go.ChangeAt Go.Deep Go.Proofs Go.Proofs.YtfcfdofmgkpmbaaGreatDoor
set_option maxRecDepth 100000
end Go.AM
namespace Go.AM
end Go.AM
namespace Go.AM
open Go.RowKit Go.ChangeShapes Go.WideShapes Go.ChangeAt Go.Deep Go.Proofs Go.Proofs.YtfcfdofmgkpmbaaGreatDoor
set_option maxRecDepth 100000
def JJ (x:Sound):Prop:=((Lit.int .u32 x.Plus).wf=true)/\((Lit.int .u32 x.Minus).wf=true)
def Cp (x:Sound):Nat:=1+1+1
theorem Fe:Ob Tryz.prog D2 A0 JJ Cp:=by intro m pvs h;obtain⟨m0,h,a⟩:=Cx Tryz.underlying87 h;obtain⟨a0,b0,p0,q0,rfl,b,h,c⟩:=D7 h;obtain⟨x0,l0,w0,s0⟩:=U3 Bf4 _ _ b;have s0:1<=a0:=s0;obtain⟨a1,b1,p1,q1,rfl,h1,h,d⟩:=D7 h;obtain⟨x1,l1,w1,s1⟩:=U3 Bf4 _ _ h1;have s1:1<=a1:=s1;obtain rfl:=EL h;exact⟨⟨x0,x1⟩,LeDs.append l0 (LeDs.append l1 LeDs.nil),⟨w0,w1⟩,by simp only[Cp];omega⟩
theorem Xx {x:Sound}(h:JJ x):okS x:=by obtain⟨p,hp⟩:=At3 h.1;obtain⟨q,a⟩:=At3 h.2;exact⟨p,q,by cases x;simp_all [sOf]⟩
abbrev Xy (x:Pat):Prop:=okPS x
abbrev TZ (x:Pat):Nat:=1
theorem Ua:Ob Tryz.prog EQ B5 Xy TZ:=by
 intro m
 induction m using Nat.strongRecOn with
 |ind m ih=>
 intro pvs h;obtain⟨m0,h,d⟩:=Cx Tryz.underlying121 h;obtain⟨a0,b0,p0,q0,rfl,j,h,l⟩:=D7 h;obtain⟨x0,l0,w0,s0⟩:=U3 AY9 _ _ j;have s0:1<=a0:=s0;obtain⟨a1,b1,p1,q1,rfl,h1,h,o⟩:=D7 h;obtain⟨x1,l1,w1,s1⟩:=Fe _ _ h1;have s1:Cp x1<=a1:=s1;obtain⟨a2,b2,p2,q2,rfl,q,h,r⟩:=D7 h;obtain⟨x2,l2,w2,s2⟩:=Yp Bc5 _ _ q;have s2:1<=a2:=s2;obtain⟨a3,b3,p3,q3,rfl,s,h,t⟩:=D7 h;obtain⟨x3,l3,w3,s3⟩:=U3 AY9 _ _ s;have s3:1<=a3:=s3;obtain⟨a4,b4,p4,q4,rfl,u,h,v⟩:=D7 h;obtain⟨x4,l4,w4,s4⟩:=U3 AY9 _ _ u;have s4:1<=a4:=s4;obtain⟨a5,b5,p5,q5,rfl,w,h,y⟩:=D7 h;obtain rfl:=EL h;have a:Tryz.prog.cellsOf 121=7:=by kernel_rfl
 cases w with
 |int ht'=>rw[Bb6]at ht';cases ht'
 |bool ht'=>rw[Bb6]at ht';cases ht'
 |str ht'=>rw[Bb6]at ht';cases ht'
 |struct ht'=>rw[Bb6]at ht';cases ht'
 |arr ht'=>rw[Bb6]at ht';cases ht'
 | @slice _ _ e' n f ms ht' hl hel hm=>rw[Bb6]at ht';cases ht';rw[a];rw[Pu]at hm;obtain⟨g,c⟩:=choose_lt (α:=Pat) (p:=fun i x=>LeDs (f i) (B5 x)/\Xy x/\1<=ms i) fun i b=>ih (ms i) (by have:=Ab9 ms b;omega) _ (hel i b);exact⟨.mk x0 x1 x2 x3 x4 n g,LeDs.append l0 (LeDs.append l1 (LeDs.append l2 (LeDs.append l3 (LeDs.append l4 (.cons (.sl fun i b=>(c i b).1) .nil))))),⟨Xx w1,fun i b=>(c i b).2.1⟩,by show 1<=m;omega⟩
def Wl (x:Bs):Prop:=((Lit.int .i64 x.From).wf=true)/\((Lit.int .u32 x.Clear).wf=true)/\(JJ x.Set)/\((Lit.int .u32 x.Take).wf=true)/\((Lit.int .i64 x.Of).wf=true)
def Ks (x:Bs):Nat:=1+1+Cp x.Set+1+1+1
theorem Zb:Ob Tryz.prog Ac6 Q7 Wl Ks:=by intro m pvs h;obtain⟨m0,h,a⟩:=Cx Tryz.underlying155 h;obtain⟨a0,b0,p0,q0,rfl,b,h,c⟩:=D7 h;obtain⟨x0,l0,w0,s0⟩:=U3 AY9 _ _ b;have s0:1<=a0:=s0;obtain⟨a1,b1,p1,q1,rfl,h1,h,d⟩:=D7 h;obtain⟨x1,l1,w1,s1⟩:=U3 Bf4 _ _ h1;have s1:1<=a1:=s1;obtain⟨a2,b2,p2,q2,rfl,f,h,g⟩:=D7 h;obtain⟨x2,l2,w2,s2⟩:=Fe _ _ f;have s2:Cp x2<=a2:=s2;obtain⟨a3,b3,p3,q3,rfl,i,h,j⟩:=D7 h;obtain⟨x3,l3,w3,s3⟩:=U3 Bf4 _ _ i;have s3:1<=a3:=s3;obtain⟨a4,b4,p4,q4,rfl,l,h,n⟩:=D7 h;obtain⟨x4,l4,w4,s4⟩:=U3 AY9 _ _ l;have s4:1<=a4:=s4;obtain rfl:=EL h;exact⟨⟨x0,x1,x2,x3,x4⟩,LeDs.append l0 (LeDs.append l1 (LeDs.append l2 (LeDs.append l3 (LeDs.append l4 LeDs.nil)))),⟨w0,w1,w2,w3,w4⟩,by simp only[Ks];omega⟩
def Xz (x:Law):Prop:=(True)/\(Xy x.Left)/\(Xy x.Right)/\(∀i,i<x.If.n->JJ (x.If.g i))/\(∀i,i<x.Out.n->Wl (x.Out.g i))/\((Lit.int .i64 x.Mode).wf=true)
def JK (x:Law):Nat:=(x.Name.length+1)+TZ x.Left+TZ x.Right+(JN (fun i=>Cp (x.If.g i)) x.If.n+1)+(JN (fun i=>Ks (x.Out.g i)) x.Out.n+1)+1+1
theorem Ai5:Ob Tryz.prog Dz B4 Xz JK:=by intro m pvs h;obtain⟨m0,h,a⟩:=Cx Tryz.underlying124 h;obtain⟨a0,b0,p0,q0,rfl,b,h,c⟩:=D7 h;obtain⟨x0,l0,w0,s0⟩:=Ac0 Be0 _ _ b;have s0:(x0.length+1)<=a0:=s0;obtain⟨a1,b1,p1,q1,rfl,h1,h,d⟩:=D7 h;obtain⟨x1,l1,w1,s1⟩:=Ua _ _ h1;have s1:TZ x1<=a1:=s1;obtain⟨a2,b2,p2,q2,rfl,f,h,j⟩:=D7 h;obtain⟨x2,l2,w2,s2⟩:=Ua _ _ f;have s2:TZ x2<=a2:=s2;obtain⟨a3,b3,p3,q3,rfl,l,h,o⟩:=D7 h;obtain⟨x3,l3,w3,s3⟩:=BY Bf1 (by kernel_rfl) Fe _ _ l;have s3:(JN (fun i=>Cp (x3.g i)) x3.n+1)<=a3:=s3;obtain⟨a4,b4,p4,q4,rfl,q,h,r⟩:=D7 h;obtain⟨x4,l4,w4,s4⟩:=BY Tryz.underlying122 (by kernel_rfl) Zb _ _ q;have s4:(JN (fun i=>Ks (x4.g i)) x4.n+1)<=a4:=s4;obtain⟨a5,b5,p5,q5,rfl,s,h,t⟩:=D7 h;obtain⟨x5,l5,w5,s5⟩:=U3 AY9 _ _ s;have s5:1<=a5:=s5;obtain rfl:=EL h;exact⟨⟨x0,x1,x2,x3,x4,x5⟩,LeDs.append l0 (LeDs.append l1 (LeDs.append l2 (LeDs.append l3 (LeDs.append l4 (LeDs.append l5 LeDs.nil))))),⟨w0,w1,w2,w3,w4,w5⟩,by simp only[JK];omega⟩
end Go.AM
namespace Go.AM
theorem Ai6 {f:Nat->Nat}(h:∀i,1<=f i):∀n,n<=JN f n
 |0=>Ba9 _
 |n+1=>by
  have:=Ai6 h n
  have:=h n
  show n+1<=JN f n+f n;omega
theorem AQ7 {x:Bs}(h:Wl x):okO x:=⟨Xx h.2.2.1,At3 h.2.1,At3 h.2.2.2.1⟩
theorem At4 {l:Law}(h:Xz l)(hs:JK l<=1048576):JA l:=by obtain⟨_,h1,b,c,d,_⟩:=h;unfold JK at hs;have g1:=Ai6 (f:=fun i=>Cp (l.If.g i)) (fun i=>by simp only[Cp];omega) l.If.n;have g2:=Ai6 (f:=fun i=>Ks (l.Out.g i)) (fun i=>by simp only[Ks];omega) l.Out.n;exact⟨⟨h1,b,fun i a=>Xx (c i a)⟩,by omega,by omega,by omega,fun i a=>AQ7 (d i a)⟩
theorem Ai7 {x:Sl Law}(h:∀i,i<x.n->Xz (x.g i))(hs:JN (fun i=>JK (x.g i)) x.n+1<=1048576):DQ x:=fun i a=>
 At4 (h i a) (by have:=Ab9 (fun i=>JK (x.g i)) a;have this:JK (x.g i)<=_:=this;omega)
theorem AJ3 {x:Sl Sound}(h:∀i,i<x.n->JJ (x.g i)):okA x:=fun i a=>Xx (h i a)
end Go.AM
namespace Go.AM
open Go.RowKit Go.ChangeShapes Go.WideShapes Go.ChangeAt Go.Deep Go.Proofs Go.Proofs.YtfcfdofmgkpmbaaGreatDoor
set_option maxRecDepth 100000
def XA (x:Hq):Prop:=(∀i,i<x.Parents.n->(Lit.int .u8 (x.Parents.g i)).wf=true)/\(∀i,i<x.Laws.n->Xz (x.Laws.g i))/\(∀i,i<x.On.n->(Lit.int .u16 (x.On.g i)).wf=true)
def IB (x:Hq):Nat:=(JN (fun i=>1) x.Parents.n+1)+(JN (fun i=>JK (x.Laws.g i)) x.Laws.n+1)+(JN (fun i=>1) x.On.n+1)+1
theorem Uj:Ob Tryz.prog Vo CL XA IB:=by intro m pvs h;obtain⟨m0,h,a⟩:=Cx Tryz.underlying75 h;obtain⟨a0,b0,p0,q0,rfl,b,h,c⟩:=D7 h;obtain⟨x0,l0,w0,s0⟩:=BY Bh9 (by kernel_rfl) (U3 Bc7) _ _ b;have s0:(JN (fun i=>1) x0.n+1)<=a0:=s0;obtain⟨a1,b1,p1,q1,rfl,h1,h,d⟩:=D7 h;obtain⟨x1,l1,w1,s1⟩:=BY Tryz.underlying51 (by kernel_rfl) Ai5 _ _ h1;have s1:(JN (fun i=>JK (x1.g i)) x1.n+1)<=a1:=s1;obtain⟨a2,b2,p2,q2,rfl,f,h,j⟩:=D7 h;obtain⟨x2,l2,w2,s2⟩:=BY Tryz.underlying73 (by kernel_rfl) (U3 Tryz.underlying182) _ _ f;have s2:(JN (fun i=>1) x2.n+1)<=a2:=s2;obtain rfl:=EL h;exact⟨⟨x0,x1,x2⟩,LeDs.append l0 (LeDs.append l1 (LeDs.append l2 LeDs.nil)),⟨w0,w1,w2⟩,by simp only[IB];omega⟩
end Go.AM
namespace Go.AM
theorem AQ8 {n:Int}(h:(Lit.int .u16 n).wf=true):∃k:Nat,n=(k:Int)/\k<65536:=by
 simp only[Lit.wf,IntKind.min,IntKind.max,IntKind.signed,IntKind.bits,AS7,decide_eq_true_eq]at h;have a:0<=n:=by have:=h.1;simpa using this
 have h1:n<65536:=by have:=h.2;simp at this;omega
 exact⟨n.toNat,by omega,by omega⟩
theorem XD {x:Hq}(w:XA x)(hs:IB x<=1048576):Rz x:=by unfold IB at hs;exact⟨fun i a=>wf_u8 (w.1 i a),Ai7 w.2.1 (by omega),fun i a=>AQ8 (w.2.2 i a)⟩
end Go.AM
