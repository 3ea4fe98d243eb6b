/- What a law's walk and its plain proof need, part 10: no condition of its own. -/
import Derived.JoinedOf
import Derived.Test.YtlbooedblpdmaaaGreatDoorAE
import Derived.Test.YtlbooedblpdmaaaGreatDoorAF
import Derived.Test.YtlbooedblpdmaaaGreatDoorCards
import Derived.Test.YtlbooedblpdmaaaGreatDoorTie
import Derived.WalkKit
import Derived.ProofKit
import Derived.OpenShut
import Derived.Deep.DeepHandedRow
import Derived.MakeChecks
import Derived.Lib.LaidTab
import Derived.Test.YtlbooedblpdmaaaGreatDoorAH
import Derived.Test.YtlbooedblpdmaaaGreatDoorAI
set_option linter.defProp false
set_option linter.unusedSimpArgs false
set_option linter.unusedVariables false
set_option linter.unusedSectionVars false
namespace Go.AM
def Cq7:=@Go.Proofs.Tryz.underlying3
def Cs7:=@Go.Proofs.Tryz.underlying4
def Cs8:=@Go.Proofs.Tryz.underlying27
def Cy7:=@Go.Proofs.Tryz.underlying26
def CB8:=@Go.Proofs.Tryz.underlying70
def CB9:=@Go.Proofs.Tryz.underlying85
def CD7:=@Go.Proofs.Tryz.underlying9
def CE8:=@Go.Proofs.Tryz.underlying51
open Go.Rows
def jA_ (P:Program)(f:FuncId)(fn:Func)(s:ChangeSpec)(c:OpenClaim):Bool:= (c.wf (OpenSpec.ofChange s))&&(laidOutB P)&&(mapsRowed P)&&(fn.params.all (P.readableRec ·))&&(namedTie P c.named s.vars)&&(c.stops==[])&&(P.stops==[])&&(c.knobs==[])&&(P.stopKnobs==[])
def jB_ (P:Program)(f:FuncId)(fn:Func)(s:ChangeSpec)(c:OpenClaim):Bool:= (c.inPlace==P.inPlace f)&&(c.unfollowed==P.unfollowed f)
def jC_ (P:Program)(f:FuncId)(fn:Func)(s:ChangeSpec)(c:OpenClaim):Bool:= (c.recurses==P.recurses f)&&(c.named==P.varsNamed f)
def jD_ (P:Program)(f:FuncId)(fn:Func)(s:ChangeSpec)(c:OpenClaim):Bool:= (c.maps==(fn.params.toList++s.plain.varTypes P).any (P.mapsRec ·))&&(c.ifaces==(fn.params.toList++s.plain.varTypes P).any (P.ifacesRec ·))&&(c.mapsOut==P.mapsAmong fn.resultTypes.toList)&&(c.loops==(fn.params.toList++s.plain.varTypes P).any (P.loopsFrom ·))&&(c.wideKeys==(fn.params.toList++s.plain.varTypes P++fn.resultTypes.toList).any (P.wideKeysFrom ·))&&(s.vars.all (P.varReadable ·))&&(fn.resultTypes.all (fun t=>P.readableRec t&&decide (t<P.types.size)))&&(c.ifacesOut==fn.resultTypes.toList.any (P.ifacesRec ·))&&(c.loopsOut==fn.resultTypes.toList.any (P.loopsFrom ·))&&(c.plainKeys==P.plainKeys)&&(c.shortTexts.isNone)
def jE_ (P:Program)(f:FuncId)(fn:Func)(s:ChangeSpec)(c:OpenClaim):Bool:= (P.stopsHeard)&&(P.mayEnter)
def jF_ (P:Program)(f:FuncId)(fn:Func)(s:ChangeSpec)(c:OpenClaim):Bool:=
 (c.lifted==P.liftsFinal)&&(P.make==some c.make)&&(c.kinds==(if c.domain.isEmpty then []else fn.params.toList.map fun t=>match P.underlying t with|some (.int k)=>some k|_=>none))&&(c.pinned==c.pinnedBy)&&(c.veiled==(fn.params.toList++s.plain.varTypes P++fn.resultTypes.toList).any (P.veiledRec ·))&&(c.veiledFits P fn.params.toList (fn.params.toList++s.plain.varTypes P++fn.resultTypes.toList))
def Gm {P:Program}{f:FuncId}{fn:Func}{s:ChangeSpec}{c:OpenClaim}(h1:jA_ P f fn s c=true)(a:jB_ P f fn s c=true)(b:jC_ P f fn s c=true)(d:jD_ P f fn s c=true)(g:jE_ P f fn s c=true)(i:jF_ P f fn s c=true):joinedFacts P f fn s c=true:=by
 have:joinedFacts P f fn s c=(jA_ P f fn s c&&jB_ P f fn s c&&jC_ P f fn s c&&jD_ P f fn s c&&jE_ P f fn s c&&jF_ P f fn s c):=by simp only[joinedFacts,jA_,jB_,jC_,jD_,jE_,jF_,Bool.and_assoc];rfl
 rw[this,h1,a,b,d,g,i];rfl
end Go.AM
namespace Go.AM
open Go.RowKit Go.ChangeShapes Go.WideShapes Go.ChangeAt Go.Deep Go.Proofs Go.Proofs.YtlbooedblpdmaaaGreatDoor
theorem GG:Kids Tryz.prog (· < Tryz.prog.types.size):=kids_rows (by kernel_rfl) (by kernel_rfl)
theorem At7 {H:Type}:∀es:List (DataW H),AJ6 (es.map Rows.uptoBulk)=Rows.uptoBulkAll es
 |[]=>rfl
 |d::r=>by simp only[Cp1,Az7,Rows.uptoBulkAll,At7 r]
theorem GH {H:Type}:Bulk (H:=H) Rows.uptoBulk where
 int k n:=by simp[Rows.uptoBulk]
 bool b:=by simp[Rows.uptoBulk]
 str l:=by simp[Rows.uptoBulk]
 nil:=by simp[Rows.uptoBulk]
 slice es sp:=by simp only[Rows.uptoBulk,At7];omega
 agg ps:=by simp only[Rows.uptoBulk,At7];omega
section
variable {H:Type}{enc:TypeId×Value->H}{P:Program}{W:World}
theorem CU {v:Value}{x:PV}(a:v.cells.toList=[v])(h:CRep W v.cells.toList [x]):RepP W (fun _ _=>False) v x:=by
 have:=(h.2 0 (by simp)).1
 rw[a]at this;exact this
theorem OL {cs:Array Value}{pvs:List PV}(h:CRep W (Value.agg cs).cells.toList pvs):RepP W (fun _ _=>False) (.agg cs) (.agg pvs):=by
 obtain⟨h1,a⟩:=h;have hc:(Value.agg cs).cells.toList=cs.toList:=rfl;rw[hc]at h1 a;have e:∀i,cs.toList.getD i undef=cs.getD i undef:=fun i=>by simp[Cl4,Cl6]
 exact .agg cs pvs (by simpa using h1) (fun i b=>by rw[<- e];exact (a i b).2) fun i b=>by rw[<- e];exact (a i b).1
end
theorem BJ2 {n:Int}(hw:(Lit.int .u32 n).wf=true):∃p:BitVec 32,n=(p.toNat:Int):=by
 simp only[Lit.wf,IntKind.min,IntKind.max,IntKind.signed,IntKind.bits,Cl8,Sp]at hw;refine⟨BitVec.ofNat 32 n.toNat,?_⟩;rw[CM5];have a:0<=n:=by have:=hw.1;simpa using this
 have h1:n<4294967296:=by have:=hw.2;simp at this;omega
 rw[Cz3 (by omega),Int.toNat_of_nonneg a]
theorem OM {W:World}(hL:laidMetH Tryz.prog Rows.attestBadsUptoRow.laid W):TabOk Tryz.prog W fun _ _=>False:=by
 rw[MakeChecks.laidMetH_plain _ _ _ (by kernel_rfl)]at hL;have b:Lib.TabIs Tryz.prog W "math/bits.deBruijn64tab" .u8 (Lib.deBruijn64tab.map fun (n:Nat)=>(n:Int)):=by refine Lib.tabIs_of_head (g:=3) (t:=(Tryz.prog.globals[3]?.map (·.type)).getD 0) (e:=(match Tryz.prog.underlying ((Tryz.prog.globals[3]?.map (·.type)).getD 0)with|some (.array _ e)=>e|_=>0)) (n:=64) (by kernel_rfl) (by kernel_rfl) (by kernel_rfl) (by kernel_rfl) (by kernel_rfl) (by kernel_rfl) (rest:=Rows.attestBadsUptoRow.laid.tail) ?_;exact hL
 intro g s j v hs a;have c:g=3:=by
  have key:∀k:Fin Tryz.prog.globals.size,((Tryz.prog.globals[k.1]?.map fun s=>s.name == "math/bits.deBruijn64tab")==some true)=true->k.1=3:=by decide +kernel
  have d:g<Tryz.prog.globals.size:=(Cm4.1 hs).1;refine key ⟨g,d⟩ ?_
  have:(s.name == "math/bits.deBruijn64tab")=true:=by
   unfold AU6 at a;split at a
   .assumption
   simp at a
  simp[hs,this]
 subst c;unfold AU6 at a;split at a
 .rw[Cm1]at a;obtain⟨n,hn,rfl⟩:=Co4.1 a;have f:j<Lib.deBruijn64tab.length:=(Cm9.1 hn).1;refine⟨?_,fun h=>h⟩;rw[b.cell (by kernel_rfl) j (by simpa using f)];simp[Cl4,Cm1,hn]
 simp at a
end Go.AM
namespace Go.AM
open Go.RowKit Go.ChangeShapes Go.WideShapes Go.ChangeAt Go.Deep Go.Proofs Go.Proofs.YtlbooedblpdmaaaGreatDoor
set_option maxRecDepth 100000
def Bx1 (x:J6):Prop:=((Lit.int .i64 x.Parent).wf=true)/\(True)
def Lf (x:J6):Nat:=1+(x.Name.length+1)+1
def Bi8:Py Tryz.prog Rp E4 Bx1 Lf:=by intro m pvs h;obtain⟨m0,h,a⟩:=W8 Tryz.underlying112 h;obtain⟨a0,b0,p0,q0,rfl,b,h,c⟩:=E3 h;obtain⟨x0,l0,w0,s0⟩:=N9 Cq7 _ _ b;have s0:1<=a0:=s0;obtain⟨a1,b1,p1,q1,rfl,h1,h,d⟩:=E3 h;obtain⟨x1,l1,w1,s1⟩:=VJ CD7 _ _ h1;have s1:(x1.length+1)<=a1:=s1;obtain rfl:=BI h;exact⟨⟨x0,x1⟩,LeDs.append l0 (LeDs.append l1 LeDs.nil),⟨w0,w1⟩,by simp only[Lf];omega⟩
def ML (x:To):Prop:=((Lit.int .u32 x.Plus).wf=true)/\((Lit.int .u32 x.Minus).wf=true)
def CO (x:To):Nat:=1+1+1
def Gn:Py Tryz.prog B0 A0 ML CO:=by intro m pvs h;obtain⟨m0,h,a⟩:=W8 Tryz.underlying72 h;obtain⟨a0,b0,p0,q0,rfl,b,h,c⟩:=E3 h;obtain⟨x0,l0,w0,s0⟩:=N9 CB8 _ _ b;have s0:1<=a0:=s0;obtain⟨a1,b1,p1,q1,rfl,h1,h,d⟩:=E3 h;obtain⟨x1,l1,w1,s1⟩:=N9 CB8 _ _ h1;have s1:1<=a1:=s1;obtain rfl:=BI h;exact⟨⟨x0,x1⟩,LeDs.append l0 (LeDs.append l1 LeDs.nil),⟨w0,w1⟩,by simp only[CO];omega⟩
def Bb2 {x:To}(h:ML x):okS x:=by obtain⟨p,hp⟩:=BJ2 h.1;obtain⟨q,a⟩:=BJ2 h.2;exact⟨p,q,by cases x;simp_all [sOf]⟩
abbrev Bb3 (x:Pat):Prop:=okPS x
abbrev AG7 (x:Pat):Nat:=1
def AG8:Py Tryz.prog HQ C4 Bb3 AG7:=by
 intro m
 induction m using Nat.strongRecOn with
 |ind m ih=>
 intro pvs h;obtain⟨m0,h,d⟩:=W8 Tryz.underlying87 h;obtain⟨a0,b0,p0,q0,rfl,j,h,l⟩:=E3 h;obtain⟨x0,l0,w0,s0⟩:=N9 Cq7 _ _ j;have s0:1<=a0:=s0;obtain⟨a1,b1,p1,q1,rfl,h1,h,o⟩:=E3 h;obtain⟨x1,l1,w1,s1⟩:=Gn _ _ h1;have s1:CO x1<=a1:=s1;obtain⟨a2,b2,p2,q2,rfl,q,h,r⟩:=E3 h;obtain⟨x2,l2,w2,s2⟩:=Ai8 Cs7 _ _ q;have s2:1<=a2:=s2;obtain⟨a3,b3,p3,q3,rfl,s,h,t⟩:=E3 h;obtain⟨x3,l3,w3,s3⟩:=N9 Cq7 _ _ s;have s3:1<=a3:=s3;obtain⟨a4,b4,p4,q4,rfl,u,h,v⟩:=E3 h;obtain⟨x4,l4,w4,s4⟩:=N9 Cq7 _ _ u;have s4:1<=a4:=s4;obtain⟨a5,b5,p5,q5,rfl,w,h,y⟩:=E3 h;obtain rfl:=BI h;have a:Tryz.prog.cellsOf 87=7:=by kernel_rfl
 cases w with
 |int ht'=>rw[CB9]at ht';cases ht'
 |bool ht'=>rw[CB9]at ht';cases ht'
 |str ht'=>rw[CB9]at ht';cases ht'
 |struct ht'=>rw[CB9]at ht';cases ht'
 |arr ht'=>rw[CB9]at ht';cases ht'
 | @slice _ _ e' n f ms ht' hl hel hm=>rw[CB9]at ht';cases ht';rw[a];rw[Ai7]at hm;obtain⟨g,c⟩:=choose_lt (α:=Pat) (p:=fun i x=>LeDs (f i) (C4 x)/\Bb3 x/\1<=ms i) fun i b=>ih (ms i) (by have:=VH ms b;omega) _ (hel i b);exact⟨.mk x0 x1 x2 x3 x4 n g,LeDs.append l0 (LeDs.append l1 (LeDs.append l2 (LeDs.append l3 (LeDs.append l4 (.cons (.sl fun i b=>(c i b).1) .nil))))),⟨Bb2 w1,fun i b=>(c i b).2.1⟩,by show 1<=m;omega⟩
def AS9 (x:Hk):Prop:=((Lit.int .i64 x.From).wf=true)/\((Lit.int .u32 x.Clear).wf=true)/\(ML x.Set)/\((Lit.int .u32 x.Take).wf=true)/\((Lit.int .i64 x.Of).wf=true)
def RH (x:Hk):Nat:=1+1+CO x.Set+1+1+1
def Bi9:Py Tryz.prog Br4 P1 AS9 RH:=by intro m pvs h;obtain⟨m0,h,a⟩:=W8 Tryz.underlying142 h;obtain⟨a0,b0,p0,q0,rfl,b,h,c⟩:=E3 h;obtain⟨x0,l0,w0,s0⟩:=N9 Cq7 _ _ b;have s0:1<=a0:=s0;obtain⟨a1,b1,p1,q1,rfl,h1,h,d⟩:=E3 h;obtain⟨x1,l1,w1,s1⟩:=N9 CB8 _ _ h1;have s1:1<=a1:=s1;obtain⟨a2,b2,p2,q2,rfl,f,h,g⟩:=E3 h;obtain⟨x2,l2,w2,s2⟩:=Gn _ _ f;have s2:CO x2<=a2:=s2;obtain⟨a3,b3,p3,q3,rfl,i,h,j⟩:=E3 h;obtain⟨x3,l3,w3,s3⟩:=N9 CB8 _ _ i;have s3:1<=a3:=s3;obtain⟨a4,b4,p4,q4,rfl,l,h,n⟩:=E3 h;obtain⟨x4,l4,w4,s4⟩:=N9 Cq7 _ _ l;have s4:1<=a4:=s4;obtain rfl:=BI h;exact⟨⟨x0,x1,x2,x3,x4⟩,LeDs.append l0 (LeDs.append l1 (LeDs.append l2 (LeDs.append l3 (LeDs.append l4 LeDs.nil)))),⟨w0,w1,w2,w3,w4⟩,by simp only[RH];omega⟩
def Bb4 (x:Law):Prop:=(True)/\(Bb3 x.Left)/\(Bb3 x.Right)/\(∀i,i<x.If.n->ML (x.If.g i))/\(∀i,i<x.Out.n->AS9 (x.Out.g i))/\((Lit.int .i64 x.Mode).wf=true)
def Ql (x:Law):Nat:=(x.Name.length+1)+AG7 x.Left+AG7 x.Right+(EK (fun i=>CO (x.If.g i)) x.If.n+1)+(EK (fun i=>RH (x.Out.g i)) x.Out.n+1)+1+1
def Bx2:Py Tryz.prog H7 B2 Bb4 Ql:=by intro m pvs h;obtain⟨m0,h,a⟩:=W8 Tryz.underlying90 h;obtain⟨a0,b0,p0,q0,rfl,b,h,c⟩:=E3 h;obtain⟨x0,l0,w0,s0⟩:=VJ CD7 _ _ b;have s0:(x0.length+1)<=a0:=s0;obtain⟨a1,b1,p1,q1,rfl,h1,h,d⟩:=E3 h;obtain⟨x1,l1,w1,s1⟩:=AG8 _ _ h1;have s1:AG7 x1<=a1:=s1;obtain⟨a2,b2,p2,q2,rfl,f,h,j⟩:=E3 h;obtain⟨x2,l2,w2,s2⟩:=AG8 _ _ f;have s2:AG7 x2<=a2:=s2;obtain⟨a3,b3,p3,q3,rfl,l,h,o⟩:=E3 h;obtain⟨x3,l3,w3,s3⟩:=H1 CE8 (by kernel_rfl) Gn _ _ l;have s3:(EK (fun i=>CO (x3.g i)) x3.n+1)<=a3:=s3;obtain⟨a4,b4,p4,q4,rfl,q,h,r⟩:=E3 h;obtain⟨x4,l4,w4,s4⟩:=H1 Tryz.underlying88 (by kernel_rfl) Bi9 _ _ q;have s4:(EK (fun i=>RH (x4.g i)) x4.n+1)<=a4:=s4;obtain⟨a5,b5,p5,q5,rfl,s,h,t⟩:=E3 h;obtain⟨x5,l5,w5,s5⟩:=N9 Cq7 _ _ s;have s5:1<=a5:=s5;obtain rfl:=BI h;exact⟨⟨x0,x1,x2,x3,x4,x5⟩,LeDs.append l0 (LeDs.append l1 (LeDs.append l2 (LeDs.append l3 (LeDs.append l4 (LeDs.append l5 LeDs.nil))))),⟨w0,w1,w2,w3,w4,w5⟩,by simp only[Ql];omega⟩
def Al0 (x:A5):Prop:=(∀i,i<x.Tree.n->Bx1 (x.Tree.g i))/\(∀i,i<x.Laws.n->Bb4 (x.Laws.g i))/\(∀i,i<x.On.n->∀i',i' < (x.On.g i).n->(Lit.int .i64 ((x.On.g i).g i')).wf=true)
def AT (x:A5):Nat:=(EK (fun i=>Lf (x.Tree.g i)) x.Tree.n+1)+(EK (fun i=>Ql (x.Laws.g i)) x.Laws.n+1)+(EK (fun i=>EK (fun i=>1) (x.On.g i).n+1) x.On.n+1)+1
def Ca:Py Tryz.prog Ar3 A4 Al0 AT:=by intro m pvs h;obtain⟨m0,h,a⟩:=W8 Cy7 h;obtain⟨a0,b0,p0,q0,rfl,b,h,c⟩:=E3 h;obtain⟨x0,l0,w0,s0⟩:=H1 Tryz.underlying22 (by kernel_rfl) Bi8 _ _ b;have s0:(EK (fun i=>Lf (x0.g i)) x0.n+1)<=a0:=s0;obtain⟨a1,b1,p1,q1,rfl,h1,h,d⟩:=E3 h;obtain⟨x1,l1,w1,s1⟩:=H1 Tryz.underlying23 (by kernel_rfl) Bx2 _ _ h1;have s1:(EK (fun i=>Ql (x1.g i)) x1.n+1)<=a1:=s1;obtain⟨a2,b2,p2,q2,rfl,f,h,j⟩:=E3 h;obtain⟨x2,l2,w2,s2⟩:=H1 Tryz.underlying24 (by kernel_rfl) (H1 Tryz.underlying43 (by kernel_rfl) (N9 Cq7)) _ _ f;have s2:(EK (fun i=>EK (fun i=>1) (x2.g i).n+1) x2.n+1)<=a2:=s2;obtain rfl:=BI h;exact⟨⟨x0,x1,x2⟩,LeDs.append l0 (LeDs.append l1 (LeDs.append l2 LeDs.nil)),⟨w0,w1,w2⟩,by simp only[AT];omega⟩
end Go.AM
namespace Go.AM
def AG9 {f:Nat->Nat}(h:∀i,1<=f i):∀n,n<=EK f n
 |0=>Cx3 _
 |n+1=>by
  have:=AG9 h n
  have:=h n
  show n+1<=EK f n+f n;omega
def Cj7 {x:Hk}(h:AS9 x):okO x:=⟨Bb2 h.2.2.1,BJ2 h.2.1,BJ2 h.2.2.2.1⟩
def BJ3 {l:Law}(h:Bb4 l)(hs:Ql l<=1048576):Tz l:=by obtain⟨_,h1,b,c,d,_⟩:=h;unfold Ql at hs;have g1:=AG9 (f:=fun i=>CO (l.If.g i)) (fun i=>by simp only[CO];omega) l.If.n;have g2:=AG9 (f:=fun i=>RH (l.Out.g i)) (fun i=>by simp only[RH];omega) l.Out.n;exact⟨⟨h1,b,fun i a=>Bb2 (c i a)⟩,by omega,by omega,by omega,fun i a=>Cj7 (d i a)⟩
def Bx3 {x:Sl Law}(h:∀i,i<x.n->Bb4 (x.g i))(hs:EK (fun i=>Ql (x.g i)) x.n+1<=1048576):HU x:=fun i a=>
 BJ3 (h i a) (by have:=VH (fun i=>Ql (x.g i)) a;have this:Ql (x.g i)<=_:=this;omega)
def BP4 {x:Sl To}(h:∀i,i<x.n->ML (x.g i)):okA x:=fun i a=>Bb2 (h i a)
def Ib {h:A5}(w:Al0 h)(hs:AT h<=1048576):I6 h:=by
 unfold AT at hs;have g:=AG9 (f:=fun i=>EK (fun i=>1) (h.On.g i).n+1) (fun i=>by omega) h.On.n;refine⟨Bx3 w.2.1 (by omega),fun v a=>?_,by omega,fun v a=>?_⟩
 .have:=VH (fun i=>Lf (h.Tree.g i)) a
  have this:Lf (h.Tree.g v)<=EK (fun i=>Lf (h.Tree.g i)) h.Tree.n:=this;have e:Lf (h.Tree.g v)=1+((h.Tree.g v).Name.length+1)+1:=rfl;omega
 have g2:=VH (fun i=>EK (fun i=>1) (h.On.g i).n+1) a;have g2:EK (fun i=>1) (h.On.g v).n+1<=_:=g2;have g3:=AG9 (f:=fun _=>1) (fun i=>by omega) (h.On.g v).n;omega
end Go.AM
namespace Go.AM
open Go.RowKit Go.ChangeShapes Go.WideShapes Go.ChangeAt Go.Deep Go.Proofs Go.Proofs.YtlbooedblpdmaaaGreatDoor
set_option maxRecDepth 100000
def AT0 (x:E6):Prop:=(True)/\(∀i,i<x.W.n->ML (x.W.g i))
def Gp (x:E6):Nat:=1+(EK (fun i=>CO (x.W.g i)) x.W.n+1)+1
def FH:Py Tryz.prog Ee C6 AT0 Gp:=by intro m pvs h;obtain⟨m0,h,a⟩:=W8 Tryz.underlying68 h;obtain⟨a0,b0,p0,q0,rfl,b,h,c⟩:=E3 h;obtain⟨x0,l0,w0,s0⟩:=Ai8 Cs7 _ _ b;have s0:1<=a0:=s0;obtain⟨a1,b1,p1,q1,rfl,h1,h,d⟩:=E3 h;obtain⟨x1,l1,w1,s1⟩:=H1 CE8 (by kernel_rfl) Gn _ _ h1;have s1:(EK (fun i=>CO (x1.g i)) x1.n+1)<=a1:=s1;obtain rfl:=BI h;exact⟨⟨x0,x1⟩,LeDs.append l0 (LeDs.append l1 LeDs.nil),⟨w0,w1⟩,by simp only[Gp];omega⟩
def At8 (x:Entry):Prop:=(True)/\(∀i,i<x.Forms.n->AT0 (x.Forms.g i))
def Ar (x:Entry):Nat:=(x.Gloss.length+1)+(EK (fun i=>Gp (x.Forms.g i)) x.Forms.n+1)+1
def Eo:Py Tryz.prog Jc B7 At8 Ar:=by intro m pvs h;obtain⟨m0,h,a⟩:=W8 Tryz.underlying49 h;obtain⟨a0,b0,p0,q0,rfl,b,h,c⟩:=E3 h;obtain⟨x0,l0,w0,s0⟩:=VJ CD7 _ _ b;have s0:(x0.length+1)<=a0:=s0;obtain⟨a1,b1,p1,q1,rfl,h1,h,d⟩:=E3 h;obtain⟨x1,l1,w1,s1⟩:=H1 Cs8 (by kernel_rfl) FH _ _ h1;have s1:(EK (fun i=>Gp (x1.g i)) x1.n+1)<=a1:=s1;obtain rfl:=BI h;exact⟨⟨x0,x1⟩,LeDs.append l0 (LeDs.append l1 LeDs.nil),⟨w0,w1⟩,by simp only[Ar];omega⟩
end Go.AM
namespace Go.AM
def Ep {x:Sl E6}(h:∀i,i<x.n->AT0 (x.g i)):K0 x:=fun i a=>BP4 (h i a).2
def Lg {x:Sl Entry}(h:∀i,i<x.n->At8 (x.g i))(hs:EK (fun i=>Ar (x.g i)) x.n+1<=1048576):S3 x:=fun i a=>by refine⟨Ep (h i a).2,?_⟩;have g:=VH (fun i=>Ar (x.g i)) a;have g:Ar (x.g i)<=EK (fun i=>Ar (x.g i)) x.n:=g;have e:Ar (x.g i)=((x.g i).Gloss.length+1)+(EK (fun i'=>Gp ((x.g i).Forms.g i')) (x.g i).Forms.n+1)+1:=rfl;omega
end Go.AM
