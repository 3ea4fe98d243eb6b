/- What a law's walk and its plain proof need, part 9: no condition of its own. -/
import Derived.JoinedOf
import Derived.Test.YtodhnkfgkgkngaaGreatDoorGD
import Derived.Test.YtodhnkfgkgkngaaGreatDoorGE
import Derived.Test.YtodhnkfgkgkngaaGreatDoorCards
import Derived.Test.YtodhnkfgkgkngaaGreatDoorTie
import Derived.WalkKit
import Derived.ProofKit
import Derived.OpenShut
import Derived.Deep.DeepHandedRow
import Derived.MakeChecks
import Derived.Lib.LaidTab
import Derived.Test.YtodhnkfgkgkngaaGreatDoorGH
set_option linter.defProp false
set_option linter.unusedSimpArgs false
set_option linter.unusedVariables false
set_option linter.unusedSectionVars false
namespace Go.AM
def AV3:=@Go.Proofs.Tryz.underlying3
def AY8:=@Go.Proofs.Tryz.underlying52
def Ba4:=@Go.Proofs.Tryz.underlying4
def Bb8:=@Go.Proofs.Tryz.underlying49
def Bc4:=@Go.Proofs.Tryz.underlying9
def Bd7:=@Go.Proofs.Tryz.underlying26
def Bd8:=@Go.Proofs.Tryz.underlying27
open Go.Rows
def jA_ (P:Program)(f:FuncId)(fn:Func)(s:ChangeSpec)(c:OpenClaim):Bool:=
 (c.wf (OpenSpec.ofChange s))&&(laidOutB P)&&(mapsRowed P)&&(fn.params.all (P.readableRec ·))&&(namedTie P c.named s.vars)&&(c.stops==[])&&(P.stops==[])&&(c.knobs==[])&&(P.stopKnobs==[])
def jB_ (P:Program)(f:FuncId)(fn:Func)(s:ChangeSpec)(c:OpenClaim):Bool:=
 (c.inPlace==P.inPlace f)&&(c.unfollowed==P.unfollowed f)
def jC_ (P:Program)(f:FuncId)(fn:Func)(s:ChangeSpec)(c:OpenClaim):Bool:=
 (c.recurses==P.recurses f)&&(c.named==P.varsNamed f)
def jD_ (P:Program)(f:FuncId)(fn:Func)(s:ChangeSpec)(c:OpenClaim):Bool:=
 (c.maps==(fn.params.toList++s.plain.varTypes P).any (P.mapsRec ·))&&(c.ifaces==(fn.params.toList++s.plain.varTypes P).any (P.ifacesRec ·))&&(c.mapsOut==P.mapsAmong fn.resultTypes.toList)&&(c.loops==(fn.params.toList++s.plain.varTypes P).any (P.loopsFrom ·))&&(c.wideKeys==(fn.params.toList++s.plain.varTypes P++fn.resultTypes.toList).any (P.wideKeysFrom ·))&&(s.vars.all (P.varReadable ·))&&(fn.resultTypes.all (fun t=>P.readableRec t&&decide (t<P.types.size)))&&(c.ifacesOut==fn.resultTypes.toList.any (P.ifacesRec ·))&&(c.loopsOut==fn.resultTypes.toList.any (P.loopsFrom ·))&&(c.plainKeys==P.plainKeys)&&(c.shortTexts.isNone)
def jE_ (P:Program)(f:FuncId)(fn:Func)(s:ChangeSpec)(c:OpenClaim):Bool:=
 (P.stopsHeard)&&(P.mayEnter)
def jF_ (P:Program)(f:FuncId)(fn:Func)(s:ChangeSpec)(c:OpenClaim):Bool:=
 (c.lifted==P.liftsFinal)&&(P.make==some c.make)&&(c.kinds==(if c.domain.isEmpty then []else fn.params.toList.map fun t=>match P.underlying t with|some (.int k)=>some k|_=>none))&&(c.pinned==c.pinnedBy)&&(c.veiled==(fn.params.toList++s.plain.varTypes P++fn.resultTypes.toList).any (P.veiledRec ·))&&(c.veiledFits P fn.params.toList (fn.params.toList++s.plain.varTypes P++fn.resultTypes.toList))
theorem Zc {P:Program}{f:FuncId}{fn:Func}{s:ChangeSpec}{c:OpenClaim}(h1:jA_ P f fn s c=true)(a:jB_ P f fn s c=true)(b:jC_ P f fn s c=true)(d:jD_ P f fn s c=true)(g:jE_ P f fn s c=true)(i:jF_ P f fn s c=true):joinedFacts P f fn s c=true:=by
 have:joinedFacts P f fn s c=(jA_ P f fn s c&&jB_ P f fn s c&&jC_ P f fn s c&&jD_ P f fn s c&&jE_ P f fn s c&&jF_ P f fn s c):=by simp only[joinedFacts,jA_,jB_,jC_,jD_,jE_,jF_,Bool.and_assoc];rfl
 rw[this,h1,a,b,d,g,i];rfl
end Go.AM
namespace Go.AM
open Go.RowKit Go.ChangeShapes Go.WideShapes Go.ChangeAt Go.Deep Go.Proofs Go.Proofs.YtodhnkfgkgkngaaGreatDoor
theorem Aw0:Kids Tryz.prog (· < Tryz.prog.types.size):=kids_rows (by kernel_rfl) (by kernel_rfl)
theorem QU {H:Type}:∀es:List (DataW H),TB (es.map Rows.uptoBulk)=Rows.uptoBulkAll es
 |[]=>rfl
 |d::r=>by simp only[AS0,RJ,Rows.uptoBulkAll,QU r]
theorem Aw1 {H:Type}:Bulk (H:=H) Rows.uptoBulk where
 int k n:=by simp[Rows.uptoBulk]
 bool b:=by simp[Rows.uptoBulk]
 str l:=by simp[Rows.uptoBulk]
 nil:=by simp[Rows.uptoBulk]
 slice es sp:=by simp only[Rows.uptoBulk,QU];omega
 agg ps:=by simp only[Rows.uptoBulk,QU];omega
section
variable {H:Type}{enc:TypeId×Value->H}{P:Program}{W:World}
theorem Aw2 {v:Value}{x:PV}(a:v.cells.toList=[v])(h:CRep W v.cells.toList [x]):RepP W (fun _ _=>False) v x:=by
 have:=(h.2 0 (by simp)).1
 rw[a]at this;exact this
theorem Zb {cs:Array Value}{pvs:List PV}(h:CRep W (Value.agg cs).cells.toList pvs):RepP W (fun _ _=>False) (.agg cs) (.agg pvs):=by
 obtain⟨h1,a⟩:=h;have hc:(Value.agg cs).cells.toList=cs.toList:=rfl;rw[hc]at h1 a;have e:∀i,cs.toList.getD i undef=cs.getD i undef:=fun i=>by simp[AP1,AP4]
 exact .agg cs pvs (by simpa using h1) (fun i b=>by rw[<- e];exact (a i b).2) fun i b=>by rw[<- e];exact (a i b).1
end
theorem Ar9 {n:Int}(hw:(Lit.int .u32 n).wf=true):∃p:BitVec 32,n=(p.toNat:Int):=by
 simp only[Lit.wf,IntKind.min,IntKind.max,IntKind.signed,IntKind.bits,AP7,decide_eq_true_eq]at hw;refine⟨BitVec.ofNat 32 n.toNat,?_⟩;rw[Bh1];have a:0<=n:=by have:=hw.1;simpa using this
 have h1:n<4294967296:=by have:=hw.2;simp at this;omega
 rw[AX7 (by omega),Int.toNat_of_nonneg a]
theorem Aw3 {W:World}(hL:laidMetH Tryz.prog Rows.historyFormsUptoRow.laid W):TabOk Tryz.prog W fun _ _=>False:=by
 rw[MakeChecks.laidMetH_plain _ _ _ (by kernel_rfl)]at hL;have b:Lib.TabIs Tryz.prog W "math/bits.deBruijn64tab" .u8 (Lib.deBruijn64tab.map fun (n:Nat)=>(n:Int)):=by refine Lib.tabIs_of_head (g:=3) (t:=(Tryz.prog.globals[3]?.map (·.type)).getD 0) (e:=(match Tryz.prog.underlying ((Tryz.prog.globals[3]?.map (·.type)).getD 0)with|some (.array _ e)=>e|_=>0)) (n:=64) (by kernel_rfl) (by kernel_rfl) (by kernel_rfl) (by kernel_rfl) (by kernel_rfl) (by kernel_rfl) (rest:=Rows.historyFormsUptoRow.laid.tail) ?_;exact hL
 intro g s j v hs a;have c:g=3:=by
  have key:∀k:Fin Tryz.prog.globals.size,((Tryz.prog.globals[k.1]?.map fun s=>s.name == "math/bits.deBruijn64tab")==some true)=true->k.1=3:=by decide +kernel
  have d:g<Tryz.prog.globals.size:=(AQ1.1 hs).1;refine key ⟨g,d⟩ ?_
  have:(s.name == "math/bits.deBruijn64tab")=true:=by
   unfold VT at a;split at a
   ·assumption
   ·simp at a
  simp[hs,this]
 subst c;unfold VT at a;split at a
 ·rw[AP9]at a;obtain⟨n,hn,rfl⟩:=AR5.1 a;have f:j<Lib.deBruijn64tab.length:=(AQ4.1 hn).1;refine⟨?_,fun h=>h⟩;rw[b.cell (by kernel_rfl) j (by simpa using f)];simp[AP1,AP9,hn]
 ·simp at a
end Go.AM
namespace Go.AM
open Go.RowKit Go.ChangeShapes Go.WideShapes Go.ChangeAt Go.Deep Go.Proofs Go.Proofs.YtodhnkfgkgkngaaGreatDoor
set_option maxRecDepth 100000
def Ag9 (x:G7):Prop:=((Lit.int .i64 x.Parent).wf=true)/\(True)
def Gg (x:G7):Nat:=1+(x.Name.length+1)+1
theorem YT:Lj Tryz.prog O9 D2 Ag9 Gg:=by intro m pvs h;obtain⟨m0,h,a⟩:=AK Tryz.underlying48 h;obtain⟨a0,b0,p0,q0,rfl,b,h,c⟩:=D1 h;obtain⟨x0,l0,w0,s0⟩:=T7 AV3 _ _ b;have s0:1<=a0:=s0;obtain⟨a1,b1,p1,q1,rfl,h1,h,d⟩:=D1 h;obtain⟨x1,l1,w1,s1⟩:=Sb Bc4 _ _ h1;have s1:(x1.length+1)<=a1:=s1;obtain rfl:=Cq h;exact⟨⟨x0,x1⟩,LeDs.append l0 (LeDs.append l1 LeDs.nil),⟨w0,w1⟩,by simp only[Gg];omega⟩
def IE (x:Sound):Prop:=((Lit.int .u32 x.Plus).wf=true)/\((Lit.int .u32 x.Minus).wf=true)
def BF (x:Sound):Nat:=1+1+1
theorem El:Lj Tryz.prog B0 A0 IE BF:=by intro m pvs h;obtain⟨m0,h,a⟩:=AK Tryz.underlying51 h;obtain⟨a0,b0,p0,q0,rfl,b,h,c⟩:=D1 h;obtain⟨x0,l0,w0,s0⟩:=T7 Bb8 _ _ b;have s0:1<=a0:=s0;obtain⟨a1,b1,p1,q1,rfl,h1,h,d⟩:=D1 h;obtain⟨x1,l1,w1,s1⟩:=T7 Bb8 _ _ h1;have s1:1<=a1:=s1;obtain rfl:=Cq h;exact⟨⟨x0,x1⟩,LeDs.append l0 (LeDs.append l1 LeDs.nil),⟨w0,w1⟩,by simp only[BF];omega⟩
theorem WZ {x:Sound}(h:IE x):okS x:=by obtain⟨p,hp⟩:=Ar9 h.1;obtain⟨q,a⟩:=Ar9 h.2;exact⟨p,q,by cases x;simp_all [sOf]⟩
abbrev Xa (x:Pat):Prop:=okPS x
abbrev Tw (x:Pat):Nat:=1
theorem Tx:Lj Tryz.prog Ea B3 Xa Tw:=by
 intro m
 induction m using Nat.strongRecOn with
 |ind m ih=>
 intro pvs h;obtain⟨m0,h,d⟩:=AK Tryz.underlying54 h;obtain⟨a0,b0,p0,q0,rfl,j,h,l⟩:=D1 h;obtain⟨x0,l0,w0,s0⟩:=T7 AV3 _ _ j;have s0:1<=a0:=s0;obtain⟨a1,b1,p1,q1,rfl,h1,h,o⟩:=D1 h;obtain⟨x1,l1,w1,s1⟩:=El _ _ h1;have s1:BF x1<=a1:=s1;obtain⟨a2,b2,p2,q2,rfl,q,h,r⟩:=D1 h;obtain⟨x2,l2,w2,s2⟩:=XO Ba4 _ _ q;have s2:1<=a2:=s2;obtain⟨a3,b3,p3,q3,rfl,s,h,t⟩:=D1 h;obtain⟨x3,l3,w3,s3⟩:=T7 AV3 _ _ s;have s3:1<=a3:=s3;obtain⟨a4,b4,p4,q4,rfl,u,h,v⟩:=D1 h;obtain⟨x4,l4,w4,s4⟩:=T7 AV3 _ _ u;have s4:1<=a4:=s4;obtain⟨a5,b5,p5,q5,rfl,w,h,y⟩:=D1 h;obtain rfl:=Cq h;have a:Tryz.prog.cellsOf 54=7:=by kernel_rfl
 cases w with
 |int ht'=>rw[AY8]at ht';cases ht'
 |bool ht'=>rw[AY8]at ht';cases ht'
 |str ht'=>rw[AY8]at ht';cases ht'
 |struct ht'=>rw[AY8]at ht';cases ht'
 |arr ht'=>rw[AY8]at ht';cases ht'
 | @slice _ _ e' n f ms ht' hl hel hm=>rw[AY8]at ht';cases ht';rw[a];rw[Og]at hm;obtain⟨g,c⟩:=choose_lt (α:=Pat) (p:=fun i x=>LeDs (f i) (B3 x)/\Xa x/\1<=ms i) fun i b=>ih (ms i) (by have:=PP ms b;omega) _ (hel i b);exact⟨.mk x0 x1 x2 x3 x4 n g,LeDs.append l0 (LeDs.append l1 (LeDs.append l2 (LeDs.append l3 (LeDs.append l4 (.cons (.sl fun i b=>(c i b).1) .nil))))),⟨WZ w1,fun i b=>(c i b).2.1⟩,by show 1<=m;omega⟩
def VJ (x:Bn):Prop:=((Lit.int .i64 x.From).wf=true)/\((Lit.int .u32 x.Clear).wf=true)/\(IE x.Set)/\((Lit.int .u32 x.Take).wf=true)/\((Lit.int .i64 x.Of).wf=true)
def Jl (x:Bn):Nat:=1+1+BF x.Set+1+1+1
theorem YU:Lj Tryz.prog Ab7 O5 VJ Jl:=by intro m pvs h;obtain⟨m0,h,a⟩:=AK Tryz.underlying114 h;obtain⟨a0,b0,p0,q0,rfl,b,h,c⟩:=D1 h;obtain⟨x0,l0,w0,s0⟩:=T7 AV3 _ _ b;have s0:1<=a0:=s0;obtain⟨a1,b1,p1,q1,rfl,h1,h,d⟩:=D1 h;obtain⟨x1,l1,w1,s1⟩:=T7 Bb8 _ _ h1;have s1:1<=a1:=s1;obtain⟨a2,b2,p2,q2,rfl,f,h,g⟩:=D1 h;obtain⟨x2,l2,w2,s2⟩:=El _ _ f;have s2:BF x2<=a2:=s2;obtain⟨a3,b3,p3,q3,rfl,i,h,j⟩:=D1 h;obtain⟨x3,l3,w3,s3⟩:=T7 Bb8 _ _ i;have s3:1<=a3:=s3;obtain⟨a4,b4,p4,q4,rfl,l,h,n⟩:=D1 h;obtain⟨x4,l4,w4,s4⟩:=T7 AV3 _ _ l;have s4:1<=a4:=s4;obtain rfl:=Cq h;exact⟨⟨x0,x1,x2,x3,x4⟩,LeDs.append l0 (LeDs.append l1 (LeDs.append l2 (LeDs.append l3 (LeDs.append l4 LeDs.nil)))),⟨w0,w1,w2,w3,w4⟩,by simp only[Jl];omega⟩
def Xb (x:Law):Prop:=(True)/\(Xa x.Left)/\(Xa x.Right)/\(∀i,i<x.If.n->IE (x.If.g i))/\(∀i,i<x.Out.n->VJ (x.Out.g i))/\((Lit.int .i64 x.Mode).wf=true)
def IF (x:Law):Nat:=(x.Name.length+1)+Tw x.Left+Tw x.Right+(Gh (fun i=>BF (x.If.g i)) x.If.n+1)+(Gh (fun i=>Jl (x.Out.g i)) x.Out.n+1)+1+1
theorem Ah0:Lj Tryz.prog W3 B2 Xb IF:=by intro m pvs h;obtain⟨m0,h,a⟩:=AK Tryz.underlying57 h;obtain⟨a0,b0,p0,q0,rfl,b,h,c⟩:=D1 h;obtain⟨x0,l0,w0,s0⟩:=Sb Bc4 _ _ b;have s0:(x0.length+1)<=a0:=s0;obtain⟨a1,b1,p1,q1,rfl,h1,h,d⟩:=D1 h;obtain⟨x1,l1,w1,s1⟩:=Tx _ _ h1;have s1:Tw x1<=a1:=s1;obtain⟨a2,b2,p2,q2,rfl,f,h,j⟩:=D1 h;obtain⟨x2,l2,w2,s2⟩:=Tx _ _ f;have s2:Tw x2<=a2:=s2;obtain⟨a3,b3,p3,q3,rfl,l,h,o⟩:=D1 h;obtain⟨x3,l3,w3,s3⟩:=V9 Bd8 (by kernel_rfl) El _ _ l;have s3:(Gh (fun i=>BF (x3.g i)) x3.n+1)<=a3:=s3;obtain⟨a4,b4,p4,q4,rfl,q,h,r⟩:=D1 h;obtain⟨x4,l4,w4,s4⟩:=V9 Tryz.underlying55 (by kernel_rfl) YU _ _ q;have s4:(Gh (fun i=>Jl (x4.g i)) x4.n+1)<=a4:=s4;obtain⟨a5,b5,p5,q5,rfl,s,h,t⟩:=D1 h;obtain⟨x5,l5,w5,s5⟩:=T7 AV3 _ _ s;have s5:1<=a5:=s5;obtain rfl:=Cq h;exact⟨⟨x0,x1,x2,x3,x4,x5⟩,LeDs.append l0 (LeDs.append l1 (LeDs.append l2 (LeDs.append l3 (LeDs.append l4 (LeDs.append l5 LeDs.nil))))),⟨w0,w1,w2,w3,w4,w5⟩,by simp only[IF];omega⟩
def OX (x:A8):Prop:=(∀i,i<x.Tree.n->Ag9 (x.Tree.g i))/\(∀i,i<x.Laws.n->Xb (x.Laws.g i))/\(∀i,i<x.On.n->∀i',i' < (x.On.g i).n->(Lit.int .i64 ((x.On.g i).g i')).wf=true)
def Cn (x:A8):Nat:=(Gh (fun i=>Gg (x.Tree.g i)) x.Tree.n+1)+(Gh (fun i=>IF (x.Laws.g i)) x.Laws.n+1)+(Gh (fun i=>Gh (fun i=>1) (x.On.g i).n+1) x.On.n+1)+1
theorem Hw:Lj Tryz.prog Ql A2 OX Cn:=by intro m pvs h;obtain⟨m0,h,a⟩:=AK Bd7 h;obtain⟨a0,b0,p0,q0,rfl,b,h,c⟩:=D1 h;obtain⟨x0,l0,w0,s0⟩:=V9 Tryz.underlying22 (by kernel_rfl) YT _ _ b;have s0:(Gh (fun i=>Gg (x0.g i)) x0.n+1)<=a0:=s0;obtain⟨a1,b1,p1,q1,rfl,h1,h,d⟩:=D1 h;obtain⟨x1,l1,w1,s1⟩:=V9 Tryz.underlying23 (by kernel_rfl) Ah0 _ _ h1;have s1:(Gh (fun i=>IF (x1.g i)) x1.n+1)<=a1:=s1;obtain⟨a2,b2,p2,q2,rfl,f,h,j⟩:=D1 h;obtain⟨x2,l2,w2,s2⟩:=V9 Tryz.underlying24 (by kernel_rfl) (V9 Tryz.underlying58 (by kernel_rfl) (T7 AV3)) _ _ f;have s2:(Gh (fun i=>Gh (fun i=>1) (x2.g i).n+1) x2.n+1)<=a2:=s2;obtain rfl:=Cq h;exact⟨⟨x0,x1,x2⟩,LeDs.append l0 (LeDs.append l1 (LeDs.append l2 LeDs.nil)),⟨w0,w1,w2⟩,by simp only[Cn];omega⟩
end Go.AM
namespace Go.AM
theorem Ty {f:Nat->Nat}(h:∀i,1<=f i):∀n,n<=Gh f n
 |0=>AX9 _
 |n+1=>by
  have:=Ty h n
  have:=h n
  show n+1<=Gh f n+f n;omega
theorem AO0 {x:Bn}(h:VJ x):okO x:=⟨WZ h.2.2.1,Ar9 h.2.1,Ar9 h.2.2.2.1⟩
theorem As0 {l:Law}(h:Xb l)(hs:IF l<=1048576):Kj l:=by obtain⟨_,h1,b,c,d,_⟩:=h;unfold IF at hs;have g1:=Ty (f:=fun i=>BF (l.If.g i)) (fun i=>by simp only[BF];omega) l.If.n;have g2:=Ty (f:=fun i=>Jl (l.Out.g i)) (fun i=>by simp only[Jl];omega) l.Out.n;exact⟨⟨h1,b,fun i a=>WZ (c i a)⟩,by omega,by omega,by omega,fun i a=>AO0 (d i a)⟩
theorem Ah1 {x:Sl Law}(h:∀i,i<x.n->Xb (x.g i))(hs:Gh (fun i=>IF (x.g i)) x.n+1<=1048576):Ei x:=fun i a=>
 As0 (h i a) (by have:=PP (fun i=>IF (x.g i)) a;have this:IF (x.g i)<=_:=this;omega)
theorem AG9 {x:Sl Sound}(h:∀i,i<x.n->IE (x.g i)):okA x:=fun i a=>WZ (h i a)
theorem QY {h:A8}(w:OX h)(hs:Cn h<=1048576):T2 h:=by
 unfold Cn at hs;have g:=Ty (f:=fun i=>Gh (fun i=>1) (h.On.g i).n+1) (fun i=>by omega) h.On.n;refine⟨Ah1 w.2.1 (by omega),fun v a=>?_,by omega,fun v a=>?_⟩
 ·have:=PP (fun i=>Gg (h.Tree.g i)) a
  have this:Gg (h.Tree.g v)<=Gh (fun i=>Gg (h.Tree.g i)) h.Tree.n:=this;have e:Gg (h.Tree.g v)=1+((h.Tree.g v).Name.length+1)+1:=rfl;omega
 ·have g2:=PP (fun i=>Gh (fun i=>1) (h.On.g i).n+1) a;have g2:Gh (fun i=>1) (h.On.g v).n+1<=_:=g2;have g3:=Ty (f:=fun _=>1) (fun i=>by omega) (h.On.g v).n;omega
end Go.AM
