/- What a law's walk and its plain proof need, part 8: no condition of its own. -/
import Derived.JoinedOf
import Derived.Test.YtodhnkfgkgkngaaGreatDoorGD
import Derived.Test.YtodhnkfgkgkngaaGreatDoorGE
import Derived.Test.YtodhnkfgkgkngaaGreatDoorCards
import Derived.Test.YtodhnkfgkgkngaaGreatDoorTie
import Derived.WalkKit
import Derived.ProofKit
import Derived.OpenShut
import Derived.Deep.DeepHandedRow
import Derived.MakeChecks
import Derived.Lib.LaidTab
import Derived.Test.YtodhnkfgkgkngaaGreatDoorGG
set_option linter.defProp false
set_option linter.unusedSimpArgs false
set_option linter.unusedVariables false
set_option linter.unusedSectionVars false
namespace Go.AM
def Ak8:=@Go.Proofs.Tryz.underlying3
def Aq0:=@Go.Proofs.Tryz.underlying52
def Ar7:=@Go.Proofs.Tryz.underlying4
def At1:=@Go.Proofs.Tryz.underlying49
def At5:=@Go.Proofs.Tryz.underlying9
open Go.Rows
def jA_ (P:Program)(f:FuncId)(fn:Func)(s:ChangeSpec)(c:OpenClaim):Bool:=
 (c.wf (OpenSpec.ofChange s))&&(laidOutB P)&&(mapsRowed P)&&(fn.params.all (P.readableRec ·))&&(namedTie P c.named s.vars)&&(c.stops==[])&&(P.stops==[])&&(c.knobs==[])&&(P.stopKnobs==[])
def jB_ (P:Program)(f:FuncId)(fn:Func)(s:ChangeSpec)(c:OpenClaim):Bool:=
 (c.inPlace==P.inPlace f)&&(c.unfollowed==P.unfollowed f)
def jC_ (P:Program)(f:FuncId)(fn:Func)(s:ChangeSpec)(c:OpenClaim):Bool:=
 (c.recurses==P.recurses f)&&(c.named==P.varsNamed f)
def jD_ (P:Program)(f:FuncId)(fn:Func)(s:ChangeSpec)(c:OpenClaim):Bool:=
 (c.maps==(fn.params.toList++s.plain.varTypes P).any (P.mapsRec ·))&&(c.ifaces==(fn.params.toList++s.plain.varTypes P).any (P.ifacesRec ·))&&(c.mapsOut==P.mapsAmong fn.resultTypes.toList)&&(c.loops==(fn.params.toList++s.plain.varTypes P).any (P.loopsFrom ·))&&(c.wideKeys==(fn.params.toList++s.plain.varTypes P++fn.resultTypes.toList).any (P.wideKeysFrom ·))&&(s.vars.all (P.varReadable ·))&&(fn.resultTypes.all (fun t=>P.readableRec t&&decide (t<P.types.size)))&&(c.ifacesOut==fn.resultTypes.toList.any (P.ifacesRec ·))&&(c.loopsOut==fn.resultTypes.toList.any (P.loopsFrom ·))&&(c.plainKeys==P.plainKeys)&&(c.shortTexts.isNone)
def jE_ (P:Program)(f:FuncId)(fn:Func)(s:ChangeSpec)(c:OpenClaim):Bool:=
 (P.stopsHeard)&&(P.mayEnter)
def jF_ (P:Program)(f:FuncId)(fn:Func)(s:ChangeSpec)(c:OpenClaim):Bool:=
 (c.lifted==P.liftsFinal)&&(P.make==some c.make)&&(c.kinds==(if c.domain.isEmpty then []else fn.params.toList.map fun t=>match P.underlying t with|some (.int k)=>some k|_=>none))&&(c.pinned==c.pinnedBy)&&(c.veiled==(fn.params.toList++s.plain.varTypes P++fn.resultTypes.toList).any (P.veiledRec ·))&&(c.veiledFits P fn.params.toList (fn.params.toList++s.plain.varTypes P++fn.resultTypes.toList))
theorem Ur {P:Program}{f:FuncId}{fn:Func}{s:ChangeSpec}{c:OpenClaim}(h1:jA_ P f fn s c=true)(a:jB_ P f fn s c=true)(b:jC_ P f fn s c=true)(d:jD_ P f fn s c=true)(g:jE_ P f fn s c=true)(i:jF_ P f fn s c=true):joinedFacts P f fn s c=true:=by
 have:joinedFacts P f fn s c=(jA_ P f fn s c&&jB_ P f fn s c&&jC_ P f fn s c&&jD_ P f fn s c&&jE_ P f fn s c&&jF_ P f fn s c):=by simp only[joinedFacts,jA_,jB_,jC_,jD_,jE_,jF_,Bool.and_assoc];rfl
 rw[this,h1,a,b,d,g,i];rfl
end Go.AM
namespace Go.AM
open Go.RowKit Go.ChangeShapes Go.WideShapes Go.ChangeAt Go.Deep Go.Proofs Go.Proofs.YtodhnkfgkgkngaaGreatDoor
theorem YA:Kids Tryz.prog (· < Tryz.prog.types.size):=kids_rows (by kernel_rfl) (by kernel_rfl)
theorem ND {H:Type}:∀es:List (DataW H),PA (es.map Rows.uptoBulk)=Rows.uptoBulkAll es
 |[]=>rfl
 |d::r=>by simp only[Aj7,Ov,Rows.uptoBulkAll,ND r]
theorem YB {H:Type}:Bulk (H:=H) Rows.uptoBulk where
 int k n:=by simp[Rows.uptoBulk]
 bool b:=by simp[Rows.uptoBulk]
 str l:=by simp[Rows.uptoBulk]
 nil:=by simp[Rows.uptoBulk]
 slice es sp:=by simp only[Rows.uptoBulk,ND];omega
 agg ps:=by simp only[Rows.uptoBulk,ND];omega
section
variable {H:Type}{enc:TypeId×Value->H}{P:Program}{W:World}
theorem Up {v:Value}{x:PV}(a:v.cells.toList=[v])(h:CRep W v.cells.toList [x]):RepP W (fun _ _=>False) v x:=by
 have:=(h.2 0 (by simp)).1
 rw[a]at this;exact this
theorem YC {cs:Array Value}{pvs:List PV}(h:CRep W (Value.agg cs).cells.toList pvs):RepP W (fun _ _=>False) (.agg cs) (.agg pvs):=by
 obtain⟨h1,a⟩:=h;have hc:(Value.agg cs).cells.toList=cs.toList:=rfl;rw[hc]at h1 a;have e:∀i,cs.toList.getD i undef=cs.getD i undef:=fun i=>by simp[Ah4,Ah7]
 exact .agg cs pvs (by simpa using h1) (fun i b=>by rw[<- e];exact (a i b).2) fun i b=>by rw[<- e];exact (a i b).1
end
theorem XT {n:Int}(hw:(Lit.int .u32 n).wf=true):∃p:BitVec 32,n=(p.toNat:Int):=by
 simp only[Lit.wf,IntKind.min,IntKind.max,IntKind.signed,IntKind.bits,Ah9,decide_eq_true_eq]at hw;refine⟨BitVec.ofNat 32 n.toNat,?_⟩;rw[Ax5];have a:0<=n:=by have:=hw.1;simpa using this
 have h1:n<4294967296:=by have:=hw.2;simp at this;omega
 rw[Ar9 (by omega),Int.toNat_of_nonneg a]
theorem YD {W:World}(hL:laidMetH Tryz.prog Rows.historyFormsUptoRow.laid W):TabOk Tryz.prog W fun _ _=>False:=by
 rw[MakeChecks.laidMetH_plain _ _ _ (by kernel_rfl)]at hL;have b:Lib.TabIs Tryz.prog W "math/bits.deBruijn64tab" .u8 (Lib.deBruijn64tab.map fun (n:Nat)=>(n:Int)):=by refine Lib.tabIs_of_head (g:=3) (t:=(Tryz.prog.globals[3]?.map (·.type)).getD 0) (e:=(match Tryz.prog.underlying ((Tryz.prog.globals[3]?.map (·.type)).getD 0)with|some (.array _ e)=>e|_=>0)) (n:=64) (by kernel_rfl) (by kernel_rfl) (by kernel_rfl) (by kernel_rfl) (by kernel_rfl) (by kernel_rfl) (rest:=Rows.historyFormsUptoRow.laid.tail) ?_;exact hL
 intro g s j v hs a;have c:g=3:=by
  have key:∀k:Fin Tryz.prog.globals.size,((Tryz.prog.globals[k.1]?.map fun s=>s.name == "math/bits.deBruijn64tab")==some true)=true->k.1=3:=by decide +kernel
  have d:g<Tryz.prog.globals.size:=(Ai2.1 hs).1;refine key ⟨g,d⟩ ?_
  have:(s.name == "math/bits.deBruijn64tab")=true:=by
   unfold Rp at a;split at a
   ·assumption
   ·simp at a
  simp[hs,this]
 subst c;unfold Rp at a;split at a
 ·rw[Ai1]at a;obtain⟨n,hn,rfl⟩:=Aj5.1 a;have f:j<Lib.deBruijn64tab.length:=(Ai8.1 hn).1;refine⟨?_,fun h=>h⟩;rw[b.cell (by kernel_rfl) j (by simpa using f)];simp[Ah4,Ai1,hn]
 ·simp at a
end Go.AM
namespace Go.AM
open Go.RowKit Go.ChangeShapes Go.WideShapes Go.ChangeAt Go.Deep Go.Proofs Go.Proofs.YtodhnkfgkgkngaaGreatDoor
set_option maxRecDepth 100000
def Wg (x:G6):Prop:=((Lit.int .i64 x.Parent).wf=true)/\(True)
def Cw (x:G6):Nat:=1+(x.Name.length+1)+1
theorem Uh:Jd Tryz.prog H9 C5 Wg Cw:=by intro m pvs h;obtain⟨m0,h,a⟩:=X9 Tryz.underlying48 h;obtain⟨a0,b0,p0,q0,rfl,b,h,c⟩:=C6 h;obtain⟨x0,l0,w0,s0⟩:=N3 Ak8 _ _ b;have s0:1<=a0:=s0;obtain⟨a1,b1,p1,q1,rfl,h1,h,d⟩:=C6 h;obtain⟨x1,l1,w1,s1⟩:=OK At5 _ _ h1;have s1:(x1.length+1)<=a1:=s1;obtain rfl:=Bf h;exact⟨⟨x0,x1⟩,LeDs.append l0 (LeDs.append l1 LeDs.nil),⟨w0,w1⟩,by simp only[Cw];omega⟩
def Io (x:Sound):Prop:=((Lit.int .u32 x.Plus).wf=true)/\((Lit.int .u32 x.Minus).wf=true)
def Z6 (x:Sound):Nat:=1+1+1
theorem FP:Jd Tryz.prog B3 A0 Io Z6:=by intro m pvs h;obtain⟨m0,h,a⟩:=X9 Tryz.underlying51 h;obtain⟨a0,b0,p0,q0,rfl,b,h,c⟩:=C6 h;obtain⟨x0,l0,w0,s0⟩:=N3 At1 _ _ b;have s0:1<=a0:=s0;obtain⟨a1,b1,p1,q1,rfl,h1,h,d⟩:=C6 h;obtain⟨x1,l1,w1,s1⟩:=N3 At1 _ _ h1;have s1:1<=a1:=s1;obtain rfl:=Bf h;exact⟨⟨x0,x1⟩,LeDs.append l0 (LeDs.append l1 LeDs.nil),⟨w0,w1⟩,by simp only[Z6];omega⟩
theorem Wh {x:Sound}(h:Io x):okS x:=by obtain⟨p,hp⟩:=XT h.1;obtain⟨q,a⟩:=XT h.2;exact⟨p,q,by cases x;simp_all [sOf]⟩
abbrev Sv (x:Pat):Prop:=okPS x
abbrev JZ (x:Pat):Nat:=szP x+1
theorem Wi {f g:Nat->Nat}:∀n,(∀i,i<n->f i<=g i)->((List.range n).map f).sum<=Eb g n
 |0,_=>An7 _
 |n+1,h=>by rw[An8,Ao8,Aw4];have h1:=Wi n fun i a=>h i (by omega);have b:=h n (by omega);show _<=Eb g n+g n;simp;omega
theorem Px:Jd Tryz.prog CN B0 Sv JZ:=by
 intro m
 induction m using Nat.strongRecOn with
 |ind m ih=>
 intro pvs h;obtain⟨m0,h,d⟩:=X9 Tryz.underlying54 h;obtain⟨a0,b0,p0,q0,rfl,j,h,l⟩:=C6 h;obtain⟨x0,l0,w0,s0⟩:=N3 Ak8 _ _ j;have s0:1<=a0:=s0;obtain⟨a1,b1,p1,q1,rfl,h1,h,o⟩:=C6 h;obtain⟨x1,l1,w1,s1⟩:=FP _ _ h1;have s1:Z6 x1<=a1:=s1;obtain⟨a2,b2,p2,q2,rfl,q,h,r⟩:=C6 h;obtain⟨x2,l2,w2,s2⟩:=Tl Ar7 _ _ q;have s2:1<=a2:=s2;obtain⟨a3,b3,p3,q3,rfl,s,h,t⟩:=C6 h;obtain⟨x3,l3,w3,s3⟩:=N3 Ak8 _ _ s;have s3:1<=a3:=s3;obtain⟨a4,b4,p4,q4,rfl,u,h,v⟩:=C6 h;obtain⟨x4,l4,w4,s4⟩:=N3 Ak8 _ _ u;have s4:1<=a4:=s4;obtain⟨a5,b5,p5,q5,rfl,w,h,y⟩:=C6 h;obtain rfl:=Bf h;have b:Tryz.prog.cellsOf 54=7:=by kernel_rfl
 cases w with
 |int ht'=>rw[Aq0]at ht';cases ht'
 |bool ht'=>rw[Aq0]at ht';cases ht'
 |str ht'=>rw[Aq0]at ht';cases ht'
 |struct ht'=>rw[Aq0]at ht';cases ht'
 |arr ht'=>rw[Aq0]at ht';cases ht'
 | @slice _ _ e' n f ms ht' hl hel hm=>
  rw[Aq0]at ht';cases ht';rw[b];rw[LA]at hm;obtain⟨g,c⟩:=choose_lt (α:=Pat) (p:=fun i x=>LeDs (f i) (B0 x)/\Sv x/\szP x+1<=ms i) fun i a=>ih (ms i) (by have:=Jc ms a;omega) _ (hel i a);exact⟨.mk x0 x1 x2 x3 x4 n g,LeDs.append l0 (LeDs.append l1 (LeDs.append l2 (LeDs.append l3 (LeDs.append l4 (.cons (.sl fun i a=>(c i a).1) .nil))))),⟨Wh w1,fun i a=>(c i a).2.1⟩,by
   have z:=Wi (f:=fun i=>szP (g i)+1) (g:=ms) n fun i a=>(c i a).2.2;have h9:szP (.mk x0 x1 x2 x3 x4 n g)=1+((List.range n).map fun i=>szP (g i)+1).sum:=by rw[szP]
   show szP _+1<=m;omega⟩
def Rh (x:Aa):Prop:=((Lit.int .i64 x.From).wf=true)/\((Lit.int .u32 x.Clear).wf=true)/\(Io x.Set)/\((Lit.int .u32 x.Take).wf=true)/\((Lit.int .i64 x.Of).wf=true)
def EI (x:Aa):Nat:=1+1+Z6 x.Set+1+1+1
theorem Ui:Jd Tryz.prog Pb O1 Rh EI:=by intro m pvs h;obtain⟨m0,h,a⟩:=X9 Tryz.underlying114 h;obtain⟨a0,b0,p0,q0,rfl,b,h,c⟩:=C6 h;obtain⟨x0,l0,w0,s0⟩:=N3 Ak8 _ _ b;have s0:1<=a0:=s0;obtain⟨a1,b1,p1,q1,rfl,h1,h,d⟩:=C6 h;obtain⟨x1,l1,w1,s1⟩:=N3 At1 _ _ h1;have s1:1<=a1:=s1;obtain⟨a2,b2,p2,q2,rfl,f,h,g⟩:=C6 h;obtain⟨x2,l2,w2,s2⟩:=FP _ _ f;have s2:Z6 x2<=a2:=s2;obtain⟨a3,b3,p3,q3,rfl,i,h,j⟩:=C6 h;obtain⟨x3,l3,w3,s3⟩:=N3 At1 _ _ i;have s3:1<=a3:=s3;obtain⟨a4,b4,p4,q4,rfl,l,h,n⟩:=C6 h;obtain⟨x4,l4,w4,s4⟩:=N3 Ak8 _ _ l;have s4:1<=a4:=s4;obtain rfl:=Bf h;exact⟨⟨x0,x1,x2,x3,x4⟩,LeDs.append l0 (LeDs.append l1 (LeDs.append l2 (LeDs.append l3 (LeDs.append l4 LeDs.nil)))),⟨w0,w1,w2,w3,w4⟩,by simp only[EI];omega⟩
def Sw (x:Law):Prop:=(True)/\(Sv x.Left)/\(Sv x.Right)/\(∀i,i<x.If.n->Io (x.If.g i))/\(∀i,i<x.Out.n->Rh (x.Out.g i))/\((Lit.int .i64 x.Mode).wf=true)
def AB (x:Law):Nat:=(x.Name.length+1)+JZ x.Left+JZ x.Right+(Eb (fun i=>Z6 (x.If.g i)) x.If.n+1)+(Eb (fun i=>EI (x.Out.g i)) x.Out.n+1)+1+1
theorem Wj:Jd Tryz.prog O6 A9 Sw AB:=by intro m pvs h;obtain⟨m0,h,a⟩:=X9 Tryz.underlying57 h;obtain⟨a0,b0,p0,q0,rfl,b,h,c⟩:=C6 h;obtain⟨x0,l0,w0,s0⟩:=OK At5 _ _ b;have s0:(x0.length+1)<=a0:=s0;obtain⟨a1,b1,p1,q1,rfl,h1,h,d⟩:=C6 h;obtain⟨x1,l1,w1,s1⟩:=Px _ _ h1;have s1:JZ x1<=a1:=s1;obtain⟨a2,b2,p2,q2,rfl,f,h,j⟩:=C6 h;obtain⟨x2,l2,w2,s2⟩:=Px _ _ f;have s2:JZ x2<=a2:=s2;obtain⟨a3,b3,p3,q3,rfl,l,h,o⟩:=C6 h;obtain⟨x3,l3,w3,s3⟩:=Af Tryz.underlying27 (by kernel_rfl) FP _ _ l;have s3:(Eb (fun i=>Z6 (x3.g i)) x3.n+1)<=a3:=s3;obtain⟨a4,b4,p4,q4,rfl,q,h,r⟩:=C6 h;obtain⟨x4,l4,w4,s4⟩:=Af Tryz.underlying55 (by kernel_rfl) Ui _ _ q;have s4:(Eb (fun i=>EI (x4.g i)) x4.n+1)<=a4:=s4;obtain⟨a5,b5,p5,q5,rfl,s,h,t⟩:=C6 h;obtain⟨x5,l5,w5,s5⟩:=N3 Ak8 _ _ s;have s5:1<=a5:=s5;obtain rfl:=Bf h;exact⟨⟨x0,x1,x2,x3,x4,x5⟩,LeDs.append l0 (LeDs.append l1 (LeDs.append l2 (LeDs.append l3 (LeDs.append l4 (LeDs.append l5 LeDs.nil))))),⟨w0,w1,w2,w3,w4,w5⟩,by simp only[AB];omega⟩
def Mb (x:A5):Prop:=(∀i,i<x.Tree.n->Wg (x.Tree.g i))/\(∀i,i<x.Laws.n->Sw (x.Laws.g i))/\(∀i,i<x.On.n->∀i',i' < (x.On.g i).n->(Lit.int .i64 ((x.On.g i).g i')).wf=true)
def Ab (x:A5):Nat:=(Eb (fun i=>Cw (x.Tree.g i)) x.Tree.n+1)+(Eb (fun i=>AB (x.Laws.g i)) x.Laws.n+1)+(Eb (fun i=>Eb (fun i=>1) (x.On.g i).n+1) x.On.n+1)+1
theorem Mc:Jd Tryz.prog Nj A2 Mb Ab:=by intro m pvs h;obtain⟨m0,h,a⟩:=X9 Tryz.underlying26 h;obtain⟨a0,b0,p0,q0,rfl,b,h,c⟩:=C6 h;obtain⟨x0,l0,w0,s0⟩:=Af Tryz.underlying22 (by kernel_rfl) Uh _ _ b;have s0:(Eb (fun i=>Cw (x0.g i)) x0.n+1)<=a0:=s0;obtain⟨a1,b1,p1,q1,rfl,h1,h,d⟩:=C6 h;obtain⟨x1,l1,w1,s1⟩:=Af Tryz.underlying23 (by kernel_rfl) Wj _ _ h1;have s1:(Eb (fun i=>AB (x1.g i)) x1.n+1)<=a1:=s1;obtain⟨a2,b2,p2,q2,rfl,f,h,j⟩:=C6 h;obtain⟨x2,l2,w2,s2⟩:=Af Tryz.underlying24 (by kernel_rfl) (Af Tryz.underlying58 (by kernel_rfl) (N3 Ak8)) _ _ f;have s2:(Eb (fun i=>Eb (fun i=>1) (x2.g i).n+1) x2.n+1)<=a2:=s2;obtain rfl:=Bf h;exact⟨⟨x0,x1,x2⟩,LeDs.append l0 (LeDs.append l1 (LeDs.append l2 LeDs.nil)),⟨w0,w1,w2⟩,by simp only[Ab];omega⟩
end Go.AM
namespace Go.AM
theorem GO {f:Nat->Nat}(h:∀i,1<=f i):∀n,n<=Eb f n
 |0=>An7 _
 |n+1=>by
  have:=GO h n
  have:=h n
  show n+1<=Eb f n+f n;omega
theorem Ag4 {x:Aa}(h:Rh x):okO x:=⟨Wh h.2.2.1,XT h.2.1,XT h.2.2.2.1⟩
theorem XU {l:Law}(h:Sw l)(hs:AB l<=1048576):Ra l:=by obtain⟨_,h1,b,c,d,_⟩:=h;unfold AB at hs;have g1:=GO (f:=fun i=>Z6 (l.If.g i)) (fun i=>by simp only[Z6];omega) l.If.n;have g2:=GO (f:=fun i=>EI (l.Out.g i)) (fun i=>by simp only[EI];omega) l.Out.n;exact⟨⟨h1,b,fun i a=>Wh (c i a)⟩,by omega,by omega,by omega,fun i a=>Ag4 (d i a)⟩
theorem Wk {x:Sl Law}(h:∀i,i<x.n->Sw (x.g i))(hs:Eb (fun i=>AB (x.g i)) x.n+1<=1048576):Yx x:=fun i a=>
 XU (h i a) (by have:=Jc (fun i=>AB (x.g i)) a;have this:AB (x.g i)<=_:=this;omega)
theorem Uq {h:A5}(w:Mb h)(hs:Ab h<=1048576):Y2 h:=by
 unfold Ab at hs;have g:=GO (f:=fun i=>Eb (fun i=>1) (h.On.g i).n+1) (fun i=>by omega) h.On.n;refine⟨Wk w.2.1 (by omega),fun v a=>?_,by omega,fun v a=>?_⟩
 ·have:=Jc (fun i=>Cw (h.Tree.g i)) a
  have this:Cw (h.Tree.g v)<=Eb (fun i=>Cw (h.Tree.g i)) h.Tree.n:=this;have e:Cw (h.Tree.g v)=1+((h.Tree.g v).Name.length+1)+1:=rfl;omega
 ·have g2:=Jc (fun i=>Eb (fun i=>1) (h.On.g i).n+1) a;have g2:Eb (fun i=>1) (h.On.g v).n+1<=_:=g2;have g3:=GO (f:=fun _=>1) (fun i=>by omega) (h.On.g v).n;omega
theorem Wl {x:Sl Law}(hs:Eb (fun i=>AB (x.g i)) x.n+1<=1048576):LZ x:=fun i a=>by
 have:=Jc (fun i=>AB (x.g i)) a
 have b:AB (x.g i)<=1048576:=by have this:AB (x.g i)<=Eb (fun i=>AB (x.g i)) x.n:=this;omega
 unfold AB at b;have p1:JZ (x.g i).Left=szP (x.g i).Left+1:=rfl;have p2:JZ (x.g i).Right=szP (x.g i).Right+1:=rfl;have g1:=GO (f:=fun j=>Z6 ((x.g i).If.g j)) (fun j=>by simp only[Z6];omega) (x.g i).If.n;have g2:=GO (f:=fun j=>EI ((x.g i).Out.g j)) (fun j=>by simp only[EI];omega) (x.g i).Out.n;exact⟨by omega,by omega,by omega,by omega⟩
theorem Ip {h:A5}(hs:Ab h<=1048576):LZ h.Laws/\h.Tree.n<1100000/\h.Laws.n<1100000:=by unfold Ab at hs;have g1:=GO (f:=fun j=>Cw (h.Tree.g j)) (fun j=>by simp only[Cw];omega) h.Tree.n;have g2:=GO (f:=fun j=>AB (h.Laws.g j)) (fun j=>by simp only[AB];omega) h.Laws.n;exact⟨Wl (by omega),by omega,by omega⟩
end Go.AM
