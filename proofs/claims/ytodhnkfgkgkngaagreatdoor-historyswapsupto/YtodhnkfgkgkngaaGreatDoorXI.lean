/- Part 9. -/
import Derived.JoinedOf
import Derived.Test.YtodhnkfgkgkngaaGreatDoorXE
import Derived.Test.YtodhnkfgkgkngaaGreatDoorXF
import Derived.Test.YtodhnkfgkgkngaaGreatDoorCards
import Derived.Test.YtodhnkfgkgkngaaGreatDoorTie
import Derived.WalkKit
import Derived.ProofKit
import Derived.OpenShut
import Derived.Deep.DeepHandedRow
import Derived.MakeChecks
import Derived.Lib.LaidTab
import Derived.Test.YtodhnkfgkgkngaaGreatDoorXH
set_option linter.defProp false
set_option linter.unusedSimpArgs false
set_option linter.unusedVariables false
set_option linter.unusedSectionVars false
namespace Go.AM
open Go.Rows
def jA_ (P:Program)(f:FuncId)(fn:Func)(s:ChangeSpec)(c:OpenClaim):Bool:= (c.wf (OpenSpec.ofChange s))&&(laidOutB P)&&(mapsRowed P)&&(fn.params.all (P.readableRec ·))&&(namedTie P c.named s.vars)&&(c.stops==[])&&(P.stops==[])&&(c.knobs==[])&&(P.stopKnobs==[])
def jB_ (P:Program)(f:FuncId)(fn:Func)(s:ChangeSpec)(c:OpenClaim):Bool:= (c.inPlace==P.inPlace f)&&(c.unfollowed==P.unfollowed f)
def jC_ (P:Program)(f:FuncId)(fn:Func)(s:ChangeSpec)(c:OpenClaim):Bool:= (c.recurses==P.recurses f)&&(c.named==P.varsNamed f)
def jD_ (P:Program)(f:FuncId)(fn:Func)(s:ChangeSpec)(c:OpenClaim):Bool:= (c.maps==(fn.params.toList++s.plain.varTypes P).any (P.mapsRec ·))&&(c.ifaces==(fn.params.toList++s.plain.varTypes P).any (P.ifacesRec ·))&&(c.mapsOut==P.mapsAmong fn.resultTypes.toList)&&(c.loops==(fn.params.toList++s.plain.varTypes P).any (P.loopsFrom ·))&&(c.wideKeys==(fn.params.toList++s.plain.varTypes P++fn.resultTypes.toList).any (P.wideKeysFrom ·))&&(s.vars.all (P.varReadable ·))&&(fn.resultTypes.all (fun t=>P.readableRec t&&decide (t<P.types.size)))&&(c.ifacesOut==fn.resultTypes.toList.any (P.ifacesRec ·))&&(c.loopsOut==fn.resultTypes.toList.any (P.loopsFrom ·))&&(c.plainKeys==P.plainKeys)&&(c.shortTexts.isNone)
def jE_ (P:Program)(f:FuncId)(fn:Func)(s:ChangeSpec)(c:OpenClaim):Bool:= (P.stopsHeard)&&(P.mayEnter)
def jF_ (P:Program)(f:FuncId)(fn:Func)(s:ChangeSpec)(c:OpenClaim):Bool:=
 (c.lifted==P.liftsFinal)&&(P.make==some c.make)&&(c.kinds==(if c.domain.isEmpty then []else fn.params.toList.map fun t=>match P.underlying t with|some (.int k)=>some k|_=>none))&&(c.pinned==c.pinnedBy)&&(c.veiled==(fn.params.toList++s.plain.varTypes P++fn.resultTypes.toList).any (P.veiledRec ·))&&(c.veiledFits P fn.params.toList (fn.params.toList++s.plain.varTypes P++fn.resultTypes.toList))
def Uw {P:Program}{f:FuncId}{fn:Func}{s:ChangeSpec}{c:OpenClaim}(h1:jA_ P f fn s c=true)(a:jB_ P f fn s c=true)(b:jC_ P f fn s c=true)(d:jD_ P f fn s c=true)(g:jE_ P f fn s c=true)(i:jF_ P f fn s c=true):joinedFacts P f fn s c=true:=by
 have:joinedFacts P f fn s c=(jA_ P f fn s c&&jB_ P f fn s c&&jC_ P f fn s c&&jD_ P f fn s c&&jE_ P f fn s c&&jF_ P f fn s c):=by simp only[joinedFacts,jA_,jB_,jC_,jD_,jE_,jF_,Bool.and_assoc];rfl
 rw[this,h1,a,b,d,g,i];rfl
end Go.AM
namespace Go.AM
open Go.RowKit Go.ChangeShapes Go.WideShapes Go.ChangeAt Go.Deep Go.Proofs Go.Proofs.YtodhnkfgkgkngaaGreatDoor
theorem YR:Kids Tryz.prog (· < Tryz.prog.types.size):=kids_rows (by kernel_rfl) (by kernel_rfl)
theorem NJ {H:Type}:∀es:List (DataW H),PL (es.map Rows.uptoBulk)=Rows.uptoBulkAll es
 |[]=>rfl
 |d::r=>by simp only[List.map_cons,OA,Rows.uptoBulkAll,NJ r]
theorem YS {H:Type}:Bulk (H:=H) Rows.uptoBulk where
 int k n:=by simp[Rows.uptoBulk]
 bool b:=by simp[Rows.uptoBulk]
 str l:=by simp[Rows.uptoBulk]
 nil:=by simp[Rows.uptoBulk]
 slice es sp:=by simp only[Rows.uptoBulk,NJ];omega
 agg ps:=by simp only[Rows.uptoBulk,NJ];omega
section
variable {H:Type}{enc:TypeId×Value->H}{P:Program}{W:World}
theorem Uu {v:Value}{x:PV}(a:v.cells.toList=[v])(h:CRep W v.cells.toList [x]):RepP W (fun _ _=>False) v x:=by
 have:=(h.2 0 (by simp)).1
 rw[a]at this;exact this
theorem YT {cs:Array Value}{pvs:List PV}(h:CRep W (Value.agg cs).cells.toList pvs):RepP W (fun _ _=>False) (.agg cs) (.agg pvs):=by
 obtain⟨h1,a⟩:=h;have hc:(Value.agg cs).cells.toList=cs.toList:=rfl;rw[hc]at h1 a;have e:∀i,cs.toList.getD i undef=cs.getD i undef:=fun i=>by simp[List.getD_eq_getElem?_getD,Array.getD_eq_getD_getElem?]
 exact .agg cs pvs (by simpa using h1) (fun i b=>by rw[<- e];exact (a i b).2) fun i b=>by rw[<- e];exact (a i b).1
end
theorem Yi {n:Int}(hw:(Lit.int .u32 n).wf=true):∃p:BitVec 32,n=(p.toNat:Int):=by
 simp only[Lit.wf,IntKind.min,IntKind.max,IntKind.signed,IntKind.bits,Bool.and_eq_true,Jv]at hw;refine⟨BitVec.ofNat 32 n.toNat,?_⟩;rw[BitVec.toNat_ofNat];have a:0<=n:=by have:=hw.1;simpa using this
 have h1:n<4294967296:=by have:=hw.2;simp at this;omega
 rw[Nat.mod_eq_of_lt (by omega),Int.toNat_of_nonneg a]
theorem YU {W:World}(hL:laidMetH Tryz.prog Rows.historyFormsUptoRow.laid W):TabOk Tryz.prog W fun _ _=>False:=by
 rw[MakeChecks.laidMetH_plain _ _ _ (by kernel_rfl)]at hL;have b:Lib.TabIs Tryz.prog W "math/bits.deBruijn64tab" .u8 (Lib.deBruijn64tab.map fun (n:Nat)=>(n:Int)):=by refine Lib.tabIs_of_head (g:=3) (t:=(Tryz.prog.globals[3]?.map (·.type)).getD 0) (e:=(match Tryz.prog.underlying ((Tryz.prog.globals[3]?.map (·.type)).getD 0)with|some (.array _ e)=>e|_=>0)) (n:=64) (by kernel_rfl) (by kernel_rfl) (by kernel_rfl) (by kernel_rfl) (by kernel_rfl) (by kernel_rfl) (rest:=Rows.historyFormsUptoRow.laid.tail) ?_;exact hL
 intro g s j v hs a;have c:g=3:=by
  have key:∀k:Fin Tryz.prog.globals.size,((Tryz.prog.globals[k.1]?.map fun s=>s.name == "math/bits.deBruijn64tab")==some true)=true->k.1=3:=by decide +kernel
  have d:g<Tryz.prog.globals.size:=(Array.getElem?_eq_some_iff.1 hs).1;refine key ⟨g,d⟩ ?_
  have:(s.name == "math/bits.deBruijn64tab")=true:=by
   unfold RB at a;split at a
   .assumption
   simp at a
  simp[hs,this]
 subst c;unfold RB at a;split at a
 .rw[List.getElem?_map]at a;obtain⟨n,hn,rfl⟩:=Option.map_eq_some_iff.1 a;have f:j<Lib.deBruijn64tab.length:=(List.getElem?_eq_some_iff.1 hn).1;refine⟨?_,fun h=>h⟩;rw[b.cell (by kernel_rfl) j (by simpa using f)];simp[List.getD_eq_getElem?_getD,List.getElem?_map,hn]
 simp at a
end Go.AM
namespace Go.AM
open Go.RowKit Go.ChangeShapes Go.WideShapes Go.ChangeAt Go.Deep Go.Proofs Go.Proofs.YtodhnkfgkgkngaaGreatDoor
set_option maxRecDepth 100000
def Wv (x:G2):Prop:=((Lit.int .i64 x.Parent).wf=true)/\(True)
def Cy (x:G2):Nat:=1+(x.Name.length+1)+1
def Un:Jf Tryz.prog B6 B0 Wv Cy:=by intro m pvs h;obtain⟨m0,h,a⟩:=X8 Tryz.underlying48 h;obtain⟨a0,b0,p0,q0,rfl,b,h,c⟩:=C7 h;obtain⟨x0,l0,w0,s0⟩:=N5 Tryz.underlying3 _ _ b;have s0:1<=a0:=s0;obtain⟨a1,b1,p1,q1,rfl,h1,h,d⟩:=C7 h;obtain⟨x1,l1,w1,s1⟩:=OR Tryz.underlying9 _ _ h1;have s1:(x1.length+1)<=a1:=s1;obtain rfl:=Bl h;exact⟨⟨x0,x1⟩,LeDs.append l0 (LeDs.append l1 LeDs.nil),⟨w0,w1⟩,by simp only[Cy];omega⟩
def Iq (x:Nd):Prop:=((Lit.int .u32 x.Plus).wf=true)/\((Lit.int .u32 x.Minus).wf=true)
def Z5 (x:Nd):Nat:=1+1+1
def FP:Jf Tryz.prog B5 A0 Iq Z5:=by intro m pvs h;obtain⟨m0,h,a⟩:=X8 Tryz.underlying51 h;obtain⟨a0,b0,p0,q0,rfl,b,h,c⟩:=C7 h;obtain⟨x0,l0,w0,s0⟩:=N5 Tryz.underlying49 _ _ b;have s0:1<=a0:=s0;obtain⟨a1,b1,p1,q1,rfl,h1,h,d⟩:=C7 h;obtain⟨x1,l1,w1,s1⟩:=N5 Tryz.underlying49 _ _ h1;have s1:1<=a1:=s1;obtain rfl:=Bl h;exact⟨⟨x0,x1⟩,LeDs.append l0 (LeDs.append l1 LeDs.nil),⟨w0,w1⟩,by simp only[Z5];omega⟩
def Ww {x:Nd}(h:Iq x):okS x:=by obtain⟨p,hp⟩:=Yi h.1;obtain⟨q,a⟩:=Yi h.2;exact⟨p,q,by cases x;simp_all [sOf]⟩
abbrev SI (x:Pat):Prop:=okPS x
abbrev Kg (x:Pat):Nat:=szP x+1
def Wx {f g:Nat->Nat}:∀n,(∀i,i<n->f i<=g i)->((List.range n).map f).sum<=DU g n
 |0,_=>Nat.zero_le _
 |n+1,h=>by rw[List.range_succ,List.map_append,List.sum_append];have h1:=Wx n fun i a=>h i (by omega);have b:=h n (by omega);show _<=DU g n+g n;simp;omega
def PI:Jf Tryz.prog CM B1 SI Kg:=by
 intro m
 induction m using Nat.strongRecOn with
 |ind m ih=>
 intro pvs h;obtain⟨m0,h,d⟩:=X8 Tryz.underlying54 h;obtain⟨a0,b0,p0,q0,rfl,j,h,l⟩:=C7 h;obtain⟨x0,l0,w0,s0⟩:=N5 Tryz.underlying3 _ _ j;have s0:1<=a0:=s0;obtain⟨a1,b1,p1,q1,rfl,h1,h,o⟩:=C7 h;obtain⟨x1,l1,w1,s1⟩:=FP _ _ h1;have s1:Z5 x1<=a1:=s1;obtain⟨a2,b2,p2,q2,rfl,q,h,r⟩:=C7 h;obtain⟨x2,l2,w2,s2⟩:=Tx Tryz.underlying4 _ _ q;have s2:1<=a2:=s2;obtain⟨a3,b3,p3,q3,rfl,s,h,t⟩:=C7 h;obtain⟨x3,l3,w3,s3⟩:=N5 Tryz.underlying3 _ _ s;have s3:1<=a3:=s3;obtain⟨a4,b4,p4,q4,rfl,u,h,v⟩:=C7 h;obtain⟨x4,l4,w4,s4⟩:=N5 Tryz.underlying3 _ _ u;have s4:1<=a4:=s4;obtain⟨a5,b5,p5,q5,rfl,w,h,y⟩:=C7 h;obtain rfl:=Bl h;have b:Tryz.prog.cellsOf 54=7:=by kernel_rfl
 cases w with
 |int ht'=>rw[Tryz.underlying52]at ht';cases ht'
 |bool ht'=>rw[Tryz.underlying52]at ht';cases ht'
 |str ht'=>rw[Tryz.underlying52]at ht';cases ht'
 |struct ht'=>rw[Tryz.underlying52]at ht';cases ht'
 |arr ht'=>rw[Tryz.underlying52]at ht';cases ht'
 | @slice _ _ e' n f ms ht' hl hel hm=>
  rw[Tryz.underlying52]at ht';cases ht';rw[b];rw[LJ]at hm;obtain⟨g,c⟩:=choose_lt (α:=Pat) (p:=fun i x=>LeDs (f i) (B1 x)/\SI x/\szP x+1<=ms i) fun i a=>ih (ms i) (by have:=Je ms a;omega) _ (hel i a);exact⟨.mk x0 x1 x2 x3 x4 n g,LeDs.append l0 (LeDs.append l1 (LeDs.append l2 (LeDs.append l3 (LeDs.append l4 (.cons (.sl fun i a=>(c i a).1) .nil))))),⟨Ww w1,fun i a=>(c i a).2.1⟩,by
   have z:=Wx (f:=fun i=>szP (g i)+1) (g:=ms) n fun i a=>(c i a).2.2;have h9:szP (.mk x0 x1 x2 x3 x4 n g)=1+((List.range n).map fun i=>szP (g i)+1).sum:=by rw[szP]
   show szP _+1<=m;omega⟩
def Rr (x:Z7):Prop:=((Lit.int .i64 x.From).wf=true)/\((Lit.int .u32 x.Clear).wf=true)/\(Iq x.Set)/\((Lit.int .u32 x.Take).wf=true)/\((Lit.int .i64 x.Of).wf=true)
def ED (x:Z7):Nat:=1+1+Z5 x.Set+1+1+1
def Uo:Jf Tryz.prog Pj O2 Rr ED:=by intro m pvs h;obtain⟨m0,h,a⟩:=X8 Tryz.underlying114 h;obtain⟨a0,b0,p0,q0,rfl,b,h,c⟩:=C7 h;obtain⟨x0,l0,w0,s0⟩:=N5 Tryz.underlying3 _ _ b;have s0:1<=a0:=s0;obtain⟨a1,b1,p1,q1,rfl,h1,h,d⟩:=C7 h;obtain⟨x1,l1,w1,s1⟩:=N5 Tryz.underlying49 _ _ h1;have s1:1<=a1:=s1;obtain⟨a2,b2,p2,q2,rfl,f,h,g⟩:=C7 h;obtain⟨x2,l2,w2,s2⟩:=FP _ _ f;have s2:Z5 x2<=a2:=s2;obtain⟨a3,b3,p3,q3,rfl,i,h,j⟩:=C7 h;obtain⟨x3,l3,w3,s3⟩:=N5 Tryz.underlying49 _ _ i;have s3:1<=a3:=s3;obtain⟨a4,b4,p4,q4,rfl,l,h,n⟩:=C7 h;obtain⟨x4,l4,w4,s4⟩:=N5 Tryz.underlying3 _ _ l;have s4:1<=a4:=s4;obtain rfl:=Bl h;exact⟨⟨x0,x1,x2,x3,x4⟩,LeDs.append l0 (LeDs.append l1 (LeDs.append l2 (LeDs.append l3 (LeDs.append l4 LeDs.nil)))),⟨w0,w1,w2,w3,w4⟩,by simp only[ED];omega⟩
def SJ (x:Law):Prop:=(True)/\(SI x.Left)/\(SI x.Right)/\(∀i,i<x.If.n->Iq (x.If.g i))/\(∀i,i<x.Out.n->Rr (x.Out.g i))/\((Lit.int .i64 x.Mode).wf=true)
def AH (x:Law):Nat:=(x.Name.length+1)+Kg x.Left+Kg x.Right+(DU (fun i=>Z5 (x.If.g i)) x.If.n+1)+(DU (fun i=>ED (x.Out.g i)) x.Out.n+1)+1+1
def Wy:Jf Tryz.prog D9 A7 SJ AH:=by intro m pvs h;obtain⟨m0,h,a⟩:=X8 Tryz.underlying57 h;obtain⟨a0,b0,p0,q0,rfl,b,h,c⟩:=C7 h;obtain⟨x0,l0,w0,s0⟩:=OR Tryz.underlying9 _ _ b;have s0:(x0.length+1)<=a0:=s0;obtain⟨a1,b1,p1,q1,rfl,h1,h,d⟩:=C7 h;obtain⟨x1,l1,w1,s1⟩:=PI _ _ h1;have s1:Kg x1<=a1:=s1;obtain⟨a2,b2,p2,q2,rfl,f,h,j⟩:=C7 h;obtain⟨x2,l2,w2,s2⟩:=PI _ _ f;have s2:Kg x2<=a2:=s2;obtain⟨a3,b3,p3,q3,rfl,l,h,o⟩:=C7 h;obtain⟨x3,l3,w3,s3⟩:=Af Tryz.underlying27 (by kernel_rfl) FP _ _ l;have s3:(DU (fun i=>Z5 (x3.g i)) x3.n+1)<=a3:=s3;obtain⟨a4,b4,p4,q4,rfl,q,h,r⟩:=C7 h;obtain⟨x4,l4,w4,s4⟩:=Af Tryz.underlying55 (by kernel_rfl) Uo _ _ q;have s4:(DU (fun i=>ED (x4.g i)) x4.n+1)<=a4:=s4;obtain⟨a5,b5,p5,q5,rfl,s,h,t⟩:=C7 h;obtain⟨x5,l5,w5,s5⟩:=N5 Tryz.underlying3 _ _ s;have s5:1<=a5:=s5;obtain rfl:=Bl h;exact⟨⟨x0,x1,x2,x3,x4,x5⟩,LeDs.append l0 (LeDs.append l1 (LeDs.append l2 (LeDs.append l3 (LeDs.append l4 (LeDs.append l5 LeDs.nil))))),⟨w0,w1,w2,w3,w4,w5⟩,by simp only[AH];omega⟩
def Mf (x:A5):Prop:=(∀i,i<x.Tree.n->Wv (x.Tree.g i))/\(∀i,i<x.Laws.n->SJ (x.Laws.g i))/\(∀i,i<x.On.n->∀i',i' < (x.On.g i).n->(Lit.int .i64 ((x.On.g i).g i')).wf=true)
def Z9 (x:A5):Nat:=(DU (fun i=>Cy (x.Tree.g i)) x.Tree.n+1)+(DU (fun i=>AH (x.Laws.g i)) x.Laws.n+1)+(DU (fun i=>DU (fun i=>1) (x.On.g i).n+1) x.On.n+1)+1
def Mg:Jf Tryz.prog Nn A2 Mf Z9:=by intro m pvs h;obtain⟨m0,h,a⟩:=X8 Tryz.underlying26 h;obtain⟨a0,b0,p0,q0,rfl,b,h,c⟩:=C7 h;obtain⟨x0,l0,w0,s0⟩:=Af Tryz.underlying22 (by kernel_rfl) Un _ _ b;have s0:(DU (fun i=>Cy (x0.g i)) x0.n+1)<=a0:=s0;obtain⟨a1,b1,p1,q1,rfl,h1,h,d⟩:=C7 h;obtain⟨x1,l1,w1,s1⟩:=Af Tryz.underlying23 (by kernel_rfl) Wy _ _ h1;have s1:(DU (fun i=>AH (x1.g i)) x1.n+1)<=a1:=s1;obtain⟨a2,b2,p2,q2,rfl,f,h,j⟩:=C7 h;obtain⟨x2,l2,w2,s2⟩:=Af Tryz.underlying24 (by kernel_rfl) (Af Tryz.underlying58 (by kernel_rfl) (N5 Tryz.underlying3)) _ _ f;have s2:(DU (fun i=>DU (fun i=>1) (x2.g i).n+1) x2.n+1)<=a2:=s2;obtain rfl:=Bl h;exact⟨⟨x0,x1,x2⟩,LeDs.append l0 (LeDs.append l1 (LeDs.append l2 LeDs.nil)),⟨w0,w1,w2⟩,by simp only[Z9];omega⟩
end Go.AM
namespace Go.AM
def GQ {f:Nat->Nat}(h:∀i,1<=f i):∀n,n<=DU f n
 |0=>Nat.zero_le _
 |n+1=>by
  have:=GQ h n
  have:=h n
  show n+1<=DU f n+f n;omega
def Ai0 {x:Z7}(h:Rr x):okO x:=⟨Ww h.2.2.1,Yi h.2.1,Yi h.2.2.2.1⟩
def Yj {l:Law}(h:SJ l)(hs:AH l<=1048576):ND l:=by obtain⟨_,h1,b,c,d,_⟩:=h;unfold AH at hs;have g1:=GQ (f:=fun i=>Z5 (l.If.g i)) (fun i=>by simp only[Z5];omega) l.If.n;have g2:=GQ (f:=fun i=>ED (l.Out.g i)) (fun i=>by simp only[ED];omega) l.Out.n;exact⟨⟨h1,b,fun i a=>Ww (c i a)⟩,by omega,by omega,by omega,fun i a=>Ai0 (d i a)⟩
def Wz {x:Sl Law}(h:∀i,i<x.n->SJ (x.g i))(hs:DU (fun i=>AH (x.g i)) x.n+1<=1048576):Sw x:=fun i a=>
 Yj (h i a) (by have:=Je (fun i=>AH (x.g i)) a;have this:AH (x.g i)<=_:=this;omega)
def Uv {h:A5}(w:Mf h)(hs:Z9 h<=1048576):Z8 h:=by
 unfold Z9 at hs;have g:=GQ (f:=fun i=>DU (fun i=>1) (h.On.g i).n+1) (fun i=>by omega) h.On.n;refine⟨Wz w.2.1 (by omega),fun v a=>?_,by omega,fun v a=>?_⟩
 .have:=Je (fun i=>Cy (h.Tree.g i)) a
  have this:Cy (h.Tree.g v)<=DU (fun i=>Cy (h.Tree.g i)) h.Tree.n:=this;have e:Cy (h.Tree.g v)=1+((h.Tree.g v).Name.length+1)+1:=rfl;omega
 have g2:=Je (fun i=>DU (fun i=>1) (h.On.g i).n+1) a;have g2:DU (fun i=>1) (h.On.g v).n+1<=_:=g2;have g3:=GQ (f:=fun _=>1) (fun i=>by omega) (h.On.g v).n;omega
def WA {x:Sl Law}(hs:DU (fun i=>AH (x.g i)) x.n+1<=1048576):GP x:=fun i a=>by
 have:=Je (fun i=>AH (x.g i)) a
 have b:AH (x.g i)<=1048576:=by have this:AH (x.g i)<=DU (fun i=>AH (x.g i)) x.n:=this;omega
 unfold AH at b;have p1:Kg (x.g i).Left=szP (x.g i).Left+1:=rfl;have p2:Kg (x.g i).Right=szP (x.g i).Right+1:=rfl;have g1:=GQ (f:=fun j=>Z5 ((x.g i).If.g j)) (fun j=>by simp only[Z5];omega) (x.g i).If.n;have g2:=GQ (f:=fun j=>ED ((x.g i).Out.g j)) (fun j=>by simp only[ED];omega) (x.g i).Out.n;exact⟨by omega,by omega,by omega,by omega⟩
def Ir {h:A5}(hs:Z9 h<=1048576):GP h.Laws/\h.Tree.n<1100000/\h.Laws.n<1100000:=by unfold Z9 at hs;have g1:=GQ (f:=fun j=>Cy (h.Tree.g j)) (fun j=>by simp only[Cy];omega) h.Tree.n;have g2:=GQ (f:=fun j=>AH (h.Laws.g j)) (fun j=>by simp only[AH];omega) h.Laws.n;exact⟨WA (by omega),by omega,by omega⟩
end Go.AM
