/- Part 10. -/
import Derived.JoinedOf
import Derived.Test.YtppapmfonjmfbaaGreatDoorSE
import Derived.Test.YtppapmfonjmfbaaGreatDoorSF
import Derived.Test.YtppapmfonjmfbaaGreatDoorCards
import Derived.Test.YtppapmfonjmfbaaGreatDoorTie
import Derived.WalkKit
import Derived.ProofKit
import Derived.OpenShut
import Derived.Deep.DeepHandedRow
import Derived.MakeChecks
import Derived.Lib.LaidTab
import Derived.Test.YtppapmfonjmfbaaGreatDoorSH
import Derived.Test.YtppapmfonjmfbaaGreatDoorSI
set_option linter.defProp false
set_option linter.unusedSimpArgs false
set_option linter.unusedVariables false
set_option linter.unusedSectionVars false
namespace Go.AM
def AT2:=@Go.Proofs.Tryz.underlying3
def AW9:=@Go.Proofs.Tryz.underlying28
def AX5:=@Go.Proofs.Tryz.underlying55
def AY7:=@Go.Proofs.Tryz.underlying4
def Ba4:=@Go.Proofs.Tryz.underlying52
def Ba9:=@Go.Proofs.Tryz.underlying9
open Go.Rows
def jA_ (P:Program)(f:FuncId)(fn:Func)(s:ChangeSpec)(c:OpenClaim):Bool:= (c.wf (OpenSpec.ofChange s))&&(laidOutB P)&&(mapsRowed P)&&(fn.params.all (P.readableRec ·))&&(namedTie P c.named s.vars)&&(c.stops==[])&&(P.stops==[])&&(c.knobs==[])&&(P.stopKnobs==[])
def jB_ (P:Program)(f:FuncId)(fn:Func)(s:ChangeSpec)(c:OpenClaim):Bool:= (c.inPlace==P.inPlace f)&&(c.unfollowed==P.unfollowed f)
def jC_ (P:Program)(f:FuncId)(fn:Func)(s:ChangeSpec)(c:OpenClaim):Bool:= (c.recurses==P.recurses f)&&(c.named==P.varsNamed f)
def jD_ (P:Program)(f:FuncId)(fn:Func)(s:ChangeSpec)(c:OpenClaim):Bool:= (c.maps==(fn.params.toList++s.plain.varTypes P).any (P.mapsRec ·))&&(c.ifaces==(fn.params.toList++s.plain.varTypes P).any (P.ifacesRec ·))&&(c.mapsOut==P.mapsAmong fn.resultTypes.toList)&&(c.loops==(fn.params.toList++s.plain.varTypes P).any (P.loopsFrom ·))&&(c.wideKeys==(fn.params.toList++s.plain.varTypes P++fn.resultTypes.toList).any (P.wideKeysFrom ·))&&(s.vars.all (P.varReadable ·))&&(fn.resultTypes.all (fun t=>P.readableRec t&&decide (t<P.types.size)))&&(c.ifacesOut==fn.resultTypes.toList.any (P.ifacesRec ·))&&(c.loopsOut==fn.resultTypes.toList.any (P.loopsFrom ·))&&(c.plainKeys==P.plainKeys)&&(c.shortTexts.isNone)
def jE_ (P:Program)(f:FuncId)(fn:Func)(s:ChangeSpec)(c:OpenClaim):Bool:= (P.stopsHeard)&&(P.mayEnter)
def jF_ (P:Program)(f:FuncId)(fn:Func)(s:ChangeSpec)(c:OpenClaim):Bool:=
 (c.lifted==P.liftsFinal)&&(P.make==some c.make)&&(c.kinds==(if c.domain.isEmpty then []else fn.params.toList.map fun t=>match P.underlying t with|some (.int k)=>some k|_=>none))&&(c.pinned==c.pinnedBy)&&(c.veiled==(fn.params.toList++s.plain.varTypes P++fn.resultTypes.toList).any (P.veiledRec ·))&&(c.veiledFits P fn.params.toList (fn.params.toList++s.plain.varTypes P++fn.resultTypes.toList))
def Yu {P:Program}{f:FuncId}{fn:Func}{s:ChangeSpec}{c:OpenClaim}(h1:jA_ P f fn s c=true)(a:jB_ P f fn s c=true)(b:jC_ P f fn s c=true)(d:jD_ P f fn s c=true)(g:jE_ P f fn s c=true)(i:jF_ P f fn s c=true):joinedFacts P f fn s c=true:=by
 have:joinedFacts P f fn s c=(jA_ P f fn s c&&jB_ P f fn s c&&jC_ P f fn s c&&jD_ P f fn s c&&jE_ P f fn s c&&jF_ P f fn s c):=by simp only[joinedFacts,jA_,jB_,jC_,jD_,jE_,jF_,Bool.and_assoc];rfl
 rw[this,h1,a,b,d,g,i];rfl
end Go.AM
namespace Go.AM
open Go.RowKit Go.ChangeShapes Go.WideShapes Go.ChangeAt Go.Deep Go.Proofs Go.Proofs.YtppapmfonjmfbaaGreatDoor
theorem At9:Kids Tryz.prog (· < Tryz.prog.types.size):=kids_rows (by kernel_rfl) (by kernel_rfl)
theorem Rt {H:Type}:∀es:List (DataW H),TT (es.map Rows.uptoBulk)=Rows.uptoBulkAll es
 |[]=>rfl
 |d::r=>by simp only[AO4,Sn,Rows.uptoBulkAll,Rt r]
theorem Au0 {H:Type}:Bulk (H:=H) Rows.uptoBulk where
 int k n:=by simp[Rows.uptoBulk]
 bool b:=by simp[Rows.uptoBulk]
 str l:=by simp[Rows.uptoBulk]
 nil:=by simp[Rows.uptoBulk]
 slice es sp:=by simp only[Rows.uptoBulk,Rt];omega
 agg ps:=by simp only[Rows.uptoBulk,Rt];omega
section
variable {H:Type}{enc:TypeId×Value->H}{P:Program}{W:World}
theorem Ys {v:Value}{x:PV}(a:v.cells.toList=[v])(h:CRep W v.cells.toList [x]):RepP W (fun _ _=>False) v x:=by
 have:=(h.2 0 (by simp)).1
 rw[a]at this;exact this
theorem Au1 {cs:Array Value}{pvs:List PV}(h:CRep W (Value.agg cs).cells.toList pvs):RepP W (fun _ _=>False) (.agg cs) (.agg pvs):=by
 obtain⟨h1,a⟩:=h;have hc:(Value.agg cs).cells.toList=cs.toList:=rfl;rw[hc]at h1 a;have e:∀i,cs.toList.getD i undef=cs.getD i undef:=fun i=>by simp[AM6,AM5]
 exact .agg cs pvs (by simpa using h1) (fun i b=>by rw[<- e];exact (a i b).2) fun i b=>by rw[<- e];exact (a i b).1
end
theorem Ao9 {n:Int}(hw:(Lit.int .u32 n).wf=true):∃p:BitVec 32,n=(p.toNat:Int):=by
 simp only[Lit.wf,IntKind.min,IntKind.max,IntKind.signed,IntKind.bits,AN1,Ld]at hw;refine⟨BitVec.ofNat 32 n.toNat,?_⟩;rw[Bf9];have a:0<=n:=by have:=hw.1;simpa using this
 have h1:n<4294967296:=by have:=hw.2;simp at this;omega
 rw[AU2 (by omega),Int.toNat_of_nonneg a]
theorem Au2 {W:World}(hL:laidMetH Tryz.prog Rows.topSameUptoRow.laid W):TabOk Tryz.prog W fun _ _=>False:=by
 rw[MakeChecks.laidMetH_plain _ _ _ (by kernel_rfl)]at hL;have b:Lib.TabIs Tryz.prog W "math/bits.deBruijn64tab" .u8 (Lib.deBruijn64tab.map fun (n:Nat)=>(n:Int)):=by refine Lib.tabIs_of_head (g:=2) (t:=(Tryz.prog.globals[2]?.map (·.type)).getD 0) (e:=(match Tryz.prog.underlying ((Tryz.prog.globals[2]?.map (·.type)).getD 0)with|some (.array _ e)=>e|_=>0)) (n:=64) (by kernel_rfl) (by kernel_rfl) (by kernel_rfl) (by kernel_rfl) (by kernel_rfl) (by kernel_rfl) (rest:=Rows.topSameUptoRow.laid.tail) ?_;exact hL
 intro g s j v hs a;have c:g=2:=by
  have key:∀k:Fin Tryz.prog.globals.size,((Tryz.prog.globals[k.1]?.map fun s=>s.name == "math/bits.deBruijn64tab")==some true)=true->k.1=2:=by decide +kernel
  have hg:g<Tryz.prog.globals.size:=(AN6.1 hs).1;refine key ⟨g,hg⟩ ?_
  have:(s.name == "math/bits.deBruijn64tab")=true:=by
   unfold VL at a;split at a
   .assumption
   simp at a
  simp[hs,this]
 subst c;unfold VL at a;split at a
 .rw[AN4]at a;obtain⟨n,hn,rfl⟩:=AP3.1 a;have hj:j<Lib.deBruijn64tab.length:=(AO2.1 hn).1;refine⟨?_,fun h=>h⟩;rw[b.cell (by kernel_rfl) j (by simpa using hj)];simp[AM6,AN4,hn]
 simp at a
end Go.AM
namespace Go.AM
open Go.RowKit Go.ChangeShapes Go.WideShapes Go.ChangeAt Go.Deep Go.Proofs Go.Proofs.YtppapmfonjmfbaaGreatDoor
set_option maxRecDepth 100000
def Ad3 (x:T0):Prop:=((Lit.int .i64 x.Parent).wf=true)/\(True)
def GN (x:T0):Nat:=1+(x.Name.length+1)+1
def Ym:Mo Tryz.prog XL H2 Ad3 GN:=by intro m pvs h;obtain⟨m0,h,a⟩:=Bj Tryz.underlying62 h;obtain⟨a0,b0,p0,q0,rfl,b,h,c⟩:=C7 h;obtain⟨x0,l0,w0,s0⟩:=T3 AT2 _ _ b;have s0:1<=a0:=s0;obtain⟨a1,b1,p1,q1,rfl,h1,h,d⟩:=C7 h;obtain⟨x1,l1,w1,s1⟩:=Sz Ba9 _ _ h1;have s1:(x1.length+1)<=a1:=s1;obtain rfl:=CX h;exact⟨⟨x0,x1⟩,LeDs.append l0 (LeDs.append l1 LeDs.nil),⟨w0,w1⟩,by simp only[GN];omega⟩
def Jv (x:Qz):Prop:=((Lit.int .u32 x.Plus).wf=true)/\((Lit.int .u32 x.Minus).wf=true)
def Bn (x:Qz):Nat:=1+1+1
def CZ:Mo Tryz.prog A4 A0 Jv Bn:=by intro m pvs h;obtain⟨m0,h,a⟩:=Bj Tryz.underlying54 h;obtain⟨a0,b0,p0,q0,rfl,b,h,c⟩:=C7 h;obtain⟨x0,l0,w0,s0⟩:=T3 Ba4 _ _ b;have s0:1<=a0:=s0;obtain⟨a1,b1,p1,q1,rfl,h1,h,d⟩:=C7 h;obtain⟨x1,l1,w1,s1⟩:=T3 Ba4 _ _ h1;have s1:1<=a1:=s1;obtain rfl:=CX h;exact⟨⟨x0,x1⟩,LeDs.append l0 (LeDs.append l1 LeDs.nil),⟨w0,w1⟩,by simp only[Bn];omega⟩
def WT {x:Qz}(h:Jv x):okS x:=by obtain⟨p,hp⟩:=Ao9 h.1;obtain⟨q,a⟩:=Ao9 h.2;exact⟨p,q,by cases x;simp_all [sOf]⟩
abbrev WU (x:Pat):Prop:=okPS x
abbrev TO (x:Pat):Nat:=1
def TP:Mo Tryz.prog EN D3 WU TO:=by
 intro m
 induction m using Nat.strongRecOn with
 |ind m ih=>
 intro pvs h;obtain⟨m0,h,c⟩:=Bj Tryz.underlying57 h;obtain⟨a0,b0,p0,q0,rfl,d,h,j⟩:=C7 h;obtain⟨x0,l0,w0,s0⟩:=T3 AT2 _ _ d;have s0:1<=a0:=s0;obtain⟨a1,b1,p1,q1,rfl,h1,h,l⟩:=C7 h;obtain⟨x1,l1,w1,s1⟩:=CZ _ _ h1;have s1:Bn x1<=a1:=s1;obtain⟨a2,b2,p2,q2,rfl,o,h,q⟩:=C7 h;obtain⟨x2,l2,w2,s2⟩:=XG AY7 _ _ o;have s2:1<=a2:=s2;obtain⟨a3,b3,p3,q3,rfl,r,h,s⟩:=C7 h;obtain⟨x3,l3,w3,s3⟩:=T3 AT2 _ _ r;have s3:1<=a3:=s3;obtain⟨a4,b4,p4,q4,rfl,t,h,u⟩:=C7 h;obtain⟨x4,l4,w4,s4⟩:=T3 AT2 _ _ t;have s4:1<=a4:=s4;obtain⟨a5,b5,p5,q5,rfl,v,h,w⟩:=C7 h;obtain rfl:=CX h;have a:Tryz.prog.cellsOf 57=7:=by kernel_rfl
 cases v with
 |int ht'=>rw[AX5]at ht';cases ht'
 |bool ht'=>rw[AX5]at ht';cases ht'
 |str ht'=>rw[AX5]at ht';cases ht'
 |struct ht'=>rw[AX5]at ht';cases ht'
 |arr ht'=>rw[AX5]at ht';cases ht'
 | @slice _ _ e' n f ms ht' hl hel hm=>rw[AX5]at ht';cases ht';rw[a];rw[Pg]at hm;obtain⟨g,hg⟩:=choose_lt (α:=Pat) (p:=fun i x=>LeDs (f i) (D3 x)/\WU x/\1<=ms i) fun i b=>ih (ms i) (by have:=Qy ms b;omega) _ (hel i b);exact⟨.mk x0 x1 x2 x3 x4 n g,LeDs.append l0 (LeDs.append l1 (LeDs.append l2 (LeDs.append l3 (LeDs.append l4 (.cons (.sl fun i b=>(hg i b).1) .nil))))),⟨WT w1,fun i b=>(hg i b).2.1⟩,by show 1<=m;omega⟩
def VA (x:IJ):Prop:=((Lit.int .i64 x.From).wf=true)/\((Lit.int .u32 x.Clear).wf=true)/\(Jv x.Set)/\((Lit.int .u32 x.Take).wf=true)/\((Lit.int .i64 x.Of).wf=true)
def Km (x:IJ):Nat:=1+1+Bn x.Set+1+1+1
def Yn:Mo Tryz.prog ZN AI VA Km:=by intro m pvs h;obtain⟨m0,h,a⟩:=Bj Tryz.underlying138 h;obtain⟨a0,b0,p0,q0,rfl,b,h,c⟩:=C7 h;obtain⟨x0,l0,w0,s0⟩:=T3 AT2 _ _ b;have s0:1<=a0:=s0;obtain⟨a1,b1,p1,q1,rfl,h1,h,d⟩:=C7 h;obtain⟨x1,l1,w1,s1⟩:=T3 Ba4 _ _ h1;have s1:1<=a1:=s1;obtain⟨a2,b2,p2,q2,rfl,f,h,g⟩:=C7 h;obtain⟨x2,l2,w2,s2⟩:=CZ _ _ f;have s2:Bn x2<=a2:=s2;obtain⟨a3,b3,p3,q3,rfl,i,h,j⟩:=C7 h;obtain⟨x3,l3,w3,s3⟩:=T3 Ba4 _ _ i;have s3:1<=a3:=s3;obtain⟨a4,b4,p4,q4,rfl,l,h,n⟩:=C7 h;obtain⟨x4,l4,w4,s4⟩:=T3 AT2 _ _ l;have s4:1<=a4:=s4;obtain rfl:=CX h;exact⟨⟨x0,x1,x2,x3,x4⟩,LeDs.append l0 (LeDs.append l1 (LeDs.append l2 (LeDs.append l3 (LeDs.append l4 LeDs.nil)))),⟨w0,w1,w2,w3,w4⟩,by simp only[Km];omega⟩
def WV (x:Law):Prop:=(True)/\(WU x.Left)/\(WU x.Right)/\(∀i,i<x.If.n->Jv (x.If.g i))/\(∀i,i<x.Out.n->VA (x.Out.g i))/\((Lit.int .i64 x.Mode).wf=true)
def Jw (x:Law):Nat:=(x.Name.length+1)+TO x.Left+TO x.Right+(GO (fun i=>Bn (x.If.g i)) x.If.n+1)+(GO (fun i=>Km (x.Out.g i)) x.Out.n+1)+1+1
def Ad4:Mo Tryz.prog SV B2 WV Jw:=by intro m pvs h;obtain⟨m0,h,a⟩:=Bj Tryz.underlying60 h;obtain⟨a0,b0,p0,q0,rfl,b,h,c⟩:=C7 h;obtain⟨x0,l0,w0,s0⟩:=Sz Ba9 _ _ b;have s0:(x0.length+1)<=a0:=s0;obtain⟨a1,b1,p1,q1,rfl,h1,h,d⟩:=C7 h;obtain⟨x1,l1,w1,s1⟩:=TP _ _ h1;have s1:TO x1<=a1:=s1;obtain⟨a2,b2,p2,q2,rfl,f,h,j⟩:=C7 h;obtain⟨x2,l2,w2,s2⟩:=TP _ _ f;have s2:TO x2<=a2:=s2;obtain⟨a3,b3,p3,q3,rfl,l,h,o⟩:=C7 h;obtain⟨x3,l3,w3,s3⟩:=W9 AW9 (by kernel_rfl) CZ _ _ l;have s3:(GO (fun i=>Bn (x3.g i)) x3.n+1)<=a3:=s3;obtain⟨a4,b4,p4,q4,rfl,q,h,r⟩:=C7 h;obtain⟨x4,l4,w4,s4⟩:=W9 Tryz.underlying58 (by kernel_rfl) Yn _ _ q;have s4:(GO (fun i=>Km (x4.g i)) x4.n+1)<=a4:=s4;obtain⟨a5,b5,p5,q5,rfl,s,h,t⟩:=C7 h;obtain⟨x5,l5,w5,s5⟩:=T3 AT2 _ _ s;have s5:1<=a5:=s5;obtain rfl:=CX h;exact⟨⟨x0,x1,x2,x3,x4,x5⟩,LeDs.append l0 (LeDs.append l1 (LeDs.append l2 (LeDs.append l3 (LeDs.append l4 (LeDs.append l5 LeDs.nil))))),⟨w0,w1,w2,w3,w4,w5⟩,by simp only[Jw];omega⟩
def PC (x:A9):Prop:=(∀i,i<x.Tree.n->Ad3 (x.Tree.g i))/\(∀i,i<x.Laws.n->WV (x.Laws.g i))/\(∀i,i<x.On.n->∀i',i' < (x.On.g i).n->(Lit.int .i64 ((x.On.g i).g i')).wf=true)
def Ev (x:A9):Nat:=(GO (fun i=>GN (x.Tree.g i)) x.Tree.n+1)+(GO (fun i=>Jw (x.Laws.g i)) x.Laws.n+1)+(GO (fun i=>GO (fun i=>1) (x.On.g i).n+1) x.On.n+1)+1
def PD:Mo Tryz.prog QS B9 PC Ev:=by intro m pvs h;obtain⟨m0,h,a⟩:=Bj Tryz.underlying26 h;obtain⟨a0,b0,p0,q0,rfl,b,h,c⟩:=C7 h;obtain⟨x0,l0,w0,s0⟩:=W9 Tryz.underlying22 (by kernel_rfl) Ym _ _ b;have s0:(GO (fun i=>GN (x0.g i)) x0.n+1)<=a0:=s0;obtain⟨a1,b1,p1,q1,rfl,h1,h,d⟩:=C7 h;obtain⟨x1,l1,w1,s1⟩:=W9 Tryz.underlying23 (by kernel_rfl) Ad4 _ _ h1;have s1:(GO (fun i=>Jw (x1.g i)) x1.n+1)<=a1:=s1;obtain⟨a2,b2,p2,q2,rfl,f,h,j⟩:=C7 h;obtain⟨x2,l2,w2,s2⟩:=W9 Tryz.underlying24 (by kernel_rfl) (W9 Tryz.underlying29 (by kernel_rfl) (T3 AT2)) _ _ f;have s2:(GO (fun i=>GO (fun i=>1) (x2.g i).n+1) x2.n+1)<=a2:=s2;obtain rfl:=CX h;exact⟨⟨x0,x1,x2⟩,LeDs.append l0 (LeDs.append l1 (LeDs.append l2 LeDs.nil)),⟨w0,w1,w2⟩,by simp only[Ev];omega⟩
end Go.AM
namespace Go.AM
def TQ {f:Nat->Nat}(h:∀i,1<=f i):∀n,n<=GO f n
 |0=>AV7 _
 |n+1=>by
  have:=TQ h n
  have:=h n
  show n+1<=GO f n+f n;omega
def AL6 {x:IJ}(h:VA x):okO x:=⟨WT h.2.2.1,Ao9 h.2.1,Ao9 h.2.2.2.1⟩
def Ap0 {l:Law}(h:WV l)(hs:Jw l<=1048576):Lp l:=by obtain⟨_,h1,b,c,d,_⟩:=h;unfold Jw at hs;have g1:=TQ (f:=fun i=>Bn (l.If.g i)) (fun i=>by simp only[Bn];omega) l.If.n;have g2:=TQ (f:=fun i=>Km (l.Out.g i)) (fun i=>by simp only[Km];omega) l.Out.n;exact⟨⟨h1,b,fun i a=>WT (c i a)⟩,by omega,by omega,by omega,fun i a=>AL6 (d i a)⟩
def Ad5 {x:Sl Law}(h:∀i,i<x.n->WV (x.g i))(hs:GO (fun i=>Jw (x.g i)) x.n+1<=1048576):GM x:=fun i a=>
 Ap0 (h i a) (by have:=Qy (fun i=>Jw (x.g i)) a;have this:Jw (x.g i)<=_:=this;omega)
def Ap3 {x:Sl Qz}(h:∀i,i<x.n->Jv (x.g i)):okA x:=fun i a=>WT (h i a)
def Yt {h:A9}(w:PC h)(hs:Ev h<=1048576):Cz h:=by
 unfold Ev at hs;have g:=TQ (f:=fun i=>GO (fun i=>1) (h.On.g i).n+1) (fun i=>by omega) h.On.n;refine⟨Ad5 w.2.1 (by omega),fun v a=>?_,by omega,fun v a=>?_⟩
 .have:=Qy (fun i=>GN (h.Tree.g i)) a
  have this:GN (h.Tree.g v)<=GO (fun i=>GN (h.Tree.g i)) h.Tree.n:=this;have e:GN (h.Tree.g v)=1+((h.Tree.g v).Name.length+1)+1:=rfl;omega
 have g2:=Qy (fun i=>GO (fun i=>1) (h.On.g i).n+1) a;have g2:GO (fun i=>1) (h.On.g v).n+1<=_:=g2;have g3:=TQ (f:=fun _=>1) (fun i=>by omega) (h.On.g v).n;omega
end Go.AM
