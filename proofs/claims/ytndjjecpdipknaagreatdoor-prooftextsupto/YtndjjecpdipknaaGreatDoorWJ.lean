/- Part 10. -/
import Derived.JoinedOf
import Derived.Test.YtndjjecpdipknaaGreatDoorWE
import Derived.Test.YtndjjecpdipknaaGreatDoorWF
import Derived.Test.YtndjjecpdipknaaGreatDoorCards
import Derived.Test.YtndjjecpdipknaaGreatDoorTie
import Derived.WalkKit
import Derived.ProofKit
import Derived.OpenShut
import Derived.Deep.DeepHandedRow
import Derived.MakeChecks
import Derived.Lib.LaidTab
import Derived.LaidSub
import Derived.Test.YtndjjecpdipknaaGreatDoorWI
set_option linter.defProp false
set_option linter.unusedSimpArgs false
set_option linter.unusedVariables false
set_option linter.unusedSectionVars false
namespace Go.AM
def BB7:=@Go.Proofs.Tryz.underlying3
def BF3:=@Go.Proofs.Tryz.underlying9
def BH4:=@Go.Proofs.Tryz.underlying4
def BJ1:=@Go.Proofs.Tryz.underlying90
def BJ2:=@Go.Proofs.Tryz.underlying93
def BO1:=@Go.Proofs.Tryz.underlying62
open Go.Rows
def jA_ (P:Program)(f:FuncId)(fn:Func)(s:ChangeSpec)(c:OpenClaim):Bool:= (c.wf (OpenSpec.ofChange s))&&(laidOutB P)&&(mapsRowed P)&&(fn.params.all (P.readableRec ·))&&(namedTie P c.named s.vars)&&(c.stops==[])&&(P.stops==[])&&(c.knobs==[])&&(P.stopKnobs==[])
def jB_ (P:Program)(f:FuncId)(fn:Func)(s:ChangeSpec)(c:OpenClaim):Bool:= (c.inPlace==P.inPlace f)&&(c.unfollowed==P.unfollowed f)
def jC_ (P:Program)(f:FuncId)(fn:Func)(s:ChangeSpec)(c:OpenClaim):Bool:= (c.recurses==P.recurses f)&&(c.named==P.varsNamed f)
def jD_ (P:Program)(f:FuncId)(fn:Func)(s:ChangeSpec)(c:OpenClaim):Bool:= (c.maps==(fn.params.toList++s.plain.varTypes P).any (P.mapsRec ·))&&(c.ifaces==(fn.params.toList++s.plain.varTypes P).any (P.ifacesRec ·))&&(c.mapsOut==P.mapsAmong fn.resultTypes.toList)&&(c.loops==(fn.params.toList++s.plain.varTypes P).any (P.loopsFrom ·))&&(c.wideKeys==(fn.params.toList++s.plain.varTypes P++fn.resultTypes.toList).any (P.wideKeysFrom ·))&&(s.vars.all (P.varReadable ·))&&(fn.resultTypes.all (λt=>P.readableRec t&&decide (t<P.types.size)))&&(c.ifacesOut==fn.resultTypes.toList.any (P.ifacesRec ·))&&(c.loopsOut==fn.resultTypes.toList.any (P.loopsFrom ·))&&(c.plainKeys==P.plainKeys)&&(c.shortTexts.isNone)
def jE_ (P:Program)(f:FuncId)(fn:Func)(s:ChangeSpec)(c:OpenClaim):Bool:= (P.stopsHeard)&&(P.mayEnter)
def jF_ (P:Program)(f:FuncId)(fn:Func)(s:ChangeSpec)(c:OpenClaim):Bool:=
 (c.lifted==P.liftsFinal)&&(P.make==some c.make)&&(c.kinds==(if c.domain.isEmpty then []else fn.params.toList.map λt=>match P.underlying t with|some (.int k)=>some k|_=>none))&&(c.pinned==c.pinnedBy)&&(c.veiled==(fn.params.toList++s.plain.varTypes P++fn.resultTypes.toList).any (P.veiledRec ·))&&(c.veiledFits P fn.params.toList (fn.params.toList++s.plain.varTypes P++fn.resultTypes.toList))
def Ay7 {P:Program}{f:FuncId}{fn:Func}{s:ChangeSpec}{c:OpenClaim}(h1:jA_ P f fn s c=true)(a:jB_ P f fn s c=true)(b:jC_ P f fn s c=true)(d:jD_ P f fn s c=true)(g:jE_ P f fn s c=true)(i:jF_ P f fn s c=true):joinedFacts P f fn s c=true:=by
 have:joinedFacts P f fn s c=(jA_ P f fn s c&&jB_ P f fn s c&&jC_ P f fn s c&&jD_ P f fn s c&&jE_ P f fn s c&&jF_ P f fn s c):=by simp only[joinedFacts,jA_,jB_,jC_,jD_,jE_,jF_,Bool.and_assoc];rfl
 rw[this,h1,a,b,d,g,i];rfl
open Go.RowKit Go.ChangeShapes Go.WideShapes Go.ChangeAt Go.Deep Go.Proofs Go.Proofs.YtndjjecpdipknaaGreatDoor
def Bc2:Kids Tryz.prog (· < Tryz.prog.types.size):=kids_rows (by kernel_rfl) (by kernel_rfl)
def Ws {H:Type}:∀es:List (DataW H),Zi (es.map Rows.uptoBulk)=Rows.uptoBulkAll es
 |[]=>rfl
 |d::r=>by simp only[BA3,Xn,Rows.uptoBulkAll,Ws r]
def Bc3 {H:Type}:Bulk (H:=H) Rows.uptoBulk where
 int k n:=by simp[Rows.uptoBulk]
 bool b:=by simp[Rows.uptoBulk]
 str l:=by simp[Rows.uptoBulk]
 nil:=by simp[Rows.uptoBulk]
 slice es sp:=by simp only[Rows.uptoBulk,Ws];omega
 agg ps:=by simp only[Rows.uptoBulk,Ws];omega
section
variable {H:Type}{enc:TypeId×Value->H}{P:Program}{W:World}
def Bc4 {v:Value}{x:PV}(a:v.cells.toList=[v])(h:CRep W v.cells.toList [x]):Sd W (λ_ _=>False) v x:=by
 have:=(h.2 0 (by simp)).1
 rw[a]at this;exact this
def Ay6 {cs:Array Value}{pvs:List PV}(h:CRep W (Value.agg cs).cells.toList pvs):Sd W (λ_ _=>False) (.agg cs) (.agg pvs):=by
 obtain⟨h1,a⟩:=h;have hc:(Value.agg cs).cells.toList=cs.toList:=rfl;rw[hc]at h1 a;have e:∀i,cs.toList.getD i undef=cs.getD i undef:=λi=>by simp[By3,By2]
 exact .agg cs pvs (by simpa using h1) (λi b=>by rw[<- e];exact (a i b).2) λi b=>by rw[<- e];exact (a i b).1
end
def AL5 {n:Int}(hw:(Lit.int .u32 n).wf=true):∃p:BitVec 32,n=(p.toNat:Int):=by
 simp only[Lit.wf,IntKind.min,IntKind.max,IntKind.signed,IntKind.bits,By5,Lf]at hw;refine⟨BitVec.ofNat 32 n.toNat,?_⟩;rw[BN3];have a:0<=n:=by have:=hw.1;simpa using this
 have h1:n<4294967296:=by have:=hw.2;simp at this;omega
 rw[BG3 (by omega),Int.toNat_of_nonneg a]
def Za {W:World}{name:String}{k:IntKind}{zs:List Int}{g:Nat}(a:Tryz.prog.globalNamed name=some g)(h:Lib.TabIs Tryz.prog W name k zs):∃t fr,W.heap[g]? = some (.cells (zs.map λz=>Value.int k z).toArray t fr):=by
 unfold Lib.TabIs World.var? at h;rw[a]at h;simp only[By8]at h;split at h
 .rename_i cs t fr b;cases h;exact⟨_,_,b⟩
 cases h
def Zb {g:Nat}{s:Global}(hs:Tryz.prog.globals[g]? = some s)(name:String)(i:Nat)(key:∀k:Fin Tryz.prog.globals.size,((Tryz.prog.globals[k.1]?.map λs=>s.name==name)==some true)=true->k.1=i)(hn:(s.name==name)=true):g=i:=by have a:g<Tryz.prog.globals.size:=(Bz0.1 hs).1;refine key ⟨g,a⟩ ?_;simp[hs,hn]
def Bn0 {W:World}{l:List (String×DataW Unit)}(hp:(l.all λx=>x.2.handleName?.isNone)=true)
 (f:(l.filter λx=>x.1 == "math/bits.deBruijn64tab")=[("math/bits.deBruijn64tab",Lib.tabData .u8 (Lib.deBruijn64tab.map λ(n:Nat)=>(n:Int)))])
 (b:(l.filter λx=>x.1 == "internal/strconv.uint64pow10")=[("internal/strconv.uint64pow10",Lib.tabData .u64 Lib.pow10Tab)])
 (hL:laidMetH Tryz.prog l W):TabE Tryz.prog W (λ_ _=>False) (λ_=>False):=by
 rw[MakeChecks.laidMetH_plain _ _ _ hp]at hL;have c:=laidMet.filter (λx=>x.1 == "math/bits.deBruijn64tab") hL;have d:=laidMet.filter (λx=>x.1 == "internal/strconv.uint64pow10") hL;rw[f]at c;rw[b]at d;have t1:Lib.TabIs Tryz.prog W "math/bits.deBruijn64tab" .u8 (Lib.deBruijn64tab.map λ(n:Nat)=>(n:Int)):=
  Lib.tabIs_of_head (g:=3) (t:=(Tryz.prog.globals[3]?.map (·.type)).getD 0) (e:=(match Tryz.prog.underlying ((Tryz.prog.globals[3]?.map (·.type)).getD 0)with|some (.array _ e)=>e|_=>0)) (n:=64) (by kernel_rfl) (by kernel_rfl) (by kernel_rfl) (by kernel_rfl) (by kernel_rfl) (by kernel_rfl) (rest:=[]) c
 have t2:Lib.TabIs Tryz.prog W "internal/strconv.uint64pow10" .u64 Lib.pow10Tab:=
  Lib.tabIs_of_head (g:=0) (t:=(Tryz.prog.globals[0]?.map (·.type)).getD 0) (e:=(match Tryz.prog.underlying ((Tryz.prog.globals[0]?.map (·.type)).getD 0)with|some (.array _ e)=>e|_=>0)) (n:=20) (by kernel_rfl) (by kernel_rfl) (by kernel_rfl) (by kernel_rfl) (by kernel_rfl) (by kernel_rfl) (rest:=[]) d
 have i:Tryz.prog.globalNamed "math/bits.deBruijn64tab" = some 3:=by kernel_rfl
 have m:Tryz.prog.globalNamed "internal/strconv.uint64pow10" = some 0:=by kernel_rfl
 have r:TabX Tryz.prog W (λ_=>False):=by
  intro g s hs a;refine⟨?_,λh=>h⟩;unfold PA at a⊢;split at a
  .rename_i hn;obtain rfl:=Zb hs _ 3 (by decide +kernel) hn;obtain⟨t,fr,h⟩:=Za i t1;rw[Gy hn];exact⟨t,fr,by rw[h];simp[BH7,BE6]⟩
  rename_i o;split at a
  .rename_i hn;obtain rfl:=Zb hs _ 0 (by decide +kernel) hn;obtain⟨t,fr,h⟩:=Za m t2;rw[Hj o,Gy hn];exact⟨t,fr,h⟩
  exact Ij rfl a
 refine⟨λg s j v hs q=>⟨?_,λh=>h⟩,r⟩;have a:PA s.name≠[]:=by rintro e;rw[e]at q;simp at q
 obtain⟨⟨t,fr,h⟩,_⟩:=r g s hs a;simp only[World.cell?,h];simpa using q
set_option maxRecDepth 100000
def FK (x:Qj):Prop:=((Lit.int .u32 x.Plus).wf=true)/\((Lit.int .u32 x.Minus).wf=true)
def U7 (x:Qj):Nat:=1+1+1
def Dc:He Tryz.prog B5 A0 FK U7:=by intro m pvs h;obtain⟨m0,h,a⟩:=J5 Tryz.underlying92 h;obtain⟨a0,b0,p0,q0,rfl,b,h,c⟩:=B2 h;obtain⟨x0,l0,w0,s0⟩:=I3 BJ1 _ _ b;have s0:1<=a0:=s0;obtain⟨a1,b1,p1,q1,rfl,h1,h,d⟩:=B2 h;obtain⟨x1,l1,w1,s1⟩:=I3 BJ1 _ _ h1;have s1:1<=a1:=s1;obtain rfl:=P8 h;exact⟨⟨x0,x1⟩,LeDs.append l0 (LeDs.append l1 LeDs.nil),⟨w0,w1⟩,by simp only[U7];omega⟩
def Ao2 (x:F2):Prop:=(True)/\(FK x.S)
def Ew (x:F2):Nat:=(x.Sp.length+1)+U7 x.S+1
def Ah2:He Tryz.prog D2 D5 Ao2 Ew:=by intro m pvs h;obtain⟨m0,h,a⟩:=J5 Tryz.underlying112 h;obtain⟨a0,b0,p0,q0,rfl,b,h,c⟩:=B2 h;obtain⟨x0,l0,w0,s0⟩:=Gw BF3 _ _ b;have s0:(x0.length+1)<=a0:=s0;obtain⟨a1,b1,p1,q1,rfl,h1,h,d⟩:=B2 h;obtain⟨x1,l1,w1,s1⟩:=Dc _ _ h1;have s1:U7 x1<=a1:=s1;obtain rfl:=P8 h;exact⟨⟨x0,x1⟩,LeDs.append l0 (LeDs.append l1 LeDs.nil),⟨w0,w1⟩,by simp only[Ew];omega⟩
def AL6 (x:Fw):Prop:=(True)/\((Lit.int .u32 x.Clear).wf=true)/\(FK x.Set)
def LA (x:Fw):Nat:=(x.Text.length+1)+1+U7 x.Set+1
def Ax4:He Tryz.prog TY S5 AL6 LA:=by intro m pvs h;obtain⟨m0,h,a⟩:=J5 Tryz.underlying216 h;obtain⟨a0,b0,p0,q0,rfl,b,h,c⟩:=B2 h;obtain⟨x0,l0,w0,s0⟩:=Gw BF3 _ _ b;have s0:(x0.length+1)<=a0:=s0;obtain⟨a1,b1,p1,q1,rfl,h1,h,d⟩:=B2 h;obtain⟨x1,l1,w1,s1⟩:=I3 BJ1 _ _ h1;have s1:1<=a1:=s1;obtain⟨a2,b2,p2,q2,rfl,f,h,g⟩:=B2 h;obtain⟨x2,l2,w2,s2⟩:=Dc _ _ f;have s2:U7 x2<=a2:=s2;obtain rfl:=P8 h;exact⟨⟨x0,x1,x2⟩,LeDs.append l0 (LeDs.append l1 (LeDs.append l2 LeDs.nil)),⟨w0,w1,w2⟩,by simp only[LA];omega⟩
def AL7 (x:Node):Prop:=((Lit.int .i64 x.Sk).wf=true)/\(True)
def Jw (x:Node):Nat:=1+(x.Name.length+1)+1
def Ax5:He Tryz.prog S2 D8 AL7 Jw:=by intro m pvs h;obtain⟨m0,h,a⟩:=J5 Tryz.underlying86 h;obtain⟨a0,b0,p0,q0,rfl,b,h,c⟩:=B2 h;obtain⟨x0,l0,w0,s0⟩:=I3 BB7 _ _ b;have s0:1<=a0:=s0;obtain⟨a1,b1,p1,q1,rfl,h1,h,d⟩:=B2 h;obtain⟨x1,l1,w1,s1⟩:=Gw BF3 _ _ h1;have s1:(x1.length+1)<=a1:=s1;obtain rfl:=P8 h;exact⟨⟨x0,x1⟩,LeDs.append l0 (LeDs.append l1 LeDs.nil),⟨w0,w1⟩,by simp only[Jw];omega⟩
def Ui {x:Qj}(h:FK x):okS x:=by obtain⟨p,hp⟩:=AL5 h.1;obtain⟨q,a⟩:=AL5 h.2;exact⟨p,q,by cases x;simp_all [sOf]⟩
abbrev Ao3 (x:Pat):Prop:=okPS x
abbrev Zc (x:Pat):Nat:=1
def Zd:He Tryz.prog GE C0 Ao3 Zc:=by
 intro m
 induction m using Nat.strongRecOn with
 |ind m ih=>
 intro pvs h;obtain⟨m0,h,d⟩:=J5 Tryz.underlying95 h;obtain⟨a0,b0,p0,q0,rfl,j,h,l⟩:=B2 h;obtain⟨x0,l0,w0,s0⟩:=I3 BB7 _ _ j;have s0:1<=a0:=s0;obtain⟨a1,b1,p1,q1,rfl,h1,h,o⟩:=B2 h;obtain⟨x1,l1,w1,s1⟩:=Dc _ _ h1;have s1:U7 x1<=a1:=s1;obtain⟨a2,b2,p2,q2,rfl,q,h,r⟩:=B2 h;obtain⟨x2,l2,w2,s2⟩:=TE BH4 _ _ q;have s2:1<=a2:=s2;obtain⟨a3,b3,p3,q3,rfl,s,h,t⟩:=B2 h;obtain⟨x3,l3,w3,s3⟩:=I3 BB7 _ _ s;have s3:1<=a3:=s3;obtain⟨a4,b4,p4,q4,rfl,u,h,v⟩:=B2 h;obtain⟨x4,l4,w4,s4⟩:=I3 BB7 _ _ u;have s4:1<=a4:=s4;obtain⟨a5,b5,p5,q5,rfl,w,h,y⟩:=B2 h;obtain rfl:=P8 h;have a:Tryz.prog.cellsOf 95=7:=by kernel_rfl
 cases w with
 |int ht'=>rw[BJ2]at ht';cases ht'
 |bool ht'=>rw[BJ2]at ht';cases ht'
 |str ht'=>rw[BJ2]at ht';cases ht'
 |struct ht'=>rw[BJ2]at ht';cases ht'
 |arr ht'=>rw[BJ2]at ht';cases ht'
 | @slice _ _ e' n f ms ht' hl hel hm=>rw[BJ2]at ht';cases ht';rw[a];rw[TD]at hm;obtain⟨g,c⟩:=choose_lt (α:=Pat) (p:=λi x=>LeDs (f i) (C0 x)/\Ao3 x/\1<=ms i) λi b=>ih (ms i) (by have:=IC ms b;omega) _ (hel i b);exact⟨.mk x0 x1 x2 x3 x4 n g,LeDs.append l0 (LeDs.append l1 (LeDs.append l2 (LeDs.append l3 (LeDs.append l4 (.cons (.sl λi b=>(c i b).1) .nil))))),⟨Ui w1,λi b=>(c i b).2.1⟩,by show 1<=m;omega⟩
def Ah3 (x:Dv):Prop:=((Lit.int .i64 x.From).wf=true)/\((Lit.int .u32 x.Clear).wf=true)/\(FK x.Set)/\((Lit.int .u32 x.Take).wf=true)/\((Lit.int .i64 x.Of).wf=true)
def NC (x:Dv):Nat:=1+1+U7 x.Set+1+1+1
def Ax6:He Tryz.prog AG3 Z9 Ah3 NC:=by intro m pvs h;obtain⟨m0,h,a⟩:=J5 Tryz.underlying148 h;obtain⟨a0,b0,p0,q0,rfl,b,h,c⟩:=B2 h;obtain⟨x0,l0,w0,s0⟩:=I3 BB7 _ _ b;have s0:1<=a0:=s0;obtain⟨a1,b1,p1,q1,rfl,h1,h,d⟩:=B2 h;obtain⟨x1,l1,w1,s1⟩:=I3 BJ1 _ _ h1;have s1:1<=a1:=s1;obtain⟨a2,b2,p2,q2,rfl,f,h,g⟩:=B2 h;obtain⟨x2,l2,w2,s2⟩:=Dc _ _ f;have s2:U7 x2<=a2:=s2;obtain⟨a3,b3,p3,q3,rfl,i,h,j⟩:=B2 h;obtain⟨x3,l3,w3,s3⟩:=I3 BJ1 _ _ i;have s3:1<=a3:=s3;obtain⟨a4,b4,p4,q4,rfl,l,h,n⟩:=B2 h;obtain⟨x4,l4,w4,s4⟩:=I3 BB7 _ _ l;have s4:1<=a4:=s4;obtain rfl:=P8 h;exact⟨⟨x0,x1,x2,x3,x4⟩,LeDs.append l0 (LeDs.append l1 (LeDs.append l2 (LeDs.append l3 (LeDs.append l4 LeDs.nil)))),⟨w0,w1,w2,w3,w4⟩,by simp only[NC];omega⟩
def Ao4 (x:Law):Prop:=(True)/\(Ao3 x.Left)/\(Ao3 x.Right)/\(∀i,i<x.If.n->FK (x.If.g i))/\(∀i,i<x.Out.n->Ah3 (x.Out.g i))/\((Lit.int .i64 x.Mode).wf=true)
def MP (x:Law):Nat:=(x.Name.length+1)+Zc x.Left+Zc x.Right+(Dt (λi=>U7 (x.If.g i)) x.If.n+1)+(Dt (λi=>NC (x.Out.g i)) x.Out.n+1)+1+1
def AL8:He Tryz.prog I5 B6 Ao4 MP:=by intro m pvs h;obtain⟨m0,h,a⟩:=J5 Tryz.underlying98 h;obtain⟨a0,b0,p0,q0,rfl,b,h,c⟩:=B2 h;obtain⟨x0,l0,w0,s0⟩:=Gw BF3 _ _ b;have s0:(x0.length+1)<=a0:=s0;obtain⟨a1,b1,p1,q1,rfl,h1,h,d⟩:=B2 h;obtain⟨x1,l1,w1,s1⟩:=Zd _ _ h1;have s1:Zc x1<=a1:=s1;obtain⟨a2,b2,p2,q2,rfl,f,h,j⟩:=B2 h;obtain⟨x2,l2,w2,s2⟩:=Zd _ _ f;have s2:Zc x2<=a2:=s2;obtain⟨a3,b3,p3,q3,rfl,l,h,o⟩:=B2 h;obtain⟨x3,l3,w3,s3⟩:=K0 BO1 (by kernel_rfl) Dc _ _ l;have s3:(Dt (λi=>U7 (x3.g i)) x3.n+1)<=a3:=s3;obtain⟨a4,b4,p4,q4,rfl,q,h,r⟩:=B2 h;obtain⟨x4,l4,w4,s4⟩:=K0 Tryz.underlying96 (by kernel_rfl) Ax6 _ _ q;have s4:(Dt (λi=>NC (x4.g i)) x4.n+1)<=a4:=s4;obtain⟨a5,b5,p5,q5,rfl,s,h,t⟩:=B2 h;obtain⟨x5,l5,w5,s5⟩:=I3 BB7 _ _ s;have s5:1<=a5:=s5;obtain rfl:=P8 h;exact⟨⟨x0,x1,x2,x3,x4,x5⟩,LeDs.append l0 (LeDs.append l1 (LeDs.append l2 (LeDs.append l3 (LeDs.append l4 (LeDs.append l5 LeDs.nil))))),⟨w0,w1,w2,w3,w4,w5⟩,by simp only[MP];omega⟩
def ND (x:Si):Prop:=(∀i,i<x.Tree.n->AL7 (x.Tree.g i))/\(∀i,i<x.Laws.n->Ao4 (x.Laws.g i))/\(∀i,i<x.On.n->∀i',i' < (x.On.g i).n->(Lit.int .i64 ((x.On.g i).g i')).wf=true)
def EF (x:Si):Nat:=(Dt (λi=>Jw (x.Tree.g i)) x.Tree.n+1)+(Dt (λi=>MP (x.Laws.g i)) x.Laws.n+1)+(Dt (λi=>Dt (λi=>1) (x.On.g i).n+1) x.On.n+1)+1
def Wt:He Tryz.prog VJ A8 ND EF:=by intro m pvs h;obtain⟨m0,h,a⟩:=J5 Tryz.underlying29 h;obtain⟨a0,b0,p0,q0,rfl,b,h,c⟩:=B2 h;obtain⟨x0,l0,w0,s0⟩:=K0 Tryz.underlying25 (by kernel_rfl) Ax5 _ _ b;have s0:(Dt (λi=>Jw (x0.g i)) x0.n+1)<=a0:=s0;obtain⟨a1,b1,p1,q1,rfl,h1,h,d⟩:=B2 h;obtain⟨x1,l1,w1,s1⟩:=K0 Tryz.underlying26 (by kernel_rfl) AL8 _ _ h1;have s1:(Dt (λi=>MP (x1.g i)) x1.n+1)<=a1:=s1;obtain⟨a2,b2,p2,q2,rfl,f,h,j⟩:=B2 h;obtain⟨x2,l2,w2,s2⟩:=K0 Tryz.underlying27 (by kernel_rfl) (K0 Tryz.underlying70 (by kernel_rfl) (I3 BB7)) _ _ f;have s2:(Dt (λi=>Dt (λi=>1) (x2.g i).n+1) x2.n+1)<=a2:=s2;obtain rfl:=P8 h;exact⟨⟨x0,x1,x2⟩,LeDs.append l0 (LeDs.append l1 (LeDs.append l2 LeDs.nil)),⟨w0,w1,w2⟩,by simp only[EF];omega⟩
def Wu (x:U9):Prop:=(True)/\(∀i,i<x.W.n->FK (x.W.g i))
def HG (x:U9):Nat:=1+(Dt (λi=>U7 (x.W.g i)) x.W.n+1)+1
def Uj:He Tryz.prog JH G4 Wu HG:=by intro m pvs h;obtain⟨m0,h,a⟩:=J5 Tryz.underlying107 h;obtain⟨a0,b0,p0,q0,rfl,b,h,c⟩:=B2 h;obtain⟨x0,l0,w0,s0⟩:=TE BH4 _ _ b;have s0:1<=a0:=s0;obtain⟨a1,b1,p1,q1,rfl,h1,h,d⟩:=B2 h;obtain⟨x1,l1,w1,s1⟩:=K0 BO1 (by kernel_rfl) Dc _ _ h1;have s1:(Dt (λi=>U7 (x1.g i)) x1.n+1)<=a1:=s1;obtain rfl:=P8 h;exact⟨⟨x0,x1⟩,LeDs.append l0 (LeDs.append l1 LeDs.nil),⟨w0,w1⟩,by simp only[HG];omega⟩
def Wv (x:So):Prop:=(True)/\(∀i,i<x.Sn.n->Wu (x.Sn.g i))
def Ex (x:So):Nat:=(x.Gloss.length+1)+(Dt (λi=>HG (x.Sn.g i)) x.Sn.n+1)+1
def Ah4:He Tryz.prog Ac9 G5 Wv Ex:=by intro m pvs h;obtain⟨m0,h,a⟩:=J5 Tryz.underlying49 h;obtain⟨a0,b0,p0,q0,rfl,b,h,c⟩:=B2 h;obtain⟨x0,l0,w0,s0⟩:=Gw BF3 _ _ b;have s0:(x0.length+1)<=a0:=s0;obtain⟨a1,b1,p1,q1,rfl,h1,h,d⟩:=B2 h;obtain⟨x1,l1,w1,s1⟩:=K0 Tryz.underlying30 (by kernel_rfl) Uj _ _ h1;have s1:(Dt (λi=>HG (x1.g i)) x1.n+1)<=a1:=s1;obtain rfl:=P8 h;exact⟨⟨x0,x1⟩,LeDs.append l0 (LeDs.append l1 LeDs.nil),⟨w0,w1⟩,by simp only[Ex];omega⟩
def Uk (x:A6):Prop:=(∀i,i<x.Feats.n->True)/\(∀i,i<x.Sounds.n->Ao2 (x.Sounds.g i))/\(∀i,i<x.Marks.n->AL6 (x.Marks.g i))/\(ND x.Si)/\(∀i,i<x.Sh.n->Wu (x.Sh.g i))/\(∀i,i<x.Sm.n->Wv (x.Sm.g i))
def Gi (x:A6):Nat:=(Dt (λi=>(x.Feats.g i).length+1) x.Feats.n+1)+(Dt (λi=>Ew (x.Sounds.g i)) x.Sounds.n+1)+(Dt (λi=>LA (x.Marks.g i)) x.Marks.n+1)+EF x.Si+(Dt (λi=>HG (x.Sh.g i)) x.Sh.n+1)+(Dt (λi=>Ex (x.Sm.g i)) x.Sm.n+1)+1
def Um:He Tryz.prog VK A7 Uk Gi:=by intro m pvs h;obtain⟨m0,h,a⟩:=J5 Tryz.underlying33 h;obtain⟨a0,b0,p0,q0,rfl,b,h,c⟩:=B2 h;obtain⟨x0,l0,w0,s0⟩:=K0 Tryz.underlying22 (by kernel_rfl) (Gw BF3) _ _ b;have s0:(Dt (λi=>(x0.g i).length+1) x0.n+1)<=a0:=s0;obtain⟨a1,b1,p1,q1,rfl,h1,h,d⟩:=B2 h;obtain⟨x1,l1,w1,s1⟩:=K0 Tryz.underlying23 (by kernel_rfl) Ah2 _ _ h1;have s1:(Dt (λi=>Ew (x1.g i)) x1.n+1)<=a1:=s1;obtain⟨a2,b2,p2,q2,rfl,f,h,j⟩:=B2 h;obtain⟨x2,l2,w2,s2⟩:=K0 Tryz.underlying24 (by kernel_rfl) Ax4 _ _ f;have s2:(Dt (λi=>LA (x2.g i)) x2.n+1)<=a2:=s2;obtain⟨a3,b3,p3,q3,rfl,l,h,o⟩:=B2 h;obtain⟨x3,l3,w3,s3⟩:=Wt _ _ l;have s3:EF x3<=a3:=s3;obtain⟨a4,b4,p4,q4,rfl,q,h,r⟩:=B2 h;obtain⟨x4,l4,w4,s4⟩:=K0 Tryz.underlying30 (by kernel_rfl) Uj _ _ q;have s4:(Dt (λi=>HG (x4.g i)) x4.n+1)<=a4:=s4;obtain⟨a5,b5,p5,q5,rfl,s,h,t⟩:=B2 h;obtain⟨x5,l5,w5,s5⟩:=K0 Tryz.underlying31 (by kernel_rfl) Ah4 _ _ s;have s5:(Dt (λi=>Ex (x5.g i)) x5.n+1)<=a5:=s5;obtain rfl:=P8 h;exact⟨⟨x0,x1,x2,x3,x4,x5⟩,LeDs.append l0 (LeDs.append l1 (LeDs.append l2 (LeDs.append l3 (LeDs.append l4 (LeDs.append l5 LeDs.nil))))),⟨w0,w1,w2,w3,w4,w5⟩,by simp only[Gi];omega⟩
def Ox (x:B3):Prop:=((Lit.int .i64 x.So).wf=true)/\((Lit.int .i64 x.Sf).wf=true)/\((Lit.int .i64 x.Kind).wf=true)/\((Lit.int .i64 x.Cost).wf=true)
def FL (x:B3):Nat:=1+1+1+1+1
def RB:He Tryz.prog T1 B4 Ox FL:=by intro m pvs h;obtain⟨m0,h,a⟩:=J5 Tryz.underlying66 h;obtain⟨a0,b0,p0,q0,rfl,b,h,c⟩:=B2 h;obtain⟨x0,l0,w0,s0⟩:=I3 BB7 _ _ b;have s0:1<=a0:=s0;obtain⟨a1,b1,p1,q1,rfl,h1,h,d⟩:=B2 h;obtain⟨x1,l1,w1,s1⟩:=I3 BB7 _ _ h1;have s1:1<=a1:=s1;obtain⟨a2,b2,p2,q2,rfl,f,h,g⟩:=B2 h;obtain⟨x2,l2,w2,s2⟩:=I3 BB7 _ _ f;have s2:1<=a2:=s2;obtain⟨a3,b3,p3,q3,rfl,i,h,j⟩:=B2 h;obtain⟨x3,l3,w3,s3⟩:=I3 Tryz.underlying2 _ _ i;have s3:1<=a3:=s3;obtain rfl:=P8 h;exact⟨⟨x0,x1,x2,x3⟩,LeDs.append l0 (LeDs.append l1 (LeDs.append l2 (LeDs.append l3 LeDs.nil))),⟨w0,w1,w2,w3⟩,by simp only[FL];omega⟩
def AL9 (x:FR):Prop:=((Lit.int .i64 x.Node).wf=true)/\((Lit.int .i64 x.Place).wf=true)/\((Lit.int .i64 x.So).wf=true)/\((Lit.int .i64 x.Sf).wf=true)
def Ww (x:FR):Nat:=1+1+1+1+1
def Ax7:He Tryz.prog EA P0 AL9 Ww:=by intro m pvs h;obtain⟨m0,h,a⟩:=J5 Tryz.underlying58 h;obtain⟨a0,b0,p0,q0,rfl,b,h,c⟩:=B2 h;obtain⟨x0,l0,w0,s0⟩:=I3 BB7 _ _ b;have s0:1<=a0:=s0;obtain⟨a1,b1,p1,q1,rfl,h1,h,d⟩:=B2 h;obtain⟨x1,l1,w1,s1⟩:=I3 BB7 _ _ h1;have s1:1<=a1:=s1;obtain⟨a2,b2,p2,q2,rfl,f,h,g⟩:=B2 h;obtain⟨x2,l2,w2,s2⟩:=I3 BB7 _ _ f;have s2:1<=a2:=s2;obtain⟨a3,b3,p3,q3,rfl,i,h,j⟩:=B2 h;obtain⟨x3,l3,w3,s3⟩:=I3 BB7 _ _ i;have s3:1<=a3:=s3;obtain rfl:=P8 h;exact⟨⟨x0,x1,x2,x3⟩,LeDs.append l0 (LeDs.append l1 (LeDs.append l2 (LeDs.append l3 LeDs.nil))),⟨w0,w1,w2,w3⟩,by simp only[Ww];omega⟩
def Ao5 (x:V7):Prop:=(∀i,i<x.Bad.n->Ox (x.Bad.g i))/\(∀i,i<x.Sj.n->AL9 (x.Sj.g i))
def Un (x:V7):Nat:=(Dt (λi=>FL (x.Bad.g i)) x.Bad.n+1)+(Dt (λi=>Ww (x.Sj.g i)) x.Sj.n+1)+1
def Zl:He Tryz.prog Ac8 FM Ao5 Un:=by intro m pvs h;obtain⟨m0,h,a⟩:=J5 Tryz.underlying37 h;obtain⟨a0,b0,p0,q0,rfl,b,h,c⟩:=B2 h;obtain⟨x0,l0,w0,s0⟩:=K0 Tryz.underlying34 (by kernel_rfl) RB _ _ b;have s0:(Dt (λi=>FL (x0.g i)) x0.n+1)<=a0:=s0;obtain⟨a1,b1,p1,q1,rfl,h1,h,d⟩:=B2 h;obtain⟨x1,l1,w1,s1⟩:=K0 Tryz.underlying35 (by kernel_rfl) Ax7 _ _ h1;have s1:(Dt (λi=>Ww (x1.g i)) x1.n+1)<=a1:=s1;obtain rfl:=P8 h;exact⟨⟨x0,x1⟩,LeDs.append l0 (LeDs.append l1 LeDs.nil),⟨w0,w1⟩,by simp only[Un];omega⟩
def RC {f:Nat->Nat}(h:∀i,1<=f i):∀n,n<=Dt f n
 |0=>BG6 _
 |n+1=>by
  have:=RC h n
  have:=h n
  show n+1<=Dt f n+f n;omega
def Bw3 {x:Dv}(h:Ah3 x):okO x:=⟨Ui h.2.2.1,AL5 h.2.1,AL5 h.2.2.2.1⟩
def AX6 {l:Law}(h:Ao4 l)(hs:MP l<=1048576):Ag0 l:=by obtain⟨_,h1,b,c,d,_⟩:=h;unfold MP at hs;have g1:=RC (f:=λi=>U7 (l.If.g i)) (λi=>by simp only[U7];omega) l.If.n;have g2:=RC (f:=λi=>NC (l.Out.g i)) (λi=>by simp only[NC];omega) l.Out.n;exact⟨⟨h1,b,λi a=>Ui (c i a)⟩,by omega,by omega,by omega,λi a=>Bw3 (d i a)⟩
def AM0 {x:Sl Law}(h:∀i,i<x.n->Ao4 (x.g i))(hs:Dt (λi=>MP (x.g i)) x.n+1<=1048576):Bb0 x:=λi a=>
 AX6 (h i a) (by have:=IC (λi=>MP (x.g i)) a;have this:MP (x.g i)<=_:=this;omega)
def Bw4 {x:Sl Qj}(h:∀i,i<x.n->FK (x.g i)):okA x:=λi a=>Ui (h i a)
def AM1 {h:Si}(w:ND h)(hs:EF h<=1048576):Fr h:=by
 unfold EF at hs;have g:=RC (f:=λi=>Dt (λi=>1) (h.On.g i).n+1) (λi=>by omega) h.On.n;refine⟨AM0 w.2.1 (by omega),λv a=>?_,by omega,λv a=>?_⟩
 .have:=IC (λi=>Jw (h.Tree.g i)) a
  have this:Jw (h.Tree.g v)<=Dt (λi=>Jw (h.Tree.g i)) h.Tree.n:=this;have e:Jw (h.Tree.g v)=1+((h.Tree.g v).Name.length+1)+1:=rfl;omega
 have g2:=IC (λi=>Dt (λi=>1) (h.On.g i).n+1) a;have g2:Dt (λi=>1) (h.On.g v).n+1<=_:=g2;have g3:=RC (f:=λ_=>1) (λi=>by omega) (h.On.g v).n;omega
def Ul {x:Sl U9}(h:∀i,i<x.n->Wu (x.g i)):Ju x:=λi a=>Bw4 (h i a).2
def Bc1 {x:Sl So}(h:∀i,i<x.n->Wv (x.g i))(hs:Dt (λi=>Ex (x.g i)) x.n+1<=1048576){i:Nat}(a:i<x.n):(Ju (x.g i).Sn/\(x.g i).Gloss.length<1100000)/\(x.g i).Sn.n<1100000:=by have g:=IC (λi=>Ex (x.g i)) a;have g:Ex (x.g i)<=Dt (λi=>Ex (x.g i)) x.n:=g;have e:Ex (x.g i)=((x.g i).Gloss.length+1)+(Dt (λi'=>HG ((x.g i).Sn.g i')) (x.g i).Sn.n+1)+1:=rfl;have g1:=RC (f:=λi'=>HG ((x.g i).Sn.g i')) (λi=>by simp only[HG];omega) (x.g i).Sn.n;exact⟨⟨Ul (h i a).2,by omega⟩,by omega⟩
def Ah6 {p:A6}(w:Uk p)(hs:Gi p<=1048576):Rv p/\∀i,i<p.Sm.n->(p.Sm.g i).Sn.n<1100000:=by
 unfold Gi at hs;obtain⟨w1,w2,w3,w4,w5,w6⟩:=w;have gs:=RC (f:=λi=>Ew (p.Sounds.g i)) (λi=>by simp only[Ew];omega) p.Sounds.n;refine⟨⟨λi d=>?_,λi d=>⟨Ui (w2 i d).2,?_⟩,by omega,λi d=>?_,AM1 w4 (by omega),Ul w5,λi d=>(Bc1 w6 (by omega) d).1⟩,λi d=>(Bc1 w6 (by omega) d).2⟩
 .have g:=IC (λi=>(p.Feats.g i).length+1) d;have g:(p.Feats.g i).length+1<=_:=g;omega
 .have g:=IC (λi=>Ew (p.Sounds.g i)) d;have g:Ew (p.Sounds.g i)<=_:=g;have e:Ew (p.Sounds.g i)=((p.Sounds.g i).Sp.length+1)+U7 (p.Sounds.g i).S+1:=rfl;omega
 obtain⟨m1,m2,m3⟩:=w3 i d;obtain⟨a,b,e1⟩:=Ui m3;obtain⟨c,e2⟩:=AL5 m2;have g:=IC (λi=>LA (p.Marks.g i)) d;have g:LA (p.Marks.g i)<=_:=g;have e:LA (p.Marks.g i)=((p.Marks.g i).Text.length+1)+1+U7 (p.Marks.g i).Set+1:=rfl;exact⟨a,b,c,e1,e2,by omega⟩
def Bw5 {n:Int}(h:(Lit.int .i64 n).wf=true) : -9223372036854775808<=n/\n<=9223372036854775807:=by simp only[Lit.wf,IntKind.min,IntKind.max,IntKind.signed,IntKind.bits,By5,Lf]at h;have h1:=h.1;have a:=h.2;simp at h1 a;omega
def Bm9 {c:V7}(w:Ao5 c):∀i,i<c.Bad.n->cOk (c.Bad.g i):=λi a=>Bw5 (w.1 i a).2.2.2
end Go.AM
