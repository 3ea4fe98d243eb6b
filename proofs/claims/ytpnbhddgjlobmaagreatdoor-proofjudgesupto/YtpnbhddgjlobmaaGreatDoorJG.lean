/- Part 7. -/
import Derived.JoinedOf
import Derived.Test.YtpnbhddgjlobmaaGreatDoorJC
import Derived.Test.YtpnbhddgjlobmaaGreatDoorJD
import Derived.Test.YtpnbhddgjlobmaaGreatDoorCards
import Derived.Test.YtpnbhddgjlobmaaGreatDoorTie
import Derived.WalkKit
import Derived.ProofKit
import Derived.OpenShut
import Derived.Deep.DeepHandedRow
import Derived.MakeChecks
import Derived.Lib.LaidTab
import Derived.LaidSub
import Derived.Test.YtpnbhddgjlobmaaGreatDoorJF
set_option linter.defProp false
set_option linter.unusedSimpArgs false
set_option linter.unusedVariables false
set_option linter.unusedSectionVars false
namespace Go.AM
def Ck2:=@Go.Proofs.Tryz.underlying3
def Cn5:=@Go.Proofs.Tryz.underlying9
def Cp7:=@Go.Proofs.Tryz.underlying4
def Cr7:=@Go.Proofs.Tryz.underlying86
def Cr8:=@Go.Proofs.Tryz.underlying89
def Cv3:=@Go.Proofs.Tryz.underlying2
def Cw8:=@Go.Proofs.Tryz.underlying63
open Go.Rows
def jA_ (P:Program)(f:FuncId)(fn:Func)(s:ChangeSpec)(c:OpenClaim):Bool:= (c.wf (OpenSpec.ofChange s))&&(laidOutB P)&&(mapsRowed P)&&(fn.params.all (P.readableRec ·))&&(namedTie P c.named s.vars)&&(c.stops==[])&&(P.stops==[])&&(c.knobs==[])&&(P.stopKnobs==[])
def jB_ (P:Program)(f:FuncId)(fn:Func)(s:ChangeSpec)(c:OpenClaim):Bool:= (c.inPlace==P.inPlace f)&&(c.unfollowed==P.unfollowed f)
def jC_ (P:Program)(f:FuncId)(fn:Func)(s:ChangeSpec)(c:OpenClaim):Bool:= (c.recurses==P.recurses f)&&(c.named==P.varsNamed f)
def jD_ (P:Program)(f:FuncId)(fn:Func)(s:ChangeSpec)(c:OpenClaim):Bool:= (c.maps==(fn.params.toList++s.plain.varTypes P).any (P.mapsRec ·))&&(c.ifaces==(fn.params.toList++s.plain.varTypes P).any (P.ifacesRec ·))&&(c.mapsOut==P.mapsAmong fn.resultTypes.toList)&&(c.loops==(fn.params.toList++s.plain.varTypes P).any (P.loopsFrom ·))&&(c.wideKeys==(fn.params.toList++s.plain.varTypes P++fn.resultTypes.toList).any (P.wideKeysFrom ·))&&(s.vars.all (P.varReadable ·))&&(fn.resultTypes.all (λt=>P.readableRec t&&decide (t<P.types.size)))&&(c.ifacesOut==fn.resultTypes.toList.any (P.ifacesRec ·))&&(c.loopsOut==fn.resultTypes.toList.any (P.loopsFrom ·))&&(c.plainKeys==P.plainKeys)&&(c.shortTexts.isNone)
def jE_ (P:Program)(f:FuncId)(fn:Func)(s:ChangeSpec)(c:OpenClaim):Bool:= (P.stopsHeard)&&(P.mayEnter)
def jF_ (P:Program)(f:FuncId)(fn:Func)(s:ChangeSpec)(c:OpenClaim):Bool:=
 (c.lifted==P.liftsFinal)&&(P.make==some c.make)&&(c.kinds==(if c.domain.isEmpty then []else fn.params.toList.map λt=>match P.underlying t with|some (.int k)=>some k|_=>none))&&(c.pinned==c.pinnedBy)&&(c.veiled==(fn.params.toList++s.plain.varTypes P++fn.resultTypes.toList).any (P.veiledRec ·))&&(c.veiledFits P fn.params.toList (fn.params.toList++s.plain.varTypes P++fn.resultTypes.toList))
def Ba9 {P:Program}{f:FuncId}{fn:Func}{s:ChangeSpec}{c:OpenClaim}(h1:jA_ P f fn s c=true)(a:jB_ P f fn s c=true)(b:jC_ P f fn s c=true)(d:jD_ P f fn s c=true)(g:jE_ P f fn s c=true)(i:jF_ P f fn s c=true):joinedFacts P f fn s c=true:=by
 have:joinedFacts P f fn s c=(jA_ P f fn s c&&jB_ P f fn s c&&jC_ P f fn s c&&jD_ P f fn s c&&jE_ P f fn s c&&jF_ P f fn s c):=by simp only[joinedFacts,jA_,jB_,jC_,jD_,jE_,jF_,Bool.and_assoc];rfl
 rw[this,h1,a,b,d,g,i];rfl
open Go.RowKit Go.ChangeShapes Go.WideShapes Go.ChangeAt Go.Deep Go.Proofs Go.Proofs.YtpnbhddgjlobmaaGreatDoor
def Br9:Kids Tryz.prog (· < Tryz.prog.types.size):=kids_rows (by kernel_rfl) (by kernel_rfl)
theorem ZE {H:Type}:∀es:List (DataW H),Ap7 (es.map Rows.uptoBulk)=Rows.uptoBulkAll es
 |[]=>rfl
 |d::r=>by simp only[Ck3,Ad0,Rows.uptoBulkAll,ZE r]
def Bs0 {H:Type}:Bulk (H:=H) Rows.uptoBulk where
 int k n:=by simp[Rows.uptoBulk]
 bool b:=by simp[Rows.uptoBulk]
 str l:=by simp[Rows.uptoBulk]
 nil:=by simp[Rows.uptoBulk]
 slice es sp:=by grind[Rows.uptoBulk,ZE]
 agg ps:=by grind[Rows.uptoBulk,ZE]
section
variable {H:Type}{enc:TypeId×Value->H}{P:Program}{W:World}
def BK8 {v:Value}{x:PV}(a:v.cells.toList=[v])(h:CRep W v.cells.toList [x]):Yq W (λ_ _=>False) v x:=by
 have:=(h.2 0 (by simp)).1
 rw[a]at this
 grind
def Aq0 {cs:Array Value}{pvs:List PV}(h:CRep W (Value.agg cs).cells.toList pvs):Yq W (λ_ _=>False) (.agg cs) (.agg pvs):=by obtain⟨h1,a⟩:=h;have hc:(Value.agg cs).cells.toList=cs.toList:=rfl;rw[hc]at h1 a;have e:∀i,cs.toList.getD i undef=cs.getD i undef:=(by simp);exact .agg cs pvs (by omega) (by grind) (by grind)
end
def Bq7 {n:Int}(hw:(Lit.int .u32 n).wf=true):∃p:BitVec 32,n=(p.toNat:Int):=by
 simp only[Lit.wf,IntKind.min,IntKind.max,IntKind.signed,IntKind.bits,Ci6]at hw;refine⟨BitVec.ofNat 32 n.toNat,?_⟩;rw[Cw2];have a:0<=n:=by have:=hw.1;grind
 have h1:n<4294967296:=by have:=hw.2;grind
 rw[Co9 (by omega),Int.toNat_of_nonneg a]
def wf_u8 {n:Int}(h:(Lit.int .u8 n).wf=true):∃k:Nat,n=(k:Int)/\k<256:=by
 simp only[Lit.wf,IntKind.min,IntKind.max,IntKind.signed,IntKind.bits,Ci6]at h;have a:0<=n:=by have:=h.1;grind
 have h1:n<256:=by have:=h.2;grind
 exact⟨n.toNat,by omega,by omega⟩
def Ao9 {W:World}{name:String}{k:IntKind}{zs:List Int}{g:Nat}(a:Tryz.prog.globalNamed name=some g)(h:Lib.TabIs Tryz.prog W name k zs):∃t fr,W.heap[g]? = some (.cells (zs.map λz=>Value.int k z).toArray t fr):=by
 grind[Lib.TabIs,World.var?]
def Ap0 {g:Nat}{s:Global}(hs:Tryz.prog.globals[g]? = some s)(name:String)(i:Nat)(key:∀k:Fin Tryz.prog.globals.size,((Tryz.prog.globals[k.1]?.map λs=>s.name==name)==some true)=true->k.1=i)(hn:(s.name==name)=true):g=i:=by
 have a:g<Tryz.prog.globals.size:=(by grind);refine key ⟨g,a⟩ ?_
 grind
def BX2 {W:World}{l:List (String×DataW Unit)}(hp:(l.all λx=>x.2.handleName?.isNone)=true)
 (f:(l.filter λx=>x.1 == "math/bits.deBruijn64tab")=[("math/bits.deBruijn64tab",Lib.tabData .u8 (Lib.deBruijn64tab.map λ(n:Nat)=>(n:Int)))])
 (b:(l.filter λx=>x.1 == "internal/strconv.uint64pow10")=[("internal/strconv.uint64pow10",Lib.tabData .u64 Lib.pow10Tab)])
 (hL:laidMetH Tryz.prog l W):TabE Tryz.prog W (λ_ _=>False) (λ_=>False):=by
 rw[MakeChecks.laidMetH_plain _ _ _ hp]at hL;have c:=laidMet.filter (λx=>x.1 == "math/bits.deBruijn64tab") hL;have d:=laidMet.filter (λx=>x.1 == "internal/strconv.uint64pow10") hL;rw[f]at c;rw[b]at d;have t1:Lib.TabIs Tryz.prog W "math/bits.deBruijn64tab" .u8 (Lib.deBruijn64tab.map λ(n:Nat)=>(n:Int)):=
  Lib.tabIs_of_head (g:=3) (t:=(Tryz.prog.globals[3]?.map (·.type)).getD 0) (e:=(match Tryz.prog.underlying ((Tryz.prog.globals[3]?.map (·.type)).getD 0)with|some (.array _ e)=>e|_=>0)) (n:=64) (by kernel_rfl) (by simp) (by kernel_rfl) (by kernel_rfl) (by kernel_rfl) (by kernel_rfl) (rest:=[]) c
 have t2:Lib.TabIs Tryz.prog W "internal/strconv.uint64pow10" .u64 Lib.pow10Tab:=
  Lib.tabIs_of_head (g:=0) (t:=(Tryz.prog.globals[0]?.map (·.type)).getD 0) (e:=(match Tryz.prog.underlying ((Tryz.prog.globals[0]?.map (·.type)).getD 0)with|some (.array _ e)=>e|_=>0)) (n:=20) (by kernel_rfl) (by simp) (by kernel_rfl) (by kernel_rfl) (by kernel_rfl) (by kernel_rfl) (rest:=[]) d
 have i:Tryz.prog.globalNamed "math/bits.deBruijn64tab" = some 3:=by kernel_rfl
 have m:Tryz.prog.globalNamed "internal/strconv.uint64pow10" = some 0:=by kernel_rfl
 have q:TabX Tryz.prog W (λ_=>False):=by
  intro g s hs a;refine⟨?_,λh=>h⟩;unfold RN at a⊢;split at a
  .rename_i hn;obtain rfl:=Ap0 hs _ 3 (by decide +kernel) hn;obtain⟨t,fr,h⟩:=Ao9 i t1;rw[Kb hn]
   simp_all
  rename_i o;split at a
  .rename_i hn;obtain rfl:=Ap0 hs _ 0 (by decide +kernel) hn;obtain⟨t,fr,h⟩:=Ao9 m t2;rw[Kd o,Kb hn]
   grind
  grind
 refine⟨λg s j v hs r=>⟨?_,λh=>h⟩,q⟩;have a:RN s.name≠[]:=by grind
 obtain⟨⟨t,fr,h⟩,_⟩:=q g s hs a
 grind[World.cell?]
set_option maxRecDepth 100000
def Hj (x:Tr):Prop:=((Lit.int .u32 x.Plus).wf=true)/\((Lit.int .u32 x.Minus).wf=true)
def W9 (x:Tr):Nat:=1+1+1
def Ew:IC Tryz.prog A9 A0 Hj W9:=by intro m pvs h;obtain⟨m0,h,a⟩:=J9 Tryz.underlying88 h;obtain⟨a0,b0,p0,q0,rfl,b,h,c⟩:=B1 h;obtain⟨x0,l0,w0,s0⟩:=J2 Cr7 _ _ b;have s0:1<=a0:=s0;obtain⟨a1,b1,p1,q1,rfl,h1,h,d⟩:=B1 h;obtain⟨x1,l1,w1,s1⟩:=J2 Cr7 _ _ h1;have s1:1<=a1:=s1;obtain rfl:=Q8 h;exact⟨⟨x0,x1⟩,LeDs.append l0 (by grind),⟨w0,w1⟩,by grind[W9]⟩
def AN0 (x:F9):Prop:=(True)/\(Hj x.S)
def FK (x:F9):Nat:=(x.Af1.length+1)+W9 x.S+1
def AE3:IC Tryz.prog S1 H6 AN0 FK:=by intro m pvs h;obtain⟨m0,h,a⟩:=J9 Tryz.underlying101 h;obtain⟨a0,b0,p0,q0,rfl,b,h,c⟩:=B1 h;obtain⟨x0,l0,w0,s0⟩:=HI Cn5 _ _ b;have s0:(x0.length+1)<=a0:=s0;obtain⟨a1,b1,p1,q1,rfl,h1,h,d⟩:=B1 h;obtain⟨x1,l1,w1,s1⟩:=Ew _ _ h1;have s1:W9 x1<=a1:=s1;obtain rfl:=Q8 h;exact⟨⟨x0,x1⟩,LeDs.append l0 (by grind),⟨w0,w1⟩,by grind[FK]⟩
def Bq8 (x:GW):Prop:=(True)/\((Lit.int .u32 x.Clear).wf=true)/\(Hj x.Set)
def MZ (x:GW):Nat:=(x.Text.length+1)+1+W9 x.Set+1
def AZ7:IC Tryz.prog WS EN Bq8 MZ:=by intro m pvs h;obtain⟨m0,h,a⟩:=J9 Tryz.underlying222 h;obtain⟨a0,b0,p0,q0,rfl,b,h,c⟩:=B1 h;obtain⟨x0,l0,w0,s0⟩:=HI Cn5 _ _ b;have s0:(x0.length+1)<=a0:=s0;obtain⟨a1,b1,p1,q1,rfl,h1,h,d⟩:=B1 h;obtain⟨x1,l1,w1,s1⟩:=J2 Cr7 _ _ h1;have s1:1<=a1:=s1;obtain⟨a2,b2,p2,q2,rfl,f,h,g⟩:=B1 h;obtain⟨x2,l2,w2,s2⟩:=Ew _ _ f;have s2:W9 x2<=a2:=s2;obtain rfl:=Q8 h;exact⟨⟨x0,x1,x2⟩,LeDs.append l0 (LeDs.append l1 (by grind)),⟨w0,w1,w2⟩,by grind[MZ]⟩
def Bq9 (x:Node):Prop:=((Lit.int .i64 x.Yx).wf=true)/\(True)
def KS (x:Node):Nat:=1+(x.Name.length+1)+1
def AZ8:IC Tryz.prog Y4 F1 Bq9 KS:=by intro m pvs h;obtain⟨m0,h,a⟩:=J9 Tryz.underlying125 h;obtain⟨a0,b0,p0,q0,rfl,b,h,c⟩:=B1 h;obtain⟨x0,l0,w0,s0⟩:=J2 Ck2 _ _ b;have s0:1<=a0:=s0;obtain⟨a1,b1,p1,q1,rfl,h1,h,d⟩:=B1 h;obtain⟨x1,l1,w1,s1⟩:=HI Cn5 _ _ h1;have s1:(x1.length+1)<=a1:=s1;obtain rfl:=Q8 h;exact⟨⟨x0,x1⟩,LeDs.append l0 (by grind),⟨w0,w1⟩,by grind[KS]⟩
def Xp {x:Tr}(h:Hj x):okS x:=by obtain⟨p,hp⟩:=Bq7 h.1;obtain⟨q,a⟩:=Bq7 h.2;exact⟨p,q,by cases x;grind⟩
abbrev AN1 (x:Pat):Prop:=okPS x
abbrev Ap1 (x:Pat):Nat:=1
def Ap2:IC Tryz.prog HQ C5 AN1 Ap1:=by
 intro m
 induction m using Nat.strongRecOn with
 |ind m ih=>
 intro pvs h;obtain⟨m0,h,d⟩:=J9 Tryz.underlying91 h;obtain⟨a0,b0,p0,q0,rfl,j,h,l⟩:=B1 h;obtain⟨x0,l0,w0,s0⟩:=J2 Ck2 _ _ j;have s0:1<=a0:=s0;obtain⟨a1,b1,p1,q1,rfl,h1,h,o⟩:=B1 h;obtain⟨x1,l1,w1,s1⟩:=Ew _ _ h1;have s1:W9 x1<=a1:=s1;obtain⟨a2,b2,p2,q2,rfl,q,h,r⟩:=B1 h;obtain⟨x2,l2,w2,s2⟩:=Wj Cp7 _ _ q;have s2:1<=a2:=s2;obtain⟨a3,b3,p3,q3,rfl,s,h,t⟩:=B1 h;obtain⟨x3,l3,w3,s3⟩:=J2 Ck2 _ _ s;have s3:1<=a3:=s3;obtain⟨a4,b4,p4,q4,rfl,u,h,v⟩:=B1 h;obtain⟨x4,l4,w4,s4⟩:=J2 Ck2 _ _ u;have s4:1<=a4:=s4;obtain⟨a5,b5,p5,q5,rfl,w,h,y⟩:=B1 h;obtain rfl:=Q8 h;have a:Tryz.prog.cellsOf 91=7:=by kernel_rfl
 cases w with
 |int ht'=>rw[Cr8]at ht';cases ht'
 |bool ht'=>rw[Cr8]at ht';cases ht'
 |str ht'=>rw[Cr8]at ht';cases ht'
 |struct ht'=>rw[Cr8]at ht';cases ht'
 |arr ht'=>rw[Cr8]at ht';cases ht'
 | @slice _ _ e' n f ms ht' hl hel hm=>rw[Cr8]at ht';cases ht';rw[a];rw[Wi]at hm;obtain⟨g,c⟩:=choose_lt (α:=Pat) (p:=λi x=>LeDs (f i) (C5 x)/\AN1 x/\1<=ms i) λi b=>ih (ms i) (by have:=JP ms b;omega) _ (hel i b);exact⟨.mk x0 x1 x2 x3 x4 n g,LeDs.append l0 (LeDs.append l1 (LeDs.append l2 (LeDs.append l3 (LeDs.append l4 (.cons (.sl λi b=>(c i b).1) .nil))))),⟨Xp w1,λi b=>(c i b).2.1⟩,by show 1<=m;omega⟩
def AE4 (x:EM):Prop:=((Lit.int .i64 x.From).wf=true)/\((Lit.int .u32 x.Clear).wf=true)/\(Hj x.Set)/\((Lit.int .u32 x.Take).wf=true)/\((Lit.int .i64 x.Of).wf=true)
def PA (x:EM):Nat:=1+1+W9 x.Set+1+1+1
def AZ9:IC Tryz.prog Bi8 Dj AE4 PA:=by intro m pvs h;obtain⟨m0,h,a⟩:=J9 Tryz.underlying151 h;obtain⟨a0,b0,p0,q0,rfl,b,h,c⟩:=B1 h;obtain⟨x0,l0,w0,s0⟩:=J2 Ck2 _ _ b;have s0:1<=a0:=s0;obtain⟨a1,b1,p1,q1,rfl,h1,h,d⟩:=B1 h;obtain⟨x1,l1,w1,s1⟩:=J2 Cr7 _ _ h1;have s1:1<=a1:=s1;obtain⟨a2,b2,p2,q2,rfl,f,h,g⟩:=B1 h;obtain⟨x2,l2,w2,s2⟩:=Ew _ _ f;have s2:W9 x2<=a2:=s2;obtain⟨a3,b3,p3,q3,rfl,i,h,j⟩:=B1 h;obtain⟨x3,l3,w3,s3⟩:=J2 Cr7 _ _ i;have s3:1<=a3:=s3;obtain⟨a4,b4,p4,q4,rfl,l,h,n⟩:=B1 h;obtain⟨x4,l4,w4,s4⟩:=J2 Ck2 _ _ l;have s4:1<=a4:=s4;obtain rfl:=Q8 h;exact⟨⟨x0,x1,x2,x3,x4⟩,LeDs.append l0 (LeDs.append l1 (LeDs.append l2 (LeDs.append l3 (by grind)))),⟨w0,w1,w2,w3,w4⟩,by grind[PA]⟩
def AN2 (x:Law):Prop:=(True)/\(AN1 x.Left)/\(AN1 x.Right)/\(∀i,i<x.If.n->Hj (x.If.g i))/\(∀i,i<x.Out.n->AE4 (x.Out.g i))/\((Lit.int .i64 x.Mode).wf=true)
def OJ (x:Law):Nat:=(x.Name.length+1)+Ap1 x.Left+Ap1 x.Right+(Fk (λi=>W9 (x.If.g i)) x.If.n+1)+(Fk (λi=>PA (x.Out.g i)) x.Out.n+1)+1+1
def Br0:IC Tryz.prog H7 B7 AN2 OJ:=by intro m pvs h;obtain⟨m0,h,a⟩:=J9 Tryz.underlying94 h;obtain⟨a0,b0,p0,q0,rfl,b,h,c⟩:=B1 h;obtain⟨x0,l0,w0,s0⟩:=HI Cn5 _ _ b;have s0:(x0.length+1)<=a0:=s0;obtain⟨a1,b1,p1,q1,rfl,h1,h,d⟩:=B1 h;obtain⟨x1,l1,w1,s1⟩:=Ap2 _ _ h1;have s1:Ap1 x1<=a1:=s1;obtain⟨a2,b2,p2,q2,rfl,f,h,j⟩:=B1 h;obtain⟨x2,l2,w2,s2⟩:=Ap2 _ _ f;have s2:Ap1 x2<=a2:=s2;obtain⟨a3,b3,p3,q3,rfl,l,h,o⟩:=B1 h;obtain⟨x3,l3,w3,s3⟩:=M1 Cw8 (by kernel_rfl) Ew _ _ l;have s3:(Fk (λi=>W9 (x3.g i)) x3.n+1)<=a3:=s3;obtain⟨a4,b4,p4,q4,rfl,q,h,r⟩:=B1 h;obtain⟨x4,l4,w4,s4⟩:=M1 Tryz.underlying92 (by kernel_rfl) AZ9 _ _ q;have s4:(Fk (λi=>PA (x4.g i)) x4.n+1)<=a4:=s4;obtain⟨a5,b5,p5,q5,rfl,s,h,t⟩:=B1 h;obtain⟨x5,l5,w5,s5⟩:=J2 Ck2 _ _ s;have s5:1<=a5:=s5;obtain rfl:=Q8 h;exact⟨⟨x0,x1,x2,x3,x4,x5⟩,LeDs.append l0 (LeDs.append l1 (LeDs.append l2 (LeDs.append l3 (LeDs.append l4 (by grind))))),⟨w0,w1,w2,w3,w4,w5⟩,by grind[OJ]⟩
def PB (x:Yv):Prop:=(∀i,i<x.Tree.n->Bq9 (x.Tree.g i))/\(∀i,i<x.Laws.n->AN2 (x.Laws.g i))/\(∀i,i<x.On.n->∀i',i' < (x.On.g i).n->(Lit.int .i64 ((x.On.g i).g i')).wf=true)
def FX (x:Yv):Nat:=(Fk (λi=>KS (x.Tree.g i)) x.Tree.n+1)+(Fk (λi=>OJ (x.Laws.g i)) x.Laws.n+1)+(Fk (λi=>Fk (λi=>1) (x.On.g i).n+1) x.On.n+1)+1
def ZF:IC Tryz.prog YQ B0 PB FX:=by intro m pvs h;obtain⟨m0,h,a⟩:=J9 Tryz.underlying29 h;obtain⟨a0,b0,p0,q0,rfl,b,h,c⟩:=B1 h;obtain⟨x0,l0,w0,s0⟩:=M1 Tryz.underlying25 (by kernel_rfl) AZ8 _ _ b;have s0:(Fk (λi=>KS (x0.g i)) x0.n+1)<=a0:=s0;obtain⟨a1,b1,p1,q1,rfl,h1,h,d⟩:=B1 h;obtain⟨x1,l1,w1,s1⟩:=M1 Tryz.underlying26 (by kernel_rfl) Br0 _ _ h1;have s1:(Fk (λi=>OJ (x1.g i)) x1.n+1)<=a1:=s1;obtain⟨a2,b2,p2,q2,rfl,f,h,j⟩:=B1 h;obtain⟨x2,l2,w2,s2⟩:=M1 Tryz.underlying27 (by kernel_rfl) (M1 Tryz.underlying85 (by kernel_rfl) (J2 Ck2)) _ _ f;have s2:(Fk (λi=>Fk (λi=>1) (x2.g i).n+1) x2.n+1)<=a2:=s2;obtain rfl:=Q8 h;exact⟨⟨x0,x1,x2⟩,LeDs.append l0 (LeDs.append l1 (LeDs.append l2 LeDs.nil)),⟨w0,w1,w2⟩,by grind[FX]⟩
def ZG (x:N0):Prop:=(True)/\(∀i,i<x.W.n->Hj (x.W.g i))
def Jb (x:N0):Nat:=1+(Fk (λi=>W9 (x.W.g i)) x.W.n+1)+1
def Xq:IC Tryz.prog Lf I5 ZG Jb:=by intro m pvs h;obtain⟨m0,h,a⟩:=J9 Tryz.underlying74 h;obtain⟨a0,b0,p0,q0,rfl,b,h,c⟩:=B1 h;obtain⟨x0,l0,w0,s0⟩:=Wj Cp7 _ _ b;have s0:1<=a0:=s0;obtain⟨a1,b1,p1,q1,rfl,h1,h,d⟩:=B1 h;obtain⟨x1,l1,w1,s1⟩:=M1 Cw8 (by kernel_rfl) Ew _ _ h1;have s1:(Fk (λi=>W9 (x1.g i)) x1.n+1)<=a1:=s1;obtain rfl:=Q8 h;exact⟨⟨x0,x1⟩,LeDs.append l0 (LeDs.append l1 LeDs.nil),⟨w0,w1⟩,by grind[Jb]⟩
def ZH (x:Z1):Prop:=(True)/\(∀i,i<x.Yz.n->ZG (x.Yz.g i))
def FL (x:Z1):Nat:=(x.Gloss.length+1)+(Fk (λi=>Jb (x.Yz.g i)) x.Yz.n+1)+1
def AE5:IC Tryz.prog Ay3 N8 ZH FL:=by intro m pvs h;obtain⟨m0,h,a⟩:=J9 Tryz.underlying54 h;obtain⟨a0,b0,p0,q0,rfl,b,h,c⟩:=B1 h;obtain⟨x0,l0,w0,s0⟩:=HI Cn5 _ _ b;have s0:(x0.length+1)<=a0:=s0;obtain⟨a1,b1,p1,q1,rfl,h1,h,d⟩:=B1 h;obtain⟨x1,l1,w1,s1⟩:=M1 Tryz.underlying30 (by kernel_rfl) Xq _ _ h1;have s1:(Fk (λi=>Jb (x1.g i)) x1.n+1)<=a1:=s1;obtain rfl:=Q8 h;exact⟨⟨x0,x1⟩,LeDs.append l0 (LeDs.append l1 LeDs.nil),⟨w0,w1⟩,by grind[FL]⟩
def Xr (x:A8):Prop:=(∀i,i<x.Feats.n->True)/\(∀i,i<x.Sounds.n->AN0 (x.Sounds.g i))/\(∀i,i<x.Marks.n->Bq8 (x.Marks.g i))/\(PB x.Yv)/\(∀i,i<x.Yu.n->ZG (x.Yu.g i))/\(∀i,i<x.Yy.n->ZH (x.Yy.g i))
def Hz (x:A8):Nat:=(Fk (λi=>(x.Feats.g i).length+1) x.Feats.n+1)+(Fk (λi=>FK (x.Sounds.g i)) x.Sounds.n+1)+(Fk (λi=>MZ (x.Marks.g i)) x.Marks.n+1)+FX x.Yv+(Fk (λi=>Jb (x.Yu.g i)) x.Yu.n+1)+(Fk (λi=>FL (x.Yy.g i)) x.Yy.n+1)+1
def Xt:IC Tryz.prog YR B2 Xr Hz:=by intro m pvs h;obtain⟨m0,h,a⟩:=J9 Tryz.underlying33 h;obtain⟨a0,b0,p0,q0,rfl,b,h,c⟩:=B1 h;obtain⟨x0,l0,w0,s0⟩:=M1 Tryz.underlying22 (by kernel_rfl) (HI Cn5) _ _ b;have s0:(Fk (λi=>(x0.g i).length+1) x0.n+1)<=a0:=s0;obtain⟨a1,b1,p1,q1,rfl,h1,h,d⟩:=B1 h;obtain⟨x1,l1,w1,s1⟩:=M1 Tryz.underlying23 (by kernel_rfl) AE3 _ _ h1;have s1:(Fk (λi=>FK (x1.g i)) x1.n+1)<=a1:=s1;obtain⟨a2,b2,p2,q2,rfl,f,h,j⟩:=B1 h;obtain⟨x2,l2,w2,s2⟩:=M1 Tryz.underlying24 (by kernel_rfl) AZ7 _ _ f;have s2:(Fk (λi=>MZ (x2.g i)) x2.n+1)<=a2:=s2;obtain⟨a3,b3,p3,q3,rfl,l,h,o⟩:=B1 h;obtain⟨x3,l3,w3,s3⟩:=ZF _ _ l;have s3:FX x3<=a3:=s3;obtain⟨a4,b4,p4,q4,rfl,q,h,r⟩:=B1 h;obtain⟨x4,l4,w4,s4⟩:=M1 Tryz.underlying30 (by kernel_rfl) Xq _ _ q;have s4:(Fk (λi=>Jb (x4.g i)) x4.n+1)<=a4:=s4;obtain⟨a5,b5,p5,q5,rfl,s,h,t⟩:=B1 h;obtain⟨x5,l5,w5,s5⟩:=M1 Tryz.underlying31 (by kernel_rfl) AE5 _ _ s;have s5:(Fk (λi=>FL (x5.g i)) x5.n+1)<=a5:=s5;obtain rfl:=Q8 h;exact⟨⟨x0,x1,x2,x3,x4,x5⟩,LeDs.append l0 (LeDs.append l1 (LeDs.append l2 (LeDs.append l3 (LeDs.append l4 (LeDs.append l5 LeDs.nil))))),⟨w0,w1,w2,w3,w4,w5⟩,by simp only[Hz];omega⟩
def QE (x:A5):Prop:=((Lit.int .i64 x.Z1).wf=true)/\((Lit.int .i64 x.Ys).wf=true)/\((Lit.int .i64 x.Kind).wf=true)/\((Lit.int .i64 x.Cost).wf=true)
def Hk (x:A5):Nat:=1+1+1+1+1
def Un:IC Tryz.prog K7 B9 QE Hk:=by intro m pvs h;obtain⟨m0,h,a⟩:=J9 Tryz.underlying67 h;obtain⟨a0,b0,p0,q0,rfl,b,h,c⟩:=B1 h;obtain⟨x0,l0,w0,s0⟩:=J2 Ck2 _ _ b;have s0:1<=a0:=s0;obtain⟨a1,b1,p1,q1,rfl,h1,h,d⟩:=B1 h;obtain⟨x1,l1,w1,s1⟩:=J2 Ck2 _ _ h1;have s1:1<=a1:=s1;obtain⟨a2,b2,p2,q2,rfl,f,h,g⟩:=B1 h;obtain⟨x2,l2,w2,s2⟩:=J2 Ck2 _ _ f;have s2:1<=a2:=s2;obtain⟨a3,b3,p3,q3,rfl,i,h,j⟩:=B1 h;obtain⟨x3,l3,w3,s3⟩:=J2 Cv3 _ _ i;have s3:1<=a3:=s3;obtain rfl:=Q8 h;exact⟨⟨x0,x1,x2,x3⟩,LeDs.append l0 (LeDs.append l1 (LeDs.append l2 (LeDs.append l3 LeDs.nil))),⟨w0,w1,w2,w3⟩,by simp only[Hk];omega⟩
def Br1 (x:Br):Prop:=((Lit.int .i64 x.Node).wf=true)/\((Lit.int .i64 x.Place).wf=true)/\((Lit.int .i64 x.Z1).wf=true)/\((Lit.int .i64 x.Ys).wf=true)
def Rr (x:Br):Nat:=1+1+1+1+1
def VA:IC Tryz.prog Bv N1 Br1 Rr:=by intro m pvs h;obtain⟨m0,h,a⟩:=J9 Tryz.underlying39 h;obtain⟨a0,b0,p0,q0,rfl,b,h,c⟩:=B1 h;obtain⟨x0,l0,w0,s0⟩:=J2 Ck2 _ _ b;have s0:1<=a0:=s0;obtain⟨a1,b1,p1,q1,rfl,h1,h,d⟩:=B1 h;obtain⟨x1,l1,w1,s1⟩:=J2 Ck2 _ _ h1;have s1:1<=a1:=s1;obtain⟨a2,b2,p2,q2,rfl,f,h,g⟩:=B1 h;obtain⟨x2,l2,w2,s2⟩:=J2 Ck2 _ _ f;have s2:1<=a2:=s2;obtain⟨a3,b3,p3,q3,rfl,i,h,j⟩:=B1 h;obtain⟨x3,l3,w3,s3⟩:=J2 Ck2 _ _ i;have s3:1<=a3:=s3;obtain rfl:=Q8 h;exact⟨⟨x0,x1,x2,x3⟩,LeDs.append l0 (LeDs.append l1 (LeDs.append l2 (LeDs.append l3 LeDs.nil))),⟨w0,w1,w2,w3⟩,by simp only[Rr];omega⟩
def BF2 (x:Z9):Prop:=(∀i,i<x.Bad.n->QE (x.Bad.g i))/\(∀i,i<x.Yw.n->Br1 (x.Yw.g i))
def Xu (x:Z9):Nat:=(Fk (λi=>Hk (x.Bad.g i)) x.Bad.n+1)+(Fk (λi=>Rr (x.Yw.g i)) x.Yw.n+1)+1
def Aq1:IC Tryz.prog Ay2 Dv BF2 Xu:=by intro m pvs h;obtain⟨m0,h,a⟩:=J9 Tryz.underlying37 h;obtain⟨a0,b0,p0,q0,rfl,b,h,c⟩:=B1 h;obtain⟨x0,l0,w0,s0⟩:=M1 Tryz.underlying34 (by kernel_rfl) Un _ _ b;have s0:(Fk (λi=>Hk (x0.g i)) x0.n+1)<=a0:=s0;obtain⟨a1,b1,p1,q1,rfl,h1,h,d⟩:=B1 h;obtain⟨x1,l1,w1,s1⟩:=M1 Tryz.underlying35 (by kernel_rfl) VA _ _ h1;have s1:(Fk (λi=>Rr (x1.g i)) x1.n+1)<=a1:=s1;obtain rfl:=Q8 h;exact⟨⟨x0,x1⟩,LeDs.append l0 (LeDs.append l1 LeDs.nil),⟨w0,w1⟩,by simp only[Xu];omega⟩
def Uo {f:Nat->Nat}(h:∀i,1<=f i):∀n,n<=Fk f n
 |0=>Cr0 _
 |n+1=>by
  have:=Uo h n
  have:=h n
  grind[Fk]
def Cg1 {x:EM}(h:AE4 x):okO x:=⟨Xp h.2.2.1,Bq7 h.2.1,Bq7 h.2.2.2.1⟩
def BF3 {l:Law}(h:AN2 l)(hs:OJ l<=1048576):Vw l:=by obtain⟨_,h1,b,c,d,_⟩:=h;unfold OJ at hs;have g1:=Uo (f:=λi=>W9 (l.If.g i)) (λi=>by grind[W9]) l.If.n;have g2:=Uo (f:=λi=>PA (l.Out.g i)) (λi=>by grind[PA]) l.Out.n;exact⟨⟨h1,b,λi a=>Xp (c i a)⟩,by omega,by omega,by omega,λi a=>Cg1 (d i a)⟩
def Br2 {x:Sl Law}(h:∀i,i<x.n->AN2 (x.g i))(hs:Fk (λi=>OJ (x.g i)) x.n+1<=1048576):Xh x:=λi a=>
 BF3 (h i a) (by have:=JP (λi=>OJ (x.g i)) a;have this:OJ (x.g i)<=_:=this;omega)
def Cg2 {x:Sl Tr}(h:∀i,i<x.n->Hj (x.g i)):okA x:=λi a=>Xp (h i a)
def Br3 {h:Yv}(w:PB h)(hs:FX h<=1048576):P8 h:=by
 unfold FX at hs;have g:=Uo (f:=λi=>Fk (λi=>1) (h.On.g i).n+1) (λi=>by omega) h.On.n;refine⟨Br2 w.2.1 (by omega),λv a=>?_,by omega,λv a=>?_⟩
 .have:=JP (λi=>KS (h.Tree.g i)) a
  have this:KS (h.Tree.g v)<=Fk (λi=>KS (h.Tree.g i)) h.Tree.n:=this;have e:KS (h.Tree.g v)=1+((h.Tree.g v).Name.length+1)+1:=rfl;omega
 have g2:=JP (λi=>Fk (λi=>1) (h.On.g i).n+1) a;have g2:Fk (λi=>1) (h.On.g v).n+1<=_:=g2;have g3:=Uo (f:=λ_=>1) (λi=>by omega) (h.On.g v).n;omega
def Xs {x:Sl N0}(h:∀i,i<x.n->ZG (x.g i)):IX x:=λi a=>Cg2 (h i a).2
def BK7 {x:Sl Z1}(h:∀i,i<x.n->ZH (x.g i))(hs:Fk (λi=>FL (x.g i)) x.n+1<=1048576){i:Nat}(a:i<x.n):(IX (x.g i).Yz/\(x.g i).Gloss.length<1100000)/\(x.g i).Yz.n<1100000:=by have g:=JP (λi=>FL (x.g i)) a;have g:FL (x.g i)<=Fk (λi=>FL (x.g i)) x.n:=g;have e:FL (x.g i)=((x.g i).Gloss.length+1)+(Fk (λi'=>Jb ((x.g i).Yz.g i')) (x.g i).Yz.n+1)+1:=rfl;have g1:=Uo (f:=λi'=>Jb ((x.g i).Yz.g i')) (λi=>by grind[Jb]) (x.g i).Yz.n;exact⟨⟨Xs (h i a).2,by omega⟩,by omega⟩
def AE6 {p:A8}(w:Xr p)(hs:Hz p<=1048576):MW p/\∀i,i<p.Yy.n->(p.Yy.g i).Yz.n<1100000:=by
 unfold Hz at hs;obtain⟨w1,w2,w3,w4,w5,w6⟩:=w;have gs:=Uo (f:=λi=>FK (p.Sounds.g i)) (λi=>by grind[FK]) p.Sounds.n;refine⟨⟨λi d=>?_,λi d=>⟨Xp (w2 i d).2,?_⟩,by omega,λi d=>?_,Br3 w4 (by omega),Xs w5,λi d=>(BK7 w6 (by omega) d).1⟩,λi d=>(BK7 w6 (by omega) d).2⟩
 .have g:=JP (λi=>(p.Feats.g i).length+1) d;have g:(p.Feats.g i).length+1<=_:=g;omega
 .have g:=JP (λi=>FK (p.Sounds.g i)) d;have g:FK (p.Sounds.g i)<=_:=g;have e:FK (p.Sounds.g i)=((p.Sounds.g i).Af1.length+1)+W9 (p.Sounds.g i).S+1:=rfl;omega
 obtain⟨m1,m2,m3⟩:=w3 i d;obtain⟨a,b,e1⟩:=Xp m3;obtain⟨c,e2⟩:=Bq7 m2;have g:=JP (λi=>MZ (p.Marks.g i)) d;have g:MZ (p.Marks.g i)<=_:=g;have e:MZ (p.Marks.g i)=((p.Marks.g i).Text.length+1)+1+W9 (p.Marks.g i).Set+1:=rfl;exact⟨a,b,c,e1,e2,by omega⟩
end Go.AM
