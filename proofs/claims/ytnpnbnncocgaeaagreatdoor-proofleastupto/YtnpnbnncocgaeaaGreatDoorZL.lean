/- Part 12. -/
import Derived.JoinedOf
import Derived.Test.YtnpnbnncocgaeaaGreatDoorZE
import Derived.Test.YtnpnbnncocgaeaaGreatDoorZF
import Derived.Test.YtnpnbnncocgaeaaGreatDoorCards
import Derived.Test.YtnpnbnncocgaeaaGreatDoorTie
import Derived.WalkKit
import Derived.ProofKit
import Derived.OpenShut
import Derived.Deep.DeepHandedRow
import Derived.MakeChecks
import Derived.Lib.LaidTab
import Derived.LaidSub
import Derived.Test.YtnpnbnncocgaeaaGreatDoorZJ
import Derived.Test.YtnpnbnncocgaeaaGreatDoorZK
set_option linter.defProp false
set_option linter.unusedSimpArgs false
set_option linter.unusedVariables false
set_option linter.unusedSectionVars false
namespace Go.AM
def BW2:=@Go.Proofs.Tryz.underlying3
def BY7:=@Go.Proofs.Tryz.underlying9
def Ca9:=@Go.Proofs.Tryz.underlying4
def Cc5:=@Go.Proofs.Tryz.underlying76
def Cc6:=@Go.Proofs.Tryz.underlying79
def Cg2:=@Go.Proofs.Tryz.underlying37
open Go.Rows
def jA_ (P:Program)(f:FuncId)(fn:Func)(s:ChangeSpec)(c:OpenClaim):Bool:= (c.wf (OpenSpec.ofChange s))&&(laidOutB P)&&(mapsRowed P)&&(fn.params.all (P.readableRec ·))&&(namedTie P c.named s.vars)&&(c.stops==[])&&(P.stops==[])&&(c.knobs==[])&&(P.stopKnobs==[])
def jB_ (P:Program)(f:FuncId)(fn:Func)(s:ChangeSpec)(c:OpenClaim):Bool:= (c.inPlace==P.inPlace f)&&(c.unfollowed==P.unfollowed f)
def jC_ (P:Program)(f:FuncId)(fn:Func)(s:ChangeSpec)(c:OpenClaim):Bool:= (c.recurses==P.recurses f)&&(c.named==P.varsNamed f)
def jD_ (P:Program)(f:FuncId)(fn:Func)(s:ChangeSpec)(c:OpenClaim):Bool:= (c.maps==(fn.params.toList++s.plain.varTypes P).any (P.mapsRec ·))&&(c.ifaces==(fn.params.toList++s.plain.varTypes P).any (P.ifacesRec ·))&&(c.mapsOut==P.mapsAmong fn.resultTypes.toList)&&(c.loops==(fn.params.toList++s.plain.varTypes P).any (P.loopsFrom ·))&&(c.wideKeys==(fn.params.toList++s.plain.varTypes P++fn.resultTypes.toList).any (P.wideKeysFrom ·))&&(s.vars.all (P.varReadable ·))&&(fn.resultTypes.all (λt=>P.readableRec t&&decide (t<P.types.size)))&&(c.ifacesOut==fn.resultTypes.toList.any (P.ifacesRec ·))&&(c.loopsOut==fn.resultTypes.toList.any (P.loopsFrom ·))&&(c.plainKeys==P.plainKeys)&&(c.shortTexts.isNone)
def jE_ (P:Program)(f:FuncId)(fn:Func)(s:ChangeSpec)(c:OpenClaim):Bool:= (P.stopsHeard)&&(P.mayEnter)
def jF_ (P:Program)(f:FuncId)(fn:Func)(s:ChangeSpec)(c:OpenClaim):Bool:=
 (c.lifted==P.liftsFinal)&&(P.make==some c.make)&&(c.kinds==(if c.domain.isEmpty then []else fn.params.toList.map λt=>match P.underlying t with|some (.int k)=>some k|_=>none))&&(c.pinned==c.pinnedBy)&&(c.veiled==(fn.params.toList++s.plain.varTypes P++fn.resultTypes.toList).any (P.veiledRec ·))&&(c.veiledFits P fn.params.toList (fn.params.toList++s.plain.varTypes P++fn.resultTypes.toList))
def AP4 {P:Program}{f:FuncId}{fn:Func}{s:ChangeSpec}{c:OpenClaim}(h1:jA_ P f fn s c=true)(a:jB_ P f fn s c=true)(b:jC_ P f fn s c=true)(d:jD_ P f fn s c=true)(g:jE_ P f fn s c=true)(i:jF_ P f fn s c=true):joinedFacts P f fn s c=true:=by
 have:joinedFacts P f fn s c=(jA_ P f fn s c&&jB_ P f fn s c&&jC_ P f fn s c&&jD_ P f fn s c&&jE_ P f fn s c&&jF_ P f fn s c):=by simp only[joinedFacts,jA_,jB_,jC_,jD_,jE_,jF_,Bool.and_assoc];rfl
 rw[this,h1,a,b,d,g,i];rfl
open Go.RowKit Go.ChangeShapes Go.WideShapes Go.ChangeAt Go.Deep Go.Proofs Go.Proofs.YtnpnbnncocgaeaaGreatDoor
def Be7:Kids Tryz.prog (· < Tryz.prog.types.size):=kids_rows (by kernel_rfl) (by kernel_rfl)
def Ym {H:Type}:∀es:List (DataW H),Ai3 (es.map Rows.uptoBulk)=Rows.uptoBulkAll es
 |[]=>rfl
 |d::r=>by simp only[BU9,Zl,Rows.uptoBulkAll,Ym r]
def Be8 {H:Type}:Bulk (H:=H) Rows.uptoBulk where
 int k n:=by simp[Rows.uptoBulk]
 bool b:=by simp[Rows.uptoBulk]
 str l:=by simp[Rows.uptoBulk]
 nil:=by simp[Rows.uptoBulk]
 slice es sp:=by simp only[Rows.uptoBulk,Ym];omega
 agg ps:=by simp only[Rows.uptoBulk,Ym];omega
section
variable {H:Type}{enc:TypeId×Value->H}{P:Program}{W:World}
def Ai6 {v:Value}{x:PV}(a:v.cells.toList=[v])(h:CRep W v.cells.toList [x]):Sb W (λ_ _=>False) v x:=by
 have:=(h.2 0 (by simp)).1
 rw[a]at this;exact this
def Bw2 {cs:Array Value}{pvs:List PV}(h:CRep W (Value.agg cs).cells.toList pvs):Sb W (λ_ _=>False) (.agg cs) (.agg pvs):=by
 obtain⟨h1,a⟩:=h;have hc:(Value.agg cs).cells.toList=cs.toList:=rfl;rw[hc]at h1 a;have e:∀i,cs.toList.getD i undef=cs.getD i undef:=λi=>by simp[BT0,BT3]
 exact .agg cs pvs (by simpa using h1) (λi b=>by rw[<- e];exact (a i b).2) λi b=>by rw[<- e];exact (a i b).1
end
def Bd7 {n:Int}(hw:(Lit.int .u32 n).wf=true):∃p:BitVec 32,n=(p.toNat:Int):=by
 simp only[Lit.wf,IntKind.min,IntKind.max,IntKind.signed,IntKind.bits,BT5,Je]at hw;refine⟨BitVec.ofNat 32 n.toNat,?_⟩;rw[Ch1];have a:0<=n:=by have:=hw.1;simpa using this
 have h1:n<4294967296:=by have:=hw.2;simp at this;omega
 rw[BZ8 (by omega),Int.toNat_of_nonneg a]
def Ah4 {W:World}{name:String}{k:IntKind}{zs:List Int}{g:Nat}(a:Tryz.prog.globalNamed name=some g)(h:Lib.TabIs Tryz.prog W name k zs):∃t fr,W.heap[g]? = some (.cells (zs.map λz=>Value.int k z).toArray t fr):=by
 unfold Lib.TabIs World.var? at h;rw[a]at h;simp only[BT1]at h;split at h
 .rename_i cs t fr b;cases h;exact⟨_,_,b⟩
 cases h
def Ah5 {g:Nat}{s:Global}(hs:Tryz.prog.globals[g]? = some s)(name:String)(i:Nat)(key:∀k:Fin Tryz.prog.globals.size,((Tryz.prog.globals[k.1]?.map λs=>s.name==name)==some true)=true->k.1=i)(hn:(s.name==name)=true):g=i:=by have a:g<Tryz.prog.globals.size:=(BV3.1 hs).1;refine key ⟨g,a⟩ ?_;simp[hs,hn]
def BI4 {W:World}{l:List (String×DataW Unit)}(hp:(l.all λx=>x.2.handleName?.isNone)=true)
 (f:(l.filter λx=>x.1 == "math/bits.deBruijn64tab")=[("math/bits.deBruijn64tab",Lib.tabData .u8 (Lib.deBruijn64tab.map λ(n:Nat)=>(n:Int)))])
 (b:(l.filter λx=>x.1 == "internal/strconv.uint64pow10")=[("internal/strconv.uint64pow10",Lib.tabData .u64 Lib.pow10Tab)])
 (hL:laidMetH Tryz.prog l W):TabE Tryz.prog W (λ_ _=>False) (λ_=>False):=by
 rw[MakeChecks.laidMetH_plain _ _ _ hp]at hL;have c:=laidMet.filter (λx=>x.1 == "math/bits.deBruijn64tab") hL;have d:=laidMet.filter (λx=>x.1 == "internal/strconv.uint64pow10") hL;rw[f]at c;rw[b]at d;have t1:Lib.TabIs Tryz.prog W "math/bits.deBruijn64tab" .u8 (Lib.deBruijn64tab.map λ(n:Nat)=>(n:Int)):=
  Lib.tabIs_of_head (g:=3) (t:=(Tryz.prog.globals[3]?.map (·.type)).getD 0) (e:=(match Tryz.prog.underlying ((Tryz.prog.globals[3]?.map (·.type)).getD 0)with|some (.array _ e)=>e|_=>0)) (n:=64) (by kernel_rfl) (by kernel_rfl) (by kernel_rfl) (by kernel_rfl) (by kernel_rfl) (by kernel_rfl) (rest:=[]) c
 have t2:Lib.TabIs Tryz.prog W "internal/strconv.uint64pow10" .u64 Lib.pow10Tab:=
  Lib.tabIs_of_head (g:=0) (t:=(Tryz.prog.globals[0]?.map (·.type)).getD 0) (e:=(match Tryz.prog.underlying ((Tryz.prog.globals[0]?.map (·.type)).getD 0)with|some (.array _ e)=>e|_=>0)) (n:=20) (by kernel_rfl) (by kernel_rfl) (by kernel_rfl) (by kernel_rfl) (by kernel_rfl) (by kernel_rfl) (rest:=[]) d
 have i:Tryz.prog.globalNamed "math/bits.deBruijn64tab" = some 3:=by kernel_rfl
 have m:Tryz.prog.globalNamed "internal/strconv.uint64pow10" = some 0:=by kernel_rfl
 have r:TabX Tryz.prog W (λ_=>False):=by
  intro g s hs a;refine⟨?_,λh=>h⟩;unfold Ra at a⊢;split at a
  .rename_i hn;obtain rfl:=Ah5 hs _ 3 (by decide +kernel) hn;obtain⟨t,fr,h⟩:=Ah4 i t1;rw[Fg hn];exact⟨t,fr,by rw[h];simp[Cd0,BY9]⟩
  rename_i o;split at a
  .rename_i hn;obtain rfl:=Ah5 hs _ 0 (by decide +kernel) hn;obtain⟨t,fr,h⟩:=Ah4 m t2;rw[Gb o,Fg hn];exact⟨t,fr,h⟩
  exact Hc rfl a
 refine⟨λg s j v hs q=>⟨?_,λh=>h⟩,r⟩;have a:Ra s.name≠[]:=by rintro e;rw[e]at q;simp at q
 obtain⟨⟨t,fr,h⟩,_⟩:=r g s hs a;simp only[World.cell?,h];simpa using q
set_option maxRecDepth 100000
def GX (x:Qb):Prop:=((Lit.int .u32 x.Plus).wf=true)/\((Lit.int .u32 x.Minus).wf=true)
def V4 (x:Qb):Nat:=1+1+1
def Cx:KU Tryz.prog B1 A0 GX V4:=by intro m pvs h;obtain⟨m0,h,a⟩:=P8 Tryz.underlying78 h;obtain⟨a0,b0,p0,q0,rfl,b,h,c⟩:=B6 h;obtain⟨x0,l0,w0,s0⟩:=T8 Cc5 _ _ b;have s0:1<=a0:=s0;obtain⟨a1,b1,p1,q1,rfl,h1,h,d⟩:=B6 h;obtain⟨x1,l1,w1,s1⟩:=T8 Cc5 _ _ h1;have s1:1<=a1:=s1;obtain rfl:=X3 h;exact⟨⟨x0,x1⟩,LeDs.append l0 (LeDs.append l1 LeDs.nil),⟨w0,w1⟩,by simp only[V4];omega⟩
def AD8 (x:G0):Prop:=(True)/\(GX x.S)
def Fs (x:G0):Nat:=(x.Uc.length+1)+V4 x.S+1
def Aw4:KU Tryz.prog D4 D3 AD8 Fs:=by intro m pvs h;obtain⟨m0,h,a⟩:=P8 Tryz.underlying91 h;obtain⟨a0,b0,p0,q0,rfl,b,h,c⟩:=B6 h;obtain⟨x0,l0,w0,s0⟩:=Hs BY7 _ _ b;have s0:(x0.length+1)<=a0:=s0;obtain⟨a1,b1,p1,q1,rfl,h1,h,d⟩:=B6 h;obtain⟨x1,l1,w1,s1⟩:=Cx _ _ h1;have s1:V4 x1<=a1:=s1;obtain rfl:=X3 h;exact⟨⟨x0,x1⟩,LeDs.append l0 (LeDs.append l1 LeDs.nil),⟨w0,w1⟩,by simp only[Fs];omega⟩
def Bd8 (x:GI):Prop:=(True)/\((Lit.int .u32 x.Clear).wf=true)/\(GX x.Set)
def ME (x:GI):Nat:=(x.Text.length+1)+1+V4 x.Set+1
def AO1:KU Tryz.prog VK R8 Bd8 ME:=by intro m pvs h;obtain⟨m0,h,a⟩:=P8 Tryz.underlying231 h;obtain⟨a0,b0,p0,q0,rfl,b,h,c⟩:=B6 h;obtain⟨x0,l0,w0,s0⟩:=Hs BY7 _ _ b;have s0:(x0.length+1)<=a0:=s0;obtain⟨a1,b1,p1,q1,rfl,h1,h,d⟩:=B6 h;obtain⟨x1,l1,w1,s1⟩:=T8 Cc5 _ _ h1;have s1:1<=a1:=s1;obtain⟨a2,b2,p2,q2,rfl,f,h,g⟩:=B6 h;obtain⟨x2,l2,w2,s2⟩:=Cx _ _ f;have s2:V4 x2<=a2:=s2;obtain rfl:=X3 h;exact⟨⟨x0,x1,x2⟩,LeDs.append l0 (LeDs.append l1 (LeDs.append l2 LeDs.nil)),⟨w0,w1,w2⟩,by simp only[ME];omega⟩
def Bd9 (x:Node):Prop:=((Lit.int .i64 x.Sx).wf=true)/\(True)
def Kw (x:Node):Nat:=1+(x.Name.length+1)+1
def AO2:KU Tryz.prog X8 F4 Bd9 Kw:=by intro m pvs h;obtain⟨m0,h,a⟩:=P8 Tryz.underlying119 h;obtain⟨a0,b0,p0,q0,rfl,b,h,c⟩:=B6 h;obtain⟨x0,l0,w0,s0⟩:=T8 BW2 _ _ b;have s0:1<=a0:=s0;obtain⟨a1,b1,p1,q1,rfl,h1,h,d⟩:=B6 h;obtain⟨x1,l1,w1,s1⟩:=Hs BY7 _ _ h1;have s1:(x1.length+1)<=a1:=s1;obtain rfl:=X3 h;exact⟨⟨x0,x1⟩,LeDs.append l0 (LeDs.append l1 LeDs.nil),⟨w0,w1⟩,by simp only[Kw];omega⟩
def Wg {x:Qb}(h:GX x):okS x:=by obtain⟨p,hp⟩:=Bd7 h.1;obtain⟨q,a⟩:=Bd7 h.2;exact⟨p,q,by cases x;simp_all [sOf]⟩
abbrev AD9 (x:Pat):Prop:=okPS x
abbrev Ah6 (x:Pat):Nat:=1
def Ah7:KU Tryz.prog HB B7 AD9 Ah6:=by
 intro m
 induction m using Nat.strongRecOn with
 |ind m ih=>
 intro pvs h;obtain⟨m0,h,d⟩:=P8 Tryz.underlying81 h;obtain⟨a0,b0,p0,q0,rfl,j,h,l⟩:=B6 h;obtain⟨x0,l0,w0,s0⟩:=T8 BW2 _ _ j;have s0:1<=a0:=s0;obtain⟨a1,b1,p1,q1,rfl,h1,h,o⟩:=B6 h;obtain⟨x1,l1,w1,s1⟩:=Cx _ _ h1;have s1:V4 x1<=a1:=s1;obtain⟨a2,b2,p2,q2,rfl,q,h,r⟩:=B6 h;obtain⟨x2,l2,w2,s2⟩:=Vl Ca9 _ _ q;have s2:1<=a2:=s2;obtain⟨a3,b3,p3,q3,rfl,s,h,t⟩:=B6 h;obtain⟨x3,l3,w3,s3⟩:=T8 BW2 _ _ s;have s3:1<=a3:=s3;obtain⟨a4,b4,p4,q4,rfl,u,h,v⟩:=B6 h;obtain⟨x4,l4,w4,s4⟩:=T8 BW2 _ _ u;have s4:1<=a4:=s4;obtain⟨a5,b5,p5,q5,rfl,w,h,y⟩:=B6 h;obtain rfl:=X3 h;have a:Tryz.prog.cellsOf 81=7:=by kernel_rfl
 cases w with
 |int ht'=>rw[Cc6]at ht';cases ht'
 |bool ht'=>rw[Cc6]at ht';cases ht'
 |str ht'=>rw[Cc6]at ht';cases ht'
 |struct ht'=>rw[Cc6]at ht';cases ht'
 |arr ht'=>rw[Cc6]at ht';cases ht'
 | @slice _ _ e' n f ms ht' hl hel hm=>rw[Cc6]at ht';cases ht';rw[a];rw[Vk]at hm;obtain⟨g,c⟩:=choose_lt (α:=Pat) (p:=λi x=>LeDs (f i) (B7 x)/\AD9 x/\1<=ms i) λi b=>ih (ms i) (by have:=Jt ms b;omega) _ (hel i b);exact⟨.mk x0 x1 x2 x3 x4 n g,LeDs.append l0 (LeDs.append l1 (LeDs.append l2 (LeDs.append l3 (LeDs.append l4 (.cons (.sl λi b=>(c i b).1) .nil))))),⟨Wg w1,λi b=>(c i b).2.1⟩,by show 1<=m;omega⟩
def Aw5 (x:Ex):Prop:=((Lit.int .i64 x.From).wf=true)/\((Lit.int .u32 x.Clear).wf=true)/\(GX x.Set)/\((Lit.int .u32 x.Take).wf=true)/\((Lit.int .i64 x.Of).wf=true)
def OR (x:Ex):Nat:=1+1+V4 x.Set+1+1+1
def AO3:KU Tryz.prog AX3 Y7 Aw5 OR:=by intro m pvs h;obtain⟨m0,h,a⟩:=P8 Tryz.underlying139 h;obtain⟨a0,b0,p0,q0,rfl,b,h,c⟩:=B6 h;obtain⟨x0,l0,w0,s0⟩:=T8 BW2 _ _ b;have s0:1<=a0:=s0;obtain⟨a1,b1,p1,q1,rfl,h1,h,d⟩:=B6 h;obtain⟨x1,l1,w1,s1⟩:=T8 Cc5 _ _ h1;have s1:1<=a1:=s1;obtain⟨a2,b2,p2,q2,rfl,f,h,g⟩:=B6 h;obtain⟨x2,l2,w2,s2⟩:=Cx _ _ f;have s2:V4 x2<=a2:=s2;obtain⟨a3,b3,p3,q3,rfl,i,h,j⟩:=B6 h;obtain⟨x3,l3,w3,s3⟩:=T8 Cc5 _ _ i;have s3:1<=a3:=s3;obtain⟨a4,b4,p4,q4,rfl,l,h,n⟩:=B6 h;obtain⟨x4,l4,w4,s4⟩:=T8 BW2 _ _ l;have s4:1<=a4:=s4;obtain rfl:=X3 h;exact⟨⟨x0,x1,x2,x3,x4⟩,LeDs.append l0 (LeDs.append l1 (LeDs.append l2 (LeDs.append l3 (LeDs.append l4 LeDs.nil)))),⟨w0,w1,w2,w3,w4⟩,by simp only[OR];omega⟩
def AE0 (x:Law):Prop:=(True)/\(AD9 x.Left)/\(AD9 x.Right)/\(∀i,i<x.If.n->GX (x.If.g i))/\(∀i,i<x.Out.n->Aw5 (x.Out.g i))/\((Lit.int .i64 x.Mode).wf=true)
def Oe (x:Law):Nat:=(x.Name.length+1)+Ah6 x.Left+Ah6 x.Right+(EY (λi=>V4 (x.If.g i)) x.If.n+1)+(EY (λi=>OR (x.Out.g i)) x.Out.n+1)+1+1
def Be0:KU Tryz.prog I9 B3 AE0 Oe:=by intro m pvs h;obtain⟨m0,h,a⟩:=P8 Tryz.underlying84 h;obtain⟨a0,b0,p0,q0,rfl,b,h,c⟩:=B6 h;obtain⟨x0,l0,w0,s0⟩:=Hs BY7 _ _ b;have s0:(x0.length+1)<=a0:=s0;obtain⟨a1,b1,p1,q1,rfl,h1,h,d⟩:=B6 h;obtain⟨x1,l1,w1,s1⟩:=Ah7 _ _ h1;have s1:Ah6 x1<=a1:=s1;obtain⟨a2,b2,p2,q2,rfl,f,h,j⟩:=B6 h;obtain⟨x2,l2,w2,s2⟩:=Ah7 _ _ f;have s2:Ah6 x2<=a2:=s2;obtain⟨a3,b3,p3,q3,rfl,l,h,o⟩:=B6 h;obtain⟨x3,l3,w3,s3⟩:=K9 Cg2 (by kernel_rfl) Cx _ _ l;have s3:(EY (λi=>V4 (x3.g i)) x3.n+1)<=a3:=s3;obtain⟨a4,b4,p4,q4,rfl,q,h,r⟩:=B6 h;obtain⟨x4,l4,w4,s4⟩:=K9 Tryz.underlying82 (by kernel_rfl) AO3 _ _ q;have s4:(EY (λi=>OR (x4.g i)) x4.n+1)<=a4:=s4;obtain⟨a5,b5,p5,q5,rfl,s,h,t⟩:=B6 h;obtain⟨x5,l5,w5,s5⟩:=T8 BW2 _ _ s;have s5:1<=a5:=s5;obtain rfl:=X3 h;exact⟨⟨x0,x1,x2,x3,x4,x5⟩,LeDs.append l0 (LeDs.append l1 (LeDs.append l2 (LeDs.append l3 (LeDs.append l4 (LeDs.append l5 LeDs.nil))))),⟨w0,w1,w2,w3,w4,w5⟩,by simp only[Oe];omega⟩
def OT (x:Sv):Prop:=(∀i,i<x.Tree.n->Bd9 (x.Tree.g i))/\(∀i,i<x.Laws.n->AE0 (x.Laws.g i))/\(∀i,i<x.On.n->∀i',i' < (x.On.g i).n->(Lit.int .i64 ((x.On.g i).g i')).wf=true)
def FH (x:Sv):Nat:=(EY (λi=>Kw (x.Tree.g i)) x.Tree.n+1)+(EY (λi=>Oe (x.Laws.g i)) x.Laws.n+1)+(EY (λi=>EY (λi=>1) (x.On.g i).n+1) x.On.n+1)+1
def Yn:KU Tryz.prog XA B0 OT FH:=by intro m pvs h;obtain⟨m0,h,a⟩:=P8 Tryz.underlying29 h;obtain⟨a0,b0,p0,q0,rfl,b,h,c⟩:=B6 h;obtain⟨x0,l0,w0,s0⟩:=K9 Tryz.underlying25 (by kernel_rfl) AO2 _ _ b;have s0:(EY (λi=>Kw (x0.g i)) x0.n+1)<=a0:=s0;obtain⟨a1,b1,p1,q1,rfl,h1,h,d⟩:=B6 h;obtain⟨x1,l1,w1,s1⟩:=K9 Tryz.underlying26 (by kernel_rfl) Be0 _ _ h1;have s1:(EY (λi=>Oe (x1.g i)) x1.n+1)<=a1:=s1;obtain⟨a2,b2,p2,q2,rfl,f,h,j⟩:=B6 h;obtain⟨x2,l2,w2,s2⟩:=K9 Tryz.underlying27 (by kernel_rfl) (K9 Tryz.underlying75 (by kernel_rfl) (T8 BW2)) _ _ f;have s2:(EY (λi=>EY (λi=>1) (x2.g i).n+1) x2.n+1)<=a2:=s2;obtain rfl:=X3 h;exact⟨⟨x0,x1,x2⟩,LeDs.append l0 (LeDs.append l1 (LeDs.append l2 LeDs.nil)),⟨w0,w1,w2⟩,by simp only[FH];omega⟩
def Yo (x:K0):Prop:=(True)/\(∀i,i<x.W.n->GX (x.W.g i))
def Hi (x:K0):Nat:=1+(EY (λi=>V4 (x.W.g i)) x.W.n+1)+1
def Wh:KU Tryz.prog Fv F2 Yo Hi:=by intro m pvs h;obtain⟨m0,h,a⟩:=P8 Tryz.underlying42 h;obtain⟨a0,b0,p0,q0,rfl,b,h,c⟩:=B6 h;obtain⟨x0,l0,w0,s0⟩:=Vl Ca9 _ _ b;have s0:1<=a0:=s0;obtain⟨a1,b1,p1,q1,rfl,h1,h,d⟩:=B6 h;obtain⟨x1,l1,w1,s1⟩:=K9 Cg2 (by kernel_rfl) Cx _ _ h1;have s1:(EY (λi=>V4 (x1.g i)) x1.n+1)<=a1:=s1;obtain rfl:=X3 h;exact⟨⟨x0,x1⟩,LeDs.append l0 (LeDs.append l1 LeDs.nil),⟨w0,w1⟩,by simp only[Hi];omega⟩
def Yp (x:Ub):Prop:=(True)/\(∀i,i<x.Ua.n->Yo (x.Ua.g i))
def Ft (x:Ub):Nat:=(x.Gloss.length+1)+(EY (λi=>Hi (x.Ua.g i)) x.Ua.n+1)+1
def Aw6:KU Tryz.prog Aq5 H0 Yp Ft:=by intro m pvs h;obtain⟨m0,h,a⟩:=P8 Tryz.underlying49 h;obtain⟨a0,b0,p0,q0,rfl,b,h,c⟩:=B6 h;obtain⟨x0,l0,w0,s0⟩:=Hs BY7 _ _ b;have s0:(x0.length+1)<=a0:=s0;obtain⟨a1,b1,p1,q1,rfl,h1,h,d⟩:=B6 h;obtain⟨x1,l1,w1,s1⟩:=K9 Tryz.underlying30 (by kernel_rfl) Wh _ _ h1;have s1:(EY (λi=>Hi (x1.g i)) x1.n+1)<=a1:=s1;obtain rfl:=X3 h;exact⟨⟨x0,x1⟩,LeDs.append l0 (LeDs.append l1 LeDs.nil),⟨w0,w1⟩,by simp only[Ft];omega⟩
def Wi (x:B4):Prop:=(∀i,i<x.Feats.n->True)/\(∀i,i<x.Sounds.n->AD8 (x.Sounds.g i))/\(∀i,i<x.Marks.n->Bd8 (x.Marks.g i))/\(OT x.Sv)/\(∀i,i<x.Sg.n->Yo (x.Sg.g i))/\(∀i,i<x.Sz.n->Yp (x.Sz.g i))
def DJ (x:B4):Nat:=(EY (λi=>(x.Feats.g i).length+1) x.Feats.n+1)+(EY (λi=>Fs (x.Sounds.g i)) x.Sounds.n+1)+(EY (λi=>ME (x.Marks.g i)) x.Marks.n+1)+FH x.Sv+(EY (λi=>Hi (x.Sg.g i)) x.Sg.n+1)+(EY (λi=>Ft (x.Sz.g i)) x.Sz.n+1)+1
def Wk:KU Tryz.prog XB A9 Wi DJ:=by intro m pvs h;obtain⟨m0,h,a⟩:=P8 Tryz.underlying33 h;obtain⟨a0,b0,p0,q0,rfl,b,h,c⟩:=B6 h;obtain⟨x0,l0,w0,s0⟩:=K9 Tryz.underlying22 (by kernel_rfl) (Hs BY7) _ _ b;have s0:(EY (λi=>(x0.g i).length+1) x0.n+1)<=a0:=s0;obtain⟨a1,b1,p1,q1,rfl,h1,h,d⟩:=B6 h;obtain⟨x1,l1,w1,s1⟩:=K9 Tryz.underlying23 (by kernel_rfl) Aw4 _ _ h1;have s1:(EY (λi=>Fs (x1.g i)) x1.n+1)<=a1:=s1;obtain⟨a2,b2,p2,q2,rfl,f,h,j⟩:=B6 h;obtain⟨x2,l2,w2,s2⟩:=K9 Tryz.underlying24 (by kernel_rfl) AO1 _ _ f;have s2:(EY (λi=>ME (x2.g i)) x2.n+1)<=a2:=s2;obtain⟨a3,b3,p3,q3,rfl,l,h,o⟩:=B6 h;obtain⟨x3,l3,w3,s3⟩:=Yn _ _ l;have s3:FH x3<=a3:=s3;obtain⟨a4,b4,p4,q4,rfl,q,h,r⟩:=B6 h;obtain⟨x4,l4,w4,s4⟩:=K9 Tryz.underlying30 (by kernel_rfl) Wh _ _ q;have s4:(EY (λi=>Hi (x4.g i)) x4.n+1)<=a4:=s4;obtain⟨a5,b5,p5,q5,rfl,s,h,t⟩:=B6 h;obtain⟨x5,l5,w5,s5⟩:=K9 Tryz.underlying31 (by kernel_rfl) Aw6 _ _ s;have s5:(EY (λi=>Ft (x5.g i)) x5.n+1)<=a5:=s5;obtain rfl:=X3 h;exact⟨⟨x0,x1,x2,x3,x4,x5⟩,LeDs.append l0 (LeDs.append l1 (LeDs.append l2 (LeDs.append l3 (LeDs.append l4 (LeDs.append l5 LeDs.nil))))),⟨w0,w1,w2,w3,w4,w5⟩,by simp only[DJ];omega⟩
theorem PU {f:Nat->Nat}(h:∀i,1<=f i):∀n,n<=EY f n
 |0=>Cd1 _
 |n+1=>by
  have:=PU h n
  have:=h n
  grind[EY]
def BR1 {x:Ex}(h:Aw5 x):okO x:=⟨Wg h.2.2.1,Bd7 h.2.1,Bd7 h.2.2.2.1⟩
def Br2 {l:Law}(h:AE0 l)(hs:Oe l<=1048576):Yc l:=by obtain⟨_,h1,b,c,d,_⟩:=h;unfold Oe at hs;have g1:=PU (f:=λi=>V4 (l.If.g i)) (λi=>by grind[V4]) l.If.n;have g2:=PU (f:=λi=>OR (l.Out.g i)) (λi=>by grind[OR]) l.Out.n;exact⟨⟨h1,b,λi a=>Wg (c i a)⟩,by omega,by omega,by omega,λi a=>BR1 (d i a)⟩
def Be1 {x:Sl Law}(h:∀i,i<x.n->AE0 (x.g i))(hs:EY (λi=>Oe (x.g i)) x.n+1<=1048576):VZ x:=λi a=>
 Br2 (h i a) (by have:=Jt (λi=>Oe (x.g i)) a;have this:Oe (x.g i)<=_:=this;omega)
def Br5 {x:Sl Qb}(h:∀i,i<x.n->GX (x.g i)):okA x:=λi a=>Wg (h i a)
def Be2 {h:Sv}(w:OT h)(hs:FH h<=1048576):GD h:=by
 unfold FH at hs;have g:=PU (f:=λi=>EY (λi=>1) (h.On.g i).n+1) (λi=>by omega) h.On.n;refine⟨Be1 w.2.1 (by omega),λv a=>?_,by omega,λv a=>?_⟩
 .have:=Jt (λi=>Kw (h.Tree.g i)) a
  have this:Kw (h.Tree.g v)<=EY (λi=>Kw (h.Tree.g i)) h.Tree.n:=this;have e:Kw (h.Tree.g v)=1+((h.Tree.g v).Name.length+1)+1:=rfl;omega
 have g2:=Jt (λi=>EY (λi=>1) (h.On.g i).n+1) a;have g2:EY (λi=>1) (h.On.g v).n+1<=_:=g2;have g3:=PU (f:=λ_=>1) (λi=>by omega) (h.On.g v).n;omega
def Wj {x:Sl K0}(h:∀i,i<x.n->Yo (x.g i)):Ks x:=λi a=>Br5 (h i a).2
def Bw1 {x:Sl Ub}(h:∀i,i<x.n->Yp (x.g i))(hs:EY (λi=>Ft (x.g i)) x.n+1<=1048576){i:Nat}(a:i<x.n):(Ks (x.g i).Ua/\(x.g i).Gloss.length<1100000)/\(x.g i).Ua.n<1100000:=by have g:=Jt (λi=>Ft (x.g i)) a;have g:Ft (x.g i)<=EY (λi=>Ft (x.g i)) x.n:=g;have e:Ft (x.g i)=((x.g i).Gloss.length+1)+(EY (λi'=>Hi ((x.g i).Ua.g i')) (x.g i).Ua.n+1)+1:=rfl;have g1:=PU (f:=λi'=>Hi ((x.g i).Ua.g i')) (λi=>by grind[Hi]) (x.g i).Ua.n;exact⟨⟨Wj (h i a).2,by omega⟩,by omega⟩
def Aw7 {p:B4}(w:Wi p)(hs:DJ p<=1048576):Yi p/\∀i,i<p.Sz.n->(p.Sz.g i).Ua.n<1100000:=by
 unfold DJ at hs;obtain⟨w1,w2,w3,w4,w5,w6⟩:=w;have gs:=PU (f:=λi=>Fs (p.Sounds.g i)) (λi=>by grind[Fs]) p.Sounds.n;refine⟨⟨λi d=>?_,λi d=>⟨Wg (w2 i d).2,?_⟩,by omega,λi d=>?_,Be2 w4 (by omega),Wj w5,λi d=>(Bw1 w6 (by omega) d).1⟩,λi d=>(Bw1 w6 (by omega) d).2⟩
 .have g:=Jt (λi=>(p.Feats.g i).length+1) d;have g:(p.Feats.g i).length+1<=_:=g;omega
 .have g:=Jt (λi=>Fs (p.Sounds.g i)) d;have g:Fs (p.Sounds.g i)<=_:=g;have e:Fs (p.Sounds.g i)=((p.Sounds.g i).Uc.length+1)+V4 (p.Sounds.g i).S+1:=rfl;omega
 obtain⟨m1,m2,m3⟩:=w3 i d;obtain⟨a,b,e1⟩:=Wg m3;obtain⟨c,e2⟩:=Bd7 m2;have g:=Jt (λi=>ME (p.Marks.g i)) d;have g:ME (p.Marks.g i)<=_:=g;have e:ME (p.Marks.g i)=((p.Marks.g i).Text.length+1)+1+V4 (p.Marks.g i).Set+1:=rfl;exact⟨a,b,c,e1,e2,by omega⟩
def BI3 {p:B4}(hs:DJ p<=1048576):p.Sg.n<1100000:=by
 grind[DJ,PU,Hi]
end Go.AM
