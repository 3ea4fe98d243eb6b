/- Part 7. -/
import Derived.JoinedOf
import Derived.Test.YthnfmkeomcncgaaGreatDoorMC
import Derived.Test.YthnfmkeomcncgaaGreatDoorMD
import Derived.Test.YthnfmkeomcncgaaGreatDoorCards
import Derived.Test.YthnfmkeomcncgaaGreatDoorTie
import Derived.WalkKit
import Derived.ProofKit
import Derived.OpenShut
import Derived.Deep.DeepHandedRow
import Derived.MakeChecks
import Derived.Lib.LaidTab
import Derived.LaidSub
import Derived.Test.YthnfmkeomcncgaaGreatDoorMF
set_option linter.defProp false
set_option linter.unusedSimpArgs false
set_option linter.unusedVariables false
set_option linter.unusedSectionVars false
namespace Go.AM
def Ch3:=@Go.Proofs.Tryz.underlying3
def Cj1:=@Go.Proofs.Tryz.underlying9
def Cl3:=@Go.Proofs.Tryz.underlying4
def Cn1:=@Go.Proofs.Tryz.underlying93
def Cn2:=@Go.Proofs.Tryz.underlying96
def Cs4:=@Go.Proofs.Tryz.underlying67
open Go.Rows
def jA_ (P:Program)(f:FuncId)(fn:Func)(s:ChangeSpec)(c:OpenClaim):Bool:= (c.wf (OpenSpec.ofChange s))&&(laidOutB P)&&(mapsRowed P)&&(fn.params.all (P.readableRec ·))&&(namedTie P c.named s.vars)&&(c.stops==[])&&(P.stops==[])&&(c.knobs==[])&&(P.stopKnobs==[])
def jB_ (P:Program)(f:FuncId)(fn:Func)(s:ChangeSpec)(c:OpenClaim):Bool:= (c.inPlace==P.inPlace f)&&(c.unfollowed==P.unfollowed f)
def jC_ (P:Program)(f:FuncId)(fn:Func)(s:ChangeSpec)(c:OpenClaim):Bool:= (c.recurses==P.recurses f)&&(c.named==P.varsNamed f)
def jD_ (P:Program)(f:FuncId)(fn:Func)(s:ChangeSpec)(c:OpenClaim):Bool:= (c.maps==(fn.params.toList++s.plain.varTypes P).any (P.mapsRec ·))&&(c.ifaces==(fn.params.toList++s.plain.varTypes P).any (P.ifacesRec ·))&&(c.mapsOut==P.mapsAmong fn.resultTypes.toList)&&(c.loops==(fn.params.toList++s.plain.varTypes P).any (P.loopsFrom ·))&&(c.wideKeys==(fn.params.toList++s.plain.varTypes P++fn.resultTypes.toList).any (P.wideKeysFrom ·))&&(s.vars.all (P.varReadable ·))&&(fn.resultTypes.all (λt=>P.readableRec t&&decide (t<P.types.size)))&&(c.ifacesOut==fn.resultTypes.toList.any (P.ifacesRec ·))&&(c.loopsOut==fn.resultTypes.toList.any (P.loopsFrom ·))&&(c.plainKeys==P.plainKeys)&&(c.shortTexts.isNone)
def jE_ (P:Program)(f:FuncId)(fn:Func)(s:ChangeSpec)(c:OpenClaim):Bool:= (P.stopsHeard)&&(P.mayEnter)
def jF_ (P:Program)(f:FuncId)(fn:Func)(s:ChangeSpec)(c:OpenClaim):Bool:=
 (c.lifted==P.liftsFinal)&&(P.make==some c.make)&&(c.kinds==(if c.domain.isEmpty then []else fn.params.toList.map λt=>match P.underlying t with|some (.int k)=>some k|_=>none))&&(c.pinned==c.pinnedBy)&&(c.veiled==(fn.params.toList++s.plain.varTypes P++fn.resultTypes.toList).any (P.veiledRec ·))&&(c.veiledFits P fn.params.toList (fn.params.toList++s.plain.varTypes P++fn.resultTypes.toList))
def AX4 {P:Program}{f:FuncId}{fn:Func}{s:ChangeSpec}{c:OpenClaim}(h1:jA_ P f fn s c=true)(a:jB_ P f fn s c=true)(b:jC_ P f fn s c=true)(d:jD_ P f fn s c=true)(g:jE_ P f fn s c=true)(i:jF_ P f fn s c=true):joinedFacts P f fn s c=true:=by
 have:joinedFacts P f fn s c=(jA_ P f fn s c&&jB_ P f fn s c&&jC_ P f fn s c&&jD_ P f fn s c&&jE_ P f fn s c&&jF_ P f fn s c):=by simp only[joinedFacts,jA_,jB_,jC_,jD_,jE_,jF_,Bool.and_assoc];rfl
 rw[this,h1,a,b,d,g,i];rfl
open Go.RowKit Go.ChangeShapes Go.WideShapes Go.ChangeAt Go.Deep Go.Proofs Go.Proofs.YthnfmkeomcncgaaGreatDoor
def BS9:Kids Tryz.prog (· < Tryz.prog.types.size):=kids_rows (by kernel_rfl) (by kernel_rfl)
theorem Zl {H:Type}:∀es:List (DataW H),An5 (es.map Rows.uptoBulk)=Rows.uptoBulkAll es
 |[]=>rfl
 |d::r=>by simp only[Cf8,Ab2,Rows.uptoBulkAll,Zl r]
def BT0 {H:Type}:Bulk (H:=H) Rows.uptoBulk where
 int k n:=by simp[Rows.uptoBulk]
 bool b:=by simp[Rows.uptoBulk]
 str l:=by simp[Rows.uptoBulk]
 nil:=by simp[Rows.uptoBulk]
 slice es sp:=by grind[Rows.uptoBulk,Zl]
 agg ps:=by grind[Rows.uptoBulk,Zl]
section
variable {H:Type}{enc:TypeId×Value->H}{P:Program}{W:World}
def BG4 {v:Value}{x:PV}(a:v.cells.toList=[v])(h:CRep W v.cells.toList [x]):Uy W (λ_ _=>False) v x:=by
 have:=(h.2 0 (by simp)).1
 rw[a]at this
 grind
def BG3 {cs:Array Value}{pvs:List PV}(h:CRep W (Value.agg cs).cells.toList pvs):Uy W (λ_ _=>False) (.agg cs) (.agg pvs):=by obtain⟨h1,a⟩:=h;have hc:(Value.agg cs).cells.toList=cs.toList:=rfl;rw[hc]at h1 a;have e:∀i,cs.toList.getD i undef=cs.getD i undef:=(by simp);exact .agg cs pvs (by omega) (by grind) (by grind)
end
def Bm7 {n:Int}(hw:(Lit.int .u32 n).wf=true):∃p:BitVec 32,n=(p.toNat:Int):=by
 simp only[Lit.wf,IntKind.min,IntKind.max,IntKind.signed,IntKind.bits,Ce2]at hw;refine⟨BitVec.ofNat 32 n.toNat,?_⟩;rw[Cr8];have a:0<=n:=by have:=hw.1;grind
 have h1:n<4294967296:=by have:=hw.2;grind
 rw[Ck4 (by omega),Int.toNat_of_nonneg a]
def wf_u8 {n:Int}(h:(Lit.int .u8 n).wf=true):∃k:Nat,n=(k:Int)/\k<256:=by
 simp only[Lit.wf,IntKind.min,IntKind.max,IntKind.signed,IntKind.bits,Ce2]at h;have a:0<=n:=by have:=h.1;grind
 have h1:n<256:=by have:=h.2;grind
 exact⟨n.toNat,by omega,by omega⟩
def Am7 {W:World}{name:String}{k:IntKind}{zs:List Int}{g:Nat}(a:Tryz.prog.globalNamed name=some g)(h:Lib.TabIs Tryz.prog W name k zs):∃t fr,W.heap[g]? = some (.cells (zs.map λz=>Value.int k z).toArray t fr):=by
 grind[Lib.TabIs,World.var?]
def Am8 {g:Nat}{s:Global}(hs:Tryz.prog.globals[g]? = some s)(name:String)(i:Nat)(key:∀k:Fin Tryz.prog.globals.size,((Tryz.prog.globals[k.1]?.map λs=>s.name==name)==some true)=true->k.1=i)(hn:(s.name==name)=true):g=i:=by
 have a:g<Tryz.prog.globals.size:=(by grind);refine key ⟨g,a⟩ ?_
 grind
def BT1 {W:World}{l:List (String×DataW Unit)}(hp:(l.all λx=>x.2.handleName?.isNone)=true)
 (f:(l.filter λx=>x.1 == "math/bits.deBruijn64tab")=[("math/bits.deBruijn64tab",Lib.tabData .u8 (Lib.deBruijn64tab.map λ(n:Nat)=>(n:Int)))])
 (b:(l.filter λx=>x.1 == "internal/strconv.uint64pow10")=[("internal/strconv.uint64pow10",Lib.tabData .u64 Lib.pow10Tab)])
 (hL:laidMetH Tryz.prog l W):TabE Tryz.prog W (λ_ _=>False) (λ_=>False):=by
 rw[MakeChecks.laidMetH_plain _ _ _ hp]at hL;have c:=laidMet.filter (λx=>x.1 == "math/bits.deBruijn64tab") hL;have d:=laidMet.filter (λx=>x.1 == "internal/strconv.uint64pow10") hL;rw[f]at c;rw[b]at d;have t1:Lib.TabIs Tryz.prog W "math/bits.deBruijn64tab" .u8 (Lib.deBruijn64tab.map λ(n:Nat)=>(n:Int)):=
  Lib.tabIs_of_head (g:=3) (t:=(Tryz.prog.globals[3]?.map (·.type)).getD 0) (e:=(match Tryz.prog.underlying ((Tryz.prog.globals[3]?.map (·.type)).getD 0)with|some (.array _ e)=>e|_=>0)) (n:=64) (by kernel_rfl) (by simp) (by kernel_rfl) (by kernel_rfl) (by kernel_rfl) (by kernel_rfl) (rest:=[]) c
 have t2:Lib.TabIs Tryz.prog W "internal/strconv.uint64pow10" .u64 Lib.pow10Tab:=
  Lib.tabIs_of_head (g:=0) (t:=(Tryz.prog.globals[0]?.map (·.type)).getD 0) (e:=(match Tryz.prog.underlying ((Tryz.prog.globals[0]?.map (·.type)).getD 0)with|some (.array _ e)=>e|_=>0)) (n:=20) (by kernel_rfl) (by simp) (by kernel_rfl) (by kernel_rfl) (by kernel_rfl) (by kernel_rfl) (rest:=[]) d
 have i:Tryz.prog.globalNamed "math/bits.deBruijn64tab" = some 3:=by kernel_rfl
 have m:Tryz.prog.globalNamed "internal/strconv.uint64pow10" = some 0:=by kernel_rfl
 have q:TabX Tryz.prog W (λ_=>False):=by
  intro g s hs a;refine⟨?_,λh=>h⟩;unfold RB at a⊢;split at a
  .rename_i hn;obtain rfl:=Am8 hs _ 3 (by decide +kernel) hn;obtain⟨t,fr,h⟩:=Am7 i t1;rw[Jk hn]
   simp_all
  rename_i o;split at a
  .rename_i hn;obtain rfl:=Am8 hs _ 0 (by decide +kernel) hn;obtain⟨t,fr,h⟩:=Am7 m t2;rw[Js o,Jk hn]
   grind
  grind
 refine⟨λg s j v hs r=>⟨?_,λh=>h⟩,q⟩;have a:RB s.name≠[]:=by grind
 obtain⟨⟨t,fr,h⟩,_⟩:=q g s hs a
 grind[World.cell?]
set_option maxRecDepth 100000
def Hb (x:Up):Prop:=((Lit.int .u32 x.Plus).wf=true)/\((Lit.int .u32 x.Minus).wf=true)
def W9 (x:Up):Nat:=1+1+1
def En:Ln Tryz.prog A8 A0 Hb W9:=by intro m pvs h;obtain⟨m0,h,a⟩:=Q0 Tryz.underlying95 h;obtain⟨a0,b0,p0,q0,rfl,b,h,c⟩:=B7 h;obtain⟨x0,l0,w0,s0⟩:=V9 Cn1 _ _ b;have s0:1<=a0:=s0;obtain⟨a1,b1,p1,q1,rfl,h1,h,d⟩:=B7 h;obtain⟨x1,l1,w1,s1⟩:=V9 Cn1 _ _ h1;have s1:1<=a1:=s1;obtain rfl:=X8 h;exact⟨⟨x0,x1⟩,LeDs.append l0 (by grind),⟨w0,w1⟩,by grind[W9]⟩
def AK2 (x:F9):Prop:=(True)/\(Hb x.S)
def FB (x:F9):Nat:=(x.Yi.length+1)+W9 x.S+1
def AB6:Ln Tryz.prog S0 H5 AK2 FB:=by intro m pvs h;obtain⟨m0,h,a⟩:=Q0 Tryz.underlying108 h;obtain⟨a0,b0,p0,q0,rfl,b,h,c⟩:=B7 h;obtain⟨x0,l0,w0,s0⟩:=Hx Cj1 _ _ b;have s0:(x0.length+1)<=a0:=s0;obtain⟨a1,b1,p1,q1,rfl,h1,h,d⟩:=B7 h;obtain⟨x1,l1,w1,s1⟩:=En _ _ h1;have s1:W9 x1<=a1:=s1;obtain rfl:=X8 h;exact⟨⟨x0,x1⟩,LeDs.append l0 (by grind),⟨w0,w1⟩,by grind[FB]⟩
def Bm8 (x:GO):Prop:=(True)/\((Lit.int .u32 x.Clear).wf=true)/\(Hb x.Set)
def MS (x:GO):Nat:=(x.Text.length+1)+1+W9 x.Set+1
def AW2:Ln Tryz.prog WA EF Bm8 MS:=by intro m pvs h;obtain⟨m0,h,a⟩:=Q0 Tryz.underlying224 h;obtain⟨a0,b0,p0,q0,rfl,b,h,c⟩:=B7 h;obtain⟨x0,l0,w0,s0⟩:=Hx Cj1 _ _ b;have s0:(x0.length+1)<=a0:=s0;obtain⟨a1,b1,p1,q1,rfl,h1,h,d⟩:=B7 h;obtain⟨x1,l1,w1,s1⟩:=V9 Cn1 _ _ h1;have s1:1<=a1:=s1;obtain⟨a2,b2,p2,q2,rfl,f,h,g⟩:=B7 h;obtain⟨x2,l2,w2,s2⟩:=En _ _ f;have s2:W9 x2<=a2:=s2;obtain rfl:=X8 h;exact⟨⟨x0,x1,x2⟩,LeDs.append l0 (LeDs.append l1 (by grind)),⟨w0,w1,w2⟩,by grind[MS]⟩
def Bm9 (x:Node):Prop:=((Lit.int .i64 x.Ye).wf=true)/\(True)
def KM (x:Node):Nat:=1+(x.Name.length+1)+1
def AW3:Ln Tryz.prog Y3 F1 Bm9 KM:=by intro m pvs h;obtain⟨m0,h,a⟩:=Q0 Tryz.underlying131 h;obtain⟨a0,b0,p0,q0,rfl,b,h,c⟩:=B7 h;obtain⟨x0,l0,w0,s0⟩:=V9 Ch3 _ _ b;have s0:1<=a0:=s0;obtain⟨a1,b1,p1,q1,rfl,h1,h,d⟩:=B7 h;obtain⟨x1,l1,w1,s1⟩:=Hx Cj1 _ _ h1;have s1:(x1.length+1)<=a1:=s1;obtain rfl:=X8 h;exact⟨⟨x0,x1⟩,LeDs.append l0 (by grind),⟨w0,w1⟩,by grind[KM]⟩
def WX {x:Up}(h:Hb x):okS x:=by obtain⟨p,hp⟩:=Bm7 h.1;obtain⟨q,a⟩:=Bm7 h.2;exact⟨p,q,by cases x;grind⟩
abbrev AK3 (x:Pat):Prop:=okPS x
abbrev Am9 (x:Pat):Nat:=1
def An0:Ln Tryz.prog HF C5 AK3 Am9:=by
 intro m
 induction m using Nat.strongRecOn with
 |ind m ih=>
 intro pvs h;obtain⟨m0,h,d⟩:=Q0 Tryz.underlying98 h;obtain⟨a0,b0,p0,q0,rfl,j,h,l⟩:=B7 h;obtain⟨x0,l0,w0,s0⟩:=V9 Ch3 _ _ j;have s0:1<=a0:=s0;obtain⟨a1,b1,p1,q1,rfl,h1,h,o⟩:=B7 h;obtain⟨x1,l1,w1,s1⟩:=En _ _ h1;have s1:W9 x1<=a1:=s1;obtain⟨a2,b2,p2,q2,rfl,q,h,r⟩:=B7 h;obtain⟨x2,l2,w2,s2⟩:=VU Cl3 _ _ q;have s2:1<=a2:=s2;obtain⟨a3,b3,p3,q3,rfl,s,h,t⟩:=B7 h;obtain⟨x3,l3,w3,s3⟩:=V9 Ch3 _ _ s;have s3:1<=a3:=s3;obtain⟨a4,b4,p4,q4,rfl,u,h,v⟩:=B7 h;obtain⟨x4,l4,w4,s4⟩:=V9 Ch3 _ _ u;have s4:1<=a4:=s4;obtain⟨a5,b5,p5,q5,rfl,w,h,y⟩:=B7 h;obtain rfl:=X8 h;have a:Tryz.prog.cellsOf 98=7:=by kernel_rfl
 cases w with
 |int ht'=>rw[Cn2]at ht';cases ht'
 |bool ht'=>rw[Cn2]at ht';cases ht'
 |str ht'=>rw[Cn2]at ht';cases ht'
 |struct ht'=>rw[Cn2]at ht';cases ht'
 |arr ht'=>rw[Cn2]at ht';cases ht'
 | @slice _ _ e' n f ms ht' hl hel hm=>rw[Cn2]at ht';cases ht';rw[a];rw[VT]at hm;obtain⟨g,c⟩:=choose_lt (α:=Pat) (p:=λi x=>LeDs (f i) (C5 x)/\AK3 x/\1<=ms i) λi b=>ih (ms i) (by have:=JI ms b;omega) _ (hel i b);exact⟨.mk x0 x1 x2 x3 x4 n g,LeDs.append l0 (LeDs.append l1 (LeDs.append l2 (LeDs.append l3 (LeDs.append l4 (.cons (.sl λi b=>(c i b).1) .nil))))),⟨WX w1,λi b=>(c i b).2.1⟩,by show 1<=m;omega⟩
def AB7 (x:EE):Prop:=((Lit.int .i64 x.From).wf=true)/\((Lit.int .u32 x.Clear).wf=true)/\(Hb x.Set)/\((Lit.int .u32 x.Take).wf=true)/\((Lit.int .i64 x.Of).wf=true)
def Pt (x:EE):Nat:=1+1+W9 x.Set+1+1+1
def AW4:Ln Tryz.prog Bf3 Dd AB7 Pt:=by intro m pvs h;obtain⟨m0,h,a⟩:=Q0 Tryz.underlying173 h;obtain⟨a0,b0,p0,q0,rfl,b,h,c⟩:=B7 h;obtain⟨x0,l0,w0,s0⟩:=V9 Ch3 _ _ b;have s0:1<=a0:=s0;obtain⟨a1,b1,p1,q1,rfl,h1,h,d⟩:=B7 h;obtain⟨x1,l1,w1,s1⟩:=V9 Cn1 _ _ h1;have s1:1<=a1:=s1;obtain⟨a2,b2,p2,q2,rfl,f,h,g⟩:=B7 h;obtain⟨x2,l2,w2,s2⟩:=En _ _ f;have s2:W9 x2<=a2:=s2;obtain⟨a3,b3,p3,q3,rfl,i,h,j⟩:=B7 h;obtain⟨x3,l3,w3,s3⟩:=V9 Cn1 _ _ i;have s3:1<=a3:=s3;obtain⟨a4,b4,p4,q4,rfl,l,h,n⟩:=B7 h;obtain⟨x4,l4,w4,s4⟩:=V9 Ch3 _ _ l;have s4:1<=a4:=s4;obtain rfl:=X8 h;exact⟨⟨x0,x1,x2,x3,x4⟩,LeDs.append l0 (LeDs.append l1 (LeDs.append l2 (LeDs.append l3 (by grind)))),⟨w0,w1,w2,w3,w4⟩,by grind[Pt]⟩
def AK4 (x:Law):Prop:=(True)/\(AK3 x.Left)/\(AK3 x.Right)/\(∀i,i<x.If.n->Hb (x.If.g i))/\(∀i,i<x.Out.n->AB7 (x.Out.g i))/\((Lit.int .i64 x.Mode).wf=true)
def Oz (x:Law):Nat:=(x.Name.length+1)+Am9 x.Left+Am9 x.Right+(FE (λi=>W9 (x.If.g i)) x.If.n+1)+(FE (λi=>Pt (x.Out.g i)) x.Out.n+1)+1+1
def Bn0:Ln Tryz.prog H6 B6 AK4 Oz:=by intro m pvs h;obtain⟨m0,h,a⟩:=Q0 Tryz.underlying101 h;obtain⟨a0,b0,p0,q0,rfl,b,h,c⟩:=B7 h;obtain⟨x0,l0,w0,s0⟩:=Hx Cj1 _ _ b;have s0:(x0.length+1)<=a0:=s0;obtain⟨a1,b1,p1,q1,rfl,h1,h,d⟩:=B7 h;obtain⟨x1,l1,w1,s1⟩:=An0 _ _ h1;have s1:Am9 x1<=a1:=s1;obtain⟨a2,b2,p2,q2,rfl,f,h,j⟩:=B7 h;obtain⟨x2,l2,w2,s2⟩:=An0 _ _ f;have s2:Am9 x2<=a2:=s2;obtain⟨a3,b3,p3,q3,rfl,l,h,o⟩:=B7 h;obtain⟨x3,l3,w3,s3⟩:=O7 Cs4 (by kernel_rfl) En _ _ l;have s3:(FE (λi=>W9 (x3.g i)) x3.n+1)<=a3:=s3;obtain⟨a4,b4,p4,q4,rfl,q,h,r⟩:=B7 h;obtain⟨x4,l4,w4,s4⟩:=O7 Tryz.underlying99 (by kernel_rfl) AW4 _ _ q;have s4:(FE (λi=>Pt (x4.g i)) x4.n+1)<=a4:=s4;obtain⟨a5,b5,p5,q5,rfl,s,h,t⟩:=B7 h;obtain⟨x5,l5,w5,s5⟩:=V9 Ch3 _ _ s;have s5:1<=a5:=s5;obtain rfl:=X8 h;exact⟨⟨x0,x1,x2,x3,x4,x5⟩,LeDs.append l0 (LeDs.append l1 (LeDs.append l2 (LeDs.append l3 (LeDs.append l4 (by grind))))),⟨w0,w1,w2,w3,w4,w5⟩,by grind[Oz]⟩
def Pu (x:Yc):Prop:=(∀i,i<x.Tree.n->Bm9 (x.Tree.g i))/\(∀i,i<x.Laws.n->AK4 (x.Laws.g i))/\(∀i,i<x.On.n->∀i',i' < (x.On.g i).n->(Lit.int .i64 ((x.On.g i).g i')).wf=true)
def FO (x:Yc):Nat:=(FE (λi=>KM (x.Tree.g i)) x.Tree.n+1)+(FE (λi=>Oz (x.Laws.g i)) x.Laws.n+1)+(FE (λi=>FE (λi=>1) (x.On.g i).n+1) x.On.n+1)+1
def Zm:Ln Tryz.prog Yx A9 Pu FO:=by intro m pvs h;obtain⟨m0,h,a⟩:=Q0 Tryz.underlying29 h;obtain⟨a0,b0,p0,q0,rfl,b,h,c⟩:=B7 h;obtain⟨x0,l0,w0,s0⟩:=O7 Tryz.underlying25 (by kernel_rfl) AW3 _ _ b;have s0:(FE (λi=>KM (x0.g i)) x0.n+1)<=a0:=s0;obtain⟨a1,b1,p1,q1,rfl,h1,h,d⟩:=B7 h;obtain⟨x1,l1,w1,s1⟩:=O7 Tryz.underlying26 (by kernel_rfl) Bn0 _ _ h1;have s1:(FE (λi=>Oz (x1.g i)) x1.n+1)<=a1:=s1;obtain⟨a2,b2,p2,q2,rfl,f,h,j⟩:=B7 h;obtain⟨x2,l2,w2,s2⟩:=O7 Tryz.underlying27 (by kernel_rfl) (O7 Tryz.underlying74 (by kernel_rfl) (V9 Ch3)) _ _ f;have s2:(FE (λi=>FE (λi=>1) (x2.g i).n+1) x2.n+1)<=a2:=s2;obtain rfl:=X8 h;exact⟨⟨x0,x1,x2⟩,LeDs.append l0 (LeDs.append l1 (LeDs.append l2 LeDs.nil)),⟨w0,w1,w2⟩,by grind[FO]⟩
def Zn (x:M8):Prop:=(True)/\(∀i,i<x.W.n->Hb (x.W.g i))
def IU (x:M8):Nat:=1+(FE (λi=>W9 (x.W.g i)) x.W.n+1)+1
def WY:Ln Tryz.prog KX I4 Zn IU:=by intro m pvs h;obtain⟨m0,h,a⟩:=Q0 Tryz.underlying92 h;obtain⟨a0,b0,p0,q0,rfl,b,h,c⟩:=B7 h;obtain⟨x0,l0,w0,s0⟩:=VU Cl3 _ _ b;have s0:1<=a0:=s0;obtain⟨a1,b1,p1,q1,rfl,h1,h,d⟩:=B7 h;obtain⟨x1,l1,w1,s1⟩:=O7 Cs4 (by kernel_rfl) En _ _ h1;have s1:(FE (λi=>W9 (x1.g i)) x1.n+1)<=a1:=s1;obtain rfl:=X8 h;exact⟨⟨x0,x1⟩,LeDs.append l0 (LeDs.append l1 LeDs.nil),⟨w0,w1⟩,by grind[IU]⟩
def Zo (x:Yh):Prop:=(True)/\(∀i,i<x.Yg.n->Zn (x.Yg.g i))
def FC (x:Yh):Nat:=(x.Gloss.length+1)+(FE (λi=>IU (x.Yg.g i)) x.Yg.n+1)+1
def AB8:Ln Tryz.prog Av6 N5 Zo FC:=by intro m pvs h;obtain⟨m0,h,a⟩:=Q0 Tryz.underlying56 h;obtain⟨a0,b0,p0,q0,rfl,b,h,c⟩:=B7 h;obtain⟨x0,l0,w0,s0⟩:=Hx Cj1 _ _ b;have s0:(x0.length+1)<=a0:=s0;obtain⟨a1,b1,p1,q1,rfl,h1,h,d⟩:=B7 h;obtain⟨x1,l1,w1,s1⟩:=O7 Tryz.underlying30 (by kernel_rfl) WY _ _ h1;have s1:(FE (λi=>IU (x1.g i)) x1.n+1)<=a1:=s1;obtain rfl:=X8 h;exact⟨⟨x0,x1⟩,LeDs.append l0 (LeDs.append l1 LeDs.nil),⟨w0,w1⟩,by grind[FC]⟩
def WZ (x:B0):Prop:=(∀i,i<x.Feats.n->True)/\(∀i,i<x.Sounds.n->AK2 (x.Sounds.g i))/\(∀i,i<x.Marks.n->Bm8 (x.Marks.g i))/\(Pu x.Yc)/\(∀i,i<x.Yb.n->Zn (x.Yb.g i))/\(∀i,i<x.Yf.n->Zo (x.Yf.g i))
def Ho (x:B0):Nat:=(FE (λi=>(x.Feats.g i).length+1) x.Feats.n+1)+(FE (λi=>FB (x.Sounds.g i)) x.Sounds.n+1)+(FE (λi=>MS (x.Marks.g i)) x.Marks.n+1)+FO x.Yc+(FE (λi=>IU (x.Yb.g i)) x.Yb.n+1)+(FE (λi=>FC (x.Yf.g i)) x.Yf.n+1)+1
def Xb:Ln Tryz.prog Yy B3 WZ Ho:=by intro m pvs h;obtain⟨m0,h,a⟩:=Q0 Tryz.underlying33 h;obtain⟨a0,b0,p0,q0,rfl,b,h,c⟩:=B7 h;obtain⟨x0,l0,w0,s0⟩:=O7 Tryz.underlying22 (by kernel_rfl) (Hx Cj1) _ _ b;have s0:(FE (λi=>(x0.g i).length+1) x0.n+1)<=a0:=s0;obtain⟨a1,b1,p1,q1,rfl,h1,h,d⟩:=B7 h;obtain⟨x1,l1,w1,s1⟩:=O7 Tryz.underlying23 (by kernel_rfl) AB6 _ _ h1;have s1:(FE (λi=>FB (x1.g i)) x1.n+1)<=a1:=s1;obtain⟨a2,b2,p2,q2,rfl,f,h,j⟩:=B7 h;obtain⟨x2,l2,w2,s2⟩:=O7 Tryz.underlying24 (by kernel_rfl) AW2 _ _ f;have s2:(FE (λi=>MS (x2.g i)) x2.n+1)<=a2:=s2;obtain⟨a3,b3,p3,q3,rfl,l,h,o⟩:=B7 h;obtain⟨x3,l3,w3,s3⟩:=Zm _ _ l;have s3:FO x3<=a3:=s3;obtain⟨a4,b4,p4,q4,rfl,q,h,r⟩:=B7 h;obtain⟨x4,l4,w4,s4⟩:=O7 Tryz.underlying30 (by kernel_rfl) WY _ _ q;have s4:(FE (λi=>IU (x4.g i)) x4.n+1)<=a4:=s4;obtain⟨a5,b5,p5,q5,rfl,s,h,t⟩:=B7 h;obtain⟨x5,l5,w5,s5⟩:=O7 Tryz.underlying31 (by kernel_rfl) AB8 _ _ s;have s5:(FE (λi=>FC (x5.g i)) x5.n+1)<=a5:=s5;obtain rfl:=X8 h;exact⟨⟨x0,x1,x2,x3,x4,x5⟩,LeDs.append l0 (LeDs.append l1 (LeDs.append l2 (LeDs.append l3 (LeDs.append l4 (LeDs.append l5 LeDs.nil))))),⟨w0,w1,w2,w3,w4,w5⟩,by simp only[Ho];omega⟩
def TY {f:Nat->Nat}(h:∀i,1<=f i):∀n,n<=FE f n
 |0=>Cl6 _
 |n+1=>by
  have:=TY h n
  have:=h n
  grind[FE]
def Cb8 {x:EE}(h:AB7 x):okO x:=⟨WX h.2.2.1,Bm7 h.2.1,Bm7 h.2.2.2.1⟩
def BB0 {l:Law}(h:AK4 l)(hs:Oz l<=1048576):Vh l:=by obtain⟨_,h1,b,c,d,_⟩:=h;unfold Oz at hs;have g1:=TY (f:=λi=>W9 (l.If.g i)) (λi=>by grind[W9]) l.If.n;have g2:=TY (f:=λi=>Pt (l.Out.g i)) (λi=>by grind[Pt]) l.Out.n;exact⟨⟨h1,b,λi a=>WX (c i a)⟩,by omega,by omega,by omega,λi a=>Cb8 (d i a)⟩
def Bn1 {x:Sl Law}(h:∀i,i<x.n->AK4 (x.g i))(hs:FE (λi=>Oz (x.g i)) x.n+1<=1048576):WM x:=λi a=>
 BB0 (h i a) (by have:=JI (λi=>Oz (x.g i)) a;have this:Oz (x.g i)<=_:=this;omega)
def Cb9 {x:Sl Up}(h:∀i,i<x.n->Hb (x.g i)):okA x:=λi a=>WX (h i a)
def Bn2 {h:Yc}(w:Pu h)(hs:FO h<=1048576):Q6 h:=by
 unfold FO at hs;have g:=TY (f:=λi=>FE (λi=>1) (h.On.g i).n+1) (λi=>by omega) h.On.n;refine⟨Bn1 w.2.1 (by omega),λv a=>?_,by omega,λv a=>?_⟩
 .have:=JI (λi=>KM (h.Tree.g i)) a
  have this:KM (h.Tree.g v)<=FE (λi=>KM (h.Tree.g i)) h.Tree.n:=this;have e:KM (h.Tree.g v)=1+((h.Tree.g v).Name.length+1)+1:=rfl;omega
 have g2:=JI (λi=>FE (λi=>1) (h.On.g i).n+1) a;have g2:FE (λi=>1) (h.On.g v).n+1<=_:=g2;have g3:=TY (f:=λ_=>1) (λi=>by omega) (h.On.g v).n;omega
def Xa {x:Sl M8}(h:∀i,i<x.n->Zn (x.g i)):IQ x:=λi a=>Cb9 (h i a).2
def BG2 {x:Sl Yh}(h:∀i,i<x.n->Zo (x.g i))(hs:FE (λi=>FC (x.g i)) x.n+1<=1048576){i:Nat}(a:i<x.n):(IQ (x.g i).Yg/\(x.g i).Gloss.length<1100000)/\(x.g i).Yg.n<1100000:=by have g:=JI (λi=>FC (x.g i)) a;have g:FC (x.g i)<=FE (λi=>FC (x.g i)) x.n:=g;have e:FC (x.g i)=((x.g i).Gloss.length+1)+(FE (λi'=>IU ((x.g i).Yg.g i')) (x.g i).Yg.n+1)+1:=rfl;have g1:=TY (f:=λi'=>IU ((x.g i).Yg.g i')) (λi=>by grind[IU]) (x.g i).Yg.n;exact⟨⟨Xa (h i a).2,by omega⟩,by omega⟩
def AB9 {p:B0}(w:WZ p)(hs:Ho p<=1048576):Ph p/\∀i,i<p.Yf.n->(p.Yf.g i).Yg.n<1100000:=by
 unfold Ho at hs;obtain⟨w1,w2,w3,w4,w5,w6⟩:=w;have gs:=TY (f:=λi=>FB (p.Sounds.g i)) (λi=>by grind[FB]) p.Sounds.n;refine⟨⟨λi d=>?_,λi d=>⟨WX (w2 i d).2,?_⟩,by omega,λi d=>?_,Bn2 w4 (by omega),Xa w5,λi d=>(BG2 w6 (by omega) d).1⟩,λi d=>(BG2 w6 (by omega) d).2⟩
 .have g:=JI (λi=>(p.Feats.g i).length+1) d;have g:(p.Feats.g i).length+1<=_:=g;omega
 .have g:=JI (λi=>FB (p.Sounds.g i)) d;have g:FB (p.Sounds.g i)<=_:=g;have e:FB (p.Sounds.g i)=((p.Sounds.g i).Yi.length+1)+W9 (p.Sounds.g i).S+1:=rfl;omega
 obtain⟨m1,m2,m3⟩:=w3 i d;obtain⟨a,b,e1⟩:=WX m3;obtain⟨c,e2⟩:=Bm7 m2;have g:=JI (λi=>MS (p.Marks.g i)) d;have g:MS (p.Marks.g i)<=_:=g;have e:MS (p.Marks.g i)=((p.Marks.g i).Text.length+1)+1+W9 (p.Marks.g i).Set+1:=rfl;exact⟨a,b,c,e1,e2,by omega⟩
end Go.AM
