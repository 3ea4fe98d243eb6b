/- Part 11. -/
import Derived.JoinedOf
import Derived.Test.YtcoileenpgjmoaaGreatDoorEE
import Derived.Test.YtcoileenpgjmoaaGreatDoorEF
import Derived.Test.YtcoileenpgjmoaaGreatDoorCards
import Derived.Test.YtcoileenpgjmoaaGreatDoorTie
import Derived.WalkKit
import Derived.ProofKit
import Derived.OpenShut
import Derived.Deep.DeepHandedRow
import Derived.MakeChecks
import Derived.Lib.LaidTab
import Derived.LaidSub
import Derived.Test.YtcoileenpgjmoaaGreatDoorEI
import Derived.Test.YtcoileenpgjmoaaGreatDoorEJ
set_option linter.defProp false
set_option linter.unusedSimpArgs false
set_option linter.unusedVariables false
set_option linter.unusedSectionVars false
namespace Go.AM
def Bm3:=@Go.Proofs.Tryz.underlying3
def Bp5:=@Go.Proofs.Tryz.underlying5
def Bq2:=@Go.Proofs.Tryz.underlying4
def Bq5:=@Go.Proofs.Tryz.underlying132
def Br2:=@Go.Proofs.Tryz.underlying87
def Bs0:=@Go.Proofs.Tryz.underlying9
def Bw1:=@Go.Proofs.Tryz.underlying30
def Bw6:=@Go.Proofs.Tryz.underlying22
open Go.Rows
def jA_ (P:Program)(f:FuncId)(fn:Func)(s:ChangeSpec)(c:OpenClaim):Bool:= (c.wf (OpenSpec.ofChange s))&&(laidOutB P)&&(mapsRowed P)&&(fn.params.all (P.readableRec ·))&&(namedTie P c.named s.vars)&&(c.stops==[])&&(P.stops==[])&&(c.knobs==[])&&(P.stopKnobs==[])
def jB_ (P:Program)(f:FuncId)(fn:Func)(s:ChangeSpec)(c:OpenClaim):Bool:= (c.inPlace==P.inPlace f)&&(c.unfollowed==P.unfollowed f)
def jC_ (P:Program)(f:FuncId)(fn:Func)(s:ChangeSpec)(c:OpenClaim):Bool:= (c.recurses==P.recurses f)&&(c.named==P.varsNamed f)
def jD_ (P:Program)(f:FuncId)(fn:Func)(s:ChangeSpec)(c:OpenClaim):Bool:= (c.maps==(fn.params.toList++s.plain.varTypes P).any (P.mapsRec ·))&&(c.ifaces==(fn.params.toList++s.plain.varTypes P).any (P.ifacesRec ·))&&(c.mapsOut==P.mapsAmong fn.resultTypes.toList)&&(c.loops==(fn.params.toList++s.plain.varTypes P).any (P.loopsFrom ·))&&(c.wideKeys==(fn.params.toList++s.plain.varTypes P++fn.resultTypes.toList).any (P.wideKeysFrom ·))&&(s.vars.all (P.varReadable ·))&&(fn.resultTypes.all (λt=>P.readableRec t&&decide (t<P.types.size)))&&(c.ifacesOut==fn.resultTypes.toList.any (P.ifacesRec ·))&&(c.loopsOut==fn.resultTypes.toList.any (P.loopsFrom ·))&&(c.plainKeys==P.plainKeys)&&(c.shortTexts.isNone)
def jE_ (P:Program)(f:FuncId)(fn:Func)(s:ChangeSpec)(c:OpenClaim):Bool:= (P.stopsHeard)&&(P.mayEnter)
def jF_ (P:Program)(f:FuncId)(fn:Func)(s:ChangeSpec)(c:OpenClaim):Bool:=
 (c.lifted==P.liftsFinal)&&(P.make==some c.make)&&(c.kinds==(if c.domain.isEmpty then []else fn.params.toList.map λt=>match P.underlying t with|some (.int k)=>some k|_=>none))&&(c.pinned==c.pinnedBy)&&(c.veiled==(fn.params.toList++s.plain.varTypes P++fn.resultTypes.toList).any (P.veiledRec ·))&&(c.veiledFits P fn.params.toList (fn.params.toList++s.plain.varTypes P++fn.resultTypes.toList))
def Ag9 {P:Program}{f:FuncId}{fn:Func}{s:ChangeSpec}{c:OpenClaim}(h1:jA_ P f fn s c=true)(a:jB_ P f fn s c=true)(b:jC_ P f fn s c=true)(d:jD_ P f fn s c=true)(g:jE_ P f fn s c=true)(i:jF_ P f fn s c=true):joinedFacts P f fn s c=true:=by
 have:joinedFacts P f fn s c=(jA_ P f fn s c&&jB_ P f fn s c&&jC_ P f fn s c&&jD_ P f fn s c&&jE_ P f fn s c&&jF_ P f fn s c):=by simp only[joinedFacts,jA_,jB_,jC_,jD_,jE_,jF_,Bool.and_assoc];rfl
 rw[this,h1,a,b,d,g,i];rfl
end Go.AM
namespace Go.AM
open Go.RowKit Go.ChangeShapes Go.WideShapes Go.ChangeAt Go.Deep Go.Proofs Go.Proofs.YtcoileenpgjmoaaGreatDoor
def AL3:Kids Tryz.prog (· < Tryz.prog.types.size):=kids_rows (by kernel_rfl) (by kernel_rfl)
def Ue {H:Type}:∀es:List (DataW H),WH (es.map Rows.uptoBulk)=Rows.uptoBulkAll es
 |[]=>rfl
 |d::r=>by simp only[Bi8,UV,Rows.uptoBulkAll,Ue r]
def AL4 {H:Type}:Bulk (H:=H) Rows.uptoBulk where
 int k n:=by simp[Rows.uptoBulk]
 bool b:=by simp[Rows.uptoBulk]
 str l:=by simp[Rows.uptoBulk]
 nil:=by simp[Rows.uptoBulk]
 slice es sp:=by simp only[Rows.uptoBulk,Ue];omega
 agg ps:=by simp only[Rows.uptoBulk,Ue];omega
section
variable {H:Type}{enc:TypeId×Value->H}{P:Program}{W:World}
def Ag7 {v:Value}{x:PV}(a:v.cells.toList=[v])(h:CRep W v.cells.toList [x]):Nn W (λ_ _=>False) v x:=by
 have:=(h.2 0 (by simp)).1
 rw[a]at this;exact this
def AL5 {cs:Array Value}{pvs:List PV}(h:CRep W (Value.agg cs).cells.toList pvs):Nn W (λ_ _=>False) (.agg cs) (.agg pvs):=by
 obtain⟨h1,a⟩:=h;have hc:(Value.agg cs).cells.toList=cs.toList:=rfl;rw[hc]at h1 a;have e:∀i,cs.toList.getD i undef=cs.getD i undef:=λi=>by simp[Bg7,Bg5]
 exact .agg cs pvs (by simpa using h1) (λi b=>by rw[<- e];exact (a i b).2) λi b=>by rw[<- e];exact (a i b).1
end
def At1 {n:Int}(hw:(Lit.int .u32 n).wf=true):∃p:BitVec 32,n=(p.toNat:Int):=by
 simp only[Lit.wf,IntKind.min,IntKind.max,IntKind.signed,IntKind.bits,Bh0,Fc]at hw;refine⟨BitVec.ofNat 32 n.toNat,?_⟩;rw[BA4];have a:0<=n:=by have:=hw.1;simpa using this
 have h1:n<4294967296:=by have:=hw.2;simp at this;omega
 rw[Bp7 (by omega),Int.toNat_of_nonneg a]
def AV8 {n:Int}(h:(Lit.int .u8 n).wf=true):∃k:Nat,n=(k:Int)/\k<256:=by
 simp only[Lit.wf,IntKind.min,IntKind.max,IntKind.signed,IntKind.bits,Bh0,Fc]at h;have a:0<=n:=by have:=h.1;simpa using this
 have h1:n<256:=by have:=h.2;simp at this;omega
 exact⟨n.toNat,by omega,by omega⟩
def Wz {W:World}{name:String}{k:IntKind}{zs:List Int}{g:Nat}(a:Tryz.prog.globalNamed name=some g)(h:Lib.TabIs Tryz.prog W name k zs):∃t fr,W.heap[g]? = some (.cells (zs.map λz=>Value.int k z).toArray t fr):=by
 unfold Lib.TabIs World.var? at h;rw[a]at h;simp only[Lw]at h;split at h
 .rename_i cs t fr b;cases h;exact⟨_,_,b⟩
 cases h
def WA {g:Nat}{s:Global}(hs:Tryz.prog.globals[g]? = some s)(name:String)(i:Nat)(key:∀k:Fin Tryz.prog.globals.size,((Tryz.prog.globals[k.1]?.map λs=>s.name==name)==some true)=true->k.1=i)(hn:(s.name==name)=true):g=i:=by have a:g<Tryz.prog.globals.size:=(Bh1.1 hs).1;refine key ⟨g,a⟩ ?_;simp[hs,hn]
def AV9 {W:World}{l:List (String×DataW Unit)}(hp:(l.all λx=>x.2.handleName?.isNone)=true)
 (f:(l.filter λx=>x.1 == "math/bits.deBruijn64tab")=[("math/bits.deBruijn64tab",Lib.tabData .u8 (Lib.deBruijn64tab.map λ(n:Nat)=>(n:Int)))])
 (b:(l.filter λx=>x.1 == "internal/strconv.uint64pow10")=[("internal/strconv.uint64pow10",Lib.tabData .u64 Lib.pow10Tab)])
 (hL:laidMetH Tryz.prog l W):TabE Tryz.prog W (λ_ _=>False) (λ_=>False):=by
 rw[MakeChecks.laidMetH_plain _ _ _ hp]at hL;have c:=laidMet.filter (λx=>x.1 == "math/bits.deBruijn64tab") hL;have d:=laidMet.filter (λx=>x.1 == "internal/strconv.uint64pow10") hL;rw[f]at c;rw[b]at d;have t1:Lib.TabIs Tryz.prog W "math/bits.deBruijn64tab" .u8 (Lib.deBruijn64tab.map λ(n:Nat)=>(n:Int)):=
  Lib.tabIs_of_head (g:=5) (t:=(Tryz.prog.globals[5]?.map (·.type)).getD 0) (e:=(match Tryz.prog.underlying ((Tryz.prog.globals[5]?.map (·.type)).getD 0)with|some (.array _ e)=>e|_=>0)) (n:=64) (by kernel_rfl) (by kernel_rfl) (by kernel_rfl) (by kernel_rfl) (by kernel_rfl) (by kernel_rfl) (rest:=[]) c
 have t2:Lib.TabIs Tryz.prog W "internal/strconv.uint64pow10" .u64 Lib.pow10Tab:=
  Lib.tabIs_of_head (g:=0) (t:=(Tryz.prog.globals[0]?.map (·.type)).getD 0) (e:=(match Tryz.prog.underlying ((Tryz.prog.globals[0]?.map (·.type)).getD 0)with|some (.array _ e)=>e|_=>0)) (n:=20) (by kernel_rfl) (by kernel_rfl) (by kernel_rfl) (by kernel_rfl) (by kernel_rfl) (by kernel_rfl) (rest:=[]) d
 have i:Tryz.prog.globalNamed "math/bits.deBruijn64tab" = some 5:=by kernel_rfl
 have m:Tryz.prog.globalNamed "internal/strconv.uint64pow10" = some 0:=by kernel_rfl
 have r:TabX Tryz.prog W (λ_=>False):=by
  intro g s hs a;refine⟨?_,λh=>h⟩;unfold Ol at a⊢;split at a
  .rename_i hn;obtain rfl:=WA hs _ 5 (by decide +kernel) hn;obtain⟨t,fr,h⟩:=Wz i t1;rw[Ek hn];exact⟨t,fr,by rw[h];simp[Bo3,Bm4]⟩
  rename_i o;split at a
  .rename_i hn;obtain rfl:=WA hs _ 0 (by decide +kernel) hn;obtain⟨t,fr,h⟩:=Wz m t2;rw[Et o,Ek hn];exact⟨t,fr,h⟩
  exact Eu rfl a
 refine⟨λg s j v hs q=>⟨?_,λh=>h⟩,r⟩;have a:Ol s.name≠[]:=by rintro e;rw[e]at q;simp at q
 obtain⟨⟨t,fr,h⟩,_⟩:=r g s hs a;simp only[World.cell?,h];simpa using q
end Go.AM
namespace Go.AM
open Go.RowKit Go.ChangeShapes Go.WideShapes Go.ChangeAt Go.Deep Go.Proofs Go.Proofs.YtcoileenpgjmoaaGreatDoor
set_option maxRecDepth 100000
def NU (x:Kj):Prop:=((Lit.int .u32 x.Plus).wf=true)/\((Lit.int .u32 x.Minus).wf=true)
def EI (x:Kj):Nat:=1+1+1
def Kx:OO Tryz.prog B6 A0 NU EI:=by intro m pvs h;obtain⟨m0,h,a⟩:=Cw Tryz.underlying117 h;obtain⟨a0,b0,p0,q0,rfl,b,h,c⟩:=E6 h;obtain⟨x0,l0,w0,s0⟩:=S3 Br2 _ _ b;have s0:1<=a0:=s0;obtain⟨a1,b1,p1,q1,rfl,h1,h,d⟩:=E6 h;obtain⟨x1,l1,w1,s1⟩:=S3 Br2 _ _ h1;have s1:1<=a1:=s1;obtain rfl:=EK h;exact⟨⟨x0,x1⟩,LeDs.append l0 (LeDs.append l1 LeDs.nil),⟨w0,w1⟩,by simp only[EI];omega⟩
def At2 {x:Kj}(h:NU x):okS x:=by obtain⟨p,hp⟩:=At1 h.1;obtain⟨q,a⟩:=At1 h.2;exact⟨p,q,by cases x;simp_all [sOf]⟩
abbrev ZR (x:Pat):Prop:=okPS x
abbrev WB (x:Pat):Nat:=1
def WC:OO Tryz.prog Gz D4 ZR WB:=by
 intro m
 induction m using Nat.strongRecOn with
 |ind m ih=>
 intro pvs h;obtain⟨m0,h,d⟩:=Cw Tryz.underlying134 h;obtain⟨a0,b0,p0,q0,rfl,j,h,l⟩:=E6 h;obtain⟨x0,l0,w0,s0⟩:=S3 Bm3 _ _ j;have s0:1<=a0:=s0;obtain⟨a1,b1,p1,q1,rfl,h1,h,o⟩:=E6 h;obtain⟨x1,l1,w1,s1⟩:=Kx _ _ h1;have s1:EI x1<=a1:=s1;obtain⟨a2,b2,p2,q2,rfl,q,h,r⟩:=E6 h;obtain⟨x2,l2,w2,s2⟩:=Ad1 Bq2 _ _ q;have s2:1<=a2:=s2;obtain⟨a3,b3,p3,q3,rfl,s,h,t⟩:=E6 h;obtain⟨x3,l3,w3,s3⟩:=S3 Bm3 _ _ s;have s3:1<=a3:=s3;obtain⟨a4,b4,p4,q4,rfl,u,h,v⟩:=E6 h;obtain⟨x4,l4,w4,s4⟩:=S3 Bm3 _ _ u;have s4:1<=a4:=s4;obtain⟨a5,b5,p5,q5,rfl,w,h,y⟩:=E6 h;obtain rfl:=EK h;have a:Tryz.prog.cellsOf 134=7:=by kernel_rfl
 cases w with
 |int ht'=>rw[Bq5]at ht';cases ht'
 |bool ht'=>rw[Bq5]at ht';cases ht'
 |str ht'=>rw[Bq5]at ht';cases ht'
 |struct ht'=>rw[Bq5]at ht';cases ht'
 |arr ht'=>rw[Bq5]at ht';cases ht'
 | @slice _ _ e' n f ms ht' hl hel hm=>rw[Bq5]at ht';cases ht';rw[a];rw[RI]at hm;obtain⟨g,c⟩:=choose_lt (α:=Pat) (p:=λi x=>LeDs (f i) (D4 x)/\ZR x/\1<=ms i) λi b=>ih (ms i) (by have:=An2 ms b;omega) _ (hel i b);exact⟨.mk x0 x1 x2 x3 x4 n g,LeDs.append l0 (LeDs.append l1 (LeDs.append l2 (LeDs.append l3 (LeDs.append l4 (.cons (.sl λi b=>(c i b).1) .nil))))),⟨At2 w1,λi b=>(c i b).2.1⟩,by show 1<=m;omega⟩
def Yw (x:Ej):Prop:=((Lit.int .i64 x.From).wf=true)/\((Lit.int .u32 x.Clear).wf=true)/\(NU x.Set)/\((Lit.int .u32 x.Take).wf=true)/\((Lit.int .i64 x.Of).wf=true)
def Mr (x:Ej):Nat:=1+1+EI x.Set+1+1+1
def Af8:OO Tryz.prog Ao5 Au Yw Mr:=by intro m pvs h;obtain⟨m0,h,a⟩:=Cw Tryz.underlying186 h;obtain⟨a0,b0,p0,q0,rfl,b,h,c⟩:=E6 h;obtain⟨x0,l0,w0,s0⟩:=S3 Bm3 _ _ b;have s0:1<=a0:=s0;obtain⟨a1,b1,p1,q1,rfl,h1,h,d⟩:=E6 h;obtain⟨x1,l1,w1,s1⟩:=S3 Br2 _ _ h1;have s1:1<=a1:=s1;obtain⟨a2,b2,p2,q2,rfl,f,h,g⟩:=E6 h;obtain⟨x2,l2,w2,s2⟩:=Kx _ _ f;have s2:EI x2<=a2:=s2;obtain⟨a3,b3,p3,q3,rfl,i,h,j⟩:=E6 h;obtain⟨x3,l3,w3,s3⟩:=S3 Br2 _ _ i;have s3:1<=a3:=s3;obtain⟨a4,b4,p4,q4,rfl,l,h,n⟩:=E6 h;obtain⟨x4,l4,w4,s4⟩:=S3 Bm3 _ _ l;have s4:1<=a4:=s4;obtain rfl:=EK h;exact⟨⟨x0,x1,x2,x3,x4⟩,LeDs.append l0 (LeDs.append l1 (LeDs.append l2 (LeDs.append l3 (LeDs.append l4 LeDs.nil)))),⟨w0,w1,w2,w3,w4⟩,by simp only[Mr];omega⟩
def ZS (x:Law):Prop:=(True)/\(ZR x.Left)/\(ZR x.Right)/\(∀i,i<x.If.n->NU (x.If.g i))/\(∀i,i<x.Out.n->Yw (x.Out.g i))/\((Lit.int .i64 x.Mode).wf=true)
def LI (x:Law):Nat:=(x.Name.length+1)+WB x.Left+WB x.Right+(LJ (λi=>EI (x.If.g i)) x.If.n+1)+(LJ (λi=>Mr (x.Out.g i)) x.Out.n+1)+1+1
def At3:OO Tryz.prog H3 B5 ZS LI:=by intro m pvs h;obtain⟨m0,h,a⟩:=Cw Tryz.underlying137 h;obtain⟨a0,b0,p0,q0,rfl,b,h,c⟩:=E6 h;obtain⟨x0,l0,w0,s0⟩:=An3 Bs0 _ _ b;have s0:(x0.length+1)<=a0:=s0;obtain⟨a1,b1,p1,q1,rfl,h1,h,d⟩:=E6 h;obtain⟨x1,l1,w1,s1⟩:=WC _ _ h1;have s1:WB x1<=a1:=s1;obtain⟨a2,b2,p2,q2,rfl,f,h,j⟩:=E6 h;obtain⟨x2,l2,w2,s2⟩:=WC _ _ f;have s2:WB x2<=a2:=s2;obtain⟨a3,b3,p3,q3,rfl,l,h,o⟩:=E6 h;obtain⟨x3,l3,w3,s3⟩:=Dm Tryz.underlying64 (by kernel_rfl) Kx _ _ l;have s3:(LJ (λi=>EI (x3.g i)) x3.n+1)<=a3:=s3;obtain⟨a4,b4,p4,q4,rfl,q,h,r⟩:=E6 h;obtain⟨x4,l4,w4,s4⟩:=Dm Tryz.underlying135 (by kernel_rfl) Af8 _ _ q;have s4:(LJ (λi=>Mr (x4.g i)) x4.n+1)<=a4:=s4;obtain⟨a5,b5,p5,q5,rfl,s,h,t⟩:=E6 h;obtain⟨x5,l5,w5,s5⟩:=S3 Bm3 _ _ s;have s5:1<=a5:=s5;obtain rfl:=EK h;exact⟨⟨x0,x1,x2,x3,x4,x5⟩,LeDs.append l0 (LeDs.append l1 (LeDs.append l2 (LeDs.append l3 (LeDs.append l4 (LeDs.append l5 LeDs.nil))))),⟨w0,w1,w2,w3,w4,w5⟩,by simp only[LI];omega⟩
def Uf (x:Small):Prop:=(∀i,i<x.Parents.n->(Lit.int .u8 (x.Parents.g i)).wf=true)/\(∀i,i<x.Laws.n->ZS (x.Laws.g i))/\(∀i,i<x.On.n->(Lit.int .u16 (x.On.g i)).wf=true)
def Ja (x:Small):Nat:=(LJ (λi=>1) x.Parents.n+1)+(LJ (λi=>LI (x.Laws.g i)) x.Laws.n+1)+(LJ (λi=>1) x.On.n+1)+1
def Yx:OO Tryz.prog XQ Ig Uf Ja:=by intro m pvs h;obtain⟨m0,h,a⟩:=Cw Tryz.underlying26 h;obtain⟨a0,b0,p0,q0,rfl,b,h,c⟩:=E6 h;obtain⟨x0,l0,w0,s0⟩:=Dm Bw6 (by kernel_rfl) (S3 Bp5) _ _ b;have s0:(LJ (λi=>1) x0.n+1)<=a0:=s0;obtain⟨a1,b1,p1,q1,rfl,h1,h,d⟩:=E6 h;obtain⟨x1,l1,w1,s1⟩:=Dm Tryz.underlying23 (by kernel_rfl) At3 _ _ h1;have s1:(LJ (λi=>LI (x1.g i)) x1.n+1)<=a1:=s1;obtain⟨a2,b2,p2,q2,rfl,f,h,j⟩:=E6 h;obtain⟨x2,l2,w2,s2⟩:=Dm Tryz.underlying24 (by kernel_rfl) (S3 Bw1) _ _ f;have s2:(LJ (λi=>1) x2.n+1)<=a2:=s2;obtain rfl:=EK h;exact⟨⟨x0,x1,x2⟩,LeDs.append l0 (LeDs.append l1 (LeDs.append l2 LeDs.nil)),⟨w0,w1,w2⟩,by simp only[Ja];omega⟩
def At4 (x:An9):Prop:=(Uf x.H)/\(∀i,i<x.L.n->(Lit.int .u32 (x.L.g i)).wf=true)
def NV (x:An9):Nat:=Ja x.H+(LJ (λi=>1) x.L.n+1)+1
def ZT:OO Tryz.prog Ae2 FF At4 NV:=by intro m pvs h;obtain⟨m0,h,a⟩:=Cw Tryz.underlying29 h;obtain⟨a0,b0,p0,q0,rfl,b,h,c⟩:=E6 h;obtain⟨x0,l0,w0,s0⟩:=Yx _ _ b;have s0:Ja x0<=a0:=s0;obtain⟨a1,b1,p1,q1,rfl,h1,h,d⟩:=E6 h;obtain⟨x1,l1,w1,s1⟩:=Dm Tryz.underlying27 (by kernel_rfl) (S3 Br2) _ _ h1;have s1:(LJ (λi=>1) x1.n+1)<=a1:=s1;obtain rfl:=EK h;exact⟨⟨x0,x1⟩,LeDs.append l0 (LeDs.append l1 LeDs.nil),⟨w0,w1⟩,by simp only[NV];omega⟩
end Go.AM
namespace Go.AM
def At5 {f:Nat->Nat}(h:∀i,1<=f i):∀n,n<=LJ f n
 |0=>Bn9 _
 |n+1=>by
  have:=At5 h n
  have:=h n
  show n+1<=LJ f n+f n;omega
def Bf0 {x:Ej}(h:Yw x):okO x:=⟨At2 h.2.2.1,At1 h.2.1,At1 h.2.2.2.1⟩
def AG8 {l:Law}(h:ZS l)(hs:LI l<=1048576):TV l:=by obtain⟨_,h1,b,c,d,_⟩:=h;unfold LI at hs;have g1:=At5 (f:=λi=>EI (l.If.g i)) (λi=>by simp only[EI];omega) l.If.n;have g2:=At5 (f:=λi=>Mr (l.Out.g i)) (λi=>by simp only[Mr];omega) l.Out.n;exact⟨⟨h1,b,λi a=>At2 (c i a)⟩,by omega,by omega,by omega,λi a=>Bf0 (d i a)⟩
def At6 {x:Sl Law}(h:∀i,i<x.n->ZS (x.g i))(hs:LJ (λi=>LI (x.g i)) x.n+1<=1048576):Db x:=λi a=>
 AG8 (h i a) (by have:=An2 (λi=>LI (x.g i)) a;have this:LI (x.g i)<=_:=this;omega)
def AH1 {n:Int}(h:(Lit.int .u16 n).wf=true):∃k:Nat,n=(k:Int)/\k<65536:=by
 simp only[Lit.wf,IntKind.min,IntKind.max,IntKind.signed,IntKind.bits,Bh0,Fc]at h;have a:0<=n:=by have:=h.1;simpa using this
 have h1:n<65536:=by have:=h.2;simp at this;omega
 exact⟨n.toNat,by omega,by omega⟩
def Af9 {x:Small}(w:Uf x)(hs:Ja x<=1048576):Ud x:=by unfold Ja at hs;exact⟨λi a=>AV8 (w.1 i a),At6 w.2.1 (by omega),λi a=>AH1 (w.2.2 i a)⟩
def Ag8 {x:An9}(w:At4 x)(hs:NV x<=1048576):As8 x:=by unfold NV at hs;exact⟨Af9 w.1 (by omega),λi a=>At1 (w.2 i a)⟩
end Go.AM
