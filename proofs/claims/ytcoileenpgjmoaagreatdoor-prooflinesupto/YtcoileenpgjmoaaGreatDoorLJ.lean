/- Part 10. -/
import Derived.JoinedOf
import Derived.Test.YtcoileenpgjmoaaGreatDoorLE
import Derived.Test.YtcoileenpgjmoaaGreatDoorLF
import Derived.Test.YtcoileenpgjmoaaGreatDoorCards
import Derived.Test.YtcoileenpgjmoaaGreatDoorTie
import Derived.WalkKit
import Derived.ProofKit
import Derived.OpenShut
import Derived.Deep.DeepHandedRow
import Derived.MakeChecks
import Derived.Lib.LaidTab
import Derived.LaidSub
import Derived.Test.YtcoileenpgjmoaaGreatDoorLI
set_option linter.defProp false
set_option linter.unusedSimpArgs false
set_option linter.unusedVariables false
set_option linter.unusedSectionVars false
namespace Go.AM
def Bn0:=@Go.Proofs.Tryz.underlying3
def Bq2:=@Go.Proofs.Tryz.underlying4
def Bq7:=@Go.Proofs.Tryz.underlying87
def Bq9:=@Go.Proofs.Tryz.underlying9
def Br0:=@Go.Proofs.Tryz.underlying5
def Br3:=@Go.Proofs.Tryz.underlying132
def Bw6:=@Go.Proofs.Tryz.underlying30
def Bx2:=@Go.Proofs.Tryz.underlying22
open Go.Rows
def jA_ (P:Program)(f:FuncId)(fn:Func)(s:ChangeSpec)(c:OpenClaim):Bool:= (c.wf (OpenSpec.ofChange s))&&(laidOutB P)&&(mapsRowed P)&&(fn.params.all (P.readableRec ·))&&(namedTie P c.named s.vars)&&(c.stops==[])&&(P.stops==[])&&(c.knobs==[])&&(P.stopKnobs==[])
def jB_ (P:Program)(f:FuncId)(fn:Func)(s:ChangeSpec)(c:OpenClaim):Bool:= (c.inPlace==P.inPlace f)&&(c.unfollowed==P.unfollowed f)
def jC_ (P:Program)(f:FuncId)(fn:Func)(s:ChangeSpec)(c:OpenClaim):Bool:= (c.recurses==P.recurses f)&&(c.named==P.varsNamed f)
def jD_ (P:Program)(f:FuncId)(fn:Func)(s:ChangeSpec)(c:OpenClaim):Bool:= (c.maps==(fn.params.toList++s.plain.varTypes P).any (P.mapsRec ·))&&(c.ifaces==(fn.params.toList++s.plain.varTypes P).any (P.ifacesRec ·))&&(c.mapsOut==P.mapsAmong fn.resultTypes.toList)&&(c.loops==(fn.params.toList++s.plain.varTypes P).any (P.loopsFrom ·))&&(c.wideKeys==(fn.params.toList++s.plain.varTypes P++fn.resultTypes.toList).any (P.wideKeysFrom ·))&&(s.vars.all (P.varReadable ·))&&(fn.resultTypes.all (λt=>P.readableRec t&&decide (t<P.types.size)))&&(c.ifacesOut==fn.resultTypes.toList.any (P.ifacesRec ·))&&(c.loopsOut==fn.resultTypes.toList.any (P.loopsFrom ·))&&(c.plainKeys==P.plainKeys)&&(c.shortTexts.isNone)
def jE_ (P:Program)(f:FuncId)(fn:Func)(s:ChangeSpec)(c:OpenClaim):Bool:= (P.stopsHeard)&&(P.mayEnter)
def jF_ (P:Program)(f:FuncId)(fn:Func)(s:ChangeSpec)(c:OpenClaim):Bool:=
 (c.lifted==P.liftsFinal)&&(P.make==some c.make)&&(c.kinds==(if c.domain.isEmpty then []else fn.params.toList.map λt=>match P.underlying t with|some (.int k)=>some k|_=>none))&&(c.pinned==c.pinnedBy)&&(c.veiled==(fn.params.toList++s.plain.varTypes P++fn.resultTypes.toList).any (P.veiledRec ·))&&(c.veiledFits P fn.params.toList (fn.params.toList++s.plain.varTypes P++fn.resultTypes.toList))
def Ag6 {P:Program}{f:FuncId}{fn:Func}{s:ChangeSpec}{c:OpenClaim}(h1:jA_ P f fn s c=true)(a:jB_ P f fn s c=true)(b:jC_ P f fn s c=true)(d:jD_ P f fn s c=true)(g:jE_ P f fn s c=true)(i:jF_ P f fn s c=true):joinedFacts P f fn s c=true:=by
 have:joinedFacts P f fn s c=(jA_ P f fn s c&&jB_ P f fn s c&&jC_ P f fn s c&&jD_ P f fn s c&&jE_ P f fn s c&&jF_ P f fn s c):=by simp only[joinedFacts,jA_,jB_,jC_,jD_,jE_,jF_,Bool.and_assoc];rfl
 rw[this,h1,a,b,d,g,i];rfl
end Go.AM
namespace Go.AM
open Go.RowKit Go.ChangeShapes Go.WideShapes Go.ChangeAt Go.Deep Go.Proofs Go.Proofs.YtcoileenpgjmoaaGreatDoor
def AW4:Kids Tryz.prog (· < Tryz.prog.types.size):=kids_rows (by kernel_rfl) (by kernel_rfl)
def Uc {H:Type}:∀es:List (DataW H),WC (es.map Rows.uptoBulk)=Rows.uptoBulkAll es
 |[]=>rfl
 |d::r=>by simp only[Bj8,UR,Rows.uptoBulkAll,Uc r]
def AW5 {H:Type}:Bulk (H:=H) Rows.uptoBulk where
 int k n:=by simp[Rows.uptoBulk]
 bool b:=by simp[Rows.uptoBulk]
 str l:=by simp[Rows.uptoBulk]
 nil:=by simp[Rows.uptoBulk]
 slice es sp:=by simp only[Rows.uptoBulk,Uc];omega
 agg ps:=by simp only[Rows.uptoBulk,Uc];omega
section
variable {H:Type}{enc:TypeId×Value->H}{P:Program}{W:World}
def AL7 {v:Value}{x:PV}(a:v.cells.toList=[v])(h:CRep W v.cells.toList [x]):Md W (λ_ _=>False) v x:=by
 have:=(h.2 0 (by simp)).1
 rw[a]at this;exact this
def AL6 {cs:Array Value}{pvs:List PV}(h:CRep W (Value.agg cs).cells.toList pvs):Md W (λ_ _=>False) (.agg cs) (.agg pvs):=by
 obtain⟨h1,a⟩:=h;have hc:(Value.agg cs).cells.toList=cs.toList:=rfl;rw[hc]at h1 a;have e:∀i,cs.toList.getD i undef=cs.getD i undef:=λi=>by simp[Bh8,Bh7]
 exact .agg cs pvs (by simpa using h1) (λi b=>by rw[<- e];exact (a i b).2) λi b=>by rw[<- e];exact (a i b).1
end
def At2 {n:Int}(hw:(Lit.int .u32 n).wf=true):∃p:BitVec 32,n=(p.toNat:Int):=by
 simp only[Lit.wf,IntKind.min,IntKind.max,IntKind.signed,IntKind.bits,Bi1,Fb]at hw;refine⟨BitVec.ofNat 32 n.toNat,?_⟩;rw[BA9];have a:0<=n:=by have:=hw.1;simpa using this
 have h1:n<4294967296:=by have:=hw.2;simp at this;omega
 rw[Bq4 (by omega),Int.toNat_of_nonneg a]
def wf_u8 {n:Int}(h:(Lit.int .u8 n).wf=true):∃k:Nat,n=(k:Int)/\k<256:=by
 simp only[Lit.wf,IntKind.min,IntKind.max,IntKind.signed,IntKind.bits,Bi1,Fb]at h;have a:0<=n:=by have:=h.1;simpa using this
 have h1:n<256:=by have:=h.2;simp at this;omega
 exact⟨n.toNat,by omega,by omega⟩
def Wt {W:World}{name:String}{k:IntKind}{zs:List Int}{g:Nat}(a:Tryz.prog.globalNamed name=some g)(h:Lib.TabIs Tryz.prog W name k zs):∃t fr,W.heap[g]? = some (.cells (zs.map λz=>Value.int k z).toArray t fr):=by
 unfold Lib.TabIs World.var? at h;rw[a]at h;simp only[Lf]at h;split at h
 .rename_i cs t fr b;cases h;exact⟨_,_,b⟩
 cases h
def Wu {g:Nat}{s:Global}(hs:Tryz.prog.globals[g]? = some s)(name:String)(i:Nat)(key:∀k:Fin Tryz.prog.globals.size,((Tryz.prog.globals[k.1]?.map λs=>s.name==name)==some true)=true->k.1=i)(hn:(s.name==name)=true):g=i:=by have a:g<Tryz.prog.globals.size:=(Bi2.1 hs).1;refine key ⟨g,a⟩ ?_;simp[hs,hn]
def AW6 {W:World}{l:List (String×DataW Unit)}(hp:(l.all λx=>x.2.handleName?.isNone)=true)
 (f:(l.filter λx=>x.1 == "math/bits.deBruijn64tab")=[("math/bits.deBruijn64tab",Lib.tabData .u8 (Lib.deBruijn64tab.map λ(n:Nat)=>(n:Int)))])
 (b:(l.filter λx=>x.1 == "internal/strconv.uint64pow10")=[("internal/strconv.uint64pow10",Lib.tabData .u64 Lib.pow10Tab)])
 (hL:laidMetH Tryz.prog l W):TabE Tryz.prog W (λ_ _=>False) (λ_=>False):=by
 rw[MakeChecks.laidMetH_plain _ _ _ hp]at hL;have c:=laidMet.filter (λx=>x.1 == "math/bits.deBruijn64tab") hL;have d:=laidMet.filter (λx=>x.1 == "internal/strconv.uint64pow10") hL;rw[f]at c;rw[b]at d;have t1:Lib.TabIs Tryz.prog W "math/bits.deBruijn64tab" .u8 (Lib.deBruijn64tab.map λ(n:Nat)=>(n:Int)):=
  Lib.tabIs_of_head (g:=5) (t:=(Tryz.prog.globals[5]?.map (·.type)).getD 0) (e:=(match Tryz.prog.underlying ((Tryz.prog.globals[5]?.map (·.type)).getD 0)with|some (.array _ e)=>e|_=>0)) (n:=64) (by kernel_rfl) (by kernel_rfl) (by kernel_rfl) (by kernel_rfl) (by kernel_rfl) (by kernel_rfl) (rest:=[]) c
 have t2:Lib.TabIs Tryz.prog W "internal/strconv.uint64pow10" .u64 Lib.pow10Tab:=
  Lib.tabIs_of_head (g:=0) (t:=(Tryz.prog.globals[0]?.map (·.type)).getD 0) (e:=(match Tryz.prog.underlying ((Tryz.prog.globals[0]?.map (·.type)).getD 0)with|some (.array _ e)=>e|_=>0)) (n:=20) (by kernel_rfl) (by kernel_rfl) (by kernel_rfl) (by kernel_rfl) (by kernel_rfl) (by kernel_rfl) (rest:=[]) d
 have i:Tryz.prog.globalNamed "math/bits.deBruijn64tab" = some 5:=by kernel_rfl
 have m:Tryz.prog.globalNamed "internal/strconv.uint64pow10" = some 0:=by kernel_rfl
 have r:TabX Tryz.prog W (λ_=>False):=by
  intro g s hs a;refine⟨?_,λh=>h⟩;unfold Od at a⊢;split at a
  .rename_i hn;obtain rfl:=Wu hs _ 5 (by decide +kernel) hn;obtain⟨t,fr,h⟩:=Wt i t1;rw[Ej hn];exact⟨t,fr,by rw[h];simp[Bq5,Bn6]⟩
  rename_i o;split at a
  .rename_i hn;obtain rfl:=Wu hs _ 0 (by decide +kernel) hn;obtain⟨t,fr,h⟩:=Wt m t2;rw[Er o,Ej hn];exact⟨t,fr,h⟩
  exact Es rfl a
 refine⟨λg s j v hs q=>⟨?_,λh=>h⟩,r⟩;have a:Od s.name≠[]:=by rintro e;rw[e]at q;simp at q
 obtain⟨⟨t,fr,h⟩,_⟩:=r g s hs a;simp only[World.cell?,h];simpa using q
end Go.AM
namespace Go.AM
open Go.RowKit Go.ChangeShapes Go.WideShapes Go.ChangeAt Go.Deep Go.Proofs Go.Proofs.YtcoileenpgjmoaaGreatDoor
set_option maxRecDepth 100000
def NN (x:Jf):Prop:=((Lit.int .u32 x.Plus).wf=true)/\((Lit.int .u32 x.Minus).wf=true)
def EF (x:Jf):Nat:=1+1+1
def Kv:OI Tryz.prog B6 A0 NN EF:=by intro m pvs h;obtain⟨m0,h,a⟩:=Cw Tryz.underlying117 h;obtain⟨a0,b0,p0,q0,rfl,b,h,c⟩:=E6 h;obtain⟨x0,l0,w0,s0⟩:=T8 Bq7 _ _ b;have s0:1<=a0:=s0;obtain⟨a1,b1,p1,q1,rfl,h1,h,d⟩:=E6 h;obtain⟨x1,l1,w1,s1⟩:=T8 Bq7 _ _ h1;have s1:1<=a1:=s1;obtain rfl:=EH h;exact⟨⟨x0,x1⟩,LeDs.append l0 (LeDs.append l1 LeDs.nil),⟨w0,w1⟩,by simp only[EF];omega⟩
def At3 {x:Jf}(h:NN x):okS x:=by obtain⟨p,hp⟩:=At2 h.1;obtain⟨q,a⟩:=At2 h.2;exact⟨p,q,by cases x;simp_all [sOf]⟩
abbrev ZN (x:Pat):Prop:=okPS x
abbrev Wv (x:Pat):Nat:=1
def Ww:OI Tryz.prog Gz D5 ZN Wv:=by
 intro m
 induction m using Nat.strongRecOn with
 |ind m ih=>
 intro pvs h;obtain⟨m0,h,d⟩:=Cw Tryz.underlying134 h;obtain⟨a0,b0,p0,q0,rfl,j,h,l⟩:=E6 h;obtain⟨x0,l0,w0,s0⟩:=T8 Bn0 _ _ j;have s0:1<=a0:=s0;obtain⟨a1,b1,p1,q1,rfl,h1,h,o⟩:=E6 h;obtain⟨x1,l1,w1,s1⟩:=Kv _ _ h1;have s1:EF x1<=a1:=s1;obtain⟨a2,b2,p2,q2,rfl,q,h,r⟩:=E6 h;obtain⟨x2,l2,w2,s2⟩:=Ac6 Bq2 _ _ q;have s2:1<=a2:=s2;obtain⟨a3,b3,p3,q3,rfl,s,h,t⟩:=E6 h;obtain⟨x3,l3,w3,s3⟩:=T8 Bn0 _ _ s;have s3:1<=a3:=s3;obtain⟨a4,b4,p4,q4,rfl,u,h,v⟩:=E6 h;obtain⟨x4,l4,w4,s4⟩:=T8 Bn0 _ _ u;have s4:1<=a4:=s4;obtain⟨a5,b5,p5,q5,rfl,w,h,y⟩:=E6 h;obtain rfl:=EH h;have a:Tryz.prog.cellsOf 134=7:=by kernel_rfl
 cases w with
 |int ht'=>rw[Br3]at ht';cases ht'
 |bool ht'=>rw[Br3]at ht';cases ht'
 |str ht'=>rw[Br3]at ht';cases ht'
 |struct ht'=>rw[Br3]at ht';cases ht'
 |arr ht'=>rw[Br3]at ht';cases ht'
 | @slice _ _ e' n f ms ht' hl hel hm=>rw[Br3]at ht';cases ht';rw[a];rw[RF]at hm;obtain⟨g,c⟩:=choose_lt (α:=Pat) (p:=λi x=>LeDs (f i) (D5 x)/\ZN x/\1<=ms i) λi b=>ih (ms i) (by have:=Am8 ms b;omega) _ (hel i b);exact⟨.mk x0 x1 x2 x3 x4 n g,LeDs.append l0 (LeDs.append l1 (LeDs.append l2 (LeDs.append l3 (LeDs.append l4 (.cons (.sl λi b=>(c i b).1) .nil))))),⟨At3 w1,λi b=>(c i b).2.1⟩,by show 1<=m;omega⟩
def Yo (x:Ei):Prop:=((Lit.int .i64 x.From).wf=true)/\((Lit.int .u32 x.Clear).wf=true)/\(NN x.Set)/\((Lit.int .u32 x.Take).wf=true)/\((Lit.int .i64 x.Of).wf=true)
def Mm (x:Ei):Nat:=1+1+EF x.Set+1+1+1
def Af6:OI Tryz.prog Ao1 Ao Yo Mm:=by intro m pvs h;obtain⟨m0,h,a⟩:=Cw Tryz.underlying186 h;obtain⟨a0,b0,p0,q0,rfl,b,h,c⟩:=E6 h;obtain⟨x0,l0,w0,s0⟩:=T8 Bn0 _ _ b;have s0:1<=a0:=s0;obtain⟨a1,b1,p1,q1,rfl,h1,h,d⟩:=E6 h;obtain⟨x1,l1,w1,s1⟩:=T8 Bq7 _ _ h1;have s1:1<=a1:=s1;obtain⟨a2,b2,p2,q2,rfl,f,h,g⟩:=E6 h;obtain⟨x2,l2,w2,s2⟩:=Kv _ _ f;have s2:EF x2<=a2:=s2;obtain⟨a3,b3,p3,q3,rfl,i,h,j⟩:=E6 h;obtain⟨x3,l3,w3,s3⟩:=T8 Bq7 _ _ i;have s3:1<=a3:=s3;obtain⟨a4,b4,p4,q4,rfl,l,h,n⟩:=E6 h;obtain⟨x4,l4,w4,s4⟩:=T8 Bn0 _ _ l;have s4:1<=a4:=s4;obtain rfl:=EH h;exact⟨⟨x0,x1,x2,x3,x4⟩,LeDs.append l0 (LeDs.append l1 (LeDs.append l2 (LeDs.append l3 (LeDs.append l4 LeDs.nil)))),⟨w0,w1,w2,w3,w4⟩,by simp only[Mm];omega⟩
def ZO (x:Law):Prop:=(True)/\(ZN x.Left)/\(ZN x.Right)/\(∀i,i<x.If.n->NN (x.If.g i))/\(∀i,i<x.Out.n->Yo (x.Out.g i))/\((Lit.int .i64 x.Mode).wf=true)
def LG (x:Law):Nat:=(x.Name.length+1)+Wv x.Left+Wv x.Right+(LI (λi=>EF (x.If.g i)) x.If.n+1)+(LI (λi=>Mm (x.Out.g i)) x.Out.n+1)+1+1
def At4:OI Tryz.prog H5 B4 ZO LG:=by intro m pvs h;obtain⟨m0,h,a⟩:=Cw Tryz.underlying137 h;obtain⟨a0,b0,p0,q0,rfl,b,h,c⟩:=E6 h;obtain⟨x0,l0,w0,s0⟩:=Am9 Bq9 _ _ b;have s0:(x0.length+1)<=a0:=s0;obtain⟨a1,b1,p1,q1,rfl,h1,h,d⟩:=E6 h;obtain⟨x1,l1,w1,s1⟩:=Ww _ _ h1;have s1:Wv x1<=a1:=s1;obtain⟨a2,b2,p2,q2,rfl,f,h,j⟩:=E6 h;obtain⟨x2,l2,w2,s2⟩:=Ww _ _ f;have s2:Wv x2<=a2:=s2;obtain⟨a3,b3,p3,q3,rfl,l,h,o⟩:=E6 h;obtain⟨x3,l3,w3,s3⟩:=Dm Tryz.underlying64 (by kernel_rfl) Kv _ _ l;have s3:(LI (λi=>EF (x3.g i)) x3.n+1)<=a3:=s3;obtain⟨a4,b4,p4,q4,rfl,q,h,r⟩:=E6 h;obtain⟨x4,l4,w4,s4⟩:=Dm Tryz.underlying135 (by kernel_rfl) Af6 _ _ q;have s4:(LI (λi=>Mm (x4.g i)) x4.n+1)<=a4:=s4;obtain⟨a5,b5,p5,q5,rfl,s,h,t⟩:=E6 h;obtain⟨x5,l5,w5,s5⟩:=T8 Bn0 _ _ s;have s5:1<=a5:=s5;obtain rfl:=EH h;exact⟨⟨x0,x1,x2,x3,x4,x5⟩,LeDs.append l0 (LeDs.append l1 (LeDs.append l2 (LeDs.append l3 (LeDs.append l4 (LeDs.append l5 LeDs.nil))))),⟨w0,w1,w2,w3,w4,w5⟩,by simp only[LG];omega⟩
def Ud (x:Small):Prop:=(∀i,i<x.Parents.n->(Lit.int .u8 (x.Parents.g i)).wf=true)/\(∀i,i<x.Laws.n->ZO (x.Laws.g i))/\(∀i,i<x.On.n->(Lit.int .u16 (x.On.g i)).wf=true)
def IZ (x:Small):Nat:=(LI (λi=>1) x.Parents.n+1)+(LI (λi=>LG (x.Laws.g i)) x.Laws.n+1)+(LI (λi=>1) x.On.n+1)+1
def Yp:OI Tryz.prog XM Ib Ud IZ:=by intro m pvs h;obtain⟨m0,h,a⟩:=Cw Tryz.underlying26 h;obtain⟨a0,b0,p0,q0,rfl,b,h,c⟩:=E6 h;obtain⟨x0,l0,w0,s0⟩:=Dm Bx2 (by kernel_rfl) (T8 Br0) _ _ b;have s0:(LI (λi=>1) x0.n+1)<=a0:=s0;obtain⟨a1,b1,p1,q1,rfl,h1,h,d⟩:=E6 h;obtain⟨x1,l1,w1,s1⟩:=Dm Tryz.underlying23 (by kernel_rfl) At4 _ _ h1;have s1:(LI (λi=>LG (x1.g i)) x1.n+1)<=a1:=s1;obtain⟨a2,b2,p2,q2,rfl,f,h,j⟩:=E6 h;obtain⟨x2,l2,w2,s2⟩:=Dm Tryz.underlying24 (by kernel_rfl) (T8 Bw6) _ _ f;have s2:(LI (λi=>1) x2.n+1)<=a2:=s2;obtain rfl:=EH h;exact⟨⟨x0,x1,x2⟩,LeDs.append l0 (LeDs.append l1 (LeDs.append l2 LeDs.nil)),⟨w0,w1,w2⟩,by simp only[IZ];omega⟩
def At5 (x:An5):Prop:=(Ud x.H)/\(∀i,i<x.L.n->(Lit.int .u32 (x.L.g i)).wf=true)
def NO (x:An5):Nat:=IZ x.H+(LI (λi=>1) x.L.n+1)+1
def ZP:OI Tryz.prog Ad7 FD At5 NO:=by intro m pvs h;obtain⟨m0,h,a⟩:=Cw Tryz.underlying29 h;obtain⟨a0,b0,p0,q0,rfl,b,h,c⟩:=E6 h;obtain⟨x0,l0,w0,s0⟩:=Yp _ _ b;have s0:IZ x0<=a0:=s0;obtain⟨a1,b1,p1,q1,rfl,h1,h,d⟩:=E6 h;obtain⟨x1,l1,w1,s1⟩:=Dm Tryz.underlying27 (by kernel_rfl) (T8 Bq7) _ _ h1;have s1:(LI (λi=>1) x1.n+1)<=a1:=s1;obtain rfl:=EH h;exact⟨⟨x0,x1⟩,LeDs.append l0 (LeDs.append l1 LeDs.nil),⟨w0,w1⟩,by simp only[NO];omega⟩
end Go.AM
namespace Go.AM
def At6 {f:Nat->Nat}(h:∀i,1<=f i):∀n,n<=LI f n
 |0=>Bp2 _
 |n+1=>by
  have:=At6 h n
  have:=h n
  show n+1<=LI f n+f n;omega
def Bg2 {x:Ei}(h:Yo x):okO x:=⟨At3 h.2.2.1,At2 h.2.1,At2 h.2.2.2.1⟩
def AH2 {l:Law}(h:ZO l)(hs:LG l<=1048576):QU l:=by obtain⟨_,h1,b,c,d,_⟩:=h;unfold LG at hs;have g1:=At6 (f:=λi=>EF (l.If.g i)) (λi=>by simp only[EF];omega) l.If.n;have g2:=At6 (f:=λi=>Mm (l.Out.g i)) (λi=>by simp only[Mm];omega) l.Out.n;exact⟨⟨h1,b,λi a=>At3 (c i a)⟩,by omega,by omega,by omega,λi a=>Bg2 (d i a)⟩
def At7 {x:Sl Law}(h:∀i,i<x.n->ZO (x.g i))(hs:LI (λi=>LG (x.g i)) x.n+1<=1048576):BX x:=λi a=>
 AH2 (h i a) (by have:=Am8 (λi=>LG (x.g i)) a;have this:LG (x.g i)<=_:=this;omega)
def AH5 {n:Int}(h:(Lit.int .u16 n).wf=true):∃k:Nat,n=(k:Int)/\k<65536:=by
 simp only[Lit.wf,IntKind.min,IntKind.max,IntKind.signed,IntKind.bits,Bi1,Fb]at h;have a:0<=n:=by have:=h.1;simpa using this
 have h1:n<65536:=by have:=h.2;simp at this;omega
 exact⟨n.toNat,by omega,by omega⟩
def Af7 {x:Small}(w:Ud x)(hs:IZ x<=1048576):TZ x:=by unfold IZ at hs;exact⟨λi a=>wf_u8 (w.1 i a),At7 w.2.1 (by omega),λi a=>AH5 (w.2.2 i a)⟩
def Ag5 {x:An5}(w:At5 x)(hs:NO x<=1048576):As8 x:=by unfold NO at hs;exact⟨Af7 w.1 (by omega),λi a=>At2 (w.2 i a)⟩
end Go.AM
