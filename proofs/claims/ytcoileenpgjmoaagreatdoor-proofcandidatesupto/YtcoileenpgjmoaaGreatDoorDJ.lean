/- Part 10. -/
import Derived.JoinedOf
import Derived.Test.YtcoileenpgjmoaaGreatDoorDE
import Derived.Test.YtcoileenpgjmoaaGreatDoorDF
import Derived.Test.YtcoileenpgjmoaaGreatDoorCards
import Derived.Test.YtcoileenpgjmoaaGreatDoorTie
import Derived.WalkKit
import Derived.ProofKit
import Derived.OpenShut
import Derived.Deep.DeepHandedRow
import Derived.MakeChecks
import Derived.Lib.LaidTab
import Derived.LaidSub
import Derived.Test.YtcoileenpgjmoaaGreatDoorDI
set_option linter.defProp false
set_option linter.unusedSimpArgs false
set_option linter.unusedVariables false
set_option linter.unusedSectionVars false
namespace Go.AM
def Bl2:=@Go.Proofs.Tryz.underlying3
def Bn1:=@Go.Proofs.Tryz.underlying5
def Bo9:=@Go.Proofs.Tryz.underlying4
def Bp3:=@Go.Proofs.Tryz.underlying132
def Bq0:=@Go.Proofs.Tryz.underlying87
def Bq8:=@Go.Proofs.Tryz.underlying9
def Br6:=@Go.Proofs.Tryz.underlying22
open Go.Rows
def jA_ (P:Program)(f:FuncId)(fn:Func)(s:ChangeSpec)(c:OpenClaim):Bool:= (c.wf (OpenSpec.ofChange s))&&(laidOutB P)&&(mapsRowed P)&&(fn.params.all (P.readableRec ·))&&(namedTie P c.named s.vars)&&(c.stops==[])&&(P.stops==[])&&(c.knobs==[])&&(P.stopKnobs==[])
def jB_ (P:Program)(f:FuncId)(fn:Func)(s:ChangeSpec)(c:OpenClaim):Bool:= (c.inPlace==P.inPlace f)&&(c.unfollowed==P.unfollowed f)
def jC_ (P:Program)(f:FuncId)(fn:Func)(s:ChangeSpec)(c:OpenClaim):Bool:= (c.recurses==P.recurses f)&&(c.named==P.varsNamed f)
def jD_ (P:Program)(f:FuncId)(fn:Func)(s:ChangeSpec)(c:OpenClaim):Bool:= (c.maps==(fn.params.toList++s.plain.varTypes P).any (P.mapsRec ·))&&(c.ifaces==(fn.params.toList++s.plain.varTypes P).any (P.ifacesRec ·))&&(c.mapsOut==P.mapsAmong fn.resultTypes.toList)&&(c.loops==(fn.params.toList++s.plain.varTypes P).any (P.loopsFrom ·))&&(c.wideKeys==(fn.params.toList++s.plain.varTypes P++fn.resultTypes.toList).any (P.wideKeysFrom ·))&&(s.vars.all (P.varReadable ·))&&(fn.resultTypes.all (λt=>P.readableRec t&&decide (t<P.types.size)))&&(c.ifacesOut==fn.resultTypes.toList.any (P.ifacesRec ·))&&(c.loopsOut==fn.resultTypes.toList.any (P.loopsFrom ·))&&(c.plainKeys==P.plainKeys)&&(c.shortTexts.isNone)
def jE_ (P:Program)(f:FuncId)(fn:Func)(s:ChangeSpec)(c:OpenClaim):Bool:= (P.stopsHeard)&&(P.mayEnter)
def jF_ (P:Program)(f:FuncId)(fn:Func)(s:ChangeSpec)(c:OpenClaim):Bool:=
 (c.lifted==P.liftsFinal)&&(P.make==some c.make)&&(c.kinds==(if c.domain.isEmpty then []else fn.params.toList.map λt=>match P.underlying t with|some (.int k)=>some k|_=>none))&&(c.pinned==c.pinnedBy)&&(c.veiled==(fn.params.toList++s.plain.varTypes P++fn.resultTypes.toList).any (P.veiledRec ·))&&(c.veiledFits P fn.params.toList (fn.params.toList++s.plain.varTypes P++fn.resultTypes.toList))
def Af7 {P:Program}{f:FuncId}{fn:Func}{s:ChangeSpec}{c:OpenClaim}(h1:jA_ P f fn s c=true)(a:jB_ P f fn s c=true)(b:jC_ P f fn s c=true)(d:jD_ P f fn s c=true)(g:jE_ P f fn s c=true)(i:jF_ P f fn s c=true):joinedFacts P f fn s c=true:=by
 have:joinedFacts P f fn s c=(jA_ P f fn s c&&jB_ P f fn s c&&jC_ P f fn s c&&jD_ P f fn s c&&jE_ P f fn s c&&jF_ P f fn s c):=by simp only[joinedFacts,jA_,jB_,jC_,jD_,jE_,jF_,Bool.and_assoc];rfl
 rw[this,h1,a,b,d,g,i];rfl
end Go.AM
namespace Go.AM
open Go.RowKit Go.ChangeShapes Go.WideShapes Go.ChangeAt Go.Deep Go.Proofs Go.Proofs.YtcoileenpgjmoaaGreatDoor
theorem AK1:Kids Tryz.prog (· < Tryz.prog.types.size):=kids_rows (by kernel_rfl) (by kernel_rfl)
theorem TT {H:Type}:∀es:List (DataW H),Wy (es.map Rows.uptoBulk)=Rows.uptoBulkAll es
 |[]=>rfl
 |d::r=>by simp only[Bh7,UL,Rows.uptoBulkAll,TT r]
theorem AK2 {H:Type}:Bulk (H:=H) Rows.uptoBulk where
 int k n:=by simp[Rows.uptoBulk]
 bool b:=by simp[Rows.uptoBulk]
 str l:=by simp[Rows.uptoBulk]
 nil:=by simp[Rows.uptoBulk]
 slice es sp:=by simp only[Rows.uptoBulk,TT];omega
 agg ps:=by simp only[Rows.uptoBulk,TT];omega
section
variable {H:Type}{enc:TypeId×Value->H}{P:Program}{W:World}
theorem Af5 {v:Value}{x:PV}(a:v.cells.toList=[v])(h:CRep W v.cells.toList [x]):RepP W (λ_ _=>False) v x:=by
 have:=(h.2 0 (by simp)).1
 rw[a]at this;exact this
theorem AK3 {cs:Array Value}{pvs:List PV}(h:CRep W (Value.agg cs).cells.toList pvs):RepP W (λ_ _=>False) (.agg cs) (.agg pvs):=by
 obtain⟨h1,a⟩:=h;have hc:(Value.agg cs).cells.toList=cs.toList:=rfl;rw[hc]at h1 a;have e:∀i,cs.toList.getD i undef=cs.getD i undef:=λi=>by simp[Bf7,Bf5]
 exact .agg cs pvs (by simpa using h1) (λi b=>by rw[<- e];exact (a i b).2) λi b=>by rw[<- e];exact (a i b).1
end
theorem Ar9 {n:Int}(hw:(Lit.int .u32 n).wf=true):∃p:BitVec 32,n=(p.toNat:Int):=by
 simp only[Lit.wf,IntKind.min,IntKind.max,IntKind.signed,IntKind.bits,Bg0,Fa]at hw;refine⟨BitVec.ofNat 32 n.toNat,?_⟩;rw[Bz4];have a:0<=n:=by have:=hw.1;simpa using this
 have h1:n<4294967296:=by have:=hw.2;simp at this;omega
 rw[Bo4 (by omega),Int.toNat_of_nonneg a]
theorem AK4 {n:Int}(h:(Lit.int .u8 n).wf=true):∃k:Nat,n=(k:Int)/\k<256:=by
 simp only[Lit.wf,IntKind.min,IntKind.max,IntKind.signed,IntKind.bits,Bg0,Fa]at h;have a:0<=n:=by have:=h.1;simpa using this
 have h1:n<256:=by have:=h.2;simp at this;omega
 exact⟨n.toNat,by omega,by omega⟩
theorem Wq {W:World}{name:String}{k:IntKind}{zs:List Int}{g:Nat}(a:Tryz.prog.globalNamed name=some g)(h:Lib.TabIs Tryz.prog W name k zs):∃t fr,W.heap[g]? = some (.cells (zs.map λz=>Value.int k z).toArray t fr):=by
 unfold Lib.TabIs World.var? at h;rw[a]at h;simp only[Ki]at h;split at h
 .rename_i cs t fr b;cases h;exact⟨_,_,b⟩
 cases h
theorem Wr {g:Nat}{s:Global}(hs:Tryz.prog.globals[g]? = some s)(name:String)(i:Nat)(key:∀k:Fin Tryz.prog.globals.size,((Tryz.prog.globals[k.1]?.map λs=>s.name==name)==some true)=true->k.1=i)(hn:(s.name==name)=true):g=i:=by have a:g<Tryz.prog.globals.size:=(Bg1.1 hs).1;refine key ⟨g,a⟩ ?_;simp[hs,hn]
theorem AU5 {W:World}{l:List (String×DataW Unit)}(hp:(l.all λx=>x.2.handleName?.isNone)=true)
 (f:(l.filter λx=>x.1 == "math/bits.deBruijn64tab")=[("math/bits.deBruijn64tab",Lib.tabData .u8 (Lib.deBruijn64tab.map λ(n:Nat)=>(n:Int)))])
 (b:(l.filter λx=>x.1 == "internal/strconv.uint64pow10")=[("internal/strconv.uint64pow10",Lib.tabData .u64 Lib.pow10Tab)])
 (hL:laidMetH Tryz.prog l W):TabE Tryz.prog W (λ_ _=>False) (λ_=>False):=by
 rw[MakeChecks.laidMetH_plain _ _ _ hp]at hL;have c:=laidMet.filter (λx=>x.1 == "math/bits.deBruijn64tab") hL;have d:=laidMet.filter (λx=>x.1 == "internal/strconv.uint64pow10") hL;rw[f]at c;rw[b]at d;have t1:Lib.TabIs Tryz.prog W "math/bits.deBruijn64tab" .u8 (Lib.deBruijn64tab.map λ(n:Nat)=>(n:Int)):=
  Lib.tabIs_of_head (g:=5) (t:=(Tryz.prog.globals[5]?.map (·.type)).getD 0) (e:=(match Tryz.prog.underlying ((Tryz.prog.globals[5]?.map (·.type)).getD 0)with|some (.array _ e)=>e|_=>0)) (n:=64) (by kernel_rfl) (by kernel_rfl) (by kernel_rfl) (by kernel_rfl) (by kernel_rfl) (by kernel_rfl) (rest:=[]) c
 have t2:Lib.TabIs Tryz.prog W "internal/strconv.uint64pow10" .u64 Lib.pow10Tab:=
  Lib.tabIs_of_head (g:=0) (t:=(Tryz.prog.globals[0]?.map (·.type)).getD 0) (e:=(match Tryz.prog.underlying ((Tryz.prog.globals[0]?.map (·.type)).getD 0)with|some (.array _ e)=>e|_=>0)) (n:=20) (by kernel_rfl) (by kernel_rfl) (by kernel_rfl) (by kernel_rfl) (by kernel_rfl) (by kernel_rfl) (rest:=[]) d
 have i:Tryz.prog.globalNamed "math/bits.deBruijn64tab" = some 5:=by kernel_rfl
 have m:Tryz.prog.globalNamed "internal/strconv.uint64pow10" = some 0:=by kernel_rfl
 have r:TabX Tryz.prog W (λ_=>False):=by
  intro g s hs a;refine⟨?_,λh=>h⟩;unfold Ob at a⊢;split at a
  .rename_i hn;obtain rfl:=Wr hs _ 5 (by decide +kernel) hn;obtain⟨t,fr,h⟩:=Wq i t1;rw[Ej hn];exact⟨t,fr,by rw[h];simp[Bn4,Bl3]⟩
  rename_i o;split at a
  .rename_i hn;obtain rfl:=Wr hs _ 0 (by decide +kernel) hn;obtain⟨t,fr,h⟩:=Wq m t2;rw[Er o,Ej hn];exact⟨t,fr,h⟩
  exact Es rfl a
 refine⟨λg s j v hs q=>⟨?_,λh=>h⟩,r⟩;have a:Ob s.name≠[]:=by rintro e;rw[e]at q;simp at q
 obtain⟨⟨t,fr,h⟩,_⟩:=r g s hs a;simp only[World.cell?,h];simpa using q
end Go.AM
namespace Go.AM
open Go.RowKit Go.ChangeShapes Go.WideShapes Go.ChangeAt Go.Deep Go.Proofs Go.Proofs.YtcoileenpgjmoaaGreatDoor
set_option maxRecDepth 100000
def NL (x:Jb):Prop:=((Lit.int .u32 x.Plus).wf=true)/\((Lit.int .u32 x.Minus).wf=true)
def EF (x:Jb):Nat:=1+1+1
def Ks:OF Tryz.prog B5 A0 NL EF:=by intro m pvs h;obtain⟨m0,h,a⟩:=Cy Tryz.underlying117 h;obtain⟨a0,b0,p0,q0,rfl,b,h,c⟩:=E7 h;obtain⟨x0,l0,w0,s0⟩:=S1 Bq0 _ _ b;have s0:1<=a0:=s0;obtain⟨a1,b1,p1,q1,rfl,h1,h,d⟩:=E7 h;obtain⟨x1,l1,w1,s1⟩:=S1 Bq0 _ _ h1;have s1:1<=a1:=s1;obtain rfl:=EH h;exact⟨⟨x0,x1⟩,LeDs.append l0 (LeDs.append l1 LeDs.nil),⟨w0,w1⟩,by simp only[EF];omega⟩
def As0 {x:Jb}(h:NL x):okS x:=by obtain⟨p,hp⟩:=Ar9 h.1;obtain⟨q,a⟩:=Ar9 h.2;exact⟨p,q,by cases x;simp_all [sOf]⟩
abbrev ZF (x:Pat):Prop:=okPS x
abbrev Ws (x:Pat):Nat:=1
def Wt:OF Tryz.prog Gv D6 ZF Ws:=by
 intro m
 induction m using Nat.strongRecOn with
 |ind m ih=>
 intro pvs h;obtain⟨m0,h,d⟩:=Cy Tryz.underlying134 h;obtain⟨a0,b0,p0,q0,rfl,j,h,l⟩:=E7 h;obtain⟨x0,l0,w0,s0⟩:=S1 Bl2 _ _ j;have s0:1<=a0:=s0;obtain⟨a1,b1,p1,q1,rfl,h1,h,o⟩:=E7 h;obtain⟨x1,l1,w1,s1⟩:=Ks _ _ h1;have s1:EF x1<=a1:=s1;obtain⟨a2,b2,p2,q2,rfl,q,h,r⟩:=E7 h;obtain⟨x2,l2,w2,s2⟩:=Ab9 Bo9 _ _ q;have s2:1<=a2:=s2;obtain⟨a3,b3,p3,q3,rfl,s,h,t⟩:=E7 h;obtain⟨x3,l3,w3,s3⟩:=S1 Bl2 _ _ s;have s3:1<=a3:=s3;obtain⟨a4,b4,p4,q4,rfl,u,h,v⟩:=E7 h;obtain⟨x4,l4,w4,s4⟩:=S1 Bl2 _ _ u;have s4:1<=a4:=s4;obtain⟨a5,b5,p5,q5,rfl,w,h,y⟩:=E7 h;obtain rfl:=EH h;have a:Tryz.prog.cellsOf 134=7:=by kernel_rfl
 cases w with
 |int ht'=>rw[Bp3]at ht';cases ht'
 |bool ht'=>rw[Bp3]at ht';cases ht'
 |str ht'=>rw[Bp3]at ht';cases ht'
 |struct ht'=>rw[Bp3]at ht';cases ht'
 |arr ht'=>rw[Bp3]at ht';cases ht'
 | @slice _ _ e' n f ms ht' hl hel hm=>rw[Bp3]at ht';cases ht';rw[a];rw[Rv]at hm;obtain⟨g,c⟩:=choose_lt (α:=Pat) (p:=λi x=>LeDs (f i) (D6 x)/\ZF x/\1<=ms i) λi b=>ih (ms i) (by have:=Al9 ms b;omega) _ (hel i b);exact⟨.mk x0 x1 x2 x3 x4 n g,LeDs.append l0 (LeDs.append l1 (LeDs.append l2 (LeDs.append l3 (LeDs.append l4 (.cons (.sl λi b=>(c i b).1) .nil))))),⟨As0 w1,λi b=>(c i b).2.1⟩,by show 1<=m;omega⟩
def Yn (x:Ei):Prop:=((Lit.int .i64 x.From).wf=true)/\((Lit.int .u32 x.Clear).wf=true)/\(NL x.Set)/\((Lit.int .u32 x.Take).wf=true)/\((Lit.int .i64 x.Of).wf=true)
def Mj (x:Ei):Nat:=1+1+EF x.Set+1+1+1
def Ae6:OF Tryz.prog An2 Aq Yn Mj:=by intro m pvs h;obtain⟨m0,h,a⟩:=Cy Tryz.underlying186 h;obtain⟨a0,b0,p0,q0,rfl,b,h,c⟩:=E7 h;obtain⟨x0,l0,w0,s0⟩:=S1 Bl2 _ _ b;have s0:1<=a0:=s0;obtain⟨a1,b1,p1,q1,rfl,h1,h,d⟩:=E7 h;obtain⟨x1,l1,w1,s1⟩:=S1 Bq0 _ _ h1;have s1:1<=a1:=s1;obtain⟨a2,b2,p2,q2,rfl,f,h,g⟩:=E7 h;obtain⟨x2,l2,w2,s2⟩:=Ks _ _ f;have s2:EF x2<=a2:=s2;obtain⟨a3,b3,p3,q3,rfl,i,h,j⟩:=E7 h;obtain⟨x3,l3,w3,s3⟩:=S1 Bq0 _ _ i;have s3:1<=a3:=s3;obtain⟨a4,b4,p4,q4,rfl,l,h,n⟩:=E7 h;obtain⟨x4,l4,w4,s4⟩:=S1 Bl2 _ _ l;have s4:1<=a4:=s4;obtain rfl:=EH h;exact⟨⟨x0,x1,x2,x3,x4⟩,LeDs.append l0 (LeDs.append l1 (LeDs.append l2 (LeDs.append l3 (LeDs.append l4 LeDs.nil)))),⟨w0,w1,w2,w3,w4⟩,by simp only[Mj];omega⟩
def ZG (x:Law):Prop:=(True)/\(ZF x.Left)/\(ZF x.Right)/\(∀i,i<x.If.n->NL (x.If.g i))/\(∀i,i<x.Out.n->Yn (x.Out.g i))/\((Lit.int .i64 x.Mode).wf=true)
def LC (x:Law):Nat:=(x.Name.length+1)+Ws x.Left+Ws x.Right+(Ku (λi=>EF (x.If.g i)) x.If.n+1)+(Ku (λi=>Mj (x.Out.g i)) x.Out.n+1)+1+1
def As1:OF Tryz.prog H5 B3 ZG LC:=by intro m pvs h;obtain⟨m0,h,a⟩:=Cy Tryz.underlying137 h;obtain⟨a0,b0,p0,q0,rfl,b,h,c⟩:=E7 h;obtain⟨x0,l0,w0,s0⟩:=Am0 Bq8 _ _ b;have s0:(x0.length+1)<=a0:=s0;obtain⟨a1,b1,p1,q1,rfl,h1,h,d⟩:=E7 h;obtain⟨x1,l1,w1,s1⟩:=Wt _ _ h1;have s1:Ws x1<=a1:=s1;obtain⟨a2,b2,p2,q2,rfl,f,h,j⟩:=E7 h;obtain⟨x2,l2,w2,s2⟩:=Wt _ _ f;have s2:Ws x2<=a2:=s2;obtain⟨a3,b3,p3,q3,rfl,l,h,o⟩:=E7 h;obtain⟨x3,l3,w3,s3⟩:=Cf Tryz.underlying64 (by kernel_rfl) Ks _ _ l;have s3:(Ku (λi=>EF (x3.g i)) x3.n+1)<=a3:=s3;obtain⟨a4,b4,p4,q4,rfl,q,h,r⟩:=E7 h;obtain⟨x4,l4,w4,s4⟩:=Cf Tryz.underlying135 (by kernel_rfl) Ae6 _ _ q;have s4:(Ku (λi=>Mj (x4.g i)) x4.n+1)<=a4:=s4;obtain⟨a5,b5,p5,q5,rfl,s,h,t⟩:=E7 h;obtain⟨x5,l5,w5,s5⟩:=S1 Bl2 _ _ s;have s5:1<=a5:=s5;obtain rfl:=EH h;exact⟨⟨x0,x1,x2,x3,x4,x5⟩,LeDs.append l0 (LeDs.append l1 (LeDs.append l2 (LeDs.append l3 (LeDs.append l4 (LeDs.append l5 LeDs.nil))))),⟨w0,w1,w2,w3,w4,w5⟩,by simp only[LC];omega⟩
def TV (x:Small):Prop:=(∀i,i<x.Parents.n->(Lit.int .u8 (x.Parents.g i)).wf=true)/\(∀i,i<x.Laws.n->ZG (x.Laws.g i))/\(∀i,i<x.On.n->(Lit.int .u16 (x.On.g i)).wf=true)
def IW (x:Small):Nat:=(Ku (λi=>1) x.Parents.n+1)+(Ku (λi=>LC (x.Laws.g i)) x.Laws.n+1)+(Ku (λi=>1) x.On.n+1)+1
def Yo:OF Tryz.prog XG Ia TV IW:=by intro m pvs h;obtain⟨m0,h,a⟩:=Cy Tryz.underlying26 h;obtain⟨a0,b0,p0,q0,rfl,b,h,c⟩:=E7 h;obtain⟨x0,l0,w0,s0⟩:=Cf Br6 (by kernel_rfl) (S1 Bn1) _ _ b;have s0:(Ku (λi=>1) x0.n+1)<=a0:=s0;obtain⟨a1,b1,p1,q1,rfl,h1,h,d⟩:=E7 h;obtain⟨x1,l1,w1,s1⟩:=Cf Tryz.underlying23 (by kernel_rfl) As1 _ _ h1;have s1:(Ku (λi=>LC (x1.g i)) x1.n+1)<=a1:=s1;obtain⟨a2,b2,p2,q2,rfl,f,h,j⟩:=E7 h;obtain⟨x2,l2,w2,s2⟩:=Cf Tryz.underlying24 (by kernel_rfl) (S1 Tryz.underlying30) _ _ f;have s2:(Ku (λi=>1) x2.n+1)<=a2:=s2;obtain rfl:=EH h;exact⟨⟨x0,x1,x2⟩,LeDs.append l0 (LeDs.append l1 (LeDs.append l2 LeDs.nil)),⟨w0,w1,w2⟩,by simp only[IW];omega⟩
def As2 (x:Am6):Prop:=(TV x.H)/\(∀i,i<x.L.n->(Lit.int .u32 (x.L.g i)).wf=true)
def NM (x:Am6):Nat:=IW x.H+(Ku (λi=>1) x.L.n+1)+1
def ZH:OF Tryz.prog Ad0 FD As2 NM:=by intro m pvs h;obtain⟨m0,h,a⟩:=Cy Tryz.underlying29 h;obtain⟨a0,b0,p0,q0,rfl,b,h,c⟩:=E7 h;obtain⟨x0,l0,w0,s0⟩:=Yo _ _ b;have s0:IW x0<=a0:=s0;obtain⟨a1,b1,p1,q1,rfl,h1,h,d⟩:=E7 h;obtain⟨x1,l1,w1,s1⟩:=Cf Tryz.underlying27 (by kernel_rfl) (S1 Bq0) _ _ h1;have s1:(Ku (λi=>1) x1.n+1)<=a1:=s1;obtain rfl:=EH h;exact⟨⟨x0,x1⟩,LeDs.append l0 (LeDs.append l1 LeDs.nil),⟨w0,w1⟩,by simp only[NM];omega⟩
end Go.AM
namespace Go.AM
def As3 {f:Nat->Nat}(h:∀i,1<=f i):∀n,n<=Ku f n
 |0=>Bn0 _
 |n+1=>by
  have:=As3 h n
  have:=h n
  show n+1<=Ku f n+f n;omega
def Bd8 {x:Ei}(h:Yn x):okO x:=⟨As0 h.2.2.1,Ar9 h.2.1,Ar9 h.2.2.2.1⟩
def AF7 {l:Law}(h:ZG l)(hs:LC l<=1048576):TI l:=by obtain⟨_,h1,b,c,d,_⟩:=h;unfold LC at hs;have g1:=As3 (f:=λi=>EF (l.If.g i)) (λi=>by simp only[EF];omega) l.If.n;have g2:=As3 (f:=λi=>Mj (l.Out.g i)) (λi=>by simp only[Mj];omega) l.Out.n;exact⟨⟨h1,b,λi a=>As0 (c i a)⟩,by omega,by omega,by omega,λi a=>Bd8 (d i a)⟩
def As4 {x:Sl Law}(h:∀i,i<x.n->ZG (x.g i))(hs:Ku (λi=>LC (x.g i)) x.n+1<=1048576):Ca x:=λi a=>
 AF7 (h i a) (by have:=Al9 (λi=>LC (x.g i)) a;have this:LC (x.g i)<=_:=this;omega)
def Bd9 {n:Int}(h:(Lit.int .u16 n).wf=true):∃k:Nat,n=(k:Int)/\k<65536:=by
 simp only[Lit.wf,IntKind.min,IntKind.max,IntKind.signed,IntKind.bits,Bg0,Fa]at h;have a:0<=n:=by have:=h.1;simpa using this
 have h1:n<65536:=by have:=h.2;simp at this;omega
 exact⟨n.toNat,by omega,by omega⟩
def Ae7 {x:Small}(w:TV x)(hs:IW x<=1048576):TQ x:=by unfold IW at hs;exact⟨λi a=>AK4 (w.1 i a),As4 w.2.1 (by omega),λi a=>Bd9 (w.2.2 i a)⟩
def Af6 {x:Am6}(w:As2 x)(hs:NM x<=1048576):Ar6 x:=by unfold NM at hs;exact⟨Ae7 w.1 (by omega),λi a=>Ar9 (w.2 i a)⟩
end Go.AM
