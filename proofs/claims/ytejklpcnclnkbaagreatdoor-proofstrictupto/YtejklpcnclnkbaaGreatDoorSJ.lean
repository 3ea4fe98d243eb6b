/- Part 10. -/
import Derived.JoinedOf
import Derived.Test.YtejklpcnclnkbaaGreatDoorSE
import Derived.Test.YtejklpcnclnkbaaGreatDoorSF
import Derived.Test.YtejklpcnclnkbaaGreatDoorCards
import Derived.Test.YtejklpcnclnkbaaGreatDoorTie
import Derived.WalkKit
import Derived.ProofKit
import Derived.OpenShut
import Derived.Deep.DeepHandedRow
import Derived.MakeChecks
import Derived.Lib.LaidTab
import Derived.LaidSub
import Derived.Test.YtejklpcnclnkbaaGreatDoorSI
set_option linter.defProp false
set_option linter.unusedSimpArgs false
set_option linter.unusedVariables false
set_option linter.unusedSectionVars false
namespace Go.AM
def Bh9:=@Go.Proofs.Tryz.underlying5
def Bi2:=@Go.Proofs.Tryz.underlying3
def Bl9:=@Go.Proofs.Tryz.underlying4
def Bm8:=@Go.Proofs.Tryz.underlying66
def Bm9:=@Go.Proofs.Tryz.underlying97
def Bn7:=@Go.Proofs.Tryz.underlying9
def Br9:=@Go.Proofs.Tryz.underlying22
open Go.Rows
def jA_ (P:Program)(f:FuncId)(fn:Func)(s:ChangeSpec)(c:OpenClaim):Bool:= (c.wf (OpenSpec.ofChange s))&&(laidOutB P)&&(mapsRowed P)&&(fn.params.all (P.readableRec ·))&&(namedTie P c.named s.vars)&&(c.stops==[])&&(P.stops==[])&&(c.knobs==[])&&(P.stopKnobs==[])
def jB_ (P:Program)(f:FuncId)(fn:Func)(s:ChangeSpec)(c:OpenClaim):Bool:= (c.inPlace==P.inPlace f)&&(c.unfollowed==P.unfollowed f)
def jC_ (P:Program)(f:FuncId)(fn:Func)(s:ChangeSpec)(c:OpenClaim):Bool:= (c.recurses==P.recurses f)&&(c.named==P.varsNamed f)
def jD_ (P:Program)(f:FuncId)(fn:Func)(s:ChangeSpec)(c:OpenClaim):Bool:= (c.maps==(fn.params.toList++s.plain.varTypes P).any (P.mapsRec ·))&&(c.ifaces==(fn.params.toList++s.plain.varTypes P).any (P.ifacesRec ·))&&(c.mapsOut==P.mapsAmong fn.resultTypes.toList)&&(c.loops==(fn.params.toList++s.plain.varTypes P).any (P.loopsFrom ·))&&(c.wideKeys==(fn.params.toList++s.plain.varTypes P++fn.resultTypes.toList).any (P.wideKeysFrom ·))&&(s.vars.all (P.varReadable ·))&&(fn.resultTypes.all (fun t=>P.readableRec t&&decide (t<P.types.size)))&&(c.ifacesOut==fn.resultTypes.toList.any (P.ifacesRec ·))&&(c.loopsOut==fn.resultTypes.toList.any (P.loopsFrom ·))&&(c.plainKeys==P.plainKeys)&&(c.shortTexts.isNone)
def jE_ (P:Program)(f:FuncId)(fn:Func)(s:ChangeSpec)(c:OpenClaim):Bool:= (P.stopsHeard)&&(P.mayEnter)
def jF_ (P:Program)(f:FuncId)(fn:Func)(s:ChangeSpec)(c:OpenClaim):Bool:=
 (c.lifted==P.liftsFinal)&&(P.make==some c.make)&&(c.kinds==(if c.domain.isEmpty then []else fn.params.toList.map fun t=>match P.underlying t with|some (.int k)=>some k|_=>none))&&(c.pinned==c.pinnedBy)&&(c.veiled==(fn.params.toList++s.plain.varTypes P++fn.resultTypes.toList).any (P.veiledRec ·))&&(c.veiledFits P fn.params.toList (fn.params.toList++s.plain.varTypes P++fn.resultTypes.toList))
def Ad4 {P:Program}{f:FuncId}{fn:Func}{s:ChangeSpec}{c:OpenClaim}(h1:jA_ P f fn s c=true)(a:jB_ P f fn s c=true)(b:jC_ P f fn s c=true)(d:jD_ P f fn s c=true)(g:jE_ P f fn s c=true)(i:jF_ P f fn s c=true):joinedFacts P f fn s c=true:=by
 have:joinedFacts P f fn s c=(jA_ P f fn s c&&jB_ P f fn s c&&jC_ P f fn s c&&jD_ P f fn s c&&jE_ P f fn s c&&jF_ P f fn s c):=by simp only[joinedFacts,jA_,jB_,jC_,jD_,jE_,jF_,Bool.and_assoc];rfl
 rw[this,h1,a,b,d,g,i];rfl
end Go.AM
namespace Go.AM
open Go.RowKit Go.ChangeShapes Go.WideShapes Go.ChangeAt Go.Deep Go.Proofs Go.Proofs.YtejklpcnclnkbaaGreatDoor
theorem Aq7:Kids Tryz.prog (· < Tryz.prog.types.size):=kids_rows (by kernel_rfl) (by kernel_rfl)
theorem TH {H:Type}:∀es:List (DataW H),Wm (es.map Rows.uptoBulk)=Rows.uptoBulkAll es
 |[]=>rfl
 |d::r=>by simp only[Be8,Uz,Rows.uptoBulkAll,TH r]
theorem Aq8 {H:Type}:Bulk (H:=H) Rows.uptoBulk where
 int k n:=by simp[Rows.uptoBulk]
 bool b:=by simp[Rows.uptoBulk]
 str l:=by simp[Rows.uptoBulk]
 nil:=by simp[Rows.uptoBulk]
 slice es sp:=by simp only[Rows.uptoBulk,TH];omega
 agg ps:=by simp only[Rows.uptoBulk,TH];omega
section
variable {H:Type}{enc:TypeId×Value->H}{P:Program}{W:World}
theorem Wn {v:Value}{x:PV}(a:v.cells.toList=[v])(h:CRep W v.cells.toList [x]):RepP W (fun _ _=>False) v x:=by
 have:=(h.2 0 (by simp)).1
 rw[a]at this;exact this
theorem AH5 {cs:Array Value}{pvs:List PV}(h:CRep W (Value.agg cs).cells.toList pvs):RepP W (fun _ _=>False) (.agg cs) (.agg pvs):=by
 obtain⟨h1,a⟩:=h;have hc:(Value.agg cs).cells.toList=cs.toList:=rfl;rw[hc]at h1 a;have e:∀i,cs.toList.getD i undef=cs.getD i undef:=fun i=>by simp[Bd0,Bc8]
 exact .agg cs pvs (by simpa using h1) (fun i b=>by rw[<- e];exact (a i b).2) fun i b=>by rw[<- e];exact (a i b).1
end
theorem Ap5 {n:Int}(hw:(Lit.int .u32 n).wf=true):∃p:BitVec 32,n=(p.toNat:Int):=by
 simp only[Lit.wf,IntKind.min,IntKind.max,IntKind.signed,IntKind.bits,Bd3,Ev]at hw;refine⟨BitVec.ofNat 32 n.toNat,?_⟩;rw[Bv2];have a:0<=n:=by have:=hw.1;simpa using this
 have h1:n<4294967296:=by have:=hw.2;simp at this;omega
 rw[Bl4 (by omega),Int.toNat_of_nonneg a]
theorem AH6 {n:Int}(h:(Lit.int .u8 n).wf=true):∃k:Nat,n=(k:Int)/\k<256:=by
 simp only[Lit.wf,IntKind.min,IntKind.max,IntKind.signed,IntKind.bits,Bd3,Ev]at h;have a:0<=n:=by have:=h.1;simpa using this
 have h1:n<256:=by have:=h.2;simp at this;omega
 exact⟨n.toNat,by omega,by omega⟩
theorem We {W:World}{name:String}{k:IntKind}{zs:List Int}{g:Nat}(a:Tryz.prog.globalNamed name=some g)(h:Lib.TabIs Tryz.prog W name k zs):∃t fr,W.heap[g]? = some (.cells (zs.map fun z=>Value.int k z).toArray t fr):=by
 unfold Lib.TabIs World.var? at h;rw[a]at h;simp only[Option.bind_some]at h;split at h
 .rename_i cs t fr b;cases h;exact⟨_,_,b⟩
 cases h
theorem Wf {g:Nat}{s:Global}(hs:Tryz.prog.globals[g]? = some s)(name:String)(i:Nat)(key:∀k:Fin Tryz.prog.globals.size,((Tryz.prog.globals[k.1]?.map fun s=>s.name==name)==some true)=true->k.1=i)(hn:(s.name==name)=true):g=i:=by have a:g<Tryz.prog.globals.size:=(Bd4.1 hs).1;refine key ⟨g,a⟩ ?_;simp[hs,hn]
theorem AR7 {W:World}{l:List (String×DataW Unit)}(hp:(l.all fun x=>x.2.handleName?.isNone)=true)
 (f:(l.filter fun x=>x.1 == "math/bits.deBruijn64tab")=[("math/bits.deBruijn64tab",Lib.tabData .u8 (Lib.deBruijn64tab.map fun (n:Nat)=>(n:Int)))])
 (b:(l.filter fun x=>x.1 == "internal/strconv.uint64pow10")=[("internal/strconv.uint64pow10",Lib.tabData .u64 Lib.pow10Tab)])
 (hL:laidMetH Tryz.prog l W):TabE Tryz.prog W (fun _ _=>False) (fun _=>False):=by
 rw[MakeChecks.laidMetH_plain _ _ _ hp]at hL;have c:=laidMet.filter (fun x=>x.1 == "math/bits.deBruijn64tab") hL;have d:=laidMet.filter (fun x=>x.1 == "internal/strconv.uint64pow10") hL;rw[f]at c;rw[b]at d;have t1:Lib.TabIs Tryz.prog W "math/bits.deBruijn64tab" .u8 (Lib.deBruijn64tab.map fun (n:Nat)=>(n:Int)):=
  Lib.tabIs_of_head (g:=3) (t:=(Tryz.prog.globals[3]?.map (·.type)).getD 0) (e:=(match Tryz.prog.underlying ((Tryz.prog.globals[3]?.map (·.type)).getD 0)with|some (.array _ e)=>e|_=>0)) (n:=64) (by kernel_rfl) (by kernel_rfl) (by kernel_rfl) (by kernel_rfl) (by kernel_rfl) (by kernel_rfl) (rest:=[]) c
 have t2:Lib.TabIs Tryz.prog W "internal/strconv.uint64pow10" .u64 Lib.pow10Tab:=
  Lib.tabIs_of_head (g:=0) (t:=(Tryz.prog.globals[0]?.map (·.type)).getD 0) (e:=(match Tryz.prog.underlying ((Tryz.prog.globals[0]?.map (·.type)).getD 0)with|some (.array _ e)=>e|_=>0)) (n:=20) (by kernel_rfl) (by kernel_rfl) (by kernel_rfl) (by kernel_rfl) (by kernel_rfl) (by kernel_rfl) (rest:=[]) d
 have i:Tryz.prog.globalNamed "math/bits.deBruijn64tab" = some 3:=by kernel_rfl
 have m:Tryz.prog.globalNamed "internal/strconv.uint64pow10" = some 0:=by kernel_rfl
 have r:TabX Tryz.prog W (fun _=>False):=by
  intro g s hs a;refine⟨?_,fun h=>h⟩;unfold NW at a⊢;split at a
  .rename_i hn;obtain rfl:=Wf hs _ 3 (by decide +kernel) hn;obtain⟨t,fr,h⟩:=We i t1;rw[Dn hn];exact⟨t,fr,by rw[h];simp[Bl5,Bi3]⟩
  rename_i o;split at a
  .rename_i hn;obtain rfl:=Wf hs _ 0 (by decide +kernel) hn;obtain⟨t,fr,h⟩:=We m t2;rw[Ej o,Dn hn];exact⟨t,fr,h⟩
  exact Er rfl a
 refine⟨fun g s j v hs q=>⟨?_,fun h=>h⟩,r⟩;have a:NW s.name≠[]:=by rintro e;rw[e]at q;simp at q
 obtain⟨⟨t,fr,h⟩,_⟩:=r g s hs a;simp only[World.cell?,h];simpa using q
end Go.AM
namespace Go.AM
open Go.RowKit Go.ChangeShapes Go.WideShapes Go.ChangeAt Go.Deep Go.Proofs Go.Proofs.YtejklpcnclnkbaaGreatDoor
set_option maxRecDepth 100000
def NF (x:Im):Prop:=((Lit.int .u32 x.Plus).wf=true)/\((Lit.int .u32 x.Minus).wf=true)
def ED (x:Im):Nat:=1+1+1
def Ki:OB Tryz.prog B5 A0 NF ED:=by intro m pvs h;obtain⟨m0,h,a⟩:=Cs Tryz.underlying96 h;obtain⟨a0,b0,p0,q0,rfl,b,h,c⟩:=E6 h;obtain⟨x0,l0,w0,s0⟩:=P5 Bm8 _ _ b;have s0:1<=a0:=s0;obtain⟨a1,b1,p1,q1,rfl,h1,h,d⟩:=E6 h;obtain⟨x1,l1,w1,s1⟩:=P5 Bm8 _ _ h1;have s1:1<=a1:=s1;obtain rfl:=EF h;exact⟨⟨x0,x1⟩,LeDs.append l0 (LeDs.append l1 LeDs.nil),⟨w0,w1⟩,by simp only[ED];omega⟩
def Ap6 {x:Im}(h:NF x):okS x:=by obtain⟨p,hp⟩:=Ap5 h.1;obtain⟨q,a⟩:=Ap5 h.2;exact⟨p,q,by cases x;simp_all [sOf]⟩
abbrev Zl (x:Pat):Prop:=okPS x
abbrev Wg (x:Pat):Nat:=1
def Wh:OB Tryz.prog Gu E1 Zl Wg:=by
 intro m
 induction m using Nat.strongRecOn with
 |ind m ih=>
 intro pvs h;obtain⟨m0,h,d⟩:=Cs Tryz.underlying99 h;obtain⟨a0,b0,p0,q0,rfl,j,h,l⟩:=E6 h;obtain⟨x0,l0,w0,s0⟩:=P5 Bi2 _ _ j;have s0:1<=a0:=s0;obtain⟨a1,b1,p1,q1,rfl,h1,h,o⟩:=E6 h;obtain⟨x1,l1,w1,s1⟩:=Ki _ _ h1;have s1:ED x1<=a1:=s1;obtain⟨a2,b2,p2,q2,rfl,q,h,r⟩:=E6 h;obtain⟨x2,l2,w2,s2⟩:=ZY Bl9 _ _ q;have s2:1<=a2:=s2;obtain⟨a3,b3,p3,q3,rfl,s,h,t⟩:=E6 h;obtain⟨x3,l3,w3,s3⟩:=P5 Bi2 _ _ s;have s3:1<=a3:=s3;obtain⟨a4,b4,p4,q4,rfl,u,h,v⟩:=E6 h;obtain⟨x4,l4,w4,s4⟩:=P5 Bi2 _ _ u;have s4:1<=a4:=s4;obtain⟨a5,b5,p5,q5,rfl,w,h,y⟩:=E6 h;obtain rfl:=EF h;have a:Tryz.prog.cellsOf 99=7:=by kernel_rfl
 cases w with
 |int ht'=>rw[Bm9]at ht';cases ht'
 |bool ht'=>rw[Bm9]at ht';cases ht'
 |str ht'=>rw[Bm9]at ht';cases ht'
 |struct ht'=>rw[Bm9]at ht';cases ht'
 |arr ht'=>rw[Bm9]at ht';cases ht'
 | @slice _ _ e' n f ms ht' hl hel hm=>rw[Bm9]at ht';cases ht';rw[a];rw[Ro]at hm;obtain⟨g,c⟩:=choose_lt (α:=Pat) (p:=fun i x=>LeDs (f i) (E1 x)/\Zl x/\1<=ms i) fun i b=>ih (ms i) (by have:=Aj6 ms b;omega) _ (hel i b);exact⟨.mk x0 x1 x2 x3 x4 n g,LeDs.append l0 (LeDs.append l1 (LeDs.append l2 (LeDs.append l3 (LeDs.append l4 (.cons (.sl fun i b=>(c i b).1) .nil))))),⟨Ap6 w1,fun i b=>(c i b).2.1⟩,by show 1<=m;omega⟩
def XX (x:Ei):Prop:=((Lit.int .i64 x.From).wf=true)/\((Lit.int .u32 x.Clear).wf=true)/\(NF x.Set)/\((Lit.int .u32 x.Take).wf=true)/\((Lit.int .i64 x.Of).wf=true)
def Mf (x:Ei):Nat:=1+1+ED x.Set+1+1+1
def Ac4:OB Tryz.prog Ak9 An XX Mf:=by intro m pvs h;obtain⟨m0,h,a⟩:=Cs Tryz.underlying164 h;obtain⟨a0,b0,p0,q0,rfl,b,h,c⟩:=E6 h;obtain⟨x0,l0,w0,s0⟩:=P5 Bi2 _ _ b;have s0:1<=a0:=s0;obtain⟨a1,b1,p1,q1,rfl,h1,h,d⟩:=E6 h;obtain⟨x1,l1,w1,s1⟩:=P5 Bm8 _ _ h1;have s1:1<=a1:=s1;obtain⟨a2,b2,p2,q2,rfl,f,h,g⟩:=E6 h;obtain⟨x2,l2,w2,s2⟩:=Ki _ _ f;have s2:ED x2<=a2:=s2;obtain⟨a3,b3,p3,q3,rfl,i,h,j⟩:=E6 h;obtain⟨x3,l3,w3,s3⟩:=P5 Bm8 _ _ i;have s3:1<=a3:=s3;obtain⟨a4,b4,p4,q4,rfl,l,h,n⟩:=E6 h;obtain⟨x4,l4,w4,s4⟩:=P5 Bi2 _ _ l;have s4:1<=a4:=s4;obtain rfl:=EF h;exact⟨⟨x0,x1,x2,x3,x4⟩,LeDs.append l0 (LeDs.append l1 (LeDs.append l2 (LeDs.append l3 (LeDs.append l4 LeDs.nil)))),⟨w0,w1,w2,w3,w4⟩,by simp only[Mf];omega⟩
def Zm (x:Law):Prop:=(True)/\(Zl x.Left)/\(Zl x.Right)/\(∀i,i<x.If.n->NF (x.If.g i))/\(∀i,i<x.Out.n->XX (x.Out.g i))/\((Lit.int .i64 x.Mode).wf=true)
def Lx (x:Law):Nat:=(x.Name.length+1)+Wg x.Left+Wg x.Right+(Ly (fun i=>ED (x.If.g i)) x.If.n+1)+(Ly (fun i=>Mf (x.Out.g i)) x.Out.n+1)+1+1
def Ap7:OB Tryz.prog H2 B4 Zm Lx:=by intro m pvs h;obtain⟨m0,h,a⟩:=Cs Tryz.underlying102 h;obtain⟨a0,b0,p0,q0,rfl,b,h,c⟩:=E6 h;obtain⟨x0,l0,w0,s0⟩:=Aj7 Bn7 _ _ b;have s0:(x0.length+1)<=a0:=s0;obtain⟨a1,b1,p1,q1,rfl,h1,h,d⟩:=E6 h;obtain⟨x1,l1,w1,s1⟩:=Wh _ _ h1;have s1:Wg x1<=a1:=s1;obtain⟨a2,b2,p2,q2,rfl,f,h,j⟩:=E6 h;obtain⟨x2,l2,w2,s2⟩:=Wh _ _ f;have s2:Wg x2<=a2:=s2;obtain⟨a3,b3,p3,q3,rfl,l,h,o⟩:=E6 h;obtain⟨x3,l3,w3,s3⟩:=Dm Tryz.underlying67 (by kernel_rfl) Ki _ _ l;have s3:(Ly (fun i=>ED (x3.g i)) x3.n+1)<=a3:=s3;obtain⟨a4,b4,p4,q4,rfl,q,h,r⟩:=E6 h;obtain⟨x4,l4,w4,s4⟩:=Dm Tryz.underlying100 (by kernel_rfl) Ac4 _ _ q;have s4:(Ly (fun i=>Mf (x4.g i)) x4.n+1)<=a4:=s4;obtain⟨a5,b5,p5,q5,rfl,s,h,t⟩:=E6 h;obtain⟨x5,l5,w5,s5⟩:=P5 Bi2 _ _ s;have s5:1<=a5:=s5;obtain rfl:=EF h;exact⟨⟨x0,x1,x2,x3,x4,x5⟩,LeDs.append l0 (LeDs.append l1 (LeDs.append l2 (LeDs.append l3 (LeDs.append l4 (LeDs.append l5 LeDs.nil))))),⟨w0,w1,w2,w3,w4,w5⟩,by simp only[Lx];omega⟩
def TI (x:Small):Prop:=(∀i,i<x.Parents.n->(Lit.int .u8 (x.Parents.g i)).wf=true)/\(∀i,i<x.Laws.n->Zm (x.Laws.g i))/\(∀i,i<x.On.n->(Lit.int .u16 (x.On.g i)).wf=true)
def IQ (x:Small):Nat:=(Ly (fun i=>1) x.Parents.n+1)+(Ly (fun i=>Lx (x.Laws.g i)) x.Laws.n+1)+(Ly (fun i=>1) x.On.n+1)+1
def XY:OB Tryz.prog Xv HW TI IQ:=by intro m pvs h;obtain⟨m0,h,a⟩:=Cs Tryz.underlying26 h;obtain⟨a0,b0,p0,q0,rfl,b,h,c⟩:=E6 h;obtain⟨x0,l0,w0,s0⟩:=Dm Br9 (by kernel_rfl) (P5 Bh9) _ _ b;have s0:(Ly (fun i=>1) x0.n+1)<=a0:=s0;obtain⟨a1,b1,p1,q1,rfl,h1,h,d⟩:=E6 h;obtain⟨x1,l1,w1,s1⟩:=Dm Tryz.underlying23 (by kernel_rfl) Ap7 _ _ h1;have s1:(Ly (fun i=>Lx (x1.g i)) x1.n+1)<=a1:=s1;obtain⟨a2,b2,p2,q2,rfl,f,h,j⟩:=E6 h;obtain⟨x2,l2,w2,s2⟩:=Dm Tryz.underlying24 (by kernel_rfl) (P5 Tryz.underlying172) _ _ f;have s2:(Ly (fun i=>1) x2.n+1)<=a2:=s2;obtain rfl:=EF h;exact⟨⟨x0,x1,x2⟩,LeDs.append l0 (LeDs.append l1 (LeDs.append l2 LeDs.nil)),⟨w0,w1,w2⟩,by simp only[IQ];omega⟩
def Ap8 (x:Ak3):Prop:=(TI x.H)/\(∀i,i<x.L.n->(Lit.int .u32 (x.L.g i)).wf=true)
def NG (x:Ak3):Nat:=IQ x.H+(Ly (fun i=>1) x.L.n+1)+1
def Zn:OB Tryz.prog Aa9 Fz Ap8 NG:=by intro m pvs h;obtain⟨m0,h,a⟩:=Cs Tryz.underlying29 h;obtain⟨a0,b0,p0,q0,rfl,b,h,c⟩:=E6 h;obtain⟨x0,l0,w0,s0⟩:=XY _ _ b;have s0:IQ x0<=a0:=s0;obtain⟨a1,b1,p1,q1,rfl,h1,h,d⟩:=E6 h;obtain⟨x1,l1,w1,s1⟩:=Dm Tryz.underlying27 (by kernel_rfl) (P5 Bm8) _ _ h1;have s1:(Ly (fun i=>1) x1.n+1)<=a1:=s1;obtain rfl:=EF h;exact⟨⟨x0,x1⟩,LeDs.append l0 (LeDs.append l1 LeDs.nil),⟨w0,w1⟩,by simp only[NG];omega⟩
end Go.AM
namespace Go.AM
def Ap9 {f:Nat->Nat}(h:∀i,1<=f i):∀n,n<=Ly f n
 |0=>Bl6 _
 |n+1=>by
  have:=Ap9 h n
  have:=h n
  show n+1<=Ly f n+f n;omega
def Bb2 {x:Ei}(h:XX x):okO x:=⟨Ap6 h.2.2.1,Ap5 h.2.1,Ap5 h.2.2.2.1⟩
def AD3 {l:Law}(h:Zm l)(hs:Lx l<=1048576):Nq l:=by obtain⟨_,h1,b,c,d,_⟩:=h;unfold Lx at hs;have g1:=Ap9 (f:=fun i=>ED (l.If.g i)) (fun i=>by simp only[ED];omega) l.If.n;have g2:=Ap9 (f:=fun i=>Mf (l.Out.g i)) (fun i=>by simp only[Mf];omega) l.Out.n;exact⟨⟨h1,b,fun i a=>Ap6 (c i a)⟩,by omega,by omega,by omega,fun i a=>Bb2 (d i a)⟩
def Aq0 {x:Sl Law}(h:∀i,i<x.n->Zm (x.g i))(hs:Ly (fun i=>Lx (x.g i)) x.n+1<=1048576):CA x:=fun i a=>
 AD3 (h i a) (by have:=Aj6 (fun i=>Lx (x.g i)) a;have this:Lx (x.g i)<=_:=this;omega)
def Bb3 {n:Int}(h:(Lit.int .u16 n).wf=true):∃k:Nat,n=(k:Int)/\k<65536:=by
 simp only[Lit.wf,IntKind.min,IntKind.max,IntKind.signed,IntKind.bits,Bd3,Ev]at h;have a:0<=n:=by have:=h.1;simpa using this
 have h1:n<65536:=by have:=h.2;simp at this;omega
 exact⟨n.toNat,by omega,by omega⟩
def Ac5 {x:Small}(w:TI x)(hs:IQ x<=1048576):TG x:=by unfold IQ at hs;exact⟨fun i a=>AH6 (w.1 i a),Aq0 w.2.1 (by omega),fun i a=>Bb3 (w.2.2 i a)⟩
def Ad3 {x:Ak3}(w:Ap8 x)(hs:NG x<=1048576):Ap4 x:=by unfold NG at hs;exact⟨Ac5 w.1 (by omega),fun i a=>Ap5 (w.2 i a)⟩
end Go.AM
