/- Part 9. -/
import Derived.JoinedOf
import Derived.Test.YtlbooedblpdmaaaGreatDoorED
import Derived.Test.YtlbooedblpdmaaaGreatDoorEE
import Derived.Test.YtlbooedblpdmaaaGreatDoorCards
import Derived.Test.YtlbooedblpdmaaaGreatDoorTie
import Derived.WalkKit
import Derived.ProofKit
import Derived.OpenShut
import Derived.Deep.DeepHandedRow
import Derived.MakeChecks
import Derived.Lib.LaidTab
import Derived.Test.YtlbooedblpdmaaaGreatDoorEG
import Derived.Test.YtlbooedblpdmaaaGreatDoorEH
set_option linter.defProp false
set_option linter.unusedSimpArgs false
set_option linter.unusedVariables false
set_option linter.unusedSectionVars false
namespace Go.AM
def Bq4:=@Go.Proofs.Tryz.underlying3
def Bv2:=@Go.Proofs.Tryz.underlying4
def Bw5:=@Go.Proofs.Tryz.underlying85
def Bx5:=@Go.Proofs.Tryz.underlying27
def By2:=@Go.Proofs.Tryz.underlying9
def Bz7:=@Go.Proofs.Tryz.underlying70
def BC3:=@Go.Proofs.Tryz.underlying26
def BD0:=@Go.Proofs.Tryz.underlying51
open Go.Rows
def jA_ (P:Program)(f:FuncId)(fn:Func)(s:ChangeSpec)(c:OpenClaim):Bool:= (c.wf (OpenSpec.ofChange s))&&(laidOutB P)&&(mapsRowed P)&&(fn.params.all (P.readableRec ·))&&(namedTie P c.named s.vars)&&(c.stops==[])&&(P.stops==[])&&(c.knobs==[])&&(P.stopKnobs==[])
def jB_ (P:Program)(f:FuncId)(fn:Func)(s:ChangeSpec)(c:OpenClaim):Bool:= (c.inPlace==P.inPlace f)&&(c.unfollowed==P.unfollowed f)
def jC_ (P:Program)(f:FuncId)(fn:Func)(s:ChangeSpec)(c:OpenClaim):Bool:= (c.recurses==P.recurses f)&&(c.named==P.varsNamed f)
def jD_ (P:Program)(f:FuncId)(fn:Func)(s:ChangeSpec)(c:OpenClaim):Bool:= (c.maps==(fn.params.toList++s.plain.varTypes P).any (P.mapsRec ·))&&(c.ifaces==(fn.params.toList++s.plain.varTypes P).any (P.ifacesRec ·))&&(c.mapsOut==P.mapsAmong fn.resultTypes.toList)&&(c.loops==(fn.params.toList++s.plain.varTypes P).any (P.loopsFrom ·))&&(c.wideKeys==(fn.params.toList++s.plain.varTypes P++fn.resultTypes.toList).any (P.wideKeysFrom ·))&&(s.vars.all (P.varReadable ·))&&(fn.resultTypes.all (fun t=>P.readableRec t&&decide (t<P.types.size)))&&(c.ifacesOut==fn.resultTypes.toList.any (P.ifacesRec ·))&&(c.loopsOut==fn.resultTypes.toList.any (P.loopsFrom ·))&&(c.plainKeys==P.plainKeys)&&(c.shortTexts.isNone)
def jE_ (P:Program)(f:FuncId)(fn:Func)(s:ChangeSpec)(c:OpenClaim):Bool:= (P.stopsHeard)&&(P.mayEnter)
def jF_ (P:Program)(f:FuncId)(fn:Func)(s:ChangeSpec)(c:OpenClaim):Bool:=
 (c.lifted==P.liftsFinal)&&(P.make==some c.make)&&(c.kinds==(if c.domain.isEmpty then []else fn.params.toList.map fun t=>match P.underlying t with|some (.int k)=>some k|_=>none))&&(c.pinned==c.pinnedBy)&&(c.veiled==(fn.params.toList++s.plain.varTypes P++fn.resultTypes.toList).any (P.veiledRec ·))&&(c.veiledFits P fn.params.toList (fn.params.toList++s.plain.varTypes P++fn.resultTypes.toList))
def TN {P:Program}{f:FuncId}{fn:Func}{s:ChangeSpec}{c:OpenClaim}(h1:jA_ P f fn s c=true)(a:jB_ P f fn s c=true)(b:jC_ P f fn s c=true)(d:jD_ P f fn s c=true)(g:jE_ P f fn s c=true)(i:jF_ P f fn s c=true):joinedFacts P f fn s c=true:=by
 have:joinedFacts P f fn s c=(jA_ P f fn s c&&jB_ P f fn s c&&jC_ P f fn s c&&jD_ P f fn s c&&jE_ P f fn s c&&jF_ P f fn s c):=by simp only[joinedFacts,jA_,jB_,jC_,jD_,jE_,jF_,Bool.and_assoc];rfl
 rw[this,h1,a,b,d,g,i];rfl
end Go.AM
namespace Go.AM
open Go.RowKit Go.ChangeShapes Go.WideShapes Go.ChangeAt Go.Deep Go.Proofs Go.Proofs.YtlbooedblpdmaaaGreatDoor
theorem Rn:Kids Tryz.prog (· < Tryz.prog.types.size):=kids_rows (by kernel_rfl) (by kernel_rfl)
theorem Tk {H:Type}:∀es:List (DataW H),We (es.map Rows.uptoBulk)=Rows.uptoBulkAll es
 |[]=>rfl
 |d::r=>by simp only[Bp8,UC,Rows.uptoBulkAll,Tk r]
theorem Ro {H:Type}:Bulk (H:=H) Rows.uptoBulk where
 int k n:=by simp[Rows.uptoBulk]
 bool b:=by simp[Rows.uptoBulk]
 str l:=by simp[Rows.uptoBulk]
 nil:=by simp[Rows.uptoBulk]
 slice es sp:=by simp only[Rows.uptoBulk,Tk];omega
 agg ps:=by simp only[Rows.uptoBulk,Tk];omega
section
variable {H:Type}{enc:TypeId×Value->H}{P:Program}{W:World}
theorem Ip {v:Value}{x:PV}(a:v.cells.toList=[v])(h:CRep W v.cells.toList [x]):RepP W (fun _ _=>False) v x:=by
 have:=(h.2 0 (by simp)).1
 rw[a]at this;exact this
theorem Am6 {cs:Array Value}{pvs:List PV}(h:CRep W (Value.agg cs).cells.toList pvs):RepP W (fun _ _=>False) (.agg cs) (.agg pvs):=by
 obtain⟨h1,a⟩:=h;have hc:(Value.agg cs).cells.toList=cs.toList:=rfl;rw[hc]at h1 a;have e:∀i,cs.toList.getD i undef=cs.getD i undef:=fun i=>by simp[Bm3,Bm5]
 exact .agg cs pvs (by simpa using h1) (fun i b=>by rw[<- e];exact (a i b).2) fun i b=>by rw[<- e];exact (a i b).1
end
theorem AL3 {n:Int}(hw:(Lit.int .u32 n).wf=true):∃p:BitVec 32,n=(p.toNat:Int):=by
 simp only[Lit.wf,IntKind.min,IntKind.max,IntKind.signed,IntKind.bits,Bm8,Pp]at hw;refine⟨BitVec.ofNat 32 n.toNat,?_⟩;rw[BG8];have a:0<=n:=by have:=hw.1;simpa using this
 have h1:n<4294967296:=by have:=hw.2;simp at this;omega
 rw[Bv4 (by omega),Int.toNat_of_nonneg a]
theorem Am7 {W:World}(hL:laidMetH Tryz.prog Rows.attestBadsUptoRow.laid W):TabOk Tryz.prog W fun _ _=>False:=by
 rw[MakeChecks.laidMetH_plain _ _ _ (by kernel_rfl)]at hL;have b:Lib.TabIs Tryz.prog W "math/bits.deBruijn64tab" .u8 (Lib.deBruijn64tab.map fun (n:Nat)=>(n:Int)):=by refine Lib.tabIs_of_head (g:=3) (t:=(Tryz.prog.globals[3]?.map (·.type)).getD 0) (e:=(match Tryz.prog.underlying ((Tryz.prog.globals[3]?.map (·.type)).getD 0)with|some (.array _ e)=>e|_=>0)) (n:=64) (by kernel_rfl) (by kernel_rfl) (by kernel_rfl) (by kernel_rfl) (by kernel_rfl) (by kernel_rfl) (rest:=Rows.attestBadsUptoRow.laid.tail) ?_;exact hL
 intro g s j v hs a;have c:g=3:=by
  have key:∀k:Fin Tryz.prog.globals.size,((Tryz.prog.globals[k.1]?.map fun s=>s.name == "math/bits.deBruijn64tab")==some true)=true->k.1=3:=by decide +kernel
  have d:g<Tryz.prog.globals.size:=(Bn2.1 hs).1;refine key ⟨g,d⟩ ?_
  have:(s.name == "math/bits.deBruijn64tab")=true:=by
   unfold YR at a;split at a
   .assumption
   simp at a
  simp[hs,this]
 subst c;unfold YR at a;split at a
 .rw[Bn0]at a;obtain⟨n,hn,rfl⟩:=Bo9.1 a;have f:j<Lib.deBruijn64tab.length:=(Bn6.1 hn).1;refine⟨?_,fun h=>h⟩;rw[b.cell (by kernel_rfl) j (by simpa using f)];simp[Bm3,Bn0,hn]
 simp at a
end Go.AM
namespace Go.AM
open Go.RowKit Go.ChangeShapes Go.WideShapes Go.ChangeAt Go.Deep Go.Proofs Go.Proofs.YtlbooedblpdmaaaGreatDoor
set_option maxRecDepth 100000
def AA3 (x:J4):Prop:=((Lit.int .i64 x.Parent).wf=true)/\(True)
def He (x:J4):Nat:=1+(x.Name.length+1)+1
def Ak7:IY Tryz.prog KM G5 AA3 He:=by intro m pvs h;obtain⟨m0,h,a⟩:=R9 Tryz.underlying112 h;obtain⟨a0,b0,p0,q0,rfl,b,h,c⟩:=D0 h;obtain⟨x0,l0,w0,s0⟩:=K9 Bq4 _ _ b;have s0:1<=a0:=s0;obtain⟨a1,b1,p1,q1,rfl,h1,h,d⟩:=D0 h;obtain⟨x1,l1,w1,s1⟩:=NM By2 _ _ h1;have s1:(x1.length+1)<=a1:=s1;obtain rfl:=Ag h;exact⟨⟨x0,x1⟩,LeDs.append l0 (LeDs.append l1 LeDs.nil),⟨w0,w1⟩,by simp only[He];omega⟩
def HA (x:Sm):Prop:=((Lit.int .u32 x.Plus).wf=true)/\((Lit.int .u32 x.Minus).wf=true)
def BR (x:Sm):Nat:=1+1+1
def FR:IY Tryz.prog B8 A0 HA BR:=by intro m pvs h;obtain⟨m0,h,a⟩:=R9 Tryz.underlying72 h;obtain⟨a0,b0,p0,q0,rfl,b,h,c⟩:=D0 h;obtain⟨x0,l0,w0,s0⟩:=K9 Bz7 _ _ b;have s0:1<=a0:=s0;obtain⟨a1,b1,p1,q1,rfl,h1,h,d⟩:=D0 h;obtain⟨x1,l1,w1,s1⟩:=K9 Bz7 _ _ h1;have s1:1<=a1:=s1;obtain rfl:=Ag h;exact⟨⟨x0,x1⟩,LeDs.append l0 (LeDs.append l1 LeDs.nil),⟨w0,w1⟩,by simp only[BR];omega⟩
def Aa6 {x:Sm}(h:HA x):okS x:=by obtain⟨p,hp⟩:=AL3 h.1;obtain⟨q,a⟩:=AL3 h.2;exact⟨p,q,by cases x;simp_all [sOf]⟩
abbrev Aa7 (x:Pat):Prop:=okPS x
abbrev VY (x:Pat):Nat:=1
def VZ:IY Tryz.prog GO D2 Aa7 VY:=by
 intro m
 induction m using Nat.strongRecOn with
 |ind m ih=>
 intro pvs h;obtain⟨m0,h,d⟩:=R9 Tryz.underlying87 h;obtain⟨a0,b0,p0,q0,rfl,j,h,l⟩:=D0 h;obtain⟨x0,l0,w0,s0⟩:=K9 Bq4 _ _ j;have s0:1<=a0:=s0;obtain⟨a1,b1,p1,q1,rfl,h1,h,o⟩:=D0 h;obtain⟨x1,l1,w1,s1⟩:=FR _ _ h1;have s1:BR x1<=a1:=s1;obtain⟨a2,b2,p2,q2,rfl,q,h,r⟩:=D0 h;obtain⟨x2,l2,w2,s2⟩:=QI Bv2 _ _ q;have s2:1<=a2:=s2;obtain⟨a3,b3,p3,q3,rfl,s,h,t⟩:=D0 h;obtain⟨x3,l3,w3,s3⟩:=K9 Bq4 _ _ s;have s3:1<=a3:=s3;obtain⟨a4,b4,p4,q4,rfl,u,h,v⟩:=D0 h;obtain⟨x4,l4,w4,s4⟩:=K9 Bq4 _ _ u;have s4:1<=a4:=s4;obtain⟨a5,b5,p5,q5,rfl,w,h,y⟩:=D0 h;obtain rfl:=Ag h;have a:Tryz.prog.cellsOf 87=7:=by kernel_rfl
 cases w with
 |int ht'=>rw[Bw5]at ht';cases ht'
 |bool ht'=>rw[Bw5]at ht';cases ht'
 |str ht'=>rw[Bw5]at ht';cases ht'
 |struct ht'=>rw[Bw5]at ht';cases ht'
 |arr ht'=>rw[Bw5]at ht';cases ht'
 | @slice _ _ e' n f ms ht' hl hel hm=>rw[Bw5]at ht';cases ht';rw[a];rw[QH]at hm;obtain⟨g,c⟩:=choose_lt (α:=Pat) (p:=fun i x=>LeDs (f i) (D2 x)/\Aa7 x/\1<=ms i) fun i b=>ih (ms i) (by have:=NL ms b;omega) _ (hel i b);exact⟨.mk x0 x1 x2 x3 x4 n g,LeDs.append l0 (LeDs.append l1 (LeDs.append l2 (LeDs.append l3 (LeDs.append l4 (.cons (.sl fun i b=>(c i b).1) .nil))))),⟨Aa6 w1,fun i b=>(c i b).2.1⟩,by show 1<=m;omega⟩
def YC (x:FS):Prop:=((Lit.int .i64 x.From).wf=true)/\((Lit.int .u32 x.Clear).wf=true)/\(HA x.Set)/\((Lit.int .u32 x.Take).wf=true)/\((Lit.int .i64 x.Of).wf=true)
def KZ (x:FS):Nat:=1+1+BR x.Set+1+1+1
def Ak8:IY Tryz.prog At8 Ax YC KZ:=by intro m pvs h;obtain⟨m0,h,a⟩:=R9 Tryz.underlying142 h;obtain⟨a0,b0,p0,q0,rfl,b,h,c⟩:=D0 h;obtain⟨x0,l0,w0,s0⟩:=K9 Bq4 _ _ b;have s0:1<=a0:=s0;obtain⟨a1,b1,p1,q1,rfl,h1,h,d⟩:=D0 h;obtain⟨x1,l1,w1,s1⟩:=K9 Bz7 _ _ h1;have s1:1<=a1:=s1;obtain⟨a2,b2,p2,q2,rfl,f,h,g⟩:=D0 h;obtain⟨x2,l2,w2,s2⟩:=FR _ _ f;have s2:BR x2<=a2:=s2;obtain⟨a3,b3,p3,q3,rfl,i,h,j⟩:=D0 h;obtain⟨x3,l3,w3,s3⟩:=K9 Bz7 _ _ i;have s3:1<=a3:=s3;obtain⟨a4,b4,p4,q4,rfl,l,h,n⟩:=D0 h;obtain⟨x4,l4,w4,s4⟩:=K9 Bq4 _ _ l;have s4:1<=a4:=s4;obtain rfl:=Ag h;exact⟨⟨x0,x1,x2,x3,x4⟩,LeDs.append l0 (LeDs.append l1 (LeDs.append l2 (LeDs.append l3 (LeDs.append l4 LeDs.nil)))),⟨w0,w1,w2,w3,w4⟩,by simp only[KZ];omega⟩
def Aa8 (x:Law):Prop:=(True)/\(Aa7 x.Left)/\(Aa7 x.Right)/\(∀i,i<x.If.n->HA (x.If.g i))/\(∀i,i<x.Out.n->YC (x.Out.g i))/\((Lit.int .i64 x.Mode).wf=true)
def Kj (x:Law):Nat:=(x.Name.length+1)+VY x.Left+VY x.Right+(DT (fun i=>BR (x.If.g i)) x.If.n+1)+(DT (fun i=>KZ (x.Out.g i)) x.Out.n+1)+1+1
def AA4:IY Tryz.prog K8 B5 Aa8 Kj:=by intro m pvs h;obtain⟨m0,h,a⟩:=R9 Tryz.underlying90 h;obtain⟨a0,b0,p0,q0,rfl,b,h,c⟩:=D0 h;obtain⟨x0,l0,w0,s0⟩:=NM By2 _ _ b;have s0:(x0.length+1)<=a0:=s0;obtain⟨a1,b1,p1,q1,rfl,h1,h,d⟩:=D0 h;obtain⟨x1,l1,w1,s1⟩:=VZ _ _ h1;have s1:VY x1<=a1:=s1;obtain⟨a2,b2,p2,q2,rfl,f,h,j⟩:=D0 h;obtain⟨x2,l2,w2,s2⟩:=VZ _ _ f;have s2:VY x2<=a2:=s2;obtain⟨a3,b3,p3,q3,rfl,l,h,o⟩:=D0 h;obtain⟨x3,l3,w3,s3⟩:=M9 BD0 (by kernel_rfl) FR _ _ l;have s3:(DT (fun i=>BR (x3.g i)) x3.n+1)<=a3:=s3;obtain⟨a4,b4,p4,q4,rfl,q,h,r⟩:=D0 h;obtain⟨x4,l4,w4,s4⟩:=M9 Tryz.underlying88 (by kernel_rfl) Ak8 _ _ q;have s4:(DT (fun i=>KZ (x4.g i)) x4.n+1)<=a4:=s4;obtain⟨a5,b5,p5,q5,rfl,s,h,t⟩:=D0 h;obtain⟨x5,l5,w5,s5⟩:=K9 Bq4 _ _ s;have s5:1<=a5:=s5;obtain rfl:=Ag h;exact⟨⟨x0,x1,x2,x3,x4,x5⟩,LeDs.append l0 (LeDs.append l1 (LeDs.append l2 (LeDs.append l3 (LeDs.append l4 (LeDs.append l5 LeDs.nil))))),⟨w0,w1,w2,w3,w4,w5⟩,by simp only[Kj];omega⟩
def Rd (x:A6):Prop:=(∀i,i<x.Tree.n->AA3 (x.Tree.g i))/\(∀i,i<x.Laws.n->Aa8 (x.Laws.g i))/\(∀i,i<x.On.n->∀i',i' < (x.On.g i).n->(Lit.int .i64 ((x.On.g i).g i')).wf=true)
def De (x:A6):Nat:=(DT (fun i=>He (x.Tree.g i)) x.Tree.n+1)+(DT (fun i=>Kj (x.Laws.g i)) x.Laws.n+1)+(DT (fun i=>DT (fun i=>1) (x.On.g i).n+1) x.On.n+1)+1
def IZ:IY Tryz.prog SB A7 Rd De:=by intro m pvs h;obtain⟨m0,h,a⟩:=R9 BC3 h;obtain⟨a0,b0,p0,q0,rfl,b,h,c⟩:=D0 h;obtain⟨x0,l0,w0,s0⟩:=M9 Tryz.underlying22 (by kernel_rfl) Ak7 _ _ b;have s0:(DT (fun i=>He (x0.g i)) x0.n+1)<=a0:=s0;obtain⟨a1,b1,p1,q1,rfl,h1,h,d⟩:=D0 h;obtain⟨x1,l1,w1,s1⟩:=M9 Tryz.underlying23 (by kernel_rfl) AA4 _ _ h1;have s1:(DT (fun i=>Kj (x1.g i)) x1.n+1)<=a1:=s1;obtain⟨a2,b2,p2,q2,rfl,f,h,j⟩:=D0 h;obtain⟨x2,l2,w2,s2⟩:=M9 Tryz.underlying24 (by kernel_rfl) (M9 Tryz.underlying43 (by kernel_rfl) (K9 Bq4)) _ _ f;have s2:(DT (fun i=>DT (fun i=>1) (x2.g i).n+1) x2.n+1)<=a2:=s2;obtain rfl:=Ag h;exact⟨⟨x0,x1,x2⟩,LeDs.append l0 (LeDs.append l1 (LeDs.append l2 LeDs.nil)),⟨w0,w1,w2⟩,by simp only[De];omega⟩
end Go.AM
namespace Go.AM
def Wa {f:Nat->Nat}(h:∀i,1<=f i):∀n,n<=DT f n
 |0=>Bu8 _
 |n+1=>by
  have:=Wa h n
  have:=h n
  show n+1<=DT f n+f n;omega
def Bk7 {x:FS}(h:YC x):okO x:=⟨Aa6 h.2.2.1,AL3 h.2.1,AL3 h.2.2.2.1⟩
def AL4 {l:Law}(h:Aa8 l)(hs:Kj l<=1048576):OF l:=by obtain⟨_,h1,b,c,d,_⟩:=h;unfold Kj at hs;have g1:=Wa (f:=fun i=>BR (l.If.g i)) (fun i=>by simp only[BR];omega) l.If.n;have g2:=Wa (f:=fun i=>KZ (l.Out.g i)) (fun i=>by simp only[KZ];omega) l.Out.n;exact⟨⟨h1,b,fun i a=>Aa6 (c i a)⟩,by omega,by omega,by omega,fun i a=>Bk7 (d i a)⟩
def AA5 {x:Sl Law}(h:∀i,i<x.n->Aa8 (x.g i))(hs:DT (fun i=>Kj (x.g i)) x.n+1<=1048576):GZ x:=fun i a=>
 AL4 (h i a) (by have:=NL (fun i=>Kj (x.g i)) a;have this:Kj (x.g i)<=_:=this;omega)
def Bk8 {x:Sl Sm}(h:∀i,i<x.n->HA (x.g i)):okA x:=fun i a=>Aa6 (h i a)
def TL {h:A6}(w:Rd h)(hs:De h<=1048576):U4 h:=by
 unfold De at hs;have g:=Wa (f:=fun i=>DT (fun i=>1) (h.On.g i).n+1) (fun i=>by omega) h.On.n;refine⟨AA5 w.2.1 (by omega),fun v a=>?_,by omega,fun v a=>?_⟩
 .have:=NL (fun i=>He (h.Tree.g i)) a
  have this:He (h.Tree.g v)<=DT (fun i=>He (h.Tree.g i)) h.Tree.n:=this;have e:He (h.Tree.g v)=1+((h.Tree.g v).Name.length+1)+1:=rfl;omega
 have g2:=NL (fun i=>DT (fun i=>1) (h.On.g i).n+1) a;have g2:DT (fun i=>1) (h.On.g v).n+1<=_:=g2;have g3:=Wa (f:=fun _=>1) (fun i=>by omega) (h.On.g v).n;omega
end Go.AM
namespace Go.AM
open Go.RowKit Go.ChangeShapes Go.WideShapes Go.ChangeAt Go.Deep Go.Proofs Go.Proofs.YtlbooedblpdmaaaGreatDoor
set_option maxRecDepth 100000
def YD (x:F0):Prop:=(True)/\(∀i,i<x.W.n->HA (x.W.g i))
def Io (x:F0):Nat:=1+(DT (fun i=>BR (x.W.g i)) x.W.n+1)+1
def Kn:IY Tryz.prog Ck C0 YD Io:=by intro m pvs h;obtain⟨m0,h,a⟩:=R9 Tryz.underlying68 h;obtain⟨a0,b0,p0,q0,rfl,b,h,c⟩:=D0 h;obtain⟨x0,l0,w0,s0⟩:=QI Bv2 _ _ b;have s0:1<=a0:=s0;obtain⟨a1,b1,p1,q1,rfl,h1,h,d⟩:=D0 h;obtain⟨x1,l1,w1,s1⟩:=M9 BD0 (by kernel_rfl) FR _ _ h1;have s1:(DT (fun i=>BR (x1.g i)) x1.n+1)<=a1:=s1;obtain rfl:=Ag h;exact⟨⟨x0,x1⟩,LeDs.append l0 (LeDs.append l1 LeDs.nil),⟨w0,w1⟩,by simp only[Io];omega⟩
def Aa9 (x:Entry):Prop:=(True)/\(∀i,i<x.Forms.n->YD (x.Forms.g i))
def CU (x:Entry):Nat:=(x.Gloss.length+1)+(DT (fun i=>Io (x.Forms.g i)) x.Forms.n+1)+1
def MX:IY Tryz.prog IF B2 Aa9 CU:=by intro m pvs h;obtain⟨m0,h,a⟩:=R9 Tryz.underlying49 h;obtain⟨a0,b0,p0,q0,rfl,b,h,c⟩:=D0 h;obtain⟨x0,l0,w0,s0⟩:=NM By2 _ _ b;have s0:(x0.length+1)<=a0:=s0;obtain⟨a1,b1,p1,q1,rfl,h1,h,d⟩:=D0 h;obtain⟨x1,l1,w1,s1⟩:=M9 Bx5 (by kernel_rfl) Kn _ _ h1;have s1:(DT (fun i=>Io (x1.g i)) x1.n+1)<=a1:=s1;obtain rfl:=Ag h;exact⟨⟨x0,x1⟩,LeDs.append l0 (LeDs.append l1 LeDs.nil),⟨w0,w1⟩,by simp only[CU];omega⟩
end Go.AM
namespace Go.AM
def Ko {x:Sl F0}(h:∀i,i<x.n->YD (x.g i)):Bx x:=fun i a=>Bk8 (h i a).2
def TM {x:Sl Entry}(h:∀i,i<x.n->Aa9 (x.g i))(hs:DT (fun i=>CU (x.g i)) x.n+1<=1048576):EJ x:=fun i a=>by refine⟨Ko (h i a).2,?_⟩;have g:=NL (fun i=>CU (x.g i)) a;have g:CU (x.g i)<=DT (fun i=>CU (x.g i)) x.n:=g;have e:CU (x.g i)=((x.g i).Gloss.length+1)+(DT (fun i'=>Io ((x.g i).Forms.g i')) (x.g i).Forms.n+1)+1:=rfl;omega
end Go.AM
