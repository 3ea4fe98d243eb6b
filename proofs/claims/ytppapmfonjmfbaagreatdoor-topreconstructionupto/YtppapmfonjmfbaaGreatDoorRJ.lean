/- Part 10. -/
import Derived.JoinedOf
import Derived.Test.YtppapmfonjmfbaaGreatDoorRE
import Derived.Test.YtppapmfonjmfbaaGreatDoorRF
import Derived.Test.YtppapmfonjmfbaaGreatDoorCards
import Derived.Test.YtppapmfonjmfbaaGreatDoorTie
import Derived.WalkKit
import Derived.ProofKit
import Derived.OpenShut
import Derived.Deep.DeepHandedRow
import Derived.MakeChecks
import Derived.Lib.LaidTab
import Derived.Test.YtppapmfonjmfbaaGreatDoorRH
import Derived.Test.YtppapmfonjmfbaaGreatDoorRI
set_option linter.defProp false
set_option linter.unusedSimpArgs false
set_option linter.unusedVariables false
set_option linter.unusedSectionVars false
namespace Go.AM
def AW8:=@Go.Proofs.Tryz.underlying3
def Ba9:=@Go.Proofs.Tryz.underlying55
def Bb1:=@Go.Proofs.Tryz.underlying4
def Bc0:=@Go.Proofs.Tryz.underlying28
def Be0:=@Go.Proofs.Tryz.underlying52
def Be6:=@Go.Proofs.Tryz.underlying9
open Go.Rows
def jA_ (P:Program)(f:FuncId)(fn:Func)(s:ChangeSpec)(c:OpenClaim):Bool:= (c.wf (OpenSpec.ofChange s))&&(laidOutB P)&&(mapsRowed P)&&(fn.params.all (P.readableRec ·))&&(namedTie P c.named s.vars)&&(c.stops==[])&&(P.stops==[])&&(c.knobs==[])&&(P.stopKnobs==[])
def jB_ (P:Program)(f:FuncId)(fn:Func)(s:ChangeSpec)(c:OpenClaim):Bool:= (c.inPlace==P.inPlace f)&&(c.unfollowed==P.unfollowed f)
def jC_ (P:Program)(f:FuncId)(fn:Func)(s:ChangeSpec)(c:OpenClaim):Bool:= (c.recurses==P.recurses f)&&(c.named==P.varsNamed f)
def jD_ (P:Program)(f:FuncId)(fn:Func)(s:ChangeSpec)(c:OpenClaim):Bool:= (c.maps==(fn.params.toList++s.plain.varTypes P).any (P.mapsRec ·))&&(c.ifaces==(fn.params.toList++s.plain.varTypes P).any (P.ifacesRec ·))&&(c.mapsOut==P.mapsAmong fn.resultTypes.toList)&&(c.loops==(fn.params.toList++s.plain.varTypes P).any (P.loopsFrom ·))&&(c.wideKeys==(fn.params.toList++s.plain.varTypes P++fn.resultTypes.toList).any (P.wideKeysFrom ·))&&(s.vars.all (P.varReadable ·))&&(fn.resultTypes.all (fun t=>P.readableRec t&&decide (t<P.types.size)))&&(c.ifacesOut==fn.resultTypes.toList.any (P.ifacesRec ·))&&(c.loopsOut==fn.resultTypes.toList.any (P.loopsFrom ·))&&(c.plainKeys==P.plainKeys)&&(c.shortTexts.isNone)
def jE_ (P:Program)(f:FuncId)(fn:Func)(s:ChangeSpec)(c:OpenClaim):Bool:= (P.stopsHeard)&&(P.mayEnter)
def jF_ (P:Program)(f:FuncId)(fn:Func)(s:ChangeSpec)(c:OpenClaim):Bool:=
 (c.lifted==P.liftsFinal)&&(P.make==some c.make)&&(c.kinds==(if c.domain.isEmpty then []else fn.params.toList.map fun t=>match P.underlying t with|some (.int k)=>some k|_=>none))&&(c.pinned==c.pinnedBy)&&(c.veiled==(fn.params.toList++s.plain.varTypes P++fn.resultTypes.toList).any (P.veiledRec ·))&&(c.veiledFits P fn.params.toList (fn.params.toList++s.plain.varTypes P++fn.resultTypes.toList))
def YM {P:Program}{f:FuncId}{fn:Func}{s:ChangeSpec}{c:OpenClaim}(h1:jA_ P f fn s c=true)(a:jB_ P f fn s c=true)(b:jC_ P f fn s c=true)(d:jD_ P f fn s c=true)(g:jE_ P f fn s c=true)(i:jF_ P f fn s c=true):joinedFacts P f fn s c=true:=by
 have:joinedFacts P f fn s c=(jA_ P f fn s c&&jB_ P f fn s c&&jC_ P f fn s c&&jD_ P f fn s c&&jE_ P f fn s c&&jF_ P f fn s c):=by simp only[joinedFacts,jA_,jB_,jC_,jD_,jE_,jF_,Bool.and_assoc];rfl
 rw[this,h1,a,b,d,g,i];rfl
end Go.AM
namespace Go.AM
open Go.RowKit Go.ChangeShapes Go.WideShapes Go.ChangeAt Go.Deep Go.Proofs Go.Proofs.YtppapmfonjmfbaaGreatDoor
theorem Aw2:Kids Tryz.prog (· < Tryz.prog.types.size):=kids_rows (by kernel_rfl) (by kernel_rfl)
theorem RI {H:Type}:∀es:List (DataW H),Ue (es.map Rows.uptoBulk)=Rows.uptoBulkAll es
 |[]=>rfl
 |d::r=>by simp only[AR9,SB,Rows.uptoBulkAll,RI r]
theorem Aw3 {H:Type}:Bulk (H:=H) Rows.uptoBulk where
 int k n:=by simp[Rows.uptoBulk]
 bool b:=by simp[Rows.uptoBulk]
 str l:=by simp[Rows.uptoBulk]
 nil:=by simp[Rows.uptoBulk]
 slice es sp:=by simp only[Rows.uptoBulk,RI];omega
 agg ps:=by simp only[Rows.uptoBulk,RI];omega
section
variable {H:Type}{enc:TypeId×Value->H}{P:Program}{W:World}
theorem YK {v:Value}{x:PV}(a:v.cells.toList=[v])(h:CRep W v.cells.toList [x]):RepP W (fun _ _=>False) v x:=by
 have:=(h.2 0 (by simp)).1
 rw[a]at this;exact this
theorem Aw4 {cs:Array Value}{pvs:List PV}(h:CRep W (Value.agg cs).cells.toList pvs):RepP W (fun _ _=>False) (.agg cs) (.agg pvs):=by
 obtain⟨h1,a⟩:=h;have hc:(Value.agg cs).cells.toList=cs.toList:=rfl;rw[hc]at h1 a;have e:∀i,cs.toList.getD i undef=cs.getD i undef:=fun i=>by simp[AQ1,AQ0]
 exact .agg cs pvs (by simpa using h1) (fun i b=>by rw[<- e];exact (a i b).2) fun i b=>by rw[<- e];exact (a i b).1
end
theorem Ar4 {n:Int}(hw:(Lit.int .u32 n).wf=true):∃p:BitVec 32,n=(p.toNat:Int):=by
 simp only[Lit.wf,IntKind.min,IntKind.max,IntKind.signed,IntKind.bits,AQ7,Mw]at hw;refine⟨BitVec.ofNat 32 n.toNat,?_⟩;rw[Bj7];have a:0<=n:=by have:=hw.1;simpa using this
 have h1:n<4294967296:=by have:=hw.2;simp at this;omega
 rw[AX7 (by omega),Int.toNat_of_nonneg a]
theorem Aw5 {W:World}(hL:laidMetH Tryz.prog Rows.topSameUptoRow.laid W):TabOk Tryz.prog W fun _ _=>False:=by
 rw[MakeChecks.laidMetH_plain _ _ _ (by kernel_rfl)]at hL;have b:Lib.TabIs Tryz.prog W "math/bits.deBruijn64tab" .u8 (Lib.deBruijn64tab.map fun (n:Nat)=>(n:Int)):=by refine Lib.tabIs_of_head (g:=2) (t:=(Tryz.prog.globals[2]?.map (·.type)).getD 0) (e:=(match Tryz.prog.underlying ((Tryz.prog.globals[2]?.map (·.type)).getD 0)with|some (.array _ e)=>e|_=>0)) (n:=64) (by kernel_rfl) (by kernel_rfl) (by kernel_rfl) (by kernel_rfl) (by kernel_rfl) (by kernel_rfl) (rest:=Rows.topSameUptoRow.laid.tail) ?_;exact hL
 intro g s j v hs a;have c:g=2:=by
  have key:∀k:Fin Tryz.prog.globals.size,((Tryz.prog.globals[k.1]?.map fun s=>s.name == "math/bits.deBruijn64tab")==some true)=true->k.1=2:=by decide +kernel
  have hg:g<Tryz.prog.globals.size:=(AR1.1 hs).1;refine key ⟨g,hg⟩ ?_
  have:(s.name == "math/bits.deBruijn64tab")=true:=by
   unfold VX at a;split at a
   .assumption
   simp at a
  simp[hs,this]
 subst c;unfold VX at a;split at a
 .rw[AQ9]at a;obtain⟨n,hn,rfl⟩:=AS2.1 a;have hj:j<Lib.deBruijn64tab.length:=(AR7.1 hn).1;refine⟨?_,fun h=>h⟩;rw[b.cell (by kernel_rfl) j (by simpa using hj)];simp[AQ1,AQ9,hn]
 simp at a
end Go.AM
namespace Go.AM
open Go.RowKit Go.ChangeShapes Go.WideShapes Go.ChangeAt Go.Deep Go.Proofs Go.Proofs.YtppapmfonjmfbaaGreatDoor
set_option maxRecDepth 100000
def Af6 (x:U1):Prop:=((Lit.int .i64 x.Parent).wf=true)/\(True)
def GR (x:U1):Nat:=1+(x.Name.length+1)+1
def YE:Lk Tryz.prog Yd H3 Af6 GR:=by intro m pvs h;obtain⟨m0,h,a⟩:=Y5 Tryz.underlying62 h;obtain⟨a0,b0,p0,q0,rfl,b,h,c⟩:=C6 h;obtain⟨x0,l0,w0,s0⟩:=U4 AW8 _ _ b;have s0:1<=a0:=s0;obtain⟨a1,b1,p1,q1,rfl,h1,h,d⟩:=C6 h;obtain⟨x1,l1,w1,s1⟩:=SP Be6 _ _ h1;have s1:(x1.length+1)<=a1:=s1;obtain rfl:=Cj h;exact⟨⟨x0,x1⟩,LeDs.append l0 (LeDs.append l1 LeDs.nil),⟨w0,w1⟩,by simp only[GR];omega⟩
def Hd (x:Tb):Prop:=((Lit.int .u32 x.Plus).wf=true)/\((Lit.int .u32 x.Minus).wf=true)
def Bk (x:Tb):Nat:=1+1+1
def Dm:Lk Tryz.prog A4 A0 Hd Bk:=by intro m pvs h;obtain⟨m0,h,a⟩:=Y5 Tryz.underlying54 h;obtain⟨a0,b0,p0,q0,rfl,b,h,c⟩:=C6 h;obtain⟨x0,l0,w0,s0⟩:=U4 Be0 _ _ b;have s0:1<=a0:=s0;obtain⟨a1,b1,p1,q1,rfl,h1,h,d⟩:=C6 h;obtain⟨x1,l1,w1,s1⟩:=U4 Be0 _ _ h1;have s1:1<=a1:=s1;obtain rfl:=Cj h;exact⟨⟨x0,x1⟩,LeDs.append l0 (LeDs.append l1 LeDs.nil),⟨w0,w1⟩,by simp only[Bk];omega⟩
def Xk {x:Tb}(h:Hd x):okS x:=by obtain⟨p,hp⟩:=Ar4 h.1;obtain⟨q,a⟩:=Ar4 h.2;exact⟨p,q,by cases x;simp_all [sOf]⟩
abbrev Xl (x:Pat):Prop:=okPS x
abbrev Ua (x:Pat):Nat:=1
def Ub:Lk Tryz.prog ET E1 Xl Ua:=by
 intro m
 induction m using Nat.strongRecOn with
 |ind m ih=>
 intro pvs h;obtain⟨m0,h,c⟩:=Y5 Tryz.underlying57 h;obtain⟨a0,b0,p0,q0,rfl,d,h,j⟩:=C6 h;obtain⟨x0,l0,w0,s0⟩:=U4 AW8 _ _ d;have s0:1<=a0:=s0;obtain⟨a1,b1,p1,q1,rfl,h1,h,l⟩:=C6 h;obtain⟨x1,l1,w1,s1⟩:=Dm _ _ h1;have s1:Bk x1<=a1:=s1;obtain⟨a2,b2,p2,q2,rfl,o,h,q⟩:=C6 h;obtain⟨x2,l2,w2,s2⟩:=Pq Bb1 _ _ o;have s2:1<=a2:=s2;obtain⟨a3,b3,p3,q3,rfl,r,h,s⟩:=C6 h;obtain⟨x3,l3,w3,s3⟩:=U4 AW8 _ _ r;have s3:1<=a3:=s3;obtain⟨a4,b4,p4,q4,rfl,t,h,u⟩:=C6 h;obtain⟨x4,l4,w4,s4⟩:=U4 AW8 _ _ t;have s4:1<=a4:=s4;obtain⟨a5,b5,p5,q5,rfl,v,h,w⟩:=C6 h;obtain rfl:=Cj h;have a:Tryz.prog.cellsOf 57=7:=by kernel_rfl
 cases v with
 |int ht'=>rw[Ba9]at ht';cases ht'
 |bool ht'=>rw[Ba9]at ht';cases ht'
 |str ht'=>rw[Ba9]at ht';cases ht'
 |struct ht'=>rw[Ba9]at ht';cases ht'
 |arr ht'=>rw[Ba9]at ht';cases ht'
 | @slice _ _ e' n f ms ht' hl hel hm=>rw[Ba9]at ht';cases ht';rw[a];rw[Pp]at hm;obtain⟨g,hg⟩:=choose_lt (α:=Pat) (p:=fun i x=>LeDs (f i) (E1 x)/\Xl x/\1<=ms i) fun i b=>ih (ms i) (by have:=QJ ms b;omega) _ (hel i b);exact⟨.mk x0 x1 x2 x3 x4 n g,LeDs.append l0 (LeDs.append l1 (LeDs.append l2 (LeDs.append l3 (LeDs.append l4 (.cons (.sl fun i b=>(hg i b).1) .nil))))),⟨Xk w1,fun i b=>(hg i b).2.1⟩,by show 1<=m;omega⟩
def VM (x:IK):Prop:=((Lit.int .i64 x.From).wf=true)/\((Lit.int .u32 x.Clear).wf=true)/\(Hd x.Set)/\((Lit.int .u32 x.Take).wf=true)/\((Lit.int .i64 x.Of).wf=true)
def Kv (x:IK):Nat:=1+1+Bk x.Set+1+1+1
def YF:Lk Tryz.prog Aa3 AX VM Kv:=by intro m pvs h;obtain⟨m0,h,a⟩:=Y5 Tryz.underlying138 h;obtain⟨a0,b0,p0,q0,rfl,b,h,c⟩:=C6 h;obtain⟨x0,l0,w0,s0⟩:=U4 AW8 _ _ b;have s0:1<=a0:=s0;obtain⟨a1,b1,p1,q1,rfl,h1,h,d⟩:=C6 h;obtain⟨x1,l1,w1,s1⟩:=U4 Be0 _ _ h1;have s1:1<=a1:=s1;obtain⟨a2,b2,p2,q2,rfl,f,h,g⟩:=C6 h;obtain⟨x2,l2,w2,s2⟩:=Dm _ _ f;have s2:Bk x2<=a2:=s2;obtain⟨a3,b3,p3,q3,rfl,i,h,j⟩:=C6 h;obtain⟨x3,l3,w3,s3⟩:=U4 Be0 _ _ i;have s3:1<=a3:=s3;obtain⟨a4,b4,p4,q4,rfl,l,h,n⟩:=C6 h;obtain⟨x4,l4,w4,s4⟩:=U4 AW8 _ _ l;have s4:1<=a4:=s4;obtain rfl:=Cj h;exact⟨⟨x0,x1,x2,x3,x4⟩,LeDs.append l0 (LeDs.append l1 (LeDs.append l2 (LeDs.append l3 (LeDs.append l4 LeDs.nil)))),⟨w0,w1,w2,w3,w4⟩,by simp only[Kv];omega⟩
def Xm (x:Law):Prop:=(True)/\(Xl x.Left)/\(Xl x.Right)/\(∀i,i<x.If.n->Hd (x.If.g i))/\(∀i,i<x.Out.n->VM (x.Out.g i))/\((Lit.int .i64 x.Mode).wf=true)
def Jz (x:Law):Nat:=(x.Name.length+1)+Ua x.Left+Ua x.Right+(FZ (fun i=>Bk (x.If.g i)) x.If.n+1)+(FZ (fun i=>Kv (x.Out.g i)) x.Out.n+1)+1+1
def Af7:Lk Tryz.prog Ti B3 Xm Jz:=by intro m pvs h;obtain⟨m0,h,a⟩:=Y5 Tryz.underlying60 h;obtain⟨a0,b0,p0,q0,rfl,b,h,c⟩:=C6 h;obtain⟨x0,l0,w0,s0⟩:=SP Be6 _ _ b;have s0:(x0.length+1)<=a0:=s0;obtain⟨a1,b1,p1,q1,rfl,h1,h,d⟩:=C6 h;obtain⟨x1,l1,w1,s1⟩:=Ub _ _ h1;have s1:Ua x1<=a1:=s1;obtain⟨a2,b2,p2,q2,rfl,f,h,j⟩:=C6 h;obtain⟨x2,l2,w2,s2⟩:=Ub _ _ f;have s2:Ua x2<=a2:=s2;obtain⟨a3,b3,p3,q3,rfl,l,h,o⟩:=C6 h;obtain⟨x3,l3,w3,s3⟩:=T8 Bc0 (by kernel_rfl) Dm _ _ l;have s3:(FZ (fun i=>Bk (x3.g i)) x3.n+1)<=a3:=s3;obtain⟨a4,b4,p4,q4,rfl,q,h,r⟩:=C6 h;obtain⟨x4,l4,w4,s4⟩:=T8 Tryz.underlying58 (by kernel_rfl) YF _ _ q;have s4:(FZ (fun i=>Kv (x4.g i)) x4.n+1)<=a4:=s4;obtain⟨a5,b5,p5,q5,rfl,s,h,t⟩:=C6 h;obtain⟨x5,l5,w5,s5⟩:=U4 AW8 _ _ s;have s5:1<=a5:=s5;obtain rfl:=Cj h;exact⟨⟨x0,x1,x2,x3,x4,x5⟩,LeDs.append l0 (LeDs.append l1 (LeDs.append l2 (LeDs.append l3 (LeDs.append l4 (LeDs.append l5 LeDs.nil))))),⟨w0,w1,w2,w3,w4,w5⟩,by simp only[Jz];omega⟩
def PM (x:A7):Prop:=(∀i,i<x.Tree.n->Af6 (x.Tree.g i))/\(∀i,i<x.Laws.n->Xm (x.Laws.g i))/\(∀i,i<x.On.n->∀i',i' < (x.On.g i).n->(Lit.int .i64 ((x.On.g i).g i')).wf=true)
def Ez (x:A7):Nat:=(FZ (fun i=>GR (x.Tree.g i)) x.Tree.n+1)+(FZ (fun i=>Jz (x.Laws.g i)) x.Laws.n+1)+(FZ (fun i=>FZ (fun i=>1) (x.On.g i).n+1) x.On.n+1)+1
def PN:Lk Tryz.prog Rd B6 PM Ez:=by intro m pvs h;obtain⟨m0,h,a⟩:=Y5 Tryz.underlying26 h;obtain⟨a0,b0,p0,q0,rfl,b,h,c⟩:=C6 h;obtain⟨x0,l0,w0,s0⟩:=T8 Tryz.underlying22 (by kernel_rfl) YE _ _ b;have s0:(FZ (fun i=>GR (x0.g i)) x0.n+1)<=a0:=s0;obtain⟨a1,b1,p1,q1,rfl,h1,h,d⟩:=C6 h;obtain⟨x1,l1,w1,s1⟩:=T8 Tryz.underlying23 (by kernel_rfl) Af7 _ _ h1;have s1:(FZ (fun i=>Jz (x1.g i)) x1.n+1)<=a1:=s1;obtain⟨a2,b2,p2,q2,rfl,f,h,j⟩:=C6 h;obtain⟨x2,l2,w2,s2⟩:=T8 Tryz.underlying24 (by kernel_rfl) (T8 Tryz.underlying29 (by kernel_rfl) (U4 AW8)) _ _ f;have s2:(FZ (fun i=>FZ (fun i=>1) (x2.g i).n+1) x2.n+1)<=a2:=s2;obtain rfl:=Cj h;exact⟨⟨x0,x1,x2⟩,LeDs.append l0 (LeDs.append l1 (LeDs.append l2 LeDs.nil)),⟨w0,w1,w2⟩,by simp only[Ez];omega⟩
def Af8 (x:Ca):Prop:=(True)/\(∀i,i<x.W.n->Hd (x.W.g i))
def Ug (x:Ca):Nat:=1+(FZ (fun i=>Bk (x.W.g i)) x.W.n+1)+1
def Xn:Lk Tryz.prog Pu L7 Af8 Ug:=by intro m pvs h;obtain⟨m0,h,a⟩:=Y5 Tryz.underlying64 h;obtain⟨a0,b0,p0,q0,rfl,b,h,c⟩:=C6 h;obtain⟨x0,l0,w0,s0⟩:=Pq Bb1 _ _ b;have s0:1<=a0:=s0;obtain⟨a1,b1,p1,q1,rfl,h1,h,d⟩:=C6 h;obtain⟨x1,l1,w1,s1⟩:=T8 Bc0 (by kernel_rfl) Dm _ _ h1;have s1:(FZ (fun i=>Bk (x1.g i)) x1.n+1)<=a1:=s1;obtain rfl:=Cj h;exact⟨⟨x0,x1⟩,LeDs.append l0 (LeDs.append l1 LeDs.nil),⟨w0,w1⟩,by simp only[Ug];omega⟩
end Go.AM
namespace Go.AM
def Uc {f:Nat->Nat}(h:∀i,1<=f i):∀n,n<=FZ f n
 |0=>AZ8 _
 |n+1=>by
  have:=Uc h n
  have:=h n
  show n+1<=FZ f n+f n;omega
def AP0 {x:IK}(h:VM x):okO x:=⟨Xk h.2.2.1,Ar4 h.2.1,Ar4 h.2.2.2.1⟩
def Ar5 {l:Law}(h:Xm l)(hs:Jz l<=1048576):Lx l:=by obtain⟨_,h1,b,c,d,_⟩:=h;unfold Jz at hs;have g1:=Uc (f:=fun i=>Bk (l.If.g i)) (fun i=>by simp only[Bk];omega) l.If.n;have g2:=Uc (f:=fun i=>Kv (l.Out.g i)) (fun i=>by simp only[Kv];omega) l.Out.n;exact⟨⟨h1,b,fun i a=>Xk (c i a)⟩,by omega,by omega,by omega,fun i a=>AP0 (d i a)⟩
def Af9 {x:Sl Law}(h:∀i,i<x.n->Xm (x.g i))(hs:FZ (fun i=>Jz (x.g i)) x.n+1<=1048576):GQ x:=fun i a=>
 Ar5 (h i a) (by have:=QJ (fun i=>Jz (x.g i)) a;have this:Jz (x.g i)<=_:=this;omega)
def Ar8 {x:Sl Tb}(h:∀i,i<x.n->Hd (x.g i)):okA x:=fun i a=>Xk (h i a)
def YL {h:A7}(w:PM h)(hs:Ez h<=1048576):Ag h:=by
 unfold Ez at hs;have g:=Uc (f:=fun i=>FZ (fun i=>1) (h.On.g i).n+1) (fun i=>by omega) h.On.n;refine⟨Af9 w.2.1 (by omega),fun v a=>?_,by omega,fun v a=>?_⟩
 .have:=QJ (fun i=>GR (h.Tree.g i)) a
  have this:GR (h.Tree.g v)<=FZ (fun i=>GR (h.Tree.g i)) h.Tree.n:=this;have e:GR (h.Tree.g v)=1+((h.Tree.g v).Name.length+1)+1:=rfl;omega
 have g2:=QJ (fun i=>FZ (fun i=>1) (h.On.g i).n+1) a;have g2:FZ (fun i=>1) (h.On.g v).n+1<=_:=g2;have g3:=Uc (f:=fun _=>1) (fun i=>by omega) (h.On.g v).n;omega
end Go.AM
namespace Go.AM
open Go.Proofs
def Xp {x:Sl Ca}(h:∀i,i<x.n->Af8 (x.g i)):NE x:=fun i a=>Ar8 (h i a).2
end Go.AM
