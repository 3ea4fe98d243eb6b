/- Part 8. -/
import Derived.JoinedOf
import Derived.Test.YtegikiijkjlikaaGreatDoorSD
import Derived.Test.YtegikiijkjlikaaGreatDoorSE
import Derived.Test.YtegikiijkjlikaaGreatDoorCards
import Derived.Test.YtegikiijkjlikaaGreatDoorTie
import Derived.WalkKit
import Derived.ProofKit
import Derived.OpenShut
import Derived.Deep.DeepHandedRow
import Derived.MakeChecks
import Derived.Lib.LaidTab
import Derived.Test.YtegikiijkjlikaaGreatDoorSF
import Derived.Test.YtegikiijkjlikaaGreatDoorSG
set_option linter.defProp false
set_option linter.unusedSimpArgs false
set_option linter.unusedVariables false
set_option linter.unusedSectionVars false
namespace Go.AM
def Ax0:=@Go.Proofs.Tryz.underlying3
def AA5:=@Go.Proofs.Tryz.underlying80
def AB0:=@Go.Proofs.Tryz.underlying4
def AD2:=@Go.Proofs.Tryz.underlying23
def AD4:=@Go.Proofs.Tryz.underlying77
def AD9:=@Go.Proofs.Tryz.underlying9
open Go.Rows
def jA_ (P:Program)(f:FuncId)(fn:Func)(s:ChangeSpec)(c:OpenClaim):Bool:= (c.wf (OpenSpec.ofChange s))&&(laidOutB P)&&(mapsRowed P)&&(fn.params.all (P.readableRec ·))&&(namedTie P c.named s.vars)&&(c.stops==[])&&(P.stops==[])&&(c.knobs==[])&&(P.stopKnobs==[])
def jB_ (P:Program)(f:FuncId)(fn:Func)(s:ChangeSpec)(c:OpenClaim):Bool:= (c.inPlace==P.inPlace f)&&(c.unfollowed==P.unfollowed f)
def jC_ (P:Program)(f:FuncId)(fn:Func)(s:ChangeSpec)(c:OpenClaim):Bool:= (c.recurses==P.recurses f)&&(c.named==P.varsNamed f)
def jD_ (P:Program)(f:FuncId)(fn:Func)(s:ChangeSpec)(c:OpenClaim):Bool:= (c.maps==(fn.params.toList++s.plain.varTypes P).any (P.mapsRec ·))&&(c.ifaces==(fn.params.toList++s.plain.varTypes P).any (P.ifacesRec ·))&&(c.mapsOut==P.mapsAmong fn.resultTypes.toList)&&(c.loops==(fn.params.toList++s.plain.varTypes P).any (P.loopsFrom ·))&&(c.wideKeys==(fn.params.toList++s.plain.varTypes P++fn.resultTypes.toList).any (P.wideKeysFrom ·))&&(s.vars.all (P.varReadable ·))&&(fn.resultTypes.all (fun t=>P.readableRec t&&decide (t<P.types.size)))&&(c.ifacesOut==fn.resultTypes.toList.any (P.ifacesRec ·))&&(c.loopsOut==fn.resultTypes.toList.any (P.loopsFrom ·))&&(c.plainKeys==P.plainKeys)&&(c.shortTexts.isNone)
def jE_ (P:Program)(f:FuncId)(fn:Func)(s:ChangeSpec)(c:OpenClaim):Bool:= (P.stopsHeard)&&(P.mayEnter)
def jF_ (P:Program)(f:FuncId)(fn:Func)(s:ChangeSpec)(c:OpenClaim):Bool:=
 (c.lifted==P.liftsFinal)&&(P.make==some c.make)&&(c.kinds==(if c.domain.isEmpty then []else fn.params.toList.map fun t=>match P.underlying t with|some (.int k)=>some k|_=>none))&&(c.pinned==c.pinnedBy)&&(c.veiled==(fn.params.toList++s.plain.varTypes P++fn.resultTypes.toList).any (P.veiledRec ·))&&(c.veiledFits P fn.params.toList (fn.params.toList++s.plain.varTypes P++fn.resultTypes.toList))
def Uo {P:Program}{f:FuncId}{fn:Func}{s:ChangeSpec}{c:OpenClaim}(h1:jA_ P f fn s c=true)(a:jB_ P f fn s c=true)(b:jC_ P f fn s c=true)(d:jD_ P f fn s c=true)(g:jE_ P f fn s c=true)(i:jF_ P f fn s c=true):joinedFacts P f fn s c=true:=by
 have:joinedFacts P f fn s c=(jA_ P f fn s c&&jB_ P f fn s c&&jC_ P f fn s c&&jD_ P f fn s c&&jE_ P f fn s c&&jF_ P f fn s c):=by simp only[joinedFacts,jA_,jB_,jC_,jD_,jE_,jF_,Bool.and_assoc];rfl
 rw[this,h1,a,b,d,g,i];rfl
end Go.AM
namespace Go.AM
open Go.RowKit Go.ChangeShapes Go.WideShapes Go.ChangeAt Go.Deep Go.Proofs Go.Proofs.YtegikiijkjlikaaGreatDoor
theorem Ah8:Kids Tryz.prog (· < Tryz.prog.types.size):=kids_rows (by kernel_rfl) (by kernel_rfl)
theorem NA {H:Type}:∀es:List (DataW H),PG (es.map Rows.uptoBulk)=Rows.uptoBulkAll es
 |[]=>rfl
 |d::r=>by simp only[At4,Om,Rows.uptoBulkAll,NA r]
theorem Ah9 {H:Type}:Bulk (H:=H) Rows.uptoBulk where
 int k n:=by simp[Rows.uptoBulk]
 bool b:=by simp[Rows.uptoBulk]
 str l:=by simp[Rows.uptoBulk]
 nil:=by simp[Rows.uptoBulk]
 slice es sp:=by simp only[Rows.uptoBulk,NA];omega
 agg ps:=by simp only[Rows.uptoBulk,NA];omega
section
variable {H:Type}{enc:TypeId×Value->H}{P:Program}{W:World}
theorem Um {v:Value}{x:PV}(a:v.cells.toList=[v])(h:CRep W v.cells.toList [x]):RepP W (fun _ _=>False) v x:=by
 have:=(h.2 0 (by simp)).1
 rw[a]at this;exact this
end
theorem YI {n:Int}(hw:(Lit.int .u32 n).wf=true):∃p:BitVec 32,n=(p.toNat:Int):=by
 simp only[Lit.wf,IntKind.min,IntKind.max,IntKind.signed,IntKind.bits,Aq7,Nj]at hw;refine⟨BitVec.ofNat 32 n.toNat,?_⟩;rw[AI8];have a:0<=n:=by have:=hw.1;simpa using this
 have h1:n<4294967296:=by have:=hw.2;simp at this;omega
 rw[Ay5 (by omega),Int.toNat_of_nonneg a]
theorem Zz {W:World}(hL:laidMetH Tryz.prog Rows.loansPlacesUptoRow.laid W):TabOk Tryz.prog W fun _ _=>False:=by
 rw[MakeChecks.laidMetH_plain _ _ _ (by kernel_rfl)]at hL;have b:Lib.TabIs Tryz.prog W "math/bits.deBruijn64tab" .u8 (Lib.deBruijn64tab.map fun (n:Nat)=>(n:Int)):=by refine Lib.tabIs_of_head (g:=3) (t:=(Tryz.prog.globals[3]?.map (·.type)).getD 0) (e:=(match Tryz.prog.underlying ((Tryz.prog.globals[3]?.map (·.type)).getD 0)with|some (.array _ e)=>e|_=>0)) (n:=64) (by kernel_rfl) (by kernel_rfl) (by kernel_rfl) (by kernel_rfl) (by kernel_rfl) (by kernel_rfl) (rest:=Rows.loansPlacesUptoRow.laid.tail) ?_;exact hL
 intro g s j v hs a;have c:g=3:=by
  have key:∀k:Fin Tryz.prog.globals.size,((Tryz.prog.globals[k.1]?.map fun s=>s.name == "math/bits.deBruijn64tab")==some true)=true->k.1=3:=by decide +kernel
  have d:g<Tryz.prog.globals.size:=(Ar2.1 hs).1;refine key ⟨g,d⟩ ?_
  have:(s.name == "math/bits.deBruijn64tab")=true:=by
   unfold Rw at a;split at a
   .assumption
   simp at a
  simp[hs,this]
 subst c;unfold Rw at a;split at a
 .rw[Aq8]at a;obtain⟨n,hn,rfl⟩:=As8.1 a;have f:j<Lib.deBruijn64tab.length:=(Ar4.1 hn).1;refine⟨?_,fun h=>h⟩;rw[b.cell (by kernel_rfl) j (by simpa using f)];simp[Aq1,Aq8,hn]
 simp at a
end Go.AM
namespace Go.AM
open Go.RowKit Go.ChangeShapes Go.WideShapes Go.ChangeAt Go.Deep Go.Proofs Go.Proofs.YtegikiijkjlikaaGreatDoor
set_option maxRecDepth 100000
def Hb (x:Qz):Prop:=((Lit.int .u32 x.Plus).wf=true)/\((Lit.int .u32 x.Minus).wf=true)
def AC (x:Qz):Nat:=1+1+1
def CW:MU Tryz.prog B1 A0 Hb AC:=by intro m pvs h;obtain⟨m0,h,a⟩:=BX Tryz.underlying79 h;obtain⟨a0,b0,p0,q0,rfl,b,h,c⟩:=E2 h;obtain⟨x0,l0,w0,s0⟩:=W2 AD4 _ _ b;have s0:1<=a0:=s0;obtain⟨a1,b1,p1,q1,rfl,h1,h,d⟩:=E2 h;obtain⟨x1,l1,w1,s1⟩:=W2 AD4 _ _ h1;have s1:1<=a1:=s1;obtain rfl:=EO h;exact⟨⟨x0,x1⟩,LeDs.append l0 (LeDs.append l1 LeDs.nil),⟨w0,w1⟩,by simp only[AC];omega⟩
def SH {x:Qz}(h:Hb x):okS x:=by obtain⟨p,hp⟩:=YI h.1;obtain⟨q,a⟩:=YI h.2;exact⟨p,q,by cases x;simp_all [sOf]⟩
abbrev SI (x:Pat):Prop:=okPS x
abbrev Pz (x:Pat):Nat:=1
def PA:MU Tryz.prog En B8 SI Pz:=by
 intro m
 induction m using Nat.strongRecOn with
 |ind m ih=>
 intro pvs h;obtain⟨m0,h,d⟩:=BX Tryz.underlying82 h;obtain⟨a0,b0,p0,q0,rfl,j,h,l⟩:=E2 h;obtain⟨x0,l0,w0,s0⟩:=W2 Ax0 _ _ j;have s0:1<=a0:=s0;obtain⟨a1,b1,p1,q1,rfl,h1,h,o⟩:=E2 h;obtain⟨x1,l1,w1,s1⟩:=CW _ _ h1;have s1:AC x1<=a1:=s1;obtain⟨a2,b2,p2,q2,rfl,q,h,r⟩:=E2 h;obtain⟨x2,l2,w2,s2⟩:=Tx AB0 _ _ q;have s2:1<=a2:=s2;obtain⟨a3,b3,p3,q3,rfl,s,h,t⟩:=E2 h;obtain⟨x3,l3,w3,s3⟩:=W2 Ax0 _ _ s;have s3:1<=a3:=s3;obtain⟨a4,b4,p4,q4,rfl,u,h,v⟩:=E2 h;obtain⟨x4,l4,w4,s4⟩:=W2 Ax0 _ _ u;have s4:1<=a4:=s4;obtain⟨a5,b5,p5,q5,rfl,w,h,y⟩:=E2 h;obtain rfl:=EO h;have a:Tryz.prog.cellsOf 82=7:=by kernel_rfl
 cases w with
 |int ht'=>rw[AA5]at ht';cases ht'
 |bool ht'=>rw[AA5]at ht';cases ht'
 |str ht'=>rw[AA5]at ht';cases ht'
 |struct ht'=>rw[AA5]at ht';cases ht'
 |arr ht'=>rw[AA5]at ht';cases ht'
 | @slice _ _ e' n f ms ht' hl hel hm=>rw[AA5]at ht';cases ht';rw[a];rw[LQ]at hm;obtain⟨g,c⟩:=choose_lt (α:=Pat) (p:=fun i x=>LeDs (f i) (B8 x)/\SI x/\1<=ms i) fun i b=>ih (ms i) (by have:=Vu ms b;omega) _ (hel i b);exact⟨.mk x0 x1 x2 x3 x4 n g,LeDs.append l0 (LeDs.append l1 (LeDs.append l2 (LeDs.append l3 (LeDs.append l4 (.cons (.sl fun i b=>(c i b).1) .nil))))),⟨SH w1,fun i b=>(c i b).2.1⟩,by show 1<=m;omega⟩
def Ro (x:Ap):Prop:=((Lit.int .i64 x.From).wf=true)/\((Lit.int .u32 x.Clear).wf=true)/\(Hb x.Set)/\((Lit.int .u32 x.Take).wf=true)/\((Lit.int .i64 x.Of).wf=true)
def HJ (x:Ap):Nat:=1+1+AC x.Set+1+1+1
def Uc:MU Tryz.prog VH Y7 Ro HJ:=by intro m pvs h;obtain⟨m0,h,a⟩:=BX Tryz.underlying125 h;obtain⟨a0,b0,p0,q0,rfl,b,h,c⟩:=E2 h;obtain⟨x0,l0,w0,s0⟩:=W2 Ax0 _ _ b;have s0:1<=a0:=s0;obtain⟨a1,b1,p1,q1,rfl,h1,h,d⟩:=E2 h;obtain⟨x1,l1,w1,s1⟩:=W2 AD4 _ _ h1;have s1:1<=a1:=s1;obtain⟨a2,b2,p2,q2,rfl,f,h,g⟩:=E2 h;obtain⟨x2,l2,w2,s2⟩:=CW _ _ f;have s2:AC x2<=a2:=s2;obtain⟨a3,b3,p3,q3,rfl,i,h,j⟩:=E2 h;obtain⟨x3,l3,w3,s3⟩:=W2 AD4 _ _ i;have s3:1<=a3:=s3;obtain⟨a4,b4,p4,q4,rfl,l,h,n⟩:=E2 h;obtain⟨x4,l4,w4,s4⟩:=W2 Ax0 _ _ l;have s4:1<=a4:=s4;obtain rfl:=EO h;exact⟨⟨x0,x1,x2,x3,x4⟩,LeDs.append l0 (LeDs.append l1 (LeDs.append l2 (LeDs.append l3 (LeDs.append l4 LeDs.nil)))),⟨w0,w1,w2,w3,w4⟩,by simp only[HJ];omega⟩
def WG (x:Law):Prop:=(True)/\(SI x.Left)/\(SI x.Right)/\(∀i,i<x.If.n->Hb (x.If.g i))/\(∀i,i<x.Out.n->Ro (x.Out.g i))/\((Lit.int .i64 x.Mode).wf=true)
def HK (x:Law):Nat:=(x.Name.length+1)+Pz x.Left+Pz x.Right+(Ko (fun i=>AC (x.If.g i)) x.If.n+1)+(Ko (fun i=>HJ (x.Out.g i)) x.Out.n+1)+1+1
def Ul:MU Tryz.prog N7 A5 WG HK:=by intro m pvs h;obtain⟨m0,h,a⟩:=BX Tryz.underlying85 h;obtain⟨a0,b0,p0,q0,rfl,b,h,c⟩:=E2 h;obtain⟨x0,l0,w0,s0⟩:=Vv AD9 _ _ b;have s0:(x0.length+1)<=a0:=s0;obtain⟨a1,b1,p1,q1,rfl,h1,h,d⟩:=E2 h;obtain⟨x1,l1,w1,s1⟩:=PA _ _ h1;have s1:Pz x1<=a1:=s1;obtain⟨a2,b2,p2,q2,rfl,f,h,j⟩:=E2 h;obtain⟨x2,l2,w2,s2⟩:=PA _ _ f;have s2:Pz x2<=a2:=s2;obtain⟨a3,b3,p3,q3,rfl,l,h,o⟩:=E2 h;obtain⟨x3,l3,w3,s3⟩:=CV AD2 (by kernel_rfl) CW _ _ l;have s3:(Ko (fun i=>AC (x3.g i)) x3.n+1)<=a3:=s3;obtain⟨a4,b4,p4,q4,rfl,q,h,r⟩:=E2 h;obtain⟨x4,l4,w4,s4⟩:=CV Tryz.underlying83 (by kernel_rfl) Uc _ _ q;have s4:(Ko (fun i=>HJ (x4.g i)) x4.n+1)<=a4:=s4;obtain⟨a5,b5,p5,q5,rfl,s,h,t⟩:=E2 h;obtain⟨x5,l5,w5,s5⟩:=W2 Ax0 _ _ s;have s5:1<=a5:=s5;obtain rfl:=EO h;exact⟨⟨x0,x1,x2,x3,x4,x5⟩,LeDs.append l0 (LeDs.append l1 (LeDs.append l2 (LeDs.append l3 (LeDs.append l4 (LeDs.append l5 LeDs.nil))))),⟨w0,w1,w2,w3,w4,w5⟩,by simp only[HK];omega⟩
end Go.AM
namespace Go.AM
def WH {f:Nat->Nat}(h:∀i,1<=f i):∀n,n<=Ko f n
 |0=>Az6 _
 |n+1=>by
  have:=WH h n
  have:=h n
  show n+1<=Ko f n+f n;omega
def Ap0 {x:Ap}(h:Ro x):okO x:=⟨SH h.2.2.1,YI h.2.1,YI h.2.2.2.1⟩
def YJ {l:Law}(h:WG l)(hs:HK l<=1048576):Ki l:=by obtain⟨_,h1,b,c,d,_⟩:=h;unfold HK at hs;have g1:=WH (f:=fun i=>AC (l.If.g i)) (fun i=>by simp only[AC];omega) l.If.n;have g2:=WH (f:=fun i=>HJ (l.Out.g i)) (fun i=>by simp only[HJ];omega) l.Out.n;exact⟨⟨h1,b,fun i a=>SH (c i a)⟩,by omega,by omega,by omega,fun i a=>Ap0 (d i a)⟩
def Un {x:Sl Law}(h:∀i,i<x.n->WG (x.g i))(hs:Ko (fun i=>HK (x.g i)) x.n+1<=1048576):S9 x:=fun i a=>
 YJ (h i a) (by have:=Vu (fun i=>HK (x.g i)) a;have this:HK (x.g i)<=_:=this;omega)
def Ai0 {x:Sl Qz}(h:∀i,i<x.n->Hb (x.g i)):okA x:=fun i a=>SH (h i a)
end Go.AM
namespace Go.AM
open Go.RowKit Go.ChangeShapes Go.WideShapes Go.ChangeAt Go.Deep Go.Proofs Go.Proofs.YtegikiijkjlikaaGreatDoor
set_option maxRecDepth 100000
end Go.AM
namespace Go.AM
end Go.AM
namespace Go.AM
open Go.RowKit Go.ChangeShapes Go.WideShapes Go.ChangeAt Go.Deep Go.Proofs Go.Proofs.YtegikiijkjlikaaGreatDoor
set_option maxRecDepth 100000
end Go.AM
namespace Go.AM
end Go.AM
