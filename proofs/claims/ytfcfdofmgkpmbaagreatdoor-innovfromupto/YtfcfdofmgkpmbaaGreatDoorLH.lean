/- What a law's walk and its plain proof need, part 8: no condition of its own. -/
import Derived.JoinedOf
import Derived.Test.YtfcfdofmgkpmbaaGreatDoorLD
import Derived.Test.YtfcfdofmgkpmbaaGreatDoorLE
import Derived.Test.YtfcfdofmgkpmbaaGreatDoorCards
import Derived.Test.YtfcfdofmgkpmbaaGreatDoorTie
import Derived.WalkKit
import Derived.ProofKit
import Derived.OpenShut
import Derived.Deep.DeepHandedRow
import Derived.MakeChecks
import Derived.Lib.LaidTab
import Derived.Test.YtfcfdofmgkpmbaaGreatDoorLF
import Derived.Test.YtfcfdofmgkpmbaaGreatDoorLG
set_option linter.unusedSimpArgs false
set_option linter.unusedVariables false
set_option linter.unusedSectionVars false
namespace Go.AM
open Go.Rows
end Go.AM
namespace Go.AM
open Go.RowKit Go.ChangeShapes Go.WideShapes Go.ChangeAt Go.Deep Go.Proofs Go.Proofs.YtfcfdofmgkpmbaaGreatDoor
theorem kids1:Kids Tryz.prog (· < Tryz.prog.types.size):=kids_rows (by kernel_rfl) (by kernel_rfl)
theorem Oo {H:Type}:∀es:List (DataW H),Qr (es.map Rows.uptoBulk)=Rows.uptoBulkAll es
 |[]=>rfl
 |d::r=>by simp only[List.map_cons,Pf,Rows.uptoBulkAll,Oo r]
theorem bulkU {H:Type}:Bulk (H:=H) Rows.uptoBulk where
 int k n:=by simp[Rows.uptoBulk]
 bool b:=by simp[Rows.uptoBulk]
 str l:=by simp[Rows.uptoBulk]
 nil:=by simp[Rows.uptoBulk]
 slice es sp:=by simp only[Rows.uptoBulk,Oo];omega
 agg ps:=by simp only[Rows.uptoBulk,Oo];omega
section
variable {H:Type}{enc:TypeId×Value->H}{P:Program}{W:World}
theorem YX {cs:Array Value}{pvs:List PV}(h:CRep W (Value.agg cs).cells.toList pvs):RepP W (fun _ _=>False) (.agg cs) (.agg pvs):=by
 obtain⟨h1,h2⟩:=h;have hc:(Value.agg cs).cells.toList=cs.toList:=rfl;rw[hc]at h1 h2;have e:∀i,cs.toList.getD i undef=cs.getD i undef:=fun i=>by simp[List.getD_eq_getElem?_getD,Array.getD_eq_getD_getElem?]
 exact .agg cs pvs (by simpa using h1) (fun i hi=>by rw[<- e];exact (h2 i hi).2) fun i hi=>by rw[<- e];exact (h2 i hi).1
end
theorem Yq {n:Int}(hw:(Lit.int .u32 n).wf=true):∃p:BitVec 32,n=(p.toNat:Int):=by
 simp only[Lit.wf,IntKind.min,IntKind.max,IntKind.signed,IntKind.bits,Bool.and_eq_true,decide_eq_true_eq]at hw;refine⟨BitVec.ofNat 32 n.toNat,?_⟩;rw[BitVec.toNat_ofNat];have h0:0<=n:=by have:=hw.1;simpa using this
 have h1:n<4294967296:=by have:=hw.2;simp at this;omega
 rw[Nat.mod_eq_of_lt (by omega),Int.toNat_of_nonneg h0]
theorem YY {W:World}(hL:laidMetH Tryz.prog Rows.innovChecksUptoRow.laid W):TabOk Tryz.prog W fun _ _=>False:=by
 rw[MakeChecks.laidMetH_plain _ _ _ (by kernel_rfl)]at hL;have hT:Lib.TabIs Tryz.prog W "math/bits.deBruijn64tab" .u8 (Lib.deBruijn64tab.map fun (n:Nat)=>(n:Int)):=by refine Lib.tabIs_of_head (g:=0) (t:=(Tryz.prog.globals[0]?.map (·.type)).getD 0) (e:=(match Tryz.prog.underlying ((Tryz.prog.globals[0]?.map (·.type)).getD 0)with|some (.array _ e)=>e|_=>0)) (n:=64) (by kernel_rfl) (by kernel_rfl) (by kernel_rfl) (by kernel_rfl) (by kernel_rfl) (by kernel_rfl) (rest:=Rows.innovChecksUptoRow.laid.tail) ?_;exact hL
 intro g s j v hs hv;have h3:g=0:=by
  have key:∀k:Fin Tryz.prog.globals.size,((Tryz.prog.globals[k.1]?.map fun s=>s.name == "math/bits.deBruijn64tab")==some true)=true->k.1=0:=by decide +kernel
  have hg:g<Tryz.prog.globals.size:=(Array.getElem?_eq_some_iff.1 hs).1;refine key ⟨g,hg⟩ ?_
  have:(s.name == "math/bits.deBruijn64tab")=true:=by
   unfold Sj at hv;split at hv
   ·assumption
   ·simp at hv
  simp[hs,this]
 subst h3;unfold Sj at hv;split at hv
 ·rw[List.getElem?_map]at hv;obtain⟨n,hn,rfl⟩:=Option.map_eq_some_iff.1 hv;have hj:j<Lib.deBruijn64tab.length:=(List.getElem?_eq_some_iff.1 hn).1;refine⟨?_,fun h=>h⟩;rw[hT.cell (by kernel_rfl) j (by simpa using hj)];simp[List.getD_eq_getElem?_getD,List.getElem?_map,hn]
 ·simp at hv
end Go.AM
namespace Go.AM
open Go.RowKit Go.ChangeShapes Go.WideShapes Go.ChangeAt Go.Deep Go.Proofs Go.Proofs.YtfcfdofmgkpmbaaGreatDoor
set_option maxRecDepth 100000
end Go.AM
namespace Go.AM
end Go.AM
namespace Go.AM
open Go.RowKit Go.ChangeShapes Go.WideShapes Go.ChangeAt Go.Deep Go.Proofs Go.Proofs.YtfcfdofmgkpmbaaGreatDoor
set_option maxRecDepth 100000
def WK (x:J1):Prop:=((Lit.int .i64 x.Parent).wf=true)/\(True)
def Fi (x:J1):Nat:=1+(x.Name.length+1)+1
theorem UN:JJ Tryz.prog HN H0 WK Fi:=by intro m pvs h;obtain⟨m0,h,hm0⟩:=Ac Tryz.underlying95 h;obtain⟨a0,b0,p0,q0,rfl,h0,h,hm1⟩:=C5 h;obtain⟨x0,l0,w0,s0⟩:=P8 Tryz.underlying3 _ _ h0;have s0:1<=a0:=s0;obtain⟨a1,b1,p1,q1,rfl,h1,h,hm2⟩:=C5 h;obtain⟨x1,l1,w1,s1⟩:=Pv Tryz.underlying9 _ _ h1;have s1:(x1.length+1)<=a1:=s1;obtain rfl:=BP h;exact⟨⟨x0,x1⟩,LeDs.append l0 (LeDs.append l1 LeDs.nil),⟨w0,w1⟩,by simp only[Fi];omega⟩
def IZ (x:Sound):Prop:=((Lit.int .u32 x.Plus).wf=true)/\((Lit.int .u32 x.Minus).wf=true)
def BM (x:Sound):Nat:=1+1+1
theorem Gu:JJ Tryz.prog D1 A0 IZ BM:=by intro m pvs h;obtain⟨m0,h,hm0⟩:=Ac Tryz.underlying87 h;obtain⟨a0,b0,p0,q0,rfl,h0,h,hm1⟩:=C5 h;obtain⟨x0,l0,w0,s0⟩:=P8 Tryz.underlying85 _ _ h0;have s0:1<=a0:=s0;obtain⟨a1,b1,p1,q1,rfl,h1,h,hm2⟩:=C5 h;obtain⟨x1,l1,w1,s1⟩:=P8 Tryz.underlying85 _ _ h1;have s1:1<=a1:=s1;obtain rfl:=BP h;exact⟨⟨x0,x1⟩,LeDs.append l0 (LeDs.append l1 LeDs.nil),⟨w0,w1⟩,by simp only[BM];omega⟩
theorem WL {x:Sound}(h:IZ x):okS x:=by obtain⟨p,hp⟩:=Yq h.1;obtain⟨q,hq⟩:=Yq h.2;exact⟨p,q,by cases x;simp_all [sOf]⟩
abbrev Th (x:Pat):Prop:=okPS x
abbrev Qk (x:Pat):Nat:=1
theorem Ql:JJ Tryz.prog Dt B0 Th Qk:=by
 intro m
 induction m using Nat.strongRecOn with
 |ind m ih=>
 intro pvs h;obtain⟨m0,h,hm0⟩:=Ac Tryz.underlying121 h;obtain⟨a0,b0,p0,q0,rfl,h0,h,hm1⟩:=C5 h;obtain⟨x0,l0,w0,s0⟩:=P8 Tryz.underlying3 _ _ h0;have s0:1<=a0:=s0;obtain⟨a1,b1,p1,q1,rfl,h1,h,hm2⟩:=C5 h;obtain⟨x1,l1,w1,s1⟩:=Gu _ _ h1;have s1:BM x1<=a1:=s1;obtain⟨a2,b2,p2,q2,rfl,h2,h,hm3⟩:=C5 h;obtain⟨x2,l2,w2,s2⟩:=TY Tryz.underlying4 _ _ h2;have s2:1<=a2:=s2;obtain⟨a3,b3,p3,q3,rfl,h3,h,hm4⟩:=C5 h;obtain⟨x3,l3,w3,s3⟩:=P8 Tryz.underlying3 _ _ h3;have s3:1<=a3:=s3;obtain⟨a4,b4,p4,q4,rfl,h4,h,hm5⟩:=C5 h;obtain⟨x4,l4,w4,s4⟩:=P8 Tryz.underlying3 _ _ h4;have s4:1<=a4:=s4;obtain⟨a5,b5,p5,q5,rfl,h5,h,hm6⟩:=C5 h;obtain rfl:=BP h;have hcell:Tryz.prog.cellsOf 121=7:=by kernel_rfl
 cases h5 with
 |int ht'=>rw[Tryz.underlying119]at ht';cases ht'
 |bool ht'=>rw[Tryz.underlying119]at ht';cases ht'
 |str ht'=>rw[Tryz.underlying119]at ht';cases ht'
 |struct ht'=>rw[Tryz.underlying119]at ht';cases ht'
 |arr ht'=>rw[Tryz.underlying119]at ht';cases ht'
 | @slice _ _ e' n f ms ht' hl hel hm=>rw[Tryz.underlying119]at ht';cases ht';rw[hcell];rw[Ms]at hm;obtain⟨g,hg⟩:=choose_lt (α:=Pat) (p:=fun i x=>LeDs (f i) (B0 x)/\Th x/\1<=ms i) fun i hi=>ih (ms i) (by have:=Nv ms hi;omega) _ (hel i hi);exact⟨.mk x0 x1 x2 x3 x4 n g,LeDs.append l0 (LeDs.append l1 (LeDs.append l2 (LeDs.append l3 (LeDs.append l4 (.cons (.sl fun i hi=>(hg i hi).1) .nil))))),⟨WL w1,fun i hi=>(hg i hi).2.1⟩,by show 1<=m;omega⟩
def Sb (x:Ai):Prop:=((Lit.int .i64 x.From).wf=true)/\((Lit.int .u32 x.Clear).wf=true)/\(IZ x.Set)/\((Lit.int .u32 x.Take).wf=true)/\((Lit.int .i64 x.Of).wf=true)
def HT (x:Ai):Nat:=1+1+BM x.Set+1+1+1
theorem UO:JJ Tryz.prog Wk O2 Sb HT:=by intro m pvs h;obtain⟨m0,h,hm0⟩:=Ac Tryz.underlying155 h;obtain⟨a0,b0,p0,q0,rfl,h0,h,hm1⟩:=C5 h;obtain⟨x0,l0,w0,s0⟩:=P8 Tryz.underlying3 _ _ h0;have s0:1<=a0:=s0;obtain⟨a1,b1,p1,q1,rfl,h1,h,hm2⟩:=C5 h;obtain⟨x1,l1,w1,s1⟩:=P8 Tryz.underlying85 _ _ h1;have s1:1<=a1:=s1;obtain⟨a2,b2,p2,q2,rfl,h2,h,hm3⟩:=C5 h;obtain⟨x2,l2,w2,s2⟩:=Gu _ _ h2;have s2:BM x2<=a2:=s2;obtain⟨a3,b3,p3,q3,rfl,h3,h,hm4⟩:=C5 h;obtain⟨x3,l3,w3,s3⟩:=P8 Tryz.underlying85 _ _ h3;have s3:1<=a3:=s3;obtain⟨a4,b4,p4,q4,rfl,h4,h,hm5⟩:=C5 h;obtain⟨x4,l4,w4,s4⟩:=P8 Tryz.underlying3 _ _ h4;have s4:1<=a4:=s4;obtain rfl:=BP h;exact⟨⟨x0,x1,x2,x3,x4⟩,LeDs.append l0 (LeDs.append l1 (LeDs.append l2 (LeDs.append l3 (LeDs.append l4 LeDs.nil)))),⟨w0,w1,w2,w3,w4⟩,by simp only[HT];omega⟩
def Ti (x:Law):Prop:=(True)/\(Th x.Left)/\(Th x.Right)/\(∀i,i<x.If.n->IZ (x.If.g i))/\(∀i,i<x.Out.n->Sb (x.Out.g i))/\((Lit.int .i64 x.Mode).wf=true)
def Hs (x:Law):Nat:=(x.Name.length+1)+Qk x.Left+Qk x.Right+(FD (fun i=>BM (x.If.g i)) x.If.n+1)+(FD (fun i=>HT (x.Out.g i)) x.Out.n+1)+1+1
theorem WM:JJ Tryz.prog Kq B3 Ti Hs:=by intro m pvs h;obtain⟨m0,h,hm0⟩:=Ac Tryz.underlying124 h;obtain⟨a0,b0,p0,q0,rfl,h0,h,hm1⟩:=C5 h;obtain⟨x0,l0,w0,s0⟩:=Pv Tryz.underlying9 _ _ h0;have s0:(x0.length+1)<=a0:=s0;obtain⟨a1,b1,p1,q1,rfl,h1,h,hm2⟩:=C5 h;obtain⟨x1,l1,w1,s1⟩:=Ql _ _ h1;have s1:Qk x1<=a1:=s1;obtain⟨a2,b2,p2,q2,rfl,h2,h,hm3⟩:=C5 h;obtain⟨x2,l2,w2,s2⟩:=Ql _ _ h2;have s2:Qk x2<=a2:=s2;obtain⟨a3,b3,p3,q3,rfl,h3,h,hm4⟩:=C5 h;obtain⟨x3,l3,w3,s3⟩:=AF Tryz.underlying76 (by kernel_rfl) Gu _ _ h3;have s3:(FD (fun i=>BM (x3.g i)) x3.n+1)<=a3:=s3;obtain⟨a4,b4,p4,q4,rfl,h4,h,hm5⟩:=C5 h;obtain⟨x4,l4,w4,s4⟩:=AF Tryz.underlying122 (by kernel_rfl) UO _ _ h4;have s4:(FD (fun i=>HT (x4.g i)) x4.n+1)<=a4:=s4;obtain⟨a5,b5,p5,q5,rfl,h5,h,hm6⟩:=C5 h;obtain⟨x5,l5,w5,s5⟩:=P8 Tryz.underlying3 _ _ h5;have s5:1<=a5:=s5;obtain rfl:=BP h;exact⟨⟨x0,x1,x2,x3,x4,x5⟩,LeDs.append l0 (LeDs.append l1 (LeDs.append l2 (LeDs.append l3 (LeDs.append l4 (LeDs.append l5 LeDs.nil))))),⟨w0,w1,w2,w3,w4,w5⟩,by simp only[Hs];omega⟩
def MK (x:A8):Prop:=(∀i,i<x.Tree.n->WK (x.Tree.g i))/\(∀i,i<x.Laws.n->Ti (x.Laws.g i))/\(∀i,i<x.On.n->∀i',i' < (x.On.g i).n->(Lit.int .i64 ((x.On.g i).g i')).wf=true)
def Dc (x:A8):Nat:=(FD (fun i=>Fi (x.Tree.g i)) x.Tree.n+1)+(FD (fun i=>Hs (x.Laws.g i)) x.Laws.n+1)+(FD (fun i=>FD (fun i=>1) (x.On.g i).n+1) x.On.n+1)+1
theorem ML:JJ Tryz.prog NR A7 MK Dc:=by intro m pvs h;obtain⟨m0,h,hm0⟩:=Ac Tryz.underlying54 h;obtain⟨a0,b0,p0,q0,rfl,h0,h,hm1⟩:=C5 h;obtain⟨x0,l0,w0,s0⟩:=AF Tryz.underlying50 (by kernel_rfl) UN _ _ h0;have s0:(FD (fun i=>Fi (x0.g i)) x0.n+1)<=a0:=s0;obtain⟨a1,b1,p1,q1,rfl,h1,h,hm2⟩:=C5 h;obtain⟨x1,l1,w1,s1⟩:=AF Tryz.underlying51 (by kernel_rfl) WM _ _ h1;have s1:(FD (fun i=>Hs (x1.g i)) x1.n+1)<=a1:=s1;obtain⟨a2,b2,p2,q2,rfl,h2,h,hm3⟩:=C5 h;obtain⟨x2,l2,w2,s2⟩:=AF Tryz.underlying52 (by kernel_rfl) (AF Tryz.underlying29 (by kernel_rfl) (P8 Tryz.underlying3)) _ _ h2;have s2:(FD (fun i=>FD (fun i=>1) (x2.g i).n+1) x2.n+1)<=a2:=s2;obtain rfl:=BP h;exact⟨⟨x0,x1,x2⟩,LeDs.append l0 (LeDs.append l1 (LeDs.append l2 LeDs.nil)),⟨w0,w1,w2⟩,by simp only[Dc];omega⟩
end Go.AM
namespace Go.AM
theorem Qm {f:Nat->Nat}(h:∀i,1<=f i):∀n,n<=FD f n
 |0=>Nat.zero_le _
 |n+1=>by
  have:=Qm h n
  have:=h n
  show n+1<=FD f n+f n;omega
theorem Aj4 {x:Ai}(h:Sb x):okO x:=⟨WL h.2.2.1,Yq h.2.1,Yq h.2.2.2.1⟩
theorem Yr {l:Law}(h:Ti l)(hs:Hs l<=1048576):Wx l:=by obtain⟨_,h1,h2,h3,h4,_⟩:=h;unfold Hs at hs;have g1:=Qm (f:=fun i=>BM (l.If.g i)) (fun i=>by simp only[BM];omega) l.If.n;have g2:=Qm (f:=fun i=>HT (l.Out.g i)) (fun i=>by simp only[HT];omega) l.Out.n;exact⟨⟨h1,h2,fun i hi=>WL (h3 i hi)⟩,by omega,by omega,by omega,fun i hi=>Aj4 (h4 i hi)⟩
theorem WN {x:Sl Law}(h:∀i,i<x.n->Ti (x.g i))(hs:FD (fun i=>Hs (x.g i)) x.n+1<=1048576):YU x:=fun i hi=>
 Yr (h i hi) (by have:=Nv (fun i=>Hs (x.g i)) hi;have this:Hs (x.g i)<=_:=this;omega)
theorem UW {h:A8}(w:MK h)(hs:Dc h<=1048576):CE h:=by
 unfold Dc at hs;have g:=Qm (f:=fun i=>FD (fun i=>1) (h.On.g i).n+1) (fun i=>by omega) h.On.n;refine⟨WN w.2.1 (by omega),fun v hv=>?_,by omega,fun v hv=>?_⟩
 ·have:=Nv (fun i=>Fi (h.Tree.g i)) hv
  have this:Fi (h.Tree.g v)<=FD (fun i=>Fi (h.Tree.g i)) h.Tree.n:=this;have e:Fi (h.Tree.g v)=1+((h.Tree.g v).Name.length+1)+1:=rfl;omega
 ·have g2:=Nv (fun i=>FD (fun i=>1) (h.On.g i).n+1) hv;have g2:FD (fun i=>1) (h.On.g v).n+1<=_:=g2;have g3:=Qm (f:=fun _=>1) (fun i=>by omega) (h.On.g v).n;omega
end Go.AM
