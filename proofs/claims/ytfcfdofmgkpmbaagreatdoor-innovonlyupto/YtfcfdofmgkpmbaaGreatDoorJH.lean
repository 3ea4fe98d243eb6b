/- What a law's walk and its plain proof need, part 8: no condition of its own. -/
import Derived.Test.YtfcfdofmgkpmbaaGreatDoorJD
import Derived.Test.YtfcfdofmgkpmbaaGreatDoorJE
import Derived.Test.YtfcfdofmgkpmbaaGreatDoorCards
import Derived.Test.YtfcfdofmgkpmbaaGreatDoorTie
import Derived.WalkKit
import Derived.ProofKit
import Derived.OpenShut
import Derived.Deep.DeepHandedRow
import Derived.MakeChecks
import Derived.Lib.LaidTab
import Derived.Test.YtfcfdofmgkpmbaaGreatDoorJG
set_option linter.unusedSimpArgs false
set_option linter.unusedVariables false
set_option linter.unusedSectionVars false
namespace Go.AM
open Go.RowKit Go.ChangeShapes Go.WideShapes Go.ChangeAt Go.Deep Go.Proofs Go.Proofs.YtfcfdofmgkpmbaaGreatDoor
theorem Ni:Kids Tryz.prog (· < Tryz.prog.types.size):=kids_rows (by kernel_rfl) (by kernel_rfl)
theorem OO {H:Type}:∀es:List (DataW H),QL (es.map Rows.uptoBulk)=Rows.uptoBulkAll es
 |[]=>rfl
 |d::r=>by simp only[List.map_cons,PE,Rows.uptoBulkAll,OO r]
theorem Nj {H:Type}:Bulk (H:=H) Rows.uptoBulk where
 int k n:=by simp[Rows.uptoBulk]
 bool b:=by simp[Rows.uptoBulk]
 str l:=by simp[Rows.uptoBulk]
 nil:=by simp[Rows.uptoBulk]
 slice es sp:=by simp only[Rows.uptoBulk,OO];omega
 agg ps:=by simp only[Rows.uptoBulk,OO];omega
section
variable {H:Type}{enc:TypeId×Value->H}{P:Program}{W:World}
theorem Gp {v:Value}{x:PV}(hv:v.cells.toList=[v])(h:CRep W v.cells.toList [x]):RepP W (fun _ _=>False) v x:=by
 have:=(h.2 0 (by simp)).1
 rw[hv]at this;exact this
theorem UC {cs:Array Value}{pvs:List PV}(h:CRep W (Value.agg cs).cells.toList pvs):RepP W (fun _ _=>False) (.agg cs) (.agg pvs):=by
 obtain⟨h1,h2⟩:=h;have hc:(Value.agg cs).cells.toList=cs.toList:=rfl;rw[hc]at h1 h2;have e:∀i,cs.toList.getD i undef=cs.getD i undef:=fun i=>by simp[List.getD_eq_getElem?_getD,Array.getD_eq_getD_getElem?]
 exact .agg cs pvs (by simpa using h1) (fun i hi=>by rw[<- e];exact (h2 i hi).2) fun i hi=>by rw[<- e];exact (h2 i hi).1
end
theorem ZJ {n:Int}(h:(Lit.int .u8 n).wf=true):∃k:Nat,n=(k:Int)/\k<256:=by
 simp only[Lit.wf,IntKind.min,IntKind.max,IntKind.signed,IntKind.bits,Bool.and_eq_true,decide_eq_true_eq]at h;have h0:0<=n:=by have:=h.1;simpa using this
 have h1:n<256:=by have:=h.2;simp at this;omega
 exact⟨n.toNat,by omega,by omega⟩
theorem Nk {W:World}(hL:laidMetH Tryz.prog Rows.innovChecksUptoRow.laid W):TabOk Tryz.prog W fun _ _=>False:=by
 rw[MakeChecks.laidMetH_plain _ _ _ (by kernel_rfl)]at hL;have hT:Lib.TabIs Tryz.prog W "math/bits.deBruijn64tab" .u8 (Lib.deBruijn64tab.map fun (n:Nat)=>(n:Int)):=by refine Lib.tabIs_of_head (g:=0) (t:=(Tryz.prog.globals[0]?.map (·.type)).getD 0) (e:=(match Tryz.prog.underlying ((Tryz.prog.globals[0]?.map (·.type)).getD 0)with|some (.array _ e)=>e|_=>0)) (n:=64) (by kernel_rfl) (by kernel_rfl) (by kernel_rfl) (by kernel_rfl) (by kernel_rfl) (by kernel_rfl) (rest:=Rows.innovChecksUptoRow.laid.tail) ?_;exact hL
 intro g s j v hs hv;have h3:g=0:=by
  have key:∀k:Fin Tryz.prog.globals.size,((Tryz.prog.globals[k.1]?.map fun s=>s.name == "math/bits.deBruijn64tab")==some true)=true->k.1=0:=by decide +kernel
  have hg:g<Tryz.prog.globals.size:=(Array.getElem?_eq_some_iff.1 hs).1;refine key ⟨g,hg⟩ ?_
  have:(s.name == "math/bits.deBruijn64tab")=true:=by
   unfold Sg at hv;split at hv
   ·assumption
   ·simp at hv
  simp[hs,this]
 subst h3;unfold Sg at hv;split at hv
 ·rw[List.getElem?_map]at hv;obtain⟨n,hn,rfl⟩:=Option.map_eq_some_iff.1 hv;have hj:j<Lib.deBruijn64tab.length:=(List.getElem?_eq_some_iff.1 hn).1;refine⟨?_,fun h=>h⟩;rw[hT.cell (by kernel_rfl) j (by simpa using hj)];simp[List.getD_eq_getElem?_getD,List.getElem?_map,hn]
 ·simp at hv
end Go.AM
namespace Go.AM
open Go.RowKit Go.ChangeShapes Go.WideShapes Go.ChangeAt Go.Deep Go.Proofs Go.Proofs.YtfcfdofmgkpmbaaGreatDoor
set_option maxRecDepth 100000
def Gn (x:A1):Prop:=((Lit.int .i64 x.Langs).wf=true)/\(∀i,i<x.Has.n->(Lit.int .u64 (x.Has.g i)).wf=true)
def AL (x:A1):Nat:=1+(Uv (fun i=>1) x.Has.n+1)+1
theorem Dd:Xv Tryz.prog Ol A8 Gn AL:=by intro m pvs h;obtain⟨m0,h,hm0⟩:=PS Tryz.underlying24 h;obtain⟨a0,b0,p0,q0,rfl,h0,h,hm1⟩:=Kw h;obtain⟨x0,l0,w0,s0⟩:=Af Tryz.underlying3 _ _ h0;have s0:1<=a0:=s0;obtain⟨a1,b1,p1,q1,rfl,h1,h,hm2⟩:=Kw h;obtain⟨x1,l1,w1,s1⟩:=Gq Tryz.underlying22 (by kernel_rfl) (Af Tryz.underlying44) _ _ h1;have s1:(Uv (fun i=>1) x1.n+1)<=a1:=s1;obtain rfl:=TU h;exact⟨⟨x0,x1⟩,LeDs.append l0 (LeDs.append l1 LeDs.nil),⟨w0,w1⟩,by simp only[AL];omega⟩
end Go.AM
namespace Go.AM
theorem Mq {n:Int}(hw:(Lit.int .u64 n).wf=true):∃p:BitVec 64,n=U p:=by
 simp only[Lit.wf,IntKind.min,IntKind.max,IntKind.signed,IntKind.bits,Bool.and_eq_true,decide_eq_true_eq]at hw;refine⟨BitVec.ofNat 64 n.toNat,?_⟩;show n=((BitVec.ofNat 64 n.toNat).toNat:Int);rw[BitVec.toNat_ofNat];have h0:0<=n:=by have:=hw.1;simpa using this
 have h1:n<18446744073709551616:=by have:=hw.2;simp at this;omega
 rw[Nat.mod_eq_of_lt (by omega),Int.toNat_of_nonneg h0]
theorem XK {t:A1}(h:Gn t):inT t:=fun i hi=>Mq (h.2 i hi)
end Go.AM
namespace Go.AM
open Go.RowKit Go.ChangeShapes Go.WideShapes Go.ChangeAt Go.Deep Go.Proofs Go.Proofs.YtfcfdofmgkpmbaaGreatDoor
set_option maxRecDepth 100000
end Go.AM
namespace Go.AM
end Go.AM
