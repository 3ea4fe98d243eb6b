/- What a law's walk and its plain proof need, part 9: no condition of its own. -/
import Derived.Test.YtegikiijkjlikaaGreatDoorAmD
import Derived.Test.YtegikiijkjlikaaGreatDoorAmE
import Derived.Test.YtegikiijkjlikaaGreatDoorCards
import Derived.Test.YtegikiijkjlikaaGreatDoorTie
import Derived.WalkKit
import Derived.ProofKit
import Derived.OpenShut
import Derived.Deep.DeepHandedRow
import Derived.MakeChecks
import Derived.Lib.LaidTab
import Derived.Test.YtegikiijkjlikaaGreatDoorAmG
import Derived.Test.YtegikiijkjlikaaGreatDoorAmH
set_option linter.unusedSimpArgs false
set_option linter.unusedVariables false
set_option linter.unusedSectionVars false
set_option linter.unusedVariables false
namespace Go.AM
open Go.RowKit Go.ChangeShapes Go.WideShapes Go.ChangeAt Go.Deep Go.Proofs Go.Proofs.YtegikiijkjlikaaGreatDoor
theorem AF4:Kids Tryz.prog (· < Tryz.prog.types.size):=kids_rows (by kernel_rfl) (by kernel_rfl)
theorem Bp5 {H:Type}:∀ es:List (DataW H),BC7 (es.map Rows.uptoBulk)=Rows.uptoBulkAll es
 | []=>rfl
 | d :: r=>by simp only [List.map_cons,Bt7,Rows.uptoBulkAll,Bp5 r]
theorem AF5 {H:Type}:Bulk (H:=H) Rows.uptoBulk where
 int k n:=by simp [Rows.uptoBulk]
 bool b:=by simp [Rows.uptoBulk]
 str l:=by simp [Rows.uptoBulk]
 nil:=by simp [Rows.uptoBulk]
 slice es sp:=by simp only [Rows.uptoBulk,Bp5];omega
 agg ps:=by simp only [Rows.uptoBulk,Bp5];omega
section
variable {H:Type} {enc:TypeId × Value->H} {P:Program} {W:World}
theorem Aa5 {v:Value} {x:PV} (hv:v.cells.toList=[v]) (h:CRep W v.cells.toList [x]):RepP W (fun _ _=>False) v x:=by
 have:=(h.2 0 (by simp)).1
 rw [hv] at this
 exact this
end
theorem Cp0 {n:Int} (hw:(Lit.int .u32 n).wf=true):∃ p:BitVec 32,n=(p.toNat:Int):=by
 simp only [Lit.wf,IntKind.min,IntKind.max,IntKind.signed,IntKind.bits,Bool.and_eq_true,decide_eq_true_eq] at hw
 refine ⟨BitVec.ofNat 32 n.toNat, ?_⟩
 rw [BitVec.toNat_ofNat]
 have h0:0<=n:=by have:=hw.1;simpa using this
 have h1:n < 4294967296:=by have:=hw.2;simp at this;omega
 rw [Nat.mod_eq_of_lt (by omega),Int.toNat_of_nonneg h0]
theorem wf_u8 {n:Int} (h:(Lit.int .u8 n).wf=true):∃ k:Nat,n=(k:Int)/\k < 256:=by
 simp only [Lit.wf,IntKind.min,IntKind.max,IntKind.signed,IntKind.bits,Bool.and_eq_true,decide_eq_true_eq] at h
 have h0:0<=n:=by have:=h.1;simpa using this
 have h1:n < 256:=by have:=h.2;simp at this;omega
 exact ⟨n.toNat,by omega,by omega⟩
theorem Ba8 {W:World} (hL:laidMetH Tryz.prog Rows.loansPlacesUptoRow.laid W):TabOk Tryz.prog W fun _ _=>False:=by
 rw [MakeChecks.laidMetH_plain _ _ _ (by kernel_rfl)] at hL
 have hT:Lib.TabIs Tryz.prog W "math/bits.deBruijn64tab" .u8 (Lib.deBruijn64tab.map fun (n:Nat)=>(n:Int)):=by
  refine Lib.tabIs_of_head (g:=3) (t:=(Tryz.prog.globals[3]?.map (·.type)).getD 0) (e:=(match Tryz.prog.underlying ((Tryz.prog.globals[3]?.map (·.type)).getD 0) with | some (.array _ e)=>e | _=>0)) (n:=64) (by kernel_rfl) (by kernel_rfl) (by kernel_rfl) (by kernel_rfl) (by kernel_rfl) (by kernel_rfl) (rest:=Rows.loansPlacesUptoRow.laid.tail) ?_
  exact hL
 intro g s j v hs hv
 have h3:g=3:=by
  have key:∀ k:Fin Tryz.prog.globals.size,((Tryz.prog.globals[k.1]?.map fun s=>s.name == "math/bits.deBruijn64tab") == some true)=true->k.1=3:=by decide +kernel
  have hg:g < Tryz.prog.globals.size:=(Array.getElem?_eq_some_iff.1 hs).1
  refine key ⟨g,hg⟩ ?_
  have:(s.name == "math/bits.deBruijn64tab")=true:=by
   unfold BI5 at hv
   split at hv
   ·assumption
   ·simp at hv
  simp [hs,this]
 subst h3
 unfold BI5 at hv
 split at hv
 ·rw [List.getElem?_map] at hv
  obtain ⟨n,hn,rfl⟩:=Option.map_eq_some_iff.1 hv
  have hj:j < Lib.deBruijn64tab.length:=(List.getElem?_eq_some_iff.1 hn).1
  refine ⟨?_,fun h=>h⟩
  rw [hT.cell (by kernel_rfl) j (by simpa using hj)]
  simp [List.getD_eq_getElem?_getD,List.getElem?_map,hn]
 ·simp at hv
end Go.AM
set_option linter.unusedVariables false
namespace Go.AM
open Go.RowKit Go.ChangeShapes Go.WideShapes Go.ChangeAt Go.Deep Go.Proofs Go.Proofs.YtegikiijkjlikaaGreatDoor
set_option maxRecDepth 100000
def As8 (x:Sound):Prop:=((Lit.int .u32 x.Plus).wf=true)/\((Lit.int .u32 x.Minus).wf=true)
def I1 (x:Sound):Nat:=1+1+1
theorem N9:Bc0 Tryz.prog B9 A0 As8 I1:=by
 intro m pvs h
 obtain ⟨m0,h,hm0⟩:=Ag1 Tryz.underlying79 h
 obtain ⟨a0,b0,p0,q0,rfl,h0,h,hm1⟩:=D6 h
 obtain ⟨x0,l0,w0,s0⟩:=(T4 Tryz.underlying77) _ _ h0
 have s0:1<=a0:=s0
 obtain ⟨a1,b1,p1,q1,rfl,h1,h,hm2⟩:=D6 h
 obtain ⟨x1,l1,w1,s1⟩:=(T4 Tryz.underlying77) _ _ h1
 have s1:1<=a1:=s1
 obtain rfl:=Ao6 h
 exact ⟨⟨x0,x1⟩,(LeDs.append l0 (LeDs.append l1 LeDs.nil)),⟨w0,w1⟩,by simp only [I1];omega⟩
theorem BN4 {x:Sound} (h:As8 x):okS x:=by
 obtain ⟨p,hp⟩:=Cp0 h.1
 obtain ⟨q,hq⟩:=Cp0 h.2
 exact ⟨p,q,by cases x;simp_all [sOf]⟩
abbrev BN5 (x:Pat):Prop:=okPS x
abbrev Bz9 (x:Pat):Nat:=1
theorem BA0:Bc0 Tryz.prog Ax0 C6 BN5 Bz9:=by
 intro m
 induction m using Nat.strongRecOn with
 | ind m ih=>
 intro pvs h
 obtain ⟨m0,h,hm0⟩:=Ag1 Tryz.underlying82 h
 obtain ⟨a0,b0,p0,q0,rfl,h0,h,hm1⟩:=D6 h
 obtain ⟨x0,l0,w0,s0⟩:=(T4 Tryz.underlying3) _ _ h0
 have s0:1<=a0:=s0
 obtain ⟨a1,b1,p1,q1,rfl,h1,h,hm2⟩:=D6 h
 obtain ⟨x1,l1,w1,s1⟩:=N9 _ _ h1
 have s1:I1 x1<=a1:=s1
 obtain ⟨a2,b2,p2,q2,rfl,h2,h,hm3⟩:=D6 h
 obtain ⟨x2,l2,w2,s2⟩:=(BQ9 Tryz.underlying4) _ _ h2
 have s2:1<=a2:=s2
 obtain ⟨a3,b3,p3,q3,rfl,h3,h,hm4⟩:=D6 h
 obtain ⟨x3,l3,w3,s3⟩:=(T4 Tryz.underlying3) _ _ h3
 have s3:1<=a3:=s3
 obtain ⟨a4,b4,p4,q4,rfl,h4,h,hm5⟩:=D6 h
 obtain ⟨x4,l4,w4,s4⟩:=(T4 Tryz.underlying3) _ _ h4
 have s4:1<=a4:=s4
 obtain ⟨a5,b5,p5,q5,rfl,h5,h,hm6⟩:=D6 h
 obtain rfl:=Ao6 h
 have hcell:Tryz.prog.cellsOf 82=7:=by kernel_rfl
 cases h5 with
 | int ht'=>rw [Tryz.underlying80] at ht';cases ht'
 | bool ht'=>rw [Tryz.underlying80] at ht';cases ht'
 | str ht'=>rw [Tryz.underlying80] at ht';cases ht'
 | struct ht'=>rw [Tryz.underlying80] at ht';cases ht'
 | @slice _ _ e' n f ms ht' hl hel hm=>
  rw [Tryz.underlying80] at ht'
  cases ht'
  rw [hcell]
  rw [Bh6] at hm
  obtain ⟨g,hg⟩:=choose_lt (α:=Pat) (p:=fun i x=>LeDs (f i) (C6 x)/\BN5 x/\1<=ms i) fun i hi=>ih (ms i) (by have:=BZ7 ms hi;omega) _ (hel i hi)
  exact ⟨.mk x0 x1 x2 x3 x4 n g,(LeDs.append l0 (LeDs.append l1 (LeDs.append l2 (LeDs.append l3 (LeDs.append l4 (.cons (.sl fun i hi=>(hg i hi).1) .nil)))))),⟨BN4 w1,fun i hi=>(hg i hi).2.1⟩,by show 1<=m;omega⟩
def BH6 (x:Ad8):Prop:=((Lit.int .i64 x.From).wf=true)/\((Lit.int .u32 x.Clear).wf=true)/\(As8 x.Set)/\((Lit.int .u32 x.Take).wf=true)/\((Lit.int .i64 x.Of).wf=true)
def AN4 (x:Ad8):Nat:=1+1+I1 x.Set+1+1+1
theorem BT8:Bc0 Tryz.prog Ca9 X9 BH6 AN4:=by
 intro m pvs h
 obtain ⟨m0,h,hm0⟩:=Ag1 Tryz.underlying125 h
 obtain ⟨a0,b0,p0,q0,rfl,h0,h,hm1⟩:=D6 h
 obtain ⟨x0,l0,w0,s0⟩:=(T4 Tryz.underlying3) _ _ h0
 have s0:1<=a0:=s0
 obtain ⟨a1,b1,p1,q1,rfl,h1,h,hm2⟩:=D6 h
 obtain ⟨x1,l1,w1,s1⟩:=(T4 Tryz.underlying77) _ _ h1
 have s1:1<=a1:=s1
 obtain ⟨a2,b2,p2,q2,rfl,h2,h,hm3⟩:=D6 h
 obtain ⟨x2,l2,w2,s2⟩:=N9 _ _ h2
 have s2:I1 x2<=a2:=s2
 obtain ⟨a3,b3,p3,q3,rfl,h3,h,hm4⟩:=D6 h
 obtain ⟨x3,l3,w3,s3⟩:=(T4 Tryz.underlying77) _ _ h3
 have s3:1<=a3:=s3
 obtain ⟨a4,b4,p4,q4,rfl,h4,h,hm5⟩:=D6 h
 obtain ⟨x4,l4,w4,s4⟩:=(T4 Tryz.underlying3) _ _ h4
 have s4:1<=a4:=s4
 obtain rfl:=Ao6 h
 exact ⟨⟨x0,x1,x2,x3,x4⟩,(LeDs.append l0 (LeDs.append l1 (LeDs.append l2 (LeDs.append l3 (LeDs.append l4 LeDs.nil))))),⟨w0,w1,w2,w3,w4⟩,by simp only [AN4];omega⟩
def Cf7 (x:Law):Prop:=(True)/\(BN5 x.Left)/\(BN5 x.Right)/\(∀ i,i < x.If.n->As8 (x.If.g i))/\(∀ i,i < x.Out.n->BH6 (x.Out.g i))/\((Lit.int .i64 x.Mode).wf=true)
def Au2 (x:Law):Nat:=(x.Name.length+1)+Bz9 x.Left+Bz9 x.Right+(Ar1 (fun i=>I1 (x.If.g i)) x.If.n+1)+(Ar1 (fun i=>AN4 (x.Out.g i)) x.Out.n+1)+1+1
theorem Az1:Bc0 Tryz.prog N7 A6 Cf7 Au2:=by
 intro m pvs h
 obtain ⟨m0,h,hm0⟩:=Ag1 Tryz.underlying85 h
 obtain ⟨a0,b0,p0,q0,rfl,h0,h,hm1⟩:=D6 h
 obtain ⟨x0,l0,w0,s0⟩:=(BZ8 Tryz.underlying9) _ _ h0
 have s0:(x0.length+1)<=a0:=s0
 obtain ⟨a1,b1,p1,q1,rfl,h1,h,hm2⟩:=D6 h
 obtain ⟨x1,l1,w1,s1⟩:=BA0 _ _ h1
 have s1:Bz9 x1<=a1:=s1
 obtain ⟨a2,b2,p2,q2,rfl,h2,h,hm3⟩:=D6 h
 obtain ⟨x2,l2,w2,s2⟩:=BA0 _ _ h2
 have s2:Bz9 x2<=a2:=s2
 obtain ⟨a3,b3,p3,q3,rfl,h3,h,hm4⟩:=D6 h
 obtain ⟨x3,l3,w3,s3⟩:=(F1 Tryz.underlying23 (by kernel_rfl) N9) _ _ h3
 have s3:(Ar1 (fun i=>I1 (x3.g i)) x3.n+1)<=a3:=s3
 obtain ⟨a4,b4,p4,q4,rfl,h4,h,hm5⟩:=D6 h
 obtain ⟨x4,l4,w4,s4⟩:=(F1 Tryz.underlying83 (by kernel_rfl) BT8) _ _ h4
 have s4:(Ar1 (fun i=>AN4 (x4.g i)) x4.n+1)<=a4:=s4
 obtain ⟨a5,b5,p5,q5,rfl,h5,h,hm6⟩:=D6 h
 obtain ⟨x5,l5,w5,s5⟩:=(T4 Tryz.underlying3) _ _ h5
 have s5:1<=a5:=s5
 obtain rfl:=Ao6 h
 exact ⟨⟨x0,x1,x2,x3,x4,x5⟩,(LeDs.append l0 (LeDs.append l1 (LeDs.append l2 (LeDs.append l3 (LeDs.append l4 (LeDs.append l5 LeDs.nil)))))),⟨w0,w1,w2,w3,w4,w5⟩,by simp only [Au2];omega⟩
def Cf8 (x:O1):Prop:=(∀ i,i < x.From.n->As8 (x.From.g i))/\(∀ i,i < x.To.n->As8 (x.To.g i))
def Ba9 (x:O1):Nat:=(Ar1 (fun i=>I1 (x.From.g i)) x.From.n+1)+(Ar1 (fun i=>I1 (x.To.g i)) x.To.n+1)+1
theorem AN5:Bc0 Tryz.prog Ap0 D5 Cf8 Ba9:=by
 intro m pvs h
 obtain ⟨m0,h,hm0⟩:=Ag1 Tryz.underlying50 h
 obtain ⟨a0,b0,p0,q0,rfl,h0,h,hm1⟩:=D6 h
 obtain ⟨x0,l0,w0,s0⟩:=(F1 Tryz.underlying23 (by kernel_rfl) N9) _ _ h0
 have s0:(Ar1 (fun i=>I1 (x0.g i)) x0.n+1)<=a0:=s0
 obtain ⟨a1,b1,p1,q1,rfl,h1,h,hm2⟩:=D6 h
 obtain ⟨x1,l1,w1,s1⟩:=(F1 Tryz.underlying23 (by kernel_rfl) N9) _ _ h1
 have s1:(Ar1 (fun i=>I1 (x1.g i)) x1.n+1)<=a1:=s1
 obtain rfl:=Ao6 h
 exact ⟨⟨x0,x1⟩,(LeDs.append l0 (LeDs.append l1 LeDs.nil)),⟨w0,w1⟩,by simp only [Ba9];omega⟩
end Go.AM
set_option linter.unusedVariables false
namespace Go.AM
theorem BN6 {f:Nat->Nat} (h:∀ i,1<=f i):∀ n,n<=Ar1 f n
 | 0=>Nat.zero_le _
 | n+1=>by
  have:=BN6 h n
  have:=h n
  show n+1<=Ar1 f n+f n
  omega
theorem CH7 {x:Ad8} (h:BH6 x):okO x:=⟨BN4 h.2.2.1,Cp0 h.2.1,Cp0 h.2.2.2.1⟩
theorem Cp1 {l:Law} (h:Cf7 l) (hs:Au2 l<=1048576):Bo6 l:=by
 obtain ⟨_,h1,h2,h3,h4,_⟩:=h
 unfold Au2 at hs
 have g1:=BN6 (f:=fun i=>I1 (l.If.g i)) (fun i=>by simp only [I1];omega) l.If.n
 have g2:=BN6 (f:=fun i=>AN4 (l.Out.g i)) (fun i=>by simp only [AN4];omega) l.Out.n
 exact ⟨⟨h1,h2,fun i hi=>BN4 (h3 i hi)⟩,by omega,by omega,by omega,fun i hi=>CH7 (h4 i hi)⟩
theorem Az2 {x:Sl Law} (h:∀ i,i < x.n->Cf7 (x.g i)) (hs:Ar1 (fun i=>Au2 (x.g i)) x.n+1<=1048576):N2 x:=fun i hi=>
 Cp1 (h i hi) (by have:=BZ7 (fun i=>Au2 (x.g i)) hi;have this:Au2 (x.g i)<=_:=this;omega)
theorem AQ7 {x:Sl Sound} (h:∀ i,i < x.n->As8 (x.g i)):okA x:=fun i hi=>BN4 (h i hi)
theorem BH7 {x:Sl O1} (h:∀ i,i < x.n->Cf8 (x.g i)):BT0 x:=fun i hi=>⟨AQ7 (h i hi).1,AQ7 (h i hi).2⟩
theorem n_wf {x:Sl Sound} {m:Nat} (hs:Ar1 (fun i=>I1 (x.g i)) x.n+1<=m):x.n < m:=by
 have g1:=BN6 (f:=fun i=>I1 (x.g i)) (fun i=>by simp only [I1];omega) x.n
 omega
end Go.AM
