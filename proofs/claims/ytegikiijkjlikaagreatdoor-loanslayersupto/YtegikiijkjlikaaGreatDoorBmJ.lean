/- What a law's walk and its plain proof need, part 10: no condition of its own. -/
import Derived.Test.YtegikiijkjlikaaGreatDoorBmD
import Derived.Test.YtegikiijkjlikaaGreatDoorBmE
import Derived.Test.YtegikiijkjlikaaGreatDoorCards
import Derived.Test.YtegikiijkjlikaaGreatDoorTie
import Derived.WalkKit
import Derived.ProofKit
import Derived.OpenShut
import Derived.Deep.DeepHandedRow
import Derived.MakeChecks
import Derived.Lib.LaidTab
import Derived.Test.YtegikiijkjlikaaGreatDoorBmH
import Derived.Test.YtegikiijkjlikaaGreatDoorBmI
set_option linter.unusedSimpArgs false
set_option linter.unusedVariables false
set_option linter.unusedSectionVars false
set_option linter.unusedVariables false
namespace Go.AM
open Go.RowKit Go.ChangeShapes Go.WideShapes Go.ChangeAt Go.Deep Go.Proofs Go.Proofs.YtegikiijkjlikaaGreatDoor
theorem BG4:Kids Tryz.prog (· < Tryz.prog.types.size):=kids_rows (by kernel_rfl) (by kernel_rfl)
theorem Bt5 {H:Type}:∀ es:List (DataW H),BJ4 (es.map Rows.uptoBulk)=Rows.uptoBulkAll es
 | []=>rfl
 | d :: r=>by simp only [List.map_cons,Bx7,Rows.uptoBulkAll,Bt5 r]
theorem BG5 {H:Type}:Bulk (H:=H) Rows.uptoBulk where
 int k n:=by simp [Rows.uptoBulk]
 bool b:=by simp [Rows.uptoBulk]
 str l:=by simp [Rows.uptoBulk]
 nil:=by simp [Rows.uptoBulk]
 slice es sp:=by simp only [Rows.uptoBulk,Bt5];omega
 agg ps:=by simp only [Rows.uptoBulk,Bt5];omega
section
variable {H:Type} {enc:TypeId × Value->H} {P:Program} {W:World}
theorem Az7 {v:Value} {x:PV} (hv:v.cells.toList=[v]) (h:CRep W v.cells.toList [x]):RepP W (fun _ _=>False) v x:=by
 have:=(h.2 0 (by simp)).1
 rw [hv] at this
 exact this
end
theorem CB1 {n:Int} (hw:(Lit.int .u32 n).wf=true):∃ p:BitVec 32,n=(p.toNat:Int):=by
 simp only [Lit.wf,IntKind.min,IntKind.max,IntKind.signed,IntKind.bits,Bool.and_eq_true,decide_eq_true_eq] at hw
 refine ⟨BitVec.ofNat 32 n.toNat, ?_⟩
 rw [BitVec.toNat_ofNat]
 have h0:0<=n:=by have:=hw.1;simpa using this
 have h1:n < 4294967296:=by have:=hw.2;simp at this;omega
 rw [Nat.mod_eq_of_lt (by omega),Int.toNat_of_nonneg h0]
theorem BR0 {W:World} (hL:laidMetH Tryz.prog Rows.loansPlacesUptoRow.laid W):TabOk Tryz.prog W fun _ _=>False:=by
 rw [MakeChecks.laidMetH_plain _ _ _ (by kernel_rfl)] at hL
 have hT:Lib.TabIs Tryz.prog W "math/bits.deBruijn64tab" .u8 (Lib.deBruijn64tab.map fun (n:Nat)=>(n:Int)):=by
  refine Lib.tabIs_of_head (g:=3) (t:=(Tryz.prog.globals[3]?.map (·.type)).getD 0) (e:=(match Tryz.prog.underlying ((Tryz.prog.globals[3]?.map (·.type)).getD 0) with | some (.array _ e)=>e | _=>0)) (n:=64) (by kernel_rfl) (by kernel_rfl) (by kernel_rfl) (by kernel_rfl) (by kernel_rfl) (by kernel_rfl) (rest:=Rows.loansPlacesUptoRow.laid.tail) ?_
  exact hL
 intro g s j v hs hv
 have h3:g=3:=by
  have key:∀ k:Fin Tryz.prog.globals.size,((Tryz.prog.globals[k.1]?.map fun s=>s.name == "math/bits.deBruijn64tab") == some true)=true->k.1=3:=by decide +kernel
  have hg:g < Tryz.prog.globals.size:=(Array.getElem?_eq_some_iff.1 hs).1
  refine key ⟨g,hg⟩ ?_
  have:(s.name == "math/bits.deBruijn64tab")=true:=by
   unfold BS1 at hv
   split at hv
   ·assumption
   ·simp at hv
  simp [hs,this]
 subst h3
 unfold BS1 at hv
 split at hv
 ·rw [List.getElem?_map] at hv
  obtain ⟨n,hn,rfl⟩:=Option.map_eq_some_iff.1 hv
  have hj:j < Lib.deBruijn64tab.length:=(List.getElem?_eq_some_iff.1 hn).1
  refine ⟨?_,fun h=>h⟩
  rw [hT.cell (by kernel_rfl) j (by simpa using hj)]
  simp [List.getD_eq_getElem?_getD,List.getElem?_map,hn]
 ·simp at hv
end Go.AM
set_option linter.unusedVariables false
namespace Go.AM
open Go.RowKit Go.ChangeShapes Go.WideShapes Go.ChangeAt Go.Deep Go.Proofs Go.Proofs.YtegikiijkjlikaaGreatDoor
set_option maxRecDepth 100000
def Au3 (x:Sound):Prop:=((Lit.int .u32 x.Plus).wf=true)/\((Lit.int .u32 x.Minus).wf=true)
def P2 (x:Sound):Nat:=1+1+1
theorem R4:Be1 Tryz.prog B2 A0 Au3 P2:=by
 intro m pvs h
 obtain ⟨m0,h,hm0⟩:=Ah1 Tryz.underlying79 h
 obtain ⟨a0,b0,p0,q0,rfl,h0,h,hm1⟩:=D6 h
 obtain ⟨x0,l0,w0,s0⟩:=(Y9 Tryz.underlying77) _ _ h0
 have s0:1<=a0:=s0
 obtain ⟨a1,b1,p1,q1,rfl,h1,h,hm2⟩:=D6 h
 obtain ⟨x1,l1,w1,s1⟩:=(Y9 Tryz.underlying77) _ _ h1
 have s1:1<=a1:=s1
 obtain rfl:=Aq1 h
 exact ⟨⟨x0,x1⟩,(LeDs.append l0 (LeDs.append l1 LeDs.nil)),⟨w0,w1⟩,by simp only [P2];omega⟩
theorem BX2 {x:Sound} (h:Au3 x):okS x:=by
 obtain ⟨p,hp⟩:=CB1 h.1
 obtain ⟨q,hq⟩:=CB1 h.2
 exact ⟨p,q,by cases x;simp_all [sOf]⟩
abbrev BX3 (x:Pat):Prop:=okPS x
abbrev BG6 (x:Pat):Nat:=1
theorem BG7:Be1 Tryz.prog Ay1 B6 BX3 BG6:=by
 intro m
 induction m using Nat.strongRecOn with
 | ind m ih=>
 intro pvs h
 obtain ⟨m0,h,hm0⟩:=Ah1 Tryz.underlying82 h
 obtain ⟨a0,b0,p0,q0,rfl,h0,h,hm1⟩:=D6 h
 obtain ⟨x0,l0,w0,s0⟩:=(Y9 Tryz.underlying3) _ _ h0
 have s0:1<=a0:=s0
 obtain ⟨a1,b1,p1,q1,rfl,h1,h,hm2⟩:=D6 h
 obtain ⟨x1,l1,w1,s1⟩:=R4 _ _ h1
 have s1:P2 x1<=a1:=s1
 obtain ⟨a2,b2,p2,q2,rfl,h2,h,hm3⟩:=D6 h
 obtain ⟨x2,l2,w2,s2⟩:=(Ca7 Tryz.underlying4) _ _ h2
 have s2:1<=a2:=s2
 obtain ⟨a3,b3,p3,q3,rfl,h3,h,hm4⟩:=D6 h
 obtain ⟨x3,l3,w3,s3⟩:=(Y9 Tryz.underlying3) _ _ h3
 have s3:1<=a3:=s3
 obtain ⟨a4,b4,p4,q4,rfl,h4,h,hm5⟩:=D6 h
 obtain ⟨x4,l4,w4,s4⟩:=(Y9 Tryz.underlying3) _ _ h4
 have s4:1<=a4:=s4
 obtain ⟨a5,b5,p5,q5,rfl,h5,h,hm6⟩:=D6 h
 obtain rfl:=Aq1 h
 have hcell:Tryz.prog.cellsOf 82=7:=by kernel_rfl
 cases h5 with
 | int ht'=>rw [Tryz.underlying80] at ht';cases ht'
 | bool ht'=>rw [Tryz.underlying80] at ht';cases ht'
 | str ht'=>rw [Tryz.underlying80] at ht';cases ht'
 | struct ht'=>rw [Tryz.underlying80] at ht';cases ht'
 | @slice _ _ e' n f ms ht' hl hel hm=>
  rw [Tryz.underlying80] at ht'
  cases ht'
  rw [hcell]
  rw [Bj6] at hm
  obtain ⟨g,hg⟩:=choose_lt (α:=Pat) (p:=fun i x=>LeDs (f i) (B6 x)/\BX3 x/\1<=ms i) fun i hi=>ih (ms i) (by have:=Cl7 ms hi;omega) _ (hel i hi)
  exact ⟨.mk x0 x1 x2 x3 x4 n g,(LeDs.append l0 (LeDs.append l1 (LeDs.append l2 (LeDs.append l3 (LeDs.append l4 (.cons (.sl fun i hi=>(hg i hi).1) .nil)))))),⟨BX2 w1,fun i hi=>(hg i hi).2.1⟩,by show 1<=m;omega⟩
def BR1 (x:Ae4):Prop:=((Lit.int .i64 x.From).wf=true)/\((Lit.int .u32 x.Clear).wf=true)/\(Au3 x.Set)/\((Lit.int .u32 x.Take).wf=true)/\((Lit.int .i64 x.Of).wf=true)
def AN2 (x:Ae4):Nat:=1+1+P2 x.Set+1+1+1
theorem Cf7:Be1 Tryz.prog Cn3 Q6 BR1 AN2:=by
 intro m pvs h
 obtain ⟨m0,h,hm0⟩:=Ah1 Tryz.underlying125 h
 obtain ⟨a0,b0,p0,q0,rfl,h0,h,hm1⟩:=D6 h
 obtain ⟨x0,l0,w0,s0⟩:=(Y9 Tryz.underlying3) _ _ h0
 have s0:1<=a0:=s0
 obtain ⟨a1,b1,p1,q1,rfl,h1,h,hm2⟩:=D6 h
 obtain ⟨x1,l1,w1,s1⟩:=(Y9 Tryz.underlying77) _ _ h1
 have s1:1<=a1:=s1
 obtain ⟨a2,b2,p2,q2,rfl,h2,h,hm3⟩:=D6 h
 obtain ⟨x2,l2,w2,s2⟩:=R4 _ _ h2
 have s2:P2 x2<=a2:=s2
 obtain ⟨a3,b3,p3,q3,rfl,h3,h,hm4⟩:=D6 h
 obtain ⟨x3,l3,w3,s3⟩:=(Y9 Tryz.underlying77) _ _ h3
 have s3:1<=a3:=s3
 obtain ⟨a4,b4,p4,q4,rfl,h4,h,hm5⟩:=D6 h
 obtain ⟨x4,l4,w4,s4⟩:=(Y9 Tryz.underlying3) _ _ h4
 have s4:1<=a4:=s4
 obtain rfl:=Aq1 h
 exact ⟨⟨x0,x1,x2,x3,x4⟩,(LeDs.append l0 (LeDs.append l1 (LeDs.append l2 (LeDs.append l3 (LeDs.append l4 LeDs.nil))))),⟨w0,w1,w2,w3,w4⟩,by simp only [AN2];omega⟩
def Cr7 (x:Law):Prop:=(True)/\(BX3 x.Left)/\(BX3 x.Right)/\(∀ i,i < x.If.n->Au3 (x.If.g i))/\(∀ i,i < x.Out.n->BR1 (x.Out.g i))/\((Lit.int .i64 x.Mode).wf=true)
def AD8 (x:Law):Nat:=(x.Name.length+1)+BG6 x.Left+BG6 x.Right+(AC0 (fun i=>P2 (x.If.g i)) x.If.n+1)+(AC0 (fun i=>AN2 (x.Out.g i)) x.Out.n+1)+1+1
theorem Bd0:Be1 Tryz.prog O6 A8 Cr7 AD8:=by
 intro m pvs h
 obtain ⟨m0,h,hm0⟩:=Ah1 Tryz.underlying85 h
 obtain ⟨a0,b0,p0,q0,rfl,h0,h,hm1⟩:=D6 h
 obtain ⟨x0,l0,w0,s0⟩:=(Cl8 Tryz.underlying9) _ _ h0
 have s0:(x0.length+1)<=a0:=s0
 obtain ⟨a1,b1,p1,q1,rfl,h1,h,hm2⟩:=D6 h
 obtain ⟨x1,l1,w1,s1⟩:=BG7 _ _ h1
 have s1:BG6 x1<=a1:=s1
 obtain ⟨a2,b2,p2,q2,rfl,h2,h,hm3⟩:=D6 h
 obtain ⟨x2,l2,w2,s2⟩:=BG7 _ _ h2
 have s2:BG6 x2<=a2:=s2
 obtain ⟨a3,b3,p3,q3,rfl,h3,h,hm4⟩:=D6 h
 obtain ⟨x3,l3,w3,s3⟩:=(J8 Tryz.underlying23 (by kernel_rfl) R4) _ _ h3
 have s3:(AC0 (fun i=>P2 (x3.g i)) x3.n+1)<=a3:=s3
 obtain ⟨a4,b4,p4,q4,rfl,h4,h,hm5⟩:=D6 h
 obtain ⟨x4,l4,w4,s4⟩:=(J8 Tryz.underlying83 (by kernel_rfl) Cf7) _ _ h4
 have s4:(AC0 (fun i=>AN2 (x4.g i)) x4.n+1)<=a4:=s4
 obtain ⟨a5,b5,p5,q5,rfl,h5,h,hm6⟩:=D6 h
 obtain ⟨x5,l5,w5,s5⟩:=(Y9 Tryz.underlying3) _ _ h5
 have s5:1<=a5:=s5
 obtain rfl:=Aq1 h
 exact ⟨⟨x0,x1,x2,x3,x4,x5⟩,(LeDs.append l0 (LeDs.append l1 (LeDs.append l2 (LeDs.append l3 (LeDs.append l4 (LeDs.append l5 LeDs.nil)))))),⟨w0,w1,w2,w3,w4,w5⟩,by simp only [AD8];omega⟩
def Cr8 (x:T3):Prop:=(∀ i,i < x.From.n->Au3 (x.From.g i))/\(∀ i,i < x.To.n->Au3 (x.To.g i))
def BR2 (x:T3):Nat:=(AC0 (fun i=>P2 (x.From.g i)) x.From.n+1)+(AC0 (fun i=>P2 (x.To.g i)) x.To.n+1)+1
theorem Cf8:Be1 Tryz.prog AA5 F4 Cr8 BR2:=by
 intro m pvs h
 obtain ⟨m0,h,hm0⟩:=Ah1 Tryz.underlying50 h
 obtain ⟨a0,b0,p0,q0,rfl,h0,h,hm1⟩:=D6 h
 obtain ⟨x0,l0,w0,s0⟩:=(J8 Tryz.underlying23 (by kernel_rfl) R4) _ _ h0
 have s0:(AC0 (fun i=>P2 (x0.g i)) x0.n+1)<=a0:=s0
 obtain ⟨a1,b1,p1,q1,rfl,h1,h,hm2⟩:=D6 h
 obtain ⟨x1,l1,w1,s1⟩:=(J8 Tryz.underlying23 (by kernel_rfl) R4) _ _ h1
 have s1:(AC0 (fun i=>P2 (x1.g i)) x1.n+1)<=a1:=s1
 obtain rfl:=Aq1 h
 exact ⟨⟨x0,x1⟩,(LeDs.append l0 (LeDs.append l1 LeDs.nil)),⟨w0,w1⟩,by simp only [BR2];omega⟩
end Go.AM
set_option linter.unusedVariables false
namespace Go.AM
theorem Cr9 {f:Nat->Nat} (h:∀ i,1<=f i):∀ n,n<=AC0 f n
 | 0=>Nat.zero_le _
 | n+1=>by
  have:=Cr9 h n
  have:=h n
  show n+1<=AC0 f n+f n
  omega
theorem CT9 {x:Ae4} (h:BR1 x):okO x:=⟨BX2 h.2.2.1,CB1 h.2.1,CB1 h.2.2.2.1⟩
theorem CB2 {l:Law} (h:Cr7 l) (hs:AD8 l<=1048576):Bs8 l:=by
 obtain ⟨_,h1,h2,h3,h4,_⟩:=h
 unfold AD8 at hs
 have g1:=Cr9 (f:=fun i=>P2 (l.If.g i)) (fun i=>by simp only [P2];omega) l.If.n
 have g2:=Cr9 (f:=fun i=>AN2 (l.Out.g i)) (fun i=>by simp only [AN2];omega) l.Out.n
 exact ⟨⟨h1,h2,fun i hi=>BX2 (h3 i hi)⟩,by omega,by omega,by omega,fun i hi=>CT9 (h4 i hi)⟩
theorem Bd1 {x:Sl Law} (h:∀ i,i < x.n->Cr7 (x.g i)) (hs:AC0 (fun i=>AD8 (x.g i)) x.n+1<=1048576):P5 x:=fun i hi=>
 CB2 (h i hi) (by have:=Cl7 (fun i=>AD8 (x.g i)) hi;have this:AD8 (x.g i)<=_:=this;omega)
theorem Bn0 {x:Sl Sound} (h:∀ i,i < x.n->Au3 (x.g i)):okA x:=fun i hi=>BX2 (h i hi)
theorem CM7 {x:Sl T3} (h:∀ i,i < x.n->Cr8 (x.g i)):CM4 x:=fun i hi=>⟨Bn0 (h i hi).1,Bn0 (h i hi).2⟩
end Go.AM
