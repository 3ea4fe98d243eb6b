/- What a law's walk and its plain proof need, part 11: no condition of its own. -/
import Derived.Test.YtegikiijkjlikaaGreatDoorSI
import Derived.Test.YtegikiijkjlikaaGreatDoorSH
import Derived.Test.YtegikiijkjlikaaGreatDoorSG
import Derived.Test.YtegikiijkjlikaaGreatDoorSJ
import Derived.Lay
set_option linter.defProp false
set_option linter.unusedSimpArgs false
set_option linter.unusedVariables false
set_option linter.unusedSectionVars false
namespace Go.AM
def Bp9:=@Go.Proofs.Tryz.params13
open Go.RowKit Go.ChangeShapes Go.WideShapes Go.ChangeAt Go.Deep Go.Proofs Go.Proofs.YtegikiijkjlikaaGreatDoor
namespace LoanSuspect
set_option maxRecDepth 100000
theorem contract (H:Type)(enc:TypeId×Value->H)(W:World)(base:Nat)(args:Array Value)(ds gs:List (DataW H))(before:List MemPlace)
 (hval:∀(j:Nat) t v,Tryz.f13.params[j]? = some t->args[j]? = some v->Value.okWide Tryz.prog W .any base t v)
 (hW:DataW.Whole enc Tryz.prog Tryz.f13.params.toList Rows.loansSuspectSpec.vars false W args.toList ds gs before) (hk:Rows.uptoSmall H (ds++gs)=true) (hL:laidMetH Tryz.prog Rows.loansSuspectUptoRow.laid W) :
 Calls Tryz.prog 13 args W fun e W'=>∃v,e=.returned v/\Rows.loansSuspectSpec.post enc Tryz.prog Tryz.f13 false true false false W args v W':=by
 have hW':=hW;obtain⟨p,q,hA0,hV,rfl,hfz,hnd⟩:=hW;have hA:DataW.TrodAll enc Tryz.prog W 0 (fun _=>true) true Tryz.f13.params.toList args.toList ds p:=hA0;rw[Bp9]at hA hval;obtain⟨v0,vs0,d0,ds0,p0,q0,hargs,rfl,rfl,h0,r0⟩:=trodAll_cons hA;obtain⟨v1,vs1,d1,ds1,p1,q1,rfl,rfl,rfl,h1,r1⟩:=trodAll_cons r0;obtain⟨v2,vs2,d2,ds2,p2,q2,rfl,rfl,rfl,h2,r2⟩:=trodAll_cons r1;obtain⟨rfl,rfl,rfl⟩:=trodAll_nil r2;obtain rfl:args = #[v0,v1,v2]:=by cases args;simp_all
 obtain⟨rfl,rfl⟩:=trodVars_none hV;have hb:=of_decide_eq_true hk;simp only[Bf3,Rows.uptoBulkAll]at hb;obtain⟨cs0,hv0,_⟩:=okWide_struct Tryz.underlying62 (hval 0 62 v0 rfl rfl);obtain⟨a1,len1,cap1,hv1⟩:=okWide_slice Bn0 (hval 1 70 v1 rfl rfl);obtain⟨a2,len2,cap2,hv2⟩:=okWide_slice Tryz.underlying71 (hval 2 71 v2 rfl rfl);obtain⟨fu0,g0⟩:=h0;obtain⟨fu1,g1⟩:=h1;obtain⟨fu2,g2⟩:=h2;have hT:AB4 Tryz.prog [62,59,112,3,9,22,85,82,79,77,4,80,23,83,125,60,26,70,122,71,120]=true:=by kernel_rfl
 have hTl:∀t∈([62,59,112,3,9,22,85,82,79,77,4,80,23,83,125,60,26,70,122,71,120]:List Nat),t<Tryz.prog.types.size:=by decide +kernel
 obtain⟨pv0,c0,sh0⟩:=Jj AF1 AF2 hT hTl fu0 62 _ _ (by simp) g0;obtain⟨x0,l0,w0,s0⟩:=Qq _ _ sh0;have s0:Ed x0<=Rows.uptoBulk d0:=s0;have e0:=c0.leD l0;rw[hv0]at e0;have e0:=AF3 e0;rw[<- hv0]at e0;obtain⟨pv1,c1,sh1⟩:=Jj AF1 AF2 hT hTl fu1 70 _ _ (by simp) g1;obtain⟨x1,l1,w1,s1⟩:=Q6 Bn0 (by kernel_rfl) OO _ _ sh1;have s1:(Ee (fun i=>Jk (x1.g i)) x1.n+1)<=Rows.uptoBulk d1:=s1;have e1:=Ad4 (by rw[hv1];rfl) (c1.leD l1);obtain⟨pv2,c2,sh2⟩:=Jj AF1 AF2 hT hTl fu2 71 _ _ (by simp) g2;obtain⟨x2,l2,w2,s2⟩:=Q6 Tryz.underlying71 (by kernel_rfl) UQ _ _ sh2;have s2:(Ee (fun i=>Dz (x2.g i)) x2.n+1)<=Rows.uptoBulk d2:=s2;have e2:=Ad4 (by rw[hv2];rfl) (c2.leD l2);have hP:FunO (GQ Tryz.prog) Bk [.p (.agg (B2 x0)),.p (vSl 2 I4 x1),.p (vSl 2 I8 x2)] [] (.p (.bb true)) [] []:=
  HY (AP2 _) libC (KH (N:=4194304) (by omega) YF (Ad5 w0 (by omega)) (OP w1) (Ad6 w2 (by omega)))
 have hc:=Qr (args:=[.agg (B2 x0),vSl 2 I4 x1,vSl 2 I8 x2]) (enters_of DA (by decide +kernel) rfl) hP (W:=W) (vs:=#[v0,v1,v2]) (AF4 hL) rfl (fun i hi=>by
  match i,hi with
  |0,_=>exact e0
  |1,_=>exact e1
  |2,_=>exact e2
  )
 refine hc.mono fun e W' ⟨he,hkp⟩=>?_;subst he;exact⟨_,rfl,Aq6 rfl (by kernel_rfl) Bg5 (by kernel_rfl) (by rw[Bp9];decide +kernel) hW' rfl hkp⟩
theorem own:ownKnob Tryz.prog.godebug=none:=by kernel_rfl
theorem reads (os:Os){H:Type}(enc:TypeId×Value->H):∃places,DataW.whole enc Tryz.prog ((World.laidAll Tryz.prog os Rows.loansSuspectUptoRow.laid).forCall (fun _ _=>0) ⟨#[],#[.agg #[.slice none 0 0,.slice none 0 0,.slice none 0 0],.slice none 0 0,.slice none 0 0],[]⟩).memory Tryz.f13.params.toList Rows.loansSuspectSpec.vars false (#[.agg #[.slice none 0 0,.slice none 0 0,.slice none 0 0],.slice none 0 0,.slice none 0 0]:Array Value).toList 16=some ([.agg [.nil,.nil,.nil],.nil,.nil],[],places):=
 ⟨[],by kernel_rfl⟩
theorem laid_met (os:Os):laidMet Tryz.prog Rows.loansSuspectUptoRow.laid ((World.laidAll Tryz.prog os Rows.loansSuspectUptoRow.laid).forCall (fun _ _=>0) ⟨#[],#[.agg #[.slice none 0 0,.slice none 0 0,.slice none 0 0],.slice none 0 0,.slice none 0 0],[]⟩).memory:=
 laidMet_laidAll _ (by kernel_rfl) (by kernel_rfl)
theorem liftedUpto (os:Os)(started:os.Started)(H:Type)(enc:TypeId×Value->H)(F:Stop.Interp) :ReturnsInHanded {} Tryz.checked os 13 .any ((Rows.OpenSpec.upto Rows.loansSuspectSpec).preRow enc Tryz.prog Tryz.f13 Rows.loansSuspectUptoRow.domain false Rows.loansSuspectUptoRow.laid) (((Rows.OpenSpec.upto Rows.loansSuspectSpec).at F).post enc Tryz.prog Tryz.f13 false true false false):=by
 obtain⟨places,hx⟩:=reads os enc;refine returnsInHanded_of_row (C:=Tryz.checked) (s:=Rows.OpenSpec.upto Rows.loansSuspectSpec) own started (by kernel_rfl) Br0
  (witness_row_at (enc:=enc) (C:=Tryz.checked) false (World.laidAll Tryz.prog os Rows.loansSuspectUptoRow.laid) #[.agg #[.slice none 0 0,.slice none 0 0,.slice none 0 0],.slice none 0 0,.slice none 0 0] (World.laidAll_os _ _ _) (by kernel_rfl) (by kernel_rfl) (by kernel_rfl)
   (OpenSpec.preRow_of_cond 16 hx (by kernel_rfl) (fun k hk=>by cases hk;kernel_rfl) (by kernel_rfl) (laid_met os))) ?_
 intro W base args ds gs before hval hW _ hcond _ hL _ _;exact contract H enc W base args ds gs before hval hW (hcond _ rfl) hL
theorem saidUpto:Rows.LoansSuspectUptoSaid:=
 OpenClaim.holds_of_cond 13 Tryz.f13 rfl rfl rfl rfl rfl rfl rfl ⟨rfl,rfl,rfl,rfl,rfl⟩ rfl rfl rfl rfl rfl (by kernel_rfl) Br0 (by kernel_rfl)
  (of_decide_eq_true (by kernel_rfl)) (by unfold Func.isWrapper;first|(rw[if_pos (by decide +kernel)];kernel_rfl)|(rw[if_neg (by decide +kernel)];exact⟨rfl,rfl⟩))
  (fun os started H enc _ F=>by rw[OpenClaim.pre_eq_preRow];exact liftedUpto os started H enc F)
theorem plain (f:FuncId)(fn:Func)(hf:Tryz.pinned.checked.prog.funcNamed "ablaut/ablautlaw28.LoansSuspect" = some f)(hfn:Tryz.pinned.checked.prog.funcs[f]? = some fn) :true=Tryz.pinned.checked.prog.looks []/\∀(j:Nat) t,fn.params[j]? = some t->Tryz.pinned.checked.prog.wantsStandIn t=false:=by
 obtain rfl:f=13:=Bg1 ((show Tryz.prog.funcNamed "ablaut/ablautlaw28.LoansSuspect" = some 13 by kernel_rfl).symm.trans hf) |>.symm;obtain rfl:fn=Tryz.f13:=(Bg1 (Tryz.func13.symm.trans hfn)).symm;refine⟨by kernel_rfl,fun j t ht=>?_⟩;rw[Bp9]at ht;have hm:=Bo4 ht;simp only[List.mem_toArray,Bc6,List.not_mem_nil,or_false]at hm;rcases hm with rfl|rfl|rfl
 ·exact (show Tryz.prog.wantsStandIn 62=false by kernel_rfl)
 ·exact (show Tryz.prog.wantsStandIn 70=false by kernel_rfl)
 ·exact (show Tryz.prog.wantsStandIn 71=false by kernel_rfl)
theorem cardUpto:Rows.LoansSuspectUptoCardSaid:=
 Claim7.holds_tied_plain_at .later [] _ _ _ _ saidUpto (fun _ h=>by cases h) (by kernel_rfl) (fun _ h=>by cases h) loansSuspectUpto_row_tie rfl ⟨rfl,rfl⟩ (by kernel_rfl) rfl plain (by kernel_rfl)
end LoanSuspect
end Go.AM
