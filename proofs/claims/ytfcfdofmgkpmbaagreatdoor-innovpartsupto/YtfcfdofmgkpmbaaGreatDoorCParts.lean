/- What a law's walk and its plain proof need, part 13: no condition of its own. -/
import Derived.Test.YtfcfdofmgkpmbaaGreatDoorJH
import Derived.Test.YtfcfdofmgkpmbaaGreatDoorJG
import Derived.Test.YtfcfdofmgkpmbaaGreatDoorJF
import Derived.Test.YtfcfdofmgkpmbaaGreatDoorJI
import Derived.Lay
set_option linter.unusedSimpArgs false
set_option linter.unusedVariables false
set_option linter.unusedSectionVars false
namespace Go.AM
open Go.RowKit Go.ChangeShapes Go.WideShapes Go.ChangeAt Go.Deep Go.Proofs Go.Proofs.YtfcfdofmgkpmbaaGreatDoor
namespace InParts
set_option maxRecDepth 100000
theorem contract (H:Type)(enc:TypeId×Value->H)(W:World)(base:Nat)(args:Array Value)(ds gs:List (DataW H))(before:List MemPlace)
 (hval:∀(j:Nat) t v,Tryz.f9.params[j]? = some t->args[j]? = some v->Value.okWide Tryz.prog W .any base t v)
 (hW:DataW.Whole enc Tryz.prog Tryz.f9.params.toList Rows.innovPartsSpec.vars false W args.toList ds gs before) (hk:Rows.uptoSmall H (ds++gs)=true) (hL:laidMetH Tryz.prog Rows.innovPartsUptoRow.laid W) :
 Calls Tryz.prog 9 args W fun e W'=>∃v,e=.returned v/\Rows.innovPartsSpec.post enc Tryz.prog Tryz.f9 false true false false W args v W':=by
 have hW':=hW;obtain⟨p,q,hA0,hV,rfl,hfz,hnd⟩:=hW;have hA:DataW.TrodAll enc Tryz.prog W 0 (fun _=>true) true Tryz.f9.params.toList args.toList ds p:=hA0;rw[Tryz.params9]at hA hval;obtain⟨v0,vs0,d0,ds0,p0,q0,hargs,rfl,rfl,h0,r0⟩:=trodAll_cons hA;obtain⟨v1,vs1,d1,ds1,p1,q1,rfl,rfl,rfl,h1,r1⟩:=trodAll_cons r0;obtain⟨v2,vs2,d2,ds2,p2,q2,rfl,rfl,rfl,h2,r2⟩:=trodAll_cons r1;obtain⟨v3,vs3,d3,ds3,p3,q3,rfl,rfl,rfl,h3,r3⟩:=trodAll_cons r2;obtain⟨rfl,rfl,rfl⟩:=trodAll_nil r3;obtain rfl:args = #[v0,v1,v2,v3]:=by cases args;simp_all
 obtain⟨rfl,rfl⟩:=trodVars_none hV;have hb:=of_decide_eq_true hk;simp only[List.append_nil,Rows.uptoBulkAll]at hb;obtain⟨_,hv0⟩:=okWide_int Tryz.underlying5 (hval 0 5 v0 rfl rfl);obtain⟨a1,len1,cap1,hv1⟩:=okWide_slice Tryz.underlying22 (hval 1 22 v1 rfl rfl);obtain⟨_,hv2⟩:=okWide_int Tryz.underlying44 (hval 2 44 v2 rfl rfl);obtain⟨_,hv3⟩:=okWide_int Tryz.underlying44 (hval 3 44 v3 rfl rfl);obtain⟨fu0,g0⟩:=h0;obtain⟨fu1,g1⟩:=h1;obtain⟨fu2,g2⟩:=h2;obtain⟨fu3,g3⟩:=h3;have hT:OR Tryz.prog [5,22,44]=true:=by kernel_rfl
 have hTl:∀t∈([5,22,44]:List Nat),t<Tryz.prog.types.size:=by decide +kernel
 obtain⟨pv0,c0,sh0⟩:=U4 Ni Nj hT hTl fu0 5 _ _ (by simp) g0;obtain⟨x0,l0,w0,s0⟩:=Af Tryz.underlying5 _ _ sh0;have s0:1<=Rows.uptoBulk d0:=s0;have e0:=Gp (by rw[hv0];rfl) (c0.leD l0);obtain⟨pv1,c1,sh1⟩:=U4 Ni Nj hT hTl fu1 22 _ _ (by simp) g1;obtain⟨x1,l1,w1,s1⟩:=Gq Tryz.underlying22 (by kernel_rfl) (Af Tryz.underlying44) _ _ sh1;have s1:(Uv (fun i=>1) x1.n+1)<=Rows.uptoBulk d1:=s1;have e1:=Gp (by rw[hv1];rfl) (c1.leD l1);obtain⟨pv2,c2,sh2⟩:=U4 Ni Nj hT hTl fu2 44 _ _ (by simp) g2;obtain⟨x2,l2,w2,s2⟩:=Af Tryz.underlying44 _ _ sh2;have s2:1<=Rows.uptoBulk d2:=s2;have e2:=Gp (by rw[hv2];rfl) (c2.leD l2);obtain⟨pv3,c3,sh3⟩:=U4 Ni Nj hT hTl fu3 44 _ _ (by simp) g3;obtain⟨x3,l3,w3,s3⟩:=Af Tryz.underlying44 _ _ sh3;have s3:1<=Rows.uptoBulk d3:=s3;have e3:=Gp (by rw[hv3];rfl) (c3.leD l3);obtain⟨c0,hc0,hc1⟩:=ZJ w0;obtain⟨s20,hs2⟩:=Mq w2;obtain⟨s30,hs3⟩:=Mq w3;have hP:FunO (EH Tryz.prog) Bg [.p (pI .u8 x0),.p (vSl 1 (cI .u64) x1),.p (pI .u64 x2),.p (pI .u64 x3)] [] (.p (.bb true)) [] []:=
  Jh (ZB _) Af1 (by rw[hc0,hs2,hs3];exact LB (N:=4194304) (by omega) FB hc1 (fun i hi=>Mq (w1 i hi)) s20 s30)
 have hc:=BA (args:=[pI .u8 x0,vSl 1 (cI .u64) x1,pI .u64 x2,pI .u64 x3]) (enters_of Eo (by decide +kernel) rfl) hP (W:=W) (vs:=#[v0,v1,v2,v3]) (Nk hL) rfl (fun i hi=>by
  match i,hi with
  |0,_=>exact e0
  |1,_=>exact e1
  |2,_=>exact e2
  |3,_=>exact e3
  )
 refine hc.mono fun e W' ⟨he,hkp⟩=>?_;subst he;exact⟨_,rfl,Jy rfl (by kernel_rfl) Tryz.underlying4 (by kernel_rfl) (by rw[Tryz.params9];decide +kernel) hW' rfl hkp⟩
theorem own:ownKnob Tryz.prog.godebug=none:=by kernel_rfl
theorem reads (os:Os){H:Type}(enc:TypeId×Value->H):∃places,DataW.whole enc Tryz.prog ((World.laidAll Tryz.prog os Rows.innovPartsUptoRow.laid).forCall (fun _ _=>0) ⟨#[],#[.int .u8 0,.slice none 0 0,.int .u64 0,.int .u64 0],[]⟩).memory Tryz.f9.params.toList Rows.innovPartsSpec.vars false (#[.int .u8 0,.slice none 0 0,.int .u64 0,.int .u64 0]:Array Value).toList 16=some ([.lit (.int .u8 0),.nil,.lit (.int .u64 0),.lit (.int .u64 0)],[],places):=
 ⟨[],by kernel_rfl⟩
theorem laid_met (os:Os):laidMet Tryz.prog Rows.innovPartsUptoRow.laid ((World.laidAll Tryz.prog os Rows.innovPartsUptoRow.laid).forCall (fun _ _=>0) ⟨#[],#[.int .u8 0,.slice none 0 0,.int .u64 0,.int .u64 0],[]⟩).memory:=
 laidMet_laidAll _ (by kernel_rfl) (by kernel_rfl)
theorem liftedUpto (os:Os)(started:os.Started)(H:Type)(enc:TypeId×Value->H)(F:Stop.Interp) :ReturnsInHanded {} Tryz.checked os 9 .any ((Rows.OpenSpec.upto Rows.innovPartsSpec).preRow enc Tryz.prog Tryz.f9 Rows.innovPartsUptoRow.domain false Rows.innovPartsUptoRow.laid) (((Rows.OpenSpec.upto Rows.innovPartsSpec).at F).post enc Tryz.prog Tryz.f9 false true false false):=by
 obtain⟨places,hx⟩:=reads os enc;refine returnsInHanded_of_row (C:=Tryz.checked) (s:=Rows.OpenSpec.upto Rows.innovPartsSpec) own started (by kernel_rfl) Tryz.func9
  (witness_row_at (enc:=enc) (C:=Tryz.checked) false (World.laidAll Tryz.prog os Rows.innovPartsUptoRow.laid) #[.int .u8 0,.slice none 0 0,.int .u64 0,.int .u64 0] (World.laidAll_os _ _ _) (by kernel_rfl) (by kernel_rfl) (by kernel_rfl)
   (OpenSpec.preRow_of_cond 16 hx (by kernel_rfl) (fun k hk=>by cases hk;kernel_rfl) (by kernel_rfl) (laid_met os))) ?_
 intro W base args ds gs before hval hW _ hcond _ hL _ _;exact contract H enc W base args ds gs before hval hW (hcond _ rfl) hL
theorem saidUpto:Rows.InnovPartsUptoSaid:=
 OpenClaim.holds_of_cond 9 Tryz.f9 rfl rfl rfl rfl rfl rfl rfl ⟨rfl,rfl,rfl,rfl,rfl⟩ rfl rfl rfl rfl rfl (by kernel_rfl) Tryz.func9 (by kernel_rfl)
  (of_decide_eq_true (by kernel_rfl)) (by unfold Func.isWrapper;first|(rw[if_pos (by decide +kernel)];kernel_rfl)|(rw[if_neg (by decide +kernel)];exact⟨rfl,rfl⟩))
  (fun os started H enc _ F=>by rw[OpenClaim.pre_eq_preRow];exact liftedUpto os started H enc F)
theorem plain (f:FuncId)(fn:Func)(hf:Tryz.pinned.checked.prog.funcNamed "ablaut/ablautlaw31.InnovParts" = some f)(hfn:Tryz.pinned.checked.prog.funcs[f]? = some fn) :true=Tryz.pinned.checked.prog.looks []/\∀(j:Nat) t,fn.params[j]? = some t->Tryz.pinned.checked.prog.wantsStandIn t=false:=by
 obtain rfl:f=9:=Option.some.inj ((show Tryz.prog.funcNamed "ablaut/ablautlaw31.InnovParts" = some 9 by kernel_rfl).symm.trans hf) |>.symm;obtain rfl:fn=Tryz.f9:=(Option.some.inj (Tryz.func9.symm.trans hfn)).symm;refine⟨by kernel_rfl,fun j t ht=>?_⟩;rw[Tryz.params9]at ht;have hm:=Array.mem_of_getElem? ht;simp only[List.mem_toArray,List.mem_cons,List.not_mem_nil,or_false]at hm;rcases hm with rfl|rfl|rfl|rfl
 ·exact (show Tryz.prog.wantsStandIn 5=false by kernel_rfl)
 ·exact (show Tryz.prog.wantsStandIn 22=false by kernel_rfl)
 ·exact (show Tryz.prog.wantsStandIn 44=false by kernel_rfl)
 ·exact (show Tryz.prog.wantsStandIn 44=false by kernel_rfl)
theorem cardUpto:Rows.InnovPartsUptoCardSaid:=
 Claim7.holds_tied_plain_at .later [] _ _ _ _ saidUpto (fun _ h=>by cases h) (by kernel_rfl) (fun _ h=>by cases h) innovPartsUpto_row_tie rfl ⟨rfl,rfl⟩ (by kernel_rfl) rfl plain (by kernel_rfl)
end InParts
end Go.AM
