/- What a law's walk and its plain proof need, part 11: no condition of its own. -/
import Derived.Test.YtodhnkfgkgkngaaGreatDoorGI
import Derived.Test.YtodhnkfgkgkngaaGreatDoorGG
import Derived.Test.YtodhnkfgkgkngaaGreatDoorGH
import Derived.Test.YtodhnkfgkgkngaaGreatDoorGJ
import Derived.Lay
set_option linter.defProp false
set_option linter.unusedSimpArgs false
set_option linter.unusedVariables false
set_option linter.unusedSectionVars false
namespace Go.AM
def Bh3:=@Go.Proofs.Tryz.params4
open Go.RowKit Go.ChangeShapes Go.WideShapes Go.ChangeAt Go.Deep Go.Proofs Go.Proofs.YtodhnkfgkgkngaaGreatDoor
namespace HiSame
set_option maxRecDepth 100000
theorem contract (H:Type)(enc:TypeId×Value->H)(W:World)(base:Nat)(args:Array Value)(ds gs:List (DataW H))(before:List MemPlace)
 (a:∀(j:Nat) t v,Tryz.f4.params[j]? = some t->args[j]? = some v->Value.okWide Tryz.prog W .any base t v)
 (w:DataW.Whole enc Tryz.prog Tryz.f4.params.toList Rows.historySameSpec.vars false W args.toList ds gs before) (hk:Rows.uptoSmall H (ds++gs)=true) (hL:laidMetH Tryz.prog Rows.historySameUptoRow.laid W) :
 Calls Tryz.prog 4 args W fun e W'=>∃v,e=.returned v/\Rows.historySameSpec.post enc Tryz.prog Tryz.f4 false true false false W args v W':=by
 have f:=w;obtain⟨p,q,l,y,rfl,z,a0⟩:=w;have x:DataW.TrodAll enc Tryz.prog W 0 (fun _=>true) true Tryz.f4.params.toList args.toList ds p:=l;rw[Bh3]at x a;obtain⟨v0,vs0,d0,ds0,p0,q0,m,rfl,rfl,h0,r0⟩:=trodAll_cons x;obtain⟨v1,vs1,d1,ds1,p1,q1,rfl,rfl,rfl,h1,r1⟩:=trodAll_cons r0;obtain⟨v2,vs2,d2,ds2,p2,q2,rfl,rfl,rfl,h2,r2⟩:=trodAll_cons r1;obtain⟨rfl,rfl,rfl⟩:=trodAll_nil r2;obtain rfl:args = #[v0,v1,v2]:=by cases args;simp_all
 obtain⟨rfl,rfl⟩:=trodVars_none y;have hb:=of_decide_eq_true hk;simp only[AY4,Rows.uptoBulkAll]at hb;obtain⟨cs0,c,_⟩:=okWide_struct Bd7 (a 0 26 v0 rfl rfl);obtain⟨cs1,d,_⟩:=okWide_struct Bd7 (a 1 26 v1 rfl rfl);obtain⟨a2,len2,cap2,o⟩:=okWide_slice Tryz.underlying33 (a 2 33 v2 rfl rfl);obtain⟨fu0,g0⟩:=h0;obtain⟨fu1,g1⟩:=h1;obtain⟨fu2,g2⟩:=h2;have r:As2 Tryz.prog [26,22,48,3,9,23,57,54,51,49,4,52,27,55,114,24,58,33]=true:=by kernel_rfl
 have b:∀t∈([26,22,48,3,9,23,57,54,51,49,4,52,27,55,114,24,58,33]:List Nat),t<Tryz.prog.types.size:=by decide +kernel
 obtain⟨pv0,c0,sh0⟩:=IH Aw0 Aw1 r b fu0 26 _ _ (by simp) g0;obtain⟨x0,l0,w0,s0⟩:=Hw _ _ sh0;have s0:Cn x0<=Rows.uptoBulk d0:=s0;have e0:=c0.leD l0;rw[c]at e0;have e0:=Zb e0;rw[<- c]at e0;obtain⟨pv1,c1,sh1⟩:=IH Aw0 Aw1 r b fu1 26 _ _ (by simp) g1;obtain⟨x1,l1,w1,s1⟩:=Hw _ _ sh1;have s1:Cn x1<=Rows.uptoBulk d1:=s1;have e1:=c1.leD l1;rw[d]at e1;have e1:=Zb e1;rw[<- d]at e1;obtain⟨pv2,c2,sh2⟩:=IH Aw0 Aw1 r b fu2 33 _ _ (by simp) g2;obtain⟨x2,l2,w2,s2⟩:=V9 Tryz.underlying33 (by kernel_rfl) (V9 Bd8 (by kernel_rfl) El) _ _ sh2;have s2:(Gh (fun i=>Gh (fun i=>BF ((x2.g i).g i)) (x2.g i).n+1) x2.n+1)<=Rows.uptoBulk d2:=s2;have e2:=Aw2 (by rw[o];rfl) (c2.leD l2);have hP:FunO (Gy Tryz.prog) Bo [.p (.agg (A2 x0)),.p (.agg (A2 x1)),.p (vSl 1 (cL 2 A0) x2)] [] (.p (.bb true)) [] []:=
  II (AF7 _) libC (Kw (N:=4194304) (by omega) Xc (QY w0 (by omega)) (QY w1 (by omega)) (fun i s=>AG9 (w2 i s)))
 have hc:=OY (args:=[.agg (A2 x0),.agg (A2 x1),vSl 1 (cL 2 A0) x2]) (enters_of Tryz.func4 (by decide +kernel) rfl) hP (W:=W) (vs:=#[v0,v1,v2]) (Aw3 hL) rfl (fun i s=>by
  match i,s with
  |0,_=>exact e0
  |1,_=>exact e1
  |2,_=>exact e2
  )
 refine hc.mono fun e W' ⟨he,u⟩=>?_;subst he;exact⟨_,rfl,Ah6 rfl (by kernel_rfl) Ba4 (by kernel_rfl) (by rw[Bh3];decide +kernel) f rfl u⟩
theorem own:ownKnob Tryz.prog.godebug=none:=by kernel_rfl
theorem reads (os:Os){H:Type}(enc:TypeId×Value->H):∃places,DataW.whole enc Tryz.prog ((World.laidAll Tryz.prog os Rows.historySameUptoRow.laid).forCall (fun _ _=>0) ⟨#[],#[.agg #[.slice none 0 0,.slice none 0 0,.slice none 0 0],.agg #[.slice none 0 0,.slice none 0 0,.slice none 0 0],.slice none 0 0],[]⟩).memory Tryz.f4.params.toList Rows.historySameSpec.vars false (#[.agg #[.slice none 0 0,.slice none 0 0,.slice none 0 0],.agg #[.slice none 0 0,.slice none 0 0,.slice none 0 0],.slice none 0 0]:Array Value).toList 16=some ([.agg [.nil,.nil,.nil],.agg [.nil,.nil,.nil],.nil],[],places):=
 ⟨[],by kernel_rfl⟩
theorem laid_met (os:Os):laidMet Tryz.prog Rows.historySameUptoRow.laid ((World.laidAll Tryz.prog os Rows.historySameUptoRow.laid).forCall (fun _ _=>0) ⟨#[],#[.agg #[.slice none 0 0,.slice none 0 0,.slice none 0 0],.agg #[.slice none 0 0,.slice none 0 0,.slice none 0 0],.slice none 0 0],[]⟩).memory:=
 laidMet_laidAll _ (by kernel_rfl) (by kernel_rfl)
theorem liftedUpto (os:Os)(started:os.Started)(H:Type)(enc:TypeId×Value->H)(F:Stop.Interp) :ReturnsInHanded {} Tryz.checked os 4 .any ((Rows.OpenSpec.upto Rows.historySameSpec).preRow enc Tryz.prog Tryz.f4 Rows.historySameUptoRow.domain false Rows.historySameUptoRow.laid) (((Rows.OpenSpec.upto Rows.historySameSpec).at F).post enc Tryz.prog Tryz.f4 false true false false):=by
 obtain⟨places,hx⟩:=reads os enc;refine returnsInHanded_of_row (C:=Tryz.checked) (s:=Rows.OpenSpec.upto Rows.historySameSpec) own started (by kernel_rfl) Tryz.func4
  (witness_row_at (enc:=enc) (C:=Tryz.checked) false (World.laidAll Tryz.prog os Rows.historySameUptoRow.laid) #[.agg #[.slice none 0 0,.slice none 0 0,.slice none 0 0],.agg #[.slice none 0 0,.slice none 0 0,.slice none 0 0],.slice none 0 0] (World.laidAll_os _ _ _) (by kernel_rfl) (by kernel_rfl) (by kernel_rfl)
   (OpenSpec.preRow_of_cond 16 hx (by kernel_rfl) (fun k hk=>by cases hk;kernel_rfl) (by kernel_rfl) (laid_met os))) ?_
 intro W base args ds gs before b c _ a _ hL _ _;exact contract H enc W base args ds gs before b c (a _ rfl) hL
theorem gA:jA_ Tryz.pinned.checked.prog 4 Tryz.f4 (Rows.OpenSpec.upto Rows.historySameSpec).bare Rows.historySameUptoRow=true:=by kernel_rfl
theorem gB:jB_ Tryz.pinned.checked.prog 4 Tryz.f4 (Rows.OpenSpec.upto Rows.historySameSpec).bare Rows.historySameUptoRow=true:=by kernel_rfl
theorem gC:jC_ Tryz.pinned.checked.prog 4 Tryz.f4 (Rows.OpenSpec.upto Rows.historySameSpec).bare Rows.historySameUptoRow=true:=by kernel_rfl
theorem gD:jD_ Tryz.pinned.checked.prog 4 Tryz.f4 (Rows.OpenSpec.upto Rows.historySameSpec).bare Rows.historySameUptoRow=true:=by kernel_rfl
theorem gE:jE_ Tryz.pinned.checked.prog 4 Tryz.f4 (Rows.OpenSpec.upto Rows.historySameSpec).bare Rows.historySameUptoRow=true:=by kernel_rfl
theorem gF:jF_ Tryz.pinned.checked.prog 4 Tryz.f4 (Rows.OpenSpec.upto Rows.historySameSpec).bare Rows.historySameUptoRow=true:=by kernel_rfl
theorem saidUpto:Rows.HistorySameUptoSaid:=
 OpenClaim.holds_of_cond 4 Tryz.f4 rfl rfl rfl rfl rfl rfl rfl ⟨rfl,rfl,rfl,rfl,rfl⟩ rfl rfl rfl rfl rfl (by kernel_rfl) Tryz.func4 (Zc gA gB gC gD gE gF)
  (of_decide_eq_true (by kernel_rfl)) (by unfold Func.isWrapper;first|(rw[if_pos (by decide +kernel)];kernel_rfl)|(rw[if_neg (by decide +kernel)];exact⟨rfl,rfl⟩))
  (fun os started H enc _ F=>by rw[OpenClaim.pre_eq_preRow];exact liftedUpto os started H enc F)
theorem plain (f:FuncId)(fn:Func)(b:Tryz.pinned.checked.prog.funcNamed "ablaut/ablautlaw25.HistorySame" = some f)(a:Tryz.pinned.checked.prog.funcs[f]? = some fn) :true=Tryz.pinned.checked.prog.looks []/\∀(j:Nat) t,fn.params[j]? = some t->Tryz.pinned.checked.prog.wantsStandIn t=false:=by
 obtain rfl:f=4:=AQ6 ((show Tryz.prog.funcNamed "ablaut/ablautlaw25.HistorySame" = some 4 by kernel_rfl).symm.trans b) |>.symm;obtain rfl:fn=Tryz.f4:=(AQ6 (Tryz.func4.symm.trans a)).symm;refine⟨by kernel_rfl,fun j t ht=>?_⟩;rw[Bh3]at ht;have hm:=Bf3 ht;simp only[List.mem_toArray,AS6,List.not_mem_nil,or_false]at hm;rcases hm with rfl|rfl|rfl
 ·exact (show Tryz.prog.wantsStandIn 26=false by kernel_rfl)
 ·exact (show Tryz.prog.wantsStandIn 26=false by kernel_rfl)
 ·exact (show Tryz.prog.wantsStandIn 33=false by kernel_rfl)
theorem cardUpto:Rows.HistorySameUptoCardSaid:=
 Claim7.holds_tied_plain_at .later [] _ _ _ _ saidUpto (fun _ h=>by cases h) (by kernel_rfl) (fun _ h=>by cases h) historySameUpto_row_tie rfl ⟨rfl,rfl⟩ (by kernel_rfl) rfl plain (by kernel_rfl)
end HiSame
end Go.AM
