/- Part 12. -/
import Derived.Test.YtlbooedblpdmaaaGreatDoorMJ
import Derived.Test.YtlbooedblpdmaaaGreatDoorMG
import Derived.Test.YtlbooedblpdmaaaGreatDoorMI
import Derived.Test.YtlbooedblpdmaaaGreatDoorMK
import Derived.Lay
set_option linter.defProp false
set_option linter.unusedSimpArgs false
set_option linter.unusedVariables false
set_option linter.unusedSectionVars false
namespace Go.AM
def Bs2:=@Go.Proofs.Tryz.params13
open Go.RowKit Go.ChangeShapes Go.WideShapes Go.ChangeAt Go.Deep Go.Proofs Go.Proofs.YtlbooedblpdmaaaGreatDoor
namespace AtMade
set_option maxRecDepth 100000
def contract (H:Type)(enc:TypeId×Value->H)(W:World)(base:Nat)(args:Array Value)(ds gs:List (DataW H))(before:List MemPlace)
 (a:∀(j:Nat) t v,Tryz.f13.params[j]? = some t->args[j]? = some v->Value.okWide Tryz.prog W .any base t v)
 (s:DataW.Whole enc Tryz.prog Tryz.f13.params.toList Rows.attestMadeSpec.vars false W args.toList ds gs before) (hk:Rows.uptoSmall H (ds++gs)=true) (hL:laidMetH Tryz.prog Rows.attestMadeUptoRow.laid W) :
 Calls Tryz.prog 13 args W fun e W'=>∃v,e=.returned v/\Rows.attestMadeSpec.post enc Tryz.prog Tryz.f13 false true false false W args v W':=by
 have d:=s;obtain⟨p,q,f,x,rfl,y,z⟩:=s;have u:DataW.TrodAll enc Tryz.prog W 0 (fun _=>true) true Tryz.f13.params.toList args.toList ds p:=f;rw[Bs2]at u a;obtain⟨v0,vs0,d0,ds0,p0,q0,l,rfl,rfl,h0,r0⟩:=trodAll_cons u;obtain⟨v1,vs1,d1,ds1,p1,q1,rfl,rfl,rfl,h1,r1⟩:=trodAll_cons r0;obtain⟨rfl,rfl,rfl⟩:=trodAll_nil r1;obtain rfl:args = #[v0,v1]:=by cases args;simp_all
 obtain⟨rfl,rfl⟩:=trodVars_none x;have hb:=of_decide_eq_true hk;simp only[Be8,Rows.uptoBulkAll]at hb;obtain⟨cs0,b,_⟩:=okWide_struct Tryz.underlying26 (a 0 26 v0 rfl rfl);obtain⟨a1,len1,cap1,m⟩:=okWide_slice Tryz.underlying50 (a 1 50 v1 rfl rfl);obtain⟨fu0,g0⟩:=h0;obtain⟨fu1,g1⟩:=h1;have w:Ax6 Tryz.prog [26,22,112,3,9,23,90,87,72,70,4,85,51,88,142,24,43,50]=true:=by kernel_rfl
 have c:∀t∈([26,22,112,3,9,23,90,87,72,70,4,85,51,88,142,24,43,50]:List Nat),t<Tryz.prog.types.size:=by decide +kernel
 obtain⟨pv0,c0,sh0⟩:=OI AP6 AP7 w c fu0 26 _ _ (by simp) g0;obtain⟨x0,l0,w0,s0⟩:=PS _ _ sh0;have s0:Ej x0<=Rows.uptoBulk d0:=s0;have e0:=c0.leD l0;rw[b]at e0;have e0:=AC6 e0;rw[<- b]at e0;obtain⟨pv1,c1,sh1⟩:=OI AP6 AP7 w c fu1 50 _ _ (by simp) g1;obtain⟨x1,l1,w1,s1⟩:=X6 Tryz.underlying50 (by kernel_rfl) (X6 Bo9 (by kernel_rfl) EW) _ _ sh1;have s1:(GT (fun i=>GT (fun i=>BU ((x1.g i).g i)) (x1.g i).n+1) x1.n+1)<=Rows.uptoBulk d1:=s1;have e1:=AC7 (by rw[m];rfl) (c1.leD l1);have hP:FunO (Ht Tryz.prog) Cw [.p (.agg (A7 x0)),.p (vSl 1 (cL 2 A0) x1)] [] (.p (.bb true)) [] []:=
  Ln (good _) libC (NS (N:=4194304) (by omega) XV (Zu w0 (by omega)) (fun i o=>AP8 (w1 i o)))
 have hc:=PT (args:=[.agg (A7 x0),vSl 1 (cL 2 A0) x1]) (enters_of FJ (by decide +kernel) rfl) hP (W:=W) (vs:=#[v0,v1]) (AC8 hL) rfl (fun i o=>by
  match i,o with
  |0,_=>exact e0
  |1,_=>exact e1
  )
 refine hc.mono fun e W' ⟨he,r⟩=>?_;subst he;exact⟨_,rfl,Al7 rfl (by kernel_rfl) Bl4 (by kernel_rfl) (by rw[Bs2];decide +kernel) d rfl r⟩
def own:ownKnob Tryz.prog.godebug=none:=by kernel_rfl
def reads (os:Os){H:Type}(enc:TypeId×Value->H):∃places,DataW.whole enc Tryz.prog ((World.laidAll Tryz.prog os Rows.attestMadeUptoRow.laid).forCall (fun _ _=>0) ⟨#[],#[.agg #[.slice none 0 0,.slice none 0 0,.slice none 0 0],.slice none 0 0],[]⟩).memory Tryz.f13.params.toList Rows.attestMadeSpec.vars false (#[.agg #[.slice none 0 0,.slice none 0 0,.slice none 0 0],.slice none 0 0]:Array Value).toList 16=some ([.agg [.nil,.nil,.nil],.nil],[],places):=
 ⟨[],by kernel_rfl⟩
def laid_met (os:Os):laidMet Tryz.prog Rows.attestMadeUptoRow.laid ((World.laidAll Tryz.prog os Rows.attestMadeUptoRow.laid).forCall (fun _ _=>0) ⟨#[],#[.agg #[.slice none 0 0,.slice none 0 0,.slice none 0 0],.slice none 0 0],[]⟩).memory:=
 laidMet_laidAll _ (by kernel_rfl) (by kernel_rfl)
def liftedUpto (os:Os)(started:os.Started)(H:Type)(enc:TypeId×Value->H)(F:Stop.Interp) :ReturnsInHanded {} Tryz.checked os 13 .any ((Rows.OpenSpec.upto Rows.attestMadeSpec).preRow enc Tryz.prog Tryz.f13 Rows.attestMadeUptoRow.domain false Rows.attestMadeUptoRow.laid) (((Rows.OpenSpec.upto Rows.attestMadeSpec).at F).post enc Tryz.prog Tryz.f13 false true false false):=by
 obtain⟨places,hx⟩:=reads os enc;refine returnsInHanded_of_row (C:=Tryz.checked) (s:=Rows.OpenSpec.upto Rows.attestMadeSpec) own started (by kernel_rfl) Bt7
  (witness_row_at (enc:=enc) (C:=Tryz.checked) false (World.laidAll Tryz.prog os Rows.attestMadeUptoRow.laid) #[.agg #[.slice none 0 0,.slice none 0 0,.slice none 0 0],.slice none 0 0] (World.laidAll_os _ _ _) (by kernel_rfl) (by kernel_rfl) (by kernel_rfl)
   (OpenSpec.preRow_of_cond 16 hx (by kernel_rfl) (fun k hk=>by cases hk;kernel_rfl) (by kernel_rfl) (laid_met os))) ?_
 intro W base args ds gs before b c _ a _ hL _ _;exact contract H enc W base args ds gs before b c (a _ rfl) hL
def gA:jA_ Tryz.pinned.checked.prog 13 Tryz.f13 (Rows.OpenSpec.upto Rows.attestMadeSpec).bare Rows.attestMadeUptoRow=true:=by kernel_rfl
def gB:jB_ Tryz.pinned.checked.prog 13 Tryz.f13 (Rows.OpenSpec.upto Rows.attestMadeSpec).bare Rows.attestMadeUptoRow=true:=by kernel_rfl
def gC:jC_ Tryz.pinned.checked.prog 13 Tryz.f13 (Rows.OpenSpec.upto Rows.attestMadeSpec).bare Rows.attestMadeUptoRow=true:=by kernel_rfl
def gD:jD_ Tryz.pinned.checked.prog 13 Tryz.f13 (Rows.OpenSpec.upto Rows.attestMadeSpec).bare Rows.attestMadeUptoRow=true:=by kernel_rfl
def gE:jE_ Tryz.pinned.checked.prog 13 Tryz.f13 (Rows.OpenSpec.upto Rows.attestMadeSpec).bare Rows.attestMadeUptoRow=true:=by kernel_rfl
def gF:jF_ Tryz.pinned.checked.prog 13 Tryz.f13 (Rows.OpenSpec.upto Rows.attestMadeSpec).bare Rows.attestMadeUptoRow=true:=by kernel_rfl
def saidUpto:Rows.AttestMadeUptoSaid:=
 OpenClaim.holds_of_cond 13 Tryz.f13 rfl rfl rfl rfl rfl rfl rfl ⟨rfl,rfl,rfl,rfl,rfl⟩ rfl rfl rfl rfl rfl (by kernel_rfl) Bt7 (Zv gA gB gC gD gE gF)
  (of_decide_eq_true (by kernel_rfl)) (by unfold Func.isWrapper;first|(rw[Kc (by decide +kernel)];kernel_rfl)|(rw[Ke (by decide +kernel)];exact⟨rfl,rfl⟩))
  (fun os started H enc _ F=>by rw[OpenClaim.pre_eq_preRow];exact liftedUpto os started H enc F)
def plain (f:FuncId)(fn:Func)(b:Tryz.pinned.checked.prog.funcNamed "ablaut/ablautlaw26.AttestMade" = some f)(a:Tryz.pinned.checked.prog.funcs[f]? = some fn) :true=Tryz.pinned.checked.prog.looks []/\∀(j:Nat) t,fn.params[j]? = some t->Tryz.pinned.checked.prog.wantsStandIn t=false:=by
 obtain rfl:f=13:=Bb9 ((show Tryz.prog.funcNamed "ablaut/ablautlaw26.AttestMade" = some 13 by kernel_rfl).symm.trans b) |>.symm;obtain rfl:fn=Tryz.f13:=(Bb9 (Tryz.func13.symm.trans a)).symm;refine⟨by kernel_rfl,fun j t ht=>?_⟩;rw[Bs2]at ht;have hm:=Bq6 ht;simp only[List.mem_toArray,Bd1,List.not_mem_nil,or_false]at hm;rcases hm with rfl|rfl
 .exact (show Tryz.prog.wantsStandIn 26=false by kernel_rfl)
 exact (show Tryz.prog.wantsStandIn 50=false by kernel_rfl)
def cardUpto:Rows.AttestMadeUptoCardSaid:=
 Claim7.holds_tied_plain_at .later [] _ _ _ _ saidUpto (fun _ h=>by cases h) (by kernel_rfl) (fun _ h=>by cases h) attestMadeUpto_row_tie rfl ⟨rfl,rfl⟩ (by kernel_rfl) rfl plain (by kernel_rfl)
end AtMade
end Go.AM
