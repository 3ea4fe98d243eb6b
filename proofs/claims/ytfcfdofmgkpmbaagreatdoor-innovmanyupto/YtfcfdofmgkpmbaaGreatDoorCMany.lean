/- What a law's walk and its plain proof need, part 9: no condition of its own. -/
import Derived.Test.YtfcfdofmgkpmbaaGreatDoorNG
import Derived.Test.YtfcfdofmgkpmbaaGreatDoorNF
import Derived.Test.YtfcfdofmgkpmbaaGreatDoorNH
import Derived.Lay
set_option linter.defProp false
set_option linter.unusedSimpArgs false
set_option linter.unusedVariables false
set_option linter.unusedSectionVars false
namespace Go.AM
def Az9:=@Go.Proofs.Tryz.underlying5
def AC0:=@Go.Proofs.Tryz.underlying4
def AI0:=@Go.Claim7.holds_tied_plain_at
def AJ3:=@Go.OpenSpec.preRow_of_cond
def AJ5:=@Go.OpenClaim.holds_of_cond
def AJ7:=@Go.OpenClaim.pre_eq_preRow
def AL2:=@Int.tmod_tmod_of_dvd
def AM3:=@Int.tmod_lt_of_pos
def AM4:=@Go.Proofs.Tryz.params12
set_option maxRecDepth 1000000
def YH:∀a:Fin 4,∀b:Fin 5,O0 4194304 (a.val:Int) (b.val:Int)=some true:=by decide +kernel
def YI (N:Nat)(a b:Int):O0 N a b=O0 N (a.tmod 4) (b.tmod 5):=by unfold O0;rw[AL2 a (Int.dvd_refl 4),AL2 b (Int.dvd_refl 5)]
def NT (a b:Int)(ha:0<=a)(hb:0<=b):O0 4194304 a b=some true:=by
 rw[YI];have h1:0<=a.tmod 4:=Int.tmod_nonneg 4 ha;have c:a.tmod 4<4:=AM3 a (by omega);have d:0<=b.tmod 5:=Int.tmod_nonneg 5 hb;have f:b.tmod 5<5:=AM3 b (by omega)
 have:=YH ⟨(a.tmod 4).toNat,by omega⟩ ⟨(b.tmod 5).toNat,by omega⟩
 rw[show ((a.tmod 4).toNat:Int)=a.tmod 4 by omega,show ((b.tmod 5).toNat:Int)=b.tmod 5 by omega]at this;exact this
end Go.AM
namespace Go.AM
open Go.RowKit Go.ChangeShapes Go.WideShapes Go.ChangeAt Go.Deep Go.Proofs Go.Proofs.YtfcfdofmgkpmbaaGreatDoor
section
variable {H:Type}{enc:TypeId×Value->H}{P:Program}{W:World}
theorem WW {v:Value}{x:PV}(a:v.cells.toList=[v])(h:CRep W v.cells.toList [x]):RepP W (fun _ _=>False) v x:=by
 have:=(h.2 0 (by simp)).1
 rw[a]at this;exact this
end
end Go.AM
namespace Go.AM
open Go.RowKit Go.ChangeShapes Go.WideShapes Go.ChangeAt Go.Deep Go.Proofs Go.Proofs.YtfcfdofmgkpmbaaGreatDoor
namespace InMany
set_option maxRecDepth 100000
def contract (H:Type)(enc:TypeId×Value->H)(W:World)(base:Nat)(args:Array Value)(ds gs:List (DataW H))(before:List MemPlace)
 (a:∀(j:Nat) t v,Tryz.f12.params[j]? = some t->args[j]? = some v->Value.okWide Tryz.prog W .any base t v)
 (r:DataW.Whole enc Tryz.prog Tryz.f12.params.toList Rows.innovManySpec.vars false W args.toList ds gs before) (hk:Rows.uptoSmall H (ds++gs)=true) (hL:laidMetH Tryz.prog Rows.innovManyUptoRow.laid W) :
 Calls Tryz.prog 12 args W fun e W'=>∃v,e=.returned v/\Rows.innovManySpec.post enc Tryz.prog Tryz.f12 false true false false W args v W':=by
 have c:=r;obtain⟨p,q,d,w,rfl,x,y⟩:=r;have s:DataW.TrodAll enc Tryz.prog W 0 (fun _=>true) true Tryz.f12.params.toList args.toList ds p:=d;rw[AM4]at s a;obtain⟨v0,vs0,d0,ds0,p0,q0,f,rfl,rfl,z,r0⟩:=trodAll_cons s;obtain⟨v1,vs1,d1,ds1,p1,q1,rfl,rfl,rfl,h1,r1⟩:=trodAll_cons r0;obtain⟨rfl,rfl,rfl⟩:=trodAll_nil r1;obtain rfl:args = #[v0,v1]:=by cases args;simp_all
 obtain⟨rfl,rfl⟩:=trodVars_none w;have hb:=of_decide_eq_true hk;simp only[AA8,Rows.uptoBulkAll]at hb;obtain⟨_,g⟩:=okWide_int Az9 (a 0 5 v0 rfl rfl);obtain⟨_,l⟩:=okWide_int Az9 (a 1 5 v1 rfl rfl);obtain⟨fu0,g0⟩:=z;obtain⟨fu1,g1⟩:=h1;have u:WU Tryz.prog [5]=true:=by kernel_rfl
 have b:∀t∈([5]:List Nat),t<Tryz.prog.types.size:=by decide +kernel
 obtain⟨pv0,c0,sh0⟩:=Iq Ae5 Ae6 u b fu0 5 _ _ (by simp) g0;obtain⟨x0,l0,w0,s0⟩:=O8 Az9 _ _ sh0;have s0:1<=Rows.uptoBulk d0:=s0;have e0:=WW (by rw[g];rfl) (c0.leD l0);obtain⟨pv1,c1,sh1⟩:=Iq Ae5 Ae6 u b fu1 5 _ _ (by simp) g1;obtain⟨x1,l1,w1,s1⟩:=O8 Az9 _ _ sh1;have s1:1<=Rows.uptoBulk d1:=s1;have e1:=WW (by rw[l];rfl) (c1.leD l1);obtain⟨c0,m,a0⟩:=Ae4 w0;obtain⟨d0,n,a1⟩:=Ae4 w1;have hP:FunO (EQ Tryz.prog) Cw [.p (pI .u8 x0),.p (pI .u8 x1)] [] (.p (.bb true)) [] []:=
  Kv (Ae1 _) libC (by rw[m,n];exact NT (c0:Int) (d0:Int) (by omega) (by omega))
 have hc:=Hl (args:=[pI .u8 x0,pI .u8 x1]) (enters_of Fr (by decide +kernel) rfl) hP (W:=W) (vs:=#[v0,v1]) (WV hL) rfl (fun i hi=>by
  match i,hi with
  |0,_=>exact e0
  |1,_=>exact e1
  )
 refine hc.mono fun e W' ⟨he,o⟩=>?_;subst he;exact⟨_,rfl,TE rfl (by kernel_rfl) AC0 (by kernel_rfl) (by rw[AM4];decide +kernel) c rfl o⟩
def own:ownKnob Tryz.prog.godebug=none:=by kernel_rfl
def reads (os:Os){H:Type}(enc:TypeId×Value->H):∃places,DataW.whole enc Tryz.prog ((World.laidAll Tryz.prog os Rows.innovManyUptoRow.laid).forCall (fun _ _=>0) ⟨#[],#[.int .u8 0,.int .u8 0],[]⟩).memory Tryz.f12.params.toList Rows.innovManySpec.vars false (#[.int .u8 0,.int .u8 0]:Array Value).toList 16=some ([.lit (.int .u8 0),.lit (.int .u8 0)],[],places):=
 ⟨[],by kernel_rfl⟩
def laid_met (os:Os):laidMet Tryz.prog Rows.innovManyUptoRow.laid ((World.laidAll Tryz.prog os Rows.innovManyUptoRow.laid).forCall (fun _ _=>0) ⟨#[],#[.int .u8 0,.int .u8 0],[]⟩).memory:=
 laidMet_laidAll _ (by kernel_rfl) (by kernel_rfl)
def liftedUpto (os:Os)(started:os.Started)(H:Type)(enc:TypeId×Value->H)(F:Stop.Interp) :ReturnsInHanded {} Tryz.checked os 12 .any ((Rows.OpenSpec.upto Rows.innovManySpec).preRow enc Tryz.prog Tryz.f12 Rows.innovManyUptoRow.domain false Rows.innovManyUptoRow.laid) (((Rows.OpenSpec.upto Rows.innovManySpec).at F).post enc Tryz.prog Tryz.f12 false true false false):=by
 obtain⟨places,hx⟩:=reads os enc;refine returnsInHanded_of_row (C:=Tryz.checked) (s:=Rows.OpenSpec.upto Rows.innovManySpec) own started (by kernel_rfl) AN4
  (witness_row_at (enc:=enc) (C:=Tryz.checked) false (World.laidAll Tryz.prog os Rows.innovManyUptoRow.laid) #[.int .u8 0,.int .u8 0] (World.laidAll_os _ _ _) (by kernel_rfl) (by kernel_rfl) (by kernel_rfl)
   (AJ3 16 hx (by kernel_rfl) (fun k hk=>by cases hk;kernel_rfl) (by kernel_rfl) (laid_met os))) ?_
 intro W base args ds gs before b c _ a _ hL _ _;exact contract H enc W base args ds gs before b c (a _ rfl) hL
def gA:jA_ Tryz.pinned.checked.prog 12 Tryz.f12 (Rows.OpenSpec.upto Rows.innovManySpec).bare Rows.innovManyUptoRow=true:=by kernel_rfl
def gB:jB_ Tryz.pinned.checked.prog 12 Tryz.f12 (Rows.OpenSpec.upto Rows.innovManySpec).bare Rows.innovManyUptoRow=true:=by kernel_rfl
def gC:jC_ Tryz.pinned.checked.prog 12 Tryz.f12 (Rows.OpenSpec.upto Rows.innovManySpec).bare Rows.innovManyUptoRow=true:=by kernel_rfl
def gD:jD_ Tryz.pinned.checked.prog 12 Tryz.f12 (Rows.OpenSpec.upto Rows.innovManySpec).bare Rows.innovManyUptoRow=true:=by kernel_rfl
def gE:jE_ Tryz.pinned.checked.prog 12 Tryz.f12 (Rows.OpenSpec.upto Rows.innovManySpec).bare Rows.innovManyUptoRow=true:=by kernel_rfl
def gF:jF_ Tryz.pinned.checked.prog 12 Tryz.f12 (Rows.OpenSpec.upto Rows.innovManySpec).bare Rows.innovManyUptoRow=true:=by kernel_rfl
def saidUpto:Rows.InnovManyUptoSaid:=
 AJ5 12 Tryz.f12 rfl rfl rfl rfl rfl rfl rfl ⟨rfl,rfl,rfl,rfl,rfl⟩ rfl rfl rfl rfl rfl (by kernel_rfl) AN4 (PN gA gB gC gD gE gF)
  (of_decide_eq_true (by kernel_rfl)) (by unfold Func.isWrapper;first|(rw[Ln (by decide +kernel)];kernel_rfl)|(rw[Lp (by decide +kernel)];exact⟨rfl,rfl⟩))
  (fun os started H enc _ F=>by rw[AJ7];exact liftedUpto os started H enc F)
def plain (f:FuncId)(fn:Func)(b:Tryz.pinned.checked.prog.funcNamed "ablaut/ablautlaw31.InnovMany" = some f)(a:Tryz.pinned.checked.prog.funcs[f]? = some fn) :true=Tryz.pinned.checked.prog.looks []/\∀(j:Nat) t,fn.params[j]? = some t->Tryz.pinned.checked.prog.wantsStandIn t=false:=by
 obtain rfl:f=12:=Ay2 ((show Tryz.prog.funcNamed "ablaut/ablautlaw31.InnovMany" = some 12 by kernel_rfl).symm.trans b) |>.symm;obtain rfl:fn=Tryz.f12:=(Ay2 (Tryz.func12.symm.trans a)).symm;refine⟨by kernel_rfl,fun j t ht=>?_⟩;rw[AM4]at ht;have hm:=AG7 ht;simp only[List.mem_toArray,Ax7,List.not_mem_nil,or_false]at hm;rcases hm with rfl|rfl
 .exact (show Tryz.prog.wantsStandIn 5=false by kernel_rfl)
 exact (show Tryz.prog.wantsStandIn 5=false by kernel_rfl)
def cardUpto:Rows.InnovManyUptoCardSaid:=
 AI0 .later [] _ _ _ _ saidUpto (fun _ h=>by cases h) (by kernel_rfl) (fun _ h=>by cases h) innovManyUpto_row_tie rfl ⟨rfl,rfl⟩ (by kernel_rfl) rfl plain (by kernel_rfl)
end InMany
end Go.AM
