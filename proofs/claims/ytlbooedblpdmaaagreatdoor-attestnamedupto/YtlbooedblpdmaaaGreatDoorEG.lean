/- Part 7. -/
import Derived.Test.YtlbooedblpdmaaaGreatDoorEF
import Derived.Test.YtlbooedblpdmaaaGreatDoorEE
set_option linter.defProp false
set_option linter.unusedSimpArgs false
set_option linter.unusedVariables false
set_option linter.unusedSectionVars false
namespace Go.AM
open Go.Proofs.Tryz
def Rg:(3:Nat)<=3:=by decide
variable {N:Nat}
def Pp:=@decide_eq_true_eq
theorem Pg{c:Prop}{i:Decidable c}{α:Sort _}{a b:α}(h:¬c:=by omega):(if c then a else b)=b:=Pl h
theorem Pe{c:Prop}{i:Decidable c}{α:Sort _}{a b:α}(h:c:=by omega):(if c then a else b)=a:=Pk h
open IntKind (wrap)
def Bo1:=@BitVec.getLsbD_or
def Bp1:=@Nat.not_lt_zero
def Br8:=@BitVec.getLsbD_not
def Bv0:=@Classical.axiomOfChoice
def Bw1:=@Bool.or_eq_false_iff
def By3:=@List.reverse_append
def Bz0:=@List.filter_cons_of_pos
def Bz1:=@List.filter_cons_of_neg
def BA0:=@List.length_filter_le
def BA5:=@Bool.not_eq_true
def BA6:=@List.mem_reverse
def BB3:=@BitVec.getLsbD_zero
def BC8:=@List.mem_range'_1
def BD9:=@Nat.testBit_two_pow_mul
def BE4:=@Nat.testBit_lt_two_pow
def BE5:=@List.filter_eq_nil_iff
def BE6:=@List.reverse_singleton
def BE9:=@Bool.and_eq_false_iff
def BF0:=@List.singleton_append
def BF4:=@BitVec.getLsbD_of_ge
def BG0:=@Nat.div_eq_zero_iff
def BG9:=@Nat.lt_of_le_of_lt
open Go.Proofs
set_option maxRecDepth 10000
set_option maxHeartbeats 2000000
variable {S:U3}(Z:H2 S Tryz.prog) (Y:Ij S)
include Z Y
def I2 (N:Nat)(d:A6)(b:Sl F0)(f:Sl Entry)(a:Int):Option ((Sl A1)×Int):= (S9 N d b f).bind fun y1=>if (y1 != 0) then some ((Sl.nil:Sl A1),y1) else if ((decide (a<0))||(decide (1073741824<a))) then some ((Sl.nil:Sl A1),2) else (J0 N d (-1)).bind fun y2=>(P7 N f).bind fun y3=>(G3 N y3).bind fun L1=>Q5 L1 (fun c (x1:J5×(Sl Sm)) (z1:(Sl (List (Str×F0)))×(Sl A1))=>if ((0:Int)<=x1.1.entry/\x1.1.entry<(b.n:Int))then (H1 N (b.g x1.1.entry.toNat) x1.1.leaf z1.1 y2).bind fun y8=>if (!y8.2.1) then if ((z1.2.n+(Sl.of [(⟨x1.1.entry,x1.1.leaf,2,a⟩:A1)]:Sl A1).n)*32<=140737488355328/\z1.2.n+(Sl.of [(⟨x1.1.entry,x1.1.leaf,2,a⟩:A1)]:Sl A1).n<=140737488355328)then c (y8.2.2,z1.2.push (⟨x1.1.entry,x1.1.leaf,2,a⟩:A1)) else none else (S2 N y8.1 x1.2).bind fun y9=>if (!y9) then if ((z1.2.n+(Sl.of [(⟨x1.1.entry,x1.1.leaf,1,a⟩:A1)]:Sl A1).n)*32<=140737488355328/\z1.2.n+(Sl.of [(⟨x1.1.entry,x1.1.leaf,1,a⟩:A1)]:Sl A1).n<=140737488355328)then c (y8.2.2,z1.2.push (⟨x1.1.entry,x1.1.leaf,1,a⟩:A1)) else none else c (y8.2.2,z1.2) else none) (fun (z1:(Sl (List (Str×F0)))×(Sl A1))=>some (z1.2,0)) ((⟨y2.n,fun _=>[]⟩:Sl (List (Str×F0))),(Sl.nil:Sl A1))
theorem Bn {f:A6}{d:Sl F0}{l:Sl Entry}{b:Int}{y:(Sl A1)×Int}(h:I2 N f d l b=some y) :FunO S Lw [.p (.agg (A7 f)),.p (vSl 2 C0 d),.p (vSl 2 B2 l),pN b] [] (.tup [.vec 0,pN y.2]) ([.vec B1 4 y.1.n (fun i=>A4 (y.1.g i)) false]) []:=by
 unfold I2 at h;refine A3 Z func17 ?_;refine G4 Z Pq 5 5000 (A7 f) ?_;refine G4 Z Pq 7 6000 [vSl 2 C0 d] ?_;refine G4 Z Pq 8 8000 [pI .i64 b] ?_;obtain⟨y1,e1,h⟩:=B9 h;refine C6 Z [] Rg (El Z Y e1) ?_;apply kI Z h<;>intro h
 .obtain rfl:=C4 h;exact A9 Z Pq ⟨[(9,pN y1),(8,.vec 9700)],[(9700,.vec B1 4 (Sl.nil:Sl A1).n (fun i=>A4 ((Sl.nil:Sl A1).g i)) false)]⟩ [9700] (ids:=[]) ⟨rfl,rfl,rfl⟩
 refine kB Z (A5 Z) Pq Pq 3 (.o (.a (decide (b<0))) (.a (decide (1073741824<b)))) ?_;apply kI Z h<;>intro h
 .obtain rfl:=C4 h;exact A9 Z Pq ⟨[(9,pN 2),(8,.vec 9700)],[(9700,.vec B1 4 (Sl.nil:Sl A1).n (fun i=>A4 ((Sl.nil:Sl A1).g i)) false)]⟩ [9700] (ids:=[]) ⟨rfl,rfl,rfl⟩
 obtain⟨y2,e2,h⟩:=B9 h;refine C6 Z [] Rg (Bg Z Y e2) ?_;refine kC Z h (Au Z Y) (fun y3 h=>?_);obtain⟨L1,e4,h⟩:=B9 h;refine Fx Z Pq [34000] [12,11,7,5] 901 (fun z1=>⟨[(12,.reg 13000 0),(11,.reg 12000 0),(7,.p (.ptr [pI .i64 b])),(5,.p (.ptr [vSl 2 C0 d]))],[(32001,.fam B0 z1.1.n 12500 none),(32000,.cells [.vec 32001]),(13500,.vec B1 4 z1.2.n (fun i=>A4 (z1.2.g i)) false),(13000,.cells [.vec 13500]),(12500,.rows z1.1.n fun i=>Gl (z1.1.g i)),(12000,.cells [.clo D1 [] [.reg 32000 0,.p (.ptr [vSl 1 (cL 18 B5) y2])]])]⟩) (idl:=[(12000,12000),(12500,32002),(13000,13000),(32000,32000),(32001,32001)]) h (V4 Z Y e4) (fun _=>by kernel_rfl) (fun _=>by kernel_rfl) (fun _=>by kernel_rfl) (fun _=>by kernel_rfl) (fun x1 _ m z1 j h=>?_) (fun z1 h=>?_)
 .refine G4 Z Pq 14 14000 [pI .i64 x1.1.entry,pI .i64 x1.1.leaf] ?_;refine Jx Z Pq ?_;refine E3 Z Pq [1,3,4,5,7] ?_;obtain⟨c9,h⟩:=D6 h;obtain⟨y8,e9,h⟩:=B9 h;refine Gq [32000,32001,12500] (And.intro c9 Q6) (X4 Z Y e9) ?_;refine H3 Pq ?_;apply kI Z h<;>intro h
  .obtain⟨c11,h⟩:=D6 h;exact j _ [(901,901),(12000,12000),(12500,46002),(13000,13000),(13500,60000),(32000,32000),(32001,32001)] _ (y8.2.2,z1.2.push (⟨x1.1.entry,x1.1.leaf,2,b⟩:A1)) (And.intro Rp c11) h (hle:=klR [(1,.fn (z1.2.n+1) (z1.2.push (⟨x1.1.entry,x1.1.leaf,2,b⟩:A1)).n (T2 z1.2.n (fun i=>A4 (z1.2.g i)) (D3 [pI .i64 0,pI .i64 0,pI .i64 0,pI .i64 0] [(0,A4 (⟨x1.1.entry,x1.1.leaf,2,b⟩:A1))])) (fun i=>A4 ((z1.2.push (⟨x1.1.entry,x1.1.leaf,2,b⟩:A1)).g i)))] (al1 ⟨rfl,EA (c:=A4) (v:=z1.2) (x:=(⟨x1.1.entry,x1.1.leaf,2,b⟩:A1)) (z:=[(pI .i64 0),pI .i64 0,pI .i64 0,pI .i64 0]) same rfl rfl⟩ al0))
  refine kC Z h (Ef Z Y) (fun y9 h=>?_);apply kI Z h<;>intro h
  .obtain⟨c13,h⟩:=D6 h;exact j _ [(901,901),(12000,12000),(12500,46002),(13000,13000),(13500,74000),(32000,32000),(32001,32001)] _ (y8.2.2,z1.2.push (⟨x1.1.entry,x1.1.leaf,1,b⟩:A1)) (And.intro Rp c13) h (hle:=klR [(1,.fn (z1.2.n+1) (z1.2.push (⟨x1.1.entry,x1.1.leaf,1,b⟩:A1)).n (T2 z1.2.n (fun i=>A4 (z1.2.g i)) (D3 [pI .i64 0,pI .i64 0,pI .i64 0,pI .i64 0] [(0,A4 (⟨x1.1.entry,x1.1.leaf,1,b⟩:A1))])) (fun i=>A4 ((z1.2.push (⟨x1.1.entry,x1.1.leaf,1,b⟩:A1)).g i)))] (al1 ⟨rfl,EA (c:=A4) (v:=z1.2) (x:=(⟨x1.1.entry,x1.1.leaf,1,b⟩:A1)) (z:=[(pI .i64 0),pI .i64 0,pI .i64 0,pI .i64 0]) same rfl rfl⟩ al0))
  exact j _ [(901,901),(12000,12000),(12500,46002),(13000,13000),(13500,13500),(32000,32000),(32001,32001)] _ (y8.2.2,z1.2) Pq h
 obtain rfl:=C4 h;exact A9 Z Pq ⟨[(9,pN 0),(8,.vec 13500)],[(13500,.vec B1 4 z1.2.n (fun i=>A4 (z1.2.g i)) false)]⟩ [13500] (ids:=[(13500,13500)]) ⟨rfl,rfl,rfl⟩
def FM (N:Nat)(f:A6)(a:Sl F0)(d:Sl Entry):Option (Bb5×Int):= (I2 N f a d 0).bind fun y1=>if (y1.2 != 0) then some ((⟨0,0⟩:Bb5),y1.2) else (P7 N d).bind fun y2=>(G3 N y2).bind fun L1=>Q5 L1 (fun b (x1:J5×(Sl Sm)) (z1:Int)=>b (wrap .i64 (z1+1))) (fun (z1:Int)=>if (z1==0) then some ((⟨0,1⟩:Bb5),0) else S0 N (fun c (x3:Int) (x4:Int)=>if (x4 != 0) then if x4≠0 then c x4 (x3.tmod x4) else none else if (x3≠0/\x3≠0)then some ((⟨wrap .i64 ((wrap .i64 (z1-(y1.1.n:Int))).tdiv x3),wrap .i64 (z1.tdiv x3)⟩:Bb5),0) else none) z1 (wrap .i64 (z1-(y1.1.n:Int)))) 0
theorem SR {b:A6}{a:Sl F0}{c:Sl Entry}{y:Bb5×Int}(h:FM N b a c=some y) :FunO S Jz [.p (.agg (A7 b)),.p (vSl 2 C0 a),.p (vSl 2 B2 c)] [] (.tup [.p (.agg (Bh7 y.1)),pN y.2]) ([]) []:=by
 unfold FM at h;refine A3 Z func19 ?_;refine G4 Z Pq 6 4000 (A7 b) ?_;obtain⟨y1,e1,h⟩:=B9 h;refine C6 Z [] Rg (Bn Z Y e1) ?_;apply kI Z h<;>intro h
 .cases h;exact kR Z
 refine kC Z h (Au Z Y) (fun y2 h=>?_);obtain⟨L1,e3,h⟩:=B9 h;refine Fx Z Pq [27000] [10,8,6] 901 (fun z1=>⟨[(10,.reg 11000 0),(8,.vec 19000),(6,.reg 7000 0)],[(19000,.vec B1 4 y1.1.n (fun i=>A4 (y1.1.g i)) false),(11000,.cells [pN z1]),(7000,.cells [pN 0,pN 0])]⟩) (idl:=[(7000,7000),(11000,11000),(19000,19000)]) h (V4 Z Y e3) (fun _=>by kernel_rfl) (fun _=>by kernel_rfl) (fun _=>by kernel_rfl) (fun _=>by kernel_rfl) (fun x1 _ d z1 f h=>?_) (fun z1 h=>?_)
 .refine Jx Z Pq ?_;exact f _ [(901,901),(7000,7000),(11000,11000),(19000,19000)] _ (wrap .i64 (z1+1)) Pq h
 apply kI Z h<;>intro h
 .cases h;exact kR Z
 refine G9 Z Pq h (fun x3 x4=>⟨[(13,pN x4),(12,pN x3),(11,pN (wrap .i64 (z1-(y1.1.n:Int)))),(10,.reg 11000 0),(6,.reg 7000 0)],[(11000,.cells [pN z1]),(7000,.cells [pN 0,pN 0])]⟩) (ids:=[(7000,7000),(11000,11000)]) (fun _ _ _ _ _ j x3 x4 l h=>?_);apply kI Z h<;>intro h
 .refine Ep Z Pq ?_;obtain⟨c8,h⟩:=D6 h;refine H3 c8 ?_;exact l _ [(7000,7000),(11000,11000)] _ x4 (x3.tmod x4) Pq h
 refine Ep Z Pq ?_;obtain⟨c9,h⟩:=D6 h;refine H3 c9 ?_;cases h;exact kR Z
def Ex (N:Nat)(d:A6)(a:Sl F0)(o:Sl Entry):Option ((Sl Int)×Int):= (S9 N d a o).bind fun y1=>if (y1 != 0) then some (Sh,y1) else (J0 N d (-1)).bind fun y2=>if ((0:Int)<=(d.Laws.n:Int)/\(d.Laws.n:Int)<=(d.Laws.n:Int)/\(d.Laws.n:Int)*8<=140737488355328/\(d.Laws.n:Int)<=140737488355328)then Am8 N (fun m (s:Sl (List (Str×F0))) (q:Sl Int) (c:Int)=>if (decide (c<(d.Laws.n:Int))) then (J0 N d c).bind fun r=>(P7 N o).bind fun t=>(G3 N t).bind fun L3=>Q5 L3 (fun i (f:J5×(Sl Sm)) (b:(Sl (List (Str×F0)))×(Sl Int)×(Sl (List (Str×F0))))=>if ((0:Int)<=f.1.entry/\f.1.entry<(a.n:Int))then (H1 N (a.g f.1.entry.toNat) f.1.leaf b.1 y2).bind fun j=>lt (fun (u:Bool)=>if u then i (j.2.2,b.2.1,b.2.2) else if ((0:Int)<=f.1.entry/\f.1.entry<(a.n:Int))then (H1 N (a.g f.1.entry.toNat) f.1.leaf b.2.2 r).bind fun l=>lt (fun (v:Bool)=>if v then if (((((0:Int)<=c/\c<(b.2.1.n:Int))/\c.toNat<b.2.1.n)/\((0:Int)<=c/\c<(b.2.1.n:Int)))/\c.toNat<b.2.1.n)then i (j.2.2,b.2.1.upd c.toNat (wrap .i64 ((b.2.1.g c.toNat)+1)),l.2.2) else none else i (j.2.2,b.2.1,l.2.2)) fun k18=>if (!l.2.1) then k18 true else (S2 N l.1 f.2).bind fun w=>k18 (!w) else none) fun k17=>if (!j.2.1) then k17 true else (S2 N j.1 f.2).bind fun x=>k17 (!x) else none) (fun (b:(Sl (List (Str×F0)))×(Sl Int)×(Sl (List (Str×F0))))=>m b.1 b.2.1 (wrap .i64 (c+1))) (s,q,(⟨r.n,fun _=>[]⟩:Sl (List (Str×F0)))) else some (q,0)) (⟨y2.n,fun _=>[]⟩:Sl (List (Str×F0))) (Sl.rep (d.Laws.n:Int).toNat 0:Sl Int) 0 else none
theorem PC {f:A6}{b:Sl F0}{m:Sl Entry}{y:(Sl Int)×Int}(h:Ex N f b m=some y) :FunO S HT [.p (.agg (A7 f)),.p (vSl 2 C0 b),.p (vSl 2 B2 m)] [] (.tup [.vec 0,pN y.2]) ([.vec C7 1 y.1.n (fun i=>cI .i64 (y.1.g i)) true]) []:=by
 unfold Ex at h;refine A3 Z func24 ?_;refine G4 Z Pq 4 4000 (A7 f) ?_;refine G4 Z Pq 6 5000 [vSl 2 C0 b] ?_;obtain⟨y1,e1,h⟩:=B9 h;refine C6 Z [] Rg (El Z Y e1) ?_;apply kI Z h<;>intro h
 .obtain rfl:=C4 h;exact A9 Z Pq ⟨[(7,pN y1),(6,.vec 7700)],[(7700,.vec C7 1 Sh.n (fun i=>cI .i64 (Sh.g i)) true)]⟩ [7700] (ids:=[]) ⟨rfl,rfl,rfl⟩
 obtain⟨y2,e2,h⟩:=B9 h;refine C6 Z [] Rg (Bg Z Y e2) ?_;obtain⟨c2,h⟩:=D6 h;refine IU Z c2 h (fun t o d=>⟨[(35,pN d),(34,pN (f.Laws.n:Int)),(10,.reg 11000 0),(9,.reg 10000 0),(4,.p (.ptr [vSl 2 C0 b])),(3,.p (.ptr (A7 f))),(2,.p (vSl 2 B2 m))],[(32000,.vec C7 1 o.n (fun i=>cI .i64 (o.g i)) false),(28001,.fam B0 t.n 10501 none),(28000,.cells [.vec 28001]),(11000,.cells [.vec 32000]),(10501,.rows t.n fun i=>Gl (t.g i)),(10000,.cells [.clo D1 [] [.reg 28000 0,.p (.ptr [vSl 1 (cL 18 B5) y2])]])]⟩) (ids:=[(10000,10000),(10501,28002),(11000,11000),(28000,28000),(28001,28001),(32000,32000)]) (fun _ _ _ _ _ a3 t o d a0 h=>?_);apply kI Z h<;>intro h
 .refine G4 Z Pq 38 12000 [pI .i64 d] ?_;obtain⟨z,e45,h⟩:=B9 h;refine C6 Z [] Rg (Bg Z Y e45) ?_;refine kC Z h (Au Z Y) (fun a7 h=>?_);obtain⟨L3,e47,h⟩:=B9 h;refine Fx Z Pq [43000] [35,34,12,11,10,9,4,3,2] 905 (fun a=>⟨[(35,pN d),(34,pN (f.Laws.n:Int)),(12,.reg 13000 0),(11,.p (.ptr [pI .i64 d])),(10,.reg 11000 0),(9,.reg 10000 0),(4,.p (.ptr [vSl 2 C0 b])),(3,.p (.ptr (A7 f))),(2,.p (vSl 2 B2 m))],[(41001,.fam B0 a.2.2.n 13500 none),(41000,.cells [.vec 41001]),(32000,.vec C7 1 a.2.1.n (fun i=>cI .i64 (a.2.1.g i)) false),(28001,.fam B0 a.1.n 10500 none),(28000,.cells [.vec 28001]),(13500,.rows a.2.2.n fun i=>Gl (a.2.2.g i)),(13000,.cells [.clo D1 [] [.reg 41000 0,.p (.ptr [vSl 1 (cL 18 B5) z])]]),(11000,.cells [.vec 32000]),(10500,.rows a.1.n fun i=>Gl (a.1.g i)),(10000,.cells [.clo D1 [] [.reg 28000 0,.p (.ptr [vSl 1 (cL 18 B5) y2])]])]⟩) (idl:=[(10000,10000),(10500,10501),(11000,11000),(13000,13000),(13500,41002),(28000,28000),(28001,28001),(32000,32000),(41000,41000),(41001,41001)]) h (V4 Z Y e47) (fun _=>by kernel_rfl) (fun _=>by kernel_rfl) (fun _=>by kernel_rfl) (fun _=>by kernel_rfl) (fun q _ a4 a r h=>?_) (fun a h=>?_)
  .refine G4 Z Pq 14 14000 [pI .i64 q.1.entry,pI .i64 q.1.leaf] ?_;refine Jx Z Pq ?_;refine E3 Z Pq [1,3,4,5,7] ?_;obtain⟨c88,h⟩:=D6 h;obtain⟨j,e60,h⟩:=B9 h;refine Gq [28000,28001,10500] (And.intro c88 Q6) (X4 Z Y e60) ?_;refine H3 Pq ?_;refine EC Z Pq (Sf Z) h 0 (fun a1=>⟨[(64,pB a1),(14,.p (vSl 2 A0 q.2)),(13,.p (.ptr [pI .i64 q.1.entry,pI .i64 q.1.leaf])),(12,.reg 13000 0),(11,.p (.ptr [pI .i64 d])),(10,.reg 11000 0),(4,.p (.ptr [vSl 2 C0 b]))],[(55002,.rows j.2.2.n fun i=>Gl (j.2.2.g i)),(41001,.fam B0 a.2.2.n 13500 none),(41000,.cells [.vec 41001]),(32000,.vec C7 1 a.2.1.n (fun i=>cI .i64 (a.2.1.g i)) false),(28001,.fam B0 j.2.2.n 55002 none),(28000,.cells [.vec 28001]),(13500,.rows a.2.2.n fun i=>Gl (a.2.2.g i)),(13000,.cells [.clo D1 [] [.reg 41000 0,.p (.ptr [vSl 1 (cL 18 B5) z])]]),(11000,.cells [.vec 32000]),(10000,.cells [.clo D1 [] [.reg 28000 0,.p (.ptr [vSl 1 (cL 18 B5) y2])]]),(905,.ghost [pN d,pN (f.Laws.n:Int),.reg 13000 0,.p (.ptr [pI .i64 d]),.reg 11000 0,.reg 10000 0,.p (.ptr [vSl 2 C0 b]),.p (.ptr (A7 f)),.p (vSl 2 B2 m)])]⟩) (fun M17 k17 u h=>?_) (fun a1 h=>?_)
   .refine kG Z h (fun h=>?_) (fun h=>?_)
    .exact u _ [(905,905),(10000,10000),(11000,11000),(13000,13000),(13500,13500),(28000,28000),(28001,28001),(32000,32000),(41000,41000),(41001,41001),(55002,55002)] _ true Pq h
    refine kC Z h (Ef Z Y) (fun a5 h=>?_);exact u _ [(905,905),(10000,10000),(11000,11000),(13000,13000),(13500,13500),(28000,28000),(28001,28001),(32000,32000),(41000,41000),(41001,41001),(55002,55002)] _ (!a5) Pq h
   apply kI Z h<;>intro h
   .exact r _ [(905,905),(10000,10000),(10500,55002),(11000,11000),(13000,13000),(13500,13500),(28000,28000),(28001,28001),(32000,32000),(41000,41000),(41001,41001)] _ (j.2.2,a.2.1,a.2.2) Pq h
   refine E3 Z Pq [1,3,4,5,7] ?_;obtain⟨c93,h⟩:=D6 h;obtain⟨s,e63,h⟩:=B9 h;refine Gq [41000,41001,13500] (And.intro c93 Q6) (X4 Z Y e63) ?_;refine H3 Pq ?_;refine EC Z Pq (Sf Z) h 0 (fun a2=>⟨[(84,pB a2),(11,.p (.ptr [pI .i64 d])),(10,.reg 11000 0)],[(75002,.rows s.2.2.n fun i=>Gl (s.2.2.g i)),(55002,.rows j.2.2.n fun i=>Gl (j.2.2.g i)),(41001,.fam B0 s.2.2.n 75002 none),(41000,.cells [.vec 41001]),(32000,.vec C7 1 a.2.1.n (fun i=>cI .i64 (a.2.1.g i)) false),(28001,.fam B0 j.2.2.n 55002 none),(28000,.cells [.vec 28001]),(13000,.cells [.clo D1 [] [.reg 41000 0,.p (.ptr [vSl 1 (cL 18 B5) z])]]),(11000,.cells [.vec 32000]),(10000,.cells [.clo D1 [] [.reg 28000 0,.p (.ptr [vSl 1 (cL 18 B5) y2])]]),(905,.ghost [pN d,pN (f.Laws.n:Int),.reg 13000 0,.p (.ptr [pI .i64 d]),.reg 11000 0,.reg 10000 0,.p (.ptr [vSl 2 C0 b]),.p (.ptr (A7 f)),.p (vSl 2 B2 m)])]⟩) (fun M18 k18 w h=>?_) (fun a2 h=>?_)
   .refine kG Z h (fun h=>?_) (fun h=>?_)
    .exact w _ [(905,905),(10000,10000),(11000,11000),(13000,13000),(28000,28000),(28001,28001),(32000,32000),(41000,41000),(41001,41001),(55002,55002),(75002,75002)] _ true Pq h
    refine kC Z h (Ef Z Y) (fun a6 h=>?_);exact w _ [(905,905),(10000,10000),(11000,11000),(13000,13000),(28000,28000),(28001,28001),(32000,32000),(41000,41000),(41001,41001),(55002,55002),(75002,75002)] _ (!a6) Pq h
   apply kI Z h<;>intro h
   .obtain⟨c98,h⟩:=D6 h;exact r _ [(905,905),(10000,10000),(10500,55002),(11000,11000),(13000,13000),(13500,75002),(28000,28000),(28001,28001),(32000,32000),(41000,41000),(41001,41001)] _ (j.2.2,a.2.1.upd d.toNat (wrap .i64 ((a.2.1.g d.toNat)+1)),s.2.2) (And.intro (And.intro (And.intro c98.1.1.1 c98.1.1.2) c98.1.2) (And.intro (rfl:(1:Nat)=1) (And.intro c98.2 Ps))) h (hle:=klR [(1,.fn a.2.1.n (a.2.1.upd d.toNat (wrap .i64 ((a.2.1.g d.toNat)+1))).n (fun l=>if l=d.toNat then splice ((fun i=>cI .i64 (a.2.1.g i)) l) 0 [pI .i64 (wrap .i64 ((a.2.1.g d.toNat)+1))]else (fun i=>cI .i64 (a.2.1.g i)) l) (fun i=>cI .i64 ((a.2.1.upd d.toNat (wrap .i64 ((a.2.1.g d.toNat)+1))).g i)))] (al1 ⟨rfl,Ak9 (c:=cI .i64) (v:=a.2.1) (x:=wrap .i64 ((a.2.1.g d.toNat)+1)) same (fun _=>by first|rfl|(dsimp only;split<;>rfl))⟩ al0))
   exact r _ [(905,905),(10000,10000),(10500,55002),(11000,11000),(13000,13000),(13500,75002),(28000,28000),(28001,28001),(32000,32000),(41000,41000),(41001,41001)] _ (j.2.2,a.2.1,s.2.2) Pq h
  exact a0 _ [(10000,10000),(10501,10500),(11000,11000),(28000,28000),(28001,28001),(32000,32000)] _ a.1 a.2.1 (wrap .i64 (d+1)) Pq h
 obtain rfl:=C4 h;exact A9 Z Pq ⟨[(7,pN 0),(6,.vec 32000)],[(32000,.vec C7 1 o.n (fun i=>cI .i64 (o.g i)) true)]⟩ [32000] (ids:=[(32000,32000)]) ⟨rfl,rfl,rfl⟩
def FN (N:Nat)(j:A6)(l:Entry)(a:Sl (Sl Sm)):Option (Int×Int×Int):= (Q4 N j).bind fun y1=>if (y1 != 0) then some (0,0,y1) else if (decide (256<(a.n:Int))) then some (0,0,12) else (J9 N j.Tree).bind fun y2=>(K5 N (Sl.of [l]:Sl Entry) (y2.1.n:Int)).bind fun y3=>if (y3 != 0) then some (0,0,y3) else (N5 N l.Forms).bind fun y4=>if (y4 != 0) then some (0,0,y4) else Q7 N (fun m (x1:Int)=>if (decide (x1<(a.n:Int))) then if ((0:Int)<=x1/\x1<(a.n:Int))then (P4 N (a.g x1.toNat)).bind fun y7=>if (y7 != 0) then some (0,0,y7) else m (wrap .i64 (x1+1)) else none else if ((a.n:Int)==0) then some (0,0,5) else (J0 N j (-1)).bind fun y8=>Ar8 N (fun d (s:Sl (List (Str×F0))) (q:Int) (o:Int) (c:Int)=>if (decide (c<(a.n:Int))) then if ((0:Int)<=c/\c<(a.n:Int))then (P7 N (Sl.of [l]:Sl Entry)).bind fun t=>(G3 N t).bind fun L4=>Q5 L4 (fun f (r:J5×(Sl Sm)) (b:(Sl (List (Str×F0)))×Int)=>(H1 N (⟨true,a.g c.toNat⟩:F0) r.1.leaf b.1 y8).bind fun i=>lt (fun (u:Bool)=>if u then f (i.2.2,wrap .i64 (b.2+1)) else f (i.2.2,b.2)) fun k12=>if i.2.1 then (S2 N i.1 r.2).bind fun v=>k12 v else k12 false) (fun (b:(Sl (List (Str×F0)))×Int)=>if (decide (o<b.2)) then d b.1 c b.2 (wrap .i64 (c+1)) else d b.1 q o (wrap .i64 (c+1))) (s,0) else none else some (q,o,0)) (⟨y8.n,fun _=>[]⟩:Sl (List (Str×F0))) 0 (-1) 0) 0
theorem SS {m:A6}{b:Entry}{a:Sl (Sl Sm)}{y:Int×Int×Int}(h:FN N m b a=some y) :FunO S JB [.p (.agg (A7 m)),.p (.agg (B2 b)),.p (vSl 1 (cL 2 A0) a)] [] (.tup [pN y.1,pN y.2.1,pN y.2.2]) ([]) []:=by
 unfold FN at h;refine A3 Z func27 ?_;refine G4 Z Pq 4 4000 (A7 m) ?_;refine G4 Z Pq 6 5000 [.str b.Gloss,vSl 2 C0 b.Forms] ?_;obtain⟨y1,e1,h⟩:=B9 h;refine C6 Z [] Rg (GT Z Y e1) ?_;apply kI Z h<;>intro h
 .cases h;exact kR Z
 apply kI Z h<;>intro h
 .cases h;exact kR Z
 refine kC Z h (Aj Z Y) (fun y2 h=>?_);refine Bz Z (And.intro Q6 Rp) ⟨[(44,pN (y2.1.n:Int)),(42,.vec 43000),(4,.p (.ptr [.str b.Gloss,vSl 2 C0 b.Forms])),(3,.p (.ptr (A7 m))),(2,.p (vSl 1 (cL 2 A0) a))],[(43000,.vec IF 2 (Sl.of [b]:Sl Entry).n (fun i=>B2 ((Sl.of [b]:Sl Entry).g i)) false)]⟩ (ids:=[(43000,43000)]) ?_ (hle:=klR [(4,.fn 1 (Sl.of [b]:Sl Entry).n (D3 [.str [],M8] [(0,B2 b)]) (fun i=>B2 ((Sl.of [b]:Sl Entry).g i)))] (al1 ⟨rfl,(fun i t=>match i,t with|0,_=>rfl|_+1,t=>Pm t (by omega))⟩ al0));refine kC Z h (Gg Z Y) (fun y3 h=>?_);apply kI Z h<;>intro h
 .cases h;exact kR Z
 refine kC Z h (Ew Z Y) (fun y4 h=>?_);apply kI Z h<;>intro h
 .cases h;exact kR Z
 refine H0 Z Pq h (fun x1=>⟨[(57,pN x1),(56,pN (a.n:Int)),(55,.p (vSl 1 (cL 2 A0) a)),(4,.p (.ptr [.str b.Gloss,vSl 2 C0 b.Forms])),(3,.p (.ptr (A7 m))),(2,.p (vSl 1 (cL 2 A0) a))],[]⟩) (ids:=[]) (fun _ _ _ _ _ w x1 x h=>?_);apply kI Z h<;>intro h
 .obtain⟨c12,h⟩:=D6 h;obtain⟨y7,e7,h⟩:=B9 h;refine C6 Z [] c12 (Ee Z Y e7) ?_;apply kI Z h<;>intro h
  .cases h;exact kR Z
  exact x _ [] _ (wrap .i64 (x1+1)) Pq h
 apply kI Z h<;>intro h
 .cases h;exact kR Z
 obtain⟨y8,e8,h⟩:=B9 h;refine C6 Z [] Rg (Bg Z Y e8) ?_;refine YE Z Pq h (fun f j l c=>⟨[(74,pN c),(73,pN (a.n:Int)),(72,.p (vSl 1 (cL 2 A0) a)),(19,pN l),(18,pN j),(17,.reg 18000 0),(4,.p (.ptr [.str b.Gloss,vSl 2 C0 b.Forms]))],[(72001,.fam B0 f.n 18502 none),(72000,.cells [.vec 72001]),(18502,.rows f.n fun i=>Gl (f.g i)),(18000,.cells [.clo D1 [] [.reg 72000 0,.p (.ptr [vSl 1 (cL 18 B5) y8])]])]⟩) (ids:=[(18000,18000),(18502,72002),(72000,72000),(72001,72001)]) (fun _ _ _ _ _ z f j l c q h=>?_);apply kI Z h<;>intro h
 .obtain⟨c61,h⟩:=D6 h;refine G4 Z c61 22 22000 [vSl 2 A0 (a.g c.toNat)] ?_;refine Bz Z (And.intro Q6 Rp) ⟨[(80,.vec 81000),(74,pN c),(73,pN (a.n:Int)),(72,.p (vSl 1 (cL 2 A0) a)),(22,.reg 23000 0),(21,.p (.ptr [vSl 2 A0 (a.g c.toNat)])),(20,pN c),(19,pN l),(18,pN j),(17,.reg 18000 0),(4,.p (.ptr [.str b.Gloss,vSl 2 C0 b.Forms]))],[(81000,.vec IF 2 (Sl.of [b]:Sl Entry).n (fun i=>B2 ((Sl.of [b]:Sl Entry).g i)) false),(72001,.fam B0 f.n 18502 none),(72000,.cells [.vec 72001]),(23000,.cells [pN 0]),(18502,.rows f.n fun i=>Gl (f.g i)),(18000,.cells [.clo D1 [] [.reg 72000 0,.p (.ptr [vSl 1 (cL 18 B5) y8])]])]⟩ (ids:=[(18000,18000),(18502,18502),(23000,23000),(72000,72000),(72001,72001),(81000,81000)]) ?_ (hle:=klR [(8,.fn 1 (Sl.of [b]:Sl Entry).n (D3 [.str [],M8] [(0,B2 b)]) (fun i=>B2 ((Sl.of [b]:Sl Entry).g i)))] (al1 ⟨rfl,(fun i t=>match i,t with|0,_=>rfl|_+1,t=>Pm t (by omega))⟩ al0));refine kC Z h (Au Z Y) (fun a2 h=>?_);obtain⟨L4,e43,h⟩:=B9 h;refine Fx Z Pq [82000] [74,73,72,22,21,20,19,18,17,4] 907 (fun d=>⟨[(74,pN c),(73,pN (a.n:Int)),(72,.p (vSl 1 (cL 2 A0) a)),(22,.reg 23000 0),(21,.p (.ptr [vSl 2 A0 (a.g c.toNat)])),(20,pN c),(19,pN l),(18,pN j),(17,.reg 18000 0),(4,.p (.ptr [.str b.Gloss,vSl 2 C0 b.Forms]))],[(72001,.fam B0 d.1.n 18500 none),(72000,.cells [.vec 72001]),(23000,.cells [pN d.2]),(18500,.rows d.1.n fun i=>Gl (d.1.g i)),(18000,.cells [.clo D1 [] [.reg 72000 0,.p (.ptr [vSl 1 (cL 18 B5) y8])]])]⟩) (idl:=[(18000,18000),(18500,18502),(23000,23000),(72000,72000),(72001,72001)]) h (V4 Z Y e43) (fun _=>by kernel_rfl) (fun _=>by kernel_rfl) (fun _=>by kernel_rfl) (fun _=>by kernel_rfl) (fun u _ a0 d r h=>?_) (fun d h=>?_)
  .refine G4 Z Pq 24 24000 [pI .i64 u.1.entry,pI .i64 u.1.leaf] ?_;refine Jx Z Pq ?_;obtain⟨o,e50,h⟩:=B9 h;refine C6 Z [72000,72001,18500] Pq (X4 Z Y e50) ?_;refine EC Z Pq (Sf Z) h 0 (fun v=>⟨[(98,pB v),(22,.reg 23000 0)],[(91002,.rows o.2.2.n fun i=>Gl (o.2.2.g i)),(72001,.fam B0 o.2.2.n 91002 none),(72000,.cells [.vec 72001]),(23000,.cells [pN d.2]),(18000,.cells [.clo D1 [] [.reg 72000 0,.p (.ptr [vSl 1 (cL 18 B5) y8])]]),(907,.ghost [pN c,pN (a.n:Int),.p (vSl 1 (cL 2 A0) a),.reg 23000 0,.p (.ptr [vSl 2 A0 (a.g c.toNat)]),pN c,pN l,pN j,.reg 18000 0,.p (.ptr [.str b.Gloss,vSl 2 C0 b.Forms])])]⟩) (fun M12 k12 s h=>?_) (fun v h=>?_)
   .refine kG Z h (fun h=>?_) (fun h=>?_)
    .refine kC Z h (Ef Z Y) (fun a1 h=>?_);exact s _ [(907,907),(18000,18000),(23000,23000),(72000,72000),(72001,72001),(91002,91002)] _ a1 Pq h
    exact s _ [(907,907),(18000,18000),(23000,23000),(72000,72000),(72001,72001),(91002,91002)] _ false Pq h
   apply kI Z h<;>intro h
   .exact r _ [(907,907),(18000,18000),(18500,91002),(23000,23000),(72000,72000),(72001,72001)] _ (o.2.2,wrap .i64 (d.2+1)) Pq h
   exact r _ [(907,907),(18000,18000),(18500,91002),(23000,23000),(72000,72000),(72001,72001)] _ (o.2.2,d.2) Pq h
  apply kI Z h<;>intro h
  .refine Ep Z Pq ?_;refine H3 Pq ?_;exact q _ [(18000,18000),(18502,18500),(72000,72000),(72001,72001)] _ d.1 c d.2 (wrap .i64 (c+1)) Pq h
  exact q _ [(18000,18000),(18502,18500),(72000,72000),(72001,72001)] _ d.1 j l (wrap .i64 (c+1)) Pq h
 cases h;exact kR Z
def N4 (N:Nat)(d:A6)(b:Sl F0)(f:Sl Entry)(a:Int):Option ((Sl Int)×Int):= (I2 N d b f 0).bind fun y1=>if (y1.2 != 0) then some (Sh,y1.2) else (J9 N d.Tree).bind fun y2=>if ((decide (a<0))||(decide ((y2.1.n:Int)<=a))) then some (Sh,3) else S0 N (fun c (x1:Sl Int) (x2:Int)=>if (decide (x2<(y1.1.n:Int))) then if (((0:Int)<=x2/\x2<(y1.1.n:Int))/\x2.toNat<y1.1.n)then if ((y1.1.g x2.toNat).Leaf==a) then if ((x1.n+(Sl.of [(y1.1.g x2.toNat).Entry]:Sl Int).n)*8<=140737488355328/\x1.n+(Sl.of [(y1.1.g x2.toNat).Entry]:Sl Int).n<=140737488355328)then c (x1.push (y1.1.g x2.toNat).Entry) (wrap .i64 (x2+1)) else none else c x1 (wrap .i64 (x2+1)) else none else some (x1,0)) Sh 0
theorem Fn {j:A6}{f:Sl F0}{l:Sl Entry}{d:Int}{y:(Sl Int)×Int}(h:N4 N j f l d=some y) :FunO S JC [.p (.agg (A7 j)),.p (vSl 2 C0 f),.p (vSl 2 B2 l),pN d] [] (.tup [.vec 0,pN y.2]) ([.vec C7 1 y.1.n (fun i=>cI .i64 (y.1.g i)) true]) []:=by
 unfold N4 at h;refine A3 Z func35 ?_;refine kC Z h (Bn Z Y) (fun y1 h=>?_);apply kI Z h<;>intro h
 .obtain rfl:=C4 h;exact A9 Z Pq ⟨[(9,pN y1.2),(8,.vec 9700)],[(9700,.vec C7 1 Sh.n (fun i=>cI .i64 (Sh.g i)) true)]⟩ [9700] (ids:=[]) ⟨rfl,rfl,rfl⟩
 refine kC Z h (Aj Z Y) (fun y2 h=>?_);refine kB Z (A5 Z) Pq Pq 5 (.o (.a (decide (d<0))) (.a (decide ((y2.1.n:Int)<=d)))) ?_;apply kI Z h<;>intro h
 .obtain rfl:=C4 h;exact A9 Z Pq ⟨[(9,pN 3),(8,.vec 9700)],[(9700,.vec C7 1 Sh.n (fun i=>cI .i64 (Sh.g i)) true)]⟩ [9700] (ids:=[]) ⟨rfl,rfl,rfl⟩
 refine G9 Z Pq h (fun x1 x2=>⟨[(43,pN x2),(42,pN (y1.1.n:Int)),(41,.vec 22000),(14,.vec 15500),(3,pN d)],[(22000,.vec B1 4 y1.1.n (fun i=>A4 (y1.1.g i)) false),(15500,.vec C7 1 x1.n (fun i=>cI .i64 (x1.g i)) false)]⟩) (ids:=[(22000,22000)]) (fun _ _ _ _ _ q x1 x2 m h=>?_);apply kI Z h<;>intro h
 .obtain⟨c10,h⟩:=D6 h;refine D4 Z (And.intro (And.intro c10.1 Rh) c10.2) (b:=(y1.1.g x2.toNat).Leaf==d) (fun c11=>?_) (fun c11=>?_)
  .replace h:=itT c11 h;obtain⟨c12,h⟩:=D6 h;exact m _ [(15500,56000),(22000,22000)] _ (x1.push (y1.1.g x2.toNat).Entry) (wrap .i64 (x2+1)) (And.intro Rp c12) h (hle:=klR [(4,.fn (x1.n+1) (x1.push (y1.1.g x2.toNat).Entry).n (T2 x1.n (fun i=>cI .i64 (x1.g i)) (D3 [pI .i64 0] [(0,cI .i64 (y1.1.g x2.toNat).Entry)])) (fun i=>cI .i64 ((x1.push (y1.1.g x2.toNat).Entry).g i)))] (al1 ⟨rfl,EA (c:=cI .i64) (v:=x1) (x:=(y1.1.g x2.toNat).Entry) (z:=[(pI .i64 0)]) same rfl rfl⟩ al0))
  replace h:=itF c11 h;exact m _ [(15500,15500),(22000,22000)] _ x1 (wrap .i64 (x2+1)) Pq h
 obtain rfl:=C4 h;exact A9 Z Pq ⟨[(9,pN 0),(8,.vec 15500)],[(15500,.vec C7 1 x1.n (fun i=>cI .i64 (x1.g i)) true)]⟩ [15500] (ids:=[(15500,15500)]) ⟨rfl,rfl,rfl⟩
end Go.AM
namespace Go.AM
open Go.Proofs
set_option maxRecDepth 10000
set_option maxHeartbeats 2000000
variable {S:U3}(Z:H2 S Tryz.prog) (Y:Ij S)
include Z Y
def P9 (N:Nat)  : Option Bool:= (FK N ).bind fun y1=>(FJ N ).bind fun y2=>(Oy N ).bind fun y3=>(FJ N ).bind fun y4=>(Fd N (Sl.of [y2,y3,y4]:Sl Sm)).bind fun y5=>(FJ N ).bind fun y6=>(SP N ).bind fun y7=>(Fd N (Sl.of [y6,y7]:Sl Sm)).bind fun y8=>(FL N (Sl.of [y8,y5]:Sl F0)).bind fun y9=>(FJ N ).bind fun j=>(Oy N ).bind fun l=>(Fd N (Sl.of [j,l]:Sl Sm)).bind fun m=>(FL N (Sl.of [m,y5]:Sl F0)).bind fun c=>(I2 N y1 (Sl.of [y5]:Sl F0) (Sl.of [y9]:Sl Entry) 5).bind fun d=>(I2 N y1 (Sl.of [y5]:Sl F0) (Sl.of [c]:Sl Entry) 5).bind fun f=>(FM N y1 (Sl.of [y5]:Sl F0) (Sl.of [c]:Sl Entry)).bind fun a=>(Ex N y1 (Sl.of [y5]:Sl F0) (Sl.of [y9]:Sl Entry)).bind fun i=>if ((0:Int)<=0/\0<((Sl.of [y9]:Sl Entry).n:Int))then (Oy N ).bind fun o=>(FJ N ).bind fun q=>(FJ N ).bind fun r=>(SP N ).bind fun s=>(FJ N ).bind fun t=>(FN N y1 ((Sl.of [y9]:Sl Entry).g 0) (Sl.of [(Sl.of [o,q]:Sl Sm),y5.W,(Sl.of [r,s,t]:Sl Sm)]:Sl (Sl Sm))).bind fun b=>lt (fun (z1:Bool)=>some z1) fun k1=>if (d.2==0) then if (f.2==0) then if (a.2==0) then if (i.2==0) then if (b.2.2==0) then if ((d.1.n:Int)==0) then (KQ N f.1 (Sl.of [(⟨0,0,1,5⟩:A1)]:Sl A1)).bind fun u=>if u then if (((a.1.N==1)&&(a.1.D==2)) != false) then (U8 N i.1 (Sl.of [1,1]:Sl Int)).bind fun v=>if v then if (b.1==1) then k1 (b.2.1==2) else k1 false else k1 false else k1 false else k1 false else k1 false else k1 false else k1 false else k1 false else k1 false else k1 false else none
theorem Dp {N:Nat}    {y:Bool}(h:P9 N  = some y) :FunO S NP [] [] (pB y) ([]) []:=by
 unfold P9 at h;refine A3 Z Tryz.func16 ?_;refine kC Z h (SQ Z Y) (fun y1 h=>?_);refine G4 Z Pq 17 2000 (A7 y1) ?_;refine kC Z h (IH Z Y) (fun y2 h=>?_);refine kC Z h (Yb Z Y) (fun y3 h=>?_);refine kC Z h (IH Z Y) (fun y4 h=>?_);refine Bz Z Rp ⟨[(20,.vec 21000),(1,.p (.ptr (A7 y1)))],[(21000,.vec B8 2 (Sl.of [y2,y3,y4]:Sl Sm).n (fun i=>A0 ((Sl.of [y2,y3,y4]:Sl Sm).g i)) false)]⟩ (ids:=[(21000,21000)]) ?_ (hle:=klR [(1,.fn 3 (Sl.of [y2,y3,y4]:Sl Sm).n (D3 [pI .u32 0,pI .u32 0] [(0,A0 y2),(1,A0 y3),(2,A0 y4)]) (fun i=>A0 ((Sl.of [y2,y3,y4]:Sl Sm).g i)))] (al1 ⟨rfl,(fun i a=>match i,a with|0,_=>rfl|1,_=>rfl|2,_=>rfl|_+3,a=>Pm a (by omega))⟩ al0));refine kC Z h (KR Z Y) (fun y5 h=>?_);refine AB0 Z Pq 3000 [.bb y5.Has,vSl 2 A0 y5.W] ?_;refine E3 Z Pq [0,1,3,4,6,8,9,11,12,14] ?_;obtain⟨y6,e6,h⟩:=B9 h;refine K7 Pq (IH Z Y e6) ?_;obtain⟨y7,e7,h⟩:=B9 h;refine K7 Pq (Au3 Z Y e7) ?_;refine Y8 Pq (x:=.sl true 2 2 (D3 [pI .u32 0,pI .u32 0] [(0,A0 y6),(1,A0 y7)])) ?_;obtain⟨y8,e8,h⟩:=B9 h;refine K7 Pq (FunO.le Z (args:=[.p (.sl true 2 2 (D3 [pI .u32 0,pI .u32 0] [(0,A0 y6),(1,A0 y7)]))]) (by exact⟨Qg rfl (fun i a=>match i,a with|0,_=>rfl|1,_=>rfl|_+2,a=>Pm a (by omega)),trivial⟩) (KR Z Y e8)) ?_;refine Y8 Q6 (x:=.sl true 2 2 (D3 [.v (.bool false),M8] [(0,C0 y8),(1,C0 y5)])) ?_;obtain⟨y9,e9,h⟩:=B9 h;refine K7 Pq (FunO.le Z (args:=[.p (.sl true 2 2 (D3 [.v (.bool false),M8] [(0,C0 y8),(1,C0 y5)]))]) (by exact⟨Qg rfl (fun i a=>match i,a with|0,_=>rfl|1,_=>rfl|_+2,a=>Pm a (by omega)),trivial⟩) (Oz Z Y e9)) ?_;refine Y8 Pq (x:=.sl true 2 1 (D3 [.str [],M8] [(0,B2 y9)])) ?_;obtain⟨w,e10,h⟩:=B9 h;refine K7 Pq (IH Z Y e10) ?_;obtain⟨z,e11,h⟩:=B9 h;refine K7 Pq (Yb Z Y e11) ?_;refine Y8 Pq (x:=.sl true 2 2 (D3 [pI .u32 0,pI .u32 0] [(0,A0 w),(1,A0 z)])) ?_;obtain⟨a0,e12,h⟩:=B9 h;refine K7 Pq (FunO.le Z (args:=[.p (.sl true 2 2 (D3 [pI .u32 0,pI .u32 0] [(0,A0 w),(1,A0 z)]))]) (by exact⟨Qg rfl (fun i a=>match i,a with|0,_=>rfl|1,_=>rfl|_+2,a=>Pm a (by omega)),trivial⟩) (KR Z Y e12)) ?_;refine Y8 Q6 (x:=.sl true 2 2 (D3 [.v (.bool false),M8] [(0,C0 a0),(1,C0 y5)])) ?_;obtain⟨j,e13,h⟩:=B9 h;refine K7 Pq (FunO.le Z (args:=[.p (.sl true 2 2 (D3 [.v (.bool false),M8] [(0,C0 a0),(1,C0 y5)]))]) (by exact⟨Qg rfl (fun i a=>match i,a with|0,_=>rfl|1,_=>rfl|_+2,a=>Pm a (by omega)),trivial⟩) (Oz Z Y e13)) ?_;refine Y8 Pq (x:=.sl true 2 1 (D3 [.str [],M8] [(0,B2 j)])) ?_;refine H3 Pq ?_;refine Bz Z (And.intro (And.intro Rg Q6) Rp) ⟨[(42,.p (vSl 2 B2 (Sl.of [y9]:Sl Entry))),(41,.vec 42000),(39,.p (.agg (A7 y1))),(4,.p (vSl 2 B2 (Sl.of [j]:Sl Entry))),(3,.p (vSl 2 B2 (Sl.of [y9]:Sl Entry))),(2,.p (.ptr [.bb y5.Has,vSl 2 A0 y5.W])),(1,.p (.ptr (A7 y1)))],[(42000,.vec Ck 2 (Sl.of [y5]:Sl F0).n (fun i=>C0 ((Sl.of [y5]:Sl F0).g i)) false)]⟩ (ids:=[(42000,42000)]) ?_ (hle:=klR [(0,.fn 1 (Sl.of [y9]:Sl Entry).n (D3 [.str [],M8] [(0,B2 y9)]) (fun i=>B2 ((Sl.of [y9]:Sl Entry).g i))),(2,.fn 1 (Sl.of [j]:Sl Entry).n (D3 [.str [],M8] [(0,B2 j)]) (fun i=>B2 ((Sl.of [j]:Sl Entry).g i))),(3,.fn 1 (Sl.of [y9]:Sl Entry).n (D3 [.str [],M8] [(0,B2 y9)]) (fun i=>B2 ((Sl.of [y9]:Sl Entry).g i))),(6,.fn 1 (Sl.of [y5]:Sl F0).n (D3 [.v (.bool false),M8] [(0,C0 y5)]) (fun i=>C0 ((Sl.of [y5]:Sl F0).g i)))] (al1 ⟨rfl,(fun i a=>match i,a with|0,_=>rfl|_+1,a=>Pm a (by omega))⟩ (al1 ⟨rfl,(fun i a=>match i,a with|0,_=>rfl|_+1,a=>Pm a (by omega))⟩ (al1 ⟨rfl,(fun i a=>match i,a with|0,_=>rfl|_+1,a=>Pm a (by omega))⟩ (al1 ⟨rfl,(fun i a=>match i,a with|0,_=>rfl|_+1,a=>Pm a (by omega))⟩ al0)))));refine kC Z h (Bn Z Y) (fun d h=>?_);refine Bz Z (And.intro (And.intro Rg Q6) Rp) ⟨[(50,.p (vSl 2 B2 (Sl.of [j]:Sl Entry))),(49,.vec 50000),(47,.p (.agg (A7 y1))),(6,pN d.2),(5,.vec 44000),(4,.p (vSl 2 B2 (Sl.of [j]:Sl Entry))),(3,.p (vSl 2 B2 (Sl.of [y9]:Sl Entry))),(2,.p (.ptr [.bb y5.Has,vSl 2 A0 y5.W])),(1,.p (.ptr (A7 y1)))],[(50000,.vec Ck 2 (Sl.of [y5]:Sl F0).n (fun i=>C0 ((Sl.of [y5]:Sl F0).g i)) false),(44000,.vec B1 4 d.1.n (fun i=>A4 (d.1.g i)) false)]⟩ (ids:=[(44000,44000),(50000,50000)]) ?_ (hle:=klR [(7,.fn 1 (Sl.of [y5]:Sl F0).n (D3 [.v (.bool false),M8] [(0,C0 y5)]) (fun i=>C0 ((Sl.of [y5]:Sl F0).g i)))] (al1 ⟨rfl,(fun i a=>match i,a with|0,_=>rfl|_+1,a=>Pm a (by omega))⟩ al0));refine kC Z h (Bn Z Y) (fun l h=>?_);refine Bz Z (And.intro (And.intro Rg Q6) Rp) ⟨[(58,.p (vSl 2 B2 (Sl.of [j]:Sl Entry))),(57,.vec 58000),(55,.p (.agg (A7 y1))),(8,pN l.2),(7,.vec 52000),(6,pN d.2),(5,.vec 44000),(3,.p (vSl 2 B2 (Sl.of [y9]:Sl Entry))),(2,.p (.ptr [.bb y5.Has,vSl 2 A0 y5.W])),(1,.p (.ptr (A7 y1)))],[(58000,.vec Ck 2 (Sl.of [y5]:Sl F0).n (fun i=>C0 ((Sl.of [y5]:Sl F0).g i)) false),(52000,.vec B1 4 l.1.n (fun i=>A4 (l.1.g i)) false),(44000,.vec B1 4 d.1.n (fun i=>A4 (d.1.g i)) false)]⟩ (ids:=[(44000,44000),(52000,52000),(58000,58000)]) ?_ (hle:=klR [(7,.fn 1 (Sl.of [y5]:Sl F0).n (D3 [.v (.bool false),M8] [(0,C0 y5)]) (fun i=>C0 ((Sl.of [y5]:Sl F0).g i)))] (al1 ⟨rfl,(fun i a=>match i,a with|0,_=>rfl|_+1,a=>Pm a (by omega))⟩ al0));refine kC Z h (SR Z Y) (fun f h=>?_);refine G4 Z Pq 10 10000 [pI .i64 f.1.N,pI .i64 f.1.D] ?_;refine Bz Z (And.intro (And.intro Rg Q6) Rp) ⟨[(66,.p (vSl 2 B2 (Sl.of [y9]:Sl Entry))),(65,.vec 66000),(63,.p (.agg (A7 y1))),(10,pN f.2),(9,.p (.ptr [pI .i64 f.1.N,pI .i64 f.1.D])),(8,pN l.2),(7,.vec 52000),(6,pN d.2),(5,.vec 44000),(3,.p (vSl 2 B2 (Sl.of [y9]:Sl Entry))),(2,.p (.ptr [.bb y5.Has,vSl 2 A0 y5.W])),(1,.p (.ptr (A7 y1)))],[(66000,.vec Ck 2 (Sl.of [y5]:Sl F0).n (fun i=>C0 ((Sl.of [y5]:Sl F0).g i)) false),(52000,.vec B1 4 l.1.n (fun i=>A4 (l.1.g i)) false),(44000,.vec B1 4 d.1.n (fun i=>A4 (d.1.g i)) false)]⟩ (ids:=[(44000,44000),(52000,52000),(66000,66000)]) ?_ (hle:=klR [(9,.fn 1 (Sl.of [y5]:Sl F0).n (D3 [.v (.bool false),M8] [(0,C0 y5)]) (fun i=>C0 ((Sl.of [y5]:Sl F0).g i)))] (al1 ⟨rfl,(fun i a=>match i,a with|0,_=>rfl|_+1,a=>Pm a (by omega))⟩ al0));refine kC Z h (PC Z Y) (fun o h=>?_);refine E3 Z Pq [0,2,3,4,5,8,9,10,11,14] ?_;obtain⟨c1,h⟩:=D6 h;obtain⟨q,e18,h⟩:=B9 h;refine K7 (And.intro (And.intro Rg c1) Q6) (Yb Z Y e18) ?_;obtain⟨r,e19,h⟩:=B9 h;refine K7 Pq (IH Z Y e19) ?_;refine Y8 Pq (x:=.sl true 2 2 (D3 [pI .u32 0,pI .u32 0] [(0,A0 q),(1,A0 r)])) ?_;obtain⟨s,e20,h⟩:=B9 h;refine K7 Pq (IH Z Y e20) ?_;obtain⟨t,e21,h⟩:=B9 h;refine K7 Pq (Au3 Z Y e21) ?_;obtain⟨u,e22,h⟩:=B9 h;refine K7 Pq (IH Z Y e22) ?_;refine Y8 Pq (x:=.sl true 2 3 (D3 [pI .u32 0,pI .u32 0] [(0,A0 s),(1,A0 t),(2,A0 u)])) ?_;refine Y8 Pq (x:=.sl true 1 3 (D3 [M8] [(0,[.sl true 2 2 (D3 [pI .u32 0,pI .u32 0] [(0,A0 q),(1,A0 r)])]),(1,[vSl 2 A0 y5.W]),(2,[.sl true 2 3 (D3 [pI .u32 0,pI .u32 0] [(0,A0 s),(1,A0 t),(2,A0 u)])])])) ?_;obtain⟨m,e23,h⟩:=B9 h;refine K7 Pq (FunO.le Z (args:=[(.p (.agg (A7 y1))),.p (.agg (B2 ((Sl.of [y9]:Sl Entry).g 0))),.p (.sl true 1 3 (D3 [M8] [(0,[.sl true 2 2 (D3 [pI .u32 0,pI .u32 0] [(0,A0 q),(1,A0 r)])]),(1,[vSl 2 A0 y5.W]),(2,[.sl true 2 3 (D3 [pI .u32 0,pI .u32 0] [(0,A0 s),(1,A0 t),(2,A0 u)])])]))]) (by exact⟨.inl rfl,⟨.inl rfl,⟨Bd3 rfl (fun i a=>match i,a with|0,_=>leC1 rfl (fun i a=>match i,a with|0,_=>rfl|1,_=>rfl|_+2,a=>Pm a (by omega))|1,_=>leC1 rfl (fun _ _=>rfl)|2,_=>leC1 rfl (fun i a=>match i,a with|0,_=>rfl|1,_=>rfl|2,_=>rfl|_+3,a=>Pm a (by omega))|_+3,a=>Pm a (by omega)),trivial⟩⟩⟩) (SS Z Y e23)) ?_;refine H3 Pq ?_;refine EC Z Pq (A5 Z) h 0 (fun z1=>⟨[(0,pB z1)],[]⟩) (fun M1 k1 c h=>?_) (fun z1 h=>?_)
 .refine kG Z h (fun h=>?_) (fun h=>?_)
  .refine kG Z h (fun h=>?_) (fun h=>?_)
   .refine kG Z h (fun h=>?_) (fun h=>?_)
    .refine kG Z h (fun h=>?_) (fun h=>?_)
     .refine kG Z h (fun h=>?_) (fun h=>?_)
      .refine kG Z h (fun h=>?_) (fun h=>?_)
       .refine Bz Z Rp ⟨[(115,.vec 116000),(113,.vec 52000),(112,.p (.v (.bool true))),(14,pN m.2.1),(13,pN m.1),(11,.vec 68000),(9,.p (.ptr [pI .i64 f.1.N,pI .i64 f.1.D]))],[(116000,.vec B1 4 (Sl.of [(⟨0,0,1,5⟩:A1)]:Sl A1).n (fun i=>A4 ((Sl.of [(⟨0,0,1,5⟩:A1)]:Sl A1).g i)) false),(68000,.vec C7 1 o.1.n (fun i=>cI .i64 (o.1.g i)) true),(52000,.vec B1 4 l.1.n (fun i=>A4 (l.1.g i)) false)]⟩ (ids:=[(52000,52000),(68000,68000),(116000,116000)]) ?_ (hle:=klR [(4,.fn 1 (Sl.of [(⟨0,0,1,5⟩:A1)]:Sl A1).n (D3 [pI .i64 0,pI .i64 0,pI .i64 0,pI .i64 0] [(0,A4 (⟨0,0,1,5⟩:A1))]) (fun i=>A4 ((Sl.of [(⟨0,0,1,5⟩:A1)]:Sl A1).g i)))] (al1 ⟨rfl,(fun i a=>match i,a with|0,_=>rfl|_+1,a=>Pm a (by omega))⟩ al0));refine kC Z h (Ai9 Z Y) (fun a1 h=>?_);refine kG Z h (fun h=>?_) (fun h=>?_)
        .refine Ek Z (And.intro Q6 (by decide +kernel:Ad0 Tryz.prog Ai5=true)) (b:=((f.1.N==1)&&(f.1.D==2)) != false) (fun c25=>?_) (fun c25=>?_)
         .replace h:=itT c25 h;refine Bz Z Rp ⟨[(125,.vec 126000),(124,.vec 68000),(123,.p (.v (.bool true))),(14,pN m.2.1),(13,pN m.1)],[(126000,.vec C7 1 (Sl.of [1,1]:Sl Int).n (fun i=>cI .i64 ((Sl.of [1,1]:Sl Int).g i)) false),(68000,.vec C7 1 o.1.n (fun i=>cI .i64 (o.1.g i)) true)]⟩ (ids:=[(68000,68000),(126000,126000)]) ?_ (hle:=klR [(3,.fn 2 (Sl.of [1,1]:Sl Int).n (D3 [pI .i64 0] [(0,cI .i64 1),(1,cI .i64 1)]) (fun i=>cI .i64 ((Sl.of [1,1]:Sl Int).g i)))] (al1 ⟨rfl,(fun i a=>match i,a with|0,_=>rfl|1,_=>rfl|_+2,a=>Pm a (by omega))⟩ al0));refine kC Z h (Fo Z Y) (fun a2 h=>?_);refine kG Z h (fun h=>?_) (fun h=>?_)
          .refine kG Z h (fun h=>?_) (fun h=>?_)
           .exact c _ [] _ (m.2.1==2) Pq h
           exact c _ [] _ false Pq h
          exact c _ [] _ false Pq h
         replace h:=itF c25 h;exact c _ [] _ false Pq h
        exact c _ [] _ false Pq h
       exact c _ [] _ false Pq h
      exact c _ [] _ false Pq h
     exact c _ [] _ false Pq h
    exact c _ [] _ false Pq h
   exact c _ [] _ false Pq h
  exact c _ [] _ false Pq h
 cases h;exact kR Z
end Go.AM
namespace Go.AM
open Go.Proofs.Tryz
variable {N:Nat}
open IntKind (wrap)
open Go.Proofs
set_option maxRecDepth 10000
set_option maxHeartbeats 2000000
variable {S:U3}(Z:H2 S Tryz.prog) (Y:Ij S)
abbrev V5 (a b:J5):Bool:=((a.entry==b.entry)&&(a.leaf==b.leaf))
abbrev AX3 (es:List (J5×Bool)):Obj:=.map (Ju (fun x=>.agg (AA x)) PV.bb es)
abbrev Bb7 (es:List (J5×Bool)):List Obj:=[.cells [.mref 1],AX3 es]
include Z Y
def J2 (N:Nat)(x:A1)(es:List (J5×Bool)):Option Bool:= AN3 (X1 V5 (⟨x.Entry,x.Leaf⟩:J5) es) (some true) fun v=>some (!v)
theorem II {x:A1}{es:List (J5×Bool)}{y:Bool}(h:J2 N x es=some y) :FunO S Q1 [.p (.agg (A4 x)),.reg 0 0] (Bb7 es) (pB y) (Bb7 es) [true,true]:=by
 unfold J2 at h;refine A3 Z func64 ?_;rcases o1:X1 V5 (⟨x.Entry,x.Leaf⟩:J5) es with _|v1
 .replace h:=Bl5 o1 h;refine Hr Z Pq (kt:=W5) (e:=ZC) (key:=(fun x=>.agg (AA x)) (⟨x.Entry,x.Leaf⟩:J5)) (es:=Ju (fun x=>.agg (AA x)) PV.bb es) (x:=.v (.bool false)) (b:=false) (fd:=none) ((BI (kP:=fun x=>.agg (AA x)) (vP:=PV.bb) (eq:=V5) (fun _ _=>by kernel_rfl) (⟨x.Entry,x.Leaf⟩:J5) es).trans (by rw[o1];rfl)) (by decide +kernel:Ad0 Tryz.prog W5=true) ?_;obtain rfl:=C4 h;exact A9 Z Pq ⟨[(3,pB true)],[(1,AX3 es),(0,.cells [.mref 1])]⟩ [0,1] (ids:=[(0,0),(1,1)]) ⟨rfl,rfl,rfl⟩
 replace h:=Bl6 o1 h;refine Hr Z Pq (kt:=W5) (e:=ZC) (key:=(fun x=>.agg (AA x)) (⟨x.Entry,x.Leaf⟩:J5)) (es:=Ju (fun x=>.agg (AA x)) PV.bb es) (x:=PV.bb v1) (b:=true) (fd:=some (PV.bb v1)) ((BI (kP:=fun x=>.agg (AA x)) (vP:=PV.bb) (eq:=V5) (fun _ _=>by kernel_rfl) (⟨x.Entry,x.Leaf⟩:J5) es).trans (by rw[o1];rfl)) (by decide +kernel:Ad0 Tryz.prog W5=true) ?_;obtain rfl:=C4 h;exact A9 Z Pq ⟨[(3,pB (!v1))],[(1,AX3 es),(0,.cells [.mref 1])]⟩ [0,1] (ids:=[(0,0),(1,1)]) ⟨rfl,rfl,rfl⟩
def C9 (N:Nat)(a:Sl A1)(c:A1->Option Bool):Option Int:= Q7 N (fun b (x1:Int)=>if (decide (x1<(a.n:Int))) then if ((0:Int)<=x1/\x1<(a.n:Int))then (c (a.g x1.toNat)).bind fun y3=>if y3 then some x1 else b (wrap .i64 (x1+1)) else none else some (-1)) 0
theorem ST {a:Sl A1}{es:List (J5×Bool)}{y:Int}(h:C9 N a (fun x=>J2 N x es)=some y) :FunO S I1 [.p (vSl 4 A4 a),.clo Q1 [] [.reg 0 0]] (Bb7 es) (pN y) (Bb7 es) [true,true]:=by
 unfold C9 at h;refine A3 Z func95 ?_;refine H0 Z Pq h (fun x1=>⟨[(8,pN x1),(7,pN (a.n:Int)),(1,.clo Q1 [] [.reg 0 0]),(0,.p (vSl 4 A4 a))],[(1,AX3 es),(0,.cells [.mref 1])]⟩) (ids:=[(0,0),(1,1)]) (fun _ _ _ _ _ b x1 c h=>?_);apply kI Z h<;>intro h
 .obtain⟨c8,h⟩:=D6 h;obtain⟨y3,e3,h⟩:=B9 h;refine C6 Z [0,1] (And.intro c8 Rh) (II Z Y e3) ?_;apply kI Z h<;>intro h
  .obtain rfl:=C4 h;exact A9 Z Pq ⟨[(4,pN x1)],[(1,AX3 es),(0,.cells [.mref 1])]⟩ [0,1] (ids:=[(0,0),(1,1)]) ⟨rfl,rfl,rfl⟩
  exact c _ [(0,0),(1,1)] _ (wrap .i64 (x1+1)) Pq h
 obtain rfl:=C4 h;exact A9 Z Pq ⟨[(4,pN (-1))],[(1,AX3 es),(0,.cells [.mref 1])]⟩ [0,1] (ids:=[(0,0),(1,1)]) ⟨rfl,rfl,rfl⟩
def W2 (N:Nat)(a:Sl A1)(es:List (J5×Bool)):Option Bool:= (C9 N a (fun x=>J2 N x es)).bind fun y1=>some (decide (0<=y1))
theorem Md {a:Sl A1}{es:List (J5×Bool)}{y:Bool}(h:W2 N a es=some y) :FunO S H4 [.p (vSl 4 A4 a),.clo Q1 [] [.reg 0 0]] (Bb7 es) (pB y) (Bb7 es) [true,true]:=by unfold W2 at h;refine A3 Z func63 ?_;obtain⟨y1,e1,h⟩:=B9 h;refine C6 Z [0,1] Pq (ST Z Y e1) ?_;obtain rfl:=C4 h;exact A9 Z Pq ⟨[(4,pB (decide (0<=y1)))],[(1,AX3 es),(0,.cells [.mref 1])]⟩ [0,1] (ids:=[(0,0),(1,1)]) ⟨rfl,rfl,rfl⟩
end Go.AM
namespace Go.AM
open IntKind (wrap)
open Go.Proofs
set_option maxRecDepth 10000
set_option maxHeartbeats 2000000
variable {S:U3}(Z:H2 S Tryz.prog) (Y:Ij S)
include Z Y
def G7 (N:Nat)(d:A6)(b:Sl F0)(f:Sl Entry)(a:Sl A1):Option (Bool×Int):= (I2 N d b f 0).bind fun y1=>if (y1.2 != 0) then some (false,y1.2) else (J9 N d.Tree).bind fun y2=>S0 N (fun c (x1:List (J5×Bool)) (x2:Int)=>if (decide (x2<(a.n:Int))) then if ((0:Int)<=x2/\x2<(a.n:Int))then if ((((decide ((a.g x2.toNat).Entry<0))||(decide ((f.n:Int)<=(a.g x2.toNat).Entry)))||(decide ((a.g x2.toNat).Leaf<0)))||(decide ((y2.1.n:Int)<=(a.g x2.toNat).Leaf))) then some (false,3) else c (HF V5 (⟨(a.g x2.toNat).Entry,(a.g x2.toNat).Leaf⟩:J5) true x1) (wrap .i64 (x2+1)) else none else (W2 N y1.1 x1).bind fun y3=>some (!y3,0)) [] 0
theorem Af {N:Nat}{f:A6}{c:Sl F0}{d:Sl Entry}{b:Sl A1}{y:Bool×Int}(h:G7 N f c d b=some y) :FunO S Fa [.p (.agg (A7 f)),.p (vSl 2 C0 c),.p (vSl 2 B2 d),.p (vSl 4 A4 b)] [] (.tup [pB y.1,pN y.2]) ([]) []:=by
 unfold G7 at h;refine A3 Z Tryz.func33 ?_;refine kC Z h (Bn Z Y) (fun y1 h=>?_);apply kI Z h<;>intro h
 .cases h;exact kR Z
 refine kC Z h (Aj Z Y) (fun y2 h=>?_);refine G9 Z Pq h (fun x1 x2=>⟨[(36,pN x2),(35,pN (b.n:Int)),(34,.p (vSl 4 A4 b)),(14,.reg 15000 0),(12,.vec 31000),(10,.vec 22000),(2,.p (vSl 2 B2 d))],[(34000,.map (Ju (fun x=>.agg (AA x)) PV.bb x1)),(31000,.vec C7 1 y2.1.n (fun i=>cI .i64 (y2.1.g i)) true),(22000,.vec B1 4 y1.1.n (fun i=>A4 (y1.1.g i)) false),(15000,.cells [.mref 34000])]⟩) (ids:=[(15000,15000),(22000,22000),(31000,31000),(34000,34000)]) (fun _ _ _ _ _ j x1 x2 l h=>?_);apply kI Z h<;>intro h
 .obtain⟨c9,h⟩:=D6 h;refine kB Z (A5 Z) (And.intro c9 Rh) Pq 18 (.o (.o (.o (.a (decide ((b.g x2.toNat).Entry<0))) (.a (decide ((d.n:Int)<=(b.g x2.toNat).Entry)))) (.a (decide ((b.g x2.toNat).Leaf<0)))) (.a (decide ((y2.1.n:Int)<=(b.g x2.toNat).Leaf)))) ?_;apply kI Z h<;>intro h
  .cases h;exact kR Z
  refine Ml Z Pq (kt:=W5) (key:=(fun x=>.agg (AA x)) (⟨(b.g x2.toNat).Entry,(b.g x2.toNat).Leaf⟩:J5)) (y:=PV.bb true) (es:=Ju (fun x=>.agg (AA x)) PV.bb x1) (Hq (kP:=fun x=>.agg (AA x)) (vP:=PV.bb) (eq:=V5) (fun _ _=>by kernel_rfl) (⟨(b.g x2.toNat).Entry,(b.g x2.toNat).Leaf⟩:J5) true x1) (by decide +kernel:Ad0 Tryz.prog W5=true) ?_;exact l _ [(15000,15000),(22000,22000),(31000,31000),(34000,34000)] _ (HF V5 (⟨(b.g x2.toNat).Entry,(b.g x2.toNat).Leaf⟩:J5) true x1) (wrap .i64 (x2+1)) Pq h
 obtain⟨y3,e3,h⟩:=B9 h;refine C6 Z [15000,34000] Pq (Md Z Y e3) ?_;cases h;exact kR Z
end Go.AM
namespace Go.AM
open Go.Proofs
set_option maxRecDepth 10000
set_option maxHeartbeats 2000000
variable {S:U3}(Z:H2 S Tryz.prog) (Y:Ij S)
include Z Y
end Go.AM
namespace Go.AM
open Go.Proofs
set_option maxRecDepth 100000
def PZ:P9 4194304=some true:=by decide +kernel
end Go.AM
namespace Go.AM
open IntKind (wrap)
open Go.Proofs
def AI3 {A R:Type}{body:(A->Option R)->A->Option R}(I:Nat->A->Prop)(n:Nat)(K6:R->Prop)
 (b:∀self i a,i<=n->I i a->(i<n->∀a',I (i+1) a' -> ∃r,self a' = some r/\K6 r)->∃r,body self a=some r/\K6 r) :
 ∀(N i:Nat) (a:A),i<=n->I i a->n-i<N->∃r,Q7 N body a=some r/\K6 r
 |0,_,_,_,_,h=>by omega
 |N+1,i,a,hi,hI,h=>by rw[T9];exact b _ i a hi hI fun c a' d=>AI3 I n K6 b N (i+1) a' c d (by omega)
def X5 {A R:Type}{body:(A->Option R)->A->Option R}(I:Nat->A->Prop)(n:Nat)(K6:R->Prop){N:Nat}(c:n<N){a:A}(d:I 0 a)
 (b:∀self i a,i<=n->I i a->(i<n->∀a',I (i+1) a' -> ∃r,self a' = some r/\K6 r)->∃r,body self a=some r/\K6 r):∃r,Q7 N body a=some r/\K6 r:=
 AI3 I n K6 b N 0 a (Bu8 _) d c
def Q0 {A B R:Type}{body:(A->B->Option R)->A->B->Option R}(I:Nat->A->B->Prop)(n:Nat)(K6:R->Prop){N:Nat}(g:n<N){a:A}{b:B}(j:I 0 a b)
 (d:∀c i a b,i<=n->I i a b->(i<n->∀a' b',I (i+1) a' b' -> ∃r,c a' b' = some r/\K6 r)->∃r,body c a b=some r/\K6 r):∃r,S0 N body a b=some r/\K6 r:=
 AI3 (fun i x=>I i x.1 x.2) n K6 (fun c i x l m h=>d (fun a b=>c (a,b)) i x.1 x.2 l m fun hl a' b' f=>h hl (a',b') f) N 0 (a,b) (Bu8 _) j g
def TP {A B C R:Type}{body:(A->B->C->Option R)->A->B->C->Option R}(I:Nat->A->B->C->Prop)(n:Nat)(K6:R->Prop){N:Nat}(j:n<N){a:A}{b:B}{c:C}(l:I 0 a b c)
 (f:∀d i a b c,i<=n->I i a b c->(i<n->∀a' b' c',I (i+1) a' b' c' -> ∃r,d a' b' c' = some r/\K6 r)->∃r,body d a b c=some r/\K6 r):∃r,Am8 N body a b c=some r/\K6 r:=
 AI3 (fun i x=>I i x.1 x.2.1 x.2.2) n K6 (fun d i x m o h=>f (fun a b c=>d (a,b,c)) i x.1 x.2.1 x.2.2 m o fun hl a' b' c' g=>h hl (a',b',c') g) N 0 (a,b,c) (Bu8 _) l j
def B3 {X R:Type}{Q:R->Prop}{o:Option X}{f:X->Option R}{x:X}(h:o=some x)(a:∃r,f x=some r/\Q r):∃r,o.bind f=some r/\Q r:=by subst h;exact a
def ltX {R A:Type}{Q:R->Prop}{k:A->Option R}{f:(A->Option R)->Option R}(h:∃r,f k=some r/\Q r):∃r,lt k f=some r/\Q r:=h
def ifT {R:Type}{Q:R->Prop}{p:Prop}[Decidable p]{a b:Option R}(h:p)(c:∃r,a=some r/\Q r):∃r,(if p then a else b)=some r/\Q r:=by rw[Pk h];exact c
def Ge{R:Type}{Q:R->Prop}{p:Prop}[Decidable p]{a b:Option R}(h2:∃ r,a=some r/\Q r)(h:p:=by decide):∃ r,(if p then a else b)=some r/\Q r:=ifT h h2
def Gc{R:Type}{Q:R->Prop}{p:Prop}[Decidable p]{a b:Option R}(h2:∃ r,a=some r/\Q r)(h:p:=by simp):∃ r,(if p then a else b)=some r/\Q r:=ifT h h2
def An{R:Type}{Q:R->Prop}{p:Prop}[Decidable p]{a b:Option R}(h2:∃ r,a=some r/\Q r)(h:p:=by simp;omega):∃ r,(if p then a else b)=some r/\Q r:=ifT h h2
def Am{R:Type}{Q:R->Prop}{p:Prop}[Decidable p]{a b:Option R}(h2:∃ r,a=some r/\Q r)(h:p:=by omega):∃ r,(if p then a else b)=some r/\Q r:=ifT h h2
def ifF {R:Type}{Q:R->Prop}{p:Prop}[Decidable p]{a b:Option R}(h:¬p)(c:∃r,b=some r/\Q r):∃r,(if p then a else b)=some r/\Q r:=by rw[Pl h];exact c
def P6{R:Type}{Q:R->Prop}{p:Prop}[Decidable p]{a b:Option R}(h2:∃ r,b=some r/\Q r)(h:¬p:=by decide):∃ r,(if p then a else b)=some r/\Q r:=ifF h h2
def Oj{R:Type}{Q:R->Prop}{p:Prop}[Decidable p]{a b:Option R}(h2:∃ r,b=some r/\Q r)(h:¬p:=by simp):∃ r,(if p then a else b)=some r/\Q r:=ifF h h2
def Oi{R:Type}{Q:R->Prop}{p:Prop}[Decidable p]{a b:Option R}(h2:∃ r,b=some r/\Q r)(h:¬p:=by simp;omega):∃ r,(if p then a else b)=some r/\Q r:=ifF h h2
def Oh{R:Type}{Q:R->Prop}{p:Prop}[Decidable p]{a b:Option R}(h2:∃ r,b=some r/\Q r)(h:¬p:=by omega):∃ r,(if p then a else b)=some r/\Q r:=ifF h h2
def F1 {n:Int}(h : -9223372036854775808<=n)(h' : n<=9223372036854775807):IntKind.i64.wrap n=n:=by
 by_cases a:0<=n
 .have h1:n % (2 ^ 64:Int)=n:=Bx6 a (by omega);unfold wrap;simp only[IntKind.bits,IntKind.signed,h1];rw[Pl];simp;omega
 have h1:n % (2 ^ 64:Int)=n+2 ^ 64:=by rw[<- Int.add_emod_right];exact Bx6 (by omega) (by omega)
 unfold wrap;simp only[IntKind.bits,IntKind.signed,h1];rw[Pk]
 .omega
 simp;omega
def C5 {i:Nat}(h:i<1000000000000000000):IntKind.i64.wrap ((i:Int)+1)=((i+1:Nat):Int):=by rw[F1 (by omega) (by omega)];rfl
def Pd{i:Nat}(h:i<1000000000000000000:=by omega):IntKind.i64.wrap ((i:Int)+1)=((i+1:Nat):Int):=C5 h
def wrapP {i:Nat}(a:1<=i)(h:i<1000000000000000000):IntKind.i64.wrap ((i:Int)-1)=((i-1:Nat):Int):=by rw[F1 (by omega) (by omega)];omega
def DQ {i j:Nat}(h:i+j<1000000000000000000):IntKind.i64.wrap ((i:Int)+(j:Int))=((i+j:Nat):Int):=by rw[F1 (by omega) (by omega)];rfl
def ZG {N n:Nat}(hn:n<=32)(f:1000<=N):∃s,CZ N (n:Int)=some s/\s.n=n+1/\TabR n (fun a b=>a=b) s.g:=by
 unfold CZ;rw[Pd];refine Am ?_;refine Q0 (fun i x1 x2=>x2=(i:Int)/\x1.n=n+1/\∀a,a<i->x1.g a=U (1#64 <<< a)) (n+1) _ (by omega) ⟨rfl,by show ((n+1:Nat):Int).toNat=n+1;omega,fun a ha=>Pm ha (by omega)⟩ ?_;rintro c i x1 x2 j ⟨rfl,h1,d⟩ hs;by_cases hl:i<=n
 .refine An (ifT ⟨⟨by omega,by omega,by omega⟩,by omega⟩ (hs (by omega) _ _ ⟨Pd,h1,fun a ha=>?_⟩));show (if a=(i:Int).toNat then shI .shl .u64 1 (i:Int)else x1.g a)=_;by_cases e:a=i
  .subst e;rw[Pe,Vg _ (by omega)]
  rw[Pg];exact d a (by omega)
 refine Oi ⟨x1,rfl,h1,fun a ha=>⟨1#64 <<< a,d a (by omega),fun b hb=>?_⟩⟩;rw[GP (by omega) hb,Pp];omega
def AI4 {n:Nat}{f:Nat->Int}(h:∀a,a<=n->f a=0):TabR n (fun _ _=>False) f:=fun a ha=>⟨0#64,h a ha,fun b hb=>by simp⟩
def ZH {N n:Nat}{R S:Nat->Nat->Prop}{x y:Sl Int}(hn:n<=32)(f:1000<=N)(hx:x.n=n+1)(hy:y.n=n+1)(hR:TabR n R x.g)(Z:TabR n S y.g) :∃s,Da N x y=some s/\s.n=n+1/\TabR n (fun a b=>R a b \/ S a b) s.g:=by
 unfold Da;refine Am ?_;refine Q0 (fun i x1 x2=>x2=(i:Int)/\x1.n=n+1/\∀a,a<i->x1.g a=F4 .or .u64 (x.g a) (y.g a)) (n+1) _ (by omega) ⟨rfl,by show (x.n:Int).toNat=n+1;omega,fun a ha=>Pm ha (by omega)⟩ ?_;rintro d i x1 x2 j ⟨rfl,h1,c⟩ hs;by_cases hl:i<=n
 .refine An (Am (hs (by omega) _ _ ⟨Pd,h1,fun a ha=>?_⟩));show (if a=(i:Int).toNat then _ else x1.g a)=_;by_cases e:a=i
  .subst e;rw[Pe,Bm2]
  rw[Pg];exact c a (by omega)
 refine Oi ⟨x1,rfl,h1,fun a ha=>?_⟩;obtain⟨u,e1,g1⟩:=hR a ha;obtain⟨v,e2,g2⟩:=Z a ha;refine⟨u ||| v,by rw[c a (by omega),e1,e2,Bl8],fun b hb=>?_⟩;rw[Bo1,Bp2,g1 b hb,g2 b hb];constructor
 .rintro (⟨h1,c⟩ | ⟨h1,c⟩)
  .exact⟨h1,.inl c⟩
  exact⟨h1,.inr c⟩
 rintro⟨h1,c|c⟩
 .exact .inl ⟨h1,c⟩
 exact .inr ⟨h1,c⟩
def Au4 {N n:Nat}{x y:Sl Int}(hn:n<=32)(f:1000<=N)(hx:x.n=n+1)(hy:y.n=n+1) :∃b,Dk N x y=some b/\(b=true ↔ ∀a,a<=n->x.g a=y.g a):=by
 unfold Dk;refine X5 (fun i x1=>x1=(i:Int)/\∀a,a<i->x.g a=y.g a) (n+1) _ (by omega) ⟨rfl,fun a ha=>Pm ha (by omega)⟩ ?_;rintro c i x1 j ⟨rfl,d⟩ hs;by_cases hl:i<=n
 .refine An (Am ?_);rw[Bm2];by_cases e:x.g i=y.g i
  .refine ifF (by simp[e]) (hs (by omega) _ ⟨Pd,fun a ha=>?_⟩);by_cases h:a=i
   .subst h;exact e
   exact d a (by omega)
  refine ifT (by simp[e]) ⟨false,rfl,by simp;exact⟨i,hl,e⟩⟩
 exact Oi ⟨true,rfl,by simp;exact fun a ha=>d a (by omega)⟩
def QS {N n:Nat}{R S:Nat->Nat->Prop}{x y:Sl Int}(hn:n<=32)(w:1000<=N)(hx:x.n=n+1)(hy:y.n=n+1)(hR:TabR n R x.g)(Z:TabR n S y.g) :∃s,Y2 N x y=some s/\s.n=n+1/\TabR n (fun a b=>∃c,c<=n/\R a c/\S c b) s.g:=by
 unfold Y2;refine Am ?_
 let Row (z:BitVec 64) (a j:Nat):Prop:=∀b,b<64->(z.getLsbD b=true↔b<=n/\∃c,c<j/\c<=n/\R a c/\S c b)
 refine Q0 (fun i x1 x2=>x2=(i:Int)/\x1.n=n+1/\(∀a,a<i->∃z,x1.g a=U z/\Row z a (n+1))/\∀a,i<=a->x1.g a=0) (n+1) _ (by omega) ⟨rfl,by show (x.n:Int).toNat=n+1;omega,fun a ha=>Pm ha (by omega),fun a _=>rfl⟩ ?_;rintro q i x1 x2 hi ⟨rfl,h1,r,t⟩ hs;by_cases hl:i<=n
 .refine An ?_;refine Q0 (fun j x7 x8=>x8=(j:Int)/\x7.n=n+1/\(∀a,a<i->∃z,x7.g a=U z/\Row z a (n+1))/\(∃z,x7.g i=U z/\Row z i j)/\∀a,i<a->x7.g a=0) (n+1) _ (by omega)
   ⟨rfl,h1,r,⟨0#64,t i (Bm9 _),fun b hb=>by simp⟩,fun a ha=>t a (by omega)⟩ ?_
  rintro m j x7 x8 hj ⟨rfl,g1,g2,⟨z,g3,g4⟩,g5⟩ l;by_cases f:j<=n
  .refine An (Am ?_);rw[Bm2,Bm2];have d:=hR.bit hl (b:=j) (by omega);by_cases hc:R i j
   .refine ifT (d.2 ⟨f,hc⟩) (Am (l (by omega) _ _ ⟨Pd,g1,fun a ha=>?_,?_,fun a ha=>?_⟩))
    .obtain⟨z',e,o⟩:=g2 a ha;exact⟨z',by show (if a=i then _ else x7.g a)=_;rw[Pg];exact e,o⟩
    .obtain⟨v,e,u⟩:=Z j f;refine⟨z ||| v,by show (if i=i then _ else _)=_;rw[Pk rfl,g3,e,Bl8],fun b hb=>?_⟩;rw[Bo1,Bp2,g4 b hb,u b hb];constructor
     .rintro (⟨k1,c,k2,k3⟩ | ⟨k1,k2⟩)
      .exact⟨k1,c,by omega,k3⟩
      exact⟨k1,j,by omega,f,hc,k2⟩
     rintro⟨k1,c,k2,k3,k4,k5⟩;by_cases e:c=j
     .subst e;exact .inr ⟨k1,k5⟩
     exact .inl ⟨k1,c,by omega,k3,k4,k5⟩
    show (if a=i then _ else x7.g a)=_;rw[Pg];exact g5 a ha
   refine ifF (fun h=>hc (d.1 h).2) (l (by omega) _ _ ⟨Pd,g1,g2,⟨z,g3,fun b hb=>?_⟩,g5⟩);rw[g4 b hb];constructor
   .rintro⟨k1,c,k2,k3⟩;exact⟨k1,c,by omega,k3⟩
   rintro⟨k1,c,k2,k3,k4,k5⟩;by_cases e:c=j
   .subst e;exact Pm k4 hc
   exact⟨k1,c,by omega,k3,k4,k5⟩
  refine Oi (hs (by omega) _ _ ⟨Pd,g1,fun a ha=>?_,fun a ha=>g5 a (by omega)⟩);by_cases e:a=i
  .subst e;obtain rfl:j=n+1:=by omega
   exact⟨z,g3,g4⟩
  exact g2 a (by omega)
 refine Oi ⟨x1,rfl,h1,fun a ha=>?_⟩;obtain⟨z,e,o⟩:=r a (by omega);refine⟨z,e,fun b hb=>(o b hb).trans ⟨fun⟨k1,c,_,k3⟩=>⟨k1,c,k3⟩,fun⟨k1,c,k3⟩=>⟨k1,c,by omega,k3⟩⟩⟩
end Go.AM
namespace Go.AM
open Go.Proofs
def okP:Nat->Pat->Prop
 |0,_=>False
 |d+1,p=>p.L.n<=40/\(p.Kind=5->p.L.n=1/\0<=p.Min/\p.Min<=32/\(p.Max = -1 \/ (p.Min<=p.Max/\p.Max<=32)))/\∀i,i<p.L.n->okP d (p.L.g i)
def Me (w:Sl Sm)(p:Pat)(a b:Nat):PR w p a b↔(if p.Kind=0 then a=b
 else if p.Kind=1 then a<w.n/\b=a+1/\(XO (w.g a) p.Is != p.Not)=true
 else if p.Kind=2 then a=0/\b=0
 else if p.Kind=6 then a=w.n/\b=w.n
 else if p.Kind=3 then Ai6 w.n (fun i=>PR w (p.L.g i)) p.L.n a b
 else if p.Kind=4 then ∃i,i<p.L.n/\PR w (p.L.g i) a b
 else if p.Kind=5 then ∃k:Nat,p.Min<=k/\(p.Max = -1 \/ (k:Int)<=p.Max)/\Id w.n (PR w (p.L.g 0)) k a b
 else False):=by
 cases p with
 |nil=>simp[PR,Pat.Kind]
 |mk kind is no mn mx m g=>exact Bw2
def R0 (w:Sl Sm)(p:Pat)(a b:Nat):Prop:=if p.Kind=0 then a=b else if p.Kind=1 then a<w.n/\b=a+1/\(XO (w.g a) p.Is != p.Not)=true else if p.Kind=2 then a=0/\b=0 else if p.Kind=6 then a=w.n/\b=w.n else False
def AO2 {n:Nat}{R:Nat->Nat->Prop}(hR:Fwd n R){mn k:Nat}(hk:mn<k)(h:∀a b,a<=n->b<=n->Id n R k a b->∃j,mn<=j/\j<k/\Id n R j a b){a:Nat}(ha:a<=n) :∀m b,mn<=m->Id n R m a b->∃j,mn<=j/\j<k/\Id n R j a b
 |0,b,hm,hp=>⟨0,hm,by omega,hp⟩
 |m+1,b,hm,hp=>by
  by_cases d:m+1<k
  .exact⟨m+1,hm,d,hp⟩
  obtain⟨c,hc,h1,f⟩:=hp;have hb:=(hR c b hc f).2;obtain⟨j,g1,g2,g3⟩:=AO2 hR hk h ha m c (by omega) h1;by_cases e:j+1<k
  .exact⟨j+1,by omega,e,c,hc,g3,f⟩
  obtain rfl:k=j+1:=by omega
  exact h a b ha hb ⟨c,hc,g3,f⟩
def OA {N:Nat}(hN:1000<=N){w:Sl Sm}(hw:w.n<=32):∀(d:Nat) (p:Pat),okP d p->∀M,N+d<=M->∃t,BY M p w=some t/\t.n=w.n+1/\TabR w.n (PR w p) t.g
 |0,p,h,M,hM=>h.elim
 |d+1,p,⟨hc,h5,hch⟩,0,hM=>by omega
 |d+1,p,⟨hc,h5,hch⟩,M+1,hM=>by
  have ih:=fun i hi=>OA hN hw d (p.L.g i) (hch i hi) M (by omega);show ∃t,Bu (BY M) M p w=some t/\_;unfold Bu;rw[Pd];refine Am ?_;refine Q0 (fun i x1 x2=>x2=(i:Int)/\x1.n=w.n+1/\(∀a,a<i->∃z:BitVec 64,x1.g a=U z/\∀b,b<64->(z.getLsbD b=true↔b<=w.n/\R0 w p a b))/\∀a,i<=a->x1.g a=0) (w.n+1) _ (by omega)
   ⟨rfl,by show ((w.n+1:Nat):Int).toNat=w.n+1;omega,fun a ha=>Pm ha (by omega),fun _ _=>rfl⟩ ?_
  rintro self i x1 x2 hi ⟨rfl,h1,l,c⟩ hs;have keep:(∀b,b<=w.n->¬R0 w p i b)->(∀a,a<i+1->∃z:BitVec 64,x1.g a=U z/\∀b,b<64->(z.getLsbD b=true↔b<=w.n/\R0 w p a b)):=by
   intro h a ha;by_cases e:a=i
   .subst e;exact⟨0#64,c a (Bm9 _),fun b hb=>by simp;exact h b⟩
   exact l a (by omega)
  have put:∀(z:BitVec 64) (v:Int),v=U z->(∀b,b<64->(z.getLsbD b=true↔b<=w.n/\R0 w p i b)) ->
   (∀a,a<i+1->∃z:BitVec 64,(x1.upd (i:Int).toNat v).g a=U z/\∀b,b<64->(z.getLsbD b=true↔b<=w.n/\R0 w p a b))/\∀a,i+1<=a->(x1.upd (i:Int).toNat v).g a=0:=by
   intro z v hv hz;refine⟨fun a ha=>?_,fun a ha=>?_⟩
   .by_cases e:a=i
    .subst e;exact⟨z,by show (if a=(a:Int).toNat then v else _)=_;rw[Pe,hv],hz⟩
    obtain⟨z',e1,e2⟩:=l a (by omega);exact⟨z',by show (if a=(i:Int).toNat then v else x1.g a)=_;rw[Pg];exact e1,e2⟩
   show (if a=(i:Int).toNat then v else x1.g a)=0;rw[Pg];exact c a (by omega)
  by_cases hl:i<=w.n
  .refine An ?_;by_cases k0:p.Kind=0
   .refine ifT (by simp[k0]) (Am ?_);obtain⟨p1,p2⟩:=put (1#64 <<< i) _ (Vg i (by omega)) (fun b hb=>by rw[GP (by omega) hb,Pp];simp only[R0,k0,Pn];omega);exact hs (by omega) _ _ ⟨Pd,h1,p1,p2⟩
   refine ifF (by simp[k0]) ?_;by_cases k1:p.Kind=1
   .refine ifT (by simp[k1]) ?_;have e0:∀b,R0 w p i b↔i<w.n/\b=i+1/\(XO (w.g i) p.Is != p.Not)=true:=fun b=>by simp only[R0,k1];simp
    by_cases hlt:i<w.n
    .refine An (Am ?_);refine B3 (x:=XO (w.g i) p.Is) (by rw[Bm2];rfl) ?_;by_cases hb:XO (w.g i) p.Is=p.Not
     .refine ifF (by simp[hb]) (hs (by omega) _ _ ⟨Pd,h1,keep fun b _=>?_,fun a ha=>c a (by omega)⟩);rw[e0];simp[hb]
     refine ifT (by simp[hb]) ?_;rw[Pd];refine Am ?_;obtain⟨p1,p2⟩:=put (1#64 <<< (i+1)) _ (Vg (i+1) (by omega)) (fun b a0=>by
      rw[GP (by omega) a0,Pp,e0]
      have:(XO (w.g i) p.Is != p.Not)=true:=by simp[hb]
      simp only[this,and_true];omega)
     exact hs (by omega) _ _ ⟨rfl,h1,p1,p2⟩
    refine Oi (hs (by omega) _ _ ⟨Pd,h1,keep fun b _=>?_,fun a ha=>c a (by omega)⟩);rw[e0];omega
   refine ifF (by simp[k1]) ?_;by_cases k2:p.Kind=2
   .refine ifT (by simp[k2]) ?_;have e0:∀b,R0 w p i b↔i=0/\b=0:=fun b=>by simp only[R0,k2];simp
    by_cases hz:i=0
    .refine An (Am ?_);obtain⟨p1,p2⟩:=put 1#64 _ Bi2 (fun b a0=>by rw[XN,Pp,e0];omega);exact hs (by omega) _ _ ⟨Pd,h1,p1,p2⟩
    refine Oi (hs (by omega) _ _ ⟨Pd,h1,keep fun b _=>?_,fun a ha=>c a (by omega)⟩);rw[e0];omega
   refine ifF (by simp[k2]) ?_;by_cases k6:p.Kind=6
   .refine ifT (by simp[k6]) ?_;have e0:∀b,R0 w p i b↔i=w.n/\b=w.n:=fun b=>by simp only[R0,k6];simp
    by_cases hz:i=w.n
    .refine An (Am ?_);obtain⟨p1,p2⟩:=put (1#64 <<< i) _ (Vg i (by omega)) (fun b hb=>by rw[GP (by omega) hb,Pp,e0];omega);exact hs (by omega) _ _ ⟨Pd,h1,p1,p2⟩
    refine Oi (hs (by omega) _ _ ⟨Pd,h1,keep fun b _=>?_,fun a ha=>c a (by omega)⟩);rw[e0];omega
   refine ifF (by simp[k6]) (hs (by omega) _ _ ⟨Pd,h1,keep fun b _=>?_,fun a ha=>c a (by omega)⟩);simp[R0,k0,k1,k2,k6]
  refine Oi ?_;have t0:TabR w.n (R0 w p) x1.g:=fun a ha=>l a (by omega);by_cases k3:p.Kind=3
  .refine ifT (by simp[k3]) ?_;obtain⟨s,es,a8,a9⟩:=ZG (N:=M) hw (by omega);refine B3 es ?_;refine Q0 (fun i (x3:Sl Int) x4=>x4=(i:Int)/\x3.n=w.n+1/\TabR w.n (Ai6 w.n (fun i=>PR w (p.L.g i)) i) x3.g) p.L.n _ (by omega) ⟨rfl,a8,a9.congr fun a b _ _=>Bw2⟩ ?_;rintro a2 j x3 x4 hj ⟨rfl,g1,g2⟩ m;by_cases a3:j<p.L.n
   .obtain⟨t,et,b0,b1⟩:=ih j a3;refine An (Am (B3 (by rw[Bm2];exact et) ?_));obtain⟨f,ef,o,a4⟩:=QS (N:=M) hw (by omega) g1 b0 g2 b1;exact B3 ef (m a3 _ _ ⟨Pd,o,a4⟩)
   obtain rfl:j=p.L.n:=by omega
   exact Oj ⟨x3,rfl,g1,g2.congr fun a b _ _=>by rw[Me];simp[k3]⟩
  refine ifF (by simp[k3]) ?_;by_cases k4:p.Kind=4
  .refine ifT (by simp[k4]) ?_;refine Q0 (fun i x3 x4=>x4=(i:Int)/\x3.n=w.n+1/\TabR w.n (fun a b=>∃q,q<i/\PR w (p.L.g q) a b) x3.g) p.L.n _ (by omega) ⟨rfl,h1,t0.congr fun a b _ _=>by simp[R0,k4]⟩ ?_;rintro a2 j x3 x4 hj ⟨rfl,g1,g2⟩ m;by_cases a3:j<p.L.n
   .obtain⟨t,et,b0,b1⟩:=ih j a3;refine An (Am (B3 (by rw[Bm2];exact et) ?_));obtain⟨f,ef,o,a4⟩:=ZH (N:=M) hw (by omega) g1 b0 g2 b1;refine B3 ef (m a3 _ _ ⟨Pd,o,a4.congr fun a b _ _=>⟨?_,?_⟩⟩)
    .rintro (⟨q,h1,l⟩ | h)
     .exact⟨q,by omega,l⟩
     exact⟨j,by omega,h⟩
    rintro⟨q,h1,l⟩;by_cases e:q=j
    .subst e;exact .inr l
    exact .inl ⟨q,by omega,l⟩
   obtain rfl:j=p.L.n:=by omega
   exact Oj ⟨x3,rfl,g1,g2.congr fun a b _ _=>by rw[Me];simp[k4]⟩
  refine ifF (by simp[k4]) ?_;by_cases k5:p.Kind=5
  .obtain⟨hn1,hm0,hm1,hmx⟩:=h5 k5;refine ifT (by simp[k5]) (Am ?_);obtain⟨one,eo,ho1,ho2⟩:=ih 0 (by omega);obtain⟨s,es,a8,a9⟩:=ZG (N:=M) hw (by omega);refine B3 eo (B3 es ?_);have hF:=Vj w (p.L.g 0);have fin:∀(t:Sl Int) (k:Nat),t.n=w.n+1->TabR w.n (fun a b=>∃j:Nat,p.Min<=j/\j<k/\Id w.n (PR w (p.L.g 0)) j a b) t.g ->
    (∀a b,a<=w.n->b<=w.n->((∃j:Nat,p.Min<=j/\j<k/\Id w.n (PR w (p.L.g 0)) j a b) ↔ ∃j:Nat,p.Min<=j/\(p.Max = -1 \/ (j:Int)<=p.Max)/\Id w.n (PR w (p.L.g 0)) j a b)) ->
    ∃r,some t=some r/\r.n=w.n+1/\TabR w.n (PR w p) r.g:=by
    intro t k e1 e2 e3;exact⟨t,rfl,e1,e2.congr fun a b ha hb=>(e3 a b ha hb).trans (by rw[Me];simp[k5])⟩
   refine TP (fun k (x8 x9:Sl Int) b2=>b2=(k:Int)/\x8.n=w.n+1/\x9.n=w.n+1/\TabR w.n (fun a b=>∃j:Nat,p.Min<=j/\j<k/\Id w.n (PR w (p.L.g 0)) j a b) x8.g/\TabR w.n (Id w.n (PR w (p.L.g 0)) k) x9.g/\(p.Max = -1 \/ (k:Int)<=p.Max)) 33 _ (by omega)
    ⟨rfl,h1,a8,t0.congr fun a b _ _=>by simp[R0,k5],a9.congr fun a b _ _=>Bw2,by omega⟩ ?_
   rintro a2 k x8 x9 b2 hk ⟨rfl,g1,g2,g3,g4,g5⟩ m;obtain⟨f,ef,o,a4⟩:=QS (N:=M) hw (by omega) g2 ho1 g4 ho2;have next:TabR w.n (Id w.n (PR w (p.L.g 0)) (k+1)) f.g:=a4
   by_cases u:p.Min<=(k:Int)
   .refine ifT (by simpa using u) ?_;obtain⟨j,ej,a5,hj2⟩:=ZH (N:=M) hw (by omega) g1 g2 g3 g4;have a1:TabR w.n (fun a b=>∃j:Nat,p.Min<=j/\j<k+1/\Id w.n (PR w (p.L.g 0)) j a b) j.g:=hj2.congr fun a b _ _=>by
     constructor
     .rintro (⟨q,h1,l,c⟩ | h)
      .exact⟨q,h1,by omega,c⟩
      exact⟨k,u,by omega,h⟩
     rintro⟨q,h1,l,c⟩;by_cases e:q=k
     .subst e;exact .inr c
     exact .inl ⟨q,h1,by omega,c⟩
    refine B3 ej (ltX ?_);by_cases a6:(k:Int)=p.Max
    .refine ifT (by simp[a6]) (ifT rfl (fin j (k+1) a5 a1 fun a b _ _=>⟨?_,?_⟩))
     .rintro⟨q,h1,l,c⟩;exact⟨q,h1,.inr (by omega),c⟩
     rintro⟨q,h1,l,c⟩;exact⟨q,h1,by omega,c⟩
    refine ifF (by simp[a6]) ?_;by_cases b3:p.Min<(k:Int)
    .refine ifT (by simpa using b3) ?_;obtain⟨b,eb,hb⟩:=Au4 (N:=M) (x:=x8) (y:=j) hw (by omega) g1 a5;refine B3 eb ?_;by_cases a7:b=true
     .refine ifT a7 (fin j (k+1) a5 a1 fun a b ha a0=>⟨?_,?_⟩)
      .rintro⟨q,h1,l,c⟩;exact⟨q,h1,by omega,c⟩
      rintro⟨q,h1,l,c⟩;have heq:=hb.1 a7;obtain⟨q',k1,k2,k3⟩:=AO2 hF (mn:=p.Min.toNat) (k:=k) (by omega) (fun a b ha a0 hp=>by have e1:=a1.bit ha (b:=b) (by omega);have e2:=g3.bit ha (b:=b) (by omega);rw[<- heq a ha]at e1;obtain⟨_,q,k1,k2,k3⟩:=e2.1 (e1.2 ⟨a0,k,u,by omega,hp⟩);exact⟨q,by omega,k2,k3⟩) ha q b (by omega) c
      exact⟨q',by omega,by omega,k3⟩
     refine ifF a7 (B3 ef ?_);have b4:k<33:=by
      refine Nat.lt_of_le_of_ne hk fun e=>a7 (hb.2 fun a ha=>?_);subst e;refine g3.uniq (a1.congr fun a b ha a0=>⟨?_,?_⟩) ha
      .rintro⟨q,h1,l,c⟩;by_cases e:q=33
       .subst e;exact⟨32,by omega,by omega,Vh hF ha hw c⟩
       exact⟨q,h1,by omega,c⟩
      rintro⟨q,h1,l,c⟩;exact⟨q,h1,by omega,c⟩
     exact m b4 _ _ _ ⟨Pd,a5,o,a1,next,by omega⟩
    refine ifF (by simpa using b3) (Oj (B3 ef (m (by omega) _ _ _ ⟨Pd,a5,o,a1,next,by omega⟩)))
   refine ifF (by simpa using u) (B3 ef (m (by omega) _ _ _ ⟨Pd,g1,o,g3.congr fun a b _ _=>⟨?_,?_⟩,next,by omega⟩))
   .rintro⟨q,h1,l,c⟩;omega
   rintro⟨q,h1,l,c⟩;omega
  refine ifF (by simp[k5]) ⟨x1,rfl,h1,t0.congr fun a b _ _=>?_⟩;rw[Me];simp[R0,k3,k4,k5]
end Go.AM
namespace Go.AM
variable {N:Nat}
open IntKind (wrap)
open Go.Proofs
abbrev sOf (x y:BitVec 32):Sm:=⟨(x.toNat:Int),(y.toNat:Int)⟩
def okS (s:Sm):Prop:=∃p m:BitVec 32,s=sOf p m
def eq0 (x:BitVec 32):((x.toNat:Int)==0)=decide (x=0#32):=by
 rw[Bq0];simp only[beq_iff_eq,Pp];constructor
 .intro h;apply Bq2;show x.toNat=0;omega
 rintro rfl;rfl
def z32 (x:BitVec 32):x=0#32 ↔ ∀i,i<32->x.getLsbD i=false:=by
 constructor
 .rintro rfl i a;simp
 intro h;apply Bs2;intro i a;rw[h i a];simp
def JX {x y:BitVec 32}(h:∀b,b<32->x.getLsbD b=y.getLsbD b):x=y:=Bs2 h
def ZI (x:BitVec 32)(i:Nat):(F4 .and .u32 (shI .shr .u32 (x.toNat:Int) (i:Int)) 1==1)=x.getLsbD i:=by
 rw[Ar6,show (1:Int)=((1#32).toNat:Int) from rfl,Fu];have h:(x >>> i &&& 1#32)=(BitVec.ofBool (x.getLsbD i)).setWidth 32:=by
  apply Bs2;intro j b;simp only[Bo2,BB9,BD8,BE8];by_cases a:j=0
  .subst a;simp
  have:(1#32).getLsbD j=false:=by rw[BC0];simp[a]
  simp[this,a]
 rw[h];cases x.getLsbD i<;>rfl
def AX4 (i:Nat):shI .shl .u32 1 (i:Int)=((1#32 <<< i).toNat:Int):=by rw[show (1:Int)=((1#32).toNat:Int) from rfl,Bf0]
def Au5 {i j:Nat}(a:j<32):(1#32 <<< i).getLsbD j=decide (j=i):=by
 rw[BC7,BC0];by_cases h:j=i
 .subst h;simp[a]
 by_cases b:j<i
 .simp[h,b]
 have:j-i≠0:=by omega
 simp[h,this]
def GV (x:BitVec 32):x.toNat<16777216 ↔ ∀i,24<=i->i<32->x.getLsbD i=false:=by
 constructor
 .intro h i a b;exact BE4 (Bo7 h (Bw0 (n:=2) (i:=24) (by omega) a))
 intro h;refine Nat.lt_pow_two_of_testBit (n:=24) _ fun i a=>?_;by_cases c:i<32
 .exact h i a c
 exact BE4 (Bo7 x.isLt (Bw0 (by omega) (by omega)))
def vB (p m:BitVec 32):Bool:=decide (∀i:Fin 32,¬(p.getLsbD i=true/\m.getLsbD i=true)/\(24<=i.1->p.getLsbD i=false/\m.getLsbD i=false))
def Gh (p m:BitVec 32):vB p m=true ↔ ∀i,i<32->¬(p.getLsbD i=true/\m.getLsbD i=true)/\(24<=i->p.getLsbD i=false/\m.getLsbD i=false):=by rw[vB,Pp];exact⟨fun h i a=>h ⟨i,a⟩,fun h i=>h i.1 i.2⟩
def ZJ (p m:BitVec 32):p &&& m=0#32 ↔ ∀i,i<32->¬(p.getLsbD i=true/\m.getLsbD i=true):=by rw[z32];refine forall_congr' fun i=>forall_congr' fun a=>?_;rw[Bo2,BE9];cases p.getLsbD i<;>cases m.getLsbD i<;>simp
def Bi7 (p m:BitVec 32):vB p m=true↔p &&& m=0#32/\(p ||| m).toNat<16777216:=by
 rw[Gh,ZJ,GV];constructor
 .intro h;refine⟨fun i a=>(h i a).1,fun i h1 b=>?_⟩
  have:=(h i b).2 h1
  rw[Bo1,this.1,this.2];rfl
 rintro⟨h1,b⟩ i a;refine⟨h1 i a,fun c=>?_⟩
 have:=b i c a
 rw[Bo1,Bw1]at this;exact this
def Au6 (p m:BitVec 32):vB p m=true↔p &&& m=0#32/\p.toNat<16777216/\m.toNat<16777216:=by rw[Gh,ZJ,GV,GV];exact⟨fun h=>⟨fun i a=>(h i a).1,fun i h1 b=>((h i b).2 h1).1,fun i h1 b=>((h i b).2 h1).2⟩,fun⟨h1,b,d⟩ i a=>⟨h1 i a,fun c=>⟨b i c a,d i c a⟩⟩⟩
def BP (p m:BitVec 32):I0 N (sOf p m)=some (vB p m):=by unfold I0;rw[Fu,Lt,eq0];congr 1;rw[Bq0,Bi7];simp only[Bm8,Pp];exact⟨fun h=>⟨h.1,by have:=h.2;omega⟩,fun h=>⟨h.1,by have:=h.2;omega⟩⟩
def shr24 (x:BitVec 32):(shI .shr .u32 (x.toNat:Int) 24==0)=decide (x.toNat<16777216):=by
 rw[show (24:Int)=((24:Nat):Int) from rfl,Ar6,Bq0];simp only[beq_iff_eq,Pp,Bw4,Bv8]
 have:=BG0 (a:=x.toNat) (b:=2 ^ 24)
 omega
def Vs (p m:BitVec 32):Br N (sOf p m)=some (vB p m):=by unfold Br;rw[Fu,Lt,eq0,shr24];congr 1;rw[Bq0,Bi7];simp only[Bm8,Pp]
def Vt (p m:BitVec 32):P5 N (sOf p m)=some (vB p m):=Vs (N:=N) p m
def QT (p m:BitVec 32):S7 N (sOf p m)=some (vB p m):=by unfold S7;rw[Fu,eq0];congr 1;rw[Bq0,Au6];simp only[Bm8,Pp];exact⟨fun h=>⟨h.1.1,by have:=h.1.2;omega,by have:=h.2;omega⟩,fun h=>⟨⟨h.1,by have:=h.2.1;omega⟩,by have:=h.2.2;omega⟩⟩
def Av (p m:BitVec 32)(n:1000<=N):J1 N (sOf p m)=some (vB p m):=by
 suffices h:∃r,J1 N (sOf p m)=some r/\r=vB p m by obtain⟨r,h,rfl⟩:=h;exact h
 unfold J1;refine X5 (fun i x1=>x1=(i:Int)/\∀j,j<i->¬(p.getLsbD j=true/\m.getLsbD j=true)/\(24<=j->p.getLsbD j=false/\m.getLsbD j=false)) 32 _ (by omega) ⟨rfl,fun j d=>Pm d (by omega)⟩ ?_;rintro g i x1 o ⟨rfl,h1⟩ hs;by_cases hl:i<32
 .refine An (Am ?_);simp only[ZI];have e24:decide ((24:Int)<=(i:Int))=decide (24<=i):=decide_eq_decide.2 (by omega);rw[e24];by_cases hb:¬(p.getLsbD i=true/\m.getLsbD i=true)/\(24<=i->p.getLsbD i=false/\m.getLsbD i=false)
  .refine ifF ?_ (hs hl _ ⟨Pd,fun j d=>?_⟩)
   .intro h;obtain⟨l,f⟩:=hb;revert h l f;by_cases c:24<=i
    .intro h l f;obtain⟨a,b⟩:=f c;simp[a,b]at h
    cases p.getLsbD i<;>cases m.getLsbD i<;>simp[c]
   by_cases e:j=i
   .subst e;exact hb
   exact h1 j (by omega)
  refine ifT ?_ ⟨false,rfl,?_⟩
  .revert hb;by_cases c:24<=i
   .cases p.getLsbD i<;>cases m.getLsbD i<;>simp[c]
   cases p.getLsbD i<;>cases m.getLsbD i<;>simp[c]
  symm;rw[<- BA5,Gh];exact fun h=>hb (h i hl)
 refine Oi ⟨true,rfl,?_⟩;symm;rw[Gh];exact fun j d=>h1 j (by omega)
def gB (p m:BitVec 32)(f:Nat):Int:=if p.getLsbD f then 1 else if m.getLsbD f then -1 else 0
def ZK (p m:BitVec 32)(a:vB p m=true)(f:Nat)(c:f<24)(b:1000<=N):Y0 N (sOf p m) (f:Int)=some (gB p m f):=by
 unfold Y0;rw[Av p m b];simp only[Bm6,lt,CT,ZI,gB,a];rw[Pk (by omega:(0:Int)<=(f:Int)),Pk (by omega:(0:Int)<=(f:Int))];have e:(decide ((0:Int)<=(f:Int))&&decide ((f:Int)<24))=true:=by simp;omega
 rw[e];cases h1:p.getLsbD f<;>cases d:m.getLsbD f<;>simp
def gB_eq {p m a b:BitVec 32}(g:vB p m=true)(c : vB a b=true)(f:Nat)(d:f<32):(gB a b f≠0->gB p m f=gB a b f)↔((a.getLsbD f=true->p.getLsbD f=true)/\(b.getLsbD f=true->m.getLsbD f=true)):=by have h1:=((Gh p m).1 g f d).1;have i:=((Gh a b).1 c f d).1;revert h1 i;simp only[gB];cases a.getLsbD f<;>cases b.getLsbD f<;>cases p.getLsbD f<;>cases m.getLsbD f<;>simp
def Al4 (p m a b:BitVec 32):Bool:=vB p m&&(vB a b&&decide (∀i:Fin 32,(a.getLsbD i=true->p.getLsbD i=true)/\(b.getLsbD i=true->m.getLsbD i=true)))
def AX5 (a p:BitVec 32):a &&& ~~~ p=0#32 ↔ ∀i,i<32->(a.getLsbD i=true->p.getLsbD i=true):=by rw[z32];refine forall_congr' fun i=>forall_congr' fun b=>?_;rw[Bo2,Br8];cases a.getLsbD i<;>cases p.getLsbD i<;>simp[b]
def AX6 (p m a b:BitVec 32):N1 N (sOf p m) (sOf a b)=some (Al4 p m a b):=by
 unfold N1;rw[BP];simp only[Bm6,lt,BP,EX,eq0,Al4];cases h1:vB p m
 .simp
 cases d:vB a b
 .simp
 simp only[Pn,By8];have key:(decide (∀i:Fin 32,(a.getLsbD i=true->p.getLsbD i=true)/\(b.getLsbD i=true->m.getLsbD i=true)))=(decide (a &&& ~~~ p=0#32)&&decide (b &&& ~~~ m=0#32)):=by rw[Bq0];simp only[Bm8,Pp,AX5];exact⟨fun h=>⟨fun i c=>(h ⟨i,c⟩).1,fun i c=>(h ⟨i,c⟩).2⟩,fun h i=>⟨h.1 i.1 i.2,h.2 i.1 i.2⟩⟩
 rw[key];by_cases h:a &&& ~~~ p=0#32
 .simp[h]
 simp[h]
def AX7 (p m a b:BitVec 32)(f:1000<=N):P8 N (sOf p m) (sOf a b)=some (Al4 p m a b):=by
 suffices h:∃r,P8 N (sOf p m) (sOf a b)=some r/\r=Al4 p m a b by obtain⟨r,h,rfl⟩:=h;exact h
 unfold P8;rw[Av p m f];refine B3 rfl (ltX ?_);cases h1:vB p m
 .exact Gc (ifT rfl ⟨false,rfl,by simp[Al4,h1]⟩)
 refine Oj ?_;rw[Av a b f];refine B3 rfl ?_;cases c:vB a b
 .exact Gc ⟨false,rfl,by simp[Al4,c]⟩
 refine Oj ?_;refine X5 (fun i x3=>x3=(i:Int)/\∀j,j<i->((a.getLsbD j=true->p.getLsbD j=true)/\(b.getLsbD j=true->m.getLsbD j=true))) 24 _ (by omega) ⟨rfl,fun j n=>Pm n (by omega)⟩ ?_;rintro d i x3 q ⟨rfl,o⟩ hs;by_cases hl:i<24
 .refine An (B3 (ZK a b c i hl f) (ltX ?_));have key:=gB_eq h1 c i (by omega);have fin:(¬(gB a b i≠0->gB p m i=gB a b i))->false=Al4 p m a b:=fun hn=>by symm;simp only[Al4,h1,c,By8];rw[<- BA5,Pp];intro h;exact hn (key.2 (h ⟨i,by omega⟩))
  have go:(gB a b i≠0->gB p m i=gB a b i)->∃r,d (wrap .i64 ((i:Int)+1))=some r/\r=Al4 p m a b:=fun hp=>hs hl _ ⟨Pd,fun j n=>by
   by_cases e:j=i
   .subst e;exact key.1 hp
   exact o j (by omega)⟩
  by_cases g:gB a b i=0
  .exact ifF (by simp[g]) (Oj (go fun h=>Pm g h))
  refine ifT (by simp[g]) (B3 (ZK p m h1 i hl f) ?_);by_cases l:gB p m i=gB a b i
  .exact ifF (by simp[l]) (go fun _=>l)
  exact ifT (by simp[l]) ⟨false,rfl,fin fun h=>l (h g)⟩
 refine Oi ⟨true,rfl,?_⟩;symm;simp only[Al4,h1,c,By8,Pp];intro j;by_cases n:j.1<24
 .exact o j.1 (by omega)
 have:=((Gh a b).1 c j.1 j.2).2 (by omega)
 exact⟨fun h=>by rw[this.1]at h;exact Pm h (by simp),fun h=>by rw[this.2]at h;exact Pm h (by simp)⟩
def Tn (x y s:BitVec 32):BitVec 32:=(x &&& ~~~ s) ||| (y &&& s)
def AO3 (p m a b s:BitVec 32):Cl N (sOf p m) (sOf a b) (s.toNat:Int)=some (sOf (Tn p a s) (Tn m b s)):=by unfold Cl;simp only[EX,Fu,Lt,Tn]
def Bi8 (x:BitVec 32)(f:Nat)(on:Bool):BitVec 32:=if on then (x &&& ~~~ (1#32 <<< f)) ||| (1#32 <<< f)else x &&& ~~~ (1#32 <<< f)
def Hv (x:BitVec 32)(f:Nat)(on:Bool){j:Nat}(a:j<32):(Bi8 x f on).getLsbD j=if j=f then on else x.getLsbD j:=by
 unfold Bi8;cases on
 .rw[Pl (by simp),Bo2,Br8,Au5 a];by_cases e:j=f<;>simp[e,a]
 rw[Pk rfl,Bo1,Bo2,Br8,Au5 a];by_cases e:j=f<;>simp[e,a]
def Au7 (p m:BitVec 32)(f:Nat)(v:Int):Cu N (sOf p m) (f:Int) v=some (sOf (Bi8 p f (v==1)) (Bi8 m f (v == -1))):=by unfold Cu;rw[Pe];simp only[AX4,EX,Lt];cases h1:v==1<;>cases a:v == -1<;>simp[Bi8]
def AI5 (p m c a b:BitVec 32):Sm×Int:=if vB p m=true/\vB a b then (if c.toNat<16777216/\c &&& (a ||| b)=0#32 then (sOf (Tn p a (c ||| (a ||| b))) (Tn m b (c ||| (a ||| b))),0)else (⟨0,0⟩,2))else (⟨0,0⟩,14)
def Aj0 (p m c a b:BitVec 32):P3 N (sOf p m) (c.toNat:Int) (sOf a b)=some (AI5 p m c a b):=by
 unfold P3 AI5;rw[BP];simp only[Bm6,lt,BP,DI,Lt,Fu,AO3];cases h1:vB p m
 .simp
 cases g:vB a b
 .simp
 by_cases d:c.toNat<16777216
 .have e:((c &&& (a ||| b)).toNat:Int) != 0 ↔ ¬(c &&& (a ||| b)=0#32):=by
   have:=eq0 (c &&& (a ||| b))
   simp only[bne_iff_ne,ne_eq];rw[<- Pp (p:=c &&& (a ||| b)=0#32),<- this];simp
  by_cases f:c &&& (a ||| b)=0#32
  .simp[d,f];omega
  have e':=e.2 f;rw[Pl (by simp<;>omega),e'];simp[d,f]
 simp[d];omega
def Aj1 (p m c a b:BitVec 32)(t:1000<=N):R5 N (sOf p m) (c.toNat:Int) (sOf a b)=some (AI5 p m c a b):=by
 suffices h:∃r,R5 N (sOf p m) (c.toNat:Int) (sOf a b)=some r/\r=AI5 p m c a b by obtain⟨r,h,rfl⟩:=h;exact h
 unfold R5;rw[Av p m t];refine B3 rfl (ltX ?_);cases h1:vB p m
 .exact Gc (ifT rfl ⟨_,rfl,by simp[AI5,h1]⟩)
 refine Oj ?_;rw[Av a b t];refine B3 rfl ?_;cases o:vB a b
 .exact Gc ⟨_,rfl,by simp[AI5,o]⟩
 refine Oj ?_;rw[Lt,Fu];by_cases hc:c.toNat<16777216/\c &&& (a ||| b)=0#32
 .obtain⟨q,n⟩:=hc;refine ifF (by rw[n];simp;omega) ?_;have y:∀j,j<32->¬(c.getLsbD j=true/\(a.getLsbD j=true \/ b.getLsbD j=true)):=fun j d=>by
   have:=(z32 _).1 n j d
   rw[Bo2,Bo1]at this;revert this;cases c.getLsbD j<;>cases a.getLsbD j<;>cases b.getLsbD j<;>simp
  refine TP (fun i x2 x3 x4=>x4=(i:Int)/\∃P M:BitVec 32,x2=(P.toNat:Int)/\x3=(M.toNat:Int)/\∀j,j<32 ->
   P.getLsbD j=(if j<i/\(c.getLsbD j=true \/ a.getLsbD j=true \/ b.getLsbD j=true)then a.getLsbD j else p.getLsbD j)/\M.getLsbD j=(if j<i/\(c.getLsbD j=true \/ a.getLsbD j=true \/ b.getLsbD j=true)then b.getLsbD j else m.getLsbD j)) 24 _ (by omega)
   ⟨rfl,p,m,rfl,rfl,fun j d=>by simp⟩ ?_
  rintro w i x2 x3 x4 hi ⟨rfl,P,M,rfl,rfl,f⟩ hs;by_cases hl:i<24
  .refine An (Am ?_);rw[ZI];have u:=ZK (N:=N) a b o i hl t;have v:=((Gh a b).1 o i (by omega)).1;have z:=y i (by omega);by_cases l:c.getLsbD i=true
   .refine ifT l (B3 (Au7 P M i 0) (B3 u ?_));have ea:a.getLsbD i=false:=by cases e:a.getLsbD i<;>simp_all
    have eb:b.getLsbD i=false:=by cases e:b.getLsbD i<;>simp_all
    refine ifF (by simp[gB,ea,eb]) (hs hl _ _ _ ⟨Pd,_,_,rfl,rfl,fun j d=>?_⟩);rw[Hv _ _ _ d,Hv _ _ _ d];by_cases e:j=i
    .subst e;simp[l,ea,eb]
    have:=f j d
    have e2:j<i+1↔j<i:=by omega
    simp only[e,Po,e2];exact this
   refine ifF l (B3 u ?_);by_cases s:gB a b i=0
   .have ea:a.getLsbD i=false:=by revert s;simp only[gB];cases a.getLsbD i<;>simp
    have eb:b.getLsbD i=false:=by revert s;simp only[gB,ea];cases b.getLsbD i<;>simp
    refine ifF (by simp[s]) (hs hl _ _ _ ⟨Pd,P,M,rfl,rfl,fun j d=>?_⟩);by_cases e:j=i
    .subst e;have:=f j d;simpa[l,ea,eb]using this
    have:=f j d
    have e2:j<i+1↔j<i:=by omega
    simp only[e2];exact this
   refine ifT (by simp[s]) (B3 u (B3 (Au7 P M i _) (hs hl _ _ _ ⟨Pd,_,_,rfl,rfl,fun j d=>?_⟩)));rw[Hv _ _ _ d,Hv _ _ _ d];by_cases e:j=i
   .subst e;revert s v;simp only[gB];cases a.getLsbD j<;>cases b.getLsbD j<;>simp
   have:=f j d
   have e2:j<i+1↔j<i:=by omega
   simp only[e,Po,e2];exact this
  obtain rfl:i=24:=by omega
  refine Oj ⟨_,rfl,?_⟩;simp only[AI5,h1,o,q,n,and_self,Pn];have hp:=(Gh p m).1 h1;have x:=(Gh a b).1 o;have a0:=(GV c).1 q;have eP:P=Tn p a (c ||| (a ||| b)):=JX fun j d=>by
   rw[(f j d).1,Tn,Bo1,Bo2,Bo2,Br8,Bo1,Bo1];by_cases g:j<24
   .cases c.getLsbD j<;>cases a.getLsbD j<;>cases b.getLsbD j<;>cases p.getLsbD j<;>simp[g,d]
   have g1:=(hp j d).2 (by omega);have g2:=(x j d).2 (by omega);simp[g,g1.1,g2.1]
  have eM:M=Tn m b (c ||| (a ||| b)):=JX fun j d=>by
   rw[(f j d).2,Tn,Bo1,Bo2,Bo2,Br8,Bo1,Bo1];by_cases g:j<24
   .cases c.getLsbD j<;>cases a.getLsbD j<;>cases b.getLsbD j<;>cases m.getLsbD j<;>simp[g,d]
   have g1:=(hp j d).2 (by omega);have g2:=(x j d).2 (by omega);simp[g,g1.2,g2.2]
  rw[eP,eM]
 refine ifT ?_ ⟨_,rfl,?_⟩
 .rw[Bp2,Pp,bne_iff_ne];by_cases h:c.toNat<16777216
  .right
   intro h0;exact hc ⟨h,Bq2 (by show _=0;omega)⟩
  left;omega
 simp only[AI5,h1,o,and_self,Pn];rw[Pl hc]
def AI6 (p m a b s:BitVec 32):Sm×Int:=if vB p m=true/\vB a b then (if s.toNat<16777216 then (sOf (Tn p a s) (Tn m b s),0)else (⟨0,0⟩,2))else (⟨0,0⟩,14)
def AI7 (p m a b s:BitVec 32):U5 N (sOf p m) (sOf a b) (s.toNat:Int)=some (AI6 p m a b s):=by
 unfold U5 AI6;rw[BP];simp only[Bm6,lt,BP,AO3];cases h1:vB p m
 .simp
 cases d:vB a b
 .simp
 by_cases c:s.toNat<16777216
 .simp[c];omega
 simp[c];omega
def AI8 (p m a b s:BitVec 32)(o:1000<=N):Ad N (sOf p m) (sOf a b) (s.toNat:Int)=some (AI6 p m a b s):=by
 suffices h:∃r,Ad N (sOf p m) (sOf a b) (s.toNat:Int)=some r/\r=AI6 p m a b s by obtain⟨r,h,rfl⟩:=h;exact h
 unfold Ad;rw[Av p m o];refine B3 rfl (ltX ?_);cases h1:vB p m
 .exact Gc (ifT rfl ⟨_,rfl,by simp[AI6,h1]⟩)
 refine Oj ?_;rw[Av a b o];refine B3 rfl ?_;cases l:vB a b
 .exact Gc ⟨_,rfl,by simp[AI6,l]⟩
 refine Oj ?_;by_cases hc:s.toNat<16777216
 .refine Oi ?_;refine TP (fun i x2 x3 x4=>x4=(i:Int)/\∃P M:BitVec 32,x2=(P.toNat:Int)/\x3=(M.toNat:Int)/\∀j,j<32 ->
   P.getLsbD j=(if j<i/\s.getLsbD j then a.getLsbD j else p.getLsbD j)/\M.getLsbD j=(if j<i/\s.getLsbD j then b.getLsbD j else m.getLsbD j)) 24 _ (by omega)
   ⟨rfl,p,m,rfl,rfl,fun j c=>by simp⟩ ?_
  rintro t i x2 x3 x4 u ⟨rfl,P,M,rfl,rfl,d⟩ hs;by_cases hl:i<24
  .refine An (Am ?_);rw[ZI];have q:=((Gh a b).1 l i (by omega)).1;by_cases g:s.getLsbD i=true
   .refine ifT g (B3 (ZK (N:=N) a b l i hl o) (B3 (Au7 P M i _) (hs hl _ _ _ ⟨Pd,_,_,rfl,rfl,fun j c=>?_⟩)));rw[Hv _ _ _ c,Hv _ _ _ c];by_cases e:j=i
    .subst e;revert q;simp only[gB,g];cases a.getLsbD j<;>cases b.getLsbD j<;>simp
    have:=d j c
    have e2:j<i+1↔j<i:=by omega
    simp only[e,Po,e2];exact this
   refine ifF g (hs hl _ _ _ ⟨Pd,P,M,rfl,rfl,fun j c=>?_⟩);by_cases e:j=i
   .subst e;have:=d j c;simpa[g]using this
   have:=d j c
   have e2:j<i+1↔j<i:=by omega
   simp only[e2];exact this
  obtain rfl:i=24:=by omega
  refine Oj ⟨_,rfl,?_⟩;simp only[AI6,h1,l,hc,and_self,Pn];have n:=(GV s).1 hc;have eP:P=Tn p a s:=JX fun j c=>by
   rw[(d j c).1,Tn,Bo1,Bo2,Bo2,Br8];by_cases f:j<24
   .cases s.getLsbD j<;>cases a.getLsbD j<;>cases p.getLsbD j<;>simp[f,c]
   rw[Pl (by simp[f]),n j (by omega) c];simp[c]
  have eM:M=Tn m b s:=JX fun j c=>by
   rw[(d j c).2,Tn,Bo1,Bo2,Bo2,Br8];by_cases f:j<24
   .cases s.getLsbD j<;>cases b.getLsbD j<;>cases m.getLsbD j<;>simp[f,c]
   rw[Pl (by simp[f]),n j (by omega) c];simp[c]
  rw[eP,eM]
 exact An ⟨_,rfl,by simp[AI6,h1,l,hc]⟩
end Go.AM
namespace Go.AM
open Go.Proofs
def vS (s:Sm):Prop:=∃p m:BitVec 32,s=sOf p m/\vB p m=true
def HG (p:Pat):Prop:= (0<=p.Kind/\p.Kind<=6)/\(p.Kind≠1->(p.Is.Plus=0/\p.Is.Minus=0)/\p.Not=false)/\(p.Kind≠3->p.Kind≠4->p.Kind≠5->p.L.n=0)/\(p.Kind≠5->p.Min=0/\p.Max=0) /\ (p.Kind=5->p.L.n=1/\0<=p.Min/\p.Min<=32/\(p.Max = -1 \/ (p.Min<=p.Max/\p.Max<=32)))/\vS p.Is
def Ye {s:Sm}{p m:BitVec 32}(h:s=sOf p m):vS s↔vB p m=true:=by
 constructor
 .rintro⟨q,r,e,a⟩;rw[h]at e;have e1:(p.toNat:Int)=q.toNat:=congrArg Sm.Plus e;have e2:(m.toNat:Int)=r.toNat:=congrArg Sm.Minus e;rw[Bq2 (show p.toNat=q.toNat by omega),Bq2 (show m.toNat=r.toNat by omega)];exact a
 exact fun a=>⟨p,m,h,a⟩
def okPS:Pat->Prop
 |.nil=>True
 |.mk _ is _ _ _ n g=>okS is/\∀i,i<n->okPS (g i)
def okPS.is {p:Pat}(h:okPS p):okS p.Is:=by
 cases p with
 |nil=>exact⟨0#32,0#32,rfl⟩
 |mk _ is _ _ _ n g=>exact h.1
def okPS.L {p:Pat}(h:okPS p){i:Nat}(a:i<p.L.n):okPS (p.L.g i):=by
 cases p with
 |nil=>exact Pm a (by show ¬i<0;omega)
 |mk _ is _ _ _ n g=>exact h.2 i a
def chk:Nat->List Pat->Prop
 |0,l=>l=[]
 |_+1,[]=>True
 |k+1,p::l=>HG p/\chk k (p.L.toList++l)
def Au8:∀k,chk k []
 |0=>rfl
 |_+1=>trivial
def OB:∀(k:Nat) (l:List Pat),chk k l->l.length<=k
 |0,l,h=>by rw[show l=[] from h];exact Bm9 _
 |k+1,[],_=>Bu8 _
 |k+1,p::l,⟨_,h⟩=>by
  have:=OB k _ h
  rw[Bo8]at this;simp only[Br0];omega
def ZL:∀(d:Nat) (p:Pat),okP d p->okP (d+1) p
 |0,_,h=>h.elim
 |d+1,p,⟨h1,h2,h3⟩=>⟨h1,h2,fun i a=>ZL d _ (h3 i a)⟩
def QU {α : Type}{s:Sl α}{i:Nat}(h:i<s.n):s.g i∈s.toList:=Bp0.2 ⟨i,Bp3.2 h,rfl⟩
def Bs {α : Type}(s:Sl α):s.toList.length=s.n:=by simp[Sl.toList]
def Vu:∀(k:Nat) (l:List Pat),k<=40->chk k l->∀p∈l,okP k p
 |0,l,_,h,p,hp=>by rw[show l=[] from h]at hp;cases hp
 |k+1,[],_,_,p,hp=>by cases hp
 |k+1,q::l,hk,⟨hn,h⟩,p,hp=>by
  have ih:=Vu k _ (by omega) h;rcases Bp9.1 hp with rfl|hp
  .have hl:=OB k _ h;rw[Bo8,Bs]at hl;exact⟨by omega,fun a=>hn.2.2.2.2.1 a,fun i b=>ih _ (Bp5 _ (QU b))⟩
  exact ZL k p (ih p (Bn9 _ hp))
def AI9 {N:Nat}{p:Pat}(hp:okS p.Is):∃e,ED N p=some e/\(e=0↔HG p):=by
 obtain⟨a,b,f⟩:=hp;have i:=Ye f;unfold ED HG;by_cases h1:0<=p.Kind/\p.Kind<=6
 case neg=>exact An ⟨2,rfl,by simp;omega⟩
 refine Oi ?_;have e0:((p.Is.Plus==0)&&(p.Is.Minus==0))=decide (p.Is.Plus=0/\p.Is.Minus=0):=by rw[Bq0];simp
 rw[e0];by_cases c:p.Kind≠1->(p.Is.Plus=0/\p.Is.Minus=0)/\p.Not=false
 case neg=>
  refine ifT ?_ ⟨2,rfl,by simp[c]⟩;simp only[Bm8,Bp2,bne_iff_ne,ne_eq,BA5,decide_eq_false_iff_not];rw[Classical.not_imp]at c;refine⟨c.1,?_⟩;by_cases h:p.Is.Plus=0/\p.Is.Minus=0
  .right
   cases hn:p.Not
   .exact Pm ⟨h,hn⟩ c.2
   rfl
  exact .inl h
 refine ifF ?_ (ltX ?_)
 .simp only[Bm8,Bp2,bne_iff_ne,ne_eq,BA5,decide_eq_false_iff_not];rintro⟨g1,g2⟩;obtain⟨g3,g4⟩:=c g1;rcases g2 with g2|g2
  .exact g2 g3
  rw[g4]at g2;cases g2
 have rest:(p.Kind≠3->p.Kind≠4->p.Kind≠5->p.L.n=0)->∃e,(if ((p.Kind != 5)&&((p.Min != 0)||(p.Max != 0))) then some (2:Int)else
  lt (fun (z2:Bool)=>if z2 then some 2 else (S7 N p.Is).bind fun y1=>if (!y1) then some 14 else some 0) fun k2=>
   if (p.Kind==5) then if (((p.L.n:Nat):Int) != 1) then k2 true else if (decide (p.Min<0)) then k2 true else if (decide (32<p.Min)) then k2 true else
    if (p.Max != (-1)) then if (decide (p.Max<p.Min)) then k2 true else k2 (decide (32<p.Max))else k2 false else k2 false)=some e /\
  (e=0↔(0<=p.Kind/\p.Kind<=6)/\(p.Kind≠1->(p.Is.Plus=0/\p.Is.Minus=0)/\p.Not=false)/\(p.Kind≠3->p.Kind≠4->p.Kind≠5->p.L.n=0)/\(p.Kind≠5->p.Min=0/\p.Max=0) /\
   (p.Kind=5->p.L.n=1/\0<=p.Min/\p.Min<=32/\(p.Max = -1 \/ (p.Min<=p.Max/\p.Max<=32)))/\vS p.Is):=by
  intro j;by_cases d:p.Kind≠5->p.Min=0/\p.Max=0
  case neg=>refine ifT ?_ ⟨2,rfl,by simp[d]⟩;rw[Classical.not_imp]at d;simp only[Bm8,Bp2,bne_iff_ne,ne_eq];omega
  refine ifF ?_ (ltX ?_)
  .simp only[Bm8,Bp2,bne_iff_ne,ne_eq];rintro⟨g1,g2⟩
   have:=d g1
   omega
  have last:(p.Kind=5->p.L.n=1/\0<=p.Min/\p.Min<=32/\(p.Max = -1 \/ (p.Min<=p.Max/\p.Max<=32)))->∃e,(if false then some (2:Int)else (S7 N p.Is).bind fun y1=>if (!y1) then some 14 else some 0)=some e /\
   (e=0↔(0<=p.Kind/\p.Kind<=6)/\(p.Kind≠1->(p.Is.Plus=0/\p.Is.Minus=0)/\p.Not=false)/\(p.Kind≠3->p.Kind≠4->p.Kind≠5->p.L.n=0)/\(p.Kind≠5->p.Min=0/\p.Max=0) /\
    (p.Kind=5->p.L.n=1/\0<=p.Min/\p.Min<=32/\(p.Max = -1 \/ (p.Min<=p.Max/\p.Max<=32)))/\vS p.Is):=by
   intro g;refine Oj ?_;rw[i,f,QT];refine B3 rfl ?_;cases l:vB a b
   .exact ifT rfl ⟨14,rfl,by simp⟩
   exact Oj ⟨0,rfl,by rw[<- f];exact⟨fun _=>⟨h1,c,j,d,g,rfl⟩,fun _=>rfl⟩⟩
  have bad:¬(p.Kind=5->p.L.n=1/\0<=p.Min/\p.Min<=32/\(p.Max = -1 \/ (p.Min<=p.Max/\p.Max<=32)))->∃e,(if true then some (2:Int)else (S7 N p.Is).bind fun y1=>if (!y1) then some 14 else some 0)=some e /\
   (e=0↔(0<=p.Kind/\p.Kind<=6)/\(p.Kind≠1->(p.Is.Plus=0/\p.Is.Minus=0)/\p.Not=false)/\(p.Kind≠3->p.Kind≠4->p.Kind≠5->p.L.n=0)/\(p.Kind≠5->p.Min=0/\p.Max=0) /\
    (p.Kind=5->p.L.n=1/\0<=p.Min/\p.Min<=32/\(p.Max = -1 \/ (p.Min<=p.Max/\p.Max<=32)))/\vS p.Is):=fun g=>ifT rfl ⟨2,rfl,⟨fun h=>Pm h (by decide),fun h=>Pm h.2.2.2.2.1 g⟩⟩
  by_cases k5:p.Kind=5
  .refine ifT (by simp[k5]) ?_;by_cases g1:p.L.n=1
   case neg=>exact An (bad fun h=>g1 (h k5).1)
   refine Oi ?_;by_cases g2:p.Min<0
   .exact ifT (by simpa using g2) (bad fun h=>by have:=h k5;omega)
   refine ifF (by simpa using g2) ?_;by_cases g3:32<p.Min
   .exact ifT (by simpa using g3) (bad fun h=>by have:=h k5;omega)
   refine ifF (by simpa using g3) ?_;by_cases g4:p.Max = -1
   .exact ifF (by simp[g4]) (last fun _=>⟨g1,by omega,by omega,.inl g4⟩)
   refine ifT (by simp[g4]) ?_;by_cases g5:p.Max<p.Min
   .exact ifT (by simpa using g5) (bad fun h=>by have:=h k5;omega)
   refine ifF (by simpa using g5) ?_;by_cases g6:32<p.Max
   .rw[decide_eq_true g6];exact bad fun h=>by have:=h k5;omega
   rw[decide_eq_false g6];exact last fun _=>⟨g1,by omega,by omega,.inr ⟨by omega,by omega⟩⟩
  exact ifF (by simp[k5]) (last fun h=>Pm h k5)
 by_cases k3:p.Kind=3
 .exact ifF (by simp[k3]) (Oj (rest fun h=>Pm k3 h))
 refine ifT (by simp[k3]) ?_;by_cases k4:p.Kind=4
 .exact ifF (by simp[k4]) (Oj (rest fun _ h=>Pm k4 h))
 refine ifT (by simp[k4]) ?_;by_cases k5:p.Kind=5
 .exact ifF (by simp[k5]) (Oj (rest fun _ _ h=>Pm k5 h))
 refine ifT (by simp[k5]) ?_;by_cases hn:p.L.n=0
 .exact Oi (rest fun _ _ _=>hn)
 exact An ⟨2,rfl,⟨fun h=>Pm h (by decide),fun h=>Pm (h.2.2.1 k3 k4 k5) hn⟩⟩
def FO {α : Type}(s:Sl α){i:Nat}(h:i<s.n):s.toList.drop i=s.g i::s.toList.drop (i+1):=by
 have hl:i<s.toList.length:=by rw[Bs];exact h
 rw[Bx9 hl];simp[Sl.toList]
def DO {α : Type}(s:Sl α):s.toList.drop s.n=[]:=Bt9 (by rw[Bs];exact Bm9 _)
def Au9 {N:Nat}(o:1000<=N):∀(d:Nat),d<=40->∀(p:Pat),okPS p->∀M,N+d+1<=M->∃r,Db M p ((40-d:Nat):Int)=some r /\
 ∃k:Nat,r.1=(k:Int)/\40-d<=k/\k<=40/\(r.2=0->40-d<k/\∀l,chk d (p::l)↔chk (40-k) l)/\(r.2≠0->∀l,¬chk d (p::l))
 |d,hd,p,hp,0,hM=>by omega
 |0,hd,p,hp,M+1,hM=>by show ∃r,Y3 (Db M) M p _=some r/\_;unfold Y3;exact Gc ⟨_,rfl,40,rfl,by omega,by omega,fun h=>Pm h (by decide),fun _ l h=>by cases h⟩
 |d+1,hd,p,hp,M+1,hM=>by
  show ∃r,Y3 (Db M) M p _=some r/\_;unfold Y3;refine Oi ?_;obtain⟨e,q,hn⟩:=AI9 (N:=M) hp.is;refine B3 q ?_;by_cases c:e=0
  case neg=>exact ifT (by simp[c]) ⟨_,rfl,40-(d+1),rfl,Bm9 _,by omega,fun h=>Pm h c,fun _ l h=>c (hn.2 h.1)⟩
  refine ifF (by simp[c]) ?_;have a:=hn.1 c;rw[Pd];refine Q0 (fun i x1 x2=>x2=(i:Int)/\∃k:Nat,x1=(k:Int)/\40-(d+1)+1+i<=k/\k<=40/\i<=p.L.n/\∀l,chk (d+1) (p::l)↔chk (40-k) (p.L.toList.drop i++l)) 41 _ (by omega)
   ⟨rfl,40-(d+1)+1,rfl,by omega,by omega,by omega,fun l=>by rw[show 40-(40-(d+1)+1)=d by omega];exact⟨fun h=>h.2,fun h=>⟨a,h⟩⟩⟩ ?_
  rintro j i x1 x2 t ⟨rfl,k,rfl,h1,s,u,f⟩ hs;by_cases hl:i<p.L.n
  .refine An (Am ?_);obtain⟨r,m,k',r1,r2,r3,r4,r5⟩:=Au9 o (40-k) (by omega) (p.L.g i) (hp.L hl) M (by omega);rw[show ((40-(40-k):Nat):Int)=(k:Int) by omega]at m;refine B3 (by rw[Bm2];exact m) ?_;by_cases b:r.2=0
   .refine ifF (by simp[b]) (hs (by omega) _ _ ⟨Pd,k',r1,by have:=(r4 b).1;omega,r3,by omega,fun l=>?_⟩);rw[f,FO _ hl,Bq9];exact (r4 b).2 _
   refine ifT (by simp[b]) ⟨_,rfl,k',r1,by omega,r3,fun h=>Pm h b,fun _ l hc=>?_⟩;rw[f,FO _ hl,Bq9]at hc;exact r5 b _ hc
  obtain rfl:i=p.L.n:=by omega
  refine Oj ⟨_,rfl,k,rfl,by omega,s,fun _=>⟨by omega,fun l=>?_⟩,fun h=>Pm rfl h⟩;rw[f,DO];rfl
def OC {N:Nat}(f:2000<=N){p:Pat}(hp:okPS p):∃e,Bh N p=some e/\(e=0↔chk 40 [p]):=by
 obtain⟨r,b,k,h1,g,i,c,d⟩:=Au9 (N:=1500) (by omega) 40 (Bm9 _) p hp N (by omega);unfold Bh;refine B3 b ⟨_,rfl,fun h=>?_,fun h=>?_⟩
 .exact ((c h).2 []).2 (Au8 _)
 by_cases a:r.2=0
 .exact a
 exact Pm h (d a [])
end Go.AM
namespace Go.AM
open Go.Proofs
def Av0 (x:BitVec 64)(h:x≠0#64):Lib.ctz 64 x.toNat<64/\x.getLsbD (Lib.ctz 64 x.toNat)=true/\∀j,j<Lib.ctz 64 x.toNat->x.getLsbD j=false:=by
 have b:x.toNat≠0:=fun e=>h (Bq2 (by simpa using e));obtain⟨m,hm,a⟩:=Lib.ctzFrom_spec 64 x.toNat (by omega) x.isLt;have e:Lib.ctz 64 x.toNat=Lib.ctzFrom 64 x.toNat:=by unfold Lib.ctz;rw[Pl b]
 rw[e];refine⟨a,?_,fun j c=>?_⟩
 .show x.toNat.testBit _=true;rw[hm,BD9];simp[<- hm,Nat.testBit_zero]
 show x.toNat.testBit _=false;rw[hm,BD9];simp[<- hm];omega
def FP (x:BitVec 64)(i:Nat):List Int:=((List.range' i (64-i)).filter fun j=>x.getLsbD j).map fun (j:Nat)=>(j:Int)
def KS {x:BitVec 64}{i:Nat}(h:∀j,j<64->x.getLsbD j=false):FP x i=[]:=by
 unfold FP;rw[BE5.2 fun j a=>by
  have:=List.mem_range'.1 a
  simp;exact h j (by omega)]
 rfl
def QV {x:BitVec 64}{t:Nat}:∀(k i:Nat),t=i+k->t<64->x.getLsbD t=true->(∀j,j<t->x.getLsbD j=false)->FP x i=(t:Int)::FP x (t+1)
 |0,i,h,ht,hb,hl=>by
  obtain rfl:t=i:=by omega
  unfold FP;rw[show 64-t=(64-(t+1))+1 by omega,Bv5,Bz0 hb];rfl
 |k+1,i,h,ht,hb,hl=>by rw[<- QV k (i+1) (by omega) ht hb hl];unfold FP;rw[show 64-i=(64-(i+1))+1 by omega,Bv5,Bz1 (by simp;exact hl i (by omega))]
def Yf {x y:BitVec 64}{i:Nat}(h:∀j,i<=j->x.getLsbD j=y.getLsbD j):FP x i=FP y i:=by unfold FP;rw[List.filter_congr fun j a=>h j (by have:=List.mem_range'.1 a;omega)]
def Bl9 (M:Nat)(a:Int->Option (List Int))(x1:Int):Option (List Int):= if (x1 != 0) then (H7 M x1).bind fun y3=>if (0:Int)<=y3 then Az y3 (a (F4 .andNot .u64 x1 (shI .shl .u64 1 y3))) else none else some []
def Av1 {x:BitVec 64}{M:Nat}{a:Int->Option (List Int)}(hx:x≠0#64):Bl9 M a (U x)=Az ((Lib.ctz 64 x.toNat:Nat):Int) (a (U (x &&& ~~~(1#64 <<< Lib.ctz 64 x.toNat)))):=by
 have c:x.toNat≠0:=fun e=>hx (Bq2 (by simpa using e));have b:=x.isLt;unfold Bl9;rw[Pk (by simp;omega)]
 have:H7 M (U x)=some ((Lib.ctz 64 x.toNat:Nat):Int):=by unfold H7;rw[Pk ⟨show (0:Int)<=(x.toNat:Int) by omega,show (x.toNat:Int)<18446744073709551616 by omega⟩];rfl
 rw[this,Bm6,Pe,Vg _ (Av0 x hx).1,AH8]
def Vv {M:Nat}{a:Int->Option (List Int)}:Bl9 M a (U 0#64)=some []:=rfl
def AX8 (M:Nat):∀(k i:Nat) (x:BitVec 64),64-i<=k->(∀j,j<i->x.getLsbD j=false)->∀N,k<N->Q7 N (Bl9 M) (U x)=some (FP x i):=by
 intro k
 induction k with
 |zero=>
  intro i x hk hl N b;have g:x=0#64:=Bs2 fun j a=>by simp;exact hl j (by omega)
  subst g
  match N,b with
  |N+1,_=>rw[KS fun j a=>by simp,T9,Vv]
 |succ k ih=>
  intro i x hk hl N b
  match N,b with
  |N+1,b=>
   by_cases hx:x=0#64
   .subst hx;rw[KS fun j a=>by simp,T9,Vv]
   obtain⟨h1,c,d⟩:=Av0 x hx;have l:i<=Lib.ctz 64 x.toNat:=by
    by_cases m:Lib.ctz 64 x.toNat<i
    .rw[hl _ m]at c;cases c
    omega
   rw[QV (Lib.ctz 64 x.toNat-i) i (by omega) h1 c d,T9,Av1 hx];generalize Lib.ctz 64 x.toNat=t at h1 c d l;have hb:∀j,j<64->(x &&& ~~~(1#64 <<< t)).getLsbD j=(x.getLsbD j && !decide (j=t)):=fun j a=>by rw[Bo2,Br8,GP h1 a];simp[a]
   have hc:FP x (t+1)=FP (x &&& ~~~(1#64 <<< t)) (t+1):=Yf fun j a=>by
    by_cases f:j<64
    .rw[hb j f];have:¬j=t:=by omega
     simp[this]
    rw[BF4 _ _ (by omega),BF4 _ _ (by omega)]
   rw[ih (t+1) (x &&& ~~~(1#64 <<< t)) (by omega) (fun j a=>by
    rw[hb j (by omega)];by_cases e:j=t
    .simp[e]
    rw[d j (by omega)];rfl) N (by omega),<- hc]
   rfl
def IJ (x:BitVec 64){N:Nat}(b:100<=N):Q9 N (U x)=some (FP x 0):=
 AX8 N 64 0 x (by omega) (fun j a=>Pm a (by omega)) N (by omega)
def mem_bitsF {x:BitVec 64}{i:Nat}{y:Int}:y∈FP x i ↔ ∃j:Nat,y=(j:Int)/\i<=j/\j<64/\x.getLsbD j=true:=by
 unfold FP;simp only[Bp0,Bw3,BC8];constructor
 .rintro⟨j,⟨h1,a⟩,rfl⟩;exact⟨j,rfl,h1.1,by omega,a⟩
 rintro⟨j,rfl,h1,a,b⟩;exact⟨j,⟨⟨h1,by omega⟩,b⟩,rfl⟩
def Av2 {T A R:Type}{body:(A->Option R)->T->A->Option R}{k:A->Option R}{K6:R->Prop}(J:List T->A->Prop)(c:∀a,J [] a->∃r,k a=some r/\K6 r)
 (b:∀t L a self,J (t::L) a->(∀a',J L a' -> ∃r,self a' = some r/\K6 r)->∃r,body self t a=some r/\K6 r):∀(L:List T) (a:A),J L a->∃r,Q5 L body k a=some r/\K6 r
 |[],a,h=>c a h
 |t::L,a,h=>b t L a _ h fun a' h'=>Av2 J c b L a' h'
def TabA (n:Nat)(R:Nat->Nat->Prop)(f:Nat->Int):Prop:=TabR n R f/\∀a,n<a->f a=0
def TabA.congr {n:Nat}{R R' : Nat->Nat->Prop}{f:Nat->Int}(h:TabA n R f)(c:∀a b,a<=n->b<=n->(R a b↔R' a b)):TabA n R' f:=⟨h.1.congr c,h.2⟩
def zeroA (n:Nat):TabA n (fun _ _=>False) (fun _=>0):=⟨AI4 fun _ _=>rfl,fun _ _=>rfl⟩
def Ej (f:Nat->Int)(i:Nat)(v:Int)(a:Nat):NJ f i v a=if a=i then v else f a:=rfl
def AO4 {N n:Nat}{R S:Nat->Nat->Prop}{x y:Nat->Int}(hn:n<=32)(f:1000<=N)(hR:TabA n R x)(Z:TabA n S y) :∃s,O1 N x y=some s/\TabA n (fun a b=>R a b \/ S a b) s:=by
 unfold O1;refine Q0 (fun i x1 x2=>x2=(i:Int)/\∀a,x1 a=if a<i then F4 .or .u64 (x a) (y a)else x a) 33 _ (by omega) ⟨rfl,fun a=>by rw[Pg]⟩ ?_;rintro d i x1 x2 g ⟨rfl,c⟩ hs;by_cases hl:i<33
 .refine An (Am (Am (hs (by omega) _ _ ⟨Pd,fun a=>?_⟩)));rw[Ej,Bm2,Br1,Bs0];by_cases e:a=i
  .subst e;rw[Pk rfl,Pe,c a,Pg]
  rw[Pl e,c a];by_cases e2:a<i
  .rw[Pk e2,Pe]
  rw[Pl e2,Pg]
 refine Oi ⟨x1,rfl,fun a ha=>?_,fun a ha=>?_⟩
 .obtain⟨u,e1,g1⟩:=hR.1 a ha;obtain⟨v,e2,g2⟩:=Z.1 a ha;refine⟨u ||| v,by rw[c a,Pe,e1,e2,Bl8],fun b hb=>?_⟩;rw[Bo1,Bp2,g1 b hb,g2 b hb];constructor
  .rintro (⟨h1,c⟩ | ⟨h1,c⟩)
   .exact⟨h1,.inl c⟩
   exact⟨h1,.inr c⟩
  rintro⟨h1,c|c⟩
  .exact .inl ⟨h1,c⟩
  exact .inr ⟨h1,c⟩
 rw[c a];split
 .rw[hR.2 a ha,Z.2 a ha];rfl
 exact hR.2 a ha
def GW {N n:Nat}(hn:n<=32)(f:1000<=N):∃s,Q3 N (n:Int)=some s/\TabA n (fun a b=>a=b) s:=by
 unfold Q3;rw[Pd];refine Q0 (fun i x1 x2=>x2=(i:Int)/\∀a,x1 a=if a<i then U (1#64 <<< a)else 0) (n+1) _ (by omega) ⟨rfl,fun a=>rfl⟩ ?_;rintro d i x1 x2 g ⟨rfl,c⟩ hs;by_cases hl:i<=n
 .refine An (Am (hs (by omega) _ _ ⟨Pd,fun a=>?_⟩));rw[Ej,Bm2,Br1,Bs0];by_cases e:a=i
  .subst e;rw[Pk rfl,Pe,Vg _ (by omega)]
  rw[Pl e,c a];by_cases e2:a<i
  .rw[Pk e2,Pe]
  rw[Pl e2,Pg]
 refine Oi ⟨x1,rfl,fun a ha=>⟨1#64 <<< a,by rw[c a,Pe],fun b hb=>?_⟩,fun a ha=>by rw[c a,Pg]⟩;rw[GP (by omega) hb,Pp];omega
def Mn {N n:Nat}{R S:Nat->Nat->Prop}{x y:Nat->Int}(hn:n<=32)(hN:1000<=N)(hR:TabA n R x)(Z:TabA n S y) :∃s,E9 N x y=some s/\TabA n (fun a b=>∃c,c<=n/\R a c/\S c b) s:=by
 unfold E9;refine Q0 (fun i x3 x4=>x4=(i:Int)/\(∀a,a<i->a<=n->∃z:BitVec 64,x3 a=U z/\∀b,b<64->(z.getLsbD b=true↔b<=n/\∃c,c<=n/\R a c/\S c b))/\∀a,i<=a \/ n<a->x3 a=0) 33 _ (by omega)
  ⟨rfl,fun a ha=>Pm ha (by omega),fun a _=>rfl⟩ ?_
 rintro a1 i x3 x4 hi ⟨rfl,q,m⟩ hs;by_cases hl:i<33
 .refine An (Am ?_);rw[Bm2,Br1,Bs0];refine B3 (x:=x i) rfl ?_;by_cases r:i<=n
  .obtain⟨u,e1,g1⟩:=hR.1 i r;refine B3 (x:=FP u 0) (by rw[e1];exact IJ u (by omega)) ?_;refine Av2 (fun L z=>(∀a,a≠i->z a=x3 a)/\(∀t∈L,∃c:Nat,t=(c:Int)/\c<=n/\R i c)/\∃v:BitVec 64,z i=U v/\∀b,b<64->((v.getLsbD b=true \/ ∃c:Nat,(c:Int)∈L/\b<=n/\S c b)↔(b<=n/\∃c,c<=n/\R i c/\S c b))) ?_ ?_ _ _ ?_
   .rintro z ⟨k1,k2,v,k3,k4⟩;refine hs (by omega) _ _ ⟨Pd,fun a ha f=>?_,fun a ha=>?_⟩
    .by_cases e:a=i
     .subst e;exact⟨v,k3,fun b hb=>by rw[<- k4 b hb];simp⟩
     obtain⟨z',p1,p2⟩:=q a (by omega) f;exact⟨z',by rw[k1 a e];exact p1,p2⟩
    rw[k1 a (by omega)];exact m a (by omega)
   .rintro t L z w ⟨k1,k2,v,k3,k4⟩ a0;obtain⟨c,rfl,hc,a2⟩:=k2 t (by simp);refine Am (a0 _ ⟨fun a ha=>?_,fun t ht=>k2 t (by simp[ht]),?_⟩)
    .rw[Ej,Pg];exact k1 a ha
    obtain⟨yc,e2,g2⟩:=Z.1 c hc;refine⟨v ||| yc,?_,fun b hb=>?_⟩
    .rw[Ej,Pe];simp only[Bm2,Br1,Bs0];rw[k3,e2,Bl8]
    rw[<- k4 b hb,Bo1,Bp2,g2 b hb];constructor
    .rintro ((h|⟨h,h'⟩)|⟨c',h,h'⟩)
     .exact .inl h
     .exact .inr ⟨c,by simp,h,h'⟩
     exact .inr ⟨c',by simp[h],h'⟩
    rintro (h|⟨c',h,h',d⟩)
    .exact .inl (.inl h)
    rcases Bp9.1 h with h|h
    .have:c' = c:=by omega
     subst this;exact .inl (.inr ⟨h',d⟩)
    exact .inr ⟨c',h,h',d⟩
   refine⟨fun _ _=>rfl,fun t ht=>?_,0#64,m i (.inl (Bm9 _)),fun b hb=>?_⟩
   .obtain⟨j,rfl,_,o,hb⟩:=mem_bitsF.1 ht;exact⟨j,rfl,((g1 j o).1 hb).1,((g1 j o).1 hb).2⟩
   simp only[BB3,Bn1,false_or];constructor
   .rintro⟨c,hc,h,h'⟩;obtain⟨j,o,_,g,l⟩:=mem_bitsF.1 hc;obtain rfl:c=j:=by omega
    exact⟨h,c,((g1 c g).1 l).1,((g1 c g).1 l).2,h'⟩
   rintro⟨h,c,hc,h',d⟩;exact⟨c,mem_bitsF.2 ⟨c,rfl,by omega,by omega,(g1 c (by omega)).2 ⟨hc,h'⟩⟩,h,d⟩
  refine B3 (x:=[]) (by rw[hR.2 i (by omega)];exact (IJ 0#64 (by omega)).trans (by rw[KS fun j o=>by simp])) ?_;exact hs (by omega) _ _ ⟨Pd,fun a ha f=>q a (by omega) f,fun a ha=>m a (by omega)⟩
 exact Oi ⟨x3,rfl,fun a ha=>q a (by omega) ha,fun a ha=>m a (.inr ha)⟩
def AJ0 (N:Nat)(x:Nat->Int):J3 N x=E9 N x x:=rfl
end Go.AM
namespace Go.AM
variable {N:Nat}
open Go.Proofs
def Bi9:∀m:Fin 33,(F4 .and .i64 ((m.val:Nat):Int) 1==1)=decide (m.val % 2=1)/\shI .shr .i64 ((m.val:Nat):Int) 1=((m.val / 2:Nat):Int):=by decide +kernel
def Vw {N n:Nat}{R:Nat->Nat->Prop}{x:Nat->Int}(hn:n<=32)(o:1000<=N)(u:Fwd n R)(hR:TabA n R x){k:Nat}(hk:k<=32) :∃s,G1 N x (k:Int) (n:Int)=some s/\TabA n (Id n R k) s:=by
 unfold G1;obtain⟨y1,e1,h1⟩:=GW (N:=N) hn o;refine B3 e1 ?_;refine TP (fun i x1 x2 x3=>x1=((k / 2 ^ i:Nat):Int)/\TabA n (Id n R (2 ^ i)) x2/\TabA n (Id n R (k % 2 ^ i)) x3) 6 _ (by omega) ⟨by simp,?_,?_⟩ ?_
 .exact hR.congr fun a b ha hb=>⟨fun h=>⟨a,ha,rfl,h⟩,fun⟨c,hc,(h:a=c),h'⟩=>h ▸ h'⟩
 .rw[Nat.pow_zero,Nat.mod_one];exact h1
 rintro v i x1 x2 x3 w ⟨rfl,q,l⟩ hs;have hm:k / 2 ^ i<=32:=Bq1 (Nat.div_le_self _ _) hk;obtain⟨b1,b2⟩:=Bi9 ⟨k / 2 ^ i,by omega⟩;simp only at b1 b2;have f:k / 2 ^ i / 2=k / 2 ^ (i+1):=by rw[Nat.div_div_eq_div_mul,Nat.pow_succ]
 have g:k % 2 ^ (i+1)=k % 2 ^ i+2 ^ i*(k / 2 ^ i % 2):=Nat.mod_pow_succ;have d:∃s,J3 N x2=some s/\TabA n (Id n R (2 ^ (i+1))) s:=by obtain⟨s,e,h⟩:=Mn hn o q q;refine⟨s,(AJ0 N x2).trans e,h.congr fun a b ha hb=>?_⟩;rw[show 2 ^ (i+1)=2 ^ i+2 ^ i by rw[Nat.pow_succ];omega];exact (Ed u (2 ^ i) ha (2 ^ i) b).symm
 obtain⟨sq,esq,d⟩:=d;by_cases m:k / 2 ^ i=0
 .refine ifF (by simp[m]) ⟨x3,rfl,?_⟩
  have:k % 2 ^ i=k:=Bv4 (by
   have:=BG0.1 m
   rcases this with h|h
   .exact Pm h (Nat.ne_of_gt (Nat.two_pow_pos i))
   exact h)
  rw[this]at l;exact l
 have j:i<6:=by
  by_cases h:i<6
  .exact h
  exact Pm (Bu7 (BG9 hk (Bo7 (by decide:32<2 ^ 6) (Bw0 (by omega) (by omega))))) m
 refine ifT (decide_eq_true (Int.natCast_pos.2 (Nat.pos_of_ne_zero m))) ?_;by_cases r:k / 2 ^ i % 2=1
 .refine ifT (by rw[b1];simp[r]) ?_;obtain⟨t,et,ht⟩:=Mn hn o l q;refine B3 et (B3 esq (hs j _ _ _ ⟨by rw[b2,f],d,ht.congr fun a b ha hb=>?_⟩));rw[g,r,Bs0];exact (Ed u (k % 2 ^ i) ha (2 ^ i) b).symm
 refine ifF (by rw[b1];simp[r]) (B3 esq (hs j _ _ _ ⟨by rw[b2,f],d,?_⟩));rw[g,show k / 2 ^ i % 2=0 by omega,Nat.mul_zero,Bv1];exact l
def AX9 {s c:Sm}(hs:okS s)(hc:okS c):((F4 .or .u32 (F4 .andNot .u32 c.Plus s.Plus) (F4 .andNot .u32 c.Minus s.Minus))==0)=XO s c:=by
 obtain⟨p,m,rfl⟩:=hs;obtain⟨a,b,rfl⟩:=hc;have e:∀x y:BitVec 32,((F4 .and .u32 (x.toNat:Int) (y.toNat:Int))==(y.toNat:Int))=decide (y &&& ~~~ x=0#32):=by
  intro x y;rw[Fu,Bq0];simp only[beq_iff_eq,Pp];constructor
  .intro h;have h:x &&& y=y:=Bq2 (by omega);refine (z32 _).2 fun i d=>?_
   have:=congrArg (·.getLsbD i) h
   simp only[Bo2,Br8,d,decide_true,By8]at this⊢;cases hx:x.getLsbD i<;>cases hy:y.getLsbD i<;>simp_all
  intro h
  have:x &&& y=y:=JX fun i d=>by
   have:=(z32 _).1 h i d
   simp only[Bo2,Br8,d,decide_true,By8]at this⊢;cases hx:x.getLsbD i<;>cases hy:y.getLsbD i<;>simp_all
  rw[this]
 unfold XO;simp only[e,EX,Lt,eq0];rw[Bq0];simp only[Bm8,Pp];constructor
 .intro h;have h:=(z32 _).1 h;exact⟨(z32 _).2 fun i d=>by have:=h i d;rw[Bo1,Bw1]at this;exact this.1,(z32 _).2 fun i d=>by have:=h i d;rw[Bo1,Bw1]at this;exact this.2⟩
 rintro⟨h1,f⟩;rw[h1,f];rfl
def Av3 (q:1000<=N){w:Sl Sm}(hw:w.n<=32)(l:∀i,i<w.n->okS (w.g i)){c:Sm}(hc:okS c)(no:Bool) :∃f,Z4 N ⟨c,no⟩ w=some f/\TabA w.n (fun a b=>a<w.n/\b=a+1/\(XO (w.g a) c != no)=true) f:=by
 unfold Z4;refine Q0 (fun i x1 x2=>x2=(i:Int)/\∀a,x1 a=if a<i/\(XO (w.g a) c != no) then U (1#64 <<< (a+1))else 0) w.n _ (by omega) ⟨rfl,fun a=>by rw[Pg]⟩ ?_;rintro m i x1 x2 r ⟨rfl,d⟩ hs;by_cases hl:i<w.n
 .refine An (Am ?_);rw[Bm2,AX9 (l i hl) hc];by_cases hb:(XO (w.g i) c != no)=true
  .refine ifT (by revert hb;cases XO (w.g i) c<;>cases no<;>simp) ?_;rw[Pd];refine Am (hs hl _ _ ⟨rfl,fun a=>?_⟩);rw[Ej,Br1,Bs0,Vg _ (by omega)];by_cases e:a=i
   .subst e;rw[Pk rfl,Pk ⟨by omega,hb⟩]
   rw[Pl e,d a];by_cases e2:a<i
   .simp only[e2,show a<i+1 by omega,true_and]
   rw[Pg,Pg]
  refine ifF (by revert hb;cases XO (w.g i) c<;>cases no<;>simp) (hs hl _ _ ⟨Pd,fun a=>?_⟩);rw[d a];by_cases e:a=i
  .subst e;rw[Pg,Pl (fun h=>hb h.2)]
  by_cases e2:a<i
  .simp only[e2,show a<i+1 by omega,true_and]
  rw[Pg,Pg]
 refine Oi ⟨x1,rfl,fun a ha=>?_,fun a ha=>by rw[d a,Pg]⟩;by_cases hb:a<w.n/\(XO (w.g a) c != no)=true
 .refine⟨1#64 <<< (a+1),by rw[d a,Pk ⟨by omega,hb.2⟩],fun b j=>?_⟩;rw[GP (by omega) j,Pp];exact⟨fun h=>⟨by omega,hb.1,h,hb.2⟩,fun h=>h.2.2.1⟩
 refine⟨0#64,by rw[d a,Pl (fun h=>hb ⟨by omega,h.2⟩)];rfl,fun b j=>?_⟩;simp only[BB3,Bn1,false_iff];rintro⟨_,h1,d,o⟩;exact hb ⟨h1,o⟩
def Av4 {n a0 b0:Nat}(ha:a0<=n)(hb:b0<=n)(hn:n<=32):TabA n (fun a b=>a=a0/\b=b0) (NJ (fun _=>0) a0 (U (1#64 <<< b0))):=by
 refine⟨fun a d=>?_,fun a d=>by rw[Ej,Pg]⟩;by_cases e:a=a0
 .refine⟨1#64 <<< b0,by rw[Ej,Pk e],fun b c=>?_⟩;rw[GP (by omega) c,Pp];omega
 refine⟨0#64,by rw[Ej,Pl e];rfl,fun b c=>?_⟩;simp only[BB3,Bn1,false_iff];exact fun h=>e h.2.1
def ZM {w:Sl Sm}(hw:w.n<=32)(e:Bool):∃f,AX N ⟨e⟩ w=some f/\TabA w.n (fun a b=>a=(if e then w.n else 0)/\b=(if e then w.n else 0)) f:=by
 unfold AX;cases e
 .refine Oj (Ge ⟨_,rfl,?_⟩);exact Av4 (n:=w.n) (a0:=0) (b0:=0) (by omega) (by omega) hw
 refine ifT rfl (Am ⟨_,rfl,?_⟩);rw[Bm2,Br1,Bs0,Vg _ (by omega)];exact Av4 (Bm9 _) (Bm9 _) hw
def AY0 (a:1000<=N){w:Sl Sm}(hw:w.n<=32){rec:Part->Sl Sm->Option (Nat->Int)}{m:Nat}(hm:m<=40){g:Nat->Part}{Q:Nat->Nat->Nat->Prop}
 (hc:∀i,i<m->∃f,rec (g i) w=some f/\TabA w.n (Q i) f):∃f,BK rec N ⟨⟨m,g⟩⟩ w=some f/\TabA w.n (Ai6 w.n Q m) f:=by
 unfold BK;obtain⟨y1,e1,h1⟩:=GW (N:=N) hw a;refine B3 e1 ?_;refine Q0 (fun i x1 x2=>x2=(i:Int)/\i<=m/\TabA w.n (Ai6 w.n Q i) x1) m _ (by omega) ⟨rfl,by omega,h1⟩ ?_;rintro b i x1 x2 o ⟨rfl,d,c⟩ hs;by_cases hl:i<m
 .refine An (ifT (by show (0:Int)<=i/\(i:Int)<m;omega) ?_);obtain⟨f,e2,j⟩:=hc i hl;refine B3 (by rw[Bm2];exact e2) ?_;obtain⟨s,e3,l⟩:=Mn hw a c j;exact B3 e3 (hs hl _ _ ⟨Pd,hl,l⟩)
 obtain rfl:i=m:=by omega
 exact Oj ⟨x1,rfl,c⟩
def AY1 (l:1000<=N){w:Sl Sm}(hw:w.n<=32){rec:Part->Sl Sm->Option (Nat->Int)}{m:Nat}(hm:m<=40){g:Nat->Part}{Q:Nat->Nat->Nat->Prop}
 (hc:∀i,i<m->∃f,rec (g i) w=some f/\TabA w.n (Q i) f):∃f,BL rec N ⟨⟨m,g⟩⟩ w=some f/\TabA w.n (fun a b=>∃i,i<m/\Q i a b) f:=by
 unfold BL;refine Q0 (fun i x1 x2=>x2=(i:Int)/\i<=m/\TabA w.n (fun a b=>∃j,j<i/\Q j a b) x1) m _ (by omega) ⟨rfl,by omega,(zeroA _).congr fun a b _ _=>⟨False.elim,fun⟨j,h,_⟩=>Pm h (by omega)⟩⟩ ?_;rintro c i x1 x2 t ⟨rfl,o,d⟩ hs;by_cases hl:i<m
 .refine An (ifT (by show (0:Int)<=i/\(i:Int)<m;omega) ?_);obtain⟨f,e2,q⟩:=hc i hl;refine B3 (by rw[Bm2];exact e2) ?_;obtain⟨s,e3,r⟩:=AO4 hw l d q;refine B3 e3 (hs hl _ _ ⟨Pd,hl,r.congr fun a b _ _=>⟨?_,?_⟩⟩)
  .rintro (⟨j,h,h'⟩ | h)
   .exact⟨j,by omega,h'⟩
   exact⟨i,by omega,h⟩
  rintro⟨j,h,h'⟩;by_cases e:j=i
  .subst e;exact .inr h'
  exact .inl ⟨j,by omega,h'⟩
 obtain rfl:i=m:=by omega
 exact Oj ⟨x1,rfl,d⟩
end Go.AM
namespace Go.AM
open Go.Proofs
def AY2 {N:Nat}(l:1000<=N){w:Sl Sm}(hw:w.n<=32){rec:Part->Sl Sm->Option (Nat->Int)}{pt:Part}{Q:Nat->Nat->Prop}(d:Fwd w.n Q){f:Nat->Int}(u:rec pt w=some f)(r:TabA w.n Q f)
 {mn mx:Int}(y:0<=mn) (h1:mn<=32) (z:mx = -1 \/ (mn<=mx/\mx<=32)) :
 ∃s,BM rec N ⟨pt,mn,mx⟩ w=some s/\TabA w.n (fun a b=>∃k:Nat,mn<=k/\(mx = -1 \/ (k:Int)<=mx)/\Id w.n Q k a b) s:=by
 obtain⟨m,rfl⟩:∃m:Nat,mn=(m:Int):=⟨mn.toNat,by omega⟩;unfold BM;refine B3 u ?_;obtain⟨y2,e2,t2⟩:=Vw hw l d r (k:=m) (by omega);refine B3 e2 ?_;obtain⟨y3,e3,t3⟩:=GW (N:=N) hw l;refine B3 e3 ?_;obtain⟨y4,e4,t4⟩:=AO4 hw l r t3;refine B3 e4 ?_;have o : Fwd w.n (fun a b=>Q a b \/ a=b):=fun a b ha h=>by
  rcases h with h|h
  .exact d a b ha h
  omega
 have key:∀(K:Nat),K<=32->∃s,((G1 N y4 (K:Int) (w.n:Int)).bind fun y5=>(E9 N y2 y5).bind fun y6=>some y6)=some s/\TabA w.n (fun a b=>∃j,j<=K/\Id w.n Q (m+j) a b) s:=by
  intro K v;obtain⟨y5,e5,t5⟩:=Vw hw l o t4 (k:=K) v;refine B3 e5 ?_;obtain⟨y6,e6,t6⟩:=Mn hw l t2 t5;refine B3 e6 ⟨y6,rfl,t6.congr fun a b ha hb=>?_⟩;constructor
  .rintro⟨c,hc,g1,g2⟩;obtain⟨j,i,g3⟩:=(Ol d hc K b).1 g2;exact⟨j,i,(Ed d m ha j b).2 ⟨c,hc,g1,g3⟩⟩
  rintro⟨j,i,g⟩;obtain⟨c,hc,g1,g3⟩:=(Ed d m ha j b).1 g;exact⟨c,hc,g1,(Ol d hc K b).2 ⟨j,i,g3⟩⟩
 by_cases hx:mx<0
 .refine ifT (decide_eq_true hx) ?_;obtain⟨s,e,t⟩:=key w.n hw;refine⟨s,e,t.congr fun a b ha hb=>?_⟩;constructor
  .rintro⟨j,i,g⟩;exact⟨m+j,by omega,.inl (by omega),g⟩
  rintro⟨k,hk,_,g⟩;obtain⟨c,hc,g1,g3⟩:=(Ed d m ha (k-m) b).1 (by rw[show m+(k-m)=k by omega];exact g);obtain⟨j,i,g4⟩:=Vi d hc (k-m) g3;exact⟨j,i,(Ed d m ha j b).2 ⟨c,hc,g1,g4⟩⟩
 refine ifF (by simpa using hx) ?_;obtain⟨M,rfl⟩:∃M:Nat,mx=(M:Int):=⟨mx.toNat,by omega⟩;have q:IntKind.i64.wrap ((M:Int)-(m:Int))=((M-m:Nat):Int):=by rw[F1 (by omega) (by omega)];omega
 rw[show IntKind.i64.wrap ((⟨pt,(m:Int),(M:Int)⟩:Bh9).max-(⟨pt,(m:Int),(M:Int)⟩:Bh9).min)=((M-m:Nat):Int) from q];obtain⟨s,e,t⟩:=key (M-m) (by omega);refine⟨s,e,t.congr fun a b ha hb=>?_⟩;constructor
 .rintro⟨j,i,g⟩;exact⟨m+j,by omega,.inr (by omega),g⟩
 rintro⟨k,hk,x,g⟩;exact⟨k-m,by omega,by rw[show m+(k-m)=k by omega];exact g⟩
def okQ:Nat->Pat->Prop
 |0,_=>False
 |d+1,p=>HG p/\p.L.n<=40/\∀i,i<p.L.n->okQ d (p.L.g i)
def ZN:∀(d:Nat) (p:Pat),okQ d p->okQ (d+1) p
 |0,_,h=>h.elim
 |d+1,p,⟨h1,h2,h3⟩=>⟨h1,h2,fun i a=>ZN d _ (h3 i a)⟩
def Av5:∀(k:Nat) (l:List Pat),k<=40->chk k l->∀p∈l,okQ k p
 |0,l,_,h,p,hp=>by rw[show l=[] from h]at hp;cases hp
 |k+1,[],_,_,p,hp=>by cases hp
 |k+1,q::l,hk,⟨hn,h⟩,p,hp=>by
  have ih:=Av5 k _ (by omega) h;rcases Bp9.1 hp with rfl|hp
  .have hl:=OB k _ h;rw[Bo8,Bs]at hl;exact⟨hn,by omega,fun i a=>ih _ (Bp5 _ (QU a))⟩
  exact ZN k p (ih p (Bn9 _ hp))
def vS.ok {s:Sm}(h:vS s):okS s:=by obtain⟨p,m,e,_⟩:=h;exact⟨p,m,e⟩
def AY3 (K:Nat)(p:Pat)(pt:Part):Prop:=∀(w:Sl Sm),w.n<=32->(∀i,i<w.n->okS (w.g i))->∀M,K<=M->∃f,AZ M pt w=some f/\TabA w.n (PR w p) f
def OD {N:Nat}(x:1000<=N):∀(d:Nat),d<=40->∀(p:Pat),okQ d p->∀M,N+d<=M->∃pt,AY M p=some pt/\AY3 (N+d) p pt
 |0,_,p,h,_,_=>h.elim
 |d+1,hd,p,⟨hn,hc,hch⟩,0,hM=>by omega
 |d+1,hd,p,⟨hn,hc,hch⟩,M+1,hM=>by
  show ∃pt,V9 (AY M) M p=some pt/\_;unfold V9;refine Q0 (fun i x1 x2=>x2=(i:Int)/\i<=p.L.n/\x1.n=i/\∀j,j<i->AY3 (N+d) (p.L.g j) (x1.g j)) p.L.n _ (by omega) ⟨rfl,by omega,rfl,fun j t=>Pm t (by omega)⟩ ?_;rintro u i x1 x2 v ⟨rfl,h1,q,o⟩ hs;by_cases hl:i<p.L.n
  .refine An (Am ?_);obtain⟨pt,e,y⟩:=OD x d (by omega) (p.L.g i) (hch i hl) M (by omega);refine B3 (by rw[Bm2];exact e) ?_;refine ifT (by show (x1.n+1)*16<=_/\x1.n+1<=_;omega) (hs hl _ _ ⟨Pd,hl,by show x1.n+1=i+1;omega,fun j t=>?_⟩);by_cases e2:j=i
   .subst e2
    have:(x1.push pt).g j=pt:=by simp[Sl.push,q]
    rw[this];exact y
   have:(x1.push pt).g j=x1.g j:=by simp[Sl.push];omega
   rw[this];exact o j (by omega)
  obtain rfl:i=p.L.n:=by omega
  have fin:∀(pt:Part),(∀(w:Sl Sm),w.n<=32->(∀i,i<w.n->okS (w.g i))->∀M,N+d<=M->∃f,AZ (M+1) pt w=some f/\TabA w.n (PR w p) f)->∃r,some pt=some r/\AY3 (N+(d+1)) p r:=by intro pt h;refine⟨pt,rfl,fun w hw c M' l=>?_⟩;obtain⟨M'',rfl⟩:∃M'',M' = M'' + 1:=⟨M' - 1,by omega⟩;exact h w hw c M'' (by omega)
  refine Oj ?_;obtain⟨⟨k0,k6⟩,n1,n2,n3,n4,n5⟩:=hn;by_cases k1:p.Kind=1
  .refine ifT (by simp[k1]) (fin _ fun w hw c M' l=>?_);obtain⟨f,e,h⟩:=Av3 (N:=M') (by omega) hw c n5.ok p.Not;refine⟨f,e,h.congr fun a b _ _=>?_⟩;rw[Me];simp[k1]
  refine ifF (by simp[k1]) ?_;by_cases k2:p.Kind=2
  .refine ifT (by simp[k2]) (fin _ fun w hw c M' l=>?_);obtain⟨f,e,h⟩:=ZM (N:=M') hw false;refine⟨f,e,h.congr fun a b _ _=>?_⟩;rw[Me];simp[k2]
  refine ifF (by simp[k2]) ?_;by_cases k6:p.Kind=6
  .refine ifT (by simp[k6]) (fin _ fun w hw c M' l=>?_);obtain⟨f,e,h⟩:=ZM (N:=M') hw true;refine⟨f,e,h.congr fun a b _ _=>?_⟩;rw[Me];simp[k6]
  refine ifF (by simp[k6]) ?_;by_cases k4:p.Kind=4
  .refine ifT (by simp[k4]) (fin _ fun w hw c M' l=>?_);obtain⟨f,e,h⟩:=AY1 (N:=M') (by omega) hw (rec:=AZ M') (m:=x1.n) (g:=x1.g) (Q:=fun i=>PR w (p.L.g i)) (by omega) fun i v=>o i (by omega) w hw c M' (by omega);refine⟨f,e,h.congr fun a b _ _=>?_⟩;rw[Me,q];simp[k4]
  refine ifF (by simp[k4]) ?_;by_cases k5:p.Kind=5
  .obtain⟨g1,g2,g3,g4⟩:=n4 k5;refine ifT (by simp[k5]) (Am (fin _ fun w hw c M' l=>?_));obtain⟨f,e,h⟩:=o 0 (by omega) w hw c M' (by omega);obtain⟨s,e2,z⟩:=AY2 (N:=M') (by omega) hw (rec:=AZ M') (Vj w (p.L.g 0)) e h g2 g3 g4;refine⟨s,e2,z.congr fun a b _ _=>?_⟩;rw[Me];simp[k5]
  refine ifF (by simp[k5]) (fin _ fun w hw c M' l=>?_);obtain⟨f,e,h⟩:=AY0 (N:=M') (by omega) hw (rec:=AZ M') (m:=x1.n) (g:=x1.g) (Q:=fun i=>PR w (p.L.g i)) (by omega) fun i v=>o i (by omega) w hw c M' (by omega);refine⟨f,e,h.congr fun a b _ _=>?_⟩;rw[Me,q];by_cases k3:p.Kind=3
  .simp[k3]
  have k0' : p.Kind=0:=by omega
  rw[n2 k3 k4 k5];simp[k0',Ai6]
end Go.AM
namespace Go.AM
variable {N:Nat}
open IntKind (wrap)
open Go.Proofs
def Aj2 {p:Pat}(hp:okS p.Is):∃e,AU N p=some e/\(e=0↔HG p):=by
 obtain⟨a,b,i⟩:=hp;have m:=Ye i;have V:P5 N p.Is=some (vB a b):=by rw[i];exact Vt a b
 have e0:((p.Is.Plus==0)&&(p.Is.Minus==0))=decide (p.Is.Plus=0/\p.Is.Minus=0):=by rw[Bq0];simp
 have fin:(HG p↔vS p.Is)->∃e,((P5 N p.Is).bind fun y1=>if (!y1) then some (14:Int)else some 0)=some e/\(e=0↔HG p):=by
  intro c;rw[V];refine B3 rfl ?_;rw[c,m];cases vB a b
  .exact ifT rfl ⟨14,rfl,by simp⟩
  exact Oj ⟨0,rfl,by simp⟩
 have bad:∀{x:Int},x≠0->¬HG p->∃e,some x=some e/\(e=0↔HG p):=fun hx h=>⟨_,rfl,fun d=>Pm d hx,fun d=>Pm d h⟩;unfold AU;by_cases hk:p.Kind=0 \/ p.Kind=2 \/ p.Kind=6
 .refine ifT (by rcases hk with h|h|h<;>simp[h]) (ltX ?_);rw[e0];by_cases g1:p.Is.Plus=0/\p.Is.Minus=0
  case neg=>exact ifT (by simp[g1]) (ifT rfl (bad (by decide) fun h=>g1 (h.2.1 (by omega)).1))
  refine ifF (by simp[g1]) ?_;by_cases g2:p.Not=true
  .exact ifT g2 (ifT rfl (bad (by decide) fun h=>by have:=(h.2.1 (by omega)).2;rw[g2]at this;cases this))
  refine ifF g2 ?_;by_cases g3:p.Min=0
  case neg=>exact ifT (by simp[g3]) (ifT rfl (bad (by decide) fun h=>g3 (h.2.2.2.1 (by omega)).1))
  refine ifF (by simp[g3]) ?_;by_cases g4:p.Max=0
  case neg=>exact ifT (by simp[g4]) (ifT rfl (bad (by decide) fun h=>g4 (h.2.2.2.1 (by omega)).2))
  refine ifF (by simp[g4]) ?_;by_cases g5:p.L.n=0
  case neg=>exact An (bad (by decide) fun h=>g5 (h.2.2.1 (by omega) (by omega) (by omega)))
  refine Oi (fin ?_);exact⟨fun h=>h.2.2.2.2.2,fun h=>⟨by omega,fun _=>⟨g1,by simpa using g2⟩,fun _ _ _=>g5,fun _=>⟨g3,g4⟩,fun f=>by omega,h⟩⟩
 refine ifF (by simp only[not_or]at hk;simp[hk]) ?_;by_cases k1:p.Kind=1
 .refine ifT (by simp[k1]) (ltX ?_);refine Oj ?_;by_cases g3:p.Min=0
  case neg=>exact ifT (by simp[g3]) (ifT rfl (bad (by decide) fun h=>g3 (h.2.2.2.1 (by omega)).1))
  refine ifF (by simp[g3]) ?_;by_cases g4:p.Max=0
  case neg=>exact ifT (by simp[g4]) (ifT rfl (bad (by decide) fun h=>g4 (h.2.2.2.1 (by omega)).2))
  refine ifF (by simp[g4]) ?_;by_cases g5:p.L.n=0
  case neg=>exact An (bad (by decide) fun h=>g5 (h.2.2.1 (by omega) (by omega) (by omega)))
  refine Oi (fin ?_);exact⟨fun h=>h.2.2.2.2.2,fun h=>⟨by omega,fun h1=>Pm k1 h1,fun _ _ _=>g5,fun _=>⟨g3,g4⟩,fun f=>by omega,h⟩⟩
 refine ifF (by simp[k1]) (ltX ?_);rw[e0];have tail:∀(x y:Int),(HG p↔(p.Is.Plus=0/\p.Is.Minus=0)/\p.Not=false/\x=0/\y=0/\vS p.Is)->∃e,(if (((((decide (p.Is.Plus=0/\p.Is.Minus=0) != true)||p.Not)||(x != 0))||(y != 0))||(decide (0<0))) then some (2:Int)else
  (P5 N p.Is).bind fun y3=>if (!y3) then some 14 else some 0)=some e/\(e=0↔HG p):=by
  intro x y c;by_cases g:(p.Is.Plus=0/\p.Is.Minus=0)/\p.Not=false/\x=0/\y=0
  .obtain⟨g1,g2,g3,g4⟩:=g;exact ifF (by simp[g1,g2,g3,g4]) (fin (c.trans ⟨fun h=>h.2.2.2.2,fun h=>⟨g1,g2,g3,g4,h⟩⟩))
  refine ifT ?_ (bad (by decide) fun h=>g ⟨(c.1 h).1,(c.1 h).2.1,(c.1 h).2.2.1,(c.1 h).2.2.2.1⟩);simp only[Bp2,bne_iff_ne,ne_eq,Pp];by_cases g1:p.Is.Plus=0/\p.Is.Minus=0
  .by_cases g2:p.Not=true
   .simp[g2]
   by_cases g3:x=0
   .have:¬y=0:=fun g4=>g ⟨g1,by simpa using g2,g3,g4⟩
    simp[this]
   simp[g3]
  simp[g1]
 by_cases k34:p.Kind=3 \/ p.Kind=4
 .refine ifT (by rcases k34 with h|h<;>simp[h]) (tail _ _ ?_);constructor
  .exact fun h=>⟨(h.2.1 k1).1,(h.2.1 k1).2,(h.2.2.2.1 (by omega)).1,(h.2.2.2.1 (by omega)).2,h.2.2.2.2.2⟩
  rintro⟨h1,d,j,l,f⟩;exact⟨by omega,fun _=>⟨h1,d⟩,fun h h'=>by omega,fun _=>⟨j,l⟩,fun h=>by omega,f⟩
 refine ifF (by simp only[not_or]at k34;simp[k34]) ?_;by_cases k5:p.Kind=5
 .refine ifT (by simp[k5]) ?_;by_cases g:p.L.n=1/\0<=p.Min/\p.Min<=32/\(p.Max = -1 \/ (p.Min<=p.Max/\p.Max<=32))
  .refine ifF (by simp only[Bp2,Bm8,bne_iff_ne,ne_eq,Pp];omega) (tail 0 0 ?_);constructor
   .exact fun h=>⟨(h.2.1 k1).1,(h.2.1 k1).2,rfl,rfl,h.2.2.2.2.2⟩
   rintro⟨h1,d,j,l,f⟩;exact⟨by omega,fun _=>⟨h1,d⟩,fun _ _ h=>Pm k5 h,fun h=>Pm k5 h,fun _=>g,f⟩
  exact ifT (by simp only[Bp2,Bm8,bne_iff_ne,ne_eq,Pp];omega) (bad (by decide) fun h=>g (h.2.2.2.2.1 k5))
 exact ifF (by simp[k5]) (bad (by decide) fun h=>by have:=h.1;omega)
def Av6 {x:Sl Pat}{m:Nat}(h:x.n=m+1):x.toList.reverse=x.g m::(x.take m).toList.reverse:=by unfold Sl.toList;rw[h,Bu3,Bs4,By3];rfl
def AJ1 (z:Sl Pat)(q:Pat):((z.push Pat.nil).upd z.n q).toList.reverse=q::z.toList.reverse:=by
 rw[Av6 (m:=z.n) rfl];have e1:((z.push Pat.nil).upd z.n q).g z.n=q:=by simp
 have e2:(((z.push Pat.nil).upd z.n q).take z.n).toList=z.toList:=by
  unfold Sl.toList;refine Bp7 fun i a=>?_
  have:i<z.n:=Bp3.1 a
  show (if i=z.n then q else if i<z.n then z.g i else Pat.nil)=z.g i;rw[Pg,Pk this]
 rw[e1,e2]
def Yg (q:Sl Pat)(c:q.n<N)(hs:q.n<1000000):E4 N q=some ((List.range q.n).reverse.map fun (i:Nat)=>((i:Int),q.g i)):=by
 unfold E4;have h:∀(m:Nat),m<=q.n->∀F,m<F->Q7 F (fun (a:Int->Option (List (Int×Pat))) (x1:Int)=>
  if (decide (0<=x1)) then
   if ((0:Int)<=x1/\x1<(q.n:Int))then
    Az (x1,q.g x1.toNat) (
     a (wrap .i64 (x1-1))
     )
   else none
  else
   some []) ((m:Int)-1)=some ((List.range m).reverse.map fun (i:Nat)=>((i:Int),q.g i)):=by
  intro m
  induction m with
  |zero=>
   intro _ F b
   match F,b with
   |F+1,_=>rfl
  |succ m ih=>
   intro hm F b
   match F,b with
   |F+1,b=>rw[T9];rw[show ((m+1:Nat):Int)-1=(m:Int) by omega,Pk (by simp),Pe,F1 (by omega) (by omega),ih (by omega) F (by omega),Bm2,Bu3,By3,BE6,BF0,Bp8];rfl
 rw[F1 (by omega) (by omega)];exact h q.n (Bm9 _) N c
def AY4 {k:Nat}(hk:k<=40){c:Sl Pat}{l:List Pat}:chk k ((c.take (min 41 c.n)).toList++l)↔chk k (c.toList++l):=by
 by_cases h:c.n<=41
 .rw[BA4 h]
 constructor
 .intro a
  have:=OB _ _ a
  rw[Bo8,Bs]at this
  have:(c.take (min 41 c.n)).n=41:=Bu1 (by omega)
  omega
 intro a
 have:=OB _ _ a
 rw[Bo8,Bs]at this;omega
def SU (hN:2000<=N){p:Pat}(hp:okPS p):∃e,Z5 N p=some e/\(e=0↔chk 40 [p]):=by
 unfold Z5;refine Q0 (fun i x3 x4=>x4=(i:Int)/\x3.n<=1+41*i/\(∀q∈x3.toList.reverse,okPS q)/\(chk 40 [p]↔chk (40-i) x3.toList.reverse)) 40 _ (by omega)
  ⟨rfl,by show 1<=_;omega,fun q l=>by rw[show (Sl.of [p]:Sl Pat).toList.reverse=[p] from rfl]at l;rw[Bu6.1 l];exact hp,Bw2⟩ ?_
 rintro x i x3 x4 hi ⟨rfl,h1,c,f⟩ hs;rcases hn:x3.n with _|m
 .refine Oj ⟨0,rfl,fun _=>f.2 ?_,fun _=>rfl⟩
  have:x3.toList.reverse=[]:=by unfold Sl.toList;rw[hn];rfl
  rw[this];exact Au8 _
 rw[Av6 hn]at f c;refine ifT (decide_eq_true (by omega)) ?_;by_cases r:i=40
 .subst r;refine Gc ⟨12,rfl,fun h=>Pm h (by decide),fun h=>?_⟩
  have:(x3.g m::(x3.take m).toList.reverse)=[]:=f.1 h
  cases this
 refine Oi ?_;have hw:IntKind.i64.wrap (((m+1:Nat):Int)-1)=(m:Int):=by rw[F1 (by omega) (by omega)];omega
 simp only[hw,Bm2];refine Am (Am ?_);obtain⟨e,y,a⟩:=Aj2 (N:=N) (c (x3.g m) (by simp)).is;refine B3 y ?_;rw[show 40-i=(39-i)+1 by omega]at f;by_cases o:e=0
 case neg=>exact ifT (by simp[o]) ⟨e,rfl,fun h=>Pm h o,fun h=>Pm (a.2 (f.1 h).1) o⟩
 refine ifF (by simp[o]) ?_;have hc:(if (41:Int)<((x3.g m).L.n:Int)then (41:Int)else ((x3.g m).L.n:Int))=((min 41 (x3.g m).L.n:Nat):Int):=by split<;>omega
 simp only[hc,Bm2];refine Am (B3 rfl (B3 (Yg _ (by show min 41 _<N;omega) (by show min 41 _<1000000;omega)) ?_));generalize s:(x3.g m).L.take (min 41 (x3.g m).L.n)=C;have a0:C.n<=41:=by rw[<- s];exact Nat.min_le_left _ _
 refine Av2 (fun L z=>∃j,j<=C.n/\L=((List.range j).reverse.map fun (i:Nat)=>((i:Int),C.g i))/\z.n=m+(C.n-j)/\z.toList.reverse=C.toList.drop j++(x3.take m).toList.reverse) ?_ ?_ _ _ ⟨C.n,Bm9 _,rfl,by show m=_;omega,by rw[DO];rfl⟩
 .rintro z ⟨j,hj,Y,hz,b⟩;have u:j=0:=by
   cases j with
   |zero=>rfl
   |succ j=>simp[Bu3]at Y
  subst u;rw[BC2]at b;refine hs (by omega) _ _ ⟨Pd,by omega,fun q l=>?_,?_⟩
  .rw[b]at l;rcases List.mem_append.1 l with h|h
   .obtain⟨i',d,rfl⟩:=Bp0.1 h;have d:=Bp3.1 d;rw[<- s]at d⊢;exact (c (x3.g m) (by simp)).L (Bo7 d (Nat.min_le_right _ _))
   exact c q (by simp[h])
  rw[b,f,show 40-(i+1)=39-i by omega,<- s,AY4 (by omega)];exact⟨fun h=>h.2,fun h=>⟨a.1 o,h⟩⟩
 rintro t L z v ⟨j,hj,Y,hz,b⟩ w;cases j with
 |zero=>simp at Y
 |succ j=>rw[Bu3,By3,BE6,BF0,Bp8]at Y;obtain⟨rfl,rfl⟩:=List.cons.inj Y;have e1:(z.n:Int).toNat=z.n:=Bm2 _;refine ifT ⟨⟨⟨by show (z.n+1)*64<=_;omega,by show z.n+1<=_;omega⟩,by show (0:Int)<=_/\(z.n:Int)<((z.n+1:Nat):Int);omega⟩,by show z.n<z.n+1;omega⟩ ?_;refine w _ ⟨j,by omega,rfl,by show z.n+1=_;omega,?_⟩;rw[AJ1,b,FO C (i:=j) (by omega),Bq9]
end Go.AM
namespace Go.AM
open IntKind (wrap)
open Go.Proofs
def wOk (w:Sl Sm):Prop:=w.n<=32/\∀i,i<w.n->vS (w.g i)
def LL {N:Nat}{w:Sl Sm}(m:w.n<N)(hs:w.n<1000000){f:Sm->Option Bool}{b:Nat->Bool}(o:∀i,i<w.n->f (w.g i)=some (b i)) :∃r,C8 N w f=some r/\(r=true ↔ ∃i,i<w.n/\b i=true):=by
 unfold C8 E8
 have:∃y,Q7 N (fun (a:Int->Option Int) (x1:Int)=>
  if (decide (x1<(w.n:Int))) then
   if ((0:Int)<=x1/\x1<(w.n:Int))then
    (f (w.g x1.toNat)).bind fun y3=>
    if y3 then
     some x1
    else
     a (wrap .i64 (x1+1))
   else none
  else
   some (-1)) 0=some y/\(0<=y ↔ ∃i,i<w.n/\b i=true):=by
  refine X5 (fun i x1=>x1=(i:Int)/\∀j,j<i->b j=false) w.n _ m ⟨rfl,fun j c=>Pm c (by omega)⟩ ?_;rintro l i x1 q ⟨rfl,h⟩ d;by_cases hl:i<w.n
  .refine An (Am (B3 (by rw[Bm2];exact o i hl) ?_));cases hb:b i
   .refine Oj (d hl _ ⟨Pd,fun j c=>?_⟩);by_cases e:j=i
    .subst e;exact hb
    exact h j (by omega)
   exact ifT rfl ⟨i,rfl,fun _=>⟨i,hl,hb⟩,fun _=>by omega⟩
  refine Oi ⟨-1,rfl,fun h=>Pm h (by decide),?_⟩;rintro⟨j,c,hb⟩;rw[h j (by omega)]at hb;cases hb
 obtain⟨y,e,hy⟩:=this;exact B3 e ⟨_,rfl,by rw[Pp];exact hy⟩
def QW {N:Nat}(z:3000<=N){p:Pat}(hp:okPS p){w:Sl Sm}(hs:w.n<1000000/\w.n+1000<N)(hw:∀i,i<w.n->okS (w.g i)) :∃r,Aq N p w=some r/\(r.2=0↔chk 40 [p]/\wOk w)/\(r.2=0->TabA w.n (PR w p) r.1):=by
 unfold Aq;obtain⟨e,l,hc⟩:=SU (N:=N) (by omega) hp;refine B3 l ?_;by_cases d:e=0
 case neg=>exact ifT (by simp[d]) ⟨_,rfl,⟨fun h=>Pm h d,fun h=>Pm (hc.2 h.1) d⟩,fun h=>Pm h d⟩
 refine ifF (by simp[d]) ?_;by_cases hn:32<w.n
 .exact An ⟨_,rfl,⟨fun h=>Pm h (by decide),fun h=>by have:=h.2.1;omega⟩,fun h=>Pm h (by decide)⟩
 refine Oi ?_;have s:∀i,∃b:Bool,i<w.n->U1 N (w.g i)=some b/\(b=true ↔ ¬vS (w.g i)):=by
  intro i;by_cases a:i<w.n
  .obtain⟨x,y,l⟩:=hw i a;refine⟨!vB x y,fun _=>⟨?_,?_⟩⟩
   .unfold U1;rw[l,Vt];rfl
   rw[Ye l];cases vB x y<;>simp
  exact⟨false,fun h=>Pm h a⟩
 obtain⟨b,hb⟩:=Bv0 s;obtain⟨r,t,j⟩:=LL (N:=N) (by omega) hs.1 (f:=fun u1=>U1 N u1) fun i a=>(hb i a).1;refine B3 t ?_;by_cases c:r=true
 .refine ifT c ⟨_,rfl,⟨fun h=>Pm h (by decide),fun h=>?_⟩,fun h=>Pm h (by decide)⟩;obtain⟨i,a,m⟩:=j.1 c;exact Pm (h.2.2 i a) ((hb i a).2.1 m)
 refine ifF c ?_;have o:wOk w:=⟨by omega,fun i a=>Bn7 fun q=>c (j.2 ⟨i,a,(hb i a).2.2 q⟩)⟩;obtain⟨pt,ep,u⟩:=OD (N:=1000) (by omega) 40 (Bm9 _) p (Av5 40 [p] (Bm9 _) (hc.1 d) p (by simp)) N (by omega);refine B3 ep ?_;obtain⟨f,ef,v⟩:=u w (by omega) hw N (by omega);exact B3 ef ⟨_,rfl,⟨fun _=>⟨hc.1 d,o⟩,fun _=>rfl⟩,fun _=>v⟩
end Go.AM
namespace Go.AM
variable {N:Nat}
open Go.Proofs
def Aj3 (o:3000<=N){p:Pat}(hp:okPS p){w:Sl Sm}(hs:w.n<1000000/\w.n+1000<N)(hw:∀i,i<w.n->okS (w.g i))(at_:Int) :∃r,BN N p w at_=some r/\(0<r.1.n↔chk 40 [p]/\wOk w/\0<=at_/\at_<=w.n/\∃a,a<=w.n/\PR w p a at_.toNat):=by
 unfold BN;obtain⟨y,e,h1,q⟩:=QW o hp hs hw;refine B3 e (ltX ?_);by_cases c:y.2=0
 case neg=>refine ifF (by simp[c]) (ifT (by simp[c]) ⟨_,rfl,fun h=>Pm h (by show ¬ 0<0;omega),fun h=>Pm (h1.2 ⟨h.1,h.2.1⟩) c⟩)
 refine ifT (by simp[c]) ?_;obtain⟨hc,d⟩:=h1.1 c;have s:=q c;have hn:=d.1;unfold Ao;by_cases f:at_<0 \/ (w.n:Int)<at_
 .rw[Pk (by simpa using f)];refine B3 rfl (Ge ⟨_,rfl,fun h=>Pm h (by show ¬ 0<0;omega),fun h=>by omega⟩)
 rw[Pl (by simpa using f)];refine B3 rfl (Oj ?_);obtain⟨k,rfl⟩:∃k:Nat,at_=(k:Int):=⟨at_.toNat,by omega⟩;rw[Pd,Bm2];refine Q0 (fun i x2 x3=>x3=(i:Int)/\x2.n<=i/\(0<x2.n ↔ ∃a,a<i/\PR w p a k)) (w.n+1) _ (by omega) ⟨rfl,Bm9 _,fun h=>Pm h (by show ¬ 0<0;omega),fun⟨a,h,_⟩=>Pm h (by omega)⟩ ?_;rintro m i x2 x3 t ⟨rfl,g1,g2⟩ j;by_cases hl:i<=w.n
 .refine An (Am ?_);rw[Bm2,Br1,Bs0];have hb:=s.1.bit hl (b:=k) (by omega);by_cases l:PR w p i k
  .refine ifT (hb.2 ⟨by omega,l⟩) (ifT (by show (x2.n+1)*8<=_/\x2.n+1<=_;omega) (j (by omega) _ _ ⟨Pd,by show x2.n+1<=_;omega,fun _=>⟨i,by omega,l⟩,fun _=>by show 0<x2.n+1;omega⟩))
  refine ifF (fun h=>l (hb.1 h).2) (j (by omega) _ _ ⟨Pd,by omega,fun h=>?_,fun⟨a,ha,h⟩=>?_⟩)
  .obtain⟨a,ha,h'⟩:=g2.1 h;exact⟨a,by omega,h'⟩
  by_cases e2:a=i
  .subst e2;exact Pm h l
  exact g2.2 ⟨a,by omega,h⟩
 refine Oi ⟨_,rfl,fun h=>?_,fun h=>?_⟩
 .obtain⟨a,ha,h'⟩:=g2.1 h;exact⟨hc,d,by omega,by omega,a,by omega,h'⟩
 obtain⟨a,ha,h'⟩:=h.2.2.2.2;exact g2.2 ⟨a,by omega,h'⟩
def Yh (L:List Int)(Y:L.length<1000):∃s,N7 N L=some s/\s.n=L.length:=by
 unfold N7 I4
 have:∃s:Sl Int,Q5 L (fun (a:Sl Int->Option (Sl Int)) (x1:Int) (z1:Sl Int)=>
  if ((z1.n+(Sl.of [x1]:Sl Int).n)*8<=140737488355328/\z1.n+(Sl.of [x1]:Sl Int).n<=140737488355328)then
   a (z1.push x1)
  else none
  ) (fun (z1:Sl Int)=>some z1) Sh=some s/\s.n=L.length:=by
  refine Av2 (fun l z=>z.n+l.length=L.length) (fun z h=>⟨z,rfl,by simpa using h⟩) (fun t l z b h hs=>?_) L _ (by simp);simp only[Br0]at h;exact ifT (by show (z.n+1)*8<=_/\z.n+1<=_;omega) (hs _ (by show z.n+1+l.length=_;omega))
 obtain⟨s,e,hn⟩:=this;exact B3 e ⟨s,rfl,hn⟩
def AJ2 (l:3000<=N){p:Pat}(hp:okPS p){w:Sl Sm}(hs:w.n<1000000/\w.n+1000<N)(hw:∀i,i<w.n->okS (w.g i))(at_:Int) :∃r,DK N p w at_=some r/\(0<r.1.n↔chk 40 [p]/\wOk w/\0<=at_/\at_<=w.n/\∃b,b<=w.n/\PR w p at_.toNat b):=by
 unfold DK;obtain⟨y,e,h1,m⟩:=QW l hp hs hw;refine B3 e (ltX ?_);by_cases c:y.2=0
 case neg=>refine ifF (by simp[c]) (ifT (by simp[c]) ⟨_,rfl,fun h=>Pm h (by show ¬ 0<0;omega),fun h=>Pm (h1.2 ⟨h.1,h.2.1⟩) c⟩)
 refine ifT (by simp[c]) ?_;obtain⟨hc,d⟩:=h1.1 c;have o:=m c;have hn:=d.1;unfold Ao;by_cases f:at_<0 \/ (w.n:Int)<at_
 .rw[Pk (by simpa using f)];refine B3 rfl (Ge ⟨_,rfl,fun h=>Pm h (by show ¬ 0<0;omega),fun h=>by omega⟩)
 rw[Pl (by simpa using f)];refine B3 rfl (Oj ?_);obtain⟨k,rfl⟩:∃k:Nat,at_=(k:Int):=⟨at_.toNat,by omega⟩;refine Am ?_;rw[Bm2,Br1,Bs0];obtain⟨u,e1,g1⟩:=o.1 k (by omega);refine B3 (x:=y.1 k) rfl (B3 (x:=FP u 0) (by rw[e1];exact IJ u (by omega)) ?_);obtain⟨s,es,j⟩:=Yh (N:=N) (FP u 0) (by unfold FP;rw[Bq3];exact BG9 (BA0 _ _) (by simp))
 refine B3 es ⟨_,rfl,?_⟩;show 0<s.n↔_;rw[j,List.length_pos_iff_exists_mem];constructor
 .rintro⟨t,ht⟩;obtain⟨b,rfl,_,hb,a⟩:=mem_bitsF.1 ht;exact⟨hc,d,by omega,by omega,b,((g1 b hb).1 a).1,((g1 b hb).1 a).2⟩
 rintro⟨_,_,_,_,b,hb,h⟩;exact⟨(b:Int),mem_bitsF.2 ⟨b,rfl,by omega,by omega,(g1 b (by omega)).2 ⟨hb,h⟩⟩⟩
end Go.AM
namespace Go.AM
variable {N:Nat}
open IntKind (wrap)
open Go.Proofs
def ZO (w:Sl Sm)(e:Int):Prop:=(32<w.n/\e=11) \/ (w.n<=32/\(∃i,i<w.n/\¬vS (w.g i))/\e=14) \/ (wOk w/\e=0)
def OE {w:Sl Sm}{e e' : Int}(h:ZO w e)(h' : ZO w e'):e=e':=by
 rcases h with⟨h1,a⟩ | ⟨h1,⟨i,b,c⟩,a⟩ | ⟨h1,a⟩<;>rcases h' with⟨g1,g2⟩ | ⟨g1,⟨j,d,gv⟩,g2⟩ | ⟨g1,g2⟩
 .omega
 .omega
 .have:=g1.1;omega
 .omega
 .omega
 .exact Pm (g1.2 i b) c
 .have:=h1.1;omega
 .exact Pm (h1.2 j d) gv
 omega
def CH {w:Sl Sm}{e:Int}(h:ZO w e):e=0↔wOk w:=by
 rcases h with⟨h1,a⟩ | ⟨h1,⟨i,b,c⟩,a⟩ | ⟨h1,a⟩
 .exact⟨fun h=>by omega,fun h=>by have:=h.1;omega⟩
 .exact⟨fun h=>by omega,fun h=>Pm (h.2 i b) c⟩
 exact⟨fun _=>h1,fun _=>a⟩
def Vx (o:1000<=N){w:Sl Sm}(hw:∀i,i<w.n->okS (w.g i))(V:Sm->Option Bool)(f:∀p m:BitVec 32,V (sOf p m)=some (vB p m)) :∃e,(if (decide (32<(w.n:Int))) then
 some (11:Int)
 else
  Q7 N (fun a (x1:Int)=>
   if (decide (x1<(w.n:Int))) then
    if ((0:Int)<=x1/\x1<(w.n:Int))then
     (V (w.g x1.toNat)).bind fun y3=>
     if (!y3) then
      some 14
     else
      a (wrap .i64 (x1+1))
    else none
   else
    some 0
   ) 0)=some e/\ZO w e:=by
 by_cases hn:32<w.n
 .exact An ⟨11,rfl,.inl ⟨hn,rfl⟩⟩
 refine Oi ?_;refine X5 (fun i x1=>x1=(i:Int)/\∀j,j<i->vS (w.g j)) w.n _ (by omega) ⟨rfl,fun j b=>Pm b (by omega)⟩ ?_;rintro d i x1 q ⟨rfl,h⟩ hs;by_cases hl:i<w.n
 .obtain⟨p,m,c⟩:=hw i hl;refine An (Am (B3 (by rw[Bm2,c];exact f p m) ?_));cases hb:vB p m
  .refine ifT rfl ⟨14,rfl,.inr (.inl ⟨by omega,⟨i,hl,fun l=>?_⟩,rfl⟩)⟩
   have:=(Ye c).1 l;rw[hb]at this;cases this
  refine Oj (hs hl _ ⟨Pd,fun j b=>?_⟩);by_cases e:j=i
  .subst e;exact (Ye c).2 hb
  exact h j (by omega)
 exact Oi ⟨0,rfl,.inr (.inr ⟨⟨by omega,fun j b=>h j (by omega)⟩,rfl⟩)⟩
def JY (a:1000<=N){w:Sl Sm}(hw:∀i,i<w.n->okS (w.g i)):∃e,P4 N w=some e/\ZO w e:=
 Vx a hw (Br N) fun p m=>Vs p m
def Hw (a:1000<=N){w:Sl Sm}(hw:∀i,i<w.n->okS (w.g i)):∃e,Y1 N w=some e/\ZO w e:=
 Vx a hw (S7 N) fun p m=>QT p m
def ZP (d:2000<=N){p:Pat}(hp:okPS p){w:Sl Sm}(hw:∀i,i<w.n->okS (w.g i)):∃e,Dc N p w=some e/\(e=0↔chk 40 [p]/\wOk w):=by
 unfold Dc;obtain⟨e,f,hc⟩:=OC d hp;refine B3 f ?_;by_cases a:e=0
 .obtain⟨e2,b,c⟩:=Hw (N:=N) (by omega) hw;exact ifT (by simp[a]) (B3 b ⟨e2,rfl,(CH c).trans ⟨fun h=>⟨hc.1 a,h⟩,fun h=>h.2⟩⟩)
 exact ifF (by simp[a]) ⟨e,rfl,fun h=>Pm h a,fun h=>Pm (hc.2 h.1) a⟩
def Yi (s:3000<=N){p:Pat}(hp:okPS p){w:Sl Sm}(hw:∀i,i<w.n->okS (w.g i))(at_:Int) :∃r,Cv N p w at_=some r/\(0<r.1.n↔chk 40 [p]/\wOk w/\0<=at_/\at_<=w.n/\∃a,a<=w.n/\PR w p a at_.toNat):=by
 unfold Cv;obtain⟨e,o,h1⟩:=ZP (N:=N) (by omega) hp hw;refine B3 o ?_;by_cases j:e=0
 case neg=>exact ifT (by simp[j]) ⟨_,rfl,fun h=>Pm h (by show ¬ 0<0;omega),fun h=>Pm (h1.2 ⟨h.1,h.2.1⟩) j⟩
 refine ifF (by simp[j]) ?_;obtain⟨hc,c⟩:=h1.1 j;have hn:=c.1;by_cases d:at_<0 \/ (w.n:Int)<at_
 .exact ifT (by simpa using d) ⟨_,rfl,fun h=>Pm h (by show ¬ 0<0;omega),fun h=>by omega⟩
 refine ifF (by simpa using d) ?_;obtain⟨k,rfl⟩:∃k:Nat,at_=(k:Int):=⟨at_.toNat,by omega⟩;obtain⟨t,et,tn,q⟩:=OA (N:=1000) (by omega) hn 40 p (Vu 40 [p] (Bm9 _) hc p (by simp)) N (by omega);refine B3 et ?_;rw[Bm2];refine Q0 (fun i x2 x3=>x3=(i:Int)/\x2.n<=i/\(0<x2.n ↔ ∃a,a<i/\PR w p a k)) (w.n+1) _ (by omega) ⟨rfl,Bm9 _,fun h=>Pm h (by show ¬ 0<0;omega),fun⟨a,h,_⟩=>Pm h (by omega)⟩ ?_;rintro m i x2 x3 u ⟨rfl,g1,g2⟩ f;by_cases hl:i<=w.n
 .refine An (Am ?_);rw[Bm2];have hb:=q.bit hl (b:=k) (by omega);by_cases l:PR w p i k
  .refine ifT (hb.2 ⟨by omega,l⟩) (ifT (by show (x2.n+1)*8<=_/\x2.n+1<=_;omega) (f (by omega) _ _ ⟨Pd,by show x2.n+1<=_;omega,fun _=>⟨i,by omega,l⟩,fun _=>by show 0<x2.n+1;omega⟩))
  refine ifF (fun h=>l (hb.1 h).2) (f (by omega) _ _ ⟨Pd,by omega,fun h=>?_,fun⟨a,ha,h⟩=>?_⟩)
  .obtain⟨a,ha,h'⟩:=g2.1 h;exact⟨a,by omega,h'⟩
  by_cases e2:a=i
  .subst e2;exact Pm h l
  exact g2.2 ⟨a,by omega,h⟩
 refine Oi ⟨_,rfl,fun h=>?_,fun h=>?_⟩
 .obtain⟨a,ha,h'⟩:=g2.1 h;exact⟨hc,c,by omega,by omega,a,by omega,h'⟩
 obtain⟨a,ha,h'⟩:=h.2.2.2.2;exact g2.2 ⟨a,by omega,h'⟩
def Av7 (s:3000<=N){p:Pat}(hp:okPS p){w:Sl Sm}(hw:∀i,i<w.n->okS (w.g i))(at_:Int) :∃r,EF N p w at_=some r/\(0<r.1.n↔chk 40 [p]/\wOk w/\0<=at_/\at_<=w.n/\∃b,b<=w.n/\PR w p at_.toNat b):=by
 unfold EF;obtain⟨e,o,h1⟩:=ZP (N:=N) (by omega) hp hw;refine B3 o ?_;by_cases j:e=0
 case neg=>exact ifT (by simp[j]) ⟨_,rfl,fun h=>Pm h (by show ¬ 0<0;omega),fun h=>Pm (h1.2 ⟨h.1,h.2.1⟩) j⟩
 refine ifF (by simp[j]) ?_;obtain⟨hc,c⟩:=h1.1 j;have hn:=c.1;by_cases d:at_<0 \/ (w.n:Int)<at_
 .exact ifT (by simpa using d) ⟨_,rfl,fun h=>Pm h (by show ¬ 0<0;omega),fun h=>by omega⟩
 refine ifF (by simpa using d) ?_;obtain⟨k,rfl⟩:∃k:Nat,at_=(k:Int):=⟨at_.toNat,by omega⟩;obtain⟨t,et,tn,q⟩:=OA (N:=1000) (by omega) hn 40 p (Vu 40 [p] (Bm9 _) hc p (by simp)) N (by omega);refine B3 et ?_;rw[Bm2];refine Q0 (fun i x2 x3=>x3=(i:Int)/\x2.n<=i/\(0<x2.n ↔ ∃b,b<i/\PR w p k b)) (w.n+1) _ (by omega) ⟨rfl,Bm9 _,fun h=>Pm h (by show ¬ 0<0;omega),fun⟨a,h,_⟩=>Pm h (by omega)⟩ ?_;rintro m i x2 x3 u ⟨rfl,g1,g2⟩ f;by_cases hl:i<=w.n
 .refine An (Am ?_);have hb:=q.bit (a:=k) (by omega) (b:=i) (by omega);by_cases l:PR w p k i
  .refine ifT (hb.2 ⟨by omega,l⟩) (ifT (by show (x2.n+1)*8<=_/\x2.n+1<=_;omega) (f (by omega) _ _ ⟨Pd,by show x2.n+1<=_;omega,fun _=>⟨i,by omega,l⟩,fun _=>by show 0<x2.n+1;omega⟩))
  refine ifF (fun h=>l (hb.1 h).2) (f (by omega) _ _ ⟨Pd,by omega,fun h=>?_,fun⟨a,ha,h⟩=>?_⟩)
  .obtain⟨a,ha,h'⟩:=g2.1 h;exact⟨a,by omega,h'⟩
  by_cases e2:a=i
  .subst e2;exact Pm h l
  exact g2.2 ⟨a,by omega,h⟩
 refine Oi ⟨_,rfl,fun h=>?_,fun h=>?_⟩
 .obtain⟨a,ha,h'⟩:=g2.1 h;exact⟨hc,c,by omega,by omega,a,by omega,h'⟩
 obtain⟨a,ha,h'⟩:=h.2.2.2.2;exact g2.2 ⟨a,by omega,h'⟩
end Go.AM
namespace Go.AM
variable {N:Nat}
open Go.Proofs
def Bb8 (s c:Sm):Prop:=∃p m a b:BitVec 32,s=sOf p m/\c=sOf a b/\Al4 p m a b=true
def Av8 {p m a b:BitVec 32}(h:sOf p m=sOf a b):p=a/\m=b:=by have e1:(p.toNat:Int)=a.toNat:=congrArg Sm.Plus h;have e2:(m.toNat:Int)=b.toNat:=congrArg Sm.Minus h;exact⟨Bq2 (by omega),Bq2 (by omega)⟩
def satS_of {p m a b:BitVec 32}:Bb8 (sOf p m) (sOf a b)↔Al4 p m a b=true:=by
 constructor
 .rintro⟨p',m',a',b',h1,c,d⟩;obtain⟨rfl,rfl⟩:=Av8 h1;obtain⟨rfl,rfl⟩:=Av8 c;exact d
 exact fun h=>⟨_,_,_,_,rfl,rfl,h⟩
def AJ3 {s c:Sm}(hs:okS s)(hc:okS c):∃b,N1 N s c=some b/\(b=true↔Bb8 s c):=by obtain⟨p,m,rfl⟩:=hs;obtain⟨a,b,rfl⟩:=hc;exact⟨_,AX6 p m a b,satS_of.symm⟩
def AJ4 (d:1000<=N){s c:Sm}(hs:okS s)(hc:okS c):∃b,P8 N s c=some b/\(b=true↔Bb8 s c):=by obtain⟨p,m,rfl⟩:=hs;obtain⟨a,b,rfl⟩:=hc;exact⟨_,AX7 p m a b d,satS_of.symm⟩
def okL (l:Law):Prop:=okPS l.Left/\okPS l.Right/\∀i,i<l.If.n->okS (l.If.g i)
def arP (l:Law)(w:Sl Sm)(i:Nat):Prop:=chk 40 [l.Left]/\chk 40 [l.Right]/\wOk w/\i+l.If.n<=w.n/\(∃a,a<=w.n/\PR w l.Left a i)/\∃b,b<=w.n/\PR w l.Right (i+l.If.n) b
def QX (l:Law)(w:Sl Sm)(i:Nat):Prop:=i+l.If.n<=w.n/\(∀j,j<l.If.n->Bb8 (w.g (i+j)) (l.If.g j))/\arP l w i
def okW (w:Sl Sm):Prop:=w.n<1000/\∀i,i<w.n->okS (w.g i)
def Aj4 (c:3000<=N){l:Law}(hl:okL l)(hk:l.If.n<=4){w:Sl Sm}(hw:okW w)(i:Nat)(f:i<2000) :∃b,W7 N (i:Int) l w=some b/\(b=true↔arP l w i):=by
 unfold W7;obtain⟨y1,e1,h1⟩:=Aj3 (N:=N) c hl.1 (w:=w) ⟨by have:=hw.1;omega,by have:=hw.1;omega⟩ hw.2 (i:Int);refine B3 e1 ?_;rw[Bm2]at h1;by_cases d:y1.1.n=0
 .refine ifT (by simp[d]) ⟨false,rfl,by simp,fun h=>?_⟩
  have:=h1.2 ⟨h.1,h.2.2.1,by omega,by have:=h.2.2.2.1;omega,h.2.2.2.2.1⟩
  omega
 refine Oi ?_;rw[DQ (by omega)];obtain⟨y2,e2,a⟩:=AJ2 (N:=N) c hl.2.1 (w:=w) ⟨by have:=hw.1;omega,by have:=hw.1;omega⟩ hw.2 ((i+l.If.n:Nat):Int);rw[Bm2]at a;refine B3 e2 ⟨_,rfl,?_⟩;have h1:=h1.1 (by omega);rw[Pp];constructor
 .intro h;have a:=a.1 (by omega);exact⟨h1.1,a.1,h1.2.1,by omega,h1.2.2.2.2,a.2.2.2.2⟩
 intro h
 have:=a.2 ⟨h.2.1,h.2.2.1,by omega,by have:=h.2.2.2.1;omega,h.2.2.2.2.2⟩
 omega
def SV (f:3000<=N){l:Law}(hl:okL l)(hk:l.If.n<=4){w:Sl Sm}(hw:okW w)(i:Nat)(o:i<2000) :∃b,AK N l w (i:Int)=some b/\(b=true↔QX l w i):=by
 unfold AK;rw[DQ (by omega)];by_cases hn:w.n<i+l.If.n
 .exact An ⟨false,rfl,by simp,fun h=>by have:=h.1;omega⟩
 refine Oi ?_;refine X5 (fun j x1=>x1=(j:Int)/\∀k,k<j->Bb8 (w.g (i+k)) (l.If.g k)) l.If.n _ (by omega) ⟨rfl,fun k hk=>Pm hk (by omega)⟩ ?_;rintro m j x1 q ⟨rfl,h⟩ hs;by_cases c:j<l.If.n
 .rw[DQ (by omega)];refine An (Am ?_);obtain⟨b,eb,hb⟩:=AJ4 (N:=N) (by omega) (hw.2 (i+j) (by omega)) (hl.2.2 j c);refine B3 (by rw[Bm2,Bm2];exact eb) ?_;cases b
  .refine ifT rfl ⟨false,rfl,by simp,fun a=>?_⟩
   have:=hb.2 (a.2.1 j c);cases this
  refine Oj (hs c _ ⟨Pd,fun k d=>?_⟩);by_cases e:k=j
  .subst e;exact hb.1 rfl
  exact h k (by omega)
 refine Oi ?_;obtain⟨y1,e1,h1⟩:=Yi (N:=N) f hl.1 (w:=w) hw.2 (i:Int);obtain⟨y2,e2,a⟩:=Av7 (N:=N) f hl.2.1 (w:=w) hw.2 ((i+l.If.n:Nat):Int);rw[Bm2]at h1 a;refine B3 e1 (B3 e2 ⟨_,rfl,?_⟩);simp only[Bm8,Pp];constructor
 .rintro⟨g1,g2⟩;have h1:=h1.1 (by omega);have a:=a.1 (by omega);exact⟨by omega,fun k d=>h k (by omega),h1.1,a.1,h1.2.1,by omega,h1.2.2.2.2,a.2.2.2.2⟩
 intro g;have a1:=h1.2 ⟨g.2.2.1,g.2.2.2.2.1,by omega,by omega,g.2.2.2.2.2.2.1⟩;have a2:=a.2 ⟨g.2.2.2.1,g.2.2.2.2.1,by omega,by omega,g.2.2.2.2.2.2.2⟩;exact⟨by omega,by omega⟩
end Go.AM
namespace Go.AM
open IntKind (wrap)
open Go.Proofs
open Classical in
noncomputable def hitB (l:Law) (w:Sl Sm) (i:Nat):Bool:=decide (QX l w i)
def hitB_iff {l:Law}{w:Sl Sm}{i:Nat}:hitB l w i=true↔QX l w i:=by simp[hitB]
noncomputable def Ey (l:Law) (w:Sl Sm) (i:Nat):List Int:=((List.range' i (w.n+1-i)).filter (hitB l w)).map fun (j:Nat)=>(j:Int)
def KT {l:Law}{w:Sl Sm}{i:Nat}(h:w.n<i+l.If.n):Ey l w i=[]:=by
 unfold Ey;rw[BE5.2 fun j a hb=>by
  have:=BC8.1 a
  have:=(hitB_iff.1 hb).1
  omega]
 rfl
def JZ {l:Law}{w:Sl Sm}{i:Nat}(a:i<=w.n)(h:QX l w i):Ey l w i=(i:Int)::Ey l w (i+1):=by unfold Ey;rw[show w.n+1-i=(w.n+1-(i+1))+1 by omega,Bv5,Bz0 (hitB_iff.2 h)];rfl
def Ka {l:Law}{w:Sl Sm}{i:Nat}(h:¬QX l w i):Ey l w i=Ey l w (i+1):=by
 unfold Ey;by_cases a:i<=w.n
 .rw[show w.n+1-i=(w.n+1-(i+1))+1 by omega,Bv5,Bz1 fun hb=>h (hitB_iff.1 hb)]
 rw[show w.n+1-i=0 by omega,show w.n+1-(i+1)=0 by omega];rfl
def AJ5 {l:Law}{w:Sl Sm}{i:Nat}{y:Int}(h:y∈Ey l w i):(i:Int)<=y:=by
 obtain⟨j,a,rfl⟩:=Bp0.1 h
 have:=BC8.1 (Bw3.1 a).1
 omega
def ZQ {N:Nat}(z:3000<=N){l:Law}(hl:okL l)(hk:l.If.n<=4){w:Sl Sm}(hw:okW w)(i:Nat)(v:i<1500):Z7 N l w (i:Int)=some (Ey l w i):=by
 unfold Z7;show (some (l,w)).bind _=_;rw[Bm6];simp only[]
 suffices h:∀(k i:Nat),i<1501->w.n+1-i<=k->∀F,k<F->∃r,Q7 F (fun (a:Int->Option (List Int)) (x2:Int)=>
  if (decide ((wrap .i64 (x2+(l.If.n:Int)))<=(w.n:Int))) then
   Q7 N (fun (d:Int->Option (List Int)) (x4:Int)=>
    if (decide (x4<(l.If.n:Int))) then
     if ((0:Int)<=x4/\x4<(l.If.n:Int))then
      if ((0:Int)<=(wrap .i64 (x2+x4))/\(wrap .i64 (x2+x4))<(w.n:Int))then
       (N1 N (w.g (wrap .i64 (x2+x4)).toNat) (l.If.g x4.toNat)).bind fun s=>
       if (!s) then
        a (wrap .i64 (x2+1))
       else
        d (wrap .i64 (x4+1))
      else none
     else none
    else
     (W7 N x2 l w).bind fun t=>
     if t then
      Az x2 (
       a (wrap .i64 (x2+1))
       )
     else
      a (wrap .i64 (x2+1))
    ) 0
  else
   some []
  ) (i:Int)=some r/\r=Ey l w i by
  obtain⟨r,h1,rfl⟩:=h (w.n+1-i) i (by omega) (Bm9 _) N (by have:=hw.1;omega);exact h1
 intro k
 induction k with
 |zero=>
  intro i v f F q
  match F,q with
  |F+1,_=>rw[T9,DQ (by omega)];exact Oi ⟨_,rfl,(KT (by omega)).symm⟩
 |succ k ih=>
  intro i v f F q
  match F,q with
  |F+1,q=>
   rw[T9,DQ (by omega)];by_cases hn:i+l.If.n<=w.n
   case neg=>exact Oi ⟨_,rfl,(KT (by omega)).symm⟩
   refine An ?_;have a0:=hw.1;obtain⟨r,x,o⟩:=ih (i+1) (by omega) (by omega) F (by omega);have c:∀(Q:List Int->Prop),Q (Ey l w (i+1))->∃r,Q7 F _ (IntKind.i64.wrap ((i:Int)+1))=some r/\Q r:=fun Q hQ=>⟨r,by rw[Pd];exact x,by rw[o];exact hQ⟩;refine X5 (fun j x1=>x1=(j:Int)/\∀k,k<j->Bb8 (w.g (i+k)) (l.If.g k)) l.If.n _ (by omega) ⟨rfl,fun k hk=>Pm hk (by omega)⟩ ?_;rintro y j x1 hj ⟨rfl,h⟩ hs;by_cases m:j<l.If.n
   .rw[DQ (by omega)];refine An (Am (Am ?_));obtain⟨b,eb,hb⟩:=AJ3 (N:=N) (hw.2 (i+j) (by omega)) (hl.2.2 j m);refine B3 (by rw[Bm2,Bm2];exact eb) ?_;cases b
    .refine ifT rfl (c _ ?_);exact (Ka fun u=>by have:=hb.2 (u.2.1 j m);cases this).symm
    refine Oj (hs m _ ⟨Pd,fun k f=>?_⟩);by_cases e:k=j
    .subst e;exact hb.1 rfl
    exact h k (by omega)
   refine Oi ?_;obtain⟨b,eb,hb⟩:=Aj4 z hl hk hw i (by omega);refine B3 eb ?_;cases b
   .refine Oj (c _ ?_);exact (Ka fun u=>by have:=hb.2 u.2.2;cases this).symm
   refine ifT rfl ?_;have hh:QX l w i:=⟨hn,fun k f=>h k (by omega),hb.1 rfl⟩;refine⟨(i:Int)::Ey l w (i+1),?_,(JZ (by omega) hh).symm⟩;rw[Pd,x,o];rfl
def Av9 {N:Nat}(a:3000<=N){l:Law}(hl:okL l)(hk:l.If.n<=4){w:Sl Sm}(hw:okW w)(i:Nat)(c:i<1500) :∃b,CB N l w (i:Int)=some b/\(b=true↔QX l w i):=by
 unfold CB;refine B3 (x:=(l,w,(i:Int))) rfl (B3 (ZQ a hl hk hw i c) ?_);by_cases h:QX l w i
 .rw[JZ (by have:=h.1;omega) h];exact⟨true,by simp[Q5],by simp[h]⟩
 rw[Ka h];rcases Y:Ey l w (i+1)with _|⟨t,L⟩
 .exact⟨false,rfl,by simp[h]⟩
 have:((i+1:Nat):Int)<=t:=AJ5 (l:=l) (w:=w) (by rw[Y];simp)
 exact⟨false,by show some (t==(i:Int))=some false;congr 1;simp;omega,by simp[h]⟩
end Go.AM
namespace Go.AM
variable {N:Nat}
open IntKind (wrap)
open Go.Proofs
def okO (x:FS):Prop:=okS x.Set/\(∃c:BitVec 32,x.Clear=(c.toNat:Int))/\∃t:BitVec 32,x.Take=(t.toNat:Int)
def AO5 {p m a b s:BitVec 32}(h1:vB p m=true)(d:vB a b=true):vB (Tn p a s) (Tn m b s)=true:=by rw[Gh]at *;intro i c;have g1:=h1 i c;have g2:=d i c;simp only[Tn,Bo1,Bo2,Br8];revert g1 g2;cases s.getLsbD i<;>cases p.getLsbD i<;>cases m.getLsbD i<;>cases a.getLsbD i<;>cases b.getLsbD i<;>simp[c]
def vS0:vS (⟨0,0⟩:Sm):=⟨0#32,0#32,rfl,by decide +kernel⟩
def Yj (f:1000<=N){s t:Sm}{c:Int}(hs:okS s)(hc:∃b:BitVec 32,c=(b.toNat:Int))(ht:okS t):∃y,P3 N s c t=some y/\R5 N s c t=some y/\vS y.1:=by
 obtain⟨p,m,rfl⟩:=hs;obtain⟨a,b,rfl⟩:=ht;obtain⟨d,rfl⟩:=hc;refine⟨_,Aj0 p m d a b,Aj1 p m d a b f,?_⟩;unfold AI5;split
 .rename_i h;split
  .exact⟨_,_,rfl,AO5 h.1 h.2⟩
  exact vS0
 exact vS0
def Aw0 (f:1000<=N){s t:Sm}{c:Int}(hs:okS s)(hc:∃b:BitVec 32,c=(b.toNat:Int))(ht:okS t):∃y,U5 N s t c=some y/\Ad N s t c=some y/\vS y.1:=by
 obtain⟨p,m,rfl⟩:=hs;obtain⟨a,b,rfl⟩:=ht;obtain⟨d,rfl⟩:=hc;refine⟨_,AI7 p m a b d,AI8 p m a b d f,?_⟩;unfold AI6;split
 .rename_i h;split
  .exact⟨_,_,rfl,AO5 h.1 h.2⟩
  exact vS0
 exact vS0
def Bb9 (l:Law):Prop:=l.Out.n<=6/\∀i,i<l.Out.n->okO (l.Out.g i)/\(l.Out.g i).From<l.If.n/\((l.Out.g i).Take≠0->0<=(l.Out.g i).Of/\(l.Out.g i).Of<l.If.n)
def eqX {R:Type}{Q:R->Prop}{o o' : Option R}(h:o=o')(a:∃r,o' = some r/\Q r):∃r,o=some r/\Q r:=by rw[h];exact a
def BU (f:Nat->Sm):Nat->Sl Sm
 |0=>Sl.nil
 |m+1=>(BU f m).push (f m)
def IK (f:Nat->Sm):∀m,(BU f m).n=m
 |0=>rfl
 |m+1=>by show (BU f m).n+1=_;rw[IK f m]
def Yk (f:Nat->Sm):∀{m i:Nat},i<m->(BU f m).g i=f i
 |0,i,h=>by omega
 |m+1,i,h=>by
  show (if i<(BU f m).n then (BU f m).g i else f m)=f i;rw[IK];by_cases e:i<m
  .rw[Pk e,Yk f e]
  rw[Pl e,show i=m by omega]
abbrev srcS (l:Law)(cut:Sl Sm)(i:Nat):Sm:=⟨(if (decide (0<=(l.Out.g i).From)) then (cut.g (l.Out.g i).From.toNat).Plus else 0),(if (decide (0<=(l.Out.g i).From)) then (cut.g (l.Out.g i).From.toNat).Minus else 0)⟩
def AY5 (t:1000<=N){l:Law}(u:Bb9 l){cut:Sl Sm}(hn:cut.n=l.If.n)(hc:∀i,i<cut.n->okS (cut.g i)) :∃s,O9 N l cut=some s/\Bv N l cut=some s/\s.n=l.Out.n/\∀i,i<s.n->vS (s.g i):=by
 have one:∀i,∃y:Sm,i<l.Out.n->vS y/\∀(R:Type) (k:Sm->Option R),
  (∀(Ch:Nat->Sm->Int->Sm->Option (Sm×Int)) (Ta:Nat->Sm->Sm->Int->Option (Sm×Int)),(Ch=P3/\Ta=U5) \/ (Ch=R5/\Ta=Ad) ->
  (if ((decide (0<=(l.Out.g i).From))=true->((0:Int)<=(l.Out.g i).From/\(l.Out.g i).From<(cut.n:Int)))then
   (Ch N (⟨(if (decide (0<=(l.Out.g i).From)) then (cut.g (l.Out.g i).From.toNat).Plus else 0),(if (decide (0<=(l.Out.g i).From)) then (cut.g (l.Out.g i).From.toNat).Minus else 0)⟩:Sm) (l.Out.g i).Clear (l.Out.g i).Set).bind fun y5=>
   if ((l.Out.g i).Take != 0) then
    if ((0:Int)<=(l.Out.g i).Of/\(l.Out.g i).Of<(cut.n:Int))then
     (Ta N y5.1 (cut.g (l.Out.g i).Of.toNat) (l.Out.g i).Take).bind fun y6=>k y6.1
    else none
   else k y5.1
   else none)=k y):=by
  intro i;by_cases d:i<l.Out.n
  case neg=>exact⟨default,fun h=>Pm h d⟩
  obtain⟨⟨j,m,o⟩,w,q⟩:=u.2 i d;have hs:okS (⟨(if (decide (0<=(l.Out.g i).From)) then (cut.g (l.Out.g i).From.toNat).Plus else 0),(if (decide (0<=(l.Out.g i).From)) then (cut.g (l.Out.g i).From.toNat).Minus else 0)⟩:Sm):=by
   by_cases v:0<=(l.Out.g i).From
   .simp only[v,decide_true,Pn];exact hc _ (by omega)
   simp only[v,decide_false,Bn1,Po];exact⟨0#32,0#32,rfl⟩
  obtain⟨y,e1,e2,hy⟩:=Yj t hs m j;by_cases ht:(l.Out.g i).Take=0
  .refine⟨y.1,fun _=>⟨hy,fun R k Ch Ta h=>?_⟩⟩;rw[Pk (fun h=>by have:=of_decide_eq_true h;omega)]
   have:Ch N (srcS l cut i) (l.Out.g i).Clear (l.Out.g i).Set=some y:=by
    rcases h with⟨rfl,rfl⟩ | ⟨rfl,rfl⟩
    .exact e1
    exact e2
   rw[this,Bm6,Pl (by simp[ht])]
  obtain⟨g1,g2⟩:=q ht;obtain⟨z,e3,e4,x⟩:=Aw0 t hy.ok o (hc (l.Out.g i).Of.toNat (by omega));refine⟨z.1,fun _=>⟨x,fun R k Ch Ta h=>?_⟩⟩;rw[Pk (fun h=>by have:=of_decide_eq_true h;omega)]
  have:Ch N (srcS l cut i) (l.Out.g i).Clear (l.Out.g i).Set=some y:=by
   rcases h with⟨rfl,rfl⟩ | ⟨rfl,rfl⟩
   .exact e1
   exact e2
  rw[this,Bm6,Pk (by simp[ht]),Pe]
  have:Ta N y.1 (cut.g (l.Out.g i).Of.toNat) (l.Out.g i).Take=some z:=by
   rcases h with⟨rfl,rfl⟩ | ⟨rfl,rfl⟩
   .exact e3
   exact e4
  rw[this,Bm6]
 obtain⟨out,f⟩:=Bv0 one;have a0:=u.1;have b:∀(Ch:Nat->Sm->Int->Sm->Option (Sm×Int)) (Ta:Nat->Sm->Sm->Int->Option (Sm×Int)),(Ch=P3/\Ta=U5) \/ (Ch=R5/\Ta=Ad) ->
  ∀(a:Sl Sm->Int->Option (Sl Sm)) (i:Nat),i<l.Out.n->(∃r,a ((BU out i).push (out i)) (wrap .i64 ((i:Int)+1))=some r/\r=BU out l.Out.n) ->
  ∃r,(if ((decide (0<=(l.Out.g i).From))=true->((0:Int)<=(l.Out.g i).From/\(l.Out.g i).From<(cut.n:Int)))then
   (Ch N (srcS l cut i) (l.Out.g i).Clear (l.Out.g i).Set).bind fun y5=>
   if ((l.Out.g i).Take != 0) then
    if ((0:Int)<=(l.Out.g i).Of/\(l.Out.g i).Of<(cut.n:Int))then
     (Ta N y5.1 (cut.g (l.Out.g i).Of.toNat) (l.Out.g i).Take).bind fun y6=>
     if (((BU out i).n+(Sl.of [y6.1]:Sl Sm).n)*8<=140737488355328/\(BU out i).n+(Sl.of [y6.1]:Sl Sm).n<=140737488355328)then
      a ((BU out i).push y6.1) (wrap .i64 ((i:Int)+1))
     else none
    else none
   else
    if (((BU out i).n+(Sl.of [y5.1]:Sl Sm).n)*8<=140737488355328/\(BU out i).n+(Sl.of [y5.1]:Sl Sm).n<=140737488355328)then
     a ((BU out i).push y5.1) (wrap .i64 ((i:Int)+1))
    else none
   else none)=some r/\r=BU out l.Out.n:=by
  intro Ch Ta h a i d hr;have e:=(f i d).2 (Sl Sm) (fun y=>if (((BU out i).n+(Sl.of [y]:Sl Sm).n)*8<=140737488355328/\(BU out i).n+(Sl.of [y]:Sl Sm).n<=140737488355328)then a ((BU out i).push y) (wrap .i64 ((i:Int)+1))else none) Ch Ta h;refine eqX e (ifT ?_ hr)
  have:=IK out i
  show ((BU out i).n+1)*8<=_/\(BU out i).n+1<=_;omega
 have h1:∃r,O9 N l cut=some r/\r=BU out l.Out.n:=by
  unfold O9;refine Q0 (fun i x1 x2=>x2=(i:Int)/\x1=BU out i) l.Out.n _ (by omega) ⟨rfl,rfl⟩ ?_;rintro a i x1 x2 d ⟨rfl,rfl⟩ hs;by_cases c:i<l.Out.n
  .refine An (Am ?_);rw[Bm2];exact b _ _ (.inl ⟨rfl,rfl⟩) a i c (hs c _ _ ⟨Pd,rfl⟩)
  exact Oi ⟨_,rfl,by congr 1;omega⟩
 have h2:∃r,Bv N l cut=some r/\r=BU out l.Out.n:=by
  unfold Bv;refine Q0 (fun i x1 x2=>x2=(i:Int)/\x1=BU out i) l.Out.n _ (by omega) ⟨rfl,rfl⟩ ?_;rintro a i x1 x2 d ⟨rfl,rfl⟩ hs;by_cases c:i<l.Out.n
  .refine An (Am ?_);rw[Bm2];exact b _ _ (.inr ⟨rfl,rfl⟩) a i c (hs c _ _ ⟨Pd,rfl⟩)
  exact Oi ⟨_,rfl,by congr 1;omega⟩
 obtain⟨r,e1,rfl⟩:=h1;obtain⟨r,e2,rfl⟩:=h2;exact⟨_,e1,e2,IK out _,fun i d=>by rw[IK]at d;rw[Yk out d];exact (f i d).1⟩
end Go.AM
namespace Go.AM
open Go.Proofs
def ne0 (x:BitVec 32):((x.toNat:Int) != 0)=decide (x≠0#32):=by rw[bne,eq0];simp
def or0 (x y:BitVec 32):x ||| y=0#32↔x=0#32/\y=0#32:=by
 constructor
 .intro h;have h:=(z32 _).1 h;exact⟨(z32 _).2 fun i a=>by have:=h i a;rw[Bo1,Bw1]at this;exact this.1,(z32 _).2 fun i a=>by have:=h i a;rw[Bo1,Bw1]at this;exact this.2⟩
 rintro⟨rfl,rfl⟩;rfl
def Bj0 (x y z:BitVec 32):x &&& (y ||| z)=(x &&& y) ||| (x &&& z):=by apply Bs2;intro i a;simp only[Bo2,Bo1];cases x.getLsbD i<;>simp
def Bj1 (x y z:BitVec 32):(x ||| y) &&& z=(x &&& z) ||| (y &&& z):=by apply Bs2;intro i a;simp only[Bo2,Bo1];cases z.getLsbD i<;>simp
def ZR {N:Nat}(j:1000<=N){x:FS}(hx:okO x)(k:Int):∃b,W6 N x k=some b/\EE N x k=some b:=by
 obtain⟨⟨a,b,d⟩,⟨c,hc⟩,t,ht⟩:=hx;have f:(16777215:Int)=((16777215#32).toNat:Int):=rfl;unfold W6 EE;simp only[lt,d,hc,ht,BP,Av a b j,Bm6];rw[f];simp only[Fu,Lt,EX,ne0];by_cases h1:x.From < -1
 .simp[h1]
 by_cases g:k<=x.From
 .simp[h1,g]
 by_cases i:vB a b=true
 case neg=>simp[h1,g,i]
 simp only[h1,g,i,decide_false,Bn1,Po,By7];rw[Bj1,Bj0 t];generalize ~~~16777215#32=M;by_cases g1:c &&& M=0#32
 case neg=>simp[g1,or0]
 by_cases g2:t &&& M=0#32
 case neg=>simp[g1,g2,or0]
 by_cases g3:c &&& (a ||| b)=0#32
 case neg=>simp[g1,g2,g3,or0]
 by_cases g4:t &&& (a ||| b)=0#32
 case neg=>simp[g1,g2,g3,g4,or0]
 by_cases g5:t &&& c=0#32
 case neg=>simp[g1,g2,g3,g4,g5,or0]
 simp[g1,g2,g3,g4,g5,or0];by_cases g6:t.toNat=0
 .simp only[g6,Pn];cases x.Of==0<;>simp
 simp only[g6,Po];cases (decide (0<=x.Of)&&decide (x.Of<k))<;>simp
end Go.AM
namespace Go.AM
open Go.Proofs
abbrev nameC:Str:=[97,98,99,100,101,102,103,104,105,106,107,108,109,110,111,112,113,114,115,116,117,118,119,120,121,122,65,66,67,68,69,70,71,72,73,74,75,76,77,78,79,80,81,82,83,84,85,86,87,88,89,90,48,49,50,51,52,53,54,55,56,57,45]
def Aw1 {p:UInt8->Bool}:∀{l:Str},l.dropWhile p=[] ↔ ∀x∈l,p x=true
 |[]=>by simp
 |a::l=>by
  rw[List.dropWhile_cons];by_cases h:p a=true
  .rw[Pk h,Aw1];simp[h]
  rw[Pl h];simp[h]
def AJ6 (l cs:Str):Lib.trimS l cs=[] ↔ ∀b∈l,cs.contains b=true:=by
 unfold Lib.trimS Lib.trimLeftS Lib.trimRightS;rw[Aw1];constructor
 .intro h;have h:∀x∈l.reverse.dropWhile (cs.contains ·),cs.contains x=true:=fun x hx=>h x (BA6.2 hx);have a:l.reverse.dropWhile (cs.contains ·)=[]:=by
   rcases e:l.reverse.dropWhile (cs.contains ·)with _|⟨y,r⟩
   .rfl
   have c:=h y (by rw[e];simp);have d:¬cs.contains y=true:=by
    have:=List.head_dropWhile_not (cs.contains ·) (l:=l.reverse) (by rw[e];simp)
    simp only[e,List.head_cons]at this;rw[this];exact Bool.false_ne_true
   exact Pm c d
  rw[Aw1]at a;exact fun b hb=>a b (BA6.2 hb)
 intro h x hx;have hx:=BA6.1 hx;exact h x (BA6.1 ((List.dropWhile_sublist _).mem hx))
abbrev SW (y:Int):Bool:=((((decide (97<=y))&&(decide (y<=122)))||((decide (65<=y))&&(decide (y<=90))))||((decide (48<=y))&&(decide (y<=57))))||(y==45)
def Aw2:∀k:Fin 256,nameC.contains (UInt8.ofNat k.val)=SW ((k.val:Nat):Int):=by decide +kernel
def Aw3 (b:UInt8):nameC.contains b=SW ((b.toNat:Nat):Int):=by
 have:=Aw2 ⟨b.toNat,b.toNat_lt⟩
 rw[show UInt8.ofNat b.toNat=b by simp]at this;exact this
def Vy {N:Nat}{s:Str}(n:s.length<N)(hs:s.length<1000000000):∃b,Cm N s=some b/\BW N s=some b:=by
 have o:∃b,BW N s=some b/\(b=true↔(∀c∈s,nameC.contains c=true)/\1<=s.length/\s.length<=24):=by
  unfold BW;refine X5 (fun i x1=>x1=(i:Int)/\∀j (h:j<s.length),j<i->nameC.contains s[j]=true) s.length _ n ⟨rfl,fun j _ a=>Pm a (by omega)⟩ ?_;rintro l i x1 v ⟨rfl,h⟩ f;by_cases hl:i<s.length
  .refine An (Am ?_);have eb:Aw s (i:Int)=((s[i].toNat:Nat):Int):=by simp[Aw,hl]
   by_cases hb:nameC.contains s[i]=true
   .refine ifF (by rw[eb];show ¬(!(SW ((s[i].toNat:Nat):Int)))=true;rw[<- Aw3,hb];simp) (f hl _ ⟨Pd,fun j a q=>?_⟩);by_cases e:j=i
    .subst e;exact hb
    exact h j a (by omega)
   refine ifT ?_ ⟨false,rfl,by simp,fun t=>Pm (t.1 s[i] (BE0 hl)) hb⟩;rw[eb];show (!(SW ((s[i].toNat:Nat):Int)))=true;rw[<- Aw3];simpa using hb
  refine Oi ⟨_,rfl,?_⟩;simp only[Bm8,Pp];constructor
  .rintro⟨g1,g2⟩;refine⟨fun c hc=>?_,by omega,by omega⟩;obtain⟨j,a,rfl⟩:=BB0 hc;exact h j a (by omega)
  rintro⟨_,g1,g2⟩;exact⟨by omega,by omega⟩
 obtain⟨b,e,hb⟩:=o;refine⟨b,?_,e⟩
 suffices h:∃r,Cm N s=some r/\(r=true↔(∀c∈s,nameC.contains c=true)/\1<=s.length/\s.length<=24) by obtain⟨r,u,g⟩:=h;rw[u,show r=b by rw[Bq0,g,hb]]
 unfold Cm;refine ltX ?_;by_cases d:s=[]
 .exact ifF (by simp[d]) ⟨false,rfl,by simp[d]⟩
 refine ifT (by simp[d]) ?_;have m:0<s.length:=List.length_pos_iff.2 d;by_cases h1:s.length<=24
 .refine An (B3 (x:=Lib.trimS s nameC) ?_ ⟨_,rfl,?_⟩)
  .unfold Eu;rw[Pk ⟨by omega,by decide,by decide⟩]
  rw[<- AJ6];constructor
  .intro h;exact⟨by simpa using h,by omega,h1⟩
  rintro⟨h,_⟩;simp[h]
 exact Oi ⟨false,rfl,by simp;intro _ _;omega⟩
end Go.AM
namespace Go.AM
variable {N:Nat}
open IntKind (wrap)
open Go.Proofs
def Vz {s:Sl FS}(m:s.n<N)(hs:s.n<1000000){f:FS->Option Bool}{b:Nat->Bool}(o:∀i,i<s.n->f (s.g i)=some (b i)) :∃r,D9 N s f=some r/\(r=true ↔ ∃i,i<s.n/\b i=true):=by
 unfold D9 F7
 have:∃y,Q7 N (fun (a:Int->Option Int) (x1:Int)=>
  if (decide (x1<(s.n:Int))) then
   if ((0:Int)<=x1/\x1<(s.n:Int))then
    (f (s.g x1.toNat)).bind fun y3=>
    if y3 then
     some x1
    else
     a (wrap .i64 (x1+1))
   else none
  else
   some (-1)) 0=some y/\(0<=y ↔ ∃i,i<s.n/\b i=true):=by
  refine X5 (fun i x1=>x1=(i:Int)/\∀j,j<i->b j=false) s.n _ m ⟨rfl,fun j c=>Pm c (by omega)⟩ ?_;rintro l i x1 q ⟨rfl,h⟩ d;by_cases hl:i<s.n
  .refine An (Am (B3 (by rw[Bm2];exact o i hl) ?_));cases hb:b i
   .refine Oj (d hl _ ⟨Pd,fun j c=>?_⟩);by_cases e:j=i
    .subst e;exact hb
    exact h j (by omega)
   exact ifT rfl ⟨i,rfl,fun _=>⟨i,hl,hb⟩,fun _=>by omega⟩
  refine Oi ⟨-1,rfl,fun h=>Pm h (by decide),?_⟩;rintro⟨j,c,hb⟩;rw[h j (by omega)]at hb;cases hb
 obtain⟨y,e,hy⟩:=this;exact B3 e ⟨_,rfl,by rw[Pp];exact hy⟩
def OF (l:Law):Prop:=okL l/\l.Name.length<1100000/\l.If.n<1100000/\l.Out.n<1100000/\∀i,i<l.Out.n->okO (l.Out.g i)
def Aj5 {s:Sm}(hs:okS s):∃b,I0 N s=some b/\(b=true↔vS s):=by obtain⟨p,m,e⟩:=hs;exact⟨vB p m,by rw[e];exact BP p m,(Ye e).symm⟩
def Aj6 (a:1000<=N){s:Sm}(hs:okS s):∃b,J1 N s=some b/\(b=true↔vS s):=by obtain⟨p,m,e⟩:=hs;exact⟨vB p m,by rw[e];exact Av p m a,(Ye e).symm⟩
def AJ7 {x:FS}(hx:okO x){k:Int}(h:W6 N x k=some true):x.From<k/\(x.Take≠0->0<=x.Of/\x.Of<k):=by
 obtain⟨⟨a,b,c⟩,_,_⟩:=hx;unfold W6 at h;simp only[lt,c,BP,Bm6]at h;by_cases h1:x.From < -1
 .simp[h1]at h
 by_cases d:k<=x.From
 .simp[h1,d]at h
 refine⟨by omega,fun ht=>?_⟩;simp only[h1,d,decide_false,Bn1,Po]at h;by_cases f:(!vB a b)=true
 .rw[Pk f]at h;cases h
 rw[Pl f]at h;split at h
 .cases h
 rw[Pl (by simp[ht])]at h;simpa using h
def chkAll (N:Nat)(l:Law):Prop:=BW N l.Name=some true/\chk 40 [l.Left]/\chk 40 [l.Right]/\l.If.n<=4/\l.Out.n<=6/\l.If.n+l.Out.n≠0/\1<=l.Mode/\l.Mode<=3/\(∀i,i<l.If.n->vS (l.If.g i))/\∀i,i<l.Out.n->W6 N (l.Out.g i) l.If.n=some true
def AY6 (N:Nat)(l:Law)(e:Int):Prop:=(e=0/\chkAll N l) \/ (e=17/\¬chkAll N l)
def Bc0 (l:Law):Prop:=okL l/\chk 40 [l.Left]/\chk 40 [l.Right]/\l.If.n<=4/\Bb9 l/\l.If.n+l.Out.n≠0/\1<=l.Mode/\l.Mode<=3
def chkAll.f {N:Nat}{l:Law}(hl:OF l)(h:chkAll N l):Bc0 l:=by obtain⟨_,h1,b,c,d,g,j,m,o,n⟩:=h;exact⟨hl.1,h1,b,c,⟨d,fun i a=>⟨hl.2.2.2.2 i a,AJ7 (hl.2.2.2.2 i a) (n i a)⟩⟩,g,j,m⟩
def Aj7 (hN:3000000<=N){l:Law}(hl:OF l):∃e,Z6 N l=some e/\AY6 N l e:=by
 have u:=hl.2.1;have v:=hl.2.2.1;have x:=hl.2.2.2.1;unfold Z6;obtain⟨b0,e0,e0'⟩:=Vy (N:=N) (s:=l.Name) (by omega) (by omega);refine B3 e0 ?_;cases b0
 .exact ifT rfl ⟨17,rfl,.inr ⟨rfl,fun h=>by have:=h.1;rw[e0']at this;cases this⟩⟩
 refine Oj ?_;obtain⟨y2,e2,o⟩:=SU (N:=N) (by omega) hl.1.1;refine B3 e2 ?_;by_cases c2:y2=0
 case neg=>exact ifT (by simpa using c2) ⟨17,rfl,.inr ⟨rfl,fun h=>c2 (o.2 h.2.1)⟩⟩
 refine ifF (by simp[c2]) ?_;obtain⟨y3,e3,q⟩:=SU (N:=N) (by omega) hl.1.2.1;refine B3 e3 ?_;by_cases c3:y3=0
 case neg=>exact ifT (by simpa using c3) ⟨17,rfl,.inr ⟨rfl,fun h=>c3 (q.2 h.2.2.1)⟩⟩
 refine ifF (by simp[c3]) ?_;by_cases c4:4<l.If.n
 .exact An ⟨17,rfl,.inr ⟨rfl,fun h=>by have:=h.2.2.2.1;omega⟩⟩
 refine Oi ?_;by_cases c5:6<l.Out.n
 .exact An ⟨17,rfl,.inr ⟨rfl,fun h=>by have:=h.2.2.2.2.1;omega⟩⟩
 refine Oi ?_;rw[DQ (by omega)];by_cases c6:l.If.n+l.Out.n=0
 .exact ifT (by rw[c6];rfl) ⟨17,rfl,.inr ⟨rfl,fun h=>h.2.2.2.2.2.1 c6⟩⟩
 refine Oi ?_;by_cases c7:l.Mode<1 \/ 3<l.Mode
 .exact An ⟨17,rfl,.inr ⟨rfl,fun h=>by have g1:=h.2.2.2.2.2.2.1;have g2:=h.2.2.2.2.2.2.2.1;omega⟩⟩
 refine Oi ?_;have y:∀i,∃b,i<l.If.n->At N (l.If.g i)=some b/\(b=true ↔ ¬vS (l.If.g i)):=by
  intro i;by_cases a:i<l.If.n
  .obtain⟨b,eb,hb⟩:=Aj5 (N:=N) (hl.1.2.2 i a);refine⟨!b,fun _=>⟨by unfold At;rw[eb];rfl,?_⟩⟩;rw[<- hb];simp
  exact⟨false,fun h=>Pm h a⟩
 obtain⟨f,j⟩:=Bv0 y;obtain⟨y4,e4,r⟩:=LL (N:=N) (w:=l.If) (by omega) (by omega) (f:=fun u1=>At N u1) (fun i a=>(j i a).1);refine B3 e4 ?_;cases c:y4
 case true=>obtain⟨i,a,hb⟩:=r.1 c;exact ifT rfl ⟨17,rfl,.inr ⟨rfl,fun h=>(j i a).2.1 hb (h.2.2.2.2.2.2.2.2.1 i a)⟩⟩
 refine Oj ?_;have z:∀i,∃b,i<l.Out.n->Ar N (l.Out.g i) (l.If.n:Int)=some b/\(b=true ↔ ¬W6 N (l.Out.g i) l.If.n=some true):=by
  intro i;by_cases a:i<l.Out.n
  .obtain⟨b,eb,_⟩:=ZR (N:=N) (by omega) (hl.2.2.2.2 i a) (l.If.n:Int);refine⟨!b,fun _=>⟨by unfold Ar;rw[eb];rfl,?_⟩⟩;rw[eb];simp
  exact⟨false,fun h=>Pm h a⟩
 obtain⟨g,m⟩:=Bv0 z;obtain⟨y5,e5,t⟩:=Vz (N:=N) (s:=l.Out) (by omega) (by omega) (f:=fun u2=>Ar N u2 (l.If.n:Int)) (fun i a=>(m i a).1);refine B3 e5 ?_;cases d:y5
 case true=>obtain⟨i,a,hb⟩:=t.1 d;exact ifT rfl ⟨17,rfl,.inr ⟨rfl,fun h=>(m i a).2.1 hb (h.2.2.2.2.2.2.2.2.2 i a)⟩⟩
 refine Oj ⟨0,rfl,.inl ⟨rfl,e0',o.1 c2,q.1 c3,by omega,by omega,c6,by omega,by omega,fun i a=>?_,fun i a=>?_⟩⟩
 .refine Bn7 fun hn=>?_
  have:=r.2 ⟨i,a,(j i a).2.2 hn⟩
  rw[c]at this;cases this
 refine Bn7 fun hn=>?_
 have:=t.2 ⟨i,a,(m i a).2.2 hn⟩
 rw[d]at this;cases this
def Aj8 (y:3000000<=N){l:Law}(hl:OF l):∃e,Y4 N l=some e/\AY6 N l e:=by
 have u:=hl.2.1;have v:=hl.2.2.1;have w:=hl.2.2.2.1;unfold Y4;obtain⟨b0,e0,e0'⟩:=Vy (N:=N) (s:=l.Name) (by omega) (by omega);refine B3 e0' (ltX ?_);cases b0
 .exact ifT rfl (ifT rfl ⟨17,rfl,.inr ⟨rfl,fun h=>by have:=h.1;rw[e0']at this;cases this⟩⟩)
 refine Oj ?_;obtain⟨y2,e2,q⟩:=OC (N:=N) (by omega) hl.1.1;refine B3 e2 ?_;by_cases c2:y2=0
 case neg=>exact ifT (by simpa using c2) (ifT rfl ⟨17,rfl,.inr ⟨rfl,fun h=>c2 (q.2 h.2.1)⟩⟩)
 refine ifF (by simp[c2]) ?_;obtain⟨y3,e3,r⟩:=OC (N:=N) (by omega) hl.1.2.1;refine B3 e3 ?_;by_cases c3:y3=0
 case neg=>exact ifT (by simpa using c3) ⟨17,rfl,.inr ⟨rfl,fun h=>c3 (r.2 h.2.2.1)⟩⟩
 refine ifF (by simp[c3]) ?_;rw[DQ (by omega)];by_cases a:l.If.n<=4/\l.Out.n<=6/\l.If.n+l.Out.n≠0/\1<=l.Mode/\l.Mode<=3
 case neg=>refine ifT ?_ ⟨17,rfl,.inr ⟨rfl,fun h=>a ⟨h.2.2.2.1,h.2.2.2.2.1,h.2.2.2.2.2.1,h.2.2.2.2.2.2.1,h.2.2.2.2.2.2.2.1⟩⟩⟩;simp only[Bp2,Pp,beq_iff_eq];omega
 refine ifF (by simp only[Bp2,Pp,beq_iff_eq];omega) ?_;obtain⟨c4,c5,c6,c7,c8⟩:=a;refine X5 (fun i x1=>x1=(i:Int)/\∀j,j<i->vS (l.If.g j)) l.If.n _ (by omega) ⟨rfl,fun j c=>Pm c (by omega)⟩ ?_;rintro t i x1 z ⟨rfl,h⟩ hs;by_cases d:i<l.If.n
 .obtain⟨b,eb,hb⟩:=Aj6 (N:=N) (by omega) (hl.1.2.2 i d);refine An (Am (B3 (by rw[Bm2];exact eb) ?_));cases b
  .exact ifT rfl ⟨17,rfl,.inr ⟨rfl,fun h=>by have:=hb.2 (h.2.2.2.2.2.2.2.2.1 i d);cases this⟩⟩
  refine Oj (hs d _ ⟨Pd,fun j c=>?_⟩);by_cases e:j=i
  .subst e;exact hb.1 rfl
  exact h j (by omega)
 refine Oi ?_;have x:∀j,j<l.If.n->vS (l.If.g j):=fun j c=>h j (by omega);refine X5 (fun i x1=>x1=(i:Int)/\∀j,j<i->W6 N (l.Out.g j) l.If.n=some true) l.Out.n _ (by omega) ⟨rfl,fun j c=>Pm c (by omega)⟩ ?_;rintro m k x2 hk ⟨rfl,h'⟩ o;by_cases f:k<l.Out.n
 .obtain⟨b,eb,eb'⟩:=ZR (N:=N) (by omega) (hl.2.2.2.2 k f) (l.If.n:Int);refine An (Am (B3 (by rw[Bm2];exact eb') ?_));cases b
  .exact ifT rfl ⟨17,rfl,.inr ⟨rfl,fun h=>by have:=h.2.2.2.2.2.2.2.2.2 k f;rw[eb]at this;cases this⟩⟩
  refine Oj (o f _ ⟨Pd,fun j c=>?_⟩);by_cases e:j=k
  .subst e;exact eb
  exact h' j (by omega)
 exact Oi ⟨0,rfl,.inl ⟨rfl,e0',q.1 c2,r.1 c3,c4,c5,c6,c7,c8,x,fun j c=>h' j (by omega)⟩⟩
def VA {l:Law}{e e' : Int}(h:AY6 N l e)(h' : AY6 N l e'):e=e':=by
 rcases h with⟨rfl,h⟩ | ⟨rfl,h⟩<;>rcases h' with⟨rfl,h'⟩ | ⟨rfl,h'⟩
 .rfl
 .exact Pm h h'
 .exact Pm h' h
 rfl
def Fe (a:3000000<=N){l:Law}(hl:OF l):∃e,Z6 N l=some e/\Y4 N l=some e/\AY6 N l e:=by obtain⟨e,h,c⟩:=Aj7 a hl;obtain⟨e',h',c'⟩:=Aj8 a hl;obtain rfl:=VA c c';exact⟨_,h,h',c⟩
end Go.AM
namespace Go.AM
open Go.Proofs
def PE:Pat->Pat->Prop
 |.nil,q=>q.Kind=0/\q.Is=default/\q.Not=false/\q.Min=0/\q.Max=0/\q.L.n=0
 |.mk k is no mn mx n g,q=>q.Kind=k/\q.Is=is/\q.Not=no/\q.Min=mn/\q.Max=mx/\q.L.n=n/\∀i,i<n->PE (g i) (q.L.g i)
def PE_of {p q:Pat}:PE p q↔q.Kind=p.Kind/\q.Is=p.Is/\q.Not=p.Not/\q.Min=p.Min/\q.Max=p.Max/\q.L.n=p.L.n/\∀i,i<p.L.n->PE (p.L.g i) (q.L.g i):=by
 cases p with
 |nil=>exact⟨fun h=>⟨h.1,h.2.1,h.2.2.1,h.2.2.2.1,h.2.2.2.2.1,h.2.2.2.2.2,fun i a=>Pm a (Bp1 i)⟩,fun h=>⟨h.1,h.2.1,h.2.2.1,h.2.2.2.1,h.2.2.2.2.1,h.2.2.2.2.2.1⟩⟩
 |mk k is no mn mx n g=>exact Bw2
def Yl:∀p:Pat,PE p p
 |.nil=>⟨rfl,rfl,rfl,rfl,rfl,rfl⟩
 |.mk k is no mn mx n g=>⟨rfl,rfl,rfl,rfl,rfl,rfl,fun i _=>Yl (g i)⟩
def Ym:∀{p q:Pat},PE p q->PE q p
 |.nil,q,h=>PE_of.2 ⟨h.1.symm,h.2.1.symm,h.2.2.1.symm,h.2.2.2.1.symm,h.2.2.2.2.1.symm,h.2.2.2.2.2.symm,fun i a=>Pm a (by rw[h.2.2.2.2.2];exact Bp1 i)⟩
 |.mk k is no mn mx n g,q,h=>PE_of.2 ⟨h.1.symm,h.2.1.symm,h.2.2.1.symm,h.2.2.2.1.symm,h.2.2.2.2.1.symm,h.2.2.2.2.2.1.symm,fun i a=>Ym (h.2.2.2.2.2.2 i (by rw[<- h.2.2.2.2.2.1];exact a))⟩
def QY {n:Nat}{Q Q' : Nat->Nat->Nat->Prop}:∀{m:Nat},(∀i,i<m->Q i=Q' i)->Ai6 n Q m=Ai6 n Q' m
 |0,_=>rfl
 |m+1,h=>by funext a b;simp only[Ai6];rw[QY fun i c=>h i (by omega),h m (by omega)]
def AY7 {w:Sl Sm}:∀(d:Nat) {p q:Pat},okP d p->PE p q->PR w p=PR w q
 |0,p,q,h,_=>h.elim
 |d+1,p,q,h,e=>by
  obtain⟨e1,e2,e3,e4,e5,e6,e7⟩:=PE_of.1 e;have ih:∀i,i<p.L.n->PR w (p.L.g i)=PR w (q.L.g i):=fun i c=>AY7 d (h.2.2 i c) (e7 i c);funext a b;apply propext;rw[Me,Me,e1,e2,e3,e4,e5,e6];have j:Ai6 w.n (fun i=>PR w (p.L.g i)) p.L.n=Ai6 w.n (fun i=>PR w (q.L.g i)) p.L.n:=QY ih;have l:(∃i,i<p.L.n/\PR w (p.L.g i) a b) ↔ ∃i,i<p.L.n/\PR w (q.L.g i) a b:=⟨fun⟨i,c,g⟩=>⟨i,c,by rw[<- ih i c];exact g⟩,fun⟨i,c,g⟩=>⟨i,c,by rw[ih i c];exact g⟩⟩;rw[j,l];by_cases f:p.Kind=5
  .have:=(h.2.1 f).1
   rw[ih 0 (by omega)]
  simp[f]
def AJ8 {p q:Pat}(e:PE p q):HG p↔HG q:=by obtain⟨e1,e2,e3,e4,e5,e6,_⟩:=PE_of.1 e;unfold HG;rw[e1,e2,e3,e4,e5,e6]
def PEs:List Pat->List Pat->Prop
 |[],[]=>True
 |p::l,q::m=>PE p q/\PEs l m
 |_,_=>False
def Aw4:∀{a b c d:List Pat},PEs a b->PEs c d->PEs (a++c) (b++d)
 |[],[],_,_,_,h=>h
 |_::_,_::_,_,_,⟨h1,h2⟩,h=>⟨h1,Aw4 h2 h⟩
 |[],_::_,_,_,h,_=>h.elim
 |_::_,[],_,_,h,_=>h.elim
def VB {f g:Nat->Pat}:∀(l:List Nat),(∀i∈l,PE (f i) (g i))->PEs (l.map f) (l.map g)
 |[],_=>trivial
 |i::l,h=>⟨h i (by simp),VB l fun j a=>h j (by simp[a])⟩
def AO6:∀(k:Nat) (l m:List Pat),PEs l m->(chk k l↔chk k m)
 |0,[],[],_=>Bw2
 |0,p::l,q::m,_=>⟨fun h=>(by cases h),fun h=>by cases h⟩
 |k+1,[],[],_=>Bw2
 |k+1,p::l,q::m,⟨h1,h2⟩=>by
  obtain⟨_,_,_,_,_,e6,e7⟩:=PE_of.1 h1;show HG p/\chk k (p.L.toList++l)↔HG q/\chk k (q.L.toList++m);rw[AJ8 h1,AO6 k _ _ (Aw4 (c:=l) (d:=m) (show PEs p.L.toList q.L.toList by unfold Sl.toList;rw[e6];exact VB _ fun i a=>e7 i (Bp3.1 a)) h2)]
 |_,[],_::_,h=>h.elim
 |_,_::_,[],h=>h.elim
def KU {p q:Pat}(h:PE p q):chk 40 [p]↔chk 40 [q]:=AO6 40 [p] [q] ⟨h,trivial⟩
def okPS_of {p:Pat}:okPS p↔okS p.Is/\∀i,i<p.L.n->okPS (p.L.g i):=by
 cases p with
 |nil=>exact⟨fun _=>⟨⟨0#32,0#32,rfl⟩,fun i a=>Pm a (Bp1 i)⟩,fun _=>trivial⟩
 |mk k is no mn mx n g=>exact Bw2
def OG:∀{p q:Pat},PE p q->okPS p->okPS q
 |.nil,q,h,_=>okPS_of.2 ⟨by rw[h.2.1];exact⟨0#32,0#32,rfl⟩,fun i a=>Pm a (by rw[h.2.2.2.2.2];exact Bp1 i)⟩
 |.mk k is no mn mx n g,q,h,hp=>okPS_of.2 ⟨by rw[h.2.1];exact hp.1,fun i a=>by
  have a:i<n:=by rw[<- h.2.2.2.2.2.1];exact a
  exact OG (h.2.2.2.2.2.2 i a) (hp.2 i a)⟩
end Go.AM
