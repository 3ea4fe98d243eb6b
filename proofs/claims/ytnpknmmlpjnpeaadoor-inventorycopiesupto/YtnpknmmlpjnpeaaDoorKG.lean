/- Part 7. -/
import Derived.Test.YtnpknmmlpjnpeaaDoorProg
import Derived.Test.YtnpknmmlpjnpeaaDoorKD
import Derived.Test.YtnpknmmlpjnpeaaDoorKE
import Derived.Test.YtnpknmmlpjnpeaaDoorKF
set_option linter.defProp false
set_option linter.unusedSimpArgs false
set_option linter.unusedVariables false
set_option linter.unusedSectionVars false
namespace Go.AM
def Ce:true=true:=rfl
def Cd:(3:Nat)<=3:=by decide
def Cb:=True.intro
noncomputable abbrev QX:=Go.Proofs.Tryd.prog.funcs
def QY:=@And.intro
open Go.Proofs
abbrev G8:Nat:=9
abbrev W4:Nat:=15
abbrev Q6:Nat:=17
abbrev O7:Nat:=18
abbrev T9:Nat:=19
abbrev Q7:Nat:=21
abbrev W5:Nat:=22
abbrev W6:Nat:=23
abbrev W7:Nat:=25
abbrev U0:Nat:=26
abbrev W8:Nat:=27
abbrev P8:Nat:=28
abbrev E6:Nat:=30
abbrev I9:Nat:=31
abbrev Q8:Nat:=33
abbrev K7:Nat:=34
abbrev W9:Nat:=36
abbrev U1:Nat:=37
abbrev H0:Nat:=38
abbrev Q9:Nat:=39
abbrev Z3:Nat:=45
abbrev M7:Nat:=48
abbrev Y6:Nat:=49
abbrev N7:Nat:=50
abbrev R0:Nat:=51
abbrev X0:Nat:=52
abbrev Ag:Nat:=53
abbrev Y7:Nat:=54
abbrev P9:Nat:=55
abbrev U3:Nat:=57
abbrev T0:Nat:=58
abbrev Ah:Nat:=59
abbrev N8:Nat:=60
abbrev E8:Nat:=63
abbrev O8:Nat:=66
abbrev Y8:Nat:=74
abbrev X1:Nat:=76
abbrev T1:Nat:=77
abbrev Aj:Nat:=78
abbrev U4:Nat:=80
abbrev X2:Nat:=84
abbrev F8:Nat:=87
abbrev CP:Nat:=3
abbrev B1:Nat:=9
abbrev F3:Nat:=31
abbrev A0:Nat:=58
abbrev CQ:Nat:=72
end Go.AM
namespace Go.AM
structure Cf where
 Plus:Int
 Minus:Int
 deriving Inhabited,DecidableEq
abbrev A5 (x:Cf):List PV:=[(pI .u32 x.Plus),pI .u32 x.Minus]
structure C8 where
 Symbol:Str
 S:Cf
 deriving Inhabited,DecidableEq
abbrev A3 (x:C8):List PV:=[(.str x.Symbol),pI .u32 x.S.Plus,pI .u32 x.S.Minus]
structure Jj where
 Symbol:Str
 S:Cf
 deriving Inhabited,DecidableEq
abbrev Dn (x:Jj):List PV:=[(.str x.Symbol),pI .u32 x.S.Plus,pI .u32 x.S.Minus]
structure A2 where
 feats:(Sl Str)
 number:List (Str×Int)
 sounds:(Sl C8)
 symbols:List (Str×Int)
 values:List (Cf×Int)
 deriving Inhabited
abbrev D9 (a b:Cf):Bool:=((a.Plus==b.Plus)&&(a.Minus==b.Minus))
structure E1 where
 Made:Bool
 F:(Sl Str)
 S:(Sl C8)
 deriving Inhabited
end Go.AM
namespace Go.AM
variable {N:Nat}
open Go.Proofs
abbrev QT (nn:Bool)(n:Nat)(g:Nat->List UInt8):PV:=.sl nn 1 n fun i=>[.str (g i)]
structure Kb (S:T3):Prop where
 join:∀(nn:Bool) (n:Nat) (g:Nat->List UInt8) (sep:List UInt8),n<=140737488355328->(Lib.join ((List.range n).map g) sep).length<=140737488355328 ->
  LR S Z3 [.p (QT nn n g),.p (.str sep)] (.p (.str (Lib.join ((List.range n).map g) sep)))
 indexByte:∀(s:List UInt8) (c:UInt8),LR S N8 [.p (.str s),.p (.v (.int .u8 c.toNat))] (.p (.v (.int .i64 (Lib.indexByte s c))))
 cutPrefix:∀(s p:List UInt8),LR S N7 [.p (.str s),.p (.str p)] (.tup [.p (.str (Lib.trimPrefix s p)),.p (.bb (Lib.hasPrefix s p))])
 hasPrefix:∀(s p:List UInt8),LR S W7 [.p (.str s),.p (.str p)] (.p (.bb (Lib.hasPrefix s p)))
 trimPrefix:∀(s p:List UInt8),LR S U0 [.p (.str s),.p (.str p)] (.p (.str (Lib.trimPrefix s p)))
 index1:∀(s:List UInt8) (c:UInt8),LR S X2 [.p (.str s),.p (.str [c])] (.p (.v (.int .i64 (Lib.indexByte s c))))
 clone:∀(nn:Bool) (n:Nat) (g:Nat->List UInt8),n<=1000000000000->N5 S E6 [.p (QT nn n g)] [] (.vec 0) [.vec B1 1 n (fun i=>cS (g i)) true] []
theorem Jk {w w' : World}{Pi:Nat->Nat->Prop}{v:Value}{n:Nat}{g:Nat->List UInt8}{e:TypeId}{xs:List ByteArray}(hx:xs.length=n)(q:∀i,i<n->xs[i]? = some ⟨(g i).toArray⟩)
 (h:w'.ownsRow w.heap.size e 1 v n (xs.map Value.string)):(v=.slice none 0 0/\n=0) \/ ∃b cap c,v=.slice (some ⟨b,0,none⟩) n cap/\w.heap.size<=b/\w'.heap[b]? = some (.cells c e (0,0))/\n<=cap/\c.size=cap*1/\cap<=maxLen /\
  ∀i j,i<n->j<1->RepP w Pi (c.getD (i*1+j) undef) ((cS (g i)).getD j default)/\(c.getD (i*1+j) undef).oneCell' = true:=by
 obtain⟨hl,h⟩:=h;rcases h with h|⟨b,cap,cur,rfl,d,r,a,f,l,m⟩
 .exact .inl h
 refine .inr ⟨b,cap,cur,rfl,d,r,a,l,f,fun i j s t=>?_⟩;have o:j=0:=by omega
 subst o;have hc:cur.getD i undef=.string ⟨(g i).toArray⟩:=by
  have h1:(cur.toList.take (n*1))[i]? = some (.string ⟨(g i).toArray⟩):=by rw[m,List.getElem?_map,q i s];rfl
  rw[List.getElem?_take_of_lt (by omega),Array.getElem?_toList]at h1;rw[Array.getD_eq_getD_getElem?,h1];rfl
 simp only[Nat.mul_one,Nat.add_zero,hc];exact⟨.str _,rfl⟩
theorem vs1 {vs:Array Value}{x:PV}{w:World}{Pi:Nat->Nat->Prop}(b:vs.size=[x].length)(c:∀i,i<[x].length->RepP w Pi (vs.getD i undef) ([x].getD i default)):∃a,vs = #[a]/\RepP w Pi a x:=by
 obtain⟨l⟩:=vs
 match l,b with
 |[a],_=>exact⟨a,rfl,c 0 (by simp)⟩
theorem vs2 {vs:Array Value}{x y:PV}{w:World}{Pi:Nat->Nat->Prop}(c:vs.size=[x,y].length)(d:∀i,i<[x,y].length->RepP w Pi (vs.getD i undef) ([x,y].getD i default)) :∃a b,vs = #[a,b]/\RepP w Pi a x/\RepP w Pi b y:=by
 obtain⟨l⟩:=vs
 match l,c with
 |[a,b],_=>exact⟨a,b,rfl,d 0 (by simp),d 1 (by simp)⟩
theorem T6 {w:World}{Pi:Nat->Nat->Prop}{v:Value}{l:List UInt8}(h:RepP w Pi v (.str l)):v=.string ⟨l.toArray⟩:=by cases h;rfl
theorem X3 {P:Program}{f:FuncId}{vs:Array Value}{w:World}{Pi:Nat->Nat->Prop}{v:Value}{r:AV}(h:Calls P f vs w fun e w'=>e=.returned v/\w' = w)(a:∀live rho,RepA w Pi live rho v r) :Calls P f vs w fun e w'=>∃v,e=.returned v/\RowKit.Below w.heap.size w w' /\ ∀live rho,RepA w' Pi live rho v r:=
 h.mono fun e w' ⟨b,hw⟩=>⟨v,b,by rw[hw];exact RowKit.Below.refl _ _,by rw[hw];exact a⟩
theorem libC:Kb (DT Tryd.prog) where
 join nn n g sep hn hl:=by
  refine L3 (args:=[QT nn n g,.str sep]) (enters_of Tryd.func45 (by decide +kernel) rfl) fun w Pi vs hb hs f=>?_;obtain⟨a,b,rfl,ha,d⟩:=vs2 hs f;cases T6 d;have hR:∀(w:World) live rho,RepA w Pi live rho (.string ⟨(Lib.join ((List.range n).map g) sep).toArray⟩) (.p (.str (Lib.join ((List.range n).map g) sep))):=fun w live rho=>.p _ _ (.str _);by_cases r:n=0
  .subst r;have o:Lib.join ((List.range 0).map g) sep=[]:=by simp[Lib.join_nil]
   cases ha with
   |slnil=>exact X3 (Tryd.strings_Join_none none 0 ⟨sep.toArray⟩ w) (fun _ _=>.p _ _ (.str []))
   |sl _ bk off cap _ _ _ c hn hk hc h sp hsp=>exact X3 (Tryd.strings_Join_none _ cap ⟨sep.toArray⟩ w) (fun _ _=>.p _ _ (.str []))
  cases ha with
  |slnil=>exact Bw rfl r
  |sl _ bk off cap _ _ _ c hcap hk hc h sp hsp=>
   obtain rfl:=hsp (by omega);have q:∀i,i<n->c i 0=.string ⟨(g i).toArray⟩:=fun i l=>T6 (h i 0 l (by omega));have hm:(((List.range n).map fun i=>(⟨(g i).toArray⟩:ByteArray)).map (·.data.toList))=(List.range n).map g:=by simp
   have:=Tryd.strings_Join bk off cap ((List.range n).map fun i=>⟨(g i).toArray⟩) ⟨sep.toArray⟩ w (fun j x hx=>by
    simp only[List.getElem?_map,Option.map_eq_some_iff]at hx;obtain⟨i,l,rfl⟩:=hx;rw[List.getElem?_eq_some_iff]at l;obtain⟨h1,y⟩:=l;simp only[List.length_range]at h1;simp only[List.getElem_range]at y;subst y
    have:=(hc j 0 h1 (by omega)).1
    rw[q j h1]at this;simpa using this)
    (World.block_lt_of_cell? w ⟨bk,off,none⟩ (by simpa using (hc 0 0 (by omega) (by omega)).1)) (by simpa using hn) (by simpa using hcap) (by rw[hm];exact hl)
   rw[hm]at this;simp only[List.length_map,List.length_range]at this;exact this.mono fun e w' ⟨o,m⟩=>⟨_,o,m,hR w'⟩
 indexByte s c:=by
  refine L3 (args:=[.str s,.v (.int .u8 c.toNat)]) (enters_of Tryd.func60 (by decide +kernel) rfl) fun w Pi vs hb hs f=>?_;obtain⟨a,b,rfl,ha,d⟩:=vs2 hs f;cases T6 ha;cases d
  have:=Tryd.strings_IndexByte ⟨s.toArray⟩ c.toNat w
  have e:(c.toNat:Int).toNat.toUInt8=c:=by simp
  rw[e]at this;exact X3 this fun _ _=>.p _ _ (.v _)
 cutPrefix s p:=by
  refine L3 (args:=[.str s,.str p]) (enters_of Tryd.func50 (by decide +kernel) rfl) fun w Pi vs hb hs f=>?_;obtain⟨a,b,rfl,ha,d⟩:=vs2 hs f;cases T6 ha;cases T6 d;refine X3 (Tryd.strings_CutPrefix ⟨s.toArray⟩ ⟨p.toArray⟩ w) fun _ _=>.tup _ _ rfl fun i l=>?_
  match i,l with
  |0,_=>exact .p _ _ (.str _)
  |1,_=>exact .p _ _ (.bb _)
 hasPrefix s p:=by refine L3 (args:=[.str s,.str p]) (enters_of Tryd.func25 (by decide +kernel) rfl) fun w Pi vs hb hs f=>?_;obtain⟨a,b,rfl,ha,d⟩:=vs2 hs f;cases T6 ha;cases T6 d;exact X3 (Tryd.strings_HasPrefix ⟨s.toArray⟩ ⟨p.toArray⟩ w) fun _ _=>.p _ _ (.bb _)
 trimPrefix s p:=by refine L3 (args:=[.str s,.str p]) (enters_of Tryd.func26 (by decide +kernel) rfl) fun w Pi vs hb hs f=>?_;obtain⟨a,b,rfl,ha,d⟩:=vs2 hs f;cases T6 ha;cases T6 d;exact X3 (Tryd.strings_TrimPrefix ⟨s.toArray⟩ ⟨p.toArray⟩ w) fun _ _=>.p _ _ (.str _)
 index1 s c:=by refine L3 (args:=[.str s,.str [c]]) (enters_of Tryd.func84 (by decide +kernel) rfl) fun w Pi vs hb hs f=>?_;obtain⟨a,b,rfl,ha,d⟩:=vs2 hs f;cases T6 ha;cases T6 d;exact X3 (Tryd.strings_Index_one ⟨s.toArray⟩ c w) fun _ _=>.p _ _ (.v _)
 clone nn n g hn:=by
  refine Ho (args:=[QT nn n g]) (enters_of Tryd.func30 (by decide +kernel) rfl) (fun i l=>rfl) fun w Pi vs hb hs f=>?_;obtain⟨a,rfl,ha⟩:=vs1 hs f;cases ha with
  |slnil=>exact (Tryd.slices_Clone_string_nil 0 0 w).mono fun x w' ⟨o,hw⟩=>⟨_,o,by rw[hw];exact RowKit.Below.refl _ _,.inl ⟨rfl,rfl⟩⟩
  |sl _ bk off cap _ _ _ c hcap hk hc h sp hsp=>
   by_cases r:n=0
   .subst r;refine (Tryd.slices_Clone_string_zero ⟨bk,off,sp⟩ cap w).mono ?_;rintro e w' ⟨v',o,u,_,m⟩;exact⟨v',o,m,Jk (xs:=[]) rfl (fun i l=>Bw l (by omega)) u⟩
   obtain rfl:=hsp (by omega);have q:∀i,i<n->c i 0=.string ⟨(g i).toArray⟩:=fun i l=>T6 (h i 0 l (by omega));refine (Tryd.slices_Clone_string bk off n cap ((List.range n).map fun i=>⟨(g i).toArray⟩) w (by simp) (by omega) fun j t=>?_).mono ?_
   .simp only[List.length_map,List.length_range]at t
    have:=(hc j 0 t (by omega)).1
    rw[q j t]at this;simp only[Nat.mul_one,Nat.add_zero]at this;rw[this];simp[t]
   rintro e w' ⟨v',o,u,_,m⟩;refine⟨v',o,m,Jk (xs:=((List.range n).map fun i=>(⟨(g i).toArray⟩:ByteArray)).take n) (by simp) (fun i l=>?_) u⟩;simp[l]
section
variable {S:T3}(Z:H4 S Tryd.prog) (Y:Kb S)
include Z Y
def Z4 (N:Nat)(s:Sl Str)(t:Str):Option Str:= if s.n<=140737488355328/\(Lib.join ((List.range s.n).map s.g) t).length<=140737488355328 then some (Lib.join ((List.range s.n).map s.g) t)else none
theorem EQ {s:Sl Str}{t:Str}{y:Str}(h:Z4 N s t=some y):N5 S Z3 [.p (vSl 1 cS s),.p (.str t)] [] (.p (.str y)) [] []:=by simp only[Z4,Option.ite_none_right_eq_some,Option.some.injEq]at h;obtain⟨⟨h1,a⟩,rfl⟩:=h;exact Y.join false s.n s.g t h1 a
def G2 (N:Nat)(s:Str)(t:Int):Option Int:= if 0<=t/\t<256 then some (Lib.indexByte s (UInt8.ofNat t.toNat))else none
theorem X4 {s:Str}{t:Int}{y:Int}(h:G2 N s t=some y):N5 S N8 [.p (.str s),.p (pI .u8 t)] [] (.p (pI .i64 y)) [] []:=by
 simp only[G2,Option.ite_none_right_eq_some,Option.some.injEq]at h;obtain⟨h1,rfl⟩:=h
 have:=Y.indexByte s (UInt8.ofNat t.toNat)
 have e:(((UInt8.ofNat t.toNat).toNat:Nat):Int)=t:=by
  have:(UInt8.ofNat t.toNat).toNat=t.toNat:=UInt8.toNat_ofNat_of_lt' (by show t.toNat<256;omega)
  omega
 rw[e]at this;exact this
def N9 (N:Nat)(s t:Str):Option (Str×Bool):=some (Lib.trimPrefix s t,Lib.hasPrefix s t)
theorem X5 {s t:Str}{y:Str×Bool}(h:N9 N s t=some y):N5 S N7 [.p (.str s),.p (.str t)] [] (.tup [.p (.str y.1),.p (.bb y.2)]) [] []:=by cases h;exact Y.cutPrefix s t
def X6 (N:Nat)(s t:Str):Option Int:=match t with
 |[c]=>some (Lib.indexByte s c)
 |_=>none
theorem EC {s t:Str}{y:Int}(h:X6 N s t=some y):N5 S X2 [.p (.str s),.p (.str t)] [] (.p (pI .i64 y)) [] []:=by
 unfold X6 at h;split at h
 .cases h;exact Y.index1 s _
 cases h
def B7 (N:Nat)(s:Sl Str):Option (Sl Str):=if s.n<=1000000000000 then some s else none
theorem J0 {s y:Sl Str}(h:B7 N s=some y):N5 S E6 [.p (vSl 1 cS s)] [] (.vec 0) [.vec B1 1 y.n (fun i=>cS (y.g i)) true] []:=by simp only[B7,Option.ite_none_right_eq_some,Option.some.injEq]at h;obtain⟨h1,rfl⟩:=h;exact Y.clone false s.n s.g h1
def D2 (N:Nat)(s:Sl C8):Option (Sl C8):=if (0+s.n)*24<=140737488355328/\0+s.n<=140737488355328 then some s else none
theorem M8 {s y:Sl C8}(h:D2 N s=some y):N5 S E8 [.p (vSl 3 A3 s)] [] (.vec 0) [.vec A0 3 y.n (fun i=>A3 (y.g i)) true] []:=by
 unfold D2 at h;obtain⟨c1,h⟩:=V4 h;obtain rfl:=B5 h;refine D8 Z Tryd.func63 ?_;refine Pq Z Cb 3 (k:=3) (n:=s.n) (f:=fun i=>A3 (s.g i)) (fun a=>?_) ?_
 .obtain⟨n,g⟩:=s;obtain rfl:n=0:=a;exact B6 Z Cb ⟨[(2,.vec 3700)],[(3700,.vec A0 3 0 (fun i=>A3 (g i)) true)]⟩ [3700] (ids:=[]) ⟨rfl,rfl,rfl⟩
 exact B6 Z (QY Ce c1) ⟨[(2,.vec 8000)],[(8000,.vec A0 3 s.n (fun i=>A3 (s.g i)) true)]⟩ [8000] (ids:=[(8000,8000)]) ⟨rfl,rfl,rfl⟩
  (hle:=klR [(0,.fn (0+s.n) s.n (AS 0 (S7 [.str [],pI .u32 0,pI .u32 0] []) (fun i=>A3 (s.g i))) (fun i=>A3 (s.g i)))] (al1 ⟨Nat.zero_add _,fun i _=>by simp[AS]⟩ al0))
end
end Go.AM
namespace Go.AM
variable {N:Nat}
open IntKind (wrap)
open Go.Proofs
set_option maxRecDepth 10000
set_option maxHeartbeats 2000000
variable {S:T3}(Z:H4 S Tryd.prog) (Y:Kb S)
include Z Y
def I4 (N:Nat)(a:Int):Option Bool:= some (((decide (97<=a))&&(decide (a<=122)))||((decide (48<=a))&&(decide (a<=57))))
theorem Hz {a:Int}{y:Bool}(h:I4 N a=some y) :N5 S U4 [.p (pI .u8 a)] [] (.p (.bb y)) ([]) []:=by
 unfold I4 at h;refine D8 Z Tryd.func80 ?_;obtain⟨t1,c⟩:∃x:Bool,x=(((decide (97<=a))&&(decide (a<=122)))||((decide (48<=a))&&(decide (a<=57)))):=⟨_,rfl⟩;refine Dg Z Cb (F6 Z) 0 ⟨[(2,.p (.bb t1))],[]⟩ (fun M1 d=>?_) ?_
 .refine C4 Z Cb (b:=decide (97<=a)) (fun c5=>?_) (fun c5=>?_)
  .refine C4 Z Cb (b:=decide (a<=122)) (fun c6=>?_) (fun c6=>?_)
   .exact d _ [] _ Cb (by kernel_rfl) (by kernel_rfl) (klR [(0,.eq (.bb true) (.bb t1))] (al1 (by simp only[c,c5,c6,Leaf.ok,pm,Bx,By]) al0))
   refine C4 Z Cb (b:=decide (48<=a)) (fun c7=>?_) (fun c7=>?_)
   .exact d _ [] _ Cb (by kernel_rfl) (by kernel_rfl) (klR [(0,.eq (.bb (decide (a<=57))) (.bb t1))] (al1 (by simp only[c,c5,c6,c7,Leaf.ok,pm,Bx,By]) al0))
   exact d _ [] _ Cb (by kernel_rfl) (by kernel_rfl) (klR [(0,.eq (.bb false) (.bb t1))] (al1 (by simp only[c,c5,c6,c7,Leaf.ok,pm,Bx,By]) al0))
  refine C4 Z Cb (b:=decide (48<=a)) (fun c8=>?_) (fun c8=>?_)
  .exact d _ [] _ Cb (by kernel_rfl) (by kernel_rfl) (klR [(0,.eq (.bb (decide (a<=57))) (.bb t1))] (al1 (by simp only[c,c5,c8,Leaf.ok,pm,Bx,By]) al0))
  exact d _ [] _ Cb (by kernel_rfl) (by kernel_rfl) (klR [(0,.eq (.bb false) (.bb t1))] (al1 (by simp only[c,c5,c8,Leaf.ok,pm,Bx,By]) al0))
 subst c;obtain rfl:=B5 h;exact I1 Z Cb [] ⟨rfl,rfl,rfl⟩
def J5 (N:Nat)(a:Cf):Option Bool:= BW N (fun b (x1:Int)=>if (decide (x1<32)) then if ((0:Int)<=x1/\(0:Int)<=x1)then if ((((K8 .and .u32 (shI .shr .u32 a.Plus x1) 1)==1)&&((K8 .and .u32 (shI .shr .u32 a.Minus x1) 1)==1))||((((K8 .and .u32 (shI .shr .u32 a.Plus x1) 1)==1)||((K8 .and .u32 (shI .shr .u32 a.Minus x1) 1)==1))&&(decide (24<=x1)))) then some false else b (wrap .i64 (x1+1)) else none else some true) 0
theorem X7 {a:Cf}{y:Bool}(h:J5 N a=some y) :N5 S X1 [.p (.agg (A5 a))] [] (.p (.bb y)) ([]) []:=by
 unfold J5 at h;refine D8 Z Tryd.func76 ?_;refine Be Z Cb h (fun x1=>⟨[(3,.p (pI .i64 x1)),(1,.reg 2000 0)],[(2000,.cells [.p (pI .u32 a.Plus),.p (pI .u32 a.Minus)])]⟩) (ids:=[(2000,2000)]) (fun _ _ _ _ _ f x1 g h=>?_);refine A9 Z Cb (b:=decide (x1<32)) (fun c26=>?_) (fun c26=>?_)
 .replace h:=itT c26 h;obtain⟨c27,h⟩:=V4 h;obtain⟨t3,c⟩:∃x:Bool,x=((((K8 .and .u32 (shI .shr .u32 a.Plus x1) 1)==1)&&((K8 .and .u32 (shI .shr .u32 a.Minus x1) 1)==1))||((((K8 .and .u32 (shI .shr .u32 a.Plus x1) 1)==1)||((K8 .and .u32 (shI .shr .u32 a.Minus x1) 1)==1))&&(decide (24<=x1)))):=⟨_,rfl⟩;refine Dg Z c27 (F6 Z) 0 ⟨[(35,.p (.bb t3)),(3,.p (pI .i64 x1)),(1,.reg 2000 0)],[(2000,.cells [.p (pI .u32 a.Plus),.p (pI .u32 a.Minus)])]⟩ (fun M3 d=>?_) ?_
  .refine C4 Z Cb (b:=(K8 .and .u32 (shI .shr .u32 a.Plus x1) 1)==1) (fun c33=>?_) (fun c33=>?_)
   .refine C4 Z Cb (b:=(K8 .and .u32 (shI .shr .u32 a.Minus x1) 1)==1) (fun c34=>?_) (fun c34=>?_)
    .exact d _ [(2000,2000)] _ Cb (by kernel_rfl) (by kernel_rfl) (klR [(0,.eq (.bb true) (.bb t3))] (al1 (by simp only[c,c33,c34,Leaf.ok,pm,Bx,By]) al0))
    refine C4 Z Cb (b:=(K8 .and .u32 (shI .shr .u32 a.Plus x1) 1)==1) (fun c35=>?_) (fun c35=>?_)
    .exact d _ [(2000,2000)] _ Cb (by kernel_rfl) (by kernel_rfl) (klR [(0,.eq (.bb (decide (24<=x1))) (.bb t3))] (al1 (by simp only[c,c33,c34,Leaf.ok,pm,Bx,By]) al0))
    exact Bool.noConfusion (c33.symm.trans c35)
   refine C4 Z Cb (b:=(K8 .and .u32 (shI .shr .u32 a.Plus x1) 1)==1) (fun c36=>?_) (fun c36=>?_)
   .exact Bool.noConfusion (c33.symm.trans c36)
   refine C4 Z Cb (b:=(K8 .and .u32 (shI .shr .u32 a.Minus x1) 1)==1) (fun c37=>?_) (fun c37=>?_)
   .exact d _ [(2000,2000)] _ Cb (by kernel_rfl) (by kernel_rfl) (klR [(0,.eq (.bb (decide (24<=x1))) (.bb t3))] (al1 (by simp only[c,c33,c37,Leaf.ok,pm,Bx,By]) al0))
   exact d _ [(2000,2000)] _ Cb (by kernel_rfl) (by kernel_rfl) (klR [(0,.eq (.bb false) (.bb t3))] (al1 (by simp only[c,c33,c37,Leaf.ok,pm,Bx,By]) al0))
  subst c;refine A9 Z Cb (b:=((((K8 .and .u32 (shI .shr .u32 a.Plus x1) 1)==1)&&((K8 .and .u32 (shI .shr .u32 a.Minus x1) 1)==1))||((((K8 .and .u32 (shI .shr .u32 a.Plus x1) 1)==1)||((K8 .and .u32 (shI .shr .u32 a.Minus x1) 1)==1))&&(decide (24<=x1))))) (fun c38=>?_) (fun c38=>?_)
  .replace h:=itT c38 h;obtain rfl:=B5 h;exact I1 Z Cb [] ⟨rfl,rfl,rfl⟩
  replace h:=itF c38 h;exact g _ [(2000,2000)] _ (wrap .i64 (x1+1)) Cb h
 replace h:=itF c26 h;obtain rfl:=B5 h;exact I1 Z Cb [] ⟨rfl,rfl,rfl⟩
def I0 (N:Nat)(a:Int):Option Bool:= some ((decide (0<=a))&&(decide (a<24)))
theorem T2 {a:Int}{y:Bool}(h:I0 N a=some y) :N5 S T1 [.p (pI .i64 a)] [] (.p (.bb y)) ([]) []:=by
 unfold I0 at h;refine D8 Z Tryd.func77 ?_;obtain⟨t1,c⟩:∃x:Bool,x=((decide (0<=a))&&(decide (a<24))):=⟨_,rfl⟩;refine Dg Z Cb (F6 Z) 0 ⟨[(2,.p (.bb t1))],[]⟩ (fun M1 d=>?_) ?_
 .refine C4 Z Cb (b:=decide (0<=a)) (fun c2=>?_) (fun c2=>?_)
  .exact d _ [] _ Cb (by kernel_rfl) (by kernel_rfl) (klR [(0,.eq (.bb (decide (a<24))) (.bb t1))] (al1 (by simp only[c,c2,Leaf.ok,pm,Bx,By]) al0))
  exact d _ [] _ Cb (by kernel_rfl) (by kernel_rfl) (klR [(0,.eq (.bb false) (.bb t1))] (al1 (by simp only[c,c2,Leaf.ok,pm,Bx,By]) al0))
 subst c;obtain rfl:=B5 h;exact I1 Z Cb [] ⟨rfl,rfl,rfl⟩
def S1 (N:Nat)(b:Cf)(a:Int):Option Int:= (J5 N b).bind fun y1=>lt (fun (z1:Bool)=>if z1 then some 0 else if (0:Int)<=a then if ((K8 .and .u32 (shI .shr .u32 b.Plus a) 1)==1) then some 1 else if (0:Int)<=a then if ((K8 .and .u32 (shI .shr .u32 b.Minus a) 1)==1) then some (-1) else some 0 else none else none) fun k1=>if (!y1) then k1 true else (I0 N a).bind fun y3=>k1 (!y3)
theorem Dk {a:Cf}{c:Int}{y:Int}(h:S1 N a c=some y) :N5 S Ag [.p (.agg (A5 a)),.p (pI .i64 c)] [] (.p (pI .i64 y)) ([]) []:=by
 unfold S1 at h;refine D8 Z Tryd.func53 ?_;obtain⟨y1,e1,h⟩:=D7 h;refine B2 Z [] Cb (X7 Z Y e1) ?_;refine Pm Z Cb (F6 Z) h 0 (fun z1=>⟨[(12,.p (.bb z1)),(2,.reg 3000 0),(1,.p (pI .i64 c))],[(3000,.cells [.p (pI .u32 a.Plus),.p (pI .u32 a.Minus)])]⟩) (fun M1 k1 d h=>?_) (fun z1 h=>?_)
 .refine C4 Z Cb (b:=!y1) (fun c3=>?_) (fun c3=>?_)
  .replace h:=itT c3 h;exact d _ [(3000,3000)] _ true Cb h
  replace h:=itF c3 h;obtain⟨y3,e3,h⟩:=D7 h;refine B2 Z [] Cb (T2 Z Y e3) ?_;exact d _ [(3000,3000)] _ (!y3) Cb h
 refine A9 Z Cb (b:=z1) (fun c4=>?_) (fun c4=>?_)
 .replace h:=itT c4 h;obtain rfl:=B5 h;exact I1 Z Cb [] ⟨rfl,rfl,rfl⟩
 replace h:=itF c4 h;obtain⟨c5,h⟩:=V4 h;refine A9 Z c5 (b:=(K8 .and .u32 (shI .shr .u32 a.Plus c) 1)==1) (fun c6=>?_) (fun c6=>?_)
 .replace h:=itT c6 h;obtain rfl:=B5 h;exact I1 Z Cb [] ⟨rfl,rfl,rfl⟩
 replace h:=itF c6 h;obtain⟨c7,h⟩:=V4 h;refine A9 Z c7 (b:=(K8 .and .u32 (shI .shr .u32 a.Minus c) 1)==1) (fun c8=>?_) (fun c8=>?_)
 .replace h:=itT c8 h;obtain rfl:=B5 h;exact I1 Z Cb [] ⟨rfl,rfl,rfl⟩
 replace h:=itF c8 h;obtain rfl:=B5 h;exact I1 Z Cb [] ⟨rfl,rfl,rfl⟩
def S2 (N:Nat)(b:Cf)(a:Int)(c:Int):Option Cf:= if (0:Int)<=a then if (c==1) then if (c==(-1)) then some (⟨K8 .or .u32 (K8 .andNot .u32 b.Plus (shI .shl .u32 1 a)) (shI .shl .u32 1 a),K8 .or .u32 (K8 .andNot .u32 b.Minus (shI .shl .u32 1 a)) (shI .shl .u32 1 a)⟩:Cf) else some (⟨K8 .or .u32 (K8 .andNot .u32 b.Plus (shI .shl .u32 1 a)) (shI .shl .u32 1 a),K8 .andNot .u32 b.Minus (shI .shl .u32 1 a)⟩:Cf) else if (c==(-1)) then some (⟨K8 .andNot .u32 b.Plus (shI .shl .u32 1 a),K8 .or .u32 (K8 .andNot .u32 b.Minus (shI .shl .u32 1 a)) (shI .shl .u32 1 a)⟩:Cf) else some (⟨K8 .andNot .u32 b.Plus (shI .shl .u32 1 a),K8 .andNot .u32 b.Minus (shI .shl .u32 1 a)⟩:Cf) else none
theorem Dl {c:Cf}{d:Int}{a:Int}{y:Cf}(h:S2 N c d a=some y) :N5 S Aj [.p (.agg (A5 c)),.p (pI .i64 d),.p (pI .i64 a)] [] (.p (.agg (A5 y))) ([]) []:=by
 unfold S2 at h;refine D8 Z Tryd.func78 ?_;obtain⟨c1,h⟩:=V4 h;refine A9 Z c1 (b:=a==1) (fun c2=>?_) (fun c2=>?_)
 .replace h:=itT c2 h;refine A9 Z Cb (b:=a==(-1)) (fun c3=>?_) (fun c3=>?_)
  .replace h:=itT c3 h;obtain rfl:=B5 h;exact I1 Z Cb [] ⟨rfl,rfl,rfl⟩
  replace h:=itF c3 h;obtain rfl:=B5 h;exact I1 Z Cb [] ⟨rfl,rfl,rfl⟩
 replace h:=itF c2 h;refine A9 Z Cb (b:=a==(-1)) (fun c4=>?_) (fun c4=>?_)
 .replace h:=itT c4 h;obtain rfl:=B5 h;exact I1 Z Cb [] ⟨rfl,rfl,rfl⟩
 replace h:=itF c4 h;obtain rfl:=B5 h;exact I1 Z Cb [] ⟨rfl,rfl,rfl⟩
def K4 (N:Nat)(b:Cf)(c:Int)(a:Int):Option (Cf×Int):= (J5 N b).bind fun y1=>if (!y1) then some ((⟨0,0⟩:Cf),14) else (I0 N c).bind fun y2=>if (!y2) then some ((⟨0,0⟩:Cf),3) else if ((decide (a<(-1)))||(decide (1<a))) then some ((⟨0,0⟩:Cf),2) else (S2 N b c a).bind fun y3=>some (y3,0)
theorem Y9 {c:Cf}{d:Int}{a:Int}{y:Cf×Int}(h:K4 N c d a=some y) :N5 S Y7 [.p (.agg (A5 c)),.p (pI .i64 d),.p (pI .i64 a)] [] (.tup [.p (.agg (A5 y.1)),.p (pI .i64 y.2)]) ([]) []:=by
 unfold K4 at h;refine D8 Z Tryd.func54 ?_;obtain⟨y1,e1,h⟩:=D7 h;refine B2 Z [] Cb (X7 Z Y e1) ?_;refine A9 Z Cb (b:=!y1) (fun c1=>?_) (fun c1=>?_)
 .replace h:=itT c1 h;obtain rfl:=B5 h;exact I1 Z Cb [] ⟨rfl,rfl,rfl⟩
 replace h:=itF c1 h;obtain⟨y2,e2,h⟩:=D7 h;refine B2 Z [] Cb (T2 Z Y e2) ?_;refine A9 Z Cb (b:=!y2) (fun c2=>?_) (fun c2=>?_)
 .replace h:=itT c2 h;obtain rfl:=B5 h;exact I1 Z Cb [] ⟨rfl,rfl,rfl⟩
 replace h:=itF c2 h;obtain⟨t1,f⟩:∃x:Bool,x=((decide (a<(-1)))||(decide (1<a))):=⟨_,rfl⟩;refine Dg Z Cb (F6 Z) 0 ⟨[(21,.p (.bb t1)),(6,.reg 7000 0),(3,.reg 4000 0),(2,.p (pI .i64 a)),(1,.p (pI .i64 d))],[(7000,.cells [.p (pI .u32 0),.p (pI .u32 0)]),(4000,.cells [.p (pI .u32 c.Plus),.p (pI .u32 c.Minus)])]⟩ (fun M1 g=>?_) ?_
 .refine C4 Z Cb (b:=decide (a<(-1))) (fun c4=>?_) (fun c4=>?_)
  .exact g _ [(4000,4000),(7000,7000)] _ Cb (by kernel_rfl) (by kernel_rfl) (klR [(0,.eq (.bb true) (.bb t1))] (al1 (by simp only[f,c4,Leaf.ok,pm,Bx,By]) al0))
  exact g _ [(4000,4000),(7000,7000)] _ Cb (by kernel_rfl) (by kernel_rfl) (klR [(0,.eq (.bb (decide (1<a))) (.bb t1))] (al1 (by simp only[f,c4,Leaf.ok,pm,Bx,By]) al0))
 subst f;refine A9 Z Cb (b:=((decide (a<(-1)))||(decide (1<a)))) (fun c5=>?_) (fun c5=>?_)
 .replace h:=itT c5 h;obtain rfl:=B5 h;exact I1 Z Cb [] ⟨rfl,rfl,rfl⟩
 replace h:=itF c5 h;obtain⟨y3,e3,h⟩:=D7 h;refine B2 Z [] Cb (Dl Z Y e3) ?_;obtain rfl:=B5 h;exact I1 Z Cb [] ⟨rfl,rfl,rfl⟩
def M9 (N:Nat)(a:Str):Option Bool:= if (((decide (((a.length:Nat):Int)<1))=false->((decide (16<((a.length:Nat):Int)))=false->((0:Int)<=0/\0<((a.length:Nat):Int))))/\((decide (((a.length:Nat):Int)<1))=false->((decide (16<((a.length:Nat):Int)))=false->((decide ((D6 a 0)<97))=false->((0:Int)<=0/\0<((a.length:Nat):Int))))))then if ((((decide (((a.length:Nat):Int)<1))||(decide (16<((a.length:Nat):Int))))||(decide ((D6 a 0)<97)))||(decide (122<(D6 a 0)))) then some false else BW N (fun b (x1:Int)=>if (decide (x1<((a.length:Nat):Int))) then if ((0:Int)<=x1/\x1<((a.length:Nat):Int))then (I4 N (D6 a x1)).bind fun y3=>if (!y3) then some false else b (wrap .i64 (x1+1)) else none else some true) 0 else none
def O0 (N:Nat)(a:Str):Option (Sl Str):= OT N (fun b (x1:Sl Str) (x2:Int) (x3:Int)=>if (decide (x3<=((a.length:Nat):Int))) then if ((x3==((a.length:Nat):Int))=false->((0:Int)<=x3/\x3<((a.length:Nat):Int)))then if ((x3==((a.length:Nat):Int))||((D6 a x3)==32)) then if (((0:Int)<=x2/\x2<=x3/\x3<=((a.length:Nat):Int))/\((x1.n+(Sl.of [(a.take x3.toNat).drop x2.toNat]:Sl Str).n)*16<=140737488355328/\x1.n+(Sl.of [(a.take x3.toNat).drop x2.toNat]:Sl Str).n<=140737488355328))then b (x1.push ((a.take x3.toNat).drop x2.toNat)) (wrap .i64 (x3+1)) (wrap .i64 (x3+1)) else none else b x1 x2 (wrap .i64 (x3+1)) else none else some x1) (Sl.nil:Sl Str) 0 0
theorem Ck {a:Str}{y:Sl Str}(h:O0 N a=some y) :N5 S X0 [.p (.str a)] [] (.vec 0) ([.vec B1 1 y.n (fun i=>cS (y.g i)) true]) []:=by
 unfold O0 at h;refine D8 Z Tryd.func52 ?_;refine Jb Z Cb h (fun x1 x2 x3=>⟨[(5,.p (pI .i64 x3)),(4,.p (pI .i64 x2)),(3,.vec 4500),(0,.p (.str a))],[(4500,.vec B1 1 x1.n (fun i=>cS (x1.g i)) false)]⟩) (ids:=[]) (fun _ _ _ _ _ l x1 x2 x3 f h=>?_);refine A9 Z Cb (b:=decide (x3<=((a.length:Nat):Int))) (fun c11=>?_) (fun c11=>?_)
 .replace h:=itT c11 h;obtain⟨c13,h⟩:=V4 h;obtain⟨t3,d⟩:∃x:Bool,x=((x3==((a.length:Nat):Int))||((D6 a x3)==32)):=⟨_,rfl⟩;refine Dg Z Cb (F6 Z) 0 ⟨[(21,.p (.bb t3)),(5,.p (pI .i64 x3)),(4,.p (pI .i64 x2)),(3,.vec 4500),(0,.p (.str a))],[(4500,.vec B1 1 x1.n (fun i=>cS (x1.g i)) false)]⟩ (fun M3 j=>?_) ?_
  .refine C4 Z Cb (b:=x3==((a.length:Nat):Int)) (fun c14=>?_) (fun c14=>?_)
   .exact j _ [(4500,4500)] _ Cb (by kernel_rfl) (by kernel_rfl) (klR [(0,.eq (.bb true) (.bb t3))] (al1 (by simp only[d,c14,Leaf.ok,pm,Bx,By]) al0))
   exact j _ [(4500,4500)] _ (c13 c14) (by kernel_rfl) (by kernel_rfl) (klR [(0,.eq (.bb ((D6 a x3)==32)) (.bb t3))] (al1 (by simp only[d,c14,Leaf.ok,pm,Bx,By]) al0))
  subst d;refine A9 Z Cb (b:=((x3==((a.length:Nat):Int))||((D6 a x3)==32))) (fun c15=>?_) (fun c15=>?_)
  .replace h:=itT c15 h;obtain⟨c16,h⟩:=V4 h;exact f _ [(4500,29000)] _ (x1.push ((a.take x3.toNat).drop x2.toNat)) (wrap .i64 (x3+1)) (wrap .i64 (x3+1)) (QY (QY c16.1 Ce) c16.2) h (by kernel_rfl) (by kernel_rfl) (klR [(3,.fn (x1.n+1) (x1.push ((a.take x3.toNat).drop x2.toNat)).n (AS x1.n (fun i=>cS (x1.g i)) (S7 [.str []] [(0,cS ((a.take x3.toNat).drop x2.toNat))])) (fun i=>cS ((x1.push ((a.take x3.toNat).drop x2.toNat)).g i)))] (al1 ⟨rfl,OV (c:=cS) (v:=x1) (x:=(a.take x3.toNat).drop x2.toNat) (z:=[(.str [])]) same rfl rfl⟩ al0))
  replace h:=itF c15 h;exact f _ [(4500,4500)] _ x1 x2 (wrap .i64 (x3+1)) Cb h
 replace h:=itF c11 h;obtain rfl:=B5 h;exact B6 Z Cb ⟨[(2,.vec 4500)],[(4500,.vec B1 1 x1.n (fun i=>cS (x1.g i)) true)]⟩ [4500] (ids:=[(4500,4500)]) ⟨rfl,rfl,rfl⟩
def G3 (N:Nat)(a:Int):Option Bool:= some (((decide (97<=a))&&(decide (a<=122)))||((decide (48<=a))&&(decide (a<=57))))
theorem S3 {a:Int}{y:Bool}(h:G3 N a=some y) :N5 S Ah [.p (pI .u8 a)] [] (.p (.bb y)) ([]) []:=by
 unfold G3 at h;refine D8 Z Tryd.func59 ?_;obtain⟨t1,c⟩:∃x:Bool,x=(((decide (97<=a))&&(decide (a<=122)))||((decide (48<=a))&&(decide (a<=57)))):=⟨_,rfl⟩;refine Dg Z Cb (F6 Z) 0 ⟨[(2,.p (.bb t1))],[]⟩ (fun M1 d=>?_) ?_
 .refine C4 Z Cb (b:=decide (97<=a)) (fun c5=>?_) (fun c5=>?_)
  .refine C4 Z Cb (b:=decide (a<=122)) (fun c6=>?_) (fun c6=>?_)
   .exact d _ [] _ Cb (by kernel_rfl) (by kernel_rfl) (klR [(0,.eq (.bb true) (.bb t1))] (al1 (by simp only[c,c5,c6,Leaf.ok,pm,Bx,By]) al0))
   refine C4 Z Cb (b:=decide (48<=a)) (fun c7=>?_) (fun c7=>?_)
   .exact d _ [] _ Cb (by kernel_rfl) (by kernel_rfl) (klR [(0,.eq (.bb (decide (a<=57))) (.bb t1))] (al1 (by simp only[c,c5,c6,c7,Leaf.ok,pm,Bx,By]) al0))
   exact d _ [] _ Cb (by kernel_rfl) (by kernel_rfl) (klR [(0,.eq (.bb false) (.bb t1))] (al1 (by simp only[c,c5,c6,c7,Leaf.ok,pm,Bx,By]) al0))
  refine C4 Z Cb (b:=decide (48<=a)) (fun c8=>?_) (fun c8=>?_)
  .exact d _ [] _ Cb (by kernel_rfl) (by kernel_rfl) (klR [(0,.eq (.bb (decide (a<=57))) (.bb t1))] (al1 (by simp only[c,c5,c8,Leaf.ok,pm,Bx,By]) al0))
  exact d _ [] _ Cb (by kernel_rfl) (by kernel_rfl) (klR [(0,.eq (.bb false) (.bb t1))] (al1 (by simp only[c,c5,c8,Leaf.ok,pm,Bx,By]) al0))
 subst c;obtain rfl:=B5 h;exact I1 Z Cb [] ⟨rfl,rfl,rfl⟩
def B8 (N:Nat)(a:Sl Str)(b:Sl Str):Option Bool:= if (((a.n:Nat):Int) != ((b.n:Nat):Int)) then some false else BW N (fun c (x1:Int)=>if (decide (x1<((a.n:Nat):Int))) then if (((0:Int)<=x1/\x1<((a.n:Nat):Int))/\((0:Int)<=x1/\x1<((b.n:Nat):Int)))then if (((a.g x1.toNat)==(b.g x1.toNat)) != true) then some false else c (wrap .i64 (x1+1)) else none else some true) 0
theorem J1 {a:Sl Str}{c:Sl Str}{y:Bool}(h:B8 N a c=some y) :N5 S I9 [.p (vSl 1 cS a),.p (vSl 1 cS c)] [] (.p (.bb y)) ([]) []:=by
 unfold B8 at h;refine D8 Z Tryd.func31 ?_;refine A9 Z Cb (b:=((a.n:Nat):Int) != ((c.n:Nat):Int)) (fun c1=>?_) (fun c1=>?_)
 .replace h:=itT c1 h;obtain rfl:=B5 h;exact I1 Z Cb [] ⟨rfl,rfl,rfl⟩
 replace h:=itF c1 h;refine Be Z Cb h (fun x1=>⟨[(13,.p (pI .i64 x1)),(12,.p (pI .i64 ((a.n:Nat):Int))),(1,.p (vSl 1 cS c)),(0,.p (vSl 1 cS a))],[]⟩) (ids:=[]) (fun _ _ _ _ _ d x1 f h=>?_);refine A9 Z Cb (b:=decide (x1<((a.n:Nat):Int))) (fun c8=>?_) (fun c8=>?_)
 .replace h:=itT c8 h;refine W3 Z Cb ?_;obtain⟨c9,h⟩:=V4 h;refine Bu c9 ?_;refine A9 Z Cb (b:=((a.g x1.toNat)==(c.g x1.toNat)) != true) (fun c10=>?_) (fun c10=>?_)
  .replace h:=itT c10 h;obtain rfl:=B5 h;exact I1 Z Cb [] ⟨rfl,rfl,rfl⟩
  replace h:=itF c10 h;exact f _ [] _ (wrap .i64 (x1+1)) Cb h
 replace h:=itF c8 h;obtain rfl:=B5 h;exact I1 Z Cb [] ⟨rfl,rfl,rfl⟩
def A6 (N:Nat)(a:Sl C8)(b:Sl C8):Option Bool:= if (((a.n:Nat):Int) != ((b.n:Nat):Int)) then some false else BW N (fun c (x1:Int)=>if (decide (x1<((a.n:Nat):Int))) then if (((0:Int)<=x1/\x1<((a.n:Nat):Int))/\((0:Int)<=x1/\x1<((b.n:Nat):Int)))then if ((((a.g x1.toNat).Symbol==(b.g x1.toNat).Symbol)&&(((a.g x1.toNat).S.Plus==(b.g x1.toNat).S.Plus)&&((a.g x1.toNat).S.Minus==(b.g x1.toNat).S.Minus))) != true) then some false else c (wrap .i64 (x1+1)) else none else some true) 0
theorem D3 {a:Sl C8}{c:Sl C8}{y:Bool}(h:A6 N a c=some y) :N5 S H0 [.p (vSl 3 A3 a),.p (vSl 3 A3 c)] [] (.p (.bb y)) ([]) []:=by
 unfold A6 at h;refine D8 Z Tryd.func38 ?_;refine A9 Z Cb (b:=((a.n:Nat):Int) != ((c.n:Nat):Int)) (fun c1=>?_) (fun c1=>?_)
 .replace h:=itT c1 h;obtain rfl:=B5 h;exact I1 Z Cb [] ⟨rfl,rfl,rfl⟩
 replace h:=itF c1 h;refine Be Z Cb h (fun x1=>⟨[(13,.p (pI .i64 x1)),(12,.p (pI .i64 ((a.n:Nat):Int))),(1,.p (vSl 3 A3 c)),(0,.p (vSl 3 A3 a))],[]⟩) (ids:=[]) (fun _ _ _ _ _ d x1 f h=>?_);refine A9 Z Cb (b:=decide (x1<((a.n:Nat):Int))) (fun c8=>?_) (fun c8=>?_)
 .replace h:=itT c8 h;refine W3 Z Cb ?_;obtain⟨c9,h⟩:=V4 h;refine Bu (QY (QY (QY (QY c9.1 Cd) c9.2) Cd) (by decide +kernel:Kr Tryd.prog A0=true)) ?_;refine A9 Z Cb (b:=(((a.g x1.toNat).Symbol==(c.g x1.toNat).Symbol)&&(((a.g x1.toNat).S.Plus==(c.g x1.toNat).S.Plus)&&((a.g x1.toNat).S.Minus==(c.g x1.toNat).S.Minus))) != true) (fun c10=>?_) (fun c10=>?_)
  .replace h:=itT c10 h;obtain rfl:=B5 h;exact I1 Z Cb [] ⟨rfl,rfl,rfl⟩
  replace h:=itF c10 h;exact f _ [] _ (wrap .i64 (x1+1)) Cb h
 replace h:=itF c8 h;obtain rfl:=B5 h;exact I1 Z Cb [] ⟨rfl,rfl,rfl⟩
end Go.AM
namespace Go.AM
variable {N:Nat}
open IntKind (wrap)
open Go.Proofs
set_option maxRecDepth 10000
set_option maxHeartbeats 2000000
variable {S:T3}(Z:H4 S Tryd.prog) (Y:Kb S)
include Z Y
def F9 (N:Nat)(a:E1):Option Bool:= some a.Made
theorem J9 {a:E1}{y:Bool}(h:F9 N a=some y) :N5 S R0 [.reg 0 0] [.cells [.p (.bb a.Made),.p (vSl 1 cS a.F),.vec 1],.vec A0 3 a.S.n (fun i=>A3 (a.S.g i)) true] (.p (.bb y)) ([.cells [.p (.bb a.Made),.p (vSl 1 cS a.F),.vec 1],.vec A0 3 a.S.n (fun i=>A3 (a.S.g i)) true]) [true,true]:=by unfold F9 at h;refine D8 Z Tryd.func51 ?_;obtain rfl:=B5 h;exact B6 Z Cb ⟨[(2,.p (.bb a.Made))],[(1,.vec A0 3 a.S.n (fun i=>A3 (a.S.g i)) true),(0,.cells [.p (.bb a.Made),.p (vSl 1 cS a.F),.vec 1])]⟩ [0,1] (ids:=[(0,0),(1,1)]) ⟨rfl,rfl,rfl⟩
def K0 (N:Nat)(a:E1)(b:Str):Option (Int×Bool):= (F9 N a).bind fun y1=>if (!y1) then some (0,false) else BW N (fun c (x1:Int)=>if (decide (x1<((a.F.n:Nat):Int))) then if ((0:Int)<=x1/\x1<((a.F.n:Nat):Int))then if (((a.F.g x1.toNat)==b) != false) then some (x1,true) else c (wrap .i64 (x1+1)) else none else some (0,false)) 0
theorem AQ {a:E1}{c:Str}{y:Int×Bool}(h:K0 N a c=some y) :N5 S Q8 [.reg 0 0,.p (.str c)] [.cells [.p (.bb a.Made),.p (vSl 1 cS a.F),.vec 1],.vec A0 3 a.S.n (fun i=>A3 (a.S.g i)) true] (.tup [.p (pI .i64 y.1),.p (.bb y.2)]) ([.cells [.p (.bb a.Made),.p (vSl 1 cS a.F),.vec 1],.vec A0 3 a.S.n (fun i=>A3 (a.S.g i)) true]) [true,true]:=by
 unfold K0 at h;refine D8 Z Tryd.func33 ?_;obtain⟨y1,e1,h⟩:=D7 h;refine B2 Z [0,1] Cb (J9 Z Y e1) ?_;refine A9 Z Cb (b:=!y1) (fun c1=>?_) (fun c1=>?_)
 .replace h:=itT c1 h;obtain rfl:=B5 h;exact B6 Z Cb ⟨[(5,.p (.bb false)),(4,.p (pI .i64 0))],[(1,.vec A0 3 a.S.n (fun i=>A3 (a.S.g i)) true),(0,.cells [.p (.bb a.Made),.p (vSl 1 cS a.F),.vec 1])]⟩ [0,1] (ids:=[(0,0),(1,1)]) ⟨rfl,rfl,rfl⟩
 replace h:=itF c1 h;refine Be Z Cb h (fun x1=>⟨[(6,.p (pI .i64 x1)),(1,.p (.str c)),(0,.reg 0 0)],[(1,.vec A0 3 a.S.n (fun i=>A3 (a.S.g i)) true),(0,.cells [.p (.bb a.Made),.p (vSl 1 cS a.F),.vec 1])]⟩) (ids:=[(0,0),(1,1)]) (fun _ _ _ _ _ d x1 f h=>?_);refine A9 Z Cb (b:=decide (x1<((a.F.n:Nat):Int))) (fun c8=>?_) (fun c8=>?_)
 .replace h:=itT c8 h;obtain⟨c9,h⟩:=V4 h;refine A9 Z c9 (b:=((a.F.g x1.toNat)==c) != false) (fun c10=>?_) (fun c10=>?_)
  .replace h:=itT c10 h;obtain rfl:=B5 h;exact B6 Z Cb ⟨[(5,.p (.bb true)),(4,.p (pI .i64 x1))],[(1,.vec A0 3 a.S.n (fun i=>A3 (a.S.g i)) true),(0,.cells [.p (.bb a.Made),.p (vSl 1 cS a.F),.vec 1])]⟩ [0,1] (ids:=[(0,0),(1,1)]) ⟨rfl,rfl,rfl⟩
  replace h:=itF c10 h;exact f _ [(0,0),(1,1)] _ (wrap .i64 (x1+1)) Cb h
 replace h:=itF c8 h;obtain rfl:=B5 h;exact B6 Z Cb ⟨[(5,.p (.bb false)),(4,.p (pI .i64 0))],[(1,.vec A0 3 a.S.n (fun i=>A3 (a.S.g i)) true),(0,.cells [.p (.bb a.Made),.p (vSl 1 cS a.F),.vec 1])]⟩ [0,1] (ids:=[(0,0),(1,1)]) ⟨rfl,rfl,rfl⟩
def O9 (N:Nat)(d:E1)(a:Str):Option (Cf×Int):= (F9 N d).bind fun y1=>if (!y1) then some ((⟨0,0⟩:Cf),1) else if ((a==[]) != false) then some ((⟨0,0⟩:Cf),0) else (O0 N a).bind fun y2=>OT N (fun b (x2:Int) (x3:Int) (x4:Int)=>if (decide (x4<((y2.n:Nat):Int))) then if (((0:Int)<=x4/\x4<((y2.n:Nat):Int))/\x4.toNat<y2.n)then if (((decide ((((y2.g x4.toNat).length:Nat):Int)<1))=false->((((0:Int)<=x4/\x4<((y2.n:Nat):Int))/\x4.toNat<y2.n)/\((0:Int)<=0/\0<(((y2.g x4.toNat).length:Nat):Int))))/\((decide ((((y2.g x4.toNat).length:Nat):Int)<1))=false->(((D6 (y2.g x4.toNat) 0) != 43)=true->((((0:Int)<=x4/\x4<((y2.n:Nat):Int))/\x4.toNat<y2.n)/\((0:Int)<=0/\0<(((y2.g x4.toNat).length:Nat):Int))))))then if ((decide ((((y2.g x4.toNat).length:Nat):Int)<1))||(((D6 (y2.g x4.toNat) 0) != 43)&&((D6 (y2.g x4.toNat) 0) != 45))) then some ((⟨0,0⟩:Cf),10) else if ((((0:Int)<=x4/\x4<((y2.n:Nat):Int))/\x4.toNat<y2.n)/\((0:Int)<=1/\1<=(((y2.g x4.toNat).length:Nat):Int)))then (K0 N d ((y2.g x4.toNat).drop 1)).bind fun c=>lt (fun (z3:Bool)=>if z3 then some ((⟨0,0⟩:Cf),10) else if ((((0:Int)<=x4/\x4<((y2.n:Nat):Int))/\x4.toNat<y2.n)/\((0:Int)<=0/\0<(((y2.g x4.toNat).length:Nat):Int)))then if ((D6 (y2.g x4.toNat) 0)==45) then (K4 N (⟨x2,x3⟩:Cf) c.1 (-1)).bind fun f=>b f.1.Plus f.1.Minus (wrap .i64 (x4+1)) else (K4 N (⟨x2,x3⟩:Cf) c.1 1).bind fun i=>b i.1.Plus i.1.Minus (wrap .i64 (x4+1)) else none) fun k3=>if (!c.2) then k3 true else (S1 N (⟨x2,x3⟩:Cf) c.1).bind fun j=>k3 (j != 0) else none else none else none else some ((⟨x2,x3⟩:Cf),0)) 0 0 0
theorem Fx {a:E1}{c:Str}{y:Cf×Int}(h:O9 N a c=some y) :N5 S O7 [.reg 0 0,.p (.str c)] [.cells [.p (.bb a.Made),.p (vSl 1 cS a.F),.vec 1],.vec A0 3 a.S.n (fun i=>A3 (a.S.g i)) true] (.tup [.p (.agg (A5 y.1)),.p (pI .i64 y.2)]) ([.cells [.p (.bb a.Made),.p (vSl 1 cS a.F),.vec 1],.vec A0 3 a.S.n (fun i=>A3 (a.S.g i)) true]) [true,true]:=by
 unfold O9 at h;refine D8 Z Tryd.func18 ?_;obtain⟨y1,e1,h⟩:=D7 h;refine B2 Z [0,1] Cb (J9 Z Y e1) ?_;refine A9 Z Cb (b:=!y1) (fun c1=>?_) (fun c1=>?_)
 .replace h:=itT c1 h;obtain rfl:=B5 h;exact B6 Z Cb ⟨[(5,.p (pI .i64 1)),(4,.reg 5000 0)],[(5000,.cells [.p (pI .u32 0),.p (pI .u32 0)]),(1,.vec A0 3 a.S.n (fun i=>A3 (a.S.g i)) true),(0,.cells [.p (.bb a.Made),.p (vSl 1 cS a.F),.vec 1])]⟩ [0,1] (ids:=[(0,0),(1,1),(5000,5000)]) ⟨rfl,rfl,rfl⟩
 replace h:=itF c1 h;refine A9 Z Cb (b:=(c==[]) != false) (fun c2=>?_) (fun c2=>?_)
 .replace h:=itT c2 h;obtain rfl:=B5 h;exact B6 Z Cb ⟨[(5,.p (pI .i64 0)),(4,.reg 5000 0)],[(5000,.cells [.p (pI .u32 0),.p (pI .u32 0)]),(1,.vec A0 3 a.S.n (fun i=>A3 (a.S.g i)) true),(0,.cells [.p (.bb a.Made),.p (vSl 1 cS a.F),.vec 1])]⟩ [0,1] (ids:=[(0,0),(1,1),(5000,5000)]) ⟨rfl,rfl,rfl⟩
 replace h:=itF c2 h;obtain⟨y2,e2,h⟩:=D7 h;refine B2 Z [] Cb (Ck Z Y e2) ?_;refine Jb Z Cb h (fun x2 x3 x4=>⟨[(8,.p (pI .i64 x4)),(7,.vec 22000),(6,.reg 7000 0),(4,.reg 5000 0),(0,.reg 0 0)],[(22000,.vec B1 1 y2.n (fun i=>cS (y2.g i)) true),(7000,.cells [.p (pI .u32 x2),.p (pI .u32 x3)]),(5000,.cells [.p (pI .u32 0),.p (pI .u32 0)]),(1,.vec A0 3 a.S.n (fun i=>A3 (a.S.g i)) true),(0,.cells [.p (.bb a.Made),.p (vSl 1 cS a.F),.vec 1])]⟩) (ids:=[(0,0),(1,1),(5000,5000),(7000,7000),(22000,22000)]) (fun _ _ _ _ _ r x2 x3 x4 j h=>?_);refine A9 Z Cb (b:=decide (x4<((y2.n:Nat):Int))) (fun c33=>?_) (fun c33=>?_)
 .replace h:=itT c33 h;obtain⟨c34,h⟩:=V4 h;obtain⟨c37,h⟩:=V4 h;obtain⟨t3,d⟩:∃x:Bool,x=((decide ((((y2.g x4.toNat).length:Nat):Int)<1))||(((D6 (y2.g x4.toNat) 0) != 43)&&((D6 (y2.g x4.toNat) 0) != 45))):=⟨_,rfl⟩;refine Dg Z c34 (F6 Z) 0 ⟨[(49,.p (.bb t3)),(8,.p (pI .i64 x4)),(7,.vec 22000),(6,.reg 7000 0),(4,.reg 5000 0),(0,.reg 0 0)],[(22000,.vec B1 1 y2.n (fun i=>cS (y2.g i)) true),(7000,.cells [.p (pI .u32 x2),.p (pI .u32 x3)]),(5000,.cells [.p (pI .u32 0),.p (pI .u32 0)]),(1,.vec A0 3 a.S.n (fun i=>A3 (a.S.g i)) true),(0,.cells [.p (.bb a.Made),.p (vSl 1 cS a.F),.vec 1])]⟩ (fun M5 f=>?_) ?_
  .refine C4 Z Cb (b:=decide ((((y2.g x4.toNat).length:Nat):Int)<1)) (fun c38=>?_) (fun c38=>?_)
   .exact f _ [(0,0),(1,1),(5000,5000),(7000,7000),(22000,22000)] _ Cb (by kernel_rfl) (by kernel_rfl) (klR [(0,.eq (.bb true) (.bb t3))] (al1 (by simp only[d,c38,Leaf.ok,pm,Bx,By]) al0))
   refine C4 Z (c37.1 c38) (b:=(D6 (y2.g x4.toNat) 0) != 43) (fun c39=>?_) (fun c39=>?_)
   .exact f _ [(0,0),(1,1),(5000,5000),(7000,7000),(22000,22000)] _ (c37.2 c38 c39) (by kernel_rfl) (by kernel_rfl) (klR [(0,.eq (.bb ((D6 (y2.g x4.toNat) 0) != 45)) (.bb t3))] (al1 (by simp only[d,c38,c39,Leaf.ok,pm,Bx,By]) al0))
   exact f _ [(0,0),(1,1),(5000,5000),(7000,7000),(22000,22000)] _ Cb (by kernel_rfl) (by kernel_rfl) (klR [(0,.eq (.bb false) (.bb t3))] (al1 (by simp only[d,c38,c39,Leaf.ok,pm,Bx,By]) al0))
  subst d;refine A9 Z Cb (b:=((decide ((((y2.g x4.toNat).length:Nat):Int)<1))||(((D6 (y2.g x4.toNat) 0) != 43)&&((D6 (y2.g x4.toNat) 0) != 45)))) (fun c40=>?_) (fun c40=>?_)
  .replace h:=itT c40 h;obtain rfl:=B5 h;exact B6 Z Cb ⟨[(5,.p (pI .i64 10)),(4,.reg 5000 0)],[(5000,.cells [.p (pI .u32 0),.p (pI .u32 0)]),(1,.vec A0 3 a.S.n (fun i=>A3 (a.S.g i)) true),(0,.cells [.p (.bb a.Made),.p (vSl 1 cS a.F),.vec 1])]⟩ [0,1] (ids:=[(0,0),(1,1),(5000,5000)]) ⟨rfl,rfl,rfl⟩
  replace h:=itF c40 h;obtain⟨c41,h⟩:=V4 h;obtain⟨l,e13,h⟩:=D7 h;refine B2 Z [0,1] c41 (AQ Z Y e13) ?_;refine Pm Z Cb (F6 Z) h 0 (fun z3=>⟨[(68,.p (.bb z3)),(9,.p (pI .i64 l.1)),(8,.p (pI .i64 x4)),(7,.vec 22000),(6,.reg 7000 0),(4,.reg 5000 0),(0,.reg 0 0)],[(22000,.vec B1 1 y2.n (fun i=>cS (y2.g i)) true),(7000,.cells [.p (pI .u32 x2),.p (pI .u32 x3)]),(5000,.cells [.p (pI .u32 0),.p (pI .u32 0)]),(1,.vec A0 3 a.S.n (fun i=>A3 (a.S.g i)) true),(0,.cells [.p (.bb a.Made),.p (vSl 1 cS a.F),.vec 1])]⟩) (fun M6 k3 m h=>?_) (fun z3 h=>?_)
  .refine C4 Z Cb (b:=!l.2) (fun c44=>?_) (fun c44=>?_)
   .replace h:=itT c44 h;exact m _ [(0,0),(1,1),(5000,5000),(7000,7000),(22000,22000)] _ true Cb h
   replace h:=itF c44 h;obtain⟨s,e15,h⟩:=D7 h;refine B2 Z [] Cb (Dk Z Y e15) ?_;exact m _ [(0,0),(1,1),(5000,5000),(7000,7000),(22000,22000)] _ (s != 0) Cb h
  refine A9 Z Cb (b:=z3) (fun c45=>?_) (fun c45=>?_)
  .replace h:=itT c45 h;obtain rfl:=B5 h;exact B6 Z Cb ⟨[(5,.p (pI .i64 10)),(4,.reg 5000 0)],[(5000,.cells [.p (pI .u32 0),.p (pI .u32 0)]),(1,.vec A0 3 a.S.n (fun i=>A3 (a.S.g i)) true),(0,.cells [.p (.bb a.Made),.p (vSl 1 cS a.F),.vec 1])]⟩ [0,1] (ids:=[(0,0),(1,1),(5000,5000)]) ⟨rfl,rfl,rfl⟩
  replace h:=itF c45 h;obtain⟨c46,h⟩:=V4 h;refine A9 Z c46 (b:=(D6 (y2.g x4.toNat) 0)==45) (fun c47=>?_) (fun c47=>?_)
  .replace h:=itT c47 h;obtain⟨o,e16,h⟩:=D7 h;refine B2 Z [] Cb (Y9 Z Y e16) ?_;exact j _ [(0,0),(1,1),(5000,5000),(7000,7000),(22000,22000)] _ o.1.Plus o.1.Minus (wrap .i64 (x4+1)) Cb h
  replace h:=itF c47 h;obtain⟨q,e17,h⟩:=D7 h;refine B2 Z [] Cb (Y9 Z Y e17) ?_;exact j _ [(0,0),(1,1),(5000,5000),(7000,7000),(22000,22000)] _ q.1.Plus q.1.Minus (wrap .i64 (x4+1)) Cb h
 replace h:=itF c33 h;obtain rfl:=B5 h;exact B6 Z Cb ⟨[(5,.p (pI .i64 0)),(4,.reg 5000 0)],[(5000,.cells [.p (pI .u32 x2),.p (pI .u32 x3)]),(1,.vec A0 3 a.S.n (fun i=>A3 (a.S.g i)) true),(0,.cells [.p (.bb a.Made),.p (vSl 1 cS a.F),.vec 1])]⟩ [0,1] (ids:=[(0,0),(1,1),(5000,5000)]) ⟨rfl,rfl,rfl⟩
def P0 (N:Nat)(a:E1)(c:Cf):Option (Str×Bool):= (F9 N a).bind fun y1=>if (!y1) then some ([],false) else BW N (fun b (x1:Int)=>if (decide (x1<((a.S.n:Nat):Int))) then if (((0:Int)<=x1/\x1<((a.S.n:Nat):Int))/\x1.toNat<a.S.n)then if ((((a.S.g x1.toNat).S.Plus==c.Plus)&&((a.S.g x1.toNat).S.Minus==c.Minus)) != false) then if (((0:Int)<=x1/\x1<((a.S.n:Nat):Int))/\x1.toNat<a.S.n)then some ((a.S.g x1.toNat).Symbol,true) else none else b (wrap .i64 (x1+1)) else none else some ([],false)) 0
theorem Fy {a:E1}{c:Cf}{y:Str×Bool}(h:P0 N a c=some y) :N5 S O8 [.reg 0 0,.p (.agg (A5 c))] [.cells [.p (.bb a.Made),.p (vSl 1 cS a.F),.vec 1],.vec A0 3 a.S.n (fun i=>A3 (a.S.g i)) true] (.tup [.p (.str y.1),.p (.bb y.2)]) ([.cells [.p (.bb a.Made),.p (vSl 1 cS a.F),.vec 1],.vec A0 3 a.S.n (fun i=>A3 (a.S.g i)) true]) [true,true]:=by
 unfold P0 at h;refine D8 Z Tryd.func66 ?_;obtain⟨y1,e1,h⟩:=D7 h;refine B2 Z [0,1] Cb (J9 Z Y e1) ?_;refine A9 Z Cb (b:=!y1) (fun c1=>?_) (fun c1=>?_)
 .replace h:=itT c1 h;obtain rfl:=B5 h;exact B6 Z Cb ⟨[(5,.p (.bb false)),(4,.p (.str []))],[(1,.vec A0 3 a.S.n (fun i=>A3 (a.S.g i)) true),(0,.cells [.p (.bb a.Made),.p (vSl 1 cS a.F),.vec 1])]⟩ [0,1] (ids:=[(0,0),(1,1)]) ⟨rfl,rfl,rfl⟩
 replace h:=itF c1 h;refine Be Z Cb h (fun x1=>⟨[(6,.p (pI .i64 x1)),(3,.reg 4000 0),(0,.reg 0 0)],[(4000,.cells [.p (pI .u32 c.Plus),.p (pI .u32 c.Minus)]),(1,.vec A0 3 a.S.n (fun i=>A3 (a.S.g i)) true),(0,.cells [.p (.bb a.Made),.p (vSl 1 cS a.F),.vec 1])]⟩) (ids:=[(0,0),(1,1),(4000,4000)]) (fun _ _ _ _ _ d x1 f h=>?_);refine A9 Z Cb (b:=decide (x1<((a.S.n:Nat):Int))) (fun c8=>?_) (fun c8=>?_)
 .replace h:=itT c8 h;refine W3 Z Cb ?_;obtain⟨c9,h⟩:=V4 h;refine Bu (QY (QY (QY c9.1 (by decide:(2:Nat)<=2)) c9.2) (by decide +kernel:Kr Tryd.prog F3=true)) ?_;refine A9 Z Cb (b:=(((a.S.g x1.toNat).S.Plus==c.Plus)&&((a.S.g x1.toNat).S.Minus==c.Minus)) != false) (fun c10=>?_) (fun c10=>?_)
  .replace h:=itT c10 h;obtain⟨c11,h⟩:=V4 h;obtain rfl:=B5 h;exact B6 Z c11 ⟨[(5,.p (.bb true)),(4,.p (.str (a.S.g x1.toNat).Symbol))],[(1,.vec A0 3 a.S.n (fun i=>A3 (a.S.g i)) true),(0,.cells [.p (.bb a.Made),.p (vSl 1 cS a.F),.vec 1])]⟩ [0,1] (ids:=[(0,0),(1,1)]) ⟨rfl,rfl,rfl⟩
  replace h:=itF c10 h;exact f _ [(0,0),(1,1),(4000,4000)] _ (wrap .i64 (x1+1)) Cb h
 replace h:=itF c8 h;obtain rfl:=B5 h;exact B6 Z Cb ⟨[(5,.p (.bb false)),(4,.p (.str []))],[(1,.vec A0 3 a.S.n (fun i=>A3 (a.S.g i)) true),(0,.cells [.p (.bb a.Made),.p (vSl 1 cS a.F),.vec 1])]⟩ [0,1] (ids:=[(0,0),(1,1)]) ⟨rfl,rfl,rfl⟩
def Ak (N:Nat)(a:Sl Str):Option ((Option E1)×Int):= if (decide (24<((a.n:Nat):Int))) then some (none,12) else BW N (fun b (x1:Int)=>if (decide (x1<((a.n:Nat):Int))) then if ((0:Int)<=x1/\x1<((a.n:Nat):Int))then (M9 N (a.g x1.toNat)).bind fun y3=>if (!y3) then some (none,15) else b (wrap .i64 (x1+1)) else none else BW N (fun c (x3:Int)=>if (decide (x3<((a.n:Nat):Int))) then BW N (fun d (x5:Int)=>if (decide (x5<x3)) then if (((0:Int)<=x3/\x3<((a.n:Nat):Int))/\((0:Int)<=x5/\x5<((a.n:Nat):Int)))then if (((a.g x3.toNat)==(a.g x5.toNat)) != false) then some (none,6) else d (wrap .i64 (x5+1)) else none else c (wrap .i64 (x3+1))) 0 else if (((Sl.of []:Sl Str).n+a.n)*16<=140737488355328/\(Sl.of []:Sl Str).n+a.n<=140737488355328)then some (some (⟨true,(Sl.of []:Sl Str).app a,(Sl.nil:Sl C8)⟩:E1),0) else none) 0) 0
def B0 (N:Nat)(a:A2):Option Bool:= some true
theorem E2 {a:A2}{y:Bool}(h:B0 N a=some y) :N5 S M7 [.reg 0 0] [.cells [.p (vSl 1 cS a.feats),.mref 1,.vec 2,.mref 3,.mref 4],.map (A8 PV.str (pI .i64) a.number),.vec A0 3 a.sounds.n (fun i=>A3 (a.sounds.g i)) true,.map (A8 PV.str (pI .i64) a.symbols),.map (A8 (fun x=>.agg (A5 x)) (pI .i64) a.values)] (.p (.bb y)) ([.cells [.p (vSl 1 cS a.feats),.mref 1,.vec 2,.mref 3,.mref 4],.map (A8 PV.str (pI .i64) a.number),.vec A0 3 a.sounds.n (fun i=>A3 (a.sounds.g i)) true,.map (A8 PV.str (pI .i64) a.symbols),.map (A8 (fun x=>.agg (A5 x)) (pI .i64) a.values)]) [true,true,true,true,true]:=by unfold B0 at h;refine D8 Z Tryd.func48 ?_;obtain rfl:=B5 h;exact B6 Z Cb ⟨[(2,.p (.bb true))],[(4,.map (A8 (fun x=>.agg (A5 x)) (pI .i64) a.values)),(3,.map (A8 PV.str (pI .i64) a.symbols)),(2,.vec A0 3 a.sounds.n (fun i=>A3 (a.sounds.g i)) true),(1,.map (A8 PV.str (pI .i64) a.number)),(0,.cells [.p (vSl 1 cS a.feats),.mref 1,.vec 2,.mref 3,.mref 4])]⟩ [0,1,2,3,4] (ids:=[(0,0),(1,1),(2,2),(3,3),(4,4)]) ⟨rfl,rfl,rfl⟩
def E7 (N:Nat)(b:A2)(a:Cf):Option Bool:= if (0:Int)<=((b.feats.n:Nat):Int)then some (((K8 .and .u32 a.Plus a.Minus)==0)&&((K8 .andNot .u32 (K8 .or .u32 a.Plus a.Minus) (wrap .u32 ((shI .shl .u32 1 ((b.feats.n:Nat):Int))-1)))==0)) else none
theorem Q0 {a:A2}{c:Cf}{y:Bool}(h:E7 N a c=some y) :N5 S P9 [.reg 0 0,.p (.agg (A5 c))] [.cells [.p (vSl 1 cS a.feats),.mref 1,.vec 2,.mref 3,.mref 4],.map (A8 PV.str (pI .i64) a.number),.vec A0 3 a.sounds.n (fun i=>A3 (a.sounds.g i)) true,.map (A8 PV.str (pI .i64) a.symbols),.map (A8 (fun x=>.agg (A5 x)) (pI .i64) a.values)] (.p (.bb y)) ([.cells [.p (vSl 1 cS a.feats),.mref 1,.vec 2,.mref 3,.mref 4],.map (A8 PV.str (pI .i64) a.number),.vec A0 3 a.sounds.n (fun i=>A3 (a.sounds.g i)) true,.map (A8 PV.str (pI .i64) a.symbols),.map (A8 (fun x=>.agg (A5 x)) (pI .i64) a.values)]) [true,true,true,true,true]:=by
 unfold E7 at h;refine D8 Z Tryd.func55 ?_;obtain⟨c1,h⟩:=V4 h;obtain⟨t1,d⟩:∃x:Bool,x=(((K8 .and .u32 c.Plus c.Minus)==0)&&((K8 .andNot .u32 (K8 .or .u32 c.Plus c.Minus) (wrap .u32 ((shI .shl .u32 1 ((a.feats.n:Nat):Int))-1)))==0)):=⟨_,rfl⟩;refine Dg Z c1 (F6 Z) 0 ⟨[(4,.p (.bb t1))],[(4,.map (A8 (fun x=>.agg (A5 x)) (pI .i64) a.values)),(3,.map (A8 PV.str (pI .i64) a.symbols)),(2,.vec A0 3 a.sounds.n (fun i=>A3 (a.sounds.g i)) true),(1,.map (A8 PV.str (pI .i64) a.number)),(0,.cells [.p (vSl 1 cS a.feats),.mref 1,.vec 2,.mref 3,.mref 4])]⟩ (fun M1 f=>?_) ?_
 .refine C4 Z Cb (b:=(K8 .and .u32 c.Plus c.Minus)==0) (fun c3=>?_) (fun c3=>?_)
  .exact f _ [(0,0),(1,1),(2,2),(3,3),(4,4)] _ Cb (by kernel_rfl) (by kernel_rfl) (klR [(0,.eq (.bb ((K8 .andNot .u32 (K8 .or .u32 c.Plus c.Minus) (wrap .u32 ((shI .shl .u32 1 ((a.feats.n:Nat):Int))-1)))==0)) (.bb t1))] (al1 (by simp only[d,c3,Leaf.ok,pm,Bx,By]) al0))
  exact f _ [(0,0),(1,1),(2,2),(3,3),(4,4)] _ Cb (by kernel_rfl) (by kernel_rfl) (klR [(0,.eq (.bb false) (.bb t1))] (al1 (by simp only[d,c3,Leaf.ok,pm,Bx,By]) al0))
 subst d;obtain rfl:=B5 h;exact B6 Z Cb ⟨[(4,.p (.bb (((K8 .and .u32 c.Plus c.Minus)==0)&&((K8 .andNot .u32 (K8 .or .u32 c.Plus c.Minus) (wrap .u32 ((shI .shl .u32 1 ((a.feats.n:Nat):Int))-1)))==0))))],[(4,.map (A8 (fun x=>.agg (A5 x)) (pI .i64) a.values)),(3,.map (A8 PV.str (pI .i64) a.symbols)),(2,.vec A0 3 a.sounds.n (fun i=>A3 (a.sounds.g i)) true),(1,.map (A8 PV.str (pI .i64) a.number)),(0,.cells [.p (vSl 1 cS a.feats),.mref 1,.vec 2,.mref 3,.mref 4])]⟩ [0,1,2,3,4] (ids:=[(0,0),(1,1),(2,2),(3,3),(4,4)]) ⟨rfl,rfl,rfl⟩
def D4 (N:Nat)(a:Str)(b:Int)(d:Int->Option Bool):Option Bool:= if ((decide (((a.length:Nat):Int)<1))||(decide (b<((a.length:Nat):Int)))) then some false else BW N (fun c (x1:Int)=>if (decide (x1<((a.length:Nat):Int))) then if ((0:Int)<=x1/\x1<((a.length:Nat):Int))then (d (D6 a x1)).bind fun y3=>if (!y3) then some false else c (wrap .i64 (x1+1)) else none else some true) 0
theorem N0 {c:Str}{a:Int}{d:Int->Option Bool}{kp_of:Nat}(f:∀{a0:Int}{b:Bool},d a0=some b->N5 S kp_of [.p (pI .u8 a0)] [] (.p (.bb b)) [] []){y:Bool}(h:D4 N c a d=some y) :N5 S U3 [.p (.str c),.p (pI .i64 a),.clo kp_of [] []] [] (.p (.bb y)) ([]) []:=by
 unfold D4 at h;refine D8 Z Tryd.func57 ?_;obtain⟨t1,g⟩:∃x:Bool,x=((decide (((c.length:Nat):Int)<1))||(decide (a<((c.length:Nat):Int)))):=⟨_,rfl⟩;refine Dg Z Cb (F6 Z) 0 ⟨[(16,.p (.bb t1)),(2,.clo kp_of [] []),(0,.p (.str c))],[]⟩ (fun M1 i=>?_) ?_
 .refine C4 Z Cb (b:=decide (((c.length:Nat):Int)<1)) (fun c2=>?_) (fun c2=>?_)
  .exact i _ [] _ Cb (by kernel_rfl) (by kernel_rfl) (klR [(0,.eq (.bb true) (.bb t1))] (al1 (by simp only[g,c2,Leaf.ok,pm,Bx,By]) al0))
  exact i _ [] _ Cb (by kernel_rfl) (by kernel_rfl) (klR [(0,.eq (.bb (decide (a<((c.length:Nat):Int)))) (.bb t1))] (al1 (by simp only[g,c2,Leaf.ok,pm,Bx,By]) al0))
 subst g;refine A9 Z Cb (b:=((decide (((c.length:Nat):Int)<1))||(decide (a<((c.length:Nat):Int))))) (fun c3=>?_) (fun c3=>?_)
 .replace h:=itT c3 h;obtain rfl:=B5 h;exact I1 Z Cb [] ⟨rfl,rfl,rfl⟩
 replace h:=itF c3 h;refine Be Z Cb h (fun x1=>⟨[(19,.p (pI .i64 x1)),(18,.p (pI .i64 ((c.length:Nat):Int))),(2,.clo kp_of [] []),(0,.p (.str c))],[]⟩) (ids:=[]) (fun _ _ _ _ _ j x1 l h=>?_);refine A9 Z Cb (b:=decide (x1<((c.length:Nat):Int))) (fun c10=>?_) (fun c10=>?_)
 .replace h:=itT c10 h;obtain⟨c11,h⟩:=V4 h;obtain⟨y3,e3,h⟩:=D7 h;refine B2 Z [] c11 (f e3) ?_;refine A9 Z Cb (b:=!y3) (fun c12=>?_) (fun c12=>?_)
  .replace h:=itT c12 h;obtain rfl:=B5 h;exact I1 Z Cb [] ⟨rfl,rfl,rfl⟩
  replace h:=itF c12 h;exact l _ [] _ (wrap .i64 (x1+1)) Cb h
 replace h:=itF c10 h;obtain rfl:=B5 h;exact I1 Z Cb [] ⟨rfl,rfl,rfl⟩
def F7 (N:Nat)(a:Int):Option Bool:= (G3 N a).bind fun y1=>lt (fun (z1:Bool)=>some z1) fun k1=>if y1 then k1 true else if (decide (65<=a)) then if (decide (a<=90)) then k1 true else (G2 N [64,63,33,38,42,36,37] a).bind fun y4=>k1 (decide (0<=y4)) else (G2 N [64,63,33,38,42,36,37] a).bind fun y5=>k1 (decide (0<=y5))
theorem Bi {a:Int}{y:Bool}(h:F7 N a=some y) :N5 S T0 [.p (pI .u8 a)] [] (.p (.bb y)) ([]) []:=by
 unfold F7 at h;refine D8 Z Tryd.func58 ?_;obtain⟨y1,e1,h⟩:=D7 h;refine B2 Z [] Cb (S3 Z Y e1) ?_;refine Pm Z Cb (F6 Z) h 0 (fun z1=>⟨[(2,.p (.bb z1))],[]⟩) (fun M1 k1 c h=>?_) (fun z1 h=>?_)
 .refine C4 Z Cb (b:=y1) (fun c7=>?_) (fun c7=>?_)
  .replace h:=itT c7 h;exact c _ [] _ true Cb h
  replace h:=itF c7 h;refine C4 Z Cb (b:=decide (65<=a)) (fun c8=>?_) (fun c8=>?_)
  .replace h:=itT c8 h;refine C4 Z Cb (b:=decide (a<=90)) (fun c9=>?_) (fun c9=>?_)
   .replace h:=itT c9 h;exact c _ [] _ true Cb h
   replace h:=itF c9 h;obtain⟨y4,e4,h⟩:=D7 h;refine B2 Z [] Cb (X4 Z Y e4) ?_;exact c _ [] _ (decide (0<=y4)) Cb h
  replace h:=itF c8 h;obtain⟨y5,e5,h⟩:=D7 h;refine B2 Z [] Cb (X4 Z Y e5) ?_;exact c _ [] _ (decide (0<=y5)) Cb h
 obtain rfl:=B5 h;exact I1 Z Cb [] ⟨rfl,rfl,rfl⟩
def C9 (N:Nat)(b:A2)(a:Str)(c:Cf):Option (Int×A2):= (B0 N b).bind fun y1=>if (!y1) then some (1,b) else (D4 N a 4 (fun (u1:Int)=>F7 N u1)).bind fun y2=>if (!y2) then some (15,b) else (E7 N b c).bind fun y3=>if (!y3) then some (14,b) else Cq (Q4 eqS a b.symbols) (Cq (Q4 D9 c b.values) (if (((b.sounds.n:Nat):Int)==256) then some (4,b) else if ((b.sounds.n+(Sl.of [(⟨a,c⟩:C8)]:Sl C8).n)*24<=140737488355328/\b.sounds.n+(Sl.of [(⟨a,c⟩:C8)]:Sl C8).n<=140737488355328)then some (0,(⟨b.feats,b.number,b.sounds.push (⟨a,c⟩:C8),DR eqS a ((b.sounds.n:Nat):Int) b.symbols,DR D9 c ((b.sounds.n:Nat):Int) b.values⟩:A2)) else none) fun v2=>some (6,b)) fun v1=>Cq (Q4 D9 c b.values) (some (6,b)) fun v3=>some (6,b)
theorem H6 {a:A2}{d:Str}{f:Cf}{y:Int×A2}(h:C9 N a d f=some y) :N5 S W5 [.reg 0 0,.p (.str d),.p (.agg (A5 f))] [.cells [.p (vSl 1 cS a.feats),.mref 1,.vec 2,.mref 3,.mref 4],.map (A8 PV.str (pI .i64) a.number),.vec A0 3 a.sounds.n (fun i=>A3 (a.sounds.g i)) true,.map (A8 PV.str (pI .i64) a.symbols),.map (A8 (fun x=>.agg (A5 x)) (pI .i64) a.values)] (.p (pI .i64 y.1)) ([.cells [.p (vSl 1 cS y.2.feats),.mref 1,.vec 2,.mref 3,.mref 4],.map (A8 PV.str (pI .i64) y.2.number),.vec A0 3 y.2.sounds.n (fun i=>A3 (y.2.sounds.g i)) true,.map (A8 PV.str (pI .i64) y.2.symbols),.map (A8 (fun x=>.agg (A5 x)) (pI .i64) y.2.values)]) [true,true,false,true,true]:=by
 unfold C9 at h;refine D8 Z Tryd.func22 ?_;obtain⟨y1,e1,h⟩:=D7 h;refine B2 Z [0,1,2,3,4] Cb (E2 Z Y e1) ?_;refine A9 Z Cb (b:=!y1) (fun c1=>?_) (fun c1=>?_)
 .replace h:=itT c1 h;obtain rfl:=B5 h;exact B6 Z Cb ⟨[(6,.p (pI .i64 1))],[(990002,.vec A0 3 a.sounds.n (fun i=>A3 (a.sounds.g i)) true),(4,.map (A8 (fun x=>.agg (A5 x)) (pI .i64) a.values)),(3,.map (A8 PV.str (pI .i64) a.symbols)),(1,.map (A8 PV.str (pI .i64) a.number)),(0,.cells [.p (vSl 1 cS a.feats),.mref 1,.vec 990002,.mref 3,.mref 4])]⟩ [0,1,990002,3,4] (ids:=[(0,0),(1,1),(3,3),(4,4),(990002,2)]) ⟨rfl,rfl,rfl⟩
 replace h:=itF c1 h;obtain⟨y2,e2,h⟩:=D7 h;refine B2 Z [] Cb (N0 Z Y (fun e=>Bi Z Y e) e2) ?_;refine A9 Z Cb (b:=!y2) (fun c2=>?_) (fun c2=>?_)
 .replace h:=itT c2 h;obtain rfl:=B5 h;exact B6 Z Cb ⟨[(6,.p (pI .i64 15))],[(990002,.vec A0 3 a.sounds.n (fun i=>A3 (a.sounds.g i)) true),(4,.map (A8 (fun x=>.agg (A5 x)) (pI .i64) a.values)),(3,.map (A8 PV.str (pI .i64) a.symbols)),(1,.map (A8 PV.str (pI .i64) a.number)),(0,.cells [.p (vSl 1 cS a.feats),.mref 1,.vec 990002,.mref 3,.mref 4])]⟩ [0,1,990002,3,4] (ids:=[(0,0),(1,1),(3,3),(4,4),(990002,2)]) ⟨rfl,rfl,rfl⟩
 replace h:=itF c2 h;obtain⟨y3,e3,h⟩:=D7 h;refine B2 Z [0,1,2,3,4] Cb (Q0 Z Y e3) ?_;refine A9 Z Cb (b:=!y3) (fun c3=>?_) (fun c3=>?_)
 .replace h:=itT c3 h;obtain rfl:=B5 h;exact B6 Z Cb ⟨[(6,.p (pI .i64 14))],[(990002,.vec A0 3 a.sounds.n (fun i=>A3 (a.sounds.g i)) true),(4,.map (A8 (fun x=>.agg (A5 x)) (pI .i64) a.values)),(3,.map (A8 PV.str (pI .i64) a.symbols)),(1,.map (A8 PV.str (pI .i64) a.number)),(0,.cells [.p (vSl 1 cS a.feats),.mref 1,.vec 990002,.mref 3,.mref 4])]⟩ [0,1,990002,3,4] (ids:=[(0,0),(1,1),(3,3),(4,4),(990002,2)]) ⟨rfl,rfl,rfl⟩
 replace h:=itF c3 h;rcases o1:Q4 eqS d a.symbols with _|v1
 .replace h:=JV o1 h;refine Y5 Z Cb (kt:=B1) (e:=CP) (key:=PV.str d) (es:=A8 PV.str (pI .i64) a.symbols) (x:=pI .i64 0) (b:=false) (fd:=none) ((H5 (kP:=PV.str) (vP:=pI .i64) (eq:=eqS) (fun _ _=>by kernel_rfl) d a.symbols).trans (by rw[o1];rfl)) Cb ?_;refine W3 Z Cb ?_;rcases o2:Q4 D9 f a.values with _|v2
  .replace h:=JV o2 h;refine Bp Cb (kt:=F3) (e:=CP) (key:=(fun x=>.agg (A5 x)) f) (es:=A8 (fun x=>.agg (A5 x)) (pI .i64) a.values) (x:=pI .i64 0) (b:=false) (fd:=none) ((H5 (kP:=fun x=>.agg (A5 x)) (vP:=pI .i64) (eq:=D9) (fun _ _=>by kernel_rfl) f a.values).trans (by rw[o2];rfl)) (by decide +kernel:Kr Tryd.prog F3=true) ?_;refine Bu Cb ?_;refine C4 Z Cb (b:=false) (fun c6=>?_) (fun c6=>?_)
   .exact Bool.noConfusion ((rfl:false=false).symm.trans c6)
   refine A9 Z Cb (b:=false) (fun c7=>?_) (fun c7=>?_)
   .exact Bool.noConfusion ((rfl:false=false).symm.trans c7)
   refine A9 Z Cb (b:=((a.sounds.n:Nat):Int)==256) (fun c8=>?_) (fun c8=>?_)
   .replace h:=itT c8 h;obtain rfl:=B5 h;exact B6 Z Cb ⟨[(6,.p (pI .i64 4))],[(990002,.vec A0 3 a.sounds.n (fun i=>A3 (a.sounds.g i)) true),(4,.map (A8 (fun x=>.agg (A5 x)) (pI .i64) a.values)),(3,.map (A8 PV.str (pI .i64) a.symbols)),(1,.map (A8 PV.str (pI .i64) a.number)),(0,.cells [.p (vSl 1 cS a.feats),.mref 1,.vec 990002,.mref 3,.mref 4])]⟩ [0,1,990002,3,4] (ids:=[(0,0),(1,1),(3,3),(4,4),(990002,2)]) ⟨rfl,rfl,rfl⟩
   replace h:=itF c8 h;refine W3 Z Cb ?_;refine Jc Cb (kt:=B1) (key:=PV.str d) (y:=pI .i64 ((a.sounds.n:Nat):Int)) (es:=A8 PV.str (pI .i64) a.symbols) (Bo (kP:=PV.str) (vP:=pI .i64) (eq:=eqS) (fun _ _=>by kernel_rfl) d ((a.sounds.n:Nat):Int) a.symbols) Cb ?_;refine Bu Cb ?_;refine W3 Z Cb ?_;refine Jc Cb (kt:=F3) (key:=(fun x=>.agg (A5 x)) f) (y:=pI .i64 ((a.sounds.n:Nat):Int)) (es:=A8 (fun x=>.agg (A5 x)) (pI .i64) a.values) (Bo (kP:=fun x=>.agg (A5 x)) (vP:=pI .i64) (eq:=D9) (fun _ _=>by kernel_rfl) f ((a.sounds.n:Nat):Int) a.values) (by decide +kernel:Kr Tryd.prog F3=true) ?_;refine Bu Cb ?_;refine W3 Z Cb ?_;refine Pn Cb (x:=.sl true 3 1 (S7 [.str [],pI .u32 0,pI .u32 0] [(0,A3 (⟨d,f⟩:C8))])) ?_;obtain⟨c9,h⟩:=V4 h;refine Bu c9 ?_;obtain rfl:=B5 h;exact B6 Z Cb ⟨[(6,.p (pI .i64 0))],[(79000,.vec A0 3 (a.sounds.push (⟨d,f⟩:C8)).n (fun i=>A3 ((a.sounds.push (⟨d,f⟩:C8)).g i)) true),(4,.map (A8 (fun x=>.agg (A5 x)) (pI .i64) (DR D9 f ((a.sounds.n:Nat):Int) a.values))),(3,.map (A8 PV.str (pI .i64) (DR eqS d ((a.sounds.n:Nat):Int) a.symbols))),(1,.map (A8 PV.str (pI .i64) a.number)),(0,.cells [.p (vSl 1 cS a.feats),.mref 1,.vec 79000,.mref 3,.mref 4])]⟩ [0,1,79000,3,4] (ids:=[(0,0),(1,1),(3,3),(4,4),(79000,79000)]) ⟨rfl,rfl,rfl⟩ (hle:=klR [(1,.fn (a.sounds.n+1) (a.sounds.push (⟨d,f⟩:C8)).n (AS a.sounds.n (fun i=>A3 (a.sounds.g i)) (S7 [.str [],pI .u32 0,pI .u32 0] [(0,A3 (⟨d,f⟩:C8))])) (fun i=>A3 ((a.sounds.push (⟨d,f⟩:C8)).g i)))] (al1 ⟨rfl,OV (c:=A3) (v:=a.sounds) (x:=(⟨d,f⟩:C8)) (z:=[(.str []),pI .u32 0,pI .u32 0]) same rfl rfl⟩ al0))
  replace h:=JW o2 h;refine Bp Cb (kt:=F3) (e:=CP) (key:=(fun x=>.agg (A5 x)) f) (es:=A8 (fun x=>.agg (A5 x)) (pI .i64) a.values) (x:=pI .i64 v2) (b:=true) (fd:=some (pI .i64 v2)) ((H5 (kP:=fun x=>.agg (A5 x)) (vP:=pI .i64) (eq:=D9) (fun _ _=>by kernel_rfl) f a.values).trans (by rw[o2];rfl)) (by decide +kernel:Kr Tryd.prog F3=true) ?_;refine Bu Cb ?_;refine C4 Z Cb (b:=false) (fun c12=>?_) (fun c12=>?_)
  .exact Bool.noConfusion ((rfl:false=false).symm.trans c12)
  refine A9 Z Cb (b:=true) (fun c13=>?_) (fun c13=>?_)
  .obtain rfl:=B5 h;exact B6 Z Cb ⟨[(6,.p (pI .i64 6))],[(990002,.vec A0 3 a.sounds.n (fun i=>A3 (a.sounds.g i)) true),(4,.map (A8 (fun x=>.agg (A5 x)) (pI .i64) a.values)),(3,.map (A8 PV.str (pI .i64) a.symbols)),(1,.map (A8 PV.str (pI .i64) a.number)),(0,.cells [.p (vSl 1 cS a.feats),.mref 1,.vec 990002,.mref 3,.mref 4])]⟩ [0,1,990002,3,4] (ids:=[(0,0),(1,1),(3,3),(4,4),(990002,2)]) ⟨rfl,rfl,rfl⟩
  exact Bool.noConfusion (Ce.symm.trans c13)
 replace h:=JW o1 h;refine Y5 Z Cb (kt:=B1) (e:=CP) (key:=PV.str d) (es:=A8 PV.str (pI .i64) a.symbols) (x:=pI .i64 v1) (b:=true) (fd:=some (pI .i64 v1)) ((H5 (kP:=PV.str) (vP:=pI .i64) (eq:=eqS) (fun _ _=>by kernel_rfl) d a.symbols).trans (by rw[o1];rfl)) Cb ?_;refine W3 Z Cb ?_;rcases o3:Q4 D9 f a.values with _|v3
 .replace h:=JV o3 h;refine Bp Cb (kt:=F3) (e:=CP) (key:=(fun x=>.agg (A5 x)) f) (es:=A8 (fun x=>.agg (A5 x)) (pI .i64) a.values) (x:=pI .i64 0) (b:=false) (fd:=none) ((H5 (kP:=fun x=>.agg (A5 x)) (vP:=pI .i64) (eq:=D9) (fun _ _=>by kernel_rfl) f a.values).trans (by rw[o3];rfl)) (by decide +kernel:Kr Tryd.prog F3=true) ?_;refine Bu Cb ?_;refine C4 Z Cb (b:=true) (fun c16=>?_) (fun c16=>?_)
  .obtain rfl:=B5 h;exact B6 Z Cb ⟨[(6,.p (pI .i64 6))],[(990002,.vec A0 3 a.sounds.n (fun i=>A3 (a.sounds.g i)) true),(4,.map (A8 (fun x=>.agg (A5 x)) (pI .i64) a.values)),(3,.map (A8 PV.str (pI .i64) a.symbols)),(1,.map (A8 PV.str (pI .i64) a.number)),(0,.cells [.p (vSl 1 cS a.feats),.mref 1,.vec 990002,.mref 3,.mref 4])]⟩ [0,1,990002,3,4] (ids:=[(0,0),(1,1),(3,3),(4,4),(990002,2)]) ⟨rfl,rfl,rfl⟩
  exact Bool.noConfusion (Ce.symm.trans c16)
 replace h:=JW o3 h;refine Bp Cb (kt:=F3) (e:=CP) (key:=(fun x=>.agg (A5 x)) f) (es:=A8 (fun x=>.agg (A5 x)) (pI .i64) a.values) (x:=pI .i64 v3) (b:=true) (fd:=some (pI .i64 v3)) ((H5 (kP:=fun x=>.agg (A5 x)) (vP:=pI .i64) (eq:=D9) (fun _ _=>by kernel_rfl) f a.values).trans (by rw[o3];rfl)) (by decide +kernel:Kr Tryd.prog F3=true) ?_;refine Bu Cb ?_;refine C4 Z Cb (b:=true) (fun c19=>?_) (fun c19=>?_)
 .obtain rfl:=B5 h;exact B6 Z Cb ⟨[(6,.p (pI .i64 6))],[(990002,.vec A0 3 a.sounds.n (fun i=>A3 (a.sounds.g i)) true),(4,.map (A8 (fun x=>.agg (A5 x)) (pI .i64) a.values)),(3,.map (A8 PV.str (pI .i64) a.symbols)),(1,.map (A8 PV.str (pI .i64) a.number)),(0,.cells [.p (vSl 1 cS a.feats),.mref 1,.vec 990002,.mref 3,.mref 4])]⟩ [0,1,990002,3,4] (ids:=[(0,0),(1,1),(3,3),(4,4),(990002,2)]) ⟨rfl,rfl,rfl⟩
 exact Bool.noConfusion (Ce.symm.trans c19)
def J2 (N:Nat)(a:Sl Str):Option ((Option A2)×Int):= if (decide (24<((a.n:Nat):Int))) then some (none,12) else BW N (fun b (x1:Int)=>if (decide (x1<((a.n:Nat):Int))) then if ((0:Int)<=x1/\x1<((a.n:Nat):Int))then (D4 N (a.g x1.toNat) 16 (fun (u3:Int)=>G3 N u3)).bind fun y3=>if ((!y3)=false->((0:Int)<=0/\0<(((a.g x1.toNat).length:Nat):Int)))then if ((!y3)||(decide ((D6 (a.g x1.toNat) 0)<=57))) then some (none,15) else b (wrap .i64 (x1+1)) else none else none else MM N (fun c (x2:List (Str×Int)) (x3:Int)=>if (decide (x3<((a.n:Nat):Int))) then if ((0:Int)<=x3/\x3<((a.n:Nat):Int))then Cq (Q4 eqS (a.g x3.toNat) x2) (c (DR eqS (a.g x3.toNat) x3 x2) (wrap .i64 (x3+1))) fun v3=>some (none,6) else none else (B7 N a).bind fun y4=>some (some (⟨y4,x2,(Sl.nil:Sl C8),[],[]⟩:A2),0)) [] 0) 0
theorem Q1 {a:Sl Str}{y:(Option A2)×Int}(h:J2 N a=some y) :N5 S W9 [.p (vSl 1 cS a)] [] (.tup [Cq y.1 (.p Gd) fun _=>.reg 0 0,.p (pI .i64 y.2)]) (Cq y.1 [] fun o=>[(.cells [.p (vSl 1 cS o.feats),.mref 1,.vec 2,.mref 3,.mref 4]),.map (A8 PV.str (pI .i64) o.number),.vec A0 3 o.sounds.n (fun i=>A3 (o.sounds.g i)) true,.map (A8 PV.str (pI .i64) o.symbols),.map (A8 (fun x=>.agg (A5 x)) (pI .i64) o.values)]) []:=by
 unfold J2 at h;refine D8 Z Tryd.func36 ?_;refine A9 Z Cb (b:=decide (24<((a.n:Nat):Int))) (fun c1=>?_) (fun c1=>?_)
 .replace h:=itT c1 h;obtain rfl:=B5 h;exact B6 Z Cb ⟨[(3,.p (pI .i64 12)),(2,.p Gd)],[]⟩ [] (ids:=[]) ⟨rfl,rfl,rfl⟩
 replace h:=itF c1 h;refine Be Z Cb h (fun x1=>⟨[(21,.p (pI .i64 x1)),(20,.p (pI .i64 ((a.n:Nat):Int))),(19,.p (vSl 1 cS a)),(4,.reg 19000 0),(0,.p (vSl 1 cS a))],[(19000,.cells [.p LT,.mref 15000,.p LT,.mref 16000,.mref 17000]),(17000,.map (A8 (fun x=>.agg (A5 x)) (pI .i64) [])),(16000,.map (A8 PV.str (pI .i64) [])),(15000,.map (A8 PV.str (pI .i64) []))]⟩) (ids:=[(15000,15000),(16000,16000),(17000,17000),(19000,19000)]) (fun _ _ _ _ _ f x1 j h=>?_);refine A9 Z Cb (b:=decide (x1<((a.n:Nat):Int))) (fun c14=>?_) (fun c14=>?_)
 .replace h:=itT c14 h;obtain⟨c15,h⟩:=V4 h;obtain⟨y3,e3,h⟩:=D7 h;refine B2 Z [] c15 (N0 Z Y (fun e=>S3 Z Y e) e3) ?_;obtain⟨c17,h⟩:=V4 h;obtain⟨t3,c⟩:∃x:Bool,x=((!y3)||(decide ((D6 (a.g x1.toNat) 0)<=57))):=⟨_,rfl⟩;refine Dg Z Cb (F6 Z) 0 ⟨[(32,.p (.bb t3)),(21,.p (pI .i64 x1)),(20,.p (pI .i64 ((a.n:Nat):Int))),(19,.p (vSl 1 cS a)),(4,.reg 19000 0),(0,.p (vSl 1 cS a))],[(19000,.cells [.p LT,.mref 15000,.p LT,.mref 16000,.mref 17000]),(17000,.map (A8 (fun x=>.agg (A5 x)) (pI .i64) [])),(16000,.map (A8 PV.str (pI .i64) [])),(15000,.map (A8 PV.str (pI .i64) []))]⟩ (fun M3 d=>?_) ?_
  .refine C4 Z Cb (b:=!y3) (fun c18=>?_) (fun c18=>?_)
   .exact d _ [(15000,15000),(16000,16000),(17000,17000),(19000,19000)] _ Cb (by kernel_rfl) (by kernel_rfl) (klR [(0,.eq (.bb true) (.bb t3))] (al1 (by simp only[c,c18,Leaf.ok,pm,Bx,By]) al0))
   exact d _ [(15000,15000),(16000,16000),(17000,17000),(19000,19000)] _ (c17 c18) (by kernel_rfl) (by kernel_rfl) (klR [(0,.eq (.bb (decide ((D6 (a.g x1.toNat) 0)<=57))) (.bb t3))] (al1 (by simp only[c,c18,Leaf.ok,pm,Bx,By]) al0))
  subst c;refine A9 Z Cb (b:=((!y3)||(decide ((D6 (a.g x1.toNat) 0)<=57)))) (fun c19=>?_) (fun c19=>?_)
  .replace h:=itT c19 h;obtain rfl:=B5 h;exact B6 Z Cb ⟨[(3,.p (pI .i64 15)),(2,.p Gd)],[]⟩ [] (ids:=[]) ⟨rfl,rfl,rfl⟩
  replace h:=itF c19 h;exact j _ [(15000,15000),(16000,16000),(17000,17000),(19000,19000)] _ (wrap .i64 (x1+1)) Cb h
 replace h:=itF c14 h;refine Hm Z Cb h (fun x2 x3=>⟨[(36,.p (pI .i64 x3)),(35,.p (pI .i64 ((a.n:Nat):Int))),(34,.p (vSl 1 cS a)),(4,.reg 19000 0),(0,.p (vSl 1 cS a))],[(19000,.cells [.p LT,.mref 15000,.p LT,.mref 16000,.mref 17000]),(17000,.map (A8 (fun x=>.agg (A5 x)) (pI .i64) [])),(16000,.map (A8 PV.str (pI .i64) [])),(15000,.map (A8 PV.str (pI .i64) x2))]⟩) (ids:=[(15000,15000),(16000,16000),(17000,17000),(19000,19000)]) (fun _ _ _ _ _ l x2 x3 m h=>?_);refine A9 Z Cb (b:=decide (x3<((a.n:Nat):Int))) (fun c28=>?_) (fun c28=>?_)
 .replace h:=itT c28 h;obtain⟨c29,h⟩:=V4 h;rcases o3:Q4 eqS (a.g x3.toNat) x2 with _|v3
  .replace h:=JV o3 h;refine Y5 Z c29 (kt:=B1) (e:=CP) (key:=PV.str (a.g x3.toNat)) (es:=A8 PV.str (pI .i64) x2) (x:=pI .i64 0) (b:=false) (fd:=none) ((H5 (kP:=PV.str) (vP:=pI .i64) (eq:=eqS) (fun _ _=>by kernel_rfl) (a.g x3.toNat) x2).trans (by rw[o3];rfl)) Cb ?_;refine A9 Z Cb (b:=false) (fun c30=>?_) (fun c30=>?_)
   .exact Bool.noConfusion ((rfl:false=false).symm.trans c30)
   refine Gg Z Cb (kt:=B1) (key:=PV.str (a.g x3.toNat)) (y:=pI .i64 x3) (es:=A8 PV.str (pI .i64) x2) (Bo (kP:=PV.str) (vP:=pI .i64) (eq:=eqS) (fun _ _=>by kernel_rfl) (a.g x3.toNat) x3 x2) Cb ?_;exact m _ [(15000,15000),(16000,16000),(17000,17000),(19000,19000)] _ (DR eqS (a.g x3.toNat) x3 x2) (wrap .i64 (x3+1)) Cb h
  replace h:=JW o3 h;refine Y5 Z c29 (kt:=B1) (e:=CP) (key:=PV.str (a.g x3.toNat)) (es:=A8 PV.str (pI .i64) x2) (x:=pI .i64 v3) (b:=true) (fd:=some (pI .i64 v3)) ((H5 (kP:=PV.str) (vP:=pI .i64) (eq:=eqS) (fun _ _=>by kernel_rfl) (a.g x3.toNat) x2).trans (by rw[o3];rfl)) Cb ?_;refine A9 Z Cb (b:=true) (fun c31=>?_) (fun c31=>?_)
  .obtain rfl:=B5 h;exact B6 Z Cb ⟨[(3,.p (pI .i64 6)),(2,.p Gd)],[]⟩ [] (ids:=[]) ⟨rfl,rfl,rfl⟩
  exact Bool.noConfusion (Ce.symm.trans c31)
 replace h:=itF c28 h;obtain⟨y4,e4,h⟩:=D7 h;refine B2 Z [] Cb (J0 Z Y e4) ?_;obtain rfl:=B5 h;exact B6 Z Cb ⟨[(3,.p (pI .i64 0)),(2,.reg 19000 0)],[(19000,.cells [.p (vSl 1 cS y4),.mref 15000,.vec 3802,.mref 16000,.mref 17000]),(17000,.map (A8 (fun x=>.agg (A5 x)) (pI .i64) [])),(16000,.map (A8 PV.str (pI .i64) [])),(15000,.map (A8 PV.str (pI .i64) x2)),(3802,.vec A0 3 (Sl.nil:Sl C8).n (fun i=>A3 ((Sl.nil:Sl C8).g i)) true)]⟩ [19000,15000,3802,16000,17000] (ids:=[(15000,15000),(16000,16000),(17000,17000),(19000,19000)]) ⟨rfl,rfl,rfl⟩
def N1 (N:Nat)(a:A2)(c:Cf):Option (Str×Int):= (B0 N a).bind fun y1=>if (!y1) then some ([],1) else (E7 N a c).bind fun y2=>if (!y2) then some ([],14) else MM N (fun b (x1:Sl Str) (x2:Int)=>if (decide (x2<((a.feats.n:Nat):Int))) then if (((0:Int)<=x2/\x2<((a.feats.n:Nat):Int))/\(0:Int)<=x2)then if ((K8 .and .u32 (shI .shr .u32 c.Plus x2) 1)==1) then if (((([43].length+(a.feats.g x2.toNat).length:Nat):Int)<=9223372036854775807)/\((x1.n+(Sl.of [[43]++(a.feats.g x2.toNat)]:Sl Str).n)*16<=140737488355328/\x1.n+(Sl.of [[43]++(a.feats.g x2.toNat)]:Sl Str).n<=140737488355328))then b (x1.push ([43]++(a.feats.g x2.toNat))) (wrap .i64 (x2+1)) else none else if (0:Int)<=x2 then if ((K8 .and .u32 (shI .shr .u32 c.Minus x2) 1)==1) then if (((([45].length+(a.feats.g x2.toNat).length:Nat):Int)<=9223372036854775807)/\((x1.n+(Sl.of [[45]++(a.feats.g x2.toNat)]:Sl Str).n)*16<=140737488355328/\x1.n+(Sl.of [[45]++(a.feats.g x2.toNat)]:Sl Str).n<=140737488355328))then b (x1.push ([45]++(a.feats.g x2.toNat))) (wrap .i64 (x2+1)) else none else b x1 (wrap .i64 (x2+1)) else none else none else (Z4 N x1 [32]).bind fun y3=>some (y3,0)) (Sl.nil:Sl Str) 0
theorem BB {a:A2}{d:Cf}{y:Str×Int}(h:N1 N a d=some y) :N5 S T9 [.reg 0 0,.p (.agg (A5 d))] [.cells [.p (vSl 1 cS a.feats),.mref 1,.vec 2,.mref 3,.mref 4],.map (A8 PV.str (pI .i64) a.number),.vec A0 3 a.sounds.n (fun i=>A3 (a.sounds.g i)) true,.map (A8 PV.str (pI .i64) a.symbols),.map (A8 (fun x=>.agg (A5 x)) (pI .i64) a.values)] (.tup [.p (.str y.1),.p (pI .i64 y.2)]) ([.cells [.p (vSl 1 cS a.feats),.mref 1,.vec 2,.mref 3,.mref 4],.map (A8 PV.str (pI .i64) a.number),.vec A0 3 a.sounds.n (fun i=>A3 (a.sounds.g i)) true,.map (A8 PV.str (pI .i64) a.symbols),.map (A8 (fun x=>.agg (A5 x)) (pI .i64) a.values)]) [true,true,true,true,true]:=by
 unfold N1 at h;refine D8 Z Tryd.func19 ?_;obtain⟨y1,e1,h⟩:=D7 h;refine B2 Z [0,1,2,3,4] Cb (E2 Z Y e1) ?_;refine A9 Z Cb (b:=!y1) (fun c1=>?_) (fun c1=>?_)
 .replace h:=itT c1 h;obtain rfl:=B5 h;exact B6 Z Cb ⟨[(5,.p (pI .i64 1)),(4,.p (.str []))],[(4,.map (A8 (fun x=>.agg (A5 x)) (pI .i64) a.values)),(3,.map (A8 PV.str (pI .i64) a.symbols)),(2,.vec A0 3 a.sounds.n (fun i=>A3 (a.sounds.g i)) true),(1,.map (A8 PV.str (pI .i64) a.number)),(0,.cells [.p (vSl 1 cS a.feats),.mref 1,.vec 2,.mref 3,.mref 4])]⟩ [0,1,2,3,4] (ids:=[(0,0),(1,1),(2,2),(3,3),(4,4)]) ⟨rfl,rfl,rfl⟩
 replace h:=itF c1 h;obtain⟨y2,e2,h⟩:=D7 h;refine B2 Z [0,1,2,3,4] Cb (Q0 Z Y e2) ?_;refine A9 Z Cb (b:=!y2) (fun c2=>?_) (fun c2=>?_)
 .replace h:=itT c2 h;obtain rfl:=B5 h;exact B6 Z Cb ⟨[(5,.p (pI .i64 14)),(4,.p (.str []))],[(4,.map (A8 (fun x=>.agg (A5 x)) (pI .i64) a.values)),(3,.map (A8 PV.str (pI .i64) a.symbols)),(2,.vec A0 3 a.sounds.n (fun i=>A3 (a.sounds.g i)) true),(1,.map (A8 PV.str (pI .i64) a.number)),(0,.cells [.p (vSl 1 cS a.feats),.mref 1,.vec 2,.mref 3,.mref 4])]⟩ [0,1,2,3,4] (ids:=[(0,0),(1,1),(2,2),(3,3),(4,4)]) ⟨rfl,rfl,rfl⟩
 replace h:=itF c2 h;refine Hm Z Cb h (fun x1 x2=>⟨[(21,.p (pI .i64 x2)),(20,.p (pI .i64 ((a.feats.n:Nat):Int))),(19,.p (vSl 1 cS a.feats)),(6,.vec 7500),(3,.reg 4000 0)],[(7500,.vec B1 1 x1.n (fun i=>cS (x1.g i)) false),(4000,.cells [.p (pI .u32 d.Plus),.p (pI .u32 d.Minus)]),(4,.map (A8 (fun x=>.agg (A5 x)) (pI .i64) a.values)),(3,.map (A8 PV.str (pI .i64) a.symbols)),(2,.vec A0 3 a.sounds.n (fun i=>A3 (a.sounds.g i)) true),(1,.map (A8 PV.str (pI .i64) a.number)),(0,.cells [.p (vSl 1 cS a.feats),.mref 1,.vec 2,.mref 3,.mref 4])]⟩) (ids:=[(0,0),(1,1),(2,2),(3,3),(4,4),(4000,4000)]) (fun _ _ _ _ _ j x1 x2 f h=>?_);refine A9 Z Cb (b:=decide (x2<((a.feats.n:Nat):Int))) (fun c12=>?_) (fun c12=>?_)
 .replace h:=itT c12 h;obtain⟨c13,h⟩:=V4 h;refine A9 Z c13 (b:=(K8 .and .u32 (shI .shr .u32 d.Plus x2) 1)==1) (fun c14=>?_) (fun c14=>?_)
  .replace h:=itT c14 h;obtain⟨c15,h⟩:=V4 h;exact f _ [(0,0),(1,1),(2,2),(3,3),(4,4),(4000,4000),(7500,38000)] _ (x1.push ([43]++(a.feats.g x2.toNat))) (wrap .i64 (x2+1)) (QY (QY c15.1 Ce) c15.2) h (by kernel_rfl) (by kernel_rfl) (klR [(3,.fn (x1.n+1) (x1.push ([43]++(a.feats.g x2.toNat))).n (AS x1.n (fun i=>cS (x1.g i)) (S7 [.str []] [(0,cS ([43]++(a.feats.g x2.toNat)))])) (fun i=>cS ((x1.push ([43]++(a.feats.g x2.toNat))).g i)))] (al1 ⟨rfl,OV (c:=cS) (v:=x1) (x:=[43]++(a.feats.g x2.toNat)) (z:=[(.str [])]) same rfl rfl⟩ al0))
  replace h:=itF c14 h;obtain⟨c16,h⟩:=V4 h;refine A9 Z c16 (b:=(K8 .and .u32 (shI .shr .u32 d.Minus x2) 1)==1) (fun c17=>?_) (fun c17=>?_)
  .replace h:=itT c17 h;obtain⟨c18,h⟩:=V4 h;exact f _ [(0,0),(1,1),(2,2),(3,3),(4,4),(4000,4000),(7500,50000)] _ (x1.push ([45]++(a.feats.g x2.toNat))) (wrap .i64 (x2+1)) (QY (QY c18.1 Ce) c18.2) h (by kernel_rfl) (by kernel_rfl) (klR [(3,.fn (x1.n+1) (x1.push ([45]++(a.feats.g x2.toNat))).n (AS x1.n (fun i=>cS (x1.g i)) (S7 [.str []] [(0,cS ([45]++(a.feats.g x2.toNat)))])) (fun i=>cS ((x1.push ([45]++(a.feats.g x2.toNat))).g i)))] (al1 ⟨rfl,OV (c:=cS) (v:=x1) (x:=[45]++(a.feats.g x2.toNat)) (z:=[(.str [])]) same rfl rfl⟩ al0))
  replace h:=itF c17 h;exact f _ [(0,0),(1,1),(2,2),(3,3),(4,4),(4000,4000),(7500,7500)] _ x1 (wrap .i64 (x2+1)) Cb h
 replace h:=itF c12 h;obtain⟨y3,e3,h⟩:=D7 h;refine B2 Z [] Cb (EQ Z Y e3) ?_;obtain rfl:=B5 h;exact B6 Z Cb ⟨[(5,.p (pI .i64 0)),(4,.p (.str y3))],[(4,.map (A8 (fun x=>.agg (A5 x)) (pI .i64) a.values)),(3,.map (A8 PV.str (pI .i64) a.symbols)),(2,.vec A0 3 a.sounds.n (fun i=>A3 (a.sounds.g i)) true),(1,.map (A8 PV.str (pI .i64) a.number)),(0,.cells [.p (vSl 1 cS a.feats),.mref 1,.vec 2,.mref 3,.mref 4])]⟩ [0,1,2,3,4] (ids:=[(0,0),(1,1),(2,2),(3,3),(4,4)]) ⟨rfl,rfl,rfl⟩
def J6 (N:Nat)(b:A2)(a:Str):Option (Str×Bool):= (B0 N b).bind fun y1=>if (!y1) then some ([],false) else BW N (fun c (x1:Int)=>if (decide (x1<4)) then if (decide (((a.length:Nat):Int)<(wrap .i64 (4-x1)))) then c (wrap .i64 (x1+1)) else if ((0:Int)<=(wrap .i64 (4-x1))/\(wrap .i64 (4-x1))<=((a.length:Nat):Int))then Cq (Q4 eqS (a.take (wrap .i64 (4-x1)).toNat) b.symbols) (c (wrap .i64 (x1+1))) fun v3=>if (((0:Int)<=v3/\v3<((b.sounds.n:Nat):Int))/\v3.toNat<b.sounds.n)then some ((b.sounds.g v3.toNat).Symbol,true) else none else none else some ([],false)) 0
theorem AE {a:A2}{c:Str}{y:Str×Bool}(h:J6 N a c=some y) :N5 S P8 [.reg 0 0,.p (.str c)] [.cells [.p (vSl 1 cS a.feats),.mref 1,.vec 2,.mref 3,.mref 4],.map (A8 PV.str (pI .i64) a.number),.vec A0 3 a.sounds.n (fun i=>A3 (a.sounds.g i)) true,.map (A8 PV.str (pI .i64) a.symbols),.map (A8 (fun x=>.agg (A5 x)) (pI .i64) a.values)] (.tup [.p (.str y.1),.p (.bb y.2)]) ([.cells [.p (vSl 1 cS a.feats),.mref 1,.vec 2,.mref 3,.mref 4],.map (A8 PV.str (pI .i64) a.number),.vec A0 3 a.sounds.n (fun i=>A3 (a.sounds.g i)) true,.map (A8 PV.str (pI .i64) a.symbols),.map (A8 (fun x=>.agg (A5 x)) (pI .i64) a.values)]) [true,true,true,true,true]:=by
 unfold J6 at h;refine D8 Z Tryd.func28 ?_;obtain⟨y1,e1,h⟩:=D7 h;refine B2 Z [0,1,2,3,4] Cb (E2 Z Y e1) ?_;refine A9 Z Cb (b:=!y1) (fun c1=>?_) (fun c1=>?_)
 .replace h:=itT c1 h;obtain rfl:=B5 h;exact B6 Z Cb ⟨[(5,.p (.bb false)),(4,.p (.str []))],[(4,.map (A8 (fun x=>.agg (A5 x)) (pI .i64) a.values)),(3,.map (A8 PV.str (pI .i64) a.symbols)),(2,.vec A0 3 a.sounds.n (fun i=>A3 (a.sounds.g i)) true),(1,.map (A8 PV.str (pI .i64) a.number)),(0,.cells [.p (vSl 1 cS a.feats),.mref 1,.vec 2,.mref 3,.mref 4])]⟩ [0,1,2,3,4] (ids:=[(0,0),(1,1),(2,2),(3,3),(4,4)]) ⟨rfl,rfl,rfl⟩
 replace h:=itF c1 h;refine Be Z Cb h (fun x1=>⟨[(13,.p (pI .i64 x1)),(1,.p (.str c)),(0,.reg 0 0)],[(4,.map (A8 (fun x=>.agg (A5 x)) (pI .i64) a.values)),(3,.map (A8 PV.str (pI .i64) a.symbols)),(2,.vec A0 3 a.sounds.n (fun i=>A3 (a.sounds.g i)) true),(1,.map (A8 PV.str (pI .i64) a.number)),(0,.cells [.p (vSl 1 cS a.feats),.mref 1,.vec 2,.mref 3,.mref 4])]⟩) (ids:=[(0,0),(1,1),(2,2),(3,3),(4,4)]) (fun _ _ _ _ _ f x1 d h=>?_);refine A9 Z Cb (b:=decide (x1<4)) (fun c12=>?_) (fun c12=>?_)
 .replace h:=itT c12 h;refine A9 Z Cb (b:=decide (((c.length:Nat):Int)<(wrap .i64 (4-x1)))) (fun c13=>?_) (fun c13=>?_)
  .replace h:=itT c13 h;exact d _ [(0,0),(1,1),(2,2),(3,3),(4,4)] _ (wrap .i64 (x1+1)) Cb h
  replace h:=itF c13 h;refine W3 Z Cb ?_;obtain⟨c14,h⟩:=V4 h;rcases o3:Q4 eqS (c.take (wrap .i64 (4-x1)).toNat) a.symbols with _|v3
  .replace h:=JV o3 h;refine Bp c14 (kt:=B1) (e:=CP) (key:=PV.str (c.take (wrap .i64 (4-x1)).toNat)) (es:=A8 PV.str (pI .i64) a.symbols) (x:=pI .i64 0) (b:=false) (fd:=none) ((H5 (kP:=PV.str) (vP:=pI .i64) (eq:=eqS) (fun _ _=>by kernel_rfl) (c.take (wrap .i64 (4-x1)).toNat) a.symbols).trans (by rw[o3];rfl)) Cb ?_;refine Bu Cb ?_;refine A9 Z Cb (b:=false) (fun c15=>?_) (fun c15=>?_)
   .exact Bool.noConfusion ((rfl:false=false).symm.trans c15)
   exact d _ [(0,0),(1,1),(2,2),(3,3),(4,4)] _ (wrap .i64 (x1+1)) Cb h
  replace h:=JW o3 h;refine Bp c14 (kt:=B1) (e:=CP) (key:=PV.str (c.take (wrap .i64 (4-x1)).toNat)) (es:=A8 PV.str (pI .i64) a.symbols) (x:=pI .i64 v3) (b:=true) (fd:=some (pI .i64 v3)) ((H5 (kP:=PV.str) (vP:=pI .i64) (eq:=eqS) (fun _ _=>by kernel_rfl) (c.take (wrap .i64 (4-x1)).toNat) a.symbols).trans (by rw[o3];rfl)) Cb ?_;refine Bu Cb ?_;refine A9 Z Cb (b:=true) (fun c16=>?_) (fun c16=>?_)
  .obtain⟨c17,h⟩:=V4 h;obtain rfl:=B5 h;exact B6 Z c17 ⟨[(5,.p (.bb true)),(4,.p (.str (a.sounds.g v3.toNat).Symbol))],[(4,.map (A8 (fun x=>.agg (A5 x)) (pI .i64) a.values)),(3,.map (A8 PV.str (pI .i64) a.symbols)),(2,.vec A0 3 a.sounds.n (fun i=>A3 (a.sounds.g i)) true),(1,.map (A8 PV.str (pI .i64) a.number)),(0,.cells [.p (vSl 1 cS a.feats),.mref 1,.vec 2,.mref 3,.mref 4])]⟩ [0,1,2,3,4] (ids:=[(0,0),(1,1),(2,2),(3,3),(4,4)]) ⟨rfl,rfl,rfl⟩
  exact Bool.noConfusion (Ce.symm.trans c16)
 replace h:=itF c12 h;obtain rfl:=B5 h;exact B6 Z Cb ⟨[(5,.p (.bb false)),(4,.p (.str []))],[(4,.map (A8 (fun x=>.agg (A5 x)) (pI .i64) a.values)),(3,.map (A8 PV.str (pI .i64) a.symbols)),(2,.vec A0 3 a.sounds.n (fun i=>A3 (a.sounds.g i)) true),(1,.map (A8 PV.str (pI .i64) a.number)),(0,.cells [.p (vSl 1 cS a.feats),.mref 1,.vec 2,.mref 3,.mref 4])]⟩ [0,1,2,3,4] (ids:=[(0,0),(1,1),(2,2),(3,3),(4,4)]) ⟨rfl,rfl,rfl⟩
def G4 (N:Nat)(a:A2):Option Int:= (B0 N a).bind fun y1=>if (!y1) then some 0 else some ((a.sounds.n:Nat):Int)
theorem X8 {a:A2}{y:Int}(h:G4 N a=some y) :N5 S W6 [.reg 0 0] [.cells [.p (vSl 1 cS a.feats),.mref 1,.vec 2,.mref 3,.mref 4],.map (A8 PV.str (pI .i64) a.number),.vec A0 3 a.sounds.n (fun i=>A3 (a.sounds.g i)) true,.map (A8 PV.str (pI .i64) a.symbols),.map (A8 (fun x=>.agg (A5 x)) (pI .i64) a.values)] (.p (pI .i64 y)) ([.cells [.p (vSl 1 cS a.feats),.mref 1,.vec 2,.mref 3,.mref 4],.map (A8 PV.str (pI .i64) a.number),.vec A0 3 a.sounds.n (fun i=>A3 (a.sounds.g i)) true,.map (A8 PV.str (pI .i64) a.symbols),.map (A8 (fun x=>.agg (A5 x)) (pI .i64) a.values)]) [true,true,true,true,true]:=by
 unfold G4 at h;refine D8 Z Tryd.func23 ?_;obtain⟨y1,e1,h⟩:=D7 h;refine B2 Z [0,1,2,3,4] Cb (E2 Z Y e1) ?_;refine A9 Z Cb (b:=!y1) (fun c1=>?_) (fun c1=>?_)
 .replace h:=itT c1 h;obtain rfl:=B5 h;exact B6 Z Cb ⟨[(2,.p (pI .i64 0))],[(4,.map (A8 (fun x=>.agg (A5 x)) (pI .i64) a.values)),(3,.map (A8 PV.str (pI .i64) a.symbols)),(2,.vec A0 3 a.sounds.n (fun i=>A3 (a.sounds.g i)) true),(1,.map (A8 PV.str (pI .i64) a.number)),(0,.cells [.p (vSl 1 cS a.feats),.mref 1,.vec 2,.mref 3,.mref 4])]⟩ [0,1,2,3,4] (ids:=[(0,0),(1,1),(2,2),(3,3),(4,4)]) ⟨rfl,rfl,rfl⟩
 replace h:=itF c1 h;obtain rfl:=B5 h;exact B6 Z Cb ⟨[(2,.p (pI .i64 ((a.sounds.n:Nat):Int)))],[(4,.map (A8 (fun x=>.agg (A5 x)) (pI .i64) a.values)),(3,.map (A8 PV.str (pI .i64) a.symbols)),(2,.vec A0 3 a.sounds.n (fun i=>A3 (a.sounds.g i)) true),(1,.map (A8 PV.str (pI .i64) a.number)),(0,.cells [.p (vSl 1 cS a.feats),.mref 1,.vec 2,.mref 3,.mref 4])]⟩ [0,1,2,3,4] (ids:=[(0,0),(1,1),(2,2),(3,3),(4,4)]) ⟨rfl,rfl,rfl⟩
end Go.AM
