/- Part 1. -/
import Derived.CallsIn
import Derived.Laws.AppendOwn
import Derived.Laws.IdiomCopy
import Derived.Below
import Derived.Laws.Rows
import Derived.Deep.AppendSrc
set_option linter.defProp false
set_option linter.unusedSimpArgs false
set_option linter.unusedVariables false
set_option linter.unusedSectionVars false
namespace Go.AM
def Ih:=@if_false
def Hu:=@if_true
def Hc:=@absurd
def Gb:=@if_neg
def Fg:=@if_pos
def BT0:=@List.getD_eq_getElem?_getD
def BT2:=@Option.some.injEq
def BT3:=@Array.getD_eq_getD_getElem?
def BT4:=@List.getElem?_eq_getElem
def BT5:=@Bool.and_eq_true
def BT7:=@List.getElem?_map
def BT8:=@Nat.le_refl
def BT9:=@Option.getD_some
def BU0:=@List.all_eq_true
def BU1:=@List.cons_append
def BU2:=@Option.map_some
def BU4:=@Prod.mk.injEq
def BU7:=@Nat.mul_le_mul_right
def BU8:=@Nat.lt_of_lt_of_le
def BU9:=@List.map_cons
def BV0:=@Option.map_eq_some_iff
def BV1:=@List.getElem?_eq_some_iff
def BV5:=@List.length_drop
def BW3:=@List.length_cons
def BW4:=@Go.World.cell?_of_block
def BW7:=@List.length_append
def BW8:=@Nat.zero_add
def BX2:=@List.getElem?_eq_none
def BX3:=@Array.getElem?_eq_getElem
def BX7:=@Nat.le_trans
def BX8:=@Array.getElem?_toList
def BY0:=@Nat.mul_one
def BY8:=@Go.World.block_lt_of_cell?
def BZ0:=@Go.Addr.add_lit
def BZ4:=@List.size_toArray
def BZ8:=@Nat.mod_eq_of_lt
def Ca0:=@List.getElem_of_mem
def Ca1:=@Array.length_toList
def Ca2:=@Nat.min_eq_left
def Ca3:=@List.length_map
def Ca4:=@List.length_singleton
def Ca5:=@List.cons.injEq
def Cb0:=@Ne.symm
def Cb3:=@List.length_take
def Cb4:=@Nat.div_eq_of_lt
def Cb6:=@Nat.add_zero
def Cb7:=@List.getElem?_take
def Cb8:=@List.getElem?_drop
def Cc7:=@List.all_map
def Cc8:=@Nat.mul_comm
def Cc9:=@List.map_nil
def Cd1:=@Nat.zero_le
def Cd7:=@List.eq_nil_of_length_eq_zero
def Ce0:=@Array.size_eq_zero_iff
def Ce1:=@Array.getElem?_extract
def Ce2:=@Iff.rfl
def Cf0:=@Nat.add_mul
def Cf3:=@Nat.add_assoc
def Cf4:=@Nat.mul_add_mod
def Cg3:=@Nat.succ_mul
def Ch3:=@List.ext_getElem?
def Ch4:=@List.append_assoc
def Cj4:=@Nat.mul_add_div
def Cj6:=@List.getElem?_of_mem
def Cj8:=@List.getD_cons_zero
inductive PV where
 |v (x:Value)
 |bb (b:Bool)
 |str (l:List UInt8)
 |agg (cs:List PV)
 |sl (nn:Bool) (k n:Nat) (f:Nat->List PV)
 |ptr (cs:List PV)
 |iface (t:TypeId) (a:PV)
 |fn (f:FuncId) (first caps:List PV)
 deriving Inhabited
inductive AV where
 |p (x:PV)
 |reg (j off:Nat)
 |vec (j:Nat)
 |vecp (j n:Nat)
 |elt (j k i off:Nat)
 |Sc (j:Nat)
 |clo (f:FuncId) (first caps:List AV)
 |tup (l:List AV)
 |agr (cs:List AV)
 |yf (j:Nat)
 |top
 deriving Inhabited
abbrev Env:=List (Nat×AV)
inductive Obj where
 |cells (cs:List AV)
 |vec (e:TypeId) (k n:Nat) (f:Nat->List PV) (viewed:Bool)
 |map (es:List (PV×PV))
 |arr (n:Nat) (f:Nat->PV)
 |blk (l:List Nat) (jr:Nat)
 |ghost (cs:List AV)
 |yld (rest:List (List PV)) (live:Bool)
 |fam (e:TypeId) (n jr:Nat) (x:Option (Nat×AV))
 |rows (n:Nat) (g:Nat->Obj)
 |dead
 deriving Inhabited
abbrev C8:=List (Nat×Obj)
def EQ (n:Nat)(f:Nat->PV):List PV:=(List.range n).map f
def get:Env->Nat->AV
 |[],_=>.top
 |(k,a)::r,t=>if k=t then a else get r t
def A2:C8->Nat->Option Obj
 |[],_=>none
 |(k,o)::r,j=>if k=j then some o else A2 r j
def ins {α : Type}(k:Nat)(a : α):List (Nat × α)->List (Nat × α)
 |[]=>[(k,a)]
 |(i,b)::r=>if i<k then (k,a)::(i,b)::r else if i=k then (k,a)::r else (i,b)::ins k a r
def del {α : Type}(k:Nat):List (Nat × α)->List (Nat × α)
 |[]=>[]
 |(i,b)::r=>if i=k then r else (i,b)::del k r
structure St where
 env:Env
 Qg:C8
 deriving Inhabited
def Tw:Value->PV
 |.string s=>.str s.data.toList
 |x=>.v x
abbrev AV.int (k:IntKind)(n:Int):AV:=.p (.v (.int k n))
abbrev AV.bool (b:Bool):AV:=.p (.bb b)
def nP:PV->PV
 |.v (.bool b)=>.bb b
 |x=>x
inductive TK where
 |int (k:IntKind)|bool|str
 |slice (e:TypeId)|map (k e:TypeId)|arr (n:Nat) (e:TypeId)
 |struct (fs:List (Nat×TypeId))|ptr (e:TypeId)|iface (n:Nat)|other
 deriving Inhabited,DecidableEq
section
variable (P:Program)
def Yv:TypeDesc->TK
 |.int k=>.int k
 |.bool=>.bool
 |.string=>.str
 |.slice e=>.slice e
 |.map k e=>.map k e
 |.array n e=>.arr n e
 |.struct fs=>.struct (fs.toList.map λf=>(f.offset,f.type))
 |.pointer e=>.ptr e
 |.interface ms=>.iface ms.size
 |_=>.other
def tk (t:TypeId):Option TK:=(P.underlying t).map Yv
def tsz (t:TypeId):Option Nat:=(P.info? t).map (·.size)
def EZ (t:TypeId):Nat:=P.bytesOf t
def Ai1:TK->Bool
 |.struct _ | .arr _ _=>true
 |_=>false
def QI (t:TypeId):Option (List PV):=((P.info? t).bind (·.zero)).map λv=>v.cells.toList.map Tw
end
def pvK:Value->PV
 |.agg cs=>if cs.all (λc=>c.oneCell') then .agg (cs.toList.map Tw)else .v (.agg cs)
 |x=>Tw x
def aev (env:Env):Operand->AV
 |.tmp t=>get env t
 |.const v=>.p (pvK v)
 |.func f=>.clo f [] []
 |.global _=>.top
def nid (d i:Nat):Nat:=1000*(d+1)+i
def Yr:List AV->Option (List PV)
 |[]=>some []
 |.p x::r=>match Yr r with|some l=>some (x::l)|none=>none
 |_::_=>none
def mkAgg (cs:List AV):AV:=match Yr cs with|some l=>.p (.agg l)|none=>.agr cs
def cellsOf:AV->List AV
 |.p (.agg cs)=>cs.map .p
 |.agr cs=>cs
 |.p x=>[.p (nP x)]
 |a=>[a]
def CS:PV->List PV
 |.agg cs=>cs
 |x=>[nP x]
def LY:PV->Bool
 |.agg _ | .v (.agg _) | .v (.tuple _)=>false
 |_=>true
def AP5:AV->Bool
 |.p x=>LY x
 |.tup _ | .agr _ | .top=>false
 |_=>true
def Eg:AV->Bool
 |.p (.agg _) | .agr _=>true
 |a=>AP5 a
def QJ:PV->Bool
 |.agg _=>true
 |x=>LY x
def splice {α : Type}(cs:List α)(off:Nat)(new:List α):List α:=cs.take off++new++cs.drop (off+new.length)
def AE2:List AV->Option (List PV)
 |[]=>some []
 |.p x::r=>match AE2 r with
  |some l=>some (x::l)
  |none=>none
 |.clo f [] []::r=>match AE2 r with
  |some l=>some (.v (.func (.func f) #[] #[])::l)
  |none=>none
 |_=>none
def Fa (Qg:C8):AV->Option (PV×C8)
 |.p x=>some (nP x,Qg)
 |.vec j=>match A2 Qg j with
  |some (.vec e k n f _)=>some (.sl false k n f,ins j (.vec e k n f true) Qg)
  |_=>none
 |.vecp j m=>match A2 Qg j with
  |some (.vec e k n f _)=>some (.sl false k (min m n) f,ins j (.vec e k n f true) Qg)
  |_=>none
 |.clo f [] []=>some (.v (.func (.func f) #[] #[]),Qg)
 |.clo f a b=>match Yr a,Yr b with
  |some a,some b=>some (.fn f a b,Qg)
  |_,_=>none
 |.agr cs=>match AE2 cs with
  |some l=>some (.agg l,Qg)
  |none=>none
 |_=>none
def Hj (Qg:C8):List AV->Option (List PV×C8)
 |[]=>some ([],Qg)
 |a::r=>match Fa Qg a with
  |some (x,Qg)=>match Hj Qg r with
   |some (l,Qg)=>some (x::l,Qg)
   |none=>none
  |none=>none
structure Out where
 cond:List Prop
 val:AV
 Qg:C8
def E6 (op:BinOp)(k:IntKind)(x y:Int):Int:=
 let a:=BitVec.ofInt k.bits x
 let b:=BitVec.ofInt k.bits y
 k.wrap (match op with | .and=>a &&& b | .or=>a ||| b | .xor=>a ^^^ b|_=>a &&& ~~~b).toNat
def shI (op:BinOp)(k:IntKind)(x y:Int):Int:=
 match op with
 |.shl=>k.wrap (x*2 ^ (min y.toNat k.bits))
 |_=>x.fdiv (2 ^ (min y.toNat k.bits))
def Yw:PV->Option Bool
 |.bb b=>some b
 |.v (.bool b)=>some b
 |_=>none
def Ai8:TK->PV->PV->Option Bool
 |.int _,.v (.int k a),.v (.int l b)=>if k=l then some (a==b)else none
 |.bool,x,y=>match Yw x,Yw y with
  |some a,some b=>some (a==b)
  |_,_=>none
 |.str,.str a,.str b=>some (a==b)
 |_,_,_=>none
def Ax:List TK->List PV->List PV->Option Bool
 |[],[],[]=>some true
 |k::ks,x::a,y::b=>match ks with
  |[]=>match a,b with
   |[],[]=>Ai8 k x y
   |_,_=>none
  |_=>match Ai8 k x y,Ax ks a b with
   |some p,some q=>some (p&&q)
   |_,_=>none
 |_,_,_=>none
def Bf0:AV->Option Bool
 |.p (.v (.pointer none)) | .p (.v (.slice none 0 0)) | .p (.v (.map none)) | .p (.v .nilFunc) | .p (.v .nilIface)=>some true
 |.p (.ptr _) | .p (.iface _ _) | .p (.fn _ _ _) | .reg _ _ | .clo _ _ _ | .elt _ _ _ _ | .Sc _ | .yf _=>some false
 |.p (.sl true _ _ _)=>some false
 |_=>none
def Yx (op:BinOp)(k:IntKind)(a b:Int):List Prop×PV:=
 match op with
 |.add=>([],.v (.int k (k.wrap (a+b))))
 |.sub=>([],.v (.int k (k.wrap (a-b))))
 |.mul=>([],.v (.int k (k.wrap (a*b))))
 |.quo=>([b≠0],.v (.int k (k.wrap (a.tdiv b))))
 |.rem=>([b≠0],.v (.int k (a.tmod b)))
 |.eql=>([],.bb (a==b))
 |.neq=>([],.bb (a != b))
 |.lss=>([],.bb (decide (a<b)))
 |.leq=>([],.bb (decide (a<=b)))
 |.gtr=>([],.bb (decide (b<a)))
 |.geq=>([],.bb (decide (b<=a)))
 |.and=>([],.v (.int k (E6 .and k a b)))
 |.or=>([],.v (.int k (E6 .or k a b)))
 |.xor=>([],.v (.int k (E6 .xor k a b)))
 |.andNot=>([],.v (.int k (E6 .andNot k a b)))
 |.shl=>([0<=b],.v (.int k (shI .shl k a b)))
 |.shr=>([0<=b],.v (.int k (shI .shr k a b)))
def Bw3 (rec:TypeId->Option (List TK)):List Field->Nat->Option (List TK)
 |[],_=>some []
 |f::fs,off=>if f.offset≠off then none else match rec f.type with
  |some a=>match Bw3 rec fs (off+a.length)with
   |some b=>some (a++b)
   |none=>none
  |none=>none
def lay (P:Program):Nat->TypeId->Option (List TK)
 |0,_=>none
 |n+1,t=>match P.underlying t with
  |some (.int k)=>some [.int k]
  |some .bool=>some [.bool]
  |some .string=>some [.str]
  |some (.struct fs)=>match Bw3 (lay P n) fs.toList 0 with
   |some l=>if tsz P t=some l.length then some l else none
   |none=>none
  |_=>none
def AP6 (P:Program):Nat->TypeId->Bool
 |0,_=>false
 |n+1,t=>match P.underlying t with
  |some (.struct fs)=>!P.stoodInHeld t&&fs.toList.all λf=>decide (f.name ≠ "_")&&AP6 P n f.type
  |_=>true
def QK (P:Program)(t:TypeId):Bool:=AP6 P 10 t && !P.eqGuardType P.depth t
def Br6:TK->Bool
 |.int _=>true
 |.bool=>true
 |.str=>true
 |_=>false
def Yy (P:Program)(t:TypeId)(a b:PV):Option Bool:=
 match tk P t with
 |some (.arr n e)=>match tk P e,a,b with
  |some k,.agg xs,.agg ys=>if Br6 k=true/\tsz P e=some 1 then Ax (List.replicate n k) xs ys else none
  |_,_,_=>none
 |_=>none
def KP (P:Program)(t:TypeId)(a b:PV):Option Bool:=
 match tk P t with
 |some (.struct _)=>match lay P 10 t,a,b with
  |some ks,.agg xs,.agg ys=>Ax ks xs ys
  |_,_,_=>none
 |some (.arr _ _)=>Yy P t a b
 |some k=>Ai8 k a b
 |none=>none
def Ky (P:Program)(t:TypeId):List Prop:=
 match tk P t with
 |some (.struct _)=>[QK P t=true]
 |some (.arr _ _)=>[(!P.eqGuardType P.depth t)=true]
 |_=>[]
def Bw4 (P:Program)(t:TypeId)(x y:AV):Option Bool:=
 match P.underlying t with
 |some (.pointer _)=>match x,y with
  |.p (.v (.pointer none)),.p (.v (.pointer none))=>some true
  |.p (.v (.pointer none)),.p (.ptr _) | .p (.v (.pointer none)),.reg _ _ | .p (.v (.pointer none)),.elt _ _ _ _=>some false
  |.p (.ptr _),.p (.v (.pointer none)) | .reg _ _,.p (.v (.pointer none)) | .elt _ _ _ _,.p (.v (.pointer none))=>some false
  |_,_=>none
 |some (.slice _)=>match x,y with
  |.p (.v (.slice none 0 0)),.p (.v (.slice none 0 0))=>some true
  |.p (.sl true _ _ _),.p (.v (.slice none 0 0))=>some false
  |_,_=>none
 |some (.map _ _)=>match x,y with
  |.p (.v (.map none)),.p (.v (.map none))=>some true
  |.Sc _,.p (.v (.map none))=>some false
  |_,_=>none
 |some (.func _ _ _)=>match x,y with
  |.p (.v .nilFunc),.p (.v .nilFunc)=>some true
  |.clo _ _ _,.p (.v .nilFunc)=>some false
  |_,_=>none
 |some (.interface _)=>match x,y with
  |.p (.iface _ _),.p (.v .nilIface)=>some false
  |_,_=>none
 |_=>none
def eqA (P:Program)(t:TypeId)(x y:AV)(neg:Bool):Option (List Prop×PV):=
 match (match x,y with
  |.p a,.p b=>KP P t a b
  |_,_=>none:Option Bool)with
 |some r=>some (Ky P t,.bb (r != neg))
 |none=>match (match x,y with
  |.p a,.p b=>Yy P t a b
  |_,_=>none:Option Bool)with
  |some r=>some ([(!P.eqGuardType P.depth t)=true],.bb (r != neg))
  |none=>match Bw4 P t x y with
   |some b=>some ([],.v (.bool (b != neg)))
   |none=>none
def bin (P:Program)(op:BinOp)(t:TypeId)(x y:AV):Option (List Prop×PV):=
 match x,y with
 |.p (.v (.int k a)),.p (.v (.int l b))=>
  match op with
  |.shl | .shr=>some (Yx op k a b)
  |op=>if k=l then some (Yx op k a b)else none
 |x,y=>match op with
  |.add=>match x,y with
   |.p (.str a),.p (.str b)=>some ([((a.length+b.length:Nat):Int)<=9223372036854775807],.str (a++b))
   |_,_=>none
  |.eql=>eqA P t x y false
  |.neq=>eqA P t x y true
  |_=>none
def PX:AV:=.p (.v (.tuple #[]))
def un (op:UnOp)(x:AV):Option PV:=
 match op,x with
 |.not,.p (.v (.bool b))=>some (.v (.bool !b))
 |.not,.p (.bb b)=>some (.bb !b)
 |.neg,.p (.v (.int k n))=>some (.v (.int k (k.wrap (0-n))))
 |.xor,.p (.v (.int k n))=>some (.v (.int k (E6 .xor k (if k.signed then -1 else k.max) n)))
 |_,_=>none
def asInt:AV->Option Int
 |.p (.v (.int _ n))=>some n
 |_=>none
def Br7:AV->Bool
 |.p (.str _)=>false
 |_=>true
def srcK:TK->Bool
 |.slice _ | .str=>true
 |_=>false
def elems (Qg:C8)(k:Nat):AV->Option (Nat×(Nat->List PV))
 |.p (.v (.slice none 0 0))=>some (0,λ_=>[])
 |.p (.sl _ m n f)=>if m=k then some (n,f)else none
 |.p (.str l)=>if k=1 then some (l.length,λi=>[.v (.int .u8 ((l.getD i 0).toNat:Nat))])else none
 |.vec j=>match A2 Qg j with
  |some (.vec _ m n f _)=>if m=k then some (n,f)else none
  |_=>none
 |.vecp j i=>match A2 Qg j with
  |some (.vec _ m n f _)=>if m=k then some (min i n,f)else none
  |_=>none
 |_=>none
def Wm (Qg:C8)(e:TypeId)(k:Nat):AV->Option (Nat×(Nat->List PV)×Bool×C8)
 |.p (.v (.slice none 0 0))=>some (0,λ_=>[],false,Qg)
 |.vec j=>match A2 Qg j with
  |some (.vec e' m n f vw)=>if e' = e/\m=k then some (n,f,vw,ins j .dead Qg)else none
  |_=>none
 |.vecp j i=>match A2 Qg j with
  |some (.vec e' m n f false)=>if e' = e/\m=k then some (min i n,f,false,ins j .dead Qg)else none
  |_=>none
 |_=>none
def MG (Qg:C8)(e:TypeId)(m d bytes:Nat):AV->AV->Option (List Prop×AV×C8)
 |.vec j,.vec l=>match A2 Qg (nid d 0),A2 Qg j,A2 Qg l with
  |none,some (.fam e1 n jr none),some (.fam e2 1 jz (some (0,a)))=>if ((e1=e/\e2=e)/\m=1/\0<bytes)/\j≠l then
   some ([(n+1)*bytes<=140737488355328/\n+1<=140737488355328],.vec (nid d 0),ins (nid d 0) (.fam e (n+1) jr (some (n,a))) (ins l .dead (ins j .dead Qg)))else none
  |_,_,_=>none
 |_,_=>none
def famB (P:Program)(e:TypeId)(z:List PV)(m:Nat):Nat:=match z.length==m with|true=>EZ P e|false=>0
def BI5:C8->Option Nat
 |[]=>none
 |(j,.rows _ _)::_=>some j
 |_::r=>BI5 r
def MH (Qg:C8)(n:Nat):List (Nat×AV)->Option (Nat×Nat)
 |[(0,.vec j)]=>match A2 Qg j,BI5 Qg with
  |some (.vec _ _ _ _ false),some jz=>match A2 Qg jz with
   |some (.rows _ _)=>if n=1 then some (jz,j)else none
   |_=>none
  |_,_=>none
 |_=>none
def DF (n:Nat)(f g:Nat->List PV)(i:Nat):List PV:=if i<n then f i else g (i-n)
def find (cmp:PV->PV->Option Bool)(k:PV):List (PV×PV)->Option (Option PV)
 |[]=>some none
 |(a,x)::r=>match cmp k a with
  |some true=>some (some x)
  |some false=>find cmp k r
  |none=>none
def upd (cmp:PV->PV->Option Bool)(k x:PV):List (PV×PV)->Option (List (PV×PV))
 |[]=>some [(k,x)]
 |(a,y)::r=>match cmp k a with
  |some true=>some ((k,x)::r)
  |some false=>(upd cmp k x r).map ((a,y) :: ·)
  |none=>none
def GG (cmp:PV->PV->Option Bool)(k:PV):List (PV×PV)->Option (Option Nat)
 |[]=>some none
 |(a,_)::r=>match cmp k a with
  |some true=>some (some 0)
  |some false=>(GG cmp k r).map λq=>q.map (· + 1)
  |none=>none
def ent (k z:PV)(es:List (PV×PV)):Option Nat->Nat×PV×List (PV×PV)
 |none=>(es.length,z,es++[(k,z)])
 |some j=>(j,(es.getD j default).2,es.set j (k,(es.getD j default).2))
def Bw5 (es:List (PV×PV))(i:Nat)(y:PV):List (PV×PV):=es.set i ((es.getD i default).1,y)
def La:List PV->Option UInt8
 |[.v (.int .u8 n)]=>some (UInt8.ofNat n.toNat)
 |_=>none
def OU (env:Env)(GY:Nat->Option (Nat×Nat)):List (Nat×Operand)->List AV->Option (List AV)
 |[],cs=>some cs
 |(i,x)::r,cs=>
  match Eg (aev env x),GY i with
  |true,some (off,m)=>if (cellsOf (aev env x)).length=m/\off+m<=cs.length then OU env GY r (splice cs off (cellsOf (aev env x)))else none
  |_,_=>none
section
variable (P:Program)
def Wn (t:TypeId)(ps:List PV):Obj:=match tk P t with
 |some (.arr n _)=>if 8<=n/\ps.length=n then .arr n (λi=>(ps.map nP).getD i default)else .cells (ps.map .p)
 |_=>.cells (ps.map .p)
def OV (t:TypeId)(a:AV):Obj:=match a with
 |.p (.agg ps)=>Wn P t ps
 |a=>.cells (cellsOf a)
def ldA (t:TypeId)(cs:List AV):Option AV:=
 match tk P t,tsz P t with
 |some k,some n=>match Ai1 k with
  |true=>if n<=cs.length then some (mkAgg (cs.take n))else none
  |false=>cs.head?
 |_,_=>none
def ldP (t:TypeId)(cs:List PV):Option (List Prop×AV):=
 match tk P t,tsz P t with
 |some k,some n=>match Ai1 k with
  |true=>some ([n<=cs.length],.p (.agg (cs.take n)))
  |false=>match cs with
   |c::_=>some ([],.p c)
   |[]=>none
 |_,_=>none
def Lb (t:TypeId):Option PV:=
 match (P.info? t).bind (·.zero)with
 |some v=>match v with
  |.agg cs=>if (cs.toList.map Tw).all LY then some (.agg (cs.toList.map Tw))else none
  |v=>some (Tw v)
 |none=>none
def BG6 (j u jr:Nat):List AV:=[if u=0 then .p (.v (.pointer none))else .reg j 0,.vec jr]
def load (Qg:C8)(t:TypeId):AV->Option (List Prop×AV)
 |.reg j off=>match A2 Qg j with
  |some (.cells cs)=>match ldA P t (cs.drop off)with
   |some a=>some ([],a)
   |none=>none
  |some (.arr n f)=>match tk P t,tsz P t with
   |some k,some m=>match Ai1 k with
    |true=>if m=n/\off=0 then some ([],.p (.agg (EQ n f)))else none
    |false=>some ([off<n],.p (f off))
   |_,_=>none
  |some (.blk (0::_::u::_) jr)=>match ldA P t ((BG6 j u jr).drop off)with
   |some a=>some ([],a)
   |none=>none
  |_=>none
 |.p (.ptr cs)=>ldP P t cs
 |.elt j k i off=>match A2 Qg j with
  |some (.vec _ m n f _)=>if k=m then match ldP P t ((f i).drop off)with
   |some (c,a)=>some ((i<n)::c,a)
   |none=>none else none
  |some (.fam _ n _ (some (i0,x)))=>match tk P t with
   |some q=>if Ai1 q=false/\k=1/\off=0 then some ([i<n/\i=i0],x)else none
   |none=>none
  |_=>none
 |_=>none
def store (Qg:C8)(t:TypeId)(a x:AV):Option (List Prop×C8):=
 match tsz P t,Eg x with
 |some m,true=>match a with
  |.reg j off=>match A2 Qg j with
   |some (.cells cs)=>if (cellsOf x).length=m/\off+m<=cs.length then some ([],ins j (.cells (splice cs off (cellsOf x))) Qg)else none
   |some (.arr n f)=>match x with
    |.p (.agg ps)=>if m=n then some ([off=0/\ps.length=n],ins j (.arr n (λi=>ps.getD i default)) Qg)else none
    |.p y=>if m=1 then some ([off<n],ins j (.arr n (λi=>if i=off then nP y else f i)) Qg)else none
    |_=>none
   |some (.blk (0::T::u::l) _)=>match x with
    |.vec jr=>if (m=1/\off=1)/\j≠jr then some ([],ins j (.blk (0::T::u::l) jr) Qg)else none
    |_=>none
   |_=>none
  |.elt j k i off=>match A2 Qg j,x with
   |some (.vec e k' n f false),.p x=>if k=k' then some ([(CS x).length=m/\i<n/\off+m<=k],ins j (.vec e k' n (λl=>if l=i then splice (f l) off (CS x)else f l) false) Qg)else none
   |some (.fam e n jr (some (i0,_))),x=>match cellsOf x with
    |[y]=>if m=1/\k=1/\off=0 then some ([i<n/\i=i0],ins j (.fam e n jr (some (i0,y))) Qg)else none
    |_=>none
   |_,_=>none
  |_=>none
 |_,_=>none
def Br8 (t:TypeId)(f:Nat)(x:AV):Option AV:=
 match tk P t with
 |some (.struct fs)=>match fs[f]? with
  |some (off,ft)=>match tsz P ft with
   |some 0=>none
   |some _=>match x with
    |.reg j o=>some (.reg j (o+off))
    |.elt j k i o=>some (.elt j k i (o+off))
    |.p (.ptr cs)=>some (.p (.ptr (cs.drop off)))
    |_=>none
   |none=>none
  |none=>none
 |_=>none
def Br9 (t:TypeId)(f:Nat)(x:AV):Option (List Prop×AV):=
 match tk P t,x with
 |some (.struct fs),.p (.agg cs)=>match fs[f]? with
  |some (off,ft)=>ldP P ft (cs.drop off)
  |none=>none
 |some (.struct fs),.agr cs=>match fs[f]? with
  |some (off,ft)=>match ldA P ft (cs.drop off)with
   |some a=>some ([],a)
   |none=>none
  |none=>none
 |_,_=>none
def Hk (Qg:C8)(t:TypeId)(x:AV)(i:Int):Option (List Prop×AV):=
 match tk P t,x with
 |some (.arr n e),.reg j o=>match tsz P e with
  |some m=>some ([0<=i/\i<n],.reg j (o+i.toNat*m))
  |none=>none
 |some (.arr n e),.p (.ptr cs)=>match tsz P e with
  |some m=>some ([0<=i/\i<n],.p (.ptr (cs.drop (i.toNat*m))))
  |none=>none
 |some (.slice e),.p (.sl _ k n f)=>if tsz P e=some k then some ([0<=i/\i<n],.p (.ptr (f i.toNat)))else none
 |some (.slice e),.vec j=>match A2 Qg j with
  |some (.vec _ k n _ _)=>if tsz P e=some k then some ([0<=i/\i<n],.elt j k i.toNat 0)else none
  |some (.fam _ n _ _)=>if tsz P e=some 1 then some ([0<=i/\i<n],.elt j 1 i.toNat 0)else none
  |_=>none
 |some (.slice e),.vecp j m=>match A2 Qg j with
  |some (.vec _ k n _ _)=>if tsz P e=some k then some ([0<=i/\i<m/\m<=n],.elt j k i.toNat 0)else none
  |_=>none
 |_,_=>none
def Aw8:List PV->Option (List (List UInt8))
 |[]=>some []
 |.str s::r=>match Aw8 r with
  |some l=>some (s::l)
  |none=>none
 |_=>none
def Bs0 (t:TypeId)(x:AV)(i:Int):Option (List Prop×AV):=
 match tk P t,x with
 |some .str,.p (.str l)=>some ([0<=i/\i<l.length],.int .u8 ((l.getD i.toNat 0).toNat:Nat))
 |some (.arr n e),.p (.agg cs)=>match tk P e,Aw8 cs with
  |some .str,some ss=>if ss.length=n/\tsz P e=some 1 then some ([0<=i/\i<n],.p (.str (ss.getD i.toNat [])))else none
  |_,_=>match tsz P e with
   |some m=>match ldP P e (cs.drop (i.toNat*m))with
    |some (c,a)=>some ((0<=i/\i<n)::c,a)
    |none=>none
   |none=>none
 |_,_=>none
def Hl (Qg:C8)(t:TypeId)(x:AV)(lo c:Option Int):Option (List Prop×AV×C8):=
 match tk P t,x with
 |some .str,.p (.str l)=>
  match lo,c with
  |none,none=>some ([],.p (.str l),Qg)
  |some a,none=>some ([0<=a/\a<=l.length],.p (.str (l.drop a.toNat)),Qg)
  |none,some b=>some ([0<=b/\b<=l.length],.p (.str (l.take b.toNat)),Qg)
  |some a,some b=>some ([0<=a/\a<=b/\b<=l.length],.p (.str ((l.take b.toNat).drop a.toNat)),Qg)
 |some (.slice e),.p (.sl nn k n f)=>
  if tsz P e=some k then
   match lo,c with
   |none,none=>some ([],.p (.sl nn k n f),Qg)
   |some a,none=>some ([0<=a/\a<=n],.p (.sl nn k (n-a.toNat) (λi=>f (a.toNat+i))),Qg)
   |none,some b=>some ([0<=b/\b<=n],.p (.sl nn k b.toNat f),Qg)
   |some a,some b=>some ([0<=a/\a<=b/\b<=n],.p (.sl nn k (b.toNat-a.toNat) (λi=>f (a.toNat+i))),Qg)
  else none
 |some (.slice e),.p (.v (.slice none 0 0))=>match tsz P e with
  |some _=>some ([lo.getD 0=0/\c.getD 0=0],.p (.v (.slice none 0 0)),Qg)
  |none=>none
 |some (.arr n e),.p (.ptr cs)=>
  match lo,c with
  |none,some b=>if tsz P e=some 1/\cs.length=n then some ([0<=b/\b<=n],.p (.sl true 1 b.toNat (λi=>[cs.getD i default])),Qg)else none
  |none,none=>if tsz P e=some 1/\cs.length=n then some ([],.p (.sl true 1 n (λi=>[cs.getD i default])),Qg)else none
  |_,_=>none
 |some (.slice e),.vec j=>match A2 Qg j with
  |some (.vec e' k n f _)=>if tsz P e=some k/\e' = e then
   match lo,c with
   |none,none=>some ([],.vec j,Qg)
   |none,some b=>some ([0<=b/\b<=n],.vecp j b.toNat,Qg)
   |some a,none=>some ([0<=a/\a<=n],.p (.sl false k (n-a.toNat) (λi=>f (a.toNat+i))),ins j (.vec e k n f true) Qg)
   |some a,some b=>some ([0<=a/\a<=b/\b<=n],.p (.sl false k (b.toNat-a.toNat) (λi=>f (a.toNat+i))),ins j (.vec e k n f true) Qg)
   else none
  |_=>none
 |_,_=>none
def AO6 (Qg:C8)(t:TypeId)(x:AV):Option Int:=
 match tk P t,x with
 |some .str,.p (.str l)=>some l.length
 |some (.slice _),.p (.sl _ _ n _)=>some n
 |some (.slice _),.p (.v (.slice none 0 0))=>some 0
 |some (.map _ _),.p (.v (.map none))=>some 0
 |some (.slice _),.vec j=>match A2 Qg j with
  |some (.vec _ _ n _ _)=>some n
  |some (.fam _ n _ _)=>some n
  |_=>none
 |some (.slice _),.vecp _ n=>some n
 |some (.map _ _),.Sc j=>match A2 Qg j with
  |some (.map es)=>some es.length
  |_=>none
 |some (.arr n _),_=>some n
 |_,_=>none
def BI6:TK->Bool
 |.int _ | .bool | .str=>true
 |_=>false
def HQ (t:TypeId)(k:PV):Bool:=
 match tk P t with
 |some (.struct _)=>match lay P 10 t,k with
  |some ks,.agg cs=>cs.length==ks.length
  |_,_=>false
 |some (.arr n e)=>match tk P e,k with
  |some ek,.agg cs=>cs.length==n&&BI6 ek&&tsz P e==some 1
  |_,_=>false
 |some k=>BI6 k
 |none=>false
def FI (Qg:C8)(t:TypeId)(m:AV)(k:PV)(ok:Bool):Option (List Prop×AV):=
 match tk P t with
 |some (.map kt e)=>
  match (match HQ P kt k,m with
   |true,.p (.v (.map none))=>some none
   |true,.Sc j=>match A2 Qg j with
    |some (.map es)=>find (KP P kt) k es
    |_=>none
   |_,_=>none:Option (Option PV))with
  |some (some x)=>some (Ky P kt,if ok then .tup [.p x,.bool true]else .p x)
  |some none=>match Lb P e with
   |some z=>some (Ky P kt,if ok then .tup [.p z,.bool false]else .p z)
   |none=>none
  |none=>none
 |_=>none
def UE (t:TypeId)(i:Nat):Option (Nat×Nat):=
 match tk P t with
 |some (.struct fs)=>match fs[i]? with
  |some (off,ft)=>match tsz P ft with
   |some m=>some (off,m)
   |none=>none
  |none=>none
 |some (.arr _ e)=>match tsz P e with
  |some m=>some (i*m,m)
  |none=>none
 |_=>none
def AP7 (t:TypeId):Bool:=match tk P t with
 |some (.struct fs)=>fs.all λf=>(tsz P f.2).isSome
 |some (.arr _ e)=>(tsz P e).isSome
 |_=>false
def H2 (zero:List PV):List (Nat×List PV)->Nat->List PV
 |[],_=>zero
 |(j,x)::r,i=>if i=j then x else H2 zero r i
def HR (n k:Nat):List Nat->List PV->Bool
 |[],_=>true
 |i::r,x::l=>decide (i<n)&&(QJ x&&((CS x).length==k))&&(!r.contains i&&HR n k r l)
 |_::_,[]=>false
def aop (env:Env)(Qg:C8)(d:Nat)(o:Op):Option Out:=
 match o with
 |.move x=>some ⟨[],aev env x,Qg⟩
 |.assign x=>some ⟨[],aev env x,Qg⟩
 |.pick c a b=>match aev env c with
  |.p (.v (.bool true))=>some ⟨[],aev env a,Qg⟩
  |.p (.v (.bool false))=>some ⟨[],aev env b,Qg⟩
  |.p (.bb true)=>some ⟨[],aev env a,Qg⟩
  |.p (.bb false)=>some ⟨[],aev env b,Qg⟩
  |_=>none
 |.alloc t=>match A2 Qg (nid d 0),QI P t with
  |none,some z=>if z.all LY then some ⟨[],.reg (nid d 0) 0,ins (nid d 0) (Wn P t z) Qg⟩else none
  |_,_=>none
 |.box t x=>match A2 Qg (nid d 0),Eg (aev env x)with
  |none,true=>some ⟨[],.reg (nid d 0) 0,ins (nid d 0) (OV P t (aev env x)) Qg⟩
  |_,_=>none
 |.build t parts=>match QI P t with
  |some z=>match z.all LY&&AP7 P t,OU env (UE P t) parts.toList (z.map .p)with
   |true,some cs=>some ⟨[],mkAgg cs,Qg⟩
   |_,_=>none
  |none=>none
 |.buildSlice t n parts=>match MH Qg n (parts.toList.map λq=>(q.1,aev env q.2))with
  |some (jz,j)=>match tk P t,A2 Qg (nid d 0)with
   |some (.slice e),none=>match tsz P e,QI P e with
    |some 1,some z=>if z.length=1/\z.all LY then some ⟨[],.vec (nid d 0),ins (nid d 0) (.fam e 1 jz (some (0,.vec j))) Qg⟩else none
    |_,_=>none
   |_,_=>none
  |none=>match tk P t,A2 Qg (nid d 0)with
  |some (.slice e),none=>match Hj Qg (parts.toList.map λq=>aev env q.2),tsz P e,QI P e with
   |some (l,Qg),some m,some z=>if (n*m<=16777216/\n<=16777216)/\z.length=m/\z.all LY then
    some ⟨[HR n m (parts.toList.map (·.1)) l=true],.vec (nid d 0),ins (nid d 0) (.vec e m n (H2 z ((parts.toList.map (·.1)).zip (l.map CS))) false) Qg⟩
    else none
   |_,_,_=>none
  |_,_=>none
 |.load t a=>match load P Qg t (aev env a)with
  |some (c,a)=>some ⟨c,a,Qg⟩
  |none=>none
 |.store t a x=>match store P Qg t (aev env a) (aev env x)with
  |some (c,Qg)=>some ⟨c,PX,Qg⟩
  |none=>none
 |.nilCheck x=>match Bf0 (aev env x)with
  |some false=>some ⟨[],aev env x,Qg⟩
  |_=>none
 |.binOp op t x y _=>match bin P op t (aev env x) (aev env y)with
  |some (c,r)=>some ⟨c,.p r,Qg⟩
  |none=>none
 |.unOp op _ x=>match un op (aev env x)with
  |some r=>some ⟨[],.p r,Qg⟩
  |none=>none
 |.convert s t x=>match tk P s,tk P t with
  |some (.int _),some (.int k)=>match aev env x with
   |.p (.v (.int _ n))=>some ⟨[],.int k (k.wrap n),Qg⟩
   |_=>none
  |some .str,some .str=>match aev env x with
   |.p (.str l)=>some ⟨[],.p (.str l),Qg⟩
   |_=>none
  |some .str,some (.slice e)=>match aev env x,tk P e with
   |.p (.str l),some (.int .u8)=>some ⟨[],.p (.sl true 1 l.length (λi=>[.v (.int .u8 ((l.getD i 0).toNat:Nat))])),Qg⟩
   |_,_=>none
  |some (.slice e),some .str=>if tk P e=some (.int .u8)then
   match Br7 (aev env x),elems Qg 1 (aev env x)with
   |true,some (n,f)=>some ⟨[∀i,i<n->(La (f i)).isSome=true],.p (.str ((List.range n).map λi=>(La (f i)).getD 0)),Qg⟩
   |_,_=>none
   else none
  |_,_=>none
 |.makeInterface t x=>match Fa Qg (aev env x),tk P t with
  |some (x,Qg),some k=>match k with
   |.iface _=>none
   |_=>some ⟨[],.p (.iface t x),Qg⟩
  |_,_=>none
 |.makeFunc (.func f) first caps=>some ⟨[],.clo f (first.toList.map (aev env)) (caps.toList.map (aev env)),Qg⟩
 |.makeMap _ none=>match A2 Qg (nid d 0)with
  |none=>some ⟨[],.Sc (nid d 0),ins (nid d 0) (.map []) Qg⟩
  |some _=>none
 |.range t x=>match tk P t,aev env x with
  |some (.map _ _),.Sc j=>match A2 Qg j,A2 Qg (nid d 0)with
   |some (.map es),none=>some ⟨[],.reg (nid d 0) 0,ins (nid d 0) (.blk [1,es.length,es.length] j) Qg⟩
   |_,_=>none
  |_,_=>none
 |.entry x=>match aev env x with
  |.reg j 0=>match A2 Qg j with
   |some (.blk (1::_::last::seen) jm)=>match A2 Qg jm,seen with
    |some (.map es),i::_=>some ⟨[last=es.length/\i<es.length],.tup [.p (es.getD i default).1,.p (es.getD i default).2],Qg⟩
    |_,_=>none
   |_=>none
  |_=>none
 |.makeSlice t l c=>match tk P t,asInt (aev env l),asInt (aev env c),A2 Qg (nid d 0)with
  |some (.slice e),some n,some m,none=>match tsz P e,QI P e with
   |some k,some z=>if z.length=k/\z.all LY then
    some ⟨[0<=n/\n<=m/\m*EZ P e<=140737488355328/\m<=140737488355328],.vec (nid d 0),ins (nid d 0) (.vec e k n.toNat (λ_=>z) false) Qg⟩else none
   |_,_=>none
  |_,_,_,_=>none
 |.slice t x lo hi none=>
  match lo.map (λo=>asInt (aev env o)),hi.map (λo=>asInt (aev env o))with
  |none,none=>match Hl P Qg t (aev env x) none none with|some (c,a,Qg)=>some ⟨c,a,Qg⟩ | none=>none
  |some (some l),none=>match Hl P Qg t (aev env x) (some l) none with|some (c,a,Qg)=>some ⟨c,a,Qg⟩ | none=>none
  |none,some (some h)=>match Hl P Qg t (aev env x) none (some h)with|some (c,a,Qg)=>some ⟨c,a,Qg⟩ | none=>none
  |some (some l),some (some h)=>match Hl P Qg t (aev env x) (some l) (some h)with|some (c,a,Qg)=>some ⟨c,a,Qg⟩ | none=>none
  |_,_=>none
 |.fieldAddr t x f=>match Br8 P t f (aev env x)with
  |some a=>some ⟨[],a,Qg⟩
  |none=>none
 |.field t x f=>match Br9 P t f (aev env x)with
  |some (c,a)=>some ⟨c,a,Qg⟩
  |none=>none
 |.indexAddr t x i=>match asInt (aev env i)with
  |some i=>match Hk P Qg t (aev env x) i with
   |some (c,a)=>some ⟨c,a,Qg⟩
   |none=>none
  |none=>none
 |.index t x i=>match asInt (aev env i)with
  |some i=>match Bs0 P t (aev env x) i with
   |some (c,a)=>some ⟨c,a,Qg⟩
   |none=>none
  |none=>none
 |.lookup t m k ok=>match Fa Qg (aev env k)with
  |some (k,Qg)=>match FI P Qg t (aev env m) k ok with
   |some (c,a)=>some ⟨c,a,Qg⟩
   |none=>none
  |none=>none
 |.mapUpdate t m k x | .insert t m k x=>match tk P t,aev env m,aev env k with
  |some (.map kt _),.Sc j,.p k=>match Fa Qg (aev env x)with
   |some (x,Qg)=>match A2 Qg j with
    |some (.map es)=>match HQ P kt (nP k),upd (KP P kt) (nP k) x es with
     |true,some es=>some ⟨Ky P kt,PX,ins j (.map es) Qg⟩
     |_,_=>none
    |_=>none
   |none=>none
  |_,_,_=>none
 |.mapEntry t m k=>match tk P t,aev env m,aev env k with
  |some (.map kt e),.Sc j,.p k=>match A2 Qg j,Lb P e with
   |some (.map es),some z=>match HQ P kt (nP k),GG (KP P kt) (nP k) es with
    |true,some q=>some ⟨Ky P kt,.tup [.p (ent (nP k) z es q).2.1,.p (.v (.int .i64 ((ent (nP k) z es q).1:Nat)))],ins j (.map (ent (nP k) z es q).2.2) Qg⟩
    |_,_=>none
   |_,_=>none
  |_,_,_=>none
 |.entryStore _ m s x=>match aev env m,asInt (aev env s),Fa Qg (aev env x)with
  |.Sc j,some s,some (y,Qg)=>match A2 Qg j with
   |some (.map es)=>some ⟨[0<=s/\s<(es.length:Int)],PX,ins j (.map (Bw5 es s.toNat y)) Qg⟩
   |_=>none
  |_,_,_=>none
 |.extract x i=>match aev env x with
  |.tup l=>match l[i]? with
   |some a=>some ⟨[],a,Qg⟩
   |none=>none
  |_=>none
 |.call { callee:=.builtin .len,args,argTypes }=>match args.toList,argTypes.toList with
  |[x],[t]=>match AO6 P Qg t (aev env x)with
   |some n=>some ⟨[],.int .i64 n,Qg⟩
   |none=>none
  |_,_=>none
 |.call { callee:=.builtin .append,args,argTypes }=>match args.toList,argTypes.toList with
  |[s,x],[t,t2]=>match tk P t,tk P t2 with
   |some (.slice e),some k2=>match srcK k2,tsz P e,QI P e with
    |true,some m,some z=>match A2 Qg (nid d 0),elems Qg m (aev env x),Wm Qg e m (aev env s)with
     |none,some (n,g),some (l,f,vw,Qg)=>if z.length=m/\0<EZ P e then
      some ⟨[(l+n)*EZ P e<=140737488355328/\l+n<=140737488355328],.vec (nid d 0),ins (nid d 0) (.vec e m (l+n) (DF l f g) vw) Qg⟩else none
     |_,_,_=>match MG Qg e m d (famB P e z m) (aev env s) (aev env x)with
      |some (c,v,R)=>some ⟨c,v,R⟩
      |none=>none
    |_,_,_=>none
   |_,_=>none
  |_,_=>none
 |.call { callee:=.builtin .min,args,.. }=>match args.toList.map (aev env)with
  |[.p (.v (.int k a)),.p (.v (.int _ b))]=>some ⟨[],.int k (if b<a then b else a),Qg⟩
  |_=>none
 |.call { callee:=.builtin .max,args,.. }=>match args.toList.map (aev env)with
  |[.p (.v (.int k a)),.p (.v (.int _ b))]=>some ⟨[],.int k (if a<b then b else a),Qg⟩
  |_=>none
 |_=>none
end
def AP8:List AV->Option (List PV)
 |[]=>some []
 |.p x::r=>match AP8 r with
  |some l=>some (nP x::l)
  |none=>none
 |_::_=>none
def Tx (P:Program)(env:Env)(o:Op):Option (List Prop×PV):=
 match o with
 |.buildSlice t n parts=>match tk P t with
  |some (.slice e)=>match AP8 (parts.toList.map λq=>aev env q.2),tsz P e,QI P e with
   |some l,some m,some z=>if (n*m<=16777216/\n<=16777216)/\z.length=m/\z.all LY then
    some ([HR n m (parts.toList.map (·.1)) l=true],.sl true m n (H2 z ((parts.toList.map (·.1)).zip (l.map CS))))
    else none
   |_,_,_=>none
  |_=>none
 |.makeSlice t l c=>match tk P t,asInt (aev env l),asInt (aev env c)with
  |some (.slice e),some n,some m=>match tsz P e,QI P e with
   |some k,some z=>if z.length=k/\z.all LY then
    some ([0<=n/\n<=m/\m*EZ P e<=140737488355328/\m<=140737488355328],.sl true k n.toNat (λ_=>z))else none
   |_,_=>none
  |_,_,_=>none
 |_=>none
def bldE (P:Program)(t:TypeId):Option TypeId:=match P.underlying t with
 |some (.struct fs)=>match fs.toList.map (·.type)with
  |[a,b]=>match P.underlying a,P.underlying b with
   |some (.pointer t'),some (.slice e)=>if t' = t then some e else none
   |_,_=>none
  |_=>none
 |_=>none
def bop (P:Program)(Qg:C8)(d:Nat)(o:Op):Option Out:=
 match o with
 |.alloc t=>match bldE P t,QI P t,A2 Qg (nid d 0),A2 Qg (nid d 1)with
  |some e,some [.v (.pointer none),.v (.slice none 0 0)],none,none=>some ⟨[],.reg (nid d 0) 0,ins (nid d 0) (.blk [0,t,0] (nid d 1)) (ins (nid d 1) (.vec e 1 0 (λ_=>[]) false) Qg)⟩
  |_,_,_,_=>none
 |_=>none
inductive QL where
 |normal
 |exit (id:Nat)
 |goto (l:Nat)
 |ret
 |panic (x:PV)
inductive ARes where
 |ret (a:AV)
 |panic (x:PV)
def idx (ids:List Nat)(j:Nat):Option Nat:=
 match ids with
 |[]=>none
 |i::r=>if i=j then some 0 else match idx r j with
  |some n=>some (n+1)
  |none=>none
mutual
def Ys (ids:List Nat)(a:AV):Option AV:=
 match a with
 |.p x=>some (.p (nP x))
 |.reg j off=>match idx ids j with|some j=>some (.reg j off)|none=>none
 |.vec j=>match idx ids j with|some j=>some (.vec j)|none=>none
 |.vecp j n=>match idx ids j with|some j=>some (.vecp j n)|none=>none
 |.elt j k i off=>match idx ids j with|some j=>some (.elt j k i off)|none=>none
 |.Sc j=>match idx ids j with|some j=>some (.Sc j)|none=>none
 |.clo f a b=>match ES ids a,ES ids b with|some a,some b=>some (.clo f a b)|_,_=>none
 |.tup a=>match ES ids a with|some a=>some (.tup a)|none=>none
 |.agr a=>match ES ids a with|some a=>some (.agr a)|none=>none
 |.yf j=>match idx ids j with|some j=>some (.yf j)|none=>none
 |.top=>some .top
def ES (ids:List Nat)(l:List AV):Option (List AV):=
 match l with
 |[]=>some []
 |a::r=>match Ys ids a,ES ids r with
  |some a,some r=>some (a::r)
  |_,_=>none
end
mutual
def unA (ids:List Nat)(a:AV):AV:=
 match a with
 |.p x=>.p x
 |.reg j off=>.reg (ids.getD j 0) off
 |.vec j=>.vec (ids.getD j 0)
 |.vecp j n=>.vecp (ids.getD j 0) n
 |.elt j k i off=>.elt (ids.getD j 0) k i off
 |.Sc j=>.Sc (ids.getD j 0)
 |.clo f a b=>.clo f (unL ids a) (unL ids b)
 |.tup a=>.tup (unL ids a)
 |.agr a=>.agr (unL ids a)
 |.yf j=>.yf (ids.getD j 0)
 |.top=>.top
def unL (ids:List Nat)(l:List AV):List AV:=
 match l with
 |[]=>[]
 |a::r=>unA ids a::unL ids r
end
def UF (ids:List Nat):Obj->Option Obj
 |.cells cs=>match ES ids cs with|some cs=>some (.cells cs)|none=>none
 |.vec e k n f vw=>some (.vec e k n f vw)
 |.map es=>some (.map es)
 |.arr n f=>some (.arr n f)
 |.blk l jr=>match idx ids jr with|some jr=>some (.blk l jr)|none=>none
 |.ghost cs=>match ES ids cs with|some cs=>some (.ghost cs)|none=>none
 |.yld r b=>some (.yld r b)
 |.fam e n jr x=>match x,idx ids jr with|none,some jr=>some (.fam e n jr none)|_,_=>none
 |.rows n g=>some (.rows n g)
 |.dead=>some .dead
def unO (ids:List Nat):Obj->Obj
 |.cells cs=>.cells (unL ids cs)
 |.ghost cs=>.ghost (unL ids cs)
 |.blk l jr=>.blk l (ids.getD jr 0)
 |.fam e n jr x=>.fam e n (ids.getD jr 0) (match x with|none=>none|some (i,a)=>some (i,unA ids a))
 |o=>o
def N5 (ids:List Nat)(Qg:C8):List Nat->Option (List Obj)
 |[]=>some []
 |j::r=>match A2 Qg j with
  |some o=>match UF ids o,N5 ids Qg r with
   |some o,some l=>some (o::l)
   |_,_=>none
  |none=>none
def Jf (Qg:C8):List AV->Option (List AV×C8)
 |[]=>some ([],Qg)
 |a::r=>
  match (match a with | .vec _ | .vecp _ _=>(match Fa Qg a with|some (x,Qg)=>some (AV.p x,Qg)|none=>none)|a=>some (a,Qg):Option (AV×C8))with
  |some (a,Qg)=>match Jf Qg r with
   |some (l,Qg)=>some (a::l,Qg)
   |none=>none
  |none=>none
def I1:List Nat->Bool
 |[]=>true
 |a::r=>!r.contains a&&I1 r
structure W9 where
 F:FuncId->List AV->List Obj->(ARes->List Obj->List Bool->Prop)->Prop
 up:St->(St->Prop)->Prop
variable (S:W9) (P:Program)
def put (st:St)(d:Option Nat)(a:AV):St:=
 match d with
 |some d=>{ st with env:=ins d a st.env }
 |none=>st
def back (all:List Nat):List Nat->List Obj->C8->C8
 |j::ids,o::objs,Qg=>back all ids objs (ins j (unO all o) Qg)
 |_,_,Qg=>Qg
def H9 (d:Nat)(ids:List Nat)(ks:List Bool)(n:Nat):List Nat:=(List.range n).map λp=>
 match ids[p]?,ks[p]? with
 |some j,some true=>j
 |_,_=>nid d p
def K8:List Nat->List Bool->C8->C8
 |j::ids,k::ks,Qg=>if k then K8 ids ks Qg else K8 ids ks (ins j .dead Qg)
 |j::ids,[],Qg=>K8 ids [] (ins j .dead Qg)
 |[],_,Qg=>Qg
def unRes (ids:List Nat):ARes->ARes
 |.ret a=>.ret (unA ids a)
 |.panic x=>.panic x
def Z0 (Qg:C8)(ids:List Nat)(ks:List Bool)(d n:Nat):Bool:=(List.range n).all λp=>
 match ids[p]?,ks[p]? with
 |some _,some true=>true
 |_,_=>(A2 Qg (nid d p)).isNone
def GH:List Obj->Bool
 |[]=>true
 |.yld _ _::_=>false
 |_::r=>GH r
def Ai9 (d:Nat)(ids:List Nat)(f:FuncId)(args:List AV)(st:St)(K:ARes->St->Prop):Prop:= ∃args' objs,I1 ids=true/\ES ids args=some args' /\ N5 ids st.Qg ids=some objs/\GH objs=true /\ S.F f args' objs λr objs' ks=>Z0 st.Qg ids ks d objs'.length=true /\ K (unRes (H9 d ids ks objs'.length) r) { env:=st.env,Qg:=back (H9 d ids ks objs'.length) (H9 d ids ks objs'.length) objs' (K8 ids ks st.Qg) }
def Yt (env:Env)(f:Operand)(args:List AV):Option (FuncId×List AV):=
 match aev env f with
 |.clo f first caps=>some (f,first++args++caps)
 |.p (.v (.func (.func f) x y))=>match x.toList,y.toList with
  |[],[]=>some (f,args)
  |_,_=>none
 |.p (.fn f first caps)=>some (f,first.map .p++args++caps.map .p)
 |_=>none
def GZ (env:Env)(f:Operand):Option (FuncId×List AV×List AV):=
 match aev env f with
 |.clo f first caps=>some (f,first,caps)
 |.p (.v (.func (.func f) x y))=>match x.toList,y.toList with
  |[],[]=>some (f,[],[])
  |_,_=>none
 |.p (.fn f first caps)=>some (f,first.map .p,caps.map .p)
 |_=>none
def HS (ops:List Oper)(j:Nat):Nat:=match ops[j]? with
 |some o=>o.dst.getD 0
 |none=>0
def QM:AV->Option Bool
 |.p (.v (.bool b))=>some b
 |.p (.bb b)=>some b
 |_=>none
def yv:AV->Option (Option Bool)
 |.p (.v (.bool b))=>some (some b)
 |.p (.bb b)=>some (some b)
 |.p (.v (.tuple _))=>some none
 |_=>none
abbrev Df:AV:=PX
abbrev M0:=QL->St->Prop
def Lc (d:Option Nat)(k:St->Prop)(Q:M0):ARes->St->Prop
 |.ret a,st=>k (put st d a)
 |.panic x,st=>Q (.panic x) st
def E5:List Prop->Prop
 |[]=>True
 |[p]=>p
 |p::r=>E5 r/\p
def QN (p:Prop)(r:List Prop):E5 (p::r)↔E5 r/\p:=by
 cases r with
 |nil=>exact⟨λh=>⟨trivial,h⟩,λh=>h.2⟩
 |cons q s=>exact Ce2
def FJ (c d:List Prop):E5 (c++d)↔E5 d/\E5 c:=by
 induction c with
 |nil=>exact⟨λh=>⟨h,trivial⟩,λh=>h.1⟩
 |cons p c ih=>simp_all[BU1,QN,and_assoc]
def leP0 (x y:PV):Prop:= x=y \/ (∃nn k n f g,x=.sl nn k n f/\y=.sl false k n g/\∀i,i<n->f i=g i) \/ (∃k f,x=.v (.slice none 0 0)/\y=.sl false k 0 f)
def Bw6:List PV->List PV->Prop
 |[],[]=>True
 |x::r,y::s=>leP0 x y/\Bw6 r s
 |_,_=>False
def HT (j:Nat):C8->Bool
 |[]=>true
 |(i,.yld _ _)::r=>i==j&&HT j r
 |_::r=>HT j r
def Yz (P:Program)(t:TypeId)(m:String):Option FuncId:=
 match P.info? t,P.underlying t with
 |some i,some d=>match d with
  |.pointer _=>none
  |_=>match i.methods.find? (·.name==m)with
   |some q=>match q.path.toList,q.func with
    |[],some (f,false)=>some f
    |_,_=>none
   |none=>none
 |_,_=>none
def YA:Obj->Option PV
 |.vec _ k n f false=>some (.sl false k n f)
 |.ghost [.p x]=>some x
 |_=>none
def BI7 (Qg:C8)(l l' : List AV)(regs' : C8):Prop:=Jf Qg l=some (l',regs') \/ (l' = l/\regs' = Qg)
def wOp (o:Oper)(k:St->Prop)(Q:M0)(st:St):Prop:=
 match o.op with
 |.call { callee:=.value f,args,.. }=>
  (∃as Qg f' as',BI7 st.Qg (args.toList.map (aev st.env)) as Qg/\Yt st.env f as=some (f',as') /\
   ∃ids,Ai9 S (o.dst.getD 0) ids f' as' { st with Qg } (Lc o.dst k Q)) \/
  (∃j xs Qg ys rest,aev st.env f=.yf j/\Hj st.Qg (args.toList.map (aev st.env))=some (xs,Qg)/\A2 Qg j=some (.yld (ys::rest) true)/\HT j Qg=true/\Bw6 xs ys /\
   ∀b:Bool,k (put { st with Qg:=ins j (.yld (if b then rest else []) b) Qg } o.dst (.p (.bb b))))
 |.call { callee:=.invoke recv m,args,.. }=>
  ∃as Qg t y f',Jf st.Qg (args.toList.map (aev st.env))=some (as,Qg)/\aev st.env recv=.p (.iface t y)/\Yz P t m=some f' /\
   ∃ids,Ai9 S (o.dst.getD 0) ids f' (.p y::as) { st with Qg } (Lc o.dst k Q)
 |.panic x=>∃t y,aev st.env x=.p (.iface t y)/\Q (.panic (.iface t y)) st
 |.next x false=>∃j cl last seen jm es,aev st.env x=.reg j 0/\A2 st.Qg j=some (.blk (1::cl::last::seen) jm)/\A2 st.Qg jm=some (.map es)/\cl=es.length/\cl<=last /\
  ((∀i,i<es.length->i∈seen)->k (put st o.dst (.tup [.p (.bb false)]))) /\
  ∀i,i<es.length->i ∉ seen->k (put { st with Qg:=ins j (.blk (1::cl::es.length::(i::seen)) jm) st.Qg } o.dst (.tup [.p (.bb true),.p (es.getD i default).1,.p (es.getD i default).2]))
 |op=>(∃out,aop P st.env st.Qg (o.dst.getD 0) op=some out/\E5 out.cond/\k (put { st with Qg:=out.Qg } o.dst out.val)) \/
  (∃c x,Tx P st.env op=some (c,x)/\E5 c/\k (put st o.dst (.p x))) \/
  ∃out,bop P st.Qg (o.dst.getD 0) op=some out/\E5 out.cond/\k (put { st with Qg:=out.Qg } o.dst out.val)
def KQ (all:List Oper):List Oper->M0->St->Prop
 |[],Q,st=>Q .normal st
 |o::rest,Q,st0=>S.up st0 λst=>
  match o.guard with
  |none=>wOp S P o (KQ all rest Q) Q st
  |some (j,want)=>∃b,yv (get st.env (HS all j))=some b /\
   if b=some want then wOp S P o (KQ all rest Q) Q st else KQ all rest Q (put st o.dst Df)
def thn (K:St->Prop)(Q:M0):M0
 |.normal,s=>S.up s K
 |e,s=>Q e s
def blk (id:Nat)(Q:M0):M0
 |.exit i,s=>if i=id then Q .normal s else Q (.exit i) s
 |e,s=>Q e s
def lop {X:Type}(s:X->St)(J:X->Prop)(m:X->Nat)(n:Nat)(Q:M0):M0
 |.normal,t=>S.up t λt'=>∃x,t' = s x/\J x/\m x<n
 |e,t=>Q e t
def scp (Q:M0):M0
 |.goto _,_=>False
 |e,s=>Q e s
def Jc (all:List Oper)(o:Oper)(k:St->Prop)(Q:M0)(st0:St):Prop:=S.up st0 λst=>
 match o.guard with
 |none=>wOp S P o k Q st
 |some (j,want)=>∃b,yv (get st.env (HS all j))=some b /\
  if b=some want then wOp S P o k Q st else k (put st o.dst Df)
def FK (e:Edge):Bool:=Region.binds .any e
def Jg (ops:List Oper):Bool:=(List.range ops.length).all λi=>match ops[i]? with
 |some o=>o.after.toList.all λe=>!FK e||decide (e.on<i)
 |none=>true
def Aj0 (ops:List Oper)(Q:M0)(st:St):Prop:= P.follows .mixedOrders=true/\Jg ops=true/\∃Inv:(Nat->Bool)->St->Prop,Inv (λ_=>false) st /\ (∀D i s o,Inv D s->ops[i]? = some o->D i=false->(∀e∈o.after.toList,FK e=true->D e.on=true) -> Jc S P ops o (Inv λj=>if j=i then true else D j) Q s) /\ ∀D s,Inv D s->(∀i,i<ops.length->D i=true)->S.up s (Q .normal)
def Ld (n:Nat)(all:List Oper)(o:Oper):Bool:=
 (match o.dst with|some d=>Nat.blt d n|none=>true) &&
 (match o.guard with|some (j,_)=>(match all[j]? with|some o'=>o'.dst.isSome|none=>false)|none=>true)
def BL (n:Nat):Code->Bool
 |.region _ ops _=>ops.toList.all (Ld n ops.toList)
 |.seq a b | .cond _ a b=>BL n a&&BL n b
 |.rangeFunc _ ps a b=>ps.toList.all (λt=>Nat.blt t n)&&BL n a&&BL n b
 |.block _ b | .loop b | .scope b=>BL n b
 |_=>true
def AC:List Nat->List AV->Env
 |t::ts,a::l=>(t,a)::AC ts l
 |_,_=>[]
def MI:List Nat->List PV->Env->Env
 |t::ts,x::l,env=>MI ts l (ins t (.p x) env)
 |_,_,env=>env
def Ha (g:Nat)(ts:List Nat)(next:St->Prop)(Q:M0):M0
 |.normal,s=>S.up s λs=>∃cs,A2 s.Qg g=some (.ghost cs)/\cs.length=ts.length/\A2 (del g s.Qg) g=none/\next ⟨AC ts cs,del g s.Qg⟩
 |.panic _,_=>False
 |e,s=>S.up s λs=>∃cs,A2 s.Qg g=some (.ghost cs)/\cs.length=ts.length/\A2 (del g s.Qg) g=none/\Q e ⟨AC ts cs,del g s.Qg⟩
def BI8 (g:Operand)(ps:Array Tmp)(wa:M0->St->Prop)(wb:M0->St->Prop)(Q:M0)(st:St):Prop:=
 ∃(f:FuncId) (first caps as bs:List AV) (objs:List Obj) (ids ts:List Nat) (gh:Nat) (L:List (List PV)) (I:List (List PV)->St->Prop) (Fin:Bool->ARes->Prop),
  GZ st.env g=some (f,first,caps) /\
  (∃fn,P.funcs[f]? = some fn/\fn.body.isSome=true/\(fn.name == "runtime.NumGoroutine")=false)/\GH objs=true /\
  I1 ids=true/\ES ids first=some as/\ES ids caps=some bs/\N5 ids st.Qg ids=some objs/\gh<1000/\A2 st.Qg gh=none/\ids.length<1000/\ts.Nodup /\
  (∀ys∈L,ys.length=ps.size) /\
  S.up ⟨AC ts (ts.map (get st.env)),K8 ids (ids.map λ_=>false) st.Qg⟩ (λs=>s.env.map (·.1)=ts/\A2 s.Qg gh=none/\I L s) /\
  (∀ys rest s,s.env.map (·.1)=ts->A2 s.Qg gh=none->I (ys::rest) s ->
   wa (λe s'=>match e with
    |.normal=>S.up s' λs'=>wb (Ha S gh ts (I rest) Q) s'
    |_=>False) ⟨MI ps.toList ys s.env,ins gh (.ghost (s.env.map (·.2))) s.Qg⟩) /\
  (∀s r,s.env.map (·.1)=ts->A2 s.Qg gh=none->I [] s->Fin true r->match r with
   |.ret _=>Q .normal s
   |.panic x=>Q (.panic x) s) /\
  S.F f (as ++ .yf ids.length::bs) (objs++[.yld L true]) λr objs' ks=>∃b,objs'[ids.length]? = some (.yld [] b)/\ks[ids.length]? = some true/\Fin b r/\(b=false->∃a,r=.ret a)
def awp:Code->M0->St->Prop
 |.skip,Q,st=>Q .normal st
 |.label _,Q,st=>Q .normal st
 |.region _ ops draw,Q,st=>if draw then Aj0 S P ops.toList Q st else KQ S P ops.toList ops.toList Q st
 |.seq a b,Q,st=>awp a (thn S (awp b Q) Q) st
 |.cond c t e,Q,st=>∃b,QM (aev st.env c)=some b/\if b then awp t Q st else awp e Q st
 |.block id b,Q,st=>awp b (blk id Q) st
 |.loop b,Q,st=>∃(X:Type) (s:X->St) (J:X->Prop) (m:X->Nat),S.up st (λt=>∃x,t=s x/\J x)/\∀x,J x->awp b (lop S s J m (m x) Q) (s x)
 |.scope b,Q,st=>awp b (scp Q) st
 |.exit id,Q,st=>Q (.exit id) st
 |.goto l,Q,st=>Q (.goto l) st
 |.ret,Q,st=>Q .ret st
 |.rangeFunc g ps asg body,Q,st=>BI8 S P g ps (awp asg) (awp body) Q st
 |.refuse _,_,_=>False
def AP9 (st:St):ResultVar->Option AV
 |.tmp t=>some (get st.env t)
 |.cell a t=>match load P st.Qg t (get st.env a)with
  |some ([],a)=>some a
  |_=>none
def Jh (st:St):List ResultVar->Option (List AV)
 |[]=>some []
 |r::rs=>match AP9 P st r,Jh st rs with
  |some a,some l=>some (a::l)
  |_,_=>none
def one:List AV->AV
 |[a]=>a
 |l=>.tup l
def Uf (args:List AV):Env:=go 0 args []
where
 go (n:Nat):List AV->Env->Env
  |[],acc=>acc
  |a::r,acc=>go (n+1) r ((n,a)::acc)
def Qh (objs:List Obj):C8:=go 0 objs []
where
 go (n:Nat):List Obj->C8->C8
  |[],acc=>acc
  |a::r,acc=>go (n+1) r ((n,a)::acc)
def IH (n:Nat)(outs:List Nat):List Bool:=(List.range n).map λi=>outs.getD i 1000==i
def Et (n:Nat)(rs:List ResultVar)(Q:ARes->List Obj->List Bool->Prop):M0
 |.normal,st | .ret,st=>S.up st λst1=>∃l outs a objs,Jh P st1 rs=some l/\I1 outs=true/\Ys outs (one l)=some a/\N5 outs st1.Qg outs=some objs/\Q (.ret a) objs (IH n outs)
 |.panic x,st=>∃outs objs,I1 outs=true/\N5 outs st.Qg outs=some objs/\Q (.panic x) objs (IH n outs)
 |_,_=>False
def viewP (Qg:C8):AV->Option PV
 |.p x=>some x
 |.vec j=>match A2 Qg j with
  |some (.vec _ k n f _)=>some (.sl false k n f)
  |_=>none
 |.vecp j m=>match A2 Qg j with
  |some (.vec _ k n f _)=>some (.sl false k (min m n) f)
  |_=>none
 |.clo f [] []=>some (.v (.func (.func f) #[] #[]))
 |.clo f a b=>match Yr a,Yr b with
  |some a,some b=>some (.fn f a b)
  |_,_=>none
 |_=>none
def leP (x y:PV):Prop:= x=y \/ (∃nn k n f g,x=.sl nn k n f/\y=.sl false k n g/\∀i,i<n->f i=g i) \/ (∃k f,x=.v (.slice none 0 0)/\y=.sl false k 0 f) \/ (∃b,x=.v (.bool b)/\y=.bb b) \/ (∃b,x=.bb b/\y=.v (.bool b))
def lk (ids:List (Nat×Nat))(j:Nat):Option Nat:=
 match ids with
 |[]=>none
 |(a,b)::r=>if a=j then some b else lk r j
mutual
def leA (Qg:C8)(ids:List (Nat×Nat))(a b:AV):Prop:=
 match b with
 |.top=>True
 |.p y=>∃x,viewP Qg a=some x/\leP x y
 |.reg j off=>∃i,lk ids j=some i/\a=.reg i off
 |.vec j=>(∃i,lk ids j=some i/\a=.vec i) \/ (lk ids j=none/\a=.p (.v (.slice none 0 0)))
 |.vecp j n=>∃i,lk ids j=some i/\a=.vecp i n
 |.elt j k n off=>∃i,lk ids j=some i/\a=.elt i k n off
 |.Sc j=>∃i,lk ids j=some i/\a=.Sc i
 |.clo f x y=>∃x' y',a=.clo f x' y' /\ leL Qg ids x' x/\leL Qg ids y' y
 |.tup l=>∃l',a=.tup l' /\ leL Qg ids l' l
 |.agr l=>∃l',a=.agr l' /\ leL Qg ids l' l
 |.yf j=>∃i,lk ids j=some i/\a=.yf i
def leL (Qg:C8)(ids:List (Nat×Nat))(a b:List AV):Prop:=
 match b with
 |[]=>a=[]
 |y::s=>∃x r,a=x::r/\leA Qg ids x y/\leL Qg ids r s
end
def QO (Qg:C8)(ids:List (Nat×Nat))(env:Env):Env->Prop
 |[]=>True
 |(t,b)::r=>leA Qg ids (get env t) b/\QO Qg ids env r
def nov:AV->AV->Bool
 |.p _,.p _|_,.vec _|_,.Sc _|_,.top=>true
 |_,_=>false
def leO (Qg:C8)(ids:List (Nat×Nat))(o p:Obj):Prop:=
 match p with
 |.cells cs=>∃cs',o=.cells cs' /\ leL Qg ids cs' cs
 |.vec e k n f vw=>∃g vw',o=.vec e k n g vw' /\ (∀i,i<n->g i=f i)/\(vw' = true->vw=true)
 |.map es=>o=.map es
 |.arr n f=>∃g,o=.arr n g/\∀i,i<n->g i=f i
 |.blk l jr=>∃jr',o=.blk l jr' /\ lk ids jr=some jr'
 |.ghost cs=>∃cs',o=.ghost cs' /\ leL Qg ids cs' cs
 |.yld r b=>o=.yld r b
 |.fam e n jr x=>∃jr' x',o=.fam e n jr' x' /\ lk ids jr=some jr' /\ match x with
  |none=>x' = none
  |some (i,a)=>∃a',x' = some (i,a')/\nov a' a=true/\leA Qg ids a' a
 |.rows n g=>∃g',o=.rows n g' /\ ∀i,i<n->g' i=g i
 |.dead=>True
def YB (Qg:C8)(ids:List (Nat×Nat)):C8->Prop
 |[]=>True
 |(j,p)::r=>((∃i o,lk ids j=some i/\A2 Qg i=some o/\leO Qg ids o p) \/ (lk ids j=none/\∃e k f vw,p=.vec e k 0 f vw))/\YB Qg ids r
def Bf1 {α : Type}:List (Nat × α)->Bool
 |(a,_)::(b,y)::r=>b<a&&Bf1 ((b,y)::r)
 |_=>true
mutual
def inA (js:List Nat)(a:AV):Bool:=
 match a with
 |.p _ | .top=>true
 |.reg j _ | .vec j | .vecp j _ | .elt j _ _ _ | .Sc j | .yf j=>js.contains j
 |.clo _ a b=>inL js a&&inL js b
 |.tup a | .agr a=>inL js a
def inL (js:List Nat)(l:List AV):Bool:=
 match l with
 |[]=>true
 |a::r=>inA js a&&inL js r
end
def inO (js:List Nat):Obj->Bool
 |.cells cs | .ghost cs=>inL js cs
 |.fam _ _ jr x=>js.contains jr&&(match x with|some (_,a)=>inA js a|none=>true)
 |.blk _ jr=>js.contains jr
 |_=>true
def wf (st:St):Bool:= Bf1 st.env&&Bf1 st.Qg&&st.env.all (λp=>inA (st.Qg.map (·.1)) p.2)&&st.Qg.all (λp=>inO (st.Qg.map (·.1)) p.2)
mutual
def MJ (a b:AV):List Nat:=
 match b with
 |.p _=>match a with | .vec j | .vecp j _=>[j] | _=>[]
 |.clo _ x y=>match a with | .clo _ x' y'=>Ty x' x++Ty y' y|_=>[]
 |.tup l=>match a with | .tup l'=>Ty l' l|_=>[]
 |.agr l=>match a with | .agr l'=>Ty l' l|_=>[]
 |_=>[]
def Ty (a b:List AV):List Nat:=
 match b with
 |[]=>[]
 |y::s=>match a with
  |x::r=>MJ x y++Ty r s
  |[]=>[]
end
def seen (env:Env):Env->List Nat
 |[]=>[]
 |(t,b)::r=>MJ (get env t) b++seen env r
def MK (ids:List (Nat×Nat))(Qg:C8):C8->List Nat
 |[]=>[]
 |(j,.cells cs)::r=>(match lk ids j with
  |some i=>match A2 Qg i with
   |some (.cells cs')=>Ty cs' cs
   |_=>[]
  |none=>[])++MK ids Qg r
 |(j,.ghost cs)::r=>(match lk ids j with
  |some i=>match A2 Qg i with
   |some (.ghost cs')=>Ty cs' cs
   |_=>[]
  |none=>[])++MK ids Qg r
 |_::r=>MK ids Qg r
def OW (ids:List (Nat×Nat))(js:List Nat):C8->Bool
 |[]=>true
 |(j,.vec _ _ _ _ false)::r=>(match lk ids j with|some i=>!js.contains i|none=>true)&&OW ids js r
 |_::r=>OW ids js r
def AE3:List (Nat×Nat)->Bool
 |[]=>true
 |(j,i)::r=>(j==i||1000<=j)&&AE3 r
def UG (ids:List (Nat×Nat)):C8->Bool
 |[]=>true
 |(j,_)::r=>((lk ids j).isSome||1000<=j)&&UG ids r
def Le (ids:List (Nat×Nat))(s t:St):Prop:= (wf t=true/\I1 (ids.map (·.2))=true/\AE3 ids=true/\UG ids t.Qg=true/\OW ids (seen s.env t.env++MK ids s.Qg t.Qg) t.Qg=true)/\QO s.Qg ids s.env t.env/\YB s.Qg ids t.Qg
def frzA (j:Nat)(ps:List PV):AV->AV
 |.reg i o=>if i=j then .p (.ptr (ps.drop o))else .reg i o
 |a=>a
def Be6 (j:Nat)(ps:List PV):Env->Env
 |[]=>[]
 |(t,a)::r=>(t,frzA j ps a)::Be6 j ps r
def Bf2 (j n j' : Nat):AV->AV
 |.vecp i m=>if i=j/\m=n then .vec j' else .vecp i m
 |a=>a
def Bs1 (j n j' : Nat):Env->Env
 |[]=>[]
 |(t,a)::r=>(t,Bf2 j n j' a)::Bs1 j n j' r
def Bs2 (j n j' : Nat):List AV->List AV
 |[]=>[]
 |a::r=>Bf2 j n j' a::Bs2 j n j' r
def BG7 (j n j' : Nat):Obj->Obj
 |.cells cs=>.cells (Bs2 j n j' cs)
 |o=>o
def Aw9 (j n j' : Nat):C8->C8
 |[]=>[]
 |(t,o)::r=>(t,BG7 j n j' o)::Aw9 j n j' r
def Bf3 (n:Nat)(f:Nat->PV):List AV:=(List.range n).map λi=>.p (f i)
inductive leQ:PV->PV->Prop
 |p {x y:PV}(h:leP x y):leQ x y
 |sl {nn:Bool}{k n:Nat}{f g:Nat->List PV}(hl:∀i,i<n->(f i).length=(g i).length) (h:∀i j,i<n->leQ ((f i).getD j default) ((g i).getD j default)):leQ (.sl nn k n f) (.sl false k n g)
 |agg {xs ys:List PV}(hl:xs.length=ys.length) (h:∀j,leQ (xs.getD j default) (ys.getD j default)):leQ (.agg xs) (.agg ys)
def leC (l m:List PV):Prop:=l.length=m.length/\∀j,leQ (l.getD j default) (m.getD j default)
def YC:List AV->List AV->Prop
 |[],[]=>True
 |a::r,b::s=>(a=b \/ ∃x y,a=.p x/\b=.p y/\leQ x y)/\YC r s
 |_,_=>False
inductive Wo where
 |fam (j jr:Nat) (g:Nat->Obj)
 |take (j i j' : Nat)
 |over (j i:Nat)
 |put (j jr:Nat)
 |psh (j jr:Nat)
 |pub (j:Nat)
def UH (f:List PV):Obj->Prop
 |.vec _ _ 0 _ false=>f=[.v (.slice none 0 0)]
 |.ghost [.p x]=>f=[x]/\LY x=true
 |_=>False
def rowA (j' : Nat):Obj->Option (AV×Obj)
 |.vec e k n f false=>some (.vec j', .vec e k n f false)
 |.map es=>some (.Sc j', .map es)
 |.ghost [.p x]=>some (.p x,.dead)
 |_=>none
def ofA (Qg:C8):AV->Option (Option Nat×Obj)
 |.vec j'=>match A2 Qg j' with
  |some (.vec e k l f false)=>some (some j', .vec e k l f false)
  |_=>none
 |.Sc j'=>match A2 Qg j' with
  |some (.map es)=>some (some j', .map es)
  |_=>none
 |.p x=>some (none,.ghost [.p x])
 |_=>none
def Aj1 (jo:Option Nat)(Qg:C8):C8:=match jo with
 |some j=>ins j .dead Qg
 |none=>Qg
def X1 (op:Wo)(st:St):Option (List Prop×St):=
 match op with
 |.fam j jr g=>match A2 st.Qg j,A2 st.Qg jr with
  |some (.vec e 1 n f false),none=>some ([1000<=jr/\∀i,i<n->UH (f i) (g i)],⟨st.env,ins jr (.rows n g) (ins j (.fam e n jr none) st.Qg)⟩)
  |_,_=>none
 |.take j i j'=>match A2 st.Qg j,A2 st.Qg j' with
  |some (.fam e n jr none),none=>match A2 st.Qg jr with
   |some (.rows m g)=>match rowA j' (g i)with
    |some (a,o)=>some ([(1000<=j' /\ m=n)/\i<n],⟨st.env,ins j' o (ins jr (.rows n λl=>if l=i then .dead else g l) (ins j (.fam e n jr (some (i,a))) st.Qg))⟩)
    |none=>none
   |_=>none
  |_,_=>none
 |.over j i=>match A2 st.Qg j with
  |some (.fam e n jr none)=>match A2 st.Qg jr with
   |some (.rows m g)=>some ([m=n/\i<n],⟨st.env,ins jr (.rows n λl=>if l=i then .dead else g l) (ins j (.fam e n jr (some (i,.top))) st.Qg)⟩)
   |_=>none
  |_=>none
 |.put j jr'=>match A2 st.Qg j,A2 st.Qg jr' with
  |some (.fam e n jr (some (i,a))),none=>match A2 st.Qg jr,ofA st.Qg a with
   |some (.rows m g),some (jo,o)=>some ([(1000<=jr' /\ m=n)/\i<n],⟨st.env,ins jr' (.rows n λq=>if q=i then o else g q) (Aj1 jo (ins jr .dead (ins j (.fam e n jr' none) st.Qg)))⟩)
   |_,_=>none
  |_,_=>none
 |.psh j jr'=>match A2 st.Qg j,A2 st.Qg jr' with
  |some (.fam e n jr (some (i,a))),none=>match A2 st.Qg jr,ofA st.Qg a with
   |some (.rows m g),some (jo,o)=>some ([1000<=jr' /\ n=m+1/\i=m],⟨st.env,ins jr' (.rows (m+1) λq=>if q=m then o else g q) (Aj1 jo (ins jr .dead (ins j (.fam e (m+1) jr' none) st.Qg)))⟩)
   |_,_=>none
  |_,_=>none
 |.pub j=>match A2 st.Qg j with
  |some (.fam e n jr none)=>match A2 st.Qg jr with
   |some (.rows m g)=>some ([m=n/\∀i,i<n->(YA (g i)).isSome=true],⟨st.env,ins jr .dead (ins j (.vec e 1 n (λi=>[(YA (g i)).getD default]) false) st.Qg)⟩)
   |_=>none
  |_=>none
def Wp (a b:AV):Prop:=a=.top \/ a=b \/ ∃x,a=.p (.bb x)/\b=.p (.v (.bool x))
structure H6:Prop where
 refl:∀s K,K s->S.up s K
 trans:∀s K,S.up s (λt=>S.up t K)->S.up s K
 mono:∀s K K',(∀t,K t->K' t)->S.up s K->S.up s K'
 bool:∀(st:St) (t:Nat) (b:Bool) K,get st.env t=.p (.bb b)->K ⟨ins t (.p (.v (.bool b))) st.env,st.Qg⟩->S.up st K
 nil:∀(st:St) (t:Nat) (k n:Nat) (f:Nat->List PV) K,get st.env t=.p (.sl false k n f) ->
  (n=0->K ⟨ins t (.p (.v (.slice none 0 0))) st.env,st.Qg⟩)->K ⟨ins t (.p (.sl true k n f)) st.env,st.Qg⟩->S.up st K
 frz:∀(st:St) (j:Nat) (ps:List PV) K,A2 st.Qg j=some (.cells (ps.map .p))->K ⟨Be6 j ps st.env,ins j .dead st.Qg⟩->S.up st K
 trunc:∀(st:St) (j j' n N k:Nat) (e:TypeId) (f:Nat->List PV) K,A2 st.Qg j=some (.vec e k N f false)->n<=N->A2 st.Qg j' = none->1000<=j' -> K ⟨Bs1 j n j' st.env,ins j' (.vec e k n f false) (ins j .dead (Aw9 j n j' st.Qg))⟩->S.up st K
 toArr:∀(st:St) (j n:Nat) (f:Nat->PV) K,A2 st.Qg j=some (.cells (Bf3 n f))->K ⟨st.env,ins j (.arr n f) st.Qg⟩->S.up st K
 ofArr:∀(st:St) (j n:Nat) (f:Nat->PV) K,A2 st.Qg j=some (.arr n f)->K ⟨st.env,ins j (.cells (Bf3 n f)) st.Qg⟩->S.up st K
 pq:∀(st:St) (t:Nat) (x y:PV) K,get st.env t=.p x->leQ x y->K ⟨ins t (.p y) st.env,st.Qg⟩->S.up st K
 vecq:∀(st:St) (j n k:Nat) (e:TypeId) (f g:Nat->List PV) (vw:Bool) K,A2 st.Qg j=some (.vec e k n f vw)->(∀i,i<n->leC (f i) (g i))->K ⟨st.env,ins j (.vec e k n g vw) st.Qg⟩->S.up st K
 le:∀ids s t K,Le ids s t->K t->S.up s K
 fam:∀(op:Wo) (s t:St) (c:List Prop) K,X1 op s=some (c,t)->E5 c->K t->S.up s K
 less:∀(s t:St) K,(∀x,Wp (get t.env x) (get s.env x))->(∀j,A2 s.Qg j=A2 t.Qg j)->K t->S.up s K
 eqv:∀(s t:St) K,(∀x,get s.env x=get t.env x)->(∀j,A2 s.Qg j=A2 t.Qg j)->K t->S.up s K
 func:∀f fn code args objs Q,P.funcs[f]? = some fn->fn.body=some code->(fn.name == "runtime.NumGoroutine")=false->BL fn.ntmps code=true->args.length<=fn.ntmps->objs.length<1000 ->
  S.up { env:=Uf args,Qg:=Qh objs } (awp S P code (Et S P objs.length fn.results.toList Q))->S.F f args objs Q
 argLe:∀f args args' objs Q,YC args args' -> S.F f args' objs Q->S.F f args objs Q
 monoF:∀f args objs Q Q',(∀r o y,Q r o y->Q' r o y)->S.F f args objs Q->S.F f args objs Q'
end Go.AM
namespace Go.AM
universe u
def fC {R:Type u}(c:List Prop)(d:List Prop)(κ : List Prop->R):R:=
 match c with
 |[]=>κ d
 |p::r=>fC r d λd=>κ (p::d)
def BI9 {R:Type u}(c d:List Prop)(κ : List Prop->R):fC c d κ = κ (c++d):=by
 induction c generalizing κ with
 |nil=>rfl
 |cons p r ih=>simp only[fC,ih,BU1]
def fP {R:Type u}(x:PV)(κ : PV->R):R:=
 match x with
 |.v x=>match x with
  |.bool b=>κ (.v (.bool b))
  |.int k n=>κ (.v (.int k n))
  |x=>κ (.v x)
 |.bb b=>κ (.bb b)
 |.str l=>κ (.str l)
 |.agg cs=>κ (.agg cs)
 |.sl nn k n f=>κ (.sl nn k n f)
 |.ptr cs=>κ (.ptr cs)
 |.iface t a=>κ (.iface t a)
 |.fn f a b=>κ (.fn f a b)
mutual
def fA {R:Type u}(a:AV)(κ : AV->R):R:=
 match a with
 |.p x=>fP x λx=>κ (.p x)
 |.reg j off=>κ (.reg j off)
 |.vec j=>κ (.vec j)
 |.vecp j n=>κ (.vecp j n)
 |.elt j k i off=>κ (.elt j k i off)
 |.Sc j=>κ (.Sc j)
 |.clo f a b=>fL a λa=>fL b λb=>κ (.clo f a b)
 |.tup l=>fL l λl=>κ (.tup l)
 |.agr l=>fL l λl=>κ (.agr l)
 |.yf j=>κ (.yf j)
 |.top=>κ .top
def fL {R:Type u}(l:List AV)(κ : List AV->R):R:=
 match l with
 |[]=>κ []
 |a::r=>fA a λa=>fL r λr=>κ (a::r)
end
def fO {R:Type u}(o:Obj)(κ : Obj->R):R:=
 match o with
 |.cells cs=>fL cs λcs=>κ (.cells cs)
 |.vec e k n f vw=>κ (.vec e k n f vw)
 |.map es=>κ (.map es)
 |.arr n f=>κ (.arr n f)
 |.blk l jr=>κ (.blk l jr)
 |.ghost cs=>fL cs λcs=>κ (.ghost cs)
 |.yld r b=>κ (.yld r b)
 |.fam e n jr x=>match x with
  |none=>κ (.fam e n jr none)
  |some (i,a)=>fA a λa=>κ (.fam e n jr (some (i,a)))
 |.rows n g=>κ (.rows n g)
 |.dead=>κ .dead
def fR {R:Type u}(l:C8)(κ : C8->R):R:=
 match l with
 |[]=>κ []
 |(j,o)::r=>fO o λo=>fR r λr=>κ ((j,o)::r)
def fE {R:Type u}(l:Env)(κ : Env->R):R:=
 match l with
 |[]=>κ []
 |(j,o)::r=>fA o λo=>fE r λr=>κ ((j,o)::r)
def AQ0 {α : Type}{R:Type u}(k:Nat)(a : α)(l:List (Nat × α))(κ : List (Nat × α)->R):R:=
 match l with
 |[]=>κ [(k,a)]
 |(i,b)::r=>if i<k then κ ((k,a)::(i,b)::r)else if i=k then κ ((k,a)::r)else AQ0 k a r λr=>κ ((i,b)::r)
def fP_eq {R:Type u}(x:PV)(κ : PV->R):fP x κ = κ x:=by
 cases x<;>try rfl
 rename_i x;cases x<;>rfl
mutual
def AE4 {R:Type u}(a:AV)(κ : AV->R):fA a κ = κ a:=by cases a<;>simp only[fA,fP_eq,Bw7]
def Bw7 {R:Type u}(l:List AV)(κ : List AV->R):fL l κ = κ l:=by
 cases l with
 |nil=>rfl
 |cons a r=>simp only[fL,AE4 a,Bw7 r]
end
def fO_eq {R:Type u}(o:Obj)(κ : Obj->R):fO o κ = κ o:=by
 cases o<;>simp only[fO,Bw7];rename_i x;rcases x with _|⟨i,a⟩
 .rfl
 simp only[AE4]
theorem Bw8 {R:Type u}(l:C8)(κ : C8->R):fR l κ = κ l:=by
 induction l generalizing κ with
 |nil=>rfl
 |cons a r ih=>simp only[fR,fO_eq,ih]
theorem fE_eq {R:Type u}(l:Env)(κ : Env->R):fE l κ = κ l:=by
 induction l generalizing κ with
 |nil=>rfl
 |cons a r ih=>simp only[fE,AE4,ih]
def LZ {α : Type}{R:Type u}(k:Nat)(a : α)(l:List (Nat × α))(κ : List (Nat × α)->R):AQ0 k a l κ = κ (ins k a l):=by
 induction l generalizing κ with
 |nil=>rfl
 |cons p r ih=>simp only[AQ0,ins];split;rfl;split;rfl;rw[ih]
def Bw9:AV->Option Bool
 |.p (.v (.bool b))=>some b
 |_=>none
def UI {a:AV}{b:Bool}(h:Bw9 a=some b):QM a=some b:=by
 unfold Bw9 at h;split at h
 .simpa[QM]using h
 cases h
def YD (want:Bool):AV->Option Bool
 |.p (.v (.bool true))=>some want
 |.p (.v (.bool false))=>some (!want)
 |.p (.v (.tuple _))=>some false
 |_=>none
def YE {want b:Bool}{a:AV}(h:YD want a=some b):∃v,yv a=some v/\(b=true↔v=some want):=by
 unfold YD at h;split at h
 .cases h;exact⟨_,rfl,by cases want<;>simp⟩
 .cases h;exact⟨_,rfl,by cases want<;>simp⟩
 .cases h;exact⟨_,rfl,by simp⟩
 cases h
inductive It:Type 1 where
 |code (c:Code)
 |blk (id:Nat)
 |lp (X:Type) (s:X->St) (J:X->Prop) (m:X->Nat) (n:Nat)
 |mid (M:St->Prop)
 |scp
section
variable (S:W9) (P:Program)
def kp:List It->M0->M0
 |[],F=>F
 |.code c::K,F=>thn S (awp S P c (kp K F)) (kp K F)
 |.blk id::K,F=>blk id (kp K F)
 |.lp _ s J m n::K,F=>lop S s J m n (kp K F)
 |.mid M::K,F=>thn S M (kp K F)
 |.scp::K,F=>scp (kp K F)
inductive Cfg:Type 1 where
 |code (c:Code) (K:List It) (st:St)
 |ops (all rest:List Oper) (K:List It) (st:St)
 |pop (e:QL) (K:List It) (st:St)
def G (F:M0):Cfg->Prop
 |.code c K st=>awp S P c (kp S P K F) st
 |.ops all rest K st=>KQ S P all rest (kp S P K F) st
 |.pop e K st=>kp S P K F e st
structure Res:Type 1 where
 conds:List Prop
 cfg:Cfg
def Bf4:Op->Bool
 |.lookup .. | .mapUpdate .. | .mapEntry .. | .entryStore .. | .panic _ | .next ..=>false
 |.call { callee:=.builtin _,.. }=>true
 |.call _=>false
 |_=>true
def isAt:Option Nat->Option Nat->Bool
 |some d,some e=>Nat.beq d e
 |_,_=>false
def Bf5 (P:Program)(u:Option Nat)(all:List Oper)(K:List It):List Oper->List Prop->Env->C8->(List Prop->St->Res)->Res
 |[],c,env,Qg,κ=>κ c ⟨env,Qg⟩
 |o::rest,c,env,Qg,κ=>
  match isAt u o.dst with
  |true=>⟨c,.ops all (o::rest) K ⟨env,Qg⟩⟩
  |false=>match (match o.guard with
   |none=>some true
   |some (j,want)=>YD want (get env (HS all j)):Option Bool)with
  |some true=>match Bf4 o.op with
   |true=>match aop P env Qg (o.dst.getD 0) o.op with
    |none=>⟨c,.ops all (o::rest) K ⟨env,Qg⟩⟩
    |some ⟨p,v,regs'⟩=>fA v λv=>fR regs' λregs'=>fC p c λc=>
     match o.dst with
     |some d=>AQ0 d v env λenv=>Bf5 P u all K rest c env regs' κ
     |none=>Bf5 P u all K rest c env regs' κ
   |false=>⟨c,.ops all (o::rest) K ⟨env,Qg⟩⟩
  |some false=>match o.dst with
   |some d=>AQ0 d Df env λenv=>Bf5 P u all K rest c env Qg κ
   |none=>Bf5 P u all K rest c env Qg κ
  |none=>⟨c,.ops all (o::rest) K ⟨env,Qg⟩⟩
def run (P:Program)(u:Option Nat):Nat->List Prop->Cfg->Res
 |0,c,g=>⟨c,g⟩
 |n+1,c,g=>
  match g with
  |.code x K st=>match x with
   |.skip=>run P u n c (.pop .normal K st)
   |.label _=>run P u n c (.pop .normal K st)
   |.region _ ops false=>Bf5 P u ops.toList K ops.toList c st.env st.Qg λc st=>run P u n c (.pop .normal K st)
   |.seq a b=>run P u n c (.code a (.code b::K) st)
   |.cond o t e=>match Bw9 (aev st.env o)with
    |some true=>run P u n c (.code t K st)
    |some false=>run P u n c (.code e K st)
    |none=>⟨c,.code (.cond o t e) K st⟩
   |.block id b=>run P u n c (.code b (.blk id::K) st)
   |.scope b=>run P u n c (.code b (.scp::K) st)
   |.exit id=>run P u n c (.pop (.exit id) K st)
   |.ret=>run P u n c (.pop .ret K st)
   |x=>⟨c,.code x K st⟩
  |.ops all rest K st=>Bf5 P u all K rest c st.env st.Qg λc st=>run P u n c (.pop .normal K st)
  |.pop e K st=>match e,K with
   |.normal,.code x::K=>run P u n c (.code x K st)
   |.normal,.blk _::K=>run P u n c (.pop .normal K st)
   |.normal,.scp::K=>run P u n c (.pop .normal K st)
   |.exit i,.blk id::K=>if i=id then run P u n c (.pop .normal K st)else run P u n c (.pop (.exit i) K st)
   |.exit i,.code _::K=>run P u n c (.pop (.exit i) K st)
   |.exit i,.lp _ _ _ _ _::K=>run P u n c (.pop (.exit i) K st)
   |.exit i,.mid _::K=>run P u n c (.pop (.exit i) K st)
   |.exit i,.scp::K=>run P u n c (.pop (.exit i) K st)
   |.ret,_::K=>run P u n c (.pop .ret K st)
   |.panic x,_::K=>run P u n c (.pop (.panic x) K st)
   |e,K=>⟨c,.pop e K st⟩
end
section
variable {S:W9}{P:Program}{F:M0}
def Qv {o:Oper}{k:St->Prop}{Q:M0}{st:St}{p:List Prop}{v:AV}{regs' : C8}(ha:Bf4 o.op=true)
 (h:aop P st.env st.Qg (o.dst.getD 0) o.op=some ⟨p,v,regs'⟩) (hp:E5 p) (hk:k (put { st with Qg:=regs' } o.dst v)):wOp S P o k Q st:=by
 unfold wOp;split
 .rename_i f args types a;rw[a]at ha;simp[Bf4]at ha
 .rename_i r m args types a;rw[a]at ha;simp[Bf4]at ha
 .rename_i x a;rw[a]at ha;simp[Bf4]at ha
 .rename_i x a;rw[a]at ha;simp[Bf4]at ha
 exact .inl ⟨_,h,hp,hk⟩
def AQ1 {u:Option Nat}(hS:H6 S P)(all:List Oper)(K:List It)(κ : List Prop->St->Res)
 (hκ : ∀c st,E5 (κ c st).conds->E5 c/\(G S P F (κ c st).cfg->kp S P K F .normal st)) :
 ∀(rest:List Oper) (c:List Prop) (env:Env) (Qg:C8),E5 (Bf5 P u all K rest c env Qg κ).conds ->
  E5 c/\(G S P F (Bf5 P u all K rest c env Qg κ).cfg->KQ S P all rest (kp S P K F) ⟨env,Qg⟩):=by
 intro rest
 induction rest with
 |nil=>intro c env Qg h;exact hκ _ _ h
 |cons o rest ih=>
  intro c env Qg h;simp only[Bf5]at h⊢;cases n:isAt u o.dst with
  |true=>simp only[n]at h⊢;exact⟨h,λhw=>hw⟩
  |false=>
  simp only[n]at h⊢;have g:∀(b:Bool),(match o.guard with
   |none=>some true
   |some (j,want)=>YD want (get env (HS all j)):Option Bool)=some b ->
    ((b=true->wOp S P o (KQ S P all rest (kp S P K F)) (kp S P K F) ⟨env,Qg⟩->KQ S P all (o::rest) (kp S P K F) ⟨env,Qg⟩) /\
     (b=false->KQ S P all rest (kp S P K F) (put ⟨env,Qg⟩ o.dst Df)->KQ S P all (o::rest) (kp S P K F) ⟨env,Qg⟩)):=by
   intro b hb;cases a:o.guard with
   |none=>simp only[a]at hb;cases hb;exact⟨λ_ hw=>by simp only[KQ];refine hS.refl _ _ ?_;simp only[a];exact hw,λh=>by cases h⟩
   |some q=>
    obtain⟨j,want⟩:=q;simp only[a]at hb;obtain⟨v,r,m⟩:=YE hb;refine⟨λht hw=>?_,λs hw=>?_⟩
    .simp only[KQ];refine hS.refl _ _ ?_;simp only[a];exact⟨v,r,by rw[Fg (m.1 ht)];exact hw⟩
    simp only[KQ];refine hS.refl _ _ ?_;simp only[a];exact⟨v,r,by rw[Gb (λe=>by have:=m.2 e;rw[s]at this;cases this)];exact hw⟩
  split at h
  .rename_i hb;have g:=(g true (by simpa using hb)).1 rfl
   try simp only[hb]
   split at h
   .rename_i ha
    try simp only[ha]
    split at h
    .rename_i hn
     try simp only[hn]
     exact⟨h,λhw=>hw⟩
    rename_i p v regs' hs;simp only[AE4,Bw8,BI9]at h⊢;cases f:o.dst with
    |some d=>simp only[f,LZ]at h⊢;obtain⟨i,hk⟩:=ih _ _ _ h;obtain⟨hc,hp⟩:=(FJ _ _).1 i;refine⟨hc,λl=>g (Qv ha hs hp ?_)⟩;rw[f];exact hk l
    |none=>simp only[f]at h⊢;obtain⟨i,hk⟩:=ih _ _ _ h;obtain⟨hc,hp⟩:=(FJ _ _).1 i;refine⟨hc,λl=>g (Qv ha hs hp ?_)⟩;rw[f];exact hk l
   rename_i ha
   try simp only[ha]
   exact⟨h,λhw=>hw⟩
  .rename_i hb;have g:=(g false (by simpa using hb)).2 rfl
   try simp only[hb]
   cases f:o.dst with
   |some d=>simp only[f,LZ]at h⊢;obtain⟨hc,hk⟩:=ih _ _ _ h;exact⟨hc,λl=>g (by rw[f];exact hk l)⟩
   |none=>simp only[f]at h⊢;obtain⟨hc,hk⟩:=ih _ _ _ h;exact⟨hc,λl=>g (by rw[f];exact hk l)⟩
  rename_i hb
  try simp only[hb]
  exact⟨h,λhw=>hw⟩
def HU {u:Option Nat}(hS:H6 S P):∀(n:Nat) (c:List Prop) (g:Cfg),E5 (run P u n c g).conds->E5 c/\(G S P F (run P u n c g).cfg->G S P F g):=by
 intro n
 induction n with
 |zero=>intro c g h;exact⟨h,λhw=>hw⟩
 |succ n ih=>
  intro c g h;simp only[run]at h⊢;cases g with
  |code x K st=>
   cases x with
   |skip=>exact ih _ _ h
   |label l=>exact ih _ _ h
   |region id ops draw=>
    cases draw with
    |false=>obtain⟨hc,hk⟩:=AQ1 (S:=S) (F:=F) hS ops.toList K _ (λc st h=>ih c (.pop .normal K st) h) _ _ _ _ h;exact⟨hc,λd=>by simp only[G,awp];exact hk d⟩
    |true=>exact⟨h,λhw=>hw⟩
   |seq a b=>exact ih _ _ h
   |cond o t e=>
    simp only at h⊢;split at h
    .rename_i f;try simp only[f]
     obtain⟨hc,hk⟩:=ih _ _ h;exact⟨hc,λd=>⟨true,UI f,hk d⟩⟩
    .rename_i f;try simp only[f]
     obtain⟨hc,hk⟩:=ih _ _ h;exact⟨hc,λd=>⟨false,UI f,hk d⟩⟩
    exact⟨h,λd=>d⟩
   |block id b=>exact ih _ _ h
   |scope b=>exact ih _ _ h
   |exit id=>exact ih _ _ h
   |ret=>exact ih _ _ h
   |loop b=>exact⟨h,λhw=>hw⟩
   |goto l=>exact⟨h,λhw=>hw⟩
   |rangeFunc g ps asg body=>exact⟨h,λhw=>hw⟩
   |refuse w=>exact⟨h,λhw=>hw⟩
  |ops all rest K st=>exact AQ1 (S:=S) (F:=F) hS all K _ (λc st h=>ih c (.pop .normal K st) h) _ _ _ _ h
  |pop e K st=>
   cases e with
   |normal=>
    cases K with
    |nil=>exact⟨h,λhw=>hw⟩
    |cons i K=>
     cases i with
     |code x=>obtain⟨hc,hk⟩:=ih _ _ h;exact⟨hc,λd=>hS.refl _ _ (hk d)⟩
     |blk id=>exact ih _ _ h
     |lp X s J m k=>exact⟨h,λhw=>hw⟩
     |mid M=>exact⟨h,λhw=>hw⟩
     |scp=>exact ih _ _ h
   |exit j=>
    cases K with
    |nil=>exact⟨h,λhw=>hw⟩
    |cons i K=>
     cases i with
     |code x=>exact ih _ _ h
     |blk id=>
      simp only at h⊢;by_cases q:j=id
      .simp only[q,Hu]at h⊢;obtain⟨hc,hk⟩:=ih _ _ h;exact⟨hc,λd=>by simp only[G,kp,blk,Hu];exact hk d⟩
      simp only[q,Ih]at h⊢;obtain⟨hc,hk⟩:=ih _ _ h;exact⟨hc,λd=>by simp only[G,kp,blk,q,Ih];exact hk d⟩
     |lp X s J m k=>exact ih _ _ h
     |mid M=>exact ih _ _ h
     |scp=>exact ih _ _ h
   |ret=>
    cases K with
    |nil=>exact⟨h,λhw=>hw⟩
    |cons i K=>cases i<;>exact ih _ _ h
   |panic x=>
    cases K with
    |nil=>exact⟨h,λhw=>hw⟩
    |cons i K=>cases i<;>exact ih _ _ h
   |goto l=>cases K<;>exact⟨h,λhw=>hw⟩
def go (hS:H6 S P){g g' : Cfg}{c:List Prop}(h:run P none 400 [] g=⟨c,g'⟩)(hc:E5 c)(hk:G S P F g'):G S P F g:=by
 have:=HU (F:=F) hS 400 [] g (by rw[h];exact hc)
 rw[h]at this;exact this.2 hk
end
def Qi (S:W9)(f:FuncId)(args:List AV)(objs:List Obj)(r:AV)(objs' : List Obj)(ks:List Bool):Prop:= S.F f args objs λres o k=>res=.ret r/\o=objs' /\ k=ks
def YF (S:W9)(f:FuncId)(args:List AV)(r:AV):Prop:=Qi S f args [] r [] []
def Qi.le {S:W9}{P:Program}(hS:H6 S P){f:FuncId}{args args' : List AV}{objs:List Obj}{r:AV}{objs' : List Obj}{ks:List Bool}(h:YC args args')(a:Qi S f args' objs r objs' ks):Qi S f args objs r objs' ks:=hS.argLe _ _ _ _ _ h a
def ML {nn:Bool}{k n m:Nat}{f g:Nat->List PV}(hn:n=m)(h:∀i,i<n->f i=g i):AV.p (.sl nn k n f)=.p (.sl false k m g) \/ ∃x y,AV.p (.sl nn k n f)=.p x/\AV.p (.sl false k m g)=.p y/\leQ x y:=by subst hn;exact .inr ⟨_,_,rfl,rfl,.p (.inr (.inl ⟨_,_,_,_,_,rfl,rfl,h⟩))⟩
def leC0:leC [] []:=⟨rfl,λ_=>.p (.inl rfl)⟩
def leCq {x y:PV}{xs ys:List PV}(h:leQ x y)(hs:leC xs ys):leC (x::xs) (y::ys):=
 ⟨by rw[BW3,BW3,hs.1],λj=>by cases j with
  |zero=>exact h
  |succ j=>exact hs.2 j⟩
def Jd {x y:PV}{xs ys:List PV}(h:leP x y)(hs:leC xs ys):leC (x::xs) (y::ys):=leCq (.p h) hs
def BR4 {k:Nat}{g:Nat->List PV}:leP (.v (.slice none 0 0)) (.sl false k 0 g):=.inr (.inr (.inl ⟨_,_,rfl,rfl⟩))
def lePT {b:Bool}:leP (.v (.bool b)) (.bb b):=.inr (.inr (.inr (.inl ⟨_,rfl,rfl⟩)))
def BM (all:List Oper)(env:Env)(o:Oper):Option Bool:=
 match o.guard with
 |none=>some true
 |some (j,want)=>YD want (get env (HS all j))
section
variable {S:W9}{P:Program}{F:M0}{K:List It}{st:St}
def BN (hS:H6 S P){all rest:List Oper}{o:Oper}{Q:M0}(a:BM all st.env o=some true)
 (h:wOp S P o (KQ S P all rest Q) Q st):KQ S P all (o::rest) Q st:=by
 unfold BM at a;simp only[KQ];refine hS.refl _ _ ?_;cases b:o.guard with
 |none=>exact h
 |some q=>obtain⟨j,want⟩:=q;simp only[b]at a;obtain⟨v,d,c⟩:=YE a;exact⟨v,d,by rw[Fg (c.1 rfl)];exact h⟩
def BJ0 {c:Operand}{t e:Code}{b:Bool}(hc:aev st.env c=.p (.bb b))
 (ht:b=true->G S P F (.code t K st)) (a:b=false->G S P F (.code e K st)):G S P F (.code (.cond c t e) K st):=by
 refine⟨b,by rw[hc];rfl,?_⟩;cases b
 .exact a rfl
 exact ht rfl
def YG (hS:H6 S P){all rest:List Oper}{o:Oper}(hle:S.up st λst1=>G S P F (.ops all (o::rest) K st1)):G S P F (.ops all (o::rest) K st):=
 hS.trans _ _ hle
def BJ1 (all:List Oper)(j:Nat):Option Nat:=match all[j]? with
 |some o=>o.dst
 |none=>none
theorem Bx0 (hS:H6 S P){all rest:List Oper}{o:Oper}{j d:Nat}{want b:Bool}(_hg:o.guard=some (j,want))(c:BJ1 all j=some d)(hb:get st.env d=.p (.bb b))
 (ht:b=true->G S P F (.ops all (o::rest) K ⟨ins d (.p (.v (.bool true))) st.env,st.Qg⟩))
 (a:b=false->G S P F (.ops all (o::rest) K ⟨ins d (.p (.v (.bool false))) st.env,st.Qg⟩)):G S P F (.ops all (o::rest) K st):=by
 refine YG hS (hS.bool st _ b _ hb ?_);cases b
 .exact a rfl
 exact ht rfl
def BJ2 (hS:H6 S P){all rest:List Oper}{o:Oper}(t:Nat){k n:Nat}{f:Nat->List PV}(hb:get st.env t=.p (.sl false k n f))
 (ht:n=0->G S P F (.ops all (o::rest) K ⟨ins t (.p (.v (.slice none 0 0))) st.env,st.Qg⟩))
 (a:G S P F (.ops all (o::rest) K ⟨ins t (.p (.sl true k n f)) st.env,st.Qg⟩)):G S P F (.ops all (o::rest) K st):=
 YG hS (hS.nil st t k n f _ hb ht a)
def Bs3 (hS:H6 S P){all rest:List Oper}{o:Oper}{out:Out}(d:BM all st.env o=some true)(ha:aop P st.env st.Qg (o.dst.getD 0) o.op=some out)
 (hn:∀c,o.op=.call c->∃b,c.callee=.builtin b) (hp:∀x,o.op ≠ .panic x) (hc:E5 out.cond)
 (hk:G S P F (.ops all rest K (put { st with Qg:=out.Qg } o.dst out.val))):G S P F (.ops all (o::rest) K st):=by
 refine BN hS d ?_;unfold wOp;split
 .rename_i f args types a;obtain⟨b,hb⟩:=hn _ a;simp at hb
 .rename_i r m args types a;obtain⟨b,hb⟩:=hn _ a;simp at hb
 .rename_i x a;exact Hc a (hp x)
 .rename_i a;rw[a]at ha;simp[aop]at ha
 exact .inl ⟨_,ha,hc,hk⟩
theorem Bx1 (hS:H6 S P){all rest:List Oper}{o:Oper}{c:Call}{f:Operand}{as:List AV}{Qg:C8}{fn:FuncId}{as' args:List AV}{objs objs' : List Obj}{ks:List Bool}{r:AV}(ids:List Nat)
 (d:BM all st.env o=some true) (g:o.op=.call c) (b:c.callee=.value f) (ha:Jf st.Qg (c.args.toList.map (aev st.env))=some (as,Qg))
 (hw:Yt st.env f as=some (fn,as')) (i:ES ids as' = some args) (a:N5 ids Qg ids=some objs) (j:Qi S fn args objs r objs' ks)
 (l:I1 ids=true) (hy:GH objs=true) (hn:Z0 Qg ids ks (o.dst.getD 0) objs'.length=true)
 (hk:G S P F (.ops all rest K (put { env:=st.env,Qg:=back (H9 (o.dst.getD 0) ids ks objs'.length) (H9 (o.dst.getD 0) ids ks objs'.length) objs' (K8 ids ks Qg) } o.dst (unA (H9 (o.dst.getD 0) ids ks objs'.length) r)))) :
 G S P F (.ops all (o::rest) K st):=by
 refine BN hS d ?_;unfold wOp;obtain⟨callee,cargs,types⟩:=c;simp only at b ha;subst b;rw[g];refine .inl ⟨as,Qg,_,_,.inl ha,hw,ids,args,objs,l,i,a,hy,hS.monoF _ _ _ _ _ ?_ j⟩;rintro _ _ _ ⟨rfl,rfl,rfl⟩;exact⟨hn,hk⟩
theorem Bx2 (hS:H6 S P){all rest:List Oper}{o:Oper}{c:Call}{f:Operand}{fn:FuncId}{as' args:List AV}{objs objs' : List Obj}{ks:List Bool}{r:AV}(ids:List Nat)
 (d:BM all st.env o=some true) (g:o.op=.call c) (b:c.callee=.value f)
 (hw:Yt st.env f (c.args.toList.map (aev st.env))=some (fn,as')) (i:ES ids as' = some args) (a:N5 ids st.Qg ids=some objs) (j:Qi S fn args objs r objs' ks)
 (l:I1 ids=true) (hy:GH objs=true) (hn:Z0 st.Qg ids ks (o.dst.getD 0) objs'.length=true)
 (hk:G S P F (.ops all rest K (put { env:=st.env,Qg:=back (H9 (o.dst.getD 0) ids ks objs'.length) (H9 (o.dst.getD 0) ids ks objs'.length) objs' (K8 ids ks st.Qg) } o.dst (unA (H9 (o.dst.getD 0) ids ks objs'.length) r)))) :
 G S P F (.ops all (o::rest) K st):=by
 refine BN hS d ?_;unfold wOp;obtain⟨callee,cargs,types⟩:=c;simp only at b hw;subst b;rw[g];refine .inl ⟨_,st.Qg,_,_,.inr ⟨rfl,rfl⟩,hw,ids,args,objs,l,i,a,hy,hS.monoF _ _ _ _ _ ?_ j⟩;rintro _ _ _ ⟨rfl,rfl,rfl⟩;exact⟨hn,hk⟩
def Ax0 (hS:H6 S P){b:Code}{X:Type}(s:X->St)(J:X->Prop)(m:X->Nat)(x0:X)(ids:List (Nat×Nat))(hle:Le ids st (s x0))(a:J x0)
 (c:∀x,J x->G S P F (.code b (.lp X s J m (m x)::K) (s x))):G S P F (.code (.loop b) K st):=
 ⟨X,s,J,m,hS.le ids _ _ _ hle ⟨x0,rfl,a⟩,c⟩
def Aj2 (hS:H6 S P){X:Type}{s:X->St}{J:X->Prop}{m:X->Nat}{n:Nat}(x:X)(ids:List (Nat×Nat))(hle:Le ids st (s x))(a:J x)(hm:m x<n) :G S P F (.pop .normal (.lp X s J m n::K) st):=hS.le ids _ _ _ hle ⟨x,rfl,a,hm⟩
def le_p {Qg:C8}{ids:List (Nat×Nat)}{a:AV}{y:PV}(h:viewP Qg a=some y):leA Qg ids a (.p y):=by unfold leA;exact⟨y,h,.inl rfl⟩
def BJ3 {Qg:C8}{ids:List (Nat×Nat)}{i j:Nat}(h:lk ids j=some i):leA Qg ids (.vec i) (.vec j):=by unfold leA;exact .inl ⟨i,h,rfl⟩
def Bx3 {Qg:C8}{ids:List (Nat×Nat)}{j:Nat}(h:lk ids j=none):leA Qg ids (.p (.v (.slice none 0 0))) (.vec j):=by unfold leA;exact .inr ⟨h,rfl⟩
def BJ4 {Qg:C8}{ids:List (Nat×Nat)}{i j off:Nat}(h:lk ids j=some i):leA Qg ids (.reg i off) (.reg j off):=by unfold leA;exact⟨i,h,rfl⟩
def AQ2 {Qg:C8}{ids:List (Nat×Nat)}{i j:Nat}(h:lk ids j=some i):leA Qg ids (.Sc i) (.Sc j):=by unfold leA;exact⟨i,h,rfl⟩
def BJ5 {Qg:C8}{ids:List (Nat×Nat)}{f:FuncId}{a b c d:List AV}(h:leL Qg ids a c)(h' : leL Qg ids b d):leA Qg ids (.clo f a b) (.clo f c d):=by unfold leA;exact⟨a,b,rfl,h,h'⟩
def Bx4 {Qg:C8}{ids:List (Nat×Nat)}:leL Qg ids [] []:=by unfold leL;rfl
def Bf6 {Qg:C8}{ids:List (Nat×Nat)}{a b:AV}{l m:List AV}(h:leA Qg ids a b)(h' : leL Qg ids l m):leL Qg ids (a::l) (b::m):=by unfold leL;exact⟨a,l,rfl,h,h'⟩
def Bs4 {Qg:C8}{ids:List (Nat×Nat)}{env:Env}{t:Nat}{b:AV}{r:Env}{a:AV}(c:get env t=a)(h:leA Qg ids a b)(h' : QO Qg ids env r):QO Qg ids env ((t,b)::r):=by subst c;exact⟨h,h'⟩
theorem Bf7 {Qg:C8}{ids:List (Nat×Nat)}{l m:List AV}(h:leL Qg ids l m):leO Qg ids (.cells l) (.cells m):=⟨l,rfl,h⟩
theorem le_mk {s t:St}{ids:List (Nat×Nat)}(h1:(wf t&&I1 (ids.map (·.2))&&AE3 ids&&UG ids t.Qg&&OW ids (seen s.env t.env++MK ids s.Qg t.Qg) t.Qg)=true)
 (a:QO s.Qg ids s.env t.env) (b:YB s.Qg ids t.Qg):Le ids s t:=by
 simp only[BT5]at h1;exact⟨⟨h1.1.1.1.1,h1.1.1.1.2,h1.1.1.2,h1.1.2,h1.2⟩,a,b⟩
section
variable {n:Nat}{rs:List ResultVar}{Q:ARes->List Obj->List Bool->Prop}{l:List AV}{a:AV}
end
def AQ3 (hS:H6 S P){f:FuncId}{fn:Func}{code:Code}{args:List AV}{objs objs' : List Obj}{ks:List Bool}{r:AV}{rs:List ResultVar}(d:P.funcs[f]? = some fn)(hc:fn.body=some code)(hn:args.length<=fn.ntmps)(g:objs.length<1000)
 (a:fn.results.toList=rs) (b:BL fn.ntmps code=true) (c:(fn.name == "runtime.NumGoroutine")=false)
 (h:G S P (Et S P objs.length rs λres o k=>res=.ret r/\o=objs' /\ k=ks) (.code code [] { env:=Uf args,Qg:=Qh objs })):Qi S f args objs r objs' ks:=by
 subst a;exact hS.func f fn code args objs _ d hc c b hn g (hS.refl _ _ h)
end
def Ext (w w' : World):Prop:=w'.os=w.os/\w'.output=w.output
def Ext.refl (w:World):Ext w w:=⟨rfl,rfl⟩
def Ext.trans {w w' w'' : World}(h:Ext w w')(h' : Ext w' w''):Ext w w'':=⟨h'.1.trans h.1,h'.2.trans h.2⟩
inductive Sb (w:World) (Pi:Nat->Nat->Prop):Value->PV->Prop
 |v (x:Value):Sb w Pi x (.v x)
 |bb (b:Bool):Sb w Pi (.bool b) (.bb b)
 |str (l:List UInt8):Sb w Pi (.string ⟨l.toArray⟩) (.str l)
 |agg (vs:Array Value) (cs:List PV) (hs:vs.size=cs.length) (h1:∀i,i<cs.length->(vs.getD i undef).oneCell' = true)
  (h:∀i,i<cs.length->Sb w Pi (vs.getD i undef) (cs.getD i default)):Sb w Pi (.agg vs) (.agg cs)
 |slnil (k:Nat) (f:Nat->List PV):Sb w Pi (.slice none 0 0) (.sl false k 0 f)
 |sl (nn:Bool) (b off cap k n:Nat) (f:Nat->List PV) (c:Nat->Nat->Value) (hn:n<=cap) (hk:∀i,i<n->(f i).length=k)
  (hc:∀i j,i<n->j<k->w.cell? ⟨b,off+i*k+j,none⟩=some (c i j)/\¬Pi b (off+i*k+j)/\(c i j).oneCell' = true)
  (h:∀i j,i<n->j<k->Sb w Pi (c i j) ((f i).getD j default)) (sp:Option Nat) (hsp:0<n->sp=none):Sb w Pi (.slice (some ⟨b,off,sp⟩) n cap) (.sl nn k n f)
 |ptr (b off:Nat) (cs:List PV) (c:Nat->Value) (hc:∀j,j<cs.length->w.cell? ⟨b,off+j,none⟩=some (c j)/\¬Pi b (off+j)/\(c j).oneCell' = true)
  (h:∀j,j<cs.length->Sb w Pi (c j) (cs.getD j default)):Sb w Pi (.pointer (some ⟨b,off,none⟩)) (.ptr cs)
 |iface (t:TypeId) (x:Value) (a:PV) (h:Sb w Pi x a):Sb w Pi (.iface t x) (.iface t a)
 |fn (f:FuncId) (x y:Array Value) (a b:List PV) (hx:x.size=a.length) (hy:y.size=b.length)
  (ha:∀i,i<a.length->Sb w Pi (x.getD i undef) (a.getD i default)) (hb:∀i,i<b.length->Sb w Pi (y.getD i undef) (b.getD i default)) :
  Sb w Pi (.func (.func f) x y) (.fn f a b)
def S0 (w:World)(Pi:Nat->Nat->Prop)(w' : World)(Pi' : Nat->Nat->Prop):Prop:= ∀b o v,¬Pi b o->w.cell? ⟨b,o,none⟩=some v->w'.cell? ⟨b,o,none⟩=some v/\¬Pi' b o
def S0.refl (w:World)(Pi:Nat->Nat->Prop):S0 w Pi w Pi:=λ_ _ _ h h'=>⟨h',h⟩
def S0.trans {w w' w'' : World}{p p' p'' : Nat->Nat->Prop}(h:S0 w p w' p')(h' : S0 w' p' w'' p''):S0 w p w'' p'':=
 λb o v hp hc=>let ⟨a,c⟩:=h b o v hp hc;h' b o v c a
def Sb.keeps {w w' : World}{Pi Pi' : Nat->Nat->Prop}(hk:S0 w Pi w' Pi'){v:Value}{x:PV}(h:Sb w Pi v x):Sb w' Pi' v x:=by
 induction h with
 |v x=>exact .v x
 |bb b=>exact .bb b
 |str l=>exact .str l
 |agg vs cs hs h1 h ih=>exact .agg vs cs hs h1 ih
 |slnil k f=>exact .slnil k f
 |sl nn b off cap k n f c hn hk' hc h sp hsp ih=>
  refine .sl nn b off cap k n f c hn hk' (λi j m d=>?_) ih sp hsp;obtain⟨h1,g,o⟩:=hc i j m d;obtain⟨q,r⟩:=hk _ _ _ g h1
  grind
 |ptr b off cs c hc h ih=>
  refine .ptr b off cs c (λj d=>?_) ih;obtain⟨h1,g,o⟩:=hc j d;obtain⟨q,r⟩:=hk _ _ _ g h1
  grind
 |iface t x a h ih=>exact .iface t x a ih
 |fn f x y a b hx hy ha hb iha ihb=>exact .fn f x y a b hx hy iha ihb
def Sb.nP {w:World}{Pi:Nat->Nat->Prop}{v:Value}{x:PV}(h:Sb w Pi v x):Sb w Pi v (nP x):=by
 cases x with
 |v y=>cases h;cases v<;>first|exact .v _|exact .bb _
 |_=>exact h
def Sb.leP {w:World}{Pi:Nat->Nat->Prop}{v:Value}{x y:PV}(hl:leP x y)(h:Sb w Pi v x):Sb w Pi v y:=by
 rcases hl with rfl|⟨nn,k,n,f,g,rfl,rfl,a⟩ | ⟨k,f,rfl,rfl⟩ | ⟨b,rfl,rfl⟩ | ⟨b,rfl,rfl⟩
 .exact h
 .cases h with
  |slnil=>exact .slnil _ _
  |sl _ b off cap _ _ _ c hn hk hc h sp hsp=>exact .sl false b off cap k n g c hn (by grind) hc (by grind) sp hsp
 .cases h;exact .slnil _ _
 .cases h;exact .bb _
 cases h;exact .v _
def Sb.leQ {w:World}{Pi:Nat->Nat->Prop}{v:Value}{x y:PV}(hl:Go.AM.leQ x y)(h:Sb w Pi v x):Sb w Pi v y:=by
 induction hl generalizing v with
 |p hl=>exact h.leP hl
 | @sl nn k n f g hl hq ih=>
  cases h with
  |slnil=>exact .slnil _ _
  |sl _ b off cap _ _ _ c hn hk hc h sp hsp=>exact .sl false b off cap k n g c hn (by grind) hc (by grind) sp hsp
 | @agg xs ys hl hq ih=>
  cases h with
  |agg vs _ hs h1 h=>exact .agg vs ys (hs.trans hl) (by grind) (by grind)
def Sb.cell {w:World}{Pi:Nat->Nat->Prop}{v:Value}{x:PV}(h:Sb w Pi v x)(hx:LY x=true):v.oneCell' = true:=by
 cases h with
 |v=>cases v<;>simp_all [LY,Value.oneCell']
 |agg=>grind[LY]
 |_=>rfl
inductive Ud (w:World) (Pi:Nat->Nat->Prop) (live:Nat->Prop) (rho:Nat->Value):Value->AV->Prop
 |p (v:Value) (x:PV) (h:Sb w Pi v x):Ud w Pi live rho v (.p x)
 |reg (j off b:Nat) (hl:live j) (h:rho j=.pointer (some ⟨b,0,none⟩)):Ud w Pi live rho (.pointer (some ⟨b,off,none⟩)) (.reg j off)
 |vec (j:Nat) (base:Option Addr) (n cap:Nat) (hl:live j) (h:rho j=.slice base n cap):Ud w Pi live rho (.slice base n cap) (.vec j)
 |vecp (j m:Nat) (base:Option Addr) (n cap:Nat) (hl:live j) (h:rho j=.slice base n cap) (hm:m<=n):Ud w Pi live rho (.slice base m cap) (.vecp j m)
 |elt (j k i off b n cap:Nat) (hl:live j) (h:rho j=.slice (some ⟨b,0,none⟩) n cap):Ud w Pi live rho (.pointer (some ⟨b,i*k+off,none⟩)) (.elt j k i off)
 |Sc (j r:Nat) (hl:live j) (h:rho j=.map (some r)):Ud w Pi live rho (.map (some r)) (.Sc j)
 |clo (f:FuncId) (x y:Array Value) (a b:List AV) (hx:x.size=a.length) (hy:y.size=b.length)
  (ha:∀i,i<a.length->Ud w Pi live rho (x.getD i undef) (a.getD i .top)) (hb:∀i,i<b.length->Ud w Pi live rho (y.getD i undef) (b.getD i .top)) :
  Ud w Pi live rho (.func (.func f) x y) (.clo f a b)
 |tup (x:Array Value) (a:List AV) (hx:x.size=a.length) (ha:∀i,i<a.length->Ud w Pi live rho (x.getD i undef) (a.getD i .top)):Ud w Pi live rho (.tuple x) (.tup a)
 |agr (x:Array Value) (a:List AV) (hx:x.size=a.length) (h1:∀i,i<a.length->(x.getD i undef).oneCell' = true)
  (ha:∀i,i<a.length->Ud w Pi live rho (x.getD i undef) (a.getD i .top)):Ud w Pi live rho (.agg x) (.agr a)
 |yf (j l:Nat) (hl:live j) (h:rho j=.func (.yield l) #[] #[]):Ud w Pi live rho (.func (.yield l) #[] #[]) (.yf j)
 |top (v:Value):Ud w Pi live rho v .top
def Ud.keeps {w w' : World}{Pi Pi' : Nat->Nat->Prop}{live live' : Nat->Prop}{rho rho' : Nat->Value}(hk:S0 w Pi w' Pi')
 (hl:∀j,live j->live' j/\rho' j=rho j) {v:Value}{a:AV}(h:Ud w Pi live rho v a):Ud w' Pi' live' rho' v a:=by
 induction h with
 |p v x h=>exact .p v x (h.keeps hk)
 |reg j off b hj h=>obtain⟨a,c⟩:=hl j hj;exact .reg j off b a (c.trans h)
 |vec j base n cap hj h=>obtain⟨a,c⟩:=hl j hj;exact .vec j base n cap a (c.trans h)
 |vecp j m base n cap hj h hm=>obtain⟨a,c⟩:=hl j hj;exact .vecp j m base n cap a (c.trans h) hm
 |elt j k i off b n cap hj h=>obtain⟨a,c⟩:=hl j hj;exact .elt j k i off b n cap a (c.trans h)
 |Sc j r hj h=>obtain⟨a,c⟩:=hl j hj;exact .Sc j r a (c.trans h)
 |clo f x y a b hx hy ha hb iha ihb=>exact .clo f x y a b hx hy iha ihb
 |tup x a hx ha ih=>exact .tup x a hx ih
 |agr x a hx h1 ha ih=>exact .agr x a hx h1 ih
 |yf j l hj h=>obtain⟨a,c⟩:=hl j hj;exact .yf j l a (c.trans h)
 |top v=>exact .top v
def BR5 (l:List Nat)(b:Nat)(v:Value):Go.Obj:=match l with
 |0::T::u::_=>.cells #[if u=0 then .pointer none else .pointer (some ⟨b,0,none⟩),v] T (0,0)
 |_::cl::last::seen=>.mapIter (match v with | .map r=>r|_=>none) cl seen.reverse.toArray last
 |_=>.cells #[] 0 (0,0)
def Q9 (h:Value):Obj->Option Nat
 |.cells _=>match h with | .pointer (some a)=>some a.block|_=>none
 |.vec _ _ _ _ _=>match h with | .slice (some a) _ _=>some a.block|_=>none
 |.map _=>match h with | .map r=>r|_=>none
 |.arr _ _=>match h with | .pointer (some a)=>some a.block|_=>none
 |.blk _ _=>match h with | .pointer (some a)=>some a.block|_=>none
 |.fam _ _ _ _=>match h with | .slice (some a) _ _=>some a.block|_=>none
 |.ghost _ | .yld _ _ | .dead | .rows _ _=>none
def blkS (l:List Nat)(v:Value):Prop:=(∀vs,v ≠ .tuple vs)/\(l.head? = some 0->∃a n c,v=.slice a n c)
def G1 (h:Value)(o:Obj)(b:Nat):Prop:=
 match o with
 |.rows n g=>∃rv,h=.agg rv/\∃i,i<n/\Q9 (rv.getD i undef) (g i)=some b
 |o=>Q9 h o=some b
def MF (o:Obj)(off:Nat):Prop:=
 match o with
 |.vec _ k n _ true=>n*k<=off
 |_=>True
section
variable (w:World) (Pi:Nat->Nat->Prop) (live:Nat->Prop) (rho:Nat->Value)
def HoldsC (h:Value):Obj->Prop
 |.cells cs=>∃b c T,h=.pointer (some ⟨b,0,none⟩)/\w.heap[b]? = some (.cells c T (0,0))/\c.size=cs.length /\
  ∀i,i<cs.length->Ud w Pi live rho (c.getD i undef) (cs.getD i .top)/\(c.getD i undef).oneCell' = true
 |.vec e k n f _=>(h=.slice none 0 0/\n=0) \/ ∃b cap c,h=.slice (some ⟨b,0,none⟩) n cap/\w.heap[b]? = some (.cells c e (0,0))/\n<=cap/\c.size=cap*k/\cap<=maxLen /\
  (∀i,i<n->(f i).length=k)/\∀i j,i<n->j<k->Sb w Pi (c.getD (i*k+j) undef) ((f i).getD j default)/\(c.getD (i*k+j) undef).oneCell' = true
 |.map es=>∃b Se clock,h=.map (some b)/\w.heap[b]? = some (.map Se clock)/\Se.size=es.length /\
  (∀i,i<es.length->Sb w Pi (Se.getD i default).key (es.getD i default).1/\Sb w Pi (Se.getD i default).val (es.getD i default).2)/\clock=Se.size/\∀i,i<Se.size->(Se.getD i default).born=i
 |.arr n f=>∃b c T,h=.pointer (some ⟨b,0,none⟩)/\w.heap[b]? = some (.cells c T (0,0))/\c.size=n /\
  ∀i,i<n->Sb w Pi (c.getD i undef) (f i)/\(c.getD i undef).oneCell' = true
 |.blk l jr=>live jr/\blkS l (rho jr)/\∃b,h=.pointer (some ⟨b,0,none⟩)/\w.heap[b]? = some (BR5 l b (rho jr))
 |.yld _ _=>∃l,h=.func (.yield l) #[] #[]
 |.ghost cs=>∃vs,h=.tuple vs/\vs.size=cs.length/\∀i,i<cs.length->Ud w Pi live rho (vs.getD i undef) (cs.getD i .top)
 |.dead=>True
 |.rows _ _=>False
 |.fam e n jr x=>∃rv,live jr/\rho jr=.agg rv/\((h=.slice none 0 0/\n=0) \/ ∃b cap c,h=.slice (some ⟨b,0,none⟩) n cap/\w.heap[b]? = some (.cells c e (0,0))/\n<=cap/\c.size=cap/\cap<=maxLen /\
  (∀i,i<n->(c.getD i undef).oneCell' = true/\(x.map (·.1)≠some i->c.getD i undef=rv.getD i undef)) /\
  match x with
  |none=>True
  |some (i,a)=>Ud w Pi live rho (c.getD i undef) a)
def rowV (v:Value):Obj->Prop
 |.vec e k n f false=>HoldsC w Pi live rho v (.vec e k n f false)
 |.map es=>HoldsC w Pi live rho v (.map es)
 |.ghost [.p x]=>Sb w Pi v x
 |.dead=>True
 |_=>False
def Ue (h:Value)(o:Obj):Prop:=
 match o with
 |.rows n g=>∃rv,h=.agg rv/\(∀i,i<n->rowV w Pi live rho (rv.getD i undef) (g i)) /\
  ∀i l b,i<n->l<n->Q9 (rv.getD i undef) (g i)=some b->Q9 (rv.getD l undef) (g l)=some b->i=l
 |o=>HoldsC w Pi live rho h o
end
def HoldsC.keeps {w w' : World}{Pi Pi' : Nat->Nat->Prop}{live live' : Nat->Prop}{rho rho' : Nat->Value}(hk:S0 w Pi w' Pi')
 (hl:∀j,live j->live' j/\rho' j=rho j) {h:Value}{o:Obj}(hb:∀b,Q9 h o=some b->w'.heap[b]? = w.heap[b]?) (m:HoldsC w Pi live rho h o):HoldsC w' Pi' live' rho' h o:=by
 cases o with
 |cells cs=>obtain⟨b,c,T,rfl,h1,g,d⟩:=m;exact⟨b,c,T,rfl,(hb b rfl).trans h1,g,λi a=>⟨(d i a).1.keeps hk hl,(d i a).2⟩⟩
 |vec e k n f vw=>
  rcases m with hn|⟨b,cap,c,rfl,h1,g,d,t,u,s⟩
  .exact .inl hn
  exact .inr ⟨b,cap,c,rfl,(hb b rfl).trans h1,g,d,t,u,λi j a v=>⟨(s i j a v).1.keeps hk,(s i j a v).2⟩⟩
 |map es=>obtain⟨b,Se,clock,rfl,h1,g,d,z⟩:=m;exact⟨b,Se,clock,rfl,(hb b rfl).trans h1,g,λi a=>⟨(d i a).1.keeps hk,(d i a).2.keeps hk⟩,z⟩
 |arr n f=>obtain⟨b,c,T,rfl,h1,g,d⟩:=m;exact⟨b,c,T,rfl,(hb b rfl).trans h1,g,λi a=>⟨(d i a).1.keeps hk,(d i a).2⟩⟩
 |blk l jr=>obtain⟨g1,g2,b,rfl,h1⟩:=m;exact⟨(hl jr g1).1,by rw[(hl jr g1).2];omega,b,rfl,by rw[(hl jr g1).2];exact (hb b rfl).trans h1⟩
 |ghost cs=>obtain⟨vs,rfl,h1,g⟩:=m;exact⟨vs,rfl,h1,λi a=>(g i a).keeps hk hl⟩
 |yld r b=>exact m
 |dead=>trivial
 |fam e n jr x=>
  obtain⟨rv,g1,g2,y⟩:=m;refine⟨rv,(hl jr g1).1,(hl jr g1).2.trans g2,?_⟩;rcases y with y|⟨b,cap,c,rfl,h1,g,d,t,u,s⟩
  .grind
  refine .inr ⟨b,cap,c,rfl,(hb b rfl).trans h1,g,d,t,u,?_⟩;cases x with
  |none=>simp
  |some q=>exact s.keeps hk hl
 |rows=>exact m.elim
def rowV.keeps' {w w' : World}{Pi Pi' : Nat->Nat->Prop}{live live' : Nat->Prop}{rho rho' : Nat->Value}(hk:S0 w Pi w' Pi')
 {v:Value}{o:Obj}(a:rowV w Pi live rho v o) (hb:∀b,Q9 v o=some b->w'.heap[b]? = w.heap[b]?):rowV w' Pi' live' rho' v o:=by
 unfold rowV at a⊢;split at a
 .obtain h|⟨b,cap,c,rfl,h1,g,f,h4,h5,h6⟩:=a
  .exact .inl h
  exact .inr ⟨b,cap,c,rfl,(hb b rfl).trans h1,g,f,h4,h5,λi j d l=>⟨(h6 i j d l).1.keeps hk,(h6 i j d l).2⟩⟩
 .obtain⟨b,Se,clock,rfl,h1,g,f,m⟩:=a;exact⟨b,Se,clock,rfl,(hb b rfl).trans h1,g,λi d=>⟨(f i d).1.keeps hk,(f i d).2.keeps hk⟩,m⟩
 .exact a.keeps hk
 all_goals omega
theorem Kz {w w' : World}{Pi Pi' : Nat->Nat->Prop}{live live' : Nat->Prop}{rho rho' : Nat->Value}(hk:S0 w Pi w' Pi'){h:Value}{n:Nat}{g:Nat->Obj}
 (hb:∀b,G1 h (.rows n g) b->w'.heap[b]? = w.heap[b]?) (c:Ue w Pi live rho h (.rows n g)):Ue w' Pi' live' rho' h (.rows n g):=by
 obtain⟨rv,rfl,h1,d⟩:=c;exact⟨rv,rfl,λi a=>(h1 i a).keeps' hk λb f=>hb b ⟨rv,rfl,i,a,f⟩,d⟩
def Ue.keeps {w w' : World}{Pi Pi' : Nat->Nat->Prop}{live live' : Nat->Prop}{rho rho' : Nat->Value}(hk:S0 w Pi w' Pi')
 (hl:∀j,live j->live' j/\rho' j=rho j) {h:Value}{o:Obj}(hb:∀b,G1 h o b->w'.heap[b]? = w.heap[b]?) (a:Ue w Pi live rho h o):Ue w' Pi' live' rho' h o:=by
 cases o with
 |rows n g=>grind[Kz]
 |_=>exact HoldsC.keeps hk hl hb a
def Lv (R:Nat->Option Obj)(j:Nat):Prop:=(R j).isSome=true
def Prv (X:Nat->Nat->Prop)(R:Nat->Option Obj)(rho:Nat->Value)(b off:Nat):Prop:= X b off \/ ∃j o,R j=some o/\G1 (rho j) o b/\MF o off
def Own (R:Nat->Option Obj)(rho:Nat->Value)(b:Nat):Prop:=∃j o,R j=some o/\G1 (rho j) o b
structure Hp (X:Nat->Nat->Prop) (R:Nat->Option Obj) (rho:Nat->Value) (w:World):Prop where
 holds:∀j o,R j=some o->Ue w (Prv X R rho) (Lv R) rho (rho j) o
 sep:∀i j oi oj b,R i=some oi->R j=some oj->G1 (rho i) oi b->G1 (rho j) oj b->i=j
 out:∀j o b off,R j=some o->G1 (rho j) o b->¬X b off
 bound:∀b off,X b off->b<w.heap.size
def HoldsC.lt {w:World}{Pi:Nat->Nat->Prop}{live:Nat->Prop}{rho:Nat->Value}{h:Value}{o:Obj}(a:HoldsC w Pi live rho h o){b:Nat}(hb:Q9 h o=some b):b<w.heap.size:=by
 cases o with
 |cells cs=>obtain⟨b',c,T,rfl,h1,_⟩:=a;cases hb;grind
 |vec e k n f vw=>
  rcases a with⟨rfl,_⟩ | ⟨b',cap,c,rfl,h1,_⟩
  .cases hb
  cases hb;grind
 |map es=>obtain⟨b',Se,clock,rfl,h1,_⟩:=a;cases hb;grind
 |arr n f=>obtain⟨b',c,T,rfl,h1,_⟩:=a;cases hb;grind
 |blk l jr=>obtain⟨_,_,b',rfl,h1⟩:=a;cases hb;grind
 |ghost cs=>cases hb
 |yld r b=>cases hb
 |dead=>cases hb
 |fam e n jr x=>
  rcases a with⟨rv,_,_,⟨rfl,_⟩ | ⟨b',cap,c,rfl,h1,_⟩⟩
  .cases hb
  cases hb;grind
 |rows=>exact a.elim
theorem BJ6 {w:World}{Pi:Nat->Nat->Prop}{live:Nat->Prop}{rho:Nat->Value}{v:Value}{o:Obj}(h:rowV w Pi live rho v o){b:Nat}(hb:Q9 v o=some b):HoldsC w Pi live rho v o:=by
 unfold rowV at h;split at h
 .exact h
 .exact h
 .cases hb
 .cases hb
 grind
def Ue.own {w:World}{Pi:Nat->Nat->Prop}{live:Nat->Prop}{rho:Nat->Value}{h:Value}{o:Obj}(a:Ue w Pi live rho h o){b:Nat}(hb:G1 h o b):∃h' o',HoldsC w Pi live rho h' o' /\ Q9 h' o' = some b:=by
 cases o with
 |rows n g=>
  obtain⟨rv,rfl,h1,c⟩:=a;obtain⟨rv',d,i,j,hb⟩:=hb
  grind[Value.agg.injEq,BJ6]
 |cells cs=>exact⟨h,.cells cs,a,hb⟩
 |vec e k n f vw=>exact⟨h,.vec e k n f vw,a,hb⟩
 |map es=>exact⟨h,.map es,a,hb⟩
 |arr n f=>exact⟨h,.arr n f,a,hb⟩
 |blk l jr=>exact⟨h,.blk l jr,a,hb⟩
 |fam e n jr x=>exact⟨h,.fam e n jr x,a,hb⟩
 |_=>cases hb
def Ue.lt {w:World}{Pi:Nat->Nat->Prop}{live:Nat->Prop}{rho:Nat->Value}{h:Value}{o:Obj}(a:Ue w Pi live rho h o){b:Nat}(hb:G1 h o b):b<w.heap.size:=by obtain⟨h',o',h1,c⟩:=a.own hb;exact h1.lt c
def Hp.lt {X:Nat->Nat->Prop}{R:Nat->Option Obj}{rho:Nat->Value}{w:World}(h:Hp X R rho w){b:Nat}(hb:Own R rho b):b<w.heap.size:=by obtain⟨j,o,a,hb⟩:=hb;exact (h.holds j o a).lt hb
def Hp.update {X:Nat->Nat->Prop}{R R' : Nat->Option Obj}{rho rho' : Nat->Value}{w w' : World}(D:Nat->Prop)(h:Hp X R rho w)
 (c:∀j,¬D j->R' j=R j) (a:∀j,Lv R j->Lv R' j/\rho' j=rho j) (a1:w.heap.size<=w'.heap.size)
 (x:∀b,b<w.heap.size->(∀j o,D j->R j=some o->¬G1 (rho j) o b)->w'.heap[b]? = w.heap[b]?)
 (m:∀j o b,D j->R' j=some o->G1 (rho' j) o b->(∃i oi,D i/\R i=some oi/\G1 (rho i) oi b) \/ w.heap.size<=b)
 (a2:∀i j oi oj b,D i->D j->R' i=some oi->R' j=some oj->G1 (rho' i) oi b->G1 (rho' j) oj b->i=j)
 (s:∀i oi b off v,D i->R i=some oi->G1 (rho i) oi b->¬Prv X R rho b off->w.cell? ⟨b,off,none⟩=some v->w'.cell? ⟨b,off,none⟩=some v/\∀j o,D j->R' j=some o->G1 (rho' j) o b->¬MF o off)
 (hh:S0 w (Prv X R rho) w' (Prv X R' rho')->∀j o,D j->R' j=some o->Ue w' (Prv X R' rho') (Lv R') rho' (rho' j) o) :
 Hp X R' rho' w' /\ S0 w (Prv X R rho) w' (Prv X R' rho'):=by
 have hk:S0 w (Prv X R rho) w' (Prv X R' rho'):=by
  intro b off v hp hc;have hlt:b<w.heap.size:=BY8 w ⟨b,off,none⟩ hc;by_cases hD:∃i oi,D i/\R i=some oi/\G1 (rho i) oi b
  .obtain⟨i,oi,q,hr,hb⟩:=hD;obtain⟨h1,h2⟩:=s i oi b off v q hr hb hp hc;refine⟨h1,λt=>?_⟩;rcases t with r|⟨j,o,l,f,hpj⟩
   .exact hp (.inl r)
   by_cases d:D j
   .grind
   rw[c j d]at l;rw[(a j (by grind[Lv])).2]at f;exact hp (.inr (by grind))
  refine⟨?_,λt=>?_⟩
  .rw[<- hc]
   grind[Go.World.cell?_of_block]
  rcases t with r|⟨j,o,l,f,hpj⟩
  .exact hp (.inl r)
  by_cases d:D j
  .grind
  rw[c j d]at l;rw[(a j (by grind[Lv])).2]at f;exact hp (.inr (by grind))
 refine⟨⟨λj o l=>?_,λi j oi oj b q l g f=>?_,λj o b off l hb r=>?_,λb off r=>BU8 (h.bound b off r) a1⟩,hk⟩
 .by_cases d:D j
  .grind
  rw[c j d]at l;have hr:=(a j (by grind[Lv])).2;rw[hr];refine (h.holds j o l).keeps hk a λb hb=>x b ((h.holds j o l).lt hb) λi oi q n g=>?_
  have:=h.sep i j oi o b n l g hb
  grind
 .by_cases u:D i<;>by_cases d:D j
  .grind
  .rw[c j d]at l;rw[(a j (by grind[Lv])).2]at f;rcases m i oi b u q g with⟨i',oi',hi',n,y⟩ | z
   .have:=h.sep i' j oi' oj b n l y f
    grind
   have:=(h.holds j oj l).lt f;omega
  .rw[c i u]at q;rw[(a i (by grind[Lv])).2]at g;rcases m j oj b d l f with⟨j',oj',hj',hrj,a0⟩ | z
   .have:=h.sep j' i oj' oi b hrj q a0 g
    grind
   have:=(h.holds i oi q).lt g;omega
  rw[c i u]at q;rw[c j d]at l;rw[(a i (by grind[Lv])).2]at g;rw[(a j (by grind[Lv])).2]at f;exact h.sep i j oi oj b q l g f
 by_cases d:D j
 .rcases m j o b d l hb with⟨i,oi,q,n,g⟩ | z
  .exact h.out i oi b off n g r
  have:=h.bound b off r;omega
 rw[c j d]at l;rw[(a j (by grind[Lv])).2]at hb;exact h.out j o b off l hb r
def QP (env:Env)(d t:Nat)(x:AV):get (ins d x env) t=if d=t then x else get env t:=by
 induction env with
 |nil=>simp[ins,get]
 |cons p r ih=>
  obtain⟨i,b⟩:=p;simp only[ins];split
  .grind[get]
  split
  .grind[get]
  rename_i h1 a;simp only[get,ih]
  grind
theorem A4 (Qg:C8)(d t:Nat)(x:Obj):A2 (ins d x Qg) t=if d=t then some x else A2 Qg t:=by
 induction Qg with
 |nil=>simp[ins,A2]
 |cons p r ih=>
  obtain⟨i,b⟩:=p;simp only[ins];split
  .grind[A2]
  split
  .grind[A2]
  rename_i h1 a;simp only[A2,ih]
  grind
structure Ctx where
 X:Nat->Nat->Prop
 w0:World
 E0:Nat->Prop
 Pi0:Nat->Nat->Prop
 rho0:Nat->Value
 Y:List (List PV)->Bool->Prop
 yv:Value
structure SatE (C:Ctx) (R:C8) (w:World) (rho:Nat->Value):Prop where
 hp:Hp C.X (A2 R) rho w
 ext:Ext C.w0 w
 size:C.w0.heap.size<=w.heap.size
 same:∀b,b<C.w0.heap.size->¬C.E0 b->w.heap[b]? = C.w0.heap[b]?
 keep:S0 C.w0 C.Pi0 w (Prv C.X (A2 R) rho)
 own:∀b,Own (A2 R) rho b->C.E0 b \/ C.w0.heap.size<=b
 yld:∀j r b,A2 R j=some (.yld r b)->C.Y r b/\rho j=C.yv
def Marks (C:Ctx)(l:List Deferred)(w:World):Prop:= l.Nodup/\∀d∈l,∃r,d={ target:=.collected r,args:=#[] }/\(C.E0 r \/ C.w0.heap.size<=r)/\w.heap[r]? = some (.deferred (some []))/\∀off,¬C.X r off
structure Sat (C:Ctx) (st:St) (a:Act) (w:World) (rho:Nat->Value):Prop extends SatE C st.Qg w rho where
 env:∀t,Ud w (Prv C.X (A2 st.Qg) rho) (Lv (A2 st.Qg)) rho (a.tmps.getD t undef) (get st.env t)
 pin:∀j,j<1000->Lv (A2 st.Qg) j->rho j=C.rho0 j
 marks:Marks C a.defers w
theorem O6 (w:World)(Pi:Nat->Nat->Prop)(v:Value):Sb w Pi v (Tw v):=by
 cases v<;>try exact .v _
 rename_i s
 have:=Sb.str (w:=w) (Pi:=Pi) s.data.toList
 simp_all[Tw]
def Aj3 (w:World)(Pi:Nat->Nat->Prop)(v:Value):Sb w Pi v (pvK v):=by
 cases v with
 |agg cs=>
  simp only[pvK];split
  .rename_i h;refine .agg cs _ (by simp) (λi b=>?_) λi b=>?_
   .have a : i<cs.size:=by grind
    have:=Array.all_eq_true.1 h i a
    simp_all
   have a : i<cs.size:=by grind
   have e1:cs.getD i undef=cs[i]:=by simp_all
   have e2:(cs.toList.map Tw).getD i default=Tw cs[i]:=by grind
   rw[e1,e2];grind[O6]
  exact .v _
 |_=>exact O6 w Pi _
def Bf8 {w:World}{Pi:Nat->Nat->Prop}{live:Nat->Prop}{rho:Nat->Value}{env:Env}{a:Act}(h:∀t,Ud w Pi live rho (a.tmps.getD t undef) (get env t))(x:Operand):Ud w Pi live rho (a.eval x) (aev env x):=by
 cases x with
 |tmp t=>exact h t
 |const v=>exact .p _ _ (Aj3 w Pi v)
 |global g=>exact .top _
 |func f=>exact .clo f #[] #[] [] [] rfl rfl (by grind) (by grind)
def Sat.aev {C:Ctx}{st:St}{a:Act}{w:World}{rho:Nat->Value}(h:Sat C st a w rho)(x:Operand):Ud w (Prv C.X (A2 st.Qg) rho) (Lv (A2 st.Qg)) rho (a.eval x) (AM.aev st.env x):=Bf8 h.env x
def Sat.put {C:Ctx}{st:St}{a:Act}{w:World}{rho:Nat->Value}(h:Sat C st a w rho){v:Value}{x:AV}(b:Ud w (Prv C.X (A2 st.Qg) rho) (Lv (A2 st.Qg)) rho v x){d:Option Nat}
 (c:∀t,d=some t->t<a.tmps.size):Sat C (AM.put st d x) (a.put d v) w rho:=by
 cases d with
 |none=>exact h
 |some d=>
  refine⟨h.toSatE,λt=>?_,h.pin,h.marks⟩;show Ud w (Prv C.X (A2 st.Qg) rho) (Lv (A2 st.Qg)) rho ((a.tmps.setIfInBounds d v).getD t undef) (AM.get (ins d x st.env) t);rw[QP];split
  .simp_all
  rename_i e
  have:=h.env t
  simp_all
def isC:Option Go.Obj->Bool
 |some (.cells ..)|some (.map ..)|some (.mapIter ..)=>true
 |_=>false
def HoldsC.kind {w:World}{Pi:Nat->Nat->Prop}{live:Nat->Prop}{rho:Nat->Value}{h:Value}{o:Obj}(a:HoldsC w Pi live rho h o){b:Nat}(hb:Q9 h o=some b):isC w.heap[b]? = true:=by
 cases o with
 |cells cs=>obtain⟨b',c,T,rfl,h1,_⟩:=a;cases hb;rw[h1];rfl
 |vec e k n f vw=>
  rcases a with⟨rfl,_⟩ | ⟨b',cap,c,rfl,h1,_⟩
  .cases hb
  cases hb;rw[h1];rfl
 |map es=>obtain⟨b',Se,clock,rfl,h1,_⟩:=a;cases hb;rw[h1];rfl
 |arr n f=>obtain⟨b',c,T,rfl,h1,_⟩:=a;cases hb;rw[h1];rfl
 |blk l jr=>obtain⟨_,_,b',rfl,h1⟩:=a;cases hb;rw[h1];unfold BR5;split<;>rfl
 |ghost cs=>cases hb
 |yld r b=>cases hb
 |dead=>cases hb
 |fam e n jr x=>
  rcases a with⟨rv,_,_,⟨rfl,_⟩ | ⟨b',cap,c,rfl,h1,_⟩⟩
  .cases hb
  cases hb;rw[h1];rfl
 |rows=>exact a.elim
def Ue.kind {w:World}{Pi:Nat->Nat->Prop}{live:Nat->Prop}{rho:Nat->Value}{h:Value}{o:Obj}(a:Ue w Pi live rho h o){b:Nat}(hb:G1 h o b):isC w.heap[b]? = true:=by obtain⟨h',o',h1,c⟩:=a.own hb;exact h1.kind c
def Ue.nd {w:World}{Pi:Nat->Nat->Prop}{live:Nat->Prop}{rho:Nat->Value}{h:Value}{o:Obj}(a:Ue w Pi live rho h o){b:Nat}(hb:G1 h o b)(c:w.heap[b]? = some (.deferred (some []))):False:=by
 have:=a.kind hb;rw[c]at this;cases this
def Sat.step {C:Ctx}{st:St}{a:Act}{w:World}{rho:Nat->Value}(h:Sat C st a w rho){R' : C8}{rho' : Nat->Value}{w' : World}(D:Nat->Prop)
 (f:∀j,¬D j->A2 R' j=A2 st.Qg j) (c:∀j,Lv (A2 st.Qg) j->Lv (A2 R') j/\rho' j=rho j) (u:w.heap.size<=w'.heap.size)
 (a3:∀j,¬Lv (A2 st.Qg) j->Lv (A2 R') j->1000<=j) (a4:∀j r b,D j->A2 R' j≠some (.yld r b))
 (g:∀b,b<w.heap.size->(∀j o,D j->A2 st.Qg j=some o->¬G1 (rho j) o b)->w'.heap[b]? = w.heap[b]?)
 (m:∀j o b,D j->A2 R' j=some o->G1 (rho' j) o b->(∃i oi,D i/\A2 st.Qg i=some oi/\G1 (rho i) oi b) \/ w.heap.size<=b)
 (n:∀i j oi oj b,D i->D j->A2 R' i=some oi->A2 R' j=some oj->G1 (rho' i) oi b->G1 (rho' j) oj b->i=j)
 (q:∀i oi b off v,D i->A2 st.Qg i=some oi->G1 (rho i) oi b->¬Prv C.X (A2 st.Qg) rho b off->w.cell? ⟨b,off,none⟩=some v ->
  w'.cell? ⟨b,off,none⟩=some v/\∀j o,D j->A2 R' j=some o->G1 (rho' j) o b->¬MF o off)
 (hh:S0 w (Prv C.X (A2 st.Qg) rho) w' (Prv C.X (A2 R') rho')->∀j o,D j->A2 R' j=some o->Ue w' (Prv C.X (A2 R') rho') (Lv (A2 R')) rho' (rho' j) o) (hext:Ext w w':=by exact⟨rfl,rfl⟩) :
 Sat C { st with Qg:=R' } a w' rho' /\ S0 w (Prv C.X (A2 st.Qg) rho) w' (Prv C.X (A2 R') rho'):=by
 obtain⟨y,hk⟩:=h.hp.update D f c u g m n q hh;refine⟨⟨⟨y,h.ext.trans hext,BX7 h.size u,λb hb hE=>?_,h.keep.trans hk,?_,?_⟩,λt=>(h.env t).keeps hk c,?_,?_⟩,hk⟩
 .rw[g b (BU8 hb h.size) λj o l z s=>?_]
  .exact h.same b hb hE
  rcases h.own b ⟨j,o,z,s⟩with h1|h1
  all_goals grind
 .rintro b ⟨j,o,l,hb⟩;by_cases x:D j
  .rcases m j o b x l hb with⟨i,oi,_,hi,a0⟩ | a1
   .exact h.own b ⟨i,oi,hi,a0⟩
   exact .inr (BX7 h.size a1)
  rw[f j x]at l;rw[(c j (by grind[Lv])).2]at hb;exact h.own b ⟨j,o,l,hb⟩
 .intro j r b l;by_cases x:D j
  .grind
  rw[f j x]at l;rw[(c j (by grind[Lv])).2];exact h.yld j r b l
 .intro j a2 hl;by_cases l:Lv (A2 st.Qg) j
  .rw[(c j l).2];exact h.pin j a2 l
  grind
 refine⟨h.marks.1,λd hd=>?_⟩;obtain⟨r,h1,h2,h3,h4⟩:=h.marks.2 d hd;refine⟨r,h1,h2,?_,h4⟩;rw[g r (by grind) λj o l z s=>(h.hp.holds j o z).nd s h3];omega
section
variable {C:Ctx}{st:St}{a:Act}{w:World}{rho:Nat->Value}
abbrev PiS (C:Ctx)(st:St)(rho:Nat->Value):Nat->Nat->Prop:=Prv C.X (A2 st.Qg) rho
abbrev RS (C:Ctx)(st:St)(w:World)(rho:Nat->Value):Value->AV->Prop:=Ud w (Prv C.X (A2 st.Qg) rho) (Lv (A2 st.Qg)) rho
def Sat.fresh (h:Sat C st a w rho){j:Nat}(s:1000<=j)(hn:A2 st.Qg j=none)(ob:Obj)(c:Value){w' : World}(g:w.heap.size<=w'.heap.size)
 (l:∀b,b<w.heap.size->w'.heap[b]? = w.heap[b]?) (hb:∀b,G1 c ob b->w.heap.size<=b)
 (t:S0 w (PiS C st rho) w' (Prv C.X (A2 (ins j ob st.Qg)) (λi=>if i=j then c else rho i)) ->
  Ue w' (Prv C.X (A2 (ins j ob st.Qg)) (λi=>if i=j then c else rho i)) (Lv (A2 (ins j ob st.Qg))) (λi=>if i=j then c else rho i) c ob) (hy:∀r b,ob ≠ .yld r b:=by intro _ _ h;cases h) (hext:Ext w w':=by exact⟨rfl,rfl⟩) :
 Sat C { st with Qg:=ins j ob st.Qg } a w' (λi=>if i=j then c else rho i)/\S0 w (PiS C st rho) w' (Prv C.X (A2 (ins j ob st.Qg)) (λi=>if i=j then c else rho i)) /\
  ∀i,Lv (A2 st.Qg) i->Lv (A2 (ins j ob st.Qg)) i/\(if i=j then c else rho i)=rho i:=by
 have d:∀i,Lv (A2 st.Qg) i->Lv (A2 (ins j ob st.Qg)) i/\(if i=j then c else rho i)=rho i:=by
  intro i f;by_cases e:i=j
  all_goals simp_all[Lv,Ih,A4,Gb,Cb0,trivial]
 obtain⟨h1,u⟩:=h.step (R':=ins j ob st.Qg) (rho':=λi=>if i=j then c else rho i) (w':=w') (· = j) (λi f=>by rw[A4,Gb (Cb0 f)]) d g
  (λi f m=>by
   simp_all[Lv,A4,Gb,Cb0,Hc])
  (λi r b f v=>by simp_all[A4,Hu,BT2])
  (by grind)
  (λi o b f n q=>by
   simp_all[A4,Hu,BT2])
  (by omega)
  (by grind)
  (λhk i o f n=>by
   simp_all[A4,Hu,BT2]) hext
 grind
def Sat.modify (h:Sat C st a w rho){j:Nat}{o ob:Obj}{b:Nat}(s:A2 st.Qg j=some o)(t:G1 (rho j) o b)(hp:∀off,MF o off)(m : ∀b',G1 (rho j) ob b' -> b' = b){w' : World}(u:w'.heap.size=w.heap.size)
 (f:∀b',b' ≠ b->w'.heap[b']? = w.heap[b']?)
 (y:S0 w (PiS C st rho) w' (Prv C.X (A2 (ins j ob st.Qg)) rho)->Ue w' (Prv C.X (A2 (ins j ob st.Qg)) rho) (Lv (A2 (ins j ob st.Qg))) rho (rho j) ob) (hy:∀r b,ob ≠ .yld r b:=by intro _ _ h;cases h) (hext:Ext w w':=by exact⟨rfl,rfl⟩) :
 Sat C { st with Qg:=ins j ob st.Qg } a w' rho/\S0 w (PiS C st rho) w' (Prv C.X (A2 (ins j ob st.Qg)) rho)/\∀i,Lv (A2 st.Qg) i->Lv (A2 (ins j ob st.Qg)) i/\rho i=rho i:=by
 have d:∀i,Lv (A2 st.Qg) i->Lv (A2 (ins j ob st.Qg)) i/\rho i=rho i:=by
  intro i c;refine⟨?_,rfl⟩
  grind[Lv,A4]
 obtain⟨h1,z⟩:=h.step (R':=ins j ob st.Qg) (rho':=rho) (w':=w') (· = j) (λi c=>by rw[A4,Gb (Cb0 c)]) d (by omega)
  (λi c x=>by
   grind[Lv,A4,Hc])
  (λi r b c he=>by simp_all[A4,Hu,BT2])
  (by grind)
  (λi oi b' c n g=>by
   subst c;simp only[A4,Hu,BT2]at n
   grind)
  (by omega)
  (λi oi b' off v c q g l _=>by subst c;rw[s]at q;cases q;exact Hc (.inr (by grind)) l)
  (λhk i oi c n=>by
   simp_all[A4,Hu,BT2]) hext
 grind
def Sat.viewed (h:Sat C st a w rho){j:Nat}{e:TypeId}{k n:Nat}{f:Nat->List PV}{vw:Bool}(s:A2 st.Qg j=some (.vec e k n f vw)) :Sat C { st with Qg:=ins j (.vec e k n f true) st.Qg } a w rho/\S0 w (PiS C st rho) w (Prv C.X (A2 (ins j (.vec e k n f true) st.Qg)) rho) /\
  (∀i,Lv (A2 st.Qg) i->Lv (A2 (ins j (.vec e k n f true) st.Qg)) i/\rho i=rho i):=by
 have c:∀i,Lv (A2 st.Qg) i->Lv (A2 (ins j (.vec e k n f true) st.Qg)) i/\rho i=rho i:=by
  intro i d;refine⟨?_,rfl⟩
  grind[Lv,A4]
 obtain⟨h1,y⟩:=h.step (R':=ins j (.vec e k n f true) st.Qg) (rho':=rho) (w':=w) (· = j) (λi d=>by rw[A4,Gb (Cb0 d)]) c (BT8 _)
  (λi d l=>by
   grind[Lv,A4,Hc])
  (λi r b d z=>by grind[A4])
  (λb' _ _=>rfl)
  (λi oi b' d m g=>by subst d;simp only[A4,Hu,BT2]at m;subst m;exact .inl ⟨i,_,rfl,s,g⟩)
  (by omega)
  (λi oi b' off v d u g t hc=>by
   subst d;rw[s]at u;cases u;refine⟨hc,λi' oi' l q x hp=>?_⟩;subst l;simp only[A4,Hu,BT2]at q;subst q;refine t (.inr ⟨i',_,s,g, ?_⟩);cases vw
   .trivial
   omega)
  (λhk i oi d m=>by subst d;simp only[A4,Hu,BT2]at m;subst m;exact (h.hp.holds i _ s).keeps (o:=.vec e k n f vw) hk c (λ_ _=>rfl))
 grind
theorem M8 {i j k n:Nat}(a:i<n)(b:j<k):i*k+j<n*k:=
 BU8 (Nat.add_lt_add_left b _) (by rw[<- Cg3];exact BU7 k a)
def Hp.pubd {X:Nat->Nat->Prop}{R:Nat->Option Obj}{w:World}(h:Hp X R rho w){j:Nat}{o:Obj}{b off:Nat}(c:R j=some o)(hb:G1 (rho j) o b)(hp:¬MF o off):¬Prv X R rho b off:=by
 rintro (d|⟨i,oi,f,a,g⟩)
 .exact h.out j o b off c hb d
 have:=h.sep i j oi o b f c a hb
 grind
theorem cell_of_heap {w:World}{b:Nat}{c:Array Value}{T:TypeId}{fz:Nat×Nat}(h:w.heap[b]? = some (.cells c T fz)){o:Nat}(a:o<c.size):w.cell? ⟨b,o,none⟩=some (c.getD o undef):=by
 simp_all[World.cell?,BT3]
def Sat.sl (h:Sat C st a w rho){j m:Nat}{e:TypeId}{k n:Nat}{f:Nat->List PV}(g:A2 st.Qg j=some (.vec e k n f true)){base:Option Addr}{cap n' : Nat}(o:rho j=.slice base n' cap)(hm:m<=n) :Sb w (PiS C st rho) (.slice base m cap) (.sl false k m f):=by
 have d:=h.hp.holds j _ g;rw[o]at d;rcases d with⟨hn,rfl⟩ | ⟨b,cap',c,d,h1,q,r,t,u,v⟩
 .cases hn
  have:m=0:=by omega
  subst this;exact .slnil k f
 cases d;refine .sl false b 0 cap k m f (λi j=>c.getD (i*k+j) undef) (by omega) (by grind) (λi l x hl=>?_) (by grind) none (λ_=>rfl);have s:=M8 (show i<n by omega) hl;have hle:n*k<=c.size:=by rw[r];exact BU7 k q
 rw[BW8];refine⟨cell_of_heap h1 (by omega),h.hp.pubd g (b:=b) (by grind[G1,Q9]) (by grind[MF]),by grind⟩
structure Kp (C:Ctx) (R R' : C8) (w w' : World) (rho rho' : Nat->Value):Prop where
 keeps:S0 w (Prv C.X (A2 R) rho) w' (Prv C.X (A2 R') rho')
 live:∀i,Lv (A2 R) i->Lv (A2 R') i/\rho' i=rho i
def Kp.refl (C:Ctx)(R:C8)(w:World)(rho:Nat->Value):Kp C R R w w rho rho:=⟨S0.refl _ _,by grind⟩
def Kp.trans {C:Ctx}{R R' R'' : C8}{w w' w'' : World}{rho rho' rho'' : Nat->Value}(h:Kp C R R' w w' rho rho')(h' : Kp C R' R'' w' w'' rho' rho''):Kp C R R'' w w'' rho rho'':=
 ⟨h.keeps.trans h'.keeps,λi a=>⟨(h'.live i (h.live i a).1).1,((h'.live i (h.live i a).1).2).trans (h.live i a).2⟩⟩
def Kp.p {R R' : C8}{w w' : World}{rho rho' : Nat->Value}(h:Kp C R R' w w' rho rho'){v:Value}{x:PV}(a:Sb w (Prv C.X (A2 R) rho) v x):Sb w' (Prv C.X (A2 R') rho') v x:=a.keeps h.keeps
def Kp.av {R R' : C8}{w w' : World}{rho rho' : Nat->Value}(h:Kp C R R' w w' rho rho'){v:Value}{x:AV}(a:Ud w (Prv C.X (A2 R) rho) (Lv (A2 R)) rho v x):Ud w' (Prv C.X (A2 R') rho') (Lv (A2 R')) rho' v x:=a.keeps h.keeps h.live
def MM {w:World}{Pi:Nat->Nat->Prop}{live:Nat->Prop}{h:Value}{e:TypeId}{k n:Nat}{f:Nat->List PV}{vw:Bool}(a:Ue w Pi live rho h (.vec e k n f vw)):∃base cap,h=.slice base n cap:=by
 rcases a with⟨rfl,rfl⟩ | ⟨b,cap,c,rfl,_⟩
 all_goals grind
def MN:∀{cs:List AV}{l:List PV},Yr cs=some l->cs=l.map .p
 |[],l,h=>by simp[Yr]at h;subst h;rfl
 |.p x::r,l,h=>by
  simp only[Yr]at h;split at h
  .rename_i l' hl;cases h;rw[MN hl];rfl
  cases h
 |.reg .. :: _,_,h | .vec .. :: _,_,h | .vecp .. :: _,_,h | .elt .. :: _,_,h | .Sc .. :: _,_,h | .clo .. :: _,_,h | .tup .. :: _,_,h | .agr .. :: _,_,h | .yf .. :: _,_,h | .top::_,_,h=>by simp[Yr]at h
def Ud.toP {w:World}{Pi:Nat->Nat->Prop}{live:Nat->Prop}{v:Value}{x:PV}(h:Ud w Pi live rho v (.p x)):Sb w Pi v x:=by cases h;omega
def Ud.clo_fn {w:World}{Pi:Nat->Nat->Prop}{live:Nat->Prop}{f:FuncId}{x y:Array Value}{a b:List AV}{a' b' : List PV}(ha:Yr a=some a')(hb:Yr b=some b')
 (h:Ud w Pi live rho (.func (.func f) x y) (.clo f a b)):Sb w Pi (.func (.func f) x y) (.fn f a' b'):=by
 have:=MN ha;subst this
 have:=MN hb;subst this
 cases h with
 |clo _ _ _ _ _ hx hy hl hr=>
  refine .fn f x y a' b' (by grind) (by grind) (λi c=>?_) λi c=>?_
  .have:=hl i (by simpa using c)
   simp only[BT0,BT7,BT4 c,BU2,BT9]at this⊢;exact this.toP
  have:=hr i (by simpa using c)
  simp only[BT0,BT7,BT4 c,BU2,BT9]at this⊢;exact this.toP
def QR {w:World}{Pi:Nat->Nat->Prop}{live:Nat->Prop}{rho:Nat->Value}:∀{cs:List AV}{l:List PV},AE2 cs=some l->l.length=cs.length/\∀i,i<cs.length->∀{v:Value},Ud w Pi live rho v (cs.getD i .top)->Sb w Pi v (l.getD i default)
 |[],l,h=>by simp only[AE2,BT2]at h;subst h;exact⟨rfl,λi c=>Hc c (by simp)⟩
 |a::r,l,h=>by
  unfold AE2 at h;split at h
  .grind
  .rename_i x r' e;cases e;split at h
   .rename_i l' hl;cases h;obtain⟨g1,g2⟩:=QR hl;refine⟨by simp[g1],λi c v b=>?_⟩;cases i with
    |zero=>exact b.toP
    |succ i=>simpa using g2 i (by simpa using c) (by simpa using b)
   grind
  .rename_i f r' e;cases e;split at h
   .rename_i l' hl;cases h;obtain⟨g1,g2⟩:=QR hl;refine⟨by simp[g1],λi c v b=>?_⟩;cases i with
    |zero=>
     have b:Ud w Pi live rho v (.clo f [] []):=b;cases b with
     |clo _ x y _ _ hx hy _ _=>have d : x = #[]:=Ce0.1 (by simpa using hx);have g : y = #[]:=Ce0.1 (by simpa using hy);subst d;subst g;exact .v _
    |succ i=>simpa using g2 i (by simpa using c) (by simpa using b)
   grind
  grind
def Fu (h:Sat C st a w rho){v:Value}{x:AV}(u:RS C st w rho v x){y' : PV}{R' : C8}(c:Fa st.Qg x=some (y',R')) :Sat C { st with Qg:=R' } a w rho/\Sb w (Prv C.X (A2 R') rho) v y' /\ Kp C st.Qg R' w w rho rho:=by
 cases u with
 |p _ x hx=>simp only[Fa,BT2,BU4]at c;obtain⟨rfl,rfl⟩:=c;exact⟨h,hx.nP,Kp.refl _ _ _ _⟩
 |vec j base n' cap hl hr=>
  simp only[Fa]at c;split at c
  .rename_i e k n f vw g;simp only[BT2,BU4]at c;obtain⟨rfl,rfl⟩:=c;obtain⟨h1,o,q⟩:=h.viewed g;obtain⟨base',cap',d⟩:=MM (h.hp.holds j _ g);rw[hr]at d;cases d;exact⟨h1,h1.sl (j:=j) (m:=n') (e:=e) (k:=k) (n:=n') (f:=f) (by simp[A4]) hr (BT8 _),o,q⟩
  cases c
 |vecp j m base n cap hl hr hm=>
  simp only[Fa]at c;split at c
  .rename_i e k n' f vw g;simp only[BT2,BU4]at c;obtain⟨rfl,rfl⟩:=c;obtain⟨h1,o,q⟩:=h.viewed g;obtain⟨base',cap',d⟩:=MM (h.hp.holds j _ g);rw[hr]at d;cases d;rw[Ca2 hm];exact⟨h1,h1.sl (j:=j) (m:=m) (e:=e) (k:=k) (n:=n) (f:=f) (by simp[A4]) hr hm,o,q⟩
  cases c
 |clo f x y l r hx hy hl hr=>
  have gen:(match Yr l,Yr r with
   |some a,some b=>some (PV.fn f a b,st.Qg)
   |_,_=>none)=some (y',R')->Sat C { st with Qg:=R' } a w rho/\Sb w (Prv C.X (A2 R') rho) (.func (.func f) x y) y' /\ Kp C st.Qg R' w w rho rho:=by
   intro c;split at c
   .rename_i a' b' ha hb;simp only[BT2,BU4]at c;obtain⟨rfl,rfl⟩:=c;exact⟨h,Ud.clo_fn ha hb (.clo f x y l r hx hy hl hr),Kp.refl _ _ _ _⟩
   cases c
  cases l with
  |cons _ _=>exact gen c
  |nil=>
   cases r with
   |cons _ _=>exact gen c
   |nil=>simp only[Fa,BT2,BU4]at c;obtain⟨rfl,rfl⟩:=c;have s : x = #[]:=Ce0.1 (by simpa using hx);have t : y = #[]:=Ce0.1 (by simpa using hy);subst s;subst t;exact⟨h,.v _,Kp.refl _ _ _ _⟩
 |reg=>simp[Fa]at c
 |elt=>simp[Fa]at c
 |yf=>simp[Fa]at c
 |Sc=>simp[Fa]at c
 |tup=>simp[Fa]at c
 |agr x l hx h1 ha=>
  simp only[Fa]at c;split at c
  .rename_i ps hp;simp only[BT2,BU4]at c;obtain⟨rfl,rfl⟩:=c;obtain⟨g1,g2⟩:=QR hp;exact⟨h,.agg x ps (hx.trans g1.symm) (λi z=>h1 i (by omega)) (λi z=>g2 i (by omega) (ha i (by omega))),Kp.refl _ _ _ _⟩
  cases c
 |top=>simp[Fa]at c
end
section
variable {P:Program}
theorem Dg {t:TypeId}{k:TK}(h:tk P t=some k):∃d,P.underlying t=some d/\Yv d=k:=by
 unfold tk at h;cases a:P.underlying t with
 |none=>simp[a]at h
 |some d=>exact⟨d,rfl,by simpa[a]using h⟩
def P6 {t e:TypeId}(h:tk P t=some (.slice e)):P.underlying t=some (.slice e):=by obtain⟨d,a,hk⟩:=Dg h;cases d<;>simp[Yv]at hk<;>subst hk<;>exact a
def Lf {t:TypeId}(h:tk P t=some .str):P.underlying t=some .string:=by obtain⟨d,a,hk⟩:=Dg h;cases d<;>simp[Yv]at hk<;>exact a
def YH {t:TypeId}{k:IntKind}(h:tk P t=some (.int k)):P.underlying t=some (.int k):=by obtain⟨d,a,hk⟩:=Dg h;cases d<;>simp[Yv]at hk<;>subst hk<;>exact a
def Bx5 {t:TypeId}(h:tk P t=some .bool):P.underlying t=some .bool:=by obtain⟨d,a,hk⟩:=Dg h;cases d<;>simp[Yv]at hk<;>exact a
def MO {t k e:TypeId}(h:tk P t=some (.map k e)):P.underlying t=some (.map k e):=by
 obtain⟨d,a,hk⟩:=Dg h;cases d<;>simp[Yv]at hk
 grind
def MP {t e:TypeId}{n:Nat}(h:tk P t=some (.arr n e)):P.underlying t=some (.array n e):=by
 obtain⟨d,a,hk⟩:=Dg h;cases d<;>simp[Yv]at hk
 grind
def Hm {t:TypeId}{fs:List (Nat×TypeId)}(h:tk P t=some (.struct fs)):∃fa:Array Field,P.underlying t=some (.struct fa)/\fs=fa.toList.map λf=>(f.offset,f.type):=by
 obtain⟨d,a,hk⟩:=Dg h;cases d<;>simp[Yv]at hk
 grind
theorem Qw {t:TypeId}{n:Nat}(h:tsz P t=some n):∃i,P.info? t=some i/\i.size=n:=by
 unfold tsz at h;cases a:P.info? t with
 |none=>simp[a]at h
 |some d=>exact⟨d,rfl,by simpa[a]using h⟩
def CT {t:TypeId}{z:List PV}(h:QI P t=some z):∃i v,P.info? t=some i/\i.zero=some v/\z=v.cells.toList.map Tw:=by
 unfold QI at h;cases a:P.info? t with
 |none=>grind
 |some d=>cases b:d.zero<;>grind
variable (w:World)
def BO {t:TypeId}{d:TypeDesc}(h:P.underlying t=some d):(underlying t).run P w=.ok d w:=by simp[underlying,h]
def Bx6 {t:TypeId}{i:TypeInfo}(h:P.info? t=some i):(typeInfo t).run P w=.ok i w:=by simp[typeInfo,h]
def Lg {t:TypeId}{n:Nat}(h:tsz P t=some n):(sizeOf t).run P w=.ok n w:=by
 obtain⟨i,a,rfl⟩:=Qw h
 simp_all[sizeOf,Bx6]
def Bf9 {t:TypeId}{i:TypeInfo}{v:Value}(h:P.info? t=some i)(a:i.zero=some v):(zeroValue t).run P w=.ok v w:=by
 simp_all[zeroValue,Bx6]
def I2 {t:TypeId}{k:TK}(h:tk P t=some k):(isAgg t).run P w=.ok (Ai1 k) w:=by obtain⟨d,a,rfl⟩:=Dg h;cases d<;>simp[isAgg,BO w a,Yv,Ai1]
end
section
variable {w:World}{Pi:Nat->Nat->Prop}{live:Nat->Prop}{rho:Nat->Value}
def RepL (w:World)(Pi:Nat->Nat->Prop)(live:Nat->Prop)(rho:Nat->Value)(f:Nat->Value)(cs:List AV):Prop:= ∀i,i<cs.length->Ud w Pi live rho (f i) (cs.getD i .top)/\(f i).oneCell' = true
def RepL.keeps {w' : World}{Pi' : Nat->Nat->Prop}{live' : Nat->Prop}{rho' : Nat->Value}(hk:S0 w Pi w' Pi')(hl:∀j,live j->live' j/\rho' j=rho j){f:Nat->Value}{cs:List AV}
 (h:RepL w Pi live rho f cs):RepL w' Pi' live' rho' f cs:=λi a=>⟨(h i a).1.keeps hk hl,(h i a).2⟩
def RepL.drop {f:Nat->Value}{cs:List AV}(h:RepL w Pi live rho f cs)(n:Nat):RepL w Pi live rho (λi=>f (n+i)) (cs.drop n):=by
 intro i a;simp at a
 have:=h (n+i) (by omega)
 grind
def RepL.take {f:Nat->Value}{cs:List AV}(h:RepL w Pi live rho f cs)(n:Nat):RepL w Pi live rho f (cs.take n):=by
 intro i a;simp at a
 have:=h i (by omega)
 grind
def RepL.mkAgg {f:Nat->Value}{cs:List AV}(h:RepL w Pi live rho f cs){vs:Array Value}(hs:vs.size=cs.length)(b:∀i,i<cs.length->vs.getD i undef=f i):Ud w Pi live rho (.agg vs) (mkAgg cs):=by
 unfold AM.mkAgg;split
 .rename_i l hl
  have:=MN hl
  subst this;simp only[Ca3]at hs b h;refine .p _ _ (.agg vs l hs (λi a=>?_) λi a=>?_)
  .rw[b i a];exact (h i (by grind)).2
  rw[b i a]
  have:=(h i (by grind)).1
  simp only[BT0,BT7,BT4 a,BU2,BT9]at this⊢;exact this.toP
 exact .agr vs cs hs (λi a=>by rw[b i a];exact (h i a).2) λi a=>by rw[b i a];exact (h i a).1
def AQ4 {v:Value}(h:v.oneCell' = true):v.cells = #[v]:=by cases v<;>first|rfl|grind[Value.oneCell']
def KA {v:Value}{x:AV}(h:Ud w Pi live rho v x)(hs:Eg x=true) :v.cells.size=(cellsOf x).length/\RepL w Pi live rho (λi=>v.cells.getD i undef) (cellsOf x):=by
 have one:∀{v:Value}{x:AV},v.oneCell' = true->Ud w Pi live rho v x->v.cells.size=[x].length/\RepL w Pi live rho (λi=>v.cells.getD i undef) [x]:=by
  intro v x h1 d;rw[AQ4 h1];refine⟨rfl,λi c=>?_⟩;simp only[Ca4]at c;obtain rfl:i=0:=by omega
  exact⟨d,h1⟩
 cases h with
 |p _ y hy=>
  cases y with
  |agg cs=>
   cases hy with
   |agg vs _ hsz h1 h=>
    refine⟨by simp[Value.cells,cellsOf,hsz],λi c=>?_⟩;simp only[cellsOf,Ca3]at c⊢;refine⟨?_,h1 i c⟩
    have:=h i c
    simp only[BT0,BT7,BT4 c,BU2,BT9]at this⊢;exact .p _ _ this
  |v y=>exact one (hy.cell (by simpa[Eg,AP5]using hs)) (.p _ _ hy.nP)
  |bb b=>exact one (hy.cell rfl) (.p _ _ hy)
  |str l=>exact one (hy.cell rfl) (.p _ _ hy)
  |sl nn k n f=>exact one (hy.cell rfl) (.p _ _ hy)
  |ptr cs=>exact one (hy.cell rfl) (.p _ _ hy)
  |iface t a=>exact one (hy.cell rfl) (.p _ _ hy)
  |fn f a b=>exact one (hy.cell rfl) (.p _ _ hy)
 |reg j off b hl h=>exact one rfl (.reg j off b hl h)
 |vec j base n cap hl h=>exact one rfl (.vec j base n cap hl h)
 |vecp j m base n cap hl h hm=>exact one rfl (.vecp j m base n cap hl h hm)
 |elt j k i off b n cap hl h=>exact one rfl (.elt j k i off b n cap hl h)
 |Sc j r hl h=>exact one rfl (.Sc j r hl h)
 |clo f x y a b hx hy ha hb=>exact one rfl (.clo f x y a b hx hy ha hb)
 |tup x a hx ha=>simp[Eg,AP5]at hs
 |agr x a hx h1 ha=>exact⟨hx,λi c=>⟨ha i c,h1 i c⟩⟩
 |yf j l hl h=>exact one rfl (.yf j l hl h)
 |top=>simp[Eg,AP5]at hs
end
section
variable {P:Program}{C:Ctx}{st:St}{a:Act}{w:World}{rho:Nat->Value}{o:Oper}{out:Out}{d:Nat}
def OpOk (P:Program)(C:Ctx)(o:Oper)(st:St)(a:Act)(w:World)(rho:Nat->Value)(out:Out):Prop:= ∃nx v w' rho',(execOp a.eval o).run P w=.ok nx w' /\ (nx=.value v \/ (nx=.skip/\v=undef))/\Sat C { st with Qg:=out.Qg } a w' rho' /\ Kp C st.Qg out.Qg w w' rho rho' /\ Ud w' (Prv C.X (A2 out.Qg) rho') (Lv (A2 out.Qg)) rho' v out.val
def OpOk.pure (h:Sat C st a w rho){c:List Prop}{v:Value}{x:AV}(b:(execOp a.eval o).run P w=.ok (.value v) w)(hx:RS C st w rho v x):OpOk P C o st a w rho ⟨c,x,st.Qg⟩:=
 ⟨_,v,w,rho,b,.inl rfl,h,Kp.refl _ _ _ _,hx⟩
def Sb.toInt {w:World}{Pi:Nat->Nat->Prop}{v:Value}{k:IntKind}{n:Int}(h:Sb w Pi v (.v (.int k n))):v=.int k n:=by cases h;rfl
def Sb.toBool {w:World}{Pi:Nat->Nat->Prop}{v:Value}{b:Bool}(h:Sb w Pi v (.bb b)):v=.bool b:=by cases h;rfl
def Sb.toV {w:World}{Pi:Nat->Nat->Prop}{v x:Value}(h:Sb w Pi v (.v x)):v=x:=by cases h;rfl
def Sb.toStr {w:World}{Pi:Nat->Nat->Prop}{v:Value}{l:List UInt8}(h:Sb w Pi v (.str l)):v=.string ⟨l.toArray⟩:=by cases h;rfl
def AQ5 (h:Sat C st a w rho){x:Operand}(b:o.op=.move x \/ o.op=.assign x)(d:out.Qg=st.Qg)(f:out.val=aev st.env x):OpOk P C o st a w rho out:=by obtain⟨c,v,r⟩:=out;simp only at d f;subst d;subst f;refine OpOk.pure (v:=a.eval x) h ?_ (h.aev x);rcases b with b|b<;>simp[execOp,b]
def Bx7 (h:Sat C st a w rho){c x y:Operand}(f:o.op=.pick c x y)(b:aop P st.env st.Qg d o.op=some out):OpOk P C o st a w rho out:=by
 rw[f]at b;simp only[aop]at b;have hc:=h.aev c;split at b
 .rename_i hk;cases b;rw[hk]at hc;refine OpOk.pure (v:=a.eval x) h ?_ (h.aev x);simp[execOp,f,hc.toP.toV,asBool]
 .rename_i hk;cases b;rw[hk]at hc;refine OpOk.pure (v:=a.eval y) h ?_ (h.aev y);simp[execOp,f,hc.toP.toV,asBool]
 .rename_i hk;cases b;rw[hk]at hc;refine OpOk.pure (v:=a.eval x) h ?_ (h.aev x);simp[execOp,f,hc.toP.toBool,asBool]
 .rename_i hk;cases b;rw[hk]at hc;refine OpOk.pure (v:=a.eval y) h ?_ (h.aev y);simp[execOp,f,hc.toP.toBool,asBool]
 grind
theorem Dh (d i:Nat):1000<=nid d i:=by grind[nid]
def QS {w:World}{Pi:Nat->Nat->Prop}{live:Nat->Prop}{rho:Nat->Value}{v:Value}{t:TypeId}{ps:List PV}(h:Ue w Pi live rho v (.cells (ps.map .p))):Ue w Pi live rho v (Wn P t ps):=by
 unfold Wn;split
 .split
  .rename_i n e hk l;obtain⟨b,c,T,h1,f,g,j⟩:=h;have g:c.size=ps.length:=by grind
   refine⟨b,c,T,h1,f,by omega,λi m=>?_⟩;have a : i<ps.length:=by omega
   have d:=j i (by simpa using a);have e:(ps.map AV.p).getD i .top=.p (ps.getD i default):=by grind
   rw[e]at d;have e2:(ps.map nP).getD i default=nP (ps.getD i default):=by grind
   show Sb w Pi (c.getD i undef) ((ps.map nP).getD i default)/\_;rw[e2];exact⟨d.1.toP.nP,d.2⟩
  omega
 omega
def YI {w:World}{Pi:Nat->Nat->Prop}{live:Nat->Prop}{rho:Nat->Value}{v:Value}{t:TypeId}{x:AV}(h:Ue w Pi live rho v (.cells (cellsOf x))):Ue w Pi live rho v (OV P t x):=by
 unfold OV;split
 .exact QS h
 omega
theorem UJ {v:Value}{t:TypeId}{ps:List PV}{b:Nat}:G1 v (Wn P t ps) b↔(match v with | .pointer (some a)=>some a.block|_=>none:Option Nat)=some b:=by
 unfold Wn;split
 .split<;>rfl
 rfl
theorem Aj4 {v:Value}{t:TypeId}{x:AV}{b:Nat}:G1 v (OV P t x) b↔(match v with | .pointer (some a)=>some a.block|_=>none:Option Nat)=some b:=by
 unfold OV;split
 .exact UJ
 rfl
theorem Ax1 {t:TypeId}{ps:List PV}(r:List (List PV))(b:Bool):Wn P t ps ≠ .yld r b:=by
 grind[Wn]
def AQ6 {t:TypeId}{x:AV}(r:List (List PV))(b:Bool):OV P t x ≠ .yld r b:=by
 unfold OV
 grind[Ax1]
def Bg0 (h:Sat C st a w rho){t:TypeId}(j:o.op=.alloc t)(f:aop P st.env st.Qg d o.op=some out):OpOk P C o st a w rho out:=by
 rw[j]at f;simp only[aop]at f
 repeat' split at f<;>try contradiction
 rename_i z hn l c;cases f;obtain⟨i,v,g,m,rfl⟩:=CT l;obtain⟨h1,n,q⟩:=h.fresh (Dh d 0) hn (Wn P t (v.cells.toList.map Tw)) (.pointer (some ⟨w.heap.size,0,none⟩)) (w':=w.alloc (.cells v.cells t)) (by simp)
  (λb hb=>heap_alloc_old w _ b hb) (λb hb=>by grind[UJ]) (λhk=>by
   refine QS ⟨w.heap.size,v.cells,t,rfl,heap_alloc_new w _,by simp,λi g=>?_⟩;simp at g;have e:(v.cells.getD i undef)=v.cells[i]:=by simp_all
   rw[e];refine⟨?_,?_⟩
   .simp only[BT0,BT7,BX8,BX3 g,BU2,BT9];exact .p _ _ (O6 _ _ _)
   simp only[Cc7,BU0,Function.comp]at c;exact (O6 w (λ_ _=>False) _).cell (c _ (by simp))) (λr b=>Ax1 r b)
 refine⟨_,_,_,_,?_,.inl rfl,h1,⟨n,q⟩,.reg _ 0 w.heap.size (by simp[Lv,A4]) (by simp)⟩
 simp_all[execOp,Instr.alloc,Bf9,newVar,newRow]
def BJ7 (h:Sat C st a w rho){t:TypeId}{x:Operand}(g:o.op=.box t x)(c:aop P st.env st.Qg d o.op=some out):OpOk P C o st a w rho out:=by
 rw[g]at c;simp only[aop]at c;split at c
 .rename_i hn hs;cases c;obtain⟨f,hl⟩:=KA (h.aev x) hs;obtain⟨h1,j,l⟩:=h.fresh (Dh d 0) hn (OV P t (aev st.env x)) (.pointer (some ⟨w.heap.size,0,none⟩)) (w':=w.alloc (.cells (a.eval x).cells t)) (by simp)
   (λb hb=>heap_alloc_old w _ b hb) (λb hb=>by grind[Aj4]) (λhk=>by
    refine YI ⟨w.heap.size,(a.eval x).cells,t,rfl,heap_alloc_new w _,f,hl.keeps hk ?_⟩;intro i m;by_cases e:i=nid d 0
    all_goals simp_all[Lv,Ih,A4,Gb,Cb0,trivial]) (λr b=>AQ6 r b)
  refine⟨_,_,_,_,?_,.inl rfl,h1,⟨j,l⟩,.reg _ 0 w.heap.size (by simp[Lv,A4]) (by simp)⟩
  simp_all[execOp,Instr.box,newVar,newRow]
 grind
def AD {Pi:Nat->Nat->Prop}{live:Nat->Prop}{f:Nat->Value}{cs:List AV}{t:TypeId}{x:AV}{b off:Nat}(hl:RepL w Pi live rho f cs)
 (hc:∀i,i<cs.length->w.cell? ⟨b,off+i,none⟩=some (f i)) (a:ldA P t cs=some x):∃v,(loadVar t ⟨b,off,none⟩).run P w=.ok v w/\Ud w Pi live rho v x:=by
 unfold ldA at a;split at a
 .rename_i k n hk hn;split at a
  .rename_i d;split at a
   .rename_i hle;cases a;have g:=run_loadCells (P:=P) w ⟨b,off,none⟩ n f (λj m=>by rw[BZ0];grind);refine⟨_,?_,(hl.take n).mkAgg (vs:=((List.range n).map f).toArray) (by grind) (λi o=>?_)⟩
    all_goals simp_all[loadVar,I2,Lg,Cb3,BT3]
   grind
  rename_i d;cases cs with
  |nil=>grind
  |cons c r=>
   cases a;have l:=hc 0 (by simp);rw[Cb6]at l;refine⟨f 0,?_,(hl 0 (by simp)).1⟩
   simp_all[loadVar,I2]
 grind
def Ax2 (l:List PV):Yr (l.map .p)=some l:=by
 induction l with
 |nil=>rfl
 |cons x r ih=>grind[Yr]
def AQ7 {t:TypeId}{cs:List PV}{c:List Prop}{x:AV}(a:ldP P t cs=some (c,x))(hc:E5 c):ldA P t (cs.map .p)=some x:=by
 unfold ldP at a;unfold ldA;split at a
 .rename_i k n hk hn;split at a
  .rename_i b;cases a;simp only[E5]at hc;simp only[Ca3,hc,Hu,<- List.map_take,mkAgg,Ax2]
  grind
 grind
def UK (h:Sat C st a w rho){v:Value}{x y:AV}{t:TypeId}{c:List Prop}(hv:RS C st w rho v x)(o:load P st.Qg t x=some (c,y))(hc:E5 c) :∃u,(Instr.loadAt t v).run P w=.ok u w/\RS C st w rho u y:=by
 cases hv with
 |reg j off b hl hr=>
  simp only[load]at o;split at o
  .rename_i cs hj;split at o
   .rename_i y' z;cases o;have hh:=h.hp.holds j _ hj;rw[hr]at hh;obtain⟨b',c,T,r,d,hsz,g⟩:=hh;cases r;obtain⟨u,hu,hru⟩:=AD (P:=P) (t:=t) (b:=b) (off:=off) (RepL.drop (f:=λi=>c.getD i undef) g off) (λi s=>by
     grind[List.length_drop,cell_of_heap]) z
    grind[Instr.loadAt,Instr.sureAddr]
   grind
  .rename_i n f hj;have hh:=h.hp.holds j _ hj;rw[hr]at hh;obtain⟨b',c,T,r,d,hsz,g⟩:=hh;cases r;split at o
   .rename_i k m hk hm;split at o
    .rename_i hag;split at o
     .rename_i hmn;cases o;obtain⟨hmn,hoff⟩:=hmn;subst hoff;subst hmn;obtain⟨u,hu,hru⟩:=AD (P:=P) (t:=t) (b:=b) (off:=0) (w:=w) (rho:=rho) (Pi:=PiS C st rho) (live:=Lv (A2 st.Qg)) (f:=λi=>c.getD i undef) (cs:=(EQ m f).map .p) (x:=.p (.agg (EQ m f)))
       (λi s=>by
        have s:i<m:=by grind[EQ]
        have e:((EQ m f).map AV.p).getD i .top=.p (f i):=by grind[EQ]
        rw[e];exact⟨.p _ _ (g i s).1,(g i s).2⟩)
       (λi s=>by
        have s:i<m:=by grind[EQ]
        rw[BW8]
        grind[cell_of_heap])
       (by
        have hl:((EQ m f).map AV.p).length=m:=by simp[EQ]
        simp_all[ldA,BT8,Hu,List.take_of_length_le,mkAgg,Ax2])
      grind[Instr.loadAt,Instr.sureAddr]
     grind
    rename_i hag;cases o;have hoff:off<n:=hc;refine⟨c.getD off undef,?_,.p _ _ (g off hoff).1⟩;have h0:w.cell? ⟨b,off,none⟩=some (c.getD off undef):=cell_of_heap d (by omega)
    have:(loadVar t ⟨b,off,none⟩).run P w=.ok (c.getD off undef) w:=by simp_all[loadVar,I2]
    grind[Instr.loadAt,Instr.sureAddr]
   grind
  .rename_i T u l jr hj;split at o
   .rename_i y' z;cases o;obtain⟨hlj,hs,b',r,d⟩:=h.hp.holds j _ hj;rw[hr]at r;cases r;obtain⟨base,m,cap,hv⟩:=hs.2 rfl;have d:w.heap[b]? = some (.cells #[if u=0 then .pointer none else .pointer (some ⟨b,0,none⟩),rho jr] T (0,0)):=d;have g:RepL w (PiS C st rho) (Lv (A2 st.Qg)) rho (λi=>(#[if u=0 then Value.pointer none else .pointer (some ⟨b,0,none⟩),rho jr]:Array Value).getD i undef) (BG6 j u jr):=λi s=>match i,s with
     |0,_=>by
      by_cases hu:u=0
      .simp only[BG6,hu,Hu];exact⟨.p _ _ (.v _),rfl⟩
      simp only[BG6,hu,Ih];exact⟨.reg j 0 b hl hr,rfl⟩
     |1,_=>by
      simp only[BG6];refine⟨?_,?_⟩
      .show Ud _ _ _ _ (rho jr) (.vec jr);rw[hv];exact .vec jr base m cap hlj hv
      show (rho jr).oneCell' = true;rw[hv];rfl
     |_+2,s=>Hc s (by show ¬_<2;omega)
    obtain⟨u',hu,hru⟩:=AD (P:=P) (t:=t) (b:=b) (off:=off) (RepL.drop g off) (λi s=>by simp at s;exact cell_of_heap d (by show off+i<2;have:(BG6 j u jr).length=2:=rfl;omega)) z
    grind[Instr.loadAt,Instr.sureAddr]
   grind
  grind
 |elt j k i off b n cap hl hr=>
  simp only[load]at o;split at o
  .rename_i e m n' f vw hj;split at o
   .rename_i hkm;subst hkm;split at o
    .rename_i c' y' z;cases o;have hc':=(QN _ _).1 hc;have hlt:=hc'.2;have hh:=h.hp.holds j _ hj;rw[hr]at hh;rcases hh with⟨hn,_⟩ | ⟨b',cap',cc,r,d,hncap,hsz,hmax,hlen,g⟩
     .omega
     cases r;have hle:n*k<=cc.size:=by rw[hsz];simp_all[BU7]
     obtain⟨u,hu,hru⟩:=AD (P:=P) (t:=t) (b:=b) (off:=i*k+off) (w:=w) (rho:=rho) (Pi:=PiS C st rho) (live:=Lv (A2 st.Qg)) (f:=λl=>cc.getD (i*k+(off+l)) undef) (cs:=((f i).drop off).map .p)
      (λl hl=>by
       simp only[Ca3,BV5,hlen i hlt]at hl;obtain⟨h1,h2⟩:=g i (off+l) hlt (by omega);refine⟨?_,h2⟩
       have:l<((f i).drop off).length:=by grind
       simp only[BT0,BT7,BT4 this,BU2,BT9];have h3:(f i).getD (off+l) default=((f i).drop off)[l]:=by rw[List.getElem_drop,BT0,BT4 (by rw[hlen i hlt];omega),BT9]
       rw[h3]at h1;exact .p _ _ h1)
      (λl hl=>by
       grind[List.length_map,List.length_drop,M8,Nat.add_assoc,cell_of_heap]) (AQ7 z hc'.1)
     grind[Instr.loadAt,Instr.sureAddr]
    grind
   grind
  .rename_i e n' jr i0 x0 hj
   repeat' split at o<;>try contradiction
   rename_i q hk hag;obtain⟨hag,rfl,rfl⟩:=hag;cases o;obtain⟨hin,rfl⟩:=hc;obtain⟨rv,_,_,hh⟩:=h.hp.holds j _ hj;rw[hr]at hh;rcases hh with⟨hn,_⟩ | ⟨b',cap',cc,r,d,hncap,hsz,hmax,hrow,hx⟩
   .omega
   cases r;refine⟨cc.getD i undef,?_,hx⟩;have h0:w.cell? ⟨b,i,none⟩=some (cc.getD i undef):=cell_of_heap d (by omega)
   have:(loadVar t ⟨b,i,none⟩).run P w=.ok (cc.getD i undef) w:=by simp_all[loadVar,I2]
   rw[BY0,Cb6]
   grind[Instr.loadAt,Instr.sureAddr]
  grind
 |p _ x hx=>
  cases hx with
  |ptr b off cs f hcell g=>
   simp only[load]at o;obtain⟨u,hu,hru⟩:=AD (P:=P) (t:=t) (b:=b) (off:=off) (w:=w) (rho:=rho) (Pi:=PiS C st rho) (live:=Lv (A2 st.Qg)) (f:=f) (cs:=cs.map .p)
    (λl hl=>by
     simp at hl;refine⟨?_,(hcell l hl).2.2⟩
     have:=g l hl
     simp only[BT0,BT7,BT4 hl,BU2,BT9]at this⊢;exact .p _ _ this)
    (by grind) (AQ7 o hc)
   grind[Instr.loadAt,Instr.sureAddr]
  |_=>simp[load]at o
 |_=>simp[load]at o
def Bx8 (h:Sat C st a w rho){t:TypeId}{x:Operand}(f:o.op=.load t x)(b:aop P st.env st.Qg d o.op=some out)(hc:E5 out.cond):OpOk P C o st a w rho out:=by
 rw[f]at b;simp only[aop]at b;split at b
 .rename_i c y hl;cases b;obtain⟨u,g,i⟩:=UK h (h.aev x) hl hc
  simp_all[OpOk.pure,execOp]
 grind
end
def I6 {α : Type}(l new:List α)(off:Nat)(h:off+new.length<=l.length):(splice l off new).length=l.length:=by simp only[splice,BW7,Cb3,BV5];omega
def Z1 {α : Type}(l new:List α)(off i:Nat)(d : α)(h:off+new.length<=l.length) :(splice l off new).getD i d=if off<=i/\i<off+new.length then new.getD (i-off) d else l.getD i d:=by
 simp only[splice,BT0,List.getElem?_append,Cb7,Cb8,BW7,Cb3];have hm:min off l.length=off:=by omega
 rw[hm];by_cases h1:i<off
 .have b:i<off+new.length:=by omega
  have a:¬(off<=i):=by omega
  simp[h1,b,a]
 by_cases b:i<off+new.length
 .have a:off<=i:=by omega
  simp[h1,b,a]
 have a:off+new.length+(i-(off+new.length))=i:=by omega
 simp[b,a]
theorem E9 (c:Array Value)(i:Nat):c.getD i undef=c.toList.getD i undef:=by simp[BT3,BT0]
def AQ8 {l i k a b:Nat}(h:l*k+a=i*k+b)(ha:a<k)(hb:b<k):l=i/\a=b:=by
 have h1:(l*k+a) / k=l:=by rw[Cc8,Cj4 (by omega),Cb4 ha];omega
 have c:(i*k+b) / k=i:=by rw[Cc8,Cj4 (by omega),Cb4 hb];omega
 have:l=i:=by rw[<- h1,h,c]
 subst this;exact⟨rfl,by omega⟩
section
variable {w:World}{Pi:Nat->Nat->Prop}{live:Nat->Prop}{rho:Nat->Value}
def RepL.splice {c:List Value}{cs:List AV}{vs:List Value}{new:List AV}{off:Nat}(hs:c.length=cs.length)(h:RepL w Pi live rho (λi=>c.getD i undef) cs)
 (hn:vs.length=new.length) (h' : RepL w Pi live rho (λi=>vs.getD i undef) new) (a:off+new.length<=cs.length):RepL w Pi live rho (λi=>(splice c off vs).getD i undef) (splice cs off new):=by
 intro i b;rw[I6 _ _ _ a]at b;simp only[Z1 c vs off i undef (by omega),Z1 cs new off i .top a,hn];split
 .exact h' (i-off) (by omega)
 exact h i b
end
section
variable {P:Program}{C:Ctx}{st:St}{a:Act}{w:World}{rho:Nat->Value}{o:Oper}{out:Out}{d:Nat}
def Eu {v:Value}{x:AV}{w:World}{Pi:Nat->Nat->Prop}{live:Nat->Prop}(hc:v.cells.size=(cellsOf x).length/\RepL w Pi live rho (λi=>v.cells.getD i undef) (cellsOf x)) :∀u∈v.cells.toList,u.oneCell' = true:=by
 intro u b;obtain⟨i,a,rfl⟩:=Ca0 b;simp only[Ca1]at a
 have:=(hc.2 i (by omega)).2
 simpa[BT3,a]using this
def Ev {b off:Nat}{T t:TypeId}{cur:Array Value}{v:Value}{m:Nat}(hm:tsz P t=some m)(hs:v.cells.size=m)(a:w.heap[b]? = some (.cells cur T (0,0)))(c:off+m<=cur.size)
 (h1:∀u∈v.cells.toList,u.oneCell' = true):(storeVar t ⟨b,off,none⟩ v).run P w=.ok () (w.setRow b (splice cur.toList off v.cells.toList).toArray):=by
 have:=run_storeCells_at (P:=P) b off T v.cells.toList 0 cur w a (by simp[hs];omega) h1
 simp only[Cb6]at this;simp[storeVar,Lg w hm,hs,this,splice]
def QT (h:Sat C st a w rho){t:TypeId}{va vx:Value}{x y:AV}(hva:RS C st w rho va x)(hvx:RS C st w rho vx y){c:List Prop}{R' : C8}
 (he:store P st.Qg t x y=some (c,R')) (hc:E5 c):∃w',(Instr.storeAt t va vx).run P w=.ok () w' /\ Sat C { st with Qg:=R' } a w' rho/\Kp C st.Qg R' w w' rho rho:=by
 unfold store at he;split at he
 .rename_i m hm hsto;have d:=KA hvx hsto;cases hva with
  |reg j off b hl hr=>
   simp only at he;split at he
   .rename_i cs hj;split at he
    .rename_i hsz;cases he;have hh:=h.hp.holds j _ hj;rw[hr]at hh;obtain⟨b',c,T,o,q,r,hrep⟩:=hh;cases o;have s:=Ev (P:=P) (t:=t) (off:=off) (v:=vx) hm (d.1.trans hsz.1) q (by omega) (Eu d);obtain⟨h1,h2,h3⟩:=h.modify (ob:=.cells (splice cs off (cellsOf y))) hj (b:=b) (by simp[G1,Q9,hr]) (λ_=>trivial) (λb' o=>by simp[G1,Q9,hr]at o;exact o.symm)
      (w':=w.setRow b (splice c.toList off vx.cells.toList).toArray) (by simp) (λb' o=>setRow_other w b b' _ o) (λhk=>by
       refine⟨b,_,T,hr,setRow_heap w b c _ T _ q,?_,?_⟩
       .rw[BZ4,I6 _ _ _ (by simp;omega),I6 _ _ _ (by omega)];simpa using r
       have hlive:∀i,Lv (A2 st.Qg) i->Lv (A2 (ins j (.cells (splice cs off (cellsOf y))) st.Qg)) i/\rho i=rho i:=by
        intro i hi;refine⟨?_,rfl⟩;simp only[Lv,A4];split
        .rfl
        exact hi
       have:=RepL.splice (c:=c.toList) (cs:=cs) (vs:=vx.cells.toList) (new:=cellsOf y) (off:=off) (by simpa using r)
        (RepL.keeps hk hlive (by intro i hi;have:=hrep i hi;simpa only[E9]using this)) (by simpa using d.1)
        (RepL.keeps hk hlive (by intro i hi;have:=d.2 i hi;simpa only[E9]using this)) (by omega)
       intro i hi
       have:=this i hi
       simpa[BT3,BT0]using this)
     exact⟨_,by simp[Instr.storeAt,Instr.sureAddr,s],h1,h2,h3⟩
    cases he
   .rename_i n f hj;have hh:=h.hp.holds j _ hj;rw[hr]at hh;obtain⟨b',c,T,o,q,r,hrep⟩:=hh;cases o;have fin:∀g:Nat->PV,vx.cells.size=m->off+m<=n->(∀i,i<n->¬(off<=i/\i<off+m)->g i=f i)->(∀i,i<m->∃y',(cellsOf y).getD i .top=.p y' /\ g (off+i)=y') ->
     ∃w',(Instr.storeAt t (.pointer (some ⟨b,off,none⟩)) vx).run P w=.ok () w' /\ Sat C { st with Qg:=ins j (.arr n g) st.Qg } a w' rho/\Kp C st.Qg (ins j (.arr n g) st.Qg) w w' rho rho:=by
     intro g hvs hle hg1 hg2;have s:=Ev (P:=P) (t:=t) (off:=off) (v:=vx) hm hvs q (by omega) (Eu d);obtain⟨h1,h2,h3⟩:=h.modify (ob:=.arr n g) hj (b:=b) (by simp[G1,Q9,hr]) (λ_=>trivial) (λb' o=>by simp[G1,Q9,hr]at o;exact o.symm)
      (w':=w.setRow b (splice c.toList off vx.cells.toList).toArray) (by simp) (λb' o=>setRow_other w b b' _ o) (λhk=>by
       refine⟨b,_,T,hr,setRow_heap w b c _ T _ q,?_,λi hi=>?_⟩
       .rw[BZ4,I6 _ _ _ (by simp;omega)];simpa using r
       have e1:((splice c.toList off vx.cells.toList).toArray).getD i undef=(splice c.toList off vx.cells.toList).getD i undef:=by simp[BT3,BT0]
       rw[e1,Z1 _ _ _ _ _ (by simp;omega)];by_cases hpos:off<=i/\i<off+vx.cells.toList.length
       .rw[Fg hpos];have hi2:i-off<m:=by simp at hpos;omega
        obtain⟨y',hy1,hy2⟩:=hg2 (i-off) hi2;rw[show off+(i-off)=i by omega]at hy2;have hc2:=d.2 (i-off) (by omega);rw[hy1]at hc2;rw[hy2];simp only[E9]at hc2;exact⟨hc2.1.toP.keeps hk,hc2.2⟩
       rw[Gb hpos,<- E9,hg1 i hi (by simp at hpos⊢;omega)];exact⟨(hrep i hi).1.keeps hk,(hrep i hi).2⟩)
     exact⟨_,by simp[Instr.storeAt,Instr.sureAddr,s],h1,h2,h3⟩
    split at he
    .rename_i ps;split at he
     .rename_i hmn;cases he;obtain⟨hoff,hpl⟩:off=0/\ps.length=n:=hc;subst hoff;refine fin _ ?_ (by omega) (λi hi hn=>Hc ⟨Cd1 _,by omega⟩ hn) (λi hi=>?_)
      .rw[d.1];simp[cellsOf];omega
      refine⟨ps.getD i default,?_,by rw[BW8]⟩;simp[cellsOf,BT0,show i<ps.length by omega]
     cases he
    .rename_i y' hna;split at he
     .rename_i hm1;cases he;have hoff:off<n:=hc;have hco:cellsOf (.p y')=[.p (nP y')]:=by
       cases y' with
       |agg ps=>exact Hc rfl (hna ps)
       |_=>rfl
      refine fin _ ?_ (by omega) (λi hi hn=>?_) (λi hi=>?_)
      .rw[d.1,hco];simp;omega
      .show (if i=off then nP y' else f i)=f i;rw[Gb (by omega)]
      obtain rfl:i=0:=by omega
      exact⟨nP y',by rw[hco];rfl,by simp⟩
     cases he
    cases he
   .rename_i T u l jr0 hj
    repeat' split at he<;>try contradiction
    rename_i jr hh2;cases he;obtain⟨⟨hm1,hoff⟩,hne⟩:=hh2;subst hoff;obtain⟨hlj,hs,b',o,q⟩:=h.hp.holds j _ hj;rw[hr]at o;cases o;have q:w.heap[b]? = some (.cells #[if u=0 then .pointer none else .pointer (some ⟨b,0,none⟩),rho jr0] T (0,0)):=q;obtain⟨base,n,cap,hvx2,hvr,hljr⟩:∃base n cap,vx=.slice base n cap/\rho jr=.slice base n cap/\Lv (A2 st.Qg) jr:=by
     cases hvx with
     |vec _ base n cap hl hr=>exact⟨base,n,cap,rfl,hr,hl⟩
    have s:=Ev (P:=P) (t:=t) (off:=1) (v:=vx) (m:=m) hm (by rw[hvx2,hm1];rfl) q (by show 1+m<=2;omega) (Eu d);obtain⟨h1,h2,h3⟩:=h.modify (ob:=.blk (0::T::u::l) jr) hj (b:=b) (by simp[G1,Q9,hr]) (λ_=>trivial) (λb' o=>by simp[G1,Q9,hr]at o;exact o.symm)
     (w':=w.setRow b (splice (#[if u=0 then Value.pointer none else .pointer (some ⟨b,0,none⟩),rho jr0]:Array Value).toList 1 vx.cells.toList).toArray) (by simp) (λb' o=>setRow_other w b b' _ o) (λhk=>by
      refine⟨?_,⟨λvs e=>(by rw[hvr]at e;cases e),λ_=>⟨_,_,_,hvr⟩⟩,b,hr,?_⟩
      .simp only[Lv,A4];split
       .rfl
       exact hljr
      rw[setRow_heap w b _ _ T _ q,hvr,hvx2];rfl)
    exact⟨_,by simp[Instr.storeAt,Instr.sureAddr,s],h1,h2,h3⟩
   cases he
  |elt j k i off b n cap hl hr=>
   simp only at he;split at he
   .rename_i e k' n' f p hj;split at he
    .rename_i hkk;subst hkk;cases he;obtain⟨hpl,hin,hoff⟩:=hc;have hh:=h.hp.holds j _ hj;rw[hr]at hh;rcases hh with⟨hn,_⟩ | ⟨b',cap',c,o,q,hncap,r,hmax,hlen,hrep⟩
     .cases hn
     cases o;have hcp:(cellsOf (.p p)).length=(CS p).length:=by cases p<;>simp[cellsOf,CS]
     have hcp' : cellsOf (.p p)=(CS p).map .p:=by cases p<;>simp[cellsOf,CS]
     have hle:n*k<=c.size:=by rw[r];exact BU7 k hncap
     have hik:i*k+k<=n*k:=by rw[<- Cg3];exact BU7 k hin
     have s:=Ev (P:=P) (t:=t) (off:=i*k+off) (v:=vx) hm (d.1.trans (hcp.trans hpl)) q (by omega) (Eu d);have hvl:vx.cells.toList.length=m:=by simpa using d.1.trans (hcp.trans hpl)
     obtain⟨h1,h2,h3⟩:=h.modify (ob:=.vec e k n (λl=>if l=i then splice (f l) off (CS p)else f l) false) hj (b:=b) (by simp[G1,Q9,hr]) (λ_=>trivial) (λb' o=>by simp[G1,Q9,hr]at o;exact o.symm)
      (w':=w.setRow b (splice c.toList (i*k+off) vx.cells.toList).toArray) (by simp) (λb' o=>setRow_other w b b' _ o) (λhk=>by
       have hlive:∀l,Lv (A2 st.Qg) l->Lv (A2 (ins j (.vec e k n (λl=>if l=i then splice (f l) off (CS p)else f l) false) st.Qg)) l/\rho l=rho l:=by
        intro l hl;refine⟨?_,rfl⟩;simp only[Lv,A4];split
        .rfl
        exact hl
       refine .inr ⟨b,cap,_,hr,setRow_heap w b c _ e _ q,hncap,?_,hmax,λl hl=>?_,λl jj hl hjj=>?_⟩
       .rw[BZ4,I6 _ _ _ (by simp;omega)];simpa using r
       .by_cases z:l=i
        .subst z;simp only[Hu];rw[I6 _ _ _ (by rw[hlen l hl];omega)];exact hlen l hl
        simp only[z,Ih];exact hlen l hl
       have hold:=hrep l jj hl hjj;have e1:((splice c.toList (i*k+off) vx.cells.toList).toArray).getD (l*k+jj) undef=(splice c.toList (i*k+off) vx.cells.toList).getD (l*k+jj) undef:=by simp[BT3,BT0]
       rw[e1,Z1 _ _ _ _ _ (by simp at hvl⊢;omega)];by_cases hpos:i*k+off<=l*k+jj/\l*k+jj<i*k+off+vx.cells.toList.length
       .rw[Fg hpos];have z:=AQ8 (l:=l) (i:=i) (k:=k) (a:=jj) (b:=l*k+jj-i*k) (by omega) hjj (by omega);obtain⟨rfl,hjj'⟩:=z;simp only[Hu];rw[Z1 _ _ _ _ _ (by rw[hlen l hl];omega),Fg (by omega)];have hc2:=d.2 (jj-off) (by omega);rw[hcp']at hc2;simp only[BT0,BT7,BT4 (show jj-off<(CS p).length by omega),BU2,BT9]at hc2⊢;rw[show l*k+jj-(l*k+off)=jj-off by omega];refine⟨?_,?_⟩
        .have:=(Ud.toP hc2.1).keeps hk
         simpa[BT3]using this
        simpa[BT3]using hc2.2
       rw[Gb hpos,<- E9];refine⟨?_,hold.2⟩;by_cases z:l=i
       .subst z;simp only[Hu];rw[Z1 _ _ _ _ _ (by rw[hlen l hl];omega),Gb (by omega)];exact hold.1.keeps hk
       simp only[z,Ih];exact hold.1.keeps hk)
     exact⟨_,by simp[Instr.storeAt,Instr.sureAddr,s],h1,h2,h3⟩
    cases he
   .rename_i x1 e n' jr i0 x0 hj
    repeat' split at he<;>try contradiction
    rename_i y' hy hm1;obtain⟨rfl,rfl,rfl⟩:=hm1;cases he;obtain⟨hin,rfl⟩:=hc;obtain⟨rv,g1,g2,hh⟩:=h.hp.holds j _ hj;rw[hr]at hh;have hone:=Eu d;rw[hy]at d;have hv1:vx.cells.size=1:=d.1;have hv0:=d.2 0 (by simp);rcases hh with⟨hn,_⟩ | ⟨b',cap',c,o,q,hncap,r,hmax,hrow,hx⟩
    .cases hn
    cases o;rw[BY0,Cb6];have s:=Ev (P:=P) (t:=t) (off:=i) (v:=vx) hm hv1 q (by omega) hone;have hjr:j≠jr:=by rintro rfl;rw[hr]at g2;cases g2
    obtain⟨h1,h2,h3⟩:=h.modify (ob:=.fam e n jr (some (i,y'))) hj (b:=b) (by simp[G1,Q9,hr]) (λ_=>trivial) (λb' o=>by simp[G1,Q9,hr]at o;exact o.symm)
     (w':=w.setRow b (splice c.toList (i) vx.cells.toList).toArray) (by simp) (λb' o=>setRow_other w b b' _ o) (λhk=>by
      have hlive:∀l,Lv (A2 st.Qg) l->Lv (A2 (ins j (.fam e n jr (some (i,y'))) st.Qg)) l/\rho l=rho l:=by
       intro l hl;refine⟨?_,rfl⟩;simp only[Lv,A4];split
       .rfl
       exact hl
      have hget:∀l,l<n->((splice c.toList (i) vx.cells.toList).toArray).getD l undef=if l=i then vx.cells.getD 0 undef else c.getD l undef:=by
       intro l hl;have e1:((splice c.toList (i) vx.cells.toList).toArray).getD l undef=(splice c.toList (i) vx.cells.toList).getD l undef:=by simp[BT3,BT0]
       rw[e1,Z1 _ _ _ _ _ (by simp[hv1];omega)];by_cases z:l=i
       .subst z;rw[Fg (by simp[hv1]),Fg rfl,E9];simp
       rw[Gb (by simp[hv1];omega),Gb z,<- E9]
      refine⟨rv,(hlive jr g1).1,g2,.inr ⟨b,cap,_,hr,setRow_heap w b c _ e _ q,hncap,?_,hmax,λl hl=>?_,?_⟩⟩
      .rw[BZ4,I6 _ _ _ (by simp[hv1];omega)];simpa using r
      .rw[hget l hl];by_cases z:l=i
       .subst z;rw[Fg rfl];exact⟨hv0.2,λe=>Hc rfl e⟩
       rw[Gb z];exact⟨(hrow l hl).1,λ_=>(hrow l hl).2 (by simp;exact λe=>z e.symm)⟩
      show Ud _ _ _ rho _ y';rw[hget i hin,Fg rfl]
      have:=hv0.1
      simp only[Cj8]at this;exact this.keeps hk hlive)
    exact⟨_,by simp[Instr.storeAt,Instr.sureAddr,s],h1,h2,h3⟩
   cases he
  |_=>simp at he
 cases he
def Bg1 (h:Sat C st a w rho){t:TypeId}{x y:Operand}(g:o.op=.store t x y)(b:aop P st.env st.Qg d o.op=some out)(hc:E5 out.cond):OpOk P C o st a w rho out:=by
 rw[g]at b;simp only[aop]at b;split at b
 .rename_i c R' hs;cases b;obtain⟨w',f,h1,i⟩:=QT h (h.aev x) (h.aev y) hs hc;exact⟨.skip,undef,w',rho,by simp[execOp,g,f],.inr ⟨rfl,rfl⟩,h1,i,.p _ _ (.v _)⟩
 cases b
end
section
variable {P:Program}{C:Ctx}{st:St}{a:Act}{w:World}{rho:Nat->Value}{o:Oper}{out:Out}{d:Nat}
theorem Tz (l:List UInt8):(⟨l.toArray⟩:ByteArray).size=l.length:=by show l.toArray.size=_;simp
theorem CU {Pi:Nat->Nat->Prop}{live:Nat->Prop}{v:Value}{x:AV}{n:Int}(h:Ud w Pi live rho v x)(a:asInt x=some n):∃k,v=.int k n:=by
 unfold asInt at a;split at a
 .rename_i k m;cases a;exact⟨k,h.toP.toInt⟩
 cases a
def Ji {t:TypeId}{fs:List (Nat×TypeId)}{f off:Nat}{ft:TypeId}(hk:tk P t=some (.struct fs))(a:fs[f]? = some (off,ft)) :∃fa:Array Field,∃fd:Field,P.underlying t=some (.struct fa)/\fa[f]? = some fd/\fd.offset=off/\fd.type=ft:=by obtain⟨fa,b,rfl⟩:=Hm hk;simp only[BT7,BX8,BV0,BU4]at a;obtain⟨fd,h1,c,d⟩:=a;exact⟨fa,fd,b,h1,c,d⟩
def YJ (h:Sat C st a w rho){t:TypeId}{x:Operand}{f:Nat}(ho:o.op=.fieldAddr t x f)(s:aop P st.env st.Qg d o.op=some out):OpOk P C o st a w rho out:=by
 rw[ho]at s;simp only[aop]at s;split at s
 .rename_i y hy;cases s;have hx:=h.aev x;unfold Br8 at hy;split at hy
  .rename_i fs hk;split at hy
   .rename_i off ft hf;obtain⟨fa,fd,hu,u,rfl,rfl⟩:=Ji hk hf;split at hy
    .cases hy
    .rename_i m z hm;have a0:(m=0)=False:=by refine propext ⟨λe=>?_,False.elim⟩;subst e;exact z rfl
     have r:∀ad:Addr,(fieldPlace ad fd).run P w=.ok (ad.add fd.offset) w:=by intro ad;simp[fieldPlace,Lg w hm,a0]
     have g:∀ad:Addr,a.eval x=.pointer (some ad)->(execOp a.eval o).run P w=.ok (.value (.pointer (some (ad.add fd.offset)))) w:=by intro ad hv;simp[execOp,ho,Instr.fieldAt,BO w hu,u,hv,Instr.sureAddr,r]
     split at hy
     .rename_i j oo l;cases hy;rw[l]at hx;generalize q:a.eval x=v at hx;cases hx with
      |reg j off b hl hr=>refine OpOk.pure h (g _ q) ?_;rw[BZ0];exact .reg j _ b hl hr
     .rename_i j k i oo l;cases hy;rw[l]at hx;generalize q:a.eval x=v at hx;cases hx with
      |elt j k i off b n cap hl hr=>refine OpOk.pure h (g _ q) ?_;rw[BZ0,Cf3];exact .elt j k i _ b n cap hl hr
     .rename_i cs l;cases hy;rw[l]at hx;have hx:=hx.toP;generalize q:a.eval x=v at hx;cases hx with
      |ptr b off cs c hc hrep=>
       refine OpOk.pure h (g _ q) ?_;rw[BZ0];refine .p _ _ (.ptr b _ _ (λj=>c (fd.offset+j)) (λj hj=>?_) λj hj=>?_)
       .simp only[BV5]at hj
        have:=hc (fd.offset+j) (by omega)
        rwa [<- Cf3]at this
       simp only[BV5]at hj
       have:=hrep (fd.offset+j) (by omega)
       simpa[BT0,Cb8]using this
     cases hy
    cases hy
   cases hy
  cases hy
 cases s
def UL {Pi:Nat->Nat->Prop}{live:Nat->Prop}{t:TypeId}{vs:Array Value}{cs:List PV}{off:Nat}{x:AV}{c:List Prop}(hs:vs.size=cs.length)(h1:∀i,i<cs.length->(vs.getD i undef).oneCell' = true)
 (h:∀i,i<cs.length->Sb w Pi (vs.getD i undef) (cs.getD i default)) (b:ldP P t (cs.drop off)=some (c,x)) (hc:E5 c):∃v,(part t vs off).run P w=.ok v w/\Ud w Pi live rho v x:=by
 unfold ldP at b;split at b
 .rename_i k n hk hn;split at b
  .rename_i a;cases b;simp only[E5,BV5]at hc;by_cases f:n=0
   .subst f;refine⟨.agg (vs.extract off off),by simp[part,I2 w hk,a,Lg w hn],.p _ _ (.agg _ _ (by simp;omega) (λi d=>by simp at d) λi d=>by simp at d)⟩
   refine⟨.agg (vs.extract off (off+n)),by simp[part,I2 w hk,a,Lg w hn],.p _ _ (.agg _ _ (by simp;omega) (λi d=>?_) λi d=>?_)⟩
   .simp only[Cb3,BV5]at d
    have:=h1 (off+i) (by omega)
    simpa[BT3,Ce1,show i<min (off+n) vs.size-off by omega,show off+i<vs.size by omega]using this
   simp only[Cb3,BV5]at d
   have:=h (off+i) (by omega)
   simpa[BT3,Ce1,show i<min (off+n) vs.size-off by omega,show off+i<vs.size by omega,show off+i<cs.length by omega,BT0,Cb7,show i<n by omega,Cb8]using this
  rename_i a;split at b
  .rename_i y r j;cases b;have g:off<cs.length:=by
    have:=congrArg List.length j
    simp only[BV5,BW3]at this;omega
   have hy:cs.getD off default=y:=by
    have:=congrArg (λl=>l.head?) j
    simp only[List.head?_drop,List.head?_cons]at this;simp[BT0,this]
   have:=h off g
   rw[hy]at this;refine⟨vs.getD off undef,?_,.p _ _ this⟩;simp[part,I2 w hk,a,BT3,show off<vs.size by omega]
  cases b
 cases b
def Aj5 {Pi:Nat->Nat->Prop}{live:Nat->Prop}{t:TypeId}{vs:Array Value}{cs:List AV}{off:Nat}{x:AV}(hs:vs.size=cs.length)(h1:∀i,i<cs.length->(vs.getD i undef).oneCell' = true)
 (h:∀i,i<cs.length->Ud w Pi live rho (vs.getD i undef) (cs.getD i .top)) (a:ldA P t (cs.drop off)=some x):∃v,(part t vs off).run P w=.ok v w/\Ud w Pi live rho v x:=by
 have hl:RepL w Pi live rho (λi=>vs.getD (off+i) undef) (cs.drop off):=λi c=>by
  simp only[BV5]at c;have e:(cs.drop off).getD i .top=cs.getD (off+i) .top:=by simp[BT0,Cb8]
  rw[e];exact⟨h (off+i) (by omega),h1 (off+i) (by omega)⟩
 unfold ldA at a;split at a
 .rename_i k n hk hn;split at a
  .rename_i b;split at a
   .rename_i hle;cases a;simp only[BV5]at hle;by_cases f:n=0
    .subst f;refine⟨.agg (vs.extract off off),by simp[part,I2 w hk,b,Lg w hn],?_⟩;exact (hl.take 0).mkAgg (vs:=vs.extract off off) (by simp;omega) (λi c=>by simp at c)
    refine⟨.agg (vs.extract off (off+n)),by simp[part,I2 w hk,b,Lg w hn],(hl.take n).mkAgg (by simp;omega) (λi c=>?_)⟩;simp only[Cb3,BV5]at c;simp[BT3,Ce1,show i<min (off+n) vs.size-off by omega,show off+i<vs.size by omega]
   cases a
  rename_i b;cases d:cs.drop off with
  |nil=>rw[d]at a;cases a
  |cons y r=>
   rw[d]at a;cases a;have j:off<cs.length:=by
    have:=congrArg List.length d
    simp only[BV5,BW3]at this;omega
   have g:=(hl 0 (by simp only[BV5];omega)).1;rw[d]at g;refine⟨vs.getD off undef,?_,by simpa using g⟩;simp[part,I2 w hk,b,BT3,show off<vs.size by omega]
 cases a
def Bg2 (h:Sat C st a w rho){t:TypeId}{x:Operand}{f:Nat}(n:o.op=.field t x f)(m:aop P st.env st.Qg d o.op=some out)(hc:E5 out.cond):OpOk P C o st a w rho out:=by
 rw[n]at m;simp only[aop]at m;split at m
 .rename_i c y hy;cases m;have hx:=h.aev x;unfold Br9 at hy;split at hy
  .rename_i fs cs hk g;rw[g]at hx;have hx:=hx.toP;generalize i:a.eval x=v at hx;cases hx with
   |agg vs cs hs h1 hrep=>
    split at hy
    .rename_i off ft q;obtain⟨fa,fd,r,j,rfl,rfl⟩:=Ji hk q;obtain⟨u,l,s⟩:=UL (rho:=rho) (live:=Lv (A2 st.Qg)) hs h1 hrep hy hc;exact OpOk.pure h (by simp[execOp,n,Instr.field,BO w r,j,i,asAgg,l]) s
    cases hy
  .rename_i fs cs hk g;rw[g]at hx;generalize i:a.eval x=v at hx;cases hx with
   |agr vs cs hs h1 hrep=>
    repeat' split at hy<;>try contradiction
    rename_i off ft q _ b hb;cases hy;obtain⟨fa,fd,r,j,rfl,rfl⟩:=Ji hk q;obtain⟨u,l,s⟩:=Aj5 (rho:=rho) (live:=Lv (A2 st.Qg)) hs h1 hrep hb;exact OpOk.pure h (by simp[execOp,n,Instr.field,BO w r,j,i,asAgg,l]) s
  cases hy
 cases m
def Aj6 (h:Sat C st a w rho){x:Operand}(c:o.op=.nilCheck x)(b:aop P st.env st.Qg d o.op=some out):OpOk P C o st a w rho out:=by
 rw[c]at b;simp only[aop]at b;split at b
 .rename_i hn;cases b;have hx:=h.aev x;refine OpOk.pure (v:=a.eval x) h ?_ hx;simp only[execOp,c];generalize f:a.eval x=v at hx⊢;generalize g:aev st.env x=y at hn hx;cases hx with
  |p _ z hz=>
   cases hz with
   |v z=>simp only[Bf0]at hn;split at hn<;>simp_all
   |_=>first|rfl|simp[Bf0]at hn
  |_=>first|rfl|simp[Bf0]at hn
 cases b
def AE5 (h:Sat C st a w rho){x:Operand}{i:Nat}(g:o.op=.extract x i)(b:aop P st.env st.Qg d o.op=some out):OpOk P C o st a w rho out:=by
 rw[g]at b;simp only[aop]at b
 repeat' split at b<;>try contradiction
 rename_i l c _ y hy;cases b;have hx:=h.aev x;rw[c]at hx;generalize f:a.eval x=v at hx;cases hx with
 |tup vs l hs hl=>
  obtain⟨j,rfl⟩:=BV1.1 hy
  have:=hl i j
  refine OpOk.pure (v:=vs.getD i undef) h ?_ (by simpa[BT0,j]using this);simp[execOp,g,Instr.extract,f,BT3,show i<vs.size by omega]
def PY (h:Sat C st a w rho){t:TypeId}{x:Operand}(g:o.op=.makeInterface t x)(b:aop P st.env st.Qg d o.op=some out):OpOk P C o st a w rho out:=by
 rw[g]at b;simp only[aop]at b;split at b
 .rename_i y R' k i hk;obtain⟨h1,j,l⟩:=Fu h (h.aev x) i;obtain⟨dd,m,c⟩:=Dg hk;split at b
  .cases b
  rename_i f;cases b;refine⟨_,.iface t (a.eval x),w,rho,?_,.inl rfl,h1,l,.p _ _ (.iface t _ _ j)⟩
  have:∀ms,dd ≠ .interface ms:=by rintro ms rfl;exact f ms.size (by simpa[Yv]using c.symm)
  cases dd<;>first|(simp[execOp,g,Instr.makeInterface,BO w m];done)|exact Hc rfl (this _)
 cases b
def Aj7 (h:Sat C st a w rho){f:FuncId}{x y:Array Operand}(g:o.op=.makeFunc (.func f) x y)(c:aop P st.env st.Qg d o.op=some out):OpOk P C o st a w rho out:=by
 rw[g]at c;simp only[aop,BT2]at c;subst c;refine OpOk.pure (v:=.func (.func f) (x.map a.eval) (y.map a.eval)) h (by simp[execOp,g,Instr.makeFunc]) ?_;refine .clo f _ _ _ _ (by simp) (by simp) (λi b=>?_) λi b=>?_
 .simp only[Ca3,Ca1]at b
  have:=h.aev x[i]
  simpa[BT3,BT0,b]using this
 simp only[Ca3,Ca1]at b
 have:=h.aev y[i]
 simpa[BT3,BT0,b]using this
def AE6 (h:Sat C st a w rho){t:TypeId}(g:o.op=.makeMap t none)(c:aop P st.env st.Qg d o.op=some out):OpOk P C o st a w rho out:=by
 rw[g]at c;simp only[aop]at c;split at c
 .rename_i hn;cases c;obtain⟨h1,j,l⟩:=h.fresh (Dh d 0) hn (.map []) (.map (some w.heap.size)) (w':=w.alloc (.map #[] 0)) (by simp)
   (λb hb=>heap_alloc_old w _ b hb) (λb hb=>by simp[G1,Q9]at hb;omega) (λhk=>⟨w.heap.size,#[],0,rfl,heap_alloc_new w _,rfl,λi f=>by simp at f,rfl,λi f=>by simp at f⟩)
  refine⟨_,_,_,_,?_,.inl rfl,h1,⟨j,l⟩,.Sc _ w.heap.size (by simp[Lv,A4]) (by simp)⟩;simp[execOp,g,Instr.makeMap]
 cases c
def Bx9 (h:Sat C st a w rho){op:UnOp}{t:TypeId}{x:Operand}(g:o.op=.unOp op t x)(i:aop P st.env st.Qg d o.op=some out):OpOk P C o st a w rho out:=by
 rw[g]at i;simp only[aop]at i;split at i
 .rename_i r f;cases i;have hx:=h.aev x;unfold un at f;split at f
  .rename_i b c;cases f;rw[c]at hx;exact OpOk.pure (v:=.bool !b) h (by simp[execOp,g,Op.unary,hx.toP.toV]) (.p _ _ (.v _))
  .rename_i b c;cases f;rw[c]at hx;exact OpOk.pure (v:=.bool !b) h (by simp[execOp,g,Op.unary,hx.toP.toBool]) (.p _ _ (.bb _))
  .rename_i k n c;cases f;rw[c]at hx;exact OpOk.pure (v:=.int k (k.wrap (0-n))) h (by simp[execOp,g,Op.unary,hx.toP.toInt,Op.intArith]) (.p _ _ (.v _))
  .rename_i k n c;cases f;rw[c]at hx;exact OpOk.pure (v:=.int k (E6 .xor k (if k.signed then -1 else k.max) n)) h (by first|(simp[execOp,g,Op.unary,hx.toP.toInt,Op.intBits];done)|(simp[execOp,g,Op.unary,hx.toP.toInt,Op.intBits];rfl)) (.p _ _ (.v _))
  cases f
 cases i
def BJ8 (h:Sat C st a w rho){c:Call}(hc:c.callee=.builtin .len)(ho:o.op=.call c)(u:aop P st.env st.Qg d o.op=some out):OpOk P C o st a w rho out:=by
 obtain⟨callee,args,types⟩:=c;simp only at hc;subst hc;rw[ho]at u;simp only[aop]at u;split at u
 .rename_i x t q i;split at u
  .rename_i n hn;cases u;obtain⟨args⟩:=args;obtain⟨types⟩:=types;simp only at q i;subst q;subst i;have hx:=h.aev x;refine OpOk.pure (v:=.int .i64 n) h ?_ (.p _ _ (.v _));have key:(Builtin.len_ #[t] o.type #[a.eval x]).run P w=.ok (.int .i64 n) w:=by
    unfold AO6 at hn;split at hn
    .rename_i l hk g;cases hn;rw[g]at hx;simp[Builtin.len_,BO w (Lf hk),hx.toP.toStr,goInt,Tz]
    .rename_i e nn k m f hk g;cases hn;rw[g]at hx;have hx:=hx.toP;generalize s:a.eval x=v at hx;cases hx<;>simp[Builtin.len_,BO w (P6 hk),goInt]
    .rename_i hk g;cases hn;rw[g]at hx;rw[hx.toP.toV];simp[Builtin.len_,BO w (P6 hk),goInt]
    .rename_i hk g;cases hn;rw[g]at hx;rw[hx.toP.toV];simp[Builtin.len_,BO w (MO hk),goInt]
    .rename_i j hk g;rw[g]at hx;split at hn
     .rename_i e k m f vw z;cases hn;generalize s:a.eval x=v at hx;cases hx with
      |vec j base n' cap hl hr=>obtain⟨b',c',a0⟩:=MM (h.hp.holds j _ z);rw[hr]at a0;cases a0;simp[Builtin.len_,BO w (P6 hk),goInt]
     .rename_i e m jr x0 z;cases hn;generalize s:a.eval x=v at hx;cases hx with
      |vec j base n' cap hl hr=>
       obtain⟨rv,_,_,hh⟩:=h.hp.holds j _ z;rw[hr]at hh;rcases hh with⟨hs,rfl⟩ | ⟨b,cap',c,hb',_⟩
       .cases hs;simp[Builtin.len_,BO w (P6 hk),goInt]
       cases hb';simp[Builtin.len_,BO w (P6 hk),goInt]
     cases hn
    .rename_i j m hk g;cases hn;rw[g]at hx;generalize s:a.eval x=v at hx;cases hx;simp[Builtin.len_,BO w (P6 hk),goInt]
    .rename_i j hk g;rw[g]at hx;split at hn
     .rename_i es z;cases hn;generalize s:a.eval x=v at hx;cases hx with
      |Sc j r hl hr=>
       have hh:=h.hp.holds j _ z;rw[hr]at hh;obtain⟨b,Se,clock,hb,y,hsz,_⟩:=hh;cases hb;have hg:(getObj r).run P w=.ok (.map Se clock) w:=by simp[getObj,Sem.run,y]
       simp[Builtin.len_,BO w (MO hk),goInt,hg,hsz]
     cases hn
    .rename_i n' e hk;cases hn;simp[Builtin.len_,BO w (MP hk),goInt]
    cases hn
   simp[execOp,ho,resolve,invoke,builtin,key]
  cases u
 cases u
def YK (h:Sat C st a w rho){c:Call}(hc:c.callee=.builtin .min \/ c.callee=.builtin .max)(g:o.op=.call c)(f:aop P st.env st.Qg d o.op=some out):OpOk P C o st a w rho out:=by
 obtain⟨callee,args,types⟩:=c;simp only at hc;rw[g]at f;rcases hc with hc|hc<;>subst hc<;>simp only[aop]at f<;>split at f<;>try cases f
 all_goals
  rename_i k x l y b;obtain⟨args⟩:=args;rcases args with _|⟨p,_|⟨q,_|⟨r,s⟩⟩⟩<;>simp only[BU9,Cc9,Ca5,and_true,and_false,reduceCtorEq]at b
  have hp:=h.aev p;have i:=h.aev q;rw[b.1]at hp;rw[b.2]at i;refine OpOk.pure h ?_ (.p _ _ (.v _));simp[execOp,g,resolve,invoke,builtin,Builtin.min_,Builtin.max_,Builtin.min2,Builtin.max2,hp.toP.toInt,i.toP.toInt]
end
def bget (l:List UInt8)(n:Nat):(⟨l.toArray⟩:ByteArray)[n]? = l[n]?:=by
 by_cases h:n<l.length
 .rw[getElem?_pos _ _ (by rw[Tz];exact h),BT4 h];rfl
 grind[Tz,List.getElem?_eq_none]
def Bg3 (l:List UInt8)(i j:Nat):(⟨l.toArray⟩:ByteArray).extract i j=⟨((l.take j).drop i).toArray⟩:=by apply ByteArray.ext;simp[List.drop_take]
def By0 (x y:List UInt8):(⟨x.toArray⟩:ByteArray)++⟨y.toArray⟩=⟨(x++y).toArray⟩:=by apply ByteArray.ext;simp
def Cy (c:Nat->Nat->Value)(n k:Nat):List Value:=(List.range (n*k)).map λp=>c (p / k) (p % k)
def J5 (c:Nat->Nat->Value)(n k:Nat):(Cy c n k).length=n*k:=by simp[Cy]
theorem AQ9 (c:Nat->Nat->Value){n k i j:Nat}(b:i<n)(a:j<k):(Cy c n k).getD (i*k+j) undef=c i j:=by
 have h:=M8 b a;have h1:(i*k+j) / k=i:=by rw[Cc8,Cj4 (by omega),Cb4 a];omega
 have d:(i*k+j) % k=j:=by rw[Cc8,Cf4,BZ8 a]
 grind[Cy]
def QU {c:Nat->Nat->Value}{n k p:Nat}{u:Value}(h:(Cy c n k)[p]? = some u):p / k<n/\p % k<k/\p=p / k*k+p % k/\u=c (p / k) (p % k):=by
 obtain⟨hp,rfl⟩:=BV1.1 h;rw[J5]at hp;have hk:0<k:=by
  grind
 refine⟨Nat.div_lt_of_lt_mul (by rwa [Cc8]at hp),Nat.mod_lt _ hk,(Nat.div_add_mod' p k).symm,by simp[Cy]⟩
section
variable {P:Program}{C:Ctx}{st:St}{a:Act}{w:World}{rho:Nat->Value}{o:Oper}{out:Out}{d:Nat}
def QV (h:Sat C st a w rho){v:Value}{x:AV}(hv:RS C st w rho v x){k n:Nat}{g:Nat->List PV}(d:elems st.Qg k x=some (n,g)){tx:TypeId}{k2:TK}(ht:tk P tx=some k2)
 (hk2:srcK k2=true) :
 ∃c:Nat->Nat->Value,Src P k tx v n (Cy c n k) w/\(∀i,i<n->(g i).length=k)/\∀i j,i<n->j<k->Sb w (PiS C st rho) (c i j) ((g i).getD j default)/\(c i j).oneCell' = true:=by
 have o:(∃e',P.underlying tx=some (.slice e')) \/ P.underlying tx=some .string:=by
  cases k2<;>simp[srcK]at hk2
  all_goals simp_all[Lf,P6]
 have sliceSrc:∀(ad:Addr) (cap:Nat) (c:Nat->Nat->Value),(∀i j,i<n->j<k->w.cell? (ad.add (i*k+j))=some (c i j)/\(c i j).oneCell' = true)->Src P k tx (.slice (some ad) n cap) n (Cy c n k) w:=by
  intro ad cap c hc;have z:∀p u,(Cy c n k)[p]? = some u->w.cell? (ad.add p)=some u:=by
   intro p u hp;obtain⟨h1,h2,h3,rfl⟩:=QU hp;rw[h3]
   have:=(hc (p / k) (p % k) h1 h2).1
   rwa [<- h3]at this⊢
  refine⟨o,λ_=>rfl,run_firstCells_some w k n ad n cap _ (J5 _ _ _) z,run_firstCells_some w.drew k n ad n cap _ (J5 _ _ _) (by simp_all),J5 _ _ _,?_⟩;intro u hu;obtain⟨p,hp⟩:=Cj6 hu;obtain⟨h1,h2,h3,rfl⟩:=QU hp
  grind
 have nilSrc:∀cap,n=0->∀c,Src P k tx (.slice none 0 cap) n (Cy c n k) w:=by
  intro cap hn c;subst hn;refine⟨o,λ_=>rfl,?_,?_,by simp[Cy],by simp[Cy]⟩
  all_goals grind[Cy,run_firstCells_none]
 cases hv with
 |p _ y hy=>
  cases hy with
  |v y=>
   simp only[elems]at d;split at d<;>try cases d
   all_goals simp_all
  |str l=>
   simp only[elems]at d;split at d
   .rename_i hk1;cases d;subst hk1;have hsrc:P.underlying tx=some .string->Src P 1 tx (.string ⟨l.toArray⟩) l.length (Cy (λi _=>.int .u8 ((l.getD i 0).toNat:Nat)) l.length 1) w:=by
     intro hs
     have:=Src.ofString (P:=P) w hs ⟨l.toArray⟩
     rw[Tz]at this;have e:byteCells ⟨l.toArray⟩=Cy (λi _=>.int .u8 ((l.getD i 0).toNat:Nat)) l.length 1:=by
      apply Ch3;intro i;simp only[byteCells,Cy,BT7,BY0]
      grind
     rwa [e]at this
    refine⟨λi _=>.int .u8 ((l.getD i 0).toNat:Nat),?_,λi hi=>rfl,λi j hi s=>?_⟩
    .rcases o with⟨e',hs⟩ | hs
     .refine⟨.inl ⟨e',hs⟩,λw'=>?_,?_,?_,J5 _ _ _,?_⟩
      .have hx:=Lf (P:=P) (t:=tx);simp[Builtin.lenOf,Tz]
      .have:=firstCells_string (P:=P) ⟨l.toArray⟩ w
       rw[Tz]at this;rw[this];congr 2;apply Ch3;intro i;simp only[byteCells,Cy,BT7,BY0]
       grind
      .have:=firstCells_string (P:=P) ⟨l.toArray⟩ w.drew
       rw[Tz]at this;rw[this];congr 2;apply Ch3;intro i;simp only[byteCells,Cy,BT7,BY0]
       grind
      intro u hu;obtain⟨p,hp⟩:=Cj6 hu;obtain⟨_,_,_,rfl⟩:=QU hp;rfl
     grind
    obtain rfl:j=0:=by omega
    exact⟨.v _,rfl⟩
   grind
  |slnil k' f=>
   simp only[elems]at d;split at d
   .rename_i hkk;cases d
    simp_all
   grind
  |sl nn b off cap k' n' f c hn q hc r sp hsp=>
   simp only[elems]at d;split at d
   .rename_i hkk;cases d;subst hkk;refine⟨c,sliceSrc _ _ _ (λi j hi s=>?_),q,by grind⟩;obtain rfl:=hsp (by omega);rw[BZ0,<- Cf3]
    grind
   grind
  |_=>simp[elems]at d
 |vec j base n' cap hl hr=>
  simp only[elems]at d
  repeat' split at d<;>try contradiction
  rename_i e m n'' f vw s hm;cases d;subst hm;have hh:=h.hp.holds j _ s;rw[hr]at hh;rcases hh with⟨hn,rfl⟩ | ⟨b,cap',cc,a0,a1,a2,a3,hmax,q,r⟩
  .simp_all
  cases a0;have hle:n*m<=cc.size:=by rw[a3];simp_all[BU7]
  refine⟨λi j=>cc.getD (i*m+j) undef,sliceSrc _ _ _ (λi j hi s=>?_),q,r⟩;rw[BZ0,BW8]
  have:=M8 hi s
  grind[cell_of_heap]
 |vecp j mm base n' cap hl hr hmn=>
  simp only[elems]at d
  repeat' split at d<;>try contradiction
  rename_i e m n'' f vw s hm;cases d;subst hm;have hh:=h.hp.holds j _ s;rw[hr]at hh;rcases hh with⟨hn,rfl⟩ | ⟨b,cap',cc,a0,a1,a2,a3,hmax,q,r⟩
  .simp_all
  cases a0;rw[Ca2 hmn]at *;have hle:n' * m<=cc.size:=by rw[a3];simp_all[BU7]
  refine⟨λi j=>cc.getD (i*m+j) undef,sliceSrc _ _ _ (λi j hi s=>?_),by grind,by grind⟩;rw[BZ0,BW8]
  have:=M8 (show i<n' by omega) s
  grind[cell_of_heap]
 |_=>simp[elems]at d
end
section
variable {P:Program}{C:Ctx}{st:St}{a:Act}{w:World}{rho:Nat->Value}{o:Oper}{out:Out}{d:Nat}
def Sat.moved (h:Sat C st a w rho){j jn:Nat}{oj:Obj}(z:A2 st.Qg j=some oj)(x:1000<=jn)(hn:A2 st.Qg jn=none)(ob:Obj)(d:Value){w' : World}(m:w.heap.size<=w'.heap.size)
 (n:∀b,b<w.heap.size->¬G1 (rho j) oj b->w'.heap[b]? = w.heap[b]?)
 (hb:∀b,G1 d ob b->G1 (rho j) oj b \/ w.heap.size<=b)
 (o:∀b off v,G1 (rho j) oj b->¬Prv C.X (A2 st.Qg) rho b off->w.cell? ⟨b,off,none⟩=some v->w'.cell? ⟨b,off,none⟩=some v/\(G1 d ob b->¬MF ob off))
 (hh:S0 w (PiS C st rho) w' (Prv C.X (A2 (ins jn ob (ins j .dead st.Qg))) (λi=>if i=jn then d else rho i)) ->
  Ue w' (Prv C.X (A2 (ins jn ob (ins j .dead st.Qg))) (λi=>if i=jn then d else rho i)) (Lv (A2 (ins jn ob (ins j .dead st.Qg)))) (λi=>if i=jn then d else rho i) d ob) (hy:∀r b,ob ≠ .yld r b:=by intro _ _ h;cases h) (hext:Ext w w':=by exact⟨rfl,rfl⟩) :
 Sat C { st with Qg:=ins jn ob (ins j .dead st.Qg) } a w' (λi=>if i=jn then d else rho i)/\Kp C st.Qg (ins jn ob (ins j .dead st.Qg)) w w' rho (λi=>if i=jn then d else rho i):=by
 have l:jn≠j:=by grind
 have f:∀i,Lv (A2 st.Qg) i->Lv (A2 (ins jn ob (ins j .dead st.Qg))) i/\(if i=jn then d else rho i)=rho i:=by
  intro i c;have e:i≠jn:=by rintro rfl;grind[Lv]
  refine⟨?_,by grind⟩;simp only[Lv,A4,Gb (Cb0 e)];split
  .rfl
  exact c
 have hR:∀i oi b,A2 (ins jn ob (ins j .dead st.Qg)) i=some oi->(i=j \/ i=jn)->G1 (if i=jn then d else rho i) oi b->i=jn/\oi=ob:=by
  intro i oi b c g q;rcases g with rfl|rfl
  .rw[A4,Gb l,A4,Fg rfl]at c
   grind[G1,Q9]
  rw[A4,Fg rfl]at c;cases c;exact⟨rfl,rfl⟩
 obtain⟨h1,s⟩:=h.step (R':=ins jn ob (ins j .dead st.Qg)) (rho':=λi=>if i=jn then d else rho i) (w':=w') (λi=>i=j \/ i=jn)
  (λi c=>by have h1:¬j=i:=(by omega);have s:¬jn=i:=(by omega);rw[A4,Gb s,A4,Gb h1])
  f m
  (λi c t=>by
   by_cases e:i=jn
   .omega
   simp only[Lv,A4,Gb (Cb0 e)]at t
   grind[Lv,Hc])
  (λi r b c u=>by
   rcases c with rfl|rfl
   .rw[A4,Gb l,A4,Fg rfl]at u;grind
   rw[A4,Fg rfl]at u;grind)
  (by grind)
  (by grind)
  (by grind)
  (λi oi b off v g hr q y hc=>by
   grind)
  (λhk i oi g c=>by
   rcases g with rfl|rfl
   .rw[A4,Gb l,A4,Fg rfl]at c;cases c;trivial
   rw[A4,Fg rfl]at c
   grind) hext
 exact⟨h1,s,f⟩
def BP {t tx ty e:TypeId}{i:TypeInfo}{z:Value}(ht:P.underlying t=some (.slice e))(v:P.info? e=some i)(hz:i.zero=some z)(y:z.cells.size=i.size)(hby:0<i.bytes)
 {x:Value}{n:Nat}{news:List Value}(hs:Src P i.size tx x n news w) {s:Value}{m:Nat}{olds:List Value}{b cap:Nat}{c:Array Value}
 (hv:(s=.slice none 0 0/\m=0/\olds=[]) \/ (s=.slice (some ⟨b,0,none⟩) m cap/\w.heap[b]? = some (.cells c e (0,0))/\m<=cap/\c.size=cap*i.size/\cap<=maxLen/\olds=c.toList.take (m*i.size)))
 (a4:m+n<=140737488355328) (d:(m+n)*i.bytes<=140737488355328) :
 ∃v' w',(Builtin.append_ #[t,tx] ty #[s,x]).run P w=.ok v' w' /\
  ((s=.slice none 0 0/\v' = .slice none 0 0/\m+n=0/\w' = w) \/
   (∃cap',s=.slice (some ⟨b,0,none⟩) m cap' /\ v' = .slice (some ⟨b,0,none⟩) (m+n) cap/\m+n<=cap/\w' = w.setRow b (splice c.toList (m*i.size) news).toArray) \/
   (∃cap' arr,v' = .slice (some ⟨w.heap.size,0,none⟩) (m+n) cap' /\ w' = w.drew.alloc (.cells arr e)/\m+n<=cap' /\ cap' <= maxLen/\arr.size=cap' * i.size/\∃r,arr.toList=olds++news++r)):=by
 have a0:((m+n:Nat):Int)<=9223372036854775807:=by omega
 have a1:m+n<=maxLen:=by grind[maxLen]
 have grow:∀(base:Option Addr) (old:Nat),s=.slice base m old->old<m+n->olds.length=m*i.size->(Builtin.firstCells i.size m (.slice base m old)).run P w.drew=.ok olds.toArray w.drew ->
  ∃v' w',(Builtin.append_ #[t,tx] ty #[s,x]).run P w=.ok v' w' /\ (∃cap' arr,v' = .slice (some ⟨w.heap.size,0,none⟩) (m+n) cap' /\ w' = w.drew.alloc (.cells arr e)/\m+n<=cap' /\ cap' <= maxLen/\arr.size=cap' * i.size/\∃r,arr.toList=olds++news++r):=by
  intro base old a2 j f a3;subst a2;have hr:=run_append_grow_src (P:=P) w t tx ty e i z ht v hz base m old olds a3 x n news hs j a0 (growslice_fits j d);refine⟨_,_,hr,_,_,rfl,rfl,grownCap_ge w _ _ e,grownCap_le_maxLen w _ _ e a1,?_,(Builtin.zeroCells z.cells (grownCap w (m+n) old e-(m+n))).toList,?_⟩
  .have hge:=grownCap_ge w (m+n) old e;simp only[Array.size_append,BZ4,BW7,size_zeroCells,y,f,hs.newsLen,<- Cf0]
   grind
  grind
 rcases hv with⟨rfl,rfl,rfl⟩ | ⟨rfl,hg,hmc,l,hcm,rfl⟩
 .by_cases hn:n=0
  .subst hn;refine⟨.slice none 0 0,w,?_,by grind⟩;have g:news=[]:=Cd7 (by simpa using hs.newsLen);subst g;rcases hs.kind with⟨e',hk⟩ | hk<;>simp[Builtin.append_,run_underlying ht,run_underlying hk,sizeOf,typeInfo,v,hs.len,hs.cells]
  obtain⟨v',w',h1,h2⟩:=grow none 0 rfl (by omega) (by simp) (by grind[run_firstCells_none])
  grind
 have hle:m*i.size<=c.size:=by rw[l];grind[Nat.mul_le_mul_right]
 have f:(c.toList.take (m*i.size)).length=m*i.size:=by grind
 by_cases a:m+n<=cap
 .have hfit:m*i.size+news.length<=c.size:=by rw[hs.newsLen,l,<- Cf0];simp_all[BU7]
  have q:=run_storeCells_at (P:=P) b (m*i.size) e news 0 c w hg (by omega) hs.one;simp only[Cb6]at q;refine⟨.slice (some ⟨b,0,none⟩) (m+n) cap,_,?_,.inr (.inl ⟨cap,rfl,rfl,a,rfl⟩)⟩;rcases hs.kind with⟨e',hk⟩ | hk<;>simp[Builtin.append_,run_underlying ht,run_underlying hk,sizeOf,typeInfo,v,hs.len,a,hs.cells,BZ0,q,splice]
 obtain⟨v',w',h1,h2⟩:=grow (some ⟨b,0,none⟩) cap rfl (by omega) f (run_firstCells_some w.drew i.size m ⟨b,0,none⟩ m cap _ f (by
  intro p u hp;rw[Cb7]at hp;split at hp
  .rename_i hpl;rw[BZ0,BW8]
   have:=cell_of_heap (w:=w) hg (o:=p) (by omega)
   simp_all
  grind))
 grind
def II {l r:List Value}{i:Nat}(h:i<l.length):(l++r).getD i undef=l.getD i undef:=by
 grind
def Og {l r:List Value}{i:Nat}(h:l.length<=i):(l++r).getD i undef=r.getD (i-l.length) undef:=by
 grind
theorem YL {l:List Value}{i n:Nat}(h:i<n):(l.take n).getD i undef=l.getD i undef:=by
 grind
def FL {w:World}{Pi:Nat->Nat->Prop}{k m n:Nat}{f g:Nat->List PV}{arr:Array Value}{olds news r:List Value}(ha:arr.toList=olds++news++r)(c:olds.length=m*k)(hn:news.length=n*k)
 (o:∀i j,i<m->j<k->Sb w Pi (olds.getD (i*k+j) undef) ((f i).getD j default)/\(olds.getD (i*k+j) undef).oneCell' = true)
 (d:∀i j,i<n->j<k->Sb w Pi (news.getD (i*k+j) undef) ((g i).getD j default)/\(news.getD (i*k+j) undef).oneCell' = true) :
 ∀i j,i<m+n->j<k->Sb w Pi (arr.getD (i*k+j) undef) ((DF m f g i).getD j default)/\(arr.getD (i*k+j) undef).oneCell' = true:=by
 intro i j q b;rw[E9,ha];unfold DF;by_cases a:i<m
 .have:=M8 a b
  rw[Fg a,Ch4,II (by omega)]
  grind
 rw[Gb a];have h1:m*k<=i*k:=BU7 k (by omega);have s:=M8 (show i-m<n by omega) b;have l:(i-m)*k=i*k-m*k:=Nat.sub_mul _ _ _;rw[Ch4,Og (by omega),II (by omega),c]
 have:=d (i-m) j (by omega) b
 rwa [l,show i*k-m*k+j=i*k+j-m*k by omega]at this
def Cz {k m n:Nat}{f g:Nat->List PV}(a:∀i,i<m->(f i).length=k)(b:∀i,i<n->(g i).length=k):∀i,i<m+n->(DF m f g i).length=k:=by
 grind[DF]
theorem UM (h:Sat C st a w rho){c:Call}(hf:∀s x e m b,c.args.toList=[s,x]->MG st.Qg e m d b (aev st.env s) (aev st.env x)=none)(hc:c.callee=.builtin .append)(ho:o.op=.call c)(he:aop P st.env st.Qg d o.op=some out)(hcond:E5 out.cond):OpOk P C o st a w rho out:=by
 obtain⟨callee,args,types⟩:=c;simp only at hc;subst hc;rw[ho]at he;simp only[aop]at he;split at he
 .rename_i s x t t2 hargs htypes;split at he
  .rename_i e k2 ht ht2;split at he
   .rename_i k z hk2 hm hz;split at he
    .rename_i n g l f vw R1 hn hel htk;split at he
     .rename_i hzl;cases he;obtain⟨args⟩:=args;obtain⟨types⟩:=types;simp only at hargs htypes;subst hargs;subst htypes;obtain⟨hbytes,hmax⟩:=hcond;obtain⟨i,hi,rfl⟩:=Qw hm;obtain⟨i',zv,q,hzv,hze⟩:=CT hz;rw[hi]at q;cases q;have hzs:zv.cells.size=i.size:=by have:=hzl.1;rw[hze]at this;grind
      have hby:EZ P e=i.bytes:=by grind[EZ,Program.bytesOf]
      rw[hby]at hbytes;have hbp:0<i.bytes:=by have:=hzl.2;rwa [hby]at this
      obtain⟨cx,hsrc,hgl,hgr⟩:=QV h (h.aev x) hel ht2 hk2;have hgr' : ∀i' j,i' < n->j<i.size->Sb w (PiS C st rho) ((Cy cx n i.size).getD (i' * i.size+j) undef) ((g i').getD j default)/\((Cy cx n i.size).getD (i' * i.size+j) undef).oneCell' = true:=by
       grind[AQ9]
      have y:∀v' w',(Builtin.append_ #[t,t2] o.type #[a.eval s,a.eval x]).run P w=.ok v' w' -> (execOp a.eval o).run P w=.ok (.value v') w':=by
       simp_all[execOp,resolve,invoke,builtin]
      have hs:=h.aev s;have u:=P6 ht;unfold Wm at htk;split at htk
      .
       rename_i hse;cases htk;rw[hse]at hs;have hv:=hs.toP.toV;obtain⟨v',w',hr,hres⟩:=BP (ty:=o.type) (b:=0) (cap:=0) (c:=#[]) u hi hzv hzs hbp hsrc (s:=a.eval s) (m:=0) (olds:=[]) (by grind) hmax hbytes;rcases hres with⟨_,rfl,h0,rfl⟩ | ⟨cap',hse',_⟩ | ⟨cap',arr,rfl,rfl,hge,hcm,hsz,r,harr⟩
       .obtain⟨h1,h2,h3⟩:=h.fresh (Dh d 0) hn (.vec e i.size (0+n) (DF 0 (λ_=>[]) g) false) (.slice none 0 0) (w':=w') (BT8 _) (λb hb=>rfl) (λb hb=>by grind[G1,Q9]) (λhk=>.inl ⟨rfl,h0⟩);refine⟨_,_,_,_,y _ _ hr,.inl rfl,h1,⟨h2,h3⟩,?_⟩;exact .vec _ none 0 0 (by simp[Lv,A4]) (by simp)
       .rw[hv]at hse';grind
       obtain⟨h1,h2,h3⟩:=h.fresh (Dh d 0) hn (.vec e i.size (0+n) (DF 0 (λ_=>[]) g) false) (.slice (some ⟨w.heap.size,0,none⟩) (0+n) cap') (w':=w.drew.alloc (.cells arr e)) (by simp) (λb hb=>heap_alloc_old w.drew _ b hb) (λb hb=>by grind[G1,Q9])
        (λhk=>.inr ⟨w.heap.size,cap',arr,rfl,heap_alloc_new w.drew _,hge,hsz,hcm,Cz (by omega) hgl,
         FL harr (by simp) (J5 _ _ _) (by omega) λi' j q hj=>⟨(hgr' i' j q hj).1.keeps hk,(hgr' i' j q hj).2⟩⟩)
       refine⟨_,_,_,_,y _ _ hr,.inl rfl,h1,⟨h2,h3⟩,?_⟩;exact .vec _ _ _ _ (by simp[Lv,A4]) (by simp)
      .
       rename_i j hse;split at htk
       .rename_i e' m' n' f' vw' hj;split at htk
        .rename_i hem;cases htk;obtain⟨rfl,rfl⟩:=hem;rw[hse]at hs;generalize hvs:a.eval s=v at hs;rw[hvs]at y;cases hs with
         |vec j base nn cap hl hrj=>
         have hh:=h.hp.holds j _ hj;rw[hrj]at hh;have hne:nid d 0≠j:=by grind
         rcases hh with⟨hnil,rfl⟩ | ⟨b,cap',c,hb',hheap,hncap,hcsz,hcmax,hlen,hrep⟩
         .cases hnil;obtain⟨v',w',hr,hres⟩:=BP (ty:=o.type) (b:=0) (cap:=0) (c:=#[]) u hi hzv hzs hbp hsrc (s:=.slice none 0 0) (m:=0) (olds:=[]) (by grind) hmax hbytes;rcases hres with⟨_,rfl,h0,rfl⟩ | ⟨cap',hse',_⟩ | ⟨cap',arr,rfl,rfl,hge,hcm,hsz,r,harr⟩
          .obtain⟨h1,h2⟩:=h.moved hj (Dh d 0) hn (.vec e' i.size (0+n) (DF 0 f g) vw) (.slice none 0 0) (w':=w') (BT8 _) (λb _ _=>rfl) (λb hb=>by grind[G1,Q9]) (λb off v hb _ hc=>by grind[G1,Q9]) (λhk=>.inl ⟨rfl,h0⟩);exact⟨_,_,_,_,y _ _ hr,.inl rfl,h1,h2,.vec _ none 0 0 (by simp[Lv,A4]) (by simp)⟩
          .grind
          obtain⟨h1,h2⟩:=h.moved hj (Dh d 0) hn (.vec e' i.size (0+n) (DF 0 f g) vw) (.slice (some ⟨w.heap.size,0,none⟩) (0+n) cap') (w':=w.drew.alloc (.cells arr e')) (by simp) (λb hb _=>heap_alloc_old w.drew _ b hb) (λb hb=>by grind[G1,Q9]) (λb off v hb _ hc=>by grind[G1,Q9])
           (λhk=>.inr ⟨w.heap.size,cap',arr,rfl,heap_alloc_new w.drew _,hge,hsz,hcm,Cz (by omega) hgl,
            FL harr (by simp) (J5 _ _ _) (by omega) λi' j q hj=>⟨(hgr' i' j q hj).1.keeps hk,(hgr' i' j q hj).2⟩⟩)
          exact⟨_,_,_,_,y _ _ hr,.inl rfl,h1,h2,.vec _ _ _ _ (by simp[Lv,A4]) (by simp)⟩
         cases hb';have hle:l*i.size<=c.size:=by rw[hcsz];simp_all[BU7]
         obtain⟨v',w',hr,hres⟩:=BP (ty:=o.type) (b:=b) (cap:=cap) (c:=c) u hi hzv hzs hbp hsrc (s:=.slice (some ⟨b,0,none⟩) l cap) (m:=l) (olds:=c.toList.take (l*i.size)) (by grind) hmax hbytes;have holds:∀i' j,i' < l->j<i.size->Sb w (PiS C st rho) ((c.toList.take (l*i.size)).getD (i' * i.size+j) undef) ((f i').getD j default)/\((c.toList.take (l*i.size)).getD (i' * i.size+j) undef).oneCell' = true:=by
          grind[YL,M8,E9]
         have hol:(c.toList.take (l*i.size)).length=l*i.size:=by grind
         have hpub:∀off,¬Prv C.X (A2 st.Qg) rho b off->vw=true/\off<l*i.size:=by
          intro off hnp;have hnp' : ¬MF (.vec e' i.size l f vw) off:=λhp=>hnp (.inr ⟨j,_,hj,by grind[G1,Q9],hp⟩);cases vw
          .exact Hc trivial hnp'
          exact⟨rfl,by simpa[MF]using hnp'⟩
         rcases hres with⟨hse',_⟩ | ⟨cap'',_,rfl,hroom,rfl⟩ | ⟨cap'',arr,rfl,rfl,hge,hcm,hsz,r,harr⟩
         .grind
         .have hfit:l*i.size+(Cy cx n i.size).length<=c.toList.length:=by rw[J5,Ca1,hcsz,<- Cf0];simp_all[BU7]
          obtain⟨h1,h2⟩:=h.moved hj (Dh d 0) hn (.vec e' i.size (l+n) (DF l f g) vw) (.slice (some ⟨b,0,none⟩) (l+n) cap) (w':=w.setRow b (splice c.toList (l*i.size) (Cy cx n i.size)).toArray) (by simp)
           (λb' hb' hnb=>setRow_other w b b' _ (λe=>hnb (by grind[G1,Q9]))) (λb' hb'=>.inl (by grind[G1,Q9]))
           (λb' off v hb' hnp hcell=>by
            have e:b' = b:=by grind[G1,Q9]
            subst e;obtain⟨hvw,hoff⟩:=hpub off hnp;refine⟨?_,λ_=>?_⟩
            .have h1:=cell_of_heap (w:=w) hheap (o:=off) (by omega);have h2:=cell_of_heap (w:=w.setRow b' (splice c.toList (l*i.size) (Cy cx n i.size)).toArray) (setRow_heap w b' c _ e' _ hheap) (o:=off) (by rw[BZ4,I6 _ _ _ hfit];omega);rw[h2,<- hcell,h1,E9,E9];congr 1;show (splice c.toList (l*i.size) (Cy cx n i.size)).getD off undef=_;rw[Z1 _ _ _ _ _ hfit,Gb (by omega)]
            grind[MF,Nat.add_mul])
           (λhk=>.inr ⟨b,cap,_,rfl,setRow_heap w b c _ e' _ hheap,hroom,by rw[BZ4,I6 _ _ _ hfit];omega,hcmax,Cz hlen hgl,
            FL (r:=c.toList.drop (l*i.size+(Cy cx n i.size).length)) (by simp[splice]) hol (J5 _ _ _) (λi' j q hj=>⟨(holds i' j q hj).1.keeps hk,(holds i' j q hj).2⟩) λi' j q hj=>⟨(hgr' i' j q hj).1.keeps hk,(hgr' i' j q hj).2⟩⟩)
          exact⟨_,_,_,_,y _ _ hr,.inl rfl,h1,h2,.vec _ _ _ _ (by simp[Lv,A4]) (by simp)⟩
         have hlt:b<w.heap.size:=(by grind);obtain⟨h1,h2⟩:=h.moved hj (Dh d 0) hn (.vec e' i.size (l+n) (DF l f g) vw) (.slice (some ⟨w.heap.size,0,none⟩) (l+n) cap'') (w':=w.drew.alloc (.cells arr e')) (by simp) (λb' hb' _=>heap_alloc_old w.drew _ b' hb') (λb' hb'=>by grind[G1,Q9])
          (λb' off v hb' hnp hcell=>by have hlt' : b' < w.heap.size:=BY8 w ⟨b',off,none⟩ hcell;refine⟨?_,λe=>by grind[G1,Q9]⟩;rw[<- hcell];exact BW4 (heap_alloc_old w.drew _ b' hlt'))
          (λhk=>.inr ⟨w.heap.size,cap'',arr,rfl,heap_alloc_new w.drew _,hge,hsz,hcm,Cz hlen hgl,
           FL harr hol (J5 _ _ _) (λi' j q hj=>⟨(holds i' j q hj).1.keeps hk,(holds i' j q hj).2⟩) λi' j q hj=>⟨(hgr' i' j q hj).1.keeps hk,(hgr' i' j q hj).2⟩⟩)
         exact⟨_,_,_,_,y _ _ hr,.inl rfl,h1,h2,.vec _ _ _ _ (by simp[Lv,A4]) (by simp)⟩
        grind
       grind
      .
       rename_i j m0 hse;split at htk
       .rename_i e' m' n' f' hj;split at htk
        .rename_i hem;cases htk;obtain⟨rfl,rfl⟩:=hem;rw[hse]at hs;generalize hvs:a.eval s=v at hs;rw[hvs]at y;cases hs with
         |vecp j m0 base nn cap hl hrj hmn=>
         have hh:=h.hp.holds j _ hj;rw[hrj]at hh;have hne:nid d 0≠j:=by grind
         rcases hh with⟨hnil,rfl⟩ | ⟨b,cap',c,hb',hheap,hncap,hcsz,hcmax,hlen,hrep⟩
         .cases hnil;obtain rfl:m0=0:=by omega
          simp only[Nat.min_self]at *;obtain⟨v',w',hr,hres⟩:=BP (ty:=o.type) (b:=0) (cap:=0) (c:=#[]) u hi hzv hzs hbp hsrc (s:=.slice none 0 0) (m:=0) (olds:=[]) (by grind) hmax hbytes;rcases hres with⟨_,rfl,h0,rfl⟩ | ⟨cap',hse',_⟩ | ⟨cap',arr,rfl,rfl,hge,hcm,hsz,r,harr⟩
          .obtain⟨h1,h2⟩:=h.moved hj (Dh d 0) hn (.vec e' i.size (0+n) (DF 0 f g) false) (.slice none 0 0) (w':=w') (BT8 _) (λb _ _=>rfl) (λb hb=>by grind[G1,Q9]) (λb off v hb _ hc=>by grind[G1,Q9]) (λhk=>.inl ⟨rfl,h0⟩);exact⟨_,_,_,_,y _ _ hr,.inl rfl,h1,h2,.vec _ none 0 0 (by simp[Lv,A4]) (by simp)⟩
          .grind
          obtain⟨h1,h2⟩:=h.moved hj (Dh d 0) hn (.vec e' i.size (0+n) (DF 0 f g) false) (.slice (some ⟨w.heap.size,0,none⟩) (0+n) cap') (w':=w.drew.alloc (.cells arr e')) (by simp) (λb hb _=>heap_alloc_old w.drew _ b hb) (λb hb=>by grind[G1,Q9]) (λb off v hb _ hc=>by grind[G1,Q9])
           (λhk=>.inr ⟨w.heap.size,cap',arr,rfl,heap_alloc_new w.drew _,hge,hsz,hcm,Cz (by omega) hgl,
            FL harr (by simp) (J5 _ _ _) (by omega) λi' j q hj=>⟨(hgr' i' j q hj).1.keeps hk,(hgr' i' j q hj).2⟩⟩)
          exact⟨_,_,_,_,y _ _ hr,.inl rfl,h1,h2,.vec _ _ _ _ (by simp[Lv,A4]) (by simp)⟩
         cases hb';rw[Ca2 hmn]at *;have hle:m0*i.size<=c.size:=by rw[hcsz];exact BU7 _ (by omega)
         obtain⟨v',w',hr,hres⟩:=BP (ty:=o.type) (b:=b) (cap:=cap) (c:=c) u hi hzv hzs hbp hsrc (s:=.slice (some ⟨b,0,none⟩) m0 cap) (m:=m0) (olds:=c.toList.take (m0*i.size)) (by grind) hmax hbytes;have holds:∀i' j,i' < m0->j<i.size->Sb w (PiS C st rho) ((c.toList.take (m0*i.size)).getD (i' * i.size+j) undef) ((f i').getD j default)/\((c.toList.take (m0*i.size)).getD (i' * i.size+j) undef).oneCell' = true:=by
          grind[YL,M8,E9]
         have hol:(c.toList.take (m0*i.size)).length=m0*i.size:=by grind
         have hpub:∀off,¬Prv C.X (A2 st.Qg) rho b off->False:=by intro off hnp;exact hnp (.inr ⟨j,_,hj,by grind[G1,Q9],trivial⟩)
         rcases hres with⟨hse',_⟩ | ⟨cap'',_,rfl,hroom,rfl⟩ | ⟨cap'',arr,rfl,rfl,hge,hcm,hsz,r,harr⟩
         .grind
         .have hfit:m0*i.size+(Cy cx n i.size).length<=c.toList.length:=by rw[J5,Ca1,hcsz,<- Cf0];simp_all[BU7]
          obtain⟨h1,h2⟩:=h.moved hj (Dh d 0) hn (.vec e' i.size (m0+n) (DF m0 f g) false) (.slice (some ⟨b,0,none⟩) (m0+n) cap) (w':=w.setRow b (splice c.toList (m0*i.size) (Cy cx n i.size)).toArray) (by simp)
           (λb' hb' hnb=>setRow_other w b b' _ (λe=>hnb (by grind[G1,Q9]))) (λb' hb'=>.inl (by grind[G1,Q9]))
           (λb' off v hb' hnp hcell=>by
            have e:b' = b:=by grind[G1,Q9]
            grind)
           (λhk=>.inr ⟨b,cap,_,rfl,setRow_heap w b c _ e' _ hheap,hroom,by rw[BZ4,I6 _ _ _ hfit];omega,hcmax,Cz (by grind) hgl,
            FL (r:=c.toList.drop (m0*i.size+(Cy cx n i.size).length)) (by simp[splice]) hol (J5 _ _ _) (λi' j q hj=>⟨(holds i' j q hj).1.keeps hk,(holds i' j q hj).2⟩) λi' j q hj=>⟨(hgr' i' j q hj).1.keeps hk,(hgr' i' j q hj).2⟩⟩)
          exact⟨_,_,_,_,y _ _ hr,.inl rfl,h1,h2,.vec _ _ _ _ (by simp[Lv,A4]) (by simp)⟩
         obtain⟨h1,h2⟩:=h.moved hj (Dh d 0) hn (.vec e' i.size (m0+n) (DF m0 f g) false) (.slice (some ⟨w.heap.size,0,none⟩) (m0+n) cap'') (w':=w.drew.alloc (.cells arr e')) (by simp) (λb' hb' _=>heap_alloc_old w.drew _ b' hb') (λb' hb'=>by grind[G1,Q9])
          (λb' off v hb' hnp hcell=>by
           have e:b' = b:=by grind[G1,Q9]
           grind)
          (λhk=>.inr ⟨w.heap.size,cap'',arr,rfl,heap_alloc_new w.drew _,hge,hsz,hcm,Cz (by grind) hgl,
           FL harr hol (J5 _ _ _) (λi' j q hj=>⟨(holds i' j q hj).1.keeps hk,(holds i' j q hj).2⟩) λi' j q hj=>⟨(hgr' i' j q hj).1.keeps hk,(hgr' i' j q hj).2⟩⟩)
         exact⟨_,_,_,_,y _ _ hr,.inl rfl,h1,h2,.vec _ _ _ _ (by simp[Lv,A4]) (by simp)⟩
        grind
       grind
      grind
     grind
    grind
   grind
  grind
 grind
end
end Go.AM
