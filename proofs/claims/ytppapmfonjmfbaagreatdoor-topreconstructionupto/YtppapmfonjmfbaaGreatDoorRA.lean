/- Part 1. -/
import Derived.CallsIn
import Derived.Laws.AppendOwn
import Derived.Laws.IdiomCopy
import Derived.Below
import Derived.Laws.Rows
import Derived.Deep.AppendSrc
set_option linter.defProp false
set_option linter.unusedSimpArgs false
set_option linter.unusedVariables false
set_option linter.unusedSectionVars false
namespace Go.AM
def Lp:=@if_false
def Lo:=@if_true
def Ln:=@absurd
def Lm:=@if_neg
def Ll:=@if_pos
def AQ0:=@Array.getD_eq_getD_getElem?
def AQ1:=@List.getD_eq_getElem?_getD
def AQ2:=@Option.some.injEq
def AQ5:=@List.getElem?_eq_getElem
def AQ7:=@Bool.and_eq_true
def AQ8:=@Nat.le_refl
def AQ9:=@List.getElem?_map
def AR1:=@Array.getElem?_eq_some_iff
def AR2:=@Option.getD_some
def AR3:=@Prod.mk.injEq
def AR4:=@List.all_eq_true
def AR5:=@Option.map_some
def AR7:=@List.getElem?_eq_some_iff
def AR9:=@List.map_cons
def AS1:=@Nat.mul_le_mul_right
def AS2:=@Option.map_eq_some_iff
def AS9:=@List.length_drop
def AT0:=@Nat.lt_of_lt_of_le
def AT5:=@List.length_cons
def AT6:=@Nat.zero_add
def AT8:=@Array.getElem?_eq_getElem
def AU1:=@List.length_map
def AU4:=@List.length_append
def AU5:=@Array.length_toList
def AU7:=@Array.getElem?_toList
def AU8:=@List.getElem?_eq_none
def AV2:=@List.cons_append
def AV4:=@Go.World.cell?_of_block
def AV5:=@Ne.symm
def AV6:=@List.eq_nil_of_length_eq_zero
def AV7:=@List.cons.injEq
def AV9:=@Nat.mul_one
def AW2:=@List.length_singleton
def AW4:=@List.getElem?_append_left
def AW5:=@Nat.le_trans
def AW6:=@Go.Addr.add_lit
def AX1:=@List.getElem?_drop
def AX3:=@List.size_toArray
def AX6:=@Nat.add_zero
def AX7:=@Nat.mod_eq_of_lt
def AX9:=@Array.size_eq_zero_iff
def AY1:=@Nat.min_eq_left
def AY2:=@Nat.mul_comm
def AY3:=@List.map_nil
def AY7:=@List.length_take
def AY8:=@Nat.div_eq_of_lt
def AY9:=@Go.World.block_lt_of_cell?
def AZ4:=@List.all_map
def AZ7:=@Iff.rfl
def AZ8:=@Nat.zero_le
def Bb5:=@Array.getElem?_extract
def Bb6:=@List.getElem?_take
def Bb7:=@Nat.mul_add_mod
def Bc1:=@List.getElem?_append_right
def Bc7:=@List.getElem_of_mem
def Bc8:=@List.getD_cons_zero
def Bc9:=@Nat.add_mul
def Bd1:=@Nat.add_assoc
def Bd9:=@List.append_assoc
def Be1:=@Nat.succ_mul
def Bf0:=@List.getElem?_range
def Bg0:=@List.ext_getElem?
def Bg3:=@ByteArray.ext
def Bh5:=@Nat.mul_add_div
def Bi2:=@List.getElem?_append
def Bi3:=@Nat.div_lt_of_lt_mul
def Bi4:=@List.getElem?_of_mem
def Bi7:=@Array.toList_append
def Bj9:=@Nat.mod_lt
inductive PV where
 |v (x:Value)
 |bb (b:Bool)
 |str (l:List UInt8)
 |agg (cs:List PV)
 |sl (nn:Bool) (k n:Nat) (f:Nat->List PV)
 |ptr (cs:List PV)
 |iface (t:TypeId) (a:PV)
 |fn (f:FuncId) (first caps:List PV)
 deriving Inhabited
inductive AV where
 |p (x:PV)
 |reg (j off:Nat)
 |vec (j:Nat)
 |vecp (j n:Nat)
 |elt (j k i off:Nat)
 |mref (j:Nat)
 |clo (f:FuncId) (first caps:List AV)
 |tup (l:List AV)
 |agr (cs:List AV)
 |yf (j:Nat)
 |rsl (j n:Nat)
 |top
 deriving Inhabited
abbrev Env:=List (Nat×AV)
inductive Obj where
 |cells (cs:List AV)
 |vec (e:TypeId) (k n:Nat) (f:Nat->List PV) (viewed:Bool)
 |map (es:List (PV×PV))
 |arr (n:Nat) (f:Nat->PV)
 |ghost (cs:List AV)
 |yld (rest:List (List PV)) (live:Bool)
 |fam (e:TypeId) (n jr:Nat) (x:Option (Nat×AV))
 |rows (n:Nat) (g:Nat->Obj)
 |dead
 deriving Inhabited
abbrev B5:=List (Nat×Obj)
def CR (n:Nat)(f:Nat->PV):List PV:=(List.range n).map f
def get:Env->Nat->AV
 |[],_=>.top
 |(k,a)::r,t=>if k=t then a else get r t
def A1:B5->Nat->Option Obj
 |[],_=>none
 |(k,o)::r,j=>if k=j then some o else A1 r j
def ins {α : Type}(k:Nat)(a : α):List (Nat × α)->List (Nat × α)
 |[]=>[(k,a)]
 |(i,b)::r=>if i<k then (k,a)::(i,b)::r else if i=k then (k,a)::r else (i,b)::ins k a r
def del {α : Type}(k:Nat):List (Nat × α)->List (Nat × α)
 |[]=>[]
 |(i,b)::r=>if i=k then r else (i,b)::del k r
structure St where
 env:Env
 regs:B5
 deriving Inhabited
def Kw:Value->PV
 |.string s=>.str s.data.toList
 |x=>.v x
abbrev AV.int (k:IntKind)(n:Int):AV:=.p (.v (.int k n))
abbrev AV.bool (b:Bool):AV:=.p (.bb b)
def nP:PV->PV
 |.v (.bool b)=>.bb b
 |x=>x
inductive TK where
 |int (k:IntKind)|bool|str
 |slice (e:TypeId)|map (k e:TypeId)|arr (n:Nat) (e:TypeId)
 |struct (fs:List (Nat×TypeId))|ptr (e:TypeId)|iface (n:Nat)|other
 deriving Inhabited,DecidableEq
section
variable (P:Program)
def Ud:TypeDesc->TK
 |.int k=>.int k
 |.bool=>.bool
 |.string=>.str
 |.slice e=>.slice e
 |.map k e=>.map k e
 |.array n e=>.arr n e
 |.struct fs=>.struct (fs.toList.map fun f=>(f.offset,f.type))
 |.pointer e=>.ptr e
 |.interface ms=>.iface ms.size
 |_=>.other
def tk (t:TypeId):Option TK:=(P.underlying t).map Ud
def tsz (t:TypeId):Option Nat:=(P.info? t).map (·.size)
def CX (t:TypeId):Nat:=P.bytesOf t
def VN:TK->Bool
 |.struct _ | .arr _ _=>true
 |_=>false
def Ld (t:TypeId):Option (List PV):=((P.info? t).bind (·.zero)).map fun v=>v.cells.toList.map Kw
end
def pvK:Value->PV
 |.agg cs=>if cs.all (fun c=>c.oneCell') then .agg (cs.toList.map Kw)else .v (.agg cs)
 |x=>Kw x
def aev (env:Env):Operand->AV
 |.tmp t=>get env t
 |.const v=>.p (pvK v)
 |.func f=>.clo f [] []
 |.global _=>.top
def nid (d i:Nat):Nat:=1000*(d+1)+i
end Go.AM
namespace Go.AM
def RJ:List AV->Option (List PV)
 |[]=>some []
 |.p x::r=>match RJ r with|some l=>some (x::l)|none=>none
 |_::_=>none
def mkAgg (cs:List AV):AV:=match RJ cs with|some l=>.p (.agg l)|none=>.agr cs
def cellsOf:AV->List AV
 |.p (.agg cs)=>cs.map .p
 |.agr cs=>cs
 |.p x=>[.p (nP x)]
 |a=>[a]
def Br:PV->List PV
 |.agg cs=>cs
 |x=>[nP x]
def He:PV->Bool
 |.agg _ | .v (.agg _) | .v (.tuple _)=>false
 |_=>true
def YN:AV->Bool
 |.p x=>He x
 |.tup _ | .agr _ | .top=>false
 |_=>true
def Cu:AV->Bool
 |.p (.agg _) | .agr _=>true
 |a=>YN a
def LO:PV->Bool
 |.agg _=>true
 |x=>He x
def splice {α : Type}(cs:List α)(off:Nat)(new:List α):List α:=cs.take off++new++cs.drop (off+new.length)
def Xq:List AV->Option (List PV)
 |[]=>some []
 |.p x::r=>match Xq r with
  |some l=>some (x::l)
  |none=>none
 |.clo f [] []::r=>match Xq r with
  |some l=>some (.v (.func (.func f) #[] #[])::l)
  |none=>none
 |_=>none
def Eo (regs:B5):AV->Option (PV×B5)
 |.p x=>some (nP x,regs)
 |.vec j=>match A1 regs j with
  |some (.vec e k n f _)=>some (.sl false k n f,ins j (.vec e k n f true) regs)
  |_=>none
 |.vecp j m=>match A1 regs j with
  |some (.vec e k n f _)=>some (.sl false k (min m n) f,ins j (.vec e k n f true) regs)
  |_=>none
 |.clo f [] []=>some (.v (.func (.func f) #[] #[]),regs)
 |.clo f a b=>match RJ a,RJ b with
  |some a,some b=>some (.fn f a b,regs)
  |_,_=>none
 |.agr cs=>match Xq cs with
  |some l=>some (.agg l,regs)
  |none=>none
 |_=>none
def EA (regs:B5):List AV->Option (List PV×B5)
 |[]=>some ([],regs)
 |a::r=>match Eo regs a with
  |some (x,regs)=>match EA regs r with
   |some (l,regs)=>some (x::l,regs)
   |none=>none
  |none=>none
structure Out where
 cond:List Prop
 val:AV
 regs:B5
def G7 (op:BinOp)(k:IntKind)(x y:Int):Int:=
 let a:=BitVec.ofInt k.bits x
 let b:=BitVec.ofInt k.bits y
 k.wrap (match op with | .and=>a &&& b | .or=>a ||| b | .xor=>a ^^^ b|_=>a &&& ~~~b).toNat
def shI (op:BinOp)(k:IntKind)(x y:Int):Int:=
 match op with
 |.shl=>k.wrap (x*2 ^ (min y.toNat k.bits))
 |_=>x.fdiv (2 ^ (min y.toNat k.bits))
def RN:PV->Option Bool
 |.bb b=>some b
 |.v (.bool b)=>some b
 |_=>none
def Uh:TK->PV->PV->Option Bool
 |.int _,.v (.int k a),.v (.int l b)=>if k=l then some (a==b)else none
 |.bool,x,y=>match RN x,RN y with
  |some a,some b=>some (a==b)
  |_,_=>none
 |.str,.str a,.str b=>some (a==b)
 |_,_,_=>none
def Y0:List TK->List PV->List PV->Option Bool
 |[],[],[]=>some true
 |k::ks,x::a,y::b=>match ks with
  |[]=>match a,b with
   |[],[]=>Uh k x y
   |_,_=>none
  |_=>match Uh k x y,Y0 ks a b with
   |some p,some q=>some (p&&q)
   |_,_=>none
 |_,_,_=>none
def Ag6:AV->Option Bool
 |.p (.v (.pointer none)) | .p (.v (.slice none 0 0)) | .p (.v (.map none)) | .p (.v .nilFunc) | .p (.v .nilIface)=>some true
 |.p (.ptr _) | .p (.iface _ _) | .p (.fn _ _ _) | .reg _ _ | .clo _ _ _ | .elt _ _ _ _ | .mref _ | .yf _=>some false
 |.p (.sl true _ _ _)=>some false
 |_=>none
def RO (op:BinOp)(k:IntKind)(a b:Int):List Prop×PV:=
 match op with
 |.add=>([],.v (.int k (k.wrap (a+b))))
 |.sub=>([],.v (.int k (k.wrap (a-b))))
 |.mul=>([],.v (.int k (k.wrap (a*b))))
 |.quo=>([b≠0],.v (.int k (k.wrap (a.tdiv b))))
 |.rem=>([b≠0],.v (.int k (a.tmod b)))
 |.eql=>([],.bb (a==b))
 |.neq=>([],.bb (a != b))
 |.lss=>([],.bb (decide (a<b)))
 |.leq=>([],.bb (decide (a<=b)))
 |.gtr=>([],.bb (decide (b<a)))
 |.geq=>([],.bb (decide (b<=a)))
 |.and=>([],.v (.int k (G7 .and k a b)))
 |.or=>([],.v (.int k (G7 .or k a b)))
 |.xor=>([],.v (.int k (G7 .xor k a b)))
 |.andNot=>([],.v (.int k (G7 .andNot k a b)))
 |.shl=>([0<=b],.v (.int k (shI .shl k a b)))
 |.shr=>([0<=b],.v (.int k (shI .shr k a b)))
def Aw6 (rec:TypeId->Option (List TK)):List Field->Nat->Option (List TK)
 |[],_=>some []
 |f::fs,off=>if f.offset≠off then none else match rec f.type with
  |some a=>match Aw6 rec fs (off+a.length)with
   |some b=>some (a++b)
   |none=>none
  |none=>none
def lay (P:Program):Nat->TypeId->Option (List TK)
 |0,_=>none
 |n+1,t=>match P.underlying t with
  |some (.int k)=>some [.int k]
  |some .bool=>some [.bool]
  |some .string=>some [.str]
  |some (.struct fs)=>match Aw6 (lay P n) fs.toList 0 with
   |some l=>if tsz P t=some l.length then some l else none
   |none=>none
  |_=>none
def YO (P:Program):Nat->TypeId->Bool
 |0,_=>false
 |n+1,t=>match P.underlying t with
  |some (.struct fs)=>!P.stoodInHeld t&&fs.toList.all fun f=>decide (f.name ≠ "_")&&YO P n f.type
  |_=>true
def Aw7 (P:Program)(t:TypeId):Bool:=YO P 10 t && !P.eqGuardType P.depth t
def NF (P:Program)(t:TypeId)(a b:PV):Option Bool:=
 match tk P t with
 |some (.struct _)=>match lay P 10 t,a,b with
  |some ks,.agg xs,.agg ys=>Y0 ks xs ys
  |_,_,_=>none
 |some k=>Uh k a b
 |none=>none
def OC (P:Program)(t:TypeId):List Prop:=
 match tk P t with
 |some (.struct _)=>[Aw7 P t=true]
 |_=>[]
def Aw8 (P:Program)(t:TypeId)(x y:AV):Option Bool:=
 match P.underlying t with
 |some (.pointer _)=>match x,y with
  |.p (.v (.pointer none)),.p (.v (.pointer none))=>some true
  |.p (.v (.pointer none)),.p (.ptr _) | .p (.v (.pointer none)),.reg _ _ | .p (.v (.pointer none)),.elt _ _ _ _=>some false
  |.p (.ptr _),.p (.v (.pointer none)) | .reg _ _,.p (.v (.pointer none)) | .elt _ _ _ _,.p (.v (.pointer none))=>some false
  |_,_=>none
 |some (.slice _)=>match x,y with
  |.p (.v (.slice none 0 0)),.p (.v (.slice none 0 0))=>some true
  |.p (.sl true _ _ _),.p (.v (.slice none 0 0))=>some false
  |_,_=>none
 |some (.map _ _)=>match x,y with
  |.p (.v (.map none)),.p (.v (.map none))=>some true
  |.mref _,.p (.v (.map none))=>some false
  |_,_=>none
 |some (.func _ _ _)=>match x,y with
  |.p (.v .nilFunc),.p (.v .nilFunc)=>some true
  |.clo _ _ _,.p (.v .nilFunc)=>some false
  |_,_=>none
 |some (.interface _)=>match x,y with
  |.p (.iface _ _),.p (.v .nilIface)=>some false
  |_,_=>none
 |_=>none
def Ar9:TK->Bool
 |.int _=>true
 |.bool=>true
 |.str=>true
 |_=>false
def YP (P:Program)(t:TypeId)(a b:PV):Option Bool:=
 match tk P t with
 |some (.arr n e)=>match tk P e,a,b with
  |some k,.agg xs,.agg ys=>if Ar9 k=true/\tsz P e=some 1 then Y0 (List.replicate n k) xs ys else none
  |_,_,_=>none
 |_=>none
def eqA (P:Program)(t:TypeId)(x y:AV)(neg:Bool):Option (List Prop×PV):=
 match (match x,y with
  |.p a,.p b=>NF P t a b
  |_,_=>none:Option Bool)with
 |some r=>some (OC P t,.bb (r != neg))
 |none=>match (match x,y with
  |.p a,.p b=>YP P t a b
  |_,_=>none:Option Bool)with
  |some r=>some ([(!P.eqGuardType P.depth t)=true],.bb (r != neg))
  |none=>match Aw8 P t x y with
   |some b=>some ([],.v (.bool (b != neg)))
   |none=>none
def bin (P:Program)(op:BinOp)(t:TypeId)(x y:AV):Option (List Prop×PV):=
 match x,y with
 |.p (.v (.int k a)),.p (.v (.int l b))=>
  match op with
  |.shl | .shr=>some (RO op k a b)
  |op=>if k=l then some (RO op k a b)else none
 |x,y=>match op with
  |.add=>match x,y with
   |.p (.str a),.p (.str b)=>some ([((a.length+b.length:Nat):Int)<=9223372036854775807],.str (a++b))
   |_,_=>none
  |.eql=>eqA P t x y false
  |.neq=>eqA P t x y true
  |_=>none
def PP:AV:=.p (.v (.tuple #[]))
def un (op:UnOp)(x:AV):Option PV:=
 match op,x with
 |.not,.p (.v (.bool b))=>some (.v (.bool !b))
 |.not,.p (.bb b)=>some (.bb !b)
 |.neg,.p (.v (.int k n))=>some (.v (.int k (k.wrap (0-n))))
 |_,_=>none
def asInt:AV->Option Int
 |.p (.v (.int _ n))=>some n
 |_=>none
def As0:AV->Bool
 |.p (.str _)=>false
 |_=>true
def srcK:TK->Bool
 |.slice _ | .str=>true
 |_=>false
def elems (regs:B5)(k:Nat):AV->Option (Nat×(Nat->List PV))
 |.p (.v (.slice none 0 0))=>some (0,fun _=>[])
 |.p (.sl _ m n f)=>if m=k then some (n,f)else none
 |.p (.str l)=>if k=1 then some (l.length,fun i=>[.v (.int .u8 ((l.getD i 0).toNat:Nat))])else none
 |.vec j=>match A1 regs j with
  |some (.vec _ m n f _)=>if m=k then some (n,f)else none
  |_=>none
 |.vecp j i=>match A1 regs j with
  |some (.vec _ m n f _)=>if m=k then some (min i n,f)else none
  |_=>none
 |_=>none
def PQ (regs:B5)(e:TypeId)(k:Nat):AV->Option (Nat×(Nat->List PV)×Bool×B5)
 |.p (.v (.slice none 0 0))=>some (0,fun _=>[],false,regs)
 |.vec j=>match A1 regs j with
  |some (.vec e' m n f vw)=>if e' = e/\m=k then some (n,f,vw,ins j .dead regs)else none
  |_=>none
 |.vecp j i=>match A1 regs j with
  |some (.vec e' m n f false)=>if e' = e/\m=k then some (min i n,f,false,ins j .dead regs)else none
  |_=>none
 |_=>none
def Im (regs:B5)(e:TypeId)(m d bytes:Nat):AV->AV->Option (List Prop×AV×B5)
 |.vec j,.vec l=>match A1 regs (nid d 0),A1 regs j,A1 regs l with
  |none,some (.fam e1 n jr none),some (.fam e2 1 jz (some (0,a)))=>if ((e1=e/\e2=e)/\m=1/\0<bytes)/\j≠l then
   some ([(n+1)*bytes<=140737488355328/\n+1<=140737488355328],.vec (nid d 0),ins (nid d 0) (.fam e (n+1) jr (some (n,a))) (ins l .dead (ins j .dead regs)))else none
  |_,_,_=>none
 |_,_=>none
def famB (P:Program)(e:TypeId)(z:List PV)(m:Nat):Nat:=match z.length==m with|true=>CX P e|false=>0
def AH3:B5->Option Nat
 |[]=>none
 |(j,.rows _ _)::_=>some j
 |_::r=>AH3 r
def Hn (regs:B5)(n:Nat):List (Nat×AV)->Option (Nat×Nat)
 |[(0,.vec j)]=>match A1 regs j,AH3 regs with
  |some (.vec _ _ _ _ false),some jz=>match A1 regs jz with
   |some (.rows _ _)=>if n=1 then some (jz,j)else none
   |_=>none
  |_,_=>none
 |_=>none
def Io (n:Nat):List (Nat×AV)->Option (List AV)
 |[(0,.reg j o),(1,.reg i q)]=>if n=2 then some [.reg j o,.reg i q]else none
 |_=>none
def Cb (n:Nat)(f g:Nat->List PV)(i:Nat):List PV:=if i<n then f i else g (i-n)
def find (cmp:PV->PV->Option Bool)(k:PV):List (PV×PV)->Option (Option PV)
 |[]=>some none
 |(a,x)::r=>match cmp k a with
  |some true=>some (some x)
  |some false=>find cmp k r
  |none=>none
def upd (cmp:PV->PV->Option Bool)(k x:PV):List (PV×PV)->Option (List (PV×PV))
 |[]=>some [(k,x)]
 |(a,y)::r=>match cmp k a with
  |some true=>some ((k,x)::r)
  |some false=>(upd cmp k x r).map ((a,y) :: ·)
  |none=>none
def FU (cmp:PV->PV->Option Bool)(k:PV):List (PV×PV)->Option (Option Nat)
 |[]=>some none
 |(a,_)::r=>match cmp k a with
  |some true=>some (some 0)
  |some false=>(FU cmp k r).map fun q=>q.map (· + 1)
  |none=>none
def ent (k z:PV)(es:List (PV×PV)):Option Nat->Nat×PV×List (PV×PV)
 |none=>(es.length,z,es++[(k,z)])
 |some j=>(j,(es.getD j default).2,es.set j (k,(es.getD j default).2))
def setV (es:List (PV×PV))(i:Nat)(y:PV):List (PV×PV):=es.set i ((es.getD i default).1,y)
def Ho:List PV->Option UInt8
 |[.v (.int .u8 n)]=>some (UInt8.ofNat n.toNat)
 |_=>none
def Kx (env:Env)(place:Nat->Option (Nat×Nat)):List (Nat×Operand)->List AV->Option (List AV)
 |[],cs=>some cs
 |(i,x)::r,cs=>
  match Cu (aev env x),place i with
  |true,some (off,m)=>if (cellsOf (aev env x)).length=m/\off+m<=cs.length then Kx env place r (splice cs off (cellsOf (aev env x)))else none
  |_,_=>none
section
variable (P:Program)
def PS (t:TypeId)(ps:List PV):Obj:=match tk P t with
 |some (.arr n _)=>if 8<=n/\ps.length=n then .arr n (fun i=>(ps.map nP).getD i default)else .cells (ps.map .p)
 |_=>.cells (ps.map .p)
def Ky (t:TypeId)(a:AV):Obj:=match a with
 |.p (.agg ps)=>PS P t ps
 |a=>.cells (cellsOf a)
def ldA (t:TypeId)(cs:List AV):Option AV:=
 match tk P t,tsz P t with
 |some k,some n=>match VN k with
  |true=>if n<=cs.length then some (mkAgg (cs.take n))else none
  |false=>cs.head?
 |_,_=>none
def ldP (t:TypeId)(cs:List PV):Option (List Prop×AV):=
 match tk P t,tsz P t with
 |some k,some n=>match VN k with
  |true=>some ([n<=cs.length],.p (.agg (cs.take n)))
  |false=>match cs with
   |c::_=>some ([],.p c)
   |[]=>none
 |_,_=>none
def Kz (t:TypeId):Option PV:=
 match (P.info? t).bind (·.zero)with
 |some v=>match v with
  |.agg cs=>if (cs.toList.map Kw).all He then some (.agg (cs.toList.map Kw))else none
  |v=>some (Kw v)
 |none=>none
def load (regs:B5)(t:TypeId):AV->Option (List Prop×AV)
 |.reg j off=>match A1 regs j with
  |some (.cells cs)=>match ldA P t (cs.drop off)with
   |some a=>some ([],a)
   |none=>none
  |some (.arr n f)=>match tk P t,tsz P t with
   |some k,some m=>match VN k with
    |true=>if m=n/\off=0 then some ([],.p (.agg (CR n f)))else none
    |false=>some ([off<n],.p (f off))
   |_,_=>none
  |_=>none
 |.p (.ptr cs)=>ldP P t cs
 |.elt j k i off=>match A1 regs j with
  |some (.vec _ m n f _)=>if k=m then match ldP P t ((f i).drop off)with
   |some (c,a)=>some ((i<n)::c,a)
   |none=>none else none
  |some (.fam _ n _ (some (i0,x)))=>match tk P t with
   |some q=>if VN q=false/\k=1/\off=0 then some ([i<n/\i=i0],x)else none
   |none=>none
  |_=>none
 |_=>none
def store (regs:B5)(t:TypeId)(a x:AV):Option (List Prop×B5):=
 match tsz P t,Cu x with
 |some m,true=>match a with
  |.reg j off=>match A1 regs j with
   |some (.cells cs)=>if (cellsOf x).length=m/\off+m<=cs.length then some ([],ins j (.cells (splice cs off (cellsOf x))) regs)else none
   |some (.arr n f)=>match x with
    |.p (.agg ps)=>if m=n then some ([off=0/\ps.length=n],ins j (.arr n (fun i=>ps.getD i default)) regs)else none
    |.p y=>if m=1 then some ([off<n],ins j (.arr n (fun i=>if i=off then nP y else f i)) regs)else none
    |_=>none
   |_=>none
  |.elt j k i off=>match A1 regs j,x with
   |some (.vec e k' n f false),.p x=>if k=k' then some ([(Br x).length=m/\i<n/\off+m<=k],ins j (.vec e k' n (fun l=>if l=i then splice (f l) off (Br x)else f l) false) regs)else none
   |some (.fam e n jr (some (i0,_))),x=>match cellsOf x with
    |[y]=>if m=1/\k=1/\off=0 then some ([i<n/\i=i0],ins j (.fam e n jr (some (i0,y))) regs)else none
    |_=>none
   |_,_=>none
  |_=>none
 |_,_=>none
def As1 (t:TypeId)(f:Nat)(x:AV):Option AV:=
 match tk P t with
 |some (.struct fs)=>match fs[f]? with
  |some (off,ft)=>match tsz P ft with
   |some 0=>none
   |some _=>match x with
    |.reg j o=>some (.reg j (o+off))
    |.elt j k i o=>some (.elt j k i (o+off))
    |.p (.ptr cs)=>some (.p (.ptr (cs.drop off)))
    |_=>none
   |none=>none
  |none=>none
 |_=>none
def As2 (t:TypeId)(f:Nat)(x:AV):Option (List Prop×AV):=
 match tk P t,x with
 |some (.struct fs),.p (.agg cs)=>match fs[f]? with
  |some (off,ft)=>ldP P ft (cs.drop off)
  |none=>none
 |some (.struct fs),.agr cs=>match fs[f]? with
  |some (off,ft)=>match ldA P ft (cs.drop off)with
   |some a=>some ([],a)
   |none=>none
  |none=>none
 |_,_=>none
def EB (regs:B5)(t:TypeId)(x:AV)(i:Int):Option (List Prop×AV):=
 match tk P t,x with
 |some (.arr n e),.reg j o=>match tsz P e with
  |some m=>some ([0<=i/\i<n],.reg j (o+i.toNat*m))
  |none=>none
 |some (.arr n e),.p (.ptr cs)=>match tsz P e with
  |some m=>some ([0<=i/\i<n],.p (.ptr (cs.drop (i.toNat*m))))
  |none=>none
 |some (.slice e),.p (.sl _ k n f)=>if tsz P e=some k then some ([0<=i/\i<n],.p (.ptr (f i.toNat)))else none
 |some (.slice e),.vec j=>match A1 regs j with
  |some (.vec _ k n _ _)=>if tsz P e=some k then some ([0<=i/\i<n],.elt j k i.toNat 0)else none
  |some (.fam _ n _ _)=>if tsz P e=some 1 then some ([0<=i/\i<n],.elt j 1 i.toNat 0)else none
  |_=>none
 |some (.slice e),.vecp j m=>match A1 regs j with
  |some (.vec _ k n _ _)=>if tsz P e=some k then some ([0<=i/\i<m/\m<=n],.elt j k i.toNat 0)else none
  |_=>none
 |some (.slice e),.rsl j n=>if tsz P e=some 1 then some ([0<=i/\i<n],.reg j i.toNat)else none
 |_,_=>none
def As3 (t:TypeId)(x:AV)(i:Int):Option (List Prop×AV):=
 match tk P t,x with
 |some .str,.p (.str l)=>some ([0<=i/\i<l.length],.int .u8 ((l.getD i.toNat 0).toNat:Nat))
 |some (.arr n e),.p (.agg cs)=>match tsz P e with
  |some m=>match ldP P e (cs.drop (i.toNat*m))with
   |some (c,a)=>some ((0<=i/\i<n)::c,a)
   |none=>none
  |none=>none
 |_,_=>none
def EC (regs:B5)(t:TypeId)(x:AV)(lo c:Option Int):Option (List Prop×AV×B5):=
 match tk P t,x with
 |some .str,.p (.str l)=>
  match lo,c with
  |none,none=>some ([],.p (.str l),regs)
  |some a,none=>some ([0<=a/\a<=l.length],.p (.str (l.drop a.toNat)),regs)
  |none,some b=>some ([0<=b/\b<=l.length],.p (.str (l.take b.toNat)),regs)
  |some a,some b=>some ([0<=a/\a<=b/\b<=l.length],.p (.str ((l.take b.toNat).drop a.toNat)),regs)
 |some (.slice e),.p (.sl nn k n f)=>
  if tsz P e=some k then
   match lo,c with
   |none,none=>some ([],.p (.sl nn k n f),regs)
   |some a,none=>some ([0<=a/\a<=n],.p (.sl nn k (n-a.toNat) (fun i=>f (a.toNat+i))),regs)
   |none,some b=>some ([0<=b/\b<=n],.p (.sl nn k b.toNat f),regs)
   |some a,some b=>some ([0<=a/\a<=b/\b<=n],.p (.sl nn k (b.toNat-a.toNat) (fun i=>f (a.toNat+i))),regs)
  else none
 |some (.slice e),.p (.v (.slice none 0 0))=>match tsz P e with
  |some _=>some ([lo.getD 0=0/\c.getD 0=0],.p (.v (.slice none 0 0)),regs)
  |none=>none
 |some (.arr n e),.p (.ptr cs)=>
  match lo,c with
  |none,some b=>if tsz P e=some 1/\cs.length=n then some ([0<=b/\b<=n],.p (.sl true 1 b.toNat (fun i=>[cs.getD i default])),regs)else none
  |none,none=>if tsz P e=some 1/\cs.length=n then some ([],.p (.sl true 1 n (fun i=>[cs.getD i default])),regs)else none
  |_,_=>none
 |some (.slice e),.vec j=>match A1 regs j with
  |some (.vec e' k n f _)=>if tsz P e=some k/\e' = e then
   match lo,c with
   |none,none=>some ([],.vec j,regs)
   |none,some b=>some ([0<=b/\b<=n],.vecp j b.toNat,regs)
   |some a,none=>some ([0<=a/\a<=n],.p (.sl false k (n-a.toNat) (fun i=>f (a.toNat+i))),ins j (.vec e k n f true) regs)
   |some a,some b=>some ([0<=a/\a<=b/\b<=n],.p (.sl false k (b.toNat-a.toNat) (fun i=>f (a.toNat+i))),ins j (.vec e k n f true) regs)
   else none
  |_=>none
 |_,_=>none
def YG (regs:B5)(t:TypeId)(x:AV):Option Int:=
 match tk P t,x with
 |some .str,.p (.str l)=>some l.length
 |some (.slice _),.p (.sl _ _ n _)=>some n
 |some (.slice _),.p (.v (.slice none 0 0))=>some 0
 |some (.map _ _),.p (.v (.map none))=>some 0
 |some (.slice _),.vec j=>match A1 regs j with
  |some (.vec _ _ n _ _)=>some n
  |some (.fam _ n _ _)=>some n
  |_=>none
 |some (.slice _),.vecp _ n=>some n
 |some (.slice _),.rsl _ n=>some n
 |some (.map _ _),.mref j=>match A1 regs j with
  |some (.map es)=>some es.length
  |_=>none
 |some (.arr n _),_=>some n
 |_,_=>none
def keyK:TK->Bool
 |.int _ | .bool | .str=>true
 |_=>false
def Ip (t:TypeId)(k:PV):Bool:=
 match tk P t with
 |some (.struct _)=>match lay P 10 t,k with
  |some ks,.agg cs=>cs.length==ks.length
  |_,_=>false
 |some k=>keyK k
 |none=>false
def Ep (regs:B5)(t:TypeId)(m:AV)(k:PV)(ok:Bool):Option (List Prop×AV):=
 match tk P t with
 |some (.map kt e)=>
  match (match Ip P kt k,m with
   |true,.p (.v (.map none))=>some none
   |true,.mref j=>match A1 regs j with
    |some (.map es)=>find (NF P kt) k es
    |_=>none
   |_,_=>none:Option (Option PV))with
  |some (some x)=>some (OC P kt,if ok then .tup [.p x,.bool true]else .p x)
  |some none=>match Kz P e with
   |some z=>some (OC P kt,if ok then .tup [.p z,.bool false]else .p z)
   |none=>none
  |none=>none
 |_=>none
def OD (t:TypeId)(i:Nat):Option (Nat×Nat):=
 match tk P t with
 |some (.struct fs)=>match fs[i]? with
  |some (off,ft)=>match tsz P ft with
   |some m=>some (off,m)
   |none=>none
  |none=>none
 |some (.arr _ e)=>match tsz P e with
  |some m=>some (i*m,m)
  |none=>none
 |_=>none
def YQ (t:TypeId):Bool:=match tk P t with
 |some (.struct fs)=>fs.all fun f=>(tsz P f.2).isSome
 |some (.arr _ e)=>(tsz P e).isSome
 |_=>false
def J5 (zero:List PV):List (Nat×List PV)->Nat->List PV
 |[],_=>zero
 |(j,x)::r,i=>if i=j then x else J5 zero r i
def Fd (n k:Nat):List Nat->List PV->Bool
 |[],_=>true
 |i::r,x::l=>decide (i<n)&&(LO x&&((Br x).length==k))&&(!r.contains i&&Fd n k r l)
 |_::_,[]=>false
def aop (env:Env)(regs:B5)(d:Nat)(o:Op):Option Out:=
 match o with
 |.move x=>some ⟨[],aev env x,regs⟩
 |.assign x=>some ⟨[],aev env x,regs⟩
 |.pick c a b=>match aev env c with
  |.p (.v (.bool true))=>some ⟨[],aev env a,regs⟩
  |.p (.v (.bool false))=>some ⟨[],aev env b,regs⟩
  |.p (.bb true)=>some ⟨[],aev env a,regs⟩
  |.p (.bb false)=>some ⟨[],aev env b,regs⟩
  |_=>none
 |.alloc t=>match A1 regs (nid d 0),Ld P t with
  |none,some z=>if z.all He then some ⟨[],.reg (nid d 0) 0,ins (nid d 0) (PS P t z) regs⟩else none
  |_,_=>none
 |.box t x=>match A1 regs (nid d 0),Cu (aev env x)with
  |none,true=>some ⟨[],.reg (nid d 0) 0,ins (nid d 0) (Ky P t (aev env x)) regs⟩
  |_,_=>none
 |.build t parts=>match Ld P t with
  |some z=>match z.all He&&YQ P t,Kx env (OD P t) parts.toList (z.map .p)with
   |true,some cs=>some ⟨[],mkAgg cs,regs⟩
   |_,_=>none
  |none=>none
 |.buildSlice t n parts=>match Hn regs n (parts.toList.map fun q=>(q.1,aev env q.2))with
  |some (jz,j)=>match tk P t,A1 regs (nid d 0)with
   |some (.slice e),none=>match tsz P e,Ld P e with
    |some 1,some z=>if z.length=1/\z.all He then some ⟨[],.vec (nid d 0),ins (nid d 0) (.fam e 1 jz (some (0,.vec j))) regs⟩else none
    |_,_=>none
   |_,_=>none
  |none=>match Io n (parts.toList.map fun q=>(q.1,aev env q.2))with
  |some cs=>match tk P t,A1 regs (nid d 0)with
   |some (.slice e),none=>match tsz P e,Ld P e with
    |some 1,some z=>if z.length=1 then some ⟨[],.rsl (nid d 0) 2,ins (nid d 0) (.cells cs) regs⟩else none
    |_,_=>none
   |_,_=>none
  |none=>match tk P t,A1 regs (nid d 0)with
  |some (.slice e),none=>match EA regs (parts.toList.map fun q=>aev env q.2),tsz P e,Ld P e with
   |some (l,regs),some m,some z=>if (n*m<=16777216/\n<=16777216)/\z.length=m/\z.all He then
    some ⟨[Fd n m (parts.toList.map (·.1)) l=true],.vec (nid d 0),ins (nid d 0) (.vec e m n (J5 z ((parts.toList.map (·.1)).zip (l.map Br))) false) regs⟩
    else none
   |_,_,_=>none
  |_,_=>none
 |.load t a=>match load P regs t (aev env a)with
  |some (c,a)=>some ⟨c,a,regs⟩
  |none=>none
 |.store t a x=>match store P regs t (aev env a) (aev env x)with
  |some (c,regs)=>some ⟨c,PP,regs⟩
  |none=>none
 |.nilCheck x=>match Ag6 (aev env x)with
  |some false=>some ⟨[],aev env x,regs⟩
  |_=>none
 |.binOp op t x y _=>match bin P op t (aev env x) (aev env y)with
  |some (c,r)=>some ⟨c,.p r,regs⟩
  |none=>none
 |.unOp op _ x=>match un op (aev env x)with
  |some r=>some ⟨[],.p r,regs⟩
  |none=>none
 |.convert s t x=>match tk P s,tk P t with
  |some (.int _),some (.int k)=>match aev env x with
   |.p (.v (.int _ n))=>some ⟨[],.int k (k.wrap n),regs⟩
   |_=>none
  |some .str,some .str=>match aev env x with
   |.p (.str l)=>some ⟨[],.p (.str l),regs⟩
   |_=>none
  |some .str,some (.slice e)=>match aev env x,tk P e with
   |.p (.str l),some (.int .u8)=>some ⟨[],.p (.sl true 1 l.length (fun i=>[.v (.int .u8 ((l.getD i 0).toNat:Nat))])),regs⟩
   |_,_=>none
  |some (.slice e),some .str=>if tk P e=some (.int .u8)then
   match As0 (aev env x),elems regs 1 (aev env x)with
   |true,some (n,f)=>some ⟨[∀i,i<n->(Ho (f i)).isSome=true],.p (.str ((List.range n).map fun i=>(Ho (f i)).getD 0)),regs⟩
   |_,_=>none
   else none
  |_,_=>none
 |.makeInterface t x=>match Eo regs (aev env x),tk P t with
  |some (x,regs),some k=>match k with
   |.iface _=>none
   |_=>some ⟨[],.p (.iface t x),regs⟩
  |_,_=>none
 |.makeFunc (.func f) first caps=>some ⟨[],.clo f (first.toList.map (aev env)) (caps.toList.map (aev env)),regs⟩
 |.makeMap _ none=>match A1 regs (nid d 0)with
  |none=>some ⟨[],.mref (nid d 0),ins (nid d 0) (.map []) regs⟩
  |some _=>none
 |.makeSlice t l c=>match tk P t,asInt (aev env l),asInt (aev env c),A1 regs (nid d 0)with
  |some (.slice e),some n,some m,none=>match tsz P e,Ld P e with
   |some k,some z=>if z.length=k/\z.all He then
    some ⟨[0<=n/\n<=m/\m*CX P e<=140737488355328/\m<=140737488355328],.vec (nid d 0),ins (nid d 0) (.vec e k n.toNat (fun _=>z) false) regs⟩else none
   |_,_=>none
  |_,_,_,_=>none
 |.slice t x lo hi none=>
  match lo.map (fun o=>asInt (aev env o)),hi.map (fun o=>asInt (aev env o))with
  |none,none=>match EC P regs t (aev env x) none none with|some (c,a,regs)=>some ⟨c,a,regs⟩ | none=>none
  |some (some l),none=>match EC P regs t (aev env x) (some l) none with|some (c,a,regs)=>some ⟨c,a,regs⟩ | none=>none
  |none,some (some h)=>match EC P regs t (aev env x) none (some h)with|some (c,a,regs)=>some ⟨c,a,regs⟩ | none=>none
  |some (some l),some (some h)=>match EC P regs t (aev env x) (some l) (some h)with|some (c,a,regs)=>some ⟨c,a,regs⟩ | none=>none
  |_,_=>none
 |.fieldAddr t x f=>match As1 P t f (aev env x)with
  |some a=>some ⟨[],a,regs⟩
  |none=>none
 |.field t x f=>match As2 P t f (aev env x)with
  |some (c,a)=>some ⟨c,a,regs⟩
  |none=>none
 |.indexAddr t x i=>match asInt (aev env i)with
  |some i=>match EB P regs t (aev env x) i with
   |some (c,a)=>some ⟨c,a,regs⟩
   |none=>none
  |none=>none
 |.index t x i=>match asInt (aev env i)with
  |some i=>match As3 P t (aev env x) i with
   |some (c,a)=>some ⟨c,a,regs⟩
   |none=>none
  |none=>none
 |.lookup t m k ok=>match Eo regs (aev env k)with
  |some (k,regs)=>match Ep P regs t (aev env m) k ok with
   |some (c,a)=>some ⟨c,a,regs⟩
   |none=>none
  |none=>none
 |.mapUpdate t m k x=>match tk P t,aev env m,aev env k with
  |some (.map kt _),.mref j,.p k=>match Eo regs (aev env x)with
   |some (x,regs)=>match A1 regs j with
    |some (.map es)=>match Ip P kt (nP k),upd (NF P kt) (nP k) x es with
     |true,some es=>some ⟨OC P kt,PP,ins j (.map es) regs⟩
     |_,_=>none
    |_=>none
   |none=>none
  |_,_,_=>none
 |.mapEntry t m k=>match tk P t,aev env m,aev env k with
  |some (.map kt e),.mref j,.p k=>match A1 regs j,Kz P e with
   |some (.map es),some z=>match Ip P kt (nP k),FU (NF P kt) (nP k) es with
    |true,some q=>some ⟨OC P kt,.tup [.p (ent (nP k) z es q).2.1,.p (.v (.int .i64 ((ent (nP k) z es q).1:Nat)))],ins j (.map (ent (nP k) z es q).2.2) regs⟩
    |_,_=>none
   |_,_=>none
  |_,_,_=>none
 |.entryStore _ m s x=>match aev env m,asInt (aev env s),Eo regs (aev env x)with
  |.mref j,some s,some (y,regs)=>match A1 regs j with
   |some (.map es)=>some ⟨[0<=s/\s<(es.length:Int)],PP,ins j (.map (setV es s.toNat y)) regs⟩
   |_=>none
  |_,_,_=>none
 |.extract x i=>match aev env x with
  |.tup l=>match l[i]? with
   |some a=>some ⟨[],a,regs⟩
   |none=>none
  |_=>none
 |.call { callee:=.builtin .len,args,argTypes }=>match args.toList,argTypes.toList with
  |[x],[t]=>match YG P regs t (aev env x)with
   |some n=>some ⟨[],.int .i64 n,regs⟩
   |none=>none
  |_,_=>none
 |.call { callee:=.builtin .append,args,argTypes }=>match args.toList,argTypes.toList with
  |[s,x],[t,t2]=>match tk P t,tk P t2 with
   |some (.slice e),some k2=>match srcK k2,tsz P e,Ld P e with
    |true,some m,some z=>match A1 regs (nid d 0),elems regs m (aev env x),PQ regs e m (aev env s)with
     |none,some (n,g),some (l,f,vw,regs)=>if z.length=m/\0<CX P e then
      some ⟨[(l+n)*CX P e<=140737488355328/\l+n<=140737488355328],.vec (nid d 0),ins (nid d 0) (.vec e m (l+n) (Cb l f g) vw) regs⟩else none
     |_,_,_=>match Im regs e m d (famB P e z m) (aev env s) (aev env x)with
      |some (c,v,R)=>some ⟨c,v,R⟩
      |none=>none
    |_,_,_=>none
   |_,_=>none
  |_,_=>none
 |.call { callee:=.builtin .clear,args,argTypes }=>match args.toList,argTypes.toList with
  |[x],[t]=>match tk P t,aev env x with
   |some (.slice e),.vec j=>match A1 regs j,tsz P e,Ld P e with
    |some (.vec e' k n _ false),some m,some z=>if (m=k/\z.length=k)/\z.all He then some ⟨[],PP,ins j (.vec e' k n (fun _=>z) false) regs⟩else none
    |_,_,_=>none
   |_,_=>none
  |_,_=>none
 |.call { callee:=.builtin .min,args,.. }=>match args.toList.map (aev env)with
  |[.p (.v (.int k a)),.p (.v (.int _ b))]=>some ⟨[],.int k (if b<a then b else a),regs⟩
  |_=>none
 |.call { callee:=.builtin .max,args,.. }=>match args.toList.map (aev env)with
  |[.p (.v (.int k a)),.p (.v (.int _ b))]=>some ⟨[],.int k (if a<b then b else a),regs⟩
  |_=>none
 |_=>none
end
def YR:List AV->Option (List PV)
 |[]=>some []
 |.p x::r=>match YR r with
  |some l=>some (nP x::l)
  |none=>none
 |_::_=>none
def OE (P:Program)(env:Env)(o:Op):Option (List Prop×PV):=
 match o with
 |.buildSlice t n parts=>match tk P t with
  |some (.slice e)=>match YR (parts.toList.map fun q=>aev env q.2),tsz P e,Ld P e with
   |some l,some m,some z=>if (n*m<=16777216/\n<=16777216)/\z.length=m/\z.all He then
    some ([Fd n m (parts.toList.map (·.1)) l=true],.sl true m n (J5 z ((parts.toList.map (·.1)).zip (l.map Br))))
    else none
   |_,_,_=>none
  |_=>none
 |.makeSlice t l c=>match tk P t,asInt (aev env l),asInt (aev env c)with
  |some (.slice e),some n,some m=>match tsz P e,Ld P e with
   |some k,some z=>if z.length=k/\z.all He then
    some ([0<=n/\n<=m/\m*CX P e<=140737488355328/\m<=140737488355328],.sl true k n.toNat (fun _=>z))else none
   |_,_=>none
  |_,_,_=>none
 |_=>none
end Go.AM
namespace Go.AM
inductive Hf where
 |normal
 |exit (id:Nat)
 |goto (l:Nat)
 |ret
 |panic (x:PV)
inductive Lz where
 |ret (a:AV)
 |panic (x:PV)
def idx (ids:List Nat)(j:Nat):Option Nat:=
 match ids with
 |[]=>none
 |i::r=>if i=j then some 0 else match idx r j with
  |some n=>some (n+1)
  |none=>none
mutual
def PT (ids:List Nat)(a:AV):Option AV:=
 match a with
 |.p x=>some (.p (nP x))
 |.reg j off=>match idx ids j with|some j=>some (.reg j off)|none=>none
 |.vec j=>match idx ids j with|some j=>some (.vec j)|none=>none
 |.vecp j n=>match idx ids j with|some j=>some (.vecp j n)|none=>none
 |.elt j k i off=>match idx ids j with|some j=>some (.elt j k i off)|none=>none
 |.mref j=>match idx ids j with|some j=>some (.mref j)|none=>none
 |.clo f a b=>match CS ids a,CS ids b with|some a,some b=>some (.clo f a b)|_,_=>none
 |.tup a=>match CS ids a with|some a=>some (.tup a)|none=>none
 |.agr a=>match CS ids a with|some a=>some (.agr a)|none=>none
 |.yf j=>match idx ids j with|some j=>some (.yf j)|none=>none
 |.rsl j n=>match idx ids j with|some j=>some (.rsl j n)|none=>none
 |.top=>some .top
def CS (ids:List Nat)(l:List AV):Option (List AV):=
 match l with
 |[]=>some []
 |a::r=>match PT ids a,CS ids r with
  |some a,some r=>some (a::r)
  |_,_=>none
end
mutual
def unA (ids:List Nat)(a:AV):AV:=
 match a with
 |.p x=>.p x
 |.reg j off=>.reg (ids.getD j 0) off
 |.vec j=>.vec (ids.getD j 0)
 |.vecp j n=>.vecp (ids.getD j 0) n
 |.elt j k i off=>.elt (ids.getD j 0) k i off
 |.mref j=>.mref (ids.getD j 0)
 |.clo f a b=>.clo f (unL ids a) (unL ids b)
 |.tup a=>.tup (unL ids a)
 |.agr a=>.agr (unL ids a)
 |.yf j=>.yf (ids.getD j 0)
 |.rsl j n=>.rsl (ids.getD j 0) n
 |.top=>.top
def unL (ids:List Nat)(l:List AV):List AV:=
 match l with
 |[]=>[]
 |a::r=>unA ids a::unL ids r
end
def PU (ids:List Nat):Obj->Option Obj
 |.cells cs=>match CS ids cs with|some cs=>some (.cells cs)|none=>none
 |.vec e k n f vw=>some (.vec e k n f vw)
 |.map es=>some (.map es)
 |.arr n f=>some (.arr n f)
 |.ghost cs=>match CS ids cs with|some cs=>some (.ghost cs)|none=>none
 |.yld r b=>some (.yld r b)
 |.fam e n jr x=>match x,idx ids jr with|none,some jr=>some (.fam e n jr none)|_,_=>none
 |.rows n g=>some (.rows n g)
 |.dead=>some .dead
def unO (ids:List Nat):Obj->Obj
 |.cells cs=>.cells (unL ids cs)
 |.ghost cs=>.ghost (unL ids cs)
 |.fam e n jr x=>.fam e n (ids.getD jr 0) (match x with|none=>none|some (i,a)=>some (i,unA ids a))
 |o=>o
def J6 (ids:List Nat)(regs:B5):List Nat->Option (List Obj)
 |[]=>some []
 |j::r=>match A1 regs j with
  |some o=>match PU ids o,J6 ids regs r with
   |some o,some l=>some (o::l)
   |_,_=>none
  |none=>none
def Hg (regs:B5):List AV->Option (List AV×B5)
 |[]=>some ([],regs)
 |a::r=>
  match (match a with | .vec _ | .vecp _ _=>(match Eo regs a with|some (x,regs)=>some (AV.p x,regs)|none=>none)|a=>some (a,regs):Option (AV×B5))with
  |some (a,regs)=>match Hg regs r with
   |some (l,regs)=>some (a::l,regs)
   |none=>none
  |none=>none
def G0:List Nat->Bool
 |[]=>true
 |a::r=>!r.contains a&&G0 r
structure W8 where
 F:FuncId->List AV->List Obj->(Lz->List Obj->List Bool->Prop)->Prop
 up:St->(St->Prop)->Prop
variable (S:W8) (P:Program)
def put (st:St)(d:Option Nat)(a:AV):St:=
 match d with
 |some d=>{ st with env:=ins d a st.env }
 |none=>st
def back (all:List Nat):List Nat->List Obj->B5->B5
 |j::ids,o::objs,regs=>back all ids objs (ins j (unO all o) regs)
 |_,_,regs=>regs
def G4 (d:Nat)(ids:List Nat)(ks:List Bool)(n:Nat):List Nat:=(List.range n).map fun p=>
 match ids[p]?,ks[p]? with
 |some j,some true=>j
 |_,_=>nid d p
def M0:List Nat->List Bool->B5->B5
 |j::ids,k::ks,regs=>if k then M0 ids ks regs else M0 ids ks (ins j .dead regs)
 |j::ids,[],regs=>M0 ids [] (ins j .dead regs)
 |[],_,regs=>regs
def unRes (ids:List Nat):Lz->Lz
 |.ret a=>.ret (unA ids a)
 |.panic x=>.panic x
def Y1 (regs:B5)(ids:List Nat)(ks:List Bool)(d n:Nat):Bool:=(List.range n).all fun p=>
 match ids[p]?,ks[p]? with
 |some _,some true=>true
 |_,_=>(A1 regs (nid d p)).isNone
def DS:List Obj->Bool
 |[]=>true
 |.yld _ _::_=>false
 |_::r=>DS r
def YS (d:Nat)(ids:List Nat)(f:FuncId)(args:List AV)(st:St)(K:Lz->St->Prop):Prop:= ∃args' objs,G0 ids=true/\CS ids args=some args' /\ J6 ids st.regs ids=some objs/\DS objs=true /\ S.F f args' objs fun r objs' ks=>Y1 st.regs ids ks d objs'.length=true /\ K (unRes (G4 d ids ks objs'.length) r) { env:=st.env,regs:=back (G4 d ids ks objs'.length) (G4 d ids ks objs'.length) objs' (M0 ids ks st.regs) }
def NG (env:Env)(f:Operand)(args:List AV):Option (FuncId×List AV):=
 match aev env f with
 |.clo f first caps=>some (f,first++args++caps)
 |.p (.v (.func (.func f) x y))=>match x.toList,y.toList with
  |[],[]=>some (f,args)
  |_,_=>none
 |.p (.fn f first caps)=>some (f,first.map .p++args++caps.map .p)
 |_=>none
def Er (env:Env)(f:Operand):Option (FuncId×List AV×List AV):=
 match aev env f with
 |.clo f first caps=>some (f,first,caps)
 |.p (.v (.func (.func f) x y))=>match x.toList,y.toList with
  |[],[]=>some (f,[],[])
  |_,_=>none
 |.p (.fn f first caps)=>some (f,first.map .p,caps.map .p)
 |_=>none
def FV (ops:List Oper)(j:Nat):Nat:=match ops[j]? with
 |some o=>o.dst.getD 0
 |none=>0
def LP:AV->Option Bool
 |.p (.v (.bool b))=>some b
 |.p (.bb b)=>some b
 |_=>none
def yv:AV->Option (Option Bool)
 |.p (.v (.bool b))=>some (some b)
 |.p (.bb b)=>some (some b)
 |.p (.v (.tuple _))=>some none
 |_=>none
abbrev By:AV:=PP
abbrev I8:=Hf->St->Prop
def Iq (d:Option Nat)(k:St->Prop)(Q:I8):Lz->St->Prop
 |.ret a,st=>k (put st d a)
 |.panic x,st=>Q (.panic x) st
def D0:List Prop->Prop
 |[]=>True
 |[p]=>p
 |p::r=>D0 r/\p
theorem LQ (p:Prop)(r:List Prop):D0 (p::r)↔D0 r/\p:=by
 cases r with
 |nil=>exact⟨fun h=>⟨trivial,h⟩,fun h=>h.2⟩
 |cons q s=>exact AZ7
theorem Cd (c d:List Prop):D0 (c++d)↔D0 d/\D0 c:=by
 induction c with
 |nil=>exact⟨fun h=>⟨h,trivial⟩,fun h=>h.1⟩
 |cons p c ih=>simp only[AV2,LQ,ih];exact and_assoc
def leP0 (x y:PV):Prop:= x=y \/ (∃nn k n f g,x=.sl nn k n f/\y=.sl false k n g/\∀i,i<n->f i=g i) \/ (∃k f,x=.v (.slice none 0 0)/\y=.sl false k 0 f)
def Aw9:List PV->List PV->Prop
 |[],[]=>True
 |x::r,y::s=>leP0 x y/\Aw9 r s
 |_,_=>False
def Dn (j:Nat):B5->Bool
 |[]=>true
 |(i,.yld _ _)::r=>i==j&&Dn j r
 |_::r=>Dn j r
def RQ (P:Program)(t:TypeId)(m:String):Option FuncId:=
 match P.info? t,P.underlying t with
 |some i,some d=>match d with
  |.pointer _=>none
  |_=>match i.methods.find? (·.name==m)with
   |some q=>match q.path.toList,q.func with
    |[],some (f,false)=>some f
    |_,_=>none
   |none=>none
 |_,_=>none
def VO:Obj->Option PV
 |.vec _ k n f false=>some (.sl false k n f)
 |.ghost [.p x]=>some x
 |_=>none
def Ir (f:AV->Option (List Prop×PV)):List AV->Option (List Prop×List PV)
 |[]=>some ([],[])
 |a::r=>match f a,Ir f r with
  |some (c,x),some (d,l)=>some (c++d,x::l)
  |_,_=>none
def HK (regs:B5):Nat->AV->Option (List Prop×PV)
 |0,a=>match a with
  |.p x=>some ([],x)
  |_=>none
 |n+1,a=>match a with
  |.p x=>some ([],x)
  |.vec j=>match A1 regs j with
   |some (.vec _ k m f _)=>some ([],.sl false k m f)
   |some (.fam _ m jr none)=>match A1 regs jr with
    |some (.rows l g)=>some ([l=m/\∀i,i<m->(VO (g i)).isSome=true],.sl false 1 m fun i=>[(VO (g i)).getD default])
    |_=>none
   |_=>none
  |.reg j off=>match A1 regs j with
   |some (.cells cs)=>match Ir (HK regs n) (cs.drop off)with
    |some (c,l)=>some (c,.ptr l)
    |none=>none
   |_=>none
  |.agr cs=>match Ir (HK regs n) cs with
   |some (c,l)=>some (c,.agg l)
   |none=>none
  |_=>none
def RR:PV->Bool
 |.v (.int _ _) | .v (.bool _) | .bb _ | .str _=>true
 |_=>false
def YT:List AV->Bool
 |[]=>true
 |.p x::r=>RR x&&YT r
 |_=>false
def Ag7:AV->Bool
 |.p x=>RR x
 |.tup l=>YT l
 |_=>false
def AH4 (regs:B5)(l l' : List AV)(regs' : B5):Prop:=Hg regs l=some (l',regs') \/ (l' = l/\regs' = regs)
def VP (j:Nat)(dst:Option Nat)(k:St->Prop)(st:St)(r:Lz)(objs:List Obj):Prop:= (∃a,r=.ret a/\Ag7 a=true/\k (put st dst a)) \/ ∃e m n g,r=.ret (.vec 0)/\objs=[.vec e m n g false]/\(∀i l,i<n->l<m->RR ((g i).getD l default)=true)/\A1 st.regs j=none /\ k (put { st with regs:=ins j (.vec e m n g false) st.regs } dst (.vec j))
def Dp (e:TypeId)(k n:Nat)(f:Nat->List PV):List PV:=[.agg [.sl true 1 1 fun _=>[],.iface e (.sl false k n f)]]
def wOp (o:Oper)(k:St->Prop)(Q:I8)(st:St):Prop:=
 match o.op with
 |.call { callee:=.value f,args,.. }=>
  (∃as regs f' as',AH4 st.regs (args.toList.map (aev st.env)) as regs/\NG st.env f as=some (f',as') /\
   ∃ids,YS S (o.dst.getD 0) ids f' as' { st with regs } (Iq o.dst k Q)) \/
  (∃j xs regs ys rest,aev st.env f=.yf j/\EA st.regs (args.toList.map (aev st.env))=some (xs,regs)/\A1 regs j=some (.yld (ys::rest) true)/\Dn j regs=true/\Aw9 xs ys /\
   ∀b:Bool,k (put { st with regs:=ins j (.yld (if b then rest else []) b) regs } o.dst (.p (.bb b)))) \/
  (∃f' as' c xs,NG st.env f (args.toList.map (aev st.env))=some (f',as')/\Ir (HK st.regs 9) as' = some (c,xs)/\D0 c /\
   S.F f' (xs.map .p) [] fun r objs _=>VP (nid (o.dst.getD 0) 0) o.dst k st r objs) \/
  (∃j jw e m n g rest,(aev st.env f=.yf j/\args.toList.map (aev st.env)=[.vec jw]/\A1 st.regs jw=some (.vec e m n g false))/\A1 st.regs j=some (.yld (Dp e m n g::rest) true)/\Dn j st.regs=true /\
   ∀b:Bool,k (put { st with regs:=ins j (.yld (if b then rest else []) b) st.regs } o.dst (.p (.bb b))))
 |.call { callee:=.invoke recv m,args,.. }=>
  ∃as regs t y f',Hg st.regs (args.toList.map (aev st.env))=some (as,regs)/\aev st.env recv=.p (.iface t y)/\RQ P t m=some f' /\
   ∃ids,YS S (o.dst.getD 0) ids f' (.p y::as) { st with regs } (Iq o.dst k Q)
 |.panic x=>∃t y,aev st.env x=.p (.iface t y)/\Q (.panic (.iface t y)) st
 |op=>(∃out,aop P st.env st.regs (o.dst.getD 0) op=some out/\D0 out.cond/\k (put { st with regs:=out.regs } o.dst out.val)) \/
  ∃c x,OE P st.env op=some (c,x)/\D0 c/\k (put st o.dst (.p x))
def JA (all:List Oper):List Oper->I8->St->Prop
 |[],Q,st=>Q .normal st
 |o::rest,Q,st0=>S.up st0 fun st=>
  match o.guard with
  |none=>wOp S P o (JA all rest Q) Q st
  |some (j,want)=>∃b,yv (get st.env (FV all j))=some b /\
   if b=some want then wOp S P o (JA all rest Q) Q st else JA all rest Q (put st o.dst By)
def thn (K:St->Prop)(Q:I8):I8
 |.normal,s=>S.up s K
 |e,s=>Q e s
def blk (id:Nat)(Q:I8):I8
 |.exit i,s=>if i=id then Q .normal s else Q (.exit i) s
 |e,s=>Q e s
def lop {X:Type}(s:X->St)(J:X->Prop)(m:X->Nat)(n:Nat)(Q:I8):I8
 |.normal,t=>S.up t fun t'=>∃x,t' = s x/\J x/\m x<n
 |e,t=>Q e t
def scp (Q:I8):I8
 |.goto _,_=>False
 |e,s=>Q e s
def NJ (all:List Oper)(o:Oper)(k:St->Prop)(Q:I8)(st0:St):Prop:=S.up st0 fun st=>
 match o.guard with
 |none=>wOp S P o k Q st
 |some (j,want)=>∃b,yv (get st.env (FV all j))=some b /\
  if b=some want then wOp S P o k Q st else k (put st o.dst By)
def Es (e:Edge):Bool:=Region.binds .any e
def KA (ops:List Oper):Bool:=(List.range ops.length).all fun i=>match ops[i]? with
 |some o=>o.after.toList.all fun e=>!Es e||decide (e.on<i)
 |none=>true
def Ag8 (ops:List Oper)(Q:I8)(st:St):Prop:= P.follows .mixedOrders=true/\KA ops=true/\∃Inv:(Nat->Bool)->St->Prop,Inv (fun _=>false) st /\ (∀D i s o,Inv D s->ops[i]? = some o->D i=false->(∀e∈o.after.toList,Es e=true->D e.on=true) -> NJ S P ops o (Inv fun j=>if j=i then true else D j) Q s) /\ ∀D s,Inv D s->(∀i,i<ops.length->D i=true)->S.up s (Q .normal)
def Hq (n:Nat)(all:List Oper)(o:Oper):Bool:=
 (match o.dst with|some d=>Nat.blt d n|none=>true) &&
 (match o.guard with|some (j,_)=>(match all[j]? with|some o'=>o'.dst.isSome|none=>false)|none=>true)
def AT (n:Nat):Code->Bool
 |.region _ ops _=>ops.toList.all (Hq n ops.toList)
 |.seq a b | .cond _ a b=>AT n a&&AT n b
 |.rangeFunc _ ps a b=>ps.toList.all (fun t=>Nat.blt t n)&&AT n a&&AT n b
 |.block _ b | .loop b | .scope b=>AT n b
 |_=>true
mutual
def inA (js:List Nat)(a:AV):Bool:=
 match a with
 |.p _ | .top=>true
 |.reg j _ | .vec j | .vecp j _ | .elt j _ _ _ | .mref j | .yf j | .rsl j _=>js.contains j
 |.clo _ a b=>inL js a&&inL js b
 |.tup a | .agr a=>inL js a
def inL (js:List Nat)(l:List AV):Bool:=
 match l with
 |[]=>true
 |a::r=>inA js a&&inL js r
end
def inO (js:List Nat):Obj->Bool
 |.cells cs | .ghost cs=>inL js cs
 |.fam _ _ jr x=>js.contains jr&&(match x with|some (_,a)=>inA js a|none=>true)
 |_=>true
def YU:List PV->Option (TypeId×Nat×Nat×(Nat->List PV))
 |[.agg [.sl true _ _ _,.iface e (.sl false k n f)]]=>some (e,k,n,f)
 |_=>none
def Ah (ys:List PV):Option Nat:=match YU ys with
 |none=>some ys.length
 |some _=>none
def AH5 (jl:Option Nat)(m:Nat)(ys:List PV):Prop:=match jl with
 |none=>Ah ys=some m
 |some _=>m=1/\∃e k n f,ys=Dp e k n f
def S5:List Nat->List AV->Env
 |t::ts,a::l=>(t,a)::S5 ts l
 |_,_=>[]
def Lf:List Nat->List PV->Env->Env
 |t::ts,x::l,env=>Lf ts l (ins t (.p x) env)
 |_,_,env=>env
def Fe (g:Nat)(ts:List Nat)(next:St->Prop)(Q:I8):I8
 |.normal,s=>S.up s fun s=>∃cs,A1 s.regs g=some (.ghost cs)/\cs.length=ts.length/\A1 (del g s.regs) g=none/\next ⟨S5 ts cs,del g s.regs⟩
 |.panic _,_=>False
 |e,s=>S.up s fun s=>∃cs,A1 s.regs g=some (.ghost cs)/\cs.length=ts.length/\A1 (del g s.regs) g=none/\Q e ⟨S5 ts cs,del g s.regs⟩
def endL (g j:Nat)(ts:List Nat)(o:Obj)(s:St)(cs:List AV):Prop:= (A1 s.regs g=some (.ghost cs)/\cs.length=ts.length/\A1 s.regs j=some o)/\(A1 (del j (del g s.regs)) g=none/\A1 (del j (del g s.regs)) j=none) /\ cs.all (inA ((del j (del g s.regs)).map (·.1)))=true/\(del j (del g s.regs)).all (fun p=>inO ((del j (del g s.regs)).map (·.1)) p.2)=true
def KB (g j:Nat)(ts:List Nat)(o:Obj)(next:St->Prop)(Q:I8):I8
 |.normal,s=>S.up s fun s=>∃cs,endL g j ts o s cs/\next ⟨S5 ts cs,del j (del g s.regs)⟩
 |.panic _,_=>False
 |e,s=>S.up s fun s=>∃cs,endL g j ts o s cs/\Q e ⟨S5 ts cs,del j (del g s.regs)⟩
def YV (jl:Option Nat)(gh:Nat)(ts:List Nat)(ps:Array Tmp)(wa wb:I8->St->Prop)(next:St->Prop)(Q:I8)(ys:List PV)(s:St):Prop:=match jl with
 |none=>wa (fun e s'=>match e with
  |.normal=>S.up s' fun s'=>wb (Fe S gh ts next Q) s'
  |_=>False) ⟨Lf ps.toList ys s.env,ins gh (.ghost (s.env.map (·.2))) s.regs⟩
 |some j=>(j<1000/\j≠gh/\A1 s.regs j=none)/\∀e k n f,ys=Dp e k n f->wa (fun e' s'=>match e' with
  |.normal=>S.up s' fun s'=>wb (KB S gh j ts (.vec e k n f false) next Q) s'
  |_=>False) ⟨ins (ps.getD 0 0) (.vec j) s.env,ins j (.vec e k n f false) (ins gh (.ghost (s.env.map (·.2))) s.regs)⟩
def AH6 (g:Operand)(ps:Array Tmp)(wa:I8->St->Prop)(wb:I8->St->Prop)(Q:I8)(st:St):Prop:=
 ∃(f:FuncId) (first caps as bs:List AV) (objs:List Obj) (ids ts:List Nat) (gh:Nat) (jl:Option Nat) (L:List (List PV)) (I:List (List PV)->St->Prop) (Fin:Bool->Lz->Prop),
  Er st.env g=some (f,first,caps) /\
  (∃fn,P.funcs[f]? = some fn/\fn.body.isSome=true/\(fn.name == "runtime.NumGoroutine")=false)/\DS objs=true /\
  G0 ids=true/\CS ids first=some as/\CS ids caps=some bs/\J6 ids st.regs ids=some objs/\gh<1000/\A1 st.regs gh=none/\ids.length<1000/\ts.Nodup /\
  (∀ys∈L,AH5 jl ps.size ys) /\
  S.up ⟨S5 ts (ts.map (get st.env)),M0 ids (ids.map fun _=>false) st.regs⟩ (fun s=>s.env.map (·.1)=ts/\A1 s.regs gh=none/\I L s) /\
  (∀ys rest s,s.env.map (·.1)=ts->A1 s.regs gh=none->I (ys::rest) s->YV S jl gh ts ps wa wb (I rest) Q ys s) /\
  (∀s r,s.env.map (·.1)=ts->A1 s.regs gh=none->I [] s->Fin true r->match r with
   |.ret _=>Q .normal s
   |.panic x=>Q (.panic x) s) /\
  S.F f (as ++ .yf ids.length::bs) (objs++[.yld L true]) fun r objs' ks=>∃b,objs'[ids.length]? = some (.yld [] b)/\ks[ids.length]? = some true/\Fin b r/\(b=false->∃a,r=.ret a)
def awp:Code->I8->St->Prop
 |.skip,Q,st=>Q .normal st
 |.label _,Q,st=>Q .normal st
 |.region _ ops draw,Q,st=>if draw then Ag8 S P ops.toList Q st else JA S P ops.toList ops.toList Q st
 |.seq a b,Q,st=>awp a (thn S (awp b Q) Q) st
 |.cond c t e,Q,st=>∃b,LP (aev st.env c)=some b/\if b then awp t Q st else awp e Q st
 |.block id b,Q,st=>awp b (blk id Q) st
 |.loop b,Q,st=>∃(X:Type) (s:X->St) (J:X->Prop) (m:X->Nat),S.up st (fun t=>∃x,t=s x/\J x)/\∀x,J x->awp b (lop S s J m (m x) Q) (s x)
 |.scope b,Q,st=>awp b (scp Q) st
 |.exit id,Q,st=>Q (.exit id) st
 |.goto l,Q,st=>Q (.goto l) st
 |.ret,Q,st=>Q .ret st
 |.rangeFunc g ps asg body,Q,st=>AH6 S P g ps (awp asg) (awp body) Q st
 |.refuse _,_,_=>False
def YW (st:St):ResultVar->Option AV
 |.tmp t=>some (get st.env t)
 |.cell a t=>match load P st.regs t (get st.env a)with
  |some ([],a)=>some a
  |_=>none
def Gc (st:St):List ResultVar->Option (List AV)
 |[]=>some []
 |r::rs=>match YW P st r,Gc st rs with
  |some a,some l=>some (a::l)
  |_,_=>none
def one:List AV->AV
 |[a]=>a
 |l=>.tup l
def argEnv (args:List AV):Env:=go 0 args []
where
 go (n:Nat):List AV->Env->Env
  |[],acc=>acc
  |a::r,acc=>go (n+1) r ((n,a)::acc)
def objRegs (objs:List Obj):B5:=go 0 objs []
where
 go (n:Nat):List Obj->B5->B5
  |[],acc=>acc
  |a::r,acc=>go (n+1) r ((n,a)::acc)
def FI (n:Nat)(outs:List Nat):List Bool:=(List.range n).map fun i=>outs.getD i 1000==i
def Cz (n:Nat)(rs:List ResultVar)(Q:Lz->List Obj->List Bool->Prop):I8
 |.normal,st | .ret,st=>S.up st fun st1=>∃l outs a objs,Gc P st1 rs=some l/\G0 outs=true/\PT outs (one l)=some a/\J6 outs st1.regs outs=some objs/\Q (.ret a) objs (FI n outs)
 |.panic x,st=>∃outs objs,G0 outs=true/\J6 outs st.regs outs=some objs/\Q (.panic x) objs (FI n outs)
 |_,_=>False
def viewP (regs:B5):AV->Option PV
 |.p x=>some x
 |.vec j=>match A1 regs j with
  |some (.vec _ k n f _)=>some (.sl false k n f)
  |_=>none
 |.vecp j m=>match A1 regs j with
  |some (.vec _ k n f _)=>some (.sl false k (min m n) f)
  |_=>none
 |.clo f [] []=>some (.v (.func (.func f) #[] #[]))
 |.clo f a b=>match RJ a,RJ b with
  |some a,some b=>some (.fn f a b)
  |_,_=>none
 |_=>none
def leP (x y:PV):Prop:= x=y \/ (∃nn k n f g,x=.sl nn k n f/\y=.sl false k n g/\∀i,i<n->f i=g i) \/ (∃k f,x=.v (.slice none 0 0)/\y=.sl false k 0 f) \/ (∃b,x=.v (.bool b)/\y=.bb b) \/ (∃b,x=.bb b/\y=.v (.bool b))
def lk (ids:List (Nat×Nat))(j:Nat):Option Nat:=
 match ids with
 |[]=>none
 |(a,b)::r=>if a=j then some b else lk r j
mutual
def leA (regs:B5)(ids:List (Nat×Nat))(a b:AV):Prop:=
 match b with
 |.top=>True
 |.p y=>∃x,viewP regs a=some x/\leP x y
 |.reg j off=>∃i,lk ids j=some i/\a=.reg i off
 |.vec j=>(∃i,lk ids j=some i/\a=.vec i) \/ (lk ids j=none/\a=.p (.v (.slice none 0 0)))
 |.vecp j n=>∃i,lk ids j=some i/\a=.vecp i n
 |.elt j k n off=>∃i,lk ids j=some i/\a=.elt i k n off
 |.mref j=>∃i,lk ids j=some i/\a=.mref i
 |.clo f x y=>∃x' y',a=.clo f x' y' /\ leL regs ids x' x/\leL regs ids y' y
 |.tup l=>∃l',a=.tup l' /\ leL regs ids l' l
 |.agr l=>∃l',a=.agr l' /\ leL regs ids l' l
 |.yf j=>∃i,lk ids j=some i/\a=.yf i
 |.rsl j n=>∃i,lk ids j=some i/\a=.rsl i n
def leL (regs:B5)(ids:List (Nat×Nat))(a b:List AV):Prop:=
 match b with
 |[]=>a=[]
 |y::s=>∃x r,a=x::r/\leA regs ids x y/\leL regs ids r s
end
def LR (regs:B5)(ids:List (Nat×Nat))(env:Env):Env->Prop
 |[]=>True
 |(t,b)::r=>leA regs ids (get env t) b/\LR regs ids env r
def nov:AV->AV->Bool
 |.p _,.p _|_,.vec _|_,.mref _|_,.top=>true
 |_,_=>false
def leO (regs:B5)(ids:List (Nat×Nat))(o p:Obj):Prop:=
 match p with
 |.cells cs=>∃cs',o=.cells cs' /\ leL regs ids cs' cs
 |.vec e k n f vw=>∃g vw',o=.vec e k n g vw' /\ (∀i,i<n->g i=f i)/\(vw' = true->vw=true)
 |.map es=>o=.map es
 |.arr n f=>∃g,o=.arr n g/\∀i,i<n->g i=f i
 |.ghost cs=>∃cs',o=.ghost cs' /\ leL regs ids cs' cs
 |.yld r b=>o=.yld r b
 |.fam e n jr x=>∃jr' x',o=.fam e n jr' x' /\ lk ids jr=some jr' /\ match x with
  |none=>x' = none
  |some (i,a)=>∃a',x' = some (i,a')/\nov a' a=true/\leA regs ids a' a
 |.rows n g=>∃g',o=.rows n g' /\ ∀i,i<n->g' i=g i
 |.dead=>True
def RU (regs:B5)(ids:List (Nat×Nat)):B5->Prop
 |[]=>True
 |(j,p)::r=>((∃i o,lk ids j=some i/\A1 regs i=some o/\leO regs ids o p) \/ (lk ids j=none/\∃e k f vw,p=.vec e k 0 f vw))/\RU regs ids r
def Ag9 {α : Type}:List (Nat × α)->Bool
 |(a,_)::(b,y)::r=>b<a&&Ag9 ((b,y)::r)
 |_=>true
def wf (st:St):Bool:= Ag9 st.env&&Ag9 st.regs&&st.env.all (fun p=>inA (st.regs.map (·.1)) p.2)&&st.regs.all (fun p=>inO (st.regs.map (·.1)) p.2)
mutual
def Iu (a b:AV):List Nat:=
 match b with
 |.p _=>match a with | .vec j | .vecp j _=>[j] | _=>[]
 |.clo _ x y=>match a with | .clo _ x' y'=>LT x' x++LT y' y|_=>[]
 |.tup l=>match a with | .tup l'=>LT l' l|_=>[]
 |.agr l=>match a with | .agr l'=>LT l' l|_=>[]
 |_=>[]
def LT (a b:List AV):List Nat:=
 match b with
 |[]=>[]
 |y::s=>match a with
  |x::r=>Iu x y++LT r s
  |[]=>[]
end
def Ah0 (env:Env):Env->List Nat
 |[]=>[]
 |(t,b)::r=>Iu (get env t) b++Ah0 env r
def Iv (ids:List (Nat×Nat))(regs:B5):B5->List Nat
 |[]=>[]
 |(j,.cells cs)::r=>(match lk ids j with
  |some i=>match A1 regs i with
   |some (.cells cs')=>LT cs' cs
   |_=>[]
  |none=>[])++Iv ids regs r
 |(j,.ghost cs)::r=>(match lk ids j with
  |some i=>match A1 regs i with
   |some (.ghost cs')=>LT cs' cs
   |_=>[]
  |none=>[])++Iv ids regs r
 |_::r=>Iv ids regs r
def KC (ids:List (Nat×Nat))(js:List Nat):B5->Bool
 |[]=>true
 |(j,.vec _ _ _ _ false)::r=>(match lk ids j with|some i=>!js.contains i|none=>true)&&KC ids js r
 |_::r=>KC ids js r
def Xr:List (Nat×Nat)->Bool
 |[]=>true
 |(j,i)::r=>(j==i||1000<=j)&&Xr r
def OF (ids:List (Nat×Nat)):B5->Bool
 |[]=>true
 |(j,_)::r=>((lk ids j).isSome||1000<=j)&&OF ids r
def Le (ids:List (Nat×Nat))(s t:St):Prop:= (wf t=true/\G0 (ids.map (·.2))=true/\Xr ids=true/\OF ids t.regs=true/\KC ids (Ah0 s.env t.env++Iv ids s.regs t.regs) t.regs=true)/\LR s.regs ids s.env t.env/\RU s.regs ids t.regs
def frzA (j:Nat)(ps:List PV):AV->AV
 |.reg i o=>if i=j then .p (.ptr (ps.drop o))else .reg i o
 |a=>a
def Ag1 (j:Nat)(ps:List PV):Env->Env
 |[]=>[]
 |(t,a)::r=>(t,frzA j ps a)::Ag1 j ps r
def Ah1 (j n j' : Nat):AV->AV
 |.vecp i m=>if i=j/\m=n then .vec j' else .vecp i m
 |a=>a
def As4 (j n j' : Nat):Env->Env
 |[]=>[]
 |(t,a)::r=>(t,Ah1 j n j' a)::As4 j n j' r
def As5 (j n j' : Nat):List AV->List AV
 |[]=>[]
 |a::r=>Ah1 j n j' a::As5 j n j' r
def AF9 (j n j' : Nat):Obj->Obj
 |.cells cs=>.cells (As5 j n j' cs)
 |o=>o
def VQ (j n j' : Nat):B5->B5
 |[]=>[]
 |(t,o)::r=>(t,AF9 j n j' o)::VQ j n j' r
def Ag2 (n:Nat)(f:Nat->PV):List AV:=(List.range n).map fun i=>.p (f i)
inductive leQ:PV->PV->Prop
 |p {x y:PV}(h:leP x y):leQ x y
 |sl {nn:Bool}{k n:Nat}{f g:Nat->List PV}(hl:∀i,i<n->(f i).length=(g i).length) (h:∀i j,i<n->leQ ((f i).getD j default) ((g i).getD j default)):leQ (.sl nn k n f) (.sl false k n g)
 |agg {xs ys:List PV}(hl:xs.length=ys.length) (h:∀j,leQ (xs.getD j default) (ys.getD j default)):leQ (.agg xs) (.agg ys)
def leC (l m:List PV):Prop:=l.length=m.length/\∀j,leQ (l.getD j default) (m.getD j default)
def RV:List AV->List AV->Prop
 |[],[]=>True
 |a::r,b::s=>(a=b \/ ∃x y,a=.p x/\b=.p y/\leQ x y)/\RV r s
 |_,_=>False
inductive Xs where
 |fam (j jr:Nat) (g:Nat->Obj)
 |take (j i j' : Nat)
 |over (j i:Nat)
 |put (j jr:Nat)
 |psh (j jr:Nat)
 |pub (j:Nat)
def YX (f:List PV):Obj->Prop
 |.vec _ _ 0 _ false=>f=[.v (.slice none 0 0)]
 |.ghost [.p x]=>f=[x]/\He x=true
 |_=>False
def rowA (j' : Nat):Obj->Option (AV×Obj)
 |.vec e k n f false=>some (.vec j', .vec e k n f false)
 |.map es=>some (.mref j', .map es)
 |.ghost [.p x]=>some (.p x,.dead)
 |_=>none
def ofA (regs:B5):AV->Option (Option Nat×Obj)
 |.vec j'=>match A1 regs j' with
  |some (.vec e k l f false)=>some (some j', .vec e k l f false)
  |_=>none
 |.mref j'=>match A1 regs j' with
  |some (.map es)=>some (some j', .map es)
  |_=>none
 |.p x=>some (none,.ghost [.p x])
 |_=>none
def Ui (jo:Option Nat)(regs:B5):B5:=match jo with
 |some j=>ins j .dead regs
 |none=>regs
def Y2 (op:Xs)(st:St):Option (List Prop×St):=
 match op with
 |.fam j jr g=>match A1 st.regs j,A1 st.regs jr with
  |some (.vec e 1 n f false),none=>some ([1000<=jr/\∀i,i<n->YX (f i) (g i)],⟨st.env,ins jr (.rows n g) (ins j (.fam e n jr none) st.regs)⟩)
  |_,_=>none
 |.take j i j'=>match A1 st.regs j,A1 st.regs j' with
  |some (.fam e n jr none),none=>match A1 st.regs jr with
   |some (.rows m g)=>match rowA j' (g i)with
    |some (a,o)=>some ([(1000<=j' /\ m=n)/\i<n],⟨st.env,ins j' o (ins jr (.rows n fun l=>if l=i then .dead else g l) (ins j (.fam e n jr (some (i,a))) st.regs))⟩)
    |none=>none
   |_=>none
  |_,_=>none
 |.over j i=>match A1 st.regs j with
  |some (.fam e n jr none)=>match A1 st.regs jr with
   |some (.rows m g)=>some ([m=n/\i<n],⟨st.env,ins jr (.rows n fun l=>if l=i then .dead else g l) (ins j (.fam e n jr (some (i,.top))) st.regs)⟩)
   |_=>none
  |_=>none
 |.put j jr'=>match A1 st.regs j,A1 st.regs jr' with
  |some (.fam e n jr (some (i,a))),none=>match A1 st.regs jr,ofA st.regs a with
   |some (.rows m g),some (jo,o)=>some ([(1000<=jr' /\ m=n)/\i<n],⟨st.env,ins jr' (.rows n fun q=>if q=i then o else g q) (Ui jo (ins jr .dead (ins j (.fam e n jr' none) st.regs)))⟩)
   |_,_=>none
  |_,_=>none
 |.psh j jr'=>match A1 st.regs j,A1 st.regs jr' with
  |some (.fam e n jr (some (i,a))),none=>match A1 st.regs jr,ofA st.regs a with
   |some (.rows m g),some (jo,o)=>some ([1000<=jr' /\ n=m+1/\i=m],⟨st.env,ins jr' (.rows (m+1) fun q=>if q=m then o else g q) (Ui jo (ins jr .dead (ins j (.fam e (m+1) jr' none) st.regs)))⟩)
   |_,_=>none
  |_,_=>none
 |.pub j=>match A1 st.regs j with
  |some (.fam e n jr none)=>match A1 st.regs jr with
   |some (.rows m g)=>some ([m=n/\∀i,i<n->(VO (g i)).isSome=true],⟨st.env,ins jr .dead (ins j (.vec e 1 n (fun i=>[(VO (g i)).getD default]) false) st.regs)⟩)
   |_=>none
  |_=>none
def PW (a b:AV):Prop:=a=.top \/ a=b \/ ∃x,a=.p (.bb x)/\b=.p (.v (.bool x))
structure G8:Prop where
 refl:∀s K,K s->S.up s K
 trans:∀s K,S.up s (fun t=>S.up t K)->S.up s K
 mono:∀s K K',(∀t,K t->K' t)->S.up s K->S.up s K'
 bool:∀(st:St) (t:Nat) (b:Bool) K,get st.env t=.p (.bb b)->K ⟨ins t (.p (.v (.bool b))) st.env,st.regs⟩->S.up st K
 nil:∀(st:St) (t:Nat) (k n:Nat) (f:Nat->List PV) K,get st.env t=.p (.sl false k n f) ->
  (n=0->K ⟨ins t (.p (.v (.slice none 0 0))) st.env,st.regs⟩)->K ⟨ins t (.p (.sl true k n f)) st.env,st.regs⟩->S.up st K
 frz:∀(st:St) (j:Nat) (ps:List PV) K,A1 st.regs j=some (.cells (ps.map .p))->K ⟨Ag1 j ps st.env,ins j .dead st.regs⟩->S.up st K
 trunc:∀(st:St) (j j' n N k:Nat) (e:TypeId) (f:Nat->List PV) K,A1 st.regs j=some (.vec e k N f false)->n<=N->A1 st.regs j' = none->1000<=j' -> K ⟨As4 j n j' st.env,ins j' (.vec e k n f false) (ins j .dead (VQ j n j' st.regs))⟩->S.up st K
 toArr:∀(st:St) (j n:Nat) (f:Nat->PV) K,A1 st.regs j=some (.cells (Ag2 n f))->K ⟨st.env,ins j (.arr n f) st.regs⟩->S.up st K
 ofArr:∀(st:St) (j n:Nat) (f:Nat->PV) K,A1 st.regs j=some (.arr n f)->K ⟨st.env,ins j (.cells (Ag2 n f)) st.regs⟩->S.up st K
 pq:∀(st:St) (t:Nat) (x y:PV) K,get st.env t=.p x->leQ x y->K ⟨ins t (.p y) st.env,st.regs⟩->S.up st K
 vecq:∀(st:St) (j n k:Nat) (e:TypeId) (f g:Nat->List PV) (vw:Bool) K,A1 st.regs j=some (.vec e k n f vw)->(∀i,i<n->leC (f i) (g i))->K ⟨st.env,ins j (.vec e k n g vw) st.regs⟩->S.up st K
 le:∀ids s t K,Le ids s t->K t->S.up s K
 fam:∀(op:Xs) (s t:St) (c:List Prop) K,Y2 op s=some (c,t)->D0 c->K t->S.up s K
 less:∀(s t:St) K,(∀x,PW (get t.env x) (get s.env x))->(∀j,A1 s.regs j=A1 t.regs j)->K t->S.up s K
 eqv:∀(s t:St) K,(∀x,get s.env x=get t.env x)->(∀j,A1 s.regs j=A1 t.regs j)->K t->S.up s K
 func:∀f fn code args objs Q,P.funcs[f]? = some fn->fn.body=some code->(fn.name == "runtime.NumGoroutine")=false->AT fn.ntmps code=true->args.length<=fn.ntmps->objs.length<1000 ->
  S.up { env:=argEnv args,regs:=objRegs objs } (awp S P code (Cz S P objs.length fn.results.toList Q))->S.F f args objs Q
 argLe:∀f args args' objs Q,RV args args' -> S.F f args' objs Q->S.F f args objs Q
 monoF:∀f args objs Q Q',(∀r o y,Q r o y->Q' r o y)->S.F f args objs Q->S.F f args objs Q'
end Go.AM
namespace Go.AM
universe u
def fC {R:Type u}(c:List Prop)(d:List Prop)(κ : List Prop->R):R:=
 match c with
 |[]=>κ d
 |p::r=>fC r d fun d=>κ (p::d)
theorem AH7 {R:Type u}(c d:List Prop)(κ : List Prop->R):fC c d κ = κ (c++d):=by
 induction c generalizing κ with
 |nil=>rfl
 |cons p r ih=>simp only[fC,ih,AV2]
def fP {R:Type u}(x:PV)(κ : PV->R):R:=
 match x with
 |.v x=>match x with
  |.bool b=>κ (.v (.bool b))
  |.int k n=>κ (.v (.int k n))
  |x=>κ (.v x)
 |.bb b=>κ (.bb b)
 |.str l=>κ (.str l)
 |.agg cs=>κ (.agg cs)
 |.sl nn k n f=>κ (.sl nn k n f)
 |.ptr cs=>κ (.ptr cs)
 |.iface t a=>κ (.iface t a)
 |.fn f a b=>κ (.fn f a b)
mutual
def fA {R:Type u}(a:AV)(κ : AV->R):R:=
 match a with
 |.p x=>fP x fun x=>κ (.p x)
 |.reg j off=>κ (.reg j off)
 |.vec j=>κ (.vec j)
 |.vecp j n=>κ (.vecp j n)
 |.elt j k i off=>κ (.elt j k i off)
 |.mref j=>κ (.mref j)
 |.clo f a b=>fL a fun a=>fL b fun b=>κ (.clo f a b)
 |.tup l=>fL l fun l=>κ (.tup l)
 |.agr l=>fL l fun l=>κ (.agr l)
 |.yf j=>κ (.yf j)
 |.rsl j n=>κ (.rsl j n)
 |.top=>κ .top
def fL {R:Type u}(l:List AV)(κ : List AV->R):R:=
 match l with
 |[]=>κ []
 |a::r=>fA a fun a=>fL r fun r=>κ (a::r)
end
def fO {R:Type u}(o:Obj)(κ : Obj->R):R:=
 match o with
 |.cells cs=>fL cs fun cs=>κ (.cells cs)
 |.vec e k n f vw=>κ (.vec e k n f vw)
 |.map es=>κ (.map es)
 |.arr n f=>κ (.arr n f)
 |.ghost cs=>fL cs fun cs=>κ (.ghost cs)
 |.yld r b=>κ (.yld r b)
 |.fam e n jr x=>match x with
  |none=>κ (.fam e n jr none)
  |some (i,a)=>fA a fun a=>κ (.fam e n jr (some (i,a)))
 |.rows n g=>κ (.rows n g)
 |.dead=>κ .dead
def fR {R:Type u}(l:B5)(κ : B5->R):R:=
 match l with
 |[]=>κ []
 |(j,o)::r=>fO o fun o=>fR r fun r=>κ ((j,o)::r)
def fE {R:Type u}(l:Env)(κ : Env->R):R:=
 match l with
 |[]=>κ []
 |(j,o)::r=>fA o fun o=>fE r fun r=>κ ((j,o)::r)
def YY {α : Type}{R:Type u}(k:Nat)(a : α)(l:List (Nat × α))(κ : List (Nat × α)->R):R:=
 match l with
 |[]=>κ [(k,a)]
 |(i,b)::r=>if i<k then κ ((k,a)::(i,b)::r)else if i=k then κ ((k,a)::r)else YY k a r fun r=>κ ((i,b)::r)
theorem fP_eq {R:Type u}(x:PV)(κ : PV->R):fP x κ = κ x:=by
 cases x<;>try rfl
 rename_i x;cases x<;>rfl
mutual
theorem Xt {R:Type u}(a:AV)(κ : AV->R):fA a κ = κ a:=by cases a<;>simp only[fA,fP_eq,Ax0]
theorem Ax0 {R:Type u}(l:List AV)(κ : List AV->R):fL l κ = κ l:=by
 cases l with
 |nil=>rfl
 |cons a r=>simp only[fL,Xt a,Ax0 r]
end
theorem fO_eq {R:Type u}(o:Obj)(κ : Obj->R):fO o κ = κ o:=by
 cases o<;>simp only[fO,Ax0];rename_i x;rcases x with _|⟨i,a⟩
 .rfl
 simp only[Xt]
theorem Ax1 {R:Type u}(l:B5)(κ : B5->R):fR l κ = κ l:=by
 induction l generalizing κ with
 |nil=>rfl
 |cons a r ih=>simp only[fR,fO_eq,ih]
theorem fE_eq {R:Type u}(l:Env)(κ : Env->R):fE l κ = κ l:=by
 induction l generalizing κ with
 |nil=>rfl
 |cons a r ih=>simp only[fE,Xt,ih]
theorem HL {α : Type}{R:Type u}(k:Nat)(a : α)(l:List (Nat × α))(κ : List (Nat × α)->R):YY k a l κ = κ (ins k a l):=by
 induction l generalizing κ with
 |nil=>rfl
 |cons p r ih=>simp only[YY,ins];split;rfl;split;rfl;rw[ih]
def Ax2:AV->Option Bool
 |.p (.v (.bool b))=>some b
 |_=>none
theorem OG {a:AV}{b:Bool}(h:Ax2 a=some b):LP a=some b:=by
 unfold Ax2 at h;split at h
 .simpa[LP]using h
 cases h
def RW (want:Bool):AV->Option Bool
 |.p (.v (.bool true))=>some want
 |.p (.v (.bool false))=>some (!want)
 |.p (.v (.tuple _))=>some false
 |_=>none
theorem RX {want b:Bool}{a:AV}(h:RW want a=some b):∃v,yv a=some v/\(b=true↔v=some want):=by
 unfold RW at h;split at h
 .cases h;exact⟨_,rfl,by cases want<;>simp⟩
 .cases h;exact⟨_,rfl,by cases want<;>simp⟩
 .cases h;exact⟨_,rfl,by simp⟩
 cases h
inductive It:Type 1 where
 |code (c:Code)
 |blk (id:Nat)
 |lp (X:Type) (s:X->St) (J:X->Prop) (m:X->Nat) (n:Nat)
 |mid (M:St->Prop)
 |scp
section
variable (S:W8) (P:Program)
def kp:List It->I8->I8
 |[],F=>F
 |.code c::K,F=>thn S (awp S P c (kp K F)) (kp K F)
 |.blk id::K,F=>blk id (kp K F)
 |.lp _ s J m n::K,F=>lop S s J m n (kp K F)
 |.mid M::K,F=>thn S M (kp K F)
 |.scp::K,F=>scp (kp K F)
inductive Cfg:Type 1 where
 |code (c:Code) (K:List It) (st:St)
 |ops (all rest:List Oper) (K:List It) (st:St)
 |pop (e:Hf) (K:List It) (st:St)
def G (F:I8):Cfg->Prop
 |.code c K st=>awp S P c (kp S P K F) st
 |.ops all rest K st=>JA S P all rest (kp S P K F) st
 |.pop e K st=>kp S P K F e st
structure Res:Type 1 where
 conds:List Prop
 cfg:Cfg
def As6:Op->Bool
 |.lookup .. | .mapUpdate .. | .mapEntry .. | .entryStore .. | .panic _=>false
 |.call { callee:=.builtin _,.. }=>true
 |.call _=>false
 |_=>true
def isAt:Option Nat->Option Nat->Bool
 |some d,some e=>Nat.beq d e
 |_,_=>false
def Ah2 (P:Program)(u:Option Nat)(all:List Oper)(K:List It):List Oper->List Prop->Env->B5->(List Prop->St->Res)->Res
 |[],c,env,regs,κ=>κ c ⟨env,regs⟩
 |o::rest,c,env,regs,κ=>
  match isAt u o.dst with
  |true=>⟨c,.ops all (o::rest) K ⟨env,regs⟩⟩
  |false=>match (match o.guard with
   |none=>some true
   |some (j,want)=>RW want (get env (FV all j)):Option Bool)with
  |some true=>match As6 o.op with
   |true=>match aop P env regs (o.dst.getD 0) o.op with
    |none=>⟨c,.ops all (o::rest) K ⟨env,regs⟩⟩
    |some ⟨p,v,regs'⟩=>fA v fun v=>fR regs' fun regs'=>fC p c fun c=>
     match o.dst with
     |some d=>YY d v env fun env=>Ah2 P u all K rest c env regs' κ
     |none=>Ah2 P u all K rest c env regs' κ
   |false=>⟨c,.ops all (o::rest) K ⟨env,regs⟩⟩
  |some false=>match o.dst with
   |some d=>YY d By env fun env=>Ah2 P u all K rest c env regs κ
   |none=>Ah2 P u all K rest c env regs κ
  |none=>⟨c,.ops all (o::rest) K ⟨env,regs⟩⟩
def run (P:Program)(u:Option Nat):Nat->List Prop->Cfg->Res
 |0,c,g=>⟨c,g⟩
 |n+1,c,g=>
  match g with
  |.code x K st=>match x with
   |.skip=>run P u n c (.pop .normal K st)
   |.label _=>run P u n c (.pop .normal K st)
   |.region _ ops false=>Ah2 P u ops.toList K ops.toList c st.env st.regs fun c st=>run P u n c (.pop .normal K st)
   |.seq a b=>run P u n c (.code a (.code b::K) st)
   |.cond o t e=>match Ax2 (aev st.env o)with
    |some true=>run P u n c (.code t K st)
    |some false=>run P u n c (.code e K st)
    |none=>⟨c,.code (.cond o t e) K st⟩
   |.block id b=>run P u n c (.code b (.blk id::K) st)
   |.scope b=>run P u n c (.code b (.scp::K) st)
   |.exit id=>run P u n c (.pop (.exit id) K st)
   |.ret=>run P u n c (.pop .ret K st)
   |x=>⟨c,.code x K st⟩
  |.ops all rest K st=>Ah2 P u all K rest c st.env st.regs fun c st=>run P u n c (.pop .normal K st)
  |.pop e K st=>match e,K with
   |.normal,.code x::K=>run P u n c (.code x K st)
   |.normal,.blk _::K=>run P u n c (.pop .normal K st)
   |.normal,.scp::K=>run P u n c (.pop .normal K st)
   |.exit i,.blk id::K=>if i=id then run P u n c (.pop .normal K st)else run P u n c (.pop (.exit i) K st)
   |.exit i,.code _::K=>run P u n c (.pop (.exit i) K st)
   |.exit i,.lp _ _ _ _ _::K=>run P u n c (.pop (.exit i) K st)
   |.exit i,.mid _::K=>run P u n c (.pop (.exit i) K st)
   |.exit i,.scp::K=>run P u n c (.pop (.exit i) K st)
   |.ret,_::K=>run P u n c (.pop .ret K st)
   |.panic x,_::K=>run P u n c (.pop (.panic x) K st)
   |e,K=>⟨c,.pop e K st⟩
end
section
variable {S:W8}{P:Program}{F:I8}
theorem LA {o:Oper}{k:St->Prop}{Q:I8}{st:St}{p:List Prop}{v:AV}{regs' : B5}(ha:As6 o.op=true)
 (h:aop P st.env st.regs (o.dst.getD 0) o.op=some ⟨p,v,regs'⟩) (hp:D0 p) (hk:k (put { st with regs:=regs' } o.dst v)):wOp S P o k Q st:=by
 unfold wOp;split
 .rename_i f args types a;rw[a]at ha;simp[As6]at ha
 .rename_i r m args types a;rw[a]at ha;simp[As6]at ha
 .rename_i x a;rw[a]at ha;simp[As6]at ha
 exact .inl ⟨_,h,hp,hk⟩
theorem YZ {u:Option Nat}(hS:G8 S P)(all:List Oper)(K:List It)(κ : List Prop->St->Res)
 (hκ : ∀c st,D0 (κ c st).conds->D0 c/\(G S P F (κ c st).cfg->kp S P K F .normal st)) :
 ∀(rest:List Oper) (c:List Prop) (env:Env) (regs:B5),D0 (Ah2 P u all K rest c env regs κ).conds ->
  D0 c/\(G S P F (Ah2 P u all K rest c env regs κ).cfg->JA S P all rest (kp S P K F) ⟨env,regs⟩):=by
 intro rest
 induction rest with
 |nil=>intro c env regs h;exact hκ _ _ h
 |cons o rest ih=>
  intro c env regs h;simp only[Ah2]at h⊢;cases m:isAt u o.dst with
  |true=>simp only[m]at h⊢;exact⟨h,fun hw=>hw⟩
  |false=>
  simp only[m]at h⊢;have hg:∀(b:Bool),(match o.guard with
   |none=>some true
   |some (j,want)=>RW want (get env (FV all j)):Option Bool)=some b ->
    ((b=true->wOp S P o (JA S P all rest (kp S P K F)) (kp S P K F) ⟨env,regs⟩->JA S P all (o::rest) (kp S P K F) ⟨env,regs⟩) /\
     (b=false->JA S P all rest (kp S P K F) (put ⟨env,regs⟩ o.dst By)->JA S P all (o::rest) (kp S P K F) ⟨env,regs⟩)):=by
   intro b hb;cases a:o.guard with
   |none=>simp only[a]at hb;cases hb;exact⟨fun _ hw=>by simp only[JA];refine hS.refl _ _ ?_;simp only[a];exact hw,fun h=>by cases h⟩
   |some q=>
    obtain⟨j,want⟩:=q;simp only[a]at hb;obtain⟨v,n,l⟩:=RX hb;refine⟨fun ht hw=>?_,fun r hw=>?_⟩
    .simp only[JA];refine hS.refl _ _ ?_;simp only[a];exact⟨v,n,by rw[Ll (l.1 ht)];exact hw⟩
    simp only[JA];refine hS.refl _ _ ?_;simp only[a];exact⟨v,n,by rw[Lm (fun e=>by have:=l.2 e;rw[r]at this;cases this)];exact hw⟩
  split at h
  .rename_i hb;have hg:=(hg true (by simpa using hb)).1 rfl
   try simp only[hb]
   split at h
   .rename_i ha
    try simp only[ha]
    split at h
    .rename_i hn
     try simp only[hn]
     exact⟨h,fun hw=>hw⟩
    rename_i p v regs' hs;simp only[Xt,Ax1,AH7]at h⊢;cases f:o.dst with
    |some d=>simp only[f,HL]at h⊢;obtain⟨g,hk⟩:=ih _ _ _ h;obtain⟨hc,hp⟩:=(Cd _ _).1 g;refine⟨hc,fun i=>hg (LA ha hs hp ?_)⟩;rw[f];exact hk i
    |none=>simp only[f]at h⊢;obtain⟨g,hk⟩:=ih _ _ _ h;obtain⟨hc,hp⟩:=(Cd _ _).1 g;refine⟨hc,fun i=>hg (LA ha hs hp ?_)⟩;rw[f];exact hk i
   rename_i ha
   try simp only[ha]
   exact⟨h,fun hw=>hw⟩
  .rename_i hb;have hg:=(hg false (by simpa using hb)).2 rfl
   try simp only[hb]
   cases f:o.dst with
   |some d=>simp only[f,HL]at h⊢;obtain⟨hc,hk⟩:=ih _ _ _ h;exact⟨hc,fun i=>hg (by rw[f];exact hk i)⟩
   |none=>simp only[f]at h⊢;obtain⟨hc,hk⟩:=ih _ _ _ h;exact⟨hc,fun i=>hg (by rw[f];exact hk i)⟩
  rename_i hb
  try simp only[hb]
  exact⟨h,fun hw=>hw⟩
theorem Gd {u:Option Nat}(hS:G8 S P):∀(n:Nat) (c:List Prop) (g:Cfg),D0 (run P u n c g).conds->D0 c/\(G S P F (run P u n c g).cfg->G S P F g):=by
 intro n
 induction n with
 |zero=>intro c g h;exact⟨h,fun hw=>hw⟩
 |succ n ih=>
  intro c g h;simp only[run]at h⊢;cases g with
  |code x K st=>
   cases x with
   |skip=>exact ih _ _ h
   |label l=>exact ih _ _ h
   |region id ops draw=>
    cases draw with
    |false=>obtain⟨hc,hk⟩:=YZ (S:=S) (F:=F) hS ops.toList K _ (fun c st h=>ih c (.pop .normal K st) h) _ _ _ _ h;exact⟨hc,fun d=>by simp only[G,awp];exact hk d⟩
    |true=>exact⟨h,fun hw=>hw⟩
   |seq a b=>exact ih _ _ h
   |cond o t e=>
    simp only at h⊢;split at h
    .rename_i f;try simp only[f]
     obtain⟨hc,hk⟩:=ih _ _ h;exact⟨hc,fun d=>⟨true,OG f,hk d⟩⟩
    .rename_i f;try simp only[f]
     obtain⟨hc,hk⟩:=ih _ _ h;exact⟨hc,fun d=>⟨false,OG f,hk d⟩⟩
    exact⟨h,fun d=>d⟩
   |block id b=>exact ih _ _ h
   |scope b=>exact ih _ _ h
   |exit id=>exact ih _ _ h
   |ret=>exact ih _ _ h
   |loop b=>exact⟨h,fun hw=>hw⟩
   |goto l=>exact⟨h,fun hw=>hw⟩
   |rangeFunc g ps asg body=>exact⟨h,fun hw=>hw⟩
   |refuse w=>exact⟨h,fun hw=>hw⟩
  |ops all rest K st=>exact YZ (S:=S) (F:=F) hS all K _ (fun c st h=>ih c (.pop .normal K st) h) _ _ _ _ h
  |pop e K st=>
   cases e with
   |normal=>
    cases K with
    |nil=>exact⟨h,fun hw=>hw⟩
    |cons i K=>
     cases i with
     |code x=>obtain⟨hc,hk⟩:=ih _ _ h;exact⟨hc,fun d=>hS.refl _ _ (hk d)⟩
     |blk id=>exact ih _ _ h
     |lp X s J m k=>exact⟨h,fun hw=>hw⟩
     |mid M=>exact⟨h,fun hw=>hw⟩
     |scp=>exact ih _ _ h
   |exit j=>
    cases K with
    |nil=>exact⟨h,fun hw=>hw⟩
    |cons i K=>
     cases i with
     |code x=>exact ih _ _ h
     |blk id=>
      simp only at h⊢;by_cases hj:j=id
      .simp only[hj,Lo]at h⊢;obtain⟨hc,hk⟩:=ih _ _ h;exact⟨hc,fun d=>by simp only[G,kp,blk,Lo];exact hk d⟩
      simp only[hj,Lp]at h⊢;obtain⟨hc,hk⟩:=ih _ _ h;exact⟨hc,fun d=>by simp only[G,kp,blk,hj,Lp];exact hk d⟩
     |lp X s J m k=>exact ih _ _ h
     |mid M=>exact ih _ _ h
     |scp=>exact ih _ _ h
   |ret=>
    cases K with
    |nil=>exact⟨h,fun hw=>hw⟩
    |cons i K=>cases i<;>exact ih _ _ h
   |panic x=>
    cases K with
    |nil=>exact⟨h,fun hw=>hw⟩
    |cons i K=>cases i<;>exact ih _ _ h
   |goto l=>cases K<;>exact⟨h,fun hw=>hw⟩
theorem go (hS:G8 S P){g g' : Cfg}{c:List Prop}(h:run P none 400 [] g=⟨c,g'⟩)(hc:D0 c)(hk:G S P F g'):G S P F g:=by
 have:=Gd (F:=F) hS 400 [] g (by rw[h];exact hc)
 rw[h]at this;exact this.2 hk
end
end Go.AM
namespace Go.AM
def FunO (S:W8)(f:FuncId)(args:List AV)(objs:List Obj)(r:AV)(objs' : List Obj)(ks:List Bool):Prop:= S.F f args objs fun res o k=>res=.ret r/\o=objs' /\ k=ks
def Ah3 (S:W8)(f:FuncId)(args:List AV)(r:AV):Prop:=FunO S f args [] r [] []
theorem FunO.le {S:W8}{P:Program}(hS:G8 S P){f:FuncId}{args args' : List AV}{objs:List Obj}{r:AV}{objs' : List Obj}{ks:List Bool}(h:RV args args')(a:FunO S f args' objs r objs' ks):FunO S f args objs r objs' ks:=hS.argLe _ _ _ _ _ h a
theorem Za {nn:Bool}{k n m:Nat}{f g:Nat->List PV}(hn:n=m)(h:∀i,i<n->f i=g i):AV.p (.sl nn k n f)=.p (.sl false k m g) \/ ∃x y,AV.p (.sl nn k n f)=.p x/\AV.p (.sl false k m g)=.p y/\leQ x y:=by subst hn;exact .inr ⟨_,_,rfl,rfl,.p (.inr (.inl ⟨_,_,_,_,_,rfl,rfl,h⟩))⟩
theorem leC0:leC [] []:=⟨rfl,fun _=>.p (.inl rfl)⟩
theorem leCq {x y:PV}{xs ys:List PV}(h:leQ x y)(hs:leC xs ys):leC (x::xs) (y::ys):=
 ⟨by rw[AT5,AT5,hs.1],fun j=>by cases j with
  |zero=>exact h
  |succ j=>exact hs.2 j⟩
theorem leCc {x y:PV}{xs ys:List PV}(h:leP x y)(hs:leC xs ys):leC (x::xs) (y::ys):=leCq (.p h) hs
theorem lePN {k:Nat}{g:Nat->List PV}:leP (.v (.slice none 0 0)) (.sl false k 0 g):=.inr (.inr (.inl ⟨_,_,rfl,rfl⟩))
theorem lePS {nn:Bool}{k n m:Nat}{f g:Nat->List PV}(hn:n=m)(h:∀i,i<n->f i=g i):leP (.sl nn k n f) (.sl false k m g):=by subst hn;exact .inr (.inl ⟨_,_,_,_,_,rfl,rfl,h⟩)
theorem leC1 {nn:Bool}{k n m:Nat}{f g:Nat->List PV}(hn:n=m)(h:∀i,i<n->f i=g i):leC [.sl nn k n f] [.sl false k m g]:=leCc (lePS hn h) leC0
def Bs (all:List Oper)(env:Env)(o:Oper):Option Bool:=
 match o.guard with
 |none=>some true
 |some (j,want)=>RW want (get env (FV all j))
section
variable {S:W8}{P:Program}{F:I8}{K:List It}{st:St}
theorem Bz (hS:G8 S P){all rest:List Oper}{o:Oper}{Q:I8}(hg:Bs all st.env o=some true)
 (h:wOp S P o (JA S P all rest Q) Q st):JA S P all (o::rest) Q st:=by
 unfold Bs at hg;simp only[JA];refine hS.refl _ _ ?_;cases a:o.guard with
 |none=>exact h
 |some q=>obtain⟨j,want⟩:=q;simp only[a]at hg;obtain⟨v,c,b⟩:=RX hg;exact⟨v,c,by rw[Ll (b.1 rfl)];exact h⟩
theorem AH8 {c:Operand}{t e:Code}{b:Bool}(hc:aev st.env c=.p (.bb b))
 (ht:b=true->G S P F (.code t K st)) (a:b=false->G S P F (.code e K st)):G S P F (.code (.cond c t e) K st):=by
 refine⟨b,by rw[hc];rfl,?_⟩;cases b
 .exact a rfl
 exact ht rfl
theorem RY (hS:G8 S P){all rest:List Oper}{o:Oper}(hle:S.up st fun st1=>G S P F (.ops all (o::rest) K st1)):G S P F (.ops all (o::rest) K st):=
 hS.trans _ _ hle
def AH9 (all:List Oper)(j:Nat):Option Nat:=match all[j]? with
 |some o=>o.dst
 |none=>none
theorem Ax3 (hS:G8 S P){all rest:List Oper}{o:Oper}{j d:Nat}{want b:Bool}(_hg:o.guard=some (j,want))(c:AH9 all j=some d)(hb:get st.env d=.p (.bb b))
 (ht:b=true->G S P F (.ops all (o::rest) K ⟨ins d (.p (.v (.bool true))) st.env,st.regs⟩))
 (a:b=false->G S P F (.ops all (o::rest) K ⟨ins d (.p (.v (.bool false))) st.env,st.regs⟩)):G S P F (.ops all (o::rest) K st):=by
 refine RY hS (hS.bool st _ b _ hb ?_);cases b
 .exact a rfl
 exact ht rfl
theorem AI0 (hS:G8 S P){all rest:List Oper}{o:Oper}(t:Nat){k n:Nat}{f:Nat->List PV}(hb:get st.env t=.p (.sl false k n f))
 (ht:n=0->G S P F (.ops all (o::rest) K ⟨ins t (.p (.v (.slice none 0 0))) st.env,st.regs⟩))
 (a:G S P F (.ops all (o::rest) K ⟨ins t (.p (.sl true k n f)) st.env,st.regs⟩)):G S P F (.ops all (o::rest) K st):=
 RY hS (hS.nil st t k n f _ hb ht a)
theorem As7 (hS:G8 S P){all rest:List Oper}{o:Oper}{out:Out}(hg:Bs all st.env o=some true)(ha:aop P st.env st.regs (o.dst.getD 0) o.op=some out)
 (hn:∀c,o.op=.call c->∃b,c.callee=.builtin b) (hp:∀x,o.op ≠ .panic x) (hc:D0 out.cond)
 (hk:G S P F (.ops all rest K (put { st with regs:=out.regs } o.dst out.val))):G S P F (.ops all (o::rest) K st):=by
 refine Bz hS hg ?_;unfold wOp;split
 .rename_i f args types a;obtain⟨b,hb⟩:=hn _ a;simp at hb
 .rename_i r m args types a;obtain⟨b,hb⟩:=hn _ a;simp at hb
 .rename_i x a;exact Ln a (hp x)
 exact .inl ⟨_,ha,hc,hk⟩
theorem Ax4 (hS:G8 S P){all rest:List Oper}{o:Oper}{c:Call}{f:Operand}{as:List AV}{regs:B5}{fn:FuncId}{as' args:List AV}{objs objs' : List Obj}{ks:List Bool}{r:AV}(ids:List Nat)
 (hg:Bs all st.env o=some true) (d:o.op=.call c) (b:c.callee=.value f) (ha:Hg st.regs (c.args.toList.map (aev st.env))=some (as,regs))
 (hw:NG st.env f as=some (fn,as')) (g:CS ids as' = some args) (a:J6 ids regs ids=some objs) (i:FunO S fn args objs r objs' ks)
 (j:G0 ids=true) (hy:DS objs=true) (hn:Y1 regs ids ks (o.dst.getD 0) objs'.length=true)
 (hk:G S P F (.ops all rest K (put { env:=st.env,regs:=back (G4 (o.dst.getD 0) ids ks objs'.length) (G4 (o.dst.getD 0) ids ks objs'.length) objs' (M0 ids ks regs) } o.dst (unA (G4 (o.dst.getD 0) ids ks objs'.length) r)))) :
 G S P F (.ops all (o::rest) K st):=by
 refine Bz hS hg ?_;unfold wOp;obtain⟨callee,cargs,types⟩:=c;simp only at b ha;subst b;rw[d];refine .inl ⟨as,regs,_,_,.inl ha,hw,ids,args,objs,j,g,a,hy,hS.monoF _ _ _ _ _ ?_ i⟩;rintro _ _ _ ⟨rfl,rfl,rfl⟩;exact⟨hn,hk⟩
theorem Ax5 (hS:G8 S P){all rest:List Oper}{o:Oper}{c:Call}{f:Operand}{fn:FuncId}{as' args:List AV}{objs objs' : List Obj}{ks:List Bool}{r:AV}(ids:List Nat)
 (hg:Bs all st.env o=some true) (d:o.op=.call c) (b:c.callee=.value f)
 (hw:NG st.env f (c.args.toList.map (aev st.env))=some (fn,as')) (g:CS ids as' = some args) (a:J6 ids st.regs ids=some objs) (i:FunO S fn args objs r objs' ks)
 (j:G0 ids=true) (hy:DS objs=true) (hn:Y1 st.regs ids ks (o.dst.getD 0) objs'.length=true)
 (hk:G S P F (.ops all rest K (put { env:=st.env,regs:=back (G4 (o.dst.getD 0) ids ks objs'.length) (G4 (o.dst.getD 0) ids ks objs'.length) objs' (M0 ids ks st.regs) } o.dst (unA (G4 (o.dst.getD 0) ids ks objs'.length) r)))) :
 G S P F (.ops all (o::rest) K st):=by
 refine Bz hS hg ?_;unfold wOp;obtain⟨callee,cargs,types⟩:=c;simp only at b hw;subst b;rw[d];refine .inl ⟨_,st.regs,_,_,.inr ⟨rfl,rfl⟩,hw,ids,args,objs,j,g,a,hy,hS.monoF _ _ _ _ _ ?_ i⟩;rintro _ _ _ ⟨rfl,rfl,rfl⟩;exact⟨hn,hk⟩
theorem As8 (hS:G8 S P){b:Code}{X:Type}(s:X->St)(J:X->Prop)(m:X->Nat)(x0:X)(ids:List (Nat×Nat))(hle:Le ids st (s x0))(a:J x0)
 (c:∀x,J x->G S P F (.code b (.lp X s J m (m x)::K) (s x))):G S P F (.code (.loop b) K st):=
 ⟨X,s,J,m,hS.le ids _ _ _ hle ⟨x0,rfl,a⟩,c⟩
theorem Zb (hS:G8 S P){X:Type}{s:X->St}{J:X->Prop}{m:X->Nat}{n:Nat}(x:X)(ids:List (Nat×Nat))(hle:Le ids st (s x))(a:J x)(hm:m x<n) :G S P F (.pop .normal (.lp X s J m n::K) st):=hS.le ids _ _ _ hle ⟨x,rfl,a,hm⟩
theorem le_p {regs:B5}{ids:List (Nat×Nat)}{a:AV}{y:PV}(h:viewP regs a=some y):leA regs ids a (.p y):=by unfold leA;exact⟨y,h,.inl rfl⟩
theorem AI1 {regs:B5}{ids:List (Nat×Nat)}{i j:Nat}(h:lk ids j=some i):leA regs ids (.vec i) (.vec j):=by unfold leA;exact .inl ⟨i,h,rfl⟩
theorem Ax6 {regs:B5}{ids:List (Nat×Nat)}{j:Nat}(h:lk ids j=none):leA regs ids (.p (.v (.slice none 0 0))) (.vec j):=by unfold leA;exact .inr ⟨h,rfl⟩
theorem AI2 {regs:B5}{ids:List (Nat×Nat)}{i j off:Nat}(h:lk ids j=some i):leA regs ids (.reg i off) (.reg j off):=by unfold leA;exact⟨i,h,rfl⟩
theorem Zc {regs:B5}{ids:List (Nat×Nat)}{i j:Nat}(h:lk ids j=some i):leA regs ids (.mref i) (.mref j):=by unfold leA;exact⟨i,h,rfl⟩
theorem AI3 {regs:B5}{ids:List (Nat×Nat)}{f:FuncId}{a b c d:List AV}(h:leL regs ids a c)(h' : leL regs ids b d):leA regs ids (.clo f a b) (.clo f c d):=by unfold leA;exact⟨a,b,rfl,h,h'⟩
theorem Ax7 {regs:B5}{ids:List (Nat×Nat)}:leL regs ids [] []:=by unfold leL;rfl
theorem Ah4 {regs:B5}{ids:List (Nat×Nat)}{a b:AV}{l m:List AV}(h:leA regs ids a b)(h' : leL regs ids l m):leL regs ids (a::l) (b::m):=by unfold leL;exact⟨a,l,rfl,h,h'⟩
theorem As9 {regs:B5}{ids:List (Nat×Nat)}{env:Env}{t:Nat}{b:AV}{r:Env}{a:AV}(hg:get env t=a)(h:leA regs ids a b)(h' : LR regs ids env r):LR regs ids env ((t,b)::r):=by subst hg;exact⟨h,h'⟩
theorem Ah5 {regs:B5}{ids:List (Nat×Nat)}{l m:List AV}(h:leL regs ids l m):leO regs ids (.cells l) (.cells m):=⟨l,rfl,h⟩
theorem le_mk {s t:St}{ids:List (Nat×Nat)}(h1:(wf t&&G0 (ids.map (·.2))&&Xr ids&&OF ids t.regs&&KC ids (Ah0 s.env t.env++Iv ids s.regs t.regs) t.regs)=true)
 (a:LR s.regs ids s.env t.env) (b:RU s.regs ids t.regs):Le ids s t:=by
 simp only[AQ7]at h1;exact⟨⟨h1.1.1.1.1,h1.1.1.1.2,h1.1.1.2,h1.1.2,h1.2⟩,a,b⟩
section
variable {n:Nat}{rs:List ResultVar}{Q:Lz->List Obj->List Bool->Prop}{l:List AV}{a:AV}
end
theorem Zd (hS:G8 S P){f:FuncId}{fn:Func}{code:Code}{args:List AV}{objs objs' : List Obj}{ks:List Bool}{r:AV}{rs:List ResultVar}(d:P.funcs[f]? = some fn)(hc:fn.body=some code)(hn:args.length<=fn.ntmps)(g:objs.length<1000)
 (a:fn.results.toList=rs) (b:AT fn.ntmps code=true) (c:(fn.name == "runtime.NumGoroutine")=false)
 (h:G S P (Cz S P objs.length rs fun res o k=>res=.ret r/\o=objs' /\ k=ks) (.code code [] { env:=argEnv args,regs:=objRegs objs })):FunO S f args objs r objs' ks:=by
 subst a;exact hS.func f fn code args objs _ d hc c b hn g (hS.refl _ _ h)
end
end Go.AM
namespace Go.AM
def Ext (w w' : World):Prop:=w'.os=w.os/\w'.output=w.output
theorem Ext.refl (w:World):Ext w w:=⟨rfl,rfl⟩
theorem Ext.trans {w w' w'' : World}(h:Ext w w')(h' : Ext w' w''):Ext w w'':=⟨h'.1.trans h.1,h'.2.trans h.2⟩
inductive RepP (w:World) (Pi:Nat->Nat->Prop):Value->PV->Prop
 |v (x:Value):RepP w Pi x (.v x)
 |bb (b:Bool):RepP w Pi (.bool b) (.bb b)
 |str (l:List UInt8):RepP w Pi (.string ⟨l.toArray⟩) (.str l)
 |agg (vs:Array Value) (cs:List PV) (hs:vs.size=cs.length) (h1:∀i,i<cs.length->(vs.getD i undef).oneCell' = true)
  (h:∀i,i<cs.length->RepP w Pi (vs.getD i undef) (cs.getD i default)):RepP w Pi (.agg vs) (.agg cs)
 |slnil (k:Nat) (f:Nat->List PV):RepP w Pi (.slice none 0 0) (.sl false k 0 f)
 |sl (nn:Bool) (b off cap k n:Nat) (f:Nat->List PV) (c:Nat->Nat->Value) (hn:n<=cap) (hk:∀i,i<n->(f i).length=k)
  (hc:∀i j,i<n->j<k->w.cell? ⟨b,off+i*k+j,none⟩=some (c i j)/\¬Pi b (off+i*k+j)/\(c i j).oneCell' = true)
  (h:∀i j,i<n->j<k->RepP w Pi (c i j) ((f i).getD j default)) (sp:Option Nat) (hsp:0<n->sp=none):RepP w Pi (.slice (some ⟨b,off,sp⟩) n cap) (.sl nn k n f)
 |ptr (b off:Nat) (cs:List PV) (c:Nat->Value) (hc:∀j,j<cs.length->w.cell? ⟨b,off+j,none⟩=some (c j)/\¬Pi b (off+j)/\(c j).oneCell' = true)
  (h:∀j,j<cs.length->RepP w Pi (c j) (cs.getD j default)):RepP w Pi (.pointer (some ⟨b,off,none⟩)) (.ptr cs)
 |iface (t:TypeId) (x:Value) (a:PV) (h:RepP w Pi x a):RepP w Pi (.iface t x) (.iface t a)
 |fn (f:FuncId) (x y:Array Value) (a b:List PV) (hx:x.size=a.length) (hy:y.size=b.length)
  (ha:∀i,i<a.length->RepP w Pi (x.getD i undef) (a.getD i default)) (hb:∀i,i<b.length->RepP w Pi (y.getD i undef) (b.getD i default)) :
  RepP w Pi (.func (.func f) x y) (.fn f a b)
def Keeps (w:World)(Pi:Nat->Nat->Prop)(w' : World)(Pi' : Nat->Nat->Prop):Prop:= ∀b o v,¬Pi b o->w.cell? ⟨b,o,none⟩=some v->w'.cell? ⟨b,o,none⟩=some v/\¬Pi' b o
theorem Keeps.refl (w:World)(Pi:Nat->Nat->Prop):Keeps w Pi w Pi:=fun _ _ _ h h'=>⟨h',h⟩
theorem Keeps.trans {w w' w'' : World}{p p' p'' : Nat->Nat->Prop}(h:Keeps w p w' p')(h' : Keeps w' p' w'' p''):Keeps w p w'' p'':=
 fun b o v hp hc=>let ⟨a,c⟩:=h b o v hp hc;h' b o v c a
theorem RepP.keeps {w w' : World}{Pi Pi' : Nat->Nat->Prop}(hk:Keeps w Pi w' Pi'){v:Value}{x:PV}(h:RepP w Pi v x):RepP w' Pi' v x:=by
 induction h with
 |v x=>exact .v x
 |bb b=>exact .bb b
 |str l=>exact .str l
 |agg vs cs hs h1 h ih=>exact .agg vs cs hs h1 ih
 |slnil k f=>exact .slnil k f
 |sl nn b off cap k n f c hn hk' hc h sp hsp ih=>refine .sl nn b off cap k n f c hn hk' (fun i j q hj=>?_) ih sp hsp;obtain⟨h1,d,g⟩:=hc i j q hj;obtain⟨m,o⟩:=hk _ _ _ d h1;exact⟨m,o,g⟩
 |ptr b off cs c hc h ih=>refine .ptr b off cs c (fun j hj=>?_) ih;obtain⟨h1,d,g⟩:=hc j hj;obtain⟨m,o⟩:=hk _ _ _ d h1;exact⟨m,o,g⟩
 |iface t x a h ih=>exact .iface t x a ih
 |fn f x y a b hx hy ha hb iha ihb=>exact .fn f x y a b hx hy iha ihb
theorem RepP.nP {w:World}{Pi:Nat->Nat->Prop}{v:Value}{x:PV}(h:RepP w Pi v x):RepP w Pi v (nP x):=by
 cases x with
 |v y=>cases h;cases v<;>first|exact .v _|exact .bb _
 |_=>exact h
theorem RepP.leP {w:World}{Pi:Nat->Nat->Prop}{v:Value}{x y:PV}(hl:leP x y)(h:RepP w Pi v x):RepP w Pi v y:=by
 rcases hl with rfl|⟨nn,k,n,f,g,rfl,rfl,d⟩ | ⟨k,f,rfl,rfl⟩ | ⟨b,rfl,rfl⟩ | ⟨b,rfl,rfl⟩
 .exact h
 .cases h with
  |slnil=>exact .slnil _ _
  |sl _ b off cap _ _ _ c hn hk hc h sp hsp=>exact .sl false b off cap k n g c hn (fun i a=>by rw[<- d i a];exact hk i a) hc (fun i j a hj=>by rw[<- d i a];exact h i j a hj) sp hsp
 .cases h;exact .slnil _ _
 .cases h;exact .bb _
 cases h;exact .v _
theorem RepP.leQ {w:World}{Pi:Nat->Nat->Prop}{v:Value}{x y:PV}(hl:Go.AM.leQ x y)(h:RepP w Pi v x):RepP w Pi v y:=by
 induction hl generalizing v with
 |p hl=>exact h.leP hl
 | @sl nn k n f g hl hq ih=>
  cases h with
  |slnil=>exact .slnil _ _
  |sl _ b off cap _ _ _ c hn hk hc h sp hsp=>exact .sl false b off cap k n g c hn (fun i a=>by rw[<- hl i a];exact hk i a) hc (fun i j a hj=>ih i j a (h i j a hj)) sp hsp
 | @agg xs ys hl hq ih=>
  cases h with
  |agg vs _ hs h1 h=>exact .agg vs ys (hs.trans hl) (fun i a=>h1 i (by rw[hl];exact a)) (fun i a=>ih i (h i (by rw[hl];exact a)))
theorem RepP.cell {w:World}{Pi:Nat->Nat->Prop}{v:Value}{x:PV}(h:RepP w Pi v x)(hx:He x=true):v.oneCell' = true:=by
 cases h with
 |v=>cases v<;>simp_all [He,Value.oneCell']
 |agg=>simp[He]at hx
 |_=>rfl
inductive RepA (w:World) (Pi:Nat->Nat->Prop) (live:Nat->Prop) (rho:Nat->Value):Value->AV->Prop
 |p (v:Value) (x:PV) (h:RepP w Pi v x):RepA w Pi live rho v (.p x)
 |reg (j off b:Nat) (hl:live j) (h:rho j=.pointer (some ⟨b,0,none⟩)):RepA w Pi live rho (.pointer (some ⟨b,off,none⟩)) (.reg j off)
 |vec (j:Nat) (base:Option Addr) (n cap:Nat) (hl:live j) (h:rho j=.slice base n cap):RepA w Pi live rho (.slice base n cap) (.vec j)
 |vecp (j m:Nat) (base:Option Addr) (n cap:Nat) (hl:live j) (h:rho j=.slice base n cap) (hm:m<=n):RepA w Pi live rho (.slice base m cap) (.vecp j m)
 |elt (j k i off b n cap:Nat) (hl:live j) (h:rho j=.slice (some ⟨b,0,none⟩) n cap):RepA w Pi live rho (.pointer (some ⟨b,i*k+off,none⟩)) (.elt j k i off)
 |mref (j r:Nat) (hl:live j) (h:rho j=.map (some r)):RepA w Pi live rho (.map (some r)) (.mref j)
 |clo (f:FuncId) (x y:Array Value) (a b:List AV) (hx:x.size=a.length) (hy:y.size=b.length)
  (ha:∀i,i<a.length->RepA w Pi live rho (x.getD i undef) (a.getD i .top)) (hb:∀i,i<b.length->RepA w Pi live rho (y.getD i undef) (b.getD i .top)) :
  RepA w Pi live rho (.func (.func f) x y) (.clo f a b)
 |tup (x:Array Value) (a:List AV) (hx:x.size=a.length) (ha:∀i,i<a.length->RepA w Pi live rho (x.getD i undef) (a.getD i .top)):RepA w Pi live rho (.tuple x) (.tup a)
 |agr (x:Array Value) (a:List AV) (hx:x.size=a.length) (h1:∀i,i<a.length->(x.getD i undef).oneCell' = true)
  (ha:∀i,i<a.length->RepA w Pi live rho (x.getD i undef) (a.getD i .top)):RepA w Pi live rho (.agg x) (.agr a)
 |yf (j l:Nat) (hl:live j) (h:rho j=.func (.yield l) #[] #[]):RepA w Pi live rho (.func (.yield l) #[] #[]) (.yf j)
 |rsl (j n b:Nat) (hl:live j) (h:rho j=.pointer (some ⟨b,0,none⟩)):RepA w Pi live rho (.slice (some ⟨b,0,none⟩) n n) (.rsl j n)
 |top (v:Value):RepA w Pi live rho v .top
theorem RepA.keeps {w w' : World}{Pi Pi' : Nat->Nat->Prop}{live live' : Nat->Prop}{rho rho' : Nat->Value}(hk:Keeps w Pi w' Pi')
 (hl:∀j,live j->live' j/\rho' j=rho j) {v:Value}{a:AV}(h:RepA w Pi live rho v a):RepA w' Pi' live' rho' v a:=by
 induction h with
 |p v x h=>exact .p v x (h.keeps hk)
 |reg j off b hj h=>obtain⟨a,c⟩:=hl j hj;exact .reg j off b a (c.trans h)
 |vec j base n cap hj h=>obtain⟨a,c⟩:=hl j hj;exact .vec j base n cap a (c.trans h)
 |vecp j m base n cap hj h hm=>obtain⟨a,c⟩:=hl j hj;exact .vecp j m base n cap a (c.trans h) hm
 |elt j k i off b n cap hj h=>obtain⟨a,c⟩:=hl j hj;exact .elt j k i off b n cap a (c.trans h)
 |mref j r hj h=>obtain⟨a,c⟩:=hl j hj;exact .mref j r a (c.trans h)
 |clo f x y a b hx hy ha hb iha ihb=>exact .clo f x y a b hx hy iha ihb
 |tup x a hx ha ih=>exact .tup x a hx ih
 |agr x a hx h1 ha ih=>exact .agr x a hx h1 ih
 |yf j l hj h=>obtain⟨a,c⟩:=hl j hj;exact .yf j l a (c.trans h)
 |rsl j n b hj h=>obtain⟨a,c⟩:=hl j hj;exact .rsl j n b a (c.trans h)
 |top v=>exact .top v
def K9 (h:Value):Obj->Option Nat
 |.cells _=>match h with | .pointer (some a)=>some a.block|_=>none
 |.vec _ _ _ _ _=>match h with | .slice (some a) _ _=>some a.block|_=>none
 |.map _=>match h with | .map r=>r|_=>none
 |.arr _ _=>match h with | .pointer (some a)=>some a.block|_=>none
 |.fam _ _ _ _=>match h with | .slice (some a) _ _=>some a.block|_=>none
 |.ghost _ | .yld _ _ | .dead | .rows _ _=>none
def D6 (h:Value)(o:Obj)(b:Nat):Prop:=
 match o with
 |.rows n g=>∃rv,h=.agg rv/\∃i,i<n/\K9 (rv.getD i undef) (g i)=some b
 |o=>K9 h o=some b
def Hr (o:Obj)(off:Nat):Prop:=
 match o with
 |.vec _ k n _ true=>n*k<=off
 |_=>True
section
variable (w:World) (Pi:Nat->Nat->Prop) (live:Nat->Prop) (rho:Nat->Value)
def HoldsC (h:Value):Obj->Prop
 |.cells cs=>∃b c T,h=.pointer (some ⟨b,0,none⟩)/\w.heap[b]? = some (.cells c T (0,0))/\c.size=cs.length /\
  ∀i,i<cs.length->RepA w Pi live rho (c.getD i undef) (cs.getD i .top)/\(c.getD i undef).oneCell' = true
 |.vec e k n f _=>(h=.slice none 0 0/\n=0) \/ ∃b cap c,h=.slice (some ⟨b,0,none⟩) n cap/\w.heap[b]? = some (.cells c e (0,0))/\n<=cap/\c.size=cap*k/\cap<=maxLen /\
  (∀i,i<n->(f i).length=k)/\∀i j,i<n->j<k->RepP w Pi (c.getD (i*k+j) undef) ((f i).getD j default)/\(c.getD (i*k+j) undef).oneCell' = true
 |.map es=>∃b ents clock,h=.map (some b)/\w.heap[b]? = some (.map ents clock)/\ents.size=es.length /\
  (∀i,i<es.length->RepP w Pi (ents.getD i default).key (es.getD i default).1/\RepP w Pi (ents.getD i default).val (es.getD i default).2)/\clock=ents.size/\∀i,i<ents.size->(ents.getD i default).born=i
 |.arr n f=>∃b c T,h=.pointer (some ⟨b,0,none⟩)/\w.heap[b]? = some (.cells c T (0,0))/\c.size=n /\
  ∀i,i<n->RepP w Pi (c.getD i undef) (f i)/\(c.getD i undef).oneCell' = true
 |.yld _ _=>∃l,h=.func (.yield l) #[] #[]
 |.ghost cs=>∃vs,h=.tuple vs/\vs.size=cs.length/\∀i,i<cs.length->RepA w Pi live rho (vs.getD i undef) (cs.getD i .top)
 |.dead=>True
 |.rows _ _=>False
 |.fam e n jr x=>∃rv,live jr/\rho jr=.agg rv/\((h=.slice none 0 0/\n=0) \/ ∃b cap c,h=.slice (some ⟨b,0,none⟩) n cap/\w.heap[b]? = some (.cells c e (0,0))/\n<=cap/\c.size=cap/\cap<=maxLen /\
  (∀i,i<n->(c.getD i undef).oneCell' = true/\(x.map (·.1)≠some i->c.getD i undef=rv.getD i undef)) /\
  match x with
  |none=>True
  |some (i,a)=>RepA w Pi live rho (c.getD i undef) a)
def rowV (v:Value):Obj->Prop
 |.vec e k n f false=>HoldsC w Pi live rho v (.vec e k n f false)
 |.map es=>HoldsC w Pi live rho v (.map es)
 |.ghost [.p x]=>RepP w Pi v x
 |.dead=>True
 |_=>False
def HoldsO (h:Value)(o:Obj):Prop:=
 match o with
 |.rows n g=>∃rv,h=.agg rv/\(∀i,i<n->rowV w Pi live rho (rv.getD i undef) (g i)) /\
  ∀i l b,i<n->l<n->K9 (rv.getD i undef) (g i)=some b->K9 (rv.getD l undef) (g l)=some b->i=l
 |o=>HoldsC w Pi live rho h o
end
theorem HoldsC.keeps {w w' : World}{Pi Pi' : Nat->Nat->Prop}{live live' : Nat->Prop}{rho rho' : Nat->Value}(hk:Keeps w Pi w' Pi')
 (hl:∀j,live j->live' j/\rho' j=rho j) {h:Value}{o:Obj}(hb:∀b,K9 h o=some b->w'.heap[b]? = w.heap[b]?) (l:HoldsC w Pi live rho h o):HoldsC w' Pi' live' rho' h o:=by
 cases o with
 |cells cs=>obtain⟨b,c,T,rfl,h1,g,d⟩:=l;exact⟨b,c,T,rfl,(hb b rfl).trans h1,g,fun i a=>⟨(d i a).1.keeps hk hl,(d i a).2⟩⟩
 |vec e k n f vw=>
  rcases l with hn|⟨b,cap,c,rfl,h1,g,d,s,t,m⟩
  .exact .inl hn
  exact .inr ⟨b,cap,c,rfl,(hb b rfl).trans h1,g,d,s,t,fun i j a hj=>⟨(m i j a hj).1.keeps hk,(m i j a hj).2⟩⟩
 |map es=>obtain⟨b,ents,clock,rfl,h1,g,d,v⟩:=l;exact⟨b,ents,clock,rfl,(hb b rfl).trans h1,g,fun i a=>⟨(d i a).1.keeps hk,(d i a).2.keeps hk⟩,v⟩
 |arr n f=>obtain⟨b,c,T,rfl,h1,g,d⟩:=l;exact⟨b,c,T,rfl,(hb b rfl).trans h1,g,fun i a=>⟨(d i a).1.keeps hk,(d i a).2⟩⟩
 |ghost cs=>obtain⟨vs,rfl,h1,g⟩:=l;exact⟨vs,rfl,h1,fun i a=>(g i a).keeps hk hl⟩
 |yld r b=>exact l
 |dead=>trivial
 |fam e n jr x=>
  obtain⟨rv,g1,g2,u⟩:=l;refine⟨rv,(hl jr g1).1,(hl jr g1).2.trans g2,?_⟩;rcases u with u|⟨b,cap,c,rfl,h1,g,d,s,t,m⟩
  .exact .inl u
  refine .inr ⟨b,cap,c,rfl,(hb b rfl).trans h1,g,d,s,t,?_⟩;cases x with
  |none=>trivial
  |some q=>exact m.keeps hk hl
 |rows=>exact l.elim
theorem HoldsC.vec {w w' : World}{Pi Pi' : Nat->Nat->Prop}{live:Nat->Prop}{rho:Nat->Value}{v:Value}{e:TypeId}{k n:Nat}{f:Nat->List PV}{vw:Bool}(h:HoldsC w Pi live rho v (.vec e k n f vw))(hk:Keeps w Pi w' Pi')(hb:∀b,K9 v (.vec e k n f vw)=some b->w'.heap[b]? = w.heap[b]?):HoldsC w' Pi' (fun _=>False) (fun _=>undef) v (.vec e k n f vw):=by
 rcases h with hn|⟨b,cap,c,rfl,h1,g,l,m,o,a⟩
 .exact .inl hn
 exact .inr ⟨b,cap,c,rfl,(hb b rfl).trans h1,g,l,m,o,fun i j d hj=>⟨(a i j d hj).1.keeps hk,(a i j d hj).2⟩⟩
theorem rowV.keeps' {w w' : World}{Pi Pi' : Nat->Nat->Prop}{live live' : Nat->Prop}{rho rho' : Nat->Value}(hk:Keeps w Pi w' Pi')
 {v:Value}{o:Obj}(a:rowV w Pi live rho v o) (hb:∀b,K9 v o=some b->w'.heap[b]? = w.heap[b]?):rowV w' Pi' live' rho' v o:=by
 unfold rowV at a⊢;split at a
 .obtain h|⟨b,cap,c,rfl,h1,g,f,h4,h5,h6⟩:=a
  .exact .inl h
  exact .inr ⟨b,cap,c,rfl,(hb b rfl).trans h1,g,f,h4,h5,fun i j d hj=>⟨(h6 i j d hj).1.keeps hk,(h6 i j d hj).2⟩⟩
 .obtain⟨b,ents,clock,rfl,h1,g,f,l⟩:=a;exact⟨b,ents,clock,rfl,(hb b rfl).trans h1,g,fun i d=>⟨(f i d).1.keeps hk,(f i d).2.keeps hk⟩,l⟩
 .exact a.keeps hk
 .trivial
 exact a.elim
theorem ED {w w' : World}{Pi Pi' : Nat->Nat->Prop}{live live' : Nat->Prop}{rho rho' : Nat->Value}(hk:Keeps w Pi w' Pi'){h:Value}{n:Nat}{g:Nat->Obj}
 (hb:∀b,D6 h (.rows n g) b->w'.heap[b]? = w.heap[b]?) (c:HoldsO w Pi live rho h (.rows n g)):HoldsO w' Pi' live' rho' h (.rows n g):=by
 obtain⟨rv,rfl,h1,d⟩:=c;exact⟨rv,rfl,fun i a=>(h1 i a).keeps' hk fun b f=>hb b ⟨rv,rfl,i,a,f⟩,d⟩
theorem HoldsO.keeps {w w' : World}{Pi Pi' : Nat->Nat->Prop}{live live' : Nat->Prop}{rho rho' : Nat->Value}(hk:Keeps w Pi w' Pi')
 (hl:∀j,live j->live' j/\rho' j=rho j) {h:Value}{o:Obj}(hb:∀b,D6 h o b->w'.heap[b]? = w.heap[b]?) (a:HoldsO w Pi live rho h o):HoldsO w' Pi' live' rho' h o:=by
 cases o with
 |rows n g=>exact ED hk hb a
 |_=>exact HoldsC.keeps hk hl hb a
def Lv (R:Nat->Option Obj)(j:Nat):Prop:=(R j).isSome=true
def Prv (X:Nat->Nat->Prop)(R:Nat->Option Obj)(rho:Nat->Value)(b off:Nat):Prop:= X b off \/ ∃j o,R j=some o/\D6 (rho j) o b/\Hr o off
def Own (R:Nat->Option Obj)(rho:Nat->Value)(b:Nat):Prop:=∃j o,R j=some o/\D6 (rho j) o b
structure Hp (X:Nat->Nat->Prop) (R:Nat->Option Obj) (rho:Nat->Value) (w:World):Prop where
 holds:∀j o,R j=some o->HoldsO w (Prv X R rho) (Lv R) rho (rho j) o
 sep:∀i j oi oj b,R i=some oi->R j=some oj->D6 (rho i) oi b->D6 (rho j) oj b->i=j
 out:∀j o b off,R j=some o->D6 (rho j) o b->¬X b off
 bound:∀b off,X b off->b<w.heap.size
theorem HoldsC.lt {w:World}{Pi:Nat->Nat->Prop}{live:Nat->Prop}{rho:Nat->Value}{h:Value}{o:Obj}(a:HoldsC w Pi live rho h o){b:Nat}(hb:K9 h o=some b):b<w.heap.size:=by
 cases o with
 |cells cs=>obtain⟨b',c,T,rfl,h1,_⟩:=a;cases hb;exact (AR1.1 h1).1
 |vec e k n f vw=>
  rcases a with⟨rfl,_⟩ | ⟨b',cap,c,rfl,h1,_⟩
  .cases hb
  cases hb;exact (AR1.1 h1).1
 |map es=>obtain⟨b',ents,clock,rfl,h1,_⟩:=a;cases hb;exact (AR1.1 h1).1
 |arr n f=>obtain⟨b',c,T,rfl,h1,_⟩:=a;cases hb;exact (AR1.1 h1).1
 |ghost cs=>cases hb
 |yld r b=>cases hb
 |dead=>cases hb
 |fam e n jr x=>
  rcases a with⟨rv,_,_,⟨rfl,_⟩ | ⟨b',cap,c,rfl,h1,_⟩⟩
  .cases hb
  cases hb;exact (AR1.1 h1).1
 |rows=>exact a.elim
theorem AI4 {w:World}{Pi:Nat->Nat->Prop}{live:Nat->Prop}{rho:Nat->Value}{v:Value}{o:Obj}(h:rowV w Pi live rho v o){b:Nat}(hb:K9 v o=some b):HoldsC w Pi live rho v o:=by
 unfold rowV at h;split at h
 .exact h
 .exact h
 .cases hb
 .cases hb
 exact h.elim
theorem HoldsO.own {w:World}{Pi:Nat->Nat->Prop}{live:Nat->Prop}{rho:Nat->Value}{h:Value}{o:Obj}(a:HoldsO w Pi live rho h o){b:Nat}(hb:D6 h o b):∃h' o',HoldsC w Pi live rho h' o' /\ K9 h' o' = some b:=by
 cases o with
 |rows n g=>obtain⟨rv,rfl,h1,j⟩:=a;obtain⟨rv',c,i,d,hb⟩:=hb;simp only[Value.agg.injEq]at c;subst c;exact⟨_,_,AI4 (h1 i d) hb,hb⟩
 |cells cs=>exact⟨h,.cells cs,a,hb⟩
 |vec e k n f vw=>exact⟨h,.vec e k n f vw,a,hb⟩
 |map es=>exact⟨h,.map es,a,hb⟩
 |arr n f=>exact⟨h,.arr n f,a,hb⟩
 |fam e n jr x=>exact⟨h,.fam e n jr x,a,hb⟩
 |_=>cases hb
theorem HoldsO.lt {w:World}{Pi:Nat->Nat->Prop}{live:Nat->Prop}{rho:Nat->Value}{h:Value}{o:Obj}(a:HoldsO w Pi live rho h o){b:Nat}(hb:D6 h o b):b<w.heap.size:=by obtain⟨h',o',h1,c⟩:=a.own hb;exact h1.lt c
theorem Hp.lt {X:Nat->Nat->Prop}{R:Nat->Option Obj}{rho:Nat->Value}{w:World}(h:Hp X R rho w){b:Nat}(hb:Own R rho b):b<w.heap.size:=by obtain⟨j,o,hj,hb⟩:=hb;exact (h.holds j o hj).lt hb
theorem Hp.update {X:Nat->Nat->Prop}{R R' : Nat->Option Obj}{rho rho' : Nat->Value}{w w' : World}(D:Nat->Prop)(h:Hp X R rho w)
 (d:∀j,¬D j->R' j=R j) (a:∀j,Lv R j->Lv R' j/\rho' j=rho j) (a3:w.heap.size<=w'.heap.size)
 (t:∀b,b<w.heap.size->(∀j o,D j->R j=some o->¬D6 (rho j) o b)->w'.heap[b]? = w.heap[b]?)
 (m:∀j o b,D j->R' j=some o->D6 (rho' j) o b->(∃i oi,D i/\R i=some oi/\D6 (rho i) oi b) \/ w.heap.size<=b)
 (u:∀i j oi oj b,D i->D j->R' i=some oi->R' j=some oj->D6 (rho' i) oi b->D6 (rho' j) oj b->i=j)
 (x:∀i oi b off v,D i->R i=some oi->D6 (rho i) oi b->¬Prv X R rho b off->w.cell? ⟨b,off,none⟩=some v->w'.cell? ⟨b,off,none⟩=some v/\∀j o,D j->R' j=some o->D6 (rho' j) o b->¬Hr o off)
 (hh:Keeps w (Prv X R rho) w' (Prv X R' rho')->∀j o,D j->R' j=some o->HoldsO w' (Prv X R' rho') (Lv R') rho' (rho' j) o) :
 Hp X R' rho' w' /\ Keeps w (Prv X R rho) w' (Prv X R' rho'):=by
 have hk:Keeps w (Prv X R rho) w' (Prv X R' rho'):=by
  intro b off v hp hc;have a4:b<w.heap.size:=AY9 w ⟨b,off,none⟩ hc;by_cases hD:∃i oi,D i/\R i=some oi/\D6 (rho i) oi b
  .obtain⟨i,oi,l,z,hb⟩:=hD;obtain⟨h1,h2⟩:=x i oi b off v l z hb hp hc;refine⟨h1,fun y=>?_⟩;rcases y with r|⟨j,o,hj,f,s⟩
   .exact hp (.inl r)
   by_cases c:D j
   .exact h2 j o c hj f s
   rw[d j c]at hj;rw[(a j (by simp[Lv,hj])).2]at f;exact hp (.inr ⟨j,o,hj,f,s⟩)
  refine⟨?_,fun y=>?_⟩
  .rw[<- hc];exact AV4 (t b a4 fun j o hj z hb=>hD ⟨j,o,hj,z,hb⟩)
  rcases y with r|⟨j,o,hj,f,s⟩
  .exact hp (.inl r)
  by_cases c:D j
  .rcases m j o b c hj f with l|l
   .exact hD l
   omega
  rw[d j c]at hj;rw[(a j (by simp[Lv,hj])).2]at f;exact hp (.inr ⟨j,o,hj,f,s⟩)
 refine⟨⟨fun j o hj=>?_,fun i j oi oj b l hj g f=>?_,fun j o b off hj hb r=>?_,fun b off r=>AT0 (h.bound b off r) a3⟩,hk⟩
 .by_cases c:D j
  .exact hh hk j o c hj
  rw[d j c]at hj;have z:=(a j (by simp[Lv,hj])).2;rw[z];refine (h.holds j o hj).keeps hk a fun b hb=>t b ((h.holds j o hj).lt hb) fun i oi l n g=>?_
  have:=h.sep i j oi o b n hj g hb
  subst this;exact c l
 .by_cases q:D i<;>by_cases c:D j
  .exact u i j oi oj b q c l hj g f
  .rw[d j c]at hj;rw[(a j (by simp[Lv,hj])).2]at f;rcases m i oi b q l g with⟨i',oi',hi',n,a0⟩ | a1
   .have:=h.sep i' j oi' oj b n hj a0 f
    subst this;exact Ln hi' c
   have:=(h.holds j oj hj).lt f;omega
  .rw[d i q]at l;rw[(a i (by simp[Lv,l])).2]at g;rcases m j oj b c hj f with⟨j',oj',hj',hrj,a2⟩ | a1
   .have:=h.sep j' i oj' oi b hrj l a2 g
    subst this;exact Ln hj' q
   have:=(h.holds i oi l).lt g;omega
  rw[d i q]at l;rw[d j c]at hj;rw[(a i (by simp[Lv,l])).2]at g;rw[(a j (by simp[Lv,hj])).2]at f;exact h.sep i j oi oj b l hj g f
 by_cases c:D j
 .rcases m j o b c hj hb with⟨i,oi,l,n,g⟩ | a1
  .exact h.out i oi b off n g r
  have:=h.bound b off r;omega
 rw[d j c]at hj;rw[(a j (by simp[Lv,hj])).2]at hb;exact h.out j o b off hj hb r
end Go.AM
namespace Go.AM
theorem JC (env:Env)(d t:Nat)(x:AV):get (ins d x env) t=if d=t then x else get env t:=by
 induction env with
 |nil=>simp[ins,get]
 |cons p r ih=>
  obtain⟨i,b⟩:=p;simp only[ins];split
  .simp only[get]
  split
  .rename_i h;subst h;simp only[get];split<;>rfl
  rename_i h1 a;simp only[get,ih];by_cases h:i=t
  .simp only[h,Lo];rw[Lm (by omega)]
  simp only[h,Lp]
theorem A2 (regs:B5)(d t:Nat)(x:Obj):A1 (ins d x regs) t=if d=t then some x else A1 regs t:=by
 induction regs with
 |nil=>simp[ins,A1]
 |cons p r ih=>
  obtain⟨i,b⟩:=p;simp only[ins];split
  .simp only[A1]
  split
  .rename_i h;subst h;simp only[A1];split<;>rfl
  rename_i h1 a;simp only[A1,ih];by_cases h:i=t
  .simp only[h,Lo];rw[Lm (by omega)]
  simp only[h,Lp]
structure Ctx where
 X:Nat->Nat->Prop
 w0:World
 E0:Nat->Prop
 Pi0:Nat->Nat->Prop
 rho0:Nat->Value
 Y:List (List PV)->Bool->Prop
 yv:Value
structure SatE (C:Ctx) (R:B5) (w:World) (rho:Nat->Value):Prop where
 hp:Hp C.X (A1 R) rho w
 ext:Ext C.w0 w
 size:C.w0.heap.size<=w.heap.size
 same:∀b,b<C.w0.heap.size->¬C.E0 b->w.heap[b]? = C.w0.heap[b]?
 keep:Keeps C.w0 C.Pi0 w (Prv C.X (A1 R) rho)
 own:∀b,Own (A1 R) rho b->C.E0 b \/ C.w0.heap.size<=b
 yld:∀j r b,A1 R j=some (.yld r b)->C.Y r b/\rho j=C.yv
def Marks (C:Ctx)(l:List Deferred)(w:World):Prop:= l.Nodup/\∀d∈l,∃r,d={ target:=.collected r,args:=#[] }/\(C.E0 r \/ C.w0.heap.size<=r)/\w.heap[r]? = some (.deferred (some []))/\∀off,¬C.X r off
structure Sat (C:Ctx) (st:St) (a:Act) (w:World) (rho:Nat->Value):Prop extends SatE C st.regs w rho where
 env:∀t,RepA w (Prv C.X (A1 st.regs) rho) (Lv (A1 st.regs)) rho (a.tmps.getD t undef) (get st.env t)
 pin:∀j,j<1000->Lv (A1 st.regs) j->rho j=C.rho0 j
 marks:Marks C a.defers w
theorem J9 (w:World)(Pi:Nat->Nat->Prop)(v:Value):RepP w Pi v (Kw v):=by
 cases v<;>try exact .v _
 rename_i s
 have:=RepP.str (w:=w) (Pi:=Pi) s.data.toList
 simpa[Kw]using this
theorem Uj (w:World)(Pi:Nat->Nat->Prop)(v:Value):RepP w Pi v (pvK v):=by
 cases v with
 |agg cs=>
  simp only[pvK];split
  .rename_i h;refine .agg cs _ (by simp) (fun i b=>?_) fun i b=>?_
   .have a : i<cs.size:=by simpa using b
    have:=Array.all_eq_true.1 h i a
    simpa[AQ0,a]using this
   have a : i<cs.size:=by simpa using b
   have e1:cs.getD i undef=cs[i]:=by simp[AQ0,a]
   have e2:(cs.toList.map Kw).getD i default=Kw cs[i]:=by simp[AQ1,a]
   rw[e1,e2];exact J9 w Pi _
  exact .v _
 |_=>exact J9 w Pi _
theorem Ah6 {w:World}{Pi:Nat->Nat->Prop}{live:Nat->Prop}{rho:Nat->Value}{env:Env}{a:Act}(h:∀t,RepA w Pi live rho (a.tmps.getD t undef) (get env t))(x:Operand):RepA w Pi live rho (a.eval x) (aev env x):=by
 cases x with
 |tmp t=>exact h t
 |const v=>exact .p _ _ (Uj w Pi v)
 |global g=>exact .top _
 |func f=>exact .clo f #[] #[] [] [] rfl rfl (fun i b=>Ln b (by simp)) (fun i b=>Ln b (by simp))
theorem Sat.aev {C:Ctx}{st:St}{a:Act}{w:World}{rho:Nat->Value}(h:Sat C st a w rho)(x:Operand):RepA w (Prv C.X (A1 st.regs) rho) (Lv (A1 st.regs)) rho (a.eval x) (AM.aev st.env x):=Ah6 h.env x
theorem Sat.put {C:Ctx}{st:St}{a:Act}{w:World}{rho:Nat->Value}(h:Sat C st a w rho){v:Value}{x:AV}(b:RepA w (Prv C.X (A1 st.regs) rho) (Lv (A1 st.regs)) rho v x){d:Option Nat}
 (c:∀t,d=some t->t<a.tmps.size):Sat C (AM.put st d x) (a.put d v) w rho:=by
 cases d with
 |none=>exact h
 |some d=>
  refine⟨h.toSatE,fun t=>?_,h.pin,h.marks⟩;show RepA w (Prv C.X (A1 st.regs) rho) (Lv (A1 st.regs)) rho ((a.tmps.setIfInBounds d v).getD t undef) (AM.get (ins d x st.env) t);rw[JC];split
  .rename_i e;subst e
   have:=c d rfl
   simpa[AQ0,this]using b
  rename_i e
  have:=h.env t
  simpa[AQ0,Array.getElem?_setIfInBounds,e]using this
def isC:Option Go.Obj->Bool
 |some (.cells ..)|some (.map ..)=>true
 |_=>false
theorem HoldsC.kind {w:World}{Pi:Nat->Nat->Prop}{live:Nat->Prop}{rho:Nat->Value}{h:Value}{o:Obj}(a:HoldsC w Pi live rho h o){b:Nat}(hb:K9 h o=some b):isC w.heap[b]? = true:=by
 cases o with
 |cells cs=>obtain⟨b',c,T,rfl,h1,_⟩:=a;cases hb;rw[h1];rfl
 |vec e k n f vw=>
  rcases a with⟨rfl,_⟩ | ⟨b',cap,c,rfl,h1,_⟩
  .cases hb
  cases hb;rw[h1];rfl
 |map es=>obtain⟨b',ents,clock,rfl,h1,_⟩:=a;cases hb;rw[h1];rfl
 |arr n f=>obtain⟨b',c,T,rfl,h1,_⟩:=a;cases hb;rw[h1];rfl
 |ghost cs=>cases hb
 |yld r b=>cases hb
 |dead=>cases hb
 |fam e n jr x=>
  rcases a with⟨rv,_,_,⟨rfl,_⟩ | ⟨b',cap,c,rfl,h1,_⟩⟩
  .cases hb
  cases hb;rw[h1];rfl
 |rows=>exact a.elim
theorem HoldsO.kind {w:World}{Pi:Nat->Nat->Prop}{live:Nat->Prop}{rho:Nat->Value}{h:Value}{o:Obj}(a:HoldsO w Pi live rho h o){b:Nat}(hb:D6 h o b):isC w.heap[b]? = true:=by obtain⟨h',o',h1,c⟩:=a.own hb;exact h1.kind c
theorem HoldsO.nd {w:World}{Pi:Nat->Nat->Prop}{live:Nat->Prop}{rho:Nat->Value}{h:Value}{o:Obj}(a:HoldsO w Pi live rho h o){b:Nat}(hb:D6 h o b)(c:w.heap[b]? = some (.deferred (some []))):False:=by
 have:=a.kind hb;rw[c]at this;cases this
theorem Sat.step {C:Ctx}{st:St}{a:Act}{w:World}{rho:Nat->Value}(h:Sat C st a w rho){R' : B5}{rho' : Nat->Value}{w' : World}(D:Nat->Prop)
 (f:∀j,¬D j->A1 R' j=A1 st.regs j) (c:∀j,Lv (A1 st.regs) j->Lv (A1 R') j/\rho' j=rho j) (s:w.heap.size<=w'.heap.size)
 (u:∀j,¬Lv (A1 st.regs) j->Lv (A1 R') j->1000<=j) (z:∀j r b,D j->A1 R' j≠some (.yld r b))
 (g:∀b,b<w.heap.size->(∀j o,D j->A1 st.regs j=some o->¬D6 (rho j) o b)->w'.heap[b]? = w.heap[b]?)
 (l:∀j o b,D j->A1 R' j=some o->D6 (rho' j) o b->(∃i oi,D i/\A1 st.regs i=some oi/\D6 (rho i) oi b) \/ w.heap.size<=b)
 (m:∀i j oi oj b,D i->D j->A1 R' i=some oi->A1 R' j=some oj->D6 (rho' i) oi b->D6 (rho' j) oj b->i=j)
 (n:∀i oi b off v,D i->A1 st.regs i=some oi->D6 (rho i) oi b->¬Prv C.X (A1 st.regs) rho b off->w.cell? ⟨b,off,none⟩=some v ->
  w'.cell? ⟨b,off,none⟩=some v/\∀j o,D j->A1 R' j=some o->D6 (rho' j) o b->¬Hr o off)
 (hh:Keeps w (Prv C.X (A1 st.regs) rho) w' (Prv C.X (A1 R') rho')->∀j o,D j->A1 R' j=some o->HoldsO w' (Prv C.X (A1 R') rho') (Lv (A1 R')) rho' (rho' j) o) (x:Ext w w':=by exact⟨rfl,rfl⟩) :
 Sat C { st with regs:=R' } a w' rho' /\ Keeps w (Prv C.X (A1 st.regs) rho) w' (Prv C.X (A1 R') rho'):=by
 obtain⟨a0,hk⟩:=h.hp.update D f c s g l m n hh;refine⟨⟨⟨a0,h.ext.trans x,AW5 h.size s,fun b hb hE=>?_,h.keep.trans hk,?_,?_⟩,fun t=>(h.env t).keeps hk c,?_,?_⟩,hk⟩
 .rw[g b (AT0 hb h.size) fun j o hj hr q=>?_]
  .exact h.same b hb hE
  rcases h.own b ⟨j,o,hr,q⟩with h1|h1
  .exact hE h1
  omega
 .rintro b ⟨j,o,hj,hb⟩;by_cases y:D j
  .rcases l j o b y hj hb with⟨i,oi,_,hi,hbi⟩ | hge
   .exact h.own b ⟨i,oi,hi,hbi⟩
   exact .inr (AW5 h.size hge)
  rw[f j y]at hj;rw[(c j (by simp[Lv,hj])).2]at hb;exact h.own b ⟨j,o,hj,hb⟩
 .intro j r b hj;by_cases y:D j
  .exact Ln hj (z j r b y)
  rw[f j y]at hj;rw[(c j (by simp[Lv,hj])).2];exact h.yld j r b hj
 .intro j hlt hl;by_cases hj:Lv (A1 st.regs) j
  .rw[(c j hj).2];exact h.pin j hlt hj
  have:=u j hj hl;omega
 refine⟨h.marks.1,fun d hd=>?_⟩;obtain⟨r,h1,h2,h3,h4⟩:=h.marks.2 d hd;refine⟨r,h1,h2,?_,h4⟩;rw[g r (AR1.1 h3).1 fun j o hj hr q=>(h.hp.holds j o hr).nd q h3];exact h3
section
variable {C:Ctx}{st:St}{a:Act}{w:World}{rho:Nat->Value}
abbrev PiS (C:Ctx)(st:St)(rho:Nat->Value):Nat->Nat->Prop:=Prv C.X (A1 st.regs) rho
abbrev RS (C:Ctx)(st:St)(w:World)(rho:Nat->Value):Value->AV->Prop:=RepA w (Prv C.X (A1 st.regs) rho) (Lv (A1 st.regs)) rho
theorem Sat.fresh (h:Sat C st a w rho){j:Nat}(hj:1000<=j)(hn:A1 st.regs j=none)(ob:Obj)(f:Value){w' : World}(s:w.heap.size<=w'.heap.size)
 (l:∀b,b<w.heap.size->w'.heap[b]? = w.heap[b]?) (hb:∀b,D6 f ob b->w.heap.size<=b)
 (x:Keeps w (PiS C st rho) w' (Prv C.X (A1 (ins j ob st.regs)) (fun i=>if i=j then f else rho i)) ->
  HoldsO w' (Prv C.X (A1 (ins j ob st.regs)) (fun i=>if i=j then f else rho i)) (Lv (A1 (ins j ob st.regs))) (fun i=>if i=j then f else rho i) f ob) (hy:∀r b,ob ≠ .yld r b:=by intro _ _ h;cases h) (m:Ext w w':=by exact⟨rfl,rfl⟩) :
 Sat C { st with regs:=ins j ob st.regs } a w' (fun i=>if i=j then f else rho i)/\Keeps w (PiS C st rho) w' (Prv C.X (A1 (ins j ob st.regs)) (fun i=>if i=j then f else rho i)) /\
  ∀i,Lv (A1 st.regs) i->Lv (A1 (ins j ob st.regs)) i/\(if i=j then f else rho i)=rho i:=by
 have d:∀i,Lv (A1 st.regs) i->Lv (A1 (ins j ob st.regs)) i/\(if i=j then f else rho i)=rho i:=by
  intro i c;by_cases e:i=j
  .subst e;simp[Lv,hn]at c
  simp only[e,Lp,Lv,A2,Lm (AV5 e)];exact⟨c,trivial⟩
 obtain⟨h1,y⟩:=h.step (R':=ins j ob st.regs) (rho':=fun i=>if i=j then f else rho i) (w':=w') (· = j) (fun i c=>by rw[A2,Lm (AV5 c)]) d s
  (fun i c g=>by
   by_cases e:i=j
   .omega
   simp only[Lv,A2,Lm (AV5 e)]at g;exact Ln g c)
  (fun i r b c t=>by subst c;simp only[A2,Lo,AQ2]at t;exact hy r b t)
  (fun b hb _=>l b hb)
  (fun i o b c n q=>by subst c;simp only[A2,Lo,AQ2]at n q;subst n;exact .inr (hb b q))
  (fun i i' oi oi' b c g _ _ _ _=>c.trans g.symm)
  (fun i oi b off v c u _ _ _=>by subst c;rw[hn]at u;cases u)
  (fun hk i o c n=>by subst c;simp only[A2,Lo,AQ2]at n;subst n;simp only[Lo];exact x hk) m
 exact⟨h1,y,d⟩
theorem Sat.modify (h:Sat C st a w rho){j:Nat}{o ob:Obj}{b:Nat}(hj:A1 st.regs j=some o)(m:D6 (rho j) o b)(hp:∀off,Hr o off)(n : ∀b',D6 (rho j) ob b' -> b' = b){w' : World}(z:w'.heap.size=w.heap.size)
 (g:∀b',b' ≠ b->w'.heap[b']? = w.heap[b']?)
 (hh:Keeps w (PiS C st rho) w' (Prv C.X (A1 (ins j ob st.regs)) rho)->HoldsO w' (Prv C.X (A1 (ins j ob st.regs)) rho) (Lv (A1 (ins j ob st.regs))) rho (rho j) ob) (hy:∀r b,ob ≠ .yld r b:=by intro _ _ h;cases h) (q:Ext w w':=by exact⟨rfl,rfl⟩) :
 Sat C { st with regs:=ins j ob st.regs } a w' rho/\Keeps w (PiS C st rho) w' (Prv C.X (A1 (ins j ob st.regs)) rho)/\∀i,Lv (A1 st.regs) i->Lv (A1 (ins j ob st.regs)) i/\rho i=rho i:=by
 have d:∀i,Lv (A1 st.regs) i->Lv (A1 (ins j ob st.regs)) i/\rho i=rho i:=by
  intro i c;refine⟨?_,rfl⟩;simp only[Lv,A2];split
  .rfl
  exact c
 obtain⟨h1,h2⟩:=h.step (R':=ins j ob st.regs) (rho':=rho) (w':=w') (· = j) (fun i c=>by rw[A2,Lm (AV5 c)]) d (by omega)
  (fun i c f=>by
   simp only[Lv,A2]at c f;split at f
   .rename_i e;subst e;simp[hj]at c
   exact Ln f c)
  (fun i r b c x=>by subst c;simp only[A2,Lo,AQ2]at x;exact hy r b x)
  (fun b' _ t=>g b' (fun e=>t j o rfl hj (e ▸ m)))
  (fun i oi b' c s l=>by
   subst c;simp only[A2,Lo,AQ2]at s;subst s
   have:=n b' l;subst this
   exact .inl ⟨i,o,rfl,hj,m⟩)
  (fun i i' oi oi' b c f _ _ _ _=>c.trans f.symm)
  (fun i oi b' off v c y l u _=>by subst c;rw[hj]at y;cases y;exact Ln (.inr ⟨i,o,hj,l,hp off⟩) u)
  (fun hk i oi c s=>by subst c;simp only[A2,Lo,AQ2]at s;subst s;exact hh hk) q
 exact⟨h1,h2,d⟩
theorem Sat.viewed (h:Sat C st a w rho){j:Nat}{e:TypeId}{k n:Nat}{f:Nat->List PV}{vw:Bool}(hj:A1 st.regs j=some (.vec e k n f vw)) :Sat C { st with regs:=ins j (.vec e k n f true) st.regs } a w rho/\Keeps w (PiS C st rho) w (Prv C.X (A1 (ins j (.vec e k n f true) st.regs)) rho) /\
  (∀i,Lv (A1 st.regs) i->Lv (A1 (ins j (.vec e k n f true) st.regs)) i/\rho i=rho i):=by
 have d:∀i,Lv (A1 st.regs) i->Lv (A1 (ins j (.vec e k n f true) st.regs)) i/\rho i=rho i:=by
  intro i c;refine⟨?_,rfl⟩;simp only[Lv,A2];split
  .rfl
  exact c
 obtain⟨h1,x⟩:=h.step (R':=ins j (.vec e k n f true) st.regs) (rho':=rho) (w':=w) (· = j) (fun i c=>by rw[A2,Lm (AV5 c)]) d (AQ8 _)
  (fun i c g=>by
   simp only[Lv,A2]at c g;split at g
   .rename_i e;subst e;simp[hj]at c
   exact Ln g c)
  (fun i r b c y=>by subst c;simp[A2]at y)
  (fun b' _ _=>rfl)
  (fun i oi b' c m l=>by subst c;simp only[A2,Lo,AQ2]at m;subst m;exact .inl ⟨i,_,rfl,hj,l⟩)
  (fun i i' oi oi' b c g _ _ _ _=>c.trans g.symm)
  (fun i oi b' off v c t l s hc=>by
   subst c;rw[hj]at t;cases t;refine⟨hc,fun i' oi' g q u hp=>?_⟩;subst g;simp only[A2,Lo,AQ2]at q;subst q;refine s (.inr ⟨i',_,hj,l, ?_⟩);cases vw
   .trivial
   exact hp)
  (fun hk i oi c m=>by subst c;simp only[A2,Lo,AQ2]at m;subst m;exact (h.hp.holds i _ hj).keeps (o:=.vec e k n f vw) hk d (fun _ _=>rfl))
 exact⟨h1,x,d⟩
theorem G3 {i j k n:Nat}(a:i<n)(hj:j<k):i*k+j<n*k:=
 AT0 (Nat.add_lt_add_left hj _) (by rw[<- Be1];exact AS1 k a)
theorem Hp.pubd {X:Nat->Nat->Prop}{R:Nat->Option Obj}{w:World}(h:Hp X R rho w){j:Nat}{o:Obj}{b off:Nat}(hj:R j=some o)(hb:D6 (rho j) o b)(hp:¬Hr o off):¬Prv X R rho b off:=by
 rintro (f|⟨i,oi,a,c,d⟩)
 .exact h.out j o b off hj hb f
 have:=h.sep i j oi o b a hj c hb
 subst this;rw[hj]at a;cases a;exact hp d
theorem E2 {w:World}{b:Nat}{c:Array Value}{T:TypeId}{fz:Nat×Nat}(h:w.heap[b]? = some (.cells c T fz)){o:Nat}(a:o<c.size):w.cell? ⟨b,o,none⟩=some (c.getD o undef):=by simp[World.cell?,h,AQ0,a]
theorem Sat.sl (h:Sat C st a w rho){j m:Nat}{e:TypeId}{k n:Nat}{f:Nat->List PV}(hj:A1 st.regs j=some (.vec e k n f true)){base:Option Addr}{cap n' : Nat}(g:rho j=.slice base n' cap)(hm:m<=n) :RepP w (PiS C st rho) (.slice base m cap) (.sl false k m f):=by
 have d:=h.hp.holds j _ hj;rw[g]at d;rcases d with⟨hn,rfl⟩ | ⟨b,cap',c,d,h1,r,s,v,t,o⟩
 .cases hn
  have:m=0:=by omega
  subst this;exact .slnil k f
 cases d;refine .sl false b 0 cap k m f (fun i j=>c.getD (i*k+j) undef) (by omega) (fun i q=>t i (by omega)) (fun i l q hl=>?_) (fun i l q hl=>(o i l (by omega) hl).1) none (fun _=>rfl);have u:=G3 (show i<n by omega) hl;have hle:n*k<=c.size:=by rw[s];exact AS1 k r
 rw[AT6];refine⟨E2 h1 (by omega),h.hp.pubd hj (b:=b) (by simp[D6,K9,g]) (by simp only[Hr];omega),(o i l (by omega) hl).2⟩
structure Kp (C:Ctx) (R R' : B5) (w w' : World) (rho rho' : Nat->Value):Prop where
 keeps:Keeps w (Prv C.X (A1 R) rho) w' (Prv C.X (A1 R') rho')
 live:∀i,Lv (A1 R) i->Lv (A1 R') i/\rho' i=rho i
theorem Kp.refl (C:Ctx)(R:B5)(w:World)(rho:Nat->Value):Kp C R R w w rho rho:=⟨Keeps.refl _ _,fun i a=>⟨a,rfl⟩⟩
theorem Kp.trans {C:Ctx}{R R' R'' : B5}{w w' w'' : World}{rho rho' rho'' : Nat->Value}(h:Kp C R R' w w' rho rho')(h' : Kp C R' R'' w' w'' rho' rho''):Kp C R R'' w w'' rho rho'':=
 ⟨h.keeps.trans h'.keeps,fun i a=>⟨(h'.live i (h.live i a).1).1,((h'.live i (h.live i a).1).2).trans (h.live i a).2⟩⟩
theorem Kp.p {R R' : B5}{w w' : World}{rho rho' : Nat->Value}(h:Kp C R R' w w' rho rho'){v:Value}{x:PV}(a:RepP w (Prv C.X (A1 R) rho) v x):RepP w' (Prv C.X (A1 R') rho') v x:=a.keeps h.keeps
theorem Kp.av {R R' : B5}{w w' : World}{rho rho' : Nat->Value}(h:Kp C R R' w w' rho rho'){v:Value}{x:AV}(a:RepA w (Prv C.X (A1 R) rho) (Lv (A1 R)) rho v x):RepA w' (Prv C.X (A1 R') rho') (Lv (A1 R')) rho' v x:=a.keeps h.keeps h.live
theorem Iw {w:World}{Pi:Nat->Nat->Prop}{live:Nat->Prop}{h:Value}{e:TypeId}{k n:Nat}{f:Nat->List PV}{vw:Bool}(a:HoldsO w Pi live rho h (.vec e k n f vw)):∃base cap,h=.slice base n cap:=by
 rcases a with⟨rfl,rfl⟩ | ⟨b,cap,c,rfl,_⟩
 .exact⟨_,_,rfl⟩
 exact⟨_,_,rfl⟩
theorem Ix:∀{cs:List AV}{l:List PV},RJ cs=some l->cs=l.map .p
 |[],l,h=>by simp[RJ]at h;subst h;rfl
 |.p x::r,l,h=>by
  simp only[RJ]at h;split at h
  .rename_i l' hl;cases h;rw[Ix hl];rfl
  cases h
 |.reg .. :: _,_,h | .vec .. :: _,_,h | .vecp .. :: _,_,h | .elt .. :: _,_,h | .mref .. :: _,_,h | .clo .. :: _,_,h | .tup .. :: _,_,h | .agr .. :: _,_,h | .yf .. :: _,_,h | .rsl .. :: _,_,h | .top::_,_,h=>by simp[RJ]at h
theorem RepA.toP {w:World}{Pi:Nat->Nat->Prop}{live:Nat->Prop}{v:Value}{x:PV}(h:RepA w Pi live rho v (.p x)):RepP w Pi v x:=by cases h;assumption
theorem RepA.clo_fn {w:World}{Pi:Nat->Nat->Prop}{live:Nat->Prop}{f:FuncId}{x y:Array Value}{a b:List AV}{a' b' : List PV}(ha:RJ a=some a')(hb:RJ b=some b')
 (h:RepA w Pi live rho (.func (.func f) x y) (.clo f a b)):RepP w Pi (.func (.func f) x y) (.fn f a' b'):=by
 have:=Ix ha;subst this
 have:=Ix hb;subst this
 cases h with
 |clo _ _ _ _ _ hx hy hl hr=>
  refine .fn f x y a' b' (by simpa using hx) (by simpa using hy) (fun i c=>?_) fun i c=>?_
  .have:=hl i (by simpa using c)
   simp only[AQ1,AQ9,AQ5 c,AR5,AR2]at this⊢;exact this.toP
  have:=hr i (by simpa using c)
  simp only[AQ1,AQ9,AQ5 c,AR5,AR2]at this⊢;exact this.toP
theorem LU {w:World}{Pi:Nat->Nat->Prop}{live:Nat->Prop}{rho:Nat->Value}:∀{cs:List AV}{l:List PV},Xq cs=some l->l.length=cs.length/\∀i,i<cs.length->∀{v:Value},RepA w Pi live rho v (cs.getD i .top)->RepP w Pi v (l.getD i default)
 |[],l,h=>by simp only[Xq,AQ2]at h;subst h;exact⟨rfl,fun i c=>Ln c (by simp)⟩
 |a::r,l,h=>by
  unfold Xq at h;split at h
  .rename_i e;cases e
  .rename_i x r' e;cases e;split at h
   .rename_i l' hl;cases h;obtain⟨g1,g2⟩:=LU hl;refine⟨by simp[g1],fun i c v b=>?_⟩;cases i with
    |zero=>exact b.toP
    |succ i=>simpa using g2 i (by simpa using c) (by simpa using b)
   cases h
  .rename_i f r' e;cases e;split at h
   .rename_i l' hl;cases h;obtain⟨g1,g2⟩:=LU hl;refine⟨by simp[g1],fun i c v b=>?_⟩;cases i with
    |zero=>
     have b:RepA w Pi live rho v (.clo f [] []):=b;cases b with
     |clo _ x y _ _ hx hy _ _=>have d : x = #[]:=AX9.1 (by simpa using hx);have g : y = #[]:=AX9.1 (by simpa using hy);subst d;subst g;exact .v _
    |succ i=>simpa using g2 i (by simpa using c) (by simpa using b)
   cases h
  cases h
theorem Dk (h:Sat C st a w rho){v:Value}{x:AV}(t:RS C st w rho v x){y' : PV}{R' : B5}(c:Eo st.regs x=some (y',R')) :Sat C { st with regs:=R' } a w rho/\RepP w (Prv C.X (A1 R') rho) v y' /\ Kp C st.regs R' w w rho rho:=by
 cases t with
 |p _ x hx=>simp only[Eo,AQ2,AR3]at c;obtain⟨rfl,rfl⟩:=c;exact⟨h,hx.nP,Kp.refl _ _ _ _⟩
 |vec j base n' cap hl hr=>
  simp only[Eo]at c;split at c
  .rename_i e k n f vw hj;simp only[AQ2,AR3]at c;obtain⟨rfl,rfl⟩:=c;obtain⟨h1,g,o⟩:=h.viewed hj;obtain⟨base',cap',d⟩:=Iw (h.hp.holds j _ hj);rw[hr]at d;cases d;exact⟨h1,h1.sl (j:=j) (m:=n') (e:=e) (k:=k) (n:=n') (f:=f) (by simp[A2]) hr (AQ8 _),g,o⟩
  cases c
 |vecp j m base n cap hl hr hm=>
  simp only[Eo]at c;split at c
  .rename_i e k n' f vw hj;simp only[AQ2,AR3]at c;obtain⟨rfl,rfl⟩:=c;obtain⟨h1,g,o⟩:=h.viewed hj;obtain⟨base',cap',d⟩:=Iw (h.hp.holds j _ hj);rw[hr]at d;cases d;rw[AY1 hm];exact⟨h1,h1.sl (j:=j) (m:=m) (e:=e) (k:=k) (n:=n) (f:=f) (by simp[A2]) hr hm,g,o⟩
  cases c
 |clo f x y l r hx hy hl hr=>
  have gen:(match RJ l,RJ r with
   |some a,some b=>some (PV.fn f a b,st.regs)
   |_,_=>none)=some (y',R')->Sat C { st with regs:=R' } a w rho/\RepP w (Prv C.X (A1 R') rho) (.func (.func f) x y) y' /\ Kp C st.regs R' w w rho rho:=by
   intro c;split at c
   .rename_i a' b' ha hb;simp only[AQ2,AR3]at c;obtain⟨rfl,rfl⟩:=c;exact⟨h,RepA.clo_fn ha hb (.clo f x y l r hx hy hl hr),Kp.refl _ _ _ _⟩
   cases c
  cases l with
  |cons _ _=>exact gen c
  |nil=>
   cases r with
   |cons _ _=>exact gen c
   |nil=>simp only[Eo,AQ2,AR3]at c;obtain⟨rfl,rfl⟩:=c;have q : x = #[]:=AX9.1 (by simpa using hx);have s : y = #[]:=AX9.1 (by simpa using hy);subst q;subst s;exact⟨h,.v _,Kp.refl _ _ _ _⟩
 |reg=>simp[Eo]at c
 |elt=>simp[Eo]at c
 |yf=>simp[Eo]at c
 |rsl=>simp[Eo]at c
 |mref=>simp[Eo]at c
 |tup=>simp[Eo]at c
 |agr x l hx h1 ha=>
  simp only[Eo]at c;split at c
  .rename_i ps hp;simp only[AQ2,AR3]at c;obtain⟨rfl,rfl⟩:=c;obtain⟨g1,g2⟩:=LU hp;exact⟨h,.agg x ps (hx.trans g1.symm) (fun i u=>h1 i (by omega)) (fun i u=>g2 i (by omega) (ha i (by omega))),Kp.refl _ _ _ _⟩
  cases c
 |top=>simp[Eo]at c
end
end Go.AM
namespace Go.AM
section
variable {P:Program}
theorem BA {t:TypeId}{k:TK}(h:tk P t=some k):∃d,P.underlying t=some d/\Ud d=k:=by
 unfold tk at h;cases a:P.underlying t with
 |none=>simp[a]at h
 |some d=>exact⟨d,rfl,by simpa[a]using h⟩
theorem G9 {t e:TypeId}(h:tk P t=some (.slice e)):P.underlying t=some (.slice e):=by obtain⟨d,a,hk⟩:=BA h;cases d<;>simp[Ud]at hk<;>subst hk<;>exact a
theorem Hs {t:TypeId}(h:tk P t=some .str):P.underlying t=some .string:=by obtain⟨d,a,hk⟩:=BA h;cases d<;>simp[Ud]at hk<;>exact a
theorem RZ {t:TypeId}{k:IntKind}(h:tk P t=some (.int k)):P.underlying t=some (.int k):=by obtain⟨d,a,hk⟩:=BA h;cases d<;>simp[Ud]at hk<;>subst hk<;>exact a
theorem Ax8 {t:TypeId}(h:tk P t=some .bool):P.underlying t=some .bool:=by obtain⟨d,a,hk⟩:=BA h;cases d<;>simp[Ud]at hk<;>exact a
theorem KD {t k e:TypeId}(h:tk P t=some (.map k e)):P.underlying t=some (.map k e):=by obtain⟨d,a,hk⟩:=BA h;cases d<;>simp[Ud]at hk;obtain⟨rfl,rfl⟩:=hk;exact a
theorem LW {t e:TypeId}{n:Nat}(h:tk P t=some (.arr n e)):P.underlying t=some (.array n e):=by obtain⟨d,a,hk⟩:=BA h;cases d<;>simp[Ud]at hk;obtain⟨rfl,rfl⟩:=hk;exact a
theorem EE {t:TypeId}{fs:List (Nat×TypeId)}(h:tk P t=some (.struct fs)):∃fa:Array Field,P.underlying t=some (.struct fa)/\fs=fa.toList.map fun f=>(f.offset,f.type):=by obtain⟨d,a,hk⟩:=BA h;cases d<;>simp[Ud]at hk;exact⟨_,a,hk.symm⟩
theorem LB {t:TypeId}{n:Nat}(h:tsz P t=some n):∃i,P.info? t=some i/\i.size=n:=by
 unfold tsz at h;cases a:P.info? t with
 |none=>simp[a]at h
 |some d=>exact⟨d,rfl,by simpa[a]using h⟩
theorem Ai {t:TypeId}{z:List PV}(h:Ld P t=some z):∃i v,P.info? t=some i/\i.zero=some v/\z=v.cells.toList.map Kw:=by
 unfold Ld at h;cases a:P.info? t with
 |none=>simp[a]at h
 |some d=>
  cases b:d.zero with
  |none=>simp[a,b]at h
  |some v=>exact⟨d,v,rfl,b,by simpa[a,b]using h.symm⟩
variable (w:World)
theorem AE {t:TypeId}{d:TypeDesc}(h:P.underlying t=some d):(underlying t).run P w=.ok d w:=by simp[underlying,h]
theorem Ax9 {t:TypeId}{i:TypeInfo}(h:P.info? t=some i):(typeInfo t).run P w=.ok i w:=by simp[typeInfo,h]
theorem Ht {t:TypeId}{n:Nat}(h:tsz P t=some n):(sizeOf t).run P w=.ok n w:=by obtain⟨i,a,rfl⟩:=LB h;simp[sizeOf,Ax9 w a]
theorem Ag3 {t:TypeId}{i:TypeInfo}{v:Value}(h:P.info? t=some i)(a:i.zero=some v):(zeroValue t).run P w=.ok v w:=by simp[zeroValue,Ax9 w h,a]
theorem H7 {t:TypeId}{k:TK}(h:tk P t=some k):(isAgg t).run P w=.ok (VN k) w:=by obtain⟨d,a,rfl⟩:=BA h;cases d<;>simp[isAgg,AE w a,Ud,VN]
end
section
variable {w:World}{Pi:Nat->Nat->Prop}{live:Nat->Prop}{rho:Nat->Value}
def RepL (w:World)(Pi:Nat->Nat->Prop)(live:Nat->Prop)(rho:Nat->Value)(f:Nat->Value)(cs:List AV):Prop:= ∀i,i<cs.length->RepA w Pi live rho (f i) (cs.getD i .top)/\(f i).oneCell' = true
theorem RepL.keeps {w' : World}{Pi' : Nat->Nat->Prop}{live' : Nat->Prop}{rho' : Nat->Value}(hk:Keeps w Pi w' Pi')(hl:∀j,live j->live' j/\rho' j=rho j){f:Nat->Value}{cs:List AV}
 (h:RepL w Pi live rho f cs):RepL w' Pi' live' rho' f cs:=fun i a=>⟨(h i a).1.keeps hk hl,(h i a).2⟩
theorem RepL.drop {f:Nat->Value}{cs:List AV}(h:RepL w Pi live rho f cs)(n:Nat):RepL w Pi live rho (fun i=>f (n+i)) (cs.drop n):=by
 intro i a;simp only[AS9]at a
 have:=h (n+i) (by omega)
 simpa[AQ1,AX1]using this
theorem RepL.take {f:Nat->Value}{cs:List AV}(h:RepL w Pi live rho f cs)(n:Nat):RepL w Pi live rho f (cs.take n):=by
 intro i a;simp only[AY7]at a
 have:=h i (by omega)
 simpa[AQ1,Bb6,show i<n by omega]using this
theorem RepL.mkAgg {f:Nat->Value}{cs:List AV}(h:RepL w Pi live rho f cs){vs:Array Value}(hs:vs.size=cs.length)(b:∀i,i<cs.length->vs.getD i undef=f i):RepA w Pi live rho (.agg vs) (mkAgg cs):=by
 unfold AM.mkAgg;split
 .rename_i l hl
  have:=Ix hl
  subst this;simp only[AU1]at hs b h;refine .p _ _ (.agg vs l hs (fun i a=>?_) fun i a=>?_)
  .rw[b i a];exact (h i (by simpa using a)).2
  rw[b i a]
  have:=(h i (by simpa using a)).1
  simp only[AQ1,AQ9,AQ5 a,AR5,AR2]at this⊢;exact this.toP
 exact .agr vs cs hs (fun i a=>by rw[b i a];exact (h i a).2) fun i a=>by rw[b i a];exact (h i a).1
theorem Ze {v:Value}(h:v.oneCell' = true):v.cells = #[v]:=by cases v<;>first|rfl|simp[Value.oneCell']at h
theorem GS {v:Value}{x:AV}(h:RepA w Pi live rho v x)(hs:Cu x=true) :v.cells.size=(cellsOf x).length/\RepL w Pi live rho (fun i=>v.cells.getD i undef) (cellsOf x):=by
 have one:∀{v:Value}{x:AV},v.oneCell' = true->RepA w Pi live rho v x->v.cells.size=[x].length/\RepL w Pi live rho (fun i=>v.cells.getD i undef) [x]:=by
  intro v x h1 d;rw[Ze h1];refine⟨rfl,fun i c=>?_⟩;simp only[AW2]at c;obtain rfl:i=0:=by omega
  exact⟨d,h1⟩
 cases h with
 |p _ y hy=>
  cases y with
  |agg cs=>
   cases hy with
   |agg vs _ hsz h1 h=>
    refine⟨by simp[Value.cells,cellsOf,hsz],fun i c=>?_⟩;simp only[cellsOf,AU1]at c⊢;refine⟨?_,h1 i c⟩
    have:=h i c
    simp only[AQ1,AQ9,AQ5 c,AR5,AR2]at this⊢;exact .p _ _ this
  |v y=>exact one (hy.cell (by simpa[Cu,YN]using hs)) (.p _ _ hy.nP)
  |bb b=>exact one (hy.cell rfl) (.p _ _ hy)
  |str l=>exact one (hy.cell rfl) (.p _ _ hy)
  |sl nn k n f=>exact one (hy.cell rfl) (.p _ _ hy)
  |ptr cs=>exact one (hy.cell rfl) (.p _ _ hy)
  |iface t a=>exact one (hy.cell rfl) (.p _ _ hy)
  |fn f a b=>exact one (hy.cell rfl) (.p _ _ hy)
 |reg j off b hl h=>exact one rfl (.reg j off b hl h)
 |vec j base n cap hl h=>exact one rfl (.vec j base n cap hl h)
 |vecp j m base n cap hl h hm=>exact one rfl (.vecp j m base n cap hl h hm)
 |elt j k i off b n cap hl h=>exact one rfl (.elt j k i off b n cap hl h)
 |mref j r hl h=>exact one rfl (.mref j r hl h)
 |clo f x y a b hx hy ha hb=>exact one rfl (.clo f x y a b hx hy ha hb)
 |tup x a hx ha=>simp[Cu,YN]at hs
 |agr x a hx h1 ha=>exact⟨hx,fun i c=>⟨ha i c,h1 i c⟩⟩
 |yf j l hl h=>exact one rfl (.yf j l hl h)
 |rsl j n b hl h=>exact one rfl (.rsl j n b hl h)
 |top=>simp[Cu,YN]at hs
end
end Go.AM
namespace Go.AM
section
variable {P:Program}{C:Ctx}{st:St}{a:Act}{w:World}{rho:Nat->Value}{o:Oper}{out:Out}{d:Nat}
def OpOk (P:Program)(C:Ctx)(o:Oper)(st:St)(a:Act)(w:World)(rho:Nat->Value)(out:Out):Prop:= ∃nx v w' rho',(execOp a.eval o).run P w=.ok nx w' /\ (nx=.value v \/ (nx=.skip/\v=undef))/\Sat C { st with regs:=out.regs } a w' rho' /\ Kp C st.regs out.regs w w' rho rho' /\ RepA w' (Prv C.X (A1 out.regs) rho') (Lv (A1 out.regs)) rho' v out.val
theorem OpOk.pure (h:Sat C st a w rho){c:List Prop}{v:Value}{x:AV}(b:(execOp a.eval o).run P w=.ok (.value v) w)(hx:RS C st w rho v x):OpOk P C o st a w rho ⟨c,x,st.regs⟩:=
 ⟨_,v,w,rho,b,.inl rfl,h,Kp.refl _ _ _ _,hx⟩
theorem RepP.toInt {w:World}{Pi:Nat->Nat->Prop}{v:Value}{k:IntKind}{n:Int}(h:RepP w Pi v (.v (.int k n))):v=.int k n:=by cases h;rfl
theorem RepP.toBool {w:World}{Pi:Nat->Nat->Prop}{v:Value}{b:Bool}(h:RepP w Pi v (.bb b)):v=.bool b:=by cases h;rfl
theorem RepP.toV {w:World}{Pi:Nat->Nat->Prop}{v x:Value}(h:RepP w Pi v (.v x)):v=x:=by cases h;rfl
theorem RepP.toStr {w:World}{Pi:Nat->Nat->Prop}{v:Value}{l:List UInt8}(h:RepP w Pi v (.str l)):v=.string ⟨l.toArray⟩:=by cases h;rfl
theorem Zf (h:Sat C st a w rho){x:Operand}(b:o.op=.move x \/ o.op=.assign x)(d:out.regs=st.regs)(f:out.val=aev st.env x):OpOk P C o st a w rho out:=by obtain⟨c,v,r⟩:=out;simp only at d f;subst d;subst f;refine OpOk.pure (v:=a.eval x) h ?_ (h.aev x);rcases b with b|b<;>simp[execOp,b]
theorem Ay0 (h:Sat C st a w rho){c x y:Operand}(f:o.op=.pick c x y)(b:aop P st.env st.regs d o.op=some out):OpOk P C o st a w rho out:=by
 rw[f]at b;simp only[aop]at b;have hc:=h.aev c;split at b
 .rename_i hk;cases b;rw[hk]at hc;refine OpOk.pure (v:=a.eval x) h ?_ (h.aev x);simp[execOp,f,hc.toP.toV,asBool]
 .rename_i hk;cases b;rw[hk]at hc;refine OpOk.pure (v:=a.eval y) h ?_ (h.aev y);simp[execOp,f,hc.toP.toV,asBool]
 .rename_i hk;cases b;rw[hk]at hc;refine OpOk.pure (v:=a.eval x) h ?_ (h.aev x);simp[execOp,f,hc.toP.toBool,asBool]
 .rename_i hk;cases b;rw[hk]at hc;refine OpOk.pure (v:=a.eval y) h ?_ (h.aev y);simp[execOp,f,hc.toP.toBool,asBool]
 cases b
theorem Cc (d i:Nat):1000<=nid d i:=by unfold nid;omega
theorem LX {w:World}{Pi:Nat->Nat->Prop}{live:Nat->Prop}{rho:Nat->Value}{v:Value}{t:TypeId}{ps:List PV}(h:HoldsO w Pi live rho v (.cells (ps.map .p))):HoldsO w Pi live rho v (PS P t ps):=by
 unfold PS;split
 .split
  .rename_i n e hk l;obtain⟨b,c,T,h1,g,f,j⟩:=h;have f:c.size=ps.length:=by simpa using f
   refine⟨b,c,T,h1,g,by omega,fun i m=>?_⟩;have a : i<ps.length:=by omega
   have d:=j i (by simpa using a);have e:(ps.map AV.p).getD i .top=.p (ps.getD i default):=by simp[AQ1,a]
   rw[e]at d;have e2:(ps.map nP).getD i default=nP (ps.getD i default):=by simp[AQ1,a]
   show RepP w Pi (c.getD i undef) ((ps.map nP).getD i default)/\_;rw[e2];exact⟨d.1.toP.nP,d.2⟩
  exact h
 exact h
theorem Sa {w:World}{Pi:Nat->Nat->Prop}{live:Nat->Prop}{rho:Nat->Value}{v:Value}{t:TypeId}{x:AV}(h:HoldsO w Pi live rho v (.cells (cellsOf x))):HoldsO w Pi live rho v (Ky P t x):=by
 unfold Ky;split
 .exact LX h
 exact h
theorem OH {v:Value}{t:TypeId}{ps:List PV}{b:Nat}:D6 v (PS P t ps) b↔(match v with | .pointer (some a)=>some a.block|_=>none:Option Nat)=some b:=by
 unfold PS;split
 .split<;>rfl
 rfl
theorem Uk {v:Value}{t:TypeId}{x:AV}{b:Nat}:D6 v (Ky P t x) b↔(match v with | .pointer (some a)=>some a.block|_=>none:Option Nat)=some b:=by
 unfold Ky;split
 .exact OH
 rfl
theorem VR {t:TypeId}{ps:List PV}(r:List (List PV))(b:Bool):PS P t ps ≠ .yld r b:=by
 unfold PS;split
 .split<;>(intro h;cases h)
 intro h;cases h
theorem Zg {t:TypeId}{x:AV}(r:List (List PV))(b:Bool):Ky P t x ≠ .yld r b:=by
 unfold Ky;split
 .exact VR r b
 intro h;cases h
theorem Ah7 (h:Sat C st a w rho){t:TypeId}(l:o.op=.alloc t)(f:aop P st.env st.regs d o.op=some out):OpOk P C o st a w rho out:=by
 rw[l]at f;simp only[aop]at f;split at f
 .rename_i z hn m;split at f
  .rename_i c;cases f;obtain⟨i,v,g,j,rfl⟩:=Ai m;obtain⟨h1,n,q⟩:=h.fresh (Cc d 0) hn (PS P t (v.cells.toList.map Kw)) (.pointer (some ⟨w.heap.size,0,none⟩)) (w':=w.alloc (.cells v.cells t)) (by simp)
    (fun b hb=>heap_alloc_old w _ b hb) (fun b hb=>by simp[OH]at hb;omega) (fun hk=>by
     refine LX ⟨w.heap.size,v.cells,t,rfl,heap_alloc_new w _,by simp,fun i g=>?_⟩;simp only[AU1,AU5]at g;have e:(v.cells.getD i undef)=v.cells[i]:=by simp[AQ0,g]
     rw[e];refine⟨?_,?_⟩
     .simp only[AQ1,AQ9,AU7,AT8 g,AR5,AR2];exact .p _ _ (J9 _ _ _)
     simp only[AZ4,AR4,Function.comp]at c;exact (J9 w (fun _ _=>False) _).cell (c _ (by simp))) (fun r b=>VR r b)
   refine⟨_,_,_,_,?_,.inl rfl,h1,⟨n,q⟩,.reg _ 0 w.heap.size (by simp[Lv,A2]) (by simp)⟩;simp[execOp,l,Instr.alloc,Ag3 w g j,newVar,newRow]
  cases f
 cases f
theorem AI5 (h:Sat C st a w rho){t:TypeId}{x:Operand}(g:o.op=.box t x)(c:aop P st.env st.regs d o.op=some out):OpOk P C o st a w rho out:=by
 rw[g]at c;simp only[aop]at c;split at c
 .rename_i hn hs;cases c;obtain⟨f,hl⟩:=GS (h.aev x) hs;obtain⟨h1,l,m⟩:=h.fresh (Cc d 0) hn (Ky P t (aev st.env x)) (.pointer (some ⟨w.heap.size,0,none⟩)) (w':=w.alloc (.cells (a.eval x).cells t)) (by simp)
   (fun b hb=>heap_alloc_old w _ b hb) (fun b hb=>by simp[Uk]at hb;omega) (fun hk=>by
    refine Sa ⟨w.heap.size,(a.eval x).cells,t,rfl,heap_alloc_new w _,f,hl.keeps hk ?_⟩;intro i j;by_cases e:i=nid d 0
    .subst e;simp[Lv,hn]at j
    simp only[e,Lp,Lv,A2,Lm (AV5 e)];exact⟨j,trivial⟩) (fun r b=>Zg r b)
  refine⟨_,_,_,_,?_,.inl rfl,h1,⟨l,m⟩,.reg _ 0 w.heap.size (by simp[Lv,A2]) (by simp)⟩;simp[execOp,g,Instr.box,newVar,newRow]
 cases c
theorem BB {Pi:Nat->Nat->Prop}{live:Nat->Prop}{f:Nat->Value}{cs:List AV}{t:TypeId}{x:AV}{b off:Nat}(hl:RepL w Pi live rho f cs)
 (hc:∀i,i<cs.length->w.cell? ⟨b,off+i,none⟩=some (f i)) (a:ldA P t cs=some x):∃v,(loadVar t ⟨b,off,none⟩).run P w=.ok v w/\RepA w Pi live rho v x:=by
 unfold ldA at a;split at a
 .rename_i k n hk hn;split at a
  .rename_i d;split at a
   .rename_i hle;cases a;have g:=run_loadCells (P:=P) w ⟨b,off,none⟩ n f (fun j hj=>by rw[AW6];exact hc j (by omega));refine⟨_,?_,(hl.take n).mkAgg (vs:=((List.range n).map f).toArray) (by simp;omega) (fun i m=>?_)⟩
    .simp[loadVar,H7 w hk,d,Ht w hn,g]
    simp only[AY7]at m;simp[AQ0,show i<n by omega]
   cases a
  rename_i d;cases cs with
  |nil=>cases a
  |cons c r=>cases a;have l:=hc 0 (by simp);rw[AX6]at l;refine⟨f 0,?_,(hl 0 (by simp)).1⟩;simp[loadVar,H7 w hk,d,l]
 cases a
theorem VT (l:List PV):RJ (l.map .p)=some l:=by
 induction l with
 |nil=>rfl
 |cons x r ih=>simp[RJ,ih]
theorem Zh {t:TypeId}{cs:List PV}{c:List Prop}{x:AV}(a:ldP P t cs=some (c,x))(hc:D0 c):ldA P t (cs.map .p)=some x:=by
 unfold ldP at a;unfold ldA;split at a
 .rename_i k n hk hn;split at a
  .rename_i b;cases a;simp only[D0]at hc;simp only[AU1,hc,Lo,<- List.map_take,mkAgg,VT]
  rename_i b;split at a
  .cases a;rfl
  cases a
 cases a
theorem OI (h:Sat C st a w rho){v:Value}{x y:AV}{t:TypeId}{c:List Prop}(hv:RS C st w rho v x)(g:load P st.regs t x=some (c,y))(hc:D0 c) :∃u,(Instr.loadAt t v).run P w=.ok u w/\RS C st w rho u y:=by
 cases hv with
 |reg j off b hl hr=>
  simp only[load]at g;split at g
  .rename_i cs hj;split at g
   .rename_i y' hld;cases g;have hh:=h.hp.holds j _ hj;rw[hr]at hh;obtain⟨b',c,T,r,d,hsz,o⟩:=hh;cases r;obtain⟨u,hu,s⟩:=BB (P:=P) (t:=t) (b:=b) (off:=off) (RepL.drop (f:=fun i=>c.getD i undef) o off) (fun i hi=>by simp only[AS9]at hi;exact E2 d (by omega)) hld
    exact⟨u,by simp[Instr.loadAt,Instr.sureAddr,hu],s⟩
   cases g
  .rename_i n f hj;have hh:=h.hp.holds j _ hj;rw[hr]at hh;obtain⟨b',c,T,r,d,hsz,o⟩:=hh;cases r;split at g
   .rename_i k m hk hm;split at g
    .rename_i z;split at g
     .rename_i hmn;cases g;obtain⟨hmn,hoff⟩:=hmn;subst hoff;subst hmn;obtain⟨u,hu,s⟩:=BB (P:=P) (t:=t) (b:=b) (off:=0) (w:=w) (rho:=rho) (Pi:=PiS C st rho) (live:=Lv (A1 st.regs)) (f:=fun i=>c.getD i undef) (cs:=(CR m f).map .p) (x:=.p (.agg (CR m f)))
       (fun i hi=>by
        have hi:i<m:=by simpa[CR]using hi
        have e:((CR m f).map AV.p).getD i .top=.p (f i):=by simp[CR,AQ1,hi]
        rw[e];exact⟨.p _ _ (o i hi).1,(o i hi).2⟩)
       (fun i hi=>by
        have hi:i<m:=by simpa[CR]using hi
        rw[AT6];exact E2 d (by omega))
       (by
        have hl:((CR m f).map AV.p).length=m:=by simp[CR]
        unfold ldA;simp only[hk,hm,z,hl,AQ8,Lo];rw[List.take_of_length_le (by omega)];simp only[mkAgg,VT])
      exact⟨u,by simp[Instr.loadAt,Instr.sureAddr,hu],s⟩
     cases g
    rename_i z;cases g;have hoff:off<n:=hc;refine⟨c.getD off undef,?_,.p _ _ (o off hoff).1⟩;have h0:w.cell? ⟨b,off,none⟩=some (c.getD off undef):=E2 d (by omega)
    have:(loadVar t ⟨b,off,none⟩).run P w=.ok (c.getD off undef) w:=by simp[loadVar,H7 w hk,z,h0]
    simp[Instr.loadAt,Instr.sureAddr,this]
   cases g
  cases g
 |elt j k i off b n cap hl hr=>
  simp only[load]at g;split at g
  .rename_i e m n' f vw hj;split at g
   .rename_i hkm;subst hkm;split at g
    .rename_i c' y' hld;cases g;have hc':=(LQ _ _).1 hc;have a1:=hc'.2;have hh:=h.hp.holds j _ hj;rw[hr]at hh;rcases hh with⟨hn,_⟩ | ⟨b',cap',cc,r,d,hncap,hsz,hmax,a0,o⟩
     .cases hn
     cases r;have hle:n*k<=cc.size:=by rw[hsz];exact AS1 k hncap
     obtain⟨u,hu,s⟩:=BB (P:=P) (t:=t) (b:=b) (off:=i*k+off) (w:=w) (rho:=rho) (Pi:=PiS C st rho) (live:=Lv (A1 st.regs)) (f:=fun l=>cc.getD (i*k+(off+l)) undef) (cs:=((f i).drop off).map .p)
      (fun l hl=>by
       simp only[AU1,AS9,a0 i a1]at hl;obtain⟨h1,h2⟩:=o i (off+l) a1 (by omega);refine⟨?_,h2⟩
       have:l<((f i).drop off).length:=by simp[a0 i a1];omega
       simp only[AQ1,AQ9,AQ5 this,AR5,AR2];have h3:(f i).getD (off+l) default=((f i).drop off)[l]:=by rw[List.getElem_drop,AQ1,AQ5 (by rw[a0 i a1];omega),AR2]
       rw[h3]at h1;exact .p _ _ h1)
      (fun l hl=>by
       simp only[AU1,AS9,a0 i a1]at hl
       have:=G3 a1 (show off+l<k by omega)
       rw[Bd1];exact E2 d (by omega)) (Zh hld hc'.1)
     exact⟨u,by simp[Instr.loadAt,Instr.sureAddr,hu],s⟩
    cases g
   cases g
  .rename_i e n' jr i0 x0 hj;split at g
   .rename_i q hk;split at g
    .rename_i z;obtain⟨z,rfl,rfl⟩:=z;cases g;obtain⟨hin,rfl⟩:=hc;obtain⟨rv,_,_,hh⟩:=h.hp.holds j _ hj;rw[hr]at hh;rcases hh with⟨hn,_⟩ | ⟨b',cap',cc,r,d,hncap,hsz,hmax,hrow,hx⟩
     .cases hn
     cases r;refine⟨cc.getD i undef,?_,hx⟩;have h0:w.cell? ⟨b,i,none⟩=some (cc.getD i undef):=E2 d (by omega)
     have:(loadVar t ⟨b,i,none⟩).run P w=.ok (cc.getD i undef) w:=by simp[loadVar,H7 w hk,z,h0]
     rw[AV9,AX6];simp[Instr.loadAt,Instr.sureAddr,this]
    cases g
   cases g
  cases g
 |p _ x hx=>
  cases hx with
  |ptr b off cs f hcell o=>
   simp only[load]at g;obtain⟨u,hu,s⟩:=BB (P:=P) (t:=t) (b:=b) (off:=off) (w:=w) (rho:=rho) (Pi:=PiS C st rho) (live:=Lv (A1 st.regs)) (f:=f) (cs:=cs.map .p)
    (fun l hl=>by
     simp only[AU1]at hl;refine⟨?_,(hcell l hl).2.2⟩
     have:=o l hl
     simp only[AQ1,AQ9,AQ5 hl,AR5,AR2]at this⊢;exact .p _ _ this)
    (fun l hl=>(hcell l (by simpa using hl)).1) (Zh g hc)
   exact⟨u,by simp[Instr.loadAt,Instr.sureAddr,hu],s⟩
  |_=>simp[load]at g
 |_=>simp[load]at g
theorem Ay1 (h:Sat C st a w rho){t:TypeId}{x:Operand}(f:o.op=.load t x)(b:aop P st.env st.regs d o.op=some out)(hc:D0 out.cond):OpOk P C o st a w rho out:=by
 rw[f]at b;simp only[aop]at b;split at b
 .rename_i c y hl;cases b;obtain⟨u,g,i⟩:=OI h (h.aev x) hl hc;exact OpOk.pure h (by simp[execOp,f,g]) i
 cases b
end
end Go.AM
namespace Go.AM
theorem H0 {α : Type}(l new:List α)(off:Nat)(h:off+new.length<=l.length):(splice l off new).length=l.length:=by simp only[splice,AU4,AY7,AS9];omega
theorem T9 {α : Type}(l new:List α)(off i:Nat)(d : α)(h:off+new.length<=l.length) :(splice l off new).getD i d=if off<=i/\i<off+new.length then new.getD (i-off) d else l.getD i d:=by
 simp only[splice,AQ1,Bi2,Bb6,AX1,AU4,AY7];have hm:min off l.length=off:=by omega
 rw[hm];by_cases h1:i<off
 .have b:i<off+new.length:=by omega
  have a:¬(off<=i):=by omega
  simp[h1,b,a]
 by_cases b:i<off+new.length
 .have a:off<=i:=by omega
  simp[h1,b,a]
 have a:off+new.length+(i-(off+new.length))=i:=by omega
 simp[b,a]
theorem B8 (c:Array Value)(i:Nat):c.getD i undef=c.toList.getD i undef:=by simp[AQ0,AQ1]
theorem Zi {l i k a b:Nat}(h:l*k+a=i*k+b)(ha:a<k)(hb:b<k):l=i/\a=b:=by
 have h1:(l*k+a) / k=l:=by rw[AY2,Bh5 (by omega),AY8 ha];omega
 have c:(i*k+b) / k=i:=by rw[AY2,Bh5 (by omega),AY8 hb];omega
 have:l=i:=by rw[<- h1,h,c]
 subst this;exact⟨rfl,by omega⟩
section
variable {w:World}{Pi:Nat->Nat->Prop}{live:Nat->Prop}{rho:Nat->Value}
theorem RepL.splice {c:List Value}{cs:List AV}{vs:List Value}{new:List AV}{off:Nat}(hs:c.length=cs.length)(h:RepL w Pi live rho (fun i=>c.getD i undef) cs)
 (hn:vs.length=new.length) (h' : RepL w Pi live rho (fun i=>vs.getD i undef) new) (a:off+new.length<=cs.length):RepL w Pi live rho (fun i=>(splice c off vs).getD i undef) (splice cs off new):=by
 intro i b;rw[H0 _ _ _ a]at b;simp only[T9 c vs off i undef (by omega),T9 cs new off i .top a,hn];split
 .exact h' (i-off) (by omega)
 exact h i b
end
section
variable {P:Program}{C:Ctx}{st:St}{a:Act}{w:World}{rho:Nat->Value}{o:Oper}{out:Out}{d:Nat}
theorem DV {v:Value}{x:AV}{w:World}{Pi:Nat->Nat->Prop}{live:Nat->Prop}(hc:v.cells.size=(cellsOf x).length/\RepL w Pi live rho (fun i=>v.cells.getD i undef) (cellsOf x)) :∀u∈v.cells.toList,u.oneCell' = true:=by
 intro u b;obtain⟨i,a,rfl⟩:=Bc7 b;simp only[AU5]at a
 have:=(hc.2 i (by omega)).2
 simpa[AQ0,a]using this
theorem DW {b off:Nat}{T t:TypeId}{cur:Array Value}{v:Value}{m:Nat}(hm:tsz P t=some m)(hs:v.cells.size=m)(hg:w.heap[b]? = some (.cells cur T (0,0)))(a:off+m<=cur.size)
 (h1:∀u∈v.cells.toList,u.oneCell' = true):(storeVar t ⟨b,off,none⟩ v).run P w=.ok () (w.setRow b (splice cur.toList off v.cells.toList).toArray):=by
 have:=run_storeCells_at (P:=P) b off T v.cells.toList 0 cur w hg (by simp[hs];omega) h1
 simp only[AX6]at this;simp[storeVar,Ht w hm,hs,this,splice]
theorem LY (h:Sat C st a w rho){t:TypeId}{va vx:Value}{x y:AV}(hva:RS C st w rho va x)(hvx:RS C st w rho vx y){c:List Prop}{R' : B5}
 (r:store P st.regs t x y=some (c,R')) (hc:D0 c):∃w',(Instr.storeAt t va vx).run P w=.ok () w' /\ Sat C { st with regs:=R' } a w' rho/\Kp C st.regs R' w w' rho rho:=by
 unfold store at r;split at r
 .rename_i m hm hsto;have d:=GS hvx hsto;cases hva with
  |reg j off b hl hr=>
   simp only at r;split at r
   .rename_i cs hj;split at r
    .rename_i hsz;cases r;have hh:=h.hp.holds j _ hj;rw[hr]at hh;obtain⟨b',c,T,o,q,s,a2⟩:=hh;cases o;have a0:=DW (P:=P) (t:=t) (off:=off) (v:=vx) hm (d.1.trans hsz.1) q (by omega) (DV d);obtain⟨h1,h2,h3⟩:=h.modify (ob:=.cells (splice cs off (cellsOf y))) hj (b:=b) (by simp[D6,K9,hr]) (fun _=>trivial) (fun b' o=>by simp[D6,K9,hr]at o;exact o.symm)
      (w':=w.setRow b (splice c.toList off vx.cells.toList).toArray) (by simp) (fun b' o=>setRow_other w b b' _ o) (fun hk=>by
       refine⟨b,_,T,hr,setRow_heap w b c _ T _ q,?_,?_⟩
       .rw[AX3,H0 _ _ _ (by simp;omega),H0 _ _ _ (by omega)];simpa using s
       have z:∀i,Lv (A1 st.regs) i->Lv (A1 (ins j (.cells (splice cs off (cellsOf y))) st.regs)) i/\rho i=rho i:=by
        intro i hi;refine⟨?_,rfl⟩;simp only[Lv,A2];split
        .rfl
        exact hi
       have:=RepL.splice (c:=c.toList) (cs:=cs) (vs:=vx.cells.toList) (new:=cellsOf y) (off:=off) (by simpa using s)
        (RepL.keeps hk z (by intro i hi;have:=a2 i hi;simpa only[B8]using this)) (by simpa using d.1)
        (RepL.keeps hk z (by intro i hi;have:=d.2 i hi;simpa only[B8]using this)) (by omega)
       intro i hi
       have:=this i hi
       simpa[AQ0,AQ1]using this)
     exact⟨_,by simp[Instr.storeAt,Instr.sureAddr,a0],h1,h2,h3⟩
    cases r
   .rename_i n f hj;have hh:=h.hp.holds j _ hj;rw[hr]at hh;obtain⟨b',c,T,o,q,s,a2⟩:=hh;cases o;have fin:∀g:Nat->PV,vx.cells.size=m->off+m<=n->(∀i,i<n->¬(off<=i/\i<off+m)->g i=f i)->(∀i,i<m->∃y',(cellsOf y).getD i .top=.p y' /\ g (off+i)=y') ->
     ∃w',(Instr.storeAt t (.pointer (some ⟨b,off,none⟩)) vx).run P w=.ok () w' /\ Sat C { st with regs:=ins j (.arr n g) st.regs } a w' rho/\Kp C st.regs (ins j (.arr n g) st.regs) w w' rho rho:=by
     intro g hvs hle hg1 hg2;have a0:=DW (P:=P) (t:=t) (off:=off) (v:=vx) hm hvs q (by omega) (DV d);obtain⟨h1,h2,h3⟩:=h.modify (ob:=.arr n g) hj (b:=b) (by simp[D6,K9,hr]) (fun _=>trivial) (fun b' o=>by simp[D6,K9,hr]at o;exact o.symm)
      (w':=w.setRow b (splice c.toList off vx.cells.toList).toArray) (by simp) (fun b' o=>setRow_other w b b' _ o) (fun hk=>by
       refine⟨b,_,T,hr,setRow_heap w b c _ T _ q,?_,fun i hi=>?_⟩
       .rw[AX3,H0 _ _ _ (by simp;omega)];simpa using s
       have e1:((splice c.toList off vx.cells.toList).toArray).getD i undef=(splice c.toList off vx.cells.toList).getD i undef:=by simp[AQ0,AQ1]
       rw[e1,T9 _ _ _ _ _ (by simp;omega)];by_cases a1:off<=i/\i<off+vx.cells.toList.length
       .rw[Ll a1];have hi2:i-off<m:=by simp at a1;omega
        obtain⟨y',hy1,hy2⟩:=hg2 (i-off) hi2;rw[show off+(i-off)=i by omega]at hy2;have a3:=d.2 (i-off) (by omega);rw[hy1]at a3;rw[hy2];simp only[B8]at a3;exact⟨a3.1.toP.keeps hk,a3.2⟩
       rw[Lm a1,<- B8,hg1 i hi (by simp at a1⊢;omega)];exact⟨(a2 i hi).1.keeps hk,(a2 i hi).2⟩)
     exact⟨_,by simp[Instr.storeAt,Instr.sureAddr,a0],h1,h2,h3⟩
    split at r
    .rename_i ps;split at r
     .rename_i hmn;cases r;obtain⟨hoff,hpl⟩:off=0/\ps.length=n:=hc;subst hoff;refine fin _ ?_ (by omega) (fun i hi hn=>Ln ⟨AZ8 _,by omega⟩ hn) (fun i hi=>?_)
      .rw[d.1];simp[cellsOf];omega
      refine⟨ps.getD i default,?_,by rw[AT6]⟩;simp[cellsOf,AQ1,show i<ps.length by omega]
     cases r
    .rename_i y' hna;split at r
     .rename_i hm1;cases r;have hoff:off<n:=hc;have hco:cellsOf (.p y')=[.p (nP y')]:=by
       cases y' with
       |agg ps=>exact Ln rfl (hna ps)
       |_=>rfl
      refine fin _ ?_ (by omega) (fun i hi hn=>?_) (fun i hi=>?_)
      .rw[d.1,hco];simp;omega
      .show (if i=off then nP y' else f i)=f i;rw[Lm (by omega)]
      obtain rfl:i=0:=by omega
      exact⟨nP y',by rw[hco];rfl,by simp⟩
     cases r
    cases r
   cases r
  |elt j k i off b n cap hl hr=>
   simp only at r;split at r
   .rename_i e k' n' f p hj;split at r
    .rename_i hkk;subst hkk;cases r;obtain⟨hpl,hin,hoff⟩:=hc;have hh:=h.hp.holds j _ hj;rw[hr]at hh;rcases hh with⟨hn,_⟩ | ⟨b',cap',c,o,q,a4,s,hmax,a5,a2⟩
     .cases hn
     cases o;have hcp:(cellsOf (.p p)).length=(Br p).length:=by cases p<;>simp[cellsOf,Br]
     have hcp' : cellsOf (.p p)=(Br p).map .p:=by cases p<;>simp[cellsOf,Br]
     have hle:n*k<=c.size:=by rw[s];exact AS1 k a4
     have hik:i*k+k<=n*k:=by rw[<- Be1];exact AS1 k hin
     have a0:=DW (P:=P) (t:=t) (off:=i*k+off) (v:=vx) hm (d.1.trans (hcp.trans hpl)) q (by omega) (DV d);have hvl:vx.cells.toList.length=m:=by simpa using d.1.trans (hcp.trans hpl)
     obtain⟨h1,h2,h3⟩:=h.modify (ob:=.vec e k n (fun l=>if l=i then splice (f l) off (Br p)else f l) false) hj (b:=b) (by simp[D6,K9,hr]) (fun _=>trivial) (fun b' o=>by simp[D6,K9,hr]at o;exact o.symm)
      (w':=w.setRow b (splice c.toList (i*k+off) vx.cells.toList).toArray) (by simp) (fun b' o=>setRow_other w b b' _ o) (fun hk=>by
       have z:∀l,Lv (A1 st.regs) l->Lv (A1 (ins j (.vec e k n (fun l=>if l=i then splice (f l) off (Br p)else f l) false) st.regs)) l/\rho l=rho l:=by
        intro l hl;refine⟨?_,rfl⟩;simp only[Lv,A2];split
        .rfl
        exact hl
       refine .inr ⟨b,cap,_,hr,setRow_heap w b c _ e _ q,a4,?_,hmax,fun l hl=>?_,fun l jj hl hjj=>?_⟩
       .rw[AX3,H0 _ _ _ (by simp;omega)];simpa using s
       .by_cases u:l=i
        .subst u;simp only[Lo];rw[H0 _ _ _ (by rw[a5 l hl];omega)];exact a5 l hl
        simp only[u,Lp];exact a5 l hl
       have hold:=a2 l jj hl hjj;have e1:((splice c.toList (i*k+off) vx.cells.toList).toArray).getD (l*k+jj) undef=(splice c.toList (i*k+off) vx.cells.toList).getD (l*k+jj) undef:=by simp[AQ0,AQ1]
       rw[e1,T9 _ _ _ _ _ (by simp at hvl⊢;omega)];by_cases a1:i*k+off<=l*k+jj/\l*k+jj<i*k+off+vx.cells.toList.length
       .rw[Ll a1];have u:=Zi (l:=l) (i:=i) (k:=k) (a:=jj) (b:=l*k+jj-i*k) (by omega) hjj (by omega);obtain⟨rfl,hjj'⟩:=u;simp only[Lo];rw[T9 _ _ _ _ _ (by rw[a5 l hl];omega),Ll (by omega)];have a3:=d.2 (jj-off) (by omega);rw[hcp']at a3;simp only[AQ1,AQ9,AQ5 (show jj-off<(Br p).length by omega),AR5,AR2]at a3⊢;rw[show l*k+jj-(l*k+off)=jj-off by omega];refine⟨?_,?_⟩
        .have:=(RepA.toP a3.1).keeps hk
         simpa[AQ0]using this
        simpa[AQ0]using a3.2
       rw[Lm a1,<- B8];refine⟨?_,hold.2⟩;by_cases u:l=i
       .subst u;simp only[Lo];rw[T9 _ _ _ _ _ (by rw[a5 l hl];omega),Lm (by omega)];exact hold.1.keeps hk
       simp only[u,Lp];exact hold.1.keeps hk)
     exact⟨_,by simp[Instr.storeAt,Instr.sureAddr,a0],h1,h2,h3⟩
    cases r
   .rename_i x1 e n' jr i0 x0 hj;split at r
    .rename_i y' hy;split at r
     .rename_i hm1;obtain⟨rfl,rfl,rfl⟩:=hm1;cases r;obtain⟨hin,rfl⟩:=hc;obtain⟨rv,g1,g2,hh⟩:=h.hp.holds j _ hj;rw[hr]at hh;have hone:=DV d;rw[hy]at d;have hv1:vx.cells.size=1:=d.1;have hv0:=d.2 0 (by simp);rcases hh with⟨hn,_⟩ | ⟨b',cap',c,o,q,a4,s,hmax,hrow,hx⟩
      .cases hn
      cases o;rw[AV9,AX6];have a0:=DW (P:=P) (t:=t) (off:=i) (v:=vx) hm hv1 q (by omega) hone;have hjr:j≠jr:=by rintro rfl;rw[hr]at g2;cases g2
      obtain⟨h1,h2,h3⟩:=h.modify (ob:=.fam e n jr (some (i,y'))) hj (b:=b) (by simp[D6,K9,hr]) (fun _=>trivial) (fun b' o=>by simp[D6,K9,hr]at o;exact o.symm)
       (w':=w.setRow b (splice c.toList (i) vx.cells.toList).toArray) (by simp) (fun b' o=>setRow_other w b b' _ o) (fun hk=>by
        have z:∀l,Lv (A1 st.regs) l->Lv (A1 (ins j (.fam e n jr (some (i,y'))) st.regs)) l/\rho l=rho l:=by
         intro l hl;refine⟨?_,rfl⟩;simp only[Lv,A2];split
         .rfl
         exact hl
        have hget:∀l,l<n->((splice c.toList (i) vx.cells.toList).toArray).getD l undef=if l=i then vx.cells.getD 0 undef else c.getD l undef:=by
         intro l hl;have e1:((splice c.toList (i) vx.cells.toList).toArray).getD l undef=(splice c.toList (i) vx.cells.toList).getD l undef:=by simp[AQ0,AQ1]
         rw[e1,T9 _ _ _ _ _ (by simp[hv1];omega)];by_cases u:l=i
         .subst u;rw[Ll (by simp[hv1]),Ll rfl,B8];simp
         rw[Lm (by simp[hv1];omega),Lm u,<- B8]
        refine⟨rv,(z jr g1).1,g2,.inr ⟨b,cap,_,hr,setRow_heap w b c _ e _ q,a4,?_,hmax,fun l hl=>?_,?_⟩⟩
        .rw[AX3,H0 _ _ _ (by simp[hv1];omega)];simpa using s
        .rw[hget l hl];by_cases u:l=i
         .subst u;rw[Ll rfl];exact⟨hv0.2,fun e=>Ln rfl e⟩
         rw[Lm u];exact⟨(hrow l hl).1,fun _=>(hrow l hl).2 (by simp;exact fun e=>u e.symm)⟩
        show RepA _ _ _ rho _ y';rw[hget i hin,Ll rfl]
        have:=hv0.1
        simp only[Bc8]at this;exact this.keeps hk z)
      exact⟨_,by simp[Instr.storeAt,Instr.sureAddr,a0],h1,h2,h3⟩
     cases r
    cases r
   cases r
  |_=>simp at r
 cases r
theorem Ah8 (h:Sat C st a w rho){t:TypeId}{x y:Operand}(g:o.op=.store t x y)(b:aop P st.env st.regs d o.op=some out)(hc:D0 out.cond):OpOk P C o st a w rho out:=by
 rw[g]at b;simp only[aop]at b;split at b
 .rename_i c R' hs;cases b;obtain⟨w',f,h1,i⟩:=LY h (h.aev x) (h.aev y) hs hc;exact⟨.skip,undef,w',rho,by simp[execOp,g,f],.inr ⟨rfl,rfl⟩,h1,i,.p _ _ (.v _)⟩
 cases b
end
end Go.AM
namespace Go.AM
section
variable {P:Program}{C:Ctx}{st:St}{a:Act}{w:World}{rho:Nat->Value}{o:Oper}{out:Out}{d:Nat}
theorem NK (l:List UInt8):(⟨l.toArray⟩:ByteArray).size=l.length:=by show l.toArray.size=_;simp
theorem Bt {Pi:Nat->Nat->Prop}{live:Nat->Prop}{v:Value}{x:AV}{n:Int}(h:RepA w Pi live rho v x)(a:asInt x=some n):∃k,v=.int k n:=by
 unfold asInt at a;split at a
 .rename_i k m;cases a;exact⟨k,h.toP.toInt⟩
 cases a
theorem Ge {t:TypeId}{fs:List (Nat×TypeId)}{f off:Nat}{ft:TypeId}(hk:tk P t=some (.struct fs))(a:fs[f]? = some (off,ft)) :∃fa:Array Field,∃fd:Field,P.underlying t=some (.struct fa)/\fa[f]? = some fd/\fd.offset=off/\fd.type=ft:=by obtain⟨fa,b,rfl⟩:=EE hk;simp only[AQ9,AU7,AS2,AR3]at a;obtain⟨fd,h1,c,d⟩:=a;exact⟨fa,fd,b,h1,c,d⟩
theorem Sb (h:Sat C st a w rho){t:TypeId}{x:Operand}{f:Nat}(ho:o.op=.fieldAddr t x f)(s:aop P st.env st.regs d o.op=some out):OpOk P C o st a w rho out:=by
 rw[ho]at s;simp only[aop]at s;split at s
 .rename_i y hy;cases s;have hx:=h.aev x;unfold As1 at hy;split at hy
  .rename_i fs hk;split at hy
   .rename_i off ft hf;obtain⟨fa,fd,hu,u,rfl,rfl⟩:=Ge hk hf;split at hy
    .cases hy
    .rename_i m z hm;have a0:(m=0)=False:=by refine propext ⟨fun e=>?_,False.elim⟩;subst e;exact z rfl
     have r:∀ad:Addr,(fieldPlace ad fd).run P w=.ok (ad.add fd.offset) w:=by intro ad;simp[fieldPlace,Ht w hm,a0]
     have g:∀ad:Addr,a.eval x=.pointer (some ad)->(execOp a.eval o).run P w=.ok (.value (.pointer (some (ad.add fd.offset)))) w:=by intro ad hv;simp[execOp,ho,Instr.fieldAt,AE w hu,u,hv,Instr.sureAddr,r]
     split at hy
     .rename_i j oo l;cases hy;rw[l]at hx;generalize q:a.eval x=v at hx;cases hx with
      |reg j off b hl hr=>refine OpOk.pure h (g _ q) ?_;rw[AW6];exact .reg j _ b hl hr
     .rename_i j k i oo l;cases hy;rw[l]at hx;generalize q:a.eval x=v at hx;cases hx with
      |elt j k i off b n cap hl hr=>refine OpOk.pure h (g _ q) ?_;rw[AW6,Bd1];exact .elt j k i _ b n cap hl hr
     .rename_i cs l;cases hy;rw[l]at hx;have hx:=hx.toP;generalize q:a.eval x=v at hx;cases hx with
      |ptr b off cs c hc hrep=>
       refine OpOk.pure h (g _ q) ?_;rw[AW6];refine .p _ _ (.ptr b _ _ (fun j=>c (fd.offset+j)) (fun j hj=>?_) fun j hj=>?_)
       .simp only[AS9]at hj
        have:=hc (fd.offset+j) (by omega)
        rwa [<- Bd1]at this
       simp only[AS9]at hj
       have:=hrep (fd.offset+j) (by omega)
       simpa[AQ1,AX1]using this
     cases hy
    cases hy
   cases hy
  cases hy
 cases s
theorem OJ {Pi:Nat->Nat->Prop}{live:Nat->Prop}{t:TypeId}{vs:Array Value}{cs:List PV}{off:Nat}{x:AV}{c:List Prop}(hs:vs.size=cs.length)(h1:∀i,i<cs.length->(vs.getD i undef).oneCell' = true)
 (h:∀i,i<cs.length->RepP w Pi (vs.getD i undef) (cs.getD i default)) (b:ldP P t (cs.drop off)=some (c,x)) (hc:D0 c):∃v,(part t vs off).run P w=.ok v w/\RepA w Pi live rho v x:=by
 unfold ldP at b;split at b
 .rename_i k n hk hn;split at b
  .rename_i a;cases b;simp only[D0,AS9]at hc;by_cases f:n=0
   .subst f;refine⟨.agg (vs.extract off off),by simp[part,H7 w hk,a,Ht w hn],.p _ _ (.agg _ _ (by simp;omega) (fun i d=>by simp at d) fun i d=>by simp at d)⟩
   refine⟨.agg (vs.extract off (off+n)),by simp[part,H7 w hk,a,Ht w hn],.p _ _ (.agg _ _ (by simp;omega) (fun i d=>?_) fun i d=>?_)⟩
   .simp only[AY7,AS9]at d
    have:=h1 (off+i) (by omega)
    simpa[AQ0,Bb5,show i<min (off+n) vs.size-off by omega,show off+i<vs.size by omega]using this
   simp only[AY7,AS9]at d
   have:=h (off+i) (by omega)
   simpa[AQ0,Bb5,show i<min (off+n) vs.size-off by omega,show off+i<vs.size by omega,show off+i<cs.length by omega,AQ1,Bb6,show i<n by omega,AX1]using this
  rename_i a;split at b
  .rename_i y r j;cases b;have g:off<cs.length:=by
    have:=congrArg List.length j
    simp only[AS9,AT5]at this;omega
   have hy:cs.getD off default=y:=by
    have:=congrArg (fun l=>l.head?) j
    simp only[List.head?_drop,List.head?_cons]at this;simp[AQ1,this]
   have:=h off g
   rw[hy]at this;refine⟨vs.getD off undef,?_,.p _ _ this⟩;simp[part,H7 w hk,a,AQ0,show off<vs.size by omega]
  cases b
 cases b
theorem Ul {Pi:Nat->Nat->Prop}{live:Nat->Prop}{t:TypeId}{vs:Array Value}{cs:List AV}{off:Nat}{x:AV}(hs:vs.size=cs.length)(h1:∀i,i<cs.length->(vs.getD i undef).oneCell' = true)
 (h:∀i,i<cs.length->RepA w Pi live rho (vs.getD i undef) (cs.getD i .top)) (a:ldA P t (cs.drop off)=some x):∃v,(part t vs off).run P w=.ok v w/\RepA w Pi live rho v x:=by
 have hl:RepL w Pi live rho (fun i=>vs.getD (off+i) undef) (cs.drop off):=fun i c=>by
  simp only[AS9]at c;have e:(cs.drop off).getD i .top=cs.getD (off+i) .top:=by simp[AQ1,AX1]
  rw[e];exact⟨h (off+i) (by omega),h1 (off+i) (by omega)⟩
 unfold ldA at a;split at a
 .rename_i k n hk hn;split at a
  .rename_i b;split at a
   .rename_i hle;cases a;simp only[AS9]at hle;by_cases f:n=0
    .subst f;refine⟨.agg (vs.extract off off),by simp[part,H7 w hk,b,Ht w hn],?_⟩;exact (hl.take 0).mkAgg (vs:=vs.extract off off) (by simp;omega) (fun i c=>by simp at c)
    refine⟨.agg (vs.extract off (off+n)),by simp[part,H7 w hk,b,Ht w hn],(hl.take n).mkAgg (by simp;omega) (fun i c=>?_)⟩;simp only[AY7,AS9]at c;simp[AQ0,Bb5,show i<min (off+n) vs.size-off by omega,show off+i<vs.size by omega]
   cases a
  rename_i b;cases d:cs.drop off with
  |nil=>rw[d]at a;cases a
  |cons y r=>
   rw[d]at a;cases a;have j:off<cs.length:=by
    have:=congrArg List.length d
    simp only[AS9,AT5]at this;omega
   have g:=(hl 0 (by simp only[AS9];omega)).1;rw[d]at g;refine⟨vs.getD off undef,?_,by simpa using g⟩;simp[part,H7 w hk,b,AQ0,show off<vs.size by omega]
 cases a
theorem Ah9 (h:Sat C st a w rho){t:TypeId}{x:Operand}{f:Nat}(n:o.op=.field t x f)(m:aop P st.env st.regs d o.op=some out)(hc:D0 out.cond):OpOk P C o st a w rho out:=by
 rw[n]at m;simp only[aop]at m;split at m
 .rename_i c y hy;cases m;have hx:=h.aev x;unfold As2 at hy;split at hy
  .rename_i fs cs hk g;rw[g]at hx;have hx:=hx.toP;generalize i:a.eval x=v at hx;cases hx with
   |agg vs cs hs h1 hrep=>
    split at hy
    .rename_i off ft q;obtain⟨fa,fd,r,j,rfl,rfl⟩:=Ge hk q;obtain⟨u,l,s⟩:=OJ (rho:=rho) (live:=Lv (A1 st.regs)) hs h1 hrep hy hc;exact OpOk.pure h (by simp[execOp,n,Instr.field,AE w r,j,i,asAgg,l]) s
    cases hy
  .rename_i fs cs hk g;rw[g]at hx;generalize i:a.eval x=v at hx;cases hx with
   |agr vs cs hs h1 hrep=>
    split at hy
    .rename_i off ft q;split at hy
     .rename_i b hb;cases hy;obtain⟨fa,fd,r,j,rfl,rfl⟩:=Ge hk q;obtain⟨u,l,s⟩:=Ul (rho:=rho) (live:=Lv (A1 st.regs)) hs h1 hrep hb;exact OpOk.pure h (by simp[execOp,n,Instr.field,AE w r,j,i,asAgg,l]) s
     cases hy
    cases hy
  cases hy
 cases m
theorem Um (h:Sat C st a w rho){x:Operand}(c:o.op=.nilCheck x)(b:aop P st.env st.regs d o.op=some out):OpOk P C o st a w rho out:=by
 rw[c]at b;simp only[aop]at b;split at b
 .rename_i hn;cases b;have hx:=h.aev x;refine OpOk.pure (v:=a.eval x) h ?_ hx;simp only[execOp,c];generalize f:a.eval x=v at hx⊢;generalize g:aev st.env x=y at hn hx;cases hx with
  |p _ z hz=>
   cases hz with
   |v z=>simp only[Ag6]at hn;split at hn<;>simp_all
   |_=>first|rfl|simp[Ag6]at hn
  |_=>first|rfl|simp[Ag6]at hn
 cases b
theorem Xu (h:Sat C st a w rho){x:Operand}{i:Nat}(g:o.op=.extract x i)(b:aop P st.env st.regs d o.op=some out):OpOk P C o st a w rho out:=by
 rw[g]at b;simp only[aop]at b;split at b
 .rename_i l c;split at b
  .rename_i y hy;cases b;have hx:=h.aev x;rw[c]at hx;generalize f:a.eval x=v at hx;cases hx with
   |tup vs l hs hl=>
    obtain⟨j,rfl⟩:=AR7.1 hy
    have:=hl i j
    refine OpOk.pure (v:=vs.getD i undef) h ?_ (by simpa[AQ1,j]using this);simp[execOp,g,Instr.extract,f,AQ0,show i<vs.size by omega]
  cases b
 cases b
theorem Lg (h:Sat C st a w rho){t:TypeId}{x:Operand}(g:o.op=.makeInterface t x)(b:aop P st.env st.regs d o.op=some out):OpOk P C o st a w rho out:=by
 rw[g]at b;simp only[aop]at b;split at b
 .rename_i y R' k i hk;obtain⟨h1,j,l⟩:=Dk h (h.aev x) i;obtain⟨dd,m,c⟩:=BA hk;split at b
  .cases b
  rename_i f;cases b;refine⟨_,.iface t (a.eval x),w,rho,?_,.inl rfl,h1,l,.p _ _ (.iface t _ _ j)⟩
  have:∀ms,dd ≠ .interface ms:=by rintro ms rfl;exact f ms.size (by simpa[Ud]using c.symm)
  cases dd<;>first|(simp[execOp,g,Instr.makeInterface,AE w m];done)|exact Ln rfl (this _)
 cases b
theorem Un (h:Sat C st a w rho){f:FuncId}{x y:Array Operand}(g:o.op=.makeFunc (.func f) x y)(c:aop P st.env st.regs d o.op=some out):OpOk P C o st a w rho out:=by
 rw[g]at c;simp only[aop,AQ2]at c;subst c;refine OpOk.pure (v:=.func (.func f) (x.map a.eval) (y.map a.eval)) h (by simp[execOp,g,Instr.makeFunc]) ?_;refine .clo f _ _ _ _ (by simp) (by simp) (fun i b=>?_) fun i b=>?_
 .simp only[AU1,AU5]at b
  have:=h.aev x[i]
  simpa[AQ0,AQ1,b]using this
 simp only[AU1,AU5]at b
 have:=h.aev y[i]
 simpa[AQ0,AQ1,b]using this
theorem Xv (h:Sat C st a w rho){t:TypeId}(g:o.op=.makeMap t none)(c:aop P st.env st.regs d o.op=some out):OpOk P C o st a w rho out:=by
 rw[g]at c;simp only[aop]at c;split at c
 .rename_i hn;cases c;obtain⟨h1,j,l⟩:=h.fresh (Cc d 0) hn (.map []) (.map (some w.heap.size)) (w':=w.alloc (.map #[] 0)) (by simp)
   (fun b hb=>heap_alloc_old w _ b hb) (fun b hb=>by simp[D6,K9]at hb;omega) (fun hk=>⟨w.heap.size,#[],0,rfl,heap_alloc_new w _,rfl,fun i f=>by simp at f,rfl,fun i f=>by simp at f⟩)
  refine⟨_,_,_,_,?_,.inl rfl,h1,⟨j,l⟩,.mref _ w.heap.size (by simp[Lv,A2]) (by simp)⟩;simp[execOp,g,Instr.makeMap]
 cases c
theorem Ay2 (h:Sat C st a w rho){op:UnOp}{t:TypeId}{x:Operand}(i:o.op=.unOp op t x)(g:aop P st.env st.regs d o.op=some out):OpOk P C o st a w rho out:=by
 rw[i]at g;simp only[aop]at g;split at g
 .rename_i r f;cases g;have hx:=h.aev x;unfold un at f;split at f
  .rename_i b c;cases f;rw[c]at hx;exact OpOk.pure (v:=.bool !b) h (by simp[execOp,i,Op.unary,hx.toP.toV]) (.p _ _ (.v _))
  .rename_i b c;cases f;rw[c]at hx;exact OpOk.pure (v:=.bool !b) h (by simp[execOp,i,Op.unary,hx.toP.toBool]) (.p _ _ (.bb _))
  .rename_i k n c;cases f;rw[c]at hx;exact OpOk.pure (v:=.int k (k.wrap (0-n))) h (by simp[execOp,i,Op.unary,hx.toP.toInt,Op.intArith]) (.p _ _ (.v _))
  cases f
 cases g
theorem AI6 (h:Sat C st a w rho){c:Call}(hc:c.callee=.builtin .len)(ho:o.op=.call c)(u:aop P st.env st.regs d o.op=some out):OpOk P C o st a w rho out:=by
 obtain⟨callee,args,types⟩:=c;simp only at hc;subst hc;rw[ho]at u;simp only[aop]at u;split at u
 .rename_i x t q i;split at u
  .rename_i n hn;cases u;obtain⟨args⟩:=args;obtain⟨types⟩:=types;simp only at q i;subst q;subst i;have hx:=h.aev x;refine OpOk.pure (v:=.int .i64 n) h ?_ (.p _ _ (.v _));have key:(Builtin.len_ #[t] o.type #[a.eval x]).run P w=.ok (.int .i64 n) w:=by
    unfold YG at hn;split at hn
    .rename_i l hk g;cases hn;rw[g]at hx;simp[Builtin.len_,AE w (Hs hk),hx.toP.toStr,goInt,NK]
    .rename_i e nn k m f hk g;cases hn;rw[g]at hx;have hx:=hx.toP;generalize s:a.eval x=v at hx;cases hx<;>simp[Builtin.len_,AE w (G9 hk),goInt]
    .rename_i hk g;cases hn;rw[g]at hx;rw[hx.toP.toV];simp[Builtin.len_,AE w (G9 hk),goInt]
    .rename_i hk g;cases hn;rw[g]at hx;rw[hx.toP.toV];simp[Builtin.len_,AE w (KD hk),goInt]
    .rename_i j hk g;rw[g]at hx;split at hn
     .rename_i e k m f vw hj;cases hn;generalize s:a.eval x=v at hx;cases hx with
      |vec j base n' cap hl hr=>obtain⟨b',c',z⟩:=Iw (h.hp.holds j _ hj);rw[hr]at z;cases z;simp[Builtin.len_,AE w (G9 hk),goInt]
     .rename_i e m jr x0 hj;cases hn;generalize s:a.eval x=v at hx;cases hx with
      |vec j base n' cap hl hr=>
       obtain⟨rv,_,_,hh⟩:=h.hp.holds j _ hj;rw[hr]at hh;rcases hh with⟨hs,rfl⟩ | ⟨b,cap',c,hb',_⟩
       .cases hs;simp[Builtin.len_,AE w (G9 hk),goInt]
       cases hb';simp[Builtin.len_,AE w (G9 hk),goInt]
     cases hn
    .rename_i j m hk g;cases hn;rw[g]at hx;generalize s:a.eval x=v at hx;cases hx;simp[Builtin.len_,AE w (G9 hk),goInt]
    .rename_i j m hk g;cases hn;rw[g]at hx;generalize s:a.eval x=v at hx;cases hx;simp[Builtin.len_,AE w (G9 hk),goInt]
    .rename_i j hk g;rw[g]at hx;split at hn
     .rename_i es hj;cases hn;generalize s:a.eval x=v at hx;cases hx with
      |mref j r hl hr=>
       have hh:=h.hp.holds j _ hj;rw[hr]at hh;obtain⟨b,ents,clock,hb,y,hsz,_⟩:=hh;cases hb;have hg:(getObj r).run P w=.ok (.map ents clock) w:=by simp[getObj,Sem.run,y]
       simp[Builtin.len_,AE w (KD hk),goInt,hg,hsz]
     cases hn
    .rename_i n' e hk;cases hn;simp[Builtin.len_,AE w (LW hk),goInt]
    cases hn
   simp[execOp,ho,resolve,invoke,builtin,key]
  cases u
 cases u
theorem Sc (h:Sat C st a w rho){c:Call}(hc:c.callee=.builtin .min \/ c.callee=.builtin .max)(g:o.op=.call c)(f:aop P st.env st.regs d o.op=some out):OpOk P C o st a w rho out:=by
 obtain⟨callee,args,types⟩:=c;simp only at hc;rw[g]at f;rcases hc with hc|hc<;>subst hc<;>simp only[aop]at f<;>split at f<;>try cases f
 all_goals
  rename_i k x l y b;obtain⟨args⟩:=args;rcases args with _|⟨p,_|⟨q,_|⟨r,s⟩⟩⟩<;>simp only[AR9,AY3,AV7,and_true,and_false,reduceCtorEq]at b
  have hp:=h.aev p;have i:=h.aev q;rw[b.1]at hp;rw[b.2]at i;refine OpOk.pure h ?_ (.p _ _ (.v _));simp[execOp,g,resolve,invoke,builtin,Builtin.min_,Builtin.max_,Builtin.min2,Builtin.max2,hp.toP.toInt,i.toP.toInt]
end
end Go.AM
namespace Go.AM
theorem bget (l:List UInt8)(n:Nat):(⟨l.toArray⟩:ByteArray)[n]? = l[n]?:=by
 by_cases h:n<l.length
 .rw[getElem?_pos _ _ (by rw[NK];exact h),AQ5 h];rfl
 rw[getElem?_neg _ _ (by rw[NK];exact h),AU8 (by omega)]
theorem Ai0 (l:List UInt8)(i j:Nat):(⟨l.toArray⟩:ByteArray).extract i j=⟨((l.take j).drop i).toArray⟩:=by apply Bg3;simp[ByteArray.data_extract,List.drop_take]
theorem Ay3 (x y:List UInt8):(⟨x.toArray⟩:ByteArray)++⟨y.toArray⟩=⟨(x++y).toArray⟩:=by apply Bg3;simp
def AU (c:Nat->Nat->Value)(n k:Nat):List Value:=(List.range (n*k)).map fun p=>c (p / k) (p % k)
theorem H2 (c:Nat->Nat->Value)(n k:Nat):(AU c n k).length=n*k:=by simp[AU]
theorem Zj (c:Nat->Nat->Value){n k i j:Nat}(a:i<n)(hj:j<k):(AU c n k).getD (i*k+j) undef=c i j:=by
 have h:=G3 a hj;have h1:(i*k+j) / k=i:=by rw[AY2,Bh5 (by omega),AY8 hj];omega
 have b:(i*k+j) % k=j:=by rw[AY2,Bb7,AX7 hj]
 simp[AU,AQ1,h,h1,b]
theorem LZ {c:Nat->Nat->Value}{n k p:Nat}{u:Value}(h:(AU c n k)[p]? = some u):p / k<n/\p % k<k/\p=p / k*k+p % k/\u=c (p / k) (p % k):=by
 obtain⟨hp,rfl⟩:=AR7.1 h;rw[H2]at hp;have hk:0<k:=by
  rcases Nat.eq_zero_or_pos k with rfl|h
  .simp at hp
  exact h
 refine⟨Bi3 (by rwa [AY2]at hp),Bj9 _ hk,(Nat.div_add_mod' p k).symm,by simp[AU]⟩
section
variable {P:Program}{C:Ctx}{st:St}{a:Act}{w:World}{rho:Nat->Value}{o:Oper}{out:Out}{d:Nat}
theorem Ma (h:Sat C st a w rho){v:Value}{x:AV}(hv:RS C st w rho v x){k n:Nat}{g:Nat->List PV}(o:elems st.regs k x=some (n,g)){tx:TypeId}{k2:TK}(ht:tk P tx=some k2)
 (hk2:srcK k2=true) :
 ∃c:Nat->Nat->Value,Src P k tx v n (AU c n k) w/\(∀i,i<n->(g i).length=k)/\∀i j,i<n->j<k->RepP w (PiS C st rho) (c i j) ((g i).getD j default)/\(c i j).oneCell' = true:=by
 have s:(∃e',P.underlying tx=some (.slice e')) \/ P.underlying tx=some .string:=by
  cases k2<;>simp[srcK]at hk2
  .exact .inr (Hs ht)
  exact .inl ⟨_,G9 ht⟩
 have sliceSrc:∀(ad:Addr) (cap:Nat) (c:Nat->Nat->Value),(∀i j,i<n->j<k->w.cell? (ad.add (i*k+j))=some (c i j)/\(c i j).oneCell' = true)->Src P k tx (.slice (some ad) n cap) n (AU c n k) w:=by
  intro ad cap c hc;have a1:∀p u,(AU c n k)[p]? = some u->w.cell? (ad.add p)=some u:=by
   intro p u hp;obtain⟨h1,h2,h3,rfl⟩:=LZ hp;rw[h3]
   have:=(hc (p / k) (p % k) h1 h2).1
   rwa [<- h3]at this⊢
  refine⟨s,fun _=>rfl,run_firstCells_some w k n ad n cap _ (H2 _ _ _) a1,run_firstCells_some w.drew k n ad n cap _ (H2 _ _ _) (by simpa using a1),H2 _ _ _,?_⟩;intro u hu;obtain⟨p,hp⟩:=Bi4 hu;obtain⟨h1,h2,h3,rfl⟩:=LZ hp;exact (hc _ _ h1 h2).2
 have nilSrc:∀cap,n=0->∀c,Src P k tx (.slice none 0 cap) n (AU c n k) w:=by
  intro cap hn c;subst hn;refine⟨s,fun _=>rfl,?_,?_,by simp[AU],by simp[AU]⟩
  .simpa[AU]using run_firstCells_none (P:=P) w k 0 0 cap
  simpa[AU]using run_firstCells_none (P:=P) w.drew k 0 0 cap
 cases hv with
 |p _ y hy=>
  cases hy with
  |v y=>
   simp only[elems]at o;split at o<;>try cases o
   .rename_i a2;cases a2;exact⟨fun _ _=>undef,nilSrc 0 rfl _,fun i d=>Ln d (by omega),fun i j d=>Ln d (by omega)⟩
   all_goals (rename_i a2;cases a2)
  |str l=>
   simp only[elems]at o;split at o
   .rename_i hk1;cases o;subst hk1;have a5:P.underlying tx=some .string->Src P 1 tx (.string ⟨l.toArray⟩) l.length (AU (fun i _=>.int .u8 ((l.getD i 0).toNat:Nat)) l.length 1) w:=by
     intro hs
     have:=Src.ofString (P:=P) w hs ⟨l.toArray⟩
     rw[NK]at this;have e:byteCells ⟨l.toArray⟩=AU (fun i _=>.int .u8 ((l.getD i 0).toNat:Nat)) l.length 1:=by
      apply Bg0;intro i;simp only[byteCells,AU,AQ9,AV9];by_cases d:i<l.length
      .simp[d]
      simp[d]
     rwa [e]at this
    refine⟨fun i _=>.int .u8 ((l.getD i 0).toNat:Nat),?_,fun i d=>rfl,fun i j d hj=>?_⟩
    .rcases s with⟨e',hs⟩ | hs
     .refine⟨.inl ⟨e',hs⟩,fun w'=>?_,?_,?_,H2 _ _ _,?_⟩
      .have hx:=Hs (P:=P) (t:=tx);simp[Builtin.lenOf,NK]
      .have:=firstCells_string (P:=P) ⟨l.toArray⟩ w
       rw[NK]at this;rw[this];congr 2;apply Bg0;intro i;simp only[byteCells,AU,AQ9,AV9,Bf0];by_cases d:i<l.length
       .simp[d]
       simp[d]
      .have:=firstCells_string (P:=P) ⟨l.toArray⟩ w.drew
       rw[NK]at this;rw[this];congr 2;apply Bg0;intro i;simp only[byteCells,AU,AQ9,AV9,Bf0];by_cases d:i<l.length
       .simp[d]
       simp[d]
      intro u hu;obtain⟨p,hp⟩:=Bi4 hu;obtain⟨_,_,_,rfl⟩:=LZ hp;rfl
     exact a5 hs
    obtain rfl:j=0:=by omega
    exact⟨.v _,rfl⟩
   cases o
  |slnil k' f=>
   simp only[elems]at o;split at o
   .rename_i a6;cases o;exact⟨fun _ _=>undef,nilSrc 0 rfl _,fun i d=>Ln d (by omega),fun i j d=>Ln d (by omega)⟩
   cases o
  |sl nn b off cap k' n' f c hn r hc q sp hsp=>
   simp only[elems]at o;split at o
   .rename_i a6;cases o;subst a6;refine⟨c,sliceSrc _ _ _ (fun i j d hj=>?_),r,fun i j d hj=>⟨q i j d hj,(hc i j d hj).2.2⟩⟩;obtain rfl:=hsp (by omega);rw[AW6,<- Bd1];exact⟨(hc i j d hj).1,(hc i j d hj).2.2⟩
   cases o
  |_=>simp[elems]at o
 |vec j base n' cap hl hr=>
  simp only[elems]at o;split at o
  .rename_i e m n'' f vw hj;split at o
   .rename_i hm;cases o;subst hm;have hh:=h.hp.holds j _ hj;rw[hr]at hh;rcases hh with⟨hn,rfl⟩ | ⟨b,cap',cc,a3,z,a0,a4,hmax,r,q⟩
    .cases hn;exact⟨fun _ _=>undef,nilSrc 0 rfl _,fun i d=>Ln d (by omega),fun i j d=>Ln d (by omega)⟩
    cases a3;have hle:n*m<=cc.size:=by rw[a4];exact AS1 m a0
    refine⟨fun i j=>cc.getD (i*m+j) undef,sliceSrc _ _ _ (fun i j d hj=>?_),r,q⟩;rw[AW6,AT6]
    have:=G3 d hj
    exact⟨E2 z (by omega),(q i j d hj).2⟩
   cases o
  cases o
 |vecp j mm base n' cap hl hr hmn=>
  simp only[elems]at o;split at o
  .rename_i e m n'' f vw hj;split at o
   .rename_i hm;cases o;subst hm;have hh:=h.hp.holds j _ hj;rw[hr]at hh;rcases hh with⟨hn,rfl⟩ | ⟨b,cap',cc,a3,z,a0,a4,hmax,r,q⟩
    .cases hn;obtain rfl:mm=0:=by omega
     exact⟨fun _ _=>undef,nilSrc 0 (by simp) _,fun i d=>Ln d (by omega),fun i j d=>Ln d (by omega)⟩
    cases a3;rw[AY1 hmn]at *;have hle:n' * m<=cc.size:=by rw[a4];exact AS1 m a0
    refine⟨fun i j=>cc.getD (i*m+j) undef,sliceSrc _ _ _ (fun i j d hj=>?_),fun i d=>r i (by omega),fun i j d hj=>q i j (by omega) hj⟩;rw[AW6,AT6]
    have:=G3 (show i<n' by omega) hj
    exact⟨E2 z (by omega),(q i j (by omega) hj).2⟩
   cases o
  cases o
 |_=>simp[elems]at o
end
end Go.AM
namespace Go.AM
section
variable {P:Program}{C:Ctx}{st:St}{a:Act}{w:World}{rho:Nat->Value}{o:Oper}{out:Out}{d:Nat}
theorem Sat.moved (h:Sat C st a w rho){j jn:Nat}{oj:Obj}(hj:A1 st.regs j=some oj)(a5:1000<=jn)(hn:A1 st.regs jn=none)(ob:Obj)(l:Value){w' : World}(a0:w.heap.size<=w'.heap.size)
 (o:∀b,b<w.heap.size->¬D6 (rho j) oj b->w'.heap[b]? = w.heap[b]?)
 (hb:∀b,D6 l ob b->D6 (rho j) oj b \/ w.heap.size<=b)
 (q:∀b off v,D6 (rho j) oj b->¬Prv C.X (A1 st.regs) rho b off->w.cell? ⟨b,off,none⟩=some v->w'.cell? ⟨b,off,none⟩=some v/\(D6 l ob b->¬Hr ob off))
 (hh:Keeps w (PiS C st rho) w' (Prv C.X (A1 (ins jn ob (ins j .dead st.regs))) (fun i=>if i=jn then l else rho i)) ->
  HoldsO w' (Prv C.X (A1 (ins jn ob (ins j .dead st.regs))) (fun i=>if i=jn then l else rho i)) (Lv (A1 (ins jn ob (ins j .dead st.regs)))) (fun i=>if i=jn then l else rho i) l ob) (hy:∀r b,ob ≠ .yld r b:=by intro _ _ h;cases h) (x:Ext w w':=by exact⟨rfl,rfl⟩) :
 Sat C { st with regs:=ins jn ob (ins j .dead st.regs) } a w' (fun i=>if i=jn then l else rho i)/\Kp C st.regs (ins jn ob (ins j .dead st.regs)) w w' rho (fun i=>if i=jn then l else rho i):=by
 have s:jn≠j:=by rintro rfl;rw[hn]at hj;cases hj
 have m:∀i,Lv (A1 st.regs) i->Lv (A1 (ins jn ob (ins j .dead st.regs))) i/\(if i=jn then l else rho i)=rho i:=by
  intro i c;have e:i≠jn:=by rintro rfl;simp[Lv,hn]at c
  refine⟨?_,by simp[e]⟩;simp only[Lv,A2,Lm (AV5 e)];split
  .rfl
  exact c
 have hR:∀i oi b,A1 (ins jn ob (ins j .dead st.regs)) i=some oi->(i=j \/ i=jn)->D6 (if i=jn then l else rho i) oi b->i=jn/\oi=ob:=by
  intro i oi b c d f;rcases d with rfl|rfl
  .rw[A2,Lm s,A2,Ll rfl]at c;cases c;simp[D6,K9]at f
  rw[A2,Ll rfl]at c;cases c;exact⟨rfl,rfl⟩
 obtain⟨h1,y⟩:=h.step (R':=ins jn ob (ins j .dead st.regs)) (rho':=fun i=>if i=jn then l else rho i) (w':=w') (fun i=>i=j \/ i=jn)
  (fun i c=>by have h1:¬j=i:=fun e=>c (.inl e.symm);have y:¬jn=i:=fun e=>c (.inr e.symm);rw[A2,Lm y,A2,Lm h1])
  m a0
  (fun i c g=>by
   by_cases e:i=jn
   .omega
   simp only[Lv,A2,Lm (AV5 e)]at g;split at g
   .rename_i e';subst e';simp[Lv,hj]at c
   exact Ln g c)
  (fun i r b c z=>by
   rcases c with rfl|rfl
   .rw[A2,Lm s,A2,Ll rfl]at z;cases z
   rw[A2,Ll rfl]at z;cases z;exact hy r b rfl)
  (fun b n a1=>o b n (a1 j oj (.inl rfl) hj))
  (fun i oi b d c f=>by
   obtain⟨rfl,rfl⟩:=hR i oi b c d f;simp only[Lo]at f;rcases hb b f with h1|h1
   .exact .inl ⟨j,oj,.inl rfl,hj,h1⟩
   exact .inr h1)
  (fun i i' oi oi' b c g u t a2 a3=>(hR i oi b u c a2).1.trans (hR i' oi' b t g a3).1.symm)
  (fun i oi b off v d u f a4 hc=>by
   rcases d with rfl|rfl
   .rw[hj]at u;cases u;obtain⟨h1,y⟩:=q b off v f a4 hc;refine⟨h1,fun i' oi' g t n=>?_⟩;obtain⟨rfl,rfl⟩:=hR i' oi' b t g n;simp only[Lo]at n;exact y n
   rw[hn]at u;cases u)
  (fun hk i oi d c=>by
   rcases d with rfl|rfl
   .rw[A2,Lm s,A2,Ll rfl]at c;cases c;trivial
   rw[A2,Ll rfl]at c;cases c;simp only[Lo];exact hh hk) x
 exact⟨h1,y,m⟩
theorem AW {t tx ty e:TypeId}{i:TypeInfo}{z:Value}(ht:P.underlying t=some (.slice e))(y:P.info? e=some i)(hz:i.zero=some z)(a0:z.cells.size=i.size)(hby:0<i.bytes)
 {x:Value}{n:Nat}{news:List Value}(hs:Src P i.size tx x n news w) {s:Value}{m:Nat}{olds:List Value}{b cap:Nat}{c:Array Value}
 (hv:(s=.slice none 0 0/\m=0/\olds=[]) \/ (s=.slice (some ⟨b,0,none⟩) m cap/\w.heap[b]? = some (.cells c e (0,0))/\m<=cap/\c.size=cap*i.size/\cap<=maxLen/\olds=c.toList.take (m*i.size)))
 (hmax:m+n<=140737488355328) (d:(m+n)*i.bytes<=140737488355328) :
 ∃v' w',(Builtin.append_ #[t,tx] ty #[s,x]).run P w=.ok v' w' /\
  ((s=.slice none 0 0/\v' = .slice none 0 0/\m+n=0/\w' = w) \/
   (∃cap',s=.slice (some ⟨b,0,none⟩) m cap' /\ v' = .slice (some ⟨b,0,none⟩) (m+n) cap/\m+n<=cap/\w' = w.setRow b (splice c.toList (m*i.size) news).toArray) \/
   (∃cap' arr,v' = .slice (some ⟨w.heap.size,0,none⟩) (m+n) cap' /\ w' = w.drew.alloc (.cells arr e)/\m+n<=cap' /\ cap' <= maxLen/\arr.size=cap' * i.size/\∃r,arr.toList=olds++news++r)):=by
 have a1:((m+n:Nat):Int)<=9223372036854775807:=by omega
 have a2:m+n<=maxLen:=by simp only[maxLen];omega
 have grow:∀(base:Option Addr) (old:Nat),s=.slice base m old->old<m+n->olds.length=m*i.size->(Builtin.firstCells i.size m (.slice base m old)).run P w.drew=.ok olds.toArray w.drew ->
  ∃v' w',(Builtin.append_ #[t,tx] ty #[s,x]).run P w=.ok v' w' /\ (∃cap' arr,v' = .slice (some ⟨w.heap.size,0,none⟩) (m+n) cap' /\ w' = w.drew.alloc (.cells arr e)/\m+n<=cap' /\ cap' <= maxLen/\arr.size=cap' * i.size/\∃r,arr.toList=olds++news++r):=by
  intro base old a3 j f a4;subst a3;have hr:=run_append_grow_src (P:=P) w t tx ty e i z ht y hz base m old olds a4 x n news hs j a1 (growslice_fits j d);refine⟨_,_,hr,_,_,rfl,rfl,grownCap_ge w _ _ e,grownCap_le_maxLen w _ _ e a2,?_,(Builtin.zeroCells z.cells (grownCap w (m+n) old e-(m+n))).toList,?_⟩
  .have hge:=grownCap_ge w (m+n) old e;simp only[Array.size_append,AX3,AU4,size_zeroCells,a0,f,hs.newsLen,<- Bc9];congr 1;omega
  simp[Bi7,Bd9]
 rcases hv with⟨rfl,rfl,rfl⟩ | ⟨rfl,hg,a5,l,hcm,rfl⟩
 .by_cases hn:n=0
  .subst hn;refine⟨.slice none 0 0,w,?_,.inl ⟨rfl,rfl,rfl,rfl⟩⟩;have g:news=[]:=AV6 (by simpa using hs.newsLen);subst g;rcases hs.kind with⟨e',hk⟩ | hk<;>simp[Builtin.append_,run_underlying ht,run_underlying hk,sizeOf,typeInfo,y,hs.len,hs.cells]
  obtain⟨v',w',h1,h2⟩:=grow none 0 rfl (by omega) (by simp) (by simpa using run_firstCells_none (P:=P) w.drew i.size 0 0 0);exact⟨v',w',h1,.inr (.inr h2)⟩
 have hle:m*i.size<=c.size:=by rw[l];exact AS1 _ a5
 have f:(c.toList.take (m*i.size)).length=m*i.size:=by simp;omega
 by_cases a:m+n<=cap
 .have q:m*i.size+news.length<=c.size:=by rw[hs.newsLen,l,<- Bc9];exact AS1 _ a
  have v:=run_storeCells_at (P:=P) b (m*i.size) e news 0 c w hg (by simpa using q) hs.one;simp only[AX6]at v;refine⟨.slice (some ⟨b,0,none⟩) (m+n) cap,_,?_,.inr (.inl ⟨cap,rfl,rfl,a,rfl⟩)⟩;rcases hs.kind with⟨e',hk⟩ | hk<;>simp[Builtin.append_,run_underlying ht,run_underlying hk,sizeOf,typeInfo,y,hs.len,a,hs.cells,AW6,v,splice]
 obtain⟨v',w',h1,h2⟩:=grow (some ⟨b,0,none⟩) cap rfl (by omega) f (run_firstCells_some w.drew i.size m ⟨b,0,none⟩ m cap _ f (by
  intro p u hp;rw[Bb6]at hp;split at hp
  .rename_i hpl;rw[AW6,AT6]
   have:=E2 (w:=w) hg (o:=p) (by omega)
   simp only[World.cell?_drew];rw[this];simp[AQ0,show p<c.size by omega]at hp⊢;exact hp
  cases hp))
 exact⟨v',w',h1,.inr (.inr h2)⟩
theorem FJ {l r:List Value}{i:Nat}(h:i<l.length):(l++r).getD i undef=l.getD i undef:=by simp[AQ1,AW4 h]
theorem JD {l r:List Value}{i:Nat}(h:l.length<=i):(l++r).getD i undef=r.getD (i-l.length) undef:=by simp[AQ1,Bc1 h]
theorem Sd {l:List Value}{i n:Nat}(h:i<n):(l.take n).getD i undef=l.getD i undef:=by simp[AQ1,h]
theorem Dq {w:World}{Pi:Nat->Nat->Prop}{k m n:Nat}{f g:Nat->List PV}{arr:Array Value}{olds news r:List Value}(ha:arr.toList=olds++news++r)(b:olds.length=m*k)(hn:news.length=n*k)
 (c:∀i j,i<m->j<k->RepP w Pi (olds.getD (i*k+j) undef) ((f i).getD j default)/\(olds.getD (i*k+j) undef).oneCell' = true)
 (hg:∀i j,i<n->j<k->RepP w Pi (news.getD (i*k+j) undef) ((g i).getD j default)/\(news.getD (i*k+j) undef).oneCell' = true) :
 ∀i j,i<m+n->j<k->RepP w Pi (arr.getD (i*k+j) undef) ((Cb m f g i).getD j default)/\(arr.getD (i*k+j) undef).oneCell' = true:=by
 intro i j l hj;rw[B8,ha];unfold Cb;by_cases a:i<m
 .have:=G3 a hj
  rw[Ll a,Bd9,FJ (by omega)];exact c i j a hj
 rw[Lm a];have h1:m*k<=i*k:=AS1 k (by omega);have o:=G3 (show i-m<n by omega) hj;have d:(i-m)*k=i*k-m*k:=Nat.sub_mul _ _ _;rw[Bd9,JD (by omega),FJ (by omega),b]
 have:=hg (i-m) j (by omega) hj
 rwa [d,show i*k-m*k+j=i*k+j-m*k by omega]at this
theorem Bn {k m n:Nat}{f g:Nat->List PV}(a:∀i,i<m->(f i).length=k)(hg:∀i,i<n->(g i).length=k):∀i,i<m+n->(Cb m f g i).length=k:=by
 intro i b;unfold Cb;split
 .rename_i h;exact a i h
 exact hg _ (by omega)
theorem OK (h:Sat C st a w rho){c:Call}(hf:∀s x e m b,c.args.toList=[s,x]->Im st.regs e m d b (aev st.env s) (aev st.env x)=none)(hc:c.callee=.builtin .append)(ho:o.op=.call c)(he:aop P st.env st.regs d o.op=some out)(hcond:D0 out.cond):OpOk P C o st a w rho out:=by
 obtain⟨callee,args,types⟩:=c;simp only at hc;subst hc;rw[ho]at he;simp only[aop]at he;split at he
 .rename_i s x t t2 hargs htypes;split at he
  .rename_i e k2 ht ht2;split at he
   .rename_i k z hk2 hm hz;split at he
    .rename_i n g l f vw R1 hn hel a5;split at he
     .rename_i hzl;cases he;obtain⟨args⟩:=args;obtain⟨types⟩:=types;simp only at hargs htypes;subst hargs;subst htypes;obtain⟨a3,hmax⟩:=hcond;obtain⟨i,hi,rfl⟩:=LB hm;obtain⟨i',zv,q,hzv,hze⟩:=Ai hz;rw[hi]at q;cases q;have hzs:zv.cells.size=i.size:=by have:=hzl.1;rw[hze]at this;simpa using this
      have hby:CX P e=i.bytes:=by simp[CX,Program.bytesOf,hi]
      rw[hby]at a3;have hbp:0<i.bytes:=by have:=hzl.2;rwa [hby]at this
      obtain⟨cx,hsrc,hgl,hgr⟩:=Ma h (h.aev x) hel ht2 hk2;have a1 : ∀i' j,i' < n->j<i.size->RepP w (PiS C st rho) ((AU cx n i.size).getD (i' * i.size+j) undef) ((g i').getD j default)/\((AU cx n i.size).getD (i' * i.size+j) undef).oneCell' = true:=by intro i' j q hj;rw[Zj cx q hj];exact hgr i' j q hj
      have y:∀v' w',(Builtin.append_ #[t,t2] o.type #[a.eval s,a.eval x]).run P w=.ok v' w' -> (execOp a.eval o).run P w=.ok (.value v') w':=by intro v' w' hr;simp[execOp,ho,resolve,invoke,builtin,hr]
      have hs:=h.aev s;have u:=G9 ht;unfold PQ at a5;split at a5
      .
       rename_i hse;cases a5;rw[hse]at hs;have hv:=hs.toP.toV;obtain⟨v',w',hr,hres⟩:=AW (ty:=o.type) (b:=0) (cap:=0) (c:=#[]) u hi hzv hzs hbp hsrc (s:=a.eval s) (m:=0) (olds:=[]) (.inl ⟨hv,rfl,rfl⟩) hmax a3;rcases hres with⟨_,rfl,h0,rfl⟩ | ⟨cap',a4,_⟩ | ⟨cap',arr,rfl,rfl,hge,hcm,hsz,r,a6⟩
       .obtain⟨h1,h2,h3⟩:=h.fresh (Cc d 0) hn (.vec e i.size (0+n) (Cb 0 (fun _=>[]) g) false) (.slice none 0 0) (w':=w') (AQ8 _) (fun b hb=>rfl) (fun b hb=>by simp[D6,K9]at hb) (fun hk=>.inl ⟨rfl,h0⟩);refine⟨_,_,_,_,y _ _ hr,.inl rfl,h1,⟨h2,h3⟩,?_⟩;exact .vec _ none 0 0 (by simp[Lv,A2]) (by simp)
       .rw[hv]at a4;cases a4
       obtain⟨h1,h2,h3⟩:=h.fresh (Cc d 0) hn (.vec e i.size (0+n) (Cb 0 (fun _=>[]) g) false) (.slice (some ⟨w.heap.size,0,none⟩) (0+n) cap') (w':=w.drew.alloc (.cells arr e)) (by simp) (fun b hb=>heap_alloc_old w.drew _ b hb) (fun b hb=>by simp[D6,K9]at hb;omega)
        (fun hk=>.inr ⟨w.heap.size,cap',arr,rfl,heap_alloc_new w.drew _,hge,hsz,hcm,Bn (fun i hi=>Ln hi (by omega)) hgl,
         Dq a6 (by simp) (H2 _ _ _) (fun i j hi=>Ln hi (by omega)) fun i' j q hj=>⟨(a1 i' j q hj).1.keeps hk,(a1 i' j q hj).2⟩⟩)
       refine⟨_,_,_,_,y _ _ hr,.inl rfl,h1,⟨h2,h3⟩,?_⟩;exact .vec _ _ _ _ (by simp[Lv,A2]) (by simp)
      .
       rename_i j hse;split at a5
       .rename_i e' m' n' f' vw' hj;split at a5
        .rename_i hem;cases a5;obtain⟨rfl,rfl⟩:=hem;rw[hse]at hs;generalize hvs:a.eval s=v at hs;rw[hvs]at y;cases hs with
         |vec j base nn cap hl hrj=>
         have hh:=h.hp.holds j _ hj;rw[hrj]at hh;have hne:nid d 0≠j:=by intro e;rw[e,hj]at hn;cases hn
         rcases hh with⟨hnil,rfl⟩ | ⟨b,cap',c,a0,a2,hncap,a7,a9,hlen,hrep⟩
         .cases hnil;obtain⟨v',w',hr,hres⟩:=AW (ty:=o.type) (b:=0) (cap:=0) (c:=#[]) u hi hzv hzs hbp hsrc (s:=.slice none 0 0) (m:=0) (olds:=[]) (.inl ⟨rfl,rfl,rfl⟩) hmax a3;rcases hres with⟨_,rfl,h0,rfl⟩ | ⟨cap',a4,_⟩ | ⟨cap',arr,rfl,rfl,hge,hcm,hsz,r,a6⟩
          .obtain⟨h1,h2⟩:=h.moved hj (Cc d 0) hn (.vec e' i.size (0+n) (Cb 0 f g) vw) (.slice none 0 0) (w':=w') (AQ8 _) (fun b _ _=>rfl) (fun b hb=>by simp[D6,K9]at hb) (fun b off v hb _ hc=>by simp[D6,K9,hrj]at hb) (fun hk=>.inl ⟨rfl,h0⟩);exact⟨_,_,_,_,y _ _ hr,.inl rfl,h1,h2,.vec _ none 0 0 (by simp[Lv,A2]) (by simp)⟩
          .cases a4
          obtain⟨h1,h2⟩:=h.moved hj (Cc d 0) hn (.vec e' i.size (0+n) (Cb 0 f g) vw) (.slice (some ⟨w.heap.size,0,none⟩) (0+n) cap') (w':=w.drew.alloc (.cells arr e')) (by simp) (fun b hb _=>heap_alloc_old w.drew _ b hb) (fun b hb=>by simp[D6,K9]at hb;omega) (fun b off v hb _ hc=>by simp[D6,K9,hrj]at hb)
           (fun hk=>.inr ⟨w.heap.size,cap',arr,rfl,heap_alloc_new w.drew _,hge,hsz,hcm,Bn (fun i hi=>Ln hi (by omega)) hgl,
            Dq a6 (by simp) (H2 _ _ _) (fun i j hi=>Ln hi (by omega)) fun i' j q hj=>⟨(a1 i' j q hj).1.keeps hk,(a1 i' j q hj).2⟩⟩)
          exact⟨_,_,_,_,y _ _ hr,.inl rfl,h1,h2,.vec _ _ _ _ (by simp[Lv,A2]) (by simp)⟩
         cases a0;have hle:l*i.size<=c.size:=by rw[a7];exact AS1 _ hncap
         obtain⟨v',w',hr,hres⟩:=AW (ty:=o.type) (b:=b) (cap:=cap) (c:=c) u hi hzv hzs hbp hsrc (s:=.slice (some ⟨b,0,none⟩) l cap) (m:=l) (olds:=c.toList.take (l*i.size)) (.inr ⟨rfl,a2,hncap,a7,a9,rfl⟩) hmax a3;have holds:∀i' j,i' < l->j<i.size->RepP w (PiS C st rho) ((c.toList.take (l*i.size)).getD (i' * i.size+j) undef) ((f i').getD j default)/\((c.toList.take (l*i.size)).getD (i' * i.size+j) undef).oneCell' = true:=by intro i' j q hj;rw[Sd (G3 q hj),<- B8];exact hrep i' j q hj
         have hol:(c.toList.take (l*i.size)).length=l*i.size:=by simp;omega
         have hpub:∀off,¬Prv C.X (A1 st.regs) rho b off->vw=true/\off<l*i.size:=by
          intro off hnp;have hnp' : ¬Hr (.vec e' i.size l f vw) off:=fun hp=>hnp (.inr ⟨j,_,hj,by simp[D6,K9,hrj],hp⟩);cases vw
          .exact Ln trivial hnp'
          exact⟨rfl,by simpa[Hr]using hnp'⟩
         rcases hres with⟨a4,_⟩ | ⟨cap'',_,rfl,b0,rfl⟩ | ⟨cap'',arr,rfl,rfl,hge,hcm,hsz,r,a6⟩
         .cases a4
         .have hfit:l*i.size+(AU cx n i.size).length<=c.toList.length:=by rw[H2,AU5,a7,<- Bc9];exact AS1 _ b0
          obtain⟨h1,h2⟩:=h.moved hj (Cc d 0) hn (.vec e' i.size (l+n) (Cb l f g) vw) (.slice (some ⟨b,0,none⟩) (l+n) cap) (w':=w.setRow b (splice c.toList (l*i.size) (AU cx n i.size)).toArray) (by simp)
           (fun b' a0 hnb=>setRow_other w b b' _ (fun e=>hnb (by simp[D6,K9,hrj,e]))) (fun b' a0=>.inl (by simpa[D6,K9,hrj]using a0))
           (fun b' off v a0 hnp a8=>by
            have e:b' = b:=by simp[D6,K9,hrj]at a0;exact a0.symm
            subst e;obtain⟨hvw,hoff⟩:=hpub off hnp;refine⟨?_,fun _=>?_⟩
            .have h1:=E2 (w:=w) a2 (o:=off) (by omega);have h2:=E2 (w:=w.setRow b' (splice c.toList (l*i.size) (AU cx n i.size)).toArray) (setRow_heap w b' c _ e' _ a2) (o:=off) (by rw[AX3,H0 _ _ _ hfit];simp;omega);rw[h2,<- a8,h1,B8,B8];congr 1;show (splice c.toList (l*i.size) (AU cx n i.size)).getD off undef=_;rw[T9 _ _ _ _ _ hfit,Lm (by omega)]
            rw[hvw];simp only[Hr,Bc9];omega)
           (fun hk=>.inr ⟨b,cap,_,rfl,setRow_heap w b c _ e' _ a2,b0,by rw[AX3,H0 _ _ _ hfit];simpa using a7,a9,Bn hlen hgl,
            Dq (r:=c.toList.drop (l*i.size+(AU cx n i.size).length)) (by simp[splice]) hol (H2 _ _ _) (fun i' j q hj=>⟨(holds i' j q hj).1.keeps hk,(holds i' j q hj).2⟩) fun i' j q hj=>⟨(a1 i' j q hj).1.keeps hk,(a1 i' j q hj).2⟩⟩)
          exact⟨_,_,_,_,y _ _ hr,.inl rfl,h1,h2,.vec _ _ _ _ (by simp[Lv,A2]) (by simp)⟩
         have hlt:b<w.heap.size:=(AR1.1 a2).1;obtain⟨h1,h2⟩:=h.moved hj (Cc d 0) hn (.vec e' i.size (l+n) (Cb l f g) vw) (.slice (some ⟨w.heap.size,0,none⟩) (l+n) cap'') (w':=w.drew.alloc (.cells arr e')) (by simp) (fun b' a0 _=>heap_alloc_old w.drew _ b' a0) (fun b' a0=>by simp[D6,K9]at a0;omega)
          (fun b' off v a0 hnp a8=>by have hlt' : b' < w.heap.size:=AY9 w ⟨b',off,none⟩ a8;refine⟨?_,fun e=>by simp[D6,K9]at e;omega⟩;rw[<- a8];exact AV4 (heap_alloc_old w.drew _ b' hlt'))
          (fun hk=>.inr ⟨w.heap.size,cap'',arr,rfl,heap_alloc_new w.drew _,hge,hsz,hcm,Bn hlen hgl,
           Dq a6 hol (H2 _ _ _) (fun i' j q hj=>⟨(holds i' j q hj).1.keeps hk,(holds i' j q hj).2⟩) fun i' j q hj=>⟨(a1 i' j q hj).1.keeps hk,(a1 i' j q hj).2⟩⟩)
         exact⟨_,_,_,_,y _ _ hr,.inl rfl,h1,h2,.vec _ _ _ _ (by simp[Lv,A2]) (by simp)⟩
        cases a5
       cases a5
      .
       rename_i j m0 hse;split at a5
       .rename_i e' m' n' f' hj;split at a5
        .rename_i hem;cases a5;obtain⟨rfl,rfl⟩:=hem;rw[hse]at hs;generalize hvs:a.eval s=v at hs;rw[hvs]at y;cases hs with
         |vecp j m0 base nn cap hl hrj hmn=>
         have hh:=h.hp.holds j _ hj;rw[hrj]at hh;have hne:nid d 0≠j:=by intro e;rw[e,hj]at hn;cases hn
         rcases hh with⟨hnil,rfl⟩ | ⟨b,cap',c,a0,a2,hncap,a7,a9,hlen,hrep⟩
         .cases hnil;obtain rfl:m0=0:=by omega
          simp only[Nat.min_self]at *;obtain⟨v',w',hr,hres⟩:=AW (ty:=o.type) (b:=0) (cap:=0) (c:=#[]) u hi hzv hzs hbp hsrc (s:=.slice none 0 0) (m:=0) (olds:=[]) (.inl ⟨rfl,rfl,rfl⟩) hmax a3;rcases hres with⟨_,rfl,h0,rfl⟩ | ⟨cap',a4,_⟩ | ⟨cap',arr,rfl,rfl,hge,hcm,hsz,r,a6⟩
          .obtain⟨h1,h2⟩:=h.moved hj (Cc d 0) hn (.vec e' i.size (0+n) (Cb 0 f g) false) (.slice none 0 0) (w':=w') (AQ8 _) (fun b _ _=>rfl) (fun b hb=>by simp[D6,K9]at hb) (fun b off v hb _ hc=>by simp[D6,K9,hrj]at hb) (fun hk=>.inl ⟨rfl,h0⟩);exact⟨_,_,_,_,y _ _ hr,.inl rfl,h1,h2,.vec _ none 0 0 (by simp[Lv,A2]) (by simp)⟩
          .cases a4
          obtain⟨h1,h2⟩:=h.moved hj (Cc d 0) hn (.vec e' i.size (0+n) (Cb 0 f g) false) (.slice (some ⟨w.heap.size,0,none⟩) (0+n) cap') (w':=w.drew.alloc (.cells arr e')) (by simp) (fun b hb _=>heap_alloc_old w.drew _ b hb) (fun b hb=>by simp[D6,K9]at hb;omega) (fun b off v hb _ hc=>by simp[D6,K9,hrj]at hb)
           (fun hk=>.inr ⟨w.heap.size,cap',arr,rfl,heap_alloc_new w.drew _,hge,hsz,hcm,Bn (fun i hi=>Ln hi (by omega)) hgl,
            Dq a6 (by simp) (H2 _ _ _) (fun i j hi=>Ln hi (by omega)) fun i' j q hj=>⟨(a1 i' j q hj).1.keeps hk,(a1 i' j q hj).2⟩⟩)
          exact⟨_,_,_,_,y _ _ hr,.inl rfl,h1,h2,.vec _ _ _ _ (by simp[Lv,A2]) (by simp)⟩
         cases a0;rw[AY1 hmn]at *;have hle:m0*i.size<=c.size:=by rw[a7];exact AS1 _ (by omega)
         obtain⟨v',w',hr,hres⟩:=AW (ty:=o.type) (b:=b) (cap:=cap) (c:=c) u hi hzv hzs hbp hsrc (s:=.slice (some ⟨b,0,none⟩) m0 cap) (m:=m0) (olds:=c.toList.take (m0*i.size)) (.inr ⟨rfl,a2,by omega,a7,a9,rfl⟩) hmax a3;have holds:∀i' j,i' < m0->j<i.size->RepP w (PiS C st rho) ((c.toList.take (m0*i.size)).getD (i' * i.size+j) undef) ((f i').getD j default)/\((c.toList.take (m0*i.size)).getD (i' * i.size+j) undef).oneCell' = true:=by intro i' j q hj;rw[Sd (G3 q hj),<- B8];exact hrep i' j (by omega) hj
         have hol:(c.toList.take (m0*i.size)).length=m0*i.size:=by simp;omega
         have hpub:∀off,¬Prv C.X (A1 st.regs) rho b off->False:=by intro off hnp;exact hnp (.inr ⟨j,_,hj,by simp[D6,K9,hrj],trivial⟩)
         rcases hres with⟨a4,_⟩ | ⟨cap'',_,rfl,b0,rfl⟩ | ⟨cap'',arr,rfl,rfl,hge,hcm,hsz,r,a6⟩
         .cases a4
         .have hfit:m0*i.size+(AU cx n i.size).length<=c.toList.length:=by rw[H2,AU5,a7,<- Bc9];exact AS1 _ b0
          obtain⟨h1,h2⟩:=h.moved hj (Cc d 0) hn (.vec e' i.size (m0+n) (Cb m0 f g) false) (.slice (some ⟨b,0,none⟩) (m0+n) cap) (w':=w.setRow b (splice c.toList (m0*i.size) (AU cx n i.size)).toArray) (by simp)
           (fun b' a0 hnb=>setRow_other w b b' _ (fun e=>hnb (by simp[D6,K9,hrj,e]))) (fun b' a0=>.inl (by simpa[D6,K9,hrj]using a0))
           (fun b' off v a0 hnp a8=>by
            have e:b' = b:=by simp[D6,K9,hrj]at a0;exact a0.symm
            subst e;exact (hpub off hnp).elim)
           (fun hk=>.inr ⟨b,cap,_,rfl,setRow_heap w b c _ e' _ a2,b0,by rw[AX3,H0 _ _ _ hfit];simpa using a7,a9,Bn (fun i hi=>hlen i (by omega)) hgl,
            Dq (r:=c.toList.drop (m0*i.size+(AU cx n i.size).length)) (by simp[splice]) hol (H2 _ _ _) (fun i' j q hj=>⟨(holds i' j q hj).1.keeps hk,(holds i' j q hj).2⟩) fun i' j q hj=>⟨(a1 i' j q hj).1.keeps hk,(a1 i' j q hj).2⟩⟩)
          exact⟨_,_,_,_,y _ _ hr,.inl rfl,h1,h2,.vec _ _ _ _ (by simp[Lv,A2]) (by simp)⟩
         obtain⟨h1,h2⟩:=h.moved hj (Cc d 0) hn (.vec e' i.size (m0+n) (Cb m0 f g) false) (.slice (some ⟨w.heap.size,0,none⟩) (m0+n) cap'') (w':=w.drew.alloc (.cells arr e')) (by simp) (fun b' a0 _=>heap_alloc_old w.drew _ b' a0) (fun b' a0=>by simp[D6,K9]at a0;omega)
          (fun b' off v a0 hnp a8=>by
           have e:b' = b:=by simp[D6,K9,hrj]at a0;exact a0.symm
           subst e;exact (hpub off hnp).elim)
          (fun hk=>.inr ⟨w.heap.size,cap'',arr,rfl,heap_alloc_new w.drew _,hge,hsz,hcm,Bn (fun i hi=>hlen i (by omega)) hgl,
           Dq a6 hol (H2 _ _ _) (fun i' j q hj=>⟨(holds i' j q hj).1.keeps hk,(holds i' j q hj).2⟩) fun i' j q hj=>⟨(a1 i' j q hj).1.keeps hk,(a1 i' j q hj).2⟩⟩)
         exact⟨_,_,_,_,y _ _ hr,.inl rfl,h1,h2,.vec _ _ _ _ (by simp[Lv,A2]) (by simp)⟩
        cases a5
       cases a5
      cases a5
     cases he
    rw[hf _ _ _ _ _ hargs]at he;cases he
   cases he
  cases he
 cases he
end
end Go.AM
