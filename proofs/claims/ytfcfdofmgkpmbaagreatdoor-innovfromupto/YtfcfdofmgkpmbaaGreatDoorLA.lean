/- What a law's walk and its plain proof need, part 1: no condition of its own. -/
import Derived.CallsIn
import Derived.Laws.AppendOwn
import Derived.Laws.IdiomCopy
import Derived.Below
import Derived.Laws.Rows
import Derived.Deep.AppendSrc
import Derived.Laws.BytesString
set_option linter.unusedSimpArgs false
set_option linter.unusedVariables false
set_option linter.unusedSectionVars false
namespace Go.AM
inductive PV where
 |v (x:Value)
 |bb (b:Bool)
 |str (l:List UInt8)
 |agg (cs:List PV)
 |sl (nn:Bool) (k n:Nat) (f:Nat->List PV)
 |ptr (cs:List PV)
 |iface (t:TypeId) (a:PV)
 |fn (f:FuncId) (first caps:List PV)
 deriving Inhabited
inductive AV where
 |p (x:PV)
 |reg (j off:Nat)
 |vec (j:Nat)
 |vecp (j n:Nat)
 |elt (j k i off:Nat)
 |mref (j:Nat)
 |clo (f:FuncId) (first caps:List AV)
 |tup (l:List AV)
 |agr (cs:List AV)
 |yf (j:Nat)
 |top
 deriving Inhabited
abbrev Env:=List (Nat×AV)
inductive Obj where
 |cells (cs:List AV)
 |vec (e:TypeId) (k n:Nat) (f:Nat->List PV) (viewed:Bool)
 |map (es:List (PV×PV))
 |arr (n:Nat) (f:Nat->PV)
 |ghost (cs:List AV)
 |yld (rest:List (List PV)) (live:Bool)
 |fam (e:TypeId) (n jr:Nat) (x:Option (Nat×AV))
 |rows (n:Nat) (g:Nat->Obj)
 |dead
 deriving Inhabited
abbrev C4:=List (Nat×Obj)
def Aj (n:Nat)(f:Nat->PV):List PV:=(List.range n).map f
def get:Env->Nat->AV
 |[],_=>.top
 |(k,a)::r,t=>if k=t then a else get r t
def A1:C4->Nat->Option Obj
 |[],_=>none
 |(k,o)::r,j=>if k=j then some o else A1 r j
def ins {α : Type}(k:Nat)(a : α):List (Nat × α)->List (Nat × α)
 |[]=>[(k,a)]
 |(i,b)::r=>if i<k then (k,a)::(i,b)::r else if i=k then (k,a)::r else (i,b)::ins k a r
def del {α : Type}(k:Nat):List (Nat × α)->List (Nat × α)
 |[]=>[]
 |(i,b)::r=>if i=k then r else (i,b)::del k r
structure St where
 env:Env
 regs:C4
 deriving Inhabited
def LO:Value->PV
 |.string s=>.str s.data.toList
 |x=>.v x
abbrev AV.int (k:IntKind)(n:Int):AV:=.p (.v (.int k n))
abbrev AV.bool (b:Bool):AV:=.p (.bb b)
def nP:PV->PV
 |.v (.bool b)=>.bb b
 |x=>x
inductive TK where
 |int (k:IntKind)|bool|str
 |slice (e:TypeId)|map (k e:TypeId)|arr (n:Nat) (e:TypeId)
 |struct (fs:List (Nat×TypeId))|ptr (e:TypeId)|iface (n:Nat)|other
 deriving Inhabited,DecidableEq
section
variable (P:Program)
def Qp:TypeDesc->TK
 |.int k=>.int k
 |.bool=>.bool
 |.string=>.str
 |.slice e=>.slice e
 |.map k e=>.map k e
 |.array n e=>.arr n e
 |.struct fs=>.struct (fs.toList.map fun f=>(f.offset,f.type))
 |.pointer e=>.ptr e
 |.interface ms=>.iface ms.size
 |_=>.other
def tk (t:TypeId):Option TK:=(P.underlying t).map Qp
def tsz (t:TypeId):Option Nat:=(P.info? t).map (·.size)
def HU (t:TypeId):Nat:=P.bytesOf t
def Sc:TK->Bool
 |.struct _ | .arr _ _=>true
 |_=>false
def Ou (t:TypeId):Option (List PV):=((P.info? t).bind (·.zero)).map fun v=>v.cells.toList.map LO
end
def pvK:Value->PV
 |.agg cs=>if cs.all (fun c=>c.oneCell') then .agg (cs.toList.map LO)else .v (.agg cs)
 |x=>LO x
def aev (env:Env):Operand->AV
 |.tmp t=>get env t
 |.const v=>.p (pvK v)
 |.func f=>.clo f [] []
 |.global _=>.top
def nid (d i:Nat):Nat:=1000*(d+1)+i
end Go.AM
namespace Go.AM
def Oq:List AV->Option (List PV)
 |[]=>some []
 |.p x::r=>match Oq r with|some l=>some (x::l)|none=>none
 |_::_=>none
def mkAgg (cs:List AV):AV:=match Oq cs with|some l=>.p (.agg l)|none=>.agr cs
def cellsOf:AV->List AV
 |.p (.agg cs)=>cs.map .p
 |.agr cs=>cs
 |.p x=>[.p (nP x)]
 |a=>[a]
def Z9:PV->List PV
 |.agg cs=>cs
 |x=>[nP x]
def Hu:PV->Bool
 |.agg _ | .v (.agg _) | .v (.tuple _)=>false
 |_=>true
def UX:AV->Bool
 |.p x=>Hu x
 |.tup _ | .agr _ | .top=>false
 |_=>true
def AQ:AV->Bool
 |.p (.agg _) | .agr _=>true
 |a=>UX a
def Jb:PV->Bool
 |.agg _=>true
 |x=>Hu x
def splice {α : Type}(cs:List α)(off:Nat)(new:List α):List α:=cs.take off++new++cs.drop (off+new.length)
def Gv (regs:C4):AV->Option (PV×C4)
 |.p x=>some (nP x,regs)
 |.vec j=>match A1 regs j with
  |some (.vec e k n f _)=>some (.sl false k n f,ins j (.vec e k n f true) regs)
  |_=>none
 |.vecp j m=>match A1 regs j with
  |some (.vec e k n f _)=>some (.sl false k (min m n) f,ins j (.vec e k n f true) regs)
  |_=>none
 |.clo f [] []=>some (.v (.func (.func f) #[] #[]),regs)
 |.clo f a b=>match Oq a,Oq b with
  |some a,some b=>some (.fn f a b,regs)
  |_,_=>none
 |_=>none
def Hv (regs:C4):List AV->Option (List PV×C4)
 |[]=>some ([],regs)
 |a::r=>match Gv regs a with
  |some (x,regs)=>match Hv regs r with
   |some (l,regs)=>some (x::l,regs)
   |none=>none
  |none=>none
structure Out where
 cond:List Prop
 val:AV
 regs:C4
def D9 (op:BinOp)(k:IntKind)(x y:Int):Int:=
 let a:=BitVec.ofInt k.bits x
 let b:=BitVec.ofInt k.bits y
 k.wrap (match op with | .and=>a &&& b | .or=>a ||| b | .xor=>a ^^^ b|_=>a &&& ~~~b).toNat
def shI (op:BinOp)(k:IntKind)(x y:Int):Int:=
 match op with
 |.shl=>k.wrap (x*2 ^ (min y.toNat k.bits))
 |_=>x.fdiv (2 ^ (min y.toNat k.bits))
def Ov:PV->Option Bool
 |.bb b=>some b
 |.v (.bool b)=>some b
 |_=>none
def Qs:TK->PV->PV->Option Bool
 |.int _,.v (.int k a),.v (.int l b)=>if k=l then some (a==b)else none
 |.bool,x,y=>match Ov x,Ov y with
  |some a,some b=>some (a==b)
  |_,_=>none
 |.str,.str a,.str b=>some (a==b)
 |_,_,_=>none
def R7:List TK->List PV->List PV->Option Bool
 |[],[],[]=>some true
 |k::ks,x::a,y::b=>match ks with
  |[]=>match a,b with
   |[],[]=>Qs k x y
   |_,_=>none
  |_=>match Qs k x y,R7 ks a b with
   |some p,some q=>some (p&&q)
   |_,_=>none
 |_,_,_=>none
def WR:AV->Option Bool
 |.p (.v (.pointer none)) | .p (.v (.slice none 0 0)) | .p (.v (.map none)) | .p (.v .nilFunc) | .p (.v .nilIface)=>some true
 |.p (.ptr _) | .p (.iface _ _) | .p (.fn _ _ _) | .reg _ _ | .clo _ _ _ | .elt _ _ _ _ | .mref _ | .yf _=>some false
 |.p (.sl true _ _ _)=>some false
 |_=>none
def Ow (op:BinOp)(k:IntKind)(a b:Int):List Prop×PV:=
 match op with
 |.add=>([],.v (.int k (k.wrap (a+b))))
 |.sub=>([],.v (.int k (k.wrap (a-b))))
 |.mul=>([],.v (.int k (k.wrap (a*b))))
 |.quo=>([b≠0],.v (.int k (k.wrap (a.tdiv b))))
 |.rem=>([b≠0],.v (.int k (a.tmod b)))
 |.eql=>([],.bb (a==b))
 |.neq=>([],.bb (a != b))
 |.lss=>([],.bb (decide (a<b)))
 |.leq=>([],.bb (decide (a<=b)))
 |.gtr=>([],.bb (decide (b<a)))
 |.geq=>([],.bb (decide (b<=a)))
 |.and=>([],.v (.int k (D9 .and k a b)))
 |.or=>([],.v (.int k (D9 .or k a b)))
 |.xor=>([],.v (.int k (D9 .xor k a b)))
 |.andNot=>([],.v (.int k (D9 .andNot k a b)))
 |.shl=>([0<=b],.v (.int k (shI .shl k a b)))
 |.shr=>([0<=b],.v (.int k (shI .shr k a b)))
def YZ (rec:TypeId->Option (List TK)):List Field->Nat->Option (List TK)
 |[],_=>some []
 |f::fs,off=>if f.offset≠off then none else match rec f.type with
  |some a=>match YZ rec fs (off+a.length)with
   |some b=>some (a++b)
   |none=>none
  |none=>none
def lay (P:Program):Nat->TypeId->Option (List TK)
 |0,_=>none
 |n+1,t=>match P.underlying t with
  |some (.int k)=>some [.int k]
  |some .bool=>some [.bool]
  |some .string=>some [.str]
  |some (.struct fs)=>match YZ (lay P n) fs.toList 0 with
   |some l=>if tsz P t=some l.length then some l else none
   |none=>none
  |_=>none
def UY (P:Program):Nat->TypeId->Bool
 |0,_=>false
 |n+1,t=>match P.underlying t with
  |some (.struct fs)=>!P.stoodInHeld t&&fs.toList.all fun f=>decide (f.name ≠ "_")&&UY P n f.type
  |_=>true
def Za (P:Program)(t:TypeId):Bool:=UY P 10 t && !P.eqGuardType P.depth t
def KW (P:Program)(t:TypeId)(a b:PV):Option Bool:=
 match tk P t with
 |some (.struct _)=>match lay P 10 t,a,b with
  |some ks,.agg xs,.agg ys=>R7 ks xs ys
  |_,_,_=>none
 |some k=>Qs k a b
 |none=>none
def MO (P:Program)(t:TypeId):List Prop:=
 match tk P t with
 |some (.struct _)=>[Za P t=true]
 |_=>[]
def Zb (P:Program)(t:TypeId)(x y:AV):Option Bool:=
 match P.underlying t with
 |some (.pointer _)=>match x,y with
  |.p (.v (.pointer none)),.p (.v (.pointer none))=>some true
  |.p (.v (.pointer none)),.p (.ptr _) | .p (.v (.pointer none)),.reg _ _ | .p (.v (.pointer none)),.elt _ _ _ _=>some false
  |.p (.ptr _),.p (.v (.pointer none)) | .reg _ _,.p (.v (.pointer none)) | .elt _ _ _ _,.p (.v (.pointer none))=>some false
  |_,_=>none
 |some (.slice _)=>match x,y with
  |.p (.v (.slice none 0 0)),.p (.v (.slice none 0 0))=>some true
  |.p (.sl true _ _ _),.p (.v (.slice none 0 0))=>some false
  |_,_=>none
 |some (.map _ _)=>match x,y with
  |.p (.v (.map none)),.p (.v (.map none))=>some true
  |.mref _,.p (.v (.map none))=>some false
  |_,_=>none
 |some (.func _ _ _)=>match x,y with
  |.p (.v .nilFunc),.p (.v .nilFunc)=>some true
  |.clo _ _ _,.p (.v .nilFunc)=>some false
  |_,_=>none
 |some (.interface _)=>match x,y with
  |.p (.iface _ _),.p (.v .nilIface)=>some false
  |_,_=>none
 |_=>none
def Yv:TK->Bool
 |.int _=>true
 |.bool=>true
 |.str=>true
 |_=>false
def UZ (P:Program)(t:TypeId)(a b:PV):Option Bool:=
 match tk P t with
 |some (.arr n e)=>match tk P e,a,b with
  |some k,.agg xs,.agg ys=>if Yv k=true/\tsz P e=some 1 then R7 (List.replicate n k) xs ys else none
  |_,_,_=>none
 |_=>none
def eqA (P:Program)(t:TypeId)(x y:AV)(neg:Bool):Option (List Prop×PV):=
 match (match x,y with
  |.p a,.p b=>KW P t a b
  |_,_=>none:Option Bool)with
 |some r=>some (MO P t,.bb (r != neg))
 |none=>match (match x,y with
  |.p a,.p b=>UZ P t a b
  |_,_=>none:Option Bool)with
  |some r=>some ([(!P.eqGuardType P.depth t)=true],.bb (r != neg))
  |none=>match Zb P t x y with
   |some b=>some ([],.v (.bool (b != neg)))
   |none=>none
def bin (P:Program)(op:BinOp)(t:TypeId)(x y:AV):Option (List Prop×PV):=
 match x,y with
 |.p (.v (.int k a)),.p (.v (.int l b))=>
  match op with
  |.shl | .shr=>some (Ow op k a b)
  |op=>if k=l then some (Ow op k a b)else none
 |x,y=>match op with
  |.add=>match x,y with
   |.p (.str a),.p (.str b)=>some ([((a.length+b.length:Nat):Int)<=9223372036854775807],.str (a++b))
   |_,_=>none
  |.eql=>eqA P t x y false
  |.neq=>eqA P t x y true
  |_=>none
def Tm:AV:=.p (.v (.tuple #[]))
def un (op:UnOp)(x:AV):Option PV:=
 match op,x with
 |.not,.p (.v (.bool b))=>some (.v (.bool !b))
 |.not,.p (.bb b)=>some (.bb !b)
 |.neg,.p (.v (.int k n))=>some (.v (.int k (k.wrap (0-n))))
 |_,_=>none
def asInt:AV->Option Int
 |.p (.v (.int _ n))=>some n
 |_=>none
def Yw:AV->Bool
 |.p (.str _)=>false
 |_=>true
def srcK:TK->Bool
 |.slice _ | .str=>true
 |_=>false
def elems (regs:C4)(k:Nat):AV->Option (Nat×(Nat->List PV))
 |.p (.v (.slice none 0 0))=>some (0,fun _=>[])
 |.p (.sl _ m n f)=>if m=k then some (n,f)else none
 |.p (.str l)=>if k=1 then some (l.length,fun i=>[.v (.int .u8 ((l.getD i 0).toNat:Nat))])else none
 |.vec j=>match A1 regs j with
  |some (.vec _ m n f _)=>if m=k then some (n,f)else none
  |_=>none
 |.vecp j i=>match A1 regs j with
  |some (.vec _ m n f _)=>if m=k then some (min i n,f)else none
  |_=>none
 |_=>none
def Ox (regs:C4)(e:TypeId)(k:Nat):AV->Option (Nat×(Nat->List PV)×Bool×C4)
 |.p (.v (.slice none 0 0))=>some (0,fun _=>[],false,regs)
 |.vec j=>match A1 regs j with
  |some (.vec e' m n f vw)=>if e' = e/\m=k then some (n,f,vw,ins j .dead regs)else none
  |_=>none
 |.vecp j i=>match A1 regs j with
  |some (.vec e' m n f false)=>if e' = e/\m=k then some (min i n,f,false,ins j .dead regs)else none
  |_=>none
 |_=>none
def AW (n:Nat)(f g:Nat->List PV)(i:Nat):List PV:=if i<n then f i else g (i-n)
def find (cmp:PV->PV->Option Bool)(k:PV):List (PV×PV)->Option (Option PV)
 |[]=>some none
 |(a,x)::r=>match cmp k a with
  |some true=>some (some x)
  |some false=>find cmp k r
  |none=>none
def upd (cmp:PV->PV->Option Bool)(k x:PV):List (PV×PV)->Option (List (PV×PV))
 |[]=>some [(k,x)]
 |(a,y)::r=>match cmp k a with
  |some true=>some ((k,x)::r)
  |some false=>(upd cmp k x r).map ((a,y) :: ·)
  |none=>none
def Fy:List PV->Option UInt8
 |[.v (.int .u8 n)]=>some (UInt8.ofNat n.toNat)
 |_=>none
def HV (env:Env)(place:Nat->Option (Nat×Nat)):List (Nat×Operand)->List AV->Option (List AV)
 |[],cs=>some cs
 |(i,x)::r,cs=>
  match AQ (aev env x),place i with
  |true,some (off,m)=>if (cellsOf (aev env x)).length=m/\off+m<=cs.length then HV env place r (splice cs off (cellsOf (aev env x)))else none
  |_,_=>none
section
variable (P:Program)
def MP (t:TypeId)(ps:List PV):Obj:=match tk P t with
 |some (.arr n _)=>if 8<=n/\ps.length=n then .arr n (fun i=>(ps.map nP).getD i default)else .cells (ps.map .p)
 |_=>.cells (ps.map .p)
def HX (t:TypeId)(a:AV):Obj:=match a with
 |.p (.agg ps)=>MP P t ps
 |a=>.cells (cellsOf a)
def ldA (t:TypeId)(cs:List AV):Option AV:=
 match tk P t,tsz P t with
 |some k,some n=>match Sc k with
  |true=>if n<=cs.length then some (mkAgg (cs.take n))else none
  |false=>cs.head?
 |_,_=>none
def ldP (t:TypeId)(cs:List PV):Option (List Prop×AV):=
 match tk P t,tsz P t with
 |some k,some n=>match Sc k with
  |true=>some ([n<=cs.length],.p (.agg (cs.take n)))
  |false=>match cs with
   |c::_=>some ([],.p c)
   |[]=>none
 |_,_=>none
def Jc (t:TypeId):Option PV:=
 match (P.info? t).bind (·.zero)with
 |some v=>match v with
  |.agg cs=>if (cs.toList.map LO).all Hu then some (.agg (cs.toList.map LO))else none
  |v=>some (LO v)
 |none=>none
def load (regs:C4)(t:TypeId):AV->Option (List Prop×AV)
 |.reg j off=>match A1 regs j with
  |some (.cells cs)=>match ldA P t (cs.drop off)with
   |some a=>some ([],a)
   |none=>none
  |some (.arr n f)=>match tk P t,tsz P t with
   |some k,some m=>match Sc k with
    |true=>if m=n/\off=0 then some ([],.p (.agg (Aj n f)))else none
    |false=>some ([off<n],.p (f off))
   |_,_=>none
  |_=>none
 |.p (.ptr cs)=>ldP P t cs
 |.elt j k i off=>match A1 regs j with
  |some (.vec _ m n f _)=>if k=m then match ldP P t ((f i).drop off)with
   |some (c,a)=>some ((i<n)::c,a)
   |none=>none else none
  |some (.fam _ n _ (some (i0,x)))=>match tk P t with
   |some q=>if Sc q=false/\k=1/\off=0 then some ([i<n/\i=i0],x)else none
   |none=>none
  |_=>none
 |_=>none
def store (regs:C4)(t:TypeId)(a x:AV):Option (List Prop×C4):=
 match tsz P t,AQ x with
 |some m,true=>match a with
  |.reg j off=>match A1 regs j with
   |some (.cells cs)=>if (cellsOf x).length=m/\off+m<=cs.length then some ([],ins j (.cells (splice cs off (cellsOf x))) regs)else none
   |some (.arr n f)=>match x with
    |.p (.agg ps)=>if m=n then some ([off=0/\ps.length=n],ins j (.arr n (fun i=>ps.getD i default)) regs)else none
    |.p y=>if m=1 then some ([off<n],ins j (.arr n (fun i=>if i=off then nP y else f i)) regs)else none
    |_=>none
   |_=>none
  |.elt j k i off=>match A1 regs j,x with
   |some (.vec e k' n f false),.p x=>if k=k' then some ([(Z9 x).length=m/\i<n/\off+m<=k],ins j (.vec e k' n (fun l=>if l=i then splice (f l) off (Z9 x)else f l) false) regs)else none
   |some (.fam e n jr (some (i0,_))),x=>match cellsOf x with
    |[y]=>if m=1/\k=1/\off=0 then some ([i<n/\i=i0],ins j (.fam e n jr (some (i0,y))) regs)else none
    |_=>none
   |_,_=>none
  |_=>none
 |_,_=>none
def Yx (t:TypeId)(f:Nat)(x:AV):Option AV:=
 match tk P t with
 |some (.struct fs)=>match fs[f]? with
  |some (off,ft)=>match tsz P ft with
   |some 0=>none
   |some _=>match x with
    |.reg j o=>some (.reg j (o+off))
    |.elt j k i o=>some (.elt j k i (o+off))
    |.p (.ptr cs)=>some (.p (.ptr (cs.drop off)))
    |_=>none
   |none=>none
  |none=>none
 |_=>none
def Yy (t:TypeId)(f:Nat)(x:AV):Option (List Prop×AV):=
 match tk P t,x with
 |some (.struct fs),.p (.agg cs)=>match fs[f]? with
  |some (off,ft)=>ldP P ft (cs.drop off)
  |none=>none
 |_,_=>none
def Dd (regs:C4)(t:TypeId)(x:AV)(i:Int):Option (List Prop×AV):=
 match tk P t,x with
 |some (.arr n e),.reg j o=>match tsz P e with
  |some m=>some ([0<=i/\i<n],.reg j (o+i.toNat*m))
  |none=>none
 |some (.arr n e),.p (.ptr cs)=>match tsz P e with
  |some m=>some ([0<=i/\i<n],.p (.ptr (cs.drop (i.toNat*m))))
  |none=>none
 |some (.slice e),.p (.sl _ k n f)=>if tsz P e=some k then some ([0<=i/\i<n],.p (.ptr (f i.toNat)))else none
 |some (.slice e),.vec j=>match A1 regs j with
  |some (.vec _ k n _ _)=>if tsz P e=some k then some ([0<=i/\i<n],.elt j k i.toNat 0)else none
  |some (.fam _ n _ _)=>if tsz P e=some 1 then some ([0<=i/\i<n],.elt j 1 i.toNat 0)else none
  |_=>none
 |some (.slice e),.vecp j m=>match A1 regs j with
  |some (.vec _ k n _ _)=>if tsz P e=some k then some ([0<=i/\i<m/\m<=n],.elt j k i.toNat 0)else none
  |_=>none
 |_,_=>none
def Yz (t:TypeId)(x:AV)(i:Int):Option (List Prop×AV):=
 match tk P t,x with
 |some .str,.p (.str l)=>some ([0<=i/\i<l.length],.int .u8 ((l.getD i.toNat 0).toNat:Nat))
 |some (.arr n e),.p (.agg cs)=>match tsz P e with
  |some m=>match ldP P e (cs.drop (i.toNat*m))with
   |some (c,a)=>some ((0<=i/\i<n)::c,a)
   |none=>none
  |none=>none
 |_,_=>none
def De (regs:C4)(t:TypeId)(x:AV)(lo hi:Option Int):Option (List Prop×AV×C4):=
 match tk P t,x with
 |some .str,.p (.str l)=>
  match lo,hi with
  |none,none=>some ([],.p (.str l),regs)
  |some a,none=>some ([0<=a/\a<=l.length],.p (.str (l.drop a.toNat)),regs)
  |none,some b=>some ([0<=b/\b<=l.length],.p (.str (l.take b.toNat)),regs)
  |some a,some b=>some ([0<=a/\a<=b/\b<=l.length],.p (.str ((l.take b.toNat).drop a.toNat)),regs)
 |some (.slice e),.p (.sl nn k n f)=>
  if tsz P e=some k then
   match lo,hi with
   |none,none=>some ([],.p (.sl nn k n f),regs)
   |some a,none=>some ([0<=a/\a<=n],.p (.sl nn k (n-a.toNat) (fun i=>f (a.toNat+i))),regs)
   |none,some b=>some ([0<=b/\b<=n],.p (.sl nn k b.toNat f),regs)
   |some a,some b=>some ([0<=a/\a<=b/\b<=n],.p (.sl nn k (b.toNat-a.toNat) (fun i=>f (a.toNat+i))),regs)
  else none
 |some (.slice e),.p (.v (.slice none 0 0))=>match tsz P e with
  |some _=>some ([lo.getD 0=0/\hi.getD 0=0],.p (.v (.slice none 0 0)),regs)
  |none=>none
 |some (.arr n e),.p (.ptr cs)=>
  match lo,hi with
  |none,some b=>if tsz P e=some 1/\cs.length=n then some ([0<=b/\b<=n],.p (.sl true 1 b.toNat (fun i=>[cs.getD i default])),regs)else none
  |_,_=>none
 |some (.slice e),.vec j=>match A1 regs j with
  |some (.vec e' k n f _)=>if tsz P e=some k/\e' = e then
   match lo,hi with
   |none,none=>some ([],.vec j,regs)
   |none,some b=>some ([0<=b/\b<=n],.vecp j b.toNat,regs)
   |some a,none=>some ([0<=a/\a<=n],.p (.sl false k (n-a.toNat) (fun i=>f (a.toNat+i))),ins j (.vec e k n f true) regs)
   |some a,some b=>some ([0<=a/\a<=b/\b<=n],.p (.sl false k (b.toNat-a.toNat) (fun i=>f (a.toNat+i))),ins j (.vec e k n f true) regs)
   else none
  |_=>none
 |_,_=>none
def UQ (regs:C4)(t:TypeId)(x:AV):Option Int:=
 match tk P t,x with
 |some .str,.p (.str l)=>some l.length
 |some (.slice _),.p (.sl _ _ n _)=>some n
 |some (.slice _),.p (.v (.slice none 0 0))=>some 0
 |some (.map _ _),.p (.v (.map none))=>some 0
 |some (.slice _),.vec j=>match A1 regs j with
  |some (.vec _ _ n _ _)=>some n
  |some (.fam _ n _ _)=>some n
  |_=>none
 |some (.slice _),.vecp _ n=>some n
 |some (.map _ _),.mref j=>match A1 regs j with
  |some (.map es)=>some es.length
  |_=>none
 |some (.arr n _),_=>some n
 |_,_=>none
def keyK:TK->Bool
 |.int _ | .bool | .str=>true
 |_=>false
def ID (t:TypeId)(k:PV):Bool:=
 match tk P t with
 |some (.struct _)=>match lay P 10 t,k with
  |some ks,.agg cs=>cs.length==ks.length
  |_,_=>false
 |some k=>keyK k
 |none=>false
def Hw (regs:C4)(t:TypeId)(m:AV)(k:PV)(ok:Bool):Option (List Prop×AV):=
 match tk P t with
 |some (.map kt e)=>
  match (match ID P kt k,m with
   |true,.p (.v (.map none))=>some none
   |true,.mref j=>match A1 regs j with
    |some (.map es)=>find (KW P kt) k es
    |_=>none
   |_,_=>none:Option (Option PV))with
  |some (some x)=>some (MO P kt,if ok then .tup [.p x,.bool true]else .p x)
  |some none=>match Jc P e with
   |some z=>some (MO P kt,if ok then .tup [.p z,.bool false]else .p z)
   |none=>none
  |none=>none
 |_=>none
def LP (t:TypeId)(i:Nat):Option (Nat×Nat):=
 match tk P t with
 |some (.struct fs)=>match fs[i]? with
  |some (off,ft)=>match tsz P ft with
   |some m=>some (off,m)
   |none=>none
  |none=>none
 |some (.arr _ e)=>match tsz P e with
  |some m=>some (i*m,m)
  |none=>none
 |_=>none
def Va (t:TypeId):Bool:=match tk P t with
 |some (.struct fs)=>fs.all fun f=>(tsz P f.2).isSome
 |some (.arr _ e)=>(tsz P e).isSome
 |_=>false
def E4 (zero:List PV):List (Nat×List PV)->Nat->List PV
 |[],_=>zero
 |(j,x)::r,i=>if i=j then x else E4 zero r i
def FV (n k:Nat):List Nat->List PV->Bool
 |[],_=>true
 |i::r,x::l=>decide (i<n)&&(Jb x&&((Z9 x).length==k))&&(!r.contains i&&FV n k r l)
 |_::_,[]=>false
def aop (env:Env)(regs:C4)(d:Nat)(o:Op):Option Out:=
 match o with
 |.move x=>some ⟨[],aev env x,regs⟩
 |.assign x=>some ⟨[],aev env x,regs⟩
 |.pick c a b=>match aev env c with
  |.p (.v (.bool true))=>some ⟨[],aev env a,regs⟩
  |.p (.v (.bool false))=>some ⟨[],aev env b,regs⟩
  |.p (.bb true)=>some ⟨[],aev env a,regs⟩
  |.p (.bb false)=>some ⟨[],aev env b,regs⟩
  |_=>none
 |.alloc t=>match A1 regs (nid d 0),Ou P t with
  |none,some z=>if z.all Hu then some ⟨[],.reg (nid d 0) 0,ins (nid d 0) (MP P t z) regs⟩else none
  |_,_=>none
 |.box t x=>match A1 regs (nid d 0),AQ (aev env x)with
  |none,true=>some ⟨[],.reg (nid d 0) 0,ins (nid d 0) (HX P t (aev env x)) regs⟩
  |_,_=>none
 |.build t parts=>match Ou P t with
  |some z=>match z.all Hu&&Va P t,HV env (LP P t) parts.toList (z.map .p)with
   |true,some cs=>some ⟨[],mkAgg cs,regs⟩
   |_,_=>none
  |none=>none
 |.buildSlice t n parts=>match tk P t,A1 regs (nid d 0)with
  |some (.slice e),none=>match Hv regs (parts.toList.map fun q=>aev env q.2),tsz P e,Ou P e with
   |some (l,regs),some m,some z=>if (n*m<=16777216/\n<=16777216)/\z.length=m/\z.all Hu then
    some ⟨[FV n m (parts.toList.map (·.1)) l=true],.vec (nid d 0),ins (nid d 0) (.vec e m n (E4 z ((parts.toList.map (·.1)).zip (l.map Z9))) false) regs⟩
    else none
   |_,_,_=>none
  |_,_=>none
 |.load t a=>match load P regs t (aev env a)with
  |some (c,a)=>some ⟨c,a,regs⟩
  |none=>none
 |.store t a x=>match store P regs t (aev env a) (aev env x)with
  |some (c,regs)=>some ⟨c,Tm,regs⟩
  |none=>none
 |.nilCheck x=>match WR (aev env x)with
  |some false=>some ⟨[],aev env x,regs⟩
  |_=>none
 |.binOp op t x y _=>match bin P op t (aev env x) (aev env y)with
  |some (c,r)=>some ⟨c,.p r,regs⟩
  |none=>none
 |.unOp op _ x=>match un op (aev env x)with
  |some r=>some ⟨[],.p r,regs⟩
  |none=>none
 |.convert s t x=>match tk P s,tk P t with
  |some (.int _),some (.int k)=>match aev env x with
   |.p (.v (.int _ n))=>some ⟨[],.int k (k.wrap n),regs⟩
   |_=>none
  |some .str,some .str=>match aev env x with
   |.p (.str l)=>some ⟨[],.p (.str l),regs⟩
   |_=>none
  |some .str,some (.slice e)=>match aev env x,tk P e with
   |.p (.str l),some (.int .u8)=>some ⟨[],.p (.sl true 1 l.length (fun i=>[.v (.int .u8 ((l.getD i 0).toNat:Nat))])),regs⟩
   |_,_=>none
  |some (.slice e),some .str=>if tk P e=some (.int .u8)then
   match Yw (aev env x),elems regs 1 (aev env x)with
   |true,some (n,f)=>some ⟨[∀i,i<n->(Fy (f i)).isSome=true],.p (.str ((List.range n).map fun i=>(Fy (f i)).getD 0)),regs⟩
   |_,_=>none
   else none
  |_,_=>none
 |.makeInterface t x=>match Gv regs (aev env x),tk P t with
  |some (x,regs),some k=>match k with
   |.iface _=>none
   |_=>some ⟨[],.p (.iface t x),regs⟩
  |_,_=>none
 |.makeFunc (.func f) first caps=>some ⟨[],.clo f (first.toList.map (aev env)) (caps.toList.map (aev env)),regs⟩
 |.makeMap _ none=>match A1 regs (nid d 0)with
  |none=>some ⟨[],.mref (nid d 0),ins (nid d 0) (.map []) regs⟩
  |some _=>none
 |.makeSlice t l c=>match tk P t,asInt (aev env l),asInt (aev env c),A1 regs (nid d 0)with
  |some (.slice e),some n,some m,none=>match tsz P e,Ou P e with
   |some k,some z=>if z.length=k/\z.all Hu then
    some ⟨[0<=n/\n<=m/\m*HU P e<=140737488355328/\m<=140737488355328],.vec (nid d 0),ins (nid d 0) (.vec e k n.toNat (fun _=>z) false) regs⟩else none
   |_,_=>none
  |_,_,_,_=>none
 |.slice t x lo hi none=>
  match lo.map (fun o=>asInt (aev env o)),hi.map (fun o=>asInt (aev env o))with
  |none,none=>match De P regs t (aev env x) none none with|some (c,a,regs)=>some ⟨c,a,regs⟩ | none=>none
  |some (some l),none=>match De P regs t (aev env x) (some l) none with|some (c,a,regs)=>some ⟨c,a,regs⟩ | none=>none
  |none,some (some h)=>match De P regs t (aev env x) none (some h)with|some (c,a,regs)=>some ⟨c,a,regs⟩ | none=>none
  |some (some l),some (some h)=>match De P regs t (aev env x) (some l) (some h)with|some (c,a,regs)=>some ⟨c,a,regs⟩ | none=>none
  |_,_=>none
 |.fieldAddr t x f=>match Yx P t f (aev env x)with
  |some a=>some ⟨[],a,regs⟩
  |none=>none
 |.field t x f=>match Yy P t f (aev env x)with
  |some (c,a)=>some ⟨c,a,regs⟩
  |none=>none
 |.indexAddr t x i=>match asInt (aev env i)with
  |some i=>match Dd P regs t (aev env x) i with
   |some (c,a)=>some ⟨c,a,regs⟩
   |none=>none
  |none=>none
 |.index t x i=>match asInt (aev env i)with
  |some i=>match Yz P t (aev env x) i with
   |some (c,a)=>some ⟨c,a,regs⟩
   |none=>none
  |none=>none
 |.lookup t m k ok=>match Gv regs (aev env k)with
  |some (k,regs)=>match Hw P regs t (aev env m) k ok with
   |some (c,a)=>some ⟨c,a,regs⟩
   |none=>none
  |none=>none
 |.mapUpdate t m k x=>match tk P t,aev env m,aev env k with
  |some (.map kt _),.mref j,.p k=>match Gv regs (aev env x)with
   |some (x,regs)=>match A1 regs j with
    |some (.map es)=>match ID P kt (nP k),upd (KW P kt) (nP k) x es with
     |true,some es=>some ⟨MO P kt,Tm,ins j (.map es) regs⟩
     |_,_=>none
    |_=>none
   |none=>none
  |_,_,_=>none
 |.extract x i=>match aev env x with
  |.tup l=>match l[i]? with
   |some a=>some ⟨[],a,regs⟩
   |none=>none
  |_=>none
 |.call { callee:=.builtin .len,args,argTypes }=>match args.toList,argTypes.toList with
  |[x],[t]=>match UQ P regs t (aev env x)with
   |some n=>some ⟨[],.int .i64 n,regs⟩
   |none=>none
  |_,_=>none
 |.call { callee:=.builtin .append,args,argTypes }=>match args.toList,argTypes.toList with
  |[s,x],[t,t2]=>match tk P t,tk P t2 with
   |some (.slice e),some k2=>match srcK k2,tsz P e,Ou P e with
    |true,some m,some z=>match A1 regs (nid d 0),elems regs m (aev env x),Ox regs e m (aev env s)with
     |none,some (n,g),some (l,f,vw,regs)=>if z.length=m/\0<HU P e then
      some ⟨[(l+n)*HU P e<=140737488355328/\l+n<=140737488355328],.vec (nid d 0),ins (nid d 0) (.vec e m (l+n) (AW l f g) vw) regs⟩else none
     |_,_,_=>none
    |_,_,_=>none
   |_,_=>none
  |_,_=>none
 |.call { callee:=.builtin .min,args,.. }=>match args.toList.map (aev env)with
  |[.p (.v (.int k a)),.p (.v (.int _ b))]=>some ⟨[],.int k (if b<a then b else a),regs⟩
  |_=>none
 |.call { callee:=.builtin .max,args,.. }=>match args.toList.map (aev env)with
  |[.p (.v (.int k a)),.p (.v (.int _ b))]=>some ⟨[],.int k (if a<b then b else a),regs⟩
  |_=>none
 |_=>none
end
def Vb:List AV->Option (List PV)
 |[]=>some []
 |.p x::r=>match Vb r with
  |some l=>some (nP x::l)
  |none=>none
 |_::_=>none
def Oy (P:Program)(env:Env)(o:Op):Option (List Prop×PV):=
 match o with
 |.buildSlice t n parts=>match tk P t with
  |some (.slice e)=>match Vb (parts.toList.map fun q=>aev env q.2),tsz P e,Ou P e with
   |some l,some m,some z=>if (n*m<=16777216/\n<=16777216)/\z.length=m/\z.all Hu then
    some ([FV n m (parts.toList.map (·.1)) l=true],.sl true m n (E4 z ((parts.toList.map (·.1)).zip (l.map Z9))))
    else none
   |_,_,_=>none
  |_=>none
 |_=>none
end Go.AM
namespace Go.AM
inductive Jd where
 |normal
 |exit (id:Nat)
 |goto (l:Nat)
 |ret
 |panic (x:PV)
inductive Je where
 |ret (a:AV)
 |panic (x:PV)
def idx (ids:List Nat)(j:Nat):Option Nat:=
 match ids with
 |[]=>none
 |i::r=>if i=j then some 0 else match idx r j with
  |some n=>some (n+1)
  |none=>none
mutual
def Ot (ids:List Nat)(a:AV):Option AV:=
 match a with
 |.p x=>some (.p (nP x))
 |.reg j off=>match idx ids j with|some j=>some (.reg j off)|none=>none
 |.vec j=>match idx ids j with|some j=>some (.vec j)|none=>none
 |.vecp j n=>match idx ids j with|some j=>some (.vecp j n)|none=>none
 |.elt j k i off=>match idx ids j with|some j=>some (.elt j k i off)|none=>none
 |.mref j=>match idx ids j with|some j=>some (.mref j)|none=>none
 |.clo f a b=>match BN ids a,BN ids b with|some a,some b=>some (.clo f a b)|_,_=>none
 |.tup a=>match BN ids a with|some a=>some (.tup a)|none=>none
 |.agr a=>match BN ids a with|some a=>some (.agr a)|none=>none
 |.yf j=>match idx ids j with|some j=>some (.yf j)|none=>none
 |.top=>some .top
def BN (ids:List Nat)(l:List AV):Option (List AV):=
 match l with
 |[]=>some []
 |a::r=>match Ot ids a,BN ids r with
  |some a,some r=>some (a::r)
  |_,_=>none
end
mutual
def unA (ids:List Nat)(a:AV):AV:=
 match a with
 |.p x=>.p x
 |.reg j off=>.reg (ids.getD j 0) off
 |.vec j=>.vec (ids.getD j 0)
 |.vecp j n=>.vecp (ids.getD j 0) n
 |.elt j k i off=>.elt (ids.getD j 0) k i off
 |.mref j=>.mref (ids.getD j 0)
 |.clo f a b=>.clo f (unL ids a) (unL ids b)
 |.tup a=>.tup (unL ids a)
 |.agr a=>.agr (unL ids a)
 |.yf j=>.yf (ids.getD j 0)
 |.top=>.top
def unL (ids:List Nat)(l:List AV):List AV:=
 match l with
 |[]=>[]
 |a::r=>unA ids a::unL ids r
end
def MQ (ids:List Nat):Obj->Option Obj
 |.cells cs=>match BN ids cs with|some cs=>some (.cells cs)|none=>none
 |.vec e k n f vw=>some (.vec e k n f vw)
 |.map es=>some (.map es)
 |.arr n f=>some (.arr n f)
 |.ghost cs=>match BN ids cs with|some cs=>some (.ghost cs)|none=>none
 |.yld r b=>some (.yld r b)
 |.fam e n jr x=>match x,idx ids jr with|none,some jr=>some (.fam e n jr none)|_,_=>none
 |.rows n g=>some (.rows n g)
 |.dead=>some .dead
def unO (ids:List Nat):Obj->Obj
 |.cells cs=>.cells (unL ids cs)
 |.ghost cs=>.ghost (unL ids cs)
 |.fam e n jr x=>.fam e n (ids.getD jr 0) (match x with|none=>none|some (i,a)=>some (i,unA ids a))
 |o=>o
def H8 (ids:List Nat)(regs:C4):List Nat->Option (List Obj)
 |[]=>some []
 |j::r=>match A1 regs j with
  |some o=>match MQ ids o,H8 ids regs r with
   |some o,some l=>some (o::l)
   |_,_=>none
  |none=>none
def KS (regs:C4):List AV->Option (List AV×C4)
 |[]=>some ([],regs)
 |a::r=>
  match (match a with | .vec _ | .vecp _ _=>(match Gv regs a with|some (x,regs)=>some (AV.p x,regs)|none=>none)|a=>some (a,regs):Option (AV×C4))with
  |some (a,regs)=>match KS regs r with
   |some (l,regs)=>some (a::l,regs)
   |none=>none
  |none=>none
def F0:List Nat->Bool
 |[]=>true
 |a::r=>!r.contains a&&F0 r
structure X1 where
 F:FuncId->List AV->List Obj->(Je->List Obj->List Bool->Prop)->Prop
 up:St->(St->Prop)->Prop
variable (S:X1) (P:Program)
def put (st:St)(d:Option Nat)(a:AV):St:=
 match d with
 |some d=>{ st with env:=ins d a st.env }
 |none=>st
def UR (all:List Nat):List Nat->List Obj->C4->C4
 |j::ids,o::objs,regs=>UR all ids objs (ins j (unO all o) regs)
 |_,_,regs=>regs
def K8 (d:Nat)(ids:List Nat)(ks:List Bool)(n:Nat):List Nat:=(List.range n).map fun p=>
 match ids[p]?,ks[p]? with
 |some j,some true=>j
 |_,_=>nid d p
def K9:List Nat->List Bool->C4->C4
 |j::ids,k::ks,regs=>if k then K9 ids ks regs else K9 ids ks (ins j .dead regs)
 |j::ids,[],regs=>K9 ids [] (ins j .dead regs)
 |[],_,regs=>regs
def unRes (ids:List Nat):Je->Je
 |.ret a=>.ret (unA ids a)
 |.panic x=>.panic x
def BW (regs:C4)(ids:List Nat)(ks:List Bool)(d n:Nat):Bool:=(List.range n).all fun p=>
 match ids[p]?,ks[p]? with
 |some _,some true=>true
 |_,_=>(A1 regs (nid d p)).isNone
def Df:List Obj->Bool
 |[]=>true
 |.yld _ _::_=>false
 |_::r=>Df r
def Vc (d:Nat)(ids:List Nat)(f:FuncId)(args:List AV)(st:St)(K:Je->St->Prop):Prop:=
 ∃args' objs,F0 ids=true/\BN ids args=some args' /\ H8 ids st.regs ids=some objs/\Df objs=true /\
  S.F f args' objs fun r objs' ks=>
   BW st.regs ids ks d objs'.length=true /\
   K (unRes (K8 d ids ks objs'.length) r)
    { env:=st.env,regs:=UR (K8 d ids ks objs'.length) (K8 d ids ks objs'.length) objs' (K9 ids ks st.regs) }
def Qt (env:Env)(f:Operand)(args:List AV):Option (FuncId×List AV):=
 match aev env f with
 |.clo f first caps=>some (f,first++args++caps)
 |.p (.v (.func (.func f) x y))=>match x.toList,y.toList with
  |[],[]=>some (f,args)
  |_,_=>none
 |.p (.fn f first caps)=>some (f,first.map .p++args++caps.map .p)
 |_=>none
def CF (env:Env)(f:Operand):Option (FuncId×List AV×List AV):=
 match aev env f with
 |.clo f first caps=>some (f,first,caps)
 |.p (.v (.func (.func f) x y))=>match x.toList,y.toList with
  |[],[]=>some (f,[],[])
  |_,_=>none
 |.p (.fn f first caps)=>some (f,first.map .p,caps.map .p)
 |_=>none
def Ep (ops:List Oper)(j:Nat):Nat:=match ops[j]? with
 |some o=>o.dst.getD 0
 |none=>0
def Jf:AV->Option Bool
 |.p (.v (.bool b))=>some b
 |.p (.bb b)=>some b
 |_=>none
def yv:AV->Option (Option Bool)
 |.p (.v (.bool b))=>some (some b)
 |.p (.bb b)=>some (some b)
 |.p (.v (.tuple _))=>some none
 |_=>none
abbrev Ak:AV:=Tm
abbrev H6:=Jd->St->Prop
def HY (d:Option Nat)(k:St->Prop)(Q:H6):Je->St->Prop
 |.ret a,st=>k (put st d a)
 |.panic x,st=>Q (.panic x) st
def D0:List Prop->Prop
 |[]=>True
 |[p]=>p
 |p::r=>D0 r/\p
theorem Jg (p:Prop)(r:List Prop):D0 (p::r)↔D0 r/\p:=by
 cases r with
 |nil=>exact⟨fun h=>⟨trivial,h⟩,fun h=>h.2⟩
 |cons q s=>exact Iff.rfl
theorem BX (c d:List Prop):D0 (c++d)↔D0 d/\D0 c:=by
 induction c with
 |nil=>exact⟨fun h=>⟨h,trivial⟩,fun h=>h.1⟩
 |cons p c ih=>simp only[List.cons_append,Jg,ih];exact and_assoc
def leP0 (x y:PV):Prop:=
 x=y \/ (∃nn k n f g,x=.sl nn k n f/\y=.sl false k n g/\∀i,i<n->f i=g i) \/ (∃k f,x=.v (.slice none 0 0)/\y=.sl false k 0 f)
def Zc:List PV->List PV->Prop
 |[],[]=>True
 |x::r,y::s=>leP0 x y/\Zc r s
 |_,_=>False
def DC (j:Nat):C4->Bool
 |[]=>true
 |(i,.yld _ _)::r=>i==j&&DC j r
 |_::r=>DC j r
def Oz (P:Program)(t:TypeId)(m:String):Option FuncId:=
 match P.info? t,P.underlying t with
 |some i,some d=>match d with
  |.pointer _=>none
  |_=>match i.methods.find? (·.name==m)with
   |some q=>match q.path.toList,q.func with
    |[],some (f,false)=>some f
    |_,_=>none
   |none=>none
 |_,_=>none
def Ac9 (regs:C4)(l l' : List AV)(regs' : C4):Prop:=KS regs l=some (l',regs') \/ (l' = l/\regs' = regs)
def wOp (o:Oper)(k:St->Prop)(Q:H6)(st:St):Prop:=
 match o.op with
 |.call { callee:=.value f,args,.. }=>
  (∃as regs f' as',Ac9 st.regs (args.toList.map (aev st.env)) as regs/\Qt st.env f as=some (f',as') /\
   ∃ids,Vc S (o.dst.getD 0) ids f' as' { st with regs } (HY o.dst k Q)) \/
  (∃j xs regs ys rest,aev st.env f=.yf j/\Hv st.regs (args.toList.map (aev st.env))=some (xs,regs)/\A1 regs j=some (.yld (ys::rest) true)/\DC j regs=true/\Zc xs ys /\
   ∀b:Bool,k (put { st with regs:=ins j (.yld (if b then rest else []) b) regs } o.dst (.p (.bb b))))
 |.call { callee:=.invoke recv m,args,.. }=>
  ∃as regs t y f',KS st.regs (args.toList.map (aev st.env))=some (as,regs)/\aev st.env recv=.p (.iface t y)/\Oz P t m=some f' /\
   ∃ids,Vc S (o.dst.getD 0) ids f' (.p y::as) { st with regs } (HY o.dst k Q)
 |.panic x=>∃t y,aev st.env x=.p (.iface t y)/\Q (.panic (.iface t y)) st
 |op=>(∃out,aop P st.env st.regs (o.dst.getD 0) op=some out/\D0 out.cond/\k (put { st with regs:=out.regs } o.dst out.val)) \/
  ∃c x,Oy P st.env op=some (c,x)/\D0 c/\k (put st o.dst (.p x))
def Ht (all:List Oper):List Oper->H6->St->Prop
 |[],Q,st=>Q .normal st
 |o::rest,Q,st0=>S.up st0 fun st=>
  match o.guard with
  |none=>wOp S P o (Ht all rest Q) Q st
  |some (j,want)=>∃b,yv (get st.env (Ep all j))=some b /\
   if b=some want then wOp S P o (Ht all rest Q) Q st else Ht all rest Q (put st o.dst Ak)
def thn (K:St->Prop)(Q:H6):H6
 |.normal,s=>S.up s K
 |e,s=>Q e s
def blk (id:Nat)(Q:H6):H6
 |.exit i,s=>if i=id then Q .normal s else Q (.exit i) s
 |e,s=>Q e s
def lop {X:Type}(s:X->St)(J:X->Prop)(m:X->Nat)(n:Nat)(Q:H6):H6
 |.normal,t=>S.up t fun t'=>∃x,t' = s x/\J x/\m x<n
 |e,t=>Q e t
def scp (Q:H6):H6
 |.goto _,_=>False
 |e,s=>Q e s
def KX (all:List Oper)(o:Oper)(k:St->Prop)(Q:H6)(st0:St):Prop:=S.up st0 fun st=>
 match o.guard with
 |none=>wOp S P o k Q st
 |some (j,want)=>∃b,yv (get st.env (Ep all j))=some b /\
  if b=some want then wOp S P o k Q st else k (put st o.dst Ak)
def CG (e:Edge):Bool:=Region.binds .any e
def HZ (ops:List Oper):Bool:=(List.range ops.length).all fun i=>match ops[i]? with
 |some o=>o.after.toList.all fun e=>!CG e||decide (e.on<i)
 |none=>true
def WS (ops:List Oper)(Q:H6)(st:St):Prop:=
 P.follows .mixedOrders=true/\HZ ops=true/\∃Inv:(Nat->Bool)->St->Prop,Inv (fun _=>false) st /\
  (∀D i s o,Inv D s->ops[i]? = some o->D i=false->(∀e∈o.after.toList,CG e=true->D e.on=true) ->
   KX S P ops o (Inv fun j=>if j=i then true else D j) Q s) /\
  ∀D s,Inv D s->(∀i,i<ops.length->D i=true)->S.up s (Q .normal)
def Fz (n:Nat)(all:List Oper)(o:Oper):Bool:=
 (match o.dst with|some d=>Nat.blt d n|none=>true) &&
 (match o.guard with|some (j,_)=>(match all[j]? with|some o'=>o'.dst.isSome|none=>false)|none=>true)
def X2 (n:Nat):Code->Bool
 |.region _ ops _=>ops.toList.all (Fz n ops.toList)
 |.seq a b | .cond _ a b=>X2 n a&&X2 n b
 |.rangeFunc _ ps a b=>ps.toList.all (fun t=>Nat.blt t n)&&X2 n a&&X2 n b
 |.block _ b | .loop b | .scope b=>X2 n b
 |_=>true
def R8:List Nat->List AV->Env
 |t::ts,a::l=>(t,a)::R8 ts l
 |_,_=>[]
def Gx:List Nat->List PV->Env->Env
 |t::ts,x::l,env=>Gx ts l (ins t (.p x) env)
 |_,_,env=>env
def CH (g:Nat)(ts:List Nat)(next:St->Prop)(Q:H6):H6
 |.normal,s=>S.up s fun s=>∃cs,A1 s.regs g=some (.ghost cs)/\cs.length=ts.length/\A1 (del g s.regs) g=none/\next ⟨R8 ts cs,del g s.regs⟩
 |.panic _,_=>False
 |e,s=>S.up s fun s=>∃cs,A1 s.regs g=some (.ghost cs)/\cs.length=ts.length/\A1 (del g s.regs) g=none/\Q e ⟨R8 ts cs,del g s.regs⟩
def Ad0 (g:Operand)(ps:Array Tmp)(wa:H6->St->Prop)(wb:H6->St->Prop)(Q:H6)(st:St):Prop:=
 ∃(f:FuncId) (first caps as bs:List AV) (objs:List Obj) (ids ts:List Nat) (gh:Nat) (L:List (List PV)) (I:List (List PV)->St->Prop) (Fin:Bool->Je->Prop),
  CF st.env g=some (f,first,caps) /\
  (∃fn,P.funcs[f]? = some fn/\fn.body.isSome=true/\(fn.name == "runtime.NumGoroutine")=false)/\Df objs=true /\
  F0 ids=true/\BN ids first=some as/\BN ids caps=some bs/\H8 ids st.regs ids=some objs/\gh<1000/\A1 st.regs gh=none/\ids.length<1000/\ts.Nodup /\
  (∀ys∈L,ys.length=ps.size) /\
  S.up ⟨R8 ts (ts.map (get st.env)),K9 ids (ids.map fun _=>false) st.regs⟩ (fun s=>s.env.map (·.1)=ts/\A1 s.regs gh=none/\I L s) /\
  (∀ys rest s,s.env.map (·.1)=ts->A1 s.regs gh=none->I (ys::rest) s ->
   wa (fun e s'=>match e with
    |.normal=>S.up s' fun s'=>wb (CH S gh ts (I rest) Q) s'
    |_=>False) ⟨Gx ps.toList ys s.env,ins gh (.ghost (s.env.map (·.2))) s.regs⟩) /\
  (∀s r,s.env.map (·.1)=ts->A1 s.regs gh=none->I [] s->Fin true r->match r with
   |.ret _=>Q .normal s
   |.panic x=>Q (.panic x) s) /\
  S.F f (as ++ .yf ids.length::bs) (objs++[.yld L true]) fun r objs' ks=>∃b,objs'[ids.length]? = some (.yld [] b)/\ks[ids.length]? = some true/\Fin b r/\(b=false->∃a,r=.ret a)
def awp:Code->H6->St->Prop
 |.skip,Q,st=>Q .normal st
 |.label _,Q,st=>Q .normal st
 |.region _ ops draw,Q,st=>if draw then WS S P ops.toList Q st else Ht S P ops.toList ops.toList Q st
 |.seq a b,Q,st=>awp a (thn S (awp b Q) Q) st
 |.cond c t e,Q,st=>∃b,Jf (aev st.env c)=some b/\if b then awp t Q st else awp e Q st
 |.block id b,Q,st=>awp b (blk id Q) st
 |.loop b,Q,st=>∃(X:Type) (s:X->St) (J:X->Prop) (m:X->Nat),S.up st (fun t=>∃x,t=s x/\J x)/\∀x,J x->awp b (lop S s J m (m x) Q) (s x)
 |.scope b,Q,st=>awp b (scp Q) st
 |.exit id,Q,st=>Q (.exit id) st
 |.goto l,Q,st=>Q (.goto l) st
 |.ret,Q,st=>Q .ret st
 |.rangeFunc g ps asg body,Q,st=>Ad0 S P g ps (awp asg) (awp body) Q st
 |.refuse _,_,_=>False
def Vd (st:St):ResultVar->Option AV
 |.tmp t=>some (get st.env t)
 |.cell a t=>match load P st.regs t (get st.env a)with
  |some ([],a)=>some a
  |_=>none
def Ew (st:St):List ResultVar->Option (List AV)
 |[]=>some []
 |r::rs=>match Vd P st r,Ew st rs with
  |some a,some l=>some (a::l)
  |_,_=>none
def one:List AV->AV
 |[a]=>a
 |l=>.tup l
def argEnv (args:List AV):Env:=go 0 args []
where
 go (n:Nat):List AV->Env->Env
  |[],acc=>acc
  |a::r,acc=>go (n+1) r ((n,a)::acc)
def objRegs (objs:List Obj):C4:=go 0 objs []
where
 go (n:Nat):List Obj->C4->C4
  |[],acc=>acc
  |a::r,acc=>go (n+1) r ((n,a)::acc)
def Ee (n:Nat)(outs:List Nat):List Bool:=(List.range n).map fun i=>outs.getD i 1000==i
def AX (n:Nat)(rs:List ResultVar)(Q:Je->List Obj->List Bool->Prop):H6
 |.normal,st | .ret,st=>S.up st fun st1=>∃l outs a objs,Ew P st1 rs=some l/\F0 outs=true/\Ot outs (one l)=some a/\H8 outs st1.regs outs=some objs/\Q (.ret a) objs (Ee n outs)
 |.panic x,st=>∃outs objs,F0 outs=true/\H8 outs st.regs outs=some objs/\Q (.panic x) objs (Ee n outs)
 |_,_=>False
def viewP (regs:C4):AV->Option PV
 |.p x=>some x
 |.vec j=>match A1 regs j with
  |some (.vec _ k n f _)=>some (.sl false k n f)
  |_=>none
 |.vecp j m=>match A1 regs j with
  |some (.vec _ k n f _)=>some (.sl false k (min m n) f)
  |_=>none
 |.clo f [] []=>some (.v (.func (.func f) #[] #[]))
 |.clo f a b=>match Oq a,Oq b with
  |some a,some b=>some (.fn f a b)
  |_,_=>none
 |_=>none
def leP (x y:PV):Prop:=
 x=y \/ (∃nn k n f g,x=.sl nn k n f/\y=.sl false k n g/\∀i,i<n->f i=g i) \/ (∃k f,x=.v (.slice none 0 0)/\y=.sl false k 0 f) \/ (∃b,x=.v (.bool b)/\y=.bb b) \/ (∃b,x=.bb b/\y=.v (.bool b))
def lk (ids:List (Nat×Nat))(j:Nat):Option Nat:=
 match ids with
 |[]=>none
 |(a,b)::r=>if a=j then some b else lk r j
mutual
def leA (regs:C4)(ids:List (Nat×Nat))(a b:AV):Prop:=
 match b with
 |.top=>True
 |.p y=>∃x,viewP regs a=some x/\leP x y
 |.reg j off=>∃i,lk ids j=some i/\a=.reg i off
 |.vec j=>(∃i,lk ids j=some i/\a=.vec i) \/ (lk ids j=none/\a=.p (.v (.slice none 0 0)))
 |.vecp j n=>∃i,lk ids j=some i/\a=.vecp i n
 |.elt j k n off=>∃i,lk ids j=some i/\a=.elt i k n off
 |.mref j=>∃i,lk ids j=some i/\a=.mref i
 |.clo f x y=>∃x' y',a=.clo f x' y' /\ leL regs ids x' x/\leL regs ids y' y
 |.tup l=>∃l',a=.tup l' /\ leL regs ids l' l
 |.agr l=>∃l',a=.agr l' /\ leL regs ids l' l
 |.yf j=>∃i,lk ids j=some i/\a=.yf i
def leL (regs:C4)(ids:List (Nat×Nat))(a b:List AV):Prop:=
 match b with
 |[]=>a=[]
 |y::s=>∃x r,a=x::r/\leA regs ids x y/\leL regs ids r s
end
def Ve (regs:C4)(ids:List (Nat×Nat))(env:Env):Env->Prop
 |[]=>True
 |(t,b)::r=>leA regs ids (get env t) b/\Ve regs ids env r
def nov:AV->AV->Bool
 |.p _,.p _|_,.vec _|_,.mref _|_,.top=>true
 |_,_=>false
def leO (regs:C4)(ids:List (Nat×Nat))(o p:Obj):Prop:=
 match p with
 |.cells cs=>∃cs',o=.cells cs' /\ leL regs ids cs' cs
 |.vec e k n f vw=>∃g vw',o=.vec e k n g vw' /\ (∀i,i<n->g i=f i)/\(vw' = true->vw=true)
 |.map es=>o=.map es
 |.arr n f=>∃g,o=.arr n g/\∀i,i<n->g i=f i
 |.ghost cs=>∃cs',o=.ghost cs' /\ leL regs ids cs' cs
 |.yld r b=>o=.yld r b
 |.fam e n jr x=>∃jr' x',o=.fam e n jr' x' /\ lk ids jr=some jr' /\ match x with
  |none=>x' = none
  |some (i,a)=>∃a',x' = some (i,a')/\nov a' a=true/\leA regs ids a' a
 |.rows n g=>∃g',o=.rows n g' /\ ∀i,i<n->g' i=g i
 |.dead=>True
def OA (regs:C4)(ids:List (Nat×Nat)):C4->Prop
 |[]=>True
 |(j,p)::r=>((∃i o,lk ids j=some i/\A1 regs i=some o/\leO regs ids o p) \/ (lk ids j=none/\∃e k f vw,p=.vec e k 0 f vw))/\OA regs ids r
def WT {α : Type}:List (Nat × α)->Bool
 |(a,_)::(b,y)::r=>b<a&&WT ((b,y)::r)
 |_=>true
mutual
def inA (js:List Nat)(a:AV):Bool:=
 match a with
 |.p _ | .top=>true
 |.reg j _ | .vec j | .vecp j _ | .elt j _ _ _ | .mref j | .yf j=>js.contains j
 |.clo _ a b=>inL js a&&inL js b
 |.tup a | .agr a=>inL js a
def inL (js:List Nat)(l:List AV):Bool:=
 match l with
 |[]=>true
 |a::r=>inA js a&&inL js r
end
def inO (js:List Nat):Obj->Bool
 |.cells cs | .ghost cs=>inL js cs
 |.fam _ _ jr x=>js.contains jr&&(match x with|some (_,a)=>inA js a|none=>true)
 |_=>true
def wf (st:St):Bool:=
 WT st.env&&WT st.regs&&st.env.all (fun p=>inA (st.regs.map (·.1)) p.2)&&st.regs.all (fun p=>inO (st.regs.map (·.1)) p.2)
mutual
def Gy (a b:AV):List Nat:=
 match b with
 |.p _=>match a with | .vec j | .vecp j _=>[j] | _=>[]
 |.clo _ x y=>match a with | .clo _ x' y'=>Jh x' x++Jh y' y|_=>[]
 |.tup l=>match a with | .tup l'=>Jh l' l|_=>[]
 |.agr l=>match a with | .agr l'=>Jh l' l|_=>[]
 |_=>[]
def Jh (a b:List AV):List Nat:=
 match b with
 |[]=>[]
 |y::s=>match a with
  |x::r=>Gy x y++Jh r s
  |[]=>[]
end
def WU (env:Env):Env->List Nat
 |[]=>[]
 |(t,b)::r=>Gy (get env t) b++WU env r
def Gz (ids:List (Nat×Nat))(regs:C4):C4->List Nat
 |[]=>[]
 |(j,.cells cs)::r=>(match lk ids j with
  |some i=>match A1 regs i with
   |some (.cells cs')=>Jh cs' cs
   |_=>[]
  |none=>[])++Gz ids regs r
 |(j,.ghost cs)::r=>(match lk ids j with
  |some i=>match A1 regs i with
   |some (.ghost cs')=>Jh cs' cs
   |_=>[]
  |none=>[])++Gz ids regs r
 |_::r=>Gz ids regs r
def Ia (ids:List (Nat×Nat))(js:List Nat):C4->Bool
 |[]=>true
 |(j,.vec _ _ _ _ false)::r=>(match lk ids j with|some i=>!js.contains i|none=>true)&&Ia ids js r
 |_::r=>Ia ids js r
def Tn:List (Nat×Nat)->Bool
 |[]=>true
 |(j,i)::r=>(j==i||1000<=j)&&Tn r
def LQ (ids:List (Nat×Nat)):C4->Bool
 |[]=>true
 |(j,_)::r=>((lk ids j).isSome||1000<=j)&&LQ ids r
def Le (ids:List (Nat×Nat))(s t:St):Prop:=
 (wf t=true/\F0 (ids.map (·.2))=true/\Tn ids=true/\LQ ids t.regs=true/\Ia ids (WU s.env t.env++Gz ids s.regs t.regs) t.regs=true)/\Ve s.regs ids s.env t.env/\OA s.regs ids t.regs
def frzA (j:Nat)(ps:List PV):AV->AV
 |.reg i o=>if i=j then .p (.ptr (ps.drop o))else .reg i o
 |a=>a
def US (j:Nat)(ps:List PV):Env->Env
 |[]=>[]
 |(t,a)::r=>(t,frzA j ps a)::US j ps r
def WV (j n j' : Nat):AV->AV
 |.vecp i m=>if i=j/\m=n then .vec j' else .vecp i m
 |a=>a
def YA (j n j' : Nat):Env->Env
 |[]=>[]
 |(t,a)::r=>(t,WV j n j' a)::YA j n j' r
def YB (j n j' : Nat):List AV->List AV
 |[]=>[]
 |a::r=>WV j n j' a::YB j n j' r
def Ac2 (j n j' : Nat):Obj->Obj
 |.cells cs=>.cells (YB j n j' cs)
 |o=>o
def Sd (j n j' : Nat):C4->C4
 |[]=>[]
 |(t,o)::r=>(t,Ac2 j n j' o)::Sd j n j' r
def Vf (n:Nat)(f:Nat->PV):List AV:=(List.range n).map fun i=>.p (f i)
def leC (l m:List PV):Prop:=l.length=m.length/\∀j,leP (l.getD j default) (m.getD j default)
def leQ (x y:PV):Prop:=leP x y \/ (∃nn k n f g,x=.sl nn k n f/\y=.sl false k n g/\∀i,i<n->leC (f i) (g i)) \/ ∃xs ys,x=.agg xs/\y=.agg ys/\leC xs ys
def OB:List AV->List AV->Prop
 |[],[]=>True
 |a::r,b::s=>(a=b \/ ∃x y,a=.p x/\b=.p y/\leQ x y)/\OB r s
 |_,_=>False
inductive To where
 |fam (j jr:Nat) (g:Nat->Obj)
 |take (j i j' : Nat)
 |over (j i:Nat)
 |put (j jr:Nat)
 |pub (j:Nat)
def Vg (f:List PV):Obj->Prop
 |.vec _ _ 0 _ false=>f=[.v (.slice none 0 0)]
 |.ghost [.p x]=>f=[x]/\Hu x=true
 |_=>False
def rowA (j' : Nat):Obj->Option (AV×Obj)
 |.vec e k n f false=>some (.vec j', .vec e k n f false)
 |.map es=>some (.mref j', .map es)
 |.ghost [.p x]=>some (.p x,.dead)
 |_=>none
def Vh:Obj->Option PV
 |.vec _ k n f false=>some (.sl false k n f)
 |.ghost [.p x]=>some x
 |_=>none
def ofA (regs:C4):AV->Option (Option Nat×Obj)
 |.vec j'=>match A1 regs j' with
  |some (.vec e k l f false)=>some (some j', .vec e k l f false)
  |_=>none
 |.mref j'=>match A1 regs j' with
  |some (.map es)=>some (some j', .map es)
  |_=>none
 |.p x=>some (none,.ghost [.p x])
 |_=>none
def Vi (jo:Option Nat)(regs:C4):C4:=match jo with
 |some j=>ins j .dead regs
 |none=>regs
def Y7 (op:To)(st:St):Option (List Prop×St):=
 match op with
 |.fam j jr g=>match A1 st.regs j,A1 st.regs jr with
  |some (.vec e 1 n f false),none=>some ([1000<=jr/\∀i,i<n->Vg (f i) (g i)],⟨st.env,ins jr (.rows n g) (ins j (.fam e n jr none) st.regs)⟩)
  |_,_=>none
 |.take j i j'=>match A1 st.regs j,A1 st.regs j' with
  |some (.fam e n jr none),none=>match A1 st.regs jr with
   |some (.rows m g)=>match rowA j' (g i)with
    |some (a,o)=>some ([(1000<=j' /\ m=n)/\i<n],⟨st.env,ins j' o (ins jr (.rows n fun l=>if l=i then .dead else g l) (ins j (.fam e n jr (some (i,a))) st.regs))⟩)
    |none=>none
   |_=>none
  |_,_=>none
 |.over j i=>match A1 st.regs j with
  |some (.fam e n jr none)=>match A1 st.regs jr with
   |some (.rows m g)=>some ([m=n/\i<n],⟨st.env,ins jr (.rows n fun l=>if l=i then .dead else g l) (ins j (.fam e n jr (some (i,.top))) st.regs)⟩)
   |_=>none
  |_=>none
 |.put j jr'=>match A1 st.regs j,A1 st.regs jr' with
  |some (.fam e n jr (some (i,a))),none=>match A1 st.regs jr,ofA st.regs a with
   |some (.rows m g),some (jo,o)=>some ([(1000<=jr' /\ m=n)/\i<n],⟨st.env,ins jr' (.rows n fun q=>if q=i then o else g q) (Vi jo (ins jr .dead (ins j (.fam e n jr' none) st.regs)))⟩)
   |_,_=>none
  |_,_=>none
 |.pub j=>match A1 st.regs j with
  |some (.fam e n jr none)=>match A1 st.regs jr with
   |some (.rows m g)=>some ([m=n/\∀i,i<n->(Vh (g i)).isSome=true],⟨st.env,ins jr .dead (ins j (.vec e 1 n (fun i=>[(Vh (g i)).getD default]) false) st.regs)⟩)
   |_=>none
  |_=>none
def MR (a b:AV):Prop:=a=.top \/ a=b \/ ∃x,a=.p (.bb x)/\b=.p (.v (.bool x))
structure F4:Prop where
 refl:∀s K,K s->S.up s K
 trans:∀s K,S.up s (fun t=>S.up t K)->S.up s K
 mono:∀s K K',(∀t,K t->K' t)->S.up s K->S.up s K'
 bool:∀(st:St) (t:Nat) (b:Bool) K,get st.env t=.p (.bb b)->K ⟨ins t (.p (.v (.bool b))) st.env,st.regs⟩->S.up st K
 nil:∀(st:St) (t:Nat) (k n:Nat) (f:Nat->List PV) K,get st.env t=.p (.sl false k n f) ->
  (n=0->K ⟨ins t (.p (.v (.slice none 0 0))) st.env,st.regs⟩)->K ⟨ins t (.p (.sl true k n f)) st.env,st.regs⟩->S.up st K
 frz:∀(st:St) (j:Nat) (ps:List PV) K,A1 st.regs j=some (.cells (ps.map .p))->K ⟨US j ps st.env,ins j .dead st.regs⟩->S.up st K
 trunc:∀(st:St) (j j' n N k:Nat) (e:TypeId) (f:Nat->List PV) K,A1 st.regs j=some (.vec e k N f false)->n<=N->A1 st.regs j' = none->1000<=j' -> K ⟨YA j n j' st.env,ins j' (.vec e k n f false) (ins j .dead (Sd j n j' st.regs))⟩->S.up st K
 toArr:∀(st:St) (j n:Nat) (f:Nat->PV) K,A1 st.regs j=some (.cells (Vf n f))->K ⟨st.env,ins j (.arr n f) st.regs⟩->S.up st K
 ofArr:∀(st:St) (j n:Nat) (f:Nat->PV) K,A1 st.regs j=some (.arr n f)->K ⟨st.env,ins j (.cells (Vf n f)) st.regs⟩->S.up st K
 vecq:∀(st:St) (j n k:Nat) (e:TypeId) (f g:Nat->List PV) (vw:Bool) K,A1 st.regs j=some (.vec e k n f vw)->(∀i,i<n->leC (f i) (g i))->K ⟨st.env,ins j (.vec e k n g vw) st.regs⟩->S.up st K
 le:∀ids s t K,Le ids s t->K t->S.up s K
 fam:∀(op:To) (s t:St) (c:List Prop) K,Y7 op s=some (c,t)->D0 c->K t->S.up s K
 less:∀(s t:St) K,(∀x,MR (get t.env x) (get s.env x))->(∀j,A1 s.regs j=A1 t.regs j)->K t->S.up s K
 eqv:∀(s t:St) K,(∀x,get s.env x=get t.env x)->(∀j,A1 s.regs j=A1 t.regs j)->K t->S.up s K
 func:∀f fn code args objs Q,P.funcs[f]? = some fn->fn.body=some code->(fn.name == "runtime.NumGoroutine")=false->X2 fn.ntmps code=true->args.length<=fn.ntmps->objs.length<1000 ->
  S.up { env:=argEnv args,regs:=objRegs objs } (awp S P code (AX S P objs.length fn.results.toList Q))->S.F f args objs Q
 argLe:∀f args args' objs Q,OB args args' -> S.F f args' objs Q->S.F f args objs Q
 monoF:∀f args objs Q Q',(∀r o y,Q r o y->Q' r o y)->S.F f args objs Q->S.F f args objs Q'
end Go.AM
namespace Go.AM
universe u
def fC {R:Type u}(c:List Prop)(d:List Prop)(κ : List Prop->R):R:=
 match c with
 |[]=>κ d
 |p::r=>fC r d fun d=>κ (p::d)
theorem Ad1 {R:Type u}(c d:List Prop)(κ : List Prop->R):fC c d κ = κ (c++d):=by
 induction c generalizing κ with
 |nil=>rfl
 |cons p r ih=>simp only[fC,ih,List.cons_append]
def fP {R:Type u}(x:PV)(κ : PV->R):R:=
 match x with
 |.v x=>match x with
  |.bool b=>κ (.v (.bool b))
  |.int k n=>κ (.v (.int k n))
  |x=>κ (.v x)
 |.bb b=>κ (.bb b)
 |.str l=>κ (.str l)
 |.agg cs=>κ (.agg cs)
 |.sl nn k n f=>κ (.sl nn k n f)
 |.ptr cs=>κ (.ptr cs)
 |.iface t a=>κ (.iface t a)
 |.fn f a b=>κ (.fn f a b)
mutual
def fA {R:Type u}(a:AV)(κ : AV->R):R:=
 match a with
 |.p x=>fP x fun x=>κ (.p x)
 |.reg j off=>κ (.reg j off)
 |.vec j=>κ (.vec j)
 |.vecp j n=>κ (.vecp j n)
 |.elt j k i off=>κ (.elt j k i off)
 |.mref j=>κ (.mref j)
 |.clo f a b=>fL a fun a=>fL b fun b=>κ (.clo f a b)
 |.tup l=>fL l fun l=>κ (.tup l)
 |.agr l=>fL l fun l=>κ (.agr l)
 |.yf j=>κ (.yf j)
 |.top=>κ .top
def fL {R:Type u}(l:List AV)(κ : List AV->R):R:=
 match l with
 |[]=>κ []
 |a::r=>fA a fun a=>fL r fun r=>κ (a::r)
end
def fO {R:Type u}(o:Obj)(κ : Obj->R):R:=
 match o with
 |.cells cs=>fL cs fun cs=>κ (.cells cs)
 |.vec e k n f vw=>κ (.vec e k n f vw)
 |.map es=>κ (.map es)
 |.arr n f=>κ (.arr n f)
 |.ghost cs=>fL cs fun cs=>κ (.ghost cs)
 |.yld r b=>κ (.yld r b)
 |.fam e n jr x=>match x with
  |none=>κ (.fam e n jr none)
  |some (i,a)=>fA a fun a=>κ (.fam e n jr (some (i,a)))
 |.rows n g=>κ (.rows n g)
 |.dead=>κ .dead
def fR {R:Type u}(l:C4)(κ : C4->R):R:=
 match l with
 |[]=>κ []
 |(j,o)::r=>fO o fun o=>fR r fun r=>κ ((j,o)::r)
def fE {R:Type u}(l:Env)(κ : Env->R):R:=
 match l with
 |[]=>κ []
 |(j,o)::r=>fA o fun o=>fE r fun r=>κ ((j,o)::r)
def Vj {α : Type}{R:Type u}(k:Nat)(a : α)(l:List (Nat × α))(κ : List (Nat × α)->R):R:=
 match l with
 |[]=>κ [(k,a)]
 |(i,b)::r=>if i<k then κ ((k,a)::(i,b)::r)else if i=k then κ ((k,a)::r)else Vj k a r fun r=>κ ((i,b)::r)
theorem fP_eq {R:Type u}(x:PV)(κ : PV->R):fP x κ = κ x:=by
 cases x<;>try rfl
 rename_i x;cases x<;>rfl
mutual
theorem Tp {R:Type u}(a:AV)(κ : AV->R):fA a κ = κ a:=by cases a<;>simp only[fA,fP_eq,Zd]
theorem Zd {R:Type u}(l:List AV)(κ : List AV->R):fL l κ = κ l:=by
 cases l with
 |nil=>rfl
 |cons a r=>simp only[fL,Tp a,Zd r]
end
theorem fO_eq {R:Type u}(o:Obj)(κ : Obj->R):fO o κ = κ o:=by
 cases o<;>simp only[fO,Zd];rename_i x;rcases x with _|⟨i,a⟩
 ·rfl
 ·simp only[Tp]
theorem Ze {R:Type u}(l:C4)(κ : C4->R):fR l κ = κ l:=by
 induction l generalizing κ with
 |nil=>rfl
 |cons a r ih=>simp only[fR,fO_eq,ih]
theorem fE_eq {R:Type u}(l:Env)(κ : Env->R):fE l κ = κ l:=by
 induction l generalizing κ with
 |nil=>rfl
 |cons a r ih=>simp only[fE,Tp,ih]
theorem FX {α : Type}{R:Type u}(k:Nat)(a : α)(l:List (Nat × α))(κ : List (Nat × α)->R):Vj k a l κ = κ (ins k a l):=by
 induction l generalizing κ with
 |nil=>rfl
 |cons p r ih=>simp only[Vj,ins];split;rfl;split;rfl;rw[ih]
def Zf:AV->Option Bool
 |.p (.v (.bool b))=>some b
 |_=>none
theorem LR {a:AV}{b:Bool}(h:Zf a=some b):Jf a=some b:=by
 unfold Zf at h;split at h
 ·simpa[Jf]using h
 ·cases h
def OC (want:Bool):AV->Option Bool
 |.p (.v (.bool true))=>some want
 |.p (.v (.bool false))=>some (!want)
 |.p (.v (.tuple _))=>some false
 |_=>none
theorem OD {want b:Bool}{a:AV}(h:OC want a=some b):∃v,yv a=some v/\(b=true↔v=some want):=by
 unfold OC at h;split at h
 ·cases h;exact⟨_,rfl,by cases want<;>simp⟩
 ·cases h;exact⟨_,rfl,by cases want<;>simp⟩
 ·cases h;exact⟨_,rfl,by simp⟩
 ·cases h
inductive It:Type 1 where
 |code (c:Code)
 |blk (id:Nat)
 |lp (X:Type) (s:X->St) (J:X->Prop) (m:X->Nat) (n:Nat)
 |mid (M:St->Prop)
 |scp
section
variable (S:X1) (P:Program)
def kp:List It->H6->H6
 |[],F=>F
 |.code c::K,F=>thn S (awp S P c (kp K F)) (kp K F)
 |.blk id::K,F=>blk id (kp K F)
 |.lp _ s J m n::K,F=>lop S s J m n (kp K F)
 |.mid M::K,F=>thn S M (kp K F)
 |.scp::K,F=>scp (kp K F)
inductive Cfg:Type 1 where
 |code (c:Code) (K:List It) (st:St)
 |ops (all rest:List Oper) (K:List It) (st:St)
 |pop (e:Jd) (K:List It) (st:St)
def G (F:H6):Cfg->Prop
 |.code c K st=>awp S P c (kp S P K F) st
 |.ops all rest K st=>Ht S P all rest (kp S P K F) st
 |.pop e K st=>kp S P K F e st
structure Res:Type 1 where
 conds:List Prop
 cfg:Cfg
def YC:Op->Bool
 |.lookup .. | .mapUpdate .. | .mapEntry .. | .entryStore .. | .panic _=>false
 |.call { callee:=.builtin _,.. }=>true
 |.call _=>false
 |_=>true
def isAt:Option Nat->Option Nat->Bool
 |some d,some e=>Nat.beq d e
 |_,_=>false
def WW (P:Program)(u:Option Nat)(all:List Oper)(K:List It):List Oper->List Prop->Env->C4->(List Prop->St->Res)->Res
 |[],c,env,regs,κ=>κ c ⟨env,regs⟩
 |o::rest,c,env,regs,κ=>
  match isAt u o.dst with
  |true=>⟨c,.ops all (o::rest) K ⟨env,regs⟩⟩
  |false=>match (match o.guard with
   |none=>some true
   |some (j,want)=>OC want (get env (Ep all j)):Option Bool)with
  |some true=>match YC o.op with
   |true=>match aop P env regs (o.dst.getD 0) o.op with
    |none=>⟨c,.ops all (o::rest) K ⟨env,regs⟩⟩
    |some ⟨p,v,regs'⟩=>fA v fun v=>fR regs' fun regs'=>fC p c fun c=>
     match o.dst with
     |some d=>Vj d v env fun env=>WW P u all K rest c env regs' κ
     |none=>WW P u all K rest c env regs' κ
   |false=>⟨c,.ops all (o::rest) K ⟨env,regs⟩⟩
  |some false=>match o.dst with
   |some d=>Vj d Ak env fun env=>WW P u all K rest c env regs κ
   |none=>WW P u all K rest c env regs κ
  |none=>⟨c,.ops all (o::rest) K ⟨env,regs⟩⟩
def run (P:Program)(u:Option Nat):Nat->List Prop->Cfg->Res
 |0,c,g=>⟨c,g⟩
 |n+1,c,g=>
  match g with
  |.code x K st=>match x with
   |.skip=>run P u n c (.pop .normal K st)
   |.label _=>run P u n c (.pop .normal K st)
   |.region _ ops false=>WW P u ops.toList K ops.toList c st.env st.regs fun c st=>run P u n c (.pop .normal K st)
   |.seq a b=>run P u n c (.code a (.code b::K) st)
   |.cond o t e=>match Zf (aev st.env o)with
    |some true=>run P u n c (.code t K st)
    |some false=>run P u n c (.code e K st)
    |none=>⟨c,.code (.cond o t e) K st⟩
   |.block id b=>run P u n c (.code b (.blk id::K) st)
   |.scope b=>run P u n c (.code b (.scp::K) st)
   |.exit id=>run P u n c (.pop (.exit id) K st)
   |.ret=>run P u n c (.pop .ret K st)
   |x=>⟨c,.code x K st⟩
  |.ops all rest K st=>WW P u all K rest c st.env st.regs fun c st=>run P u n c (.pop .normal K st)
  |.pop e K st=>match e,K with
   |.normal,.code x::K=>run P u n c (.code x K st)
   |.normal,.blk _::K=>run P u n c (.pop .normal K st)
   |.normal,.scp::K=>run P u n c (.pop .normal K st)
   |.exit i,.blk id::K=>if i=id then run P u n c (.pop .normal K st)else run P u n c (.pop (.exit i) K st)
   |.exit i,.code _::K=>run P u n c (.pop (.exit i) K st)
   |.exit i,.lp _ _ _ _ _::K=>run P u n c (.pop (.exit i) K st)
   |.exit i,.mid _::K=>run P u n c (.pop (.exit i) K st)
   |.exit i,.scp::K=>run P u n c (.pop (.exit i) K st)
   |.ret,_::K=>run P u n c (.pop .ret K st)
   |.panic x,_::K=>run P u n c (.pop (.panic x) K st)
   |e,K=>⟨c,.pop e K st⟩
end
section
variable {S:X1}{P:Program}{F:H6}
theorem IS {o:Oper}{k:St->Prop}{Q:H6}{st:St}{p:List Prop}{v:AV}{regs' : C4}(ha:YC o.op=true)
 (h:aop P st.env st.regs (o.dst.getD 0) o.op=some ⟨p,v,regs'⟩) (hp:D0 p) (hk:k (put { st with regs:=regs' } o.dst v)):wOp S P o k Q st:=by
 unfold wOp;split
 ·rename_i f args types he;rw[he]at ha;simp[YC]at ha
 ·rename_i r m args types he;rw[he]at ha;simp[YC]at ha
 ·rename_i x he;rw[he]at ha;simp[YC]at ha
 ·exact .inl ⟨_,h,hp,hk⟩
theorem Vk {u:Option Nat}(hS:F4 S P)(all:List Oper)(K:List It)(κ : List Prop->St->Res)
 (hκ : ∀c st,D0 (κ c st).conds->D0 c/\(G S P F (κ c st).cfg->kp S P K F .normal st)) :
 ∀(rest:List Oper) (c:List Prop) (env:Env) (regs:C4),D0 (WW P u all K rest c env regs κ).conds ->
  D0 c/\(G S P F (WW P u all K rest c env regs κ).cfg->Ht S P all rest (kp S P K F) ⟨env,regs⟩):=by
 intro rest
 induction rest with
 |nil=>intro c env regs h;exact hκ _ _ h
 |cons o rest ih=>
  intro c env regs h;simp only[WW]at h⊢;cases hu:isAt u o.dst with
  |true=>simp only[hu]at h⊢;exact⟨h,fun hw=>hw⟩
  |false=>
  simp only[hu]at h⊢;have hg:∀(b:Bool),(match o.guard with
   |none=>some true
   |some (j,want)=>OC want (get env (Ep all j)):Option Bool)=some b ->
    ((b=true->wOp S P o (Ht S P all rest (kp S P K F)) (kp S P K F) ⟨env,regs⟩->Ht S P all (o::rest) (kp S P K F) ⟨env,regs⟩) /\
     (b=false->Ht S P all rest (kp S P K F) (put ⟨env,regs⟩ o.dst Ak)->Ht S P all (o::rest) (kp S P K F) ⟨env,regs⟩)):=by
   intro b hb;cases hgd:o.guard with
   |none=>simp only[hgd]at hb;cases hb;exact⟨fun _ hw=>by simp only[Ht];refine hS.refl _ _ ?_;simp only[hgd];exact hw,fun h=>by cases h⟩
   |some q=>
    obtain⟨j,want⟩:=q;simp only[hgd]at hb;obtain⟨v,hv,hbv⟩:=OD hb;refine⟨fun ht hw=>?_,fun hf hw=>?_⟩
    ·simp only[Ht];refine hS.refl _ _ ?_;simp only[hgd];exact⟨v,hv,by rw[if_pos (hbv.1 ht)];exact hw⟩
    ·simp only[Ht];refine hS.refl _ _ ?_;simp only[hgd];exact⟨v,hv,by rw[if_neg (fun e=>by have:=hbv.2 e;rw[hf]at this;cases this)];exact hw⟩
  split at h
  ·rename_i hb;have hg:=(hg true (by simpa using hb)).1 rfl
   try simp only[hb]
   split at h
   ·rename_i ha
    try simp only[ha]
    split at h
    ·rename_i hn
     try simp only[hn]
     exact⟨h,fun hw=>hw⟩
    ·rename_i p v regs' hs;simp only[Tp,Ze,Ad1]at h⊢;cases hd:o.dst with
     |some d=>simp only[hd,FX]at h⊢;obtain⟨hcp,hk⟩:=ih _ _ _ h;obtain⟨hc,hp⟩:=(BX _ _).1 hcp;refine⟨hc,fun hG=>hg (IS ha hs hp ?_)⟩;rw[hd];exact hk hG
     |none=>simp only[hd]at h⊢;obtain⟨hcp,hk⟩:=ih _ _ _ h;obtain⟨hc,hp⟩:=(BX _ _).1 hcp;refine⟨hc,fun hG=>hg (IS ha hs hp ?_)⟩;rw[hd];exact hk hG
   ·rename_i ha
    try simp only[ha]
    exact⟨h,fun hw=>hw⟩
  ·rename_i hb;have hg:=(hg false (by simpa using hb)).2 rfl
   try simp only[hb]
   cases hd:o.dst with
   |some d=>simp only[hd,FX]at h⊢;obtain⟨hc,hk⟩:=ih _ _ _ h;exact⟨hc,fun hG=>hg (by rw[hd];exact hk hG)⟩
   |none=>simp only[hd]at h⊢;obtain⟨hc,hk⟩:=ih _ _ _ h;exact⟨hc,fun hG=>hg (by rw[hd];exact hk hG)⟩
  ·rename_i hb
   try simp only[hb]
   exact⟨h,fun hw=>hw⟩
theorem Ex {u:Option Nat}(hS:F4 S P):∀(n:Nat) (c:List Prop) (g:Cfg),D0 (run P u n c g).conds->D0 c/\(G S P F (run P u n c g).cfg->G S P F g):=by
 intro n
 induction n with
 |zero=>intro c g h;exact⟨h,fun hw=>hw⟩
 |succ n ih=>
  intro c g h;simp only[run]at h⊢;cases g with
  |code x K st=>
   cases x with
   |skip=>exact ih _ _ h
   |label l=>exact ih _ _ h
   |region id ops draw=>
    cases draw with
    |false=>obtain⟨hc,hk⟩:=Vk (S:=S) (F:=F) hS ops.toList K _ (fun c st h=>ih c (.pop .normal K st) h) _ _ _ _ h;exact⟨hc,fun hG=>by simp only[G,awp];exact hk hG⟩
    |true=>exact⟨h,fun hw=>hw⟩
   |seq a b=>exact ih _ _ h
   |cond o t e=>
    simp only at h⊢;split at h
    ·rename_i he;try simp only[he]
     obtain⟨hc,hk⟩:=ih _ _ h;exact⟨hc,fun hG=>⟨true,LR he,hk hG⟩⟩
    ·rename_i he;try simp only[he]
     obtain⟨hc,hk⟩:=ih _ _ h;exact⟨hc,fun hG=>⟨false,LR he,hk hG⟩⟩
    ·exact⟨h,fun hG=>hG⟩
   |block id b=>exact ih _ _ h
   |scope b=>exact ih _ _ h
   |exit id=>exact ih _ _ h
   |ret=>exact ih _ _ h
   |loop b=>exact⟨h,fun hw=>hw⟩
   |goto l=>exact⟨h,fun hw=>hw⟩
   |rangeFunc g ps asg body=>exact⟨h,fun hw=>hw⟩
   |refuse w=>exact⟨h,fun hw=>hw⟩
  |ops all rest K st=>exact Vk (S:=S) (F:=F) hS all K _ (fun c st h=>ih c (.pop .normal K st) h) _ _ _ _ h
  |pop e K st=>
   cases e with
   |normal=>
    cases K with
    |nil=>exact⟨h,fun hw=>hw⟩
    |cons i K=>
     cases i with
     |code x=>obtain⟨hc,hk⟩:=ih _ _ h;exact⟨hc,fun hG=>hS.refl _ _ (hk hG)⟩
     |blk id=>exact ih _ _ h
     |lp X s J m k=>exact⟨h,fun hw=>hw⟩
     |mid M=>exact⟨h,fun hw=>hw⟩
     |scp=>exact ih _ _ h
   |exit j=>
    cases K with
    |nil=>exact⟨h,fun hw=>hw⟩
    |cons i K=>
     cases i with
     |code x=>exact ih _ _ h
     |blk id=>
      simp only at h⊢;by_cases hj:j=id
      ·simp only[hj,if_true]at h⊢;obtain⟨hc,hk⟩:=ih _ _ h;exact⟨hc,fun hG=>by simp only[G,kp,blk,if_true];exact hk hG⟩
      ·simp only[hj,if_false]at h⊢;obtain⟨hc,hk⟩:=ih _ _ h;exact⟨hc,fun hG=>by simp only[G,kp,blk,hj,if_false];exact hk hG⟩
     |lp X s J m k=>exact ih _ _ h
     |mid M=>exact ih _ _ h
     |scp=>exact ih _ _ h
   |ret=>
    cases K with
    |nil=>exact⟨h,fun hw=>hw⟩
    |cons i K=>cases i<;>exact ih _ _ h
   |panic x=>
    cases K with
    |nil=>exact⟨h,fun hw=>hw⟩
    |cons i K=>cases i<;>exact ih _ _ h
   |goto l=>cases K<;>exact⟨h,fun hw=>hw⟩
theorem go (hS:F4 S P){g g' : Cfg}{c:List Prop}(h:run P none 400 [] g=⟨c,g'⟩)(hc:D0 c)(hk:G S P F g'):G S P F g:=by
 have:=Ex (F:=F) hS 400 [] g (by rw[h];exact hc)
 rw[h]at this;exact this.2 hk
end
end Go.AM
namespace Go.AM
def FunO (S:X1)(f:FuncId)(args:List AV)(objs:List Obj)(r:AV)(objs' : List Obj)(ks:List Bool):Prop:=
 S.F f args objs fun res o k=>res=.ret r/\o=objs' /\ k=ks
def Vl (S:X1)(f:FuncId)(args:List AV)(r:AV):Prop:=FunO S f args [] r [] []
theorem FunO.le {S:X1}{P:Program}(hS:F4 S P){f:FuncId}{args args' : List AV}{objs:List Obj}{r:AV}{objs' : List Obj}{ks:List Bool}(h:OB args args')(hF:FunO S f args' objs r objs' ks):FunO S f args objs r objs' ks:=hS.argLe _ _ _ _ _ h hF
theorem YD {nn:Bool}{k n m:Nat}{f g:Nat->List PV}(hn:n=m)(h:∀i,i<n->f i=g i):AV.p (.sl nn k n f)=.p (.sl false k m g) \/ ∃x y,AV.p (.sl nn k n f)=.p x/\AV.p (.sl false k m g)=.p y/\leQ x y:=by subst hn;exact .inr ⟨_,_,rfl,rfl,.inl (.inr (.inl ⟨_,_,_,_,_,rfl,rfl,h⟩))⟩
theorem Ad2 {nn:Bool}{k n m:Nat}{f g:Nat->List PV}(hn:n=m)(h:∀i,i<n->leC (f i) (g i)):AV.p (.sl nn k n f)=.p (.sl false k m g) \/ ∃x y,AV.p (.sl nn k n f)=.p x/\AV.p (.sl false k m g)=.p y/\leQ x y:=by subst hn;exact .inr ⟨_,_,rfl,rfl,.inr (.inl ⟨_,_,_,_,_,rfl,rfl,h⟩)⟩
theorem leC1 {nn:Bool}{k n m:Nat}{f g:Nat->List PV}(hn:n=m)(h:∀i,i<n->f i=g i):leC [.sl nn k n f] [.sl false k m g]:=by
 subst hn;refine⟨rfl,fun j=>?_⟩;cases j with
 |zero=>exact .inr (.inl ⟨_,_,_,_,_,rfl,rfl,h⟩)
 |succ j=>exact .inl rfl
def By (all:List Oper)(env:Env)(o:Oper):Option Bool:=
 match o.guard with
 |none=>some true
 |some (j,want)=>OC want (get env (Ep all j))
section
variable {S:X1}{P:Program}{F:H6}{K:List It}{st:St}
theorem Dg (hS:F4 S P){all rest:List Oper}{o:Oper}{Q:H6}(hg:By all st.env o=some true)
 (h:wOp S P o (Ht S P all rest Q) Q st):Ht S P all (o::rest) Q st:=by
 unfold By at hg;simp only[Ht];refine hS.refl _ _ ?_;cases hgd:o.guard with
 |none=>exact h
 |some q=>obtain⟨j,want⟩:=q;simp only[hgd]at hg;obtain⟨v,hv,hbv⟩:=OD hg;exact⟨v,hv,by rw[if_pos (hbv.1 rfl)];exact h⟩
theorem Ad3 {c:Operand}{t e:Code}{b:Bool}(hc:aev st.env c=.p (.bb b))
 (ht:b=true->G S P F (.code t K st)) (he:b=false->G S P F (.code e K st)):G S P F (.code (.cond c t e) K st):=by
 refine⟨b,by rw[hc];rfl,?_⟩;cases b
 ·exact he rfl
 ·exact ht rfl
theorem OE (hS:F4 S P){all rest:List Oper}{o:Oper}(hle:S.up st fun st1=>G S P F (.ops all (o::rest) K st1)):G S P F (.ops all (o::rest) K st):=
 hS.trans _ _ hle
def Ad4 (all:List Oper)(j:Nat):Option Nat:=match all[j]? with
 |some o=>o.dst
 |none=>none
theorem Zg (hS:F4 S P){all rest:List Oper}{o:Oper}{j d:Nat}{want b:Bool}(_hg:o.guard=some (j,want))(hd:Ad4 all j=some d)(hb:get st.env d=.p (.bb b))
 (ht:b=true->G S P F (.ops all (o::rest) K ⟨ins d (.p (.v (.bool true))) st.env,st.regs⟩))
 (he:b=false->G S P F (.ops all (o::rest) K ⟨ins d (.p (.v (.bool false))) st.env,st.regs⟩)):G S P F (.ops all (o::rest) K st):=by
 refine OE hS (hS.bool st _ b _ hb ?_);cases b
 ·exact he rfl
 ·exact ht rfl
theorem Ad5 (hS:F4 S P){all rest:List Oper}{o:Oper}(t:Nat){k n:Nat}{f:Nat->List PV}(hb:get st.env t=.p (.sl false k n f))
 (ht:n=0->G S P F (.ops all (o::rest) K ⟨ins t (.p (.v (.slice none 0 0))) st.env,st.regs⟩))
 (he:G S P F (.ops all (o::rest) K ⟨ins t (.p (.sl true k n f)) st.env,st.regs⟩)):G S P F (.ops all (o::rest) K st):=
 OE hS (hS.nil st t k n f _ hb ht he)
theorem YE (hS:F4 S P){all rest:List Oper}{o:Oper}{out:Out}(hg:By all st.env o=some true)(ha:aop P st.env st.regs (o.dst.getD 0) o.op=some out)
 (hn:∀c,o.op=.call c->∃b,c.callee=.builtin b) (hp:∀x,o.op ≠ .panic x) (hc:D0 out.cond)
 (hk:G S P F (.ops all rest K (put { st with regs:=out.regs } o.dst out.val))):G S P F (.ops all (o::rest) K st):=by
 refine Dg hS hg ?_;unfold wOp;split
 ·rename_i f args types he;obtain⟨b,hb⟩:=hn _ he;simp at hb
 ·rename_i r m args types he;obtain⟨b,hb⟩:=hn _ he;simp at hb
 ·rename_i x he;exact absurd he (hp x)
 ·exact .inl ⟨_,ha,hc,hk⟩
theorem Zh (hS:F4 S P){all rest:List Oper}{o:Oper}{c:Call}{f:Operand}{as:List AV}{regs:C4}{fn:FuncId}{as' args:List AV}{objs objs' : List Obj}{ks:List Bool}{r:AV}(ids:List Nat)
 (hg:By all st.env o=some true) (ho:o.op=.call c) (hf:c.callee=.value f) (ha:KS st.regs (c.args.toList.map (aev st.env))=some (as,regs))
 (hw:Qt st.env f as=some (fn,as')) (hr:BN ids as' = some args) (hob:H8 ids regs ids=some objs) (hF:FunO S fn args objs r objs' ks)
 (hd:F0 ids=true) (hy:Df objs=true) (hn:BW regs ids ks (o.dst.getD 0) objs'.length=true)
 (hk:G S P F (.ops all rest K (put { env:=st.env,regs:=UR (K8 (o.dst.getD 0) ids ks objs'.length) (K8 (o.dst.getD 0) ids ks objs'.length) objs' (K9 ids ks regs) } o.dst (unA (K8 (o.dst.getD 0) ids ks objs'.length) r)))) :
 G S P F (.ops all (o::rest) K st):=by
 refine Dg hS hg ?_;unfold wOp;obtain⟨callee,cargs,types⟩:=c;simp only at hf ha;subst hf;rw[ho];refine .inl ⟨as,regs,_,_,.inl ha,hw,ids,args,objs,hd,hr,hob,hy,hS.monoF _ _ _ _ _ ?_ hF⟩;rintro _ _ _ ⟨rfl,rfl,rfl⟩;exact⟨hn,hk⟩
theorem YF (hS:F4 S P){b:Code}{X:Type}(s:X->St)(J:X->Prop)(m:X->Nat)(x0:X)(ids:List (Nat×Nat))(hle:Le ids st (s x0))(h0:J x0)
 (hr:∀x,J x->G S P F (.code b (.lp X s J m (m x)::K) (s x))):G S P F (.code (.loop b) K st):=
 ⟨X,s,J,m,hS.le ids _ _ _ hle ⟨x0,rfl,h0⟩,hr⟩
theorem Vm (hS:F4 S P){X:Type}{s:X->St}{J:X->Prop}{m:X->Nat}{n:Nat}(x:X)(ids:List (Nat×Nat))(hle:Le ids st (s x))(hJ:J x)(hm:m x<n) :G S P F (.pop .normal (.lp X s J m n::K) st):=hS.le ids _ _ _ hle ⟨x,rfl,hJ,hm⟩
theorem Ad6 {regs:C4}{ids:List (Nat×Nat)}{i j:Nat}(h:lk ids j=some i):leA regs ids (.vec i) (.vec j):=by unfold leA;exact .inl ⟨i,h,rfl⟩
theorem Zi {regs:C4}{ids:List (Nat×Nat)}{j:Nat}(h:lk ids j=none):leA regs ids (.p (.v (.slice none 0 0))) (.vec j):=by unfold leA;exact .inr ⟨h,rfl⟩
theorem Ad7 {regs:C4}{ids:List (Nat×Nat)}{i j off:Nat}(h:lk ids j=some i):leA regs ids (.reg i off) (.reg j off):=by unfold leA;exact⟨i,h,rfl⟩
theorem Zj {regs:C4}{ids:List (Nat×Nat)}{i j:Nat}(h:lk ids j=some i):leA regs ids (.mref i) (.mref j):=by unfold leA;exact⟨i,h,rfl⟩
theorem Ad8 {regs:C4}{ids:List (Nat×Nat)}{f:FuncId}{a b c d:List AV}(h:leL regs ids a c)(h' : leL regs ids b d):leA regs ids (.clo f a b) (.clo f c d):=by unfold leA;exact⟨a,b,rfl,h,h'⟩
theorem Zk {regs:C4}{ids:List (Nat×Nat)}:leL regs ids [] []:=by unfold leL;rfl
theorem WX {regs:C4}{ids:List (Nat×Nat)}{a b:AV}{l m:List AV}(h:leA regs ids a b)(h' : leL regs ids l m):leL regs ids (a::l) (b::m):=by unfold leL;exact⟨a,l,rfl,h,h'⟩
theorem WY {regs:C4}{ids:List (Nat×Nat)}{l m:List AV}(h:leL regs ids l m):leO regs ids (.cells l) (.cells m):=⟨l,rfl,h⟩
theorem le_mk {s t:St}{ids:List (Nat×Nat)}(h1:(wf t&&F0 (ids.map (·.2))&&Tn ids&&LQ ids t.regs&&Ia ids (WU s.env t.env++Gz ids s.regs t.regs) t.regs)=true)
 (h4:Ve s.regs ids s.env t.env) (h5:OA s.regs ids t.regs):Le ids s t:=by
 simp only[Bool.and_eq_true]at h1;exact⟨⟨h1.1.1.1.1,h1.1.1.1.2,h1.1.1.2,h1.1.2,h1.2⟩,h4,h5⟩
section
variable {n:Nat}{rs:List ResultVar}{Q:Je->List Obj->List Bool->Prop}{l:List AV}{a:AV}
end
theorem Vn (hS:F4 S P){f:FuncId}{fn:Func}{code:Code}{args:List AV}{objs objs' : List Obj}{ks:List Bool}{r:AV}{rs:List ResultVar}(hf:P.funcs[f]? = some fn)(hc:fn.body=some code)(hn:args.length<=fn.ntmps)(ho:objs.length<1000)
 (hrs:fn.results.toList=rs) (hco:X2 fn.ntmps code=true) (hnm:(fn.name == "runtime.NumGoroutine")=false)
 (h:G S P (AX S P objs.length rs fun res o k=>res=.ret r/\o=objs' /\ k=ks) (.code code [] { env:=argEnv args,regs:=objRegs objs })):FunO S f args objs r objs' ks:=by
 subst hrs;exact hS.func f fn code args objs _ hf hc hnm hco hn ho (hS.refl _ _ h)
end
end Go.AM
namespace Go.AM
def Ext (w w' : World):Prop:=w'.os=w.os/\w'.output=w.output
theorem Ext.refl (w:World):Ext w w:=⟨rfl,rfl⟩
theorem Ext.trans {w w' w'' : World}(h:Ext w w')(h' : Ext w' w''):Ext w w'':=⟨h'.1.trans h.1,h'.2.trans h.2⟩
inductive RepP (w:World) (Pi:Nat->Nat->Prop):Value->PV->Prop
 |v (x:Value):RepP w Pi x (.v x)
 |bb (b:Bool):RepP w Pi (.bool b) (.bb b)
 |str (l:List UInt8):RepP w Pi (.string ⟨l.toArray⟩) (.str l)
 |agg (vs:Array Value) (cs:List PV) (hs:vs.size=cs.length) (h1:∀i,i<cs.length->(vs.getD i undef).oneCell' = true)
  (h:∀i,i<cs.length->RepP w Pi (vs.getD i undef) (cs.getD i default)):RepP w Pi (.agg vs) (.agg cs)
 |slnil (k:Nat) (f:Nat->List PV):RepP w Pi (.slice none 0 0) (.sl false k 0 f)
 |sl (nn:Bool) (b off cap k n:Nat) (f:Nat->List PV) (c:Nat->Nat->Value) (hn:n<=cap) (hk:∀i,i<n->(f i).length=k)
  (hc:∀i j,i<n->j<k->w.cell? ⟨b,off+i*k+j,none⟩=some (c i j)/\¬Pi b (off+i*k+j)/\(c i j).oneCell' = true)
  (h:∀i j,i<n->j<k->RepP w Pi (c i j) ((f i).getD j default)) (sp:Option Nat) (hsp:0<n->sp=none):RepP w Pi (.slice (some ⟨b,off,sp⟩) n cap) (.sl nn k n f)
 |ptr (b off:Nat) (cs:List PV) (c:Nat->Value) (hc:∀j,j<cs.length->w.cell? ⟨b,off+j,none⟩=some (c j)/\¬Pi b (off+j)/\(c j).oneCell' = true)
  (h:∀j,j<cs.length->RepP w Pi (c j) (cs.getD j default)):RepP w Pi (.pointer (some ⟨b,off,none⟩)) (.ptr cs)
 |iface (t:TypeId) (x:Value) (a:PV) (h:RepP w Pi x a):RepP w Pi (.iface t x) (.iface t a)
 |fn (f:FuncId) (x y:Array Value) (a b:List PV) (hx:x.size=a.length) (hy:y.size=b.length)
  (ha:∀i,i<a.length->RepP w Pi (x.getD i undef) (a.getD i default)) (hb:∀i,i<b.length->RepP w Pi (y.getD i undef) (b.getD i default)) :
  RepP w Pi (.func (.func f) x y) (.fn f a b)
def Keeps (w:World)(Pi:Nat->Nat->Prop)(w' : World)(Pi' : Nat->Nat->Prop):Prop:=
 ∀b o v,¬Pi b o->w.cell? ⟨b,o,none⟩=some v->w'.cell? ⟨b,o,none⟩=some v/\¬Pi' b o
theorem Keeps.refl (w:World)(Pi:Nat->Nat->Prop):Keeps w Pi w Pi:=fun _ _ _ h h'=>⟨h',h⟩
theorem Keeps.trans {w w' w'' : World}{p p' p'' : Nat->Nat->Prop}(h:Keeps w p w' p')(h' : Keeps w' p' w'' p''):Keeps w p w'' p'':=
 fun b o v hp hc=>let ⟨a,c⟩:=h b o v hp hc;h' b o v c a
theorem RepP.keeps {w w' : World}{Pi Pi' : Nat->Nat->Prop}(hk:Keeps w Pi w' Pi'){v:Value}{x:PV}(h:RepP w Pi v x):RepP w' Pi' v x:=by
 induction h with
 |v x=>exact .v x
 |bb b=>exact .bb b
 |str l=>exact .str l
 |agg vs cs hs h1 h ih=>exact .agg vs cs hs h1 ih
 |slnil k f=>exact .slnil k f
 |sl nn b off cap k n f c hn hk' hc h sp hsp ih=>refine .sl nn b off cap k n f c hn hk' (fun i j hi hj=>?_) ih sp hsp;obtain⟨h1,h2,h3⟩:=hc i j hi hj;obtain⟨h4,h5⟩:=hk _ _ _ h2 h1;exact⟨h4,h5,h3⟩
 |ptr b off cs c hc h ih=>refine .ptr b off cs c (fun j hj=>?_) ih;obtain⟨h1,h2,h3⟩:=hc j hj;obtain⟨h4,h5⟩:=hk _ _ _ h2 h1;exact⟨h4,h5,h3⟩
 |iface t x a h ih=>exact .iface t x a ih
 |fn f x y a b hx hy ha hb iha ihb=>exact .fn f x y a b hx hy iha ihb
theorem RepP.nP {w:World}{Pi:Nat->Nat->Prop}{v:Value}{x:PV}(h:RepP w Pi v x):RepP w Pi v (nP x):=by
 cases x with
 |v y=>cases h;cases v<;>first|exact .v _|exact .bb _
 |_=>exact h
theorem RepP.leP {w:World}{Pi:Nat->Nat->Prop}{v:Value}{x y:PV}(hl:leP x y)(h:RepP w Pi v x):RepP w Pi v y:=by
 rcases hl with rfl|⟨nn,k,n,f,g,rfl,rfl,he⟩ | ⟨k,f,rfl,rfl⟩ | ⟨b,rfl,rfl⟩ | ⟨b,rfl,rfl⟩
 ·exact h
 ·cases h with
  |slnil=>exact .slnil _ _
  |sl _ b off cap _ _ _ c hn hk hc h sp hsp=>exact .sl false b off cap k n g c hn (fun i hi=>by rw[<- he i hi];exact hk i hi) hc (fun i j hi hj=>by rw[<- he i hi];exact h i j hi hj) sp hsp
 ·cases h;exact .slnil _ _
 ·cases h;exact .bb _
 ·cases h;exact .v _
theorem RepP.leQ {w:World}{Pi:Nat->Nat->Prop}{v:Value}{x y:PV}(hl:Go.AM.leQ x y)(h:RepP w Pi v x):RepP w Pi v y:=by
 rcases hl with hl|⟨nn,k,n,f,g,rfl,rfl,he⟩ | ⟨xs,ys,rfl,rfl,he⟩
 ·exact h.leP hl
 ·cases h with
  |slnil=>exact .slnil _ _
  |sl _ b off cap _ _ _ c hn hk hc h sp hsp=>exact .sl false b off cap k n g c hn (fun i hi=>by rw[<- (he i hi).1];exact hk i hi) hc (fun i j hi hj=>(h i j hi hj).leP ((he i hi).2 j)) sp hsp
 ·cases h with
  |agg vs _ hs h1 h=>exact .agg vs ys (hs.trans he.1) (fun i hi=>h1 i (by rw[he.1];exact hi)) (fun i hi=>(h i (by rw[he.1];exact hi)).leP (he.2 i))
theorem RepP.cell {w:World}{Pi:Nat->Nat->Prop}{v:Value}{x:PV}(h:RepP w Pi v x)(hx:Hu x=true):v.oneCell' = true:=by
 cases h with
 |v=>cases v<;>simp_all [Hu,Value.oneCell']
 |agg=>simp[Hu]at hx
 |_=>rfl
inductive RepA (w:World) (Pi:Nat->Nat->Prop) (live:Nat->Prop) (rho:Nat->Value):Value->AV->Prop
 |p (v:Value) (x:PV) (h:RepP w Pi v x):RepA w Pi live rho v (.p x)
 |reg (j off b:Nat) (hl:live j) (h:rho j=.pointer (some ⟨b,0,none⟩)):RepA w Pi live rho (.pointer (some ⟨b,off,none⟩)) (.reg j off)
 |vec (j:Nat) (base:Option Addr) (n cap:Nat) (hl:live j) (h:rho j=.slice base n cap):RepA w Pi live rho (.slice base n cap) (.vec j)
 |vecp (j m:Nat) (base:Option Addr) (n cap:Nat) (hl:live j) (h:rho j=.slice base n cap) (hm:m<=n):RepA w Pi live rho (.slice base m cap) (.vecp j m)
 |elt (j k i off b n cap:Nat) (hl:live j) (h:rho j=.slice (some ⟨b,0,none⟩) n cap):RepA w Pi live rho (.pointer (some ⟨b,i*k+off,none⟩)) (.elt j k i off)
 |mref (j r:Nat) (hl:live j) (h:rho j=.map (some r)):RepA w Pi live rho (.map (some r)) (.mref j)
 |clo (f:FuncId) (x y:Array Value) (a b:List AV) (hx:x.size=a.length) (hy:y.size=b.length)
  (ha:∀i,i<a.length->RepA w Pi live rho (x.getD i undef) (a.getD i .top)) (hb:∀i,i<b.length->RepA w Pi live rho (y.getD i undef) (b.getD i .top)) :
  RepA w Pi live rho (.func (.func f) x y) (.clo f a b)
 |tup (x:Array Value) (a:List AV) (hx:x.size=a.length) (ha:∀i,i<a.length->RepA w Pi live rho (x.getD i undef) (a.getD i .top)):RepA w Pi live rho (.tuple x) (.tup a)
 |agr (x:Array Value) (a:List AV) (hx:x.size=a.length) (h1:∀i,i<a.length->(x.getD i undef).oneCell' = true)
  (ha:∀i,i<a.length->RepA w Pi live rho (x.getD i undef) (a.getD i .top)):RepA w Pi live rho (.agg x) (.agr a)
 |yf (j l:Nat) (hl:live j) (h:rho j=.func (.yield l) #[] #[]):RepA w Pi live rho (.func (.yield l) #[] #[]) (.yf j)
 |top (v:Value):RepA w Pi live rho v .top
theorem RepA.keeps {w w' : World}{Pi Pi' : Nat->Nat->Prop}{live live' : Nat->Prop}{rho rho' : Nat->Value}(hk:Keeps w Pi w' Pi')
 (hl:∀j,live j->live' j/\rho' j=rho j) {v:Value}{a:AV}(h:RepA w Pi live rho v a):RepA w' Pi' live' rho' v a:=by
 induction h with
 |p v x h=>exact .p v x (h.keeps hk)
 |reg j off b hj h=>obtain⟨a,c⟩:=hl j hj;exact .reg j off b a (c.trans h)
 |vec j base n cap hj h=>obtain⟨a,c⟩:=hl j hj;exact .vec j base n cap a (c.trans h)
 |vecp j m base n cap hj h hm=>obtain⟨a,c⟩:=hl j hj;exact .vecp j m base n cap a (c.trans h) hm
 |elt j k i off b n cap hj h=>obtain⟨a,c⟩:=hl j hj;exact .elt j k i off b n cap a (c.trans h)
 |mref j r hj h=>obtain⟨a,c⟩:=hl j hj;exact .mref j r a (c.trans h)
 |clo f x y a b hx hy ha hb iha ihb=>exact .clo f x y a b hx hy iha ihb
 |tup x a hx ha ih=>exact .tup x a hx ih
 |agr x a hx h1 ha ih=>exact .agr x a hx h1 ih
 |yf j l hj h=>obtain⟨a,c⟩:=hl j hj;exact .yf j l a (c.trans h)
 |top v=>exact .top v
def O5 (h:Value):Obj->Option Nat
 |.cells _=>match h with | .pointer (some a)=>some a.block|_=>none
 |.vec _ _ _ _ _=>match h with | .slice (some a) _ _=>some a.block|_=>none
 |.map _=>match h with | .map r=>r|_=>none
 |.arr _ _=>match h with | .pointer (some a)=>some a.block|_=>none
 |.fam _ _ _ _=>match h with | .slice (some a) _ _=>some a.block|_=>none
 |.ghost _ | .yld _ _ | .dead | .rows _ _=>none
def D8 (h:Value)(o:Obj)(b:Nat):Prop:=
 match o with
 |.rows n g=>∃rv,h=.agg rv/\∃i,i<n/\O5 (rv.getD i undef) (g i)=some b
 |o=>O5 h o=some b
def Gw (o:Obj)(off:Nat):Prop:=
 match o with
 |.vec _ k n _ true=>n*k<=off
 |_=>True
section
variable (w:World) (Pi:Nat->Nat->Prop) (live:Nat->Prop) (rho:Nat->Value)
def HoldsC (h:Value):Obj->Prop
 |.cells cs=>∃b c T,h=.pointer (some ⟨b,0,none⟩)/\w.heap[b]? = some (.cells c T (0,0))/\c.size=cs.length /\
  ∀i,i<cs.length->RepA w Pi live rho (c.getD i undef) (cs.getD i .top)/\(c.getD i undef).oneCell' = true
 |.vec e k n f _=>(h=.slice none 0 0/\n=0) \/ ∃b cap c,h=.slice (some ⟨b,0,none⟩) n cap/\w.heap[b]? = some (.cells c e (0,0))/\n<=cap/\c.size=cap*k/\cap<=maxLen /\
  (∀i,i<n->(f i).length=k)/\∀i j,i<n->j<k->RepP w Pi (c.getD (i*k+j) undef) ((f i).getD j default)/\(c.getD (i*k+j) undef).oneCell' = true
 |.map es=>∃b ents clock,h=.map (some b)/\w.heap[b]? = some (.map ents clock)/\ents.size=es.length /\
  ∀i,i<es.length->RepP w Pi (ents.getD i default).key (es.getD i default).1/\RepP w Pi (ents.getD i default).val (es.getD i default).2
 |.arr n f=>∃b c T,h=.pointer (some ⟨b,0,none⟩)/\w.heap[b]? = some (.cells c T (0,0))/\c.size=n /\
  ∀i,i<n->RepP w Pi (c.getD i undef) (f i)/\(c.getD i undef).oneCell' = true
 |.yld _ _=>∃l,h=.func (.yield l) #[] #[]
 |.ghost cs=>∃vs,h=.tuple vs/\vs.size=cs.length/\∀i,i<cs.length->RepA w Pi live rho (vs.getD i undef) (cs.getD i .top)
 |.dead=>True
 |.rows _ _=>False
 |.fam e n jr x=>∃rv,live jr/\rho jr=.agg rv/\((h=.slice none 0 0/\n=0) \/ ∃b cap c,h=.slice (some ⟨b,0,none⟩) n cap/\w.heap[b]? = some (.cells c e (0,0))/\n<=cap/\c.size=cap/\cap<=maxLen /\
  (∀i,i<n->(c.getD i undef).oneCell' = true/\(x.map (·.1)≠some i->c.getD i undef=rv.getD i undef)) /\
  match x with
  |none=>True
  |some (i,a)=>RepA w Pi live rho (c.getD i undef) a)
def rowV (v:Value):Obj->Prop
 |.vec e k n f false=>HoldsC w Pi live rho v (.vec e k n f false)
 |.map es=>HoldsC w Pi live rho v (.map es)
 |.ghost [.p x]=>RepP w Pi v x
 |.dead=>True
 |_=>False
def HoldsO (h:Value)(o:Obj):Prop:=
 match o with
 |.rows n g=>∃rv,h=.agg rv/\(∀i,i<n->rowV w Pi live rho (rv.getD i undef) (g i)) /\
  ∀i l b,i<n->l<n->O5 (rv.getD i undef) (g i)=some b->O5 (rv.getD l undef) (g l)=some b->i=l
 |o=>HoldsC w Pi live rho h o
end
theorem HoldsC.keeps {w w' : World}{Pi Pi' : Nat->Nat->Prop}{live live' : Nat->Prop}{rho rho' : Nat->Value}(hk:Keeps w Pi w' Pi')
 (hl:∀j,live j->live' j/\rho' j=rho j) {h:Value}{o:Obj}(hb:∀b,O5 h o=some b->w'.heap[b]? = w.heap[b]?) (hh:HoldsC w Pi live rho h o):HoldsC w' Pi' live' rho' h o:=by
 cases o with
 |cells cs=>obtain⟨b,c,T,rfl,h1,h2,h3⟩:=hh;exact⟨b,c,T,rfl,(hb b rfl).trans h1,h2,fun i hi=>⟨(h3 i hi).1.keeps hk hl,(h3 i hi).2⟩⟩
 |vec e k n f vw=>
  rcases hh with hn|⟨b,cap,c,rfl,h1,h2,h3,h4,h5,h6⟩
  ·exact .inl hn
  ·exact .inr ⟨b,cap,c,rfl,(hb b rfl).trans h1,h2,h3,h4,h5,fun i j hi hj=>⟨(h6 i j hi hj).1.keeps hk,(h6 i j hi hj).2⟩⟩
 |map es=>obtain⟨b,ents,clock,rfl,h1,h2,h3⟩:=hh;exact⟨b,ents,clock,rfl,(hb b rfl).trans h1,h2,fun i hi=>⟨(h3 i hi).1.keeps hk,(h3 i hi).2.keeps hk⟩⟩
 |arr n f=>obtain⟨b,c,T,rfl,h1,h2,h3⟩:=hh;exact⟨b,c,T,rfl,(hb b rfl).trans h1,h2,fun i hi=>⟨(h3 i hi).1.keeps hk,(h3 i hi).2⟩⟩
 |ghost cs=>obtain⟨vs,rfl,h1,h2⟩:=hh;exact⟨vs,rfl,h1,fun i hi=>(h2 i hi).keeps hk hl⟩
 |yld r b=>exact hh
 |dead=>trivial
 |fam e n jr x=>
  obtain⟨rv,g1,g2,hv⟩:=hh;refine⟨rv,(hl jr g1).1,(hl jr g1).2.trans g2,?_⟩;rcases hv with hv|⟨b,cap,c,rfl,h1,h2,h3,h4,h5,h6⟩
  ·exact .inl hv
  ·refine .inr ⟨b,cap,c,rfl,(hb b rfl).trans h1,h2,h3,h4,h5,?_⟩;cases x with
   |none=>trivial
   |some q=>exact h6.keeps hk hl
 |rows=>exact hh.elim
theorem rowV.keeps' {w w' : World}{Pi Pi' : Nat->Nat->Prop}{live live' : Nat->Prop}{rho rho' : Nat->Value}(hk:Keeps w Pi w' Pi')
 {v:Value}{o:Obj}(hr:rowV w Pi live rho v o) (hb:∀b,O5 v o=some b->w'.heap[b]? = w.heap[b]?):rowV w' Pi' live' rho' v o:=by
 unfold rowV at hr⊢;split at hr
 ·obtain h|⟨b,cap,c,rfl,h1,h2,h3,h4,h5,h6⟩:=hr
  ·exact .inl h
  ·exact .inr ⟨b,cap,c,rfl,(hb b rfl).trans h1,h2,h3,h4,h5,fun i j hi hj=>⟨(h6 i j hi hj).1.keeps hk,(h6 i j hi hj).2⟩⟩
 ·obtain⟨b,ents,clock,rfl,h1,h2,h3⟩:=hr;exact⟨b,ents,clock,rfl,(hb b rfl).trans h1,h2,fun i hi=>⟨(h3 i hi).1.keeps hk,(h3 i hi).2.keeps hk⟩⟩
 ·exact hr.keeps hk
 ·trivial
 ·exact hr.elim
theorem Fj {w w' : World}{Pi Pi' : Nat->Nat->Prop}{live live' : Nat->Prop}{rho rho' : Nat->Value}(hk:Keeps w Pi w' Pi'){h:Value}{n:Nat}{g:Nat->Obj}
 (hb:∀b,D8 h (.rows n g) b->w'.heap[b]? = w.heap[b]?) (hh:HoldsO w Pi live rho h (.rows n g)):HoldsO w' Pi' live' rho' h (.rows n g):=by
 obtain⟨rv,rfl,h1,h2⟩:=hh;exact⟨rv,rfl,fun i hi=>(h1 i hi).keeps' hk fun b he=>hb b ⟨rv,rfl,i,hi,he⟩,h2⟩
theorem HoldsO.keeps {w w' : World}{Pi Pi' : Nat->Nat->Prop}{live live' : Nat->Prop}{rho rho' : Nat->Value}(hk:Keeps w Pi w' Pi')
 (hl:∀j,live j->live' j/\rho' j=rho j) {h:Value}{o:Obj}(hb:∀b,D8 h o b->w'.heap[b]? = w.heap[b]?) (hh:HoldsO w Pi live rho h o):HoldsO w' Pi' live' rho' h o:=by
 cases o with
 |rows n g=>exact Fj hk hb hh
 |_=>exact HoldsC.keeps hk hl hb hh
def Lv (R:Nat->Option Obj)(j:Nat):Prop:=(R j).isSome=true
def Prv (X:Nat->Nat->Prop)(R:Nat->Option Obj)(rho:Nat->Value)(b off:Nat):Prop:=
 X b off \/ ∃j o,R j=some o/\D8 (rho j) o b/\Gw o off
def Own (R:Nat->Option Obj)(rho:Nat->Value)(b:Nat):Prop:=∃j o,R j=some o/\D8 (rho j) o b
structure Hp (X:Nat->Nat->Prop) (R:Nat->Option Obj) (rho:Nat->Value) (w:World):Prop where
 holds:∀j o,R j=some o->HoldsO w (Prv X R rho) (Lv R) rho (rho j) o
 sep:∀i j oi oj b,R i=some oi->R j=some oj->D8 (rho i) oi b->D8 (rho j) oj b->i=j
 out:∀j o b off,R j=some o->D8 (rho j) o b->¬X b off
 bound:∀b off,X b off->b<w.heap.size
theorem HoldsC.lt {w:World}{Pi:Nat->Nat->Prop}{live:Nat->Prop}{rho:Nat->Value}{h:Value}{o:Obj}(hh:HoldsC w Pi live rho h o){b:Nat}(hb:O5 h o=some b):b<w.heap.size:=by
 cases o with
 |cells cs=>obtain⟨b',c,T,rfl,h1,_⟩:=hh;cases hb;exact (Array.getElem?_eq_some_iff.1 h1).1
 |vec e k n f vw=>
  rcases hh with⟨rfl,_⟩ | ⟨b',cap,c,rfl,h1,_⟩
  ·cases hb
  ·cases hb;exact (Array.getElem?_eq_some_iff.1 h1).1
 |map es=>obtain⟨b',ents,clock,rfl,h1,_⟩:=hh;cases hb;exact (Array.getElem?_eq_some_iff.1 h1).1
 |arr n f=>obtain⟨b',c,T,rfl,h1,_⟩:=hh;cases hb;exact (Array.getElem?_eq_some_iff.1 h1).1
 |ghost cs=>cases hb
 |yld r b=>cases hb
 |dead=>cases hb
 |fam e n jr x=>
  rcases hh with⟨rv,_,_,⟨rfl,_⟩ | ⟨b',cap,c,rfl,h1,_⟩⟩
  ·cases hb
  ·cases hb;exact (Array.getElem?_eq_some_iff.1 h1).1
 |rows=>exact hh.elim
theorem Ad9 {w:World}{Pi:Nat->Nat->Prop}{live:Nat->Prop}{rho:Nat->Value}{v:Value}{o:Obj}(h:rowV w Pi live rho v o){b:Nat}(hb:O5 v o=some b):HoldsC w Pi live rho v o:=by
 unfold rowV at h;split at h
 ·exact h
 ·exact h
 ·cases hb
 ·cases hb
 ·exact h.elim
theorem HoldsO.own {w:World}{Pi:Nat->Nat->Prop}{live:Nat->Prop}{rho:Nat->Value}{h:Value}{o:Obj}(hh:HoldsO w Pi live rho h o){b:Nat}(hb:D8 h o b):∃h' o',HoldsC w Pi live rho h' o' /\ O5 h' o' = some b:=by
 cases o with
 |rows n g=>obtain⟨rv,rfl,h1,h2⟩:=hh;obtain⟨rv',he,i,hi,hb⟩:=hb;simp only[Value.agg.injEq]at he;subst he;exact⟨_,_,Ad9 (h1 i hi) hb,hb⟩
 |cells cs=>exact⟨h,.cells cs,hh,hb⟩
 |vec e k n f vw=>exact⟨h,.vec e k n f vw,hh,hb⟩
 |map es=>exact⟨h,.map es,hh,hb⟩
 |arr n f=>exact⟨h,.arr n f,hh,hb⟩
 |fam e n jr x=>exact⟨h,.fam e n jr x,hh,hb⟩
 |_=>cases hb
theorem HoldsO.lt {w:World}{Pi:Nat->Nat->Prop}{live:Nat->Prop}{rho:Nat->Value}{h:Value}{o:Obj}(hh:HoldsO w Pi live rho h o){b:Nat}(hb:D8 h o b):b<w.heap.size:=by obtain⟨h',o',h1,h2⟩:=hh.own hb;exact h1.lt h2
theorem Hp.lt {X:Nat->Nat->Prop}{R:Nat->Option Obj}{rho:Nat->Value}{w:World}(h:Hp X R rho w){b:Nat}(hb:Own R rho b):b<w.heap.size:=by obtain⟨j,o,hj,hb⟩:=hb;exact (h.holds j o hj).lt hb
theorem Hp.update {X:Nat->Nat->Prop}{R R' : Nat->Option Obj}{rho rho' : Nat->Value}{w w' : World}(D:Nat->Prop)(h:Hp X R rho w)
 (hsame:∀j,¬D j->R' j=R j) (hlive:∀j,Lv R j->Lv R' j/\rho' j=rho j) (hsz:w.heap.size<=w'.heap.size)
 (hblk:∀b,b<w.heap.size->(∀j o,D j->R j=some o->¬D8 (rho j) o b)->w'.heap[b]? = w.heap[b]?)
 (hown:∀j o b,D j->R' j=some o->D8 (rho' j) o b->(∃i oi,D i/\R i=some oi/\D8 (rho i) oi b) \/ w.heap.size<=b)
 (hdist:∀i j oi oj b,D i->D j->R' i=some oi->R' j=some oj->D8 (rho' i) oi b->D8 (rho' j) oj b->i=j)
 (hkeep:∀i oi b off v,D i->R i=some oi->D8 (rho i) oi b->¬Prv X R rho b off->w.cell? ⟨b,off,none⟩=some v->w'.cell? ⟨b,off,none⟩=some v/\∀j o,D j->R' j=some o->D8 (rho' j) o b->¬Gw o off)
 (hh:Keeps w (Prv X R rho) w' (Prv X R' rho')->∀j o,D j->R' j=some o->HoldsO w' (Prv X R' rho') (Lv R') rho' (rho' j) o) :
 Hp X R' rho' w' /\ Keeps w (Prv X R rho) w' (Prv X R' rho'):=by
 have hk:Keeps w (Prv X R rho) w' (Prv X R' rho'):=by
  intro b off v hp hc;have hlt:b<w.heap.size:=World.block_lt_of_cell? w ⟨b,off,none⟩ hc;by_cases hD:∃i oi,D i/\R i=some oi/\D8 (rho i) oi b
  ·obtain⟨i,oi,hi,hr,hb⟩:=hD;obtain⟨h1,h2⟩:=hkeep i oi b off v hi hr hb hp hc;refine⟨h1,fun hp'=>?_⟩;rcases hp' with hX|⟨j,o,hj,hbj,hpj⟩
   ·exact hp (.inl hX)
   ·by_cases hDj:D j
    ·exact h2 j o hDj hj hbj hpj
    ·rw[hsame j hDj]at hj;rw[(hlive j (by simp[Lv,hj])).2]at hbj;exact hp (.inr ⟨j,o,hj,hbj,hpj⟩)
  ·refine⟨?_,fun hp'=>?_⟩
   ·rw[<- hc];exact World.cell?_of_block (hblk b hlt fun j o hj hr hb=>hD ⟨j,o,hj,hr,hb⟩)
   ·rcases hp' with hX|⟨j,o,hj,hbj,hpj⟩
    ·exact hp (.inl hX)
    ·by_cases hDj:D j
     ·rcases hown j o b hDj hj hbj with hi|hi
      ·exact hD hi
      ·omega
     ·rw[hsame j hDj]at hj;rw[(hlive j (by simp[Lv,hj])).2]at hbj;exact hp (.inr ⟨j,o,hj,hbj,hpj⟩)
 refine⟨⟨fun j o hj=>?_,fun i j oi oj b hi hj hbi hbj=>?_,fun j o b off hj hb hX=>?_,fun b off hX=>Nat.lt_of_lt_of_le (h.bound b off hX) hsz⟩,hk⟩
 ·by_cases hDj:D j
  ·exact hh hk j o hDj hj
  ·rw[hsame j hDj]at hj;have hr:=(hlive j (by simp[Lv,hj])).2;rw[hr];refine (h.holds j o hj).keeps hk hlive fun b hb=>hblk b ((h.holds j o hj).lt hb) fun i oi hi hri hbi=>?_
   have:=h.sep i j oi o b hri hj hbi hb
   subst this;exact hDj hi
 ·by_cases hDi:D i<;>by_cases hDj:D j
  ·exact hdist i j oi oj b hDi hDj hi hj hbi hbj
  ·rw[hsame j hDj]at hj;rw[(hlive j (by simp[Lv,hj])).2]at hbj;rcases hown i oi b hDi hi hbi with⟨i',oi',hi',hri,hbi'⟩ | hge
   ·have:=h.sep i' j oi' oj b hri hj hbi' hbj
    subst this;exact absurd hi' hDj
   ·have:=(h.holds j oj hj).lt hbj;omega
  ·rw[hsame i hDi]at hi;rw[(hlive i (by simp[Lv,hi])).2]at hbi;rcases hown j oj b hDj hj hbj with⟨j',oj',hj',hrj,hbj'⟩ | hge
   ·have:=h.sep j' i oj' oi b hrj hi hbj' hbi
    subst this;exact absurd hj' hDi
   ·have:=(h.holds i oi hi).lt hbi;omega
  ·rw[hsame i hDi]at hi;rw[hsame j hDj]at hj;rw[(hlive i (by simp[Lv,hi])).2]at hbi;rw[(hlive j (by simp[Lv,hj])).2]at hbj;exact h.sep i j oi oj b hi hj hbi hbj
 ·by_cases hDj:D j
  ·rcases hown j o b hDj hj hb with⟨i,oi,hi,hri,hbi⟩ | hge
   ·exact h.out i oi b off hri hbi hX
   ·have:=h.bound b off hX;omega
  ·rw[hsame j hDj]at hj;rw[(hlive j (by simp[Lv,hj])).2]at hb;exact h.out j o b off hj hb hX
end Go.AM
namespace Go.AM
theorem Qu (env:Env)(d t:Nat)(x:AV):get (ins d x env) t=if d=t then x else get env t:=by
 induction env with
 |nil=>simp[ins,get]
 |cons p r ih=>
  obtain⟨i,b⟩:=p;simp only[ins];split
  ·simp only[get]
  ·split
   ·rename_i h;subst h;simp only[get];split<;>rfl
   ·rename_i h1 h2;simp only[get,ih];by_cases h:i=t
    ·simp only[h,if_true];rw[if_neg (by omega)]
    ·simp only[h,if_false]
theorem A4 (regs:C4)(d t:Nat)(x:Obj):A1 (ins d x regs) t=if d=t then some x else A1 regs t:=by
 induction regs with
 |nil=>simp[ins,A1]
 |cons p r ih=>
  obtain⟨i,b⟩:=p;simp only[ins];split
  ·simp only[A1]
  ·split
   ·rename_i h;subst h;simp only[A1];split<;>rfl
   ·rename_i h1 h2;simp only[A1,ih];by_cases h:i=t
    ·simp only[h,if_true];rw[if_neg (by omega)]
    ·simp only[h,if_false]
structure Ctx where
 X:Nat->Nat->Prop
 w0:World
 E0:Nat->Prop
 Pi0:Nat->Nat->Prop
 rho0:Nat->Value
 Y:List (List PV)->Bool->Prop
 yv:Value
structure SatE (C:Ctx) (R:C4) (w:World) (rho:Nat->Value):Prop where
 hp:Hp C.X (A1 R) rho w
 ext:Ext C.w0 w
 size:C.w0.heap.size<=w.heap.size
 same:∀b,b<C.w0.heap.size->¬C.E0 b->w.heap[b]? = C.w0.heap[b]?
 keep:Keeps C.w0 C.Pi0 w (Prv C.X (A1 R) rho)
 own:∀b,Own (A1 R) rho b->C.E0 b \/ C.w0.heap.size<=b
 yld:∀j r b,A1 R j=some (.yld r b)->C.Y r b/\rho j=C.yv
def Marks (C:Ctx)(l:List Deferred)(w:World):Prop:=
 l.Nodup/\∀d∈l,∃r,d={ target:=.collected r,args:=#[] }/\(C.E0 r \/ C.w0.heap.size<=r)/\w.heap[r]? = some (.deferred (some []))/\∀off,¬C.X r off
structure Sat (C:Ctx) (st:St) (a:Act) (w:World) (rho:Nat->Value):Prop extends SatE C st.regs w rho where
 env:∀t,RepA w (Prv C.X (A1 st.regs) rho) (Lv (A1 st.regs)) rho (a.tmps.getD t undef) (get st.env t)
 pin:∀j,j<1000->Lv (A1 st.regs) j->rho j=C.rho0 j
 marks:Marks C a.defers w
theorem O7 (w:World)(Pi:Nat->Nat->Prop)(v:Value):RepP w Pi v (LO v):=by
 cases v<;>try exact .v _
 rename_i s
 have:=RepP.str (w:=w) (Pi:=Pi) s.data.toList
 simpa[LO]using this
theorem Qv (w:World)(Pi:Nat->Nat->Prop)(v:Value):RepP w Pi v (pvK v):=by
 cases v with
 |agg cs=>
  simp only[pvK];split
  ·rename_i h;refine .agg cs _ (by simp) (fun i hi=>?_) fun i hi=>?_
   ·have hi' : i<cs.size:=by simpa using hi
    have:=Array.all_eq_true.1 h i hi'
    simpa[Array.getD_eq_getD_getElem?,hi']using this
   ·have hi' : i<cs.size:=by simpa using hi
    have e1:cs.getD i undef=cs[i]:=by simp[Array.getD_eq_getD_getElem?,hi']
    have e2:(cs.toList.map LO).getD i default=LO cs[i]:=by simp[List.getD_eq_getElem?_getD,hi']
    rw[e1,e2];exact O7 w Pi _
  ·exact .v _
 |_=>exact O7 w Pi _
theorem WZ {w:World}{Pi:Nat->Nat->Prop}{live:Nat->Prop}{rho:Nat->Value}{env:Env}{a:Act}(h:∀t,RepA w Pi live rho (a.tmps.getD t undef) (get env t))(x:Operand):RepA w Pi live rho (a.eval x) (aev env x):=by
 cases x with
 |tmp t=>exact h t
 |const v=>exact .p _ _ (Qv w Pi v)
 |global g=>exact .top _
 |func f=>exact .clo f #[] #[] [] [] rfl rfl (fun i hi=>absurd hi (by simp)) (fun i hi=>absurd hi (by simp))
theorem Sat.aev {C:Ctx}{st:St}{a:Act}{w:World}{rho:Nat->Value}(h:Sat C st a w rho)(x:Operand):RepA w (Prv C.X (A1 st.regs) rho) (Lv (A1 st.regs)) rho (a.eval x) (AM.aev st.env x):=WZ h.env x
theorem Sat.put {C:Ctx}{st:St}{a:Act}{w:World}{rho:Nat->Value}(h:Sat C st a w rho){v:Value}{x:AV}(hv:RepA w (Prv C.X (A1 st.regs) rho) (Lv (A1 st.regs)) rho v x){d:Option Nat}
 (hd:∀t,d=some t->t<a.tmps.size):Sat C (AM.put st d x) (a.put d v) w rho:=by
 cases d with
 |none=>exact h
 |some d=>
  refine⟨h.toSatE,fun t=>?_,h.pin,h.marks⟩;show RepA w (Prv C.X (A1 st.regs) rho) (Lv (A1 st.regs)) rho ((a.tmps.setIfInBounds d v).getD t undef) (AM.get (ins d x st.env) t);rw[Qu];split
  ·rename_i e;subst e
   have:=hd d rfl
   simpa[Array.getD_eq_getD_getElem?,this]using hv
  ·rename_i e
   have:=h.env t
   simpa[Array.getD_eq_getD_getElem?,Array.getElem?_setIfInBounds,e]using this
def isC:Option Go.Obj->Bool
 |some (.cells ..)|some (.map ..)=>true
 |_=>false
theorem HoldsC.kind {w:World}{Pi:Nat->Nat->Prop}{live:Nat->Prop}{rho:Nat->Value}{h:Value}{o:Obj}(hh:HoldsC w Pi live rho h o){b:Nat}(hb:O5 h o=some b):isC w.heap[b]? = true:=by
 cases o with
 |cells cs=>obtain⟨b',c,T,rfl,h1,_⟩:=hh;cases hb;rw[h1];rfl
 |vec e k n f vw=>
  rcases hh with⟨rfl,_⟩ | ⟨b',cap,c,rfl,h1,_⟩
  ·cases hb
  ·cases hb;rw[h1];rfl
 |map es=>obtain⟨b',ents,clock,rfl,h1,_⟩:=hh;cases hb;rw[h1];rfl
 |arr n f=>obtain⟨b',c,T,rfl,h1,_⟩:=hh;cases hb;rw[h1];rfl
 |ghost cs=>cases hb
 |yld r b=>cases hb
 |dead=>cases hb
 |fam e n jr x=>
  rcases hh with⟨rv,_,_,⟨rfl,_⟩ | ⟨b',cap,c,rfl,h1,_⟩⟩
  ·cases hb
  ·cases hb;rw[h1];rfl
 |rows=>exact hh.elim
theorem HoldsO.kind {w:World}{Pi:Nat->Nat->Prop}{live:Nat->Prop}{rho:Nat->Value}{h:Value}{o:Obj}(hh:HoldsO w Pi live rho h o){b:Nat}(hb:D8 h o b):isC w.heap[b]? = true:=by obtain⟨h',o',h1,h2⟩:=hh.own hb;exact h1.kind h2
theorem HoldsO.nd {w:World}{Pi:Nat->Nat->Prop}{live:Nat->Prop}{rho:Nat->Value}{h:Value}{o:Obj}(hh:HoldsO w Pi live rho h o){b:Nat}(hb:D8 h o b)(h3:w.heap[b]? = some (.deferred (some []))):False:=by
 have:=hh.kind hb;rw[h3]at this;cases this
theorem Sat.step {C:Ctx}{st:St}{a:Act}{w:World}{rho:Nat->Value}(h:Sat C st a w rho){R' : C4}{rho' : Nat->Value}{w' : World}(D:Nat->Prop)
 (hsame:∀j,¬D j->A1 R' j=A1 st.regs j) (hlive:∀j,Lv (A1 st.regs) j->Lv (A1 R') j/\rho' j=rho j) (hsz:w.heap.size<=w'.heap.size)
 (hnew:∀j,¬Lv (A1 st.regs) j->Lv (A1 R') j->1000<=j) (hyl:∀j r b,D j->A1 R' j≠some (.yld r b))
 (hblk:∀b,b<w.heap.size->(∀j o,D j->A1 st.regs j=some o->¬D8 (rho j) o b)->w'.heap[b]? = w.heap[b]?)
 (hown:∀j o b,D j->A1 R' j=some o->D8 (rho' j) o b->(∃i oi,D i/\A1 st.regs i=some oi/\D8 (rho i) oi b) \/ w.heap.size<=b)
 (hdist:∀i j oi oj b,D i->D j->A1 R' i=some oi->A1 R' j=some oj->D8 (rho' i) oi b->D8 (rho' j) oj b->i=j)
 (hkeep:∀i oi b off v,D i->A1 st.regs i=some oi->D8 (rho i) oi b->¬Prv C.X (A1 st.regs) rho b off->w.cell? ⟨b,off,none⟩=some v ->
  w'.cell? ⟨b,off,none⟩=some v/\∀j o,D j->A1 R' j=some o->D8 (rho' j) o b->¬Gw o off)
 (hh:Keeps w (Prv C.X (A1 st.regs) rho) w' (Prv C.X (A1 R') rho')->∀j o,D j->A1 R' j=some o->HoldsO w' (Prv C.X (A1 R') rho') (Lv (A1 R')) rho' (rho' j) o) (hext:Ext w w':=by exact⟨rfl,rfl⟩) :
 Sat C { st with regs:=R' } a w' rho' /\ Keeps w (Prv C.X (A1 st.regs) rho) w' (Prv C.X (A1 R') rho'):=by
 obtain⟨hhp,hk⟩:=h.hp.update D hsame hlive hsz hblk hown hdist hkeep hh;refine⟨⟨⟨hhp,h.ext.trans hext,Nat.le_trans h.size hsz,fun b hb hE=>?_,h.keep.trans hk,?_,?_⟩,fun t=>(h.env t).keeps hk hlive,?_,?_⟩,hk⟩
 ·rw[hblk b (Nat.lt_of_lt_of_le hb h.size) fun j o hj hr hbo=>?_]
  ·exact h.same b hb hE
  ·rcases h.own b ⟨j,o,hr,hbo⟩with h1|h1
   ·exact hE h1
   ·omega
 ·rintro b ⟨j,o,hj,hb⟩;by_cases hD:D j
  ·rcases hown j o b hD hj hb with⟨i,oi,_,hi,hbi⟩ | hge
   ·exact h.own b ⟨i,oi,hi,hbi⟩
   ·exact .inr (Nat.le_trans h.size hge)
  ·rw[hsame j hD]at hj;rw[(hlive j (by simp[Lv,hj])).2]at hb;exact h.own b ⟨j,o,hj,hb⟩
 ·intro j r b hj;by_cases hD:D j
  ·exact absurd hj (hyl j r b hD)
  ·rw[hsame j hD]at hj;rw[(hlive j (by simp[Lv,hj])).2];exact h.yld j r b hj
 ·intro j hlt hl;by_cases hj:Lv (A1 st.regs) j
  ·rw[(hlive j hj).2];exact h.pin j hlt hj
  ·have:=hnew j hj hl;omega
 ·refine⟨h.marks.1,fun d hd=>?_⟩;obtain⟨r,h1,h2,h3,h4⟩:=h.marks.2 d hd;refine⟨r,h1,h2,?_,h4⟩;rw[hblk r (Array.getElem?_eq_some_iff.1 h3).1 fun j o hj hr hbo=>(h.hp.holds j o hr).nd hbo h3];exact h3
section
variable {C:Ctx}{st:St}{a:Act}{w:World}{rho:Nat->Value}
abbrev PiS (C:Ctx)(st:St)(rho:Nat->Value):Nat->Nat->Prop:=Prv C.X (A1 st.regs) rho
abbrev RS (C:Ctx)(st:St)(w:World)(rho:Nat->Value):Value->AV->Prop:=RepA w (Prv C.X (A1 st.regs) rho) (Lv (A1 st.regs)) rho
theorem Sat.fresh (h:Sat C st a w rho){j:Nat}(hj:1000<=j)(hn:A1 st.regs j=none)(ob:Obj)(hv:Value){w' : World}(hsz:w.heap.size<=w'.heap.size)
 (hheap:∀b,b<w.heap.size->w'.heap[b]? = w.heap[b]?) (hb:∀b,D8 hv ob b->w.heap.size<=b)
 (hh:Keeps w (PiS C st rho) w' (Prv C.X (A1 (ins j ob st.regs)) (fun i=>if i=j then hv else rho i)) ->
  HoldsO w' (Prv C.X (A1 (ins j ob st.regs)) (fun i=>if i=j then hv else rho i)) (Lv (A1 (ins j ob st.regs))) (fun i=>if i=j then hv else rho i) hv ob) (hy:∀r b,ob ≠ .yld r b:=by intro _ _ h;cases h) (hext:Ext w w':=by exact⟨rfl,rfl⟩) :
 Sat C { st with regs:=ins j ob st.regs } a w' (fun i=>if i=j then hv else rho i)/\Keeps w (PiS C st rho) w' (Prv C.X (A1 (ins j ob st.regs)) (fun i=>if i=j then hv else rho i)) /\
  ∀i,Lv (A1 st.regs) i->Lv (A1 (ins j ob st.regs)) i/\(if i=j then hv else rho i)=rho i:=by
 have hlive:∀i,Lv (A1 st.regs) i->Lv (A1 (ins j ob st.regs)) i/\(if i=j then hv else rho i)=rho i:=by
  intro i hi;by_cases e:i=j
  ·subst e;simp[Lv,hn]at hi
  ·simp only[e,if_false,Lv,A4,if_neg (Ne.symm e)];exact⟨hi,trivial⟩
 obtain⟨h1,h2⟩:=h.step (R':=ins j ob st.regs) (rho':=fun i=>if i=j then hv else rho i) (w':=w') (· = j) (fun i hi=>by rw[A4,if_neg (Ne.symm hi)]) hlive hsz
  (fun i hi hi'=>by
   by_cases e:i=j
   ·omega
   ·simp only[Lv,A4,if_neg (Ne.symm e)]at hi';exact absurd hi' hi)
  (fun i r b hi he=>by subst hi;simp only[A4,if_true,Option.some.injEq]at he;exact hy r b he)
  (fun b hb _=>hheap b hb)
  (fun i o b hi ho hbo=>by subst hi;simp only[A4,if_true,Option.some.injEq]at ho hbo;subst ho;exact .inr (hb b hbo))
  (fun i i' oi oi' b hi hi' _ _ _ _=>hi.trans hi'.symm)
  (fun i oi b off v hi hr _ _ _=>by subst hi;rw[hn]at hr;cases hr)
  (fun hk i o hi ho=>by subst hi;simp only[A4,if_true,Option.some.injEq]at ho;subst ho;simp only[if_true];exact hh hk) hext
 exact⟨h1,h2,hlive⟩
theorem Sat.modify (h:Sat C st a w rho){j:Nat}{o ob:Obj}{b:Nat}(hj:A1 st.regs j=some o)(hbo:D8 (rho j) o b)(hp:∀off,Gw o off)(hbo' : ∀b',D8 (rho j) ob b' -> b' = b){w' : World}(hsz:w'.heap.size=w.heap.size)
 (hheap:∀b',b' ≠ b->w'.heap[b']? = w.heap[b']?)
 (hh:Keeps w (PiS C st rho) w' (Prv C.X (A1 (ins j ob st.regs)) rho)->HoldsO w' (Prv C.X (A1 (ins j ob st.regs)) rho) (Lv (A1 (ins j ob st.regs))) rho (rho j) ob) (hy:∀r b,ob ≠ .yld r b:=by intro _ _ h;cases h) (hext:Ext w w':=by exact⟨rfl,rfl⟩) :
 Sat C { st with regs:=ins j ob st.regs } a w' rho/\Keeps w (PiS C st rho) w' (Prv C.X (A1 (ins j ob st.regs)) rho)/\∀i,Lv (A1 st.regs) i->Lv (A1 (ins j ob st.regs)) i/\rho i=rho i:=by
 have hlive:∀i,Lv (A1 st.regs) i->Lv (A1 (ins j ob st.regs)) i/\rho i=rho i:=by
  intro i hi;refine⟨?_,rfl⟩;simp only[Lv,A4];split
  ·rfl
  ·exact hi
 obtain⟨h1,h2⟩:=h.step (R':=ins j ob st.regs) (rho':=rho) (w':=w') (· = j) (fun i hi=>by rw[A4,if_neg (Ne.symm hi)]) hlive (by omega)
  (fun i hi hi'=>by
   simp only[Lv,A4]at hi hi';split at hi'
   ·rename_i e;subst e;simp[hj]at hi
   ·exact absurd hi' hi)
  (fun i r b hi he=>by subst hi;simp only[A4,if_true,Option.some.injEq]at he;exact hy r b he)
  (fun b' _ hne=>hheap b' (fun e=>hne j o rfl hj (e ▸ hbo)))
  (fun i oi b' hi ho hb'=>by
   subst hi;simp only[A4,if_true,Option.some.injEq]at ho;subst ho
   have:=hbo' b' hb';subst this
   exact .inl ⟨i,o,rfl,hj,hbo⟩)
  (fun i i' oi oi' b hi hi' _ _ _ _=>hi.trans hi'.symm)
  (fun i oi b' off v hi hr hb' hnp _=>by subst hi;rw[hj]at hr;cases hr;exact absurd (.inr ⟨i,o,hj,hb',hp off⟩) hnp)
  (fun hk i oi hi ho=>by subst hi;simp only[A4,if_true,Option.some.injEq]at ho;subst ho;exact hh hk) hext
 exact⟨h1,h2,hlive⟩
theorem Sat.viewed (h:Sat C st a w rho){j:Nat}{e:TypeId}{k n:Nat}{f:Nat->List PV}{vw:Bool}(hj:A1 st.regs j=some (.vec e k n f vw)) :Sat C { st with regs:=ins j (.vec e k n f true) st.regs } a w rho/\Keeps w (PiS C st rho) w (Prv C.X (A1 (ins j (.vec e k n f true) st.regs)) rho) /\
  (∀i,Lv (A1 st.regs) i->Lv (A1 (ins j (.vec e k n f true) st.regs)) i/\rho i=rho i):=by
 have hlive:∀i,Lv (A1 st.regs) i->Lv (A1 (ins j (.vec e k n f true) st.regs)) i/\rho i=rho i:=by
  intro i hi;refine⟨?_,rfl⟩;simp only[Lv,A4];split
  ·rfl
  ·exact hi
 obtain⟨h1,h2⟩:=h.step (R':=ins j (.vec e k n f true) st.regs) (rho':=rho) (w':=w) (· = j) (fun i hi=>by rw[A4,if_neg (Ne.symm hi)]) hlive (Nat.le_refl _)
  (fun i hi hi'=>by
   simp only[Lv,A4]at hi hi';split at hi'
   ·rename_i e;subst e;simp[hj]at hi
   ·exact absurd hi' hi)
  (fun i r b hi he=>by subst hi;simp[A4]at he)
  (fun b' _ _=>rfl)
  (fun i oi b' hi ho hb'=>by subst hi;simp only[A4,if_true,Option.some.injEq]at ho;subst ho;exact .inl ⟨i,_,rfl,hj,hb'⟩)
  (fun i i' oi oi' b hi hi' _ _ _ _=>hi.trans hi'.symm)
  (fun i oi b' off v hi hr hb' hnp hc=>by
   subst hi;rw[hj]at hr;cases hr;refine⟨hc,fun i' oi' hi' hr' hb'' hp=>?_⟩;subst hi';simp only[A4,if_true,Option.some.injEq]at hr';subst hr';refine hnp (.inr ⟨i',_,hj,hb', ?_⟩);cases vw
   ·trivial
   ·exact hp)
  (fun hk i oi hi ho=>by subst hi;simp only[A4,if_true,Option.some.injEq]at ho;subst ho;exact (h.hp.holds i _ hj).keeps (o:=.vec e k n f vw) hk hlive (fun _ _=>rfl))
 exact⟨h1,h2,hlive⟩
theorem H2 {i j k n:Nat}(hi:i<n)(hj:j<k):i*k+j<n*k:=
 Nat.lt_of_lt_of_le (Nat.add_lt_add_left hj _) (by rw[<- Nat.succ_mul];exact Nat.mul_le_mul_right k hi)
theorem Hp.pubd {X:Nat->Nat->Prop}{R:Nat->Option Obj}{w:World}(h:Hp X R rho w){j:Nat}{o:Obj}{b off:Nat}(hj:R j=some o)(hb:D8 (rho j) o b)(hp:¬Gw o off):¬Prv X R rho b off:=by
 rintro (hX|⟨i,oi,hi,hbi,hpi⟩)
 ·exact h.out j o b off hj hb hX
 ·have:=h.sep i j oi o b hi hj hbi hb
  subst this;rw[hj]at hi;cases hi;exact hp hpi
theorem cell_of_heap {w:World}{b:Nat}{c:Array Value}{T:TypeId}{fz:Nat×Nat}(h:w.heap[b]? = some (.cells c T fz)){o:Nat}(ho:o<c.size):w.cell? ⟨b,o,none⟩=some (c.getD o undef):=by simp[World.cell?,h,Array.getD_eq_getD_getElem?,ho]
theorem Sat.sl (h:Sat C st a w rho){j m:Nat}{e:TypeId}{k n:Nat}{f:Nat->List PV}(hj:A1 st.regs j=some (.vec e k n f true)){base:Option Addr}{cap n' : Nat}(hr:rho j=.slice base n' cap)(hm:m<=n) :RepP w (PiS C st rho) (.slice base m cap) (.sl false k m f):=by
 have hh:=h.hp.holds j _ hj;rw[hr]at hh;rcases hh with⟨hn,rfl⟩ | ⟨b,cap',c,hh,h1,h2,h3,h4,h5,h6⟩
 ·cases hn
  have:m=0:=by omega
  subst this;exact .slnil k f
 ·cases hh;refine .sl false b 0 cap k m f (fun i j=>c.getD (i*k+j) undef) (by omega) (fun i hi=>h5 i (by omega)) (fun i l hi hl=>?_) (fun i l hi hl=>(h6 i l (by omega) hl).1) none (fun _=>rfl);have hlt:=H2 (show i<n by omega) hl;have hle:n*k<=c.size:=by rw[h3];exact Nat.mul_le_mul_right k h2
  rw[Nat.zero_add];refine⟨cell_of_heap h1 (by omega),h.hp.pubd hj (b:=b) (by simp[D8,O5,hr]) (by simp only[Gw];omega),(h6 i l (by omega) hl).2⟩
structure Kp (C:Ctx) (R R' : C4) (w w' : World) (rho rho' : Nat->Value):Prop where
 keeps:Keeps w (Prv C.X (A1 R) rho) w' (Prv C.X (A1 R') rho')
 live:∀i,Lv (A1 R) i->Lv (A1 R') i/\rho' i=rho i
theorem Kp.refl (C:Ctx)(R:C4)(w:World)(rho:Nat->Value):Kp C R R w w rho rho:=⟨Keeps.refl _ _,fun i hi=>⟨hi,rfl⟩⟩
theorem Kp.trans {C:Ctx}{R R' R'' : C4}{w w' w'' : World}{rho rho' rho'' : Nat->Value}(h:Kp C R R' w w' rho rho')(h' : Kp C R' R'' w' w'' rho' rho''):Kp C R R'' w w'' rho rho'':=
 ⟨h.keeps.trans h'.keeps,fun i hi=>⟨(h'.live i (h.live i hi).1).1,((h'.live i (h.live i hi).1).2).trans (h.live i hi).2⟩⟩
theorem Kp.p {R R' : C4}{w w' : World}{rho rho' : Nat->Value}(h:Kp C R R' w w' rho rho'){v:Value}{x:PV}(hv:RepP w (Prv C.X (A1 R) rho) v x):RepP w' (Prv C.X (A1 R') rho') v x:=hv.keeps h.keeps
theorem Kp.av {R R' : C4}{w w' : World}{rho rho' : Nat->Value}(h:Kp C R R' w w' rho rho'){v:Value}{x:AV}(hv:RepA w (Prv C.X (A1 R) rho) (Lv (A1 R)) rho v x):RepA w' (Prv C.X (A1 R') rho') (Lv (A1 R')) rho' v x:=hv.keeps h.keeps h.live
theorem GA {w:World}{Pi:Nat->Nat->Prop}{live:Nat->Prop}{h:Value}{e:TypeId}{k n:Nat}{f:Nat->List PV}{vw:Bool}(hh:HoldsO w Pi live rho h (.vec e k n f vw)):∃base cap,h=.slice base n cap:=by
 rcases hh with⟨rfl,rfl⟩ | ⟨b,cap,c,rfl,_⟩
 ·exact⟨_,_,rfl⟩
 ·exact⟨_,_,rfl⟩
theorem GB:∀{cs:List AV}{l:List PV},Oq cs=some l->cs=l.map .p
 |[],l,h=>by simp[Oq]at h;subst h;rfl
 |.p x::r,l,h=>by
  simp only[Oq]at h;split at h
  ·rename_i l' hl;cases h;rw[GB hl];rfl
  ·cases h
 |.reg .. :: _,_,h | .vec .. :: _,_,h | .vecp .. :: _,_,h | .elt .. :: _,_,h | .mref .. :: _,_,h | .clo .. :: _,_,h | .tup .. :: _,_,h | .agr .. :: _,_,h | .yf .. :: _,_,h | .top::_,_,h=>by simp[Oq]at h
theorem RepA.toP {w:World}{Pi:Nat->Nat->Prop}{live:Nat->Prop}{v:Value}{x:PV}(h:RepA w Pi live rho v (.p x)):RepP w Pi v x:=by cases h;assumption
theorem RepA.clo_fn {w:World}{Pi:Nat->Nat->Prop}{live:Nat->Prop}{f:FuncId}{x y:Array Value}{a b:List AV}{a' b' : List PV}(ha:Oq a=some a')(hb:Oq b=some b')
 (h:RepA w Pi live rho (.func (.func f) x y) (.clo f a b)):RepP w Pi (.func (.func f) x y) (.fn f a' b'):=by
 have:=GB ha;subst this
 have:=GB hb;subst this
 cases h with
 |clo _ _ _ _ _ hx hy hl hr=>
  refine .fn f x y a' b' (by simpa using hx) (by simpa using hy) (fun i hi=>?_) fun i hi=>?_
  ·have:=hl i (by simpa using hi)
   simp only[List.getD_eq_getElem?_getD,List.getElem?_map,List.getElem?_eq_getElem hi,Option.map_some,Option.getD_some]at this⊢;exact this.toP
  ·have:=hr i (by simpa using hi)
   simp only[List.getD_eq_getElem?_getD,List.getElem?_map,List.getElem?_eq_getElem hi,Option.map_some,Option.getD_some]at this⊢;exact this.toP
theorem Dh (h:Sat C st a w rho){v:Value}{x:AV}(hv:RS C st w rho v x){y' : PV}{R' : C4}(he:Gv st.regs x=some (y',R')) :Sat C { st with regs:=R' } a w rho/\RepP w (Prv C.X (A1 R') rho) v y' /\ Kp C st.regs R' w w rho rho:=by
 cases hv with
 |p _ x hx=>simp only[Gv,Option.some.injEq,Prod.mk.injEq]at he;obtain⟨rfl,rfl⟩:=he;exact⟨h,hx.nP,Kp.refl _ _ _ _⟩
 |vec j base n' cap hl hr=>
  simp only[Gv]at he;split at he
  ·rename_i e k n f vw hj;simp only[Option.some.injEq,Prod.mk.injEq]at he;obtain⟨rfl,rfl⟩:=he;obtain⟨h1,h2,h3⟩:=h.viewed hj;obtain⟨base',cap',hr'⟩:=GA (h.hp.holds j _ hj);rw[hr]at hr';cases hr';exact⟨h1,h1.sl (j:=j) (m:=n') (e:=e) (k:=k) (n:=n') (f:=f) (by simp[A4]) hr (Nat.le_refl _),h2,h3⟩
  ·cases he
 |vecp j m base n cap hl hr hm=>
  simp only[Gv]at he;split at he
  ·rename_i e k n' f vw hj;simp only[Option.some.injEq,Prod.mk.injEq]at he;obtain⟨rfl,rfl⟩:=he;obtain⟨h1,h2,h3⟩:=h.viewed hj;obtain⟨base',cap',hr'⟩:=GA (h.hp.holds j _ hj);rw[hr]at hr';cases hr';rw[Nat.min_eq_left hm];exact⟨h1,h1.sl (j:=j) (m:=m) (e:=e) (k:=k) (n:=n) (f:=f) (by simp[A4]) hr hm,h2,h3⟩
  ·cases he
 |clo f x y l r hx hy hl hr=>
  have gen:(match Oq l,Oq r with
   |some a,some b=>some (PV.fn f a b,st.regs)
   |_,_=>none)=some (y',R')->Sat C { st with regs:=R' } a w rho/\RepP w (Prv C.X (A1 R') rho) (.func (.func f) x y) y' /\ Kp C st.regs R' w w rho rho:=by
   intro he;split at he
   ·rename_i a' b' ha hb;simp only[Option.some.injEq,Prod.mk.injEq]at he;obtain⟨rfl,rfl⟩:=he;exact⟨h,RepA.clo_fn ha hb (.clo f x y l r hx hy hl hr),Kp.refl _ _ _ _⟩
   ·cases he
  cases l with
  |cons _ _=>exact gen he
  |nil=>
   cases r with
   |cons _ _=>exact gen he
   |nil=>simp only[Gv,Option.some.injEq,Prod.mk.injEq]at he;obtain⟨rfl,rfl⟩:=he;have hx' : x = #[]:=Array.size_eq_zero_iff.1 (by simpa using hx);have hy' : y = #[]:=Array.size_eq_zero_iff.1 (by simpa using hy);subst hx';subst hy';exact⟨h,.v _,Kp.refl _ _ _ _⟩
 |reg=>simp[Gv]at he
 |elt=>simp[Gv]at he
 |yf=>simp[Gv]at he
 |mref=>simp[Gv]at he
 |tup=>simp[Gv]at he
 |agr=>simp[Gv]at he
 |top=>simp[Gv]at he
end
end Go.AM
namespace Go.AM
section
variable {P:Program}
theorem Al {t:TypeId}{k:TK}(h:tk P t=some k):∃d,P.underlying t=some d/\Qp d=k:=by
 unfold tk at h;cases hu:P.underlying t with
 |none=>simp[hu]at h
 |some d=>exact⟨d,rfl,by simpa[hu]using h⟩
theorem K0 {t e:TypeId}(h:tk P t=some (.slice e)):P.underlying t=some (.slice e):=by obtain⟨d,hu,hk⟩:=Al h;cases d<;>simp[Qp]at hk<;>subst hk<;>exact hu
theorem FA {t:TypeId}(h:tk P t=some .str):P.underlying t=some .string:=by obtain⟨d,hu,hk⟩:=Al h;cases d<;>simp[Qp]at hk<;>exact hu
theorem OF {t:TypeId}{k:IntKind}(h:tk P t=some (.int k)):P.underlying t=some (.int k):=by obtain⟨d,hu,hk⟩:=Al h;cases d<;>simp[Qp]at hk<;>subst hk<;>exact hu
theorem Zl {t:TypeId}(h:tk P t=some .bool):P.underlying t=some .bool:=by obtain⟨d,hu,hk⟩:=Al h;cases d<;>simp[Qp]at hk<;>exact hu
theorem LS {t k e:TypeId}(h:tk P t=some (.map k e)):P.underlying t=some (.map k e):=by obtain⟨d,hu,hk⟩:=Al h;cases d<;>simp[Qp]at hk;obtain⟨rfl,rfl⟩:=hk;exact hu
theorem Ji {t e:TypeId}{n:Nat}(h:tk P t=some (.arr n e)):P.underlying t=some (.array n e):=by obtain⟨d,hu,hk⟩:=Al h;cases d<;>simp[Qp]at hk;obtain⟨rfl,rfl⟩:=hk;exact hu
theorem Di {t:TypeId}{fs:List (Nat×TypeId)}(h:tk P t=some (.struct fs)):∃fa:Array Field,P.underlying t=some (.struct fa)/\fs=fa.toList.map fun f=>(f.offset,f.type):=by obtain⟨d,hu,hk⟩:=Al h;cases d<;>simp[Qp]at hk;exact⟨_,hu,hk.symm⟩
theorem MS {t:TypeId}{n:Nat}(h:tsz P t=some n):∃i,P.info? t=some i/\i.size=n:=by
 unfold tsz at h;cases hu:P.info? t with
 |none=>simp[hu]at h
 |some d=>exact⟨d,rfl,by simpa[hu]using h⟩
theorem BO {t:TypeId}{z:List PV}(h:Ou P t=some z):∃i v,P.info? t=some i/\i.zero=some v/\z=v.cells.toList.map LO:=by
 unfold Ou at h;cases hu:P.info? t with
 |none=>simp[hu]at h
 |some d=>
  cases hz:d.zero with
  |none=>simp[hu,hz]at h
  |some v=>exact⟨d,v,rfl,hz,by simpa[hu,hz]using h.symm⟩
variable (w:World)
theorem AA {t:TypeId}{d:TypeDesc}(h:P.underlying t=some d):(underlying t).run P w=.ok d w:=by simp[underlying,h]
theorem Ae0 {t:TypeId}{i:TypeInfo}(h:P.info? t=some i):(typeInfo t).run P w=.ok i w:=by simp[typeInfo,h]
theorem Ib {t:TypeId}{n:Nat}(h:tsz P t=some n):(sizeOf t).run P w=.ok n w:=by obtain⟨i,hi,rfl⟩:=MS h;simp[sizeOf,Ae0 w hi]
theorem Zm {t:TypeId}{i:TypeInfo}{v:Value}(h:P.info? t=some i)(hz:i.zero=some v):(zeroValue t).run P w=.ok v w:=by simp[zeroValue,Ae0 w h,hz]
theorem G9 {t:TypeId}{k:TK}(h:tk P t=some k):(isAgg t).run P w=.ok (Sc k) w:=by obtain⟨d,hu,rfl⟩:=Al h;cases d<;>simp[isAgg,AA w hu,Qp,Sc]
end
section
variable {w:World}{Pi:Nat->Nat->Prop}{live:Nat->Prop}{rho:Nat->Value}
def RepL (w:World)(Pi:Nat->Nat->Prop)(live:Nat->Prop)(rho:Nat->Value)(f:Nat->Value)(cs:List AV):Prop:=
 ∀i,i<cs.length->RepA w Pi live rho (f i) (cs.getD i .top)/\(f i).oneCell' = true
theorem RepL.keeps {w' : World}{Pi' : Nat->Nat->Prop}{live' : Nat->Prop}{rho' : Nat->Value}(hk:Keeps w Pi w' Pi')(hl:∀j,live j->live' j/\rho' j=rho j){f:Nat->Value}{cs:List AV}
 (h:RepL w Pi live rho f cs):RepL w' Pi' live' rho' f cs:=fun i hi=>⟨(h i hi).1.keeps hk hl,(h i hi).2⟩
theorem RepL.drop {f:Nat->Value}{cs:List AV}(h:RepL w Pi live rho f cs)(n:Nat):RepL w Pi live rho (fun i=>f (n+i)) (cs.drop n):=by
 intro i hi;simp only[List.length_drop]at hi
 have:=h (n+i) (by omega)
 simpa[List.getD_eq_getElem?_getD,List.getElem?_drop]using this
theorem RepL.take {f:Nat->Value}{cs:List AV}(h:RepL w Pi live rho f cs)(n:Nat):RepL w Pi live rho f (cs.take n):=by
 intro i hi;simp only[List.length_take]at hi
 have:=h i (by omega)
 simpa[List.getD_eq_getElem?_getD,List.getElem?_take,show i<n by omega]using this
theorem RepL.mkAgg {f:Nat->Value}{cs:List AV}(h:RepL w Pi live rho f cs){vs:Array Value}(hs:vs.size=cs.length)(hv:∀i,i<cs.length->vs.getD i undef=f i):RepA w Pi live rho (.agg vs) (mkAgg cs):=by
 unfold AM.mkAgg;split
 ·rename_i l hl
  have:=GB hl
  subst this;simp only[List.length_map]at hs hv h;refine .p _ _ (.agg vs l hs (fun i hi=>?_) fun i hi=>?_)
  ·rw[hv i hi];exact (h i (by simpa using hi)).2
  ·rw[hv i hi]
   have:=(h i (by simpa using hi)).1
   simp only[List.getD_eq_getElem?_getD,List.getElem?_map,List.getElem?_eq_getElem hi,Option.map_some,Option.getD_some]at this⊢;exact this.toP
 ·exact .agr vs cs hs (fun i hi=>by rw[hv i hi];exact (h i hi).2) fun i hi=>by rw[hv i hi];exact (h i hi).1
theorem Vo {v:Value}(h:v.oneCell' = true):v.cells = #[v]:=by cases v<;>first|rfl|simp[Value.oneCell']at h
theorem Fk {v:Value}{x:AV}(h:RepA w Pi live rho v x)(hs:AQ x=true) :v.cells.size=(cellsOf x).length/\RepL w Pi live rho (fun i=>v.cells.getD i undef) (cellsOf x):=by
 have one:∀{v:Value}{x:AV},v.oneCell' = true->RepA w Pi live rho v x->v.cells.size=[x].length/\RepL w Pi live rho (fun i=>v.cells.getD i undef) [x]:=by
  intro v x h1 hr;rw[Vo h1];refine⟨rfl,fun i hi=>?_⟩;simp only[List.length_singleton]at hi;obtain rfl:i=0:=by omega
  exact⟨hr,h1⟩
 cases h with
 |p _ y hy=>
  cases y with
  |agg cs=>
   cases hy with
   |agg vs _ hsz h1 h=>
    refine⟨by simp[Value.cells,cellsOf,hsz],fun i hi=>?_⟩;simp only[cellsOf,List.length_map]at hi⊢;refine⟨?_,h1 i hi⟩
    have:=h i hi
    simp only[List.getD_eq_getElem?_getD,List.getElem?_map,List.getElem?_eq_getElem hi,Option.map_some,Option.getD_some]at this⊢;exact .p _ _ this
  |v y=>exact one (hy.cell (by simpa[AQ,UX]using hs)) (.p _ _ hy.nP)
  |bb b=>exact one (hy.cell rfl) (.p _ _ hy)
  |str l=>exact one (hy.cell rfl) (.p _ _ hy)
  |sl nn k n f=>exact one (hy.cell rfl) (.p _ _ hy)
  |ptr cs=>exact one (hy.cell rfl) (.p _ _ hy)
  |iface t a=>exact one (hy.cell rfl) (.p _ _ hy)
  |fn f a b=>exact one (hy.cell rfl) (.p _ _ hy)
 |reg j off b hl h=>exact one rfl (.reg j off b hl h)
 |vec j base n cap hl h=>exact one rfl (.vec j base n cap hl h)
 |vecp j m base n cap hl h hm=>exact one rfl (.vecp j m base n cap hl h hm)
 |elt j k i off b n cap hl h=>exact one rfl (.elt j k i off b n cap hl h)
 |mref j r hl h=>exact one rfl (.mref j r hl h)
 |clo f x y a b hx hy ha hb=>exact one rfl (.clo f x y a b hx hy ha hb)
 |tup x a hx ha=>simp[AQ,UX]at hs
 |agr x a hx h1 ha=>exact⟨hx,fun i hi=>⟨ha i hi,h1 i hi⟩⟩
 |yf j l hl h=>exact one rfl (.yf j l hl h)
 |top=>simp[AQ,UX]at hs
end
end Go.AM
namespace Go.AM
section
variable {P:Program}{C:Ctx}{st:St}{a:Act}{w:World}{rho:Nat->Value}{o:Oper}{out:Out}{d:Nat}
def OpOk (P:Program)(C:Ctx)(o:Oper)(st:St)(a:Act)(w:World)(rho:Nat->Value)(out:Out):Prop:=
 ∃nx v w' rho',(execOp a.eval o).run P w=.ok nx w' /\ (nx=.value v \/ (nx=.skip/\v=undef))/\Sat C { st with regs:=out.regs } a w' rho' /\ Kp C st.regs out.regs w w' rho rho' /\
  RepA w' (Prv C.X (A1 out.regs) rho') (Lv (A1 out.regs)) rho' v out.val
theorem OpOk.pure (h:Sat C st a w rho){c:List Prop}{v:Value}{x:AV}(hr:(execOp a.eval o).run P w=.ok (.value v) w)(hx:RS C st w rho v x):OpOk P C o st a w rho ⟨c,x,st.regs⟩:=
 ⟨_,v,w,rho,hr,.inl rfl,h,Kp.refl _ _ _ _,hx⟩
theorem RepP.toInt {w:World}{Pi:Nat->Nat->Prop}{v:Value}{k:IntKind}{n:Int}(h:RepP w Pi v (.v (.int k n))):v=.int k n:=by cases h;rfl
theorem RepP.toBool {w:World}{Pi:Nat->Nat->Prop}{v:Value}{b:Bool}(h:RepP w Pi v (.bb b)):v=.bool b:=by cases h;rfl
theorem RepP.toV {w:World}{Pi:Nat->Nat->Prop}{v x:Value}(h:RepP w Pi v (.v x)):v=x:=by cases h;rfl
theorem RepP.toStr {w:World}{Pi:Nat->Nat->Prop}{v:Value}{l:List UInt8}(h:RepP w Pi v (.str l)):v=.string ⟨l.toArray⟩:=by cases h;rfl
theorem Vp (h:Sat C st a w rho){x:Operand}(ho:o.op=.move x \/ o.op=.assign x)(hr:out.regs=st.regs)(hv:out.val=aev st.env x):OpOk P C o st a w rho out:=by obtain⟨c,v,r⟩:=out;simp only at hr hv;subst hr;subst hv;refine OpOk.pure (v:=a.eval x) h ?_ (h.aev x);rcases ho with ho|ho<;>simp[execOp,ho]
theorem Zn (h:Sat C st a w rho){c x y:Operand}(ho:o.op=.pick c x y)(he:aop P st.env st.regs d o.op=some out):OpOk P C o st a w rho out:=by
 rw[ho]at he;simp only[aop]at he;have hc:=h.aev c;split at he
 ·rename_i hk;cases he;rw[hk]at hc;refine OpOk.pure (v:=a.eval x) h ?_ (h.aev x);simp[execOp,ho,hc.toP.toV,asBool]
 ·rename_i hk;cases he;rw[hk]at hc;refine OpOk.pure (v:=a.eval y) h ?_ (h.aev y);simp[execOp,ho,hc.toP.toV,asBool]
 ·rename_i hk;cases he;rw[hk]at hc;refine OpOk.pure (v:=a.eval x) h ?_ (h.aev x);simp[execOp,ho,hc.toP.toBool,asBool]
 ·rename_i hk;cases he;rw[hk]at hc;refine OpOk.pure (v:=a.eval y) h ?_ (h.aev y);simp[execOp,ho,hc.toP.toBool,asBool]
 ·cases he
theorem Bz (d i:Nat):1000<=nid d i:=by unfold nid;omega
theorem Jj {w:World}{Pi:Nat->Nat->Prop}{live:Nat->Prop}{rho:Nat->Value}{v:Value}{t:TypeId}{ps:List PV}(h:HoldsO w Pi live rho v (.cells (ps.map .p))):HoldsO w Pi live rho v (MP P t ps):=by
 unfold MP;split
 ·split
  ·rename_i n e hk hh;obtain⟨b,c,T,h1,h2,h3,h4⟩:=h;have h3:c.size=ps.length:=by simpa using h3
   refine⟨b,c,T,h1,h2,by omega,fun i hi=>?_⟩;have hi' : i<ps.length:=by omega
   have h5:=h4 i (by simpa using hi');have e:(ps.map AV.p).getD i .top=.p (ps.getD i default):=by simp[List.getD_eq_getElem?_getD,hi']
   rw[e]at h5;have e2:(ps.map nP).getD i default=nP (ps.getD i default):=by simp[List.getD_eq_getElem?_getD,hi']
   show RepP w Pi (c.getD i undef) ((ps.map nP).getD i default)/\_;rw[e2];exact⟨h5.1.toP.nP,h5.2⟩
  ·exact h
 ·exact h
theorem OG {w:World}{Pi:Nat->Nat->Prop}{live:Nat->Prop}{rho:Nat->Value}{v:Value}{t:TypeId}{x:AV}(h:HoldsO w Pi live rho v (.cells (cellsOf x))):HoldsO w Pi live rho v (HX P t x):=by
 unfold HX;split
 ·exact Jj h
 ·exact h
theorem LT {v:Value}{t:TypeId}{ps:List PV}{b:Nat}:D8 v (MP P t ps) b↔(match v with | .pointer (some a)=>some a.block|_=>none:Option Nat)=some b:=by
 unfold MP;split
 ·split<;>rfl
 ·rfl
theorem Qw {v:Value}{t:TypeId}{x:AV}{b:Nat}:D8 v (HX P t x) b↔(match v with | .pointer (some a)=>some a.block|_=>none:Option Nat)=some b:=by
 unfold HX;split
 ·exact LT
 ·rfl
theorem Se {t:TypeId}{ps:List PV}(r:List (List PV))(b:Bool):MP P t ps ≠ .yld r b:=by
 unfold MP;split
 ·split<;>(intro h;cases h)
 ·intro h;cases h
theorem Vq {t:TypeId}{x:AV}(r:List (List PV))(b:Bool):HX P t x ≠ .yld r b:=by
 unfold HX;split
 ·exact Se r b
 ·intro h;cases h
theorem Xa (h:Sat C st a w rho){t:TypeId}(ho:o.op=.alloc t)(he:aop P st.env st.regs d o.op=some out):OpOk P C o st a w rho out:=by
 rw[ho]at he;simp only[aop]at he;split at he
 ·rename_i z hn hz;split at he
  ·rename_i hall;cases he;obtain⟨i,v,hi,hiz,rfl⟩:=BO hz;obtain⟨h1,h2,h3⟩:=h.fresh (Bz d 0) hn (MP P t (v.cells.toList.map LO)) (.pointer (some ⟨w.heap.size,0,none⟩)) (w':=w.alloc (.cells v.cells t)) (by simp)
    (fun b hb=>heap_alloc_old w _ b hb) (fun b hb=>by simp[LT]at hb;omega) (fun hk=>by
     refine Jj ⟨w.heap.size,v.cells,t,rfl,heap_alloc_new w _,by simp,fun i hi=>?_⟩;simp only[List.length_map,Array.length_toList]at hi;have e:(v.cells.getD i undef)=v.cells[i]:=by simp[Array.getD_eq_getD_getElem?,hi]
     rw[e];refine⟨?_,?_⟩
     ·simp only[List.getD_eq_getElem?_getD,List.getElem?_map,Array.getElem?_toList,Array.getElem?_eq_getElem hi,Option.map_some,Option.getD_some];exact .p _ _ (O7 _ _ _)
     ·simp only[List.all_map,List.all_eq_true,Function.comp]at hall;exact (O7 w (fun _ _=>False) _).cell (hall _ (by simp))) (fun r b=>Se r b)
   refine⟨_,_,_,_,?_,.inl rfl,h1,⟨h2,h3⟩,.reg _ 0 w.heap.size (by simp[Lv,A4]) (by simp)⟩;simp[execOp,ho,Instr.alloc,Zm w hi hiz,newVar,newRow]
  ·cases he
 ·cases he
theorem Ae1 (h:Sat C st a w rho){t:TypeId}{x:Operand}(ho:o.op=.box t x)(he:aop P st.env st.regs d o.op=some out):OpOk P C o st a w rho out:=by
 rw[ho]at he;simp only[aop]at he;split at he
 ·rename_i hn hs;cases he;obtain⟨hsz,hl⟩:=Fk (h.aev x) hs;obtain⟨h1,h2,h3⟩:=h.fresh (Bz d 0) hn (HX P t (aev st.env x)) (.pointer (some ⟨w.heap.size,0,none⟩)) (w':=w.alloc (.cells (a.eval x).cells t)) (by simp)
   (fun b hb=>heap_alloc_old w _ b hb) (fun b hb=>by simp[Qw]at hb;omega) (fun hk=>by
    refine OG ⟨w.heap.size,(a.eval x).cells,t,rfl,heap_alloc_new w _,hsz,hl.keeps hk ?_⟩;intro i hi;by_cases e:i=nid d 0
    ·subst e;simp[Lv,hn]at hi
    ·simp only[e,if_false,Lv,A4,if_neg (Ne.symm e)];exact⟨hi,trivial⟩) (fun r b=>Vq r b)
  refine⟨_,_,_,_,?_,.inl rfl,h1,⟨h2,h3⟩,.reg _ 0 w.heap.size (by simp[Lv,A4]) (by simp)⟩;simp[execOp,ho,Instr.box,newVar,newRow]
 ·cases he
theorem Am {Pi:Nat->Nat->Prop}{live:Nat->Prop}{f:Nat->Value}{cs:List AV}{t:TypeId}{x:AV}{b off:Nat}(hl:RepL w Pi live rho f cs)
 (hc:∀i,i<cs.length->w.cell? ⟨b,off+i,none⟩=some (f i)) (he:ldA P t cs=some x):∃v,(loadVar t ⟨b,off,none⟩).run P w=.ok v w/\RepA w Pi live rho v x:=by
 unfold ldA at he;split at he
 ·rename_i k n hk hn;split at he
  ·rename_i hag;split at he
   ·rename_i hle;cases he;have hlc:=run_loadCells (P:=P) w ⟨b,off,none⟩ n f (fun j hj=>by rw[Addr.add_lit];exact hc j (by omega));refine⟨_,?_,(hl.take n).mkAgg (vs:=((List.range n).map f).toArray) (by simp;omega) (fun i hi=>?_)⟩
    ·simp[loadVar,G9 w hk,hag,Ib w hn,hlc]
    ·simp only[List.length_take]at hi;simp[Array.getD_eq_getD_getElem?,show i<n by omega]
   ·cases he
  ·rename_i hag;cases cs with
   |nil=>cases he
   |cons c r=>cases he;have h0:=hc 0 (by simp);rw[Nat.add_zero]at h0;refine⟨f 0,?_,(hl 0 (by simp)).1⟩;simp[loadVar,G9 w hk,hag,h0]
 ·cases he
theorem Sf (l:List PV):Oq (l.map .p)=some l:=by
 induction l with
 |nil=>rfl
 |cons x r ih=>simp[Oq,ih]
theorem Vr {t:TypeId}{cs:List PV}{c:List Prop}{x:AV}(he:ldP P t cs=some (c,x))(hc:D0 c):ldA P t (cs.map .p)=some x:=by
 unfold ldP at he;unfold ldA;split at he
 ·rename_i k n hk hn;split at he
  ·rename_i hag;cases he;simp only[D0]at hc;simp only[List.length_map,hc,if_true,<- List.map_take,mkAgg,Sf]
  ·rename_i hag;split at he
   ·cases he;rfl
   ·cases he
 ·cases he
theorem LU (h:Sat C st a w rho){v:Value}{x y:AV}{t:TypeId}{c:List Prop}(hv:RS C st w rho v x)(he:load P st.regs t x=some (c,y))(hc:D0 c) :∃u,(Instr.loadAt t v).run P w=.ok u w/\RS C st w rho u y:=by
 cases hv with
 |reg j off b hl hr=>
  simp only[load]at he;split at he
  ·rename_i cs hj;split at he
   ·rename_i y' hld;cases he;have hh:=h.hp.holds j _ hj;rw[hr]at hh;obtain⟨b',c,T,hb',hheap,hsz,hrep⟩:=hh;cases hb';obtain⟨u,hu,hru⟩:=Am (P:=P) (t:=t) (b:=b) (off:=off) (RepL.drop (f:=fun i=>c.getD i undef) hrep off) (fun i hi=>by simp only[List.length_drop]at hi;exact cell_of_heap hheap (by omega)) hld
    exact⟨u,by simp[Instr.loadAt,Instr.sureAddr,hu],hru⟩
   ·cases he
  ·rename_i n f hj;have hh:=h.hp.holds j _ hj;rw[hr]at hh;obtain⟨b',c,T,hb',hheap,hsz,hrep⟩:=hh;cases hb';split at he
   ·rename_i k m hk hm;split at he
    ·rename_i hag;split at he
     ·rename_i hmn;cases he;obtain⟨hmn,hoff⟩:=hmn;subst hoff;subst hmn;obtain⟨u,hu,hru⟩:=Am (P:=P) (t:=t) (b:=b) (off:=0) (w:=w) (rho:=rho) (Pi:=PiS C st rho) (live:=Lv (A1 st.regs)) (f:=fun i=>c.getD i undef) (cs:=(Aj m f).map .p) (x:=.p (.agg (Aj m f)))
       (fun i hi=>by
        have hi:i<m:=by simpa[Aj]using hi
        have e:((Aj m f).map AV.p).getD i .top=.p (f i):=by simp[Aj,List.getD_eq_getElem?_getD,hi]
        rw[e];exact⟨.p _ _ (hrep i hi).1,(hrep i hi).2⟩)
       (fun i hi=>by
        have hi:i<m:=by simpa[Aj]using hi
        rw[Nat.zero_add];exact cell_of_heap hheap (by omega))
       (by
        have hl:((Aj m f).map AV.p).length=m:=by simp[Aj]
        unfold ldA;simp only[hk,hm,hag,hl,Nat.le_refl,if_true];rw[List.take_of_length_le (by omega)];simp only[mkAgg,Sf])
      exact⟨u,by simp[Instr.loadAt,Instr.sureAddr,hu],hru⟩
     ·cases he
    ·rename_i hag;cases he;have hoff:off<n:=hc;refine⟨c.getD off undef,?_,.p _ _ (hrep off hoff).1⟩;have h0:w.cell? ⟨b,off,none⟩=some (c.getD off undef):=cell_of_heap hheap (by omega)
     have:(loadVar t ⟨b,off,none⟩).run P w=.ok (c.getD off undef) w:=by simp[loadVar,G9 w hk,hag,h0]
     simp[Instr.loadAt,Instr.sureAddr,this]
   ·cases he
  ·cases he
 |elt j k i off b n cap hl hr=>
  simp only[load]at he;split at he
  ·rename_i e m n' f vw hj;split at he
   ·rename_i hkm;subst hkm;split at he
    ·rename_i c' y' hld;cases he;have hc':=(Jg _ _).1 hc;have hlt:=hc'.2;have hh:=h.hp.holds j _ hj;rw[hr]at hh;rcases hh with⟨hn,_⟩ | ⟨b',cap',cc,hb',hheap,hncap,hsz,hmax,hlen,hrep⟩
     ·cases hn
     ·cases hb';have hle:n*k<=cc.size:=by rw[hsz];exact Nat.mul_le_mul_right k hncap
      obtain⟨u,hu,hru⟩:=Am (P:=P) (t:=t) (b:=b) (off:=i*k+off) (w:=w) (rho:=rho) (Pi:=PiS C st rho) (live:=Lv (A1 st.regs)) (f:=fun l=>cc.getD (i*k+(off+l)) undef) (cs:=((f i).drop off).map .p)
       (fun l hl=>by
        simp only[List.length_map,List.length_drop,hlen i hlt]at hl;obtain⟨h1,h2⟩:=hrep i (off+l) hlt (by omega);refine⟨?_,h2⟩
        have:l<((f i).drop off).length:=by simp[hlen i hlt];omega
        simp only[List.getD_eq_getElem?_getD,List.getElem?_map,List.getElem?_eq_getElem this,Option.map_some,Option.getD_some];have h3:(f i).getD (off+l) default=((f i).drop off)[l]:=by rw[List.getElem_drop,List.getD_eq_getElem?_getD,List.getElem?_eq_getElem (by rw[hlen i hlt];omega),Option.getD_some]
        rw[h3]at h1;exact .p _ _ h1)
       (fun l hl=>by
        simp only[List.length_map,List.length_drop,hlen i hlt]at hl
        have:=H2 hlt (show off+l<k by omega)
        rw[Nat.add_assoc];exact cell_of_heap hheap (by omega)) (Vr hld hc'.1)
      exact⟨u,by simp[Instr.loadAt,Instr.sureAddr,hu],hru⟩
    ·cases he
   ·cases he
  ·rename_i e n' jr i0 x0 hj;split at he
   ·rename_i q hk;split at he
    ·rename_i hag;obtain⟨hag,rfl,rfl⟩:=hag;cases he;obtain⟨hin,rfl⟩:=hc;obtain⟨rv,_,_,hh⟩:=h.hp.holds j _ hj;rw[hr]at hh;rcases hh with⟨hn,_⟩ | ⟨b',cap',cc,hb',hheap,hncap,hsz,hmax,hrow,hx⟩
     ·cases hn
     ·cases hb';refine⟨cc.getD i undef,?_,hx⟩;have h0:w.cell? ⟨b,i,none⟩=some (cc.getD i undef):=cell_of_heap hheap (by omega)
      have:(loadVar t ⟨b,i,none⟩).run P w=.ok (cc.getD i undef) w:=by simp[loadVar,G9 w hk,hag,h0]
      rw[Nat.mul_one,Nat.add_zero];simp[Instr.loadAt,Instr.sureAddr,this]
    ·cases he
   ·cases he
  ·cases he
 |p _ x hx=>
  cases hx with
  |ptr b off cs f hcell hrep=>
   simp only[load]at he;obtain⟨u,hu,hru⟩:=Am (P:=P) (t:=t) (b:=b) (off:=off) (w:=w) (rho:=rho) (Pi:=PiS C st rho) (live:=Lv (A1 st.regs)) (f:=f) (cs:=cs.map .p)
    (fun l hl=>by
     simp only[List.length_map]at hl;refine⟨?_,(hcell l hl).2.2⟩
     have:=hrep l hl
     simp only[List.getD_eq_getElem?_getD,List.getElem?_map,List.getElem?_eq_getElem hl,Option.map_some,Option.getD_some]at this⊢;exact .p _ _ this)
    (fun l hl=>(hcell l (by simpa using hl)).1) (Vr he hc)
   exact⟨u,by simp[Instr.loadAt,Instr.sureAddr,hu],hru⟩
  |_=>simp[load]at he
 |_=>simp[load]at he
theorem Zo (h:Sat C st a w rho){t:TypeId}{x:Operand}(ho:o.op=.load t x)(he:aop P st.env st.regs d o.op=some out)(hc:D0 out.cond):OpOk P C o st a w rho out:=by
 rw[ho]at he;simp only[aop]at he;split at he
 ·rename_i c y hl;cases he;obtain⟨u,hu,hr⟩:=LU h (h.aev x) hl hc;exact OpOk.pure h (by simp[execOp,ho,hu]) hr
 ·cases he
end
end Go.AM
namespace Go.AM
theorem E6 {α : Type}(l new:List α)(off:Nat)(h:off+new.length<=l.length):(splice l off new).length=l.length:=by simp only[splice,List.length_append,List.length_take,List.length_drop];omega
theorem P3 {α : Type}(l new:List α)(off i:Nat)(d : α)(h:off+new.length<=l.length) :(splice l off new).getD i d=if off<=i/\i<off+new.length then new.getD (i-off) d else l.getD i d:=by
 simp only[splice,List.getD_eq_getElem?_getD,List.getElem?_append,List.getElem?_take,List.getElem?_drop,List.length_append,List.length_take];have hm:min off l.length=off:=by omega
 rw[hm];by_cases h1:i<off
 ·have h2:i<off+new.length:=by omega
  have h3:¬(off<=i):=by omega
  simp[h1,h2,h3]
 ·by_cases h2:i<off+new.length
  ·have h3:off<=i:=by omega
   simp[h1,h2,h3]
  ·have h3:off+new.length+(i-(off+new.length))=i:=by omega
   simp[h2,h3]
theorem B7 (c:Array Value)(i:Nat):c.getD i undef=c.toList.getD i undef:=by simp[Array.getD_eq_getD_getElem?,List.getD_eq_getElem?_getD]
theorem Vs {l i k a b:Nat}(h:l*k+a=i*k+b)(ha:a<k)(hb:b<k):l=i/\a=b:=by
 have h1:(l*k+a) / k=l:=by rw[Nat.mul_comm,Nat.mul_add_div (by omega),Nat.div_eq_of_lt ha];omega
 have h2:(i*k+b) / k=i:=by rw[Nat.mul_comm,Nat.mul_add_div (by omega),Nat.div_eq_of_lt hb];omega
 have:l=i:=by rw[<- h1,h,h2]
 subst this;exact⟨rfl,by omega⟩
section
variable {w:World}{Pi:Nat->Nat->Prop}{live:Nat->Prop}{rho:Nat->Value}
theorem RepL.splice {c:List Value}{cs:List AV}{vs:List Value}{new:List AV}{off:Nat}(hs:c.length=cs.length)(h:RepL w Pi live rho (fun i=>c.getD i undef) cs)
 (hn:vs.length=new.length) (h' : RepL w Pi live rho (fun i=>vs.getD i undef) new) (hf:off+new.length<=cs.length):RepL w Pi live rho (fun i=>(splice c off vs).getD i undef) (splice cs off new):=by
 intro i hi;rw[E6 _ _ _ hf]at hi;simp only[P3 c vs off i undef (by omega),P3 cs new off i .top hf,hn];split
 ·exact h' (i-off) (by omega)
 ·exact h i hi
end
section
variable {P:Program}{C:Ctx}{st:St}{a:Act}{w:World}{rho:Nat->Value}{o:Oper}{out:Out}{d:Nat}
theorem Cs {v:Value}{x:AV}{w:World}{Pi:Nat->Nat->Prop}{live:Nat->Prop}(hc:v.cells.size=(cellsOf x).length/\RepL w Pi live rho (fun i=>v.cells.getD i undef) (cellsOf x)) :∀u∈v.cells.toList,u.oneCell' = true:=by
 intro u hu;obtain⟨i,hi,rfl⟩:=List.getElem_of_mem hu;simp only[Array.length_toList]at hi
 have:=(hc.2 i (by omega)).2
 simpa[Array.getD_eq_getD_getElem?,hi]using this
theorem Ct {b off:Nat}{T t:TypeId}{cur:Array Value}{v:Value}{m:Nat}(hm:tsz P t=some m)(hs:v.cells.size=m)(hg:w.heap[b]? = some (.cells cur T (0,0)))(hf:off+m<=cur.size)
 (h1:∀u∈v.cells.toList,u.oneCell' = true):(storeVar t ⟨b,off,none⟩ v).run P w=.ok () (w.setRow b (splice cur.toList off v.cells.toList).toArray):=by
 have:=run_storeCells_at (P:=P) b off T v.cells.toList 0 cur w hg (by simp[hs];omega) h1
 simp only[Nat.add_zero]at this;simp[storeVar,Ib w hm,hs,this,splice]
theorem Jk (h:Sat C st a w rho){t:TypeId}{va vx:Value}{x y:AV}(hva:RS C st w rho va x)(hvx:RS C st w rho vx y){c:List Prop}{R' : C4}
 (he:store P st.regs t x y=some (c,R')) (hc:D0 c):∃w',(Instr.storeAt t va vx).run P w=.ok () w' /\ Sat C { st with regs:=R' } a w' rho/\Kp C st.regs R' w w' rho rho:=by
 unfold store at he;split at he
 ·rename_i m hm hsto;have hcells:=Fk hvx hsto;cases hva with
  |reg j off b hl hr=>
   simp only at he;split at he
   ·rename_i cs hj;split at he
    ·rename_i hsz;cases he;have hh:=h.hp.holds j _ hj;rw[hr]at hh;obtain⟨b',c,T,hb',hheap,hcsz,hrep⟩:=hh;cases hb';have hrun:=Ct (P:=P) (t:=t) (off:=off) (v:=vx) hm (hcells.1.trans hsz.1) hheap (by omega) (Cs hcells);obtain⟨h1,h2,h3⟩:=h.modify (ob:=.cells (splice cs off (cellsOf y))) hj (b:=b) (by simp[D8,O5,hr]) (fun _=>trivial) (fun b' hb'=>by simp[D8,O5,hr]at hb';exact hb'.symm)
      (w':=w.setRow b (splice c.toList off vx.cells.toList).toArray) (by simp) (fun b' hb'=>setRow_other w b b' _ hb') (fun hk=>by
       refine⟨b,_,T,hr,setRow_heap w b c _ T _ hheap,?_,?_⟩
       ·rw[List.size_toArray,E6 _ _ _ (by simp;omega),E6 _ _ _ (by omega)];simpa using hcsz
       ·have hlive:∀i,Lv (A1 st.regs) i->Lv (A1 (ins j (.cells (splice cs off (cellsOf y))) st.regs)) i/\rho i=rho i:=by
         intro i hi;refine⟨?_,rfl⟩;simp only[Lv,A4];split
         ·rfl
         ·exact hi
        have:=RepL.splice (c:=c.toList) (cs:=cs) (vs:=vx.cells.toList) (new:=cellsOf y) (off:=off) (by simpa using hcsz)
         (RepL.keeps hk hlive (by intro i hi;have:=hrep i hi;simpa only[B7]using this)) (by simpa using hcells.1)
         (RepL.keeps hk hlive (by intro i hi;have:=hcells.2 i hi;simpa only[B7]using this)) (by omega)
        intro i hi
        have:=this i hi
        simpa[Array.getD_eq_getD_getElem?,List.getD_eq_getElem?_getD]using this)
     exact⟨_,by simp[Instr.storeAt,Instr.sureAddr,hrun],h1,h2,h3⟩
    ·cases he
   ·rename_i n f hj;have hh:=h.hp.holds j _ hj;rw[hr]at hh;obtain⟨b',c,T,hb',hheap,hcsz,hrep⟩:=hh;cases hb';have fin:∀g:Nat->PV,vx.cells.size=m->off+m<=n->(∀i,i<n->¬(off<=i/\i<off+m)->g i=f i)->(∀i,i<m->∃y',(cellsOf y).getD i .top=.p y' /\ g (off+i)=y') ->
     ∃w',(Instr.storeAt t (.pointer (some ⟨b,off,none⟩)) vx).run P w=.ok () w' /\ Sat C { st with regs:=ins j (.arr n g) st.regs } a w' rho/\Kp C st.regs (ins j (.arr n g) st.regs) w w' rho rho:=by
     intro g hvs hle hg1 hg2;have hrun:=Ct (P:=P) (t:=t) (off:=off) (v:=vx) hm hvs hheap (by omega) (Cs hcells);obtain⟨h1,h2,h3⟩:=h.modify (ob:=.arr n g) hj (b:=b) (by simp[D8,O5,hr]) (fun _=>trivial) (fun b' hb'=>by simp[D8,O5,hr]at hb';exact hb'.symm)
      (w':=w.setRow b (splice c.toList off vx.cells.toList).toArray) (by simp) (fun b' hb'=>setRow_other w b b' _ hb') (fun hk=>by
       refine⟨b,_,T,hr,setRow_heap w b c _ T _ hheap,?_,fun i hi=>?_⟩
       ·rw[List.size_toArray,E6 _ _ _ (by simp;omega)];simpa using hcsz
       ·have e1:((splice c.toList off vx.cells.toList).toArray).getD i undef=(splice c.toList off vx.cells.toList).getD i undef:=by simp[Array.getD_eq_getD_getElem?,List.getD_eq_getElem?_getD]
        rw[e1,P3 _ _ _ _ _ (by simp;omega)];by_cases hpos:off<=i/\i<off+vx.cells.toList.length
        ·rw[if_pos hpos];have hi2:i-off<m:=by simp at hpos;omega
         obtain⟨y',hy1,hy2⟩:=hg2 (i-off) hi2;rw[show off+(i-off)=i by omega]at hy2;have hc2:=hcells.2 (i-off) (by omega);rw[hy1]at hc2;rw[hy2];simp only[B7]at hc2;exact⟨hc2.1.toP.keeps hk,hc2.2⟩
        ·rw[if_neg hpos,<- B7,hg1 i hi (by simp at hpos⊢;omega)];exact⟨(hrep i hi).1.keeps hk,(hrep i hi).2⟩)
     exact⟨_,by simp[Instr.storeAt,Instr.sureAddr,hrun],h1,h2,h3⟩
    split at he
    ·rename_i ps;split at he
     ·rename_i hmn;cases he;obtain⟨hoff,hpl⟩:off=0/\ps.length=n:=hc;subst hoff;refine fin _ ?_ (by omega) (fun i hi hn=>absurd ⟨Nat.zero_le _,by omega⟩ hn) (fun i hi=>?_)
      ·rw[hcells.1];simp[cellsOf];omega
      ·refine⟨ps.getD i default,?_,by rw[Nat.zero_add]⟩;simp[cellsOf,List.getD_eq_getElem?_getD,show i<ps.length by omega]
     ·cases he
    ·rename_i y' hna;split at he
     ·rename_i hm1;cases he;have hoff:off<n:=hc;have hco:cellsOf (.p y')=[.p (nP y')]:=by
       cases y' with
       |agg ps=>exact absurd rfl (hna ps)
       |_=>rfl
      refine fin _ ?_ (by omega) (fun i hi hn=>?_) (fun i hi=>?_)
      ·rw[hcells.1,hco];simp;omega
      ·show (if i=off then nP y' else f i)=f i;rw[if_neg (by omega)]
      ·obtain rfl:i=0:=by omega
       exact⟨nP y',by rw[hco];rfl,by simp⟩
     ·cases he
    ·cases he
   ·cases he
  |elt j k i off b n cap hl hr=>
   simp only at he;split at he
   ·rename_i e k' n' f p hj;split at he
    ·rename_i hkk;subst hkk;cases he;obtain⟨hpl,hin,hoff⟩:=hc;have hh:=h.hp.holds j _ hj;rw[hr]at hh;rcases hh with⟨hn,_⟩ | ⟨b',cap',c,hb',hheap,hncap,hcsz,hmax,hlen,hrep⟩
     ·cases hn
     ·cases hb';have hcp:(cellsOf (.p p)).length=(Z9 p).length:=by cases p<;>simp[cellsOf,Z9]
      have hcp' : cellsOf (.p p)=(Z9 p).map .p:=by cases p<;>simp[cellsOf,Z9]
      have hle:n*k<=c.size:=by rw[hcsz];exact Nat.mul_le_mul_right k hncap
      have hik:i*k+k<=n*k:=by rw[<- Nat.succ_mul];exact Nat.mul_le_mul_right k hin
      have hrun:=Ct (P:=P) (t:=t) (off:=i*k+off) (v:=vx) hm (hcells.1.trans (hcp.trans hpl)) hheap (by omega) (Cs hcells);have hvl:vx.cells.toList.length=m:=by simpa using hcells.1.trans (hcp.trans hpl)
      obtain⟨h1,h2,h3⟩:=h.modify (ob:=.vec e k n (fun l=>if l=i then splice (f l) off (Z9 p)else f l) false) hj (b:=b) (by simp[D8,O5,hr]) (fun _=>trivial) (fun b' hb'=>by simp[D8,O5,hr]at hb';exact hb'.symm)
       (w':=w.setRow b (splice c.toList (i*k+off) vx.cells.toList).toArray) (by simp) (fun b' hb'=>setRow_other w b b' _ hb') (fun hk=>by
        have hlive:∀l,Lv (A1 st.regs) l->Lv (A1 (ins j (.vec e k n (fun l=>if l=i then splice (f l) off (Z9 p)else f l) false) st.regs)) l/\rho l=rho l:=by
         intro l hl;refine⟨?_,rfl⟩;simp only[Lv,A4];split
         ·rfl
         ·exact hl
        refine .inr ⟨b,cap,_,hr,setRow_heap w b c _ e _ hheap,hncap,?_,hmax,fun l hl=>?_,fun l jj hl hjj=>?_⟩
        ·rw[List.size_toArray,E6 _ _ _ (by simp;omega)];simpa using hcsz
        ·by_cases hli:l=i
         ·subst hli;simp only[if_true];rw[E6 _ _ _ (by rw[hlen l hl];omega)];exact hlen l hl
         ·simp only[hli,if_false];exact hlen l hl
        ·have hold:=hrep l jj hl hjj;have e1:((splice c.toList (i*k+off) vx.cells.toList).toArray).getD (l*k+jj) undef=(splice c.toList (i*k+off) vx.cells.toList).getD (l*k+jj) undef:=by simp[Array.getD_eq_getD_getElem?,List.getD_eq_getElem?_getD]
         rw[e1,P3 _ _ _ _ _ (by simp at hvl⊢;omega)];by_cases hpos:i*k+off<=l*k+jj/\l*k+jj<i*k+off+vx.cells.toList.length
         ·rw[if_pos hpos];have hli:=Vs (l:=l) (i:=i) (k:=k) (a:=jj) (b:=l*k+jj-i*k) (by omega) hjj (by omega);obtain⟨rfl,hjj'⟩:=hli;simp only[if_true];rw[P3 _ _ _ _ _ (by rw[hlen l hl];omega),if_pos (by omega)];have hc2:=hcells.2 (jj-off) (by omega);rw[hcp']at hc2;simp only[List.getD_eq_getElem?_getD,List.getElem?_map,List.getElem?_eq_getElem (show jj-off<(Z9 p).length by omega),Option.map_some,Option.getD_some]at hc2⊢;rw[show l*k+jj-(l*k+off)=jj-off by omega];refine⟨?_,?_⟩
          ·have:=(RepA.toP hc2.1).keeps hk
           simpa[Array.getD_eq_getD_getElem?]using this
          ·simpa[Array.getD_eq_getD_getElem?]using hc2.2
         ·rw[if_neg hpos,<- B7];refine⟨?_,hold.2⟩;by_cases hli:l=i
          ·subst hli;simp only[if_true];rw[P3 _ _ _ _ _ (by rw[hlen l hl];omega),if_neg (by omega)];exact hold.1.keeps hk
          ·simp only[hli,if_false];exact hold.1.keeps hk)
      exact⟨_,by simp[Instr.storeAt,Instr.sureAddr,hrun],h1,h2,h3⟩
    ·cases he
   ·rename_i x1 e n' jr i0 x0 hj;split at he
    ·rename_i y' hy;split at he
     ·rename_i hm1;obtain⟨rfl,rfl,rfl⟩:=hm1;cases he;obtain⟨hin,rfl⟩:=hc;obtain⟨rv,g1,g2,hh⟩:=h.hp.holds j _ hj;rw[hr]at hh;have hone:=Cs hcells;rw[hy]at hcells;have hv1:vx.cells.size=1:=hcells.1;have hv0:=hcells.2 0 (by simp);rcases hh with⟨hn,_⟩ | ⟨b',cap',c,hb',hheap,hncap,hcsz,hmax,hrow,hx⟩
      ·cases hn
      ·cases hb';rw[Nat.mul_one,Nat.add_zero];have hrun:=Ct (P:=P) (t:=t) (off:=i) (v:=vx) hm hv1 hheap (by omega) hone;have hjr:j≠jr:=by rintro rfl;rw[hr]at g2;cases g2
       obtain⟨h1,h2,h3⟩:=h.modify (ob:=.fam e n jr (some (i,y'))) hj (b:=b) (by simp[D8,O5,hr]) (fun _=>trivial) (fun b' hb'=>by simp[D8,O5,hr]at hb';exact hb'.symm)
        (w':=w.setRow b (splice c.toList (i) vx.cells.toList).toArray) (by simp) (fun b' hb'=>setRow_other w b b' _ hb') (fun hk=>by
         have hlive:∀l,Lv (A1 st.regs) l->Lv (A1 (ins j (.fam e n jr (some (i,y'))) st.regs)) l/\rho l=rho l:=by
          intro l hl;refine⟨?_,rfl⟩;simp only[Lv,A4];split
          ·rfl
          ·exact hl
         have hget:∀l,l<n->((splice c.toList (i) vx.cells.toList).toArray).getD l undef=if l=i then vx.cells.getD 0 undef else c.getD l undef:=by
          intro l hl;have e1:((splice c.toList (i) vx.cells.toList).toArray).getD l undef=(splice c.toList (i) vx.cells.toList).getD l undef:=by simp[Array.getD_eq_getD_getElem?,List.getD_eq_getElem?_getD]
          rw[e1,P3 _ _ _ _ _ (by simp[hv1];omega)];by_cases hli:l=i
          ·subst hli;rw[if_pos (by simp[hv1]),if_pos rfl,B7];simp
          ·rw[if_neg (by simp[hv1];omega),if_neg hli,<- B7]
         refine⟨rv,(hlive jr g1).1,g2,.inr ⟨b,cap,_,hr,setRow_heap w b c _ e _ hheap,hncap,?_,hmax,fun l hl=>?_,?_⟩⟩
         ·rw[List.size_toArray,E6 _ _ _ (by simp[hv1];omega)];simpa using hcsz
         ·rw[hget l hl];by_cases hli:l=i
          ·subst hli;rw[if_pos rfl];exact⟨hv0.2,fun e=>absurd rfl e⟩
          ·rw[if_neg hli];exact⟨(hrow l hl).1,fun _=>(hrow l hl).2 (by simp;exact fun e=>hli e.symm)⟩
         ·show RepA _ _ _ rho _ y';rw[hget i hin,if_pos rfl]
          have:=hv0.1
          simp only[List.getD_cons_zero]at this;exact this.keeps hk hlive)
       exact⟨_,by simp[Instr.storeAt,Instr.sureAddr,hrun],h1,h2,h3⟩
     ·cases he
    ·cases he
   ·cases he
  |_=>simp at he
 ·cases he
theorem Xb (h:Sat C st a w rho){t:TypeId}{x y:Operand}(ho:o.op=.store t x y)(he:aop P st.env st.regs d o.op=some out)(hc:D0 out.cond):OpOk P C o st a w rho out:=by
 rw[ho]at he;simp only[aop]at he;split at he
 ·rename_i c R' hs;cases he;obtain⟨w',hrun,h1,h2⟩:=Jk h (h.aev x) (h.aev y) hs hc;exact⟨.skip,undef,w',rho,by simp[execOp,ho,hrun],.inr ⟨rfl,rfl⟩,h1,h2,.p _ _ (.v _)⟩
 ·cases he
end
end Go.AM
namespace Go.AM
section
variable {P:Program}{C:Ctx}{st:St}{a:Act}{w:World}{rho:Nat->Value}{o:Oper}{out:Out}{d:Nat}
theorem KY (l:List UInt8):(⟨l.toArray⟩:ByteArray).size=l.length:=by show l.toArray.size=_;simp
theorem Dj {Pi:Nat->Nat->Prop}{live:Nat->Prop}{v:Value}{x:AV}{n:Int}(h:RepA w Pi live rho v x)(he:asInt x=some n):∃k,v=.int k n:=by
 unfold asInt at he;split at he
 ·rename_i k m;cases he;exact⟨k,h.toP.toInt⟩
 ·cases he
theorem Ic {t:TypeId}{fs:List (Nat×TypeId)}{f off:Nat}{ft:TypeId}(hk:tk P t=some (.struct fs))(hf:fs[f]? = some (off,ft)) :∃fa:Array Field,∃fd:Field,P.underlying t=some (.struct fa)/\fa[f]? = some fd/\fd.offset=off/\fd.type=ft:=by obtain⟨fa,hu,rfl⟩:=Di hk;simp only[List.getElem?_map,Array.getElem?_toList,Option.map_eq_some_iff,Prod.mk.injEq]at hf;obtain⟨fd,h1,h2,h3⟩:=hf;exact⟨fa,fd,hu,h1,h2,h3⟩
theorem OH (h:Sat C st a w rho){t:TypeId}{x:Operand}{f:Nat}(ho:o.op=.fieldAddr t x f)(he:aop P st.env st.regs d o.op=some out):OpOk P C o st a w rho out:=by
 rw[ho]at he;simp only[aop]at he;split at he
 ·rename_i y hy;cases he;have hx:=h.aev x;unfold Yx at hy;split at hy
  ·rename_i fs hk;split at hy
   ·rename_i off ft hf;obtain⟨fa,fd,hu,hfd,rfl,rfl⟩:=Ic hk hf;split at hy
    ·cases hy
    ·rename_i m hne hm;have hm0:(m=0)=False:=by refine propext ⟨fun e=>?_,False.elim⟩;subst e;exact hne rfl
     have hplace:∀ad:Addr,(fieldPlace ad fd).run P w=.ok (ad.add fd.offset) w:=by intro ad;simp[fieldPlace,Ib w hm,hm0]
     have hrun:∀ad:Addr,a.eval x=.pointer (some ad)->(execOp a.eval o).run P w=.ok (.value (.pointer (some (ad.add fd.offset)))) w:=by intro ad hv;simp[execOp,ho,Instr.fieldAt,AA w hu,hfd,hv,Instr.sureAddr,hplace]
     split at hy
     ·rename_i j oo hxe;cases hy;rw[hxe]at hx;generalize hvx:a.eval x=v at hx;cases hx with
      |reg j off b hl hr=>refine OpOk.pure h (hrun _ hvx) ?_;rw[Addr.add_lit];exact .reg j _ b hl hr
     ·rename_i j k i oo hxe;cases hy;rw[hxe]at hx;generalize hvx:a.eval x=v at hx;cases hx with
      |elt j k i off b n cap hl hr=>refine OpOk.pure h (hrun _ hvx) ?_;rw[Addr.add_lit,Nat.add_assoc];exact .elt j k i _ b n cap hl hr
     ·rename_i cs hxe;cases hy;rw[hxe]at hx;have hx:=hx.toP;generalize hvx:a.eval x=v at hx;cases hx with
      |ptr b off cs c hc hrep=>
       refine OpOk.pure h (hrun _ hvx) ?_;rw[Addr.add_lit];refine .p _ _ (.ptr b _ _ (fun j=>c (fd.offset+j)) (fun j hj=>?_) fun j hj=>?_)
       ·simp only[List.length_drop]at hj
        have:=hc (fd.offset+j) (by omega)
        rwa [<- Nat.add_assoc]at this
       ·simp only[List.length_drop]at hj
        have:=hrep (fd.offset+j) (by omega)
        simpa[List.getD_eq_getElem?_getD,List.getElem?_drop]using this
     ·cases hy
    ·cases hy
   ·cases hy
  ·cases hy
 ·cases he
theorem LW {Pi:Nat->Nat->Prop}{live:Nat->Prop}{t:TypeId}{vs:Array Value}{cs:List PV}{off:Nat}{x:AV}{c:List Prop}(hs:vs.size=cs.length)(h1:∀i,i<cs.length->(vs.getD i undef).oneCell' = true)
 (h:∀i,i<cs.length->RepP w Pi (vs.getD i undef) (cs.getD i default)) (he:ldP P t (cs.drop off)=some (c,x)) (hc:D0 c):∃v,(part t vs off).run P w=.ok v w/\RepA w Pi live rho v x:=by
 unfold ldP at he;split at he
 ·rename_i k n hk hn;split at he
  ·rename_i hag;cases he;simp only[D0,List.length_drop]at hc;by_cases hn0:n=0
   ·subst hn0;refine⟨.agg (vs.extract off off),by simp[part,G9 w hk,hag,Ib w hn],.p _ _ (.agg _ _ (by simp;omega) (fun i hi=>by simp at hi) fun i hi=>by simp at hi)⟩
   refine⟨.agg (vs.extract off (off+n)),by simp[part,G9 w hk,hag,Ib w hn],.p _ _ (.agg _ _ (by simp;omega) (fun i hi=>?_) fun i hi=>?_)⟩
   ·simp only[List.length_take,List.length_drop]at hi
    have:=h1 (off+i) (by omega)
    simpa[Array.getD_eq_getD_getElem?,Array.getElem?_extract,show i<min (off+n) vs.size-off by omega,show off+i<vs.size by omega]using this
   ·simp only[List.length_take,List.length_drop]at hi
    have:=h (off+i) (by omega)
    simpa[Array.getD_eq_getD_getElem?,Array.getElem?_extract,show i<min (off+n) vs.size-off by omega,show off+i<vs.size by omega,show off+i<cs.length by omega,List.getD_eq_getElem?_getD,List.getElem?_take,show i<n by omega,List.getElem?_drop]using this
  ·rename_i hag;split at he
   ·rename_i y r hd;cases he;have hlt:off<cs.length:=by
     have:=congrArg List.length hd
     simp only[List.length_drop,List.length_cons]at this;omega
    have hy:cs.getD off default=y:=by
     have:=congrArg (fun l=>l.head?) hd
     simp only[List.head?_drop,List.head?_cons]at this;simp[List.getD_eq_getElem?_getD,this]
    have:=h off hlt
    rw[hy]at this;refine⟨vs.getD off undef,?_,.p _ _ this⟩;simp[part,G9 w hk,hag,Array.getD_eq_getD_getElem?,show off<vs.size by omega]
   ·cases he
 ·cases he
theorem Xc (h:Sat C st a w rho){t:TypeId}{x:Operand}{f:Nat}(ho:o.op=.field t x f)(he:aop P st.env st.regs d o.op=some out)(hc:D0 out.cond):OpOk P C o st a w rho out:=by
 rw[ho]at he;simp only[aop]at he;split at he
 ·rename_i c y hy;cases he;have hx:=h.aev x;unfold Yy at hy;split at hy
  ·rename_i fs cs hk hxe;rw[hxe]at hx;have hx:=hx.toP;generalize hvx:a.eval x=v at hx;cases hx with
   |agg vs cs hs h1 hrep=>
    split at hy
    ·rename_i off ft hf;obtain⟨fa,fd,hu,hfd,rfl,rfl⟩:=Ic hk hf;obtain⟨u,hu',hr⟩:=LW (rho:=rho) (live:=Lv (A1 st.regs)) hs h1 hrep hy hc;exact OpOk.pure h (by simp[execOp,ho,Instr.field,AA w hu,hfd,hvx,asAgg,hu']) hr
    ·cases hy
  ·cases hy
 ·cases he
theorem Qx (h:Sat C st a w rho){x:Operand}(ho:o.op=.nilCheck x)(he:aop P st.env st.regs d o.op=some out):OpOk P C o st a w rho out:=by
 rw[ho]at he;simp only[aop]at he;split at he
 ·rename_i hn;cases he;have hx:=h.aev x;refine OpOk.pure (v:=a.eval x) h ?_ hx;simp only[execOp,ho];generalize hvx:a.eval x=v at hx⊢;generalize hxe:aev st.env x=y at hn hx;cases hx with
  |p _ z hz=>
   cases hz with
   |v z=>simp only[WR]at hn;split at hn<;>simp_all
   |_=>first|rfl|simp[WR]at hn
  |_=>first|rfl|simp[WR]at hn
 ·cases he
theorem Tq (h:Sat C st a w rho){x:Operand}{i:Nat}(ho:o.op=.extract x i)(he:aop P st.env st.regs d o.op=some out):OpOk P C o st a w rho out:=by
 rw[ho]at he;simp only[aop]at he;split at he
 ·rename_i l hxe;split at he
  ·rename_i y hy;cases he;have hx:=h.aev x;rw[hxe]at hx;generalize hvx:a.eval x=v at hx;cases hx with
   |tup vs l hs hl=>
    obtain⟨hi,rfl⟩:=List.getElem?_eq_some_iff.1 hy
    have:=hl i hi
    refine OpOk.pure (v:=vs.getD i undef) h ?_ (by simpa[List.getD_eq_getElem?_getD,hi]using this);simp[execOp,ho,Instr.extract,hvx,Array.getD_eq_getD_getElem?,show i<vs.size by omega]
  ·cases he
 ·cases he
theorem IE (h:Sat C st a w rho){t:TypeId}{x:Operand}(ho:o.op=.makeInterface t x)(he:aop P st.env st.regs d o.op=some out):OpOk P C o st a w rho out:=by
 rw[ho]at he;simp only[aop]at he;split at he
 ·rename_i y R' k hv hk;obtain⟨h1,h2,h3⟩:=Dh h (h.aev x) hv;obtain⟨dd,hu,hkd⟩:=Al hk;split at he
  ·cases he
  ·rename_i hni;cases he;refine⟨_,.iface t (a.eval x),w,rho,?_,.inl rfl,h1,h3,.p _ _ (.iface t _ _ h2)⟩
   have:∀ms,dd ≠ .interface ms:=by rintro ms rfl;exact hni ms.size (by simpa[Qp]using hkd.symm)
   cases dd<;>first|(simp[execOp,ho,Instr.makeInterface,AA w hu];done)|exact absurd rfl (this _)
 ·cases he
theorem Qy (h:Sat C st a w rho){f:FuncId}{x y:Array Operand}(ho:o.op=.makeFunc (.func f) x y)(he:aop P st.env st.regs d o.op=some out):OpOk P C o st a w rho out:=by
 rw[ho]at he;simp only[aop,Option.some.injEq]at he;subst he;refine OpOk.pure (v:=.func (.func f) (x.map a.eval) (y.map a.eval)) h (by simp[execOp,ho,Instr.makeFunc]) ?_;refine .clo f _ _ _ _ (by simp) (by simp) (fun i hi=>?_) fun i hi=>?_
 ·simp only[List.length_map,Array.length_toList]at hi
  have:=h.aev x[i]
  simpa[Array.getD_eq_getD_getElem?,List.getD_eq_getElem?_getD,hi]using this
 ·simp only[List.length_map,Array.length_toList]at hi
  have:=h.aev y[i]
  simpa[Array.getD_eq_getD_getElem?,List.getD_eq_getElem?_getD,hi]using this
theorem Tr (h:Sat C st a w rho){t:TypeId}(ho:o.op=.makeMap t none)(he:aop P st.env st.regs d o.op=some out):OpOk P C o st a w rho out:=by
 rw[ho]at he;simp only[aop]at he;split at he
 ·rename_i hn;cases he;obtain⟨h1,h2,h3⟩:=h.fresh (Bz d 0) hn (.map []) (.map (some w.heap.size)) (w':=w.alloc (.map #[] 0)) (by simp)
   (fun b hb=>heap_alloc_old w _ b hb) (fun b hb=>by simp[D8,O5]at hb;omega) (fun hk=>⟨w.heap.size,#[],0,rfl,heap_alloc_new w _,rfl,fun i hi=>by simp at hi⟩)
  refine⟨_,_,_,_,?_,.inl rfl,h1,⟨h2,h3⟩,.mref _ w.heap.size (by simp[Lv,A4]) (by simp)⟩;simp[execOp,ho,Instr.makeMap]
 ·cases he
theorem Zp (h:Sat C st a w rho){op:UnOp}{t:TypeId}{x:Operand}(ho:o.op=.unOp op t x)(he:aop P st.env st.regs d o.op=some out):OpOk P C o st a w rho out:=by
 rw[ho]at he;simp only[aop]at he;split at he
 ·rename_i r hr;cases he;have hx:=h.aev x;unfold un at hr;split at hr
  ·rename_i b hxe;cases hr;rw[hxe]at hx;exact OpOk.pure (v:=.bool !b) h (by simp[execOp,ho,Op.unary,hx.toP.toV]) (.p _ _ (.v _))
  ·rename_i b hxe;cases hr;rw[hxe]at hx;exact OpOk.pure (v:=.bool !b) h (by simp[execOp,ho,Op.unary,hx.toP.toBool]) (.p _ _ (.bb _))
  ·rename_i k n hxe;cases hr;rw[hxe]at hx;exact OpOk.pure (v:=.int k (k.wrap (0-n))) h (by simp[execOp,ho,Op.unary,hx.toP.toInt,Op.intArith]) (.p _ _ (.v _))
  ·cases hr
 ·cases he
theorem Ae2 (h:Sat C st a w rho){c:Call}(hc:c.callee=.builtin .len)(ho:o.op=.call c)(he:aop P st.env st.regs d o.op=some out):OpOk P C o st a w rho out:=by
 obtain⟨callee,args,types⟩:=c;simp only at hc;subst hc;rw[ho]at he;simp only[aop]at he;split at he
 ·rename_i x t hargs htypes;split at he
  ·rename_i n hn;cases he;obtain⟨args⟩:=args;obtain⟨types⟩:=types;simp only at hargs htypes;subst hargs;subst htypes;have hx:=h.aev x;refine OpOk.pure (v:=.int .i64 n) h ?_ (.p _ _ (.v _));have key:(Builtin.len_ #[t] o.type #[a.eval x]).run P w=.ok (.int .i64 n) w:=by
    unfold UQ at hn;split at hn
    ·rename_i l hk hxe;cases hn;rw[hxe]at hx;simp[Builtin.len_,AA w (FA hk),hx.toP.toStr,goInt,KY]
    ·rename_i e nn k m f hk hxe;cases hn;rw[hxe]at hx;have hx:=hx.toP;generalize hvx:a.eval x=v at hx;cases hx<;>simp[Builtin.len_,AA w (K0 hk),goInt]
    ·rename_i hk hxe;cases hn;rw[hxe]at hx;rw[hx.toP.toV];simp[Builtin.len_,AA w (K0 hk),goInt]
    ·rename_i hk hxe;cases hn;rw[hxe]at hx;rw[hx.toP.toV];simp[Builtin.len_,AA w (LS hk),goInt]
    ·rename_i j hk hxe;rw[hxe]at hx;split at hn
     ·rename_i e k m f vw hj;cases hn;generalize hvx:a.eval x=v at hx;cases hx with
      |vec j base n' cap hl hr=>obtain⟨b',c',hr'⟩:=GA (h.hp.holds j _ hj);rw[hr]at hr';cases hr';simp[Builtin.len_,AA w (K0 hk),goInt]
     ·rename_i e m jr x0 hj;cases hn;generalize hvx:a.eval x=v at hx;cases hx with
      |vec j base n' cap hl hr=>
       obtain⟨rv,_,_,hh⟩:=h.hp.holds j _ hj;rw[hr]at hh;rcases hh with⟨hs,rfl⟩ | ⟨b,cap',c,hb',_⟩
       ·cases hs;simp[Builtin.len_,AA w (K0 hk),goInt]
       ·cases hb';simp[Builtin.len_,AA w (K0 hk),goInt]
     ·cases hn
    ·rename_i j m hk hxe;cases hn;rw[hxe]at hx;generalize hvx:a.eval x=v at hx;cases hx;simp[Builtin.len_,AA w (K0 hk),goInt]
    ·rename_i j hk hxe;rw[hxe]at hx;split at hn
     ·rename_i es hj;cases hn;generalize hvx:a.eval x=v at hx;cases hx with
      |mref j r hl hr=>
       have hh:=h.hp.holds j _ hj;rw[hr]at hh;obtain⟨b,ents,clock,hb,hheap,hsz,_⟩:=hh;cases hb;have hg:(getObj r).run P w=.ok (.map ents clock) w:=by simp[getObj,Sem.run,hheap]
       simp[Builtin.len_,AA w (LS hk),goInt,hg,hsz]
     ·cases hn
    ·rename_i n' e hk;cases hn;simp[Builtin.len_,AA w (Ji hk),goInt]
    ·cases hn
   simp[execOp,ho,resolve,invoke,builtin,key]
  ·cases he
 ·cases he
theorem OI (h:Sat C st a w rho){c:Call}(hc:c.callee=.builtin .min \/ c.callee=.builtin .max)(ho:o.op=.call c)(he:aop P st.env st.regs d o.op=some out):OpOk P C o st a w rho out:=by
 obtain⟨callee,args,types⟩:=c;simp only at hc;rw[ho]at he;rcases hc with hc|hc<;>subst hc<;>simp only[aop]at he<;>split at he<;>try cases he
 all_goals
  rename_i k x l y hargs;obtain⟨args⟩:=args;rcases args with _|⟨p,_|⟨q,_|⟨r,s⟩⟩⟩<;>simp only[List.map_cons,List.map_nil,List.cons.injEq,and_true,and_false,reduceCtorEq]at hargs
  ·have hp:=h.aev p;have hq:=h.aev q;rw[hargs.1]at hp;rw[hargs.2]at hq;refine OpOk.pure h ?_ (.p _ _ (.v _));simp[execOp,ho,resolve,invoke,builtin,Builtin.min_,Builtin.max_,Builtin.min2,Builtin.max2,hp.toP.toInt,hq.toP.toInt]
end
end Go.AM
namespace Go.AM
theorem bget (l:List UInt8)(n:Nat):(⟨l.toArray⟩:ByteArray)[n]? = l[n]?:=by
 by_cases h:n<l.length
 ·rw[getElem?_pos _ _ (by rw[KY];exact h),List.getElem?_eq_getElem h];rfl
 ·rw[getElem?_neg _ _ (by rw[KY];exact h),List.getElem?_eq_none (by omega)]
theorem Xd (l:List UInt8)(i j:Nat):(⟨l.toArray⟩:ByteArray).extract i j=⟨((l.take j).drop i).toArray⟩:=by apply ByteArray.ext;simp[ByteArray.data_extract,List.drop_take]
theorem Zq (x y:List UInt8):(⟨x.toArray⟩:ByteArray)++⟨y.toArray⟩=⟨(x++y).toArray⟩:=by apply ByteArray.ext;simp
def X3 (c:Nat->Nat->Value)(n k:Nat):List Value:=(List.range (n*k)).map fun p=>c (p / k) (p % k)
theorem F3 (c:Nat->Nat->Value)(n k:Nat):(X3 c n k).length=n*k:=by simp[X3]
theorem Vt (c:Nat->Nat->Value){n k i j:Nat}(hi:i<n)(hj:j<k):(X3 c n k).getD (i*k+j) undef=c i j:=by
 have h:=H2 hi hj;have h1:(i*k+j) / k=i:=by rw[Nat.mul_comm,Nat.mul_add_div (by omega),Nat.div_eq_of_lt hj];omega
 have h2:(i*k+j) % k=j:=by rw[Nat.mul_comm,Nat.mul_add_mod,Nat.mod_eq_of_lt hj]
 simp[X3,List.getD_eq_getElem?_getD,h,h1,h2]
theorem Jl {c:Nat->Nat->Value}{n k p:Nat}{u:Value}(h:(X3 c n k)[p]? = some u):p / k<n/\p % k<k/\p=p / k*k+p % k/\u=c (p / k) (p % k):=by
 obtain⟨hp,rfl⟩:=List.getElem?_eq_some_iff.1 h;rw[F3]at hp;have hk:0<k:=by
  rcases Nat.eq_zero_or_pos k with rfl|h
  ·simp at hp
  ·exact h
 refine⟨Nat.div_lt_of_lt_mul (by rwa [Nat.mul_comm]at hp),Nat.mod_lt _ hk,(Nat.div_add_mod' p k).symm,by simp[X3]⟩
section
variable {P:Program}{C:Ctx}{st:St}{a:Act}{w:World}{rho:Nat->Value}{o:Oper}{out:Out}{d:Nat}
theorem Jm (h:Sat C st a w rho){v:Value}{x:AV}(hv:RS C st w rho v x){k n:Nat}{g:Nat->List PV}(he:elems st.regs k x=some (n,g)){tx:TypeId}{k2:TK}(ht:tk P tx=some k2)
 (hk2:srcK k2=true) :
 ∃c:Nat->Nat->Value,Src P k tx v n (X3 c n k) w/\(∀i,i<n->(g i).length=k)/\∀i j,i<n->j<k->RepP w (PiS C st rho) (c i j) ((g i).getD j default)/\(c i j).oneCell' = true:=by
 have hkind:(∃e',P.underlying tx=some (.slice e')) \/ P.underlying tx=some .string:=by
  cases k2<;>simp[srcK]at hk2
  ·exact .inr (FA ht)
  ·exact .inl ⟨_,K0 ht⟩
 have sliceSrc:∀(ad:Addr) (cap:Nat) (c:Nat->Nat->Value),(∀i j,i<n->j<k->w.cell? (ad.add (i*k+j))=some (c i j)/\(c i j).oneCell' = true)->Src P k tx (.slice (some ad) n cap) n (X3 c n k) w:=by
  intro ad cap c hc;have hnews:∀p u,(X3 c n k)[p]? = some u->w.cell? (ad.add p)=some u:=by
   intro p u hp;obtain⟨h1,h2,h3,rfl⟩:=Jl hp;rw[h3]
   have:=(hc (p / k) (p % k) h1 h2).1
   rwa [<- h3]at this⊢
  refine⟨hkind,fun _=>rfl,run_firstCells_some w k n ad n cap _ (F3 _ _ _) hnews,run_firstCells_some w.drew k n ad n cap _ (F3 _ _ _) (by simpa using hnews),F3 _ _ _,?_⟩;intro u hu;obtain⟨p,hp⟩:=List.getElem?_of_mem hu;obtain⟨h1,h2,h3,rfl⟩:=Jl hp;exact (hc _ _ h1 h2).2
 have nilSrc:∀cap,n=0->∀c,Src P k tx (.slice none 0 cap) n (X3 c n k) w:=by
  intro cap hn c;subst hn;refine⟨hkind,fun _=>rfl,?_,?_,by simp[X3],by simp[X3]⟩
  ·simpa[X3]using run_firstCells_none (P:=P) w k 0 0 cap
  ·simpa[X3]using run_firstCells_none (P:=P) w.drew k 0 0 cap
 cases hv with
 |p _ y hy=>
  cases hy with
  |v y=>
   simp only[elems]at he;split at he<;>try cases he
   ·rename_i heq;cases heq;exact⟨fun _ _=>undef,nilSrc 0 rfl _,fun i hi=>absurd hi (by omega),fun i j hi=>absurd hi (by omega)⟩
   all_goals (rename_i heq;cases heq)
  |str l=>
   simp only[elems]at he;split at he
   ·rename_i hk1;cases he;subst hk1;have hsrc:P.underlying tx=some .string->Src P 1 tx (.string ⟨l.toArray⟩) l.length (X3 (fun i _=>.int .u8 ((l.getD i 0).toNat:Nat)) l.length 1) w:=by
     intro hs
     have:=Src.ofString (P:=P) w hs ⟨l.toArray⟩
     rw[KY]at this;have e:byteCells ⟨l.toArray⟩=X3 (fun i _=>.int .u8 ((l.getD i 0).toNat:Nat)) l.length 1:=by
      apply List.ext_getElem?;intro i;simp only[byteCells,X3,List.getElem?_map,Nat.mul_one];by_cases hi:i<l.length
      ·simp[hi]
      ·simp[hi]
     rwa [e]at this
    refine⟨fun i _=>.int .u8 ((l.getD i 0).toNat:Nat),?_,fun i hi=>rfl,fun i j hi hj=>?_⟩
    ·rcases hkind with⟨e',hs⟩ | hs
     ·refine⟨.inl ⟨e',hs⟩,fun w'=>?_,?_,?_,F3 _ _ _,?_⟩
      ·have hx:=FA (P:=P) (t:=tx);simp[Builtin.lenOf,KY]
      ·have:=firstCells_string (P:=P) ⟨l.toArray⟩ w
       rw[KY]at this;rw[this];congr 2;apply List.ext_getElem?;intro i;simp only[byteCells,X3,List.getElem?_map,Nat.mul_one,List.getElem?_range];by_cases hi:i<l.length
       ·simp[hi]
       ·simp[hi]
      ·have:=firstCells_string (P:=P) ⟨l.toArray⟩ w.drew
       rw[KY]at this;rw[this];congr 2;apply List.ext_getElem?;intro i;simp only[byteCells,X3,List.getElem?_map,Nat.mul_one,List.getElem?_range];by_cases hi:i<l.length
       ·simp[hi]
       ·simp[hi]
      ·intro u hu;obtain⟨p,hp⟩:=List.getElem?_of_mem hu;obtain⟨_,_,_,rfl⟩:=Jl hp;rfl
     ·exact hsrc hs
    ·obtain rfl:j=0:=by omega
     exact⟨.v _,rfl⟩
   ·cases he
  |slnil k' f=>
   simp only[elems]at he;split at he
   ·rename_i hkk;cases he;exact⟨fun _ _=>undef,nilSrc 0 rfl _,fun i hi=>absurd hi (by omega),fun i j hi=>absurd hi (by omega)⟩
   ·cases he
  |sl nn b off cap k' n' f c hn hlen hc hrep sp hsp=>
   simp only[elems]at he;split at he
   ·rename_i hkk;cases he;subst hkk;refine⟨c,sliceSrc _ _ _ (fun i j hi hj=>?_),hlen,fun i j hi hj=>⟨hrep i j hi hj,(hc i j hi hj).2.2⟩⟩;obtain rfl:=hsp (by omega);rw[Addr.add_lit,<- Nat.add_assoc];exact⟨(hc i j hi hj).1,(hc i j hi hj).2.2⟩
   ·cases he
  |_=>simp[elems]at he
 |vec j base n' cap hl hr=>
  simp only[elems]at he;split at he
  ·rename_i e m n'' f vw hj;split at he
   ·rename_i hm;cases he;subst hm;have hh:=h.hp.holds j _ hj;rw[hr]at hh;rcases hh with⟨hn,rfl⟩ | ⟨b,cap',cc,hb',hheap,hncap,hsz,hmax,hlen,hrep⟩
    ·cases hn;exact⟨fun _ _=>undef,nilSrc 0 rfl _,fun i hi=>absurd hi (by omega),fun i j hi=>absurd hi (by omega)⟩
    ·cases hb';have hle:n*m<=cc.size:=by rw[hsz];exact Nat.mul_le_mul_right m hncap
     refine⟨fun i j=>cc.getD (i*m+j) undef,sliceSrc _ _ _ (fun i j hi hj=>?_),hlen,hrep⟩;rw[Addr.add_lit,Nat.zero_add]
     have:=H2 hi hj
     exact⟨cell_of_heap hheap (by omega),(hrep i j hi hj).2⟩
   ·cases he
  ·cases he
 |vecp j mm base n' cap hl hr hmn=>
  simp only[elems]at he;split at he
  ·rename_i e m n'' f vw hj;split at he
   ·rename_i hm;cases he;subst hm;have hh:=h.hp.holds j _ hj;rw[hr]at hh;rcases hh with⟨hn,rfl⟩ | ⟨b,cap',cc,hb',hheap,hncap,hsz,hmax,hlen,hrep⟩
    ·cases hn;obtain rfl:mm=0:=by omega
     exact⟨fun _ _=>undef,nilSrc 0 (by simp) _,fun i hi=>absurd hi (by omega),fun i j hi=>absurd hi (by omega)⟩
    ·cases hb';rw[Nat.min_eq_left hmn]at *;have hle:n' * m<=cc.size:=by rw[hsz];exact Nat.mul_le_mul_right m hncap
     refine⟨fun i j=>cc.getD (i*m+j) undef,sliceSrc _ _ _ (fun i j hi hj=>?_),fun i hi=>hlen i (by omega),fun i j hi hj=>hrep i j (by omega) hj⟩;rw[Addr.add_lit,Nat.zero_add]
     have:=H2 (show i<n' by omega) hj
     exact⟨cell_of_heap hheap (by omega),(hrep i j (by omega) hj).2⟩
   ·cases he
  ·cases he
 |_=>simp[elems]at he
end
end Go.AM
namespace Go.AM
section
variable {P:Program}{C:Ctx}{st:St}{a:Act}{w:World}{rho:Nat->Value}{o:Oper}{out:Out}{d:Nat}
theorem Sat.moved (h:Sat C st a w rho){j jn:Nat}{oj:Obj}(hj:A1 st.regs j=some oj)(hjn:1000<=jn)(hn:A1 st.regs jn=none)(ob:Obj)(hv:Value){w' : World}(hsz:w.heap.size<=w'.heap.size)
 (hheap:∀b,b<w.heap.size->¬D8 (rho j) oj b->w'.heap[b]? = w.heap[b]?)
 (hb:∀b,D8 hv ob b->D8 (rho j) oj b \/ w.heap.size<=b)
 (hkeep:∀b off v,D8 (rho j) oj b->¬Prv C.X (A1 st.regs) rho b off->w.cell? ⟨b,off,none⟩=some v->w'.cell? ⟨b,off,none⟩=some v/\(D8 hv ob b->¬Gw ob off))
 (hh:Keeps w (PiS C st rho) w' (Prv C.X (A1 (ins jn ob (ins j .dead st.regs))) (fun i=>if i=jn then hv else rho i)) ->
  HoldsO w' (Prv C.X (A1 (ins jn ob (ins j .dead st.regs))) (fun i=>if i=jn then hv else rho i)) (Lv (A1 (ins jn ob (ins j .dead st.regs)))) (fun i=>if i=jn then hv else rho i) hv ob) (hy:∀r b,ob ≠ .yld r b:=by intro _ _ h;cases h) (hext:Ext w w':=by exact⟨rfl,rfl⟩) :
 Sat C { st with regs:=ins jn ob (ins j .dead st.regs) } a w' (fun i=>if i=jn then hv else rho i)/\Kp C st.regs (ins jn ob (ins j .dead st.regs)) w w' rho (fun i=>if i=jn then hv else rho i):=by
 have hne:jn≠j:=by rintro rfl;rw[hn]at hj;cases hj
 have hlive:∀i,Lv (A1 st.regs) i->Lv (A1 (ins jn ob (ins j .dead st.regs))) i/\(if i=jn then hv else rho i)=rho i:=by
  intro i hi;have e:i≠jn:=by rintro rfl;simp[Lv,hn]at hi
  refine⟨?_,by simp[e]⟩;simp only[Lv,A4,if_neg (Ne.symm e)];split
  ·rfl
  ·exact hi
 have hR:∀i oi b,A1 (ins jn ob (ins j .dead st.regs)) i=some oi->(i=j \/ i=jn)->D8 (if i=jn then hv else rho i) oi b->i=jn/\oi=ob:=by
  intro i oi b hi hij hbo;rcases hij with rfl|rfl
  ·rw[A4,if_neg hne,A4,if_pos rfl]at hi;cases hi;simp[D8,O5]at hbo
  ·rw[A4,if_pos rfl]at hi;cases hi;exact⟨rfl,rfl⟩
 obtain⟨h1,h2⟩:=h.step (R':=ins jn ob (ins j .dead st.regs)) (rho':=fun i=>if i=jn then hv else rho i) (w':=w') (fun i=>i=j \/ i=jn)
  (fun i hi=>by have h1:¬j=i:=fun e=>hi (.inl e.symm);have h2:¬jn=i:=fun e=>hi (.inr e.symm);rw[A4,if_neg h2,A4,if_neg h1])
  hlive hsz
  (fun i hi hi'=>by
   by_cases e:i=jn
   ·omega
   ·simp only[Lv,A4,if_neg (Ne.symm e)]at hi';split at hi'
    ·rename_i e';subst e';simp[Lv,hj]at hi
    ·exact absurd hi' hi)
  (fun i r b hi he=>by
   rcases hi with rfl|rfl
   ·rw[A4,if_neg hne,A4,if_pos rfl]at he;cases he
   ·rw[A4,if_pos rfl]at he;cases he;exact hy r b rfl)
  (fun b hb' hno=>hheap b hb' (hno j oj (.inl rfl) hj))
  (fun i oi b hij hi hbo=>by
   obtain⟨rfl,rfl⟩:=hR i oi b hi hij hbo;simp only[if_true]at hbo;rcases hb b hbo with h1|h1
   ·exact .inl ⟨j,oj,.inl rfl,hj,h1⟩
   ·exact .inr h1)
  (fun i i' oi oi' b hi hi' hr hr' hb1 hb2=>(hR i oi b hr hi hb1).1.trans (hR i' oi' b hr' hi' hb2).1.symm)
  (fun i oi b off v hij hr hbo hnp hc=>by
   rcases hij with rfl|rfl
   ·rw[hj]at hr;cases hr;obtain⟨h1,h2⟩:=hkeep b off v hbo hnp hc;refine⟨h1,fun i' oi' hi' hr' hb'=>?_⟩;obtain⟨rfl,rfl⟩:=hR i' oi' b hr' hi' hb';simp only[if_true]at hb';exact h2 hb'
   ·rw[hn]at hr;cases hr)
  (fun hk i oi hij hi=>by
   rcases hij with rfl|rfl
   ·rw[A4,if_neg hne,A4,if_pos rfl]at hi;cases hi;trivial
   ·rw[A4,if_pos rfl]at hi;cases hi;simp only[if_true];exact hh hk) hext
 exact⟨h1,h2,hlive⟩
theorem X4 {t tx ty e:TypeId}{i:TypeInfo}{z:Value}(ht:P.underlying t=some (.slice e))(hi:P.info? e=some i)(hz:i.zero=some z)(hzs:z.cells.size=i.size)(hby:0<i.bytes)
 {x:Value}{n:Nat}{news:List Value}(hs:Src P i.size tx x n news w) {s:Value}{m:Nat}{olds:List Value}{b cap:Nat}{c:Array Value}
 (hv:(s=.slice none 0 0/\m=0/\olds=[]) \/ (s=.slice (some ⟨b,0,none⟩) m cap/\w.heap[b]? = some (.cells c e (0,0))/\m<=cap/\c.size=cap*i.size/\cap<=maxLen/\olds=c.toList.take (m*i.size)))
 (hmax:m+n<=140737488355328) (hbytes:(m+n)*i.bytes<=140737488355328) :
 ∃v' w',(Builtin.append_ #[t,tx] ty #[s,x]).run P w=.ok v' w' /\
  ((s=.slice none 0 0/\v' = .slice none 0 0/\m+n=0/\w' = w) \/
   (∃cap',s=.slice (some ⟨b,0,none⟩) m cap' /\ v' = .slice (some ⟨b,0,none⟩) (m+n) cap/\m+n<=cap/\w' = w.setRow b (splice c.toList (m*i.size) news).toArray) \/
   (∃cap' arr,v' = .slice (some ⟨w.heap.size,0,none⟩) (m+n) cap' /\ w' = w.drew.alloc (.cells arr e)/\m+n<=cap' /\ cap' <= maxLen/\arr.size=cap' * i.size/\∃r,arr.toList=olds++news++r)):=by
 have h63:((m+n:Nat):Int)<=9223372036854775807:=by omega
 have hmx:m+n<=maxLen:=by simp only[maxLen];omega
 have grow:∀(base:Option Addr) (old:Nat),s=.slice base m old->old<m+n->olds.length=m*i.size->(Builtin.firstCells i.size m (.slice base m old)).run P w.drew=.ok olds.toArray w.drew ->
  ∃v' w',(Builtin.append_ #[t,tx] ty #[s,x]).run P w=.ok v' w' /\ (∃cap' arr,v' = .slice (some ⟨w.heap.size,0,none⟩) (m+n) cap' /\ w' = w.drew.alloc (.cells arr e)/\m+n<=cap' /\ cap' <= maxLen/\arr.size=cap' * i.size/\∃r,arr.toList=olds++news++r):=by
  intro base old hse hlt hol hfc;subst hse;have hr:=run_append_grow_src (P:=P) w t tx ty e i z ht hi hz base m old olds hfc x n news hs hlt h63 (growslice_fits hlt hbytes);refine⟨_,_,hr,_,_,rfl,rfl,grownCap_ge w _ _ e,grownCap_le_maxLen w _ _ e hmx,?_,(Builtin.zeroCells z.cells (grownCap w (m+n) old e-(m+n))).toList,?_⟩
  ·have hge:=grownCap_ge w (m+n) old e;simp only[Array.size_append,List.size_toArray,List.length_append,size_zeroCells,hzs,hol,hs.newsLen,<- Nat.add_mul];congr 1;omega
  ·simp[Array.toList_append,List.append_assoc]
 rcases hv with⟨rfl,rfl,rfl⟩ | ⟨rfl,hg,hmc,hcs,hcm,rfl⟩
 ·by_cases hn:n=0
  ·subst hn;refine⟨.slice none 0 0,w,?_,.inl ⟨rfl,rfl,rfl,rfl⟩⟩;have hnews:news=[]:=List.eq_nil_of_length_eq_zero (by simpa using hs.newsLen);subst hnews;rcases hs.kind with⟨e',hk⟩ | hk<;>simp[Builtin.append_,run_underlying ht,run_underlying hk,sizeOf,typeInfo,hi,hs.len,hs.cells]
  ·obtain⟨v',w',h1,h2⟩:=grow none 0 rfl (by omega) (by simp) (by simpa using run_firstCells_none (P:=P) w.drew i.size 0 0 0);exact⟨v',w',h1,.inr (.inr h2)⟩
 ·have hle:m*i.size<=c.size:=by rw[hcs];exact Nat.mul_le_mul_right _ hmc
  have hol:(c.toList.take (m*i.size)).length=m*i.size:=by simp;omega
  by_cases hroom:m+n<=cap
  ·have hfit:m*i.size+news.length<=c.size:=by rw[hs.newsLen,hcs,<- Nat.add_mul];exact Nat.mul_le_mul_right _ hroom
   have hst:=run_storeCells_at (P:=P) b (m*i.size) e news 0 c w hg (by simpa using hfit) hs.one;simp only[Nat.add_zero]at hst;refine⟨.slice (some ⟨b,0,none⟩) (m+n) cap,_,?_,.inr (.inl ⟨cap,rfl,rfl,hroom,rfl⟩)⟩;rcases hs.kind with⟨e',hk⟩ | hk<;>simp[Builtin.append_,run_underlying ht,run_underlying hk,sizeOf,typeInfo,hi,hs.len,hroom,hs.cells,Addr.add_lit,hst,splice]
  ·obtain⟨v',w',h1,h2⟩:=grow (some ⟨b,0,none⟩) cap rfl (by omega) hol (run_firstCells_some w.drew i.size m ⟨b,0,none⟩ m cap _ hol (by
    intro p u hp;rw[List.getElem?_take]at hp;split at hp
    ·rename_i hpl;rw[Addr.add_lit,Nat.zero_add]
     have:=cell_of_heap (w:=w) hg (o:=p) (by omega)
     simp only[World.cell?_drew];rw[this];simp[Array.getD_eq_getD_getElem?,show p<c.size by omega]at hp⊢;exact hp
    ·cases hp))
   exact⟨v',w',h1,.inr (.inr h2)⟩
theorem Ef {l r:List Value}{i:Nat}(h:i<l.length):(l++r).getD i undef=l.getD i undef:=by simp[List.getD_eq_getElem?_getD,List.getElem?_append_left h]
theorem Hx {l r:List Value}{i:Nat}(h:l.length<=i):(l++r).getD i undef=r.getD (i-l.length) undef:=by simp[List.getD_eq_getElem?_getD,List.getElem?_append_right h]
theorem OJ {l:List Value}{i n:Nat}(h:i<n):(l.take n).getD i undef=l.getD i undef:=by simp[List.getD_eq_getElem?_getD,h]
theorem BY {w:World}{Pi:Nat->Nat->Prop}{k m n:Nat}{f g:Nat->List PV}{arr:Array Value}{olds news r:List Value}(ha:arr.toList=olds++news++r)(ho:olds.length=m*k)(hn:news.length=n*k)
 (hf:∀i j,i<m->j<k->RepP w Pi (olds.getD (i*k+j) undef) ((f i).getD j default)/\(olds.getD (i*k+j) undef).oneCell' = true)
 (hg:∀i j,i<n->j<k->RepP w Pi (news.getD (i*k+j) undef) ((g i).getD j default)/\(news.getD (i*k+j) undef).oneCell' = true) :
 ∀i j,i<m+n->j<k->RepP w Pi (arr.getD (i*k+j) undef) ((AW m f g i).getD j default)/\(arr.getD (i*k+j) undef).oneCell' = true:=by
 intro i j hi hj;rw[B7,ha];unfold AW;by_cases him:i<m
 ·have:=H2 him hj
  rw[if_pos him,List.append_assoc,Ef (by omega)];exact hf i j him hj
 ·rw[if_neg him];have h1:m*k<=i*k:=Nat.mul_le_mul_right k (by omega);have h2:=H2 (show i-m<n by omega) hj;have h3:(i-m)*k=i*k-m*k:=Nat.sub_mul _ _ _;rw[List.append_assoc,Hx (by omega),Ef (by omega),ho]
  have:=hg (i-m) j (by omega) hj
  rwa [h3,show i*k-m*k+j=i*k+j-m*k by omega]at this
theorem Y8 {k m n:Nat}{f g:Nat->List PV}(hf:∀i,i<m->(f i).length=k)(hg:∀i,i<n->(g i).length=k):∀i,i<m+n->(AW m f g i).length=k:=by
 intro i hi;unfold AW;split
 ·rename_i h;exact hf i h
 ·exact hg _ (by omega)
theorem Vu (h:Sat C st a w rho){c:Call}(hc:c.callee=.builtin .append)(ho:o.op=.call c)(he:aop P st.env st.regs d o.op=some out)(hcond:D0 out.cond):OpOk P C o st a w rho out:=by
 obtain⟨callee,args,types⟩:=c;simp only at hc;subst hc;rw[ho]at he;simp only[aop]at he;split at he
 ·rename_i s x t t2 hargs htypes;split at he
  ·rename_i e k2 ht ht2;split at he
   ·rename_i k z hk2 hm hz;split at he
    ·rename_i n g l f vw R1 hn hel htk;split at he
     ·rename_i hzl;cases he;obtain⟨args⟩:=args;obtain⟨types⟩:=types;simp only at hargs htypes;subst hargs;subst htypes;obtain⟨hbytes,hmax⟩:=hcond;obtain⟨i,hi,rfl⟩:=MS hm;obtain⟨i',zv,hi',hzv,hze⟩:=BO hz;rw[hi]at hi';cases hi';have hzs:zv.cells.size=i.size:=by have:=hzl.1;rw[hze]at this;simpa using this
      have hby:HU P e=i.bytes:=by simp[HU,Program.bytesOf,hi]
      rw[hby]at hbytes;have hbp:0<i.bytes:=by have:=hzl.2;rwa [hby]at this
      obtain⟨cx,hsrc,hgl,hgr⟩:=Jm h (h.aev x) hel ht2 hk2;have hgr' : ∀i' j,i' < n->j<i.size->RepP w (PiS C st rho) ((X3 cx n i.size).getD (i' * i.size+j) undef) ((g i').getD j default)/\((X3 cx n i.size).getD (i' * i.size+j) undef).oneCell' = true:=by intro i' j hi' hj;rw[Vt cx hi' hj];exact hgr i' j hi' hj
      have hrunop:∀v' w',(Builtin.append_ #[t,t2] o.type #[a.eval s,a.eval x]).run P w=.ok v' w' -> (execOp a.eval o).run P w=.ok (.value v') w':=by intro v' w' hr;simp[execOp,ho,resolve,invoke,builtin,hr]
      have hs:=h.aev s;have u:=K0 ht;unfold Ox at htk;split at htk
      ·
       rename_i hse;cases htk;rw[hse]at hs;have hv:=hs.toP.toV;obtain⟨v',w',hr,hres⟩:=X4 (ty:=o.type) (b:=0) (cap:=0) (c:=#[]) u hi hzv hzs hbp hsrc (s:=a.eval s) (m:=0) (olds:=[]) (.inl ⟨hv,rfl,rfl⟩) hmax hbytes;rcases hres with⟨_,rfl,h0,rfl⟩ | ⟨cap',hse',_⟩ | ⟨cap',arr,rfl,rfl,hge,hcm,hsz,r,harr⟩
       ·obtain⟨h1,h2,h3⟩:=h.fresh (Bz d 0) hn (.vec e i.size (0+n) (AW 0 (fun _=>[]) g) false) (.slice none 0 0) (w':=w') (Nat.le_refl _) (fun b hb=>rfl) (fun b hb=>by simp[D8,O5]at hb) (fun hk=>.inl ⟨rfl,h0⟩);refine⟨_,_,_,_,hrunop _ _ hr,.inl rfl,h1,⟨h2,h3⟩,?_⟩;exact .vec _ none 0 0 (by simp[Lv,A4]) (by simp)
       ·rw[hv]at hse';cases hse'
       ·obtain⟨h1,h2,h3⟩:=h.fresh (Bz d 0) hn (.vec e i.size (0+n) (AW 0 (fun _=>[]) g) false) (.slice (some ⟨w.heap.size,0,none⟩) (0+n) cap') (w':=w.drew.alloc (.cells arr e)) (by simp) (fun b hb=>heap_alloc_old w.drew _ b hb) (fun b hb=>by simp[D8,O5]at hb;omega)
         (fun hk=>.inr ⟨w.heap.size,cap',arr,rfl,heap_alloc_new w.drew _,hge,hsz,hcm,Y8 (fun i hi=>absurd hi (by omega)) hgl,
          BY harr (by simp) (F3 _ _ _) (fun i j hi=>absurd hi (by omega)) fun i' j hi' hj=>⟨(hgr' i' j hi' hj).1.keeps hk,(hgr' i' j hi' hj).2⟩⟩)
        refine⟨_,_,_,_,hrunop _ _ hr,.inl rfl,h1,⟨h2,h3⟩,?_⟩;exact .vec _ _ _ _ (by simp[Lv,A4]) (by simp)
      ·
       rename_i j hse;split at htk
       ·rename_i e' m' n' f' vw' hj;split at htk
        ·rename_i hem;cases htk;obtain⟨rfl,rfl⟩:=hem;rw[hse]at hs;generalize hvs:a.eval s=v at hs;rw[hvs]at hrunop;cases hs with
         |vec j base nn cap hl hrj=>
         have hh:=h.hp.holds j _ hj;rw[hrj]at hh;have hne:nid d 0≠j:=by intro e;rw[e,hj]at hn;cases hn
         rcases hh with⟨hnil,rfl⟩ | ⟨b,cap',c,hb',hheap,hncap,hcsz,hcmax,hlen,hrep⟩
         ·cases hnil;obtain⟨v',w',hr,hres⟩:=X4 (ty:=o.type) (b:=0) (cap:=0) (c:=#[]) u hi hzv hzs hbp hsrc (s:=.slice none 0 0) (m:=0) (olds:=[]) (.inl ⟨rfl,rfl,rfl⟩) hmax hbytes;rcases hres with⟨_,rfl,h0,rfl⟩ | ⟨cap',hse',_⟩ | ⟨cap',arr,rfl,rfl,hge,hcm,hsz,r,harr⟩
          ·obtain⟨h1,h2⟩:=h.moved hj (Bz d 0) hn (.vec e' i.size (0+n) (AW 0 f g) vw) (.slice none 0 0) (w':=w') (Nat.le_refl _) (fun b _ _=>rfl) (fun b hb=>by simp[D8,O5]at hb) (fun b off v hb _ hc=>by simp[D8,O5,hrj]at hb) (fun hk=>.inl ⟨rfl,h0⟩);exact⟨_,_,_,_,hrunop _ _ hr,.inl rfl,h1,h2,.vec _ none 0 0 (by simp[Lv,A4]) (by simp)⟩
          ·cases hse'
          ·obtain⟨h1,h2⟩:=h.moved hj (Bz d 0) hn (.vec e' i.size (0+n) (AW 0 f g) vw) (.slice (some ⟨w.heap.size,0,none⟩) (0+n) cap') (w':=w.drew.alloc (.cells arr e')) (by simp) (fun b hb _=>heap_alloc_old w.drew _ b hb) (fun b hb=>by simp[D8,O5]at hb;omega) (fun b off v hb _ hc=>by simp[D8,O5,hrj]at hb)
            (fun hk=>.inr ⟨w.heap.size,cap',arr,rfl,heap_alloc_new w.drew _,hge,hsz,hcm,Y8 (fun i hi=>absurd hi (by omega)) hgl,
             BY harr (by simp) (F3 _ _ _) (fun i j hi=>absurd hi (by omega)) fun i' j hi' hj=>⟨(hgr' i' j hi' hj).1.keeps hk,(hgr' i' j hi' hj).2⟩⟩)
           exact⟨_,_,_,_,hrunop _ _ hr,.inl rfl,h1,h2,.vec _ _ _ _ (by simp[Lv,A4]) (by simp)⟩
         ·cases hb';have hle:l*i.size<=c.size:=by rw[hcsz];exact Nat.mul_le_mul_right _ hncap
          obtain⟨v',w',hr,hres⟩:=X4 (ty:=o.type) (b:=b) (cap:=cap) (c:=c) u hi hzv hzs hbp hsrc (s:=.slice (some ⟨b,0,none⟩) l cap) (m:=l) (olds:=c.toList.take (l*i.size)) (.inr ⟨rfl,hheap,hncap,hcsz,hcmax,rfl⟩) hmax hbytes;have holds:∀i' j,i' < l->j<i.size->RepP w (PiS C st rho) ((c.toList.take (l*i.size)).getD (i' * i.size+j) undef) ((f i').getD j default)/\((c.toList.take (l*i.size)).getD (i' * i.size+j) undef).oneCell' = true:=by intro i' j hi' hj;rw[OJ (H2 hi' hj),<- B7];exact hrep i' j hi' hj
          have hol:(c.toList.take (l*i.size)).length=l*i.size:=by simp;omega
          have hpub:∀off,¬Prv C.X (A1 st.regs) rho b off->vw=true/\off<l*i.size:=by
           intro off hnp;have hnp' : ¬Gw (.vec e' i.size l f vw) off:=fun hp=>hnp (.inr ⟨j,_,hj,by simp[D8,O5,hrj],hp⟩);cases vw
           ·exact absurd trivial hnp'
           ·exact⟨rfl,by simpa[Gw]using hnp'⟩
          rcases hres with⟨hse',_⟩ | ⟨cap'',_,rfl,hroom,rfl⟩ | ⟨cap'',arr,rfl,rfl,hge,hcm,hsz,r,harr⟩
          ·cases hse'
          ·have hfit:l*i.size+(X3 cx n i.size).length<=c.toList.length:=by rw[F3,Array.length_toList,hcsz,<- Nat.add_mul];exact Nat.mul_le_mul_right _ hroom
           obtain⟨h1,h2⟩:=h.moved hj (Bz d 0) hn (.vec e' i.size (l+n) (AW l f g) vw) (.slice (some ⟨b,0,none⟩) (l+n) cap) (w':=w.setRow b (splice c.toList (l*i.size) (X3 cx n i.size)).toArray) (by simp)
            (fun b' hb' hnb=>setRow_other w b b' _ (fun e=>hnb (by simp[D8,O5,hrj,e]))) (fun b' hb'=>.inl (by simpa[D8,O5,hrj]using hb'))
            (fun b' off v hb' hnp hcell=>by
             have e:b' = b:=by simp[D8,O5,hrj]at hb';exact hb'.symm
             subst e;obtain⟨hvw,hoff⟩:=hpub off hnp;refine⟨?_,fun _=>?_⟩
             ·have h1:=cell_of_heap (w:=w) hheap (o:=off) (by omega);have h2:=cell_of_heap (w:=w.setRow b' (splice c.toList (l*i.size) (X3 cx n i.size)).toArray) (setRow_heap w b' c _ e' _ hheap) (o:=off) (by rw[List.size_toArray,E6 _ _ _ hfit];simp;omega);rw[h2,<- hcell,h1,B7,B7];congr 1;show (splice c.toList (l*i.size) (X3 cx n i.size)).getD off undef=_;rw[P3 _ _ _ _ _ hfit,if_neg (by omega)]
             ·rw[hvw];simp only[Gw,Nat.add_mul];omega)
            (fun hk=>.inr ⟨b,cap,_,rfl,setRow_heap w b c _ e' _ hheap,hroom,by rw[List.size_toArray,E6 _ _ _ hfit];simpa using hcsz,hcmax,Y8 hlen hgl,
             BY (r:=c.toList.drop (l*i.size+(X3 cx n i.size).length)) (by simp[splice]) hol (F3 _ _ _) (fun i' j hi' hj=>⟨(holds i' j hi' hj).1.keeps hk,(holds i' j hi' hj).2⟩) fun i' j hi' hj=>⟨(hgr' i' j hi' hj).1.keeps hk,(hgr' i' j hi' hj).2⟩⟩)
           exact⟨_,_,_,_,hrunop _ _ hr,.inl rfl,h1,h2,.vec _ _ _ _ (by simp[Lv,A4]) (by simp)⟩
          ·have hlt:b<w.heap.size:=(Array.getElem?_eq_some_iff.1 hheap).1;obtain⟨h1,h2⟩:=h.moved hj (Bz d 0) hn (.vec e' i.size (l+n) (AW l f g) vw) (.slice (some ⟨w.heap.size,0,none⟩) (l+n) cap'') (w':=w.drew.alloc (.cells arr e')) (by simp) (fun b' hb' _=>heap_alloc_old w.drew _ b' hb') (fun b' hb'=>by simp[D8,O5]at hb';omega)
            (fun b' off v hb' hnp hcell=>by have hlt' : b' < w.heap.size:=World.block_lt_of_cell? w ⟨b',off,none⟩ hcell;refine⟨?_,fun e=>by simp[D8,O5]at e;omega⟩;rw[<- hcell];exact World.cell?_of_block (heap_alloc_old w.drew _ b' hlt'))
            (fun hk=>.inr ⟨w.heap.size,cap'',arr,rfl,heap_alloc_new w.drew _,hge,hsz,hcm,Y8 hlen hgl,
             BY harr hol (F3 _ _ _) (fun i' j hi' hj=>⟨(holds i' j hi' hj).1.keeps hk,(holds i' j hi' hj).2⟩) fun i' j hi' hj=>⟨(hgr' i' j hi' hj).1.keeps hk,(hgr' i' j hi' hj).2⟩⟩)
           exact⟨_,_,_,_,hrunop _ _ hr,.inl rfl,h1,h2,.vec _ _ _ _ (by simp[Lv,A4]) (by simp)⟩
        ·cases htk
       ·cases htk
      ·
       rename_i j m0 hse;split at htk
       ·rename_i e' m' n' f' hj;split at htk
        ·rename_i hem;cases htk;obtain⟨rfl,rfl⟩:=hem;rw[hse]at hs;generalize hvs:a.eval s=v at hs;rw[hvs]at hrunop;cases hs with
         |vecp j m0 base nn cap hl hrj hmn=>
         have hh:=h.hp.holds j _ hj;rw[hrj]at hh;have hne:nid d 0≠j:=by intro e;rw[e,hj]at hn;cases hn
         rcases hh with⟨hnil,rfl⟩ | ⟨b,cap',c,hb',hheap,hncap,hcsz,hcmax,hlen,hrep⟩
         ·cases hnil;obtain rfl:m0=0:=by omega
          simp only[Nat.min_self]at *;obtain⟨v',w',hr,hres⟩:=X4 (ty:=o.type) (b:=0) (cap:=0) (c:=#[]) u hi hzv hzs hbp hsrc (s:=.slice none 0 0) (m:=0) (olds:=[]) (.inl ⟨rfl,rfl,rfl⟩) hmax hbytes;rcases hres with⟨_,rfl,h0,rfl⟩ | ⟨cap',hse',_⟩ | ⟨cap',arr,rfl,rfl,hge,hcm,hsz,r,harr⟩
          ·obtain⟨h1,h2⟩:=h.moved hj (Bz d 0) hn (.vec e' i.size (0+n) (AW 0 f g) false) (.slice none 0 0) (w':=w') (Nat.le_refl _) (fun b _ _=>rfl) (fun b hb=>by simp[D8,O5]at hb) (fun b off v hb _ hc=>by simp[D8,O5,hrj]at hb) (fun hk=>.inl ⟨rfl,h0⟩);exact⟨_,_,_,_,hrunop _ _ hr,.inl rfl,h1,h2,.vec _ none 0 0 (by simp[Lv,A4]) (by simp)⟩
          ·cases hse'
          ·obtain⟨h1,h2⟩:=h.moved hj (Bz d 0) hn (.vec e' i.size (0+n) (AW 0 f g) false) (.slice (some ⟨w.heap.size,0,none⟩) (0+n) cap') (w':=w.drew.alloc (.cells arr e')) (by simp) (fun b hb _=>heap_alloc_old w.drew _ b hb) (fun b hb=>by simp[D8,O5]at hb;omega) (fun b off v hb _ hc=>by simp[D8,O5,hrj]at hb)
            (fun hk=>.inr ⟨w.heap.size,cap',arr,rfl,heap_alloc_new w.drew _,hge,hsz,hcm,Y8 (fun i hi=>absurd hi (by omega)) hgl,
             BY harr (by simp) (F3 _ _ _) (fun i j hi=>absurd hi (by omega)) fun i' j hi' hj=>⟨(hgr' i' j hi' hj).1.keeps hk,(hgr' i' j hi' hj).2⟩⟩)
           exact⟨_,_,_,_,hrunop _ _ hr,.inl rfl,h1,h2,.vec _ _ _ _ (by simp[Lv,A4]) (by simp)⟩
         ·cases hb';rw[Nat.min_eq_left hmn]at *;have hle:m0*i.size<=c.size:=by rw[hcsz];exact Nat.mul_le_mul_right _ (by omega)
          obtain⟨v',w',hr,hres⟩:=X4 (ty:=o.type) (b:=b) (cap:=cap) (c:=c) u hi hzv hzs hbp hsrc (s:=.slice (some ⟨b,0,none⟩) m0 cap) (m:=m0) (olds:=c.toList.take (m0*i.size)) (.inr ⟨rfl,hheap,by omega,hcsz,hcmax,rfl⟩) hmax hbytes;have holds:∀i' j,i' < m0->j<i.size->RepP w (PiS C st rho) ((c.toList.take (m0*i.size)).getD (i' * i.size+j) undef) ((f i').getD j default)/\((c.toList.take (m0*i.size)).getD (i' * i.size+j) undef).oneCell' = true:=by intro i' j hi' hj;rw[OJ (H2 hi' hj),<- B7];exact hrep i' j (by omega) hj
          have hol:(c.toList.take (m0*i.size)).length=m0*i.size:=by simp;omega
          have hpub:∀off,¬Prv C.X (A1 st.regs) rho b off->False:=by intro off hnp;exact hnp (.inr ⟨j,_,hj,by simp[D8,O5,hrj],trivial⟩)
          rcases hres with⟨hse',_⟩ | ⟨cap'',_,rfl,hroom,rfl⟩ | ⟨cap'',arr,rfl,rfl,hge,hcm,hsz,r,harr⟩
          ·cases hse'
          ·have hfit:m0*i.size+(X3 cx n i.size).length<=c.toList.length:=by rw[F3,Array.length_toList,hcsz,<- Nat.add_mul];exact Nat.mul_le_mul_right _ hroom
           obtain⟨h1,h2⟩:=h.moved hj (Bz d 0) hn (.vec e' i.size (m0+n) (AW m0 f g) false) (.slice (some ⟨b,0,none⟩) (m0+n) cap) (w':=w.setRow b (splice c.toList (m0*i.size) (X3 cx n i.size)).toArray) (by simp)
            (fun b' hb' hnb=>setRow_other w b b' _ (fun e=>hnb (by simp[D8,O5,hrj,e]))) (fun b' hb'=>.inl (by simpa[D8,O5,hrj]using hb'))
            (fun b' off v hb' hnp hcell=>by
             have e:b' = b:=by simp[D8,O5,hrj]at hb';exact hb'.symm
             subst e;exact (hpub off hnp).elim)
            (fun hk=>.inr ⟨b,cap,_,rfl,setRow_heap w b c _ e' _ hheap,hroom,by rw[List.size_toArray,E6 _ _ _ hfit];simpa using hcsz,hcmax,Y8 (fun i hi=>hlen i (by omega)) hgl,
             BY (r:=c.toList.drop (m0*i.size+(X3 cx n i.size).length)) (by simp[splice]) hol (F3 _ _ _) (fun i' j hi' hj=>⟨(holds i' j hi' hj).1.keeps hk,(holds i' j hi' hj).2⟩) fun i' j hi' hj=>⟨(hgr' i' j hi' hj).1.keeps hk,(hgr' i' j hi' hj).2⟩⟩)
           exact⟨_,_,_,_,hrunop _ _ hr,.inl rfl,h1,h2,.vec _ _ _ _ (by simp[Lv,A4]) (by simp)⟩
          ·obtain⟨h1,h2⟩:=h.moved hj (Bz d 0) hn (.vec e' i.size (m0+n) (AW m0 f g) false) (.slice (some ⟨w.heap.size,0,none⟩) (m0+n) cap'') (w':=w.drew.alloc (.cells arr e')) (by simp) (fun b' hb' _=>heap_alloc_old w.drew _ b' hb') (fun b' hb'=>by simp[D8,O5]at hb';omega)
            (fun b' off v hb' hnp hcell=>by
             have e:b' = b:=by simp[D8,O5,hrj]at hb';exact hb'.symm
             subst e;exact (hpub off hnp).elim)
            (fun hk=>.inr ⟨w.heap.size,cap'',arr,rfl,heap_alloc_new w.drew _,hge,hsz,hcm,Y8 (fun i hi=>hlen i (by omega)) hgl,
             BY harr hol (F3 _ _ _) (fun i' j hi' hj=>⟨(holds i' j hi' hj).1.keeps hk,(holds i' j hi' hj).2⟩) fun i' j hi' hj=>⟨(hgr' i' j hi' hj).1.keeps hk,(hgr' i' j hi' hj).2⟩⟩)
           exact⟨_,_,_,_,hrunop _ _ hr,.inl rfl,h1,h2,.vec _ _ _ _ (by simp[Lv,A4]) (by simp)⟩
        ·cases htk
       ·cases htk
      ·cases htk
     ·cases he
    ·cases he
   ·cases he
  ·cases he
 ·cases he
end
end Go.AM
namespace Go.AM
section
variable {P:Program}{C:Ctx}{st:St}{a:Act}{w:World}{rho:Nat->Value}{o:Oper}{out:Out}{d:Nat}
theorem OK (h:Sat C st a w rho){t:TypeId}{x ix:Operand}(ho:o.op=.indexAddr t x ix)(he:aop P st.env st.regs d o.op=some out)(hc:D0 out.cond):OpOk P C o st a w rho out:=by
 rw[ho]at he;simp only[aop]at he;split at he
 ·rename_i i hi;split at he
  ·rename_i c y hy;cases he;obtain⟨ik,hik⟩:=Dj (h.aev ix) hi;have hx:=h.aev x;unfold Dd at hy;split at hy
   ·
    rename_i n e j oo hk hxe;split at hy
    ·rename_i m hm;cases hy;rw[hxe]at hx;generalize hvx:a.eval x=v at hx;cases hx with
     |reg j off b hl hr=>refine OpOk.pure h (v:=.pointer (some ⟨b,oo+i.toNat*m,none⟩)) ?_ (.reg j _ b hl hr);have h1:(0<=i/\i<(n:Int)):=hc;simp[execOp,ho,Instr.indexAt,hik,asIntOf,AA w (Ji hk),hvx,Instr.sureAddr,h1,Ib w hm,Addr.add_lit]
    ·cases hy
   ·rename_i n e cs hk hxe;split at hy
    ·rename_i m hm;cases hy;rw[hxe]at hx;have hx:=hx.toP;generalize hvx:a.eval x=v at hx;cases hx with
     |ptr b off cs c hcell hrep=>
      refine OpOk.pure h (v:=.pointer (some ⟨b,off+i.toNat*m,none⟩)) ?_ (.p _ _ (.ptr b _ _ (fun j=>c (i.toNat*m+j)) (fun j hj=>?_) fun j hj=>?_))
      ·have h1:(0<=i/\i<(n:Int)):=hc;simp[execOp,ho,Instr.indexAt,hik,asIntOf,AA w (Ji hk),hvx,Instr.sureAddr,h1,Ib w hm,Addr.add_lit]
      ·simp only[List.length_drop]at hj
       have:=hcell (i.toNat*m+j) (by omega)
       rwa [<- Nat.add_assoc]at this
      ·simp only[List.length_drop]at hj
       have:=hrep (i.toNat*m+j) (by omega)
       simpa[List.getD_eq_getElem?_getD,List.getElem?_drop]using this
    ·cases hy
   ·rename_i e nn k n f hk hxe;split at hy
    ·rename_i hm;cases hy;rw[hxe]at hx;have hx:=hx.toP;have h1:(0<=i/\i<(n:Int)):=hc;generalize hvx:a.eval x=v at hx;cases hx with
     |slnil=>omega
     |sl _ b off cap _ _ _ c hn hlen hcell hrep sp hsp=>
      have hit:i.toNat<n:=by omega
      obtain rfl:=hsp (by omega);refine OpOk.pure h (v:=.pointer (some ⟨b,off+i.toNat*k,none⟩)) ?_ (.p _ _ (.ptr b _ _ (fun j=>c i.toNat j) (fun j hj=>?_) fun j hj=>?_))
      ·simp[execOp,ho,Instr.indexAt,hik,asIntOf,AA w (K0 hk),hvx,h1,Ib w hm,Addr.add_lit]
      ·rw[hlen _ hit]at hj;exact hcell _ _ hit hj
      ·rw[hlen _ hit]at hj;exact hrep _ _ hit hj
    ·cases hy
   ·rename_i e j hk hxe;split at hy
    ·rename_i e' k n f vw hj;split at hy
     ·rename_i hm;cases hy;rw[hxe]at hx;have h1:(0<=i/\i<(n:Int)):=hc;generalize hvx:a.eval x=v at hx;cases hx with
      |vec j base nn cap hl hr=>
       have hh:=h.hp.holds j _ hj;rw[hr]at hh;rcases hh with⟨_,rfl⟩ | ⟨b,cap',c,hb',_⟩
       ·omega
       ·cases hb';refine OpOk.pure h (v:=.pointer (some ⟨b,i.toNat*k+0,none⟩)) ?_ (.elt j k _ _ b _ cap hl hr);simp[execOp,ho,Instr.indexAt,hik,asIntOf,AA w (K0 hk),hvx,h1,Ib w hm,Addr.add_lit]
     ·cases hy
    ·rename_i e' n jr x0 hj;split at hy
     ·rename_i hm;cases hy;rw[hxe]at hx;have h1:(0<=i/\i<(n:Int)):=hc;generalize hvx:a.eval x=v at hx;cases hx with
      |vec j base nn cap hl hr=>
       obtain⟨rv,_,_,hh⟩:=h.hp.holds j _ hj;rw[hr]at hh;rcases hh with⟨_,rfl⟩ | ⟨b,cap',c,hb',_⟩
       ·omega
       ·cases hb';refine OpOk.pure h (v:=.pointer (some ⟨b,i.toNat*1+0,none⟩)) ?_ (.elt j 1 _ _ b _ cap hl hr);simp[execOp,ho,Instr.indexAt,hik,asIntOf,AA w (K0 hk),hvx,h1,Ib w hm,Addr.add_lit]
     ·cases hy
    ·cases hy
   ·rename_i e j m0 hk hxe;split at hy
    ·rename_i e' k n f vw hj;split at hy
     ·rename_i hm;cases hy;rw[hxe]at hx;have h1:(0<=i/\i<(m0:Int)/\m0<=n):=hc;generalize hvx:a.eval x=v at hx;cases hx with
      |vecp j _ base nn cap hl hr hmn=>
       have hh:=h.hp.holds j _ hj;rw[hr]at hh;rcases hh with⟨_,rfl⟩ | ⟨b,cap',c,hb',_⟩
       ·omega
       ·cases hb';refine OpOk.pure h (v:=.pointer (some ⟨b,i.toNat*k+0,none⟩)) ?_ (.elt j k _ _ b _ cap hl hr);simp[execOp,ho,Instr.indexAt,hik,asIntOf,AA w (K0 hk),hvx,h1.1,h1.2.1,Ib w hm,Addr.add_lit]
     ·cases hy
    ·cases hy
   ·cases hy
  ·cases he
 ·cases he
theorem Xe (h:Sat C st a w rho){t:TypeId}{x ix:Operand}(ho:o.op=.index t x ix)(he:aop P st.env st.regs d o.op=some out)(hc:D0 out.cond):OpOk P C o st a w rho out:=by
 rw[ho]at he;simp only[aop]at he;split at he
 ·rename_i i hi;split at he
  ·rename_i c y hy;cases he;obtain⟨ik,hik⟩:=Dj (h.aev ix) hi;have hx:=h.aev x;unfold Yz at hy;split at hy
   ·rename_i l hk hxe;cases hy;rw[hxe]at hx;have h1:(0<=i/\i<(l.length:Int)):=hc;refine OpOk.pure h (v:=.int .u8 ((l.getD i.toNat 0).toNat:Nat)) ?_ (.p _ _ (.v _));have hit:i.toNat<l.length:=by omega
    simp[execOp,ho,Instr.index,hik,asIntOf,AA w (FA hk),hx.toP.toStr,h1.1,bget,hit,List.getD_eq_getElem?_getD]
   ·rename_i n e cs hk hxe;split at hy
    ·rename_i m hm;split at hy
     ·rename_i c' y' hld;cases hy;rw[hxe]at hx;have hx:=hx.toP;obtain⟨hc1,hc2⟩:=(Jg _ _).1 hc;generalize hvx:a.eval x=v at hx;cases hx with
      |agg vs cs hs h1 hrep=>obtain⟨u,hu,hr⟩:=LW (rho:=rho) (live:=Lv (A1 st.regs)) hs h1 hrep hld hc1;exact OpOk.pure h (by simp[execOp,ho,Instr.index,hik,asIntOf,AA w (Ji hk),hvx,hc2,Ib w hm,hu]) hr
     ·cases hy
    ·cases hy
   ·cases hy
  ·cases he
 ·cases he
theorem AR {x:Value}{k:IntKind}{i:Int}(hx:x=.int k i){y:Nat}(h:0<=i/\i<=y)(code:BoundsCode):(Instr.sliceBound x y code).run P w=.ok i.toNat w:=by subst hx;simp[Instr.sliceBound,asIntOf,h]
def Q4 (v:Option Value)(i:Option Int):Prop:=(v=none/\i=none) \/ ∃k n,v=some (.int k n)/\i=some n
theorem BZ {isS:Bool}{len cap:Nat}{lo hi:Option Value}{l h:Option Int}(hl:Q4 lo l)(hh:Q4 hi h)(hc:0<=l.getD 0/\l.getD 0<=h.getD len/\h.getD len<=cap) :(Instr.sliceBounds isS len cap lo hi none).run P w=.ok ((l.getD 0).toNat,(h.getD len).toNat,cap) w:=by
 have h2:0<=h.getD len:=by omega
 rcases hl with⟨rfl,rfl⟩ | ⟨k,n,rfl,rfl⟩<;>rcases hh with⟨rfl,rfl⟩ | ⟨k',n',rfl,rfl⟩<;>simp only[Option.getD_none,Option.getD_some]at hc h2⊢
 ·simp[Instr.sliceBounds]
 ·simp[Instr.sliceBounds,AR (P:=P) (w:=w) (k:=k') (i:=n') rfl (show 0<=n' /\ n' <= (cap:Int) by omega)]
 ·simp[Instr.sliceBounds,AR (P:=P) (w:=w) (k:=k) (i:=n) rfl (show 0<=n/\n<=(len:Int) by omega)]
 ·simp[Instr.sliceBounds,AR (P:=P) (w:=w) (k:=k') (i:=n') rfl (show 0<=n' /\ n' <= (cap:Int) by omega),AR (P:=P) (w:=w) (k:=k) (i:=n) rfl (show 0<=n/\n<=(n'.toNat:Int) by omega)]
theorem O8 {t e:TypeId}{k:Nat}(ht:tk P t=some (.slice e))(hm:tsz P e=some k){base:Option Addr}{len cap:Nat}{lo hi:Option Value}{l h:Option Int}(hl:Q4 lo l)(hh:Q4 hi h)
 (hc:0<=l.getD 0/\l.getD 0<=h.getD len/\h.getD len<=cap) :
 (Instr.sliceAt t (.slice base len cap) lo hi none).run P w=.ok (.slice (if cap=(l.getD 0).toNat then base else base.map (·.add ((l.getD 0).toNat*k))) ((h.getD len).toNat-(l.getD 0).toNat) (cap-(l.getD 0).toNat)) w:=by
 have hb:=BZ (P:=P) (w:=w) (isS:=true) hl hh hc;simp[Instr.sliceAt,AA w (K0 ht),Instr.slice,hb,Ib w hm]
theorem MT {t:TypeId}(ht:tk P t=some .str){s:List UInt8}{lo hi:Option Value}{l h:Option Int}(hl:Q4 lo l)(hh:Q4 hi h)(hc:0<=l.getD 0/\l.getD 0<=h.getD s.length/\h.getD s.length<=s.length) :(Instr.sliceAt t (.string ⟨s.toArray⟩) lo hi none).run P w=.ok (.string ⟨((s.take (h.getD s.length).toNat).drop (l.getD 0).toNat).toArray⟩) w:=by have hb:=BZ (P:=P) (w:=w) (isS:=false) hl hh hc;simp[Instr.sliceAt,AA w (FA ht),Instr.slice,KY,hb,Xd]
theorem MU {t e:TypeId}{n:Nat}(ht:tk P t=some (.arr n e))(hm:tsz P e=some 1){b o:Nat}{lo hi:Option Value}{h:Option Int}(hl:Q4 lo none)(hh:Q4 hi h)
 (hc:0<=h.getD n/\h.getD n<=n):(Instr.sliceAt t (.pointer (some ⟨b,o,none⟩)) lo hi none).run P w=.ok (.slice (some ⟨b,o,none⟩) (h.getD n).toNat n) w:=by
 have hb:=BZ (P:=P) (w:=w) (isS:=false) hl hh (len:=n) (cap:=n) (by simpa using hc);simp[Instr.sliceAt,AA w (Ji ht),Instr.sureAddr,hb,Ib w hm,Addr.add]
theorem Vv {Pi:Nat->Nat->Prop}{b off cap k n l h' : Nat}{sp:Option Nat}{nn:Bool}{f:Nat->List PV}(hv:RepP w Pi (.slice (some ⟨b,off,sp⟩) n cap) (.sl nn k n f))(hlh:l<=h')(hh:h' <= n) :RepP w Pi (.slice (if cap=l then some ⟨b,off,sp⟩else some ((⟨b,off,sp⟩:Addr).add (l*k))) (h' - l) (cap-l)) (.sl nn k (h' - l) (fun i=>f (l+i))):=by
 cases hv with
 |sl _ _ _ _ _ _ _ c hn hlen hcell hrep _ hsp=>
  have e:∃off' sp',(if cap=l then some (⟨b,off,sp⟩:Addr)else some ((⟨b,off,sp⟩:Addr).add (l*k)))=some ⟨b,off',sp'⟩/\(h' - l≠0->off' = off+l*k/\sp' = none):=by
   split
   ·exact⟨off,sp,rfl,fun h=>by omega⟩
   ·by_cases hz:l*k=0
    ·exact⟨off,sp,by simp[Addr.add,hz],fun h=>⟨by omega,hsp (by omega)⟩⟩
    ·exact⟨off+l*k,none,by simp[Addr.add,hz],fun _=>⟨rfl,rfl⟩⟩
  obtain⟨off',sp',he,ho⟩:=e;rw[he];refine .sl nn b off' (cap-l) k (h' - l) _ (fun i j=>c (l+i) j) (by omega) (fun i hi=>hlen _ (by omega)) (fun i j hi hj=>?_) (fun i j hi hj=>hrep _ _ (by omega) hj) sp' (fun h=>(ho (by omega)).2)
  have:=hcell (l+i) j (by omega) hj
  rw[(ho (by omega)).1,show off+l*k+i*k+j=off+(l+i)*k+j by rw[Nat.add_mul];omega];exact this
theorem Hy {Pi:Nat->Nat->Prop}{base:Option Addr}{len cap k n l h' : Nat}{nn:Bool}{f:Nat->List PV}(hv:RepP w Pi (.slice base len cap) (.sl nn k n f))(hlh:l<=h')(hh:h' <= n) :RepP w Pi (.slice (if cap=l then base else base.map (·.add (l*k))) (h' - l) (cap-l)) (.sl nn k (h' - l) (fun i=>f (l+i))):=by
 cases hv with
 |slnil=>
  obtain rfl:h' = 0:=by omega
  obtain rfl:l=0:=by omega
  simpa using RepP.slnil (w:=w) (Pi:=Pi) k _
 |sl _ b off cap _ _ _ c hn hlen hcell hrep sp hsp=>exact Vv (.sl nn b off cap k _ f c hn hlen hcell hrep sp hsp) hlh hh
theorem Aa (h:Sat C st a w rho){x:Option Operand}{i:Option (Option Int)}(hi:x.map (fun o=>asInt (aev st.env o))=i):(i=none->Q4 (x.map a.eval) none)/\∀n,i=some (some n)->Q4 (x.map a.eval) (some n):=by
 subst hi;cases x with
 |none=>exact⟨fun _=>.inl ⟨rfl,rfl⟩,fun n h=>by simp at h⟩
 |some o=>refine⟨fun h=>by simp at h,fun n hn=>?_⟩;simp only[Option.map_some,Option.some.injEq]at hn;obtain⟨k,hk⟩:=Dj (h.aev o) hn;exact .inr ⟨k,n,by simp[hk],rfl⟩
theorem OL (h:Sat C st a w rho){t:TypeId}{v:Value}{x:AV}(hv:RS C st w rho v x){lo hi:Option Value}{l hh:Option Int}(hl:Q4 lo l)(hhi:Q4 hi hh){c:List Prop}{y:AV}{R' : C4}
 (he:De P st.regs t x l hh=some (c,y,R')) (hc:D0 c):∃u,(Instr.sliceAt t v lo hi none).run P w=.ok u w/\Sat C { st with regs:=R' } a w rho/\Kp C st.regs R' w w rho rho/\RepA w (Prv C.X (A1 R') rho) (Lv (A1 R')) rho u y:=by
 unfold De at he;split at he
 ·
  rename_i s hk;have hv:=hv.toP.toStr;subst hv;have fin:∀(l' h' : Option Int),Q4 lo l' -> Q4 hi h' -> (0<=l'.getD 0/\l'.getD 0<=h'.getD s.length/\h'.getD s.length<=s.length)->y=.p (.str ((s.take (h'.getD s.length).toNat).drop (l'.getD 0).toNat))->R' = st.regs ->
   ∃u,(Instr.sliceAt t (.string ⟨s.toArray⟩) lo hi none).run P w=.ok u w/\Sat C { st with regs:=R' } a w rho/\Kp C st.regs R' w w rho rho/\RepA w (Prv C.X (A1 R') rho) (Lv (A1 R')) rho u y:=by
   rintro l' h' h1 h2 h3 rfl rfl;exact⟨_,MT hk h1 h2 h3,h,Kp.refl _ _ _ _,.p _ _ (.str _)⟩
  split at he<;>cases he
  ·exact fin _ _ hl hhi (by simp only[D0,Option.getD_none]at hc⊢;omega) (by simp) rfl
  ·exact fin _ _ hl hhi (by simp only[D0,Option.getD_some,Option.getD_none]at hc⊢;omega) (by simp) rfl
  ·exact fin _ _ hl hhi (by simp only[D0,Option.getD_some,Option.getD_none]at hc⊢;omega) (by simp) rfl
  ·exact fin _ _ hl hhi (by simp only[D0,Option.getD_some]at hc⊢;omega) (by simp) rfl
 ·
  rename_i e nn k n f hk;split at he
  ·rename_i hm;have hv:=hv.toP;obtain⟨base,len,cap,rfl,hlen,hcap⟩:∃base len cap,v=.slice base len cap/\len=n/\n<=cap:=by
    cases hv with
    |slnil=>exact⟨_,_,_,rfl,rfl,Nat.le_refl _⟩
    |sl _ b off cap _ _ _ c hn=>exact⟨_,_,_,rfl,rfl,hn⟩
   subst hlen;have fin:∀(l' h' : Option Int),Q4 lo l' -> Q4 hi h' -> (0<=l'.getD 0/\l'.getD 0<=h'.getD len/\h'.getD len<=len)->y=.p (.sl nn k ((h'.getD len).toNat-(l'.getD 0).toNat) (fun i=>f ((l'.getD 0).toNat+i)))->R' = st.regs ->
    ∃u,(Instr.sliceAt t (.slice base len cap) lo hi none).run P w=.ok u w/\Sat C { st with regs:=R' } a w rho/\Kp C st.regs R' w w rho rho/\RepA w (Prv C.X (A1 R') rho) (Lv (A1 R')) rho u y:=by
    rintro l' h' h1 h2 h3 rfl rfl;refine⟨_,O8 hk hm h1 h2 (by omega),h,Kp.refl _ _ _ _,.p _ _ ?_⟩;exact Hy hv (by omega) (by omega)
   split at he<;>cases he
   ·exact fin _ _ hl hhi (by simp only[D0,Option.getD_none]at hc⊢;omega) (by simp) rfl
   ·exact fin _ _ hl hhi (by simp only[D0,Option.getD_some,Option.getD_none]at hc⊢;omega) (by simp) rfl
   ·exact fin _ _ hl hhi (by simp only[D0,Option.getD_some,Option.getD_none]at hc⊢;omega) (by simp) rfl
   ·exact fin _ _ hl hhi (by simp only[D0,Option.getD_some]at hc⊢;omega) (by simp) rfl
  ·cases he
 ·
  rename_i e hk;split at he
  ·rename_i k hm;cases he;have h1:l.getD 0=0/\hh.getD 0=0:=hc;have hv:=hv.toP.toV;subst hv;have hz:hh.getD ((0:Nat):Int)=0:=by simpa using h1.2
   refine⟨_,O8 hk hm hl hhi (len:=0) (cap:=0) (by omega),h,Kp.refl _ _ _ _,.p _ _ ?_⟩;rw[hz,h1.1];simpa using RepP.v (w:=w) (Pi:=PiS C st rho) (.slice none 0 0)
  ·cases he
 ·
  rename_i m e cs hk;split at he
  ·rename_i b;split at he
   ·rename_i hm;obtain⟨hm,rfl⟩:=hm;cases he;have hc:0<=b/\b<=(cs.length:Int):=hc;cases hv.toP with
    |ptr bb off _ c hcc hh=>
     refine⟨_,MU hk hm hl hhi hc,h,Kp.refl _ _ _ _,.p _ _ (.sl true bb off cs.length 1 b.toNat _ (fun i _=>c i) (by omega) (fun _ _=>rfl) (fun i j hi hj=>?_) (fun i j hi hj=>?_) none fun _=>rfl)⟩
     ·obtain rfl:j=0:=by omega
      simpa using hcc i (by omega)
     ·obtain rfl:j=0:=by omega
      simpa using hh i (by omega)
   ·cases he
  ·cases he
 ·
  rename_i e j hk;split at he
  ·rename_i e' k n f vw hj;split at he
   ·rename_i hm;obtain⟨hm,rfl⟩:=hm;cases hv with
    |vec j base len cap hlv hr=>
    have hcap:len<=cap/\len=n:=by
     have hh:=h.hp.holds j _ hj;rw[hr]at hh;rcases hh with⟨hn,rfl⟩ | ⟨b,cap',c,hb',_,hncap,_⟩
     ·cases hn;exact⟨Nat.le_refl _,rfl⟩
     ·cases hb';exact⟨hncap,rfl⟩
    obtain⟨hcap,rfl⟩:=hcap;obtain⟨hv1,hv2,hv3⟩:=h.viewed hj;have hsl:=hv1.sl (j:=j) (m:=len) (e:=e') (k:=k) (n:=len) (f:=f) (by simp[A4]) hr (Nat.le_refl _);have hbase:(if cap=((none:Option Int).getD 0).toNat then base else base.map (·.add (((none:Option Int).getD 0).toNat*k)))=base:=by
     cases base with
     |none=>simp
     |some ad=>simp[Addr.add]
    split at he<;>cases he
    ·refine⟨_,O8 hk hm hl hhi (len:=len) (cap:=cap) (by simp only[D0,Option.getD_none]at hc⊢;omega),h,Kp.refl _ _ _ _,?_⟩;rw[hbase];simpa using RepA.vec (w:=w) (Pi:=PiS C st rho) j base len cap hlv hr
    ·refine⟨_,O8 hk hm hl hhi (len:=len) (cap:=cap) (by simp only[D0,Option.getD_some,Option.getD_none]at hc⊢;omega),h,Kp.refl _ _ _ _,?_⟩;rw[hbase];simp only[D0]at hc
     have:=RepA.vecp (w:=w) (Pi:=PiS C st rho) j _ base len cap hlv hr (Int.toNat_le.2 hc.2)
     simpa using this
    ·refine⟨_,O8 hk hm hl hhi (len:=len) (cap:=cap) (by simp only[D0,Option.getD_some,Option.getD_none]at hc⊢;omega),hv1,⟨hv2,hv3⟩,.p _ _ ?_⟩;simp only[D0]at hc
     have:=Hy hsl (l:=Int.toNat _) (h':=len) (Int.toNat_le.2 hc.2) (Nat.le_refl _)
     simpa using this
    ·refine⟨_,O8 hk hm hl hhi (len:=len) (cap:=cap) (by simp only[D0,Option.getD_some]at hc⊢;omega),hv1,⟨hv2,hv3⟩,.p _ _ ?_⟩;simp only[D0]at hc
     have:=Hy hsl (l:=Int.toNat _) (h':=Int.toNat _) (Int.toNat_le_toNat hc.2.1) (Int.toNat_le.2 hc.2.2)
     simpa using this
   ·cases he
  ·cases he
 ·cases he
theorem Xf (h:Sat C st a w rho){t:TypeId}{x:Operand}{lo hi:Option Operand}(ho:o.op=.slice t x lo hi none)(he:aop P st.env st.regs d o.op=some out)(hc:D0 out.cond):OpOk P C o st a w rho out:=by
 rw[ho]at he;simp only[aop]at he;have fin:∀(l hh:Option Int),Q4 (lo.map a.eval) l->Q4 (hi.map a.eval) hh->∀c y R',De P st.regs t (aev st.env x) l hh=some (c,y,R')->out=⟨c,y,R'⟩->OpOk P C o st a w rho out:=by rintro l hh hl hhi c y R' hs rfl;obtain⟨u,hu,h1,h2,h3⟩:=OL h (h.aev x) hl hhi hs hc;exact⟨_,u,w,rho,by simp[execOp,ho,hu],.inl rfl,h1,h2,h3⟩
 split at he
 ·rename_i h1 h2;split at he
  ·rename_i hs;cases he;exact fin none none ((Aa h h1).1 rfl) ((Aa h h2).1 rfl) _ _ _ hs rfl
  ·cases he
 ·rename_i l h1 h2;split at he
  ·rename_i hs;cases he;exact fin (some l) none ((Aa h h1).2 l rfl) ((Aa h h2).1 rfl) _ _ _ hs rfl
  ·cases he
 ·rename_i l h1 h2;split at he
  ·rename_i hs;cases he;exact fin none (some l) ((Aa h h1).1 rfl) ((Aa h h2).2 l rfl) _ _ _ hs rfl
  ·cases he
 ·rename_i l m h1 h2;split at he
  ·rename_i hs;cases he;exact fin (some l) (some m) ((Aa h h1).2 l rfl) ((Aa h h2).2 m rfl) _ _ _ hs rfl
  ·cases he
 ·cases he
end
end Go.AM
