/- Lemmas for ValidApart. -/
import Derived.Calls
import Derived.Laws.Sem
import Derived.Laws.World
import Derived.Laws.Cells
import Derived.Laws.StructEq
import Derived.Laws.Concat
import Derived.IntWalk
set_option linter.all false
open Array renaming ext'→qp,length_toList→Bx
open Bool renaming and_eq_true→bu,or_eq_true→zQ,rec→qq
open Go.Builtin renaming append_→xN,clear_→zR,copy_→DN,firstCells→uu,lenOf→zS,len_→xO,nextslicecap→K6,zeroCells→ay4
open List renaming all_cons→ju,all_eq_true→f8,getElem?_append_right→wd,getElem?_drop→DS,getElem?_eq_getElem→gn,getElem?_eq_none→DT,length_append→cJ,length_cons→bH,length_eq_zero_iff→Lb,length_nil→bn,length_take→sC,mem_iff_getElem?→ay6,mem_of_mem_drop→ayP,mem_of_mem_take→DY,take_append_drop→zU,take_of_length_le→re
open List.cons renaming injEq→mH
open Nat renaming add_assoc→wq,add_mul→ws,add_zero→gB,beq→aQ,ble→bw,blt→bm,le_of_ble_eq_true→fW,le_refl→br,le_succ→jQ,le_trans→fA,lt_irrefl→cD,lt_of_lt_of_le→hJ,lt_or_ge→nZ,mul_le_mul_right→uG,succ_mul→mJ,zero_le→ki
open Go.Op renaming bytesLess→fN,equalIn→zW
open Option renaming bind_eq_some_iff→ak,bind_some→au,map_some→kn
open Option.some renaming injEq→aJ
open Prod.mk renaming injEq→bI
open Go.Result renaming andThen_ok→mL
namespace Go.Ag
def cT.{u}{α:Sort u}(a b:α):cond true a b=a:=rfl
def cF.{u}{α:Sort u}(a b:α):cond false a b=b:=rfl
def bS.{u}{α:Type u}[BEq α][ReflBEq α](a:α):(a==a)=true:=beq_self_eq_true a
def tA(p:Prop):(True∧p)=p:=true_and p
def dT(h:Decidable True):@decide True h=true:=decide_true h
def bN.{u}{α:Type u}[BEq α][LawfulBEq α]{a b:α}:(a==b)=false<->a≠b:=beq_eq_false_iff_ne
def bE.{u}{α:Type u}[BEq α][LawfulBEq α]{a b:α}:(a==b)=true<->a=b:=beq_iff_eq
variable{p:Prop}
def dN[Decidable p](h:¬p):decide p=false:=decide_eq_false h
def dQ[Decidable p](h:p):decide p=true:=decide_eq_true h
def dE[Decidable p]:(decide p=true)=p:=decide_eq_true_eq
def dF(h:Decidable False):@decide False h=false:=decide_false h
variable{c:Prop}
def iP.{u}{α:Sort u}{i:Decidable c}{t e:α}(h:c):(if c then t else e)=t:=if_pos h
def iN.{u}{α:Sort u}{i:Decidable c}{t e:α}(h:¬c):(if c then t else e)=e:=if_neg h
def aT(p:Prop):(p∧True)=p:=and_true p
def oT(p:Prop):(p∨True)=True:=or_true p
def sI.{u}{α:Type u}{a b:α}(h:some a=some b):a=b:=Option.some.inj h
noncomputable section
inductive oW where
 |uP
 |own (n:Nat)
 |no
 deriving Inhabited
inductive aa where
 |bool (b:Bool)
 |int (k:IntKind) (n:Int)
 |str (s:List UInt8)
 |agg (cs:List aa)
 |tup (vs:List aa)
 |nilp
 |ptr (n off:Nat)
 |rd (t g off:Nat)
 |ro (cs:List aa)
 |oZ
 |list (sz:Nat) (xs:List aa) (r:oW)
 |arr (sz n off len lcap:Nat)
 |nilm
 |map (n:Nat)
 |nilf
 |func (fn:Fn) (first captured:List aa)
 |nili
 |iface (t:TypeId) (v:aa)
 |yld (n:Nat)
 |roz (cs:List aa)
 deriving Inhabited
def aa.cells:aa->List aa
 | .agg cs=>cs
 |v=>[v]
def aa.ge:aa->Bool
 | .rd _ _ _=>false
 | .tup _=>false
 |_=>true
def gM:aa:=.tup []
structure dK where
 key:aa
 val:aa
 born:Nat
 deriving Inhabited
inductive aC (α:Type) where
 |nil
 |node (l:aC α) (v:Option α) (r:aC α)
 deriving Inhabited
inductive Ex where
 |normal
 |exit (id:Nat)
 |ret
 deriving Inhabited
inductive aR where
 |cells (cs:List aa)
 |tok
 |map (es:List dK) (clock:Nat)
 |iter (m:Option Nat) (since:Nat) (seen:List Nat) (stepped:Nat)
 |loop (f:FuncId) (env:aC aa) (size:Nat) (ps:List Tmp) (a b:Code) (p:Option Ex)
 |fix (o:aR)
 deriving Inhabited
def aR.still:aR->Bool
 | .fix _=>true
 |_=>false
namespace aC
variable{α:Type}
def get(t:aC α):Nat->Option α:=
 @aC.rec α (fun _=>Nat->Option α) (fun _=>none)
  (fun _ v _ g d n=> @qq (fun _=>Option α) (@qq (fun _=>Option α) (d (n / 2-1)) (g (n / 2)) (aQ (n % 2) 1)) v (aQ n 0)) t
def one(x:Option α)(f:Nat):Nat->aC α:=
 @Nat.rec (fun _=>Nat->aC α) (fun _=>.node .nil x .nil)
  (fun _ d n=> @qq (fun _=>aC α) (@qq (fun _=>aC α) (.node .nil none (d (n / 2-1))) (.node (d (n / 2)) none .nil) (aQ (n % 2) 1)) (.node .nil x .nil) (aQ n 0)) f
def set(t:aC α)(n:Nat)(x:Option α):aC α:=
 @aC.rec α (fun _=>Nat->aC α) (fun n=>one x n n)
  (fun l v r g d n=> @qq (fun _=>aC α) (@qq (fun _=>aC α) (.node l v (d (n / 2-1))) (.node (g (n / 2)) v r) (aQ (n % 2) 1)) (.node l x r) (aQ n 0)) t n
def all(p:α->Bool)(t:aC α):Bool:=
 @aC.rec α (fun _=>Bool) true (fun _ v _ g d=>(match v with|none=>true|some x=>p x)&&(g&&d)) t
end aC
structure St where
 heap:aC aR
 aL:Nat
 gt:Nat
 ci:Nat
 deriving Inhabited
abbrev aK:=List (Nat×Nat)
def eh:aK->Nat->Bool
 | [],_=>false
 |(a,b)::m,n=>(bw a n&&bm n b)||eh m n
def St.get(s:St)(mk:aK)(n:Nat):Option aR:=bif eh mk n then none else s.heap.get n
def St.put(s:St)(n:Nat)(o:Option aR):St:= {heap:=s.heap.set n o,aL:=s.aL,gt:=bif bw s.gt n then s.gt else n,ci:=s.ci }
def St.new(s:St)(o:aR):St:= {heap:=s.heap.set s.aL (some o),aL:=s.aL+1,gt:=s.gt,ci:=s.ci }
abbrev Loc:=List (Nat×Nat×List aa)
def Loc.gen:Loc->Nat->Nat
 | [],_=>0
 |(k,g,_)::l,n=>bif aQ k n then g else Loc.gen l n
def Loc.get:Loc->Nat->Nat->Option (List aa)
 | [],_,_=>none
 |(k,g,c)::l,n,h=>bif aQ k n then bif aQ g h then some c else none else Loc.get l n h
def Loc.set:Loc->Nat->Nat->List aa->Loc
 | [],n,h,c=>[(n,h,c)]
 |(k,g,d)::l,n,h,c=>bif aQ k n then(k,h,c)::l else(k,g,d)::Loc.set l n h c
abbrev ax:=aC aa
structure Fr where
 env:ax
 size:Nat
 loc:Loc
 deriving Inhabited
def Pr:Option aa->aa
 |some v=>v
 |none=>gM
def ac(e:ax)(t:Nat):aa:=Pr (e.get t)
def nN:List aa->Nat->aa
 | [],_=>gM
 |x::_,0=>x
 |_::l,n+1=>nN l n
def gI:Nat->List aa->ax
 |_,[]=>.nil
 |n,v::l=>(gI (n+1) l).set n (some v)
def pw:Value->Option aa
 | .bool b=>some (.bool b)
 | .int k n=>some (.int k n)
 | .string s=>some (.str s.data.toList)
 | .pointer none=>some .nilp
 | .slice none 0 0=>some .oZ
 | .map none=>some .nilm
 | .nilFunc=>some .nilf
 | .nilIface=>some .nili
 |_=>none
def FT:List Value->Option (List aa)
 | []=>some []
 |v::l=>(pw v).bind fun a=>(FT l).bind fun r=>some (a::r)
def ofValue:Value->Option aa
 | .agg cs=>(FT cs.toList).bind fun l=>some (.agg l)
 |v=>pw v
def ev(env:ax):Operand->Option aa
 | .tmp t=>some (ac env t)
 | .const v=>ofValue v
 | .func f=>some (.func (.func f) [] [])
 | .global _=>none
def evc(env:ax)(x:Operand):Option aa:=(ev env x).bind fun v=>bif v.ge then some v else none
def evcs(env:ax):List Operand->Option (List aa)
 | []=>some []
 |x::l=>(evc env x).bind fun v=>(evcs env l).bind fun r=>some (v::r)
section
variable(P:Program)
def AP(t:TypeId):Option Bool:=
 (P.underlying t).bind fun
  | .struct _=>some true
  | .array _ _=>some true
  |_=>some false
def dI(t:TypeId):Option Nat:=(P.info? t).bind fun i=>some i.size
def L3(t:TypeId):Option Nat:=(P.info? t).bind fun i=>some i.bytes
def eV(t:TypeId):Option aa:=(P.info? t).bind fun i=>i.zero.bind ofValue
def cut(cs:List aa)(off n:Nat):Option (List aa):=
 let r:=(cs.drop off).take n
 bif aQ r.length n then some r else none
def js(t:TypeId)(cs:List aa)(off:Nat):Option aa:=
 (AP P t).bind fun b=>bif b then(dI P t).bind fun n=>(cut cs off n).bind fun r=>some (.agg r)
  else match cs.drop off with
   |v::_=>some v
   | []=>none
def fL(cs:List aa)(off:Nat)(new:List aa):Option (List aa):=
 bif bw (off+new.length) cs.length then some (cs.take off++(new++cs.drop (off+new.length))) else none
end
section
variable(P:Program)(mk:aK)(ch:Nat->Nat)(kmax:Nat->Nat)
def mr(t:TypeId)(a:aa)(loc:Loc)(s:St):Option aa:=
 match a with
 | .rd l g off=>(loc.get l g).bind fun cs=>js P t cs off
 | .ptr n off=>(s.get mk n).bind fun
   | .cells cs=>js P t cs off
   | .fix (.cells cs)=>js P t cs off
   |_=>none
 | .ro cs=>js P t cs 0
 |_=>none
def ui(t:TypeId)(a v:aa)(loc:Loc)(s:St):Option (Loc×St):=
 (dI P t).bind fun n=>bif aQ v.cells.length n&&bm 0 n then
  match a with
  | .rd l g off=>(loc.get l g).bind fun cs=>(fL cs off v.cells).bind fun cs'=>some (loc.set l g cs',s)
  | .ptr m off=>(s.get mk m).bind fun
    | .cells cs=>(fL cs off v.cells).bind fun cs'=>some (loc,s.put m (some (.cells cs')))
    |_=>none
  |_=>none
 else none
def bg(place:Nat->Option (Nat×Nat))(env:ax)(cells:List aa):List (Nat×Operand)->Option (List aa)
 | []=>some cells
 |(i,x)::rest=>(evc env x).bind fun v=>(place i).bind fun(off,d)=>
  bif aQ v.cells.length d then(fL cells off v.cells).bind fun c=>bg place env c rest else none
def Dg:List Field->Option (List (Nat×Nat))
 | []=>some []
 |f::fs=>(dI P f.type).bind fun n=>(Dg fs).bind fun r=>some ((f.offset,n)::r)
def ta(t:TypeId)(parts:List (Nat×Operand))(env:ax):Option aa:=
 (eV P t).bind fun z=>(P.underlying t).bind fun
  | .struct fields=>(Dg P fields.toList).bind fun d=>(bg (fun i=>d[i]?) env z.cells parts).bind fun c=>some (.agg c)
  | .array _ e=>(dI P e).bind fun n=>(bg (fun i=>some (i*n,n)) env z.cells parts).bind fun c=>some (.agg c)
  |_=>none
def bf(d:Bool)(size:Nat):Nat->List aa->Option (List aa)
 |0,[]=>some []
 |0,_=>none
 |n+1,cs=>
  bif d then(cut cs 0 size).bind fun e=>(bf d size n (cs.drop size)).bind fun r=>some (.agg e::r)
  else match cs with
   |v::rest=>(bf d size n rest).bind fun r=>some (v::r)
   | []=>none
def aF:List aa->List aa
 | []=>[]
 |v::l=>v.cells++aF l
def aZ(z:List aa):Nat->List aa
 |0=>[]
 |n+1=>z++aZ z n
structure EI where
 n:Nat
 b:Nat
 g:Bool
 z:aa
 deriving Inhabited
def yy(e:TypeId):Option EI:=
 (dI P e).bind fun n=>(L3 P e).bind fun b=>(AP P e).bind fun g=>(eV P e).bind fun z=>
  bif bm 0 n&&aQ z.cells.length n&&(g||aQ n 1)&&bm 0 b then some ⟨n,b,g,z⟩ else none
def lV(t:TypeId):Option EI:=
 (P.underlying t).bind fun
  | .slice e=>yy P e
  |_=>none
def bj(t:TypeId)(len:Nat)(parts:List (Nat×Operand))(mu:Bool)(env:ax)(s:St):Option (aa×St):=
 (lV P t).bind fun E=>bif bw (len*E.n) 16777216 then
  (bg (fun i=>some (i*E.n,E.n)) env (aZ E.z.cells len) parts).bind fun cs=>
   bif mu then some (.arr E.n s.aL 0 len len,s.new (.cells cs))
   else(bf E.g E.n len cs).bind fun xs=>some (.list E.n xs .uP,s)
  else none
def dS:aa->Option Nat
 | .int _ (.ofNat n)=>some n
 |_=>none
def fR(env:ax)(x:Option Operand)(d:Nat):Option Nat:=
 match x with
 |none=>some d
 |some x=>(ev env x).bind dS
def ja(loc:Loc)(t:TypeId)(x i:aa):Option aa:=
 (dS i).bind fun i=>(P.underlying t).bind fun
  | .array len e=>(dI P e).bind fun n=>bif bm i len then
   match x with
   | .rd l g off=>bif aQ (loc.gen l) g then some (.rd l g (off+i*n)) else none
   | .ptr m off=>some (.ptr m (off+i*n))
   | .ro cs=>some (.ro (cs.drop (i*n)))
   |_=>none
    else none
  | .slice e=>(dI P e).bind fun n=>
   match x with
   | .list sz xs _=>bif aQ sz n&&bm i xs.length then some (.ro (nN xs i).cells) else none
   | .arr sz m off len _=>bif aQ sz n&&bm i len then some (.ptr m (off+i*n)) else none
   |_=>none
  |_=>none
def tl(loc:Loc)(t:TypeId)(x:aa)(f:Nat):Option aa:=
 (P.underlying t).bind fun
  | .struct fields=>(fields[f]?).bind fun d=>(dI P d.type).bind fun n=>bif aQ n 0 then none else
   match x with
   | .rd l g off=>bif aQ (loc.gen l) g then some (.rd l g (off+d.offset)) else none
   | .ptr m off=>some (.ptr m (off+d.offset))
   | .ro cs=>some (.ro (cs.drop d.offset))
   |_=>none
  |_=>none
def yD(t:TypeId)(x:aa)(f:Nat):Option aa:=
 (P.underlying t).bind fun
  | .struct fields=>(fields[f]?).bind fun d=>match x with
   | .agg cs=>js P d.type cs d.offset
   |_=>none
  |_=>none
def AM(t:TypeId)(x i:aa):Option aa:=
 (dS i).bind fun i=>(P.underlying t).bind fun
  | .array len e=>(dI P e).bind fun n=>bif bm i len then match x with
   | .agg cs=>js P e cs (i*n)
   |_=>none
    else none
  | .string=>match x with
   | .str s=>match s.drop i with
     |b::_=>some (.int .u8 b.toNat)
     | []=>none
   |_=>none
  |_=>none
def jE(t:TypeId)(x:aa)(low d g:Option Operand)(env:ax)(s:St):Option aa:=
 (P.underlying t).bind fun
  | .string=>match x,g with
    | .str b,none=>(fR env d b.length).bind fun h=>(fR env low 0).bind fun l=>
     bif bw l h&&bw h b.length then some (.str ((b.take h).drop l)) else none
    |_,_=>none
  | .slice e=>(dI P e).bind fun n=>
    match x with
    | .oZ=>(fR env d 0).bind fun h=>(fR env low 0).bind fun l=>(fR env g 0).bind fun m=>
     bif aQ h 0&&aQ l 0&&aQ m 0&&(g.isNone||d.isSome) then some .oZ else none
    | .list sz xs r=>(fR env d xs.length).bind fun h=>(fR env low 0).bind fun l=>
     bif aQ sz n&&bw l h&&bw h xs.length then
      match g with
      |none=>some (.list sz ((xs.take h).drop l) (bif aQ h xs.length&&(bm l h||aQ l 0) then r else .no))
      |some _=>(fR env g 0).bind fun m=>bif aQ m h&&d.isSome then some (.list sz ((xs.take h).drop l) .uP) else none
     else none
    | .arr sz m off len lcap=>(fR env d len).bind fun h=>(fR env low 0).bind fun l=>
     bif aQ sz n&&bw l h&&bw h len&&g.isNone then some (.arr sz m (off+l*n) (h-l) (lcap-l)) else none
    |_=>none
  | .array len e=>(dI P e).bind fun n=>
    match x with
    | .ptr m off=>(fR env d len).bind fun h=>(fR env low 0).bind fun l=>(s.get mk m).bind fun
      | .cells cs=>bif bw l h&&bw h len&&g.isNone&&bm 0 (len*n)&&bw (off+len*n) cs.length then some (.arr n m (off+l*n) (h-l) (len-l)) else none
      |_=>none
    |_=>none
  |_=>none
def bc(a b:Int):Bool:=decide (a<b)
def cr(a b:Int):Bool:=decide (a<=b)
def an(a b:Int):Bool:=a==b
def leBytes:List UInt8->List UInt8->Bool:=fun x y=>fN x y||x==y
def xF:aa->aa->Bool
 | .bool a,.bool b=>a==b
 | .int k a,.int k' b=>k==k'&&an a b
 | .str a,.str b=>a==b
 |_,_=>false
def wI:List aa->List aa->Bool
 | [],[]=>true
 |a::x,b::y=>xF a b&&wI x y
 |_,_=>false
def tI:aa->aa->Bool
 | .agg a,.agg b=>wI a b
 |x,y=>xF x y
def Cg(rec:TypeId->aa->aa->Option Bool)(xs ys:List aa):List Field->Option Bool
 | []=>some true
 |f::fs=>bif f.name== "_" then Cg rec xs ys fs else
  (js P f.type xs f.offset).bind fun a=>(js P f.type ys f.offset).bind fun b=>(rec f.type a b).bind fun r=>
   bif r then Cg rec xs ys fs else some false
def EA(d:TypeId->aa->aa->Option Bool)(e:TypeId)(n:Nat)(xs ys:List aa):Nat->Nat->Option Bool
 |0,_=>some true
 |k+1,i=>(js P e xs (i*n)).bind fun a=>(js P e ys (i*n)).bind fun b=>(d e a b).bind fun r=>
   bif r then EA d e n xs ys k (i+1) else some false
def kI:Nat->TypeId->aa->aa->Option Bool
 |0,_,_,_=>none
 |d+1,t,x,y=>(P.underlying t).bind fun D=>match D,x,y with
  | .bool,.bool a,.bool b=>some (a==b)
  | .int _,.int k a,.int k' b=>bif k==k' then some (an a b) else none
  | .string,.str a,.str b=>some (a==b)
  | .struct fs,.agg xs,.agg ys=>bif P.stoodInHeld t then none else Cg P (kI d) xs ys fs.toList
  | .array len e,.agg xs,.agg ys=>(dI P e).bind fun n=>EA P (kI d) e n xs ys len 0
  | .slice _,.oZ,.oZ=>some true
  | .slice _,.oZ,.list _ _ _=>some false
  | .slice _,.list _ _ _,.oZ=>some false
  | .slice _,.oZ,.arr _ _ _ _ _=>some false
  | .slice _,.arr _ _ _ _ _,.oZ=>some false
  | .map _ _,.nilm,.nilm=>some true
  | .map _ _,.nilm,.map _=>some false
  | .map _ _,.map _,.nilm=>some false
  | .func _ _ _,.nilf,.nilf=>some true
  | .func _ _ _,.nilf,.func _ _ _=>some false
  | .func _ _ _,.func _ _ _,.nilf=>some false
  | .pointer _,.nilp,.nilp=>some true
  | .pointer _,.nilp,.ptr _ _=>some false
  | .pointer _,.ptr _ _,.nilp=>some false
  |_,_,_=>none
def wP(t:TypeId)(x y:aa):Option Bool:=
 match x,y with
 | .agg _,.agg _=>bif P.eqGuardType P.depth t then none else kI P 8 t x y
 |_,_=>kI P 8 t x y
def Fx(rec:TypeId->aa->Bool)(xs:List aa):List Field->Bool
 | []=>true
 |f::fs=>bif f.name== "_" then Fx rec xs fs else
  match js P f.type xs f.offset with
  |some a=>rec f.type a&&Fx rec xs fs
  |none=>false
def Jy(d:TypeId->aa->Bool)(e:TypeId)(n:Nat)(xs:List aa):Nat->Nat->Bool
 |0,_=>true
 |k+1,i=>match js P e xs (i*n) with
  |some a=>d e a&&Jy d e n xs k (i+1)
  |none=>false
def yP:Nat->TypeId->aa->Bool
 |0,_,_=>false
 |d+1,t,x=>match P.underlying t,x with
  |some .bool,.bool _=>true
  |some (.int _),.int _ _=>true
  |some .string,.str _=>true
  |some (.struct fs),.agg xs=>Fx P (yP d) xs fs.toList
  |some (.array len e),.agg xs=>match dI P e with
   |some n=>Jy P (yP d) e n xs len 0
   |none=>false
  |_,_=>false
def Ic(op:BinOp)(k:IntKind)(a b:Int):Option aa:=
 match op with
 | .add=>some (.int k (k.wrap (a+b)))
 | .sub=>some (.int k (k.wrap (a-b)))
 | .mul=>some (.int k (k.wrap (a*b)))
 | .quo=>bif an b 0 then none else some (.int k (k.wrap (a.tdiv b)))
 | .rem=>bif an b 0 then none else some (.int k (a.tmod b))
 | .and=>some (.int k (k.wrap ((BitVec.ofInt k.bits a) &&& (BitVec.ofInt k.bits b)).toNat))
 | .or=>some (.int k (k.wrap ((BitVec.ofInt k.bits a) ||| (BitVec.ofInt k.bits b)).toNat))
 | .xor=>some (.int k (k.wrap ((BitVec.ofInt k.bits a) ^^^ (BitVec.ofInt k.bits b)).toNat))
 | .andNot=>some (.int k (k.wrap ((BitVec.ofInt k.bits a) &&& ~~~(BitVec.ofInt k.bits b)).toNat))
 | .eql=>some (.bool (an a b))
 | .neq=>some (.bool (!an a b))
 | .lss=>some (.bool (bc a b))
 | .leq=>some (.bool (cr a b))
 | .gtr=>some (.bool (bc b a))
 | .geq=>some (.bool (cr b a))
 |_=>none
def Qt(op:BinOp)(a b:List UInt8):Option aa:=
 match op with
 | .add=>bif bw (a.length+b.length) 1073741824 then some (.str (a++b)) else none
 | .eql=>some (.bool (a==b))
 | .neq=>some (.bool (!(a==b)))
 | .lss=>some (.bool (fN a b))
 | .leq=>some (.bool (leBytes a b))
 | .gtr=>some (.bool (!leBytes a b))
 | .geq=>some (.bool (!fN a b))
 |_=>none
def eB(op:BinOp)(t:TypeId)(x y:aa):Option aa:=
 match x,y with
 | .int k a,.int k' b=>match op with
   | .shl=>bif bc b 0 then none else some (.int k (k.wrap (a*2 ^ (min b.toNat k.bits))))
   | .shr=>bif bc b 0 then none else some (.int k (a.fdiv (2 ^ (min b.toNat k.bits))))
   |_=>bif k==k' then Ic op k a b else none
 | .str a,.str b=>Qt op a b
 |x,y=>match op with
  | .eql=>(wP P t x y).bind fun b=>some (.bool b)
  | .neq=>(wP P t x y).bind fun b=>some (.bool (!b))
  |_=>none
def Bq(op:UnOp)(x:aa):Option aa:=
 match op,x with
 | .neg,.int k n=>some (.int k (k.wrap (0-n)))
 | .not,.bool b=>some (.bool !b)
 |_,_=>none
def uW(g dst:TypeId)(x:aa):Option aa:=
 (P.underlying g).bind fun _=>(P.underlying dst).bind fun d=>match d,x with
  | .int k,.int _ n=>some (.int k (k.wrap n))
  | .string,.str s=>some (.str s)
  |_,_=>none
def nK(kt:TypeId)(k:aa):List dK->Nat->Option (Option (Nat×dK))
 | [],_=>some none
 |e::es,i=>(kI P 8 kt k e.key).bind fun b=>bif b then some (some (i,e)) else nK kt k es (i+1)
def lP(t:TypeId)(k:aa):Option (TypeId×TypeId):=
 (P.underlying t).bind fun
  | .map kt e=>bif yP P 8 kt k then some (kt,e) else none
  |_=>none
def AZ(kt:TypeId)(m k:aa)(s:St):Option (Option (Nat×dK)):=
 match m with
 | .nilm=>some none
 | .map n=>(s.get mk n).bind fun
   | .map es _=>nK P kt k es 0
   | .fix (.map es _)=>nK P kt k es 0
   |_=>none
 |_=>none
def ou(t:TypeId)(m k:aa)(d:Bool)(s:St):Option aa:=
 (lP P t k).bind fun g=>(eV P g.2).bind fun z=>(AZ P mk g.1 m k s).bind fun
  |some x=>some (bif d then .tup [x.2.val,.bool true] else x.2.val)
  |none=>some (bif d then .tup [z,.bool false] else z)
def qZ(t:TypeId)(m k v:aa)(s:St):Option St:=
 (lP P t k).bind fun d=>match m with
  | .map n=>(s.get mk n).bind fun
    | .map es clock=>(nK P d.1 k es 0).bind fun
      |some x=>bif tI x.2.key k then some (s.put n (some (.map (es.set x.1 ⟨k,v,x.2.born⟩) clock))) else none
      |none=>some (s.put n (some (.map (es++[⟨k,v,clock⟩]) (clock+1))))
    |_=>none
  |_=>none
def rS(t:TypeId)(m k:aa)(s:St):Option (aa×St):=
 (lP P t k).bind fun d=>(eV P d.2).bind fun z=>match m with
  | .map n=>(s.get mk n).bind fun
    | .map es clock=>(nK P d.1 k es 0).bind fun
      |some x=>bif tI x.2.key k then some (.tup [x.2.val,.int .i64 x.2.born],s.put n (some (.map (es.set x.1 ⟨k,x.2.val,x.2.born⟩) clock))) else none
      |none=>some (.tup [z,.int .i64 clock],s.put n (some (.map (es++[⟨k,z,clock⟩]) (clock+1))))
    |_=>none
  |_=>none
def zD(b:Nat)(v:aa):List dK->Option (List dK)
 | []=>none
 |e::es=>bif aQ e.born b then some (⟨e.key,v,e.born⟩::es) else(zD b v es).bind fun r=>some (e::r)
def u4(m d v:aa)(s:St):Option St:=
 (dS d).bind fun b=>match m with
  | .map n=>(s.get mk n).bind fun
    | .map es clock=>(zD b v es).bind fun g=>some (s.put n (some (.map g clock)))
    |_=>none
  |_=>none
def t5(t:TypeId)(x:aa)(s:St):Option (aa×St):=
 (P.underlying t).bind fun
  | .map _ _=>match x with
    | .nilm=>some (.ptr s.aL 0,s.new (.iter none 0 [] 0))
    | .map m=>(s.get mk m).bind fun
      | .map _ clock=>some (.ptr s.aL 0,s.new (.iter (some m) clock [] clock))
      |_=>none
    |_=>none
  |_=>none
def mF(seen:List Nat)(es:List dK):List dK:=es.filter (fun e=> !seen.any (aQ e.born))
def vP(n m since clock:Nat)(seen:List Nat)(e:dK)(s:St):aa×St:=
 (.tup [.bool true,e.key,e.val],s.put n (some (.iter (some m) since (seen++[e.born]) clock)))
def tP(n m since:Nat)(seen:List Nat)(clock:Nat)(l:List dK)(s:St):Option (aa×St):=
 match l with
 | []=>some (.tup [.bool false],s)
 |e::r=>bif(e::r).all (fun e=>bm e.born since) then
   match r with
   | []=>some (vP n m since clock seen e s)
   |_::_=>bif bw (e::r).length (kmax s.ci) then
     ((e::r)[ch s.ci % (e::r).length]?).bind fun e=>some ((vP n m since clock seen e s).1, { (vP n m since clock seen e s).2 with ci:=s.ci+1 })
    else none
  else none
def pn(it:aa)(d:Bool)(s:St):Option (aa×St):=
 match it with
 | .ptr n 0=>(s.get mk n).bind fun
   | .iter none _ _ _=>bif d then none else some (.tup [.bool false],s)
   | .iter (some m) since seen stepped=>bif d then none else(s.get mk m).bind fun
     | .map es clock=>bif !seen.isEmpty&& !es.isEmpty&&es.all (fun e=>bw stepped e.born) then none
       else tP ch kmax n m since seen clock (mF seen es) s
     |_=>none
   |_=>none
 |_=>none
def Az(b:Nat):List dK->Option dK
 | []=>none
 |e::es=>bif aQ e.born b then some e else Az b es
def wO(it:aa)(s:St):Option aa:=
 match it with
 | .ptr n 0=>(s.get mk n).bind fun
   | .iter (some m) _ seen stepped=>(s.get mk m).bind fun
     | .map es clock=>bif aQ clock stepped then
      (seen.getLast?).bind fun b=>(Az b es).bind fun e=>some (.tup [e.key,e.val])
       else none
     |_=>none
   |_=>none
 |_=>none
def ow(t:TypeId)(l c:aa)(mu:Bool)(s:St):Option (aa×St):=
 (lV P t).bind fun E=>(dS l).bind fun l=>(dS c).bind fun c=>
  bif bw l c&&bw (c*E.b) 1099511627776&&bw c 1099511627776 then
   bif aQ l 0&& !mu then some (.list E.n [] (.own s.aL),s.new .tok)
   else some (.arr E.n s.aL 0 l l,s.new (.cells (aZ E.z.cells l)))
  else none
def eE(d:Bool)(n:Nat)(x:aa)(s:St):Option (List aa):=
 match x with
 | .oZ=>some []
 | .list sz xs _=>bif aQ sz n then some xs else none
 | .arr sz m off len _=>bif aQ sz n then(s.get mk m).bind fun
   | .cells cs=>(cut cs off (len*n)).bind fun c=>bf d n len c
   |_=>none
   else none
 |_=>none
def jc(need d:Nat):Bool:=bw ((need*2+1024)*d) 140737488355328
def kL(E:EI)(mu:Bool)(xs:List aa)(s:St):Option (aa×St):=
 bif jc xs.length E.b then
  bif mu then some (.arr E.n s.aL 0 xs.length xs.length,s.new (.cells (aF xs)))
  else some (.list E.n xs (.own s.aL),s.new .tok)
 else none
def jG(E:EI)(x:aa)(ys:List aa)(mu:Bool)(s:St):Option (aa×St):=
 match x with
 | .oZ=>kL E mu ys s
 | .list sz xs .uP=>bif aQ sz E.n then kL E mu (xs++ys) s else none
 | .list sz xs (.own k)=>(s.get mk k).bind fun
   | .tok=>bif jc (xs.length+ys.length) E.b&&aQ sz E.n then some (.list E.n (xs++ys) (.own s.aL),(s.put k none).new .tok) else none
   |_=>none
 | .arr sz m off len lcap=>(s.get mk m).bind fun
   | .cells cs=>bif jc (len+ys.length) E.b&&aQ sz E.n then
    bif aQ (off+len*E.n) cs.length then
     some (.arr E.n s.aL 0 (len+ys.length) (len+ys.length),(s.put m none).new (.cells (cs.drop off++aF ys)))
    else bif bw (len+ys.length) lcap then
     (fL cs (off+len*E.n) (aF ys)).bind fun cs'=>some (.arr E.n m off (len+ys.length) lcap,s.put m (some (.cells cs')))
    else none
     else none
   |_=>none
 |_=>none
def yL:aa->Bool
 | .oZ=>true
 | .list _ _ _=>true
 | .arr _ _ _ _ _=>true
 |_=>false
def fF(t:TypeId)(x y:aa)(mu:Bool)(s:St):Option (aa×St):=
 (lV P t).bind fun E=>(eE mk E.g E.n y s).bind fun ys=>
  match ys with
  | []=>bif yL x then some (x,s) else none
  |_::_=>jG mk E x ys mu s
def rC(t:TypeId)(x y:aa)(s:St):Option (aa×St):=
 (lV P t).bind fun E=>(eE mk E.g E.n y s).bind fun ys=>
  match x with
  | .oZ=>some (.int .i64 0,s)
  | .list _ [] _=>some (.int .i64 0,s)
  | .arr sz m off len _=>bif aQ sz E.n then(s.get mk m).bind fun
    | .cells cs=>(fL cs off (aF (ys.take len))).bind fun cs'=>some (.int .i64 (ys.take len).length,s.put m (some (.cells cs')))
    |_=>none
    else none
  |_=>none
def jo(t:TypeId)(x:aa)(s:St):Option aa:=
 (P.underlying t).bind fun d=>match d,x with
  | .string,.str b=>some (.int .i64 b.length)
  | .array n _,_=>some (.int .i64 n)
  | .slice _,.oZ=>some (.int .i64 0)
  | .slice _,.list _ xs _=>some (.int .i64 xs.length)
  | .slice _,.arr _ _ _ len _=>some (.int .i64 len)
  | .map _ _,.nilm=>some (.int .i64 0)
  | .map _ _,.map n=>(s.get mk n).bind fun
    | .map es _=>some (.int .i64 es.length)
    |_=>none
  |_,_=>none
def uT(t:TypeId)(x:aa)(s:St):Option St:=
 match x with
 | .nilm=>some s
 | .oZ=>some s
 | .map n=>(s.get mk n).bind fun
   | .map _ clock=>some (s.put n (some (.map [] clock)))
   |_=>none
 | .list _ [] _=>some s
 | .arr sz m off len _=>bif aQ len 0 then some s else(lV P t).bind fun E=>
   bif aQ sz E.n then(s.get mk m).bind fun
    | .cells cs=>(fL cs off (aZ E.z.cells len)).bind fun cs'=>some (s.put m (some (.cells cs')))
    |_=>none
   else none
 |_=>none
def tM(isMax:Bool):aa->List aa->Option aa
 | .int k a,[]=>some (.int k a)
 | .int k a,.int k' b::l=>bif k==k' then tM isMax (.int k (bif isMax then bif bc a b then b else a else bif bc b a then b else a)) l else none
 | .str a,[]=>some (.str a)
 | .str a,.str b::l=>tM isMax (.str (bif isMax then bif fN a b then b else a else bif leBytes a b then a else b)) l
 |_,_=>none
def rN(t:TypeId):Bool:=
 match P.underlying t with
 |some (.slice _)=>true
 |_=>false
def jH(b:Builtin)(d:List TypeId)(mu:Bool)(args:List aa)(s:St):Option (aa×St):=
 match b,d,args with
 | .len,[t],[x]=>(jo P mk t x s).bind fun v=>some (v,s)
 | .append,[t,t2],[x,y]=>bif rN P t2 then fF P mk t x y mu s else none
 | .copy,[t,_],[x,y]=>rC P mk t x y s
 | .clear,[t],[x]=>(P.underlying t).bind fun _=>(uT P mk t x s).bind fun s'=>some (.tup [],s')
 | .min,_,x::l=>(tM false x l).bind fun v=>some (v,s)
 | .max,_,x::l=>(tM true x l).bind fun v=>some (v,s)
 |_,_,_=>none
def rz(h:Nat)(dst:Option Tmp)(cs:List aa)(loc:Loc)(s:St):Option (aa×Loc×St):=
 bif aQ h 1 then dst.bind fun t=>some (.rd t (loc.gen t+1) 0,loc.set t (loc.gen t+1) cs,s)
 else some (.ptr s.aL 0,loc,s.new (.cells cs))
def fT(x:Option aa)(l:Loc)(s:St):Option (aa×Loc×St):=x.bind fun a=>some (a,l,s)
def gW(x:Option (aa×St))(l:Loc):Option (aa×Loc×St):=x.bind fun r=>some (r.1,l,r.2)
def nW(x:Option St)(l:Loc):Option (aa×Loc×St):=x.bind fun s=>some (gM,l,s)
def pg(hint:Tmp->Nat):Option Tmp->Nat
 |some t=>hint t
 |none=>0
def Bb(env:ax)(c a b:Operand):Option aa:=
 (ev env c).bind fun
  | .bool true=>ev env a
  | .bool false=>ev env b
  |_=>none
def y8(loc:Loc):aa->Option aa
 | .rd a g b=>bif aQ (loc.gen a) g then some (.rd a g b) else none
 | .ptr a b=>some (.ptr a b)
 | .ro c=>some (.ro c)
 | .func (.func f) a b=>some (.func (.func f) a b)
 |_=>none
def fh(i:Nat):aa->Option aa
 | .tup l=>l[i]?
 |_=>none
def rR(env:ax)(fn:Fn)(first captured:Array Operand):Option aa:=
 match fn with
 | .func f=>(evcs env first.toList).bind fun a=>(evcs env captured.toList).bind fun b=>some (.func (.func f) a b)
 |_=>none
def m7(t:TypeId)(env:ax)(r:Option Operand)(s:St):Option (aa×St):=
 match r with
 |none=>some (.map s.aL,s.new (.map [] 0))
 |some x=>(P.underlying t).bind fun
  | .map _ _=>(ev env x).bind fun
    | .int _ _=>some (.map s.aL,s.new (.map [] 0))
    |_=>none
  |_=>none
def JQ(hint:Tmp->Nat)(dst:Option Tmp)(e:TypeId)(fr:Fr)(s:St):Option (aa×Loc×St):=
 (eV P e).bind fun z=>rz (pg hint dst) dst z.cells fr.loc s
def JS(hint:Tmp->Nat)(dst:Option Tmp)(x:Operand)(fr:Fr)(s:St):Option (aa×Loc×St):=
 (evc fr.env x).bind fun a=>rz (pg hint dst) dst a.cells fr.loc s
def C7(t:TypeId)(a:Operand)(fr:Fr)(s:St):Option (aa×Loc×St):=
 (ev fr.env a).bind fun a=>fT (mr P mk t a fr.loc s) fr.loc s
def C8(t:TypeId)(a x:Operand)(fr:Fr)(s:St):Option (aa×Loc×St):=
 (ev fr.env a).bind fun a=>(evc fr.env x).bind fun x=>(ui P mk t a x fr.loc s).bind fun r=>some (gM,r.1,r.2)
def JR(op:BinOp)(t:TypeId)(x y:Operand)(fr:Fr)(s:St):Option (aa×Loc×St):=
 (evc fr.env x).bind fun x=>(evc fr.env y).bind fun y=>fT (eB P op t x y) fr.loc s
def FY(t:TypeId)(m k x:Operand)(fr:Fr)(s:St):Option (aa×Loc×St):=
 (evc fr.env m).bind fun m=>(evc fr.env k).bind fun k=>(evc fr.env x).bind fun x=>nW (qZ P mk t m k x s) fr.loc
def JV(t:TypeId)(x i:Operand)(d:Bool)(fr:Fr)(s:St):Option (aa×Loc×St):=
 (evc fr.env x).bind fun x=>(evc fr.env i).bind fun i=>fT (ou P mk t x i d s) fr.loc s
def JW(hint:Tmp->Nat)(dst:Option Tmp)(t:TypeId)(l c:Operand)(fr:Fr)(s:St):Option (aa×Loc×St):=
 (ev fr.env l).bind fun l=>(ev fr.env c).bind fun c=>gW (ow P t l c (aQ (pg hint dst) 2) s) fr.loc
def C6(t:TypeId)(x i:Operand)(fr:Fr)(s:St):Option (aa×Loc×St):=
 (ev fr.env x).bind fun x=>(ev fr.env i).bind fun i=>fT (ja P fr.loc t x i) fr.loc s
def JU(t:TypeId)(x i:Operand)(fr:Fr)(s:St):Option (aa×Loc×St):=
 (evc fr.env x).bind fun x=>(ev fr.env i).bind fun i=>fT (AM P t x i) fr.loc s
def JX(t:TypeId)(m k:Operand)(fr:Fr)(s:St):Option (aa×Loc×St):=
 (evc fr.env m).bind fun m=>(evc fr.env k).bind fun k=>gW (rS P mk t m k s) fr.loc
def JT(m d x:Operand)(fr:Fr)(s:St):Option (aa×Loc×St):=
 (evc fr.env m).bind fun m=>(evc fr.env d).bind fun d=>(evc fr.env x).bind fun x=>nW (u4 mk m d x s) fr.loc
def vu(hint:Tmp->Nat)(dst:Option Tmp)(c:Call)(fr:Fr)(s:St):Option (aa×Loc×St):=
 match c.callee with
 | .builtin b=>(evcs fr.env c.args.toList).bind fun d=>gW (jH P mk b c.argTypes.toList (aQ (pg hint dst) 2) d s) fr.loc
 |_=>none
def qT(x:Operand)(g:aa->Option aa)(fr:Fr)(s:St):Option (aa×Loc×St):=
 (ev fr.env x).bind fun a=>fT (g a) fr.loc s
def m8(x:Operand)(g:aa->Option aa)(fr:Fr)(s:St):Option (aa×Loc×St):=
 (evc fr.env x).bind fun a=>fT (g a) fr.loc s
def mi(hint:Tmp->Nat)(dst:Option Tmp)(op:Op)(fr:Fr)(s:St):Option (aa×Loc×St):=
 match op with
 | .move x=>fT (ev fr.env x) fr.loc s
 | .assign x=>fT (ev fr.env x) fr.loc s
 | .pick c a b=>fT (Bb fr.env c a b) fr.loc s
 | .alloc e=>JQ P hint dst e fr s
 | .box _ x=>JS hint dst x fr s
 | .build t parts=>fT (ta P t parts.toList fr.env) fr.loc s
 | .buildSlice t len parts=>gW (bj P t len parts.toList (aQ (pg hint dst) 2) fr.env s) fr.loc
 | .load t a=>C7 P mk t a fr s
 | .store t a x=>C8 P mk t a x fr s
 | .nilCheck x=>qT x (y8 fr.loc) fr s
 | .binOp op t x y _=>JR P op t x y fr s
 | .unOp op _ x=>m8 x (Bq op) fr s
 | .convert src dst x=>m8 x (uW P src dst) fr s
 | .makeFunc fn first captured=>fT (rR fr.env fn first captured) fr.loc s
 | .makeMap t r=>gW (m7 P t fr.env r s) fr.loc
 | .makeSlice t l c=>JW P hint dst t l c fr s
 | .slice t x lo hi mx=>m8 x (fun x=>jE P mk t x lo hi mx fr.env s) fr s
 | .fieldAddr t x f=>qT x (fun x=>tl P fr.loc t x f) fr s
 | .field t x f=>m8 x (fun x=>yD P t x f) fr s
 | .indexAddr t x i=>C6 P t x i fr s
 | .index t x i=>JU P t x i fr s
 | .lookup t x i ok=>JV P mk t x i ok fr s
 | .mapUpdate t m k x=>FY P mk t m k x fr s
 | .insert t m k x=>FY P mk t m k x fr s
 | .mapEntry t m k=>JX P mk t m k fr s
 | .entryStore _ m st x=>JT mk m st x fr s
 | .range t x=>(evc fr.env x).bind fun x=>gW (t5 P mk t x s) fr.loc
 | .next d isString=>(evc fr.env d).bind fun d=>gW (pn mk ch kmax d isString s) fr.loc
 | .entry d=>m8 d (fun d=>wO mk d s) fr s
 | .extract x i=>qT x (fh i) fr s
 | .call c=>vu P mk hint dst c fr s
 |_=>none
end
def callee(env:ax)(c:Call):Option (FuncId×List aa):=
 match c.callee with
 | .value f=>(ev env f).bind fun
   | .func (.func f) first captured=>(evcs env c.args.toList).bind fun d=>some (f,first++(d++captured))
   |_=>none
 |_=>none
inductive dt where
 |all
 |obj (n:Nat)
 |loc (t:Nat)
 |none
 deriving Inhabited
def AB(env:ax)(a:Operand):dt:=
 match ev env a with
 |some (.rd t _ _)=>.loc t
 |some (.ptr n _)=>.obj n
 |some (.ro _)=>.none
 |_=>.all
def ve(env:ax)(a:Operand):dt:=
 match ev env a with
 |some (.rd t _ _)=>.loc t
 |_=>.none
def EE(hint:Tmp->Nat)(dst:Option Tmp):dt:=
 match dst with
 |some t=>bif aQ (hint t) 1 then .loc t else .none
 |none=>.none
def cu(hint:Tmp->Nat)(dst:Option Tmp)(env:ax):Op->dt
 | .load _ a=>AB env a
 | .store _ a _=>AB env a
 | .fieldAddr _ x _=>ve env x
 | .indexAddr _ x _=>ve env x
 | .nilCheck x=>ve env x
 | .move _| .assign _| .pick .. | .build .. | .field .. | .index .. | .binOp .. | .unOp .. | .convert .. | .makeFunc .. | .extract .. =>.none
 | .slice _ x _ _ _=>match ev env x with
   |some (.ptr n _)=>.obj n
   |_=>.none
 | .alloc _=>EE hint dst
 | .box _ _=>EE hint dst
 | .buildSlice .. | .makeMap .. | .makeSlice .. =>.none
 | .call {callee:=.builtin .min, .. }=>.none
 | .call {callee:=.builtin .max, .. }=>.none
 | .call {callee:=.builtin .len,args, .. }=>match args[0]? with
   |some x=>match ev env x with
    |some (.map _)=>.all
    |_=>.none
   |none=>.none
 |_=>.all
def isStore:Op->Bool
 | .store .. =>true
 | .alloc _=>true
 | .box _ _=>true
 |_=>false
def dt.meets:dt->dt->Bool
 | .none,_=>false
 |_,.none=>false
 | .all,.all=>true
 | .all,.obj _=>true
 | .obj _,.all=>true
 | .obj n,.obj m=>aQ n m
 | .loc t,.loc u=>aQ t u
 |_,_=>false
structure fZ where
 i:Nat
 c0:Nat
 c1:Nat
 foot:dt
 loud:Bool
 deriving Inhabited
inductive Rd where
 |ret (v:Option aa)
 |ask (n:Nat) (k:aR->Rd)
def gm(g:Nat->Option aR):Rd->Option aa
 | .ret v=>v
 | .ask n k=>(g n).bind fun o=>gm g (k o)
abbrev pH:=Option (Nat×(List aa->Rd))
def t6(x:Option (List aa)):Rd:=.ret (x.bind fun l=>some (.agg l))
structure aH where
 P:Program
 hint:FuncId->Tmp->Nat
 spec:FuncId->Option (List aa->Option aa)
 ch:Nat->Nat
 kmax:Nat->Nat
 specH:FuncId->Option (List aa->Rd):=fun _=>none
 specW:FuncId->Option (List aa->Option pH):=fun _=>none
 anew:FuncId->Bool:=fun _=>false
def fK(ops:Array Oper)(env:ax)(o:Oper):Bool:=
 match o.guard with
 |none=>true
 |some (j,want)=>match(ops[j]?).bind (·.dst) with
  |some d=>match ac env d with
   | .bool b=>b==want
   |_=>false
  |none=>false
def di(fr:Fr)(dst:Option Tmp)(v:aa)(loc:Loc):Option Fr:=
 match dst with
 |some d=>bif bm d fr.size then some ⟨fr.env.set d (some v),fr.size,loc⟩ else none
 |none=>some ⟨fr.env,fr.size,loc⟩
def arI:Operand->Option Nat
 | .tmp t=>some t
 |_=>none
def AY(ops:Array Oper)(o:Oper):List Nat:=
 o.op.operands.toList.filterMap arI++(match o.guard with
  |some (g,_)=>match(ops[g]?).bind (·.dst) with|some d=>[d]|none=>[]
  |none=>[])
def Ew(ops:Array Oper)(x y:Oper):Bool:=
 (match x.dst with
  |some d=> !(AY ops y).any (aQ d)&&(match y.dst with|some e=> !aQ d e|none=>true)
  |none=>true)&&
 (match y.dst with
  |some d=> !(AY ops x).any (aQ d)
  |none=>true)
def Hs(ops:Array Oper)(x:Oper)(i:Nat):List Oper->List Nat->Bool
 | [],_=>true
 |y::l,bs=>((bs.headD 0).testBit i||Ew ops x y)&&Hs ops x i l bs.tail
def oa(ops:Array Oper):Nat->List Oper->List Nat->Bool
 |_,[],_=>true
 |i,x::l,bs=>x.after.toList.all (fun e=> !Region.binds .any e||bm e.on i)&&(Hs ops x i l bs.tail&&oa ops (i+1) l bs.tail)
def jp(bi:Nat)(rs:List fZ)(mk:aK):aK:=
 match rs with
 | []=>mk
 |r::rs=>bif bi.testBit r.i||aQ r.c0 r.c1 then jp bi rs mk else(r.c0,r.c1)::jp bi rs mk
def pS(bi:Nat)(foot:dt)(loud:Bool)(rs:List fZ):Bool:=
 rs.all fun r=>bi.testBit r.i|| !((loud||r.loud)&&foot.meets r.foot)
section
variable(Q:aH)
def Kk(mk:aK)(fr:Fr)(s:St):ResultVar->Option aa
 | .tmp t=>evc fr.env (.tmp t)
 | .cell a t=>mr Q.P mk t (ac fr.env a) fr.loc s
def jt(mk:aK)(fr:Fr)(s:St):List ResultVar->Option (List aa)
 | []=>some []
 |r::l=>(Kk Q mk fr s r).bind fun v=>(jt mk fr s l).bind fun vs=>bif v.ge then some (v::vs) else none
def nT:List aa->aa
 | [v]=>v
 |vs=>.tup vs
structure oU where
 ops:FuncId->Array Oper->aK->List Oper->Fr->St->Option (Fr×St)
 draw:FuncId->Array Oper->List Nat->aK->List fZ->Nat->List Oper->Fr->St->Option (Fr×St)
 code:FuncId->Code->aK->Fr->St->Option (Ex×Fr×St)
 call:FuncId->List aa->aK->St->Option (aa×St)
def oU.none:oU:=⟨fun _ _ _ _ _ _=>.none,fun _ _ _ _ _ _ _ _ _=>.none,fun _ _ _ _ _=>.none,fun _ _ _ _=>.none⟩
variable(r:oU)
def pN(c:Call)(mk:aK)(fr:Fr)(s:St):Option (aa×Loc×St):=
 (callee fr.env c).bind fun g=>(r.call g.1 g.2 mk s).bind fun v=>some (v.1,fr.loc,v.2)
def Gz:List Tmp->List aa->ax->Option ax
 | [],[],e=>some e
 |t::ts,v::vs,e=>Gz ts vs (e.set t (some v))
 |_,_,_=>none
def Bu(f:FuncId)(env:ax)(size:Nat)(ps:List Tmp)(a b:Code):Ex×Fr×St->Option (aa×aR×St)
 |(.normal,_,s)=>some (.bool true,.loop f env size ps a b none,s)
 |(x,_,s)=>some (.bool false,.loop f env size ps a b (some x),s)
def zL(f:FuncId)(env:ax)(size:Nat)(ps:List Tmp)(a b:Code)(mk:aK):Ex×Fr×St->Option (aa×aR×St)
 |(.normal,fr,s)=>(r.code f b mk fr s).bind (Bu f env size ps a b)
 |_=>none
def Bv(o:aR)(args:List aa)(mk:aK)(s:St):Option (aa×aR×St):=
 match o with
 | .loop f env size ps a b none=>bif ps.all (fun t=>bm t size) then
  (Gz ps args env).bind fun d=>(r.code f a mk ⟨d,size,[]⟩ s).bind (zL r f env size ps a b mk)
   else none
 |_=>none
def nq(n:Nat)(args:List aa)(mk:aK)(s:St):Option (aa×St):=
 (s.get mk n).bind fun o=>(Bv r o args mk (s.put n none)).bind fun x=>some (x.1,x.2.2.put n (some x.2.1))
def yieldee(env:ax)(c:Call):Option (Nat×List aa):=
 match c.callee with
 | .value f=>(ev env f).bind fun
   | .yld n=>(evcs env c.args.toList).bind fun d=>some (n,d)
   |_=>none
 |_=>none
def su(c:Call)(mk:aK)(fr:Fr)(s:St):Option (aa×Loc×St):=
 (yieldee fr.env c).bind fun g=>(nq r g.1 g.2 mk s).bind fun v=>some (v.1,fr.loc,v.2)
def pj(env:ax)(c:Call):Bool:=
 match c.callee with
 | .value f=>match ev env f with
   |some (.yld _)=>true
   |_=>false
 |_=>false
def fS(f:FuncId)(o:Oper)(mk:aK)(fr:Fr)(s:St):Option (aa×Loc×St):=
 match o.op with
 | .call c=>match c.callee with
   | .builtin _=>vu Q.P mk (Q.hint f) o.dst c fr s
   |_=>bif pj fr.env c then su r c mk fr s else pN r c mk fr s
 |op=>mi Q.P mk Q.ch Q.kmax (Q.hint f) o.dst op fr s
def m9(f:FuncId)(all:Array Oper)(mk:aK)(l:List Oper)(fr:Fr)(s:St):Option (Fr×St):=
 match l with
 | []=>some (fr,s)
 |o::rest=>
  bif fK all fr.env o then
   (fS Q r f o mk fr s).bind fun x=>(di fr o.dst x.1 x.2.1).bind fun d=>r.ops f all mk rest d x.2.2
  else(di fr o.dst gM fr.loc).bind fun d=>r.ops f all mk rest d s
def St.rX(s s':St):St:=⟨s'.heap,s'.aL,bif bw s.gt s'.gt then s.gt else s'.gt,s'.ci⟩
def mQ(f:FuncId)(all:Array Oper)(bs:List Nat)(mk:aK)(rs:List fZ)(i:Nat)(l:List Oper)(fr:Fr)(s:St):Option (Fr×St):=
 match l with
 | []=>some (fr,s)
 |o::rest=>
  bif fK all fr.env o then
   (fS Q r f o (jp (bs.headD 0) rs mk) fr ⟨s.heap,s.aL,s.aL,s.ci⟩).bind fun x=>
    bif pS (bs.headD 0) (cu (Q.hint f) o.dst fr.env o.op) (bm x.2.2.gt s.aL||isStore o.op) rs&&aQ s.ci x.2.2.ci then
     (di fr o.dst x.1 x.2.1).bind fun d=>
      r.draw f all bs.tail mk (⟨i,s.aL,x.2.2.aL,cu (Q.hint f) o.dst fr.env o.op,bm x.2.2.gt s.aL||isStore o.op⟩::rs) (i+1) rest d (s.rX x.2.2)
    else none
  else(di fr o.dst gM fr.loc).bind fun d=>r.draw f all bs.tail mk rs (i+1) rest d s
def qd(f:FuncId)(b:Code)(mk:aK):Ex×Fr×St->Option (Ex×Fr×St)
 |(.normal,fr,s)=>r.code f b mk fr s
 |x=>some x
def Ca(f:FuncId)(a b:Code)(mk:aK)(fr:Fr)(s:St):aa->Option (Ex×Fr×St)
 | .bool true=>r.code f a mk fr s
 | .bool false=>r.code f b mk fr s
 |_=>none
def qz(id:Nat):Ex×Fr×St->Ex×Fr×St
 |(.exit i,fr,s)=>bif aQ i id then(.normal,fr,s) else(.exit i,fr,s)
 |x=>x
def Kh(f:FuncId)(ops:Array Oper)(draw:Bool)(mk:aK)(fr:Fr)(s:St):Option (Ex×Fr×St):=
 (bif draw then bif oa ops 0 ops.toList (Region.before ops).toList then r.draw f ops (Region.before ops).toList mk [] 0 ops.toList fr s else none
  else r.ops f ops mk ops.toList fr s).bind fun x=>some (.normal,x.1,x.2)
def dY:Code->Bool
 | .seq a b=>dY a&&dY b
 | .cond _ a b=>dY a&&dY b
 | .block _ a=>dY a
 | .loop a=>dY a
 | .scope _=>false
 | .rangeFunc _ _ a b=>dY a&&dY b
 |_=>true
def jY:aa->Bool
 | .rd _ _ _=>false
 |_=>true
def Gg:Option Ex->Ex
 |none=>.normal
 |some x=>x
def Be(mk:aK)(n:Nat)(fr:Fr)(s:St):Option (Ex×Fr×St):=
 (s.get mk n).bind fun
  | .loop _ _ _ _ _ _ p=>some (Gg p,fr,s.put n none)
  |_=>none
def tz(P:Program)(h:FuncId):Bool:=
 match P.funcs[h]? with
 |some d=>d.body.isSome
 |none=>false
def xC(f:FuncId)(ps:List Tmp)(a b:Code)(mk:aK)(fr:Fr)(s:St):aa->Option (Ex×Fr×St)
 | .func (.func h) first captured=>bif tz Q.P h&&(fr.env.all jY&&(dY a&&dY b)) then
  (r.call h (first++(.yld s.aL::captured)) mk (s.new (.loop f fr.env fr.size ps a b none))).bind fun x=>Be mk s.aL fr x.2
   else none
 |_=>none
def yx(f:FuncId)(c:Code)(mk:aK)(fr:Fr)(s:St):Option (Ex×Fr×St):=
 match c with
 | .skip=>some (.normal,fr,s)
 | .label _=>some (.normal,fr,s)
 | .ret=>some (.ret,fr,s)
 | .exit id=>some (.exit id,fr,s)
 | .seq a b=>(r.code f a mk fr s).bind (qd r f b mk)
 | .cond x a b=>(ev fr.env x).bind (Ca r f a b mk fr s)
 | .block id b=>(r.code f b mk fr s).bind fun x=>some (qz id x)
 | .scope b=>r.code f b mk fr s
 | .loop b=>(r.code f b mk fr s).bind (qd r f (.loop b) mk)
 | .region _ ops draw=>Kh r f ops draw mk fr s
 | .rangeFunc g ps a b=>(ev fr.env g).bind (xC Q r f ps.toList a b mk fr s)
 |_=>none
def qD(fn:Func)(mk:aK):Ex×Fr×St->Option (aa×St)
 |(.exit _,_,_)=>none
 |(_,fr,s)=>(jt Q mk fr s fn.results.toList).bind fun vs=>some (nT vs,s)
def Ea(d:Bool)(s:St)(n:Nat):aa->Option (aa×St)
 | .agg cs=>some (.tup [],s.put n (some (.cells cs)))
 | .tup [.arr sz _ _ len _,.agg cs]=>bif d then some (.arr sz s.aL 0 len len,(s.put n none).new (.cells cs)) else none
 |_=>none
def Dl(d:Bool)(mk:aK)(s:St)(p:Nat×(List aa->Rd)):aR->Option (aa×St)
 | .cells cs=>(gm (s.get mk) (p.2 cs)).bind (Ea d s p.1)
 |_=>none
def xz(d:Bool)(mk:aK)(s:St):pH->Option (aa×St)
 |none=>some (.tup [],s)
 |some p=>(s.get mk p.1).bind (Dl d mk s p)
def jU(f:FuncId)(args:List aa)(mk:aK)(s:St):Option (aa×St):=
 match Q.spec f with
 |some sp=>(sp args).bind fun v=>some (v,s)
 |none=>match Q.specH f with
  |some sp=>(gm (s.get mk) (sp args)).bind fun v=>some (v,s)
  |none=>match(Q.specW f).bind fun sp=>sp args with
  |some p=>xz (Q.anew f) mk s p
  |none=>(Q.P.funcs[f]?).bind fun d=>d.body.bind fun c=>
   (r.code f c mk ⟨gI 0 args,bif bw args.length d.ntmps then d.ntmps else args.length,[]⟩ s).bind (qD Q d mk)
def MQ:oU:=⟨m9 Q r,mQ Q r,yx Q r,jU Q r⟩
end
def cy(Q:aH):Nat->oU
 |0=>.none
 |n+1=>MQ Q (cy Q n)
end
namespace aC
variable{α:Type}
theorem get_nil(n:Nat):(aC.nil:aC α).get n=none:=rfl
theorem get_node(l:aC α)(v:Option α)(r:aC α)(n:Nat):
 (aC.node l v r).get n=if n=0 then v else if n % 2=1 then l.get (n / 2) else r.get (n / 2-1):=by
 show @qq (fun _=>Option α) (@qq (fun _=>Option α) (r.get (n / 2-1)) (l.get (n / 2)) (aQ (n % 2) 1)) v (aQ n 0)=_;by_cases h0:n=0;subst h0;rfl
 ·have d:aQ n 0=false:=by
   cases h:aQ n 0;rfl
   simp_all
  rw[iN h0,d];by_cases h1:n % 2=1
  all_goals simp_all [aQ]
theorem one_zero(x:Option α)(n:Nat):one x 0 n= .node .nil x .nil:=rfl
theorem one_succ(x:Option α)(f n:Nat):
 one x (f+1) n=if n=0 then .node .nil x .nil else if n % 2=1 then .node (one x f (n / 2)) none .nil else .node .nil none (one x f (n / 2-1)):=by
 show @qq (fun _=>aC α) (@qq (fun _=>aC α) (.node .nil none (one x f (n / 2-1))) (.node (one x f (n / 2)) none .nil) (aQ (n % 2) 1)) (.node .nil x .nil) (aQ n 0)=_;by_cases h0:n=0;subst h0;rfl
 ·have d:aQ n 0=false:=by
   cases h:aQ n 0;rfl
   simp_all
  rw[iN h0,d];by_cases h1:n % 2=1
  all_goals simp_all [aQ]
theorem get_one(x:Option α): ∀(f n m:Nat),n<=f->(one x f n).get m=if m=n then x else none:=by
 intro f
 induction f with
 |zero=>
  grind [one_zero,get_node,get_nil]
 |succ f d=>
  grind [one_succ,get_node,get_nil]
theorem set_nil(n:Nat)(x:Option α):(aC.nil:aC α).set n x=one x n n:=rfl
theorem set_node(l:aC α)(v:Option α)(r:aC α)(n:Nat)(x:Option α):
 (aC.node l v r).set n x=if n=0 then .node l x r else if n % 2=1 then .node (l.set (n / 2) x) v r else .node l v (r.set (n / 2-1) x):=by
 show @qq (fun _=>aC α) (@qq (fun _=>aC α) (.node l v (r.set (n / 2-1) x)) (.node (l.set (n / 2) x) v r) (aQ (n % 2) 1)) (.node l x r) (aQ n 0)=_;by_cases h0:n=0;subst h0;rfl
 ·have d:aQ n 0=false:=by
   cases h:aQ n 0;rfl
   simp_all
  rw[iN h0,d];by_cases h1:n % 2=1
  all_goals simp_all [aQ]
theorem get_set(t:aC α): ∀(n m:Nat) (x:Option α),(t.set n x).get m=if m=n then x else t.get m:=by
 induction t with
 |nil=>grind [set_nil,get_one,get_nil]
 |node l v r g d=>
  grind [set_node,get_node]
@[simp] def get_set_same(t:aC α)(n:Nat)(x:Option α):(t.set n x).get n=x:=by rw[get_set,iP rfl]
end aC
namespace aC
theorem all_get{α:Type}{p:α->Bool}: ∀ {t:aC α},t.all p=true-> ∀ {n:Nat} {x:α},t.get n=some x->p x=true
 | .nil,_,n,x,h=>by cases h
 | .node l v r,h,n,x,d=>by
   have h:(∀y,v=some y->p y=true)/\l.all p=true/\r.all p=true:=by
    cases v with
    |none=>
     have h:(true&&(l.all p&&r.all p))=true:=h
     grind
    |some z=>
     have h:(p z&&(l.all p&&r.all p))=true:=h
     grind
   have d:(@qq (fun _=>Option α) (@qq (fun _=>Option α) (r.get (n / 2-1)) (l.get (n / 2)) (aQ (n % 2) 1)) v (aQ n 0))=some x:=d;cases h0:aQ n 0 with
   |true=>rw[h0] at d;exact h.1 x d
   |false=>
    rw[h0] at d;cases h1:aQ (n % 2) 1 with
    |true=>rw[h1] at d;exact all_get h.2.1 d
    |false=>rw[h1] at d;exact all_get h.2.2 d
end aC
structure Gh where
 at_:Nat->Option Addr
 ro:Nat->Nat->Option aa
 dim:Nat->Option Nat
structure Gh.le (G G':Gh):Prop where
 at_: ∀n a,G.at_ n=some a->G'.at_ n=some a
 ro: ∀b o v,G.ro b o=some v->G'.ro b o=some v
 dim: ∀b d,G.dim b=some d->G'.dim b=some d
def Gh.le.refl(G:Gh):G.le G:=⟨fun _ _ h=>h,fun _ _ _ h=>h,fun _ _ h=>h⟩
variable{G G':Gh}
def Gh.le.trans{g:Gh}(h:G.le G')(h':G'.le g):G.le g:=
 ⟨fun n a e=>h'.at_ n a (h.at_ n a e),fun b o v e=>h'.ro b o v (h.ro b o v e),fun b d e=>h'.dim b d (h.dim b d e)⟩
def D7(G:Gh)(sz:Nat)(a:Addr)(len cap:Nat):oW->Prop
 | .uP=>cap=len
 | .own n=>G.at_ n=some ⟨a.block,a.off+len*sz,none⟩/\ ∃d,G.dim a.block=some d/\a.off+cap*sz<=d
 | .no=>True
variable{cap sz:Nat}
def D7.mono(h:G.le G'){len:Nat}{a:Addr}: ∀ {r:oW},D7 G sz a len cap r->D7 G' sz a len cap r
 | .uP,e=>e
 | .own _,⟨e,d,hd,hle⟩=>⟨h.at_ _ _ e,d,h.dim _ _ hd,hle⟩
 | .no,_=>trivial
def aa.scal:aa->Bool
 | .agg _=>false
 | .tup _=>false
 | .rd _ _ _=>false
 |_=>true
def dG(l:List aa):Bool:=l.all aa.scal
mutual
inductive VR (G:Gh):aa->Value->Prop
 |bool (b:Bool):VR G (.bool b) (.bool b)
 |int (k:IntKind) (n:Int):VR G (.int k n) (.int k n)
 |str (s:List UInt8):VR G (.str s) (.string ⟨⟨s⟩⟩)
 |agg {cs:List aa} {vs:List Value}:dG cs=true->ck G cs vs->VR G (.agg cs) (.agg ⟨vs⟩)
 |tup {cs:List aa} {vs:List Value}:ck G cs vs->VR G (.tup cs) (.tuple ⟨vs⟩)
 |nilp:VR G .nilp (.pointer none)
 |ptr {n off:Nat} {a:Addr}:G.at_ n=some a->VR G (.ptr n off) (.pointer (some ⟨a.block,a.off+off,none⟩))
 |ro {cs:List aa} {b o:Nat}:(∀i x,cs[i]? =some x->G.ro b (o+i)=some x)->VR G (.ro cs) (.pointer (some ⟨b,o,none⟩))
 |oZ:VR G .oZ (.slice none 0 0)
 |list {sz:Nat} {xs:List aa} {r:oW} {a:Addr} {cap:Nat}:(cap=0\/a.spot=none)->0<sz->(∀x∈xs,x.cells.length=sz)->xs.length<=cap->
  (∀i x,(aF xs)[i]? =some x->G.ro a.block (a.off+i)=some x)->D7 G sz a xs.length cap r->
  VR G (.list sz xs r) (.slice (some a) xs.length cap)
 |arr {sz n off len lcap:Nat} {a b:Addr} {cap d:Nat}:G.at_ n=some b->a.spot=none->0<sz->len<=lcap->lcap<=cap->
  (cap=0\/(a.block=b.block/\a.off=b.off+off))->G.dim b.block=some d->b.off+off+cap*sz<=d->
  VR G (.arr sz n off len lcap) (.slice (some a) len cap)
 |nilm:VR G .nilm (.map none)
 |map {n:Nat} {a:Addr}:G.at_ n=some a->VR G (.map n) (.map (some a.block))
 |nilf:VR G .nilf .nilFunc
 |func {f:FuncId} {first captured:List aa} {fs cs:List Value}:ck G first fs->ck G captured cs->VR G (.func (.func f) first captured) (.func (.func f) ⟨fs⟩ ⟨cs⟩)
 |nili:VR G .nili .nilIface
 |iface {t:TypeId} {v:aa} {x:Value}:VR G v x->VR G (.iface t v) (.iface t x)
 |yld {n:Nat} {a:Addr}:G.at_ n=some a->VR G (.yld n) (.func (.yield a.block) #[] #[])
 |roz {cs:List aa} {b:Nat}:(∀i x,cs[i]? =some x->G.ro b i=some x)->VR G (.roz cs) (.pointer (some ⟨b,0,none⟩))
inductive ck (G:Gh):List aa->List Value->Prop
 |nil:ck G [] []
 |cons {v:aa} {x:Value} {vs:List aa} {xs:List Value}:VR G v x->ck G vs xs->ck G (v::vs) (x::xs)
end
mutual
def VR.mono{G G':Gh}(h:G.le G'): ∀ {v:aa} {x:Value},VR G v x->VR G' v x
 |_,_,.bool b=>.bool b
 |_,_,.int k n=>.int k n
 |_,_,.str s=>.str s
 |_,_,.agg hc hs=>.agg hc (ck.mono h hs)
 |_,_,.tup hs=>.tup (ck.mono h hs)
 |_,_,.nilp=>.nilp
 |_,_,.ptr e=>.ptr (h.at_ _ _ e)
 |_,_,.ro e=>.ro fun i x q=>h.ro _ _ _ (e i x q)
 |_,_,.oZ=>.oZ
 |_,_,.list a b c d e f=>.list a b c d (fun i x q=>h.ro _ _ _ (e i x q)) (f.mono h)
 |_,_,.arr a b c d e f g i=>.arr (h.at_ _ _ a) b c d e f (h.dim _ _ g) i
 |_,_,.nilm=>.nilm
 |_,_,.map e=>.map (h.at_ _ _ e)
 |_,_,.nilf=>.nilf
 |_,_,.func a b=>.func (ck.mono h a) (ck.mono h b)
 |_,_,.nili=>.nili
 |_,_,.iface e=>.iface (VR.mono h e)
 |_,_,.yld e=>.yld (h.at_ _ _ e)
 |_,_,.roz e=>.roz fun i x q=>h.ro _ _ _ (e i x q)
def ck.mono{G G':Gh}(h:G.le G'): ∀ {vs:List aa} {xs:List Value},ck G vs xs->ck G' vs xs
 |_,_,.nil=>.nil
 |_,_,.cons a b=>.cons (VR.mono h a) (ck.mono h b)
end
variable{xs:List Value}{a:List aa}{i:Nat}{x:Value}{v:aa}
section
variable{G:Gh}
def ck.length{vs:List aa}(h:ck G vs xs):vs.length=xs.length:=by
 induction vs generalizing xs with
 |nil=>cases h;rfl
 |cons v vs d=>cases h with|cons a b=>simp[d b]
theorem ck.get{vs:List aa}(h:ck G vs xs)(hi:vs[i]? =some v): ∃x,xs[i]? =some x/\VR G v x:=by
 induction vs generalizing xs i with
 |nil=>simp at hi
 |cons u vs d=>
  cases h with
  |cons a b=>
   grind
def ck.append{b:List aa}{x y:List Value}(h:ck G a x)(h':ck G b y):ck G (a++b) (x++y):=by
 induction a generalizing x with
 |nil=>cases h;simpa using h'
 |cons v a d=>cases h with|cons p q=>exact .cons p (d q)
def ck.drop{x:List Value}(h:ck G a x)(n:Nat):ck G (a.drop n) (x.drop n):=by
 induction n generalizing a x with
 |zero=>simpa using h
 |succ n d=>cases h with
  |nil=>simpa using ck.nil
  |cons p q=>simpa using d q
def ck.take{x:List Value}(h:ck G a x)(n:Nat):ck G (a.take n) (x.take n):=by
 induction n generalizing a x with
 |zero=>simpa using ck.nil
 |succ n d=>cases h with
  |nil=>simpa using ck.nil
  |cons p q=>simpa using .cons p (d q)
theorem VR.cells(h:VR G v x):ck G v.cells x.cells.toList:=by
 cases h<;>first
  |grind [aa.cells,Value.cells]
  |(refine .cons ?_ .nil;constructor<;>assumption)
def VR.scals_cells(h:VR G v x)(d: ∀l,v≠ .tup l):dG v.cells=true:=by
 cases h<;>first
  |(exact absurd rfl (d _))
  |assumption
  |rfl
def VR.one(h:VR G v x)(d:v.scal=true):x.oneCell'=true:=by
 cases h<;>first|rfl|(simp[aa.scal] at d)
end
structure xX (G:Gh) (e:dK) (m:MapEntry):Prop where
 key:VR G e.key m.key
 val:VR G e.val m.val
 born:e.born=m.born
inductive agG (G:Gh):List dK->List MapEntry->Prop
 |nil:agG G [] []
 |cons {e:dK} {m:MapEntry} {es:List dK} {ms:List MapEntry}:xX G e m->agG G es ms->agG G (e::es) (m::ms)
variable{m:MapEntry}
def xX.mono(h:G.le G'){e:dK}(x:xX G e m):xX G' e m:=⟨x.key.mono h,x.val.mono h,x.born⟩
variable{ms:List MapEntry}{es:List dK}
def agG.mono(h:G.le G')(x:agG G es ms):agG G' es ms:=by
 induction x with
 |nil=>exact .nil
 |cons a _ d=>exact .cons (a.mono h) d
def Vx(G:Gh):Option Nat->Option Nat->Prop
 |none,none=>True
 |some n,some b=> ∃a,G.at_ n=some a/\a.block=b
 |_,_=>False
def Ex.code:Ex->Code
 | .normal=>.skip
 | .exit id=>.exit id
 | .ret=>.ret
structure D4 (G:Gh) (r:Loop) (env:aC aa) (size:Nat) (ps:List Tmp) (a b:Code) (p:Option Ex):Prop where
 state:r.state=(match p with|none=>.ready|some _=>.done)
 pending:r.pending=p.map Ex.code
 size:r.tmps.size=size
 env: ∀t,VR G (ac env t) (r.tmps.getD t undef)
 params:r.params.toList=ps
 assign:r.assign=a
 body:r.body=b
 flatA:dY a=true
 flatB:dY b=true
def D4.mono(h:G.le G'){r:Loop}{env:aC aa}{size:Nat}{ps:List Tmp}{a b:Code}{p:Option Ex}(x:D4 G r env size ps a b p):D4 G' r env size ps a b p:=
 ⟨x.state,x.pending,x.size,fun t=>(x.env t).mono h,x.params,x.assign,x.body,x.flatA,x.flatB⟩
def n8(G:Gh)(w:World)(a:Addr):aR->Prop
 | .cells cs=> ∃C e,w.heap[a.block]? =some (.cells C e (0,0))/\G.dim a.block=some C.size/\ ∀(i:Nat) v,cs[i]? =some v->v.scal=true/\ ∃x,C[a.off+i]? =some x/\VR G v x
 | .tok=> ∃C e,w.heap[a.block]? =some (.cells C e (0,0))
 | .map es clock=> ∃ES:Array MapEntry,w.heap[a.block]? =some (.map ES clock)/\agG G es ES.toList
 | .iter m since seen stepped=>a.off=0/\ ∃d,w.heap[a.block]? =some (.mapIter d since ⟨seen⟩ stepped)/\Vx G m d
 | .loop _ env size ps ca cb p=> ∃r:Loop,w.heap[a.block]? =some (.loop r)/\D4 G r env size ps ca cb p
 | .fix o=>n8 G w a o
def n8.mono{G G':Gh}(h:G.le G'){w:World}{a:Addr}: ∀ {o:aR},n8 G w a o->n8 G' w a o
 | .cells _,⟨C,e,d,hd,hc⟩=>⟨C,e,d,h.dim _ _ hd,fun i v hi=>let⟨hs,x,hx,hv⟩:=hc i v hi;⟨hs,x,hx,hv.mono h⟩⟩
 | .tok,x=>x
 | .map _ _,⟨ES,d,hs⟩=>⟨ES,d,hs.mono h⟩
 | .iter m _ _ _,⟨h0,m',d,hm⟩=>⟨h0,m',d,by
  cases m<;>cases m'<;>first|exact hm|(obtain⟨a,g,d⟩:=hm;exact⟨a,h.at_ _ _ g,d⟩)⟩
 | .loop ..,⟨r,d,hr⟩=>⟨r,d,hr.mono h⟩
 | .fix o,x=>n8.mono h (o:=o) x
def n8.of_block{G:Gh}{w w':World}{a:Addr}(h:w'.heap[a.block]? =w.heap[a.block]?): ∀ {o:aR},n8 G w a o->n8 G w' a o
 | .cells _,⟨C,e,hb,hd,hc⟩=>⟨C,e,h.trans hb,hd,hc⟩
 | .tok,⟨C,e,hb⟩=>⟨C,e,h.trans hb⟩
 | .map _ _,⟨ES,hb,hs⟩=>⟨ES,h.trans hb,hs⟩
 | .iter _ _ _ _,⟨h0,m',hb,hm⟩=>⟨h0,m',h.trans hb,hm⟩
 | .loop ..,⟨r,hb,hr⟩=>⟨r,h.trans hb,hr⟩
 | .fix o,x=>n8.of_block h (o:=o) x
def fg(G:Gh)(h:aC aR)(b:Nat):Prop:= ∃n a,h.get n≠none/\G.at_ n=some a/\a.block=b
def lJ(G:Gh)(h:aC aR)(b:Nat):Prop:= ∃n a o,h.get n=some o/\o.still=false/\G.at_ n=some a/\a.block=b
variable{b:Nat}{h:aC aR}
def lJ.owns(x:lJ G h b):fg G h b:=let⟨n,a,o,h1,_,h2,h3⟩:=x;⟨n,a,by rw[h1];exact Option.some_ne_none o,h2,h3⟩
structure WR (G:Gh) (h:aC aR) (w:World):Prop where
 obj: ∀n o,h.get n=some o-> ∃a,G.at_ n=some a/\a.spot=none/\n8 G w a o
 sep: ∀n m a b,h.get n≠none->h.get m≠none->G.at_ n=some a->G.at_ m=some b->a.block=b.block->n=m
 ro: ∀b o v,G.ro b o=some v->v.scal=true/\ ∃x,w.cell? ⟨b,o,none⟩=some x/\VR G v x
 apart: ∀n ob a i v,h.get n=some ob->G.at_ n=some a->G.ro a.block i=some v->ob= .tok/\i<a.off
 dim: ∀b d,G.dim b=some d-> ∃C e,w.heap[b]? =some (.cells C e (0,0))/\C.size=d
 below: ∀n a,G.at_ n=some a->a.block<w.heap.size
def qv(w w':World):Prop:=w'.os=w.os/\w'.output=w.output/\w.heap.size<=w'.heap.size/\(∀a,a.block<w.heap.size->w'.frozen? a=w.frozen? a)/\w'.tape=w.tape/\w.drawn<=w'.drawn
def qv.refl(w:World):qv w w:=⟨rfl,rfl,br _,fun _ _=>rfl,rfl,br _⟩
variable{w w':World}
def qv.trans{d:World}(x:qv w w')(y:qv w' d):qv w d:=⟨y.1.trans x.1,y.2.1.trans x.2.1,fA x.2.2.1 y.2.2.1,fun a h=>(y.2.2.2.1 a (hJ h x.2.2.1)).trans (x.2.2.2.1 a h),y.2.2.2.2.1.trans x.2.2.2.2.1,fA x.2.2.2.2.2 y.2.2.2.2.2⟩
structure cZ (G:Gh) (h:aC aR) (w:World) (G':Gh) (h':aC aR) (w':World) (lo hi:Nat):Prop where
 le:G.le G'
 size:w.heap.size<=w'.heap.size
 keepW: ∀b,b<w.heap.size-> ¬lJ G h b->w'.heap[b]? =w.heap[b]?
 owns: ∀b,b<w.heap.size->fg G' h' b->fg G h b
 names: ∀n a,G'.at_ n=some a->G.at_ n=none->lo<=n/\n<hi
 cells: ∀b o v,b<w.heap.size->G'.ro b o=some v->G.ro b o=none->fg G h b
 quiet:qv w w'
 ownsW: ∀b,b<w.heap.size->lJ G' h' b->lJ G h b
variable{hi lo:Nat}{h':aC aR}
def cZ.keep(x:cZ G h w G' h' w' lo hi): ∀b,b<w.heap.size-> ¬fg G h b->w'.heap[b]? =w.heap[b]? :=fun b g d=>x.keepW b g fun o=>d o.owns
def cZ.refl:cZ G h w G h w lo hi:=
 ⟨.refl G,br _,fun _ _ _=>rfl,fun _ _ h=>h,fun n a h h'=>(by rw[h] at h';cases h'),fun b o v _ h h'=>(by rw[h] at h';cases h'),.refl w,fun _ _ h=>h⟩
def cZ.trans{z:Gh}{q:aC aR}{g:World}{d:Nat}(x:cZ G h w G' h' w' lo d)(y:cZ G' h' w' z q g d hi)(l1:lo<=d)(l2:d<=hi):cZ G h w z q g lo hi where
 le:=x.le.trans y.le
 size:=fA x.size y.size
 keepW b hb ho:=(y.keepW b (hJ hb x.size) fun o=>ho (x.ownsW b hb o)).trans (x.keepW b hb ho)
 owns b hb o:=x.owns b hb (y.owns b (hJ hb x.size) o)
 ownsW b hb o:=x.ownsW b hb (y.ownsW b (hJ hb x.size) o)
 names n a h h0:=by
  cases e:G'.at_ n with
  |none=>have:=y.names n a h e;omega
  |some b=>have:=x.names n b e h0;omega
 cells b o v hb h h0:=by
  cases e:G'.ro b o with
  |none=>exact x.owns b hb (y.cells b o v (hJ hb x.size) h e)
  |some u=>exact x.cells b o u hb e h0
 quiet:=x.quiet.trans y.quiet
def dU(w:World)(b:Nat)(o:Obj):World:= {w with heap:=w.heap.setIfInBounds b o }
@[simp] def Dh(w:World)(b:Nat)(o:Obj):(dU w b o).heap.size=w.heap.size:=by simp[dU]
theorem jZ(w:World)(b c:Nat)(o:Obj)(d:b<w.heap.size):(dU w b o).heap[c]? =if c=b then some o else w.heap[c]? :=by
 grind [dU]
def apd(w:World)(b:Nat)(o o':Obj):dU (dU w b o) b o'=dU w b o':=by
 simp[dU]
def ape(w:World)(b:Nat)(o:Obj)(h:w.heap[b]? =some o):dU w b o=w:=by
 have d:b<w.heap.size:=by
  rcases nZ b w.heap.size with h'|h'
  exact h';simp[Array.getElem?_eq_none h'] at h
 have e:w.heap.setIfInBounds b o=w.heap:=by
  apply Array.ext_getElem?;intro i;rw[Array.getElem?_setIfInBounds];by_cases hi:b=i;subst hi;rw[iP rfl,iP d,h];simp[hi]
 unfold dU;rw[e]
theorem jB{o:Obj}(h:w.heap[b]? =some o):b<w.heap.size:=by
 grind
variable{C:Array Value}{fz:Nat×Nat}{e:TypeId}
theorem o0(h:w.heap[b]? =some (.cells C e fz)):w.cell? ⟨b,i,none⟩=C[i]? :=by
 simp[World.cell?,h]
theorem aqx{v:Value}(h:w.heap[b]? =some (.cells C e fz)):
 w.setCell ⟨b,i,none⟩ v=dU w b (.cells (C.setIfInBounds i v) e fz):=by
 unfold World.setCell dU;congr 1
 grind
def kd(C:Array Value)(off:Nat):List Value->Array Value
 | []=>C
 |v::l=>kd (C.setIfInBounds off v) (off+1) l
@[simp] def awE(C:Array Value)(off:Nat)(l:List Value):(kd C off l).size=C.size:=by
  induction l generalizing C off with
  |nil=>rfl
  |cons v l d=>simp[kd,d]
theorem KV(C:Array Value)(off:Nat)(l:List Value)(i:Nat)(h:off+l.length<=C.size):
 (kd C off l)[i]? =if off<=i/\i<off+l.length then l[i-off]? else C[i]? :=by
 induction l generalizing C off with
 |nil=>simp[kd];intro q g;omega
 |cons v l d=>
  grind [kd]
variable{P:Program}
theorem aqm{v:Value}(h:w.heap[b]? =some (.cells C e (0,0)))(hi:i<C.size)(d:v.oneCell'=true):(store ⟨b,i,none⟩ v).run P w= .ok () (dU w b (.cells (C.setIfInBounds i v) e (0,0))):=by
 rw[run_store _ _ _ _ _ d,o0 h]
 grind [World.frozen?,aqx]
theorem oX(b o i:Nat):(⟨b,o,none⟩:Addr).add i=⟨b,o+i,none⟩:=by
 grind [Addr.add]
def Ku(b o:Nat)(e:TypeId): ∀(vs:List Value) (i:Nat) (w:World) (C:Array Value),w.heap[b]? =some (.cells C e (0,0))->o+i+vs.length<=C.size->
 (∀v∈vs,v.oneCell'=true)->(storeCells ⟨b,o,none⟩ vs i).run P w= .ok () (dU w b (.cells (kd C (o+i) vs) e (0,0))):=by
 intro vs
 induction vs with
 |nil=>simp_all [storeCells,kd,ape]
 |cons v vs g=>
  intro i w C h z d;simp only[bH] at z;rw[storeCells,Sem.run_bind,oX,aqm h (by omega) (d v (by simp)),mL,
   g (i+1) _ _ (by rw[jZ _ _ _ _ (jB h),iP rfl]) (by simp;omega) (fun u q=>d u (by simp[q])),apd,kd]
  rfl
variable{a:Addr}{n:Nat}{o:aR}
section
variable{G:Gh}{h:aC aR}{w:World}
theorem WR.of_heap(x:WR G h w)(e:w'.heap=w.heap):WR G h w' where
 obj n o ho:=by
  obtain⟨a,g,hs,q⟩:=x.obj n o ho;exact⟨a,g,hs,q.of_block (by rw[e])⟩
 sep:=x.sep
 ro b o v hv:=by
  obtain⟨hs,y,u,q⟩:=x.ro b o v hv
  grind [World.cell?]
 apart:=x.apart
 dim b d hd:=by rw[e];exact x.dim b d hd
 below n a g:=by rw[e];exact x.below n a g
def af7{w:World}(e:w'.heap=w.heap)(a:Addr):w'.frozen? a=w.frozen? a:=by simp[World.frozen?,e]
def cZ.of_heap(e:w'.heap=w.heap)(q:w'.os=w.os/\w'.output=w.output/\w'.tape=w.tape/\w.drawn<=w'.drawn):cZ G h w G h w' lo hi:=
 ⟨.refl G,by rw[e];exact br _,fun _ _ _=>by rw[e],fun _ _ h=>h,fun n a h h'=>(by rw[h] at h';cases h'),fun b o v _ h h'=>(by rw[h] at h';cases h'),⟨q.1,q.2.1,by rw[e];exact br _,fun a _=>af7 e a,q.2.2.1,q.2.2.2⟩,fun _ _ h=>h⟩
def WR.ro_lt(x:WR G h w){o:Nat}(g:G.ro b o=some v):b<w.heap.size:=by
 obtain⟨_,y,d,_⟩:=x.ro b o v g;exact World.block_lt_of_cell? w ⟨b,o,none⟩ d
def WR.owned_lt(x:WR G h w)(d:fg G h b):b<w.heap.size:=by
 obtain⟨n,a,_,g,rfl⟩:=d;exact x.below n a g
def Gh.more(G:Gh)(b:Nat)(R:Nat->Option aa)(D:Option Nat):Gh where
 at_:=G.at_
 ro c o:=if c=b then R o else G.ro c o
 dim c:=if c=b then D else G.dim c
def Gh.name(G:Gh)(n:Nat)(a:Addr):Gh where
 at_ m:=if m=n then some a else G.at_ m
 ro:=G.ro
 dim:=G.dim
theorem pJ(w:World)(o:Obj)(c:Nat):(w.alloc o).heap[c]? =if c=w.heap.size then some o else w.heap[c]? :=by
 unfold World.alloc;rw[Array.getElem?_push]
theorem WR.more_le(x:WR G h w)(R:Nat->Option aa)(D:Option Nat):G.le (G.more w.heap.size R D) where
 at_ _ _ e:=e
 ro b o v e:=by
  have:=x.ro_lt e
  grind [Gh.more]
 dim b d e:=by
  obtain⟨C,t,g,_⟩:=x.dim b d e
  grind [Gh.more]
theorem Gh.name_le(G:Gh)(a:Addr)(d:G.at_ n=none):G.le (G.name n a) where
 at_ m b e:=by
  grind [Gh.name]
 ro _ _ _ e:=e
 dim _ _ e:=e
def Obj.warm:Obj->Prop
 | .cells _ _ z=>z=(0,0)
 |_=>True
theorem af8{w:World}{ob:Obj}(h:w.heap[b]? =some ob)(d:Obj.warm ob)(a:Addr)(g:a.block=b):w.frozen? a=false:=by
 grind [World.frozen?,Obj.warm]
theorem apg(w:World){ob:Obj}(d:Obj.warm ob):qv w (w.alloc ob):=by
 refine⟨rfl,rfl,by simp,fun a _=>?_,rfl,br _⟩
 grind [pJ,World.frozen?]
theorem Gk(w:World){o ob:Obj}(h:w.heap[b]? =some o)(g:Obj.warm o)(d:Obj.warm ob):qv w (dU w b ob):=by
 refine⟨rfl,rfl,by simp,fun a _=>?_,rfl,br _⟩
 grind [af8,jZ,World.frozen?]
theorem n8.warm{a:Addr}: ∀ {o:aR},n8 G w a o-> ∃d,w.heap[a.block]? =some d/\Obj.warm d
 | .cells cs,h=>by obtain⟨C,e,h,_⟩:=h;exact⟨_,h,rfl⟩
 | .tok,h=>by obtain⟨C,e,h⟩:=h;exact⟨_,h,rfl⟩
 | .map es c,h=>by obtain⟨ES,h,_⟩:=h;exact⟨_,h,trivial⟩
 | .iter m a b c,h=>by obtain⟨_,g,h,_⟩:=h;exact⟨_,h,trivial⟩
 | .loop _ _ _ _ _ _ _,h=>by obtain⟨r,h,_⟩:=h;exact⟨_,h,trivial⟩
 | .fix o,h=>n8.warm (o:=o) h
theorem WR.alloc(x:WR G h w)(ob:Obj)(R:Nat->Option aa)(D:Option Nat)(N: ∀o v,R o=some v->v.scal=true/\ ∃C e,ob= .cells C e (0,0)/\ ∃y,C[o]? =some y/\VR (G.more w.heap.size R D) v y)(O: ∀d,D=some d-> ∃C e,ob= .cells C e (0,0)/\C.size=d)(F:Obj.warm ob:=by trivial):
 WR (G.more w.heap.size R D) h (w.alloc ob)/\ ∀lo hi,cZ G h w (G.more w.heap.size R D) h (w.alloc ob) lo hi:=by
 have q:=x.more_le R D;refine⟨⟨?_,x.sep,?_,?_,?_,?_⟩,fun lo hi=>⟨q,by simp,?_,?_,?_,?_,apg w F,fun _ _ z=>z⟩⟩;intro n o z;obtain⟨a,u,H,I⟩:=x.obj n o z;refine⟨a,u,H,(I.mono q).of_block ?_⟩;rw[pJ,iN (Nat.ne_of_lt (x.below n a u))];intro b o v g;simp only[Gh.more] at g;by_cases hb:b=w.heap.size
 grind [o0,pJ]
 rw[iN hb] at g;obtain⟨H,y,M,I⟩:=x.ro b o v g;refine⟨H,y,?_,I.mono q⟩
 grind [World.cell?_alloc_old]
 intro n A a i v K u g;simp only[Gh.more] at g;rw[iN (Nat.ne_of_lt (x.below n a u))] at g;exact x.apart n A a i v K u g;intro b d J;simp only[Gh.more] at J;rw[pJ];by_cases hb:b=w.heap.size
 grind
 rw[iN hb] at J ⊢;exact x.dim b d J;intro n a u
 have:=x.below n a u;simp;omega
 simp_all [pJ,Nat.ne_of_lt]
 intro b _ z;exact z
 all_goals grind [Gh.more]
theorem WR.named(x:WR G h w)(S:G.at_ n=none)(u:a.block<w.heap.size)(F:a.spot=none)(N: ¬fg G h a.block)(H:n8 G w a o)(q: ∀i v,G.ro a.block i=some v->o= .tok/\i<a.off):WR (G.name n a) (h.set n (some o)) w:=by
 have A:=G.name_le a S;refine⟨?_,?_,?_,?_,x.dim,?_⟩;intro m K g;rw[aC.get_set] at g;by_cases e:m=n;rw[iP e] at g;injection g with g;subst g;subst e
 exact⟨a,by simp[Gh.name],F,H.mono A⟩;rw[iN e] at g;obtain⟨b,u,F,H⟩:=x.obj m K g;exact⟨b,by simp[Gh.name,e,u],F,H.mono A⟩;intro m k c d g I q z M;rw[aC.get_set] at g I;simp only[Gh.name] at q z;by_cases e1:m=n<;>by_cases e2:k=n;rw[e1,e2];rw[iP e1] at q;rw[iN e2] at z I;injection q with q;subst q
 exact absurd ⟨k,d,I,z,M.symm⟩ N;rw[iN e1] at q g;rw[iP e2] at z;injection z with z;subst z
 exact absurd ⟨m,c,g,q,M⟩ N;rw[iN e1] at q g;rw[iN e2] at z I;exact x.sep m k c d g I q z M;intro b K v J;obtain⟨F,y,R,H⟩:=x.ro b K v J;exact⟨F,y,R,H.mono A⟩;intro m O b i v g u J;rw[aC.get_set] at g;simp only[Gh.name] at u;by_cases e:m=n;rw[iP e] at g u;injection g with g;injection u with u;subst g;subst u
 exact q i v J;rw[iN e] at g u;exact x.apart m O b i v g u J;intro m b D;simp only[Gh.name] at D;by_cases e:m=n
 grind
 rw[iN e] at D;exact x.below m b D
theorem De(h':fg (G.name n a) (h.set n (some o)) b):b=a.block\/fg G h b:=by
 obtain⟨m,c,d,g,rfl⟩:=h';rw[aC.get_set] at d;simp only[Gh.name] at g;by_cases e:m=n
 grind
 rw[iN e] at g d;exact .inr ⟨m,c,d,g,rfl⟩
theorem Dd(h':lJ (G.name n a) (h.set n (some o)) b):b=a.block\/lJ G h b:=by
 obtain⟨m,c,p,d,q,g,rfl⟩:=h';rw[aC.get_set] at d;simp only[Gh.name] at g;by_cases e:m=n
 grind
 rw[iN e] at g d;exact .inr ⟨m,c,p,d,q,g,rfl⟩
theorem WR.killed(x:WR G h w)(n:Nat):WR G (h.set n none) w:=by
 refine⟨?_,?_,x.ro,?_,x.dim,x.below⟩;intro m o g;rw[aC.get_set] at g;by_cases e:m=n;rw[iP e] at g;cases g;rw[iN e] at g;exact x.obj m o g;intro m k c d g q;rw[aC.get_set] at g q;by_cases e1:m=n
 grind
 by_cases e2:k=n
 grind
 rw[iN e1] at g;rw[iN e2] at q;exact x.sep m k c d g q;intro m u a i v g;rw[aC.get_set] at g;by_cases e:m=n;rw[iP e] at g;cases g;rw[iN e] at g;exact x.apart m u a i v g
theorem A9(h':fg G (h.set n none) b):fg G h b:=by
 obtain⟨m,c,d,g,q⟩:=h';rw[aC.get_set] at d;by_cases e:m=n
 grind
 rw[iN e] at d;exact⟨m,c,d,g,q⟩
def Dc(h':lJ G (h.set n none) b):lJ G h b:=by
 obtain⟨m,c,p,d,g,q,u⟩:=h';rw[aC.get_set] at d;by_cases e:m=n;rw[iP e] at d;cases d;rw[iN e] at d;exact⟨m,c,p,d,g,q,u⟩
theorem JL(x:WR G h w)(g:h.get n≠none)(z:G.at_ n=some a): ¬fg G (h.set n none) a.block:=by
 rintro⟨m,c,d,q,u⟩;rw[aC.get_set] at d;by_cases e:m=n
 grind
 rw[iN e] at d;exact e (x.sep m n c a d g q z u)
def cZ.killed:cZ G h w G (h.set n none) w lo hi:=
 ⟨.refl G,br _,fun _ _ _=>rfl,fun _ _ o=>A9 o,fun n a h h'=>(by rw[h] at h';cases h'),fun b o v _ h h'=>(by rw[h] at h';cases h'),.refl w,fun _ _ o=>Dc o⟩
theorem WR.changed(x:WR G h w){o':aR}{ob:Obj}(D:h.get n=some o)(K:G.at_ n=some a)(hr:n8 G (dU w a.block ob) a o')(N: ∀i v,G.ro a.block i=some v->o'= .tok/\ ∃y,(dU w a.block ob).cell? ⟨a.block,i,none⟩=some y/\w.cell? ⟨a.block,i,none⟩=some y)(hd: ∀d,G.dim a.block=some d-> ∃C e,ob= .cells C e (0,0)/\C.size=d)(S:Obj.warm ob:=by trivial)(M:o.still=false:=by rfl):
 WR G (h.set n (some o')) (dU w a.block ob)/\ ∀lo hi,cZ G h w G (h.set n (some o')) (dU w a.block ob) lo hi:=by
 have V:=x.below n a K;have u: ∀c,(dU w a.block ob).heap[c]? =if c=a.block then some ob else w.heap[c]? :=fun c=>jZ w a.block c ob V
 have O: ∀b,fg G (h.set n (some o')) b->fg G h b:=by
  rintro b ⟨m,c,g,A,q⟩;rw[aC.get_set] at g;by_cases e:m=n;subst e;exact⟨m,c,by rw[D];simp,A,q⟩;rw[iN e] at g;exact⟨m,c,g,A,q⟩
 have F: ∀m,(h.set n (some o')).get m≠none->h.get m≠none:=by
  intro m g;rw[aC.get_set] at g;by_cases e:m=n;rw[e,D];simp;rw[iN e] at g;exact g
 refine⟨⟨?_,fun m k c d g hk=>x.sep m k c d (F m g) (F k hk),?_,?_,?_,?_⟩,fun lo hi=>⟨.refl G,by simp,?_,fun b _ U=>O b U,fun n a h h'=>(by rw[h] at h';cases h'),fun b o v _ h h'=>(by rw[h] at h';cases h'),by
  obtain⟨c,A,_,T⟩:=x.obj n o D;rw[K] at A;injection A with A;subst A
  obtain⟨a1,h1,h2⟩:=T.warm;exact Gk w h1 h2 S,fun b _ ⟨m,c,p,g,hp,A,q⟩=>by
  rw[aC.get_set] at g;by_cases e:m=n;subst e;exact⟨m,c,o,D,M,A,q⟩;rw[iN e] at g;exact⟨m,c,p,g,hp,A,q⟩⟩⟩
 intro m H g;rw[aC.get_set] at g;by_cases e:m=n;rw[iP e] at g;injection g with g;subst g;subst e
 obtain⟨b,q,R,_⟩:=x.obj m o D
 grind
 rw[iN e] at g;obtain⟨b,q,R,J⟩:=x.obj m H g;refine⟨b,q,R,J.of_block ?_⟩;rw[u,iN];intro Z;exact e (x.sep m n b a (by rw[g];simp) (by rw[D];simp) q K Z);intro b i v I;by_cases q:b=a.block;subst q;obtain⟨_,y,hy,a2⟩:=N i v I;obtain⟨R,z,hz,J⟩:=x.ro a.block i v I
 grind
 obtain⟨R,z,hz,J⟩:=x.ro b i v I
 grind [World.cell?]
 intro m H b i v g q I;rw[aC.get_set] at g;by_cases e:m=n;rw[iP e] at g;injection g with g;subst g;subst e
 rw[K] at q;injection q with q;subst q
 have h1:=(N i v I).1;have h2:=x.apart m o a i v D K I;exact⟨h1,h2.2⟩;rw[iN e] at g;exact x.apart m H b i v g q I;intro b d a0;rw[u];by_cases q:b=a.block
 grind
 rw[iN q];exact x.dim b d a0;intro m b q;simp;exact x.below m b q;intro b q U;rw[u,iN];intro Z;exact U ⟨n,a,o,D,M,K,Z.symm⟩
end
variable{a:Nat}
theorem U1(h:aQ a b=true):a=b:=Nat.eq_of_beq_eq_true h
theorem BS(h:aQ a b=false):a≠b:=Nat.ne_of_beq_eq_false h
theorem qA(h:bm a b=true):a<b:=fW h
theorem lA(h:bw a b=true):a<=b:=fW h
variable{c:Bool}{α:Type}
def ig{x y:Option α}{a:α}(h:(bif c then x else y)=some a):(c=true/\x=some a)\/(c=false/\y=some a):=by
 cases c<;>simp_all
def bh{x:Option α}{a:α}(h:(bif c then x else none)=some a):c=true/\x=some a:=by
 cases c<;>simp_all
variable{c:Value}
theorem Yr(G:Gh)(h:pw c=some v):VR G v c/\v.scal=true:=by
 unfold pw at h;split at h<;>first
  |(injection h with h;subst h;exact⟨by constructor,rfl⟩)
  |(cases h)
theorem Ys(G:Gh): ∀ {l:List Value} {vs:List aa},FT l=some vs->ck G vs l/\dG vs=true
 | [],_,h=>by simp[FT] at h;subst h;exact⟨.nil,rfl⟩
 |c::l,_,h=>by
  simp only[FT,ak] at h;obtain⟨a,g,r,d,h⟩:=h;injection h with h;subst h
  obtain⟨u,A⟩:=Yr G g;obtain⟨q,z⟩:=Ys G d;exact⟨.cons u q,by grind [dG]⟩
theorem xr(G:Gh)(h:ofValue c=some v):VR G v c/\ ∀l,v≠ .tup l:=by
 unfold ofValue at h;split at h;rename_i cs;simp only[ak] at h;obtain⟨l,d,h⟩:=h;injection h with h;subst h
 obtain⟨q,g⟩:=Ys G d;exact⟨by simpa using VR.agg g q,by simp⟩
 grind [Yr,aa.scal]
def LV(G:Gh)(loc:Loc)(B:Nat->Nat)(v:aa)(x:Value):Prop:=
 match v with
 | .rd t g off=>g<=loc.gen t/\(∃ad,x= .pointer (some ad))/\(g=loc.gen t->x= .pointer (some ⟨B t,off,none⟩))
 |v=>VR G v x
variable{B:Nat->Nat}
def LV.of_VR{loc:Loc}(h:VR G v x):LV G loc B v x:=by
 cases h<;>(unfold LV;constructor<;>assumption)
def LV.ge{loc:Loc}(h:LV G loc B v x)(d:v.ge=true):VR G v x/\ ∀l,v≠ .tup l:=by
 cases v<;>first
  |(simp[aa.ge] at d;done)
  |exact⟨h,by simp⟩
def LV.mono(d:G.le G'){loc:Loc}(h:LV G loc B v x):LV G' loc B v x:=by
 cases v<;>first
  |exact VR.mono d h
  |exact h
structure qu (G:Gh) (h:aC aR) (B:Nat->Nat) (loc:Loc) (w:World):Prop where
 cells: ∀t cs,loc.get t (loc.gen t)=some cs-> ∃C e,w.heap[B t]? =some (.cells C e (0,0))/\ ∀(i:Nat) v,cs[i]? =some v->v.scal=true/\ ∃x,C[i]? =some x/\VR G v x
 free: ∀t cs,loc.get t (loc.gen t)=some cs-> ¬fg G h (B t)
 ro: ∀t cs,loc.get t (loc.gen t)=some cs-> ∀o,G.ro (B t) o=none
 inj: ∀t u cs ds,loc.get t (loc.gen t)=some cs->loc.get u (loc.gen u)=some ds->B t=B u->t=u
def qu.ext{loc:Loc}(x:qu G h B loc w)(e:cZ G h w G' h' w' lo hi):
 qu G' h' B loc w' where
 cells t cs ht:=by
  obtain⟨C,ty,d,g⟩:=x.cells t cs ht;refine⟨C,ty,(e.keep _ (jB d) (x.free t cs ht)).trans d,fun i v hi=>?_⟩;obtain⟨hs,y,q,u⟩:=g i v hi;exact⟨hs,y,q,u.mono e.le⟩
 free t cs ht ho:=by
  obtain⟨C,ty,d,g⟩:=x.cells t cs ht;exact x.free t cs ht (e.owns _ (jB d) ho)
 ro t cs ht o:=by
  obtain⟨C,ty,d,g⟩:=x.cells t cs ht;cases hr:G'.ro (B t) o with
  |none=>rfl
  |some v=>exact absurd (e.cells _ o v (jB d) hr (x.ro t cs ht o)) (x.free t cs ht)
 inj:=x.inj
structure cN (G:Gh) (h:aC aR) (B:Nat->Nat) (fr:Fr) (tmps:Array Value) (w:World):Prop where
 size:tmps.size=fr.size
 env: ∀t,LV G fr.loc B (ac fr.env t) (tmps.getD t undef)
 locs:qu G h B fr.loc w
section
variable{G:Gh}{h:aC aR}{B:Nat->Nat}{fr:Fr}{a:Act}{w:World}
def cN.ev(x:cN G h B fr a.tmps w){o:Operand}(d:ev fr.env o=some v):LV G fr.loc B v (a.eval o):=by
 cases o with
 |tmp t=>simp[Ag.ev] at d;subst d;exact x.env t
 |const c=>exact LV.of_VR (xr G d).1
 |func f=>simp[Ag.ev] at d;subst d;exact LV.of_VR (.func .nil .nil)
 |global g=>simp[Ag.ev] at d
theorem cN.evc(x:cN G h B fr a.tmps w){o:Operand}(d:evc fr.env o=some v):VR G v (a.eval o)/\ ∀l,v≠ .tup l:=by
 simp only[Ag.evc,ak] at d;obtain⟨u,g,d⟩:=d;replace d:=bh d;obtain⟨q,d⟩:=d;injection d with d;subst d
 exact(x.ev g).ge q
theorem cN.evcs(x:cN G h B fr a.tmps w): ∀ {l:List Operand} {vs:List aa},evcs fr.env l=some vs->ck G vs (l.map a.eval)/\ ∀v∈vs, ∀l,v≠ .tup l
 | [],_,d=>by simp[Ag.evcs] at d;subst d;exact⟨.nil,by simp⟩
 |o::l,_,d=>by
  simp only[Ag.evcs,ak] at d;obtain⟨v,g,r,q,d⟩:=d;injection d with d;subst d
  obtain⟨z,D⟩:=x.evc g;obtain⟨u,A⟩:=cN.evcs x q;exact⟨.cons z u,by grind⟩
end
def LB(B:Nat->Nat)(loc:Loc)(b:Nat):Prop:= ∃t cs,loc.get t (loc.gen t)=some cs/\B t=b
structure jh (G:Gh) (h:aC aR) (w:World) (G':Gh) (h':aC aR) (w':World) (lo hi:Nat) (L:Nat->Prop):Prop where
 le:G.le G'
 size:w.heap.size<=w'.heap.size
 keepW: ∀b,b<w.heap.size-> ¬lJ G h b-> ¬L b->w'.heap[b]? =w.heap[b]?
 owns: ∀b,b<w.heap.size->fg G' h' b->fg G h b
 names: ∀n a,G'.at_ n=some a->G.at_ n=none->lo<=n/\n<hi
 cells: ∀b o v,b<w.heap.size->G'.ro b o=some v->G.ro b o=none->fg G h b
 quiet:qv w w'
 ownsW: ∀b,b<w.heap.size->lJ G' h' b->lJ G h b
def jh.keep{L:Nat->Prop}(x:jh G h w G' h' w' lo hi L): ∀b,b<w.heap.size-> ¬fg G h b-> ¬L b->w'.heap[b]? =w.heap[b]? :=fun b q d g=>x.keepW b q (fun o=>d o.owns) g
def cZ.toL(x:cZ G h w G' h' w' lo hi)(L:Nat->Prop):jh G h w G' h' w' lo hi L:=
 ⟨x.le,x.size,fun b g d _=>x.keepW b g d,x.owns,x.names,x.cells,x.quiet,x.ownsW⟩
def gj(P:Program)(G:Gh)(h:aC aR)(w:World)(B:Nat->Nat)(loc:Loc)(lo hi:Nat)(a:Act)(o:Oper)(v:aa)(loc':Loc)(h':aC aR):Prop:=
 ∃g x w' G' d,(execOp a.eval o).run P w= .ok g w'/\(g= .value x\/(g= .skip/\x=undef))/\WR G' h' w'/\jh G h w G' h' w' lo hi (LB B loc)/\
  qu G' h' d loc' w'/\LV G' loc' d v x/\(∀u y,LV G loc B u y->LV G' loc' d u y)/\ ∀b,LB d loc' b->LB B loc b\/w.heap.size<=b
variable{y:Value}
section
variable{P:Program}{G:Gh}{h:aC aR}{B:Nat->Nat}{fr:Fr}{a:Act}{w:World}{o:Oper}{lo hi:Nat}
def gj.pure(wr:WR G h w)(x:cN G h B fr a.tmps w)(d:(execOp a.eval o).run P w= .ok (.value y) w)(g:LV G fr.loc B v y):
 gj P G h w B fr.loc lo hi a o v fr.loc h:=
 ⟨_,y,w,G,B,d,.inl rfl,wr,cZ.refl.toL _,x.locs,g,fun _ _ h=>h,fun _ h=>.inl h⟩
def gj.heap(x:cN G h B fr a.tmps w){g:Next}(d:(execOp a.eval o).run P w= .ok g w')(u:g= .value y\/(g= .skip/\y=undef))(wr:WR G' h' w')(e:cZ G h w G' h' w' lo hi)(q:LV G' fr.loc B v y):
 gj P G h w B fr.loc lo hi a o v fr.loc h':=
 ⟨g,y,w',G',B,d,u,wr,e.toL _,x.locs.ext e,q,fun _ _ h=>h.mono e.le,fun _ h=>.inl h⟩
end
variable{l:Loc}{x:Operand}{s s':St}
section
variable{P:Program}{mk:aK}{G:Gh}{h:aC aR}{B:Nat->Nat}{fr:Fr}{a:Act}{w:World}{o:Oper}{lo hi:Nat}
theorem lG{x:Option aa}{d:Loc}(e:fT x l s=some (v,d,s')):x=some v/\d=l/\s'=s:=by
 cases x with
 |none=>simp[fT] at e
 |some u=>grind [fT]
theorem aoD(d:o.op= .move x)(wr:WR G h w)(fx:cN G h B fr a.tmps w)(g:ev fr.env x=some v):
 gj P G h w B fr.loc lo hi a o v fr.loc h:=
 .pure wr fx (y:=a.eval x) (by simp[execOp,d]) (fx.ev g)
theorem aoi(d:o.op= .assign x)(wr:WR G h w)(fx:cN G h B fr a.tmps w)(g:ev fr.env x=some v):
 gj P G h w B fr.loc lo hi a o v fr.loc h:=
 .pure wr fx (y:=a.eval x) (by simp[execOp,d]) (fx.ev g)
theorem aoG{c p q:Operand}(u:o.op= .pick c p q)(wr:WR G h w)(fx:cN G h B fr a.tmps w)(g:Bb fr.env c p q=some v):
 gj P G h w B fr.loc lo hi a o v fr.loc h:=by
 simp only[Bb,ak] at g;obtain⟨b,z,g⟩:=g;have d:=fx.ev z;split at g;have d:VR G (.bool true) (a.eval c):=d;generalize hx:a.eval c=x at d;cases d;exact .pure wr fx (y:=a.eval p) (by simp[execOp,u,hx,asBool]) (fx.ev g);have d:VR G (.bool false) (a.eval c):=d;generalize hx:a.eval c=x at d;cases d;exact .pure wr fx (y:=a.eval q) (by simp[execOp,u,hx,asBool]) (fx.ev g);cases g
theorem aoF(D:o.op= .nilCheck x)(wr:WR G h w)(fx:cN G h B fr a.tmps w){u:aa}(H:ev fr.env x=some u)(d:y8 fr.loc u=some v):
 gj P G h w B fr.loc lo hi a o v fr.loc h:=by
 have z:=fx.ev H;unfold y8 at d;split at d;rename_i t g off;replace d:=bh d;obtain⟨F,d⟩:=d;injection d with d;subst d
 have F:=U1 F;obtain⟨I,_,A⟩:g<=fr.loc.gen t/\(∃ad,a.eval x= .pointer (some ad))/\(g=fr.loc.gen t->a.eval x= .pointer (some ⟨B t,off,none⟩)):=z;have A:=A F.symm;exact .pure wr fx (y:=a.eval x) (by simp[execOp,D,A]) ⟨I,⟨_,A⟩,fun _=>A⟩;injection d with d;subst d
 generalize hx:a.eval x=y at z;have q:VR G _ y:=z;cases q;exact .pure wr fx (y:=a.eval x) (by simp[execOp,D,hx]) (by rw[hx];exact z);injection d with d;subst d
 generalize hx:a.eval x=y at z;have q:VR G _ y:=z;cases q;exact .pure wr fx (y:=a.eval x) (by simp[execOp,D,hx]) (by rw[hx];exact z);injection d with d;subst d
 generalize hx:a.eval x=y at z;have q:VR G _ y:=z;cases q;exact .pure wr fx (y:=a.eval x) (by simp[execOp,D,hx]) (by rw[hx];exact z);cases d
end
theorem Loc.gen_set(l:Loc)(t g u:Nat)(cs:List aa):(Loc.set l t g cs).gen u=if u=t then g else Loc.gen l u:=by
 induction l with
 |nil=>
  simp only[Loc.set,Loc.gen];by_cases h:u=t;subst h;simp
  grind [U1]
 |cons x l d=>
  grind [Loc.set,Loc.gen,U1]
theorem Loc.get_set(l:Loc)(t g u k:Nat)(cs:List aa):(Loc.set l t g cs).get u k=if u=t then(if k=g then some cs else none) else Loc.get l u k:=by
 have q: ∀a b:Nat,aQ a b=decide (a=b):=fun a b=>by
  grind [BS,U1]
 induction l with
 |nil=>
  grind [Loc.set,Loc.get]
 |cons x l d=>
  grind [Loc.set,Loc.get]
section
variable{P:Program}{G:Gh}{h:aC aR}{w:World}
def Gh.more_none(x:WR G h w):G.more w.heap.size (fun _=>none) none=G:=by
 cases G with
 |mk A R D=>
  simp only[Gh.more];congr 1;funext c o;by_cases e:c=w.heap.size;rw[iP e];cases hr:R c o with
  |none=>rfl
  |some v=>have:=x.ro_lt (b:=c) (o:=o) (v:=v) hr;omega
  rw[iN e];funext c;by_cases e:c=w.heap.size;rw[iP e];cases hr:D c with
  |none=>rfl
  |some d=>obtain⟨C,t,g,_⟩:=x.dim c d hr;have:=jB g;omega
  rw[iN e]
def WR.fresh(x:WR G h w)(ob:Obj)(d:Obj.warm ob:=by trivial):WR G h (w.alloc ob)/\ ∀lo hi,cZ G h w G h (w.alloc ob) lo hi:=by
 have:=x.alloc ob (fun _=>none) none (by simp) (by simp) d;rwa [Gh.more_none x] at this
def Gh.boxed(G:Gh)(w:World)(n size:Nat):Gh:=(G.more w.heap.size (fun _=>none) (some size)).name n ⟨w.heap.size,0,none⟩
def WR.boxed(x:WR G h w)(D:G.at_ n=none)(C:Array Value)(e:TypeId)(cs:List aa)(M: ∀(i:Nat) v,cs[i]? =some v->v.scal=true/\ ∃y,C[i]? =some y/\VR G v y):
 WR (G.boxed w n C.size) (h.set n (some (.cells cs))) (w.alloc (.cells C e))/\cZ G h w (G.boxed w n C.size) (h.set n (some (.cells cs))) (w.alloc (.cells C e)) n (n+1):=by
 obtain⟨R,q⟩:=x.alloc (.cells C e) (fun _=>none) (some C.size) (by simp) (fun d K=>⟨C,e,rfl,by injection K⟩);have A: ¬fg (G.more w.heap.size (fun _=>none) (some C.size)) h w.heap.size:=by
  rintro⟨m,a,J,N,g⟩
  have:=x.below m a N;omega
 have O:=R.named (n:=n) (a:=⟨w.heap.size,0,none⟩) (o:=.cells cs) D (by simp) rfl A
  ⟨C,e,by rw[pJ,iP rfl],by simp[Gh.more],fun i v hi=>by
    obtain⟨I,y,H,z⟩:=M i v hi;exact⟨I,y,by simpa using H,z.mono (q 0 0).le⟩⟩
  (by simp[Gh.more])
 refine⟨O,⟨(q 0 0).le.trans (Gh.name_le _ _ D),(q 0 0).size,(q 0 0).keepW,?_,?_,?_,(q 0 0).quiet,fun b g u=>(Dd u).elim (fun e=>absurd (e▸g) (cD _)) ((q 0 0).ownsW b g)⟩⟩;intro b g u;rcases De u with rfl|u
 exact absurd g (cD _);exact(q 0 0).owns b g u;intro m a J F
 simp_all [Gh.boxed,Gh.name,Gh.more]
 intro b o v g z F;exact(q 0 0).cells b o v g z F
def Gh.boxed_at(G:Gh)(w:World)(n size:Nat):(G.boxed w n size).at_ n=some ⟨w.heap.size,0,none⟩:=by simp[Gh.boxed,Gh.name]
def Gh.boxed_dim(G:Gh)(w:World)(n size:Nat):(G.boxed w n size).dim w.heap.size=some size:=by simp[Gh.boxed,Gh.name,Gh.more]
theorem ck.rows{vs:List aa}(g:ck G vs C.toList)(u:dG vs=true):
 ∀(i:Nat) v,vs[i]? =some v->v.scal=true/\ ∃y,C[i]? =some y/\VR G v y:=by
 intro i v hi;refine⟨?_,?_⟩
 grind [dG]
 obtain⟨y,d,q⟩:=g.get hi;exact⟨y,by simpa using d,q⟩
end
variable{loc':Loc}{hh:Nat}{dst:Option Tmp}{hint:Tmp->Nat}{t:TypeId}
section
variable{P:Program}{mk:aK}{G:Gh}{s s':St}{B:Nat->Nat}{fr:Fr}{a:Act}{w:World}{o:Oper}
theorem YV{cs:List aa}(wr:WR G s.heap w)(fx:cN G s.heap B fr a.tmps w)(D:(execOp a.eval o).run P w= .ok (.value (.pointer (some ⟨w.heap.size,0,none⟩))) (w.alloc (.cells C e)))(V: ∀(i:Nat) v,cs[i]? =some v->v.scal=true/\ ∃y,C[i]? =some y/\VR G v y)(z:rz hh dst cs fr.loc s=some (v,loc',s'))(H: ∀n,s.aL<=n->n<s'.aL->G.at_ n=none):
 gj P G s.heap w B fr.loc s.aL s'.aL a o v loc' s'.heap:=by
 unfold rz at z;rcases ig z with⟨_,z⟩|⟨_,z⟩
 simp only[ak] at z;obtain⟨t,_,z⟩:=z;simp only[aJ,bI] at z;obtain⟨rfl,rfl,rfl⟩:=z;obtain⟨K,I⟩:=wr.fresh (.cells C e);have J:=fx.locs.ext (I s.aL s.aL);refine⟨_,_,_,G,fun u=>if u=t then w.heap.size else B u,D,.inl rfl,K,(I _ _).toL _,⟨?_,?_,?_,?_⟩,?_,?_,?_⟩;intro u A d;rw[Loc.gen_set,Loc.get_set] at d;by_cases eu:u=t
 grind [pJ]
 rw[iN eu,iN eu] at d;rw[iN eu];exact J.cells u A d;intro u A d;rw[Loc.gen_set,Loc.get_set] at d;by_cases eu:u=t;rw[iP eu];intro T;exact cD _ (wr.owned_lt T);rw[iN eu,iN eu] at d;rw[iN eu];exact J.free u A d;intro u A d k;rw[Loc.gen_set,Loc.get_set] at d;by_cases eu:u=t;rw[iP eu];cases hr:G.ro w.heap.size k with
 |none=>rfl
 |some v=>exact absurd (wr.ro_lt hr) (cD _)
 rw[iN eu,iN eu] at d;rw[iN eu];exact J.ro u A d k;intro u N A M d F R;rw[Loc.gen_set,Loc.get_set] at d F;have old: ∀ {q:Nat} {cs:List aa},fr.loc.get q (fr.loc.gen q)=some cs->B q<w.heap.size:=fun {q cs} S=>by
  obtain⟨C,e,Z,_⟩:=fx.locs.cells q cs S;exact jB Z
 by_cases eu:u=t<;>by_cases eu':N=t;rw[eu,eu']
 grind
 grind
 rw[iN eu,iN eu] at d;rw[iN eu',iN eu'] at F;rw[iN eu,iN eu'] at R;exact fx.locs.inj u N A M d F R;show _<=_/\_
 grind [Loc.gen_set]
 intro u y O;cases u with
 |rd q g off=>
  obtain⟨l1,l3,l2⟩:=O;show _<=_/\_
  grind [Loc.gen_set]
 |_=>exact O
 rintro b ⟨u,A,d,rfl⟩;rw[Loc.gen_set,Loc.get_set] at d;by_cases eu:u=t
 grind
 rw[iN eu,iN eu] at d;simp only[iN eu];exact .inl ⟨u,A,d,rfl⟩;simp only[aJ,bI] at z;obtain⟨rfl,rfl,rfl⟩:=z;have U:G.at_ s.aL=none:=H s.aL (br _) (by simp[St.new]);obtain⟨K,I⟩:=wr.boxed U C e cs V;exact .heap fx D (.inl rfl) K I (LV.of_VR (by simpa using VR.ptr (off:=0) (Gh.boxed_at G w s.aL C.size)))
theorem GW{z:aa}(g:eV P t=some z): ∃i d,P.info? t=some i/\i.zero=some d/\ofValue d=some z:=by
 grind [eV,ak]
def vL{i:TypeInfo}{d:Value}(hi:P.info? t=some i)(g:i.zero=some d)(w:World):(zeroValue t).run P w= .ok d w:=by
 simp[zeroValue,typeInfo,hi,g]
def aoh(I:o.op= .alloc e)(wr:WR G s.heap w)(fx:cN G s.heap B fr a.tmps w)(g:JQ P hint dst e fr s=some (v,loc',s'))(d: ∀n,s.aL<=n->n<s'.aL->G.at_ n=none):
 gj P G s.heap w B fr.loc s.aL s'.aL a o v loc' s'.heap:=by
 simp only[JQ,ak] at g;obtain⟨z,F,g⟩:=g;obtain⟨i,D,hi,q,u⟩:=GW F;obtain⟨A,H⟩:=xr G u;exact YV (C:=D.cells) (e:=e) wr fx (by simp[execOp,I,Instr.alloc,vL hi q,newVar,newRow]) (A.cells.rows (A.scals_cells H)) g d
def aok(D:o.op= .box e x)(wr:WR G s.heap w)(fx:cN G s.heap B fr a.tmps w)(g:JS hint dst x fr s=some (v,loc',s'))(d: ∀n,s.aL<=n->n<s'.aL->G.at_ n=none):
 gj P G s.heap w B fr.loc s.aL s'.aL a o v loc' s'.heap:=by
 simp only[JS,ak] at g;obtain⟨u,z,g⟩:=g;obtain⟨q,A⟩:=fx.evc z;exact YV (C:=(a.eval x).cells) (e:=e) wr fx (by simp[execOp,D,Instr.box,newVar,newRow]) (q.cells.rows (q.scals_cells A)) g d
end
variable{ys:List Value}{cs':List aa}{base off:Nat}
section
variable{P:Program}{mk:aK}{G:Gh}{s s':St}{B:Nat->Nat}{fr:Fr}{a:Act}{w:World}{o:Oper}{lo hi:Nat}
def dr{d:TypeDesc}(h:P.underlying t=some d)(w:World):(underlying t).run P w= .ok d w:=by
 simp[underlying,h]
def Kt{b:Bool}(h:AP P t=some b)(w:World):(isAgg t).run P w= .ok b w:=by
 simp only[AP,ak] at h;obtain⟨d,g,h⟩:=h;cases d<;>simp at h<;>subst h<;>simp[isAgg,dr g]
def iJ(h:dI P t=some n)(w:World):(sizeOf t).run P w= .ok n w:=by
 simp only[dI,ak] at h;obtain⟨i,hi,h⟩:=h
 simp_all [sizeOf,typeInfo]
theorem Cc{cs r:List aa}(h:cut cs off n=some r):r=(cs.drop off).take n/\r.length=n:=by
 grind [cut,U1]
theorem Ev{cs r:List aa}(h:cut cs off n=some r)(hi:r[i]? =some v):cs[off+i]? =some v:=by
 obtain⟨g,d⟩:=Cc h
 grind
theorem PW{cs:List aa}{f:Nat->Option Value}(d: ∀(i:Nat) u,cs[i]? =some u->u.scal=true/\ ∃x,f i=some x/\VR G u x):
 ∃vs:List Value,ck G cs vs/\dG cs=true/\ ∀(i:Nat) x,vs[i]? =some x->f i=some x:=by
 induction cs generalizing f with
 |nil=>exact⟨[],.nil,rfl,by simp⟩
 |cons c cs g=>
  obtain⟨D,x,A,q⟩:=d 0 c (by simp);obtain⟨vs,z,H,F⟩:=g (f:=fun i=>f (i+1)) (fun i u hi=>d (i+1) u (by simpa using hi));refine⟨x::vs,.cons q z,by grind [dG],?_⟩
  grind
def zC{cs:List aa}(h:js P t cs off=some v)(A: ∀(i:Nat) u,cs[i]? =some u->u.scal=true/\ ∃x,w.cell? ⟨b,base+i,none⟩=some x/\VR G u x):
 ∃y,(loadVar t ⟨b,base+off,none⟩).run P w= .ok y w/\VR G v y/\ ∀l,v≠ .tup l:=by
 simp only[js,ak] at h;obtain⟨g,M,h⟩:=h;replace h:=ig h;rcases h with⟨F,h⟩|⟨F,h⟩<;>subst F
 simp only[ak] at h;obtain⟨n,S,r,q,h⟩:=h;injection h with h;subst h
 obtain⟨vs,D,R,O⟩:=PW (G:=G) (cs:=r) (f:=fun i=>w.cell? ⟨b,base+off+i,none⟩) (fun i u hi=>by
  have:=A (off+i) u (Ev q hi);rwa [<-wq] at this)
 have z:vs.length=n:=by rw[<-D.length];exact(Cc q).2
 refine⟨.agg ⟨vs⟩,?_,.agg R D,by simp⟩;have T:=run_loadCells_list (P:=P) (w:=w) ⟨b,base+off,none⟩ vs (fun j v K=>by rw[oX];exact O j v K)
 simp_all [loadVar,Kt,iJ]
 split at h;rename_i u d N;injection h with h;subst h
 have hi:cs[off]? =some u:=by
  have:(cs.drop off)[0]? =some u:=by rw[N];rfl
  simpa[DS] using this
 obtain⟨J,x,H,I⟩:=A off u hi;refine⟨x,?_,I,fun l e=>by subst e;simp[aa.scal] at J⟩;simp[loadVar,Kt M,H];cases h
theorem iZ{ob:aR}(h:s.get mk n=some ob):s.heap.get n=some ob:=by
 grind [St.get]
theorem aox(ho:o.op= .load t x)(wr:WR G s.heap w)(fx:cN G s.heap B fr a.tmps w)(d:C7 P mk t x fr s=some (v,loc',s')):gj P G s.heap w B fr.loc lo hi a o v loc' s'.heap:=by
 simp only[C7,ak] at d;obtain⟨u,hu,d⟩:=d;replace d:=lG d;obtain⟨d,rfl,rfl⟩:=d;have A:=fx.ev hu;unfold mr at d;split at d;rename_i R g off;simp only[ak] at d;obtain⟨cs,D,d⟩:=d;obtain⟨h1,_,Z⟩:=A;have hg:g=fr.loc.gen R:=by
  clear d Z;revert D;generalize fr.loc=l at*
  induction l with
  |nil=>intro D;simp[Loc.get] at D
  |cons y l ih=>
   grind [Loc.get,Loc.gen,U1]
 replace Z:=Z hg;subst hg;obtain⟨C,e,O,N⟩:=fx.locs.cells R cs D;obtain⟨y,I,F,S⟩:=zC (w:=w) (b:=B R) (base:=0) d (fun i u hi=>by
  obtain⟨J,z,H,K⟩:=N i u hi;exact⟨J,z,by rw[o0 O];simpa using H,K⟩)
 refine .pure wr fx (y:=y) ?_ (LV.of_VR F)
 simp_all [execOp,Instr.loadAt,Instr.sureAddr]
 rename_i n off;simp only[ak] at d;obtain⟨ob,M,d⟩:=d;split at d;rename_i cs;have A:VR G _ _:=A;generalize hx:a.eval x=y at A;cases A;rename_i ad V;obtain⟨a0,q,T,C,e,O,_,N⟩:=wr.obj n _ (iZ M);rw[V] at q;injection q with q;subst q
 obtain⟨y,I,F,S⟩:=zC (w:=w) (b:=ad.block) (base:=ad.off) d (fun i u hi=>by
  obtain⟨J,z,H,K⟩:=N i u hi;exact⟨J,z,by rw[o0 O];exact H,K⟩)
 refine .pure wr fx (y:=y) ?_ (LV.of_VR F);simp[execOp,ho,hx,Instr.loadAt,Instr.sureAddr,I];rename_i cs;have A:VR G _ _:=A;generalize hx:a.eval x=y at A;cases A;rename_i ad V;obtain⟨a0,q,T,C,e,O,_,N⟩:=wr.obj n _ (iZ M);rw[V] at q;injection q with q;subst q
 obtain⟨y,I,F,S⟩:=zC (w:=w) (b:=ad.block) (base:=ad.off) d (fun i u hi=>by
  obtain⟨J,z,H,K⟩:=N i u hi;exact⟨J,z,by rw[o0 O];exact H,K⟩)
 refine .pure wr fx (y:=y) ?_ (LV.of_VR F);simp[execOp,ho,hx,Instr.loadAt,Instr.sureAddr,I];cases d;rename_i cs;have A:VR G _ _:=A;generalize hx:a.eval x=y at A;cases A;rename_i b base U;obtain⟨y,I,F,S⟩:=zC (w:=w) (b:=b) (base:=base) d (fun i u hi=>wr.ro _ _ _ (U i u hi));refine .pure wr fx (y:=y) ?_ (LV.of_VR F)
 simp_all [execOp,Instr.loadAt,Instr.sureAddr]
 cases d
theorem Xq{t g:Nat}{cs:List aa}(h:l.get t g=some cs):g=l.gen t:=by
 induction l with
 |nil=>simp[Loc.get] at h
 |cons y l d=>
  grind [Loc.get,Loc.gen,U1]
theorem abx{cs new:List aa}(h:fL cs off new=some cs'):
 off+new.length<=cs.length/\cs'.length=cs.length/\ ∀i:Nat,cs'[i]? =if off<=i/\i<off+new.length then new[i-off]? else cs[i]? :=by
 simp only[fL] at h;obtain⟨d,g⟩:=bh h;have d:=lA d
 grind
theorem zx{cs new:List aa}(h:fL cs off new=some cs')(q:ck G new ys)(I:dG new=true)(g:new≠ [])(D: ∀(i:Nat) u,cs[i]? =some u->u.scal=true/\ ∃x,C[base+i]? =some x/\VR G u x):
 base+off+ys.length<=C.size/\ ∀(i:Nat) u,cs'[i]? =some u->u.scal=true/\ ∃x,(kd C (base+off) ys)[base+i]? =some x/\VR G u x:=by
 obtain⟨M,K,F⟩:=abx h;have J:=q.length;have A:0<new.length:=List.length_pos_iff.2 g;have d:base+off+ys.length<=C.size:=by
  have hi:off+new.length-1<cs.length:=by omega
  obtain⟨_,x,z,_⟩:=D (off+new.length-1) cs[off+new.length-1] (gn hi);have:base+(off+new.length-1)<C.size:=by
   rcases nZ (base+(off+new.length-1)) C.size with h|h
   exact h;simp[Array.getElem?_eq_none h] at z
  omega
 refine⟨d,fun i u hi=>?_⟩;rw[F] at hi;rw[KV _ _ _ _ d];by_cases c:off<=i/\i<off+new.length;rw[iP c] at hi;rw[iP (by omega)];obtain⟨x,z,H⟩:=q.get hi
 grind [dG]
 grind
def ck.ones{vs:List aa}(u:ck G vs ys)(g:dG vs=true): ∀y∈ys,y.oneCell'=true:=by
 induction vs generalizing ys with
 |nil=>cases u;simp
 |cons v vs z=>
  cases u with
  |cons p q=>
   simp only[dG,ju,bu] at g;intro y d;simp at d;rcases d with rfl|d
   exact p.one g.1;exact z q g.2 y d
theorem WR.putFree(x:WR G h w){C':Array Value}(N:w.heap[b]? =some (.cells C e (0,0)))(R:C'.size=C.size)(K: ¬fg G h b)(A: ∀o,G.ro b o=none):WR G h (dU w b (.cells C' e (0,0))):=by
 have F:=jB N;have g: ∀c,(dU w b (.cells C' e (0,0))).heap[c]? =if c=b then some (.cells C' e (0,0)) else w.heap[c]? :=fun c=>jZ w b c _ F
 refine⟨?_,x.sep,?_,x.apart,?_,fun n a q=>by simp;exact x.below n a q⟩;intro n o I;obtain⟨a,q,z,A⟩:=x.obj n o I;refine⟨a,q,z,A.of_block ?_⟩;rw[g,iN];intro H;exact K ⟨n,a,by rw[I];simp,q,H⟩;intro c o v u;by_cases H:c=b;subst H;rw[A] at u;cases u;obtain⟨U,y,O,T⟩:=x.ro c o v u
 grind [World.cell?]
 intro c d M;obtain⟨D,t,S,J⟩:=x.dim c d M
 grind
theorem aoJ{z:Operand}(ho:o.op= .store t x z)(wr:WR G s.heap w)(fx:cN G s.heap B fr a.tmps w)(he:C8 P mk t x z fr s=some (v,loc',s')):gj P G s.heap w B fr.loc lo hi a o v loc' s'.heap:=by
 simp only[C8,ak] at he;obtain⟨u,hu,nv,b0,r,A,he⟩:=he;simp only[aJ,bI] at he;obtain⟨rfl,rfl,rfl⟩:=he;have hl:=fx.ev hu;obtain⟨hv,ht⟩:=fx.evc b0;have T:=hv.cells;have a1:=hv.scals_cells ht;simp only[ui,ak] at A;obtain⟨n,hn,A⟩:=A;replace A:=bh A;obtain⟨M,A⟩:=A;simp only[bu] at M;have R:=U1 M.1;have b7:=qA M.2;have a8:nv.cells≠ []:=by intro e;rw[e] at R;simp at R;omega
 have a0:(a.eval z).cells.size=n:=by
  have:=T.length;rw[R] at this;simpa using this.symm
 have V: ∀(b off:Nat) (C:Array Value) (e:TypeId),w.heap[b]? =some (.cells C e (0,0))->off+(a.eval z).cells.toList.length<=C.size->a.eval x= .pointer (some ⟨b,off,none⟩)->
  (execOp a.eval o).run P w= .ok .skip (dU w b (.cells (kd C off (a.eval z).cells.toList) e (0,0))):=by
  intro b off C e U S hx;have h1:=Ku (P:=P) b off e (a.eval z).cells.toList 0 w C U (by omega) (T.ones a1);simp only[gB] at h1;simp[execOp,ho,hx,Instr.storeAt,Instr.sureAddr,storeVar,iJ hn,a0,h1]
 split at A;rename_i l g off;simp only[ak] at A;obtain⟨cs,F,cs',hw,A⟩:=A;simp only[aJ] at A;obtain⟨rfl,rfl⟩:=A;have hg:=Xq F;obtain⟨h1,_,h2⟩:=hl;replace h2:=h2 hg;subst hg;obtain⟨C,e,U,hc⟩:=fx.locs.cells l cs F;obtain⟨S,J⟩:=zx (base:=0) hw T a1 a8 (fun i u hi=>by simpa using hc i u hi);simp only[Nat.zero_add] at S J;have a5:=fx.locs.free l cs F;have a9:=fx.locs.ro l cs F;have b2:=jB U;have Z: ∀c,(dU w (B l) (.cells (kd C off (a.eval z).cells.toList) e (0,0))).heap[c]? =if c=B l then some (.cells (kd C off (a.eval z).cells.toList) e (0,0)) else w.heap[c]? :=fun c=>jZ w _ c _ b2
 have a4: ∀q,(fr.loc.set l (fr.loc.gen l) cs').gen q=fr.loc.gen q:=fun q=>by
  grind [Loc.gen_set]
 have a3: ∀q I,(fr.loc.set l (fr.loc.gen l) cs').get q ((fr.loc.set l (fr.loc.gen l) cs').gen q)=some I->
  (q=l/\I=cs')\/(q≠l/\fr.loc.get q (fr.loc.gen q)=some I):=fun q I N=>by
  grind [Loc.get_set]
 have D: ∀q I,(fr.loc.set l (fr.loc.gen l) cs').get q ((fr.loc.set l (fr.loc.gen l) cs').gen q)=some I-> ∃H,fr.loc.get q (fr.loc.gen q)=some H:=fun q I N=>by
  grind
 refine⟨_,undef,_,G,B,V (B l) off C e U S h2,.inr ⟨rfl,rfl⟩,wr.putFree U (by simp) a5 a9,
  ⟨.refl G,by simp,?_,fun _ _ h=>h,fun n a h h'=>(by rw[h] at h';cases h'),fun b o v _ h h'=>(by rw[h] at h';cases h'),Gk w U rfl rfl,fun _ _ h=>h⟩,⟨?_,?_,?_,?_⟩,LV.of_VR (.tup .nil),?_,?_⟩
 intro b _ _ b1;rw[Z,iN];intro e';exact b1 ⟨l,cs,F,e'.symm⟩;intro q I N;rcases a3 q I N with⟨rfl,rfl⟩|⟨a7,N⟩
 grind
 obtain⟨C',e',b5,b4⟩:=fx.locs.cells q I N;refine⟨C',e',?_,b4⟩;rw[Z,iN];·exact b5
 intro b6;exact a7 (fx.locs.inj q l I cs N F b6);intro q I N;obtain⟨H,K⟩:=D q I N;exact fx.locs.free q H K;intro q I N;obtain⟨H,K⟩:=D q I N;exact fx.locs.ro q H K;intro q q' I H N K hB;obtain⟨d1,h1⟩:=D q I N;obtain⟨d2,h2⟩:=D q' H K;exact fx.locs.inj q q' d1 d2 h1 h2 hB;intro u y hu;cases u with
 |rd q g off=>show _<=_/\_;rw[a4];exact hu
 |_=>exact hu
 rintro b ⟨q,I,N,rfl⟩;obtain⟨H,K⟩:=D q I N;exact .inl ⟨q,H,K,rfl⟩;rename_i m off;simp only[ak] at A;obtain⟨ob,a2,A⟩:=A;split at A;rename_i cs;simp only[ak] at A;obtain⟨cs',hw,A⟩:=A;simp only[aJ] at A;obtain⟨rfl,rfl⟩:=A;have hl:VR G _ _:=hl;generalize hx:a.eval x=y at hl;cases hl;rename_i ad a6;obtain⟨c0,O,b8,C,e,U,b3,hc⟩:=wr.obj m _ (iZ a2);rw[a6] at O;injection O with O;subst O
 obtain⟨S,J⟩:=zx (base:=ad.off) hw T a1 a8 hc;obtain⟨h1,h2⟩:=wr.changed (o':=.cells cs') (ob:=.cells (kd C (ad.off+off) (a.eval z).cells.toList) e (0,0)) (iZ a2) a6
  ⟨_,e,by rw[jZ _ _ _ _ (jB U),iP rfl],by rw[b3];simp,J⟩
  (fun i v hv=>by have:=(wr.apart m _ ad i v (iZ a2) a6 hv).1;cases this)
  (fun d hd=>by
   simp_all)
 exact .heap fx (V ad.block (ad.off+off) C e U S hx) (.inr ⟨rfl,rfl⟩) h1 (h2 _ _) (LV.of_VR (.tup .nil));cases A;cases A
end
section
variable{P:Program}{G:Gh}
theorem zA{cs:List aa}{vs:List Value}(h:js P t cs off=some v)(z:ck G cs vs)(A:dG cs=true):
 ∃y,(∀w:World,(part t ⟨vs⟩ off).run P w= .ok y w)/\VR G v y/\ ∀l,v≠ .tup l:=by
 simp only[js,ak] at h;obtain⟨g,H,h⟩:=h;replace h:=ig h;rcases h with⟨D,h⟩|⟨D,h⟩<;>subst D
 simp only[ak] at h;obtain⟨n,K,r,d,h⟩:=h;injection h with h;subst h
 obtain⟨J,M⟩:=Cc d;refine⟨.agg ⟨(vs.drop off).take n⟩,fun w=>?_,.agg ?_ ?_,by simp⟩
 simp_all [part,Kt,iJ]
 grind [dG]
 rw[J];exact(z.drop off).take n;split at h;rename_i u q I;injection h with h;subst h
 have hi:cs[off]? =some u:=by
  have:(cs.drop off)[0]? =some u:=by rw[I];rfl
  simpa[DS] using this
 obtain⟨y,F,d⟩:=z.get hi;refine⟨y,fun w=>?_,d,fun l e=>?_⟩;simp[part,Kt H,F];subst e;simp only[dG,f8] at A
 have:=A _ (List.mem_of_getElem? hi);simp[aa.scal] at this;cases h
def Z0{u:TypeId->aa->aa->Option Bool}{d:Nat}{e:TypeId}{n:Nat}{xs ys:List aa}{H F:List Value}(M:ck G xs H)(K:ck G ys F)(J:dG xs=true)(I:dG ys=true)(g: ∀ {x y:aa} {X Y:Value} {r:Bool},u e x y=some r->VR G x X->VR G y Y-> ∀w:World,(zW d e X Y).run P w= .ok r w)(w:World):
 ∀(k i:Nat) {r:Bool},EA P u e n xs ys k i=some r->
  ((forIn (m:=Sem) (List.range' i k) ((none,()):Option Bool×Unit) fun i _=>do
   let a<-part e ⟨H⟩ (i*n)
   let b<-part e ⟨F⟩ (i*n)
   let q<-zW d e a b
   if(!q)=true then pure (ForInStep.done (some false,())) else pure (ForInStep.yield (none,()))).run P w)= .ok (bif r then none else some false,()) w
 |0,i,r,h=>by simp[EA] at h;subst h;simp
 |k+1,i,r,h=>by
  simp only[EA,ak] at h;obtain⟨x,D,y,A,q,R,h⟩:=h;obtain⟨X,T,O,_⟩:=zA D M J;obtain⟨Y,S,N,_⟩:=zA A K I;have z:=g R O N;rw[List.range'_succ,List.forIn_cons];simp only[Sem.run_bind,T,S,z,mL];cases q;simp at h;subst h;simp;simp at h;simpa using Z0 M K J I g w k (i+1) h
def P1{rec:TypeId->aa->aa->Option Bool}{d:Nat}{xs ys:List aa}{xv yv:List Value}(hx:ck G xs xv)(hy:ck G ys yv)(sx:dG xs=true)(sy:dG ys=true)(hrec: ∀ {e:TypeId} {x y:aa} {X Y:Value} {r:Bool},rec e x y=some r->VR G x X->VR G y Y-> ∀w:World,(zW d e X Y).run P w= .ok r w)(w:World):
 ∀(fs:List Field) {r:Bool},Cg P rec xs ys fs=some r->(Op.eqFields d ⟨xv⟩ ⟨yv⟩ fs).run P w= .ok r w
 | [],r,h=>by simp_all [Cg,Op.eqFields]
 |f::fs,r,h=>by
  simp only[Cg] at h;replace h:=ig h;rcases h with⟨hn,h⟩|⟨hn,h⟩
  have hn:f.name= "_" :=by simpa using hn
  simp only[Op.eqFields,hn];simpa using P1 hx hy sx sy hrec w fs h;have hn:f.name≠ "_" :=by simpa using hn
  simp only[ak] at h;obtain⟨x,hx1,y,hy1,q,hq,h⟩:=h;obtain⟨X,hX,vX,_⟩:=zA hx1 hx sx;obtain⟨Y,hY,vY,_⟩:=zA hy1 hy sy;have hrun:=hrec hq vX vY;simp only[Op.eqFields,iP hn,Sem.run_bind,hX,hY,hrun,mL];cases q;simp at h;subst h;simp;simp at h;simpa using P1 hx hy sx sy hrec w fs h
def Uw{d:Array Field}(h:P.underlying t=some (.struct d)):P.fieldsOf t=d:=by simp[Program.fieldsOf,h]
theorem Kr: ∀(d:Nat) {t:TypeId} {x y:aa} {X Y:Value} {r:Bool},kI P d t x y=some r->VR G x X->VR G y Y->
 ∀(D:Nat),d<=D-> ∀w:World,(zW D t X Y).run P w= .ok r w
 |0,_,_,_,_,_,_,h,_,_=>by simp[kI] at h
 |d+1,t,x,y,X,Y,r,h,q,g=>by
  intro D O w;obtain⟨D,rfl⟩: ∃E,D=E+1:=⟨D-1,by omega⟩;simp only[kI,ak] at h;obtain⟨desc,z,h⟩:=h;have u:=dr (w:=w) z;split at h;cases q;cases g;injection h with h;subst h;simp[zW,u]
  cases q;cases g;replace h:=bh h;obtain⟨K,h⟩:=h;injection h with h;subst h
  have K:=of_decide_eq_true (by simpa using K);subst K;simp[zW,u,an];cases q;cases g;grind [run_equalIn_string,ByteArray.toList_mk]
  ·rename_i R xs ys
   cases q with|agg I q=>cases g with|agg H g=>
   replace h:=ig h;rcases h with⟨_,h⟩|⟨M,h⟩
   cases h;rw[run_equalIn_struct w D t _ _ (by rw[Uw z];exact z) M,Uw z];exact P1 q g I H (fun {e x y X Y r} J F A w=>Kr d J F A D (by omega) w) w _ h
  ·rename_i len e xs ys
   cases q with|agg I q=>cases g with|agg H g=>
   simp only[ak] at h;obtain⟨n,N,h⟩:=h
   have:=Z0 q g I H (d:=D) (fun {x y X Y r} J F A w=>Kr d J F A D (by omega) w) w len 0 h;simp only[zW,Sem.run_bind,u,mL,iJ N];rw[Std.Legacy.Range.forIn_eq_forIn_range'];simp only[Std.Legacy.Range.size,Nat.sub_zero,Nat.add_sub_cancel,Nat.div_one];rw[this];cases r<;>simp
  all_goals first
   |(cases q;cases g;injection h with h;subst h;simp[zW,u];done)
   |(cases h)
end
variable{op:BinOp}{Y:Value}{y:aa}
section
variable{P:Program}{G:Gh}
def aqk{k:IntKind}{a b:Int}(h:Ic op k a b=some v)(t:TypeId)(w:World)(h1:op≠ .shl)(g:op≠ .shr):
 ∃y,(binOp op t (.int k a) (.int k b)).run P w= .ok y w/\VR G v y:=by
 cases op<;>simp only[Ic,aJ,reduceCtorEq] at h<;>first
  |(subst h;exact⟨_,by simp[binOp];rfl,by constructor⟩)
  |(replace h:=ig h
    rcases h with⟨_,h⟩|⟨d,h⟩
    cases h;injection h with h;subst h
    have d:b≠0:=by simpa[an] using d
    exact⟨_,by simp[binOp,Op.intDiv,d];rfl,by constructor⟩)
  |exact absurd rfl h1
  |exact absurd rfl g
theorem Xg(a b:List UInt8):leBytes a b=(fN a b||a==b):=rfl
theorem aqn{a b:List UInt8}(h:Qt op a b=some v)(t:TypeId)(w:World):
 ∃y,(binOp op t (.string ⟨⟨a⟩⟩) (.string ⟨⟨b⟩⟩)).run P w= .ok y w/\VR G v y:=by
 have g: ∀l:List UInt8,(ByteArray.mk ⟨l⟩).toList=l:=fun l=>ByteArray.toList_mk l;cases op<;>simp only[Qt,aJ,reduceCtorEq] at h<;>first
  |(subst h;exact⟨_,by simp[binOp,Op.stringOp,g];rfl,by constructor⟩)
  |(subst h;exact⟨_,by simp[binOp,Op.stringOp,g,<-Xg];rfl,by constructor⟩)
  |(replace h:=bh h
    obtain⟨d,h⟩:=h;injection h with h;subst h
    have d:=lA d;refine⟨.string ⟨⟨a++b⟩⟩,?_,.str _⟩
    have:=run_string_add_sum (P:=P) w ⟨⟨a⟩⟩ ⟨⟨b⟩⟩ (by show a.length+b.length<=_;omega)
    grind [ByteArray.mk_append_mk,binOp])
set_option maxHeartbeats 1000000 in
theorem ZZ{x:aa}{X:Value}{r:Bool}(h:wP P t x y=some r)(g:VR G x X)(d:VR G y Y)(A z:Operand)(op:BinOp)(w:World):
 (eqGuard op t A z X Y).run P w= .ok () w/\ ∀w:World,(Op.equal t X Y).run P w= .ok r w:=by
 have u: ∀ {x y},kI P 8 t x y=some r->VR G x X->VR G y Y-> ∀w:World,(Op.equal t X Y).run P w= .ok r w:=fun h g d w=>Kr 8 h g d 10000 (by omega) w;unfold wP at h;split at h;replace h:=ig h;rcases h with⟨_,h⟩|⟨F,h⟩
 cases h;refine⟨?_,u h g d⟩;cases g;cases d
 grind [run_eqGuard_agg]
 refine⟨?_,u h g d⟩;rename_i q;simp only[kI,ak] at h;obtain⟨desc,D,h⟩:=h;cases g<;>cases d<;>first
  |(exact absurd rfl (q _ _ rfl))
  |(simp at h;done)
  |(cases op<;>simp[eqGuard])
def aqh{x:aa}{X:Value}(h:eB P op t x y=some v)(q:VR G x X)(g:VR G y Y)(H F:Operand)(w:World):
 ∃z,((do eqGuard op t H F X Y;binOp op t X Y):Sem Value).run P w= .ok z w/\VR G v z:=by
 unfold eB at h;split at h;rename_i k a K b;cases q;cases g;have D: ∀w:World,(eqGuard op t H F (.int k a) (.int K b)).run P w= .ok () w:=fun w=>by cases op<;>simp[eqGuard]
 simp only[Sem.run_bind,D,mL];split at h;replace h:=ig h;rcases h with⟨_,h⟩|⟨d,h⟩
 cases h;injection h with h;subst h
 have d: ¬b<0:=by simpa[bc] using d
 exact⟨_,by simp[binOp,Op.shift,d];rfl,by constructor⟩;replace h:=ig h;rcases h with⟨_,h⟩|⟨d,h⟩
 cases h;injection h with h;subst h
 have d: ¬b<0:=by simpa[bc] using d
 exact⟨_,by simp[binOp,Op.shift,d];rfl,by constructor⟩;rename_i O N;replace h:=bh h;obtain⟨M,h⟩:=h
 simp_all [aqk]
 cases q;cases g
 simp_all [eqGuard,aqn]
 rename_i A u;split at h;simp only[ak] at h;obtain⟨b,J,h⟩:=h;injection h with h;subst h
 obtain⟨D,I⟩:=ZZ J q g H F .eql w;refine⟨.bool b,?_,.bool b⟩;simp only[Sem.run_bind,D,mL];cases q<;>cases g<;>first
  |(exact absurd rfl (A _ _ _ _ rfl))
  |(exact absurd rfl (u _ _ rfl))
  |(simp[binOp,I])
 simp only[ak] at h;obtain⟨b,J,h⟩:=h;injection h with h;subst h
 obtain⟨D,I⟩:=ZZ J q g H F .neq w;refine⟨.bool (!b),?_,.bool (!b)⟩;simp only[Sem.run_bind,D,mL];cases q<;>cases g<;>first
  |(exact absurd rfl (A _ _ _ _ rfl))
  |(exact absurd rfl (u _ _ rfl))
  |(simp[binOp,I])
 cases h
end
variable{xs:List aa}{j:Nat}
theorem UC(d: ∀x∈xs,x.cells.length=sz)(g:j<xs.length)(hi:i<sz):
 (aF xs)[j*sz+i]? =(nN xs j).cells[i]? :=by
 induction xs generalizing j with
 |nil=>simp at g
 |cons x xs q=>
  have u:=d x (by simp);cases j with
  |zero=>grind [aF,nN]
  |succ j=>
   grind [aF,nN]
theorem ans(d:j<xs.length):nN xs j∈xs:=by
 induction xs generalizing j with
 |nil=>simp at d
 |cons x xs g=>
  cases j with
  |zero=>simp[nN]
  |succ j=>grind [nN]
theorem om(d: ∀x∈xs,x.cells.length=sz):(aF xs).length=xs.length*sz:=by
 induction xs with
 |nil=>simp[aF]
 |cons x xs g=>grind [aF]
variable{f:Nat}
section
variable{P:Program}{mk:aK}{G:Gh}{s s':St}{B:Nat->Nat}{fr:Fr}{a:Act}{w:World}{o:Oper}{lo hi:Nat}{v:aa}{loc':Loc}
def aoj{g:TypeId}{y:Operand}(H:o.op= .binOp op t x y g)(wr:WR G s.heap w)(fx:cN G s.heap B fr a.tmps w)(d:JR P op t x y fr s=some (v,loc',s')):gj P G s.heap w B fr.loc lo hi a o v loc' s'.heap:=by
 simp only[JR,ak] at d;obtain⟨p,F,q,D,d⟩:=d;replace d:=lG d;obtain⟨d,rfl,rfl⟩:=d;obtain⟨z,u,A⟩:=aqh d (fx.evc F).1 (fx.evc D).1 x y w;refine .pure wr fx (y:=z) ?_ (LV.of_VR A);simp only[execOp,H];rw[Sem.run_bind,u];rfl
def aoK{op:UnOp}(q:o.op= .unOp op t x)(wr:WR G s.heap w)(fx:cN G s.heap B fr a.tmps w)(d:m8 x (Bq op) fr s=some (v,loc',s')):gj P G s.heap w B fr.loc lo hi a o v loc' s'.heap:=by
 simp only[m8,ak] at d;obtain⟨p,u,d⟩:=d;replace d:=lG d;obtain⟨d,rfl,rfl⟩:=d;have g:=(fx.evc u).1;generalize hx:a.eval x=X at g;unfold Bq at d;split at d;injection d with d;subst d;cases g
 exact .pure wr fx (by simp[execOp,q,hx,Op.unary,Op.intArith]) (LV.of_VR (.int _ _));injection d with d;subst d;cases g
 exact .pure wr fx (by simp[execOp,q,hx,Op.unary]) (LV.of_VR (.bool _));cases d
def aoo{g dst:TypeId}(z:o.op= .convert g dst x)(wr:WR G s.heap w)(fx:cN G s.heap B fr a.tmps w)(d:m8 x (uW P g dst) fr s=some (v,loc',s')):gj P G s.heap w B fr.loc lo hi a o v loc' s'.heap:=by
 simp only[m8,ak] at d;obtain⟨p,u,d⟩:=d;replace d:=lG d;obtain⟨d,rfl,rfl⟩:=d;have q:=(fx.evc u).1;generalize hx:a.eval x=X at q;simp only[uW,ak] at d;obtain⟨H,D,F,A,d⟩:=d;split at d;injection d with d;subst d;cases q
 exact .pure wr fx (by simp_all [execOp,convert,dr,Conv.intToInt]) (LV.of_VR (.int _ _));injection d with d;subst d;cases q
 exact .pure wr fx (by simp_all [execOp,convert,dr]) (LV.of_VR (.str _));cases d
theorem aoz{fn:Fn}{first captured:Array Operand}(z:o.op= .makeFunc fn first captured)(wr:WR G s.heap w)(fx:cN G s.heap B fr a.tmps w)(d:rR fr.env fn first captured=some v):gj P G s.heap w B fr.loc lo hi a o v fr.loc s.heap:=by
 unfold rR at d;split at d;simp only[ak] at d;obtain⟨p,u,q,g,d⟩:=d;injection d with d;subst d
 rename_i f;refine .pure wr fx (y:=.func (.func f) (first.map a.eval) (captured.map a.eval)) (by simp[execOp,z,Instr.makeFunc]) (LV.of_VR ?_);have D:=(fx.evcs u).1;have A:=(fx.evcs g).1;have H:first.map a.eval=⟨first.toList.map a.eval⟩:=by apply qp;simp
 have F:captured.map a.eval=⟨captured.toList.map a.eval⟩:=by apply qp;simp
 rw[H,F];exact .func D A;cases d
def aos(D:o.op= .extract x i)(wr:WR G s.heap w)(fx:cN G s.heap B fr a.tmps w)(d:qT x (fh i) fr s=some (v,loc',s')):gj P G s.heap w B fr.loc lo hi a o v loc' s'.heap:=by
 simp only[qT,ak] at d;obtain⟨p,A,d⟩:=d;replace d:=lG d;obtain⟨d,rfl,rfl⟩:=d;have g:=fx.ev A;unfold fh at d;split at d;have g:VR G _ _:=g;generalize hx:a.eval x=X at g;cases g with
 |tup z=>
  obtain⟨y,q,u⟩:=z.get d;exact .pure wr fx (y:=y) (by simp[execOp,D,hx,Instr.extract,q]) (LV.of_VR u)
 cases d
theorem aou(N:o.op= .fieldAddr t x f)(wr:WR G s.heap w)(fx:cN G s.heap B fr a.tmps w)(q:qT x (fun x=>tl P fr.loc t x f) fr s=some (v,loc',s')):gj P G s.heap w B fr.loc lo hi a o v loc' s'.heap:=by
 simp only[qT,ak] at q;obtain⟨p,M,q⟩:=q;replace q:=lG q;obtain⟨q,rfl,rfl⟩:=q;have z:=fx.ev M;simp only[tl,ak] at q;obtain⟨d,O,q⟩:=q;split at q;rename_i D;simp only[ak] at q;obtain⟨T,I,n,F,q⟩:=q;replace q:=ig q;rcases q with⟨_,q⟩|⟨J,q⟩
 cases q;have J:=BS J;have u: ∀b off,a.eval x= .pointer (some ⟨b,off,none⟩)->(execOp a.eval o).run P w= .ok (.value (.pointer (some ⟨b,off+T.offset,none⟩))) w:=by
  intro b off A;simp[execOp,N,A,Instr.fieldAt,dr O,I,Instr.sureAddr,fieldPlace,iJ F,J,oX]
 split at q;rename_i l g off;replace q:=bh q;obtain⟨H,q⟩:=q;have H:=(U1 H).symm;injection q with q;subst q
 obtain⟨S,_,R⟩:=z;exact .pure wr fx (u _ _ (R H)) ⟨S,⟨_,rfl⟩,fun _=>rfl⟩;injection q with q;subst q
 have z:VR G _ _:=z;generalize A:a.eval x=X at z;cases z with
 |ptr F=>exact .pure wr fx (u _ _ A) (LV.of_VR (by rw[wq];exact .ptr F))
 injection q with q;subst q
 have z:VR G _ _:=z;generalize A:a.eval x=X at z;cases z with
 |ro K=>exact .pure wr fx (u _ _ A) (LV.of_VR (.ro fun i y U=>by grind))
 cases q;cases q
def aot(I:o.op= .field t x f)(wr:WR G s.heap w)(fx:cN G s.heap B fr a.tmps w)(g:m8 x (fun x=>yD P t x f) fr s=some (v,loc',s')):gj P G s.heap w B fr.loc lo hi a o v loc' s'.heap:=by
 simp only[m8,ak] at g;obtain⟨p,D,g⟩:=g;replace g:=lG g;obtain⟨g,rfl,rfl⟩:=g;have u:=(fx.evc D).1;simp only[yD,ak] at g;obtain⟨d,J,g⟩:=g;split at g;simp only[ak] at g;obtain⟨K,F,g⟩:=g;split at g;generalize hx:a.eval x=X at u;cases u with
 |agg z q=>
  obtain⟨y,H,A,_⟩:=zA g q z;exact .pure wr fx (y:=y) (by simp_all [execOp,Instr.field,dr,asAgg]) (LV.of_VR A)
 cases g;cases g
def C0{i:aa}(h:dS i=some n): ∃k,i= .int k (.ofNat n):=by
 unfold dS at h;split at h
 all_goals simp_all
theorem aow{i:Operand}(S:o.op= .indexAddr t x i)(wr:WR G s.heap w)(fx:cN G s.heap B fr a.tmps w)(u:C6 P t x i fr s=some (v,loc',s')):gj P G s.heap w B fr.loc lo hi a o v loc' s'.heap:=by
 simp only[C6,ak] at u;obtain⟨p,hp,q,hq,u⟩:=u;replace u:=lG u;obtain⟨u,rfl,rfl⟩:=u;have z:=fx.ev hp;have hi:=fx.ev hq;simp only[ja,ak] at u;obtain⟨j,hj,d,U,u⟩:=u;obtain⟨k,rfl⟩:=C0 hj;have hi:VR G (.int k (.ofNat j)) (a.eval i):=hi;generalize hI:a.eval i=I at hi;cases hi;split at u;rename_i len e;simp only[ak] at u;obtain⟨n,K,u⟩:=u;replace u:=bh u;obtain⟨A,u⟩:=u;have A:=qA A;have F: ∀b off,a.eval x= .pointer (some ⟨b,off,none⟩)->(execOp a.eval o).run P w= .ok (.value (.pointer (some ⟨b,off+j*n,none⟩))) w:=by
  intro b off H;simp[execOp,S,H,hI,Instr.indexAt,asIntOf,dr U,Instr.sureAddr,iJ K,A,oX]
 split at u;rename_i l g off;replace u:=bh u;obtain⟨T,u⟩:=u;have T:=(U1 T).symm;injection u with u;subst u
 obtain⟨h1,_,h2⟩:=z;exact .pure wr fx (F _ _ (h2 T)) ⟨h1,⟨_,rfl⟩,fun _=>rfl⟩;injection u with u;subst u
 have z:VR G _ _:=z;generalize H:a.eval x=X at z;cases z with
 |ptr K=>exact .pure wr fx (F _ _ H) (LV.of_VR (by rw[wq];exact .ptr K))
 injection u with u;subst u
 have z:VR G _ _:=z;generalize H:a.eval x=X at z;cases z with
 |ro M=>exact .pure wr fx (F _ _ H) (LV.of_VR (.ro fun i y hy=>by grind))
 cases u;rename_i e;simp only[ak] at u;obtain⟨n,K,u⟩:=u;split at u;rename_i sz xs r;replace u:=bh u;obtain⟨J,u⟩:=u;simp only[bu] at J;obtain rfl:=U1 J.1;have A:=qA J.2;injection u with u;subst u
 have z:VR G _ _:=z;generalize H:a.eval x=X at z;cases z with
 |list D N a2 O M hr=>
  rename_i ad cap;obtain⟨b,off,sp⟩:=ad;have D:sp=none:=by
   rcases D with h|h
   omega;exact h
  subst D;refine .pure wr fx (y:=.pointer (some ⟨b,off+j*sz,none⟩)) ?_ (LV.of_VR (.ro ?_));simp[execOp,S,H,hI,Instr.indexAt,asIntOf,dr U,iJ K,A,oX];intro i y hy;rw[wq];refine M _ _ ?_
  grind [ans,UC]
 rename_i sz m off len Z;replace u:=bh u;obtain⟨J,u⟩:=u;simp only[bu] at J;obtain rfl:=U1 J.1;have A:=qA J.2;injection u with u;subst u
 have z:VR G _ _:=z;generalize H:a.eval x=X at z;cases z with
 |arr V D N a0 O R a1 a3=>
  rename_i ad bd cap dm;obtain⟨b,o',sp⟩:=ad;simp only at D;subst D;rcases R with h0|⟨rfl,rfl⟩
  omega;refine .pure wr fx (y:=.pointer (some ⟨bd.block,bd.off+off+j*sz,none⟩)) ?_ (LV.of_VR ?_);simp[execOp,S,H,hI,Instr.indexAt,asIntOf,dr U,iJ K,A,oX];rw[wq];exact .ptr V
 cases u;cases u
def aov{i:Operand}(U:o.op= .index t x i)(wr:WR G s.heap w)(fx:cN G s.heap B fr a.tmps w)(g:JU P t x i fr s=some (v,loc',s')):gj P G s.heap w B fr.loc lo hi a o v loc' s'.heap:=by
 simp only[JU,ak] at g;obtain⟨p,N,q,M,g⟩:=g;replace g:=lG g;obtain⟨g,rfl,rfl⟩:=g;have D:=(fx.evc N).1;have hi:=fx.ev M;simp only[AM,ak] at g;obtain⟨j,O,d,Z,g⟩:=g;obtain⟨k,rfl⟩:=C0 O;have hi:VR G (.int k (.ofNat j)) (a.eval i):=hi;generalize hI:a.eval i=I at hi;cases hi;generalize hx:a.eval x=X at D;split at g;rename_i len e;simp only[ak] at g;obtain⟨n,V,g⟩:=g;replace g:=bh g;obtain⟨u,g⟩:=g;have u:=qA u;split at g;cases D with
 |agg J A=>
  obtain⟨y,T,K,_⟩:=zA g A J;exact .pure wr fx (y:=y) (by simp_all [execOp,Instr.index,asIntOf,dr,iJ]) (LV.of_VR K)
 cases g;split at g;rename_i z;split at g;rename_i b H S;injection g with g;subst g
 cases D;have F:z[j]? =some b:=by
  have:(z.drop j)[0]? =some b:=by rw[S];rfl
  simpa[DS] using this
 refine .pure wr fx (y:=.int .u8 b.toNat) ?_ (LV.of_VR (.int _ _));have R:(ByteArray.mk ⟨z⟩)[j]? =some b:=by
  have u:j<z.length:=by
   rcases nZ j z.length with h|h
   exact h;simp[DT h] at F
  rw[gn u] at F;rw[getElem?_pos (ByteArray.mk ⟨z⟩) j (by exact u)];exact F
 simp_all [execOp,Instr.index,asIntOf,dr]
 cases g;cases g;cases g
end
section
variable{P:Program}{G:Gh}{h:aC aR}{B:Nat->Nat}{fr:Fr}{a:Act}{w:World}
def asY{cs new:List aa}{vs:List Value}(u:fL cs off new=some cs')(g:ck G cs vs)(d:ck G new ys):
 off+ys.length<=vs.length/\ck G cs' (vs.take off++(ys++vs.drop (off+ys.length))):=by
 simp only[fL] at u;obtain⟨z,q⟩:=bh u;have z:=lA z;injection q with q;subst q
 have:=g.length
 have:=d.length;refine⟨by omega,?_⟩;rw[<-d.length];exact(g.take off).append (d.append (g.drop _))
def aaa{a b:List aa}:dG (a++b)=(dG a&&dG b):=by simp[dG]
theorem asZ{cs new:List aa}(g:fL cs off new=some cs')(q:dG cs=true)(d:dG new=true):dG cs'=true:=by
 grind [fL,dG]
theorem afU(cells:List Value)(off:Nat): ∀(ys:List Value) (k:Nat),off+k+ys.length<=cells.length-> ∀(C:Array Value),C.toList=cells->
 ((ys.zipIdx k).foldl (fun cs (x:Value×Nat)=>cs.setIfInBounds (off+x.2) x.1) C).toList=cells.take (off+k)++(ys++cells.drop (off+k+ys.length)):=by
 intro ys
 induction ys generalizing cells with
 |nil=>intro k _ C d;simp[d]
 |cons y ys g=>
  intro k q C d;simp only[bH] at q;simp only[List.zipIdx_cons,List.foldl_cons];rw[g (cells.set (off+k) y) (k+1) (by simp;omega) _ (by simp[d])];have u:off+(k+1)=off+k+1:=by omega
  rw[u];simp only[bH];have z:(cells.set (off+k) y).take (off+k+1)=cells.take (off+k)++[y]:=by
   rw[List.take_set];apply List.ext_getElem?;intro i;by_cases h1:i<off+k
   grind
   by_cases h2:i=off+k;subst h2;rw[wd (by simp;omega),List.getElem?_set_self (by simp;omega)];simp[Nat.min_eq_left (by omega:off+k<=cells.length)];rw[DT (by simp;omega),DT (by simp;omega)]
  grind [List.drop_set]
theorem Ks{place:Nat->Option (Nat×Nat)}(fx:cN G h B fr a.tmps w): ∀ {parts:List (Nat×Operand)} {cells cs:List aa} {C:Array Value},bg place fr.env cells parts=some cs->ck G cells C.toList->dG cells=true->
 ∃D:Array Value,Instr.fill place C (parts.map fun(x:Nat×Operand)=>(x.1,a.eval x.2))=some D/\ck G cs D.toList/\dG cs=true
 | [],_,_,C,d,hv,hs=>by simp[bg] at d;subst d;exact⟨C,rfl,hv,hs⟩
 |(i,x)::rest,cells,cs,C,d,hv,hs=>by
  simp only[bg,ak] at d;obtain⟨u,N,⟨off,I⟩,R,d⟩:=d;replace d:=bh d;obtain⟨F,d⟩:=d;have F:=U1 F;simp only[ak] at d;obtain⟨V,K,d⟩:=d;obtain⟨J,O⟩:=fx.evc N;have M:=J.cells;obtain⟨A,q⟩:=asY K hv M;have z:=asZ K hs (J.scals_cells O);have g:=M.length;rw[F] at g;simp only[Bx] at g A
  let C1:Array Value:=(a.eval x).cells.zipIdx.foldl (fun cs (x:Value×Nat)=>cs.setIfInBounds (off+x.2) x.1) C
  have H:C1.toList=C.toList.take off++((a.eval x).cells.toList++C.toList.drop (off+(a.eval x).cells.toList.length)):=by
   have:=afU C.toList off (a.eval x).cells.toList 0 (by simp;omega) C rfl;simp only[gB] at this;rw[<-this];simp only[C1];rw[<-Array.foldl_toList,Array.toList_zipIdx]
  rw[<-H] at q;obtain⟨D,S,U,T⟩:=Ks fx (place:=place) (parts:=rest) d q z
  grind [Instr.fill]
end
variable{parts:Array (Nat×Operand)}{E:EI}
section
variable{P:Program}{mk:aK}{G:Gh}{s s':St}{B:Nat->Nat}{fr:Fr}{a:Act}{w:World}{o:Oper}{lo hi:Nat}{v:aa}{loc':Loc}
def XB(w:World): ∀ {d:List Field} {g:List (Nat×Nat)},Dg P d=some g->
 ((d.mapM fun f=>do pure (f.offset,<-sizeOf f.type):Sem (List (Nat×Nat)))).run P w= .ok g w
 | [],_,h=>by simp[Dg] at h;subst h;simp
 |f::d,_,h=>by
  simp only[Dg,ak] at h;obtain⟨n,u,r,q,h⟩:=h;injection h with h;subst h
  simp only[List.mapM_cons,Sem.run_bind,iJ u,mL,Sem.run_pure,XB w q]
theorem aol(T:o.op= .build t parts)(wr:WR G s.heap w)(fx:cN G s.heap B fr a.tmps w)(g:ta P t parts.toList fr.env=some v):gj P G s.heap w B fr.loc lo hi a o v fr.loc s.heap:=by
 simp only[ta,ak] at g;obtain⟨z,N,d,Z,g⟩:=g;obtain⟨i,R,hi,M,J⟩:=GW N;obtain⟨q,u⟩:=xr G J;split at g;rename_i A;simp only[ak] at g;obtain⟨S,I,cs,K,g⟩:=g;injection g with g;subst g
 obtain⟨D,O,F,H⟩:=Ks fx K q.cells (q.scals_cells u);refine .pure wr fx (y:=.agg D) ?_ (LV.of_VR (by simpa using VR.agg H F));have V:=XB (P:=P) w I
 simp_all [execOp,Instr.build,vL,dr,Array.mapM_eq_mapM_toList]
 rename_i len e;simp only[ak] at g;obtain⟨n,U,cs,K,g⟩:=g;injection g with g;subst g
 obtain⟨D,O,F,H⟩:=Ks fx K q.cells (q.scals_cells u);refine .pure wr fx (y:=.agg D) ?_ (LV.of_VR (by simpa using VR.agg H F))
 simp_all [execOp,Instr.build,vL,dr,iJ]
 cases g
theorem Ki{z:List aa}{zs:List Value}(d:ck G z zs): ∀n:Nat, ∃R:List Value,ck G (aZ z n) R/\R.length=n*zs.length/\ ∀i:Nat,i<n*zs.length->R[i]? =zs[i % zs.length]?
 |0=>⟨[],.nil,by simp,by simp⟩
 |n+1=>by
  obtain⟨R,q,g,u⟩:=Ki d n;refine⟨zs++R,d.append q,by simp[g,mJ];omega,fun i hi=>?_⟩
  grind [Nat.mod_eq_of_lt,wd,Nat.mod_eq_sub_mod]
def Kj{z:List aa}(d:dG z=true): ∀n:Nat,dG (aZ z n)=true
 |0=>rfl
 |n+1=>by simp[aZ,aaa,d,Kj d n]
theorem QR{zs:Array Value}{R:List Value}(h1:R.length=n*zs.toList.length)(d: ∀i:Nat,i<n*zs.toList.length->R[i]? =zs.toList[i % zs.toList.length]?):
 ((Array.range (n*zs.size)).map (fun i=>zs[i % zs.size]!))=⟨R⟩:=by
 grind
theorem B0{g:Bool}{sz:Nat}(A:g=false->sz=1): ∀ {n:Nat} {cs xs:List aa},bf g sz n cs=some xs->dG cs=true->xs.length=n/\aF xs=cs/\ ∀x∈xs,x.cells.length=sz
 |0,[],_,h,_=>by simp[bf] at h;subst h;exact⟨rfl,rfl,by simp⟩
 |0,_::_,_,h,_=>by simp[bf] at h
 |n+1,cs,xs,h,hs=>by
  simp only[bf] at h;replace h:=ig h;rcases h with⟨H,h⟩|⟨H,h⟩
  simp only[ak] at h;obtain⟨e,F,r,q,h⟩:=h;injection h with h;subst h
  obtain⟨O,N⟩:=Cc F;have d:dG (cs.drop sz)=true:=by
   simp only[dG,f8] at hs ⊢;exact fun x D=>hs x (ayP D)
  obtain⟨K,J,I⟩:=B0 A q d
  grind [aF,aa.cells,zU]
  split at h;rename_i u z;simp only[ak] at h;obtain⟨r,q,h⟩:=h;injection h with h;subst h
  simp only[dG,ju,bu] at hs;obtain⟨K,J,I⟩:=B0 A q hs.2;have M:u.cells=[u]:=by cases u<;>first|rfl|(simp[aa.scal] at hs)
  grind [aF]
  cases h
def Gh.fixed(G:Gh)(w:World)(cs:List aa):Gh:=G.more w.heap.size (fun i=>cs[i]?) (none)
theorem Gh.fixed_ro(G:Gh)(w:World)(cs:List aa)(i:Nat):(G.fixed w cs).ro w.heap.size i=cs[i]? :=by simp[Gh.fixed,Gh.more]
def WR.fixed(x:WR G h w){cs:List aa}(e:TypeId)(g:ck G cs C.toList)(q:dG cs=true):
 WR (G.fixed w cs) h (w.alloc (.cells C e))/\ ∀lo hi,cZ G h w (G.fixed w cs) h (w.alloc (.cells C e)) lo hi:=
 x.alloc (.cells C e) (fun i=>cs[i]?) none (fun i v hi=>by
  obtain⟨z,y,d,u⟩:=g.rows q i v hi;exact⟨z,C,e,rfl,y,d,u.mono (x.more_le _ _)⟩) (by simp)
theorem yA(h:yy P e=some E):dI P e=some E.n/\L3 P e=some E.b/\AP P e=some E.g/\0<E.n/\(E.g=false->E.n=1)/\
 ∃i d,0<E.b/\P.info? e=some i/\i.zero=some d/\ofValue d=some E.z/\d.cells.size=E.n/\i.bytes=E.b:=by
 simp only[yy,ak] at h;obtain⟨n,F,b,I,g,H,z,D,h⟩:=h;replace h:=bh h;obtain⟨A,h⟩:=h;injection h with h;subst h
 simp only[bu,zQ] at A;obtain⟨i,d,hi,u,q⟩:=GW D;refine⟨F,I,H,qA A.1.1.1,?_,i,d,qA A.2,hi,u,q,?_,?_⟩
 grind [U1]
 have:=((xr ⟨fun _=>none,fun _ _=>none,fun _=>none⟩ q).1.cells).length
 simp_all
 grind [L3]
theorem GF(h:lV P t=some E): ∃e,P.underlying t=some (.slice e)/\yy P e=some E:=by
 grind [lV,ak]
theorem aom{len:Nat}(ho:o.op= .buildSlice t len parts)(wr:WR G s.heap w)(fx:cN G s.heap B fr a.tmps w)(d:gW (bj P t len parts.toList (aQ hh 2) fr.env s) fr.loc=some (v,loc',s'))(I: ∀n,s.aL<=n->n<s'.aL->G.at_ n=none):
 gj P G s.heap w B fr.loc s.aL s'.aL a o v loc' s'.heap:=by
 simp only[gW,ak] at d;obtain⟨⟨v1,s1⟩,d,hq⟩:=d;simp only[aJ,bI] at hq;obtain⟨rfl,rfl,rfl⟩:=hq;simp only[bj,ak] at d;obtain⟨E,hE,d⟩:=d;obtain⟨e,hd,hE⟩:=GF hE;obtain⟨hn,_,hg,H,a4,i,zv,_,hi,Z,a1,q,_⟩:=yA hE;replace d:=bh d;obtain⟨O,d⟩:=d;have O:=lA O;obtain⟨M,a0⟩:=xr G a1;simp only[ak] at d;obtain⟨cs,g,d⟩:=d;obtain⟨R,hR,J,a5⟩:=Ki M.cells len;obtain⟨D,hD,T,U⟩:=Ks (C:=⟨R⟩) fx g hR (Kj (M.scals_cells a0) len);have F:=QR (zs:=zv.cells) J a5;rw[q] at F;have N:D.size=len*E.n:=by
  have S:=T.length;have V:cs.length=len*E.n:=by
   clear d hD T U;have hl:(aZ E.z.cells len).length=len*E.n:=by rw[hR.length,J];simp[q]
   revert g;generalize aZ E.z.cells len=c0 at hl;generalize parts.toList=ps;intro g
   induction ps generalizing c0 with
   |nil=>simp[bg] at g;subst g;exact hl
   |cons p ps ih=>
    obtain⟨k,x⟩:=p;simp only[bg,ak] at g;obtain⟨u,hu,⟨off,a7⟩,hp,g⟩:=g;replace g:=bh g;obtain⟨_,g⟩:=g;simp only[ak] at g;obtain⟨c1,hw,g⟩:=g;exact ih c1 (by rw[(abx hw).2.1];exact hl) g
  simp at S;omega
 have A:(execOp a.eval o).run P w= .ok (.value (.slice (some ⟨w.heap.size,0,none⟩) len len)) (w.alloc (.cells D e)):=by
  have h0: ¬len*E.n>2 ^ 24:=by omega
  by_cases hz:len*E.n=0;have a6:R=[]:=by
   have:R.length=0:=by rw[J,Bx,q];exact hz
   exact Lb.1 this
  subst a6;have K:Instr.fill (fun i=>some (i*E.n,E.n)) #[] (parts.toList.map fun(x:Nat×Operand)=>(x.1,a.eval x.2))=some D:=hD;have a3: ∀(f:Nat->Value),Array.map f (Array.range 0)= #[]:=fun f=>by apply qp;simp
  simp[execOp,ho,Instr.buildSlice,dr hd,iJ hn,hz,a3,K,newRow];have K:Instr.fill (fun i=>some (i*E.n,E.n)) ⟨R⟩ (parts.toList.map fun(x:Nat×Operand)=>(x.1,a.eval x.2))=some D:=hD;simp[execOp,ho,Instr.buildSlice,dr hd,iJ hn,hz,vL hi Z,q,F,K,newRow,h0]
 replace d:=ig d;rcases d with⟨_,d⟩|⟨_,d⟩
 simp only[aJ,bI] at d;obtain⟨rfl,rfl⟩:=d;have a2:G.at_ s.aL=none:=I s.aL (br _) (by simp[St.new]);obtain⟨S,V⟩:=wr.boxed a2 D e cs (T.rows U);refine .heap fx A (.inl rfl) S V (LV.of_VR ?_);exact .arr (Gh.boxed_at G w s.aL D.size) rfl H (br _) (br _) (.inr ⟨rfl,rfl⟩) (Gh.boxed_dim G w s.aL D.size) (by simp[N]);simp only[ak] at d;obtain⟨xs,hx,d⟩:=d;simp only[aJ,bI] at d;obtain⟨rfl,rfl⟩:=d;obtain⟨c1,c2,c3⟩:=B0 a4 hx U;obtain⟨S,V⟩:=wr.fixed e T U;refine .heap fx A (.inl rfl) S (V _ _) (LV.of_VR ?_);subst c1;exact .list (.inr rfl) H c3 (br _) (fun i x hx=>by grind [Gh.fixed_ro]) rfl
theorem aoA{r:Option Operand}(q:o.op= .makeMap t r)(wr:WR G s.heap w)(fx:cN G s.heap B fr a.tmps w)(g:gW (m7 P t fr.env r s) fr.loc=some (v,loc',s'))(z: ∀n,s.aL<=n->n<s'.aL->G.at_ n=none):
 gj P G s.heap w B fr.loc s.aL s'.aL a o v loc' s'.heap:=by
 simp only[gW,ak] at g;obtain⟨⟨N,J⟩,g,O⟩:=g;simp only[aJ,bI] at O;obtain⟨rfl,rfl,rfl⟩:=O;have fin:N= .map s.aL->J=s.new (.map [] 0)->(execOp a.eval o).run P w= .ok (.value (.map (some w.heap.size))) (w.alloc (.map #[] 0))->gj P G s.heap w B fr.loc s.aL J.aL a o N fr.loc J.heap:=by
  rintro rfl rfl A;have D:G.at_ s.aL=none:=z s.aL (br _) (by simp[St.new]);obtain⟨V,U⟩:=wr.fresh (.map #[] 0);have M: ¬fg G s.heap w.heap.size:=fun q=>cD _ (wr.owned_lt q);have T:=V.named (n:=s.aL) (a:=⟨w.heap.size,0,none⟩) (o:=.map [] 0) D (by simp) rfl M
   ⟨#[],by rw[pJ,iP rfl],.nil⟩
   (fun i v K=>absurd (wr.ro_lt K) (cD _))
  have F:=U s.aL (s.aL+1);refine .heap fx A (.inl rfl) T ⟨F.le.trans (Gh.name_le _ _ D),F.size,F.keepW,?_,?_,?_,F.quiet,fun b I q=>(Dd q).elim (fun e=>absurd (e▸I) (cD _)) fun o=>o⟩ (LV.of_VR (.map (a:=⟨w.heap.size,0,none⟩) (by simp[Gh.name])))
  ·intro b I q
   rcases De q with rfl|q
   all_goals grind
  grind [Gh.name,St.new]
  intro b R u I K Z;exact F.cells b R u I K Z
 unfold m7 at g;rcases r with _|x
 simp_all [execOp,Instr.makeMap]
 simp only[ak] at g;obtain⟨d,hd,g⟩:=g;split at g;simp only[ak] at g;obtain⟨u,S,g⟩:=g;have H:=fx.ev S;split at g;simp only[aJ,bI] at g;have H:VR G _ _:=H;generalize hx:a.eval x=X at H;cases H
 simp_all [execOp,Instr.makeMap,dr,asInt,asIntOf]
 cases g;cases g
end
variable{desc:TypeDesc}{kt:TypeId}{k:aa}
section
variable{P:Program}{G:Gh}
def P2{rec:TypeId->aa->Bool}{d:Nat}{emp:Bool}{xs:List aa}{xv:List Value}(hx:ck G xs xv)(sx:dG xs=true)(hrec: ∀ {e:TypeId} {x:aa} {X:Value},rec e x=true->VR G x X-> ∀w:World,(Instr.checkKey emp d e X).run P w= .ok () w)(w:World):
 ∀(fs:List Field),Fx P rec xs fs=true->
  (forIn (m:=Sem) fs PUnit.unit fun f _=>do
   if f.name≠ "_" then do
    Instr.checkKey emp d f.type (<-part f.type ⟨xv⟩ f.offset)
    pure (ForInStep.yield PUnit.unit)
   else pure (ForInStep.yield PUnit.unit)).run P w= .ok PUnit.unit w
 | [],_=>by simp
 |f::fs,h=>by
  simp only[Fx] at h;rw[List.forIn_cons];cases hn:(f.name== "_");simp only[hn,cF] at h;have hn:f.name≠ "_" :=by simpa using hn
  split at h;rename_i a ha;simp only[bu] at h;obtain⟨X,hX,vX,_⟩:=zA ha hx sx;simp only[iP hn,Sem.run_bind,hX,mL,hrec h.1 vX,Sem.run_pure];exact P2 hx sx hrec w fs h.2;cases h;simp only[hn,cT] at h;have hn: ¬f.name≠ "_" :=by simpa using hn
  simp only[iN hn,Sem.run_bind,mL,Sem.run_pure];exact P2 hx sx hrec w fs h
def Z2{q:TypeId->aa->Bool}{d:Nat}{emp:Bool}{e:TypeId}{n:Nat}{xs:List aa}{u:List Value}(A:ck G xs u)(z:dG xs=true)(D:dI P e=some n)(g: ∀ {x:aa} {X:Value},q e x=true->VR G x X-> ∀w:World,(Instr.checkKey emp d e X).run P w= .ok () w)(w:World):
 ∀(k i:Nat),Jy P q e n xs k i=true->
  (forIn (m:=Sem) (List.range' i k) PUnit.unit fun i _=>do
   Instr.checkKey emp d e (<-part e ⟨u⟩ (i*(<-sizeOf e)))
   pure (ForInStep.yield PUnit.unit)).run P w= .ok PUnit.unit w
 |0,_,_=>by simp
 |k+1,i,h=>by
  simp only[Jy] at h;rw[List.range'_succ,List.forIn_cons];split at h;rename_i a H;simp only[bu] at h;obtain⟨X,I,F,_⟩:=zA H A z;simp only[Sem.run_bind,iJ D,I,mL,g h.1 F,Sem.run_pure];exact Z2 A z D g w k (i+1) h.2;cases h
def Gy{emp:Bool}: ∀(d:Nat) {t:TypeId} {x:aa} {X:Value},yP P d t x=true->VR G x X-> ∀(D:Nat),d<=D-> ∀w:World,(Instr.checkKey emp D t X).run P w= .ok () w
 |0,_,_,_,h,_=>by simp[yP] at h
 |d+1,t,x,X,h,g=>by
  intro D H w;obtain⟨D,rfl⟩: ∃E,D=E+1:=⟨D-1,by omega⟩;simp only[yP] at h;split at h
  simp_all [Instr.checkKey,dr]
  simp_all [Instr.checkKey,dr]
  simp_all [Instr.checkKey,dr]
  ·rename_i A
   cases g with|agg u g=>
   have:=P2 (emp:=emp) g u (d:=D) (fun {e x X} z q w=>Gy d z q D (by omega) w) w _ h
   simp_all [Instr.checkKey,dr]
  ·rename_i len e xs A
   cases g with|agg u g=>
   split at h;rename_i n F
   have:=Z2 (emp:=emp) g u F (d:=D) (fun {x X} z q w=>Gy d z q D (by omega) w) w len 0 h
   simp_all [Instr.checkKey,dr]
   cases h
  cases h
def agG.length(h:agG G es ms):es.length=ms.length:=by
 induction h with
 |nil=>rfl
 |cons _ _ d=>simp[d]
theorem agG.get(h:agG G es ms){e:dK}(hi:es[i]? =some e): ∃m,ms[i]? =some m/\xX G e m:=by
 induction h generalizing i with
 |nil=>simp at hi
 |cons a _ d=>
  grind
def agG.append{a b:List dK}{x y:List MapEntry}(h:agG G a x)(h':agG G b y):agG G (a++b) (x++y):=by
 induction h with
 |nil=>simpa using h'
 |cons p _ d=>exact .cons p d
theorem agG.set(h:agG G es ms)(i:Nat){e:dK}(g:xX G e m):agG G (es.set i e) (ms.set i m):=by
 induction h generalizing i with
 |nil=>simpa using agG.nil
 |cons a b d=>
  cases i with
  |zero=>exact .cons g b
  |succ i=>exact .cons a (d i)
def MV(G:Gh)(es:List dK)(d:Nat):Option (Nat×dK)->Option (Nat×Value)->Prop
 |none,none=>True
 |some (i,e),some (j,v)=>i=j/\d<=i/\es[i-d]? =some e/\VR G e.val v
 |_,_=>False
theorem Z1{kt:TypeId}{k:aa}{K:Value}(g:VR G k K)(w:World): ∀ {es:List dK} {ms:List MapEntry} {i:Nat} {r:Option (Nat×dK)},agG G es ms->nK P kt k es i=some r->
 ∃q,(Instr.findAsking kt K ms i).run P w= .ok q w/\MV G es i r q
 |_,_,i,r,.nil,h=>by simp[nK] at h;subst h;exact⟨none,by simp[Instr.findAsking],trivial⟩
 |_,_,i,r,.cons (e:=e) (m:=m) (es:=es) (ms:=ms) he hs,h=>by
  simp only[nK,ak] at h;obtain⟨b,A,h⟩:=h;have d:=Kr 8 A g he.key 10000 (by omega) w;have d:(Op.equal kt K m.key).run P w= .ok b w:=d;cases b;simp only[cF] at h;obtain⟨q,z,u⟩:=Z1 g w hs h;refine⟨q,by simp[Instr.findAsking,d,z],?_⟩;cases r<;>cases q<;>first
   |trivial
   |(obtain⟨F,I,H,D⟩:=u
     refine⟨F,by omega,?_,D⟩
     grind)
   |exact u.elim
  simp only[cT,aJ] at h;subst h;exact⟨some (i,m.val),by simp[Instr.findAsking,d],rfl,br _,by simp,he.val⟩
theorem Z5{x:aa}{X:Value}{b r:Bool}(u:P.underlying kt=some desc)(d:kI P 8 kt x y=some b)(q:VR G x X)(g:VR G y Y)(z:Instr.sameNow desc X Y=some r):r=b:=by
 simp only[kI,u,au] at d;cases q<;>cases g<;>cases desc<;>simp[Instr.sameNow] at z d
 all_goals grind [an,beq_toListBytes,ByteArray.toList_mk]
theorem Uz{kt:TypeId}{desc:TypeDesc}{k:aa}{K:Value}(u:P.underlying kt=some desc)(z:VR G k K): ∀ {es:List dK} {ms:List MapEntry} {i:Nat} {r:Option (Nat×dK)} {q:Option (Nat×Value)},
 agG G es ms->nK P kt k es i=some r->Instr.findNow desc K ms i=some q->MV G es i r q
 |_,_,i,r,q,.nil,h,d=>by
  simp[nK] at h;subst h;simp[Instr.findNow] at d;subst d
  trivial
 |_,_,i,r,q,.cons (e:=e) (m:=m) (es:=es) (ms:=ms) he hs,h,d=>by
  simp only[nK,ak] at h;obtain⟨b,D,h⟩:=h;simp only[Instr.findNow] at d;split at d;rename_i g
  have:=Z5 u D z he.key g;subst this;simp only[cT,aJ] at h;subst h;injection d with d;subst d
  exact⟨rfl,br _,by simp,he.val⟩;rename_i g
  have:=Z5 u D z he.key g;subst this;simp only[cF] at h;have A:=Uz u z hs h d;cases r<;>cases q<;>first
   |trivial
   |(obtain⟨H,J,I,F⟩:=A
     refine⟨H,by omega,?_,F⟩
     grind)
   |exact A.elim
  cases d
def Gw{K:Value}(u:VR G k K)(w:World){r:Option (Nat×dK)}(d:P.underlying kt=some desc)(g:agG G es ms)(h:nK P kt k es 0=some r):
 ∃q,(Instr.findKey kt K ms).run P w= .ok q w/\MV G es 0 r q:=by
 simp only[Instr.findKey,Sem.run_bind,dr d,mL];cases hn:Instr.findNow desc K ms 0 with
 |some q=>exact⟨q,by simp,Uz d u g h hn⟩
 |none=>exact Z1 u w g h
end
variable{ad:Addr}{ES:Array MapEntry}{seen:Array Nat}{c clock since:Nat}
section
variable{P:Program}{mk:aK}{G:Gh}{s s':St}{B:Nat->Nat}{fr:Fr}{a:Act}{w:World}{o:Oper}{lo hi:Nat}{v:aa}{loc':Loc}
def qb{r:Nat}(h:w.heap[r]? =some (.map ES c)):(getObj r).run P w= .ok (.map ES c) w:=by
 simp[getObj,Sem.run,h]
def Dm{r:Nat}(ob:Obj)(h:w.heap[r]? =some (.map ES c)):(setObj r ob).run P w= .ok () (dU w r ob):=by
 simp[setObj,Sem.run,h,dU]
def Gx{r:Nat}{m:Option Nat}{d:Nat}(h:w.heap[r]? =some (.mapIter m since seen d)):(getObj r).run P w= .ok (.mapIter m since seen d) w:=by
 simp[getObj,Sem.run,h]
def Z4{r:Nat}{m:Option Nat}{d:Nat}(ob:Obj)(h:w.heap[r]? =some (.mapIter m since seen d)):(setObj r ob).run P w= .ok () (dU w r ob):=by
 simp[setObj,Sem.run,h,dU]
theorem OB{g:TypeId×TypeId}(h:lP P t k=some g):P.underlying t=some (.map g.1 g.2)/\yP P 8 g.1 k=true/\ ∃d,P.underlying g.1=some d:=by
 simp only[lP,ak] at h;obtain⟨d,u,h⟩:=h;split at h;replace h:=bh h;obtain⟨q,h⟩:=h;injection h with h;subst h
 refine⟨u,q,?_⟩;simp only[yP] at q
 grind
 cases h
def ams(wr:WR G s.heap w)(d:s.get mk n=some (.fix (.map es clock))):
 ∃ad ES,G.at_ n=some ad/\ad.spot=none/\w.heap[ad.block]? =some (.map ES clock)/\agG G es ES.toList:=by
 obtain⟨ad,z,u,ES,q,g⟩:=wr.obj n _ (iZ d);exact⟨ad,ES,z,u,q,g⟩
def xe(wr:WR G s.heap w)(d:s.get mk n=some (.map es clock)):
 ∃ad ES,G.at_ n=some ad/\ad.spot=none/\w.heap[ad.block]? =some (.map ES clock)/\agG G es ES.toList:=by
 obtain⟨ad,z,u,ES,q,g⟩:=wr.obj n _ (iZ d);exact⟨ad,ES,z,u,q,g⟩
theorem aoy{i:Operand}{D:Bool}(ho:o.op= .lookup t x i D)(wr:WR G s.heap w)(fx:cN G s.heap B fr a.tmps w)(d:JV P mk t x i D fr s=some (v,loc',s')):gj P G s.heap w B fr.loc lo hi a o v loc' s'.heap:=by
 simp only[JV,ak] at d;obtain⟨p,hp,k,hk,d⟩:=d;replace d:=lG d;obtain⟨d,rfl,rfl⟩:=d;have Z:=(fx.evc hp).1;have hK:=(fx.evc hk).1;simp only[ou,ak] at d;obtain⟨ke,a4,z,hz,r,g,d⟩:=d;obtain⟨hd,a3,desc,I⟩:=OB a4;obtain⟨ti,zv,hi,a1,a2⟩:=GW hz;obtain⟨N,a5⟩:=xr G a2;have T: ∀(b:Bool) (w:World),(Instr.checkKey b 10000 ke.1 (a.eval i)).run P w= .ok () w:=fun b w=>Gy 8 a3 hK 10000 (by omega) w;have a0: ∃ES:List MapEntry,(∃q,(Instr.findKey ke.1 (a.eval i) ES).run P w= .ok q w/\(match r with|none=>q=none|some e=> ∃j u,q=some (j,u)/\VR G e.2.val u))/\
  ((a.eval x= .map none/\ES=[])\/ ∃b E c,a.eval x= .map (some b)/\w.heap[b]? =some (.map E c)/\E.toList=ES):=by
  unfold AZ at g;generalize hX:a.eval x=X at Z;split at g;injection g with g;subst g
  cases Z;obtain⟨q,F,H⟩:=Gw (P:=P) (G:=G) (kt:=ke.1) hK w I .nil (r:=none) (by simp[nK]);cases q with
  |none=>grind
  |some q=>exact H.elim
  ·rename_i n
   simp only[ak] at g;obtain⟨ob,S,g⟩:=g;split at g
   ·cases Z with
    |map K=>
    obtain⟨ad,ES,A,V,U,M⟩:=xe wr S;rw[K] at A;injection A with A;subst A
    obtain⟨q,F,H⟩:=Gw hK w I M g;refine⟨ES.toList,⟨q,F,?_⟩,.inr ⟨_,ES,_,rfl,U,rfl⟩⟩;cases r<;>cases q<;>first
     |rfl
     |exact H.elim
     |(obtain⟨A,V,U,M⟩:=H;exact⟨_,_,rfl,M⟩)
   ·cases Z with
    |map K=>
    obtain⟨ad,ES,A,V,U,M⟩:=ams wr S;rw[K] at A;injection A with A;subst A
    obtain⟨q,F,H⟩:=Gw hK w I M g;refine⟨ES.toList,⟨q,F,?_⟩,.inr ⟨_,ES,_,rfl,U,rfl⟩⟩;cases r<;>cases q<;>first
     |rfl
     |exact H.elim
     |(obtain⟨A,V,U,M⟩:=H;exact⟨_,_,rfl,M⟩)
   cases g
  cases g
 obtain⟨ES,⟨q,F,R⟩,J⟩:=a0;have O: ∃y ys,(execOp a.eval o).run P w= .ok (.value (if D then .tuple #[y,.bool ys] else y)) w/\VR G v (if D then .tuple #[y,.bool ys] else y):=by
  have fin: ∀(y:Value) (ys:Bool),(q=none/\y=zv/\ys=false\/ ∃j,q=some (j,y)/\ys=true)->(execOp a.eval o).run P w= .ok (.value (if D then .tuple #[y,.bool ys] else y)) w:=by
   intro y ys hy;rcases J with⟨hX,rfl⟩|⟨b,E,c,hX,hb,rfl⟩
   rcases hy with⟨rfl,rfl,rfl⟩|⟨j,rfl,rfl⟩
   simp_all [execOp,Instr.lookup,dr,vL]
   simp_all [execOp,Instr.lookup,dr]
   rcases hy with⟨rfl,rfl,rfl⟩|⟨j,rfl,rfl⟩
   simp[execOp,ho,hX,Instr.lookup,dr hd,qb hb,T,F,vL hi a1];simp[execOp,ho,hX,Instr.lookup,dr hd,qb hb,T,F]
  cases r with
  |none=>
   simp only[aJ] at d;subst d;refine⟨zv,false,fin zv false (.inl ⟨R,rfl,rfl⟩),?_⟩;cases D;exact N;exact .tup (.cons N (.cons (.bool _) .nil))
  |some e=>
   obtain⟨j,u,hj,hu⟩:=R;simp only[aJ] at d;subst d;refine⟨u,true,fin u true (.inr ⟨j,hj,rfl⟩),?_⟩;cases D;exact hu;exact .tup (.cons hu (.cons (.bool _) .nil))
 obtain⟨y,ys,A,V⟩:=O;exact .pure wr fx A (LV.of_VR V)
theorem Z9{x:aa}{X:Value}(h:xF x y=true)(g:VR G x X)(d:VR G y Y): ∀n,Instr.sameBits n X Y=true:=by
 intro n;unfold xF at h;split at h;cases g;cases d;grind [Instr.sameBits];rename_i j p k q;cases g;cases d
 grind [an,Instr.sameBits]
 rename_i p q;cases g;cases d
 grind [beq_toListBytes,Instr.sameBits]
 cases h
theorem S7{n:Nat}: ∀ {x y:List aa} {X Y:List Value},wI x y=true->ck G x X->ck G y Y->X.length=Y.length/\((X.zip Y).all fun p=>Instr.sameBits n p.1 p.2)=true
 | [],[],_,_,_,.nil,.nil=>by simp
 |x::xs,y::ys,_,_,h,.cons a b,.cons c d=>by
  simp only[wI,bu] at h;obtain⟨q,g⟩:=S7 (n:=n) h.2 b d
  grind [List.zip_cons_cons,Z9]
 | [],_::_,_,_,h,_,_=>by simp[wI] at h
 |_::_,[],_,_,h,_,_=>by simp[wI] at h
theorem Xa{x:aa}{X:Value}(h:tI x y=true)(g:VR G x X)(d:VR G y Y):Instr.sameBits 10000 X Y=true:=by
 unfold tI at h;split at h
 ·cases g with|agg _ g=>cases d with|agg _ d=>
  obtain⟨u,q⟩:=S7 (n:=9999) h g d
  grind [Instr.sameBits]
 exact Z9 h g d 10000
def CP(wr:WR G s.heap w){es':List dK}{clock':Nat}(q:s.get mk n=some (.map es clock))(g:G.at_ n=some ad){ES':Array MapEntry}(u:w.heap[ad.block]? =some (.map ES clock))(D:agG G es' ES'.toList):
 WR G (s.put n (some (.map es' clock'))).heap (dU w ad.block (.map ES' clock'))/\ ∀lo hi,cZ G s.heap w G (s.put n (some (.map es' clock'))).heap (dU w ad.block (.map ES' clock')) lo hi:=by
 refine wr.changed (iZ q) g ⟨ES',by rw[jZ _ _ _ _ (jB u),iP rfl],D⟩ ?_ ?_;intro i v A
 have:=(wr.apart n _ ad i v (iZ q) g A).1;cases this;intro d F;obtain⟨C,e,z,_⟩:=wr.dim _ d F;rw[u] at z;cases z
theorem OZ(ES:Array MapEntry)(j:Nat)(f:MapEntry->MapEntry)(d:ES.toList[j]? =some m):(ES.modify j f).toList=ES.toList.set j (f m):=by
 apply List.ext_getElem?
 grind
def YW{m k:Operand}(R:o.op= .mapUpdate t m k x\/o.op= .insert t m k x)(wr:WR G s.heap w)(fx:cN G s.heap B fr a.tmps w)(d:FY P mk t m k x fr s=some (v,loc',s')):gj P G s.heap w B fr.loc lo hi a o v loc' s'.heap:=by
 simp only[FY,ak] at d;obtain⟨mv,hm,kv,hk,xv,hx,d⟩:=d;simp only[nW,ak] at d;obtain⟨s1,d,D⟩:=d;simp only[aJ,bI] at D;obtain⟨rfl,rfl,rfl⟩:=D;have hM:=(fx.evc hm).1;have O:=(fx.evc hk).1;have hX:=(fx.evc hx).1;have J:(execOp a.eval o).run P w=((Instr.mapUpdate t (a.eval m) (a.eval k) (a.eval x)).run P w).andThen fun _ w'=>.ok .skip w':=by
  rcases R with R|R<;>simp[execOp,R]
 simp only[qZ,ak] at d;obtain⟨ke,a0,d⟩:=d;obtain⟨hd,Z,desc,a1⟩:=OB a0;have N: ∀(b:Bool) (w:World),(Instr.checkKey b 10000 ke.1 (a.eval k)).run P w= .ok () w:=fun b w=>Gy 8 Z O 10000 (by omega) w;split at d
 ·rename_i n
  simp only[ak] at d;obtain⟨ob,g,d⟩:=d;split at d
  ·rename_i es clock
   generalize hMv:a.eval m=M at hM;cases hM with
   |map z=>
   rename_i ad;obtain⟨a2,ES,T,h2,A,S⟩:=xe wr g;rw[z] at T;injection T with T;subst T
   simp only[ak] at d;obtain⟨r,hr,d⟩:=d;obtain⟨q,D,hf⟩:=Gw O w a1 S hr;split at d;rename_i e;obtain⟨j,e⟩:=e;replace d:=bh d;obtain⟨V,d⟩:=d;injection d with d;subst d
   cases q with
   |none=>exact hf.elim
   |some q=>
    obtain⟨j',u⟩:=q;obtain⟨rfl,_,I,hu⟩:=hf;simp only[Nat.sub_zero] at I;obtain⟨me,H,K⟩:=S.get I;have U:=Xa V K.key O;have F:ES[j]? =some me:=by simpa using H
    obtain⟨c1,c2⟩:=CP (clock':=clock) (es':=es.set j ⟨kv,xv,e.born⟩) (ES':=ES.modify j fun e=> {e with key:=a.eval k,val:=a.eval x }) wr g z A
     (by rw[OZ ES j _ H];exact S.set j ⟨O,hX,K.born⟩)
    refine .heap fx ?_ (.inr ⟨rfl,rfl⟩) c1 (c2 _ _) (LV.of_VR (.tup .nil));rw[J];simp[hMv,Instr.mapUpdate,dr hd,qb A,N,D,Instr.keyThatStays,F,U,Dm _ A]
   injection d with d;subst d
   cases q with
   |some q=>exact hf.elim
   |none=>
    obtain⟨c1,c2⟩:=CP (clock':=clock+1) (es':=es++[⟨kv,xv,clock⟩]) (ES':=ES.push {key:=a.eval k,val:=a.eval x,born:=clock }) wr g z A
     (by simpa using S.append (.cons ⟨O,hX,rfl⟩ .nil))
    refine .heap fx ?_ (.inr ⟨rfl,rfl⟩) c1 (c2 _ _) (LV.of_VR (.tup .nil));rw[J];simp[hMv,Instr.mapUpdate,dr hd,qb A,N,D,Dm _ A]
  cases d
 cases d
def aoC{m k:Operand}(ho:o.op= .mapEntry t m k)(wr:WR G s.heap w)(fx:cN G s.heap B fr a.tmps w)(d:JX P mk t m k fr s=some (v,loc',s')):gj P G s.heap w B fr.loc lo hi a o v loc' s'.heap:=by
 simp only[JX,ak] at d;obtain⟨mv,hm,kv,hk,d⟩:=d;simp only[gW,ak] at d;obtain⟨⟨v1,s1⟩,d,I⟩:=d;simp only[aJ,bI] at I;obtain⟨rfl,rfl,rfl⟩:=I;have hM:=(fx.evc hm).1;have R:=(fx.evc hk).1;simp only[rS,ak] at d;obtain⟨ke,a2,z,hz,d⟩:=d;obtain⟨hd,a1,desc,a3⟩:=OB a2;obtain⟨ti,zv,hi,U,Z⟩:=GW hz;obtain⟨H,a4⟩:=xr G Z;have O: ∀(b:Bool) (w:World),(Instr.checkKey b 10000 ke.1 (a.eval k)).run P w= .ok () w:=fun b w=>Gy 8 a1 R 10000 (by omega) w;split at d
 ·rename_i n
  simp only[ak] at d;obtain⟨ob,A,d⟩:=d;split at d
  ·rename_i es clock
   generalize hMv:a.eval m=M at hM;cases hM with
   |map D=>
   rename_i ad;obtain⟨a5,ES,T,h2,F,S⟩:=xe wr A;rw[D] at T;injection T with T;subst T
   simp only[ak] at d;obtain⟨r,hr,d⟩:=d;obtain⟨q,I,hf⟩:=Gw R w a3 S hr;split at d;rename_i e;obtain⟨j,e⟩:=e;replace d:=bh d;obtain⟨a0,d⟩:=d;simp only[aJ,bI] at d;obtain⟨rfl,rfl⟩:=d;cases q with
   |none=>exact hf.elim
   |some q=>
    obtain⟨j',u⟩:=q;obtain⟨rfl,_,N,hu⟩:=hf;simp only[Nat.sub_zero] at N;obtain⟨me,K,g⟩:=S.get N;have V:=Xa a0 g.key R;have J:ES[j]? =some me:=by simpa using K
    obtain⟨c1,c2⟩:=CP (clock':=clock) (es':=es.set j ⟨kv,e.val,e.born⟩) (ES':=ES.modify j fun e=> {e with key:=a.eval k }) wr A D F
     (by rw[OZ ES j _ K];exact S.set j ⟨R,g.val,g.born⟩)
    refine .heap fx (y:=.tuple #[u,.int .i64 me.born]) ?_ (.inl rfl) c1 (c2 _ _) (LV.of_VR ?_);simp[execOp,ho,hMv,Instr.mapEntry,dr hd,qb F,O,I,Instr.keyThatStays,J,V,Dm _ F,goInt];rw[g.born];exact .tup (.cons hu (.cons (.int _ _) .nil))
   simp only[aJ,bI] at d;obtain⟨rfl,rfl⟩:=d;cases q with
   |some q=>exact hf.elim
   |none=>
    obtain⟨c1,c2⟩:=CP (clock':=clock+1) (es':=es++[⟨kv,z,clock⟩]) (ES':=ES.push {key:=a.eval k,val:=zv,born:=clock }) wr A D F
     (by simpa using S.append (.cons ⟨R,H,rfl⟩ .nil))
    refine .heap fx (y:=.tuple #[zv,.int .i64 clock]) ?_ (.inl rfl) c1 (c2 _ _) (LV.of_VR (.tup (.cons H (.cons (.int _ _) .nil))));simp[execOp,ho,hMv,Instr.mapEntry,dr hd,qb F,O,I,vL hi U,Dm _ F,goInt]
  cases d
 cases d
theorem aad{b:Nat}{u:aa}: ∀ {es es':List dK} {ms:List MapEntry} {U:Value},zD b u es=some es'->agG G es ms->VR G u U->
 ∃j m,ms.findIdx? (fun e=>(e.born:Int)==(b:Int))=some j/\ms[j]? =some m/\agG G es' (ms.set j {m with val:=U })
 | [],_,_,_,h,_,_=>by simp[zD] at h
 |e::es,es',_,U,h,.cons (m:=m) (ms:=ms) he hs,hu=>by
  simp only[zD] at h;replace h:=ig h;rcases h with⟨d,h⟩|⟨d,h⟩
  injection h with h;subst h
  have d:=U1 d;have g:m.born=b:=by rw[<-he.born,d]
  exact⟨0,m,by simp[List.findIdx?_cons,g],by simp,.cons ⟨he.key,hu,he.born⟩ hs⟩;have d:=BS d;simp only[ak] at h;obtain⟨r,z,h⟩:=h;injection h with h;subst h
  obtain⟨j,q,F,D,A⟩:=aad z hs hu;have g: ¬m.born=b:=by rw[<-he.born];exact d
  refine⟨j+1,q,?_,by simpa using D,.cons he A⟩
  grind
def aor{m z:Operand}(T:o.op= .entryStore t m z x)(wr:WR G s.heap w)(fx:cN G s.heap B fr a.tmps w)(d:JT mk m z x fr s=some (v,loc',s')):gj P G s.heap w B fr.loc lo hi a o v loc' s'.heap:=by
 simp only[JT,ak] at d;obtain⟨mv,U,sv,A,xv,O,d⟩:=d;simp only[nW,ak] at d;obtain⟨s1,d,J⟩:=d;simp only[aJ,bI] at J;obtain⟨rfl,rfl,rfl⟩:=J;have N:=(fx.evc U).1;have K:=(fx.evc A).1;have hX:=(fx.evc O).1;simp only[u4,ak] at d;obtain⟨b,Z,d⟩:=d;obtain⟨k,rfl⟩:=C0 Z;generalize hSv:a.eval z=S at K;cases K;split at d
 ·rename_i n
  simp only[ak] at d;obtain⟨ob,g,d⟩:=d;split at d
  ·rename_i es clock
   generalize hMv:a.eval m=M at N;cases N with
   |map q=>
   rename_i ad;obtain⟨a0,ES,u,h2,I,h4⟩:=xe wr g;rw[q] at u;injection u with u;subst u
   simp only[ak] at d;obtain⟨es',H,d⟩:=d;injection d with d;subst d
   obtain⟨j,me,V,D,R⟩:=aad H h4 hX;have F:ES.findIdx? (fun e=>(e.born:Int)==(b:Int))=some j:=by cases ES with|mk l=>simpa using V
   obtain⟨c1,c2⟩:=CP (clock':=clock) (es':=es') (ES':=ES.modify j fun e=> {e with val:=a.eval x }) wr g q I
    (by rw[OZ ES j _ D];exact R)
   refine .heap fx ?_ (.inr ⟨rfl,rfl⟩) c1 (c2 _ _) (LV.of_VR (.tup .nil));simp[execOp,T,hMv,hSv,Instr.entryStore,qb I,asInt,asIntOf,F,Dm _ I]
  cases d
 cases d
theorem aoH(q:o.op= .range t x)(wr:WR G s.heap w)(fx:cN G s.heap B fr a.tmps w)(g:((evc fr.env x).bind fun x=>gW (t5 P mk t x s) fr.loc)=some (v,loc',s'))(z: ∀n,s.aL<=n->n<s'.aL->G.at_ n=none):
 gj P G s.heap w B fr.loc s.aL s'.aL a o v loc' s'.heap:=by
 simp only[ak] at g;obtain⟨xv,hx,g⟩:=g;simp only[gW,ak] at g;obtain⟨⟨U,M⟩,g,V⟩:=g;simp only[aJ,bI] at V;obtain⟨rfl,rfl,rfl⟩:=V;have S:=(fx.evc hx).1;simp only[t5,ak] at g;obtain⟨d,Z,g⟩:=g;have fin: ∀(m:Option Nat) (D:Option Nat) (c:Nat),Vx G m D->U= .ptr s.aL 0->M=s.new (.iter m c [] c)->
  (execOp a.eval o).run P w= .ok (.value (.pointer (some ⟨w.heap.size,0,none⟩))) (w.alloc (.mapIter D c #[] c))->gj P G s.heap w B fr.loc s.aL M.aL a o U fr.loc M.heap:=by
  rintro m D c hm rfl rfl F;have H:G.at_ s.aL=none:=z s.aL (br _) (by simp[St.new]);obtain⟨A,h2⟩:=wr.fresh (.mapIter D c #[] c);have R: ¬fg G s.heap w.heap.size:=fun q=>cD _ (wr.owned_lt q);have T:=A.named (n:=s.aL) (a:=⟨w.heap.size,0,none⟩) (o:=.iter m c [] c) H (by simp) rfl R
   ⟨rfl,D,by rw[pJ,iP rfl],hm⟩
   (fun i v N=>absurd (wr.ro_lt N) (cD _))
  have J:=h2 s.aL (s.aL+1);refine .heap fx F (.inl rfl) T ⟨J.le.trans (Gh.name_le _ _ H),J.size,J.keepW,?_,?_,?_,J.quiet,fun b K q=>(Dd q).elim (fun e=>absurd (e▸K) (cD _)) fun o=>o⟩ (LV.of_VR (by simpa using VR.ptr (G:=G.name s.aL ⟨w.heap.size,0,none⟩) (n:=s.aL) (off:=0) (a:=⟨w.heap.size,0,none⟩) (by simp[Gh.name])))
  ·intro b K q
   rcases De q with rfl|q
   all_goals grind
  grind [Gh.name,St.new]
  intro b o' u K N h0;exact J.cells b o' u K N h0
 generalize hXv:a.eval x=X at S;split at g
 ·split at g
  simp only[aJ,bI] at g;cases S;exact fin none none 0 trivial g.1.symm g.2.symm (by simp[execOp,q,hXv,Instr.range,dr Z])
  ·rename_i m
   simp only[ak] at g;obtain⟨ob,O,g⟩:=g;split at g
   ·simp only[aJ,bI] at g
    cases S with
    |map I=>
    rename_i ad;obtain⟨a0,ES,A,h2,T,h4⟩:=xe wr O;rw[I] at A;injection A with A;subst A
    exact fin (some m) (some ad.block) _ ⟨ad,I,rfl⟩ g.1.symm g.2.symm (by simp[execOp,q,hXv,Instr.range,dr Z,qb T])
   cases g
  cases g
 cases g
theorem X1(a b:Nat):aQ a b=(a==b):=by
 grind [BS,U1]
theorem tN(a b:Nat):bw a b=decide (a<=b):=by
 grind [Nat.ble_eq_true_of_le,lA]
def acH(h:agG G es ms)(d:Nat):ms.all (fun e=>decide (e.born≥d))=es.all (fun e=>bw d e.born):=by
 induction h with
 |nil=>rfl
 |cons a b g=>simp only[ju,g,tN,a.born]
def asq{seen:List Nat}(h:agG G es ms):agG G (mF seen es) (ms.filter fun e=> !(⟨seen⟩:Array Nat).contains e.born):=by
 induction h with
 |nil=>exact .nil
 |cons a b g=>
  rename_i e m es ms;have u:seen.any (aQ e.born)=(⟨seen⟩:Array Nat).contains m.born:=by
   rw[a.born];have: ∀l:List Nat,l.any (aQ m.born)=(⟨l⟩:Array Nat).contains m.born:=by
    intro l;have q:(⟨l⟩:Array Nat).contains m.born=l.contains m.born:=by simp
    rw[q];clear q
    induction l with
    |nil=>rfl
    |cons y l d=>
     simp only[List.any_cons,List.contains_cons,d,X1]
   exact this seen
  unfold mF at g ⊢;simp only[List.filter_cons,u];split;exact .cons a g;exact g
theorem afI(h:agG G es ms)(g:es.all (fun e=>bm e.born since)=true):
 ms.filter (fun e=>decide (e.born<since))=ms/\ms.filter (fun e=>decide (e.born≥since))=[]:=by
 induction h with
 |nil=>exact⟨rfl,rfl⟩
 |cons a b q=>
  rename_i e m es ms;simp only[ju,bu] at g;obtain⟨z,u⟩:=q g.2;have d:=qA g.1;rw[a.born] at d
  grind
noncomputable def kM(mk:aK)(it:aa)(s:St):Nat:=
 match it with
 | .ptr n _=>match s.get mk n with
   |some (.iter (some m) _ seen _)=>match s.get mk m with
    |some (.map es _)=>(mF seen es).length
    |_=>0
   |_=>0
 |_=>0
theorem aoE{ch:Nat->Nat}{kmax:Nat->Nat}{z:Bool}{xv:aa}(ho:o.op= .next x z)(wr:WR G s.heap w)(fx:cN G s.heap B fr a.tmps w)(hx:evc fr.env x=some xv)(g:gW (pn mk ch kmax xv z s) fr.loc=some (v,loc',s'))(a5:2<=kM mk xv s->ch s.ci % kM mk xv s=(w.tape w.drawn (.mapNext (kM mk xv s))) % kM mk xv s):
 gj P G s.heap w B fr.loc lo hi a o v loc' s'.heap:=by
 simp only[gW,ak] at g;obtain⟨⟨v1,s1⟩,g,hq⟩:=g;simp only[aJ,bI] at hq;obtain⟨rfl,rfl,rfl⟩:=hq;have hX:=(fx.evc hx).1;generalize hXv:a.eval x=X at hX;unfold pn at g;split at g
 ·rename_i n
  simp only[ak] at g;obtain⟨ob,a0,g⟩:=g;cases hX with
  |ptr a7=>
  rename_i ad;obtain⟨c4,M,c0,a2⟩:=wr.obj n _ (iZ a0);rw[a7] at M;injection M with M;subst M
  split at g
  ·replace g:=ig g
   rcases g with⟨_,g⟩|⟨F,g⟩
   cases g
   ·obtain⟨h0,m',D,hm⟩:=a2
    cases m' with
    |some _=>exact hm.elim
    |none=>
     simp only[aJ,bI] at g;obtain⟨rfl,rfl⟩:=g;refine .pure wr fx (y:=.tuple #[.bool false]) ?_ (LV.of_VR (.tup (.cons (.bool _) .nil)));simp[execOp,ho,hXv,h0,Instr.next,Gx D,F]
  ·rename_i m since seen q
   replace g:=ig g;rcases g with⟨_,g⟩|⟨F,g⟩
   cases g
   ·obtain⟨h0,m',D,hm⟩:=a2
    cases m' with
    |none=>exact hm.elim
    |some mb=>
     obtain⟨am,a8,rfl⟩:=hm;simp only[ak] at g;obtain⟨b8,a3,g⟩:=g;split at g
     ·rename_i es clock
      obtain⟨c3,ES,h1,h2,h3,h4⟩:=xe wr a3;rw[a8] at h1;injection h1 with h1;subst h1
      have a1:kM mk (.ptr n 0) s=(mF seen es).length:=by simp[kM,a0,a3]
      rw[a1] at a5;replace g:=ig g;rcases g with⟨_,g⟩|⟨b5,g⟩
      cases g
      ·have hL:=asq (seen:=seen) h4
       have T:(!(⟨seen⟩:Array Nat).isEmpty&& !ES.isEmpty&&ES.all (fun e=>decide (e.born≥q)))=false:=by
        rw[<-b5];have q1:(⟨seen⟩:Array Nat).isEmpty=seen.isEmpty:=by cases seen<;>rfl
        have q2:ES.isEmpty=es.isEmpty:=by
         cases ES with|mk l=>
         have:=h4.length;cases l<;>cases es<;>first|rfl|simp at this
        have q3:ES.all (fun e=>decide (e.born≥q))=es.all (fun e=>bw q e.born):=by
         rw[<-acH h4 q];cases ES with|mk l=>simp
        rw[q1,q2,q3]
       have a6: ∀(K:Value->World->Prop),True:=fun _=>trivial;have A:(ES.filter fun e=> !(⟨seen⟩:Array Nat).contains e.born)=⟨ES.toList.filter fun e=> !(⟨seen⟩:Array Nat).contains e.born⟩:=by
        apply qp;simp
       have V:a.eval x= .pointer (some ⟨ad.block,0,none⟩):=by rw[hXv,h0]
       generalize hML:(ES.toList.filter fun e=> !(⟨seen⟩:Array Nat).contains e.born)=ML at hL A;generalize hUL:mF seen es=UL at hL g a5;clear a6 hUL;unfold tP at g;split at g
       ·
        simp only[aJ,bI] at g;obtain⟨rfl,rfl⟩:=g;cases hL;refine .pure wr fx (y:=.tuple #[.bool false]) ?_ (LV.of_VR (.tup (.cons (.bool _) .nil)));simp only[execOp,ho,V,Instr.next,Sem.run_bind,Gx D,mL,F,qb h3,T,A];simp[Question.forced]
       ·rename_i e r
        replace g:=bh g;obtain⟨a9,g⟩:=g;obtain⟨f1,f2⟩:=afI hL a9;have g1:(⟨ML⟩:Array MapEntry).filter (fun e=>decide (e.born<since))=⟨ML⟩:=by apply qp;simpa using f1
        have g2:(⟨ML⟩:Array MapEntry).filter (fun e=>decide (e.born≥since))= #[]:=by apply qp;simpa using f2
        have S:=hL.length;have b4:(⟨ML⟩:Array MapEntry).isEmpty=false:=by
         cases ML with
         |nil=>simp at S
         |cons _ _=>rfl
        have U:((if(⟨ML⟩:Array MapEntry).isEmpty=true then #[none] else #[])++((⟨ML⟩:Array MapEntry)++ #[]).map some)=(⟨ML.map some⟩:Array (Option MapEntry)):=by
         rw[b4];apply qp;simp
        have step: ∀(j:Nat) (Z:dK) (w1:World),w1.heap=w.heap->qv w w1->(e::r)[j]? =some Z-> ∃I,ML[j]? =some I/\xX G Z I/\
         WR G (vP n m since clock seen Z s).2.heap (dU w1 ad.block (.mapIter (some am.block) since ((⟨seen⟩:Array Nat).push I.born) clock))/\
         ∀lo hi,cZ G s.heap w G (vP n m since clock seen Z s).2.heap (dU w1 ad.block (.mapIter (some am.block) since ((⟨seen⟩:Array Nat).push I.born) clock)) lo hi:=by
         intro j Z w1 O b2 hj;obtain⟨I,R,H⟩:=hL.get hj;refine⟨I,R,H,?_⟩;have b1:=wr.of_heap O;have b6:w1.heap[ad.block]? =some (.mapIter (some am.block) since ⟨seen⟩ q):=by rw[O];exact D
         obtain⟨c1,c2⟩:=b1.changed (o':=.iter (some m) since (seen++[Z.born]) clock) (ob:=.mapIter (some am.block) since ((⟨seen⟩:Array Nat).push I.born) clock) (iZ a0) a7
          ⟨h0,some am.block,by rw[jZ _ _ _ _ (jB b6),iP rfl,H.born];congr 2;apply qp;simp,am,a8,rfl⟩
          (fun i u hu=>by have:=(wr.apart n _ ad i u (iZ a0) a7 hu).1;cases this)
          (fun d hd=>by obtain⟨C,e',hC,_⟩:=wr.dim _ d hd;rw[D] at hC;cases hC)
         refine⟨c1,fun lo hi=>?_⟩
         have:=c2 lo hi;exact⟨this.le,by rw[<-O];exact this.size,fun b D=>by rw[<-O] at D ⊢;exact this.keepW b D,fun b D=>by rw[<-O] at D;exact this.owns b D,this.names,fun b o v D=>by grind,b2.trans this.quiet,fun b D=>by rw[<-O] at D;exact this.ownsW b D⟩
        cases r with
        |nil=>
         simp only[aJ] at g;obtain⟨I,R,H,c1,c2⟩:=step 0 e w rfl (.refl w) (by simp);have b0:ML=[I]:=by
          cases ML with
          |nil=>simp at S
          |cons y ys=>
           grind
         have Z:v1=(vP n m since clock seen e s).1:=by rw[g]
         have e2:s1=(vP n m since clock seen e s).2:=by rw[g]
         subst Z;subst e2;refine .heap fx (y:=.tuple #[.bool true,I.key,I.val]) ?_ (.inl rfl) c1 (c2 _ _) (LV.of_VR (.tup (.cons (.bool _) (.cons H.key (.cons H.val .nil)))));subst b0;simp only[execOp,ho,V,Instr.next,Sem.run_bind,Gx D,mL,F,qb h3,T,A,g1,g2,U];simp[Question.forced,Z4 _ D]
        |cons e' r'=>
         replace g:=bh g;obtain⟨_,g⟩:=g;simp only[ak] at g;obtain⟨Z,hj,g⟩:=g;simp only[aJ,bI] at g;obtain⟨I,R,H,c1,c2⟩:=step _ Z w.drew rfl ⟨rfl,rfl,br _,fun _ _=>rfl,rfl,jQ _⟩ hj;obtain⟨rfl,rfl⟩:=g;have N:ML.length=(e::e'::r').length:=S.symm;have b3: ¬ML.length<=1:=by rw[N];simp
         have a4:(w.tape w.drawn (.mapNext ML.length)) % ML.length=ch s.ci % (e::e'::r').length:=by rw[N];exact(a5 (by simp)).symm
         refine .heap fx (y:=.tuple #[.bool true,I.key,I.val]) ?_ (.inl rfl) c1 (c2 _ _) (LV.of_VR (.tup (.cons (.bool _) (.cons H.key (.cons H.val .nil)))));generalize ch s.ci % (e::e'::r').length=J at R a4;have b7:w.drew.heap[ad.block]? =some (.mapIter (some am.block) since ⟨seen⟩ q):=D;simp only[execOp,ho,V,Instr.next,Sem.run_bind,Gx D,mL,F,qb h3,T,A,g1,g2,U];simp[Question.forced,Question.cut,b3,a4,R,Z4 _ b7]
     cases g
  cases g
 cases g
def Uy{b:Nat}: ∀ {es:List dK} {e:dK} {ms:List MapEntry},Az b es=some e->agG G es ms-> ∃m,ms.find? (fun e=>e.born==b)=some m/\xX G e m
 | [],_,_,h,_=>by simp[Az] at h
 |e::es,e',_,h,.cons (m:=m) (ms:=ms) he hs=>by
  simp only[Az] at h;replace h:=ig h;rcases h with⟨d,h⟩|⟨d,h⟩
  injection h with h;subst h
  have d:=U1 d;exact⟨m,by rw[List.find?_cons_of_pos];rw[<-he.born,d];simp,he⟩;have d:=BS d;obtain⟨g,u,q⟩:=Uy h hs;refine⟨g,?_,q⟩;rw[List.find?_cons_of_neg];·exact u
  rw[<-he.born];simpa using d
def aoq(ho:o.op= .entry x)(wr:WR G s.heap w)(fx:cN G s.heap B fr a.tmps w)(d:m8 x (fun Z=>wO mk Z s) fr s=some (v,loc',s')):gj P G s.heap w B fr.loc lo hi a o v loc' s'.heap:=by
 simp only[m8,ak] at d;obtain⟨xv,hx,d⟩:=d;replace d:=lG d;obtain⟨d,rfl,rfl⟩:=d;have T:=(fx.evc hx).1;generalize hXv:a.eval x=X at T;unfold wO at d;split at d
 ·rename_i n
  simp only[ak] at d;obtain⟨ob,K,d⟩:=d;cases T with
  |ptr O=>
  rename_i ad;obtain⟨a2,g,a0,A⟩:=wr.obj n _ (iZ K);rw[O] at g;injection g with g;subst g
  split at d;rename_i m since seen z;obtain⟨h0,V,hb,S⟩:=A;cases V with
  |none=>exact S.elim
  |some mb=>
   obtain⟨am,R,rfl⟩:=S;simp only[ak] at d;obtain⟨U,D,d⟩:=d;split at d;rename_i es clock;obtain⟨a1,ES,I,h2,h3,h4⟩:=xe wr D;rw[R] at I;injection I with I;subst I
   replace d:=bh d;obtain⟨hc,d⟩:=d;obtain rfl:=U1 hc;simp only[ak] at d;obtain⟨b,q,e,N,d⟩:=d;injection d with d;subst d
   obtain⟨J,M,H⟩:=Uy N h4;have F:ES.find? (fun e=>e.born==b)=some J:=by cases ES with|mk l=>simpa using M
   have u:(⟨seen⟩:Array Nat).back?=some b:=by
    rw[<-q];simp
   refine .pure wr fx (y:=.tuple #[J.key,J.val]) ?_ (LV.of_VR (.tup (.cons H.key (.cons H.val .nil))));simp[execOp,ho,hXv,h0,Instr.entry,Gx hb,u,qb h3,F];cases d
  cases d
 cases d
end
theorem dB(h:n<9223372036854775808):IntKind.i64.wrap (Int.ofNat n)=Int.ofNat n:=by
 grind [IntWalk.i64_in]
section
variable{P:Program}{mk:aK}{G:Gh}{s s':St}{B:Nat->Nat}{fr:Fr}{a:Act}{w:World}{o:Oper}{lo hi:Nat}{v:aa}{loc':Loc}
def Gh.listed(G:Gh)(w:World)(n:Nat)(cs:List aa)(size:Nat):Gh:=(G.more w.heap.size (fun i=>cs[i]?) (some size)).name n ⟨w.heap.size,cs.length,none⟩
theorem Gh.listed_at(G:Gh)(w:World)(n:Nat)(cs:List aa)(size:Nat):(G.listed w n cs size).at_ n=some ⟨w.heap.size,cs.length,none⟩:=by simp[Gh.listed,Gh.name]
def Gh.listed_dim(G:Gh)(w:World)(n:Nat)(cs:List aa)(size:Nat):(G.listed w n cs size).dim w.heap.size=some size:=by simp[Gh.listed,Gh.name,Gh.more]
def Gh.listed_ro(G:Gh)(w:World)(n:Nat)(cs:List aa)(size i:Nat):(G.listed w n cs size).ro w.heap.size i=cs[i]? :=by simp[Gh.listed,Gh.name,Gh.more]
theorem WR.listed(x:WR G h w)(D:G.at_ n=none)(C:Array Value)(e:TypeId)(cs:List aa)(M: ∀(i:Nat) v,cs[i]? =some v->v.scal=true/\ ∃y,C[i]? =some y/\VR G v y):
 WR (G.listed w n cs C.size) (h.set n (some .tok)) (w.alloc (.cells C e))/\cZ G h w (G.listed w n cs C.size) (h.set n (some .tok)) (w.alloc (.cells C e)) n (n+1):=by
 obtain⟨R,q⟩:=x.alloc (.cells C e) (fun i=>cs[i]?) (some C.size) (fun i v hi=>by
  obtain⟨I,y,H,z⟩:=M i v hi;exact⟨I,C,e,rfl,y,H,z.mono (x.more_le _ _)⟩) (fun d K=>⟨C,e,rfl,by injection K⟩)
 have A: ¬fg (G.more w.heap.size (fun i=>cs[i]?) (some C.size)) h w.heap.size:=by
  rintro⟨m,a,J,N,g⟩
  have:=x.below m a N;omega
 have O:=R.named (n:=n) (a:=⟨w.heap.size,cs.length,none⟩) (o:=.tok) D (by simp) rfl A
  ⟨C,e,by rw[pJ,iP rfl]⟩
  (fun i v z=>by
   grind [Gh.more])
 refine⟨O,⟨(q 0 0).le.trans (Gh.name_le _ _ D),(q 0 0).size,(q 0 0).keepW,?_,?_,?_,(q 0 0).quiet,fun b g u=>(Dd u).elim (fun e=>absurd (e▸g) (cD _)) ((q 0 0).ownsW b g)⟩⟩;intro b g u;rcases De u with rfl|u
 exact absurd g (cD _);exact(q 0 0).owns b g u;intro m a J F
 simp_all [Gh.listed,Gh.name,Gh.more]
 intro b o v g z F;exact(q 0 0).cells b o v g z F
theorem aoB{l c:Operand}(ho:o.op= .makeSlice t l c)(wr:WR G s.heap w)(fx:cN G s.heap B fr a.tmps w)(d:JW P hint dst t l c fr s=some (v,loc',s'))(F: ∀n,s.aL<=n->n<s'.aL->G.at_ n=none):
 gj P G s.heap w B fr.loc s.aL s'.aL a o v loc' s'.heap:=by
 simp only[JW,ak] at d;obtain⟨lv,hl,cv,hc,d⟩:=d;simp only[gW,ak] at d;obtain⟨⟨v1,s1⟩,d,hq⟩:=d;simp only[aJ,bI] at hq;obtain⟨rfl,rfl,rfl⟩:=hq;simp only[ow,ak] at d;obtain⟨E,hE,N,a4,D,a7,d⟩:=d;obtain⟨e,hd,hE⟩:=GF hE;obtain⟨hn,_,hg,J,b0,i,zv,_,hi,a0,a2,K,a6⟩:=yA hE;obtain⟨T,a1⟩:=xr G a2;obtain⟨kl,rfl⟩:=C0 a4;obtain⟨kc,rfl⟩:=C0 a7;have hL:VR G _ _:=fx.ev hl;have hC:VR G _ _:=fx.ev hc;generalize hLv:a.eval l=L at hL;generalize hCv:a.eval c=C at hC;cases hL;cases hC;replace d:=bh d;obtain⟨g,d⟩:=d;simp only[bu] at g;have h1:=lA g.1.1;have h2:=lA g.1.2;have h3:=lA g.2;obtain⟨R,hR,V,a8⟩:=Ki T.cells D;have I:=QR (zs:=zv.cells) V a8;rw[K] at I;have A:R.length=D*E.n:=by rw[V,Bx,K]
 have H:(execOp a.eval o).run P w= .ok (.value (.slice (some ⟨w.heap.size,0,none⟩) N D)) (w.alloc (.cells ⟨R⟩ e)):=by
  have w1:=dB (n:=N) (by omega);have w2:=dB (n:=D) (by omega);have t1: ¬((D:Int)<0):=by omega
  have t2: ¬((i.bytes:Int)*(D:Int)>2 ^ 48):=by
   rw[a6];have:((E.b:Int)*(D:Int))=((D*E.b:Nat):Int):=by rw[Nat.mul_comm];simp
   rw[this];omega
  have t3: ¬((N:Int)<0):=by omega
  have t4: ¬((N:Int)>(D:Int)):=by omega
  simp only[execOp,ho,hLv,hCv,Instr.makeSlice,Sem.run_bind,dr hd,mL,asInt,asIntOf,Sem.run_pure,typeInfo,run_program,hi,w1,w2];by_cases O:D*E.n=0;have a9:R=[]:=Lb.1 (by rw[A];exact O);subst a9;have a3: ∀(f:Nat->Value),Array.map f (Array.range 0)= #[]:=fun f=>by apply qp;simp
  simp[t4,iJ hn,O,a3,newRow]
  grind
  simp[t4,iJ hn,O,vL hi a0,K,I,newRow]
  grind
 have S:=Kj (T.scals_cells a1);have U: ∀(i:Nat) u,(aZ E.z.cells N)[i]? =some u->u.scal=true/\ ∃y,(⟨R⟩:Array Value)[i]? =some y/\VR G u y:=by
  intro i u Z;have a5: ∀(p q:Nat),p<=q-> ∀(i:Nat) u,(aZ E.z.cells p)[i]? =some u->(aZ E.z.cells q)[i]? =some u:=by
   intro p
   induction p with
   |zero=>intro q _ i u Z;simp[aZ] at Z
   |succ p ih=>
    intro q hq i u Z;obtain⟨q,rfl⟩: ∃q',q=q'+1:=⟨q-1,by omega⟩
    grind [aZ]
  have:=hR.rows (C:=⟨R⟩) (S D) i u (a5 N D h1 i u Z);exact this
 replace d:=ig d;rcases d with⟨O,d⟩|⟨_,d⟩
 simp only[bu] at O;obtain rfl:=U1 O.1;simp only[aJ,bI] at d;obtain⟨rfl,rfl⟩:=d;have M:G.at_ s.aL=none:=F s.aL (br _) (by simp[St.new]);obtain⟨c1,c2⟩:=wr.listed M ⟨R⟩ e [] (by simp);refine .heap fx H (.inl rfl) c1 c2 (LV.of_VR ?_);exact .list (.inr rfl) J (by simp) (ki _) (by simp[aF]) ⟨by grind [Gh.listed_at],R.length,Gh.listed_dim G w s.aL [] R.length,by simp[A]⟩;simp only[aJ,bI] at d;obtain⟨rfl,rfl⟩:=d;have M:G.at_ s.aL=none:=F s.aL (br _) (by simp[St.new]);obtain⟨c1,c2⟩:=wr.boxed M ⟨R⟩ e _ U;refine .heap fx H (.inl rfl) c1 c2 (LV.of_VR ?_);exact .arr (Gh.boxed_at G w s.aL _) rfl J (br _) h1 (.inr ⟨rfl,rfl⟩) (Gh.boxed_dim G w s.aL _) (by simp[A])
end
variable{ty:TypeId}
section
variable{P:Program}{mk:aK}{G:Gh}{s s':St}{B:Nat->Nat}{fr:Fr}{a:Act}{w:World}{o:Oper}{lo hi:Nat}{v:aa}{loc':Loc}
def aql{x:aa}{X:Value}(h:jo P mk t x s=some v)(q:VR G x X)(wr:WR G s.heap w): ∃y,(xO #[t] ty #[X]).run P w= .ok y w/\VR G v y:=by
 simp only[jo,ak] at h;obtain⟨d,g,h⟩:=h;split at h;injection h with h;subst h;cases q
 exact⟨_,by simp[xO,dr g,goInt]<;>rfl,.int _ _⟩;injection h with h;subst h
 exact⟨_,by simp[xO,dr g,goInt]<;>rfl,.int _ _⟩;injection h with h;subst h;cases q
 exact⟨_,by simp[xO,dr g,goInt]<;>rfl,.int _ _⟩;injection h with h;subst h;cases q
 exact⟨_,by simp[xO,dr g,goInt]<;>rfl,.int _ _⟩;injection h with h;subst h;cases q
 exact⟨_,by simp[xO,dr g,goInt]<;>rfl,.int _ _⟩;injection h with h;subst h;cases q
 exact⟨_,by simp[xO,dr g,goInt]<;>rfl,.int _ _⟩
 ·simp only[ak] at h
  obtain⟨H,z,h⟩:=h;split at h
  ·injection h with h;subst h
   cases q with
   |map A=>
   obtain⟨ad,ES,u,I,F,D⟩:=xe wr z;rw[A] at u;injection u with u;subst u
   refine⟨.int .i64 ES.size,by simp[xO,dr g,qb F,goInt],?_⟩
   have:=D.length;rw[this];simpa using VR.int (G:=G) .i64 (ES.size:Int)
  cases h
 cases h
theorem Z3{isMax:Bool}(w:World): ∀ {l:List aa} {x v:aa} {X:Value} {L:List Value},tM isMax x l=some v->VR G x X->ck G l L->
 ∃y,(L.foldlM (if isMax then Builtin.max2 else Builtin.min2) X).run P w= .ok y w/\VR G v y:=by
 have M: ∀l:List UInt8,(ByteArray.mk ⟨l⟩).toList=l:=fun l=>ByteArray.toList_mk l;intro l
 induction l with
 |nil=>
  intro x v X L h D g;cases g;unfold tM at h;split at h<;>first
   |(simp at*;done)
   |simp_all
   |(cases h)
 |cons y l u=>
  intro x v X L h D g;cases g with
  |cons H g=>
  rename_i Y L;unfold tM at h;split at h;rename_i d;cases d;rename_i k p J q I d;simp only[mH] at d;obtain⟨rfl,rfl⟩:=d;replace h:=bh h;obtain⟨K,h⟩:=h;cases D;cases H;cases isMax;obtain⟨z,A,F⟩:=u h (.int _ _) g
  grind [Builtin.min2,bc]
  obtain⟨z,A,F⟩:=u h (.int _ _) g
  grind [Builtin.max2,bc]
  rename_i d;cases d;rename_i p q I d;simp only[mH] at d;obtain⟨rfl,rfl⟩:=d;cases D;cases H;cases isMax;obtain⟨z,A,F⟩:=u h (.str _) g
  grind [Builtin.min2,Op.stringOp,asBool,Xg]
  obtain⟨z,A,F⟩:=u h (.str _) g
  grind [Builtin.max2,Op.stringOp,asBool]
  cases h
end
theorem are(s:List UInt8)(l h:Nat):(ByteArray.mk ⟨s⟩).extract l h=ByteArray.mk ⟨(s.take h).drop l⟩:=by
 apply ByteArray.ext
 grind [ByteArray.data_extract]
variable{m:Nat}
section
variable{P:Program}{mk:aK}{G:Gh}{s s':St}{B:Nat->Nat}{fr:Fr}{a:Act}{w:World}{o:Oper}{lo hi:Nat}{v:aa}{loc':Loc}
def D1(x:Option Value)(d n:Nat):Prop:=(x=none/\n=d)\/ ∃k,x=some (.int k (.ofNat n))
def oA(fx:cN G s.heap B fr a.tmps w){x:Option Operand}{d:Nat}(h:fR fr.env x d=some n):D1 (x.map a.eval) d n:=by
 cases x with
 |none=>simp[fR] at h;exact .inl ⟨rfl,h.symm⟩
 |some x=>
  simp only[fR,ak] at h;obtain⟨u,q,h⟩:=h;obtain⟨k,rfl⟩:=C0 h;have g:VR G _ _:=fx.ev q;generalize hX:a.eval x=X at g;cases g;exact .inr ⟨k,by simp[hX]⟩
def Gu{isS:Bool}{len l h:Nat}{lv g:Option Value}(q:D1 lv 0 l)(hh:D1 g len h)(h1:h<=cap)(u:l<=h)(w:World):
 (Instr.sliceBounds isS len cap lv g none).run P w= .ok (l,h,cap) w:=by
 have A: ∀n m:Nat,n<=m->(0<=(Int.ofNat n)/\(Int.ofNat n)<=(m:Int)):=fun n m d=>⟨Int.natCast_nonneg n,Int.ofNat_le.2 d⟩;rcases q with⟨rfl,rfl⟩|⟨k,rfl⟩<;>rcases hh with⟨rfl,rfl⟩|⟨z,rfl⟩<;>
  simp[Instr.sliceBounds,Instr.sliceBound,asIntOf,h1,u]
def ZY{len l h:Nat}{lv d mv:Option Value}(u:D1 lv 0 l)(hh:D1 d len h)(q: ∃k,mv=some (.int k (.ofNat m)))(g:d.isSome=true)(A:m<=cap)(h1:h<=m)(z:l<=h)(w:World):
 (Instr.sliceBounds true len cap lv d mv).run P w= .ok (l,h,m) w:=by
 obtain⟨D,rfl⟩:=q;rcases hh with⟨rfl,rfl⟩|⟨F,rfl⟩
 simp at g;rcases u with⟨rfl,rfl⟩|⟨k,rfl⟩<;>simp[Instr.sliceBounds,Instr.sliceBound,asIntOf,A,h1,z]
theorem afQ(q: ∀x∈xs,x.cells.length=sz){h l:Nat}(H:h<=xs.length)(F:l<=h):
 ∀(i:Nat) u,(aF ((xs.take h).drop l))[i]? =some u->(aF xs)[l*sz+i]? =some u:=by
 have D: ∀(l:Nat) (xs:List aa),(∀x∈xs,x.cells.length=sz)->aF (xs.drop l)=(aF xs).drop (l*sz):=by
  intro l
  induction l with
  |zero=>intro xs _;simp
  |succ l d=>
   intro xs z;cases xs with
   |nil=>simp[aF]
   |cons x xs=>
    simp only[List.drop_succ_cons,aF];rw[d xs (fun y g=>z y (by simp[g])),mJ,Nat.add_comm,<-List.drop_drop,List.drop_append_of_le_length (by grind)]
    grind
 have I: ∀(xs ys:List aa),aF (xs++ys)=aF xs++aF ys:=by
  intro xs ys
  induction xs with
  |nil=>simp[aF]
  |cons x xs d=>simp[aF,d]
 intro i u A;rw[D l _ (fun y g=>q y (DY g)),DS] at A
 grind [zU]
theorem aoI{a8 a1 I:Option Operand}(U:o.op= .slice t x a8 a1 I)(wr:WR G s.heap w)(fx:cN G s.heap B fr a.tmps w)(g:m8 x (fun x=>jE P mk t x a8 a1 I fr.env s) fr s=some (v,loc',s')):gj P G s.heap w B fr.loc lo hi a o v loc' s'.heap:=by
 simp only[m8,ak] at g;obtain⟨xv,hx,g⟩:=g;replace g:=lG g;obtain⟨g,rfl,rfl⟩:=g;have hX:=(fx.evc hx).1;generalize hXv:a.eval x=X at hX;simp only[jE,ak] at g;obtain⟨d,Z,g⟩:=g;split at g;split at g;rename_i bs;simp only[ak] at g;obtain⟨h,hh,l,J,g⟩:=g;replace g:=bh g;obtain⟨q,g⟩:=g;simp only[bu] at q;injection g with g;subst g
 cases hX;refine .pure wr fx (y:=.string ⟨⟨(bs.take h).drop l⟩⟩) ?_ (LV.of_VR (.str _));have D:=Gu (P:=P) (isS:=false) (cap:=bs.length) (oA fx J) (oA fx hh) (lA q.2) (lA q.1) w;have K:(ByteArray.mk ⟨bs⟩).size=bs.length:=rfl
 simp_all [execOp,Instr.sliceAt,Instr.slice,dr,are]
 cases g
 ·rename_i e
  simp only[ak] at g;obtain⟨n,N,g⟩:=g;split at g;simp only[ak] at g;obtain⟨h,hh,l,J,m,hm,g⟩:=g;replace g:=bh g;obtain⟨q,g⟩:=g;simp only[bu] at q;have b0:=q.2;obtain rfl:=U1 q.1.1.1;obtain rfl:=U1 q.1.1.2;obtain rfl:=U1 q.1.2;injection g with g;subst g
  cases hX;refine .pure wr fx (y:=.slice none 0 0) ?_ (LV.of_VR .oZ);cases I with
  |none=>
   have D:=Gu (P:=P) (isS:=true) (cap:=0) (oA fx J) (oA fx hh) (br _) (br _) w;simp[execOp,U,hXv,Instr.sliceAt,Instr.slice,dr Z,D,iJ N]
  |some mx=>
   have a7:=oA fx hm;rcases a7 with⟨h0,_⟩|⟨km,a4⟩
   cases h0;cases a1 with
   |none=>simp at b0
   |some hx=>
    have D:=ZY (P:=P) (cap:=0) (oA fx J) (oA fx hh) ⟨km,a4⟩ rfl (br _) (br _) (br _) w;simp only[kn] at D;simp[execOp,U,hXv,Instr.sliceAt,Instr.slice,dr Z,D,iJ N]
  ·rename_i sz xs r
   simp only[ak] at g;obtain⟨h,hh,l,J,g⟩:=g;replace g:=bh g;obtain⟨q,g⟩:=g;simp only[bu] at q;obtain rfl:=U1 q.1.1;have F:=lA q.1.2;have O:=lA q.2;cases hX with
   |list M z K b3 b6 hr=>
   rename_i ad cap;obtain⟨b,off,sp⟩:=ad;have T:0<cap->sp=none:=fun h0=>by
    grind
   have A:((xs.take h).drop l).length=h-l:=by simp;omega
   have V: ∀y∈(xs.take h).drop l,y.cells.length=sz:=fun y hy=>K y (DY (ayP hy));have b4: ∀(i:Nat) u,(aF ((xs.take h).drop l))[i]? =some u->G.ro b (off+l*sz+i)=some u:=fun i u hu=>by
    rw[wq];exact b6 _ _ (afQ K O F i u hu)
   split at g;injection g with g;subst g
   have D:=Gu (P:=P) (isS:=true) (cap:=cap) (oA fx J) (oA fx hh) (by omega) F w;refine .pure wr fx (y:=.slice (some (if cap=l then⟨b,off,sp⟩ else⟨b,off+l*sz,none⟩)) (h-l) (cap-l)) ?_ (LV.of_VR ?_);by_cases hcl:cap=l;subst hcl;simp[execOp,U,hXv,Instr.sliceAt,Instr.slice,dr Z,D,iJ N];obtain rfl:=T (by omega);simp[execOp,U,hXv,Instr.sliceAt,Instr.slice,dr Z,D,iJ N,hcl,oX];rw[<-A];refine .list (by grind) z V (by rw[A];omega) ?_ ?_
   grind [aF]
   rw[A];cases hcnd:(aQ h xs.length&&(bm l h||aQ l 0)) with
   |false=>trivial
   |true=>
    simp only[bu,zQ] at hcnd;have b1:=U1 hcnd.1;simp only[cT];cases r with
    |uP=>simp only[D7] at hr ⊢;omega
    |no=>trivial
    |own k=>
     obtain⟨hk,dm,R,a3⟩:=hr;simp only at a3;have a6:l<h\/l=0:=hcnd.2.imp qA U1;have b5:(l=0/\(if cap=l then(⟨b,off,sp⟩:Addr) else⟨b,off+l*sz,none⟩)=⟨b,off,sp⟩)\/(if cap=l then(⟨b,off,sp⟩:Addr) else⟨b,off+l*sz,none⟩)=⟨b,off+l*sz,none⟩:=by
      rcases a6 with q|rfl
      exact .inr (by rw[iN (by omega)])
      grind
     rcases b5 with⟨rfl,a5⟩|a5
     rw[a5];subst b1;exact⟨by simpa using hk,dm,R,by simpa using a3⟩;rw[a5];subst b1;refine⟨?_,dm,R,?_⟩;rw[hk];congr 2;simp only;have:xs.length*sz=l*sz+(xs.length-l)*sz:=by rw[<-ws];congr 1;omega
     omega;simp only;have:cap*sz=l*sz+(cap-l)*sz:=by rw[<-ws];congr 1;omega
     omega
   simp only[ak] at g;obtain⟨m,hm,g⟩:=g;replace g:=bh g;obtain⟨a2,g⟩:=g;simp only[bu] at a2;obtain rfl:=U1 a2.1;injection g with g;subst g
   have a7:=oA fx hm;rcases a7 with⟨h0,_⟩|⟨km,a4⟩
   cases h0;have D:=ZY (P:=P) (cap:=cap) (oA fx J) (oA fx hh) ⟨km,a4⟩ (by simpa using a2.2) (by omega) (br _) F w;simp only[kn] at D;refine .pure wr fx (y:=.slice (some (if m=l then⟨b,off,sp⟩ else⟨b,off+l*sz,none⟩)) (m-l) (m-l)) ?_ (LV.of_VR ?_);by_cases hcl:m=l;subst hcl;simp[execOp,U,hXv,Instr.sliceAt,Instr.slice,dr Z,D,iJ N];obtain rfl:=T (by omega);simp[execOp,U,hXv,Instr.sliceAt,Instr.slice,dr Z,D,iJ N,hcl,oX];rw[<-A];refine .list (by grind) z V (br _) ?_ rfl
   grind [aF]
  ·rename_i sz n' off len c1
   simp only[ak] at g;obtain⟨h,hh,l,J,g⟩:=g;replace g:=bh g;obtain⟨q,g⟩:=g;simp only[bu] at q;obtain rfl:=U1 q.1.1.1;have F:=lA q.1.1.2;have O:=lA q.1.2;cases I with
   |some _=>simp at q
   |none=>
   injection g with g;subst g
   cases hX with
   |arr S M z A b3 c2 b2 a3=>
   rename_i ad bd cap dm;obtain⟨b,a0,sp⟩:=ad;simp only at M;subst M;have D:=Gu (P:=P) (isS:=true) (cap:=cap) (oA fx J) (oA fx hh) (by omega) F w;refine .pure wr fx (y:=.slice (some (if cap=l then⟨b,a0,none⟩ else⟨b,a0+l*sz,none⟩)) (h-l) (cap-l)) ?_ (LV.of_VR ?_);by_cases hcl:cap=l;subst hcl;simp[execOp,U,hXv,Instr.sliceAt,Instr.slice,dr Z,D,iJ N];simp[execOp,U,hXv,Instr.sliceAt,Instr.slice,dr Z,D,iJ N,hcl,oX];have a9:cap*sz=l*sz+(cap-l)*sz:=by rw[<-ws];congr 1;omega
   refine .arr S (by split<;>rfl) z (by omega) (by omega) ?_ b2 (by omega)
   grind
  cases g
 ·rename_i len e
  simp only[ak] at g;obtain⟨n,N,g⟩:=g;split at g
  ·rename_i m off
   simp only[ak] at g;obtain⟨h,hh,l,J,ob,b7,g⟩:=g;split at g
   ·rename_i cs
    replace g:=bh g;obtain⟨q,g⟩:=g;simp only[bu] at q;have F:=lA q.1.1.1.1;have O:=lA q.1.1.1.2;have b8:0<len*n:=qA q.1.2;have z:0<n:=Nat.pos_of_mul_pos_left b8;have c3:=lA q.2;cases I with
    |some _=>simp at q
    |none=>
    injection g with g;subst g
    cases hX with
    |ptr S=>
    rename_i ad;obtain⟨c5,H,M,C,ty,D,R,c0⟩:=wr.obj m _ (iZ b7);rw[S] at H;injection H with H;subst H
    have c4:=Gu (P:=P) (isS:=false) (cap:=len) (oA fx J) (oA fx hh) O F w;have K:ad.off+cs.length<=C.size\/cs.length=0:=by
     rcases Nat.eq_zero_or_pos cs.length with h0|h0
     exact .inr h0;obtain⟨_,y,hy,_⟩:=c0 (cs.length-1) cs[cs.length-1] (gn (by omega))
     grind
    have a9:len*n=l*n+(len-l)*n:=by rw[<-ws];congr 1;omega
    refine .pure wr fx (y:=.slice (some (if len=l then⟨ad.block,ad.off+off,none⟩ else⟨ad.block,ad.off+off+l*n,none⟩)) (h-l) (len-l)) ?_ (LV.of_VR ?_)
    simp_all [execOp,Instr.sliceAt,dr,Instr.sureAddr,iJ,oX]
    refine .arr S (by split<;>rfl) z (by omega) (br _) ?_ R (by omega)
    grind
   cases g
  cases g
 cases g
end
variable{CY:Array Value}{mu:Bool}{need:Nat}{base:Option Addr}{s2:St}{et t2:TypeId}{x:aa}
section
variable{P:Program}{mk:aK}{G:Gh}{s s':St}{B:Nat->Nat}{fr:Fr}{a:Act}{w:World}{o:Oper}{lo hi:Nat}{v:aa}{loc':Loc}
def VR.slice_len{X:Value}(h:VR G x X)(d:yL x=true): ∃b n c,X= .slice b n c:=by
 cases h<;>first|(simp[yL] at d;done)|exact⟨_,_,_,rfl⟩
theorem Gv{g:Bool}{ys:List aa}(hg:g=false->n=1)(a2:0<n)(h:eE mk g n y s=some ys)(N:VR G y Y)(wr:WR G s.heap w):
 ∃C:Array Value,(∀w':World,w'.heap=w.heap->(zS Y).run P w'= .ok ys.length w'/\ ∀k,k<=ys.length->(uu n k Y).run P w'= .ok ⟨C.toList.take (k*n)⟩ w')/\ck G (aF ys) C.toList/\dG (aF ys)=true/\ ∀u∈ys,u.cells.length=n:=by
 unfold eE at h;split at h;injection h with h;subst h;cases N
 refine⟨#[],fun w' q=>⟨by simp[zS],fun k I=>?_⟩,.nil,rfl,by simp⟩;obtain rfl:k=0:=by simpa using I
 simp[uu]
 ·rename_i sz xs r
  replace h:=bh h;obtain⟨z,h⟩:=h;obtain rfl:=U1 z;injection h with h;subst h
  cases N with
  |list A hp hm K R hr=>
  rename_i ad cap;obtain⟨b,off,sp⟩:=ad;have a0:0<cap->sp=none:=fun h0=>by
   grind
  obtain⟨vs,M,V,h3⟩:=PW (G:=G) (cs:=aF xs) (f:=fun i=>w.cell? ⟨b,off+i,none⟩) (fun i u F=>wr.ro _ _ _ (R i u F));refine⟨⟨vs⟩,fun w' q=>⟨by simp[zS],fun k I=>?_⟩,M,V,hm⟩;have D: ∀ad,w'.cell? ad=w.cell? ad:=fun ad=>by simp[World.cell?,q]
  have H:(vs.take (k*sz)).length=k*sz:=by
   rw[sC,<-M.length,om hm];exact Nat.min_eq_left (uG _ I)
  grind [run_loadCells_list,oX,uu]
 ·rename_i sz m off len Z
  replace h:=bh h;obtain⟨z,h⟩:=h;obtain rfl:=U1 z;simp only[ak] at h;obtain⟨ob,S,h⟩:=h;split at h
  ·rename_i cs
   simp only[ak] at h;obtain⟨c,T,h⟩:=h;cases N with
   |arr U A hp H K a4 a3 a7=>
   rename_i ad bd cap dm;obtain⟨b,a5,sp⟩:=ad;simp only at A;subst A;obtain⟨a8,d,a1,C,ty,hb,_,J⟩:=wr.obj m _ (iZ S);rw[U] at d;injection d with d;subst d
   have O:dG c=true:=by
    simp only[dG,f8];intro u F;obtain⟨i,hi⟩:=ay6.1 F;exact(J _ u (Ev T hi)).1
   obtain⟨c1,c2,c3⟩:=B0 hg h O;obtain⟨vs,M,V,h3⟩:=PW (G:=G) (cs:=c) (f:=fun i=>w.cell? ⟨bd.block,bd.off+off+i,none⟩) (fun i u F=>by
    obtain⟨q1,y,N,q2⟩:=J _ u (Ev T F)
    grind [o0])
   refine⟨⟨vs⟩,fun w' q=>⟨by simp[zS,c1],fun k I=>?_⟩,by rw[c2];exact M,by rw[c2];exact V,c3⟩;have D: ∀ad,w'.cell? ad=w.cell? ad:=fun ad=>by simp[World.cell?,q]
   rw[c1] at I;have a6:vs.length=len*sz:=by rw[<-M.length];exact(Cc T).2
   grind [sC,uG,uu,run_loadCells_list,oX]
  cases h
 cases h
theorem U3(d:Nat): ∀(r c:Nat),Builtin.growBy d r c<=max c (d+(d+768) / 4)
 |0,c=>by simp[Builtin.growBy];omega
 |r+1,c=>by
  unfold Builtin.growBy;split;omega
  have:=U3 d r (c+(c+768) / 4);omega
theorem anh(h:cap<need):K6 need cap<=need*2+1024:=by
 grind [K6,U3]
def apV(h:jc need b=true)(d:cap<need): ¬K6 need cap*b>2 ^ 48:=by
 have q:=lA h;have g:=anh d;have:K6 need cap*b<=(need*2+1024)*b:=uG _ g;omega
def apW(h:jc need b=true)(d:0<b):need<2 ^ 47:=by
 have g:=lA h;have:need*2+1024<=(need*2+1024)*b:=Nat.le_mul_of_pos_right _ d;omega
theorem aqf(hd:P.underlying t=some (.slice e))(hE:yy P e=some E)(g:rN P t2=true){len k:Nat}{CX:Array Value}(hk: ∀w':World,w'.heap=w.heap->(zS Y).run P w'= .ok k w')(hX: ∀w':World,w'.heap=w.heap->(uu E.n len (.slice base len cap)).run P w'= .ok CX w')(hY: ∀w':World,w'.heap=w.heap->(uu E.n k Y).run P w'= .ok CY w')(hn:cap<len+k)(N:jc (len+k) E.b=true)(V:CX.size=len*E.n)(U:CY.size=k*E.n):
 ∃(newCap:Nat) (R:Array Value),len+k<=newCap/\R.size=newCap*E.n/\(∀i:Nat,i<(len+k)*E.n->R[i]? =(CX++CY)[i]?)/\
  (xN #[t,t2] ty #[.slice base len cap,Y]).run P w= .ok (.slice (some ⟨w.heap.size,0,none⟩) (len+k) newCap) (w.drew.alloc (.cells R e)):=by
 obtain⟨D,_,hg,O,a0,i,T,J,hi,z,Z,A,I⟩:=yA hE;have q:=apV N hn;have S:=apW N J
 let newCap:=(Question.appendCap (len+k) cap e).cut (w.tape w.drawn (.appendCap (len+k) cap e))
 have F:len+k<=newCap:=by simp only[newCap,Question.cut];omega
 refine⟨newCap,CX++CY++ay4 T.cells (newCap-(len+k)),F,?_,?_,?_⟩;simp only[Array.size_append,V,U,ay4,Array.size_map,Array.size_range,A];rw[<-ws,<-ws];congr 1;omega
 grind
 have d: ∃u,P.underlying t2=some (.slice u):=by
  unfold rN at g;split at g;rename_i u h;exact⟨u,h⟩;cases g
 obtain⟨u,d⟩:=d;have H: ¬len+k<=cap:=by omega
 have M:=hX w.drew rfl;have K:=hY w.drew rfl;simp[xN,dr hd,iJ D,dr d,hk w rfl,H,typeInfo,hi,I,q,Question.forced,M,K,vL hi z,newRow]
 grind
def PZ(R:P.underlying t=some (.slice e))(V:yy P e=some E)(g:rN P t2=true){len k:Nat}(M:(zS Y).run P w= .ok k w)(U:(uu E.n k Y).run P w= .ok CY w)(K:len+k<=cap)(T:w.heap[b]? =some (.cells C et (0,0)))(z:off+len*E.n+CY.size<=C.size)(u: ∀y∈CY.toList,y.oneCell'=true):
 (xN #[t,t2] ty #[.slice (some ⟨b,off,none⟩) len cap,Y]).run P w= .ok (.slice (some ⟨b,off,none⟩) (len+k) cap) (dU w b (.cells (kd C (off+len*E.n) CY.toList) et (0,0))):=by
 obtain⟨D,_,hg,F,O,i,Z,S,hi,H,J,I,N⟩:=yA V;have d: ∃A,P.underlying t2=some (.slice A):=by
  unfold rN at g;split at g;rename_i A h;exact⟨A,h⟩;cases g
 obtain⟨A,d⟩:=d;have q:=Ku (P:=P) b (off+len*E.n) et CY.toList 0 w C T (by simpa using z) u;simp only[gB] at q;simp[xN,dr R,iJ D,dr d,M,K,U,oX,q]
def aqg(M:P.underlying t=some (.slice e))(R:yy P e=some E)(g:rN P t2=true){len:Nat}(I:(zS Y).run P w= .ok 0 w)(O:(uu E.n 0 Y).run P w= .ok #[] w)(H:len<=cap):
 (xN #[t,t2] ty #[.slice base len cap,Y]).run P w= .ok (.slice base len cap) w:=by
 obtain⟨u,_,T,z,K,i,S,N,hi,A,F,D,J⟩:=yA R;have d: ∃q,P.underlying t2=some (.slice q):=by
  unfold rN at g;split at g;rename_i q h;exact⟨q,h⟩;cases g
 obtain⟨q,d⟩:=d;cases base<;>simp[xN,dr M,iJ u,dr d,I,H,O,storeCells]
theorem qF(xs ys:List aa):aF (xs++ys)=aF xs++aF ys:=by
 induction xs with
 |nil=>simp[aF]
 |cons x xs d=>simp[aF,d]
def VR.cap_le{b:Option Addr}(h:VR G x (.slice b n c)):n<=c:=by
 cases h<;>omega
def amp{zs:List aa}{I:aa}{s1:St}{newCap:Nat}{R:Array Value}(q:0<E.n)(wr:WR G s2.heap w)(d:kL E mu zs s2=some (I,s1))(D:G.at_ s2.aL=none)(J: ∀z∈zs,z.cells.length=E.n)(u:zs.length<=newCap)(M:R.size=newCap*E.n)(K: ∀(i:Nat) v,(aF zs)[i]? =some v->v.scal=true/\ ∃y,R[i]? =some y/\VR G v y):
 s1.aL=s2.aL+1/\ ∃G',WR G' s1.heap (w.drew.alloc (.cells R e))/\cZ G s2.heap w G' s1.heap (w.drew.alloc (.cells R e)) s2.aL (s2.aL+1)/\VR G' I (.slice (some ⟨w.heap.size,0,none⟩) zs.length newCap):=by
 have A:WR G s2.heap w.drew:=wr.of_heap rfl;have g: ∀ {G' h'},cZ G s2.heap w.drew G' h' (w.drew.alloc (.cells R e)) s2.aL (s2.aL+1)->cZ G s2.heap w G' h' (w.drew.alloc (.cells R e)) s2.aL (s2.aL+1):=
  fun x=>⟨x.le,x.size,x.keepW,x.owns,x.names,x.cells,qv.trans (⟨rfl,rfl,br _,fun _ _=>rfl,rfl,jQ _⟩:qv w w.drew) x.quiet,x.ownsW⟩
 simp only[kL] at d;replace d:=bh d;obtain⟨_,d⟩:=d;replace d:=ig d;rcases d with⟨_,d⟩|⟨_,d⟩
 simp only[aJ,bI] at d;obtain⟨rfl,rfl⟩:=d;obtain⟨H,F⟩:=A.boxed D R e (aF zs) K;exact⟨rfl,_,H,g F,.arr (Gh.boxed_at G w.drew s2.aL R.size) rfl q (br _) u (.inr ⟨rfl,rfl⟩) (Gh.boxed_dim G w.drew s2.aL R.size) (by simp[M])⟩;simp only[aJ,bI] at d;obtain⟨rfl,rfl⟩:=d;obtain⟨H,F⟩:=A.listed D R e (aF zs) K;refine⟨rfl,_,H,g F,.list (.inr rfl) q J u (fun i x N=>by rw[Nat.zero_add];exact(Gh.listed_ro G w.drew s2.aL (aF zs) R.size i).trans N) ⟨?_,R.size,Gh.listed_dim G w.drew s2.aL (aF zs) R.size,by simp[M]⟩⟩;rw[Gh.listed_at,om J];simp
def Gh.grown(G:Gh)(b d:Nat)(cs:List aa):Gh where
 at_:=G.at_
 ro c o:=if c=b/\d<=o/\o<d+cs.length then cs[o-d]? else G.ro c o
 dim:=G.dim
theorem WR.extend(wr:WR G h w){k g:Nat}(Z:h.get k=some .tok)(J:G.at_ k=some ⟨b,g,none⟩)(hn:G.at_ n=none)(hb:w.heap[b]? =some (.cells C et (0,0))){cs:List aa}(hv:ck G cs CY.toList)(hs:dG cs=true)(O:g+CY.size<=C.size):
 WR ((G.grown b g cs).name n ⟨b,g+cs.length,none⟩) ((h.set k none).set n (some .tok)) (dU w b (.cells (kd C g CY.toList) et (0,0)))/\
 cZ G h w ((G.grown b g cs).name n ⟨b,g+cs.length,none⟩) ((h.set k none).set n (some .tok)) (dU w b (.cells (kd C g CY.toList) et (0,0))) n (n+1):=by
 have N:=jB hb;have a1:cs.length=CY.size:=by simpa using hv.length
 have q: ∀c,(dU w b (.cells (kd C g CY.toList) et (0,0))).heap[c]? =if c=b then some (.cells (kd C g CY.toList) et (0,0)) else w.heap[c]? :=fun c=>jZ w b c _ N
 have a0: ∀i v,G.ro b i=some v->i<g:=fun i v hi=>(wr.apart k _ _ i v Z J hi).2;have u:lJ G h b:=⟨k,_,_,Z,rfl,J,rfl⟩;have K:fg G h b:=u.owns;have z:G.le (G.grown b g cs):=⟨fun _ _ e=>e,fun c o v e=>by
  grind [Gh.grown],fun _ _ e=>e⟩
 have R:=wr.killed k;have H: ¬fg G (h.set k none) b:=JL (a:=⟨b,g,none⟩) wr (by rw[Z];simp) J;have w1:WR (G.grown b g cs) (h.set k none) (dU w b (.cells (kd C g CY.toList) et (0,0))):=by
  refine⟨?_,R.sep,?_,?_,?_,fun m c A=>by simp;exact R.below m c A⟩;intro m U A;obtain⟨c,I,V,hr⟩:=R.obj m U A;refine⟨c,I,V,(hr.mono z).of_block ?_⟩;rw[q,iN];intro e;exact H ⟨m,c,by rw[A];simp,I,e⟩;intro c i v hi;simp only[Gh.grown] at hi;by_cases hin:c=b/\g<=i/\i<g+cs.length;rw[iP hin] at hi;obtain⟨rfl,h1,h2⟩:=hin;obtain⟨T,y,hy,S⟩:=hv.rows hs _ v hi;refine⟨T,y,?_,S.mono z⟩;rw[o0 (by rw[q,iP rfl]),KV _ _ _ _ (by simpa using O),iP (by simp;omega)];simpa using hy;rw[iN hin] at hi;obtain⟨T,y,hy,S⟩:=wr.ro c i v hi;refine⟨T,y,?_,S.mono z⟩
  grind [KV,World.cell?]
  intro m U c i v A I hi;simp only[Gh.grown] at hi;rw[iN] at hi;exact R.apart m U c i v A I hi;rintro⟨e,_,_⟩;exact H ⟨m,c,by rw[A];simp,I,e⟩
  ·intro c d hd
   obtain⟨D,t,hD,a2⟩:=wr.dim c d hd;rw[q];by_cases e:c=b
   all_goals simp_all
 have M: ¬fg (G.grown b g cs) (h.set k none) b:=H;have w2:=w1.named (n:=n) (a:=⟨b,g+cs.length,none⟩) (o:=.tok) hn (by simp;exact N) rfl M ⟨_,et,by rw[q,iP rfl]⟩ (fun i v hi=>by
  grind [Gh.grown])
 refine⟨w2,⟨z.trans (Gh.name_le _ _ hn),by simp,?_,?_,?_,?_,Gk w hb rfl rfl,fun c I F=>(Dd F).elim (fun e=>e▸u) fun F=>Dc (show lJ G (h.set k none) c from F)⟩⟩
 grind
 intro c I F;rcases De F with rfl|F
 exact K;exact A9 (show fg G (h.set k none) c from F);intro m c A h0
 simp_all [Gh.name,Gh.grown]
 grind [Gh.name,Gh.grown]
theorem WR.rehome(wr:WR G h w){M:List aa}{g:Addr}(I:h.get m=some (.cells M))(u:G.at_ m=some g)(R:G.at_ n=none){C':Array Value}(K:w.heap[g.block]? =some (.cells C et (0,0)))(N:C'.size=C.size)(J:G.dim g.block=some C.size)(d:ad.block=g.block)(F:ad.spot=none){cs:List aa}(S: ∀(i:Nat) v,cs[i]? =some v->v.scal=true/\ ∃y,C'[ad.off+i]? =some y/\VR G v y):
 WR (G.name n ad) ((h.set m none).set n (some (.cells cs))) (dU w g.block (.cells C' et (0,0)))/\
 cZ G h w (G.name n ad) ((h.set m none).set n (some (.cells cs))) (dU w g.block (.cells C' et (0,0))) n (n+1):=by
 have D:=jB K;have q:lJ G h g.block:=⟨m,g,_,I,rfl,u,rfl⟩;have O:fg G h g.block:=q.owns;have z: ∀i,G.ro g.block i=none:=fun i=>by
  cases hr:G.ro g.block i with
  |none=>rfl
  |some v=>have:=(wr.apart m _ g i v I u hr).1;cases this
 have A:=JL wr (by rw[I];simp) u;have U:=(wr.killed m).putFree K N A z;have T:=U.named (n:=n) (a:=ad) (o:=.cells cs) R (by rw[d];simpa using D) F (by rw[d];exact A)
  ⟨C',et,by rw[d,jZ _ _ _ _ D,iP rfl],by rw[d,N];exact J,S⟩ (fun i v hi=>by rw[d,z] at hi;cases hi)
 refine⟨T,⟨Gh.name_le _ _ R,by simp,?_,?_,?_,?_,Gk w K rfl rfl,fun c S H=>(Dd H).elim (fun e=>by rw[e,d];exact q) fun H=>Dc H⟩⟩
 all_goals grind [jZ,De,A9,Gh.name]
def cZ.after_kill{lo hi:Nat}(x:cZ G (h.set m none) w G' h' w' lo hi):cZ G h w G' h' w' lo hi:=
 ⟨x.le,x.size,fun b d g=>x.keepW b d (fun o=>g (Dc o)),fun b d o=>A9 (x.owns b d o),x.names,fun b i v d u q=>A9 (x.cells b i v d u q),x.quiet,fun b d o=>Dc (x.ownsW b d o)⟩
theorem Me{g:Bool}{sz:Nat}(d:g=false->sz=1): ∀(n:Nat) (cs:List aa),cs.length=n*sz-> ∃xs,bf g sz n cs=some xs
 |0,cs,h=>by
  have:cs=[]:=Lb.1 (by simpa using h);subst this;exact⟨[],rfl⟩
 |n+1,cs,h=>by
  rw[mJ] at h;cases hgv:g with
  |true=>
   obtain⟨r,q⟩:=Me d n (cs.drop sz) (by simp;omega)
   simp_all [cut,bf]
  |false=>
   have u:=d hgv;subst u;cases cs with
   |nil=>simp at h
   |cons c cs=>
    obtain⟨r,q⟩:=Me d n cs (by simp at h;omega)
    grind [bf]
theorem aqe{X:Value}(q:fF P mk t x y mu s=some (v,s'))(a4:rN P t2=true)(hx:VR G x X)(hy:VR G y Y)(wr:WR G s.heap w)(c0: ∀n,s.aL<=n->n<s'.aL->G.at_ n=none):
 ∃Z w' G',(xN #[t,t2] ty #[X,Y]).run P w= .ok Z w'/\WR G' s'.heap w'/\cZ G s.heap w G' s'.heap w' s.aL s'.aL/\VR G' v Z:=by
 simp only[fF,ak] at q;obtain⟨E,hE,ys,e3,q⟩:=q;obtain⟨e,hd,hE⟩:=GF hE;obtain⟨f5,_,hg,D,a2,ti,zv,g1,hi,f3,f6,f4,f7⟩:=yA hE;obtain⟨CY,f0,M,S,a6⟩:=Gv (P:=P) a2 D e3 hy wr;have I:CY.size=ys.length*E.n:=by
  have:=M.length;rw[om a6] at this;simpa using this.symm
 have hk: ∀w':World,w'.heap=w.heap->(zS Y).run P w'= .ok ys.length w':=fun w' h=>(f0 w' h).1;have hY: ∀w':World,w'.heap=w.heap->(uu E.n ys.length Y).run P w'= .ok CY w':=fun w' h=>by
  simp_all [re]
 have a1: ∀(mu:Bool) (xs:List aa) (base:Option Addr) (cap:Nat) (CX:Array Value) (s2:St) (v1:aa) (s1:St),X= .slice base xs.length cap->WR G s2.heap w->s2.aL=s.aL->
  (∀w':World,w'.heap=w.heap->(uu E.n xs.length (.slice base xs.length cap)).run P w'= .ok CX w')->ck G (aF xs) CX.toList->dG (aF xs)=true->(∀u∈xs,u.cells.length=E.n)->
  cap<xs.length+ys.length->kL E mu (xs++ys) s2=some (v1,s1)->G.at_ s.aL=none->
  s1.aL=s.aL+1/\ ∃Z w' G',(xN #[t,t2] ty #[X,Y]).run P w= .ok Z w'/\WR G' s1.heap w'/\cZ G s2.heap w G' s1.heap w' s.aL (s.aL+1)/\VR G' v1 Z:=by
  intro mu xs base cap CX s2 v1 s1 hX e0 d0 a3 F T H N A V;have J:CX.size=xs.length*E.n:=by
   have:=F.length;rw[om H] at this;simpa using this.symm
  have b6:jc (xs.length+ys.length) E.b=true:=by
   simp only[kL,cJ] at A;exact(bh A).1
  obtain⟨newCap,R,r1,r2,r3,r4⟩:=aqf (ty:=ty) hd hE a4 hk a3 hY N b6 J I;have c6:ck G (aF (xs++ys)) (CX++CY).toList:=by rw[qF];simpa using F.append M
  have c9:dG (aF (xs++ys))=true:=by rw[qF,aaa,T,S];rfl
  have d1: ∀z∈xs++ys,z.cells.length=E.n:=by
   intro z hz;rcases List.mem_append.1 hz with h|h
   exact H z h;exact a6 z h
  obtain⟨q1,G',q2,q3,q4⟩:=amp (e:=e) (newCap:=newCap) (R:=R) D e0 A (by rw[d0];exact V) d1 (by simpa using r1) r2 (fun i u hu=>by
   obtain⟨p1,y,hy,p2⟩:=c6.rows c9 i u hu
   grind)
  rw[d0] at q1 q3;refine⟨q1,_,_,G',by rw[hX];exact r4,q2,q3,by simpa using q4⟩
 split at q
 ·
  replace q:=bh q;obtain⟨e5,q⟩:=q;simp only[aJ,bI] at q;obtain⟨rfl,rfl⟩:=q;obtain⟨b,n,c,rfl⟩:=hx.slice_len e5;have h0:CY= #[]:=by
   have:CY.size=0:=by simpa using I
   exact Array.eq_empty_of_size_eq_zero this
  subst h0;exact⟨_,w,G,aqg hd hE a4 (hk w rfl) (hY w rfl) hx.cap_le,wr,.refl,hx⟩
 ·rename_i y0 yr
  have b1:s'.aL=s.aL+1->G.at_ s.aL=none:=fun h=>c0 s.aL (br _) (by omega);generalize hyr:(y0::yr)=yl at*;have b2:0<yl.length:=by rw[<-hyr];simp
  clear hyr;unfold jG at q;split at q
  ·
   cases hx;have b7:s'.aL=s.aL+1:=by
    simp only[kL] at q;have h1:=(bh q).2;rcases ig h1 with⟨_,h2⟩|⟨_,h2⟩<;>(simp only[aJ,bI] at h2;rw[<-h2.2];rfl)
   obtain⟨q1,Z,w',G',q2,q3,q4,q5⟩:=a1 mu [] none 0 #[] s v s' rfl wr rfl (fun w' _=>by simp[uu]) (by simpa[aF] using ck.nil) rfl (by simp) (by simpa using b2) (by simpa using q) (b1 b7)
   grind
  ·
   rename_i sz xs;replace q:=bh q;obtain⟨c7,q⟩:=q;obtain rfl:=U1 c7;have b7:s'.aL=s.aL+1:=by
    simp only[kL] at q;have h1:=(bh q).2;rcases ig h1 with⟨_,h2⟩|⟨_,h2⟩<;>(simp only[aJ,bI] at h2;rw[<-h2.2];rfl)
   obtain⟨CX,a3,F,T,H⟩:=Gv (P:=P) (mk:=mk) (s:=s) (ys:=xs) (g:=E.g) (n:=E.n) a2 D (by simp[eE]) hx wr;have J:CX.size=xs.length*E.n:=by
    have:=F.length;rw[om H] at this;simpa using this.symm
   cases hx with
   |list b0 hp hm N e7 hr=>
   rename_i ad cap;obtain rfl:cap=xs.length:=hr;obtain⟨q1,Z,w',G',q2,q3,q4,q5⟩:=a1 mu xs (some ad) xs.length CX s v s' rfl wr rfl (fun w' h=>by
    have:=(a3 w' h).2 xs.length (br _);rwa [re (by simp[J])] at this) F T H (by omega) q (b1 b7)
   grind
  ·
   rename_i sz xs k;simp only[ak] at q;obtain⟨ob,U,q⟩:=q;split at q
   ·replace q:=bh q
    obtain⟨hc,q⟩:=q;simp only[bu] at hc;obtain rfl:=U1 hc.2;simp only[aJ,bI] at q;obtain⟨rfl,rfl⟩:=q;have V:G.at_ s.aL=none:=b1 rfl;obtain⟨CX,a3,F,T,H⟩:=Gv (P:=P) (mk:=mk) (s:=s) (ys:=xs) (g:=E.g) (n:=E.n) a2 D (by simp[eE]) hx wr;have J:CX.size=xs.length*E.n:=by
     have:=F.length;rw[om H] at this;simpa using this.symm
    cases hx with
    |list b0 hp hm N e7 hr=>
    rename_i ad cap;obtain⟨b,off,sp⟩:=ad;have c8:0<cap->sp=none:=fun h0=>by
     grind
    obtain⟨O,dm,c3,a7⟩:=hr;simp only at O c3 a7;by_cases hfit:xs.length+yl.length<=cap
    ·
     obtain rfl:=c8 (by omega);obtain⟨C,et,hC,g2⟩:=wr.dim _ dm c3;have a5:(xs.length+yl.length)*E.n<=cap*E.n:=uG _ hfit;rw[ws] at a5;obtain⟨c1,c2⟩:=wr.extend (iZ U) O V hC M S (by rw[I];omega);refine⟨_,_,_,PZ hd hE a4 (hk w rfl) (hY w rfl) hfit hC (by rw[I];omega) (M.ones S),c1,c2,?_⟩;rw[<-cJ];refine .list (.inr rfl) D ?_ (by simpa using hfit) ?_ ⟨?_,dm,?_,a7⟩
     grind
     intro i u hu;rw[qF] at hu;simp only[Gh.name,Gh.grown];by_cases h1:i<(aF xs).length
     grind [om]
     grind [om,nZ]
     simp only[Gh.name,if_true];rw[om a6];congr 2
     grind
     exact c3
    ·
     have A:kL E false (xs++yl) (s.put k none)=some (.list E.n (xs++yl) (.own s.aL),(s.put k none).new .tok):=by
      simp only[kL,cJ,hc.1,cT,cF];rfl
     obtain⟨q1,Z,w',G',q2,q3,q4,q5⟩:=a1 false xs (some ⟨b,off,sp⟩) cap CX (s.put k none) _ _ rfl (wr.killed k) rfl (fun w' h=>by
      simp_all [re]) F T H (by omega) A V
     exact⟨Z,w',G',q2,q3,cZ.after_kill q4,q5⟩
   cases q
  ·
   rename_i sz m off len c4;simp only[ak] at q;obtain⟨ob,U,q⟩:=q;split at q
   ·rename_i cs
    replace q:=bh q;obtain⟨hc,q⟩:=q;simp only[bu] at hc;obtain rfl:=U1 hc.2;have e4:=hx;cases hx with
    |arr O b0 hp f2 N b4 a8 a7=>
    rename_i ad bd cap dm;obtain⟨b,d7,sp⟩:=ad;simp only at b0;subst b0;obtain⟨g3,a0,f1,C,et,hC,a9,d5⟩:=wr.obj m _ (iZ U);rw[O] at a0;injection a0 with a0;subst a0
    have g0:dm=C.size:=by rw[a8] at a9;injection a9
    replace q:=ig q;rcases q with⟨b3,q⟩|⟨_,q⟩
    have b3:=U1 b3;simp only[aJ,bI] at q;obtain⟨rfl,rfl⟩:=q;have V:G.at_ s.aL=none:=b1 rfl;by_cases hfit:len+yl.length<=cap;rcases b4 with h0|⟨e1,e2⟩
    omega;simp only at e1 e2;subst e1;subst e2;have a5:(len+yl.length)*E.n<=cap*E.n:=uG _ hfit;rw[ws] at a5;have K:bd.off+off+len*E.n+CY.toList.length<=C.size:=by simp[I];omega
    obtain⟨c1,c2⟩:=wr.rehome (n:=s.aL) (ad:=⟨bd.block,bd.off+off,none⟩) (C':=kd C (bd.off+off+len*E.n) CY.toList) (cs:=cs.drop off++aF yl) (iZ U) O V hC (by simp) a9 rfl rfl (fun i u hu=>by
     show _/\ ∃y,(kd C (bd.off+off+len*E.n) CY.toList)[bd.off+off+i]? =some y/\_;rw[KV _ _ _ _ K];by_cases h1:i<(cs.drop off).length
     grind
     rw[wd (by omega)] at hu;simp only[List.length_drop] at h1 hu;obtain⟨p1,y,hy,p2⟩:=M.rows S _ u hu;have h3:i-(cs.length-off)<(aF yl).length:=by
      rcases nZ (i-(cs.length-off)) (aF yl).length with h|h
      exact h;simp[DT h] at hu
     rw[om a6] at h3;rw[iP (by simp[I];omega)];refine⟨p1,y,?_,p2⟩
     grind)
    refine⟨_,_,_,PZ hd hE a4 (hk w rfl) (hY w rfl) hfit hC (by simpa using K) (M.ones S),c1,c2,?_⟩;exact .arr (b:=⟨bd.block,bd.off+off,none⟩) (by simp[Gh.name]) rfl D (br _) hfit (.inr ⟨rfl,by simp⟩) (show G.dim bd.block=some dm from a8) (by simpa using a7);have d6:(cs.drop off).length=len*E.n:=by simp;omega
    obtain⟨xs,c5⟩:=Me a2 len (cs.drop off) d6;have e6:dG (cs.drop off)=true:=by
     simp only[dG,f8];intro u hu;obtain⟨i,hi⟩:=ay6.1 (ayP hu);exact(d5 i u hi).1
    obtain⟨k1,k2,k3⟩:=B0 a2 c5 e6;have e9:eE mk E.g E.n (.arr E.n m off len c4) s=some xs:=by
     have d4:cut cs off (len*E.n)=some (cs.drop off):=by
      simp only[cut];have:(cs.drop off).take (len*E.n)=cs.drop off:=re (by omega);rw[this,X1];simp only[d6,bS,cT]
     simp[eE,U,d4,c5]
    obtain⟨CX,a3,F,T,H⟩:=Gv (P:=P) a2 D e9 e4 wr;have J:CX.size=xs.length*E.n:=by
     have:=F.length;rw[om H] at this;simpa using this.symm
    have A:kL E true (xs++yl) (s.put m none)=some (.arr E.n s.aL 0 (len+yl.length) (len+yl.length),(s.put m none).new (.cells (cs.drop off++aF yl))):=by
     simp only[kL,cJ,k1,hc.1,cT,qF,k2];rfl
    obtain⟨q1,Z,w',G',q2,q3,q4,q5⟩:=a1 true xs (some ⟨b,d7,none⟩) cap CX (s.put m none) _ _ (by rw[k1]) (wr.killed m) rfl (fun w' h=>by
     have:=(a3 w' h).2 xs.length (br _);rw[re (by simp[J])] at this;rw[k1] at this ⊢;exact this) F T H (by omega) A V
    exact⟨Z,w',G',q2,q3,cZ.after_kill q4,q5⟩;replace q:=bh q;obtain⟨b8,q⟩:=q;have b8:=lA b8;simp only[ak] at q;obtain⟨cs',hw,q⟩:=q;simp only[aJ,bI] at q;obtain⟨rfl,rfl⟩:=q;rcases b4 with h0|⟨e1,e2⟩
    omega;simp only at e1 e2;subst e1;subst e2;have e8:aF yl≠ []:=by
     intro e;have h0:=om a6;rw[e,bn] at h0
     have:=Nat.mul_pos b2 D;omega
    obtain⟨d2,b5⟩:=zx (base:=bd.off) hw M S e8 d5;have K:bd.off+off+len*E.n+CY.toList.length<=C.size:=by rw[wq bd.off];exact d2
    obtain⟨c1,c2⟩:=wr.changed (o':=.cells cs') (ob:=.cells (kd C (bd.off+off+len*E.n) CY.toList) et (0,0)) (iZ U) O
     ⟨_,et,by rw[jZ _ _ _ _ (jB hC),iP rfl],by rw[a9];simp,by rw[wq bd.off];exact b5⟩
     (fun i u hu=>by have:=(wr.apart m _ bd i u (iZ U) O hu).1;cases this)
     (fun d hd=>by rw[a9] at hd;injection hd with hd;exact⟨_,et,rfl,by simpa using hd⟩)
    exact⟨_,_,_,PZ hd hE a4 (hk w rfl) (hY w rfl) (by omega) hC (by simpa using K) (M.ones S),c1,c2 _ _,.arr O rfl D b8 N (.inr ⟨rfl,rfl⟩) a8 a7⟩
   cases q
  cases q
theorem aqj{X:Value}(z:rC P mk t x y s=some (v,s'))(hx:VR G x X)(hy:VR G y Y)(wr:WR G s.heap w):
 ∃Z w',(DN #[t,t2] ty #[X,Y]).run P w= .ok Z w'/\WR G s'.heap w'/\(∀lo hi,cZ G s.heap w G s'.heap w' lo hi)/\VR G v Z:=by
 simp only[rC,ak] at z;obtain⟨E,hE,ys,a5,z⟩:=z;obtain⟨e,hd,hE⟩:=GF hE;obtain⟨a7,_,hg,I,b1,ti,zv,d0,hi,c5,c7,c6,c9⟩:=yA hE;obtain⟨CY,b5,a6,S,b0⟩:=Gv (P:=P) b1 I a5 hy wr;obtain⟨hk,hY⟩:=b5 w rfl;split at z;simp only[aJ,bI] at z;obtain⟨rfl,rfl⟩:=z;cases hx;have h0:=hY 0 (ki _);exact⟨_,w,by simp_all [DN,dr,iJ,goInt],wr,fun _ _=>.refl,.int _ _⟩;simp only[aJ,bI] at z;obtain⟨rfl,rfl⟩:=z;cases hx;have h0:=hY 0 (ki _);exact⟨_,w,by simp_all [DN,dr,iJ,goInt,storeCells],wr,fun _ _=>.refl,.int _ _⟩
 ·rename_i sz m off len b6
  replace z:=bh z;obtain⟨hc,z⟩:=z;obtain rfl:=U1 hc;simp only[ak] at z;obtain⟨ob,H,z⟩:=z;split at z
  ·rename_i cs
   simp only[ak] at z;obtain⟨cs',hw,z⟩:=z;simp only[aJ,bI] at z;obtain⟨rfl,rfl⟩:=z;cases hx with
   |arr M R hp b8 c3 a3 c0 c8=>
   rename_i ad bd cap dm;obtain⟨b,c4,sp⟩:=ad;simp only at R;subst R;obtain⟨d1,F,b7,C,et,hC,b3,b4⟩:=wr.obj m _ (iZ H);rw[M] at F;injection F with F;subst F
   have hl:(ys.take len).length=Nat.min ys.length len:=by rw[sC];exact Nat.min_comm _ _
   have a0:=hY (Nat.min ys.length len) (Nat.min_le_left _ _);have K: ∀u∈ys.take len,u.cells.length=E.n:=fun u O=>b0 u (DY O);have a1:aF (ys.take len)=(aF ys).take ((ys.take len).length*E.n):=by
    have a4: ∀(A D:List aa),(∀u∈A,u.cells.length=E.n)->aF A=(aF (A++D)).take (A.length*E.n):=fun A D hA=>by
     grind [qF,om]
    have:=a4 (ys.take len) (ys.drop len) K;rwa [zU] at this
   have N:ck G (aF (ys.take len)) (CY.toList.take (Nat.min ys.length len*E.n)):=by rw[a1,hl];exact a6.take _
   have T:dG (aF (ys.take len))=true:=by
    rw[a1];simp only[dG,f8] at S ⊢;exact fun u O=>S u (DY O)
   by_cases hz:Nat.min ys.length len=0;have b2:aF (ys.take len)=[]:=by
    have:=om K;rw[hl,hz,Nat.zero_mul] at this;exact Lb.1 this
   have a2:cs'=cs:=by
    rw[b2] at hw;simp only[fL,bn,gB,List.nil_append,zU] at hw
    have:=(bh hw).2;injection this with this
    exact this.symm
   subst a2;rw[hz] at a0;have g:(s.put m (some (.cells cs'))).heap.get=s.heap.get:=by
    funext q;show(s.heap.set m (some (.cells cs'))).get q=_;rw[aC.get_set];by_cases e':q=m;rw[iP e',e',iZ H];rw[iN e']
   have U: ∀q,fg G (s.put m (some (.cells cs'))).heap q↔fg G s.heap q:=fun q=>by unfold fg;rw[g]
   refine⟨.int .i64 0,w,by simp[DN,dr hd,hk,iJ a7,hz,a0,goInt,storeCells],?_,fun lo hi=>?_,?_⟩;exact⟨fun q ob h=>wr.obj q ob (by rw[<-g];exact h),fun q r a b h1 h2=>wr.sep q r a b (by rw[<-g];exact h1) (by rw[<-g];exact h2),wr.ro,fun q ob a i v h=>wr.apart q ob a i v (by rw[<-g];exact h),wr.dim,wr.below⟩;exact⟨.refl G,br _,fun _ _ _=>rfl,fun q _ h=>(U q).1 h,fun n a h h'=>(by rw[h] at h';cases h'),fun b o v _ h h'=>(by rw[h] at h';cases h'),.refl _,fun q _ ⟨n,a,o,h1,h2⟩=>⟨n,a,o,by rw[<-g];exact h1,h2⟩⟩;rw[hl,hz];exact .int _ _;have a9:aF (ys.take len)≠ []:=by
    intro e';have h0:=om K;rw[e',bn,hl] at h0
    have:=Nat.mul_pos (Nat.pos_of_ne_zero hz) I;omega
   rcases a3 with h0|⟨e1,e2⟩
   grind
   simp only at e1 e2;subst e1;subst e2;obtain⟨V,J⟩:=zx (base:=bd.off) hw N T a9 b4;obtain⟨c1,c2⟩:=wr.changed (o':=.cells cs') (ob:=.cells (kd C (bd.off+off) (CY.toList.take (Nat.min ys.length len*E.n))) et (0,0)) (iZ H) M
    ⟨_,et,by rw[jZ _ _ _ _ (jB hC),iP rfl],by rw[b3];simp,J⟩
    (fun i u O=>by have:=(wr.apart m _ bd i u (iZ H) M O).1;cases this)
    (fun d hd=>by simp_all)
   have a8:=Ku (P:=P) bd.block (bd.off+off) et (CY.toList.take (Nat.min ys.length len*E.n)) 0 w C hC (by simpa using V) (N.ones T);simp only[gB] at a8;refine⟨.int .i64 (Nat.min ys.length len:Nat),_,by simp_all [DN,dr,iJ,goInt],c1,c2,?_⟩;rw[hl];exact .int _ _
  cases z
 cases z
def aqi{X:Value}(g:uT P mk t x s=some s')(hu: ∃d,P.underlying t=some d)(H:VR G x X)(wr:WR G s.heap w):
 ∃w',(zR #[t] ty #[X]).run P w= .ok (.tuple #[]) w'/\WR G s'.heap w'/\ ∀lo hi,cZ G s.heap w G s'.heap w' lo hi:=by
 obtain⟨d,I⟩:=hu;unfold uT at g;split at g;injection g with g;subst g;cases H
 exact⟨w,by simp[zR,dr I],wr,fun _ _=>.refl⟩;injection g with g;subst g;cases H
 exact⟨w,by simp[zR,dr I],wr,fun _ _=>.refl⟩
 ·simp only[ak] at g
  obtain⟨ob,A,g⟩:=g;split at g
  ·injection g with g;subst g
   cases H with
   |map D=>
   obtain⟨ad,ES,J,h2,h3,h4⟩:=xe wr A;rw[D] at J;injection J with J;subst J
   obtain⟨c1,c2⟩:=CP (es':=[]) (ES':= #[]) wr A D h3 .nil;exact⟨_,by simp[zR,dr I,qb h3,Dm _ h3],c1,c2⟩
  cases g
 injection g with g;subst g;cases H
 exact⟨w,by simp[zR,dr I],wr,fun _ _=>.refl⟩
 ·rename_i sz m off len b0
  replace g:=ig g;rcases g with⟨h0,g⟩|⟨h0,g⟩
  obtain rfl:=U1 h0;injection g with g;subst g;cases H
  exact⟨w,by simp[zR,dr I],wr,fun _ _=>.refl⟩
  ·have h0:=BS h0
   simp only[ak] at g;obtain⟨E,hE,g⟩:=g;obtain⟨e,a7,hE⟩:=GF hE;obtain⟨b6,_,hg,T,c0,ti,zv,c3,hi,a0,a4,a2,b8⟩:=yA hE;replace g:=bh g;obtain⟨hc,g⟩:=g;obtain rfl:=U1 hc;simp only[ak] at g;obtain⟨ob,A,g⟩:=g;split at g
   ·rename_i cs
    simp only[ak] at g;obtain⟨cs',hw,g⟩:=g;injection g with g;subst g
    cases H with
    |arr D N hp b2 b4 V b3 b7=>
    rename_i ad bd cap dm;obtain⟨b,b5,sp⟩:=ad;simp only at N;subst N;obtain⟨c5,q,b1,C,et,hC,a6,a8⟩:=wr.obj m _ (iZ A);rw[D] at q;injection q with q;subst q
    obtain⟨K,a1⟩:=xr G a4;obtain⟨R,hR,Z,a9⟩:=Ki K.cells len;have S:=QR (zs:=zv.cells) Z a9;rcases V with c4|⟨e1,e2⟩
    omega;simp only at e1 e2;subst e1;subst e2;have a5:aZ E.z.cells len≠ []:=by
     intro e';have J:=hR.length;rw[e',bn,Z,Bx,a2] at J
     have:=Nat.mul_pos (Nat.pos_of_ne_zero h0) T;omega
    have O:=Kj (K.scals_cells a1) len;obtain⟨U,F⟩:=zx (base:=bd.off) hw hR O a5 a8;obtain⟨c1,c2⟩:=wr.changed (o':=.cells cs') (ob:=.cells (kd C (bd.off+off) R) et (0,0)) (iZ A) D
     ⟨_,et,by rw[jZ _ _ _ _ (jB hC),iP rfl],by rw[a6];simp,F⟩
     (fun i u hu=>by have:=(wr.apart m _ bd i u (iZ A) D hu).1;cases this)
     (fun d I=>by simp_all)
    have M:=Ku (P:=P) bd.block (bd.off+off) et R 0 w C hC (by simpa using U) (hR.ones O);simp only[gB] at M;have a3:ay4 zv.cells len=⟨R⟩:=S;obtain⟨len,rfl⟩: ∃l,len=l+1:=⟨len-1,by omega⟩;exact⟨_,by simp[zR,dr a7,vL hi a0,a3,M],c1,c2⟩
   cases g
 cases g
theorem aon{c:Call}(ho:o.op= .call c)(wr:WR G s.heap w)(fx:cN G s.heap B fr a.tmps w)(g:vu P mk hint dst c fr s=some (v,loc',s'))(I: ∀n,s.aL<=n->n<s'.aL->G.at_ n=none):
 gj P G s.heap w B fr.loc s.aL s'.aL a o v loc' s'.heap:=by
 unfold vu at g;split at g
 ·rename_i b O
  simp only[ak] at g;obtain⟨a2,J,g⟩:=g;simp only[gW,ak] at g;obtain⟨⟨v1,s1⟩,g,hq⟩:=g;simp only[aJ,bI] at hq;obtain⟨rfl,rfl,rfl⟩:=hq;obtain⟨K,a3⟩:=fx.evcs J;have u: ∀(U:Sem Value),(∀cs,builtin b c.argTypes o.type cs (c.args.map a.eval)=(do pure (.value (<-U))))->(execOp a.eval o).run P w=(U.run P w).andThen fun y w'=>.ok (.value y) w':=by
   intro U a1;simp[execOp,ho,resolve,O,invoke,a1]
  have q:c.args.map a.eval=⟨c.args.toList.map a.eval⟩:=by apply qp;simp
  have z:c.argTypes=⟨c.argTypes.toList⟩:=rfl;generalize hM:c.args.toList.map a.eval=M at K q;generalize hT:c.argTypes.toList=T at g z;unfold jH at g;split at g
  ·
   cases K with|cons D A=>
   cases A;simp only[ak] at g;obtain⟨y,F,g⟩:=g;simp only[aJ,bI] at g;obtain⟨rfl,rfl⟩:=g;obtain⟨Y,H,N⟩:=aql (ty:=o.type) F D wr;refine .pure wr fx (y:=Y) ?_ (LV.of_VR N);rw[u (xO c.argTypes o.type (c.args.map a.eval)) (fun _=>rfl),q,z,H];rfl
  ·
   cases K with|cons D A=>
   cases A with|cons F A=>
   cases A;replace g:=bh g;obtain⟨V,g⟩:=g;obtain⟨Z,w',G',H,S,R,h3⟩:=aqe (ty:=o.type) g V D F wr I;refine .heap fx ?_ (.inl rfl) S R (LV.of_VR h3);rw[u (xN c.argTypes o.type (c.args.map a.eval)) (fun _=>rfl),q,z,H];rfl
  ·
   cases K with|cons D A=>
   cases A with|cons F A=>
   cases A;obtain⟨Z,w',H,S,R,h3⟩:=aqj (ty:=o.type) g D F wr;refine .heap fx ?_ (.inl rfl) S (R _ _) (LV.of_VR h3);rw[u (DN c.argTypes o.type (c.args.map a.eval)) (fun _=>rfl),q,z,H];rfl
  ·
   cases K with|cons D A=>
   cases A;simp only[ak] at g;obtain⟨d,hd,s2,a0,g⟩:=g;simp only[aJ,bI] at g;obtain⟨rfl,rfl⟩:=g;obtain⟨w',H,S,R⟩:=aqi (ty:=o.type) a0 ⟨d,hd⟩ D wr;refine .heap fx (y:=.tuple #[]) ?_ (.inl rfl) S (R _ _) (LV.of_VR (.tup .nil));rw[u (zR c.argTypes o.type (c.args.map a.eval)) (fun _=>rfl),q,z,H];rfl
  ·
   simp only[ak] at g;obtain⟨y,F,g⟩:=g;simp only[aJ,bI] at g;obtain⟨rfl,rfl⟩:=g;cases K with
   |cons D A=>
    obtain⟨Y,H,N⟩:=Z3 (P:=P) (isMax:=false) w F D A;refine .pure wr fx (y:=Y) ?_ (LV.of_VR N);rw[u (Builtin.min_ c.argTypes o.type (c.args.map a.eval)) (fun _=>rfl),q]
    simp_all [Builtin.min_]
  ·
   simp only[ak] at g;obtain⟨y,F,g⟩:=g;simp only[aJ,bI] at g;obtain⟨rfl,rfl⟩:=g;cases K with
   |cons D A=>
    obtain⟨Y,H,N⟩:=Z3 (P:=P) (isMax:=true) w F D A;refine .pure wr fx (y:=Y) ?_ (LV.of_VR N);rw[u (Builtin.max_ c.argTypes o.type (c.args.map a.eval)) (fun _=>rfl),q]
    simp_all [Builtin.max_]
  cases g
 cases g
end
def nD(mk:aK)(s s':St)(n:Nat):Prop:=(eh mk n=false/\s.heap.get n≠none)\/(s.aL<=n/\n<s'.aL)
structure jj (mk:aK) (s s2:St):Prop where
 aL:s2.aL=s.aL
 gt:s2.gt=s.gt
 ci:s2.ci=s.ci
 get: ∀n o,eh mk n=false->s.heap.get n=some o->s2.heap.get n=some o
def jj.refl(mk:aK)(s:St):jj mk s s:=⟨rfl,rfl,rfl,fun _ _ _ h=>h⟩
structure ib (mk:aK) (s s' s2 s2':St):Prop where
 aL:s2'.aL=s'.aL
 gt:s2'.gt=s'.gt
 ci:s2'.ci=s'.ci
 inside: ∀n,nD mk s s' n->s2'.heap.get n=s'.heap.get n
 outside: ∀n, ¬nD mk s s' n->s2'.heap.get n=s2.heap.get n
structure gr (mk:aK) (s s':St):Prop where
 aL:s.aL<=s'.aL
 ci:s.ci<=s'.ci
 gt:s'.gt<=s.gt
 frame: ∀n, ¬nD mk s s' n->s'.heap.get n=s.heap.get n
 noted: ∀n,n<s.aL->s'.heap.get n≠s.heap.get n->s'.gt<=n
def gr.refl(mk:aK)(s:St):gr mk s s:=⟨br _,br _,br _,fun _ _=>rfl,fun _ _ h=>absurd rfl h⟩
variable{mk:aK}
def gr.trans{d:St}(x:gr mk s s')(y:gr mk s' d):gr mk s d where
 aL:=fA x.aL y.aL
 ci:=fA x.ci y.ci
 gt:=fA y.gt x.gt
 frame n h:=by
  have h1: ¬nD mk s s' n:=fun t=>h (t.imp id fun t=>⟨t.1,hJ t.2 y.aL⟩);have h2: ¬nD mk s' d n:=fun t=>by
   rcases t with⟨g,t2⟩|t
   rw[x.frame n h1] at t2;exact h (.inl ⟨g,t2⟩);exact h (.inr ⟨fA x.aL t.1,t.2⟩)
  rw[y.frame n h2,x.frame n h1]
 noted n hn hne:=by
  by_cases h:s'.heap.get n=s.heap.get n;exact y.noted n (hJ hn x.aL) (by rw[h];exact hne);exact fA y.gt (x.noted n hn h)
variable{s2':St}
def ib.sees(a:jj mk s s2)(g:gr mk s s')(x:ib mk s s' s2 s2'):jj mk s' s2' where
 aL:=x.aL
 gt:=x.gt
 ci:=x.ci
 get n o hv h:=by
  by_cases t:nD mk s s' n;rw[x.inside n t];exact h;rw[x.outside n t];rw[g.frame n t] at h;exact a.get n o hv h
def ib.trans{d q:St}(z:gr mk s s')(u:gr mk s' d)(x:ib mk s s' s2 s2')(y:ib mk s' d s2' q):ib mk s d s2 q where
 aL:=y.aL
 gt:=y.gt
 ci:=y.ci
 inside n t:=by
  by_cases t2:nD mk s' d n;exact y.inside n t2;rw[y.outside n t2,u.frame n t2];refine x.inside n ?_;rcases t with t|t
  exact .inl t;refine .inr ⟨t.1,?_⟩;rcases nZ n s'.aL with h|h
  exact h;exact absurd (.inr ⟨h,t.2⟩) t2
 outside n t:=by
  have h1: ¬nD mk s s' n:=fun g=>t (g.imp id fun g=>⟨g.1,hJ g.2 u.aL⟩);have h2: ¬nD mk s' d n:=fun g=>by
   rcases g with⟨A,t2⟩|g
   rw[z.frame n h1] at t2;exact t (.inl ⟨A,t2⟩);exact t (.inr ⟨fA z.aL g.1,g.2⟩)
  rw[y.outside n h2,x.outside n h1]
def ib.refl(a:jj mk s s2):ib mk s s s2 s2 where
 aL:=a.aL
 gt:=a.gt
 ci:=a.ci
 inside n t:=by
  rcases t with⟨d,t2⟩|t
  cases h:s.heap.get n with
  |none=>exact absurd h t2
  |some o=>exact a.get n o d h
  omega
 outside _ _:=rfl
def cV{α:Type}(mk:aK)(x:(Nat->Nat)->St->Option (α×St)):Prop:=
 ∀ch s a s',x ch s=some (a,s')->gr mk s s'/\ ∀d s2,(∀i,i<s'.ci->d i=ch i)->jj mk s s2-> ∃s2',x d s2=some (a,s2')/\ib mk s s' s2 s2'
theorem tx(h:s.get mk n=some o):eh mk n=false/\s.heap.get n=some o:=by
 grind [St.get]
theorem jj.look(a:jj mk s s2)(h:s.get mk n=some o):s2.get mk n=some o:=by
 obtain⟨d,g⟩:=tx h;simp[St.get,d,a.get n o d g]
theorem gr.new(mk:aK)(s:St)(o:aR):gr mk s (s.new o) where
 aL:=jQ _
 ci:=br _
 gt:=br _
 frame n h:=by
  show(s.heap.set s.aL (some o)).get n=_;rw[aC.get_set,iN];intro e;exact h (.inr ⟨by omega,by show n<s.aL+1;omega⟩)
 noted n hn hne:=by
  refine absurd ?_ hne;show(s.heap.set s.aL (some o)).get n=_;rw[aC.get_set,iN (by omega)]
theorem ib.new(a:jj mk s s2)(o:aR):ib mk s (s.new o) s2 (s2.new o) where
 aL:=by show s2.aL+1=s.aL+1;rw[a.aL]
 gt:=a.gt
 ci:=a.ci
 inside n t:=by
  show(s2.heap.set s2.aL (some o)).get n=(s.heap.set s.aL (some o)).get n;rw[aC.get_set,aC.get_set,a.aL];by_cases e:n=s.aL;rw[iP e,iP e];rw[iN e,iN e];rcases t with⟨d,t2⟩|⟨d,t2⟩
  cases h:s.heap.get n with
  |none=>exact absurd h t2
  |some o=>exact a.get n o d h
  have:n<s.aL+1:=t2;omega
 outside n t:=by
  show(s2.heap.set s2.aL (some o)).get n=_;rw[aC.get_set,iN];intro e;rw[a.aL] at e;exact t (.inr ⟨by omega,by show n<s.aL+1;omega⟩)
theorem gr.put(h:s.get mk n=some o)(o':Option aR):gr mk s (s.put n o') where
 aL:=br _
 ci:=br _
 gt:=by
  show(bif bw s.gt n then s.gt else n)<=s.gt
  grind [tN]
 frame m hm:=by
  show(s.heap.set n o').get m=_;rw[aC.get_set,iN];intro e;subst e;obtain⟨h1,h2⟩:=tx h;exact hm (.inl ⟨h1,by rw[h2];simp⟩)
 noted m _ hne:=by
  show(bif bw s.gt n then s.gt else n)<=m;have e:m=n:=by
   by_cases e:m=n;exact e;exfalso;apply hne;show(s.heap.set n o').get m=_;rw[aC.get_set,iN e]
  subst e;cases e:bw s.gt m
  all_goals simp_all
theorem ib.put(a:jj mk s s2)(h:s.get mk n=some o)(o':Option aR):ib mk s (s.put n o') s2 (s2.put n o') where
 aL:=a.aL
 gt:=by show(bif bw s2.gt n then s2.gt else n)=(bif bw s.gt n then s.gt else n);rw[a.gt]
 ci:=a.ci
 inside m t:=by
  show(s2.heap.set n o').get m=(s.heap.set n o').get m;rw[aC.get_set,aC.get_set];by_cases e:m=n;rw[iP e,iP e];rw[iN e,iN e];rcases t with⟨d,t2⟩|⟨d,t2⟩
  cases h:s.heap.get m with
  |none=>exact absurd h t2
  |some o=>exact a.get m o d h
  have:m<s.aL:=t2;omega
 outside m t:=by
  show(s2.heap.set n o').get m=_;rw[aC.get_set,iN];intro e;subst e;obtain⟨h1,h2⟩:=tx h;exact t (.inl ⟨h1,by rw[h2];simp⟩)
theorem gr.hide{d:St}(h:s.get mk n=some o)(g:gr mk (s.put n none) d)(o':aR):gr mk s (d.put n (some o')) where
 aL:=g.aL
 ci:=g.ci
 gt:=by
  have h1:d.gt<=(bif bw s.gt n then s.gt else n):=g.gt;have h2:(bif bw s.gt n then s.gt else n)<=s.gt:=(gr.put h none).gt;have h3:(d.put n (some o')).gt<=d.gt:=by
   show(bif bw d.gt n then d.gt else n)<=d.gt;cases e:bw d.gt n
   grind [tN]
   simp
  omega
 frame m hm:=by
  obtain⟨h1,h2⟩:=tx h;have q:m≠n:=fun e=>by subst e;exact hm (.inl ⟨h1,by rw[h2];simp⟩)
  show(d.heap.set n (some o')).get m=_;rw[aC.get_set,iN q];have u:(s.put n none).heap.get m=s.heap.get m:=by
   show(s.heap.set n none).get m=_;rw[aC.get_set,iN q]
  rw[<-u];refine g.frame m fun t=>hm ?_;rcases t with⟨A,t2⟩|t
  rw[u] at t2;exact .inl ⟨A,t2⟩;exact .inr t
 noted m hm hne:=by
  have z:(d.put n (some o')).gt<=d.gt/\(d.put n (some o')).gt<=n:=by
   show(bif bw d.gt n then d.gt else n)<=d.gt/\(bif bw d.gt n then d.gt else n)<=n;cases e:bw d.gt n
   grind [tN]
   simp_all
  by_cases q:m=n;subst q;exact z.2;have u:(s.put n none).heap.get m=s.heap.get m:=by
   show(s.heap.set n none).get m=_;rw[aC.get_set,iN q]
  refine fA z.1 (g.noted m hm ?_);rw[u];intro e;apply hne;show(d.heap.set n (some o')).get m=_;rw[aC.get_set,iN q,e]
def ib.hide{q g:St}(A:jj mk s s2)(h:s.get mk n=some o)(x:ib mk (s.put n none) q (s2.put n none) g)(o':aR):ib mk s (q.put n (some o')) s2 (g.put n (some o')) where
 aL:=x.aL
 gt:=by show(bif bw g.gt n then g.gt else n)=(bif bw q.gt n then q.gt else n);rw[x.gt]
 ci:=x.ci
 inside m t:=by
  show(g.heap.set n (some o')).get m=(q.heap.set n (some o')).get m;rw[aC.get_set,aC.get_set];by_cases d:m=n;rw[iP d,iP d];rw[iN d,iN d];refine x.inside m ?_;rcases t with⟨u,t2⟩|t
  refine .inl ⟨u,?_⟩;show(s.heap.set n none).get m≠none;rw[aC.get_set,iN d];exact t2;exact .inr t
 outside m t:=by
  obtain⟨h1,h2⟩:=tx h;have d:m≠n:=fun e=>by subst e;exact t (.inl ⟨h1,by rw[h2];simp⟩)
  show(g.heap.set n (some o')).get m=_;rw[aC.get_set,iN d,x.outside m ?_];show(s2.heap.set n none).get m=_;rw[aC.get_set,iN d];rintro(⟨u,t2⟩|z);have t2:(s.heap.set n none).get m≠none:=t2;rw[aC.get_set,iN d] at t2;exact t (.inl ⟨u,t2⟩);exact t (.inr z)
def RO{β:Type}(mk:aK)(f:St->Option β):Prop:= ∀s s2 b,f s=some b->(∀n o,s.get mk n=some o->s2.get mk n=some o)->f s2=some b
section
variable{P:Program}{mk:aK}
theorem ZV(t:TypeId)(a:aa)(loc:Loc):RO mk (fun s=>mr P mk t a loc s):=by
 intro s s2 b h d;unfold mr at h ⊢
 grind [ak]
theorem ZU(g:Bool)(n:Nat)(x:aa):RO mk (fun s=>eE mk g n x s):=by
 intro s s2 b h d;unfold eE at h ⊢
 grind [ak]
theorem apS(t:TypeId)(x:aa):RO mk (fun s=>jo P mk t x s):=by
 intro s s2 b h d
 grind [jo,ak]
theorem apT(t:TypeId)(m k:aa)(g:Bool):RO mk (fun s=>ou P mk t m k g s):=by
 intro s s2 b h D;simp only[ou,ak] at h ⊢;obtain⟨q,d,z,u,r,A,h⟩:=h;refine⟨q,d,z,u,r,?_,h⟩;unfold AZ at A ⊢
 grind [ak]
theorem apR(it:aa):RO mk (fun s=>wO mk it s):=by
 intro s s2 b h d;unfold wO at h ⊢
 grind [ak]
theorem apU(t:TypeId)(x:aa)(lo hi g:Option Operand)(env:ax):RO mk (fun s=>jE P mk t x lo hi g env s):=by
 intro s s2 b h z;simp only[jE,ak] at h ⊢;obtain⟨d,u,h⟩:=h;refine⟨d,u,?_⟩;split at h;exact h
 grind
 simp only[ak] at h ⊢;obtain⟨n,q,h⟩:=h;refine⟨n,q,?_⟩;split at h;simp only[ak] at h ⊢
 grind
 cases h;cases h
end
def bO{α β:Type}(mk:aK)(x:(Nat->Nat)->St->Option (α×β×St)):Prop:=
 ∀ch s v l s',x ch s=some (v,l,s')->gr mk s s'/\ ∀d s2,(∀i,i<s'.ci->d i=ch i)->jj mk s s2-> ∃s2',x d s2=some (v,l,s2')/\ib mk s s' s2 s2'
section
variable{P:Program}{mk:aK}
def bO.ro{f:St->Option aa}(g:RO mk f)(l:Loc):bO mk (fun _ s=>fT (f s) l s):=by
 intro ch s v D s' h;obtain⟨z,u,q⟩:=lG h;subst u;subst q;refine⟨.refl mk s',fun A s2 _ a=>⟨s2,?_,.refl a⟩⟩
 have:=g s' s2 v z (fun n o d=>a.look d);simp[fT,this]
def bO.const(f:Option aa)(l:Loc):bO mk (fun _ s=>fT f l s):=bO.ro (f:=fun _=>f) (fun _ _ _ h _=>h) l
def bO.none{β:Type}:bO (α:=α) (β:=β) mk (fun _ _=>.none):=by intro ch s v l s' h;cases h
def bO.bind{γ β:Type}(x:Option β){k:β->(Nat->Nat)->St->Option (α×γ×St)}(d: ∀b,x=some b->bO mk (k b)):bO mk (fun ch s=>x.bind fun b=>k b ch s):=by
 cases x with
 |none=>intro ch s v l s' h;cases h
 |some b=>exact d b rfl
theorem bO.vs{f:(Nat->Nat)->St->Option (aa×St)}(z:cV mk f)(l:Loc):bO mk (fun ch s=>gW (f ch s) l):=by
 intro ch s v F s' h;simp only[gW,ak] at h;obtain⟨⟨q,u⟩,D,h⟩:=h;simp only[aJ,bI] at h;obtain⟨rfl,rfl,rfl⟩:=h;obtain⟨g,hh⟩:=z ch s q u D;refine⟨g,fun d s2 A a=>?_⟩;obtain⟨s2',I,H⟩:=hh d s2 A a
 grind [gW]
def cV.of_put{f:St->Option (α×St)}(u: ∀s a s',f s=some (a,s')-> ∃n o d,s.get mk n=some o/\s'=s.put n d/\ ∀s2,jj mk s s2->f s2=some (a,s2.put n d)):cV mk (fun _ s=>f s):=by
 intro ch s a s' h;obtain⟨n,o,d,q,rfl,z⟩:=u s a s' h;exact⟨.put q d,fun A s2 _ g=>⟨_,z s2 g,.put g q d⟩⟩
def cV.of_new{f:St->Option (α×St)}(g: ∀s a s',f s=some (a,s')-> ∃o,s'=s.new o/\ ∀s2,jj mk s s2->f s2=some (a,s2.new o)):cV mk (fun _ s=>f s):=by
 intro ch s a s' h;obtain⟨o,rfl,q⟩:=g s a s' h;exact⟨.new mk s o,fun u s2 _ d=>⟨_,q s2 d,.new d o⟩⟩
def cV.of_same{f:St->Option (α×St)}(g: ∀s a s',f s=some (a,s')->s'=s/\ ∀s2,jj mk s s2->f s2=some (a,s2)):cV mk (fun _ s=>f s):=by
 intro ch s a s' h;obtain⟨rfl,q⟩:=g s a s' h;exact⟨.refl mk _,fun u s2 _ d=>⟨_,q s2 d,.refl d⟩⟩
def cV.of_any{f:St->Option (α×St)}(F: ∀s a s',f s=some (a,s')->
 (s'=s/\ ∀s2,jj mk s s2->f s2=some (a,s2))\/(∃o,s'=s.new o/\ ∀s2,jj mk s s2->f s2=some (a,s2.new o))\/
 (∃n o q,s.get mk n=some o/\s'=s.put n q/\ ∀s2,jj mk s s2->f s2=some (a,s2.put n q))\/
 (∃n o q d,s.get mk n=some o/\s'=(s.put n q).new d/\ ∀s2,jj mk s s2->f s2=some (a,(s2.put n q).new d))):cV mk (fun _ s=>f s):=by
 intro ch s a s' h;rcases F s a s' h with⟨rfl,u⟩|⟨o,rfl,u⟩|⟨n,o,q,A,rfl,u⟩|⟨n,o,q,d,A,rfl,u⟩
 exact⟨.refl mk _,fun z s2 _ g=>⟨_,u s2 g,.refl g⟩⟩;exact⟨.new mk s o,fun z s2 _ g=>⟨_,u s2 g,.new g o⟩⟩;exact⟨.put A q,fun z s2 _ g=>⟨_,u s2 g,.put g A q⟩⟩;have D:=gr.put A q;exact⟨D.trans (.new mk _ d),fun z s2 _ g=>⟨_,u s2 g,ib.trans D (.new mk _ d) (.put g A q) (.new ((ib.put g A q).sees g D) d)⟩⟩
end
section
variable{P:Program}{mk:aK}
def amg(t:TypeId)(m k v:aa)(l:Loc):bO mk (fun _ s=>nW (qZ P mk t m k v s) l):=by
 intro ch s u I s' h;simp only[nW,ak] at h;obtain⟨F,d,h⟩:=h;simp only[aJ,bI] at h;obtain⟨rfl,rfl,rfl⟩:=h;simp only[qZ,ak] at d;obtain⟨J,q,d⟩:=d;split at d;rename_i n;simp only[ak] at d;obtain⟨H,g,d⟩:=d;split at d;rename_i es clock;simp only[ak] at d;obtain⟨r,A,d⟩:=d;split at d;rename_i x;replace d:=bh d;obtain⟨D,d⟩:=d;injection d with d;subst d
 exact⟨.put g _,fun z s2 _ a=>⟨_,by simp[nW,qZ,q,a.look g,A,D],.put a g _⟩⟩;injection d with d;subst d
 exact⟨.put g _,fun z s2 _ a=>⟨_,by simp[nW,qZ,q,a.look g,A],.put a g _⟩⟩;cases d;cases d
def al7(t:TypeId)(m k:aa):cV mk (fun _ s=>rS P mk t m k s):=by
 refine cV.of_put ?_;intro s u s' d;simp only[rS,ak] at d;obtain⟨I,q,z,A,d⟩:=d;split at d;rename_i n;simp only[ak] at d;obtain⟨H,g,d⟩:=d;split at d;rename_i es clock;simp only[ak] at d;obtain⟨r,D,d⟩:=d;split at d;rename_i x;replace d:=bh d;obtain⟨F,d⟩:=d;simp only[aJ,bI] at d;obtain⟨rfl,rfl⟩:=d;exact⟨n,_,_,g,rfl,fun s2 a=>by simp[rS,q,A,a.look g,D,F]⟩;simp only[aJ,bI] at d;obtain⟨rfl,rfl⟩:=d;exact⟨n,_,_,g,rfl,fun s2 a=>by simp[rS,q,A,a.look g,D]⟩;cases d;cases d
def al3(m z v:aa)(l:Loc):bO mk (fun _ s=>nW (u4 mk m z v s) l):=by
 intro ch s u J s' h;simp only[nW,ak] at h;obtain⟨H,d,h⟩:=h;simp only[aJ,bI] at h;obtain⟨rfl,rfl,rfl⟩:=h;simp only[u4,ak] at d;obtain⟨b,A,d⟩:=d;split at d;rename_i n;simp only[ak] at d;obtain⟨I,g,d⟩:=d;split at d;simp only[ak] at d;obtain⟨D,q,d⟩:=d;injection d with d;subst d
 exact⟨.put g _,fun F s2 _ a=>⟨_,by simp[nW,u4,A,a.look g,q],.put a g _⟩⟩;cases d;cases d
def al9(t:TypeId)(x:aa):cV mk (fun _ s=>t5 P mk t x s):=by
 refine cV.of_new ?_;intro s u s' g;simp only[t5,ak] at g;obtain⟨d,z,g⟩:=g;split at g;split at g;simp only[aJ,bI] at g;obtain⟨rfl,rfl⟩:=g;exact⟨_,rfl,fun s2 a=>by simp[t5,z,a.aL]⟩;simp only[ak] at g;obtain⟨A,q,g⟩:=g;split at g;simp only[aJ,bI] at g;obtain⟨rfl,rfl⟩:=g;exact⟨_,rfl,fun s2 a=>by simp[t5,z,a.look q,a.aL]⟩;cases g;cases g;cases g
def gr.ci_succ(g:gr mk s s')(d:s'.ci=s.ci):gr mk s {s' with ci:=s.ci+1 }:=⟨g.aL,jQ _,g.gt,g.frame,g.noted⟩
def ib.ci_succ(a:jj mk s s2)(g:ib mk s s' s2 s2'):ib mk s {s' with ci:=s.ci+1 } s2 {s2' with ci:=s2.ci+1 }:=
 ⟨g.aL,g.gt,by show s2.ci+1=s.ci+1;rw[a.ci],g.inside,g.outside⟩
def Xr(kmax:Nat->Nat)(it:aa)(q:Bool):cV mk (fun ch s=>pn mk ch kmax it q s):=by
 intro ch s u s' d;simp only[pn] at d ⊢;split at d;rename_i n;simp only[ak] at d;obtain⟨V,g,d⟩:=d;split at d;replace d:=ig d;rcases d with⟨_,d⟩|⟨I,d⟩
 cases d;simp only[aJ,bI] at d;obtain⟨rfl,rfl⟩:=d;exact⟨.refl mk _,fun A s2 _ a=>⟨s2,by simp[a.look g,I],.refl a⟩⟩;rename_i m since seen H;replace d:=ig d;rcases d with⟨_,d⟩|⟨I,d⟩
 cases d;simp only[ak] at d;obtain⟨R,z,d⟩:=d;split at d;rename_i es clock;replace d:=ig d;rcases d with⟨_,d⟩|⟨F,d⟩
 cases d;generalize hUL:mF seen es=UL at d;unfold tP at d;split at d;simp only[aJ,bI] at d;obtain⟨rfl,rfl⟩:=d;exact⟨.refl mk _,fun A s2 _ a=>⟨s2,by simp[a.look g,a.look z,I,F,hUL,tP],.refl a⟩⟩;rename_i e r;replace d:=bh d;obtain⟨D,d⟩:=d;split at d;simp only[aJ] at d;have S:u=(vP n m since clock seen e s).1:=by rw[d]
 have O:s'=s.put n (some (.iter (some m) since (seen++[e.born]) clock)):=(congrArg Prod.snd d).symm;subst S;subst O;refine⟨.put g _,fun A s2 _ a=>⟨_,?_,.put a g _⟩⟩;simp only[a.look g,a.look z,au,I,cF,F,hUL,tP,D,cT];rfl;rename_i O U;replace d:=bh d;obtain⟨N,d⟩:=d;simp only[ak] at d;obtain⟨T,J,d⟩:=d;simp only[aJ,bI] at d;obtain⟨rfl,rfl⟩:=d;refine⟨gr.ci_succ (s':=s.put n (some (.iter (some m) since (seen++[T.born]) clock))) (.put g _) rfl,fun A s2 M a=>⟨_,?_,ib.ci_succ a (.put a g _)⟩⟩;have K:A s2.ci=ch s.ci:=by rw[a.ci];exact M s.ci (Nat.lt_succ_self _)
 rw[<-a.ci] at N;simp only[a.look g,a.look z,au,I,cF,F,hUL,tP,D,cT,N,K,J];rfl;cases d;cases d;cases d
def al5(t:TypeId)(env:ax)(r:Option Operand):cV mk (fun _ s=>m7 P t env r s):=by
 refine cV.of_new ?_;intro s u s' g;unfold m7 at g ⊢;rcases r with _|x
 simp only[aJ,bI] at g;obtain⟨rfl,rfl⟩:=g;exact⟨_,rfl,fun s2 a=>by simp[a.aL]⟩;simp only[ak] at g;obtain⟨d,z,g⟩:=g;split at g;simp only[ak] at g;obtain⟨y,q,g⟩:=g;split at g;simp only[aJ,bI] at g;obtain⟨rfl,rfl⟩:=g;exact⟨_,rfl,fun s2 a=>by simp[z,q,a.aL]⟩;cases g;cases g
def al6(t:TypeId)(l c:aa)(mu:Bool):cV mk (fun _ s=>ow P t l c mu s):=by
 refine cV.of_new ?_;intro s u s' d;simp only[ow,ak] at d ⊢;obtain⟨E,F,z,A,H,D,d⟩:=d;replace d:=bh d;obtain⟨g,d⟩:=d;replace d:=ig d;rcases d with⟨q,d⟩|⟨q,d⟩
 simp only[aJ,bI] at d;obtain⟨rfl,rfl⟩:=d;exact⟨_,rfl,fun s2 a=>⟨E,F,z,A,H,D,by simp only[g,q,cT,a.aL]⟩⟩;simp only[aJ,bI] at d;obtain⟨rfl,rfl⟩:=d;exact⟨_,rfl,fun s2 a=>⟨E,F,z,A,H,D,by simp only[g,q,cT,cF,a.aL]⟩⟩
theorem alW(t:TypeId)(len:Nat)(parts:List (Nat×Operand))(mu:Bool)(env:ax):cV mk (fun _ s=>bj P t len parts mu env s):=by
 refine cV.of_any ?_;intro s u s' d;simp only[bj,ak] at d ⊢;obtain⟨E,A,d⟩:=d;replace d:=bh d;obtain⟨g,d⟩:=d;simp only[ak] at d;obtain⟨cs,q,d⟩:=d;replace d:=ig d;rcases d with⟨z,d⟩|⟨z,d⟩
 simp only[aJ,bI] at d;obtain⟨rfl,rfl⟩:=d;exact .inr (.inl ⟨_,rfl,fun s2 a=>⟨E,A,by simp only[g,cT,q,au,z,a.aL]⟩⟩)
 grind [ak]
theorem alU(t:TypeId)(x y:aa)(mu:Bool):cV mk (fun _ s=>fF P mk t x y mu s):=by
 refine cV.of_any ?_;intro s u s' d;simp only[fF,ak] at d ⊢;obtain⟨E,K,ys,I,d⟩:=d;have A: ∀s2,jj mk s s2->eE mk E.g E.n y s2=some ys:=fun s2 a=>ZU E.g E.n y s s2 ys I (fun n o V=>a.look V);have fin: ∀ {S R O N:Prop},S\/R\/O\/N->S\/R\/O\/N:=fun h=>h;cases ys with
 |nil=>
  grind
 |cons y0 yr=>
  simp only at d;have M: ∀(F:List aa),kL E mu F s=some (u,s')-> ∃o,s'=s.new o/\ ∀s2,jj mk s s2->kL E mu F s2=some (u,s2.new o):=by
   intro F z;simp only[kL] at z ⊢;replace z:=bh z;obtain⟨D,z⟩:=z;replace z:=ig z;rcases z with⟨H,z⟩|⟨H,z⟩
   simp only[aJ,bI] at z;obtain⟨rfl,rfl⟩:=z;exact⟨_,rfl,fun s2 a=>by simp only[D,H,cT,a.aL]⟩;simp only[aJ,bI] at z;obtain⟨rfl,rfl⟩:=z;exact⟨_,rfl,fun s2 a=>by simp only[D,H,cT,cF,a.aL]⟩
  unfold jG at d;split at d
  grind [jG]
  grind [jG]
  simp only[ak] at d;obtain⟨T,q,d⟩:=d;split at d;replace d:=bh d;obtain⟨D,d⟩:=d;simp only[aJ,bI] at d;obtain⟨rfl,rfl⟩:=d;exact .inr (.inr (.inr ⟨_,_,none,_,q,rfl,fun s2 a=>⟨E,K,_,A s2 a,by simp only[jG,a.look q,au,D,cT,a.aL]⟩⟩));cases d;simp only[ak] at d;obtain⟨T,q,d⟩:=d;split at d;replace d:=bh d;obtain⟨D,d⟩:=d;replace d:=ig d;rcases d with⟨J,d⟩|⟨J,d⟩
  simp only[aJ,bI] at d;obtain⟨rfl,rfl⟩:=d;exact .inr (.inr (.inr ⟨_,_,none,_,q,rfl,fun s2 a=>⟨E,K,_,A s2 a,by simp only[jG,a.look q,au,D,J,cT,a.aL]⟩⟩));replace d:=bh d;obtain⟨Z,d⟩:=d;simp only[ak] at d;obtain⟨cs',U,d⟩:=d;simp only[aJ,bI] at d;obtain⟨rfl,rfl⟩:=d;exact .inr (.inr (.inl ⟨_,_,_,q,rfl,fun s2 a=>⟨E,K,_,A s2 a,by simp only[jG,a.look q,au,D,J,cT,cF,Z,U]⟩⟩));cases d;cases d
theorem al1(t:TypeId)(x y:aa):cV mk (fun _ s=>rC P mk t x y s):=by
 refine cV.of_any ?_;intro s u s' d;simp only[rC,ak] at d ⊢;obtain⟨E,I,ys,z,d⟩:=d;have A: ∀s2,jj mk s s2->eE mk E.g E.n y s2=some ys:=fun s2 a=>ZU E.g E.n y s s2 ys z (fun n o H=>a.look H);split at d
 grind
 grind
 replace d:=bh d;obtain⟨F,d⟩:=d;simp only[ak] at d;obtain⟨J,q,d⟩:=d;split at d;simp only[ak] at d;obtain⟨cs',D,d⟩:=d;simp only[aJ,bI] at d;obtain⟨rfl,rfl⟩:=d;exact .inr (.inr (.inl ⟨_,_,_,q,rfl,fun s2 a=>⟨E,I,ys,A s2 a,by simp only[F,cT,a.look q,au,D]⟩⟩));cases d;cases d
theorem alZ(t:TypeId)(x:aa):cV mk (fun _ s=>(uT P mk t x s).bind fun s'=>some (aa.tup [],s')):=by
 refine cV.of_any ?_;intro s u s' d;simp only[ak] at d ⊢;obtain⟨I,d,z⟩:=d;simp only[aJ,bI] at z;obtain⟨rfl,rfl⟩:=z;unfold uT at d;split at d;injection d with d;subst d
 exact .inl ⟨rfl,fun s2 a=>⟨s2,rfl,rfl⟩⟩;injection d with d;subst d
 exact .inl ⟨rfl,fun s2 a=>⟨s2,rfl,rfl⟩⟩;simp only[ak] at d;obtain⟨A,g,d⟩:=d;split at d;injection d with d;subst d
 exact .inr (.inr (.inl ⟨_,_,_,g,rfl,fun s2 a=>⟨_,by simp only[uT,a.look g,au],rfl⟩⟩));cases d;injection d with d;subst d
 exact .inl ⟨rfl,fun s2 a=>⟨s2,rfl,rfl⟩⟩;replace d:=ig d;rcases d with⟨q,d⟩|⟨q,d⟩
 grind [uT]
 simp only[ak] at d;obtain⟨E,H,d⟩:=d;replace d:=bh d;obtain⟨F,d⟩:=d;simp only[ak] at d;obtain⟨A,g,d⟩:=d;split at d;simp only[ak] at d;obtain⟨cs',D,d⟩:=d;injection d with d;subst d
 exact .inr (.inr (.inl ⟨_,_,_,g,rfl,fun s2 a=>⟨_,by simp only[uT,q,cF,H,au,F,cT,a.look g,D],rfl⟩⟩));cases d;cases d
theorem cV.pureOpt(f:Option α):cV mk (fun _ s=>f.bind fun v=>some (v,s)):=by
 refine cV.of_same ?_
 grind [ak]
theorem alX(b:Builtin)(q:List TypeId)(mu:Bool)(args:List aa):cV mk (fun _ s=>jH P mk b q mu args s):=by
 intro ch s u s' g;unfold jH at g ⊢;split at g;refine cV.of_same (f:=fun s=>(jo P mk _ _ s).bind fun v=>some (v,s)) ?_ ch s u s' g;intro s u s' g;simp only[ak] at g ⊢;obtain⟨v,z,g⟩:=g;simp only[aJ,bI] at g;obtain⟨rfl,rfl⟩:=g;exact⟨rfl,fun s2 a=>⟨v,apS _ _ s s2 v z (fun n o D=>a.look D),rfl⟩⟩;cases hc:rN P _ with
 |false=>rw[hc] at g;cases g
 |true=>
  rw[hc] at g;simp only[cT] at g ⊢;exact alU _ _ _ mu ch s u s' g
 exact al1 _ _ _ ch s u s' g;rename_i t x;simp only[ak] at g;obtain⟨d,H,F,A,g⟩:=g
 have:=alZ (P:=P) (mk:=mk) t x ch s u s' (by grind)
 simp_all
 exact cV.pureOpt _ ch s u s' g;exact cV.pureOpt _ ch s u s' g;cases g
theorem amf(t:TypeId)(a v:aa)(loc:Loc):bO mk (fun _ s=>(ui P mk t a v loc s).bind fun r=>some (gM,r.1,r.2)):=by
 intro ch s u K s' h;simp only[ak] at h;obtain⟨⟨J,H⟩,d,h⟩:=h;simp only[aJ,bI] at h;obtain⟨rfl,rfl,rfl⟩:=h;simp only[ui,ak] at d;obtain⟨n,A,d⟩:=d;replace d:=bh d;obtain⟨F,d⟩:=d;split at d;simp only[ak] at d;obtain⟨cs,D,cs',z,d⟩:=d;simp only[aJ,bI] at d;obtain⟨rfl,rfl⟩:=d;exact⟨.refl mk _,fun q s2 _ x=>⟨s2,by grind [ui],.refl x⟩⟩;simp only[ak] at d;obtain⟨I,g,d⟩:=d;split at d;simp only[ak] at d;obtain⟨cs',z,d⟩:=d;simp only[aJ,bI] at d;obtain⟨rfl,rfl⟩:=d;exact⟨.put g _,fun q s2 _ x=>⟨_,by simp only[ui,A,au,F,cT,x.look g,z],.put x g _⟩⟩;cases d;cases d
theorem alV(h:Nat)(dst:Option Tmp)(cs:List aa)(loc:Loc):bO mk (fun _ s=>rz h dst cs loc s):=by
 intro ch s u z s' d;unfold rz at d ⊢;replace d:=ig d;rcases d with⟨q,d⟩|⟨q,d⟩
 simp only[ak] at d;obtain⟨t,A,d⟩:=d;simp only[aJ,bI] at d;obtain⟨rfl,rfl,rfl⟩:=d;exact⟨.refl mk _,fun g s2 _ x=>⟨s2,by grind,.refl x⟩⟩;simp only[aJ,bI] at d;obtain⟨rfl,rfl,rfl⟩:=d;exact⟨.new mk s _,fun g s2 _ x=>⟨_,by simp only[q,cF,x.aL],.new x _⟩⟩
def Xs(hint:Tmp->Nat)(dst:Option Tmp)(c:Call)(fr:Fr):bO mk (fun _ s=>vu P mk hint dst c fr s):=by
 unfold vu;split
 all_goals simp_all [bO.bind,bO.vs,alX,bO.none]
def alT(kmax:Nat->Nat)(hint:Tmp->Nat)(dst:Option Tmp)(op:Op)(fr:Fr):bO mk (fun ch s=>mi P mk ch kmax hint dst op fr s):=by
 cases op<;>simp only[mi]<;>first
  |exact bO.none
  |exact bO.const _ _
  |exact bO.bind _ fun z _=>alV _ _ _ _
  |exact bO.vs (alW _ _ _ _ _) _
  |exact bO.vs (al5 _ _ _) _
  |exact bO.bind _ fun a _=>bO.ro (ZV _ _ _) _
  |exact bO.bind _ fun a _=>bO.bind _ fun x _=>amf _ _ _ _
  |exact bO.bind _ fun a _=>bO.const _ _
  |exact bO.bind _ fun a _=>bO.bind _ fun b _=>bO.const _ _
  |exact bO.bind _ fun a _=>bO.bind _ fun b _=>bO.vs (al6 _ _ _ _) _
  |exact bO.bind _ fun a _=>bO.ro (apU _ _ _ _ _ _) _
  |exact bO.bind _ fun a _=>bO.bind _ fun b _=>bO.ro (apT _ _ _ _) _
  |exact bO.bind _ fun a _=>bO.bind _ fun b _=>bO.bind _ fun c _=>amg _ _ _ _ _
  |exact bO.bind _ fun a _=>bO.bind _ fun b _=>bO.vs (al7 _ _ _) _
  |exact bO.bind _ fun a _=>bO.bind _ fun b _=>bO.bind _ fun c _=>al3 _ _ _ _
  |simp_all [bO.bind,bO.vs,al9]
  |simp_all [bO.bind,bO.vs,Xr]
  |exact bO.bind _ fun a _=>bO.ro (apR _) _
  |exact Xs _ _ _ _
end
