/- The evaluator; what its values stand for; its operations are sound. -/
import Derived.Calls
import Derived.Laws.Sem
import Derived.Laws.World
import Derived.Laws.Cells
import Derived.Laws.StructEq
import Derived.Laws.Concat
import Derived.IntWalk
set_option linter.defProp false
open Array renaming ext'→nf,getElem?_eq_none→yJ,getElem?_modify→HC,getElem?_setIfInBounds→AG,getElem?_toList→CR,length_toList→wY
open Bool renaming and_eq_true→bA,false_eq_true→ua,or_eq_true→sU,rec→pD,true_and→jD
open Go.Builtin renaming append_→vA,clear_→wZ,copy_→AH,firstCells→ru,lenOf→w7,len_→vB,nextslicecap→HE
open List renaming all_cons→ma,all_eq_true→fY,drop_zero→pF,filter_cons→rz,getElem?_append_left→rA,getElem?_append_right→sW,getElem?_drop→vF,getElem?_eq_getElem→gL,getElem?_eq_none→jE,getElem?_take→yO,length_append→dX,length_cons→cP,length_drop→sX,length_eq_zero_iff→uc,length_nil→fJ,length_take→oG,mem_append→iE,mem_of_getElem?→ku,mem_of_mem_drop→xa,mem_of_mem_take→ug,nil_append→mf,range'_succ→xb,take_append_drop→oH,take_of_length_le→AN
open List.cons renaming injEq→pE
open Nat renaming add_assoc→qD,add_mul→oI,add_zero→qE,beq→aJ,ble→br,blt→bk,eq_of_beq_eq_true→iw,eq_zero_or_pos→xf,le_of_ble_eq_true→eG,le_refl→aU,le_trans→fh,lt_irrefl→cR,lt_of_lt_of_le→gX,lt_or_ge→ix,min_eq_left→AO,mul_le_mul_right→uj,succ_mul→uk,zero_add→gl,zero_le→cV
open Go.Op renaming bytesLess→c8,equalIn→xh
open Option renaming bind_eq_some_iff→az,map_some→s8
open Option.some renaming injEq→aP
open Prod.mk renaming injEq→bj
open Go.Result renaming andThen_ok→iU
namespace Go.Ag
def cT.{u}{α:Sort u}(a b:α):cond true a b=a:=rfl
def cF.{u}{α:Sort u}(a b:α):cond false a b=b:=rfl
def bS.{u}{α:Type u}[BEq α][ReflBEq α](a:α):(a==a)=true:=beq_self_eq_true a
def tA(p:Prop):(True∧p)=p:=true_and p
def dT(h:Decidable True):@decide True h=true:=decide_true h
def bN.{u}{α:Type u}[BEq α][LawfulBEq α]{a b:α}:(a==b)=false<->a≠b:=beq_eq_false_iff_ne
def bE.{u}{α:Type u}[BEq α][LawfulBEq α]{a b:α}:(a==b)=true<->a=b:=beq_iff_eq
variable{p:Prop}
def dN[Decidable p](h:¬p):decide p=false:=decide_eq_false h
def dQ[Decidable p](h:p):decide p=true:=decide_eq_true h
def dE[Decidable p]:(decide p=true)=p:=decide_eq_true_eq
def dF(h:Decidable False):@decide False h=false:=decide_false h
variable{c:Prop}
def iP.{u}{α:Sort u}{i:Decidable c}{t e:α}(h:c):(if c then t else e)=t:=if_pos h
def iN.{u}{α:Sort u}{i:Decidable c}{t e:α}(h:¬c):(if c then t else e)=e:=if_neg h
def aT(p:Prop):(p∧True)=p:=and_true p
def oT(p:Prop):(p∨True)=True:=or_true p
def sI.{u}{α:Type u}{a b:α}(h:some a=some b):a=b:=Option.some.inj h
noncomputable section
inductive fu where
 |GE
 |own (n:Nat)
 |no
 deriving Inhabited
inductive ae where
 |bool (b:Bool)
 |int (k:IntKind) (n:Int)
 |str (s:List UInt8)
 |agg (cs:List ae)
 |tup (vs:List ae)
 |nilp
 |ptr (n off:Nat)
 |Ge (t g off:Nat)
 |ro (cs:List ae)
 |AL
 |list (sz:Nat) (xs:List ae) (r:fu)
 |arr (sz n off len lcap:Nat)
 |nilm
 |map (n:Nat)
 |nilf
 |func (fn:Fn) (first captured:List ae)
 |nili
 |iface (t:TypeId) (v:ae)
 |yld (n:Nat)
 |roz (cs:List ae)
 deriving Inhabited
def ae.cells:ae->List ae
 | .agg cs=>cs
 |v=>[v]
def ae.aL:ae->Bool
 | .Ge _ _ _=>false
 | .tup _=>false
 |_=>true
def fX:ae:=.tup []
structure cw where
 key:ae
 val:ae
 born:Nat
 deriving Inhabited
inductive aZ (α:Type) where
 |nil
 |node (l:aZ α) (v:Option α) (r:aZ α)
 deriving Inhabited
inductive Ex where
 |normal
 |exit (id:Nat)
 |ret
 deriving Inhabited
inductive bf where
 |cells (cs:List ae)
 |tok
 |map (es:List cw) (clock:Nat)
 |iter (m:Option Nat) (since:Nat) (seen:List Nat) (stepped:Nat)
 |loop (f:FuncId) (env:aZ ae) (size:Nat) (ps:List Tmp) (a b:Code) (p:Option Ex)
 deriving Inhabited
namespace aZ
variable{α:Type}
def get(t:aZ α):Nat->Option α:=
 @aZ.rec α (fun _=>Nat->Option α) (fun _=>none)
  (fun _ v _ il ir n=> @pD (fun _=>Option α) (@pD (fun _=>Option α) (ir (n / 2-1)) (il (n / 2)) (aJ (n % 2) 1)) v (aJ n 0)) t
def one(x:Option α)(f:Nat):Nat->aZ α:=
 @Nat.rec (fun _=>Nat->aZ α) (fun _=>.node .nil x .nil)
  (fun _ ih n=> @pD (fun _=>aZ α) (@pD (fun _=>aZ α) (.node .nil none (ih (n / 2-1))) (.node (ih (n / 2)) none .nil) (aJ (n % 2) 1)) (.node .nil x .nil) (aJ n 0)) f
def set(t:aZ α)(n:Nat)(x:Option α):aZ α:=
 @aZ.rec α (fun _=>Nat->aZ α) (fun n=>one x n n)
  (fun l v r il ir n=> @pD (fun _=>aZ α) (@pD (fun _=>aZ α) (.node l v (ir (n / 2-1))) (.node (il (n / 2)) v r) (aJ (n % 2) 1)) (.node l x r) (aJ n 0)) t n
def all(p:α->Bool)(t:aZ α):Bool:=
 @aZ.rec α (fun _=>Bool) true (fun _ v _ il ir=>(match v with|none=>true|some x=>p x)&&(il&&ir)) t
end aZ
structure St where
 heap:aZ bf
 al:Nat
 ge:Nat
 ci:Nat
 deriving Inhabited
abbrev aW:=List (Nat×Nat)
def dC:aW->Nat->Bool
 | [],_=>false
 |(a,b)::m,n=>(br a n&&bk n b)||dC m n
def St.get(s:St)(mk:aW)(n:Nat):Option bf:=bif dC mk n then none else s.heap.get n
def St.put(s:St)(n:Nat)(o:Option bf):St:= {heap:=s.heap.set n o,al:=s.al,ge:=bif br s.ge n then s.ge else n,ci:=s.ci }
def St.new(s:St)(o:bf):St:= {heap:=s.heap.set s.al (some o),al:=s.al+1,ge:=s.ge,ci:=s.ci }
abbrev Loc:=List (Nat×Nat×List ae)
def Loc.gen:Loc->Nat->Nat
 | [],_=>0
 |(k,g,_)::l,n=>bif aJ k n then g else Loc.gen l n
def Loc.get:Loc->Nat->Nat->Option (List ae)
 | [],_,_=>none
 |(k,g,c)::l,n,h=>bif aJ k n then bif aJ g h then some c else none else Loc.get l n h
def Loc.set:Loc->Nat->Nat->List ae->Loc
 | [],n,h,c=>[(n,h,c)]
 |(k,g,d)::l,n,h,c=>bif aJ k n then(k,h,c)::l else(k,g,d)::Loc.set l n h c
abbrev aI:=aZ ae
structure Fr where
 env:aI
 size:Nat
 loc:Loc
 deriving Inhabited
def LP:Option ae->ae
 |some v=>v
 |none=>fX
def aj(e:aI)(t:Nat):ae:=LP (e.get t)
def iA:List ae->Nat->ae
 | [],_=>fX
 |x::_,0=>x
 |_::l,n+1=>iA l n
def bt:Nat->List ae->aI
 |_,[]=>.nil
 |n,v::l=>(bt (n+1) l).set n (some v)
def aX:Value->Option ae
 | .bool b=>some (.bool b)
 | .int k n=>some (.int k n)
 | .string s=>some (.str s.data.toList)
 | .pointer none=>some .nilp
 | .slice none 0 0=>some .AL
 | .map none=>some .nilm
 | .nilFunc=>some .nilf
 | .nilIface=>some .nili
 |_=>none
def Ch:List Value->Option (List ae)
 | []=>some []
 |v::l=>(aX v).bind fun a=>(Ch l).bind fun r=>some (a::r)
def ofValue:Value->Option ae
 | .agg cs=>(Ch cs.toList).bind fun l=>some (.agg l)
 |v=>aX v
def ev(env:aI):Operand->Option ae
 | .tmp t=>some (aj env t)
 | .const v=>ofValue v
 | .func f=>some (.func (.func f) [] [])
 | .global _=>none
def evc(env:aI)(x:Operand):Option ae:=(ev env x).bind fun v=>bif v.aL then some v else none
def evcs(env:aI):List Operand->Option (List ae)
 | []=>some []
 |x::l=>(evc env x).bind fun v=>(evcs env l).bind fun r=>some (v::r)
section
variable(P:Program)
def BE(t:TypeId):Option Bool:=
 (P.underlying t).bind fun
  | .struct _=>some true
  | .array _ _=>some true
  |_=>some false
def dZ(t:TypeId):Option Nat:=(P.info? t).bind fun i=>some i.size
def IA(t:TypeId):Option Nat:=(P.info? t).bind fun i=>some i.bytes
def ek(t:TypeId):Option ae:=(P.info? t).bind fun i=>i.zero.bind ofValue
def cut(cs:List ae)(off n:Nat):Option (List ae):=
 let r:=(cs.drop off).take n
 bif aJ r.length n then some r else none
def ey(t:TypeId)(cs:List ae)(off:Nat):Option ae:=
 (BE P t).bind fun b=>bif b then(dZ P t).bind fun n=>(cut cs off n).bind fun r=>some (.agg r)
  else match cs.drop off with
   |v::_=>some v
   | []=>none
def bu(cs:List ae)(off:Nat)(new:List ae):Option (List ae):=
 bif br (off+new.length) cs.length then some (cs.take off++(new++cs.drop (off+new.length))) else none
end
section
variable(P:Program)(mk:aW)(ch:Nat->Nat)(kmax:Nat->Nat)
def lR(t:TypeId)(a:ae)(loc:Loc)(s:St):Option ae:=
 match a with
 | .Ge l g off=>(loc.get l g).bind fun cs=>ey P t cs off
 | .ptr n off=>(s.get mk n).bind fun
   | .cells cs=>ey P t cs off
   |_=>none
 | .ro cs=>ey P t cs 0
 |_=>none
def nL(t:TypeId)(a v:ae)(loc:Loc)(s:St):Option (Loc×St):=
 (dZ P t).bind fun n=>bif aJ v.cells.length n&&bk 0 n then
  match a with
  | .Ge l g off=>(loc.get l g).bind fun cs=>(bu cs off v.cells).bind fun cs'=>some (loc.set l g cs',s)
  | .ptr m off=>(s.get mk m).bind fun
    | .cells cs=>(bu cs off v.cells).bind fun cs'=>some (loc,s.put m (some (.cells cs')))
    |_=>none
  |_=>none
 else none
def cS(place:Nat->Option (Nat×Nat))(env:aI)(cells:List ae):List (Nat×Operand)->Option (List ae)
 | []=>some cells
 |(i,x)::rest=>(evc env x).bind fun v=>(place i).bind fun(off,size)=>
  bif aJ v.cells.length size then(bu cells off v.cells).bind fun c=>cS place env c rest else none
def Cn:List Field->Option (List (Nat×Nat))
 | []=>some []
 |f::fs=>(dZ P f.type).bind fun n=>(Cn fs).bind fun r=>some ((f.offset,n)::r)
def eV(t:TypeId)(parts:List (Nat×Operand))(env:aI):Option ae:=
 (ek P t).bind fun z=>(P.underlying t).bind fun
  | .struct fields=>(Cn P fields.toList).bind fun pl=>(cS (fun i=>pl[i]?) env z.cells parts).bind fun c=>some (.agg c)
  | .array _ e=>(dZ P e).bind fun n=>(cS (fun i=>some (i*n,n)) env z.cells parts).bind fun c=>some (.agg c)
  |_=>none
def fW(agg:Bool)(size:Nat):Nat->List ae->Option (List ae)
 |0,[]=>some []
 |0,_=>none
 |n+1,cs=>
  bif agg then(cut cs 0 size).bind fun e=>(fW agg size n (cs.drop size)).bind fun r=>some (.agg e::r)
  else match cs with
   |v::rest=>(fW agg size n rest).bind fun r=>some (v::r)
   | []=>none
def bB:List ae->List ae
 | []=>[]
 |v::l=>v.cells++bB l
def eW(z:List ae):Nat->List ae
 |0=>[]
 |n+1=>z++eW z n
structure EI where
 n:Nat
 b:Nat
 g:Bool
 z:ae
 deriving Inhabited
def xH(e:TypeId):Option EI:=
 (dZ P e).bind fun n=>(IA P e).bind fun b=>(BE P e).bind fun g=>(ek P e).bind fun z=>
  bif bk 0 n&&aJ z.cells.length n&&(g||aJ n 1)&&bk 0 b then some ⟨n,b,g,z⟩ else none
def iI(t:TypeId):Option EI:=
 (P.underlying t).bind fun
  | .slice e=>xH P e
  |_=>none
def cx(t:TypeId)(len:Nat)(parts:List (Nat×Operand))(mu:Bool)(env:aI)(s:St):Option (ae×St):=
 (iI P t).bind fun E=>bif br (len*E.n) 16777216 then
  (cS (fun i=>some (i*E.n,E.n)) env (eW E.z.cells len) parts).bind fun cs=>
   bif mu then some (.arr E.n s.al 0 len len,s.new (.cells cs))
   else(fW E.g E.n len cs).bind fun xs=>some (.list E.n xs .GE,s)
  else none
def eK:ae->Option Nat
 | .int _ (.ofNat n)=>some n
 |_=>none
def iM(env:aI)(x:Option Operand)(d:Nat):Option Nat:=
 match x with
 |none=>some d
 |some x=>(ev env x).bind eK
def hJ(loc:Loc)(t:TypeId)(x i:ae):Option ae:=
 (eK i).bind fun i=>(P.underlying t).bind fun
  | .array len e=>(dZ P e).bind fun n=>bif bk i len then
   match x with
   | .Ge l g off=>bif aJ (loc.gen l) g then some (.Ge l g (off+i*n)) else none
   | .ptr m off=>some (.ptr m (off+i*n))
   | .ro cs=>some (.ro (cs.drop (i*n)))
   |_=>none
    else none
  | .slice e=>(dZ P e).bind fun n=>
   match x with
   | .list sz xs _=>bif aJ sz n&&bk i xs.length then some (.ro (iA xs i).cells) else none
   | .arr sz m off len _=>bif aJ sz n&&bk i len then some (.ptr m (off+i*n)) else none
   |_=>none
  |_=>none
def eY(loc:Loc)(t:TypeId)(x:ae)(f:Nat):Option ae:=
 (P.underlying t).bind fun
  | .struct fields=>(fields[f]?).bind fun fd=>(dZ P fd.type).bind fun n=>bif aJ n 0 then none else
   match x with
   | .Ge l g off=>bif aJ (loc.gen l) g then some (.Ge l g (off+fd.offset)) else none
   | .ptr m off=>some (.ptr m (off+fd.offset))
   | .ro cs=>some (.ro (cs.drop fd.offset))
   |_=>none
  |_=>none
def Dx(t:TypeId)(x:ae)(f:Nat):Option ae:=
 (P.underlying t).bind fun
  | .struct fields=>(fields[f]?).bind fun fd=>match x with
   | .agg cs=>ey P fd.type cs fd.offset
   |_=>none
  |_=>none
def tz(t:TypeId)(x i:ae):Option ae:=
 (eK i).bind fun i=>(P.underlying t).bind fun
  | .array len e=>(dZ P e).bind fun n=>bif bk i len then match x with
   | .agg cs=>ey P e cs (i*n)
   |_=>none
    else none
  | .string=>match x with
   | .str s=>match s.drop i with
     |b::_=>some (.int .u8 b.toNat)
     | []=>none
   |_=>none
  |_=>none
def ib(t:TypeId)(x:ae)(low high max:Option Operand)(env:aI)(s:St):Option ae:=
 (P.underlying t).bind fun
  | .string=>match x,max with
    | .str b,none=>(iM env high b.length).bind fun h=>(iM env low 0).bind fun l=>
     bif br l h&&br h b.length then some (.str ((b.take h).drop l)) else none
    |_,_=>none
  | .slice e=>(dZ P e).bind fun n=>
    match x with
    | .AL=>(iM env high 0).bind fun h=>(iM env low 0).bind fun l=>(iM env max 0).bind fun m=>
     bif aJ h 0&&aJ l 0&&aJ m 0&&(max.isNone||high.isSome) then some .AL else none
    | .list sz xs r=>(iM env high xs.length).bind fun h=>(iM env low 0).bind fun l=>
     bif aJ sz n&&br l h&&br h xs.length then
      match max with
      |none=>some (.list sz ((xs.take h).drop l) (bif aJ h xs.length&&(bk l h||aJ l 0) then r else .no))
      |some _=>(iM env max 0).bind fun m=>bif aJ m h&&high.isSome then some (.list sz ((xs.take h).drop l) .GE) else none
     else none
    | .arr sz m off len lcap=>(iM env high len).bind fun h=>(iM env low 0).bind fun l=>
     bif aJ sz n&&br l h&&br h len&&max.isNone then some (.arr sz m (off+l*n) (h-l) (lcap-l)) else none
    |_=>none
  | .array len e=>(dZ P e).bind fun n=>
    match x with
    | .ptr m off=>(iM env high len).bind fun h=>(iM env low 0).bind fun l=>(s.get mk m).bind fun
      | .cells cs=>bif br l h&&br h len&&max.isNone&&bk 0 (len*n)&&br (off+len*n) cs.length then some (.arr n m (off+l*n) (h-l) (len-l)) else none
      |_=>none
    |_=>none
  |_=>none
def bG(a b:Int):Bool:=decide (a<b)
def ec(a b:Int):Bool:=decide (a<=b)
def aK(a b:Int):Bool:=a==b
def leBytes:List UInt8->List UInt8->Bool:=fun x y=>c8 x y||x==y
def Au:ae->ae->Bool
 | .bool a,.bool b=>a==b
 | .int k a,.int k' b=>k==k'&&aK a b
 | .str a,.str b=>a==b
 |_,_=>false
def xD:List ae->List ae->Bool
 | [],[]=>true
 |a::x,b::y=>Au a b&&xD x y
 |_,_=>false
def wA:ae->ae->Bool
 | .agg a,.agg b=>xD a b
 |x,y=>Au x y
def zp(rec:TypeId->ae->ae->Option Bool)(xs ys:List ae):List Field->Option Bool
 | []=>some true
 |f::fs=>bif f.name== "_" then zp rec xs ys fs else
  (ey P f.type xs f.offset).bind fun a=>(ey P f.type ys f.offset).bind fun b=>(rec f.type a b).bind fun r=>
   bif r then zp rec xs ys fs else some false
def Bn(rec:TypeId->ae->ae->Option Bool)(e:TypeId)(n:Nat)(xs ys:List ae):Nat->Nat->Option Bool
 |0,_=>some true
 |k+1,i=>(ey P e xs (i*n)).bind fun a=>(ey P e ys (i*n)).bind fun b=>(rec e a b).bind fun r=>
   bif r then Bn rec e n xs ys k (i+1) else some false
def lL:Nat->TypeId->ae->ae->Option Bool
 |0,_,_,_=>none
 |d+1,t,x,y=>(P.underlying t).bind fun D=>match D,x,y with
  | .bool,.bool a,.bool b=>some (a==b)
  | .int _,.int k a,.int k' b=>bif k==k' then some (aK a b) else none
  | .string,.str a,.str b=>some (a==b)
  | .struct fs,.agg xs,.agg ys=>bif P.stoodInHeld t then none else zp P (lL d) xs ys fs.toList
  | .array len e,.agg xs,.agg ys=>(dZ P e).bind fun n=>Bn P (lL d) e n xs ys len 0
  | .slice _,.AL,.AL=>some true
  | .slice _,.AL,.list _ _ _=>some false
  | .slice _,.list _ _ _,.AL=>some false
  | .slice _,.AL,.arr _ _ _ _ _=>some false
  | .slice _,.arr _ _ _ _ _,.AL=>some false
  | .map _ _,.nilm,.nilm=>some true
  | .map _ _,.nilm,.map _=>some false
  | .map _ _,.map _,.nilm=>some false
  | .func _ _ _,.nilf,.nilf=>some true
  | .func _ _ _,.nilf,.func _ _ _=>some false
  | .func _ _ _,.func _ _ _,.nilf=>some false
  | .pointer _,.nilp,.nilp=>some true
  | .pointer _,.nilp,.ptr _ _=>some false
  | .pointer _,.ptr _ _,.nilp=>some false
  |_,_,_=>none
def rX(t:TypeId)(x y:ae):Option Bool:=
 match x,y with
 | .agg _,.agg _=>bif P.eqGuardType P.depth t then none else lL P 8 t x y
 |_,_=>lL P 8 t x y
def BR(rec:TypeId->ae->Bool)(xs:List ae):List Field->Bool
 | []=>true
 |f::fs=>bif f.name== "_" then BR rec xs fs else
  match ey P f.type xs f.offset with
  |some a=>rec f.type a&&BR rec xs fs
  |none=>false
def FV(rec:TypeId->ae->Bool)(e:TypeId)(n:Nat)(xs:List ae):Nat->Nat->Bool
 |0,_=>true
 |k+1,i=>match ey P e xs (i*n) with
  |some a=>rec e a&&FV rec e n xs k (i+1)
  |none=>false
def wz:Nat->TypeId->ae->Bool
 |0,_,_=>false
 |d+1,t,x=>match P.underlying t,x with
  |some .bool,.bool _=>true
  |some (.int _),.int _ _=>true
  |some .string,.str _=>true
  |some (.struct fs),.agg xs=>BR P (wz d) xs fs.toList
  |some (.array len e),.agg xs=>match dZ P e with
   |some n=>FV P (wz d) e n xs len 0
   |none=>false
  |_,_=>false
def JX(op:BinOp)(k:IntKind)(a b:Int):Option ae:=
 match op with
 | .add=>some (.int k (k.wrap (a+b)))
 | .sub=>some (.int k (k.wrap (a-b)))
 | .mul=>some (.int k (k.wrap (a*b)))
 | .quo=>bif aK b 0 then none else some (.int k (k.wrap (a.tdiv b)))
 | .rem=>bif aK b 0 then none else some (.int k (a.tmod b))
 | .and=>some (.int k (k.wrap ((BitVec.ofInt k.bits a) &&& (BitVec.ofInt k.bits b)).toNat))
 | .or=>some (.int k (k.wrap ((BitVec.ofInt k.bits a) ||| (BitVec.ofInt k.bits b)).toNat))
 | .xor=>some (.int k (k.wrap ((BitVec.ofInt k.bits a) ^^^ (BitVec.ofInt k.bits b)).toNat))
 | .andNot=>some (.int k (k.wrap ((BitVec.ofInt k.bits a) &&& ~~~(BitVec.ofInt k.bits b)).toNat))
 | .eql=>some (.bool (aK a b))
 | .neq=>some (.bool (!aK a b))
 | .lss=>some (.bool (bG a b))
 | .leq=>some (.bool (ec a b))
 | .gtr=>some (.bool (bG b a))
 | .geq=>some (.bool (ec b a))
 |_=>none
def Mq(op:BinOp)(a b:List UInt8):Option ae:=
 match op with
 | .add=>bif br (a.length+b.length) 1073741824 then some (.str (a++b)) else none
 | .eql=>some (.bool (a==b))
 | .neq=>some (.bool (!(a==b)))
 | .lss=>some (.bool (c8 a b))
 | .leq=>some (.bool (leBytes a b))
 | .gtr=>some (.bool (!leBytes a b))
 | .geq=>some (.bool (!c8 a b))
 |_=>none
def d8(op:BinOp)(t:TypeId)(x y:ae):Option ae:=
 match x,y with
 | .int k a,.int k' b=>match op with
   | .shl=>bif bG b 0 then none else some (.int k (k.wrap (a*2 ^ (min b.toNat k.bits))))
   | .shr=>bif bG b 0 then none else some (.int k (a.fdiv (2 ^ (min b.toNat k.bits))))
   |_=>bif k==k' then JX op k a b else none
 | .str a,.str b=>Mq op a b
 |x,y=>match op with
  | .eql=>(rX P t x y).bind fun b=>some (.bool b)
  | .neq=>(rX P t x y).bind fun b=>some (.bool (!b))
  |_=>none
def AB(op:UnOp)(x:ae):Option ae:=
 match op,x with
 | .neg,.int k n=>some (.int k (k.wrap (0-n)))
 | .not,.bool b=>some (.bool !b)
 |_,_=>none
def Ds(src dst:TypeId)(x:ae):Option ae:=
 (P.underlying src).bind fun _=>(P.underlying dst).bind fun d=>match d,x with
  | .int k,.int _ n=>some (.int k (k.wrap n))
  | .string,.str s=>some (.str s)
  |_,_=>none
def lN(kt:TypeId)(k:ae):List cw->Nat->Option (Option (Nat×cw))
 | [],_=>some none
 |e::es,i=>(lL P 8 kt k e.key).bind fun b=>bif b then some (some (i,e)) else lN kt k es (i+1)
def qm(t:TypeId)(k:ae):Option (TypeId×TypeId):=
 (P.underlying t).bind fun
  | .map kt e=>bif wz P 8 kt k then some (kt,e) else none
  |_=>none
def B3(kt:TypeId)(m k:ae)(s:St):Option (Option (Nat×cw)):=
 match m with
 | .nilm=>some none
 | .map n=>(s.get mk n).bind fun
   | .map es _=>lN P kt k es 0
   |_=>none
 |_=>none
def mU(t:TypeId)(m k:ae)(ok:Bool)(s:St):Option ae:=
 (qm P t k).bind fun ke=>(ek P ke.2).bind fun z=>(B3 P mk ke.1 m k s).bind fun
  |some x=>some (bif ok then .tup [x.2.val,.bool true] else x.2.val)
  |none=>some (bif ok then .tup [z,.bool false] else z)
def nM(t:TypeId)(m k v:ae)(s:St):Option St:=
 (qm P t k).bind fun ke=>match m with
  | .map n=>(s.get mk n).bind fun
    | .map es clock=>(lN P ke.1 k es 0).bind fun
      |some x=>bif wA x.2.key k then some (s.put n (some (.map (es.set x.1 ⟨k,v,x.2.born⟩) clock))) else none
      |none=>some (s.put n (some (.map (es++[⟨k,v,clock⟩]) (clock+1))))
    |_=>none
  |_=>none
def x9(t:TypeId)(m k:ae)(s:St):Option (ae×St):=
 (qm P t k).bind fun ke=>(ek P ke.2).bind fun z=>match m with
  | .map n=>(s.get mk n).bind fun
    | .map es clock=>(lN P ke.1 k es 0).bind fun
      |some x=>bif wA x.2.key k then some (.tup [x.2.val,.int .i64 x.2.born],s.put n (some (.map (es.set x.1 ⟨k,x.2.val,x.2.born⟩) clock))) else none
      |none=>some (.tup [z,.int .i64 clock],s.put n (some (.map (es++[⟨k,z,clock⟩]) (clock+1))))
    |_=>none
  |_=>none
def CC(b:Nat)(v:ae):List cw->Option (List cw)
 | []=>none
 |e::es=>bif aJ e.born b then some (⟨e.key,v,e.born⟩::es) else(CC b v es).bind fun r=>some (e::r)
def zn(m stamp v:ae)(s:St):Option St:=
 (eK stamp).bind fun b=>match m with
  | .map n=>(s.get mk n).bind fun
    | .map es clock=>(CC b v es).bind fun es'=>some (s.put n (some (.map es' clock)))
    |_=>none
  |_=>none
def m7(t:TypeId)(x:ae)(s:St):Option (ae×St):=
 (P.underlying t).bind fun
  | .map _ _=>match x with
    | .nilm=>some (.ptr s.al 0,s.new (.iter none 0 [] 0))
    | .map m=>(s.get mk m).bind fun
      | .map _ clock=>some (.ptr s.al 0,s.new (.iter (some m) clock [] clock))
      |_=>none
    |_=>none
  |_=>none
def cX(seen:List Nat)(es:List cw):List cw:=es.filter (fun e=> !seen.any (aJ e.born))
def rj(n m since clock:Nat)(seen:List Nat)(e:cw)(s:St):ae×St:=
 (.tup [.bool true,e.key,e.val],s.put n (some (.iter (some m) since (seen++[e.born]) clock)))
def pg(n m since:Nat)(seen:List Nat)(clock:Nat)(l:List cw)(s:St):Option (ae×St):=
 match l with
 | []=>some (.tup [.bool false],s)
 |e::r=>bif(e::r).all (fun e=>bk e.born since) then
   match r with
   | []=>some (rj n m since clock seen e s)
   |_::_=>bif br (e::r).length (kmax s.ci) then
     ((e::r)[ch s.ci % (e::r).length]?).bind fun e=>some ((rj n m since clock seen e s).1, { (rj n m since clock seen e s).2 with ci:=s.ci+1 })
    else none
  else none
def lV(it:ae)(isString:Bool)(s:St):Option (ae×St):=
 match it with
 | .ptr n 0=>(s.get mk n).bind fun
   | .iter none _ _ _=>bif isString then none else some (.tup [.bool false],s)
   | .iter (some m) since seen stepped=>bif isString then none else(s.get mk m).bind fun
     | .map es clock=>bif !seen.isEmpty&& !es.isEmpty&&es.all (fun e=>br stepped e.born) then none
       else pg ch kmax n m since seen clock (cX seen es) s
     |_=>none
   |_=>none
 |_=>none
def uG(b:Nat):List cw->Option cw
 | []=>none
 |e::es=>bif aJ e.born b then some e else uG b es
def rT(it:ae)(s:St):Option ae:=
 match it with
 | .ptr n 0=>(s.get mk n).bind fun
   | .iter (some m) _ seen stepped=>(s.get mk m).bind fun
     | .map es clock=>bif aJ clock stepped then
      (seen.getLast?).bind fun b=>(uG b es).bind fun e=>some (.tup [e.key,e.val])
       else none
     |_=>none
   |_=>none
 |_=>none
def qR(t:TypeId)(l c:ae)(mu:Bool)(s:St):Option (ae×St):=
 (iI P t).bind fun E=>(eK l).bind fun l=>(eK c).bind fun c=>
  bif br l c&&br (c*E.b) 1099511627776&&br c 1099511627776 then
   bif aJ l 0&& !mu then some (.list E.n [] (.own s.al),s.new .tok)
   else some (.arr E.n s.al 0 l l,s.new (.cells (eW E.z.cells l)))
  else none
def jS(agg:Bool)(n:Nat)(x:ae)(s:St):Option (List ae):=
 match x with
 | .AL=>some []
 | .list sz xs _=>bif aJ sz n then some xs else none
 | .arr sz m off len _=>bif aJ sz n then(s.get mk m).bind fun
   | .cells cs=>(cut cs off (len*n)).bind fun c=>fW agg n len c
   |_=>none
   else none
 |_=>none
def lW(need bytes:Nat):Bool:=br ((need*2+1024)*bytes) 140737488355328
def kK(E:EI)(mu:Bool)(xs:List ae)(s:St):Option (ae×St):=
 bif lW xs.length E.b then
  bif mu then some (.arr E.n s.al 0 xs.length xs.length,s.new (.cells (bB xs)))
  else some (.list E.n xs (.own s.al),s.new .tok)
 else none
def ml(E:EI)(x:ae)(ys:List ae)(mu:Bool)(s:St):Option (ae×St):=
 match x with
 | .AL=>kK E mu ys s
 | .list sz xs .GE=>bif aJ sz E.n then kK E mu (xs++ys) s else none
 | .list sz xs (.own k)=>(s.get mk k).bind fun
   | .tok=>bif lW (xs.length+ys.length) E.b&&aJ sz E.n then some (.list E.n (xs++ys) (.own s.al),(s.put k none).new .tok) else none
   |_=>none
 | .arr sz m off len lcap=>(s.get mk m).bind fun
   | .cells cs=>bif lW (len+ys.length) E.b&&aJ sz E.n then
    bif aJ (off+len*E.n) cs.length then
     some (.arr E.n s.al 0 (len+ys.length) (len+ys.length),(s.put m none).new (.cells (cs.drop off++bB ys)))
    else bif br (len+ys.length) lcap then
     (bu cs (off+len*E.n) (bB ys)).bind fun cs'=>some (.arr E.n m off (len+ys.length) lcap,s.put m (some (.cells cs')))
    else none
     else none
   |_=>none
 |_=>none
def xS:ae->Bool
 | .AL=>true
 | .list _ _ _=>true
 | .arr _ _ _ _ _=>true
 |_=>false
def hG(t:TypeId)(x y:ae)(mu:Bool)(s:St):Option (ae×St):=
 (iI P t).bind fun E=>(jS mk E.g E.n y s).bind fun ys=>
  match ys with
  | []=>bif xS x then some (x,s) else none
  |_::_=>ml mk E x ys mu s
def Bh(t:TypeId)(x y:ae)(s:St):Option (ae×St):=
 (iI P t).bind fun E=>(jS mk E.g E.n y s).bind fun ys=>
  match x with
  | .AL=>some (.int .i64 0,s)
  | .list _ [] _=>some (.int .i64 0,s)
  | .arr sz m off len _=>bif aJ sz E.n then(s.get mk m).bind fun
    | .cells cs=>(bu cs off (bB (ys.take len))).bind fun cs'=>some (.int .i64 (ys.take len).length,s.put m (some (.cells cs')))
    |_=>none
    else none
  |_=>none
def gD(t:TypeId)(x:ae)(s:St):Option ae:=
 (P.underlying t).bind fun d=>match d,x with
  | .string,.str b=>some (.int .i64 b.length)
  | .array n _,_=>some (.int .i64 n)
  | .slice _,.AL=>some (.int .i64 0)
  | .slice _,.list _ xs _=>some (.int .i64 xs.length)
  | .slice _,.arr _ _ _ len _=>some (.int .i64 len)
  | .map _ _,.nilm=>some (.int .i64 0)
  | .map _ _,.map n=>(s.get mk n).bind fun
    | .map es _=>some (.int .i64 es.length)
    |_=>none
  |_,_=>none
def vT(t:TypeId)(x:ae)(s:St):Option St:=
 match x with
 | .nilm=>some s
 | .AL=>some s
 | .map n=>(s.get mk n).bind fun
   | .map _ clock=>some (s.put n (some (.map [] clock)))
   |_=>none
 | .list _ [] _=>some s
 | .arr sz m off len _=>bif aJ len 0 then some s else(iI P t).bind fun E=>
   bif aJ sz E.n then(s.get mk m).bind fun
    | .cells cs=>(bu cs off (eW E.z.cells len)).bind fun cs'=>some (s.put m (some (.cells cs')))
    |_=>none
   else none
 |_=>none
def u5(isMax:Bool):ae->List ae->Option ae
 | .int k a,[]=>some (.int k a)
 | .int k a,.int k' b::l=>bif k==k' then u5 isMax (.int k (bif isMax then bif bG a b then b else a else bif bG b a then b else a)) l else none
 | .str a,[]=>some (.str a)
 | .str a,.str b::l=>u5 isMax (.str (bif isMax then bif c8 a b then b else a else bif leBytes a b then a else b)) l
 |_,_=>none
def nF(t:TypeId):Bool:=
 match P.underlying t with
 |some (.slice _)=>true
 |_=>false
def mp(b:Builtin)(argTypes:List TypeId)(mu:Bool)(args:List ae)(s:St):Option (ae×St):=
 match b,argTypes,args with
 | .len,[t],[x]=>(gD P mk t x s).bind fun v=>some (v,s)
 | .append,[t,t2],[x,y]=>bif nF P t2 then hG P mk t x y mu s else none
 | .copy,[t,_],[x,y]=>Bh P mk t x y s
 | .clear,[t],[x]=>(P.underlying t).bind fun _=>(vT P mk t x s).bind fun s'=>some (.tup [],s')
 | .min,_,x::l=>(u5 false x l).bind fun v=>some (v,s)
 | .max,_,x::l=>(u5 true x l).bind fun v=>some (v,s)
 |_,_,_=>none
def qK(h:Nat)(dst:Option Tmp)(cs:List ae)(loc:Loc)(s:St):Option (ae×Loc×St):=
 bif aJ h 1 then dst.bind fun t=>some (.Ge t (loc.gen t+1) 0,loc.set t (loc.gen t+1) cs,s)
 else some (.ptr s.al 0,loc,s.new (.cells cs))
def fC(x:Option ae)(l:Loc)(s:St):Option (ae×Loc×St):=x.bind fun a=>some (a,l,s)
def gH(x:Option (ae×St))(l:Loc):Option (ae×Loc×St):=x.bind fun r=>some (r.1,l,r.2)
def nK(x:Option St)(l:Loc):Option (ae×Loc×St):=x.bind fun s=>some (fX,l,s)
def oZ(hint:Tmp->Nat):Option Tmp->Nat
 |some t=>hint t
 |none=>0
def wJ(env:aI)(c a b:Operand):Option ae:=
 (ev env c).bind fun
  | .bool true=>ev env a
  | .bool false=>ev env b
  |_=>none
def wE(loc:Loc):ae->Option ae
 | .Ge a g b=>bif aJ (loc.gen a) g then some (.Ge a g b) else none
 | .ptr a b=>some (.ptr a b)
 | .ro c=>some (.ro c)
 | .func (.func f) a b=>some (.func (.func f) a b)
 |_=>none
def dU(i:Nat):ae->Option ae
 | .tup l=>l[i]?
 |_=>none
def si(env:aI)(fn:Fn)(first captured:Array Operand):Option ae:=
 match fn with
 | .func f=>(evcs env first.toList).bind fun a=>(evcs env captured.toList).bind fun b=>some (.func (.func f) a b)
 |_=>none
def oh(t:TypeId)(env:aI)(r:Option Operand)(s:St):Option (ae×St):=
 match r with
 |none=>some (.map s.al,s.new (.map [] 0))
 |some x=>(P.underlying t).bind fun
  | .map _ _=>(ev env x).bind fun
    | .int _ _=>some (.map s.al,s.new (.map [] 0))
    |_=>none
  |_=>none
def Gy(hint:Tmp->Nat)(dst:Option Tmp)(e:TypeId)(fr:Fr)(s:St):Option (ae×Loc×St):=
 (ek P e).bind fun z=>qK (oZ hint dst) dst z.cells fr.loc s
def GA(hint:Tmp->Nat)(dst:Option Tmp)(x:Operand)(fr:Fr)(s:St):Option (ae×Loc×St):=
 (evc fr.env x).bind fun a=>qK (oZ hint dst) dst a.cells fr.loc s
def Aa(t:TypeId)(a:Operand)(fr:Fr)(s:St):Option (ae×Loc×St):=
 (ev fr.env a).bind fun a=>fC (lR P mk t a fr.loc s) fr.loc s
def Ab(t:TypeId)(a x:Operand)(fr:Fr)(s:St):Option (ae×Loc×St):=
 (ev fr.env a).bind fun a=>(evc fr.env x).bind fun x=>(nL P mk t a x fr.loc s).bind fun r=>some (fX,r.1,r.2)
def Gz(op:BinOp)(t:TypeId)(x y:Operand)(fr:Fr)(s:St):Option (ae×Loc×St):=
 (evc fr.env x).bind fun x=>(evc fr.env y).bind fun y=>fC (d8 P op t x y) fr.loc s
def Cj(t:TypeId)(m k x:Operand)(fr:Fr)(s:St):Option (ae×Loc×St):=
 (evc fr.env m).bind fun m=>(evc fr.env k).bind fun k=>(evc fr.env x).bind fun x=>nK (nM P mk t m k x s) fr.loc
def GD(t:TypeId)(x i:Operand)(ok:Bool)(fr:Fr)(s:St):Option (ae×Loc×St):=
 (evc fr.env x).bind fun x=>(evc fr.env i).bind fun i=>fC (mU P mk t x i ok s) fr.loc s
def GF(hint:Tmp->Nat)(dst:Option Tmp)(t:TypeId)(l c:Operand)(fr:Fr)(s:St):Option (ae×Loc×St):=
 (ev fr.env l).bind fun l=>(ev fr.env c).bind fun c=>gH (qR P t l c (aJ (oZ hint dst) 2) s) fr.loc
def z8(t:TypeId)(x i:Operand)(fr:Fr)(s:St):Option (ae×Loc×St):=
 (ev fr.env x).bind fun x=>(ev fr.env i).bind fun i=>fC (hJ P fr.loc t x i) fr.loc s
def GC(t:TypeId)(x i:Operand)(fr:Fr)(s:St):Option (ae×Loc×St):=
 (evc fr.env x).bind fun x=>(ev fr.env i).bind fun i=>fC (tz P t x i) fr.loc s
def GG(t:TypeId)(m k:Operand)(fr:Fr)(s:St):Option (ae×Loc×St):=
 (evc fr.env m).bind fun m=>(evc fr.env k).bind fun k=>gH (x9 P mk t m k s) fr.loc
def GB(m st x:Operand)(fr:Fr)(s:St):Option (ae×Loc×St):=
 (evc fr.env m).bind fun m=>(evc fr.env st).bind fun st=>(evc fr.env x).bind fun x=>nK (zn mk m st x s) fr.loc
def tJ(hint:Tmp->Nat)(dst:Option Tmp)(c:Call)(fr:Fr)(s:St):Option (ae×Loc×St):=
 match c.callee with
 | .builtin b=>(evcs fr.env c.args.toList).bind fun args=>gH (mp P mk b c.argTypes.toList (aJ (oZ hint dst) 2) args s) fr.loc
 |_=>none
def qu(x:Operand)(g:ae->Option ae)(fr:Fr)(s:St):Option (ae×Loc×St):=
 (ev fr.env x).bind fun a=>fC (g a) fr.loc s
def mE(x:Operand)(g:ae->Option ae)(fr:Fr)(s:St):Option (ae×Loc×St):=
 (evc fr.env x).bind fun a=>fC (g a) fr.loc s
def lI(hint:Tmp->Nat)(dst:Option Tmp)(op:Op)(fr:Fr)(s:St):Option (ae×Loc×St):=
 match op with
 | .move x=>fC (ev fr.env x) fr.loc s
 | .assign x=>fC (ev fr.env x) fr.loc s
 | .pick c a b=>fC (wJ fr.env c a b) fr.loc s
 | .alloc e=>Gy P hint dst e fr s
 | .box _ x=>GA hint dst x fr s
 | .build t parts=>fC (eV P t parts.toList fr.env) fr.loc s
 | .buildSlice t len parts=>gH (cx P t len parts.toList (aJ (oZ hint dst) 2) fr.env s) fr.loc
 | .load t a=>Aa P mk t a fr s
 | .store t a x=>Ab P mk t a x fr s
 | .nilCheck x=>qu x (wE fr.loc) fr s
 | .binOp op t x y _=>Gz P op t x y fr s
 | .unOp op _ x=>mE x (AB op) fr s
 | .convert src dst x=>mE x (Ds P src dst) fr s
 | .makeFunc fn first captured=>fC (si fr.env fn first captured) fr.loc s
 | .makeMap t r=>gH (oh P t fr.env r s) fr.loc
 | .makeSlice t l c=>GF P hint dst t l c fr s
 | .slice t x lo hi mx=>mE x (fun x=>ib P mk t x lo hi mx fr.env s) fr s
 | .fieldAddr t x f=>qu x (fun x=>eY P fr.loc t x f) fr s
 | .field t x f=>mE x (fun x=>Dx P t x f) fr s
 | .indexAddr t x i=>z8 P t x i fr s
 | .index t x i=>GC P t x i fr s
 | .lookup t x i ok=>GD P mk t x i ok fr s
 | .mapUpdate t m k x=>Cj P mk t m k x fr s
 | .insert t m k x=>Cj P mk t m k x fr s
 | .mapEntry t m k=>GG P mk t m k fr s
 | .entryStore _ m st x=>GB mk m st x fr s
 | .range t x=>(evc fr.env x).bind fun x=>gH (m7 P mk t x s) fr.loc
 | .next it isString=>(evc fr.env it).bind fun it=>gH (lV mk ch kmax it isString s) fr.loc
 | .entry it=>mE it (fun it=>rT mk it s) fr s
 | .extract x i=>qu x (dU i) fr s
 | .call c=>tJ P mk hint dst c fr s
 |_=>none
end
def callee(env:aI)(c:Call):Option (FuncId×List ae):=
 match c.callee with
 | .value f=>(ev env f).bind fun
   | .func (.func f) first captured=>(evcs env c.args.toList).bind fun args=>some (f,first++(args++captured))
   |_=>none
 |_=>none
inductive dj where
 |all
 |obj (n:Nat)
 |loc (t:Nat)
 |none
 deriving Inhabited
def rY(env:aI)(a:Operand):dj:=
 match ev env a with
 |some (.Ge t _ _)=>.loc t
 |some (.ptr n _)=>.obj n
 |some (.ro _)=>.none
 |_=>.all
def oY(env:aI)(a:Operand):dj:=
 match ev env a with
 |some (.Ge t _ _)=>.loc t
 |_=>.none
def Bu(hint:Tmp->Nat)(dst:Option Tmp):dj:=
 match dst with
 |some t=>bif aJ (hint t) 1 then .loc t else .none
 |none=>.none
def bZ(hint:Tmp->Nat)(dst:Option Tmp)(env:aI):Op->dj
 | .load _ a=>rY env a
 | .store _ a _=>rY env a
 | .fieldAddr _ x _=>oY env x
 | .indexAddr _ x _=>oY env x
 | .nilCheck x=>oY env x
 | .move _| .assign _| .pick .. | .build .. | .field .. | .index .. | .binOp .. | .unOp .. | .convert .. | .makeFunc .. | .extract .. =>.none
 | .slice _ x _ _ _=>match ev env x with
   |some (.ptr n _)=>.obj n
   |_=>.none
 | .alloc _=>Bu hint dst
 | .box _ _=>Bu hint dst
 | .buildSlice .. | .makeMap .. | .makeSlice .. =>.none
 | .call {callee:=.builtin .min, .. }=>.none
 | .call {callee:=.builtin .max, .. }=>.none
 | .call {callee:=.builtin .len,args, .. }=>match args[0]? with
   |some x=>match ev env x with
    |some (.map _)=>.all
    |_=>.none
   |none=>.none
 |_=>.all
def isStore:Op->Bool
 | .store .. =>true
 | .alloc _=>true
 | .box _ _=>true
 |_=>false
def dj.meets:dj->dj->Bool
 | .none,_=>false
 |_,.none=>false
 | .all,.all=>true
 | .all,.obj _=>true
 | .obj _,.all=>true
 | .obj n,.obj m=>aJ n m
 | .loc t,.loc u=>aJ t u
 |_,_=>false
structure dr where
 i:Nat
 c0:Nat
 c1:Nat
 foot:dj
 loud:Bool
 deriving Inhabited
inductive Rd where
 |ret (v:Option ae)
 |ask (n:Nat) (k:bf->Rd)
def kP(g:Nat->Option bf):Rd->Option ae
 | .ret v=>v
 | .ask n k=>(g n).bind fun o=>kP g (k o)
abbrev vP:=Option (Nat×(List ae->Rd))
def Ct(x:Option (List ae)):Rd:=.ret (x.bind fun l=>some (.agg l))
structure bF where
 P:Program
 hint:FuncId->Tmp->Nat
 spec:FuncId->Option (List ae->Option ae)
 ch:Nat->Nat
 kmax:Nat->Nat
 specH:FuncId->Option (List ae->Rd):=fun _=>none
 specW:FuncId->Option (List ae->Option vP):=fun _=>none
def eD(ops:Array Oper)(env:aI)(o:Oper):Bool:=
 match o.guard with
 |none=>true
 |some (j,want)=>match(ops[j]?).bind (·.dst) with
  |some d=>match aj env d with
   | .bool b=>b==want
   |_=>false
  |none=>false
def di(fr:Fr)(dst:Option Tmp)(v:ae)(loc:Loc):Option Fr:=
 match dst with
 |some d=>bif bk d fr.size then some ⟨fr.env.set d (some v),fr.size,loc⟩ else none
 |none=>some ⟨fr.env,fr.size,loc⟩
def aoZ:Operand->Option Nat
 | .tmp t=>some t
 |_=>none
def x8(ops:Array Oper)(o:Oper):List Nat:=
 o.op.operands.toList.filterMap aoZ++(match o.guard with
  |some (g,_)=>match(ops[g]?).bind (·.dst) with|some d=>[d]|none=>[]
  |none=>[])
def Bj(ops:Array Oper)(x y:Oper):Bool:=
 (match x.dst with
  |some d=> !(x8 ops y).any (aJ d)&&(match y.dst with|some e=> !aJ d e|none=>true)
  |none=>true)&&
 (match y.dst with
  |some d=> !(x8 ops x).any (aJ d)
  |none=>true)
def Dh(ops:Array Oper)(x:Oper)(i:Nat):List Oper->List Nat->Bool
 | [],_=>true
 |y::l,bs=>((bs.headD 0).testBit i||Bj ops x y)&&Dh ops x i l bs.tail
def mO(ops:Array Oper):Nat->List Oper->List Nat->Bool
 |_,[],_=>true
 |i,x::l,bs=>x.after.toList.all (fun e=> !Region.binds .any e||bk e.on i)&&(Dh ops x i l bs.tail&&mO ops (i+1) l bs.tail)
def iz(bi:Nat)(rs:List dr)(mk:aW):aW:=
 match rs with
 | []=>mk
 |r::rs=>bif bi.testBit r.i||aJ r.c0 r.c1 then iz bi rs mk else(r.c0,r.c1)::iz bi rs mk
def fits(bi:Nat)(foot:dj)(loud:Bool)(rs:List dr):Bool:=
 rs.all fun r=>bi.testBit r.i|| !((loud||r.loud)&&foot.meets r.foot)
section
variable(Q:bF)
def dy(mk:aW)(fr:Fr)(s:St):ResultVar->Option ae
 | .tmp t=>evc fr.env (.tmp t)
 | .cell a t=>lR Q.P mk t (aj fr.env a) fr.loc s
def bW(mk:aW)(fr:Fr)(s:St):List ResultVar->Option (List ae)
 | []=>some []
 |r::l=>(dy Q mk fr s r).bind fun v=>(bW mk fr s l).bind fun vs=>bif v.aL then some (v::vs) else none
def gG:List ae->ae
 | [v]=>v
 |vs=>.tup vs
structure nR where
 ops:FuncId->Array Oper->aW->List Oper->Fr->St->Option (Fr×St)
 draw:FuncId->Array Oper->List Nat->aW->List dr->Nat->List Oper->Fr->St->Option (Fr×St)
 code:FuncId->Code->aW->Fr->St->Option (Ex×Fr×St)
 call:FuncId->List ae->aW->St->Option (ae×St)
def nR.none:nR:=⟨fun _ _ _ _ _ _=>.none,fun _ _ _ _ _ _ _ _ _=>.none,fun _ _ _ _ _=>.none,fun _ _ _ _=>.none⟩
variable(r:nR)
def nm(c:Call)(mk:aW)(fr:Fr)(s:St):Option (ae×Loc×St):=
 (callee fr.env c).bind fun g=>(r.call g.1 g.2 mk s).bind fun v=>some (v.1,fr.loc,v.2)
def CD:List Tmp->List ae->aI->Option aI
 | [],[],e=>some e
 |t::ts,v::vs,e=>CD ts vs (e.set t (some v))
 |_,_,_=>none
def yH(f:FuncId)(env:aI)(size:Nat)(ps:List Tmp)(a b:Code):Ex×Fr×St->Option (ae×bf×St)
 |(.normal,_,s)=>some (.bool true,.loop f env size ps a b none,s)
 |(x,_,s)=>some (.bool false,.loop f env size ps a b (some x),s)
def wX(f:FuncId)(env:aI)(size:Nat)(ps:List Tmp)(a b:Code)(mk:aW):Ex×Fr×St->Option (ae×bf×St)
 |(.normal,fr,s)=>(r.code f b mk fr s).bind (yH f env size ps a b)
 |_=>none
def yI(o:bf)(args:List ae)(mk:aW)(s:St):Option (ae×bf×St):=
 match o with
 | .loop f env size ps a b none=>bif ps.all (fun t=>bk t size) then
  (CD ps args env).bind fun env'=>(r.code f a mk ⟨env',size,[]⟩ s).bind (wX r f env size ps a b mk)
   else none
 |_=>none
def nc(n:Nat)(args:List ae)(mk:aW)(s:St):Option (ae×St):=
 (s.get mk n).bind fun o=>(yI r o args mk (s.put n none)).bind fun x=>some (x.1,x.2.2.put n (some x.2.1))
def yieldee(env:aI)(c:Call):Option (Nat×List ae):=
 match c.callee with
 | .value f=>(ev env f).bind fun
   | .yld n=>(evcs env c.args.toList).bind fun args=>some (n,args)
   |_=>none
 |_=>none
def rq(c:Call)(mk:aW)(fr:Fr)(s:St):Option (ae×Loc×St):=
 (yieldee fr.env c).bind fun g=>(nc r g.1 g.2 mk s).bind fun v=>some (v.1,fr.loc,v.2)
def n9(env:aI)(c:Call):Bool:=
 match c.callee with
 | .value f=>match ev env f with
   |some (.yld _)=>true
   |_=>false
 |_=>false
def fw(f:FuncId)(o:Oper)(mk:aW)(fr:Fr)(s:St):Option (ae×Loc×St):=
 match o.op with
 | .call c=>match c.callee with
   | .builtin _=>tJ Q.P mk (Q.hint f) o.dst c fr s
   |_=>bif n9 fr.env c then rq r c mk fr s else nm r c mk fr s
 |op=>lI Q.P mk Q.ch Q.kmax (Q.hint f) o.dst op fr s
def mF(f:FuncId)(all:Array Oper)(mk:aW)(l:List Oper)(fr:Fr)(s:St):Option (Fr×St):=
 match l with
 | []=>some (fr,s)
 |o::rest=>
  bif eD all fr.env o then
   (fw Q r f o mk fr s).bind fun x=>(di fr o.dst x.1 x.2.1).bind fun fr'=>r.ops f all mk rest fr' x.2.2
  else(di fr o.dst fX fr.loc).bind fun fr'=>r.ops f all mk rest fr' s
def St.Gt(s s':St):St:=⟨s'.heap,s'.al,bif br s.ge s'.ge then s.ge else s'.ge,s'.ci⟩
def ns(f:FuncId)(all:Array Oper)(bs:List Nat)(mk:aW)(rs:List dr)(i:Nat)(l:List Oper)(fr:Fr)(s:St):Option (Fr×St):=
 match l with
 | []=>some (fr,s)
 |o::rest=>
  bif eD all fr.env o then
   (fw Q r f o (iz (bs.headD 0) rs mk) fr ⟨s.heap,s.al,s.al,s.ci⟩).bind fun x=>
    bif fits (bs.headD 0) (bZ (Q.hint f) o.dst fr.env o.op) (bk x.2.2.ge s.al||isStore o.op) rs&&aJ s.ci x.2.2.ci then
     (di fr o.dst x.1 x.2.1).bind fun fr'=>
      r.draw f all bs.tail mk (⟨i,s.al,x.2.2.al,bZ (Q.hint f) o.dst fr.env o.op,bk x.2.2.ge s.al||isStore o.op⟩::rs) (i+1) rest fr' (s.Gt x.2.2)
    else none
  else(di fr o.dst fX fr.loc).bind fun fr'=>r.draw f all bs.tail mk rs (i+1) rest fr' s
def pw(f:FuncId)(b:Code)(mk:aW):Ex×Fr×St->Option (Ex×Fr×St)
 |(.normal,fr,s)=>r.code f b mk fr s
 |x=>some x
def zi(f:FuncId)(a b:Code)(mk:aW)(fr:Fr)(s:St):ae->Option (Ex×Fr×St)
 | .bool true=>r.code f a mk fr s
 | .bool false=>r.code f b mk fr s
 |_=>none
def qa(id:Nat):Ex×Fr×St->Ex×Fr×St
 |(.exit i,fr,s)=>bif aJ i id then(.normal,fr,s) else(.exit i,fr,s)
 |x=>x
def G5(f:FuncId)(ops:Array Oper)(draw:Bool)(mk:aW)(fr:Fr)(s:St):Option (Ex×Fr×St):=
 (bif draw then bif mO ops 0 ops.toList (Region.before ops).toList then r.draw f ops (Region.before ops).toList mk [] 0 ops.toList fr s else none
  else r.ops f ops mk ops.toList fr s).bind fun x=>some (.normal,x.1,x.2)
def eJ:Code->Bool
 | .seq a b=>eJ a&&eJ b
 | .cond _ a b=>eJ a&&eJ b
 | .block _ a=>eJ a
 | .loop a=>eJ a
 | .scope _=>false
 | .rangeFunc _ _ a b=>eJ a&&eJ b
 |_=>true
def u9:ae->Bool
 | .Ge _ _ _=>false
 |_=>true
def yo:Option Ex->Ex
 |none=>.normal
 |some x=>x
def yw(mk:aW)(n:Nat)(fr:Fr)(s:St):Option (Ex×Fr×St):=
 (s.get mk n).bind fun
  | .loop _ _ _ _ _ _ p=>some (yo p,fr,s.put n none)
  |_=>none
def n7(P:Program)(h:FuncId):Bool:=
 match P.funcs[h]? with
 |some fn=>fn.body.isSome
 |none=>false
def vn(f:FuncId)(ps:List Tmp)(a b:Code)(mk:aW)(fr:Fr)(s:St):ae->Option (Ex×Fr×St)
 | .func (.func h) first captured=>bif n7 Q.P h&&(fr.env.all u9&&(eJ a&&eJ b)) then
  (r.call h (first++(.yld s.al::captured)) mk (s.new (.loop f fr.env fr.size ps a b none))).bind fun x=>yw mk s.al fr x.2
   else none
 |_=>none
def vV(f:FuncId)(c:Code)(mk:aW)(fr:Fr)(s:St):Option (Ex×Fr×St):=
 match c with
 | .skip=>some (.normal,fr,s)
 | .label _=>some (.normal,fr,s)
 | .ret=>some (.ret,fr,s)
 | .exit id=>some (.exit id,fr,s)
 | .seq a b=>(r.code f a mk fr s).bind (pw r f b mk)
 | .cond x a b=>(ev fr.env x).bind (zi r f a b mk fr s)
 | .block id b=>(r.code f b mk fr s).bind fun x=>some (qa id x)
 | .scope b=>r.code f b mk fr s
 | .loop b=>(r.code f b mk fr s).bind (pw r f (.loop b) mk)
 | .region _ ops draw=>G5 r f ops draw mk fr s
 | .rangeFunc g ps a b=>(ev fr.env g).bind (vn Q r f ps.toList a b mk fr s)
 |_=>none
def qg(fn:Func)(mk:aW):Ex×Fr×St->Option (ae×St)
 |(.exit _,_,_)=>none
 |(_,fr,s)=>(bW Q mk fr s fn.results.toList).bind fun vs=>some (gG vs,s)
def A1(s:St)(n:Nat):ae->Option (ae×St)
 | .agg cs=>some (.tup [],s.put n (some (.cells cs)))
 |_=>none
def An(mk:aW)(s:St)(p:Nat×(List ae->Rd)):bf->Option (ae×St)
 | .cells cs=>(kP (s.get mk) (p.2 cs)).bind (A1 s p.1)
 |_=>none
def tL(mk:aW)(s:St):vP->Option (ae×St)
 |none=>some (.tup [],s)
 |some p=>(s.get mk p.1).bind (An mk s p)
def kE(f:FuncId)(args:List ae)(mk:aW)(s:St):Option (ae×St):=
 match Q.spec f with
 |some sp=>(sp args).bind fun v=>some (v,s)
 |none=>match Q.specH f with
  |some sp=>(kP (s.get mk) (sp args)).bind fun v=>some (v,s)
  |none=>match Q.specW f with
  |some sp=>(sp args).bind (tL mk s)
  |none=>(Q.P.funcs[f]?).bind fun fn=>fn.body.bind fun c=>
   (r.code f c mk ⟨bt 0 args,bif br args.length fn.ntmps then fn.ntmps else args.length,[]⟩ s).bind (qg Q fn mk)
def Jg:nR:=⟨mF Q r,ns Q r,vV Q r,kE Q r⟩
end
def cd(Q:bF):Nat->nR
 |0=>.none
 |n+1=>Jg Q (cd Q n)
end
namespace aZ
variable{α:Type}
def get_nil(n:Nat):(aZ.nil:aZ α).get n=none:=rfl
def get_node(l:aZ α)(v:Option α)(r:aZ α)(n:Nat):
 (aZ.node l v r).get n=if n=0 then v else if n % 2=1 then l.get (n / 2) else r.get (n / 2-1):=by
 show @pD (fun _=>Option α) (@pD (fun _=>Option α) (r.get (n / 2-1)) (l.get (n / 2)) (aJ (n % 2) 1)) v (aJ n 0)=_;by_cases h0:n=0;subst h0;rfl;have e0:aJ n 0=false:=by
  cases h:aJ n 0;rfl;exact absurd (iw h) h0
 rw[iN h0,e0];by_cases h1:n % 2=1;rw[iP h1,h1];rfl;have e1:aJ (n % 2) 1=false:=by
  cases h:aJ (n % 2) 1;rfl;exact absurd (iw h) h1
 rw[iN h1,e1]
def one_zero(x:Option α)(n:Nat):one x 0 n= .node .nil x .nil:=rfl
def one_succ(x:Option α)(f n:Nat):
 one x (f+1) n=if n=0 then .node .nil x .nil else if n % 2=1 then .node (one x f (n / 2)) none .nil else .node .nil none (one x f (n / 2-1)):=by
 show @pD (fun _=>aZ α) (@pD (fun _=>aZ α) (.node .nil none (one x f (n / 2-1))) (.node (one x f (n / 2)) none .nil) (aJ (n % 2) 1)) (.node .nil x .nil) (aJ n 0)=_;by_cases h0:n=0;subst h0;rfl;have e0:aJ n 0=false:=by
  cases h:aJ n 0;rfl;exact absurd (iw h) h0
 rw[iN h0,e0];by_cases h1:n % 2=1;rw[iP h1,h1];rfl;have e1:aJ (n % 2) 1=false:=by
  cases h:aJ (n % 2) 1;rfl;exact absurd (iw h) h1
 rw[iN h1,e1]
def get_one(x:Option α): ∀(f n m:Nat),n<=f->(one x f n).get m=if m=n then x else none:=by
 intro f
 induction f with
 |zero=>
  intro n m h;obtain rfl:n=0:=by omega
  rw[one_zero,get_node,get_nil,get_nil];by_cases h:m=0<;>simp[h]
 |succ f ih=>
  intro n m h;rw[one_succ];by_cases h0:n=0;subst h0;rw[iP rfl,get_node,get_nil,get_nil];by_cases h:m=0<;>simp[h];rw[iN h0];by_cases h1:n % 2=1;rw[iP h1,get_node,ih _ _ (by omega),get_nil];by_cases hm:m=n;subst hm;simp[h0,h1];rw[iN hm];by_cases m0:m=0;simp[m0];by_cases m1:m % 2=1;rw[iN m0,iP m1,iN (by omega)];simp[m0,m1];rw[iN h1,get_node,ih _ _ (by omega),get_nil];by_cases hm:m=n;subst hm;simp[h0,h1];rw[iN hm];by_cases m0:m=0;simp[m0];by_cases m1:m % 2=1;simp[m0,m1];rw[iN m0,iN m1,iN (by omega)]
def set_nil(n:Nat)(x:Option α):(aZ.nil:aZ α).set n x=one x n n:=rfl
def set_node(l:aZ α)(v:Option α)(r:aZ α)(n:Nat)(x:Option α):
 (aZ.node l v r).set n x=if n=0 then .node l x r else if n % 2=1 then .node (l.set (n / 2) x) v r else .node l v (r.set (n / 2-1) x):=by
 show @pD (fun _=>aZ α) (@pD (fun _=>aZ α) (.node l v (r.set (n / 2-1) x)) (.node (l.set (n / 2) x) v r) (aJ (n % 2) 1)) (.node l x r) (aJ n 0)=_;by_cases h0:n=0;subst h0;rfl;have e0:aJ n 0=false:=by
  cases h:aJ n 0;rfl;exact absurd (iw h) h0
 rw[iN h0,e0];by_cases h1:n % 2=1;rw[iP h1,h1];rfl;have e1:aJ (n % 2) 1=false:=by
  cases h:aJ (n % 2) 1;rfl;exact absurd (iw h) h1
 rw[iN h1,e1]
def get_set(t:aZ α): ∀(n m:Nat) (x:Option α),(t.set n x).get m=if m=n then x else t.get m:=by
 induction t with
 |nil=>intro n m x;rw[set_nil,get_one _ _ _ _ (aU _),get_nil]
 |node l v r il ir=>
  intro n m x;rw[set_node];by_cases h0:n=0;subst h0;rw[iP rfl,get_node,get_node];by_cases h:m=0<;>simp[h];rw[iN h0];by_cases h1:n % 2=1;rw[iP h1,get_node,get_node,il];by_cases hm:m=n;subst hm;simp[h0,h1];rw[iN hm];by_cases m0:m=0;simp[m0];by_cases m1:m % 2=1;rw[iN m0,iP m1,iN (by omega),iN m0,iP m1];simp[m0,m1];rw[iN h1,get_node,get_node,ir];by_cases hm:m=n;subst hm;simp[h0,h1];rw[iN hm];by_cases m0:m=0;simp[m0];by_cases m1:m % 2=1;simp[m0,m1];rw[iN m0,iN m1,iN (by omega),iN m0,iN m1]
@[simp] def get_set_same(t:aZ α)(n:Nat)(x:Option α):(t.set n x).get n=x:=by rw[get_set,iP rfl]
end aZ
namespace aZ
def all_get{α:Type}{p:α->Bool}: ∀ {t:aZ α},t.all p=true-> ∀ {n:Nat} {x:α},t.get n=some x->p x=true
 | .nil,_,n,x,h=>by cases h
 | .node l v r,h,n,x,hg=>by
   have h:(∀y,v=some y->p y=true)/\l.all p=true/\r.all p=true:=by
    cases v with
    |none=>
     have h:(true&&(l.all p&&r.all p))=true:=h;simp only[jD,bA] at h;exact⟨fun _ e=>(by cases e),h⟩
    |some z=>
     have h:(p z&&(l.all p&&r.all p))=true:=h;simp only[bA] at h;exact⟨fun _ e=>(by injection e with e;subst e;exact h.1),h.2⟩
   have hg:(@pD (fun _=>Option α) (@pD (fun _=>Option α) (r.get (n / 2-1)) (l.get (n / 2)) (aJ (n % 2) 1)) v (aJ n 0))=some x:=hg;cases h0:aJ n 0 with
   |true=>rw[h0] at hg;exact h.1 x hg
   |false=>
    rw[h0] at hg;cases h1:aJ (n % 2) 1 with
    |true=>rw[h1] at hg;exact all_get h.2.1 hg
    |false=>rw[h1] at hg;exact all_get h.2.2 hg
end aZ
structure Gh where
 at_:Nat->Option Addr
 ro:Nat->Nat->Option ae
 dim:Nat->Option Nat
structure Gh.le (G G':Gh):Prop where
 at_: ∀n a,G.at_ n=some a->G'.at_ n=some a
 ro: ∀b o v,G.ro b o=some v->G'.ro b o=some v
 dim: ∀b d,G.dim b=some d->G'.dim b=some d
def Gh.le.refl(G:Gh):G.le G:=⟨fun _ _ h=>h,fun _ _ _ h=>h,fun _ _ h=>h⟩
variable{G G':Gh}
def Gh.le.trans{G'':Gh}(h:G.le G')(h':G'.le G''):G.le G'':=
 ⟨fun n a e=>h'.at_ n a (h.at_ n a e),fun b o v e=>h'.ro b o v (h.ro b o v e),fun b d e=>h'.dim b d (h.dim b d e)⟩
def AZ(G:Gh)(sz:Nat)(a:Addr)(len cap:Nat):fu->Prop
 | .GE=>cap=len
 | .own n=>G.at_ n=some ⟨a.block,a.off+len*sz,none⟩/\ ∃d,G.dim a.block=some d/\a.off+cap*sz<=d
 | .no=>True
variable{cap sz:Nat}
def AZ.mono(h:G.le G'){len:Nat}{a:Addr}: ∀ {r:fu},AZ G sz a len cap r->AZ G' sz a len cap r
 | .GE,e=>e
 | .own _,⟨e,d,hd,hle⟩=>⟨h.at_ _ _ e,d,h.dim _ _ hd,hle⟩
 | .no,_=>trivial
def ae.scal:ae->Bool
 | .agg _=>false
 | .tup _=>false
 | .Ge _ _ _=>false
 |_=>true
def dn(l:List ae):Bool:=l.all ae.scal
mutual
inductive VR (G:Gh):ae->Value->Prop
 |bool (b:Bool):VR G (.bool b) (.bool b)
 |int (k:IntKind) (n:Int):VR G (.int k n) (.int k n)
 |str (s:List UInt8):VR G (.str s) (.string ⟨⟨s⟩⟩)
 |agg {cs:List ae} {vs:List Value}:dn cs=true->bP G cs vs->VR G (.agg cs) (.agg ⟨vs⟩)
 |tup {cs:List ae} {vs:List Value}:bP G cs vs->VR G (.tup cs) (.tuple ⟨vs⟩)
 |nilp:VR G .nilp (.pointer none)
 |ptr {n off:Nat} {a:Addr}:G.at_ n=some a->VR G (.ptr n off) (.pointer (some ⟨a.block,a.off+off,none⟩))
 |ro {cs:List ae} {b o:Nat}:(∀i x,cs[i]? =some x->G.ro b (o+i)=some x)->VR G (.ro cs) (.pointer (some ⟨b,o,none⟩))
 |AL:VR G .AL (.slice none 0 0)
 |list {sz:Nat} {xs:List ae} {r:fu} {a:Addr} {cap:Nat}:(cap=0\/a.spot=none)->0<sz->(∀x∈xs,x.cells.length=sz)->xs.length<=cap->
  (∀i x,(bB xs)[i]? =some x->G.ro a.block (a.off+i)=some x)->AZ G sz a xs.length cap r->
  VR G (.list sz xs r) (.slice (some a) xs.length cap)
 |arr {sz n off len lcap:Nat} {a b:Addr} {cap d:Nat}:G.at_ n=some b->a.spot=none->0<sz->len<=lcap->lcap<=cap->
  (cap=0\/(a.block=b.block/\a.off=b.off+off))->G.dim b.block=some d->b.off+off+cap*sz<=d->
  VR G (.arr sz n off len lcap) (.slice (some a) len cap)
 |nilm:VR G .nilm (.map none)
 |map {n:Nat} {a:Addr}:G.at_ n=some a->VR G (.map n) (.map (some a.block))
 |nilf:VR G .nilf .nilFunc
 |func {f:FuncId} {first captured:List ae} {fs cs:List Value}:bP G first fs->bP G captured cs->VR G (.func (.func f) first captured) (.func (.func f) ⟨fs⟩ ⟨cs⟩)
 |nili:VR G .nili .nilIface
 |iface {t:TypeId} {v:ae} {x:Value}:VR G v x->VR G (.iface t v) (.iface t x)
 |yld {n:Nat} {a:Addr}:G.at_ n=some a->VR G (.yld n) (.func (.yield a.block) #[] #[])
 |roz {cs:List ae} {b:Nat}:(∀i x,cs[i]? =some x->G.ro b i=some x)->VR G (.roz cs) (.pointer (some ⟨b,0,none⟩))
inductive bP (G:Gh):List ae->List Value->Prop
 |nil:bP G [] []
 |cons {v:ae} {x:Value} {vs:List ae} {xs:List Value}:VR G v x->bP G vs xs->bP G (v::vs) (x::xs)
end
mutual
def VR.mono{G G':Gh}(h:G.le G'): ∀ {v:ae} {x:Value},VR G v x->VR G' v x
 |_,_,.bool b=>.bool b
 |_,_,.int k n=>.int k n
 |_,_,.str s=>.str s
 |_,_,.agg hc hs=>.agg hc (bP.mono h hs)
 |_,_,.tup hs=>.tup (bP.mono h hs)
 |_,_,.nilp=>.nilp
 |_,_,.ptr e=>.ptr (h.at_ _ _ e)
 |_,_,.ro e=>.ro fun i x hx=>h.ro _ _ _ (e i x hx)
 |_,_,.AL=>.AL
 |_,_,.list a b c d e f=>.list a b c d (fun i x hx=>h.ro _ _ _ (e i x hx)) (f.mono h)
 |_,_,.arr a b c d e f g i=>.arr (h.at_ _ _ a) b c d e f (h.dim _ _ g) i
 |_,_,.nilm=>.nilm
 |_,_,.map e=>.map (h.at_ _ _ e)
 |_,_,.nilf=>.nilf
 |_,_,.func a b=>.func (bP.mono h a) (bP.mono h b)
 |_,_,.nili=>.nili
 |_,_,.iface e=>.iface (VR.mono h e)
 |_,_,.yld e=>.yld (h.at_ _ _ e)
 |_,_,.roz e=>.roz fun i x hx=>h.ro _ _ _ (e i x hx)
def bP.mono{G G':Gh}(h:G.le G'): ∀ {vs:List ae} {xs:List Value},bP G vs xs->bP G' vs xs
 |_,_,.nil=>.nil
 |_,_,.cons a b=>.cons (VR.mono h a) (bP.mono h b)
end
variable{xs:List Value}{a:List ae}{i:Nat}{x:Value}{v:ae}
section
variable{G:Gh}
def bP.length{vs:List ae}(h:bP G vs xs):vs.length=xs.length:=by
 induction vs generalizing xs with
 |nil=>cases h;rfl
 |cons v vs ih=>cases h with|cons a b=>simp[ih b]
def bP.get{vs:List ae}(h:bP G vs xs)(hi:vs[i]? =some v): ∃x,xs[i]? =some x/\VR G v x:=by
 induction vs generalizing xs i with
 |nil=>simp at hi
 |cons u vs ih=>
  cases h with
  |cons a b=>
   cases i with
   |zero=>simp at hi;subst hi;exact⟨_,by simp,a⟩
   |succ i=>simp at hi;obtain⟨x,hx,hv⟩:=ih b hi;exact⟨x,by simpa using hx,hv⟩
def bP.append{b:List ae}{x y:List Value}(h:bP G a x)(h':bP G b y):bP G (a++b) (x++y):=by
 induction a generalizing x with
 |nil=>cases h;simpa using h'
 |cons v a ih=>cases h with|cons p q=>exact .cons p (ih q)
def bP.drop{x:List Value}(h:bP G a x)(n:Nat):bP G (a.drop n) (x.drop n):=by
 induction n generalizing a x with
 |zero=>simpa using h
 |succ n ih=>cases h with
  |nil=>simpa using bP.nil
  |cons p q=>simpa using ih q
def bP.take{x:List Value}(h:bP G a x)(n:Nat):bP G (a.take n) (x.take n):=by
 induction n generalizing a x with
 |zero=>simpa using bP.nil
 |succ n ih=>cases h with
  |nil=>simpa using bP.nil
  |cons p q=>simpa using .cons p (ih q)
def VR.cells(h:VR G v x):bP G v.cells x.cells.toList:=by
 cases h<;>first
  |(simpa[ae.cells,Value.cells] using ‹bP G _ _›)
  |(refine .cons ?_ .nil;constructor<;>assumption)
def VR.scals_cells(h:VR G v x)(ht: ∀l,v≠ .tup l):dn v.cells=true:=by
 cases h<;>first
  |(exact absurd rfl (ht _))
  |assumption
  |rfl
def VR.one(h:VR G v x)(hs:v.scal=true):x.oneCell'=true:=by
 cases h<;>first|rfl|(simp[ae.scal] at hs)
end
structure vK (G:Gh) (e:cw) (m:MapEntry):Prop where
 key:VR G e.key m.key
 val:VR G e.val m.val
 born:e.born=m.born
inductive gZ (G:Gh):List cw->List MapEntry->Prop
 |nil:gZ G [] []
 |cons {e:cw} {m:MapEntry} {es:List cw} {ms:List MapEntry}:vK G e m->gZ G es ms->gZ G (e::es) (m::ms)
variable{m:MapEntry}
def vK.mono(h:G.le G'){e:cw}(x:vK G e m):vK G' e m:=⟨x.key.mono h,x.val.mono h,x.born⟩
variable{ms:List MapEntry}{es:List cw}
def gZ.mono(h:G.le G')(x:gZ G es ms):gZ G' es ms:=by
 induction x with
 |nil=>exact .nil
 |cons a _ ih=>exact .cons (a.mono h) ih
def Qa(G:Gh):Option Nat->Option Nat->Prop
 |none,none=>True
 |some n,some b=> ∃a,G.at_ n=some a/\a.block=b
 |_,_=>False
def Ex.code:Ex->Code
 | .normal=>.skip
 | .exit id=>.exit id
 | .ret=>.ret
structure AW (G:Gh) (r:Loop) (env:aZ ae) (size:Nat) (ps:List Tmp) (a b:Code) (p:Option Ex):Prop where
 state:r.state=(match p with|none=>.ready|some _=>.done)
 pending:r.pending=p.map Ex.code
 size:r.tmps.size=size
 env: ∀t,VR G (aj env t) (r.tmps.getD t undef)
 params:r.params.toList=ps
 assign:r.assign=a
 body:r.body=b
 flatA:eJ a=true
 flatB:eJ b=true
def AW.mono(h:G.le G'){r:Loop}{env:aZ ae}{size:Nat}{ps:List Tmp}{a b:Code}{p:Option Ex}(x:AW G r env size ps a b p):AW G' r env size ps a b p:=
 ⟨x.state,x.pending,x.size,fun t=>(x.env t).mono h,x.params,x.assign,x.body,x.flatA,x.flatB⟩
def qH(G:Gh)(w:World)(a:Addr):bf->Prop
 | .cells cs=> ∃C e,w.heap[a.block]? =some (.cells C e (0,0))/\G.dim a.block=some C.size/\ ∀(i:Nat) v,cs[i]? =some v->v.scal=true/\ ∃x,C[a.off+i]? =some x/\VR G v x
 | .tok=> ∃C e,w.heap[a.block]? =some (.cells C e (0,0))
 | .map es clock=> ∃ES:Array MapEntry,w.heap[a.block]? =some (.map ES clock)/\gZ G es ES.toList
 | .iter m since seen stepped=>a.off=0/\ ∃m',w.heap[a.block]? =some (.mapIter m' since ⟨seen⟩ stepped)/\Qa G m m'
 | .loop _ env size ps ca cb p=> ∃r:Loop,w.heap[a.block]? =some (.loop r)/\AW G r env size ps ca cb p
variable{a:Addr}{w:World}
def qH.mono(h:G.le G'): ∀ {o:bf},qH G w a o->qH G' w a o
 | .cells _,⟨C,e,hb,hd,hc⟩=>⟨C,e,hb,h.dim _ _ hd,fun i v hi=>let⟨hs,x,hx,hv⟩:=hc i v hi;⟨hs,x,hx,hv.mono h⟩⟩
 | .tok,x=>x
 | .map _ _,⟨ES,hb,hs⟩=>⟨ES,hb,hs.mono h⟩
 | .iter m _ _ _,⟨h0,m',hb,hm⟩=>⟨h0,m',hb,by
  cases m<;>cases m'<;>first|exact hm|(obtain⟨a,ha,hb⟩:=hm;exact⟨a,h.at_ _ _ ha,hb⟩)⟩
 | .loop ..,⟨r,hb,hr⟩=>⟨r,hb,hr.mono h⟩
variable{w':World}
def qH.of_block(h:w'.heap[a.block]? =w.heap[a.block]?): ∀ {o:bf},qH G w a o->qH G w' a o
 | .cells _,⟨C,e,hb,hd,hc⟩=>⟨C,e,h.trans hb,hd,hc⟩
 | .tok,⟨C,e,hb⟩=>⟨C,e,h.trans hb⟩
 | .map _ _,⟨ES,hb,hs⟩=>⟨ES,h.trans hb,hs⟩
 | .iter _ _ _ _,⟨h0,m',hb,hm⟩=>⟨h0,m',h.trans hb,hm⟩
 | .loop ..,⟨r,hb,hr⟩=>⟨r,h.trans hb,hr⟩
def d7(G:Gh)(h:aZ bf)(b:Nat):Prop:= ∃n a,h.get n≠none/\G.at_ n=some a/\a.block=b
structure WR (G:Gh) (h:aZ bf) (w:World):Prop where
 obj: ∀n o,h.get n=some o-> ∃a,G.at_ n=some a/\a.spot=none/\qH G w a o
 sep: ∀n m a b,h.get n≠none->h.get m≠none->G.at_ n=some a->G.at_ m=some b->a.block=b.block->n=m
 ro: ∀b o v,G.ro b o=some v->v.scal=true/\ ∃x,w.cell? ⟨b,o,none⟩=some x/\VR G v x
 apart: ∀n ob a i v,h.get n=some ob->G.at_ n=some a->G.ro a.block i=some v->ob= .tok/\i<a.off
 dim: ∀b d,G.dim b=some d-> ∃C e,w.heap[b]? =some (.cells C e (0,0))/\C.size=d
 below: ∀n a,G.at_ n=some a->a.block<w.heap.size
def pR(w w':World):Prop:=w'.os=w.os/\w'.output=w.output/\w.heap.size<=w'.heap.size/\(∀a,a.block<w.heap.size->w'.frozen? a=w.frozen? a)/\w'.tape=w.tape/\w.drawn<=w'.drawn
def pR.refl(w:World):pR w w:=⟨rfl,rfl,aU _,fun _ _=>rfl,rfl,aU _⟩
def pR.trans{w'':World}(x:pR w w')(y:pR w' w''):pR w w'':=⟨y.1.trans x.1,y.2.1.trans x.2.1,fh x.2.2.1 y.2.2.1,fun a h=>(y.2.2.2.1 a (gX h x.2.2.1)).trans (x.2.2.2.1 a h),y.2.2.2.2.1.trans x.2.2.2.2.1,fh x.2.2.2.2.2 y.2.2.2.2.2⟩
structure cM (G:Gh) (h:aZ bf) (w:World) (G':Gh) (h':aZ bf) (w':World) (lo hi:Nat):Prop where
 le:G.le G'
 size:w.heap.size<=w'.heap.size
 keep: ∀b,b<w.heap.size-> ¬d7 G h b->w'.heap[b]? =w.heap[b]?
 owns: ∀b,b<w.heap.size->d7 G' h' b->d7 G h b
 names: ∀n a,G'.at_ n=some a->G.at_ n=none->lo<=n/\n<hi
 cells: ∀b o v,b<w.heap.size->G'.ro b o=some v->G.ro b o=none->d7 G h b
 quiet:pR w w'
variable{hi lo:Nat}{h:aZ bf}
def cM.refl:cM G h w G h w lo hi:=
 ⟨.refl G,aU _,fun _ _ _=>rfl,fun _ _ h=>h,fun n a h h'=>(by rw[h] at h';cases h'),fun b o v _ h h'=>(by rw[h] at h';cases h'),.refl w⟩
variable{h':aZ bf}
def cM.trans{G'':Gh}{h'':aZ bf}{w'':World}{mid:Nat}(x:cM G h w G' h' w' lo mid)(y:cM G' h' w' G'' h'' w'' mid hi)(l1:lo<=mid)(l2:mid<=hi):cM G h w G'' h'' w'' lo hi where
 le:=x.le.trans y.le
 size:=fh x.size y.size
 keep b hb ho:=(y.keep b (gX hb x.size) fun o=>ho (x.owns b hb o)).trans (x.keep b hb ho)
 owns b hb o:=x.owns b hb (y.owns b (gX hb x.size) o)
 names n a h h0:=by
  cases e:G'.at_ n with
  |none=>have:=y.names n a h e;omega
  |some b=>have:=x.names n b e h0;omega
 cells b o v hb h h0:=by
  cases e:G'.ro b o with
  |none=>exact x.owns b hb (y.cells b o v (gX hb x.size) h e)
  |some u=>exact x.cells b o u hb e h0
 quiet:=x.quiet.trans y.quiet
def dx(w:World)(b:Nat)(o:Obj):World:= {w with heap:=w.heap.setIfInBounds b o }
@[simp] def Ak(w:World)(b:Nat)(o:Obj):(dx w b o).heap.size=w.heap.size:=by simp[dx]
def jb(w:World)(b c:Nat)(o:Obj)(hb:b<w.heap.size):(dx w b o).heap[c]? =if c=b then some o else w.heap[c]? :=by
 simp only[dx,AG];by_cases h:b=c;subst h;simp[hb];simp[h,Ne.symm h]
def al8(w:World)(b:Nat)(o o':Obj):dx (dx w b o) b o'=dx w b o':=by
 simp[dx]
def al9(w:World)(b:Nat)(o:Obj)(h:w.heap[b]? =some o):dx w b o=w:=by
 have hb:b<w.heap.size:=by
  rcases ix b w.heap.size with h'|h'
  exact h';simp[yJ h'] at h
 have e:w.heap.setIfInBounds b o=w.heap:=by
  apply Array.ext_getElem?;intro i;rw[AG];by_cases hi:b=i;subst hi;rw[iP rfl,iP hb,h];simp[hi]
 unfold dx;rw[e]
variable{b:Nat}
def fQ{o:Obj}(h:w.heap[b]? =some o):b<w.heap.size:=by
 rcases ix b w.heap.size with h'|h'
 exact h';simp[yJ h'] at h
variable{C:Array Value}{fz:Nat×Nat}{e:TypeId}
def qc(h:w.heap[b]? =some (.cells C e fz)):w.cell? ⟨b,i,none⟩=C[i]? :=by
 simp[World.cell?,h]
def anC{v:Value}(h:w.heap[b]? =some (.cells C e fz)):
 w.setCell ⟨b,i,none⟩ v=dx w b (.cells (C.setIfInBounds i v) e fz):=by
 unfold World.setCell dx;congr 1;apply Array.ext_getElem?;intro j;rw[HC,AG];by_cases hj:b=j;subst hj;rw[iP rfl,iP rfl,iP (fQ h),h];simp;simp[hj]
def jp(C:Array Value)(off:Nat):List Value->Array Value
 | []=>C
 |v::l=>jp (C.setIfInBounds off v) (off+1) l
@[simp] def aqI(C:Array Value)(off:Nat)(l:List Value):(jp C off l).size=C.size:=by
  induction l generalizing C off with
  |nil=>rfl
  |cons v l ih=>simp[jp,ih]
def HA(C:Array Value)(off:Nat)(l:List Value)(i:Nat)(h:off+l.length<=C.size):
 (jp C off l)[i]? =if off<=i/\i<off+l.length then l[i-off]? else C[i]? :=by
 induction l generalizing C off with
 |nil=>simp[jp];intro h1 h2;omega
 |cons v l ih=>
  simp only[cP] at h;rw[jp,ih _ _ (by simp;omega),AG];by_cases h1:off=i;subst h1;rw[iN (by omega),iP rfl,iP (by omega),iP (by simp)];simp;by_cases h2:off+1<=i/\i<off+1+l.length;rw[iP h2,iP (by simp;omega)];have:i-off=(i-(off+1))+1:=by omega
  rw[this];simp;rw[iN h2,iN h1,iN (by simp;omega)]
variable{P:Program}
def ana{v:Value}(h:w.heap[b]? =some (.cells C e (0,0)))(hi:i<C.size)(hv:v.oneCell'=true):(store ⟨b,i,none⟩ v).run P w= .ok () (dx w b (.cells (C.setIfInBounds i v) e (0,0))):=by
 rw[run_store _ _ _ _ _ hv,qc h];simp only[Array.getElem?_eq_getElem hi];have hf:w.frozen? ⟨b,i,none⟩=false:=by simp[World.frozen?,h]
 rw[hf,anC h];rfl
def nW(b o i:Nat):(⟨b,o,none⟩:Addr).add i=⟨b,o+i,none⟩:=by
 unfold Addr.add;split;rename_i h;simp[h];rfl
def Hd(b o:Nat)(e:TypeId): ∀(vs:List Value) (i:Nat) (w:World) (C:Array Value),w.heap[b]? =some (.cells C e (0,0))->o+i+vs.length<=C.size->
 (∀v∈vs,v.oneCell'=true)->(storeCells ⟨b,o,none⟩ vs i).run P w= .ok () (dx w b (.cells (jp C (o+i) vs) e (0,0))):=by
 intro vs
 induction vs with
 |nil=>intro i w C h _ _;simp[storeCells,jp,al9 _ _ _ h]
 |cons v vs ih=>
  intro i w C h hl hv;simp only[cP] at hl;rw[storeCells,Sem.run_bind,nW,ana h (by omega) (hv v (by simp)),iU,
   ih (i+1) _ _ (by rw[jb _ _ _ _ (fQ h),iP rfl]) (by simp;omega) (fun u hu=>hv u (by simp[hu])),al8,jp]
  rfl
variable{n:Nat}{o:bf}
section
variable{G:Gh}{h:aZ bf}{w:World}
def WR.of_heap(x:WR G h w)(e:w'.heap=w.heap):WR G h w' where
 obj n o ho:=by
  obtain⟨a,ha,hs,hr⟩:=x.obj n o ho;exact⟨a,ha,hs,hr.of_block (by rw[e])⟩
 sep:=x.sep
 ro b o v hv:=by
  obtain⟨hs,y,hy,hr⟩:=x.ro b o v hv;exact⟨hs,y,by rw[<-hy];simp[World.cell?,e],hr⟩
 apart:=x.apart
 dim b d hd:=by rw[e];exact x.dim b d hd
 below n a ha:=by rw[e];exact x.below n a ha
def ab8{w:World}(e:w'.heap=w.heap)(a:Addr):w'.frozen? a=w.frozen? a:=by simp[World.frozen?,e]
def cM.of_heap(e:w'.heap=w.heap)(q:w'.os=w.os/\w'.output=w.output/\w'.tape=w.tape/\w.drawn<=w'.drawn):cM G h w G h w' lo hi:=
 ⟨.refl G,by rw[e];exact aU _,fun _ _ _=>by rw[e],fun _ _ h=>h,fun n a h h'=>(by rw[h] at h';cases h'),fun b o v _ h h'=>(by rw[h] at h';cases h'),⟨q.1,q.2.1,by rw[e];exact aU _,fun a _=>ab8 e a,q.2.2.1,q.2.2.2⟩⟩
def WR.ro_lt(x:WR G h w){o:Nat}(hv:G.ro b o=some v):b<w.heap.size:=by
 obtain⟨_,y,hy,_⟩:=x.ro b o v hv;exact World.block_lt_of_cell? w ⟨b,o,none⟩ hy
def WR.owned_lt(x:WR G h w)(ho:d7 G h b):b<w.heap.size:=by
 obtain⟨n,a,_,ha,rfl⟩:=ho;exact x.below n a ha
def Gh.more(G:Gh)(b:Nat)(R:Nat->Option ae)(D:Option Nat):Gh where
 at_:=G.at_
 ro c o:=if c=b then R o else G.ro c o
 dim c:=if c=b then D else G.dim c
def Gh.name(G:Gh)(n:Nat)(a:Addr):Gh where
 at_ m:=if m=n then some a else G.at_ m
 ro:=G.ro
 dim:=G.dim
def nX(w:World)(o:Obj)(c:Nat):(w.alloc o).heap[c]? =if c=w.heap.size then some o else w.heap[c]? :=by
 unfold World.alloc;rw[Array.getElem?_push]
def WR.more_le(x:WR G h w)(R:Nat->Option ae)(D:Option Nat):G.le (G.more w.heap.size R D) where
 at_ _ _ e:=e
 ro b o v e:=by
  have:=x.ro_lt e;simp only[Gh.more];rw[iN (by omega)];exact e
 dim b d e:=by
  obtain⟨C,t,hb,_⟩:=x.dim b d e
  have:=fQ hb;simp only[Gh.more];rw[iN (by omega)];exact e
def Gh.name_le(G:Gh)(a:Addr)(hn:G.at_ n=none):G.le (G.name n a) where
 at_ m b e:=by
  simp only[Gh.name];rw[iN (by intro h;subst h;rw[hn] at e;cases e)];exact e
 ro _ _ _ e:=e
 dim _ _ e:=e
def Obj.warm:Obj->Prop
 | .cells _ _ z=>z=(0,0)
 |_=>True
def Ju{w:World}{ob:Obj}(h:w.heap[b]? =some ob)(hw:Obj.warm ob)(a:Addr)(ha:a.block=b):w.frozen? a=false:=by
 subst ha;unfold World.frozen?;rw[h];cases ob<;>first
  |rfl
  |(simp only[Obj.warm] at hw;subst hw;simp)
def amc(w:World){ob:Obj}(hw:Obj.warm ob):pR w (w.alloc ob):=by
 refine⟨rfl,rfl,by simp,fun a _=>?_,rfl,aU _⟩;by_cases e:a.block=w.heap.size;rw[Ju (w:=w.alloc ob) (b:=w.heap.size) (by rw[nX,iP rfl]) hw a e];unfold World.frozen?;rw[e,yJ (aU _)];unfold World.frozen?;rw[nX,iN e]
def Cr(w:World){o ob:Obj}(h:w.heap[b]? =some o)(ho:Obj.warm o)(hw:Obj.warm ob):pR w (dx w b ob):=by
 refine⟨rfl,rfl,by simp,fun a _=>?_,rfl,aU _⟩;by_cases e:a.block=b;rw[Ju h ho a e,Ju (w:=dx w b ob) (b:=b) (by rw[jb w b b ob (fQ h),iP rfl]) hw a e];unfold World.frozen?;rw[jb w b _ ob (fQ h),iN e]
def qH.warm(h:qH G w a o): ∃ob,w.heap[a.block]? =some ob/\Obj.warm ob:=by
 cases o with
 |cells cs=>obtain⟨C,e,h,_⟩:=h;exact⟨_,h,rfl⟩
 |tok=>obtain⟨C,e,h⟩:=h;exact⟨_,h,rfl⟩
 |map es c=>obtain⟨ES,h,_⟩:=h;exact⟨_,h,trivial⟩
 |iter m a b c=>obtain⟨_,m',h,_⟩:=h;exact⟨_,h,trivial⟩
 |loop _ _ _ _ _ _ _=>obtain⟨r,h,_⟩:=h;exact⟨_,h,trivial⟩
def WR.alloc(x:WR G h w)(ob:Obj)(R:Nat->Option ae)(D:Option Nat)(hR: ∀o v,R o=some v->v.scal=true/\ ∃C e,ob= .cells C e (0,0)/\ ∃y,C[o]? =some y/\VR (G.more w.heap.size R D) v y)(hD: ∀d,D=some d-> ∃C e,ob= .cells C e (0,0)/\C.size=d)(hwm:Obj.warm ob:=by trivial):
 WR (G.more w.heap.size R D) h (w.alloc ob)/\ ∀lo hi,cM G h w (G.more w.heap.size R D) h (w.alloc ob) lo hi:=by
 have hle:=x.more_le R D;refine⟨⟨?_,x.sep,?_,?_,?_,?_⟩,fun lo hi=>⟨hle,by simp,?_,?_,?_,?_,amc w hwm⟩⟩;intro n o ho;obtain⟨a,ha,hs,hr⟩:=x.obj n o ho;refine⟨a,ha,hs,(hr.mono hle).of_block ?_⟩;rw[nX,iN (Nat.ne_of_lt (x.below n a ha))];intro b o v hv;simp only[Gh.more] at hv;by_cases hb:b=w.heap.size;rw[iP hb] at hv;obtain⟨hs,C,e,rfl,y,hy,hr⟩:=hR o v hv;refine⟨hs,y,?_,hr⟩;subst hb;rw[qc (by rw[nX,iP rfl]),hy];rw[iN hb] at hv;obtain⟨hs,y,hy,hr⟩:=x.ro b o v hv;refine⟨hs,y,?_,hr.mono hle⟩;rw[<-hy];exact World.cell?_alloc_old w ob ⟨b,o,none⟩ hb;intro n ob' a i v hn ha hv;simp only[Gh.more] at hv;rw[iN (Nat.ne_of_lt (x.below n a ha))] at hv;exact x.apart n ob' a i v hn ha hv;intro b d hd;simp only[Gh.more] at hd;rw[nX];by_cases hb:b=w.heap.size;rw[iP hb] at hd ⊢;obtain⟨C,e,rfl,hs⟩:=hD d hd;exact⟨C,e,rfl,hs⟩;rw[iN hb] at hd ⊢;exact x.dim b d hd;intro n a ha
 have:=x.below n a ha;simp;omega;intro b hb _;rw[nX,iN (Nat.ne_of_lt hb)];intro b _ ho;exact ho;intro n a e e';simp only[Gh.more] at e;rw[e] at e';cases e';intro b o v hb e e';simp only[Gh.more] at e;rw[iN (Nat.ne_of_lt hb)] at e;rw[e] at e';cases e'
def WR.named(x:WR G h w)(hn:G.at_ n=none)(hb:a.block<w.heap.size)(hs:a.spot=none)(ho: ¬d7 G h a.block)(hr:qH G w a o)(hc: ∀i v,G.ro a.block i=some v->o= .tok/\i<a.off):WR (G.name n a) (h.set n (some o)) w:=by
 have hle:=G.name_le a hn;refine⟨?_,?_,?_,?_,x.dim,?_⟩;intro m o' hm;rw[aZ.get_set] at hm;by_cases e:m=n;rw[iP e] at hm;injection hm with hm;subst hm;subst e
 exact⟨a,by simp[Gh.name],hs,hr.mono hle⟩;rw[iN e] at hm;obtain⟨b,hb,hs,hr⟩:=x.obj m o' hm;exact⟨b,by simp[Gh.name,e,hb],hs,hr.mono hle⟩;intro m k c d hm hk hc hd he;rw[aZ.get_set] at hm hk;simp only[Gh.name] at hc hd;by_cases e1:m=n<;>by_cases e2:k=n;rw[e1,e2];rw[iP e1] at hc;rw[iN e2] at hd hk;injection hc with hc;subst hc
 exact absurd ⟨k,d,hk,hd,he.symm⟩ ho;rw[iN e1] at hc hm;rw[iP e2] at hd;injection hd with hd;subst hd
 exact absurd ⟨m,c,hm,hc,he⟩ ho;rw[iN e1] at hc hm;rw[iN e2] at hd hk;exact x.sep m k c d hm hk hc hd he;intro b o' v hv;obtain⟨hs,y,hy,hr⟩:=x.ro b o' v hv;exact⟨hs,y,hy,hr.mono hle⟩;intro m ob b i v hm hb hv;rw[aZ.get_set] at hm;simp only[Gh.name] at hb;by_cases e:m=n;rw[iP e] at hm hb;injection hm with hm;injection hb with hb;subst hm;subst hb
 exact hc i v hv;rw[iN e] at hm hb;exact x.apart m ob b i v hm hb hv;intro m b hb';simp only[Gh.name] at hb';by_cases e:m=n;rw[iP e] at hb';injection hb' with hb';subst hb';exact hb
 rw[iN e] at hb';exact x.below m b hb'
def Af(h':d7 (G.name n a) (h.set n (some o)) b):b=a.block\/d7 G h b:=by
 obtain⟨m,c,hm,hc,rfl⟩:=h';rw[aZ.get_set] at hm;simp only[Gh.name] at hc;by_cases e:m=n;rw[iP e] at hc;injection hc with hc;subst hc;exact .inl rfl
 rw[iN e] at hc hm;exact .inr ⟨m,c,hm,hc,rfl⟩
def WR.killed(x:WR G h w)(n:Nat):WR G (h.set n none) w:=by
 refine⟨?_,?_,x.ro,?_,x.dim,x.below⟩;intro m o hm;rw[aZ.get_set] at hm;by_cases e:m=n;rw[iP e] at hm;cases hm;rw[iN e] at hm;exact x.obj m o hm;intro m k c d hm hk;rw[aZ.get_set] at hm hk;by_cases e1:m=n;rw[iP e1] at hm;exact absurd rfl hm;by_cases e2:k=n;rw[iP e2] at hk;exact absurd rfl hk;rw[iN e1] at hm;rw[iN e2] at hk;exact x.sep m k c d hm hk;intro m ob a i v hm;rw[aZ.get_set] at hm;by_cases e:m=n;rw[iP e] at hm;cases hm;rw[iN e] at hm;exact x.apart m ob a i v hm
def wI(h':d7 G (h.set n none) b):d7 G h b:=by
 obtain⟨m,c,hm,hc,hb⟩:=h';rw[aZ.get_set] at hm;by_cases e:m=n;rw[iP e] at hm;exact absurd rfl hm;rw[iN e] at hm;exact⟨m,c,hm,hc,hb⟩
def Gs(x:WR G h w)(hl:h.get n≠none)(ha:G.at_ n=some a): ¬d7 G (h.set n none) a.block:=by
 rintro⟨m,c,hm,hc,hb⟩;rw[aZ.get_set] at hm;by_cases e:m=n;rw[iP e] at hm;exact absurd rfl hm;rw[iN e] at hm;exact e (x.sep m n c a hm hl hc ha hb)
def cM.killed:cM G h w G (h.set n none) w lo hi:=
 ⟨.refl G,aU _,fun _ _ _=>rfl,fun _ _ o=>wI o,fun n a h h'=>(by rw[h] at h';cases h'),fun b o v _ h h'=>(by rw[h] at h';cases h'),.refl w⟩
def WR.changed(x:WR G h w){o':bf}{ob:Obj}(hl:h.get n=some o)(ha:G.at_ n=some a)(hr:qH G (dx w a.block ob) a o')(hro: ∀i v,G.ro a.block i=some v->o'= .tok/\ ∃y,(dx w a.block ob).cell? ⟨a.block,i,none⟩=some y/\w.cell? ⟨a.block,i,none⟩=some y)(hd: ∀d,G.dim a.block=some d-> ∃C e,ob= .cells C e (0,0)/\C.size=d)(hwm:Obj.warm ob:=by trivial):
 WR G (h.set n (some o')) (dx w a.block ob)/\ ∀lo hi,cM G h w G (h.set n (some o')) (dx w a.block ob) lo hi:=by
 have hlt:=x.below n a ha;have hblk: ∀c,(dx w a.block ob).heap[c]? =if c=a.block then some ob else w.heap[c]? :=fun c=>jb w a.block c ob hlt
 have hown: ∀b,d7 G (h.set n (some o')) b->d7 G h b:=by
  rintro b ⟨m,c,hm,hc,hb⟩;rw[aZ.get_set] at hm;by_cases e:m=n;subst e;exact⟨m,c,by rw[hl];simp,hc,hb⟩;rw[iN e] at hm;exact⟨m,c,hm,hc,hb⟩
 have hget: ∀m,(h.set n (some o')).get m≠none->h.get m≠none:=by
  intro m hm;rw[aZ.get_set] at hm;by_cases e:m=n;rw[e,hl];simp;rw[iN e] at hm;exact hm
 refine⟨⟨?_,fun m k c d hm hk=>x.sep m k c d (hget m hm) (hget k hk),?_,?_,?_,?_⟩,fun lo hi=>⟨.refl G,by simp,?_,fun b _ ho=>hown b ho,fun n a h h'=>(by rw[h] at h';cases h'),fun b o v _ h h'=>(by rw[h] at h';cases h'),by
  obtain⟨c,hc,_,hrc⟩:=x.obj n o hl;rw[ha] at hc;injection hc with hc;subst hc
  obtain⟨ob0,h1,h2⟩:=hrc.warm;exact Cr w h1 h2 hwm⟩⟩
 intro m ob' hm;rw[aZ.get_set] at hm;by_cases e:m=n;rw[iP e] at hm;injection hm with hm;subst hm;subst e
 obtain⟨b,hb,hs,_⟩:=x.obj m o hl;rw[ha] at hb;injection hb with hb;subst hb
 exact⟨a,ha,hs,hr⟩;rw[iN e] at hm;obtain⟨b,hb,hs,hr'⟩:=x.obj m ob' hm;refine⟨b,hb,hs,hr'.of_block ?_⟩;rw[hblk,iN];intro he;exact e (x.sep m n b a (by rw[hm];simp) (by rw[hl];simp) hb ha he);intro b i v hv;by_cases hb:b=a.block;subst hb;obtain⟨_,y,hy,hy'⟩:=hro i v hv;obtain⟨hs,z,hz,hr'⟩:=x.ro a.block i v hv;rw[hy'] at hz;injection hz with hz;subst hz
 exact⟨hs,y,hy,hr'⟩;obtain⟨hs,z,hz,hr'⟩:=x.ro b i v hv;refine⟨hs,z,?_,hr'⟩;rw[<-hz];simp[World.cell?,hblk,hb];intro m ob' b i v hm hb hv;rw[aZ.get_set] at hm;by_cases e:m=n;rw[iP e] at hm;injection hm with hm;subst hm;subst e
 rw[ha] at hb;injection hb with hb;subst hb
 have h1:=(hro i v hv).1;have h2:=x.apart m o a i v hl ha hv;exact⟨h1,h2.2⟩;rw[iN e] at hm;exact x.apart m ob' b i v hm hb hv;intro b d hd';rw[hblk];by_cases hb:b=a.block;subst hb;rw[iP rfl];obtain⟨C,e,rfl,hs⟩:=hd d hd';exact⟨C,e,rfl,hs⟩;rw[iN hb];exact x.dim b d hd';intro m b hb;simp;exact x.below m b hb;intro b hb ho;rw[hblk,iN];intro he;exact ho ⟨n,a,by rw[hl];simp,ha,he.symm⟩
end
variable{a:Nat}
def eU(h:aJ a b=true):a=b:=iw h
def zb(h:aJ a b=false):a≠b:=Nat.ne_of_beq_eq_false h
def oQ(h:bk a b=true):a<b:=eG h
def ju(h:br a b=true):a<=b:=eG h
variable{c:Bool}{α:Type}
def gh{x y:Option α}{a:α}(h:(bif c then x else y)=some a):(c=true/\x=some a)\/(c=false/\y=some a):=by
 cases c<;>simp_all
def bm{x:Option α}{a:α}(h:(bif c then x else none)=some a):c=true/\x=some a:=by
 cases c<;>simp_all
variable{c:Value}
def Ts(G:Gh)(h:aX c=some v):VR G v c/\v.scal=true:=by
 unfold aX at h;split at h<;>first
  |(injection h with h;subst h;exact⟨by constructor,rfl⟩)
  |(cases h)
def Tt(G:Gh): ∀ {l:List Value} {vs:List ae},Ch l=some vs->bP G vs l/\dn vs=true
 | [],_,h=>by simp[Ch] at h;subst h;exact⟨.nil,rfl⟩
 |c::l,_,h=>by
  simp only[Ch,az] at h;obtain⟨a,ha,r,hr,h⟩:=h;injection h with h;subst h
  obtain⟨h1,h2⟩:=Ts G ha;obtain⟨h3,h4⟩:=Tt G hr;exact⟨.cons h1 h3,by simp only[dn,ma,h2,jD];exact h4⟩
def vf(G:Gh)(h:ofValue c=some v):VR G v c/\ ∀l,v≠ .tup l:=by
 unfold ofValue at h;split at h;rename_i cs;simp only[az] at h;obtain⟨l,hl,h⟩:=h;injection h with h;subst h
 obtain⟨h1,h2⟩:=Tt G hl;exact⟨by simpa using VR.agg h2 h1,by simp⟩;obtain⟨h1,h2⟩:=Ts G h;exact⟨h1,fun l e=>by subst e;simp[ae.scal] at h2⟩
def LV(G:Gh)(loc:Loc)(B:Nat->Nat)(v:ae)(x:Value):Prop:=
 match v with
 | .Ge t g off=>g<=loc.gen t/\(∃ad,x= .pointer (some ad))/\(g=loc.gen t->x= .pointer (some ⟨B t,off,none⟩))
 |v=>VR G v x
variable{B:Nat->Nat}
def LV.of_VR{loc:Loc}(h:VR G v x):LV G loc B v x:=by
 cases h<;>(unfold LV;constructor<;>assumption)
def LV.aL{loc:Loc}(h:LV G loc B v x)(hc:v.aL=true):VR G v x/\ ∀l,v≠ .tup l:=by
 cases v<;>first
  |(simp[ae.aL] at hc;done)
  |exact⟨h,by simp⟩
def LV.mono(hle:G.le G'){loc:Loc}(h:LV G loc B v x):LV G' loc B v x:=by
 cases v<;>first
  |exact VR.mono hle h
  |exact h
structure pO (G:Gh) (h:aZ bf) (B:Nat->Nat) (loc:Loc) (w:World):Prop where
 cells: ∀t cs,loc.get t (loc.gen t)=some cs-> ∃C e,w.heap[B t]? =some (.cells C e (0,0))/\ ∀(i:Nat) v,cs[i]? =some v->v.scal=true/\ ∃x,C[i]? =some x/\VR G v x
 free: ∀t cs,loc.get t (loc.gen t)=some cs-> ¬d7 G h (B t)
 ro: ∀t cs,loc.get t (loc.gen t)=some cs-> ∀o,G.ro (B t) o=none
 inj: ∀t u cs ds,loc.get t (loc.gen t)=some cs->loc.get u (loc.gen u)=some ds->B t=B u->t=u
def pO.ext{loc:Loc}(x:pO G h B loc w)(e:cM G h w G' h' w' lo hi):
 pO G' h' B loc w' where
 cells t cs ht:=by
  obtain⟨C,ty,hb,hc⟩:=x.cells t cs ht;refine⟨C,ty,(e.keep _ (fQ hb) (x.free t cs ht)).trans hb,fun i v hi=>?_⟩;obtain⟨hs,y,hy,hv⟩:=hc i v hi;exact⟨hs,y,hy,hv.mono e.le⟩
 free t cs ht ho:=by
  obtain⟨C,ty,hb,hc⟩:=x.cells t cs ht;exact x.free t cs ht (e.owns _ (fQ hb) ho)
 ro t cs ht o:=by
  obtain⟨C,ty,hb,hc⟩:=x.cells t cs ht;cases hr:G'.ro (B t) o with
  |none=>rfl
  |some v=>exact absurd (e.cells _ o v (fQ hb) hr (x.ro t cs ht o)) (x.free t cs ht)
 inj:=x.inj
structure cy (G:Gh) (h:aZ bf) (B:Nat->Nat) (fr:Fr) (tmps:Array Value) (w:World):Prop where
 size:tmps.size=fr.size
 env: ∀t,LV G fr.loc B (aj fr.env t) (tmps.getD t undef)
 locs:pO G h B fr.loc w
variable{o:Operand}
section
variable{G:Gh}{h:aZ bf}{B:Nat->Nat}{fr:Fr}{a:Act}{w:World}
def cy.ev(x:cy G h B fr a.tmps w)(he:ev fr.env o=some v):LV G fr.loc B v (a.eval o):=by
 cases o with
 |tmp t=>simp[Ag.ev] at he;subst he;exact x.env t
 |const c=>exact LV.of_VR (vf G he).1
 |func f=>simp[Ag.ev] at he;subst he;exact LV.of_VR (.func .nil .nil)
 |global g=>simp[Ag.ev] at he
def cy.evc(x:cy G h B fr a.tmps w)(he:evc fr.env o=some v):VR G v (a.eval o)/\ ∀l,v≠ .tup l:=by
 simp only[Ag.evc,az] at he;obtain⟨u,hu,he⟩:=he;replace he:=bm he;obtain⟨hc,he⟩:=he;injection he with he;subst he
 exact(x.ev hu).aL hc
def cy.evcs(x:cy G h B fr a.tmps w): ∀ {l:List Operand} {vs:List ae},evcs fr.env l=some vs->bP G vs (l.map a.eval)/\ ∀v∈vs, ∀l,v≠ .tup l
 | [],_,he=>by simp[Ag.evcs] at he;subst he;exact⟨.nil,by simp⟩
 |o::l,_,he=>by
  simp only[Ag.evcs,az] at he;obtain⟨v,hv,r,hr,he⟩:=he;injection he with he;subst he
  obtain⟨h1,h2⟩:=x.evc hv;obtain⟨h3,h4⟩:=cy.evcs x hr;exact⟨.cons h1 h3,by intro u hu;simp at hu;rcases hu with rfl|hu<;>first|exact h2|exact h4 u hu⟩
end
def LB(B:Nat->Nat)(loc:Loc)(b:Nat):Prop:= ∃t cs,loc.get t (loc.gen t)=some cs/\B t=b
structure iV (G:Gh) (h:aZ bf) (w:World) (G':Gh) (h':aZ bf) (w':World) (lo hi:Nat) (L:Nat->Prop):Prop where
 le:G.le G'
 size:w.heap.size<=w'.heap.size
 keep: ∀b,b<w.heap.size-> ¬d7 G h b-> ¬L b->w'.heap[b]? =w.heap[b]?
 owns: ∀b,b<w.heap.size->d7 G' h' b->d7 G h b
 names: ∀n a,G'.at_ n=some a->G.at_ n=none->lo<=n/\n<hi
 cells: ∀b o v,b<w.heap.size->G'.ro b o=some v->G.ro b o=none->d7 G h b
 quiet:pR w w'
def cM.toL(x:cM G h w G' h' w' lo hi)(L:Nat->Prop):iV G h w G' h' w' lo hi L:=
 ⟨x.le,x.size,fun b hb ho _=>x.keep b hb ho,x.owns,x.names,x.cells,x.quiet⟩
def fE(P:Program)(G:Gh)(h:aZ bf)(w:World)(B:Nat->Nat)(loc:Loc)(lo hi:Nat)(a:Act)(o:Oper)(v:ae)(loc':Loc)(h':aZ bf):Prop:=
 ∃nx x w' G' B',(execOp a.eval o).run P w= .ok nx w'/\(nx= .value x\/(nx= .skip/\x=undef))/\WR G' h' w'/\iV G h w G' h' w' lo hi (LB B loc)/\
  pO G' h' B' loc' w'/\LV G' loc' B' v x/\(∀u y,LV G loc B u y->LV G' loc' B' u y)/\ ∀b,LB B' loc' b->LB B loc b\/w.heap.size<=b
variable{y:Value}
section
variable{P:Program}{G:Gh}{h:aZ bf}{B:Nat->Nat}{fr:Fr}{a:Act}{w:World}{o:Oper}{lo hi:Nat}
def fE.pure(wr:WR G h w)(x:cy G h B fr a.tmps w)(hrun:(execOp a.eval o).run P w= .ok (.value y) w)(hv:LV G fr.loc B v y):
 fE P G h w B fr.loc lo hi a o v fr.loc h:=
 ⟨_,y,w,G,B,hrun,.inl rfl,wr,cM.refl.toL _,x.locs,hv,fun _ _ h=>h,fun _ h=>.inl h⟩
def fE.heap(x:cy G h B fr a.tmps w){nx:Next}(hrun:(execOp a.eval o).run P w= .ok nx w')(hn:nx= .value y\/(nx= .skip/\y=undef))(wr:WR G' h' w')(e:cM G h w G' h' w' lo hi)(hv:LV G' fr.loc B v y):
 fE P G h w B fr.loc lo hi a o v fr.loc h':=
 ⟨nx,y,w',G',B,hrun,hn,wr,e.toL _,x.locs.ext e,hv,fun _ _ h=>h.mono e.le,fun _ h=>.inl h⟩
end
variable{l:Loc}{x:Operand}
section
variable{P:Program}{mk:aW}{G:Gh}{h:aZ bf}{B:Nat->Nat}{fr:Fr}{a:Act}{w:World}{o:Oper}{lo hi:Nat}
def kO{x:Option ae}{l':Loc}{s s':St}(e:fC x l s=some (v,l',s')):x=some v/\l'=l/\s'=s:=by
 cases x with
 |none=>simp[fC] at e
 |some u=>simp[fC] at e;exact⟨by rw[e.1],e.2.1.symm,e.2.2.symm⟩
def ak5(ho:o.op= .move x)(wr:WR G h w)(fx:cy G h B fr a.tmps w)(he:ev fr.env x=some v):
 fE P G h w B fr.loc lo hi a o v fr.loc h:=
 .pure wr fx (y:=a.eval x) (by simp[execOp,ho]) (fx.ev he)
def akL(ho:o.op= .assign x)(wr:WR G h w)(fx:cy G h B fr a.tmps w)(he:ev fr.env x=some v):
 fE P G h w B fr.loc lo hi a o v fr.loc h:=
 .pure wr fx (y:=a.eval x) (by simp[execOp,ho]) (fx.ev he)
def ak8{c p q:Operand}(ho:o.op= .pick c p q)(wr:WR G h w)(fx:cy G h B fr a.tmps w)(he:wJ fr.env c p q=some v):
 fE P G h w B fr.loc lo hi a o v fr.loc h:=by
 simp only[wJ,az] at he;obtain⟨b,hb,he⟩:=he;have hc:=fx.ev hb;split at he;have hc:VR G (.bool true) (a.eval c):=hc;generalize hx:a.eval c=x at hc;cases hc;exact .pure wr fx (y:=a.eval p) (by simp[execOp,ho,hx,asBool]) (fx.ev he);have hc:VR G (.bool false) (a.eval c):=hc;generalize hx:a.eval c=x at hc;cases hc;exact .pure wr fx (y:=a.eval q) (by simp[execOp,ho,hx,asBool]) (fx.ev he);cases he
def ak7(ho:o.op= .nilCheck x)(wr:WR G h w)(fx:cy G h B fr a.tmps w){u:ae}(hu:ev fr.env x=some u)(he:wE fr.loc u=some v):
 fE P G h w B fr.loc lo hi a o v fr.loc h:=by
 have hl:=fx.ev hu;unfold wE at he;split at he;rename_i t g off;replace he:=bm he;obtain⟨hg,he⟩:=he;injection he with he;subst he
 have hg:=eU hg;obtain⟨h1,_,h2⟩:g<=fr.loc.gen t/\(∃ad,a.eval x= .pointer (some ad))/\(g=fr.loc.gen t->a.eval x= .pointer (some ⟨B t,off,none⟩)):=hl;have h2:=h2 hg.symm;exact .pure wr fx (y:=a.eval x) (by simp[execOp,ho,h2]) ⟨h1,⟨_,h2⟩,fun _=>h2⟩;injection he with he;subst he
 generalize hx:a.eval x=y at hl;have hl':VR G _ y:=hl;cases hl';exact .pure wr fx (y:=a.eval x) (by simp[execOp,ho,hx]) (by rw[hx];exact hl);injection he with he;subst he
 generalize hx:a.eval x=y at hl;have hl':VR G _ y:=hl;cases hl';exact .pure wr fx (y:=a.eval x) (by simp[execOp,ho,hx]) (by rw[hx];exact hl);injection he with he;subst he
 generalize hx:a.eval x=y at hl;have hl':VR G _ y:=hl;cases hl';exact .pure wr fx (y:=a.eval x) (by simp[execOp,ho,hx]) (by rw[hx];exact hl);cases he
end
def Loc.gen_set(l:Loc)(t g u:Nat)(cs:List ae):(Loc.set l t g cs).gen u=if u=t then g else Loc.gen l u:=by
 induction l with
 |nil=>
  simp only[Loc.set,Loc.gen];by_cases h:u=t;subst h;simp;have:aJ t u=false:=by cases e:aJ t u;rfl;exact absurd (eU e).symm h
  simp[this,h]
 |cons x l ih=>
  obtain⟨k,g',d⟩:=x;simp only[Loc.set];cases e:aJ k t;simp only[cF,Loc.gen];rw[ih];by_cases h:u=t;subst h;simp[e];simp[h]
  have:=eU e;subst this;simp only[cT,Loc.gen];by_cases h:u=k;subst h;simp;have:aJ k u=false:=by cases e:aJ k u;rfl;exact absurd (eU e).symm h
  simp[this,h]
def Loc.get_set(l:Loc)(t g u k:Nat)(cs:List ae):(Loc.set l t g cs).get u k=if u=t then(if k=g then some cs else none) else Loc.get l u k:=by
 have hb: ∀a b:Nat,aJ a b=decide (a=b):=fun a b=>by
  cases e:aJ a b;exact(dN (zb e)).symm;exact(dQ (eU e)).symm
 induction l with
 |nil=>
  simp only[Loc.set,Loc.get,hb];by_cases h:u=t;subst h;by_cases h':k=g;simp[h'];simp[h',Ne.symm h'];simp[h,Ne.symm h]
 |cons x l ih=>
  obtain⟨j,g',d⟩:=x;simp only[Loc.set,hb];by_cases e:j=t;subst e;simp only[dT,cT,Loc.get,hb];by_cases h:u=j;subst h;by_cases h':k=g;simp[h'];simp[h',Ne.symm h'];simp[h,Ne.symm h];simp only[e,dF,cF,Loc.get,hb];rw[ih];by_cases h:u=t;subst h;simp[e];simp[h]
section
variable{P:Program}{G:Gh}{h:aZ bf}{w:World}
def Gh.more_none(x:WR G h w):G.more w.heap.size (fun _=>none) none=G:=by
 cases G with
 |mk A R D=>
  simp only[Gh.more];congr 1;funext c o;by_cases e:c=w.heap.size;rw[iP e];cases hr:R c o with
  |none=>rfl
  |some v=>have:=x.ro_lt (b:=c) (o:=o) (v:=v) hr;omega
  rw[iN e];funext c;by_cases e:c=w.heap.size;rw[iP e];cases hr:D c with
  |none=>rfl
  |some d=>obtain⟨C,t,hb,_⟩:=x.dim c d hr;have:=fQ hb;omega
  rw[iN e]
def WR.fresh(x:WR G h w)(ob:Obj)(hwm:Obj.warm ob:=by trivial):WR G h (w.alloc ob)/\ ∀lo hi,cM G h w G h (w.alloc ob) lo hi:=by
 have:=x.alloc ob (fun _=>none) none (by simp) (by simp) hwm;rwa [Gh.more_none x] at this
def Gh.boxed(G:Gh)(w:World)(n size:Nat):Gh:=(G.more w.heap.size (fun _=>none) (some size)).name n ⟨w.heap.size,0,none⟩
def WR.boxed(x:WR G h w)(hn:G.at_ n=none)(C:Array Value)(e:TypeId)(cs:List ae)(hc: ∀(i:Nat) v,cs[i]? =some v->v.scal=true/\ ∃y,C[i]? =some y/\VR G v y):
 WR (G.boxed w n C.size) (h.set n (some (.cells cs))) (w.alloc (.cells C e))/\cM G h w (G.boxed w n C.size) (h.set n (some (.cells cs))) (w.alloc (.cells C e)) n (n+1):=by
 obtain⟨h1,h2⟩:=x.alloc (.cells C e) (fun _=>none) (some C.size) (by simp) (fun d hd=>⟨C,e,rfl,by injection hd⟩);have hno: ¬d7 (G.more w.heap.size (fun _=>none) (some C.size)) h w.heap.size:=by
  rintro⟨m,a,hm,ha,hb⟩
  have:=x.below m a ha;omega
 have h3:=h1.named (n:=n) (a:=⟨w.heap.size,0,none⟩) (o:=.cells cs) hn (by simp) rfl hno
  ⟨C,e,by rw[nX,iP rfl],by simp[Gh.more],fun i v hi=>by
    obtain⟨hs,y,hy,hv⟩:=hc i v hi;exact⟨hs,y,by simpa using hy,hv.mono (h2 0 0).le⟩⟩
  (by simp[Gh.more])
 refine⟨h3,⟨(h2 0 0).le.trans (Gh.name_le _ _ hn),(h2 0 0).size,(h2 0 0).keep,?_,?_,?_,(h2 0 0).quiet⟩⟩;intro b hb ho;rcases Af ho with rfl|ho
 exact absurd hb (cR _);exact(h2 0 0).owns b hb ho;intro m a hm h0;simp only[Gh.boxed,Gh.name,Gh.more] at hm;by_cases em:m=n;omega;rw[iN em,h0] at hm;cases hm;intro b o v hb hv h0;exact(h2 0 0).cells b o v hb hv h0
def Gh.boxed_at(G:Gh)(w:World)(n size:Nat):(G.boxed w n size).at_ n=some ⟨w.heap.size,0,none⟩:=by simp[Gh.boxed,Gh.name]
def Gh.boxed_dim(G:Gh)(w:World)(n size:Nat):(G.boxed w n size).dim w.heap.size=some size:=by simp[Gh.boxed,Gh.name,Gh.more]
def bP.rows{vs:List ae}(hv:bP G vs C.toList)(hs:dn vs=true):
 ∀(i:Nat) v,vs[i]? =some v->v.scal=true/\ ∃y,C[i]? =some y/\VR G v y:=by
 intro i v hi;refine⟨?_,?_⟩
 have:=ku hi;simp only[dn,fY] at hs;exact hs v this;obtain⟨y,hy,hr⟩:=hv.get hi;exact⟨y,by simpa using hy,hr⟩
end
variable{cs:List ae}{loc':Loc}{hh:Nat}{dst:Option Tmp}{hint:Tmp->Nat}{t:TypeId}
section
variable{P:Program}{mk:aW}{G:Gh}{s s':St}{B:Nat->Nat}{fr:Fr}{a:Act}{w:World}{o:Oper}
def TI(wr:WR G s.heap w)(fx:cy G s.heap B fr a.tmps w)(hrun:(execOp a.eval o).run P w= .ok (.value (.pointer (some ⟨w.heap.size,0,none⟩))) (w.alloc (.cells C e)))(hc: ∀(i:Nat) v,cs[i]? =some v->v.scal=true/\ ∃y,C[i]? =some y/\VR G v y)(he:qK hh dst cs fr.loc s=some (v,loc',s'))(hfree: ∀n,s.al<=n->n<s'.al->G.at_ n=none):
 fE P G s.heap w B fr.loc s.al s'.al a o v loc' s'.heap:=by
 unfold qK at he;rcases gh he with⟨_,he⟩|⟨_,he⟩
 simp only[az] at he;obtain⟨t,_,he⟩:=he;simp only[aP,bj] at he;obtain⟨rfl,rfl,rfl⟩:=he;obtain⟨h1,h2⟩:=wr.fresh (.cells C e);have h3:=fx.locs.ext (h2 s.al s.al);refine⟨_,_,_,G,fun u=>if u=t then w.heap.size else B u,hrun,.inl rfl,h1,(h2 _ _).toL _,⟨?_,?_,?_,?_⟩,?_,?_,?_⟩;intro u ds hu;rw[Loc.gen_set,Loc.get_set] at hu;by_cases eu:u=t;rw[iP eu,iP eu,iP rfl] at hu;injection hu with hu;subst hu
 rw[iP eu];exact⟨C,e,by rw[nX,iP rfl],hc⟩;rw[iN eu,iN eu] at hu;rw[iN eu];exact h3.cells u ds hu;intro u ds hu;rw[Loc.gen_set,Loc.get_set] at hu;by_cases eu:u=t;rw[iP eu];intro ho;exact cR _ (wr.owned_lt ho);rw[iN eu,iN eu] at hu;rw[iN eu];exact h3.free u ds hu;intro u ds hu k;rw[Loc.gen_set,Loc.get_set] at hu;by_cases eu:u=t;rw[iP eu];cases hr:G.ro w.heap.size k with
 |none=>rfl
 |some v=>exact absurd (wr.ro_lt hr) (cR _)
 rw[iN eu,iN eu] at hu;rw[iN eu];exact h3.ro u ds hu k;intro u u' ds ds' hu hu' hB;rw[Loc.gen_set,Loc.get_set] at hu hu';have old: ∀ {q:Nat} {cs:List ae},fr.loc.get q (fr.loc.gen q)=some cs->B q<w.heap.size:=fun {q cs} hq=>by
  obtain⟨C,e,hb,_⟩:=fx.locs.cells q cs hq;exact fQ hb
 by_cases eu:u=t<;>by_cases eu':u'=t;rw[eu,eu'];rw[iN eu',iN eu'] at hu';rw[iP eu,iN eu'] at hB
 have:=old hu';omega;rw[iN eu,iN eu] at hu;rw[iN eu,iP eu'] at hB
 have:=old hu;omega;rw[iN eu,iN eu] at hu;rw[iN eu',iN eu'] at hu';rw[iN eu,iN eu'] at hB;exact fx.locs.inj u u' ds ds' hu hu' hB;show _<=_/\_;rw[Loc.gen_set,iP rfl];exact⟨aU _,⟨_,rfl⟩,fun _=>by simp⟩;intro u y hl;cases u with
 |Ge q g off=>
  obtain⟨l1,l3,l2⟩:=hl;show _<=_/\_;rw[Loc.gen_set];by_cases eq:q=t;subst eq;rw[iP rfl];exact⟨by omega,l3,fun hg=>by omega⟩;rw[iN eq];exact⟨l1,l3,fun hg=>by simp only[iN eq];exact l2 hg⟩
 |_=>exact hl
 rintro b ⟨u,ds,hu,rfl⟩;rw[Loc.gen_set,Loc.get_set] at hu;by_cases eu:u=t;simp only[iP eu];exact .inr (aU _);rw[iN eu,iN eu] at hu;simp only[iN eu];exact .inl ⟨u,ds,hu,rfl⟩;simp only[aP,bj] at he;obtain⟨rfl,rfl,rfl⟩:=he;have hn:G.at_ s.al=none:=hfree s.al (aU _) (by simp[St.new]);obtain⟨h1,h2⟩:=wr.boxed hn C e cs hc;exact .heap fx hrun (.inl rfl) h1 h2 (LV.of_VR (by simpa using VR.ptr (off:=0) (Gh.boxed_at G w s.al C.size)))
def CP{z:ae}(hz:ek P t=some z): ∃i zv,P.info? t=some i/\i.zero=some zv/\ofValue zv=some z:=by
 simp only[ek,az] at hz;obtain⟨i,hi,zv,hzv,h⟩:=hz;exact⟨i,zv,hi,hzv,h⟩
def tR{i:TypeInfo}{zv:Value}(hi:P.info? t=some i)(hz:i.zero=some zv)(w:World):(zeroValue t).run P w= .ok zv w:=by
 simp[zeroValue,typeInfo,hi,hz]
def akK(ho:o.op= .alloc e)(wr:WR G s.heap w)(fx:cy G s.heap B fr a.tmps w)(he:Gy P hint dst e fr s=some (v,loc',s'))(hfree: ∀n,s.al<=n->n<s'.al->G.at_ n=none):
 fE P G s.heap w B fr.loc s.al s'.al a o v loc' s'.heap:=by
 simp only[Gy,az] at he;obtain⟨z,hz,he⟩:=he;obtain⟨i,zv,hi,hzv,hov⟩:=CP hz;obtain⟨hv,ht⟩:=vf G hov;exact TI (C:=zv.cells) (e:=e) wr fx (by simp[execOp,ho,Instr.alloc,tR hi hzv,newVar,newRow]) (hv.cells.rows (hv.scals_cells ht)) he hfree
def akN(ho:o.op= .box e x)(wr:WR G s.heap w)(fx:cy G s.heap B fr a.tmps w)(he:GA hint dst x fr s=some (v,loc',s'))(hfree: ∀n,s.al<=n->n<s'.al->G.at_ n=none):
 fE P G s.heap w B fr.loc s.al s'.al a o v loc' s'.heap:=by
 simp only[GA,az] at he;obtain⟨u,hu,he⟩:=he;obtain⟨hv,ht⟩:=fx.evc hu;exact TI (C:=(a.eval x).cells) (e:=e) wr fx (by simp[execOp,ho,Instr.box,newVar,newRow]) (hv.cells.rows (hv.scals_cells ht)) he hfree
end
variable{ys:List Value}{cs':List ae}{base off:Nat}
section
variable{P:Program}{mk:aW}{G:Gh}{s s':St}{B:Nat->Nat}{fr:Fr}{a:Act}{w:World}{o:Oper}{lo hi:Nat}
def cW{d:TypeDesc}(h:P.underlying t=some d)(w:World):(underlying t).run P w= .ok d w:=by
 simp[underlying,h]
def Hc{b:Bool}(h:BE P t=some b)(w:World):(isAgg t).run P w= .ok b w:=by
 simp only[BE,az] at h;obtain⟨d,hd,h⟩:=h;cases d<;>simp at h<;>subst h<;>simp[isAgg,cW hd]
def gJ(h:dZ P t=some n)(w:World):(sizeOf t).run P w= .ok n w:=by
 simp only[dZ,az] at h;obtain⟨i,hi,h⟩:=h;injection h with h;subst h
 simp[sizeOf,typeInfo,hi]
def zj{r:List ae}(h:cut cs off n=some r):r=(cs.drop off).take n/\r.length=n:=by
 simp only[cut] at h;obtain⟨h1,h2⟩:=bm h;injection h2 with h2
 exact⟨h2.symm,by rw[<-h2];exact eU h1⟩
def Bi{r:List ae}(h:cut cs off n=some r)(hi:r[i]? =some v):cs[off+i]? =some v:=by
 obtain⟨h1,h2⟩:=zj h;rw[h1,yO] at hi;split at hi;rwa [vF] at hi;cases hi
def L4{f:Nat->Option Value}(hc: ∀(i:Nat) u,cs[i]? =some u->u.scal=true/\ ∃x,f i=some x/\VR G u x):
 ∃vs:List Value,bP G cs vs/\dn cs=true/\ ∀(i:Nat) x,vs[i]? =some x->f i=some x:=by
 induction cs generalizing f with
 |nil=>exact⟨[],.nil,rfl,by simp⟩
 |cons c cs ih=>
  obtain⟨hs,x,hx,hv⟩:=hc 0 c (by simp);obtain⟨vs,h1,h2,h3⟩:=ih (f:=fun i=>f (i+1)) (fun i u hi=>hc (i+1) u (by simpa using hi));refine⟨x::vs,.cons hv h1,by simp only[dn,ma,hs,jD];exact h2,?_⟩;intro i y hi;cases i with
  |zero=>simp at hi;subst hi;exact hx
  |succ i=>simp at hi;exact h3 i y hi
def Ao(h:ey P t cs off=some v)(hc: ∀(i:Nat) u,cs[i]? =some u->u.scal=true/\ ∃x,w.cell? ⟨b,base+i,none⟩=some x/\VR G u x):
 ∃y,(loadVar t ⟨b,base+off,none⟩).run P w= .ok y w/\VR G v y/\ ∀l,v≠ .tup l:=by
 simp only[ey,az] at h;obtain⟨g,hg,h⟩:=h;replace h:=gh h;rcases h with⟨g1,h⟩|⟨g1,h⟩<;>subst g1
 simp only[az] at h;obtain⟨n,hn,r,hr,h⟩:=h;injection h with h;subst h
 obtain⟨vs,h1,h2,h3⟩:=L4 (G:=G) (cs:=r) (f:=fun i=>w.cell? ⟨b,base+off+i,none⟩) (fun i u hi=>by
  have:=hc (off+i) u (Bi hr hi);rwa [<-qD] at this)
 have hlen:vs.length=n:=by rw[<-h1.length];exact(zj hr).2
 refine⟨.agg ⟨vs⟩,?_,.agg h2 h1,by simp⟩;have hl:=run_loadCells_list (P:=P) (w:=w) ⟨b,base+off,none⟩ vs (fun j v hj=>by rw[nW];exact h3 j v hj);rw[hlen] at hl;simp[loadVar,Hc hg,gJ hn,hl];split at h;rename_i u rest hd;injection h with h;subst h
 have hi:cs[off]? =some u:=by
  have:(cs.drop off)[0]? =some u:=by rw[hd];rfl
  simpa[vF] using this
 obtain⟨hs,x,hx,hv⟩:=hc off u hi;refine⟨x,?_,hv,fun l e=>by subst e;simp[ae.scal] at hs⟩;simp[loadVar,Hc hg,hx];cases h
def iZ{ob:bf}(h:s.get mk n=some ob):s.heap.get n=some ob:=by
 unfold St.get at h;cases e:dC mk n<;>simp[e] at h;exact h
def akZ(ho:o.op= .load t x)(wr:WR G s.heap w)(fx:cy G s.heap B fr a.tmps w)(he:Aa P mk t x fr s=some (v,loc',s')):fE P G s.heap w B fr.loc lo hi a o v loc' s'.heap:=by
 simp only[Aa,az] at he;obtain⟨u,hu,he⟩:=he;replace he:=kO he;obtain⟨he,rfl,rfl⟩:=he;have hl:=fx.ev hu;unfold lR at he;split at he;rename_i t' g off;simp only[az] at he;obtain⟨cs,hcs,he⟩:=he;obtain⟨h1,_,h2⟩:=hl;have hg:g=fr.loc.gen t':=by
  clear he h2;revert hcs;generalize fr.loc=l at*
  induction l with
  |nil=>intro hcs;simp[Loc.get] at hcs
  |cons y l ih=>
   obtain⟨k,g',d⟩:=y;intro hcs;simp only[Loc.get,Loc.gen] at*;cases e:aJ k t';rw[e] at hcs h1;simp only[cF] at hcs h1 ⊢;exact ih h1 hcs;rw[e] at hcs h1;simp only[cT] at hcs h1 ⊢;obtain⟨e',_⟩:=bm hcs;exact(eU e').symm
 replace h2:=h2 hg;subst hg;obtain⟨C,e,hb,hc⟩:=fx.locs.cells t' cs hcs;obtain⟨y,hy,hv,ht⟩:=Ao (w:=w) (b:=B t') (base:=0) he (fun i u hi=>by
  obtain⟨hs,z,hz,hr⟩:=hc i u hi;exact⟨hs,z,by rw[qc hb];simpa using hz,hr⟩)
 refine .pure wr fx (y:=y) ?_ (LV.of_VR hv);simp only[gl] at hy;simp[execOp,ho,h2,Instr.loadAt,Instr.sureAddr,hy];rename_i n off;simp only[az] at he;obtain⟨ob,hob,he⟩:=he;split at he;rename_i cs;have hl:VR G _ _:=hl;generalize hx:a.eval x=y at hl;cases hl;rename_i ad hn;obtain⟨ad',hn',hsp,C,e,hb,_,hc⟩:=wr.obj n _ (iZ hob);rw[hn] at hn';injection hn' with hn';subst hn'
 obtain⟨y,hy,hv,ht⟩:=Ao (w:=w) (b:=ad.block) (base:=ad.off) he (fun i u hi=>by
  obtain⟨hs,z,hz,hr⟩:=hc i u hi;exact⟨hs,z,by rw[qc hb];exact hz,hr⟩)
 refine .pure wr fx (y:=y) ?_ (LV.of_VR hv);simp[execOp,ho,hx,Instr.loadAt,Instr.sureAddr,hy];cases he;rename_i cs;have hl:VR G _ _:=hl;generalize hx:a.eval x=y at hl;cases hl;rename_i b base hro;obtain⟨y,hy,hv,ht⟩:=Ao (w:=w) (b:=b) (base:=base) he (fun i u hi=>wr.ro _ _ _ (hro i u hi));refine .pure wr fx (y:=y) ?_ (LV.of_VR hv);simp only[qE] at hy;simp[execOp,ho,hx,Instr.loadAt,Instr.sureAddr,hy];cases he
def Si{t g:Nat}(h:l.get t g=some cs):g=l.gen t:=by
 induction l with
 |nil=>simp[Loc.get] at h
 |cons y l ih=>
  obtain⟨k,g',d⟩:=y;simp only[Loc.get,Loc.gen] at*;cases e:aJ k t;rw[e] at h;simp only[cF] at h ⊢;exact ih h;rw[e] at h;simp only[cT] at h ⊢;exact(eU (bm h).1).symm
def V8{new:List ae}(h:bu cs off new=some cs'):
 off+new.length<=cs.length/\cs'.length=cs.length/\ ∀i:Nat,cs'[i]? =if off<=i/\i<off+new.length then new[i-off]? else cs[i]? :=by
 simp only[bu] at h;obtain⟨h1,h2⟩:=bm h;have h1:=ju h1;injection h2 with h2
 refine⟨h1,by rw[<-h2];simp;omega,fun i=>?_⟩;rw[<-h2];by_cases c1:i<off;rw[rA (by simp;omega),iN (by omega),yO,iP c1];rw[sW (by simp;omega)];simp only[oG,AO (by omega:off<=cs.length)];by_cases c2:i<off+new.length;rw[rA (by omega),iP ⟨by omega,c2⟩];rw[sW (by omega),iN (by omega),vF];congr 1;omega
def Cv{new:List ae}(h:bu cs off new=some cs')(hy:bP G new ys)(hs:dn new=true)(hne:new≠ [])(hc: ∀(i:Nat) u,cs[i]? =some u->u.scal=true/\ ∃x,C[base+i]? =some x/\VR G u x):
 base+off+ys.length<=C.size/\ ∀(i:Nat) u,cs'[i]? =some u->u.scal=true/\ ∃x,(jp C (base+off) ys)[base+i]? =some x/\VR G u x:=by
 obtain⟨h1,h2,h3⟩:=V8 h;have hl:=hy.length;have hpos:0<new.length:=List.length_pos_iff.2 hne;have hsz:base+off+ys.length<=C.size:=by
  have hi:off+new.length-1<cs.length:=by omega
  obtain⟨_,x,hx,_⟩:=hc (off+new.length-1) cs[off+new.length-1] (gL hi);have:base+(off+new.length-1)<C.size:=by
   rcases ix (base+(off+new.length-1)) C.size with h|h
   exact h;simp[yJ h] at hx
  omega
 refine⟨hsz,fun i u hi=>?_⟩;rw[h3] at hi;rw[HA _ _ _ _ hsz];by_cases c:off<=i/\i<off+new.length;rw[iP c] at hi;rw[iP (by omega)];obtain⟨x,hx,hv⟩:=hy.get hi;refine⟨?_,x,?_,hv⟩
 have:=ku hi;simp only[dn,fY] at hs;exact hs u this;rw[<-hx];congr 1;omega;rw[iN c] at hi;rw[iN (by omega)];exact hc i u hi
def bP.ones{vs:List ae}(hy:bP G vs ys)(hs:dn vs=true): ∀y∈ys,y.oneCell'=true:=by
 induction vs generalizing ys with
 |nil=>cases hy;simp
 |cons v vs ih=>
  cases hy with
  |cons p q=>
   simp only[dn,ma,bA] at hs;intro y hm;simp at hm;rcases hm with rfl|hm
   exact p.one hs.1;exact ih q hs.2 y hm
def WR.putFree(x:WR G h w){C':Array Value}(hb:w.heap[b]? =some (.cells C e (0,0)))(hs:C'.size=C.size)(ho: ¬d7 G h b)(hr: ∀o,G.ro b o=none):WR G h (dx w b (.cells C' e (0,0))):=by
 have hlt:=fQ hb;have hblk: ∀c,(dx w b (.cells C' e (0,0))).heap[c]? =if c=b then some (.cells C' e (0,0)) else w.heap[c]? :=fun c=>jb w b c _ hlt
 refine⟨?_,x.sep,?_,x.apart,?_,fun n a ha=>by simp;exact x.below n a ha⟩;intro n o hn;obtain⟨a,ha,hsp,hr⟩:=x.obj n o hn;refine⟨a,ha,hsp,hr.of_block ?_⟩;rw[hblk,iN];intro e';exact ho ⟨n,a,by rw[hn];simp,ha,e'⟩;intro c o v hv;by_cases e':c=b;subst e';rw[hr] at hv;cases hv;obtain⟨h1,y,hy,h2⟩:=x.ro c o v hv;exact⟨h1,y,by rw[<-hy];simp[World.cell?,hblk,e'],h2⟩;intro c d hd;obtain⟨D,t,hc,hsz⟩:=x.dim c d hd;rw[hblk];by_cases e':c=b;subst e';rw[hb] at hc;simp only[aP,Obj.cells.injEq] at hc;obtain⟨rfl,rfl,_⟩:=hc;exact⟨C',e,iP rfl,by omega⟩;rw[iN e'];exact⟨D,t,hc,hsz⟩
def alb{z:Operand}(ho:o.op= .store t x z)(wr:WR G s.heap w)(fx:cy G s.heap B fr a.tmps w)(he:Ab P mk t x z fr s=some (v,loc',s')):fE P G s.heap w B fr.loc lo hi a o v loc' s'.heap:=by
 simp only[Ab,az] at he;obtain⟨u,hu,nv,hnv,r,hr,he⟩:=he;simp only[aP,bj] at he;obtain⟨rfl,rfl,rfl⟩:=he;have hl:=fx.ev hu;obtain⟨hv,ht⟩:=fx.evc hnv;have hcs:=hv.cells;have hsc:=hv.scals_cells ht;simp only[nL,az] at hr;obtain⟨n,hn,hr⟩:=hr;replace hr:=bm hr;obtain⟨hcond,hr⟩:=hr;simp only[bA] at hcond;have hlen:=eU hcond.1;have hpos:=oQ hcond.2;have hne:nv.cells≠ []:=by intro e;rw[e] at hlen;simp at hlen;omega
 have hsize:(a.eval z).cells.size=n:=by
  have:=hcs.length;rw[hlen] at this;simpa using this.symm
 have hrun: ∀(b off:Nat) (C:Array Value) (e:TypeId),w.heap[b]? =some (.cells C e (0,0))->off+(a.eval z).cells.toList.length<=C.size->a.eval x= .pointer (some ⟨b,off,none⟩)->
  (execOp a.eval o).run P w= .ok .skip (dx w b (.cells (jp C off (a.eval z).cells.toList) e (0,0))):=by
  intro b off C e hb hle hx;have h1:=Hd (P:=P) b off e (a.eval z).cells.toList 0 w C hb (by omega) (hcs.ones hsc);simp only[qE] at h1;simp[execOp,ho,hx,Instr.storeAt,Instr.sureAddr,storeVar,gJ hn,hsize,h1]
 split at hr;rename_i l g off;simp only[az] at hr;obtain⟨cs,hcs',cs',hw,hr⟩:=hr;simp only[aP] at hr;obtain⟨rfl,rfl⟩:=hr;have hg:=Si hcs';obtain⟨h1,_,h2⟩:=hl;replace h2:=h2 hg;subst hg;obtain⟨C,e,hb,hc⟩:=fx.locs.cells l cs hcs';obtain⟨hle,hrows⟩:=Cv (base:=0) hw hcs hsc hne (fun i u hi=>by simpa using hc i u hi);simp only[gl] at hle hrows;have hfree:=fx.locs.free l cs hcs';have hro:=fx.locs.ro l cs hcs';have hlt:=fQ hb;have hblk: ∀c,(dx w (B l) (.cells (jp C off (a.eval z).cells.toList) e (0,0))).heap[c]? =if c=B l then some (.cells (jp C off (a.eval z).cells.toList) e (0,0)) else w.heap[c]? :=fun c=>jb w _ c _ hlt
 have hgens: ∀q,(fr.loc.set l (fr.loc.gen l) cs').gen q=fr.loc.gen q:=fun q=>by
  rw[Loc.gen_set];by_cases e':q=l;rw[iP e',e'];rw[iN e']
 have hgets: ∀q ds,(fr.loc.set l (fr.loc.gen l) cs').get q ((fr.loc.set l (fr.loc.gen l) cs').gen q)=some ds->
  (q=l/\ds=cs')\/(q≠l/\fr.loc.get q (fr.loc.gen q)=some ds):=fun q ds hq=>by
  rw[hgens,Loc.get_set] at hq;by_cases e':q=l;subst e';rw[iP rfl,iP rfl] at hq;injection hq with hq
  exact .inl ⟨rfl,hq.symm⟩;rw[iN e'] at hq;exact .inr ⟨e',hq⟩
 have hpres: ∀q ds,(fr.loc.set l (fr.loc.gen l) cs').get q ((fr.loc.set l (fr.loc.gen l) cs').gen q)=some ds-> ∃ds',fr.loc.get q (fr.loc.gen q)=some ds':=fun q ds hq=>by
  rcases hgets q ds hq with⟨rfl,_⟩|⟨_,hq⟩
  exact⟨cs,hcs'⟩;exact⟨ds,hq⟩
 refine⟨_,undef,_,G,B,hrun (B l) off C e hb hle h2,.inr ⟨rfl,rfl⟩,wr.putFree hb (by simp) hfree hro,
  ⟨.refl G,by simp,?_,fun _ _ h=>h,fun n a h h'=>(by rw[h] at h';cases h'),fun b o v _ h h'=>(by rw[h] at h';cases h'),Cr w hb rfl rfl⟩,⟨?_,?_,?_,?_⟩,LV.of_VR (.tup .nil),?_,?_⟩
 intro b _ _ hnl;rw[hblk,iN];intro e';exact hnl ⟨l,cs,hcs',e'.symm⟩;intro q ds hq;rcases hgets q ds hq with⟨rfl,rfl⟩|⟨hne',hq⟩
 exact⟨_,e,by rw[hblk,iP rfl],hrows⟩;obtain⟨C',e',hb',hc'⟩:=fx.locs.cells q ds hq;refine⟨C',e',?_,hc'⟩;rw[hblk,iN];·exact hb'
 intro e'';exact hne' (fx.locs.inj q l ds cs hq hcs' e'');intro q ds hq;obtain⟨ds',hq'⟩:=hpres q ds hq;exact fx.locs.free q ds' hq';intro q ds hq;obtain⟨ds',hq'⟩:=hpres q ds hq;exact fx.locs.ro q ds' hq';intro q q' ds ds' hq hq' hB;obtain⟨d1,h1⟩:=hpres q ds hq;obtain⟨d2,h2⟩:=hpres q' ds' hq';exact fx.locs.inj q q' d1 d2 h1 h2 hB;intro u y hu;cases u with
 |Ge q g off=>show _<=_/\_;rw[hgens];exact hu
 |_=>exact hu
 rintro b ⟨q,ds,hq,rfl⟩;obtain⟨ds',hq'⟩:=hpres q ds hq;exact .inl ⟨q,ds',hq',rfl⟩;rename_i m off;simp only[az] at hr;obtain⟨ob,hob,hr⟩:=hr;split at hr;rename_i cs;simp only[az] at hr;obtain⟨cs',hw,hr⟩:=hr;simp only[aP] at hr;obtain⟨rfl,rfl⟩:=hr;have hl:VR G _ _:=hl;generalize hx:a.eval x=y at hl;cases hl;rename_i ad had;obtain⟨ad',had',hsp,C,e,hb,hdm,hc⟩:=wr.obj m _ (iZ hob);rw[had] at had';injection had' with had';subst had'
 obtain⟨hle,hrows⟩:=Cv (base:=ad.off) hw hcs hsc hne hc;obtain⟨h1,h2⟩:=wr.changed (o':=.cells cs') (ob:=.cells (jp C (ad.off+off) (a.eval z).cells.toList) e (0,0)) (iZ hob) had
  ⟨_,e,by rw[jb _ _ _ _ (fQ hb),iP rfl],by rw[hdm];simp,hrows⟩
  (fun i v hv=>by have:=(wr.apart m _ ad i v (iZ hob) had hv).1;cases this)
  (fun d hd=>by
   obtain⟨D,t',hD,hsz⟩:=wr.dim _ d hd;rw[hb] at hD;simp only[aP,Obj.cells.injEq] at hD;obtain⟨rfl,rfl,_⟩:=hD;exact⟨_,e,rfl,by simpa using hsz⟩)
 exact .heap fx (hrun ad.block (ad.off+off) C e hb hle hx) (.inr ⟨rfl,rfl⟩) h1 (h2 _ _) (LV.of_VR (.tup .nil));cases hr;cases hr
end
section
variable{P:Program}{G:Gh}
def wP{vs:List Value}(h:ey P t cs off=some v)(hv:bP G cs vs)(hs:dn cs=true):
 ∃y,(∀w:World,(part t ⟨vs⟩ off).run P w= .ok y w)/\VR G v y/\ ∀l,v≠ .tup l:=by
 simp only[ey,az] at h;obtain⟨g,hg,h⟩:=h;replace h:=gh h;rcases h with⟨g1,h⟩|⟨g1,h⟩<;>subst g1
 simp only[az] at h;obtain⟨n,hn,r,hr,h⟩:=h;injection h with h;subst h
 obtain⟨h1,h2⟩:=zj hr;refine⟨.agg ⟨(vs.drop off).take n⟩,fun w=>?_,.agg ?_ ?_,by simp⟩;have:(⟨vs⟩:Array Value).extract off (off+n)=⟨(vs.drop off).take n⟩:=by
  apply nf;simp[List.extract]
 simp only[part,Sem.run_bind,Hc hg,iU,if_true,gJ hn,Sem.run_pure,this];rw[h1];simp only[dn,fY] at hs ⊢;exact fun x hx=>hs x (xa (ug hx));rw[h1];exact(hv.drop off).take n;split at h;rename_i u rest hd;injection h with h;subst h
 have hi:cs[off]? =some u:=by
  have:(cs.drop off)[0]? =some u:=by rw[hd];rfl
  simpa[vF] using this
 obtain⟨y,hy,hr⟩:=hv.get hi;refine⟨y,fun w=>?_,hr,fun l e=>?_⟩;simp[part,Hc hg,hy];subst e;simp only[dn,fY] at hs
 have:=hs _ (ku hi);simp[ae.scal] at this;cases h
def UF{rec:TypeId->ae->ae->Option Bool}{d:Nat}{e:TypeId}{n:Nat}{xs ys:List ae}{xv yv:List Value}(hx:bP G xs xv)(hy:bP G ys yv)(sx:dn xs=true)(sy:dn ys=true)(hrec: ∀ {x y:ae} {X Y:Value} {r:Bool},rec e x y=some r->VR G x X->VR G y Y-> ∀w:World,(xh d e X Y).run P w= .ok r w)(w:World):
 ∀(k i:Nat) {r:Bool},Bn P rec e n xs ys k i=some r->
  ((forIn (m:=Sem) (List.range' i k) ((none,()):Option Bool×Unit) fun i _=>do
   let a<-part e ⟨xv⟩ (i*n)
   let b<-part e ⟨yv⟩ (i*n)
   let q<-xh d e a b
   if(!q)=true then pure (ForInStep.done (some false,())) else pure (ForInStep.yield (none,()))).run P w)= .ok (bif r then none else some false,()) w
 |0,i,r,h=>by simp[Bn] at h;subst h;simp
 |k+1,i,r,h=>by
  simp only[Bn,az] at h;obtain⟨x,hx1,y,hy1,q,hq,h⟩:=h;obtain⟨X,hX,vX,_⟩:=wP hx1 hx sx;obtain⟨Y,hY,vY,_⟩:=wP hy1 hy sy;have hrun:=hrec hq vX vY;rw[xb,List.forIn_cons];simp only[Sem.run_bind,hX,hY,hrun,iU];cases q;simp at h;subst h;simp;simp at h;simpa using UF hx hy sx sy hrec w k (i+1) h
def L8{rec:TypeId->ae->ae->Option Bool}{d:Nat}{xs ys:List ae}{xv yv:List Value}(hx:bP G xs xv)(hy:bP G ys yv)(sx:dn xs=true)(sy:dn ys=true)(hrec: ∀ {e:TypeId} {x y:ae} {X Y:Value} {r:Bool},rec e x y=some r->VR G x X->VR G y Y-> ∀w:World,(xh d e X Y).run P w= .ok r w)(w:World):
 ∀(fs:List Field) {r:Bool},zp P rec xs ys fs=some r->(Op.eqFields d ⟨xv⟩ ⟨yv⟩ fs).run P w= .ok r w
 | [],r,h=>by simp[zp] at h;subst h;simp[Op.eqFields]
 |f::fs,r,h=>by
  simp only[zp] at h;replace h:=gh h;rcases h with⟨hn,h⟩|⟨hn,h⟩
  have hn:f.name= "_" :=by simpa using hn
  simp only[Op.eqFields,hn];simpa using L8 hx hy sx sy hrec w fs h;have hn:f.name≠ "_" :=by simpa using hn
  simp only[az] at h;obtain⟨x,hx1,y,hy1,q,hq,h⟩:=h;obtain⟨X,hX,vX,_⟩:=wP hx1 hx sx;obtain⟨Y,hY,vY,_⟩:=wP hy1 hy sy;have hrun:=hrec hq vX vY;simp only[Op.eqFields,iP hn,Sem.run_bind,hX,hY,hrun,iU];cases q;simp at h;subst h;simp;simp at h;simpa using L8 hx hy sx sy hrec w fs h
def OZ{fs:Array Field}(h:P.underlying t=some (.struct fs)):P.fieldsOf t=fs:=by simp[Program.fieldsOf,h]
def G9: ∀(d:Nat) {t:TypeId} {x y:ae} {X Y:Value} {r:Bool},lL P d t x y=some r->VR G x X->VR G y Y->
 ∀(D:Nat),d<=D-> ∀w:World,(xh D t X Y).run P w= .ok r w
 |0,_,_,_,_,_,_,h,_,_=>by simp[lL] at h
 |d+1,t,x,y,X,Y,r,h,hx,hy=>by
  intro D hD w;obtain⟨D,rfl⟩: ∃E,D=E+1:=⟨D-1,by omega⟩;simp only[lL,az] at h;obtain⟨desc,ht,h⟩:=h;have hu:=cW (w:=w) ht;split at h;cases hx;cases hy;injection h with h;subst h;simp[xh,hu]
  cases hx;cases hy;replace h:=bm h;obtain⟨hk,h⟩:=h;injection h with h;subst h
  have hk:=of_decide_eq_true (by simpa using hk);subst hk;simp[xh,hu,aK];cases hx;cases hy;injection h with h;subst h
  rename_i a b
  have:=run_equalIn_string (P:=P) w D t ⟨⟨a⟩⟩ ⟨⟨b⟩⟩ ht;rw[this];have e1: ∀l:List UInt8,(ByteArray.mk ⟨l⟩).toList=l:=fun l=>ByteArray.toList_mk l;rw[e1,e1]
  ·rename_i fs xs ys
   cases hx with|agg sx hx=>cases hy with|agg sy hy=>
   replace h:=gh h;rcases h with⟨_,h⟩|⟨hp,h⟩
   cases h;rw[run_equalIn_struct w D t _ _ (by rw[OZ ht];exact ht) hp,OZ ht];exact L8 hx hy sx sy (fun {e x y X Y r} hr vx vy w=>G9 d hr vx vy D (by omega) w) w _ h
  ·rename_i len e xs ys
   cases hx with|agg sx hx=>cases hy with|agg sy hy=>
   simp only[az] at h;obtain⟨n,hn,h⟩:=h
   have:=UF hx hy sx sy (d:=D) (fun {x y X Y r} hr vx vy w=>G9 d hr vx vy D (by omega) w) w len 0 h;simp only[xh,Sem.run_bind,hu,iU,gJ hn];rw[Std.Legacy.Range.forIn_eq_forIn_range'];simp only[Std.Legacy.Range.size,Nat.sub_zero,Nat.add_sub_cancel,Nat.div_one];rw[this];cases r<;>simp
  all_goals first
   |(cases hx;cases hy;injection h with h;subst h;simp[xh,hu];done)
   |(cases h)
end
variable{op:BinOp}{Y:Value}{y:ae}
section
variable{P:Program}{G:Gh}
def am8{k:IntKind}{a b:Int}(h:JX op k a b=some v)(t:TypeId)(w:World)(h1:op≠ .shl)(h2:op≠ .shr):
 ∃y,(binOp op t (.int k a) (.int k b)).run P w= .ok y w/\VR G v y:=by
 cases op<;>simp only[JX,aP,reduceCtorEq] at h<;>first
  |(subst h;exact⟨_,by simp[binOp];rfl,by constructor⟩)
  |(replace h:=gh h
    rcases h with⟨_,h⟩|⟨h0,h⟩
    cases h;injection h with h;subst h
    have h0:b≠0:=by simpa[aK] using h0
    exact⟨_,by simp[binOp,Op.intDiv,h0];rfl,by constructor⟩)
  |exact absurd rfl h1
  |exact absurd rfl h2
def R1(a b:List UInt8):leBytes a b=(c8 a b||a==b):=rfl
def anb{a b:List UInt8}(h:Mq op a b=some v)(t:TypeId)(w:World):
 ∃y,(binOp op t (.string ⟨⟨a⟩⟩) (.string ⟨⟨b⟩⟩)).run P w= .ok y w/\VR G v y:=by
 have e1: ∀l:List UInt8,(ByteArray.mk ⟨l⟩).toList=l:=fun l=>ByteArray.toList_mk l;cases op<;>simp only[Mq,aP,reduceCtorEq] at h<;>first
  |(subst h;exact⟨_,by simp[binOp,Op.stringOp,e1];rfl,by constructor⟩)
  |(subst h;exact⟨_,by simp[binOp,Op.stringOp,e1,<-R1];rfl,by constructor⟩)
  |(replace h:=bm h
    obtain⟨h0,h⟩:=h;injection h with h;subst h
    have h0:=ju h0;refine⟨.string ⟨⟨a++b⟩⟩,?_,.str _⟩
    have:=run_string_add_sum (P:=P) w ⟨⟨a⟩⟩ ⟨⟨b⟩⟩ (by show a.length+b.length<=_;omega);rw[show(ByteArray.mk ⟨a⟩++ByteArray.mk ⟨b⟩)=ByteArray.mk ⟨a++b⟩ from ByteArray.mk_append_mk a b] at this;simpa[binOp] using this)
set_option maxHeartbeats 1000000 in
def UE{x:ae}{X:Value}{r:Bool}(h:rX P t x y=some r)(hx:VR G x X)(hy:VR G y Y)(ox oy:Operand)(op:BinOp)(w:World):
 (eqGuard op t ox oy X Y).run P w= .ok () w/\ ∀w:World,(Op.equal t X Y).run P w= .ok r w:=by
 have h8: ∀ {x y},lL P 8 t x y=some r->VR G x X->VR G y Y-> ∀w:World,(Op.equal t X Y).run P w= .ok r w:=fun h hx hy w=>G9 8 h hx hy 10000 (by omega) w;unfold rX at h;split at h;replace h:=gh h;rcases h with⟨_,h⟩|⟨hg,h⟩
 cases h;refine⟨?_,h8 h hx hy⟩;cases hx;cases hy;exact run_eqGuard_agg w op t ox oy _ _ hg;refine⟨?_,h8 h hx hy⟩;rename_i hne;simp only[lL,az] at h;obtain⟨desc,ht,h⟩:=h;cases hx<;>cases hy<;>first
  |(exact absurd rfl (hne _ _ rfl))
  |(simp at h;done)
  |(cases op<;>simp[eqGuard])
def am5{x:ae}{X:Value}(h:d8 P op t x y=some v)(hx:VR G x X)(hy:VR G y Y)(ox oy:Operand)(w:World):
 ∃z,((do eqGuard op t ox oy X Y;binOp op t X Y):Sem Value).run P w= .ok z w/\VR G v z:=by
 unfold d8 at h;split at h;rename_i k a k' b;cases hx;cases hy;have hg: ∀w:World,(eqGuard op t ox oy (.int k a) (.int k' b)).run P w= .ok () w:=fun w=>by cases op<;>simp[eqGuard]
 simp only[Sem.run_bind,hg,iU];split at h;replace h:=gh h;rcases h with⟨_,h⟩|⟨h0,h⟩
 cases h;injection h with h;subst h
 have h0: ¬b<0:=by simpa[bG] using h0
 exact⟨_,by simp[binOp,Op.shift,h0];rfl,by constructor⟩;replace h:=gh h;rcases h with⟨_,h⟩|⟨h0,h⟩
 cases h;injection h with h;subst h
 have h0: ¬b<0:=by simpa[bG] using h0
 exact⟨_,by simp[binOp,Op.shift,h0];rfl,by constructor⟩;rename_i h1 h2;replace h:=bm h;obtain⟨hk,h⟩:=h;have hk:k=k':=by simpa using hk
 subst hk;exact am8 h t w h1 h2;cases hx;cases hy;have hg: ∀(a b:ByteArray) (w:World),(eqGuard op t ox oy (.string a) (.string b)).run P w= .ok () w:=fun a b w=>by cases op<;>simp[eqGuard]
 simp only[Sem.run_bind,hg,iU];exact anb h t w;rename_i hni hns;split at h;simp only[az] at h;obtain⟨b,hb,h⟩:=h;injection h with h;subst h
 obtain⟨hg,he⟩:=UE hb hx hy ox oy .eql w;refine⟨.bool b,?_,.bool b⟩;simp only[Sem.run_bind,hg,iU];cases hx<;>cases hy<;>first
  |(exact absurd rfl (hni _ _ _ _ rfl))
  |(exact absurd rfl (hns _ _ rfl))
  |(simp[binOp,he])
 simp only[az] at h;obtain⟨b,hb,h⟩:=h;injection h with h;subst h
 obtain⟨hg,he⟩:=UE hb hx hy ox oy .neq w;refine⟨.bool (!b),?_,.bool (!b)⟩;simp only[Sem.run_bind,hg,iU];cases hx<;>cases hy<;>first
  |(exact absurd rfl (hni _ _ _ _ rfl))
  |(exact absurd rfl (hns _ _ rfl))
  |(simp[binOp,he])
 cases h
end
variable{xs:List ae}{j:Nat}
def Pb(hsz: ∀x∈xs,x.cells.length=sz)(hj:j<xs.length)(hi:i<sz):
 (bB xs)[j*sz+i]? =(iA xs j).cells[i]? :=by
 induction xs generalizing j with
 |nil=>simp at hj
 |cons x xs ih=>
  have hx:=hsz x (by simp);cases j with
  |zero=>simp only[bB,iA,Nat.zero_mul,gl];rw[rA (by omega)]
  |succ j=>
   simp only[bB,iA];rw[sW (by rw[hx,uk];omega),hx];have:(j+1)*sz+i-sz=j*sz+i:=by rw[uk];omega
   rw[this];exact ih (fun y hy=>hsz y (by simp[hy])) (by simpa using hj)
def aj9(hj:j<xs.length):iA xs j∈xs:=by
 induction xs generalizing j with
 |nil=>simp at hj
 |cons x xs ih=>
  cases j with
  |zero=>simp[iA]
  |succ j=>simp only[iA];exact List.mem_cons_of_mem _ (ih (by simpa using hj))
def mw(hsz: ∀x∈xs,x.cells.length=sz):(bB xs).length=xs.length*sz:=by
 induction xs with
 |nil=>simp[bB]
 |cons x xs ih=>simp only[bB,dX,cP,hsz x (by simp),ih (fun y hy=>hsz y (by simp[hy])),uk];omega
variable{f:Nat}
section
variable{P:Program}{mk:aW}{G:Gh}{s s':St}{B:Nat->Nat}{fr:Fr}{a:Act}{w:World}{o:Oper}{lo hi:Nat}{v:ae}{loc':Loc}
def akM{yt:TypeId}{y:Operand}(ho:o.op= .binOp op t x y yt)(wr:WR G s.heap w)(fx:cy G s.heap B fr a.tmps w)(he:Gz P op t x y fr s=some (v,loc',s')):fE P G s.heap w B fr.loc lo hi a o v loc' s'.heap:=by
 simp only[Gz,az] at he;obtain⟨p,hp,q,hq,he⟩:=he;replace he:=kO he;obtain⟨he,rfl,rfl⟩:=he;obtain⟨z,hz,hv⟩:=am5 he (fx.evc hp).1 (fx.evc hq).1 x y w;refine .pure wr fx (y:=z) ?_ (LV.of_VR hv);simp only[execOp,ho];rw[Sem.run_bind,hz];rfl
def alc{op:UnOp}(ho:o.op= .unOp op t x)(wr:WR G s.heap w)(fx:cy G s.heap B fr a.tmps w)(he:mE x (AB op) fr s=some (v,loc',s')):fE P G s.heap w B fr.loc lo hi a o v loc' s'.heap:=by
 simp only[mE,az] at he;obtain⟨p,hp,he⟩:=he;replace he:=kO he;obtain⟨he,rfl,rfl⟩:=he;have hv:=(fx.evc hp).1;generalize hx:a.eval x=X at hv;unfold AB at he;split at he;injection he with he;subst he;cases hv
 exact .pure wr fx (by simp[execOp,ho,hx,Op.unary,Op.intArith]) (LV.of_VR (.int _ _));injection he with he;subst he;cases hv
 exact .pure wr fx (by simp[execOp,ho,hx,Op.unary]) (LV.of_VR (.bool _));cases he
def akR{src dst:TypeId}(ho:o.op= .convert src dst x)(wr:WR G s.heap w)(fx:cy G s.heap B fr a.tmps w)(he:mE x (Ds P src dst) fr s=some (v,loc',s')):fE P G s.heap w B fr.loc lo hi a o v loc' s'.heap:=by
 simp only[mE,az] at he;obtain⟨p,hp,he⟩:=he;replace he:=kO he;obtain⟨he,rfl,rfl⟩:=he;have hv:=(fx.evc hp).1;generalize hx:a.eval x=X at hv;simp only[Ds,az] at he;obtain⟨d1,h1,d2,h2,he⟩:=he;split at he;injection he with he;subst he;cases hv
 exact .pure wr fx (by simp[execOp,ho,hx,convert,cW h1,cW h2,Conv.intToInt]) (LV.of_VR (.int _ _));injection he with he;subst he;cases hv
 exact .pure wr fx (by simp[execOp,ho,hx,convert,cW h1,cW h2]) (LV.of_VR (.str _));cases he
def ak1{fn:Fn}{first captured:Array Operand}(ho:o.op= .makeFunc fn first captured)(wr:WR G s.heap w)(fx:cy G s.heap B fr a.tmps w)(he:si fr.env fn first captured=some v):fE P G s.heap w B fr.loc lo hi a o v fr.loc s.heap:=by
 unfold si at he;split at he;simp only[az] at he;obtain⟨p,hp,q,hq,he⟩:=he;injection he with he;subst he
 rename_i f;refine .pure wr fx (y:=.func (.func f) (first.map a.eval) (captured.map a.eval)) (by simp[execOp,ho,Instr.makeFunc]) (LV.of_VR ?_);have h1:=(fx.evcs hp).1;have h2:=(fx.evcs hq).1;have e1:first.map a.eval=⟨first.toList.map a.eval⟩:=by apply nf;simp
 have e2:captured.map a.eval=⟨captured.toList.map a.eval⟩:=by apply nf;simp
 rw[e1,e2];exact .func h1 h2;cases he
def akU(ho:o.op= .extract x i)(wr:WR G s.heap w)(fx:cy G s.heap B fr a.tmps w)(he:qu x (dU i) fr s=some (v,loc',s')):fE P G s.heap w B fr.loc lo hi a o v loc' s'.heap:=by
 simp only[qu,az] at he;obtain⟨p,hp,he⟩:=he;replace he:=kO he;obtain⟨he,rfl,rfl⟩:=he;have hl:=fx.ev hp;unfold dU at he;split at he;have hl:VR G _ _:=hl;generalize hx:a.eval x=X at hl;cases hl with
 |tup hs=>
  obtain⟨y,hy,hv⟩:=hs.get he;exact .pure wr fx (y:=y) (by simp[execOp,ho,hx,Instr.extract,hy]) (LV.of_VR hv)
 cases he
def akW(ho:o.op= .fieldAddr t x f)(wr:WR G s.heap w)(fx:cy G s.heap B fr a.tmps w)(he:qu x (fun x=>eY P fr.loc t x f) fr s=some (v,loc',s')):fE P G s.heap w B fr.loc lo hi a o v loc' s'.heap:=by
 simp only[qu,az] at he;obtain⟨p,hp,he⟩:=he;replace he:=kO he;obtain⟨he,rfl,rfl⟩:=he;have hl:=fx.ev hp;simp only[eY,az] at he;obtain⟨d,hd,he⟩:=he;split at he;rename_i fields;simp only[az] at he;obtain⟨fd,hfd,n,hn,he⟩:=he;replace he:=gh he;rcases he with⟨_,he⟩|⟨h0,he⟩
 cases he;have h0:=zb h0;have hrun: ∀b off,a.eval x= .pointer (some ⟨b,off,none⟩)->(execOp a.eval o).run P w= .ok (.value (.pointer (some ⟨b,off+fd.offset,none⟩))) w:=by
  intro b off hx;simp[execOp,ho,hx,Instr.fieldAt,cW hd,hfd,Instr.sureAddr,fieldPlace,gJ hn,h0,nW]
 split at he;rename_i l g off;replace he:=bm he;obtain⟨hg,he⟩:=he;have hg:=(eU hg).symm;injection he with he;subst he
 obtain⟨h1,_,h2⟩:=hl;exact .pure wr fx (hrun _ _ (h2 hg)) ⟨h1,⟨_,rfl⟩,fun _=>rfl⟩;injection he with he;subst he
 have hl:VR G _ _:=hl;generalize hx:a.eval x=X at hl;cases hl with
 |ptr hn=>exact .pure wr fx (hrun _ _ hx) (LV.of_VR (by rw[qD];exact .ptr hn))
 injection he with he;subst he
 have hl:VR G _ _:=hl;generalize hx:a.eval x=X at hl;cases hl with
 |ro hro=>exact .pure wr fx (hrun _ _ hx) (LV.of_VR (.ro fun i y hy=>by rw[qD];exact hro _ _ (by rwa [vF] at hy)))
 cases he;cases he
def akV(ho:o.op= .field t x f)(wr:WR G s.heap w)(fx:cy G s.heap B fr a.tmps w)(he:mE x (fun x=>Dx P t x f) fr s=some (v,loc',s')):fE P G s.heap w B fr.loc lo hi a o v loc' s'.heap:=by
 simp only[mE,az] at he;obtain⟨p,hp,he⟩:=he;replace he:=kO he;obtain⟨he,rfl,rfl⟩:=he;have hv:=(fx.evc hp).1;simp only[Dx,az] at he;obtain⟨d,hd,he⟩:=he;split at he;simp only[az] at he;obtain⟨fd,hfd,he⟩:=he;split at he;generalize hx:a.eval x=X at hv;cases hv with
 |agg hs hvs=>
  obtain⟨y,hy,hr,_⟩:=wP he hvs hs;exact .pure wr fx (y:=y) (by simp[execOp,ho,hx,Instr.field,cW hd,hfd,asAgg,hy]) (LV.of_VR hr)
 cases he;cases he
def zY{i:ae}(h:eK i=some n): ∃k,i= .int k (.ofNat n):=by
 unfold eK at h;split at h;injection h with h;subst h;exact⟨_,rfl⟩
 cases h
def akY{i:Operand}(ho:o.op= .indexAddr t x i)(wr:WR G s.heap w)(fx:cy G s.heap B fr a.tmps w)(he:z8 P t x i fr s=some (v,loc',s')):fE P G s.heap w B fr.loc lo hi a o v loc' s'.heap:=by
 simp only[z8,az] at he;obtain⟨p,hp,q,hq,he⟩:=he;replace he:=kO he;obtain⟨he,rfl,rfl⟩:=he;have hl:=fx.ev hp;have hi:=fx.ev hq;simp only[hJ,az] at he;obtain⟨j,hj,d,hd,he⟩:=he;obtain⟨k,rfl⟩:=zY hj;have hi:VR G (.int k (.ofNat j)) (a.eval i):=hi;generalize hI:a.eval i=I at hi;cases hi;split at he;rename_i len e;simp only[az] at he;obtain⟨n,hn,he⟩:=he;replace he:=bm he;obtain⟨hlt,he⟩:=he;have hlt:=oQ hlt;have hrun: ∀b off,a.eval x= .pointer (some ⟨b,off,none⟩)->(execOp a.eval o).run P w= .ok (.value (.pointer (some ⟨b,off+j*n,none⟩))) w:=by
  intro b off hx;simp[execOp,ho,hx,hI,Instr.indexAt,asIntOf,cW hd,Instr.sureAddr,gJ hn,hlt,nW]
 split at he;rename_i l g off;replace he:=bm he;obtain⟨hg,he⟩:=he;have hg:=(eU hg).symm;injection he with he;subst he
 obtain⟨h1,_,h2⟩:=hl;exact .pure wr fx (hrun _ _ (h2 hg)) ⟨h1,⟨_,rfl⟩,fun _=>rfl⟩;injection he with he;subst he
 have hl:VR G _ _:=hl;generalize hx:a.eval x=X at hl;cases hl with
 |ptr hn=>exact .pure wr fx (hrun _ _ hx) (LV.of_VR (by rw[qD];exact .ptr hn))
 injection he with he;subst he
 have hl:VR G _ _:=hl;generalize hx:a.eval x=X at hl;cases hl with
 |ro hro=>exact .pure wr fx (hrun _ _ hx) (LV.of_VR (.ro fun i y hy=>by rw[qD];exact hro _ _ (by rwa [vF] at hy)))
 cases he;rename_i e;simp only[az] at he;obtain⟨n,hn,he⟩:=he;split at he;rename_i sz xs r;replace he:=bm he;obtain⟨hc,he⟩:=he;simp only[bA] at hc;obtain rfl:=eU hc.1;have hlt:=oQ hc.2;injection he with he;subst he
 have hl:VR G _ _:=hl;generalize hx:a.eval x=X at hl;cases hl with
 |list hsp hpos hsz hcap hro hr=>
  rename_i ad cap;obtain⟨b,off,sp⟩:=ad;have hsp:sp=none:=by
   rcases hsp with h|h
   omega;exact h
  subst hsp;refine .pure wr fx (y:=.pointer (some ⟨b,off+j*sz,none⟩)) ?_ (LV.of_VR (.ro ?_));simp[execOp,ho,hx,hI,Instr.indexAt,asIntOf,cW hd,gJ hn,hlt,nW];intro i y hy;rw[qD];refine hro _ _ ?_;have hi:i<sz:=by
   have:=hsz _ (aj9 hlt);rcases ix i (iA xs j).cells.length with h|h
   omega;simp[jE h] at hy
  rw[Pb hsz hlt hi];exact hy
 rename_i sz m off len lcap;replace he:=bm he;obtain⟨hc,he⟩:=he;simp only[bA] at hc;obtain rfl:=eU hc.1;have hlt:=oQ hc.2;injection he with he;subst he
 have hl:VR G _ _:=hl;generalize hx:a.eval x=X at hl;cases hl with
 |arr hat hsp hpos hlen hcap hadr hdim hd'=>
  rename_i ad bd cap dm;obtain⟨b,o',sp⟩:=ad;simp only at hsp;subst hsp;rcases hadr with h0|⟨rfl,rfl⟩
  omega;refine .pure wr fx (y:=.pointer (some ⟨bd.block,bd.off+off+j*sz,none⟩)) ?_ (LV.of_VR ?_);simp[execOp,ho,hx,hI,Instr.indexAt,asIntOf,cW hd,gJ hn,hlt,nW];rw[qD];exact .ptr hat
 cases he;cases he
def akX{i:Operand}(ho:o.op= .index t x i)(wr:WR G s.heap w)(fx:cy G s.heap B fr a.tmps w)(he:GC P t x i fr s=some (v,loc',s')):fE P G s.heap w B fr.loc lo hi a o v loc' s'.heap:=by
 simp only[GC,az] at he;obtain⟨p,hp,q,hq,he⟩:=he;replace he:=kO he;obtain⟨he,rfl,rfl⟩:=he;have hl:=(fx.evc hp).1;have hi:=fx.ev hq;simp only[tz,az] at he;obtain⟨j,hj,d,hd,he⟩:=he;obtain⟨k,rfl⟩:=zY hj;have hi:VR G (.int k (.ofNat j)) (a.eval i):=hi;generalize hI:a.eval i=I at hi;cases hi;generalize hx:a.eval x=X at hl;split at he;rename_i len e;simp only[az] at he;obtain⟨n,hn,he⟩:=he;replace he:=bm he;obtain⟨hlt,he⟩:=he;have hlt:=oQ hlt;split at he;cases hl with
 |agg hs hvs=>
  obtain⟨y,hy,hr,_⟩:=wP he hvs hs;exact .pure wr fx (y:=y) (by simp[execOp,ho,hx,hI,Instr.index,asIntOf,cW hd,gJ hn,hlt,hy]) (LV.of_VR hr)
 cases he;split at he;rename_i bs;split at he;rename_i b rest hb;injection he with he;subst he
 cases hl;have hg:bs[j]? =some b:=by
  have:(bs.drop j)[0]? =some b:=by rw[hb];rfl
  simpa[vF] using this
 refine .pure wr fx (y:=.int .u8 b.toNat) ?_ (LV.of_VR (.int _ _));have hg':(ByteArray.mk ⟨bs⟩)[j]? =some b:=by
  have hlt:j<bs.length:=by
   rcases ix j bs.length with h|h
   exact h;simp[jE h] at hg
  rw[gL hlt] at hg;rw[getElem?_pos (ByteArray.mk ⟨bs⟩) j (by exact hlt)];exact hg
 simp[execOp,ho,hx,hI,Instr.index,asIntOf,cW hd,hg'];cases he;cases he;cases he
end
section
variable{P:Program}{G:Gh}{h:aZ bf}{B:Nat->Nat}{fr:Fr}{a:Act}{w:World}
def ap6{new:List ae}{vs:List Value}(hw:bu cs off new=some cs')(hv:bP G cs vs)(hy:bP G new ys):
 off+ys.length<=vs.length/\bP G cs' (vs.take off++(ys++vs.drop (off+ys.length))):=by
 simp only[bu] at hw;obtain⟨h1,h2⟩:=bm hw;have h1:=ju h1;injection h2 with h2;subst h2
 have:=hv.length
 have:=hy.length;refine⟨by omega,?_⟩;rw[<-hy.length];exact(hv.take off).append (hy.append (hv.drop _))
def UO{a b:List ae}:dn (a++b)=(dn a&&dn b):=by simp[dn]
def ap7{new:List ae}(hw:bu cs off new=some cs')(hv:dn cs=true)(hy:dn new=true):dn cs'=true:=by
 simp only[bu] at hw;obtain⟨h1,h2⟩:=bm hw;injection h2 with h2;subst h2
 simp only[dn,fY,iE] at hv hy ⊢;rintro x (hx|hx|hx);exact hv x (ug hx);exact hy x hx;exact hv x (xa hx)
def ab0(cells:List Value)(off:Nat): ∀(ys:List Value) (k:Nat),off+k+ys.length<=cells.length-> ∀(C:Array Value),C.toList=cells->
 ((ys.zipIdx k).foldl (fun cs (x:Value×Nat)=>cs.setIfInBounds (off+x.2) x.1) C).toList=cells.take (off+k)++(ys++cells.drop (off+k+ys.length)):=by
 intro ys
 induction ys generalizing cells with
 |nil=>intro k _ C hC;simp[hC]
 |cons y ys ih=>
  intro k hk C hC;simp only[cP] at hk;simp only[List.zipIdx_cons,List.foldl_cons];rw[ih (cells.set (off+k) y) (k+1) (by simp;omega) _ (by simp[hC])];have e1:off+(k+1)=off+k+1:=by omega
  rw[e1];simp only[cP];have e2:(cells.set (off+k) y).take (off+k+1)=cells.take (off+k)++[y]:=by
   rw[List.take_set];apply List.ext_getElem?;intro i;by_cases h1:i<off+k;rw[rA (by simp;omega),List.getElem?_set_ne (by omega),yO,yO,iP (by omega),iP h1];by_cases h2:i=off+k;subst h2;rw[sW (by simp;omega),List.getElem?_set_self (by simp;omega)];simp[AO (by omega:off+k<=cells.length)];rw[jE (by simp;omega),jE (by simp;omega)]
  have e3:(cells.set (off+k) y).drop (off+k+1+ys.length)=cells.drop (off+k+(ys.length+1)):=by
   rw[List.drop_set,iP (by omega)];congr 1;omega
  rw[e2,e3];simp
def Ha{place:Nat->Option (Nat×Nat)}(fx:cy G h B fr a.tmps w): ∀ {parts:List (Nat×Operand)} {cells cs:List ae} {C:Array Value},cS place fr.env cells parts=some cs->bP G cells C.toList->dn cells=true->
 ∃D:Array Value,Instr.fill place C (parts.map fun(x:Nat×Operand)=>(x.1,a.eval x.2))=some D/\bP G cs D.toList/\dn cs=true
 | [],_,_,C,hf,hv,hs=>by simp[cS] at hf;subst hf;exact⟨C,rfl,hv,hs⟩
 |(i,x)::rest,cells,cs,C,hf,hv,hs=>by
  simp only[cS,az] at hf;obtain⟨u,hu,⟨off,size⟩,hp,hf⟩:=hf;replace hf:=bm hf;obtain⟨hl,hf⟩:=hf;have hl:=eU hl;simp only[az] at hf;obtain⟨c1,hw,hf⟩:=hf;obtain⟨hx,ht⟩:=fx.evc hu;have hc:=hx.cells;obtain⟨hle,hv1⟩:=ap6 hw hv hc;have hs1:=ap7 hw hs (hx.scals_cells ht);have hlen:=hc.length;rw[hl] at hlen;simp only[wY] at hlen hle
  let C1:Array Value:=(a.eval x).cells.zipIdx.foldl (fun cs (x:Value×Nat)=>cs.setIfInBounds (off+x.2) x.1) C
  have hC1:C1.toList=C.toList.take off++((a.eval x).cells.toList++C.toList.drop (off+(a.eval x).cells.toList.length)):=by
   have:=ab0 C.toList off (a.eval x).cells.toList 0 (by simp;omega) C rfl;simp only[qE] at this;rw[<-this];simp only[C1];rw[<-Array.foldl_toList,Array.toList_zipIdx]
  rw[<-hC1] at hv1;obtain⟨D,hD,h2,h3⟩:=Ha fx (place:=place) (parts:=rest) hf hv1 hs1;refine⟨D,?_,h2,h3⟩;simp only[List.map_cons,Instr.fill,hp];rw[iN];exact hD;simp;omega
end
variable{parts:Array (Nat×Operand)}{E:EI}
section
variable{P:Program}{mk:aW}{G:Gh}{s s':St}{B:Nat->Nat}{fr:Fr}{a:Act}{w:World}{o:Oper}{lo hi:Nat}{v:ae}{loc':Loc}
def Sz(w:World): ∀ {fs:List Field} {pl:List (Nat×Nat)},Cn P fs=some pl->
 ((fs.mapM fun f=>do pure (f.offset,<-sizeOf f.type):Sem (List (Nat×Nat)))).run P w= .ok pl w
 | [],_,h=>by simp[Cn] at h;subst h;simp
 |f::fs,_,h=>by
  simp only[Cn,az] at h;obtain⟨n,hn,r,hr,h⟩:=h;injection h with h;subst h
  simp only[List.mapM_cons,Sem.run_bind,gJ hn,iU,Sem.run_pure,Sz w hr]
def akO(ho:o.op= .build t parts)(wr:WR G s.heap w)(fx:cy G s.heap B fr a.tmps w)(he:eV P t parts.toList fr.env=some v):fE P G s.heap w B fr.loc lo hi a o v fr.loc s.heap:=by
 simp only[eV,az] at he;obtain⟨z,hz,d,hd,he⟩:=he;obtain⟨i,zv,hi,hzv,hov⟩:=CP hz;obtain⟨hzr,hzt⟩:=vf G hov;split at he;rename_i fields;simp only[az] at he;obtain⟨pl,hpl,cs,hf,he⟩:=he;injection he with he;subst he
 obtain⟨D,hD,hv,hs⟩:=Ha fx hf hzr.cells (hzr.scals_cells hzt);refine .pure wr fx (y:=.agg D) ?_ (LV.of_VR (by simpa using VR.agg hs hv));have hm:=Sz (P:=P) w hpl;simp at hm;have hD':Instr.fill (fun x=>pl[x]?) zv.cells (parts.toList.map fun(x:Nat×Operand)=>(x.1,a.eval x.2))=some D:=hD;simp[execOp,ho,Instr.build,tR hi hzv,cW hd,Array.mapM_eq_mapM_toList,hm,hD'];rename_i len e;simp only[az] at he;obtain⟨n,hn,cs,hf,he⟩:=he;injection he with he;subst he
 obtain⟨D,hD,hv,hs⟩:=Ha fx hf hzr.cells (hzr.scals_cells hzt);refine .pure wr fx (y:=.agg D) ?_ (LV.of_VR (by simpa using VR.agg hs hv));simp[execOp,ho,Instr.build,tR hi hzv,cW hd,gJ hn,hD];cases he
def G6{z:List ae}{zs:List Value}(hz:bP G z zs): ∀n:Nat, ∃R:List Value,bP G (eW z n) R/\R.length=n*zs.length/\ ∀i:Nat,i<n*zs.length->R[i]? =zs[i % zs.length]?
 |0=>⟨[],.nil,by simp,by simp⟩
 |n+1=>by
  obtain⟨R,h1,h2,h3⟩:=G6 hz n;refine⟨zs++R,hz.append h1,by simp[h2,uk];omega,fun i hi=>?_⟩;by_cases h:i<zs.length;rw[rA h,Nat.mod_eq_of_lt h];rw[sW (by omega)];have:i-zs.length<n*zs.length:=by rw[uk] at hi;omega
  rw[h3 _ this,Nat.mod_eq_sub_mod (by omega:i≥zs.length)]
def G7{z:List ae}(hz:dn z=true): ∀n:Nat,dn (eW z n)=true
 |0=>rfl
 |n+1=>by simp[eW,UO,hz,G7 hz n]
def MQ{zs:Array Value}{R:List Value}(h1:R.length=n*zs.toList.length)(h2: ∀i:Nat,i<n*zs.toList.length->R[i]? =zs.toList[i % zs.toList.length]?):
 ((Array.range (n*zs.size)).map (fun i=>zs[i % zs.size]!))=⟨R⟩:=by
 apply nf;simp only[Array.toList_map,Array.toList_range];apply List.ext_getElem?;intro i;simp only[wY] at h1 h2;by_cases hi:i<n*zs.size;rw[h2 i hi];have hpos:0<zs.size:=by
  rcases xf zs.size with h|h
  rw[h] at hi;omega;exact h
 simp[hi,Nat.mod_lt i hpos];rw[jE (by simp;omega),jE (by omega)]
def ze{g:Bool}{sz:Nat}(hg:g=false->sz=1): ∀ {n:Nat} {cs xs:List ae},fW g sz n cs=some xs->dn cs=true->xs.length=n/\bB xs=cs/\ ∀x∈xs,x.cells.length=sz
 |0,[],_,h,_=>by simp[fW] at h;subst h;exact⟨rfl,rfl,by simp⟩
 |0,_::_,_,h,_=>by simp[fW] at h
 |n+1,cs,xs,h,hs=>by
  simp only[fW] at h;replace h:=gh h;rcases h with⟨g1,h⟩|⟨g1,h⟩
  simp only[az] at h;obtain⟨e,hc,r,hr,h⟩:=h;injection h with h;subst h
  obtain⟨h1,h2⟩:=zj hc;have hs':dn (cs.drop sz)=true:=by
   simp only[dn,fY] at hs ⊢;exact fun x hx=>hs x (xa hx)
  obtain⟨a1,a2,a3⟩:=ze hg hr hs';refine⟨by simp[a1],?_,?_⟩;simp only[bB,ae.cells,a2,h1,pF,oH];intro x hx;simp at hx;rcases hx with rfl|hx
  exact h2;exact a3 x hx;split at h;rename_i u rest;simp only[az] at h;obtain⟨r,hr,h⟩:=h;injection h with h;subst h
  simp only[dn,ma,bA] at hs;obtain⟨a1,a2,a3⟩:=ze hg hr hs.2;have hu:u.cells=[u]:=by cases u<;>first|rfl|(simp[ae.scal] at hs)
  refine⟨by simp[a1],by simp[bB,hu,a2],?_⟩;intro x hx;simp at hx;rcases hx with rfl|hx
  rw[hu,hg g1];rfl;exact a3 x hx;cases h
def Gh.fixed(G:Gh)(w:World)(cs:List ae):Gh:=G.more w.heap.size (fun i=>cs[i]?) (none)
def Gh.fixed_ro(G:Gh)(w:World)(cs:List ae)(i:Nat):(G.fixed w cs).ro w.heap.size i=cs[i]? :=by simp[Gh.fixed,Gh.more]
def WR.fixed(x:WR G h w)(e:TypeId)(hv:bP G cs C.toList)(hs:dn cs=true):
 WR (G.fixed w cs) h (w.alloc (.cells C e))/\ ∀lo hi,cM G h w (G.fixed w cs) h (w.alloc (.cells C e)) lo hi:=
 x.alloc (.cells C e) (fun i=>cs[i]?) none (fun i v hi=>by
  obtain⟨h1,y,hy,h2⟩:=hv.rows hs i v hi;exact⟨h1,C,e,rfl,y,hy,h2.mono (x.more_le _ _)⟩) (by simp)
def vW(h:xH P e=some E):dZ P e=some E.n/\IA P e=some E.b/\BE P e=some E.g/\0<E.n/\(E.g=false->E.n=1)/\
 ∃i zv,0<E.b/\P.info? e=some i/\i.zero=some zv/\ofValue zv=some E.z/\zv.cells.size=E.n/\i.bytes=E.b:=by
 simp only[xH,az] at h;obtain⟨n,hn,b,hb,g,hg,z,hz,h⟩:=h;replace h:=bm h;obtain⟨hc,h⟩:=h;injection h with h;subst h
 simp only[bA,sU] at hc;obtain⟨i,zv,hi,hzv,hov⟩:=CP hz;refine⟨hn,hb,hg,oQ hc.1.1.1,?_,i,zv,oQ hc.2,hi,hzv,hov,?_,?_⟩;intro hg';rcases hc.1.2 with h|h
 have hg':g=false:=hg';rw[hg'] at h;cases h;exact eU h
 have:=((vf ⟨fun _=>none,fun _ _=>none,fun _=>none⟩ hov).1.cells).length;rw[eU hc.1.1.2] at this;simpa using this.symm;simp only[IA,az] at hb;obtain⟨i',hi',hb⟩:=hb;rw[hi] at hi';injection hi' with hi';subst hi'
 injection hb
def CE(h:iI P t=some E): ∃e,P.underlying t=some (.slice e)/\xH P e=some E:=by
 simp only[iI,az] at h;obtain⟨d,hd,h⟩:=h;split at h;exact⟨_,hd,h⟩;cases h
def akP{len:Nat}(ho:o.op= .buildSlice t len parts)(wr:WR G s.heap w)(fx:cy G s.heap B fr a.tmps w)(he:gH (cx P t len parts.toList (aJ hh 2) fr.env s) fr.loc=some (v,loc',s'))(hfree: ∀n,s.al<=n->n<s'.al->G.at_ n=none):
 fE P G s.heap w B fr.loc s.al s'.al a o v loc' s'.heap:=by
 simp only[gH,az] at he;obtain⟨⟨v1,s1⟩,he,hq⟩:=he;simp only[aP,bj] at hq;obtain⟨rfl,rfl,rfl⟩:=hq;simp only[cx,az] at he;obtain⟨E,hE,he⟩:=he;obtain⟨e,hd,hE⟩:=CE hE;obtain⟨hn,_,hg,hpos,hg1,i,zv,_,hi,hzv,hov,hzs,_⟩:=vW hE;replace he:=bm he;obtain⟨hle,he⟩:=he;have hle:=ju hle;obtain⟨hzr,hzt⟩:=vf G hov;simp only[az] at he;obtain⟨cs,hf,he⟩:=he;obtain⟨R,hR,hRl,hRg⟩:=G6 hzr.cells len;obtain⟨D,hD,hv,hs⟩:=Ha (C:=⟨R⟩) fx hf hR (G7 (hzr.scals_cells hzt) len);have hrow:=MQ (zs:=zv.cells) hRl hRg;rw[hzs] at hrow;have hlen:D.size=len*E.n:=by
  have h1:=hv.length;have h2:cs.length=len*E.n:=by
   clear he hD hv hs;have hl:(eW E.z.cells len).length=len*E.n:=by rw[hR.length,hRl];simp[hzs]
   revert hf;generalize eW E.z.cells len=c0 at hl;generalize parts.toList=ps;intro hf
   induction ps generalizing c0 with
   |nil=>simp[cS] at hf;subst hf;exact hl
   |cons p ps ih=>
    obtain⟨k,x⟩:=p;simp only[cS,az] at hf;obtain⟨u,hu,⟨off,size⟩,hp,hf⟩:=hf;replace hf:=bm hf;obtain⟨_,hf⟩:=hf;simp only[az] at hf;obtain⟨c1,hw,hf⟩:=hf;exact ih c1 (by rw[(V8 hw).2.1];exact hl) hf
  simp at h1;omega
 have hrun:(execOp a.eval o).run P w= .ok (.value (.slice (some ⟨w.heap.size,0,none⟩) len len)) (w.alloc (.cells D e)):=by
  have h0: ¬len*E.n>2 ^ 24:=by omega
  by_cases hz:len*E.n=0;have hR0:R=[]:=by
   have:R.length=0:=by rw[hRl,wY,hzs];exact hz
   exact uc.1 this
  subst hR0;have hD':Instr.fill (fun i=>some (i*E.n,E.n)) #[] (parts.toList.map fun(x:Nat×Operand)=>(x.1,a.eval x.2))=some D:=hD;have hm0: ∀(f:Nat->Value),Array.map f (Array.range 0)= #[]:=fun f=>by apply nf;simp
  simp[execOp,ho,Instr.buildSlice,cW hd,gJ hn,hz,hm0,hD',newRow];have hD':Instr.fill (fun i=>some (i*E.n,E.n)) ⟨R⟩ (parts.toList.map fun(x:Nat×Operand)=>(x.1,a.eval x.2))=some D:=hD;simp[execOp,ho,Instr.buildSlice,cW hd,gJ hn,hz,tR hi hzv,hzs,hrow,hD',newRow,h0]
 replace he:=gh he;rcases he with⟨_,he⟩|⟨_,he⟩
 simp only[aP,bj] at he;obtain⟨rfl,rfl⟩:=he;have hn0:G.at_ s.al=none:=hfree s.al (aU _) (by simp[St.new]);obtain⟨h1,h2⟩:=wr.boxed hn0 D e cs (hv.rows hs);refine .heap fx hrun (.inl rfl) h1 h2 (LV.of_VR ?_);exact .arr (Gh.boxed_at G w s.al D.size) rfl hpos (aU _) (aU _) (.inr ⟨rfl,rfl⟩) (Gh.boxed_dim G w s.al D.size) (by simp[hlen]);simp only[az] at he;obtain⟨xs,hx,he⟩:=he;simp only[aP,bj] at he;obtain⟨rfl,rfl⟩:=he;obtain⟨c1,c2,c3⟩:=ze hg1 hx hs;obtain⟨h1,h2⟩:=wr.fixed e hv hs;refine .heap fx hrun (.inl rfl) h1 (h2 _ _) (LV.of_VR ?_);subst c1;exact .list (.inr rfl) hpos c3 (aU _) (fun i x hx=>by rw[c2] at hx;simpa[Gh.fixed_ro] using hx) rfl
def ak2{r:Option Operand}(ho:o.op= .makeMap t r)(wr:WR G s.heap w)(fx:cy G s.heap B fr a.tmps w)(he:gH (oh P t fr.env r s) fr.loc=some (v,loc',s'))(hfree: ∀n,s.al<=n->n<s'.al->G.at_ n=none):
 fE P G s.heap w B fr.loc s.al s'.al a o v loc' s'.heap:=by
 simp only[gH,az] at he;obtain⟨⟨v1,s1⟩,he,hq⟩:=he;simp only[aP,bj] at hq;obtain⟨rfl,rfl,rfl⟩:=hq;have fin:v1= .map s.al->s1=s.new (.map [] 0)->(execOp a.eval o).run P w= .ok (.value (.map (some w.heap.size))) (w.alloc (.map #[] 0))->fE P G s.heap w B fr.loc s.al s1.al a o v1 fr.loc s1.heap:=by
  rintro rfl rfl hrun;have hn0:G.at_ s.al=none:=hfree s.al (aU _) (by simp[St.new]);obtain⟨h1,h2⟩:=wr.fresh (.map #[] 0);have hno: ¬d7 G s.heap w.heap.size:=fun ho=>cR _ (wr.owned_lt ho);have h3:=h1.named (n:=s.al) (a:=⟨w.heap.size,0,none⟩) (o:=.map [] 0) hn0 (by simp) rfl hno
   ⟨#[],by rw[nX,iP rfl],.nil⟩
   (fun i v hv=>absurd (wr.ro_lt hv) (cR _))
  have e2:=h2 s.al (s.al+1);refine .heap fx hrun (.inl rfl) h3 ⟨e2.le.trans (Gh.name_le _ _ hn0),e2.size,e2.keep,?_,?_,?_,e2.quiet⟩ (LV.of_VR (.map (a:=⟨w.heap.size,0,none⟩) (by simp[Gh.name])));intro b hb ho;rcases Af ho with rfl|ho
  exact absurd hb (cR _);exact ho;intro m a' hm h0;simp only[Gh.name] at hm;by_cases em:m=s.al;subst em;exact⟨aU _,by simp[St.new]⟩;rw[iN em,h0] at hm;cases hm;intro b o' u hb hv h0;exact e2.cells b o' u hb hv h0
 unfold oh at he;rcases r with _|x
 simp only[aP,bj] at he;exact fin he.1.symm he.2.symm (by simp[execOp,ho,Instr.makeMap]);simp only[az] at he;obtain⟨d,hd,he⟩:=he;split at he;simp only[az] at he;obtain⟨u,hu,he⟩:=he;have hl:=fx.ev hu;split at he;simp only[aP,bj] at he;have hl:VR G _ _:=hl;generalize hx:a.eval x=X at hl;cases hl;exact fin he.1.symm he.2.symm (by simp[execOp,ho,hx,Instr.makeMap,cW hd,asInt,asIntOf]);cases he;cases he
end
variable{desc:TypeDesc}{kt:TypeId}{k:ae}
section
variable{P:Program}{G:Gh}
def L9{rec:TypeId->ae->Bool}{d:Nat}{emp:Bool}{xs:List ae}{xv:List Value}(hx:bP G xs xv)(sx:dn xs=true)(hrec: ∀ {e:TypeId} {x:ae} {X:Value},rec e x=true->VR G x X-> ∀w:World,(Instr.checkKey emp d e X).run P w= .ok () w)(w:World):
 ∀(fs:List Field),BR P rec xs fs=true->
  (forIn (m:=Sem) fs PUnit.unit fun f _=>do
   if f.name≠ "_" then do
    Instr.checkKey emp d f.type (<-part f.type ⟨xv⟩ f.offset)
    pure (ForInStep.yield PUnit.unit)
   else pure (ForInStep.yield PUnit.unit)).run P w= .ok PUnit.unit w
 | [],_=>by simp
 |f::fs,h=>by
  simp only[BR] at h;rw[List.forIn_cons];cases hn:(f.name== "_");simp only[hn,cF] at h;have hn:f.name≠ "_" :=by simpa using hn
  split at h;rename_i a ha;simp only[bA] at h;obtain⟨X,hX,vX,_⟩:=wP ha hx sx;simp only[iP hn,Sem.run_bind,hX,iU,hrec h.1 vX,Sem.run_pure];exact L9 hx sx hrec w fs h.2;cases h;simp only[hn,cT] at h;have hn: ¬f.name≠ "_" :=by simpa using hn
  simp only[iN hn,Sem.run_bind,iU,Sem.run_pure];exact L9 hx sx hrec w fs h
def UH{rec:TypeId->ae->Bool}{d:Nat}{emp:Bool}{e:TypeId}{n:Nat}{xs:List ae}{xv:List Value}(hx:bP G xs xv)(sx:dn xs=true)(hn:dZ P e=some n)(hrec: ∀ {x:ae} {X:Value},rec e x=true->VR G x X-> ∀w:World,(Instr.checkKey emp d e X).run P w= .ok () w)(w:World):
 ∀(k i:Nat),FV P rec e n xs k i=true->
  (forIn (m:=Sem) (List.range' i k) PUnit.unit fun i _=>do
   Instr.checkKey emp d e (<-part e ⟨xv⟩ (i*(<-sizeOf e)))
   pure (ForInStep.yield PUnit.unit)).run P w= .ok PUnit.unit w
 |0,_,_=>by simp
 |k+1,i,h=>by
  simp only[FV] at h;rw[xb,List.forIn_cons];split at h;rename_i a ha;simp only[bA] at h;obtain⟨X,hX,vX,_⟩:=wP ha hx sx;simp only[Sem.run_bind,gJ hn,hX,iU,hrec h.1 vX,Sem.run_pure];exact UH hx sx hn hrec w k (i+1) h.2;cases h
def CA{emp:Bool}: ∀(d:Nat) {t:TypeId} {x:ae} {X:Value},wz P d t x=true->VR G x X-> ∀(D:Nat),d<=D-> ∀w:World,(Instr.checkKey emp D t X).run P w= .ok () w
 |0,_,_,_,h,_=>by simp[wz] at h
 |d+1,t,x,X,h,hx=>by
  intro D hD w;obtain⟨D,rfl⟩: ∃E,D=E+1:=⟨D-1,by omega⟩;simp only[wz] at h;split at h;rename_i ht;cases hx;simp[Instr.checkKey,cW ht];rename_i ht;cases hx;simp[Instr.checkKey,cW ht];rename_i ht;cases hx;simp[Instr.checkKey,cW ht]
  ·rename_i ht
   cases hx with|agg sx hx=>
   have:=L9 (emp:=emp) hx sx (d:=D) (fun {e x X} hr vx w=>CA d hr vx D (by omega) w) w _ h;simp only[Instr.checkKey,Sem.run_bind,cW ht,iU];rw[<-Array.forIn_toList];simp at this ⊢;rw[this];rfl
  ·rename_i len e xs ht
   cases hx with|agg sx hx=>
   split at h;rename_i n hn
   have:=UH (emp:=emp) hx sx hn (d:=D) (fun {x X} hr vx w=>CA d hr vx D (by omega) w) w len 0 h;simp only[Instr.checkKey,Sem.run_bind,cW ht,iU];rw[Std.Legacy.Range.forIn_eq_forIn_range'];simp at this ⊢;rw[this];rfl;cases h
  cases h
def gZ.length(h:gZ G es ms):es.length=ms.length:=by
 induction h with
 |nil=>rfl
 |cons _ _ ih=>simp[ih]
def gZ.get(h:gZ G es ms){e:cw}(hi:es[i]? =some e): ∃m,ms[i]? =some m/\vK G e m:=by
 induction h generalizing i with
 |nil=>simp at hi
 |cons a _ ih=>
  cases i with
  |zero=>simp at hi;subst hi;exact⟨_,by simp,a⟩
  |succ i=>simp at hi;obtain⟨m,hm,hr⟩:=ih hi;exact⟨m,by simpa using hm,hr⟩
def gZ.append{a b:List cw}{x y:List MapEntry}(h:gZ G a x)(h':gZ G b y):gZ G (a++b) (x++y):=by
 induction h with
 |nil=>simpa using h'
 |cons p _ ih=>exact .cons p ih
def gZ.set(h:gZ G es ms)(i:Nat){e:cw}(hr:vK G e m):gZ G (es.set i e) (ms.set i m):=by
 induction h generalizing i with
 |nil=>simpa using gZ.nil
 |cons a b ih=>
  cases i with
  |zero=>exact .cons hr b
  |succ i=>exact .cons a (ih i)
def Jt(G:Gh)(es:List cw)(i0:Nat):Option (Nat×cw)->Option (Nat×Value)->Prop
 |none,none=>True
 |some (i,e),some (j,v)=>i=j/\i0<=i/\es[i-i0]? =some e/\VR G e.val v
 |_,_=>False
def UG{kt:TypeId}{k:ae}{K:Value}(hk:VR G k K)(w:World): ∀ {es:List cw} {ms:List MapEntry} {i:Nat} {r:Option (Nat×cw)},gZ G es ms->lN P kt k es i=some r->
 ∃q,(Instr.findAsking kt K ms i).run P w= .ok q w/\Jt G es i r q
 |_,_,i,r,.nil,h=>by simp[lN] at h;subst h;exact⟨none,by simp[Instr.findAsking],trivial⟩
 |_,_,i,r,.cons (e:=e) (m:=m) (es:=es) (ms:=ms) he hs,h=>by
  simp only[lN,az] at h;obtain⟨b,hb,h⟩:=h;have hrun:=G9 8 hb hk he.key 10000 (by omega) w;have hrun:(Op.equal kt K m.key).run P w= .ok b w:=hrun;cases b;simp only[cF] at h;obtain⟨q,hq,hf⟩:=UG hk w hs h;refine⟨q,by simp[Instr.findAsking,hrun,hq],?_⟩;cases r<;>cases q<;>first
   |trivial
   |(obtain⟨h1,h2,h3,h4⟩:=hf
     refine⟨h1,by omega,?_,h4⟩;rename_i p _;have:p.1-i=(p.1-(i+1))+1:=by omega
     rw[this];simpa using h3)
   |exact hf.elim
  simp only[cT,aP] at h;subst h;exact⟨some (i,m.val),by simp[Instr.findAsking,hrun],rfl,aU _,by simp,he.val⟩
def UM{x:ae}{X:Value}{b r:Bool}(ht:P.underlying kt=some desc)(hb:lL P 8 kt x y=some b)(hx:VR G x X)(hy:VR G y Y)(hs:Instr.sameNow desc X Y=some r):r=b:=by
 simp only[lL,ht,Option.bind_some] at hb;cases hx<;>cases hy<;>cases desc<;>simp[Instr.sameNow] at hs hb
 all_goals first
  |(rw[<-hs,<-hb];done)
  |(obtain⟨h1,h2⟩:=hs;subst h1;simp[aK] at hb;rw[<-h2,<-hb];done)
  |skip
 rename_i a b';rw[<-hs,<-hb];rw[beq_toListBytes];have e1: ∀l:List UInt8,(ByteArray.mk ⟨l⟩).toList=l:=fun l=>ByteArray.toList_mk l;rw[e1,e1]
def O6{kt:TypeId}{desc:TypeDesc}{k:ae}{K:Value}(ht:P.underlying kt=some desc)(hk:VR G k K): ∀ {es:List cw} {ms:List MapEntry} {i:Nat} {r:Option (Nat×cw)} {q:Option (Nat×Value)},
 gZ G es ms->lN P kt k es i=some r->Instr.findNow desc K ms i=some q->Jt G es i r q
 |_,_,i,r,q,.nil,h,hn=>by
  simp[lN] at h;subst h;simp[Instr.findNow] at hn;subst hn
  trivial
 |_,_,i,r,q,.cons (e:=e) (m:=m) (es:=es) (ms:=ms) he hs,h,hn=>by
  simp only[lN,az] at h;obtain⟨b,hb,h⟩:=h;simp only[Instr.findNow] at hn;split at hn;rename_i hsn
  have:=UM ht hb hk he.key hsn;subst this;simp only[cT,aP] at h;subst h;injection hn with hn;subst hn
  exact⟨rfl,aU _,by simp,he.val⟩;rename_i hsn
  have:=UM ht hb hk he.key hsn;subst this;simp only[cF] at h;have hf:=O6 ht hk hs h hn;cases r<;>cases q<;>first
   |trivial
   |(obtain⟨h1,h2,h3,h4⟩:=hf
     refine⟨h1,by omega,?_,h4⟩;rename_i p _;have:p.1-i=(p.1-(i+1))+1:=by omega
     rw[this];simpa using h3)
   |exact hf.elim
  cases hn
def Hb{K:Value}(hk:VR G k K)(w:World){r:Option (Nat×cw)}(ht:P.underlying kt=some desc)(hs:gZ G es ms)(h:lN P kt k es 0=some r):
 ∃q,(Instr.findKey kt K ms).run P w= .ok q w/\Jt G es 0 r q:=by
 simp only[Instr.findKey,Sem.run_bind,cW ht,iU];cases hn:Instr.findNow desc K ms 0 with
 |some q=>exact⟨q,by simp,O6 ht hk hs h hn⟩
 |none=>exact UG hk w hs h
end
variable{ad:Addr}{ES:Array MapEntry}{seen:Array Nat}{c clock since:Nat}
section
variable{P:Program}{mk:aW}{G:Gh}{s s':St}{B:Nat->Nat}{fr:Fr}{a:Act}{w:World}{o:Oper}{lo hi:Nat}{v:ae}{loc':Loc}
def pu{r:Nat}(h:w.heap[r]? =some (.map ES c)):(getObj r).run P w= .ok (.map ES c) w:=by
 simp[getObj,Sem.run,h]
def Ap{r:Nat}(ob:Obj)(h:w.heap[r]? =some (.map ES c)):(setObj r ob).run P w= .ok () (dx w r ob):=by
 simp[setObj,Sem.run,h,dx]
def Cz{r:Nat}{m:Option Nat}{st:Nat}(h:w.heap[r]? =some (.mapIter m since seen st)):(getObj r).run P w= .ok (.mapIter m since seen st) w:=by
 simp[getObj,Sem.run,h]
def UJ{r:Nat}{m:Option Nat}{st:Nat}(ob:Obj)(h:w.heap[r]? =some (.mapIter m since seen st)):(setObj r ob).run P w= .ok () (dx w r ob):=by
 simp[setObj,Sem.run,h,dx]
def KH{ke:TypeId×TypeId}(h:qm P t k=some ke):P.underlying t=some (.map ke.1 ke.2)/\wz P 8 ke.1 k=true/\ ∃d,P.underlying ke.1=some d:=by
 simp only[qm,az] at h;obtain⟨d,hd,h⟩:=h;split at h;replace h:=bm h;obtain⟨hk,h⟩:=h;injection h with h;subst h
 refine⟨hd,hk,?_⟩;simp only[wz] at hk;split at hk<;>first|(rename_i hu;exact⟨_,hu⟩)|cases hk
 cases h
def uX(wr:WR G s.heap w)(hg:s.get mk n=some (.map es clock)):
 ∃ad ES,G.at_ n=some ad/\ad.spot=none/\w.heap[ad.block]? =some (.map ES clock)/\gZ G es ES.toList:=by
 obtain⟨ad,h1,h2,ES,h3,h4⟩:=wr.obj n _ (iZ hg);exact⟨ad,ES,h1,h2,h3,h4⟩
def ak0{i:Operand}{ok:Bool}(ho:o.op= .lookup t x i ok)(wr:WR G s.heap w)(fx:cy G s.heap B fr a.tmps w)(he:GD P mk t x i ok fr s=some (v,loc',s')):fE P G s.heap w B fr.loc lo hi a o v loc' s'.heap:=by
 simp only[GD,az] at he;obtain⟨p,hp,k,hk,he⟩:=he;replace he:=kO he;obtain⟨he,rfl,rfl⟩:=he;have hm:=(fx.evc hp).1;have hK:=(fx.evc hk).1;simp only[mU,az] at he;obtain⟨ke,hke,z,hz,r,hr,he⟩:=he;obtain⟨hd,hko,desc,hdk⟩:=KH hke;obtain⟨ti,zv,hi,hzv,hov⟩:=CP hz;obtain⟨hzr,hzt⟩:=vf G hov;have hck: ∀(b:Bool) (w:World),(Instr.checkKey b 10000 ke.1 (a.eval i)).run P w= .ok () w:=fun b w=>CA 8 hko hK 10000 (by omega) w;have key: ∃ES:List MapEntry,(∃q,(Instr.findKey ke.1 (a.eval i) ES).run P w= .ok q w/\(match r with|none=>q=none|some e=> ∃j u,q=some (j,u)/\VR G e.2.val u))/\
  ((a.eval x= .map none/\ES=[])\/ ∃b E c,a.eval x= .map (some b)/\w.heap[b]? =some (.map E c)/\E.toList=ES):=by
  unfold B3 at hr;generalize hX:a.eval x=X at hm;split at hr;injection hr with hr;subst hr
  cases hm;obtain⟨q,hq,hf⟩:=Hb (P:=P) (G:=G) (kt:=ke.1) hK w hdk .nil (r:=none) (by simp[lN]);cases q with
  |none=>exact⟨[],⟨none,hq,rfl⟩,.inl ⟨rfl,rfl⟩⟩
  |some q=>exact hf.elim
  ·rename_i n
   simp only[az] at hr;obtain⟨ob,hob,hr⟩:=hr;split at hr
   ·cases hm with
    |map hat=>
    obtain⟨ad,ES,h1,h2,h3,h4⟩:=uX wr hob;rw[hat] at h1;injection h1 with h1;subst h1
    obtain⟨q,hq,hf⟩:=Hb hK w hdk h4 hr;refine⟨ES.toList,⟨q,hq,?_⟩,.inr ⟨_,ES,_,rfl,h3,rfl⟩⟩;cases r<;>cases q<;>first
     |rfl
     |exact hf.elim
     |(obtain⟨h1,h2,h3,h4⟩:=hf;exact⟨_,_,rfl,h4⟩)
   cases hr
  cases hr
 obtain⟨ES,⟨q,hq,hqr⟩,hcase⟩:=key;have hrun: ∃y ys,(execOp a.eval o).run P w= .ok (.value (if ok then .tuple #[y,.bool ys] else y)) w/\VR G v (if ok then .tuple #[y,.bool ys] else y):=by
  have fin: ∀(y:Value) (ys:Bool),(q=none/\y=zv/\ys=false\/ ∃j,q=some (j,y)/\ys=true)->(execOp a.eval o).run P w= .ok (.value (if ok then .tuple #[y,.bool ys] else y)) w:=by
   intro y ys hy;rcases hcase with⟨hX,rfl⟩|⟨b,E,c,hX,hb,rfl⟩
   rcases hy with⟨rfl,rfl,rfl⟩|⟨j,rfl,rfl⟩
   have hq':(Instr.findKey ke.1 (a.eval i) (#[]:Array MapEntry).toList).run P w= .ok none w:=hq;simp[execOp,ho,hX,Instr.lookup,cW hd,hck,hq,tR hi hzv];simp[execOp,ho,hX,Instr.lookup,cW hd,hck,hq];rcases hy with⟨rfl,rfl,rfl⟩|⟨j,rfl,rfl⟩
   simp[execOp,ho,hX,Instr.lookup,cW hd,pu hb,hck,hq,tR hi hzv];simp[execOp,ho,hX,Instr.lookup,cW hd,pu hb,hck,hq]
  cases r with
  |none=>
   simp only[aP] at he;subst he;refine⟨zv,false,fin zv false (.inl ⟨hqr,rfl,rfl⟩),?_⟩;cases ok;exact hzr;exact .tup (.cons hzr (.cons (.bool _) .nil))
  |some e=>
   obtain⟨j,u,hj,hu⟩:=hqr;simp only[aP] at he;subst he;refine⟨u,true,fin u true (.inr ⟨j,hj,rfl⟩),?_⟩;cases ok;exact hu;exact .tup (.cons hu (.cons (.bool _) .nil))
 obtain⟨y,ys,h1,h2⟩:=hrun;exact .pure wr fx h1 (LV.of_VR h2)
def UN{x:ae}{X:Value}(h:Au x y=true)(hx:VR G x X)(hy:VR G y Y): ∀n,Instr.sameBits n X Y=true:=by
 intro n;unfold Au at h;split at h;cases hx;cases hy;cases n<;>simpa[Instr.sameBits] using h;rename_i j p k q;cases hx;cases hy;simp only[bA] at h;have h1:=h.1;have h2:p=q:=by simpa[aK] using h.2
 cases n<;>simp[Instr.sameBits,h2]<;>simpa using h1;rename_i p q;cases hx;cases hy;have h:p=q:=by simpa using h
 subst h;have e:(ByteArray.mk ⟨p⟩==ByteArray.mk ⟨p⟩)=true:=by rw[beq_toListBytes];simp
 cases n<;>simp only[Instr.sameBits]<;>exact e;cases h
def Oe{n:Nat}: ∀ {x y:List ae} {X Y:List Value},xD x y=true->bP G x X->bP G y Y->X.length=Y.length/\((X.zip Y).all fun p=>Instr.sameBits n p.1 p.2)=true
 | [],[],_,_,_,.nil,.nil=>by simp
 |x::xs,y::ys,_,_,h,.cons a b,.cons c d=>by
  simp only[xD,bA] at h;obtain⟨h1,h2⟩:=Oe (n:=n) h.2 b d;refine⟨by simp[h1],?_⟩;simp only[List.zip_cons_cons,ma,bA];exact⟨UN h.1 a c n,h2⟩
 | [],_::_,_,_,h,_,_=>by simp[xD] at h
 |_::_,[],_,_,h,_,_=>by simp[xD] at h
def RV{x:ae}{X:Value}(h:wA x y=true)(hx:VR G x X)(hy:VR G y Y):Instr.sameBits 10000 X Y=true:=by
 unfold wA at h;split at h
 ·cases hx with|agg _ hx=>cases hy with|agg _ hy=>
  obtain⟨h1,h2⟩:=Oe (n:=9999) h hx hy;show Instr.sameBits (9999+1) _ _=true;simp only[Instr.sameBits,bA];exact⟨by simpa using h1,by simpa using h2⟩
 exact UN h hx hy 10000
def zO(wr:WR G s.heap w){es':List cw}{clock':Nat}(hg:s.get mk n=some (.map es clock))(hat:G.at_ n=some ad){ES':Array MapEntry}(hb:w.heap[ad.block]? =some (.map ES clock))(hs:gZ G es' ES'.toList):
 WR G (s.put n (some (.map es' clock'))).heap (dx w ad.block (.map ES' clock'))/\ ∀lo hi,cM G s.heap w G (s.put n (some (.map es' clock'))).heap (dx w ad.block (.map ES' clock')) lo hi:=by
 refine wr.changed (iZ hg) hat ⟨ES',by rw[jb _ _ _ _ (fQ hb),iP rfl],hs⟩ ?_ ?_;intro i v hv
 have:=(wr.apart n _ ad i v (iZ hg) hat hv).1;cases this;intro d hd;obtain⟨C,e,hC,_⟩:=wr.dim _ d hd;rw[hb] at hC;cases hC
def Lk(ES:Array MapEntry)(j:Nat)(f:MapEntry->MapEntry)(hm:ES.toList[j]? =some m):(ES.modify j f).toList=ES.toList.set j (f m):=by
 apply List.ext_getElem?;intro q;rw[CR,HC,List.getElem?_set];by_cases e:j=q;subst e;have hm':ES[j]? =some m:=by simpa using hm
 have hlt:j<ES.toList.length:=by
  rcases ix j ES.toList.length with h|h
  exact h;simp[jE h] at hm
 rw[iP rfl,iP rfl,iP hlt,hm'];rfl;rw[iN e,iN e];simp
def TJ{m k:Operand}(ho:o.op= .mapUpdate t m k x\/o.op= .insert t m k x)(wr:WR G s.heap w)(fx:cy G s.heap B fr a.tmps w)(he:Cj P mk t m k x fr s=some (v,loc',s')):fE P G s.heap w B fr.loc lo hi a o v loc' s'.heap:=by
 simp only[Cj,az] at he;obtain⟨mv,hm,kv,hk,xv,hx,he⟩:=he;simp only[nK,az] at he;obtain⟨s1,he,hq⟩:=he;simp only[aP,bj] at hq;obtain⟨rfl,rfl,rfl⟩:=hq;have hM:=(fx.evc hm).1;have hK:=(fx.evc hk).1;have hX:=(fx.evc hx).1;have hex:(execOp a.eval o).run P w=((Instr.mapUpdate t (a.eval m) (a.eval k) (a.eval x)).run P w).andThen fun _ w'=>.ok .skip w':=by
  rcases ho with ho|ho<;>simp[execOp,ho]
 simp only[nM,az] at he;obtain⟨ke,hke,he⟩:=he;obtain⟨hd,hko,desc,hdk⟩:=KH hke;have hck: ∀(b:Bool) (w:World),(Instr.checkKey b 10000 ke.1 (a.eval k)).run P w= .ok () w:=fun b w=>CA 8 hko hK 10000 (by omega) w;split at he
 ·rename_i n
  simp only[az] at he;obtain⟨ob,hob,he⟩:=he;split at he
  ·rename_i es clock
   generalize hMv:a.eval m=M at hM;cases hM with
   |map hat=>
   rename_i ad;obtain⟨ad',ES,h1,h2,h3,h4⟩:=uX wr hob;rw[hat] at h1;injection h1 with h1;subst h1
   simp only[az] at he;obtain⟨r,hr,he⟩:=he;obtain⟨q,hq,hf⟩:=Hb hK w hdk h4 hr;split at he;rename_i e;obtain⟨j,e⟩:=e;replace he:=bm he;obtain⟨hks,he⟩:=he;injection he with he;subst he
   cases q with
   |none=>exact hf.elim
   |some q=>
    obtain⟨j',u⟩:=q;obtain⟨rfl,_,hje,hu⟩:=hf;simp only[Nat.sub_zero] at hje;obtain⟨me,hme,her⟩:=h4.get hje;have hsb:=RV hks her.key hK;have hme':ES[j]? =some me:=by simpa using hme
    obtain⟨c1,c2⟩:=zO (clock':=clock) (es':=es.set j ⟨kv,xv,e.born⟩) (ES':=ES.modify j fun e=> {e with key:=a.eval k,val:=a.eval x }) wr hob hat h3
     (by rw[Lk ES j _ hme];exact h4.set j ⟨hK,hX,her.born⟩)
    refine .heap fx ?_ (.inr ⟨rfl,rfl⟩) c1 (c2 _ _) (LV.of_VR (.tup .nil));rw[hex];simp[hMv,Instr.mapUpdate,cW hd,pu h3,hck,hq,Instr.keyThatStays,hme',hsb,Ap _ h3]
   injection he with he;subst he
   cases q with
   |some q=>exact hf.elim
   |none=>
    obtain⟨c1,c2⟩:=zO (clock':=clock+1) (es':=es++[⟨kv,xv,clock⟩]) (ES':=ES.push {key:=a.eval k,val:=a.eval x,born:=clock }) wr hob hat h3
     (by simpa using h4.append (.cons ⟨hK,hX,rfl⟩ .nil))
    refine .heap fx ?_ (.inr ⟨rfl,rfl⟩) c1 (c2 _ _) (LV.of_VR (.tup .nil));rw[hex];simp[hMv,Instr.mapUpdate,cW hd,pu h3,hck,hq,Ap _ h3]
  cases he
 cases he
def ak4{m k:Operand}(ho:o.op= .mapEntry t m k)(wr:WR G s.heap w)(fx:cy G s.heap B fr a.tmps w)(he:GG P mk t m k fr s=some (v,loc',s')):fE P G s.heap w B fr.loc lo hi a o v loc' s'.heap:=by
 simp only[GG,az] at he;obtain⟨mv,hm,kv,hk,he⟩:=he;simp only[gH,az] at he;obtain⟨⟨v1,s1⟩,he,hq⟩:=he;simp only[aP,bj] at hq;obtain⟨rfl,rfl,rfl⟩:=hq;have hM:=(fx.evc hm).1;have hK:=(fx.evc hk).1;simp only[x9,az] at he;obtain⟨ke,hke,z,hz,he⟩:=he;obtain⟨hd,hko,desc,hdk⟩:=KH hke;obtain⟨ti,zv,hi,hzv,hov⟩:=CP hz;obtain⟨hzr,hzt⟩:=vf G hov;have hck: ∀(b:Bool) (w:World),(Instr.checkKey b 10000 ke.1 (a.eval k)).run P w= .ok () w:=fun b w=>CA 8 hko hK 10000 (by omega) w;split at he
 ·rename_i n
  simp only[az] at he;obtain⟨ob,hob,he⟩:=he;split at he
  ·rename_i es clock
   generalize hMv:a.eval m=M at hM;cases hM with
   |map hat=>
   rename_i ad;obtain⟨ad',ES,h1,h2,h3,h4⟩:=uX wr hob;rw[hat] at h1;injection h1 with h1;subst h1
   simp only[az] at he;obtain⟨r,hr,he⟩:=he;obtain⟨q,hq,hf⟩:=Hb hK w hdk h4 hr;split at he;rename_i e;obtain⟨j,e⟩:=e;replace he:=bm he;obtain⟨hks,he⟩:=he;simp only[aP,bj] at he;obtain⟨rfl,rfl⟩:=he;cases q with
   |none=>exact hf.elim
   |some q=>
    obtain⟨j',u⟩:=q;obtain⟨rfl,_,hje,hu⟩:=hf;simp only[Nat.sub_zero] at hje;obtain⟨me,hme,her⟩:=h4.get hje;have hsb:=RV hks her.key hK;have hme':ES[j]? =some me:=by simpa using hme
    obtain⟨c1,c2⟩:=zO (clock':=clock) (es':=es.set j ⟨kv,e.val,e.born⟩) (ES':=ES.modify j fun e=> {e with key:=a.eval k }) wr hob hat h3
     (by rw[Lk ES j _ hme];exact h4.set j ⟨hK,her.val,her.born⟩)
    refine .heap fx (y:=.tuple #[u,.int .i64 me.born]) ?_ (.inl rfl) c1 (c2 _ _) (LV.of_VR ?_);simp[execOp,ho,hMv,Instr.mapEntry,cW hd,pu h3,hck,hq,Instr.keyThatStays,hme',hsb,Ap _ h3,goInt];rw[her.born];exact .tup (.cons hu (.cons (.int _ _) .nil))
   simp only[aP,bj] at he;obtain⟨rfl,rfl⟩:=he;cases q with
   |some q=>exact hf.elim
   |none=>
    obtain⟨c1,c2⟩:=zO (clock':=clock+1) (es':=es++[⟨kv,z,clock⟩]) (ES':=ES.push {key:=a.eval k,val:=zv,born:=clock }) wr hob hat h3
     (by simpa using h4.append (.cons ⟨hK,hzr,rfl⟩ .nil))
    refine .heap fx (y:=.tuple #[zv,.int .i64 clock]) ?_ (.inl rfl) c1 (c2 _ _) (LV.of_VR (.tup (.cons hzr (.cons (.int _ _) .nil))));simp[execOp,ho,hMv,Instr.mapEntry,cW hd,pu h3,hck,hq,tR hi hzv,Ap _ h3,goInt]
  cases he
 cases he
def UT{b:Nat}{u:ae}: ∀ {es es':List cw} {ms:List MapEntry} {U:Value},CC b u es=some es'->gZ G es ms->VR G u U->
 ∃j m,ms.findIdx? (fun e=>(e.born:Int)==(b:Int))=some j/\ms[j]? =some m/\gZ G es' (ms.set j {m with val:=U })
 | [],_,_,_,h,_,_=>by simp[CC] at h
 |e::es,es',_,U,h,.cons (m:=m) (ms:=ms) he hs,hu=>by
  simp only[CC] at h;replace h:=gh h;rcases h with⟨hb,h⟩|⟨hb,h⟩
  injection h with h;subst h
  have hb:=eU hb;have hmb:m.born=b:=by rw[<-he.born,hb]
  exact⟨0,m,by simp[List.findIdx?_cons,hmb],by simp,.cons ⟨he.key,hu,he.born⟩ hs⟩;have hb:=zb hb;simp only[az] at h;obtain⟨r,hr,h⟩:=h;injection h with h;subst h
  obtain⟨j,m',h1,h2,h3⟩:=UT hr hs hu;have hmb: ¬m.born=b:=by rw[<-he.born];exact hb
  refine⟨j+1,m',?_,by simpa using h2,.cons he h3⟩;have hmb':((m.born:Int)==(b:Int))=false:=by
   simp only[bN,ne_eq];intro e;exact hmb (Int.ofNat_inj.1 e)
  simp[List.findIdx?_cons,hmb',h1]
def akT{m st:Operand}(ho:o.op= .entryStore t m st x)(wr:WR G s.heap w)(fx:cy G s.heap B fr a.tmps w)(he:GB mk m st x fr s=some (v,loc',s')):fE P G s.heap w B fr.loc lo hi a o v loc' s'.heap:=by
 simp only[GB,az] at he;obtain⟨mv,hm,sv,hsv,xv,hx,he⟩:=he;simp only[nK,az] at he;obtain⟨s1,he,hq⟩:=he;simp only[aP,bj] at hq;obtain⟨rfl,rfl,rfl⟩:=hq;have hM:=(fx.evc hm).1;have hS:=(fx.evc hsv).1;have hX:=(fx.evc hx).1;simp only[zn,az] at he;obtain⟨b,hb,he⟩:=he;obtain⟨k,rfl⟩:=zY hb;generalize hSv:a.eval st=S at hS;cases hS;split at he
 ·rename_i n
  simp only[az] at he;obtain⟨ob,hob,he⟩:=he;split at he
  ·rename_i es clock
   generalize hMv:a.eval m=M at hM;cases hM with
   |map hat=>
   rename_i ad;obtain⟨ad',ES,h1,h2,h3,h4⟩:=uX wr hob;rw[hat] at h1;injection h1 with h1;subst h1
   simp only[az] at he;obtain⟨es',hes,he⟩:=he;injection he with he;subst he
   obtain⟨j,me,hj,hme,hr⟩:=UT hes h4 hX;have hj':ES.findIdx? (fun e=>(e.born:Int)==(b:Int))=some j:=by cases ES with|mk l=>simpa using hj
   obtain⟨c1,c2⟩:=zO (clock':=clock) (es':=es') (ES':=ES.modify j fun e=> {e with val:=a.eval x }) wr hob hat h3
    (by rw[Lk ES j _ hme];exact hr)
   refine .heap fx ?_ (.inr ⟨rfl,rfl⟩) c1 (c2 _ _) (LV.of_VR (.tup .nil));simp[execOp,ho,hMv,hSv,Instr.entryStore,pu h3,asInt,asIntOf,hj',Ap _ h3]
  cases he
 cases he
def ak9(ho:o.op= .range t x)(wr:WR G s.heap w)(fx:cy G s.heap B fr a.tmps w)(he:((evc fr.env x).bind fun x=>gH (m7 P mk t x s) fr.loc)=some (v,loc',s'))(hfree: ∀n,s.al<=n->n<s'.al->G.at_ n=none):
 fE P G s.heap w B fr.loc s.al s'.al a o v loc' s'.heap:=by
 simp only[az] at he;obtain⟨xv,hx,he⟩:=he;simp only[gH,az] at he;obtain⟨⟨v1,s1⟩,he,hq⟩:=he;simp only[aP,bj] at hq;obtain⟨rfl,rfl,rfl⟩:=hq;have hX:=(fx.evc hx).1;simp only[m7,az] at he;obtain⟨d,hd,he⟩:=he;have fin: ∀(m:Option Nat) (m':Option Nat) (c:Nat),Qa G m m'->v1= .ptr s.al 0->s1=s.new (.iter m c [] c)->
  (execOp a.eval o).run P w= .ok (.value (.pointer (some ⟨w.heap.size,0,none⟩))) (w.alloc (.mapIter m' c #[] c))->fE P G s.heap w B fr.loc s.al s1.al a o v1 fr.loc s1.heap:=by
  rintro m m' c hm rfl rfl hrun;have hn0:G.at_ s.al=none:=hfree s.al (aU _) (by simp[St.new]);obtain⟨h1,h2⟩:=wr.fresh (.mapIter m' c #[] c);have hno: ¬d7 G s.heap w.heap.size:=fun ho=>cR _ (wr.owned_lt ho);have h3:=h1.named (n:=s.al) (a:=⟨w.heap.size,0,none⟩) (o:=.iter m c [] c) hn0 (by simp) rfl hno
   ⟨rfl,m',by rw[nX,iP rfl],hm⟩
   (fun i v hv=>absurd (wr.ro_lt hv) (cR _))
  have e2:=h2 s.al (s.al+1);refine .heap fx hrun (.inl rfl) h3 ⟨e2.le.trans (Gh.name_le _ _ hn0),e2.size,e2.keep,?_,?_,?_,e2.quiet⟩ (LV.of_VR (by simpa using VR.ptr (G:=G.name s.al ⟨w.heap.size,0,none⟩) (n:=s.al) (off:=0) (a:=⟨w.heap.size,0,none⟩) (by simp[Gh.name])));intro b hb ho;rcases Af ho with rfl|ho
  exact absurd hb (cR _);exact ho;intro m a' hm h0;simp only[Gh.name] at hm;by_cases em:m=s.al;subst em;exact⟨aU _,by simp[St.new]⟩;rw[iN em,h0] at hm;cases hm;intro b o' u hb hv h0;exact e2.cells b o' u hb hv h0
 generalize hXv:a.eval x=X at hX;split at he
 ·split at he
  simp only[aP,bj] at he;cases hX;exact fin none none 0 trivial he.1.symm he.2.symm (by simp[execOp,ho,hXv,Instr.range,cW hd])
  ·rename_i m
   simp only[az] at he;obtain⟨ob,hob,he⟩:=he;split at he
   ·simp only[aP,bj] at he
    cases hX with
    |map hat=>
    rename_i ad;obtain⟨ad',ES,h1,h2,h3,h4⟩:=uX wr hob;rw[hat] at h1;injection h1 with h1;subst h1
    exact fin (some m) (some ad.block) _ ⟨ad,hat,rfl⟩ he.1.symm he.2.symm (by simp[execOp,ho,hXv,Instr.range,cW hd,pu h3])
   cases he
  cases he
 cases he
def Lr(a b:Nat):aJ a b=(a==b):=by
 cases h:aJ a b;exact(bN.2 (zb h)).symm;exact(bE.2 (eU h)).symm
def qU(a b:Nat):br a b=decide (a<=b):=by
 cases h:br a b;have: ¬a<=b:=fun h'=>by rw[Nat.ble_eq_true_of_le h'] at h;cases h
 exact(dN this).symm;exact(dQ (ju h)).symm
def XC(h:gZ G es ms)(st:Nat):ms.all (fun e=>decide (e.born≥st))=es.all (fun e=>br st e.born):=by
 induction h with
 |nil=>rfl
 |cons a b ih=>simp only[ma,ih,qU,a.born]
def apa{seen:List Nat}(h:gZ G es ms):gZ G (cX seen es) (ms.filter fun e=> !(⟨seen⟩:Array Nat).contains e.born):=by
 induction h with
 |nil=>exact .nil
 |cons a b ih=>
  rename_i e m es ms;have e1:seen.any (aJ e.born)=(⟨seen⟩:Array Nat).contains m.born:=by
   rw[a.born];have: ∀l:List Nat,l.any (aJ m.born)=(⟨l⟩:Array Nat).contains m.born:=by
    intro l;have h0:(⟨l⟩:Array Nat).contains m.born=l.contains m.born:=by simp
    rw[h0];clear h0
    induction l with
    |nil=>rfl
    |cons y l ihl=>
     simp only[List.any_cons,List.contains_cons,ihl,Lr]
   exact this seen
  unfold cX at ih ⊢;simp only[rz,e1];split;exact .cons a ih;exact ih
def abH(h:gZ G es ms)(ha:es.all (fun e=>bk e.born since)=true):
 ms.filter (fun e=>decide (e.born<since))=ms/\ms.filter (fun e=>decide (e.born≥since))=[]:=by
 induction h with
 |nil=>exact⟨rfl,rfl⟩
 |cons a b ih=>
  rename_i e m es ms;simp only[ma,bA] at ha;obtain⟨h1,h2⟩:=ih ha.2;have hlt:=oQ ha.1;rw[a.born] at hlt;refine⟨?_,?_⟩;rw[rz,iP (by simpa using hlt),h1];rw[rz,iN (by simp;omega),h2]
noncomputable def jI(mk:aW)(it:ae)(s:St):Nat:=
 match it with
 | .ptr n _=>match s.get mk n with
   |some (.iter (some m) _ seen _)=>match s.get mk m with
    |some (.map es _)=>(cX seen es).length
    |_=>0
   |_=>0
 |_=>0
def ak6{ch:Nat->Nat}{kmax:Nat->Nat}{isString:Bool}{xv:ae}(ho:o.op= .next x isString)(wr:WR G s.heap w)(fx:cy G s.heap B fr a.tmps w)(hx:evc fr.env x=some xv)(he:gH (lV mk ch kmax xv isString s) fr.loc=some (v,loc',s'))(hch:2<=jI mk xv s->ch s.ci % jI mk xv s=(w.tape w.drawn (.mapNext (jI mk xv s))) % jI mk xv s):
 fE P G s.heap w B fr.loc lo hi a o v loc' s'.heap:=by
 simp only[gH,az] at he;obtain⟨⟨v1,s1⟩,he,hq⟩:=he;simp only[aP,bj] at hq;obtain⟨rfl,rfl,rfl⟩:=hq;have hX:=(fx.evc hx).1;generalize hXv:a.eval x=X at hX;unfold lV at he;split at he
 ·rename_i n
  simp only[az] at he;obtain⟨ob,hob,he⟩:=he;cases hX with
  |ptr hat=>
  rename_i ad;obtain⟨ad',hat',hsp,hobj⟩:=wr.obj n _ (iZ hob);rw[hat] at hat';injection hat' with hat';subst hat'
  split at he
  ·replace he:=gh he
   rcases he with⟨_,he⟩|⟨hstr,he⟩
   cases he
   ·obtain⟨h0,m',hb,hm⟩:=hobj
    cases m' with
    |some _=>exact hm.elim
    |none=>
     simp only[aP,bj] at he;obtain⟨rfl,rfl⟩:=he;refine .pure wr fx (y:=.tuple #[.bool false]) ?_ (LV.of_VR (.tup (.cons (.bool _) .nil)));simp[execOp,ho,hXv,h0,Instr.next,Cz hb,hstr]
  ·rename_i m since seen stepped
   replace he:=gh he;rcases he with⟨_,he⟩|⟨hstr,he⟩
   cases he
   ·obtain⟨h0,m',hb,hm⟩:=hobj
    cases m' with
    |none=>exact hm.elim
    |some mb=>
     obtain⟨am,ham,rfl⟩:=hm;simp only[az] at he;obtain⟨ob2,hob2,he⟩:=he;split at he
     ·rename_i es clock
      obtain⟨am',ES,h1,h2,h3,h4⟩:=uX wr hob2;rw[ham] at h1;injection h1 with h1;subst h1
      have hcount:jI mk (.ptr n 0) s=(cX seen es).length:=by simp[jI,hob,hob2]
      rw[hcount] at hch;replace he:=gh he;rcases he with⟨_,he⟩|⟨hgo,he⟩
      cases he
      ·have hL:=apa (seen:=seen) h4
       have hgo':(!(⟨seen⟩:Array Nat).isEmpty&& !ES.isEmpty&&ES.all (fun e=>decide (e.born≥stepped)))=false:=by
        rw[<-hgo];have q1:(⟨seen⟩:Array Nat).isEmpty=seen.isEmpty:=by cases seen<;>rfl
        have q2:ES.isEmpty=es.isEmpty:=by
         cases ES with|mk l=>
         have:=h4.length;cases l<;>cases es<;>first|rfl|simp at this
        have q3:ES.all (fun e=>decide (e.born≥stepped))=es.all (fun e=>br stepped e.born):=by
         rw[<-XC h4 stepped];cases ES with|mk l=>simp
        rw[q1,q2,q3]
       have hbase: ∀(K:Value->World->Prop),True:=fun _=>trivial;have hleft:(ES.filter fun e=> !(⟨seen⟩:Array Nat).contains e.born)=⟨ES.toList.filter fun e=> !(⟨seen⟩:Array Nat).contains e.born⟩:=by
        apply nf;simp
       have hXv':a.eval x= .pointer (some ⟨ad.block,0,none⟩):=by rw[hXv,h0]
       generalize hML:(ES.toList.filter fun e=> !(⟨seen⟩:Array Nat).contains e.born)=ML at hL hleft;generalize hUL:cX seen es=UL at hL he hch;clear hbase hUL;unfold pg at he;split at he
       ·
        simp only[aP,bj] at he;obtain⟨rfl,rfl⟩:=he;cases hL;refine .pure wr fx (y:=.tuple #[.bool false]) ?_ (LV.of_VR (.tup (.cons (.bool _) .nil)));simp only[execOp,ho,hXv',Instr.next,Sem.run_bind,Cz hb,iU,hstr,pu h3,hgo',hleft];simp[Question.forced]
       ·rename_i e r
        replace he:=bm he;obtain⟨hall,he⟩:=he;obtain⟨f1,f2⟩:=abH hL hall;have g1:(⟨ML⟩:Array MapEntry).filter (fun e=>decide (e.born<since))=⟨ML⟩:=by apply nf;simpa using f1
        have g2:(⟨ML⟩:Array MapEntry).filter (fun e=>decide (e.born≥since))= #[]:=by apply nf;simpa using f2
        have hlen:=hL.length;have hne:(⟨ML⟩:Array MapEntry).isEmpty=false:=by
         cases ML with
         |nil=>simp at hlen
         |cons _ _=>rfl
        have hcand:((if(⟨ML⟩:Array MapEntry).isEmpty=true then #[none] else #[])++((⟨ML⟩:Array MapEntry)++ #[]).map some)=(⟨ML.map some⟩:Array (Option MapEntry)):=by
         rw[hne];apply nf;simp
        have step: ∀(j:Nat) (e1:cw) (w1:World),w1.heap=w.heap->pR w w1->(e::r)[j]? =some e1-> ∃m1,ML[j]? =some m1/\vK G e1 m1/\
         WR G (rj n m since clock seen e1 s).2.heap (dx w1 ad.block (.mapIter (some am.block) since ((⟨seen⟩:Array Nat).push m1.born) clock))/\
         ∀lo hi,cM G s.heap w G (rj n m since clock seen e1 s).2.heap (dx w1 ad.block (.mapIter (some am.block) since ((⟨seen⟩:Array Nat).push m1.born) clock)) lo hi:=by
         intro j e1 w1 hw1 hq1 hj;obtain⟨m1,hm1,hr1⟩:=hL.get hj;refine⟨m1,hm1,hr1,?_⟩;have wr1:=wr.of_heap hw1;have hb1:w1.heap[ad.block]? =some (.mapIter (some am.block) since ⟨seen⟩ stepped):=by rw[hw1];exact hb
         obtain⟨c1,c2⟩:=wr1.changed (o':=.iter (some m) since (seen++[e1.born]) clock) (ob:=.mapIter (some am.block) since ((⟨seen⟩:Array Nat).push m1.born) clock) (iZ hob) hat
          ⟨h0,some am.block,by rw[jb _ _ _ _ (fQ hb1),iP rfl,hr1.born];congr 2;apply nf;simp,am,ham,rfl⟩
          (fun i u hu=>by have:=(wr.apart n _ ad i u (iZ hob) hat hu).1;cases this)
          (fun d hd=>by obtain⟨C,e',hC,_⟩:=wr.dim _ d hd;rw[hb] at hC;cases hC)
         refine⟨c1,fun lo hi=>?_⟩
         have:=c2 lo hi;exact⟨this.le,by rw[<-hw1];exact this.size,fun b hb=>by rw[<-hw1] at hb ⊢;exact this.keep b hb,fun b hb=>by rw[<-hw1] at hb;exact this.owns b hb,this.names,fun b o v hb=>by rw[<-hw1] at hb;exact this.cells b o v hb,hq1.trans this.quiet⟩
        cases r with
        |nil=>
         simp only[aP] at he;obtain⟨m1,hm1,hr1,c1,c2⟩:=step 0 e w rfl (.refl w) (by simp);have hML1:ML=[m1]:=by
          cases ML with
          |nil=>simp at hlen
          |cons y ys=>
           cases ys with
           |nil=>simp at hm1;rw[hm1]
           |cons _ _=>simp at hlen
         have e1:v1=(rj n m since clock seen e s).1:=by rw[he]
         have e2:s1=(rj n m since clock seen e s).2:=by rw[he]
         subst e1;subst e2;refine .heap fx (y:=.tuple #[.bool true,m1.key,m1.val]) ?_ (.inl rfl) c1 (c2 _ _) (LV.of_VR (.tup (.cons (.bool _) (.cons hr1.key (.cons hr1.val .nil)))));subst hML1;simp only[execOp,ho,hXv',Instr.next,Sem.run_bind,Cz hb,iU,hstr,pu h3,hgo',hleft,g1,g2,hcand];simp[Question.forced,UJ _ hb]
        |cons e' r'=>
         replace he:=bm he;obtain⟨_,he⟩:=he;simp only[az] at he;obtain⟨e1,hj,he⟩:=he;simp only[aP,bj] at he;obtain⟨m1,hm1,hr1,c1,c2⟩:=step _ e1 w.drew rfl ⟨rfl,rfl,aU _,fun _ _=>rfl,rfl,Nat.le_succ _⟩ hj;obtain⟨rfl,rfl⟩:=he;have hMLlen:ML.length=(e::e'::r').length:=hlen.symm;have hnf: ¬ML.length<=1:=by rw[hMLlen];simp
         have hidx:(w.tape w.drawn (.mapNext ML.length)) % ML.length=ch s.ci % (e::e'::r').length:=by rw[hMLlen];exact(hch (by simp)).symm
         refine .heap fx (y:=.tuple #[.bool true,m1.key,m1.val]) ?_ (.inl rfl) c1 (c2 _ _) (LV.of_VR (.tup (.cons (.bool _) (.cons hr1.key (.cons hr1.val .nil)))));generalize ch s.ci % (e::e'::r').length=J at hm1 hidx;have hb':w.drew.heap[ad.block]? =some (.mapIter (some am.block) since ⟨seen⟩ stepped):=hb;simp only[execOp,ho,hXv',Instr.next,Sem.run_bind,Cz hb,iU,hstr,pu h3,hgo',hleft,g1,g2,hcand];simp[Question.forced,Question.cut,hnf,hidx,hm1,UJ _ hb']
     cases he
  cases he
 cases he
def O5{b:Nat}: ∀ {es:List cw} {e:cw} {ms:List MapEntry},uG b es=some e->gZ G es ms-> ∃m,ms.find? (fun e=>e.born==b)=some m/\vK G e m
 | [],_,_,h,_=>by simp[uG] at h
 |e::es,e',_,h,.cons (m:=m) (ms:=ms) he hs=>by
  simp only[uG] at h;replace h:=gh h;rcases h with⟨hb,h⟩|⟨hb,h⟩
  injection h with h;subst h
  have hb:=eU hb;exact⟨m,by rw[List.find?_cons_of_pos];rw[<-he.born,hb];simp,he⟩;have hb:=zb hb;obtain⟨m',h1,h2⟩:=O5 h hs;refine⟨m',?_,h2⟩;rw[List.find?_cons_of_neg];·exact h1
  rw[<-he.born];simpa using hb
def akS(ho:o.op= .entry x)(wr:WR G s.heap w)(fx:cy G s.heap B fr a.tmps w)(he:mE x (fun it=>rT mk it s) fr s=some (v,loc',s')):fE P G s.heap w B fr.loc lo hi a o v loc' s'.heap:=by
 simp only[mE,az] at he;obtain⟨xv,hx,he⟩:=he;replace he:=kO he;obtain⟨he,rfl,rfl⟩:=he;have hX:=(fx.evc hx).1;generalize hXv:a.eval x=X at hX;unfold rT at he;split at he
 ·rename_i n
  simp only[az] at he;obtain⟨ob,hob,he⟩:=he;cases hX with
  |ptr hat=>
  rename_i ad;obtain⟨ad',hat',hsp,hobj⟩:=wr.obj n _ (iZ hob);rw[hat] at hat';injection hat' with hat';subst hat'
  split at he;rename_i m since seen stepped;obtain⟨h0,m',hb,hm⟩:=hobj;cases m' with
  |none=>exact hm.elim
  |some mb=>
   obtain⟨am,ham,rfl⟩:=hm;simp only[az] at he;obtain⟨ob2,hob2,he⟩:=he;split at he;rename_i es clock;obtain⟨am',ES,h1,h2,h3,h4⟩:=uX wr hob2;rw[ham] at h1;injection h1 with h1;subst h1
   replace he:=bm he;obtain⟨hc,he⟩:=he;obtain rfl:=eU hc;simp only[az] at he;obtain⟨b,hlast,e,hfe,he⟩:=he;injection he with he;subst he
   obtain⟨me,hme,her⟩:=O5 hfe h4;have hme':ES.find? (fun e=>e.born==b)=some me:=by cases ES with|mk l=>simpa using hme
   have hback:(⟨seen⟩:Array Nat).back?=some b:=by
    rw[<-hlast];simp
   refine .pure wr fx (y:=.tuple #[me.key,me.val]) ?_ (LV.of_VR (.tup (.cons her.key (.cons her.val .nil))));simp[execOp,ho,hXv,h0,Instr.entry,Cz hb,hback,pu h3,hme'];cases he
  cases he
 cases he
end
def ig(h:n<9223372036854775808):IntKind.i64.wrap (Int.ofNat n)=Int.ofNat n:=by
 have:=IntWalk.i64_in (Int.ofNat n) (by constructor<;>simp<;>omega);exact this
section
variable{P:Program}{mk:aW}{G:Gh}{s s':St}{B:Nat->Nat}{fr:Fr}{a:Act}{w:World}{o:Oper}{lo hi:Nat}{v:ae}{loc':Loc}
def Gh.listed(G:Gh)(w:World)(n:Nat)(cs:List ae)(size:Nat):Gh:=(G.more w.heap.size (fun i=>cs[i]?) (some size)).name n ⟨w.heap.size,cs.length,none⟩
def Gh.listed_at(G:Gh)(w:World)(n:Nat)(cs:List ae)(size:Nat):(G.listed w n cs size).at_ n=some ⟨w.heap.size,cs.length,none⟩:=by simp[Gh.listed,Gh.name]
def Gh.listed_dim(G:Gh)(w:World)(n:Nat)(cs:List ae)(size:Nat):(G.listed w n cs size).dim w.heap.size=some size:=by simp[Gh.listed,Gh.name,Gh.more]
def Gh.listed_ro(G:Gh)(w:World)(n:Nat)(cs:List ae)(size i:Nat):(G.listed w n cs size).ro w.heap.size i=cs[i]? :=by simp[Gh.listed,Gh.name,Gh.more]
def WR.listed(x:WR G h w)(hn:G.at_ n=none)(C:Array Value)(e:TypeId)(cs:List ae)(hc: ∀(i:Nat) v,cs[i]? =some v->v.scal=true/\ ∃y,C[i]? =some y/\VR G v y):
 WR (G.listed w n cs C.size) (h.set n (some .tok)) (w.alloc (.cells C e))/\cM G h w (G.listed w n cs C.size) (h.set n (some .tok)) (w.alloc (.cells C e)) n (n+1):=by
 obtain⟨h1,h2⟩:=x.alloc (.cells C e) (fun i=>cs[i]?) (some C.size) (fun i v hi=>by
  obtain⟨hs,y,hy,hv⟩:=hc i v hi;exact⟨hs,C,e,rfl,y,hy,hv.mono (x.more_le _ _)⟩) (fun d hd=>⟨C,e,rfl,by injection hd⟩)
 have hno: ¬d7 (G.more w.heap.size (fun i=>cs[i]?) (some C.size)) h w.heap.size:=by
  rintro⟨m,a,hm,ha,hb⟩
  have:=x.below m a ha;omega
 have h3:=h1.named (n:=n) (a:=⟨w.heap.size,cs.length,none⟩) (o:=.tok) hn (by simp) rfl hno
  ⟨C,e,by rw[nX,iP rfl]⟩
  (fun i v hv=>by
   simp only[Gh.more,if_true] at hv;refine⟨rfl,?_⟩;rcases ix i cs.length with h|h
   exact h;simp[jE h] at hv)
 refine⟨h3,⟨(h2 0 0).le.trans (Gh.name_le _ _ hn),(h2 0 0).size,(h2 0 0).keep,?_,?_,?_,(h2 0 0).quiet⟩⟩;intro b hb ho;rcases Af ho with rfl|ho
 exact absurd hb (cR _);exact(h2 0 0).owns b hb ho;intro m a hm h0;simp only[Gh.listed,Gh.name,Gh.more] at hm;by_cases em:m=n;omega;rw[iN em,h0] at hm;cases hm;intro b o v hb hv h0;exact(h2 0 0).cells b o v hb hv h0
def ak3{l c:Operand}(ho:o.op= .makeSlice t l c)(wr:WR G s.heap w)(fx:cy G s.heap B fr a.tmps w)(he:GF P hint dst t l c fr s=some (v,loc',s'))(hfree: ∀n,s.al<=n->n<s'.al->G.at_ n=none):
 fE P G s.heap w B fr.loc s.al s'.al a o v loc' s'.heap:=by
 simp only[GF,az] at he;obtain⟨lv,hl,cv,hc,he⟩:=he;simp only[gH,az] at he;obtain⟨⟨v1,s1⟩,he,hq⟩:=he;simp only[aP,bj] at hq;obtain⟨rfl,rfl,rfl⟩:=hq;simp only[qR,az] at he;obtain⟨E,hE,ln,hln,cn,hcn,he⟩:=he;obtain⟨e,hd,hE⟩:=CE hE;obtain⟨hn,_,hg,hpos,hg1,i,zv,_,hi,hzv,hov,hzs,hib⟩:=vW hE;obtain⟨hzr,hzt⟩:=vf G hov;obtain⟨kl,rfl⟩:=zY hln;obtain⟨kc,rfl⟩:=zY hcn;have hL:VR G _ _:=fx.ev hl;have hC:VR G _ _:=fx.ev hc;generalize hLv:a.eval l=L at hL;generalize hCv:a.eval c=C at hC;cases hL;cases hC;replace he:=bm he;obtain⟨hcond,he⟩:=he;simp only[bA] at hcond;have h1:=ju hcond.1.1;have h2:=ju hcond.1.2;have h3:=ju hcond.2;obtain⟨R,hR,hRl,hRg⟩:=G6 hzr.cells cn;have hrow:=MQ (zs:=zv.cells) hRl hRg;rw[hzs] at hrow;have hRlen:R.length=cn*E.n:=by rw[hRl,wY,hzs]
 have hrun:(execOp a.eval o).run P w= .ok (.value (.slice (some ⟨w.heap.size,0,none⟩) ln cn)) (w.alloc (.cells ⟨R⟩ e)):=by
  have w1:=ig (n:=ln) (by omega);have w2:=ig (n:=cn) (by omega);have t1: ¬((cn:Int)<0):=by omega
  have t2: ¬((i.bytes:Int)*(cn:Int)>2 ^ 48):=by
   rw[hib];have:((E.b:Int)*(cn:Int))=((cn*E.b:Nat):Int):=by rw[Nat.mul_comm];simp
   rw[this];omega
  have t3: ¬((ln:Int)<0):=by omega
  have t4: ¬((ln:Int)>(cn:Int)):=by omega
  simp only[execOp,ho,hLv,hCv,Instr.makeSlice,Sem.run_bind,cW hd,iU,asInt,asIntOf,Sem.run_pure,typeInfo,run_program,hi,w1,w2];by_cases hz:cn*E.n=0;have hR0:R=[]:=uc.1 (by rw[hRlen];exact hz);subst hR0;have hm0: ∀(f:Nat->Value),Array.map f (Array.range 0)= #[]:=fun f=>by apply nf;simp
  simp[t4,gJ hn,hz,hm0,newRow];rintro((hh|hh)|hh);exact absurd hh t1;exact absurd hh (by simpa using t2);exact absurd hh t3;simp[t4,gJ hn,hz,tR hi hzv,hzs,hrow,newRow];rintro((hh|hh)|hh);exact absurd hh t1;exact absurd hh (by simpa using t2);exact absurd hh t3
 have hzr':=G7 (hzr.scals_cells hzt);have hpre: ∀(i:Nat) u,(eW E.z.cells ln)[i]? =some u->u.scal=true/\ ∃y,(⟨R⟩:Array Value)[i]? =some y/\VR G u y:=by
  intro i u hu;have hle: ∀(p q:Nat),p<=q-> ∀(i:Nat) u,(eW E.z.cells p)[i]? =some u->(eW E.z.cells q)[i]? =some u:=by
   intro p
   induction p with
   |zero=>intro q _ i u hu;simp[eW] at hu
   |succ p ih=>
    intro q hq i u hu;obtain⟨q,rfl⟩: ∃q',q=q'+1:=⟨q-1,by omega⟩;simp only[eW] at hu ⊢;by_cases hi:i<E.z.cells.length;rw[rA hi] at hu ⊢;exact hu;rw[sW (by omega)] at hu ⊢;exact ih q (by omega) _ _ hu
  have:=hR.rows (C:=⟨R⟩) (hzr' cn) i u (hle ln cn h1 i u hu);exact this
 replace he:=gh he;rcases he with⟨hz,he⟩|⟨_,he⟩
 simp only[bA] at hz;obtain rfl:=eU hz.1;simp only[aP,bj] at he;obtain⟨rfl,rfl⟩:=he;have hn0:G.at_ s.al=none:=hfree s.al (aU _) (by simp[St.new]);obtain⟨c1,c2⟩:=wr.listed hn0 ⟨R⟩ e [] (by simp);refine .heap fx hrun (.inl rfl) c1 c2 (LV.of_VR ?_);exact .list (.inr rfl) hpos (by simp) (cV _) (by simp[bB]) ⟨by simpa using Gh.listed_at G w s.al [] R.length,R.length,Gh.listed_dim G w s.al [] R.length,by simp[hRlen]⟩;simp only[aP,bj] at he;obtain⟨rfl,rfl⟩:=he;have hn0:G.at_ s.al=none:=hfree s.al (aU _) (by simp[St.new]);obtain⟨c1,c2⟩:=wr.boxed hn0 ⟨R⟩ e _ hpre;refine .heap fx hrun (.inl rfl) c1 c2 (LV.of_VR ?_);exact .arr (Gh.boxed_at G w s.al _) rfl hpos (aU _) h1 (.inr ⟨rfl,rfl⟩) (Gh.boxed_dim G w s.al _) (by simp[hRlen])
end
variable{ty:TypeId}
section
variable{P:Program}{mk:aW}{G:Gh}{s s':St}{B:Nat->Nat}{fr:Fr}{a:Act}{w:World}{o:Oper}{lo hi:Nat}{v:ae}{loc':Loc}
def am9{x:ae}{X:Value}(h:gD P mk t x s=some v)(hx:VR G x X)(wr:WR G s.heap w): ∃y,(vB #[t] ty #[X]).run P w= .ok y w/\VR G v y:=by
 simp only[gD,az] at h;obtain⟨d,hd,h⟩:=h;split at h;injection h with h;subst h;cases hx
 exact⟨_,by simp[vB,cW hd,goInt]<;>rfl,.int _ _⟩;injection h with h;subst h
 exact⟨_,by simp[vB,cW hd,goInt]<;>rfl,.int _ _⟩;injection h with h;subst h;cases hx
 exact⟨_,by simp[vB,cW hd,goInt]<;>rfl,.int _ _⟩;injection h with h;subst h;cases hx
 exact⟨_,by simp[vB,cW hd,goInt]<;>rfl,.int _ _⟩;injection h with h;subst h;cases hx
 exact⟨_,by simp[vB,cW hd,goInt]<;>rfl,.int _ _⟩;injection h with h;subst h;cases hx
 exact⟨_,by simp[vB,cW hd,goInt]<;>rfl,.int _ _⟩
 ·simp only[az] at h
  obtain⟨ob,hob,h⟩:=h;split at h
  ·injection h with h;subst h
   cases hx with
   |map hat=>
   obtain⟨ad,ES,h1,h2,h3,h4⟩:=uX wr hob;rw[hat] at h1;injection h1 with h1;subst h1
   refine⟨.int .i64 ES.size,by simp[vB,cW hd,pu h3,goInt],?_⟩
   have:=h4.length;rw[this];simpa using VR.int (G:=G) .i64 (ES.size:Int)
  cases h
 cases h
def UI{isMax:Bool}(w:World): ∀ {l:List ae} {x v:ae} {X:Value} {L:List Value},u5 isMax x l=some v->VR G x X->bP G l L->
 ∃y,(L.foldlM (if isMax then Builtin.max2 else Builtin.min2) X).run P w= .ok y w/\VR G v y:=by
 have e1: ∀l:List UInt8,(ByteArray.mk ⟨l⟩).toList=l:=fun l=>ByteArray.toList_mk l;intro l
 induction l with
 |nil=>
  intro x v X L h hx hl;cases hl;unfold u5 at h;split at h<;>first
   |(simp at*;done)
   |(injection h with h;subst h;exact⟨X,by simp,hx⟩)
   |(cases h)
 |cons y l ih=>
  intro x v X L h hx hl;cases hl with
  |cons hy hl=>
  rename_i Y L;unfold u5 at h;split at h;rename_i heq;cases heq;rename_i k p k' q l' heq;simp only[pE] at heq;obtain⟨rfl,rfl⟩:=heq;replace h:=bm h;obtain⟨hk,h⟩:=h;cases hx;cases hy;cases isMax;obtain⟨z,hz,hv⟩:=ih h (.int _ _) hl;refine⟨z,?_,hv⟩;simp only[List.foldlM_cons,ua,if_false,Sem.run_bind,Builtin.min2,Sem.run_pure,iU];simp only[ua,if_false,cF,bG] at hz;rw[<-hz];congr 3;by_cases hq:q<p<;>simp[hq];obtain⟨z,hz,hv⟩:=ih h (.int _ _) hl;refine⟨z,?_,hv⟩;simp only[List.foldlM_cons,if_true,Sem.run_bind,Builtin.max2,Sem.run_pure,iU];simp only[if_true,cT,bG] at hz;rw[<-hz];congr 3;by_cases hq:p<q<;>simp[hq];rename_i heq;cases heq;rename_i p q l' heq;simp only[pE] at heq;obtain⟨rfl,rfl⟩:=heq;cases hx;cases hy;cases isMax;obtain⟨z,hz,hv⟩:=ih h (.str _) hl;refine⟨z,?_,hv⟩;simp only[List.foldlM_cons,ua,if_false,Sem.run_bind,Builtin.min2,Op.stringOp,asBool,Sem.run_pure,iU,e1];simp only[ua,if_false,cF,R1] at hz;rw[<-hz];cases hq:(c8 p q||p==q)<;>simp;obtain⟨z,hz,hv⟩:=ih h (.str _) hl;refine⟨z,?_,hv⟩;simp only[List.foldlM_cons,if_true,Sem.run_bind,Builtin.max2,Op.stringOp,asBool,Sem.run_pure,iU,e1];simp only[if_true,cT] at hz;rw[<-hz];cases hq:(c8 p q)<;>simp;cases h
end
def aod(s:List UInt8)(l h:Nat):(ByteArray.mk ⟨s⟩).extract l h=ByteArray.mk ⟨(s.take h).drop l⟩:=by
 apply ByteArray.ext;rw[ByteArray.data_extract];apply nf;simp only[Array.toList_extract,List.extract];rw[List.drop_take]
variable{m:Nat}
section
variable{P:Program}{mk:aW}{G:Gh}{s s':St}{B:Nat->Nat}{fr:Fr}{a:Act}{w:World}{o:Oper}{lo hi:Nat}{v:ae}{loc':Loc}
def AQ(x:Option Value)(d n:Nat):Prop:=(x=none/\n=d)\/ ∃k,x=some (.int k (.ofNat n))
def nG(fx:cy G s.heap B fr a.tmps w){x:Option Operand}{d:Nat}(h:iM fr.env x d=some n):AQ (x.map a.eval) d n:=by
 cases x with
 |none=>simp[iM] at h;exact .inl ⟨rfl,h.symm⟩
 |some x=>
  simp only[iM,az] at h;obtain⟨u,hu,h⟩:=h;obtain⟨k,rfl⟩:=zY h;have hl:VR G _ _:=fx.ev hu;generalize hX:a.eval x=X at hl;cases hl;exact .inr ⟨k,by simp[hX]⟩
def Cx{isS:Bool}{len l h:Nat}{lv hv:Option Value}(hl:AQ lv 0 l)(hh:AQ hv len h)(h1:h<=cap)(h2:l<=h)(w:World):
 (Instr.sliceBounds isS len cap lv hv none).run P w= .ok (l,h,cap) w:=by
 have e1: ∀n m:Nat,n<=m->(0<=(Int.ofNat n)/\(Int.ofNat n)<=(m:Int)):=fun n m hnm=>⟨Int.natCast_nonneg n,Int.ofNat_le.2 hnm⟩;rcases hl with⟨rfl,rfl⟩|⟨k,rfl⟩<;>rcases hh with⟨rfl,rfl⟩|⟨k',rfl⟩<;>
  simp[Instr.sliceBounds,Instr.sliceBound,asIntOf,h1,h2]
def UD{len l h:Nat}{lv hv mv:Option Value}(hl:AQ lv 0 l)(hh:AQ hv len h)(hm: ∃k,mv=some (.int k (.ofNat m)))(hs:hv.isSome=true)(h0:m<=cap)(h1:h<=m)(h2:l<=h)(w:World):
 (Instr.sliceBounds true len cap lv hv mv).run P w= .ok (l,h,m) w:=by
 obtain⟨km,rfl⟩:=hm;rcases hh with⟨rfl,rfl⟩|⟨k',rfl⟩
 simp at hs;rcases hl with⟨rfl,rfl⟩|⟨k,rfl⟩<;>simp[Instr.sliceBounds,Instr.sliceBound,asIntOf,h0,h1,h2]
def abR(hsz: ∀x∈xs,x.cells.length=sz){h l:Nat}(_h1:h<=xs.length)(_h2:l<=h):
 ∀(i:Nat) u,(bB ((xs.take h).drop l))[i]? =some u->(bB xs)[l*sz+i]? =some u:=by
 have hd: ∀(l:Nat) (xs:List ae),(∀x∈xs,x.cells.length=sz)->bB (xs.drop l)=(bB xs).drop (l*sz):=by
  intro l
  induction l with
  |zero=>intro xs _;simp
  |succ l ih=>
   intro xs hx;cases xs with
   |nil=>simp[bB]
   |cons x xs=>
    simp only[List.drop_succ_cons,bB];rw[ih xs (fun y hy=>hx y (by simp[hy])),uk,Nat.add_comm,<-List.drop_drop,List.drop_append_of_le_length (by rw[hx x (by simp)];exact aU _)];rw[<-hx x (by simp),List.drop_length,mf]
 have ht: ∀(xs ys:List ae),bB (xs++ys)=bB xs++bB ys:=by
  intro xs ys
  induction xs with
  |nil=>simp[bB]
  |cons x xs ih=>simp[bB,ih]
 intro i u hu;rw[hd l _ (fun y hy=>hsz y (ug hy)),vF] at hu;have e:bB xs=bB (xs.take h)++bB (xs.drop h):=by rw[<-ht,oH]
 rw[e];rcases ix (l*sz+i) (bB (xs.take h)).length with hlt|hge
 rw[rA hlt];exact hu;rw[jE hge] at hu;cases hu
def ala{lop hop mop:Option Operand}(ho:o.op= .slice t x lop hop mop)(wr:WR G s.heap w)(fx:cy G s.heap B fr a.tmps w)(he:mE x (fun x=>ib P mk t x lop hop mop fr.env s) fr s=some (v,loc',s')):fE P G s.heap w B fr.loc lo hi a o v loc' s'.heap:=by
 simp only[mE,az] at he;obtain⟨xv,hx,he⟩:=he;replace he:=kO he;obtain⟨he,rfl,rfl⟩:=he;have hX:=(fx.evc hx).1;generalize hXv:a.eval x=X at hX;simp only[ib,az] at he;obtain⟨d,hd,he⟩:=he;split at he;split at he;rename_i bs;simp only[az] at he;obtain⟨h,hh,l,hl,he⟩:=he;replace he:=bm he;obtain⟨hc,he⟩:=he;simp only[bA] at hc;injection he with he;subst he
 cases hX;refine .pure wr fx (y:=.string ⟨⟨(bs.take h).drop l⟩⟩) ?_ (LV.of_VR (.str _));have hb:=Cx (P:=P) (isS:=false) (cap:=bs.length) (nG fx hl) (nG fx hh) (ju hc.2) (ju hc.1) w;have hsz:(ByteArray.mk ⟨bs⟩).size=bs.length:=rfl;simp[execOp,ho,hXv,Instr.sliceAt,Instr.slice,cW hd,hsz,hb,aod];cases he
 ·rename_i e
  simp only[az] at he;obtain⟨n,hn,he⟩:=he;split at he;simp only[az] at he;obtain⟨h,hh,l,hl,m,hm,he⟩:=he;replace he:=bm he;obtain⟨hc,he⟩:=he;simp only[bA] at hc;have hiso:=hc.2;obtain rfl:=eU hc.1.1.1;obtain rfl:=eU hc.1.1.2;obtain rfl:=eU hc.1.2;injection he with he;subst he
  cases hX;refine .pure wr fx (y:=.slice none 0 0) ?_ (LV.of_VR .AL);cases mop with
  |none=>
   have hb:=Cx (P:=P) (isS:=true) (cap:=0) (nG fx hl) (nG fx hh) (aU _) (aU _) w;simp[execOp,ho,hXv,Instr.sliceAt,Instr.slice,cW hd,hb,gJ hn]
  |some mx=>
   have hbm:=nG fx hm;rcases hbm with⟨h0,_⟩|⟨km,hkm⟩
   cases h0;cases hop with
   |none=>simp at hiso
   |some hx=>
    have hb:=UD (P:=P) (cap:=0) (nG fx hl) (nG fx hh) ⟨km,hkm⟩ rfl (aU _) (aU _) (aU _) w;simp only[s8] at hb;simp[execOp,ho,hXv,Instr.sliceAt,Instr.slice,cW hd,hb,gJ hn]
  ·rename_i sz xs r
   simp only[az] at he;obtain⟨h,hh,l,hl,he⟩:=he;replace he:=bm he;obtain⟨hc,he⟩:=he;simp only[bA] at hc;obtain rfl:=eU hc.1.1;have hlh:=ju hc.1.2;have hhl:=ju hc.2;cases hX with
   |list hsp hpos hsz hcap hro hr=>
   rename_i ad cap;obtain⟨b,off,sp⟩:=ad;have hsp0:0<cap->sp=none:=fun h0=>by
    rcases hsp with h|h
    omega;exact h
   have hlen:((xs.take h).drop l).length=h-l:=by simp;omega
   have hmem: ∀y∈(xs.take h).drop l,y.cells.length=sz:=fun y hy=>hsz y (ug (xa hy));have hcells: ∀(i:Nat) u,(bB ((xs.take h).drop l))[i]? =some u->G.ro b (off+l*sz+i)=some u:=fun i u hu=>by
    rw[qD];exact hro _ _ (abR hsz hhl hlh i u hu)
   split at he;injection he with he;subst he
   have hb:=Cx (P:=P) (isS:=true) (cap:=cap) (nG fx hl) (nG fx hh) (by omega) hlh w;refine .pure wr fx (y:=.slice (some (if cap=l then⟨b,off,sp⟩ else⟨b,off+l*sz,none⟩)) (h-l) (cap-l)) ?_ (LV.of_VR ?_);by_cases hcl:cap=l;subst hcl;simp[execOp,ho,hXv,Instr.sliceAt,Instr.slice,cW hd,hb,gJ hn];obtain rfl:=hsp0 (by omega);simp[execOp,ho,hXv,Instr.sliceAt,Instr.slice,cW hd,hb,gJ hn,hcl,nW];rw[<-hlen];refine .list (by by_cases hcl:cap=l;exact .inl (by omega);exact .inr (by rw[iN hcl])) hpos hmem (by rw[hlen];omega) ?_ ?_;intro i u hu;by_cases hcl:cap=l;have:(xs.take h).drop l=[]:=uc.1 (by rw[hlen];omega);rw[this] at hu;simp[bB] at hu;rw[iN hcl];exact hcells i u hu;rw[hlen];cases hcnd:(aJ h xs.length&&(bk l h||aJ l 0)) with
   |false=>trivial
   |true=>
    simp only[bA,sU] at hcnd;have hhx:=eU hcnd.1;simp only[cT];cases r with
    |GE=>simp only[AZ] at hr ⊢;omega
    |no=>trivial
    |own k=>
     obtain⟨hk,dm,hdm,hle⟩:=hr;simp only at hle;have hcase:l<h\/l=0:=hcnd.2.imp oQ eU;have key:(l=0/\(if cap=l then(⟨b,off,sp⟩:Addr) else⟨b,off+l*sz,none⟩)=⟨b,off,sp⟩)\/(if cap=l then(⟨b,off,sp⟩:Addr) else⟨b,off+l*sz,none⟩)=⟨b,off+l*sz,none⟩:=by
      rcases hcase with hc|rfl
      exact .inr (by rw[iN (by omega)]);refine .inl ⟨rfl,?_⟩;by_cases h0:cap=0;rw[iP h0];obtain rfl:=hsp0 (by omega);rw[iN h0];simp
     rcases key with⟨rfl,hk'⟩|hk'
     rw[hk'];subst hhx;exact⟨by simpa using hk,dm,hdm,by simpa using hle⟩;rw[hk'];subst hhx;refine⟨?_,dm,hdm,?_⟩;rw[hk];congr 2;simp only;have:xs.length*sz=l*sz+(xs.length-l)*sz:=by rw[<-oI];congr 1;omega
     omega;simp only;have:cap*sz=l*sz+(cap-l)*sz:=by rw[<-oI];congr 1;omega
     omega
   simp only[az] at he;obtain⟨m,hm,he⟩:=he;replace he:=bm he;obtain⟨hmh,he⟩:=he;simp only[bA] at hmh;obtain rfl:=eU hmh.1;injection he with he;subst he
   have hbm:=nG fx hm;rcases hbm with⟨h0,_⟩|⟨km,hkm⟩
   cases h0;have hb:=UD (P:=P) (cap:=cap) (nG fx hl) (nG fx hh) ⟨km,hkm⟩ (by simpa using hmh.2) (by omega) (aU _) hlh w;simp only[s8] at hb;refine .pure wr fx (y:=.slice (some (if m=l then⟨b,off,sp⟩ else⟨b,off+l*sz,none⟩)) (m-l) (m-l)) ?_ (LV.of_VR ?_);by_cases hcl:m=l;subst hcl;simp[execOp,ho,hXv,Instr.sliceAt,Instr.slice,cW hd,hb,gJ hn];obtain rfl:=hsp0 (by omega);simp[execOp,ho,hXv,Instr.sliceAt,Instr.slice,cW hd,hb,gJ hn,hcl,nW];rw[<-hlen];refine .list (by by_cases hcl:m=l;exact .inl (by omega);exact .inr (by rw[iN hcl])) hpos hmem (aU _) ?_ rfl;intro i u hu;by_cases hcl:m=l;have:(xs.take m).drop l=[]:=uc.1 (by rw[hlen];omega);rw[this] at hu;simp[bB] at hu;rw[iN hcl];exact hcells i u hu
  ·rename_i sz n' off len lcap
   simp only[az] at he;obtain⟨h,hh,l,hl,he⟩:=he;replace he:=bm he;obtain⟨hc,he⟩:=he;simp only[bA] at hc;obtain rfl:=eU hc.1.1.1;have hlh:=ju hc.1.1.2;have hhl:=ju hc.1.2;cases mop with
   |some _=>simp at hc
   |none=>
   injection he with he;subst he
   cases hX with
   |arr hat hsp hpos hlen hcap hadr hdim hle=>
   rename_i ad bd cap dm;obtain⟨b,aoff,sp⟩:=ad;simp only at hsp;subst hsp;have hb:=Cx (P:=P) (isS:=true) (cap:=cap) (nG fx hl) (nG fx hh) (by omega) hlh w;refine .pure wr fx (y:=.slice (some (if cap=l then⟨b,aoff,none⟩ else⟨b,aoff+l*sz,none⟩)) (h-l) (cap-l)) ?_ (LV.of_VR ?_);by_cases hcl:cap=l;subst hcl;simp[execOp,ho,hXv,Instr.sliceAt,Instr.slice,cW hd,hb,gJ hn];simp[execOp,ho,hXv,Instr.sliceAt,Instr.slice,cW hd,hb,gJ hn,hcl,nW];have hmul:cap*sz=l*sz+(cap-l)*sz:=by rw[<-oI];congr 1;omega
   refine .arr hat (by split<;>rfl) hpos (by omega) (by omega) ?_ hdim (by omega);rcases hadr with h0|⟨h1,h2⟩
   exact .inl (by omega);by_cases hcl:cap=l;exact .inl (by omega);rw[iN hcl];exact .inr ⟨h1,by simp only at h2 ⊢;omega⟩
  cases he
 ·rename_i len e
  simp only[az] at he;obtain⟨n,hn,he⟩:=he;split at he
  ·rename_i m off
   simp only[az] at he;obtain⟨h,hh,l,hl,ob,hob,he⟩:=he;split at he
   ·rename_i cs
    replace he:=bm he;obtain⟨hc,he⟩:=he;simp only[bA] at hc;have hlh:=ju hc.1.1.1.1;have hhl:=ju hc.1.1.1.2;have hnz:0<len*n:=oQ hc.1.2;have hpos:0<n:=Nat.pos_of_mul_pos_left hnz;have hin:=ju hc.2;cases mop with
    |some _=>simp at hc
    |none=>
    injection he with he;subst he
    cases hX with
    |ptr hat=>
    rename_i ad;obtain⟨ad',hat',hsp,C,ty,hb,hdm,hcs⟩:=wr.obj m _ (iZ hob);rw[hat] at hat';injection hat' with hat';subst hat'
    have hbd:=Cx (P:=P) (isS:=false) (cap:=len) (nG fx hl) (nG fx hh) hhl hlh w;have hsz:ad.off+cs.length<=C.size\/cs.length=0:=by
     rcases xf cs.length with h0|h0
     exact .inr h0;obtain⟨_,y,hy,_⟩:=hcs (cs.length-1) cs[cs.length-1] (gL (by omega));have:ad.off+(cs.length-1)<C.size:=by
      rcases ix (ad.off+(cs.length-1)) C.size with h|h
      exact h;simp[yJ h] at hy
     exact .inl (by omega)
    have hmul:len*n=l*n+(len-l)*n:=by rw[<-oI];congr 1;omega
    refine .pure wr fx (y:=.slice (some (if len=l then⟨ad.block,ad.off+off,none⟩ else⟨ad.block,ad.off+off+l*n,none⟩)) (h-l) (len-l)) ?_ (LV.of_VR ?_);by_cases hcl:len=l;subst hcl;simp[execOp,ho,hXv,Instr.sliceAt,cW hd,Instr.sureAddr,hbd,gJ hn];simp[execOp,ho,hXv,Instr.sliceAt,cW hd,Instr.sureAddr,hbd,gJ hn,hcl,nW];refine .arr hat (by split<;>rfl) hpos (by omega) (aU _) ?_ hdm (by omega);by_cases hcl:len=l;exact .inl (by omega);rw[iN hcl];exact .inr ⟨rfl,by simp only;omega⟩
   cases he
  cases he
 cases he
end
variable{CY:Array Value}{mu:Bool}{need:Nat}{base:Option Addr}{et t2:TypeId}{x:ae}
section
variable{P:Program}{mk:aW}{G:Gh}{s s':St}{B:Nat->Nat}{fr:Fr}{a:Act}{w:World}{o:Oper}{lo hi:Nat}{v:ae}{loc':Loc}
def VR.slice_len{X:Value}(h:VR G x X)(hs:xS x=true): ∃b n c,X= .slice b n c:=by
 cases h<;>first|(simp[xS] at hs;done)|exact⟨_,_,_,rfl⟩
def Cy{g:Bool}{ys:List ae}(hg:g=false->n=1)(hpos:0<n)(h:jS mk g n y s=some ys)(hy:VR G y Y)(wr:WR G s.heap w):
 ∃C:Array Value,(∀w':World,w'.heap=w.heap->(w7 Y).run P w'= .ok ys.length w'/\ ∀k,k<=ys.length->(ru n k Y).run P w'= .ok ⟨C.toList.take (k*n)⟩ w')/\bP G (bB ys) C.toList/\dn (bB ys)=true/\ ∀u∈ys,u.cells.length=n:=by
 unfold jS at h;split at h;injection h with h;subst h;cases hy
 refine⟨#[],fun w' hw'=>⟨by simp[w7],fun k hk=>?_⟩,.nil,rfl,by simp⟩;obtain rfl:k=0:=by simpa using hk
 simp[ru]
 ·rename_i sz xs r
  replace h:=bm h;obtain⟨hsz,h⟩:=h;obtain rfl:=eU hsz;injection h with h;subst h
  cases hy with
  |list hsp hp hm hcap hro hr=>
  rename_i ad cap;obtain⟨b,off,sp⟩:=ad;have hsp0:0<cap->sp=none:=fun h0=>by
   rcases hsp with h|h
   omega;exact h
  obtain⟨vs,h1,h2,h3⟩:=L4 (G:=G) (cs:=bB xs) (f:=fun i=>w.cell? ⟨b,off+i,none⟩) (fun i u hu=>wr.ro _ _ _ (hro i u hu));refine⟨⟨vs⟩,fun w' hw'=>⟨by simp[w7],fun k hk=>?_⟩,h1,h2,hm⟩;have hcell: ∀ad,w'.cell? ad=w.cell? ad:=fun ad=>by simp[World.cell?,hw']
  have hlen:(vs.take (k*sz)).length=k*sz:=by
   rw[oG,<-h1.length,mw hm];exact AO (uj _ hk)
  have hl:=run_loadCells_list (P:=P) (w:=w') ⟨b,off,sp⟩ (vs.take (k*sz)) (fun j v hj=>by
   have hk0:0<cap:=by
    have hjl:j<(vs.take (k*sz)).length:=by
     rcases ix j (vs.take (k*sz)).length with h|h
     exact h;simp[jE h] at hj
    rw[hlen] at hjl;rcases xf k with h|h
    subst h;omega;omega
   obtain rfl:=hsp0 hk0;rw[nW,hcell];refine h3 j v ?_;rw[yO] at hj;split at hj;exact hj;cases hj)
  rw[hlen] at hl;simpa[ru] using hl
 ·rename_i sz m off len lcap
  replace h:=bm h;obtain⟨hsz,h⟩:=h;obtain rfl:=eU hsz;simp only[az] at h;obtain⟨ob,hob,h⟩:=h;split at h
  ·rename_i cs
   simp only[az] at h;obtain⟨c,hc,h⟩:=h;cases hy with
   |arr hat hsp hp hlen hcap hadr hdim hle=>
   rename_i ad bd cap dm;obtain⟨b,aoff,sp⟩:=ad;simp only at hsp;subst hsp;obtain⟨bd',hat',hsp',C,ty,hb,_,hcs⟩:=wr.obj m _ (iZ hob);rw[hat] at hat';injection hat' with hat';subst hat'
   have hsc:dn c=true:=by
    simp only[dn,fY];intro u hu;obtain⟨i,hi⟩:=List.mem_iff_getElem?.1 hu;exact(hcs _ u (Bi hc hi)).1
   obtain⟨c1,c2,c3⟩:=ze hg h hsc;obtain⟨vs,h1,h2,h3⟩:=L4 (G:=G) (cs:=c) (f:=fun i=>w.cell? ⟨bd.block,bd.off+off+i,none⟩) (fun i u hu=>by
    obtain⟨q1,y,hy,q2⟩:=hcs _ u (Bi hc hu);exact⟨q1,y,by rw[qc hb,qD];exact hy,q2⟩)
   refine⟨⟨vs⟩,fun w' hw'=>⟨by simp[w7,c1],fun k hk=>?_⟩,by rw[c2];exact h1,by rw[c2];exact h2,c3⟩;have hcell: ∀ad,w'.cell? ad=w.cell? ad:=fun ad=>by simp[World.cell?,hw']
   rw[c1] at hk;have hvl:vs.length=len*sz:=by rw[<-h1.length];exact(zj hc).2
   have hlen':(vs.take (k*sz)).length=k*sz:=by
    rw[oG,hvl];exact AO (uj _ hk)
   rcases hadr with h0|⟨e1,e2⟩
   obtain rfl:k=0:=by omega
   simp[ru,loadCells,loadCellsFrom];simp only at e1 e2;subst e1;subst e2;have hl:=run_loadCells_list (P:=P) (w:=w') ⟨bd.block,bd.off+off,none⟩ (vs.take (k*sz)) (fun j v hj=>by
    rw[nW,hcell];refine h3 j v ?_;rw[yO] at hj;split at hj;exact hj;cases hj)
   rw[hlen'] at hl;simpa[ru] using hl
  cases h
 cases h
def Pv(newLen:Nat): ∀(r c:Nat),Builtin.growBy newLen r c<=max c (newLen+(newLen+768) / 4)
 |0,c=>by simp[Builtin.growBy];omega
 |r+1,c=>by
  unfold Builtin.growBy;split;omega
  have:=Pv newLen r (c+(c+768) / 4);omega
def aj7(h:cap<need):HE need cap<=need*2+1024:=by
 unfold HE;split;omega;split;omega
 have:=Pv need 4 cap;omega
def amT(h:lW need b=true)(hc:cap<need): ¬HE need cap*b>2 ^ 48:=by
 have h1:=ju h;have h2:=aj7 hc;have:HE need cap*b<=(need*2+1024)*b:=uj _ h2;omega
def amU(h:lW need b=true)(hb:0<b):need<2 ^ 47:=by
 have h1:=ju h;have:need*2+1024<=(need*2+1024)*b:=Nat.le_mul_of_pos_right _ hb;omega
def am3(hd:P.underlying t=some (.slice e))(hE:xH P e=some E)(ht2:nF P t2=true){len k:Nat}{CX:Array Value}(hk: ∀w':World,w'.heap=w.heap->(w7 Y).run P w'= .ok k w')(hX: ∀w':World,w'.heap=w.heap->(ru E.n len (.slice base len cap)).run P w'= .ok CX w')(hY: ∀w':World,w'.heap=w.heap->(ru E.n k Y).run P w'= .ok CY w')(hn:cap<len+k)(hr:lW (len+k) E.b=true)(hx:CX.size=len*E.n)(hy:CY.size=k*E.n):
 ∃(newCap:Nat) (R:Array Value),len+k<=newCap/\R.size=newCap*E.n/\(∀i:Nat,i<(len+k)*E.n->R[i]? =(CX++CY)[i]?)/\
  (vA #[t,t2] ty #[.slice base len cap,Y]).run P w= .ok (.slice (some ⟨w.heap.size,0,none⟩) (len+k) newCap) (w.drew.alloc (.cells R e)):=by
 obtain⟨hsz,_,hg,hpos,hg1,i,zv,hb0,hi,hzv,hov,hzs,hib⟩:=vW hE;have hcap:=amT hr hn;have hmax:=amU hr hb0
 let newCap:=(Question.appendCap (len+k) cap e).cut (w.tape w.drawn (.appendCap (len+k) cap e))
 have hnc:len+k<=newCap:=by simp only[newCap,Question.cut];omega
 refine⟨newCap,CX++CY++Builtin.zeroCells zv.cells (newCap-(len+k)),hnc,?_,?_,?_⟩;simp only[Array.size_append,hx,hy,Builtin.zeroCells,Array.size_map,Array.size_range,hzs];rw[<-oI,<-oI];congr 1;omega;intro i hi;rw[Array.getElem?_append_left];simp only[Array.size_append,hx,hy];rw[<-oI];exact hi;have ht2': ∃e2,P.underlying t2=some (.slice e2):=by
  unfold nF at ht2;split at ht2;rename_i e2 h;exact⟨e2,h⟩;cases ht2
 obtain⟨e2,ht2'⟩:=ht2';have hle: ¬len+k<=cap:=by omega
 have hX':=hX w.drew rfl;have hY':=hY w.drew rfl;simp[vA,cW hd,gJ hsz,cW ht2',hk w rfl,hle,typeInfo,hi,hib,hcap,Question.forced,hX',hY',tR hi hzv,newRow];rw[iN (fun h=>by have:=h.2;omega)]
def L6(hd:P.underlying t=some (.slice e))(hE:xH P e=some E)(ht2:nF P t2=true){len k:Nat}(hk:(w7 Y).run P w= .ok k w)(hY:(ru E.n k Y).run P w= .ok CY w)(hn:len+k<=cap)(hb:w.heap[b]? =some (.cells C et (0,0)))(hfit:off+len*E.n+CY.size<=C.size)(hone: ∀y∈CY.toList,y.oneCell'=true):
 (vA #[t,t2] ty #[.slice (some ⟨b,off,none⟩) len cap,Y]).run P w= .ok (.slice (some ⟨b,off,none⟩) (len+k) cap) (dx w b (.cells (jp C (off+len*E.n) CY.toList) et (0,0))):=by
 obtain⟨hsz,_,hg,hpos,hg1,i,zv,hb0,hi,hzv,hov,hzs,hib⟩:=vW hE;have ht2': ∃e2,P.underlying t2=some (.slice e2):=by
  unfold nF at ht2;split at ht2;rename_i e2 h;exact⟨e2,h⟩;cases ht2
 obtain⟨e2,ht2'⟩:=ht2';have hst:=Hd (P:=P) b (off+len*E.n) et CY.toList 0 w C hb (by simpa using hfit) hone;simp only[qE] at hst;simp[vA,cW hd,gJ hsz,cW ht2',hk,hn,hY,nW,hst]
def am4(hd:P.underlying t=some (.slice e))(hE:xH P e=some E)(ht2:nF P t2=true){len:Nat}(hk:(w7 Y).run P w= .ok 0 w)(hY:(ru E.n 0 Y).run P w= .ok #[] w)(hn:len<=cap):
 (vA #[t,t2] ty #[.slice base len cap,Y]).run P w= .ok (.slice base len cap) w:=by
 obtain⟨hsz,_,hg,hpos,hg1,i,zv,hb0,hi,hzv,hov,hzs,hib⟩:=vW hE;have ht2': ∃e2,P.underlying t2=some (.slice e2):=by
  unfold nF at ht2;split at ht2;rename_i e2 h;exact⟨e2,h⟩;cases ht2
 obtain⟨e2,ht2'⟩:=ht2';cases base<;>simp[vA,cW hd,gJ hsz,cW ht2',hk,hn,hY,storeCells]
def v7(xs ys:List ae):bB (xs++ys)=bB xs++bB ys:=by
 induction xs with
 |nil=>simp[bB]
 |cons x xs ih=>simp[bB,ih]
def VR.cap_le{b:Option Addr}(h:VR G x (.slice b n c)):n<=c:=by
 cases h<;>omega
def aiO{zs:List ae}{v1:ae}{s1 s2:St}{newCap:Nat}{R:Array Value}(hpos:0<E.n)(wr:WR G s2.heap w)(he:kK E mu zs s2=some (v1,s1))(hn0:G.at_ s2.al=none)(hz: ∀z∈zs,z.cells.length=E.n)(hcap:zs.length<=newCap)(hR:R.size=newCap*E.n)(hc: ∀(i:Nat) v,(bB zs)[i]? =some v->v.scal=true/\ ∃y,R[i]? =some y/\VR G v y):
 s1.al=s2.al+1/\ ∃G',WR G' s1.heap (w.drew.alloc (.cells R e))/\cM G s2.heap w G' s1.heap (w.drew.alloc (.cells R e)) s2.al (s2.al+1)/\VR G' v1 (.slice (some ⟨w.heap.size,0,none⟩) zs.length newCap):=by
 have wr':WR G s2.heap w.drew:=wr.of_heap rfl;have fixExt: ∀ {G' h'},cM G s2.heap w.drew G' h' (w.drew.alloc (.cells R e)) s2.al (s2.al+1)->cM G s2.heap w G' h' (w.drew.alloc (.cells R e)) s2.al (s2.al+1):=
  fun x=>⟨x.le,x.size,x.keep,x.owns,x.names,x.cells,pR.trans (⟨rfl,rfl,aU _,fun _ _=>rfl,rfl,Nat.le_succ _⟩:pR w w.drew) x.quiet⟩
 simp only[kK] at he;replace he:=bm he;obtain⟨_,he⟩:=he;replace he:=gh he;rcases he with⟨_,he⟩|⟨_,he⟩
 simp only[aP,bj] at he;obtain⟨rfl,rfl⟩:=he;obtain⟨c1,c2⟩:=wr'.boxed hn0 R e (bB zs) hc;exact⟨rfl,_,c1,fixExt c2,.arr (Gh.boxed_at G w.drew s2.al R.size) rfl hpos (aU _) hcap (.inr ⟨rfl,rfl⟩) (Gh.boxed_dim G w.drew s2.al R.size) (by simp[hR])⟩;simp only[aP,bj] at he;obtain⟨rfl,rfl⟩:=he;obtain⟨c1,c2⟩:=wr'.listed hn0 R e (bB zs) hc;refine⟨rfl,_,c1,fixExt c2,.list (.inr rfl) hpos hz hcap (fun i x hx=>by rw[gl];exact(Gh.listed_ro G w.drew s2.al (bB zs) R.size i).trans hx) ⟨?_,R.size,Gh.listed_dim G w.drew s2.al (bB zs) R.size,by simp[hR]⟩⟩;rw[Gh.listed_at,mw hz];simp
def Gh.grown(G:Gh)(b e0:Nat)(cs:List ae):Gh where
 at_:=G.at_
 ro c o:=if c=b/\e0<=o/\o<e0+cs.length then cs[o-e0]? else G.ro c o
 dim:=G.dim
def WR.extend(wr:WR G h w){k e0:Nat}(hk:h.get k=some .tok)(hat:G.at_ k=some ⟨b,e0,none⟩)(hn:G.at_ n=none)(hb:w.heap[b]? =some (.cells C et (0,0)))(hv:bP G cs CY.toList)(hs:dn cs=true)(hfit:e0+CY.size<=C.size):
 WR ((G.grown b e0 cs).name n ⟨b,e0+cs.length,none⟩) ((h.set k none).set n (some .tok)) (dx w b (.cells (jp C e0 CY.toList) et (0,0)))/\
 cM G h w ((G.grown b e0 cs).name n ⟨b,e0+cs.length,none⟩) ((h.set k none).set n (some .tok)) (dx w b (.cells (jp C e0 CY.toList) et (0,0))) n (n+1):=by
 have hlt:=fQ hb;have hlen:cs.length=CY.size:=by simpa using hv.length
 have hblk: ∀c,(dx w b (.cells (jp C e0 CY.toList) et (0,0))).heap[c]? =if c=b then some (.cells (jp C e0 CY.toList) et (0,0)) else w.heap[c]? :=fun c=>jb w b c _ hlt
 have hold: ∀i v,G.ro b i=some v->i<e0:=fun i v hi=>(wr.apart k _ _ i v hk hat hi).2;have hown:d7 G h b:=⟨k,_,by rw[hk];simp,hat,rfl⟩;have hle:G.le (G.grown b e0 cs):=⟨fun _ _ e=>e,fun c o v e=>by
  simp only[Gh.grown];rw[iN];exact e;rintro⟨rfl,h1,_⟩
  have:=hold o v e;omega,fun _ _ e=>e⟩
 have wk:=wr.killed k;have hno: ¬d7 G (h.set k none) b:=Gs (a:=⟨b,e0,none⟩) wr (by rw[hk];simp) hat;have w1:WR (G.grown b e0 cs) (h.set k none) (dx w b (.cells (jp C e0 CY.toList) et (0,0))):=by
  refine⟨?_,wk.sep,?_,?_,?_,fun m c hm=>by simp;exact wk.below m c hm⟩;intro m ob hm;obtain⟨c,hc,hsp,hr⟩:=wk.obj m ob hm;refine⟨c,hc,hsp,(hr.mono hle).of_block ?_⟩;rw[hblk,iN];intro e;exact hno ⟨m,c,by rw[hm];simp,hc,e⟩;intro c i v hi;simp only[Gh.grown] at hi;by_cases hin:c=b/\e0<=i/\i<e0+cs.length;rw[iP hin] at hi;obtain⟨rfl,h1,h2⟩:=hin;obtain⟨q1,y,hy,q2⟩:=hv.rows hs _ v hi;refine⟨q1,y,?_,q2.mono hle⟩;rw[qc (by rw[hblk,iP rfl]),HA _ _ _ _ (by simpa using hfit),iP (by simp;omega)];simpa using hy;rw[iN hin] at hi;obtain⟨q1,y,hy,q2⟩:=wr.ro c i v hi;refine⟨q1,y,?_,q2.mono hle⟩;by_cases e:c=b;subst e
  have:=hold i v hi;rw[qc hb] at hy;rw[qc (by rw[hblk,iP rfl]),HA _ _ _ _ (by simpa using hfit),iN (by omega)];exact hy;rw[<-hy];simp[World.cell?,hblk,e];intro m ob c i v hm hc hi;simp only[Gh.grown] at hi;rw[iN] at hi;exact wk.apart m ob c i v hm hc hi;rintro⟨e,_,_⟩;exact hno ⟨m,c,by rw[hm];simp,hc,e⟩;intro c d hd;obtain⟨D,t,hD,hsz⟩:=wr.dim c d hd;rw[hblk];by_cases e:c=b;subst e;rw[hb] at hD;simp only[aP,Obj.cells.injEq] at hD;obtain⟨rfl,rfl,_⟩:=hD;exact⟨_,et,iP rfl,by simpa using hsz⟩;rw[iN e];exact⟨D,t,hD,hsz⟩
 have hno': ¬d7 (G.grown b e0 cs) (h.set k none) b:=hno;have w2:=w1.named (n:=n) (a:=⟨b,e0+cs.length,none⟩) (o:=.tok) hn (by simp;exact hlt) rfl hno' ⟨_,et,by rw[hblk,iP rfl]⟩ (fun i v hi=>by
  refine⟨rfl,?_⟩;simp only[Gh.grown] at hi;by_cases hin:e0<=i/\i<e0+cs.length;exact hin.2;rw[iN (by simpa using hin)] at hi
  have:=hold i v hi;show i<e0+cs.length;omega)
 refine⟨w2,⟨hle.trans (Gh.name_le _ _ hn),by simp,?_,?_,?_,?_,Cr w hb rfl rfl⟩⟩;intro c hc ho;rw[hblk,iN];intro e;subst e;exact ho hown;intro c hc ho;rcases Af ho with rfl|ho
 exact hown;exact wI (show d7 G (h.set k none) c from ho);intro m c hm h0;simp only[Gh.name,Gh.grown] at hm;by_cases em:m=n;omega;rw[iN em,h0] at hm;cases hm;intro c i v hc hi h0;simp only[Gh.name,Gh.grown] at hi;by_cases hin:c=b/\e0<=i/\i<e0+cs.length;rw[hin.1];exact hown;rw[iN hin,h0] at hi;cases hi
def WR.rehome(wr:WR G h w){cs0:List ae}{bd:Addr}(hm:h.get m=some (.cells cs0))(hat:G.at_ m=some bd)(hn:G.at_ n=none){C':Array Value}(hb:w.heap[bd.block]? =some (.cells C et (0,0)))(hs:C'.size=C.size)(hdm:G.dim bd.block=some C.size)(had:ad.block=bd.block)(hsp:ad.spot=none)(hc: ∀(i:Nat) v,cs[i]? =some v->v.scal=true/\ ∃y,C'[ad.off+i]? =some y/\VR G v y):
 WR (G.name n ad) ((h.set m none).set n (some (.cells cs))) (dx w bd.block (.cells C' et (0,0)))/\
 cM G h w (G.name n ad) ((h.set m none).set n (some (.cells cs))) (dx w bd.block (.cells C' et (0,0))) n (n+1):=by
 have hlt:=fQ hb;have hown:d7 G h bd.block:=⟨m,bd,by rw[hm];simp,hat,rfl⟩;have hro: ∀i,G.ro bd.block i=none:=fun i=>by
  cases hr:G.ro bd.block i with
  |none=>rfl
  |some v=>have:=(wr.apart m _ bd i v hm hat hr).1;cases this
 have hno:=Gs wr (by rw[hm];simp) hat;have w1:=(wr.killed m).putFree hb hs hno hro;have w2:=w1.named (n:=n) (a:=ad) (o:=.cells cs) hn (by rw[had];simpa using hlt) hsp (by rw[had];exact hno)
  ⟨C',et,by rw[had,jb _ _ _ _ hlt,iP rfl],by rw[had,hs];exact hdm,hc⟩ (fun i v hi=>by rw[had,hro] at hi;cases hi)
 refine⟨w2,⟨Gh.name_le _ _ hn,by simp,?_,?_,?_,?_,Cr w hb rfl rfl⟩⟩;intro c hc' ho;rw[jb _ _ _ _ hlt,iN];intro e;subst e;exact ho hown;intro c hc' ho;rcases Af ho with rfl|ho
 rw[had];exact hown;exact wI ho;intro q c hq h0;simp only[Gh.name] at hq;by_cases em:q=n;omega;rw[iN em,h0] at hq;cases hq;intro c i v hc' hi h0;simp only[Gh.name] at hi;rw[hi] at h0;cases h0
def cM.after_kill{lo hi:Nat}(x:cM G (h.set m none) w G' h' w' lo hi):cM G h w G' h' w' lo hi:=
 ⟨x.le,x.size,fun b hb ho=>x.keep b hb (fun o=>ho (wI o)),fun b hb o=>wI (x.owns b hb o),x.names,fun b i v hb h1 h2=>wI (x.cells b i v hb h1 h2),x.quiet⟩
def IG{g:Bool}{sz:Nat}(hg:g=false->sz=1): ∀(n:Nat) (cs:List ae),cs.length=n*sz-> ∃xs,fW g sz n cs=some xs
 |0,cs,h=>by
  have:cs=[]:=uc.1 (by simpa using h);subst this;exact⟨[],rfl⟩
 |n+1,cs,h=>by
  rw[uk] at h;cases hgv:g with
  |true=>
   obtain⟨r,hr⟩:=IG hg n (cs.drop sz) (by simp;omega);rw[hgv] at hr;refine⟨.agg (cs.take sz)::r,?_⟩;have hc:cut cs 0 sz=some (cs.take sz):=by
    simp only[cut,pF];have:aJ (cs.take sz).length sz=true:=by rw[Lr];simp;omega
    rw[this];rfl
   simp[fW,hc,hr]
  |false=>
   have h1:=hg hgv;subst h1;cases cs with
   |nil=>simp at h
   |cons c cs=>
    obtain⟨r,hr⟩:=IG hg n cs (by simp at h;omega);rw[hgv] at hr;exact⟨c::r,by simp[fW,hr]⟩
def am2{X:Value}(he:hG P mk t x y mu s=some (v,s'))(ht2:nF P t2=true)(hx:VR G x X)(hy:VR G y Y)(wr:WR G s.heap w)(hfree: ∀n,s.al<=n->n<s'.al->G.at_ n=none):
 ∃Z w' G',(vA #[t,t2] ty #[X,Y]).run P w= .ok Z w'/\WR G' s'.heap w'/\cM G s.heap w G' s'.heap w' s.al s'.al/\VR G' v Z:=by
 simp only[hG,az] at he;obtain⟨E,hE,ys,hys,he⟩:=he;obtain⟨e,hd,hE⟩:=CE hE;obtain⟨hsz,_,hg,hpos,hg1,ti,zv,hb0,hi,hzv,hov,hzs,hib⟩:=vW hE;obtain⟨CY,hYr,hvY,hsY,hmY⟩:=Cy (P:=P) hg1 hpos hys hy wr;have hCYl:CY.size=ys.length*E.n:=by
  have:=hvY.length;rw[mw hmY] at this;simpa using this.symm
 have hk: ∀w':World,w'.heap=w.heap->(w7 Y).run P w'= .ok ys.length w':=fun w' h=>(hYr w' h).1;have hY: ∀w':World,w'.heap=w.heap->(ru E.n ys.length Y).run P w'= .ok CY w':=fun w' h=>by
  have:=(hYr w' h).2 ys.length (aU _);rw[AN (by simp[hCYl])] at this;exact this
 have grow: ∀(mu:Bool) (xs:List ae) (base:Option Addr) (cap:Nat) (CX:Array Value) (s2:St) (v1:ae) (s1:St),X= .slice base xs.length cap->WR G s2.heap w->s2.al=s.al->
  (∀w':World,w'.heap=w.heap->(ru E.n xs.length (.slice base xs.length cap)).run P w'= .ok CX w')->bP G (bB xs) CX.toList->dn (bB xs)=true->(∀u∈xs,u.cells.length=E.n)->
  cap<xs.length+ys.length->kK E mu (xs++ys) s2=some (v1,s1)->G.at_ s.al=none->
  s1.al=s.al+1/\ ∃Z w' G',(vA #[t,t2] ty #[X,Y]).run P w= .ok Z w'/\WR G' s1.heap w'/\cM G s2.heap w G' s1.heap w' s.al (s.al+1)/\VR G' v1 Z:=by
  intro mu xs base cap CX s2 v1 s1 hX wr2 hs2 hXr hvX hsX hmX hcap hmade hn0;have hCXl:CX.size=xs.length*E.n:=by
   have:=hvX.length;rw[mw hmX] at this;simpa using this.symm
  have hroom:lW (xs.length+ys.length) E.b=true:=by
   simp only[kK,dX] at hmade;exact(bm hmade).1
  obtain⟨newCap,R,r1,r2,r3,r4⟩:=am3 (ty:=ty) hd hE ht2 hk hXr hY hcap hroom hCXl hCYl;have hvXY:bP G (bB (xs++ys)) (CX++CY).toList:=by rw[v7];simpa using hvX.append hvY
  have hsXY:dn (bB (xs++ys))=true:=by rw[v7,UO,hsX,hsY];rfl
  have hmXY: ∀z∈xs++ys,z.cells.length=E.n:=by
   intro z hz;rcases iE.1 hz with h|h
   exact hmX z h;exact hmY z h
  obtain⟨q1,G',q2,q3,q4⟩:=aiO (e:=e) (newCap:=newCap) (R:=R) hpos wr2 hmade (by rw[hs2];exact hn0) hmXY (by simpa using r1) r2 (fun i u hu=>by
   obtain⟨p1,y,hy,p2⟩:=hvXY.rows hsXY i u hu;refine⟨p1,y,?_,p2⟩;rw[r3 i];·exact hy
   have:i<(bB (xs++ys)).length:=by
    rcases ix i (bB (xs++ys)).length with h|h
    exact h;simp[jE h] at hu
   rw[mw hmXY] at this;simpa using this)
  rw[hs2] at q1 q3;refine⟨q1,_,_,G',by rw[hX];exact r4,q2,q3,by simpa using q4⟩
 split at he
 ·
  replace he:=bm he;obtain⟨hsl,he⟩:=he;simp only[aP,bj] at he;obtain⟨rfl,rfl⟩:=he;obtain⟨b,n,c,rfl⟩:=hx.slice_len hsl;have h0:CY= #[]:=by
   have:CY.size=0:=by simpa using hCYl
   exact Array.eq_empty_of_size_eq_zero this
  subst h0;exact⟨_,w,G,am4 hd hE ht2 (hk w rfl) (hY w rfl) hx.cap_le,wr,.refl,hx⟩
 ·rename_i y0 yr
  have hfr:s'.al=s.al+1->G.at_ s.al=none:=fun h=>hfree s.al (aU _) (by omega);generalize hyr:(y0::yr)=yl at*;have hyne:0<yl.length:=by rw[<-hyr];simp
  clear hyr;unfold ml at he;split at he
  ·
   cases hx;have hnx:s'.al=s.al+1:=by
    simp only[kK] at he;have h1:=(bm he).2;rcases gh h1 with⟨_,h2⟩|⟨_,h2⟩<;>(simp only[aP,bj] at h2;rw[<-h2.2];rfl)
   obtain⟨q1,Z,w',G',q2,q3,q4,q5⟩:=grow mu [] none 0 #[] s v s' rfl wr rfl (fun w' _=>by simp[ru]) (by simpa[bB] using bP.nil) rfl (by simp) (by simpa using hyne) (by simpa using he) (hfr hnx);rw[q1];exact⟨Z,w',G',q2,q3,q4,q5⟩
  ·
   rename_i sz xs;replace he:=bm he;obtain⟨hsz',he⟩:=he;obtain rfl:=eU hsz';have hnx:s'.al=s.al+1:=by
    simp only[kK] at he;have h1:=(bm he).2;rcases gh h1 with⟨_,h2⟩|⟨_,h2⟩<;>(simp only[aP,bj] at h2;rw[<-h2.2];rfl)
   obtain⟨CX,hXr,hvX,hsX,hmX⟩:=Cy (P:=P) (mk:=mk) (s:=s) (ys:=xs) (g:=E.g) (n:=E.n) hg1 hpos (by simp[jS]) hx wr;have hCXl:CX.size=xs.length*E.n:=by
    have:=hvX.length;rw[mw hmX] at this;simpa using this.symm
   cases hx with
   |list hsp hp hm hcap hro hr=>
   rename_i ad cap;obtain rfl:cap=xs.length:=hr;obtain⟨q1,Z,w',G',q2,q3,q4,q5⟩:=grow mu xs (some ad) xs.length CX s v s' rfl wr rfl (fun w' h=>by
    have:=(hXr w' h).2 xs.length (aU _);rwa [AN (by simp[hCXl])] at this) hvX hsX hmX (by omega) he (hfr hnx)
   rw[q1];exact⟨Z,w',G',q2,q3,q4,q5⟩
  ·
   rename_i sz xs k;simp only[az] at he;obtain⟨ob,hob,he⟩:=he;split at he
   ·replace he:=bm he
    obtain⟨hc,he⟩:=he;simp only[bA] at hc;obtain rfl:=eU hc.2;simp only[aP,bj] at he;obtain⟨rfl,rfl⟩:=he;have hn0:G.at_ s.al=none:=hfr rfl;obtain⟨CX,hXr,hvX,hsX,hmX⟩:=Cy (P:=P) (mk:=mk) (s:=s) (ys:=xs) (g:=E.g) (n:=E.n) hg1 hpos (by simp[jS]) hx wr;have hCXl:CX.size=xs.length*E.n:=by
     have:=hvX.length;rw[mw hmX] at this;simpa using this.symm
    cases hx with
    |list hsp hp hm hcap hro hr=>
    rename_i ad cap;obtain⟨b,off,sp⟩:=ad;have hsp0:0<cap->sp=none:=fun h0=>by
     rcases hsp with h|h
     omega;exact h
    obtain⟨hat,dm,hdm,hle⟩:=hr;simp only at hat hdm hle;by_cases hfit:xs.length+yl.length<=cap
    ·
     obtain rfl:=hsp0 (by omega);obtain⟨C,et,hC,hCs⟩:=wr.dim _ dm hdm;have hmul:(xs.length+yl.length)*E.n<=cap*E.n:=uj _ hfit;rw[oI] at hmul;obtain⟨c1,c2⟩:=wr.extend (iZ hob) hat hn0 hC hvY hsY (by rw[hCYl];omega);refine⟨_,_,_,L6 hd hE ht2 (hk w rfl) (hY w rfl) hfit hC (by rw[hCYl];omega) (hvY.ones hsY),c1,c2,?_⟩;rw[<-dX];refine .list (.inr rfl) hpos ?_ (by simpa using hfit) ?_ ⟨?_,dm,?_,hle⟩;intro z hz;rcases iE.1 hz with h|h
     exact hmX z h;exact hmY z h;intro i u hu;rw[v7] at hu;simp only[Gh.name,Gh.grown];by_cases h1:i<(bB xs).length;rw[rA h1] at hu;rw[mw hmX] at h1;rw[iN (by rintro⟨_,h2,_⟩;omega)];exact hro i u hu;rw[sW (by omega)] at hu;rw[mw hmX] at h1 hu;have h3:i-xs.length*E.n<(bB yl).length:=by
      rcases ix (i-xs.length*E.n) (bB yl).length with h|h
      exact h;simp[jE h] at hu
     rw[iP (by refine⟨?_,?_,?_⟩<;>first|trivial|omega),<-hu];congr 1;omega;simp only[Gh.name,if_true];rw[mw hmY];congr 2;simp only[dX,oI];omega;exact hdm
    ·
     have hmade:kK E false (xs++yl) (s.put k none)=some (.list E.n (xs++yl) (.own s.al),(s.put k none).new .tok):=by
      simp only[kK,dX,hc.1,cT,cF];rfl
     obtain⟨q1,Z,w',G',q2,q3,q4,q5⟩:=grow false xs (some ⟨b,off,sp⟩) cap CX (s.put k none) _ _ rfl (wr.killed k) rfl (fun w' h=>by
      have:=(hXr w' h).2 xs.length (aU _);rwa [AN (by simp[hCXl])] at this) hvX hsX hmX (by omega) hmade hn0
     exact⟨Z,w',G',q2,q3,cM.after_kill q4,q5⟩
   cases he
  ·
   rename_i sz m off len lcap;simp only[az] at he;obtain⟨ob,hob,he⟩:=he;split at he
   ·rename_i cs
    replace he:=bm he;obtain⟨hc,he⟩:=he;simp only[bA] at hc;obtain rfl:=eU hc.2;have hx0:=hx;cases hx with
    |arr hat hsp hp hlen hcap hadr hdim hle=>
    rename_i ad bd cap dm;obtain⟨b,aoff,sp⟩:=ad;simp only at hsp;subst hsp;obtain⟨bd',hat',hsp',C,et,hC,hdC,hcs⟩:=wr.obj m _ (iZ hob);rw[hat] at hat';injection hat' with hat';subst hat'
    have hdd:dm=C.size:=by rw[hdim] at hdC;injection hdC
    replace he:=gh he;rcases he with⟨hend,he⟩|⟨_,he⟩
    have hend:=eU hend;simp only[aP,bj] at he;obtain⟨rfl,rfl⟩:=he;have hn0:G.at_ s.al=none:=hfr rfl;by_cases hfit:len+yl.length<=cap;rcases hadr with h0|⟨e1,e2⟩
    omega;simp only at e1 e2;subst e1;subst e2;have hmul:(len+yl.length)*E.n<=cap*E.n:=uj _ hfit;rw[oI] at hmul;have hfit':bd.off+off+len*E.n+CY.toList.length<=C.size:=by simp[hCYl];omega
    obtain⟨c1,c2⟩:=wr.rehome (n:=s.al) (ad:=⟨bd.block,bd.off+off,none⟩) (C':=jp C (bd.off+off+len*E.n) CY.toList) (cs:=cs.drop off++bB yl) (iZ hob) hat hn0 hC (by simp) hdC rfl rfl (fun i u hu=>by
     show _/\ ∃y,(jp C (bd.off+off+len*E.n) CY.toList)[bd.off+off+i]? =some y/\_;rw[HA _ _ _ _ hfit'];by_cases h1:i<(cs.drop off).length;rw[rA h1,vF] at hu;simp only[sX] at h1;rw[iN (by omega),qD];exact hcs _ u hu;rw[sW (by omega)] at hu;simp only[sX] at h1 hu;obtain⟨p1,y,hy,p2⟩:=hvY.rows hsY _ u hu;have h3:i-(cs.length-off)<(bB yl).length:=by
      rcases ix (i-(cs.length-off)) (bB yl).length with h|h
      exact h;simp[jE h] at hu
     rw[mw hmY] at h3;rw[iP (by simp[hCYl];omega)];refine⟨p1,y,?_,p2⟩;rw[<-hy,<-CR];congr 1;omega)
    refine⟨_,_,_,L6 hd hE ht2 (hk w rfl) (hY w rfl) hfit hC (by simpa using hfit') (hvY.ones hsY),c1,c2,?_⟩;exact .arr (b:=⟨bd.block,bd.off+off,none⟩) (by simp[Gh.name]) rfl hpos (aU _) hfit (.inr ⟨rfl,by simp⟩) (show G.dim bd.block=some dm from hdim) (by simpa using hle);have hcl:(cs.drop off).length=len*E.n:=by simp;omega
    obtain⟨xs,hxs⟩:=IG hg1 len (cs.drop off) hcl;have hsd:dn (cs.drop off)=true:=by
     simp only[dn,fY];intro u hu;obtain⟨i,hi⟩:=List.mem_iff_getElem?.1 (xa hu);exact(hcs i u hi).1
    obtain⟨k1,k2,k3⟩:=ze hg1 hxs hsd;have hel:jS mk E.g E.n (.arr E.n m off len lcap) s=some xs:=by
     have hcut:cut cs off (len*E.n)=some (cs.drop off):=by
      simp only[cut];have:(cs.drop off).take (len*E.n)=cs.drop off:=AN (by omega);rw[this,Lr];simp only[hcl,bS,cT]
     simp[jS,hob,hcut,hxs]
    obtain⟨CX,hXr,hvX,hsX,hmX⟩:=Cy (P:=P) hg1 hpos hel hx0 wr;have hCXl:CX.size=xs.length*E.n:=by
     have:=hvX.length;rw[mw hmX] at this;simpa using this.symm
    have hmade:kK E true (xs++yl) (s.put m none)=some (.arr E.n s.al 0 (len+yl.length) (len+yl.length),(s.put m none).new (.cells (cs.drop off++bB yl))):=by
     simp only[kK,dX,k1,hc.1,cT,v7,k2];rfl
    obtain⟨q1,Z,w',G',q2,q3,q4,q5⟩:=grow true xs (some ⟨b,aoff,none⟩) cap CX (s.put m none) _ _ (by rw[k1]) (wr.killed m) rfl (fun w' h=>by
     have:=(hXr w' h).2 xs.length (aU _);rw[AN (by simp[hCXl])] at this;rw[k1] at this ⊢;exact this) hvX hsX hmX (by omega) hmade hn0
    exact⟨Z,w',G',q2,q3,cM.after_kill q4,q5⟩;replace he:=bm he;obtain⟨hin,he⟩:=he;have hin:=ju hin;simp only[az] at he;obtain⟨cs',hw,he⟩:=he;simp only[aP,bj] at he;obtain⟨rfl,rfl⟩:=he;rcases hadr with h0|⟨e1,e2⟩
    omega;simp only at e1 e2;subst e1;subst e2;have hne:bB yl≠ []:=by
     intro e;have h0:=mw hmY;rw[e,fJ] at h0
     have:=Nat.mul_pos hyne hpos;omega
    obtain⟨hle2,hrows⟩:=Cv (base:=bd.off) hw hvY hsY hne hcs;have hfit':bd.off+off+len*E.n+CY.toList.length<=C.size:=by rw[qD bd.off];exact hle2
    obtain⟨c1,c2⟩:=wr.changed (o':=.cells cs') (ob:=.cells (jp C (bd.off+off+len*E.n) CY.toList) et (0,0)) (iZ hob) hat
     ⟨_,et,by rw[jb _ _ _ _ (fQ hC),iP rfl],by rw[hdC];simp,by rw[qD bd.off];exact hrows⟩
     (fun i u hu=>by have:=(wr.apart m _ bd i u (iZ hob) hat hu).1;cases this)
     (fun d hd=>by rw[hdC] at hd;injection hd with hd;exact⟨_,et,rfl,by simpa using hd⟩)
    exact⟨_,_,_,L6 hd hE ht2 (hk w rfl) (hY w rfl) (by omega) hC (by simpa using hfit') (hvY.ones hsY),c1,c2 _ _,.arr hat rfl hpos hin hcap (.inr ⟨rfl,rfl⟩) hdim hle⟩
   cases he
  cases he
def am7{X:Value}(he:Bh P mk t x y s=some (v,s'))(hx:VR G x X)(hy:VR G y Y)(wr:WR G s.heap w):
 ∃Z w',(AH #[t,t2] ty #[X,Y]).run P w= .ok Z w'/\WR G s'.heap w'/\(∀lo hi,cM G s.heap w G s'.heap w' lo hi)/\VR G v Z:=by
 simp only[Bh,az] at he;obtain⟨E,hE,ys,hys,he⟩:=he;obtain⟨e,hd,hE⟩:=CE hE;obtain⟨hsz,_,hg,hpos,hg1,ti,zv,hb0,hi,hzv,hov,hzs,hib⟩:=vW hE;obtain⟨CY,hYr,hvY,hsY,hmY⟩:=Cy (P:=P) hg1 hpos hys hy wr;obtain⟨hk,hY⟩:=hYr w rfl;split at he;simp only[aP,bj] at he;obtain⟨rfl,rfl⟩:=he;cases hx;have h0:=hY 0 (cV _);exact⟨_,w,by simp[AH,cW hd,hk,gJ hsz,h0,goInt],wr,fun _ _=>.refl,.int _ _⟩;simp only[aP,bj] at he;obtain⟨rfl,rfl⟩:=he;cases hx;have h0:=hY 0 (cV _);exact⟨_,w,by simp[AH,cW hd,hk,gJ hsz,h0,goInt,storeCells],wr,fun _ _=>.refl,.int _ _⟩
 ·rename_i sz m off len lcap
  replace he:=bm he;obtain⟨hc,he⟩:=he;obtain rfl:=eU hc;simp only[az] at he;obtain⟨ob,hob,he⟩:=he;split at he
  ·rename_i cs
   simp only[az] at he;obtain⟨cs',hw,he⟩:=he;simp only[aP,bj] at he;obtain⟨rfl,rfl⟩:=he;cases hx with
   |arr hat hsp hp hlen hcap hadr hdim hle=>
   rename_i ad bd cap dm;obtain⟨b,aoff,sp⟩:=ad;simp only at hsp;subst hsp;obtain⟨bd',hat',hsp',C,et,hC,hdC,hcs⟩:=wr.obj m _ (iZ hob);rw[hat] at hat';injection hat' with hat';subst hat'
   have hl:(ys.take len).length=Nat.min ys.length len:=by rw[oG];exact Nat.min_comm _ _
   have hkk:=hY (Nat.min ys.length len) (Nat.min_le_left _ _);have hmT: ∀u∈ys.take len,u.cells.length=E.n:=fun u hu=>hmY u (ug hu);have hft:bB (ys.take len)=(bB ys).take ((ys.take len).length*E.n):=by
    have key: ∀(A D:List ae),(∀u∈A,u.cells.length=E.n)->bB A=(bB (A++D)).take (A.length*E.n):=fun A D hA=>by
     rw[v7,List.take_append_of_le_length (by rw[mw hA];exact aU _),AN (by rw[mw hA];exact aU _)]
    have:=key (ys.take len) (ys.drop len) hmT;rwa [oH] at this
   have hvT:bP G (bB (ys.take len)) (CY.toList.take (Nat.min ys.length len*E.n)):=by rw[hft,hl];exact hvY.take _
   have hsT:dn (bB (ys.take len))=true:=by
    rw[hft];simp only[dn,fY] at hsY ⊢;exact fun u hu=>hsY u (ug hu)
   by_cases hz:Nat.min ys.length len=0;have hfe:bB (ys.take len)=[]:=by
    have:=mw hmT;rw[hl,hz,Nat.zero_mul] at this;exact uc.1 this
   have hcs':cs'=cs:=by
    rw[hfe] at hw;simp only[bu,fJ,qE,mf,oH] at hw
    have:=(bm hw).2;injection this with this
    exact this.symm
   subst hcs';rw[hz] at hkk;have hsame:(s.put m (some (.cells cs'))).heap.get=s.heap.get:=by
    funext q;show(s.heap.set m (some (.cells cs'))).get q=_;rw[aZ.get_set];by_cases e':q=m;rw[iP e',e',iZ hob];rw[iN e']
   have hown: ∀q,d7 G (s.put m (some (.cells cs'))).heap q↔d7 G s.heap q:=fun q=>by unfold d7;rw[hsame]
   refine⟨.int .i64 0,w,by simp[AH,cW hd,hk,gJ hsz,hz,hkk,goInt,storeCells],?_,fun lo hi=>?_,?_⟩;exact⟨fun q ob h=>wr.obj q ob (by rw[<-hsame];exact h),fun q r a b h1 h2=>wr.sep q r a b (by rw[<-hsame];exact h1) (by rw[<-hsame];exact h2),wr.ro,fun q ob a i v h=>wr.apart q ob a i v (by rw[<-hsame];exact h),wr.dim,wr.below⟩;exact⟨.refl G,aU _,fun _ _ _=>rfl,fun q _ h=>(hown q).1 h,fun n a h h'=>(by rw[h] at h';cases h'),fun b o v _ h h'=>(by rw[h] at h';cases h'),.refl _⟩;rw[hl,hz];exact .int _ _;have hne:bB (ys.take len)≠ []:=by
    intro e';have h0:=mw hmT;rw[e',fJ,hl] at h0
    have:=Nat.mul_pos (Nat.pos_of_ne_zero hz) hpos;omega
   rcases hadr with h0|⟨e1,e2⟩
   have:Nat.min ys.length len<=len:=Nat.min_le_right _ _;omega;simp only at e1 e2;subst e1;subst e2;obtain⟨hle2,hrows⟩:=Cv (base:=bd.off) hw hvT hsT hne hcs;obtain⟨c1,c2⟩:=wr.changed (o':=.cells cs') (ob:=.cells (jp C (bd.off+off) (CY.toList.take (Nat.min ys.length len*E.n))) et (0,0)) (iZ hob) hat
    ⟨_,et,by rw[jb _ _ _ _ (fQ hC),iP rfl],by rw[hdC];simp,hrows⟩
    (fun i u hu=>by have:=(wr.apart m _ bd i u (iZ hob) hat hu).1;cases this)
    (fun d hd=>by rw[hdC] at hd;injection hd with hd;exact⟨_,et,rfl,by simpa using hd⟩)
   have hst:=Hd (P:=P) bd.block (bd.off+off) et (CY.toList.take (Nat.min ys.length len*E.n)) 0 w C hC (by simpa using hle2) (hvT.ones hsT);simp only[qE] at hst;refine⟨.int .i64 (Nat.min ys.length len:Nat),_,by simp[AH,cW hd,hk,gJ hsz,hkk,hst,goInt],c1,c2,?_⟩;rw[hl];exact .int _ _
  cases he
 cases he
def am6{X:Value}(he:vT P mk t x s=some s')(hu: ∃d,P.underlying t=some d)(hx:VR G x X)(wr:WR G s.heap w):
 ∃w',(wZ #[t] ty #[X]).run P w= .ok (.tuple #[]) w'/\WR G s'.heap w'/\ ∀lo hi,cM G s.heap w G s'.heap w' lo hi:=by
 obtain⟨d,hd⟩:=hu;unfold vT at he;split at he;injection he with he;subst he;cases hx
 exact⟨w,by simp[wZ,cW hd],wr,fun _ _=>.refl⟩;injection he with he;subst he;cases hx
 exact⟨w,by simp[wZ,cW hd],wr,fun _ _=>.refl⟩
 ·simp only[az] at he
  obtain⟨ob,hob,he⟩:=he;split at he
  ·injection he with he;subst he
   cases hx with
   |map hat=>
   obtain⟨ad,ES,h1,h2,h3,h4⟩:=uX wr hob;rw[hat] at h1;injection h1 with h1;subst h1
   obtain⟨c1,c2⟩:=zO (es':=[]) (ES':= #[]) wr hob hat h3 .nil;exact⟨_,by simp[wZ,cW hd,pu h3,Ap _ h3],c1,c2⟩
  cases he
 injection he with he;subst he;cases hx
 exact⟨w,by simp[wZ,cW hd],wr,fun _ _=>.refl⟩
 ·rename_i sz m off len lcap
  replace he:=gh he;rcases he with⟨h0,he⟩|⟨h0,he⟩
  obtain rfl:=eU h0;injection he with he;subst he;cases hx
  exact⟨w,by simp[wZ,cW hd],wr,fun _ _=>.refl⟩
  ·have h0:=zb h0
   simp only[az] at he;obtain⟨E,hE,he⟩:=he;obtain⟨e,hd',hE⟩:=CE hE;obtain⟨hsz,_,hg,hpos,hg1,ti,zv,hb0,hi,hzv,hov,hzs,hib⟩:=vW hE;replace he:=bm he;obtain⟨hc,he⟩:=he;obtain rfl:=eU hc;simp only[az] at he;obtain⟨ob,hob,he⟩:=he;split at he
   ·rename_i cs
    simp only[az] at he;obtain⟨cs',hw,he⟩:=he;injection he with he;subst he
    cases hx with
    |arr hat hsp hp hlen hcap hadr hdim hle=>
    rename_i ad bd cap dm;obtain⟨b,aoff,sp⟩:=ad;simp only at hsp;subst hsp;obtain⟨bd',hat',hsp',C,et,hC,hdC,hcs⟩:=wr.obj m _ (iZ hob);rw[hat] at hat';injection hat' with hat';subst hat'
    obtain⟨hzr,hzt⟩:=vf G hov;obtain⟨R,hR,hRl,hRg⟩:=G6 hzr.cells len;have hrow:=MQ (zs:=zv.cells) hRl hRg;rcases hadr with h00|⟨e1,e2⟩
    omega;simp only at e1 e2;subst e1;subst e2;have hne:eW E.z.cells len≠ []:=by
     intro e';have h1:=hR.length;rw[e',fJ,hRl,wY,hzs] at h1
     have:=Nat.mul_pos (Nat.pos_of_ne_zero h0) hpos;omega
    have hsR:=G7 (hzr.scals_cells hzt) len;obtain⟨hle2,hrows⟩:=Cv (base:=bd.off) hw hR hsR hne hcs;obtain⟨c1,c2⟩:=wr.changed (o':=.cells cs') (ob:=.cells (jp C (bd.off+off) R) et (0,0)) (iZ hob) hat
     ⟨_,et,by rw[jb _ _ _ _ (fQ hC),iP rfl],by rw[hdC];simp,hrows⟩
     (fun i u hu=>by have:=(wr.apart m _ bd i u (iZ hob) hat hu).1;cases this)
     (fun d hd=>by rw[hdC] at hd;injection hd with hd;exact⟨_,et,rfl,by simpa using hd⟩)
    have hst:=Hd (P:=P) bd.block (bd.off+off) et R 0 w C hC (by simpa using hle2) (hR.ones hsR);simp only[qE] at hst;have hzc:Builtin.zeroCells zv.cells len=⟨R⟩:=hrow;obtain⟨len,rfl⟩: ∃l,len=l+1:=⟨len-1,by omega⟩;exact⟨_,by simp[wZ,cW hd',tR hi hzv,hzc,hst],c1,c2⟩
   cases he
 cases he
def akQ{c:Call}(ho:o.op= .call c)(wr:WR G s.heap w)(fx:cy G s.heap B fr a.tmps w)(he:tJ P mk hint dst c fr s=some (v,loc',s'))(hfree: ∀n,s.al<=n->n<s'.al->G.at_ n=none):
 fE P G s.heap w B fr.loc s.al s'.al a o v loc' s'.heap:=by
 unfold tJ at he;split at he
 ·rename_i b hcal
  simp only[az] at he;obtain⟨args,hargs,he⟩:=he;simp only[gH,az] at he;obtain⟨⟨v1,s1⟩,he,hq⟩:=he;simp only[aP,bj] at hq;obtain⟨rfl,rfl,rfl⟩:=hq;obtain⟨hA,hAt⟩:=fx.evcs hargs;have hres: ∀(nx:Sem Value),(∀cs,builtin b c.argTypes o.type cs (c.args.map a.eval)=(do pure (.value (<-nx))))->(execOp a.eval o).run P w=(nx.run P w).andThen fun y w'=>.ok (.value y) w':=by
   intro nx hnx;simp[execOp,ho,resolve,hcal,invoke,hnx]
  have hmap:c.args.map a.eval=⟨c.args.toList.map a.eval⟩:=by apply nf;simp
  have htyp:c.argTypes=⟨c.argTypes.toList⟩:=rfl;generalize hM:c.args.toList.map a.eval=M at hA hmap;generalize hT:c.argTypes.toList=T at he htyp;unfold mp at he;split at he
  ·
   cases hA with|cons hx hl=>
   cases hl;simp only[az] at he;obtain⟨y,hy,he⟩:=he;simp only[aP,bj] at he;obtain⟨rfl,rfl⟩:=he;obtain⟨Y,hr,hv⟩:=am9 (ty:=o.type) hy hx wr;refine .pure wr fx (y:=Y) ?_ (LV.of_VR hv);rw[hres (vB c.argTypes o.type (c.args.map a.eval)) (fun _=>rfl),hmap,htyp,hr];rfl
  ·
   cases hA with|cons hx hl=>
   cases hl with|cons hy hl=>
   cases hl;replace he:=bm he;obtain⟨ht2,he⟩:=he;obtain⟨Z,w',G',hr,h1,h2,h3⟩:=am2 (ty:=o.type) he ht2 hx hy wr hfree;refine .heap fx ?_ (.inl rfl) h1 h2 (LV.of_VR h3);rw[hres (vA c.argTypes o.type (c.args.map a.eval)) (fun _=>rfl),hmap,htyp,hr];rfl
  ·
   cases hA with|cons hx hl=>
   cases hl with|cons hy hl=>
   cases hl;obtain⟨Z,w',hr,h1,h2,h3⟩:=am7 (ty:=o.type) he hx hy wr;refine .heap fx ?_ (.inl rfl) h1 (h2 _ _) (LV.of_VR h3);rw[hres (AH c.argTypes o.type (c.args.map a.eval)) (fun _=>rfl),hmap,htyp,hr];rfl
  ·
   cases hA with|cons hx hl=>
   cases hl;simp only[az] at he;obtain⟨d,hd,s2,hs2,he⟩:=he;simp only[aP,bj] at he;obtain⟨rfl,rfl⟩:=he;obtain⟨w',hr,h1,h2⟩:=am6 (ty:=o.type) hs2 ⟨d,hd⟩ hx wr;refine .heap fx (y:=.tuple #[]) ?_ (.inl rfl) h1 (h2 _ _) (LV.of_VR (.tup .nil));rw[hres (wZ c.argTypes o.type (c.args.map a.eval)) (fun _=>rfl),hmap,htyp,hr];rfl
  ·
   simp only[az] at he;obtain⟨y,hy,he⟩:=he;simp only[aP,bj] at he;obtain⟨rfl,rfl⟩:=he;cases hA with
   |cons hx hl=>
    obtain⟨Y,hr,hv⟩:=UI (P:=P) (isMax:=false) w hy hx hl;refine .pure wr fx (y:=Y) ?_ (LV.of_VR hv);rw[hres (Builtin.min_ c.argTypes o.type (c.args.map a.eval)) (fun _=>rfl),hmap];simp only[Builtin.min_];simp only[ua,if_false] at hr;rw[hr];rfl
  ·
   simp only[az] at he;obtain⟨y,hy,he⟩:=he;simp only[aP,bj] at he;obtain⟨rfl,rfl⟩:=he;cases hA with
   |cons hx hl=>
    obtain⟨Y,hr,hv⟩:=UI (P:=P) (isMax:=true) w hy hx hl;refine .pure wr fx (y:=Y) ?_ (LV.of_VR hv);rw[hres (Builtin.max_ c.argTypes o.type (c.args.map a.eval)) (fun _=>rfl),hmap];simp only[Builtin.max_];simp only[if_true] at hr;rw[hr];rfl
  cases he
 cases he
end
