/- Lemmas for PartUnits. -/
import Derived.Calls
import Derived.Laws.Sem
import Derived.Laws.World
import Derived.Laws.Cells
import Derived.Laws.StructEq
import Derived.Laws.Concat
import Derived.IntWalk
import Derived.Lib.AppendZerosOnto
set_option linter.all false
open Option renaming some→X,none→Z,bind_eq_some_iff→an,bind_some→aH,map_some→kL
open Bool renaming true→O,false→I,and_eq_true→bh,or_eq_true→Az,rec→pC
open List renaming length→J,all_cons→pD,all_eq_true→fK,getElem?_append_right→sw,getElem?_drop→qH,getElem?_eq_getElem→dp,getElem?_eq_none→sC,length_append→bK,length_cons→bT,length_eq_zero_iff→Iv,length_nil→bn,length_take→jw,mem_iff_getElem?→qI,mem_of_mem_drop→oK,mem_of_mem_take→wh,take_append_drop→wq,take_of_length_le→nh
open Array renaming ext'→pB,length_toList→Cn,size_append→Ip
open Go.Builtin renaming append_→qF,clear_→AD,copy_→ss,firstCells→qG,lenOf→yf,len_→yg,nextslicecap→Nm,zeroCells→AE
open List.cons renaming injEq→lP
open Nat renaming add_assoc→sE,add_mul→qN,add_zero→oL,beq→aB,ble→aP,blt→bC,le_of_ble_eq_true→im,le_refl→aD,le_succ→io,le_trans→dj,lt_irrefl→bJ,lt_of_lt_of_le→fE,lt_or_ge→ip,lt_succ_self→gN,mul_le_mul_right→kX,sub_zero→Cy,succ_mul→jR,zero_add→dP,zero_le→fN
open Go.Op renaming bytesLess→gQ,equalIn→AN
open Option.some renaming injEq→aR
open Prod.mk renaming injEq→bu
open Go.Result renaming andThen_ok→lR
theorem Go.w_{p:Prop}(h:p:=by omega):p:=h
namespace Go.Ag
def cT.{u}{α:Sort u}(a b:α):cond O a b=a:=rfl
def cF.{u}{α:Sort u}(a b:α):cond I a b=b:=rfl
def bS.{u}{α:Type u}[BEq α][ReflBEq α](a:α):(a==a)=O:=beq_self_eq_true a
def tA(p:Prop):(True∧p)=p:=true_and p
def dT(h:Decidable True):@decide True h=O:=decide_true h
def bN.{u}{α:Type u}[BEq α][LawfulBEq α]{a b:α}:(a==b)=I<->a≠b:=beq_eq_false_iff_ne
def bE.{u}{α:Type u}[BEq α][LawfulBEq α]{a b:α}:(a==b)=O<->a=b:=beq_iff_eq
variable{p:Prop}
def dN[Decidable p](h:¬p):decide p=I:=decide_eq_false h
def dQ[Decidable p](h:p):decide p=O:=decide_eq_true h
def dE[Decidable p]:(decide p=O)=p:=decide_eq_true_eq
def dF(h:Decidable False):@decide False h=I:=decide_false h
variable{c:Prop}
def iP.{u}{α:Sort u}{i:Decidable c}{t e:α}(h:c):(if c then t else e)=t:=if_pos h
def iN.{u}{α:Sort u}{i:Decidable c}{t e:α}(h:¬c):(if c then t else e)=e:=if_neg h
def aT(p:Prop):(p∧True)=p:=and_true p
def sI.{u}{α:Type u}{a b:α}(h:X a=X b):a=b:=Option.some.inj h
def R_(h:p:=by exact⟨rfl,rfl⟩):p:=h
noncomputable section
inductive gS where
 |Al
 |own (n:Nat)
 |no
 deriving Inhabited
abbrev oa:=List UInt8
inductive aa where
 |bool (b:Bool)
 |int (k:IntKind) (n:Int)
 |str (s:oa)
 |agg (cs:List aa)
 |tup (vs:List aa)
 |nilp
 |ptr (n off:Nat)
 |uV (t g off:Nat)
 |ro (cs:List aa)
 |uP
 |list (sz:Nat) (xs:List aa) (r:gS)
 |arr (sz n off len lcap:Nat)
 |nilm
 |map (n:Nat)
 |nilf
 |func (fn:Fn) (first captured:List aa)
 |nili
 |iface (t:TypeId) (v:aa)
 |yld (n:Nat)
 |roz (cs:List aa)
 deriving Inhabited
abbrev az:=List aa
def aa.cells:aa->az
 |.agg cs=>cs
 |v=>[v]
def aa.gt:aa->Bool
 |.uV _ _ _=>I
 |.tup _=>I
 |_=>O
def ju:aa:=.tup []
structure dA where
 key:aa
 val:aa
 born:Nat
 deriving Inhabited
inductive aC (α:Type) where
 |nil
 |node (l:aC α) (v:Option α) (r:aC α)
 deriving Inhabited
inductive Ex where
 |normal
 |exit (id:Nat)
 |ret
 deriving Inhabited
abbrev be:=List Nat
abbrev pb:=Option Nat
abbrev Du:=Option Ex
abbrev F0:=List dA
abbrev c_:=List Tmp
inductive aI where
 |cells (cs:az)
 |tok
 |map (es:F0) (clock:Nat)
 |iter (m:pb) (since:Nat) (seen:be) (stepped:Nat)
 |loop (f:FuncId) (env:aC aa) (size:Nat) (ps:c_) (a b:Code) (p:Du)
 |fix (o:aI)
 deriving Inhabited
def aI.still:aI->Bool
 |.fix _=>O
 |_=>I
namespace aC
variable{α:Type}
def get(t:aC α):Nat->Option α:=
 @aC.rec α (λ_=>Nat->Option α) (λ_=>Z)
  (λ_ v _ g d n=> @pC (λ_=>Option α) (@pC (λ_=>Option α) (d (n / 2-1)) (g (n / 2)) (aB (n % 2) 1)) v (aB n 0)) t
def one(x:Option α)(f:Nat):Nat->aC α:=
 @Nat.rec (λ_=>Nat->aC α) (λ_=>.node .nil x .nil)
  (λ_ d n=> @pC (λ_=>aC α) (@pC (λ_=>aC α) (.node .nil Z (d (n / 2-1))) (.node (d (n / 2)) Z .nil) (aB (n % 2) 1)) (.node .nil x .nil) (aB n 0)) f
def set(t:aC α)(n:Nat)(x:Option α):aC α:=
 @aC.rec α (λ_=>Nat->aC α) (λn=>one x n n)
  (λl v r g d n=> @pC (λ_=>aC α) (@pC (λ_=>aC α) (.node l v (d (n / 2-1))) (.node (g (n / 2)) v r) (aB (n % 2) 1)) (.node l x r) (aB n 0)) t n
def all(p:α->Bool)(t:aC α):Bool:=
 @aC.rec α (λ_=>Bool) O (λ_ v _ g d=>(match v with|none=>O|some x=>p x)&&(g&&d)) t
end aC
structure St where
 heap:aC aI
 aL:Nat
 gE:Nat
 ci:Nat
 deriving Inhabited
abbrev MT:=List (Nat×Nat)
abbrev aK:=MT
def dH:aK->Nat->Bool
 |[],_=>I
 |(a,b)::m,n=>(aP a n&&bC n b)||dH m n
abbrev ra:=Option aI
def St.get(s:St)(mk:aK)(n:Nat):ra:=bif dH mk n then Z else s.heap.get n
def St.put(s:St)(n:Nat)(o:ra):St:= {heap:=s.heap.set n o,aL:=s.aL,gE:=bif aP s.gE n then s.gE else n,ci:=s.ci }
def St.new(s:St)(o:aI):St:= {heap:=s.heap.set s.aL (X o),aL:=s.aL+1,gE:=s.gE,ci:=s.ci }
abbrev Loc:=List (Nat×Nat×az)
def Loc.gen:Loc->Nat->Nat
 |[],_=>0
 |(k,g,_)::l,n=>bif aB k n then g else Loc.gen l n
abbrev K_:=Option az
def Loc.get:Loc->Nat->Nat->K_
 |[],_,_=>Z
 |(k,g,c)::l,n,h=>bif aB k n then bif aB g h then X c else Z else Loc.get l n h
def Loc.set:Loc->Nat->Nat->az->Loc
 |[],n,h,c=>[(n,h,c)]
 |(k,g,d)::l,n,h,c=>bif aB k n then(k,h,c)::l else(k,g,d)::Loc.set l n h c
abbrev aw:=aC aa
structure Fr where
 env:aw
 size:Nat
 loc:Loc
 deriving Inhabited
abbrev df:=Option aa
def SO:df->aa
 |some v=>v
 |none=>ju
def ac(e:aw)(t:Nat):aa:=SO (e.get t)
def mW:az->Nat->aa
 |[],_=>ju
 |x::_,0=>x
 |_::l,n+1=>mW l n
def qx:Nat->az->aw
 |_,[]=>.nil
 |n,v::l=>(qx (n+1) l).set n (X v)
def Ho:Value->df
 |.bool b=>X (.bool b)
 |.int k n=>X (.int k n)
 |.string s=>X (.str s.data.toList)
 |.pointer Z=>X .nilp
 |.slice Z 0 0=>X .uP
 |.map Z=>X .nilm
 |.nilFunc=>X .nilf
 |.nilIface=>X .nili
 |_=>Z
abbrev er:=List Value
def Hp:er->K_
 |[]=>X []
 |v::l=>(Ho v).bind λa=>(Hp l).bind λr=>X (a::r)
def ofValue:Value->df
 |.agg cs=>(Hp cs.toList).bind λl=>X (.agg l)
 |v=>Ho v
def ev(env:aw):Operand->df
 |.tmp t=>X (ac env t)
 |.const v=>ofValue v
 |.func f=>X (.func (.func f) [] [])
 |.global _=>Z
def evc(env:aw)(x:Operand):df:=(ev env x).bind λv=>bif v.gt then X v else Z
abbrev B_:=List Operand
def evcs(env:aw):B_->K_
 |[]=>X []
 |x::l=>(evc env x).bind λv=>(evcs env l).bind λr=>X (v::r)
section
variable(P:Program)
abbrev W9:=Option Bool
def Br(t:TypeId):W9:=
 (P.underlying t).bind fun
  |.struct _=>X O
  |.array _ _=>X O
  |_=>X I
def cW(t:TypeId):pb:=(P.info? t).bind λi=>X i.size
def On(t:TypeId):pb:=(P.info? t).bind λi=>X i.bytes
def dD(t:TypeId):df:=(P.info? t).bind λi=>i.zero.bind ofValue
def cut(cs:az)(off n:Nat):K_:=
 let r:=(cs.drop off).take n
 bif aB (J r) n then X r else Z
def gK(t:TypeId)(cs:az)(off:Nat):df:=
 (Br P t).bind λb=>bif b then(cW P t).bind λn=>(cut cs off n).bind λr=>X (.agg r)
  else match cs.drop off with
   |v::_=>X v
   |[]=>Z
def gL(cs:az)(off:Nat)(new:az):K_:=
 bif aP (off+J new) (J cs)then X (cs.take off++(new++cs.drop (off+J new)))else Z
end
section
abbrev cE:=Nat->Nat
variable(P:Program)(mk:aK)(ch:cE)(kmax:cE)
def lC(t:TypeId)(a:aa)(loc:Loc)(s:St):df:=
 match a with
 |.uV l g off=>(loc.get l g).bind λcs=>gK P t cs off
 |.ptr n off=>(s.get mk n).bind fun
   |.cells cs=>gK P t cs off
   |.fix (.cells cs)=>gK P t cs off
   |_=>Z
 |.ro cs=>gK P t cs 0
 |_=>Z
def t0(t:TypeId)(a v:aa)(loc:Loc)(s:St):Option (Loc×St):=
 (cW P t).bind λn=>bif aB (J v.cells) n&&bC 0 n then
  match a with
  |.uV l g off=>(loc.get l g).bind λcs=>(gL cs off v.cells).bind λcs'=>X (loc.set l g cs',s)
  |.ptr m off=>(s.get mk m).bind fun
    |.cells cs=>(gL cs off v.cells).bind λcs'=>X (loc,s.put m (X (.cells cs')))
    |_=>Z
  |_=>Z
 else Z
abbrev Q3:=List (Nat×Operand)
abbrev A_:=Option (Nat×Nat)
def ey(place:Nat->A_)(env:aw)(cells:az):Q3->K_
 |[]=>X cells
 |(i,x)::rest=>(evc env x).bind λv=>(place i).bind λ(off,size)=>
  bif aB (J v.cells) size then(gL cells off v.cells).bind λc=>ey place env c rest else Z
def Eg:List Field->Option MT
 |[]=>X []
 |f::fs=>(cW P f.type).bind λn=>(Eg fs).bind λr=>X ((f.offset,n)::r)
def sV(t:TypeId)(parts:Q3)(env:aw):df:=
 (dD P t).bind λz=>(P.underlying t).bind fun
  |.struct fields=>(Eg P fields.toList).bind λd=>(ey (λi=>d[i]?) env z.cells parts).bind λc=>X (.agg c)
  |.array _ e=>(cW P e).bind λn=>(ey (λi=>X (i*n,n)) env z.cells parts).bind λc=>X (.agg c)
  |_=>Z
def chunk(d:Bool)(size:Nat):Nat->az->K_
 |0,[]=>X []
 |0,_=>Z
 |n+1,cs=>
  bif d then(cut cs 0 size).bind λe=>(chunk d size n (cs.drop size)).bind λr=>X (.agg e::r)
  else match cs with
   |v::rest=>(chunk d size n rest).bind λr=>X (v::r)
   |[]=>Z
def au:az->az
 |[]=>[]
 |v::l=>v.cells++au l
def eZ(z:az):Nat->az
 |0=>[]
 |n+1=>z++eZ z n
structure EI where
 n:Nat
 b:Nat
 g:Bool
 z:aa
 deriving Inhabited
def wT(e:TypeId):Option EI:=
 (cW P e).bind λn=>(On P e).bind λb=>(Br P e).bind λg=>(dD P e).bind λz=>
  bif bC 0 n&&aB (J z.cells) n&&(g||aB n 1)&&bC 0 b then X ⟨n,b,g,z⟩else Z
def jk(t:TypeId):Option EI:=
 (P.underlying t).bind fun
  |.slice e=>wT P e
  |_=>Z
abbrev p0:=Option (aa×St)
def sW(t:TypeId)(len:Nat)(parts:Q3)(mu:Bool)(env:aw)(s:St):p0:=
 (jk P t).bind λE=>bif aP (len*E.n) 16777216 then
  (ey (λi=>X (i*E.n,E.n)) env (eZ E.z.cells len) parts).bind λcs=>
   bif mu then X (.arr E.n s.aL 0 len len,s.new (.cells cs))
   else(chunk E.g E.n len cs).bind λxs=>X (.list E.n xs .Al,s)
  else Z
def dJ:aa->pb
 |.int _ (.ofNat n)=>X n
 |_=>Z
abbrev sh:=Option Operand
def dK(env:aw)(x:sh)(d:Nat):pb:=
 match x with
 |none=>X d
 |some x=>(ev env x).bind dJ
def fR(loc:Loc)(t:TypeId)(x i:aa):df:=
 (dJ i).bind λi=>(P.underlying t).bind fun
  |.array len e=>(cW P e).bind λn=>bif bC i len then
   match x with
   |.uV l g off=>bif aB (loc.gen l) g then X (.uV l g (off+i*n))else Z
   |.ptr m off=>X (.ptr m (off+i*n))
   |.ro cs=>X (.ro (cs.drop (i*n)))
   |_=>Z
    else Z
  |.slice e=>(cW P e).bind λn=>
   match x with
   |.list sz xs _=>bif aB sz n&&bC i (J xs)then X (.ro (mW xs i).cells)else Z
   |.arr sz m off len _=>bif aB sz n&&bC i len then X (.ptr m (off+i*n))else Z
   |_=>Z
  |_=>Z
def tf(loc:Loc)(t:TypeId)(x:aa)(f:Nat):df:=
 (P.underlying t).bind fun
  |.struct fields=>(fields[f]?).bind λd=>(cW P d.type).bind λn=>bif aB n 0 then Z else
   match x with
   |.uV l g off=>bif aB (loc.gen l) g then X (.uV l g (off+d.offset))else Z
   |.ptr m off=>X (.ptr m (off+d.offset))
   |.ro cs=>X (.ro (cs.drop d.offset))
   |_=>Z
  |_=>Z
def zu(t:TypeId)(x:aa)(f:Nat):df:=
 (P.underlying t).bind fun
  |.struct fields=>(fields[f]?).bind λd=>match x with
   |.agg cs=>gK P d.type cs d.offset
   |_=>Z
  |_=>Z
def Bo(t:TypeId)(x i:aa):df:=
 (dJ i).bind λi=>(P.underlying t).bind fun
  |.array len e=>(cW P e).bind λn=>bif bC i len then match x with
   |.agg cs=>gK P e cs (i*n)
   |_=>Z
    else Z
  |.string=>match x with
   |.str s=>match s.drop i with
     |b::_=>X (.int .u8 b.toNat)
     |[]=>Z
   |_=>Z
  |_=>Z
def eH(t:TypeId)(x:aa)(low d g:sh)(env:aw)(s:St):df:=
 (P.underlying t).bind fun
  |.string=>match x,g with
    |.str b,Z=>(dK env d (J b)).bind λh=>(dK env low 0).bind λl=>
     bif aP l h&&aP h (J b)then X (.str ((b.take h).drop l))else Z
    |_,_=>Z
  |.slice e=>(cW P e).bind λn=>
    match x with
    |.uP=>(dK env d 0).bind λh=>(dK env low 0).bind λl=>(dK env g 0).bind λm=>
     bif aB h 0&&aB l 0&&aB m 0&&(g.isNone||d.isSome)then X .uP else Z
    |.list sz xs r=>(dK env d (J xs)).bind λh=>(dK env low 0).bind λl=>
     bif aB sz n&&aP l h&&aP h (J xs)then
      match g with
      |none=>X (.list sz ((xs.take h).drop l) (bif aB h (J xs)&&(bC l h||aB l 0)then r else .no))
      |some _=>(dK env g 0).bind λm=>bif aB m h&&d.isSome then X (.list sz ((xs.take h).drop l) .Al)else Z
     else Z
    |.arr sz m off len lcap=>(dK env d len).bind λh=>(dK env low 0).bind λl=>(dK env g lcap).bind λc=>
     bif aB sz n&&aP l h&&aP h c&&aP c lcap&&(g.isNone||d.isSome)then X (.arr sz m (off+l*n) (h-l) (c-l))else Z
    |_=>Z
  |.array len e=>(cW P e).bind λn=>
    match x with
    |.ptr m off=>(dK env d len).bind λh=>(dK env low 0).bind λl=>(s.get mk m).bind fun
      |.cells cs=>bif aP l h&&aP h len&&g.isNone&&bC 0 (len*n)&&aP (off+len*n) (J cs)then X (.arr n m (off+l*n) (h-l) (len-l))else Z
      |_=>Z
    |_=>Z
  |_=>Z
def aQ(a b:Int):Bool:=decide (a<b)
def bV(a b:Int):Bool:=decide (a<=b)
def aj(a b:Int):Bool:=a==b
def leBytes:oa->oa->Bool:=λx y=>gQ x y||x==y
def se:aa->aa->Bool
 |.bool a,.bool b=>a==b
 |.int k a,.int k' b=>k==k'&&aj a b
 |.str a,.str b=>a==b
 |_,_=>I
def uN:az->az->Bool
 |[],[]=>O
 |a::x,b::y=>se a b&&uN x y
 |_,_=>I
def pd:aa->aa->Bool
 |.agg a,.agg b=>uN a b
 |x,y=>se x y
abbrev T_:=TypeId->aa->aa->W9
def Da(rec:T_)(xs ys:az):List Field->W9
 |[]=>some true
 |f::fs=>bif f.name== "_" then Da rec xs ys fs else
  (gK P f.type xs f.offset).bind fun a=>(gK P f.type ys f.offset).bind fun b=>(rec f.type a b).bind fun r=>
   bif r then Da rec xs ys fs else some false
def FO(d:T_)(e:TypeId)(n:Nat)(xs ys:az):Nat->Nat->W9
 |0,_=>X O
 |k+1,i=>(gK P e xs (i*n)).bind λa=>(gK P e ys (i*n)).bind λb=>(d e a b).bind λr=>
   bif r then FO d e n xs ys k (i+1)else X I
def i9:Nat->TypeId->aa->aa->W9
 |0,_,_,_=>Z
 |d+1,t,x,y=>(P.underlying t).bind λD=>match D,x,y with
  |.bool,.bool a,.bool b=>X (a==b)
  |.int _,.int k a,.int k' b=>bif k==k' then X (aj a b)else Z
  |.string,.str a,.str b=>X (a==b)
  |.struct fs,.agg xs,.agg ys=>bif P.stoodInHeld t then Z else Da P (i9 d) xs ys fs.toList
  |.array len e,.agg xs,.agg ys=>(cW P e).bind λn=>FO P (i9 d) e n xs ys len 0
  |.slice _,.uP,.uP=>X O
  |.slice _,.uP,.list _ _ _=>X I
  |.slice _,.list _ _ _,.uP=>X I
  |.slice _,.uP,.arr _ _ _ _ _=>X I
  |.slice _,.arr _ _ _ _ _,.uP=>X I
  |.map _ _,.nilm,.nilm=>X O
  |.map _ _,.nilm,.map _=>X I
  |.map _ _,.map _,.nilm=>X I
  |.func _ _ _,.nilf,.nilf=>X O
  |.func _ _ _,.nilf,.func _ _ _=>X I
  |.func _ _ _,.func _ _ _,.nilf=>X I
  |.pointer _,.nilp,.nilp=>X O
  |.pointer _,.nilp,.ptr _ _=>X I
  |.pointer _,.ptr _ _,.nilp=>X I
  |_,_,_=>Z
def wV(t:TypeId)(x y:aa):W9:=
 match x,y with
 |.agg _,.agg _=>bif P.eqGuardType P.depth t then Z else i9 P 8 t x y
 |_,_=>i9 P 8 t x y
abbrev s_:=TypeId->aa->Bool
def GZ(rec:s_)(xs:az):List Field->Bool
 |[]=>true
 |f::fs=>bif f.name== "_" then GZ rec xs fs else
  match gK P f.type xs f.offset with
  |some a=>rec f.type a&&GZ rec xs fs
  |none=>false
def Ln(d:s_)(e:TypeId)(n:Nat)(xs:az):Nat->Nat->Bool
 |0,_=>O
 |k+1,i=>match gK P e xs (i*n)with
  |some a=>d e a&&Ln d e n xs k (i+1)
  |none=>I
def zH:Nat->TypeId->aa->Bool
 |0,_,_=>I
 |d+1,t,x=>match P.underlying t,x with
  |some .bool,.bool _=>O
  |some (.int _),.int _ _=>O
  |some .string,.str _=>O
  |some (.struct fs),.agg xs=>GZ P (zH d) xs fs.toList
  |some (.array len e),.agg xs=>match cW P e with
   |some n=>Ln P (zH d) e n xs len 0
   |none=>I
  |_,_=>I
def J5(op:BinOp)(k:IntKind)(a b:Int):df:=
 match op with
 |.add=>X (.int k (k.wrap (a+b)))
 |.sub=>X (.int k (k.wrap (a-b)))
 |.mul=>X (.int k (k.wrap (a*b)))
 |.quo=>bif aj b 0 then Z else X (.int k (k.wrap (a.tdiv b)))
 |.rem=>bif aj b 0 then Z else X (.int k (a.tmod b))
 |.and=>X (.int k (k.wrap ((BitVec.ofInt k.bits a) &&& (BitVec.ofInt k.bits b)).toNat))
 |.or=>X (.int k (k.wrap ((BitVec.ofInt k.bits a) ||| (BitVec.ofInt k.bits b)).toNat))
 |.xor=>X (.int k (k.wrap ((BitVec.ofInt k.bits a) ^^^ (BitVec.ofInt k.bits b)).toNat))
 |.andNot=>X (.int k (k.wrap ((BitVec.ofInt k.bits a) &&& ~~~(BitVec.ofInt k.bits b)).toNat))
 |.eql=>X (.bool (aj a b))
 |.neq=>X (.bool (!aj a b))
 |.lss=>X (.bool (aQ a b))
 |.leq=>X (.bool (bV a b))
 |.gtr=>X (.bool (aQ b a))
 |.geq=>X (.bool (bV b a))
 |_=>Z
def TV(op:BinOp)(a b:oa):df:=
 match op with
 |.add=>bif aP (J a+J b) 1073741824 then X (.str (a++b))else Z
 |.eql=>X (.bool (a==b))
 |.neq=>X (.bool (!(a==b)))
 |.lss=>X (.bool (gQ a b))
 |.leq=>X (.bool (leBytes a b))
 |.gtr=>X (.bool (!leBytes a b))
 |.geq=>X (.bool (!gQ a b))
 |_=>Z
def cN(op:BinOp)(t:TypeId)(x y:aa):df:=
 match x,y with
 |.int k a,.int k' b=>match op with
   |.shl=>bif aQ b 0 then Z else X (.int k (k.wrap (a*2 ^ (min b.toNat k.bits))))
   |.shr=>bif aQ b 0 then Z else X (.int k (a.fdiv (2 ^ (min b.toNat k.bits))))
   |_=>bif k==k' then J5 op k a b else Z
 |.str a,.str b=>TV op a b
 |x,y=>match op with
  |.eql=>(wV P t x y).bind λb=>X (.bool b)
  |.neq=>(wV P t x y).bind λb=>X (.bool (!b))
  |_=>Z
def Ce(op:UnOp)(x:aa):df:=
 match op,x with
 |.neg,.int k n=>X (.int k (k.wrap (0-n)))
 |.not,.bool b=>X (.bool !b)
 |_,_=>Z
def n9(g dst:TypeId)(x:aa):df:=
 (P.underlying g).bind λ_=>(P.underlying dst).bind λd=>match d,x with
  |.int k,.int _ n=>X (.int k (k.wrap n))
  |.string,.str s=>X (.str s)
  |_,_=>Z
abbrev h_:=Option (Nat×dA)
def mP(kt:TypeId)(k:aa):F0->Nat->Option h_
 |[],_=>X Z
 |e::es,i=>(i9 P 8 kt k e.key).bind λb=>bif b then X (X (i,e))else mP kt k es (i+1)
def jV(t:TypeId)(k:aa):Option (TypeId×TypeId):=
 (P.underlying t).bind fun
  |.map kt e=>bif zH P 8 kt k then X (kt,e)else Z
  |_=>Z
def zL(kt:TypeId)(m k:aa)(s:St):Option h_:=
 match m with
 |.nilm=>X Z
 |.map n=>(s.get mk n).bind fun
   |.map es _=>mP P kt k es 0
   |.fix (.map es _)=>mP P kt k es 0
   |_=>Z
 |_=>Z
def mi(t:TypeId)(m k:aa)(d:Bool)(s:St):df:=
 (jV P t k).bind λg=>(dD P g.2).bind λz=>(zL P mk g.1 m k s).bind fun
  |some x=>X (bif d then .tup [x.2.val,.bool O]else x.2.val)
  |none=>X (bif d then .tup [z,.bool I]else z)
abbrev D_:=Option St
def mF(t:TypeId)(m k v:aa)(s:St):D_:=
 (jV P t k).bind λd=>match m with
  |.map n=>(s.get mk n).bind fun
    |.map es clock=>(mP P d.1 k es 0).bind fun
      |some x=>bif pd x.2.key k then X (s.put n (X (.map (es.set x.1 ⟨k,v,x.2.born⟩) clock)))else Z
      |none=>X (s.put n (X (.map (es++[⟨k,v,clock⟩]) (clock+1))))
    |_=>Z
  |_=>Z
def rP(t:TypeId)(m k:aa)(s:St):p0:=
 (jV P t k).bind λd=>(dD P d.2).bind λz=>match m with
  |.map n=>(s.get mk n).bind fun
    |.map es clock=>(mP P d.1 k es 0).bind fun
      |some x=>bif pd x.2.key k then X (.tup [x.2.val,.int .i64 x.2.born],s.put n (X (.map (es.set x.1 ⟨k,x.2.val,x.2.born⟩) clock)))else Z
      |none=>X (.tup [z,.int .i64 clock],s.put n (X (.map (es++[⟨k,z,clock⟩]) (clock+1))))
    |_=>Z
  |_=>Z
def Ah(b:Nat)(v:aa):F0->Option F0
 |[]=>Z
 |e::es=>bif aB e.born b then X (⟨e.key,v,e.born⟩::es)else(Ah b v es).bind λr=>X (e::r)
def uU(m d v:aa)(s:St):D_:=
 (dJ d).bind λb=>match m with
  |.map n=>(s.get mk n).bind fun
    |.map es clock=>(Ah b v es).bind λg=>X (s.put n (X (.map g clock)))
    |_=>Z
  |_=>Z
def tU(t:TypeId)(x:aa)(s:St):p0:=
 (P.underlying t).bind fun
  |.map _ _=>match x with
    |.nilm=>X (.ptr s.aL 0,s.new (.iter Z 0 [] 0))
    |.map m=>(s.get mk m).bind fun
      |.map _ clock=>X (.ptr s.aL 0,s.new (.iter (X m) clock [] clock))
      |_=>Z
    |_=>Z
  |_=>Z
def lL(seen:be)(es:F0):F0:=es.filter (λe=> !seen.any (aB e.born))
def vT(n m since clock:Nat)(seen:be)(e:dA)(s:St):aa×St:=
 (.tup [.bool O,e.key,e.val],s.put n (X (.iter (X m) since (seen++[e.born]) clock)))
def tH(n m since:Nat)(seen:be)(clock:Nat)(l:F0)(s:St):p0:=
 match l with
 |[]=>X (.tup [.bool I],s)
 |e::r=>bif(e::r).all (λe=>bC e.born since)then
   match r with
   |[]=>X (vT n m since clock seen e s)
   |_::_=>bif aP (e::r).length (kmax s.ci)then
     ((e::r)[ch s.ci % (e::r).length]?).bind λe=>X ((vT n m since clock seen e s).1, { (vT n m since clock seen e s).2 with ci:=s.ci+1 })
    else Z
  else Z
def oz(it:aa)(d:Bool)(s:St):p0:=
 match it with
 |.ptr n 0=>(s.get mk n).bind fun
   |.iter Z _ _ _=>bif d then Z else X (.tup [.bool I],s)
   |.iter (X m) since seen stepped=>bif d then Z else(s.get mk m).bind fun
     |.map es clock=>bif !seen.isEmpty&&!es.isEmpty&&es.all (λe=>aP stepped e.born)then Z
       else tH ch kmax n m since seen clock (lL seen es) s
     |_=>Z
   |_=>Z
 |_=>Z
def Bi(b:Nat):F0->Option dA
 |[]=>Z
 |e::es=>bif aB e.born b then X e else Bi b es
def wU(it:aa)(s:St):df:=
 match it with
 |.ptr n 0=>(s.get mk n).bind fun
   |.iter (X m) _ seen stepped=>(s.get mk m).bind fun
     |.map es clock=>bif aB clock stepped then
      (seen.getLast?).bind λb=>(Bi b es).bind λe=>X (.tup [e.key,e.val])
       else Z
     |_=>Z
   |_=>Z
 |_=>Z
def mo(t:TypeId)(l c:aa)(mu:Bool)(s:St):p0:=
 (jk P t).bind λE=>(dJ l).bind λl=>(dJ c).bind λc=>
  bif aP l c&&aP (c*E.b) 1099511627776&&aP c 1099511627776 then
   bif aB l 0&&!mu then X (.list E.n [] (.own s.aL),s.new .tok)
   else X (.arr E.n s.aL 0 l l,s.new (.cells (eZ E.z.cells l)))
  else Z
def cR(d:Bool)(n:Nat)(x:aa)(s:St):K_:=
 match x with
 |.uP=>X []
 |.list sz xs _=>bif aB sz n then X xs else Z
 |.arr sz m off len _=>bif aB sz n then(s.get mk m).bind fun
   |.cells cs=>(cut cs off (len*n)).bind λc=>chunk d n len c
   |_=>Z
   else Z
 |_=>Z
def eE(need d:Nat):Bool:=aP ((need*2+1024)*d) 140737488355328
def iq(E:EI)(mu:Bool)(xs:az)(s:St):p0:=
 bif eE (J xs) E.b then
  bif mu then X (.arr E.n s.aL 0 (J xs) (J xs),s.new (.cells (au xs)))
  else X (.list E.n xs (.own s.aL),s.new .tok)
 else Z
def fk(E:EI)(x:aa)(ys:az)(mu:Bool)(s:St):p0:=
 match x with
 |.uP=>iq E mu ys s
 |.list sz xs .Al=>bif aB sz E.n then iq E mu (xs++ys) s else Z
 |.list sz xs (.own k)=>(s.get mk k).bind fun
   |.tok=>bif eE (J xs+J ys) E.b&&aB sz E.n then X (.list E.n (xs++ys) (.own s.aL),(s.put k Z).new .tok)else Z
   |_=>Z
 |.arr sz m off len lcap=>(s.get mk m).bind fun
   |.cells cs=>bif eE (len+J ys) E.b&&aB sz E.n then
    bif aB (off+len*E.n) (J cs)then
     X (.arr E.n s.aL 0 (len+J ys) (len+J ys),(s.put m Z).new (.cells (cs.drop off++au ys)))
    else bif aP (len+J ys) lcap then
     (gL cs (off+len*E.n) (au ys)).bind λcs'=>X (.arr E.n m off (len+J ys) lcap,s.put m (X (.cells cs')))
    else Z
     else Z
   |_=>Z
 |_=>Z
def rF:aa->Bool
 |.uP=>O
 |.list _ _ _=>O
 |.arr _ _ _ _ _=>O
 |_=>I
def cL(t:TypeId)(x y:aa)(mu:Bool)(s:St):p0:=
 (jk P t).bind λE=>(cR mk E.g E.n y s).bind λys=>
  match ys with
  |[]=>bif rF x then X (x,s)else Z
  |_::_=>fk mk E x ys mu s
def rk(t:TypeId)(x y:aa)(s:St):p0:=
 (jk P t).bind λE=>(cR mk E.g E.n y s).bind λys=>
  match x with
  |.uP=>X (.int .i64 0,s)
  |.list _ [] _=>X (.int .i64 0,s)
  |.arr sz m off len _=>bif aB sz E.n then(s.get mk m).bind fun
    |.cells cs=>(gL cs off (au (ys.take len))).bind λcs'=>X (.int .i64 (ys.take len).length,s.put m (X (.cells cs')))
    |_=>Z
    else Z
  |_=>Z
def fZ(t:TypeId)(x:aa)(s:St):df:=
 (P.underlying t).bind λd=>match d,x with
  |.string,.str b=>X (.int .i64 (J b))
  |.array n _,_=>X (.int .i64 n)
  |.slice _,.uP=>X (.int .i64 0)
  |.slice _,.list _ xs _=>X (.int .i64 (J xs))
  |.slice _,.arr _ _ _ len _=>X (.int .i64 len)
  |.map _ _,.nilm=>X (.int .i64 0)
  |.map _ _,.map n=>(s.get mk n).bind fun
    |.map es _=>X (.int .i64 (J es))
    |_=>Z
  |_,_=>Z
def ri(t:TypeId)(x:aa)(s:St):D_:=
 match x with
 |.nilm=>X s
 |.uP=>X s
 |.map n=>(s.get mk n).bind fun
   |.map _ clock=>X (s.put n (X (.map [] clock)))
   |_=>Z
 |.list _ [] _=>X s
 |.arr sz m off len _=>bif aB len 0 then X s else(jk P t).bind λE=>
   bif aB sz E.n then(s.get mk m).bind fun
    |.cells cs=>(gL cs off (eZ E.z.cells len)).bind λcs'=>X (s.put m (X (.cells cs')))
    |_=>Z
   else Z
 |_=>Z
def tD(isMax:Bool):aa->az->df
 |.int k a,[]=>X (.int k a)
 |.int k a,.int k' b::l=>bif k==k' then tD isMax (.int k (bif isMax then bif aQ a b then b else a else bif aQ b a then b else a)) l else Z
 |.str a,[]=>X (.str a)
 |.str a,.str b::l=>tD isMax (.str (bif isMax then bif gQ a b then b else a else bif leBytes a b then a else b)) l
 |_,_=>Z
def lB(t:TypeId):Bool:=
 match P.underlying t with
 |some (.slice _)=>O
 |_=>I
def Gf(t:TypeId):Bool:=
 match P.underlying t with
 |some (.int _)=>O
 |_=>I
def Bm(t:TypeId)(x y:aa)(s:St):p0:=
 match x,y with
 |.uP,.int _ (.ofNat n)=>(jk P t).bind λE=>
  bif bC 0 n&&(aP n 1000000&&eE n E.b)then X (.arr E.n s.aL 0 n n,s.new (.cells (eZ E.z.cells n)))else Z
 |_,_=>Z
abbrev n_:=List TypeId
def fQ(b:Builtin)(d:n_)(mu:Bool)(args:az)(s:St):p0:=
 match b,d,args with
 |.len,[t],[x]=>(fZ P mk t x s).bind λv=>X (v,s)
 |.append,[t,t2],[x,y]=>bif lB P t2 then cL P mk t x y mu s else bif Gf P t2 then Bm P t x y s else Z
 |.cap,[t],[.uP]=>bif lB P t then X (.int .i64 0,s)else Z
 |.copy,[t,_],[x,y]=>rk P mk t x y s
 |.clear,[t],[x]=>(P.underlying t).bind λ_=>(ri P mk t x s).bind λs'=>X (.tup [],s')
 |.min,_,x::l=>(tD I x l).bind λv=>X (v,s)
 |.max,_,x::l=>(tD O x l).bind λv=>X (v,s)
 |_,_,_=>Z
abbrev gc:=Option (aa×Loc×St)
abbrev il:=Option Tmp
def rh(h:Nat)(dst:il)(cs:az)(loc:Loc)(s:St):gc:=
 bif aB h 1 then dst.bind λt=>X (.uV t (loc.gen t+1) 0,loc.set t (loc.gen t+1) cs,s)
 else X (.ptr s.aL 0,loc,s.new (.cells cs))
def fe(x:df)(l:Loc)(s:St):gc:=x.bind λa=>X (a,l,s)
def gj(x:p0)(l:Loc):gc:=x.bind λr=>X (r.1,l,r.2)
def mA(x:D_)(l:Loc):gc:=x.bind λs=>X (ju,l,s)
abbrev tB:=Tmp->Nat
def om(hint:tB):il->Nat
 |some t=>hint t
 |none=>0
def BS(env:aw)(c a b:Operand):df:=
 (ev env c).bind fun
  |.bool O=>ev env a
  |.bool I=>ev env b
  |_=>Z
def zR(loc:Loc):aa->df
 |.uV a g b=>bif aB (loc.gen a) g then X (.uV a g b)else Z
 |.ptr a b=>X (.ptr a b)
 |.ro c=>X (.ro c)
 |.func (.func f) a b=>X (.func (.func f) a b)
 |_=>Z
def Dd(i:Nat):aa->df
 |.tup l=>l[i]?
 |_=>Z
abbrev Dt:=Array Operand
def DN(env:aw)(fn:Fn)(first captured:Dt):df:=
 match fn with
 |.func f=>(evcs env first.toList).bind λa=>(evcs env captured.toList).bind λb=>X (.func (.func f) a b)
 |_=>Z
def jq(t:TypeId)(env:aw)(r:sh)(s:St):p0:=
 match r with
 |none=>X (.map s.aL,s.new (.map [] 0))
 |some x=>(P.underlying t).bind fun
  |.map _ _=>(ev env x).bind fun
    |.int _ _=>X (.map s.aL,s.new (.map [] 0))
    |_=>Z
  |_=>Z
def LN(hint:tB)(dst:il)(e:TypeId)(fr:Fr)(s:St):gc:=
 (dD P e).bind λz=>rh (om hint dst) dst z.cells fr.loc s
def LP(hint:tB)(dst:il)(x:Operand)(fr:Fr)(s:St):gc:=
 (evc fr.env x).bind λa=>rh (om hint dst) dst a.cells fr.loc s
def D9(t:TypeId)(a:Operand)(fr:Fr)(s:St):gc:=
 (ev fr.env a).bind λa=>fe (lC P mk t a fr.loc s) fr.loc s
def Ea(t:TypeId)(a x:Operand)(fr:Fr)(s:St):gc:=
 (ev fr.env a).bind λa=>(evc fr.env x).bind λx=>(t0 P mk t a x fr.loc s).bind λr=>X (ju,r.1,r.2)
def LO(op:BinOp)(t:TypeId)(x y:Operand)(fr:Fr)(s:St):gc:=
 (evc fr.env x).bind λx=>(evc fr.env y).bind λy=>fe (cN P op t x y) fr.loc s
def Hw(t:TypeId)(m k x:Operand)(fr:Fr)(s:St):gc:=
 (evc fr.env m).bind λm=>(evc fr.env k).bind λk=>(evc fr.env x).bind λx=>mA (mF P mk t m k x s) fr.loc
def LS(t:TypeId)(x i:Operand)(d:Bool)(fr:Fr)(s:St):gc:=
 (evc fr.env x).bind λx=>(evc fr.env i).bind λi=>fe (mi P mk t x i d s) fr.loc s
def LU(hint:tB)(dst:il)(t:TypeId)(l c:Operand)(fr:Fr)(s:St):gc:=
 (ev fr.env l).bind λl=>(ev fr.env c).bind λc=>gj (mo P t l c (aB (om hint dst) 2) s) fr.loc
def D8(t:TypeId)(x i:Operand)(fr:Fr)(s:St):gc:=
 (ev fr.env x).bind λx=>(ev fr.env i).bind λi=>fe (fR P fr.loc t x i) fr.loc s
def LR(t:TypeId)(x i:Operand)(fr:Fr)(s:St):gc:=
 (evc fr.env x).bind λx=>(ev fr.env i).bind λi=>fe (Bo P t x i) fr.loc s
def LW(t:TypeId)(m k:Operand)(fr:Fr)(s:St):gc:=
 (evc fr.env m).bind λm=>(evc fr.env k).bind λk=>gj (rP P mk t m k s) fr.loc
def LQ(m d x:Operand)(fr:Fr)(s:St):gc:=
 (evc fr.env m).bind λm=>(evc fr.env d).bind λd=>(evc fr.env x).bind λx=>mA (uU mk m d x s) fr.loc
def vB(hint:tB)(dst:il)(c:Call)(fr:Fr)(s:St):gc:=
 match c.callee with
 |.builtin b=>(evcs fr.env c.args.toList).bind λd=>gj (fQ P mk b c.argTypes.toList (aB (om hint dst) 2) d s) fr.loc
 |_=>Z
abbrev W_:=aa->df
def qy(x:Operand)(g:W_)(fr:Fr)(s:St):gc:=
 (ev fr.env x).bind λa=>fe (g a) fr.loc s
def mq(x:Operand)(g:W_)(fr:Fr)(s:St):gc:=
 (evc fr.env x).bind λa=>fe (g a) fr.loc s
def ll(hint:tB)(dst:il)(op:Op)(fr:Fr)(s:St):gc:=
 match op with
 |.move x=>fe (ev fr.env x) fr.loc s
 |.assign x=>fe (ev fr.env x) fr.loc s
 |.pick c a b=>fe (BS fr.env c a b) fr.loc s
 |.alloc e=>LN P hint dst e fr s
 |.box _ x=>LP hint dst x fr s
 |.build t parts=>fe (sV P t parts.toList fr.env) fr.loc s
 |.buildSlice t len parts=>gj (sW P t len parts.toList (aB (om hint dst) 2) fr.env s) fr.loc
 |.load t a=>D9 P mk t a fr s
 |.store t a x=>Ea P mk t a x fr s
 |.nilCheck x=>qy x (zR fr.loc) fr s
 |.binOp op t x y _=>LO P op t x y fr s
 |.unOp op _ x=>mq x (Ce op) fr s
 |.convert src dst x=>mq x (n9 P src dst) fr s
 |.makeFunc fn first captured=>fe (DN fr.env fn first captured) fr.loc s
 |.makeMap t r=>gj (jq P t fr.env r s) fr.loc
 |.makeSlice t l c=>LU P hint dst t l c fr s
 |.slice t x lo hi mx=>mq x (λx=>eH P mk t x lo hi mx fr.env s) fr s
 |.fieldAddr t x f=>qy x (λx=>tf P fr.loc t x f) fr s
 |.field t x f=>mq x (λx=>zu P t x f) fr s
 |.indexAddr t x i=>D8 P t x i fr s
 |.index t x i=>LR P t x i fr s
 |.lookup t x i ok=>LS P mk t x i ok fr s
 |.mapUpdate t m k x=>Hw P mk t m k x fr s
 |.insert t m k x=>Hw P mk t m k x fr s
 |.mapEntry t m k=>LW P mk t m k fr s
 |.entryStore _ m st x=>LQ mk m st x fr s
 |.range t x=>(evc fr.env x).bind λx=>gj (tU P mk t x s) fr.loc
 |.next d isString=>(evc fr.env d).bind λd=>gj (oz mk ch kmax d isString s) fr.loc
 |.entry d=>mq d (λd=>wU mk d s) fr s
 |.extract x i=>qy x (Dd i) fr s
 |.call c=>vB P mk hint dst c fr s
 |_=>Z
end
def callee(env:aw)(c:Call):Option (FuncId×az):=
 match c.callee with
 |.value f=>(ev env f).bind fun
   |.func (.func f) first captured=>(evcs env c.args.toList).bind λd=>X (f,first++(d++captured))
   |_=>Z
 |_=>Z
inductive cx where
 |all
 |obj (n:Nat)
 |loc (t:Nat)
 |none
 deriving Inhabited
def w6(env:aw)(a:Operand):cx:=
 match ev env a with
 |some (.uV t _ _)=>.loc t
 |some (.ptr n _)=>.obj n
 |some (.ro _)=>.none
 |_=>.all
def qe(env:aw)(a:Operand):cx:=
 match ev env a with
 |some (.uV t _ _)=>.loc t
 |_=>.none
def FT(hint:tB)(dst:il):cx:=
 match dst with
 |some t=>bif aB (hint t) 1 then .loc t else .none
 |none=>.none
def JN(env:aw)(x:Operand):cx:=
 match ev env x with
 |some (.map n)=>.obj n
 |_=>.all
def Dh(env:aw)(x y:Operand):cx:=
 match ev env y with
 |some (.list _ _ _)=>match ev env x with
  |some .uP=>.none
  |some (.list _ _ .Al)=>.none
  |some (.list _ _ (.own k))=>.obj k
  |_=>.all
 |_=>.all
def bP(hint:tB)(dst:il)(env:aw):Op->cx
 |.load _ a=>w6 env a
 |.store _ a _=>w6 env a
 |.fieldAddr _ x _=>qe env x
 |.indexAddr _ x _=>qe env x
 |.nilCheck x=>qe env x
 |.move _|.assign _|.pick .. |.build .. |.field .. |.index .. |.binOp .. |.unOp .. |.convert .. |.makeFunc .. |.extract .. =>.none
 |.slice _ x _ _ _=>match ev env x with
   |some (.ptr n _)=>.obj n
   |_=>.none
 |.alloc _=>FT hint dst
 |.box _ _=>FT hint dst
 |.buildSlice .. |.makeMap .. |.makeSlice .. =>.none
 |.lookup _ x _ _=>JN env x
 |.call {callee:=.builtin .append,args, .. }=>match args.toList with
   |[x,y]=>Dh env x y
   |_=>.all
 |.call {callee:=.builtin .min, .. }=>.none
 |.call {callee:=.builtin .max, .. }=>.none
 |.call {callee:=.builtin .len,args, .. }=>match args[0]? with
   |some x=>match ev env x with
    |some (.map _)=>.all
    |_=>.none
   |none=>.none
 |_=>.all
def isStore:Op->Bool
 |.store .. =>O
 |.alloc _=>O
 |.box _ _=>O
 |_=>I
def cx.meets:cx->cx->Bool
 |.none,_=>I
 |_,.none=>I
 |.all,.all=>O
 |.all,.obj _=>O
 |.obj _,.all=>O
 |.obj n,.obj m=>aB n m
 |.loc t,.loc u=>aB t u
 |_,_=>I
structure ix where
 i:Nat
 c0:Nat
 c1:Nat
 foot:cx
 loud:Bool
 deriving Inhabited
inductive Rd where
 |ret (v:df)
 |ask (n:Nat) (k:aI->Rd)
abbrev M_:=Nat->ra
def em(g:M_):Rd->df
 |.ret v=>v
 |.ask n k=>(g n).bind λo=>em g (k o)
abbrev lk:=Option (Nat×(az->Rd))
def rX(x:K_):Rd:=.ret (x.bind λl=>X (.agg l))
abbrev Nw:=Option lk
abbrev O_:=Option (az->df)
structure ay where
 P:Program
 hint:FuncId->Tmp->Nat
 spec:FuncId->O_
 ch:Nat->Nat
 kmax:Nat->Nat
 specH:FuncId->Option (az->Rd):=λ_=>none
 specW:FuncId->Option (az->Nw):=λ_=>none
 anew:FuncId->Bool:=λ_=>false
abbrev ns:=Array Oper
def fg(ops:ns)(env:aw)(o:Oper):Bool:=
 match o.guard with
 |none=>O
 |some (j,want)=>match(ops[j]?).bind (·.dst)with
  |some d=>match ac env d with
   |.bool b=>b==want
   |_=>I
  |none=>I
def ei(fr:Fr)(dst:il)(v:aa)(loc:Loc):Option Fr:=
 match dst with
 |some d=>bif bC d fr.size then X ⟨fr.env.set d (X v),fr.size,loc⟩else Z
 |none=>X ⟨fr.env,fr.size,loc⟩
def aFw:Operand->pb
 |.tmp t=>X t
 |_=>Z
def Bz(ops:ns)(o:Oper):be:=
 o.op.operands.toList.filterMap aFw++(match o.guard with
  |some (g,_)=>match(ops[g]?).bind (·.dst)with|some d=>[d]|none=>[]
  |none=>[])
def FL(ops:ns)(x y:Oper):Bool:=
 (match x.dst with
  |some d=> !(Bz ops y).any (aB d)&&(match y.dst with|some e=> !aB d e|none=>O)
  |none=>O)&&
 (match y.dst with
  |some d=> !(Bz ops x).any (aB d)
  |none=>O)
abbrev zd:=List Oper
def I5(ops:ns)(x:Oper)(i:Nat):zd->be->Bool
 |[],_=>O
 |y::l,bs=>((bs.headD 0).testBit i||FL ops x y)&&I5 ops x i l bs.tail
def nq(ops:ns):Nat->zd->be->Bool
 |_,[],_=>O
 |i,x::l,bs=>x.after.toList.all (λe=> !Region.binds .any e||bC e.on i)&&(I5 ops x i l bs.tail&&nq ops (i+1) l bs.tail)
abbrev Vp:=List ix
def kG(bi:Nat)(rs:Vp)(mk:aK):aK:=
 match rs with
 |[]=>mk
 |r::rs=>bif bi.testBit r.i||aB r.c0 r.c1 then kG bi rs mk else(r.c0,r.c1)::kG bi rs mk
def wY(bi:Nat)(foot:cx)(loud:Bool)(rs:Vp):Bool:=
 rs.all λr=>bi.testBit r.i|| !((loud||r.loud)&&foot.meets r.foot)
section
variable(Q:ay)
def Td(mk:aK)(fr:Fr)(s:St):ResultVar->df
 |.tmp t=>evc fr.env (.tmp t)
 |.cell a t=>lC Q.P mk t (ac fr.env a) fr.loc s
def jb(mk:aK)(fr:Fr)(s:St):List ResultVar->K_
 |[]=>X []
 |r::l=>(Td Q mk fr s r).bind λv=>(jb mk fr s l).bind λvs=>bif v.gt then X (v::vs)else Z
def mY:az->aa
 |[v]=>v
 |vs=>.tup vs
abbrev Co:=Option (Ex×Fr×St)
abbrev o_:=Option (Fr×St)
structure nT where
 ops:FuncId->ns->aK->zd->Fr->St->o_
 draw:FuncId->ns->be->aK->Vp->Nat->zd->Fr->St->o_
 code:FuncId->Code->aK->Fr->St->Co
 call:FuncId->az->aK->St->p0
def nT.none:nT:=⟨λ_ _ _ _ _ _=>.none,λ_ _ _ _ _ _ _ _ _=>.none,λ_ _ _ _ _=>.none,λ_ _ _ _=>.none⟩
variable(r:nT)
def oU(c:Call)(mk:aK)(fr:Fr)(s:St):gc:=
 (callee fr.env c).bind λg=>(r.call g.1 g.2 mk s).bind λv=>X (v.1,fr.loc,v.2)
def H0:c_->az->aw->Option aw
 |[],[],e=>X e
 |t::ts,v::vs,e=>H0 ts vs (e.set t (X v))
 |_,_,_=>Z
abbrev x_:=Option (aa×aI×St)
def Cj(f:FuncId)(env:aw)(size:Nat)(ps:c_)(a b:Code):Ex×Fr×St->x_
 |(.normal,_,s)=>X (.bool O,.loop f env size ps a b Z,s)
 |(x,_,s)=>X (.bool I,.loop f env size ps a b (X x),s)
def Ax(f:FuncId)(env:aw)(size:Nat)(ps:c_)(a b:Code)(mk:aK):Ex×Fr×St->x_
 |(.normal,fr,s)=>(r.code f b mk fr s).bind (Cj f env size ps a b)
 |_=>Z
def Ck(o:aI)(args:az)(mk:aK)(s:St):x_:=
 match o with
 |.loop f env size ps a b Z=>bif ps.all (λt=>bC t size)then
  (H0 ps args env).bind λd=>(r.code f a mk ⟨d,size,[]⟩ s).bind (Ax r f env size ps a b mk)
   else Z
 |_=>Z
def mI(n:Nat)(args:az)(mk:aK)(s:St):p0:=
 (s.get mk n).bind λo=>(Ck r o args mk (s.put n Z)).bind λx=>X (x.1,x.2.2.put n (X x.2.1))
def yieldee(env:aw)(c:Call):Option (Nat×az):=
 match c.callee with
 |.value f=>(ev env f).bind fun
   |.yld n=>(evcs env c.args.toList).bind λd=>X (n,d)
   |_=>Z
 |_=>Z
def so(c:Call)(mk:aK)(fr:Fr)(s:St):gc:=
 (yieldee fr.env c).bind λg=>(mI r g.1 g.2 mk s).bind λv=>X (v.1,fr.loc,v.2)
def ot(env:aw)(c:Call):Bool:=
 match c.callee with
 |.value f=>match ev env f with
   |some (.yld _)=>O
   |_=>I
 |_=>I
def fu(f:FuncId)(o:Oper)(mk:aK)(fr:Fr)(s:St):gc:=
 match o.op with
 |.call c=>match c.callee with
   |.builtin _=>vB Q.P mk (Q.hint f) o.dst c fr s
   |_=>bif ot fr.env c then so r c mk fr s else oU r c mk fr s
 |op=>ll Q.P mk Q.ch Q.kmax (Q.hint f) o.dst op fr s
def mz(f:FuncId)(all:ns)(mk:aK)(l:zd)(fr:Fr)(s:St):o_:=
 match l with
 |[]=>X (fr,s)
 |o::rest=>
  bif fg all fr.env o then
   (fu Q r f o mk fr s).bind λx=>(ei fr o.dst x.1 x.2.1).bind λd=>r.ops f all mk rest d x.2.2
  else(ei fr o.dst ju fr.loc).bind λd=>r.ops f all mk rest d s
def St.xW(s s':St):St:=⟨s'.heap,s'.aL,bif aP s.gE s'.gE then s.gE else s'.gE,s'.ci⟩
def l8(f:FuncId)(all:ns)(g:be)(mk:aK)(rs:Vp)(i:Nat)(l:zd)(fr:Fr)(s:St):o_:=
 match l with
 |[]=>X (fr,s)
 |o::rest=>
  bif fg all fr.env o then
   (fu Q r f o (kG (g.headD 0) rs mk) fr ⟨s.heap,s.aL,s.aL,s.ci⟩).bind λx=>
    bif wY (g.headD 0) (bP (Q.hint f) o.dst fr.env o.op) (bC x.2.2.gE s.aL||isStore o.op) rs&&aB s.ci x.2.2.ci then
     (ei fr o.dst x.1 x.2.1).bind λd=>
      r.draw f all g.tail mk (⟨i,s.aL,x.2.2.aL,bP (Q.hint f) o.dst fr.env o.op,bC x.2.2.gE s.aL||isStore o.op⟩::rs) (i+1) rest d (s.xW x.2.2)
    else Z
  else(ei fr o.dst ju fr.loc).bind λd=>r.draw f all g.tail mk rs (i+1) rest d s
def pq(f:FuncId)(b:Code)(mk:aK):Ex×Fr×St->Co
 |(.normal,fr,s)=>r.code f b mk fr s
 |x=>X x
def C6(f:FuncId)(a b:Code)(mk:aK)(fr:Fr)(s:St):aa->Co
 |.bool O=>r.code f a mk fr s
 |.bool I=>r.code f b mk fr s
 |_=>Z
def pU(id:Nat):Ex×Fr×St->Ex×Fr×St
 |(.exit i,fr,s)=>bif aB i id then(.normal,fr,s)else(.exit i,fr,s)
 |x=>x
def Mr(f:FuncId)(ops:ns)(draw:Bool)(mk:aK)(fr:Fr)(s:St):Co:=
 (bif draw then bif nq ops 0 ops.toList (Region.before ops).toList then r.draw f ops (Region.before ops).toList mk [] 0 ops.toList fr s else Z
  else r.ops f ops mk ops.toList fr s).bind λx=>X (.normal,x.1,x.2)
def dR:Code->Bool
 |.seq a b=>dR a&&dR b
 |.cond _ a b=>dR a&&dR b
 |.block _ a=>dR a
 |.loop a=>dR a
 |.scope _=>I
 |.rangeFunc _ _ a b=>dR a&&dR b
 |_=>O
def jr:aa->Bool
 |.uV _ _ _=>I
 |_=>O
def HI:Du->Ex
 |none=>.normal
 |some x=>x
def BW(mk:aK)(n:Nat)(fr:Fr)(s:St):Co:=
 (s.get mk n).bind fun
  |.loop _ _ _ _ _ _ p=>X (HI p,fr,s.put n Z)
  |_=>Z
def tu(P:Program)(h:FuncId):Bool:=
 match P.funcs[h]? with
 |some d=>d.body.isSome
 |none=>I
def xS(f:FuncId)(ps:c_)(a b:Code)(mk:aK)(fr:Fr)(s:St):aa->Co
 |.func (.func h) first captured=>bif tu Q.P h&&(fr.env.all jr&&(dR a&&dR b))then
  (r.call h (first++(.yld s.aL::captured)) mk (s.new (.loop f fr.env fr.size ps a b Z))).bind λx=>BW mk s.aL fr x.2
   else Z
 |_=>Z
def zj(f:FuncId)(c:Code)(mk:aK)(fr:Fr)(s:St):Co:=
 match c with
 |.skip=>X (.normal,fr,s)
 |.label _=>X (.normal,fr,s)
 |.ret=>X (.ret,fr,s)
 |.exit id=>X (.exit id,fr,s)
 |.seq a b=>(r.code f a mk fr s).bind (pq r f b mk)
 |.cond x a b=>(ev fr.env x).bind (C6 r f a b mk fr s)
 |.block id b=>(r.code f b mk fr s).bind λx=>X (pU id x)
 |.scope b=>r.code f b mk fr s
 |.loop b=>(r.code f b mk fr s).bind (pq r f (.loop b) mk)
 |.region _ ops draw=>Mr r f ops draw mk fr s
 |.rangeFunc g ps a b=>(ev fr.env g).bind (xS Q r f ps.toList a b mk fr s)
 |_=>Z
def qb(fn:Func)(mk:aK):Ex×Fr×St->p0
 |(.exit _,_,_)=>Z
 |(_,fr,s)=>(jb Q mk fr s fn.results.toList).bind λvs=>X (mY vs,s)
def A2(d:Bool)(s:St)(n:Nat):aa->p0
 |.agg cs=>X (.tup [],s.put n (X (.cells cs)))
 |.tup [.arr sz _ _ len _,.agg cs]=>bif d then X (.arr sz s.aL 0 len len,(s.put n Z).new (.cells cs))else Z
 |_=>Z
def Aa(d:Bool)(mk:aK)(s:St)(p:Nat×(az->Rd)):aI->p0
 |.cells cs=>(em (s.get mk) (p.2 cs)).bind (A2 d s p.1)
 |_=>Z
def xP(d:Bool)(mk:aK)(s:St):lk->p0
 |none=>X (.tup [],s)
 |some p=>(s.get mk p.1).bind (Aa d mk s p)
def iW(f:FuncId)(args:az)(mk:aK)(s:St):p0:=
 match Q.spec f with
 |some sp=>(sp args).bind λv=>X (v,s)
 |none=>match Q.specH f with
  |some sp=>(em (s.get mk) (sp args)).bind λv=>X (v,s)
  |none=>match(Q.specW f).bind λsp=>sp args with
  |some p=>xP (Q.anew f) mk s p
  |none=>(Q.P.funcs[f]?).bind λd=>d.body.bind λc=>
   (r.code f c mk ⟨qx 0 args,bif aP (J args) d.ntmps then d.ntmps else J args,[]⟩ s).bind (qb Q d mk)
def Pk:nT:=⟨mz Q r,l8 Q r,zj Q r,iW Q r⟩
end
def b9(Q:ay):Nat->nT
 |0=>.none
 |n+1=>Pk Q (b9 Q n)
end
namespace aC
variable{α:Type}
theorem get_nil(n:Nat):(aC.nil:aC α).get n=Z:=rfl
theorem get_node(l:aC α)(v:Option α)(r:aC α)(n:Nat):
 (aC.node l v r).get n=if n=0 then v else if n % 2=1 then l.get (n / 2)else r.get (n / 2-1):=by
 show @pC (λ_=>Option α) (@pC (λ_=>Option α) (r.get (n / 2-1)) (l.get (n / 2)) (aB (n % 2) 1)) v (aB n 0)=_;by_cases h0:n=0;subst h0;rfl;have d:aB n 0=I:=by
  cases h:aB n 0;rfl
  simp_all
 rw[iN h0,d];by_cases h1:n % 2=1<;>simp_all [aB]
theorem one_zero(x:Option α)(n:Nat):one x 0 n=.node .nil x .nil:=rfl
theorem one_succ(x:Option α)(f n:Nat):
 one x (f+1) n=if n=0 then .node .nil x .nil else if n % 2=1 then .node (one x f (n / 2)) Z .nil else .node .nil Z (one x f (n / 2-1)):=by
 show @pC (λ_=>aC α) (@pC (λ_=>aC α) (.node .nil Z (one x f (n / 2-1))) (.node (one x f (n / 2)) Z .nil) (aB (n % 2) 1)) (.node .nil x .nil) (aB n 0)=_;by_cases h0:n=0;subst h0;rfl;have d:aB n 0=I:=by
  cases h:aB n 0;rfl
  simp_all
 rw[iN h0,d];by_cases h1:n % 2=1<;>simp_all [aB]
theorem get_one(x:Option α):∀(f n m:Nat),n<=f->(one x f n).get m=if m=n then x else Z:=by
 intro f
 induction f with
 |zero=>
  grind [one_zero,get_node,get_nil]
 |succ f d=>
  grind [one_succ,get_node,get_nil]
theorem set_nil(n:Nat)(x:Option α):(aC.nil:aC α).set n x=one x n n:=rfl
theorem set_node(l:aC α)(v:Option α)(r:aC α)(n:Nat)(x:Option α):
 (aC.node l v r).set n x=if n=0 then .node l x r else if n % 2=1 then .node (l.set (n / 2) x) v r else .node l v (r.set (n / 2-1) x):=by
 show @pC (λ_=>aC α) (@pC (λ_=>aC α) (.node l v (r.set (n / 2-1) x)) (.node (l.set (n / 2) x) v r) (aB (n % 2) 1)) (.node l x r) (aB n 0)=_;by_cases h0:n=0;subst h0;rfl;have d:aB n 0=I:=by
  cases h:aB n 0;rfl
  simp_all
 rw[iN h0,d];by_cases h1:n % 2=1<;>simp_all [aB]
theorem get_set(t:aC α):∀(n m:Nat)(x:Option α),(t.set n x).get m=if m=n then x else t.get m:=by
 induction t with
 |nil=>grind [set_nil,get_one,get_nil]
 |node l v r g d=>
  grind [set_node,get_node]
@[simp] def get_set_same(t:aC α)(n:Nat)(x:Option α):(t.set n x).get n=x:=by rw[get_set,iP rfl]
end aC
namespace aC
theorem all_get{α:Type}{p:α->Bool}:∀{t:aC α},t.all p=O->∀{n:Nat}{x:α},t.get n=X x->p x=O
 |.nil,_,n,x,h=>by cases h
 |.node l v r,h,n,x,d=>by
   have h:(∀y,v=X y->p y=O)/\l.all p=O/\r.all p=O:=by
    rcases v with _|z
    have h:(O&&(l.all p&&r.all p))=O:=h
    grind
    have h:(p z&&(l.all p&&r.all p))=O:=h
    grind
   have d:(@pC (λ_=>Option α) (@pC (λ_=>Option α) (r.get (n / 2-1)) (l.get (n / 2)) (aB (n % 2) 1)) v (aB n 0))=X x:=d;cases h0:aB n 0;rw[h0]at d;cases h1:aB (n % 2) 1;rw[h1]at d;exact all_get h.2.2 d;rw[h1]at d;exact all_get h.2.1 d;rw[h0]at d;exact h.1 x d
end aC
abbrev v_:=Option Addr
structure Gh where
 at_:Nat->v_
 ro:Nat->Nat->df
 dim:Nat->pb
structure Gh.le (G G':Gh):Prop where
 at_:∀n a,G.at_ n=some a->G'.at_ n=some a
 ro:∀b o v,G.ro b o=some v->G'.ro b o=some v
 dim:∀b d,G.dim b=some d->G'.dim b=some d
def Gh.le.refl(G:Gh):G.le G:=⟨λ_ _ h=>h,λ_ _ _ h=>h,λ_ _ h=>h⟩
variable{G G':Gh}
def Gh.le.trans{g:Gh}(h:G.le G')(h':G'.le g):G.le g:=
 ⟨λn a e=>h'.at_ n a (h.at_ n a e),λb o v e=>h'.ro b o v (h.ro b o v e),λb d e=>h'.dim b d (h.dim b d e)⟩
def Fm(G:Gh)(sz:Nat)(a:Addr)(len cap:Nat):gS->Prop
 |.Al=>cap=len
 |.own n=>G.at_ n=X ⟨a.block,a.off+len*sz,Z⟩/\∃d,G.dim a.block=X d/\a.off+cap*sz<=d
 |.no=>True
variable{cap sz:Nat}
def Fm.mono(h:G.le G'){len:Nat}{a:Addr}:∀{r:gS},Fm G sz a len cap r->Fm G' sz a len cap r
 |.Al,e=>e
 |.own _,⟨e,d,hd,hle⟩=>⟨h.at_ _ _ e,d,h.dim _ _ hd,hle⟩
 |.no,_=>trivial
def aa.scal:aa->Bool
 |.agg _=>I
 |.tup _=>I
 |.uV _ _ _=>I
 |_=>O
def dq(l:az):Bool:=l.all aa.scal
mutual
inductive VR (G:Gh):aa->Value->Prop
 |bool (b:Bool):VR G (.bool b) (.bool b)
 |int (k:IntKind) (n:Int):VR G (.int k n) (.int k n)
 |str (s:oa):VR G (.str s) (.string ⟨⟨s⟩⟩)
 |agg {cs:az} {vs:er}:dq cs=true->bO G cs vs->VR G (.agg cs) (.agg ⟨vs⟩)
 |tup {cs:az} {vs:er}:bO G cs vs->VR G (.tup cs) (.tuple ⟨vs⟩)
 |nilp:VR G .nilp (.pointer none)
 |ptr {n off:Nat} {a:Addr}:G.at_ n=some a->VR G (.ptr n off) (.pointer (some ⟨a.block,a.off+off,none⟩))
 |ro {cs:az} {b o:Nat}:(∀i x,cs[i]?=some x->G.ro b (o+i)=some x)->VR G (.ro cs) (.pointer (some ⟨b,o,none⟩))
 |uP:VR G .uP (.slice none 0 0)
 |list {sz:Nat} {xs:az} {r:gS} {a:Addr} {cap:Nat}:(cap=0\/a.spot=none)->0<sz->(∀x∈xs,x.cells.length=sz)->xs.length<=cap->
  (∀i x,(au xs)[i]?=some x->G.ro a.block (a.off+i)=some x)->Fm G sz a xs.length cap r->
  VR G (.list sz xs r) (.slice (some a) xs.length cap)
 |arr {sz n off len lcap:Nat} {a b:Addr} {cap d:Nat}:G.at_ n=some b->a.spot=none->0<sz->len<=lcap->lcap<=cap->
  (cap=0\/(a.block=b.block/\a.off=b.off+off))->G.dim b.block=some d->b.off+off+cap*sz<=d->
  VR G (.arr sz n off len lcap) (.slice (some a) len cap)
 |nilm:VR G .nilm (.map none)
 |map {n:Nat} {a:Addr}:G.at_ n=some a->VR G (.map n) (.map (some a.block))
 |nilf:VR G .nilf .nilFunc
 |func {f:FuncId} {first captured:az} {fs cs:er}:bO G first fs->bO G captured cs->VR G (.func (.func f) first captured) (.func (.func f) ⟨fs⟩ ⟨cs⟩)
 |nili:VR G .nili .nilIface
 |iface {t:TypeId} {v:aa} {x:Value}:VR G v x->VR G (.iface t v) (.iface t x)
 |yld {n:Nat} {a:Addr}:G.at_ n=some a->VR G (.yld n) (.func (.yield a.block) #[] #[])
 |roz {cs:az} {b:Nat}:(∀i x,cs[i]?=some x->G.ro b i=some x)->VR G (.roz cs) (.pointer (some ⟨b,0,none⟩))
inductive bO (G:Gh):az->er->Prop
 |nil:bO G [] []
 |cons {v:aa} {x:Value} {vs:az} {xs:er}:VR G v x->bO G vs xs->bO G (v::vs) (x::xs)
end
mutual
def VR.mono{G G':Gh}(h:G.le G'):∀{v:aa}{x:Value},VR G v x->VR G' v x
 |_,_,.bool b=>.bool b
 |_,_,.int k n=>.int k n
 |_,_,.str s=>.str s
 |_,_,.agg hc hs=>.agg hc (bO.mono h hs)
 |_,_,.tup hs=>.tup (bO.mono h hs)
 |_,_,.nilp=>.nilp
 |_,_,.ptr e=>.ptr (h.at_ _ _ e)
 |_,_,.ro e=>.ro λi x q=>h.ro _ _ _ (e i x q)
 |_,_,.uP=>.uP
 |_,_,.list a b c d e f=>.list a b c d (λi x q=>h.ro _ _ _ (e i x q)) (f.mono h)
 |_,_,.arr a b c d e f g i=>.arr (h.at_ _ _ a) b c d e f (h.dim _ _ g) i
 |_,_,.nilm=>.nilm
 |_,_,.map e=>.map (h.at_ _ _ e)
 |_,_,.nilf=>.nilf
 |_,_,.func a b=>.func (bO.mono h a) (bO.mono h b)
 |_,_,.nili=>.nili
 |_,_,.iface e=>.iface (VR.mono h e)
 |_,_,.yld e=>.yld (h.at_ _ _ e)
 |_,_,.roz e=>.roz λi x q=>h.ro _ _ _ (e i x q)
def bO.mono{G G':Gh}(h:G.le G'):∀{vs:az}{xs:er},bO G vs xs->bO G' vs xs
 |_,_,.nil=>.nil
 |_,_,.cons a b=>.cons (VR.mono h a) (bO.mono h b)
end
variable{xs:er}{a:az}{i:Nat}{x:Value}{v:aa}
section
variable{G:Gh}
def bO.length{vs:az}(h:bO G vs xs):J vs=J xs:=by
 induction vs generalizing xs with
 |nil=>cases h;rfl
 |cons v vs d=>cases h with|cons a b=>simp[d b]
theorem bO.get{vs:az}(h:bO G vs xs)(hi:vs[i]?=X v):∃x,xs[i]?=X x/\VR G v x:=by
 induction vs generalizing xs i with
 |nil=>simp at hi
 |cons u vs d=>
  cases h with
  |cons a b=>
   grind
def bO.append{b:az}{x y:er}(h:bO G a x)(h':bO G b y):bO G (a++b) (x++y):=by
 induction a generalizing x with
 |nil=>cases h;simpa using h'
 |cons v a d=>cases h with|cons p q=>exact .cons p (d q)
def bO.drop{x:er}(h:bO G a x)(n:Nat):bO G (a.drop n) (x.drop n):=by
 induction n generalizing a x with
 |zero=>simpa using h
 |succ n d=>cases h with
  |nil=>simpa using bO.nil
  |cons p q=>simpa using d q
def bO.take{x:er}(h:bO G a x)(n:Nat):bO G (a.take n) (x.take n):=by
 induction n generalizing a x with
 |zero=>simpa using bO.nil
 |succ n d=>cases h with
  |nil=>simpa using bO.nil
  |cons p q=>simpa using .cons p (d q)
theorem VR.cells(h:VR G v x):bO G v.cells x.cells.toList:=by
 cases h<;>first
  |grind [aa.cells,Value.cells]
  |(refine .cons ?_ .nil;constructor<;>assumption)
def VR.scals_cells(h:VR G v x)(d:∀l,v≠.tup l):dq v.cells=O:=by
 cases h<;>first
  |(exact absurd rfl (d _))
  |assumption
  |rfl
def VR.one(h:VR G v x)(d:v.scal=O):x.oneCell'=O:=by
 cases h<;>first|rfl|(simp[aa.scal]at d)
end
structure yJ (G:Gh) (e:dA) (m:MapEntry):Prop where
 key:VR G e.key m.key
 val:VR G e.val m.val
 born:e.born=m.born
abbrev Q4:=List MapEntry
inductive gu (G:Gh):F0->Q4->Prop
 |nil:gu G [] []
 |cons {e:dA} {m:MapEntry} {es:F0} {ms:Q4}:yJ G e m->gu G es ms->gu G (e::es) (m::ms)
variable{m:MapEntry}
def yJ.mono(h:G.le G'){e:dA}(x:yJ G e m):yJ G' e m:=⟨x.key.mono h,x.val.mono h,x.born⟩
variable{ms:Q4}{es:F0}
def gu.mono(h:G.le G')(x:gu G es ms):gu G' es ms:=by
 induction x with
 |nil=>exact .nil
 |cons a _ d=>exact .cons (a.mono h) d
def YF(G:Gh):pb->pb->Prop
 |none,Z=>True
 |some n,X b=>∃a,G.at_ n=X a/\a.block=b
 |_,_=>False
def Ex.code:Ex->Code
 |.normal=>.skip
 |.exit id=>.exit id
 |.ret=>.ret
structure Fj (G:Gh) (r:Loop) (env:aC aa) (size:Nat) (ps:c_) (a b:Code) (p:Du):Prop where
 state:r.state=(match p with|none=>.ready|some _=>.done)
 pending:r.pending=p.map Ex.code
 size:r.tmps.size=size
 env:∀t,VR G (ac env t) (r.tmps.getD t undef)
 params:r.params.toList=ps
 assign:r.assign=a
 body:r.body=b
 flatA:dR a=true
 flatB:dR b=true
def Fj.mono(h:G.le G'){r:Loop}{env:aC aa}{size:Nat}{ps:c_}{a b:Code}{p:Du}(x:Fj G r env size ps a b p):Fj G' r env size ps a b p:=
 ⟨x.state,x.pending,x.size,λt=>(x.env t).mono h,x.params,x.assign,x.body,x.flatA,x.flatB⟩
abbrev Tm:=Array MapEntry
def nj(G:Gh)(w:World)(a:Addr):aI->Prop
 |.cells cs=>∃C e,w.heap[a.block]?=X (.cells C e (0,0))/\G.dim a.block=X C.size/\∀(i:Nat) v,cs[i]?=X v->v.scal=O/\∃x,C[a.off+i]?=X x/\VR G v x
 |.tok=>∃C e,w.heap[a.block]?=X (.cells C e (0,0))
 |.map es clock=>∃ES:Tm,w.heap[a.block]?=X (.map ES clock)/\gu G es ES.toList
 |.iter m since seen stepped=>a.off=0/\∃d,w.heap[a.block]?=X (.mapIter d since ⟨seen⟩ stepped)/\YF G m d
 |.loop _ env size ps ca cb p=>∃r:Loop,w.heap[a.block]?=X (.loop r)/\Fj G r env size ps ca cb p
 |.fix o=>nj G w a o
def nj.mono{G G':Gh}(h:G.le G'){w:World}{a:Addr}:∀{o:aI},nj G w a o->nj G' w a o
 |.cells _,⟨C,e,d,hd,hc⟩=>⟨C,e,d,h.dim _ _ hd,λi v hi=>let⟨hs,x,hx,hv⟩:=hc i v hi;⟨hs,x,hx,hv.mono h⟩⟩
 |.tok,x=>x
 |.map _ _,⟨ES,d,hs⟩=>⟨ES,d,hs.mono h⟩
 |.iter m _ _ _,⟨h0,m',d,hm⟩=>⟨h0,m',d,by
  cases m<;>cases m'<;>first|exact hm|(obtain⟨a,g,d⟩:=hm;exact⟨a,h.at_ _ _ g,d⟩)⟩
 |.loop ..,⟨r,d,hr⟩=>⟨r,d,hr.mono h⟩
 |.fix o,x=>nj.mono h (o:=o) x
def nj.of_block{G:Gh}{w w':World}{a:Addr}(h:w'.heap[a.block]?=w.heap[a.block]?):∀{o:aI},nj G w a o->nj G w' a o
 |.cells _,⟨C,e,hb,hd,hc⟩=>⟨C,e,h.trans hb,hd,hc⟩
 |.tok,⟨C,e,hb⟩=>⟨C,e,h.trans hb⟩
 |.map _ _,⟨ES,hb,hs⟩=>⟨ES,h.trans hb,hs⟩
 |.iter _ _ _ _,⟨h0,m',hb,hm⟩=>⟨h0,m',h.trans hb,hm⟩
 |.loop ..,⟨r,hb,hr⟩=>⟨r,h.trans hb,hr⟩
 |.fix o,x=>nj.of_block h (o:=o) x
def eJ(G:Gh)(h:aC aI)(b:Nat):Prop:=∃n a,h.get n≠Z/\G.at_ n=X a/\a.block=b
def kN(G:Gh)(h:aC aI)(b:Nat):Prop:=∃n a o,h.get n=X o/\o.still=I/\G.at_ n=X a/\a.block=b
variable{b:Nat}{h:aC aI}
def kN.owns(x:kN G h b):eJ G h b:=let⟨n,a,o,h1,_,h2,h3⟩:=x;⟨n,a,by rw[h1];exact Option.some_ne_none o,h2,h3⟩
structure WR (G:Gh) (h:aC aI) (w:World):Prop where
 obj:∀n o,h.get n=some o->∃a,G.at_ n=some a/\a.spot=none/\nj G w a o
 sep:∀n m a b,h.get n≠none->h.get m≠none->G.at_ n=some a->G.at_ m=some b->a.block=b.block->n=m
 ro:∀b o v,G.ro b o=some v->v.scal=true/\∃x,w.cell? ⟨b,o,none⟩=some x/\VR G v x
 apart:∀n ob a i v,h.get n=some ob->G.at_ n=some a->G.ro a.block i=some v->ob=.tok/\i<a.off
 dim:∀b d,G.dim b=some d->∃C e,w.heap[b]?=some (.cells C e (0,0))/\C.size=d
 below:∀n a,G.at_ n=some a->a.block<w.heap.size
def li(w w':World):Prop:=w'.os=w.os/\w'.output=w.output/\w.heap.size<=w'.heap.size/\(∀a,a.block<w.heap.size->w'.frozen? a=w.frozen? a)/\w'.tape=w.tape/\w.drawn<=w'.drawn
def li.refl(w:World):li w w:=⟨rfl,rfl,aD _,λ_ _=>rfl,rfl,aD _⟩
variable{w w':World}
def li.trans{d:World}(x:li w w')(y:li w' d):li w d:=⟨y.1.trans x.1,y.2.1.trans x.2.1,dj x.2.2.1 y.2.2.1,λa h=>(y.2.2.2.1 a (fE h x.2.2.1)).trans (x.2.2.2.1 a h),y.2.2.2.2.1.trans x.2.2.2.2.1,dj x.2.2.2.2.2 y.2.2.2.2.2⟩
structure ck (G:Gh) (h:aC aI) (w:World) (G':Gh) (h':aC aI) (w':World) (lo hi:Nat):Prop where
 le:G.le G'
 size:w.heap.size<=w'.heap.size
 keepW:∀b,b<w.heap.size->¬kN G h b->w'.heap[b]?=w.heap[b]?
 owns:∀b,b<w.heap.size->eJ G' h' b->eJ G h b
 names:∀n a,G'.at_ n=some a->G.at_ n=none->lo<=n/\n<hi
 cells:∀b o v,b<w.heap.size->G'.ro b o=some v->G.ro b o=none->eJ G h b
 quiet:li w w'
 ownsW:∀b,b<w.heap.size->kN G' h' b->kN G h b
variable{hi lo:Nat}{h':aC aI}
def ck.keep(x:ck G h w G' h' w' lo hi):∀b,b<w.heap.size->¬eJ G h b->w'.heap[b]?=w.heap[b]? :=λb g d=>x.keepW b g λo=>d o.owns
def ck.refl:ck G h w G h w lo hi:=
 ⟨.refl G,aD _,λ_ _ _=>rfl,λ_ _ h=>h,λn a h h'=>(by rw[h]at h';cases h'),λb o v _ h h'=>(by rw[h]at h';cases h'),.refl w,λ_ _ h=>h⟩
def ck.trans{z:Gh}{q:aC aI}{g:World}{d:Nat}(x:ck G h w G' h' w' lo d)(y:ck G' h' w' z q g d hi)(A:lo<=d)(l2:d<=hi):ck G h w z q g lo hi where
 le:=x.le.trans y.le
 size:=dj x.size y.size
 keepW b hb ho:=(y.keepW b (fE hb x.size) λo=>ho (x.ownsW b hb o)).trans (x.keepW b hb ho)
 owns b hb o:=x.owns b hb (y.owns b (fE hb x.size) o)
 ownsW b hb o:=x.ownsW b hb (y.ownsW b (fE hb x.size) o)
 names n a h h0:=by
  rcases e:G'.at_ n with _|b
  have:=y.names n a h e;omega
  have:=x.names n b e h0;omega
 cells b o v hb h h0:=by
  rcases e:G'.ro b o with _|u
  exact x.owns b hb (y.cells b o v (fE hb x.size) h e);exact x.cells b o u hb e h0
 quiet:=x.quiet.trans y.quiet
def cX(w:World)(b:Nat)(o:Obj):World:= {w with heap:=w.heap.setIfInBounds b o }
@[simp] def Eh(w:World)(b:Nat)(o:Obj):(cX w b o).heap.size=w.heap.size:=by simp[cX]
theorem iC(w:World)(b c:Nat)(o:Obj)(d:b<w.heap.size):(cX w b o).heap[c]?=if c=b then X o else w.heap[c]? :=by
 grind [cX]
def S5(w:World)(b:Nat)(o o':Obj):cX (cX w b o) b o'=cX w b o':=by
 simp[cX]
def aBk(w:World)(b:Nat)(o:Obj)(h:w.heap[b]?=X o):cX w b o=w:=by
 have d:b<w.heap.size:=by
  rcases ip b w.heap.size with h'|h'
  exact h';simp[Array.getElem?_eq_none h']at h
 have e:w.heap.setIfInBounds b o=w.heap:=by
  apply Array.ext_getElem?;intro i;rw[Array.getElem?_setIfInBounds];by_cases hi:b=i;subst hi;rw[iP rfl,iP d,h];simp[hi]
 unfold cX;rw[e]
theorem ig{o:Obj}(h:w.heap[b]?=X o):b<w.heap.size:=by
 grind
abbrev gy:=Array Value
variable{C:gy}{fz:Nat×Nat}{e:TypeId}
theorem kj(h:w.heap[b]?=X (.cells C e fz)):w.cell? ⟨b,i,Z⟩=C[i]? :=by
 simp[World.cell?,h]
theorem aDA{v:Value}(h:w.heap[b]?=X (.cells C e fz)):
 w.setCell ⟨b,i,Z⟩ v=cX w b (.cells (C.setIfInBounds i v) e fz):=by
 unfold World.setCell cX;congr 1
 grind
def eN(C:gy)(off:Nat):er->gy
 |[]=>C
 |v::l=>eN (C.setIfInBounds off v) (off+1) l
@[simp] def agh(C:gy)(off:Nat)(l:er):(eN C off l).size=C.size:=by
  induction l generalizing C off with
  |nil=>rfl
  |cons v l d=>simp[eN,d]
theorem Aw(C:gy)(off:Nat)(l:er)(i:Nat)(h:off+J l<=C.size):
 (eN C off l)[i]?=if off<=i/\i<off+J l then l[i-off]? else C[i]? :=by
 induction l generalizing C off with
 |nil=>simp[eN];intro q g;omega
 |cons v l d=>
  grind [eN]
variable{P:Program}
theorem aDh{v:Value}(h:w.heap[b]?=X (.cells C e (0,0)))(hi:i<C.size)(d:v.oneCell'=O):(store ⟨b,i,Z⟩ v).run P w=.ok () (cX w b (.cells (C.setIfInBounds i v) e (0,0))):=by
 rw[run_store _ _ _ _ _ d,kj h]
 grind [World.frozen?,aDA]
theorem oP(b o i:Nat):(⟨b,o,Z⟩:Addr).add i=⟨b,o+i,Z⟩:=by
 grind [Addr.add]
def HZ(b o:Nat)(e:TypeId):∀(vs:er)(i:Nat)(w:World)(C:gy),w.heap[b]?=X (.cells C e (0,0))->o+i+J vs<=C.size->
 (∀v∈vs,v.oneCell'=O)->(storeCells ⟨b,o,Z⟩ vs i).run P w=.ok () (cX w b (.cells (eN C (o+i) vs) e (0,0))):=by
 intro vs
 induction vs with
 |nil=>simp_all [storeCells,eN,aBk]
 |cons v vs g=>
  intro i w C h z d;simp only[bT]at z;rw[storeCells,Sem.run_bind,oP,aDh h w_ (d v (by simp)),lR,
   g (i+1) _ _ (by rw[iC _ _ _ _ (ig h),iP rfl]) (by simp;omega) (λu q=>d u (by simp[q])),S5,eN]
  rfl
variable{a:Addr}{n:Nat}{o:aI}
section
variable{G:Gh}{h:aC aI}{w:World}
theorem WR.of_heap(x:WR G h w)(e:w'.heap=w.heap):WR G h w' where
 obj n o ho:=by
  obtain⟨a,g,hs,hr⟩:=x.obj n o ho;exact⟨a,g,hs,hr.of_block (by rw[e])⟩
 sep:=x.sep
 ro b o v hv:=by
  obtain⟨hs,y,q,hr⟩:=x.ro b o v hv
  grind [World.cell?]
 apart:=x.apart
 dim b d hd:=by rw[e];exact x.dim b d hd
 below n a g:=by rw[e];exact x.below n a g
def anQ{w:World}(e:w'.heap=w.heap)(a:Addr):w'.frozen? a=w.frozen? a:=by simp[World.frozen?,e]
def ck.of_heap(e:w'.heap=w.heap)(q:w'.os=w.os/\w'.output=w.output/\w'.tape=w.tape/\w.drawn<=w'.drawn):ck G h w G h w' lo hi:=
 ⟨.refl G,by rw[e];exact aD _,λ_ _ _=>by rw[e],λ_ _ h=>h,λn a h h'=>(by rw[h]at h';cases h'),λb o v _ h h'=>(by rw[h]at h';cases h'),⟨q.1,q.2.1,by rw[e];exact aD _,λa _=>anQ e a,q.2.2.1,q.2.2.2⟩,λ_ _ h=>h⟩
def WR.ro_lt(x:WR G h w){o:Nat}(g:G.ro b o=X v):b<w.heap.size:=by
 obtain⟨_,y,d,_⟩:=x.ro b o v g;exact World.block_lt_of_cell? w ⟨b,o,Z⟩ d
def WR.owned_lt(x:WR G h w)(d:eJ G h b):b<w.heap.size:=by
 obtain⟨n,a,_,g,rfl⟩:=d;exact x.below n a g
def Gh.more(G:Gh)(b:Nat)(R:Nat->df)(D:pb):Gh where
 at_:=G.at_
 ro c o:=if c=b then R o else G.ro c o
 dim c:=if c=b then D else G.dim c
def Gh.name(G:Gh)(n:Nat)(a:Addr):Gh where
 at_ m:=if m=n then X a else G.at_ m
 ro:=G.ro
 dim:=G.dim
theorem mM(w:World)(o:Obj)(c:Nat):(w.alloc o).heap[c]?=if c=w.heap.size then X o else w.heap[c]? :=by
 unfold World.alloc;rw[Array.getElem?_push]
theorem WR.more_le(x:WR G h w)(R:Nat->df)(D:pb):G.le (G.more w.heap.size R D) where
 at_ _ _ e:=e
 ro b o v e:=by
  have:=x.ro_lt e
  grind [Gh.more]
 dim b d e:=by
  obtain⟨C,t,hb,_⟩:=x.dim b d e
  grind [Gh.more]
theorem Gh.name_le(G:Gh)(a:Addr)(hn:G.at_ n=Z):G.le (G.name n a) where
 at_ m b e:=by
  grind [Gh.name]
 ro _ _ _ e:=e
 dim _ _ e:=e
def Obj.warm:Obj->Prop
 |.cells _ _ z=>z=(0,0)
 |_=>True
theorem anR{w:World}{ob:Obj}(h:w.heap[b]?=X ob)(d:Obj.warm ob)(a:Addr)(g:a.block=b):w.frozen? a=I:=by
 grind [World.frozen?,Obj.warm]
theorem aBw(w:World){ob:Obj}(d:Obj.warm ob):li w (w.alloc ob):=by
 refine⟨rfl,rfl,by simp,λa _=>?_,rfl,aD _⟩
 grind [mM,World.frozen?]
theorem HO(w:World){o ob:Obj}(h:w.heap[b]?=X o)(g:Obj.warm o)(d:Obj.warm ob):li w (cX w b ob):=by
 refine⟨rfl,rfl,by simp,λa _=>?_,rfl,aD _⟩
 grind [anR,iC,World.frozen?]
theorem nj.warm{a:Addr}:∀{o:aI},nj G w a o->∃d,w.heap[a.block]?=X d/\Obj.warm d
 |.cells cs,h=>by obtain⟨C,e,h,_⟩:=h;exact⟨_,h,rfl⟩
 |.tok,h=>by obtain⟨C,e,h⟩:=h;exact⟨_,h,rfl⟩
 |.map es c,h=>by obtain⟨ES,h,_⟩:=h;exact⟨_,h,trivial⟩
 |.iter m a b c,h=>by obtain⟨_,g,h,_⟩:=h;exact⟨_,h,trivial⟩
 |.loop _ _ _ _ _ _ _,h=>by obtain⟨r,h,_⟩:=h;exact⟨_,h,trivial⟩
 |.fix o,h=>nj.warm (o:=o) h
theorem WR.alloc(x:WR G h w)(ob:Obj)(R:Nat->df)(D:pb)(T:∀o v,R o=X v->v.scal=O/\∃C e,ob=.cells C e (0,0)/\∃y,C[o]?=X y/\VR (G.more w.heap.size R D) v y)(U:∀d,D=X d->∃C e,ob=.cells C e (0,0)/\C.size=d)(F:Obj.warm ob:=by trivial):
 WR (G.more w.heap.size R D) h (w.alloc ob)/\∀lo hi,ck G h w (G.more w.heap.size R D) h (w.alloc ob) lo hi:=by
 have q:=x.more_le R D;refine⟨⟨?_,x.sep,?_,?_,?_,?_⟩,λlo hi=>⟨q,by simp,?_,?_,?_,?_,aBw w F,λ_ _ z=>z⟩⟩;intro n o z;obtain⟨a,u,H,K⟩:=x.obj n o z;refine⟨a,u,H,(K.mono q).of_block ?_⟩;rw[mM,iN (Nat.ne_of_lt (x.below n a u))];intro b o v g;simp only[Gh.more]at g;by_cases hb:b=w.heap.size
 grind [kj,mM]
 rw[iN hb]at g;obtain⟨H,y,S,K⟩:=x.ro b o v g;refine⟨H,y,?_,K.mono q⟩
 grind [World.cell?_alloc_old]
 intro n A a i v N u g;simp only[Gh.more]at g;rw[iN (Nat.ne_of_lt (x.below n a u))]at g;exact x.apart n A a i v N u g;intro b d M;simp only[Gh.more]at M;rw[mM];by_cases hb:b=w.heap.size
 grind
 rw[iN hb]at M⊢;exact x.dim b d M;intro n a u
 have:=x.below n a u;simp;omega
 simp_all [mM,Nat.ne_of_lt]
 intro b _ z;exact z
 all_goals grind [Gh.more]
theorem WR.named(x:WR G h w)(V:G.at_ n=Z)(q:a.block<w.heap.size)(F:a.spot=Z)(S:¬eJ G h a.block)(H:nj G w a o)(u:∀i v,G.ro a.block i=X v->o=.tok/\i<a.off):WR (G.name n a) (h.set n (X o)) w:=by
 have z:=G.name_le a V;refine⟨?_,?_,?_,?_,x.dim,?_⟩;intro m N g;rw[aC.get_set]at g;by_cases e:m=n;rw[iP e]at g;cases g;subst e;exact⟨a,by simp[Gh.name],F,H.mono z⟩;rw[iN e]at g;obtain⟨b,q,F,H⟩:=x.obj m N g;exact⟨b,by simp[Gh.name,e,q],F,H.mono z⟩;intro m k c d g K u A R;rw[aC.get_set]at g K;simp only[Gh.name]at u A;by_cases e1:m=n<;>by_cases e2:k=n;rw[e1,e2];rw[iP e1]at u;rw[iN e2]at A K;cases u;exact absurd ⟨k,d,K,A,R.symm⟩ S;rw[iN e1]at u g;rw[iP e2]at A;cases A;exact absurd ⟨m,c,g,u,R⟩ S;rw[iN e1]at u g;rw[iN e2]at A K;exact x.sep m k c d g K u A R;intro b N v M;obtain⟨F,y,U,H⟩:=x.ro b N v M;exact⟨F,y,U,H.mono z⟩;intro m T b i v g q M;rw[aC.get_set]at g;simp only[Gh.name]at q;by_cases e:m=n;rw[iP e]at g q;injection g with g;injection q with q;subst g;subst q
 exact u i v M;rw[iN e]at g q;exact x.apart m T b i v g q M;intro m b D;simp only[Gh.name]at D;by_cases e:m=n
 grind
 rw[iN e]at D;exact x.below m b D
theorem Ee(h':eJ (G.name n a) (h.set n (X o)) b):b=a.block\/eJ G h b:=by
 obtain⟨m,c,d,g,rfl⟩:=h';rw[aC.get_set]at d;simp only[Gh.name]at g;by_cases e:m=n
 grind
 rw[iN e]at g d;exact .inr ⟨m,c,d,g,rfl⟩
theorem Ed(h':kN (G.name n a) (h.set n (X o)) b):b=a.block\/kN G h b:=by
 obtain⟨m,c,p,d,q,g,rfl⟩:=h';rw[aC.get_set]at d;simp only[Gh.name]at g;by_cases e:m=n
 grind
 rw[iN e]at g d;exact .inr ⟨m,c,p,d,q,g,rfl⟩
theorem WR.killed(x:WR G h w)(n:Nat):WR G (h.set n Z) w:=by
 refine⟨?_,?_,x.ro,?_,x.dim,x.below⟩;intro m o g;rw[aC.get_set]at g;by_cases e:m=n;rw[iP e]at g;cases g;rw[iN e]at g;exact x.obj m o g;intro m k c d g q;rw[aC.get_set]at g q;by_cases e1:m=n
 grind
 by_cases e2:k=n
 grind
 rw[iN e1]at g;rw[iN e2]at q;exact x.sep m k c d g q;intro m u a i v g;rw[aC.get_set]at g;by_cases e:m=n;rw[iP e]at g;cases g;rw[iN e]at g;exact x.apart m u a i v g
theorem BR(h':eJ G (h.set n Z) b):eJ G h b:=by
 obtain⟨m,c,d,g,q⟩:=h';rw[aC.get_set]at d;by_cases e:m=n
 grind
 rw[iN e]at d;exact⟨m,c,d,g,q⟩
def Ec(h':kN G (h.set n Z) b):kN G h b:=by
 obtain⟨m,c,p,d,g,q,u⟩:=h';rw[aC.get_set]at d;by_cases e:m=n;rw[iP e]at d;cases d;rw[iN e]at d;exact⟨m,c,p,d,g,q,u⟩
theorem LH(x:WR G h w)(g:h.get n≠Z)(z:G.at_ n=X a):¬eJ G (h.set n Z) a.block:=by
 rintro⟨m,c,d,q,u⟩;rw[aC.get_set]at d;by_cases e:m=n
 grind
 rw[iN e]at d;exact e (x.sep m n c a d g q z u)
def ck.killed:ck G h w G (h.set n Z) w lo hi:=
 ⟨.refl G,aD _,λ_ _ _=>rfl,λ_ _ o=>BR o,λn a h h'=>(by rw[h]at h';cases h'),λb o v _ h h'=>(by rw[h]at h';cases h'),.refl w,λ_ _ o=>Ec o⟩
theorem WR.changed(x:WR G h w){o':aI}{ob:Obj}(A:h.get n=X o)(N:G.at_ n=X a)(hr:nj G (cX w a.block ob) a o')(S:∀i v,G.ro a.block i=X v->o'=.tok/\∃y,(cX w a.block ob).cell? ⟨a.block,i,Z⟩=X y/\w.cell? ⟨a.block,i,Z⟩=X y)(hd:∀d,G.dim a.block=X d->∃C e,ob=.cells C e (0,0)/\C.size=d)(V:Obj.warm ob:=by trivial)(R:o.still=I:=by rfl):
 WR G (h.set n (X o')) (cX w a.block ob)/\∀lo hi,ck G h w G (h.set n (X o')) (cX w a.block ob) lo hi:=by
 have a1:=x.below n a N;have u:∀c,(cX w a.block ob).heap[c]?=if c=a.block then X ob else w.heap[c]? :=λc=>iC w a.block c ob a1
 have T:∀b,eJ G (h.set n (X o')) b->eJ G h b:=by
  rintro b ⟨m,c,g,F,q⟩;rw[aC.get_set]at g;by_cases e:m=n;subst e;exact⟨m,c,by rw[A];simp,F,q⟩;rw[iN e]at g;exact⟨m,c,g,F,q⟩
 have D:∀m,(h.set n (X o')).get m≠Z->h.get m≠Z:=by
  intro m g;rw[aC.get_set]at g;by_cases e:m=n;rw[e,A];simp;rw[iN e]at g;exact g
 refine⟨⟨?_,λm k c d g hk=>x.sep m k c d (D m g) (D k hk),?_,?_,?_,?_⟩,λlo hi=>⟨.refl G,by simp,?_,λb _ ho=>T b ho,λn a h h'=>(by rw[h]at h';cases h'),λb o v _ h h'=>(by rw[h]at h';cases h'),by
  obtain⟨c,F,_,a0⟩:=x.obj n o A;rw[N]at F;cases F;obtain⟨a3,h1,h2⟩:=a0.warm;exact HO w h1 h2 V,λb _ ⟨m,c,p,g,hp,F,q⟩=>by
  rw[aC.get_set]at g;by_cases e:m=n;subst e;exact⟨m,c,o,A,R,F,q⟩;rw[iN e]at g;exact⟨m,c,p,g,hp,F,q⟩⟩⟩
 intro m H g;rw[aC.get_set]at g;by_cases e:m=n;rw[iP e]at g;cases g;subst e;obtain⟨b,q,U,_⟩:=x.obj m o A
 grind
 rw[iN e]at g;obtain⟨b,q,U,M⟩:=x.obj m H g;refine⟨b,q,U,M.of_block ?_⟩;rw[u,iN];intro he;exact e (x.sep m n b a (by rw[g];simp) (by rw[A];simp) q N he);intro b i v K;by_cases q:b=a.block;subst q;obtain⟨_,y,hy,a4⟩:=S i v K;obtain⟨U,z,hz,M⟩:=x.ro a.block i v K
 grind
 obtain⟨U,z,hz,M⟩:=x.ro b i v K
 grind [World.cell?]
 intro m H b i v g q K;rw[aC.get_set]at g;by_cases e:m=n;rw[iP e]at g;cases g;subst e;rw[N]at q;cases q;have h1:=(S i v K).1;have h2:=x.apart m o a i v A N K;exact⟨h1,h2.2⟩;rw[iN e]at g;exact x.apart m H b i v g q K;intro b d a2;rw[u];by_cases q:b=a.block
 grind
 rw[iN q];exact x.dim b d a2;intro m b q;simp;exact x.below m b q;intro b q ho;rw[u,iN];intro he;exact ho ⟨n,a,o,A,R,N,he.symm⟩
end
variable{a:Nat}
theorem fD(h:aB a b=O):a=b:=Nat.eq_of_beq_eq_true h
theorem CP(h:aB a b=I):a≠b:=Nat.ne_of_beq_eq_false h
theorem oS(h:bC a b=O):a<b:=im h
theorem jE(h:aP a b=O):a<=b:=im h
variable{c:Bool}{α:Type}
def fP{x y:Option α}{a:α}(h:(bif c then x else y)=X a):(c=O/\x=X a)\/(c=I/\y=X a):=by
 cases c<;>simp_all
def bf{x:Option α}{a:α}(h:(bif c then x else Z)=X a):c=O/\x=X a:=by
 cases c<;>simp_all
variable{c:Value}
theorem ado(G:Gh)(h:Ho c=X v):VR G v c/\v.scal=O:=by
 unfold Ho at h;split at h<;>first
  |(injection h with h;subst h;exact⟨by constructor,rfl⟩)
  |(cases h)
theorem adp(G:Gh):∀{l:er}{vs:az},Hp l=X vs->bO G vs l/\dq vs=O
 |[],_,h=>by simp[Hp]at h;subst h;exact⟨.nil,rfl⟩
 |c::l,_,h=>by
  simp only[Hp,an]at h
  let⟨a,ha,r,hr,h⟩:=h
  cases h
  let⟨h1,h2⟩:=ado G ha
  let⟨h3,h4⟩:=adp G hr
  exact⟨.cons h1 h3,by grind [dq]⟩
theorem vz(G:Gh)(h:ofValue c=X v):VR G v c/\∀l,v≠.tup l:=by
 unfold ofValue at h;split at h;rename_i cs;simp only[an]at h
 let⟨l,hl,h⟩:=h
 cases h
 let⟨h1,h2⟩:=adp G hl
 exact⟨by simpa using VR.agg h2 h1,by simp⟩
 grind [ado,aa.scal]
def LV(G:Gh)(loc:Loc)(B:cE)(v:aa)(x:Value):Prop:=
 match v with
 |.uV t g off=>g<=loc.gen t/\(∃ad,x=.pointer (X ad))/\(g=loc.gen t->x=.pointer (X ⟨B t,off,Z⟩))
 |v=>VR G v x
variable{B:cE}
def LV.of_VR{loc:Loc}(h:VR G v x):LV G loc B v x:=by
 cases h<;>(unfold LV;constructor<;>assumption)
def LV.gt{loc:Loc}(h:LV G loc B v x)(d:v.gt=O):VR G v x/\∀l,v≠.tup l:=by
 cases v<;>first
  |(simp[aa.gt]at d;done)
  |exact⟨h,by simp⟩
def LV.mono(d:G.le G'){loc:Loc}(h:LV G loc B v x):LV G' loc B v x:=by
 cases v<;>first
  |exact VR.mono d h
  |exact h
structure pM (G:Gh) (h:aC aI) (B:cE) (loc:Loc) (w:World):Prop where
 cells:∀t cs,loc.get t (loc.gen t)=some cs->∃C e,w.heap[B t]?=some (.cells C e (0,0))/\∀(i:Nat) v,cs[i]?=some v->v.scal=true/\∃x,C[i]?=some x/\VR G v x
 free:∀t cs,loc.get t (loc.gen t)=some cs->¬eJ G h (B t)
 ro:∀t cs,loc.get t (loc.gen t)=some cs->∀o,G.ro (B t) o=none
 inj:∀t u cs ds,loc.get t (loc.gen t)=some cs->loc.get u (loc.gen u)=some ds->B t=B u->t=u
def pM.ext{loc:Loc}(x:pM G h B loc w)(e:ck G h w G' h' w' lo hi):
 pM G' h' B loc w' where
 cells t cs ht:=by
  let⟨C,ty,hb,hc⟩:=x.cells t cs ht
  refine⟨C,ty,(e.keep _ (ig hb) (x.free t cs ht)).trans hb,λi v hi=>?_⟩
  let⟨hs,y,hy,hv⟩:=hc i v hi
  exact⟨hs,y,hy,hv.mono e.le⟩
 free t cs ht ho:=by
  let⟨C,ty,hb,hc⟩:=x.cells t cs ht
  exact x.free t cs ht (e.owns _ (ig hb) ho)
 ro t cs ht o:=by
  let⟨C,ty,hb,hc⟩:=x.cells t cs ht
  rcases hr:G'.ro (B t) o with _|v
  rfl;exact absurd (e.cells _ o v (ig hb) hr (x.ro t cs ht o)) (x.free t cs ht)
 inj:=x.inj
structure cy (G:Gh) (h:aC aI) (B:cE) (fr:Fr) (tmps:gy) (w:World):Prop where
 size:tmps.size=fr.size
 env:∀t,LV G fr.loc B (ac fr.env t) (tmps.getD t undef)
 locs:pM G h B fr.loc w
section
variable{G:Gh}{h:aC aI}{B:cE}{fr:Fr}{a:Act}{w:World}
def cy.ev(x:cy G h B fr a.tmps w){o:Operand}(d:ev fr.env o=X v):LV G fr.loc B v (a.eval o):=by
 cases o with
 |tmp t=>simp[Ag.ev]at d;subst d;exact x.env t
 |const c=>exact LV.of_VR (vz G d).1
 |func f=>simp[Ag.ev]at d;subst d;exact LV.of_VR (.func .nil .nil)
 |global g=>simp[Ag.ev]at d
theorem cy.evc(x:cy G h B fr a.tmps w){o:Operand}(d:evc fr.env o=X v):VR G v (a.eval o)/\∀l,v≠.tup l:=by
 simp only[Ag.evc,an]at d
 let⟨u,hu,d⟩:=d
 replace d:=bf d
 let⟨hc,d⟩:=d
 cases d;exact(x.ev hu).gt hc
theorem cy.evcs(x:cy G h B fr a.tmps w):∀{l:B_}{vs:az},evcs fr.env l=X vs->bO G vs (l.map a.eval)/\∀v∈vs,∀l,v≠.tup l
 |[],_,he=>by simp[Ag.evcs]at he;subst he;exact⟨.nil,by simp⟩
 |o::l,_,he=>by
  simp only[Ag.evcs,an]at he
  let⟨v,hv,r,hr,he⟩:=he
  cases he
  let⟨h1,h2⟩:=x.evc hv
  let⟨h3,h4⟩:=cy.evcs x hr
  exact⟨.cons h1 h3,by grind⟩
end
def LB(B:cE)(loc:Loc)(b:Nat):Prop:=∃t cs,loc.get t (loc.gen t)=X cs/\B t=b
abbrev sq:=Nat->Prop
structure iG (G:Gh) (h:aC aI) (w:World) (G':Gh) (h':aC aI) (w':World) (lo hi:Nat) (L:sq):Prop where
 le:G.le G'
 size:w.heap.size<=w'.heap.size
 keepW:∀b,b<w.heap.size->¬kN G h b->¬L b->w'.heap[b]?=w.heap[b]?
 owns:∀b,b<w.heap.size->eJ G' h' b->eJ G h b
 names:∀n a,G'.at_ n=some a->G.at_ n=none->lo<=n/\n<hi
 cells:∀b o v,b<w.heap.size->G'.ro b o=some v->G.ro b o=none->eJ G h b
 quiet:li w w'
 ownsW:∀b,b<w.heap.size->kN G' h' b->kN G h b
def iG.keep{L:sq}(x:iG G h w G' h' w' lo hi L):∀b,b<w.heap.size->¬eJ G h b->¬L b->w'.heap[b]?=w.heap[b]? :=λb q d g=>x.keepW b q (λo=>d o.owns) g
def ck.toL(x:ck G h w G' h' w' lo hi)(L:sq):iG G h w G' h' w' lo hi L:=
 ⟨x.le,x.size,λb g d _=>x.keepW b g d,x.owns,x.names,x.cells,x.quiet,x.ownsW⟩
def fG(P:Program)(G:Gh)(h:aC aI)(w:World)(B:cE)(loc:Loc)(lo hi:Nat)(a:Act)(o:Oper)(v:aa)(loc':Loc)(h':aC aI):Prop:=
 ∃g x w' G' d,(execOp a.eval o).run P w=.ok g w'/\(g=.value x\/(g=.skip/\x=undef))/\WR G' h' w'/\iG G h w G' h' w' lo hi (LB B loc)/\
  pM G' h' d loc' w'/\LV G' loc' d v x/\(∀u y,LV G loc B u y->LV G' loc' d u y)/\∀b,LB d loc' b->LB B loc b\/w.heap.size<=b
variable{y:Value}
section
variable{P:Program}{G:Gh}{h:aC aI}{B:cE}{fr:Fr}{a:Act}{w:World}{o:Oper}{lo hi:Nat}
def fG.pure(wr:WR G h w)(x:cy G h B fr a.tmps w)(d:(execOp a.eval o).run P w=.ok (.value y) w)(g:LV G fr.loc B v y):
 fG P G h w B fr.loc lo hi a o v fr.loc h:=
 ⟨_,y,w,G,B,d,.inl rfl,wr,ck.refl.toL _,x.locs,g,λ_ _ h=>h,λ_ h=>.inl h⟩
def fG.heap(x:cy G h B fr a.tmps w){g:Next}(d:(execOp a.eval o).run P w=.ok g w')(u:g=.value y\/(g=.skip/\y=undef))(wr:WR G' h' w')(e:ck G h w G' h' w' lo hi)(q:LV G' fr.loc B v y):
 fG P G h w B fr.loc lo hi a o v fr.loc h':=
 ⟨g,y,w',G',B,d,u,wr,e.toL _,x.locs.ext e,q,λ_ _ h=>h.mono e.le,λ_ h=>.inl h⟩
end
variable{l:Loc}{x:Operand}{s s':St}
section
variable{P:Program}{mk:aK}{G:Gh}{h:aC aI}{B:cE}{fr:Fr}{a:Act}{w:World}{o:Oper}{lo hi:Nat}
theorem kJ{x:df}{l':Loc}(e:fe x l s=X (v,l',s')):x=X v/\l'=l/\s'=s:=by
 rcases x with _|u
 simp[fe]at e
 grind [fe]
theorem az5(d:o.op=.move x)(wr:WR G h w)(fx:cy G h B fr a.tmps w)(g:ev fr.env x=X v):
 fG P G h w B fr.loc lo hi a o v fr.loc h:=
 .pure wr fx (y:=a.eval x) (by simp[execOp,d]) (fx.ev g)
theorem azL(d:o.op=.assign x)(wr:WR G h w)(fx:cy G h B fr a.tmps w)(g:ev fr.env x=X v):
 fG P G h w B fr.loc lo hi a o v fr.loc h:=
 .pure wr fx (y:=a.eval x) (by simp[execOp,d]) (fx.ev g)
theorem az8{c p q:Operand}(u:o.op=.pick c p q)(wr:WR G h w)(fx:cy G h B fr a.tmps w)(g:BS fr.env c p q=X v):
 fG P G h w B fr.loc lo hi a o v fr.loc h:=by
 simp only[BS,an]at g
 let⟨b,hb,g⟩:=g
 have d:=fx.ev hb;split at g;have d:VR G (.bool O) (a.eval c):=d;generalize hx:a.eval c=x at d;cases d;exact .pure wr fx (y:=a.eval p) (by simp[execOp,u,hx,asBool]) (fx.ev g);have d:VR G (.bool I) (a.eval c):=d;generalize hx:a.eval c=x at d;cases d;exact .pure wr fx (y:=a.eval q) (by simp[execOp,u,hx,asBool]) (fx.ev g);cases g
theorem az7(D:o.op=.nilCheck x)(wr:WR G h w)(fx:cy G h B fr a.tmps w){u:aa}(H:ev fr.env x=X u)(q:zR fr.loc u=X v):
 fG P G h w B fr.loc lo hi a o v fr.loc h:=by
 have z:=fx.ev H;unfold zR at q;split at q;rename_i t g off;replace q:=bf q
 let⟨F,q⟩:=q
 cases q;have F:=fD F;obtain⟨K,_,A⟩:g<=fr.loc.gen t/\(∃ad,a.eval x=.pointer (X ad))/\(g=fr.loc.gen t->a.eval x=.pointer (X ⟨B t,off,Z⟩)):=z;have A:=A F.symm;exact .pure wr fx (y:=a.eval x) (by simp[execOp,D,A]) ⟨K,⟨_,A⟩,λ_=>A⟩;cases q;generalize hx:a.eval x=y at z;have d:VR G _ y:=z;cases d;exact .pure wr fx (y:=a.eval x) (by simp[execOp,D,hx]) (by rw[hx];exact z);cases q;generalize hx:a.eval x=y at z;have d:VR G _ y:=z;cases d;exact .pure wr fx (y:=a.eval x) (by simp[execOp,D,hx]) (by rw[hx];exact z);cases q;generalize hx:a.eval x=y at z;have d:VR G _ y:=z;cases d;exact .pure wr fx (y:=a.eval x) (by simp[execOp,D,hx]) (by rw[hx];exact z);cases q
end
theorem Loc.gen_set(l:Loc)(t g u:Nat)(cs:az):(Loc.set l t g cs).gen u=if u=t then g else Loc.gen l u:=by
 induction l with
 |nil=>
  simp only[Loc.set,Loc.gen];by_cases h:u=t;subst h;simp
  grind [fD]
 |cons x l d=>
  grind [Loc.set,Loc.gen,fD]
theorem Loc.get_set(l:Loc)(t g u k:Nat)(cs:az):(Loc.set l t g cs).get u k=if u=t then(if k=g then X cs else Z)else Loc.get l u k:=by
 have q:∀a b:Nat,aB a b=decide (a=b):=λa b=>by
  grind [CP,fD]
 induction l with
 |nil=>
  grind [Loc.set,Loc.get]
 |cons x l d=>
  grind [Loc.set,Loc.get]
section
variable{P:Program}{G:Gh}{h:aC aI}{w:World}
def Gh.more_none(x:WR G h w):G.more w.heap.size (λ_=>Z) Z=G:=by
 cases G with
 |mk A R D=>
  simp only[Gh.more];congr 1;funext c o;by_cases e:c=w.heap.size;rw[iP e];rcases hr:R c o with _|v
  rfl
  have:=x.ro_lt (b:=c) (o:=o) (v:=v) hr;omega;rw[iN e];funext c;by_cases e:c=w.heap.size;rw[iP e];rcases hr:D c with _|d
  rfl
  let⟨C,t,hb,_⟩:=x.dim c d hr;have:=ig hb;omega
  rw[iN e]
def WR.fresh(x:WR G h w)(ob:Obj)(d:Obj.warm ob:=by trivial):WR G h (w.alloc ob)/\∀lo hi,ck G h w G h (w.alloc ob) lo hi:=by
 have:=x.alloc ob (λ_=>Z) Z (by simp) (by simp) d;rwa [Gh.more_none x]at this
def Gh.boxed(G:Gh)(w:World)(n size:Nat):Gh:=(G.more w.heap.size (λ_=>Z) (X size)).name n ⟨w.heap.size,0,Z⟩
def WR.boxed(x:WR G h w)(A:G.at_ n=Z)(C:gy)(e:TypeId)(cs:az)(K:∀(i:Nat) v,cs[i]?=X v->v.scal=O/\∃y,C[i]?=X y/\VR G v y):
 WR (G.boxed w n C.size) (h.set n (X (.cells cs))) (w.alloc (.cells C e))/\ck G h w (G.boxed w n C.size) (h.set n (X (.cells cs))) (w.alloc (.cells C e)) n (n+1):=by
 let⟨h1,h2⟩:=x.alloc (.cells C e) (λ_=>Z) (X C.size) (by simp) (λd H=>⟨C,e,rfl,by injection H⟩)
 have z:¬eJ (G.more w.heap.size (λ_=>Z) (X C.size)) h w.heap.size:=by
  rintro⟨m,a,F,M,g⟩
  have:=x.below m a M;omega
 have N:=h1.named (n:=n) (a:=⟨w.heap.size,0,Z⟩) (o:=.cells cs) A (by simp) rfl z
  ⟨C,e,by rw[mM,iP rfl],by simp[Gh.more],λi v hi=>by
    let⟨hs,y,hy,u⟩:=K i v hi
    exact⟨hs,y,by simpa using hy,u.mono (h2 0 0).le⟩⟩
  (by simp[Gh.more])
 refine⟨N,⟨(h2 0 0).le.trans (Gh.name_le _ _ A),(h2 0 0).size,(h2 0 0).keepW,?_,?_,?_,(h2 0 0).quiet,λb g q=>(Ed q).elim (λe=>absurd (e▸g) (bJ _)) ((h2 0 0).ownsW b g)⟩⟩;intro b g q;rcases Ee q with rfl|q
 exact absurd g (bJ _);exact(h2 0 0).owns b g q;intro m a F D
 simp_all [Gh.boxed,Gh.name,Gh.more]
 intro b o v g u D;exact(h2 0 0).cells b o v g u D
def Gh.boxed_at(G:Gh)(w:World)(n size:Nat):(G.boxed w n size).at_ n=X ⟨w.heap.size,0,Z⟩:=by simp[Gh.boxed,Gh.name]
def Gh.boxed_dim(G:Gh)(w:World)(n size:Nat):(G.boxed w n size).dim w.heap.size=X size:=by simp[Gh.boxed,Gh.name,Gh.more]
theorem bO.rows{vs:az}(d:bO G vs C.toList)(g:dq vs=O):
 ∀(i:Nat) v,vs[i]?=X v->v.scal=O/\∃y,C[i]?=X y/\VR G v y:=by
 intro i v hi;refine⟨?_,?_⟩
 grind [dq]
 let⟨y,hy,hr⟩:=d.get hi
 exact⟨y,by simpa using hy,hr⟩
end
variable{loc':Loc}{hh:Nat}{dst:il}{hint:tB}{t:TypeId}
section
variable{P:Program}{mk:aK}{G:Gh}{s s':St}{B:cE}{fr:Fr}{a:Act}{w:World}{o:Oper}
theorem adO{cs:az}(wr:WR G s.heap w)(fx:cy G s.heap B fr a.tmps w)(D:(execOp a.eval o).run P w=.ok (.value (.pointer (X ⟨w.heap.size,0,Z⟩))) (w.alloc (.cells C e)))(hc:∀(i:Nat) v,cs[i]?=X v->v.scal=O/\∃y,C[i]?=X y/\VR G v y)(z:rh hh dst cs fr.loc s=X (v,loc',s'))(H:∀n,s.aL<=n->n<s'.aL->G.at_ n=Z):
 fG P G s.heap w B fr.loc s.aL s'.aL a o v loc' s'.heap:=by
 unfold rh at z;rcases fP z with⟨_,z⟩|⟨_,z⟩
 simp only[an]at z
 let⟨t,_,z⟩:=z
 simp only[aR,bu]at z;obtain⟨rfl,rfl,rfl⟩:=z
 let⟨h1,h2⟩:=wr.fresh (.cells C e)
 have K:=fx.locs.ext (h2 s.aL s.aL);refine⟨_,_,_,G,λu=>if u=t then w.heap.size else B u,D,.inl rfl,h1,(h2 _ _).toL _,⟨?_,?_,?_,?_⟩,?_,?_,?_⟩;intro u A d;rw[Loc.gen_set,Loc.get_set]at d;by_cases eu:u=t
 grind [mM]
 rw[iN eu,iN eu]at d;rw[iN eu];exact K.cells u A d;intro u A d;rw[Loc.gen_set,Loc.get_set]at d;by_cases eu:u=t;rw[iP eu];intro U;exact bJ _ (wr.owned_lt U);rw[iN eu,iN eu]at d;rw[iN eu];exact K.free u A d;intro u A d k;rw[Loc.gen_set,Loc.get_set]at d;by_cases eu:u=t;rw[iP eu];rcases hr:G.ro w.heap.size k with _|v
 rfl;exact absurd (wr.ro_lt hr) (bJ _);rw[iN eu,iN eu]at d;rw[iN eu];exact K.ro u A d k;intro u N A M d F S;rw[Loc.gen_set,Loc.get_set]at d F;have old:∀{q:Nat}{cs:az},fr.loc.get q (fr.loc.gen q)=X cs->B q<w.heap.size:=λ{q cs} T=>by
  let⟨C,e,hb,_⟩:=fx.locs.cells q cs T;exact ig hb
 by_cases eu:u=t<;>by_cases eu':N=t;rw[eu,eu']
 grind
 grind
 rw[iN eu,iN eu]at d;rw[iN eu',iN eu']at F;rw[iN eu,iN eu']at S;exact fx.locs.inj u N A M d F S;show _<=_/\_
 grind [Loc.gen_set]
 intro u y R;cases u with
 |uV q g off=>
  let⟨l1,l3,l2⟩:=R
  show _<=_/\_
  grind [Loc.gen_set]
 |_=>exact R
 rintro b ⟨u,A,d,rfl⟩;rw[Loc.gen_set,Loc.get_set]at d;by_cases eu:u=t
 grind
 rw[iN eu,iN eu]at d;simp only[iN eu];exact .inl ⟨u,A,d,rfl⟩;simp only[aR,bu]at z;obtain⟨rfl,rfl,rfl⟩:=z;have V:G.at_ s.aL=Z:=H s.aL (aD _) (by simp[St.new])
 let⟨h1,h2⟩:=wr.boxed V C e cs hc
 exact .heap fx D (.inl rfl) h1 h2 (LV.of_VR (by simpa using VR.ptr (off:=0) (Gh.boxed_at G w s.aL C.size)))
theorem Ik{z:aa}(g:dD P t=X z):∃i d,P.info? t=X i/\i.zero=X d/\ofValue d=X z:=by
 grind [dD,an]
def vO{i:TypeInfo}{d:Value}(hi:P.info? t=X i)(g:i.zero=X d)(w:World):(zeroValue t).run P w=.ok d w:=by
 simp[zeroValue,typeInfo,hi,g]
def azK(q:o.op=.alloc e)(wr:WR G s.heap w)(fx:cy G s.heap B fr a.tmps w)(g:LN P hint dst e fr s=X (v,loc',s'))(d:∀n,s.aL<=n->n<s'.aL->G.at_ n=Z):
 fG P G s.heap w B fr.loc s.aL s'.aL a o v loc' s'.heap:=by
 simp only[LN,an]at g
 let⟨z,hz,g⟩:=g
 let⟨i,zv,hi,hzv,hov⟩:=Ik hz
 let⟨hv,ht⟩:=vz G hov
 exact adO (C:=zv.cells) (e:=e) wr fx (by simp[execOp,q,Instr.alloc,vO hi hzv,newVar,newRow]) (hv.cells.rows (hv.scals_cells ht)) g d
def azN(q:o.op=.box e x)(wr:WR G s.heap w)(fx:cy G s.heap B fr a.tmps w)(g:LP hint dst x fr s=X (v,loc',s'))(d:∀n,s.aL<=n->n<s'.aL->G.at_ n=Z):
 fG P G s.heap w B fr.loc s.aL s'.aL a o v loc' s'.heap:=by
 simp only[LP,an]at g
 let⟨u,hu,g⟩:=g
 let⟨hv,ht⟩:=fx.evc hu
 exact adO (C:=(a.eval x).cells) (e:=e) wr fx (by simp[execOp,q,Instr.box,newVar,newRow]) (hv.cells.rows (hv.scals_cells ht)) g d
end
variable{ys:er}{cs':az}{base off:Nat}
section
variable{P:Program}{mk:aK}{G:Gh}{s s':St}{B:cE}{fr:Fr}{a:Act}{w:World}{o:Oper}{lo hi:Nat}
def cZ{d:TypeDesc}(h:P.underlying t=X d)(w:World):(underlying t).run P w=.ok d w:=by
 simp[underlying,h]
def MB{b:Bool}(h:Br P t=X b)(w:World):(isAgg t).run P w=.ok b w:=by
 simp only[Br,an]at h
 let⟨d,hd,h⟩:=h
 cases d<;>simp at h<;>subst h<;>simp[isAgg,cZ hd]
def gX(h:cW P t=X n)(w:World):(sizeOf t).run P w=.ok n w:=by
 simp only[cW,an]at h
 let⟨i,hi,h⟩:=h
 simp_all [sizeOf,typeInfo]
theorem C7{cs r:az}(h:cut cs off n=X r):r=(cs.drop off).take n/\J r=n:=by
 grind [cut,fD]
theorem FJ{cs r:az}(h:cut cs off n=X r)(hi:r[i]?=X v):cs[off+i]?=X v:=by
 let⟨h1,h2⟩:=C7 h
 grind
abbrev z_:=Option Value
theorem Tp{cs:az}{f:Nat->z_}(d:∀(i:Nat) u,cs[i]?=X u->u.scal=O/\∃x,f i=X x/\VR G u x):
 ∃vs:er,bO G cs vs/\dq cs=O/\∀(i:Nat) x,vs[i]?=X x->f i=X x:=by
 induction cs generalizing f with
 |nil=>exact⟨[],.nil,rfl,by simp⟩
 |cons c cs g=>
  let⟨hs,x,hx,hv⟩:=d 0 c (by simp)
  let⟨vs,h1,h2,h3⟩:=g (f:=λi=>f (i+1)) (λi u hi=>d (i+1) u (by simpa using hi))
  refine⟨x::vs,.cons hv h1,by grind [dq],?_⟩
  grind
def Ad{cs:az}(h:gK P t cs off=X v)(A:∀(i:Nat) u,cs[i]?=X u->u.scal=O/\∃x,w.cell? ⟨b,base+i,Z⟩=X x/\VR G u x):
 ∃y,(loadVar t ⟨b,base+off,Z⟩).run P w=.ok y w/\VR G v y/\∀l,v≠.tup l:=by
 simp only[gK,an]at h;obtain⟨g,R,h⟩:=h;replace h:=fP h;rcases h with⟨F,h⟩|⟨F,h⟩<;>subst F
 simp only[an]at h;obtain⟨n,V,r,q,h⟩:=h;injection h with h;subst h
 obtain⟨vs,D,U,T⟩:=Tp (G:=G) (cs:=r) (f:=λi=>w.cell? ⟨b,base+off+i,Z⟩) (λi u hi=>by
  have:=A (off+i) u (FJ q hi);rwa [<-sE]at this)
 have z:J vs=n:=by rw[<-D.length];exact(C7 q).2
 refine⟨.agg ⟨vs⟩,?_,.agg U D,by simp⟩;have hl:=run_loadCells_list (P:=P) (w:=w) ⟨b,base+off,Z⟩ vs (λj v N=>by rw[oP];exact T j v N)
 simp_all [loadVar,MB,gX]
 split at h;rename_i u d S;injection h with h;subst h
 have hi:cs[off]?=X u:=by
  have:(cs.drop off)[0]?=X u:=by rw[S];rfl
  simpa[qH]using this
 obtain⟨M,x,H,K⟩:=A off u hi;refine⟨x,?_,K,λl e=>by subst e;simp[aa.scal]at M⟩;simp[loadVar,MB R,H];cases h
theorem iz{ob:aI}(h:s.get mk n=X ob):s.heap.get n=X ob:=by
 grind [St.get]
theorem azZ(ho:o.op=.load t x)(wr:WR G s.heap w)(fx:cy G s.heap B fr a.tmps w)(d:D9 P mk t x fr s=X (v,loc',s')):fG P G s.heap w B fr.loc lo hi a o v loc' s'.heap:=by
 simp only[D9,an]at d;obtain⟨u,hu,d⟩:=d;replace d:=kJ d;obtain⟨d,rfl,rfl⟩:=d;have q:=fx.ev hu;unfold lC at d;split at d;rename_i U g off;simp only[an]at d;obtain⟨cs,D,d⟩:=d;obtain⟨h1,_,h2⟩:=q;have hg:g=fr.loc.gen U:=by
  clear d h2;revert D;generalize fr.loc=l at*
  induction l with
  |nil=>intro D;simp[Loc.get]at D
  |cons y l ih=>
   grind [Loc.get,Loc.gen,fD]
 replace h2:=h2 hg;subst hg;obtain⟨C,e,T,S⟩:=fx.locs.cells U cs D;obtain⟨y,K,F,V⟩:=Ad (w:=w) (b:=B U) (base:=0) d (λi u hi=>by
  obtain⟨M,z,H,N⟩:=S i u hi;exact⟨M,z,by rw[kj T];simpa using H,N⟩)
 refine .pure wr fx (y:=y) ?_ (LV.of_VR F)
 simp_all [execOp,Instr.loadAt,Instr.sureAddr]
 rename_i n off;simp only[an]at d;obtain⟨ob,R,d⟩:=d;split at d;rename_i cs;have q:VR G _ _:=q;generalize hx:a.eval x=y at q;cases q;rename_i ad hn;obtain⟨a2,A,a0,C,e,T,_,S⟩:=wr.obj n _ (iz R);rw[hn]at A;cases A;obtain⟨y,K,F,V⟩:=Ad (w:=w) (b:=ad.block) (base:=ad.off) d (λi u hi=>by
  obtain⟨M,z,H,N⟩:=S i u hi;exact⟨M,z,by rw[kj T];exact H,N⟩)
 refine .pure wr fx (y:=y) ?_ (LV.of_VR F);simp[execOp,ho,hx,Instr.loadAt,Instr.sureAddr,K];rename_i cs;have q:VR G _ _:=q;generalize hx:a.eval x=y at q;cases q;rename_i ad hn;obtain⟨a2,A,a0,C,e,T,_,S⟩:=wr.obj n _ (iz R);rw[hn]at A;cases A;obtain⟨y,K,F,V⟩:=Ad (w:=w) (b:=ad.block) (base:=ad.off) d (λi u hi=>by
  obtain⟨M,z,H,N⟩:=S i u hi;exact⟨M,z,by rw[kj T];exact H,N⟩)
 refine .pure wr fx (y:=y) ?_ (LV.of_VR F);simp[execOp,ho,hx,Instr.loadAt,Instr.sureAddr,K];cases d;rename_i cs;have q:VR G _ _:=q;generalize hx:a.eval x=y at q;cases q;rename_i b base a1;obtain⟨y,K,F,V⟩:=Ad (w:=w) (b:=b) (base:=base) d (λi u hi=>wr.ro _ _ _ (a1 i u hi));refine .pure wr fx (y:=y) ?_ (LV.of_VR F)
 simp_all [execOp,Instr.loadAt,Instr.sureAddr]
 cases d
theorem ack{t g:Nat}{cs:az}(h:l.get t g=X cs):g=l.gen t:=by
 induction l with
 |nil=>simp[Loc.get]at h
 |cons y l d=>
  grind [Loc.get,Loc.gen,fD]
theorem agi{cs new:az}(h:gL cs off new=X cs'):
 off+J new<=J cs/\J cs'=J cs/\∀i:Nat,cs'[i]?=if off<=i/\i<off+J new then new[i-off]? else cs[i]? :=by
 simp only[gL]at h
 let⟨d,h2⟩:=bf h
 have d:=jE d
 grind
theorem xV{cs new:az}(h:gL cs off new=X cs')(q:bO G new ys)(D:dq new=O)(g:new≠[])(A:∀(i:Nat) u,cs[i]?=X u->u.scal=O/\∃x,C[base+i]?=X x/\VR G u x):
 base+off+J ys<=C.size/\∀(i:Nat) u,cs'[i]?=X u->u.scal=O/\∃x,(eN C (base+off) ys)[base+i]?=X x/\VR G u x:=by
 let⟨h1,h2,h3⟩:=agi h
 have F:=q.length;have z:0<J new:=List.length_pos_iff.2 g;have d:base+off+J ys<=C.size:=by
  have hi:off+J new-1<J cs:=w_
  let⟨_,x,hx,_⟩:=A (off+J new-1) cs[off+J new-1] (dp hi)
  have:base+(off+J new-1)<C.size:=by
   rcases ip (base+(off+J new-1)) C.size with h|h
   exact h;simp[Array.getElem?_eq_none h]at hx
  omega
 refine⟨d,λi u hi=>?_⟩;rw[h3]at hi;rw[Aw _ _ _ _ d];by_cases c:off<=i/\i<off+J new;rw[iP c]at hi;rw[iP w_]
 let⟨x,hx,hv⟩:=q.get hi
 grind [dq]
 grind
def bO.ones{vs:az}(u:bO G vs ys)(g:dq vs=O):∀y∈ys,y.oneCell'=O:=by
 induction vs generalizing ys with
 |nil=>cases u;simp
 |cons v vs z=>
  cases u with
  |cons p q=>
   simp only[dq,pD,bh]at g;intro y d;simp at d;rcases d with rfl|d
   exact p.one g.1;exact z q g.2 y d
theorem WR.putFree(x:WR G h w){C':gy}(N:w.heap[b]?=X (.cells C e (0,0)))(R:C'.size=C.size)(K:¬eJ G h b)(z:∀o,G.ro b o=Z):WR G h (cX w b (.cells C' e (0,0))):=by
 have A:=ig N;have g:∀c,(cX w b (.cells C' e (0,0))).heap[c]?=if c=b then X (.cells C' e (0,0))else w.heap[c]? :=λc=>iC w b c _ A
 refine⟨?_,x.sep,?_,x.apart,?_,λn a q=>by simp;exact x.below n a q⟩;intro n o H
 let⟨a,q,hsp,z⟩:=x.obj n o H
 refine⟨a,q,hsp,z.of_block ?_⟩;rw[g,iN];intro F;exact K ⟨n,a,by rw[H];simp,q,F⟩;intro c o v u;by_cases F:c=b;subst F;rw[z]at u;cases u
 let⟨h1,y,hy,h2⟩:=x.ro c o v u
 grind [World.cell?]
 intro c d M
 let⟨D,t,hc,hsz⟩:=x.dim c d M
 grind
theorem aAb{z:Operand}(ho:o.op=.store t x z)(wr:WR G s.heap w)(fx:cy G s.heap B fr a.tmps w)(he:Ea P mk t x z fr s=X (v,loc',s')):fG P G s.heap w B fr.loc lo hi a o v loc' s'.heap:=by
 simp only[Ea,an]at he;obtain⟨u,hu,nv,b3,r,A,he⟩:=he;simp only[aR,bu]at he;obtain⟨rfl,rfl,rfl⟩:=he;have hl:=fx.ev hu;obtain⟨hv,ht⟩:=fx.evc b3;have V:=hv.cells;have a4:=hv.scals_cells ht;simp only[t0,an]at A;obtain⟨n,hn,A⟩:=A;replace A:=bf A;obtain⟨R,A⟩:=A;simp only[bh]at R;have T:=fD R.1;have c1:=oS R.2;have b1:nv.cells≠[]:=by intro e;rw[e]at T;simp at T;omega
 have a3:(a.eval z).cells.size=n:=by
  have:=V.length;rw[T]at this;simpa using this.symm
 have a0:∀(b off:Nat)(C:gy)(e:TypeId),w.heap[b]?=X (.cells C e (0,0))->off+(a.eval z).cells.toList.length<=C.size->a.eval x=.pointer (X ⟨b,off,Z⟩)->
  (execOp a.eval o).run P w=.ok .skip (cX w b (.cells (eN C off (a.eval z).cells.toList) e (0,0))):=by
  intro b off C e hb U hx;have h1:=HZ (P:=P) b off e (a.eval z).cells.toList 0 w C hb w_ (V.ones a4);simp only[oL]at h1;simp[execOp,ho,hx,Instr.storeAt,Instr.sureAddr,storeVar,gX hn,a3,h1]
 split at A;rename_i l g off;simp only[an]at A;obtain⟨cs,F,cs',hw,A⟩:=A;simp only[aR]at A;obtain⟨rfl,rfl⟩:=A;have hg:=ack F;obtain⟨h1,_,h2⟩:=hl;replace h2:=h2 hg;subst hg;obtain⟨C,e,hb,hc⟩:=fx.locs.cells l cs F;obtain⟨U,M⟩:=xV (base:=0) hw V a4 b1 (λi u hi=>by simpa using hc i u hi);simp only[dP]at U M;have a8:=fx.locs.free l cs F;have b2:=fx.locs.ro l cs F;have b5:=ig hb;have a1:∀c,(cX w (B l) (.cells (eN C off (a.eval z).cells.toList) e (0,0))).heap[c]?=if c=B l then X (.cells (eN C off (a.eval z).cells.toList) e (0,0))else w.heap[c]? :=λc=>iC w _ c _ b5
 have a7:∀q,(fr.loc.set l (fr.loc.gen l) cs').gen q=fr.loc.gen q:=λq=>by
  grind [Loc.gen_set]
 have a6:∀q K,(fr.loc.set l (fr.loc.gen l) cs').get q ((fr.loc.set l (fr.loc.gen l) cs').gen q)=X K->
  (q=l/\K=cs')\/(q≠l/\fr.loc.get q (fr.loc.gen q)=X K):=λq K S=>by
  grind [Loc.get_set]
 have D:∀q K,(fr.loc.set l (fr.loc.gen l) cs').get q ((fr.loc.set l (fr.loc.gen l) cs').gen q)=X K->∃H,fr.loc.get q (fr.loc.gen q)=X H:=λq K S=>by
  grind
 refine⟨_,undef,_,G,B,a0 (B l) off C e hb U h2,.inr ⟨rfl,rfl⟩,wr.putFree hb (by simp) a8 b2,
  ⟨.refl G,by simp,?_,λ_ _ h=>h,λn a h h'=>(by rw[h]at h';cases h'),λb o v _ h h'=>(by rw[h]at h';cases h'),HO w hb rfl rfl,λ_ _ h=>h⟩,⟨?_,?_,?_,?_⟩,LV.of_VR (.tup .nil),?_,?_⟩
 intro b _ _ b4;rw[a1,iN];intro e';exact b4 ⟨l,cs,F,e'.symm⟩;intro q K S;rcases a6 q K S with⟨rfl,rfl⟩|⟨b0,S⟩
 grind
 obtain⟨C',e',b8,b7⟩:=fx.locs.cells q K S;refine⟨C',e',?_,b7⟩;rw[a1,iN];·exact b8
 intro c0;exact b0 (fx.locs.inj q l K cs S F c0);intro q K S;obtain⟨H,N⟩:=D q K S;exact fx.locs.free q H N;intro q K S;obtain⟨H,N⟩:=D q K S;exact fx.locs.ro q H N;intro q q' K H S N hB;obtain⟨d1,h1⟩:=D q K S;obtain⟨d2,h2⟩:=D q' H N;exact fx.locs.inj q q' d1 d2 h1 h2 hB;intro u y hu;cases u with
 |uV q g off=>show _<=_/\_;rw[a7];exact hu
 |_=>exact hu
 rintro b ⟨q,K,S,rfl⟩;obtain⟨H,N⟩:=D q K S;exact .inl ⟨q,H,N,rfl⟩;rename_i m off;simp only[an]at A;obtain⟨ob,a5,A⟩:=A;split at A;rename_i cs;simp only[an]at A;obtain⟨cs',hw,A⟩:=A;simp only[aR]at A;obtain⟨rfl,rfl⟩:=A;have hl:VR G _ _:=hl;generalize hx:a.eval x=y at hl;cases hl;rename_i ad a9;obtain⟨c3,a2,c2,C,e,hb,b6,hc⟩:=wr.obj m _ (iz a5);rw[a9]at a2;cases a2;obtain⟨U,M⟩:=xV (base:=ad.off) hw V a4 b1 hc;obtain⟨h1,h2⟩:=wr.changed (o':=.cells cs') (ob:=.cells (eN C (ad.off+off) (a.eval z).cells.toList) e (0,0)) (iz a5) a9
  ⟨_,e,by rw[iC _ _ _ _ (ig hb),iP rfl],by rw[b6];simp,M⟩
  (λi v hv=>by have:=(wr.apart m _ ad i v (iz a5) a9 hv).1;cases this)
  (λd hd=>by
   simp_all)
 exact .heap fx (a0 ad.block (ad.off+off) C e hb U hx) (.inr ⟨rfl,rfl⟩) h1 (h2 _ _) (LV.of_VR (.tup .nil));cases A;cases A
end
section
variable{P:Program}{G:Gh}
theorem Ac{cs:az}{vs:er}(h:gK P t cs off=X v)(z:bO G cs vs)(A:dq cs=O):
 ∃y,(∀w:World,(part t ⟨vs⟩ off).run P w=.ok y w)/\VR G v y/\∀l,v≠.tup l:=by
 simp only[gK,an]at h;obtain⟨g,H,h⟩:=h;replace h:=fP h;rcases h with⟨D,h⟩|⟨D,h⟩<;>subst D
 simp only[an]at h;obtain⟨n,N,r,d,h⟩:=h;injection h with h;subst h
 obtain⟨M,R⟩:=C7 d;refine⟨.agg ⟨(vs.drop off).take n⟩,λw=>?_,.agg ?_ ?_,by simp⟩
 simp_all [part,MB,gX]
 grind [dq]
 rw[M];exact(z.drop off).take n;split at h;rename_i u q K;injection h with h;subst h
 have hi:cs[off]?=X u:=by
  have:(cs.drop off)[0]?=X u:=by rw[K];rfl
  simpa[qH]using this
 obtain⟨y,F,d⟩:=z.get hi;refine⟨y,λw=>?_,d,λl e=>?_⟩;simp[part,MB H,F];subst e;simp only[dq,fK]at A
 have:=A _ (List.mem_of_getElem? hi);simp[aa.scal]at this;cases h
def aeV{u:T_}{d:Nat}{e:TypeId}{n:Nat}{xs ys:az}{H F:er}(R:bO G xs H)(N:bO G ys F)(M:dq xs=O)(K:dq ys=O)(g:∀{x y:aa}{X_ Y:Value}{r:Bool},u e x y=X r->VR G x X_->VR G y Y->∀w:World,(AN d e X_ Y).run P w=.ok r w)(w:World):
 ∀(k i:Nat){r:Bool},FO P u e n xs ys k i=X r->
  ((forIn (m:=Sem) (List.range' i k) ((Z,()):W9×Unit) λi _=>do
   let a<-part e ⟨H⟩ (i*n)
   let b<-part e ⟨F⟩ (i*n)
   let q<-AN d e a b
   if(!q)=O then pure (ForInStep.done (X I,()))else pure (ForInStep.yield (Z,()))).run P w)=.ok (bif r then Z else X I,()) w
 |0,i,r,h=>by simp[FO]at h;subst h;simp
 |k+1,i,r,h=>by
  simp only[FO,an]at h;obtain⟨x,D,y,A,q,U,h⟩:=h;obtain⟨X_,hX,T,_⟩:=Ac D R M;obtain⟨Y,V,S,_⟩:=Ac A N K;have z:=g U T S;rw[List.range'_succ,List.forIn_cons];simp only[Sem.run_bind,hX,V,z,lR];cases q;simp at h;subst h;simp;simp at h;simpa using aeV R N M K g w k (i+1) h
def Tu{rec:T_}{d:Nat}{xs ys:az}{xv yv:er}(hx:bO G xs xv)(hy:bO G ys yv)(sx:dq xs=true)(sy:dq ys=true)(hrec:∀ {e:TypeId} {x y:aa} {X Y:Value} {r:Bool},rec e x y=some r->VR G x X->VR G y Y->∀w:World,(AN d e X Y).run P w=.ok r w)(w:World):
 ∀(fs:List Field) {r:Bool},Da P rec xs ys fs=some r->(Op.eqFields d ⟨xv⟩ ⟨yv⟩ fs).run P w=.ok r w
 |[],r,h=>by simp_all [Da,Op.eqFields]
 |f::fs,r,h=>by
  simp only[Da]at h;replace h:=fP h;rcases h with⟨hn,h⟩|⟨hn,h⟩
  have hn:f.name= "_" :=by simpa using hn
  simp only[Op.eqFields,hn];simpa using Tu hx hy sx sy hrec w fs h;have hn:f.name≠ "_" :=by simpa using hn
  simp only[an]at h;obtain⟨x,hx1,y,hy1,q,hq,h⟩:=h;obtain⟨X,hX,vX,_⟩:=Ac hx1 hx sx;obtain⟨Y,hY,vY,_⟩:=Ac hy1 hy sy;have hrun:=hrec hq vX vY;simp only[Op.eqFields,iP hn,Sem.run_bind,hX,hY,hrun,lR];cases q;simp at h;subst h;simp;simp at h;simpa using Tu hx hy sx sy hrec w fs h
def Xb{d:Array Field}(h:P.underlying t=X (.struct d)):P.fieldsOf t=d:=by simp[Program.fieldsOf,h]
theorem Mz:∀(d:Nat){t:TypeId}{x y:aa}{X_ Y:Value}{r:Bool},i9 P d t x y=X r->VR G x X_->VR G y Y->
 ∀(D:Nat),d<=D->∀w:World,(AN D t X_ Y).run P w=.ok r w
 |0,_,_,_,_,_,_,h,_,_=>by simp[i9]at h
 |d+1,t,x,y,X_,Y,r,h,q,g=>by
  intro D T w;obtain⟨D,rfl⟩:∃E,D=E+1:=⟨D-1,w_⟩;simp only[i9,an]at h;obtain⟨desc,z,h⟩:=h;have u:=cZ (w:=w) z;split at h;cases q;cases g;cases h;simp[AN,u];cases q;cases g;replace h:=bf h;obtain⟨N,h⟩:=h;cases h;have N:=of_decide_eq_true (by simpa using N);subst N;simp[AN,u,aj];cases q;cases g;grind [run_equalIn_string,ByteArray.toList_mk]
  ·rename_i U xs ys
   cases q with|agg K q=>cases g with|agg H g=>
   replace h:=fP h;rcases h with⟨_,h⟩|⟨R,h⟩
   cases h;rw[run_equalIn_struct w D t _ _ (by rw[Xb z];exact z) R,Xb z];exact Tu q g K H (λ{e x y X_ Y r} M F A w=>Mz d M F A D w_ w) w _ h
  ·rename_i len e xs ys
   cases q with|agg K q=>cases g with|agg H g=>
   simp only[an]at h;obtain⟨n,S,h⟩:=h
   have:=aeV q g K H (d:=D) (λ{x y X_ Y r} M F A w=>Mz d M F A D w_ w) w len 0 h;simp only[AN,Sem.run_bind,u,lR,gX S];rw[Std.Legacy.Range.forIn_eq_forIn_range'];simp only[Std.Legacy.Range.size,Cy,Nat.add_sub_cancel,Nat.div_one];rw[this];cases r<;>simp
  all_goals first
   |(cases q;cases g;cases h;simp[AN,u];done)
   |(cases h)
end
variable{op:BinOp}{Y:Value}{y:aa}
section
variable{P:Program}{G:Gh}
def aDf{k:IntKind}{a b:Int}(h:J5 op k a b=X v)(t:TypeId)(w:World)(h1:op≠.shl)(g:op≠.shr):
 ∃y,(binOp op t (.int k a) (.int k b)).run P w=.ok y w/\VR G v y:=by
 cases op<;>simp only[J5,aR,reduceCtorEq]at h<;>first
  |(subst h;exact⟨_,by simp[binOp];rfl,by constructor⟩)
  |(replace h:=fP h
    rcases h with⟨_,h⟩|⟨d,h⟩
    cases h;cases h;have d:b≠0:=by simpa[aj]using d
    exact⟨_,by simp[binOp,Op.intDiv,d];rfl,by constructor⟩)
  |exact absurd rfl h1
  |exact absurd rfl g
theorem ab3(a b:oa):leBytes a b=(gQ a b||a==b):=rfl
theorem aDi{a b:oa}(h:TV op a b=X v)(t:TypeId)(w:World):
 ∃y,(binOp op t (.string ⟨⟨a⟩⟩) (.string ⟨⟨b⟩⟩)).run P w=.ok y w/\VR G v y:=by
 have g:∀l:oa,(ByteArray.mk ⟨l⟩).toList=l:=λl=>ByteArray.toList_mk l;cases op<;>simp only[TV,aR,reduceCtorEq]at h<;>first
  |(subst h;exact⟨_,by simp[binOp,Op.stringOp,g];rfl,by constructor⟩)
  |(subst h;exact⟨_,by simp[binOp,Op.stringOp,g,<-ab3];rfl,by constructor⟩)
  |(replace h:=bf h
    obtain⟨d,h⟩:=h;cases h;have d:=jE d;refine⟨.string ⟨⟨a++b⟩⟩,?_,.str _⟩
    have:=run_string_add_sum (P:=P) w ⟨⟨a⟩⟩ ⟨⟨b⟩⟩ (by show J a+J b<=_;omega)
    grind [ByteArray.mk_append_mk,binOp])
set_option maxHeartbeats 1000000 in
theorem aeU{x:aa}{X_:Value}{r:Bool}(h:wV P t x y=X r)(g:VR G x X_)(d:VR G y Y)(A z:Operand)(op:BinOp)(w:World):
 (eqGuard op t A z X_ Y).run P w=.ok () w/\∀w:World,(Op.equal t X_ Y).run P w=.ok r w:=by
 have u:∀{x y},i9 P 8 t x y=X r->VR G x X_->VR G y Y->∀w:World,(Op.equal t X_ Y).run P w=.ok r w:=λh g d w=>Mz 8 h g d 10000 w_ w;unfold wV at h;split at h;replace h:=fP h;rcases h with⟨_,h⟩|⟨F,h⟩
 cases h;refine⟨?_,u h g d⟩;cases g;cases d
 grind [run_eqGuard_agg]
 refine⟨?_,u h g d⟩;rename_i q;simp only[i9,an]at h;obtain⟨desc,D,h⟩:=h;cases g<;>cases d<;>first
  |(exact absurd rfl (q _ _ rfl))
  |(simp at h;done)
  |(cases op<;>simp[eqGuard])
def aC9{x:aa}{X_:Value}(h:cN P op t x y=X v)(q:VR G x X_)(g:VR G y Y)(H F:Operand)(w:World):
 ∃z,((do eqGuard op t H F X_ Y;binOp op t X_ Y):Sem Value).run P w=.ok z w/\VR G v z:=by
 unfold cN at h;split at h;rename_i k a N b;cases q;cases g;have D:∀w:World,(eqGuard op t H F (.int k a) (.int N b)).run P w=.ok () w:=λw=>by cases op<;>simp[eqGuard]
 simp only[Sem.run_bind,D,lR];split at h;replace h:=fP h;rcases h with⟨_,h⟩|⟨d,h⟩
 cases h;cases h;have d:¬b<0:=by simpa[aQ]using d
 exact⟨_,by simp[binOp,Op.shift,d];rfl,by constructor⟩;replace h:=fP h;rcases h with⟨_,h⟩|⟨d,h⟩
 cases h;cases h;have d:¬b<0:=by simpa[aQ]using d
 exact⟨_,by simp[binOp,Op.shift,d];rfl,by constructor⟩;rename_i T S;replace h:=bf h;obtain⟨R,h⟩:=h
 simp_all [aDf]
 cases q;cases g
 simp_all [eqGuard,aDi]
 rename_i A u;split at h;simp only[an]at h;obtain⟨b,M,h⟩:=h;cases h;obtain⟨D,K⟩:=aeU M q g H F .eql w;refine⟨.bool b,?_,.bool b⟩;simp only[Sem.run_bind,D,lR];cases q<;>cases g<;>first
  |(exact absurd rfl (A _ _ _ _ rfl))
  |(exact absurd rfl (u _ _ rfl))
  |(simp[binOp,K])
 simp only[an]at h;obtain⟨b,M,h⟩:=h;cases h;obtain⟨D,K⟩:=aeU M q g H F .neq w;refine⟨.bool (!b),?_,.bool (!b)⟩;simp only[Sem.run_bind,D,lR];cases q<;>cases g<;>first
  |(exact absurd rfl (A _ _ _ _ rfl))
  |(exact absurd rfl (u _ _ rfl))
  |(simp[binOp,K])
 cases h
end
variable{xs:az}{j:Nat}
theorem Xg(d:∀x∈xs,J x.cells=sz)(g:j<J xs)(hi:i<sz):
 (au xs)[j*sz+i]?=(mW xs j).cells[i]? :=by
 induction xs generalizing j with
 |nil=>simp at g
 |cons x xs q=>
  have u:=d x (by simp);rcases j with _|j
  grind [au,mW]
  grind [au,mW]
theorem ayM(d:j<J xs):mW xs j∈xs:=by
 induction xs generalizing j with
 |nil=>simp at d
 |cons x xs g=>
  rcases j with _|j
  simp[mW]
  grind [mW]
theorem nC(d:∀x∈xs,J x.cells=sz):(au xs).length=J xs*sz:=by
 induction xs with
 |nil=>simp[au]
 |cons x xs g=>grind [au]
variable{f:Nat}
section
variable{P:Program}{mk:aK}{G:Gh}{s s':St}{B:cE}{fr:Fr}{a:Act}{w:World}{o:Oper}{lo hi:Nat}{v:aa}{loc':Loc}
def azM{yt:TypeId}{y:Operand}(F:o.op=.binOp op t x y yt)(wr:WR G s.heap w)(fx:cy G s.heap B fr a.tmps w)(d:LO P op t x y fr s=X (v,loc',s')):fG P G s.heap w B fr.loc lo hi a o v loc' s'.heap:=by
 simp only[LO,an]at d;obtain⟨p,D,q,A,d⟩:=d;replace d:=kJ d;obtain⟨d,rfl,rfl⟩:=d;obtain⟨z,g,u⟩:=aC9 d (fx.evc D).1 (fx.evc A).1 x y w;refine .pure wr fx (y:=z) ?_ (LV.of_VR u);simp only[execOp,F];rw[Sem.run_bind,g];rfl
def aAc{op:UnOp}(q:o.op=.unOp op t x)(wr:WR G s.heap w)(fx:cy G s.heap B fr a.tmps w)(d:mq x (Ce op) fr s=X (v,loc',s')):fG P G s.heap w B fr.loc lo hi a o v loc' s'.heap:=by
 simp only[mq,an]at d;obtain⟨p,u,d⟩:=d;replace d:=kJ d;obtain⟨d,rfl,rfl⟩:=d;have g:=(fx.evc u).1;generalize hx:a.eval x=X_ at g;unfold Ce at d;split at d;cases d;cases g;exact .pure wr fx (by simp[execOp,q,hx,Op.unary,Op.intArith]) (LV.of_VR (.int _ _));cases d;cases g;exact .pure wr fx (by simp[execOp,q,hx,Op.unary]) (LV.of_VR (.bool _));cases d
def azR{g dst:TypeId}(z:o.op=.convert g dst x)(wr:WR G s.heap w)(fx:cy G s.heap B fr a.tmps w)(d:mq x (n9 P g dst) fr s=X (v,loc',s')):fG P G s.heap w B fr.loc lo hi a o v loc' s'.heap:=by
 simp only[mq,an]at d;obtain⟨p,u,d⟩:=d;replace d:=kJ d;obtain⟨d,rfl,rfl⟩:=d;have q:=(fx.evc u).1;generalize hx:a.eval x=X_ at q;simp only[n9,an]at d;obtain⟨H,D,F,A,d⟩:=d;split at d;cases d;cases q;exact .pure wr fx (by simp_all [execOp,convert,cZ,Conv.intToInt]) (LV.of_VR (.int _ _));cases d;cases q;exact .pure wr fx (by simp_all [execOp,convert,cZ]) (LV.of_VR (.str _));cases d
theorem az1{fn:Fn}{first captured:Dt}(z:o.op=.makeFunc fn first captured)(wr:WR G s.heap w)(fx:cy G s.heap B fr a.tmps w)(d:DN fr.env fn first captured=X v):fG P G s.heap w B fr.loc lo hi a o v fr.loc s.heap:=by
 unfold DN at d;split at d;simp only[an]at d;obtain⟨p,u,q,g,d⟩:=d;cases d;rename_i f;refine .pure wr fx (y:=.func (.func f) (first.map a.eval) (captured.map a.eval)) (by simp[execOp,z,Instr.makeFunc]) (LV.of_VR ?_);have D:=(fx.evcs u).1;have A:=(fx.evcs g).1;have H:first.map a.eval=⟨first.toList.map a.eval⟩:=by apply pB;simp
 have F:captured.map a.eval=⟨captured.toList.map a.eval⟩:=by apply pB;simp
 rw[H,F];exact .func D A;cases d
def azU(D:o.op=.extract x i)(wr:WR G s.heap w)(fx:cy G s.heap B fr a.tmps w)(d:qy x (Dd i) fr s=X (v,loc',s')):fG P G s.heap w B fr.loc lo hi a o v loc' s'.heap:=by
 simp only[qy,an]at d;obtain⟨p,A,d⟩:=d;replace d:=kJ d;obtain⟨d,rfl,rfl⟩:=d;have g:=fx.ev A;unfold Dd at d;split at d;have g:VR G _ _:=g;generalize hx:a.eval x=X_ at g;cases g with
 |tup z=>
  obtain⟨y,q,u⟩:=z.get d;exact .pure wr fx (y:=y) (by simp[execOp,D,hx,Instr.extract,q]) (LV.of_VR u)
 cases d
theorem azW(S:o.op=.fieldAddr t x f)(wr:WR G s.heap w)(fx:cy G s.heap B fr a.tmps w)(q:qy x (λx=>tf P fr.loc t x f) fr s=X (v,loc',s')):fG P G s.heap w B fr.loc lo hi a o v loc' s'.heap:=by
 simp only[qy,an]at q;obtain⟨p,R,q⟩:=q;replace q:=kJ q;obtain⟨q,rfl,rfl⟩:=q;have z:=fx.ev R;simp only[tf,an]at q;obtain⟨d,T,q⟩:=q;split at q;rename_i D;simp only[an]at q;obtain⟨fd,K,n,F,q⟩:=q;replace q:=fP q;rcases q with⟨_,q⟩|⟨M,q⟩
 cases q;have M:=CP M;have u:∀b off,a.eval x=.pointer (X ⟨b,off,Z⟩)->(execOp a.eval o).run P w=.ok (.value (.pointer (X ⟨b,off+fd.offset,Z⟩))) w:=by
  intro b off A;simp[execOp,S,A,Instr.fieldAt,cZ T,K,Instr.sureAddr,fieldPlace,gX F,M,oP]
 split at q;rename_i l g off;replace q:=bf q;obtain⟨H,q⟩:=q;have H:=(fD H).symm;cases q;obtain⟨V,_,U⟩:=z;exact .pure wr fx (u _ _ (U H)) ⟨V,⟨_,rfl⟩,λ_=>rfl⟩;cases q;have z:VR G _ _:=z;generalize A:a.eval x=X_ at z;cases z with
 |ptr F=>exact .pure wr fx (u _ _ A) (LV.of_VR (by rw[sE];exact .ptr F))
 cases q;have z:VR G _ _:=z;generalize A:a.eval x=X_ at z;cases z with
 |ro N=>exact .pure wr fx (u _ _ A) (LV.of_VR (.ro λi y hy=>by grind))
 cases q;cases q
def azV(K:o.op=.field t x f)(wr:WR G s.heap w)(fx:cy G s.heap B fr a.tmps w)(g:mq x (λx=>zu P t x f) fr s=X (v,loc',s')):fG P G s.heap w B fr.loc lo hi a o v loc' s'.heap:=by
 simp only[mq,an]at g;obtain⟨p,D,g⟩:=g;replace g:=kJ g;obtain⟨g,rfl,rfl⟩:=g;have u:=(fx.evc D).1;simp only[zu,an]at g;obtain⟨d,M,g⟩:=g;split at g;simp only[an]at g;obtain⟨N,F,g⟩:=g;split at g;generalize hx:a.eval x=X_ at u;cases u with
 |agg z q=>
  obtain⟨y,H,A,_⟩:=Ac g q z;exact .pure wr fx (y:=y) (by simp_all [execOp,Instr.field,cZ,asAgg]) (LV.of_VR A)
 cases g;cases g
def DY{i:aa}(h:dJ i=X n):∃k,i=.int k (.ofNat n):=by
 unfold dJ at h;split at h<;>simp_all
theorem azY{i:Operand}(U:o.op=.indexAddr t x i)(wr:WR G s.heap w)(fx:cy G s.heap B fr a.tmps w)(u:D8 P t x i fr s=X (v,loc',s')):fG P G s.heap w B fr.loc lo hi a o v loc' s'.heap:=by
 simp only[D8,an]at u;obtain⟨p,hp,q,hq,u⟩:=u;replace u:=kJ u;obtain⟨u,rfl,rfl⟩:=u;have z:=fx.ev hp;have hi:=fx.ev hq;simp only[fR,an]at u;obtain⟨j,hj,d,hd,u⟩:=u;obtain⟨k,rfl⟩:=DY hj;have hi:VR G (.int k (.ofNat j)) (a.eval i):=hi;generalize hI:a.eval i=I_ at hi;cases hi;split at u;rename_i len e;simp only[an]at u;obtain⟨n,M,u⟩:=u;replace u:=bf u;obtain⟨A,u⟩:=u;have A:=oS A;have F:∀b off,a.eval x=.pointer (X ⟨b,off,Z⟩)->(execOp a.eval o).run P w=.ok (.value (.pointer (X ⟨b,off+j*n,Z⟩))) w:=by
  intro b off H;simp[execOp,U,H,hI,Instr.indexAt,asIntOf,cZ hd,Instr.sureAddr,gX M,A,oP]
 split at u;rename_i l g off;replace u:=bf u;obtain⟨V,u⟩:=u;have V:=(fD V).symm;cases u;obtain⟨h1,_,h2⟩:=z;exact .pure wr fx (F _ _ (h2 V)) ⟨h1,⟨_,rfl⟩,λ_=>rfl⟩;cases u;have z:VR G _ _:=z;generalize H:a.eval x=X_ at z;cases z with
 |ptr M=>exact .pure wr fx (F _ _ H) (LV.of_VR (by rw[sE];exact .ptr M))
 cases u;have z:VR G _ _:=z;generalize H:a.eval x=X_ at z;cases z with
 |ro N=>exact .pure wr fx (F _ _ H) (LV.of_VR (.ro λi y hy=>by grind))
 cases u;rename_i e;simp only[an]at u;obtain⟨n,M,u⟩:=u;split at u;rename_i sz xs r;replace u:=bf u;obtain⟨K,u⟩:=u;simp only[bh]at K;obtain rfl:=fD K.1;have A:=oS K.2;cases u;have z:VR G _ _:=z;generalize H:a.eval x=X_ at z;cases z with
 |list D R a4 S N hr=>
  rename_i ad cap;obtain⟨b,off,sp⟩:=ad;have D:sp=Z:=by
   rcases D with h|h
   omega;exact h
  subst D;refine .pure wr fx (y:=.pointer (X ⟨b,off+j*sz,Z⟩)) ?_ (LV.of_VR (.ro ?_));simp[execOp,U,H,hI,Instr.indexAt,asIntOf,cZ hd,gX M,A,oP];intro i y hy;rw[sE];refine N _ _ ?_
  grind [ayM,Xg]
 rename_i sz m off len a1;replace u:=bf u;obtain⟨K,u⟩:=u;simp only[bh]at K;obtain rfl:=fD K.1;have A:=oS K.2;cases u;have z:VR G _ _:=z;generalize H:a.eval x=X_ at z;cases z with
 |arr a0 D R a2 S T a3 a5=>
  rename_i ad bd cap dm;obtain⟨b,o',sp⟩:=ad;simp only at D;subst D;rcases T with h0|⟨rfl,rfl⟩
  omega;refine .pure wr fx (y:=.pointer (X ⟨bd.block,bd.off+off+j*sz,Z⟩)) ?_ (LV.of_VR ?_);simp[execOp,U,H,hI,Instr.indexAt,asIntOf,cZ hd,gX M,A,oP];rw[sE];exact .ptr a0
 cases u;cases u
def azX{i:Operand}(ho:o.op=.index t x i)(wr:WR G s.heap w)(fx:cy G s.heap B fr a.tmps w)(g:LR P t x i fr s=X (v,loc',s')):fG P G s.heap w B fr.loc lo hi a o v loc' s'.heap:=by
 simp only[LR,an]at g;obtain⟨p,R,q,N,g⟩:=g;replace g:=kJ g;obtain⟨g,rfl,rfl⟩:=g;have D:=(fx.evc R).1;have hi:=fx.ev N;simp only[Bo,an]at g;obtain⟨j,S,d,hd,g⟩:=g;obtain⟨k,rfl⟩:=DY S;have hi:VR G (.int k (.ofNat j)) (a.eval i):=hi;generalize hI:a.eval i=I_ at hi;cases hi;generalize hx:a.eval x=X_ at D;split at g;rename_i len e;simp only[an]at g;obtain⟨n,hn,g⟩:=g;replace g:=bf g;obtain⟨u,g⟩:=g;have u:=oS u;split at g;cases D with
 |agg K A=>
  obtain⟨y,V,M,_⟩:=Ac g A K;exact .pure wr fx (y:=y) (by simp_all [execOp,Instr.index,asIntOf,cZ,gX]) (LV.of_VR M)
 cases g;split at g;rename_i z;split at g;rename_i b H U;cases g;cases D;have F:z[j]?=X b:=by
  have:(z.drop j)[0]?=X b:=by rw[U];rfl
  simpa[qH]using this
 refine .pure wr fx (y:=.int .u8 b.toNat) ?_ (LV.of_VR (.int _ _));have T:(ByteArray.mk ⟨z⟩)[j]?=X b:=by
  have u:j<J z:=by
   rcases ip j (J z)with h|h
   exact h;simp[sC h]at F
  rw[dp u]at F;rw[getElem?_pos (ByteArray.mk ⟨z⟩) j (by exact u)];exact F
 simp_all [execOp,Instr.index,asIntOf,cZ]
 cases g;cases g;cases g
end
section
variable{P:Program}{G:Gh}{h:aC aI}{B:cE}{fr:Fr}{a:Act}{w:World}
def aG7{cs new:az}{vs:er}(q:gL cs off new=X cs')(g:bO G cs vs)(d:bO G new ys):
 off+J ys<=J vs/\bO G cs' (vs.take off++(ys++vs.drop (off+J ys))):=by
 simp only[gL]at q;obtain⟨u,z⟩:=bf q;have u:=jE u;cases z
 have:=g.length
 have:=d.length;refine⟨w_,?_⟩;rw[<-d.length];exact(g.take off).append (d.append (g.drop _))
def ae3{a b:az}:dq (a++b)=(dq a&&dq b):=by simp[dq]
theorem aG8{cs new:az}(g:gL cs off new=X cs')(q:dq cs=O)(d:dq new=O):dq cs'=O:=by
 grind [gL,dq]
theorem anE(cells:er)(off:Nat):∀(ys:er)(k:Nat),off+k+J ys<=J cells->∀(C:gy),C.toList=cells->
 ((ys.zipIdx k).foldl (λcs (x:Value×Nat)=>cs.setIfInBounds (off+x.2) x.1) C).toList=cells.take (off+k)++(ys++cells.drop (off+k+J ys)):=by
 intro ys
 induction ys generalizing cells with
 |nil=>intro k _ C d;simp[d]
 |cons y ys g=>
  intro k q C d;simp only[bT]at q;simp only[List.zipIdx_cons,List.foldl_cons];rw[g (cells.set (off+k) y) (k+1) (by simp;omega) _ (by simp[d])];have u:off+(k+1)=off+k+1:=w_
  rw[u];simp only[bT];have z:(cells.set (off+k) y).take (off+k+1)=cells.take (off+k)++[y]:=by
   rw[List.take_set];apply List.ext_getElem?;intro i;by_cases h1:i<off+k
   grind
   by_cases h2:i=off+k;subst h2;rw[sw (by simp;omega),List.getElem?_set_self (by simp;omega)];simp[Nat.min_eq_left (by omega:off+k<=J cells)];rw[sC (by simp;omega),sC (by simp;omega)]
  grind [List.drop_set]
theorem MA{place:Nat->A_}(fx:cy G h B fr a.tmps w):∀{parts:Q3}{cells cs:az}{C:gy},ey place fr.env cells parts=X cs->bO G cells C.toList->dq cells=O->
 ∃D:gy,Instr.fill place C (parts.map λ(x:Nat×Operand)=>(x.1,a.eval x.2))=X D/\bO G cs D.toList/\dq cs=O
 |[],_,_,C,d,hv,hs=>by simp[ey]at d;subst d;exact⟨C,rfl,hv,hs⟩
 |(i,x)::rest,cells,cs,C,d,hv,hs=>by
  simp only[ey,an]at d;obtain⟨u,R,⟨off,size⟩,T,d⟩:=d;replace d:=bf d;obtain⟨F,d⟩:=d;have F:=fD F;simp only[an]at d;obtain⟨c1,M,d⟩:=d;obtain⟨K,S⟩:=fx.evc R;have N:=K.cells;obtain⟨A,q⟩:=aG7 M hv N;have z:=aG8 M hs (K.scals_cells S);have g:=N.length;rw[F]at g;simp only[Cn]at g A
  let C1:gy:=(a.eval x).cells.zipIdx.foldl (λcs (x:Value×Nat)=>cs.setIfInBounds (off+x.2) x.1) C
  have H:C1.toList=C.toList.take off++((a.eval x).cells.toList++C.toList.drop (off+(a.eval x).cells.toList.length)):=by
   have:=anE C.toList off (a.eval x).cells.toList 0 (by simp;omega) C rfl;simp only[oL]at this;rw[<-this];simp only[C1];rw[<-Array.foldl_toList,Array.toList_zipIdx]
  rw[<-H]at q;obtain⟨D,U,h2,V⟩:=MA fx (place:=place) (parts:=rest) d q z
  grind [Instr.fill]
end
abbrev Nj:=Array (Nat×Operand)
variable{parts:Nj}{E:EI}
section
variable{P:Program}{mk:aK}{G:Gh}{s s':St}{B:cE}{fr:Fr}{a:Act}{w:World}{o:Oper}{lo hi:Nat}{v:aa}{loc':Loc}
def acz(w:World):∀{d:List Field}{g:MT},Eg P d=X g->
 ((d.mapM λf=>do pure (f.offset,<-sizeOf f.type):Sem MT)).run P w=.ok g w
 |[],_,h=>by simp[Eg]at h;subst h;simp
 |f::d,_,h=>by
  simp only[Eg,an]at h;obtain⟨n,u,r,q,h⟩:=h;cases h;simp only[List.mapM_cons,Sem.run_bind,gX u,lR,Sem.run_pure,acz w q]
theorem azO(ho:o.op=.build t parts)(wr:WR G s.heap w)(fx:cy G s.heap B fr a.tmps w)(g:sV P t parts.toList fr.env=X v):fG P G s.heap w B fr.loc lo hi a o v fr.loc s.heap:=by
 simp only[sV,an]at g;obtain⟨z,S,d,hd,g⟩:=g;obtain⟨i,U,hi,R,M⟩:=Ik S;obtain⟨q,u⟩:=vz G M;split at g;rename_i A;simp only[an]at g;obtain⟨V,K,cs,N,g⟩:=g;cases g;obtain⟨D,T,F,H⟩:=MA fx N q.cells (q.scals_cells u);refine .pure wr fx (y:=.agg D) ?_ (LV.of_VR (by simpa using VR.agg H F));have hm:=acz (P:=P) w K
 simp_all [execOp,Instr.build,vO,cZ,Array.mapM_eq_mapM_toList]
 rename_i len e;simp only[an]at g;obtain⟨n,hn,cs,N,g⟩:=g;cases g;obtain⟨D,T,F,H⟩:=MA fx N q.cells (q.scals_cells u);refine .pure wr fx (y:=.agg D) ?_ (LV.of_VR (by simpa using VR.agg H F))
 simp_all [execOp,Instr.build,vO,cZ,gX]
 cases g
theorem HS{z:az}{zs:er}(d:bO G z zs):∀n:Nat,∃R:er,bO G (eZ z n) R/\J R=n*J zs/\∀i:Nat,i<n*J zs->R[i]?=zs[i % J zs]?
 |0=>⟨[],.nil,by simp,by simp⟩
 |n+1=>by
  obtain⟨R,q,g,u⟩:=HS d n;refine⟨zs++R,d.append q,by simp[g,jR];omega,λi hi=>?_⟩
  grind [Nat.mod_eq_of_lt,sw,Nat.mod_eq_sub_mod]
def HT{z:az}(d:dq z=O):∀n:Nat,dq (eZ z n)=O
 |0=>rfl
 |n+1=>by simp[eZ,ae3,d,HT d n]
theorem Ng{zs:gy}{R:er}(h1:J R=n*J zs.toList)(d:∀i:Nat,i<n*J zs.toList->R[i]?=zs.toList[i % J zs.toList]?):
 ((Array.range (n*zs.size)).map (λi=>zs[i % zs.size]!))=⟨R⟩:=by
 grind
theorem CW{g:Bool}{sz:Nat}(A:g=I->sz=1):∀{n:Nat}{cs xs:az},chunk g sz n cs=X xs->dq cs=O->J xs=n/\au xs=cs/\∀x∈xs,J x.cells=sz
 |0,[],_,h,_=>by simp[chunk]at h;subst h;exact⟨rfl,rfl,by simp⟩
 |0,_::_,_,h,_=>by simp[chunk]at h
 |n+1,cs,xs,h,hs=>by
  simp only[chunk]at h;replace h:=fP h;rcases h with⟨H,h⟩|⟨H,h⟩
  simp only[an]at h;obtain⟨e,F,r,q,h⟩:=h;cases h;obtain⟨T,S⟩:=C7 F;have d:dq (cs.drop sz)=O:=by
   simp only[dq,fK]at hs⊢;exact λx D=>hs x (oK D)
  obtain⟨N,M,K⟩:=CW A q d
  grind [au,aa.cells,wq]
  split at h;rename_i u z;simp only[an]at h;obtain⟨r,q,h⟩:=h;cases h;simp only[dq,pD,bh]at hs;obtain⟨N,M,K⟩:=CW A q hs.2;have R:u.cells=[u]:=by cases u<;>first|rfl|(simp[aa.scal]at hs)
  grind [au]
  cases h
def Gh.fixed(G:Gh)(w:World)(cs:az):Gh:=G.more w.heap.size (λi=>cs[i]?) (Z)
theorem Gh.fixed_ro(G:Gh)(w:World)(cs:az)(i:Nat):(G.fixed w cs).ro w.heap.size i=cs[i]? :=by simp[Gh.fixed,Gh.more]
def WR.fixed(x:WR G h w){cs:az}(e:TypeId)(g:bO G cs C.toList)(q:dq cs=O):
 WR (G.fixed w cs) h (w.alloc (.cells C e))/\∀lo hi,ck G h w (G.fixed w cs) h (w.alloc (.cells C e)) lo hi:=
 x.alloc (.cells C e) (λi=>cs[i]?) Z (λi v hi=>by
  obtain⟨z,y,d,u⟩:=g.rows q i v hi;exact⟨z,C,e,rfl,y,d,u.mono (x.more_le _ _)⟩) (by simp)
theorem uT(h:wT P e=X E):cW P e=X E.n/\On P e=X E.b/\Br P e=X E.g/\0<E.n/\(E.g=I->E.n=1)/\
 ∃i d,0<E.b/\P.info? e=X i/\i.zero=X d/\ofValue d=X E.z/\d.cells.size=E.n/\i.bytes=E.b:=by
 simp only[wT,an]at h;obtain⟨n,F,b,K,g,H,z,D,h⟩:=h;replace h:=bf h;obtain⟨A,h⟩:=h;cases h;simp only[bh,Az]at A;obtain⟨i,d,hi,u,q⟩:=Ik D;refine⟨F,K,H,oS A.1.1.1,?_,i,d,oS A.2,hi,u,q,?_,?_⟩
 grind [fD]
 have:=((vz ⟨λ_=>Z,λ_ _=>Z,λ_=>Z⟩ q).1.cells).length
 simp_all
 grind [On]
theorem EB(h:jk P t=X E):∃e,P.underlying t=X (.slice e)/\wT P e=X E:=by
 grind [jk,an]
theorem azP{len:Nat}(ho:o.op=.buildSlice t len parts)(wr:WR G s.heap w)(fx:cy G s.heap B fr a.tmps w)(d:gj (sW P t len parts.toList (aB hh 2) fr.env s) fr.loc=X (v,loc',s'))(H:∀n,s.aL<=n->n<s'.aL->G.at_ n=Z):
 fG P G s.heap w B fr.loc s.aL s'.aL a o v loc' s'.heap:=by
 simp only[gj,an]at d;obtain⟨⟨v1,s1⟩,d,hq⟩:=d;simp only[aR,bu]at hq;obtain⟨rfl,rfl,rfl⟩:=hq;simp only[sW,an]at d;obtain⟨E,hE,d⟩:=d;obtain⟨e,hd,hE⟩:=EB hE;obtain⟨hn,_,hg,F,a5,i,zv,_,hi,a0,a2,q,_⟩:=uT hE;replace d:=bf d;obtain⟨T,d⟩:=d;have T:=jE T;obtain⟨N,a1⟩:=vz G a2;simp only[an]at d;obtain⟨cs,g,d⟩:=d;obtain⟨R,hR,K,a6⟩:=HS N.cells len;obtain⟨D,hD,V,hs⟩:=MA (C:=⟨R⟩) fx g hR (HT (N.scals_cells a1) len);have hrow:=Ng (zs:=zv.cells) K a6;rw[q]at hrow;have S:D.size=len*E.n:=by
  have U:=V.length;have h2:J cs=len*E.n:=by
   clear d hD V hs;have hl:(eZ E.z.cells len).length=len*E.n:=by rw[hR.length,K];simp[q]
   revert g;generalize eZ E.z.cells len=c0 at hl;generalize parts.toList=ps;intro g
   induction ps generalizing c0 with
   |nil=>simp[ey]at g;subst g;exact hl
   |cons p ps ih=>
    obtain⟨k,x⟩:=p;simp only[ey,an]at g;obtain⟨u,hu,⟨off,size⟩,hp,g⟩:=g;replace g:=bf g;obtain⟨_,g⟩:=g;simp only[an]at g;obtain⟨c1,hw,g⟩:=g;exact ih c1 (by rw[(agi hw).2.1];exact hl) g
  simp at U;omega
 have A:(execOp a.eval o).run P w=.ok (.value (.slice (X ⟨w.heap.size,0,Z⟩) len len)) (w.alloc (.cells D e)):=by
  have h0:¬len*E.n>2 ^ 24:=w_
  by_cases hz:len*E.n=0;have a7:R=[]:=by
   have:J R=0:=by rw[K,Cn,q];exact hz
   exact Iv.1 this
  subst a7;have M:Instr.fill (λi=>X (i*E.n,E.n)) #[] (parts.toList.map λ(x:Nat×Operand)=>(x.1,a.eval x.2))=X D:=hD;have a4:∀(f:Nat->Value),Array.map f (Array.range 0)= #[]:=λf=>by apply pB;simp
  simp[execOp,ho,Instr.buildSlice,cZ hd,gX hn,hz,a4,M,newRow];have M:Instr.fill (λi=>X (i*E.n,E.n)) ⟨R⟩ (parts.toList.map λ(x:Nat×Operand)=>(x.1,a.eval x.2))=X D:=hD;simp[execOp,ho,Instr.buildSlice,cZ hd,gX hn,hz,vO hi a0,q,hrow,M,newRow,h0]
 replace d:=fP d;rcases d with⟨_,d⟩|⟨_,d⟩
 simp only[aR,bu]at d;obtain⟨rfl,rfl⟩:=d;have a3:G.at_ s.aL=Z:=H s.aL (aD _) (by simp[St.new]);obtain⟨U,h2⟩:=wr.boxed a3 D e cs (V.rows hs);refine .heap fx A (.inl rfl) U h2 (LV.of_VR ?_);exact .arr (Gh.boxed_at G w s.aL D.size) rfl F (aD _) (aD _) (.inr ⟨rfl,rfl⟩) (Gh.boxed_dim G w s.aL D.size) (by simp[S]);simp only[an]at d;obtain⟨xs,hx,d⟩:=d;simp only[aR,bu]at d;obtain⟨rfl,rfl⟩:=d;obtain⟨c1,c2,c3⟩:=CW a5 hx hs;obtain⟨U,h2⟩:=wr.fixed e V hs;refine .heap fx A (.inl rfl) U (h2 _ _) (LV.of_VR ?_);subst c1;exact .list (.inr rfl) F c3 (aD _) (λi x hx=>by grind [Gh.fixed_ro]) rfl
theorem az2{r:sh}(q:o.op=.makeMap t r)(wr:WR G s.heap w)(fx:cy G s.heap B fr a.tmps w)(g:gj (jq P t fr.env r s) fr.loc=X (v,loc',s'))(z:∀n,s.aL<=n->n<s'.aL->G.at_ n=Z):
 fG P G s.heap w B fr.loc s.aL s'.aL a o v loc' s'.heap:=by
 simp only[gj,an]at g;obtain⟨⟨S,M⟩,g,T⟩:=g;simp only[aR,bu]at T;obtain⟨rfl,rfl,rfl⟩:=T;have fin:S=.map s.aL->M=s.new (.map [] 0)->(execOp a.eval o).run P w=.ok (.value (.map (X w.heap.size))) (w.alloc (.map #[] 0))->fG P G s.heap w B fr.loc s.aL M.aL a o S fr.loc M.heap:=by
  rintro rfl rfl A;have D:G.at_ s.aL=Z:=z s.aL (aD _) (by simp[St.new]);obtain⟨h1,h2⟩:=wr.fresh (.map #[] 0);have R:¬eJ G s.heap w.heap.size:=λq=>bJ _ (wr.owned_lt q);have h3:=h1.named (n:=s.aL) (a:=⟨w.heap.size,0,Z⟩) (o:=.map [] 0) D (by simp) rfl R
   ⟨#[],by rw[mM,iP rfl],.nil⟩
   (λi v N=>absurd (wr.ro_lt N) (bJ _))
  have F:=h2 s.aL (s.aL+1);refine .heap fx A (.inl rfl) h3 ⟨F.le.trans (Gh.name_le _ _ D),F.size,F.keepW,?_,?_,?_,F.quiet,λb K q=>(Ed q).elim (λe=>absurd (e▸K) (bJ _)) λo=>o⟩ (LV.of_VR (.map (a:=⟨w.heap.size,0,Z⟩) (by simp[Gh.name])));intro b K q;rcases Ee q with rfl|q<;>grind
  grind [Gh.name,St.new]
  intro b U u K N h0;exact F.cells b U u K N h0
 unfold jq at g;rcases r with _|x
 simp_all [execOp,Instr.makeMap]
 simp only[an]at g;obtain⟨d,hd,g⟩:=g;split at g;simp only[an]at g;obtain⟨u,V,g⟩:=g;have H:=fx.ev V;split at g;simp only[aR,bu]at g;have H:VR G _ _:=H;generalize hx:a.eval x=X_ at H;cases H
 simp_all [execOp,Instr.makeMap,cZ,asInt,asIntOf]
 cases g;cases g
end
variable{desc:TypeDesc}{kt:TypeId}
section
variable{P:Program}{G:Gh}
def Tv{rec:s_}{d:Nat}{emp:Bool}{xs:az}{xv:er}(hx:bO G xs xv)(sx:dq xs=true)(hrec:∀ {e:TypeId} {x:aa} {X:Value},rec e x=true->VR G x X->∀w:World,(Instr.checkKey emp d e X).run P w=.ok () w)(w:World):
 ∀(fs:List Field),GZ P rec xs fs=true->
  (forIn (m:=Sem) fs PUnit.unit fun f _=>do
   if f.name≠ "_" then do
    Instr.checkKey emp d f.type (<-part f.type ⟨xv⟩ f.offset)
    pure (ForInStep.yield PUnit.unit)
   else pure (ForInStep.yield PUnit.unit)).run P w=.ok PUnit.unit w
 |[],_=>by simp
 |f::fs,h=>by
  simp only[GZ] at h;rw[List.forIn_cons];cases hn:(f.name== "_");simp only[hn,cF] at h;have hn:f.name≠ "_" :=by simpa using hn
  split at h;rename_i a ha;simp only[bh] at h;obtain⟨X,hX,vX,_⟩:=Ac ha hx sx;simp only[iP hn,Sem.run_bind,hX,lR,hrec h.1 vX,Sem.run_pure];exact Tv hx sx hrec w fs h.2;cases h;simp only[hn,cT] at h;have hn: ¬f.name≠ "_" :=by simpa using hn
  simp only[iN hn,Sem.run_bind,lR,Sem.run_pure];exact Tv hx sx hrec w fs h
def aeX{q:s_}{d:Nat}{emp:Bool}{e:TypeId}{n:Nat}{xs:az}{u:er}(A:bO G xs u)(z:dq xs=O)(D:cW P e=X n)(g:∀{x:aa}{X_:Value},q e x=O->VR G x X_->∀w:World,(Instr.checkKey emp d e X_).run P w=.ok () w)(w:World):
 ∀(k i:Nat),Ln P q e n xs k i=O->
  (forIn (m:=Sem) (List.range' i k) PUnit.unit λi _=>do
   Instr.checkKey emp d e (<-part e ⟨u⟩ (i*(<-sizeOf e)))
   pure (ForInStep.yield PUnit.unit)).run P w=.ok PUnit.unit w
 |0,_,_=>by simp
 |k+1,i,h=>by
  simp only[Ln]at h;rw[List.range'_succ,List.forIn_cons];split at h;rename_i a H;simp only[bh]at h;obtain⟨X_,K,F,_⟩:=Ac H A z;simp only[Sem.run_bind,gX D,K,lR,g h.1 F,Sem.run_pure];exact aeX A z D g w k (i+1) h.2;cases h
def HY{emp:Bool}:∀(d:Nat){t:TypeId}{x:aa}{X_:Value},zH P d t x=O->VR G x X_->∀(D:Nat),d<=D->∀w:World,(Instr.checkKey emp D t X_).run P w=.ok () w
 |0,_,_,_,h,_=>by simp[zH]at h
 |d+1,t,x,X_,h,g=>by
  intro D H w;obtain⟨D,rfl⟩:∃E,D=E+1:=⟨D-1,w_⟩;simp only[zH]at h;split at h
  simp_all [Instr.checkKey,cZ]
  simp_all [Instr.checkKey,cZ]
  simp_all [Instr.checkKey,cZ]
  ·rename_i A
   cases g with|agg u g=>
   have:=Tv (emp:=emp) g u (d:=D) (λ{e x X_} z q w=>HY d z q D w_ w) w _ h
   simp_all [Instr.checkKey,cZ]
  ·rename_i len e xs A
   cases g with|agg u g=>
   split at h;rename_i n F
   have:=aeX (emp:=emp) g u F (d:=D) (λ{x X_} z q w=>HY d z q D w_ w) w len 0 h
   simp_all [Instr.checkKey,cZ]
   cases h
  cases h
def gu.length(h:gu G es ms):J es=J ms:=by
 induction h with
 |nil=>rfl
 |cons _ _ d=>simp[d]
theorem gu.get(h:gu G es ms){e:dA}(hi:es[i]?=X e):∃m,ms[i]?=X m/\yJ G e m:=by
 induction h generalizing i with
 |nil=>simp at hi
 |cons a _ d=>
  grind
def gu.append{a b:F0}{x y:Q4}(h:gu G a x)(h':gu G b y):gu G (a++b) (x++y):=by
 induction h with
 |nil=>simpa using h'
 |cons p _ d=>exact .cons p d
theorem gu.set(h:gu G es ms)(i:Nat){e:dA}(g:yJ G e m):gu G (es.set i e) (ms.set i m):=by
 induction h generalizing i with
 |nil=>simpa using gu.nil
 |cons a b d=>
  rcases i with _|i
  exact .cons g b;exact .cons a (d i)
def Po(G:Gh)(es:F0)(d:Nat):h_->Option (Nat×Value)->Prop
 |none,Z=>True
 |some (i,e),X (j,v)=>i=j/\d<=i/\es[i-d]?=X e/\VR G e.val v
 |_,_=>False
theorem aeW{kt:TypeId}{k:aa}{K:Value}(g:VR G k K)(w:World):∀{es:F0}{ms:Q4}{i:Nat}{r:h_},gu G es ms->mP P kt k es i=X r->
 ∃q,(Instr.findAsking kt K ms i).run P w=.ok q w/\Po G es i r q
 |_,_,i,r,.nil,h=>by simp[mP]at h;subst h;exact⟨Z,by simp[Instr.findAsking],trivial⟩
 |_,_,i,r,.cons (e:=e) (m:=m) (es:=es) (ms:=ms) he hs,h=>by
  simp only[mP,an]at h;obtain⟨b,A,h⟩:=h;have d:=Mz 8 A g he.key 10000 w_ w;have d:(Op.equal kt K m.key).run P w=.ok b w:=d;cases b;simp only[cF]at h;obtain⟨q,z,u⟩:=aeW g w hs h;refine⟨q,by simp[Instr.findAsking,d,z],?_⟩;cases r<;>cases q<;>first
   |trivial
   |(obtain⟨F,M,H,D⟩:=u
     refine⟨F,w_,?_,D⟩
     grind)
   |exact u.elim
  simp only[cT,aR]at h;subst h;exact⟨X (i,m.val),by simp[Instr.findAsking,d],rfl,aD _,by simp,he.val⟩
theorem ae1{x:aa}{X_:Value}{b r:Bool}(u:P.underlying kt=X desc)(d:i9 P 8 kt x y=X b)(q:VR G x X_)(g:VR G y Y)(z:Instr.sameNow desc X_ Y=X r):r=b:=by
 simp only[i9,u,aH]at d;cases q<;>cases g<;>cases desc<;>simp[Instr.sameNow]at z d
 all_goals grind [aj,beq_toListBytes,ByteArray.toList_mk]
theorem Xe{kt:TypeId}{desc:TypeDesc}{k:aa}{K:Value}(g:P.underlying kt=X desc)(u:VR G k K):∀{es:F0}{ms:Q4}{i:Nat}{r:h_}{q:Option (Nat×Value)},
 gu G es ms->mP P kt k es i=X r->Instr.findNow desc K ms i=X q->Po G es i r q
 |_,_,i,r,q,.nil,h,hn=>by
  simp[mP]at h;subst h;simp[Instr.findNow]at hn;subst hn
  trivial
 |_,_,i,r,q,.cons (e:=e) (m:=m) (es:=es) (ms:=ms) he hs,h,hn=>by
  simp only[mP,an]at h;obtain⟨b,A,h⟩:=h;simp only[Instr.findNow]at hn;split at hn;rename_i d
  have:=ae1 g A u he.key d;subst this;simp only[cT,aR]at h;subst h;cases hn;exact⟨rfl,aD _,by simp,he.val⟩;rename_i d
  have:=ae1 g A u he.key d;subst this;simp only[cF]at h;have z:=Xe g u hs h hn;cases r<;>cases q<;>first
   |trivial
   |(obtain⟨F,M,H,D⟩:=z
     refine⟨F,w_,?_,D⟩
     grind)
   |exact z.elim
  cases hn
def HW{k:aa}{K:Value}(u:VR G k K)(w:World){r:h_}(d:P.underlying kt=X desc)(g:gu G es ms)(h:mP P kt k es 0=X r):
 ∃q,(Instr.findKey kt K ms).run P w=.ok q w/\Po G es 0 r q:=by
 simp only[Instr.findKey,Sem.run_bind,cZ d,lR];cases hn:Instr.findNow desc K ms 0 with
 |some q=>exact⟨q,by simp,Xe d u g h hn⟩
 |none=>exact aeW u w g h
end
abbrev Q2:=Array Nat
variable{ad:Addr}{ES:Tm}{seen:Q2}{c clock since:Nat}
section
variable{P:Program}{mk:aK}{G:Gh}{s s':St}{B:cE}{fr:Fr}{a:Act}{w:World}{o:Oper}{lo hi:Nat}{v:aa}{loc':Loc}
def pn{r:Nat}(h:w.heap[r]?=X (.map ES c)):(getObj r).run P w=.ok (.map ES c) w:=by
 simp[getObj,Sem.run,h]
def Er{r:Nat}(ob:Obj)(h:w.heap[r]?=X (.map ES c)):(setObj r ob).run P w=.ok () (cX w r ob):=by
 simp[setObj,Sem.run,h,cX]
def HX{r:Nat}{m:pb}{d:Nat}(h:w.heap[r]?=X (.mapIter m since seen d)):(getObj r).run P w=.ok (.mapIter m since seen d) w:=by
 simp[getObj,Sem.run,h]
def aeZ{r:Nat}{m:pb}{d:Nat}(ob:Obj)(h:w.heap[r]?=X (.mapIter m since seen d)):(setObj r ob).run P w=.ok () (cX w r ob):=by
 simp[setObj,Sem.run,h,cX]
theorem RR{k:aa}{g:TypeId×TypeId}(h:jV P t k=X g):P.underlying t=X (.map g.1 g.2)/\zH P 8 g.1 k=O/\∃d,P.underlying g.1=X d:=by
 simp only[jV,an]at h;obtain⟨d,u,h⟩:=h;split at h;replace h:=bf h;obtain⟨q,h⟩:=h;cases h;refine⟨u,q,?_⟩;simp only[zH]at q
 grind
 cases h
def axD(wr:WR G s.heap w)(d:s.get mk n=X (.fix (.map es clock))):
 ∃ad ES,G.at_ n=X ad/\ad.spot=Z/\w.heap[ad.block]?=X (.map ES clock)/\gu G es ES.toList:=by
 obtain⟨ad,z,u,ES,q,g⟩:=wr.obj n _ (iz d);exact⟨ad,ES,z,u,q,g⟩
def xD(wr:WR G s.heap w)(d:s.get mk n=X (.map es clock)):
 ∃ad ES,G.at_ n=X ad/\ad.spot=Z/\w.heap[ad.block]?=X (.map ES clock)/\gu G es ES.toList:=by
 obtain⟨ad,z,u,ES,q,g⟩:=wr.obj n _ (iz d);exact⟨ad,ES,z,u,q,g⟩
theorem az0{i:Operand}{D:Bool}(ho:o.op=.lookup t x i D)(wr:WR G s.heap w)(fx:cy G s.heap B fr a.tmps w)(d:LS P mk t x i D fr s=X (v,loc',s')):fG P G s.heap w B fr.loc lo hi a o v loc' s'.heap:=by
 simp only[LS,an]at d;obtain⟨p,hp,k,hk,d⟩:=d;replace d:=kJ d;obtain⟨d,rfl,rfl⟩:=d;have hm:=(fx.evc hp).1;have hK:=(fx.evc hk).1;simp only[mi,an]at d;obtain⟨ke,a5,z,hz,r,g,d⟩:=d;obtain⟨hd,a4,desc,K⟩:=RR a5;obtain⟨ti,zv,hi,a2,a3⟩:=Ik hz;obtain⟨S,a6⟩:=vz G a3;have a0:∀(b:Bool)(w:World),(Instr.checkKey b 10000 ke.1 (a.eval i)).run P w=.ok () w:=λb w=>HY 8 a4 hK 10000 w_ w;have a1:∃ES:Q4,(∃q,(Instr.findKey ke.1 (a.eval i) ES).run P w=.ok q w/\(match r with|none=>q=Z|some e=>∃j u,q=X (j,u)/\VR G e.2.val u))/\
  ((a.eval x=.map Z/\ES=[])\/∃b E c,a.eval x=.map (X b)/\w.heap[b]?=X (.map E c)/\E.toList=ES):=by
  unfold zL at g;generalize hX:a.eval x=X_ at hm;split at g;cases g;cases hm;obtain⟨q,F,H⟩:=HW (P:=P) (G:=G) (kt:=ke.1) hK w K .nil (r:=Z) (by simp[mP]);rcases q with _|q
  grind
  exact H.elim
  ·rename_i n
   simp only[an]at g;obtain⟨ob,V,g⟩:=g;split at g
   ·cases hm with
    |map N=>
    obtain⟨ad,ES,A,h2,h3,R⟩:=xD wr V;rw[N]at A;cases A;obtain⟨q,F,H⟩:=HW hK w K R g;refine⟨ES.toList,⟨q,F,?_⟩,.inr ⟨_,ES,_,rfl,h3,rfl⟩⟩;cases r<;>cases q<;>first
     |rfl
     |exact H.elim
     |(obtain⟨A,h2,h3,R⟩:=H;exact⟨_,_,rfl,R⟩)
   ·cases hm with
    |map N=>
    obtain⟨ad,ES,A,h2,h3,R⟩:=axD wr V;rw[N]at A;cases A;obtain⟨q,F,H⟩:=HW hK w K R g;refine⟨ES.toList,⟨q,F,?_⟩,.inr ⟨_,ES,_,rfl,h3,rfl⟩⟩;cases r<;>cases q<;>first
     |rfl
     |exact H.elim
     |(obtain⟨A,h2,h3,R⟩:=H;exact⟨_,_,rfl,R⟩)
   cases g
  cases g
 obtain⟨ES,⟨q,F,U⟩,M⟩:=a1;have T:∃y ys,(execOp a.eval o).run P w=.ok (.value (if D then .tuple #[y,.bool ys]else y)) w/\VR G v (if D then .tuple #[y,.bool ys]else y):=by
  have fin:∀(y:Value)(ys:Bool),(q=Z/\y=zv/\ys=I\/∃j,q=X (j,y)/\ys=O)->(execOp a.eval o).run P w=.ok (.value (if D then .tuple #[y,.bool ys]else y)) w:=by
   intro y ys hy;rcases M with⟨hX,rfl⟩|⟨b,E,c,hX,hb,rfl⟩
   rcases hy with⟨rfl,rfl,rfl⟩|⟨j,rfl,rfl⟩
   simp_all [execOp,Instr.lookup,cZ,vO]
   simp_all [execOp,Instr.lookup,cZ]
   rcases hy with⟨rfl,rfl,rfl⟩|⟨j,rfl,rfl⟩
   simp[execOp,ho,hX,Instr.lookup,cZ hd,pn hb,a0,F,vO hi a2];simp[execOp,ho,hX,Instr.lookup,cZ hd,pn hb,a0,F]
  rcases r with _|e
  simp only[aR]at d;subst d;refine⟨zv,I,fin zv I (.inl ⟨U,rfl,rfl⟩),?_⟩;cases D;exact S;exact .tup (.cons S (.cons (.bool _) .nil));obtain⟨j,u,hj,hu⟩:=U;simp only[aR]at d;subst d;refine⟨u,O,fin u O (.inr ⟨j,hj,rfl⟩),?_⟩;cases D;exact hu;exact .tup (.cons hu (.cons (.bool _) .nil))
 obtain⟨y,ys,A,h2⟩:=T;exact .pure wr fx A (LV.of_VR h2)
theorem ae2{x:aa}{X_:Value}(h:se x y=O)(g:VR G x X_)(d:VR G y Y):∀n,Instr.sameBits n X_ Y=O:=by
 intro n;unfold se at h;split at h;cases g;cases d;grind [Instr.sameBits];rename_i j p k q;cases g;cases d
 grind [aj,Instr.sameBits]
 rename_i p q;cases g;cases d
 grind [beq_toListBytes,Instr.sameBits]
 cases h
theorem VS{n:Nat}:∀{x y:az}{X_ Y:er},uN x y=O->bO G x X_->bO G y Y->J X_=J Y/\((X_.zip Y).all λp=>Instr.sameBits n p.1 p.2)=O
 |[],[],_,_,_,.nil,.nil=>by simp
 |x::xs,y::ys,_,_,h,.cons a b,.cons c d=>by
  simp only[uN,bh]at h;obtain⟨q,g⟩:=VS (n:=n) h.2 b d
  grind [List.zip_cons_cons,ae2]
 |[],_::_,_,_,h,_,_=>by simp[uN]at h
 |_::_,[],_,_,h,_,_=>by simp[uN]at h
theorem abY{x:aa}{X_:Value}(h:pd x y=O)(g:VR G x X_)(d:VR G y Y):Instr.sameBits 10000 X_ Y=O:=by
 unfold pd at h;split at h
 ·cases g with|agg _ g=>cases d with|agg _ d=>
  obtain⟨u,q⟩:=VS (n:=9999) h g d
  grind [Instr.sameBits]
 exact ae2 h g d 10000
def DP(wr:WR G s.heap w){es':F0}{clock':Nat}(q:s.get mk n=X (.map es clock))(g:G.at_ n=X ad){ES':Tm}(u:w.heap[ad.block]?=X (.map ES clock))(D:gu G es' ES'.toList):
 WR G (s.put n (X (.map es' clock'))).heap (cX w ad.block (.map ES' clock'))/\∀lo hi,ck G s.heap w G (s.put n (X (.map es' clock'))).heap (cX w ad.block (.map ES' clock')) lo hi:=by
 refine wr.changed (iz q) g ⟨ES',by rw[iC _ _ _ _ (ig u),iP rfl],D⟩ ?_ ?_;intro i v A
 have:=(wr.apart n _ ad i v (iz q) g A).1;cases this;intro d F;obtain⟨C,e,z,_⟩:=wr.dim _ d F;rw[u]at z;cases z
theorem Sn(ES:Tm)(j:Nat)(f:MapEntry->MapEntry)(d:ES.toList[j]?=X m):(ES.modify j f).toList=ES.toList.set j (f m):=by
 apply List.ext_getElem?
 grind
def adP{m k:Operand}(U:o.op=.mapUpdate t m k x\/o.op=.insert t m k x)(wr:WR G s.heap w)(fx:cy G s.heap B fr a.tmps w)(d:Hw P mk t m k x fr s=X (v,loc',s')):fG P G s.heap w B fr.loc lo hi a o v loc' s'.heap:=by
 simp only[Hw,an]at d;obtain⟨mv,hm,kv,hk,xv,hx,d⟩:=d;simp only[mA,an]at d;obtain⟨s1,d,D⟩:=d;simp only[aR,bu]at D;obtain⟨rfl,rfl,rfl⟩:=D;have hM:=(fx.evc hm).1;have T:=(fx.evc hk).1;have hX:=(fx.evc hx).1;have N:(execOp a.eval o).run P w=((Instr.mapUpdate t (a.eval m) (a.eval k) (a.eval x)).run P w).andThen λ_ w'=>.ok .skip w':=by
  rcases U with U|U<;>simp[execOp,U]
 simp only[mF,an]at d;obtain⟨ke,a3,d⟩:=d;obtain⟨hd,a2,desc,a4⟩:=RR a3;have S:∀(b:Bool)(w:World),(Instr.checkKey b 10000 ke.1 (a.eval k)).run P w=.ok () w:=λb w=>HY 8 a2 T 10000 w_ w;split at d
 ·rename_i n
  simp only[an]at d;obtain⟨ob,g,d⟩:=d;split at d
  ·rename_i es clock
   generalize hMv:a.eval m=M at hM;cases hM with
   |map z=>
   rename_i ad;obtain⟨a5,ES,h1,h2,A,V⟩:=xD wr g;rw[z]at h1;cases h1;simp only[an]at d;obtain⟨r,hr,d⟩:=d;obtain⟨q,D,hf⟩:=HW T w a4 V hr;split at d;rename_i e;obtain⟨j,e⟩:=e;replace d:=bf d;obtain⟨a1,d⟩:=d;cases d;rcases q with _|q
   exact hf.elim;obtain⟨j',u⟩:=q;obtain⟨rfl,_,K,hu⟩:=hf;simp only[Cy]at K;obtain⟨me,H,R⟩:=V.get K;have a0:=abY a1 R.key T;have F:ES[j]?=X me:=by simpa using H
   obtain⟨c1,c2⟩:=DP (clock':=clock) (es':=es.set j ⟨kv,xv,e.born⟩) (ES':=ES.modify j λe=> {e with key:=a.eval k,val:=a.eval x }) wr g z A
    (by rw[Sn ES j _ H];exact V.set j ⟨T,hX,R.born⟩)
   refine .heap fx ?_ (.inr ⟨rfl,rfl⟩) c1 (c2 _ _) (LV.of_VR (.tup .nil));rw[N];simp[hMv,Instr.mapUpdate,cZ hd,pn A,S,D,Instr.keyThatStays,F,a0,Er _ A];cases d;cases q with
   |some q=>exact hf.elim
   |none=>
    obtain⟨c1,c2⟩:=DP (clock':=clock+1) (es':=es++[⟨kv,xv,clock⟩]) (ES':=ES.push {key:=a.eval k,val:=a.eval x,born:=clock }) wr g z A
     (by simpa using V.append (.cons ⟨T,hX,rfl⟩ .nil))
    refine .heap fx ?_ (.inr ⟨rfl,rfl⟩) c1 (c2 _ _) (LV.of_VR (.tup .nil));rw[N];simp[hMv,Instr.mapUpdate,cZ hd,pn A,S,D,Er _ A]
  cases d
 cases d
def az4{m k:Operand}(ho:o.op=.mapEntry t m k)(wr:WR G s.heap w)(fx:cy G s.heap B fr a.tmps w)(d:LW P mk t m k fr s=X (v,loc',s')):fG P G s.heap w B fr.loc lo hi a o v loc' s'.heap:=by
 simp only[LW,an]at d;obtain⟨mv,hm,kv,hk,d⟩:=d;simp only[gj,an]at d;obtain⟨⟨v1,s1⟩,d,K⟩:=d;simp only[aR,bu]at K;obtain⟨rfl,rfl,rfl⟩:=K;have hM:=(fx.evc hm).1;have U:=(fx.evc hk).1;simp only[rP,an]at d;obtain⟨ke,a5,z,hz,d⟩:=d;obtain⟨hd,a4,desc,a6⟩:=RR a5;obtain⟨ti,zv,hi,a0,a2⟩:=Ik hz;obtain⟨H,a7⟩:=vz G a2;have T:∀(b:Bool)(w:World),(Instr.checkKey b 10000 ke.1 (a.eval k)).run P w=.ok () w:=λb w=>HY 8 a4 U 10000 w_ w;split at d
 ·rename_i n
  simp only[an]at d;obtain⟨ob,A,d⟩:=d;split at d
  ·rename_i es clock
   generalize hMv:a.eval m=M at hM;cases hM with
   |map D=>
   rename_i ad;obtain⟨a8,ES,h1,h2,F,V⟩:=xD wr A;rw[D]at h1;cases h1;simp only[an]at d;obtain⟨r,hr,d⟩:=d;obtain⟨q,K,hf⟩:=HW U w a6 V hr;split at d;rename_i e;obtain⟨j,e⟩:=e;replace d:=bf d;obtain⟨a3,d⟩:=d;simp only[aR,bu]at d;obtain⟨rfl,rfl⟩:=d;rcases q with _|q
   exact hf.elim;obtain⟨j',u⟩:=q;obtain⟨rfl,_,S,hu⟩:=hf;simp only[Cy]at S;obtain⟨me,R,g⟩:=V.get S;have a1:=abY a3 g.key U;have N:ES[j]?=X me:=by simpa using R
   obtain⟨c1,c2⟩:=DP (clock':=clock) (es':=es.set j ⟨kv,e.val,e.born⟩) (ES':=ES.modify j λe=> {e with key:=a.eval k }) wr A D F
    (by rw[Sn ES j _ R];exact V.set j ⟨U,g.val,g.born⟩)
   refine .heap fx (y:=.tuple #[u,.int .i64 me.born]) ?_ (.inl rfl) c1 (c2 _ _) (LV.of_VR ?_);simp[execOp,ho,hMv,Instr.mapEntry,cZ hd,pn F,T,K,Instr.keyThatStays,N,a1,Er _ F,goInt];rw[g.born];exact .tup (.cons hu (.cons (.int _ _) .nil));simp only[aR,bu]at d;obtain⟨rfl,rfl⟩:=d;cases q with
   |some q=>exact hf.elim
   |none=>
    obtain⟨c1,c2⟩:=DP (clock':=clock+1) (es':=es++[⟨kv,z,clock⟩]) (ES':=ES.push {key:=a.eval k,val:=zv,born:=clock }) wr A D F
     (by simpa using V.append (.cons ⟨U,H,rfl⟩ .nil))
    refine .heap fx (y:=.tuple #[zv,.int .i64 clock]) ?_ (.inl rfl) c1 (c2 _ _) (LV.of_VR (.tup (.cons H (.cons (.int _ _) .nil))));simp[execOp,ho,hMv,Instr.mapEntry,cZ hd,pn F,T,K,vO hi a0,Er _ F,goInt]
  cases d
 cases d
theorem ae6{b:Nat}{u:aa}:∀{es es':F0}{ms:Q4}{U:Value},Ah b u es=X es'->gu G es ms->VR G u U->
 ∃j m,ms.findIdx? (λe=>(e.born:Int)==(b:Int))=X j/\ms[j]?=X m/\gu G es' (ms.set j {m with val:=U })
 |[],_,_,_,h,_,_=>by simp[Ah]at h
 |e::es,es',_,U,h,.cons (m:=m) (ms:=ms) he hs,hu=>by
  simp only[Ah]at h;replace h:=fP h;rcases h with⟨d,h⟩|⟨d,h⟩
  cases h;have d:=fD d;have g:m.born=b:=by rw[<-he.born,d]
  exact⟨0,m,by simp[List.findIdx?_cons,g],by simp,.cons ⟨he.key,hu,he.born⟩ hs⟩;have d:=CP d;simp only[an]at h;obtain⟨r,z,h⟩:=h;cases h;obtain⟨j,q,F,D,A⟩:=ae6 z hs hu;have g:¬m.born=b:=by rw[<-he.born];exact d
  refine⟨j+1,q,?_,by simpa using D,.cons he A⟩
  grind
def azT{m u:Operand}(ho:o.op=.entryStore t m u x)(wr:WR G s.heap w)(fx:cy G s.heap B fr a.tmps w)(d:LQ mk m u x fr s=X (v,loc',s')):fG P G s.heap w B fr.loc lo hi a o v loc' s'.heap:=by
 simp only[LQ,an]at d;obtain⟨mv,hm,sv,z,xv,U,d⟩:=d;simp only[mA,an]at d;obtain⟨s1,d,K⟩:=d;simp only[aR,bu]at K;obtain⟨rfl,rfl,rfl⟩:=K;have R:=(fx.evc hm).1;have N:=(fx.evc z).1;have hX:=(fx.evc U).1;simp only[uU,an]at d;obtain⟨b,hb,d⟩:=d;obtain⟨k,rfl⟩:=DY hb;generalize hSv:a.eval u=S at N;cases N;split at d
 ·rename_i n
  simp only[an]at d;obtain⟨ob,g,d⟩:=d;split at d
  ·rename_i es clock
   generalize hMv:a.eval m=M at R;cases R with
   |map q=>
   rename_i ad;obtain⟨a0,ES,T,h2,H,h4⟩:=xD wr g;rw[q]at T;cases T;simp only[an]at d;obtain⟨es',F,d⟩:=d;cases d;obtain⟨j,me,hj,A,V⟩:=ae6 F h4 hX;have D:ES.findIdx? (λe=>(e.born:Int)==(b:Int))=X j:=by cases ES with|mk l=>simpa using hj
   obtain⟨c1,c2⟩:=DP (clock':=clock) (es':=es') (ES':=ES.modify j λe=> {e with val:=a.eval x }) wr g q H
    (by rw[Sn ES j _ A];exact V)
   refine .heap fx ?_ (.inr ⟨rfl,rfl⟩) c1 (c2 _ _) (LV.of_VR (.tup .nil));simp[execOp,ho,hMv,hSv,Instr.entryStore,pn H,asInt,asIntOf,D,Er _ H]
  cases d
 cases d
theorem az9(q:o.op=.range t x)(wr:WR G s.heap w)(fx:cy G s.heap B fr a.tmps w)(g:((evc fr.env x).bind λx=>gj (tU P mk t x s) fr.loc)=X (v,loc',s'))(z:∀n,s.aL<=n->n<s'.aL->G.at_ n=Z):
 fG P G s.heap w B fr.loc s.aL s'.aL a o v loc' s'.heap:=by
 simp only[an]at g;obtain⟨xv,hx,g⟩:=g;simp only[gj,an]at g;obtain⟨⟨v1,R⟩,g,hq⟩:=g;simp only[aR,bu]at hq;obtain⟨rfl,rfl,rfl⟩:=hq;have V:=(fx.evc hx).1;simp only[tU,an]at g;obtain⟨d,hd,g⟩:=g;have fin:∀(m:pb)(A:pb)(c:Nat),YF G m A->v1=.ptr s.aL 0->R=s.new (.iter m c [] c)->
  (execOp a.eval o).run P w=.ok (.value (.pointer (X ⟨w.heap.size,0,Z⟩))) (w.alloc (.mapIter A c #[] c))->fG P G s.heap w B fr.loc s.aL R.aL a o v1 fr.loc R.heap:=by
  rintro m A c hm rfl rfl D;have F:G.at_ s.aL=Z:=z s.aL (aD _) (by simp[St.new]);obtain⟨N,h2⟩:=wr.fresh (.mapIter A c #[] c);have U:¬eJ G s.heap w.heap.size:=λq=>bJ _ (wr.owned_lt q);have h3:=N.named (n:=s.aL) (a:=⟨w.heap.size,0,Z⟩) (o:=.iter m c [] c) F (by simp) rfl U
   ⟨rfl,A,by rw[mM,iP rfl],hm⟩
   (λi v S=>absurd (wr.ro_lt S) (bJ _))
  have K:=h2 s.aL (s.aL+1);refine .heap fx D (.inl rfl) h3 ⟨K.le.trans (Gh.name_le _ _ F),K.size,K.keepW,?_,?_,?_,K.quiet,λb M q=>(Ed q).elim (λe=>absurd (e▸M) (bJ _)) λo=>o⟩ (LV.of_VR (by simpa using VR.ptr (G:=G.name s.aL ⟨w.heap.size,0,Z⟩) (n:=s.aL) (off:=0) (a:=⟨w.heap.size,0,Z⟩) (by simp[Gh.name])));intro b M q;rcases Ee q with rfl|q<;>grind
  grind [Gh.name,St.new]
  intro b o' u M S h0;exact K.cells b o' u M S h0
 generalize hXv:a.eval x=X_ at V;split at g
 ·split at g
  simp only[aR,bu]at g;cases V;exact fin Z Z 0 trivial g.1.symm g.2.symm (by simp[execOp,q,hXv,Instr.range,cZ hd])
  ·rename_i m
   simp only[an]at g;obtain⟨ob,T,g⟩:=g;split at g
   ·simp only[aR,bu]at g
    cases V with
    |map H=>
    rename_i ad;obtain⟨a0,ES,N,h2,h3,h4⟩:=xD wr T;rw[H]at N;cases N;exact fin (X m) (X ad.block) _ ⟨ad,H,rfl⟩ g.1.symm g.2.symm (by simp[execOp,q,hXv,Instr.range,cZ hd,pn h3])
   cases g
  cases g
 cases g
theorem acX(a b:Nat):aB a b=(a==b):=by
 grind [CP,fD]
theorem tG(a b:Nat):aP a b=decide (a<=b):=by
 grind [Nat.ble_eq_true_of_le,jE]
def ahH(h:gu G es ms)(d:Nat):ms.all (λe=>decide (e.born≥d))=es.all (λe=>aP d e.born):=by
 induction h with
 |nil=>rfl
 |cons a b g=>simp only[pD,g,tG,a.born]
def aGq{seen:be}(h:gu G es ms):gu G (lL seen es) (ms.filter λe=> !(⟨seen⟩:Q2).contains e.born):=by
 induction h with
 |nil=>exact .nil
 |cons a b g=>
  rename_i e m es ms;have u:seen.any (aB e.born)=(⟨seen⟩:Q2).contains m.born:=by
   rw[a.born];have:∀l:be,l.any (aB m.born)=(⟨l⟩:Q2).contains m.born:=by
    intro l;have q:(⟨l⟩:Q2).contains m.born=l.contains m.born:=by simp
    rw[q];clear q
    induction l with
    |nil=>rfl
    |cons y l d=>
     simp only[List.any_cons,List.contains_cons,d,acX]
   exact this seen
  unfold lL at g⊢;simp only[List.filter_cons,u];split;exact .cons a g;exact g
theorem anl(h:gu G es ms)(g:es.all (λe=>bC e.born since)=O):
 ms.filter (λe=>decide (e.born<since))=ms/\ms.filter (λe=>decide (e.born≥since))=[]:=by
 induction h with
 |nil=>exact⟨rfl,rfl⟩
 |cons a b q=>
  rename_i e m es ms;simp only[pD,bh]at g;obtain⟨z,u⟩:=q g.2;have d:=oS g.1;rw[a.born]at d
  grind
noncomputable def jZ(mk:aK)(it:aa)(s:St):Nat:=
 match it with
 |.ptr n _=>match s.get mk n with
   |some (.iter (X m) _ seen _)=>match s.get mk m with
    |some (.map es _)=>(lL seen es).length
    |_=>0
   |_=>0
 |_=>0
theorem az6{ch:cE}{kmax:cE}{z:Bool}{xv:aa}(ho:o.op=.next x z)(wr:WR G s.heap w)(fx:cy G s.heap B fr a.tmps w)(hx:evc fr.env x=X xv)(g:gj (oz mk ch kmax xv z s) fr.loc=X (v,loc',s'))(a7:2<=jZ mk xv s->ch s.ci % jZ mk xv s=(w.tape w.drawn (.mapNext (jZ mk xv s))) % jZ mk xv s):
 fG P G s.heap w B fr.loc lo hi a o v loc' s'.heap:=by
 simp only[gj,an]at g;obtain⟨⟨v1,s1⟩,g,hq⟩:=g;simp only[aR,bu]at hq;obtain⟨rfl,rfl,rfl⟩:=hq;have hX:=(fx.evc hx).1;generalize hXv:a.eval x=X_ at hX;unfold oz at g;split at g
 ·rename_i n
  simp only[an]at g;obtain⟨ob,a1,g⟩:=g;cases hX with
  |ptr a9=>
  rename_i ad;obtain⟨c6,a6,c4,a3⟩:=wr.obj n _ (iz a1);rw[a9]at a6;cases a6;split at g
  ·replace g:=fP g
   rcases g with⟨_,g⟩|⟨F,g⟩
   cases g
   ·obtain⟨h0,m',D,hm⟩:=a3
    cases m' with
    |some _=>exact hm.elim
    |none=>
     simp only[aR,bu]at g;obtain⟨rfl,rfl⟩:=g;refine .pure wr fx (y:=.tuple #[.bool I]) ?_ (LV.of_VR (.tup (.cons (.bool _) .nil)));simp[execOp,ho,hXv,h0,Instr.next,HX D,F]
  ·rename_i m since seen q
   replace g:=fP g;rcases g with⟨_,g⟩|⟨F,g⟩
   cases g
   ·obtain⟨h0,m',D,hm⟩:=a3
    cases m' with
    |none=>exact hm.elim
    |some mb=>
     obtain⟨am,b0,rfl⟩:=hm;simp only[an]at g;obtain⟨c3,a4,g⟩:=g;split at g
     ·rename_i es clock
      obtain⟨c5,ES,h1,h2,h3,h4⟩:=xD wr a4;rw[b0]at h1;cases h1;have a2:jZ mk (.ptr n 0) s=(lL seen es).length:=by simp[jZ,a1,a4]
      rw[a2]at a7;replace g:=fP g;rcases g with⟨_,g⟩|⟨b7,g⟩
      cases g
      ·have hL:=aGq (seen:=seen) h4
       have U:(!(⟨seen⟩:Q2).isEmpty&&!ES.isEmpty&&ES.all (λe=>decide (e.born≥q)))=I:=by
        rw[<-b7];have q1:(⟨seen⟩:Q2).isEmpty=seen.isEmpty:=by cases seen<;>rfl
        have q2:ES.isEmpty=es.isEmpty:=by
         cases ES with|mk l=>
         have:=h4.length;cases l<;>cases es<;>first|rfl|simp at this
        have q3:ES.all (λe=>decide (e.born≥q))=es.all (λe=>aP q e.born):=by
         rw[<-ahH h4 q];cases ES with|mk l=>simp
        rw[q1,q2,q3]
       have a8:∀(K:Value->World->Prop),True:=λ_=>trivial;have A:(ES.filter λe=> !(⟨seen⟩:Q2).contains e.born)=⟨ES.toList.filter λe=> !(⟨seen⟩:Q2).contains e.born⟩:=by
        apply pB;simp
       have a0:a.eval x=.pointer (X ⟨ad.block,0,Z⟩):=by rw[hXv,h0]
       generalize hML:(ES.toList.filter λe=> !(⟨seen⟩:Q2).contains e.born)=ML at hL A;generalize hUL:lL seen es=UL at hL g a7;clear a8 hUL;unfold tH at g;split at g
       ·
        simp only[aR,bu]at g;obtain⟨rfl,rfl⟩:=g;cases hL;refine .pure wr fx (y:=.tuple #[.bool I]) ?_ (LV.of_VR (.tup (.cons (.bool _) .nil)));simp only[execOp,ho,a0,Instr.next,Sem.run_bind,HX D,lR,F,pn h3,U,A];simp[Question.forced]
       ·rename_i e r
        replace g:=bf g;obtain⟨b1,g⟩:=g;obtain⟨f1,f2⟩:=anl hL b1;have g1:(⟨ML⟩:Tm).filter (λe=>decide (e.born<since))=⟨ML⟩:=by apply pB;simpa using f1
        have g2:(⟨ML⟩:Tm).filter (λe=>decide (e.born≥since))= #[]:=by apply pB;simpa using f2
        have T:=hL.length;have b6:(⟨ML⟩:Tm).isEmpty=I:=by
         rcases ML with _|⟨_,_⟩
         simp at T;rfl
        have V:((if(⟨ML⟩:Tm).isEmpty=O then #[Z]else #[])++((⟨ML⟩:Tm)++ #[]).map X)=(⟨ML.map X⟩:Array (Option MapEntry)):=by
         rw[b6];apply pB;simp
        have step:∀(j:Nat)(e1:dA)(w1:World),w1.heap=w.heap->li w w1->(e::r)[j]?=X e1->∃M,ML[j]?=X M/\yJ G e1 M/\
         WR G (vT n m since clock seen e1 s).2.heap (cX w1 ad.block (.mapIter (X am.block) since ((⟨seen⟩:Q2).push M.born) clock))/\
         ∀lo hi,ck G s.heap w G (vT n m since clock seen e1 s).2.heap (cX w1 ad.block (.mapIter (X am.block) since ((⟨seen⟩:Q2).push M.born) clock)) lo hi:=by
         intro j e1 w1 R b4 hj;obtain⟨M,S,H⟩:=hL.get hj;refine⟨M,S,H,?_⟩;have b3:=wr.of_heap R;have b8:w1.heap[ad.block]?=X (.mapIter (X am.block) since ⟨seen⟩ q):=by rw[R];exact D
         obtain⟨c1,c2⟩:=b3.changed (o':=.iter (X m) since (seen++[e1.born]) clock) (ob:=.mapIter (X am.block) since ((⟨seen⟩:Q2).push M.born) clock) (iz a1) a9
          ⟨h0,X am.block,by rw[iC _ _ _ _ (ig b8),iP rfl,H.born];congr 2;apply pB;simp,am,b0,rfl⟩
          (λi u hu=>by have:=(wr.apart n _ ad i u (iz a1) a9 hu).1;cases this)
          (λd hd=>by obtain⟨C,e',hC,_⟩:=wr.dim _ d hd;rw[D]at hC;cases hC)
         refine⟨c1,λlo hi=>?_⟩
         have:=c2 lo hi;exact⟨this.le,by rw[<-R];exact this.size,λb D=>by rw[<-R]at D⊢;exact this.keepW b D,λb D=>by rw[<-R]at D;exact this.owns b D,this.names,λb o v D=>by grind,b4.trans this.quiet,λb D=>by rw[<-R]at D;exact this.ownsW b D⟩
        cases r with
        |nil=>
         simp only[aR]at g;obtain⟨M,S,H,c1,c2⟩:=step 0 e w rfl (.refl w) (by simp);have b2:ML=[M]:=by
          rcases ML with _|⟨y,ys⟩
          simp at T
          grind
         have e1:v1=(vT n m since clock seen e s).1:=by rw[g]
         have e2:s1=(vT n m since clock seen e s).2:=by rw[g]
         subst e1;subst e2;refine .heap fx (y:=.tuple #[.bool O,M.key,M.val]) ?_ (.inl rfl) c1 (c2 _ _) (LV.of_VR (.tup (.cons (.bool _) (.cons H.key (.cons H.val .nil)))));subst b2;simp only[execOp,ho,a0,Instr.next,Sem.run_bind,HX D,lR,F,pn h3,U,A,g1,g2,V];simp[Question.forced,aeZ _ D]
        |cons e' r'=>
         replace g:=bf g;obtain⟨_,g⟩:=g;simp only[an]at g;obtain⟨e1,hj,g⟩:=g;simp only[aR,bu]at g;obtain⟨M,S,H,c1,c2⟩:=step _ e1 w.drew rfl ⟨rfl,rfl,aD _,λ_ _=>rfl,rfl,io _⟩ hj;obtain⟨rfl,rfl⟩:=g;have N:J ML=(e::e'::r').length:=T.symm;have b5:¬J ML<=1:=by rw[N];simp
         have a5:(w.tape w.drawn (.mapNext (J ML))) % J ML=ch s.ci % (e::e'::r').length:=by rw[N];exact(a7 (by simp)).symm
         refine .heap fx (y:=.tuple #[.bool O,M.key,M.val]) ?_ (.inl rfl) c1 (c2 _ _) (LV.of_VR (.tup (.cons (.bool _) (.cons H.key (.cons H.val .nil)))));generalize ch s.ci % (e::e'::r').length=J_ at S a5;have c0:w.drew.heap[ad.block]?=X (.mapIter (X am.block) since ⟨seen⟩ q):=D;simp only[execOp,ho,a0,Instr.next,Sem.run_bind,HX D,lR,F,pn h3,U,A,g1,g2,V];simp[Question.forced,Question.cut,b5,a5,S,aeZ _ c0]
     cases g
  cases g
 cases g
def Xd{b:Nat}:∀{es:F0}{e:dA}{ms:Q4},Bi b es=X e->gu G es ms->∃m,ms.find? (λe=>e.born==b)=X m/\yJ G e m
 |[],_,_,h,_=>by simp[Bi]at h
 |e::es,e',_,h,.cons (m:=m) (ms:=ms) he hs=>by
  simp only[Bi]at h;replace h:=fP h;rcases h with⟨d,h⟩|⟨d,h⟩
  cases h;have d:=fD d;exact⟨m,by rw[List.find?_cons_of_pos];rw[<-he.born,d];simp,he⟩;have d:=CP d;obtain⟨g,u,q⟩:=Xd h hs;refine⟨g,?_,q⟩;rw[List.find?_cons_of_neg];·exact u
  rw[<-he.born];simpa using d
def azS(ho:o.op=.entry x)(wr:WR G s.heap w)(fx:cy G s.heap B fr a.tmps w)(d:mq x (λit=>wU mk it s) fr s=X (v,loc',s')):fG P G s.heap w B fr.loc lo hi a o v loc' s'.heap:=by
 simp only[mq,an]at d;obtain⟨xv,hx,d⟩:=d;replace d:=kJ d;obtain⟨d,rfl,rfl⟩:=d;have V:=(fx.evc hx).1;generalize hXv:a.eval x=X_ at V;unfold wU at d;split at d
 ·rename_i n
  simp only[an]at d;obtain⟨ob,M,d⟩:=d;cases V with
  |ptr S=>
  rename_i ad;obtain⟨a3,g,a1,A⟩:=wr.obj n _ (iz M);rw[S]at g;cases g;split at d;rename_i m since seen z;obtain⟨h0,m',hb,U⟩:=A;rcases m' with _|mb
  exact U.elim;obtain⟨am,T,rfl⟩:=U;simp only[an]at d;obtain⟨a0,D,d⟩:=d;split at d;rename_i es clock;obtain⟨a2,ES,h1,h2,h3,h4⟩:=xD wr D;rw[T]at h1;cases h1;replace d:=bf d;obtain⟨hc,d⟩:=d;obtain rfl:=fD hc;simp only[an]at d;obtain⟨b,q,e,R,d⟩:=d;cases d;obtain⟨K,N,H⟩:=Xd R h4;have F:ES.find? (λe=>e.born==b)=X K:=by cases ES with|mk l=>simpa using N
  have u:(⟨seen⟩:Q2).back?=X b:=by
   rw[<-q];simp
  refine .pure wr fx (y:=.tuple #[K.key,K.val]) ?_ (LV.of_VR (.tup (.cons H.key (.cons H.val .nil))));simp[execOp,ho,hXv,h0,Instr.entry,HX hb,u,pn h3,F];cases d;cases d
 cases d
end
theorem cm(h:n<9223372036854775808):IntKind.i64.wrap (Int.ofNat n)=Int.ofNat n:=by
 grind [IntWalk.i64_in]
section
variable{P:Program}{mk:aK}{G:Gh}{s s':St}{B:cE}{fr:Fr}{a:Act}{w:World}{o:Oper}{lo hi:Nat}{v:aa}{loc':Loc}
def Gh.listed(G:Gh)(w:World)(n:Nat)(cs:az)(size:Nat):Gh:=(G.more w.heap.size (λi=>cs[i]?) (X size)).name n ⟨w.heap.size,cs.length,Z⟩
theorem Gh.listed_at(G:Gh)(w:World)(n:Nat)(cs:az)(size:Nat):(G.listed w n cs size).at_ n=X ⟨w.heap.size,cs.length,Z⟩:=by simp[Gh.listed,Gh.name]
def Gh.listed_dim(G:Gh)(w:World)(n:Nat)(cs:az)(size:Nat):(G.listed w n cs size).dim w.heap.size=X size:=by simp[Gh.listed,Gh.name,Gh.more]
def Gh.listed_ro(G:Gh)(w:World)(n:Nat)(cs:az)(size i:Nat):(G.listed w n cs size).ro w.heap.size i=cs[i]? :=by simp[Gh.listed,Gh.name,Gh.more]
theorem WR.listed(x:WR G h w)(D:G.at_ n=Z)(C:gy)(e:TypeId)(cs:az)(R:∀(i:Nat) v,cs[i]?=X v->v.scal=O/\∃y,C[i]?=X y/\VR G v y):
 WR (G.listed w n cs C.size) (h.set n (X .tok)) (w.alloc (.cells C e))/\ck G h w (G.listed w n cs C.size) (h.set n (X .tok)) (w.alloc (.cells C e)) n (n+1):=by
 obtain⟨U,q⟩:=x.alloc (.cells C e) (λi=>cs[i]?) (X C.size) (λi v hi=>by
  obtain⟨K,y,H,z⟩:=R i v hi;exact⟨K,C,e,rfl,y,H,z.mono (x.more_le _ _)⟩) (λd N=>⟨C,e,rfl,by injection N⟩)
 have A:¬eJ (G.more w.heap.size (λi=>cs[i]?) (X C.size)) h w.heap.size:=by
  rintro⟨m,a,M,S,g⟩
  have:=x.below m a S;omega
 have T:=U.named (n:=n) (a:=⟨w.heap.size,cs.length,Z⟩) (o:=.tok) D (by simp) rfl A
  ⟨C,e,by rw[mM,iP rfl]⟩
  (λi v z=>by
   grind [Gh.more])
 refine⟨T,⟨(q 0 0).le.trans (Gh.name_le _ _ D),(q 0 0).size,(q 0 0).keepW,?_,?_,?_,(q 0 0).quiet,λb g u=>(Ed u).elim (λe=>absurd (e▸g) (bJ _)) ((q 0 0).ownsW b g)⟩⟩;intro b g u;rcases Ee u with rfl|u
 exact absurd g (bJ _);exact(q 0 0).owns b g u;intro m a M F
 simp_all [Gh.listed,Gh.name,Gh.more]
 intro b o v g z F;exact(q 0 0).cells b o v g z F
theorem az3{l c:Operand}(ho:o.op=.makeSlice t l c)(wr:WR G s.heap w)(fx:cy G s.heap B fr a.tmps w)(d:LU P hint dst t l c fr s=X (v,loc',s'))(F:∀n,s.aL<=n->n<s'.aL->G.at_ n=Z):
 fG P G s.heap w B fr.loc s.aL s'.aL a o v loc' s'.heap:=by
 simp only[LU,an]at d;obtain⟨lv,hl,cv,hc,d⟩:=d;simp only[gj,an]at d;obtain⟨⟨v1,s1⟩,d,hq⟩:=d;simp only[aR,bu]at hq;obtain⟨rfl,rfl,rfl⟩:=hq;simp only[mo,an]at d;obtain⟨E,hE,S,a6,D,a9,d⟩:=d;obtain⟨e,hd,hE⟩:=EB hE;obtain⟨hn,_,hg,K,b2,i,zv,_,hi,a2,a4,M,a8⟩:=uT hE;obtain⟨V,a3⟩:=vz G a4;obtain⟨kl,rfl⟩:=DY a6;obtain⟨kc,rfl⟩:=DY a9;have hL:VR G _ _:=fx.ev hl;have hC:VR G _ _:=fx.ev hc;generalize hLv:a.eval l=L at hL;generalize hCv:a.eval c=C at hC;cases hL;cases hC;replace d:=bf d;obtain⟨g,d⟩:=d;simp only[bh]at g;have h1:=jE g.1.1;have h2:=jE g.1.2;have h3:=jE g.2;obtain⟨R,hR,a1,b0⟩:=HS V.cells D;have hrow:=Ng (zs:=zv.cells) a1 b0;rw[M]at hrow;have A:J R=D*E.n:=by rw[a1,Cn,M]
 have H:(execOp a.eval o).run P w=.ok (.value (.slice (X ⟨w.heap.size,0,Z⟩) S D)) (w.alloc (.cells ⟨R⟩ e)):=by
  have w1:=cm (n:=S) w_;have w2:=cm (n:=D) w_;have t1:¬((D:Int)<0):=w_
  have t2:¬((i.bytes:Int)*(D:Int)>2 ^ 48):=by
   rw[a8];have:((E.b:Int)*(D:Int))=((D*E.b:Nat):Int):=by rw[Nat.mul_comm];simp
   rw[this];omega
  have t3:¬((S:Int)<0):=w_
  have t4:¬((S:Int)>(D:Int)):=w_
  simp only[execOp,ho,hLv,hCv,Instr.makeSlice,Sem.run_bind,cZ hd,lR,asInt,asIntOf,Sem.run_pure,typeInfo,run_program,hi,w1,w2];by_cases T:D*E.n=0;have b1:R=[]:=Iv.1 (by rw[A];exact T);subst b1;have a5:∀(f:Nat->Value),Array.map f (Array.range 0)= #[]:=λf=>by apply pB;simp
  simp[t4,gX hn,T,a5,newRow]
  grind
  simp[t4,gX hn,T,vO hi a2,M,hrow,newRow]
  grind
 have U:=HT (V.scals_cells a3);have a0:∀(i:Nat) u,(eZ E.z.cells S)[i]?=X u->u.scal=O/\∃y,(⟨R⟩:gy)[i]?=X y/\VR G u y:=by
  intro i u hu;have a7:∀(p q:Nat),p<=q->∀(i:Nat) u,(eZ E.z.cells p)[i]?=X u->(eZ E.z.cells q)[i]?=X u:=by
   intro p
   induction p with
   |zero=>intro q _ i u hu;simp[eZ]at hu
   |succ p ih=>
    intro q hq i u hu;obtain⟨q,rfl⟩:∃q',q=q'+1:=⟨q-1,w_⟩
    grind [eZ]
  have:=hR.rows (C:=⟨R⟩) (U D) i u (a7 S D h1 i u hu);exact this
 replace d:=fP d;rcases d with⟨T,d⟩|⟨_,d⟩
 simp only[bh]at T;obtain rfl:=fD T.1;simp only[aR,bu]at d;obtain⟨rfl,rfl⟩:=d;have N:G.at_ s.aL=Z:=F s.aL (aD _) (by simp[St.new]);obtain⟨c1,c2⟩:=wr.listed N ⟨R⟩ e [] (by simp);refine .heap fx H (.inl rfl) c1 c2 (LV.of_VR ?_);exact .list (.inr rfl) K (by simp) (fN _) (by simp[au]) ⟨by grind [Gh.listed_at],R.length,Gh.listed_dim G w s.aL [] (J R),by simp[A]⟩;simp only[aR,bu]at d;obtain⟨rfl,rfl⟩:=d;have N:G.at_ s.aL=Z:=F s.aL (aD _) (by simp[St.new]);obtain⟨c1,c2⟩:=wr.boxed N ⟨R⟩ e _ a0;refine .heap fx H (.inl rfl) c1 c2 (LV.of_VR ?_);exact .arr (Gh.boxed_at G w s.aL _) rfl K (aD _) h1 (.inr ⟨rfl,rfl⟩) (Gh.boxed_dim G w s.aL _) (by simp[A])
end
variable{ty:TypeId}
section
variable{P:Program}{mk:aK}{G:Gh}{s s':St}{B:cE}{fr:Fr}{a:Act}{w:World}{o:Oper}{lo hi:Nat}{v:aa}{loc':Loc}
def aDg{x:aa}{X_:Value}(h:fZ P mk t x s=X v)(q:VR G x X_)(wr:WR G s.heap w):∃y,(yg #[t] ty #[X_]).run P w=.ok y w/\VR G v y:=by
 simp only[fZ,an]at h;obtain⟨d,g,h⟩:=h;split at h;cases h;cases q;exact⟨_,by simp[yg,cZ g,goInt]<;>rfl,.int _ _⟩;cases h;exact⟨_,by simp[yg,cZ g,goInt]<;>rfl,.int _ _⟩;cases h;cases q;exact⟨_,by simp[yg,cZ g,goInt]<;>rfl,.int _ _⟩;cases h;cases q;exact⟨_,by simp[yg,cZ g,goInt]<;>rfl,.int _ _⟩;cases h;cases q;exact⟨_,by simp[yg,cZ g,goInt]<;>rfl,.int _ _⟩;cases h;cases q;exact⟨_,by simp[yg,cZ g,goInt]<;>rfl,.int _ _⟩
 ·simp only[an]at h
  obtain⟨H,u,h⟩:=h;split at h
  ·cases h
   cases q with
   |map z=>
   obtain⟨ad,ES,A,K,F,D⟩:=xD wr u;rw[z]at A;cases A;refine⟨.int .i64 ES.size,by simp[yg,cZ g,pn F,goInt],?_⟩
   have:=D.length;rw[this];simpa using VR.int (G:=G) .i64 (ES.size:Int)
  cases h
 cases h
theorem aeY{isMax:Bool}(w:World):∀{l:az}{x v:aa}{X_:Value}{L:er},tD isMax x l=X v->VR G x X_->bO G l L->
 ∃y,(L.foldlM (if isMax then Builtin.max2 else Builtin.min2) X_).run P w=.ok y w/\VR G v y:=by
 have R:∀l:oa,(ByteArray.mk ⟨l⟩).toList=l:=λl=>ByteArray.toList_mk l;intro l
 induction l with
 |nil=>
  intro x v X_ L h D g;cases g;unfold tD at h;split at h<;>first
   |(simp at*;done)
   |simp_all
   |(cases h)
 |cons y l u=>
  intro x v X_ L h D g;cases g with
  |cons H g=>
  rename_i Y L;unfold tD at h;split at h;rename_i d;cases d;rename_i k p M q K d;simp only[lP]at d;obtain⟨rfl,rfl⟩:=d;replace h:=bf h;obtain⟨N,h⟩:=h;cases D;cases H;cases isMax;obtain⟨z,A,F⟩:=u h (.int _ _) g
  grind [Builtin.min2,aQ]
  obtain⟨z,A,F⟩:=u h (.int _ _) g
  grind [Builtin.max2,aQ]
  rename_i d;cases d;rename_i p q K d;simp only[lP]at d;obtain⟨rfl,rfl⟩:=d;cases D;cases H;cases isMax;obtain⟨z,A,F⟩:=u h (.str _) g
  grind [Builtin.min2,Op.stringOp,asBool,ab3]
  obtain⟨z,A,F⟩:=u h (.str _) g
  grind [Builtin.max2,Op.stringOp,asBool]
  cases h
end
theorem aEC(s:oa)(l h:Nat):(ByteArray.mk ⟨s⟩).extract l h=ByteArray.mk ⟨(s.take h).drop l⟩:=by
 apply ByteArray.ext
 grind [ByteArray.data_extract]
variable{m:Nat}
section
variable{P:Program}{mk:aK}{G:Gh}{s s':St}{B:cE}{fr:Fr}{a:Act}{w:World}{o:Oper}{lo hi:Nat}{v:aa}{loc':Loc}
def Fe(x:z_)(d n:Nat):Prop:=(x=Z/\n=d)\/∃k,x=X (.int k (.ofNat n))
def lF(fx:cy G s.heap B fr a.tmps w){x:sh}{d:Nat}(h:dK fr.env x d=X n):Fe (x.map a.eval) d n:=by
 rcases x with _|x
 simp[dK]at h;exact .inl ⟨rfl,h.symm⟩;simp only[dK,an]at h;obtain⟨u,q,h⟩:=h;obtain⟨k,rfl⟩:=DY h;have g:VR G _ _:=fx.ev q;generalize hX:a.eval x=X_ at g;cases g;exact .inr ⟨k,by simp[hX]⟩
def HU{isS:Bool}{len l h:Nat}{lv g:z_}(q:Fe lv 0 l)(hh:Fe g len h)(h1:h<=cap)(u:l<=h)(w:World):
 (Instr.sliceBounds isS len cap lv g Z).run P w=.ok (l,h,cap) w:=by
 have A:∀n m:Nat,n<=m->(0<=(Int.ofNat n)/\(Int.ofNat n)<=(m:Int)):=λn m d=>⟨Int.natCast_nonneg n,Int.ofNat_le.2 d⟩;rcases q with⟨rfl,rfl⟩|⟨k,rfl⟩<;>rcases hh with⟨rfl,rfl⟩|⟨z,rfl⟩<;>
  simp[Instr.sliceBounds,Instr.sliceBound,asIntOf,h1,u]
def Ts{len l h:Nat}{lv d mv:z_}(u:Fe lv 0 l)(hh:Fe d len h)(q:∃k,mv=X (.int k (.ofNat m)))(g:d.isSome=O)(A:m<=cap)(h1:h<=m)(z:l<=h)(w:World):
 (Instr.sliceBounds O len cap lv d mv).run P w=.ok (l,h,m) w:=by
 obtain⟨D,rfl⟩:=q;rcases hh with⟨rfl,rfl⟩|⟨F,rfl⟩
 simp at g;rcases u with⟨rfl,rfl⟩|⟨k,rfl⟩<;>simp[Instr.sliceBounds,Instr.sliceBound,asIntOf,A,h1,z]
theorem anx(q:∀x∈xs,J x.cells=sz){h l:Nat}(H:h<=J xs)(F:l<=h):
 ∀(i:Nat) u,(au ((xs.take h).drop l))[i]?=X u->(au xs)[l*sz+i]?=X u:=by
 have D:∀(l:Nat)(xs:az),(∀x∈xs,J x.cells=sz)->au (xs.drop l)=(au xs).drop (l*sz):=by
  intro l
  induction l with
  |zero=>intro xs _;simp
  |succ l d=>
   intro xs z;rcases xs with _|⟨x,xs⟩
   simp[au];simp only[List.drop_succ_cons,au];rw[d xs (λy g=>z y (by simp[g])),jR,Nat.add_comm,<-List.drop_drop,List.drop_append_of_le_length (by grind)]
   grind
 have K:∀(xs ys:az),au (xs++ys)=au xs++au ys:=by
  intro xs ys
  induction xs with
  |nil=>simp[au]
  |cons x xs d=>simp[au,d]
 intro i u A;rw[D l _ (λy g=>q y (wh g)),qH]at A
 grind [wq]
theorem aAa{a7 U K:sh}(ho:o.op=.slice t x a7 U K)(wr:WR G s.heap w)(fx:cy G s.heap B fr a.tmps w)(g:mq x (λx=>eH P mk t x a7 U K fr.env s) fr s=X (v,loc',s')):fG P G s.heap w B fr.loc lo hi a o v loc' s'.heap:=by
 simp only[mq,an]at g;obtain⟨xv,hx,g⟩:=g;replace g:=kJ g;obtain⟨g,rfl,rfl⟩:=g;have hX:=(fx.evc hx).1;generalize hXv:a.eval x=X_ at hX;simp only[eH,an]at g;obtain⟨d,hd,g⟩:=g;split at g;split at g;rename_i bs;simp only[an]at g;obtain⟨h,hh,l,M,g⟩:=g;replace g:=bf g;obtain⟨q,g⟩:=g;simp only[bh]at q;cases g;cases hX;refine .pure wr fx (y:=.string ⟨⟨(bs.take h).drop l⟩⟩) ?_ (LV.of_VR (.str _));have H:=HU (P:=P) (isS:=I) (cap:=J bs) (lF fx M) (lF fx hh) (jE q.2) (jE q.1) w;have S:(ByteArray.mk ⟨bs⟩).size=J bs:=rfl
 simp_all [execOp,Instr.sliceAt,Instr.slice,cZ,aEC]
 cases g
 ·rename_i e
  simp only[an]at g;obtain⟨n,V,g⟩:=g;split at g;simp only[an]at g;obtain⟨h,hh,l,M,m,hm,g⟩:=g;replace g:=bf g;obtain⟨q,g⟩:=g;simp only[bh]at q;have R:=q.2;obtain rfl:=fD q.1.1.1;obtain rfl:=fD q.1.1.2;obtain rfl:=fD q.1.2;cases g;cases hX;refine .pure wr fx (y:=.slice Z 0 0) ?_ (LV.of_VR .uP);rcases K with _|mx
  have H:=HU (P:=P) (isS:=O) (cap:=0) (lF fx M) (lF fx hh) (aD _) (aD _) w;simp[execOp,ho,hXv,Instr.sliceAt,Instr.slice,cZ hd,H,gX V];have b3:=lF fx hm;rcases b3 with⟨h0,_⟩|⟨km,N⟩
  cases h0;rcases U with _|hx
  simp at R;have H:=Ts (P:=P) (cap:=0) (lF fx M) (lF fx hh) ⟨km,N⟩ rfl (aD _) (aD _) (aD _) w;simp only[kL]at H;simp[execOp,ho,hXv,Instr.sliceAt,Instr.slice,cZ hd,H,gX V]
  ·rename_i sz xs r
   simp only[an]at g;obtain⟨h,hh,l,M,g⟩:=g;replace g:=bf g;obtain⟨q,g⟩:=g;simp only[bh]at q;obtain rfl:=fD q.1.1;have D:=jE q.1.2;have b1:=jE q.2;cases hX with
   |list T z S a4 c2 hr=>
   rename_i ad cap;obtain⟨b,off,sp⟩:=ad;have a2:0<cap->sp=Z:=λh0=>by
    grind
   have F:((xs.take h).drop l).length=h-l:=by simp;omega
   have a3:∀y∈(xs.take h).drop l,J y.cells=sz:=λy hy=>S y (wh (oK hy));have b8:∀(i:Nat) u,(au ((xs.take h).drop l))[i]?=X u->G.ro b (off+l*sz+i)=X u:=λi u hu=>by
    rw[sE];exact c2 _ _ (anx S b1 D i u hu)
   split at g;cases g;have H:=HU (P:=P) (isS:=O) (cap:=cap) (lF fx M) (lF fx hh) w_ D w;refine .pure wr fx (y:=.slice (X (if cap=l then⟨b,off,sp⟩else⟨b,off+l*sz,Z⟩)) (h-l) (cap-l)) ?_ (LV.of_VR ?_);by_cases A:cap=l;subst A;simp[execOp,ho,hXv,Instr.sliceAt,Instr.slice,cZ hd,H,gX V];obtain rfl:=a2 w_;simp[execOp,ho,hXv,Instr.sliceAt,Instr.slice,cZ hd,H,gX V,A,oP];rw[<-F];refine .list (by grind) z a3 (by rw[F];omega) ?_ ?_
   grind [au]
   rw[F];cases hcnd:(aB h (J xs)&&(bC l h||aB l 0))
   trivial
   simp only[bh,Az]at hcnd;have b6:=fD hcnd.1;simp only[cT];cases r with
   |Al=>simp only[Fm]at hr⊢;omega
   |no=>trivial
   |own k=>
    obtain⟨hk,dm,a0,a9⟩:=hr;simp only at a9;have b2:l<h\/l=0:=hcnd.2.imp oS fD;have c0:(l=0/\(if cap=l then(⟨b,off,sp⟩:Addr)else⟨b,off+l*sz,Z⟩)=⟨b,off,sp⟩)\/(if cap=l then(⟨b,off,sp⟩:Addr)else⟨b,off+l*sz,Z⟩)=⟨b,off+l*sz,Z⟩:=by
     rcases b2 with q|rfl
     exact .inr (by rw[iN w_])
     grind
    rcases c0 with⟨rfl,b0⟩|b0
    rw[b0];subst b6;exact⟨by simpa using hk,dm,a0,by simpa using a9⟩;rw[b0];subst b6;refine⟨?_,dm,a0,?_⟩;rw[hk];congr 2;simp only;have:J xs*sz=l*sz+(J xs-l)*sz:=by rw[<-qN];congr 1;omega
    omega;simp only;have:cap*sz=l*sz+(cap-l)*sz:=by rw[<-qN];congr 1;omega
    omega
   simp only[an]at g;obtain⟨m,hm,g⟩:=g;replace g:=bf g;obtain⟨a8,g⟩:=g;simp only[bh]at a8;obtain rfl:=fD a8.1;cases g;have b3:=lF fx hm;rcases b3 with⟨h0,_⟩|⟨km,N⟩
   cases h0;have H:=Ts (P:=P) (cap:=cap) (lF fx M) (lF fx hh) ⟨km,N⟩ (by simpa using a8.2) w_ (aD _) D w;simp only[kL]at H;refine .pure wr fx (y:=.slice (X (if m=l then⟨b,off,sp⟩else⟨b,off+l*sz,Z⟩)) (m-l) (m-l)) ?_ (LV.of_VR ?_);by_cases A:m=l;subst A;simp[execOp,ho,hXv,Instr.sliceAt,Instr.slice,cZ hd,H,gX V];obtain rfl:=a2 w_;simp[execOp,ho,hXv,Instr.sliceAt,Instr.slice,cZ hd,H,gX V,A,oP];rw[<-F];refine .list (by grind) z a3 (aD _) ?_ rfl
   grind [au]
  ·rename_i sz n' off len b4
   simp only[an]at g;obtain⟨h,hh,l,M,c,hm,g⟩:=g;replace g:=bf g;obtain⟨q,g⟩:=g;simp only[bh]at q;obtain rfl:=fD q.1.1.1.1;have D:=jE q.1.1.1.2;have c6:=jE q.1.1.2;have A:=jE q.1.2;have R:=q.2;cases g;cases hX with
   |arr a1 T z F a4 c8 b7 a9=>
   rename_i ad bd cap dm;obtain⟨b,a6,sp⟩:=ad;simp only at T;subst T;obtain⟨top,ht,c1,H⟩:∃top,c<=top/\top<=cap/\(Instr.sliceBounds O len cap (a7.map a.eval) (U.map a.eval) (K.map a.eval)).run P w=.ok (l,h,top) w:=by
    rcases K with _|mx
    have e:c=b4:=by simp only[dK,aR]at hm;exact hm.symm
    subst e;exact⟨cap,a4,aD _,HU (P:=P) (isS:=O) (cap:=cap) (lF fx M) (lF fx hh) w_ D w⟩;rcases lF fx hm with⟨h0,_⟩|⟨km,N⟩
    cases h0;exact⟨c,aD _,w_,Ts (P:=P) (cap:=cap) (lF fx M) (lF fx hh) ⟨km,N⟩ (by simpa using R) w_ c6 D w⟩
   refine .pure wr fx (y:=.slice (X (if top=l then⟨b,a6,Z⟩else⟨b,a6+l*sz,Z⟩)) (h-l) (top-l)) ?_ (LV.of_VR ?_);by_cases A:top=l;subst A;simp[execOp,ho,hXv,Instr.sliceAt,Instr.slice,cZ hd,H,gX V];simp[execOp,ho,hXv,Instr.sliceAt,Instr.slice,cZ hd,H,gX V,A,oP];have b5:top*sz=l*sz+(top-l)*sz:=by rw[<-qN];congr 1;omega
   have c5:top*sz<=cap*sz:=kX _ c1;refine .arr a1 (by split<;>rfl) z w_ w_ ?_ b7 w_
   grind
  cases g
 ·rename_i len e
  simp only[an]at g;obtain⟨n,V,g⟩:=g;split at g
  ·rename_i m off
   simp only[an]at g;obtain⟨h,hh,l,M,ob,c3,g⟩:=g;split at g
   ·rename_i cs
    replace g:=bf g;obtain⟨q,g⟩:=g;simp only[bh]at q;have D:=jE q.1.1.1.1;have b1:=jE q.1.1.1.2;have c4:0<len*n:=oS q.1.2;have z:0<n:=Nat.pos_of_mul_pos_left c4;have c9:=jE q.2;cases K with
    |some _=>simp at q
    |none=>
    cases g;cases hX with
    |ptr a1=>
    rename_i ad;obtain⟨d1,a5,T,C,ty,H,a0,c7⟩:=wr.obj m _ (iz c3);rw[a1]at a5;cases a5;have d0:=HU (P:=P) (isS:=I) (cap:=len) (lF fx M) (lF fx hh) b1 D w;have S:ad.off+J cs<=C.size\/J cs=0:=by
     rcases Nat.eq_zero_or_pos (J cs)with h0|h0
     exact .inr h0;obtain⟨_,y,hy,_⟩:=c7 (J cs-1) cs[J cs-1] (dp w_)
     grind
    have b5:len*n=l*n+(len-l)*n:=by rw[<-qN];congr 1;omega
    refine .pure wr fx (y:=.slice (X (if len=l then⟨ad.block,ad.off+off,Z⟩else⟨ad.block,ad.off+off+l*n,Z⟩)) (h-l) (len-l)) ?_ (LV.of_VR ?_)
    simp_all [execOp,Instr.sliceAt,cZ,Instr.sureAddr,gX,oP]
    refine .arr a1 (by split<;>rfl) z w_ (aD _) ?_ a0 w_
    grind
   cases g
  cases g
 cases g
end
variable{CY:gy}{mu:Bool}{need:Nat}{base:v_}{s2:St}{et t2:TypeId}{x:aa}
section
variable{P:Program}{mk:aK}{G:Gh}{s s':St}{B:cE}{fr:Fr}{a:Act}{w:World}{o:Oper}{lo hi:Nat}{v:aa}{loc':Loc}
def VR.slice_len{X_:Value}(h:VR G x X_)(d:rF x=O):∃b n c,X_=.slice b n c:=by
 cases h<;>first|(simp[rF]at d;done)|exact⟨_,_,_,rfl⟩
theorem HV{g:Bool}{ys:az}(hg:g=I->n=1)(a4:0<n)(h:cR mk g n y s=X ys)(S:VR G y Y)(wr:WR G s.heap w):
 ∃C:gy,(∀w':World,w'.heap=w.heap->(yf Y).run P w'=.ok (J ys) w'/\∀k,k<=J ys->(qG n k Y).run P w'=.ok ⟨C.toList.take (k*n)⟩ w')/\bO G (au ys) C.toList/\dq (au ys)=O/\∀u∈ys,J u.cells=n:=by
 unfold cR at h;split at h;injection h with h;subst h;cases S
 refine⟨#[],λw' q=>⟨by simp[yf],λk K=>?_⟩,.nil,rfl,by simp⟩;obtain rfl:k=0:=by simpa using K
 simp[qG]
 ·rename_i sz xs r
  replace h:=bf h;obtain⟨z,h⟩:=h;obtain rfl:=fD z;injection h with h;subst h
  cases S with
  |list A hp hm N U hr=>
  rename_i ad cap;obtain⟨b,off,sp⟩:=ad;have a2:0<cap->sp=Z:=λh0=>by
   grind
  obtain⟨vs,R,h2,h3⟩:=Tp (G:=G) (cs:=au xs) (f:=λi=>w.cell? ⟨b,off+i,Z⟩) (λi u F=>wr.ro _ _ _ (U i u F));refine⟨⟨vs⟩,λw' q=>⟨by simp[yf],λk K=>?_⟩,R,h2,hm⟩;have D:∀ad,w'.cell? ad=w.cell? ad:=λad=>by simp[World.cell?,q]
  have H:(vs.take (k*sz)).length=k*sz:=by
   rw[jw,<-R.length,nC hm];exact Nat.min_eq_left (kX _ K)
  grind [run_loadCells_list,oP,qG]
 ·rename_i sz m off len a1
  replace h:=bf h;obtain⟨z,h⟩:=h;obtain rfl:=fD z;simp only[an]at h;obtain⟨ob,V,h⟩:=h;split at h
  ·rename_i cs
   simp only[an]at h;obtain⟨c,hc,h⟩:=h;cases S with
   |arr a0 A hp H N a6 a5 a9=>
   rename_i ad bd cap dm;obtain⟨b,a7,sp⟩:=ad;simp only at A;subst A;obtain⟨b0,d,a3,C,ty,hb,_,M⟩:=wr.obj m _ (iz V);rw[a0]at d;injection d with d;subst d
   have T:dq c=O:=by
    simp only[dq,fK];intro u F;obtain⟨i,hi⟩:=qI.1 F;exact(M _ u (FJ hc hi)).1
   obtain⟨c1,c2,c3⟩:=CW hg h T;obtain⟨vs,R,h2,h3⟩:=Tp (G:=G) (cs:=c) (f:=λi=>w.cell? ⟨bd.block,bd.off+off+i,Z⟩) (λi u F=>by
    obtain⟨q1,y,S,q2⟩:=M _ u (FJ hc F)
    grind [kj])
   refine⟨⟨vs⟩,λw' q=>⟨by simp[yf,c1],λk K=>?_⟩,by rw[c2];exact R,by rw[c2];exact h2,c3⟩;have D:∀ad,w'.cell? ad=w.cell? ad:=λad=>by simp[World.cell?,q]
   rw[c1]at K;have a8:J vs=len*sz:=by rw[<-R.length];exact(C7 hc).2
   grind [jw,kX,qG,run_loadCells_list,oP]
  cases h
 cases h
theorem XG(d:Nat):∀(r c:Nat),Builtin.growBy d r c<=max c (d+(d+768) / 4)
 |0,c=>by simp[Builtin.growBy];omega
 |r+1,c=>by
  unfold Builtin.growBy;split;omega
  have:=XG d r (c+(c+768) / 4);omega
theorem ayw(h:cap<need):Nm need cap<=need*2+1024:=by
 grind [Nm,XG]
def Tk(h:eE need b=O)(d:cap<need):¬Nm need cap*b>2 ^ 48:=by
 have q:=jE h;have g:=ayw d;have:Nm need cap*b<=(need*2+1024)*b:=kX _ g;omega
def aCK(h:eE need b=O)(d:0<b):need<2 ^ 47:=by
 have g:=jE h;have:need*2+1024<=(need*2+1024)*b:=Nat.le_mul_of_pos_right _ d;omega
theorem aC7(hd:P.underlying t=X (.slice e))(hE:wT P e=X E)(g:lB P t2=O){len k:Nat}{CX:gy}(hk:∀w':World,w'.heap=w.heap->(yf Y).run P w'=.ok k w')(hX:∀w':World,w'.heap=w.heap->(qG E.n len (.slice base len cap)).run P w'=.ok CX w')(hY:∀w':World,w'.heap=w.heap->(qG E.n k Y).run P w'=.ok CY w')(hn:cap<len+k)(T:eE (len+k) E.b=O)(hx:CX.size=len*E.n)(hy:CY.size=k*E.n):
 ∃(newCap:Nat)(R:gy),len+k<=newCap/\R.size=newCap*E.n/\(∀i:Nat,i<(len+k)*E.n->R[i]?=(CX++CY)[i]?)/\
  (qF #[t,t2] ty #[.slice base len cap,Y]).run P w=.ok (.slice (X ⟨w.heap.size,0,Z⟩) (len+k) newCap) (w.drew.alloc (.cells R e)):=by
 obtain⟨D,_,hg,U,a1,i,zv,M,hi,z,a0,A,K⟩:=uT hE;have q:=Tk T hn;have V:=aCK T M
 let newCap:=(Question.appendCap (len+k) cap e).cut (w.tape w.drawn (.appendCap (len+k) cap e))
 have F:len+k<=newCap:=by simp only[newCap,Question.cut];omega
 refine⟨newCap,CX++CY++AE zv.cells (newCap-(len+k)),F,?_,?_,?_⟩;simp only[Ip,hx,hy,AE,Array.size_map,Array.size_range,A];rw[<-qN,<-qN];congr 1;omega
 grind
 have d:∃u,P.underlying t2=X (.slice u):=by
  unfold lB at g;split at g;rename_i u h;exact⟨u,h⟩;cases g
 obtain⟨u,d⟩:=d;have H:¬len+k<=cap:=w_
 have S:=hX w.drew rfl;have N:=hY w.drew rfl;simp[qF,cZ hd,gX D,cZ d,hk w rfl,H,typeInfo,hi,K,q,Question.forced,S,N,vO hi z,newRow]
 grind
def Tr(U:P.underlying t=X (.slice e))(hE:wT P e=X E)(g:lB P t2=O){len k:Nat}(R:(yf Y).run P w=.ok k w)(hY:(qG E.n k Y).run P w=.ok CY w)(N:len+k<=cap)(hb:w.heap[b]?=X (.cells C et (0,0)))(z:off+len*E.n+CY.size<=C.size)(u:∀y∈CY.toList,y.oneCell'=O):
 (qF #[t,t2] ty #[.slice (X ⟨b,off,Z⟩) len cap,Y]).run P w=.ok (.slice (X ⟨b,off,Z⟩) (len+k) cap) (cX w b (.cells (eN C (off+len*E.n) CY.toList) et (0,0))):=by
 obtain⟨D,_,hg,F,T,i,zv,V,hi,H,M,K,S⟩:=uT hE;have d:∃A,P.underlying t2=X (.slice A):=by
  unfold lB at g;split at g;rename_i A h;exact⟨A,h⟩;cases g
 obtain⟨A,d⟩:=d;have q:=HZ (P:=P) b (off+len*E.n) et CY.toList 0 w C hb (by simpa using z) u;simp only[oL]at q;simp[qF,cZ U,gX D,cZ d,R,N,hY,oP,q]
def aC8(R:P.underlying t=X (.slice e))(U:wT P e=X E)(g:lB P t2=O){len:Nat}(K:(yf Y).run P w=.ok 0 w)(T:(qG E.n 0 Y).run P w=.ok #[] w)(H:len<=cap):
 (qF #[t,t2] ty #[.slice base len cap,Y]).run P w=.ok (.slice base len cap) w:=by
 obtain⟨u,_,hg,z,N,i,V,S,hi,A,F,D,M⟩:=uT U;have d:∃q,P.underlying t2=X (.slice q):=by
  unfold lB at g;split at g;rename_i q h;exact⟨q,h⟩;cases g
 obtain⟨q,d⟩:=d;cases base<;>simp[qF,cZ R,gX u,cZ d,K,H,T,storeCells]
theorem mQ(xs ys:az):au (xs++ys)=au xs++au ys:=by
 induction xs with
 |nil=>simp[au]
 |cons x xs d=>simp[au,d]
def VR.cap_le{b:v_}(h:VR G x (.slice b n c)):n<=c:=by
 cases h<;>omega
def axz{zs:az}{K:aa}{s1:St}{newCap:Nat}{R:gy}(q:0<E.n)(wr:WR G s2.heap w)(d:iq E mu zs s2=X (K,s1))(D:G.at_ s2.aL=Z)(M:∀z∈zs,J z.cells=E.n)(u:J zs<=newCap)(S:R.size=newCap*E.n)(N:∀(i:Nat) v,(au zs)[i]?=X v->v.scal=O/\∃y,R[i]?=X y/\VR G v y):
 s1.aL=s2.aL+1/\∃G',WR G' s1.heap (w.drew.alloc (.cells R e))/\ck G s2.heap w G' s1.heap (w.drew.alloc (.cells R e)) s2.aL (s2.aL+1)/\VR G' K (.slice (X ⟨w.heap.size,0,Z⟩) (J zs) newCap):=by
 have A:WR G s2.heap w.drew:=wr.of_heap rfl;have g:∀{G' h'},ck G s2.heap w.drew G' h' (w.drew.alloc (.cells R e)) s2.aL (s2.aL+1)->ck G s2.heap w G' h' (w.drew.alloc (.cells R e)) s2.aL (s2.aL+1):=
  λx=>⟨x.le,x.size,x.keepW,x.owns,x.names,x.cells,li.trans (⟨rfl,rfl,aD _,λ_ _=>rfl,rfl,io _⟩:li w w.drew) x.quiet,x.ownsW⟩
 simp only[iq]at d;replace d:=bf d;obtain⟨_,d⟩:=d;replace d:=fP d;rcases d with⟨_,d⟩|⟨_,d⟩
 simp only[aR,bu]at d;obtain⟨rfl,rfl⟩:=d;obtain⟨H,F⟩:=A.boxed D R e (au zs) N;exact⟨rfl,_,H,g F,.arr (Gh.boxed_at G w.drew s2.aL R.size) rfl q (aD _) u (.inr ⟨rfl,rfl⟩) (Gh.boxed_dim G w.drew s2.aL R.size) (by simp[S])⟩;simp only[aR,bu]at d;obtain⟨rfl,rfl⟩:=d;obtain⟨H,F⟩:=A.listed D R e (au zs) N;refine⟨rfl,_,H,g F,.list (.inr rfl) q M u (λi x T=>by rw[dP];exact(Gh.listed_ro G w.drew s2.aL (au zs) R.size i).trans T) ⟨?_,R.size,Gh.listed_dim G w.drew s2.aL (au zs) R.size,by simp[S]⟩⟩;rw[Gh.listed_at,nC M];simp
def Gh.grown(G:Gh)(b d:Nat)(cs:az):Gh where
 at_:=G.at_
 ro c o:=if c=b/\d<=o/\o<d+J cs then cs[o-d]? else G.ro c o
 dim:=G.dim
theorem WR.extend(wr:WR G h w){k g:Nat}(hk:h.get k=X .tok)(M:G.at_ k=X ⟨b,g,Z⟩)(hn:G.at_ n=Z)(hb:w.heap[b]?=X (.cells C et (0,0))){cs:az}(hv:bO G cs CY.toList)(hs:dq cs=O)(T:g+CY.size<=C.size):
 WR ((G.grown b g cs).name n ⟨b,g+J cs,Z⟩) ((h.set k Z).set n (X .tok)) (cX w b (.cells (eN C g CY.toList) et (0,0)))/\
 ck G h w ((G.grown b g cs).name n ⟨b,g+J cs,Z⟩) ((h.set k Z).set n (X .tok)) (cX w b (.cells (eN C g CY.toList) et (0,0))) n (n+1):=by
 have S:=ig hb;have a2:J cs=CY.size:=by simpa using hv.length
 have q:∀c,(cX w b (.cells (eN C g CY.toList) et (0,0))).heap[c]?=if c=b then X (.cells (eN C g CY.toList) et (0,0))else w.heap[c]? :=λc=>iC w b c _ S
 have a1:∀i v,G.ro b i=X v->i<g:=λi v hi=>(wr.apart k _ _ i v hk M hi).2;have u:kN G h b:=⟨k,_,_,hk,rfl,M,rfl⟩;have N:eJ G h b:=u.owns;have z:G.le (G.grown b g cs):=⟨λ_ _ e=>e,λc o v e=>by
  grind [Gh.grown],λ_ _ e=>e⟩
 have U:=wr.killed k;have H:¬eJ G (h.set k Z) b:=LH (a:=⟨b,g,Z⟩) wr (by rw[hk];simp) M;have w1:WR (G.grown b g cs) (h.set k Z) (cX w b (.cells (eN C g CY.toList) et (0,0))):=by
  refine⟨?_,U.sep,?_,?_,?_,λm c A=>by simp;exact U.below m c A⟩;intro m ob A;obtain⟨c,K,a0,hr⟩:=U.obj m ob A;refine⟨c,K,a0,(hr.mono z).of_block ?_⟩;rw[q,iN];intro e;exact H ⟨m,c,by rw[A];simp,K,e⟩;intro c i v hi;simp only[Gh.grown]at hi;by_cases hin:c=b/\g<=i/\i<g+J cs;rw[iP hin]at hi;obtain⟨rfl,h1,h2⟩:=hin;obtain⟨q1,y,hy,V⟩:=hv.rows hs _ v hi;refine⟨q1,y,?_,V.mono z⟩;rw[kj (by rw[q,iP rfl]),Aw _ _ _ _ (by simpa using T),iP (by simp;omega)];simpa using hy;rw[iN hin]at hi;obtain⟨q1,y,hy,V⟩:=wr.ro c i v hi;refine⟨q1,y,?_,V.mono z⟩
  grind [Aw,World.cell?]
  intro m ob c i v A K hi;simp only[Gh.grown]at hi;rw[iN]at hi;exact U.apart m ob c i v A K hi;rintro⟨e,_,_⟩;exact H ⟨m,c,by rw[A];simp,K,e⟩;intro c d hd;obtain⟨D,t,hD,a3⟩:=wr.dim c d hd;rw[q];by_cases e:c=b<;>simp_all
 have R:¬eJ (G.grown b g cs) (h.set k Z) b:=H;have w2:=w1.named (n:=n) (a:=⟨b,g+J cs,Z⟩) (o:=.tok) hn (by simp;exact S) rfl R ⟨_,et,by rw[q,iP rfl]⟩ (λi v hi=>by
  grind [Gh.grown])
 refine⟨w2,⟨z.trans (Gh.name_le _ _ hn),by simp,?_,?_,?_,?_,HO w hb rfl rfl,λc K F=>(Ed F).elim (λe=>e▸u) λF=>Ec (show kN G (h.set k Z) c from F)⟩⟩
 grind
 intro c K F;rcases Ee F with rfl|F
 exact N;exact BR (show eJ G (h.set k Z) c from F);intro m c A h0
 simp_all [Gh.name,Gh.grown]
 grind [Gh.name,Gh.grown]
theorem WR.rehome(wr:WR G h w){R:az}{g:Addr}(K:h.get m=X (.cells R))(u:G.at_ m=X g)(U:G.at_ n=Z){C':gy}(N:w.heap[g.block]?=X (.cells C et (0,0)))(S:C'.size=C.size)(M:G.dim g.block=X C.size)(d:ad.block=g.block)(F:ad.spot=Z){cs:az}(V:∀(i:Nat) v,cs[i]?=X v->v.scal=O/\∃y,C'[ad.off+i]?=X y/\VR G v y):
 WR (G.name n ad) ((h.set m Z).set n (X (.cells cs))) (cX w g.block (.cells C' et (0,0)))/\
 ck G h w (G.name n ad) ((h.set m Z).set n (X (.cells cs))) (cX w g.block (.cells C' et (0,0))) n (n+1):=by
 have D:=ig N;have q:kN G h g.block:=⟨m,g,_,K,rfl,u,rfl⟩;have T:eJ G h g.block:=q.owns;have z:∀i,G.ro g.block i=Z:=λi=>by
  rcases hr:G.ro g.block i with _|v
  rfl
  have:=(wr.apart m _ g i v K u hr).1;cases this
 have A:=LH wr (by rw[K];simp) u;have w1:=(wr.killed m).putFree N S A z;have w2:=w1.named (n:=n) (a:=ad) (o:=.cells cs) U (by rw[d];simpa using D) F (by rw[d];exact A)
  ⟨C',et,by rw[d,iC _ _ _ _ D,iP rfl],by rw[d,S];exact M,V⟩ (λi v hi=>by rw[d,z]at hi;cases hi)
 refine⟨w2,⟨Gh.name_le _ _ U,by simp,?_,?_,?_,?_,HO w N rfl rfl,λc V H=>(Ed H).elim (λe=>by rw[e,d];exact q) λH=>Ec H⟩⟩
 all_goals grind [iC,Ee,BR,Gh.name]
def ck.after_kill{lo hi:Nat}(x:ck G (h.set m Z) w G' h' w' lo hi):ck G h w G' h' w' lo hi:=
 ⟨x.le,x.size,λb d g=>x.keepW b d (λo=>g (Ec o)),λb d o=>BR (x.owns b d o),x.names,λb i v d u q=>BR (x.cells b i v d u q),x.quiet,λb d o=>Ec (x.ownsW b d o)⟩
theorem OA{g:Bool}{sz:Nat}(d:g=I->sz=1):∀(n:Nat)(cs:az),J cs=n*sz->∃xs,chunk g sz n cs=X xs
 |0,cs,h=>by
  have:cs=[]:=Iv.1 (by simpa using h);subst this;exact⟨[],rfl⟩
 |n+1,cs,h=>by
  rw[jR]at h;cases hgv:g;have u:=d hgv;subst u;rcases cs with _|⟨c,cs⟩
  simp at h;obtain⟨r,q⟩:=OA d n cs (by simp at h;omega)
  grind [chunk]
  obtain⟨r,q⟩:=OA d n (cs.drop sz) (by simp;omega)
  simp_all [cut,chunk]
theorem aeS{X_:Value}(q:cL P mk t x y mu s=X (v,s'))(a6:lB P t2=O)(hx:VR G x X_)(hy:VR G y Y)(wr:WR G s.heap w)(c6:∀n,s.aL<=n->n<s'.aL->G.at_ n=Z):
 ∃b2 w' G',(qF #[t,t2] ty #[X_,Y]).run P w=.ok b2 w'/\WR G' s'.heap w'/\ck G s.heap w G' s'.heap w' s.aL s'.aL/\VR G' v b2:=by
 simp only[cL,an]at q;obtain⟨E,hE,ys,e7,q⟩:=q;obtain⟨e,hd,hE⟩:=EB hE;obtain⟨f9,_,hg,D,a4,ti,zv,g3,hi,f7,g0,f8,g1⟩:=uT hE;obtain⟨CY,f4,S,V,a8⟩:=HV (P:=P) a4 D e7 hy wr;have K:CY.size=J ys*E.n:=by
  have:=S.length;rw[nC a8]at this;simpa using this.symm
 have hk:∀w':World,w'.heap=w.heap->(yf Y).run P w'=.ok (J ys) w':=λw' h=>(f4 w' h).1;have hY:∀w':World,w'.heap=w.heap->(qG E.n (J ys) Y).run P w'=.ok CY w':=λw' h=>by
  simp_all [nh]
 have a3:∀(mu:Bool)(xs:az)(base:v_)(cap:Nat)(CX:gy)(s2:St)(v1:aa)(s1:St),X_=.slice base (J xs) cap->WR G s2.heap w->s2.aL=s.aL->
  (∀w':World,w'.heap=w.heap->(qG E.n (J xs) (.slice base (J xs) cap)).run P w'=.ok CX w')->bO G (au xs) CX.toList->dq (au xs)=O->(∀u∈xs,J u.cells=E.n)->
  cap<J xs+J ys->iq E mu (xs++ys) s2=X (v1,s1)->G.at_ s.aL=Z->
  s1.aL=s.aL+1/\∃b2 w' G',(qF #[t,t2] ty #[X_,Y]).run P w=.ok b2 w'/\WR G' s1.heap w'/\ck G s2.heap w G' s1.heap w' s.aL (s.aL+1)/\VR G' v1 b2:=by
  intro mu xs base cap CX s2 v1 s1 hX e6 d5 a5 F a0 H T A a2;have M:CX.size=J xs*E.n:=by
   have:=F.length;rw[nC H]at this;simpa using this.symm
  have c3:eE (J xs+J ys) E.b=O:=by
   simp only[iq,bK]at A;exact(bf A).1
  obtain⟨newCap,R,r1,r2,r3,r4⟩:=aC7 (ty:=ty) hd hE a6 hk a5 hY T c3 M K;have d0:bO G (au (xs++ys)) (CX++CY).toList:=by rw[mQ];simpa using F.append S
  have d4:dq (au (xs++ys))=O:=by rw[mQ,ae3,a0,V];rfl
  have d6:∀z∈xs++ys,J z.cells=E.n:=by
   intro z hz;rcases List.mem_append.1 hz with h|h
   exact H z h;exact a8 z h
  obtain⟨q1,G',q2,q3,q4⟩:=axz (e:=e) (newCap:=newCap) (R:=R) D e6 A (by rw[d5];exact a2) d6 (by simpa using r1) r2 (λi u hu=>by
   obtain⟨p1,y,hy,p2⟩:=d0.rows d4 i u hu
   grind)
  rw[d5]at q1 q3;refine⟨q1,_,_,G',by rw[hX];exact r4,q2,q3,by simpa using q4⟩
 split at q
 ·
  replace q:=bf q;obtain⟨e9,q⟩:=q;simp only[aR,bu]at q;obtain⟨rfl,rfl⟩:=q;obtain⟨b,n,c,rfl⟩:=hx.slice_len e9;have h0:CY= #[]:=by
   have:CY.size=0:=by simpa using K
   exact Array.eq_empty_of_size_eq_zero this
  subst h0;exact⟨_,w,G,aC8 hd hE a6 (hk w rfl) (hY w rfl) hx.cap_le,wr,.refl,hx⟩
 ·rename_i y0 yr
  have b4:s'.aL=s.aL+1->G.at_ s.aL=Z:=λh=>c6 s.aL (aD _) w_;generalize hyr:(y0::yr)=yl at*;have b5:0<J yl:=by rw[<-hyr];simp
  clear hyr;unfold fk at q;split at q
  ·
   cases hx;have c4:s'.aL=s.aL+1:=by
    simp only[iq]at q;have h1:=(bf q).2;rcases fP h1 with⟨_,h2⟩|⟨_,h2⟩<;>(simp only[aR,bu]at h2;rw[<-h2.2];rfl)
   obtain⟨q1,b2,w',G',q2,q3,q4,q5⟩:=a3 mu [] Z 0 #[] s v s' rfl wr rfl (λw' _=>by simp[qG]) (by simpa[au]using bO.nil) rfl (by simp) (by simpa using b5) (by simpa using q) (b4 c4)
   grind
  ·
   rename_i sz xs;replace q:=bf q;obtain⟨d1,q⟩:=q;obtain rfl:=fD d1;have c4:s'.aL=s.aL+1:=by
    simp only[iq]at q;have h1:=(bf q).2;rcases fP h1 with⟨_,h2⟩|⟨_,h2⟩<;>(simp only[aR,bu]at h2;rw[<-h2.2];rfl)
   obtain⟨CX,a5,F,a0,H⟩:=HV (P:=P) (mk:=mk) (s:=s) (ys:=xs) (g:=E.g) (n:=E.n) a4 D (by simp[cR]) hx wr;have M:CX.size=J xs*E.n:=by
    have:=F.length;rw[nC H]at this;simpa using this.symm
   cases hx with
   |list b3 hp hm T f1 hr=>
   rename_i ad cap;obtain rfl:cap=J xs:=hr;obtain⟨q1,b2,w',G',q2,q3,q4,q5⟩:=a3 mu xs (X ad) (J xs) CX s v s' rfl wr rfl (λw' h=>by
    have:=(a5 w' h).2 (J xs) (aD _);rwa [nh (by simp[M])]at this) F a0 H w_ q (b4 c4)
   grind
  ·
   rename_i sz xs k;simp only[an]at q;obtain⟨ob,a1,q⟩:=q;split at q
   ·replace q:=bf q
    obtain⟨hc,q⟩:=q;simp only[bh]at hc;obtain rfl:=fD hc.2;simp only[aR,bu]at q;obtain⟨rfl,rfl⟩:=q;have a2:G.at_ s.aL=Z:=b4 rfl;obtain⟨CX,a5,F,a0,H⟩:=HV (P:=P) (mk:=mk) (s:=s) (ys:=xs) (g:=E.g) (n:=E.n) a4 D (by simp[cR]) hx wr;have M:CX.size=J xs*E.n:=by
     have:=F.length;rw[nC H]at this;simpa using this.symm
    cases hx with
    |list b3 hp hm T f1 hr=>
    rename_i ad cap;obtain⟨b,off,sp⟩:=ad;have d2:0<cap->sp=Z:=λh0=>by
     grind
    obtain⟨U,dm,c7,a9⟩:=hr;simp only at U c7 a9;by_cases hfit:J xs+J yl<=cap
    ·
     obtain rfl:=d2 w_;obtain⟨C,et,hC,g4⟩:=wr.dim _ dm c7;have a7:(J xs+J yl)*E.n<=cap*E.n:=kX _ hfit;rw[qN]at a7;obtain⟨c1,c2⟩:=wr.extend (iz a1) U a2 hC S V (by rw[K];omega);refine⟨_,_,_,Tr hd hE a6 (hk w rfl) (hY w rfl) hfit hC (by rw[K];omega) (S.ones V),c1,c2,?_⟩;rw[<-bK];refine .list (.inr rfl) D ?_ (by simpa using hfit) ?_ ⟨?_,dm,?_,a9⟩
     grind
     intro i u hu;rw[mQ]at hu;simp only[Gh.name,Gh.grown];by_cases h1:i<(au xs).length
     grind [nC]
     grind [nC,ip]
     simp only[Gh.name,if_true];rw[nC a8];congr 2
     grind
     exact c7
    ·
     have A:iq E I (xs++yl) (s.put k Z)=X (.list E.n (xs++yl) (.own s.aL),(s.put k Z).new .tok):=by
      simp only[iq,bK,hc.1,cT,cF];rfl
     obtain⟨q1,b2,w',G',q2,q3,q4,q5⟩:=a3 I xs (X ⟨b,off,sp⟩) cap CX (s.put k Z) _ _ rfl (wr.killed k) rfl (λw' h=>by
      simp_all [nh]) F a0 H w_ A a2
     exact⟨b2,w',G',q2,q3,ck.after_kill q4,q5⟩
   cases q
  ·
   rename_i sz m off len c8;simp only[an]at q;obtain⟨ob,a1,q⟩:=q;split at q
   ·rename_i cs
    replace q:=bf q;obtain⟨hc,q⟩:=q;simp only[bh]at hc;obtain rfl:=fD hc.2;have e8:=hx;cases hx with
    |arr U b3 hp f6 T b8 b0 a9=>
    rename_i ad bd cap dm;obtain⟨b,e5,sp⟩:=ad;simp only at b3;subst b3;obtain⟨g5,b7,f5,C,et,hC,b1,e3⟩:=wr.obj m _ (iz a1);rw[U]at b7;cases b7;have g2:dm=C.size:=by rw[b0]at b1;injection b1
    replace q:=fP q;rcases q with⟨b6,q⟩|⟨_,q⟩
    have b6:=fD b6;simp only[aR,bu]at q;obtain⟨rfl,rfl⟩:=q;have a2:G.at_ s.aL=Z:=b4 rfl;by_cases hfit:len+J yl<=cap;rcases b8 with h0|⟨e1,e2⟩
    omega;simp only at e1 e2;subst e1;subst e2;have a7:(len+J yl)*E.n<=cap*E.n:=kX _ hfit;rw[qN]at a7;have N:bd.off+off+len*E.n+J CY.toList<=C.size:=by simp[K];omega
    obtain⟨c1,c2⟩:=wr.rehome (n:=s.aL) (ad:=⟨bd.block,bd.off+off,Z⟩) (C':=eN C (bd.off+off+len*E.n) CY.toList) (cs:=cs.drop off++au yl) (iz a1) U a2 hC (by simp) b1 rfl rfl (λi u hu=>by
     show _/\∃y,(eN C (bd.off+off+len*E.n) CY.toList)[bd.off+off+i]?=X y/\_;rw[Aw _ _ _ _ N];by_cases h1:i<(cs.drop off).length
     grind
     rw[sw w_]at hu;simp only[List.length_drop]at h1 hu;obtain⟨p1,y,hy,p2⟩:=S.rows V _ u hu;have h3:i-(J cs-off)<(au yl).length:=by
      rcases ip (i-(J cs-off)) (au yl).length with h|h
      exact h;simp[sC h]at hu
     rw[nC a8]at h3;rw[iP (by simp[K];omega)];refine⟨p1,y,?_,p2⟩
     grind)
    refine⟨_,_,_,Tr hd hE a6 (hk w rfl) (hY w rfl) hfit hC (by simpa using N) (S.ones V),c1,c2,?_⟩;exact .arr (b:=⟨bd.block,bd.off+off,Z⟩) (by simp[Gh.name]) rfl D (aD _) hfit (.inr ⟨rfl,by simp⟩) (show G.dim bd.block=X dm from b0) (by simpa using a9);have e4:(cs.drop off).length=len*E.n:=by simp;omega
    obtain⟨xs,c9⟩:=OA a4 len (cs.drop off) e4;have f0:dq (cs.drop off)=O:=by
     simp only[dq,fK];intro u hu;obtain⟨i,hi⟩:=qI.1 (oK hu);exact(e3 i u hi).1
    obtain⟨k1,k2,k3⟩:=CW a4 c9 f0;have f3:cR mk E.g E.n (.arr E.n m off len c8) s=X xs:=by
     have e0:cut cs off (len*E.n)=X (cs.drop off):=by
      simp only[cut];have:(cs.drop off).take (len*E.n)=cs.drop off:=nh w_;rw[this,acX];simp only[e4,bS,cT]
     simp[cR,a1,e0,c9]
    obtain⟨CX,a5,F,a0,H⟩:=HV (P:=P) a4 D f3 e8 wr;have M:CX.size=J xs*E.n:=by
     have:=F.length;rw[nC H]at this;simpa using this.symm
    have A:iq E O (xs++yl) (s.put m Z)=X (.arr E.n s.aL 0 (len+J yl) (len+J yl),(s.put m Z).new (.cells (cs.drop off++au yl))):=by
     simp only[iq,bK,k1,hc.1,cT,mQ,k2];rfl
    obtain⟨q1,b2,w',G',q2,q3,q4,q5⟩:=a3 O xs (X ⟨b,e5,Z⟩) cap CX (s.put m Z) _ _ (by rw[k1]) (wr.killed m) rfl (λw' h=>by
     have:=(a5 w' h).2 (J xs) (aD _);rw[nh (by simp[M])]at this;rw[k1]at this⊢;exact this) F a0 H w_ A a2
    exact⟨b2,w',G',q2,q3,ck.after_kill q4,q5⟩;replace q:=bf q;obtain⟨c5,q⟩:=q;have c5:=jE c5;simp only[an]at q;obtain⟨cs',hw,q⟩:=q;simp only[aR,bu]at q;obtain⟨rfl,rfl⟩:=q;rcases b8 with h0|⟨e1,e2⟩
    omega;simp only at e1 e2;subst e1;subst e2;have f2:au yl≠[]:=by
     intro e;have h0:=nC a8;rw[e,bn]at h0
     have:=Nat.mul_pos b5 D;omega
    obtain⟨d7,c0⟩:=xV (base:=bd.off) hw S V f2 e3;have N:bd.off+off+len*E.n+J CY.toList<=C.size:=by rw[sE bd.off];exact d7
    obtain⟨c1,c2⟩:=wr.changed (o':=.cells cs') (ob:=.cells (eN C (bd.off+off+len*E.n) CY.toList) et (0,0)) (iz a1) U
     ⟨_,et,by rw[iC _ _ _ _ (ig hC),iP rfl],by rw[b1];simp,by rw[sE bd.off];exact c0⟩
     (λi u hu=>by have:=(wr.apart m _ bd i u (iz a1) U hu).1;cases this)
     (λd hd=>by rw[b1]at hd;injection hd with hd;exact⟨_,et,rfl,by simpa using hd⟩)
    exact⟨_,_,_,Tr hd hE a6 (hk w rfl) (hY w rfl) w_ hC (by simpa using N) (S.ones V),c1,c2 _ _,.arr U rfl D c5 T (.inr ⟨rfl,rfl⟩) b0 a9⟩
   cases q
  cases q
theorem aDb{X_:Value}(z:rk P mk t x y s=X (v,s'))(hx:VR G x X_)(hy:VR G y Y)(wr:WR G s.heap w):
 ∃c8 w',(ss #[t,t2] ty #[X_,Y]).run P w=.ok c8 w'/\WR G s'.heap w'/\(∀lo hi,ck G s.heap w G s'.heap w' lo hi)/\VR G v c8:=by
 simp only[rk,an]at z;obtain⟨E,hE,ys,a8,z⟩:=z;obtain⟨e,hd,hE⟩:=EB hE;obtain⟨b0,_,hg,H,b4,ti,zv,d5,hi,c9,d1,d0,d4⟩:=uT hE;obtain⟨CY,b8,a9,V,b3⟩:=HV (P:=P) b4 H a8 hy wr;obtain⟨hk,hY⟩:=b8 w rfl;split at z;simp only[aR,bu]at z;obtain⟨rfl,rfl⟩:=z;cases hx;have h0:=hY 0 (fN _);exact⟨_,w,by simp_all [ss,cZ,gX,goInt],wr,λ_ _=>.refl,.int _ _⟩;simp only[aR,bu]at z;obtain⟨rfl,rfl⟩:=z;cases hx;have h0:=hY 0 (fN _);exact⟨_,w,by simp_all [ss,cZ,gX,goInt,storeCells],wr,λ_ _=>.refl,.int _ _⟩
 ·rename_i sz m off len c0
  replace z:=bf z;obtain⟨hc,z⟩:=z;obtain rfl:=fD hc;simp only[an]at z;obtain⟨ob,F,z⟩:=z;split at z
  ·rename_i cs
   simp only[an]at z;obtain⟨cs',hw,z⟩:=z;simp only[aR,bu]at z;obtain⟨rfl,rfl⟩:=z;cases hx with
   |arr R U hp c4 c6 a6 c5 d2=>
   rename_i ad bd cap dm;obtain⟨b,c7,sp⟩:=ad;simp only at U;subst U;obtain⟨d6,K,c3,C,et,hC,b6,b7⟩:=wr.obj m _ (iz F);rw[R]at K;cases K;have hl:(ys.take len).length=Nat.min (J ys) len:=by rw[jw];exact Nat.min_comm _ _
   have a3:=hY (Nat.min (J ys) len) (Nat.min_le_left _ _);have N:∀u∈ys.take len,J u.cells=E.n:=λu T=>b3 u (wh T);have a4:au (ys.take len)=(au ys).take ((ys.take len).length*E.n):=by
    have a7:∀(A D:az),(∀u∈A,J u.cells=E.n)->au A=(au (A++D)).take (J A*E.n):=λA D hA=>by
     grind [mQ,nC]
    have:=a7 (ys.take len) (ys.drop len) N;rwa [wq]at this
   have S:bO G (au (ys.take len)) (CY.toList.take (Nat.min (J ys) len*E.n)):=by rw[a4,hl];exact a9.take _
   have a0:dq (au (ys.take len))=O:=by
    rw[a4];simp only[dq,fK]at V⊢;exact λu T=>V u (wh T)
   by_cases hz:Nat.min (J ys) len=0;have b5:au (ys.take len)=[]:=by
    have:=nC N;rw[hl,hz,Nat.zero_mul]at this;exact Iv.1 this
   have a5:cs'=cs:=by
    rw[b5]at hw;simp only[gL,bn,oL,List.nil_append,wq]at hw
    have:=(bf hw).2;injection this with this
    exact this.symm
   subst a5;rw[hz]at a3;have g:(s.put m (X (.cells cs'))).heap.get=s.heap.get:=by
    funext q;show(s.heap.set m (X (.cells cs'))).get q=_;rw[aC.get_set];by_cases e':q=m;rw[iP e',e',iz F];rw[iN e']
   have a1:∀q,eJ G (s.put m (X (.cells cs'))).heap q↔eJ G s.heap q:=λq=>by unfold eJ;rw[g]
   refine⟨.int .i64 0,w,by simp[ss,cZ hd,hk,gX b0,hz,a3,goInt,storeCells],?_,λlo hi=>?_,?_⟩;exact⟨λq ob h=>wr.obj q ob (by rw[<-g];exact h),λq r a b h1 h2=>wr.sep q r a b (by rw[<-g];exact h1) (by rw[<-g];exact h2),wr.ro,λq ob a i v h=>wr.apart q ob a i v (by rw[<-g];exact h),wr.dim,wr.below⟩;exact⟨.refl G,aD _,λ_ _ _=>rfl,λq _ h=>(a1 q).1 h,λn a h h'=>(by rw[h]at h';cases h'),λb o v _ h h'=>(by rw[h]at h';cases h'),.refl _,λq _ ⟨n,a,o,h1,h2⟩=>⟨n,a,o,by rw[<-g];exact h1,h2⟩⟩;rw[hl,hz];exact .int _ _;have b2:au (ys.take len)≠[]:=by
    intro e';have h0:=nC N;rw[e',bn,hl]at h0
    have:=Nat.mul_pos (Nat.pos_of_ne_zero hz) H;omega
   rcases a6 with h0|⟨e1,e2⟩
   grind
   simp only at e1 e2;subst e1;subst e2;obtain⟨a2,M⟩:=xV (base:=bd.off) hw S a0 b2 b7;obtain⟨c1,c2⟩:=wr.changed (o':=.cells cs') (ob:=.cells (eN C (bd.off+off) (CY.toList.take (Nat.min (J ys) len*E.n))) et (0,0)) (iz F) R
    ⟨_,et,by rw[iC _ _ _ _ (ig hC),iP rfl],by rw[b6];simp,M⟩
    (λi u T=>by have:=(wr.apart m _ bd i u (iz F) R T).1;cases this)
    (λd hd=>by simp_all)
   have b1:=HZ (P:=P) bd.block (bd.off+off) et (CY.toList.take (Nat.min (J ys) len*E.n)) 0 w C hC (by simpa using a2) (S.ones a0);simp only[oL]at b1;refine⟨.int .i64 (Nat.min (J ys) len:Nat),_,by simp_all [ss,cZ,gX,goInt],c1,c2,?_⟩;rw[hl];exact .int _ _
  cases z
 cases z
def aDa{X_:Value}(g:ri P mk t x s=X s')(hu:∃d,P.underlying t=X d)(H:VR G x X_)(wr:WR G s.heap w):
 ∃w',(AD #[t] ty #[X_]).run P w=.ok (.tuple #[]) w'/\WR G s'.heap w'/\∀lo hi,ck G s.heap w G s'.heap w' lo hi:=by
 obtain⟨d,K⟩:=hu;unfold ri at g;split at g;cases g;cases H;exact⟨w,by simp[AD,cZ K],wr,λ_ _=>.refl⟩;cases g;cases H;exact⟨w,by simp[AD,cZ K],wr,λ_ _=>.refl⟩
 ·simp only[an]at g
  obtain⟨ob,q,g⟩:=g;split at g
  ·cases g
   cases H with
   |map A=>
   obtain⟨ad,ES,h1,h2,h3,h4⟩:=xD wr q;rw[A]at h1;cases h1;obtain⟨c1,c2⟩:=DP (es':=[]) (ES':= #[]) wr q A h3 .nil;exact⟨_,by simp[AD,cZ K,pn h3,Er _ h3],c1,c2⟩
  cases g
 cases g;cases H;exact⟨w,by simp[AD,cZ K],wr,λ_ _=>.refl⟩
 ·rename_i sz m off len b2
  replace g:=fP g;rcases g with⟨h0,g⟩|⟨h0,g⟩
  obtain rfl:=fD h0;cases g;cases H;exact⟨w,by simp[AD,cZ K],wr,λ_ _=>.refl⟩
  ·have h0:=CP h0
   simp only[an]at g;obtain⟨E,hE,g⟩:=g;obtain⟨e,a9,hE⟩:=EB hE;obtain⟨b8,_,hg,U,c4,ti,zv,c5,hi,a2,a6,a4,c3⟩:=uT hE;replace g:=bf g;obtain⟨hc,g⟩:=g;obtain rfl:=fD hc;simp only[an]at g;obtain⟨ob,q,g⟩:=g;split at g
   ·rename_i cs
    simp only[an]at g;obtain⟨cs',hw,g⟩:=g;cases g;cases H with
    |arr A S hp b4 b6 a0 b5 c0=>
    rename_i ad bd cap dm;obtain⟨b,b7,sp⟩:=ad;simp only at S;subst S;obtain⟨c7,D,b3,C,et,hC,a8,b0⟩:=wr.obj m _ (iz q);rw[A]at D;cases D;obtain⟨M,a3⟩:=vz G a6;obtain⟨R,hR,a1,b1⟩:=HS M.cells len;have hrow:=Ng (zs:=zv.cells) a1 b1;rcases a0 with c6|⟨e1,e2⟩
    omega;simp only at e1 e2;subst e1;subst e2;have a7:eZ E.z.cells len≠[]:=by
     intro e';have h1:=hR.length;rw[e',bn,a1,Cn,a4]at h1
     have:=Nat.mul_pos (Nat.pos_of_ne_zero h0) U;omega
    have T:=HT (M.scals_cells a3) len;obtain⟨V,F⟩:=xV (base:=bd.off) hw hR T a7 b0;obtain⟨c1,c2⟩:=wr.changed (o':=.cells cs') (ob:=.cells (eN C (bd.off+off) R) et (0,0)) (iz q) A
     ⟨_,et,by rw[iC _ _ _ _ (ig hC),iP rfl],by rw[a8];simp,F⟩
     (λi u hu=>by have:=(wr.apart m _ bd i u (iz q) A hu).1;cases this)
     (λd K=>by simp_all)
    have N:=HZ (P:=P) bd.block (bd.off+off) et R 0 w C hC (by simpa using V) (hR.ones T);simp only[oL]at N;have a5:AE zv.cells len=⟨R⟩:=hrow;obtain⟨len,rfl⟩:∃l,len=l+1:=⟨len-1,w_⟩;exact⟨_,by simp[AD,cZ a9,vO hi a2,a5,N],c1,c2⟩
   cases g
 cases g
def aDe{v:aa}{X_:Value}{s s1:St}(g:Bm P t x y s=X (v,s1))(D:Gf P t2=O)(hx:VR G x X_)(hy:VR G y Y)(wr:WR G s.heap w)(F:∀n,s.aL<=n->n<s1.aL->G.at_ n=Z):
 ∃b4 w' G',(qF #[t,t2] ty #[X_,Y]).run P w=.ok b4 w'/\WR G' s1.heap w'/\ck G s.heap w G' s1.heap w' s.aL s1.aL/\VR G' v b4:=by
 unfold Bm at g;split at g;rename_i k n;simp only[an]at g;obtain⟨E,hE,g⟩:=g;replace g:=bf g;obtain⟨d,g⟩:=g;simp only[bh]at d;have h1:=oS d.1;have h2:=jE d.2.1;have h3:=d.2.2;simp only[aR,bu]at g;obtain⟨rfl,rfl⟩:=g;have a8:G.at_ s.aL=Z:=F s.aL (aD _) (gN _);obtain⟨e,hd,hE⟩:=EB hE;obtain⟨hn,_,hg,T,b6,i,M,_,hi,a3,a6,N,U⟩:=uT hE;obtain⟨S,a4⟩:=vz G a6;have b5:i.size=E.n:=by simpa[cW,hi]using hn
 obtain⟨kn,b1⟩:∃kn,P.underlying t2=X (.int kn):=by
  unfold Gf at D;split at D;rename_i hu;exact⟨_,hu⟩;cases D
 cases hx;cases hy;have a7:=Tk h3 (cap:=0) h1;have q:=Go.Lib.run_append_grow_zeros w t t2 ty e i M k kn hd b1 hi a3 Z 0 0 [] (by simp[qG]) n h1 w_ w_ w_ (by
  have:n*i.bytes<=(n*2+1024)*i.bytes:=kX _ w_
  have:=jE h3;rw[U]at*;omega) (by
  rw[U];simpa using a7)
 simp only[dP]at q;obtain⟨K,V⟩:∃K,K=grownCap w n 0 e:=⟨_,rfl⟩;have b0:n<=K:=by rw[V];simp only[grownCap,Question.cut];omega
 rw[<-V]at q;obtain⟨R,hR,a0,b3⟩:=HS S.cells n;have hrow:=Ng (zs:=M.cells) a0 b3;have hrow:AE M.cells n=⟨R⟩:=hrow;have b2:J R=n*E.n:=by rw[a0,Cn,N]
 have a5:=HT (S.scals_cells a4) n;obtain⟨R0,H⟩:∃R0,R0=([]:er).toArray++AE M.cells n++AE M.cells (K-n):=⟨_,rfl⟩;have a1:R0.size=K*E.n:=by
  rw[H,Ip,Ip,size_zeroCells,size_zeroCells,N];show 0+n*E.n+(K-n)*E.n=_;rw[dP,<-qN];congr 1;omega
 rw[<-H]at q;have a2:WR G s.heap w.drew:=wr.of_heap rfl;obtain⟨c1,A⟩:=a2.boxed a8 R0 e (eZ E.z.cells n) (λi u hu=>by
  obtain⟨q1,y,hy,hv⟩:=hR.rows (C:=⟨R⟩) a5 i u hu;refine⟨q1,y,?_,hv⟩;have a9:=(Array.getElem?_eq_some_iff.1 hy).1;have e1:(([]:er).toArray++(⟨R⟩:gy))=⟨R⟩:=by simp
  rw[H,hrow,e1,Array.getElem?_append_left a9];exact hy)
 exact⟨_,_,_,q,c1,⟨A.le,A.size,A.keepW,A.owns,A.names,A.cells,li.trans (⟨rfl,rfl,aD _,λ_ _=>rfl,rfl,io _⟩:li w w.drew) A.quiet,A.ownsW⟩,.arr (Gh.boxed_at G w.drew s.aL R0.size) rfl T (aD _) b0 (.inr ⟨rfl,rfl⟩) (Gh.boxed_dim G w.drew s.aL R0.size) (by simp[a1])⟩;cases g
theorem azQ{c:Call}(ho:o.op=.call c)(wr:WR G s.heap w)(fx:cy G s.heap B fr a.tmps w)(g:vB P mk hint dst c fr s=X (v,loc',s'))(H:∀n,s.aL<=n->n<s'.aL->G.at_ n=Z):
 fG P G s.heap w B fr.loc s.aL s'.aL a o v loc' s'.heap:=by
 unfold vB at g;split at g
 ·rename_i b a0
  simp only[an]at g;obtain⟨a4,R,g⟩:=g;simp only[gj,an]at g;obtain⟨⟨v1,s1⟩,g,hq⟩:=g;simp only[aR,bu]at hq;obtain⟨rfl,rfl,rfl⟩:=hq;obtain⟨N,a6⟩:=fx.evcs R;have u:∀(nx:Sem Value),(∀cs,builtin b c.argTypes o.type cs (c.args.map a.eval)=(do pure (.value (<-nx))))->(execOp a.eval o).run P w=(nx.run P w).andThen λy w'=>.ok (.value y) w':=by
   intro nx a3;simp[execOp,ho,resolve,a0,invoke,a3]
  have q:c.args.map a.eval=⟨c.args.toList.map a.eval⟩:=by apply pB;simp
  have z:c.argTypes=⟨c.argTypes.toList⟩:=rfl;generalize hM:c.args.toList.map a.eval=M at N q;generalize hT:c.argTypes.toList=T at g z;unfold fQ at g;split at g
  ·
   cases N with|cons D A=>
   cases A;simp only[an]at g;obtain⟨y,K,g⟩:=g;simp only[aR,bu]at g;obtain⟨rfl,rfl⟩:=g;obtain⟨Y,F,hv⟩:=aDg (ty:=o.type) K D wr;refine .pure wr fx (y:=Y) ?_ (LV.of_VR hv);rw[u (yg c.argTypes o.type (c.args.map a.eval)) (λ_=>rfl),q,z,F];rfl
  ·
   cases N with|cons D A=>
   cases A with|cons K A=>
   cases A;replace g:=fP g;rcases g with⟨a1,g⟩|⟨_,g⟩
   obtain⟨a5,w',G',F,V,U,h3⟩:=aeS (ty:=o.type) g a1 D K wr H;refine .heap fx ?_ (.inl rfl) V U (LV.of_VR h3);rw[u (qF c.argTypes o.type (c.args.map a.eval)) (λ_=>rfl),q,z,F];rfl;replace g:=bf g;obtain⟨a5,w',G',F,V,U,h3⟩:=aDe (ty:=o.type) g.2 g.1 D K wr H;refine .heap fx ?_ (.inl rfl) V U (LV.of_VR h3);rw[u (qF c.argTypes o.type (c.args.map a.eval)) (λ_=>rfl),q,z,F];rfl
  ·
   cases N with|cons D A=>
   cases A;replace g:=bf g;obtain⟨S,g⟩:=g;simp only[aR,bu]at g;obtain⟨rfl,rfl⟩:=g;cases D;refine .pure wr fx (y:=.int .i64 0) ?_ (LV.of_VR (.int _ _));rw[u (Builtin.cap_ c.argTypes o.type (c.args.map a.eval)) (λ_=>rfl),q,z];unfold lB at S;split at S;rename_i hu;simp[Builtin.cap_,cZ hu,goInt];cases S
  ·
   cases N with|cons D A=>
   cases A with|cons K A=>
   cases A;obtain⟨a5,w',F,V,U,h3⟩:=aDb (ty:=o.type) g D K wr;refine .heap fx ?_ (.inl rfl) V (U _ _) (LV.of_VR h3);rw[u (ss c.argTypes o.type (c.args.map a.eval)) (λ_=>rfl),q,z,F];rfl
  ·
   cases N with|cons D A=>
   cases A;simp only[an]at g;obtain⟨d,hd,s2,a2,g⟩:=g;simp only[aR,bu]at g;obtain⟨rfl,rfl⟩:=g;obtain⟨w',F,V,U⟩:=aDa (ty:=o.type) a2 ⟨d,hd⟩ D wr;refine .heap fx (y:=.tuple #[]) ?_ (.inl rfl) V (U _ _) (LV.of_VR (.tup .nil));rw[u (AD c.argTypes o.type (c.args.map a.eval)) (λ_=>rfl),q,z,F];rfl
  ·
   simp only[an]at g;obtain⟨y,K,g⟩:=g;simp only[aR,bu]at g;obtain⟨rfl,rfl⟩:=g;cases N with
   |cons D A=>
    obtain⟨Y,F,hv⟩:=aeY (P:=P) (isMax:=I) w K D A;refine .pure wr fx (y:=Y) ?_ (LV.of_VR hv);rw[u (Builtin.min_ c.argTypes o.type (c.args.map a.eval)) (λ_=>rfl),q]
    simp_all [Builtin.min_]
  ·
   simp only[an]at g;obtain⟨y,K,g⟩:=g;simp only[aR,bu]at g;obtain⟨rfl,rfl⟩:=g;cases N with
   |cons D A=>
    obtain⟨Y,F,hv⟩:=aeY (P:=P) (isMax:=O) w K D A;refine .pure wr fx (y:=Y) ?_ (LV.of_VR hv);rw[u (Builtin.max_ c.argTypes o.type (c.args.map a.eval)) (λ_=>rfl),q]
    simp_all [Builtin.max_]
  cases g
 cases g
end
def mL(mk:aK)(s s':St)(n:Nat):Prop:=(dH mk n=I/\s.heap.get n≠Z)\/(s.aL<=n/\n<s'.aL)
structure iI (mk:aK) (s s2:St):Prop where
 aL:s2.aL=s.aL
 gE:s2.gE=s.gE
 ci:s2.ci=s.ci
 get:∀n o,dH mk n=false->s.heap.get n=some o->s2.heap.get n=some o
def iI.refl(mk:aK)(s:St):iI mk s s:=⟨rfl,rfl,rfl,λ_ _ _ h=>h⟩
structure fO (mk:aK) (s s' s2 s2':St):Prop where
 aL:s2'.aL=s'.aL
 gE:s2'.gE=s'.gE
 ci:s2'.ci=s'.ci
 inside:∀n,mL mk s s' n->s2'.heap.get n=s'.heap.get n
 outside:∀n,¬mL mk s s' n->s2'.heap.get n=s2.heap.get n
structure fF (mk:aK) (s s':St):Prop where
 aL:s.aL<=s'.aL
 ci:s.ci<=s'.ci
 gE:s'.gE<=s.gE
 frame:∀n,¬mL mk s s' n->s'.heap.get n=s.heap.get n
 noted:∀n,n<s.aL->s'.heap.get n≠s.heap.get n->s'.gE<=n
def fF.refl(mk:aK)(s:St):fF mk s s:=⟨aD _,aD _,aD _,λ_ _=>rfl,λ_ _ h=>absurd rfl h⟩
variable{mk:aK}
def fF.trans{d:St}(x:fF mk s s')(y:fF mk s' d):fF mk s d where
 aL:=dj x.aL y.aL
 ci:=dj x.ci y.ci
 gE:=dj y.gE x.gE
 frame n h:=by
  have h1:¬mL mk s s' n:=λt=>h (t.imp id λt=>⟨t.1,fE t.2 y.aL⟩);have h2:¬mL mk s' d n:=λt=>by
   rcases t with⟨g,t2⟩|t
   rw[x.frame n h1]at t2;exact h (.inl ⟨g,t2⟩);exact h (.inr ⟨dj x.aL t.1,t.2⟩)
  rw[y.frame n h2,x.frame n h1]
 noted n hn hne:=by
  by_cases h:s'.heap.get n=s.heap.get n;exact y.noted n (fE hn x.aL) (by rw[h];exact hne);exact dj y.gE (x.noted n hn h)
variable{s2':St}
def fO.sees(a:iI mk s s2)(g:fF mk s s')(x:fO mk s s' s2 s2'):iI mk s' s2' where
 aL:=x.aL
 gE:=x.gE
 ci:=x.ci
 get n o hv h:=by
  by_cases t:mL mk s s' n;rw[x.inside n t];exact h;rw[x.outside n t];rw[g.frame n t]at h;exact a.get n o hv h
def fO.trans{d q:St}(z:fF mk s s')(u:fF mk s' d)(x:fO mk s s' s2 s2')(y:fO mk s' d s2' q):fO mk s d s2 q where
 aL:=y.aL
 gE:=y.gE
 ci:=y.ci
 inside n t:=by
  by_cases t2:mL mk s' d n;exact y.inside n t2;rw[y.outside n t2,u.frame n t2];refine x.inside n ?_;rcases t with t|t
  exact .inl t;refine .inr ⟨t.1,?_⟩;rcases ip n s'.aL with h|h
  exact h;exact absurd (.inr ⟨h,t.2⟩) t2
 outside n t:=by
  have h1:¬mL mk s s' n:=λg=>t (g.imp id λg=>⟨g.1,fE g.2 u.aL⟩);have h2:¬mL mk s' d n:=λg=>by
   rcases g with⟨A,t2⟩|g
   rw[z.frame n h1]at t2;exact t (.inl ⟨A,t2⟩);exact t (.inr ⟨dj z.aL g.1,g.2⟩)
  rw[y.outside n h2,x.outside n h1]
def fO.refl(a:iI mk s s2):fO mk s s s2 s2 where
 aL:=a.aL
 gE:=a.gE
 ci:=a.ci
 inside n t:=by
  rcases t with⟨d,t2⟩|t
  rcases h:s.heap.get n with _|o
  exact absurd h t2;exact a.get n o d h;omega
 outside _ _:=rfl
def cD{α:Type}(mk:aK)(x:(cE)->St->Option (α×St)):Prop:=
 ∀ch s a s',x ch s=X (a,s')->fF mk s s'/\∀d s2,(∀i,i<s'.ci->d i=ch i)->iI mk s s2->∃s2',x d s2=X (a,s2')/\fO mk s s' s2 s2'
theorem tq(h:s.get mk n=X o):dH mk n=I/\s.heap.get n=X o:=by
 grind [St.get]
theorem iI.look(a:iI mk s s2)(h:s.get mk n=X o):s2.get mk n=X o:=by
 obtain⟨d,g⟩:=tq h;simp[St.get,d,a.get n o d g]
theorem fF.new(mk:aK)(s:St)(o:aI):fF mk s (s.new o) where
 aL:=io _
 ci:=aD _
 gE:=aD _
 frame n h:=by
  show(s.heap.set s.aL (X o)).get n=_;rw[aC.get_set,iN];intro e;exact h (.inr ⟨w_,by show n<s.aL+1;omega⟩)
 noted n hn hne:=by
  refine absurd ?_ hne;show(s.heap.set s.aL (X o)).get n=_;rw[aC.get_set,iN w_]
theorem fO.new(a:iI mk s s2)(o:aI):fO mk s (s.new o) s2 (s2.new o) where
 aL:=by show s2.aL+1=s.aL+1;rw[a.aL]
 gE:=a.gE
 ci:=a.ci
 inside n t:=by
  show(s2.heap.set s2.aL (X o)).get n=(s.heap.set s.aL (X o)).get n;rw[aC.get_set,aC.get_set,a.aL];by_cases e:n=s.aL;rw[iP e,iP e];rw[iN e,iN e];rcases t with⟨d,t2⟩|⟨d,t2⟩
  rcases h:s.heap.get n with _|o
  exact absurd h t2;exact a.get n o d h;have:n<s.aL+1:=t2;omega
 outside n t:=by
  show(s2.heap.set s2.aL (X o)).get n=_;rw[aC.get_set,iN];intro e;rw[a.aL]at e;exact t (.inr ⟨w_,by show n<s.aL+1;omega⟩)
theorem fF.put(h:s.get mk n=X o)(o':ra):fF mk s (s.put n o') where
 aL:=aD _
 ci:=aD _
 gE:=by
  show(bif aP s.gE n then s.gE else n)<=s.gE
  grind [tG]
 frame m hm:=by
  show(s.heap.set n o').get m=_;rw[aC.get_set,iN];intro e;subst e;obtain⟨h1,h2⟩:=tq h;exact hm (.inl ⟨h1,by rw[h2];simp⟩)
 noted m _ hne:=by
  show(bif aP s.gE n then s.gE else n)<=m;have e:m=n:=by
   by_cases e:m=n;exact e;exfalso;apply hne;show(s.heap.set n o').get m=_;rw[aC.get_set,iN e]
  subst e;cases e:aP s.gE m<;>simp_all
theorem fO.put(a:iI mk s s2)(h:s.get mk n=X o)(o':ra):fO mk s (s.put n o') s2 (s2.put n o') where
 aL:=a.aL
 gE:=by show(bif aP s2.gE n then s2.gE else n)=(bif aP s.gE n then s.gE else n);rw[a.gE]
 ci:=a.ci
 inside m t:=by
  show(s2.heap.set n o').get m=(s.heap.set n o').get m;rw[aC.get_set,aC.get_set];by_cases e:m=n;rw[iP e,iP e];rw[iN e,iN e];rcases t with⟨d,t2⟩|⟨d,t2⟩
  rcases h:s.heap.get m with _|o
  exact absurd h t2;exact a.get m o d h;have:m<s.aL:=t2;omega
 outside m t:=by
  show(s2.heap.set n o').get m=_;rw[aC.get_set,iN];intro e;subst e;obtain⟨h1,h2⟩:=tq h;exact t (.inl ⟨h1,by rw[h2];simp⟩)
theorem fF.hide{d:St}(h:s.get mk n=X o)(g:fF mk (s.put n Z) d)(o':aI):fF mk s (d.put n (X o')) where
 aL:=g.aL
 ci:=g.ci
 gE:=by
  have h1:d.gE<=(bif aP s.gE n then s.gE else n):=g.gE;have h2:(bif aP s.gE n then s.gE else n)<=s.gE:=(fF.put h Z).gE;have h3:(d.put n (X o')).gE<=d.gE:=by
   show(bif aP d.gE n then d.gE else n)<=d.gE;cases e:aP d.gE n
   grind [tG]
   simp
  omega
 frame m hm:=by
  obtain⟨h1,h2⟩:=tq h;have q:m≠n:=λe=>by subst e;exact hm (.inl ⟨h1,by rw[h2];simp⟩)
  show(d.heap.set n (X o')).get m=_;rw[aC.get_set,iN q];have u:(s.put n Z).heap.get m=s.heap.get m:=by
   show(s.heap.set n Z).get m=_;rw[aC.get_set,iN q]
  rw[<-u];refine g.frame m λt=>hm ?_;rcases t with⟨A,t2⟩|t
  rw[u]at t2;exact .inl ⟨A,t2⟩;exact .inr t
 noted m hm hne:=by
  have z:(d.put n (X o')).gE<=d.gE/\(d.put n (X o')).gE<=n:=by
   show(bif aP d.gE n then d.gE else n)<=d.gE/\(bif aP d.gE n then d.gE else n)<=n;cases e:aP d.gE n
   grind [tG]
   simp_all
  by_cases q:m=n;subst q;exact z.2;have u:(s.put n Z).heap.get m=s.heap.get m:=by
   show(s.heap.set n Z).get m=_;rw[aC.get_set,iN q]
  refine dj z.1 (g.noted m hm ?_);rw[u];intro e;apply hne;show(d.heap.set n (X o')).get m=_;rw[aC.get_set,iN q,e]
def fO.hide{q g:St}(A:iI mk s s2)(h:s.get mk n=X o)(x:fO mk (s.put n Z) q (s2.put n Z) g)(o':aI):fO mk s (q.put n (X o')) s2 (g.put n (X o')) where
 aL:=x.aL
 gE:=by show(bif aP g.gE n then g.gE else n)=(bif aP q.gE n then q.gE else n);rw[x.gE]
 ci:=x.ci
 inside m t:=by
  show(g.heap.set n (X o')).get m=(q.heap.set n (X o')).get m;rw[aC.get_set,aC.get_set];by_cases d:m=n;rw[iP d,iP d];rw[iN d,iN d];refine x.inside m ?_;rcases t with⟨u,t2⟩|t
  refine .inl ⟨u,?_⟩;show(s.heap.set n Z).get m≠Z;rw[aC.get_set,iN d];exact t2;exact .inr t
 outside m t:=by
  obtain⟨h1,h2⟩:=tq h;have d:m≠n:=λe=>by subst e;exact t (.inl ⟨h1,by rw[h2];simp⟩)
  show(g.heap.set n (X o')).get m=_;rw[aC.get_set,iN d,x.outside m ?_];show(s2.heap.set n Z).get m=_;rw[aC.get_set,iN d];rintro(⟨u,t2⟩|z);have t2:(s.heap.set n Z).get m≠Z:=t2;rw[aC.get_set,iN d]at t2;exact t (.inl ⟨u,t2⟩);exact t (.inr z)
def RO{β:Type}(mk:aK)(f:St->Option β):Prop:=∀s s2 b,f s=X b->(∀n o,s.get mk n=X o->s2.get mk n=X o)->f s2=X b
section
variable{P:Program}{mk:aK}
theorem aeN(t:TypeId)(a:aa)(loc:Loc):RO mk (λs=>lC P mk t a loc s):=by
 intro s s2 b h d;unfold lC at h⊢
 grind [an]
theorem aeM(g:Bool)(n:Nat)(x:aa):RO mk (λs=>cR mk g n x s):=by
 intro s s2 b h d;unfold cR at h⊢
 grind [an]
theorem aCH(t:TypeId)(x:aa):RO mk (λs=>fZ P mk t x s):=by
 intro s s2 b h d
 grind [fZ,an]
theorem aCI(t:TypeId)(m k:aa)(g:Bool):RO mk (λs=>mi P mk t m k g s):=by
 intro s s2 b h D;simp only[mi,an]at h⊢;obtain⟨q,d,z,u,r,A,h⟩:=h;refine⟨q,d,z,u,r,?_,h⟩;unfold zL at A⊢
 grind [an]
theorem aCG(it:aa):RO mk (λs=>wU mk it s):=by
 intro s s2 b h d;unfold wU at h⊢
 grind [an]
theorem aCJ(t:TypeId)(x:aa)(lo hi g:sh)(env:aw):RO mk (λs=>eH P mk t x lo hi g env s):=by
 intro s s2 b h z;simp only[eH,an]at h⊢;obtain⟨d,u,h⟩:=h;refine⟨d,u,?_⟩;split at h;exact h
 grind
 simp only[an]at h⊢;obtain⟨n,q,h⟩:=h;refine⟨n,q,?_⟩;split at h;simp only[an]at h⊢
 grind
 cases h;cases h
end
def bF{α β:Type}(mk:aK)(x:(cE)->St->Option (α×β×St)):Prop:=
 ∀ch s v l s',x ch s=X (v,l,s')->fF mk s s'/\∀d s2,(∀i,i<s'.ci->d i=ch i)->iI mk s s2->∃s2',x d s2=X (v,l,s2')/\fO mk s s' s2 s2'
section
variable{P:Program}{mk:aK}
def bF.ro{f:St->df}(g:RO mk f)(l:Loc):bF mk (λ_ s=>fe (f s) l s):=by
 intro ch s v D s' h;obtain⟨z,u,q⟩:=kJ h;subst u;subst q;refine⟨.refl mk s',λA s2 _ a=>⟨s2,?_,.refl a⟩⟩
 have:=g s' s2 v z (λn o d=>a.look d);simp[fe,this]
def bF.const(f:df)(l:Loc):bF mk (λ_ s=>fe f l s):=bF.ro (f:=λ_=>f) (λ_ _ _ h _=>h) l
def bF.none{β:Type}:bF (α:=α) (β:=β) mk (λ_ _=>.none):=by intro ch s v l s' h;cases h
def bF.bind{γ β:Type}(x:Option β){k:β->(cE)->St->Option (α×γ×St)}(d:∀b,x=X b->bF mk (k b)):bF mk (λch s=>x.bind λb=>k b ch s):=by
 rcases x with _|b
 intro ch s v l s' h;cases h;exact d b rfl
theorem bF.vs{f:(cE)->St->p0}(z:cD mk f)(l:Loc):bF mk (λch s=>gj (f ch s) l):=by
 intro ch s v F s' h;simp only[gj,an]at h;obtain⟨⟨q,u⟩,D,h⟩:=h;simp only[aR,bu]at h;obtain⟨rfl,rfl,rfl⟩:=h;obtain⟨g,hh⟩:=z ch s q u D;refine⟨g,λd s2 A a=>?_⟩;obtain⟨s2',K,H⟩:=hh d s2 A a
 grind [gj]
def cD.of_put{f:St->Option (α×St)}(u:∀s a s',f s=X (a,s')->∃n o d,s.get mk n=X o/\s'=s.put n d/\∀s2,iI mk s s2->f s2=X (a,s2.put n d)):cD mk (λ_ s=>f s):=by
 intro ch s a s' h;obtain⟨n,o,d,q,rfl,z⟩:=u s a s' h;exact⟨.put q d,λA s2 _ g=>⟨_,z s2 g,.put g q d⟩⟩
def cD.of_new{f:St->Option (α×St)}(g:∀s a s',f s=X (a,s')->∃o,s'=s.new o/\∀s2,iI mk s s2->f s2=X (a,s2.new o)):cD mk (λ_ s=>f s):=by
 intro ch s a s' h;obtain⟨o,rfl,q⟩:=g s a s' h;exact⟨.new mk s o,λu s2 _ d=>⟨_,q s2 d,.new d o⟩⟩
def cD.of_same{f:St->Option (α×St)}(g:∀s a s',f s=X (a,s')->s'=s/\∀s2,iI mk s s2->f s2=X (a,s2)):cD mk (λ_ s=>f s):=by
 intro ch s a s' h;obtain⟨rfl,q⟩:=g s a s' h;exact⟨.refl mk _,λu s2 _ d=>⟨_,q s2 d,.refl d⟩⟩
def cD.of_any{f:St->Option (α×St)}(F:∀s a s',f s=X (a,s')->
 (s'=s/\∀s2,iI mk s s2->f s2=X (a,s2))\/(∃o,s'=s.new o/\∀s2,iI mk s s2->f s2=X (a,s2.new o))\/
 (∃n o q,s.get mk n=X o/\s'=s.put n q/\∀s2,iI mk s s2->f s2=X (a,s2.put n q))\/
 (∃n o q d,s.get mk n=X o/\s'=(s.put n q).new d/\∀s2,iI mk s s2->f s2=X (a,(s2.put n q).new d))):cD mk (λ_ s=>f s):=by
 intro ch s a s' h;rcases F s a s' h with⟨rfl,u⟩|⟨o,rfl,u⟩|⟨n,o,q,A,rfl,u⟩|⟨n,o,q,d,A,rfl,u⟩
 exact⟨.refl mk _,λz s2 _ g=>⟨_,u s2 g,.refl g⟩⟩;exact⟨.new mk s o,λz s2 _ g=>⟨_,u s2 g,.new g o⟩⟩;exact⟨.put A q,λz s2 _ g=>⟨_,u s2 g,.put g A q⟩⟩;have D:=fF.put A q;exact⟨D.trans (.new mk _ d),λz s2 _ g=>⟨_,u s2 g,fO.trans D (.new mk _ d) (.put g A q) (.new ((fO.put g A q).sees g D) d)⟩⟩
end
section
variable{P:Program}{mk:aK}
def axq(t:TypeId)(m k v:aa)(l:Loc):bF mk (λ_ s=>mA (mF P mk t m k v s) l):=by
 intro ch s u K s' h;simp only[mA,an]at h;obtain⟨F,d,h⟩:=h;simp only[aR,bu]at h;obtain⟨rfl,rfl,rfl⟩:=h;simp only[mF,an]at d;obtain⟨M,q,d⟩:=d;split at d;rename_i n;simp only[an]at d;obtain⟨H,g,d⟩:=d;split at d;rename_i es clock;simp only[an]at d;obtain⟨r,A,d⟩:=d;split at d;rename_i x;replace d:=bf d;obtain⟨D,d⟩:=d;cases d;exact⟨.put g _,λz s2 _ a=>⟨_,by simp[mA,mF,q,a.look g,A,D],.put a g _⟩⟩;cases d;exact⟨.put g _,λz s2 _ a=>⟨_,by simp[mA,mF,q,a.look g,A],.put a g _⟩⟩;cases d;cases d
def axe(t:TypeId)(m k:aa):cD mk (λ_ s=>rP P mk t m k s):=by
 refine cD.of_put ?_;intro s u s' d;simp only[rP,an]at d;obtain⟨K,q,z,A,d⟩:=d;split at d;rename_i n;simp only[an]at d;obtain⟨H,g,d⟩:=d;split at d;rename_i es clock;simp only[an]at d;obtain⟨r,D,d⟩:=d;split at d;rename_i x;replace d:=bf d;obtain⟨F,d⟩:=d;simp only[aR,bu]at d;obtain⟨rfl,rfl⟩:=d;exact⟨n,_,_,g,rfl,λs2 a=>by simp[rP,q,A,a.look g,D,F]⟩;simp only[aR,bu]at d;obtain⟨rfl,rfl⟩:=d;exact⟨n,_,_,g,rfl,λs2 a=>by simp[rP,q,A,a.look g,D]⟩;cases d;cases d
def aw9(m z v:aa)(l:Loc):bF mk (λ_ s=>mA (uU mk m z v s) l):=by
 intro ch s u M s' h;simp only[mA,an]at h;obtain⟨H,d,h⟩:=h;simp only[aR,bu]at h;obtain⟨rfl,rfl,rfl⟩:=h;simp only[uU,an]at d;obtain⟨b,A,d⟩:=d;split at d;rename_i n;simp only[an]at d;obtain⟨K,g,d⟩:=d;split at d;simp only[an]at d;obtain⟨D,q,d⟩:=d;cases d;exact⟨.put g _,λF s2 _ a=>⟨_,by simp[mA,uU,A,a.look g,q],.put a g _⟩⟩;cases d;cases d
def axj(t:TypeId)(x:aa):cD mk (λ_ s=>tU P mk t x s):=by
 refine cD.of_new ?_;intro s u s' g;simp only[tU,an]at g;obtain⟨d,z,g⟩:=g;split at g;split at g;simp only[aR,bu]at g;obtain⟨rfl,rfl⟩:=g;exact⟨_,rfl,λs2 a=>by simp[tU,z,a.aL]⟩;simp only[an]at g;obtain⟨A,q,g⟩:=g;split at g;simp only[aR,bu]at g;obtain⟨rfl,rfl⟩:=g;exact⟨_,rfl,λs2 a=>by simp[tU,z,a.look q,a.aL]⟩;cases g;cases g;cases g
def fF.ci_succ(g:fF mk s s')(d:s'.ci=s.ci):fF mk s {s' with ci:=s.ci+1 }:=⟨g.aL,io _,g.gE,g.frame,g.noted⟩
def fO.ci_succ(a:iI mk s s2)(g:fO mk s s' s2 s2'):fO mk s {s' with ci:=s.ci+1 } s2 {s2' with ci:=s2.ci+1 }:=
 ⟨g.aL,g.gE,by show s2.ci+1=s.ci+1;rw[a.ci],g.inside,g.outside⟩
def acm(kmax:cE)(it:aa)(q:Bool):cD mk (λch s=>oz mk ch kmax it q s):=by
 intro ch s u s' d;simp only[oz]at d⊢;split at d;rename_i n;simp only[an]at d;obtain⟨ob,g,d⟩:=d;split at d;replace d:=fP d;rcases d with⟨_,d⟩|⟨K,d⟩
 cases d;simp only[aR,bu]at d;obtain⟨rfl,rfl⟩:=d;exact⟨.refl mk _,λA s2 _ a=>⟨s2,by simp[a.look g,K],.refl a⟩⟩;rename_i m since seen H;replace d:=fP d;rcases d with⟨_,d⟩|⟨K,d⟩
 cases d;simp only[an]at d;obtain⟨U,z,d⟩:=d;split at d;rename_i es clock;replace d:=fP d;rcases d with⟨_,d⟩|⟨F,d⟩
 cases d;generalize hUL:lL seen es=UL at d;unfold tH at d;split at d;simp only[aR,bu]at d;obtain⟨rfl,rfl⟩:=d;exact⟨.refl mk _,λA s2 _ a=>⟨s2,by simp[a.look g,a.look z,K,F,hUL,tH],.refl a⟩⟩;rename_i e r;replace d:=bf d;obtain⟨D,d⟩:=d;split at d;simp only[aR]at d;have V:u=(vT n m since clock seen e s).1:=by rw[d]
 have T:s'=s.put n (X (.iter (X m) since (seen++[e.born]) clock)):=(congrArg Prod.snd d).symm;subst V;subst T;refine⟨.put g _,λA s2 _ a=>⟨_,?_,.put a g _⟩⟩;simp only[a.look g,a.look z,aH,K,cF,F,hUL,tH,D,cT];rfl;rename_i T r2;replace d:=bf d;obtain⟨S,d⟩:=d;simp only[an]at d;obtain⟨e',M,d⟩:=d;simp only[aR,bu]at d;obtain⟨rfl,rfl⟩:=d;refine⟨fF.ci_succ (s':=s.put n (X (.iter (X m) since (seen++[e'.born]) clock))) (.put g _) rfl,λA s2 R a=>⟨_,?_,fO.ci_succ a (.put a g _)⟩⟩;have N:A s2.ci=ch s.ci:=by rw[a.ci];exact R s.ci (gN _)
 rw[<-a.ci]at S;simp only[a.look g,a.look z,aH,K,cF,F,hUL,tH,D,cT,S,N,M];rfl;cases d;cases d;cases d
def axc(t:TypeId)(env:aw)(r:sh):cD mk (λ_ s=>jq P t env r s):=by
 refine cD.of_new ?_;intro s u s' g;unfold jq at g⊢;rcases r with _|x
 simp only[aR,bu]at g;obtain⟨rfl,rfl⟩:=g;exact⟨_,rfl,λs2 a=>by simp[a.aL]⟩;simp only[an]at g;obtain⟨d,z,g⟩:=g;split at g;simp only[an]at g;obtain⟨y,q,g⟩:=g;split at g;simp only[aR,bu]at g;obtain⟨rfl,rfl⟩:=g;exact⟨_,rfl,λs2 a=>by simp[z,q,a.aL]⟩;cases g;cases g
def axd(t:TypeId)(l c:aa)(mu:Bool):cD mk (λ_ s=>mo P t l c mu s):=by
 refine cD.of_new ?_;intro s u s' d;simp only[mo,an]at d⊢;obtain⟨E,F,z,A,H,D,d⟩:=d;replace d:=bf d;obtain⟨g,d⟩:=d;replace d:=fP d;rcases d with⟨q,d⟩|⟨q,d⟩
 simp only[aR,bu]at d;obtain⟨rfl,rfl⟩:=d;exact⟨_,rfl,λs2 a=>⟨E,F,z,A,H,D,by simp only[g,q,cT,a.aL]⟩⟩;simp only[aR,bu]at d;obtain⟨rfl,rfl⟩:=d;exact⟨_,rfl,λs2 a=>⟨E,F,z,A,H,D,by simp only[g,q,cT,cF,a.aL]⟩⟩
def axa(b:Bool)(t:TypeId)(x y:aa):cD mk (λ_ s=>bif b then Bm P t x y s else Z):=by
 refine cD.of_new ?_;intro s u s' d;obtain⟨q,d⟩:=bf d;subst q;unfold Bm at d⊢;split at d;simp only[an,cT]at d⊢;obtain⟨E,z,d⟩:=d;replace d:=bf d;obtain⟨g,d⟩:=d;simp only[aR,bu]at d;obtain⟨rfl,rfl⟩:=d;exact⟨_,rfl,λs2 a=>⟨E,z,by simp only[g,cT,a.aL]⟩⟩;cases d
theorem aw2(t:TypeId)(len:Nat)(parts:Q3)(mu:Bool)(env:aw):cD mk (λ_ s=>sW P t len parts mu env s):=by
 refine cD.of_any ?_;intro s u s' d;simp only[sW,an]at d⊢;obtain⟨E,A,d⟩:=d;replace d:=bf d;obtain⟨g,d⟩:=d;simp only[an]at d;obtain⟨cs,q,d⟩:=d;replace d:=fP d;rcases d with⟨z,d⟩|⟨z,d⟩
 simp only[aR,bu]at d;obtain⟨rfl,rfl⟩:=d;exact .inr (.inl ⟨_,rfl,λs2 a=>⟨E,A,by simp only[g,cT,q,aH,z,a.aL]⟩⟩)
 grind [an]
theorem aw0(t:TypeId)(x y:aa)(mu:Bool):cD mk (λ_ s=>cL P mk t x y mu s):=by
 refine cD.of_any ?_;intro s u s' d;simp only[cL,an]at d⊢;obtain⟨E,N,ys,K,d⟩:=d;have A:∀s2,iI mk s s2->cR mk E.g E.n y s2=X ys:=λs2 a=>aeM E.g E.n y s s2 ys K (λn o ho=>a.look ho);have fin:∀{Q1 U T S:Prop},Q1\/U\/T\/S->Q1\/U\/T\/S:=λh=>h;cases ys with
 |nil=>
  grind
 |cons y0 yr=>
  simp only at d;have R:∀(F:az),iq E mu F s=X (u,s')->∃o,s'=s.new o/\∀s2,iI mk s s2->iq E mu F s2=X (u,s2.new o):=by
   intro F z;simp only[iq]at z⊢;replace z:=bf z;obtain⟨D,z⟩:=z;replace z:=fP z;rcases z with⟨H,z⟩|⟨H,z⟩
   simp only[aR,bu]at z;obtain⟨rfl,rfl⟩:=z;exact⟨_,rfl,λs2 a=>by simp only[D,H,cT,a.aL]⟩;simp only[aR,bu]at z;obtain⟨rfl,rfl⟩:=z;exact⟨_,rfl,λs2 a=>by simp only[D,H,cT,cF,a.aL]⟩
  unfold fk at d;split at d
  grind [fk]
  grind [fk]
  simp only[an]at d;obtain⟨V,q,d⟩:=d;split at d;replace d:=bf d;obtain⟨D,d⟩:=d;simp only[aR,bu]at d;obtain⟨rfl,rfl⟩:=d;exact .inr (.inr (.inr ⟨_,_,Z,_,q,rfl,λs2 a=>⟨E,N,_,A s2 a,by simp only[fk,a.look q,aH,D,cT,a.aL]⟩⟩));cases d;simp only[an]at d;obtain⟨V,q,d⟩:=d;split at d;replace d:=bf d;obtain⟨D,d⟩:=d;replace d:=fP d;rcases d with⟨M,d⟩|⟨M,d⟩
  simp only[aR,bu]at d;obtain⟨rfl,rfl⟩:=d;exact .inr (.inr (.inr ⟨_,_,Z,_,q,rfl,λs2 a=>⟨E,N,_,A s2 a,by simp only[fk,a.look q,aH,D,M,cT,a.aL]⟩⟩));replace d:=bf d;obtain⟨hl,d⟩:=d;simp only[an]at d;obtain⟨cs',hw,d⟩:=d;simp only[aR,bu]at d;obtain⟨rfl,rfl⟩:=d;exact .inr (.inr (.inl ⟨_,_,_,q,rfl,λs2 a=>⟨E,N,_,A s2 a,by simp only[fk,a.look q,aH,D,M,cT,cF,hl,hw]⟩⟩));cases d;cases d
theorem aw7(t:TypeId)(x y:aa):cD mk (λ_ s=>rk P mk t x y s):=by
 refine cD.of_any ?_;intro s u s' d;simp only[rk,an]at d⊢;obtain⟨E,K,ys,z,d⟩:=d;have A:∀s2,iI mk s s2->cR mk E.g E.n y s2=X ys:=λs2 a=>aeM E.g E.n y s s2 ys z (λn o H=>a.look H);split at d
 grind
 grind
 replace d:=bf d;obtain⟨F,d⟩:=d;simp only[an]at d;obtain⟨M,q,d⟩:=d;split at d;simp only[an]at d;obtain⟨cs',D,d⟩:=d;simp only[aR,bu]at d;obtain⟨rfl,rfl⟩:=d;exact .inr (.inr (.inl ⟨_,_,_,q,rfl,λs2 a=>⟨E,K,ys,A s2 a,by simp only[F,cT,a.look q,aH,D]⟩⟩));cases d;cases d
theorem aw5(t:TypeId)(x:aa):cD mk (λ_ s=>(ri P mk t x s).bind λs'=>X (aa.tup [],s')):=by
 refine cD.of_any ?_;intro s u s' d;simp only[an]at d⊢;obtain⟨K,d,z⟩:=d;simp only[aR,bu]at z;obtain⟨rfl,rfl⟩:=z;unfold ri at d;split at d;cases d;exact .inl ⟨rfl,λs2 a=>⟨s2,rfl,rfl⟩⟩;cases d;exact .inl ⟨rfl,λs2 a=>⟨s2,rfl,rfl⟩⟩;simp only[an]at d;obtain⟨A,g,d⟩:=d;split at d;cases d;exact .inr (.inr (.inl ⟨_,_,_,g,rfl,λs2 a=>⟨_,by simp only[ri,a.look g,aH],rfl⟩⟩));cases d;cases d;exact .inl ⟨rfl,λs2 a=>⟨s2,rfl,rfl⟩⟩;replace d:=fP d;rcases d with⟨q,d⟩|⟨q,d⟩
 grind [ri]
 simp only[an]at d;obtain⟨E,H,d⟩:=d;replace d:=bf d;obtain⟨F,d⟩:=d;simp only[an]at d;obtain⟨A,g,d⟩:=d;split at d;simp only[an]at d;obtain⟨cs',D,d⟩:=d;cases d;exact .inr (.inr (.inl ⟨_,_,_,g,rfl,λs2 a=>⟨_,by simp only[ri,q,cF,H,aH,F,cT,a.look g,D],rfl⟩⟩));cases d;cases d
theorem cD.pureOpt(f:Option α):cD mk (λ_ s=>f.bind λv=>X (v,s)):=by
 refine cD.of_same ?_
 grind [an]
theorem aw3(b:Builtin)(q:n_)(mu:Bool)(args:az):cD mk (λ_ s=>fQ P mk b q mu args s):=by
 intro ch s u s' g;unfold fQ at g⊢;split at g;refine cD.of_same (f:=λs=>(fZ P mk _ _ s).bind λv=>X (v,s)) ?_ ch s u s' g;intro s u s' g;simp only[an]at g⊢;obtain⟨v,z,g⟩:=g;simp only[aR,bu]at g;obtain⟨rfl,rfl⟩:=g;exact⟨rfl,λs2 a=>⟨v,aCH _ _ s s2 v z (λn o D=>a.look D),rfl⟩⟩;cases hc:lB P _;rw[hc]at g;simp only[cF]at g⊢;exact axa _ _ _ _ ch s u s' g;rw[hc]at g;simp only[cT]at g⊢;exact aw0 _ _ _ mu ch s u s' g;cases hc:lB P _;rw[hc]at g;cases g;rw[hc]at g;simp only[cT]at g⊢;exact cD.pureOpt (X (aa.int .i64 0)) ch s u s' g;exact aw7 _ _ _ ch s u s' g;rename_i t x;simp only[an]at g;obtain⟨d,H,F,A,g⟩:=g
 have:=aw5 (P:=P) (mk:=mk) t x ch s u s' (by grind)
 simp_all
 exact cD.pureOpt _ ch s u s' g;exact cD.pureOpt _ ch s u s' g;cases g
theorem axp(t:TypeId)(a v:aa)(loc:Loc):bF mk (λ_ s=>(t0 P mk t a v loc s).bind λr=>X (ju,r.1,r.2)):=by
 intro ch s u N s' h;simp only[an]at h;obtain⟨⟨M,H⟩,d,h⟩:=h;simp only[aR,bu]at h;obtain⟨rfl,rfl,rfl⟩:=h;simp only[t0,an]at d;obtain⟨n,A,d⟩:=d;replace d:=bf d;obtain⟨F,d⟩:=d;split at d;simp only[an]at d;obtain⟨cs,D,cs',z,d⟩:=d;simp only[aR,bu]at d;obtain⟨rfl,rfl⟩:=d;exact⟨.refl mk _,λq s2 _ x=>⟨s2,by grind [t0],.refl x⟩⟩;simp only[an]at d;obtain⟨K,g,d⟩:=d;split at d;simp only[an]at d;obtain⟨cs',z,d⟩:=d;simp only[aR,bu]at d;obtain⟨rfl,rfl⟩:=d;exact⟨.put g _,λq s2 _ x=>⟨_,by simp only[t0,A,aH,F,cT,x.look g,z],.put x g _⟩⟩;cases d;cases d
theorem aw1(h:Nat)(dst:il)(cs:az)(loc:Loc):bF mk (λ_ s=>rh h dst cs loc s):=by
 intro ch s u z s' d;unfold rh at d⊢;replace d:=fP d;rcases d with⟨q,d⟩|⟨q,d⟩
 simp only[an]at d;obtain⟨t,A,d⟩:=d;simp only[aR,bu]at d;obtain⟨rfl,rfl,rfl⟩:=d;exact⟨.refl mk _,λg s2 _ x=>⟨s2,by grind,.refl x⟩⟩;simp only[aR,bu]at d;obtain⟨rfl,rfl,rfl⟩:=d;exact⟨.new mk s _,λg s2 _ x=>⟨_,by simp only[q,cF,x.aL],.new x _⟩⟩
def acn(hint:tB)(dst:il)(c:Call)(fr:Fr):bF mk (λ_ s=>vB P mk hint dst c fr s):=by
 unfold vB;split<;>simp_all [bF.bind,bF.vs,aw3,bF.none]
def awZ(kmax:cE)(hint:tB)(dst:il)(op:Op)(fr:Fr):bF mk (λch s=>ll P mk ch kmax hint dst op fr s):=by
 cases op<;>simp only[ll]<;>first
  |exact bF.none
  |exact bF.const _ _
  |exact bF.bind _ λz _=>aw1 _ _ _ _
  |exact bF.vs (aw2 _ _ _ _ _) _
  |exact bF.vs (axc _ _ _) _
  |exact bF.bind _ λa _=>bF.ro (aeN _ _ _) _
  |exact bF.bind _ λa _=>bF.bind _ λx _=>axp _ _ _ _
  |exact bF.bind _ λa _=>bF.const _ _
  |exact bF.bind _ λa _=>bF.bind _ λb _=>bF.const _ _
  |exact bF.bind _ λa _=>bF.bind _ λb _=>bF.vs (axd _ _ _ _) _
  |exact bF.bind _ λa _=>bF.ro (aCJ _ _ _ _ _ _) _
  |exact bF.bind _ λa _=>bF.bind _ λb _=>bF.ro (aCI _ _ _ _) _
  |exact bF.bind _ λa _=>bF.bind _ λb _=>bF.bind _ λc _=>axq _ _ _ _ _
  |exact bF.bind _ λa _=>bF.bind _ λb _=>bF.vs (axe _ _ _) _
  |exact bF.bind _ λa _=>bF.bind _ λb _=>bF.bind _ λc _=>aw9 _ _ _ _
  |simp_all [bF.bind,bF.vs,axj]
  |simp_all [bF.bind,bF.vs,acm]
  |exact bF.bind _ λa _=>bF.ro (aCG _) _
  |exact acn _ _ _ _
end
